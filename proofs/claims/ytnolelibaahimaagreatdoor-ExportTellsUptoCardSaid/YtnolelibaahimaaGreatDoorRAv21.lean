/- Parts. -/
import Derived.Test.YtnolelibaahimaaGreatDoorRAv15
import Derived.Orders
set_option linter.unusedSimpArgs false
set_option linter.unusedVariables false
set_option linter.unusedSectionVars false
set_option linter.unnecessarySimpa false
set_option maxRecDepth 100000
set_option maxHeartbeats 16000000
namespace Go.Av
open Go.RowKit
inductive Clo (n:Nat):AVal→Prop
 |int (k:IntKind) (m:Int):Clo n (.int k m)
 |bool (b:Bool):Clo n (.bool b)
 |str (s:List UInt8):Clo n (.str s)
 |nil (v:Value):Clo n (.nil v)
 |agg (cs:List AVal):(∀c∈cs,Clo n c)→Clo n (.agg cs)
 |tup (cs:List AVal):(∀c∈cs,Clo n c)→Clo n (.tup cs)
 |sl (m:Nat) (es:List AVal):(∀e∈es,Clo n e)→Clo n (.sl m es)
 |ad (cs:List AVal):(∀c∈cs,Clo n c)→Clo n (.ad cs)
 |hp (p v i o:Nat):p<n→Clo n (.hp p v i o)
 |hs (p v o l:Nat) (r:Bool):p<n→Clo n (.hs p v o l r)
 |fn (f:Fn) (xs cs:List AVal):(∀c∈xs,Clo n c)→(∀c∈cs,Clo n c)→Clo n (.fn f xs cs)
 |ifc (t:TypeId) (x:AVal):Clo n x→Clo n (.ifc t x)
 |pa:Clo n .pa
 |ez:Clo n .ez
 |hm (p:Nat):p<n→Clo n (.hm p)
theorem Clo.cells{n:Nat}{x:AVal}(h:Clo n x):∀c∈x.cells,Clo n c:=by
 cases h with
 |agg cs h=>exact h
 |int k m=>intro c hc;simp[AVal.cells]at hc;subst hc;exact .int k m
 |bool b=>intro c hc;simp[AVal.cells]at hc;subst hc;exact .bool b
 |str s=>intro c hc;simp[AVal.cells]at hc;subst hc;exact .str s
 |nil v=>intro c hc;simp[AVal.cells]at hc;subst hc;exact .nil v
 |tup cs h=>intro c hc;simp[AVal.cells]at hc;subst hc;exact .tup cs h
 |sl m es h=>intro c hc;simp[AVal.cells]at hc;subst hc;exact .sl m es h
 |ad cs h=>intro c hc;simp[AVal.cells]at hc;subst hc;exact .ad cs h
 |hp p v i o h=>intro c hc;simp[AVal.cells]at hc;subst hc;exact .hp p v i o h
 |hs p v o l r h=>intro c hc;simp[AVal.cells]at hc;subst hc;exact .hs p v o l r h
 |fn f xs cs h1 h2=>intro c hc;simp[AVal.cells]at hc;subst hc;exact .fn f xs cs h1 h2
 |ifc t x h=>intro c hc;simp[AVal.cells]at hc;subst hc;exact .ifc t x h
 |pa=>intro c hc;simp[AVal.cells]at hc;subst hc;exact .pa
 |ez=>intro c hc;simp[AVal.cells]at hc;subst hc;exact .ez
 |hm p h=>intro c hc;simp[AVal.cells]at hc;subst hc;exact .hm p h
theorem Clo.mono{n m:Nat}{x:AVal}(h:Clo n x)(hm:n≤m):Clo m x:=by
 induction h with
 |int k m=>exact .int k m
 |bool b=>exact .bool b
 |str s=>exact .str s
 |nil v=>exact .nil v
 |agg cs _ ih=>exact .agg cs ih
 |tup cs _ ih=>exact .tup cs ih
 |sl m es _ ih=>exact .sl m es ih
 |ad cs _ ih=>exact .ad cs ih
 |hp p v i o h=>exact .hp p v i o (by omega)
 |hs p v o l r h=>exact .hs p v o l r (by omega)
 |fn f xs cs _ _ i1 i2=>exact .fn f xs cs i1 i2
 |ifc t x _ ih=>exact .ifc t x ih
 |pa=>exact .pa
 |ez=>exact .ez
 |hm p h=>exact .hm p (by omega)
def CloB(n:Nat):Blk→Prop
 | .row _ _ _ rows=>∀r∈rows,Clo n r
 | .mp es _=>∀e∈es,Clo n e.1∧Clo n e.2.1
 | .mit q _ _ _=>q<n
 | .lp _ m t _ _ _ _ _=>∀i,i<m→Clo n (t i)
 |_=>True
inductive Frz (h:Heap) (n:Nat):AVal→AVal→Prop
 |clo (x:AVal):Clo n x→Frz h n x x
 |nils (m:Nat):Frz h n (.nil (.slice none 0 0)) (.sl m [])
 |ezs (m:Nat):Frz h n .ez (.sl m [])
 |hs (p ver off len:Nat) (room:Bool) (e:TypeId) (m:Nat) (rows es:List AVal):n≤p→getRow h p ver=some (e,m,rows)→off+len≤rows.length→
   es.length=rows.length→(∀(i:Nat) (r s:AVal),rows[i]? =some r→es[i]? =some s→Frz h n r s)→
   (∀(i:Nat) (r s:AVal),rows[i]? =some r→es[i]? =some s→r.cells.length=s.cells.length∧∀(j:Nat) (c d:AVal),r.cells[j]? =some c→s.cells[j]? =some d→d.sto=true)→
   (∀(i:Nat) (r s:AVal) (j:Nat) (c d:AVal),rows[i]? =some r→es[i]? =some s→r.cells[j]? =some c→s.cells[j]? =some d→Frz h n c d)→
   Frz h n (.hs p ver off len room) (.sl m ((es.drop off).take len))
 |agg (cs ds:List AVal):cs.length=ds.length→(∀d∈ds,d.sto=true)→(∀(i:Nat) (c d:AVal),cs[i]? =some c→ds[i]? =some d→Frz h n c d)→Frz h n (.agg cs) (.agg ds)
 |tup (cs ds:List AVal):cs.length=ds.length→(∀(i:Nat) (c d:AVal),cs[i]? =some c→ds[i]? =some d→Frz h n c d)→Frz h n (.tup cs) (.tup ds)
 |ifc (t:TypeId) (x y:AVal):Frz h n x y→Frz h n (.ifc t x) (.ifc t y)
 |sl (m:Nat) (es fs:List AVal):fs.length=es.length→(∀(i:Nat) (r s:AVal),es[i]? =some r→fs[i]? =some s→r.cells.length=s.cells.length∧∀(j:Nat) (d:AVal),s.cells[j]? =some d→d.sto=true)→
   (∀(i:Nat) (r s:AVal) (j:Nat) (c d:AVal),es[i]? =some r→fs[i]? =some s→r.cells[j]? =some c→s.cells[j]? =some d→Frz h n c d)→
   Frz h n (.sl m es) (.sl m fs)
section
variable {C:Ctx} {B n:Nat} {S:Addr→Prop} {μ:Map} {h:Heap} {w:World} {t:Env} {a:Act} {K:AVal→Heap→Prop}
theorem Clo.rep{x:AVal}{v:Value}{S':Addr→Prop}(c:Clo n x)(r:Rep w S μ x v)(hs:∀a,S a→S' a):Rep w S' (μ.take n) x v:=by
 induction r with
 |int k m=>exact .int k m
 |bool b=>exact .bool b
 |str s=>exact .str s
 |nil v hv=>exact .nil v hv
 |agg cs vs hl hst hr ih=>
  cases c with
  |agg _ hc=>exact .agg cs vs hl hst fun i x hx=>ih i x hx (hc x (M3 hx))
 |tup cs vs hl hr ih=>
  cases c with
  |tup _ hc=>exact .tup cs vs hl fun i x hx=>ih i x hx (hc x (M3 hx))
 |sl0 m a cap=>exact .sl0 m a cap
 |sl m es b o cap vs hne hcap hmx hl hc hr ih=>
  cases c with
  |sl _ _ hcl=>
   refine .sl m es b o cap vs hne hcap hmx hl (fun i e j c he hj=>?_) (fun i e j c he hj=>ih i e j c he hj ((hcl e (M3 he)).cells c (M3 hj)));obtain⟨h1,h2,h3⟩:=hc i e j c he hj;exact⟨hs _ h1,h2,h3⟩
 |ad cs b o vs hne hc hr ih=>
  cases c with
  |ad _ hcl=>
   refine .ad cs b o vs hne (fun j c hj=>?_) (fun j c hj=>ih j c hj (hcl c (M3 hj)));obtain⟨h1,h2,h3⟩:=hc j c hj;exact⟨hs _ h1,h2,h3⟩
 |hp p ver i off m v hm hv ha h1 hx=>
  cases c with
  |hp _ _ _ _ hlt=>exact .hp p ver i off m v (by rw[N1 hlt];exact hm) hv ha h1 hx
 |hs p ver off len room m v hm hv ha h1 hx=>
  cases c with
  |hs _ _ _ _ _ hlt=>exact .hs p ver off len room m v (by rw[N1 hlt];exact hm) hv ha h1 hx
 |fn f xs cs xv cv h1 h2 h3 h4 i3 i4=>
  cases c with
  |fn _ _ _ c1 c2=>exact .fn f xs cs xv cv h1 h2 (fun i x hx=>i3 i x hx (c1 x (M3 hx))) (fun i x hx=>i4 i x hx (c2 x (M3 hx)))
 |ifc T x v _ ih=>
  cases c with
  |ifc _ _ cx=>exact .ifc T x v (ih cx)
 |pa a=>exact .pa a
 |ez a=>exact .ez a
 |hm p m v hm ha h1 hx=>
  cases c with
  |hm _ hlt=>exact .hm p m v (by rw[N1 hlt];exact hm) ha h1 hx
theorem Rep.clo{x:AVal}{v:Value}(r:Rep w S μ x v):Clo μ.length x:=by
 induction r with
 |int k m=>exact .int k m
 |bool b=>exact .bool b
 |str s=>exact .str s
 |nil v hv=>exact .nil v
 |agg cs vs hl hst hr ih=>
  refine .agg cs fun c hc=>?_
  obtain⟨i,hi⟩:=Q5 hc;exact ih i c hi
 |tup cs vs hl hr ih=>
  refine .tup cs fun c hc=>?_
  obtain⟨i,hi⟩:=Q5 hc;exact ih i c hi
 |sl0 m a cap=>exact .sl m [] (by simp)
 |sl m es b o cap vs hne hcap hmx hl hc hr ih=>
  refine .sl m es fun e he=>?_
  obtain⟨i,hi⟩:=Q5 he;have hcells:∀c∈e.cells,Clo μ.length c:=by
   intro c hcm;obtain⟨j,hj⟩:=Q5 hcm;exact ih i e j c hi hj
  cases e with
  |agg cs=>exact .agg cs hcells
  |_=>exact hcells _ (by simp[AVal.cells])
 |ad cs b o vs hne hc hr ih=>
  refine .ad cs fun c hc=>?_
  obtain⟨i,hi⟩:=Q5 hc;exact ih i c hi
 |hp p ver i off m v hm hv ha h1 hx=>exact .hp _ _ _ _ (f9.1 hm).1
 |hs p ver off len room m v hm hv ha h1 hx=>exact .hs _ _ _ _ _ (f9.1 hm).1
 |fn f xs cs xv cv h1 h2 h3 h4 i3 i4=>
  refine .fn f xs cs (fun c hc=>?_) (fun c hc=>?_)
  ·obtain⟨i,hi⟩:=Q5 hc;exact i3 i c hi
  ·obtain⟨i,hi⟩:=Q5 hc;exact i4 i c hi
 |ifc T x v _ ih=>exact .ifc T x ih
 |pa a=>exact .pa
 |ez a=>exact .ez
 |hm p m v hm ha h1 hx=>exact .hm _ (f9.1 hm).1
def Let(S:Addr→Prop)(μ:Map)(w:World)(n:Nat):Addr→Prop:=fun a=>S a∨∃p m,n≤p∧μ[p]? =some m∧m.blk=some a.block∧(w.cell? a).isSome=true
theorem Frz.rep(f:Fits C B S μ h w){x y:AVal}{v:Value}(z:Frz h n x y)(r:Rep w S μ x v):Rep w (Let S μ w n) (μ.take n) y v:=by
 induction z generalizing v with
 |clo x hc=>exact hc.rep r fun a ha=>.inl ha
 |nils m=>cases r;exact .sl0 m none 0
 |ezs m=>
  generalize hq:AVal.ez=q at r;cases r with
  |ez a=>exact .sl0 m _ 0
  |_=>cases hq
 |hs p ver off len room e m rows es hp hg hlen hel _ hcells _ ihr ihc=>
  obtain⟨mb,hm,hf⟩:=f.row hg;have hms:=hf.hsize;rcases r.hs_now hm hf.hver with⟨hb,rfl,rfl,rfl⟩| ⟨b,hb,hcap,rfl⟩
  ·simpa using Rep.sl0 (w:=w) (S:=Let S μ w n) (μ:=μ.take n) m none 0
  ·by_cases hl0:len=0
   ·subst hl0;simpa using Rep.sl0 (w:=w) (S:=Let S μ w n) (μ:=μ.take n) m _ _
   ·obtain⟨cur,hheap,hcs,hle,hmax,fl⟩:=hf.flat hb;have hes:((es.drop off).take len).length=len:=(by simp;omega);have hget:∀(i:Nat) (s:AVal),((es.drop off).take len)[i]? =some s→es[off+i]? =some s∧∃q,rows[off+i]? =some q:=by
     intro i s hi;have hlt:=(f9.1 hi).1;rw[hes]at hlt;rw[N1 hlt,P4]at hi;exact⟨hi,rows[off+i]'(by omega),K6 _⟩
    have key:=Rep.sl (w:=w) (S:=Let S μ w n) (μ:=μ.take n) m ((es.drop off).take len) b (off*mb.size) (if room then mb.cap-off else len)
     (fun i j=>cur.getD (off*m+(i*m+j)) undef) (by intro e;rw[e]at hes;simp at hes;omega) (by rw[hes];split<;>omega) (by split<;>omega)
     (fun i s hi=>by
      obtain⟨h1,q,h2⟩:=hget i s hi;rw[← (hcells _ _ _ h2 h1).1];exact hf.lens _ _ h2)
     (fun i s j d hi hj=>by
      obtain⟨h1,q,h2⟩:=hget i s hi;obtain⟨h3,h4⟩:=hcells _ _ _ h2 h1;have hjl:=(f9.1 hj).1;have hc:=K6 (show j<q.cells.length by rw[h3];exact hjl);obtain⟨u,hu,_⟩:=fl.rep _ _ _ _ h2 hc;have hu:=aO hu;have e1:(off+i)*m+j=off*m+(i*m+j):=(by rw[R7];omega);rw[e1]at hu;have hu2:cur[off*m+(i*m+j)]? =some u:=(by simpa using hu);have hcell:w.cell? ⟨b,off*m+(i*m+j),none⟩=some u:=(by simp[World.cell?,hheap,hu2]);rw[hms];refine⟨.inr ⟨p,mb,hp,hm,hb,by rw[hcell];rfl⟩,?_,h4 _ _ _ hc hj⟩;rw[hcell];simp[P7,hu2])
     (fun i s j d hi hj=>by
      obtain⟨h1,q,h2⟩:=hget i s hi;obtain⟨h3,h4⟩:=hcells _ _ _ h2 h1;have hjl:=(f9.1 hj).1;have hc:=K6 (show j<q.cells.length by rw[h3];exact hjl);obtain⟨u,hu,hrep⟩:=fl.rep _ _ _ _ h2 hc;have hu:=aO hu;have e1:(off+i)*m+j=off*m+(i*m+j):=(by rw[R7];omega);rw[e1]at hu;have hu2:cur[off*m+(i*m+j)]? =some u:=(by simpa using hu);have:=ihc _ _ _ _ _ _ h2 h1 hc hj hrep;simpa [P7,hu2]using this)
    rw[hes]at key;exact key
 |agg cs ds hl hst _ ih=>
  obtain⟨vs,rfl,hvl,_,hr⟩:=r.agg_inv;refine .agg ds vs (by omega) (fun i d hd=>hst d (M3 hd)) (fun i d hd=>?_);have hlt:=(f9.1 hd).1;have hc:=K6 (show i<cs.length by omega);exact ih i _ d hc hd (hr i _ hc)
 |tup cs ds hl _ ih=>
  obtain⟨vs,rfl,hvl,hr⟩:=r.tup_inv;refine .tup ds vs (by omega) (fun i d hd=>?_);have hlt:=(f9.1 hd).1;have hc:=K6 (show i<cs.length by omega);exact ih i _ d hc hd (hr i _ hc)
 |ifc T x y _ ih=>
  cases r with
  |ifc _ _ u hu=>exact .ifc T y u (ih hu)
 |sl m es fs hl hcells _ ih=>
  cases r with
  |sl0 _ a cap=>
   obtain rfl:fs=[]:=R2 (by simpa using hl);exact .sl0 m a cap
  |sl _ _ b o cap vs hne hcap hmx hlen hc hr=>
   rw[← hl];have old:∀(i:Nat) (s:AVal),fs[i]? =some s→∃r,es[i]? =some r:=fun i s hi=>by
    have:=(f9.1 hi).1;exact⟨_,K6 (show i<es.length by omega)⟩
   refine .sl m fs b o cap vs (fun e=>hne (R2 (by rw[← hl,e];rfl))) (by omega) hmx (fun i s hi=>?_) (fun i s j d hi hj=>?_) (fun i s j d hi hj=>?_)
   ·obtain⟨q,hq⟩:=old i s hi;rw[← (hcells i q s hq hi).1];exact hlen i q hq
   ·obtain⟨q,hq⟩:=old i s hi;obtain⟨h3,h4⟩:=hcells i q s hq hi;have hjl:=(f9.1 hj).1;have hcj:=K6 (show j<q.cells.length by omega);obtain⟨a1,a2,_⟩:=hc i q j _ hq hcj;exact⟨.inl a1,a2,h4 j d hj⟩
   ·obtain⟨q,hq⟩:=old i s hi;obtain⟨h3,h4⟩:=hcells i q s hq hi;have hjl:=(f9.1 hj).1;have hcj:=K6 (show j<q.cells.length by omega);exact ih i q s j _ d hq hi hcj hj (hr i q j _ hq hcj)
end
def resA1(C:Ctx)(t:Env)(h:Heap):ResultVar→Option AVal
 | .tmp i=>some (t i)
 | .cell a T=>match t a with
  | .ad cs=>pickT C.P T cs
  | .hp p ver i off=>match getRow h p ver with
   |some (_,_,rows)=>match rows[i]? with
    |some r=>pickT C.P T (r.cells.drop off)
    |none=>none
   |none=>none
  |_=>none
def resL(C:Ctx)(t:Env)(h:Heap):List ResultVar→Option (List AVal)
 | []=>some []
 |r::rest=>match resA1 C t h r with
  |some x=>match resL C t h rest with
   |some xs=>some (x::xs)
   |none=>none
  |none=>none
def resA(C:Ctx)(t:Env)(h:Heap)(l:List ResultVar):Option AVal:=
 match resL C t h l with
 |some [x]=>some x
 |some xs=>some (.tup xs)
 |none=>none
def okRes(n:Nat):ResultVar→Bool
 | .tmp i=>decide (i<n)
 | .cell a _=>decide (a<n)
def Fin(h0 h1:Heap)(R:AVal→Heap→Prop)(r0:AVal):Prop:=
 ∃n r,h0.length≤n∧Frz h1 n r0 r∧(h1.length≤n∨∀(p:Nat) (k:Blk),p<n→h1[p]? =some k→(p<h0.length∧h0[p]? =some k)∨CloB n k)∧R r (h1.take n)
def env0(args:List AVal):Env:=fun i=>args.getD i undefA
def resSem(tmps:Array Value):ResultVar→Sem Value
 | .tmp i=>pure (tmps.getD i undef)
 | .cell i T=>do loadVar T (← asAddr (tmps.getD i undef))
theorem rk(fn:Func)(tmps:Array Value):results fn tmps=(do
  let vs ← fn.results.mapM (resSem tmps)
  pure (if h:vs.size=1 then vs[0]else .tuple vs)):=by
 unfold results;congr 2
section
variable {C:Ctx} {B n:Nat} {S:Addr→Prop} {μ:Map} {h:Heap} {w:World} {t:Env} {a:Act} {ds:List Deferred} {K:AVal→Heap→Prop}
theorem tt(f:Fits C B S μ h w)(r:REnv n w S μ t a ds){v:ResultVar}(ho:okRes n v=true){x:AVal}(g:resA1 C t h v=some x):
  ∃u,(resSem a.tmps v).run C.P w=.ok u w∧Rep w S μ x u:=by
 cases v with
 |tmp i=>
  simp only[resA1,N2]at g;subst g;exact⟨_,rfl,r.2.2 i (by simpa [okRes]using ho)⟩
 |cell i T=>
  have hx:=r.2.2 i (by simpa [okRes]using ho);simp only[resA1]at g;split at g
  ·rename_i cs hq;rw[hq]at hx;generalize hv:a.tmps.getD i undef=v at hx;obtain⟨u,hu,hz⟩:=q9 hx g;refine⟨u,?_,hz⟩;cases hx;simp only[Instr.loadAt,Instr.sureAddr,M6,N9,M2]at hu;simp only[resSem,hv,asAddr,M6,N9,M2,hu]
  ·rename_i p ver j off hq;rw[hq]at hx;generalize hv:a.tmps.getD i undef=v at hx;split at g
   ·rename_i e m rows hg;split at g
    ·rename_i row hrow;obtain⟨u,hu,hz⟩:=pZ f hx hg hrow g;refine⟨u,?_,hz⟩;obtain⟨mb,hm,hf⟩:=f.row hg;obtain⟨b,hb,rfl⟩:=hx.hp_now hm hf.hver;simp only[Instr.loadAt,Instr.sureAddr,M6,N9,M2]at hu;simp only[resSem,hv,asAddr,M6,N9,M2,hu]
    ·cases g
   ·cases g
  ·cases g
theorem ns(f:Fits C B S μ h w)(r:REnv n w S μ t a ds):∀(l:List ResultVar),(∀v∈l,okRes n v=true)→∀{xs:List AVal},resL C t h l=some xs→
  ∃us,(l.mapM (resSem a.tmps)).run C.P w=.ok us w∧RepL w S μ xs us
 | [],_,xs,g=>by
  simp only[resL,N2]at g;subst g;exact⟨[],rfl,rfl,by simp⟩
 |v::rest,ho,xs,g=>by
  simp only[resL]at g;split at g
  ·rename_i x hx;split at g
   ·rename_i ys hys;cases g;obtain⟨u,hu,hr⟩:=tt f r (ho v (by simp)) hx;obtain⟨us,hus,hrs⟩:=ns f r rest (fun q hq=>ho q (by simp[hq])) hys;refine⟨u::us,?_,by simp[hrs.1],fun i c hi=>?_⟩
    ·simp only[List.mapM_cons,M6,hu,hus,M2,N9]
    ·match i with
     |0=>simp at hi;subst hi;simpa using hr
     |i+1=>simp at hi;simpa using hrs.2 i c hi
   ·cases g
  ·cases g
theorem nt(f:Fits C B S μ h w)(r:REnv n w S μ t a ds){fn:Func}(ho:∀v∈fn.results.toList,okRes n v=true){x:AVal}(g:resA C t h fn.results.toList=some x):
  ∃u,(results fn a.tmps).run C.P w=.ok u w∧Rep w S μ x u:=by
 have key:∀xs us,resL C t h fn.results.toList=some xs→(fn.results.mapM (resSem a.tmps)).run C.P w=.ok us w→RepL w S μ xs us.toList→
   ∃u,(results fn a.tmps).run C.P w=.ok u w∧Rep w S μ x u:=by
  intro xs us h1 h2 h3;unfold resA at g;rw[h1]at g;simp only[rk,M6,h2,M2,N9];obtain⟨us⟩:=us;by_cases hl:us.length=1
  ·obtain⟨u,rfl⟩:=List.length_eq_one_iff.1 hl;obtain⟨y,rfl⟩:=List.length_eq_one_iff.1 (show xs.length=1 by have:=h3.1;simp at this;omega);simp only[N2]at g;subst g;exact⟨u,by simp,by simpa using h3.2 0 y rfl⟩
  ·have hne:xs.length≠1:=(by have:=h3.1;simp at this;omega);have hx:x=.tup xs:=by
    match xs,hne with
    | [],_=>simpa using g.symm
    |y::z::rest,_=>simpa using g.symm
   subst hx;refine⟨.tuple us.toArray,by simp[hl],.tup _ us h3.1 h3.2⟩
 cases hl:resL C t h fn.results.toList with
 |none=>unfold resA at g;rw[hl]at g;cases g
 |some xs=>
  obtain⟨us,h1,h2⟩:=ns f r fn.results.toList ho hl;refine key xs us.toArray hl ?_ (by simpa using h2);have e:fn.results=fn.results.toList.toArray:=by simp
  rw[e,List.mapM_toArray];simp only[Sem.run_map,h1,M2]
theorem Fits.cut{S0:Addr→Prop}{μ0:Map}{h0:Heap}{w0:World}(f0:Fits C B S0 μ0 h0 w0)(st:Step B S0 μ0 w0 S μ w)(f:Fits C B S μ h w)(hn:h0.length≤n)
  (hk:∀(p:Nat) (k:Blk),p<n→h[p]? =some k→(p<h0.length∧h0[p]? =some k)∨CloB n k):
  Fits C B (Let S μ w n) (μ.take n) (h.take n) w∧Step B S0 μ0 w0 (Let S μ w n) (μ.take n) w:=by
 have hle0:μ0.length≤n:=by rw[f0.len];exact hn
 have map':MapLe μ0 (μ.take n):=by
  intro p m hm;have hp:=(f9.1 hm).1;obtain⟨m',h1,h2,h3⟩:=st.map p m hm;exact⟨m',by rw[N1 (by omega)];exact h1,h2,h3⟩
 have st':Step B S0 μ0 w0 (Let S μ w n) (μ.take n) w:=⟨fun a ha=>.inl (st.sub a ha),st.keep,st.below,map',
  fun a ha=>by
   rcases ha with ha| ⟨q,m',hq,hm',hb,_⟩
   ·exact st.new a ha
   ·exact .inr (f.own q m' _ hm' hb).1⟩
 refine⟨⟨fun g cs hg=>(f0.glob g cs hg).mono st',by simp[f.len],?_,?_,f.base,?_,?_⟩,st'⟩
 ·intro p q m m' b h1 h2 e1 e2;exact f.sep p q m m' b (aO h1) (aO h2) e1 e2
 ·intro p m b h1 e1;have hp:p<n:=by have:=(f9.1 h1).1;rw[O3]at this;omega
  obtain⟨a1,a2,a3⟩:=f.own p m b (aO h1) e1;refine⟨a1,a2,fun a ha=>?_⟩;rcases ha with ha| ⟨q,m',hq,hm',hb,_⟩
  ·exact a3 a ha
  ·intro e;have:=f.sep p q m m' b (aO h1) hm' e1 (by rw[hb,e]);omega
 ·intro a ha;rcases ha with ha| ⟨q,m',hq,hm',hb,_⟩
  ·exact f.lie a ha
  ·exact(f.own q m' _ hm' hb).2.1
 ·intro p m k h1 h2;have hp:p<n:=by have:=(f9.1 h1).1;rw[O3]at this;omega
  have h1:=aO h1;have h2:=aO h2;have hb:=f.blk p m k h1 h2;cases k with
  |iter s pos=>exact hb
  |dead=>trivial
  |df=>exact hb
  |lp l m t ps ass body s pe=>
   obtain⟨g0,g1,fn,D,tmps,g2,g3,g4⟩:=hb;refine⟨g0,g1,fn,D,tmps,g2,g3,fun i hi=>?_⟩;rcases hk p _ hp h2 with⟨hlt,hold⟩|hclo
   ·have hm0:p<μ0.length:=(by rw[f0.len];exact hlt);obtain⟨_,_,_,_,_,_,_,k4⟩:=f0.blk p _ _ (K6 hm0) hold;exact((k4 i hi).clo.mono hle0).rep (g4 i hi) fun a ha=>.inl ha
   ·exact(hclo i hi).rep (g4 i hi) fun a ha=>.inl ha
  |mp es clock=>
   obtain⟨g0,b,cur,g1,g2,g3,g4⟩:=hb;refine⟨g0,b,cur,g1,g2,g3,fun i e he=>?_⟩;obtain⟨x,hx,r1,r2,r3⟩:=g4 i e he;rcases hk p _ hp h2 with⟨hlt,hold⟩|hclo
   ·have hm0:p<μ0.length:=(by rw[f0.len];exact hlt);obtain⟨_,_,_,_,_,_,k4⟩:=f0.blk p _ _ (K6 hm0) hold;obtain⟨_,_,s1,s2,_⟩:=k4 i e he;exact⟨x,hx,(s1.clo.mono hle0).rep r1 fun a ha=>.inl ha,(s2.clo.mono hle0).rep r2 fun a ha=>.inl ha,r3⟩
   ·have hc:=hclo e (M3 he);exact⟨x,hx,hc.1.rep r1 fun a ha=>.inl ha,hc.2.rep r2 fun a ha=>.inl ha,r3⟩
  |mit q since seen last=>
   obtain⟨g0,b,r,g1,g2,g3⟩:=hb;refine⟨g0,b,r,g1,?_,g3⟩;rcases hk p _ hp h2 with⟨hlt,hold⟩|hclo
   ·have hm0:p<μ0.length:=(by rw[f0.len];exact hlt);obtain⟨_,_,_,_,s2,_⟩:=f0.blk p _ _ (K6 hm0) hold;exact(s2.clo.mono hle0).rep g2 fun a ha=>.inl ha
   ·exact(Clo.hm q hclo).rep g2 fun a ha=>.inl ha
  |row e sz ver rows=>
   refine⟨hb.hver,hb.hsize,hb.pos,hb.lens,hb.sto,?_⟩;rcases hb.lies with hl| ⟨b,cur,g1,g2,g3,g4,g5,g6⟩
   ·exact .inl hl
   ·refine .inr ⟨b,cur,g1,g2,g3,g4,g5,fun i r j c hi hj=>?_⟩;obtain⟨x,hx,hr⟩:=g6 i r j c hi hj;rcases hk p _ hp h2 with⟨hlt,hold⟩|hclo
    ·
     have hm0:p<μ0.length:=(by rw[f0.len];exact hlt);have hb0:RowFits w0 S0 μ0 _ e sz ver rows:=f0.blk p _ _ (K6 hm0) hold;rcases hb0.lies with⟨_,he⟩| ⟨_,_,_,_,_,_,_,k6⟩
     ·subst he;simp at hi
     ·obtain⟨x0,_,hr0⟩:=k6 i r j c hi hj;exact⟨x,hx,(hr0.clo.mono hle0).rep hr fun a ha=>.inl ha⟩
    ·exact⟨x,hx,((hclo r (M3 hi)).cells c (M3 hj)).rep hr fun a ha=>.inl ha⟩
theorem vf{args:List AVal}{vs:List Value}(rl:RepL w S μ args vs)(hlen:args.length≤n):
  REnv n w S μ (env0 args) {tmps:=vs.toArray++Array.replicate (n-vs.toArray.size) undef,defers:=[]}:=by
 have hlv:vs.length≤n:=by rw[rl.1];exact hlen
 refine⟨by simp;omega,rfl,fun i hi=>?_⟩;unfold env0;by_cases hlt:i<args.length
 ·have hx:=K6 hlt;have:=rl.2 i _ hx;have hv:i<vs.length:=by rw[rl.1];exact hlt
  have e1:args.getD i undefA=args[i]:=by simp[List.getD,hx]
  have e2:(vs.toArray++Array.replicate (n-vs.toArray.size) undef).getD i undef=vs.getD i undef:=by
   simp[P7,Array.getElem?_append,hv,List.getD]
  rw[e1];simp only[e2];exact this
 ·have e1:args.getD i undefA=undefA:=by simp[List.getD,P5 (show args.length≤i by omega)]
  have hv:¬i<vs.length:=by rw[rl.1];exact hlt
  have e2:(vs.toArray++Array.replicate (n-vs.toArray.size) undef).getD i undef=undef:=by
   simp[P7,Array.getElem?_append,hv,Array.getElem?_replicate];split<;>rfl
  rw[e1];simp only[e2];exact eR _ _ _
theorem Fin.post{h':Heap}{S':Addr→Prop}{μ':Map}{w':World}{R:AVal→Heap→Prop}{r0:AVal}{v:Value}(fit:Fits C B S μ h w)(st:Step B S μ w S' μ' w')(fit':Fits C B S' μ' h' w')(hF:Fin h h' R r0)(hrep:Rep w' S' μ' r0 v):
  OpPost C B S μ w R v w':=by
 obtain⟨n,r,hn,hz,hk,hR⟩:=hF;rcases hk with hk|hk
 ·have e1:h'.take n=h':=M4 hk;have e2:μ'.take n=μ':=M4 (by rw[fit'.len];exact hk);have e3:Let S' μ' w' n=S':=by
   funext a
   apply propext
   constructor
   ·rintro(h| ⟨p,m,hp,hm,_⟩)
    ·exact h
    ·have:=(f9.1 hm).1;rw[fit'.len]at this;omega
   ·exact .inl
  have z:=hz.rep fit' hrep;rw[e2,e3]at z;rw[e1]at hR;exact⟨r,_,_,_,hR,st,fit',z⟩
 ·obtain⟨fc,sc⟩:=Fits.cut fit st fit' hn hk;exact⟨r,_,_,_,hR,sc,fc,hz.rep fit' hrep⟩
theorem Sat.of_body{f:FuncId}{fn:Func}{c:Code}{args:List AVal}{R:AVal→Heap→Prop}(hf:C.P.funcs[f]? =some fn)(hb:fn.body=some c)(hname:(fn.name== "runtime.NumGoroutine")=false)
  (hok:okCode fn.ntmps c=true)(hres:fn.results.toList.all (okRes fn.ntmps)=true)(hlen:args.length≤fn.ntmps)
  (hw:WP C c (fun e t' h'=>match e with
   | .normal=>need (resA C t' h' fn.results.toList) (Fin h h' R)
   | .ret=>need (resA C t' h' fn.results.toList) (Fin h h' R)
   |_=>False) (env0 args) h):Sat C f args h R:=by
 intro B S μ w vs fit rl;have hcall:(callFunc f vs.toArray).run C.P w=.ok (.enter f vs.toArray) w:=by
  have hne:fn.name≠ "runtime.NumGoroutine" :=by simpa using hname
  simp[callFunc,hf,hne,hb]
 rw[hcall];show Calls C.P f vs.toArray w _;refine calls_of_wp hf hb ?_;have hres':=O4.1 hres;refine wp_mono (nr (B:=B) (n:=fn.ntmps) (ds:=[]) c hok (Step.refl B S μ w) fit (vf rl hlen) hw) fun e a' w' hp=>?_
 obtain⟨t',h',S',μ',hq,st,fit',renv'⟩:=hp;have fin:need (resA C t' h' fn.results.toList) (Fin h h' R)→a'.defers=[]∧∃v,(results fn a'.tmps).run C.P w'=.ok v w'∧
   ∃u,Ending.returned v=Ending.returned u∧OpPost C B S μ w R u w':=by
  intro hq;obtain⟨r0,hr0,hF⟩:=ae hq;obtain⟨v,hv,hrep⟩:=nt fit' renv' hres' hr0;exact⟨renv'.2.1,v,hv,v,rfl,hF.post fit st fit' hrep⟩
 cases e with
 |normal=>exact fin hq
 |ret=>exact fin hq
 |_=>exact hq.elim
end
section
variable {C:Ctx} {ops:Array Oper} {Q:Exit→Env→Heap→Prop} {rest:List Oper} {t:Env} {h:Heap} {ty:TypeId} {pos:String} {aft:Array Edge} {dst:Option Tmp}
@[congr] theorem AY{α:Type}{x x':Option α}{f:α→Prop}(e:x=x'):need x f=need x' f:=by rw[e]
@[go_sem] theorem ba{α:Type}(a:α)(f:α→Prop):need (some a) f=f a:=(rfl)
@[congr] theorem Cu{f:FuncId}{args args':List AVal}{h h':Heap}{R:AVal→Heap→Prop}(e:args=args')(e':h=h'):Sat C f args h R=Sat C f args' h' R:=by rw[e,e']
@[go_sem] theorem G6(G:Nat→Option (List AVal))(i:Tmp):aev G t (.tmp i)=t i:=(rfl)
@[go_sem] theorem Ee(G:Nat→Option (List AVal))(f:FuncId):aev G t (.func f)=.fn (.func f) [] []:=(rfl)
@[go_sem] theorem G7(G:Nat→Option (List AVal))(k:IntKind)(i:Int):aev G t (.const (.int k i))=.int k i:=(rfl)
@[go_sem] theorem Ef(G:Nat→Option (List AVal))(b:Bool):aev G t (.const (.bool b))=.bool b:=(rfl)
@[go_sem] theorem G8(G:Nat→Option (List AVal))(l:List UInt8):aev G t (.const (.string ⟨⟨l⟩⟩))=.str l:=(rfl)
@[go_sem] theorem Cv(G:Nat→Option (List AVal))(a:Option Addr)(n c:Nat):aev G t (.const (.slice a n c))=.nil (.slice a n c):=(rfl)
@[go_sem] theorem G9(G:Nat→Option (List AVal))(a:Option Addr):aev G t (.const (.pointer a))=.nil (.pointer a):=(rfl)
@[go_sem] theorem Cw(G:Nat→Option (List AVal)):aev G t (.const .nilIface)=.nil .nilIface:=(rfl)
@[go_sem] theorem Cx(G:Nat→Option (List AVal)):aev G t (.const .nilFunc)=.nil .nilFunc:=(rfl)
@[go_sem] theorem Ga(t:Env)(d:Nat)(v:AVal)(i:Nat):upd t d v i=if i=d then v else t i:=(rfl)
@[go_sem] theorem Eg(t:Env)(d:Nat)(v:AVal):put t (some d) v=upd t d v:=(rfl)
@[go_sem] theorem Eh(t:Env)(v:AVal):put t none v=t:=(rfl)
@[go_sem] theorem Gb:WPl C ops Q [] t h=Q .normal t h:=(rfl)
@[go_sem] theorem Ei(x:Operand):WPl C ops Q (⟨dst,.move x,ty,pos,aft,none⟩::rest) t h=WPl C ops Q rest (put t dst (aev C.G t x)) h:=(rfl)
@[go_sem] theorem AZ(x:Operand):WPl C ops Q (⟨dst,.assign x,ty,pos,aft,none⟩::rest) t h=WPl C ops Q rest (put t dst (aev C.G t x)) h:=(rfl)
def pickK(c:AVal)(a b:AVal)(k:AVal→Prop):Prop:=match c with| .bool q=>(q=true→k a)∧(q=false→k b)|_=>False
@[congr] theorem Ap{c c' a a' b b':AVal}{k:AVal→Prop}(e1:c=c')(e2:a=a')(e3:b=b'):pickK c a b k=pickK c' a' b' k:=by rw[e1,e2,e3]
@[go_sem] theorem Ej(c x y:Operand):WPl C ops Q (⟨dst,.pick c x y,ty,pos,aft,none⟩::rest) t h=pickK (aev C.G t c) (aev C.G t x) (aev C.G t y) (fun v=>WPl C ops Q rest (put t dst v) h):=(rfl)
@[go_sem] theorem Cy(e:TypeId):WPl C ops Q (⟨dst,.alloc e,ty,pos,aft,none⟩::rest) t h=
  need (zroT C.P e) fun z=>0<z.cells.length∧z.cells.all AVal.sto=true∧z.lies=true∧WPl C ops Q rest (put t dst (.hp h.length 0 0 0)) (h++[.row e z.cells.length 0 [z]]):=(rfl)
def boxK(e:TypeId)(x:AVal)(h:Heap)(k:Heap→Prop):Prop:=0<x.cells.length∧x.lies=true∧k (h++[.row e x.cells.length 0 [x]])
@[congr] theorem B0{e:TypeId}{x x':AVal}{h h':Heap}{k:Heap→Prop}(e1:x=x')(e2:h=h'):boxK e x h k=boxK e x' h' k:=by rw[e1,e2]
@[go_sem] theorem vg(e:TypeId)(cs:List AVal)(h:Heap)(k:Heap→Prop):boxK e (.agg cs) h k=(0<cs.length∧k (h++[.row e cs.length 0 [.agg cs]])):=by simp[boxK,AVal.cells,AVal.lies]
@[go_sem] theorem Gc(e:TypeId)(p v i o:Nat)(h:Heap)(k:Heap→Prop):boxK e (.hp p v i o) h k=k (h++[.row e 1 0 [.hp p v i o]]):=by simp[boxK,AVal.cells,AVal.lies,AVal.sto]
@[go_sem] theorem Gd(e:TypeId)(x:Operand):WPl C ops Q (⟨dst,.box e x,ty,pos,aft,none⟩::rest) t h=boxK e (aev C.G t x) h (fun h'=>WPl C ops Q rest (put t dst (.hp h.length 0 0 0)) h'):=(rfl)
def loadK(C:Ctx)(T:TypeId)(x:AVal)(h:Heap)(k:AVal→Prop):Prop:=match x with
  | .ad cs=>need (pickT C.P T cs) k
  | .hp p ver i off=>need (getRow h p ver) fun q=>need (q.2.2[i]?) fun r=>need (pickT C.P T (r.cells.drop off)) k
  |_=>False
@[congr] theorem Aq{T:TypeId}{x x':AVal}{h h':Heap}{k:AVal→Prop}(e1:x=x')(e2:h=h'):loadK C T x h k=loadK C T x' h' k:=by rw[e1,e2]
@[go_sem] theorem Ek(T:TypeId)(cs:List AVal)(k:AVal→Prop):loadK C T (.ad cs) h k=need (pickT C.P T cs) k:=(rfl)
@[go_sem] theorem El(T:TypeId)(p ver i off:Nat)(k:AVal→Prop):loadK C T (.hp p ver i off) h k=need (getRow h p ver) fun q=>need (q.2.2[i]?) fun r=>need (pickT C.P T (r.cells.drop off)) k:=(rfl)
@[go_sem] theorem Em(T:TypeId)(x:Operand):WPl C ops Q (⟨dst,.load T x,ty,pos,aft,none⟩::rest) t h=loadK C T (aev C.G t x) h (fun v=>WPl C ops Q rest (put t dst v) h):=by
 simp only[WPl,wpOper,wpOp,loadK];generalize aev C.G t x=v;cases v<;>rfl
def storeK(C:Ctx)(T:TypeId)(x y:AVal)(h:Heap)(k:Heap→Prop):Prop:=match x with
  | .hp p ver i off=>need (getRow h p ver) fun q=>need (q.2.2[i]?) fun r=>
    szOf C.P T=some y.cells.length∧y.lies=true∧off+y.cells.length≤q.2.1∧k (h.set p (.row q.1 q.2.1 ver (q.2.2.set i (putA r off y.cells))))
  |_=>False
@[congr] theorem yI{T:TypeId}{x x' y y':AVal}{h h':Heap}{k:Heap→Prop}(e1:x=x')(e2:y=y')(e3:h=h'):storeK C T x y h k=storeK C T x' y' h' k:=by rw[e1,e2,e3]
@[go_sem] theorem Cz(T:TypeId)(p ver i off:Nat)(y:AVal)(k:Heap→Prop):storeK C T (.hp p ver i off) y h k=need (getRow h p ver) fun q=>need (q.2.2[i]?) fun r=>
    szOf C.P T=some y.cells.length∧y.lies=true∧off+y.cells.length≤q.2.1∧k (h.set p (.row q.1 q.2.1 ver (q.2.2.set i (putA r off y.cells)))):=(rfl)
@[go_sem] theorem CA(T:TypeId)(x y:Operand):WPl C ops Q (⟨dst,.store T x y,ty,pos,aft,none⟩::rest) t h=storeK C T (aev C.G t x) (aev C.G t y) h (fun h'=>WPl C ops Q rest (put t dst undefA) h'):=by
 simp only[WPl,wpOper,wpOp,storeK];generalize aev C.G t x=v;cases v<;>rfl
def nilK(x:AVal)(h:Heap)(k:Prop):Prop:=match x with
  | .hp p ver _ _=>(getRow h p ver).isSome∧k
  | .ad _=>k
  | .fn (.func _) _ _=>k
  | .ifc _ _=>k
  |_=>False
@[congr] theorem B1{x x':AVal}{h h':Heap}{k:Prop}(e1:x=x')(e2:h=h'):nilK x h k=nilK x' h' k:=by rw[e1,e2]
@[go_sem] theorem Ge(p v i o:Nat)(k:Prop):nilK (.hp p v i o) h k=((getRow h p v).isSome∧k):=(rfl)
@[go_sem] theorem yJ(x:Operand):WPl C ops Q (⟨dst,.nilCheck x,ty,pos,aft,none⟩::rest) t h=nilK (aev C.G t x) h (WPl C ops Q rest (put t dst (aev C.G t x)) h):=by
 simp only[WPl,wpOper,wpOp,nilK];generalize aev C.G t x=v;cases v<;>first|rfl| (rename_i f _ _;cases f<;>rfl)
@[congr] theorem B2{P:Program}{h h':Heap}{op:BinOp}{T:TypeId}{x x' y y':AVal}{k:AVal→Prop}(e1:x=x')(e2:y=y')(e3:h=h'):binK P h op T x y k=binK P h' op T x' y' k:=by rw[e1,e2,e3]
section
variable {P:Program} {op:BinOp} {T:TypeId} {k:AVal→Prop}
theorem cK{x y:AVal}(hn:∀n,x=.sl n []→y≠ .nil (.slice none 0 0)):binK P h op T x y k=need (abin P h op T x y) k:=by
 unfold binK;split
 ·exact absurd rfl (hn _ rfl)
 ·rfl
@[go_sem] theorem Eo(x:AVal)(kd:IntKind)(n:Int):binK P h op T x (.int kd n) k=need (abin P h op T x (.int kd n)) k:=cK (by simp)
@[go_sem] theorem CB(x:AVal)(b:Bool):binK P h op T x (.bool b) k=need (abin P h op T x (.bool b)) k:=cK (by simp)
@[go_sem] theorem Ep(x:AVal)(s:List UInt8):binK P h op T x (.str s) k=need (abin P h op T x (.str s)) k:=cK (by simp)
@[go_sem] theorem Er(x:AVal)(s:List AVal):binK P h op T x (.agg s) k=need (abin P h op T x (.agg s)) k:=cK (by simp)
@[go_sem] theorem Gf(x:AVal)(p v i o:Nat):binK P h op T x (.hp p v i o) k=need (abin P h op T x (.hp p v i o)) k:=cK (by simp)
@[go_sem] theorem nu(y:AVal)(p v i o:Nat):binK P h op T (.hp p v i o) y k=need (abin P h op T (.hp p v i o) y) k:=cK (by simp)
@[go_sem] theorem lR(y:AVal)(u:Value):binK P h op T (.nil u) y k=need (abin P h op T (.nil u) y) k:=cK (by simp)
@[go_sem] theorem B3(y:AVal)(n:Nat)(a:AVal)(l:List AVal):binK P h op T (.sl n (a::l)) y k=need (abin P h op T (.sl n (a::l)) y) k:=cK (by simp)
theorem jN(n:Nat)(he:(elmT P T).isSome=true)(hop:op=.eql∨op=.neq)(hk:∀b,k (.bool b)):binK P h op T (.sl n []) (.nil (.slice none 0 0)) k:=by
 unfold binK;simp only[L7 he];rcases hop with rfl|rfl<;>exact hk
end
@[go_sem] theorem CC(op:BinOp)(T T':TypeId)(x y:Operand):WPl C ops Q (⟨dst,.binOp op T x y T',ty,pos,aft,none⟩::rest) t h=
  binK C.P h op T (aev C.G t x) (aev C.G t y) fun v=>WPl C ops Q rest (put t dst v) h:=(rfl)
@[go_sem] theorem Es(op:UnOp)(T:TypeId)(x:Operand):WPl C ops Q (⟨dst,.unOp op T x,ty,pos,aft,none⟩::rest) t h=need (aun op (aev C.G t x)) fun v=>WPl C ops Q rest (put t dst v) h:=(rfl)
@[congr] theorem Ar{P:Program}{s d:TypeId}{x x':AVal}{h h':Heap}{k:AVal→Prop}(e1:x=x')(e2:h=h'):convK P s d x h k=convK P s d x' h' k:=by rw[e1,e2]
@[go_sem] theorem CD(P:Program)(s d:TypeId)(kd:IntKind)(n:Int)(h:Heap)(k:AVal→Prop):convK P s d (.int kd n) h k=need (aconv P s d (.int kd n)) k:=(rfl)
@[go_sem] theorem Et(P:Program)(s d:TypeId)(p v:Nat)(h:Heap)(k:AVal→Prop):convK P s d (.hp p v 0 0) h k=need (getRow h p v) fun q=>ptrConv P s d q.1 q.2.1=true∧q.2.2≠ []∧k (.hp p v 0 0):=(rfl)
@[go_sem] theorem Eu(P:Program)(s d:TypeId)(p v o l:Nat)(r:Bool)(h:Heap)(k:AVal→Prop):convK P s d (.hs p v o l r) h k=(bytesStr P s d=true∧need (elemsOf h 1 (.hs p v o l r)) fun ys=>need (bytesA ys) fun bs=>k (.str bs)):=(rfl)
@[go_sem] theorem As(s d:TypeId)(x:Operand):WPl C ops Q (⟨dst,.convert s d x,ty,pos,aft,none⟩::rest) t h=convK C.P s d (aev C.G t x) h fun v=>WPl C ops Q rest (put t dst v) h:=(rfl)
@[congr] theorem B4{p:Int→Int→Bool}{x x' y y':AVal}{k:AVal→Prop}(e1:x=x')(e2:y=y'):maxK p x y k=maxK p x' y' k:=by rw[e1,e2]
@[go_sem] theorem Ew(p:Int→Int→Bool)(kd kd':IntKind)(a b:Int)(k:AVal→Prop):maxK p (.int kd a) (.int kd' b) k=k (.int kd (if p a b=true then b else a)):=(rfl)
@[congr] theorem yK{x x':AVal}{h h':Heap}{k:AVal→Prop}(e1:x=x')(e2:h=h'):sdataK x h k=sdataK x' h' k:=by rw[e1,e2]
@[go_sem] theorem CE(p v len:Nat)(h:Heap)(k:AVal→Prop):sdataK (.hs p v 0 len true) h k=((getRow h p v).isSome=true∧if 0<len then k (.hp p v 0 0)else k .pa):=(rfl)
@[congr] theorem Au{P:Program}{T:TypeId}{x x' y y':AVal}{h h':Heap}{k:AVal→Heap→Prop}(e1:x=x')(e2:y=y')(e3:h=h'):ustrK P T x y h k=ustrK P T x' y' h' k:=by rw[e1,e2,e3]
@[go_sem] theorem Ex(P:Program)(T:TypeId)(h:Heap)(k:AVal→Heap→Prop):ustrK P T .pa (.int .i64 0) h k=k (.str []) h:=(rfl)
theorem nv{P:Program}{T:TypeId}{p v e:Nat}{m:Nat}{rows:List AVal}{bs:List UInt8}{h:Heap}{k:AVal→Heap→Prop}(hm:0<m)(hg:getRow h p v=some (e,1,rows))(hT:bptr P T e=true)(hl:m≤rows.length)
  (hb:bytesA (rows.take m)=some bs)(hk:k (.str bs) (h.set p .dead)):ustrK P T (.hp p v 0 0) (.int .i64 m) h k:=by
 have h0:¬((m:Int)=0):=by omega
 simp only[ustrK,K4 h0,hg,ba,true_and,Int.toNat_natCast,hb];exact⟨hT,by omega,hl,hk⟩
@[go_sem] theorem Ey(x y:Operand)(T T2:TypeId):WPl C ops Q (⟨dst,.call ⟨.builtin .unsafeString, #[x,y], #[T,T2]⟩,ty,pos,aft,none⟩::rest) t h=
  ustrK C.P T (aev C.G t x) (aev C.G t y) h fun v h'=>WPl C ops Q rest (put t dst v) h':=(rfl)
@[go_sem] theorem yL(f:Fn)(a b:Array Operand):WPl C ops Q (⟨dst,.makeFunc f a b,ty,pos,aft,none⟩::rest) t h=WPl C ops Q rest (put t dst (.fn f (a.toList.map (aev C.G t)) (b.toList.map (aev C.G t)))) h:=(rfl)
@[go_sem] theorem CF(T:TypeId)(x:Operand)(lo hi mx:Option Operand):WPl C ops Q (⟨dst,.slice T x lo hi mx,ty,pos,aft,none⟩::rest) t h=
  need (aslice C.P h T (aev C.G t x) (lo.map (aev C.G t)) (hi.map (aev C.G t)) (mx.map (aev C.G t))) fun v=>WPl C ops Q rest (put t dst v) h:=(rfl)
def fieldK(x:AVal)(o:Nat)(h:Heap)(k:AVal→Prop):Prop:=match x with
  | .hp p ver i off=>(getRow h p ver).isSome∧k (.hp p ver i (off+o))
  | .ad cs=>o<cs.length∧k (.ad (cs.drop o))
  |_=>False
@[congr] theorem yM{x x':AVal}{o:Nat}{h h':Heap}{k:AVal→Prop}(e1:x=x')(e2:h=h'):fieldK x o h k=fieldK x' o h' k:=by rw[e1,e2]
@[go_sem] theorem CG(p ver i off o:Nat)(k:AVal→Prop):fieldK (.hp p ver i off) o h k=((getRow h p ver).isSome∧k (.hp p ver i (off+o))):=(rfl)
@[go_sem] theorem CH(cs:List AVal)(o:Nat)(k:AVal→Prop):fieldK (.ad cs) o h k=(o<cs.length∧k (.ad (cs.drop o))):=(rfl)
@[go_sem] theorem yA(T:TypeId)(x:Operand)(f:Nat):WPl C ops Q (⟨dst,.fieldAddr T x f,ty,pos,aft,none⟩::rest) t h=
  need (fOff C.P T f) fun q=>q.2.2≠0∧fieldK (aev C.G t x) q.1 h (fun v=>WPl C ops Q rest (put t dst v) h):=by
 simp only[WPl,wpOper,wpOp,fieldK];cases fOff C.P T f<;>first|rfl| (simp only[ba];generalize aev C.G t x=v;cases v<;>rfl)
@[go_sem] theorem CI(T:TypeId)(x:Operand)(f:Nat):WPl C ops Q (⟨dst,.field T x f,ty,pos,aft,none⟩::rest) t h=
  need (fOff C.P T f) fun q=>need (match aev C.G t x with| .agg cs=>pickT C.P q.2.1 (cs.drop q.1)|_=>none) fun v=>WPl C ops Q rest (put t dst v) h:=by
 simp only[WPl,wpOper,wpOp];congr;funext ⟨o,a,b⟩;simp only[];generalize aev C.G t x=v;cases v<;>rfl
def indexK(C:Ctx)(T:TypeId)(x i:AVal)(h:Heap)(k:AVal→Prop):Prop:=match i with
  | .int _ n=>match x with
   | .sl m es=>need (elmT C.P T) fun e=>szOf C.P e=some m∧0≤n∧0<m∧need (es[n.toNat]?) fun r=>k (.ad r.cells)
   | .hs p ver off len _=>need (elmT C.P T) fun e=>need (getRow h p ver) fun q=>szOf C.P e=some q.2.1∧0≤n∧n<len∧k (.hp p ver (off+n.toNat) 0)
   | .hp p ver j off=>need (arrT C.P T) fun q=>need (szOf C.P q.2) fun m=>(getRow h p ver).isSome∧0≤n∧n<q.1∧k (.hp p ver j (off+n.toNat*m))
   | .ad cs=>need (arrT C.P T) fun q=>need (szOf C.P q.2) fun m=>0≤n∧n<q.1∧n.toNat*m<cs.length∧k (.ad (cs.drop (n.toNat*m)))
   |_=>False
  |_=>False
@[congr] theorem yN{T:TypeId}{x x' i i':AVal}{h h':Heap}{k:AVal→Prop}(e1:x=x')(e2:i=i')(e3:h=h'):indexK C T x i h k=indexK C T x' i' h' k:=by rw[e1,e2,e3]
@[go_sem] theorem CJ(T:TypeId)(m:Nat)(es:List AVal)(kd:IntKind)(n:Int)(k:AVal→Prop):indexK C T (.sl m es) (.int kd n) h k=
  need (elmT C.P T) fun e=>szOf C.P e=some m∧0≤n∧0<m∧need (es[n.toNat]?) fun r=>k (.ad r.cells):=(rfl)
@[go_sem] theorem CK(T:TypeId)(p ver off len:Nat)(r:Bool)(kd:IntKind)(n:Int)(k:AVal→Prop):indexK C T (.hs p ver off len r) (.int kd n) h k=
  need (elmT C.P T) fun e=>need (getRow h p ver) fun q=>szOf C.P e=some q.2.1∧0≤n∧n<len∧k (.hp p ver (off+n.toNat) 0):=(rfl)
@[go_sem] theorem CL(T:TypeId)(p ver j off:Nat)(kd:IntKind)(n:Int)(k:AVal→Prop):indexK C T (.hp p ver j off) (.int kd n) h k=
  need (arrT C.P T) fun q=>need (szOf C.P q.2) fun m=>(getRow h p ver).isSome∧0≤n∧n<q.1∧k (.hp p ver j (off+n.toNat*m)):=(rfl)
@[go_sem] theorem yB(T:TypeId)(x i:Operand):WPl C ops Q (⟨dst,.indexAddr T x i,ty,pos,aft,none⟩::rest) t h=indexK C T (aev C.G t x) (aev C.G t i) h (fun v=>WPl C ops Q rest (put t dst v) h):=by
 simp only[WPl,wpOper,wpOp,indexK];generalize aev C.G t i=vi;generalize aev C.G t x=v;cases vi<;>first|rfl| (cases v<;>rfl)
def indexV(C:Ctx)(T:TypeId)(x i:AVal)(k:AVal→Prop):Prop:=match i with
  | .int _ n=>match x with
   | .str s=>strT C.P T=true∧0≤n∧need (s[n.toNat]?) fun b=>k (.int .u8 b.toNat)
   | .agg cs=>need (arrT C.P T) fun q=>need (szOf C.P q.2) fun m=>0≤n∧n<q.1∧need (pickT C.P q.2 (cs.drop (n.toNat*m))) k
   |_=>False
  |_=>False
@[congr] theorem yO{T:TypeId}{x x' i i':AVal}{k:AVal→Prop}(e1:x=x')(e2:i=i'):indexV C T x i k=indexV C T x' i' k:=by rw[e1,e2]
@[go_sem] theorem B5(T:TypeId)(s:List UInt8)(kd:IntKind)(n:Int)(k:AVal→Prop):indexV C T (.str s) (.int kd n) k=(strT C.P T=true∧0≤n∧need (s[n.toNat]?) fun b=>k (.int .u8 b.toNat)):=(rfl)
@[go_sem] theorem CM(T:TypeId)(x i:Operand):WPl C ops Q (⟨dst,.index T x i,ty,pos,aft,none⟩::rest) t h=indexV C T (aev C.G t x) (aev C.G t i) (fun v=>WPl C ops Q rest (put t dst v) h):=by
 simp only[WPl,wpOper,wpOp,indexV];generalize aev C.G t i=vi;generalize aev C.G t x=v;cases vi<;>first|rfl| (cases v<;>rfl)
@[go_sem] theorem Aw(x:Operand)(i:Nat):WPl C ops Q (⟨dst,.extract x i,ty,pos,aft,none⟩::rest) t h=
  need (match aev C.G t x with| .tup vs=>vs[i]? |_=>none) fun v=>WPl C ops Q rest (put t dst v) h:=by
 simp only[WPl,wpOper,wpOp];generalize aev C.G t x=v;cases v<;>rfl
def buildA(C:Ctx)(T:TypeId)(parts:List (Nat×AVal)):Option AVal:=
 match zroT C.P T with
 |some z=>if z.cells.all AVal.sto=true then
   match nFld C.P T,arrT C.P T with
   |some _,_=>(fillA (fun i=>(fOff C.P T i).map fun q=>(q.1,q.2.2)) z.cells parts).map .agg
   |none,some (_,e)=>match szOf C.P e with
    |some n=>(fillA (fun i=>some (i*n,n)) z.cells parts).map .agg
    |none=>none
   |_,_=>none
   else none
 |none=>none
@[go_sem] theorem lS(T:TypeId)(parts:Array (Nat×Operand)):WPl C ops Q (⟨dst,.build T parts,ty,pos,aft,none⟩::rest) t h=
  need (buildA C T (parts.toList.map fun q=>(q.1,aev C.G t q.2))) fun v=>WPl C ops Q rest (put t dst v) h:=by
 simp only[WPl,wpOper,wpOp,buildA];cases zroT C.P T with
 |none=>rfl
 |some z=>
  simp only[ba];by_cases hz:z.cells.all AVal.sto=true
  ·simp only[hz,if_true,true_and];generalize nFld C.P T=N;generalize arrT C.P T=A;cases N with
   |some k=>
    simp only[];cases fillA (fun i=>(fOff C.P T i).map fun q=>(q.1,q.2.2)) z.cells (parts.toList.map fun q=>(q.1,aev C.G t q.2))<;>rfl
   |none=>
    cases A with
    |none=>rfl
    |some q=>
     obtain⟨k,e⟩:=q;simp only[];cases szOf C.P e with
     |none=>rfl
     |some n=>
      simp only[ba];cases fillA (fun i=>some (i*n,n)) z.cells (parts.toList.map fun q=>(q.1,aev C.G t q.2))<;>rfl
  ·simp[hz,need]
def rowsK(C:Ctx)(T:TypeId)(len:Nat)(idx:List Nat)(xs:List AVal)(h:Heap)(k:AVal→Heap→Prop):Prop:=
 need (elmT C.P T) fun e=>need (szOf C.P e) fun n=>if len=0 then xs.length=0∧k .ez h else
   xs.length=len∧0<len∧0<n∧len*n≤16777216∧idx=List.range len∧(zroT C.P e).map (fun z=>(z.cells.length,z.cells.all AVal.sto))=some (n,true)∧
   (∀x∈xs,x.cells.length=n∧x.lies=true)∧(k (.hs h.length 0 0 len true) (h++[.row e n 0 xs])∨k (.sl n xs) h)
@[congr] theorem Ax{T:TypeId}{len:Nat}{idx idx':List Nat}{xs xs':List AVal}{h h':Heap}{k:AVal→Heap→Prop}(e1:xs=xs')(e2:h=h')(e3:idx=idx'):rowsK C T len idx xs h k=rowsK C T len idx' xs' h' k:=by rw[e1,e2,e3]
@[go_sem] theorem B6{T:TypeId}{h:Heap}{k:AVal→Heap→Prop}:rowsK C T 0 [] [] h k=need (elmT C.P T) fun e=>need (szOf C.P e) fun _=>k .ez h:=by simp[rowsK]
@[go_sem] theorem xx(T:TypeId)(len:Nat)(parts:Array (Nat×Operand)):WPl C ops Q (⟨dst,.buildSlice T len parts,ty,pos,aft,none⟩::rest) t h=
  rowsK C T len (parts.toList.map (·.1)) (parts.toList.map fun q=>aev C.G t q.2) h (fun v h'=>WPl C ops Q rest (put t dst v) h'):=by
 simp only[WPl,wpOper,wpOp,rowsK,L5,Array.length_toList]
def rangeK(C:Ctx)(T:TypeId)(x:AVal)(h:Heap)(k:AVal→Heap→Prop):Prop:=match x with
  | .str s=>strT C.P T=true∧k (.hp h.length 0 0 0) (h++[.iter s 0])
  | .hm p=>(mapT C.P T).isSome=true∧need (mapAt h p) fun(_,c)=>k (.hp h.length 0 0 0) (h++[.mit p c [] c])
  |_=>False
@[congr] theorem yP{T:TypeId}{x x':AVal}{h h':Heap}{k:AVal→Heap→Prop}(e1:x=x')(e2:h=h'):rangeK C T x h k=rangeK C T x' h' k:=by rw[e1,e2]
@[go_sem] theorem B7(T:TypeId)(s:List UInt8)(h:Heap)(k:AVal→Heap→Prop):rangeK C T (.str s) h k=(strT C.P T=true∧k (.hp h.length 0 0 0) (h++[.iter s 0])):=(rfl)
@[go_sem] theorem CN(T:TypeId)(p:Nat)(h:Heap)(k:AVal→Heap→Prop):rangeK C T (.hm p) h k=((mapT C.P T).isSome=true∧need (mapAt h p) fun q=>k (.hp h.length 0 0 0) (h++[.mit p q.2 [] q.2])):=(rfl)
@[go_sem] theorem CO(T:TypeId)(x:Operand):WPl C ops Q (⟨dst,.range T x,ty,pos,aft,none⟩::rest) t h=
  rangeK C T (aev C.G t x) h fun v h'=>WPl C ops Q rest (put t dst v) h':=by
 simp only[WPl,wpOper,wpOp,rangeK];generalize aev C.G t x=v;cases v<;>rfl
def nextK(x:AVal)(h:Heap)(k:AVal→Heap→Prop):Prop:=match x with
  | .hp p 0 0 0=>match h[p]? with
   |some (.iter s pos)=>(pos<s.length→k (.tup [.bool true,.int .i64 pos,.int .i32 (Utf8.decode ⟨s.toArray⟩ pos).1]) (h.set p (.iter s (pos+(Utf8.decode ⟨s.toArray⟩ pos).2))))∧
     (¬pos<s.length→k (.tup [.bool false]) h)
   |_=>False
  |_=>False
@[congr] theorem Ay{x x':AVal}{h h':Heap}{k:AVal→Heap→Prop}(e1:x=x')(e2:h=h'):nextK x h k=nextK x' h' k:=by rw[e1,e2]
@[go_sem] theorem Ez(x:Operand):WPl C ops Q (⟨dst,.next x true,ty,pos,aft,none⟩::rest) t h=nextK (aev C.G t x) h (fun v h'=>WPl C ops Q rest (put t dst v) h'):=by
 simp only[WPl,wpOper,wpOp,nextK];generalize aev C.G t x=v;cases v with
 |hp p ver i off=>
  cases ver with
  |succ n=>rfl
  |zero=>
   cases i with
   |succ n=>rfl
   |zero=>
    cases off with
    |succ n=>rfl
    |zero=>rfl
 |_=>rfl
theorem fk{p:Nat}{s:List UInt8}{q:Nat}{k:AVal→Heap→Prop}(hh:h[p]? =some (.iter s q))
  (h1:q<s.length→k (.tup [.bool true,.int .i64 q,.int .i32 (Utf8.decode ⟨s.toArray⟩ q).1]) (h.set p (.iter s (q+(Utf8.decode ⟨s.toArray⟩ q).2))))
  (h2:¬q<s.length→k (.tup [.bool false]) h):nextK (.hp p 0 0 0) h k:=by
 simp only[nextK,hh];exact⟨h1,h2⟩
def mkR:Option AVal→Prop
 |none=>True
 |some (.int _ _)=>True
 |_=>False
@[go_sem] theorem EA:mkR none=True:=(rfl)
@[go_sem] theorem Az(T:TypeId)(r:Option Operand):WPl C ops Q (⟨dst,.makeMap T r,ty,pos,aft,none⟩::rest) t h=
  ((mapT C.P T).isSome=true∧mkR (r.map (aev C.G t))∧WPl C ops Q rest (put t dst (.hm h.length)) (h++[.mp [] 0])):=by
 simp only[WPl,wpOper,wpOp];generalize r.map (aev C.G t)=v;cases v with
 |none=>rfl
 |some v=>cases v<;>rfl
def look2(P:Program)(kt:TypeId)(x i:AVal)(ok:Bool)(z:AVal)(h:Heap)(k:AVal→Prop):Prop:=match x with
 | .nil (.map none)=>k (gotA ok (softA z) none)
 | .hm p=>need (mapAt h p) fun q=>need (findA P kt i q.1 0) fun r=>k (gotA ok (softA z) (r.bind (q.1[·]?)))
 |_=>False
@[congr] theorem AA{P:Program}{kt:TypeId}{x x' i i':AVal}{ok:Bool}{z z':AVal}{h h':Heap}{k:AVal→Prop}(e1:x=x')(e2:i=i')(e3:z=z')(e4:h=h'):look2 P kt x i ok z h k=look2 P kt x' i' ok z' h' k:=by rw[e1,e2,e3,e4]
@[go_sem] theorem EB(P:Program)(kt:TypeId)(p:Nat)(i:AVal)(ok:Bool)(z:AVal)(h:Heap)(k:AVal→Prop):look2 P kt (.hm p) i ok z h k=need (mapAt h p) fun q=>need (findA P kt i q.1 0) fun r=>k (gotA ok (softA z) (r.bind (q.1[·]?))):=(rfl)
@[go_sem] theorem B8(T:TypeId)(x i:Operand)(ok:Bool):WPl C ops Q (⟨dst,.lookup T x i ok,ty,pos,aft,none⟩::rest) t h=
  need (mapT C.P T) fun q=>need (zroT C.P q.2) fun z=>z.cells.all AVal.sto=true∧keyA C.P q.1 (aev C.G t i)=true∧look2 C.P q.1 (aev C.G t x) (aev C.G t i) ok z h fun v=>WPl C ops Q rest (put t dst v) h:=by
 simp only[WPl,wpOper,wpOp,look2];generalize aev C.G t x=a;cases a with
 |nil v=>cases v with
  |map o=>cases o<;>rfl
  |_=>rfl
 |_=>rfl
def putK(P:Program)(kt:TypeId)(x i v:AVal)(h:Heap)(k:Heap→Prop):Prop:=match x with
 | .hm p=>need (mapAt h p) fun q=>need (findA P kt i q.1 0) fun r=>k (h.set p (putM q.1 q.2 i (softA v) r))
 |_=>False
@[congr] theorem B9{P:Program}{kt:TypeId}{x x' i i' v v':AVal}{h h':Heap}{k:Heap→Prop}(e1:x=x')(e2:i=i')(e3:v=v')(e4:h=h'):putK P kt x i v h k=putK P kt x' i' v' h' k:=by rw[e1,e2,e3,e4]
@[go_sem] theorem Gg(P:Program)(kt:TypeId)(p:Nat)(i v:AVal)(h:Heap)(k:Heap→Prop):putK P kt (.hm p) i v h k=need (mapAt h p) fun q=>need (findA P kt i q.1 0) fun r=>k (h.set p (putM q.1 q.2 i (softA v) r)):=(rfl)
@[go_sem] theorem yC(T:TypeId)(x i v:Operand):WPl C ops Q (⟨dst,.mapUpdate T x i v,ty,pos,aft,none⟩::rest) t h=
  need (mapT C.P T) fun q=>keyA C.P q.1 (aev C.G t i)=true∧putK C.P q.1 (aev C.G t x) (aev C.G t i) (aev C.G t v) h fun h'=>WPl C ops Q rest (put t dst undefA) h':=by
 simp only[WPl,wpOper,wpOp,putK];generalize aev C.G t x=a;cases a<;>rfl
def ent2(es:List (AVal×AVal×Nat))(c:Nat)(i z:AVal)(r:Option Nat)(k:AVal→Blk→Prop):Prop:=match r.bind (es[·]?)with
 |some e=>k (.tup [e.2.1,.int .i64 e.2.2]) (keyM es c i r)
 |none=>k (.tup [z,.int .i64 c]) (putM es c i z none)
@[congr] theorem Ba{es es':List (AVal×AVal×Nat)}{c c':Nat}{i i' z z':AVal}{r r':Option Nat}{k:AVal→Blk→Prop}(e1:es=es')(e2:c=c')(e3:i=i')(e4:z=z')(e5:r=r'):ent2 es c i z r k=ent2 es' c' i' z' r' k:=by rw[e1,e2,e3,e4,e5]
def entK(P:Program)(kt:TypeId)(x i z:AVal)(h:Heap)(k:AVal→Heap→Prop):Prop:=match x with
 | .hm p=>need (mapAt h p) fun q=>need (findA P kt i q.1 0) fun r=>ent2 q.1 q.2 i z r fun v b=>k v (h.set p b)
 |_=>False
@[congr] theorem Bb{P:Program}{kt:TypeId}{x x' i i' z z':AVal}{h h':Heap}{k:AVal→Heap→Prop}(e1:x=x')(e2:i=i')(e3:z=z')(e4:h=h'):entK P kt x i z h k=entK P kt x' i' z' h' k:=by rw[e1,e2,e3,e4]
def stoK(x s v:AVal)(h:Heap)(k:Heap→Prop):Prop:=match x,s with
 | .hm p,.int _ n=>need (mapAt h p) fun q=>need (q.1.findIdx? fun e=>(e.2.2:Int)==n) fun i=>k (h.set p (.mp (q.1.modify i fun e=>(e.1,v,e.2.2)) q.2))
 |_,_=>False
@[congr] theorem Bc{x x' s s' v v':AVal}{h h':Heap}{k:Heap→Prop}(e1:x=x')(e2:s=s')(e3:v=v')(e4:h=h'):stoK x s v h k=stoK x' s' v' h' k:=by rw[e1,e2,e3,e4]
def sto2(es:List (AVal×AVal×Nat))(n:Int)(v:AVal)(k:List (AVal×AVal×Nat)→Prop):Prop:=need (es.findIdx? fun e=>(e.2.2:Int)==n) fun i=>k (es.modify i fun e=>(e.1,v,e.2.2))
@[congr] theorem Bd{es es':List (AVal×AVal×Nat)}{n n':Int}{v v':AVal}{k:List (AVal×AVal×Nat)→Prop}(e1:es=es')(e2:n=n')(e3:v=v'):sto2 es n v k=sto2 es' n' v' k:=by rw[e1,e2,e3]
def delK(P:Program)(kt:TypeId)(x i:AVal)(h:Heap)(k:Heap→Prop):Prop:=match x with
 | .nil (.map none)=>k h
 | .hm p=>need (mapAt h p) fun q=>need (findA P kt i q.1 0) fun r=>k (h.set p (delM q.1 q.2 r))
 |_=>False
@[congr] theorem Be{P:Program}{kt:TypeId}{x x' i i':AVal}{h h':Heap}{k:Heap→Prop}(e1:x=x')(e2:i=i')(e4:h=h'):delK P kt x i h k=delK P kt x' i' h' k:=by rw[e1,e2,e4]
@[go_sem] theorem Gh(P:Program)(kt:TypeId)(p:Nat)(i:AVal)(h:Heap)(k:Heap→Prop):delK P kt (.hm p) i h k=need (mapAt h p) fun q=>need (findA P kt i q.1 0) fun r=>k (h.set p (delM q.1 q.2 r)):=(rfl)
@[congr] theorem Bf{P:Program}{T:TypeId}{x x':AVal}{h h':Heap}{k:Heap→Prop}(e1:x=x')(e4:h=h'):clrK P T x h k=clrK P T x' h' k:=by rw[e1,e4]
@[go_sem] theorem Bg(x i:Operand)(T T':TypeId):WPl C ops Q (⟨dst,.call ⟨.builtin .delete, #[x,i], #[T,T']⟩,ty,pos,aft,none⟩::rest) t h=
  need (mapT C.P T) fun q=>keyA C.P q.1 (aev C.G t i)=true∧delK C.P q.1 (aev C.G t x) (aev C.G t i) h fun h'=>WPl C ops Q rest (put t dst (.tup [])) h':=by
 simp only[WPl,wpOper,wpOp,wpCall,delK];generalize aev C.G t x=a;cases a with
 |nil v=>cases v with
  |map o=>cases o<;>rfl
  |_=>rfl
 |_=>rfl
def entryK(x:AVal)(h:Heap)(k:AVal→Prop):Prop:=match x with
 | .hp p 0 0 0=>match h[p]? with
  |some (.mit q _ seen last)=>need seen.getLast? fun st=>need (mapAt h q) fun r=>r.2=last∧need (r.1.find? fun e=>e.2.2==st) fun e=>k (.tup [e.1,e.2.1])
  |_=>False
 |_=>False
@[congr] theorem yQ{x x':AVal}{h h':Heap}{k:AVal→Prop}(e1:x=x')(e2:h=h'):entryK x h k=entryK x' h' k:=by rw[e1,e2]
@[go_sem] theorem CP(x:Operand):WPl C ops Q (⟨dst,.entry x,ty,pos,aft,none⟩::rest) t h=entryK (aev C.G t x) h (fun v=>WPl C ops Q rest (put t dst v) h):=by
 simp only[WPl,wpOper,wpOp,entryK];generalize aev C.G t x=v;cases v with
 |hp p ver i off=>
  cases ver with
  |succ n=>rfl
  |zero=>
   cases i with
   |succ n=>rfl
   |zero=>
    cases off with
    |succ n=>rfl
    |zero=>rfl
 |_=>rfl
def nextMK(x:AVal)(h:Heap)(k:AVal→Heap→Prop):Prop:=match x with
 | .hp p 0 0 0=>match h[p]? with
  |some (.mit q since seen last)=>need (mapAt h q) fun r=>
    (!seen.isEmpty&& !r.1.isEmpty&&r.1.all fun e=>decide (last≤e.2.2))=false∧
    (∀e∈r.1,e.2.2 ∉ seen→k (.tup [.bool true,e.1,e.2.1]) (h.set p (.mit q since (seen++[e.2.2]) r.2)))∧
    ((∀e∈r.1,e.2.2 ∉ seen→since≤e.2.2)→k (.tup [.bool false]) h)
  |_=>False
 |_=>False
@[congr] theorem yR{x x':AVal}{h h':Heap}{k:AVal→Heap→Prop}(e1:x=x')(e2:h=h'):nextMK x h k=nextMK x' h' k:=by rw[e1,e2]
@[go_sem] theorem CQ(x:Operand):WPl C ops Q (⟨dst,.next x false,ty,pos,aft,none⟩::rest) t h=nextMK (aev C.G t x) h (fun v h'=>WPl C ops Q rest (put t dst v) h'):=by
 simp only[WPl,wpOper,wpOp,nextMK];generalize aev C.G t x=v;cases v with
 |hp p ver i off=>
  cases ver with
  |succ n=>rfl
  |zero=>
   cases i with
   |succ n=>rfl
   |zero=>
    cases off with
    |succ n=>rfl
    |zero=>rfl
 |_=>rfl
@[go_sem] theorem Gi(x:Operand)(T:TypeId):WPl C ops Q (⟨dst,.call ⟨.builtin .len, #[x], #[T]⟩,ty,pos,aft,none⟩::rest) t h=
  need (alen C.P h T (aev C.G t x)) fun n=>WPl C ops Q rest (put t dst (.int .i64 n)) h:=(rfl)
def appK(C:Ctx)(T T':TypeId)(x y:AVal)(h:Heap)(k:AVal→Heap→Prop):Prop:=(T'=T∨strT C.P T'=true)∧wpAppend C.P T x y h k
@[congr] theorem Bh{T T':TypeId}{x x' y y':AVal}{h h':Heap}{k:AVal→Heap→Prop}(e1:x=x')(e2:y=y')(e3:h=h'):appK C T T' x y h k=appK C T T' x' y' h' k:=by rw[e1,e2,e3]
@[go_sem] theorem Bi(x y:Operand)(T T':TypeId):WPl C ops Q (⟨dst,.call ⟨.builtin .append, #[x,y], #[T,T']⟩,ty,pos,aft,none⟩::rest) t h=
  appK C T T' (aev C.G t x) (aev C.G t y) h (fun v h'=>WPl C ops Q rest (put t dst v) h'):=(rfl)
theorem vh{T T' e n by':Nat}{y:AVal}{ys:List AVal}{k:AVal→Heap→Prop}(hT:T'=T∨strT C.P T'=true)(he:elmT C.P T=some e)(hn:szOf C.P e=some n)(hb:byT C.P e=some by')
  (hz:(zroT C.P e).map (fun z=>z.cells.length)=some n)(h0:0<n)(hy:elemsOf h n y=some ys)(hr:ys.length≤maxLen∧ys.length*by'≤140737488355328)
  (hk:k (.hs h.length 0 0 ys.length true) (h++[.row e n 0 ys])):appK C T T' (.nil (.slice none 0 0)) y h k:=by
 refine⟨hT,?_⟩;simp only[wpAppend,he,hn,hb,hy,ba];exact⟨h0,hz,hr,hk⟩
theorem bF{T T' e n by' p ver len:Nat}{y:AVal}{rows ys:List AVal}{k:AVal→Heap→Prop}(hT:T'=T∨strT C.P T'=true)(he:elmT C.P T=some e)(hn:szOf C.P e=some n)(hb:byT C.P e=some by')
  (hz:(zroT C.P e).map (fun z=>z.cells.length)=some n)(h0:0<n)(hy:elemsOf h n y=some ys)(hrow:getRow h p ver=some (e,n,rows))(hl:len=rows.length)
  (hr:len+ys.length≤maxLen∧(len+ys.length)*by'≤140737488355328)
  (hk:k (.hs p (ver+1) 0 (len+ys.length) true) (h.set p (.row e n (ver+1) (rows++ys)))):appK C T T' (.hs p ver 0 len true) y h k:=by
 refine⟨hT,?_⟩;simp only[wpAppend,he,hn,hb,hy,hrow,ba];exact⟨h0,hz,trivial,trivial,trivial,hr,by rw[L7 trivial];exact⟨hl,hk⟩⟩
theorem gf{T T' e n by':Nat}{y:AVal}{ys:List AVal}{k:AVal→Heap→Prop}(hT:T'=T∨strT C.P T'=true)(he:elmT C.P T=some e)(hn:szOf C.P e=some n)(hb:byT C.P e=some by')
  (hz:(zroT C.P e).map (fun z=>z.cells.length)=some n)(h0:0<n)(hy:elemsOf h n y=some ys)(hr:ys.length≤maxLen∧ys.length*by'≤140737488355328)
  (h1:ys=[]→k .ez h)(hk:ys≠ []→k (.hs h.length 0 0 ys.length true) (h++[.row e n 0 ys])):appK C T T' .ez y h k:=by
 refine⟨hT,?_⟩;simp only[wpAppend,he,hn,hb,hy,ba];refine⟨h0,hz,?_⟩;split
 ·rename_i e0;exact h1 e0
 ·rename_i e0;exact⟨hr,hk e0⟩
@[congr] theorem AB{f f':AVal}{args args':List AVal}{h h':Heap}{k:AVal→Heap→Prop}(e1:f=f')(e2:args=args')(e3:h=h'):callK C f args h k=callK C f' args' h' k:=by rw[e1,e2,e3]
@[go_sem] theorem EC(g:FuncId)(first captured args:List AVal)(k:AVal→Heap→Prop):callK C (.fn (.func g) first captured) args h k=Sat C g (first++args++captured) h k:=(rfl)
@[go_sem] theorem ED(f:Operand)(args:Array Operand)(Ts:Array TypeId):WPl C ops Q (⟨dst,.call ⟨.value f,args,Ts⟩,ty,pos,aft,none⟩::rest) t h=
  callK C (aev C.G t f) (args.toList.map (aev C.G t)) h (fun v h'=>WPl C ops Q rest (put t dst v) h'):=by
 (rfl)
def guardK(g:Option (Option Bool))(want:Bool)(a b:Prop):Prop:=match g with|some q=>(q=some want→a)∧(q≠some want→b)|none=>False
@[congr] theorem yS{g g':Option (Option Bool)}{want:Bool}{a b:Prop}(e:g=g'):guardK g want a b=guardK g' want a b:=by rw[e]
theorem io(op:Op)(j:Nat)(want:Bool):WPl C ops Q (⟨dst,op,ty,pos,aft,some (j,want)⟩::rest) t h=
  guardK (guardA ops t j) want (WPl C ops Q (⟨dst,op,ty,pos,aft,none⟩::rest) t h) (WPl C ops Q rest (put t dst undefA) h):=by
 simp only[WPl,wpOper,guardK];cases guardA ops t j<;>rfl
def gval(v:AVal):Option (Option Bool):=match v with| .bool b=>some (some b)| .nil (.tuple _)=>some none|_=>none
def gdst(t:Env)(d:Option Nat):Option (Option Bool):=match d with|some d=>gval (t d)|none=>none
@[go_sem] theorem oW(l:List Oper)(j:Nat):guardA l.toArray t j=gdst t ((l[j]?).bind (·.dst)):=by
 unfold guardA gdst;have e:l.toArray[j]? =l[j]? :=by simp
 rw[e];cases(l[j]?).bind (·.dst)with
 |none=>rfl
 |some d=>simp only[gval];cases t d<;>rfl
@[go_sem] theorem CR(d:Nat):gdst t (some d)=gval (t d):=(rfl)
@[go_sem] theorem CU(b:Bool):gval (.bool b)=some (some b):=(rfl)
@[go_sem] theorem Bj:gval (.nil undef)=some none:=(rfl)
attribute [go_sem] Option.bind_some
@[go_sem] theorem Gj(op:Op)(j:Nat)(want:Bool)(hg:guardA ops t j=some (some want)):WPl C ops Q (⟨dst,op,ty,pos,aft,some (j,want)⟩::rest) t h=WPl C ops Q (⟨dst,op,ty,pos,aft,none⟩::rest) t h:=by
 rw[io,hg];simp[guardK]
@[go_sem] theorem In(op:Op)(j:Nat)(want:Bool)(hg:guardA ops t j=some (some (!want))):WPl C ops Q (⟨dst,op,ty,pos,aft,some (j,want)⟩::rest) t h=WPl C ops Q rest (put t dst undefA) h:=by
 rw[io,hg];simp[guardK]
@[go_sem] theorem Io(op:Op)(j:Nat)(want:Bool)(hg:guardA ops t j=some none):WPl C ops Q (⟨dst,op,ty,pos,aft,some (j,want)⟩::rest) t h=WPl C ops Q rest (put t dst undefA) h:=by
 rw[io,hg];simp[guardK]
theorem Weak.refl(C:Ctx)(ms:List Nat)(t:Env)(h:Heap):Weak C ms t h t h:=⟨fun _ _=>rfl,fun B _ S μ w _ f r=>⟨S,μ,Step.refl B S μ w,f,r⟩⟩
theorem Wkn.refl{ms:List Nat}{R:Env→Heap→Prop}(g:R t h):Wkn C ms t h R:=⟨t,h,Weak.refl C ms t h,g⟩
theorem yT{a b:Code}(hh:∀K:Env→Heap→Prop,(∀t h,Wkn C (wr a) t h (fun t h=>WP C b Q t h)→K t h)→WP C a (thenQ K Q) t h):WP C (.seq a b) Q t h:=hh _ fun _ _ k=>k
theorem tu{id:Nat}{l:List Oper}(hh:WPl C l.toArray Q l t h):WP C (.region id l.toArray false) Q t h:=hh
theorem vj{id:Nat}{c:Code}(hh:WP C c (blockQ id Q) t h):WP C (.block id c) Q t h:=hh
theorem l7{c:Operand}{a b:Code}{q:Bool}(hc:aev C.G t c=.bool q)(h1:q=true→WP C a Q t h)(h2:q=false→WP C b Q t h):WP C (.cond c a b) Q t h:=by
 simp only[WP,hc];exact⟨h1,h2⟩
theorem xy(hh:Q .normal t h):WP C .skip Q t h:=hh
theorem xz{id:Nat}(hh:Q (.exit id) t h):WP C (.exit id) Q t h:=hh
theorem yU(hh:Q .ret t h):WP C .ret Q t h:=hh
@[go_sem] theorem yV(K:Env→Heap→Prop):thenQ K Q .normal t h=K t h:=(rfl)
@[go_sem] theorem CV(K:Env→Heap→Prop):thenQ K Q .ret t h=Q .ret t h:=(rfl)
@[go_sem] theorem Bk(K:Env→Heap→Prop)(id:Nat):thenQ K Q (.exit id) t h=Q (.exit id) t h:=(rfl)
@[go_sem] theorem yD(id:Nat):blockQ id Q .normal t h=Q .normal t h:=(rfl)
@[go_sem] theorem Bl(id:Nat):blockQ id Q .ret t h=Q .ret t h:=(rfl)
@[go_sem] theorem AC(id id':Nat):blockQ id Q (.exit id') t h=if id'=id then Q .normal t h else Q (.exit id') t h:=(rfl)
theorem Sat.body(rs:List ResultVar){f:FuncId}{fn:Func}{c:Code}{args:List AVal}{R:AVal→Heap→Prop}(hf:C.P.funcs[f]? =some fn)(hb:fn.body=some c)(hrs:fn.results.toList=rs)(hname:(fn.name== "runtime.NumGoroutine")=false)
  (hok:okCode fn.ntmps c=true)(hres:fn.results.toList.all (okRes fn.ntmps)=true)(hlen:decide (args.length≤fn.ntmps)=true)
  (hw:∀Q:Exit→Env→Heap→Prop,(∀t' h',need (resA C t' h' rs) (Fin h h' R)→Q .ret t' h'∧Q .normal t' h')→WP C c Q (env0 args) h):Sat C f args h R:=by
 subst hrs;refine Sat.of_body hf hb hname hok hres (by simpa using hlen) (hw _ fun t' h' k=>⟨k,k⟩)
theorem Fin.plain{h0 j:Heap}{R:AVal→Heap→Prop}{r:AVal}(hc:Clo h0.length r)(hR:R r h0):Fin h0 (h0++j) R r:=by
 refine⟨h0.length,r,M0 _,.clo _ hc,.inr fun p k hp hk=>?_,by rw[V1 rfl];exact hR⟩;rw[L9 hp]at hk;exact .inl ⟨hp,hk⟩
theorem Fin.same{h0:Heap}{R:AVal→Heap→Prop}{r:AVal}(hc:Clo h0.length r)(hR:R r h0):Fin h0 h0 R r:=by
 have:=Fin.plain (j:=[]) hc hR;simpa using this
end
attribute [go_sem] astr env0 List.getD_cons_zero List.getD_cons_succ List.toList_toArray List.map_cons List.map_nil Option.map_some Option.map_none List.append_nil List.nil_append List.cons_append
@[go_sem] theorem CW(cs:List AVal):AVal.cells (.agg cs)=cs:=(rfl)
@[go_sem] theorem EE(cs:List AVal):AVal.lies (.agg cs)=true:=(rfl)
@[go_sem] theorem AD(a cs:List AVal):ofCells (.agg a) cs=.agg cs:=(rfl)
@[go_sem] theorem CX(k:IntKind)(n:Int):AVal.cells (.int k n)=[.int k n]:=(rfl)
@[go_sem] theorem AE(k:IntKind)(n:Int)(x:AVal):ofCells (.int k n) [x]=x:=(rfl)
@[go_sem] theorem EF(k:IntKind)(n:Int):AVal.lies (.int k n)=true:=(rfl)
@[go_sem] theorem Gk(k:IntKind)(n:Int):AVal.sto (.int k n)=true:=(rfl)
@[go_sem] theorem Bn(b:Bool):AVal.cells (.bool b)=[.bool b]:=(rfl)
@[go_sem] theorem CY(b:Bool):AVal.lies (.bool b)=true:=(rfl)
@[go_sem] theorem EG(b:Bool):AVal.sto (.bool b)=true:=(rfl)
@[go_sem] theorem CZ(s:List UInt8):AVal.cells (.str s)=[.str s]:=(rfl)
@[go_sem] theorem AF(s:List UInt8)(x:AVal):ofCells (.str s) [x]=x:=(rfl)
@[go_sem] theorem EH(s:List UInt8):AVal.lies (.str s)=true:=(rfl)
@[go_sem] theorem Gl(s:List UInt8):AVal.sto (.str s)=true:=(rfl)
@[go_sem] theorem D1(v:Value):AVal.cells (.nil v)=[.nil v]:=(rfl)
@[go_sem] theorem AG(v:Value)(x:AVal):ofCells (.nil v) [x]=x:=(rfl)
@[go_sem] theorem EI(v:Value):AVal.lies (.nil v)=v.oneCell':=(rfl)
@[go_sem] theorem Gm(v:Value):AVal.sto (.nil v)=v.oneCell':=(rfl)
@[go_sem] theorem EJ(n:Nat)(es:List AVal):AVal.cells (.sl n es)=[.sl n es]:=(rfl)
@[go_sem] theorem Gn(n:Nat)(es:List AVal):AVal.lies (.sl n es)=true:=(rfl)
@[go_sem] theorem EK(p v i o:Nat):AVal.cells (.hp p v i o)=[.hp p v i o]:=(rfl)
@[go_sem] theorem Gp(p v i o:Nat):AVal.lies (.hp p v i o)=true:=(rfl)
@[go_sem] theorem EL(p v o l:Nat)(r:Bool):AVal.cells (.hs p v o l r)=[.hs p v o l r]:=(rfl)
@[go_sem] theorem Bo(p v o l:Nat)(r:Bool)(x:AVal):ofCells (.hs p v o l r) [x]=x:=(rfl)
@[go_sem] theorem Gq(p v o l:Nat)(r:Bool):AVal.lies (.hs p v o l r)=true:=(rfl)
@[go_sem] theorem EM(f:Fn)(a b:List AVal):AVal.cells (.fn f a b)=[.fn f a b]:=(rfl)
@[go_sem] theorem Gs(f:Fn)(a b:List AVal):AVal.lies (.fn f a b)=true:=(rfl)
@[go_sem] theorem EN(P:Program)(h:Heap)(T:TypeId)(s:List UInt8):alen P h T (.str s)=if strT P T=true then some s.length else none:=(rfl)
@[go_sem] theorem Gt(P:Program)(h:Heap)(T:TypeId)(n:Nat)(es:List AVal):alen P h T (.sl n es)=if (elmT P T).isSome then some es.length else none:=(rfl)
@[go_sem] theorem Gu(P:Program)(h:Heap)(T:TypeId)(p v o l:Nat)(r:Bool):alen P h T (.hs p v o l r)=if (elmT P T).isSome∧(getRow h p v).isSome then some l else none:=(rfl)
@[go_sem] theorem EO(P:Program)(h:Heap)(T:TypeId):alen P h T (.nil (.slice none 0 0))=if (elmT P T).isSome then some 0 else none:=(rfl)
@[go_sem] theorem Gv(b:Bool):aun .not (.bool b)=some (.bool (!b)):=(rfl)
@[go_sem] theorem Gw(k:IntKind)(n:Int):aun .neg (.int k n)=some (.int k (k.wrap (0-n))):=(rfl)
theorem lT{x:Int}(h0: -9223372036854775808≤x)(h1:x≤9223372036854775807):IntKind.i64.wrap x=x:=by
 simp only[IntKind.wrap,IntKind.bits,IntKind.signed];simp;omega
@[go_sem] theorem EP(P:Program)(h:Heap)(T:TypeId)(k:IntKind)(a b:Int):abin P h .add T (.int k a) (.int k b)=some (.int k (k.wrap (a+b))):=by simp only[abin,aint,if_true]
@[go_sem] theorem EQ(P:Program)(h:Heap)(T:TypeId)(k:IntKind)(a b:Int):abin P h .sub T (.int k a) (.int k b)=some (.int k (k.wrap (a-b))):=by simp only[abin,aint,if_true]
@[go_sem] theorem ER(P:Program)(h:Heap)(T:TypeId)(k:IntKind)(a b:Int):abin P h .mul T (.int k a) (.int k b)=some (.int k (k.wrap (a*b))):=by simp only[abin,aint,if_true]
@[go_sem] theorem ES(P:Program)(h:Heap)(T:TypeId)(k:IntKind)(a b:Int):abin P h .quo T (.int k a) (.int k b)=if b=0 then none else some (.int k (k.wrap (a.tdiv b))):=by simp only[abin,aint,if_true]
@[go_sem] theorem EU(P:Program)(h:Heap)(T:TypeId)(k:IntKind)(a b:Int):abin P h .rem T (.int k a) (.int k b)=if b=0 then none else some (.int k (a.tmod b)):=by simp only[abin,aint,if_true]
@[go_sem] theorem EV(P:Program)(h:Heap)(T:TypeId)(k:IntKind)(a b:Int):abin P h .eql T (.int k a) (.int k b)=some (.bool (a==b)):=by simp only[abin,aint,if_true]
@[go_sem] theorem EW(P:Program)(h:Heap)(T:TypeId)(k:IntKind)(a b:Int):abin P h .neq T (.int k a) (.int k b)=some (.bool (a !=b)):=by simp only[abin,aint,if_true]
@[go_sem] theorem EX(P:Program)(h:Heap)(T:TypeId)(k:IntKind)(a b:Int):abin P h .lss T (.int k a) (.int k b)=some (.bool (decide (a<b))):=by simp only[abin,aint,if_true]
@[go_sem] theorem EY(P:Program)(h:Heap)(T:TypeId)(k:IntKind)(a b:Int):abin P h .leq T (.int k a) (.int k b)=some (.bool (decide (a≤b))):=by simp only[abin,aint,if_true]
@[go_sem] theorem EZ(P:Program)(h:Heap)(T:TypeId)(k:IntKind)(a b:Int):abin P h .gtr T (.int k a) (.int k b)=some (.bool (decide (a>b))):=by simp only[abin,aint,if_true]
@[go_sem] theorem F0(P:Program)(h:Heap)(T:TypeId)(k:IntKind)(a b:Int):abin P h .geq T (.int k a) (.int k b)=some (.bool (decide (a≥b))):=by simp only[abin,aint,if_true]
@[go_sem] theorem F1(P:Program)(h:Heap)(op:BinOp)(T:TypeId)(a b:List UInt8):abin P h op T (.str a) (.str b)=astr op a b:=(rfl)
theorem vk{a b:List UInt8}(h:a.length+b.length≤140737488355328):astr .add a b=some (.str (a++b)):=by simp only[astr,L7 h]
@[go_sem] theorem jO(h l:Heap)(k v:Nat):getRow (h++l) (h.length+k) v=getRow l k v:=by
 unfold getRow;rw[M1 (by omega),U5]
@[go_sem] theorem fV(h l:Heap)(v:Nat):getRow (h++l) h.length v=getRow l 0 v:=jO h l 0 v
@[go_sem] theorem AH(e n v v':Nat)(rows:List AVal)(l:Heap):getRow (.row e n v rows::l) 0 v'=if v'=v then some (e,n,rows)else none:=(rfl)
@[go_sem] theorem AI(b:Blk)(l:Heap)(k v:Nat):getRow (b::l) (k+1) v=getRow l k v:=(rfl)
theorem rn{h l:Heap}{p v:Nat}{x:TypeId×Nat×List AVal}(hp:getRow h p v=some x):getRow (h++l) p v=some x:=by
 unfold getRow at hp ⊢;have:p<h.length:=by
  rcases T3 p h.length with h1|h1
  ·exact h1
  ·rw[P5 h1]at hp;cases hp
 rw[L9 this];exact hp
@[go_sem] theorem qc(h l:Heap)(k:Nat)(b:Blk):(h++l).set (h.length+k) b=h++l.set k b:=by
 rw[List.set_append_right _ _ (by omega),U5]
@[go_sem] theorem nw(h l:Heap)(b:Blk):(h++l).set h.length b=h++l.set 0 b:=qc h l 0 b
attribute [go_sem] List.append_assoc List.length_append List.length_cons List.length_nil Nat.zero_add Nat.add_zero List.set_cons_zero List.set_cons_succ List.getElem?_cons_zero List.getElem?_cons_succ
 pickT P0 Q8 W3 X7 List.take_nil List.drop_nil List.head?_cons Option.isSome_some true_and and_true Nat.add_assoc
 Int.toNat_natCast M5 L5 ne_eq not_false_eq_true buildA fillA Value.oneCell' Z0 List.all_nil Bool.and_true S3 Nat.add_eq putA
@[go_sem] theorem Fa(C:Ctx)(t:Env)(h:Heap)(i:Tmp):resA C t h [.tmp i]=some (t i):=(rfl)
@[go_sem] theorem Fb(C:Ctx)(t:Env)(h:Heap)(i j:Tmp):resA C t h [.tmp i,.tmp j]=some (.tup [t i,t j]):=(rfl)
@[go_sem] theorem D2(C:Ctx)(t:Env)(h:Heap):resA C t h []=some (.tup []):=(rfl)
@[go_sem] theorem AJ(P:Program)(h:Heap)(T:TypeId)(s:List UInt8)(k:IntKind)(l:Int)(h0:0≤l)(h1:l≤s.length):
  aslice P h T (.str s) (some (.int k l)) none none=if strT P T=true then some (.str (s.drop l.toNat))else none:=by
 simp[aslice,optInt,h0,h1]
@[go_sem] theorem D3(P:Program)(h:Heap)(T:TypeId)(s:List UInt8)(k:IntKind)(r:Int)(h0:0≤r)(h1:r≤s.length):
  aslice P h T (.str s) none (some (.int k r)) none=if strT P T=true then some (.str (s.take r.toNat))else none:=by
 simp[aslice,optInt,h0,h1]
@[go_sem] theorem Bp(P:Program)(h:Heap)(T:TypeId)(s:List UInt8)(k k':IntKind)(l r:Int)(h0:0≤l)(h1:l≤r)(h2:r≤s.length):
  aslice P h T (.str s) (some (.int k l)) (some (.int k' r)) none=if strT P T=true then some (.str ((s.take r.toNat).drop l.toNat))else none:=by
 simp[aslice,optInt,h0,h1,h2]
section
variable {C:Ctx} {t:Env} {h:Heap}
theorem jP{o:Op}{t t2:Env}{K:AVal→Heap→Prop}(hx:∀x∈o.operands.toList,aev C.G t x=aev C.G t2 x):wpOp C o t h K=wpOp C o t2 h K:=by
 have pairs:∀ps:Array (Nat×Operand),(∀x∈ps.toList.map (·.2),aev C.G t x=aev C.G t2 x)→(ps.toList.map fun q=>aev C.G t q.2)=ps.toList.map fun q=>aev C.G t2 q.2:=fun ps hp=>
  T4 fun q hq=>hp q.2 (M7.2 ⟨q,hq,rfl⟩)
 have pairs2:∀ps:Array (Nat×Operand),(∀x∈ps.toList.map (·.2),aev C.G t x=aev C.G t2 x)→(ps.toList.map fun q=>(q.1,aev C.G t q.2))=ps.toList.map fun q=>(q.1,aev C.G t2 q.2):=fun ps hp=>
  T4 fun q hq=>by rw[hp q.2 (M7.2 ⟨q,hq,rfl⟩)]
 have arr:∀xs:Array Operand,(∀x∈xs.toList,aev C.G t x=aev C.G t2 x)→xs.toList.map (aev C.G t)=xs.toList.map (aev C.G t2):=fun xs hp=>T4 hp
 have opt:∀lo:Option Operand,(∀x∈lo.toList,aev C.G t x=aev C.G t2 x)→lo.map (aev C.G t)=lo.map (aev C.G t2):=fun lo hp=>by
  cases lo with|none=>rfl|some x=>simp[hp x (by simp)]
 cases o<;>simp only[Op.operands,Array.toList_map]at hx<;>simp only[wpOp]
 case build T ps=>rw[pairs2 ps hx]
 case buildSlice T n ps=>rw[pairs ps hx]
 case makeFunc fn first captured=>rw[arr first fun x hx'=>hx x (by simp at hx' ⊢;exact .inl hx'),arr captured fun x hx'=>hx x (by simp at hx' ⊢;exact .inr hx')]
 case slice T x lo hi mx=>
  rw[hx x (by simp),opt lo fun y hy=>hx y (by simp at hy ⊢;simp[hy]),opt hi fun y hy=>hx y (by simp at hy ⊢;simp[hy]),opt mx fun y hy=>hx y (by simp at hy ⊢;simp[hy])]
 case call c=>
  obtain⟨callee,args,Ts⟩:=c;have ha:=arr args fun x hx'=>hx x (by simp[Call.operands]at hx' ⊢;exact .inr hx')
  cases callee with
  |value f=>simp only[wpCall,ha,hx f (by simp[Call.operands])]
  |builtin b=>
   cases b<;>simp only[wpCall]
   case len=>
    obtain⟨args⟩:=args
    match args,hx with
    | [],_=>rfl
    | [x],hx=>have e:=hx x (by simp[Call.operands]);rcases Ts with⟨_| ⟨T0,_| ⟨T1,Tl⟩⟩⟩<;>first|rfl|simp only[e]
    |x::y::l,_=>rfl
   case clear=>
    obtain⟨args⟩:=args
    match args,hx with
    | [],_=>rfl
    | [x],hx=>have e:=hx x (by simp[Call.operands]);rcases Ts with⟨_| ⟨T0,_| ⟨T1,Tl⟩⟩⟩<;>first|rfl|simp only[e]
    |x::y::l,_=>rfl
   case append=>
    obtain⟨args⟩:=args
    match args,hx with
    | [],_=>rfl
    | [x],_=>rfl
    | [x,y],hx=>have e:=hx x (by simp[Call.operands]);have e':=hx y (by simp[Call.operands]);rcases Ts with⟨_| ⟨T0,_| ⟨T1,_| ⟨T2,Tl⟩⟩⟩⟩<;>first|rfl|simp only[e,e']
    |x::y::z::l,_=>rfl
   case delete=>
    obtain⟨args⟩:=args
    match args,hx with
    | [],_=>rfl
    | [x],_=>rfl
    | [x,y],hx=>have e:=hx x (by simp[Call.operands]);have e':=hx y (by simp[Call.operands]);rcases Ts with⟨_| ⟨T0,_| ⟨T1,_| ⟨T2,Tl⟩⟩⟩⟩<;>first|rfl|simp only[e,e']
    |x::y::z::l,_=>rfl
   case max=>
    obtain⟨args⟩:=args
    match args,hx with
    | [],_=>rfl
    | [x],_=>rfl
    | [x,y],hx=>have e:=hx x (by simp[Call.operands]);have e':=hx y (by simp[Call.operands]);simp only[e,e']
    |x::y::z::l,_=>rfl
   case min=>
    obtain⟨args⟩:=args
    match args,hx with
    | [],_=>rfl
    | [x],_=>rfl
    | [x,y],hx=>have e:=hx x (by simp[Call.operands]);have e':=hx y (by simp[Call.operands]);simp only[e,e']
    |x::y::z::l,_=>rfl
   case unsafeSliceData=>
    obtain⟨args⟩:=args
    match args,hx with
    | [],_=>rfl
    | [x],hx=>have e:=hx x (by simp[Call.operands]);simp only[e]
    |x::y::l,_=>rfl
   case unsafeString=>
    obtain⟨args⟩:=args
    match args,hx with
    | [],_=>rfl
    | [x],_=>rfl
    | [x,y],hx=>have e:=hx x (by simp[Call.operands]);have e':=hx y (by simp[Call.operands]);rcases Ts with⟨_| ⟨T0,_| ⟨T1,_| ⟨T2,Tl⟩⟩⟩⟩<;>first|rfl|simp only[e,e']
    |x::y::z::l,_=>rfl
  |invoke r m=>rfl
 all_goals (first|rfl| (simp_all;done))
theorem af{α:Type}{x:Option α}{f g:α→Prop}(hx:need x f)(hfg:∀a,f a→g a):need x g:=by
 cases x with
 |none=>exact hx
 |some a=>exact hfg a hx
theorem tv{P:Program}{op:BinOp}{T:TypeId}{x y:AVal}{k k':AVal→Prop}(i:∀v,k v→k' v)(g:binK P h op T x y k):binK P h op T x y k':=by
 unfold binK at g ⊢;split at g
 ·split at g
  ·rename_i hc;simp only[L7 hc];cases op<;>first|exact fun b=>i _ (g b)|exact g.elim
  ·exact g.elim
 ·exact af g fun v g=>i _ g
theorem mO{P:Program}{T:TypeId}{x y:AVal}{K K':AVal→Heap→Prop}(k:∀v h',K v h'→K' v h')(g:wpAppend P T x y h K):wpAppend P T x y h K':=by
 unfold wpAppend at*;refine af g fun e g=>af g fun n g=>af g fun b g=>af g fun ys g=>⟨g.1,g.2.1,?_⟩
 have g:=g.2.2;split at g
 ·exact⟨g.1,k _ _ g.2⟩
 ·refine af g fun q g=>?_
  obtain⟨e',m,rows⟩:=q;obtain⟨h1,h2,h3,h4,g⟩:=g;refine⟨h1,h2,h3,h4,?_⟩;split at g
  ·rename_i hr;rw[L7 hr];exact⟨g.1,k _ _ g.2⟩
  ·rename_i hr;rw[K4 hr];exact⟨g.1,g.2.1,k _ _ g.2.2⟩
 ·split at g
  ·rename_i hr;simp only[L7 hr];exact k _ _ g
  ·rename_i hr;simp only[K4 hr];exact⟨g.1,k _ _ g.2⟩
 ·exact g.elim
theorem rt{P:Program}{src dst:TypeId}{x:AVal}{k k':AVal→Prop}(i:∀v,k v→k' v)(g:convK P src dst x h k):convK P src dst x h k':=by
 unfold convK at g ⊢;split at g
 ·exact af g fun q g=>⟨g.1,g.2.1,i _ g.2.2⟩
 ·exact⟨g.1,af g.2 fun ys g=>af g fun bs g=>i _ g⟩
 ·exact⟨g.1,af g.2 fun ys g=>af g fun bs g=>i _ g⟩
 ·exact⟨g.1,i _ g.2⟩
 ·exact af g fun v g=>i _ g
theorem lU{p:Int→Int→Bool}{x y:AVal}{k k':AVal→Prop}(i:∀v,k v→k' v)(g:maxK p x y k):maxK p x y k':=by
 unfold maxK at g ⊢;split at g
 ·exact i _ g
 ·exact g.elim
theorem oX{x:AVal}{k k':AVal→Prop}(i:∀v,k v→k' v)(g:sdataK x h k):sdataK x h k':=by
 unfold sdataK at g ⊢;split at g
 ·refine⟨g.1,?_⟩;have g:=g.2;split at g
  ·rename_i hh;rw[L7 hh];exact i _ g
  ·rename_i hh;rw[K4 hh];exact i _ g
 ·exact i _ g
 ·exact g.elim
theorem ru{P:Program}{T:TypeId}{x y:AVal}{k k':AVal→Heap→Prop}(i:∀v h',k v h'→k' v h')(g:ustrK P T x y h k):ustrK P T x y h k':=by
 unfold ustrK at g ⊢;split at g
 ·split at g
  ·rename_i hm;rw[L7 hm];split at g
   ·exact i _ _ g
   ·exact g.elim
  ·rename_i hm;rw[K4 hm];split at g
   ·exact af g fun q g=>⟨g.1,g.2.1,g.2.2.1,g.2.2.2.1,af g.2.2.2.2 fun bs g=>i _ _ g⟩
   ·exact g.elim
 ·exact g.elim
theorem eB{o:Op}{K K':AVal→Heap→Prop}(k:∀v h',K v h'→K' v h')(g:wpOp C o t h K):wpOp C o t h K':=by
 cases o<;>simp only[wpOp]at g ⊢
 case move x=>exact k _ _ g
 case assign x=>exact k _ _ g
 case pick c a b=>split at g<;>first|exact⟨fun e=>k _ _ (g.1 e),fun e=>k _ _ (g.2 e)⟩|exact g.elim
 case alloc e=>exact af g fun z g=>⟨g.1,g.2.1,g.2.2.1,k _ _ g.2.2.2⟩
 case box e x=>exact⟨g.1,g.2.1,k _ _ g.2.2⟩
 case build T ps=>
  refine af g fun z g=>⟨g.1,?_⟩
  have g:=g.2;split at g
  ·exact af g fun cs g=>k _ _ g
  ·exact af g fun n g=>af g fun cs g=>k _ _ g
  ·exact g.elim
 case buildSlice T n ps=>
  refine af g fun e g=>af g fun m g=>?_
  split at g
  ·rename_i hn;rw[L7 hn];exact⟨g.1,k _ _ g.2⟩
  rename_i hn;rw[K4 hn];exact⟨g.1,g.2.1,g.2.2.1,g.2.2.2.1,g.2.2.2.2.1,g.2.2.2.2.2.1,g.2.2.2.2.2.2.1,g.2.2.2.2.2.2.2.imp (k _ _) (k _ _)⟩
 case load T x=>
  split at g
  ·exact af g fun v g=>k _ _ g
  ·exact af g fun q g=>af g fun r g=>af g fun v g=>k _ _ g
  ·exact g.elim
 case store T x y=>
  split at g
  ·exact af g fun q g=>af g fun r g=>⟨g.1,g.2.1,g.2.2.1,k _ _ g.2.2.2⟩
  ·exact g.elim
 case nilCheck x=>split at g<;>first|exact⟨g.1,k _ _ g.2⟩|exact k _ _ g|exact g.elim
 case binOp=>exact tv (fun v=>k _ _) g
 case unOp=>exact af g fun v g=>k _ _ g
 case convert=>exact rt (fun v=>k _ _) g
 case makeInterface=>exact⟨g.1,k _ _ g.2⟩
 case makeFunc=>exact k _ _ g
 case slice=>exact af g fun v g=>k _ _ g
 case fieldAddr T x f=>
  refine af g fun q g=>⟨g.1,?_⟩
  have g:=g.2;split at g
  ·exact⟨g.1,k _ _ g.2⟩
  ·exact⟨g.1,k _ _ g.2⟩
  ·exact g.elim
 case field T x f=>
  refine af g fun q g=>?_
  split at g
  ·exact af g fun v g=>k _ _ g
  ·exact g.elim
 case indexAddr T x i=>
  split at g
  ·split at g
   ·exact af g fun e g=>⟨g.1,g.2.1,g.2.2.1,af g.2.2.2 fun r g=>k _ _ g⟩
   ·exact af g fun e g=>af g fun q g=>⟨g.1,g.2.1,g.2.2.1,k _ _ g.2.2.2⟩
   ·exact af g fun q g=>af g fun m g=>⟨g.1,g.2.1,g.2.2.1,k _ _ g.2.2.2⟩
   ·exact af g fun q g=>af g fun m g=>⟨g.1,g.2.1,g.2.2.1,k _ _ g.2.2.2⟩
   ·exact g.elim
  ·exact g.elim
 case index T x i=>
  split at g
  ·split at g
   ·exact⟨g.1,g.2.1,af g.2.2 fun r g=>k _ _ g⟩
   ·exact af g fun q g=>af g fun m g=>⟨g.1,g.2.1,af g.2.2 fun r g=>k _ _ g⟩
   ·exact g.elim
  ·exact g.elim
 case extract x i=>
  split at g
  ·exact af g fun v g=>k _ _ g
  ·exact g.elim
 case range T x=>
  split at g
  ·exact⟨g.1,k _ _ g.2⟩
  ·exact⟨g.1,af g.2 fun q g=>k _ _ g⟩
  ·exact g.elim
 case entry x=>
  split at g
  ·split at g
   ·exact af g fun q g=>af g fun r g=>⟨g.1,af g.2 fun e g=>k _ _ g⟩
   ·exact g.elim
  ·exact g.elim
 case next x s=>
  split at g
  ·cases s with
   |true=>
    simp only at g ⊢;split at g
    ·exact⟨fun e=>k _ _ (g.1 e),fun e=>k _ _ (g.2 e)⟩
    ·exact g.elim
   |false=>
    simp only at g ⊢;split at g
    ·exact af g fun q g=>⟨g.1,fun e he hs=>k _ _ (g.2.1 e he hs),fun hn=>k _ _ (g.2.2 hn)⟩
    ·exact g.elim
  ·exact g.elim
 case makeMap T o=>exact⟨g.1,g.2.1,k _ _ g.2.2⟩
 case lookup T x i ok=>
  refine af g fun q g=>af g fun z g=>⟨g.1,g.2.1,?_⟩
  have g:=g.2.2;split at g
  ·exact k _ _ g
  ·exact af g fun q g=>af g fun r g=>k _ _ g
  ·exact g.elim
 case mapUpdate T x i v=>
  refine af g fun q g=>⟨g.1,?_⟩
  have g:=g.2;split at g
  ·exact af g fun q g=>af g fun r g=>k _ _ g
  ·exact g.elim
 case insert T x i v=>
  refine af g fun q g=>⟨g.1,?_⟩
  have g:=g.2;split at g
  ·exact af g fun q g=>af g fun r g=>k _ _ g
  ·exact g.elim
 case mapEntry T x i=>
  refine af g fun q g=>af g fun z g=>⟨g.1,g.2.1,?_⟩
  have g:=g.2.2;split at g
  ·refine af g fun q g=>af g fun r g=>?_
   split at g
   ·exact k _ _ g
   ·exact k _ _ g
  ·exact g.elim
 case entryStore T x s v=>
  split at g
  ·exact af g fun q g=>af g fun r g=>k _ _ g
  ·exact g.elim
 case call c=>
  unfold wpCall at*;simp only[]at g ⊢;split at g
  ·split at g
   ·exact af g fun n g=>k _ _ g
   ·exact g.elim
  ·split at g
   ·exact⟨g.1,mO k g.2⟩
   ·exact g.elim
  ·split at g
   ·exact lU (fun v=>k _ _) g
   ·exact g.elim
  ·split at g
   ·exact lU (fun v=>k _ _) g
   ·exact g.elim
  ·split at g
   ·exact oX (fun v=>k _ _) g
   ·exact g.elim
  ·split at g
   ·exact ru k g
   ·exact g.elim
  ·split at g
   ·refine af g fun q g=>⟨g.1,?_⟩
    have g:=g.2;split at g
    ·exact k _ _ g
    ·exact af g fun q g=>af g fun r g=>k _ _ g
    ·exact g.elim
   ·exact g.elim
  ·split at g
   ·unfold clrK at g ⊢;split at g
    ·exact af g fun e g=>af g fun q g=>⟨g.1,g.2.1,g.2.2.1,k _ _ g.2.2.2⟩
    ·exact g.elim
   ·exact g.elim
  ·exact g.elim
  ·unfold callK at g ⊢;split at g
   ·exact Sat.mono g k
   ·exact SatY.mono g k
   ·exact g.elim
  ·exact g.elim
 all_goals exact g.elim
theorem eh{ops:Array Oper}{o:Oper}{K K':Env→Heap→Prop}(g:wpOper C ops o t h K)(k:∀t' h',K t' h'→K' t' h'):wpOper C ops o t h K':=by
 unfold wpOper at*;split at g
 ·exact eB (fun v h'=>k _ _) g
 ·split at g
  ·exact⟨fun e=>eB (fun v h'=>k _ _) (g.1 e),fun e=>k _ _ (g.2 e)⟩
  ·exact g.elim
def wpOperV(C:Ctx)(ops:Array Oper)(o:Oper)(t:Env)(h:Heap)(K:AVal→Heap→Prop):Prop:=
 match o.guard with
 |none=>wpOp C o.op t h K
 |some (j,want)=>match guardA ops t j with
  |some b=>(b=some want→wpOp C o.op t h K)∧(b≠some want→K undefA h)
  |none=>False
theorem dJ(C:Ctx)(ops:Array Oper)(o:Oper)(t:Env)(h:Heap)(K:Env→Heap→Prop):wpOper C ops o t h K=wpOperV C ops o t h fun v h'=>K (put t o.dst v) h':=rfl
theorem bf{ops:Array Oper}{o:Oper}{t t2:Env}{K:AVal→Heap→Prop}(hx:∀d∈o.looksAt ops,t d=t2 d):wpOperV C ops o t h K=wpOperV C ops o t2 h K:=by
 have h1:∀x∈o.op.operands.toList,aev C.G t x=aev C.G t2 x:=fun x hm=>by
  cases x with
  |tmp d=>exact hx d (List.mem_append_left _ (List.mem_filterMap.2 ⟨.tmp d,hm,rfl⟩))
  |_=>rfl
 unfold wpOperV;cases hg:o.guard with
 |none=>exact jP h1
 |some q=>
  obtain⟨j,want⟩:=q;have h2:guardA ops t j=guardA ops t2 j:=by
   unfold guardA;cases hd:(ops[j]?).bind (·.dst)with
   |none=>rfl
   |some d=>simp only[];rw[hx d (by simp[Oper.looksAt,hg,hd])]
  simp only[h2,jP h1]
def WPp(C:Ctx)(ops:Array Oper):List Oper→Env→Heap→(Env→Prop)→Prop
 | [],t,_,K=>K t
 |o::rest,t,h,K=>∃v,(∀KK:AVal→Heap→Prop,KK v h→wpOperV C ops o t h KK)∧WPp C ops rest (put t o.dst v) h K
def T(V:Nat→AVal):List Oper→Env→Nat→Env
 | [],t,_=>t
 |_::_,t,0=>t
 |o::rest,t,i+1=>T (fun j=>V (j+1)) rest (put t o.dst (V 0)) i
theorem bS{ops:Array Oper}{K:Env→Prop}:∀(l:List Oper) (t:Env),WPp C ops l t h K→
  ∃V,(∀(i:Nat) (o:Oper),l[i]? =some o→∀KK:AVal→Heap→Prop,KK (V i) h→wpOperV C ops o (T V l t i) h KK)∧K (T V l t l.length)
 | [],t,g=>⟨fun _=>undefA,fun i o hi=>by simp at hi,g⟩
 |o::rest,t,⟨v,hv,g⟩=>by
  obtain⟨V,h1,h2⟩:=bS rest _ g;refine⟨fun i=>match i with|0=>v|i+1=>V i,fun i o' hi=>?_,h2⟩;cases i with
  |zero=>simp at hi;subst hi;exact hv
  |succ i=>exact h1 i o' (by simpa using hi)
theorem fm(V:Nat→AVal):∀(l:List Oper) (t:Env) (i:Nat) (o:Oper),l[i]? =some o→T V l t (i+1)=put (T V l t i) o.dst (V i)
 | [],t,i,o,hi=>by simp at hi
 |o'::rest,t,0,o,hi=>by
  simp at hi;subst hi;cases rest<;>rfl
 |o'::rest,t,i+1,o,hi=>by
  simp only[T];exact fm (fun j=>V (j+1)) rest _ i o (by simpa using hi)
theorem ip(V:Nat→AVal)(l:List Oper)(t:Env):T V l t 0=t:=by cases l<;>rfl
def drawOk(ops:Array Oper)(k:Nat):Bool:=
 let b:=Region.before ops
 (List.range ops.size).all fun j=>match ops[j]? with
  |none=>true
  |some oj=>(oj.after.all fun e=>decide (e.on<j))&&(List.range j).all fun i=>match ops[i]? with
   |none=>true
   |some oi=>
    (!(b.getD j 0).testBit i||oj.after.any fun e=>Region.binds .any e&&(e.on==i||(decide (i<e.on)&&(b.getD e.on 0).testBit i)))&&
    (if k≤j then(b.getD j 0).testBit i else((b.getD j 0).testBit i||oi.apart ops oj)&&(oi.dst.isNone||oi.dst !=oj.dst))
structure DrawOk (ops:Array Oper) (k:Nat) (c:Nat→Nat→Bool):Prop where
 less:∀(j:Nat) (oj:Oper),ops[j]? =some oj→∀e∈oj.after,e.on<j
 cert:∀(i j:Nat) (oj:Oper),ops[j]? =some oj→i<j→c i j=true→∃e∈oj.after,Region.binds .any e=true∧(e.on=i∨(i<e.on∧c i e.on=true))
 sfx:∀(i j:Nat) (oj:Oper),ops[j]? =some oj→i<j→k≤j→c i j=true
 pre:∀(i j:Nat) (oi oj:Oper),ops[i]? =some oi→ops[j]? =some oj→i<j→j<k→(c i j=true∨oi.apart ops oj=true)∧(∀d,oi.dst=some d→oj.dst≠some d)
theorem oY{ops:Array Oper}{k:Nat}(hk:drawOk ops k=true):DrawOk ops k fun i j=>((Region.before ops).getD j 0).testBit i:=by
 unfold drawOk at hk;simp only[O4,Q9]at hk;have key:∀(j:Nat) (oj:Oper),ops[j]? =some oj→(oj.after.all fun e=>decide (e.on<j))=true∧∀(i:Nat) (oi:Oper),ops[i]? =some oi→i<j→
   ((!((Region.before ops).getD j 0).testBit i||oj.after.any fun e=>Region.binds .any e&&(e.on==i||(decide (i<e.on)&&((Region.before ops).getD e.on 0).testBit i)))&&
    (if k≤j then((Region.before ops).getD j 0).testBit i else(((Region.before ops).getD j 0).testBit i||oi.apart ops oj)&&(oi.dst.isNone||oi.dst !=oj.dst)))=true:=by
  intro j oj hj;have:=hk j (N6.1 hj).1;rw[hj]at this;simp only[K5,O4,Q9]at this;refine⟨this.1,fun i oi hi hij=>?_⟩;have:=this.2 i hij;rw[hi]at this;simpa only[K5]using this
 have some_i:∀(i j:Nat) (oj:Oper),ops[j]? =some oj→i<j→∃oi,ops[i]? =some oi:=fun i j oj hj hij=>by
  have:=(N6.1 hj).1;exact⟨_,O2 (show i<ops.size by omega)⟩
 refine⟨fun j oj hj e he=>?_,fun i j oj hj hij hc=>?_,fun i j oj hj hij hkj=>?_,fun i j oi oj hi hj hij hjk=>?_⟩
 ·have:=(key j oj hj).1;rw[Array.all_eq_true_iff_forall_mem]at this;simpa using this e he
 ·obtain⟨oi,hi⟩:=some_i i j oj hj hij;have:=(key j oj hj).2 i oi hi hij;simp only[K5,P8,O6]at this;rcases this.1 with h1|h1
  ·rw[hc]at h1;cases h1
  ·obtain⟨e,he,h2⟩:=Array.any_eq_true'.1 h1;simp only[K5,P8,beq_iff_eq,K8]at h2;exact⟨e,he,h2.1,h2.2⟩
 ·obtain⟨oi,hi⟩:=some_i i j oj hj hij;have:=(key j oj hj).2 i oi hi hij;simp only[K5,L7 hkj]at this;exact this.2
 ·have:=(key j oj hj).2 i oi hi hij;simp only[K5,K4 (show ¬k≤j by omega),P8]at this;refine⟨this.2.1,fun d hd e=>?_⟩;rcases this.2.2 with h1|h1
  ·rw[hd]at h1;cases h1
  ·rw[hd,e]at h1;simp at h1
theorem eC{md:Region.Mode}{e:Edge}(hb:Region.binds .any e=true):Region.binds md e=true:=by
 unfold Region.binds at*;cases hg:e.ground<;>rw[hg]at hb<;>first|rfl| (cases hb;done)
def Closed(ops:Array Oper)(L:Array Bool):Prop:=∀(j:Nat) (oj:Oper),ops[j]? =some oj→L.getD j false=true→∀e∈oj.after,Region.binds .any e=true→L.getD e.on false=true
theorem Closed.bef{ops:Array Oper}{L:Array Bool}{k:Nat}{c:Nat→Nat→Bool}(D:DrawOk ops k c)(cl:Closed ops L):
  ∀(j:Nat) (oj:Oper),ops[j]? =some oj→∀i,i<j→c i j=true→(∀e∈oj.after,Region.binds .any e=true→L.getD e.on false=true)→L.getD i false=true:=by
 intro j;induction j using Nat.strongRecOn with
 |ind j ih=>
  intro oj hj i hij hc hl;obtain⟨e,he,hb,h1⟩:=D.cert i j oj hj hij hc;have h2:=hl e he hb;rcases h1 with rfl|h1
  ·exact h2
  ·have h3:=D.less j oj hj e he;have hsz:=(N6.1 hj).1;have hoe:ops[e.on]? =some ops[e.on]:=O2 (by omega);exact ih e.on h3 _ hoe i h1.1 h1.2 fun e' he' hb'=>cl e.on _ hoe h2 e' he' hb'
def Ag(ops:Array Oper)(k:Nat)(V:Nat→AVal)(t:Env)(p:Nat→Bool)(s:Env):Prop:=
 (∀(j:Nat) (o:Oper) (x:Nat),j<k→ops[j]? =some o→p j=true→o.dst=some x→s x=V j)∧
 (∀(x:Nat),(∀(j:Nat) (o:Oper),j<k→ops[j]? =some o→p j=true→o.dst≠some x)→s x=t x)
theorem Ag.eq{ops:Array Oper}{k:Nat}{V:Nat→AVal}{t s s':Env}{p:Nat→Bool}(g:Ag ops k V t p s)(g':Ag ops k V t p s'):s=s':=by
 funext x
 by_cases hx:∃(j:Nat) (o:Oper),j<k∧ops[j]? =some o∧p j=true∧o.dst=some x
 ·obtain⟨j,o,h1,h2,h3,h4⟩:=hx;rw[g.1 j o x h1 h2 h3 h4,g'.1 j o x h1 h2 h3 h4]
 ·have hn:∀(j:Nat) (o:Oper),j<k→ops[j]? =some o→p j=true→o.dst≠some x:=fun j o h1 h2 h3 h4=>hx ⟨j,o,h1,h2,h3,h4⟩
  rw[g.2 x hn,g'.2 x hn]
theorem Ag.put{ops:Array Oper}{k:Nat}{c:Nat→Nat→Bool}(D:DrawOk ops k c){V:Nat→AVal}{t s:Env}{p p':Nat→Bool}(g:Ag ops k V t p s){i:Nat}{o:Oper}(hi:ops[i]? =some o)(hk:i<k)
  (hp:∀j,j<k→p' j=(p j||j==i)):Ag ops k V t p' (put s o.dst (V i)):=by
 have uniq:∀(j:Nat) (oj:Oper) (x:Nat),j<k→ops[j]? =some oj→oj.dst=some x→o.dst=some x→j=i:=fun j oj x hj hoj h1 h2=>by
  rcases U1 j i with h3|h3|h3
  ·exact absurd h2 ((D.pre j i oj o hoj hi h3 hk).2 x h1)
  ·exact h3
  ·exact absurd h1 ((D.pre i j o oj hi hoj h3 hj).2 x h2)
 refine⟨fun j oj x hj hoj hpj hd=>?_,fun x hn=>?_⟩
 ·by_cases hji:j=i
  ·subst hji;rw[hoj]at hi;cases hi;simp[Av.put,hd,upd]
  ·have:o.dst≠some x:=fun e=>hji (uniq j oj x hj hoj hd e)
   have hs:(Av.put s o.dst (V i)) x=s x:=by
    cases hdo:o.dst with
    |none=>rfl
    |some d=>simp only[Av.put,upd];rw[K4];intro e;subst e;exact this hdo
   rw[hs];exact g.1 j oj x hj hoj (by have:=hp j hj;rw[hpj]at this;simpa [hji]using this.symm) hd
 ·have:o.dst≠some x:=hn i o hk hi (by rw[hp i hk];simp);have hs:(Av.put s o.dst (V i)) x=s x:=by
   cases hdo:o.dst with
   |none=>rfl
   |some d=>simp only[Av.put,upd];rw[K4];intro e;subst e;exact this hdo
  rw[hs];exact g.2 x fun j oj hj hoj hpj=>hn j oj hj hoj (by rw[hp j hj,hpj];rfl)
theorem Ag.start(ops:Array Oper)(k:Nat)(V:Nat→AVal)(t:Env){p:Nat→Bool}(hp:∀j,j<k→p j=false):Ag ops k V t p t:=
 ⟨fun j o x hj _ hpj=>absurd ((hp j hj).symm.trans hpj) Bool.false_ne_true,fun _ _=>rfl⟩
theorem Ag.T{ops:Array Oper}{k:Nat}{c:Nat→Nat→Bool}(D:DrawOk ops k c)(V:Nat→AVal)(t:Env)(hkn:k≤ops.size):∀i,i≤k→Ag ops k V t (fun j=>decide (j<i)) (Av.T V (ops.toList.take k) t i)
 |0,_=>by rw[ip];exact Ag.start ops k V t fun j _=>by simp
 |i+1,hi=>by
  have ih:=Ag.T D V t hkn i (by omega);have ho:ops[i]? =some (ops[i]'(by omega)):=O2 _;have ho2:(ops.toList.take k)[i]? =some (ops[i]'(by omega)):=by rw[R9,L7 (by omega)];simp
  rw[fm V _ t i _ ho2];refine ih.put D ho (by omega) fun j hj=>?_
  by_cases h1:j<i
  ·have h2:j<i+1:=(by omega);simp[h1,h2]
  ·by_cases h2:j=i
   ·subst h2;simp
   ·have h3:¬j<i+1:=(by omega);have h4:(j==i)=false:=(by simpa using h2);simp[h1,h3,h4]
theorem Ag.sees{ops:Array Oper}{k:Nat}{c:Nat→Nat→Bool}(D:DrawOk ops k c){V:Nat→AVal}{t s:Env}{L:Array Bool}(cl:Closed ops L)(g:Ag ops k V t (fun j=>L.getD j false) s)
  {i:Nat}{o:Oper}(hi:ops[i]? =some o)(hk:i<k)(hkn:k≤ops.size)(hun:L.getD i false=false)(hrd:∀e∈o.after,Region.binds .any e=true→L.getD e.on false=true):
  ∀d∈o.looksAt ops,Av.T V (ops.toList.take k) t i d=s d:=by
 intro d hd;have gT:=Ag.T D V t hkn i (by omega);by_cases hx:∃(j:Nat) (oj:Oper),j<k∧ops[j]? =some oj∧oj.dst=some d
 ·obtain⟨j,oj,hj,hoj,hdj⟩:=hx;have uniq:∀(j':Nat) (o':Oper),j'<k→ops[j']? =some o'→o'.dst=some d→j'=j:=fun j' o' hj' ho' h1=>by
   rcases U1 j' j with h3|h3|h3
   ·exact absurd hdj ((D.pre j' j o' oj ho' hoj h3 hj).2 d h1)
   ·exact h3
   ·exact absurd h1 ((D.pre j j' oj o' hoj ho' h3 hj').2 d hdj)
  rcases U1 j i with h3|h3|h3
  ·have hc:c j i=true:=by
    rcases(D.pre j i oj o hoj hi h3 hk).1 with h4|h4
    ·exact h4
    ·exact absurd hd ((Oper.apart_spec h4).1 d hdj)
   have hl:=cl.bef D i o hi j h3 hc hrd;rw[gT.1 j oj d hj hoj (by simpa using h3) hdj,g.1 j oj d hj hoj hl hdj]
  ·subst h3;rw[gT.2 d fun j' o' hj' ho' hp h1=>by have:=uniq j' o' hj' ho' h1;subst this;simp at hp,
    g.2 d fun j' o' hj' ho' hp h1=>by have:=uniq j' o' hj' ho' h1;subst this;simp only[hun]at hp;cases hp]
  ·have hc:c i j=true:=by
    rcases(D.pre i j o oj hi hoj h3 hj).1 with h4|h4
    ·exact h4
    ·exact absurd hd ((Oper.apart_spec h4).2.2 d hdj)
   have hl:L.getD j false=false:=by
    cases hlj:L.getD j false with
    |false=>rfl
    |true=>have:=cl.bef D j oj hoj i h3 hc (cl j oj hoj hlj);rw[hun]at this;cases this
   rw[gT.2 d fun j' o' hj' ho' hp h1=>by have:=uniq j' o' hj' ho' h1;subst this;simp at hp;omega,
    g.2 d fun j' o' hj' ho' hp h1=>by have:=uniq j' o' hj' ho' h1;subst this;simp only[hl]at hp;cases hp]
 ·have hn:∀(j:Nat) (oj:Oper),j<k→ops[j]? =some oj→oj.dst≠some d:=fun j oj h1 h2 h3=>hx ⟨j,oj,h1,h2,h3⟩
  rw[gT.2 d fun j oj h1 h2 _=>hn j oj h1 h2,g.2 d fun j oj h1 h2 _=>hn j oj h1 h2]
theorem Closed.set{ops:Array Oper}{L:Array Bool}(cl:Closed ops L){i:Nat}{o:Oper}(hi:ops[i]? =some o)(hrd:∀e∈o.after,Region.binds .any e=true→L.getD e.on false=true):
  Closed ops (L.setIfInBounds i true):=by
 intro j oj hj hl e he hb;by_cases hji:i=j
 ·subst hji;rw[hi]at hj;cases hj;exact getD_set_true (hrd e he hb)
 ·rw[getD_set_ne false hji]at hl;exact getD_set_true (cl j oj hj hl e he hb)
def left(ops:Array Oper)(L:Array Bool):Nat:=((List.range ops.size).filter fun i=> !L.getD i true).length
theorem eD{ops:Array Oper}{L:Array Bool}(hs:L.size=ops.size)(h0:left ops L=0):∀i,i<ops.size→L.getD i false=true:=by
 intro i hi;have h1:(List.range ops.size).filter (fun i=> !L.getD i true)=[]:=Q2.1 h0;have h2:=List.filter_eq_nil_iff.1 h1 i (Q9.2 hi);have h3:i<L.size:=by omega
 simp[h3]at h2 ⊢;exact h2
theorem gg(p:Nat→Bool)(i:Nat)(hp:p i=true):∀(l:List Nat),l.Nodup→i∈l→(l.filter fun j=>p j&&j !=i).length+1=(l.filter p).length
 | [],_,hm=>by cases hm
 |x::l,hn,hm=>by
  obtain⟨hx,hn⟩:=X4.1 hn;by_cases hxi:x=i
  ·subst hxi;have:(l.filter fun j=>p j&&j !=x)=l.filter p:=U6 fun j hj=>by
    have:j≠x:=fun e=>hx (e▸hj)
    simp[this]
   simp[hp,this]
  ·have hm:i∈l:=(N0.1 hm).resolve_left fun h1=>absurd h1.symm hxi
   have ih:=gg p i hp l hn hm;by_cases hpx:p x=true
   ·simp[V8,hpx,hxi];omega
   ·simp[V8,hpx];exact ih
theorem dK{ops:Array Oper}{L:Array Bool}(hs:L.size=ops.size){i:Nat}(hi:i<ops.size)(hun:L.getD i false=false):left ops (L.setIfInBounds i true)+1=left ops L:=by
 have h3:i<L.size:=by omega
 have hp:(!L.getD i true)=true:=by simp[h3]at hun ⊢;exact hun
 have:=gg (fun j=> !L.getD j true) i hp (List.range ops.size) List.nodup_range (Q9.2 hi);unfold left;rw[← this];congr 2
 refine U6 fun j hj=>?_
 by_cases hji:i=j
 ·subst hji;simp[h3]
 ·rw[getD_set_ne true hji];have:(j !=i)=true:=by simp;exact fun e=>hji e.symm
  rw[this,Bool.and_true]
theorem jQ{ops:Array Oper}{L:Array Bool}{k:Nat}{c:Nat→Nat→Bool}(D:DrawOk ops k c)(md:Region.Mode)(hs:L.size=ops.size)(hne:left ops L≠0):Region.ready md ops L≠ []:=by
 have hex:∃i,i<ops.size∧L.getD i false=false:=by
  refine Q4 fun hno=>hne ?_
  unfold left;rw[Q2,List.filter_eq_nil_iff];intro i hi;have hi:=Q9.1 hi;have h3:i<L.size:=by omega
  have:L.getD i false=true:=by
   cases hl:L.getD i false with
   |true=>rfl
   |false=>exact absurd ⟨i,hi,hl⟩ hno
  simp[h3]at this ⊢;exact this
 have hmin:∃i,i<ops.size∧L.getD i false=false∧∀j,j<i→L.getD j false=true:=by
  obtain⟨i,hi,hl⟩:=hex;induction i using Nat.strongRecOn with
  |ind i ih=>
   by_cases hall:∀j,j<i→L.getD j false=true
   ·exact⟨i,hi,hl,hall⟩
   ·have:∃j,j<i∧L.getD j false=false:=Q4 fun hno=>hall fun j hj=>by
     cases hlj:L.getD j false with
     |true=>rfl
     |false=>exact absurd ⟨j,hj,hlj⟩ hno
    obtain⟨j,hj,hlj⟩:=this;exact ih j hj (by omega) hlj
 obtain⟨i,hi,hl,hall⟩:=hmin;have h3:i<L.size:=by omega
 intro e;have:i∈Region.ready md ops L:=mem_ready.2 ⟨by simp[h3]at hl ⊢;exact hl,ops[i],O2 hi,fun e he _=>hall _ (D.less i _ (O2 hi) e he)⟩;rw[e]at this;cases this
theorem bJ{α:Type}{l:List α}(h:l≠ [])(n:Nat):∃x,l[n%l.length]? =some x∧x∈l:=by
 have hlt:n%l.length<l.length:=Nat.mod_lt _ (T5.2 h);exact⟨l[n%l.length],K6 hlt,List.getElem_mem hlt⟩
theorem da(md:Region.Mode)(ops:Array Oper)(fuel n:Nat)(L:Array Bool){i:Nat}(hi:(Region.ready md ops L)[n%(Region.ready md ops L).length]? =some i):
  Region.linearise.go md ops (fuel+1) n L []=i::Region.linearise.go md ops fuel (n/(Region.ready md ops L).length) (L.setIfInBounds i true) []:=by
 simp only[Region.linearise.go]
 change (match (Region.ready md ops L)[n%(Region.ready md ops L).length]? with
   |some i=>Region.linearise.go md ops fuel (n/(Region.ready md ops L).length) (L.setIfInBounds i true) [i]
   |none=>[].reverse)=_
 rw[hi];simp only[];rw[linearise_go_acc];rfl
theorem tw{ops:Array Oper}{Q:Exit→Env→Heap→Prop}{k:Nat}{c:Nat→Nat→Bool}(D:DrawOk ops k c)(md:Region.Mode):∀(fuel n m:Nat) (L:Array Bool) (t:Env) (h:Heap),L.size=ops.size→left ops L=fuel→k≤m→
  (∀i,i<ops.size→L.getD i false=decide (i<m))→WPl C ops Q (ops.toList.drop m) t h→WPix C ops Q (Region.linearise.go md ops fuel n L []) t h:=by
 intro fuel;induction fuel with
 |zero=>
  intro n m L t h hs hl hk hL g;have hall:=eD hs hl;have hm:ops.size≤m:=Nat.le_of_not_lt fun hlt=>by
   have h1:=hall m hlt;rw[hL m hlt]at h1;simp at h1
  rw[X8 (by simpa using hm)]at g;simpa [Region.linearise.go,WPix,WPl]using g
 |succ fuel ih=>
  intro n m L t h hs hl hk hL g;obtain⟨i,hi,hmem⟩:=bJ (jQ D md hs (by omega)) n;rw[da md ops fuel n L hi];obtain⟨hun,o,ho,hrd⟩:=mem_ready.1 hmem;have hlt:=(N6.1 ho).1;have h3:i<L.size:=by omega
  have hun':L.getD i false=false:=by simp[h3]at hun ⊢;exact hun
  have him:¬i<m:=by rw[hL i hlt]at hun';simpa using hun'
  have hrd':∀e∈o.after,Region.binds .any e=true→L.getD e.on false=true:=fun e he hb=>hrd e he (eC hb)
  have cl:Closed ops L:=fun j oj hj hlj e he hb=>by
   have hj':=(N6.1 hj).1;have h4:=D.less j oj hj e he;rw[hL j hj']at hlj;rw[hL e.on (by omega)];simp at hlj ⊢;omega
  have hmi:i=m:=by
   refine Q4 fun hne=>?_
   have h5:m<i:=(by omega);have h6:=cl.bef D i o ho m h5 (D.sfx m i o ho h5 (by omega)) hrd';rw[hL m (by omega)]at h6;simp at h6
  subst hmi;have hd:ops.toList.drop i=o::ops.toList.drop (i+1):=by
   have:ops.toList[i]? =some o:=by simpa using ho
   obtain⟨h7,rfl⟩:=f9.1 this;exact Z3 h7
  rw[hd]at g;simp only[WPix,ho];simp only[WPl]at g;refine eh g fun t' h' g'=>ih _ (i+1) _ t' h' (by simpa using hs) (by have:=dK hs hlt hun';omega) (by omega) (fun j hj=>?_) g'
  by_cases hji:i=j
  ·subst hji;simp[h3]
  ·rw[getD_set_ne false hji,hL j hj];simp;omega
theorem tz{ops:Array Oper}{Q:Exit→Env→Heap→Prop}{k:Nat}{c:Nat→Nat→Bool}(D:DrawOk ops k c)(md:Region.Mode)(hkn:k≤ops.size){V:Nat→AVal}{t0:Env}{h:Heap}
  (hv:∀(i:Nat) (o:Oper),(ops.toList.take k)[i]? =some o→∀KK:AVal→Heap→Prop,KK (V i) h→wpOperV C ops o (Av.T V (ops.toList.take k) t0 i) h KK)
  (hK:WPl C ops Q (ops.toList.drop k) (Av.T V (ops.toList.take k) t0 k) h):
  ∀(fuel n:Nat) (L:Array Bool) (s:Env),L.size=ops.size→left ops L=fuel→Closed ops L→(∀j,j<ops.size→L.getD j false=true→j<k)→Ag ops k V t0 (fun j=>L.getD j false) s→
   WPix C ops Q (Region.linearise.go md ops fuel n L []) s h:=by
 have fin:∀(fuel n:Nat) (L:Array Bool) (s:Env),L.size=ops.size→left ops L=fuel→(∀j,j<ops.size→L.getD j false=decide (j<k))→Ag ops k V t0 (fun j=>L.getD j false) s→
   WPix C ops Q (Region.linearise.go md ops fuel n L []) s h:=fun fuel n L s hs hl hL ag=>by
  have h1:=Ag.T D V t0 hkn k (M0 _);have h2:Ag ops k V t0 (fun j=>decide (j<k)) s:=⟨fun j o x hj ho hp hd=>ag.1 j o x hj ho (by show L.getD j false=true;rw[hL j (by omega)];exact hp) hd,
   fun x hn=>ag.2 x fun j o hj ho hp=>hn j o hj ho (by simpa using hj)⟩
  have:=h2.eq h1;subst this;exact tw D md fuel n k L _ h hs hl (M0 _) hL hK
 intro fuel;induction fuel with
 |zero=>
  intro n L s hs hl cl hlt ag;have hall:=eD hs hl;refine fin 0 n L s hs hl (fun j hj=>?_) ag;rw[hall j hj];have:=hlt j hj (hall j hj);simp[this]
 |succ fuel ih=>
  intro n L s hs hl cl hlt ag;obtain⟨i,hi,hmem⟩:=bJ (jQ D md hs (by omega)) n;obtain⟨hun,o,ho,hrd⟩:=mem_ready.1 hmem;have hin:=(N6.1 ho).1;have h3:i<L.size:=by omega
  have hun':L.getD i false=false:=by simp[h3]at hun ⊢;exact hun
  have hrd':∀e∈o.after,Region.binds .any e=true→L.getD e.on false=true:=fun e he hb=>hrd e he (eC hb)
  by_cases hk:i<k
  ·rw[da md ops fuel n L hi];simp only[WPix,ho];rw[dJ];have ho2:(ops.toList.take k)[i]? =some o:=(by rw[R9,L7 hk];simpa using ho);rw[← bf (t:=Av.T V (ops.toList.take k) t0 i) (ag.sees D cl ho hk hkn hun' hrd')];refine hv i o ho2 _ ?_;refine ih _ _ _ (by simpa using hs) (by have:=dK hs hin hun';omega) (cl.set ho hrd') (fun j hj hlj=>?_) (ag.put D ho hk fun j hj=>?_)
   ·by_cases hji:i=j
    ·subst hji;exact hk
    ·rw[getD_set_ne false hji]at hlj;exact hlt j hj hlj
   ·by_cases hji:i=j
    ·subst hji;simp[h3]
    ·rw[getD_set_ne false hji];have:(j==i)=false:=by simp;exact fun e=>hji e.symm
     rw[this,Bool.or_false]
  ·refine fin (fuel+1) n L s hs hl (fun j hj=>?_) ag;by_cases hjk:j<k
   ·have:=cl.bef D i o ho j (by omega) (D.sfx j i o ho (by omega) (by omega)) hrd';rw[this];simp[hjk]
   ·cases hlj:L.getD j false with
    |false=>simp[hjk]
    |true=>exact absurd (hlt j hj hlj) hjk
theorem l8{id:Nat}{l:List Oper}{Q:Exit→Env→Heap→Prop}(k:Nat)(hok:(drawOk l.toArray k&&decide (k≤l.length))=true)
  (hh:WPp C l.toArray (l.take k) t h fun t'=>WPl C l.toArray Q (l.drop k) t' h):WP C (.region id l.toArray true) Q t h:=by
 simp only[K5,K8]at hok;have D:=oY hok.1;obtain⟨V,hv,hK⟩:=bS _ _ hh;have hlen:(l.take k).length=k:=by simp[hok.2]
 rw[hlen]at hK;have main:∀md n,WPix C l.toArray Q (Region.linearise md l.toArray n) t h:=fun md n=>by
  unfold Region.linearise;refine tz D md (by simpa using hok.2) (V:=V) (t0:=t) hv hK _ _ _ _ (by simp) ?_ (fun j oj hj hl=>?_) (fun j hj hl=>?_) (Ag.start _ _ _ _ fun j hj=>?_)
  ·unfold left;have:(List.range l.toArray.size).filter (fun i=> !(Array.replicate l.toArray.size false).getD i true)=List.range l.toArray.size:=by
    rw[T7];intro i hi;have:=Q9.1 hi;have h8:i<(Array.replicate l.toArray.size false).size:=(by simpa using this);simp at this ⊢;simp[this]
   rw[this,X2]
  ·have h8:=(N6.1 hj).1;simp at h8 hl;simp[h8]at hl
  ·simp at hj hl;simp[hj]at hl
  ·have:j<l.length:=by omega
   simp[this]
 show ∀tp,WPix C l.toArray Q (Region.schedule (C.P.follows .mixedOrders) l.toArray tp) t h;intro tp;unfold Region.schedule;split
 ·exact main _ _
 ·exact main _ _
end
section
variable {C:Ctx} {ops:Array Oper} {rest:List Oper} {t:Env} {h:Heap} {K:Env→Prop} {dst:Option Nat} {ty:TypeId} {pos:String} {aft:Array Edge}
def Det(E:(AVal→Prop)→Prop):Prop:=∀R,E R↔∃v,(∀KK:AVal→Prop,KK v→E KK)∧R v
theorem Det.pure(a:AVal):Det fun k=>k a:=fun R=>⟨fun g=>⟨a,fun _ k=>k,g⟩,fun⟨v,h1,h2⟩=>by have:=h1 (fun x=>x=v) rfl;rw[this];exact h2⟩
theorem Det.false:Det fun _=>False:=fun R=>⟨fun g=>g.elim,fun⟨_,h1,_⟩=>h1 (fun _=>True) trivial⟩
theorem Det.and{c:Prop}{E:(AVal→Prop)→Prop}(d:Det E):Det fun k=>c∧E k:=fun R=>
 ⟨fun g=>by obtain⟨v,h1,h2⟩:=(d R).1 g.2;exact⟨v,fun KK k=>⟨g.1,h1 KK k⟩,h2⟩,
 fun⟨v,h1,h2⟩=>⟨(h1 (fun _=>True) trivial).1,(d R).2 ⟨v,fun KK k=>(h1 KK k).2,h2⟩⟩⟩
theorem Det.need{α:Type}(x:Option α){f:α→(AVal→Prop)→Prop}(d:∀a,Det (f a)):Det fun k=>Av.need x fun a=>f a k:=by
 cases x with
 |none=>exact Det.false
 |some a=>exact d a
theorem Det.need'(x:Option AVal):Det fun k=>Av.need x k:=by
 cases x with
 |none=>exact Det.false
 |some a=>exact Det.pure a
theorem bd{op:Op}{E:(AVal→Prop)→Prop}(d:Det E)(hE:∀KK:AVal→Heap→Prop,wpOp C op t h KK=E fun v=>KK v h):
  WPp C ops (⟨dst,op,ty,pos,aft,none⟩::rest) t h K=E fun v=>WPp C ops rest (put t dst v) h K:=by
 apply propext
 show(∃v,(∀KK:AVal→Heap→Prop,KK v h→wpOp C op t h KK)∧WPp C ops rest (put t dst v) h K)↔_;rw[d (fun v=>WPp C ops rest (put t dst v) h K)];constructor
 ·rintro⟨v,h1,h2⟩;exact⟨v,fun KK k=>by have:=h1 (fun v _=>KK v) k;rw[hE]at this;exact this,h2⟩
 ·rintro⟨v,h1,h2⟩;exact⟨v,fun KK k=>by rw[hE];exact h1 (fun v=>KK v h) k,h2⟩
@[go_sem] theorem Gx:WPp C ops [] t h K=K t:=(rfl)
@[go_sem] theorem vl(x:Operand):WPp C ops (⟨dst,.move x,ty,pos,aft,none⟩::rest) t h K=WPp C ops rest (put t dst (aev C.G t x)) h K:=bd (Det.pure _) fun _=>rfl
@[go_sem] theorem Bq(x:Operand):WPp C ops (⟨dst,.assign x,ty,pos,aft,none⟩::rest) t h K=WPp C ops rest (put t dst (aev C.G t x)) h K:=bd (Det.pure _) fun _=>rfl
theorem Det.pick(c a b:AVal):Det (pickK c a b):=by
 cases c<;>first|exact Det.false|skip
 rename_i q;intro R;simp only[pickK];constructor
 ·intro g;refine⟨if q=true then a else b,fun KK k=>?_,?_⟩
  ·cases q<;>simp at k ⊢ <;>exact k
  ·cases q<;>simp at g ⊢ <;>exact g
 ·rintro⟨v,h1,h2⟩;have:=h1 (fun x=>x=v) rfl;cases q<;>simp at this ⊢ <;>rw[this]<;>exact h2
@[go_sem] theorem Fc(c x y:Operand):WPp C ops (⟨dst,.pick c x y,ty,pos,aft,none⟩::rest) t h K=pickK (aev C.G t c) (aev C.G t x) (aev C.G t y) (fun v=>WPp C ops rest (put t dst v) h K):=
 bd (Det.pick _ _ _) fun _=>rfl
theorem Det.load(C:Ctx)(T:TypeId)(x:AVal)(h:Heap):Det (loadK C T x h):=by
 cases x with
 |ad cs=>exact Det.need' (pickT C.P T cs)
 |hp p ver i off=>exact Det.need (getRow h p ver) fun q=>Det.need (q.2.2[i]?) fun r=>Det.need' (pickT C.P T (r.cells.drop off))
 |_=>exact Det.false
@[go_sem] theorem Ff(T:TypeId)(x:Operand):WPp C ops (⟨dst,.load T x,ty,pos,aft,none⟩::rest) t h K=loadK C T (aev C.G t x) h (fun v=>WPp C ops rest (put t dst v) h K):=
 bd (Det.load _ _ _ _) fun KK=>by simp only[wpOp,loadK];generalize aev C.G t x=v;cases v<;>rfl
def nilV(x:AVal)(h:Heap)(k:AVal→Prop):Prop:=nilK x h (k x)
theorem Det.nilC(x:AVal)(h:Heap):Det (nilV x h):=by
 unfold nilV;cases x<;>simp only[nilK]<;>first|exact Det.false|exact Det.pure _|exact Det.and (Det.pure _)|skip
 rename_i f _ _;cases f<;>first|exact Det.pure _|exact Det.false
@[go_sem] theorem yW(x:Operand):WPp C ops (⟨dst,.nilCheck x,ty,pos,aft,none⟩::rest) t h K=nilK (aev C.G t x) h (WPp C ops rest (put t dst (aev C.G t x)) h K):=
 bd (E:=nilV (aev C.G t x) h) (Det.nilC _ _) fun KK=>by
  simp only[wpOp,nilV,nilK];generalize aev C.G t x=v;cases v<;>first|rfl| (rename_i f _ _;cases f<;>rfl)
@[go_sem] theorem D4(op:BinOp)(T T':TypeId)(x y:Operand):WPp C ops (⟨dst,.binOp op T x y T',ty,pos,aft,none⟩::rest) t h K=
  need (abin C.P h op T (aev C.G t x) (aev C.G t y)) fun v=>WPp C ops rest (put t dst v) h K:=by
 have key:∀KK:AVal→Heap→Prop,(∃v,∀u h',KK u h'→u=v)→wpOp C (.binOp op T x y T') t h KK→need (abin C.P h op T (aev C.G t x) (aev C.G t y)) fun v=>KK v h:=by
  intro KK ⟨v,hv⟩ g;simp only[wpOp]at g;unfold binK at g;split at g
  ·split at g
   ·exfalso;cases op<;>first|exact g.elim| (have h1:=hv _ _ (g true);have h2:=hv _ _ (g false);rw[← h2]at h1;cases h1)
   ·exact g.elim
  ·exact g
 have back:∀KK:AVal→Heap→Prop,(need (abin C.P h op T (aev C.G t x) (aev C.G t y)) fun v=>KK v h)→wpOp C (.binOp op T x y T') t h KK:=by
  intro KK g;simp only[wpOp];unfold binK;split
  ·rename_i n h1 h2;rw[h1,h2]at g;have e0:abin C.P h op T (.sl n []) (.nil (.slice none 0 0))=none:=by
    simp only[abin,aeqNil];split
    ·cases op<;>rfl
    ·rfl
   rw[e0]at g;exact g.elim
  ·exact g
 apply propext
 show(∃v,(∀KK:AVal→Heap→Prop,KK v h→wpOp C (.binOp op T x y T') t h KK)∧WPp C ops rest (put t dst v) h K)↔_;have hd:=Det.need' (abin C.P h op T (aev C.G t x) (aev C.G t y)) (fun v=>WPp C ops rest (put t dst v) h K);refine Iff.trans ?_ hd.symm;constructor
 ·rintro⟨v,h1,h2⟩;refine⟨v,fun KK k=>?_,h2⟩;have:=key (fun u h'=>u=v∧KK v) ⟨v,fun u h' e=>e.1⟩ (h1 _ ⟨rfl,k⟩);exact af this fun a e=>by rw[e.1];exact e.2
 ·rintro⟨v,h1,h2⟩;exact⟨v,fun KK k=>back KK (h1 (fun u=>KK u h) k),h2⟩
@[go_sem] theorem Fg(op:UnOp)(T:TypeId)(x:Operand):WPp C ops (⟨dst,.unOp op T x,ty,pos,aft,none⟩::rest) t h K=
  need (aun op (aev C.G t x)) fun v=>WPp C ops rest (put t dst v) h K:=bd (Det.need' _) fun _=>rfl
theorem Det.max(p:Int→Int→Bool)(x y:AVal):Det (maxK p x y):=by
 unfold maxK;split
 ·exact Det.pure _
 ·exact Det.false
@[go_sem] theorem Gy(x y:Operand)(Ts:Array TypeId):WPp C ops (⟨dst,.call ⟨.builtin .max, #[x,y],Ts⟩,ty,pos,aft,none⟩::rest) t h K=
  maxK (fun a b=>decide (b>a)) (aev C.G t x) (aev C.G t y) fun v=>WPp C ops rest (put t dst v) h K:=bd (Det.max _ _ _) fun _=>rfl
theorem Det.sdata(x:AVal)(h:Heap):Det (sdataK x h):=by
 unfold sdataK;split
 ·refine Det.and ?_;split
  ·exact Det.pure _
  ·exact Det.pure _
 ·exact Det.pure _
 ·exact Det.false
@[go_sem] theorem D5(x:Operand)(Ts:Array TypeId):WPp C ops (⟨dst,.call ⟨.builtin .unsafeSliceData, #[x],Ts⟩,ty,pos,aft,none⟩::rest) t h K=
  sdataK (aev C.G t x) h fun v=>WPp C ops rest (put t dst v) h K:=bd (Det.sdata _ _) fun _=>rfl
@[go_sem] theorem D6(T:TypeId)(x:Operand)(lo hi mx:Option Operand):WPp C ops (⟨dst,.slice T x lo hi mx,ty,pos,aft,none⟩::rest) t h K=
  need (aslice C.P h T (aev C.G t x) (lo.map (aev C.G t)) (hi.map (aev C.G t)) (mx.map (aev C.G t))) fun v=>WPp C ops rest (put t dst v) h K:=bd (Det.need' _) fun _=>rfl
theorem Det.field(x:AVal)(o:Nat)(h:Heap):Det (fieldK x o h):=by
 cases x with
 |hp p ver i off=>exact Det.and (Det.pure (.hp p ver i (off+o)))
 |ad cs=>exact Det.and (Det.pure (.ad (cs.drop o)))
 |_=>exact Det.false
@[go_sem] theorem yE(T:TypeId)(x:Operand)(f:Nat):WPp C ops (⟨dst,.fieldAddr T x f,ty,pos,aft,none⟩::rest) t h K=
  need (fOff C.P T f) fun q=>q.2.2≠0∧fieldK (aev C.G t x) q.1 h (fun v=>WPp C ops rest (put t dst v) h K):=
 bd (E:=fun k=>need (fOff C.P T f) fun q=>q.2.2≠0∧fieldK (aev C.G t x) q.1 h k) (Det.need _ fun q=>Det.and (Det.field _ _ _)) fun KK=>by
  simp only[wpOp,fieldK];cases fOff C.P T f<;>first|rfl| (simp only[ba];generalize aev C.G t x=v;cases v<;>rfl)
theorem Det.index(C:Ctx)(T:TypeId)(x i:AVal)(h:Heap):Det (indexK C T x i h):=by
 cases i with
 |int kd n=>
  cases x with
  |sl m es=>exact Det.need (elmT C.P T) fun e=>Det.and (Det.and (Det.and (Det.need (es[n.toNat]?) fun r=>Det.pure (.ad r.cells))))
  |hs p ver off len room=>exact Det.need (elmT C.P T) fun e=>Det.need (getRow h p ver) fun q=>Det.and (Det.and (Det.and (Det.pure (.hp p ver (off+n.toNat) 0))))
  |hp p ver j off=>exact Det.need (arrT C.P T) fun q=>Det.need (szOf C.P q.2) fun m=>Det.and (Det.and (Det.and (Det.pure (.hp p ver j (off+n.toNat*m)))))
  |ad cs=>exact Det.need (arrT C.P T) fun q=>Det.need (szOf C.P q.2) fun m=>Det.and (Det.and (Det.and (Det.pure (.ad (cs.drop (n.toNat*m))))))
  |_=>exact Det.false
 |_=>exact Det.false
@[go_sem] theorem yF(T:TypeId)(x i:Operand):WPp C ops (⟨dst,.indexAddr T x i,ty,pos,aft,none⟩::rest) t h K=indexK C T (aev C.G t x) (aev C.G t i) h (fun v=>WPp C ops rest (put t dst v) h K):=
 bd (Det.index _ _ _ _ _) fun KK=>by
  simp only[wpOp,indexK];generalize aev C.G t i=vi;generalize aev C.G t x=v;cases vi<;>first|rfl| (cases v<;>rfl)
@[go_sem] theorem AK(x:Operand)(i:Nat):WPp C ops (⟨dst,.extract x i,ty,pos,aft,none⟩::rest) t h K=
  need (match aev C.G t x with| .tup vs=>vs[i]? |_=>none) fun v=>WPp C ops rest (put t dst v) h K:=
 bd (E:=fun k=>need (match aev C.G t x with| .tup vs=>vs[i]? |_=>none) k) (Det.need' _) fun KK=>by
  simp only[wpOp];generalize aev C.G t x=v;cases v<;>rfl
@[go_sem] theorem D7(T:TypeId)(parts:Array (Nat×Operand)):WPp C ops (⟨dst,.build T parts,ty,pos,aft,none⟩::rest) t h K=
  need (buildA C T (parts.toList.map fun q=>(q.1,aev C.G t q.2))) fun v=>WPp C ops rest (put t dst v) h K:=
 bd (E:=fun k=>need (buildA C T (parts.toList.map fun q=>(q.1,aev C.G t q.2))) k) (Det.need' _) fun KK=>by
  have:=lS (C:=C) (ops:= #[]) (Q:=fun _ t h=>KK (t 0) h) (rest:=[]) (t:=t) (h:=h) (dst:=some 0) (ty:=0) (pos:= "") (aft:= #[]) T parts;simpa [WPl,wpOper,put,upd]using this
def rowsV(C:Ctx)(T:TypeId)(len:Nat)(idx:List Nat)(xs:List AVal)(k:AVal→Prop):Prop:=
 need (elmT C.P T) fun e=>need (szOf C.P e) fun n=>if len=0 then xs.length=0∧k .ez else
   xs.length=len∧0<len∧0<n∧len*n≤16777216∧idx=List.range len∧(zroT C.P e).map (fun z=>(z.cells.length,z.cells.all AVal.sto))=some (n,true)∧
   (∀x∈xs,x.cells.length=n∧x.lies=true)∧k (.sl n xs)
@[congr] theorem AL{T:TypeId}{len:Nat}{idx idx':List Nat}{xs xs':List AVal}{k:AVal→Prop}(e1:xs=xs')(e3:idx=idx'):rowsV C T len idx xs k=rowsV C T len idx' xs' k:=by rw[e1,e3]
@[go_sem] theorem xA(T:TypeId)(len:Nat)(parts:Array (Nat×Operand)):WPp C ops (⟨dst,.buildSlice T len parts,ty,pos,aft,none⟩::rest) t h K=
  rowsV C T len (parts.toList.map (·.1)) (parts.toList.map fun q=>aev C.G t q.2) (fun v=>WPp C ops rest (put t dst v) h K):=by
 have d:Det (rowsV C T len (parts.toList.map (·.1)) (parts.toList.map fun q=>aev C.G t q.2)):=by
  refine Det.need _ fun e=>Det.need _ fun n=>?_
  by_cases hn:len=0
  ·simp only[L7 hn];exact Det.and (Det.pure _)
  ·simp only[K4 hn];exact Det.and (Det.and (Det.and (Det.and (Det.and (Det.and (Det.and (Det.pure _)))))))
 apply propext
 show(∃v,(∀KK:AVal→Heap→Prop,KK v h→wpOp C (.buildSlice T len parts) t h KK)∧WPp C ops rest (put t dst v) h K)↔_;rw[d (fun v=>WPp C ops rest (put t dst v) h K)];have key:∀KK:AVal→Heap→Prop,(∀v h',KK v h'→h'=h)→wpOp C (.buildSlice T len parts) t h KK→rowsV C T len (parts.toList.map (·.1)) (parts.toList.map fun q=>aev C.G t q.2) (fun v=>KK v h):=by
  intro KK hh g;simp only[wpOp]at g;unfold rowsV;refine af g fun e g=>af g fun n g=>?_
  by_cases hn:len=0
  ·rw[L7 hn]at g ⊢;exact⟨by simpa using g.1,g.2⟩
  rw[K4 hn]at g ⊢;obtain⟨g1,g2,g3,g4,g5,g6,g7,g8⟩:=g;refine⟨by simpa using g1,g2,g3,g4,g5,g6,g7,?_⟩;rcases g8 with g8|g8
  ·have:=hh _ _ g8;simp at this
  ·exact g8
 have back:∀KK:AVal→Heap→Prop,rowsV C T len (parts.toList.map (·.1)) (parts.toList.map fun q=>aev C.G t q.2) (fun v=>KK v h)→wpOp C (.buildSlice T len parts) t h KK:=by
  intro KK g;simp only[wpOp];unfold rowsV at g;refine af g fun e g=>af g fun n g=>?_
  by_cases hn:len=0
  ·rw[L7 hn]at g ⊢;exact⟨by simpa using g.1,g.2⟩
  rw[K4 hn]at g ⊢;exact⟨by simpa using g.1,g.2.1,g.2.2.1,g.2.2.2.1,g.2.2.2.2.1,g.2.2.2.2.2.1,g.2.2.2.2.2.2.1,.inr g.2.2.2.2.2.2.2⟩
 have mono:∀k k':AVal→Prop,(∀v,k v→k' v)→rowsV C T len (parts.toList.map (·.1)) (parts.toList.map fun q=>aev C.G t q.2) k→rowsV C T len (parts.toList.map (·.1)) (parts.toList.map fun q=>aev C.G t q.2) k':=by
  intro k k' i g;unfold rowsV at*;refine af g fun e g=>af g fun n g=>?_
  by_cases hn:len=0
  ·rw[L7 hn]at g ⊢;exact⟨g.1,i _ g.2⟩
  rw[K4 hn]at g ⊢;exact⟨g.1,g.2.1,g.2.2.1,g.2.2.2.1,g.2.2.2.2.1,g.2.2.2.2.2.1,g.2.2.2.2.2.2.1,i _ g.2.2.2.2.2.2.2⟩
 constructor
 ·rintro⟨v,h1,h2⟩;refine⟨v,fun KK k=>?_,h2⟩;exact mono _ _ (fun v e=>e.1) (key (fun v' h'=>KK v'∧h'=h) (fun _ _ e=>e.2) (h1 _ ⟨k,rfl⟩))
 ·rintro⟨v,h1,h2⟩;exact⟨v,fun KK k=>back KK (h1 (fun v=>KK v h) k),h2⟩
@[go_sem] theorem Gz(x:Operand)(T:TypeId):WPp C ops (⟨dst,.call ⟨.builtin .len, #[x], #[T]⟩,ty,pos,aft,none⟩::rest) t h K=
  need (alen C.P h T (aev C.G t x)) fun n=>WPp C ops rest (put t dst (.int .i64 n)) h K:=
 bd (E:=fun k=>need (alen C.P h T (aev C.G t x)) fun n=>k (.int .i64 n)) (Det.need _ fun _=>Det.pure _) fun _=>rfl
theorem Det.look2(P:Program)(kt:TypeId)(x i:AVal)(ok:Bool)(z:AVal)(h:Heap):Det (Av.look2 P kt x i ok z h):=by
 cases x with
 |hm p=>exact Det.need (mapAt h p) fun q=>Det.need (findA P kt i q.1 0) fun r=>Det.pure (gotA ok (softA z) (r.bind (q.1[·]?)))
 |nil v=>
  cases v with
  |map a=>cases a with
   |none=>exact Det.pure (gotA ok (softA z) none)
   |some _=>exact Det.false
  |_=>exact Det.false
 |_=>exact Det.false
@[go_sem] theorem Bt(T:TypeId)(x i:Operand)(ok:Bool):WPp C ops (⟨dst,.lookup T x i ok,ty,pos,aft,none⟩::rest) t h K=
  need (mapT C.P T) fun q=>need (zroT C.P q.2) fun z=>z.cells.all AVal.sto=true∧keyA C.P q.1 (aev C.G t i)=true∧look2 C.P q.1 (aev C.G t x) (aev C.G t i) ok z h fun v=>WPp C ops rest (put t dst v) h K:=
 bd (E:=fun k=>need (mapT C.P T) fun q=>need (zroT C.P q.2) fun z=>z.cells.all AVal.sto=true∧keyA C.P q.1 (aev C.G t i)=true∧look2 C.P q.1 (aev C.G t x) (aev C.G t i) ok z h k)
  (Det.need _ fun q=>Det.need _ fun z=>Det.and (Det.and (Det.look2 C.P q.1 _ _ ok z h))) fun KK=>by
   simp only[wpOp,look2];generalize aev C.G t x=a;cases a with
   |nil v=>cases v with
    |map o=>cases o<;>rfl
    |_=>rfl
   |_=>rfl
def callV(C:Ctx)(f:AVal)(args:List AVal)(h:Heap)(k:AVal→Prop):Prop:=∃v,callK C f args h (fun r h'=>r=v∧h'=h)∧k v
@[congr] theorem AM{f f':AVal}{args args':List AVal}{h h':Heap}{k:AVal→Prop}(e1:f=f')(e2:args=args')(e3:h=h'):callV C f args h k=callV C f' args' h' k:=by rw[e1,e2,e3]
def callS(C:Ctx)(g:FuncId)(args:List AVal)(h:Heap)(k:AVal→Prop):Prop:=∃v,Sat C g args h (fun r h'=>r=v∧h'=h)∧k v
theorem aG{g:FuncId}{args:List AVal}{h:Heap}{k:AVal→Prop}{v:AVal}(c:Sat C g args h (fun r h'=>r=v∧h'=h))(a:k v):callS C g args h k:=⟨v,c,a⟩
@[congr] theorem AN{g:FuncId}{args args':List AVal}{h h':Heap}{k:AVal→Prop}(e2:args=args')(e3:h=h'):callS C g args h k=callS C g args' h' k:=by rw[e2,e3]
@[go_sem] theorem Fh(g:FuncId)(first captured args:List AVal)(k:AVal→Prop):callV C (.fn (.func g) first captured) args h k=callS C g (first++args++captured) h k:=(rfl)
@[go_sem] theorem Fi(f:Operand)(args:Array Operand)(Ts:Array TypeId):WPp C ops (⟨dst,.call ⟨.value f,args,Ts⟩,ty,pos,aft,none⟩::rest) t h K=
  callV C (aev C.G t f) (args.toList.map (aev C.G t)) h (fun v=>WPp C ops rest (put t dst v) h K):=by
 have e:∀KK:AVal→Heap→Prop,wpOp C (.call ⟨.value f,args,Ts⟩) t h KK=callK C (aev C.G t f) (args.toList.map (aev C.G t)) h KK:=fun KK=>rfl
 apply propext
 show(∃v,(∀KK:AVal→Heap→Prop,KK v h→wpOp C (.call ⟨.value f,args,Ts⟩) t h KK)∧WPp C ops rest (put t dst v) h K)↔_;constructor
 ·rintro⟨v,h1,h2⟩;refine⟨v,?_,h2⟩;have:=h1 (fun r h'=>r=v∧h'=h) ⟨rfl,rfl⟩;rw[e]at this;exact this
 ·rintro⟨v,h1,h2⟩;refine⟨v,fun KK k=>?_,h2⟩;rw[← e]at h1;exact eB (fun r h' ⟨e1,e2⟩=>by rw[e1,e2];exact k) h1
theorem iq(op:Op)(j:Nat)(want:Bool):WPp C ops (⟨dst,op,ty,pos,aft,some (j,want)⟩::rest) t h K=
  guardK (guardA ops t j) want (WPp C ops (⟨dst,op,ty,pos,aft,none⟩::rest) t h K) (WPp C ops rest (put t dst undefA) h K):=by
 apply propext
 show(∃v,(∀KK:AVal→Heap→Prop,KK v h→wpOperV C ops ⟨dst,op,ty,pos,aft,some (j,want)⟩ t h KK)∧WPp C ops rest (put t dst v) h K)↔_;simp only[wpOperV];cases guardA ops t j with
 |none=>exact⟨fun⟨v,h1,_⟩=>h1 (fun _ _=>True) trivial,fun g=>g.elim⟩
 |some q=>
  simp only[guardK];by_cases e:q=some want
  ·constructor
   ·rintro⟨v,h1,h2⟩;exact⟨fun _=>⟨v,fun KK k=>(h1 KK k).1 e,h2⟩,fun h3=>absurd e h3⟩
   ·rintro⟨g,_⟩;obtain⟨v,h1,h2⟩:=g e;exact⟨v,fun KK k=>⟨fun _=>h1 KK k,fun h3=>absurd e h3⟩,h2⟩
  ·constructor
   ·rintro⟨v,h1,h2⟩;have:=(h1 (fun x _=>x=v) rfl).2 e;refine⟨fun h3=>absurd h3 e,fun _=>?_⟩;rw[this];exact h2
   ·rintro⟨_,g⟩;exact⟨undefA,fun KK k=>⟨fun h3=>absurd h3 e,fun _=>k⟩,g e⟩
@[go_sem] theorem GA(op:Op)(j:Nat)(want:Bool)(hg:guardA ops t j=some (some want)):WPp C ops (⟨dst,op,ty,pos,aft,some (j,want)⟩::rest) t h K=WPp C ops (⟨dst,op,ty,pos,aft,none⟩::rest) t h K:=by
 rw[iq,hg];simp[guardK]
@[go_sem] theorem Ip(op:Op)(j:Nat)(want:Bool)(hg:guardA ops t j=some (some (!want))):WPp C ops (⟨dst,op,ty,pos,aft,some (j,want)⟩::rest) t h K=WPp C ops rest (put t dst undefA) h K:=by
 rw[iq,hg];simp[guardK]
@[go_sem] theorem Iq(op:Op)(j:Nat)(want:Bool)(hg:guardA ops t j=some none):WPp C ops (⟨dst,op,ty,pos,aft,some (j,want)⟩::rest) t h K=WPp C ops rest (put t dst undefA) h K:=by
 rw[iq,hg];simp[guardK]
end
attribute [go_sem] List.take_succ_cons List.take_zero
section
variable {C:Ctx} {h:Heap}
theorem Fin.frz{h0 j:Heap}{R:AVal→Heap→Prop}{r0 r:AVal}(hz:Frz (h0++j) h0.length r0 r)(hR:R r h0):Fin h0 (h0++j) R r0:=by
 refine⟨h0.length,r,M0 _,hz,.inr fun p k hp hk=>?_,by rw[V1 rfl];exact hR⟩;rw[L9 hp]at hk;exact .inl ⟨hp,hk⟩
def Wk(x y:AVal):Prop:=∀(w:World) (S:Addr→Prop) (μ:Map) (v:Value),Rep w S μ x v→Rep w S μ y v
theorem Wk.refl(x:AVal):Wk x x:=fun _ _ _ _ r=>r
theorem Wk.nils(n:Nat):Wk (.nil (.slice none 0 0)) (.sl n []):=fun _ _ _ _ r=>by cases r;exact .sl0 n none 0
theorem Wk.agg{xs ys:List AVal}(hl:xs.length=ys.length)(hs:∀y∈ys,y.sto=true)(hw:∀(i:Nat) (x y:AVal),xs[i]? =some x→ys[i]? =some y→Wk x y):Wk (.agg xs) (.agg ys):=fun w S μ v r=>by
 obtain⟨vs,rfl,hvl,_,hr⟩:=r.agg_inv;refine .agg ys vs (by omega) (fun i d hd=>hs d (M3 hd)) (fun i d hd=>?_);have hlt:=(f9.1 hd).1;have hc:=K6 (show i<xs.length by omega);exact hw i _ d hc hd w S μ _ (hr i _ hc)
theorem Sat.wk{f:FuncId}{xs ys:List AVal}{R:AVal→Heap→Prop}(hl:xs.length=ys.length)(hw:∀(i:Nat) (x y:AVal),xs[i]? =some x→ys[i]? =some y→Wk x y)(s:Sat C f ys h R):Sat C f xs h R:=
 fun B S μ w vs hf hr=>s B S μ w vs hf ⟨by rw[hr.1,hl],fun i y hy=>by
  have hlt:=(f9.1 hy).1;have hc:=K6 (show i<xs.length by omega);exact hw i _ y hc hy w S μ _ (hr.2 i _ hc)⟩
theorem gL{t:Env}{d:Nat}{q b:Bool}(h1:t d=.bool q)(h2:q=b):upd t d (.bool b)=t:=by
 funext i;simp only[upd];split
 ·rename_i e;subst e;rw[h1,h2]
 ·rfl
theorem jR{ops:Array Oper}{Q:Exit→Env→Heap→Prop}{rest:List Oper}{t:Env}{dst:Option Nat}{op:Op}{ty:TypeId}{pos:String}{aft:Array Edge}{j d:Nat}{want q:Bool}
  (_hd:(ops[j]?).bind (·.dst)=some d)(hq:t d=.bool q)
  (h1:q=true→WPl C ops Q (⟨dst,op,ty,pos,aft,some (j,want)⟩::rest) (upd t d (.bool true)) h)(h2:q=false→WPl C ops Q (⟨dst,op,ty,pos,aft,some (j,want)⟩::rest) (upd t d (.bool false)) h):
  WPl C ops Q (⟨dst,op,ty,pos,aft,some (j,want)⟩::rest) t h:=by
 cases q with
 |true=>have:=h1 rfl;rwa [gL hq rfl]at this
 |false=>have:=h2 rfl;rwa [gL hq rfl]at this
theorem jS{ops:Array Oper}{K:Env→Prop}{rest:List Oper}{t:Env}{dst:Option Nat}{op:Op}{ty:TypeId}{pos:String}{aft:Array Edge}{j d:Nat}{want q:Bool}
  (_hd:(ops[j]?).bind (·.dst)=some d)(hq:t d=.bool q)
  (h1:q=true→WPp C ops (⟨dst,op,ty,pos,aft,some (j,want)⟩::rest) (upd t d (.bool true)) h K)(h2:q=false→WPp C ops (⟨dst,op,ty,pos,aft,some (j,want)⟩::rest) (upd t d (.bool false)) h K):
  WPp C ops (⟨dst,op,ty,pos,aft,some (j,want)⟩::rest) t h K:=by
 cases q with
 |true=>have:=h1 rfl;rwa [gL hq rfl]at this
 |false=>have:=h2 rfl;rwa [gL hq rfl]at this
@[go_sem] theorem GB(a b:AVal)(k:AVal→Prop):pickK (.bool true) a b k=k a:=by simp[pickK]
@[go_sem] theorem GC(a b:AVal)(k:AVal→Prop):pickK (.bool false) a b k=k b:=by simp[pickK]
@[go_sem] theorem Fj(q r:Bool)(k:AVal→Prop):pickK (.bool q) (.bool true) (.bool r) k=k (.bool (q||r)):=by cases q<;>simp[pickK]
@[go_sem] theorem D8(q r:Bool)(k:AVal→Prop):pickK (.bool q) (.bool r) (.bool false) k=k (.bool (q&&r)):=by cases q<;>simp[pickK]
end
end Go.Av
theorem K9:type_of% @Go.Av.Fin.plain:=@Go.Av.Fin.plain
theorem L8:type_of% @Go.Av.Wkn.refl:=@Go.Av.Wkn.refl
theorem O9:type_of% @Go.Av.Fin.same:=@Go.Av.Fin.same
theorem za6:type_of% @Go.Av.Fin.frz:=@Go.Av.Fin.frz
