/- Parts. -/
import Derived.Test.YtllhfnepgcbjnaaGreatMnDr
import Derived.WalkKit
import Derived.ProofKit
import Derived.OpenShut
import Derived.Deep.DeepHandedRow
set_option linter.unusedSimpArgs false
set_option linter.unusedVariables false
set_option linter.unusedSectionVars false
set_option linter.unnecessarySimpa false
set_option maxRecDepth 100000
set_option maxHeartbeats 16000000
namespace Go.Av
open Go.RowKit
section
variable {C:Ctx} {t:Env} {h:Heap}
def detGo(md:Region.Mode)(ops:Array Oper):Nat→Array Bool→Option (List Nat)
 |0,_=>some []
 |f+1,L=>match Region.ready md ops L with
  | [i]=>(detGo md ops f (L.setIfInBounds i true)).map (i:: ·)
  |_=>none
theorem mP{ops:Array Oper}{Q:Exit→Env→Heap→Prop}{md:Region.Mode}:∀(f:Nat) (L:Array Bool) (idx:List Nat) (sub:List Oper) (t:Env) (h:Heap),detGo md ops f L=some idx→idx.map (fun i=>ops[i]?)=sub.map some→
  WPl C ops Q sub t h→RestM C ops Q md f L t h:=by
 intro f;induction f with
 |zero=>
  intro L idx sub t h hd hs g n;simp only[detGo,P1]at hd;subst hd;have:sub=[]:=by simpa using hs.symm
  subst this;simp only[Region.linearise.go,List.reverse_nil,WPix];exact g
 |succ f ih=>
  intro L idx sub t h hd hs g n;simp only[detGo]at hd;split at hd
  ·rename_i i hr;obtain⟨idx',hd',rfl⟩:=N1.1 hd;cases sub with
   |nil=>simp at hs
   |cons o sub=>
    simp only[N7,zc1]at hs;have hi:(Region.ready md ops L)[n%(Region.ready md ops L).length]? =some i:=by
     rw[hr,List.length_singleton,Nat.mod_one];rfl
    rw[dh md ops f n L hi];simp only[WPix,hs.1];simp only[WPl]at g;exact fE g fun t' h' g'=>ih _ idx' sub t' h' hd' hs.2 g' _
  ·cases hd
theorem mQ{l:List Oper}{k n:Nat}(h:k+n≤l.length):(List.range' k n).map (fun i=>l.toArray[i]?)=((l.drop k).take n).map some:=by
 refine U0 fun i=>?_
 simp only[N8];by_cases hi:i<n
 ·rw[N5 hi,P4,List.getElem?_range' (by omega)];simp only[R4,U5];have:k+i<l.length:=by omega
  simp[L9 this]
 ·rw[Q7 (by simp;omega),Q7 (by simp;omega)];rfl
inductive OT where
 |nil
 |one (i:Nat) (s:OT)
 |two (i:Nat) (s:OT) (j:Nat) (u:OT)
def OT.ok(ops:Array Oper):Nat→Array Bool→OT→Bool
 |0,_,.nil=>true
 |f+1,L,.one i s=>Region.ready .any ops L==[i]&&OT.ok ops f (L.setIfInBounds i true) s
 |f+1,L,.two i s j u=>Region.ready .any ops L==[i,j]&&(OT.ok ops f (L.setIfInBounds i true) s&&OT.ok ops f (L.setIfInBounds j true) u)
 |_,_,_=>false
def WPt(C:Ctx)(ops:Array Oper)(Q:Exit→Env→Heap→Prop):OT→Env→Heap→Prop
 | .nil,t,h=>Q .normal t h
 | .one i s,t,h=>WPl C ops (fun _ t' h'=>WPt C ops Q s t' h') (ops[i]?).toList t h
 | .two i s j u,t,h=>WPl C ops (fun _ t' h'=>WPt C ops Q s t' h') (ops[i]?).toList t h∧WPl C ops (fun _ t' h'=>WPt C ops Q u t' h') (ops[j]?).toList t h
theorem OT.sound{ops:Array Oper}{Q:Exit→Env→Heap→Prop}:∀(f:Nat) (L:Array Bool) (tr:OT) (t:Env) (h:Heap),OT.ok ops f L tr=true→WPt C ops Q tr t h→RestM C ops Q .any f L t h:=by
 intro f;induction f with
 |zero=>
  intro L tr t h ho g n;cases tr with
  |nil=>simp only[Region.linearise.go,List.reverse_nil,WPix];exact g
  |_=>simp[OT.ok]at ho
 |succ f ih=>
  intro L tr t h ho g n;have step:∀(i:Nat) (s:OT),(Region.ready .any ops L)[n%(Region.ready .any ops L).length]? =some i→OT.ok ops f (L.setIfInBounds i true) s=true→WPl C ops (fun _ t' h'=>WPt C ops Q s t' h') (ops[i]?).toList t h→
    WPix C ops Q (Region.linearise.go .any ops (f+1) n L []) t h:=fun i s hi hs hg=>by
   rw[dh .any ops f n L hi];simp only[WPix];have hmem:=N4 hi;obtain⟨_,o,ho,_⟩:=mem_ready.1 hmem;simp only[ho,Option.toList]at hg ⊢;simp only[WPl]at hg;exact fE hg fun t' h' g'=>ih _ s t' h' hs g' _
  cases tr with
  |nil=>simp[OT.ok]at ho
  |one i s=>
   simp only[OT.ok,L7,beq_iff_eq]at ho;exact step i s (by rw[ho.1,List.length_singleton,Nat.mod_one];rfl) ho.2 g
  |two i s j u=>
   simp only[OT.ok,L7,beq_iff_eq]at ho;have hn:n%2=0∨n%2=1:=(by omega);rcases hn with hn|hn
   ·exact step i s (by rw[ho.1];show [i,j][n%2]? =_;rw[hn];rfl) ho.2.1 g.1
   ·exact step j u (by rw[ho.1];show [i,j][n%2]? =_;rw[hn];rfl) ho.2.2 g.2
theorem jh{id:Nat}{l:List Oper}{Q:Exit→Env→Heap→Prop}(k:Nat)(tr:OT)(hok:(preOk l.toArray k&&decide (k≤l.length))=true)(hm:C.P.follows .mixedOrders=true)
  (hT:OT.ok l.toArray (l.length-k) (listK l.length k) tr=true)
  (hh:WPp C l.toArray (l.take k) t h fun t'=>WPt C l.toArray Q tr t' h):WP C (.region id l.toArray true) Q t h:=by
 simp only[L7,M7]at hok;have D:=jQ hok.1;obtain⟨V,hv,hK⟩:=ce _ _ hh;have hlen:(l.take k).length=k:=by simp;omega
 rw[hlen]at hK;have rT:=OT.sound (ops:=l.toArray) (Q:=Q) _ _ tr _ h hT hK;have main:∀n,WPix C l.toArray Q (Region.linearise .any l.toArray n) t h:=fun n=>by
  unfold Region.linearise;refine eh D .any D.less (by simp;omega) (V:=V) (t0:=t) (fun _=>True) (fun i o hi _=>hv i o hi) (by simpa using rT) _ _ _ _ (by simp) ?_ (fun j oj hj hl=>?_) (fun j hj hl=>?_) (fun _ _ _=>trivial) (Ag.start _ _ _ _ fun j hj=>?_)
  ·unfold left;have:(List.range l.toArray.size).filter (fun i=> !(Array.replicate l.toArray.size false).getD i true)=List.range l.toArray.size:=by
    rw[R8];intro i hi;have:=T9.1 hi;simp at this ⊢;simp[this]
   rw[this,List.length_range]
  ·have h8:=(O6.1 hj).1;simp at h8 hl;simp[h8]at hl
  ·simp at hj hl;simp[hj]at hl
  ·have:j<l.length:=by omega
   simp[this]
 show ∀tp,WPix C l.toArray Q (Region.schedule (C.P.follows .mixedOrders) l.toArray tp) t h;intro tp;unfold Region.schedule;rw[hm];simp only[Bool.true_or,if_true];exact main _
def agrL:List Nat→Env→Env→Prop
 | [],_,_=>True
 |d::ds,s,t=>s d=t d∧agrL ds s t
theorem ji:∀{ds:List Nat} {s t:Env},agrL ds s t→∀d∈ds,s d=t d
 | [],_,_,_,d,h=>by cases h
 |e::ds,s,t,g,d,h=>by
  rcases N2.1 h with rfl|h
  ·exact g.1
  ·exact ji g.2 d h
theorem kY{d:Nat}:∀{l:List Oper} {i:Nat} {o:Oper},l[i]? =some o→o.dst=some d→d∈wrOps l
 | [],i,o,h,_=>by simp at h
 |a::l,0,o,h,hd=>by simp at h;subst h;unfold wrOps;rw[hd];simp
 |a::l,i+1,o,h,hd=>by
  have:=kY (l:=l) (i:=i) (o:=o) (by simpa using h) hd;unfold wrOps;split<;>simp[this]
theorem bP{id:Nat}{l:List Oper}{Q:Exit→Env→Heap→Prop}(k u:Nat)(oe:Oper)(hoe:l[k]? =some oe)(hok:(preOk l.toArray (k+1)&&decide (u≤k))=true)(hm:C.P.follows .mixedOrders=true)
  (hu:((List.range k).all fun i=>decide (i<u)||((Region.before l.toArray).getD k 0).testBit i)=true)(hdst:((l.take u).all fun o=>o.dst.isSome)=true)
  (hA:detGo .any l.toArray (l.length-(k+1)) (listK l.length (k+1))=some (List.range' (k+1) (l.length-(k+1))))
  (hh:WPp C l.toArray (l.take k) t h fun t'=>wpOperV C l.toArray oe t' h fun v h'=>
   (WPp C l.toArray (l.take u) t h' fun t''=>agrL (wrOps (l.take u)) t'' t')∧WPl C l.toArray Q (l.drop (k+1)) (put t' oe.dst v) h'):WP C (.region id l.toArray true) Q t h:=by
 simp only[L7,M7]at hok;have D:=jQ hok.1;have hkl:=(f9.1 hoe).1;obtain⟨V,hv,hK⟩:=ce _ _ hh;have hlen:(l.take k).length=k:=by simp;omega
 rw[hlen]at hK;have hTT:∀i,i≤k→Av.T V (l.take k) t i=Av.T V l t i:=fun i hi=>ib V V k (fun _ _=>rfl) _ _ _ _ hi (by rw[zc7];congr 1;omega) (by rw[hlen];exact hi) (by omega)
 rw[hTT k (M2 _)]at hK;have main:∀n,WPix C l.toArray Q (Region.linearise .any l.toArray n) t h:=fun n=>by
  unfold Region.linearise;refine ql D .any D.less (by simp;omega) (V:=V) (t0:=t) (oe:=oe) (by simpa using hoe) (fun i o hi ho=>?_) ?_ _ _ _ _ (by simp) ?_ (fun j oj hj hl=>?_) (fun j hj hl=>?_) (Ag.start _ _ _ _ fun j hj=>?_)
  ·have:=hv i o (by rw[U6,M1 hi];simpa using ho);rw[hTT i (by omega)]at this;exact this
  ·refine cg hK fun v h' ⟨h1,h2⟩=>⟨fun i o hi ho hc=>?_,?_⟩
   ·have hiu:i<u:=by
     have:=P8.1 hu i (T9.2 hi);rw[hc]at this;simpa using this
    obtain⟨V2,hv2,hK2⟩:=ce _ _ h1;have hlu:(l.take u).length=u:=(by simp;omega);rw[hlu]at hK2;have hVV:∀j,j<u→V2 j=V j:=fun j hj=>by
     have hoj:l[j]? =some (l[j]'(by omega)):=L9 _;have hoj':(l.take u)[j]? =some (l[j]'(by omega)):=(by rw[U6,M1 hj];exact hoj);obtain⟨d,hdd⟩:=N3.1 (P8.1 hdst _ (N4 hoj'));have e:=ji hK2 d (kY hoj' hdd);have a1:=D.ag_T V2 t (by simp;omega) u (by omega);have a2:=D.ag_T V t (by simp;omega) k (by omega);have hoa:l.toArray[j]? =some (l[j]'(by omega)):=(by simp);have b1:=a1.1 j _ d (by omega) hoa (by simpa using hj) hdd;have b2:=a2.1 j _ d (by omega) hoa (by simp;omega) hdd;have c1:Av.T V2 (l.toArray.toList.take (k+1)) t u=Av.T V2 (l.take u) t u:=ib V2 V2 u (fun _ _=>rfl) _ _ _ _ (M2 _) (by simp[zc7];try omega) (by simp;omega) (by omega);have c2:Av.T V (l.toArray.toList.take (k+1)) t k=Av.T V l t k:=ib V V k (fun _ _=>rfl) _ _ _ _ (M2 _) (by simp[zc7]) (by simp;omega) (by omega);rw[c1]at b1;rw[c2]at b2;rw[← b1, ← b2,e]
    have:=hv2 i o (by rw[U6,M1 hiu];simpa using ho);rw[hVV i hiu]at this;have c3:Av.T V2 (l.take u) t i=Av.T V l t i:=ib V V2 u hVV _ _ _ _ (by omega) (by rw[zc7];congr 1;omega) (by omega) (by omega);rw[c3]at this;exact this
   ·have:=mP (ops:=l.toArray) (Q:=Q) _ _ _ (l.drop (k+1)) _ h' hA (by rw[mQ (by omega),M4 (by simp)]) h2;simpa using this
  ·unfold left;have:(List.range l.toArray.size).filter (fun i=> !(Array.replicate l.toArray.size false).getD i true)=List.range l.toArray.size:=by
    rw[R8];intro i hi;have:=T9.1 hi;simp at this ⊢;simp[this]
   rw[this,List.length_range]
  ·have h8:=(O6.1 hj).1;simp at h8 hl;simp[h8]at hl
  ·simp at hj hl;simp[hj]at hl
  ·have:j<l.length:=by omega
   simp[this]
 show ∀tp,WPix C l.toArray Q (Region.schedule (C.P.follows .mixedOrders) l.toArray tp) t h;intro tp;unfold Region.schedule;rw[hm];simp only[Bool.true_or,if_true];exact main _
attribute [go_sem] agrL
theorem di{ops:Array Oper}{Q:Exit→Env→Heap→Prop}(g:Q .normal t h):WPt C ops Q .nil t h:=g
theorem dj{ops:Array Oper}{Q:Exit→Env→Heap→Prop}{i:Nat}{s:OT}{o:Oper}(ho:ops[i]? =some o)(g:WPl C ops (fun _ t' h'=>WPt C ops Q s t' h') [o] t h):WPt C ops Q (.one i s) t h:=by
 simp only[WPt,ho];exact g
theorem dn{ops:Array Oper}{Q:Exit→Env→Heap→Prop}{i j:Nat}{s u:OT}{o p:Oper}(ho:ops[i]? =some o)(hp:ops[j]? =some p)(g:WPl C ops (fun _ t' h'=>WPt C ops Q s t' h') [o] t h)
  (g':WPl C ops (fun _ t' h'=>WPt C ops Q u t' h') [p] t h):WPt C ops Q (.two i s j u) t h:=by
 simp only[WPt,ho,hp];exact⟨g,g'⟩
end
section
variable {C:Ctx} {B n:Nat} {S:Addr→Prop} {μ:Map} {h:Heap} {w:World} {t:Env} {a:Act}
def LetP(S:Addr→Prop)(μ:Map)(w:World)(p:Nat):Addr→Prop:=fun a=>S a∨∃m,μ[p]? =some m∧m.blk=some a.block∧(w.cell? a).isSome=true
theorem Rep.letgo(f:Fits C B S μ h w){p v e m:Nat}{rows:List AVal}(hg:getRow h p v=some (e,m,rows)){μ':Map}(st:Step B S μ w (LetP S μ w p) μ' w)
  {off len:Nat}{room:Bool}{val:Value}(hlen:off+len≤rows.length)(r:Rep w S μ (.hs p v off len room) val):Rep w (LetP S μ w p) μ' (.sl m ((rows.drop off).take len)) val:=by
 obtain⟨mb,hm,hf⟩:=f.row hg;have hms:=hf.hsize;rcases r.hs_now hm hf.hver with⟨hb,rfl,rfl,rfl⟩| ⟨b,hb,hcap,rfl⟩
 ·simpa using Rep.sl0 (w:=w) (S:=LetP S μ w p) (μ:=μ') m none 0
 ·by_cases hl0:len=0
  ·subst hl0;simpa using Rep.sl0 (w:=w) (S:=LetP S μ w p) (μ:=μ') m _ _
  ·obtain⟨cur,hheap,hcs,hle,hmax,fl⟩:=hf.flat hb;have hes:((rows.drop off).take len).length=len:=(by simp;omega);have hget:∀(i:Nat) (s:AVal),((rows.drop off).take len)[i]? =some s→rows[off+i]? =some s:=by
    intro i s hi;have hlt:=(f9.1 hi).1;rw[hes]at hlt;rw[N5 hlt,P4]at hi;exact hi
   have e1:∀i j,(off+i)*m+j=off*m+(i*m+j):=fun i j=>by rw[T3];omega
   have key:=Rep.sl (w:=w) (S:=LetP S μ w p) (μ:=μ') m ((rows.drop off).take len) b (off*mb.size) (if room then mb.cap-off else len)
    (fun i j=>cur.getD (off*m+(i*m+j)) undef) (by intro e;rw[e]at hes;simp at hes;omega) (by rw[hes];split<;>omega) (by split<;>omega)
    (fun i s hi=>hf.lens _ _ (hget i s hi))
    (fun i s j d hi hj=>by
     have h1:=hget i s hi;obtain⟨u,hu,_⟩:=fl.rep _ _ _ _ h1 hj;have hu:=aR hu;rw[e1]at hu;have hu2:cur[off*m+(i*m+j)]? =some u:=(by simpa using hu);have hcell:w.cell? ⟨b,off*m+(i*m+j),none⟩=some u:=(by simp[World.cell?,hheap,hu2]);rw[hms];refine⟨.inr ⟨mb,hm,hb,by rw[hcell];rfl⟩,?_,hf.sto _ _ _ _ h1 hj⟩;rw[hcell];simp[Q6,hu2])
    (fun i s j d hi hj=>by
     have h1:=hget i s hi;obtain⟨u,hu,hrep⟩:=fl.rep _ _ _ _ h1 hj;have hu:=aR hu;rw[e1]at hu;have hu2:cur[off*m+(i*m+j)]? =some u:=(by simpa using hu);have:=hrep.mono st;simpa [Q6,hu2]using this)
   rw[hes]at key;exact key
theorem Fits.letgo(f:Fits C B S μ h w){p v e m:Nat}{rows:List AVal}(hg:getRow h p v=some (e,m,rows)):
  ∃μ',Step B S μ w (LetP S μ w p) μ' w∧Fits C B (LetP S μ w p) μ' (h.set p .dead) w:=by
 obtain⟨mb,hm,hf⟩:=f.row hg;have hlt:=(f9.1 hm).1;have st:Step B S μ w (LetP S μ w p) (μ.set p ⟨none,mb.ver+1,mb.size,mb.cap⟩) w:=⟨fun a ha=>.inl ha,fun _ _=>rfl,za5 _ _,bw hm (by simp) (fun e=>by simp at e),fun a ha=>by
  rcases ha with ha| ⟨m',hm',hb,_⟩
  ·exact .inl ha
  ·exact .inr (f.own p m' _ hm' hb).1⟩
 have at_:∀q k,(μ.set p ⟨none,mb.ver+1,mb.size,mb.cap⟩)[q]? =some k→(q=p∧k.blk=none)∨(q≠p∧μ[q]? =some k):=by
  intro q k hq;by_cases e:p=q
  ·subst e;rw[P6 hlt]at hq;cases hq;exact .inl ⟨rfl,rfl⟩
  ·rw[S7 e]at hq;exact .inr ⟨fun e'=>e e'.symm,hq⟩
 refine⟨_,st,⟨fun g cs hg=>(f.glob g cs hg).mono st,by simp[f.len],?_,?_,f.base,?_,?_⟩⟩
 ·intro p1 q1 m1 m2 b h1 h2 e1 e2;rcases at_ p1 m1 h1 with⟨_,k1⟩| ⟨_,k1⟩
  ·rw[k1]at e1;cases e1
  ·rcases at_ q1 m2 h2 with⟨_,k2⟩| ⟨_,k2⟩
   ·rw[k2]at e2;cases e2
   ·exact f.sep p1 q1 m1 m2 b k1 k2 e1 e2
 ·intro p1 m1 b h1 e1;rcases at_ p1 m1 h1 with⟨_,k1⟩| ⟨r1,k1⟩
  ·rw[k1]at e1;cases e1
  ·obtain⟨a1,a2,a3⟩:=f.own p1 m1 b k1 e1;refine⟨a1,a2,fun a ha=>?_⟩;rcases ha with ha| ⟨m',hm',hb,_⟩
   ·exact a3 a ha
   ·intro e;exact r1 (f.sep p1 p m1 m' b k1 hm' e1 (by rw[hb,e]))
 ·intro a ha;rcases ha with ha| ⟨m',hm',hb,_⟩
  ·exact f.lie a ha
  ·exact(f.own p m' _ hm' hb).2.1
 ·intro p1 m1 k1 h1 h2;rcases at_ p1 m1 h1 with⟨rfl,_⟩| ⟨r1,h1⟩
  ·rw[P6 (by rw[← f.len];exact hlt)]at h2;cases h2;trivial
  ·rw[S7 (fun e=>r1 e.symm)]at h2;exact(f.blk p1 m1 k1 h1 h2).mono st fun b _=>rfl
inductive Fz (h:Heap) (p v:Nat):AVal→AVal→Prop
 |same (x:AVal):Fz h p v x x
 |hs (off len:Nat) (room:Bool) (e m:Nat) (rows es:List AVal):getRow h p v=some (e,m,rows)→off+len≤rows.length→es=(rows.drop off).take len→Fz h p v (.hs p v off len room) (.sl m es)
 |agg (cs ds:List AVal):cs.length=ds.length→(∀d∈ds,d.sto=true)→(∀(i:Nat) (c d:AVal),cs[i]? =some c→ds[i]? =some d→Fz h p v c d)→Fz h p v (.agg cs) (.agg ds)
 |tup (cs ds:List AVal):cs.length=ds.length→(∀(i:Nat) (c d:AVal),cs[i]? =some c→ds[i]? =some d→Fz h p v c d)→Fz h p v (.tup cs) (.tup ds)
 |wk (x y z:AVal):Fz h p v x y→Wk y z→Fz h p v x z
theorem Fz.all(h:Heap)(p v:Nat){off len e m:Nat}{room:Bool}{rows:List AVal}(hg:getRow h p v=some (e,m,rows))(h0:off=0)(hl:len=rows.length):Fz h p v (.hs p v off len room) (.sl m rows):=
 .hs off len room e m rows rows hg (by omega) (by subst h0;subst hl;simp)
theorem Fz.rep(f:Fits C B S μ h w){p v:Nat}{μ':Map}(st:Step B S μ w (LetP S μ w p) μ' w){x y:AVal}{u:Value}(z:Fz h p v x y)(r:Rep w S μ x u):Rep w (LetP S μ w p) μ' y u:=by
 induction z generalizing u with
 |same x=>exact r.mono st
 |hs off len room e m rows es hg hl he=>subst he;exact r.letgo f hg st hl
 |agg cs ds hl hst _ ih=>
  obtain⟨vs,rfl,hvl,_,hr⟩:=r.agg_inv;refine .agg ds vs (by omega) (fun i d hd=>hst d (N4 hd)) (fun i d hd=>?_);have hlt:=(f9.1 hd).1;have hc:=L9 (show i<cs.length by omega);exact ih i _ d hc hd (hr i _ hc)
 |tup cs ds hl _ ih=>
  obtain⟨vs,rfl,hvl,hr⟩:=r.tup_inv;refine .tup ds vs (by omega) (fun i d hd=>?_);have hlt:=(f9.1 hd).1;have hc:=L9 (show i<cs.length by omega);exact ih i _ d hc hd (hr i _ hc)
 |wk x y z _ hw ih=>exact hw _ _ _ _ (ih r)
theorem Weak.fz{ms:List Nat}{t1:Env}(p v:Nat){e m:Nat}{rows:List AVal}(hg:getRow h p v=some (e,m,rows))(ht:∀i,t1 i=t i∨(i∈ms∧Fz h p v (t i) (t1 i))):Weak C ms t h t1 (h.set p .dead):=by
 refine⟨fun i hi=>(ht i).elim id fun⟨h1,_⟩=>absurd h1 hi,fun B k S μ w a f r=>?_⟩;obtain⟨μ',st,f1⟩:=f.letgo hg;refine⟨_,μ',st,f1,r.1,r.2.1,fun i hi=>?_⟩;rcases ht i with h1| ⟨_,h1⟩
 ·rw[h1];exact(r.2.2 i hi).mono st
 ·exact h1.rep f st (r.2.2 i hi)
end
end Go.Av
namespace Go.Av
open Go Go.RowKit
theorem bh{H:Heap}{p q:Nat}(b:Blk)(v:Nat)(hne:p≠q):getRow (H.set p b) q v=getRow H q v:=by
 unfold getRow;rw[S7 hne]
theorem bQ{H:Heap}{p:Nat}(e n u v:Nat)(rows:List AVal)(hp:p<H.length):getRow (H.set p (.row e n u rows)) p v=if v=u then some (e,n,rows)else none:=by
 unfold getRow;rw[P6 hp]
theorem aU{A l:Heap}{p:Nat}(v:Nat)(hp:p<A.length):getRow (A++l) p v=getRow A p v:=by
 unfold getRow;rw[M6 hp]
theorem aV{A l:Heap}{n k:Nat}(v:Nat)(hn:A.length=n):getRow (A++l) (n+k) v=getRow l k v:=by subst hn;exact jK A l k v
theorem aH{A l:Heap}{n:Nat}(v:Nat)(hn:A.length=n):getRow (A++l) n v=getRow l 0 v:=by subst hn;exact o1 A l v
theorem z8{A l:Heap}{p:Nat}(b:Blk)(hp:p<A.length):(A++l).set p b=A.set p b++l:=List.set_append_left p b hp
theorem d9{A l:Heap}{n k:Nat}(b:Blk)(hn:A.length=n):(A++l).set (n+k) b=A++l.set k b:=by subst hn;exact p6 A l k b
theorem fP{A l:Heap}{n:Nat}(b:Blk)(hn:A.length=n):(A++l).set n b=A++l.set 0 b:=by subst hn;exact v8 A l b
theorem ax:(∀{H:Heap} {p q:Nat} (b:Blk) (v:Nat) (_:p≠q),getRow (H.set p b) q v=getRow H q v)∧
  (∀{H:Heap} {p:Nat} (e n u v:Nat) (rows:List AVal) (_:p<H.length),getRow (H.set p (.row e n u rows)) p v=if v=u then some (e,n,rows)else none)∧
  (∀{A l:Heap} {p:Nat} (v:Nat) (_:p<A.length),getRow (A++l) p v=getRow A p v)∧
  (∀{A l:Heap} {n k:Nat} (v:Nat) (_:A.length=n),getRow (A++l) (n+k) v=getRow l k v)∧
  (∀{A l:Heap} {n:Nat} (v:Nat) (_:A.length=n),getRow (A++l) n v=getRow l 0 v)∧
  (∀{A l:Heap} {p:Nat} (b:Blk) (_:p<A.length),(A++l).set p b=A.set p b++l)∧
  (∀{A l:Heap} {n k:Nat} (b:Blk) (_:A.length=n),(A++l).set (n+k) b=A++l.set k b)∧
  (∀{A l:Heap} {n:Nat} (b:Blk) (_:A.length=n),(A++l).set n b=A++l.set 0 b)∧
  (∀(H:Heap) (i:Nat) (b:Blk),(H.set i b).length=H.length)∧(∀(H:Heap) (i:Nat) (a b:Blk),(H.set i a).set i b=H.set i b):=
 ⟨bh,bQ,aU,aV,aH,z8,d9,fP,fun _ _ _=>W2 ..,fun _ _ _ _=>List.set_set ..⟩
theorem aT{H:Heap}{p v:Nat}{x:TypeId×Nat×List AVal}(h:getRow H p v=some x):p<H.length:=by
 obtain⟨e,n,r⟩:=x;exact(f9.1 (dD h)).1
attribute [go_sem] List.length_set
def KeepC(h0 h1:Heap)(N:Nat):Prop:=∀(p:Nat) (k:Blk),h1[p]? =some k→h0[p]? =some k∨CloB N k
theorem KeepC.refl(h:Heap)(N:Nat):KeepC h h N:=fun _ _ h=>.inl h
theorem KeepC.app{h0 h1:Heap}{N:Nat}(g:KeepC h0 h1 N){l:Heap}(hb:∀b∈l,CloB N b):KeepC h0 (h1++l) N:=by
 intro p k hk;rcases Z6 p h1.length with h2|h2
 ·rw[M6 h2]at hk;exact g p k hk
 ·rw[M9 h2]at hk;exact .inr (hb k (N4 hk))
def FrN(n0:Nat)(H H':Heap):Prop:=∀p,p<n0→H'[p]? =H[p]?
theorem FrN.refl(n0:Nat)(H:Heap):FrN n0 H H:=fun _ _=>rfl
theorem FrN.set{n0:Nat}{H H':Heap}{q:Nat}(b:Blk)(hq:n0≤q)(g:FrN n0 H H'):FrN n0 H (H'.set q b):=fun p hp=>by rw[S7 (by omega)];exact g p hp
theorem FrN.app{n0:Nat}{H H':Heap}(l:Heap)(hn:n0≤H'.length)(g:FrN n0 H H'):FrN n0 H (H'++l):=fun p hp=>by rw[M6 (by omega)];exact g p hp
theorem FrN.trans{n0:Nat}{H H' H'':Heap}(g:FrN n0 H H')(k:FrN n0 H' H''):FrN n0 H H'':=fun p hp=>(k p hp).trans (g p hp)
theorem FrN.less{n0 n1:Nat}{H H':Heap}(g:FrN n1 H H')(h:n0≤n1):FrN n0 H H':=fun p hp=>g p (by omega)
theorem Fin.whole{h0 h1:Heap}{R:AVal→Heap→Prop}{r:AVal}(hl:h0.length≤h1.length)(hc:Clo h1.length r)(hR:R r h1):Fin h0 h1 R r:=
 ⟨h1.length,r,hl,.clo _ hc,.inl (M2 _),by rw[W9];exact hR⟩
theorem Fin.upto{h0 h1 j:Heap}{R:AVal→Heap→Prop}{r:AVal}(hl:h0.length≤h1.length)(hk:KeepC h0 h1 h1.length)(hc:Clo h1.length r)(hR:R r h1):Fin h0 (h1++j) R r:=by
 refine⟨h1.length,r,hl,.clo _ hc,.inr fun p k hp h2=>?_,by rw[U3 rfl];exact hR⟩;rw[M6 hp]at h2;rcases hk p k h2 with h3|h3
 ·exact .inl ⟨(f9.1 h3).1,h3⟩
 ·exact .inr h3
theorem CloB.row{N e n v:Nat}{rows:List AVal}(h:∀r∈rows,Clo N r):CloB N (.row e n v rows):=h
section
variable {C:Ctx}
theorem mR{T T' e n by' p ver len:Nat}{y:AVal}{rows ys:List AVal}{h:Heap}{k:AVal→Heap→Prop}(hT:T'=T∨strT C.P T'=true)(he:elmT C.P T=some e)(hn:szOf C.P e=some n)(hb:byT C.P e=some by')
  (hz:(zroT C.P e).map (fun z=>z.cells.length)=some n)(h0:0<n)(hy:elemsOf h n y=some ys)(hrow:getRow h p ver=some (e,n,rows))(hl:len≤rows.length)(hys:0<ys.length)
  (hr:len+ys.length≤maxLen∧(len+ys.length)*by'≤140737488355328)
  (hk:k (.hs h.length 0 0 (len+ys.length) true) (h++[.row e n 0 (rows.take len++ys)])):appK C T T' (.hs p ver 0 len false) y h k:=by
 refine⟨hT,?_⟩;simp only[wpAppend,he,hn,hb,hy,hrow,bc];exact⟨h0,hz,trivial,trivial,trivial,hr,by rw[L5 (by simp)];exact⟨hys,hl,hk⟩⟩
theorem qm{P:Program}{h:Heap}{T e p v len n m i:Nat}{rows:List AVal}{k:IntKind}(he:elmT P T=some e)(hg:getRow h p v=some (m,n,rows))(hn:szOf P e=some n)(hi:i<len):
  aslice P h T (.hs p v 0 len true) (some (.int k (i:Int))) none none=some (.hs p v i (len-i) true):=by
 simp only[aslice,he,hg,hn,if_true,optInt];rw[M1 ⟨by omega,by omega,by omega,by omega⟩];simp
theorem gx{P:Program}{h:Heap}{T e p v len n m i:Nat}{rows:List AVal}{k:IntKind}(he:elmT P T=some e)(hg:getRow h p v=some (m,n,rows))(hn:szOf P e=some n)(hi:i=len)(h0:0<i):
  aslice P h T (.hs p v 0 len true) (some (.int k (i:Int))) none none=some (.sl n []):=by
 simp only[aslice,he,hg,hn,if_true,optInt];rw[L5 (by omega),M1 ⟨by omega,by omega,by omega,rfl⟩]
theorem jR{P:Program}{h:Heap}{T e p v off len n m r:Nat}{room:Bool}{rows:List AVal}{k k':IntKind}(he:elmT P T=some e)(hg:getRow h p v=some (m,n,rows))(hn:szOf P e=some n)(hr:r≤len):
  aslice P h T (.hs p v off len room) none (some (.int k (r:Int))) (some (.int k' (r:Int)))=some (.hs p v off r false):=by
 simp only[aslice,he,hg,hn,if_true,optInt];rw[M1 ⟨Int.le_refl _,by omega,by omega,.inl trivial⟩];simp
end
def ov(H:Heap)(n:Nat)(bs:List Blk):Heap:=H.take n++bs++H.drop (n+bs.length)
theorem bj{H:Heap}{n:Nat}{bs:List Blk}(hn:n+bs.length≤H.length):(ov H n bs).length=H.length:=by
 simp only[ov,M5,N9,P5];omega
theorem bn{H:Heap}{n:Nat}{bs:List Blk}(hn:n+bs.length≤H.length)(p:Nat):(ov H n bs)[p]? =if n≤p∧p<n+bs.length then bs[p-n]? else H[p]? :=by
 have h1:(H.take n).length=n:=by rw[N9];omega
 unfold ov;by_cases h:n≤p∧p<n+bs.length
 ·rw[M1 h,M6 (by rw[M5,h1];omega),M9 (by omega),h1]
 ·rw[L5 h];by_cases h2:p<n
  ·rw[M6 (by rw[M5,h1];omega),M6 (by omega),N5 h2]
  ·rw[M9 (by rw[M5,h1];omega),P4,M5,h1];congr 1;omega
theorem qp{H:Heap}{n k:Nat}{bs:List Blk}(hn:n+bs.length≤H.length)(hk:k<bs.length):(ov H n bs)[n+k]? =bs[k]? :=by
 rw[bn hn,M1 (by omega)];congr 1;omega
theorem za{H:Heap}{n:Nat}{bs:List Blk}(hn:n+bs.length≤H.length)(hk:0<bs.length):(ov H n bs)[n]? =bs[0]? :=qp (k:=0) hn hk
theorem ic{H:Heap}{n p:Nat}{bs:List Blk}(hn:n+bs.length≤H.length)(hp:p<n∨n+bs.length≤p):(ov H n bs)[p]? =H[p]? :=by
 rw[bn hn,L5 (by omega)]
theorem bH{H:Heap}{n k:Nat}{bs:List Blk}(b:Blk)(hn:n+bs.length≤H.length)(hk:k<bs.length):(ov H n bs).set (n+k) b=ov H n (bs.set k b):=by
 apply U0
 intro p;have hl:(bs.set k b).length=bs.length:=W2 ..;rw[za4,bj hn,bn hn,bn (by rw[hl];exact hn),hl,za4];by_cases h:n+k=p
 ·subst h;rw[M1 rfl,M1 (by omega),M1 (by omega),M1 (by omega),M1 (by omega)]
 ·rw[L5 h];split
  ·rw[L5 (by omega)]
  ·rfl
theorem kZ{H:Heap}{n:Nat}{bs:List Blk}(b:Blk)(hn:n+bs.length≤H.length)(hk:0<bs.length):(ov H n bs).set n b=ov H n (bs.set 0 b):=bH (k:=0) b hn hk
theorem ie{H:Heap}{n p:Nat}{bs:List Blk}(b:Blk)(hn:n+bs.length≤H.length)(hp:p<n∨n+bs.length≤p):(ov H n bs).set p b=ov (H.set p b) n bs:=by
 apply U0
 intro q;rw[za4,bj hn,bn hn,bn (by rw[W2];exact hn),za4];by_cases h:p=q
 ·subst h;have:¬(n≤p∧p<n+bs.length):=by omega
  simp[this]
 ·rw[L5 h,L5 h]
theorem ig{H j:Heap}{n:Nat}{bs:List Blk}(hn:n+bs.length≤H.length):ov H n bs++j=ov (H++j) n bs:=by
 apply U0
 intro q;rw[bn (by rw[M5];omega)];rcases Z6 q H.length with h|h
 ·rw[M6 (by rw[bj hn];exact h),bn hn,M6 h]
 ·rw[M9 (by rw[bj hn];exact h),bj hn,L5 (by omega),M9 h]
theorem p8{H:Heap}{n m:Nat}{bs cs:List Blk}(hn:n+bs.length≤H.length)(hm:m+cs.length≤H.length)(hd:n+bs.length≤m∨m+cs.length≤n):ov (ov H m cs) n bs=ov (ov H n bs) m cs:=by
 apply U0
 intro q;rw[bn (by rw[bj hm];omega),bn hm,bn (by rw[bj hn];omega),bn hn];by_cases h1:n≤q∧q<n+bs.length
 ·rw[M1 h1,L5 (by omega),M1 h1]
 ·rw[L5 h1];by_cases h2:m≤q∧q<m+cs.length
  ·rw[M1 h2,M1 h2]
  ·rw[L5 h2,L5 h2,L5 h1]
theorem jS(H:Heap)(bs:List Blk)(j:Heap):H++(bs++j)=ov (H++(bs++j)) H.length bs:=by
 unfold ov;rw[U3 rfl,List.drop_append,R3 (by omega),P3,W5,zb0 rfl,P2]
theorem jT{H:Heap}{n k:Nat}{bs:List Blk}(v:Nat)(hn:n+bs.length≤H.length)(hk:k<bs.length):getRow (ov H n bs) (n+k) v=getRow bs k v:=by unfold getRow;rw[qp hn hk]
theorem fQ{H:Heap}{n p:Nat}{bs:List Blk}(v:Nat)(hn:n+bs.length≤H.length)(hp:p<n∨n+bs.length≤p):getRow (ov H n bs) p v=getRow H p v:=by unfold getRow;rw[ic hn hp]
theorem dS{H:Heap}{n k:Nat}{bs:List Blk}(hn:n+bs.length≤H.length)(hk:k<bs.length):mapAt (ov H n bs) (n+k)=mapAt bs k:=by unfold mapAt;rw[qp hn hk]
theorem p9{H:Heap}{n:Nat}{bs:List Blk}(hn:n+bs.length≤H.length)(hk:0<bs.length):mapAt (ov H n bs) n=mapAt bs 0:=dS (k:=0) hn hk
theorem FrN.behind{H H':Heap}(g:FrN H.length H H')(hl:H.length≤H'.length):∃j,H'=H++j:=by
 refine⟨H'.drop H.length,?_⟩
 apply U0
 intro p;by_cases h:p<H.length
 ·rw[M6 h,g p h]
 ·rw[M9 (by omega),P4];congr 1;omega
theorem ii{H j:Heap}{n:Nat}{bs cs:List Blk}{R:AVal→Heap→Prop}{r:AVal}(hn:n+bs.length≤H.length)(hl:cs.length=bs.length)(hb:∀b∈cs,CloB H.length b)(hc:Clo H.length r)(hR:R r (ov H n cs)):Fin (ov H n bs) (ov (H++j) n cs) R r:=by
 rw[← ig (by omega)];refine Fin.keep (by rw[bj hn,bj (by omega)]) (fun p k hk=>?_) (by rw[bj hn];exact hc) hR;rw[bn (by omega)]at hk;rw[bj hn,bn hn];by_cases h:n≤p∧p<n+cs.length
 ·rw[M1 h]at hk;exact .inr (hb k (N4 hk))
 ·rw[L5 h]at hk;left;rw[L5 (by omega)];exact hk
theorem pb{H:Heap}{n:Nat}{bs cs:List Blk}{R:AVal→Heap→Prop}{r:AVal}(hn:n+bs.length≤H.length)(hl:cs.length=bs.length)(hb:∀b∈cs,CloB H.length b)(hc:Clo H.length r)(hR:R r (ov H n cs)):Fin (ov H n bs) (ov H n cs) R r:=by
 have:=ii (j:=[]) hn hl hb hc hR
 rwa [O2]at this
theorem dq{H j:Heap}{n:Nat}{bs cs:List Blk}{R:AVal→Heap→Prop}{r0 r:AVal}(hn:n+bs.length≤H.length)(hl:cs.length=bs.length)(hb:∀b∈cs,CloB H.length b)(hc:Frz (ov (H++j) n cs) H.length r0 r)(hR:R r (ov H n cs)):Fin (ov H n bs) (ov (H++j) n cs) R r0:=by
 rw[← ig (by omega)]at hc ⊢;refine Fin.keepF (by rw[bj hn,bj (by omega)]) (fun p k hk=>?_) (by rw[bj hn];exact hc) hR;rw[bn (by omega)]at hk;rw[bj hn,bn hn];by_cases h:n≤p∧p<n+cs.length
 ·rw[M1 h]at hk;exact .inr (hb k (N4 hk))
 ·rw[L5 h]at hk;left;rw[L5 (by omega)];exact hk
end Go.Av
namespace Go.Av
open Go.RowKit
section
variable {C:Ctx} {t:Env} {h:Heap}
def nopO:Oper:= {dst:=none,op:=.move (.const (.bool false)),type:=0,pos:= "",after:= #[],guard:=none}
end
inductive ET where
 |fin
 |one (i:Nat) (m:List Bool) (s:ET)
 |two (i:Nat) (m:List Bool) (s:ET) (j:Nat) (m':List Bool) (u:ET)
def maskL:List Bool→List Oper→List Oper
 |true::m,o::l=>o::maskL m l
 |false::m,_::l=>nopO::maskL m l
 |_,_=>[]
@[go_sem] theorem aD(m:List Bool)(o:Oper)(l:List Oper):maskL (true::m) (o::l)=o::maskL m l:=(rfl)
@[go_sem] theorem aE(m:List Bool)(o:Oper)(l:List Oper):maskL (false::m) (o::l)=nopO::maskL m l:=(rfl)
@[go_sem] theorem aC(l:List Oper):maskL [] l=[]:=by cases l<;>rfl
theorem cP:∀(m:List Bool) (l:List Oper) (i:Nat),(maskL m l)[i]? =match m[i]?,l[i]? with|some true,some o=>some o|some false,some _=>some nopO|_,_=>none
 | [],l,i=>by rw[aC];simp
 |b::m,[],i=>by cases b<;>simp[maskL]
 |true::m,o::l,0=>by simp[maskL]
 |false::m,o::l,0=>by simp[maskL]
 |true::m,o::l,i+1=>by simp only[maskL,V3];exact cP m l i
 |false::m,o::l,i+1=>by simp only[maskL,V3];exact cP m l i
theorem ij:∀(m:List Bool) (l:List Oper),m.length≤l.length→(maskL m l).length=m.length
 | [],l,_=>by rw[aC];rfl
 |b::m,[],h=>by simp at h
 |true::m,o::l,h=>by simp only[maskL,M8];rw[ij m l (by simpa using h)]
 |false::m,o::l,h=>by simp only[maskL,M8];rw[ij m l (by simpa using h)]
def wrM:List Bool→List Oper→List Nat
 |true::m,o::l=>match o.dst with|some d=>d::wrM m l|none=>wrM m l
 |false::m,_::l=>wrM m l
 |_,_=>[]
@[go_sem] theorem JQ(m:List Bool)(o:Oper)(l:List Oper):wrM (true::m) (o::l)=match o.dst with|some d=>d::wrM m l|none=>wrM m l:=(rfl)
@[go_sem] theorem JR(m:List Bool)(o:Oper)(l:List Oper):wrM (false::m) (o::l)=wrM m l:=(rfl)
@[go_sem] theorem BM(l:List Oper):wrM [] l=[]:=by cases l<;>rfl
theorem mS:∀(m:List Bool) (l:List Oper),wrM m l=wrOps (maskL m l)
 | [],l=>by rw[BM,aC];rfl
 |b::m,[]=>by cases b<;>rfl
 |true::m,o::l=>by
  show(match o.dst with|some d=>d::wrM m l|none=>wrM m l)=(match o.dst with|some d=>d::wrOps (maskL m l)|none=>wrOps (maskL m l))
  rw[mS m l]
 |false::m,o::l=>by simp only[wrM,maskL,wrOps,nopO];rw[mS m l]
def freeO(o:Oper):Bool:=match o.op with
 | .move _| .assign _| .pick _ _ _| .extract _ _| .field _ _ _| .build _ _| .unOp _ _ _=>true
 |_=>false
def okI(ops:Array Oper)(b:Array Nat)(k:Nat)(es:List Nat)(i:Nat)(m:List Bool)(X:List Nat):Bool:=
 es.contains i&& !X.contains i&&(es.all fun x=> !(b.getD i 0).testBit x||X.contains x)&&
 ((List.range k).all fun p=>es.contains p||m.getD p false||(decide (p<i)&&(b.getD i 0).testBit p)||(es.any fun x=>X.contains x&&decide (p<x)&&(b.getD x 0).testBit p)||(ops[p]?.any freeO))&&
 ((List.range m.length).all fun p=> !m.getD p false||(decide (p<k)&& !es.contains p))&&decide (m.length≤k)
def okO(b:Array Nat)(es X is:List Nat):Bool:=
 es.all fun x=>X.contains x||is.contains x||es.any fun y=> !X.contains y&&decide (y<x)&&(b.getD x 0).testBit y
def okE(ops:Array Oper)(b:Array Nat)(k:Nat)(es:List Nat):ET→List Nat→Bool
 | .fin,X=>es.all X.contains
 | .one i m s,X=>okI ops b k es i m X&&okO b es X [i]&&okE ops b k es s (i::X)
 | .two i m s j m' u,X=>okI ops b k es i m X&&okI ops b k es j m' X&&okO b es X [i,j]&&okE ops b k es s (i::X)&&okE ops b k es u (j::X)
def chkE(l:List Oper)(k:Nat)(es:List Nat)(m0:List Bool)(tr:ET):Bool:=
 let ops:=l.toArray
 let b:=Region.before ops
 preOkG false ops k&&decide (k≤l.length)&&
 ((List.range k).all fun i=>(List.range k).all fun j=>match ops[i]?,ops[j]? with
  |some oi,some oj=>match oj.dst with
   |some d=> !(oi.looksAt ops).contains d||(decide (j<i)&&(b.getD i 0).testBit j&&(es.contains i|| !es.contains j))
   |none=>true
  |_,_=>true)&&
 ((List.range k).all fun i=>es.contains i||(ops[i]?.any fun o=>o.dst.isSome))&&
 (es.all fun e=>decide (e<k))&&m0==(List.range k).map (fun i=> !es.contains i)&&okE ops b k es tr []
section
variable {C:Ctx} {t:Env} {h:Heap}
def stepE(C:Ctx)(l:List Oper)(t0:Env)(i:Nat)(m:List Bool)(P:Env→Heap→Prop)(tc:Env)(h:Heap):Prop:=
 need (l[i]?) fun o=>wpOperV C l.toArray o tc h fun v h'=>(WPp C l.toArray (maskL m l) t0 h' fun t''=>agrL (wrM m l) t'' t0)∧P (put tc o.dst v) h'
def WPe(C:Ctx)(Q:Exit→Env→Heap→Prop)(l:List Oper)(k:Nat)(t0:Env):ET→Env→Heap→Prop
 | .fin,tc,h=>WPl C l.toArray Q (l.drop k) tc h
 | .one i m s,tc,h=>stepE C l t0 i m (WPe C Q l k t0 s) tc h
 | .two i m s j m' u,tc,h=>stepE C l t0 i m (WPe C Q l k t0 s) tc h∧stepE C l t0 j m' (WPe C Q l k t0 u) tc h
theorem sL{ops:Array Oper}{o:Oper}{s:Env}(hf:freeO o=true){v:AVal}(g:∀KK:AVal→Heap→Prop,KK v h→wpOperV C ops o s h KK)(h':Heap):∀KK:AVal→Heap→Prop,KK v h'→wpOperV C ops o s h' KK:=by
 intro KK hk;have g:=g (fun v' _=>KK v' h') hk;have key:∀K:AVal→Heap→Prop,wpOp C o.op s h (fun v' _=>K v' h')=wpOp C o.op s h' K:=by
  intro K;unfold freeO at hf;cases ho:o.op<;>rw[ho]at hf<;>first| (cases hf;done)|rfl
 unfold wpOperV at g ⊢;cases hg:o.guard with
 |none=>rw[hg]at g;simp only at g ⊢;rw[← key];exact g
 |some q=>
  obtain⟨j,w⟩:=q;rw[hg]at g;simp only at g ⊢;cases hq:guardA ops s j with
  |none=>rw[hq]at g;exact g
  |some b=>rw[hq]at g;simp only at g ⊢;rw[← key];exact g
theorem mT{V:Nat→AVal}(l:List Oper)(t:Env)(hu:∀(i j:Nat) (oi oj:Oper) (d:Nat),l[i]? =some oi→l[j]? =some oj→oi.dst=some d→oj.dst=some d→i=j):
  ∀i,i≤l.length→(∀(j:Nat) (o:Oper) (d:Nat),j<i→l[j]? =some o→o.dst=some d→Av.T V l t i d=V j)∧(∀d,(∀(j:Nat) (o:Oper),j<i→l[j]? =some o→o.dst≠some d)→Av.T V l t i d=t d)
 |0,_=>⟨fun j o d hj=>by omega,fun d _=>by rw[i6]⟩
 |i+1,hi=>by
  obtain⟨h1,h2⟩:=mT l t hu i (by omega);have ho:l[i]? =some (l[i]'(by omega)):=L9 _;rw[eS V l t i _ ho];generalize l[i]=o at ho;refine⟨fun j oj d hj hoj hd=>?_,fun d hn=>?_⟩
  ·by_cases hji:j=i
   ·subst hji;rw[ho]at hoj;cases hoj;simp[put,hd,upd]
   ·have hne:o.dst≠some d:=fun e=>hji (hu j i oj o d hoj ho hd e)
    have:put (Av.T V l t i) o.dst (V i) d=Av.T V l t i d:=by
     cases hdo:o.dst with
     |none=>rfl
     |some x=>simp only[put,upd];rw[L5];intro e;subst e;exact hne hdo
    rw[this];exact h1 j oj d (by omega) hoj hd
  ·have hne:o.dst≠some d:=hn i o (by omega) ho;have:put (Av.T V l t i) o.dst (V i) d=Av.T V l t i d:=by
    cases hdo:o.dst with
    |none=>rfl
    |some x=>simp only[put,upd];rw[L5];intro e;subst e;exact hne hdo
   rw[this];exact h2 d fun j oj hj hoj=>hn j oj (by omega) hoj
theorem Ag.upd'{ops:Array Oper}{k:Nat}{V:Nat→AVal}{t s:Env}{p:Nat→Bool}(g:Ag ops k V t p s){i:Nat}(hp:p i=false)(v:AVal):Ag ops k (fun j=>if j=i then v else V j) t p s:=
 ⟨fun j o x hj ho hpj hd=>by
  have:j≠i:=fun e=>by subst e;rw[hp]at hpj;cases hpj
  simp only[L5 this];exact g.1 j o x hj ho hpj hd,g.2⟩
theorem Ag.congr'{ops:Array Oper}{k:Nat}{V:Nat→AVal}{t s:Env}{p p':Nat→Bool}(g:Ag ops k V t p s)(hp:∀j,j<k→p' j=p j):Ag ops k V t p' s:=
 ⟨fun j o x hj ho hpj hd=>g.1 j o x hj ho (by rw[← hp j hj];exact hpj) hd,fun x hn=>g.2 x fun j o hj ho hpj=>hn j o hj ho (by rw[hp j hj];exact hpj)⟩
theorem qq{l:List Oper}{Q:Exit→Env→Heap→Prop}{k:Nat}{es:List Nat}{t0 t:Env}(D:PreOk l.toArray k fun i j=>((Region.before l.toArray).getD j 0).testBit i)(hkn:k≤l.length)
  (c4:∀(i j:Nat) (oi oj:Oper) (d:Nat),i<k→j<k→l[i]? =some oi→l[j]? =some oj→oj.dst=some d→d∈oi.looksAt l.toArray→j<i∧((Region.before l.toArray).getD i 0).testBit j=true∧(es.contains i=true∨es.contains j=false))
  (c7:∀(i:Nat) (o:Oper),i<k→es.contains i=false→l[i]? =some o→o.dst.isSome=true)(hes:∀e,es.contains e=true→e<k)
  (hA:detGo .any l.toArray (l.length-k) (listK l.length k)=some (List.range' k (l.length-k))):
  ∀(fuel n:Nat) (L:Array Bool) (s:Env) (tr:ET) (V:Nat→AVal) (tc:Env) (h:Heap) (X:List Nat),L.size=l.length→left l.toArray L=fuel→Closed l.toArray L→(∀j,j<l.length→L.getD j false=true→j<k)→
   (∀j,es.contains j=true→(L.getD j false=X.contains j))→okE l.toArray (Region.before l.toArray) k es tr X=true→
   Ag l.toArray k V t (fun j=>L.getD j false) s→Ag l.toArray k V t (fun j=> !es.contains j) t0→Ag l.toArray k V t (fun j=> !es.contains j||X.contains j) tc→
   (∀(i:Nat) (o:Oper),i<k→es.contains i=false→L.getD i false=false→l[i]? =some o→∀KK:AVal→Heap→Prop,KK (V i) h→wpOperV C l.toArray o t0 h KK)→WPe C Q l k t0 tr tc h→
   WPix C l.toArray Q (Region.linearise.go .any l.toArray fuel n L []) s h:=by
 have hsee:∀{V:Nat→AVal} {s s':Env} {p p':Nat→Bool} {i:Nat} {o:Oper},Ag l.toArray k V t p s→Ag l.toArray k V t p' s'→i<k→l[i]? =some o→
   (∀j,j<i→((Region.before l.toArray).getD i 0).testBit j=true→(es.contains i=true∨es.contains j=false)→p j=true∧p' j=true)→∀d∈o.looksAt l.toArray,s d=s' d:=by
  intro V s s' p p' i o g g' hi ho hp d hd;by_cases hx:∃(j:Nat) (oj:Oper),j<k∧l[j]? =some oj∧oj.dst=some d
  ·obtain⟨j,oj,h1,h2,h3⟩:=hx;obtain⟨h4,h5,h6⟩:=c4 i j o oj d hi h1 ho h2 h3 hd;obtain⟨h7,h8⟩:=hp j h4 h5 h6;rw[g.1 j oj d h1 (by simpa using h2) h7 h3,g'.1 j oj d h1 (by simpa using h2) h8 h3]
  ·have hn:∀(j:Nat) (oj:Oper),j<k→l.toArray[j]? =some oj→oj.dst≠some d:=fun j oj h1 h2 h3=>hx ⟨j,oj,h1,by simpa using h2,h3⟩
   rw[g.2 d fun j oj h1 h2 _=>hn j oj h1 h2,g'.2 d fun j oj h1 h2 _=>hn j oj h1 h2]
 intro fuel;induction fuel with
 |zero=>
  intro n L s tr V tc h X hs hl cl hlt hX hok ag ag0 agc hv hw;have hall:=dR (by simpa using hs) hl;cases tr with
  |fin=>
   have hk:k=l.length:=by
    apply R7
    intro hne;have:=hlt k (by omega) (hall k (by simp;omega));omega
   subst hk;simp only[Region.linearise.go,List.reverse_nil,WPix];simp only[WPe,List.drop_length,WPl]at hw;have e:s=tc:=by
    refine Ag.eq (p:=fun _=>true) (ag.congr' fun j hj=>?_) (agc.congr' fun j hj=>?_)
    ·exact(hall j (by simpa using hj)).symm
    ·cases hc:es.contains j with
     |false=>rfl
     |true=>rw[← hX j hc,hall j (by simpa using hj)];rfl
   rw[e];exact hw
  |one i m u=>
   simp only[okE,okI,L7,P0]at hok;have h1:=hok.1.1.1.1.1.1.1;have h2:=hok.1.1.1.1.1.1.2;have:=hall i (by have:=hes i h1;simp;omega);rw[hX i h1,h2]at this;cases this
  |two i m u j m' u'=>
   simp only[okE,okI,L7,P0]at hok;have h1:=hok.1.1.1.1.1.1.1.1.1;have h2:=hok.1.1.1.1.1.1.1.1.2;have:=hall i (by have:=hes i h1;simp;omega);rw[hX i h1,h2]at this;cases this
 |succ fuel ih=>
  intro n L s tr V tc h X hs hl cl hlt hX hok ag ag0 agc hv hw;have bef:∀(i:Nat) (o:Oper),i<k→l[i]? =some o→(∀e∈o.after,Region.binds .any e=true→L.getD e.on false=true)→∀j,j<i→((Region.before l.toArray).getD i 0).testBit j=true→L.getD j false=true:=
   fun i o hi ho hrd j hj hc=>D.bef cl i o (by simpa using ho) hi j hj hc hrd
  by_cases hfin:tr=.fin
  ·subst hfin;simp only[okE,P8]at hok;have hXe:∀j,es.contains j=true→L.getD j false=true:=fun j hj=>by rw[hX j hj];exact hok j (by simpa using hj)
   have hTT:=D.ag_T V t (by simpa using hkn) k (M2 _);refine eh D .any D.less (by simpa using hkn) (V:=V) (t0:=t) (fun j=>es.contains j=false∧L.getD j false=false) (fun i o ho hoi KK hkk=>?_) ?_ _ _ _ _ (by simpa using hs) hl cl (by simpa using hlt) (fun j hj hlj=>?_) ag
   ·have hik:i<k:=by
     refine Nat.lt_of_not_le fun hle=>?_
     rw[U6,L5 (by omega)]at ho;cases ho
    have hoi':l[i]? =some o:=(by rw[U6,M1 hik]at ho;simpa using ho);have:=hv i o hik hoi.1 hoi.2 hoi' KK hkk;rw[← bm (hsee ag0 (D.ag_T V t (by simpa using hkn) i (by omega)) hik hoi' fun j hj hb he=>?_)]
    ·exact this
    ·rcases he with he|he
     ·rw[hoi.1]at he;cases he
     ·exact⟨by simp only[he];rfl,by simpa using hj⟩
   ·have:=mP (ops:=l.toArray) (Q:=Q) (md:=.any) _ _ _ (l.drop k) tc h hA (by rw[mQ (by omega),M4 (by simp)]) hw;have e:Av.T V (l.toArray.toList.take k) t k=tc:=by
     refine Ag.eq (p:=fun _=>true) (hTT.congr' fun j hj=>?_) (agc.congr' fun j hj=>?_)
     ·simpa using hj
     ·cases hc:es.contains j with
      |false=>rfl
      |true=>have:=hok j (by simpa using hc);simp only[this];rfl
    rw[e];simpa using this
   ·refine⟨?_,hlj⟩;cases hc:es.contains j with
    |false=>rfl
    |true=>rw[hXe j hc]at hlj;cases hlj
  ·
   obtain⟨e0,he0,hX0⟩:∃e0,es.contains e0=true∧X.contains e0=false:=by
    cases tr with
    |fin=>exact absurd rfl hfin
    |one i m u=>
     simp only[okE,okI,L7,P0]at hok;exact⟨i,hok.1.1.1.1.1.1.1,hok.1.1.1.1.1.1.2⟩
    |two i m u j m' u'=>
     simp only[okE,okI,L7,P0]at hok;exact⟨i,hok.1.1.1.1.1.1.1.1.1,hok.1.1.1.1.1.1.1.1.2⟩
   have hek:=hes e0 he0;have heun:L.getD e0 false=false:=(by rw[hX e0 he0];exact hX0);have hne:Region.ready .any l.toArray L≠ []:=by
    have hmin:∃i,i<k∧L.getD i false=false∧∀j,j<i→L.getD j false=true:=by
     obtain⟨i,hi,hl⟩:∃i,i<k∧L.getD i false=false:=⟨e0,hek,heun⟩;induction i using Nat.strongRecOn with
     |ind i ih=>
      by_cases hall:∀j,j<i→L.getD j false=true
      ·exact⟨i,hi,hl,hall⟩
      ·have:∃j,j<i∧L.getD j false=false:=R7 fun hno=>hall fun j hj=>by
        cases hlj:L.getD j false with
        |true=>rfl
        |false=>exact absurd ⟨j,hj,hlj⟩ hno
       obtain⟨j,hj,hlj⟩:=this;exact ih j hj (by omega) hlj
    obtain⟨i,hi,hl,hall⟩:=hmin;have hin:i<l.toArray.size:=(by simp;omega);have h3:i<L.size:=(by omega);intro e;have:i∈Region.ready .any l.toArray L:=mem_ready.2 ⟨by simp[h3]at hl ⊢;exact hl,l.toArray[i],O8 hin,fun e he hb=>hall _ (D.less i _ (O8 hin) hi e he hb)⟩;rw[e]at this;cases this
   obtain⟨i,hi,hmem⟩:=cf hne n;obtain⟨hun,o,ho,hrd⟩:=mem_ready.1 hmem;have hin:=(O6.1 ho).1;have hin':i<l.length:=(by simpa using hin);have h3:i<L.size:=(by omega);have ho':l[i]? =some o:=(by simpa using ho);have hun':L.getD i false=false:=(by simp[h3]at hun ⊢;exact hun);have hik:i<k:=by
    refine Nat.lt_of_not_le fun hle=>?_
    obtain⟨e1,he1,hb,h1⟩:=D.sfx e0 i o ho hek hle;have h2:=hrd e1 he1 hb;have hkl:L.getD e0 false=true:=by
     rcases h1 with rfl| ⟨h4,h5,h6⟩
     ·exact h2
     ·have hoe:l.toArray[e1.on]? =some (l.toArray[e1.on]'(by simp;omega)):=O8 (by simp;omega);exact D.bef cl e1.on _ hoe h4 e0 h5 h6 fun e' he' hb'=>cl e1.on _ hoe h2 e' he' hb'
    rw[heun]at hkl;cases hkl
   rw[dh .any l.toArray fuel n L hi];simp only[WPix,ho];rw[de];have hb:=bef i o hik ho' hrd;have agn:∀{V:Nat→AVal},Ag l.toArray k V t (fun j=>L.getD j false) s→Ag l.toArray k V t (fun j=>(L.setIfInBounds i true).getD j false) (put s o.dst (V i)):=fun ag=>by
    refine D.ag_put ag ho hik fun j hj=>?_
    by_cases hji:i=j
    ·subst hji;simp[h3]
    ·rw[getD_set_ne false hji];have:(j==i)=false:=by simp;exact fun e=>hji e.symm
     rw[this,za2]
   have hlt':∀j,j<l.length→(L.setIfInBounds i true).getD j false=true→j<k:=fun j hj hlj=>by
    by_cases hji:i=j
    ·subst hji;exact hik
    ·rw[getD_set_ne false hji]at hlj;exact hlt j hj hlj
   have hls:left l.toArray (L.setIfInBounds i true)=fuel:=(by have:=dg (by simpa using hs) hin hun';omega);cases hic:es.contains i with
   |false=>
    have h9:=hv i o hik hic hun' ho';rw[← bm (hsee ag0 ag hik ho' fun j hj hbt he=>?_)]
    ·refine h9 _ ?_;refine ih _ _ _ tr V tc h X (by simpa using hs) hls (cl.set ho hrd) hlt' (fun j hj=>?_) hok (agn ag) ag0 agc (fun j oj hj hjc hjl hoj=>?_) hw
     ·have:i≠j:=fun e=>by subst e;rw[hic]at hj;cases hj
      rw[getD_set_ne false this];exact hX j hj
     ·have:i≠j:=fun e=>by subst e;simp[h3]at hjl
      rw[getD_set_ne false this]at hjl;exact hv j oj hj hjc hjl hoj
    ·rcases he with he|he
     ·rw[hic]at he;cases he
     ·exact⟨by simp only[he];rfl,hb j hj hbt⟩
   |true=>
    have hiX:X.contains i=false:=(by rw[← hX i hic];exact hun');have eff:∀(m:List Bool) (u:ET),okI l.toArray (Region.before l.toArray) k es i m X=true→okE l.toArray (Region.before l.toArray) k es u (i::X)=true→stepE C l t0 i m (WPe C Q l k t0 u) tc h→
      wpOperV C l.toArray o s h fun v h'=>WPix C l.toArray Q (Region.linearise.go .any l.toArray fuel (n/(Region.ready .any l.toArray L).length) (L.setIfInBounds i true) []) (put s o.dst v) h':=by
     intro m u hoI hoE hst;simp only[stepE,ho',bc]at hst;rw[← bm (hsee agc ag hik ho' fun j hj hbt _=>?_)]
     ·refine cg hst fun v h' ⟨hre,hnx⟩=>?_
      have agV:=ag.upd' (i:=i) (by simpa using hun') v;have ag0V:=ag0.upd' (i:=i) (by simp only[hic];rfl) v;have agcV:=agc.upd' (i:=i) (by simp only[hic,hiX];rfl) v;have e1:=agn agV;simp only[if_true]at e1;refine ih _ _ _ u (fun j=>if j=i then v else V j) (put tc o.dst v) h' (i::X) (by simpa using hs) hls (cl.set ho hrd) hlt' (fun j hj=>?_) hoE e1 ag0V ?_ (fun p op hp hpc hpl hop=>?_) hnx
      ·by_cases hji:i=j
       ·subst hji;simp[h3]
       ·rw[getD_set_ne false hji,hX j hj];rw[List.contains_cons];have:(j==i)=false:=by simp;exact fun e=>hji e.symm
        rw[this,Bool.false_or]
      ·have:=D.ag_put (V:=fun j=>if j=i then v else V j) (p':=fun j=> !es.contains j||(i::X).contains j) agcV ho hik fun j hj=>by
        rw[List.contains_cons,Bool.or_comm (j==i),Bool.or_assoc]
       simpa using this
      ·have hpi:i≠p:=fun e=>by subst e;rw[hic]at hpc;cases hpc
       rw[getD_set_ne false hpi]at hpl;simp only[L5 (fun e=>hpi e.symm:¬p=i)];simp only[okI,L7,P8,T9,R6,P0,M7]at hoI;obtain⟨⟨⟨⟨⟨_,_⟩,_⟩,hms⟩,hml⟩,hmk⟩:=hoI;rcases hms p hp with(((h4|h4)|h4)|h4)|h4
       ·rw[hpc]at h4;cases h4
       ·
        obtain⟨V2,hv2,hK2⟩:=ce _ _ hre;rw[mS]at hK2;have hmlen:m.length≤l.length:=(by omega);have hget:∀q oq,(maskL m l)[q]? =some oq→oq=nopO∨(m.getD q false=true∧l[q]? =some oq):=fun q oq hq=>by
         rw[cP]at hq;split at hq
         ·rename_i h5 h6;cases hq;exact .inr ⟨by simp[List.getD,h5],h6⟩
         ·cases hq;exact .inl rfl
         ·cases hq
        have hgm:∀q oq,m.getD q false=true→l[q]? =some oq→(maskL m l)[q]? =some oq:=fun q oq h5 h6=>by
         rw[cP];have:m[q]? =some true:=by
          cases hm:m[q]? with
          |none=>simp[List.getD,hm]at h5
          |some b=>simp[List.getD,hm]at h5;subst h5;rfl
         rw[this,h6]
        have hmP:∀q,m.getD q false=true→q<k∧es.contains q=false:=fun q h5=>by
         have hq:q<m.length:=by
          apply R7
          intro hn;rw[List.getD,Q7 (by omega)]at h5;cases h5
         rcases hml q hq with h6|h6
         ·rw[h5]at h6;cases h6
         ·exact h6
        have hu:∀(a b:Nat) (oa ob:Oper) (d:Nat),(maskL m l)[a]? =some oa→(maskL m l)[b]? =some ob→oa.dst=some d→ob.dst=some d→a=b:=fun a b oa ob d h5 h6 h7 h8=>by
         rcases hget a oa h5 with rfl| ⟨ha,hoa⟩
         ·cases h7
         rcases hget b ob h6 with rfl| ⟨hb',hob⟩
         ·cases h8
         rcases V5 a b with h9|h9|h9
         ·exact absurd h8 ((D.pre a b oa ob (by simpa using hoa) (by simpa using hob) h9 (hmP b hb').1).2 d h7)
         ·exact h9
         ·exact absurd h7 ((D.pre b a ob oa (by simpa using hob) (by simpa using hoa) h9 (hmP a ha).1).2 d h8)
        have hT:=fun q (hq:q≤(maskL m l).length)=>mT (V:=V2) (maskL m l) t0 hu q hq
        have hV2:∀q oq d,(maskL m l)[q]? =some oq→oq.dst=some d→V2 q=t0 d:=fun q oq d h5 h6=>by
         have h7:=ji hK2 d (kY h5 h6);rw[(hT _ (M2 _)).1 q oq d (f9.1 h5).1 h5 h6]at h7;exact h7
        have hTt:∀q,q≤(maskL m l).length→Av.T V2 (maskL m l) t0 q=t0:=fun q hq=>by
         funext d
         by_cases hx:∃(a:Nat) (oa:Oper),a<q∧(maskL m l)[a]? =some oa∧oa.dst=some d
         ·obtain⟨a,oa,h5,h6,h7⟩:=hx;rw[(hT q hq).1 a oa d h5 h6 h7,hV2 a oa d h6 h7]
         ·exact(hT q hq).2 d fun a oa h5 h6 h7=>hx ⟨a,oa,h5,h6,h7⟩
        have hg:=hgm p op h4 hop;have:=hv2 p op hg;rw[hTt p (Nat.le_of_lt (f9.1 hg).1)]at this;obtain⟨d,hd⟩:=N3.1 (c7 p op hp hpc hop);have h5:V2 p=V p:=by
         rw[hV2 p op d hg hd];exact ag0.1 p op d hp (by simpa using hop) (by simp only[hpc];rfl) hd
        rw[h5]at this;exact this
       ·
        rw[hb p h4.1 h4.2]at hpl;cases hpl
       ·
        obtain⟨x,hxe,hx⟩:=Z8.1 h4;simp only[L7,M7]at hx;have hxe':es.contains x=true:=(by simpa using hxe);have hxk:=hes x hxe';have hxl:L.getD x false=true:=(by rw[hX x hxe'];exact hx.1.1);have hox:l.toArray[x]? =some (l.toArray[x]'(by simp;omega)):=O8 (by simp;omega);have:=D.bef cl x _ hox hxk p hx.1.2 hx.2 (fun e he hbd=>cl x _ hox hxl e he hbd);rw[this]at hpl;cases hpl
       ·rw[U5,hop]at h4;exact sL (by simpa using h4) (hv p op hp hpc hpl hop) h'
     ·have hLj:=hb j hj hbt;refine⟨?_,hLj⟩;cases hc:es.contains j with
      |false=>rfl
      |true=>rw[← hX j hc,hLj];rfl
    have other:∀is:List Nat,okO (Region.before l.toArray) es X is=true→is.contains i=true:=fun is ho=>by
     simp only[okO,P8,R6]at ho;rcases ho i (by simpa using hic)with(h4|h4)|h4
     ·rw[hiX]at h4;cases h4
     ·exact h4
     ·obtain⟨y,hy,h5⟩:=Z8.1 h4;simp only[L7,P0,M7]at h5;have:=hb y h5.1.2 h5.2;rw[hX y (by simpa using hy),h5.1.1]at this;cases this
    cases tr with
    |fin=>exact absurd rfl hfin
    |one i' m u=>
     simp only[okE,L7]at hok;have:i=i':=by simpa using other [i'] hok.1.2
     subst this;exact eff m u hok.1.1 hok.2 hw
    |two i' m u j' m' u'=>
     simp only[okE,L7]at hok;have:i=i'∨i=j':=by simpa using other [i',j'] hok.1.1.2
     rcases this with rfl|rfl
     ·exact eff m u hok.1.1.1.1 hok.1.2 hw.1
     ·exact eff m' u' hok.1.1.1.2 hok.2 hw.2
theorem aA{id:Nat}{l:List Oper}{Q:Exit→Env→Heap→Prop}(k:Nat)(es:List Nat)(m0:List Bool)(tr:ET)(hok:chkE l k es m0 tr=true)(hm:C.P.follows .mixedOrders=true)
  (hA:detGo .any l.toArray (l.length-k) (listK l.length k)=some (List.range' k (l.length-k)))
  (hh:WPp C l.toArray (maskL m0 l) t h fun t0=>WPe C Q l k t0 tr t0 h):WP C (.region id l.toArray true) Q t h:=by
 unfold chkE at hok;simp only[L7,M7,beq_iff_eq]at hok;obtain⟨⟨⟨⟨⟨⟨hpre,hkn⟩,hc4⟩,hc7⟩,hes⟩,hm0⟩,hE⟩:=hok;have D:=fF hpre;simp only[P8,T9]at hc4 hc7;have c4:∀(i j:Nat) (oi oj:Oper) (d:Nat),i<k→j<k→l[i]? =some oi→l[j]? =some oj→oj.dst=some d→d∈oi.looksAt l.toArray→j<i∧((Region.before l.toArray).getD i 0).testBit j=true∧(es.contains i=true∨es.contains j=false):=by
  intro i j oi oj d hi hj hoi hoj hd hl;have:=hc4 i hi j hj;rw[U5,U5,hoi,hoj]at this;simp only[hd,R6,L7,P0,M7]at this;rcases this with h1|h1
  ·have:(oi.looksAt l.toArray).contains d=true:=by simpa using hl
   rw[h1]at this;cases this
  ·exact⟨h1.1.1,h1.1.2,h1.2⟩
 have c7:∀(i:Nat) (o:Oper),i<k→es.contains i=false→l[i]? =some o→o.dst.isSome=true:=by
  intro i o hi he ho;have:=hc7 i hi;rw[U5,ho,he]at this;simpa using this
 have hes':∀e,es.contains e=true→e<k:=fun e he=>by
  have:=P8.1 hes e (by simpa using he);simpa using this
 obtain⟨V,hv,hK⟩:=ce _ _ hh;have hm0l:m0.length=k:=by rw[hm0];simp
 have hml:=ij m0 l (by omega);have hm0g:∀q,q<k→m0[q]? =some (!es.contains q):=fun q hq=>by rw[hm0];simp[hq]
 have hget:∀q oq,(maskL m0 l)[q]? =some oq→oq=nopO∨(q<k∧es.contains q=false∧l[q]? =some oq):=fun q oq hq=>by
  have hqk:q<k:=by have:=(f9.1 hq).1;omega
  rw[cP,hm0g q hqk]at hq;cases hc:es.contains q with
  |true=>rw[hc]at hq;cases hl:l[q]? with
   |none=>rw[hl]at hq;cases hq
   |some o=>rw[hl]at hq;cases hq;exact .inl rfl
  |false=>rw[hc]at hq;cases hl:l[q]? with
   |none=>rw[hl]at hq;cases hq
   |some o=>rw[hl]at hq;cases hq;exact .inr ⟨hqk,rfl,rfl⟩
 have hgm:∀q oq,q<k→es.contains q=false→l[q]? =some oq→(maskL m0 l)[q]? =some oq:=fun q oq hq hc h6=>by
  rw[cP,hm0g q hq,hc,h6];rfl
 have hu:∀(a b:Nat) (oa ob:Oper) (d:Nat),(maskL m0 l)[a]? =some oa→(maskL m0 l)[b]? =some ob→oa.dst=some d→ob.dst=some d→a=b:=fun a b oa ob d h5 h6 h7 h8=>by
  rcases hget a oa h5 with rfl| ⟨ha,_,hoa⟩
  ·cases h7
  rcases hget b ob h6 with rfl| ⟨hb',_,hob⟩
  ·cases h8
  rcases V5 a b with h9|h9|h9
  ·exact absurd h8 ((D.pre a b oa ob (by simpa using hoa) (by simpa using hob) h9 hb').2 d h7)
  ·exact h9
  ·exact absurd h7 ((D.pre b a ob oa (by simpa using hob) (by simpa using hoa) h9 ha).2 d h8)
 have hT:=fun q (hq:q≤(maskL m0 l).length)=>mT (V:=V) (maskL m0 l) t hu q hq
 generalize ht0:Av.T V (maskL m0 l) t (maskL m0 l).length=t0 at hK;have ag0:Ag l.toArray k V t (fun j=> !es.contains j) t0:=by
  rw[← ht0];refine⟨fun j o x hj ho hp hd=>?_,fun x hn=>?_⟩
  ·have hc:es.contains j=false:=(by simpa using hp);exact(hT _ (M2 _)).1 j o x (by omega) (hgm j o hj hc (by simpa using ho)) hd
  ·refine(hT _ (M2 _)).2 x fun j o hj ho hd=>?_
   rcases hget j o ho with rfl| ⟨h1,h2,h3⟩
   ·cases hd
   ·exact hn j o h1 (by simpa using h3) (by simp only[h2];rfl) hd
 have main:∀n,WPix C l.toArray Q (Region.linearise .any l.toArray n) t h:=fun n=>by
  unfold Region.linearise;refine qq D hkn c4 c7 hes' hA _ n _ t tr V t0 h [] (by simp) ?_ (fun j oj hj hl=>?_) (fun j hj hl=>?_) (fun j hj=>?_) hE (Ag.start _ _ _ _ fun j hj=>?_) ag0 (ag0.congr' fun j hj=>by simp) (fun i o hi hc _ ho KK hkk=>?_) hK
  ·unfold left;have:(List.range l.toArray.size).filter (fun i=> !(Array.replicate l.toArray.size false).getD i true)=List.range l.toArray.size:=by
    rw[R8];intro i hi;have:=T9.1 hi;simp at this ⊢;simp[this]
   rw[this,List.length_range]
  ·have h8:=(O6.1 hj).1;simp at h8 hl;simp[h8]at hl
  ·simp at hl;simp[hj]at hl
  ·have:=hes' j hj;have:j<l.length:=by omega
   simp[this]
  ·have:j<l.length:=by omega
   simp[this]
  ·have hg:=hgm i o hi hc ho;have:=hv i o hg KK hkk;have hil:i≤(maskL m0 l).length:=(by omega);rw[bm (t2:=t0) fun d hd=>?_]at this
   ·exact this
   ·by_cases hx:∃(j:Nat) (oj:Oper),j<k∧l[j]? =some oj∧oj.dst=some d
    ·obtain⟨j,oj,h1,h2,h3⟩:=hx;obtain⟨h4,_,h5⟩:=c4 i j o oj d hi h1 ho h2 h3 hd;have hcj:es.contains j=false:=by
      rcases h5 with h5|h5
      ·rw[hc]at h5;cases h5
      ·exact h5
     rw[(hT i hil).1 j oj d h4 (hgm j oj h1 hcj h2) h3,ag0.1 j oj d h1 (by simpa using h2) (by simp only[hcj];rfl) h3]
    ·rw[(hT i hil).2 d fun j oj h1 h2 h3=>?_,ag0.2 d fun j oj h1 h2 _ h3=>hx ⟨j,oj,h1,by simpa using h2,h3⟩];rcases hget j oj h2 with rfl| ⟨h5,_,h6⟩
     ·cases h3
     ·exact hx ⟨j,oj,h5,h6,h3⟩
 show ∀tp,WPix C l.toArray Q (Region.schedule (C.P.follows .mixedOrders) l.toArray tp) t h;intro tp;unfold Region.schedule;rw[hm];simp only[Bool.true_or,if_true];exact main _
variable {l:List Oper} {Q:Exit→Env→Heap→Prop} {k:Nat} {t0 tc:Env} {ops:Array Oper} {dst:Option Tmp} {ty:TypeId} {pos:String} {aft:Array Edge} {K:AVal→Heap→Prop}
@[congr] theorem AS(i:Nat)(m:List Bool)(P:Env→Heap→Prop){h h':Heap}(e:h=h'):stepE C l t0 i m P tc h=stepE C l t0 i m P tc h':=by rw[e]
@[congr] theorem Ei(tr:ET){h h':Heap}(e:h=h'):WPe C Q l k t0 tr tc h=WPe C Q l k t0 tr tc h':=by rw[e]
@[go_sem] theorem G4(i:Nat)(m:List Bool)(P:Env→Heap→Prop):stepE C l t0 i m P tc h=need (l[i]?) fun o=>wpOperV C l.toArray o tc h fun v h'=>(WPp C l.toArray (maskL m l) t0 h' fun t''=>agrL (wrM m l) t'' t0)∧P (put tc o.dst v) h':=(rfl)
attribute [go_sem] List.drop_succ_cons List.drop_zero
variable {t:Env} {e:TypeId} {T:TypeId}
@[go_sem] theorem Ej:wpOperV C ops ⟨dst,.alloc e,ty,pos,aft,none⟩ t h K=
  need (zroT C.P e) fun z=>0<z.cells.length∧z.cells.all AVal.sto=true∧z.lies=true∧K (.hp h.length 0 0 0) (h++[.row e z.cells.length 0 [z]]):=(rfl)
@[go_sem] theorem Ek(x y:Operand):wpOperV C ops ⟨dst,.store T x y,ty,pos,aft,none⟩ t h K=storeK C T (aev C.G t x) (aev C.G t y) h (fun h'=>K undefA h'):=(rfl)
@[go_sem] theorem IY(rest:List Oper)(K:Env→Prop):WPp C ops (nopO::rest) t h K=WPp C ops rest t h K:=vd (dst:=none) (.const (.bool false))
@[congr] theorem BN{l l':List Oper}{t t':Env}{h h':Heap}{K:Env→Prop}(e1:l=l')(e2:t=t')(e3:h=h'):WPp C ops l t h K=WPp C ops l' t' h' K:=by rw[e1,e2,e3]
@[go_sem] theorem El(T:TypeId)(x:Operand)(f:Nat)(rest:List Oper)(K:Env→Prop):WPp C ops (⟨dst,.field T x f,ty,pos,aft,none⟩::rest) t h K=
  need (fOff C.P T f) fun q=>need (match aev C.G t x with| .agg cs=>pickT C.P q.2.1 (cs.drop q.1)|_=>none) fun v=>WPp C ops rest (put t dst v) h K:=
 bk (E:=fun k=>need (fOff C.P T f) fun q=>need (match aev C.G t x with| .agg cs=>pickT C.P q.2.1 (cs.drop q.1)|_=>none) k) (Det.need _ fun q=>Det.need' _) fun KK=>by
  simp only[wpOp];congr;funext ⟨o,a,b⟩;simp only[];generalize aev C.G t x=v;cases v<;>rfl
@[go_sem] theorem G5(f:Operand)(args:Array Operand)(Ts:Array TypeId):wpOperV C ops ⟨dst,.call ⟨.value f,args,Ts⟩,ty,pos,aft,none⟩ t h K=callK C (aev C.G t f) (args.toList.map (aev C.G t)) h K:=by
 show wpCall C ⟨.value f,args,Ts⟩ t h K=_;rfl
@[go_sem] theorem Em(parts:Array (Nat×Operand)):wpOperV C ops ⟨dst,.build T parts,ty,pos,aft,none⟩ t h K=need (buildA C T (parts.toList.map fun q=>(q.1,aev C.G t q.2))) fun v=>K v h:=by
 show wpOp C (.build T parts) t h K=_;have:=lC (C:=C) (ops:= #[]) (Q:=fun _ t h=>K (t 0) h) (rest:=[]) (t:=t) (h:=h) (dst:=some 0) (ty:=0) (pos:= "") (aft:= #[]) T parts;simpa [WPl,wpOper,put,upd]using this
theorem ae(g:WPl C l.toArray Q (l.drop k) tc h):WPe C Q l k t0 .fin tc h:=g
theorem af{i:Nat}{m:List Bool}{s:ET}(g:stepE C l t0 i m (WPe C Q l k t0 s) tc h):WPe C Q l k t0 (.one i m s) tc h:=g
theorem ah{i j:Nat}{m m':List Bool}{s u:ET}(g:stepE C l t0 i m (WPe C Q l k t0 s) tc h)(g':stepE C l t0 j m' (WPe C Q l k t0 u) tc h):WPe C Q l k t0 (.two i m s j m' u) tc h:=⟨g,g'⟩
end
end Go.Av
namespace Go.Av
open Go Go.Proofs Go.RowKit
structure Ev where
 kind:Int
 a:Int
 b:Int
 n:Int
 s:Bs
 t:Bs
 u:Bs
def Ev.av(e:Ev):AVal:=.agg [.int .i64 e.kind,.int .i64 e.a,.int .i64 e.b,.int .i64 e.n,.str e.s,.str e.t,.str e.u]
structure Fo where
 id:Int
 inn:Int
 name:Bs
structure Fe where
 id:Int
 inn:Int
 url:Bs
 title:Bs
structure It where
 id:Int
 feed:Int
 date:Int
 guid:Bs
 title:Bs
 link:Bs
 read:Bool
 star:Bool
 tags:List Bs
structure Se where
 id:Int
 name:Bs
 query:Bs
def Fo.av(f:Fo):AVal:=.agg [.int .i64 f.id,.int .i64 f.inn,.str f.name]
def Fe.av(f:Fe):AVal:=.agg [.int .i64 f.id,.int .i64 f.inn,.str f.url,.str f.title]
def It.av(t:It):AVal:=.agg [.int .i64 t.id,.int .i64 t.feed,.int .i64 t.date,.str t.guid,.str t.title,.str t.link,.bool t.read,.bool t.star,.sl 1 (t.tags.map .str)]
def Se.av(q:Se):AVal:=.agg [.int .i64 q.id,.str q.name,.str q.query]
def Fo.z:Fo:=⟨0,0,[]⟩
def Fe.z:Fe:=⟨0,0,[],[]⟩
def It.z:It:=⟨0,0,0,[],[],[],false,false,[]⟩
def Se.z:Se:=⟨0,[],[]⟩
@[go_sem] theorem Ev.av_eq(e:Ev):e.av=.agg [.int .i64 e.kind,.int .i64 e.a,.int .i64 e.b,.int .i64 e.n,.str e.s,.str e.t,.str e.u]:=(rfl)
@[go_sem] theorem Fo.av_eq(f:Fo):f.av=.agg [.int .i64 f.id,.int .i64 f.inn,.str f.name]:=(rfl)
@[go_sem] theorem Fe.av_eq(f:Fe):f.av=.agg [.int .i64 f.id,.int .i64 f.inn,.str f.url,.str f.title]:=(rfl)
@[go_sem] theorem It.av_eq(t:It):t.av=.agg [.int .i64 t.id,.int .i64 t.feed,.int .i64 t.date,.str t.guid,.str t.title,.str t.link,.bool t.read,.bool t.star,.sl 1 (t.tags.map .str)]:=(rfl)
@[go_sem] theorem Se.av_eq(q:Se):q.av=.agg [.int .i64 q.id,.str q.name,.str q.query]:=(rfl)
@[go_sem] theorem JS(o:Option Fo):v1 (.agg [.int .i64 0,.int .i64 0,.str []]) Fo.av o=(o.getD Fo.z).av:=mK (d:=Fo.z) rfl o
@[go_sem] theorem JT(o:Option Fe):v1 (.agg [.int .i64 0,.int .i64 0,.str [],.str []]) Fe.av o=(o.getD Fe.z).av:=mK (d:=Fe.z) rfl o
@[go_sem] theorem JU(o:Option It):v1 (.agg [.int .i64 0,.int .i64 0,.int .i64 0,.str [],.str [],.str [],.bool false,.bool false,.sl 1 []]) It.av o=(o.getD It.z).av:=mK (d:=It.z) rfl o
@[go_sem] theorem JV(o:Option Se):v1 (.agg [.int .i64 0,.str [],.str []]) Se.av o=(o.getD Se.z).av:=mK (d:=Se.z) rfl o
@[go_sem] theorem JW(c:Nat)(l:ML Int Fo)(x i n:Int)(s:Bs):putM (encM iA Fo.av l) c (.int .i64 x) (.agg [.int .i64 i,.int .i64 n,.str s]) (ixM l x)=.mp (encM iA Fo.av (upM l c x ⟨i,n,s⟩)) (ckM l c x):=jg c l x ⟨i,n,s⟩ rfl
@[go_sem] theorem JX(c:Nat)(l:ML Int Fe)(x i n:Int)(s t:Bs):putM (encM iA Fe.av l) c (.int .i64 x) (.agg [.int .i64 i,.int .i64 n,.str s,.str t]) (ixM l x)=.mp (encM iA Fe.av (upM l c x ⟨i,n,s,t⟩)) (ckM l c x):=jg c l x ⟨i,n,s,t⟩ rfl
@[go_sem] theorem JY(c:Nat)(l:ML Int It)(x i f d:Int)(g t u:Bs)(r s:Bool)(ts:List Bs):putM (encM iA It.av l) c (.int .i64 x) (.agg [.int .i64 i,.int .i64 f,.int .i64 d,.str g,.str t,.str u,.bool r,.bool s,.sl 1 (ts.map .str)]) (ixM l x)=.mp (encM iA It.av (upM l c x ⟨i,f,d,g,t,u,r,s,ts⟩)) (ckM l c x):=jg c l x ⟨i,f,d,g,t,u,r,s,ts⟩ rfl
@[go_sem] theorem Jy(c:Nat)(l:ML Int It)(x i f d:Int)(g t u:Bs)(r s:Bool):putM (encM iA It.av l) c (.int .i64 x) (.agg [.int .i64 i,.int .i64 f,.int .i64 d,.str g,.str t,.str u,.bool r,.bool s,.sl 1 []]) (ixM l x)=.mp (encM iA It.av (upM l c x ⟨i,f,d,g,t,u,r,s,[]⟩)) (ckM l c x):=jg c l x ⟨i,f,d,g,t,u,r,s,[]⟩ rfl
@[go_sem] theorem JZ(c:Nat)(l:ML Int Se)(x i:Int)(s t:Bs):putM (encM iA Se.av l) c (.int .i64 x) (.agg [.int .i64 i,.str s,.str t]) (ixM l x)=.mp (encM iA Se.av (upM l c x ⟨i,s,t⟩)) (ckM l c x):=jg c l x ⟨i,s,t⟩ rfl
@[go_sem] theorem K6(n:Int):iA n=.int .i64 n:=(rfl)
structure PS where
 clock:Int
 fo:ML Int Fo
 fe:ML Int Fe
 it:ML Int It
 se:ML Int Se
 nm:ML (Int×Bs) Int
 pl:ML Bs Int
 gu:ML (Int×Bs) Int
 he:ML Int Int
 c1:Nat
 c2:Nat
 c3:Nat
 c4:Nat
 c5:Nat
 c6:Nat
 c7:Nat
 c8:Nat
 t1:Int
 t2:Int
 t3:Int
 t4:Int
def PS.row(n:Nat)(s:PS):AVal:=.agg [.int .i64 s.clock,.hm n,.hm (n+1),.hm (n+2),.hm (n+3),.hm (n+4),.hm (n+5),.hm (n+6),.hm (n+7),.int .i64 s.t1,.int .i64 s.t2,.int .i64 s.t3,.int .i64 s.t4]
def PS.bl(n:Nat)(s:PS):List Blk:=
 [.mp (encM iA Fo.av s.fo) s.c1,.mp (encM iA Fe.av s.fe) s.c2,.mp (encM iA It.av s.it) s.c3,.mp (encM iA Se.av s.se) s.c4,
 .mp (encM nA iA s.nm) s.c5,.mp (encM AVal.str iA s.pl) s.c6,.mp (encM nA iA s.gu) s.c7,.mp (encM iA iA s.he) s.c8,.row 97 13 0 [s.row n]]
def PS.z:PS:=⟨0,[],[],[],[],[],[],[],[],0,0,0,0,0,0,0,0,0,0,0,0⟩
def so(H:Heap)(n:Nat)(s:PS):Heap:=ov H n (s.bl n)
section
variable {H:Heap} {n:Nat} {s:PS}
@[go_sem] theorem sM(hn:n+9≤H.length):getRow (so H n s) (n+8) 0=some (97,13,[.agg [.int .i64 s.clock,.hm n,.hm (n+1),.hm (n+2),.hm (n+3),.hm (n+4),.hm (n+5),.hm (n+6),.hm (n+7),.int .i64 s.t1,.int .i64 s.t2,.int .i64 s.t3,.int .i64 s.t4]]):=by
 unfold so;rw[jT 0 hn (by decide+revert:8<9)];rfl
@[go_sem] theorem BO(hn:n+9≤H.length):mapAt (so H n s) n=some (encM iA Fo.av s.fo,s.c1):=by unfold so;rw[p9 hn (by simp[PS.bl])];rfl
@[go_sem] theorem BP(hn:n+9≤H.length):mapAt (so H n s) (n+1)=some (encM iA Fe.av s.fe,s.c2):=by unfold so;rw[dS hn (by simp[PS.bl])];rfl
@[go_sem] theorem qr(hn:n+9≤H.length):mapAt (so H n s) (n+2)=some (encM iA It.av s.it,s.c3):=by unfold so;rw[dS hn (by simp[PS.bl])];rfl
@[go_sem] theorem BQ(hn:n+9≤H.length):mapAt (so H n s) (n+3)=some (encM iA Se.av s.se,s.c4):=by unfold so;rw[dS hn (by simp[PS.bl])];rfl
@[go_sem] theorem K7(hn:n+9≤H.length):mapAt (so H n s) (n+4)=some (encM nA iA s.nm,s.c5):=by unfold so;rw[dS hn (by simp[PS.bl])];rfl
@[go_sem] theorem K8(hn:n+9≤H.length):mapAt (so H n s) (n+5)=some (encM AVal.str iA s.pl,s.c6):=by unfold so;rw[dS hn (by simp[PS.bl])];rfl
@[go_sem] theorem K9(hn:n+9≤H.length):mapAt (so H n s) (n+6)=some (encM nA iA s.gu,s.c7):=by unfold so;rw[dS hn (by simp[PS.bl])];rfl
@[go_sem] theorem Ka(hn:n+9≤H.length):mapAt (so H n s) (n+7)=some (encM iA iA s.he,s.c8):=by unfold so;rw[dS hn (by simp[PS.bl])];rfl
@[go_sem] theorem Kb(hn:n+9≤H.length)(l:ML Int Fo)(c:Nat):(so H n s).set n (.mp (encM iA Fo.av l) c)=so H n {s with fo:=l,c1:=c}:=by unfold so;rw[kZ _ hn (by simp[PS.bl])];rfl
@[go_sem] theorem Kc(hn:n+9≤H.length)(l:ML Int Fe)(c:Nat):(so H n s).set (n+1) (.mp (encM iA Fe.av l) c)=so H n {s with fe:=l,c2:=c}:=by unfold so;rw[bH _ hn (by simp[PS.bl])];rfl
@[go_sem] theorem Kd(hn:n+9≤H.length)(l:ML Int It)(c:Nat):(so H n s).set (n+2) (.mp (encM iA It.av l) c)=so H n {s with it:=l,c3:=c}:=by unfold so;rw[bH _ hn (by simp[PS.bl])];rfl
@[go_sem] theorem Ke(hn:n+9≤H.length)(l:ML Int Se)(c:Nat):(so H n s).set (n+3) (.mp (encM iA Se.av l) c)=so H n {s with se:=l,c4:=c}:=by unfold so;rw[bH _ hn (by simp[PS.bl])];rfl
@[go_sem] theorem Kf(hn:n+9≤H.length)(l:ML (Int×Bs) Int)(c:Nat):(so H n s).set (n+4) (.mp (encM nA iA l) c)=so H n {s with nm:=l,c5:=c}:=by unfold so;rw[bH _ hn (by simp[PS.bl])];rfl
@[go_sem] theorem Kg(hn:n+9≤H.length)(l:ML Bs Int)(c:Nat):(so H n s).set (n+5) (.mp (encM AVal.str iA l) c)=so H n {s with pl:=l,c6:=c}:=by unfold so;rw[bH _ hn (by simp[PS.bl])];rfl
@[go_sem] theorem Kh(hn:n+9≤H.length)(l:ML (Int×Bs) Int)(c:Nat):(so H n s).set (n+6) (.mp (encM nA iA l) c)=so H n {s with gu:=l,c7:=c}:=by unfold so;rw[bH _ hn (by simp[PS.bl])];rfl
@[go_sem] theorem Ki(hn:n+9≤H.length)(l:ML Int Int)(c:Nat):(so H n s).set (n+7) (.mp (encM iA iA l) c)=so H n {s with he:=l,c8:=c}:=by unfold so;rw[bH _ hn (by simp[PS.bl])];rfl
@[go_sem] theorem Kj(hn:n+9≤H.length)(k t1 t2 t3 t4:Int):(so H n s).set (n+8) (.row 97 13 0 [.agg [.int .i64 k,.hm n,.hm (n+1),.hm (n+2),.hm (n+3),.hm (n+4),.hm (n+5),.hm (n+6),.hm (n+7),.int .i64 t1,.int .i64 t2,.int .i64 t3,.int .i64 t4]])=so H n {s with clock:=k,t1:=t1,t2:=t2,t3:=t3,t4:=t4}:=by unfold so;rw[bH _ hn (by simp[PS.bl])];rfl
@[go_sem] theorem aQ(hn:n+9≤H.length)(j:Heap):so H n s++j=so (H++j) n s:=ig hn
@[go_sem] theorem aM(hn:n+9≤H.length):(so H n s).length=H.length:=bj hn
@[go_sem] theorem sN(hn:n+9≤H.length){p:Nat}(hp:n+9≤p):(so H n s)[p]? =H[p]? :=ic hn (.inr hp)
@[go_sem] theorem bM(hn:n+9≤H.length){p:Nat}(v:Nat)(hp:n+9≤p):getRow (so H n s) p v=getRow H p v:=fQ v hn (.inr hp)
@[go_sem] theorem pc(hn:n+9≤H.length){p:Nat}(b:Blk)(hp:n+9≤p):(so H n s).set p b=so (H.set p b) n s:=ie b hn (.inr hp)
@[go_sem] theorem zb(hn:n+9≤H.length):abin Tryz.prog (so H n s) .eql 31 (.hp (n+8) 0 0 0) (.nil (.pointer none))=some (.bool false):=by
 have hk:nilKind Tryz.prog 31 (.pointer none)=true:=by kernel_rfl
 simp[abin,hk,aeqNil,sM hn]
@[go_sem] theorem zc(hn:n+9≤H.length):abin Tryz.prog (so H n s) .neq 31 (.hp (n+8) 0 0 0) (.nil (.pointer none))=some (.bool true):=by
 have hk:nilKind Tryz.prog 31 (.pointer none)=true:=by kernel_rfl
 simp[abin,hk,aeqNil,sM hn]
end
@[go_sem] theorem IZ(e:TypeId)(p:Nat)(h:Heap)(k:Heap→Prop):boxK e (.hm p) h k=k (h++[.row e 1 0 [.hm p]]):=by simp[boxK,AVal.cells,AVal.lies,AVal.sto]
attribute [go_sem] List.length_append List.length_cons List.length_nil
theorem jk(N:Nat)(l:List Bs):Clo N (.sl 1 (l.map .str)):=Clo.sl _ _ fun x hx=>by obtain⟨y,_,rfl⟩:=N0.1 hx;exact .str _
theorem It.clo(N:Nat)(t:It):Clo N t.av:=.agg _ fun x hx=>by
 simp only[N2,P7,or_false]at hx;rcases hx with rfl|rfl|rfl|rfl|rfl|rfl|rfl|rfl|rfl<;>first|exact .int _ _|exact .str _|exact .bool _|exact jk _ _
theorem bR{κ α:Type}{ek:κ→AVal}{ev:α→AVal}{N c:Nat}(hk:∀x,Clo N (ek x))(hv:∀x,Clo N (ev x))(l:ML κ α):CloB N (.mp (encM ek ev l) c):=fun e he=>by
 obtain⟨d,_,rfl⟩:=N0.1 he;exact⟨hk _,hv _⟩
theorem bS{N:Nat}{cs:List AVal}(h:∀c∈cs,(∃k n,c=.int k n)∨(∃s,c=.str s)∨(∃p,p<N∧c=.hm p)):Clo N (.agg cs):=.agg _ fun x hx=>by
 rcases h x hx with⟨k,n,rfl⟩| ⟨s,rfl⟩| ⟨p,hp,rfl⟩
 ·exact .int _ _
 ·exact .str _
 ·exact .hm _ hp
theorem PS.clo{N n:Nat}(hn:n+9≤N)(s:PS):∀b∈s.bl n,CloB N b:=fun b hb=>by
 have hi:∀x:Int,Clo N (iA x):=fun x=>.int _ _
 have hna:∀x:Int×Bs,Clo N (nA x):=fun x=>bS fun c hc=>by simp at hc;rcases hc with rfl|rfl<;>simp
 simp only[PS.bl,N2,P7,or_false]at hb;rcases hb with rfl|rfl|rfl|rfl|rfl|rfl|rfl|rfl|rfl
 ·exact bR hi (fun x=>bS fun c hc=>by simp at hc;rcases hc with rfl|rfl|rfl<;>simp) _
 ·exact bR hi (fun x=>bS fun c hc=>by simp at hc;rcases hc with rfl|rfl|rfl|rfl<;>simp) _
 ·exact bR hi (fun x=>It.clo N x) _
 ·exact bR hi (fun x=>bS fun c hc=>by simp at hc;rcases hc with rfl|rfl|rfl<;>simp) _
 ·exact bR hna hi _
 ·exact bR (fun x=>.str _) hi _
 ·exact bR hna hi _
 ·exact bR hi hi _
 ·exact CloB.row fun r hr=>by
   simp at hr;subst hr;exact bS fun c hc=>by
    simp only[PS.row,N2,P7,or_false]at hc;rcases hc with rfl|rfl|rfl|rfl|rfl|rfl|rfl|rfl|rfl|rfl|rfl|rfl|rfl<;>simp<;>omega
theorem az{H j:Heap}{n:Nat}{s s':PS}{R:AVal→Heap→Prop}{r:AVal}(hn:n+9≤H.length)(hc:Clo H.length r)(hR:R r (so H n s')):Fin (so H n s) (so (H++j) n s') R r:=ii hn rfl (PS.clo hn s') hc hR
theorem cQ{H:Heap}{n:Nat}{s s':PS}{R:AVal→Heap→Prop}{r:AVal}(hn:n+9≤H.length)(hc:Clo H.length r)(hR:R r (so H n s')):Fin (so H n s) (so H n s') R r:=pb hn rfl (PS.clo hn s') hc hR
end Go.Av
namespace Go.Av
open Go Go.Proofs Go.RowKit Go.ChangeShapes Go.WideShapes
section
variable {H:Type} {enc:TypeId×Value→H} {W:World}
theorem sO:Kids Tryz.prog (· < Tryz.prog.types.size):=kids_rows (by kernel_rfl) (by kernel_rfl)
theorem sP:∀t e,t<Tryz.prog.types.size→Tryz.prog.underlying t=some (.slice e)→0<Tryz.prog.cellsOf e:=slices_full_of Tryz.prog (by kernel_rfl)
def fieldsOk(P:Program)(t:TypeId)(fs:List TypeId):Bool:=match P.underlying t with
 |some (.struct gs)=>decide (gs.toList.map (·.type)=fs)&&decide (P.cellsOf t=fs.length)&&(gs.toList.zipIdx.all fun(f,i)=>f.offset==i&&P.cellsOf f.type==1)
 |_=>false
theorem gP{P:Program}{t:TypeId}{fs:List TypeId}(h:fieldsOk P t fs=true):∃gs:Array Field,P.underlying t=some (.struct gs)∧gs.size=fs.length∧P.cellsOf t=gs.size∧
  (∀(j:Nat) (f:Field),gs[j]? =some f→f.offset=j∧P.cellsOf f.type=1)∧∀(j:Nat) (T:TypeId),fs[j]? =some T→∃f,gs[j]? =some f∧f.type=T:=by
 unfold fieldsOk at h;split at h
 ·rename_i gs hg;simp only[L7,M7,P8]at h;obtain⟨⟨h1,h2⟩,h3⟩:=h;have hl:gs.size=fs.length:=by rw[← h1];simp
  refine⟨gs,hg,hl,by omega,fun j f hj=>?_,fun j T hT=>?_⟩
  ·have hm:(f,j)∈gs.toList.zipIdx:=List.mem_zipIdx_iff_getElem?.2 (by simpa using hj);have:=h3 _ hm;simpa using this
  ·rw[← h1,N8]at hT;obtain⟨f,hf,rfl⟩:=N1.1 hT;exact⟨f,by simpa using hf,rfl⟩
 ·cases h
theorem il{P:Program}{n:Nat}{t:TypeId}{fs:List TypeId}(hf:fieldsOk P t fs=true){cs:List Value}{x:DataW H×List MemPlace}(h:DataW.trod enc P W 0 (fun _=>true) true n t cs=some x):
  ∃(ds:List (DataW H)) (n':Nat),n=n'+1∧x.1=.agg ds∧cs.length=fs.length∧ds.length=fs.length∧∀(j:Nat) (T:TypeId),fs[j]? =some T→∃y,ds[j]? =some y.1∧DataW.trod enc P W 0 (fun _=>true) true n' T [cs.getD j undef]=some y:=by
 obtain⟨gs,h1,h2,h3,h4,h5⟩:=gP hf;obtain⟨xs,n',k1,k2,k3,k4,k5⟩:=sK h1 h3 h4 h;refine⟨_,n',k1,k2,by omega,by simp;omega,fun j T hT=>?_⟩;obtain⟨f,hf1,rfl⟩:=h5 j T hT;obtain⟨y,hy,hy2⟩:=k5 j f hf1;exact⟨y,by simp[hy],hy2⟩
theorem bq{P:Program}{n:Nat}{T:TypeId}{α:Type}{mk:α→AVal}{sz:α→Nat}(hr:Rd H enc P W n T (fun a=>[mk a]) sz){v:Value}{y:DataW H×List MemPlace}(h:DataW.trod enc P W 0 (fun _=>true) true n T [v]=some y):
  ∃a:α,(mk a).sto=true∧Rep W (lies0 W) [] (mk a) v∧sz a≤Go.Proofs.YtllhfnepgcbjnaaGreat.Rows.uptoBulk y.1:=by
 obtain⟨a,_,h2,h3⟩:=hr _ _ h;have:=h2 0 (mk a) rfl;exact⟨a,this.1,by simpa using this.2,h3⟩
theorem BR(n:Nat):Rd H enc Tryz.prog W n 56 (fun e:Ev=>e.av.cells) (fun _=>0):=fun cs x h=>by
 obtain⟨ds,n',rfl,hx,hcl,hdl,hf⟩:=il (fs:=[3,3,3,3,9,9,9]) (by kernel_rfl) h;obtain⟨y0,d0,t0⟩:=hf 0 _ rfl;obtain⟨y1,d1,t1⟩:=hf 1 _ rfl;obtain⟨y2,d2,t2⟩:=hf 2 _ rfl;obtain⟨y3,d3,t3⟩:=hf 3 _ rfl;obtain⟨y4,d4,t4⟩:=hf 4 _ rfl;obtain⟨y5,d5,t5⟩:=hf 5 _ rfl;obtain⟨y6,d6,t6⟩:=hf 6 _ rfl;obtain⟨a0,s0,r0,_⟩:=bq (mk:=fun i: {i:Int//(Lit.int .i64 i).wf=true}=>.int .i64 i.1) (d8 (by kernel_rfl)) t0;obtain⟨a1,s1,r1,_⟩:=bq (mk:=fun i: {i:Int//(Lit.int .i64 i).wf=true}=>.int .i64 i.1) (d8 (by kernel_rfl)) t1;obtain⟨a2,s2,r2,_⟩:=bq (mk:=fun i: {i:Int//(Lit.int .i64 i).wf=true}=>.int .i64 i.1) (d8 (by kernel_rfl)) t2;obtain⟨a3,s3,r3,_⟩:=bq (mk:=fun i: {i:Int//(Lit.int .i64 i).wf=true}=>.int .i64 i.1) (d8 (by kernel_rfl)) t3;obtain⟨a4,s4,r4,_⟩:=bq (mk:=fun s:Bs=>.str s) (mN (by kernel_rfl)) t4;obtain⟨a5,s5,r5,_⟩:=bq (mk:=fun s:Bs=>.str s) (mN (by kernel_rfl)) t5;obtain⟨a6,s6,r6,_⟩:=bq (mk:=fun s:Bs=>.str s) (mN (by kernel_rfl)) t6;refine⟨⟨a0.1,a1.1,a2.1,a3.1,a4,a5,a6⟩,by rw[hcl];rfl,fun j c hj=>?_,Y4 _⟩
 match j with
 |0=>simp[Ev.av,AVal.cells]at hj;subst hj;exact⟨s0,r0⟩
 |1=>simp[Ev.av,AVal.cells]at hj;subst hj;exact⟨s1,r1⟩
 |2=>simp[Ev.av,AVal.cells]at hj;subst hj;exact⟨s2,r2⟩
 |3=>simp[Ev.av,AVal.cells]at hj;subst hj;exact⟨s3,r3⟩
 |4=>simp[Ev.av,AVal.cells]at hj;subst hj;exact⟨s4,r4⟩
 |5=>simp[Ev.av,AVal.cells]at hj;subst hj;exact⟨s5,r5⟩
 |6=>simp[Ev.av,AVal.cells]at hj;subst hj;exact⟨s6,r6⟩
 |j+7=>simp[Ev.av,AVal.cells]at hj
theorem o8{v:Value}{d:DataW H}{ps:List MemPlace}{r:Reach}{b0:Nat}(hval:Value.okWide Tryz.prog W r b0 22 v)(h:DataW.Trod enc Tryz.prog W 0 (fun _=>true) true 22 v d ps):∃es:List Ev,Rep W (lies0 W) [] (.sl 7 (es.map Ev.av)) v:=by
 obtain⟨n,hn⟩:=h;obtain⟨l,h1,h2,_⟩:=mO (m:=7) (e:=56) Ev.av (by kernel_rfl) (by kernel_rfl) (by decide) (fun _=>rfl) (fun _=>rfl) (fun k _=>BR k) _ _ hn;refine⟨l,?_⟩;have h4:=(h2 0 _ rfl).2;have hcs:v.cells.toList=[v]:=by
  have hu:Tryz.prog.underlying 22=some (.slice 56):=by kernel_rfl
  cases v with
  |agg a=>simp[Value.okWide,hu,Cell.okWide,Cell.ok]at hval
  |_=>rfl
 rw[hcs]at h4;simpa using h4
end
theorem vp:ownKnob Tryz.prog.godebug=none:=by kernel_rfl
end Go.Av
namespace Go.Av
open Go Go.Proofs Go.RowKit
structure Ky where
 d:Int
 i:Int
 f:Int
def Ky.av(k:Ky):AVal:=.agg [.int .i64 k.d,.int .i64 k.i,.int .i64 k.f]
@[go_sem] theorem Ky.av_eq(k:Ky):k.av=.agg [.int .i64 k.d,.int .i64 k.i,.int .i64 k.f]:=(rfl)
def It.ky(t:It):Ky:=⟨t.date,t.id,t.feed⟩
def ahd(a b:Ky):Bool:=decide (b.d<a.d)||(decide (a.d=b.d)&&decide (a.i<b.i))
theorem fS{a b:Ky}:ahd a b=true↔b.d<a.d∨(a.d=b.d∧a.i<b.i):=by simp[ahd]
theorem l5{a b:Ky}:ahd a b=false↔¬(b.d<a.d∨(a.d=b.d∧a.i<b.i)):=by rw[← fS];simp
theorem im{a b c:Ky}(h:ahd a b=true)(k:ahd b c=true):ahd a c=true:=by
 rw[fS]at *;omega
theorem pd(a:Ky):ahd a a=false:=by rw[l5];omega
theorem pf{a b:Ky}(h:a.i≠b.i)(k:ahd a b=false):ahd b a=true:=by
 rw[l5]at k;rw[fS];omega
theorem fU{a b:Ky}(h:ahd a b=true):ahd b a=false:=by
 rw[fS]at h;rw[l5];omega
def Sk(l:List Ky):Prop:=l.Pairwise fun a b=>ahd a b=true
def pst:List Ky→Ky→Nat
 | [],_=>0
 |x::l,k=>if ahd k x then 0 else pst l k+1
theorem io(l:List Ky)(k:Ky):pst l k≤l.length:=by
 induction l with
 |nil=>exact M2 _
 |cons x l ih=>unfold pst;split<;>simp<;>omega
theorem mU{l:List Ky}(hs:Sk l){k x:Ky}{j:Nat}(hj:l[j]? =some x):ahd k x=true↔pst l k≤j:=by
 induction l generalizing j with
 |nil=>simp at hj
 |cons y l ih=>
  obtain⟨h1,h2⟩:=U1.1 hs
  match j with
  |0=>
   simp at hj;subst hj;unfold pst;cases ha:ahd k y<;>simp
  |j+1=>
   simp at hj;unfold pst;cases ha:ahd k y with
   |true=>
    simp only[if_true,Y4,iff_true];exact im ha (h1 x (N4 hj))
   |false=>
    simp only[Q3,if_false];rw[ih h2 hj];omega
def insK(l:List Ky)(k:Ky):List Ky:=l.take (pst l k)++k::l.drop (pst l k)
theorem jl{l:List Ky}{k x:Ky}:x∈insK l k↔x=k∨x∈l:=by
 unfold insK;have e:x∈l↔x∈l.take (pst l k)∨x∈l.drop (pst l k):=by rw[← T4,X7]
 rw[T4,N2,e];constructor<;>rintro(h|h|h)<;>simp[h]
theorem jm(l:List Ky)(k:Ky):(insK l k).length=l.length+1:=by
 have:=io l k;simp[insK];omega
theorem mV{l:List Ky}(hs:Sk l){k:Ky}(hn:∀x∈l,x.i≠k.i):Sk (insK l k):=by
 unfold insK Sk;rw[List.pairwise_append];have hle:=io l k;have hlo:∀x∈l.take (pst l k),ahd x k=true:=fun x hx=>by
  obtain⟨j,hj⟩:=Q4 hx;have hlt:=(f9.1 hj).1;rw[N9]at hlt;rw[N5 (by omega)]at hj;have:ahd k x=false:=by
   rw[Bool.eq_false_iff];intro h;rw[mU hs hj]at h;omega
  exact pf (fun e=>hn x (N4 hj) e.symm) this
 have hhi:∀x∈l.drop (pst l k),ahd k x=true:=fun x hx=>by
  obtain⟨j,hj⟩:=Q4 hx;rw[P4]at hj;rw[mU hs hj];omega
 refine⟨hs.sublist (List.take_sublist _ _),U1.2 ⟨hhi,hs.sublist (List.drop_sublist _ _)⟩,fun a ha b hb=>?_⟩;rcases N2.1 hb with rfl|hb
 ·exact hlo a ha
 ·exact im (hlo a ha) (hhi b hb)
theorem Sk.nd{l:List Ky}(h:Sk l):l.Nodup:=h.imp fun hab e=>by rw[e,pd]at hab;cases hab
theorem Sk.uniq{l L:List Ky}(h:Sk l)(k:Sk L)(hm:∀x,x∈l↔x∈L):l=L:=
 List.Perm.eq_of_pairwise (fun a b _ _ h1 h2=>by rw[fU h1]at h2;cases h2) h k ((List.perm_ext_iff_of_nodup h.nd k.nd).2 hm)
def pos27:List Ky→Ky→Nat
 | [],_=>0
 |x::l,k=>if ahd x k then pos27 l k+1 else 0
theorem mW{l:List Ky}{k:Ky}(hn:∀x∈l,x.i≠k.i):pos27 l k=pst l k:=by
 induction l with
 |nil=>rfl
 |cons x l ih=>
  unfold pos27 pst;cases h:ahd x k with
  |true=>rw[fU h,ih fun y hy=>hn y (by simp[hy])];simp
  |false=>rw[pf (hn x (by simp)) h];simp
def srtK(l:List Ky):List Ky:=l.foldl insK []
theorem x5{l acc:List Ky}(hs:Sk acc)(hd:(l.map (·.i)).Nodup)(hx:∀x∈acc,∀y∈l,x.i≠y.i):Sk (l.foldl insK acc)∧∀x,x∈l.foldl insK acc↔x∈acc∨x∈l:=by
 induction l generalizing acc with
 |nil=>exact⟨hs,fun x=>by simp⟩
 |cons y l ih=>
  rw[N7,U8]at hd;have hy:∀x∈acc,x.i≠y.i:=fun x h=>hx x h y (by simp)
  obtain⟨h1,h2⟩:=ih (mV hs hy) hd.2 fun x hxm z hz=>by
   rcases jl.1 hxm with rfl|hxm
   ·exact fun e=>hd.1 (by rw[e];exact List.mem_map_of_mem hz)
   ·exact hx x hxm z (by simp[hz])
  refine⟨h1,fun x=>?_⟩;rw[za8,h2,jl,N2];constructor
  ·rintro((h|h)|h)<;>simp[h]
  ·rintro(h|h|h)<;>simp[h]
theorem jn{l:List Ky}(hd:(l.map (·.i)).Nodup):Sk (srtK l):=(x5 .nil hd (by simp)).1
theorem gy{l:List Ky}(hd:(l.map (·.i)).Nodup)(x:Ky):x∈srtK l↔x∈l:=by
 unfold srtK;have:=(x5 (acc:=[]) .nil hd (by simp)).2 x;simpa using this
theorem Sk.fil{l:List Ky}(h:Sk l)(p:Ky→Bool):Sk (l.filter p):=h.sublist List.filter_sublist
end Go.Av
namespace Go.Av
open Go Go.Proofs Go.RowKit
attribute [local irreducible] WP WPl WPix Sat
def cmpF(a b:Int):Int:=if a<b then-1 else if b<a then 1 else 0
def orI(a b:Int):Int:=if a=0 then b else a
variable (G:Nat→Option (List AVal))
theorem jU(a:Int)(h:Heap):Sat (CT G) 218 [.int .i64 a] h (fun r h'=>r=.bool false∧h'=h):=by
 have e:(a !=a)=false:=by simp
 have F:=e;refine sb [.tmp 2] Tryz.func218 ?_;intro Q hQ;refine wk F ?_;refine ee hQ F ?_;exact O5 (.bool _) ⟨by simp,rfl⟩
theorem j2(a b:Int)(h:Heap):Sat (CT G) 196 [.int .i64 a,.int .i64 b] h (fun r h'=>r=.int .i64 (cmpF a b)∧h'=h):=by
 unfold cmpF;refine sb [.tmp 4] Tryz.func196 ?_;intro Q hQ;refine wk trivial ?_;refine kq trivial (jU G a _) ?_;refine kq trivial (jU G b _) ?_;refine cq trivial (fun c1=>?_) (fun c1=>?_)<;>(try exact c1.elim)<;>(refine wk trivial ?_)
 ·refine ee hQ trivial ?_;exact O5 (.int _ _) ⟨by rw[M1 c1],rfl⟩
 ·refine cq trivial (fun c2=>?_) (fun c2=>?_)<;>(try exact c2.elim)<;>(refine wk trivial ?_)
  ·refine ee hQ trivial ?_;exact O5 (.int _ _) ⟨by rw[L5 (by omega),M1 (by omega)],rfl⟩
  ·refine ee hQ trivial ?_;exact O5 (.int _ _) ⟨by rw[L5 (by omega),L5 (by omega)],rfl⟩
theorem xj(a b:Int)(h:Heap):Sat (CT G) 195 [.sl 1 [.int .i64 a,.int .i64 b]] h (fun r h'=>r=.int .i64 (orI a b)∧h'=h):=by
 unfold orI;refine sb [.tmp 2] Tryz.func195 ?_;intro Q hQ;refine wk trivial ?_;refine lm (fun nL tL hL=>∃(k:Nat),2-k=nL∧h=hL∧tL 8=.int .i64 k∧k≤2∧(1≤k→a=0)∧(2≤k→b=0)) ((fun(k:Nat)=>(2-k:Nat)) (0)) ?_ ?_
 ·refine M0 ⟨0,rfl,aw,?_,by omega,fun h=>by omega,fun h=>by omega⟩;all_goals try exact zZz trivial
 rintro _ s2 h' ⟨k,rfl,rfl,e8,hk,h0,h1⟩ K2 hK2;simp only[ai,ak,Nat.reduceEqDiff, ↓reduceIte]at e8;have F:=e8;refine wk F ?_;refine cq F (fun c1=>?_) (fun c1=>?_)<;>(try exact c1.elim)<;>(refine wk F ?_)
 ·obtain⟨y,hy,hyv⟩:∃y:Int,([.int .i64 a,.int .i64 b]:List AVal)[k]? =some (.int .i64 y)∧((k=0∧y=a)∨(k=1∧y=b)):=by
   match k,c1 with
   |0,_=>exact⟨a,rfl,.inl ⟨rfl,rfl⟩⟩
   |1,_=>exact⟨b,rfl,.inr ⟨rfl,rfl⟩⟩
   |k+2,c1=>exfalso;omega
  have F:=F2 F hy;try refine sq F ?_
  refine wk F ?_;refine cq F (fun c2=>?_) (fun c2=>?_)<;>(try exact c2.elim)<;>(refine wk F ?_)
  ·refine ee hQ F ?_;refine O5 (.int _ _) ⟨?_,rfl⟩;rcases hyv with⟨rfl,rfl⟩| ⟨rfl,rfl⟩
   ·rw[L5 c2]
   ·rw[M1 (h0 (by omega))]
  ·have n0:1≤k+1→a=0:=fun h=>by
    rcases hyv with⟨rfl,rfl⟩| ⟨rfl,rfl⟩
    ·exact c2
    ·exact h0 (by omega)
   have n1:2≤k+1→b=0:=fun h=>by
    rcases hyv with⟨rfl,rfl⟩| ⟨rfl,rfl⟩
    ·omega
    ·exact c2
   refine hK2 _ _ _ (M0 ⟨k+1,rfl,aw,?_,by omega,n0,n1⟩) (by omega);all_goals try exact zZz F
 ·refine ee hQ F ?_;refine O5 (.int _ _) ⟨?_,rfl⟩;rw[M1 (h0 (by omega)),h1 (by omega)]
theorem sQ(a b:It)(h:Heap):Sat (CT G) 163 [a.av,b.av] h (fun r h'=>r=.int .i64 (orI (cmpF b.date a.date) (cmpF a.id b.id))∧h'=h):=by
 refine sb [.tmp 4] Tryz.func163 ?_;intro Q hQ;refine wk trivial ?_;refine au (j2 G b.date a.date _) ?_;try refine sq trivial ?_
 refine wk trivial ?_;refine au (j2 G a.id b.id _) ?_;try refine sq trivial ?_
 refine wk trivial ?_;refine au (xj G _ _ _) ?_;try refine sq trivial ?_
 refine wk trivial ?_;refine ee hQ trivial ?_;exact L6 (.int _ _) ⟨rfl,rfl⟩
theorem xk(a b:It):decide (orI (cmpF b.date a.date) (cmpF a.id b.id)<0)=ahd a.ky b.ky:=by
 rw[O9,fS,M7];unfold orI cmpF It.ky;simp only;split<;>rename_i h<;>repeat' split at h
 all_goals first|omega|skip
 all_goals split<;>first|omega| (split<;>omega)
theorem sR(a b:It)(h:Heap):Sat (CT G) 126 [a.av,b.av] h (fun r h'=>r=.bool (ahd a.ky b.ky)∧h'=h):=by
 refine sb [.tmp 4] Tryz.func126 ?_;intro Q hQ;refine wk trivial ?_;refine kq trivial (sQ G a b _) ?_;refine ee hQ trivial ?_;exact L6 (.bool _) ⟨by rw[← xk],rfl⟩
theorem mX(d i:Int):Wk (.agg [.int .i64 i,.int .i64 0,.int .i64 d,.str [],.str [],.str [],.bool false,.bool false,.nil (.slice none 0 0)]) (It.mk i 0 d [] [] [] false false []).av:=by
 refine Wk.agg rfl (fun y hy=>by simp only[N2,P7,or_false]at hy;rcases hy with rfl|rfl|rfl|rfl|rfl|rfl|rfl|rfl|rfl<;>rfl) fun j x y hx hy=>?_
 match j with
 |0|1|2|3|4|5|6|7=>simp at hx hy;subst hx;subst hy;exact zb5 _
 |8=>simp at hx hy;subst hx;subst hy;exact Wk.nils _
 |j+9=>simp at hx
theorem qt(d i e j:Int)(h:Heap):Sat (CT G) 126 [.agg [.int .i64 i,.int .i64 0,.int .i64 d,.str [],.str [],.str [],.bool false,.bool false,.nil (.slice none 0 0)],.agg [.int .i64 j,.int .i64 0,.int .i64 e,.str [],.str [],.str [],.bool false,.bool false,.nil (.slice none 0 0)]] h (fun r h'=>r=.bool (ahd ⟨d,i,0⟩ ⟨e,j,0⟩)∧h'=h):=by
 refine Sat.wk (ys:=[(It.mk i 0 d [] [] [] false false []).av,(It.mk j 0 e [] [] [] false false []).av]) rfl (fun k x y hx hy=>?_) (sR G (It.mk i 0 d [] [] [] false false []) (It.mk j 0 e [] [] [] false false []) h)
 match k with
 |0=>simp at hx hy;subst hx;subst hy;exact mX d i
 |1=>simp at hx hy;subst hx;subst hy;exact mX e j
 |k+2=>simp at hx
theorem sS(a b:Ky)(h:Heap):Sat (CT G) 85 [a.av,b.av] h (fun r h'=>r=.bool (ahd a b)∧h'=h):=by
 refine sb [.tmp 4] Tryz.func85 ?_;intro Q hQ;refine wk trivial ?_;refine kq trivial (qt G a.d a.i b.d b.i _) ?_;refine ee hQ trivial ?_;exact L6 (.bool _) ⟨rfl,rfl⟩
end Go.Av
namespace Go.Av
open Go Go.Proofs Go.RowKit
attribute [local irreducible] WP WPl WPix Sat
def vb(n v:Nat)(l:List Ky):List Blk:=[.row 65 1 0 [.agg [.hs (n+1) v 0 l.length true]],.row 78 3 v (l.map Ky.av)]
@[go_sem] theorem mY(n v:Nat)(l:List Ky):(vb n v l).length=2:=(rfl)
def vo(H:Heap)(n v:Nat)(l:List Ky):Heap:=ov H n (vb n v l)
section
variable {H:Heap} {n v:Nat} {l:List Ky}
@[go_sem] theorem zd(hn:n+2≤H.length):getRow (vo H n v l) n 0=some (65,1,[.agg [.hs (n+1) v 0 l.length true]]):=by
 unfold vo;have:=jT (k:=0) 0 hn (by simp[vb]:0<(vb n v l).length);rw[Y9]at this;rw[this];rfl
@[go_sem] theorem bX(hn:n+2≤H.length):getRow (vo H n v l) (n+1) v=some (78,3,l.map Ky.av):=by
 unfold vo;rw[jT (k:=1) v hn (by simp[vb])];simp[getRow,vb]
@[go_sem] theorem fV(hn:n+2≤H.length)(j:Heap):vo H n v l++j=vo (H++j) n v l:=ig hn
@[go_sem] theorem aW(hn:n+2≤H.length):(vo H n v l).length=H.length:=bj hn
@[go_sem] theorem eD(hn:n+2≤H.length){p:Nat}(u:Nat)(hp:n+2≤p):getRow (vo H n v l) p u=getRow H p u:=fQ u hn (.inr hp)
@[go_sem] theorem eE(hn:n+2≤H.length){p:Nat}(b:Blk)(hp:n+2≤p):(vo H n v l).set p b=vo (H.set p b) n v l:=ie b hn (.inr hp)
theorem pg(hn:n+2≤H.length)(u:Nat)(l':List Ky):((vo H n v l).set (n+1) (.row 78 3 u (l'.map Ky.av))).set n (.row 65 1 0 [.agg [.hs (n+1) u 0 l'.length true]])=vo H n u l':=by
 unfold vo;rw[bH _ hn (by simp[vb]),kZ _ hn (by simp[vb])];rfl
@[go_sem] theorem J0(hn:n+2≤H.length)(i:Nat)(a b c:Int):(vo H n v l).set (n+1) (.row 78 3 v ((l.map Ky.av).set i (.agg [.int .i64 a,.int .i64 b,.int .i64 c])))=vo H n v (l.set i ⟨a,b,c⟩):=by
 unfold vo;rw[bH _ hn (by simp[vb])];simp[vb,zc3,Ky.av]
@[go_sem] theorem ze(hn:n+2≤H.length):abin Tryz.prog (vo H n v l) .eql 33 (.hp n 0 0 0) (.nil (.pointer none))=some (.bool false):=by
 have hk:nilKind Tryz.prog 33 (.pointer none)=true:=by kernel_rfl
 simp[abin,hk,aeqNil,zd hn]
theorem Ky.clo(N:Nat)(k:Ky):Clo N k.av:=.agg _ fun x hx=>by
 simp only[N2,P7,or_false]at hx;rcases hx with rfl|rfl|rfl<;>exact .int _ _
theorem ip{N:Nat}(hn:n+2≤N):∀b∈vb n v l,CloB N b:=fun b hb=>by
 simp only[vb,N2,P7,or_false]at hb;rcases hb with rfl|rfl
 ·exact CloB.row fun r hr=>by simp at hr;subst hr;exact .agg _ fun x hx=>by simp at hx;subst hx;exact .hs _ _ _ _ _ (by omega)
 ·exact CloB.row fun r hr=>by obtain⟨k,_,rfl⟩:=N0.1 hr;exact Ky.clo N k
theorem bC{j:Heap}{v':Nat}{l':List Ky}{R:AVal→Heap→Prop}{r:AVal}(hn:n+2≤H.length)(hc:Clo H.length r)(hR:R r (vo H n v' l')):Fin (vo H n v l) (vo (H++j) n v' l') R r:=ii hn rfl (ip hn) hc hR
theorem xm{v':Nat}{l':List Ky}{R:AVal→Heap→Prop}{r:AVal}(hn:n+2≤H.length)(hc:Clo H.length r)(hR:R r (vo H n v' l')):Fin (vo H n v l) (vo H n v' l') R r:=pb hn rfl (ip hn) hc hR
end
variable (G:Nat→Option (List AVal))
theorem zf{a b:Nat}(h:a<b)(hb:b≤1048576):IntKind.i64.wrap ((a:Int)+IntKind.i64.wrap (((b:Int)-a).tdiv 2))=((a+(b-a)/2:Nat):Int):=by
 have h2:((b:Int)-a).tdiv 2=(((b-a)/2:Nat):Int):=by rw[Int.tdiv_eq_ediv_of_nonneg (by omega)];omega
 rw[h2,U2,U2];omega
theorem jo{l:List Ky}(hs:Sk l)(hl:l.length≤1048576)(k:Ky){H:Heap}{n v:Nat}(hn:n+2≤H.length):Sat (CT G) 52 [.hp n 0 0 0,k.av] (vo H n v l) (fun r h'=>r=.int .i64 (pst l k)∧h'=vo H n v l):=by
 have hle:=io l k;refine sb [.tmp 4] Tryz.func52 ?_;intro Q hQ;refine wk trivial ?_;refine lm (fun nL tL hL=>∃(lo hi:Nat),hi-lo=nL∧vo (H++[.row 78 3 0 [k.av]]) n v l=hL∧tL 5=.int .i64 lo∧tL 6=.int .i64 hi∧lo≤pst l k∧pst l k≤hi∧hi≤l.length) ((fun(lo hi:Nat)=>(hi-lo:Nat)) (0) (l.length)) ?_ ?_
 ·refine M0 ⟨0,l.length,rfl,aw,?_,?_,by omega,hle,by omega⟩;all_goals try exact zZz trivial
 rintro _ s2 h' ⟨lo,hi,rfl,rfl,e5,e6,h1,h2,h3⟩ K2 hK2;simp only[ai,ak,Nat.reduceEqDiff, ↓reduceIte]at e5 e6;have F:=F2 e5 e6;refine wk F ?_;refine cq F (fun c1=>?_) (fun c1=>?_)<;>(try exact c1.elim)<;>(refine wk F ?_)
 ·have hm:=zf (a:=lo) (b:=hi) (by omega) (by omega);have c2:lo+(hi-lo)/2<l.length:=by omega
  have c3:(lo:Int)<(hi:Int):=by omega
  obtain⟨x,hx,hxm⟩:=ac c2;have hp:=mU hs (k:=k) hx;have F:=F4 F hm hx c2;try refine sq F ?_
  refine wk F ?_;refine au (sS G k x _) ?_;try refine sq F ?_
  refine wk F ?_;refine cq F (fun c4=>?_) (fun c4=>?_)<;>(try exact c4.elim)<;>(refine wk F ?_)
  ·refine hK2 _ _ _ (M0 ⟨lo,lo+(hi-lo)/2,rfl,aw,?_,?_,h1,hp.1 c4,by omega⟩) (by omega);all_goals try exact zZz F
  ·have n1:lo+(hi-lo)/2+1≤pst l k:=Nat.lt_of_not_le fun h=>by rw[hp.2 h]at c4;cases c4
   refine hK2 _ _ _ (M0 ⟨lo+(hi-lo)/2+1,hi,rfl,aw,?_,?_,n1,h2,h3⟩) (by omega);all_goals try exact zZz F
 ·have e:lo=pst l k:=by omega
  subst e;refine ee hQ F ?_;exact bC hn (.int _ _) ⟨rfl,rfl⟩
end Go.Av
namespace Go.Av
open Go Go.RowKit
attribute [local irreducible] WP WPl WPix Sat
structure FrzR (h:Heap) (n:Nat) (r s:AVal):Prop where
 all:Frz h n r s
 len:r.cells.length=s.cells.length
 sto:∀d∈s.cells,d.sto=true
 cell:∀(j:Nat) (c d:AVal),r.cells[j]? =some c→s.cells[j]? =some d→Frz h n c d
theorem Frz.rows{h:Heap}{n q v e m:Nat}{rows es:List AVal}{len:Nat}{room:Bool}(hq:n≤q)(hg:getRow h q v=some (e,m,rows))(hlen:len=rows.length)(hl:es.length=rows.length)
  (hp:∀(i:Nat) (r s:AVal),rows[i]? =some r→es[i]? =some s→FrzR h n r s):Frz h n (.hs q v 0 len room) (.sl m es):=by
 subst hlen;have:=Frz.hs (h:=h) (n:=n) q v 0 rows.length room e m rows es hq hg (by omega) hl (fun i r s hr hs=>(hp i r s hr hs).all)
  (fun i r s hr hs=>⟨(hp i r s hr hs).len,fun j c d _ hd=>(hp i r s hr hs).sto d (N4 hd)⟩) (fun i r s j c d hr hs hc hd=>(hp i r s hr hs).cell j c d hc hd)
 rw[Y3, ← hl,W9]at this;rw[← hl];exact this
theorem FrzR.clo{h:Heap}{n:Nat}{r:AVal}(hc:Clo n r)(hs:∀d∈r.cells,d.sto=true):FrzR h n r r:=
 ⟨.clo _ hc,rfl,hs,fun j c d h1 h2=>by rw[h1]at h2;cases h2;exact .clo _ (hc.cells c (N4 h1))⟩
theorem FrzR.agg{h:Heap}{n:Nat}{cs ds:List AVal}(hl:cs.length=ds.length)(hs:∀d∈ds,d.sto=true)(hc:∀(i:Nat) (c d:AVal),cs[i]? =some c→ds[i]? =some d→Frz h n c d):FrzR h n (.agg cs) (.agg ds):=
 ⟨.agg _ _ hl hs hc,hl,hs,hc⟩
inductive FrzL (h:Heap) (n:Nat):List AVal→List AVal→Prop
 |nil:FrzL h n [] []
 |cons {c d:AVal} {cs ds:List AVal}:Frz h n c d→FrzL h n cs ds→FrzL h n (c::cs) (d::ds)
theorem FrzL.len{h:Heap}{n:Nat}{cs ds:List AVal}(z:FrzL h n cs ds):cs.length=ds.length:=by induction z with|nil=>rfl|cons _ _ ih=>simp[ih]
theorem FrzL.at_{h:Heap}{n:Nat}{cs ds:List AVal}(z:FrzL h n cs ds):∀(i:Nat) (c d:AVal),cs[i]? =some c→ds[i]? =some d→Frz h n c d:=by
 induction z with
 |nil=>intro i c d h1;simp at h1
 |cons z _ ih=>
  intro i c d h1 h2
  match i with
  |0=>simp at h1 h2;subst h1;subst h2;exact z
  |i+1=>exact ih i c d (by simpa using h1) (by simpa using h2)
theorem FrzL.agg{h:Heap}{n:Nat}{cs ds:List AVal}(z:FrzL h n cs ds)(hs:ds.all AVal.sto=true):Frz h n (.agg cs) (.agg ds):=.agg _ _ z.len (P8.1 hs) z.at_
theorem FrzL.tup{h:Heap}{n:Nat}{cs ds:List AVal}(z:FrzL h n cs ds):Frz h n (.tup cs) (.tup ds):=.tup _ _ z.len z.at_
theorem FrzL.row{h:Heap}{n:Nat}{cs ds:List AVal}(z:FrzL h n cs ds)(hs:ds.all AVal.sto=true):FrzR h n (.agg cs) (.agg ds):=.agg z.len (P8.1 hs) z.at_
inductive FrzRs (h:Heap) (n:Nat):List AVal→List AVal→Prop
 |nil:FrzRs h n [] []
 |cons {c d:AVal} {cs ds:List AVal}:FrzR h n c d→FrzRs h n cs ds→FrzRs h n (c::cs) (d::ds)
theorem FrzRs.len{h:Heap}{n:Nat}{cs ds:List AVal}(z:FrzRs h n cs ds):cs.length=ds.length:=by induction z with|nil=>rfl|cons _ _ ih=>simp[ih]
theorem FrzRs.at_{h:Heap}{n:Nat}{cs ds:List AVal}(z:FrzRs h n cs ds):∀(i:Nat) (c d:AVal),cs[i]? =some c→ds[i]? =some d→FrzR h n c d:=by
 induction z with
 |nil=>intro i c d h1;simp at h1
 |cons z _ ih=>
  intro i c d h1 h2
  match i with
  |0=>simp at h1 h2;subst h1;subst h2;exact z
  |i+1=>exact ih i c d (by simpa using h1) (by simpa using h2)
theorem FrzRs.hs{h:Heap}{n q v e m:Nat}{rows es:List AVal}{len:Nat}{room:Bool}(hg:getRow h q v=some (e,m,rows))(hlen:len=rows.length)(hq:n≤q)(z:FrzRs h n rows es):Frz h n (.hs q v 0 len room) (.sl m es):=
 Frz.rows hq hg hlen z.len.symm z.at_
theorem Frz.data{h:Heap}{n q v e m:Nat}{rows:List AVal}{len:Nat}{room:Bool}(hq:n≤q)(hg:getRow h q v=some (e,m,rows))(hlen:len=rows.length)(hc:∀r∈rows,Clo n r)(hs:∀r∈rows,∀c∈r.cells,c.sto=true):Frz h n (.hs q v 0 len room) (.sl m rows):=
 Frz.rows hq hg hlen rfl fun i r s hr hs'=>by rw[hr]at hs';cases hs';exact FrzR.clo (hc r (N4 hr)) (hs r (N4 hr))
end Go.Av
namespace Go.Av
open Go Go.Proofs Go.RowKit
attribute [local irreducible] WP WPl WPix Sat
def ixK(p:Ky→Bool)(l:List Ky):Int:=match l.findIdx? p with
 |some k=>(k:Int)
 |none=> -1
variable (G:Nat→Option (List AVal))
theorem gz(p:Ky→Bool)(g:FuncId)(cap:List AVal)(h:Heap)(hg:∀a:Ky,Sat (CT G) g ([]++[a.av]++cap) h (fun r h'=>r=.bool (p a)∧h'=h))(l:List Ky)(q v:Nat)(hrow:getRow h q v=some (78,3,l.map Ky.av))(hl:l.length≤1048576):
  Sat (CT G) 62 [.hs q v 0 l.length true,.fn (.func g) [] cap] h
   (fun r h'=>r=.int .i64 (ixK p l)∧h'=h):=by
 have F:= @hrow;refine sb [.tmp 4] Tryz.func62 ?_;intro Q hQ;refine wk F ?_;refine lm (fun nL tL hL=>∃(k:Nat),l.length-k=nL∧h=hL∧tL 8=.int .i64 k∧k≤l.length∧(∀a∈l.take k,p a=false)) ((fun(k:Nat)=>(l.length-k:Nat)) (0)) ?_ ?_
 ·refine M0 ⟨0,rfl,aw,?_,Y4 _,by simp⟩;all_goals try exact zZz F
 rintro _ s2 h' ⟨k,rfl,rfl,e8,hk,hp⟩ K2 hK2;simp only[ai,ak,Nat.reduceEqDiff, ↓reduceIte]at e8;have F:=F2 F e8;refine wk F ?_;refine cq F (fun c1=>?_) (fun c1=>?_)<;>(try exact c1.elim)<;>(refine wk F ?_)
 ·have c2:k<l.length:=by omega
  obtain⟨y,hy,hym⟩:=ac c2;have F:=F3 F hy c2;try refine sq F ?_
  refine wk F ?_;refine kq F (hg y) ?_;refine cq F (fun c3=>?_) (fun c3=>?_)<;>(try exact c3.elim)<;>(refine wk F ?_)
  ·refine ee hQ F ?_;have e:ixK p l=k:=by
    unfold ixK;have:l.findIdx? p=some k:=by
     rw[T5];refine⟨c2,?_,?_⟩
     ·rw[L9 c2]at hy;cases hy;exact c3
     ·intro i hi;rw[hp _ (by rw[List.mem_take_iff_getElem];exact⟨i,by omega,rfl⟩)];simp
    rw[this]
   exact O5 (.int _ _) ⟨by rw[e],rfl⟩
  ·have hp1:∀a∈l.take (k+1),p a=false:=by
    rw[O3,hy];intro a ha;simp at ha;rcases ha with ha|rfl
    ·exact hp a ha
    ·exact c3
   refine hK2 _ _ _ (M0 ⟨k+1,rfl,aw,?_,by omega,hp1⟩) (by omega);all_goals try exact zZz F
 ·refine ee hQ F ?_;have e:ixK p l= -1:=by
   unfold ixK;have:l.findIdx? p=none:=by
    rw[W8];intro a ha;exact hp a (by rwa [M4 (by omega)])
   rw[this]
  exact O5 (.int _ _) ⟨by rw[e],rfl⟩
section
variable {l:List Ky} {H:Heap} {n v:Nat}
theorem xn(k:Ky)(id:Int)(q:Nat)(h:Heap)(hq:getRow h q 0=some (3,1,[.int .i64 id])):Sat (CT G) 63 [k.av,.hp q 0 0 0] h (fun r h'=>r=.bool (decide (k.i=id))∧h'=h):=by
 have h2:getRow (h++[.row 78 3 0 [k.av]]) q 0=some (3,1,[.int .i64 id]):=by rw[aU _ (aT hq)];exact hq
 rw[Ky.av_eq]at h2;have F:=h2;refine sb [.tmp 3] Tryz.func63 ?_;intro Q hQ;refine wk F ?_;refine ee hQ F ?_;exact L6 (.bool _) ⟨by rw[show(k.i==id)=decide (k.i=id)from by rw[O9];simp],rfl⟩
theorem l6(hl:l.length≤1048576)(id:Int)(hn:n+2≤H.length):Sat (CT G) 29 [.hp n 0 0 0,.int .i64 id] (vo H n v l) (fun r h'=>r=.int .i64 (ixK (fun k=>decide (k.i=id)) l)∧h'=vo H n v l):=by
 refine sb [.tmp 4] Tryz.func29 ?_;intro Q hQ;refine wk trivial ?_;refine kq trivial (gz G (fun k=>decide (k.i=id)) _ [.hp H.length 0 0 0] _ (fun a=>xn G a id _ _ (by rw[eD (by simp;omega) 0 (by omega),aH _ rfl];rfl)) l (n+1) v (bX (by simp;omega)) hl) ?_;refine ee hQ trivial ?_;exact bC hn (.int _ _) ⟨rfl,rfl⟩
theorem sU(hl:l.length≤1048576)(id:Int)(hn:n+2≤H.length):Sat (CT G) 22 [.hp n 0 0 0,.int .i64 id] (vo H n v l) (fun r h'=>r=.int .i64 (ixK (fun k=>decide (k.i=id)) l+1)∧h'=vo H n v l):=by
 have hb: -1≤ixK (fun k=>decide (k.i=id)) l∧ixK (fun k=>decide (k.i=id)) l≤l.length:=by
  unfold ixK;split
  ·rename_i k hk;have:=T5.1 hk;obtain⟨h1,_⟩:=this;omega
  ·omega
 have hA:=l6 G (v:=v) hl id hn;generalize ixK (fun k=>decide (k.i=id)) l=i at*;have hw:IntKind.i64.wrap (i+1)=i+1:=by rw[U2];omega
 have F:=hw;refine sb [.tmp 4] Tryz.func22 ?_;intro Q hQ;refine wk F ?_;refine kq F (hA) ?_;refine ee hQ F ?_;exact xm hn (.int _ _) ⟨rfl,rfl⟩
theorem vr(hl:l.length≤1048576)(hn:n+2≤H.length):Sat (CT G) 21 [.hp n 0 0 0] (vo H n v l) (fun r h'=>r=.sl 1 ((l.map (·.i)).map iA)∧h'=vo H n v l):=by
 refine sb [.tmp 2] Tryz.func21 ?_;intro Q hQ;refine wk trivial ?_;refine lm (fun nL tL hL=>∃(k w:Nat) (acc:List Int) (j:Heap),l.length-k=nL∧vo (H++(.row 3 1 w (acc.map iA)::j)) n v l=hL∧tL 3=.hs H.length w 0 acc.length true∧tL 13=.int .i64 k∧k≤l.length∧acc.length=k∧acc++(l.drop k).map (·.i)=l.map (·.i)) ((fun(k w:Nat) (acc:List Int) (j:Heap)=>(l.length-k:Nat)) (0) (0) ([]) ([])) ?_ ?_
 ·refine⟨_,_,Z2 3 3 1 (by simp) (by omega) (by exact zq trivial),⟨0,0,[],[],rfl,by rw[fV hn];rfl,?_,?_,by omega,rfl,by simp⟩⟩;all_goals try exact zZz trivial
 rintro _ s2 h' ⟨k,w,acc,j,rfl,rfl,e3,e13,hk,hac,hp⟩ K2 hK2;simp only[ai,ak,Nat.reduceEqDiff, ↓reduceIte]at e3 e13;have F:=F2 e3 e13;refine wk F ?_;refine cq F (fun c1=>?_) (fun c1=>?_)<;>(try exact c1.elim)<;>(refine wk F ?_)
 ·have c2:k<l.length:=by omega
  obtain⟨y,hy,hym⟩:=ac c2;rw[aF hy,N7]at hp;have F:=F4 F hy c2 @ax;try refine sq F ?_
  refine wk F ?_;refine aq F ?_;try refine sq F ?_
  refine wk F ?_;refine hK2 _ _ _ (M0 ⟨k+1,w+1,acc++[y.i],j++[.row 78 3 0 [y.av]],rfl,by simp[iA,Ky.av],?_,?_,by omega,by simp;omega,by rw[← hp];simp⟩) (by omega);all_goals try exact zZz F
 ·rw[aG c1,R9,O2]at hp;refine ee hQ F ?_;rw[← hp];have hg:getRow (vo (H++(.row 3 1 w (acc.map iA)::j)) n v l) H.length w=some (3,1,acc.map iA):=by rw[eD (by simp;omega) w (by omega),aH _ rfl];simp[getRow]
  refine dq hn rfl (ip hn) (Frz.data (by omega) hg (by simp) (fun r hr=>?_) (fun r hr=>?_)) ⟨rfl,rfl⟩
  ·obtain⟨a,_,rfl⟩:=N0.1 hr;exact .int _ _
  ·obtain⟨a,_,rfl⟩:=N0.1 hr;intro c hc;simp[AVal.cells,iA]at hc;subst hc;rfl
end
end Go.Av
namespace Go.Av
open Go Go.Proofs Go.RowKit
attribute [local irreducible] WP WPl WPix Sat
variable (G:Nat→Option (List AVal))
section
variable {l:List Ky} {H:Heap} {n v:Nat}
theorem zg{p:Ky→Bool}(h:ixK p l= -1):l.filter (fun k=> !p k)=l:=by
 unfold ixK at h;split at h
 ·omega
 ·rename_i hn;rw[W8]at hn;exact R8.2 fun k hk=>by rw[hn k hk];rfl
theorem xp{p:Ky→Bool}(h:ixK p l≠ -1):∃i:Nat,ixK p l=(i:Int)∧i<l.length∧(l.take (i+1)).filter (fun k=> !p k)=l.take i:=by
 unfold ixK at h ⊢;split at h
 ·rename_i i hi;obtain⟨h1,h2,h3⟩:=T5.1 hi;refine⟨i,by simp,h1,?_⟩;rw[O3,L9 h1,U7];have e:(l.take i).filter (fun k=> !p k)=l.take i:=R8.2 fun k hk=>by
   obtain⟨j,hj⟩:=Q4 hk;have hlt:=(f9.1 hj).1;rw[N9]at hlt;rw[N5 (by omega)]at hj;have:=h3 j (by omega);have hjl:j<l.length:=(by omega);rw[L9 hjl]at hj;cases hj;simpa using this
  rw[e];simp[h2]
 ·exact absurd rfl h
theorem qu{P:Program}{h:Heap}{T e e' n p ver off len i:Nat}{rows:List AVal}{k:IntKind}(he:elmT P T=some e)(hn:szOf P e=some n)(hr:getRow h p ver=some (e',n,rows))(hi:i<len):aslice P h T (.hs p ver off len true) (some (.int k (i:Int))) none none=some (.hs p ver (off+i) (len-i) true):=by
 simp only[aslice,he,hr,hn,optInt,if_true];rw[M1 ⟨by omega,by omega,by omega,by omega⟩];simp
theorem qw{P:Program}{h:Heap}{T e e' n p ver off len i:Nat}{rows:List AVal}{k:IntKind}(he:elmT P T=some e)(hn:szOf P e=some n)(hr:getRow h p ver=some (e',n,rows))(hi:i≤len):aslice P h T (.hs p ver off len true) none (some (.int k (i:Int))) none=some (.hs p ver off i true):=by
 simp only[aslice,he,hr,hn,optInt,if_true];rw[M1 ⟨by omega,by omega,by omega,by simp⟩];simp
theorem vt(p:Ky→Bool)(g:FuncId)(cap:List AVal)(hn:n+2≤H.length)(hl:l.length≤1048576)
  (hg:∀(a:Ky) (j:Heap) (L:List Ky),Sat (CT G) g ([]++[a.av]++cap) (vo (H++j) n v L) (fun r h'=>r=.bool (p a)∧h'=vo (H++j) n v L)):
  Sat (CT G) 44 [.hs (n+1) v 0 l.length true,.fn (.func g) [] cap] (vo H n v l)
   (fun r h'=>r=.hs (n+1) v 0 (l.filter (fun k=> !p k)).length true∧h'=(vo H n v l).set (n+1) (.row 78 3 v ((l.filter (fun k=> !p k)).map Ky.av))):=by
 have hg0:=fun a=>hg a [] l
 simp only[O2]at hg0;have hset:(vo H n v l).set (n+1) (.row 78 3 v (l.map Ky.av))=vo H n v l:=by
  unfold vo;rw[bH _ hn (by simp[vb])];rfl
 by_cases hi:ixK p l= -1
 ·rw[zg hi,hset];have hI:=gz G p g cap _ hg0 l (n+1) v (bX hn) hl;rw[hi]at hI;refine sb [.tmp 4] Tryz.func44 ?_;intro Q hQ;refine wk trivial ?_;refine kq trivial (hI) ?_;refine ee hQ trivial ?_;exact O5 (.hs _ _ _ _ _ (by rw[aW hn];omega)) ⟨rfl,rfl⟩
 ·obtain⟨i0,hi0,hil,hf0⟩:=xp hi;have hI:=gz G p g cap _ hg0 l (n+1) v (bX hn) hl;rw[hi0]at hI;have hne:(((i0:Nat):Int)== -1)=false:=by rw[beq_eq_false_iff_ne];omega
  have F:=hne;refine sb [.tmp 4] Tryz.func44 ?_;intro Q hQ;refine wk F ?_;refine kq F (hI) ?_;refine lm (fun nL tL hL=>∃(i j:Nat) (L:List Ky) (J:Heap),l.length-j=nL∧vo (H++J) n v L=hL∧tL 5=.int .i64 i∧tL 6=.int .i64 j∧L.length=l.length∧i<j∧j≤l.length∧L.take i=(l.take j).filter (fun k=> !p k)∧L.drop j=l.drop j) ((fun(i j:Nat) (L:List Ky) (J:Heap)=>(l.length-j:Nat)) (i0) (i0+1) (l) ([])) ?_ ?_
  ·refine M0 ⟨i0,i0+1,l,[],rfl,by rw[O2],?_,?_,rfl,by omega,by omega,hf0.symm,rfl⟩;all_goals try exact zZz F
  rintro _ s2 h' ⟨i,j,L,J,rfl,rfl,e5,e6,hL,hij,hj,h1,h2⟩ K2 hK2;simp only[ai,ak,Nat.reduceEqDiff, ↓reduceIte]at e5 e6;have F:=F3 F e5 e6;refine wk F ?_;refine cq F (fun c1=>?_) (fun c1=>?_)<;>(try exact c1.elim)<;>(refine wk F ?_)
  ·have c2:j<L.length:=(by omega);obtain⟨y,hy,hym⟩:=ac c2;obtain⟨x,hx,_⟩:=ac (show i<L.length by omega);have hyl:l[j]? =some y:=by
    have:=P9 (·[0]?) h2;simp only[P4,Y9]at this;rw[← this];exact hy
   have hd:L.drop (j+1)=l.drop (j+1):=by
    have:=P9 (List.drop 1) h2
    rwa [W3,W3]at this
   have ht:(l.take (j+1)).filter (fun k=> !p k)=(l.take j).filter (fun k=> !p k)++[y].filter (fun k=> !p k):=(by rw[O3,hyl,U7];rfl);have c3:i<L.length:=(by omega);have c4:i<l.length:=(by omega);have c5:j<l.length:=(by omega);have F:=F6 F hy hx c4 c5 hL;(try refine sq F ?_);refine wk F ?_;refine kq F (hg y _ L) ?_;refine cq F (fun c6=>?_) (fun c6=>?_)<;>(try exact c6.elim)<;>(refine wk F ?_)
   ·have hpy:p y=false:=(by simpa using c6);have e1:(L.set i y).take (i+1)=(l.take (j+1)).filter (fun k=> !p k):=by
     rw[ht, ← h1,O3,List.take_set_of_le (M2 _),P6 c3];simp[hpy]
    have e2:(L.set i y).drop (j+1)=l.drop (j+1):=(by rw[List.drop_set_of_lt (by omega)];exact hd);refine hK2 _ _ _ (M0 ⟨i+1,j+1,L.set i y,J++[.row 78 3 0 [y.av]],rfl,by simp[Ky.av],?_,?_,by simp[hL],by omega,by omega,e1,e2⟩) (by omega);all_goals try exact zZz F
   ·have hpy:p y=true:=(by simpa using c6);have e1:L.take i=(l.take (j+1)).filter (fun k=> !p k):=(by rw[ht, ← h1];simp[hpy]);refine hK2 _ _ _ (M0 ⟨i,j+1,L,J++[.row 78 3 0 [y.av]],rfl,by simp[Ky.av],?_,?_,hL,by omega,by omega,e1,hd⟩) (by omega);all_goals try exact zZz F
  ·have ej:j=l.length:=(by omega);rw[ej,W9]at h1;have hil2:i<L.length:=(by omega);have hlf:(l.filter (fun k=> !p k)).length=i:=(by rw[← h1,N9];omega);have hk1:n+2≤(H++J).length:=(by simp;omega);have hlt:n+1<(vo (H++J) n v L).length:=(by rw[aW hk1];exact hk1);have s1:=qu (P:=Tryz.prog) (h:=vo (H++J) n v L) (T:=63) (off:=0) (len:=l.length) (i:=i) (k:=.i64) (e:=78) (by simp only[go_sem]) (by simp only[go_sem]) (bX hk1) (by omega);have s2':=qw (P:=Tryz.prog) (h:=(vo (H++J) n v L).set (n+1) (.row 78 3 v ((L.map Ky.av).take i))) (T:=63) (off:=0) (len:=l.length) (i:=i) (k:=.i64) (e:=78) (by simp only[go_sem]) (by simp only[go_sem]) ((bQ _ _ _ _ _ hlt).trans (M1 rfl)) (by omega);rw[Q9]at s1;have hli:0<l.length-i:=(by omega);have hLl:(L.map Ky.av).length=i+(l.length-i):=(by rw[L8];omega);have F:=F5 F s1 s2' hli hLl;(try refine sq F ?_);refine wk F ?_;refine ee hQ F ?_;have e4:(vo H n v l).set (n+1) (.row 78 3 v ((l.filter (fun k=> !p k)).map Ky.av))=ov H n [.row 65 1 0 [.agg [.hs (n+1) v 0 l.length true]],.row 78 3 v ((l.filter (fun k=> !p k)).map Ky.av)]:=by
    unfold vo;rw[bH _ hn (by simp[vb])];rfl
   have e3:(vo (H++J) n v L).set (n+1) (.row 78 3 v ((L.map Ky.av).take i))=ov (H++J) n [.row 65 1 0 [.agg [.hs (n+1) v 0 l.length true]],.row 78 3 v ((l.filter (fun k=> !p k)).map Ky.av)]:=by
    unfold vo;rw[bH _ hk1 (by simp[vb]), ← X3,h1, ← hL];rfl
   rw[e3,e4];refine ii hn rfl (fun b hb=>?_) (.hs _ _ _ _ _ (by omega)) ⟨by rw[hlf],rfl⟩;simp only[N2,P7,or_false]at hb;rcases hb with rfl|rfl
   ·exact CloB.row fun r hr=>by simp at hr;subst hr;exact .agg _ fun x hx=>by simp at hx;subst hx;exact .hs _ _ _ _ _ (by omega)
   ·exact CloB.row fun r hr=>by obtain⟨k,_,rfl⟩:=N0.1 hr;exact Ky.clo _ k
end
end Go.Av
theorem X4:type_of% @Go.Av.FrN.refl:=@Go.Av.FrN.refl
theorem Y0:type_of% @Go.Av.FrN.app:=@Go.Av.FrN.app
theorem Z0:type_of% @Go.Av.FrN.set:=@Go.Av.FrN.set
theorem Z9:type_of% @Go.Av.FrN.trans:=@Go.Av.FrN.trans
theorem za0:type_of% @Go.Av.Fin.whole:=@Go.Av.Fin.whole
theorem za1:type_of% @Go.Av.Frz.data:=@Go.Av.Frz.data
theorem zd0:type_of% @Go.Av.Ev.av_eq:=@Go.Av.Ev.av_eq
theorem zd2:type_of% @Go.Av.It.clo:=@Go.Av.It.clo
