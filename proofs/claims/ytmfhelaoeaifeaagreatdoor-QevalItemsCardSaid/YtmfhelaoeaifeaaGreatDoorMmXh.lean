/- Parts. -/
import Derived.Test.YtmfhelaoeaifeaaGreatDoorMmDr
import Derived.WalkKit
import Derived.ProofKit
import Derived.OpenShut
import Derived.Deep.DeepHandedRow
import Derived.Test.YtmfhelaoeaifeaaGreatDoorProg
import Derived.Lib.AppendZerosOnto
import Derived.Laws.CopyRow
import Derived.Lib.Overlaps
import Derived.Shelf.Spec.SlicesInsert
import Derived.Shelf.SlIterI.Nil
import Derived.Shelf.SlIter.Nil
import Derived.Shelf.SortM.Plain
import Derived.Shelf.SortM.SortNone
import Derived.Ground.GgzProg
import Derived.Ground.SlgmProg
import Derived.Ground.Names2Prog
import Derived.Shelf.Spec.SlicesInsertGrow
import Derived.Shelf.Spec.SearchS
set_option linter.unusedSimpArgs false
set_option linter.unusedVariables false
set_option linter.unusedSectionVars false
set_option linter.unnecessarySimpa false
set_option maxRecDepth 100000
set_option maxHeartbeats 16000000
namespace Go.Av
open Go.RowKit
section
variable {C:Ctx} {t:Env} {h:Heap}
def detGo(md:Region.Mode)(ops:Array Oper):Nat→Array Bool→Option (List Nat)
 |0,_=>some []
 |f+1,L=>match Region.ready md ops L with
  | [i]=>(detGo md ops f (L.setIfInBounds i true)).map (i:: ·)
  |_=>none
theorem mH{ops:Array Oper}{Q:Exit→Env→Heap→Prop}{md:Region.Mode}:∀(f:Nat) (L:Array Bool) (idx:List Nat) (sub:List Oper) (t:Env) (h:Heap),detGo md ops f L=some idx→idx.map (fun i=>ops[i]?)=sub.map some→
  WPl C ops Q sub t h→RestM C ops Q md f L t h:=by
 intro f;induction f with
 |zero=>
  intro L idx sub t h hd hs g n;simp only[detGo,N7]at hd;subst hd;have:sub=[]:=by simpa using hs.symm
  subst this;simp only[Region.linearise.go,List.reverse_nil,WPix];exact g
 |succ f ih=>
  intro L idx sub t h hd hs g n;simp only[detGo]at hd;split at hd
  ·rename_i i hr;obtain⟨idx',hd',rfl⟩:=N2.1 hd;cases sub with
   |nil=>simp at hs
   |cons o sub=>
    simp only[N9,zb3]at hs;have hi:(Region.ready md ops L)[n%(Region.ready md ops L).length]? =some i:=by
     rw[hr,R2,Nat.mod_one];rfl
    rw[cP md ops f n L hi];simp only[WPix,hs.1];simp only[WPl]at g;exact dE g fun t' h' g'=>ih _ idx' sub t' h' hd' hs.2 g' _
  ·cases hd
theorem mI{l:List Oper}{k n:Nat}(h:k+n≤l.length):(List.range' k n).map (fun i=>l.toArray[i]?)=((l.drop k).take n).map some:=by
 refine R8 fun i=>?_
 simp only[N8];by_cases hi:i<n
 ·rw[N4 hi,P9,List.getElem?_range' (by omega)];simp only[R4,U2];have:k+i<l.length:=by omega
  simp[L9 this]
 ·rw[Q4 (by simp;omega),Q4 (by simp;omega)];rfl
inductive OT where
 |nil
 |one (i:Nat) (s:OT)
 |two (i:Nat) (s:OT) (j:Nat) (u:OT)
def OT.ok(ops:Array Oper):Nat→Array Bool→OT→Bool
 |0,_,.nil=>true
 |f+1,L,.one i s=>Region.ready .any ops L==[i]&&OT.ok ops f (L.setIfInBounds i true) s
 |f+1,L,.two i s j u=>Region.ready .any ops L==[i,j]&&(OT.ok ops f (L.setIfInBounds i true) s&&OT.ok ops f (L.setIfInBounds j true) u)
 |_,_,_=>false
def WPt(C:Ctx)(ops:Array Oper)(Q:Exit→Env→Heap→Prop):OT→Env→Heap→Prop
 | .nil,t,h=>Q .normal t h
 | .one i s,t,h=>WPl C ops (fun _ t' h'=>WPt C ops Q s t' h') (ops[i]?).toList t h
 | .two i s j u,t,h=>WPl C ops (fun _ t' h'=>WPt C ops Q s t' h') (ops[i]?).toList t h∧WPl C ops (fun _ t' h'=>WPt C ops Q u t' h') (ops[j]?).toList t h
theorem OT.sound{ops:Array Oper}{Q:Exit→Env→Heap→Prop}:∀(f:Nat) (L:Array Bool) (tr:OT) (t:Env) (h:Heap),OT.ok ops f L tr=true→WPt C ops Q tr t h→RestM C ops Q .any f L t h:=by
 intro f;induction f with
 |zero=>
  intro L tr t h ho g n;cases tr with
  |nil=>simp only[Region.linearise.go,List.reverse_nil,WPix];exact g
  |_=>simp[OT.ok]at ho
 |succ f ih=>
  intro L tr t h ho g n;have step:∀(i:Nat) (s:OT),(Region.ready .any ops L)[n%(Region.ready .any ops L).length]? =some i→OT.ok ops f (L.setIfInBounds i true) s=true→WPl C ops (fun _ t' h'=>WPt C ops Q s t' h') (ops[i]?).toList t h→
    WPix C ops Q (Region.linearise.go .any ops (f+1) n L []) t h:=fun i s hi hs hg=>by
   rw[cP .any ops f n L hi];simp only[WPix];have hmem:=M7 hi;obtain⟨_,o,ho,_⟩:=mem_ready.1 hmem;simp only[ho,Option.toList]at hg ⊢;simp only[WPl]at hg;exact dE hg fun t' h' g'=>ih _ s t' h' hs g' _
  cases tr with
  |nil=>simp[OT.ok]at ho
  |one i s=>
   simp only[OT.ok,L6,beq_iff_eq]at ho;exact step i s (by rw[ho.1,R2,Nat.mod_one];rfl) ho.2 g
  |two i s j u=>
   simp only[OT.ok,L6,beq_iff_eq]at ho;have hn:n%2=0∨n%2=1:=(by omega);rcases hn with hn|hn
   ·exact step i s (by rw[ho.1];show [i,j][n%2]? =_;rw[hn];rfl) ho.2.1 g.1
   ·exact step j u (by rw[ho.1];show [i,j][n%2]? =_;rw[hn];rfl) ho.2.2 g.2
theorem ja{id:Nat}{l:List Oper}{Q:Exit→Env→Heap→Prop}(k:Nat)(tr:OT)(hok:(preOk l.toArray k&&decide (k≤l.length))=true)(hm:C.P.follows .mixedOrders=true)
  (hT:OT.ok l.toArray (l.length-k) (listK l.length k) tr=true)
  (hh:WPp C l.toArray (l.take k) t h fun t'=>WPt C l.toArray Q tr t' h):WP C (.region id l.toArray true) Q t h:=by
 simp only[L6,M1]at hok;have D:=en hok.1;obtain⟨V,hv,hK⟩:=bQ _ _ hh;have hlen:(l.take k).length=k:=by simp;omega
 rw[hlen]at hK;have rT:=OT.sound (ops:=l.toArray) (Q:=Q) _ _ tr _ h hT hK;have main:∀n,WPix C l.toArray Q (Region.linearise .any l.toArray n) t h:=fun n=>by
  unfold Region.linearise;refine da D .any D.less (by simp;omega) (V:=V) (t0:=t) (fun _=>True) (fun i o hi _=>hv i o hi) (by simpa using rT) _ _ _ _ (by simp) ?_ (fun j oj hj hl=>?_) (fun j hj hl=>?_) (fun _ _ _=>trivial) (Ag.start _ _ _ _ fun j hj=>?_)
  ·unfold left;have:(List.range l.toArray.size).filter (fun i=> !(Array.replicate l.toArray.size false).getD i true)=List.range l.toArray.size:=by
    rw[T8];intro i hi;have:=R9.1 hi;simp at this ⊢;simp[this]
   rw[this,Z8]
  ·have h8:=(O0.1 hj).1;simp at h8 hl;simp[h8]at hl
  ·simp at hj hl;simp[hj]at hl
  ·have:j<l.length:=by omega
   simp[this]
 show ∀tp,WPix C l.toArray Q (Region.schedule (C.P.follows .mixedOrders) l.toArray tp) t h;intro tp;unfold Region.schedule;rw[hm];simp only[Bool.true_or,if_true];exact main _
def agrL:List Nat→Env→Env→Prop
 | [],_,_=>True
 |d::ds,s,t=>s d=t d∧agrL ds s t
theorem jb:∀{ds:List Nat} {s t:Env},agrL ds s t→∀d∈ds,s d=t d
 | [],_,_,_,d,h=>by cases h
 |e::ds,s,t,g,d,h=>by
  rcases M6.1 h with rfl|h
  ·exact g.1
  ·exact jb g.2 d h
theorem kJ{d:Nat}:∀{l:List Oper} {i:Nat} {o:Oper},l[i]? =some o→o.dst=some d→d∈wrOps l
 | [],i,o,h,_=>by simp at h
 |a::l,0,o,h,hd=>by simp at h;subst h;unfold wrOps;rw[hd];simp
 |a::l,i+1,o,h,hd=>by
  have:=kJ (l:=l) (i:=i) (o:=o) (by simpa using h) hd;unfold wrOps;split<;>simp[this]
theorem bR{id:Nat}{l:List Oper}{Q:Exit→Env→Heap→Prop}(k u:Nat)(oe:Oper)(hoe:l[k]? =some oe)(hok:(preOk l.toArray (k+1)&&decide (u≤k))=true)(hm:C.P.follows .mixedOrders=true)
  (hu:((List.range k).all fun i=>decide (i<u)||((Region.before l.toArray).getD k 0).testBit i)=true)(hdst:((l.take u).all fun o=>o.dst.isSome)=true)
  (hA:detGo .any l.toArray (l.length-(k+1)) (listK l.length (k+1))=some (List.range' (k+1) (l.length-(k+1))))
  (hh:WPp C l.toArray (l.take k) t h fun t'=>wpOperV C l.toArray oe t' h fun v h'=>
   (WPp C l.toArray (l.take u) t h' fun t''=>agrL (wrOps (l.take u)) t'' t')∧WPl C l.toArray Q (l.drop (k+1)) (put t' oe.dst v) h'):WP C (.region id l.toArray true) Q t h:=by
 simp only[L6,M1]at hok;have D:=en hok.1;have hkl:=(f9.1 hoe).1;obtain⟨V,hv,hK⟩:=bQ _ _ hh;have hlen:(l.take k).length=k:=by simp;omega
 rw[hlen]at hK;have hTT:∀i,i≤k→Av.T V (l.take k) t i=Av.T V l t i:=fun i hi=>fL V V k (fun _ _=>rfl) _ _ _ _ hi (by rw[zb9];congr 1;omega) (by rw[hlen];exact hi) (by omega)
 rw[hTT k (M4 _)]at hK;have main:∀n,WPix C l.toArray Q (Region.linearise .any l.toArray n) t h:=fun n=>by
  unfold Region.linearise;refine jK D .any D.less (by simp;omega) (V:=V) (t0:=t) (oe:=oe) (by simpa using hoe) (fun i o hi ho=>?_) ?_ _ _ _ _ (by simp) ?_ (fun j oj hj hl=>?_) (fun j hj hl=>?_) (Ag.start _ _ _ _ fun j hj=>?_)
  ·have:=hv i o (by rw[T7,M0 hi];simpa using ho);rw[hTT i (by omega)]at this;exact this
  ·refine bM hK fun v h' ⟨h1,h2⟩=>⟨fun i o hi ho hc=>?_,?_⟩
   ·have hiu:i<u:=by
     have:=O9.1 hu i (R9.2 hi);rw[hc]at this;simpa using this
    obtain⟨V2,hv2,hK2⟩:=bQ _ _ h1;have hlu:(l.take u).length=u:=(by simp;omega);rw[hlu]at hK2;have hVV:∀j,j<u→V2 j=V j:=fun j hj=>by
     have hoj:l[j]? =some (l[j]'(by omega)):=L9 _;have hoj':(l.take u)[j]? =some (l[j]'(by omega)):=(by rw[T7,M0 hj];exact hoj);obtain⟨d,hdd⟩:=N5.1 (O9.1 hdst _ (M7 hoj'));have e:=jb hK2 d (kJ hoj' hdd);have a1:=D.ag_T V2 t (by simp;omega) u (by omega);have a2:=D.ag_T V t (by simp;omega) k (by omega);have hoa:l.toArray[j]? =some (l[j]'(by omega)):=(by simp);have b1:=a1.1 j _ d (by omega) hoa (by simpa using hj) hdd;have b2:=a2.1 j _ d (by omega) hoa (by simp;omega) hdd;have c1:Av.T V2 (l.toArray.toList.take (k+1)) t u=Av.T V2 (l.take u) t u:=fL V2 V2 u (fun _ _=>rfl) _ _ _ _ (M4 _) (by simp[zb9];try omega) (by simp;omega) (by omega);have c2:Av.T V (l.toArray.toList.take (k+1)) t k=Av.T V l t k:=fL V V k (fun _ _=>rfl) _ _ _ _ (M4 _) (by simp[zb9]) (by simp;omega) (by omega);rw[c1]at b1;rw[c2]at b2;rw[← b1, ← b2,e]
    have:=hv2 i o (by rw[T7,M0 hiu];simpa using ho);rw[hVV i hiu]at this;have c3:Av.T V2 (l.take u) t i=Av.T V l t i:=fL V V2 u hVV _ _ _ _ (by omega) (by rw[zb9];congr 1;omega) (by omega) (by omega);rw[c3]at this;exact this
   ·have:=mH (ops:=l.toArray) (Q:=Q) _ _ _ (l.drop (k+1)) _ h' hA (by rw[mI (by omega),N0 (by simp)]) h2;simpa using this
  ·unfold left;have:(List.range l.toArray.size).filter (fun i=> !(Array.replicate l.toArray.size false).getD i true)=List.range l.toArray.size:=by
    rw[T8];intro i hi;have:=R9.1 hi;simp at this ⊢;simp[this]
   rw[this,Z8]
  ·have h8:=(O0.1 hj).1;simp at h8 hl;simp[h8]at hl
  ·simp at hj hl;simp[hj]at hl
  ·have:j<l.length:=by omega
   simp[this]
 show ∀tp,WPix C l.toArray Q (Region.schedule (C.P.follows .mixedOrders) l.toArray tp) t h;intro tp;unfold Region.schedule;rw[hm];simp only[Bool.true_or,if_true];exact main _
attribute [go_sem] agrL
theorem dh{ops:Array Oper}{Q:Exit→Env→Heap→Prop}(g:Q .normal t h):WPt C ops Q .nil t h:=g
theorem di{ops:Array Oper}{Q:Exit→Env→Heap→Prop}{i:Nat}{s:OT}{o:Oper}(ho:ops[i]? =some o)(g:WPl C ops (fun _ t' h'=>WPt C ops Q s t' h') [o] t h):WPt C ops Q (.one i s) t h:=by
 simp only[WPt,ho];exact g
theorem dj{ops:Array Oper}{Q:Exit→Env→Heap→Prop}{i j:Nat}{s u:OT}{o p:Oper}(ho:ops[i]? =some o)(hp:ops[j]? =some p)(g:WPl C ops (fun _ t' h'=>WPt C ops Q s t' h') [o] t h)
  (g':WPl C ops (fun _ t' h'=>WPt C ops Q u t' h') [p] t h):WPt C ops Q (.two i s j u) t h:=by
 simp only[WPt,ho,hp];exact⟨g,g'⟩
end
section
variable {C:Ctx} {B n:Nat} {S:Addr→Prop} {μ:Map} {h:Heap} {w:World} {t:Env} {a:Act}
def LetP(S:Addr→Prop)(μ:Map)(w:World)(p:Nat):Addr→Prop:=fun a=>S a∨∃m,μ[p]? =some m∧m.blk=some a.block∧(w.cell? a).isSome=true
theorem Rep.letgo(f:Fits C B S μ h w){p v e m:Nat}{rows:List AVal}(hg:getRow h p v=some (e,m,rows)){μ':Map}(st:Step B S μ w (LetP S μ w p) μ' w)
  {off len:Nat}{room:Bool}{val:Value}(hlen:off+len≤rows.length)(r:Rep w S μ (.hs p v off len room) val):Rep w (LetP S μ w p) μ' (.sl m ((rows.drop off).take len)) val:=by
 obtain⟨mb,hm,hf⟩:=f.row hg;have hms:=hf.hsize;rcases r.hs_now hm hf.hver with⟨hb,rfl,rfl,rfl⟩| ⟨b,hb,hcap,rfl⟩
 ·simpa using Rep.sl0 (w:=w) (S:=LetP S μ w p) (μ:=μ') m none 0
 ·by_cases hl0:len=0
  ·subst hl0;simpa using Rep.sl0 (w:=w) (S:=LetP S μ w p) (μ:=μ') m _ _
  ·obtain⟨cur,hheap,hcs,hle,hmax,fl⟩:=hf.flat hb;have hes:((rows.drop off).take len).length=len:=(by simp;omega);have hget:∀(i:Nat) (s:AVal),((rows.drop off).take len)[i]? =some s→rows[off+i]? =some s:=by
    intro i s hi;have hlt:=(f9.1 hi).1;rw[hes]at hlt;rw[N4 hlt,P9]at hi;exact hi
   have e1:∀i j,(off+i)*m+j=off*m+(i*m+j):=fun i j=>by rw[T5];omega
   have key:=Rep.sl (w:=w) (S:=LetP S μ w p) (μ:=μ') m ((rows.drop off).take len) b (off*mb.size) (if room then mb.cap-off else len)
    (fun i j=>cur.getD (off*m+(i*m+j)) undef) (by intro e;rw[e]at hes;simp at hes;omega) (by rw[hes];split<;>omega) (by split<;>omega)
    (fun i s hi=>hf.lens _ _ (hget i s hi))
    (fun i s j d hi hj=>by
     have h1:=hget i s hi;obtain⟨u,hu,_⟩:=fl.rep _ _ _ _ h1 hj;have hu:=aS hu;rw[e1]at hu;have hu2:cur[off*m+(i*m+j)]? =some u:=(by simpa using hu);have hcell:w.cell? ⟨b,off*m+(i*m+j),none⟩=some u:=(by simp[World.cell?,hheap,hu2]);rw[hms];refine⟨.inr ⟨mb,hm,hb,by rw[hcell];rfl⟩,?_,hf.sto _ _ _ _ h1 hj⟩;rw[hcell];simp[Q8,hu2])
    (fun i s j d hi hj=>by
     have h1:=hget i s hi;obtain⟨u,hu,hrep⟩:=fl.rep _ _ _ _ h1 hj;have hu:=aS hu;rw[e1]at hu;have hu2:cur[off*m+(i*m+j)]? =some u:=(by simpa using hu);have:=hrep.mono st;simpa [Q8,hu2]using this)
   rw[hes]at key;exact key
theorem Fits.letgo(f:Fits C B S μ h w){p v e m:Nat}{rows:List AVal}(hg:getRow h p v=some (e,m,rows)):
  ∃μ',Step B S μ w (LetP S μ w p) μ' w∧Fits C B (LetP S μ w p) μ' (h.set p .dead) w:=by
 obtain⟨mb,hm,hf⟩:=f.row hg;have hlt:=(f9.1 hm).1;have st:Step B S μ w (LetP S μ w p) (μ.set p ⟨none,mb.ver+1,mb.size,mb.cap⟩) w:=⟨fun a ha=>.inl ha,fun _ _=>rfl,X6 _ _,bB hm (by simp) (fun e=>by simp at e),fun a ha=>by
  rcases ha with ha| ⟨m',hm',hb,_⟩
  ·exact .inl ha
  ·exact .inr (f.own p m' _ hm' hb).1⟩
 have at_:∀q k,(μ.set p ⟨none,mb.ver+1,mb.size,mb.cap⟩)[q]? =some k→(q=p∧k.blk=none)∨(q≠p∧μ[q]? =some k):=by
  intro q k hq;by_cases e:p=q
  ·subst e;rw[Q2 hlt]at hq;cases hq;exact .inl ⟨rfl,rfl⟩
  ·rw[T4 e]at hq;exact .inr ⟨fun e'=>e e'.symm,hq⟩
 refine⟨_,st,⟨fun g cs hg=>(f.glob g cs hg).mono st,by simp[f.len],?_,?_,f.base,?_,?_⟩⟩
 ·intro p1 q1 m1 m2 b h1 h2 e1 e2;rcases at_ p1 m1 h1 with⟨_,k1⟩| ⟨_,k1⟩
  ·rw[k1]at e1;cases e1
  ·rcases at_ q1 m2 h2 with⟨_,k2⟩| ⟨_,k2⟩
   ·rw[k2]at e2;cases e2
   ·exact f.sep p1 q1 m1 m2 b k1 k2 e1 e2
 ·intro p1 m1 b h1 e1;rcases at_ p1 m1 h1 with⟨_,k1⟩| ⟨r1,k1⟩
  ·rw[k1]at e1;cases e1
  ·obtain⟨a1,a2,a3⟩:=f.own p1 m1 b k1 e1;refine⟨a1,a2,fun a ha=>?_⟩;rcases ha with ha| ⟨m',hm',hb,_⟩
   ·exact a3 a ha
   ·intro e;exact r1 (f.sep p1 p m1 m' b k1 hm' e1 (by rw[hb,e]))
 ·intro a ha;rcases ha with ha| ⟨m',hm',hb,_⟩
  ·exact f.lie a ha
  ·exact(f.own p m' _ hm' hb).2.1
 ·intro p1 m1 k1 h1 h2;rcases at_ p1 m1 h1 with⟨rfl,_⟩| ⟨r1,h1⟩
  ·rw[Q2 (by rw[← f.len];exact hlt)]at h2;cases h2;trivial
  ·rw[T4 (fun e=>r1 e.symm)]at h2;exact(f.blk p1 m1 k1 h1 h2).mono st fun b _=>rfl
inductive Fz (h:Heap) (p v:Nat):AVal→AVal→Prop
 |same (x:AVal):Fz h p v x x
 |hs (off len:Nat) (room:Bool) (e m:Nat) (rows es:List AVal):getRow h p v=some (e,m,rows)→off+len≤rows.length→es=(rows.drop off).take len→Fz h p v (.hs p v off len room) (.sl m es)
 |agg (cs ds:List AVal):cs.length=ds.length→(∀d∈ds,d.sto=true)→(∀(i:Nat) (c d:AVal),cs[i]? =some c→ds[i]? =some d→Fz h p v c d)→Fz h p v (.agg cs) (.agg ds)
 |tup (cs ds:List AVal):cs.length=ds.length→(∀(i:Nat) (c d:AVal),cs[i]? =some c→ds[i]? =some d→Fz h p v c d)→Fz h p v (.tup cs) (.tup ds)
 |wk (x y z:AVal):Fz h p v x y→Wk y z→Fz h p v x z
theorem Fz.all(h:Heap)(p v:Nat){off len e m:Nat}{room:Bool}{rows:List AVal}(hg:getRow h p v=some (e,m,rows))(h0:off=0)(hl:len=rows.length):Fz h p v (.hs p v off len room) (.sl m rows):=
 .hs off len room e m rows rows hg (by omega) (by subst h0;subst hl;simp)
theorem Fz.rep(f:Fits C B S μ h w){p v:Nat}{μ':Map}(st:Step B S μ w (LetP S μ w p) μ' w){x y:AVal}{u:Value}(z:Fz h p v x y)(r:Rep w S μ x u):Rep w (LetP S μ w p) μ' y u:=by
 induction z generalizing u with
 |same x=>exact r.mono st
 |hs off len room e m rows es hg hl he=>subst he;exact r.letgo f hg st hl
 |agg cs ds hl hst _ ih=>
  obtain⟨vs,rfl,hvl,_,hr⟩:=r.agg_inv;refine .agg ds vs (by omega) (fun i d hd=>hst d (M7 hd)) (fun i d hd=>?_);have hlt:=(f9.1 hd).1;have hc:=L9 (show i<cs.length by omega);exact ih i _ d hc hd (hr i _ hc)
 |tup cs ds hl _ ih=>
  obtain⟨vs,rfl,hvl,hr⟩:=r.tup_inv;refine .tup ds vs (by omega) (fun i d hd=>?_);have hlt:=(f9.1 hd).1;have hc:=L9 (show i<cs.length by omega);exact ih i _ d hc hd (hr i _ hc)
 |wk x y z _ hw ih=>exact hw _ _ _ _ (ih r)
theorem Weak.fz{ms:List Nat}{t1:Env}(p v:Nat){e m:Nat}{rows:List AVal}(hg:getRow h p v=some (e,m,rows))(ht:∀i,t1 i=t i∨(i∈ms∧Fz h p v (t i) (t1 i))):Weak C ms t h t1 (h.set p .dead):=by
 refine⟨fun i hi=>(ht i).elim id fun⟨h1,_⟩=>absurd h1 hi,fun B k S μ w a f r=>?_⟩;obtain⟨μ',st,f1⟩:=f.letgo hg;refine⟨_,μ',st,f1,r.1,r.2.1,fun i hi=>?_⟩;rcases ht i with h1| ⟨_,h1⟩
 ·rw[h1];exact(r.2.2 i hi).mono st
 ·exact h1.rep f st (r.2.2 i hi)
end
end Go.Av
namespace Go.Av
open Go Go.RowKit
theorem bi{H:Heap}{p q:Nat}(b:Blk)(v:Nat)(hne:p≠q):getRow (H.set p b) q v=getRow H q v:=by
 unfold getRow;rw[T4 hne]
theorem ca{H:Heap}{p:Nat}(e n u v:Nat)(rows:List AVal)(hp:p<H.length):getRow (H.set p (.row e n u rows)) p v=if v=u then some (e,n,rows)else none:=by
 unfold getRow;rw[Q2 hp]
theorem bo{A l:Heap}{p:Nat}(v:Nat)(hp:p<A.length):getRow (A++l) p v=getRow A p v:=by
 unfold getRow;rw[M5 hp]
theorem bd{A l:Heap}{n k:Nat}(v:Nat)(hn:A.length=n):getRow (A++l) (n+k) v=getRow l k v:=by subst hn;exact jD A l k v
theorem aJ{A l:Heap}{n:Nat}(v:Nat)(hn:A.length=n):getRow (A++l) n v=getRow l 0 v:=by subst hn;exact nW A l v
theorem zk{A l:Heap}{p:Nat}(b:Blk)(hp:p<A.length):(A++l).set p b=A.set p b++l:=List.set_append_left p b hp
theorem gZ{A l:Heap}{n k:Nat}(b:Blk)(hn:A.length=n):(A++l).set (n+k) b=A++l.set k b:=by subst hn;exact oW A l k b
theorem cR{A l:Heap}{n:Nat}(b:Blk)(hn:A.length=n):(A++l).set n b=A++l.set 0 b:=by subst hn;exact uW A l b
theorem aw:(∀{H:Heap} {p q:Nat} (b:Blk) (v:Nat) (_:p≠q),getRow (H.set p b) q v=getRow H q v)∧
  (∀{H:Heap} {p:Nat} (e n u v:Nat) (rows:List AVal) (_:p<H.length),getRow (H.set p (.row e n u rows)) p v=if v=u then some (e,n,rows)else none)∧
  (∀{A l:Heap} {p:Nat} (v:Nat) (_:p<A.length),getRow (A++l) p v=getRow A p v)∧
  (∀{A l:Heap} {n k:Nat} (v:Nat) (_:A.length=n),getRow (A++l) (n+k) v=getRow l k v)∧
  (∀{A l:Heap} {n:Nat} (v:Nat) (_:A.length=n),getRow (A++l) n v=getRow l 0 v)∧
  (∀{A l:Heap} {p:Nat} (b:Blk) (_:p<A.length),(A++l).set p b=A.set p b++l)∧
  (∀{A l:Heap} {n k:Nat} (b:Blk) (_:A.length=n),(A++l).set (n+k) b=A++l.set k b)∧
  (∀{A l:Heap} {n:Nat} (b:Blk) (_:A.length=n),(A++l).set n b=A++l.set 0 b)∧
  (∀(H:Heap) (i:Nat) (b:Blk),(H.set i b).length=H.length)∧(∀(H:Heap) (i:Nat) (a b:Blk),(H.set i a).set i b=H.set i b):=
 ⟨bi,ca,bo,bd,aJ,zk,gZ,cR,fun _ _ _=>Y7 ..,fun _ _ _ _=>List.set_set ..⟩
theorem ba{H:Heap}{p v:Nat}{x:TypeId×Nat×List AVal}(h:getRow H p v=some x):p<H.length:=by
 obtain⟨e,n,r⟩:=x;exact(f9.1 (bX h)).1
attribute [go_sem] List.length_set
def KeepC(h0 h1:Heap)(N:Nat):Prop:=∀(p:Nat) (k:Blk),h1[p]? =some k→h0[p]? =some k∨CloB N k
theorem KeepC.refl(h:Heap)(N:Nat):KeepC h h N:=fun _ _ h=>.inl h
theorem KeepC.app{h0 h1:Heap}{N:Nat}(g:KeepC h0 h1 N){l:Heap}(hb:∀b∈l,CloB N b):KeepC h0 (h1++l) N:=by
 intro p k hk;rcases Z6 p h1.length with h2|h2
 ·rw[M5 h2]at hk;exact g p k hk
 ·rw[N1 h2]at hk;exact .inr (hb k (M7 hk))
def FrN(n0:Nat)(H H':Heap):Prop:=∀p,p<n0→H'[p]? =H[p]?
theorem FrN.refl(n0:Nat)(H:Heap):FrN n0 H H:=fun _ _=>rfl
theorem FrN.set{n0:Nat}{H H':Heap}{q:Nat}(b:Blk)(hq:n0≤q)(g:FrN n0 H H'):FrN n0 H (H'.set q b):=fun p hp=>by rw[T4 (by omega)];exact g p hp
theorem FrN.app{n0:Nat}{H H':Heap}(l:Heap)(hn:n0≤H'.length)(g:FrN n0 H H'):FrN n0 H (H'++l):=fun p hp=>by rw[M5 (by omega)];exact g p hp
theorem FrN.trans{n0:Nat}{H H' H'':Heap}(g:FrN n0 H H')(k:FrN n0 H' H''):FrN n0 H H'':=fun p hp=>(k p hp).trans (g p hp)
theorem FrN.less{n0 n1:Nat}{H H':Heap}(g:FrN n1 H H')(h:n0≤n1):FrN n0 H H':=fun p hp=>g p (by omega)
theorem Fin.whole{h0 h1:Heap}{R:AVal→Heap→Prop}{r:AVal}(hl:h0.length≤h1.length)(hc:Clo h1.length r)(hR:R r h1):Fin h0 h1 R r:=
 ⟨h1.length,r,hl,.clo _ hc,.inl (M4 _),by rw[X8];exact hR⟩
theorem Fin.upto{h0 h1 j:Heap}{R:AVal→Heap→Prop}{r:AVal}(hl:h0.length≤h1.length)(hk:KeepC h0 h1 h1.length)(hc:Clo h1.length r)(hR:R r h1):Fin h0 (h1++j) R r:=by
 refine⟨h1.length,r,hl,.clo _ hc,.inr fun p k hp h2=>?_,by rw[X2 rfl];exact hR⟩;rw[M5 hp]at h2;rcases hk p k h2 with h3|h3
 ·exact .inl ⟨(f9.1 h3).1,h3⟩
 ·exact .inr h3
theorem CloB.row{N e n v:Nat}{rows:List AVal}(h:∀r∈rows,Clo N r):CloB N (.row e n v rows):=h
section
variable {C:Ctx}
theorem mJ{T T' e n by' p ver len:Nat}{y:AVal}{rows ys:List AVal}{h:Heap}{k:AVal→Heap→Prop}(hT:T'=T∨strT C.P T'=true)(he:elmT C.P T=some e)(hn:szOf C.P e=some n)(hb:byT C.P e=some by')
  (hz:(zroT C.P e).map (fun z=>z.cells.length)=some n)(h0:0<n)(hy:elemsOf h n y=some ys)(hrow:getRow h p ver=some (e,n,rows))(hl:len≤rows.length)(hys:0<ys.length)
  (hr:len+ys.length≤maxLen∧(len+ys.length)*by'≤140737488355328)
  (hk:k (.hs h.length 0 0 (len+ys.length) true) (h++[.row e n 0 (rows.take len++ys)])):appK C T T' (.hs p ver 0 len false) y h k:=by
 refine⟨hT,?_⟩;simp only[wpAppend,he,hn,hb,hy,hrow,bc];exact⟨h0,hz,trivial,trivial,trivial,hr,by rw[L5 (by simp)];exact⟨hys,hl,hk⟩⟩
theorem qi{P:Program}{h:Heap}{T e p v len n m i:Nat}{rows:List AVal}{k:IntKind}(he:elmT P T=some e)(hg:getRow h p v=some (m,n,rows))(hn:szOf P e=some n)(hi:i<len):
  aslice P h T (.hs p v 0 len true) (some (.int k (i:Int))) none none=some (.hs p v i (len-i) true):=by
 simp only[aslice,he,hg,hn,if_true,optInt];rw[M0 ⟨by omega,by omega,by omega,by omega⟩];simp
theorem qj{P:Program}{h:Heap}{T e p v len n m i:Nat}{rows:List AVal}{k:IntKind}(he:elmT P T=some e)(hg:getRow h p v=some (m,n,rows))(hn:szOf P e=some n)(hi:i=len)(h0:0<i):
  aslice P h T (.hs p v 0 len true) (some (.int k (i:Int))) none none=some (.sl n []):=by
 simp only[aslice,he,hg,hn,if_true,optInt];rw[L5 (by omega),M0 ⟨by omega,by omega,by omega,rfl⟩]
theorem jL{P:Program}{h:Heap}{T e p v off len n m r:Nat}{room:Bool}{rows:List AVal}{k k':IntKind}(he:elmT P T=some e)(hg:getRow h p v=some (m,n,rows))(hn:szOf P e=some n)(hr:r≤len):
  aslice P h T (.hs p v off len room) none (some (.int k (r:Int))) (some (.int k' (r:Int)))=some (.hs p v off r false):=by
 simp only[aslice,he,hg,hn,if_true,optInt];rw[M0 ⟨Int.le_refl _,by omega,by omega,.inl trivial⟩];simp
end
def ov(H:Heap)(n:Nat)(bs:List Blk):Heap:=H.take n++bs++H.drop (n+bs.length)
theorem aT{H:Heap}{n:Nat}{bs:List Blk}(hn:n+bs.length≤H.length):(ov H n bs).length=H.length:=by
 simp only[ov,N3,O6,Q6];omega
theorem aV{H:Heap}{n:Nat}{bs:List Blk}(hn:n+bs.length≤H.length)(p:Nat):(ov H n bs)[p]? =if n≤p∧p<n+bs.length then bs[p-n]? else H[p]? :=by
 have h1:(H.take n).length=n:=by rw[O6];omega
 unfold ov;by_cases h:n≤p∧p<n+bs.length
 ·rw[M0 h,M5 (by rw[N3,h1];omega),N1 (by omega),h1]
 ·rw[L5 h];by_cases h2:p<n
  ·rw[M5 (by rw[N3,h1];omega),M5 (by omega),N4 h2]
  ·rw[N1 (by rw[N3,h1];omega),P9,N3,h1];congr 1;omega
theorem ql{H:Heap}{n k:Nat}{bs:List Blk}(hn:n+bs.length≤H.length)(hk:k<bs.length):(ov H n bs)[n+k]? =bs[k]? :=by
 rw[aV hn,M0 (by omega)];congr 1;omega
theorem zl{H:Heap}{n:Nat}{bs:List Blk}(hn:n+bs.length≤H.length)(hk:0<bs.length):(ov H n bs)[n]? =bs[0]? :=ql (k:=0) hn hk
theorem mK{H:Heap}{n p:Nat}{bs:List Blk}(hn:n+bs.length≤H.length)(hp:p<n∨n+bs.length≤p):(ov H n bs)[p]? =H[p]? :=by
 rw[aV hn,L5 (by omega)]
theorem cI{H:Heap}{n k:Nat}{bs:List Blk}(b:Blk)(hn:n+bs.length≤H.length)(hk:k<bs.length):(ov H n bs).set (n+k) b=ov H n (bs.set k b):=by
 apply R8
 intro p;have hl:(bs.set k b).length=bs.length:=Y7 ..;rw[Y6,aT hn,aV hn,aV (by rw[hl];exact hn),hl,Y6];by_cases h:n+k=p
 ·subst h;rw[M0 rfl,M0 (by omega),M0 (by omega),M0 (by omega),M0 (by omega)]
 ·rw[L5 h];split
  ·rw[L5 (by omega)]
  ·rfl
theorem kL{H:Heap}{n:Nat}{bs:List Blk}(b:Blk)(hn:n+bs.length≤H.length)(hk:0<bs.length):(ov H n bs).set n b=ov H n (bs.set 0 b):=cI (k:=0) b hn hk
theorem hJ{H:Heap}{n p:Nat}{bs:List Blk}(b:Blk)(hn:n+bs.length≤H.length)(hp:p<n∨n+bs.length≤p):(ov H n bs).set p b=ov (H.set p b) n bs:=by
 apply R8
 intro q;rw[Y6,aT hn,aV hn,aV (by rw[Y7];exact hn),Y6];by_cases h:p=q
 ·subst h;have:¬(n≤p∧p<n+bs.length):=by omega
  simp[this]
 ·rw[L5 h,L5 h]
theorem fM{H j:Heap}{n:Nat}{bs:List Blk}(hn:n+bs.length≤H.length):ov H n bs++j=ov (H++j) n bs:=by
 apply R8
 intro q;rw[aV (by rw[N3];omega)];rcases Z6 q H.length with h|h
 ·rw[M5 (by rw[aT hn];exact h),aV hn,M5 h]
 ·rw[N1 (by rw[aT hn];exact h),aT hn,L5 (by omega),N1 h]
theorem oY{H:Heap}{n m:Nat}{bs cs:List Blk}(hn:n+bs.length≤H.length)(hm:m+cs.length≤H.length)(hd:n+bs.length≤m∨m+cs.length≤n):ov (ov H m cs) n bs=ov (ov H n bs) m cs:=by
 apply R8
 intro q;rw[aV (by rw[aT hm];omega),aV hm,aV (by rw[aT hn];omega),aV hn];by_cases h1:n≤q∧q<n+bs.length
 ·rw[M0 h1,L5 (by omega),M0 h1]
 ·rw[L5 h1];by_cases h2:m≤q∧q<m+cs.length
  ·rw[M0 h2,M0 h2]
  ·rw[L5 h2,L5 h2,L5 h1]
theorem jM(H:Heap)(bs:List Blk)(j:Heap):H++(bs++j)=ov (H++(bs++j)) H.length bs:=by
 unfold ov;rw[X2 rfl,List.drop_append,T9 (by omega),P4,Z3,List.drop_left' rfl,O1]
theorem mL{H:Heap}{n k:Nat}{bs:List Blk}(v:Nat)(hn:n+bs.length≤H.length)(hk:k<bs.length):getRow (ov H n bs) (n+k) v=getRow bs k v:=by unfold getRow;rw[ql hn hk]
theorem ir{H:Heap}{n p:Nat}{bs:List Blk}(v:Nat)(hn:n+bs.length≤H.length)(hp:p<n∨n+bs.length≤p):getRow (ov H n bs) p v=getRow H p v:=by unfold getRow;rw[mK hn hp]
theorem dS{H:Heap}{n k:Nat}{bs:List Blk}(hn:n+bs.length≤H.length)(hk:k<bs.length):mapAt (ov H n bs) (n+k)=mapAt bs k:=by unfold mapAt;rw[ql hn hk]
theorem oZ{H:Heap}{n:Nat}{bs:List Blk}(hn:n+bs.length≤H.length)(hk:0<bs.length):mapAt (ov H n bs) n=mapAt bs 0:=dS (k:=0) hn hk
theorem FrN.behind{H H':Heap}(g:FrN H.length H H')(hl:H.length≤H'.length):∃j,H'=H++j:=by
 refine⟨H'.drop H.length,?_⟩
 apply R8
 intro p;by_cases h:p<H.length
 ·rw[M5 h,g p h]
 ·rw[N1 (by omega),P9];congr 1;omega
theorem mM{H j:Heap}{n:Nat}{bs cs:List Blk}{R:AVal→Heap→Prop}{r:AVal}(hn:n+bs.length≤H.length)(hl:cs.length=bs.length)(hb:∀b∈cs,CloB H.length b)(hc:Clo H.length r)(hR:R r (ov H n cs)):Fin (ov H n bs) (ov (H++j) n cs) R r:=by
 rw[← fM (by omega)];refine Fin.keep (by rw[aT hn,aT (by omega)]) (fun p k hk=>?_) (by rw[aT hn];exact hc) hR;rw[aV (by omega)]at hk;rw[aT hn,aV hn];by_cases h:n≤p∧p<n+cs.length
 ·rw[M0 h]at hk;exact .inr (hb k (M7 hk))
 ·rw[L5 h]at hk;left;rw[L5 (by omega)];exact hk
theorem xx{H:Heap}{n:Nat}{bs cs:List Blk}{R:AVal→Heap→Prop}{r:AVal}(hn:n+bs.length≤H.length)(hl:cs.length=bs.length)(hb:∀b∈cs,CloB H.length b)(hc:Clo H.length r)(hR:R r (ov H n cs)):Fin (ov H n bs) (ov H n cs) R r:=by
 have:=mM (j:=[]) hn hl hb hc hR
 rwa [O8]at this
theorem eB{H j:Heap}{n:Nat}{bs cs:List Blk}{R:AVal→Heap→Prop}{r0 r:AVal}(hn:n+bs.length≤H.length)(hl:cs.length=bs.length)(hb:∀b∈cs,CloB H.length b)(hc:Frz (ov (H++j) n cs) H.length r0 r)(hR:R r (ov H n cs)):Fin (ov H n bs) (ov (H++j) n cs) R r0:=by
 rw[← fM (by omega)]at hc ⊢;refine Fin.keepF (by rw[aT hn,aT (by omega)]) (fun p k hk=>?_) (by rw[aT hn];exact hc) hR;rw[aV (by omega)]at hk;rw[aT hn,aV hn];by_cases h:n≤p∧p<n+cs.length
 ·rw[M0 h]at hk;exact .inr (hb k (M7 hk))
 ·rw[L5 h]at hk;left;rw[L5 (by omega)];exact hk
end Go.Av
namespace Go.Av
open Go.RowKit
section
variable {C:Ctx} {t:Env} {h:Heap}
def nopO:Oper:= {dst:=none,op:=.move (.const (.bool false)),type:=0,pos:= "",after:= #[],guard:=none}
end
inductive ET where
 |fin
 |one (i:Nat) (m:List Bool) (s:ET)
 |two (i:Nat) (m:List Bool) (s:ET) (j:Nat) (m':List Bool) (u:ET)
def maskL:List Bool→List Oper→List Oper
 |true::m,o::l=>o::maskL m l
 |false::m,_::l=>nopO::maskL m l
 |_,_=>[]
@[go_sem] theorem aG(m:List Bool)(o:Oper)(l:List Oper):maskL (true::m) (o::l)=o::maskL m l:=(rfl)
@[go_sem] theorem aH(m:List Bool)(o:Oper)(l:List Oper):maskL (false::m) (o::l)=nopO::maskL m l:=(rfl)
@[go_sem] theorem aD(l:List Oper):maskL [] l=[]:=by cases l<;>rfl
theorem cS:∀(m:List Bool) (l:List Oper) (i:Nat),(maskL m l)[i]? =match m[i]?,l[i]? with|some true,some o=>some o|some false,some _=>some nopO|_,_=>none
 | [],l,i=>by rw[aD];simp
 |b::m,[],i=>by cases b<;>simp[maskL]
 |true::m,o::l,0=>by simp[maskL]
 |false::m,o::l,0=>by simp[maskL]
 |true::m,o::l,i+1=>by simp only[maskL,U5];exact cS m l i
 |false::m,o::l,i+1=>by simp only[maskL,U5];exact cS m l i
theorem hY:∀(m:List Bool) (l:List Oper),m.length≤l.length→(maskL m l).length=m.length
 | [],l,_=>by rw[aD];rfl
 |b::m,[],h=>by simp at h
 |true::m,o::l,h=>by simp only[maskL,M8];rw[hY m l (by simpa using h)]
 |false::m,o::l,h=>by simp only[maskL,M8];rw[hY m l (by simpa using h)]
def wrM:List Bool→List Oper→List Nat
 |true::m,o::l=>match o.dst with|some d=>d::wrM m l|none=>wrM m l
 |false::m,_::l=>wrM m l
 |_,_=>[]
@[go_sem] theorem JN(m:List Bool)(o:Oper)(l:List Oper):wrM (true::m) (o::l)=match o.dst with|some d=>d::wrM m l|none=>wrM m l:=(rfl)
@[go_sem] theorem JO(m:List Bool)(o:Oper)(l:List Oper):wrM (false::m) (o::l)=wrM m l:=(rfl)
@[go_sem] theorem BZ(l:List Oper):wrM [] l=[]:=by cases l<;>rfl
theorem mN:∀(m:List Bool) (l:List Oper),wrM m l=wrOps (maskL m l)
 | [],l=>by rw[BZ,aD];rfl
 |b::m,[]=>by cases b<;>rfl
 |true::m,o::l=>by
  show(match o.dst with|some d=>d::wrM m l|none=>wrM m l)=(match o.dst with|some d=>d::wrOps (maskL m l)|none=>wrOps (maskL m l))
  rw[mN m l]
 |false::m,o::l=>by simp only[wrM,maskL,wrOps,nopO];rw[mN m l]
def freeO(o:Oper):Bool:=match o.op with
 | .move _| .assign _| .pick _ _ _| .extract _ _| .field _ _ _| .build _ _| .unOp _ _ _=>true
 |_=>false
def okI(ops:Array Oper)(b:Array Nat)(k:Nat)(es:List Nat)(i:Nat)(m:List Bool)(X:List Nat):Bool:=
 es.contains i&& !X.contains i&&(es.all fun x=> !(b.getD i 0).testBit x||X.contains x)&&
 ((List.range k).all fun p=>es.contains p||m.getD p false||(decide (p<i)&&(b.getD i 0).testBit p)||(es.any fun x=>X.contains x&&decide (p<x)&&(b.getD x 0).testBit p)||(ops[p]?.any freeO))&&
 ((List.range m.length).all fun p=> !m.getD p false||(decide (p<k)&& !es.contains p))&&decide (m.length≤k)
def okO(b:Array Nat)(es X is:List Nat):Bool:=
 es.all fun x=>X.contains x||is.contains x||es.any fun y=> !X.contains y&&decide (y<x)&&(b.getD x 0).testBit y
def okE(ops:Array Oper)(b:Array Nat)(k:Nat)(es:List Nat):ET→List Nat→Bool
 | .fin,X=>es.all X.contains
 | .one i m s,X=>okI ops b k es i m X&&okO b es X [i]&&okE ops b k es s (i::X)
 | .two i m s j m' u,X=>okI ops b k es i m X&&okI ops b k es j m' X&&okO b es X [i,j]&&okE ops b k es s (i::X)&&okE ops b k es u (j::X)
def chkE(l:List Oper)(k:Nat)(es:List Nat)(m0:List Bool)(tr:ET):Bool:=
 let ops:=l.toArray
 let b:=Region.before ops
 preOkG false ops k&&decide (k≤l.length)&&
 ((List.range k).all fun i=>(List.range k).all fun j=>match ops[i]?,ops[j]? with
  |some oi,some oj=>match oj.dst with
   |some d=> !(oi.looksAt ops).contains d||(decide (j<i)&&(b.getD i 0).testBit j&&(es.contains i|| !es.contains j))
   |none=>true
  |_,_=>true)&&
 ((List.range k).all fun i=>es.contains i||(ops[i]?.any fun o=>o.dst.isSome))&&
 (es.all fun e=>decide (e<k))&&m0==(List.range k).map (fun i=> !es.contains i)&&okE ops b k es tr []
section
variable {C:Ctx} {t:Env} {h:Heap}
def stepE(C:Ctx)(l:List Oper)(t0:Env)(i:Nat)(m:List Bool)(P:Env→Heap→Prop)(tc:Env)(h:Heap):Prop:=
 need (l[i]?) fun o=>wpOperV C l.toArray o tc h fun v h'=>(WPp C l.toArray (maskL m l) t0 h' fun t''=>agrL (wrM m l) t'' t0)∧P (put tc o.dst v) h'
def WPe(C:Ctx)(Q:Exit→Env→Heap→Prop)(l:List Oper)(k:Nat)(t0:Env):ET→Env→Heap→Prop
 | .fin,tc,h=>WPl C l.toArray Q (l.drop k) tc h
 | .one i m s,tc,h=>stepE C l t0 i m (WPe C Q l k t0 s) tc h
 | .two i m s j m' u,tc,h=>stepE C l t0 i m (WPe C Q l k t0 s) tc h∧stepE C l t0 j m' (WPe C Q l k t0 u) tc h
theorem sV{ops:Array Oper}{o:Oper}{s:Env}(hf:freeO o=true){v:AVal}(g:∀KK:AVal→Heap→Prop,KK v h→wpOperV C ops o s h KK)(h':Heap):∀KK:AVal→Heap→Prop,KK v h'→wpOperV C ops o s h' KK:=by
 intro KK hk;have g:=g (fun v' _=>KK v' h') hk;have key:∀K:AVal→Heap→Prop,wpOp C o.op s h (fun v' _=>K v' h')=wpOp C o.op s h' K:=by
  intro K;unfold freeO at hf;cases ho:o.op<;>rw[ho]at hf<;>first| (cases hf;done)|rfl
 unfold wpOperV at g ⊢;cases hg:o.guard with
 |none=>rw[hg]at g;simp only at g ⊢;rw[← key];exact g
 |some q=>
  obtain⟨j,w⟩:=q;rw[hg]at g;simp only at g ⊢;cases hq:guardA ops s j with
  |none=>rw[hq]at g;exact g
  |some b=>rw[hq]at g;simp only at g ⊢;rw[← key];exact g
theorem mO{V:Nat→AVal}(l:List Oper)(t:Env)(hu:∀(i j:Nat) (oi oj:Oper) (d:Nat),l[i]? =some oi→l[j]? =some oj→oi.dst=some d→oj.dst=some d→i=j):
  ∀i,i≤l.length→(∀(j:Nat) (o:Oper) (d:Nat),j<i→l[j]? =some o→o.dst=some d→Av.T V l t i d=V j)∧(∀d,(∀(j:Nat) (o:Oper),j<i→l[j]? =some o→o.dst≠some d)→Av.T V l t i d=t d)
 |0,_=>⟨fun j o d hj=>by omega,fun d _=>by rw[gW]⟩
 |i+1,hi=>by
  obtain⟨h1,h2⟩:=mO l t hu i (by omega);have ho:l[i]? =some (l[i]'(by omega)):=L9 _;rw[eR V l t i _ ho];generalize l[i]=o at ho;refine⟨fun j oj d hj hoj hd=>?_,fun d hn=>?_⟩
  ·by_cases hji:j=i
   ·subst hji;rw[ho]at hoj;cases hoj;simp[put,hd,upd]
   ·have hne:o.dst≠some d:=fun e=>hji (hu j i oj o d hoj ho hd e)
    have:put (Av.T V l t i) o.dst (V i) d=Av.T V l t i d:=by
     cases hdo:o.dst with
     |none=>rfl
     |some x=>simp only[put,upd];rw[L5];intro e;subst e;exact hne hdo
    rw[this];exact h1 j oj d (by omega) hoj hd
  ·have hne:o.dst≠some d:=hn i o (by omega) ho;have:put (Av.T V l t i) o.dst (V i) d=Av.T V l t i d:=by
    cases hdo:o.dst with
    |none=>rfl
    |some x=>simp only[put,upd];rw[L5];intro e;subst e;exact hne hdo
   rw[this];exact h2 d fun j oj hj hoj=>hn j oj (by omega) hoj
theorem Ag.upd'{ops:Array Oper}{k:Nat}{V:Nat→AVal}{t s:Env}{p:Nat→Bool}(g:Ag ops k V t p s){i:Nat}(hp:p i=false)(v:AVal):Ag ops k (fun j=>if j=i then v else V j) t p s:=
 ⟨fun j o x hj ho hpj hd=>by
  have:j≠i:=fun e=>by subst e;rw[hp]at hpj;cases hpj
  simp only[L5 this];exact g.1 j o x hj ho hpj hd,g.2⟩
theorem Ag.congr'{ops:Array Oper}{k:Nat}{V:Nat→AVal}{t s:Env}{p p':Nat→Bool}(g:Ag ops k V t p s)(hp:∀j,j<k→p' j=p j):Ag ops k V t p' s:=
 ⟨fun j o x hj ho hpj hd=>g.1 j o x hj ho (by rw[← hp j hj];exact hpj) hd,fun x hn=>g.2 x fun j o hj ho hpj=>hn j o hj ho (by rw[hp j hj];exact hpj)⟩
theorem qm{l:List Oper}{Q:Exit→Env→Heap→Prop}{k:Nat}{es:List Nat}{t0 t:Env}(D:PreOk l.toArray k fun i j=>((Region.before l.toArray).getD j 0).testBit i)(hkn:k≤l.length)
  (c4:∀(i j:Nat) (oi oj:Oper) (d:Nat),i<k→j<k→l[i]? =some oi→l[j]? =some oj→oj.dst=some d→d∈oi.looksAt l.toArray→j<i∧((Region.before l.toArray).getD i 0).testBit j=true∧(es.contains i=true∨es.contains j=false))
  (c7:∀(i:Nat) (o:Oper),i<k→es.contains i=false→l[i]? =some o→o.dst.isSome=true)(hes:∀e,es.contains e=true→e<k)
  (hA:detGo .any l.toArray (l.length-k) (listK l.length k)=some (List.range' k (l.length-k))):
  ∀(fuel n:Nat) (L:Array Bool) (s:Env) (tr:ET) (V:Nat→AVal) (tc:Env) (h:Heap) (X:List Nat),L.size=l.length→left l.toArray L=fuel→Closed l.toArray L→(∀j,j<l.length→L.getD j false=true→j<k)→
   (∀j,es.contains j=true→(L.getD j false=X.contains j))→okE l.toArray (Region.before l.toArray) k es tr X=true→
   Ag l.toArray k V t (fun j=>L.getD j false) s→Ag l.toArray k V t (fun j=> !es.contains j) t0→Ag l.toArray k V t (fun j=> !es.contains j||X.contains j) tc→
   (∀(i:Nat) (o:Oper),i<k→es.contains i=false→L.getD i false=false→l[i]? =some o→∀KK:AVal→Heap→Prop,KK (V i) h→wpOperV C l.toArray o t0 h KK)→WPe C Q l k t0 tr tc h→
   WPix C l.toArray Q (Region.linearise.go .any l.toArray fuel n L []) s h:=by
 have hsee:∀{V:Nat→AVal} {s s':Env} {p p':Nat→Bool} {i:Nat} {o:Oper},Ag l.toArray k V t p s→Ag l.toArray k V t p' s'→i<k→l[i]? =some o→
   (∀j,j<i→((Region.before l.toArray).getD i 0).testBit j=true→(es.contains i=true∨es.contains j=false)→p j=true∧p' j=true)→∀d∈o.looksAt l.toArray,s d=s' d:=by
  intro V s s' p p' i o g g' hi ho hp d hd;by_cases hx:∃(j:Nat) (oj:Oper),j<k∧l[j]? =some oj∧oj.dst=some d
  ·obtain⟨j,oj,h1,h2,h3⟩:=hx;obtain⟨h4,h5,h6⟩:=c4 i j o oj d hi h1 ho h2 h3 hd;obtain⟨h7,h8⟩:=hp j h4 h5 h6;rw[g.1 j oj d h1 (by simpa using h2) h7 h3,g'.1 j oj d h1 (by simpa using h2) h8 h3]
  ·have hn:∀(j:Nat) (oj:Oper),j<k→l.toArray[j]? =some oj→oj.dst≠some d:=fun j oj h1 h2 h3=>hx ⟨j,oj,h1,by simpa using h2,h3⟩
   rw[g.2 d fun j oj h1 h2 _=>hn j oj h1 h2,g'.2 d fun j oj h1 h2 _=>hn j oj h1 h2]
 intro fuel;induction fuel with
 |zero=>
  intro n L s tr V tc h X hs hl cl hlt hX hok ag ag0 agc hv hw;have hall:=dR (by simpa using hs) hl;cases tr with
  |fin=>
   have hk:k=l.length:=by
    apply R7
    intro hne;have:=hlt k (by omega) (hall k (by simp;omega));omega
   subst hk;simp only[Region.linearise.go,List.reverse_nil,WPix];simp only[WPe,List.drop_length,WPl]at hw;have e:s=tc:=by
    refine Ag.eq (p:=fun _=>true) (ag.congr' fun j hj=>?_) (agc.congr' fun j hj=>?_)
    ·exact(hall j (by simpa using hj)).symm
    ·cases hc:es.contains j with
     |false=>rfl
     |true=>rw[← hX j hc,hall j (by simpa using hj)];rfl
   rw[e];exact hw
  |one i m u=>
   simp only[okE,okI,L6,P6]at hok;have h1:=hok.1.1.1.1.1.1.1;have h2:=hok.1.1.1.1.1.1.2;have:=hall i (by have:=hes i h1;simp;omega);rw[hX i h1,h2]at this;cases this
  |two i m u j m' u'=>
   simp only[okE,okI,L6,P6]at hok;have h1:=hok.1.1.1.1.1.1.1.1.1;have h2:=hok.1.1.1.1.1.1.1.1.2;have:=hall i (by have:=hes i h1;simp;omega);rw[hX i h1,h2]at this;cases this
 |succ fuel ih=>
  intro n L s tr V tc h X hs hl cl hlt hX hok ag ag0 agc hv hw;have bef:∀(i:Nat) (o:Oper),i<k→l[i]? =some o→(∀e∈o.after,Region.binds .any e=true→L.getD e.on false=true)→∀j,j<i→((Region.before l.toArray).getD i 0).testBit j=true→L.getD j false=true:=
   fun i o hi ho hrd j hj hc=>D.bef cl i o (by simpa using ho) hi j hj hc hrd
  by_cases hfin:tr=.fin
  ·subst hfin;simp only[okE,O9]at hok;have hXe:∀j,es.contains j=true→L.getD j false=true:=fun j hj=>by rw[hX j hj];exact hok j (by simpa using hj)
   have hTT:=D.ag_T V t (by simpa using hkn) k (M4 _);refine da D .any D.less (by simpa using hkn) (V:=V) (t0:=t) (fun j=>es.contains j=false∧L.getD j false=false) (fun i o ho hoi KK hkk=>?_) ?_ _ _ _ _ (by simpa using hs) hl cl (by simpa using hlt) (fun j hj hlj=>?_) ag
   ·have hik:i<k:=by
     refine Nat.lt_of_not_le fun hle=>?_
     rw[T7,L5 (by omega)]at ho;cases ho
    have hoi':l[i]? =some o:=(by rw[T7,M0 hik]at ho;simpa using ho);have:=hv i o hik hoi.1 hoi.2 hoi' KK hkk;rw[← bm (hsee ag0 (D.ag_T V t (by simpa using hkn) i (by omega)) hik hoi' fun j hj hb he=>?_)]
    ·exact this
    ·rcases he with he|he
     ·rw[hoi.1]at he;cases he
     ·exact⟨by simp only[he];rfl,by simpa using hj⟩
   ·have:=mH (ops:=l.toArray) (Q:=Q) (md:=.any) _ _ _ (l.drop k) tc h hA (by rw[mI (by omega),N0 (by simp)]) hw;have e:Av.T V (l.toArray.toList.take k) t k=tc:=by
     refine Ag.eq (p:=fun _=>true) (hTT.congr' fun j hj=>?_) (agc.congr' fun j hj=>?_)
     ·simpa using hj
     ·cases hc:es.contains j with
      |false=>rfl
      |true=>have:=hok j (by simpa using hc);simp only[this];rfl
    rw[e];simpa using this
   ·refine⟨?_,hlj⟩;cases hc:es.contains j with
    |false=>rfl
    |true=>rw[hXe j hc]at hlj;cases hlj
  ·
   obtain⟨e0,he0,hX0⟩:∃e0,es.contains e0=true∧X.contains e0=false:=by
    cases tr with
    |fin=>exact absurd rfl hfin
    |one i m u=>
     simp only[okE,okI,L6,P6]at hok;exact⟨i,hok.1.1.1.1.1.1.1,hok.1.1.1.1.1.1.2⟩
    |two i m u j m' u'=>
     simp only[okE,okI,L6,P6]at hok;exact⟨i,hok.1.1.1.1.1.1.1.1.1,hok.1.1.1.1.1.1.1.1.2⟩
   have hek:=hes e0 he0;have heun:L.getD e0 false=false:=(by rw[hX e0 he0];exact hX0);have hne:Region.ready .any l.toArray L≠ []:=by
    have hmin:∃i,i<k∧L.getD i false=false∧∀j,j<i→L.getD j false=true:=by
     obtain⟨i,hi,hl⟩:∃i,i<k∧L.getD i false=false:=⟨e0,hek,heun⟩;induction i using Nat.strongRecOn with
     |ind i ih=>
      by_cases hall:∀j,j<i→L.getD j false=true
      ·exact⟨i,hi,hl,hall⟩
      ·have:∃j,j<i∧L.getD j false=false:=R7 fun hno=>hall fun j hj=>by
        cases hlj:L.getD j false with
        |true=>rfl
        |false=>exact absurd ⟨j,hj,hlj⟩ hno
       obtain⟨j,hj,hlj⟩:=this;exact ih j hj (by omega) hlj
    obtain⟨i,hi,hl,hall⟩:=hmin;have hin:i<l.toArray.size:=(by simp;omega);have h3:i<L.size:=(by omega);intro e;have:i∈Region.ready .any l.toArray L:=mem_ready.2 ⟨by simp[h3]at hl ⊢;exact hl,l.toArray[i],O2 hin,fun e he hb=>hall _ (D.less i _ (O2 hin) hi e he hb)⟩;rw[e]at this;cases this
   obtain⟨i,hi,hmem⟩:=bL hne n;obtain⟨hun,o,ho,hrd⟩:=mem_ready.1 hmem;have hin:=(O0.1 ho).1;have hin':i<l.length:=(by simpa using hin);have h3:i<L.size:=(by omega);have ho':l[i]? =some o:=(by simpa using ho);have hun':L.getD i false=false:=(by simp[h3]at hun ⊢;exact hun);have hik:i<k:=by
    refine Nat.lt_of_not_le fun hle=>?_
    obtain⟨e1,he1,hb,h1⟩:=D.sfx e0 i o ho hek hle;have h2:=hrd e1 he1 hb;have hkl:L.getD e0 false=true:=by
     rcases h1 with rfl| ⟨h4,h5,h6⟩
     ·exact h2
     ·have hoe:l.toArray[e1.on]? =some (l.toArray[e1.on]'(by simp;omega)):=O2 (by simp;omega);exact D.bef cl e1.on _ hoe h4 e0 h5 h6 fun e' he' hb'=>cl e1.on _ hoe h2 e' he' hb'
    rw[heun]at hkl;cases hkl
   rw[cP .any l.toArray fuel n L hi];simp only[WPix,ho];rw[de];have hb:=bef i o hik ho' hrd;have agn:∀{V:Nat→AVal},Ag l.toArray k V t (fun j=>L.getD j false) s→Ag l.toArray k V t (fun j=>(L.setIfInBounds i true).getD j false) (put s o.dst (V i)):=fun ag=>by
    refine D.ag_put ag ho hik fun j hj=>?_
    by_cases hji:i=j
    ·subst hji;simp[h3]
    ·rw[getD_set_ne false hji];have:(j==i)=false:=by simp;exact fun e=>hji e.symm
     rw[this,Z5]
   have hlt':∀j,j<l.length→(L.setIfInBounds i true).getD j false=true→j<k:=fun j hj hlj=>by
    by_cases hji:i=j
    ·subst hji;exact hik
    ·rw[getD_set_ne false hji]at hlj;exact hlt j hj hlj
   have hls:left l.toArray (L.setIfInBounds i true)=fuel:=(by have:=dg (by simpa using hs) hin hun';omega);cases hic:es.contains i with
   |false=>
    have h9:=hv i o hik hic hun' ho';rw[← bm (hsee ag0 ag hik ho' fun j hj hbt he=>?_)]
    ·refine h9 _ ?_;refine ih _ _ _ tr V tc h X (by simpa using hs) hls (cl.set ho hrd) hlt' (fun j hj=>?_) hok (agn ag) ag0 agc (fun j oj hj hjc hjl hoj=>?_) hw
     ·have:i≠j:=fun e=>by subst e;rw[hic]at hj;cases hj
      rw[getD_set_ne false this];exact hX j hj
     ·have:i≠j:=fun e=>by subst e;simp[h3]at hjl
      rw[getD_set_ne false this]at hjl;exact hv j oj hj hjc hjl hoj
    ·rcases he with he|he
     ·rw[hic]at he;cases he
     ·exact⟨by simp only[he];rfl,hb j hj hbt⟩
   |true=>
    have hiX:X.contains i=false:=(by rw[← hX i hic];exact hun');have eff:∀(m:List Bool) (u:ET),okI l.toArray (Region.before l.toArray) k es i m X=true→okE l.toArray (Region.before l.toArray) k es u (i::X)=true→stepE C l t0 i m (WPe C Q l k t0 u) tc h→
      wpOperV C l.toArray o s h fun v h'=>WPix C l.toArray Q (Region.linearise.go .any l.toArray fuel (n/(Region.ready .any l.toArray L).length) (L.setIfInBounds i true) []) (put s o.dst v) h':=by
     intro m u hoI hoE hst;simp only[stepE,ho',bc]at hst;rw[← bm (hsee agc ag hik ho' fun j hj hbt _=>?_)]
     ·refine bM hst fun v h' ⟨hre,hnx⟩=>?_
      have agV:=ag.upd' (i:=i) (by simpa using hun') v;have ag0V:=ag0.upd' (i:=i) (by simp only[hic];rfl) v;have agcV:=agc.upd' (i:=i) (by simp only[hic,hiX];rfl) v;have e1:=agn agV;simp only[if_true]at e1;refine ih _ _ _ u (fun j=>if j=i then v else V j) (put tc o.dst v) h' (i::X) (by simpa using hs) hls (cl.set ho hrd) hlt' (fun j hj=>?_) hoE e1 ag0V ?_ (fun p op hp hpc hpl hop=>?_) hnx
      ·by_cases hji:i=j
       ·subst hji;simp[h3]
       ·rw[getD_set_ne false hji,hX j hj];rw[List.contains_cons];have:(j==i)=false:=by simp;exact fun e=>hji e.symm
        rw[this,Bool.false_or]
      ·have:=D.ag_put (V:=fun j=>if j=i then v else V j) (p':=fun j=> !es.contains j||(i::X).contains j) agcV ho hik fun j hj=>by
        rw[List.contains_cons,Bool.or_comm (j==i),Bool.or_assoc]
       simpa using this
      ·have hpi:i≠p:=fun e=>by subst e;rw[hic]at hpc;cases hpc
       rw[getD_set_ne false hpi]at hpl;simp only[L5 (fun e=>hpi e.symm:¬p=i)];simp only[okI,L6,O9,R9,R6,P6,M1]at hoI;obtain⟨⟨⟨⟨⟨_,_⟩,_⟩,hms⟩,hml⟩,hmk⟩:=hoI;rcases hms p hp with(((h4|h4)|h4)|h4)|h4
       ·rw[hpc]at h4;cases h4
       ·
        obtain⟨V2,hv2,hK2⟩:=bQ _ _ hre;rw[mN]at hK2;have hmlen:m.length≤l.length:=(by omega);have hget:∀q oq,(maskL m l)[q]? =some oq→oq=nopO∨(m.getD q false=true∧l[q]? =some oq):=fun q oq hq=>by
         rw[cS]at hq;split at hq
         ·rename_i h5 h6;cases hq;exact .inr ⟨by simp[List.getD,h5],h6⟩
         ·cases hq;exact .inl rfl
         ·cases hq
        have hgm:∀q oq,m.getD q false=true→l[q]? =some oq→(maskL m l)[q]? =some oq:=fun q oq h5 h6=>by
         rw[cS];have:m[q]? =some true:=by
          cases hm:m[q]? with
          |none=>simp[List.getD,hm]at h5
          |some b=>simp[List.getD,hm]at h5;subst h5;rfl
         rw[this,h6]
        have hmP:∀q,m.getD q false=true→q<k∧es.contains q=false:=fun q h5=>by
         have hq:q<m.length:=by
          apply R7
          intro hn;rw[List.getD,Q4 (by omega)]at h5;cases h5
         rcases hml q hq with h6|h6
         ·rw[h5]at h6;cases h6
         ·exact h6
        have hu:∀(a b:Nat) (oa ob:Oper) (d:Nat),(maskL m l)[a]? =some oa→(maskL m l)[b]? =some ob→oa.dst=some d→ob.dst=some d→a=b:=fun a b oa ob d h5 h6 h7 h8=>by
         rcases hget a oa h5 with rfl| ⟨ha,hoa⟩
         ·cases h7
         rcases hget b ob h6 with rfl| ⟨hb',hob⟩
         ·cases h8
         rcases U9 a b with h9|h9|h9
         ·exact absurd h8 ((D.pre a b oa ob (by simpa using hoa) (by simpa using hob) h9 (hmP b hb').1).2 d h7)
         ·exact h9
         ·exact absurd h7 ((D.pre b a ob oa (by simpa using hob) (by simpa using hoa) h9 (hmP a ha).1).2 d h8)
        have hT:=fun q (hq:q≤(maskL m l).length)=>mO (V:=V2) (maskL m l) t0 hu q hq
        have hV2:∀q oq d,(maskL m l)[q]? =some oq→oq.dst=some d→V2 q=t0 d:=fun q oq d h5 h6=>by
         have h7:=jb hK2 d (kJ h5 h6);rw[(hT _ (M4 _)).1 q oq d (f9.1 h5).1 h5 h6]at h7;exact h7
        have hTt:∀q,q≤(maskL m l).length→Av.T V2 (maskL m l) t0 q=t0:=fun q hq=>by
         funext d
         by_cases hx:∃(a:Nat) (oa:Oper),a<q∧(maskL m l)[a]? =some oa∧oa.dst=some d
         ·obtain⟨a,oa,h5,h6,h7⟩:=hx;rw[(hT q hq).1 a oa d h5 h6 h7,hV2 a oa d h6 h7]
         ·exact(hT q hq).2 d fun a oa h5 h6 h7=>hx ⟨a,oa,h5,h6,h7⟩
        have hg:=hgm p op h4 hop;have:=hv2 p op hg;rw[hTt p (Nat.le_of_lt (f9.1 hg).1)]at this;obtain⟨d,hd⟩:=N5.1 (c7 p op hp hpc hop);have h5:V2 p=V p:=by
         rw[hV2 p op d hg hd];exact ag0.1 p op d hp (by simpa using hop) (by simp only[hpc];rfl) hd
        rw[h5]at this;exact this
       ·
        rw[hb p h4.1 h4.2]at hpl;cases hpl
       ·
        obtain⟨x,hxe,hx⟩:=X9.1 h4;simp only[L6,M1]at hx;have hxe':es.contains x=true:=(by simpa using hxe);have hxk:=hes x hxe';have hxl:L.getD x false=true:=(by rw[hX x hxe'];exact hx.1.1);have hox:l.toArray[x]? =some (l.toArray[x]'(by simp;omega)):=O2 (by simp;omega);have:=D.bef cl x _ hox hxk p hx.1.2 hx.2 (fun e he hbd=>cl x _ hox hxl e he hbd);rw[this]at hpl;cases hpl
       ·rw[U2,hop]at h4;exact sV (by simpa using h4) (hv p op hp hpc hpl hop) h'
     ·have hLj:=hb j hj hbt;refine⟨?_,hLj⟩;cases hc:es.contains j with
      |false=>rfl
      |true=>rw[← hX j hc,hLj];rfl
    have other:∀is:List Nat,okO (Region.before l.toArray) es X is=true→is.contains i=true:=fun is ho=>by
     simp only[okO,O9,R6]at ho;rcases ho i (by simpa using hic)with(h4|h4)|h4
     ·rw[hiX]at h4;cases h4
     ·exact h4
     ·obtain⟨y,hy,h5⟩:=X9.1 h4;simp only[L6,P6,M1]at h5;have:=hb y h5.1.2 h5.2;rw[hX y (by simpa using hy),h5.1.1]at this;cases this
    cases tr with
    |fin=>exact absurd rfl hfin
    |one i' m u=>
     simp only[okE,L6]at hok;have:i=i':=by simpa using other [i'] hok.1.2
     subst this;exact eff m u hok.1.1 hok.2 hw
    |two i' m u j' m' u'=>
     simp only[okE,L6]at hok;have:i=i'∨i=j':=by simpa using other [i',j'] hok.1.1.2
     rcases this with rfl|rfl
     ·exact eff m u hok.1.1.1.1 hok.1.2 hw.1
     ·exact eff m' u' hok.1.1.1.2 hok.2 hw.2
theorem aC{id:Nat}{l:List Oper}{Q:Exit→Env→Heap→Prop}(k:Nat)(es:List Nat)(m0:List Bool)(tr:ET)(hok:chkE l k es m0 tr=true)(hm:C.P.follows .mixedOrders=true)
  (hA:detGo .any l.toArray (l.length-k) (listK l.length k)=some (List.range' k (l.length-k)))
  (hh:WPp C l.toArray (maskL m0 l) t h fun t0=>WPe C Q l k t0 tr t0 h):WP C (.region id l.toArray true) Q t h:=by
 unfold chkE at hok;simp only[L6,M1,beq_iff_eq]at hok;obtain⟨⟨⟨⟨⟨⟨hpre,hkn⟩,hc4⟩,hc7⟩,hes⟩,hm0⟩,hE⟩:=hok;have D:=fC hpre;simp only[O9,R9]at hc4 hc7;have c4:∀(i j:Nat) (oi oj:Oper) (d:Nat),i<k→j<k→l[i]? =some oi→l[j]? =some oj→oj.dst=some d→d∈oi.looksAt l.toArray→j<i∧((Region.before l.toArray).getD i 0).testBit j=true∧(es.contains i=true∨es.contains j=false):=by
  intro i j oi oj d hi hj hoi hoj hd hl;have:=hc4 i hi j hj;rw[U2,U2,hoi,hoj]at this;simp only[hd,R6,L6,P6,M1]at this;rcases this with h1|h1
  ·have:(oi.looksAt l.toArray).contains d=true:=by simpa using hl
   rw[h1]at this;cases this
  ·exact⟨h1.1.1,h1.1.2,h1.2⟩
 have c7:∀(i:Nat) (o:Oper),i<k→es.contains i=false→l[i]? =some o→o.dst.isSome=true:=by
  intro i o hi he ho;have:=hc7 i hi;rw[U2,ho,he]at this;simpa using this
 have hes':∀e,es.contains e=true→e<k:=fun e he=>by
  have:=O9.1 hes e (by simpa using he);simpa using this
 obtain⟨V,hv,hK⟩:=bQ _ _ hh;have hm0l:m0.length=k:=by rw[hm0];simp
 have hml:=hY m0 l (by omega);have hm0g:∀q,q<k→m0[q]? =some (!es.contains q):=fun q hq=>by rw[hm0];simp[hq]
 have hget:∀q oq,(maskL m0 l)[q]? =some oq→oq=nopO∨(q<k∧es.contains q=false∧l[q]? =some oq):=fun q oq hq=>by
  have hqk:q<k:=by have:=(f9.1 hq).1;omega
  rw[cS,hm0g q hqk]at hq;cases hc:es.contains q with
  |true=>rw[hc]at hq;cases hl:l[q]? with
   |none=>rw[hl]at hq;cases hq
   |some o=>rw[hl]at hq;cases hq;exact .inl rfl
  |false=>rw[hc]at hq;cases hl:l[q]? with
   |none=>rw[hl]at hq;cases hq
   |some o=>rw[hl]at hq;cases hq;exact .inr ⟨hqk,rfl,rfl⟩
 have hgm:∀q oq,q<k→es.contains q=false→l[q]? =some oq→(maskL m0 l)[q]? =some oq:=fun q oq hq hc h6=>by
  rw[cS,hm0g q hq,hc,h6];rfl
 have hu:∀(a b:Nat) (oa ob:Oper) (d:Nat),(maskL m0 l)[a]? =some oa→(maskL m0 l)[b]? =some ob→oa.dst=some d→ob.dst=some d→a=b:=fun a b oa ob d h5 h6 h7 h8=>by
  rcases hget a oa h5 with rfl| ⟨ha,_,hoa⟩
  ·cases h7
  rcases hget b ob h6 with rfl| ⟨hb',_,hob⟩
  ·cases h8
  rcases U9 a b with h9|h9|h9
  ·exact absurd h8 ((D.pre a b oa ob (by simpa using hoa) (by simpa using hob) h9 hb').2 d h7)
  ·exact h9
  ·exact absurd h7 ((D.pre b a ob oa (by simpa using hob) (by simpa using hoa) h9 ha).2 d h8)
 have hT:=fun q (hq:q≤(maskL m0 l).length)=>mO (V:=V) (maskL m0 l) t hu q hq
 generalize ht0:Av.T V (maskL m0 l) t (maskL m0 l).length=t0 at hK;have ag0:Ag l.toArray k V t (fun j=> !es.contains j) t0:=by
  rw[← ht0];refine⟨fun j o x hj ho hp hd=>?_,fun x hn=>?_⟩
  ·have hc:es.contains j=false:=(by simpa using hp);exact(hT _ (M4 _)).1 j o x (by omega) (hgm j o hj hc (by simpa using ho)) hd
  ·refine(hT _ (M4 _)).2 x fun j o hj ho hd=>?_
   rcases hget j o ho with rfl| ⟨h1,h2,h3⟩
   ·cases hd
   ·exact hn j o h1 (by simpa using h3) (by simp only[h2];rfl) hd
 have main:∀n,WPix C l.toArray Q (Region.linearise .any l.toArray n) t h:=fun n=>by
  unfold Region.linearise;refine qm D hkn c4 c7 hes' hA _ n _ t tr V t0 h [] (by simp) ?_ (fun j oj hj hl=>?_) (fun j hj hl=>?_) (fun j hj=>?_) hE (Ag.start _ _ _ _ fun j hj=>?_) ag0 (ag0.congr' fun j hj=>by simp) (fun i o hi hc _ ho KK hkk=>?_) hK
  ·unfold left;have:(List.range l.toArray.size).filter (fun i=> !(Array.replicate l.toArray.size false).getD i true)=List.range l.toArray.size:=by
    rw[T8];intro i hi;have:=R9.1 hi;simp at this ⊢;simp[this]
   rw[this,Z8]
  ·have h8:=(O0.1 hj).1;simp at h8 hl;simp[h8]at hl
  ·simp at hl;simp[hj]at hl
  ·have:=hes' j hj;have:j<l.length:=by omega
   simp[this]
  ·have:j<l.length:=by omega
   simp[this]
  ·have hg:=hgm i o hi hc ho;have:=hv i o hg KK hkk;have hil:i≤(maskL m0 l).length:=(by omega);rw[bm (t2:=t0) fun d hd=>?_]at this
   ·exact this
   ·by_cases hx:∃(j:Nat) (oj:Oper),j<k∧l[j]? =some oj∧oj.dst=some d
    ·obtain⟨j,oj,h1,h2,h3⟩:=hx;obtain⟨h4,_,h5⟩:=c4 i j o oj d hi h1 ho h2 h3 hd;have hcj:es.contains j=false:=by
      rcases h5 with h5|h5
      ·rw[hc]at h5;cases h5
      ·exact h5
     rw[(hT i hil).1 j oj d h4 (hgm j oj h1 hcj h2) h3,ag0.1 j oj d h1 (by simpa using h2) (by simp only[hcj];rfl) h3]
    ·rw[(hT i hil).2 d fun j oj h1 h2 h3=>?_,ag0.2 d fun j oj h1 h2 _ h3=>hx ⟨j,oj,h1,by simpa using h2,h3⟩];rcases hget j oj h2 with rfl| ⟨h5,_,h6⟩
     ·cases h3
     ·exact hx ⟨j,oj,h5,h6,h3⟩
 show ∀tp,WPix C l.toArray Q (Region.schedule (C.P.follows .mixedOrders) l.toArray tp) t h;intro tp;unfold Region.schedule;rw[hm];simp only[Bool.true_or,if_true];exact main _
variable {l:List Oper} {Q:Exit→Env→Heap→Prop} {k:Nat} {t0 tc:Env} {ops:Array Oper} {dst:Option Tmp} {ty:TypeId} {pos:String} {aft:Array Edge} {K:AVal→Heap→Prop}
@[congr] theorem B2(i:Nat)(m:List Bool)(P:Env→Heap→Prop){h h':Heap}(e:h=h'):stepE C l t0 i m P tc h=stepE C l t0 i m P tc h':=by rw[e]
@[congr] theorem Er(tr:ET){h h':Heap}(e:h=h'):WPe C Q l k t0 tr tc h=WPe C Q l k t0 tr tc h':=by rw[e]
@[go_sem] theorem Ge(i:Nat)(m:List Bool)(P:Env→Heap→Prop):stepE C l t0 i m P tc h=need (l[i]?) fun o=>wpOperV C l.toArray o tc h fun v h'=>(WPp C l.toArray (maskL m l) t0 h' fun t''=>agrL (wrM m l) t'' t0)∧P (put tc o.dst v) h':=(rfl)
attribute [go_sem] List.drop_succ_cons List.drop_zero
variable {t:Env} {e:TypeId} {T:TypeId}
@[go_sem] theorem Es:wpOperV C ops ⟨dst,.alloc e,ty,pos,aft,none⟩ t h K=
  need (zroT C.P e) fun z=>0<z.cells.length∧z.cells.all AVal.sto=true∧z.lies=true∧K (.hp h.length 0 0 0) (h++[.row e z.cells.length 0 [z]]):=(rfl)
@[go_sem] theorem Et(x y:Operand):wpOperV C ops ⟨dst,.store T x y,ty,pos,aft,none⟩ t h K=storeK C T (aev C.G t x) (aev C.G t y) h (fun h'=>K undefA h'):=(rfl)
@[go_sem] theorem IY(rest:List Oper)(K:Env→Prop):WPp C ops (nopO::rest) t h K=WPp C ops rest t h K:=uX (dst:=none) (.const (.bool false))
@[congr] theorem C1{l l':List Oper}{t t':Env}{h h':Heap}{K:Env→Prop}(e1:l=l')(e2:t=t')(e3:h=h'):WPp C ops l t h K=WPp C ops l' t' h' K:=by rw[e1,e2,e3]
@[go_sem] theorem Eu(T:TypeId)(x:Operand)(f:Nat)(rest:List Oper)(K:Env→Prop):WPp C ops (⟨dst,.field T x f,ty,pos,aft,none⟩::rest) t h K=
  need (fOff C.P T f) fun q=>need (match aev C.G t x with| .agg cs=>pickT C.P q.2.1 (cs.drop q.1)|_=>none) fun v=>WPp C ops rest (put t dst v) h K:=
 bk (E:=fun k=>need (fOff C.P T f) fun q=>need (match aev C.G t x with| .agg cs=>pickT C.P q.2.1 (cs.drop q.1)|_=>none) k) (Det.need _ fun q=>Det.need' _) fun KK=>by
  simp only[wpOp];congr;funext ⟨o,a,b⟩;simp only[];generalize aev C.G t x=v;cases v<;>rfl
@[go_sem] theorem Gf(f:Operand)(args:Array Operand)(Ts:Array TypeId):wpOperV C ops ⟨dst,.call ⟨.value f,args,Ts⟩,ty,pos,aft,none⟩ t h K=callK C (aev C.G t f) (args.toList.map (aev C.G t)) h K:=by
 show wpCall C ⟨.value f,args,Ts⟩ t h K=_;rfl
@[go_sem] theorem Ew(parts:Array (Nat×Operand)):wpOperV C ops ⟨dst,.build T parts,ty,pos,aft,none⟩ t h K=need (buildA C T (parts.toList.map fun q=>(q.1,aev C.G t q.2))) fun v=>K v h:=by
 show wpOp C (.build T parts) t h K=_;have:=lj (C:=C) (ops:= #[]) (Q:=fun _ t h=>K (t 0) h) (rest:=[]) (t:=t) (h:=h) (dst:=some 0) (ty:=0) (pos:= "") (aft:= #[]) T parts;simpa [WPl,wpOper,put,upd]using this
theorem ai(g:WPl C l.toArray Q (l.drop k) tc h):WPe C Q l k t0 .fin tc h:=g
theorem aj{i:Nat}{m:List Bool}{s:ET}(g:stepE C l t0 i m (WPe C Q l k t0 s) tc h):WPe C Q l k t0 (.one i m s) tc h:=g
theorem ak{i j:Nat}{m m':List Bool}{s u:ET}(g:stepE C l t0 i m (WPe C Q l k t0 s) tc h)(g':stepE C l t0 j m' (WPe C Q l k t0 u) tc h):WPe C Q l k t0 (.two i m s j m' u) tc h:=⟨g,g'⟩
end
end Go.Av
namespace Go.Av
open Go Go.Proofs Go.RowKit
structure Ev where
 kind:Int
 a:Int
 b:Int
 n:Int
 s:Bs
 t:Bs
 u:Bs
def Ev.av(e:Ev):AVal:=.agg [.int .i64 e.kind,.int .i64 e.a,.int .i64 e.b,.int .i64 e.n,.str e.s,.str e.t,.str e.u]
structure Fo where
 id:Int
 inn:Int
 name:Bs
structure Fe where
 id:Int
 inn:Int
 url:Bs
 title:Bs
structure It where
 id:Int
 feed:Int
 date:Int
 guid:Bs
 title:Bs
 link:Bs
 read:Bool
 star:Bool
 tags:List Bs
structure Se where
 id:Int
 name:Bs
 query:Bs
def Fo.av(f:Fo):AVal:=.agg [.int .i64 f.id,.int .i64 f.inn,.str f.name]
def Fe.av(f:Fe):AVal:=.agg [.int .i64 f.id,.int .i64 f.inn,.str f.url,.str f.title]
def It.av(t:It):AVal:=.agg [.int .i64 t.id,.int .i64 t.feed,.int .i64 t.date,.str t.guid,.str t.title,.str t.link,.bool t.read,.bool t.star,.sl 1 (t.tags.map .str)]
def Se.av(q:Se):AVal:=.agg [.int .i64 q.id,.str q.name,.str q.query]
def Fo.z:Fo:=⟨0,0,[]⟩
def Fe.z:Fe:=⟨0,0,[],[]⟩
def It.z:It:=⟨0,0,0,[],[],[],false,false,[]⟩
def Se.z:Se:=⟨0,[],[]⟩
@[go_sem] theorem Ev.av_eq(e:Ev):e.av=.agg [.int .i64 e.kind,.int .i64 e.a,.int .i64 e.b,.int .i64 e.n,.str e.s,.str e.t,.str e.u]:=(rfl)
@[go_sem] theorem Fo.av_eq(f:Fo):f.av=.agg [.int .i64 f.id,.int .i64 f.inn,.str f.name]:=(rfl)
@[go_sem] theorem Fe.av_eq(f:Fe):f.av=.agg [.int .i64 f.id,.int .i64 f.inn,.str f.url,.str f.title]:=(rfl)
@[go_sem] theorem It.av_eq(t:It):t.av=.agg [.int .i64 t.id,.int .i64 t.feed,.int .i64 t.date,.str t.guid,.str t.title,.str t.link,.bool t.read,.bool t.star,.sl 1 (t.tags.map .str)]:=(rfl)
@[go_sem] theorem Se.av_eq(q:Se):q.av=.agg [.int .i64 q.id,.str q.name,.str q.query]:=(rfl)
@[go_sem] theorem JP(o:Option Fo):v1 (.agg [.int .i64 0,.int .i64 0,.str []]) Fo.av o=(o.getD Fo.z).av:=mC (d:=Fo.z) rfl o
@[go_sem] theorem JQ(o:Option Fe):v1 (.agg [.int .i64 0,.int .i64 0,.str [],.str []]) Fe.av o=(o.getD Fe.z).av:=mC (d:=Fe.z) rfl o
@[go_sem] theorem JR(o:Option It):v1 (.agg [.int .i64 0,.int .i64 0,.int .i64 0,.str [],.str [],.str [],.bool false,.bool false,.sl 1 []]) It.av o=(o.getD It.z).av:=mC (d:=It.z) rfl o
@[go_sem] theorem JS(o:Option Se):v1 (.agg [.int .i64 0,.str [],.str []]) Se.av o=(o.getD Se.z).av:=mC (d:=Se.z) rfl o
@[go_sem] theorem JT(c:Nat)(l:ML Int Fo)(x i n:Int)(s:Bs):putM (encM iA Fo.av l) c (.int .i64 x) (.agg [.int .i64 i,.int .i64 n,.str s]) (ixM l x)=.mp (encM iA Fo.av (upM l c x ⟨i,n,s⟩)) (ckM l c x):=j9 c l x ⟨i,n,s⟩ rfl
@[go_sem] theorem JU(c:Nat)(l:ML Int Fe)(x i n:Int)(s t:Bs):putM (encM iA Fe.av l) c (.int .i64 x) (.agg [.int .i64 i,.int .i64 n,.str s,.str t]) (ixM l x)=.mp (encM iA Fe.av (upM l c x ⟨i,n,s,t⟩)) (ckM l c x):=j9 c l x ⟨i,n,s,t⟩ rfl
@[go_sem] theorem JV(c:Nat)(l:ML Int It)(x i f d:Int)(g t u:Bs)(r s:Bool)(ts:List Bs):putM (encM iA It.av l) c (.int .i64 x) (.agg [.int .i64 i,.int .i64 f,.int .i64 d,.str g,.str t,.str u,.bool r,.bool s,.sl 1 (ts.map .str)]) (ixM l x)=.mp (encM iA It.av (upM l c x ⟨i,f,d,g,t,u,r,s,ts⟩)) (ckM l c x):=j9 c l x ⟨i,f,d,g,t,u,r,s,ts⟩ rfl
@[go_sem] theorem Jx(c:Nat)(l:ML Int It)(x i f d:Int)(g t u:Bs)(r s:Bool):putM (encM iA It.av l) c (.int .i64 x) (.agg [.int .i64 i,.int .i64 f,.int .i64 d,.str g,.str t,.str u,.bool r,.bool s,.sl 1 []]) (ixM l x)=.mp (encM iA It.av (upM l c x ⟨i,f,d,g,t,u,r,s,[]⟩)) (ckM l c x):=j9 c l x ⟨i,f,d,g,t,u,r,s,[]⟩ rfl
@[go_sem] theorem JW(c:Nat)(l:ML Int Se)(x i:Int)(s t:Bs):putM (encM iA Se.av l) c (.int .i64 x) (.agg [.int .i64 i,.str s,.str t]) (ixM l x)=.mp (encM iA Se.av (upM l c x ⟨i,s,t⟩)) (ckM l c x):=j9 c l x ⟨i,s,t⟩ rfl
@[go_sem] theorem JX(n:Int):iA n=.int .i64 n:=(rfl)
structure PS where
 clock:Int
 fo:ML Int Fo
 fe:ML Int Fe
 it:ML Int It
 se:ML Int Se
 nm:ML (Int×Bs) Int
 pl:ML Bs Int
 gu:ML (Int×Bs) Int
 he:ML Int Int
 c1:Nat
 c2:Nat
 c3:Nat
 c4:Nat
 c5:Nat
 c6:Nat
 c7:Nat
 c8:Nat
 t1:Int
 t2:Int
 t3:Int
 t4:Int
def PS.row(n:Nat)(s:PS):AVal:=.agg [.int .i64 s.clock,.hm n,.hm (n+1),.hm (n+2),.hm (n+3),.hm (n+4),.hm (n+5),.hm (n+6),.hm (n+7),.int .i64 s.t1,.int .i64 s.t2,.int .i64 s.t3,.int .i64 s.t4]
def PS.bl(n:Nat)(s:PS):List Blk:=
 [.mp (encM iA Fo.av s.fo) s.c1,.mp (encM iA Fe.av s.fe) s.c2,.mp (encM iA It.av s.it) s.c3,.mp (encM iA Se.av s.se) s.c4,
 .mp (encM nA iA s.nm) s.c5,.mp (encM AVal.str iA s.pl) s.c6,.mp (encM nA iA s.gu) s.c7,.mp (encM iA iA s.he) s.c8,.row 87 13 0 [s.row n]]
def PS.z:PS:=⟨0,[],[],[],[],[],[],[],[],0,0,0,0,0,0,0,0,0,0,0,0⟩
def so(H:Heap)(n:Nat)(s:PS):Heap:=ov H n (s.bl n)
section
variable {H:Heap} {n:Nat} {s:PS}
@[go_sem] theorem sW(hn:n+9≤H.length):getRow (so H n s) (n+8) 0=some (87,13,[.agg [.int .i64 s.clock,.hm n,.hm (n+1),.hm (n+2),.hm (n+3),.hm (n+4),.hm (n+5),.hm (n+6),.hm (n+7),.int .i64 s.t1,.int .i64 s.t2,.int .i64 s.t3,.int .i64 s.t4]]):=by
 unfold so;rw[mL 0 hn (by decide+revert:8<9)];rfl
@[go_sem] theorem C2(hn:n+9≤H.length):mapAt (so H n s) n=some (encM iA Fo.av s.fo,s.c1):=by unfold so;rw[oZ hn (by simp[PS.bl])];rfl
@[go_sem] theorem C3(hn:n+9≤H.length):mapAt (so H n s) (n+1)=some (encM iA Fe.av s.fe,s.c2):=by unfold so;rw[dS hn (by simp[PS.bl])];rfl
@[go_sem] theorem qp(hn:n+9≤H.length):mapAt (so H n s) (n+2)=some (encM iA It.av s.it,s.c3):=by unfold so;rw[dS hn (by simp[PS.bl])];rfl
@[go_sem] theorem C4(hn:n+9≤H.length):mapAt (so H n s) (n+3)=some (encM iA Se.av s.se,s.c4):=by unfold so;rw[dS hn (by simp[PS.bl])];rfl
@[go_sem] theorem JY(hn:n+9≤H.length):mapAt (so H n s) (n+4)=some (encM nA iA s.nm,s.c5):=by unfold so;rw[dS hn (by simp[PS.bl])];rfl
@[go_sem] theorem JZ(hn:n+9≤H.length):mapAt (so H n s) (n+5)=some (encM AVal.str iA s.pl,s.c6):=by unfold so;rw[dS hn (by simp[PS.bl])];rfl
@[go_sem] theorem K6(hn:n+9≤H.length):mapAt (so H n s) (n+6)=some (encM nA iA s.gu,s.c7):=by unfold so;rw[dS hn (by simp[PS.bl])];rfl
@[go_sem] theorem K7(hn:n+9≤H.length):mapAt (so H n s) (n+7)=some (encM iA iA s.he,s.c8):=by unfold so;rw[dS hn (by simp[PS.bl])];rfl
@[go_sem] theorem K8(hn:n+9≤H.length)(l:ML Int Fo)(c:Nat):(so H n s).set n (.mp (encM iA Fo.av l) c)=so H n {s with fo:=l,c1:=c}:=by unfold so;rw[kL _ hn (by simp[PS.bl])];rfl
@[go_sem] theorem K9(hn:n+9≤H.length)(l:ML Int Fe)(c:Nat):(so H n s).set (n+1) (.mp (encM iA Fe.av l) c)=so H n {s with fe:=l,c2:=c}:=by unfold so;rw[cI _ hn (by simp[PS.bl])];rfl
@[go_sem] theorem Ka(hn:n+9≤H.length)(l:ML Int It)(c:Nat):(so H n s).set (n+2) (.mp (encM iA It.av l) c)=so H n {s with it:=l,c3:=c}:=by unfold so;rw[cI _ hn (by simp[PS.bl])];rfl
@[go_sem] theorem Kb(hn:n+9≤H.length)(l:ML Int Se)(c:Nat):(so H n s).set (n+3) (.mp (encM iA Se.av l) c)=so H n {s with se:=l,c4:=c}:=by unfold so;rw[cI _ hn (by simp[PS.bl])];rfl
@[go_sem] theorem Kc(hn:n+9≤H.length)(l:ML (Int×Bs) Int)(c:Nat):(so H n s).set (n+4) (.mp (encM nA iA l) c)=so H n {s with nm:=l,c5:=c}:=by unfold so;rw[cI _ hn (by simp[PS.bl])];rfl
@[go_sem] theorem Kd(hn:n+9≤H.length)(l:ML Bs Int)(c:Nat):(so H n s).set (n+5) (.mp (encM AVal.str iA l) c)=so H n {s with pl:=l,c6:=c}:=by unfold so;rw[cI _ hn (by simp[PS.bl])];rfl
@[go_sem] theorem Ke(hn:n+9≤H.length)(l:ML (Int×Bs) Int)(c:Nat):(so H n s).set (n+6) (.mp (encM nA iA l) c)=so H n {s with gu:=l,c7:=c}:=by unfold so;rw[cI _ hn (by simp[PS.bl])];rfl
@[go_sem] theorem Kf(hn:n+9≤H.length)(l:ML Int Int)(c:Nat):(so H n s).set (n+7) (.mp (encM iA iA l) c)=so H n {s with he:=l,c8:=c}:=by unfold so;rw[cI _ hn (by simp[PS.bl])];rfl
@[go_sem] theorem Kg(hn:n+9≤H.length)(k t1 t2 t3 t4:Int):(so H n s).set (n+8) (.row 87 13 0 [.agg [.int .i64 k,.hm n,.hm (n+1),.hm (n+2),.hm (n+3),.hm (n+4),.hm (n+5),.hm (n+6),.hm (n+7),.int .i64 t1,.int .i64 t2,.int .i64 t3,.int .i64 t4]])=so H n {s with clock:=k,t1:=t1,t2:=t2,t3:=t3,t4:=t4}:=by unfold so;rw[cI _ hn (by simp[PS.bl])];rfl
@[go_sem] theorem bj(hn:n+9≤H.length)(j:Heap):so H n s++j=so (H++j) n s:=fM hn
@[go_sem] theorem aQ(hn:n+9≤H.length):(so H n s).length=H.length:=aT hn
@[go_sem] theorem sX(hn:n+9≤H.length){p:Nat}(hp:n+9≤p):(so H n s)[p]? =H[p]? :=mK hn (.inr hp)
@[go_sem] theorem bN(hn:n+9≤H.length){p:Nat}(v:Nat)(hp:n+9≤p):getRow (so H n s) p v=getRow H p v:=ir v hn (.inr hp)
@[go_sem] theorem xy(hn:n+9≤H.length){p:Nat}(b:Blk)(hp:n+9≤p):(so H n s).set p b=so (H.set p b) n s:=hJ b hn (.inr hp)
@[go_sem] theorem Jy(hn:n+9≤H.length):abin Tryz.prog (so H n s) .eql 29 (.hp (n+8) 0 0 0) (.nil (.pointer none))=some (.bool false):=by
 have hk:nilKind Tryz.prog 29 (.pointer none)=true:=by kernel_rfl
 simp[abin,hk,aeqNil,sW hn]
@[go_sem] theorem zm(hn:n+9≤H.length):abin Tryz.prog (so H n s) .neq 29 (.hp (n+8) 0 0 0) (.nil (.pointer none))=some (.bool true):=by
 have hk:nilKind Tryz.prog 29 (.pointer none)=true:=by kernel_rfl
 simp[abin,hk,aeqNil,sW hn]
end
@[go_sem] theorem IZ(e:TypeId)(p:Nat)(h:Heap)(k:Heap→Prop):boxK e (.hm p) h k=k (h++[.row e 1 0 [.hm p]]):=by simp[boxK,AVal.cells,AVal.lies,AVal.sto]
attribute [go_sem] List.length_append List.length_cons List.length_nil
theorem jc(N:Nat)(l:List Bs):Clo N (.sl 1 (l.map .str)):=Clo.sl _ _ fun x hx=>by obtain⟨y,_,rfl⟩:=M9.1 hx;exact .str _
theorem It.clo(N:Nat)(t:It):Clo N t.av:=.agg _ fun x hx=>by
 simp only[M6,P7,or_false]at hx;rcases hx with rfl|rfl|rfl|rfl|rfl|rfl|rfl|rfl|rfl<;>first|exact .int _ _|exact .str _|exact .bool _|exact jc _ _
theorem bS{κ α:Type}{ek:κ→AVal}{ev:α→AVal}{N c:Nat}(hk:∀x,Clo N (ek x))(hv:∀x,Clo N (ev x))(l:ML κ α):CloB N (.mp (encM ek ev l) c):=fun e he=>by
 obtain⟨d,_,rfl⟩:=M9.1 he;exact⟨hk _,hv _⟩
theorem bT{N:Nat}{cs:List AVal}(h:∀c∈cs,(∃k n,c=.int k n)∨(∃s,c=.str s)∨(∃p,p<N∧c=.hm p)):Clo N (.agg cs):=.agg _ fun x hx=>by
 rcases h x hx with⟨k,n,rfl⟩| ⟨s,rfl⟩| ⟨p,hp,rfl⟩
 ·exact .int _ _
 ·exact .str _
 ·exact .hm _ hp
theorem PS.clo{N n:Nat}(hn:n+9≤N)(s:PS):∀b∈s.bl n,CloB N b:=fun b hb=>by
 have hi:∀x:Int,Clo N (iA x):=fun x=>.int _ _
 have hna:∀x:Int×Bs,Clo N (nA x):=fun x=>bT fun c hc=>by simp at hc;rcases hc with rfl|rfl<;>simp
 simp only[PS.bl,M6,P7,or_false]at hb;rcases hb with rfl|rfl|rfl|rfl|rfl|rfl|rfl|rfl|rfl
 ·exact bS hi (fun x=>bT fun c hc=>by simp at hc;rcases hc with rfl|rfl|rfl<;>simp) _
 ·exact bS hi (fun x=>bT fun c hc=>by simp at hc;rcases hc with rfl|rfl|rfl|rfl<;>simp) _
 ·exact bS hi (fun x=>It.clo N x) _
 ·exact bS hi (fun x=>bT fun c hc=>by simp at hc;rcases hc with rfl|rfl|rfl<;>simp) _
 ·exact bS hna hi _
 ·exact bS (fun x=>.str _) hi _
 ·exact bS hna hi _
 ·exact bS hi hi _
 ·exact CloB.row fun r hr=>by
   simp at hr;subst hr;exact bT fun c hc=>by
    simp only[PS.row,M6,P7,or_false]at hc;rcases hc with rfl|rfl|rfl|rfl|rfl|rfl|rfl|rfl|rfl|rfl|rfl|rfl|rfl<;>simp<;>omega
theorem au{H j:Heap}{n:Nat}{s s':PS}{R:AVal→Heap→Prop}{r:AVal}(hn:n+9≤H.length)(hc:Clo H.length r)(hR:R r (so H n s')):Fin (so H n s) (so (H++j) n s') R r:=mM hn rfl (PS.clo hn s') hc hR
theorem cT{H:Heap}{n:Nat}{s s':PS}{R:AVal→Heap→Prop}{r:AVal}(hn:n+9≤H.length)(hc:Clo H.length r)(hR:R r (so H n s')):Fin (so H n s) (so H n s') R r:=xx hn rfl (PS.clo hn s') hc hR
end Go.Av
namespace Go.Av
open Go Go.Proofs Go.RowKit Go.ChangeShapes Go.WideShapes
section
variable {H:Type} {enc:TypeId×Value→H} {W:World}
theorem sY:Kids Tryz.prog (· < Tryz.prog.types.size):=kids_rows (by kernel_rfl) (by kernel_rfl)
theorem sZ:∀t e,t<Tryz.prog.types.size→Tryz.prog.underlying t=some (.slice e)→0<Tryz.prog.cellsOf e:=slices_full_of Tryz.prog (by kernel_rfl)
def fieldsOk(P:Program)(t:TypeId)(fs:List TypeId):Bool:=match P.underlying t with
 |some (.struct gs)=>decide (gs.toList.map (·.type)=fs)&&decide (P.cellsOf t=fs.length)&&(gs.toList.zipIdx.all fun(f,i)=>f.offset==i&&P.cellsOf f.type==1)
 |_=>false
theorem mc{P:Program}{t:TypeId}{fs:List TypeId}(h:fieldsOk P t fs=true):∃gs:Array Field,P.underlying t=some (.struct gs)∧gs.size=fs.length∧P.cellsOf t=gs.size∧
  (∀(j:Nat) (f:Field),gs[j]? =some f→f.offset=j∧P.cellsOf f.type=1)∧∀(j:Nat) (T:TypeId),fs[j]? =some T→∃f,gs[j]? =some f∧f.type=T:=by
 unfold fieldsOk at h;split at h
 ·rename_i gs hg;simp only[L6,M1,O9]at h;obtain⟨⟨h1,h2⟩,h3⟩:=h;have hl:gs.size=fs.length:=by rw[← h1];simp
  refine⟨gs,hg,hl,by omega,fun j f hj=>?_,fun j T hT=>?_⟩
  ·have hm:(f,j)∈gs.toList.zipIdx:=List.mem_zipIdx_iff_getElem?.2 (by simpa using hj);have:=h3 _ hm;simpa using this
  ·rw[← h1,N8]at hT;obtain⟨f,hf,rfl⟩:=N2.1 hT;exact⟨f,by simpa using hf,rfl⟩
 ·cases h
theorem lB{P:Program}{n:Nat}{t:TypeId}{fs:List TypeId}(hf:fieldsOk P t fs=true){cs:List Value}{x:DataW H×List MemPlace}(h:DataW.trod enc P W 0 (fun _=>true) true n t cs=some x):
  ∃(ds:List (DataW H)) (n':Nat),n=n'+1∧x.1=.agg ds∧cs.length=fs.length∧ds.length=fs.length∧∀(j:Nat) (T:TypeId),fs[j]? =some T→∃y,ds[j]? =some y.1∧DataW.trod enc P W 0 (fun _=>true) true n' T [cs.getD j undef]=some y:=by
 obtain⟨gs,h1,h2,h3,h4,h5⟩:=mc hf;obtain⟨xs,n',k1,k2,k3,k4,k5⟩:=sU h1 h3 h4 h;refine⟨_,n',k1,k2,by omega,by simp;omega,fun j T hT=>?_⟩;obtain⟨f,hf1,rfl⟩:=h5 j T hT;obtain⟨y,hy,hy2⟩:=k5 j f hf1;exact⟨y,by simp[hy],hy2⟩
theorem bF{P:Program}{n:Nat}{T:TypeId}{α:Type}{mk:α→AVal}{sz:α→Nat}(hr:Rd H enc P W n T (fun a=>[mk a]) sz){v:Value}{y:DataW H×List MemPlace}(h:DataW.trod enc P W 0 (fun _=>true) true n T [v]=some y):
  ∃a:α,(mk a).sto=true∧Rep W (lies0 W) [] (mk a) v∧sz a≤Go.Proofs.YtmfhelaoeaifeaaGreatDoor.Rows.uptoBulk y.1:=by
 obtain⟨a,_,h2,h3⟩:=hr _ _ h;have:=h2 0 (mk a) rfl;exact⟨a,this.1,by simpa using this.2,h3⟩
theorem C6(n:Nat):Rd H enc Tryz.prog W n 62 (fun e:Ev=>e.av.cells) (fun _=>0):=fun cs x h=>by
 obtain⟨ds,n',rfl,hx,hcl,hdl,hf⟩:=lB (fs:=[3,3,3,3,9,9,9]) (by kernel_rfl) h;obtain⟨y0,d0,t0⟩:=hf 0 _ rfl;obtain⟨y1,d1,t1⟩:=hf 1 _ rfl;obtain⟨y2,d2,t2⟩:=hf 2 _ rfl;obtain⟨y3,d3,t3⟩:=hf 3 _ rfl;obtain⟨y4,d4,t4⟩:=hf 4 _ rfl;obtain⟨y5,d5,t5⟩:=hf 5 _ rfl;obtain⟨y6,d6,t6⟩:=hf 6 _ rfl;obtain⟨a0,s0,r0,_⟩:=bF (mk:=fun i: {i:Int//(Lit.int .i64 i).wf=true}=>.int .i64 i.1) (eS (by kernel_rfl)) t0;obtain⟨a1,s1,r1,_⟩:=bF (mk:=fun i: {i:Int//(Lit.int .i64 i).wf=true}=>.int .i64 i.1) (eS (by kernel_rfl)) t1;obtain⟨a2,s2,r2,_⟩:=bF (mk:=fun i: {i:Int//(Lit.int .i64 i).wf=true}=>.int .i64 i.1) (eS (by kernel_rfl)) t2;obtain⟨a3,s3,r3,_⟩:=bF (mk:=fun i: {i:Int//(Lit.int .i64 i).wf=true}=>.int .i64 i.1) (eS (by kernel_rfl)) t3;obtain⟨a4,s4,r4,_⟩:=bF (mk:=fun s:Bs=>.str s) (mF (by kernel_rfl)) t4;obtain⟨a5,s5,r5,_⟩:=bF (mk:=fun s:Bs=>.str s) (mF (by kernel_rfl)) t5;obtain⟨a6,s6,r6,_⟩:=bF (mk:=fun s:Bs=>.str s) (mF (by kernel_rfl)) t6;refine⟨⟨a0.1,a1.1,a2.1,a3.1,a4,a5,a6⟩,by rw[hcl];rfl,fun j c hj=>?_,X1 _⟩
 match j with
 |0=>simp[Ev.av,AVal.cells]at hj;subst hj;exact⟨s0,r0⟩
 |1=>simp[Ev.av,AVal.cells]at hj;subst hj;exact⟨s1,r1⟩
 |2=>simp[Ev.av,AVal.cells]at hj;subst hj;exact⟨s2,r2⟩
 |3=>simp[Ev.av,AVal.cells]at hj;subst hj;exact⟨s3,r3⟩
 |4=>simp[Ev.av,AVal.cells]at hj;subst hj;exact⟨s4,r4⟩
 |5=>simp[Ev.av,AVal.cells]at hj;subst hj;exact⟨s5,r5⟩
 |6=>simp[Ev.av,AVal.cells]at hj;subst hj;exact⟨s6,r6⟩
 |j+7=>simp[Ev.av,AVal.cells]at hj
theorem o0{v:Value}{d:DataW H}{ps:List MemPlace}{r:Reach}{b0:Nat}(hval:Value.okWide Tryz.prog W r b0 22 v)(h:DataW.Trod enc Tryz.prog W 0 (fun _=>true) true 22 v d ps):∃es:List Ev,Rep W (lies0 W) [] (.sl 7 (es.map Ev.av)) v:=by
 obtain⟨n,hn⟩:=h;obtain⟨l,h1,h2,_⟩:=mG (m:=7) (e:=62) Ev.av (by kernel_rfl) (by kernel_rfl) (by decide) (fun _=>rfl) (fun _=>rfl) (fun k _=>C6 k) _ _ hn;refine⟨l,?_⟩;have h4:=(h2 0 _ rfl).2;have hcs:v.cells.toList=[v]:=by
  have hu:Tryz.prog.underlying 22=some (.slice 62):=by kernel_rfl
  cases v with
  |agg a=>simp[Value.okWide,hu,Cell.okWide,Cell.ok]at hval
  |_=>rfl
 rw[hcs]at h4;simpa using h4
end
theorem vk:ownKnob Tryz.prog.godebug=none:=by kernel_rfl
end Go.Av
namespace Go.Av
open Go Go.Proofs Go.RowKit
section
variable {P:Program}
end
structure Ky where
 d:Int
 i:Int
 f:Int
def Ky.av(k:Ky):AVal:=.agg [.int .i64 k.d,.int .i64 k.i,.int .i64 k.f]
def It.ky(t:It):Ky:=⟨t.date,t.id,t.feed⟩
def ahd(a b:Ky):Bool:=decide (b.d<a.d)||(decide (a.d=b.d)&&decide (a.i<b.i))
theorem eC{a b:Ky}:ahd a b=true↔b.d<a.d∨(a.d=b.d∧a.i<b.i):=by simp[ahd]
theorem iu{a b:Ky}:ahd a b=false↔¬(b.d<a.d∨(a.d=b.d∧a.i<b.i)):=by rw[← eC];simp
theorem i5{a b c:Ky}(h:ahd a b=true)(k:ahd b c=true):ahd a c=true:=by
 rw[eC]at *;omega
theorem p4(a:Ky):ahd a a=false:=by rw[iu];omega
theorem kM{a b:Ky}(h:a.i≠b.i)(k:ahd a b=false):ahd b a=true:=by
 rw[iu]at k;rw[eC];omega
theorem p5{a b:Ky}(h:ahd a b=true):ahd b a=false:=by
 rw[eC]at h;rw[iu];omega
def Sk(l:List Ky):Prop:=l.Pairwise fun a b=>ahd a b=true
def pst:List Ky→Ky→Nat
 | [],_=>0
 |x::l,k=>if ahd k x then 0 else pst l k+1
theorem t7(l:List Ky)(k:Ky):pst l k≤l.length:=by
 induction l with
 |nil=>exact M4 _
 |cons x l ih=>unfold pst;split<;>simp<;>omega
theorem t8{l:List Ky}(hs:Sk l){k x:Ky}{j:Nat}(hj:l[j]? =some x):ahd k x=true↔pst l k≤j:=by
 induction l generalizing j with
 |nil=>simp at hj
 |cons y l ih=>
  obtain⟨h1,h2⟩:=U3.1 hs
  match j with
  |0=>
   simp at hj;subst hj;unfold pst;cases ha:ahd k y<;>simp
  |j+1=>
   simp at hj;unfold pst;cases ha:ahd k y with
   |true=>
    simp only[if_true,X1,iff_true];exact i5 ha (h1 x (M7 hj))
   |false=>
    simp only[O5,if_false];rw[ih h2 hj];omega
def insK(l:List Ky)(k:Ky):List Ky:=l.take (pst l k)++k::l.drop (pst l k)
theorem mP{l:List Ky}{k x:Ky}:x∈insK l k↔x=k∨x∈l:=by
 unfold insK;have e:x∈l↔x∈l.take (pst l k)∨x∈l.drop (pst l k):=by rw[← S5,za5]
 rw[S5,M6,e];constructor<;>rintro(h|h|h)<;>simp[h]
theorem vl(l:List Ky)(k:Ky):(insK l k).length=l.length+1:=by
 have:=t7 l k;simp[insK];omega
theorem vm{l:List Ky}(hs:Sk l){k:Ky}(hn:∀x∈l,x.i≠k.i):Sk (insK l k):=by
 unfold insK Sk;rw[List.pairwise_append];have hle:=t7 l k;have hlo:∀x∈l.take (pst l k),ahd x k=true:=fun x hx=>by
  obtain⟨j,hj⟩:=Q5 hx;have hlt:=(f9.1 hj).1;rw[O6]at hlt;rw[N4 (by omega)]at hj;have:ahd k x=false:=by
   rw[Bool.eq_false_iff];intro h;rw[t8 hs hj]at h;omega
  exact kM (fun e=>hn x (M7 hj) e.symm) this
 have hhi:∀x∈l.drop (pst l k),ahd k x=true:=fun x hx=>by
  obtain⟨j,hj⟩:=Q5 hx;rw[P9]at hj;rw[t8 hs hj];omega
 refine⟨hs.sublist (List.take_sublist _ _),U3.2 ⟨hhi,hs.sublist (List.drop_sublist _ _)⟩,fun a ha b hb=>?_⟩;rcases M6.1 hb with rfl|hb
 ·exact hlo a ha
 ·exact i5 (hlo a ha) (hhi b hb)
theorem Sk.nd{l:List Ky}(h:Sk l):l.Nodup:=h.imp fun hab e=>by rw[e,p4]at hab;cases hab
theorem Sk.uniq{l L:List Ky}(h:Sk l)(k:Sk L)(hm:∀x,x∈l↔x∈L):l=L:=
 List.Perm.eq_of_pairwise (fun a b _ _ h1 h2=>by rw[p5 h1]at h2;cases h2) h k ((za4 h.nd k.nd).2 hm)
def pos27:List Ky→Ky→Nat
 | [],_=>0
 |x::l,k=>if ahd x k then pos27 l k+1 else 0
theorem mQ{l:List Ky}{k:Ky}(hn:∀x∈l,x.i≠k.i):pos27 l k=pst l k:=by
 induction l with
 |nil=>rfl
 |cons x l ih=>
  unfold pos27 pst;cases h:ahd x k with
  |true=>rw[p5 h,ih fun y hy=>hn y (by simp[hy])];simp
  |false=>rw[kM (hn x (by simp)) h];simp
def srtK(l:List Ky):List Ky:=l.foldl insK []
theorem xd{l acc:List Ky}(hs:Sk acc)(hd:(l.map (·.i)).Nodup)(hx:∀x∈acc,∀y∈l,x.i≠y.i):Sk (l.foldl insK acc)∧∀x,x∈l.foldl insK acc↔x∈acc∨x∈l:=by
 induction l generalizing acc with
 |nil=>exact⟨hs,fun x=>by simp⟩
 |cons y l ih=>
  rw[N9,U6]at hd;have hy:∀x∈acc,x.i≠y.i:=fun x h=>hx x h y (by simp)
  obtain⟨h1,h2⟩:=ih (vm hs hy) hd.2 fun x hxm z hz=>by
   rcases mP.1 hxm with rfl|hxm
   ·exact fun e=>hd.1 (by rw[e];exact List.mem_map_of_mem hz)
   ·exact hx x hxm z (by simp[hz])
  refine⟨h1,fun x=>?_⟩;rw[zb1,h2,mP,M6];constructor
  ·rintro((h|h)|h)<;>simp[h]
  ·rintro(h|h|h)<;>simp[h]
theorem jd{l:List Ky}(hd:(l.map (·.i)).Nodup):Sk (srtK l):=(xd .nil hd (by simp)).1
theorem je{l:List Ky}(hd:(l.map (·.i)).Nodup)(x:Ky):x∈srtK l↔x∈l:=by
 unfold srtK;have:=(xd (acc:=[]) .nil hd (by simp)).2 x;simpa using this
end Go.Av
namespace Go.Av
open Go Go.Proofs Go.RowKit
attribute [local irreducible] WP WPl WPix Sat
def cmpF(a b:Int):Int:=if a<b then-1 else if b<a then 1 else 0
def orI(a b:Int):Int:=if a=0 then b else a
variable (G:Nat→Option (List AVal))
theorem jN(a:Int)(h:Heap):Sat (CT G) 147 [.int .i64 a] h (fun r h'=>r=.bool false∧h'=h):=by
 have e:(a !=a)=false:=by simp
 have F:=e;refine sb [.tmp 2] Tryz.func147 ?_;intro Q hQ;refine wk F ?_;refine ee hQ F ?_;exact P2 (.bool _) ⟨by simp,rfl⟩
theorem iS(a b:Int)(h:Heap):Sat (CT G) 96 [.int .i64 a,.int .i64 b] h (fun r h'=>r=.int .i64 (cmpF a b)∧h'=h):=by
 unfold cmpF;refine sb [.tmp 4] Tryz.func96 ?_;intro Q hQ;refine wk trivial ?_;refine kq trivial (jN G a _) ?_;refine kq trivial (jN G b _) ?_;refine cq trivial (fun c1=>?_) (fun c1=>?_)<;>(try exact c1.elim)<;>(refine wk trivial ?_)
 ·refine ee hQ trivial ?_;exact P2 (.int _ _) ⟨by rw[M0 c1],rfl⟩
 ·refine cq trivial (fun c2=>?_) (fun c2=>?_)<;>(try exact c2.elim)<;>(refine wk trivial ?_)
  ·refine ee hQ trivial ?_;exact P2 (.int _ _) ⟨by rw[L5 (by omega),M0 (by omega)],rfl⟩
  ·refine ee hQ trivial ?_;exact P2 (.int _ _) ⟨by rw[L5 (by omega),L5 (by omega)],rfl⟩
theorem xz(a b:Int)(h:Heap):Sat (CT G) 95 [.sl 1 [.int .i64 a,.int .i64 b]] h (fun r h'=>r=.int .i64 (orI a b)∧h'=h):=by
 unfold orI;refine sb [.tmp 2] Tryz.func95 ?_;intro Q hQ;refine wk trivial ?_;refine lm (fun nL tL hL=>∃(k:Nat),2-k=nL∧h=hL∧tL 8=.int .i64 k∧k≤2∧(1≤k→a=0)∧(2≤k→b=0)) ((fun(k:Nat)=>(2-k:Nat)) (0)) ?_ ?_
 ·refine M2 ⟨0,rfl,aB,?_,by omega,fun h=>by omega,fun h=>by omega⟩;all_goals try exact zZz trivial
 rintro _ s2 h' ⟨k,rfl,rfl,e8,hk,h0,h1⟩ K2 hK2;simp only[af,ao,Nat.reduceEqDiff, ↓reduceIte]at e8;have F:=e8;refine wk F ?_;refine cq F (fun c1=>?_) (fun c1=>?_)<;>(try exact c1.elim)<;>(refine wk F ?_)
 ·obtain⟨y,hy,hyv⟩:∃y:Int,([.int .i64 a,.int .i64 b]:List AVal)[k]? =some (.int .i64 y)∧((k=0∧y=a)∨(k=1∧y=b)):=by
   match k,c1 with
   |0,_=>exact⟨a,rfl,.inl ⟨rfl,rfl⟩⟩
   |1,_=>exact⟨b,rfl,.inr ⟨rfl,rfl⟩⟩
   |k+2,c1=>exfalso;omega
  have F:=F2 F hy;try refine sq F ?_
  refine wk F ?_;refine cq F (fun c2=>?_) (fun c2=>?_)<;>(try exact c2.elim)<;>(refine wk F ?_)
  ·refine ee hQ F ?_;refine P2 (.int _ _) ⟨?_,rfl⟩;rcases hyv with⟨rfl,rfl⟩| ⟨rfl,rfl⟩
   ·rw[L5 c2]
   ·rw[M0 (h0 (by omega))]
  ·have n0:1≤k+1→a=0:=fun h=>by
    rcases hyv with⟨rfl,rfl⟩| ⟨rfl,rfl⟩
    ·exact c2
    ·exact h0 (by omega)
   have n1:2≤k+1→b=0:=fun h=>by
    rcases hyv with⟨rfl,rfl⟩| ⟨rfl,rfl⟩
    ·omega
    ·exact c2
   refine hK2 _ _ _ (M2 ⟨k+1,rfl,aB,?_,by omega,n0,n1⟩) (by omega);all_goals try exact zZz F
 ·refine ee hQ F ?_;refine P2 (.int _ _) ⟨?_,rfl⟩;rw[M0 (h0 (by omega)),h1 (by omega)]
theorem ta(a b:It)(h:Heap):Sat (CT G) 53 [a.av,b.av] h (fun r h'=>r=.int .i64 (orI (cmpF b.date a.date) (cmpF a.id b.id))∧h'=h):=by
 refine sb [.tmp 4] Tryz.func53 ?_;intro Q hQ;refine wk trivial ?_;refine aE (iS G b.date a.date _) ?_;try refine sq trivial ?_
 refine wk trivial ?_;refine aE (iS G a.id b.id _) ?_;try refine sq trivial ?_
 refine wk trivial ?_;refine aE (xz G _ _ _) ?_;try refine sq trivial ?_
 refine wk trivial ?_;refine ee hQ trivial ?_;exact L7 (.int _ _) ⟨rfl,rfl⟩
theorem xA(a b:It):decide (orI (cmpF b.date a.date) (cmpF a.id b.id)<0)=ahd a.ky b.ky:=by
 rw[P5,eC,M1];unfold orI cmpF It.ky;simp only;split<;>rename_i h<;>repeat' split at h
 all_goals first|omega|skip
 all_goals split<;>first|omega| (split<;>omega)
theorem td(a b:It)(h:Heap):Sat (CT G) 29 [a.av,b.av] h (fun r h'=>r=.bool (ahd a.ky b.ky)∧h'=h):=by
 refine sb [.tmp 4] Tryz.func29 ?_;intro Q hQ;refine wk trivial ?_;refine kq trivial (ta G a b _) ?_;refine ee hQ trivial ?_;exact L7 (.bool _) ⟨by rw[← xA],rfl⟩
theorem tf(d i:Int):Wk (.agg [.int .i64 i,.int .i64 0,.int .i64 d,.str [],.str [],.str [],.bool false,.bool false,.nil (.slice none 0 0)]) (It.mk i 0 d [] [] [] false false []).av:=by
 refine Wk.agg rfl (fun y hy=>by simp only[M6,P7,or_false]at hy;rcases hy with rfl|rfl|rfl|rfl|rfl|rfl|rfl|rfl|rfl<;>rfl) fun j x y hx hy=>?_
 match j with
 |0|1|2|3|4|5|6|7=>simp at hx hy;subst hx;subst hy;exact Wk.refl _
 |8=>simp at hx hy;subst hx;subst hy;exact Wk.nils _
 |j+9=>simp at hx
theorem qq(d i e j:Int)(h:Heap):Sat (CT G) 29 [.agg [.int .i64 i,.int .i64 0,.int .i64 d,.str [],.str [],.str [],.bool false,.bool false,.nil (.slice none 0 0)],.agg [.int .i64 j,.int .i64 0,.int .i64 e,.str [],.str [],.str [],.bool false,.bool false,.nil (.slice none 0 0)]] h (fun r h'=>r=.bool (ahd ⟨d,i,0⟩ ⟨e,j,0⟩)∧h'=h):=by
 refine Sat.wk (ys:=[(It.mk i 0 d [] [] [] false false []).av,(It.mk j 0 e [] [] [] false false []).av]) rfl (fun k x y hx hy=>?_) (td G (It.mk i 0 d [] [] [] false false []) (It.mk j 0 e [] [] [] false false []) h)
 match k with
 |0=>simp at hx hy;subst hx;subst hy;exact tf d i
 |1=>simp at hx hy;subst hx;subst hy;exact tf e j
 |k+2=>simp at hx
end Go.Av
namespace Go.Av
open Go Go.Proofs Go.RowKit
attribute [local irreducible] WP WPl WPix Sat
def vb(n v:Nat)(l:List Ky):List Blk:=[.row 0 1 0 [.agg [.hs (n+1) v 0 l.length true]],.row 0 3 v (l.map Ky.av)]
def vo(H:Heap)(n v:Nat)(l:List Ky):Heap:=ov H n (vb n v l)
section
variable {H:Heap} {n v:Nat} {l:List Ky}
end
variable (G:Nat→Option (List AVal))
end Go.Av
namespace Go.Av
open Go Go.RowKit
attribute [local irreducible] WP WPl WPix Sat
structure FrzR (h:Heap) (n:Nat) (r s:AVal):Prop where
 all:Frz h n r s
 len:r.cells.length=s.cells.length
 sto:∀d∈s.cells,d.sto=true
 cell:∀(j:Nat) (c d:AVal),r.cells[j]? =some c→s.cells[j]? =some d→Frz h n c d
theorem Frz.rows{h:Heap}{n q v e m:Nat}{rows es:List AVal}{len:Nat}{room:Bool}(hq:n≤q)(hg:getRow h q v=some (e,m,rows))(hlen:len=rows.length)(hl:es.length=rows.length)
  (hp:∀(i:Nat) (r s:AVal),rows[i]? =some r→es[i]? =some s→FrzR h n r s):Frz h n (.hs q v 0 len room) (.sl m es):=by
 subst hlen;have:=Frz.hs (h:=h) (n:=n) q v 0 rows.length room e m rows es hq hg (by omega) hl (fun i r s hr hs=>(hp i r s hr hs).all)
  (fun i r s hr hs=>⟨(hp i r s hr hs).len,fun j c d _ hd=>(hp i r s hr hs).sto d (M7 hd)⟩) (fun i r s j c d hr hs hc hd=>(hp i r s hr hs).cell j c d hc hd)
 rw[za7, ← hl,X8]at this;rw[← hl];exact this
theorem FrzR.clo{h:Heap}{n:Nat}{r:AVal}(hc:Clo n r)(hs:∀d∈r.cells,d.sto=true):FrzR h n r r:=
 ⟨.clo _ hc,rfl,hs,fun j c d h1 h2=>by rw[h1]at h2;cases h2;exact .clo _ (hc.cells c (M7 h1))⟩
theorem FrzR.agg{h:Heap}{n:Nat}{cs ds:List AVal}(hl:cs.length=ds.length)(hs:∀d∈ds,d.sto=true)(hc:∀(i:Nat) (c d:AVal),cs[i]? =some c→ds[i]? =some d→Frz h n c d):FrzR h n (.agg cs) (.agg ds):=
 ⟨.agg _ _ hl hs hc,hl,hs,hc⟩
inductive FrzL (h:Heap) (n:Nat):List AVal→List AVal→Prop
 |nil:FrzL h n [] []
 |cons {c d:AVal} {cs ds:List AVal}:Frz h n c d→FrzL h n cs ds→FrzL h n (c::cs) (d::ds)
theorem FrzL.len{h:Heap}{n:Nat}{cs ds:List AVal}(z:FrzL h n cs ds):cs.length=ds.length:=by induction z with|nil=>rfl|cons _ _ ih=>simp[ih]
theorem FrzL.at_{h:Heap}{n:Nat}{cs ds:List AVal}(z:FrzL h n cs ds):∀(i:Nat) (c d:AVal),cs[i]? =some c→ds[i]? =some d→Frz h n c d:=by
 induction z with
 |nil=>intro i c d h1;simp at h1
 |cons z _ ih=>
  intro i c d h1 h2
  match i with
  |0=>simp at h1 h2;subst h1;subst h2;exact z
  |i+1=>exact ih i c d (by simpa using h1) (by simpa using h2)
theorem FrzL.agg{h:Heap}{n:Nat}{cs ds:List AVal}(z:FrzL h n cs ds)(hs:ds.all AVal.sto=true):Frz h n (.agg cs) (.agg ds):=.agg _ _ z.len (O9.1 hs) z.at_
theorem FrzL.tup{h:Heap}{n:Nat}{cs ds:List AVal}(z:FrzL h n cs ds):Frz h n (.tup cs) (.tup ds):=.tup _ _ z.len z.at_
theorem FrzL.row{h:Heap}{n:Nat}{cs ds:List AVal}(z:FrzL h n cs ds)(hs:ds.all AVal.sto=true):FrzR h n (.agg cs) (.agg ds):=.agg z.len (O9.1 hs) z.at_
inductive FrzRs (h:Heap) (n:Nat):List AVal→List AVal→Prop
 |nil:FrzRs h n [] []
 |cons {c d:AVal} {cs ds:List AVal}:FrzR h n c d→FrzRs h n cs ds→FrzRs h n (c::cs) (d::ds)
theorem FrzRs.len{h:Heap}{n:Nat}{cs ds:List AVal}(z:FrzRs h n cs ds):cs.length=ds.length:=by induction z with|nil=>rfl|cons _ _ ih=>simp[ih]
theorem FrzRs.at_{h:Heap}{n:Nat}{cs ds:List AVal}(z:FrzRs h n cs ds):∀(i:Nat) (c d:AVal),cs[i]? =some c→ds[i]? =some d→FrzR h n c d:=by
 induction z with
 |nil=>intro i c d h1;simp at h1
 |cons z _ ih=>
  intro i c d h1 h2
  match i with
  |0=>simp at h1 h2;subst h1;subst h2;exact z
  |i+1=>exact ih i c d (by simpa using h1) (by simpa using h2)
theorem FrzRs.hs{h:Heap}{n q v e m:Nat}{rows es:List AVal}{len:Nat}{room:Bool}(hg:getRow h q v=some (e,m,rows))(hlen:len=rows.length)(hq:n≤q)(z:FrzRs h n rows es):Frz h n (.hs q v 0 len room) (.sl m es):=
 Frz.rows hq hg hlen z.len.symm z.at_
theorem Frz.data{h:Heap}{n q v e m:Nat}{rows:List AVal}{len:Nat}{room:Bool}(hq:n≤q)(hg:getRow h q v=some (e,m,rows))(hlen:len=rows.length)(hc:∀r∈rows,Clo n r)(hs:∀r∈rows,∀c∈r.cells,c.sto=true):Frz h n (.hs q v 0 len room) (.sl m rows):=
 Frz.rows hq hg hlen rfl fun i r s hr hs'=>by rw[hr]at hs';cases hs';exact FrzR.clo (hc r (M7 hr)) (hs r (M7 hr))
end Go.Av
namespace Go.Av
open Go Go.Proofs Go.RowKit
attribute [local irreducible] WP WPl WPix Sat
variable (G:Nat→Option (List AVal))
section
variable {l:List Ky} {H:Heap} {n v:Nat}
end
section
variable {l:List Ky} {H:Heap} {n v:Nat}
theorem qr{P:Program}{h:Heap}{T e e' n p ver off len i:Nat}{rows:List AVal}{k:IntKind}(he:elmT P T=some e)(hn:szOf P e=some n)(hr:getRow h p ver=some (e',n,rows))(hi:i<len):aslice P h T (.hs p ver off len true) (some (.int k (i:Int))) none none=some (.hs p ver (off+i) (len-i) true):=by
 simp only[aslice,he,hr,hn,optInt,if_true];rw[M0 ⟨by omega,by omega,by omega,by omega⟩];simp
theorem qt{P:Program}{h:Heap}{T e e' n p ver off len i:Nat}{rows:List AVal}{k:IntKind}(he:elmT P T=some e)(hn:szOf P e=some n)(hr:getRow h p ver=some (e',n,rows))(hi:i≤len):aslice P h T (.hs p ver off len true) none (some (.int k (i:Int))) none=some (.hs p ver off i true):=by
 simp only[aslice,he,hr,hn,optInt,if_true];rw[M0 ⟨by omega,by omega,by omega,by simp⟩];simp
end
end Go.Av
namespace Go.Proofs
open Go.Shelf
def Tryz.keys84_ren:Go.Shelf.Ren:=⟨fun|7=>84|10=>136|n=>n,fun|23=>77|26=>3|3=>90|28=>129|0=>0|27=>128|33=>150|4=>4|n=>n,fun|n=>n⟩
theorem Tryz.keys84:Go.Proofs.SlLaysZI.n7 Tryz.prog Tryz.keys84_ren:= {
 mixed:=by kernel_rfl
 f7:=⟨Tryz.f84.name,by decide,Tryz.func84.trans (P0 some (by kernel_rfl))⟩
 f10:=⟨Tryz.f136.name,by decide,Tryz.func136.trans (P0 some (by kernel_rfl))⟩
 t0:=Tryz.underlying0
 a0:=Tryz.isAgg0
 z0:=Tryz.sizeOf0
 v0:=Tryz.zeroValue0
 t4:=Tryz.underlying4
 a4:=Tryz.isAgg4
 z4:=Tryz.sizeOf4
 v4:=Tryz.zeroValue4
 t23:=Tryz.underlying77
 a23:=Tryz.isAgg77
 z23:=Tryz.sizeOf77
 v23:=Tryz.zeroValue77
 t26:=Tryz.underlying3
 a26:=Tryz.isAgg3
 z26:=Tryz.sizeOf3
 v26:=Tryz.zeroValue3
 t27:=Tryz.underlying128
 a27:=Tryz.isAgg128
 z27:=Tryz.sizeOf128
 v27:=Tryz.zeroValue128
 t28:=Tryz.underlying129
 a28:=Tryz.isAgg129
 z28:=Tryz.sizeOf129
 v28:=Tryz.zeroValue129
 t33:=Tryz.underlying150
 a33:=Tryz.isAgg150
 z33:=Tryz.sizeOf150
 v33:=Tryz.zeroValue150}
def Tryz.keys85_ren:Go.Shelf.Ren:=⟨fun|7=>85|10=>137|n=>n,fun|23=>78|26=>3|3=>93|28=>129|0=>0|27=>128|33=>150|4=>4|n=>n,fun|n=>n⟩
theorem Tryz.keys85:Go.Proofs.SlLaysZI.n7 Tryz.prog Tryz.keys85_ren:= {
 mixed:=by kernel_rfl
 f7:=⟨Tryz.f85.name,by decide,Tryz.func85.trans (P0 some (by kernel_rfl))⟩
 f10:=⟨Tryz.f137.name,by decide,Tryz.func137.trans (P0 some (by kernel_rfl))⟩
 t0:=Tryz.underlying0
 a0:=Tryz.isAgg0
 z0:=Tryz.sizeOf0
 v0:=Tryz.zeroValue0
 t4:=Tryz.underlying4
 a4:=Tryz.isAgg4
 z4:=Tryz.sizeOf4
 v4:=Tryz.zeroValue4
 t23:=Tryz.underlying78
 a23:=Tryz.isAgg78
 z23:=Tryz.sizeOf78
 v23:=Tryz.zeroValue78
 t26:=Tryz.underlying3
 a26:=Tryz.isAgg3
 z26:=Tryz.sizeOf3
 v26:=Tryz.zeroValue3
 t27:=Tryz.underlying128
 a27:=Tryz.isAgg128
 z27:=Tryz.sizeOf128
 v27:=Tryz.zeroValue128
 t28:=Tryz.underlying129
 a28:=Tryz.isAgg129
 z28:=Tryz.sizeOf129
 v28:=Tryz.zeroValue129
 t33:=Tryz.underlying150
 a33:=Tryz.isAgg150
 z33:=Tryz.sizeOf150
 v33:=Tryz.zeroValue150}
def Tryz.keys86_ren:Go.Shelf.Ren:=⟨fun|7=>86|10=>138|n=>n,fun|23=>79|26=>3|3=>49|28=>129|0=>0|27=>128|33=>150|4=>4|n=>n,fun|n=>n⟩
theorem Tryz.keys86:Go.Proofs.SlLaysZI.n7 Tryz.prog Tryz.keys86_ren:= {
 mixed:=by kernel_rfl
 f7:=⟨Tryz.f86.name,by decide,Tryz.func86.trans (P0 some (by kernel_rfl))⟩
 f10:=⟨Tryz.f138.name,by decide,Tryz.func138.trans (P0 some (by kernel_rfl))⟩
 t0:=Tryz.underlying0
 a0:=Tryz.isAgg0
 z0:=Tryz.sizeOf0
 v0:=Tryz.zeroValue0
 t4:=Tryz.underlying4
 a4:=Tryz.isAgg4
 z4:=Tryz.sizeOf4
 v4:=Tryz.zeroValue4
 t23:=Tryz.underlying79
 a23:=Tryz.isAgg79
 z23:=Tryz.sizeOf79
 v23:=Tryz.zeroValue79
 t26:=Tryz.underlying3
 a26:=Tryz.isAgg3
 z26:=Tryz.sizeOf3
 v26:=Tryz.zeroValue3
 t27:=Tryz.underlying128
 a27:=Tryz.isAgg128
 z27:=Tryz.sizeOf128
 v27:=Tryz.zeroValue128
 t28:=Tryz.underlying129
 a28:=Tryz.isAgg129
 z28:=Tryz.sizeOf129
 v28:=Tryz.zeroValue129
 t33:=Tryz.underlying150
 a33:=Tryz.isAgg150
 z33:=Tryz.sizeOf150
 v33:=Tryz.zeroValue150}
def Tryz.keys87_ren:Go.Shelf.Ren:=⟨fun|7=>87|10=>139|n=>n,fun|23=>80|26=>3|3=>97|28=>129|0=>0|27=>128|33=>150|4=>4|n=>n,fun|n=>n⟩
theorem Tryz.keys87:Go.Proofs.SlLaysZI.n7 Tryz.prog Tryz.keys87_ren:= {
 mixed:=by kernel_rfl
 f7:=⟨Tryz.f87.name,by decide,Tryz.func87.trans (P0 some (by kernel_rfl))⟩
 f10:=⟨Tryz.f139.name,by decide,Tryz.func139.trans (P0 some (by kernel_rfl))⟩
 t0:=Tryz.underlying0
 a0:=Tryz.isAgg0
 z0:=Tryz.sizeOf0
 v0:=Tryz.zeroValue0
 t4:=Tryz.underlying4
 a4:=Tryz.isAgg4
 z4:=Tryz.sizeOf4
 v4:=Tryz.zeroValue4
 t23:=Tryz.underlying80
 a23:=Tryz.isAgg80
 z23:=Tryz.sizeOf80
 v23:=Tryz.zeroValue80
 t26:=Tryz.underlying3
 a26:=Tryz.isAgg3
 z26:=Tryz.sizeOf3
 v26:=Tryz.zeroValue3
 t27:=Tryz.underlying128
 a27:=Tryz.isAgg128
 z27:=Tryz.sizeOf128
 v27:=Tryz.zeroValue128
 t28:=Tryz.underlying129
 a28:=Tryz.isAgg129
 z28:=Tryz.sizeOf129
 v28:=Tryz.zeroValue129
 t33:=Tryz.underlying150
 a33:=Tryz.isAgg150
 z33:=Tryz.sizeOf150
 v33:=Tryz.zeroValue150}
def Tryz.sorted83_ren:Go.Shelf.Ren:=⟨fun|6=>83|8=>134|9=>135|11=>185|13=>121|12=>186|23=>169|24=>170|14=>222|15=>223|16=>224|17=>225|18=>226|19=>227|20=>228|21=>229|22=>230|25=>247|26=>205|27=>206|28=>248|29=>249|30=>147|31=>259|n=>n,fun|26=>3|28=>129|24=>38|0=>0|3=>3|37=>164|48=>198|50=>200|4=>4|40=>192|39=>191|45=>153|5=>5|9=>9|51=>215|55=>219|57=>240|58=>241|33=>150|n=>n,fun|n=>n⟩
theorem Tryz.sorted83:Go.Proofs.SlLaysZI.n6 Tryz.prog Tryz.sorted83_ren:= {
 mixed:=by kernel_rfl
 f6:=⟨Tryz.f83.name,by decide,Tryz.func83.trans (P0 some (by kernel_rfl))⟩
 f8:=⟨Tryz.f134.name,by decide,Tryz.func134.trans (P0 some (by kernel_rfl))⟩
 f11:=⟨Tryz.f185.name,by decide,Tryz.func185.trans (P0 some (by kernel_rfl))⟩
 t0:=Tryz.underlying0
 a0:=Tryz.isAgg0
 z0:=Tryz.sizeOf0
 v0:=Tryz.zeroValue0
 t24:=Tryz.underlying38
 a24:=Tryz.isAgg38
 z24:=Tryz.sizeOf38
 v24:=Tryz.zeroValue38
 t26:=Tryz.underlying3
 a26:=Tryz.isAgg3
 z26:=Tryz.sizeOf3
 v26:=Tryz.zeroValue3
 t28:=Tryz.underlying129
 a28:=Tryz.isAgg129
 z28:=Tryz.sizeOf129
 v28:=Tryz.zeroValue129
 i26:=by kernel_rfl}
def Tryz.sort135_ren:Go.Shelf.Ren:=⟨fun|5=>135|8=>121|7=>186|19=>169|20=>170|10=>222|11=>223|12=>224|13=>225|14=>226|15=>227|16=>228|17=>229|18=>230|30=>247|31=>205|32=>206|33=>248|34=>249|35=>147|40=>259|n=>n,fun|23=>38|25=>3|3=>3|32=>164|22=>38|0=>0|44=>198|46=>200|4=>4|36=>192|35=>191|41=>153|5=>5|9=>9|53=>215|57=>219|63=>240|64=>241|n=>n,fun|n=>n⟩
theorem Tryz.sort135:Go.Proofs.SlLaysM.n5 Tryz.prog Tryz.sort135_ren:= {
 mixed:=by kernel_rfl
 f5:=⟨Tryz.f135.name,by decide,Tryz.func135.trans (P0 some (by kernel_rfl))⟩
 f7:=⟨Tryz.f186.name,by decide,Tryz.func186.trans (P0 some (by kernel_rfl))⟩
 f8:=Tryz.func121.trans (P0 some (by kernel_rfl))
 f10:=⟨Tryz.f222.name,by decide,Tryz.func222.trans (P0 some (by kernel_rfl))⟩
 f11:=⟨Tryz.f223.name,by decide,Tryz.func223.trans (P0 some (by kernel_rfl))⟩
 f12:=⟨Tryz.f224.name,by decide,Tryz.func224.trans (P0 some (by kernel_rfl))⟩
 f13:=⟨Tryz.f225.name,by decide,Tryz.func225.trans (P0 some (by kernel_rfl))⟩
 f14:=⟨Tryz.f226.name,by decide,Tryz.func226.trans (P0 some (by kernel_rfl))⟩
 f15:=⟨Tryz.f227.name,by decide,Tryz.func227.trans (P0 some (by kernel_rfl))⟩
 f16:=⟨Tryz.f228.name,by decide,Tryz.func228.trans (P0 some (by kernel_rfl))⟩
 f17:=⟨Tryz.f229.name,by decide,Tryz.func229.trans (P0 some (by kernel_rfl))⟩
 f18:=⟨Tryz.f230.name,by decide,Tryz.func230.trans (P0 some (by kernel_rfl))⟩
 f19:=Tryz.func169.trans (P0 some (by kernel_rfl))
 f20:=Tryz.func170.trans (P0 some (by kernel_rfl))
 f30:=⟨Tryz.f247.name,by decide,Tryz.func247.trans (P0 some (by kernel_rfl))⟩
 f31:=Tryz.func205.trans (P0 some (by kernel_rfl))
 f32:=Tryz.func206.trans (P0 some (by kernel_rfl))
 f33:=⟨Tryz.f248.name,by decide,Tryz.func248.trans (P0 some (by kernel_rfl))⟩
 f34:=⟨Tryz.f249.name,by decide,Tryz.func249.trans (P0 some (by kernel_rfl))⟩
 f35:=⟨Tryz.f147.name,by decide,Tryz.func147.trans (P0 some (by kernel_rfl))⟩
 f40:=⟨Tryz.f259.name,by decide,Tryz.func259.trans (P0 some (by kernel_rfl))⟩
 t0:=Tryz.underlying0
 a0:=Tryz.isAgg0
 z0:=Tryz.sizeOf0
 v0:=Tryz.zeroValue0
 t3:=Tryz.underlying3
 a3:=Tryz.isAgg3
 z3:=Tryz.sizeOf3
 v3:=Tryz.zeroValue3
 t4:=Tryz.underlying4
 a4:=Tryz.isAgg4
 z4:=Tryz.sizeOf4
 v4:=Tryz.zeroValue4
 t5:=Tryz.underlying5
 a5:=Tryz.isAgg5
 z5:=Tryz.sizeOf5
 v5:=Tryz.zeroValue5
 t9:=Tryz.underlying9
 a9:=Tryz.isAgg9
 z9:=Tryz.sizeOf9
 v9:=Tryz.zeroValue9
 t22:=Tryz.underlying38
 a22:=Tryz.isAgg38
 z22:=Tryz.sizeOf38
 v22:=Tryz.zeroValue38
 t23:=Tryz.underlying38
 a23:=Tryz.isAgg38
 z23:=Tryz.sizeOf38
 v23:=Tryz.zeroValue38
 t25:=Tryz.underlying3
 a25:=Tryz.isAgg3
 z25:=Tryz.sizeOf3
 v25:=Tryz.zeroValue3
 t32:=Tryz.underlying164
 a32:=Tryz.isAgg164
 z32:=Tryz.sizeOf164
 v32:=Tryz.zeroValue164
 t35:=Tryz.underlying191
 a35:=Tryz.isAgg191
 z35:=Tryz.sizeOf191
 v35:=Tryz.zeroValue191
 t36:=Tryz.underlying192
 a36:=Tryz.isAgg192
 z36:=Tryz.sizeOf192
 v36:=Tryz.zeroValue192
 t41:=Tryz.underlying153
 a41:=Tryz.isAgg153
 z41:=Tryz.sizeOf153
 v41:=Tryz.zeroValue153
 t44:=Tryz.underlying198
 a44:=Tryz.isAgg198
 z44:=Tryz.sizeOf198
 v44:=Tryz.zeroValue198
 t46:=Tryz.underlying200
 a46:=Tryz.isAgg200
 z46:=Tryz.sizeOf200
 v46:=Tryz.zeroValue200
 t53:=Tryz.underlying215
 a53:=Tryz.isAgg215
 z53:=Tryz.sizeOf215
 v53:=Tryz.zeroValue215
 t57:=Tryz.underlying219
 a57:=Tryz.isAgg219
 z57:=Tryz.sizeOf219
 v57:=Tryz.zeroValue219
 t63:=Tryz.underlying240
 a63:=Tryz.isAgg240
 z63:=Tryz.sizeOf240
 v63:=Tryz.zeroValue240
 t64:=Tryz.underlying241
 a64:=Tryz.isAgg241
 z64:=Tryz.sizeOf241
 v64:=Tryz.zeroValue241}
open Go.RowKit Go.Maps Go.Sort in
theorem Tryz.sorts83(m:Nat):AnyZI.SortsIn Tryz.prog Tryz.sorted83_ren Fence.wide m:=
 ⟨fun blk off cap ss W hH hblk hsz=>callsIn_wide.2 (AnyM.slices_Sort_int Tryz.sort135 blk off cap ss W hH hblk hsz),
 fun p cap W=>callsIn_wide.2 (AnyM.slices_Sort_int_none Tryz.sort135 p cap W)⟩
open Go.RowKit Go.Maps Go.Sort in
theorem Tryz.sortedKeys84{H:Type}(Bm b nn:Nat)(D0:DataW H)(R:Value→Option (DataW H×List MemPlace))(w:World)(hBm:Bm<w.heap.size)(hm:w.cell? ⟨Bm,0,none⟩=some (.map (some b)))(hown:w.ownsMap Tryz.prog 3 R b nn D0)(hmax:Maps.size D0≤maxLen)(hbytes:Maps.size D0*8≤140737488355328):
  Calls Tryz.prog 83 #[.func (.func 136) #[] #[.pointer (some ⟨Bm,0,none⟩)]] w fun e w'=>∃(v:Value) (ss:List Int),e=.returned v∧ss.Perm (intKeys D0)∧
   w'.ownsRow w.heap.size 3 1 v ss.length ((ss.mergeSort (fun x y=>decide (x≤y))).map encZ)∧(v=.slice none 0 0↔ss=[])∧Below w.heap.size w w':=by
 refine(callsIn_wide (n:=5)).1 ?_;have hseq:SeqGives Fence.wide 2 Tryz.prog 136 #[.pointer (some ⟨Bm,0,none⟩)] encZ (fun ss=>ss.Perm (intKeys D0)) (Maps.size D0) w:=
  AnyZI.keys_gives (ρ:=Tryz.keys84_ren) {Tryz.keys84 with} Fence.wide _ trivial rfl (by omega) Bm b nn D0 w hBm hm hown
 exact AnyZI.sorted_in Tryz.sorted83 Fence.wide 5 trivial trivial trivial trivial rfl (by omega) (Tryz.sorts83 _) (enters_of Tryz.func135 (by kernel_rfl) rfl) 136 #[.pointer (some ⟨Bm,0,none⟩)] trivial (enters_of Tryz.func136 (by kernel_rfl) rfl) _ _ hmax hbytes _ hseq
open Go.RowKit Go.Maps Go.Sort in
theorem Tryz.sortedKeys85{H:Type}(Bm b nn:Nat)(D0:DataW H)(R:Value→Option (DataW H×List MemPlace))(w:World)(hBm:Bm<w.heap.size)(hm:w.cell? ⟨Bm,0,none⟩=some (.map (some b)))(hown:w.ownsMap Tryz.prog 3 R b nn D0)(hmax:Maps.size D0≤maxLen)(hbytes:Maps.size D0*8≤140737488355328):
  Calls Tryz.prog 83 #[.func (.func 137) #[] #[.pointer (some ⟨Bm,0,none⟩)]] w fun e w'=>∃(v:Value) (ss:List Int),e=.returned v∧ss.Perm (intKeys D0)∧
   w'.ownsRow w.heap.size 3 1 v ss.length ((ss.mergeSort (fun x y=>decide (x≤y))).map encZ)∧(v=.slice none 0 0↔ss=[])∧Below w.heap.size w w':=by
 refine(callsIn_wide (n:=5)).1 ?_;have hseq:SeqGives Fence.wide 2 Tryz.prog 137 #[.pointer (some ⟨Bm,0,none⟩)] encZ (fun ss=>ss.Perm (intKeys D0)) (Maps.size D0) w:=
  AnyZI.keys_gives (ρ:=Tryz.keys85_ren) {Tryz.keys85 with} Fence.wide _ trivial rfl (by omega) Bm b nn D0 w hBm hm hown
 exact AnyZI.sorted_in Tryz.sorted83 Fence.wide 5 trivial trivial trivial trivial rfl (by omega) (Tryz.sorts83 _) (enters_of Tryz.func135 (by kernel_rfl) rfl) 137 #[.pointer (some ⟨Bm,0,none⟩)] trivial (enters_of Tryz.func137 (by kernel_rfl) rfl) _ _ hmax hbytes _ hseq
open Go.RowKit Go.Maps Go.Sort in
theorem Tryz.sortedKeys86{H:Type}(Bm b nn:Nat)(D0:DataW H)(R:Value→Option (DataW H×List MemPlace))(w:World)(hBm:Bm<w.heap.size)(hm:w.cell? ⟨Bm,0,none⟩=some (.map (some b)))(hown:w.ownsMap Tryz.prog 3 R b nn D0)(hmax:Maps.size D0≤maxLen)(hbytes:Maps.size D0*8≤140737488355328):
  Calls Tryz.prog 83 #[.func (.func 138) #[] #[.pointer (some ⟨Bm,0,none⟩)]] w fun e w'=>∃(v:Value) (ss:List Int),e=.returned v∧ss.Perm (intKeys D0)∧
   w'.ownsRow w.heap.size 3 1 v ss.length ((ss.mergeSort (fun x y=>decide (x≤y))).map encZ)∧(v=.slice none 0 0↔ss=[])∧Below w.heap.size w w':=by
 refine(callsIn_wide (n:=5)).1 ?_;have hseq:SeqGives Fence.wide 2 Tryz.prog 138 #[.pointer (some ⟨Bm,0,none⟩)] encZ (fun ss=>ss.Perm (intKeys D0)) (Maps.size D0) w:=
  AnyZI.keys_gives (ρ:=Tryz.keys86_ren) {Tryz.keys86 with} Fence.wide _ trivial rfl (by omega) Bm b nn D0 w hBm hm hown
 exact AnyZI.sorted_in Tryz.sorted83 Fence.wide 5 trivial trivial trivial trivial rfl (by omega) (Tryz.sorts83 _) (enters_of Tryz.func135 (by kernel_rfl) rfl) 138 #[.pointer (some ⟨Bm,0,none⟩)] trivial (enters_of Tryz.func138 (by kernel_rfl) rfl) _ _ hmax hbytes _ hseq
open Go.RowKit Go.Maps Go.Sort in
theorem Tryz.sortedKeys87{H:Type}(Bm b nn:Nat)(D0:DataW H)(R:Value→Option (DataW H×List MemPlace))(w:World)(hBm:Bm<w.heap.size)(hm:w.cell? ⟨Bm,0,none⟩=some (.map (some b)))(hown:w.ownsMap Tryz.prog 3 R b nn D0)(hmax:Maps.size D0≤maxLen)(hbytes:Maps.size D0*8≤140737488355328):
  Calls Tryz.prog 83 #[.func (.func 139) #[] #[.pointer (some ⟨Bm,0,none⟩)]] w fun e w'=>∃(v:Value) (ss:List Int),e=.returned v∧ss.Perm (intKeys D0)∧
   w'.ownsRow w.heap.size 3 1 v ss.length ((ss.mergeSort (fun x y=>decide (x≤y))).map encZ)∧(v=.slice none 0 0↔ss=[])∧Below w.heap.size w w':=by
 refine(callsIn_wide (n:=5)).1 ?_;have hseq:SeqGives Fence.wide 2 Tryz.prog 139 #[.pointer (some ⟨Bm,0,none⟩)] encZ (fun ss=>ss.Perm (intKeys D0)) (Maps.size D0) w:=
  AnyZI.keys_gives (ρ:=Tryz.keys87_ren) {Tryz.keys87 with} Fence.wide _ trivial rfl (by omega) Bm b nn D0 w hBm hm hown
 exact AnyZI.sorted_in Tryz.sorted83 Fence.wide 5 trivial trivial trivial trivial rfl (by omega) (Tryz.sorts83 _) (enters_of Tryz.func135 (by kernel_rfl) rfl) 139 #[.pointer (some ⟨Bm,0,none⟩)] trivial (enters_of Tryz.func139 (by kernel_rfl) rfl) _ _ hmax hbytes _ hseq
def Tryz.lays2_22_ren:Go.Shelf.Ren:=⟨fun|22=>101|29=>151|30=>152|36=>201|17=>237|n=>n,fun|24=>47|9=>9|3=>3|4=>4|0=>0|n=>n,fun|n=>n⟩
theorem Tryz.lays2_22:Go.Proofs.Lays2.n22 Tryz.prog Tryz.lays2_22_ren:= {
 mixed:=by kernel_rfl
 f17:=Tryz.func237.trans (P0 some (by kernel_rfl))
 f22:=Tryz.func101.trans (P0 some (by kernel_rfl))
 f29:=Tryz.func151.trans (P0 some (by kernel_rfl))
 f30:=Tryz.func152.trans (P0 some (by kernel_rfl))
 f36:=Tryz.func201.trans (P0 some (by kernel_rfl))
 t0:=Tryz.underlying0
 a0:=Tryz.isAgg0
 z0:=Tryz.sizeOf0
 v0:=Tryz.zeroValue0
 t3:=Tryz.underlying3
 a3:=Tryz.isAgg3
 z3:=Tryz.sizeOf3
 v3:=Tryz.zeroValue3
 t4:=Tryz.underlying4
 a4:=Tryz.isAgg4
 z4:=Tryz.sizeOf4
 v4:=Tryz.zeroValue4
 t9:=Tryz.underlying9
 a9:=Tryz.isAgg9
 z9:=Tryz.sizeOf9
 v9:=Tryz.zeroValue9
 t24:=Tryz.underlying47
 a24:=Tryz.isAgg47
 z24:=Tryz.sizeOf47
 v24:=Tryz.zeroValue47
 i9:=by kernel_rfl}
def Tryz.lays2_26_ren:Go.Shelf.Ren:=⟨fun|26=>150|33=>199|34=>200|38=>236|n=>n,fun|24=>47|9=>9|3=>3|4=>4|40=>164|0=>0|n=>n,fun|n=>n⟩
theorem Tryz.lays2_26:Go.Proofs.Lays2.n26 Tryz.prog Tryz.lays2_26_ren:= {
 mixed:=by kernel_rfl
 f26:=Tryz.func150.trans (P0 some (by kernel_rfl))
 f33:=Tryz.func199.trans (P0 some (by kernel_rfl))
 f34:=Tryz.func200.trans (P0 some (by kernel_rfl))
 f38:=Tryz.func236.trans (P0 some (by kernel_rfl))
 t0:=Tryz.underlying0
 a0:=Tryz.isAgg0
 z0:=Tryz.sizeOf0
 v0:=Tryz.zeroValue0
 t3:=Tryz.underlying3
 a3:=Tryz.isAgg3
 z3:=Tryz.sizeOf3
 v3:=Tryz.zeroValue3
 t4:=Tryz.underlying4
 a4:=Tryz.isAgg4
 z4:=Tryz.sizeOf4
 v4:=Tryz.zeroValue4
 t9:=Tryz.underlying9
 a9:=Tryz.isAgg9
 z9:=Tryz.sizeOf9
 v9:=Tryz.zeroValue9
 t24:=Tryz.underlying47
 a24:=Tryz.isAgg47
 z24:=Tryz.sizeOf47
 v24:=Tryz.zeroValue47
 t40:=Tryz.underlying164
 a40:=Tryz.isAgg164
 z40:=Tryz.sizeOf164
 v40:=Tryz.zeroValue164}
end Go.Proofs
namespace Go.Av
open Go Go.Proofs Go.RowKit
section
variable {C:Ctx} {B:Nat} {S:Addr→Prop} {μ:Map} {h:Heap} {w w':World} {α:Type}
theorem vn{av:α→AVal}{enc:α→Value}(hc:∀a,(av a).cells=[av a])(hs:∀a,(av a).sto=true)(hr:∀(w:World) (S:Addr→Prop) (μ:Map) (a:α),Rep w S μ (av a) (enc a))
  (f:Fits C B S μ h w){e:TypeId}{v:Value}{ls:List α}(ho:w'.ownsRow w.heap.size e 1 v ls.length (ls.map enc))(hb:Below w.heap.size w w'):
  ∃S',Fits C B S' μ h w'∧Step B S μ w S' μ w'∧Rep w' S' μ (.sl 1 (ls.map av)) v:=by
 obtain⟨f',st⟩:=f.grown hb;obtain⟨_,ho⟩:=ho;rcases ho with⟨rfl,h0⟩| ⟨g,cap,cur,rfl,hg,hheap,hn,hm,hsz,htk⟩
 ·have:ls=[]:=S8.1 h0;subst this;exact⟨S,f',st,.sl0 1 none 0⟩
 ·by_cases hl:ls=[]
  ·subst hl;exact⟨S,f',st,.sl0 1 _ cap⟩
  have hgl:g<w'.heap.size:=(O0.1 hheap).1
  let S':Addr→Prop:=fun a=>S a∨a.block=g
  have st2:Step B S μ w' S' μ w':=⟨fun a ha=>.inl ha,fun _ _=>rfl,X6 _ _,MapLe.refl _,fun a ha=>ha.elim .inl fun e=>.inr (by rw[e];exact Q7 f.base hg)⟩
  have f2:Fits C B S' μ h w':=⟨fun g' cs hg'=>(f'.glob g' cs hg').mono st2,f'.len,f'.sep,fun p m b h1 e1=>by
    obtain⟨a1,a2,a3⟩:=f'.own p m b h1 e1;have:=(f.own p m b h1 e1).2.1;exact⟨a1,a2,fun a ha=>ha.elim (a3 a) fun e=>by omega⟩,f'.base,fun a ha=>ha.elim (f'.lie a) fun e=>by rw[e];exact hgl,
   fun p m k h1 h2=>(f'.blk p m k h1 h2).mono st2 fun _ _=>rfl⟩
  have hget:∀i,cur[0+(i*1+0)]? =cur[i]? :=fun i=>by congr 1;omega
  refine⟨S',f2,st.trans st2,?_⟩;have hlen:(ls.map av).length=ls.length:=L8 ..;rw[← hlen];refine .sl 1 (ls.map av) g 0 cap (fun i _=>cur[i]?.getD undef) (by simpa using hl) (by omega) hm (fun i x hx=>?_) (fun i x j c hx hj=>?_) (fun i x j c hx hj=>?_)
  ·obtain⟨a,_,rfl⟩:=M9.1 (M7 hx);rw[hc];rfl
  ·obtain⟨a,_,rfl⟩:=M9.1 (M7 hx);rw[hc]at hj
   match j with
   |0=>
    simp at hj;subst hj;have hi:i<ls.length:=(by have:=(f9.1 hx).1;omega);have hi2:i<cur.size:=(by omega);refine⟨.inr rfl,?_,hs a⟩;simp only[World.cell?,hheap];simp[hi2]
   |j+1=>simp at hj
  ·rw[N8]at hx;obtain⟨a,ha,rfl⟩:=N2.1 hx;rw[hc]at hj
   match j with
   |0=>
    simp at hj;subst hj;have hi:i<ls.length:=(f9.1 ha).1;have:cur[i]? =some (enc a):=by
     have h1:(cur.toList.take (ls.length*1))[i]? =some (enc a):=(by rw[htk,N8,ha];rfl);rw[N4 (by omega)]at h1;simpa using h1
    rw[this];exact hr _ _ _ a
   |j+1=>simp at hj
theorem ce{P:Program}{f:FuncId}{fn:Func}(hf:P.funcs[f]? =some fn)(hb:fn.body.isNone=false)(hname:(fn.name== "runtime.NumGoroutine")=false)(us:Array Value)(w:World):(callFunc f us).run P w=.ok (.enter f us) w:=by
 have hne:fn.name≠ "runtime.NumGoroutine" :=by simpa using hname
 obtain⟨c,hbc⟩:∃c,fn.body=some c:=by cases hq:fn.body with|none=>simp[hq]at hb|some c=>exact⟨c,rfl⟩
 simp[callFunc,hf,hne,hbc]
end
def noR:Value→Option (DataW Unit×List MemPlace):=fun _=>some (.nil,[])
def kI(n:Int):Lit:=.int .i64 n
theorem o1(x:Lit×DataW Unit)(l:List (Lit×DataW Unit)):(DataW.insert x l).Perm (x::l):=by
 induction l with
 |nil=>exact List.Perm.refl _
 |cons y r ih=>
  rw[DataW.insert];split
  ·exact List.Perm.refl _
  ·exact(ih.cons y).trans (List.Perm.swap x y r)
theorem jO(l:List (Lit×DataW Unit)):(l.foldr DataW.insert []).Perm l:=by
 induction l with
 |nil=>exact List.Perm.refl _
 |cons x l ih=>exact(o1 x _).trans (ih.cons x)
def datK(ks:List Lit):DataW Unit:=.map ((ks.map fun k=>(k,(DataW.nil:DataW Unit))).foldr DataW.insert [])
theorem th(ks:List Lit):Maps.size (datK ks)=ks.length:=by
 unfold datK;rw[Maps.size_eq,(jO _).length_eq,L8]
theorem xB{P:Program}{kt:TypeId}{w:World}{b c:Nat}{cur:Array MapEntry}{ks:List Lit}(hheap:w.heap[b]? =some (.map cur c))(hl:ks.length=cur.size)(hm:cur.size≤maxLen)
  (hk:∀(i:Nat) (x:MapEntry),cur[i]? =some x→∃k,ks[i]? =some k∧keyOf P kt x.key=some k)(hb:∀x∈cur.toList,x.born<c)(hn:(cur.toList.map (·.born)).Nodup)(hd:(cur.toList.map (·.key)).Nodup):
  w.ownsMap P kt noR b cur.size (datK ks):=by
 refine⟨cur,c,hheap,⟨hm,⟨hb,hn,hd⟩,fun x hx=>?_⟩,M4 _,?_⟩
 ·obtain⟨i,hi⟩:=Q5 hx;obtain⟨k,_,h2⟩:=hk i x (by simpa using hi);exact⟨(k,.nil),by simp[WideElems.rd,h2,noR]⟩
 ·unfold datK;congr 2
  apply R8
  intro i;rw[N8,N8];by_cases hi:i<cur.size
  ·have hc:cur[i]? =some cur[i]:=O2 hi;obtain⟨k,h1,h2⟩:=hk i _ hc;have h3:cur.toList[i]? =some cur[i]:=(by simp[hi]);rw[h1,h3];simp[WideElems.rg,WideElems.rd,h2,noR]
  ·rw[Q4 (l:=cur.toList) (by simp;omega),Q4 (l:=ks) (by omega)];rfl
variable (G:Nat→Option (List AVal))
theorem dF{α:Type}(ev:α→AVal)(I:FuncId)
  (hI:∀(Bm b nn:Nat) (D0:DataW Unit) (R:Value→Option (DataW Unit×List MemPlace)) (w:World),Bm<w.heap.size→w.cell? ⟨Bm,0,none⟩=some (.map (some b))→w.ownsMap Tryz.prog 3 R b nn D0→Maps.size D0≤maxLen→Maps.size D0*8≤140737488355328→
   Calls Tryz.prog 83 #[.func (.func I) #[] #[.pointer (some ⟨Bm,0,none⟩)]] w fun e w'=>∃(v:Value) (ss:List Int),e=.returned v∧ss.Perm (intKeys D0)∧w'.ownsRow w.heap.size 3 1 v ss.length ((ss.mergeSort (fun x y=>decide (x≤y))).map encZ)∧(v=.slice none 0 0↔ss=[])∧Below w.heap.size w w')
  (l:ML Int α)(c:Nat)(hw:WFM l c)(hb:∀e∈l, -9223372036854775808≤e.1∧e.1≤9223372036854775807)(hl:l.length≤100000){h:Heap}{q p T:Nat}(hq:getRow h q 0=some (T,1,[.hm p]))(hp:mapAt h p=some (encM iA ev l,c)):
  Sat (CT G) 83 [.fn (.func I) [] [.hp q 0 0 0]] h (fun r h'=>r=.sl 1 (((l.map (·.1)).mergeSort (fun x y=>decide (x≤y))).map iA)∧h'=h):=by
 intro B S μ w us fit rl;obtain⟨hul,hur⟩:=rl
 match us,hul,hur with
 | [v0],_,hur=>
  have r0:Rep w S μ (.fn (.func I) [] [.hp q 0 0 0]) v0:=hur 0 _ rfl;obtain⟨cv,rfl,rc⟩:∃cv,v0=.func (.func I) #[] #[cv]∧Rep w S μ (.hp q 0 0 0) cv:=by
   cases r0 with
   |fn _ _ _ xv cv h1 h2 h3 h4=>
    match xv,cv,h1,h2,h4 with
    | [],[cv],_,_,h4=>exact⟨cv,rfl,h4 0 _ rfl⟩
  obtain⟨m,hm,rf⟩:=fit.row hq;obtain⟨b0,hb0,rfl⟩:=rc.hp_now hm rf.hver;have hz:0*m.size+0=0:=by simp
  rw[hz];obtain⟨cur,hheap,hcell⟩:∃cur,w.heap[b0]? =some (.cells cur T (0,0))∧∃x,cur[0]? =some x∧Rep w S μ (.hm p) x:=by
   rcases rf.lies with⟨_,h2⟩| ⟨b,cur,h1,h2,_,_,_,h6⟩
   ·cases h2
   ·rw[hb0]at h1;cases h1;obtain⟨x,hx,rx⟩:=h6 0 (.hm p) 0 (.hm p) rfl rfl;exact⟨cur,h2,x,by simpa using hx,rx⟩
  obtain⟨x,hx0,rx⟩:=hcell;obtain⟨m2,b2,cur2,hm2,hv2,hb2,rfl,hheap2,E⟩:=bu fit rx hp;have hcell0:w.cell? ⟨b0,0,none⟩=some (.map (some b2)):=by simp[World.cell?,hheap,hx0]
  have hlen:cur2.size=l.length:=by have:=E.len;simpa [encM]using this
  have hget:∀(i:Nat) (y:MapEntry),cur2[i]? =some y→∃e,l[i]? =some e∧y.key=encZ e.1∧y.born=e.2.2:=by
   intro i y hy;have hi:i<l.length:=(by have:=(O0.1 hy).1;omega);obtain⟨y',hy',r1,_,r3⟩:=E.get i (iA l[i].1,ev l[i].2.1,l[i].2.2) (by rw[encM,N8,L9 hi];rfl);rw[Array.getElem?_toList,hy]at hy';cases hy';refine⟨l[i],L9 hi,?_,r3⟩;exact r1.int_inv
  have hbk:cur2.toList.map (·.born)=l.map (·.2.2):=by
   apply R8
   intro i;rw[N8,N8,Array.getElem?_toList];cases hy:cur2[i]? with
   |none=>rw[Q4 (l:=l) (by rw[Array.getElem?_eq_none_iff]at hy;omega)];rfl
   |some y=>obtain⟨e,h1,_,h3⟩:=hget i y hy;rw[h1];simp[h3]
  have hkk:cur2.toList.map (·.key)=l.map (fun e=>encZ e.1):=by
   apply R8
   intro i;rw[N8,N8,Array.getElem?_toList];cases hy:cur2[i]? with
   |none=>rw[Q4 (l:=l) (by rw[Array.getElem?_eq_none_iff]at hy;omega)];rfl
   |some y=>obtain⟨e,h1,h2,_⟩:=hget i y hy;rw[h1];simp[h2]
  have hown:w.ownsMap Tryz.prog 3 noR b2 cur2.size (datK (l.map fun e=>kI e.1)):=by
   refine xB hheap2 (by simp[hlen]) (by simp[maxLen];omega) (fun i y hy=>?_) (fun y hy=>?_) (by rw[hbk];exact hw.borns) ?_
   ·obtain⟨e,h1,h2,_⟩:=hget i y hy;refine⟨kI e.1,by rw[N8,h1];rfl,?_⟩;have hu:Tryz.prog.underlying 3=some (.int .i64):=(by kernel_rfl);have:=hb e (M7 h1);have hwf:(Lit.int .i64 e.1).wf=true:=by
     simp only[Lit.wf,L6,M1];exact this
    rw[h2];simp[keyOf,hu,mapKey,encZ,kI,hwf]
   ·obtain⟨i,hi⟩:=Q5 hy;obtain⟨e,h1,_,h3⟩:=hget i y (by simpa using hi);rw[h3];exact hw.lt e (M7 h1)
   ·rw[hkk];have:=hw.keys;rw[show(l.map fun e=>encZ e.1)=(l.map (·.1)).map encZ by simp];exact List.Pairwise.map encZ (fun a b hab he=>hab (by first|exact encZ_inj he| (simpa [encStr]using he))) this
  have hsz:Maps.size (datK (l.map fun e=>kI e.1))=l.length:=by rw[th];simp
  change OpOk Tryz.prog _ ((callFunc 83 #[Value.func (Fn.func I) #[] #[Value.pointer (some ⟨b0,0,none⟩)]]).run Tryz.prog w)
  rw[ce (f:=83) Tryz.func83 rfl rfl];refine(hI b0 b2 _ _ _ w (O0.1 hheap).1 hcell0 hown (by rw[hsz];simp[maxLen];omega) (by rw[hsz];omega)).mono fun e w' ⟨v,ss,he,hperm,hrow,_,hbel⟩=>?_
  refine⟨v,he,?_⟩;have hk:(intKeys (datK (l.map fun e=>kI e.1))).Perm (l.map (·.1)):=by
   unfold datK;refine((jO _).map _).trans ?_;rw[W5,W5];exact List.Perm.of_eq (V4 fun e _=>rfl)
  have hs:ss.mergeSort (fun x y=>decide (x≤y))=(l.map (·.1)).mergeSort (fun x y=>decide (x≤y)):=mergeSort_of_perm_i (hperm.trans hk);rw[hs]at hrow;have hl2:ss.length=((l.map (·.1)).mergeSort (fun x y=>decide (x≤y))).length:=by
   rw[← hs,(Y4 _ _).length_eq]
  rw[hl2]at hrow;obtain⟨S',f',st',r'⟩:=vn (av:=iA) (enc:=encZ) (fun _=>rfl) (fun _=>rfl) (fun _ _ _ _=>by first|exact .int _ _|exact .str _) fit hrow hbel;exact⟨_,h,S',μ,⟨rfl,rfl⟩,st',f',r'⟩
end Go.Av
namespace Go.Av
open Go Go.Proofs Go.RowKit
attribute [local irreducible] WP WPl WPix Sat
section
variable {C:Ctx} {B:Nat} {S:Addr→Prop} {μ:Map} {h:Heap} {w w':World}
end
end Go.Av
namespace Go.Av
open Go Go.Proofs Go.RowKit
attribute [local irreducible] WP WPl WPix Sat
variable (G:Nat→Option (List AVal))
section
variable {l:List Ky} {H:Heap} {n v:Nat}
end
end Go.Av
theorem W7:type_of% @Go.Av.FrN.refl:=@Go.Av.FrN.refl
theorem X0:type_of% @Go.Av.FrN.app:=@Go.Av.FrN.app
theorem Y0:type_of% @Go.Av.FrN.set:=@Go.Av.FrN.set
theorem Z1:type_of% @Go.Av.FrN.trans:=@Go.Av.FrN.trans
theorem Z2:type_of% @Go.Av.Fin.whole:=@Go.Av.Fin.whole
theorem za3:type_of% @Go.Av.Frz.data:=@Go.Av.Frz.data
theorem zc1:type_of% @Go.Av.Ev.av_eq:=@Go.Av.Ev.av_eq
theorem zc2:type_of% @Go.Av.It.clo:=@Go.Av.It.clo
