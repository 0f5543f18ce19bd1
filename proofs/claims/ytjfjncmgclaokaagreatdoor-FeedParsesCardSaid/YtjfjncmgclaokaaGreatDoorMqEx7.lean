/- Parts. -/
import Derived.Test.YtjfjncmgclaokaaGreatDoorMqDr2
set_option linter.unusedSimpArgs false
set_option linter.unusedVariables false
set_option linter.unusedSectionVars false
set_option linter.unnecessarySimpa false
set_option maxRecDepth 100000
set_option maxHeartbeats 16000000
namespace Go.Av
open Go.RowKit
section
variable {C:Ctx} {B n:Nat} {S:Addr→Prop} {μ:Map} {h:Heap} {w:World} {t:Env} {a:Act}
def LetP(S:Addr→Prop)(μ:Map)(w:World)(p:Nat):Addr→Prop:=fun a=>S a∨∃m,μ[p]? =some m∧m.blk=some a.block∧(w.cell? a).isSome=true
theorem Rep.letgo(f:Fits C B S μ h w){p v e m:Nat}{rows:List AVal}(hg:getRow h p v=some (e,m,rows)){μ':Map}(st:Step B S μ w (LetP S μ w p) μ' w)
  {off len:Nat}{room:Bool}{val:Value}(hlen:off+len≤rows.length)(r:Rep w S μ (.hs p v off len room) val):Rep w (LetP S μ w p) μ' (.sl m ((rows.drop off).take len)) val:=by
 obtain⟨mb,hm,hf⟩:=f.row hg;have hms:=hf.hsize;rcases r.hs_now hm hf.hver with⟨hb,rfl,rfl,rfl⟩| ⟨b,hb,hcap,rfl⟩
 ·simpa using Rep.sl0 (w:=w) (S:=LetP S μ w p) (μ:=μ') m none 0
 ·by_cases hl0:len=0
  ·subst hl0;simpa using Rep.sl0 (w:=w) (S:=LetP S μ w p) (μ:=μ') m _ _
  ·obtain⟨cur,hheap,hcs,hle,hmax,fl⟩:=hf.flat hb;have hes:((rows.drop off).take len).length=len:=(by simp;omega);have hget:∀(i:Nat) (s:AVal),((rows.drop off).take len)[i]? =some s→rows[off+i]? =some s:=by
    intro i s hi;have hlt:=(F1.1 hi).1;rw[hes]at hlt;rw[I4 hlt,K8]at hi;exact hi
   have e1:∀i j,(off+i)*m+j=off*m+(i*m+j):=fun i j=>by rw[N0];omega
   have key:=Rep.sl (w:=w) (S:=LetP S μ w p) (μ:=μ') m ((rows.drop off).take len) b (off*mb.size) (if room then mb.cap-off else len)
    (fun i j=>cur.getD (off*m+(i*m+j)) undef) (by intro e;rw[e]at hes;simp at hes;omega) (by rw[hes];split<;>omega) (by split<;>omega)
    (fun i s hi=>hf.lens _ _ (hget i s hi))
    (fun i s j d hi hj=>by
     have h1:=hget i s hi;obtain⟨u,hu,_⟩:=fl.rep _ _ _ _ h1 hj;have hu:=aK hu;rw[e1]at hu;have hu2:cur[off*m+(i*m+j)]? =some u:=(by simpa using hu);have hcell:w.cell? ⟨b,off*m+(i*m+j),none⟩=some u:=(by simp[World.cell?,hheap,hu2]);rw[hms];refine⟨.inr ⟨mb,hm,hb,by rw[hcell];rfl⟩,?_,hf.sto _ _ _ _ h1 hj⟩;rw[hcell];simp[K7,hu2])
    (fun i s j d hi hj=>by
     have h1:=hget i s hi;obtain⟨u,hu,hrep⟩:=fl.rep _ _ _ _ h1 hj;have hu:=aK hu;rw[e1]at hu;have hu2:cur[off*m+(i*m+j)]? =some u:=(by simpa using hu);have:=hrep.mono st;simpa [K7,hu2]using this)
   rw[hes]at key;exact key
theorem Fits.letgo(f:Fits C B S μ h w){p v e m:Nat}{rows:List AVal}(hg:getRow h p v=some (e,m,rows)):
  ∃μ',Step B S μ w (LetP S μ w p) μ' w∧Fits C B (LetP S μ w p) μ' (h.set p .dead) w:=by
 obtain⟨mb,hm,hf⟩:=f.row hg;have hlt:=(F1.1 hm).1;have st:Step B S μ w (LetP S μ w p) (μ.set p ⟨none,mb.ver+1,mb.size,mb.cap⟩) w:=⟨fun a ha=>.inl ha,fun _ _=>rfl,U5 _ _,bN hm (by simp) (fun e=>by simp at e),fun a ha=>by
  rcases ha with ha| ⟨m',hm',hb,_⟩
  ·exact .inl ha
  ·exact .inr (f.own p m' _ hm' hb).1⟩
 have at_:∀q k,(μ.set p ⟨none,mb.ver+1,mb.size,mb.cap⟩)[q]? =some k→(q=p∧k.blk=none)∨(q≠p∧μ[q]? =some k):=by
  intro q k hq;by_cases e:p=q
  ·subst e;rw[L5 hlt]at hq;cases hq;exact .inl ⟨rfl,rfl⟩
  ·rw[K6 e]at hq;exact .inr ⟨fun e'=>e e'.symm,hq⟩
 refine⟨_,st,⟨fun g cs hg=>(f.glob g cs hg).mono st,by simp[f.len],?_,?_,f.base,?_,?_⟩⟩
 ·intro p1 q1 m1 m2 b h1 h2 e1 e2;rcases at_ p1 m1 h1 with⟨_,k1⟩| ⟨_,k1⟩
  ·rw[k1]at e1;cases e1
  ·rcases at_ q1 m2 h2 with⟨_,k2⟩| ⟨_,k2⟩
   ·rw[k2]at e2;cases e2
   ·exact f.sep p1 q1 m1 m2 b k1 k2 e1 e2
 ·intro p1 m1 b h1 e1;rcases at_ p1 m1 h1 with⟨_,k1⟩| ⟨r1,k1⟩
  ·rw[k1]at e1;cases e1
  ·obtain⟨a1,a2,a3⟩:=f.own p1 m1 b k1 e1;refine⟨a1,a2,fun a ha=>?_⟩;rcases ha with ha| ⟨m',hm',hb,_⟩
   ·exact a3 a ha
   ·intro e;exact r1 (f.sep p1 p m1 m' b k1 hm' e1 (by rw[hb,e]))
 ·intro a ha;rcases ha with ha| ⟨m',hm',hb,_⟩
  ·exact f.lie a ha
  ·exact(f.own p m' _ hm' hb).2.1
 ·intro p1 m1 k1 h1 h2;rcases at_ p1 m1 h1 with⟨rfl,_⟩| ⟨r1,h1⟩
  ·rw[L5 (by rw[← f.len];exact hlt)]at h2;cases h2;trivial
  ·rw[K6 (fun e=>r1 e.symm)]at h2;exact(f.blk p1 m1 k1 h1 h2).mono st fun b _=>rfl
inductive Fz (h:Heap) (p v:Nat):AVal→AVal→Prop
 |same (x:AVal):Fz h p v x x
 |hs (off len:Nat) (room:Bool) (e m:Nat) (rows es:List AVal):getRow h p v=some (e,m,rows)→off+len≤rows.length→es=(rows.drop off).take len→Fz h p v (.hs p v off len room) (.sl m es)
 |agg (cs ds:List AVal):cs.length=ds.length→(∀d∈ds,d.sto=true)→(∀(i:Nat) (c d:AVal),cs[i]? =some c→ds[i]? =some d→Fz h p v c d)→Fz h p v (.agg cs) (.agg ds)
 |tup (cs ds:List AVal):cs.length=ds.length→(∀(i:Nat) (c d:AVal),cs[i]? =some c→ds[i]? =some d→Fz h p v c d)→Fz h p v (.tup cs) (.tup ds)
 |wk (x y z:AVal):Fz h p v x y→Wk y z→Fz h p v x z
theorem Fz.all(h:Heap)(p v:Nat){off len e m:Nat}{room:Bool}{rows:List AVal}(hg:getRow h p v=some (e,m,rows))(h0:off=0)(hl:len=rows.length):Fz h p v (.hs p v off len room) (.sl m rows):=
 .hs off len room e m rows rows hg (by omega) (by subst h0;subst hl;simp)
theorem Fz.rep(f:Fits C B S μ h w){p v:Nat}{μ':Map}(st:Step B S μ w (LetP S μ w p) μ' w){x y:AVal}{u:Value}(z:Fz h p v x y)(r:Rep w S μ x u):Rep w (LetP S μ w p) μ' y u:=by
 induction z generalizing u with
 |same x=>exact r.mono st
 |hs off len room e m rows es hg hl he=>subst he;exact r.letgo f hg st hl
 |agg cs ds hl hst _ ih=>
  obtain⟨vs,rfl,hvl,_,hr⟩:=r.agg_inv;refine .agg ds vs (by omega) (fun i d hd=>hst d (G4 hd)) (fun i d hd=>?_);have hlt:=(F1.1 hd).1;have hc:=G1 (show i<cs.length by omega);exact ih i _ d hc hd (hr i _ hc)
 |tup cs ds hl _ ih=>
  obtain⟨vs,rfl,hvl,hr⟩:=r.tup_inv;refine .tup ds vs (by omega) (fun i d hd=>?_);have hlt:=(F1.1 hd).1;have hc:=G1 (show i<cs.length by omega);exact ih i _ d hc hd (hr i _ hc)
 |wk x y z _ hw ih=>exact hw _ _ _ _ (ih r)
theorem Weak.fz{ms:List Nat}{t1:Env}(p v:Nat){e m:Nat}{rows:List AVal}(hg:getRow h p v=some (e,m,rows))(ht:∀i,t1 i=t i∨(i∈ms∧Fz h p v (t i) (t1 i))):Weak C ms t h t1 (h.set p .dead):=by
 refine⟨fun i hi=>(ht i).elim id fun⟨h1,_⟩=>absurd h1 hi,fun B k S μ w a f r=>?_⟩;obtain⟨μ',st,f1⟩:=f.letgo hg;refine⟨_,μ',st,f1,r.1,r.2.1,fun i hi=>?_⟩;rcases ht i with h1| ⟨_,h1⟩
 ·rw[h1];exact(r.2.2 i hi).mono st
 ·exact h1.rep f st (r.2.2 i hi)
theorem Weak.fzIn{ms:List Nat}{t1:Env}(p v q v':Nat){e m e' m':Nat}{rows xs:List AVal}(ys:List AVal)(hg:getRow h p v=some (e,m,rows))(hne:p≠q)(hq:getRow h q v'=some (e',m',xs))
  (hl:ys.length≤xs.length)(hc:∀(i:Nat) (x y:AVal),xs[i]? =some x→ys[i]? =some y→x.cells.length=y.cells.length∧
   ∀(j:Nat) (c d:AVal),x.cells[j]? =some c→y.cells[j]? =some d→Fz h p v c d∧d.sto=true)
  (ht:∀i,t1 i=t i∨(i∈ms∧Fz h p v (t i) (t1 i))):Weak C ms t h t1 ((h.set p .dead).set q (.row e' m' v' ys)):=by
 refine⟨fun i hi=>(ht i).elim id fun⟨h1,_⟩=>absurd h1 hi,fun B k S μ w a f r=>?_⟩;obtain⟨μ',st,f1⟩:=f.letgo hg;obtain⟨mq,hmq,rq⟩:=f.row hq;have hq1:getRow (h.set p .dead) q v'=some (e',m',xs):=by
  have:=bS hq;unfold getRow;rw[K6 hne,this];simp
 obtain⟨mb,hm,rf⟩:=f1.row hq1;have hset:List.set μ' q mb=μ':=by
  obtain⟨hlt,he⟩:=F1.1 hm;rw[← he,List.set_getElem_self]
 have at_:∀(i:Nat) (y:AVal),ys[i]? =some y→∃x,xs[i]? =some x:=by
  intro i y hi;have hlt:=(F1.1 hi).1;exact⟨_,G1 (by omega)⟩
 have cat:∀(i:Nat) (y:AVal) (j:Nat) (d:AVal),ys[i]? =some y→y.cells[j]? =some d→∃x c,xs[i]? =some x∧x.cells[j]? =some c∧Fz h p v c d∧d.sto=true:=by
  intro i y j d hi hj;obtain⟨x,hx⟩:=at_ i y hi;obtain⟨h1,h2⟩:=hc i x y hx hi;have hlt:=(F1.1 hj).1;have hxj:=G1 (show j<x.cells.length by omega);exact⟨x,_,hx,hxj,h2 j _ d hxj hj⟩
 have hmm:mb=mq:=by
  obtain⟨m2,h2,h3,h4⟩:=st.map q mq hmq;rw[hm]at h2;cases h2;exact h4 (by rw[rf.hver,rq.hver])
 subst hmm;have key:BlkFits w (LetP S μ w p) (List.set μ' q mb) mb (.row e' m' v' ys):=by
  rw[hset];refine⟨rf.hver,rf.hsize,rf.pos,fun i y hi=>?_,fun i y j d hi hj=>?_,?_⟩
  ·obtain⟨x,hx⟩:=at_ i y hi;rw[← (hc i x y hx hi).1];exact rf.lens i x hx
  ·obtain⟨x,c,_,_,_,h4⟩:=cat i y j d hi hj;exact h4
  ·rcases rq.lies with⟨h1,h2⟩| ⟨b,cur,h1,h2,h3,h4,h5,h6⟩
   ·subst h2;exact .inl ⟨h1,K5.1 (by simpa using hl)⟩
   ·refine .inr ⟨b,cur,h1,h2,h3,by omega,h5,fun i y j d hi hj=>?_⟩;obtain⟨x,c,hx,hxj,hz,_⟩:=cat i y j d hi hj;obtain⟨u,hu,hr⟩:=h6 i x j c hx hxj;exact⟨u,hu,hz.rep f st hr⟩
 obtain⟨f2,st2⟩:=f1.update (m':=mb) (k':=.row e' m' v' ys) hm (Only.refl w _) (H5 _) (fun _=>rfl) (.inl rfl) key;refine⟨_,_,st.trans st2,f2,r.1,r.2.1,fun i hi=>?_⟩;rcases ht i with h1| ⟨_,h1⟩
 ·rw[h1];exact(r.2.2 i hi).mono (st.trans st2)
 ·exact(h1.rep f st (r.2.2 i hi)).mono st2
theorem Weak.rowTake{ms:List Nat}(p v k:Nat){e m:Nat}{rows:List AVal}(hg:getRow h p v=some (e,m,rows)):Weak C ms t h t (h.set p (.row e m v (rows.take k))):=by
 refine⟨fun _ _=>rfl,fun B n S μ w a f r=>?_⟩;obtain⟨mb,hm,rf⟩:=f.row hg;have hset:List.set μ p mb=μ:=by
  obtain⟨hlt,he⟩:=F1.1 hm;rw[← he,List.set_getElem_self]
 have at_:∀(i:Nat) (y:AVal),(rows.take k)[i]? =some y→rows[i]? =some y:=fun i y hi=>aK hi
 have key:BlkFits w S (List.set μ p mb) mb (.row e m v (rows.take k)):=by
  rw[hset];refine⟨rf.hver,rf.hsize,rf.pos,fun i y hi=>rf.lens i y (at_ i y hi),fun i y j d hi hj=>rf.sto i y j d (at_ i y hi) hj,?_⟩;rcases rf.lies with⟨h1,h2⟩| ⟨b,cur,h1,h2,h3,h4,h5,h6⟩
  ·subst h2;exact .inl ⟨h1,by simp⟩
  ·exact .inr ⟨b,cur,h1,h2,h3,⟨h4.1,by simp;omega⟩,h5,fun i y j d hi hj=>h6 i y j d (at_ i y hi) hj⟩
 obtain⟨f2,st2⟩:=f.update (m':=mb) (k':=.row e m v (rows.take k)) hm (Only.refl w _) (H5 _) (fun _=>rfl) (.inl rfl) key;exact⟨S,_,st2,f2,r.mono st2⟩
end
end Go.Av
namespace Go.Av
open Go Go.Proofs Go.RowKit
attribute [local irreducible] WP WPl WPix Sat
variable (G:Nat→Option (List AVal))
theorem oQ(s p:Bs)(h:(Lib.cut s p).2.2=true):s=(Lib.cut s p).1++p++(Lib.cut s p).2.1∧(Lib.cut s p).1.length=(Lib.index s p).toNat:=by
 unfold Lib.cut at*;by_cases h0:0≤Lib.index s p
 ·rw[G3 h0];have hr:=Lib.index_room s p h0;rcases Lib.index_spec s p with⟨e,_⟩| ⟨i,e,hi,ho,_⟩
  ·omega
  ·rw[e];simp only[Int.toNat_natCast];have hp:(s.drop i).take p.length=p:=by
    have:=Lib.occAt_iff_take s p i (by omega);rw[ho]at this;exact eq_of_beq this.symm
   refine⟨?_,by simp;omega⟩
   conv=>lhs;rw[← R5 i s]
   rw[M5];congr 1
   conv=>lhs;rw[← R5 p.length (s.drop i)]
   rw[hp,O3]
 ·rw[G0 h0]at h;cases h
theorem jH(s p:Bs)(h:(Lib.cut s p).2.2=false):Lib.cut s p=(s,[],false):=by
 unfold Lib.cut at*;by_cases h0:0≤Lib.index s p
 ·rw[G3 h0]at h;cases h
 ·rw[G0 h0]
theorem bG(s p:Bs)(h:(Lib.cut s p).2.2=true):(Lib.cut s p).1.length+p.length+(Lib.cut s p).2.1.length=s.length:=by
 have:=J2 List.length (oQ s p h).1;simp only[H7]at this;omega
def readP:Nat→Bs→Bs
 |0,_=>[]
 |f+1,s=>
  if (Lib.cut s [38]).2.2=true then
   if ((Lib.cut (Lib.cut s [38]).2.1 [59]).2.2&&decide ((Lib.cut (Lib.cut s [38]).2.1 [59]).1.length≤10)&&(signF (Lib.cut (Lib.cut s [38]).2.1 [59]).1).2)=true
   then(Lib.cut s [38]).1++(enc (signF (Lib.cut (Lib.cut s [38]).2.1 [59]).1).1++readP f (Lib.cut (Lib.cut s [38]).2.1 [59]).2.1)
   else(Lib.cut s [38]).1++(38::readP f (Lib.cut s [38]).2.1)
  else(Lib.cut s [38]).1
theorem o4(n:Int)(h:rightF n=true):Rune n:=by
 unfold rightF at h;simp only[L3,H2,G2,M6,decide_eq_false_iff_not]at h;rcases h with((h|h)|h)| ⟨h0,h1⟩
 ·exact⟨by omega,by omega⟩
 ·exact⟨by omega,by omega⟩
 ·exact⟨by omega,by omega⟩
 ·refine⟨by omega,J8 fun hn=>h1 (iy ?_)⟩;unfold fix Utf8.valid Utf8.runeError;rw[G0];simp;omega
theorem ll(n:Bs)(h:(signF n).2=true):Rune (signF n).1:=by
 have hc:∀k:Int,0≤k→k<55296→Rune k:=fun k a b=>⟨a,.inl b⟩
 unfold signF at*;by_cases c1:n=[97,109,112]
 ·rw[G3 c1];exact hc _ (by decide) (by decide)
 rw[G0 c1]at h ⊢;by_cases c2:n=[108,116]
 ·rw[G3 c2];exact hc _ (by decide) (by decide)
 rw[G0 c2]at h ⊢;by_cases c3:n=[103,116]
 ·rw[G3 c3];exact hc _ (by decide) (by decide)
 rw[G0 c3]at h ⊢;by_cases c4:n=[113,117,111,116]
 ·rw[G3 c4];exact hc _ (by decide) (by decide)
 rw[G0 c4]at h ⊢;by_cases c5:n=[97,112,111,115]
 ·rw[G3 c5];exact hc _ (by decide) (by decide)
 rw[G0 c5]at h ⊢;have key:∀m:Int,(if m<0 then((0:Int),false)else if rightF m=true then(m,true)else(65533,true)).2=true→Rune (if m<0 then((0:Int),false)else if rightF m=true then(m,true)else(65533,true)).1:=by
  intro m h;by_cases hm:m<0
  ·rw[G3 hm]at h;cases h
  ·rw[G0 hm];by_cases hr:rightF m=true
   ·rw[G3 hr];exact o4 _ hr
   ·rw[G0 hr];exact⟨by decide,.inr ⟨by decide,by decide⟩⟩
 exact key _ h
variable {G}
theorem fa(hG:GOk G)(s0:Bs)(hs:s0.length≤1048576)(h:Heap):Sat (CT G) 174 [.str s0] h (fun x h'=>x=.str (readP (s0.length+1) s0)∧h'=h):=by
 refine sb [.tmp 2] Tryz.func174 ?_;intro Q hQ;refine aj trivial ?_;refine lm (fun nL tL hL=>∃(a:AVal) (v f:Nat) (s out:Bs),f=nL∧bldH h [] a v out=hL∧tL 0=.str s∧bldA a h.length∧s.length<f∧out++readP f s=readP (s0.length+1) s0∧out.length+5*s.length≤5*s0.length) ((fun(a:AVal) (v f:Nat) (s out:Bs)=>(f:Nat)) ((.nil (.pointer none))) (0) ((s0.length+1)) (s0) ([])) ?_ ?_
 ·refine⟨_,_,S7 (p:=h.length) (v:=0) 5 1 (by omega) (by simp(disch:=first|omega| (simp only[go_sem, ↓reduceIte,Nat.reduceEqDiff];done)|fail) only[go_sem, ↓reduceIte,Int.reduceToNat,Int.reduceLE,Int.reduceLT,Int.reduceSub,Int.reduceAdd,Nat.reduceEqDiff,Nat.reduceAdd,Nat.reduceLeDiff,Nat.reduceLT,Nat.reduceMul,Nat.reduceSub];rfl) 1 rfl,⟨(.nil (.pointer none)),0,(s0.length+1),s0,[],rfl,ar,?_,.inl rfl,by omega,rfl,by simp⟩⟩;all_goals first|exact aE trivial|rfl|omega|trivial|skip
 rintro _ s2 h' ⟨a,v,f,s,out,rfl,rfl,e0,ha,hf,hv,hl⟩ K2 hK2;simp only[ai,ak,Nat.reduceEqDiff, ↓reduceIte]at e0;have F:=e0;refine aj F ?_;refine aJ F (iu G hG s [38] (by omega) _) ?_;have hcl:(Lib.cut s [38]).1.length≤s.length:=by
  cases hq:(Lib.cut s [38]).2.2 with
  |true=>have:=bG s [38] hq;omega
  |false=>rw[jH s [38] hq];exact H5 _
 refine aJ F (jA G a h [] v out (Lib.cut s [38]).1 ha (by omega)) ?_;refine aH F (fun hc=>?_) (fun hc=>?_)<;>(try exact hc.elim)<;>(refine aj F ?_)
 ·obtain⟨g,rfl⟩:∃g,f=g+1:=⟨f-1,by omega⟩;rw[readP,G0 (by simp[hc])]at hv;refine(jB G (.hp h.length 0 0 0) h [] (v+1) (out++(Lib.cut s [38]).1)).mono ?_;rintro r h' ⟨rfl,b2,rfl⟩;try refine am F ?_
  refine aj F ?_;refine ay hQ F ?_;exact V3 (j:=[bldR (.hp h.length 0 0 0) (h.length+1) (v+1) (out++(Lib.cut s [38]).1),b2]) (by simp) (.str _) ⟨J2 AVal.str hv,rfl⟩
 ·have hc':(Lib.cut s [38]).2.2=true:=by simpa using hc
  have hl2:=bG s [38] hc';have hl4:(Lib.cut (Lib.cut s [38]).2.1 [59]).1.length≤(Lib.cut s [38]).2.1.length:=by
   cases hq:(Lib.cut (Lib.cut s [38]).2.1 [59]).2.2 with
   |true=>have:=bG _ [59] hq;omega
   |false=>rw[jH _ [59] hq];exact H5 _
  obtain⟨g,rfl⟩:∃g,f=g+1:=⟨f-1,by omega⟩;rw[readP,G3 hc']at hv;simp only[G5,H6]at hl2;refine aJ F (iu G hG (Lib.cut s [38]).2.1 [59] (by omega) _) ?_;refine aJ F (uf G (Lib.cut (Lib.cut s [38]).2.1 [59]).1 (by omega) _) ?_;(first|refine bD F (fun g1=>?_) (fun g1=>?_)|refine pqo F (fun g1=>?_) (fun g1=>?_))<;>(try exact g1.elim)<;>(try refine am F ?_)<;>(refine aj F ?_)
  ·(first|refine bD F (fun g2=>?_) (fun g2=>?_)|refine pqo F (fun g2=>?_) (fun g2=>?_))<;>(try exact g2.elim)<;>(try refine am F ?_)<;>(refine aj F ?_)
   ·refine aH F (fun g3=>?_) (fun g3=>?_)<;>(try exact g3.elim)<;>(refine aj F ?_)
    ·rw[G3 (by simp[g1,g3];omega)]at hv;have hl3:=bG _ [59] g1;simp only[G5,H6]at hl3;have he:=cZ (signF (Lib.cut (Lib.cut s [38]).2.1 [59]).1).1;refine aJ F (dY G (.hp h.length 0 0 0) (signF (Lib.cut (Lib.cut s [38]).2.1 [59]).1).1 (ll _ g3) h [] (v+1) (out++(Lib.cut s [38]).1) (.inr rfl) (by simp only[H7];omega)) ?_;refine hK2 _ _ _ (G9 ⟨(.hp h.length 0 0 0),v+1+1,g,(Lib.cut (Lib.cut s [38]).2.1 [59]).2.1,out++(Lib.cut s [38]).1++enc (signF (Lib.cut (Lib.cut s [38]).2.1 [59]).1).1,rfl,ar,?_,.inr rfl,by omega,by rw[← hv];simp,by simp only[H7];omega⟩) (by omega);all_goals first|exact aE F|rfl|omega|trivial|skip
    ·rw[G0 (by simp[g3])]at hv;refine aJ F (cQ G (.hp h.length 0 0 0) h [] (v+1) (out++(Lib.cut s [38]).1) 38 (.inr rfl) (by simp only[H7];omega)) ?_;refine hK2 _ _ _ (G9 ⟨(.hp h.length 0 0 0),v+1+1,g,(Lib.cut s [38]).2.1,out++(Lib.cut s [38]).1++[38],rfl,ar,?_,.inr rfl,by omega,by rw[← hv];simp,by simp only[H7,G5,H6];omega⟩) (by omega);all_goals first|exact aE F|rfl|omega|trivial|skip
   ·rw[G0 (by simp[show ¬(Lib.cut (Lib.cut s [38]).2.1 [59]).1.length≤10 by omega])]at hv;refine aJ F (cQ G (.hp h.length 0 0 0) h [] (v+1) (out++(Lib.cut s [38]).1) 38 (.inr rfl) (by simp only[H7];omega)) ?_;refine hK2 _ _ _ (G9 ⟨(.hp h.length 0 0 0),v+1+1,g,(Lib.cut s [38]).2.1,out++(Lib.cut s [38]).1++[38],rfl,ar,?_,.inr rfl,by omega,by rw[← hv];simp,by simp only[H7,G5,H6];omega⟩) (by omega);all_goals first|exact aE F|rfl|omega|trivial|skip
  ·rw[G0 (by simp[g1])]at hv;refine aJ F (cQ G (.hp h.length 0 0 0) h [] (v+1) (out++(Lib.cut s [38]).1) 38 (.inr rfl) (by simp only[H7];omega)) ?_;refine hK2 _ _ _ (G9 ⟨(.hp h.length 0 0 0),v+1+1,g,(Lib.cut s [38]).2.1,out++(Lib.cut s [38]).1++[38],rfl,ar,?_,.inr rfl,by omega,by rw[← hv];simp,by simp only[H7,G5,H6];omega⟩) (by omega);all_goals first|exact aE F|rfl|omega|trivial|skip
end Go.Av
namespace Go.Av
open Go Go.Proofs Go.RowKit
attribute [local irreducible] WP WPl WPix Sat
variable (G:Nat→Option (List AVal))
def rdrR(s:Bs)(b:Bool):Blk:=.row 179 2 0 [.agg [.str s,.bool b]]
def rdH(h j:Heap)(s:Bs)(b:Bool):Heap:=h++rdrR s b::j
theorem da(h j:Heap)(s:Bs)(b:Bool):(rdH h j s b).length=h.length+(1+j.length):=by simp[rdH];omega
theorem xB(n:Nat)(s:Bs)(b:Bool):CloB n (rdrR s b):=by
 intro r hr;simp only[M4]at hr;subst hr;exact .agg _ (by intro c hc;simp at hc;rcases hc with rfl|rfl;exact .str _;exact .bool _)
theorem oR(h j:Heap)(s s0:Bs)(b b0:Bool)(n:Nat):∀(p:Nat) (k:Blk),(rdH h j s b)[p]? =some k→(rdH h j s0 b0)[p]? =some k∨CloB n k:=by
 intro p k hk;unfold rdH at*;rcases N9 p h.length with h1|h1
 ·rw[H0 h1]at hk ⊢;exact .inl hk
 ·rw[I3 h1]at hk ⊢
  match p-h.length,hk with
  |0,hk=>simp at hk;subst hk;exact .inr (xB _ _ _)
  |i+1,hk=>exact .inl hk
theorem cy(h j jj:Heap)(s s0:Bs)(b b0:Bool){h2:Heap}{x:AVal}(hh:h2=rdH h j s b++jj)(hx:∀n,Clo n x):Fin (rdH h j s0 b0) h2 (fun r h'=>r=x∧h'=rdH h j s b) x:=
 Fin.keepE (h1:=rdH h j s b) hh (by simp only[da]) (fun p k hk=>oR _ _ _ _ _ _ _ p k hk) (hx _) ⟨rfl,rfl⟩
@[go_sem] theorem AY(s:Bs)(b:Bool)(l:Heap):getRow (rdrR s b::l) 0 0=some (179,2,[.agg [.str s,.bool b]]):=rfl
@[go_sem] theorem zM(h j:Heap)(s:Bs)(b:Bool):getRow (rdH h j s b) h.length 0=some (179,2,[.agg [.str s,.bool b]]):=by simp[rdH,getRow,rdrR]
@[go_sem] theorem yi(h j jj:Heap)(s:Bs)(b:Bool):getRow (rdH h j s b++jj) h.length 0=some (179,2,[.agg [.str s,.bool b]]):=by simp[rdH,getRow,rdrR]
@[go_sem] theorem DB(h j:Heap)(s s':Bs)(b b':Bool):List.set (rdH h j s b) h.length (.row 179 2 0 [.agg [.str s',.bool b']])=rdH h j s' b':=by simp[rdH,rdrR]
@[go_sem] theorem Cv(h j jj:Heap)(s s':Bs)(b b':Bool):List.set (rdH h j s b++jj) h.length (.row 179 2 0 [.agg [.str s',.bool b']])=rdH h j s' b'++jj:=by simp[rdH,rdrR]
theorem bU(w s:Bs)(b:Bool)(h j:Heap):Sat (CT G) 168 [.hp h.length 0 0 0,.str w] (rdH h j s b)
  (fun r h'=>r=.bool (Lib.hasPrefix s w)∧h'=rdH h j (Lib.trimPrefix s w) b):=by
 have end_:=cy h j [] (Lib.trimPrefix s w) s b b (x:=.bool (Lib.hasPrefix s w)) (J3 _).symm (fun _=>.bool _);refine sb [.tmp 4] Tryz.func168 ?_;intro Q hQ;refine aj trivial ?_;refine aJ trivial (cO G s w _) ?_;refine ay hQ trivial ?_;exact end_
theorem j6(w s:Bs)(b:Bool)(h j:Heap):Sat (CT G) 229 [.hp h.length 0 0 0,.str w] (rdH h j s b)
  (fun r h'=>r=.tup []∧h'=rdH h j (Lib.trimPrefix s w) (b|| !Lib.hasPrefix s w)):=by
 have end_:=fun b1=>cy h j [] (Lib.trimPrefix s w) s b1 b (x:=.tup []) (J3 _).symm (fun _=>.tup _ (by simp))
 refine sb [] Tryz.func229 ?_;intro Q hQ;refine aj trivial ?_;refine aJ trivial (bU G w s b h j) ?_;refine aH trivial (fun hc=>?_) (fun hc=>?_)<;>(try exact hc.elim)<;>(refine aj trivial ?_)
 ·refine ay hQ trivial ?_;simp only[hc,R4,T6];exact end_ _
 ·refine ay hQ trivial ?_;simp only[hc,Q2,Q1];exact end_ _
def uptoF(w s:Bs)(b:Bool):Bs×Bs×Bool:=if (Lib.cut s w).2.2=true then((Lib.cut s w).1,(Lib.cut s w).2.1,b)else([],s,true)
theorem dC(hG:GOk G)(w s:Bs)(b:Bool)(hs:s.length≤1073741824)(h j:Heap):Sat (CT G) 169 [.hp h.length 0 0 0,.str w] (rdH h j s b)
  (fun r h'=>r=.str (uptoF w s b).1∧h'=rdH h j (uptoF w s b).2.1 (uptoF w s b).2.2):=by
 refine sb [.tmp 4] Tryz.func169 ?_;intro Q hQ;refine aj trivial ?_;refine aJ trivial (iu G hG s w hs _) ?_;refine aH trivial (fun hc=>?_) (fun hc=>?_)<;>(try exact hc.elim)<;>(refine aj trivial ?_)
 ·have e:uptoF w s b=([],s,true):=by unfold uptoF;rw[G0 (by simp[hc])]
  refine ay hQ trivial ?_;rw[e];exact cy h j [] s s true b (x:=.str []) (J3 _).symm (fun _=>.str _)
 ·have e:uptoF w s b=((Lib.cut s w).1,(Lib.cut s w).2.1,b):=by unfold uptoF;rw[G3 (by simpa using hc)]
  refine ay hQ trivial ?_;rw[e];exact cy h j [] (Lib.cut s w).2.1 s b b (x:=.str (Lib.cut s w).1) (J3 _).symm (fun _=>.str _)
structure ByByte (P:Int→Bool) (q:UInt8→Bool) (hi:Bool):Prop where
 low:∀b:UInt8,b.toNat<128→P b.toNat=q b
 high:∀c:Int,128≤c→Rune c→P c=hi
 bytes:∀b:UInt8,128≤b.toNat→q b=hi
theorem dJ(q:UInt8→Bool):∀(s:Bs) (k:Nat),(∀i,i<k→∀c,s[i]? =some c→q c=true)→k≤s.length→(k=s.length∨∃c,s[k]? =some c∧q c=false)→
  s.takeWhile q=s.take k∧s.dropWhile q=s.drop k:=by
 intro s;induction s with
 |nil=>intro k _ hk _;simp at hk;subst hk;simp
 |cons a t ih=>
  intro k h hk he;cases k with
  |zero=>
   rcases he with he| ⟨c,hc,hq⟩
   ·simp at he
   ·simp at hc;subst hc;simp[hq]
  |succ k=>
   have ha:q a=true:=h 0 (by omega) a rfl;have:=ih k (fun i hi c hc=>h (i+1) (by omega) c (by simpa using hc)) (by simpa using hk) (by
    rcases he with he| ⟨c,hc,hq⟩
    ·exact .inl (by simpa using he)
    ·exact .inr ⟨c,by simpa using hc,hq⟩)
   simp[List.takeWhile,List.dropWhile,ha,this]
theorem ky(P:Int→Bool)(q:UInt8→Bool)(hi:Bool)(hP:ByByte P q hi)(g:FuncId)(s:Bs)(b:Bool)(hs:s.length≤1073741824)(h j:Heap)
  (hg:∀(c:Int) (k:Heap),Rune c→Sat (CT G) g [.int .i32 c] k (fun r h'=>r=.bool (P c)∧h'=k)):
  Sat (CT G) 175 [.hp h.length 0 0 0,.fn (.func g) [] []] (rdH h j s b)
   (fun r h'=>r=.str (s.takeWhile q)∧h'=rdH h j (s.dropWhile q) b):=by
 refine sb [.tmp 4] Tryz.func175 ?_;intro Q hQ;(repeat (first|refine w1 (fun K hK=>?_)|refine w2 ?_|refine w3 ?_| ((first|refine w4 ?_|refine wD ?_|refine w5 ?_|refine w6 ?_|refine w7 ?_);try refine am trivial ?_)| (refine w8 ?_;refine am trivial ?_;refine w9 ?_)| ((first|refine hK _ _ (w0 ?_)| (clear hK K;refine hK _ _ (w0 ?_))| (clear hK K;clear hK K;refine hK _ _ (w0 ?_)));clear hK K)))
 have tail:∀(t':Env) (k pos:Nat),t' 0=.hp h.length 0 0 0→t' 5=.int .i64 k→k≤s.length→s.takeWhile q=s.take k→s.dropWhile q=s.drop k→K t' (rdH h j s b++[.iter s pos]):=by
  intro t' k pos e0 e5 hk h1 h2;refine hK _ _ (G9 ?_);clear hK K;have F:=F2 e0 e5;(repeat (first|refine w1 (fun K hK=>?_)|refine w2 ?_|refine w3 ?_| ((first|refine w4 ?_|refine wD ?_|refine w5 ?_|refine w6 ?_|refine w7 ?_);try refine am F ?_)| (refine w8 ?_;refine am F ?_;refine w9 ?_)| ((first|refine hK _ _ (w0 ?_)| (clear hK K;refine hK _ _ (w0 ?_))| (clear hK K;clear hK K;refine hK _ _ (w0 ?_)));clear hK K)))
  rw[h1,h2]at hQ;refine ay hQ F ?_;exact cy h j [.iter s pos] (s.drop k) s b b (x:=.str (s.take k)) rfl (fun _=>.str _)
 refine lm (fun nL tL hL=>∃(k:Nat),s.length-k=nL∧rdH h j s b++[.iter s k]=hL∧tL 5=.int .i64 s.length∧k≤s.length∧∀i,i<k→∀c,s[i]? =some c→q c=true) ((fun(k:Nat)=>(s.length-k:Nat)) (0)) ?_ ?_
 ·refine G9 ⟨0,rfl,ar,?_,by omega,fun i hi=>by omega⟩;all_goals first|exact aE trivial|rfl|omega|trivial|skip
 rintro _ s2 h' ⟨k,rfl,rfl,e5,hk,hq⟩ K2 hK2;simp only[ai,ak,Nat.reduceEqDiff, ↓reduceIte]at e5;have F:=e5;(repeat (first|refine w1 (fun K hK=>?_)|refine w2 ?_|refine w3 ?_| ((first|refine w4 ?_|refine wD ?_|refine w5 ?_|refine w6 ?_|refine w7 ?_);try refine am F ?_)| (refine w8 ?_;refine am F ?_;refine w9 ?_)| ((first|refine hK _ _ (w0 ?_)| (clear hK K;refine hK _ _ (w0 ?_))| (clear hK K;clear hK K;refine hK _ _ (w0 ?_)));clear hK K)))
 refine cd (d9 _ _ _ _) (fun hlt=>?_) (fun hge=>?_)
 ·have hb:=G1 hlt;by_cases ha:s[k].toNat<128
  ·have hd:Utf8.decode ⟨s.toArray⟩ k=(s[k].toNat,1):=d6 s k _ hb ha;have hPq:=hP.low s[k] ha;rw[hd];(try refine am F ?_);(repeat (first|refine w1 (fun K hK=>?_)|refine w2 ?_|refine w3 ?_| ((first|refine w4 ?_|refine wD ?_|refine w5 ?_|refine w6 ?_|refine w7 ?_);try refine am F ?_)| (refine w8 ?_;refine am F ?_;refine w9 ?_)| ((first|refine hK _ _ (w0 ?_)| (clear hK K;refine hK _ _ (w0 ?_))| (clear hK K;clear hK K;refine hK _ _ (w0 ?_)));clear hK K)))
   refine(hg s[k].toNat _ ⟨by omega,by omega⟩).mono ?_;rintro r h' ⟨rfl,rfl⟩;(try refine am F ?_);(repeat (first|refine w1 (fun K hK=>?_)|refine w2 ?_|refine w3 ?_| ((first|refine w4 ?_|refine wD ?_|refine w5 ?_|refine w6 ?_|refine w7 ?_);try refine am F ?_)| (refine w8 ?_;refine am F ?_;refine w9 ?_)| ((first|refine hK _ _ (w0 ?_)| (clear hK K;refine hK _ _ (w0 ?_))| (clear hK K;clear hK K;refine hK _ _ (w0 ?_)));clear hK K)))
   refine aH F (fun hc=>?_) (fun hc=>?_)<;>(try exact hc.elim)<;>((repeat (first|refine w1 (fun K hK=>?_)|refine w2 ?_|refine w3 ?_| ((first|refine w4 ?_|refine wD ?_|refine w5 ?_|refine w6 ?_|refine w7 ?_);try refine am F ?_)| (refine w8 ?_;refine am F ?_;refine w9 ?_)| ((first|refine hK _ _ (w0 ?_)| (clear hK K;refine hK _ _ (w0 ?_))| (clear hK K;clear hK K;refine hK _ _ (w0 ?_)));clear hK K))))
   ·have hqf:q s[k]=false:=(by rw[← hPq];exact hc);obtain⟨h1,h2⟩:=dJ q s k hq hk (.inr ⟨_,hb,hqf⟩);refine tail _ k _ ?_ ?_ hk h1 h2
    ·exact aE F
    ·exact aE F
   ·have hqt:q s[k]=true:=(by rw[← hPq];exact hc);have hq1:∀i,i<k+1→∀c,s[i]? =some c→q c=true:=fun i hi c hc2=>by
     rcases N9 i k with h1|h1
     ·exact hq i h1 c hc2
     ·obtain rfl:i=k:=by omega
      rw[hb]at hc2;cases hc2;exact hqt
    refine hK2 _ _ _ (G9 ⟨k+1,rfl,ar,?_,by omega,hq1⟩) (by omega);all_goals first|exact aE F|rfl|omega|trivial|skip
  ·obtain⟨hd1,hd2,hd3⟩:=gg s k _ hb (by omega);obtain⟨hd4,hd5⟩:=bg s k hlt;have hR:Rune (dec s k).1:=⟨by omega,by omega⟩
   have hPq:=hP.high (dec s k).1 (by omega) hR;unfold dec at*;(try refine am F ?_);(repeat (first|refine w1 (fun K hK=>?_)|refine w2 ?_|refine w3 ?_| ((first|refine w4 ?_|refine wD ?_|refine w5 ?_|refine w6 ?_|refine w7 ?_);try refine am F ?_)| (refine w8 ?_;refine am F ?_;refine w9 ?_)| ((first|refine hK _ _ (w0 ?_)| (clear hK K;refine hK _ _ (w0 ?_))| (clear hK K;clear hK K;refine hK _ _ (w0 ?_)));clear hK K)))
   refine(hg (Utf8.decode ⟨s.toArray⟩ k).1 _ hR).mono ?_;rintro r h' ⟨rfl,rfl⟩;(try refine am F ?_);(repeat (first|refine w1 (fun K hK=>?_)|refine w2 ?_|refine w3 ?_| ((first|refine w4 ?_|refine wD ?_|refine w5 ?_|refine w6 ?_|refine w7 ?_);try refine am F ?_)| (refine w8 ?_;refine am F ?_;refine w9 ?_)| ((first|refine hK _ _ (w0 ?_)| (clear hK K;refine hK _ _ (w0 ?_))| (clear hK K;clear hK K;refine hK _ _ (w0 ?_)));clear hK K)))
   refine aH F (fun hc=>?_) (fun hc=>?_)<;>(try exact hc.elim)<;>((repeat (first|refine w1 (fun K hK=>?_)|refine w2 ?_|refine w3 ?_| ((first|refine w4 ?_|refine wD ?_|refine w5 ?_|refine w6 ?_|refine w7 ?_);try refine am F ?_)| (refine w8 ?_;refine am F ?_;refine w9 ?_)| ((first|refine hK _ _ (w0 ?_)| (clear hK K;refine hK _ _ (w0 ?_))| (clear hK K;clear hK K;refine hK _ _ (w0 ?_)));clear hK K))))
   ·have hqf:q s[k]=false:=(by rw[hP.bytes _ (by omega), ← hPq];exact hc);obtain⟨h1,h2⟩:=dJ q s k hq hk (.inr ⟨_,hb,hqf⟩);refine tail _ k _ ?_ ?_ hk h1 h2
    ·exact aE F
    ·exact aE F
   ·have hit:hi=true:=(by rw[← hPq];exact hc);have hq1:∀i,i<k+(Utf8.decode ⟨s.toArray⟩ k).2→∀c,s[i]? =some c→q c=true:=fun i hi2 c hc2=>by
     rcases N9 i k with h1|h1
     ·exact hq i h1 c hc2
     ·rw[hP.bytes c (hd3 (i-k) (by omega) c (by rw[show k+(i-k)=i by omega];exact hc2)),hit]
    refine hK2 _ _ _ (G9 ⟨k+(Utf8.decode ⟨s.toArray⟩ k).2,rfl,ar,?_,by omega,hq1⟩) (by omega);all_goals first|exact aE F|rfl|omega|trivial|skip
 ·obtain⟨h1,h2⟩:=dJ q s s.length (fun i hi=>hq i (by omega)) (H5 _) (.inl rfl);try refine am F ?_
  (repeat (first|refine w1 (fun K hK=>?_)|refine w2 ?_|refine w3 ?_| ((first|refine w4 ?_|refine wD ?_|refine w5 ?_|refine w6 ?_|refine w7 ?_);try refine am F ?_)| (refine w8 ?_;refine am F ?_;refine w9 ?_)| ((first|refine hK _ _ (w0 ?_)| (clear hK K;refine hK _ _ (w0 ?_))| (clear hK K;clear hK K;refine hK _ _ (w0 ?_)));clear hK K)))
  refine tail _ s.length _ ?_ ?_ (H5 _) h1 h2
  ·exact aE F
  ·exact aE F
def beginF(c:Int):Bool:=decide (65≤c∧c≤90∨97≤c∧c≤122∨c=95)
def moreF(c:Int):Bool:=decide (65≤c∧c≤90∨97≤c∧c≤122∨c=95∨48≤c∧c≤57∨c=58∨c=45∨c=46)
theorem gw(c:Int)(h:Heap):Sat (CT G) 269 [.int .i32 c] h (fun r h'=>r=.bool (beginF c)∧h'=h):=by
 refine sb [.tmp 2] Tryz.func269 ?_;intro Q hQ;refine aj trivial ?_;(first|refine bD trivial (fun g1=>?_) (fun g1=>?_)|refine pqo trivial (fun g1=>?_) (fun g1=>?_))<;>(try exact g1.elim)<;>(try refine am trivial ?_)<;>(refine aj trivial ?_)
 all_goals try ((first|refine bD trivial (fun g2=>?_) (fun g2=>?_)|refine pqo trivial (fun g2=>?_) (fun g2=>?_))<;>(try exact g2.elim)<;>(try refine am trivial ?_)<;>(refine aj trivial ?_))
 all_goals try ((first|refine bD trivial (fun g3=>?_) (fun g3=>?_)|refine pqo trivial (fun g3=>?_) (fun g3=>?_))<;>(try exact g3.elim)<;>(try refine am trivial ?_)<;>(refine aj trivial ?_))
 all_goals try ((first|refine bD trivial (fun g4=>?_) (fun g4=>?_)|refine pqo trivial (fun g4=>?_) (fun g4=>?_))<;>(try exact g4.elim)<;>(try refine am trivial ?_)<;>(refine aj trivial ?_))
 all_goals try ((first|refine bD trivial (fun g5=>?_) (fun g5=>?_)|refine pqo trivial (fun g5=>?_) (fun g5=>?_))<;>(try exact g5.elim)<;>(try refine am trivial ?_)<;>(refine aj trivial ?_))
 all_goals try (exfalso;omega)
 all_goals
  refine ay hQ trivial ?_;refine fR (.bool _) ?_;unfold beginF;congr 1
  rw[N8];simp only[H2,beq_iff_eq,true_iff,I7,false_iff];omega
theorem mQ(c:Int)(h:Heap):Sat (CT G) 268 [.int .i32 c] h (fun r h'=>r=.bool (moreF c)∧h'=h):=by
 refine sb [.tmp 2] Tryz.func268 ?_;intro Q hQ;refine aj trivial ?_;refine aJ trivial (gw G c _) ?_;(first|refine bD trivial (fun g1=>?_) (fun g1=>?_)|refine pqo trivial (fun g1=>?_) (fun g1=>?_))<;>(try exact g1.elim)<;>(try refine am trivial ?_)<;>(refine aj trivial ?_)
 all_goals try ((first|refine bD trivial (fun g2=>?_) (fun g2=>?_)|refine pqo trivial (fun g2=>?_) (fun g2=>?_))<;>(try exact g2.elim)<;>(try refine am trivial ?_)<;>(refine aj trivial ?_))
 all_goals try ((first|refine bD trivial (fun g3=>?_) (fun g3=>?_)|refine pqo trivial (fun g3=>?_) (fun g3=>?_))<;>(try exact g3.elim)<;>(try refine am trivial ?_)<;>(refine aj trivial ?_))
 all_goals try ((first|refine bD trivial (fun g4=>?_) (fun g4=>?_)|refine pqo trivial (fun g4=>?_) (fun g4=>?_))<;>(try exact g4.elim)<;>(try refine am trivial ?_)<;>(refine aj trivial ?_))
 all_goals try ((first|refine bD trivial (fun g5=>?_) (fun g5=>?_)|refine pqo trivial (fun g5=>?_) (fun g5=>?_))<;>(try exact g5.elim)<;>(try refine am trivial ?_)<;>(refine aj trivial ?_))
 all_goals try ((first|refine bD trivial (fun g6=>?_) (fun g6=>?_)|refine pqo trivial (fun g6=>?_) (fun g6=>?_))<;>(try exact g6.elim)<;>(try refine am trivial ?_)<;>(refine aj trivial ?_))
 all_goals try ((first|refine bD trivial (fun g7=>?_) (fun g7=>?_)|refine pqo trivial (fun g7=>?_) (fun g7=>?_))<;>(try exact g7.elim)<;>(try refine am trivial ?_)<;>(refine aj trivial ?_))
 all_goals try simp only[beginF,H2,decide_eq_false_iff_not]at g1
 all_goals try (exfalso;omega)
 all_goals
  refine ay hQ trivial ?_;refine fR (.bool _) ?_;unfold moreF;try unfold beginF
  congr 1
  rw[N8];simp only[H2,beq_iff_eq,true_iff,I7,false_iff];omega
end Go.Av

namespace Go.Av
open Go Go.Proofs Go.RowKit
attribute [local irreducible] WP WPl WPix Sat
variable (G:Nat→Option (List AVal))
theorem dZ(r:Int)(hr:Rune r)(h:Heap):Sat (CT G) 342 [.int .i32 r] h (fun x h'=>x=.bool true∧h'=h):=by
 obtain⟨h0,h1⟩:=hr;refine sb [.tmp 2] Tryz.func342 ?_;intro Q hQ;refine aj trivial ?_;(first|refine bD trivial (fun g1=>?_) (fun g1=>?_)|refine pqo trivial (fun g1=>?_) (fun g1=>?_))<;>(try exact g1.elim)<;>(try refine am trivial ?_)<;>(refine aj trivial ?_)
 ·refine aH trivial (fun c1=>?_) (fun c1=>?_)<;>(try exact c1.elim)<;>(refine aj trivial ?_)
  ·refine ay hQ trivial ?_;refine fR (.bool _) ?_;rfl
  ·(first|refine bD trivial (fun g2=>?_) (fun g2=>?_)|refine pqo trivial (fun g2=>?_) (fun g2=>?_))<;>(try exact g2.elim)<;>(try refine am trivial ?_)<;>(refine aj trivial ?_)
   ·refine aH trivial (fun c2=>?_) (fun c2=>?_)<;>(try exact c2.elim)<;>(refine aj trivial ?_)
    ·refine ay hQ trivial ?_;refine fR (.bool _) ?_;rfl
    ·exfalso;omega
   ·exfalso;omega
 ·exfalso;omega
theorem rU(r:Int)(hr:Rune r)(h1:128≤r):∃b:UInt8,128≤b.toNat∧((∃a,enc r=[a,b])∨(∃a c,enc r=[a,c,b])∨(∃a c d,enc r=[a,c,d,b])):=by
 have hf:fix r=r.toNat:=by unfold fix;rw[G3 hr.valid]
 rw[fJ,hf];simp only[];have hlt:∀n,(128≤n∧n<256)→128≤(UInt8.ofNat n).toNat:=fun n h=>by rw[ax n h.2];exact h.1
 rw[G0 (by omega)];by_cases h2:r.toNat<2048
 ·rw[G3 h2];exact⟨_,hlt (128+r.toNat%64) (by omega),.inl ⟨_,rfl⟩⟩
 ·rw[G0 h2];by_cases h3:r.toNat<65536
  ·rw[G3 h3];exact⟨_,hlt (128+r.toNat%64) (by omega),.inr (.inl ⟨_,_,rfl⟩)⟩
  ·rw[G0 h3];exact⟨_,hlt (128+r.toNat%64) (by omega),.inr (.inr ⟨_,_,_,rfl⟩)⟩
theorem cK(b:UInt8)(hb:128≤b.toNat):∀l:Bs,(∀c∈l,c.toNat<128)→Lib.indexByte l b= -1
 | [],_=>rfl
 |c::l,h=>by
  have h1:=h c (by simp);have hne:¬c=b:=fun e=>by subst e;omega
  have ih:=cK b hb l fun x hx=>h x (by simp[hx])
  rw[Lib.indexByte,G0 (by simpa using hne),ih];rfl
def blk4:Bs:=[32,9,13,10]
theorem kz(r:Int)(hr:Rune r)(h1:128≤r)(h:Heap):Sat (CT G) 304 [.str blk4,.int .i32 r] h (fun x h'=>x=.int .i64 (-1)∧h'=h):=by
 refine sb [.tmp 4] Tryz.func304 ?_;intro Q hQ;refine aj trivial ?_;have hr':=hr;obtain⟨h2,h3⟩:=hr;(first|refine bD trivial (fun g1=>?_) (fun g1=>?_)|refine pqo trivial (fun g1=>?_) (fun g1=>?_))<;>(try exact g1.elim)<;>(try refine am trivial ?_)<;>(refine aj trivial ?_)
 ·refine aH trivial (fun c1=>?_) (fun c1=>?_)<;>(try exact c1.elim)<;>(refine aj trivial ?_)
  ·exfalso;omega
  ·refine aH trivial (fun c2=>?_) (fun c2=>?_)<;>(try exact c2.elim)<;>(refine aj trivial ?_)
   ·refine lm (fun nL tL hL=>∃(k:Nat),4-k=nL∧h++[.iter blk4 k]=hL∧k≤4) ((fun(k:Nat)=>(4-k:Nat)) (0)) ?_ ?_
    ·refine G9 ⟨0,rfl,ar,by omega⟩;all_goals first|exact aE trivial|rfl|omega|trivial|skip
    rintro _ s2 h' ⟨k,rfl,rfl,hk⟩ K2 hK2;refine aj trivial ?_;refine cd (d9 _ _ _ _) (fun hlt=>?_) (fun hge=>?_)
    ·have hd:Utf8.decode ⟨blk4.toArray⟩ k=(blk4[k].toNat,1):=d6 blk4 k _ (G1 hlt) (by
      have:∀b∈blk4,b.toNat<128:=by decide
      exact this _ (List.getElem_mem hlt))
     have hb:blk4[k].toNat<128:=by
      have:∀b∈blk4,b.toNat<128:=by decide
      exact this _ (List.getElem_mem hlt)
     have hl4:blk4.length=4:=rfl;rw[hd];(try refine am trivial ?_);refine aj trivial ?_;refine aH trivial (fun c3=>?_) (fun c3=>?_)<;>(try exact c3.elim)<;>(refine aj trivial ?_)
     ·exfalso;omega
     ·refine hK2 _ _ _ (G9 ⟨k+1,rfl,ar,by omega⟩) (by omega);all_goals first|exact aE trivial|rfl|omega|trivial|skip
    ·(try refine am trivial ?_);refine aj trivial ?_;refine ay hQ trivial ?_;refine fR (.int _ _) ?_;rfl
   ·obtain⟨b,hb,he⟩:=rU r hr' h1;rcases he with⟨a,he⟩| ⟨a,c,he⟩| ⟨a,c,d,he⟩
    ·have F:=F5 @eF he @Q2 @Int.cast_ofNat_Int @Int.toNat_one;refine aJ F (dZ G r hr' _) ?_;refine lm (fun nL tL hL=>0=nL∧h=hL∧tL 9=.int .i64 1) (0) ?_ ?_
     ·refine G9 ⟨rfl,ar,?_⟩;all_goals first|exact aE F|rfl|omega|trivial|skip
     rintro _ s3 h' ⟨rfl,rfl,e9⟩ K3 hK3;simp only[ai,ak,Nat.reduceEqDiff, ↓reduceIte]at e9;have F:=F2 F e9;have hl4:blk4.length=4:=rfl;have hb1:blk4[1]? =some 9:=rfl;have hab:([a,b]:Bs)[1]? =some b:=rfl;have hib:Lib.indexByte (blk4.drop 2) b= -1:=cK b hb _ (by decide);have h9:(9:UInt8).toNat=9:=rfl;have F:=F4 F hb1 hab hib;refine aj F ?_;refine aH F (fun c4=>?_) (fun c4=>?_)<;>(try exact c4.elim)<;>(refine aj F ?_)
     ·refine aH F (fun c5=>?_) (fun c5=>?_)<;>(try exact c5.elim)<;>(refine aj F ?_)
      ·refine aa (bj G (blk4.drop 2) b _) ?_;(try refine am F ?_);refine aj F ?_;refine aH F (fun c6=>?_) (fun c6=>?_)<;>(try exact c6.elim)<;>(refine aj F ?_)
       ·refine ay hQ F ?_;refine fR (.int _ _) ?_;rfl
       ·exact absurd c6 (by decide)
      ·exfalso;omega
     ·exfalso;omega
    ·have F:=F5 @eF he @Q2 @Int.cast_ofNat_Int @Int.toNat_one;refine aJ F (dZ G r hr' _) ?_;refine lm (fun nL tL hL=>0=nL∧h=hL∧tL 9=.int .i64 2) (0) ?_ ?_
     ·refine G9 ⟨rfl,ar,?_⟩;all_goals first|exact aE F|rfl|omega|trivial|skip
     rintro _ s3 h' ⟨rfl,rfl,e9⟩ K3 hK3;simp only[ai,ak,Nat.reduceEqDiff, ↓reduceIte]at e9;have F:=F2 F e9;have hl4:blk4.length=4:=rfl;have hb1:blk4[2]? =some 13:=rfl;have hab:([a,c,b]:Bs)[2]? =some b:=rfl;have hib:Lib.indexByte (blk4.drop 3) b= -1:=cK b hb _ (by decide);have h9:(13:UInt8).toNat=13:=rfl;have F:=F4 F hb1 hab hib;refine aj F ?_;refine aH F (fun c4=>?_) (fun c4=>?_)<;>(try exact c4.elim)<;>(refine aj F ?_)
     ·refine aH F (fun c5=>?_) (fun c5=>?_)<;>(try exact c5.elim)<;>(refine aj F ?_)
      ·refine aa (bj G (blk4.drop 3) b _) ?_;(try refine am F ?_);refine aj F ?_;refine aH F (fun c6=>?_) (fun c6=>?_)<;>(try exact c6.elim)<;>(refine aj F ?_)
       ·refine ay hQ F ?_;refine fR (.int _ _) ?_;rfl
       ·exact absurd c6 (by decide)
      ·exfalso;omega
     ·exfalso;omega
    ·have F:=F5 @eF he @Q2 @Int.cast_ofNat_Int @Int.toNat_one;refine aJ F (dZ G r hr' _) ?_;refine lm (fun nL tL hL=>0=nL∧h=hL∧tL 9=.int .i64 3) (0) ?_ ?_
     ·refine G9 ⟨rfl,ar,?_⟩;all_goals first|exact aE F|rfl|omega|trivial|skip
     rintro _ s3 h' ⟨rfl,rfl,e9⟩ K3 hK3;simp only[ai,ak,Nat.reduceEqDiff, ↓reduceIte]at e9;have F:=F2 F e9;have hl4:blk4.length=4:=rfl;have hb1:blk4[3]? =some 10:=rfl;have hab:([a,c,d,b]:Bs)[3]? =some b:=rfl;have hib:Lib.indexByte (blk4.drop 4) b= -1:=cK b hb _ (by decide);have h9:(10:UInt8).toNat=10:=rfl;have F:=F4 F hb1 hab hib;refine aj F ?_;refine aH F (fun c4=>?_) (fun c4=>?_)<;>(try exact c4.elim)<;>(refine aj F ?_)
     ·refine aH F (fun c5=>?_) (fun c5=>?_)<;>(try exact c5.elim)<;>(refine aj F ?_)
      ·refine aa (bj G (blk4.drop 4) b _) ?_;(try refine am F ?_);refine aj F ?_;refine aH F (fun c6=>?_) (fun c6=>?_)<;>(try exact c6.elim)<;>(refine aj F ?_)
       ·refine ay hQ F ?_;refine fR (.int _ _) ?_;rfl
       ·exact absurd c6 (by decide)
      ·exfalso;omega
     ·exfalso;omega
 ·exfalso;omega
theorem iK(r:Int)(hr:Rune r)(h1:128≤r)(h:Heap):Sat (CT G) 271 [.str blk4,.int .i32 r] h (fun x h'=>x=.bool false∧h'=h):=by
 refine sb [.tmp 4] Tryz.func271 ?_;intro Q hQ;refine aj trivial ?_;refine aJ trivial (kz G r hr h1 _) ?_;refine ay hQ trivial ?_;refine fR (.bool _) ?_;rfl
end Go.Av
namespace Go.Av
open Go Go.Proofs Go.RowKit
attribute [local irreducible] WP WPl WPix Sat
variable (G:Nat→Option (List AVal))
def blankP(c:Int):Bool:=decide (c=32∨c=9∨c=13∨c=10)
def blankB(b:UInt8):Bool:=blankP b.toNat
def moreB(b:UInt8):Bool:=moreF b.toNat
theorem mR:∀x:_root_.Fin 128,decide (0≤Lib.indexByte blk4 x.val.toUInt8)=blankP x.val:=by decide+kernel
theorem qf(c:Int)(hc:Rune c)(h:Heap):Sat (CT G) 270 [.int .i32 c] h (fun r h'=>r=.bool (blankP c)∧h'=h):=by
 have hR:=hc;obtain⟨h0,h1⟩:=hc;by_cases hlt:c<128
 ·have e:decide (0≤Lib.indexByte blk4 c.toNat.toUInt8)=blankP c:=by
   have:=mR ⟨c.toNat,by omega⟩;rw[show(c.toNat:Int)=c by omega]at this;exact this
  have hs:=dO G blk4 c h0 hlt h;rw[e]at hs;refine sb [.tmp 2] Tryz.func270 ?_;intro Q hQ;refine aj trivial ?_;refine aJ trivial (hs) ?_;refine ay hQ trivial ?_;refine fR (.bool _) ?_;rfl
 ·have hs:=iK G c hR (by omega) h;have e:blankP c=false:=by unfold blankP;simp;omega
  refine sb [.tmp 2] Tryz.func270 ?_;intro Q hQ;refine aj trivial ?_;refine aJ trivial (hs) ?_;refine ay hQ trivial ?_;refine fR (.bool _) ?_;rw[e]
theorem uo:ByByte blankP blankB false:=⟨fun _ _=>rfl,fun c hc _=>by unfold blankP;simp;omega,fun b hb=>by unfold blankB blankP;simp;omega⟩
theorem vT:ByByte moreF moreB false:=⟨fun _ _=>rfl,fun c hc _=>by unfold moreF;simp;omega,fun b hb=>by unfold moreB moreF;simp;omega⟩
theorem fp(s:Bs)(b:Bool)(hs:s.length≤1073741824)(h j:Heap):Sat (CT G) 228 [.hp h.length 0 0 0] (rdH h j s b)
  (fun r h'=>r=.bool (!(s.takeWhile blankB==[]))∧h'=rdH h j (s.dropWhile blankB) b):=by
 have end_:=cy h j [] (s.dropWhile blankB) s b b (x:=.bool (!(s.takeWhile blankB==[]))) (J3 _).symm (fun _=>.bool _);refine sb [.tmp 2] Tryz.func228 ?_;intro Q hQ;refine aj trivial ?_;refine aJ trivial (ky G blankP blankB false uo 270 s b hs h j (fun c k hc=>qf G c hc k)) ?_;refine ay hQ trivial ?_;exact end_
theorem uq(k:IntKind)(b:UInt8):aconv Tryz.prog 5 21 (.int k b.toNat)=some (.int .i32 b.toNat):=by
 have hw:IntKind.wrap .i32 (b.toNat:Int)=b.toNat:=by have:=b.toNat_lt;rw[IntKind.wrap_i32];omega
 simp only[aconv,go_sem,hw]
def badN(n:Bs):Bool:=match n with
 | []=>true
 |c::_=> !(beginF c.toNat)||decide (64<n.length)
def nameW(s:Bs):Bs:=s.takeWhile moreB
def nameR(s:Bs):Bs:=s.dropWhile moreB
theorem gx(s:Bs)(b:Bool)(hs:s.length≤1073741824)(h j:Heap):Sat (CT G) 227 [.hp h.length 0 0 0] (rdH h j s b)
  (fun r h'=>r=.str (nameW s)∧h'=rdH h j (nameR s) (b||badN (nameW s))):=by
 have hl:(nameW s).length≤s.length:=(List.takeWhile_sublist _).length_le;have end_:=fun b1=>cy h j [] (nameR s) s b1 b (x:=.str (nameW s)) (J3 _).symm (fun _=>.str _)
 have hr:=ky G moreF moreB false vT 268 s b hs h j (fun c k _=>mQ G c k)
 change Sat _ _ _ _ (fun r h'=>r=.str (nameW s)∧h'=rdH h j (nameR s) b)at hr
 cases hn:nameW s with
 |nil=>
  rw[hn]at hr end_;have hnn:(([]:Bs)==[])=true:=rfl;have F:=hnn;refine sb [.tmp 2] Tryz.func227 ?_;intro Q hQ;refine aj F ?_;refine aJ F (hr) ?_;refine ay hQ F ?_;simp only[badN,T6];exact end_ _
 |cons c t=>
  rw[hn]at hr end_ hl;have hg:(c::t)[0]? =some c:=rfl;have hw:IntKind.wrap .i32 c.toNat=c.toNat:=by have:=c.toNat_lt;rw[IntKind.wrap_i32];omega
  have hnn:((c::t)==([]:Bs))=false:=rfl;have hbd:badN (c::t)=(!(beginF c.toNat)||decide (64<(c::t).length)):=rfl;have F:=F3 hg @uq hnn;refine sb [.tmp 2] Tryz.func227 ?_;intro Q hQ;refine aj F ?_;refine aJ F (hr) ?_;refine aJ F (gw G c.toNat _) ?_;(first|refine bD F (fun hb=>?_) (fun hb=>?_)|refine pqo F (fun hb=>?_) (fun hb=>?_))<;>(try exact hb.elim)<;>(try refine am F ?_)<;>(refine aj F ?_)
  ·refine ay hQ F ?_;have e:badN (c::t)=true:=(by rw[hbd];simp[hb]);rw[e,T6]at*;exact end_ _
  ·refine aH F (fun hc=>?_) (fun hc=>?_)<;>(try exact hc.elim)<;>(refine aj F ?_)
   ·refine ay hQ F ?_;have e:badN (c::t)=true:=by
     rw[hbd];have:64<(c::t).length:=by simp only[G5];omega
     rw[G8 this,T6]
    rw[e,T6]at*;exact end_ _
   ·refine ay hQ F ?_;have e:badN (c::t)=false:=by
     rw[hbd];have:¬64<(c::t).length:=by simp only[G5];omega
     rw[hb,G7 this];rfl
    rw[e,Q1]at*;exact end_ _
def valueF(s:Bs)(b:Bool):Bs×Bs×Bool:=
 let q:Bs:=if Lib.hasPrefix s [34]=true then [34]else [39]
 let s1:=Lib.trimPrefix s q
 let u:=uptoF q s1 (b|| !Lib.hasPrefix s q)
 (readP (u.1.length+1) u.1,u.2.1,u.2.2||Lib.contains u.1 [60])
theorem dS(w s:Bs)(b:Bool):(uptoF w s b).1.length≤s.length∧(uptoF w s b).2.1.length≤s.length:=by
 unfold uptoF;split
 ·rename_i h;have:=bG s w h;exact⟨by simp only[];omega,by simp only[];omega⟩
 ·exact⟨by simp,by simp⟩
theorem aL(s w:Bs):(Lib.trimPrefix s w).length≤s.length:=by
 unfold Lib.trimPrefix;split
 ·simp
 ·exact H5 _
theorem rV(hG:GOk G)(s:Bs)(b:Bool)(hs:s.length≤1048576)(h j:Heap):Sat (CT G) 272 [.hp h.length 0 0 0] (rdH h j s b)
  (fun r h'=>r=.str (valueF s b).1∧h'=rdH h j (valueF s b).2.1 (valueF s b).2.2):=by
 cases hp:Lib.hasPrefix s [34]with
 |true=>
  have hl:=aL s [34];have hu:=dS [34] (Lib.trimPrefix s [34]) b;have hv:valueF s b=(readP ((uptoF [34] (Lib.trimPrefix s [34]) b).1.length+1) (uptoF [34] (Lib.trimPrefix s [34]) b).1,(uptoF [34] (Lib.trimPrefix s [34]) b).2.1,(uptoF [34] (Lib.trimPrefix s [34]) b).2.2||Lib.contains (uptoF [34] (Lib.trimPrefix s [34]) b).1 [60]):=by
   simp[valueF,hp]
  have hus:=dC G hG [34] (Lib.trimPrefix s [34]) b (by omega) h j;rw[hv];generalize uptoF [34] (Lib.trimPrefix s [34]) b=u at hu hus ⊢;have end_:=fun b1=>cy h j [] u.2.1 s b1 b (x:=.str (readP (u.1.length+1) u.1)) (J3 _).symm (fun _=>.str _)
  have ht:=bU G [34] s b h j;rw[hp]at ht;have F:= @Q2;refine sb [.tmp 2] Tryz.func272 ?_;intro Q hQ;refine aj F ?_;refine aJ F (ht) ?_;refine aJ F (hus) ?_;(first|refine bD F (fun g=>?_) (fun g=>?_)|refine pqo F (fun g=>?_) (fun g=>?_))<;>(try exact g.elim)<;>(try refine am F ?_)<;>(refine aj F ?_)
  ·refine aJ F (fa hG u.1 (by omega) _) ?_;refine ay hQ F ?_;rw[g,L0]at*;exact end_ _
  ·refine aJ F (dm G hG u.1 [60] (by omega) _) ?_;refine aJ F (fa hG u.1 (by omega) _) ?_;refine ay hQ F ?_;rw[g,O0]at*;exact end_ _
 |false=>
  have hl:=aL s [39];have hu:=dS [39] (Lib.trimPrefix s [39]) (b|| !Lib.hasPrefix s [39]);have hv:valueF s b=(readP ((uptoF [39] (Lib.trimPrefix s [39]) (b|| !Lib.hasPrefix s [39])).1.length+1) (uptoF [39] (Lib.trimPrefix s [39]) (b|| !Lib.hasPrefix s [39])).1,(uptoF [39] (Lib.trimPrefix s [39]) (b|| !Lib.hasPrefix s [39])).2.1,(uptoF [39] (Lib.trimPrefix s [39]) (b|| !Lib.hasPrefix s [39])).2.2||Lib.contains (uptoF [39] (Lib.trimPrefix s [39]) (b|| !Lib.hasPrefix s [39])).1 [60]):=by
   simp[valueF,hp]
  have hus:=dC G hG [39] (Lib.trimPrefix s [39]) (b|| !Lib.hasPrefix s [39]) (by omega) h j;rw[hv];generalize uptoF [39] (Lib.trimPrefix s [39]) (b|| !Lib.hasPrefix s [39])=u at hu hus ⊢;have end_:=fun b1=>cy h j [] u.2.1 s b1 b (x:=.str (readP (u.1.length+1) u.1)) (J3 _).symm (fun _=>.str _)
  have htp:Lib.trimPrefix s [34]=s:=by unfold Lib.trimPrefix;rw[G0 (by simp[hp])]
  have ht:=bU G [34] s b h j;rw[hp,htp]at ht;have F:= @R4;refine sb [.tmp 2] Tryz.func272 ?_;intro Q hQ;refine aj F ?_;refine aJ F (ht) ?_;refine aJ F (j6 G [39] s b h j) ?_;refine aJ F (hus) ?_;(first|refine bD F (fun g=>?_) (fun g=>?_)|refine pqo F (fun g=>?_) (fun g=>?_))<;>(try exact g.elim)<;>(try refine am F ?_)<;>(refine aj F ?_)
  ·refine aJ F (fa hG u.1 (by omega) _) ?_;refine ay hQ F ?_;rw[g,L0]at*;exact end_ _
  ·refine aJ F (dm G hG u.1 [60] (by omega) _) ?_;refine aJ F (fa hG u.1 (by omega) _) ?_;refine ay hQ F ?_;rw[g,O0]at*;exact end_ _
end Go.Av
namespace Go.Av
open Go Go.RowKit
attribute [local irreducible] WP WPl WPix Sat
structure FrzR (h:Heap) (n:Nat) (r s:AVal):Prop where
 all:Frz h n r s
 len:r.cells.length=s.cells.length
 sto:∀d∈s.cells,d.sto=true
 cell:∀(j:Nat) (c d:AVal),r.cells[j]? =some c→s.cells[j]? =some d→Frz h n c d
theorem Frz.rows{h:Heap}{n q v e m:Nat}{rows es:List AVal}{len:Nat}{room:Bool}(hq:n≤q)(hg:getRow h q v=some (e,m,rows))(hlen:len=rows.length)(hl:es.length=rows.length)
  (hp:∀(i:Nat) (r s:AVal),rows[i]? =some r→es[i]? =some s→FrzR h n r s):Frz h n (.hs q v 0 len room) (.sl m es):=by
 subst hlen;have:=Frz.hs (h:=h) (n:=n) q v 0 rows.length room e m rows es hq hg (by omega) hl (fun i r s hr hs=>(hp i r s hr hs).all)
  (fun i r s hr hs=>⟨(hp i r s hr hs).len,fun j c d _ hd=>(hp i r s hr hs).sto d (G4 hd)⟩) (fun i r s j c d hr hs hc hd=>(hp i r s hr hs).cell j c d hc hd)
 rw[P2, ← hl,List.take_length]at this;rw[← hl];exact this
theorem FrzR.clo{h:Heap}{n:Nat}{r:AVal}(hc:Clo n r)(hs:∀d∈r.cells,d.sto=true):FrzR h n r r:=
 ⟨.clo _ hc,rfl,hs,fun j c d h1 h2=>by rw[h1]at h2;cases h2;exact .clo _ (hc.cells c (G4 h1))⟩
theorem FrzR.agg{h:Heap}{n:Nat}{cs ds:List AVal}(hl:cs.length=ds.length)(hs:∀d∈ds,d.sto=true)(hc:∀(i:Nat) (c d:AVal),cs[i]? =some c→ds[i]? =some d→Frz h n c d):FrzR h n (.agg cs) (.agg ds):=
 ⟨.agg _ _ hl hs hc,hl,hs,hc⟩
inductive FrzL (h:Heap) (n:Nat):List AVal→List AVal→Prop
 |nil:FrzL h n [] []
 |cons {c d:AVal} {cs ds:List AVal}:Frz h n c d→FrzL h n cs ds→FrzL h n (c::cs) (d::ds)
theorem FrzL.len{h:Heap}{n:Nat}{cs ds:List AVal}(z:FrzL h n cs ds):cs.length=ds.length:=by induction z with|nil=>rfl|cons _ _ ih=>simp[ih]
theorem FrzL.at_{h:Heap}{n:Nat}{cs ds:List AVal}(z:FrzL h n cs ds):∀(i:Nat) (c d:AVal),cs[i]? =some c→ds[i]? =some d→Frz h n c d:=by
 induction z with
 |nil=>intro i c d h1;simp at h1
 |cons z _ ih=>
  intro i c d h1 h2
  match i with
  |0=>simp at h1 h2;subst h1;subst h2;exact z
  |i+1=>exact ih i c d (by simpa using h1) (by simpa using h2)
theorem FrzL.agg{h:Heap}{n:Nat}{cs ds:List AVal}(z:FrzL h n cs ds)(hs:ds.all AVal.sto=true):Frz h n (.agg cs) (.agg ds):=.agg _ _ z.len (I1.1 hs) z.at_
theorem FrzL.tup{h:Heap}{n:Nat}{cs ds:List AVal}(z:FrzL h n cs ds):Frz h n (.tup cs) (.tup ds):=.tup _ _ z.len z.at_
theorem FrzL.row{h:Heap}{n:Nat}{cs ds:List AVal}(z:FrzL h n cs ds)(hs:ds.all AVal.sto=true):FrzR h n (.agg cs) (.agg ds):=.agg z.len (I1.1 hs) z.at_
inductive FrzRs (h:Heap) (n:Nat):List AVal→List AVal→Prop
 |nil:FrzRs h n [] []
 |cons {c d:AVal} {cs ds:List AVal}:FrzR h n c d→FrzRs h n cs ds→FrzRs h n (c::cs) (d::ds)
theorem FrzRs.len{h:Heap}{n:Nat}{cs ds:List AVal}(z:FrzRs h n cs ds):cs.length=ds.length:=by induction z with|nil=>rfl|cons _ _ ih=>simp[ih]
theorem FrzRs.at_{h:Heap}{n:Nat}{cs ds:List AVal}(z:FrzRs h n cs ds):∀(i:Nat) (c d:AVal),cs[i]? =some c→ds[i]? =some d→FrzR h n c d:=by
 induction z with
 |nil=>intro i c d h1;simp at h1
 |cons z _ ih=>
  intro i c d h1 h2
  match i with
  |0=>simp at h1 h2;subst h1;subst h2;exact z
  |i+1=>exact ih i c d (by simpa using h1) (by simpa using h2)
theorem FrzRs.hs{h:Heap}{n q v e m:Nat}{rows es:List AVal}{len:Nat}{room:Bool}(hg:getRow h q v=some (e,m,rows))(hlen:len=rows.length)(hq:n≤q)(z:FrzRs h n rows es):Frz h n (.hs q v 0 len room) (.sl m es):=
 Frz.rows hq hg hlen z.len.symm z.at_
theorem Frz.data{h:Heap}{n q v e m:Nat}{rows:List AVal}{len:Nat}{room:Bool}(hq:n≤q)(hg:getRow h q v=some (e,m,rows))(hlen:len=rows.length)(hc:∀r∈rows,Clo n r)(hs:∀r∈rows,∀c∈r.cells,c.sto=true):Frz h n (.hs q v 0 len room) (.sl m rows):=
 Frz.rows hq hg hlen rfl fun i r s hr hs'=>by rw[hr]at hs';cases hs';exact FrzR.clo (hc r (G4 hr)) (hs r (G4 hr))
end Go.Av
namespace Go.Av
open Go Go.Proofs Go.RowKit
def orcX(f:FuncId)(args:List AVal):Option AVal:=match orcL f args with
 |some r=>some r
 |none=>match args with
  | [.int .i32 c]=>if f=269 then some (.bool (beginF c))else if f=268 then some (.bool (moreF c))else none
  |_=>none
variable {G:Nat→Option (List AVal)}
theorem kE(hG:GOk G):OrcOk (CT G) orcX:=by
 intro f args r g h;unfold orcX at g;split at g
 ·rename_i e;cases g;exact fI hG f args _ e h
 ·split at g
  ·rename_i c _;split at g
   ·rename_i e;subst e;cases g;exact gw G c h
   ·split at g
    ·rename_i e;subst e;cases g;exact mQ G c h
    ·cases g
  ·cases g
end Go.Av
theorem U0:type_of% @Go.Av.FrzL.tup:=@Go.Av.FrzL.tup
