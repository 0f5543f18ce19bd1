/- Parts. -/
import Derived.Test.YtllhfnepgcbjnaaGreatMnYr
import Derived.Test.YtllhfnepgcbjnaaGreatMnEb
import Derived.Test.YtllhfnepgcbjnaaGreatMnNd
set_option linter.unusedSimpArgs false
set_option linter.unusedVariables false
set_option linter.unusedSectionVars false
set_option linter.unnecessarySimpa false
set_option maxRecDepth 100000
set_option maxHeartbeats 16000000
namespace Go.Av
open Go Go.Proofs Go.RowKit
section
theorem bV:∀t:Bs,Op.bytesLess t t=false
 | []=>rfl
 |a::t=>by simp[Op.bytesLess,bV t]
theorem eV:∀{a b c:Bs},Op.bytesLess a b=true→Op.bytesLess b c=true→Op.bytesLess a c=true
 |_,_,[],_,h=>by cases h2:(‹Bs› :Bs)<;>simp[Op.bytesLess]at h
 | [],_,_::_,_,_=>rfl
 |_::_,[],_::_,h,_=>by simp[Op.bytesLess]at h
 |x::a,y::b,z::c,h,k=>by
  simp only[Op.bytesLess,R6,M7,L7,beq_iff_eq]at h k ⊢;rcases h with h| ⟨rfl,h⟩
  ·rcases k with k| ⟨rfl,k⟩
   ·exact .inl (UInt8.lt_trans h k)
   ·exact .inl h
  ·rcases k with k| ⟨rfl,k⟩
   ·exact .inl k
   ·exact .inr ⟨rfl,eV h k⟩
theorem nq:∀(a b:Bs),Op.bytesLess a b=false→Op.bytesLess b a=false→a=b
 | [],[],_,_=>rfl
 | [],_::_,h,_=>by simp[Op.bytesLess]at h
 |_::_,[],_,h=>by simp[Op.bytesLess]at h
 |x::a,y::b,h,k=>by
  simp only[Op.bytesLess,zb8,decide_eq_false_iff_not,Bool.and_eq_false_iff,beq_eq_false_iff_ne]at h k;have hxy:x=y:=by
   have h1:=UInt8.not_lt.1 h.1;have h2:=UInt8.not_lt.1 k.1;exact UInt8.le_antisymm h2 h1
  subst hxy;rw[nq a b (by rcases h.2 with h|h;exact absurd rfl h;exact h) (by rcases k.2 with h|h;exact absurd rfl h;exact h)]
def Srt(l:List Bs):Prop:=l.Pairwise fun a b=>Op.bytesLess a b=true
def lbF(l:List Bs)(t:Bs):Nat:=(l.takeWhile fun x=>Op.bytesLess x t).length
theorem nr(l:List Bs)(t:Bs):lbF l t≤l.length:=by
 unfold lbF;have:=(List.takeWhile_sublist (l:=l) fun x=>Op.bytesLess x t).length_le;exact this
theorem eW(a:Bs)(l:List Bs)(t:Bs):lbF (a::l) t=if Op.bytesLess a t=true then lbF l t+1 else 0:=by
 unfold lbF;rw[zc4];split<;>simp
theorem tm{l:List Bs}{t:Bs}:∀j,j<lbF l t→∃x,l[j]? =some x∧Op.bytesLess x t=true:=by
 induction l with
 |nil=>intro j h;simp[lbF]at h
 |cons a l ih=>
  intro j h;rw[eW]at h;split at h
  ·rename_i ha;cases j with
   |zero=>exact⟨a,rfl,ha⟩
   |succ j=>exact ih j (by omega)
  ·omega
theorem tn{l:List Bs}{t:Bs}(hs:Srt l):∀j x,lbF l t≤j→l[j]? =some x→Op.bytesLess x t=false:=by
 induction l with
 |nil=>intro j x _ h;simp at h
 |cons a l ih=>
  intro j x h hx;rw[eW]at h;have hp:=U1.1 hs;split at h
  ·rename_i ha;cases j with
   |zero=>omega
   |succ j=>exact ih hp.2 j x (by omega) (by simpa using hx)
  ·rename_i ha;cases j with
   |zero=>simp at hx;subst hx;simpa using ha
   |succ j=>
    have hm:=hp.1 x (N4 (by simpa using hx));cases hq:Op.bytesLess x t with
    |false=>rfl
    |true=>exact absurd (eV hm hq) ha
theorem pr{l:List Bs}{t:Bs}(hs:Srt l)(hm:t∈l):l[lbF l t]? =some t:=by
 obtain⟨j,hj⟩:=Q4 hm;rcases V5 j (lbF l t)with h|h|h
 ·obtain⟨x,hx,hl⟩:=tm j h;rw[hj]at hx;cases hx;rw[bV]at hl;cases hl
 ·rw[← h];exact hj
 ·have hlt:lbF l t<l.length:=by have:=(f9.1 hj).1;omega
  have h1:l[lbF l t]? =some l[lbF l t]:=L9 hlt;have h2:=tn hs _ _ (M2 _) h1;have h3:=(List.pairwise_iff_getElem.1 hs) (lbF l t) j hlt (f9.1 hj).1 h;rw[(f9.1 hj).2,h2]at h3;cases h3
variable (G:Nat→Option (List AVal))
theorem vU(w:World)(n:Nat):Below w.heap.size w (w.drewN n):=by
 induction n with
 |zero=>exact za5 _ _
 |succ n ih=>exact ih.trans (Below.drew (za5 _ _))
theorem mi(l:List Bs)(t:Bs)(hs:Srt l)(hl:l.length≤100000)(h:Heap):Sat (CT G) 116 [.sl 1 (l.map .str),.str t] h (fun r h'=>r=.tup [.int .i64 (lbF l t),.bool (decide (t∈l))]∧h'=h):=by
 intro B S μ w us fit rl;obtain⟨hul,hur⟩:=rl
 match us,hul,hur with
 | [v0,v1],_,hur=>
  have r0:Rep w S μ (.sl 1 (l.map .str)) v0:=hur 0 _ rfl;have r1:Rep w S μ (.str t) v1:=hur 1 _ rfl;obtain rfl:=r1.str_inv
  change OpOk Tryz.prog _ ((callFunc 116 #[v0,.string ⟨t.toArray⟩]).run Tryz.prog w)
  rw[ci (f:=116) Tryz.func116 rfl rfl];have fin:∀(w':World) (i:Nat) (b:Bool),Below w.heap.size w w'→i=lbF l t→b=decide (t∈l)→∃v,Value.tuple #[.int .i64 i,.bool b]=v∧OpPost (CT G) B S μ w (fun r h'=>r=.tup [.int .i64 (lbF l t),.bool (decide (t∈l))]∧h'=h) v w':=by
   rintro w' i b hb rfl rfl;obtain⟨f',st⟩:=fit.grown hb;exact⟨_,rfl,_,h,S,μ,⟨rfl,rfl⟩,st,f',jf (.int _ _) (.bool _)⟩
  by_cases hn:l=[]
  ·subst hn;obtain⟨a,cap,rfl⟩:∃a cap,v0=.slice a 0 cap:=by
    cases r0 with
    |sl0 _ a cap=>exact⟨a,cap,rfl⟩
    |sl _ _ b o cap vs h1=>exact absurd rfl h1
   refine(Any2.slices_BinarySearch_string_empty Tryz.lays2_26 a cap ⟨t.toArray⟩ w).mono fun e w' ⟨he,hw⟩=>?_
   obtain⟨v,hv,hp⟩:=fin w' 0 false (by rw[hw];exact za5 _ _) rfl (by simp);exact⟨v,by rw[he, ← hv];rfl,hp⟩
  ·obtain⟨b,o,cap,rfl,hc⟩:∃b o cap,v0=.slice (some ⟨b,o,none⟩) l.length cap∧∀j,j<l.length→w.cell? ⟨b,o+j,none⟩=some (.string ⟨(l.getD j t).toArray⟩):=by
    generalize hm:l.map AVal.str=m at r0;cases r0 with
    |sl0 _ a cap=>simp at hm;exact absurd hm hn
    |sl _ _ b o cap vs h1 h2 h3 h4 h5 h6=>
     subst hm;refine⟨b,o,cap,by simp,fun j hj=>?_⟩;have hx:(l.map AVal.str)[j]? =some (.str l[j]):=(by rw[N8,L9 hj];rfl);have h7:=h5 j _ 0 _ hx rfl;have h8:=h6 j _ 0 _ hx rfl;rw[h8.str_inv]at h7;have:l.getD j t=l[j]:=by simp[List.getD,hj]
     rw[this];have e:o+(j*1+0)=o+j:=(by omega);rw[e]at h7;exact h7.2.1
   refine(Any2.slices_BinarySearch_string Tryz.lays2_26 b o l.length cap (fun j=>⟨(l.getD j t).toArray⟩) ⟨t.toArray⟩ w (by omega) hc).mono fun e w' ⟨he,q,hw⟩=>?_
   have hk:Lib.bsGo (fun j=>Op.bytesLess (⟨(l.getD j t).toArray⟩:ByteArray).toList (⟨t.toArray⟩:ByteArray).toList) l.length 0 l.length=lbF l t:=by
    refine Lib.bsGo_spec _ (lbF l t) (fun j hj=>?_) (fun j hj=>?_) _ _ _ (by omega) (Y4 _) (nr l t)
    ·obtain⟨x,hx,hlt⟩:=tm j hj;simp only[cc];rw[show l.getD j t=x by simp[List.getD,hx]];exact hlt
    ·simp only[cc];cases hx:l[j]? with
     |none=>rw[show l.getD j t=t by simp[List.getD,hx]];exact bV t
     |some x=>rw[show l.getD j t=x by simp[List.getD,hx]];exact tn hs j x hj hx
   rw[hk]at he;obtain⟨v,hv,hp⟩:=fin w' (lbF l t) (decide (lbF l t<l.length∧(⟨(l.getD (lbF l t) t).toArray⟩:ByteArray)=⟨t.toArray⟩)) (by rw[hw];exact vU w q) rfl (by
    rw[O9,M7,M7];constructor
    ·rintro⟨h1,h2⟩;have h3:l.getD (lbF l t) t=l[lbF l t]:=(by simp[List.getD,h1]);rw[h3]at h2;have:l[lbF l t]=t:=by simpa using h2
     rw[← this];exact List.getElem_mem h1
    ·intro hm;have:=pr hs hm;exact⟨(f9.1 this).1,by simp[List.getD,this]⟩)
   exact⟨v,by rw[he, ← hv],hp⟩
end
section
def encS(t:Bs):Value:=.string ⟨t.toArray⟩
theorem Only.setCells(b:Nat):∀(vs:List Value) (o:Nat) (w:World),Only w (w.setCells b o vs) (some b)
 | [],_,_=>Only.refl _ _
 |v::r,o,w=>(Only.setCell w ⟨b,o,none⟩ v).trans (Only.setCells b r (o+1) _)
theorem Only.alloc(w:World)(o:Obj)(q:Option Nat):Only w (w.alloc o) q:=
 ⟨rfl,rfl,rfl,by simp,fun k hk _=>Below.heap_alloc w o k hk⟩
theorem Only.into{w w1 w2:World}{q:Option Nat}{g:Nat}(h:Only w w1 q)(k:Only w1 w2 (some g))(hg:w.heap.size≤g):Only w w2 q:=
 ⟨k.os.trans h.os,k.tape.trans h.tape,k.output.trans h.output,R1 h.size k.size,
  fun i hi hq=>(k.block i (Y5 hi h.size) (fun e=>by cases e;omega)).trans (h.block i hi hq)⟩
theorem Only.putRow{α:Type}[Inhabited α](enc:α→Value)(w:World)(b off:Nat)(d:Array α):Only w (Go.Sort.putRow enc w b off d) (some b):=
 ⟨rfl,rfl,rfl,by simp,fun k _ hq=>by
  have:b≠k:=fun e=>hq (by rw[e])
  simp[Go.Sort.putRow,Go.Sort.mapBlock,Array.getElem?_modify,this]⟩
section
variable {C:Ctx} {B:Nat} {S:Addr→Prop} {μ:Map} {h:Heap} {w w':World}
theorem Fits.give(f:Fits C B S μ h w){p:Nat}{m:MB}(hm:μ[p]? =some m){g:Nat}(hg:∀q m',μ[q]? =some m'→m'.blk=some g→q=p)(hB:B≤g)(hgl:g<w.heap.size):
  Step B S μ w (fun a=>S a∨a.block=g) (μ.set p ⟨none,m.ver+1,m.size,m.cap⟩) w∧Fits C B (fun a=>S a∨a.block=g) (μ.set p ⟨none,m.ver+1,m.size,m.cap⟩) (h.set p .dead) w:=by
 have hlt:=(f9.1 hm).1;have st:Step B S μ w (fun a=>S a∨a.block=g) (μ.set p ⟨none,m.ver+1,m.size,m.cap⟩) w:=⟨fun a ha=>.inl ha,fun _ _=>rfl,za5 _ _,bw hm (by simp) (fun e=>by simp at e),fun a ha=>by
  rcases ha with ha|ha
  ·exact .inl ha
  ·exact .inr (by omega)⟩
 have at_:∀q k,(μ.set p ⟨none,m.ver+1,m.size,m.cap⟩)[q]? =some k→(q=p∧k.blk=none)∨(q≠p∧μ[q]? =some k):=by
  intro q k hq;by_cases e:p=q
  ·subst e;rw[P6 hlt]at hq;cases hq;exact .inl ⟨rfl,rfl⟩
  ·rw[S7 e]at hq;exact .inr ⟨fun e'=>e e'.symm,hq⟩
 refine⟨st,⟨fun g cs hg=>(f.glob g cs hg).mono st,by simp[f.len],?_,?_,f.base,?_,?_⟩⟩
 ·intro p1 q1 m1 m2 b h1 h2 e1 e2;rcases at_ p1 m1 h1 with⟨_,k1⟩| ⟨_,k1⟩
  ·rw[k1]at e1;cases e1
  ·rcases at_ q1 m2 h2 with⟨_,k2⟩| ⟨_,k2⟩
   ·rw[k2]at e2;cases e2
   ·exact f.sep p1 q1 m1 m2 b k1 k2 e1 e2
 ·intro p1 m1 b h1 e1;rcases at_ p1 m1 h1 with⟨_,k1⟩| ⟨r1,k1⟩
  ·rw[k1]at e1;cases e1
  ·obtain⟨a1,a2,a3⟩:=f.own p1 m1 b k1 e1;refine⟨a1,a2,fun a ha=>?_⟩;rcases ha with ha|ha
   ·exact a3 a ha
   ·intro e;exact r1 (hg p1 m1 k1 (by rw[e1, ← e,ha]))
 ·intro a ha;rcases ha with ha|ha
  ·exact f.lie a ha
  ·omega
 ·intro p1 m1 k1 h1 h2;rcases at_ p1 m1 h1 with⟨rfl,_⟩| ⟨r1,h1⟩
  ·rw[P6 (by rw[← f.len];exact hlt)]at h2;cases h2;trivial
  ·rw[S7 (fun e=>r1 e.symm)]at h2;exact(f.blk p1 m1 k1 h1 h2).mono st fun b _=>rfl
theorem vV{g off cap:Nat}{ls:List Bs}(hS:∀a,a.block=g→S a)(hl:ls.length≤cap)(hm:cap≤maxLen)(hc:∀j x,ls[j]? =some x→w.cell? ⟨g,off+j,none⟩=some (encS x)):
  Rep w S μ (.sl 1 (ls.map .str)) (.slice (some ⟨g,off,none⟩) ls.length cap):=by
 by_cases hn:ls=[]
 ·subst hn;exact .sl0 1 _ cap
 have hlen:(ls.map AVal.str).length=ls.length:=L8 ..;rw[← hlen];refine .sl 1 (ls.map .str) g off cap (fun i _=>encS (ls.getD i [])) (by simpa using hn) (by omega) hm (fun i x hx=>?_) (fun i x j c hx hj=>?_) (fun i x j c hx hj=>?_)
 ·obtain⟨a,_,rfl⟩:=N0.1 (N4 hx);rfl
 ·rw[N8]at hx;obtain⟨a,ha,rfl⟩:=N1.1 hx
  match j with
  |0=>
   simp[AVal.cells]at hj;subst hj;refine⟨hS _ rfl,?_,rfl⟩;rw[show off+(i*1+0)=off+i by omega,hc i a ha];simp[List.getD,ha]
  |j+1=>simp[AVal.cells]at hj
 ·rw[N8]at hx;obtain⟨a,ha,rfl⟩:=N1.1 hx
  match j with
  |0=>
   simp[AVal.cells]at hj;subst hj;simp only[List.getD,ha,Q8];exact .str a
  |j+1=>simp[AVal.cells]at hj
theorem ju(f:Fits C B S μ h w){p:Nat}{m:MB}(hm:μ[p]? =some m)(o:Only w w' m.blk){g off cap:Nat}{ls:List Bs}(hg:m.blk=some g∨(w.heap.size≤g∧g<w'.heap.size))
  (hl:ls.length≤cap)(hx:cap≤maxLen)(hc:∀j x,ls[j]? =some x→w'.cell? ⟨g,off+j,none⟩=some (encS x)):
  ∃S' μ',Step B S μ w S' μ' w'∧Fits C B S' μ' (h.set p .dead) w'∧Rep w' S' μ' (.sl 1 (ls.map .str)) (.slice (some ⟨g,off,none⟩) ls.length cap):=by
 obtain⟨f1,st1⟩:=f.update (m':=⟨m.blk,m.ver+1,m.size,m.cap⟩) (k':=.dead) hm o (by simp) (fun e=>by simp at e) (.inl rfl) trivial;have hlt:=(f9.1 hm).1;have hm1:(μ.set p ⟨m.blk,m.ver+1,m.size,m.cap⟩)[p]? =some ⟨m.blk,m.ver+1,m.size,m.cap⟩:=P6 hlt;have hgg:(B≤g∧g<w'.heap.size)∧∀q m',(μ.set p ⟨m.blk,m.ver+1,m.size,m.cap⟩)[q]? =some m'→m'.blk=some g→q=p:=by
  rcases hg with hg| ⟨h1,h2⟩
  ·obtain⟨a1,a2,_⟩:=f.own p m g hm hg;exact⟨⟨a1,Y5 a2 o.size⟩,fun q m' hq hb=>f1.sep q p m' _ g hq hm1 hb hg⟩
  ·refine⟨⟨R1 f.base h1,h2⟩,fun q m' hq hb=>?_⟩;by_cases e:p=q
   ·exact e.symm
   ·rw[S7 e]at hq;have:=(f.own q m' g hq hb).2.1;omega
 obtain⟨st2,f2⟩:=f1.give hm1 hgg.2 hgg.1.1 hgg.1.2;refine⟨_,_,st1.trans st2,?_,vV (fun a ha=>.inr ha) hl hx hc⟩;simpa using f2
end
theorem iH{C:Ctx}{B:Nat}{S:Addr→Prop}{μ:Map}{h:Heap}{w:World}(f:Fits C B S μ h w){p ver len:Nat}{T:TypeId}{room:Bool}{l:List Bs}{v:Value}(hn:l≠ [])
  (hg:getRow h p ver=some (T,1,l.map .str))(hv:Rep w S μ (.hs p ver 0 len room) v):
  ∃m b cur,μ[p]? =some m∧m.blk=some b∧w.heap[b]? =some (.cells cur T (0,0))∧cur.size=m.cap∧l.length≤m.cap∧m.cap≤maxLen∧0<m.cap∧v=.slice (some ⟨b,0,none⟩) len (if room then m.cap else len)∧
   ∀j x,l[j]? =some x→w.cell? ⟨b,0+j,none⟩=some (encS x):=by
 obtain⟨m,hm,hf⟩:=f.row hg;rcases hf.lies with⟨_,h2⟩| ⟨b,cur,hb,hheap,hsz,⟨h0,hle⟩,hmax,hcell⟩
 ·exact absurd (za6.1 h2) hn
 rcases hv.hs_now hm hf.hver with⟨h1,_⟩| ⟨b',hb',_,hve⟩
 ·rw[hb]at h1;cases h1
 rw[hb]at hb';cases hb';have hs1:=hf.hsize;refine⟨m,b,cur,hm,hb,hheap,by omega,by simpa using hle,hmax,h0,by rw[hve];simp,fun j x hx=>?_⟩;have hx':(l.map AVal.str)[j]? =some (.str x):=by rw[N8,hx];rfl
 obtain⟨u,hu,hr⟩:=hcell j (.str x) 0 (.str x) hx' rfl;rw[hr.str_inv]at hu;have hlt:=(O6.1 hu).1;simp only[World.cell?,hheap];have e:j*1+0=0+j:=by omega
 rw[e]at hu;simpa [encS]using hu
theorem gE(w:World)(c:Array Value)(T:TypeId)(j:Nat):(w.alloc (.cells c T)).cell? ⟨w.heap.size,j,none⟩=c[j]? :=by
 simp only[World.cell?,cd];rfl
theorem dA(b:Nat):∀(vs:List Value) (o:Nat) (w:World) (k:Nat),(w.cell? ⟨b,k,none⟩).isSome=true→((w.setCells b o vs).cell? ⟨b,k,none⟩).isSome=true
 | [],_,_,_,h=>h
 |v::r,o,w,k,h=>dA b r (o+1) (w.setCell ⟨b,o,none⟩ v) k (by
  by_cases e:o=k
  ·subst e;obtain⟨u,hu⟩:=N3.1 h;rw[World.cell?_setCell_same _ _ _ hu];rfl
  ·rw[World.cell?_setCell_other _ _ _ _ (by simpa using e)];exact h)
theorem ir{w:World}{b o:Nat}{v:Value}(hs:(w.cell? ⟨b,o,none⟩).isSome=true):(w.setCells b o [v]).cell? ⟨b,o,none⟩=some v:=by
 have:=World.cell?_setCells_in b [v] o w (fun j hj=>by simp at hj;subst hj;exact hs) 0 (by simp);simpa using this
theorem iI(l:List Bs)(t:Bs)(i:Nat)(hi:i≤l.length)(j:Nat)(x:Bs)(hx:(l.take i++t::l.drop i)[j]? =some x):
  (j<i∧l[j]? =some x)∨(j=i∧x=t)∨(i<j∧l[j-1]? =some x):=by
 rcases V5 j i with h|h|h
 ·rw[M6 (by simp;omega),N5 h]at hx;exact .inl ⟨h,hx⟩
 ·subst h;rw[M9 (by rw[N9];omega)]at hx;have:j-(l.take j).length=0:=by rw[N9];omega
  rw[this]at hx;simp at hx;exact .inr (.inl ⟨rfl,hx.symm⟩)
 ·rw[M9 (by simp;omega)]at hx;have:j-(l.take i).length=(j-i-1)+1:=by rw[N9];omega
  rw[this,V3,P4]at hx;refine .inr (.inr ⟨h,?_⟩);rw[← hx];congr 1;omega
variable (G:Nat→Option (List AVal))
theorem qW(l:List Bs)(t:Bs)(i v1 v2:Nat)(rm:Bool)(hi:i≤l.length)(hn:l≠ [])(hl:l.length≤100000)(h:Heap):
  Sat (CT G) 75 [.hs h.length v1 0 l.length true,.int .i64 i,.hs (h.length+1) v2 0 1 rm] (h++[Blk.row 9 1 v1 (l.map .str),.row 9 1 v2 [.str t]])
   (fun r h'=>r=.sl 1 ((l.take i++t::l.drop i).map .str)∧h'=h++[.dead,.row 9 1 v2 [.str t]]):=by
 intro B S μ w us fit rl;obtain⟨hul,hur⟩:=rl
 match us,hul,hur with
 | [u0,u1,u2],_,hur=>
  have r0:Rep w S μ (.hs h.length v1 0 l.length true) u0:=hur 0 _ rfl;have r1:Rep w S μ (.int .i64 i) u1:=hur 1 _ rfl;have r2:Rep w S μ (.hs (h.length+1) v2 0 1 rm) u2:=hur 2 _ rfl;obtain rfl:=r1.int_inv;have hg0:getRow (h++[Blk.row 9 1 v1 (l.map .str),.row 9 1 v2 [.str t]]) h.length v1=some (9,1,l.map .str):=by simp[getRow]
  have hg2:getRow (h++[Blk.row 9 1 v1 (l.map .str),.row 9 1 v2 [.str t]]) (h.length+1) v2=some (9,1,[t].map .str):=by simp[getRow]
  obtain⟨m,b,cur,hm,hb,hheap,hsz,hle,hmax,h0,rfl,hc⟩:=iH fit hn hg0 r0;obtain⟨m2,b2,cur2,hm2,hb2,hheap2,hsz2,hle2,hmax2,h02,rfl,hc2⟩:=iH fit (by simp) hg2 r2;simp only[↓reduceIte];have hne:b2≠b:=fun e=>by have:=fit.sep _ _ m2 m b hm2 hm (by rw[hb2,e]) hb;omega
  have hset:(h++[Blk.row 9 1 v1 (l.map .str),.row 9 1 v2 [.str t]]).set h.length .dead=h++[.dead,.row 9 1 v2 [.str t]]:=by simp[List.set_append]
  have hil:(l.take i++t::l.drop i).length=l.length+1:=by simp;omega
  change OpOk Tryz.prog _ ((callFunc 75 #[_,_,_]).run Tryz.prog w)
  rw[ci (f:=75) Tryz.func75 rfl rfl];have fin:∀(w':World) (g cap:Nat),Only w w' (some b)→(g=b∨(w.heap.size≤g∧g<w'.heap.size))→l.length+1≤cap→cap≤maxLen→
    (∀j x,(l.take i++t::l.drop i)[j]? =some x→w'.cell? ⟨g,0+j,none⟩=some (encS x))→
    OpPost (CT G) B S μ w (fun r h'=>r=.sl 1 ((l.take i++t::l.drop i).map .str)∧h'=h++[.dead,.row 9 1 v2 [.str t]]) (.slice (some ⟨g,0,none⟩) (l.length+1) cap) w':=by
   intro w' g cap ho hg hcap hmx hcell;obtain⟨S',μ',st,f',rp⟩:=ju fit hm (by rw[hb];exact ho) (g:=g) (by rcases hg with rfl|hg;exact .inl hb;exact .inr hg) (by rw[hil];exact hcap) hmx hcell;rw[hset]at f';rw[hil]at rp;exact⟨_,_,S',μ',⟨rfl,rfl⟩,st,f',rp⟩
  have hcs:∀j v,(l.map encS)[j]? =some v→w.cell? ⟨b,0+j,none⟩=some v:=by
   intro j v hv;rw[N8]at hv;obtain⟨x,hx,rfl⟩:=N1.1 hv;exact hc j x hx
  have hvs:∀j v,[encS t][j]? =some v→w.cell? ⟨b2,0+j,none⟩=some v:=by
   intro j v hv
   match j with
   |0=>simp at hv;subst hv;exact hc2 0 t rfl
   |j+1=>simp at hv
  have h1c:∀v∈l.map encS,v.oneCell'=true:=by intro v hv;obtain⟨x,_,rfl⟩:=N0.1 hv;rfl
  have h1v:∀v∈ [encS t],v.oneCell'=true:=by intro v hv;simp at hv;subst hv;rfl
  have there:∀k,k<m.cap→(w.cell? ⟨b,k,none⟩).isSome=true:=by
   intro k hk;have:k<cur.size:=by omega
   simp[World.cell?,hheap,this]
  have mx:maxLen≤9223372036854775807:=by decide
  have hdr:(l.map encS).drop i=(l.drop i).map encS:=by rw[Z5]
  by_cases hroom:l.length+1≤m.cap
  ·by_cases hil2:i=l.length
   ·subst hil2;refine(Any2.slices_Insert_string_end_room Tryz.lays2_22 b 0 l.length m.cap b2 0 1 _ [encS t] w (by omega) hroom (by omega) rfl (fun j hj=>there _ (by omega)) (fun j hj=>by simp[World.frozen?,hheap]) hvs h1v).mono fun e w' ⟨he,hw⟩=>?_
    refine⟨_,he,fin w' b m.cap (by rw[hw];exact Only.setCells _ _ _ _) (.inl rfl) hroom hmax fun j x hx=>?_⟩;rw[hw];rcases iI l t l.length (M2 _) j x hx with⟨h1,h2⟩| ⟨rfl,rfl⟩| ⟨h1,h2⟩
    ·rw[V8 _ _ _ _ _ (fun _ _=>.inl (by simp;omega))];exact hc j x h2
    ·exact ir (there _ (by omega))
    ·have:=(f9.1 h2).1;omega
   ·refine(Any2.slices_Insert_string_shift Tryz.lays2_22 b 0 l.length m.cap i b2 0 1 _ (l.map encS) [encS t] w (by omega) (by omega) hroom (by omega) hne (by simp) rfl hcs (fun j hj=>there _ (by omega)) (fun j hj=>by simp[World.frozen?,hheap]) hvs h1c h1v
     9 9 cur2.size cur.size (by simp[World.shape?,hheap2]) (by simp[World.shape?,hheap]) (by omega) (by simp[World.frozen?,hheap2]) (by simp[World.frozen?,hheap2])).mono fun e w' ⟨he,hw⟩=>?_
    refine⟨_,he,fin w' b m.cap (by rw[hw];exact((Only.drew w _).trans (Only.setCells _ _ _ _)).trans (Only.setCells _ _ _ _)) (.inl rfl) hroom hmax fun j x hx=>?_⟩;rw[hw];have th2:∀k,k<m.cap→((w.drew.setCells b (0+(i+1)) ((l.map encS).drop i)).cell? ⟨b,k,none⟩).isSome=true:=fun k hk=>dA b _ _ _ _ (there k hk)
    rcases iI l t i hi j x hx with⟨h1,h2⟩| ⟨rfl,rfl⟩| ⟨h1,h2⟩
    ·rw[V8 _ _ _ _ _ (fun _ _=>.inl (by simp;omega)),V8 _ _ _ _ _ (fun _ _=>.inl (by simp;omega))];exact hc j x h2
    ·exact ir (th2 _ (by omega))
    ·have hjl:=(f9.1 h2).1;rw[V8 _ _ _ _ _ (fun _ _=>.inr (by simp;omega))];have:=World.cell?_setCells_in b ((l.map encS).drop i) (0+(i+1)) w.drew (fun k hk=>by
      have hk2:k<l.length-i:=(by simpa using hk);exact there _ (by omega)) (j-1-i) (by simp;omega)
     rw[show 0+(i+1)+(j-1-i)=0+j by omega]at this;rw[this];have e2:i+(j-1-i)=j-1:=(by omega);simp only[List.getElem_drop,List.getElem_map,e2];rw[(f9.1 h2).2]
  ·have hcl:m.cap=l.length:=(by omega);have hcg:=grownCap_ge w (l.length+1) m.cap 9;have hmx1:(100001:Nat)≤maxLen:=(by decide);have hcm:=grownCap_le_maxLen w (l.length+1) m.cap 9 (by omega);by_cases hil2:i=l.length
   ·subst hil2;refine(Any2.slices_Insert_string_end_grow Tryz.lays2_22 (some ⟨b,0,none⟩) l.length m.cap b2 0 1 _ (l.map encS) [encS t] w (by omega) (by omega) (by omega) (by omega) (by simp) rfl (by simp)
     (fun a ha j v hv=>by cases ha;rw[bp];exact hcs j v hv) hvs h1v).mono fun e w' ⟨he,hw⟩=>?_
    refine⟨_,he,fin w' w.heap.size _ (by rw[hw];exact(Only.drew w _).trans (Only.alloc _ _ _)) (.inr ⟨M2 _,by rw[hw];simp⟩) hcg hcm fun j x hx=>?_⟩;rw[hw];refine(gE w.drew _ _ _).trans ?_;rw[zb2 (by simp;have:=(f9.1 hx).1;rw[hil]at this;omega)];rcases iI l t l.length (M2 _) j x hx with⟨h1,h2⟩| ⟨rfl,rfl⟩| ⟨h1,h2⟩
    ·rw[U5,M6 (by simpa using by omega),N8,Q9,h2];rfl
    ·rw[U5,M9 (by simp)];simp
    ·have:=(f9.1 h2).1;omega
   ·refine(Any2.slices_Insert_string_grow Tryz.lays2_22 b 0 l.length m.cap i b2 0 1 _ (l.map encS) [encS t] w (by omega) (by omega) (by omega) (by omega) (by omega) (by simp) rfl hcs hvs h1c h1v).mono fun e w' ⟨he,hw⟩=>?_
    rw[show Tryz.lays2_22_ren.t 9=9 from rfl]at hw;generalize hw1:w.alloc (.cells (((l.map encS).take i).toArray++Builtin.zeroCells (Value.string ⟨#[]⟩).cells (l.length+1-i)++Builtin.zeroCells (Value.string ⟨#[]⟩).cells (grownCap w (l.length+1) m.cap 9-(l.length+1))) 9)=w1 at hw;have hsz1:w1.heap.size=w.heap.size+1:=(by rw[← hw1];simp);have ho1:Only w w1 (some b):=(by rw[← hw1];exact Only.alloc _ _ _);have hw':w'=((w1.drew.setCells w.heap.size i [encS t]).drew).setCells w.heap.size (i+1) ((l.map encS).drop i):=hw;have ho2:Only w1 w' (some w.heap.size):=(by rw[hw'];exact(((Only.drew _ _).trans (Only.setCells _ _ _ _)).trans (Only.drew _ _)).trans (Only.setCells _ _ _ _));have hc1:∀k,w1.cell? ⟨w.heap.size,k,none⟩=(((l.map encS).take i).toArray++Builtin.zeroCells (Value.string ⟨#[]⟩).cells (l.length+1-i)++Builtin.zeroCells (Value.string ⟨#[]⟩).cells (grownCap w (l.length+1) m.cap 9-(l.length+1)))[k]? :=by
     intro k;rw[← hw1];exact gE _ _ _ _
    have th1:∀k,k<l.length+1→(w1.cell? ⟨w.heap.size,k,none⟩).isSome=true:=by
     intro k hk;rw[hc1,O8 (by simp[size_zeroCells,Value.cells];omega)];rfl
    have th2:∀k,k<l.length+1→((w1.drew.setCells w.heap.size i [encS t]).drew.cell? ⟨w.heap.size,k,none⟩).isSome=true:=fun k hk=>dA _ _ _ w1.drew _ (th1 k hk)
    refine⟨_,he,fin w' w.heap.size _ (Only.into ho1 ho2 (M2 _)) (.inr ⟨M2 _,by have:=ho2.size;omega⟩) hcg hcm fun j x hx=>?_⟩;rw[hw'];rcases iI l t i hi j x hx with⟨h1,h2⟩| ⟨rfl,rfl⟩| ⟨h1,h2⟩
    ·rw[V8 _ _ _ _ _ (fun _ _=>.inl (by simp;omega))];refine(V8 _ _ _ w1.drew _ (fun _ _=>.inl (by simp;omega))).trans ?_;refine(hc1 _).trans ?_;rw[zb2 (by simp;omega),zb2 (by simp;omega),U5,Q9,N5 h1,N8,h2];rfl
    ·rw[V8 _ _ _ _ _ (fun _ _=>.inl (by simp))];have:=ir (w:=w1.drew) (b:=w.heap.size) (o:=j) (v:=encS x) (th1 j (by omega));simpa using this
    ·have hjl:=(f9.1 h2).1;have:=World.cell?_setCells_in w.heap.size ((l.map encS).drop i) (i+1) (w1.drew.setCells w.heap.size i [encS t]).drew (fun k hk=>by
      have hk2:k<l.length-i:=(by simpa using hk);exact th2 _ (by omega)) (j-1-i) (by simp;omega)
     rw[show i+1+(j-1-i)=0+j by omega]at this;rw[this];have e2:i+(j-1-i)=j-1:=(by omega);simp only[List.getElem_drop,List.getElem_map,e2];rw[(f9.1 h2).2]
theorem oC(a:AVal)(ha:a=.ez∨a=.nil (.slice none 0 0))(t:Bs)(v2:Nat)(rm:Bool)(h:Heap):
  Sat (CT G) 75 [a,.int .i64 0,.hs h.length v2 0 1 rm] (h++[Blk.row 9 1 v2 [.str t]]) (fun r h'=>r=.sl 1 [.str t]∧h'=h++[.dead]):=by
 intro B S μ w us fit rl;obtain⟨hul,hur⟩:=rl
 match us,hul,hur with
 | [u0,u1,u2],_,hur=>
  have r0:Rep w S μ a u0:=hur 0 _ rfl;have r1:Rep w S μ (.int .i64 0) u1:=hur 1 _ rfl;have r2:Rep w S μ (.hs h.length v2 0 1 rm) u2:=hur 2 _ rfl;obtain rfl:=r1.int_inv;have hg2:getRow (h++[Blk.row 9 1 v2 [.str t]]) h.length v2=some (9,1,[t].map .str):=by simp[getRow]
  obtain⟨m2,b2,cur2,hm2,hb2,hheap2,hsz2,hle2,hmax2,h02,rfl,hc2⟩:=iH fit (by simp) hg2 r2;have hset:(h++[Blk.row 9 1 v2 [.str t]]).set h.length .dead=h++[.dead]:=by simp[List.set_append]
  obtain⟨base,rfl⟩:∃base,u0=.slice base 0 0:=by
   rcases ha with rfl|rfl
   ·cases r0 with|ez a=>exact⟨_,rfl⟩
   ·exact⟨none,r0.nil_inv⟩
  change OpOk Tryz.prog _ ((callFunc 75 #[_,_,_]).run Tryz.prog w)
  rw[ci (f:=75) Tryz.func75 rfl rfl];have hvs:∀j v,[encS t][j]? =some v→w.cell? ⟨b2,0+j,none⟩=some v:=by
   intro j v hv
   match j with
   |0=>simp at hv;subst hv;exact hc2 0 t rfl
   |j+1=>simp at hv
  have h1v:∀v∈ [encS t],v.oneCell'=true:=by intro v hv;simp at hv;subst hv;rfl
  have hcg:=grownCap_ge w (0+1) 0 9;have hcm:=grownCap_le_maxLen w (0+1) 0 9 (by decide);refine(Any2.slices_Insert_string_end_grow Tryz.lays2_22 base 0 0 b2 0 1 _ [] [encS t] w (by omega) (by omega) (by omega) (by omega) rfl rfl (fun _=>rfl)
   (fun a ha j v hv=>by simp at hv) hvs h1v).mono fun e w' ⟨he,hw⟩=>?_
  obtain⟨S',μ',st,f',rp⟩:=ju (ls:=[t]) (off:=0) (cap:=grownCap w (0+1) 0 9) (w':=w') fit hm2 (by rw[hw];exact(Only.drew w _).trans (Only.alloc _ _ _)) (g:=w.heap.size) (.inr ⟨M2 _,by rw[hw];simp⟩) hcg hcm (fun j x hx=>by
   rw[hw];refine(gE w.drew _ _ _).trans ?_
   match j with
   |0=>simp at hx;subst hx;rw[zb2 (by simp)];rfl
   |j+1=>simp at hx)
  rw[hset]at f';exact⟨_,he,_,_,S',μ',⟨rfl,rfl⟩,st,f',rp⟩
theorem qX(l:List Bs)(i v1:Nat)(hi:i<l.length)(hl:l.length≤100000)(h:Heap):
  Sat (CT G) 76 [.hs h.length v1 0 l.length true,.int .i64 i,.int .i64 (i+1)] (h++[Blk.row 9 1 v1 (l.map .str)])
   (fun r h'=>r=.sl 1 ((l.take i++l.drop (i+1)).map .str)∧h'=h++[.dead]):=by
 intro B S μ w us fit rl;obtain⟨hul,hur⟩:=rl
 match us,hul,hur with
 | [u0,u1,u2],_,hur=>
  have r0:Rep w S μ (.hs h.length v1 0 l.length true) u0:=hur 0 _ rfl;have r1:Rep w S μ (.int .i64 i) u1:=hur 1 _ rfl;have r2:Rep w S μ (.int .i64 (i+1)) u2:=hur 2 _ rfl;obtain rfl:=r1.int_inv;obtain rfl:=r2.int_inv;have hn:l≠ []:=by rintro rfl;simp at hi
  have hg0:getRow (h++[Blk.row 9 1 v1 (l.map .str)]) h.length v1=some (9,1,l.map .str):=by simp[getRow]
  obtain⟨m,b,cur,hm,hb,hheap,hsz,hle,hmax,h0,rfl,hc⟩:=iH fit hn hg0 r0;simp only[↓reduceIte];have hset:(h++[Blk.row 9 1 v1 (l.map .str)]).set h.length .dead=h++[.dead]:=by simp[List.set_append]
  have mx:maxLen≤9223372036854775807:=by decide
  change OpOk Tryz.prog _ ((callFunc 76 #[_,_,_]).run Tryz.prog w)
  rw[ci (f:=76) Tryz.func76 rfl rfl];have hH:Go.Sort.Holds Go.Proofs.encStr w b 0 l.toArray:=by
   intro j hj;have hj':j<l.length:=(by simpa using hj);refine⟨?_,by simp[World.frozen?,hheap]⟩;rw[hc j l[j] (L9 hj')];simp[encS,Go.Proofs.encStr,hj']
  have hlen:(l.take i++l.drop (i+1)++List.replicate (i+1-i) ([]:List UInt8)).length=l.length:=by simp;omega
  refine(Tryz.slices_Delete_string b 0 m.cap i (i+1) l w hH hle (by omega) (by omega) (by omega)).mono fun e w' ⟨he,q,hw⟩=>?_
  obtain⟨S',μ',st,f',rp⟩:=ju (ls:=l.take i++l.drop (i+1)) (off:=0) (cap:=m.cap) (w':=w') fit hm (by rw[hw,hb];exact Only.trans (b:=Go.Sort.ahead w q) ⟨rfl,rfl,rfl,M2 _,fun _ _ _=>rfl⟩ (Only.putRow _ _ _ _ _)) (g:=b) (.inl hb) (by simp;omega) hmax (fun j x hx=>by
   rw[hw];have hjl:=(f9.1 hx).1;have hH2:Go.Sort.Holds Go.Proofs.encStr (Go.Sort.ahead w q) b 0 l.toArray:=hH;rw[Go.Sort.cell?_putRow _ _ _ _ l.toArray _ hH2 (by simpa using hlen) j (by rw[za3,M5];omega)];have hx2:(l.take i++l.drop (i+1)++List.replicate (i+1-i) ([]:List UInt8))[j]? =some x:=(by rw[M6 hjl];exact hx);have:(l.take i++l.drop (i+1)++List.replicate (i+1-i) ([]:List UInt8)).toArray[j]! =x:=by
    rw[getElem!_def,U5,hx2]
   rw[this];rfl)
  rw[hset]at f';have hl2:(l.take i++l.drop (i+1)).length=l.length-(i+1-i):=by simp;omega
  rw[hl2]at rp;exact⟨_,he,_,_,S',μ',⟨rfl,rfl⟩,st,f',rp⟩
end
section
attribute [local irreducible] WP WPl WPix Sat
variable (G:Nat→Option (List AVal))
theorem fI(h:Heap):Sat (CT G) 74 [.sl 1 []] h (fun r h'=>(r=.ez∨r=.nil (.slice none 0 0))∧h'=h):=by
 refine sb [.tmp 2] Tryz.func74 ?_;intro Q hQ;refine wk trivial ?_;refine jJ _ (by exact zq trivial) (.inl rfl) fun b=>?_
 cases b
 ·try refine sq trivial ?_
  refine wk trivial ?_;refine fL (.inl rfl) (by simp(disch:=first|omega| (simp only[go_sem, ↓reduceIte,seval];first|done|omega)|fail) only[go_sem, ↓reduceIte,seval];rfl) (by simp(disch:=first|omega| (simp only[go_sem, ↓reduceIte,seval];first|done|omega)|fail) only[go_sem, ↓reduceIte,seval];rfl) (by simp(disch:=first|omega| (simp only[go_sem, ↓reduceIte,seval];first|done|omega)|fail) only[go_sem, ↓reduceIte,seval];rfl) (by simp(disch:=first|omega| (simp only[go_sem, ↓reduceIte,seval];first|done|omega)|fail) only[go_sem, ↓reduceIte,seval];try rfl) (by omega) (by simp only[elemsOf, ↓reduceIte];try rfl) (by simp) (fun _=>?_) (fun h=>absurd rfl h);try refine sq trivial ?_
  refine wk trivial ?_;refine ee hQ trivial ?_;exact O5 .ez ⟨.inl rfl,rfl⟩
 ·try refine sq trivial ?_
  refine wk trivial ?_;refine ee hQ trivial ?_;exact O5 (.nil _) ⟨.inr rfl,rfl⟩
theorem qY(l:List Bs)(hn:l≠ [])(hl:l.length≤1048576)(h:Heap):Sat (CT G) 74 [.sl 1 (l.map .str)] h (fun r h'=>r=.hs h.length 0 0 l.length true∧h'=h++[Blk.row 9 1 0 (l.map .str)]):=by
 obtain⟨a,l,rfl⟩:∃a k,l=a::k:=by
  cases l with
  |nil=>exact absurd rfl hn
  |cons a k=>exact⟨a,k,rfl⟩
 have hr:(List.map AVal.str (a::l))≠ []:=by simp
 refine sb [.tmp 2] Tryz.func74 ?_;intro Q hQ;refine wk trivial ?_;refine fL (.inl rfl) (by simp(disch:=first|omega| (simp only[go_sem, ↓reduceIte,seval];first|done|omega)|fail) only[go_sem, ↓reduceIte,seval];rfl) (by simp(disch:=first|omega| (simp only[go_sem, ↓reduceIte,seval];first|done|omega)|fail) only[go_sem, ↓reduceIte,seval];rfl) (by simp(disch:=first|omega| (simp only[go_sem, ↓reduceIte,seval];first|done|omega)|fail) only[go_sem, ↓reduceIte,seval];rfl) (by simp(disch:=first|omega| (simp only[go_sem, ↓reduceIte,seval];first|done|omega)|fail) only[go_sem, ↓reduceIte,seval];try rfl) (by omega) (by simp only[elemsOf, ↓reduceIte];try rfl) ?_ (fun h=>by simp at h) (fun _=>?_)
 ·simp[maxLen]at hl ⊢;omega
 try refine sq trivial ?_
 refine wk trivial ?_;refine ee hQ trivial ?_;exact za0 (by simp) (.hs _ _ _ _ _ (by simp)) ⟨rfl,rfl⟩
section
variable {H:Heap} {n:Nat} {s:PS}
theorem qZ(hn:n+9≤H.length)(x:Blk)(a:AVal)(ha:a=.ez∨a=.nil (.slice none 0 0))(t:Bs):Sat (CT G) 75 [a,.int .i64 0,.hs (H.length+1) 0 0 1 true] (so (H++[x,Blk.row 9 1 0 [.str t]]) n s)
  (fun r h'=>r=.sl 1 [.str t]∧h'=so (H++[x,.dead]) n s):=by
 have c:=oC G a ha t 0 true (so (H++[x]) n s);have hn1:n+9≤(H++[x]).length:=by simp;omega
 rw[aM hn1,aQ hn1,aQ hn1]at c;simpa using c
theorem tq(hn:n+9≤H.length)(x:Blk)(l:List Bs)(t:Bs)(hl0:l≠ [])(hl:l.length≤100000):Sat (CT G) 75 [.hs (H.length+1) 0 0 l.length true,.int .i64 (lbF l t),.hs (H.length+2) 0 0 1 true] (so (H++[x,Blk.row 9 1 0 (l.map .str),Blk.row 9 1 0 [.str t]]) n s)
  (fun r h'=>r=.sl 1 ((l.take (lbF l t)++t::l.drop (lbF l t)).map .str)∧h'=so (H++[x,.dead,Blk.row 9 1 0 [.str t]]) n s):=by
 have c:=qW G l t (lbF l t) 0 0 true (nr l t) hl0 hl (so (H++[x]) n s);have hn1:n+9≤(H++[x]).length:=by simp;omega
 rw[aM hn1,aQ hn1,aQ hn1]at c;simpa using c
theorem tt(hn:n+9≤H.length)(x:Blk)(l:List Bs)(i:Nat)(hi:i<l.length)(hl:l.length≤100000):Sat (CT G) 76 [.hs (H.length+1) 0 0 l.length true,.int .i64 i,.int .i64 (i+1)] (so (H++[x,Blk.row 9 1 0 (l.map .str)]) n s)
  (fun r h'=>r=.sl 1 ((l.take i++l.drop (i+1)).map .str)∧h'=so (H++[x,.dead]) n s):=by
 have c:=qX G l i 0 hi hl (so (H++[x]) n s);have hn1:n+9≤(H++[x]).length:=by simp;omega
 rw[aM hn1,aQ hn1,aQ hn1]at c;simpa using c
theorem eG{s':PS}{j:Heap}{R:AVal→Heap→Prop}{r0 r:AVal}(hn:n+9≤H.length)(hz:Frz (so (H++j) n s') H.length r0 r)(hR:R r (so H n s')):Fin (so H n s) (so (H++j) n s') R r0:=dq hn rfl (PS.clo hn s') hz hR
theorem kg(hn:n+9≤H.length)(x:Blk)(l:List Bs):Frz (so (H++[x,Blk.row 9 1 0 (l.map .str)]) n s) H.length (.hs (H.length+1) 0 0 l.length true) (.sl 1 (l.map .str)):=by
 have hg:getRow (so (H++[x,Blk.row 9 1 0 (l.map .str)]) n s) (H.length+1) 0=some (9,1,l.map .str):=by
  rw[bM (by simp;omega) 0 (by omega)];simp[getRow]
 have:=za1 (n:=H.length) (len:=l.length) (room:=true) (by omega) hg (by simp) (fun r hr=>by obtain⟨a,_,rfl⟩:=N0.1 hr;exact .str _) (fun r hr c hc=>by obtain⟨a,_,rfl⟩:=N0.1 hr;simp[AVal.cells]at hc;subst hc;rfl);simpa using this
theorem cX(hn:n+9≤H.length)(x:Blk)(l:List Bs)(hl0:l≠ [])(hl:l.length≤1048576):Sat (CT G) 74 [.sl 1 (l.map .str)] (so (H++[x]) n s)
  (fun r h'=>r=.hs (H.length+1) 0 0 l.length true∧h'=so (H++[x,Blk.row 9 1 0 (l.map .str)]) n s):=by
 have c:=qY G l hl0 hl (so (H++[x]) n s);have hn1:n+9≤(H++[x]).length:=by simp;omega
 rw[aM hn1,aQ hn1]at c;simpa using c
end
theorem lN(s:PS)(id:Int)(t:Bs)(hs:Srt ((lkM s.it id).getD It.z).tags)(hl:((lkM s.it id).getD It.z).tags.length≤100000){H:Heap}{n:Nat}(hn:n+9≤H.length):Sat (CT G) 73 [.hp (n+8) 0 0 0,.int .i64 id,.str t] (so H n s) (fun r h'=>r=.tup [.int .i64 (lbF ((lkM s.it id).getD It.z).tags t),.bool (decide (t∈ ((lkM s.it id).getD It.z).tags))]∧h'=so H n s):=by
 refine sb [.tmp 6,.tmp 7] Tryz.func73 ?_;intro Q hQ;refine wk trivial ?_;refine kq trivial (mi G _ t hs hl _) ?_;refine ye hQ trivial ?_;exact cQ hn (.tup _ (fun x hx=>by simp only[N2,P7,or_false]at hx;rcases hx with rfl|rfl;exact .int _ _;exact .bool _)) ⟨rfl,rfl⟩
def tgF(l:List Bs)(t:Bs)(n:Int):List Bs:=
 if n=1∧t ∉ l then l.take (lbF l t)++t::l.drop (lbF l t)else if n=0∧t∈l then l.take (lbF l t)++l.drop (lbF l t+1)else l
theorem ns(s:PS)(e:Ev)(hs:Srt ((lkM s.it e.a).getD It.z).tags)(hl:((lkM s.it e.a).getD It.z).tags.length≤100000){H:Heap}{n:Nat}(hn:n+9≤H.length):Sat (CT G) 41 [.hp (n+8) 0 0 0,e.av] (so H n s) (fun r h'=>r=.sl 1 ((tgF ((lkM s.it e.a).getD It.z).tags e.s e.n).map .str)∧h'=so H n s):=by
 have hT:=fun(H:Heap) (hn:n+9≤H.length)=>lN G s e.a e.s hs hl (n:=n) hn
 have hn1:∀x:Blk,n+9≤(H++[x]).length:=fun x=>by simp;omega
 generalize hg:((lkM s.it e.a).getD It.z).tags=l at hs hl hT ⊢;by_cases hn0:l=[]
 ·subst hn0;have ht:lbF [] e.s=0:=rfl;have hd:decide (e.s∈ ([]:List Bs))=false:=by simp
  rw[ht,hd]at hT;by_cases k1:e.n=1
  ·have F:=k1
   skip
   refine sb [.tmp 4] Tryz.func41 ?_;intro Q hQ;refine wn F ?_;refine bP 8 0 _ (by rfl) (by decide+kernel) (by kernel_rfl) (by decide+kernel) (by decide+kernel) (by decide+kernel) ?_;simp only[R2,S9];refine sq F ?_;refine wn F ?_;rw[hg];refine(fI G _).mono ?_;rintro r h' ⟨hr,rfl⟩;simp(disch:=first|omega| (simp only[go_sem, ↓reduceIte,seval];first|done|omega)|fail) only[go_sem, ↓reduceIte,seval,F]
   skip
   refine wk F ?_
   skip
   refine kx F (hT _ (by first|omega| (simp;omega))) ?_;refine kx F (qZ G hn _ r hr e.s) ?_
   skip
   refine ee hQ F ?_;exact az hn (.sl _ _ (by simp;exact .str _)) ⟨by simp[tgF,k1],rfl⟩
  ·by_cases k0:e.n=0
   ·have F:=k0
    skip
    refine sb [.tmp 4] Tryz.func41 ?_;intro Q hQ;refine wn F ?_;refine bP 8 0 _ (by rfl) (by decide+kernel) (by kernel_rfl) (by decide+kernel) (by decide+kernel) (by decide+kernel) ?_;simp only[R2,S9];refine sq F ?_;refine wn F ?_;rw[hg];refine(fI G _).mono ?_;rintro r h' ⟨hr,rfl⟩;simp(disch:=first|omega| (simp only[go_sem, ↓reduceIte,seval];first|done|omega)|fail) only[go_sem, ↓reduceIte,seval,F]
    skip
    refine wk F ?_;refine kq F (hT _ (by first|omega| (simp;omega))) ?_;refine ee hQ F ?_;refine eG (r:=.sl 1 []) hn ?_ ⟨by simp[tgF,k0,k1],rfl⟩;rcases hr with rfl|rfl
    ·exact .ezs _
    ·exact .nils _
   ·have n1:(e.n==1)=false:=(by simp[k1]);have n0:(e.n==0)=false:=(by simp[k0]);have F:=F2 n1 n0
    skip
    refine sb [.tmp 4] Tryz.func41 ?_;intro Q hQ;refine wn F ?_;refine bP 8 0 _ (by rfl) (by decide+kernel) (by kernel_rfl) (by decide+kernel) (by decide+kernel) (by decide+kernel) ?_;simp only[R2,S9];refine sq F ?_;refine wn F ?_;rw[hg];refine(fI G _).mono ?_;rintro r h' ⟨hr,rfl⟩;simp(disch:=first|omega| (simp only[go_sem, ↓reduceIte,seval];first|done|omega)|fail) only[go_sem, ↓reduceIte,seval,F]
    skip
    refine wk F ?_;refine kq F (hT _ (by first|omega| (simp;omega))) ?_;refine ee hQ F ?_;refine eG (r:=.sl 1 []) hn ?_ ⟨by simp[tgF,k0,k1],rfl⟩;rcases hr with rfl|rfl
    ·exact .ezs _
    ·exact .nils _
 ·by_cases km:e.s∈l
  ·have hd:decide (e.s∈l)=true:=(by simp[km]);rw[hd]at hT;have hlt:lbF l e.s<l.length:=(f9.1 (pr hs km)).1;by_cases k0:e.n=0
   ·have F:=k0
    skip
    refine sb [.tmp 4] Tryz.func41 ?_;intro Q hQ;refine wn F ?_;refine bP 8 0 _ (by rfl) (by decide+kernel) (by kernel_rfl) (by decide+kernel) (by decide+kernel) (by decide+kernel) ?_;simp only[R2,S9];refine sq F ?_;refine wn F ?_;rw[hg];refine(cX G hn _ l hn0 (by omega)).mono ?_;rintro r h' ⟨rfl,rfl⟩;try refine sq F ?_
    skip
    refine wk F ?_;refine kq F (hT _ (by first|omega| (simp;omega))) ?_;refine kq F (tt G hn _ l (lbF l e.s) hlt hl) ?_;refine ee hQ F ?_;exact az hn (jk _ _) ⟨by simp[tgF,k0,km],rfl⟩
   ·by_cases k1:e.n=1
    ·have F:=k1
     skip
     refine sb [.tmp 4] Tryz.func41 ?_;intro Q hQ;refine wn F ?_;refine bP 8 0 _ (by rfl) (by decide+kernel) (by kernel_rfl) (by decide+kernel) (by decide+kernel) (by decide+kernel) ?_;simp only[R2,S9];refine sq F ?_;refine wn F ?_;rw[hg];refine(cX G hn _ l hn0 (by omega)).mono ?_;rintro r h' ⟨rfl,rfl⟩;try refine sq F ?_
     skip
     refine wk F ?_;refine kq F (hT _ (by first|omega| (simp;omega))) ?_;refine ee hQ F ?_;exact eG hn (kg hn _ l) ⟨by simp[tgF,k1,km],rfl⟩
    ·have n1:(e.n==1)=false:=(by simp[k1]);have n0:(e.n==0)=false:=(by simp[k0]);have F:=F2 n1 n0
     skip
     refine sb [.tmp 4] Tryz.func41 ?_;intro Q hQ;refine wn F ?_;refine bP 8 0 _ (by rfl) (by decide+kernel) (by kernel_rfl) (by decide+kernel) (by decide+kernel) (by decide+kernel) ?_;simp only[R2,S9];refine sq F ?_;refine wn F ?_;rw[hg];refine(cX G hn _ l hn0 (by omega)).mono ?_;rintro r h' ⟨rfl,rfl⟩;try refine sq F ?_
     skip
     refine wk F ?_;refine kq F (hT _ (by first|omega| (simp;omega))) ?_;refine ee hQ F ?_;exact eG hn (kg hn _ l) ⟨by simp[tgF,k1,k0,km],rfl⟩
  ·have hd:decide (e.s∈l)=false:=(by simp[km]);rw[hd]at hT;by_cases k1:e.n=1
   ·have F:=k1
    skip
    refine sb [.tmp 4] Tryz.func41 ?_;intro Q hQ;refine wn F ?_;refine bP 8 0 _ (by rfl) (by decide+kernel) (by kernel_rfl) (by decide+kernel) (by decide+kernel) (by decide+kernel) ?_;simp only[R2,S9];refine sq F ?_;refine wn F ?_;rw[hg];refine(cX G hn _ l hn0 (by omega)).mono ?_;rintro r h' ⟨rfl,rfl⟩;try refine sq F ?_
    skip
    refine wk F ?_
    skip
    refine kx F (hT _ (by first|omega| (simp;omega))) ?_;refine kx F (tq G hn _ l e.s hn0 hl) ?_
    skip
    refine ee hQ F ?_;exact az hn (jk _ _) ⟨by simp[tgF,k1,km],rfl⟩
   ·by_cases k0:e.n=0
    ·have F:=k0
     skip
     refine sb [.tmp 4] Tryz.func41 ?_;intro Q hQ;refine wn F ?_;refine bP 8 0 _ (by rfl) (by decide+kernel) (by kernel_rfl) (by decide+kernel) (by decide+kernel) (by decide+kernel) ?_;simp only[R2,S9];refine sq F ?_;refine wn F ?_;rw[hg];refine(cX G hn _ l hn0 (by omega)).mono ?_;rintro r h' ⟨rfl,rfl⟩;try refine sq F ?_
     skip
     refine wk F ?_;refine kq F (hT _ (by first|omega| (simp;omega))) ?_;refine ee hQ F ?_;exact eG hn (kg hn _ l) ⟨by simp[tgF,k0,km],rfl⟩
    ·have n1:(e.n==1)=false:=(by simp[k1]);have n0:(e.n==0)=false:=(by simp[k0]);have F:=F2 n1 n0
     skip
     refine sb [.tmp 4] Tryz.func41 ?_;intro Q hQ;refine wn F ?_;refine bP 8 0 _ (by rfl) (by decide+kernel) (by kernel_rfl) (by decide+kernel) (by decide+kernel) (by decide+kernel) ?_;simp only[R2,S9];refine sq F ?_;refine wn F ?_;rw[hg];refine(cX G hn _ l hn0 (by omega)).mono ?_;rintro r h' ⟨rfl,rfl⟩;try refine sq F ?_
     skip
     refine wk F ?_;refine kq F (hT _ (by first|omega| (simp;omega))) ?_;refine ee hQ F ?_;exact eG hn (kg hn _ l) ⟨by simp[tgF,k1,k0,km],rfl⟩
theorem zr(h:Heap)(s:PS):h++s.bl h.length=so (h++PS.z.bl h.length) h.length s:=by
 have:=jS h (s.bl h.length) [];rw[O2]at this;rw[this];unfold so;have hz:ov (h++PS.z.bl h.length) h.length (PS.z.bl h.length)=h++PS.z.bl h.length:=by
  have:=jS h (PS.z.bl h.length) [];rw[O2]at this;exact this.symm
 apply U0
 intro p;rw[bn (by simp),bn (by simp[PS.bl])];split
 ·rfl
 ·rename_i hp;rcases Z6 p h.length with h1|h1
  ·rw[M6 h1,M6 h1]
  ·rw[M9 h1,M9 h1,Q7 (by simp[PS.bl]at hp ⊢;omega),Q7 (by simp[PS.bl]at hp ⊢;omega)]
@[go_sem] theorem G8(p:Nat):(AVal.hm p).cells=[.hm p]:=(rfl)
@[go_sem] theorem J2(p:Nat):(AVal.hm p).lies=true:=(rfl)
theorem tu(h:Heap):Sat (CT G) 23 [] h (fun r h'=>r=.hp (h.length+8) 0 0 0∧h'=so (h++PS.z.bl h.length) h.length PS.z):=by
 rw[← zr];refine sb [.tmp 0] Tryz.func23 ?_;intro Q hQ;refine wk trivial ?_;refine ee hQ trivial ?_;refine za0 (by simp) (.hp _ _ _ _ (by simp)) ⟨rfl,?_⟩;simp[PS.bl,PS.z,encM,PS.row]
theorem r7(es:List Ev)(hl:es.length≤1048576)(I:PS→Prop)(okF:PS→Ev→Bool)(stp:PS→Ev→PS)(hI0:I PS.z)(hI:∀s e,e∈es→I s→I (stp s e))
  (hA:∀s e,e∈es→I s→∀(n:Nat) (H:Heap),n+9≤H.length→Sat (CT G) 18 [.hp (n+8) 0 0 0,e.av] (so H n s) (fun r h'=>r=.bool (okF s e)∧h'=so H n (stp s e)))(h:Heap):
  Sat (CT G) 7 [.sl 7 (es.map Ev.av)] h (fun r h'=>r=.hp (h.length+8) 0 0 0∧h'=so (h++PS.z.bl h.length) h.length (es.foldl stp PS.z)):=by
 have hIk:∀k,I ((es.take k).foldl stp PS.z):=by
  intro k;induction k with
  |zero=>exact hI0
  |succ k ih=>
   rw[O3,zc0];cases he:es[k]? with
   |none=>exact ih
   |some e=>exact hI _ _ (N4 he) ih
 have hz9:(PS.z.bl h.length).length=9:=rfl;generalize hH:h++PS.z.bl h.length=H0;have hl0:h.length+9≤H0.length:=by rw[← hH];simp[hz9]
 have hN:=tu G h;rw[hH]at hN;refine sb [.tmp 2] Tryz.func7 ?_;intro Q hQ;refine wk trivial ?_;refine kq trivial (hN) ?_;refine lm (fun nL tL hL=>∃(k:Nat) (j:Heap),es.length-k=nL∧so (H0++j) h.length ((es.take k).foldl stp PS.z)=hL∧tL 3=.hp (h.length+8) 0 0 0∧tL 7=.sl 7 (es.map Ev.av)∧tL 8=.int .i64 es.length∧tL 9=.int .i64 k∧k≤es.length) ((fun(k:Nat) (j:Heap)=>(es.length-k:Nat)) (0) ([])) ?_ ?_
 ·refine M0 ⟨0,[],rfl,aw,?_,?_,?_,?_,by omega⟩;all_goals try exact zZz trivial
 rintro _ s2 h' ⟨k,j,rfl,rfl,e3,e7,e8,e9,hk⟩ K2 hK2;simp only[ai,ak,Nat.reduceEqDiff, ↓reduceIte]at e3 e7 e8 e9;have F:=F4 e3 e7 e8 e9;refine wk F ?_;have hn1:h.length+9≤(H0++j).length:=by simp;omega
 refine cq F (fun c1=>?_) (fun c1=>?_)<;>(try exact c1.elim)<;>(refine wk F ?_)
 ·have c2:k<es.length:=by omega
  obtain⟨e,he⟩:∃e,es[k]? =some e:=⟨es[k],L9 c2⟩;have hem:=N4 he;have F:=F3 F c2 he;try refine sq F ?_
  refine wk F ?_;refine kq F (hA _ e hem (hIk k) _ _ (by first|omega| (simp;omega))) ?_;have ht:(es.take (k+1)).foldl stp PS.z=stp ((es.take k).foldl stp PS.z) e:=by rw[O3,zc0,he];rfl
  refine hK2 _ _ _ (M0 ⟨k+1,j++[.row 56 7 0 [e.av]],rfl,by rw[ht];rfl,?_,?_,?_,?_,by omega⟩) (by omega);all_goals try exact zZz F
 ·have hk2:k=es.length:=by omega
  subst hk2;have htk:es.take es.length=es:=W9;rw[htk];refine wk F ?_;refine ee hQ F ?_;rw[← aQ hl0];refine Fin.upto (by rw[aM hl0];omega) ?_ (.hp _ _ _ _ (by rw[aM hl0];omega)) ⟨rfl,rfl⟩;rw[aM hl0];have:=zr h (es.foldl stp PS.z);rw[hH]at this;rw[← this];exact(KeepC.refl h _).app (PS.clo hl0 _)
end
section
section
variable {κ α:Type} [DecidableEq κ]
def sumM(w:α→Int):ML κ α→Int
 | []=>0
 |e::l=>w e.2.1+sumM w l
def atM(w:α→Int):Option α→Int
 |none=>0
 |some a=>w a
theorem iJ(w:α→Int)(l:ML κ α)(c:Nat)(x:κ)(a:α):sumM w (upM l c x a)=sumM w l+w a-atM w (lkM l x):=by
 induction l with
 |nil=>simp[upM,sumM,lkM,atM]
 |cons e l ih=>
  simp only[upM,lkM];split
  ·simp only[sumM,atM];omega
  ·simp only[sumM,ih];omega
theorem pu(w:α→Int)(l:ML κ α)(x:κ):sumM w (dlM l x)=sumM w l-atM w (lkM l x):=by
 induction l with
 |nil=>simp[dlM,sumM,lkM,atM]
 |cons e l ih=>
  simp only[dlM,lkM];split
  ·simp only[sumM,atM];omega
  ·simp only[sumM,ih];omega
omit [DecidableEq κ] in
theorem cF{w:α→Int}(h:∀a,0≤w a)(l:ML κ α):0≤sumM w l:=by
 induction l with
 |nil=>simp[sumM]
 |cons e l ih=>have:=h e.2.1;simp only[sumM];omega
omit [DecidableEq κ] in
theorem iK{w:α→Int}(h:∀a,w a≤1)(l:ML κ α):sumM w l≤l.length:=by
 induction l with
 |nil=>simp[sumM]
 |cons e l ih=>have:=h e.2.1;simp only[sumM,M8];omega
theorem vW{w:α→Int}(h:∀a,0≤w a)(l:ML κ α)(x:κ):atM w (lkM l x)≤sumM w l:=by
 induction l with
 |nil=>simp[sumM,lkM,atM]
 |cons e l ih=>
  have h1:=h e.2.1;have h2:=cF h l;simp only[lkM];split
  ·simp only[sumM,atM];omega
  ·simp only[sumM];omega
theorem nt{w:α→Int}(h:∀a,0≤w a){l:ML κ α}(h0:sumM w l≤0){x:κ}{a:α}(hx:lkM l x=some a):w a=0:=by
 have:=vW h l x;rw[hx]at this;have:=h a;simp only[atM]at *;omega
end
def inFo(id:Int)(f:Fo):Int:=if f.inn=id then 1 else 0
def inFe(id:Int)(f:Fe):Int:=if f.inn=id then 1 else 0
theorem fX(id:Int)(f:Fo):0≤inFo id f:=by unfold inFo;split<;>omega
theorem fY(id:Int)(f:Fe):0≤inFe id f:=by unfold inFe;split<;>omega
theorem pv(id:Int)(f:Fo):inFo id f≤1:=by unfold inFo;split<;>omega
theorem pw(id:Int)(f:Fe):inFe id f≤1:=by unfold inFe;split<;>omega
theorem tv{l:ML Int Fo}:∀{k:Nat} {id:Int} {d:Nat},deepO l k id=some d→∀{k':Nat},d≤k'→deepO l k' id=some d:=by
 intro k;induction k with
 |zero=>
  intro id d h k' hk;rw[deepO]at h;cases hl:lkM l id with
  |none=>
   rw[hl]at h;simp at h;subst h;cases k' with
   |zero=>rw[deepO,hl];simp
   |succ k'=>rw[deepO,hl]
  |some f=>rw[hl]at h;simp at h
 |succ k ih=>
  intro id d h k' hk;rw[deepO]at h;cases hl:lkM l id with
  |none=>
   rw[hl]at h;simp at h;subst h;cases k' with
   |zero=>rw[deepO,hl];simp
   |succ k'=>rw[deepO,hl]
  |some f=>
   rw[hl]at h;simp only[N1]at h;obtain⟨j,hj,rfl⟩:=h;obtain⟨k'',rfl⟩:∃k'',k'=k''+1:=⟨k'-1,by omega⟩;rw[deepO,hl];simp only[ih hj (k':=k'') (by omega),R4]
theorem j7{l l':ML Int Fo}(P:Int→Prop)(h:∀id,P id→lkM l' id=lkM l id)(hc:∀id f,P id→lkM l id=some f→P f.inn):∀(k:Nat) (id:Int),P id→deepO l' k id=deepO l k id:=by
 intro k;induction k with
 |zero=>intro id hp;rw[deepO,deepO,h id hp]
 |succ k ih=>
  intro id hp;rw[deepO,deepO,h id hp];cases hl:lkM l id with
  |none=>rfl
  |some f=>simp only[ih f.inn (hc id f hp hl)]
structure PS.Inv (s:PS):Prop where
 w1:WFM s.fo s.c1
 w2:WFM s.fe s.c2
 w3:WFM s.it s.c3
 w4:WFM s.se s.c4
 w7:WFM s.gu s.c7
 w8:WFM s.he s.c8
 i1:∀k f,lkM s.fo k=some f→f.id=k∧1≤k∧k≤1048576
 i2:∀k f,lkM s.fe k=some f→f.id=k∧1≤k∧k≤1048576
 i3:∀k t,lkM s.it k=some t→t.id=k∧1≤k∧k≤1048576
 i4:∀k q,lkM s.se k=some q→q.id=k∧1≤k∧k≤1048576
 u1:∀k f,lkM s.fo k=some f→f.inn=0∨(lkM s.fo f.inn).isSome=true
 u2:∀k f,lkM s.fe k=some f→f.inn=0∨(lkM s.fo f.inn).isSome=true
 u3:∀k t,lkM s.it k=some t→(lkM s.fe t.feed).isSome=true
 dp:∀id,∃d,d≤7∧deepO s.fo 7 id=some d
 hd:∀id,id≠0→(lkM s.he id).getD 0=sumM (inFo id) s.fo+sumM (inFe id) s.fe
 h0:lkM s.he 0=none
 tg:∀k t,lkM s.it k=some t→Srt t.tags∧t.tags.length≤8
 l1:s.fo.length≤64
 l2:s.fe.length≤64
 l3:s.it.length≤1024
 l4:s.se.length≤32
theorem PS.Inv.z:PS.z.Inv where
 w1:=.nil
 w2:=.nil
 w3:=.nil
 w4:=.nil
 w7:=.nil
 w8:=.nil
 i1:=fun _ _ h=>by cases h
 i2:=fun _ _ h=>by cases h
 i3:=fun _ _ h=>by cases h
 i4:=fun _ _ h=>by cases h
 u1:=fun _ _ h=>by cases h
 u2:=fun _ _ h=>by cases h
 u3:=fun _ _ h=>by cases h
 dp:=fun _=>⟨0,by omega,rfl⟩
 hd:=fun _ _=>rfl
 h0:=rfl
 tg:=fun _ _ h=>by cases h
 l1:=by simp[PS.z]
 l2:=by simp[PS.z]
 l3:=by simp[PS.z]
 l4:=by simp[PS.z]
theorem PS.Inv.few{s:PS}(h:s.Inv):s.few:=by
 intro id;by_cases h0:id=0
 ·subst h0;rw[h.h0];simp
 ·have h1:=h.hd id h0;have h2:=cF (fX id) s.fo;have h3:=cF (fY id) s.fe;have h4:=iK (pv id) s.fo;have h5:=iK (pw id) s.fe;have h6:=h.l1;have h7:=h.l2;omega
def heF(he:ML Int Int)(c:Nat)(id k:Int):ML Int Int:=if id=0 then he else upM he c id ((lkM he id).getD 0+k)
def chF(he:ML Int Int)(c:Nat)(id:Int):Nat:=if id=0 then c else ckM he c id
theorem aS(s:PS)(id k:Int):s.hold id k= {s with he:=heF s.he s.c8 id k,c8:=chF s.he s.c8 id}:=by
 unfold PS.hold heF chF;split<;>rfl
theorem eX(he:ML Int Int)(c:Nat)(id k x:Int):(lkM (heF he c id k) x).getD 0=(lkM he x).getD 0+(if x=id∧id≠0 then k else 0):=by
 unfold heF;by_cases h:id=0
 ·rw[M1 h,L5 (by omega)];omega
 ·rw[L5 h,aI];by_cases hx:x=id
  ·subst hx;rw[M1 rfl,M1 ⟨rfl,h⟩];rfl
  ·rw[L5 hx,L5 (by omega)];omega
theorem iL{he:ML Int Int}(c:Nat)(id k:Int)(h:lkM he 0=none):lkM (heF he c id k) 0=none:=by
 unfold heF;split
 ·exact h
 ·rename_i h1;rw[aI,L5 (fun e=>h1 e.symm)];exact h
theorem fZ{he:ML Int Int}{c:Nat}(w:WFM he c)(id k:Int):WFM (heF he c id k) (chF he c id):=by
 unfold heF chF;split
 ·exact w
 ·exact w.up _ _
theorem vX{s:PS}(h:s.Inv)(id k:Int)(hk: -1≤k∧k≤1):(s.hold id k).few:=by
 intro x;have h1:=eX s.he s.c8 id k x;rw[aS];simp only;have h6:=h.l1;have h7:=h.l2;have h2:=cF (fX x) s.fo;have h3:=cF (fY x) s.fe;have h4:=iK (pv x) s.fo;have h5:=iK (pw x) s.fe;by_cases h0:x=0
 ·subst h0;rw[h1,h.h0];simp only[Option.getD_none];split<;>omega
 ·have:=h.hd x h0;rw[h1];split<;>omega
def PS.dpt(s:PS)(id:Int):Nat:=(deepO s.fo 7 id).getD 0
def PS.ok(L:Leaf)(s:PS)(e:Ev):Bool:=s.fits (L.ck e) (s.dpt e.b) e
def PS.aft(s:PS)(e:Ev):PS:=s.after (tgF ((lkM s.it e.a).getD It.z).tags e.s e.n) e
def PS.step(L:Leaf)(s:PS)(e:Ev):PS:=if s.ok L e then s.aft e else s
theorem nu{L:Leaf}{e:Ev}(h:L.right e=true)(hk:e.kind≠13):1≤e.a∧e.a≤1048576:=by
 have:idF e.a=true:=by
  unfold Leaf.right at h;repeat' (split at h)
  all_goals first| (simp only[L7]at h;exact h.1)|exact h|omega| (cases h)
 simpa [idF]using this
theorem xK{l:List Bs}{t:Bs}(hs:Srt l)(ht:t ∉ l):Srt (l.take (lbF l t)++t::l.drop (lbF l t)):=by
 induction l with
 |nil=>simp[lbF,Srt]
 |cons a l ih=>
  have hs':=hs;unfold Srt at hs;rw[U1]at hs;rw[eW];split
  ·rename_i hat;simp only[R2,Z4,W4];unfold Srt;rw[U1];refine⟨fun x hx=>?_,ih hs.2 (fun h=>ht (V7 _ h))⟩;rw[T4,N2]at hx;rcases hx with h|rfl|h
   ·exact hs.1 x (zb7 h)
   ·exact hat
   ·exact hs.1 x (List.mem_of_mem_drop h)
  ·rename_i hat;simp only[S9,Y3,P3];have hat':Op.bytesLess a t=false:=(by simpa using hat);have hta:Op.bytesLess t a=true:=by
    cases h:Op.bytesLess t a with
    |true=>rfl
    |false=>exact(ht (by rw[nq t a h hat'];exact W7 ..)).elim
   unfold Srt;rw[U1];refine⟨fun x hx=>?_,hs'⟩;rcases N2.1 hx with rfl|h
   ·exact hta
   ·exact eV hta (hs.1 x h)
theorem xL{l:List Bs}(hs:Srt l)(i:Nat):Srt (l.take i++l.drop (i+1)):=by
 rw[← List.eraseIdx_eq_take_drop_succ];exact hs.sublist (List.eraseIdx_sublist l i)
theorem xM{l:List Bs}(hs:Srt l)(t:Bs)(n:Int):Srt (tgF l t n):=by
 unfold tgF;split
 ·rename_i h;exact xK hs h.2
 ·split
  ·exact xL hs _
  ·exact hs
theorem xN{l:List Bs}(t:Bs)(n:Int)(hl:l.length≤8)(h:n=0∨t∈l∨l.length<8):(tgF l t n).length≤8:=by
 have:=nr l t;unfold tgF;split
 ·rename_i h1;simp only[M5,M8,N9,P5];rcases h with h|h|h
  ·omega
  ·exact(h1.2 h).elim
  ·omega
 ·split
  ·simp only[M5,N9,P5];omega
  ·exact hl
variable {s:PS} {e:Ev}
theorem bY{κ α:Type}[DecidableEq κ]{l:ML κ α}{x:κ}(h:(lkM l x).isSome=false):lkM l x=none:=by
 cases hl:lkM l x with
 |none=>rfl
 |some a=>rw[hl]at h;cases h
theorem bx{κ α:Type}[DecidableEq κ]{l:ML κ α}{x:κ}(h:(lkM l x).isSome=true):∃a,lkM l x=some a:=N3.1 h
theorem eH{κ α:Type}[DecidableEq κ]{l:ML κ α}(c:Nat)(x:κ)(a:α){y:κ}(h:(lkM l y).isSome=true):(lkM (upM l c x a) y).isSome=true:=by
 rw[aI];split
 ·rfl
 ·exact h
theorem aP{κ α:Type}[DecidableEq κ]{l:ML κ α}{c:Nat}{x y:κ}{a b:α}(h:lkM (upM l c x a) y=some b):(y=x∧b=a)∨(y≠x∧lkM l y=some b):=by
 rw[aI]at h;split at h
 ·rename_i hy;cases h;exact .inl ⟨hy,rfl⟩
 ·rename_i hy;exact .inr ⟨hy,h⟩
theorem da{κ α:Type}[DecidableEq κ]{l:ML κ α}(hn:(l.map (·.1)).Nodup){x y:κ}{b:α}(h:lkM (dlM l x) y=some b):y≠x∧lkM l y=some b:=by
 rw[cK hn]at h;split at h
 ·cases h
 ·rename_i hy;exact⟨hy,h⟩
theorem g9{α:Type}{l:ML Int α}(hn:(l.map (·.1)).Nodup){p:Int×α×Nat→Bool}{y:Int}{b:α}(h:lkM (l.filter p) y=some b):lkM l y=some b:=by
 obtain⟨n,hm⟩:=cO h;exact bI hn (T7.1 hm).1
theorem eY{κ α:Type}[DecidableEq κ](l:ML κ α)(c:Nat)(x:κ)(a:α)(m:Nat)(h:l.length<m∨((lkM l x).isSome=true∧l.length≤m)):(upM l c x a).length≤m:=by
 rw[iC];split
 ·omega
 ·rename_i h1;rcases h with h|h
  ·omega
  ·exact(h1 h.1).elim
theorem nv{κ α:Type}[DecidableEq κ](l:ML κ α)(x:κ)(m:Nat)(h:l.length≤m):(dlM l x).length≤m:=R1 (iD l x).length_le h
theorem PS.Inv.no0(h:s.Inv):lkM s.fo 0=none:=by
 cases hl:lkM s.fo 0 with
 |none=>rfl
 |some f=>have:=(h.i1 _ _ hl).2.1;omega
theorem PS.Inv.deep(h:s.Inv)(id:Int):deepO s.fo 7 id=some (s.dpt id)∧s.dpt id≤7:=by
 obtain⟨d,h1,h2⟩:=h.dp id;unfold PS.dpt;rw[h2];exact⟨rfl,h1⟩
theorem iu(h:s.within e.b=true):e.b=0∨(lkM s.fo e.b).isSome=true:=by
 unfold PS.within at h;simpa using h
theorem PS.Inv.mkFo(h:s.Inv)(ha:1≤e.a∧e.a≤1048576)(hn:(lkM s.fo e.a).isSome=false)(hl:s.fo.length<64)(hw:s.within e.b=true)(hd:s.dpt e.b<7):
  PS.Inv ((((s.upFo e.a ⟨e.a,e.b,e.s⟩).upNm (e.b,e.s) e.a).hold e.b 1).raise 0 e.a):=by
 rw[aS];have hb:=iu hw;have hnn:=bY hn;have hba:e.b≠e.a:=by
  rcases hb with hb|hb
  ·omega
  ·intro q;rw[q,hn]at hb;cases hb
 have hcg:∀k id,id≠e.a→deepO (upM s.fo s.c1 e.a ⟨e.a,e.b,e.s⟩) k id=deepO s.fo k id:=by
  refine j7 (fun id=>id≠e.a) (fun id hi=>by rw[aI,L5 hi]) (fun id f hi hf=>?_);rcases h.u1 id f hf with h1|h1
  ·omega
  ·intro q;rw[q,hn]at h1;cases h1
 exact {h with
  w1:=h.w1.up _ _
  w8:=fZ h.w8 _ _
  i1:=fun k f hk=>by
   rcases aP (l:=s.fo) hk with⟨rfl,rfl⟩| ⟨_,hk⟩
   ·exact⟨rfl,ha⟩
   ·exact h.i1 k f hk
  u1:=fun k f hk=>by
   rcases aP (l:=s.fo) hk with⟨rfl,rfl⟩| ⟨_,hk⟩
   ·exact hb.imp id (eH _ _ _)
   ·exact(h.u1 k f hk).imp id (eH _ _ _)
  u2:=fun k f hk=>(h.u2 k f hk).imp id (eH _ _ _)
  dp:=fun id=>by
   show ∃d,d≤7∧deepO (upM s.fo s.c1 e.a ⟨e.a,e.b,e.s⟩) 7 id=some d;by_cases hi:id=e.a
   ·subst hi;obtain⟨h1,h2⟩:=h.deep e.b;refine⟨s.dpt e.b+1,by omega,?_⟩;rw[deepO,aI,M1 rfl];simp only[hcg 6 e.b hba,tv h1 (k':=6) (by omega),R4]
   ·obtain⟨d,h1,h2⟩:=h.dp id;exact⟨d,h1,by rw[hcg 7 id hi,h2]⟩
  hd:=fun id hi=>by
   show(lkM (heF s.he s.c8 e.b 1) id).getD 0=sumM (inFo id) (upM s.fo s.c1 e.a ⟨e.a,e.b,e.s⟩)+sumM (inFe id) s.fe;rw[eX,iJ,hnn,h.hd id hi];simp only[atM,inFo];by_cases hx:e.b=id
   ·subst hx;simp[hi];omega
   ·rw[L5 (by omega),L5 hx];omega
  h0:=iL _ _ _ h.h0
  l1:=eY _ _ _ _ _ (.inl hl)}
theorem PS.Inv.mkFe(h:s.Inv)(ha:1≤e.a∧e.a≤1048576)(hn:(lkM s.fe e.a).isSome=false)(hl:s.fe.length<64)(hw:s.within e.b=true):
  PS.Inv ((((s.upFe e.a ⟨e.a,e.b,e.s,e.t⟩).upPl e.s e.a).hold e.b 1).raise 1 e.a):=by
 rw[aS];have hb:=iu hw;have hnn:=bY hn;exact {h with
  w2:=h.w2.up _ _
  w8:=fZ h.w8 _ _
  i2:=fun k f hk=>by
   rcases aP (l:=s.fe) hk with⟨rfl,rfl⟩| ⟨_,hk⟩
   ·exact⟨rfl,ha⟩
   ·exact h.i2 k f hk
  u2:=fun k f hk=>by
   rcases aP (l:=s.fe) hk with⟨rfl,rfl⟩| ⟨_,hk⟩
   ·exact hb
   ·exact h.u2 k f hk
  u3:=fun k f hk=>eH _ _ _ (h.u3 k f hk)
  hd:=fun id hi=>by
   show(lkM (heF s.he s.c8 e.b 1) id).getD 0=sumM (inFo id) s.fo+sumM (inFe id) (upM s.fe s.c2 e.a ⟨e.a,e.b,e.s,e.t⟩);rw[eX,iJ,hnn,h.hd id hi];simp only[atM,inFe];by_cases hx:e.b=id
   ·subst hx;simp[hi];omega
   ·rw[L5 (by omega),L5 hx];omega
  h0:=iL _ _ _ h.h0
  l2:=eY _ _ _ _ _ (.inl hl)}
theorem PS.Inv.mkIt(h:s.Inv)(ha:1≤e.a∧e.a≤1048576)(hl:s.it.length<1024)(hw:(lkM s.fe e.b).isSome=true):
  PS.Inv (((s.upIt e.a ⟨e.a,e.b,e.n,e.s,e.t,e.u,false,false,[]⟩).upGu (e.b,e.s) e.a).raise 2 e.a):=
 {h with
  w3:=h.w3.up _ _
  w7:=h.w7.up _ _
  i3:=fun k f hk=>by
   rcases aP (l:=s.it) hk with⟨rfl,rfl⟩| ⟨_,hk⟩
   ·exact⟨rfl,ha⟩
   ·exact h.i3 k f hk
  u3:=fun k f hk=>by
   rcases aP (l:=s.it) hk with⟨rfl,rfl⟩| ⟨_,hk⟩
   ·exact hw
   ·exact h.u3 k f hk
  tg:=fun k f hk=>by
   rcases aP (l:=s.it) hk with⟨rfl,rfl⟩| ⟨_,hk⟩
   ·exact⟨by simp[Srt],by simp⟩
   ·exact h.tg k f hk
  l3:=eY _ _ _ _ _ (.inl hl)}
theorem PS.Inv.mkSe(h:s.Inv)(ha:1≤e.a∧e.a≤1048576)(hl:s.se.length<32):PS.Inv ((s.upSe e.a ⟨e.a,e.s,e.t⟩).raise 3 e.a):=
 {h with
  w4:=h.w4.up _ _
  i4:=fun k f hk=>by
   rcases aP (l:=s.se) hk with⟨rfl,rfl⟩| ⟨_,hk⟩
   ·exact⟨rfl,ha⟩
   ·exact h.i4 k f hk
  l4:=eY _ _ _ _ _ (.inl hl)}
theorem PS.Inv.reIt(h:s.Inv){k:Int}{t:It}(t':It)(hk:lkM s.it k=some t)(h1:t'.id=t.id)(h2:t'.feed=t.feed)(h3:Srt t'.tags∧t'.tags.length≤8):PS.Inv (s.upIt k t'):=
 {h with
  w3:=h.w3.up _ _
  i3:=fun j f hj=>by
   rcases aP (l:=s.it) hj with⟨rfl,rfl⟩| ⟨_,hj⟩
   ·rw[h1];exact h.i3 _ _ hk
   ·exact h.i3 j f hj
  u3:=fun j f hj=>by
   rcases aP (l:=s.it) hj with⟨rfl,rfl⟩| ⟨_,hj⟩
   ·rw[h2];exact h.u3 _ _ hk
   ·exact h.u3 j f hj
  tg:=fun j f hj=>by
   rcases aP (l:=s.it) hj with⟨rfl,rfl⟩| ⟨_,hj⟩
   ·exact h3
   ·exact h.tg j f hj
  l3:=eY _ _ _ _ _ (.inr ⟨by rw[hk];rfl,h.l3⟩)}
theorem PS.Inv.unFo(h:s.Inv){k:Int}{f:Fo}(hk:lkM s.fo k=some f)(h0:(lkM s.he k).getD 0=0):PS.Inv (((s.dlNm (f.inn,f.name)).dlFo k).hold f.inn (-1)):=by
 rw[aS];have hk1:=(h.i1 _ _ hk).2;have hs:=h.hd k (by omega);have n1:=cF (fX k) s.fo;have n2:=cF (fY k) s.fe;have hA:∀j g,lkM s.fo j=some g→g.inn≠k:=fun j g hg q=>by
  have:=nt (fX k) (l:=s.fo) (by omega) hg;rw[inFo,M1 q]at this;omega
 have hB:∀j g,lkM s.fe j=some g→g.inn≠k:=fun j g hg q=>by
  have:=nt (fY k) (l:=s.fe) (by omega) hg;rw[inFe,M1 q]at this;omega
 have hcg:∀m id,id≠k→deepO (dlM s.fo k) m id=deepO s.fo m id:=
  j7 (fun id=>id≠k) (fun id hi=>by rw[cK h.w1.keys,L5 hi]) (fun id g _ hg=>hA id g hg)
 have hst:∀x,x≠k→(lkM s.fo x).isSome=true→(lkM (dlM s.fo k) x).isSome=true:=fun x hx hs=>by rw[cK h.w1.keys,L5 hx];exact hs
 exact {h with
  w1:=h.w1.dl _
  w8:=fZ h.w8 _ _
  i1:=fun j g hj=>h.i1 j g (da h.w1.keys hj).2
  u1:=fun j g hj=>by
   obtain⟨_,hj⟩:=da h.w1.keys hj;exact(h.u1 j g hj).imp id (hst _ (hA j g hj))
  u2:=fun j g hj=>(h.u2 j g hj).imp id (hst _ (hB j g hj))
  dp:=fun id=>by
   show ∃d,d≤7∧deepO (dlM s.fo k) 7 id=some d;by_cases hi:id=k
   ·subst hi;exact⟨0,by omega,by rw[deepO,cK h.w1.keys,M1 rfl]⟩
   ·rw[hcg 7 id hi];exact h.dp id
  hd:=fun id hi=>by
   show(lkM (heF s.he s.c8 f.inn (-1)) id).getD 0=sumM (inFo id) (dlM s.fo k)+sumM (inFe id) s.fe;rw[eX,pu,hk,h.hd id hi];simp only[atM,inFo];by_cases hx:f.inn=id
   ·subst hx;simp[hi];omega
   ·rw[L5 (by omega),L5 hx];omega
  h0:=iL _ _ _ h.h0
  l1:=nv _ _ _ h.l1}
theorem PS.Inv.reTi(h:s.Inv){k:Int}{f:Fe}(t:Bs)(hk:lkM s.fe k=some f):PS.Inv (s.upFe k {f with title:=t}):=
 {h with
  w2:=h.w2.up _ _
  i2:=fun j g hj=>by
   rcases aP (l:=s.fe) hj with⟨rfl,rfl⟩| ⟨_,hj⟩
   ·have:=h.i2 _ _ hk;exact this
   ·exact h.i2 j g hj
  u2:=fun j g hj=>by
   rcases aP (l:=s.fe) hj with⟨rfl,rfl⟩| ⟨_,hj⟩
   ·have:=h.u2 _ _ hk;exact this
   ·exact h.u2 j g hj
  u3:=fun j g hj=>eH _ _ _ (h.u3 j g hj)
  hd:=fun id hi=>by
   show(lkM s.he id).getD 0=sumM (inFo id) s.fo+sumM (inFe id) (upM s.fe s.c2 k {f with title:=t});rw[iJ,hk,h.hd id hi];simp only[atM,inFe];omega
  l2:=eY _ _ _ _ _ (.inr ⟨by rw[hk];rfl,h.l2⟩)}
theorem PS.Inv.reIn(h:s.Inv){k b:Int}{f:Fe}(hk:lkM s.fe k=some f)(hb:b=0∨(lkM s.fo b).isSome=true):PS.Inv (((s.hold f.inn (-1)).hold b 1).upFe k {f with inn:=b}):=by
 rw[aS s,aS];exact {h with
  w2:=h.w2.up _ _
  w8:=fZ (fZ h.w8 _ _) _ _
  i2:=fun j g hj=>by
   rcases aP (l:=s.fe) hj with⟨rfl,rfl⟩| ⟨_,hj⟩
   ·have:=h.i2 _ _ hk;exact this
   ·exact h.i2 j g hj
  u2:=fun j g hj=>by
   rcases aP (l:=s.fe) hj with⟨rfl,rfl⟩| ⟨_,hj⟩
   ·exact hb
   ·exact h.u2 j g hj
  u3:=fun j g hj=>eH _ _ _ (h.u3 j g hj)
  hd:=fun id hi=>by
   show(lkM (heF (heF s.he s.c8 f.inn (-1)) (chF s.he s.c8 f.inn) b 1) id).getD 0=sumM (inFo id) s.fo+sumM (inFe id) (upM s.fe s.c2 k {f with inn:=b});rw[eX,eX,iJ,hk,h.hd id hi];simp only[atM,inFe];by_cases h1:f.inn=id
   ·by_cases h2:b=id
    ·rw[M1 ⟨h1.symm,by omega⟩,M1 ⟨h2.symm,by omega⟩,M1 h1,M1 h2];omega
    ·rw[M1 ⟨h1.symm,by omega⟩,L5 (by omega),M1 h1,L5 h2];omega
   ·by_cases h2:b=id
    ·rw[L5 (by omega),M1 ⟨h2.symm,by omega⟩,L5 h1,M1 h2];omega
    ·rw[L5 (by omega),L5 (by omega),L5 h1,L5 h2];omega
  h0:=iL _ _ _ (iL _ _ _ h.h0)
  l2:=eY _ _ _ _ _ (.inr ⟨by rw[hk];rfl,h.l2⟩)}
theorem PS.Inv.unFe(h:s.Inv){k:Int}{f:Fe}(hk:lkM s.fe k=some f):PS.Inv (s.unfeed f):=by
 have hfk:=(h.i2 _ _ hk).1;unfold PS.unfeed;rw[aS];exact {h with
  w2:=h.w2.dl _
  w3:=h.w3.filter _
  w7:=h.w7.filter _
  w8:=fZ h.w8 _ _
  i2:=fun j g hj=>h.i2 j g (da h.w2.keys hj).2
  i3:=fun j t hj=>h.i3 j t (g9 h.w3.keys hj)
  u2:=fun j g hj=>h.u2 j g (da h.w2.keys hj).2
  u3:=fun j t hj=>by
   have hj':lkM (itF s.it f.id) j=some t:=hj;show(lkM (dlM s.fe f.id) t.feed).isSome=true;have hne:t.feed≠f.id:=by
    obtain⟨n,hm⟩:=cO hj';have:=(T7.1 hm).2;simpa using this
   rw[cK h.w2.keys,L5 hne];exact h.u3 j t (g9 h.w3.keys hj')
  hd:=fun id hi=>by
   show(lkM (heF s.he s.c8 f.inn (-1)) id).getD 0=sumM (inFo id) s.fo+sumM (inFe id) (dlM s.fe f.id);rw[eX,pu,hfk,hk,h.hd id hi];simp only[atM,inFe];by_cases hx:f.inn=id
   ·subst hx;simp[hi];omega
   ·rw[L5 (by omega),L5 hx];omega
  h0:=iL _ _ _ h.h0
  tg:=fun j t hj=>h.tg j t (g9 h.w3.keys hj)
  l2:=nv _ _ _ h.l2
  l3:=R1 (X8 _ _) h.l3}
theorem PS.Inv.unSe(h:s.Inv)(k:Int):PS.Inv (s.dlSe k):=
 {h with
  w4:=h.w4.dl _
  i4:=fun j g hj=>h.i4 j g (da h.w4.keys hj).2
  l4:=nv _ _ _ h.l4}
theorem PS.Inv.clk(h:s.Inv)(k:Int):PS.Inv {s with clock:=k}:= {h with}
theorem PS.Inv.step{L:Leaf}(h:s.Inv)(e:Ev):(s.step L e).Inv:=by
 unfold PS.step;split
 ·rename_i hok;unfold PS.ok PS.fits at hok;rw[L7]at hok;obtain⟨hck,hf⟩:=hok;have hr:L.right e=true:=by unfold Leaf.ck at hck;simp only[L7]at hck;exact hck.1
  have ha:e.kind≠13→1≤e.a∧e.a≤1048576:=fun hk=>nu hr hk
  unfold PS.aft PS.after;by_cases k1:e.kind=1
  ·rw[M1 k1]at hf;simp only[L7,P0,M7,beq_iff_eq]at hf;rw[L5 (by omega),L5 (by omega),L5 (by omega),L5 (by omega),L5 (by omega),L5 (by omega),L5 (by omega),L5 (by omega),L5 (by omega),PS.make,M1 k1];exact h.mkFo (ha (by omega)) hf.1.1.1.1 hf.1.1.1.2 hf.1.1.2 hf.1.2
  rw[L5 k1]at hf;by_cases k2:e.kind=2
  ·rw[M1 k2]at hf ⊢;simp only[L7,beq_iff_eq]at hf;obtain⟨f,hfo⟩:=bx hf.1;rw[hfo];exact h.unFo hfo hf.2
  rw[L5 k2]at hf ⊢;by_cases k3:e.kind=3
  ·rw[M1 k3]at hf;simp only[L7,P0,M7,beq_iff_eq]at hf;rw[L5 (by omega),L5 (by omega),L5 (by omega),L5 (by omega),L5 (by omega),L5 (by omega),L5 (by omega),L5 (by omega),PS.make,L5 (by omega),M1 k3];exact h.mkFe (ha (by omega)) hf.1.1.1 hf.1.1.2 hf.1.2
  rw[L5 k3]at hf;by_cases k4:e.kind=4
  ·rw[M1 (.inl k4)]at hf;rw[M1 k4];obtain⟨f,hfo⟩:=bx hf;rw[hfo];exact h.unFe hfo
  rw[L5 k4];by_cases k5:e.kind=5
  ·rw[M1 (.inr k5)]at hf;rw[M1 k5];obtain⟨f,hfo⟩:=bx hf;rw[hfo];exact h.reTi _ hfo
  rw[L5 (by omega)]at hf;rw[L5 k5];by_cases k6:e.kind=6
  ·rw[M1 k6]at hf ⊢;simp only[L7]at hf;obtain⟨f,hfo⟩:=bx hf.1;rw[hfo];exact h.reIn hfo (iu hf.2)
  rw[L5 k6]at hf ⊢;by_cases k7:e.kind=7
  ·rw[M1 k7]at hf;simp only[L7,P0,M7,beq_iff_eq]at hf;rw[L5 (by omega),L5 (by omega),L5 (by omega),L5 (by omega),L5 (by omega),PS.make,L5 (by omega),L5 (by omega),M1 k7];exact h.mkIt (ha (by omega)) hf.1.1.2 hf.1.2
  rw[L5 k7]at hf;by_cases k8:e.kind=8
  ·rw[M1 (.inl k8)]at hf;rw[M1 k8];obtain⟨f,hfo⟩:=bx hf;rw[hfo];have htg:=h.tg _ _ hfo;exact h.reIt _ hfo rfl rfl htg
  rw[L5 k8];by_cases k9:e.kind=9
  ·rw[M1 (.inr k9)]at hf;rw[M1 k9];obtain⟨f,hfo⟩:=bx hf;rw[hfo];have htg:=h.tg _ _ hfo;exact h.reIt _ hfo rfl rfl htg
  rw[L5 (by omega)]at hf;rw[L5 k9];by_cases k10:e.kind=10
  ·rw[M1 k10]at hf ⊢;simp only[L7,R6,M7]at hf;obtain⟨f,hfo⟩:=bx hf.1;rw[hfo]at hf ⊢;simp only[Q8]at hf ⊢;have htg:=h.tg _ _ hfo;exact h.reIt _ hfo rfl rfl ⟨xM htg.1 _ _,xN _ _ htg.2 (by rcases hf.2 with(h1|h1)|h1<;>simp[h1])⟩
  rw[L5 k10]at hf ⊢;by_cases k11:e.kind=11
  ·rw[M1 k11]at hf;simp only[L7,P0,M7]at hf;rw[L5 (by omega),L5 (by omega),PS.make,L5 (by omega),L5 (by omega),L5 (by omega),M1 k11];exact h.mkSe (ha (by omega)) hf.2
  rw[L5 k11]at hf;by_cases k12:e.kind=12
  ·rw[M1 k12];exact h.unSe _
  rw[L5 k12];by_cases k13:e.kind=13
  ·rw[M1 k13];exact h.clk _
  ·exfalso;unfold Leaf.right at hr;rw[L5 k1,L5 (by omega),L5 k3,L5 k5,L5 k6,L5 k7,L5 (by omega),L5 k10,L5 k11,L5 k13]at hr;cases hr
 ·exact h
theorem PS.Inv.fold{L:Leaf}(h:s.Inv)(l:List Ev):(l.foldl (PS.step L) s).Inv:=by
 induction l generalizing s with
 |nil=>exact h
 |cons e l ih=>exact ih (h.step e)
theorem aN{α:Type}{z:α}{l:ML Int α}{a:α}(h:a∈valsM z l):∃k,lkM l k=some a:=by
 unfold valsM at h;obtain⟨k,hk,rfl⟩:=N0.1 h;have hk2:k∈l.map (·.1):=(Z3 _ _).mem_iff.1 hk;refine⟨k,?_⟩;cases hl:lkM l k with
 |none=>
  have:(lkM l k).isSome=false:=by rw[hl];rfl
  exact(iE this hk2).elim
 |some a=>rfl
theorem kh{α:Type}{l:ML Int α}{c:Nat}(w:WFM l c)(h:∀k a,lkM l k=some a→1≤k∧k≤1048576):∀e∈l,inI e.1:=fun e he=>by
 have:=h e.1 e.2.1 (bI w.keys (b:=e.2.2) (by exact he));unfold inI;omega
theorem PS.Inv.toOk(h:s.Inv):s.Ok where
 w1:=h.w1
 w2:=h.w2
 w3:=h.w3
 w4:=h.w4
 b1:=kh h.w1 fun k f hk=>(h.i1 k f hk).2
 b2:=kh h.w2 fun k f hk=>(h.i2 k f hk).2
 b3:=kh h.w3 fun k f hk=>(h.i3 k f hk).2
 b4:=kh h.w4 fun k f hk=>(h.i4 k f hk).2
 l1:=R1 h.l1 (by omega)
 l2:=R1 h.l2 (by omega)
 l3:=R1 h.l3 (by omega)
 l4:=R1 h.l4 (by omega)
 tg:=fun t ht=>by
  obtain⟨k,hk⟩:=aN ht;exact R1 (h.tg k t hk).2 (by omega)
theorem PS.Inv.tags(h:s.Inv)(id:Int):Srt ((lkM s.it id).getD It.z).tags∧((lkM s.it id).getD It.z).tags.length≤8:=by
 cases hl:lkM s.it id with
 |none=>exact⟨by simp[It.z,Srt],by simp[It.z]⟩
 |some t=>exact h.tg id t hl
end
section
attribute [local irreducible] WP WPl WPix Sat
theorem xQ{κ α:Type}[DecidableEq κ]{l:ML κ α}{k:κ}{o:α}(h:lkM l k=some o):(l.map (·.2.1)).Perm (o::(dlM l k).map (·.2.1)):=by
 induction l with
 |nil=>cases h
 |cons e l ih=>
  rw[lkM]at h;rw[dlM];split at h
  ·rename_i hx;cases h;rw[M1 hx];exact .refl _
  ·rename_i hx;rw[L5 hx];exact((ih h).cons _).trans (.swap _ _ _)
theorem wb{κ α:Type}[DecidableEq κ]{l:ML κ α}{k:κ}(h:lkM l k=none):dlM l k=l:=by
 induction l with
 |nil=>rfl
 |cons e l ih=>
  rw[lkM]at h;rw[dlM];split at h
  ·cases h
  ·rename_i hx;rw[L5 hx,ih h]
theorem xR{κ α:Type}[DecidableEq κ](l:ML κ α)(c:Nat)(k:κ)(a:α):((upM l c k a).map (·.2.1)).Perm (a::(dlM l k).map (·.2.1)):=by
 induction l with
 |nil=>exact .refl _
 |cons e l ih=>
  rw[upM,dlM];split
  ·exact .refl _
  ·exact(ih.cons _).trans (.swap _ _ _)
structure CS.Own (c:CS):Prop where
 wf:c.Wf
 tal:Tal c (c.it.map (·.2.1))
 rdy:∀k t,lkM c.it k=some t→Rdy c t∧t.id=k∧t.tags.length≤8
 len:c.it.length≤1024
def CS.inIt(c:CS)(t:It):CS:= {c with it:=upM c.it c.c4 t.id t,c4:=ckM c.it c.c4 t.id}
def CS.out1(c:CS)(t:It):CS:=match lkM c.it t.id with
 |some o=>c.count (c.chn o.feed) o (negT (oneT o))
 |none=>c
def CS.putF(c:CS)(t:It):CS:=((c.out1 t).inIt t).count (c.chn t.feed) t (oneT t)
theorem CS.Like.refl(c:CS):c.Like c:=⟨rfl,rfl,rfl,rfl,fun _=>rfl,fun _=>rfl⟩
theorem CS.Own.out1{c:CS}(h:c.Own)(t:It):Tal (c.out1 t) ((dlM c.it t.id).map (·.2.1))∧c.Like (c.out1 t)∧(c.out1 t).Wf:=by
 unfold CS.out1;cases hl:lkM c.it t.id with
 |none=>simp only;rw[wb hl];exact⟨h.tal,.refl c,h.wf⟩
 |some o=>
  simp only;have hr:=(h.rdy _ _ hl).1;exact⟨tC (h.tal.perm (xQ hl)) hr h.wf.w3,CS.count_like hr _,h.wf.count _ _ _⟩
theorem Tal.inIt{c:CS}{L:List It}(h:Tal c L)(t:It):Tal (c.inIt t) L:=⟨h.al,h.st,h.fe,h.fo,h.tg⟩
theorem Rdy.inIt{c:CS}{t:It}(r:Rdy c t)(u:It):Rdy (c.inIt u) t:=⟨r.fe,r.ch,r.tg⟩
theorem CS.Own.putF{c:CS}(h:c.Own){t:It}(r:Rdy c t)(ht:t.tags.length≤8)(hl:c.it.length<1024∨(lkM c.it t.id).isSome=true):(c.putF t).Own∧c.it.length≤1024∧(c.putF t).it=upM c.it c.c4 t.id t∧(c.putF t).inn=c.inn∧(c.putF t).ab=c.ab∧(∀id,(lkM (c.putF t).fe id).isSome=(lkM c.fe id).isSome)∧(∀id,(lkM (c.putF t).fo id).isSome=(lkM c.fo id).isSome):=by
 obtain⟨h1,h2,h3⟩:=h.out1 t;have r1:Rdy ((c.out1 t).inIt t) t:=(h2.rdy r).inIt t;have hc:((c.out1 t).inIt t).chn t.feed=c.chn t.feed:=h2.chn _;have w4:((c.out1 t).inIt t).Wf:= {h3 with w4:=h3.w4.up _ _}
 have hk:=CS.count_like r1 (oneT t);have hT:=vZ (h1.inIt t) r1 w4.w3;rw[hc]at hk hT;have hit:(c.putF t).it=upM c.it c.c4 t.id t:=by
  show upM (c.out1 t).it (c.out1 t).c4 t.id t=_;rw[h2.it,h2.c4]
 have hfe:∀id,(lkM (c.putF t).fe id).isSome=(lkM c.fe id).isSome:=fun id=>(hk.fe id).trans (h2.fe id)
 have hfo:∀id,(lkM (c.putF t).fo id).isSome=(lkM c.fo id).isSome:=fun id=>(hk.fo id).trans (h2.fo id)
 have hinn:(c.putF t).inn=c.inn:=hk.inn.trans h2.inn;have hab:(c.putF t).ab=c.ab:=hk.ab.trans h2.ab;have hrd:∀u,Rdy c u→Rdy (c.putF t) u:=fun u ru=>⟨by rw[hfe];exact ru.fe,by
  obtain⟨l,a1,a2,a3,a4⟩:=ru.ch;exact⟨l,by rw[hab,hinn];exact a1,a2,a3,fun x hx=>by rw[hfo];exact a4 x hx⟩,ru.tg⟩
 refine⟨⟨w4.count _ _ _,?_,fun k u hu=>?_,?_⟩,h.len,hit,hinn,hab,hfe,hfo⟩
 ·rw[hit];exact hT.perm (xR _ _ _ _).symm
 ·rw[hit,aI]at hu;split at hu
  ·rename_i hk;cases hu;exact⟨hrd _ r,hk.symm,ht⟩
  ·obtain⟨a1,a2⟩:=h.rdy k u hu;exact⟨hrd _ a1,a2⟩
 ·rw[hit,iC];have:=h.len;split
  ·exact this
  ·rename_i hn;rcases hl with hl|hl
   ·omega
   ·exact(hn hl).elim
variable (G:Nat→Option (List AVal))
end
section
attribute [local irreducible] WP WPl WPix Sat
def CS.drop(d:CS)(k:Int)(t:It):CS:= {d.count (d.chn t.feed) t (negT (oneT t))with it:=dlM d.it k}
variable (G:Nat→Option (List AVal))
def CS.less(d:CS)(feed:Int):CS:= {d with fe:=dlM d.fe feed,inn:=dlM d.inn feed}
end
section
attribute [local irreducible] WP WPl WPix Sat
variable (G:Nat→Option (List AVal))
def CS.of(c:CS)(kind id:Int)(g:Bs):T2:=
 if kind=1 then c.al else if kind=2 then(lkM c.fo id).getD (0,0)else if kind=3 then(lkM c.fe id).getD (0,0)else if kind=4 then(lkM c.tg g).getD (0,0)else if kind=5 then c.st else(0,0)
end
section
attribute [local irreducible] WP WPl WPix Sat
section
variable {C:Ctx} {ops:Array Oper} {t:Env} {h:Heap} {dst:Option Nat} {ty:TypeId} {pos:String} {aft:Array Edge} {T:TypeId}
end
structure Ct where
 kind:Int
 id:Int
 tag:Bs
 all:Int
 un:Int
def Ct.av(x:Ct):AVal:=.agg [.int .i64 x.kind,.int .i64 x.id,.str x.tag,.int .i64 x.all,.int .i64 x.un]
def ctI(kind:Int)(l:ML Int T2)(id:Int):Ct:=⟨kind,id,[],((lkM l id).getD (0,0)).1,((lkM l id).getD (0,0)).2⟩
def toldI(kind:Int)(l:ML Int T2):List Ct:=(sortI (l.map (·.1))).map (ctI kind l)
def ctS(l:ML Bs T2)(g:Bs):Ct:=⟨4,0,g,((lkM l g).getD (0,0)).1,((lkM l g).getD (0,0)).2⟩
def toldS(l:ML Bs T2):List Ct:=(sortB (l.map (·.1))).map (ctS l)
def CS.tell(c:CS):List Ct:=⟨1,0,[],c.al.1,c.al.2⟩::(toldI 2 c.fo++toldI 3 c.fe++toldS c.tg)++[⟨5,0,[],c.st.1,c.st.2⟩]
variable (G:Nat→Option (List AVal))
end
section
attribute [local irreducible] WP WPl WPix Sat
variable (G:Nat→Option (List AVal))
end
section
theorem wd{ab:ML Int Int}:∀{k:Nat} {id:Int} {l:List Int},chO ab k id=some l→∀{k':Nat} {l':List Int},chO ab k' id=some l'→l=l':=by
 intro k;induction k with
 |zero=>
  intro id l h k' l' h';rw[chO]at h;split at h
  ·rename_i h0;cases h;cases k' with
   |zero=>rw[chO,M1 h0]at h';cases h';rfl
   |succ k'=>rw[chO,M1 h0]at h';cases h';rfl
  ·cases h
 |succ k ih=>
  intro id l h k' l' h';rw[chO]at h;split at h
  ·rename_i h0;cases h;cases k' with
   |zero=>rw[chO,M1 h0]at h';cases h';rfl
   |succ k'=>rw[chO,M1 h0]at h';cases h';rfl
  ·rename_i h0;simp only[N1]at h;obtain⟨r,hr,rfl⟩:=h;cases k' with
   |zero=>rw[chO,L5 h0]at h';cases h'
   |succ k'=>
    rw[chO,L5 h0]at h';simp only[N1]at h';obtain⟨r',hr',rfl⟩:=h';rw[ih hr hr']
theorem xS{ab:ML Int Int}:∀{k:Nat} {id:Int} {l:List Int},chO ab k id=some l→∀x∈l,∃k' l',chO ab k' x=some l'∧l'.length≤l.length:=by
 intro k;induction k with
 |zero=>
  intro id l h x hx;rw[chO]at h;split at h
  ·cases h;cases hx
  ·cases h
 |succ k ih=>
  intro id l h x hx;have h2:=h;rw[chO]at h;split at h
  ·cases h;cases hx
  ·simp only[N1]at h;obtain⟨r,hr,rfl⟩:=h;rcases N2.1 hx with rfl|hx
   ·exact⟨k+1,_,h2,M2 _⟩
   ·obtain⟨k',l',h3,h4⟩:=ih hr x hx;exact⟨k',l',h3,R1 h4 (by simp)⟩
theorem tD{ab:ML Int Int}:∀{k:Nat} {id:Int} {l:List Int},chO ab k id=some l→l.Nodup:=by
 intro k;induction k with
 |zero=>
  intro id l h;rw[chO]at h;split at h
  ·cases h;simp
  ·cases h
 |succ k ih=>
  intro id l h;have h2:=h;rw[chO]at h;split at h
  ·cases h;simp
  ·simp only[N1]at h;obtain⟨r,hr,rfl⟩:=h;rw[U8];refine⟨fun hm=>?_,ih hr⟩;obtain⟨k',l',h3,h4⟩:=xS hr id hm;have:=wd h2 h3;rw[← this]at h4;simp at h4;omega
theorem wh{ab:ML Int Int}{fo:ML Int Fo}(hab:∀id,lkM ab id=(lkM fo id).map (·.inn))(hu:∀k f,lkM fo k=some f→f.inn=0∨(lkM fo f.inn).isSome=true)(h0:lkM fo 0=none):
  ∀(k:Nat) (id:Int) (d:Nat),(id=0∨(lkM fo id).isSome=true)→deepO fo k id=some d→∃l,chO ab k id=some l∧l.length=d∧∀x∈l,(lkM fo x).isSome=true:=by
 intro k;induction k with
 |zero=>
  intro id d hi hd;rw[deepO]at hd;split at hd
  ·cases hd
  ·rename_i hs;cases hd;have:id=0:=hi.resolve_right hs;exact⟨[],by rw[chO,M1 this],rfl,fun x hx=>by cases hx⟩
 |succ k ih=>
  intro id d hi hd;rw[deepO]at hd;by_cases hz:id=0
  ·subst hz;rw[h0]at hd;simp only at hd;cases hd;exact⟨[],by rw[chO,M1 rfl],rfl,fun x hx=>by cases hx⟩
  ·obtain⟨f,hf⟩:=N3.1 (hi.resolve_left hz);rw[hf]at hd;simp only[N1]at hd;obtain⟨j,hj,rfl⟩:=hd;obtain⟨l,h1,h2,h3⟩:=ih f.inn j (hu id f hf) hj;refine⟨id::l,?_,by simp[h2],fun x hx=>?_⟩
   ·rw[chO,L5 hz,hab,hf];simp only[R4,Q8,h1]
   ·rcases N2.1 hx with rfl|hx
    ·rw[hf];rfl
    ·exact h3 x hx
structure Kp (c:CS) (s:PS):Prop where
 wf:c.Wf
 tal:Tal c (c.it.map (·.2.1))
 it:∀id,lkM c.it id=lkM s.it id
 inn:∀id,lkM c.inn id=(lkM s.fe id).map (·.inn)
 ab:∀id,lkM c.ab id=(lkM s.fo id).map (·.inn)
 fe:∀id,(lkM c.fe id).isSome=(lkM s.fe id).isSome
 fo:∀id,(lkM c.fo id).isSome=(lkM s.fo id).isSome
 len:c.it.length≤1024
variable {c d:CS} {s:PS} {e:Ev}
theorem Kp.chain(K:Kp c s)(h:s.Inv){id:Int}(hi:id=0∨(lkM s.fo id).isSome=true):∃l,chO c.ab 7 id=some l∧l.Nodup∧l.length≤7∧∀x∈l,(lkM s.fo x).isSome=true:=by
 obtain⟨d,h1,h2⟩:=h.dp id;obtain⟨l,h3,h4,h5⟩:=wh K.ab h.u1 h.no0 7 id d hi h2;exact⟨l,h3,tD h3,by omega,h5⟩
theorem Kp.up(K:Kp c s)(h:s.Inv)(feed:Int):(lkM c.inn feed).getD 0=0∨(lkM s.fo ((lkM c.inn feed).getD 0)).isSome=true:=by
 rw[K.inn];cases hf:lkM s.fe feed with
 |none=>exact .inl rfl
 |some f=>exact h.u2 _ _ hf
theorem Kp.chn(K:Kp c s)(h:s.Inv)(feed:Int):∃l,chO c.ab 7 ((lkM c.inn feed).getD 0)=some l∧c.chn feed=l∧l.Nodup∧l.length≤7∧∀x∈l,(lkM s.fo x).isSome=true:=by
 obtain⟨l,h1,h2,h3,h4⟩:=K.chain h (K.up h feed);exact⟨l,h1,by unfold CS.chn;rw[h1];rfl,h2,h3,h4⟩
theorem tE{l:List Bs}(h:Srt l):l.Nodup:=by
 unfold Srt at h;refine h.imp fun {a b} hab=>?_
 rintro rfl;rw[bV]at hab;cases hab
theorem Kp.rdy(K:Kp c s)(h:s.Inv){t:It}(hf:(lkM s.fe t.feed).isSome=true)(ht:Srt t.tags):Rdy c t where
 fe:=by rw[K.fe];exact hf
 ch:=by
  obtain⟨l,h1,_,h2,h3,h4⟩:=K.chn h t.feed;exact⟨l,h1,h2,h3,fun x hx=>by rw[K.fo];exact h4 x hx⟩
 tg:=tE ht
theorem Kp.own(K:Kp c s)(h:s.Inv):c.Own where
 wf:=K.wf
 tal:=K.tal
 rdy:=fun k t ht=>by
  rw[K.it]at ht;exact⟨K.rdy h (h.u3 k t ht) (h.tg k t ht).1,(h.i3 k t ht).1,(h.tg k t ht).2⟩
 len:=K.len
theorem lQ{α:Type}{l:ML Int α}(hn:(l.map (·.1)).Nodup)(p:α→Bool)(x:Int):lkM (l.filter fun e=>p e.2.1) x=(lkM l x).filter p:=by
 induction l with
 |nil=>rfl
 |cons e l ih=>
  rw[N7,U8]at hn;rw[S8,lkM];by_cases hx:x=e.1
  ·rw[M1 hx];cases hp:p e.2.1 with
   |true=>rw[M1 rfl,lkM,M1 hx,Option.filter,M1 hp]
   |false=>
    rw[L5 (by simp),ih hn.2,hx,mI hn.1];simp[Option.filter,hp]
  ·rw[L5 hx, ← ih hn.2];split
   ·rw[lkM,L5 hx]
   ·rfl
theorem Kp.pt(K:Kp c s)(h:s.Inv){k:Int}{t:It}{s':PS}(h':s'.Inv)(e1:s'.fo=s.fo)(e2:s'.fe=s.fe)(e3:s'.it=upM s.it s.c3 k t):Kp (c.putF t) s':=by
 have hk:lkM s'.it k=some t:=by rw[e3,aI,M1 rfl]
 have hid:=(h'.i3 _ _ hk).1;have hf:=h'.u3 _ _ hk;rw[e2]at hf;have htg:=h'.tg _ _ hk;have r:=K.rdy h hf htg.1;have hlen:c.it.length<1024∨(lkM c.it t.id).isSome=true:=by
  rw[hid,K.it];cases hs:(lkM s.it k).isSome with
  |true=>exact .inr rfl
  |false=>
   left;have h1:=h'.l3;rw[e3,iC,hs]at h1;simp only[Q3,if_false]at h1;have h2:c.it.length=s.it.length:=by
    have p:(c.it.map (·.1)).Perm (s.it.map (·.1)):=by
     rw[List.perm_ext_iff_of_nodup K.wf.w4.keys h.w3.keys];intro x;have hb:∀{l:ML Int It},x∈l.map (·.1)↔(lkM l x).isSome=true:=fun {l}=>by
      constructor
      ·intro hm;cases hq:(lkM l x).isSome with
       |true=>rfl
       |false=>exact(iE hq hm).elim
      ·intro hq;obtain⟨a,ha⟩:=N3.1 hq;obtain⟨n,hn⟩:=cO ha;exact N0.2 ⟨_,hn,rfl⟩
     rw[hb,hb,K.it]
    have:=p.length_eq;simpa using this
   omega
 obtain⟨o,_,q1,q2,q3,q4,q5⟩:=(K.own h).putF r htg.2 hlen;refine⟨o.wf,o.tal,fun id=>?_,fun id=>by rw[q2,e2];exact K.inn id,fun id=>by rw[q3,e1];exact K.ab id,fun id=>by rw[q4,e2];exact K.fe id,fun id=>by rw[q5,e1];exact K.fo id,o.len⟩;rw[q1,e3,aI,aI,hid];split
 ·rfl
 ·exact K.it id
end
section
attribute [local irreducible] WP WPl WPix Sat
variable (G:Nat→Option (List AVal))
def CS.mkFo(c:CS)(f:Fo):CS:= {c with fo:=upM c.fo c.c1 f.id (0,0),c1:=ckM c.fo c.c1 f.id,ab:=upM c.ab c.c6 f.id f.inn,c6:=ckM c.ab c.c6 f.id}
def CS.mkFe(c:CS)(f:Fe):CS:= {c with fe:=upM c.fe c.c2 f.id (0,0),c2:=ckM c.fe c.c2 f.id,inn:=upM c.inn c.c5 f.id f.inn,c5:=ckM c.inn c.c5 f.id}
def CS.of0(x:St):CS:=x.fe.foldl CS.mkFe (x.fo.foldl CS.mkFo CS.z)
def CS.ofSt(x:St):CS:=x.it.foldl CS.putF (CS.of0 x)
theorem rb{α β:Type}(f:β→α→β)(l:List α)(b:β){k:Nat}{y:α}(h:l[k]? =some y):(l.take (k+1)).foldl f b=f ((l.take k).foldl f b) y:=by
 rw[O3,zc0,h];rfl
end
section
variable {c d:CS} {s:PS} {e:Ev}
theorem bt{α:Type}{z:α}{l:ML Int α}{k:Int}{a:α}(h:lkM l k=some a):a∈valsM z l:=by
 unfold valsM;refine N0.2 ⟨k,?_,by rw[h];rfl⟩;refine(Z3 _ _).mem_iff.2 ?_;obtain⟨n,hn⟩:=cO h;exact N0.2 ⟨_,hn,rfl⟩
theorem dV{α:Type}{z:α}{l:ML Int α}(idf:α→Int)(hid:∀k a,lkM l k=some a→idf a=k)(x:Int):(valsM z l).find? (fun a=>decide (idf a=x))=lkM l x:=by
 cases hl:lkM l x with
 |none=>
  rw[Y7];intro a ha;obtain⟨k,hk⟩:=aN ha;have:=hid k a hk;simp only[M7];rintro rfl;rw[this,hk]at hl;cases hl
 |some a=>
  have hm:=bt (z:=z) hl;have hs:((valsM z l).find? (fun a=>decide (idf a=x))).isSome=true:=by
   rw[List.find?_isSome];exact⟨a,hm,by simp[hid x a hl]⟩
  obtain⟨b,hb⟩:=N3.1 hs;have h1:=List.find?_some hb;simp only[M7]at h1;obtain⟨k,hk⟩:=aN (zb6 hb);have h2:=hid k b hk;rw[hb, ← hl, ← h1,h2,hk]
theorem gF{α:Type}{z:α}{l:ML Int α}{c:Nat}(w:WFM l c)(idf:α→Int)(hid:∀k a,lkM l k=some a→idf a=k):(valsM z l).map idf=sortI (l.map (·.1)):=by
 unfold valsM;rw[V0];have:∀k∈sortI (l.map (·.1)),(idf ∘ fun k=>(lkM l k).getD z) k=k:=fun k hk=>by
  have hk2:k∈l.map (·.1):=(Z3 _ _).mem_iff.1 hk;obtain⟨x,hx,rfl⟩:=N0.1 hk2;have:=bI w.keys (b:=x.2.2) (a:=x.2.1) (x:=x.1) hx;simp only[Function.comp,this,Q8];exact hid _ _ this
 rw[V9 this,List.map_id']
theorem dI{l:List Int}(h:l.Nodup):(sortI l).Nodup:=(Z3 l _).nodup_iff.2 h
theorem zu(F:List Fo):∀(c:CS),(F.map (·.id)).Nodup→
  (∀id,lkM (F.foldl CS.mkFo c).ab id=match F.find? (fun f=>decide (f.id=id))with|some f=>some f.inn|none=>lkM c.ab id)∧
  (∀id,lkM (F.foldl CS.mkFo c).fo id=match F.find? (fun f=>decide (f.id=id))with|some _=>some (0,0)|none=>lkM c.fo id)∧
  (c.Wf→(F.foldl CS.mkFo c).Wf)∧(F.foldl CS.mkFo c).al=c.al∧(F.foldl CS.mkFo c).st=c.st∧(F.foldl CS.mkFo c).tg=c.tg∧(F.foldl CS.mkFo c).it=c.it∧(F.foldl CS.mkFo c).inn=c.inn∧(F.foldl CS.mkFo c).fe=c.fe:=by
 induction F with
 |nil=>intro c _;exact⟨fun _=>rfl,fun _=>rfl,fun w=>w,rfl,rfl,rfl,rfl,rfl,rfl⟩
 |cons f F ih=>
  intro c hn;rw[N7,U8]at hn;obtain⟨a1,a2,a3,a4,a5,a6,a7,a8,a9⟩:=ih (c.mkFo f) hn.2;have hno:∀id,f.id=id→F.find? (fun f=>decide (f.id=id))=none:=fun id hid=>by
   rw[Y7];intro g hg;simp only[M7];intro q;exact hn.1 (N0.2 ⟨g,hg,by rw[q,hid]⟩)
  refine⟨fun id=>?_,fun id=>?_,fun w=>a3 {w with w1:=w.w1.up _ _,w6:=w.w6.up _ _},a4,a5,a6,a7,a8,a9⟩
  ·rw[za8,a1,za9];by_cases hid:f.id=id
   ·rw[hno id hid,O4 hid];show lkM (upM c.ab c.c6 f.id f.inn) id=_;rw[aI,M1 hid.symm]
   ·rw[O0 hid];simp only;cases F.find? (fun f=>decide (f.id=id))with
    |some g=>rfl
    |none=>
     show lkM (upM c.ab c.c6 f.id f.inn) id=_;rw[aI,L5 (fun q=>hid q.symm)]
  ·rw[za8,a2,za9];by_cases hid:f.id=id
   ·rw[hno id hid,O4 hid];show lkM (upM c.fo c.c1 f.id (0,0)) id=_;rw[aI,M1 hid.symm]
   ·rw[O0 hid];simp only;cases F.find? (fun f=>decide (f.id=id))with
    |some g=>rfl
    |none=>
     show lkM (upM c.fo c.c1 f.id (0,0)) id=_;rw[aI,L5 (fun q=>hid q.symm)]
theorem zw(F:List Fe):∀(c:CS),(F.map (·.id)).Nodup→
  (∀id,lkM (F.foldl CS.mkFe c).inn id=match F.find? (fun f=>decide (f.id=id))with|some f=>some f.inn|none=>lkM c.inn id)∧
  (∀id,lkM (F.foldl CS.mkFe c).fe id=match F.find? (fun f=>decide (f.id=id))with|some _=>some (0,0)|none=>lkM c.fe id)∧
  (c.Wf→(F.foldl CS.mkFe c).Wf)∧(F.foldl CS.mkFe c).al=c.al∧(F.foldl CS.mkFe c).st=c.st∧(F.foldl CS.mkFe c).tg=c.tg∧(F.foldl CS.mkFe c).it=c.it∧(F.foldl CS.mkFe c).ab=c.ab∧(F.foldl CS.mkFe c).fo=c.fo:=by
 induction F with
 |nil=>intro c _;exact⟨fun _=>rfl,fun _=>rfl,fun w=>w,rfl,rfl,rfl,rfl,rfl,rfl⟩
 |cons f F ih=>
  intro c hn;rw[N7,U8]at hn;obtain⟨a1,a2,a3,a4,a5,a6,a7,a8,a9⟩:=ih (c.mkFe f) hn.2;have hno:∀id,f.id=id→F.find? (fun f=>decide (f.id=id))=none:=fun id hid=>by
   rw[Y7];intro g hg;simp only[M7];intro q;exact hn.1 (N0.2 ⟨g,hg,by rw[q,hid]⟩)
  refine⟨fun id=>?_,fun id=>?_,fun w=>a3 {w with w2:=w.w2.up _ _,w5:=w.w5.up _ _},a4,a5,a6,a7,a8,a9⟩
  ·rw[za8,a1,za9];by_cases hid:f.id=id
   ·rw[hno id hid,O4 hid];show lkM (upM c.inn c.c5 f.id f.inn) id=_;rw[aI,M1 hid.symm]
   ·rw[O0 hid];simp only;cases F.find? (fun f=>decide (f.id=id))with
    |some g=>rfl
    |none=>
     show lkM (upM c.inn c.c5 f.id f.inn) id=_;rw[aI,L5 (fun q=>hid q.symm)]
  ·rw[za8,a2,za9];by_cases hid:f.id=id
   ·rw[hno id hid,O4 hid];show lkM (upM c.fe c.c2 f.id (0,0)) id=_;rw[aI,M1 hid.symm]
   ·rw[O0 hid];simp only;cases F.find? (fun f=>decide (f.id=id))with
    |some g=>rfl
    |none=>
     show lkM (upM c.fe c.c2 f.id (0,0)) id=_;rw[aI,L5 (fun q=>hid q.symm)]
theorem Kp.of0(h:s.Inv):Kp (CS.of0 s.tell) {s with it:=[],c3:=0}:=by
 have n1:((valsM Fo.z s.fo).map (·.id)).Nodup:=by rw[gF h.w1 _ fun k f hk=>(h.i1 k f hk).1];exact dI h.w1.keys
 have n2:((valsM Fe.z s.fe).map (·.id)).Nodup:=by rw[gF h.w2 _ fun k f hk=>(h.i2 k f hk).1];exact dI h.w2.keys
 obtain⟨a1,a2,a3,a4,a5,a6,a7,a8,a9⟩:=zu (valsM Fo.z s.fo) CS.z n1;obtain⟨b1,b2,b3,b4,b5,b6,b7,b8,b9⟩:=zw (valsM Fe.z s.fe) ((valsM Fo.z s.fo).foldl CS.mkFo CS.z) n2;have f1:=dV (z:=Fo.z) (l:=s.fo) (·.id) fun k f hk=>(h.i1 k f hk).1
 have f2:=dV (z:=Fe.z) (l:=s.fe) (·.id) fun k f hk=>(h.i2 k f hk).1
 have hz:CS.z.Wf:=⟨.nil,.nil,.nil,.nil,.nil,.nil⟩
 have e0:CS.of0 s.tell=(valsM Fe.z s.fe).foldl CS.mkFe ((valsM Fo.z s.fo).foldl CS.mkFo CS.z):=rfl;rw[← e0]at b1 b2 b3 b4 b5 b6 b7 b8 b9;have hit:(CS.of0 s.tell).it=[]:=by rw[b7,a7];rfl
 refine⟨b3 (a3 hz),?_,fun id=>by rw[hit],fun id=>?_,fun id=>?_,fun id=>?_,fun id=>?_,by rw[hit];simp⟩
 ·rw[hit];refine⟨by rw[b4,a4];rfl,by rw[b5,a5];rfl,fun id hi=>?_,fun id hi=>?_,fun g=>by rw[b6,a6];rfl⟩
  ·rw[b2,f2]at hi ⊢;cases hl:lkM s.fe id with
   |some f=>rfl
   |none=>rw[hl,a9]at hi;cases hi
  ·rw[b9,a2,f1]at hi ⊢;cases hl:lkM s.fo id with
   |some f=>rfl
   |none=>rw[hl]at hi;cases hi
 ·rw[b1,f2,a8];cases lkM s.fe id<;>rfl
 ·rw[b8,a1,f1];cases lkM s.fo id<;>rfl
 ·rw[b2,f2,a9];cases lkM s.fe id<;>rfl
 ·rw[b9,a2,f1];cases lkM s.fo id<;>rfl
theorem pB(h:s.Inv){I:ML Int It}{c3:Nat}(w:WFM I c3)(hs:∀k t,lkM I k=some t→lkM s.it k=some t)(hl:I.length≤1024):PS.Inv {s with it:=I,c3:=c3}:=
 {h with
  w3:=w
  i3:=fun k t hk=>h.i3 k t (hs k t hk)
  u3:=fun k t hk=>h.u3 k t (hs k t hk)
  tg:=fun k t hk=>h.tg k t (hs k t hk)
  l3:=hl}
theorem aJ{α:Type}{z:α}(l:ML Int α):(valsM z l).length=l.length:=by unfold valsM;rw[L8,cR,L8]
theorem wi(h:s.Inv):∀k,k≤(valsM It.z s.it).length→∃I c3,Kp (((valsM It.z s.it).take k).foldl CS.putF (CS.of0 s.tell)) {s with it:=I,c3:=c3}∧PS.Inv {s with it:=I,c3:=c3}∧I.length≤k∧
  ∀id,lkM I id=((valsM It.z s.it).take k).find? (fun t=>decide (t.id=id)):=by
 have hid:∀k t,lkM s.it k=some t→t.id=k:=fun k t hk=>(h.i3 k t hk).1
 have f3:=dV (z:=It.z) (l:=s.it) (·.id) hid;have n3:((valsM It.z s.it).map (·.id)).Nodup:=by rw[gF h.w3 _ hid];exact dI h.w3.keys
 have hlen:=aJ (z:=It.z) s.it;have h3:=h.l3;intro k;induction k with
 |zero=>intro _;exact⟨[],0,Kp.of0 h,pB h .nil (fun _ _ h=>by cases h) (by simp),by simp,fun _=>rfl⟩
 |succ k ih=>
  intro hk;obtain⟨I,c3,K,hI,hl,hf⟩:=ih (by omega);obtain⟨t,ht,htm⟩:=ac (show k<(valsM It.z s.it).length by omega);obtain⟨j,hj⟩:=aN htm;have hjt:=hid j t hj;have hnew:lkM I t.id=none:=by
   rw[hf,Y7];intro u hu;simp only[M7];intro q;obtain⟨i,hi⟩:=Q4 hu;have hik:i<k:=(by have:=(f9.1 hi).1;rw[N9]at this;omega);rw[N5 hik]at hi;have h1:((valsM It.z s.it).map (·.id))[i]? =some t.id:=(by rw[N8,hi];simp[q]);have h2:((valsM It.z s.it).map (·.id))[k]? =some t.id:=(by rw[N8,ht];rfl);have:=(List.getElem?_inj (by rw[L8];omega) n3).1 (h1.trans h2.symm);omega
  have hul:(upM I c3 t.id t).length≤k+1:=by rw[iC,hnew];simp;omega
  have hI2:PS.Inv {s with it:=upM I c3 t.id t,c3:=ckM I c3 t.id}:=pB h (hI.w3.up _ _) (fun k' t' hk'=>by
   rcases aP hk' with⟨rfl,rfl⟩| ⟨_,hk'⟩
   ·rw[hjt];exact hj
   ·rw[hf]at hk';have h1:=List.find?_some hk';simp only[M7]at h1;obtain⟨q,hq⟩:=aN (zb7 (zb6 hk'));rw[← h1,hid q t' hq];exact hq) (by omega)
  refine⟨_,_,?_,hI2,hul,fun id=>?_⟩
  ·rw[rb _ _ _ ht];exact K.pt hI hI2 rfl rfl rfl
  ·rw[aI,O3,ht,List.find?_append,hf];by_cases hx:id=t.id
   ·rw[M1 hx,hx, ← hf,hnew];simp
   ·rw[L5 hx];cases((valsM It.z s.it).take k).find? (fun t=>decide (t.id=id))with
    |some u=>rfl
    |none=>
     have:¬t.id=id:=fun q=>hx q.symm
     simp[this]
theorem Kp.new(h:s.Inv):Kp (CS.ofSt s.tell) s:=by
 obtain⟨I,c3,K,_,_,hf⟩:=wi h _ (M2 _);rw[W9]at K hf;have f3:=dV (z:=It.z) (l:=s.it) (·.id) fun k t hk=>(h.i3 k t hk).1
 exact⟨K.wf,K.tal,fun id=>(K.it id).trans ((hf id).trans (f3 id)),K.inn,K.ab,K.fe,K.fo,K.len⟩
end
end Go.Av
