/- The program's counts keep a state: each event, and counts that are made (plain). -/
import Derived.Test.YtmfhelaoeaifeaaGreatDoorMkYr
import Derived.Test.YtmfhelaoeaifeaaGreatDoorMkEb
import Derived.Test.YtmfhelaoeaifeaaGreatDoorMkDr5
set_option linter.unusedSimpArgs false
set_option linter.unusedVariables false
set_option linter.unusedSectionVars false
set_option linter.unnecessarySimpa false
set_option maxRecDepth 100000
set_option maxHeartbeats 16000000
namespace Go.Av
open Go Go.Proofs Go.RowKit
theorem lF:∀t:Bs,Op.bytesLess t t=false
 | []=>rfl
 |a::t=>by simp[Op.bytesLess,lF t]
theorem io:∀{a b c:Bs},Op.bytesLess a b=true→Op.bytesLess b c=true→Op.bytesLess a c=true
 |_,_,[],_,h=>by cases h2:(‹Bs› :Bs)<;>simp[Op.bytesLess]at h
 | [],_,_::_,_,_=>rfl
 |_::_,[],_::_,h,_=>by simp[Op.bytesLess]at h
 |x::a,y::b,z::c,h,k=>by
  simp only[Op.bytesLess,Bool.or_eq_true,decide_eq_true_eq,Bool.and_eq_true,beq_iff_eq]at h k ⊢
  rcases h with h| ⟨rfl,h⟩
  ·rcases k with k| ⟨rfl,k⟩
   ·exact .inl (UInt8.lt_trans h k)
   ·exact .inl h
  ·rcases k with k| ⟨rfl,k⟩
   ·exact .inl k
   ·exact .inr ⟨rfl,io h k⟩
theorem qC:∀(a b:Bs),Op.bytesLess a b=false→Op.bytesLess b a=false→a=b
 | [],[],_,_=>rfl
 | [],_::_,h,_=>by simp[Op.bytesLess]at h
 |_::_,[],_,h=>by simp[Op.bytesLess]at h
 |x::a,y::b,h,k=>by
  simp only[Op.bytesLess,Bool.or_eq_false_iff,decide_eq_false_iff_not,Bool.and_eq_false_iff,beq_eq_false_iff_ne]at h k
  have hxy:x=y:=by
   have h1:=UInt8.not_lt.1 h.1
   have h2:=UInt8.not_lt.1 k.1
   exact UInt8.le_antisymm h2 h1
  subst hxy
  rw[qC a b (by rcases h.2 with h|h;exact absurd rfl h;exact h) (by rcases k.2 with h|h;exact absurd rfl h;exact h)]
def Srt(l:List Bs):Prop:=l.Pairwise fun a b=>Op.bytesLess a b=true
def lbF(l:List Bs)(t:Bs):Nat:=(l.takeWhile fun x=>Op.bytesLess x t).length
theorem lG(l:List Bs)(t:Bs):lbF l t≤l.length:=by
 unfold lbF
 have:=(List.takeWhile_sublist (l:=l) fun x=>Op.bytesLess x t).length_le
 exact this
theorem ip(a:Bs)(l:List Bs)(t:Bs):lbF (a::l) t=if Op.bytesLess a t=true then lbF l t+1 else 0:=by
 unfold lbF;rw[List.takeWhile_cons];split<;>simp
theorem qD{l:List Bs}{t:Bs}:∀j,j<lbF l t→∃x,l[j]? =some x∧Op.bytesLess x t=true:=by
 induction l with
 |nil=>intro j h;simp[lbF]at h
 |cons a l ih=>
  intro j h
  rw[ip]at h
  split at h
  ·rename_i ha
   cases j with
   |zero=>exact⟨a,rfl,ha⟩
   |succ j=>exact ih j (by omega)
  ·omega
theorem qE{l:List Bs}{t:Bs}(hs:Srt l):∀j x,lbF l t≤j→l[j]? =some x→Op.bytesLess x t=false:=by
 induction l with
 |nil=>intro j x _ h;simp at h
 |cons a l ih=>
  intro j x h hx
  rw[ip]at h
  have hp:=List.pairwise_cons.1 hs
  split at h
  ·rename_i ha
   cases j with
   |zero=>omega
   |succ j=>exact ih hp.2 j x (by omega) (by simpa using hx)
  ·rename_i ha
   cases j with
   |zero=>simp at hx;subst hx;simpa using ha
   |succ j=>
    have hm:=hp.1 x (List.mem_of_getElem? (by simpa using hx))
    cases hq:Op.bytesLess x t with
    |false=>rfl
    |true=>exact absurd (io hm hq) ha
theorem nw{l:List Bs}{t:Bs}(hs:Srt l)(hm:t∈l):l[lbF l t]? =some t:=by
 obtain⟨j,hj⟩:=List.getElem?_of_mem hm
 rcases Nat.lt_trichotomy j (lbF l t)with h|h|h
 ·obtain⟨x,hx,hl⟩:=qD j h
  rw[hj]at hx;cases hx
  rw[lF]at hl;cases hl
 ·rw[← h];exact hj
 ·have hlt:lbF l t<l.length:=by have:=(List.getElem?_eq_some_iff.1 hj).1;omega
  have h1:l[lbF l t]? =some l[lbF l t]:=List.getElem?_eq_getElem hlt
  have h2:=qE hs _ _ (Nat.le_refl _) h1
  have h3:=(List.pairwise_iff_getElem.1 hs) (lbF l t) j hlt (List.getElem?_eq_some_iff.1 hj).1 h
  rw[(List.getElem?_eq_some_iff.1 hj).2,h2]at h3;cases h3
variable (G:Nat→Option (List AVal))
theorem t8(w:World)(n:Nat):Below w.heap.size w (w.drewN n):=by
 induction n with
 |zero=>exact Below.refl _ _
 |succ n ih=>exact ih.trans (Below.drew (Below.refl _ _))
theorem kJ(l:List Bs)(t:Bs)(hs:Srt l)(hl:l.length≤100000)(h:Heap):Sat (CT G) 150 [.sl 1 (l.map .str),.str t] h (fun r h'=>r=.tup [.int .i64 (lbF l t),.bool (decide (t∈l))]∧h'=h):=by
 intro B S μ w us fit rl
 obtain⟨hul,hur⟩:=rl
 match us,hul,hur with
 | [v0,v1],_,hur=>
  have r0:Rep w S μ (.sl 1 (l.map .str)) v0:=hur 0 _ rfl
  have r1:Rep w S μ (.str t) v1:=hur 1 _ rfl
  obtain rfl:=r1.str_inv
  change OpOk Tryz.prog _ ((callFunc 150 #[v0,.string ⟨t.toArray⟩]).run Tryz.prog w)
  rw[bG (f:=150) Tryz.func150 rfl rfl]
  have fin:∀(w':World) (i:Nat) (b:Bool),Below w.heap.size w w'→i=lbF l t→b=decide (t∈l)→∃v,Value.tuple #[.int .i64 i,.bool b]=v∧OpPost (CT G) B S μ w (fun r h'=>r=.tup [.int .i64 (lbF l t),.bool (decide (t∈l))]∧h'=h) v w':=by
   rintro w' i b hb rfl rfl
   obtain⟨f',st⟩:=fit.grown hb
   exact⟨_,rfl,_,h,S,μ,⟨rfl,rfl⟩,st,f',i5 (.int _ _) (.bool _)⟩
  by_cases hn:l=[]
  ·subst hn
   obtain⟨a,cap,rfl⟩:∃a cap,v0=.slice a 0 cap:=by
    cases r0 with
    |sl0 _ a cap=>exact⟨a,cap,rfl⟩
    |sl _ _ b o cap vs h1=>exact absurd rfl h1
   refine(Any2.slices_BinarySearch_string_empty Tryz.lays2_26 a cap ⟨t.toArray⟩ w).mono fun e w' ⟨he,hw⟩=>?_
   obtain⟨v,hv,hp⟩:=fin w' 0 false (by rw[hw];exact Below.refl _ _) rfl (by simp)
   exact⟨v,by rw[he, ← hv];rfl,hp⟩
  ·obtain⟨b,o,cap,rfl,hc⟩:∃b o cap,v0=.slice (some ⟨b,o,none⟩) l.length cap∧∀j,j<l.length→w.cell? ⟨b,o+j,none⟩=some (.string ⟨(l.getD j t).toArray⟩):=by
    generalize hm:l.map AVal.str=m at r0
    cases r0 with
    |sl0 _ a cap=>simp at hm;exact absurd hm hn
    |sl _ _ b o cap vs h1 h2 h3 h4 h5 h6=>
     subst hm
     refine⟨b,o,cap,by simp,fun j hj=>?_⟩
     have hx:(l.map AVal.str)[j]? =some (.str l[j]):=by rw[List.getElem?_map,List.getElem?_eq_getElem hj];rfl
     have h7:=h5 j _ 0 _ hx rfl
     have h8:=h6 j _ 0 _ hx rfl
     rw[h8.str_inv]at h7
     have:l.getD j t=l[j]:=by simp[List.getD,hj]
     rw[this]
     have e:o+(j*1+0)=o+j:=by omega
     rw[e]at h7
     exact h7.2.1
   refine(Any2.slices_BinarySearch_string Tryz.lays2_26 b o l.length cap (fun j=>⟨(l.getD j t).toArray⟩) ⟨t.toArray⟩ w (by omega) hc).mono fun e w' ⟨he,q,hw⟩=>?_
   have hk:Lib.bsGo (fun j=>Op.bytesLess (⟨(l.getD j t).toArray⟩:ByteArray).toList (⟨t.toArray⟩:ByteArray).toList) l.length 0 l.length=lbF l t:=by
    refine Lib.bsGo_spec _ (lbF l t) (fun j hj=>?_) (fun j hj=>?_) _ _ _ (by omega) (Nat.zero_le _) (lG l t)
    ·obtain⟨x,hx,hlt⟩:=qD j hj
     simp only[bE]
     rw[show l.getD j t=x by simp[List.getD,hx]];exact hlt
    ·simp only[bE]
     cases hx:l[j]? with
     |none=>rw[show l.getD j t=t by simp[List.getD,hx]];exact lF t
     |some x=>rw[show l.getD j t=x by simp[List.getD,hx]];exact qE hs j x hj hx
   rw[hk]at he
   obtain⟨v,hv,hp⟩:=fin w' (lbF l t) (decide (lbF l t<l.length∧(⟨(l.getD (lbF l t) t).toArray⟩:ByteArray)=⟨t.toArray⟩)) (by rw[hw];exact t8 w q) rfl (by
    rw[Bool.eq_iff_iff,decide_eq_true_eq,decide_eq_true_eq]
    constructor
    ·rintro⟨h1,h2⟩
     have h3:l.getD (lbF l t) t=l[lbF l t]:=by simp[List.getD,h1]
     rw[h3]at h2
     have:l[lbF l t]=t:=by simpa using h2
     rw[← this];exact List.getElem_mem h1
    ·intro hm
     have:=nw hs hm
     exact⟨(List.getElem?_eq_some_iff.1 this).1,by simp[List.getD,this]⟩)
   exact⟨v,by rw[he, ← hv],hp⟩
end Go.Av
namespace Go.Av
open Go Go.Proofs Go.RowKit
def encS(t:Bs):Value:=.string ⟨t.toArray⟩
theorem Only.setCells(b:Nat):∀(vs:List Value) (o:Nat) (w:World),Only w (w.setCells b o vs) (some b)
 | [],_,_=>Only.refl _ _
 |v::r,o,w=>(Only.setCell w ⟨b,o,none⟩ v).trans (Only.setCells b r (o+1) _)
theorem Only.alloc(w:World)(o:Obj)(q:Option Nat):Only w (w.alloc o) q:=
 ⟨rfl,rfl,rfl,by simp,fun k hk _=>Below.heap_alloc w o k hk⟩
theorem Only.into{w w1 w2:World}{q:Option Nat}{g:Nat}(h:Only w w1 q)(k:Only w1 w2 (some g))(hg:w.heap.size≤g):Only w w2 q:=
 ⟨k.os.trans h.os,k.tape.trans h.tape,k.output.trans h.output,Nat.le_trans h.size k.size,
  fun i hi hq=>(k.block i (Nat.lt_of_lt_of_le hi h.size) (fun e=>by cases e;omega)).trans (h.block i hi hq)⟩
theorem Only.putRow{α:Type}[Inhabited α](enc:α→Value)(w:World)(b off:Nat)(d:Array α):Only w (Go.Sort.putRow enc w b off d) (some b):=
 ⟨rfl,rfl,rfl,by simp,fun k _ hq=>by
  have:b≠k:=fun e=>hq (by rw[e])
  simp[Go.Sort.putRow,Go.Sort.mapBlock,Array.getElem?_modify,this]⟩
section
variable {C:Ctx} {B:Nat} {S:Addr→Prop} {μ:Map} {h:Heap} {w w':World}
theorem Fits.give(f:Fits C B S μ h w){p:Nat}{m:MB}(hm:μ[p]? =some m){g:Nat}(hg:∀q m',μ[q]? =some m'→m'.blk=some g→q=p)(hB:B≤g)(hgl:g<w.heap.size):
  Step B S μ w (fun a=>S a∨a.block=g) (μ.set p ⟨none,m.ver+1,m.size,m.cap⟩) w∧Fits C B (fun a=>S a∨a.block=g) (μ.set p ⟨none,m.ver+1,m.size,m.cap⟩) (h.set p .dead) w:=by
 have hlt:=(List.getElem?_eq_some_iff.1 hm).1
 have st:Step B S μ w (fun a=>S a∨a.block=g) (μ.set p ⟨none,m.ver+1,m.size,m.cap⟩) w:=⟨fun a ha=>.inl ha,fun _ _=>rfl,Below.refl _ _,bi hm (by simp) (fun e=>by simp at e),fun a ha=>by
  rcases ha with ha|ha
  ·exact .inl ha
  ·exact .inr (by omega)⟩
 have at_:∀q k,(μ.set p ⟨none,m.ver+1,m.size,m.cap⟩)[q]? =some k→(q=p∧k.blk=none)∨(q≠p∧μ[q]? =some k):=by
  intro q k hq
  by_cases e:p=q
  ·subst e;rw[List.getElem?_set_self hlt]at hq;cases hq;exact .inl ⟨rfl,rfl⟩
  ·rw[List.getElem?_set_ne e]at hq;exact .inr ⟨fun e'=>e e'.symm,hq⟩
 refine⟨st,⟨fun g cs hg=>(f.glob g cs hg).mono st,by simp[f.len],?_,?_,f.base,?_,?_⟩⟩
 ·intro p1 q1 m1 m2 b h1 h2 e1 e2
  rcases at_ p1 m1 h1 with⟨_,k1⟩| ⟨_,k1⟩
  ·rw[k1]at e1;cases e1
  ·rcases at_ q1 m2 h2 with⟨_,k2⟩| ⟨_,k2⟩
   ·rw[k2]at e2;cases e2
   ·exact f.sep p1 q1 m1 m2 b k1 k2 e1 e2
 ·intro p1 m1 b h1 e1
  rcases at_ p1 m1 h1 with⟨_,k1⟩| ⟨r1,k1⟩
  ·rw[k1]at e1;cases e1
  ·obtain⟨a1,a2,a3⟩:=f.own p1 m1 b k1 e1
   refine⟨a1,a2,fun a ha=>?_⟩
   rcases ha with ha|ha
   ·exact a3 a ha
   ·intro e
    exact r1 (hg p1 m1 k1 (by rw[e1, ← e,ha]))
 ·intro a ha
  rcases ha with ha|ha
  ·exact f.lie a ha
  ·omega
 ·intro p1 m1 k1 h1 h2
  rcases at_ p1 m1 h1 with⟨rfl,_⟩| ⟨r1,h1⟩
  ·rw[List.getElem?_set_self (by rw[← f.len];exact hlt)]at h2;cases h2;trivial
  ·rw[List.getElem?_set_ne (fun e=>r1 e.symm)]at h2
   exact(f.blk p1 m1 k1 h1 h2).mono st fun b _=>rfl
theorem ta{g off cap:Nat}{ls:List Bs}(hS:∀a,a.block=g→S a)(hl:ls.length≤cap)(hm:cap≤maxLen)(hc:∀j x,ls[j]? =some x→w.cell? ⟨g,off+j,none⟩=some (encS x)):
  Rep w S μ (.sl 1 (ls.map .str)) (.slice (some ⟨g,off,none⟩) ls.length cap):=by
 by_cases hn:ls=[]
 ·subst hn;exact .sl0 1 _ cap
 have hlen:(ls.map AVal.str).length=ls.length:=List.length_map ..
 rw[← hlen]
 refine .sl 1 (ls.map .str) g off cap (fun i _=>encS (ls.getD i [])) (by simpa using hn) (by omega) hm (fun i x hx=>?_) (fun i x j c hx hj=>?_) (fun i x j c hx hj=>?_)
 ·obtain⟨a,_,rfl⟩:=List.mem_map.1 (List.mem_of_getElem? hx);rfl
 ·rw[List.getElem?_map]at hx
  obtain⟨a,ha,rfl⟩:=Option.map_eq_some_iff.1 hx
  match j with
  |0=>
   simp[AVal.cells]at hj;subst hj
   refine⟨hS _ rfl,?_,rfl⟩
   rw[show off+(i*1+0)=off+i by omega,hc i a ha]
   simp[List.getD,ha]
  |j+1=>simp[AVal.cells]at hj
 ·rw[List.getElem?_map]at hx
  obtain⟨a,ha,rfl⟩:=Option.map_eq_some_iff.1 hx
  match j with
  |0=>
   simp[AVal.cells]at hj;subst hj
   simp only[List.getD,ha,Option.getD_some]
   exact .str a
  |j+1=>simp[AVal.cells]at hj
theorem iq(f:Fits C B S μ h w){p:Nat}{m:MB}(hm:μ[p]? =some m)(o:Only w w' m.blk){g off cap:Nat}{ls:List Bs}(hg:m.blk=some g∨(w.heap.size≤g∧g<w'.heap.size))
  (hl:ls.length≤cap)(hx:cap≤maxLen)(hc:∀j x,ls[j]? =some x→w'.cell? ⟨g,off+j,none⟩=some (encS x)):
  ∃S' μ',Step B S μ w S' μ' w'∧Fits C B S' μ' (h.set p .dead) w'∧Rep w' S' μ' (.sl 1 (ls.map .str)) (.slice (some ⟨g,off,none⟩) ls.length cap):=by
 obtain⟨f1,st1⟩:=f.update (m':=⟨m.blk,m.ver+1,m.size,m.cap⟩) (k':=.dead) hm o (by simp) (fun e=>by simp at e) (.inl rfl) trivial
 have hlt:=(List.getElem?_eq_some_iff.1 hm).1
 have hm1:(μ.set p ⟨m.blk,m.ver+1,m.size,m.cap⟩)[p]? =some ⟨m.blk,m.ver+1,m.size,m.cap⟩:=List.getElem?_set_self hlt
 have hgg:(B≤g∧g<w'.heap.size)∧∀q m',(μ.set p ⟨m.blk,m.ver+1,m.size,m.cap⟩)[q]? =some m'→m'.blk=some g→q=p:=by
  rcases hg with hg| ⟨h1,h2⟩
  ·obtain⟨a1,a2,_⟩:=f.own p m g hm hg
   exact⟨⟨a1,Nat.lt_of_lt_of_le a2 o.size⟩,fun q m' hq hb=>f1.sep q p m' _ g hq hm1 hb hg⟩
  ·refine⟨⟨Nat.le_trans f.base h1,h2⟩,fun q m' hq hb=>?_⟩
   by_cases e:p=q
   ·exact e.symm
   ·rw[List.getElem?_set_ne e]at hq
    have:=(f.own q m' g hq hb).2.1
    omega
 obtain⟨st2,f2⟩:=f1.give hm1 hgg.2 hgg.1.1 hgg.1.2
 refine⟨_,_,st1.trans st2,?_,ta (fun a ha=>.inr ha) hl hx hc⟩
 simpa using f2
end
theorem gp{C:Ctx}{B:Nat}{S:Addr→Prop}{μ:Map}{h:Heap}{w:World}(f:Fits C B S μ h w){p ver len:Nat}{T:TypeId}{room:Bool}{l:List Bs}{v:Value}(hn:l≠ [])
  (hg:getRow h p ver=some (T,1,l.map .str))(hv:Rep w S μ (.hs p ver 0 len room) v):
  ∃m b cur,μ[p]? =some m∧m.blk=some b∧w.heap[b]? =some (.cells cur T (0,0))∧cur.size=m.cap∧l.length≤m.cap∧m.cap≤maxLen∧0<m.cap∧v=.slice (some ⟨b,0,none⟩) len (if room then m.cap else len)∧
   ∀j x,l[j]? =some x→w.cell? ⟨b,0+j,none⟩=some (encS x):=by
 obtain⟨m,hm,hf⟩:=f.row hg
 rcases hf.lies with⟨_,h2⟩| ⟨b,cur,hb,hheap,hsz,⟨h0,hle⟩,hmax,hcell⟩
 ·exact absurd (List.map_eq_nil_iff.1 h2) hn
 rcases hv.hs_now hm hf.hver with⟨h1,_⟩| ⟨b',hb',_,hve⟩
 ·rw[hb]at h1;cases h1
 rw[hb]at hb';cases hb'
 have hs1:=hf.hsize
 refine⟨m,b,cur,hm,hb,hheap,by omega,by simpa using hle,hmax,h0,by rw[hve];simp,fun j x hx=>?_⟩
 have hx':(l.map AVal.str)[j]? =some (.str x):=by rw[List.getElem?_map,hx];rfl
 obtain⟨u,hu,hr⟩:=hcell j (.str x) 0 (.str x) hx' rfl
 rw[hr.str_inv]at hu
 have hlt:=(Array.getElem?_eq_some_iff.1 hu).1
 simp only[World.cell?,hheap]
 have e:j*1+0=0+j:=by omega
 rw[e]at hu
 simpa [encS]using hu
theorem eW(w:World)(c:Array Value)(T:TypeId)(j:Nat):(w.alloc (.cells c T)).cell? ⟨w.heap.size,j,none⟩=c[j]? :=by
 simp only[World.cell?,bF]
 rfl
theorem cI(b:Nat):∀(vs:List Value) (o:Nat) (w:World) (k:Nat),(w.cell? ⟨b,k,none⟩).isSome=true→((w.setCells b o vs).cell? ⟨b,k,none⟩).isSome=true
 | [],_,_,_,h=>h
 |v::r,o,w,k,h=>cI b r (o+1) (w.setCell ⟨b,o,none⟩ v) k (by
  by_cases e:o=k
  ·subst e;obtain⟨u,hu⟩:=Option.isSome_iff_exists.1 h;rw[World.cell?_setCell_same _ _ _ hu];rfl
  ·rw[World.cell?_setCell_other _ _ _ _ (by simpa using e)];exact h)
theorem fP{w:World}{b o:Nat}{v:Value}(hs:(w.cell? ⟨b,o,none⟩).isSome=true):(w.setCells b o [v]).cell? ⟨b,o,none⟩=some v:=by
 have:=World.cell?_setCells_in b [v] o w (fun j hj=>by simp at hj;subst hj;exact hs) 0 (by simp)
 simpa using this
theorem gr(l:List Bs)(t:Bs)(i:Nat)(hi:i≤l.length)(j:Nat)(x:Bs)(hx:(l.take i++t::l.drop i)[j]? =some x):
  (j<i∧l[j]? =some x)∨(j=i∧x=t)∨(i<j∧l[j-1]? =some x):=by
 rcases Nat.lt_trichotomy j i with h|h|h
 ·rw[List.getElem?_append_left (by simp;omega),List.getElem?_take_of_lt h]at hx
  exact .inl ⟨h,hx⟩
 ·subst h
  rw[List.getElem?_append_right (by rw[List.length_take];omega)]at hx
  have:j-(l.take j).length=0:=by rw[List.length_take];omega
  rw[this]at hx;simp at hx
  exact .inr (.inl ⟨rfl,hx.symm⟩)
 ·rw[List.getElem?_append_right (by simp;omega)]at hx
  have:j-(l.take i).length=(j-i-1)+1:=by rw[List.length_take];omega
  rw[this,List.getElem?_cons_succ,List.getElem?_drop]at hx
  refine .inr (.inr ⟨h,?_⟩)
  rw[← hx];congr 1;omega
variable (G:Nat→Option (List AVal))
theorem oT(l:List Bs)(t:Bs)(i v1 v2:Nat)(rm:Bool)(hi:i≤l.length)(hn:l≠ [])(hl:l.length≤100000)(h:Heap):
  Sat (CT G) 101 [.hs h.length v1 0 l.length true,.int .i64 i,.hs (h.length+1) v2 0 1 rm] (h++[Blk.row 9 1 v1 (l.map .str),.row 9 1 v2 [.str t]])
   (fun r h'=>r=.sl 1 ((l.take i++t::l.drop i).map .str)∧h'=h++[.dead,.row 9 1 v2 [.str t]]):=by
 intro B S μ w us fit rl
 obtain⟨hul,hur⟩:=rl
 match us,hul,hur with
 | [u0,u1,u2],_,hur=>
  have r0:Rep w S μ (.hs h.length v1 0 l.length true) u0:=hur 0 _ rfl
  have r1:Rep w S μ (.int .i64 i) u1:=hur 1 _ rfl
  have r2:Rep w S μ (.hs (h.length+1) v2 0 1 rm) u2:=hur 2 _ rfl
  obtain rfl:=r1.int_inv
  have hg0:getRow (h++[Blk.row 9 1 v1 (l.map .str),.row 9 1 v2 [.str t]]) h.length v1=some (9,1,l.map .str):=by simp[getRow]
  have hg2:getRow (h++[Blk.row 9 1 v1 (l.map .str),.row 9 1 v2 [.str t]]) (h.length+1) v2=some (9,1,[t].map .str):=by simp[getRow]
  obtain⟨m,b,cur,hm,hb,hheap,hsz,hle,hmax,h0,rfl,hc⟩:=gp fit hn hg0 r0
  obtain⟨m2,b2,cur2,hm2,hb2,hheap2,hsz2,hle2,hmax2,h02,rfl,hc2⟩:=gp fit (by simp) hg2 r2
  simp only[↓reduceIte]
  have hne:b2≠b:=fun e=>by have:=fit.sep _ _ m2 m b hm2 hm (by rw[hb2,e]) hb;omega
  have hset:(h++[Blk.row 9 1 v1 (l.map .str),.row 9 1 v2 [.str t]]).set h.length .dead=h++[.dead,.row 9 1 v2 [.str t]]:=by simp[List.set_append]
  have hil:(l.take i++t::l.drop i).length=l.length+1:=by simp;omega
  change OpOk Tryz.prog _ ((callFunc 101 #[_,_,_]).run Tryz.prog w)
  rw[bG (f:=101) Tryz.func101 rfl rfl]
  have fin:∀(w':World) (g cap:Nat),Only w w' (some b)→(g=b∨(w.heap.size≤g∧g<w'.heap.size))→l.length+1≤cap→cap≤maxLen→
    (∀j x,(l.take i++t::l.drop i)[j]? =some x→w'.cell? ⟨g,0+j,none⟩=some (encS x))→
    OpPost (CT G) B S μ w (fun r h'=>r=.sl 1 ((l.take i++t::l.drop i).map .str)∧h'=h++[.dead,.row 9 1 v2 [.str t]]) (.slice (some ⟨g,0,none⟩) (l.length+1) cap) w':=by
   intro w' g cap ho hg hcap hmx hcell
   obtain⟨S',μ',st,f',rp⟩:=iq fit hm (by rw[hb];exact ho) (g:=g) (by rcases hg with rfl|hg;exact .inl hb;exact .inr hg) (by rw[hil];exact hcap) hmx hcell
   rw[hset]at f'
   rw[hil]at rp
   exact⟨_,_,S',μ',⟨rfl,rfl⟩,st,f',rp⟩
  have hcs:∀j v,(l.map encS)[j]? =some v→w.cell? ⟨b,0+j,none⟩=some v:=by
   intro j v hv
   rw[List.getElem?_map]at hv
   obtain⟨x,hx,rfl⟩:=Option.map_eq_some_iff.1 hv
   exact hc j x hx
  have hvs:∀j v,[encS t][j]? =some v→w.cell? ⟨b2,0+j,none⟩=some v:=by
   intro j v hv
   match j with
   |0=>simp at hv;subst hv;exact hc2 0 t rfl
   |j+1=>simp at hv
  have h1c:∀v∈l.map encS,v.oneCell'=true:=by intro v hv;obtain⟨x,_,rfl⟩:=List.mem_map.1 hv;rfl
  have h1v:∀v∈ [encS t],v.oneCell'=true:=by intro v hv;simp at hv;subst hv;rfl
  have there:∀k,k<m.cap→(w.cell? ⟨b,k,none⟩).isSome=true:=by
   intro k hk
   have:k<cur.size:=by omega
   simp[World.cell?,hheap,this]
  have mx:maxLen≤9223372036854775807:=by decide
  have hdr:(l.map encS).drop i=(l.drop i).map encS:=by rw[List.map_drop]
  by_cases hroom:l.length+1≤m.cap
  ·by_cases hil2:i=l.length
   ·subst hil2
    refine(Any2.slices_Insert_string_end_room Tryz.lays2_22 b 0 l.length m.cap b2 0 1 _ [encS t] w (by omega) hroom (by omega) rfl (fun j hj=>there _ (by omega)) (fun j hj=>by simp[World.frozen?,hheap]) hvs h1v).mono fun e w' ⟨he,hw⟩=>?_
    refine⟨_,he,fin w' b m.cap (by rw[hw];exact Only.setCells _ _ _ _) (.inl rfl) hroom hmax fun j x hx=>?_⟩
    rw[hw]
    rcases gr l t l.length (Nat.le_refl _) j x hx with⟨h1,h2⟩| ⟨rfl,rfl⟩| ⟨h1,h2⟩
    ·rw[World.cell?_setCells_out _ _ _ _ _ (fun _ _=>.inl (by simp;omega))];exact hc j x h2
    ·exact fP (there _ (by omega))
    ·have:=(List.getElem?_eq_some_iff.1 h2).1;omega
   ·refine(Any2.slices_Insert_string_shift Tryz.lays2_22 b 0 l.length m.cap i b2 0 1 _ (l.map encS) [encS t] w (by omega) (by omega) hroom (by omega) hne (by simp) rfl hcs (fun j hj=>there _ (by omega)) (fun j hj=>by simp[World.frozen?,hheap]) hvs h1c h1v
     9 9 cur2.size cur.size (by simp[World.shape?,hheap2]) (by simp[World.shape?,hheap]) (by omega) (by simp[World.frozen?,hheap2]) (by simp[World.frozen?,hheap2])).mono fun e w' ⟨he,hw⟩=>?_
    refine⟨_,he,fin w' b m.cap (by rw[hw];exact((Only.drew w _).trans (Only.setCells _ _ _ _)).trans (Only.setCells _ _ _ _)) (.inl rfl) hroom hmax fun j x hx=>?_⟩
    rw[hw]
    have th2:∀k,k<m.cap→((w.drew.setCells b (0+(i+1)) ((l.map encS).drop i)).cell? ⟨b,k,none⟩).isSome=true:=fun k hk=>cI b _ _ _ _ (there k hk)
    rcases gr l t i hi j x hx with⟨h1,h2⟩| ⟨rfl,rfl⟩| ⟨h1,h2⟩
    ·rw[World.cell?_setCells_out _ _ _ _ _ (fun _ _=>.inl (by simp;omega)),World.cell?_setCells_out _ _ _ _ _ (fun _ _=>.inl (by simp;omega))];exact hc j x h2
    ·exact fP (th2 _ (by omega))
    ·have hjl:=(List.getElem?_eq_some_iff.1 h2).1
     rw[World.cell?_setCells_out _ _ _ _ _ (fun _ _=>.inr (by simp;omega))]
     have:=World.cell?_setCells_in b ((l.map encS).drop i) (0+(i+1)) w.drew (fun k hk=>by
      have hk2:k<l.length-i:=by simpa using hk
      exact there _ (by omega)) (j-1-i) (by simp;omega)
     rw[show 0+(i+1)+(j-1-i)=0+j by omega]at this
     rw[this]
     have e2:i+(j-1-i)=j-1:=by omega
     simp only[List.getElem_drop,List.getElem_map,e2]
     rw[(List.getElem?_eq_some_iff.1 h2).2]
  ·have hcl:m.cap=l.length:=by omega
   have hcg:=grownCap_ge w (l.length+1) m.cap 9
   have hmx1:(100001:Nat)≤maxLen:=by decide
   have hcm:=grownCap_le_maxLen w (l.length+1) m.cap 9 (by omega)
   by_cases hil2:i=l.length
   ·subst hil2
    refine(Any2.slices_Insert_string_end_grow Tryz.lays2_22 (some ⟨b,0,none⟩) l.length m.cap b2 0 1 _ (l.map encS) [encS t] w (by omega) (by omega) (by omega) (by omega) (by simp) rfl (by simp)
     (fun a ha j v hv=>by cases ha;rw[b9];exact hcs j v hv) hvs h1v).mono fun e w' ⟨he,hw⟩=>?_
    refine⟨_,he,fin w' w.heap.size _ (by rw[hw];exact(Only.drew w _).trans (Only.alloc _ _ _)) (.inr ⟨Nat.le_refl _,by rw[hw];simp⟩) hcg hcm fun j x hx=>?_⟩
    rw[hw]
    refine(eW w.drew _ _ _).trans ?_
    rw[Array.getElem?_append_left (by simp;have:=(List.getElem?_eq_some_iff.1 hx).1;rw[hil]at this;omega)]
    rcases gr l t l.length (Nat.le_refl _) j x hx with⟨h1,h2⟩| ⟨rfl,rfl⟩| ⟨h1,h2⟩
    ·rw[List.getElem?_toArray,List.getElem?_append_left (by simpa using by omega),List.getElem?_map,Nat.zero_add,h2];rfl
    ·rw[List.getElem?_toArray,List.getElem?_append_right (by simp)];simp
    ·have:=(List.getElem?_eq_some_iff.1 h2).1;omega
   ·refine(Any2.slices_Insert_string_grow Tryz.lays2_22 b 0 l.length m.cap i b2 0 1 _ (l.map encS) [encS t] w (by omega) (by omega) (by omega) (by omega) (by omega) (by simp) rfl hcs hvs h1c h1v).mono fun e w' ⟨he,hw⟩=>?_
    rw[show Tryz.lays2_22_ren.t 9=9 from rfl]at hw
    generalize hw1:w.alloc (.cells (((l.map encS).take i).toArray++Builtin.zeroCells (Value.string ⟨#[]⟩).cells (l.length+1-i)++Builtin.zeroCells (Value.string ⟨#[]⟩).cells (grownCap w (l.length+1) m.cap 9-(l.length+1))) 9)=w1 at hw
    have hsz1:w1.heap.size=w.heap.size+1:=by rw[← hw1];simp
    have ho1:Only w w1 (some b):=by rw[← hw1];exact Only.alloc _ _ _
    have hw':w'=((w1.drew.setCells w.heap.size i [encS t]).drew).setCells w.heap.size (i+1) ((l.map encS).drop i):=hw
    have ho2:Only w1 w' (some w.heap.size):=by rw[hw'];exact(((Only.drew _ _).trans (Only.setCells _ _ _ _)).trans (Only.drew _ _)).trans (Only.setCells _ _ _ _)
    have hc1:∀k,w1.cell? ⟨w.heap.size,k,none⟩=(((l.map encS).take i).toArray++Builtin.zeroCells (Value.string ⟨#[]⟩).cells (l.length+1-i)++Builtin.zeroCells (Value.string ⟨#[]⟩).cells (grownCap w (l.length+1) m.cap 9-(l.length+1)))[k]? :=by
     intro k;rw[← hw1];exact eW _ _ _ _
    have th1:∀k,k<l.length+1→(w1.cell? ⟨w.heap.size,k,none⟩).isSome=true:=by
     intro k hk
     rw[hc1,Array.getElem?_eq_getElem (by simp[size_zeroCells,Value.cells];omega)];rfl
    have th2:∀k,k<l.length+1→((w1.drew.setCells w.heap.size i [encS t]).drew.cell? ⟨w.heap.size,k,none⟩).isSome=true:=fun k hk=>cI _ _ _ w1.drew _ (th1 k hk)
    refine⟨_,he,fin w' w.heap.size _ (Only.into ho1 ho2 (Nat.le_refl _)) (.inr ⟨Nat.le_refl _,by have:=ho2.size;omega⟩) hcg hcm fun j x hx=>?_⟩
    rw[hw']
    rcases gr l t i hi j x hx with⟨h1,h2⟩| ⟨rfl,rfl⟩| ⟨h1,h2⟩
    ·rw[World.cell?_setCells_out _ _ _ _ _ (fun _ _=>.inl (by simp;omega))]
     refine(World.cell?_setCells_out _ _ _ w1.drew _ (fun _ _=>.inl (by simp;omega))).trans ?_
     refine(hc1 _).trans ?_
     rw[Array.getElem?_append_left (by simp;omega),Array.getElem?_append_left (by simp;omega),List.getElem?_toArray,Nat.zero_add,List.getElem?_take_of_lt h1,List.getElem?_map,h2];rfl
    ·rw[World.cell?_setCells_out _ _ _ _ _ (fun _ _=>.inl (by simp))]
     have:=fP (w:=w1.drew) (b:=w.heap.size) (o:=j) (v:=encS x) (th1 j (by omega))
     simpa using this
    ·have hjl:=(List.getElem?_eq_some_iff.1 h2).1
     have:=World.cell?_setCells_in w.heap.size ((l.map encS).drop i) (i+1) (w1.drew.setCells w.heap.size i [encS t]).drew (fun k hk=>by
      have hk2:k<l.length-i:=by simpa using hk
      exact th2 _ (by omega)) (j-1-i) (by simp;omega)
     rw[show i+1+(j-1-i)=0+j by omega]at this
     rw[this]
     have e2:i+(j-1-i)=j-1:=by omega
     simp only[List.getElem_drop,List.getElem_map,e2]
     rw[(List.getElem?_eq_some_iff.1 h2).2]
theorem mK(a:AVal)(ha:a=.ez∨a=.nil (.slice none 0 0))(t:Bs)(v2:Nat)(rm:Bool)(h:Heap):
  Sat (CT G) 101 [a,.int .i64 0,.hs h.length v2 0 1 rm] (h++[Blk.row 9 1 v2 [.str t]]) (fun r h'=>r=.sl 1 [.str t]∧h'=h++[.dead]):=by
 intro B S μ w us fit rl
 obtain⟨hul,hur⟩:=rl
 match us,hul,hur with
 | [u0,u1,u2],_,hur=>
  have r0:Rep w S μ a u0:=hur 0 _ rfl
  have r1:Rep w S μ (.int .i64 0) u1:=hur 1 _ rfl
  have r2:Rep w S μ (.hs h.length v2 0 1 rm) u2:=hur 2 _ rfl
  obtain rfl:=r1.int_inv
  have hg2:getRow (h++[Blk.row 9 1 v2 [.str t]]) h.length v2=some (9,1,[t].map .str):=by simp[getRow]
  obtain⟨m2,b2,cur2,hm2,hb2,hheap2,hsz2,hle2,hmax2,h02,rfl,hc2⟩:=gp fit (by simp) hg2 r2
  have hset:(h++[Blk.row 9 1 v2 [.str t]]).set h.length .dead=h++[.dead]:=by simp[List.set_append]
  obtain⟨base,rfl⟩:∃base,u0=.slice base 0 0:=by
   rcases ha with rfl|rfl
   ·cases r0 with|ez a=>exact⟨_,rfl⟩
   ·exact⟨none,r0.nil_inv⟩
  change OpOk Tryz.prog _ ((callFunc 101 #[_,_,_]).run Tryz.prog w)
  rw[bG (f:=101) Tryz.func101 rfl rfl]
  have hvs:∀j v,[encS t][j]? =some v→w.cell? ⟨b2,0+j,none⟩=some v:=by
   intro j v hv
   match j with
   |0=>simp at hv;subst hv;exact hc2 0 t rfl
   |j+1=>simp at hv
  have h1v:∀v∈ [encS t],v.oneCell'=true:=by intro v hv;simp at hv;subst hv;rfl
  have hcg:=grownCap_ge w (0+1) 0 9
  have hcm:=grownCap_le_maxLen w (0+1) 0 9 (by decide)
  refine(Any2.slices_Insert_string_end_grow Tryz.lays2_22 base 0 0 b2 0 1 _ [] [encS t] w (by omega) (by omega) (by omega) (by omega) rfl rfl (fun _=>rfl)
   (fun a ha j v hv=>by simp at hv) hvs h1v).mono fun e w' ⟨he,hw⟩=>?_
  obtain⟨S',μ',st,f',rp⟩:=iq (ls:=[t]) (off:=0) (cap:=grownCap w (0+1) 0 9) (w':=w') fit hm2 (by rw[hw];exact(Only.drew w _).trans (Only.alloc _ _ _)) (g:=w.heap.size) (.inr ⟨Nat.le_refl _,by rw[hw];simp⟩) hcg hcm (fun j x hx=>by
   rw[hw]
   refine(eW w.drew _ _ _).trans ?_
   match j with
   |0=>simp at hx;subst hx;rw[Array.getElem?_append_left (by simp)];rfl
   |j+1=>simp at hx)
  rw[hset]at f'
  exact⟨_,he,_,_,S',μ',⟨rfl,rfl⟩,st,f',rp⟩
theorem oU(l:List Bs)(i v1:Nat)(hi:i<l.length)(hl:l.length≤100000)(h:Heap):
  Sat (CT G) 102 [.hs h.length v1 0 l.length true,.int .i64 i,.int .i64 (i+1)] (h++[Blk.row 9 1 v1 (l.map .str)])
   (fun r h'=>r=.sl 1 ((l.take i++l.drop (i+1)).map .str)∧h'=h++[.dead]):=by
 intro B S μ w us fit rl
 obtain⟨hul,hur⟩:=rl
 match us,hul,hur with
 | [u0,u1,u2],_,hur=>
  have r0:Rep w S μ (.hs h.length v1 0 l.length true) u0:=hur 0 _ rfl
  have r1:Rep w S μ (.int .i64 i) u1:=hur 1 _ rfl
  have r2:Rep w S μ (.int .i64 (i+1)) u2:=hur 2 _ rfl
  obtain rfl:=r1.int_inv
  obtain rfl:=r2.int_inv
  have hn:l≠ []:=by rintro rfl;simp at hi
  have hg0:getRow (h++[Blk.row 9 1 v1 (l.map .str)]) h.length v1=some (9,1,l.map .str):=by simp[getRow]
  obtain⟨m,b,cur,hm,hb,hheap,hsz,hle,hmax,h0,rfl,hc⟩:=gp fit hn hg0 r0
  simp only[↓reduceIte]
  have hset:(h++[Blk.row 9 1 v1 (l.map .str)]).set h.length .dead=h++[.dead]:=by simp[List.set_append]
  have mx:maxLen≤9223372036854775807:=by decide
  change OpOk Tryz.prog _ ((callFunc 102 #[_,_,_]).run Tryz.prog w)
  rw[bG (f:=102) Tryz.func102 rfl rfl]
  have hH:Go.Sort.Holds Go.Proofs.encStr w b 0 l.toArray:=by
   intro j hj
   have hj':j<l.length:=by simpa using hj
   refine⟨?_,by simp[World.frozen?,hheap]⟩
   rw[hc j l[j] (List.getElem?_eq_getElem hj')]
   simp[encS,Go.Proofs.encStr,hj']
  have hlen:(l.take i++l.drop (i+1)++List.replicate (i+1-i) ([]:List UInt8)).length=l.length:=by simp;omega
  refine(Tryz.slices_Delete_string b 0 m.cap i (i+1) l w hH hle (by omega) (by omega) (by omega)).mono fun e w' ⟨he,q,hw⟩=>?_
  obtain⟨S',μ',st,f',rp⟩:=iq (ls:=l.take i++l.drop (i+1)) (off:=0) (cap:=m.cap) (w':=w') fit hm (by rw[hw,hb];exact Only.trans (b:=Go.Sort.ahead w q) ⟨rfl,rfl,rfl,Nat.le_refl _,fun _ _ _=>rfl⟩ (Only.putRow _ _ _ _ _)) (g:=b) (.inl hb) (by simp;omega) hmax (fun j x hx=>by
   rw[hw]
   have hjl:=(List.getElem?_eq_some_iff.1 hx).1
   have hH2:Go.Sort.Holds Go.Proofs.encStr (Go.Sort.ahead w q) b 0 l.toArray:=hH
   rw[Go.Sort.cell?_putRow _ _ _ _ l.toArray _ hH2 (by simpa using hlen) j (by rw[List.size_toArray,List.length_append];omega)]
   have hx2:(l.take i++l.drop (i+1)++List.replicate (i+1-i) ([]:List UInt8))[j]? =some x:=by rw[List.getElem?_append_left hjl];exact hx
   have:(l.take i++l.drop (i+1)++List.replicate (i+1-i) ([]:List UInt8)).toArray[j]! =x:=by
    rw[getElem!_def,List.getElem?_toArray,hx2]
   rw[this];rfl)
  rw[hset]at f'
  have hl2:(l.take i++l.drop (i+1)).length=l.length-(i+1-i):=by simp;omega
  rw[hl2]at rp
  exact⟨_,he,_,_,S',μ',⟨rfl,rfl⟩,st,f',rp⟩
end Go.Av
namespace Go.Av
open Go Go.Proofs Go.RowKit
attribute [local irreducible] WP WPl WPix Sat
variable (G:Nat→Option (List AVal))
theorem ef(h:Heap):Sat (CT G) 88 [.sl 1 []] h (fun r h'=>(r=.ez∨r=.nil (.slice none 0 0))∧h'=h):=by
 refine sb [.tmp 2] (fn:=Tryz.f88) Tryz.func88 ?_
 intro Q hQ
 refine wk trivial ?_
 refine iF _ (by exact zq trivial) (.inl rfl) fun b=>?_
 cases b
 ·try refine sq trivial ?_
  refine wk trivial ?_
  refine fZ (.inl rfl) (by simp(disch:=first|omega| (simp only[go_sem, ↓reduceIte,seval];first|done|omega)|fail) only[go_sem, ↓reduceIte,seval];rfl) (by simp(disch:=first|omega| (simp only[go_sem, ↓reduceIte,seval];first|done|omega)|fail) only[go_sem, ↓reduceIte,seval];rfl) (by simp(disch:=first|omega| (simp only[go_sem, ↓reduceIte,seval];first|done|omega)|fail) only[go_sem, ↓reduceIte,seval];rfl) (by simp(disch:=first|omega| (simp only[go_sem, ↓reduceIte,seval];first|done|omega)|fail) only[go_sem, ↓reduceIte,seval];try rfl) (by omega) (by simp only[elemsOf, ↓reduceIte];try rfl) (by simp) (fun _=>?_) (fun h=>absurd rfl h)
  try refine sq trivial ?_
  refine wk trivial ?_
  refine ee hQ trivial ?_
  exact Fin.same .ez ⟨.inl rfl,rfl⟩
 ·try refine sq trivial ?_
  refine wk trivial ?_
  refine ee hQ trivial ?_
  exact Fin.same (.nil _) ⟨.inr rfl,rfl⟩
theorem oV(l:List Bs)(hn:l≠ [])(hl:l.length≤1048576)(h:Heap):Sat (CT G) 88 [.sl 1 (l.map .str)] h (fun r h'=>r=.hs h.length 0 0 l.length true∧h'=h++[Blk.row 9 1 0 (l.map .str)]):=by
 obtain⟨a,l,rfl⟩:∃a k,l=a::k:=by
  cases l with
  |nil=>exact absurd rfl hn
  |cons a k=>exact⟨a,k,rfl⟩
 have hr:(List.map AVal.str (a::l))≠ []:=by simp
 refine sb [.tmp 2] (fn:=Tryz.f88) Tryz.func88 ?_
 intro Q hQ
 refine wk trivial ?_
 refine fZ (.inl rfl) (by simp(disch:=first|omega| (simp only[go_sem, ↓reduceIte,seval];first|done|omega)|fail) only[go_sem, ↓reduceIte,seval];rfl) (by simp(disch:=first|omega| (simp only[go_sem, ↓reduceIte,seval];first|done|omega)|fail) only[go_sem, ↓reduceIte,seval];rfl) (by simp(disch:=first|omega| (simp only[go_sem, ↓reduceIte,seval];first|done|omega)|fail) only[go_sem, ↓reduceIte,seval];rfl) (by simp(disch:=first|omega| (simp only[go_sem, ↓reduceIte,seval];first|done|omega)|fail) only[go_sem, ↓reduceIte,seval];try rfl) (by omega) (by simp only[elemsOf, ↓reduceIte];try rfl) ?_ (fun h=>by simp at h) (fun _=>?_)
 ·simp[maxLen]at hl ⊢;omega
 try refine sq trivial ?_
 refine wk trivial ?_
 refine ee hQ trivial ?_
 exact Fin.whole (by simp) (.hs _ _ _ _ _ (by simp)) ⟨rfl,rfl⟩
section
variable {H:Heap} {n:Nat} {s:PS}
theorem oW(hn:n+9≤H.length)(x:Blk)(a:AVal)(ha:a=.ez∨a=.nil (.slice none 0 0))(t:Bs):Sat (CT G) 101 [a,.int .i64 0,.hs (H.length+1) 0 0 1 true] (so (H++[x,Blk.row 9 1 0 [.str t]]) n s)
  (fun r h'=>r=.sl 1 [.str t]∧h'=so (H++[x,.dead]) n s):=by
 have c:=mK G a ha t 0 true (so (H++[x]) n s)
 have hn1:n+9≤(H++[x]).length:=by simp;omega
 rw[aF hn1,aX hn1,aX hn1]at c
 simpa using c
theorem qF(hn:n+9≤H.length)(x:Blk)(l:List Bs)(t:Bs)(hl0:l≠ [])(hl:l.length≤100000):Sat (CT G) 101 [.hs (H.length+1) 0 0 l.length true,.int .i64 (lbF l t),.hs (H.length+2) 0 0 1 true] (so (H++[x,Blk.row 9 1 0 (l.map .str),Blk.row 9 1 0 [.str t]]) n s)
  (fun r h'=>r=.sl 1 ((l.take (lbF l t)++t::l.drop (lbF l t)).map .str)∧h'=so (H++[x,.dead,Blk.row 9 1 0 [.str t]]) n s):=by
 have c:=oT G l t (lbF l t) 0 0 true (lG l t) hl0 hl (so (H++[x]) n s)
 have hn1:n+9≤(H++[x]).length:=by simp;omega
 rw[aF hn1,aX hn1,aX hn1]at c
 simpa using c
theorem qG(hn:n+9≤H.length)(x:Blk)(l:List Bs)(i:Nat)(hi:i<l.length)(hl:l.length≤100000):Sat (CT G) 102 [.hs (H.length+1) 0 0 l.length true,.int .i64 i,.int .i64 (i+1)] (so (H++[x,Blk.row 9 1 0 (l.map .str)]) n s)
  (fun r h'=>r=.sl 1 ((l.take i++l.drop (i+1)).map .str)∧h'=so (H++[x,.dead]) n s):=by
 have c:=oU G l i 0 hi hl (so (H++[x]) n s)
 have hn1:n+9≤(H++[x]).length:=by simp;omega
 rw[aF hn1,aX hn1,aX hn1]at c
 simpa using c
theorem dD{s':PS}{j:Heap}{R:AVal→Heap→Prop}{r0 r:AVal}(hn:n+9≤H.length)(hz:Frz (so (H++j) n s') H.length r0 r)(hR:R r (so H n s')):Fin (so H n s) (so (H++j) n s') R r0:=dw hn rfl (PS.clo hn s') hz hR
theorem j1(hn:n+9≤H.length)(x:Blk)(l:List Bs):Frz (so (H++[x,Blk.row 9 1 0 (l.map .str)]) n s) H.length (.hs (H.length+1) 0 0 l.length true) (.sl 1 (l.map .str)):=by
 have hg:getRow (so (H++[x,Blk.row 9 1 0 (l.map .str)]) n s) (H.length+1) 0=some (9,1,l.map .str):=by
  rw[bq (by simp;omega) 0 (by omega)];simp[getRow]
 have:=Frz.data (n:=H.length) (len:=l.length) (room:=true) (by omega) hg (by simp) (fun r hr=>by obtain⟨a,_,rfl⟩:=List.mem_map.1 hr;exact .str _) (fun r hr c hc=>by obtain⟨a,_,rfl⟩:=List.mem_map.1 hr;simp[AVal.cells]at hc;subst hc;rfl)
 simpa using this
theorem ci(hn:n+9≤H.length)(x:Blk)(l:List Bs)(hl0:l≠ [])(hl:l.length≤1048576):Sat (CT G) 88 [.sl 1 (l.map .str)] (so (H++[x]) n s)
  (fun r h'=>r=.hs (H.length+1) 0 0 l.length true∧h'=so (H++[x,Blk.row 9 1 0 (l.map .str)]) n s):=by
 have c:=oV G l hl0 hl (so (H++[x]) n s)
 have hn1:n+9≤(H++[x]).length:=by simp;omega
 rw[aF hn1,aX hn1]at c
 simpa using c
end
theorem kf(s:PS)(id:Int)(t:Bs)(hs:Srt ((lkM s.it id).getD It.z).tags)(hl:((lkM s.it id).getD It.z).tags.length≤100000){H:Heap}{n:Nat}(hn:n+9≤H.length):Sat (CT G) 100 [.hp (n+8) 0 0 0,.int .i64 id,.str t] (so H n s) (fun r h'=>r=.tup [.int .i64 (lbF ((lkM s.it id).getD It.z).tags t),.bool (decide (t∈ ((lkM s.it id).getD It.z).tags))]∧h'=so H n s):=by
 refine sb [.tmp 6,.tmp 7] (fn:=Tryz.f100) Tryz.func100 ?_
 intro Q hQ
 refine wk trivial ?_
 refine kq trivial (kJ G _ t hs hl _) ?_
 refine ye hQ trivial ?_
 exact cd hn (.tup _ (fun x hx=>by simp only[List.mem_cons,List.not_mem_nil,or_false]at hx;rcases hx with rfl|rfl;exact .int _ _;exact .bool _)) ⟨rfl,rfl⟩
def tgF(l:List Bs)(t:Bs)(n:Int):List Bs:=
 if n=1∧t ∉ l then l.take (lbF l t)++t::l.drop (lbF l t)else if n=0∧t∈l then l.take (lbF l t)++l.drop (lbF l t+1)else l
theorem lH(s:PS)(e:Ev)(hs:Srt ((lkM s.it e.a).getD It.z).tags)(hl:((lkM s.it e.a).getD It.z).tags.length≤100000){H:Heap}{n:Nat}(hn:n+9≤H.length):Sat (CT G) 57 [.hp (n+8) 0 0 0,e.av] (so H n s) (fun r h'=>r=.sl 1 ((tgF ((lkM s.it e.a).getD It.z).tags e.s e.n).map .str)∧h'=so H n s):=by
 have hT:=fun(H:Heap) (hn:n+9≤H.length)=>kf G s e.a e.s hs hl (n:=n) hn
 have hn1:∀x:Blk,n+9≤(H++[x]).length:=fun x=>by simp;omega
 generalize hg:((lkM s.it e.a).getD It.z).tags=l at hs hl hT ⊢
 by_cases hn0:l=[]
 ·subst hn0
  have ht:lbF [] e.s=0:=rfl
  have hd:decide (e.s∈ ([]:List Bs))=false:=by simp
  rw[ht,hd]at hT
  by_cases k1:e.n=1
  ·have F:=k1
   skip
   refine sb [.tmp 4] (fn:=Tryz.f57) Tryz.func57 ?_
   intro Q hQ
   refine wn F ?_
   refine bw 8 0 _ (by rfl) (by decide+kernel) (by kernel_rfl) (by decide+kernel) (by decide+kernel) (by decide+kernel) ?_
   simp only[List.take_succ_cons,List.take_zero]
   refine sq F ?_
   refine wn F ?_
   rw[hg]
   refine(ef G _).mono ?_
   rintro r h' ⟨hr,rfl⟩
   simp(disch:=first|omega| (simp only[go_sem, ↓reduceIte,seval];first|done|omega)|fail) only[go_sem, ↓reduceIte,seval,F]
   skip
   refine wk F ?_
   skip
   refine kx F (hT _ (by first|omega| (simp;omega))) ?_
   refine kx F (oW G hn _ r hr e.s) ?_
   skip
   refine ee hQ F ?_
   exact ai hn (.sl _ _ (by simp;exact .str _)) ⟨by simp[tgF,k1],rfl⟩
  ·by_cases k0:e.n=0
   ·have F:=k0
    skip
    refine sb [.tmp 4] (fn:=Tryz.f57) Tryz.func57 ?_
    intro Q hQ
    refine wn F ?_
    refine bw 8 0 _ (by rfl) (by decide+kernel) (by kernel_rfl) (by decide+kernel) (by decide+kernel) (by decide+kernel) ?_
    simp only[List.take_succ_cons,List.take_zero]
    refine sq F ?_
    refine wn F ?_
    rw[hg]
    refine(ef G _).mono ?_
    rintro r h' ⟨hr,rfl⟩
    simp(disch:=first|omega| (simp only[go_sem, ↓reduceIte,seval];first|done|omega)|fail) only[go_sem, ↓reduceIte,seval,F]
    skip
    refine wk F ?_
    refine kq F (hT _ (by first|omega| (simp;omega))) ?_
    refine ee hQ F ?_
    refine dD (r:=.sl 1 []) hn ?_ ⟨by simp[tgF,k0,k1],rfl⟩
    rcases hr with rfl|rfl
    ·exact .ezs _
    ·exact .nils _
   ·have n1:(e.n==1)=false:=by simp[k1]
    have n0:(e.n==0)=false:=by simp[k0]
    have F:=F2 n1 n0
    skip
    refine sb [.tmp 4] (fn:=Tryz.f57) Tryz.func57 ?_
    intro Q hQ
    refine wn F ?_
    refine bw 8 0 _ (by rfl) (by decide+kernel) (by kernel_rfl) (by decide+kernel) (by decide+kernel) (by decide+kernel) ?_
    simp only[List.take_succ_cons,List.take_zero]
    refine sq F ?_
    refine wn F ?_
    rw[hg]
    refine(ef G _).mono ?_
    rintro r h' ⟨hr,rfl⟩
    simp(disch:=first|omega| (simp only[go_sem, ↓reduceIte,seval];first|done|omega)|fail) only[go_sem, ↓reduceIte,seval,F]
    skip
    refine wk F ?_
    refine kq F (hT _ (by first|omega| (simp;omega))) ?_
    refine ee hQ F ?_
    refine dD (r:=.sl 1 []) hn ?_ ⟨by simp[tgF,k0,k1],rfl⟩
    rcases hr with rfl|rfl
    ·exact .ezs _
    ·exact .nils _
 ·by_cases km:e.s∈l
  ·have hd:decide (e.s∈l)=true:=by simp[km]
   rw[hd]at hT
   have hlt:lbF l e.s<l.length:=(List.getElem?_eq_some_iff.1 (nw hs km)).1
   by_cases k0:e.n=0
   ·have F:=k0
    skip
    refine sb [.tmp 4] (fn:=Tryz.f57) Tryz.func57 ?_
    intro Q hQ
    refine wn F ?_
    refine bw 8 0 _ (by rfl) (by decide+kernel) (by kernel_rfl) (by decide+kernel) (by decide+kernel) (by decide+kernel) ?_
    simp only[List.take_succ_cons,List.take_zero]
    refine sq F ?_
    refine wn F ?_
    rw[hg]
    refine(ci G hn _ l hn0 (by omega)).mono ?_
    rintro r h' ⟨rfl,rfl⟩
    try refine sq F ?_
    skip
    refine wk F ?_
    refine kq F (hT _ (by first|omega| (simp;omega))) ?_
    refine kq F (qG G hn _ l (lbF l e.s) hlt hl) ?_
    refine ee hQ F ?_
    exact ai hn (ic _ _) ⟨by simp[tgF,k0,km],rfl⟩
   ·by_cases k1:e.n=1
    ·have F:=k1
     skip
     refine sb [.tmp 4] (fn:=Tryz.f57) Tryz.func57 ?_
     intro Q hQ
     refine wn F ?_
     refine bw 8 0 _ (by rfl) (by decide+kernel) (by kernel_rfl) (by decide+kernel) (by decide+kernel) (by decide+kernel) ?_
     simp only[List.take_succ_cons,List.take_zero]
     refine sq F ?_
     refine wn F ?_
     rw[hg]
     refine(ci G hn _ l hn0 (by omega)).mono ?_
     rintro r h' ⟨rfl,rfl⟩
     try refine sq F ?_
     skip
     refine wk F ?_
     refine kq F (hT _ (by first|omega| (simp;omega))) ?_
     refine ee hQ F ?_
     exact dD hn (j1 hn _ l) ⟨by simp[tgF,k1,km],rfl⟩
    ·have n1:(e.n==1)=false:=by simp[k1]
     have n0:(e.n==0)=false:=by simp[k0]
     have F:=F2 n1 n0
     skip
     refine sb [.tmp 4] (fn:=Tryz.f57) Tryz.func57 ?_
     intro Q hQ
     refine wn F ?_
     refine bw 8 0 _ (by rfl) (by decide+kernel) (by kernel_rfl) (by decide+kernel) (by decide+kernel) (by decide+kernel) ?_
     simp only[List.take_succ_cons,List.take_zero]
     refine sq F ?_
     refine wn F ?_
     rw[hg]
     refine(ci G hn _ l hn0 (by omega)).mono ?_
     rintro r h' ⟨rfl,rfl⟩
     try refine sq F ?_
     skip
     refine wk F ?_
     refine kq F (hT _ (by first|omega| (simp;omega))) ?_
     refine ee hQ F ?_
     exact dD hn (j1 hn _ l) ⟨by simp[tgF,k1,k0,km],rfl⟩
  ·have hd:decide (e.s∈l)=false:=by simp[km]
   rw[hd]at hT
   by_cases k1:e.n=1
   ·have F:=k1
    skip
    refine sb [.tmp 4] (fn:=Tryz.f57) Tryz.func57 ?_
    intro Q hQ
    refine wn F ?_
    refine bw 8 0 _ (by rfl) (by decide+kernel) (by kernel_rfl) (by decide+kernel) (by decide+kernel) (by decide+kernel) ?_
    simp only[List.take_succ_cons,List.take_zero]
    refine sq F ?_
    refine wn F ?_
    rw[hg]
    refine(ci G hn _ l hn0 (by omega)).mono ?_
    rintro r h' ⟨rfl,rfl⟩
    try refine sq F ?_
    skip
    refine wk F ?_
    skip
    refine kx F (hT _ (by first|omega| (simp;omega))) ?_
    refine kx F (qF G hn _ l e.s hn0 hl) ?_
    skip
    refine ee hQ F ?_
    exact ai hn (ic _ _) ⟨by simp[tgF,k1,km],rfl⟩
   ·by_cases k0:e.n=0
    ·have F:=k0
     skip
     refine sb [.tmp 4] (fn:=Tryz.f57) Tryz.func57 ?_
     intro Q hQ
     refine wn F ?_
     refine bw 8 0 _ (by rfl) (by decide+kernel) (by kernel_rfl) (by decide+kernel) (by decide+kernel) (by decide+kernel) ?_
     simp only[List.take_succ_cons,List.take_zero]
     refine sq F ?_
     refine wn F ?_
     rw[hg]
     refine(ci G hn _ l hn0 (by omega)).mono ?_
     rintro r h' ⟨rfl,rfl⟩
     try refine sq F ?_
     skip
     refine wk F ?_
     refine kq F (hT _ (by first|omega| (simp;omega))) ?_
     refine ee hQ F ?_
     exact dD hn (j1 hn _ l) ⟨by simp[tgF,k0,km],rfl⟩
    ·have n1:(e.n==1)=false:=by simp[k1]
     have n0:(e.n==0)=false:=by simp[k0]
     have F:=F2 n1 n0
     skip
     refine sb [.tmp 4] (fn:=Tryz.f57) Tryz.func57 ?_
     intro Q hQ
     refine wn F ?_
     refine bw 8 0 _ (by rfl) (by decide+kernel) (by kernel_rfl) (by decide+kernel) (by decide+kernel) (by decide+kernel) ?_
     simp only[List.take_succ_cons,List.take_zero]
     refine sq F ?_
     refine wn F ?_
     rw[hg]
     refine(ci G hn _ l hn0 (by omega)).mono ?_
     rintro r h' ⟨rfl,rfl⟩
     try refine sq F ?_
     skip
     refine wk F ?_
     refine kq F (hT _ (by first|omega| (simp;omega))) ?_
     refine ee hQ F ?_
     exact dD hn (j1 hn _ l) ⟨by simp[tgF,k1,k0,km],rfl⟩
end Go.Av
namespace Go.Av
open Go Go.Proofs Go.RowKit
attribute [local irreducible] WP WPl WPix Sat
variable (G:Nat→Option (List AVal))
theorem wt(h:Heap)(s:PS):h++s.bl h.length=so (h++PS.z.bl h.length) h.length s:=by
 have:=iO h (s.bl h.length) []
 rw[List.append_nil]at this
 rw[this];unfold so
 have hz:ov (h++PS.z.bl h.length) h.length (PS.z.bl h.length)=h++PS.z.bl h.length:=by
  have:=iO h (PS.z.bl h.length) []
  rw[List.append_nil]at this;exact this.symm
 apply List.ext_getElem?
 intro p
 rw[aK (by simp),aK (by simp[PS.bl])]
 split
 ·rfl
 ·rename_i hp
  rcases Nat.lt_or_ge p h.length with h1|h1
  ·rw[List.getElem?_append_left h1,List.getElem?_append_left h1]
  ·rw[List.getElem?_append_right h1,List.getElem?_append_right h1,List.getElem?_eq_none (by simp[PS.bl]at hp ⊢;omega),List.getElem?_eq_none (by simp[PS.bl]at hp ⊢;omega)]
@[go_sem] theorem Cy(p:Nat):(AVal.hm p).cells=[.hm p]:=(rfl)
@[go_sem] theorem EZ(p:Nat):(AVal.hm p).lies=true:=(rfl)
theorem qH(h:Heap):Sat (CT G) 30 [] h (fun r h'=>r=.hp (h.length+8) 0 0 0∧h'=so (h++PS.z.bl h.length) h.length PS.z):=by
 rw[← wt]
 refine sb [.tmp 0] (fn:=Tryz.f30) Tryz.func30 ?_
 intro Q hQ
 refine wk trivial ?_
 refine ee hQ trivial ?_
 refine Fin.whole (by simp) (.hp _ _ _ _ (by simp)) ⟨rfl,?_⟩
 simp[PS.bl,PS.z,encM,PS.row]
theorem oX(es:List Ev)(hl:es.length≤1048576)(I:PS→Prop)(okF:PS→Ev→Bool)(stp:PS→Ev→PS)(hI0:I PS.z)(hI:∀s e,e∈es→I s→I (stp s e))
  (hA:∀s e,e∈es→I s→∀(n:Nat) (H:Heap),n+9≤H.length→Sat (CT G) 31 [.hp (n+8) 0 0 0,e.av] (so H n s) (fun r h'=>r=.bool (okF s e)∧h'=so H n (stp s e)))(h:Heap):
  Sat (CT G) 10 [.sl 7 (es.map Ev.av)] h (fun r h'=>r=.hp (h.length+8) 0 0 0∧h'=so (h++PS.z.bl h.length) h.length (es.foldl stp PS.z)):=by
 have hIk:∀k,I ((es.take k).foldl stp PS.z):=by
  intro k
  induction k with
  |zero=>exact hI0
  |succ k ih=>
   rw[List.take_add_one,List.foldl_append]
   cases he:es[k]? with
   |none=>exact ih
   |some e=>exact hI _ _ (List.mem_of_getElem? he) ih
 have hz9:(PS.z.bl h.length).length=9:=rfl
 generalize hH:h++PS.z.bl h.length=H0
 have hl0:h.length+9≤H0.length:=by rw[← hH];simp[hz9]
 have hN:=qH G h
 rw[hH]at hN
 refine sb [.tmp 2] (fn:=Tryz.f10) Tryz.func10 ?_
 intro Q hQ
 refine wk trivial ?_
 refine kq trivial (hN) ?_
 refine lm (fun nL tL hL=>∃(k:Nat) (j:Heap),es.length-k=nL∧so (H0++j) h.length ((es.take k).foldl stp PS.z)=hL∧tL 3=.hp (h.length+8) 0 0 0∧tL 7=.sl 7 (es.map Ev.av)∧tL 8=.int .i64 es.length∧tL 9=.int .i64 k∧k≤es.length) ((fun(k:Nat) (j:Heap)=>(es.length-k:Nat)) (0) ([])) ?_ ?_
 ·refine Wkn.refl ⟨0,[],rfl,aD,?_,?_,?_,?_,by omega⟩
  all_goals first|exact zq trivial|rfl|omega|trivial|skip
 rintro _ s2 h' ⟨k,j,rfl,rfl,e3,e7,e8,e9,hk⟩ K2 hK2
 simp only[aj,ao,Nat.reduceEqDiff, ↓reduceIte]at e3 e7 e8 e9
 have F:=F4 e3 e7 e8 e9
 refine wk F ?_
 have hn1:h.length+9≤(H0++j).length:=by simp;omega
 refine cq F (fun c1=>?_) (fun c1=>?_)<;>(try exact c1.elim)<;>(refine wk F ?_)
 ·have c2:k<es.length:=by omega
  obtain⟨e,he⟩:∃e,es[k]? =some e:=⟨es[k],List.getElem?_eq_getElem c2⟩
  have hem:=List.mem_of_getElem? he
  have F:=F3 F c2 he
  try refine sq F ?_
  refine wk F ?_
  refine kq F (hA _ e hem (hIk k) _ _ (by first|omega| (simp;omega))) ?_
  have ht:(es.take (k+1)).foldl stp PS.z=stp ((es.take k).foldl stp PS.z) e:=by rw[List.take_add_one,List.foldl_append,he];rfl
  refine hK2 _ _ _ (Wkn.refl ⟨k+1,j++[.row 62 7 0 [e.av]],rfl,by rw[ht];rfl,?_,?_,?_,?_,by omega⟩) (by omega)
  all_goals first|exact zq F|rfl|omega|trivial|skip
 ·have hk2:k=es.length:=by omega
  subst hk2
  have htk:es.take es.length=es:=List.take_length
  rw[htk]
  refine wk F ?_
  refine ee hQ F ?_
  rw[← aX hl0]
  refine Fin.upto (by rw[aF hl0];omega) ?_ (.hp _ _ _ _ (by rw[aF hl0];omega)) ⟨rfl,rfl⟩
  rw[aF hl0]
  have:=wt h (es.foldl stp PS.z)
  rw[hH]at this
  rw[← this]
  exact(KeepC.refl h _).app (PS.clo hl0 _)
end Go.Av
namespace Go.Av
open Go Go.Proofs Go.RowKit
section
variable {κ α:Type} [DecidableEq κ]
def sumM(w:α→Int):ML κ α→Int
 | []=>0
 |e::l=>w e.2.1+sumM w l
def atM(w:α→Int):Option α→Int
 |none=>0
 |some a=>w a
theorem gv(w:α→Int)(l:ML κ α)(c:Nat)(x:κ)(a:α):sumM w (upM l c x a)=sumM w l+w a-atM w (lkM l x):=by
 induction l with
 |nil=>simp[upM,sumM,lkM,atM]
 |cons e l ih=>
  simp only[upM,lkM]
  split
  ·simp only[sumM,atM];omega
  ·simp only[sumM,ih];omega
theorem nx(w:α→Int)(l:ML κ α)(x:κ):sumM w (dlM l x)=sumM w l-atM w (lkM l x):=by
 induction l with
 |nil=>simp[dlM,sumM,lkM,atM]
 |cons e l ih=>
  simp only[dlM,lkM]
  split
  ·simp only[sumM,atM];omega
  ·simp only[sumM,ih];omega
omit [DecidableEq κ] in
theorem cJ{w:α→Int}(h:∀a,0≤w a)(l:ML κ α):0≤sumM w l:=by
 induction l with
 |nil=>simp[sumM]
 |cons e l ih=>have:=h e.2.1;simp only[sumM];omega
omit [DecidableEq κ] in
theorem gw{w:α→Int}(h:∀a,w a≤1)(l:ML κ α):sumM w l≤l.length:=by
 induction l with
 |nil=>simp[sumM]
 |cons e l ih=>have:=h e.2.1;simp only[sumM,List.length_cons];omega
theorem td{w:α→Int}(h:∀a,0≤w a)(l:ML κ α)(x:κ):atM w (lkM l x)≤sumM w l:=by
 induction l with
 |nil=>simp[sumM,lkM,atM]
 |cons e l ih=>
  have h1:=h e.2.1
  have h2:=cJ h l
  simp only[lkM]
  split
  ·simp only[sumM,atM];omega
  ·simp only[sumM];omega
theorem qI{w:α→Int}(h:∀a,0≤w a){l:ML κ α}(h0:sumM w l≤0){x:κ}{a:α}(hx:lkM l x=some a):w a=0:=by
 have:=td h l x
 rw[hx]at this
 have:=h a
 simp only[atM]at *;omega
end
def inFo(id:Int)(f:Fo):Int:=if f.inn=id then 1 else 0
def inFe(id:Int)(f:Fe):Int:=if f.inn=id then 1 else 0
theorem gx(id:Int)(f:Fo):0≤inFo id f:=by unfold inFo;split<;>omega
theorem gy(id:Int)(f:Fe):0≤inFe id f:=by unfold inFe;split<;>omega
theorem ny(id:Int)(f:Fo):inFo id f≤1:=by unfold inFo;split<;>omega
theorem nz(id:Int)(f:Fe):inFe id f≤1:=by unfold inFe;split<;>omega
theorem qJ{l:ML Int Fo}:∀{k:Nat} {id:Int} {d:Nat},deepO l k id=some d→∀{k':Nat},d≤k'→deepO l k' id=some d:=by
 intro k
 induction k with
 |zero=>
  intro id d h k' hk
  rw[deepO]at h
  cases hl:lkM l id with
  |none=>
   rw[hl]at h;simp at h;subst h
   cases k' with
   |zero=>rw[deepO,hl];simp
   |succ k'=>rw[deepO,hl]
  |some f=>rw[hl]at h;simp at h
 |succ k ih=>
  intro id d h k' hk
  rw[deepO]at h
  cases hl:lkM l id with
  |none=>
   rw[hl]at h;simp at h;subst h
   cases k' with
   |zero=>rw[deepO,hl];simp
   |succ k'=>rw[deepO,hl]
  |some f=>
   rw[hl]at h
   simp only[Option.map_eq_some_iff]at h
   obtain⟨j,hj,rfl⟩:=h
   obtain⟨k'',rfl⟩:∃k'',k'=k''+1:=⟨k'-1,by omega⟩
   rw[deepO,hl]
   simp only[ih hj (k':=k'') (by omega),Option.map_some]
theorem gU{l l':ML Int Fo}(P:Int→Prop)(h:∀id,P id→lkM l' id=lkM l id)(hc:∀id f,P id→lkM l id=some f→P f.inn):∀(k:Nat) (id:Int),P id→deepO l' k id=deepO l k id:=by
 intro k
 induction k with
 |zero=>intro id hp;rw[deepO,deepO,h id hp]
 |succ k ih=>
  intro id hp
  rw[deepO,deepO,h id hp]
  cases hl:lkM l id with
  |none=>rfl
  |some f=>simp only[ih f.inn (hc id f hp hl)]
structure PS.Inv (s:PS):Prop where
 w1:WFM s.fo s.c1
 w2:WFM s.fe s.c2
 w3:WFM s.it s.c3
 w4:WFM s.se s.c4
 w7:WFM s.gu s.c7
 w8:WFM s.he s.c8
 i1:∀k f,lkM s.fo k=some f→f.id=k∧1≤k∧k≤1048576
 i2:∀k f,lkM s.fe k=some f→f.id=k∧1≤k∧k≤1048576
 i3:∀k t,lkM s.it k=some t→t.id=k∧1≤k∧k≤1048576
 i4:∀k q,lkM s.se k=some q→q.id=k∧1≤k∧k≤1048576
 u1:∀k f,lkM s.fo k=some f→f.inn=0∨(lkM s.fo f.inn).isSome=true
 u2:∀k f,lkM s.fe k=some f→f.inn=0∨(lkM s.fo f.inn).isSome=true
 u3:∀k t,lkM s.it k=some t→(lkM s.fe t.feed).isSome=true
 dp:∀id,∃d,d≤7∧deepO s.fo 7 id=some d
 hd:∀id,id≠0→(lkM s.he id).getD 0=sumM (inFo id) s.fo+sumM (inFe id) s.fe
 h0:lkM s.he 0=none
 tg:∀k t,lkM s.it k=some t→Srt t.tags∧t.tags.length≤8
 l1:s.fo.length≤64
 l2:s.fe.length≤64
 l3:s.it.length≤1024
 l4:s.se.length≤32
theorem PS.Inv.z:PS.z.Inv where
 w1:=.nil
 w2:=.nil
 w3:=.nil
 w4:=.nil
 w7:=.nil
 w8:=.nil
 i1:=fun _ _ h=>by cases h
 i2:=fun _ _ h=>by cases h
 i3:=fun _ _ h=>by cases h
 i4:=fun _ _ h=>by cases h
 u1:=fun _ _ h=>by cases h
 u2:=fun _ _ h=>by cases h
 u3:=fun _ _ h=>by cases h
 dp:=fun _=>⟨0,by omega,rfl⟩
 hd:=fun _ _=>rfl
 h0:=rfl
 tg:=fun _ _ h=>by cases h
 l1:=by simp[PS.z]
 l2:=by simp[PS.z]
 l3:=by simp[PS.z]
 l4:=by simp[PS.z]
theorem PS.Inv.few{s:PS}(h:s.Inv):s.few:=by
 intro id
 by_cases h0:id=0
 ·subst h0;rw[h.h0];simp
 ·have h1:=h.hd id h0
  have h2:=cJ (gx id) s.fo
  have h3:=cJ (gy id) s.fe
  have h4:=gw (ny id) s.fo
  have h5:=gw (nz id) s.fe
  have h6:=h.l1
  have h7:=h.l2
  omega
def heF(he:ML Int Int)(c:Nat)(id k:Int):ML Int Int:=if id=0 then he else upM he c id ((lkM he id).getD 0+k)
def chF(he:ML Int Int)(c:Nat)(id:Int):Nat:=if id=0 then c else ckM he c id
theorem cj(s:PS)(id k:Int):s.hold id k= {s with he:=heF s.he s.c8 id k,c8:=chF s.he s.c8 id}:=by
 unfold PS.hold heF chF;split<;>rfl
theorem dO(he:ML Int Int)(c:Nat)(id k x:Int):(lkM (heF he c id k) x).getD 0=(lkM he x).getD 0+(if x=id∧id≠0 then k else 0):=by
 unfold heF
 by_cases h:id=0
 ·rw[if_pos h,if_neg (by omega)];omega
 ·rw[if_neg h,ep]
  by_cases hx:x=id
  ·subst hx;rw[if_pos rfl,if_pos ⟨rfl,h⟩];rfl
  ·rw[if_neg hx,if_neg (by omega)];omega
theorem gz{he:ML Int Int}(c:Nat)(id k:Int)(h:lkM he 0=none):lkM (heF he c id k) 0=none:=by
 unfold heF
 split
 ·exact h
 ·rename_i h1;rw[ep,if_neg (fun e=>h1 e.symm)];exact h
theorem eF{he:ML Int Int}{c:Nat}(w:WFM he c)(id k:Int):WFM (heF he c id k) (chF he c id):=by
 unfold heF chF
 split
 ·exact w
 ·exact w.up _ _
theorem tf{s:PS}(h:s.Inv)(id k:Int)(hk: -1≤k∧k≤1):(s.hold id k).few:=by
 intro x
 have h1:=dO s.he s.c8 id k x
 rw[cj]
 simp only
 have h6:=h.l1
 have h7:=h.l2
 have h2:=cJ (gx x) s.fo
 have h3:=cJ (gy x) s.fe
 have h4:=gw (ny x) s.fo
 have h5:=gw (nz x) s.fe
 by_cases h0:x=0
 ·subst h0;rw[h1,h.h0];simp only[Option.getD_none];split<;>omega
 ·have:=h.hd x h0
  rw[h1];split<;>omega
def PS.dpt(s:PS)(id:Int):Nat:=(deepO s.fo 7 id).getD 0
def PS.ok(L:Leaf)(s:PS)(e:Ev):Bool:=s.fits (L.ck e) (s.dpt e.b) e
def PS.aft(s:PS)(e:Ev):PS:=s.after (tgF ((lkM s.it e.a).getD It.z).tags e.s e.n) e
def PS.step(L:Leaf)(s:PS)(e:Ev):PS:=if s.ok L e then s.aft e else s
theorem th{L:Leaf}{e:Ev}(h:L.right e=true)(hk:e.kind≠13):1≤e.a∧e.a≤1048576:=by
 have:idF e.a=true:=by
  unfold Leaf.right at h
  repeat' (split at h)
  all_goals first| (simp only[Bool.and_eq_true]at h;exact h.1)|exact h|omega| (cases h)
 simpa [idF]using this
theorem uH{l:List Bs}{t:Bs}(hs:Srt l)(ht:t ∉ l):Srt (l.take (lbF l t)++t::l.drop (lbF l t)):=by
 induction l with
 |nil=>simp[lbF,Srt]
 |cons a l ih=>
  have hs':=hs
  unfold Srt at hs
  rw[List.pairwise_cons]at hs
  rw[ip]
  split
  ·rename_i hat
   simp only[List.take_succ_cons,List.drop_succ_cons,List.cons_append]
   unfold Srt
   rw[List.pairwise_cons]
   refine⟨fun x hx=>?_,ih hs.2 (fun h=>ht (List.mem_cons_of_mem _ h))⟩
   rw[List.mem_append,List.mem_cons]at hx
   rcases hx with h|rfl|h
   ·exact hs.1 x (List.mem_of_mem_take h)
   ·exact hat
   ·exact hs.1 x (List.mem_of_mem_drop h)
  ·rename_i hat
   simp only[List.take_zero,List.drop_zero,List.nil_append]
   have hat':Op.bytesLess a t=false:=by simpa using hat
   have hta:Op.bytesLess t a=true:=by
    cases h:Op.bytesLess t a with
    |true=>rfl
    |false=>exact(ht (by rw[qC t a h hat'];exact List.mem_cons_self ..)).elim
   unfold Srt
   rw[List.pairwise_cons]
   refine⟨fun x hx=>?_,hs'⟩
   rcases List.mem_cons.1 hx with rfl|h
   ·exact hta
   ·exact io hta (hs.1 x h)
theorem uI{l:List Bs}(hs:Srt l)(i:Nat):Srt (l.take i++l.drop (i+1)):=by
 rw[← List.eraseIdx_eq_take_drop_succ]
 exact hs.sublist (List.eraseIdx_sublist l i)
theorem uJ{l:List Bs}(hs:Srt l)(t:Bs)(n:Int):Srt (tgF l t n):=by
 unfold tgF
 split
 ·rename_i h;exact uH hs h.2
 ·split
  ·exact uI hs _
  ·exact hs
theorem uK{l:List Bs}(t:Bs)(n:Int)(hl:l.length≤8)(h:n=0∨t∈l∨l.length<8):(tgF l t n).length≤8:=by
 have:=lG l t
 unfold tgF
 split
 ·rename_i h1
  simp only[List.length_append,List.length_cons,List.length_take,List.length_drop]
  rcases h with h|h|h
  ·omega
  ·exact(h1.2 h).elim
  ·omega
 ·split
  ·simp only[List.length_append,List.length_take,List.length_drop];omega
  ·exact hl
end Go.Av
namespace Go.Av
open Go Go.Proofs Go.RowKit
variable {s:PS} {e:Ev}
theorem nB{κ α:Type}[DecidableEq κ]{l:ML κ α}{x:κ}(h:(lkM l x).isSome=false):lkM l x=none:=by
 cases hl:lkM l x with
 |none=>rfl
 |some a=>rw[hl]at h;cases h
theorem cK{κ α:Type}[DecidableEq κ]{l:ML κ α}{x:κ}(h:(lkM l x).isSome=true):∃a,lkM l x=some a:=Option.isSome_iff_exists.1 h
theorem dE{κ α:Type}[DecidableEq κ]{l:ML κ α}(c:Nat)(x:κ)(a:α){y:κ}(h:(lkM l y).isSome=true):(lkM (upM l c x a) y).isSome=true:=by
 rw[ep];split
 ·rfl
 ·exact h
theorem aW{κ α:Type}[DecidableEq κ]{l:ML κ α}{c:Nat}{x y:κ}{a b:α}(h:lkM (upM l c x a) y=some b):(y=x∧b=a)∨(y≠x∧lkM l y=some b):=by
 rw[ep]at h
 split at h
 ·rename_i hy;cases h;exact .inl ⟨hy,rfl⟩
 ·rename_i hy;exact .inr ⟨hy,h⟩
theorem fQ{κ α:Type}[DecidableEq κ]{l:ML κ α}(hn:(l.map (·.1)).Nodup){x y:κ}{b:α}(h:lkM (dlM l x) y=some b):y≠x∧lkM l y=some b:=by
 rw[fE hn]at h
 split at h
 ·cases h
 ·rename_i hy;exact⟨hy,h⟩
theorem gA{α:Type}{l:ML Int α}(hn:(l.map (·.1)).Nodup){p:Int×α×Nat→Bool}{y:Int}{b:α}(h:lkM (l.filter p) y=some b):lkM l y=some b:=by
 obtain⟨n,hm⟩:=g9 h
 exact cr hn (List.mem_filter.1 hm).1
theorem dP{κ α:Type}[DecidableEq κ](l:ML κ α)(c:Nat)(x:κ)(a:α)(m:Nat)(h:l.length<m∨((lkM l x).isSome=true∧l.length≤m)):(upM l c x a).length≤m:=by
 rw[uc];split
 ·omega
 ·rename_i h1;rcases h with h|h
  ·omega
  ·exact(h1 h.1).elim
theorem lI{κ α:Type}[DecidableEq κ](l:ML κ α)(x:κ)(m:Nat)(h:l.length≤m):(dlM l x).length≤m:=Nat.le_trans (ga l x).length_le h
theorem PS.Inv.deep(h:s.Inv)(id:Int):deepO s.fo 7 id=some (s.dpt id)∧s.dpt id≤7:=by
 obtain⟨d,h1,h2⟩:=h.dp id
 unfold PS.dpt;rw[h2];exact⟨rfl,h1⟩
theorem fS(h:s.within e.b=true):e.b=0∨(lkM s.fo e.b).isSome=true:=by
 unfold PS.within at h;simpa using h
theorem PS.Inv.mkFo(h:s.Inv)(ha:1≤e.a∧e.a≤1048576)(hn:(lkM s.fo e.a).isSome=false)(hl:s.fo.length<64)(hw:s.within e.b=true)(hd:s.dpt e.b<7):
  PS.Inv ((((s.upFo e.a ⟨e.a,e.b,e.s⟩).upNm (e.b,e.s) e.a).hold e.b 1).raise 0 e.a):=by
 rw[cj]
 have hb:=fS hw
 have hnn:=nB hn
 have hba:e.b≠e.a:=by
  rcases hb with hb|hb
  ·omega
  ·intro q;rw[q,hn]at hb;cases hb
 have hcg:∀k id,id≠e.a→deepO (upM s.fo s.c1 e.a ⟨e.a,e.b,e.s⟩) k id=deepO s.fo k id:=by
  refine gU (fun id=>id≠e.a) (fun id hi=>by rw[ep,if_neg hi]) (fun id f hi hf=>?_)
  rcases h.u1 id f hf with h1|h1
  ·omega
  ·intro q;rw[q,hn]at h1;cases h1
 exact {h with
  w1:=h.w1.up _ _
  w8:=eF h.w8 _ _
  i1:=fun k f hk=>by
   rcases aW (l:=s.fo) hk with⟨rfl,rfl⟩| ⟨_,hk⟩
   ·exact⟨rfl,ha⟩
   ·exact h.i1 k f hk
  u1:=fun k f hk=>by
   rcases aW (l:=s.fo) hk with⟨rfl,rfl⟩| ⟨_,hk⟩
   ·exact hb.imp id (dE _ _ _)
   ·exact(h.u1 k f hk).imp id (dE _ _ _)
  u2:=fun k f hk=>(h.u2 k f hk).imp id (dE _ _ _)
  dp:=fun id=>by
   show ∃d,d≤7∧deepO (upM s.fo s.c1 e.a ⟨e.a,e.b,e.s⟩) 7 id=some d
   by_cases hi:id=e.a
   ·subst hi
    obtain⟨h1,h2⟩:=h.deep e.b
    refine⟨s.dpt e.b+1,by omega,?_⟩
    rw[deepO,ep,if_pos rfl]
    simp only[hcg 6 e.b hba,qJ h1 (k':=6) (by omega),Option.map_some]
   ·obtain⟨d,h1,h2⟩:=h.dp id
    exact⟨d,h1,by rw[hcg 7 id hi,h2]⟩
  hd:=fun id hi=>by
   show(lkM (heF s.he s.c8 e.b 1) id).getD 0=sumM (inFo id) (upM s.fo s.c1 e.a ⟨e.a,e.b,e.s⟩)+sumM (inFe id) s.fe
   rw[dO,gv,hnn,h.hd id hi]
   simp only[atM,inFo]
   by_cases hx:e.b=id
   ·subst hx;simp[hi];omega
   ·rw[if_neg (by omega),if_neg hx];omega
  h0:=gz _ _ _ h.h0
  l1:=dP _ _ _ _ _ (.inl hl)}
theorem PS.Inv.mkFe(h:s.Inv)(ha:1≤e.a∧e.a≤1048576)(hn:(lkM s.fe e.a).isSome=false)(hl:s.fe.length<64)(hw:s.within e.b=true):
  PS.Inv ((((s.upFe e.a ⟨e.a,e.b,e.s,e.t⟩).upPl e.s e.a).hold e.b 1).raise 1 e.a):=by
 rw[cj]
 have hb:=fS hw
 have hnn:=nB hn
 exact {h with
  w2:=h.w2.up _ _
  w8:=eF h.w8 _ _
  i2:=fun k f hk=>by
   rcases aW (l:=s.fe) hk with⟨rfl,rfl⟩| ⟨_,hk⟩
   ·exact⟨rfl,ha⟩
   ·exact h.i2 k f hk
  u2:=fun k f hk=>by
   rcases aW (l:=s.fe) hk with⟨rfl,rfl⟩| ⟨_,hk⟩
   ·exact hb
   ·exact h.u2 k f hk
  u3:=fun k f hk=>dE _ _ _ (h.u3 k f hk)
  hd:=fun id hi=>by
   show(lkM (heF s.he s.c8 e.b 1) id).getD 0=sumM (inFo id) s.fo+sumM (inFe id) (upM s.fe s.c2 e.a ⟨e.a,e.b,e.s,e.t⟩)
   rw[dO,gv,hnn,h.hd id hi]
   simp only[atM,inFe]
   by_cases hx:e.b=id
   ·subst hx;simp[hi];omega
   ·rw[if_neg (by omega),if_neg hx];omega
  h0:=gz _ _ _ h.h0
  l2:=dP _ _ _ _ _ (.inl hl)}
theorem PS.Inv.mkIt(h:s.Inv)(ha:1≤e.a∧e.a≤1048576)(hl:s.it.length<1024)(hw:(lkM s.fe e.b).isSome=true):
  PS.Inv (((s.upIt e.a ⟨e.a,e.b,e.n,e.s,e.t,e.u,false,false,[]⟩).upGu (e.b,e.s) e.a).raise 2 e.a):=
 {h with
  w3:=h.w3.up _ _
  w7:=h.w7.up _ _
  i3:=fun k f hk=>by
   rcases aW (l:=s.it) hk with⟨rfl,rfl⟩| ⟨_,hk⟩
   ·exact⟨rfl,ha⟩
   ·exact h.i3 k f hk
  u3:=fun k f hk=>by
   rcases aW (l:=s.it) hk with⟨rfl,rfl⟩| ⟨_,hk⟩
   ·exact hw
   ·exact h.u3 k f hk
  tg:=fun k f hk=>by
   rcases aW (l:=s.it) hk with⟨rfl,rfl⟩| ⟨_,hk⟩
   ·exact⟨by simp[Srt],by simp⟩
   ·exact h.tg k f hk
  l3:=dP _ _ _ _ _ (.inl hl)}
theorem PS.Inv.mkSe(h:s.Inv)(ha:1≤e.a∧e.a≤1048576)(hl:s.se.length<32):PS.Inv ((s.upSe e.a ⟨e.a,e.s,e.t⟩).raise 3 e.a):=
 {h with
  w4:=h.w4.up _ _
  i4:=fun k f hk=>by
   rcases aW (l:=s.se) hk with⟨rfl,rfl⟩| ⟨_,hk⟩
   ·exact⟨rfl,ha⟩
   ·exact h.i4 k f hk
  l4:=dP _ _ _ _ _ (.inl hl)}
theorem PS.Inv.reIt(h:s.Inv){k:Int}{t:It}(t':It)(hk:lkM s.it k=some t)(h1:t'.id=t.id)(h2:t'.feed=t.feed)(h3:Srt t'.tags∧t'.tags.length≤8):PS.Inv (s.upIt k t'):=
 {h with
  w3:=h.w3.up _ _
  i3:=fun j f hj=>by
   rcases aW (l:=s.it) hj with⟨rfl,rfl⟩| ⟨_,hj⟩
   ·rw[h1];exact h.i3 _ _ hk
   ·exact h.i3 j f hj
  u3:=fun j f hj=>by
   rcases aW (l:=s.it) hj with⟨rfl,rfl⟩| ⟨_,hj⟩
   ·rw[h2];exact h.u3 _ _ hk
   ·exact h.u3 j f hj
  tg:=fun j f hj=>by
   rcases aW (l:=s.it) hj with⟨rfl,rfl⟩| ⟨_,hj⟩
   ·exact h3
   ·exact h.tg j f hj
  l3:=dP _ _ _ _ _ (.inr ⟨by rw[hk];rfl,h.l3⟩)}
theorem PS.Inv.unFo(h:s.Inv){k:Int}{f:Fo}(hk:lkM s.fo k=some f)(h0:(lkM s.he k).getD 0=0):PS.Inv (((s.dlNm (f.inn,f.name)).dlFo k).hold f.inn (-1)):=by
 rw[cj]
 have hk1:=(h.i1 _ _ hk).2
 have hs:=h.hd k (by omega)
 have n1:=cJ (gx k) s.fo
 have n2:=cJ (gy k) s.fe
 have hA:∀j g,lkM s.fo j=some g→g.inn≠k:=fun j g hg q=>by
  have:=qI (gx k) (l:=s.fo) (by omega) hg
  rw[inFo,if_pos q]at this;omega
 have hB:∀j g,lkM s.fe j=some g→g.inn≠k:=fun j g hg q=>by
  have:=qI (gy k) (l:=s.fe) (by omega) hg
  rw[inFe,if_pos q]at this;omega
 have hcg:∀m id,id≠k→deepO (dlM s.fo k) m id=deepO s.fo m id:=
  gU (fun id=>id≠k) (fun id hi=>by rw[fE h.w1.keys,if_neg hi]) (fun id g _ hg=>hA id g hg)
 have hst:∀x,x≠k→(lkM s.fo x).isSome=true→(lkM (dlM s.fo k) x).isSome=true:=fun x hx hs=>by rw[fE h.w1.keys,if_neg hx];exact hs
 exact {h with
  w1:=h.w1.dl _
  w8:=eF h.w8 _ _
  i1:=fun j g hj=>h.i1 j g (fQ h.w1.keys hj).2
  u1:=fun j g hj=>by
   obtain⟨_,hj⟩:=fQ h.w1.keys hj
   exact(h.u1 j g hj).imp id (hst _ (hA j g hj))
  u2:=fun j g hj=>(h.u2 j g hj).imp id (hst _ (hB j g hj))
  dp:=fun id=>by
   show ∃d,d≤7∧deepO (dlM s.fo k) 7 id=some d
   by_cases hi:id=k
   ·subst hi;exact⟨0,by omega,by rw[deepO,fE h.w1.keys,if_pos rfl]⟩
   ·rw[hcg 7 id hi];exact h.dp id
  hd:=fun id hi=>by
   show(lkM (heF s.he s.c8 f.inn (-1)) id).getD 0=sumM (inFo id) (dlM s.fo k)+sumM (inFe id) s.fe
   rw[dO,nx,hk,h.hd id hi]
   simp only[atM,inFo]
   by_cases hx:f.inn=id
   ·subst hx;simp[hi];omega
   ·rw[if_neg (by omega),if_neg hx];omega
  h0:=gz _ _ _ h.h0
  l1:=lI _ _ _ h.l1}
theorem PS.Inv.reTi(h:s.Inv){k:Int}{f:Fe}(t:Bs)(hk:lkM s.fe k=some f):PS.Inv (s.upFe k {f with title:=t}):=
 {h with
  w2:=h.w2.up _ _
  i2:=fun j g hj=>by
   rcases aW (l:=s.fe) hj with⟨rfl,rfl⟩| ⟨_,hj⟩
   ·have:=h.i2 _ _ hk;exact this
   ·exact h.i2 j g hj
  u2:=fun j g hj=>by
   rcases aW (l:=s.fe) hj with⟨rfl,rfl⟩| ⟨_,hj⟩
   ·have:=h.u2 _ _ hk;exact this
   ·exact h.u2 j g hj
  u3:=fun j g hj=>dE _ _ _ (h.u3 j g hj)
  hd:=fun id hi=>by
   show(lkM s.he id).getD 0=sumM (inFo id) s.fo+sumM (inFe id) (upM s.fe s.c2 k {f with title:=t})
   rw[gv,hk,h.hd id hi]
   simp only[atM,inFe];omega
  l2:=dP _ _ _ _ _ (.inr ⟨by rw[hk];rfl,h.l2⟩)}
theorem PS.Inv.reIn(h:s.Inv){k b:Int}{f:Fe}(hk:lkM s.fe k=some f)(hb:b=0∨(lkM s.fo b).isSome=true):PS.Inv (((s.hold f.inn (-1)).hold b 1).upFe k {f with inn:=b}):=by
 rw[cj s,cj]
 exact {h with
  w2:=h.w2.up _ _
  w8:=eF (eF h.w8 _ _) _ _
  i2:=fun j g hj=>by
   rcases aW (l:=s.fe) hj with⟨rfl,rfl⟩| ⟨_,hj⟩
   ·have:=h.i2 _ _ hk;exact this
   ·exact h.i2 j g hj
  u2:=fun j g hj=>by
   rcases aW (l:=s.fe) hj with⟨rfl,rfl⟩| ⟨_,hj⟩
   ·exact hb
   ·exact h.u2 j g hj
  u3:=fun j g hj=>dE _ _ _ (h.u3 j g hj)
  hd:=fun id hi=>by
   show(lkM (heF (heF s.he s.c8 f.inn (-1)) (chF s.he s.c8 f.inn) b 1) id).getD 0=sumM (inFo id) s.fo+sumM (inFe id) (upM s.fe s.c2 k {f with inn:=b})
   rw[dO,dO,gv,hk,h.hd id hi]
   simp only[atM,inFe]
   by_cases h1:f.inn=id
   ·by_cases h2:b=id
    ·rw[if_pos ⟨h1.symm,by omega⟩,if_pos ⟨h2.symm,by omega⟩,if_pos h1,if_pos h2];omega
    ·rw[if_pos ⟨h1.symm,by omega⟩,if_neg (by omega),if_pos h1,if_neg h2];omega
   ·by_cases h2:b=id
    ·rw[if_neg (by omega),if_pos ⟨h2.symm,by omega⟩,if_neg h1,if_pos h2];omega
    ·rw[if_neg (by omega),if_neg (by omega),if_neg h1,if_neg h2];omega
  h0:=gz _ _ _ (gz _ _ _ h.h0)
  l2:=dP _ _ _ _ _ (.inr ⟨by rw[hk];rfl,h.l2⟩)}
theorem PS.Inv.unFe(h:s.Inv){k:Int}{f:Fe}(hk:lkM s.fe k=some f):PS.Inv (s.unfeed f):=by
 have hfk:=(h.i2 _ _ hk).1
 unfold PS.unfeed
 rw[cj]
 exact {h with
  w2:=h.w2.dl _
  w3:=h.w3.filter _
  w7:=h.w7.filter _
  w8:=eF h.w8 _ _
  i2:=fun j g hj=>h.i2 j g (fQ h.w2.keys hj).2
  i3:=fun j t hj=>h.i3 j t (gA h.w3.keys hj)
  u2:=fun j g hj=>h.u2 j g (fQ h.w2.keys hj).2
  u3:=fun j t hj=>by
   have hj':lkM (itF s.it f.id) j=some t:=hj
   show(lkM (dlM s.fe f.id) t.feed).isSome=true
   have hne:t.feed≠f.id:=by
    obtain⟨n,hm⟩:=g9 hj'
    have:=(List.mem_filter.1 hm).2
    simpa using this
   rw[fE h.w2.keys,if_neg hne]
   exact h.u3 j t (gA h.w3.keys hj')
  hd:=fun id hi=>by
   show(lkM (heF s.he s.c8 f.inn (-1)) id).getD 0=sumM (inFo id) s.fo+sumM (inFe id) (dlM s.fe f.id)
   rw[dO,nx,hfk,hk,h.hd id hi]
   simp only[atM,inFe]
   by_cases hx:f.inn=id
   ·subst hx;simp[hi];omega
   ·rw[if_neg (by omega),if_neg hx];omega
  h0:=gz _ _ _ h.h0
  tg:=fun j t hj=>h.tg j t (gA h.w3.keys hj)
  l2:=lI _ _ _ h.l2
  l3:=Nat.le_trans (List.length_filter_le _ _) h.l3}
theorem PS.Inv.unSe(h:s.Inv)(k:Int):PS.Inv (s.dlSe k):=
 {h with
  w4:=h.w4.dl _
  i4:=fun j g hj=>h.i4 j g (fQ h.w4.keys hj).2
  l4:=lI _ _ _ h.l4}
theorem PS.Inv.clk(h:s.Inv)(k:Int):PS.Inv {s with clock:=k}:= {h with}
theorem PS.Inv.step{L:Leaf}(h:s.Inv)(e:Ev):(s.step L e).Inv:=by
 unfold PS.step
 split
 ·rename_i hok
  unfold PS.ok PS.fits at hok
  rw[Bool.and_eq_true]at hok
  obtain⟨hck,hf⟩:=hok
  have hr:L.right e=true:=by unfold Leaf.ck at hck;simp only[Bool.and_eq_true]at hck;exact hck.1
  have ha:e.kind≠13→1≤e.a∧e.a≤1048576:=fun hk=>th hr hk
  unfold PS.aft PS.after
  by_cases k1:e.kind=1
  ·rw[if_pos k1]at hf
   simp only[Bool.and_eq_true,Bool.not_eq_true',decide_eq_true_eq,beq_iff_eq]at hf
   rw[if_neg (by omega),if_neg (by omega),if_neg (by omega),if_neg (by omega),if_neg (by omega),if_neg (by omega),if_neg (by omega),if_neg (by omega),if_neg (by omega),PS.make,if_pos k1]
   exact h.mkFo (ha (by omega)) hf.1.1.1.1 hf.1.1.1.2 hf.1.1.2 hf.1.2
  rw[if_neg k1]at hf
  by_cases k2:e.kind=2
  ·rw[if_pos k2]at hf ⊢
   simp only[Bool.and_eq_true,beq_iff_eq]at hf
   obtain⟨f,hfo⟩:=cK hf.1
   rw[hfo]
   exact h.unFo hfo hf.2
  rw[if_neg k2]at hf ⊢
  by_cases k3:e.kind=3
  ·rw[if_pos k3]at hf
   simp only[Bool.and_eq_true,Bool.not_eq_true',decide_eq_true_eq,beq_iff_eq]at hf
   rw[if_neg (by omega),if_neg (by omega),if_neg (by omega),if_neg (by omega),if_neg (by omega),if_neg (by omega),if_neg (by omega),if_neg (by omega),PS.make,if_neg (by omega),if_pos k3]
   exact h.mkFe (ha (by omega)) hf.1.1.1 hf.1.1.2 hf.1.2
  rw[if_neg k3]at hf
  by_cases k4:e.kind=4
  ·rw[if_pos (.inl k4)]at hf
   rw[if_pos k4]
   obtain⟨f,hfo⟩:=cK hf
   rw[hfo]
   exact h.unFe hfo
  rw[if_neg k4]
  by_cases k5:e.kind=5
  ·rw[if_pos (.inr k5)]at hf
   rw[if_pos k5]
   obtain⟨f,hfo⟩:=cK hf
   rw[hfo]
   exact h.reTi _ hfo
  rw[if_neg (by omega)]at hf
  rw[if_neg k5]
  by_cases k6:e.kind=6
  ·rw[if_pos k6]at hf ⊢
   simp only[Bool.and_eq_true]at hf
   obtain⟨f,hfo⟩:=cK hf.1
   rw[hfo]
   exact h.reIn hfo (fS hf.2)
  rw[if_neg k6]at hf ⊢
  by_cases k7:e.kind=7
  ·rw[if_pos k7]at hf
   simp only[Bool.and_eq_true,Bool.not_eq_true',decide_eq_true_eq,beq_iff_eq]at hf
   rw[if_neg (by omega),if_neg (by omega),if_neg (by omega),if_neg (by omega),if_neg (by omega),PS.make,if_neg (by omega),if_neg (by omega),if_pos k7]
   exact h.mkIt (ha (by omega)) hf.1.1.2 hf.1.2
  rw[if_neg k7]at hf
  by_cases k8:e.kind=8
  ·rw[if_pos (.inl k8)]at hf
   rw[if_pos k8]
   obtain⟨f,hfo⟩:=cK hf
   rw[hfo]
   have htg:=h.tg _ _ hfo
   exact h.reIt _ hfo rfl rfl htg
  rw[if_neg k8]
  by_cases k9:e.kind=9
  ·rw[if_pos (.inr k9)]at hf
   rw[if_pos k9]
   obtain⟨f,hfo⟩:=cK hf
   rw[hfo]
   have htg:=h.tg _ _ hfo
   exact h.reIt _ hfo rfl rfl htg
  rw[if_neg (by omega)]at hf
  rw[if_neg k9]
  by_cases k10:e.kind=10
  ·rw[if_pos k10]at hf ⊢
   simp only[Bool.and_eq_true,Bool.or_eq_true,decide_eq_true_eq]at hf
   obtain⟨f,hfo⟩:=cK hf.1
   rw[hfo]at hf ⊢
   simp only[Option.getD_some]at hf ⊢
   have htg:=h.tg _ _ hfo
   exact h.reIt _ hfo rfl rfl ⟨uJ htg.1 _ _,uK _ _ htg.2 (by rcases hf.2 with(h1|h1)|h1<;>simp[h1])⟩
  rw[if_neg k10]at hf ⊢
  by_cases k11:e.kind=11
  ·rw[if_pos k11]at hf
   simp only[Bool.and_eq_true,Bool.not_eq_true',decide_eq_true_eq]at hf
   rw[if_neg (by omega),if_neg (by omega),PS.make,if_neg (by omega),if_neg (by omega),if_neg (by omega),if_pos k11]
   exact h.mkSe (ha (by omega)) hf.2
  rw[if_neg k11]at hf
  by_cases k12:e.kind=12
  ·rw[if_pos k12];exact h.unSe _
  rw[if_neg k12]
  by_cases k13:e.kind=13
  ·rw[if_pos k13];exact h.clk _
  ·exfalso
   unfold Leaf.right at hr
   rw[if_neg k1,if_neg (by omega),if_neg k3,if_neg k5,if_neg k6,if_neg k7,if_neg (by omega),if_neg k10,if_neg k11,if_neg k13]at hr
   cases hr
 ·exact h
theorem PS.Inv.fold{L:Leaf}(h:s.Inv)(l:List Ev):(l.foldl (PS.step L) s).Inv:=by
 induction l generalizing s with
 |nil=>exact h
 |cons e l ih=>exact ih (h.step e)
theorem tj{α:Type}{z:α}{l:ML Int α}{a:α}(h:a∈valsM z l):∃k,lkM l k=some a:=by
 unfold valsM at h
 obtain⟨k,hk,rfl⟩:=List.mem_map.1 h
 have hk2:k∈l.map (·.1):=(List.mergeSort_perm _ _).mem_iff.1 hk
 refine⟨k,?_⟩
 cases hl:lkM l k with
 |none=>
  have:(lkM l k).isSome=false:=by rw[hl];rfl
  exact(jp this hk2).elim
 |some a=>rfl
theorem j3{α:Type}{l:ML Int α}{c:Nat}(w:WFM l c)(h:∀k a,lkM l k=some a→1≤k∧k≤1048576):∀e∈l,inI e.1:=fun e he=>by
 have:=h e.1 e.2.1 (cr w.keys (b:=e.2.2) (by exact he))
 unfold inI;omega
theorem PS.Inv.toOk(h:s.Inv):s.Ok where
 w1:=h.w1
 w2:=h.w2
 w3:=h.w3
 w4:=h.w4
 b1:=j3 h.w1 fun k f hk=>(h.i1 k f hk).2
 b2:=j3 h.w2 fun k f hk=>(h.i2 k f hk).2
 b3:=j3 h.w3 fun k f hk=>(h.i3 k f hk).2
 b4:=j3 h.w4 fun k f hk=>(h.i4 k f hk).2
 l1:=Nat.le_trans h.l1 (by omega)
 l2:=Nat.le_trans h.l2 (by omega)
 l3:=Nat.le_trans h.l3 (by omega)
 l4:=Nat.le_trans h.l4 (by omega)
 tg:=fun t ht=>by
  obtain⟨k,hk⟩:=tj ht
  exact Nat.le_trans (h.tg k t hk).2 (by omega)
theorem PS.Inv.tags(h:s.Inv)(id:Int):Srt ((lkM s.it id).getD It.z).tags∧((lkM s.it id).getD It.z).tags.length≤8:=by
 cases hl:lkM s.it id with
 |none=>exact⟨by simp[It.z,Srt],by simp[It.z]⟩
 |some t=>exact h.tg id t hl
end Go.Av
namespace Go.Av
open Go Go.Proofs Go.RowKit
attribute [local irreducible] WP WPl WPix Sat
variable (G:Nat→Option (List AVal))
end Go.Av
namespace Go.Av
open Go Go.Proofs Go.RowKit
attribute [local irreducible] WP WPl WPix Sat
def CS.drop(d:CS)(k:Int)(t:It):CS:= {d.count (d.chn t.feed) t (negT (oneT t))with it:=dlM d.it k}
variable (G:Nat→Option (List AVal))
def CS.less(d:CS)(feed:Int):CS:= {d with fe:=dlM d.fe feed,inn:=dlM d.inn feed}
end Go.Av
namespace Go.Av
open Go Go.Proofs Go.RowKit
attribute [local irreducible] WP WPl WPix Sat
variable (G:Nat→Option (List AVal))
def CS.of(c:CS)(kind id:Int)(g:Bs):T2:=
 if kind=1 then c.al else if kind=2 then(lkM c.fo id).getD (0,0)else if kind=3 then(lkM c.fe id).getD (0,0)else if kind=4 then(lkM c.tg g).getD (0,0)else if kind=5 then c.st else(0,0)
end Go.Av
namespace Go.Av
open Go Go.Proofs Go.RowKit
attribute [local irreducible] WP WPl WPix Sat
section
variable {C:Ctx} {ops:Array Oper} {t:Env} {h:Heap} {dst:Option Nat} {ty:TypeId} {pos:String} {aft:Array Edge} {T:TypeId}
end
structure Ct where
 kind:Int
 id:Int
 tag:Bs
 all:Int
 un:Int
def Ct.av(x:Ct):AVal:=.agg [.int .i64 x.kind,.int .i64 x.id,.str x.tag,.int .i64 x.all,.int .i64 x.un]
def ctI(kind:Int)(l:ML Int T2)(id:Int):Ct:=⟨kind,id,[],((lkM l id).getD (0,0)).1,((lkM l id).getD (0,0)).2⟩
def toldI(kind:Int)(l:ML Int T2):List Ct:=(sortI (l.map (·.1))).map (ctI kind l)
def ctS(l:ML Bs T2)(g:Bs):Ct:=⟨4,0,g,((lkM l g).getD (0,0)).1,((lkM l g).getD (0,0)).2⟩
def toldS(l:ML Bs T2):List Ct:=(sortB (l.map (·.1))).map (ctS l)
def CS.tell(c:CS):List Ct:=⟨1,0,[],c.al.1,c.al.2⟩::(toldI 2 c.fo++toldI 3 c.fe++toldS c.tg)++[⟨5,0,[],c.st.1,c.st.2⟩]
variable (G:Nat→Option (List AVal))
end Go.Av
namespace Go.Av
open Go Go.Proofs Go.RowKit
attribute [local irreducible] WP WPl WPix Sat
variable (G:Nat→Option (List AVal))
end Go.Av
namespace Go.Av
open Go Go.Proofs Go.RowKit
variable {c d:CS} {s:PS} {e:Ev}
end Go.Av
namespace Go.Av
open Go Go.Proofs Go.RowKit
attribute [local irreducible] WP WPl WPix Sat
variable (G:Nat→Option (List AVal))
def CS.mkFo(c:CS)(f:Fo):CS:= {c with fo:=upM c.fo c.c1 f.id (0,0),c1:=ckM c.fo c.c1 f.id,ab:=upM c.ab c.c6 f.id f.inn,c6:=ckM c.ab c.c6 f.id}
def CS.mkFe(c:CS)(f:Fe):CS:= {c with fe:=upM c.fe c.c2 f.id (0,0),c2:=ckM c.fe c.c2 f.id,inn:=upM c.inn c.c5 f.id f.inn,c5:=ckM c.inn c.c5 f.id}
end Go.Av
namespace Go.Av
open Go Go.Proofs Go.RowKit
variable {c d:CS} {s:PS} {e:Ev}
theorem tv{α:Type}{z:α}{l:ML Int α}{k:Int}{a:α}(h:lkM l k=some a):a∈valsM z l:=by
 unfold valsM
 refine List.mem_map.2 ⟨k,?_,by rw[h];rfl⟩
 refine(List.mergeSort_perm _ _).mem_iff.2 ?_
 obtain⟨n,hn⟩:=g9 h
 exact List.mem_map.2 ⟨_,hn,rfl⟩
theorem tw{α:Type}{z:α}{l:ML Int α}{c:Nat}(w:WFM l c)(idf:α→Int)(hid:∀k a,lkM l k=some a→idf a=k):(valsM z l).map idf=sortI (l.map (·.1)):=by
 unfold valsM
 rw[List.map_map]
 have:∀k∈sortI (l.map (·.1)),(idf ∘ fun k=>(lkM l k).getD z) k=k:=fun k hk=>by
  have hk2:k∈l.map (·.1):=(List.mergeSort_perm _ _).mem_iff.1 hk
  obtain⟨x,hx,rfl⟩:=List.mem_map.1 hk2
  have:=cr w.keys (b:=x.2.2) (a:=x.2.1) (x:=x.1) hx
  simp only[Function.comp,this,Option.getD_some]
  exact hid _ _ this
 rw[List.map_congr_left this,List.map_id']
theorem mO{l:List Int}(h:l.Nodup):(sortI l).Nodup:=(List.mergeSort_perm l _).nodup_iff.2 h
theorem eY{α:Type}{z:α}(l:ML Int α):(valsM z l).length=l.length:=by unfold valsM;rw[List.length_map,ce,List.length_map]
end Go.Av
