/- The document's answers for texts of runes: the clean text. -/
import Derived.Test.YtmfhelaoeaifeaaGreatDoorMlKa
set_option linter.unusedSimpArgs false
set_option linter.unusedVariables false
set_option linter.unusedSectionVars false
set_option linter.unnecessarySimpa false
set_option maxRecDepth 100000
set_option maxHeartbeats 16000000
namespace Go.Av
open Go Go.Proofs Go.RowKit
theorem xd(G:Nat→Option (List AVal)):(CT G).P.follows .mixedOrders=true:=by kernel_rfl
theorem lF{C:Ctx}{t:Env}{h:Heap}{id:Nat}{l:List Oper}{Q:Exit→Env→Heap→Prop}(hok:preOkG false l.toArray l.length=true)(hm:C.P.follows .mixedOrders=true)
  (hh:WPp C l.toArray l t h fun t'=>Q .normal t' h):WP C (.region id l.toArray true) Q t h:=by
 have D:=eA hok
 obtain⟨V,hv,hK⟩:=bE _ _ hh
 have htk:l.toArray.toList.take l.length=l:=by simp
 have main:∀n,WPix C l.toArray Q (Region.linearise .any l.toArray n) t h:=fun n=>by
  unfold Region.linearise
  refine cE D .any D.less (by simp) (V:=V) (t0:=t) (fun _=>True) (fun i o hi _=>by rw[htk]at hi ⊢;exact hv i o hi) (fun n=>?_) _ _ _ _ (by simp) ?_ (fun j oj hj hl=>?_) (fun j hj hl=>?_) (fun _ _ _=>trivial) (Ag.start _ _ _ _ fun j hj=>?_)
  ·rw[htk]
   have e1:l.toArray.size-l.length=0:=by simp
   rw[e1]
   exact Rest.nil hK .any n
  ·unfold left
   have:(List.range l.toArray.size).filter (fun i=> !(Array.replicate l.toArray.size false).getD i true)=List.range l.toArray.size:=by
    rw[List.filter_eq_self]
    intro i hi
    have:=List.mem_range.1 hi
    simp at this ⊢
    simp[this]
   rw[this,List.length_range]
  ·have h8:=(Array.getElem?_eq_some_iff.1 hj).1
   simp at h8 hl
   simp[h8]at hl
  ·simp at hj hl
   simp[hj]at hl
  ·have:j<l.length:=by omega
   simp[this]
 show ∀tp,WPix C l.toArray Q (Region.schedule (C.P.follows .mixedOrders) l.toArray tp) t h
 intro tp
 unfold Region.schedule
 rw[hm]
 simp only[Bool.true_or,if_true]
 exact main _
end Go.Av
namespace Go.Av
open Go Go.Proofs Go.RowKit
theorem lG:∀t:Bs,Op.bytesLess t t=false
 | []=>rfl
 |a::t=>by simp[Op.bytesLess,lG t]
theorem ix:∀{a b c:Bs},Op.bytesLess a b=true→Op.bytesLess b c=true→Op.bytesLess a c=true
 |_,_,[],_,h=>by cases h2:(‹Bs› :Bs)<;>simp[Op.bytesLess]at h
 | [],_,_::_,_,_=>rfl
 |_::_,[],_::_,h,_=>by simp[Op.bytesLess]at h
 |x::a,y::b,z::c,h,k=>by
  simp only[Op.bytesLess,Bool.or_eq_true,decide_eq_true_eq,Bool.and_eq_true,beq_iff_eq]at h k ⊢
  rcases h with h| ⟨rfl,h⟩
  ·rcases k with k| ⟨rfl,k⟩
   ·exact .inl (UInt8.lt_trans h k)
   ·exact .inl h
  ·rcases k with k| ⟨rfl,k⟩
   ·exact .inl k
   ·exact .inr ⟨rfl,ix h k⟩
theorem qO:∀(a b:Bs),Op.bytesLess a b=false→Op.bytesLess b a=false→a=b
 | [],[],_,_=>rfl
 | [],_::_,h,_=>by simp[Op.bytesLess]at h
 |_::_,[],_,h=>by simp[Op.bytesLess]at h
 |x::a,y::b,h,k=>by
  simp only[Op.bytesLess,Bool.or_eq_false_iff,decide_eq_false_iff_not,Bool.and_eq_false_iff,beq_eq_false_iff_ne]at h k
  have hxy:x=y:=by
   have h1:=UInt8.not_lt.1 h.1
   have h2:=UInt8.not_lt.1 k.1
   exact UInt8.le_antisymm h2 h1
  subst hxy
  rw[qO a b (by rcases h.2 with h|h;exact absurd rfl h;exact h) (by rcases k.2 with h|h;exact absurd rfl h;exact h)]
def Srt(l:List Bs):Prop:=l.Pairwise fun a b=>Op.bytesLess a b=true
def lbF(l:List Bs)(t:Bs):Nat:=(l.takeWhile fun x=>Op.bytesLess x t).length
theorem lH(l:List Bs)(t:Bs):lbF l t≤l.length:=by
 unfold lbF
 have:=(List.takeWhile_sublist (l:=l) fun x=>Op.bytesLess x t).length_le
 exact this
theorem iy(a:Bs)(l:List Bs)(t:Bs):lbF (a::l) t=if Op.bytesLess a t=true then lbF l t+1 else 0:=by
 unfold lbF;rw[List.takeWhile_cons];split<;>simp
theorem qP{l:List Bs}{t:Bs}:∀j,j<lbF l t→∃x,l[j]? =some x∧Op.bytesLess x t=true:=by
 induction l with
 |nil=>intro j h;simp[lbF]at h
 |cons a l ih=>
  intro j h
  rw[iy]at h
  split at h
  ·rename_i ha
   cases j with
   |zero=>exact⟨a,rfl,ha⟩
   |succ j=>exact ih j (by omega)
  ·omega
theorem qQ{l:List Bs}{t:Bs}(hs:Srt l):∀j x,lbF l t≤j→l[j]? =some x→Op.bytesLess x t=false:=by
 induction l with
 |nil=>intro j x _ h;simp at h
 |cons a l ih=>
  intro j x h hx
  rw[iy]at h
  have hp:=List.pairwise_cons.1 hs
  split at h
  ·rename_i ha
   cases j with
   |zero=>omega
   |succ j=>exact ih hp.2 j x (by omega) (by simpa using hx)
  ·rename_i ha
   cases j with
   |zero=>simp at hx;subst hx;simpa using ha
   |succ j=>
    have hm:=hp.1 x (List.mem_of_getElem? (by simpa using hx))
    cases hq:Op.bytesLess x t with
    |false=>rfl
    |true=>exact absurd (ix hm hq) ha
theorem nE{l:List Bs}{t:Bs}(hs:Srt l)(hm:t∈l):l[lbF l t]? =some t:=by
 obtain⟨j,hj⟩:=List.getElem?_of_mem hm
 rcases Nat.lt_trichotomy j (lbF l t)with h|h|h
 ·obtain⟨x,hx,hl⟩:=qP j h
  rw[hj]at hx;cases hx
  rw[lG]at hl;cases hl
 ·rw[← h];exact hj
 ·have hlt:lbF l t<l.length:=by have:=(List.getElem?_eq_some_iff.1 hj).1;omega
  have h1:l[lbF l t]? =some l[lbF l t]:=List.getElem?_eq_getElem hlt
  have h2:=qQ hs _ _ (Nat.le_refl _) h1
  have h3:=(List.pairwise_iff_getElem.1 hs) (lbF l t) j hlt (List.getElem?_eq_some_iff.1 hj).1 h
  rw[(List.getElem?_eq_some_iff.1 hj).2,h2]at h3;cases h3
variable (G:Nat→Option (List AVal))
theorem tt(w:World)(n:Nat):Below w.heap.size w (w.drewN n):=by
 induction n with
 |zero=>exact Below.refl _ _
 |succ n ih=>exact ih.trans (Below.drew (Below.refl _ _))
theorem kO(l:List Bs)(t:Bs)(hs:Srt l)(hl:l.length≤100000)(h:Heap):Sat (CT G) 150 [.sl 1 (l.map .str),.str t] h (fun r h'=>r=.tup [.int .i64 (lbF l t),.bool (decide (t∈l))]∧h'=h):=by
 intro B S μ w us fit rl
 obtain⟨hul,hur⟩:=rl
 match us,hul,hur with
 | [v0,v1],_,hur=>
  have r0:Rep w S μ (.sl 1 (l.map .str)) v0:=hur 0 _ rfl
  have r1:Rep w S μ (.str t) v1:=hur 1 _ rfl
  obtain rfl:=r1.str_inv
  change OpOk Tryz.prog _ ((callFunc 150 #[v0,.string ⟨t.toArray⟩]).run Tryz.prog w)
  rw[bO (f:=150) Tryz.func150 rfl rfl]
  have fin:∀(w':World) (i:Nat) (b:Bool),Below w.heap.size w w'→i=lbF l t→b=decide (t∈l)→∃v,Value.tuple #[.int .i64 i,.bool b]=v∧OpPost (CT G) B S μ w (fun r h'=>r=.tup [.int .i64 (lbF l t),.bool (decide (t∈l))]∧h'=h) v w':=by
   rintro w' i b hb rfl rfl
   obtain⟨f',st⟩:=fit.grown hb
   exact⟨_,rfl,_,h,S,μ,⟨rfl,rfl⟩,st,f',ij (.int _ _) (.bool _)⟩
  by_cases hn:l=[]
  ·subst hn
   obtain⟨a,cap,rfl⟩:∃a cap,v0=.slice a 0 cap:=by
    cases r0 with
    |sl0 _ a cap=>exact⟨a,cap,rfl⟩
    |sl _ _ b o cap vs h1=>exact absurd rfl h1
   refine(Any2.slices_BinarySearch_string_empty Tryz.lays2_26 a cap ⟨t.toArray⟩ w).mono fun e w' ⟨he,hw⟩=>?_
   obtain⟨v,hv,hp⟩:=fin w' 0 false (by rw[hw];exact Below.refl _ _) rfl (by simp)
   exact⟨v,by rw[he, ← hv];rfl,hp⟩
  ·obtain⟨b,o,cap,rfl,hc⟩:∃b o cap,v0=.slice (some ⟨b,o,none⟩) l.length cap∧∀j,j<l.length→w.cell? ⟨b,o+j,none⟩=some (.string ⟨(l.getD j t).toArray⟩):=by
    generalize hm:l.map AVal.str=m at r0
    cases r0 with
    |sl0 _ a cap=>simp at hm;exact absurd hm hn
    |sl _ _ b o cap vs h1 h2 h3 h4 h5 h6=>
     subst hm
     refine⟨b,o,cap,by simp,fun j hj=>?_⟩
     have hx:(l.map AVal.str)[j]? =some (.str l[j]):=by rw[List.getElem?_map,List.getElem?_eq_getElem hj];rfl
     have h7:=h5 j _ 0 _ hx rfl
     have h8:=h6 j _ 0 _ hx rfl
     rw[h8.str_inv]at h7
     have:l.getD j t=l[j]:=by simp[List.getD,hj]
     rw[this]
     have e:o+(j*1+0)=o+j:=by omega
     rw[e]at h7
     exact h7.2.1
   refine(Any2.slices_BinarySearch_string Tryz.lays2_26 b o l.length cap (fun j=>⟨(l.getD j t).toArray⟩) ⟨t.toArray⟩ w (by omega) hc).mono fun e w' ⟨he,q,hw⟩=>?_
   have hk:Lib.bsGo (fun j=>Op.bytesLess (⟨(l.getD j t).toArray⟩:ByteArray).toList (⟨t.toArray⟩:ByteArray).toList) l.length 0 l.length=lbF l t:=by
    refine Lib.bsGo_spec _ (lbF l t) (fun j hj=>?_) (fun j hj=>?_) _ _ _ (by omega) (Nat.zero_le _) (lH l t)
    ·obtain⟨x,hx,hlt⟩:=qP j hj
     simp only[bM]
     rw[show l.getD j t=x by simp[List.getD,hx]];exact hlt
    ·simp only[bM]
     cases hx:l[j]? with
     |none=>rw[show l.getD j t=t by simp[List.getD,hx]];exact lG t
     |some x=>rw[show l.getD j t=x by simp[List.getD,hx]];exact qQ hs j x hj hx
   rw[hk]at he
   obtain⟨v,hv,hp⟩:=fin w' (lbF l t) (decide (lbF l t<l.length∧(⟨(l.getD (lbF l t) t).toArray⟩:ByteArray)=⟨t.toArray⟩)) (by rw[hw];exact tt w q) rfl (by
    rw[Bool.eq_iff_iff,decide_eq_true_eq,decide_eq_true_eq]
    constructor
    ·rintro⟨h1,h2⟩
     have h3:l.getD (lbF l t) t=l[lbF l t]:=by simp[List.getD,h1]
     rw[h3]at h2
     have:l[lbF l t]=t:=by simpa using h2
     rw[← this];exact List.getElem_mem h1
    ·intro hm
     have:=nE hs hm
     exact⟨(List.getElem?_eq_some_iff.1 this).1,by simp[List.getD,this]⟩)
   exact⟨v,by rw[he, ← hv],hp⟩
end Go.Av
namespace Go.Av
open Go Go.Proofs Go.RowKit
def encS(t:Bs):Value:=.string ⟨t.toArray⟩
theorem Only.setCells(b:Nat):∀(vs:List Value) (o:Nat) (w:World),Only w (w.setCells b o vs) (some b)
 | [],_,_=>Only.refl _ _
 |v::r,o,w=>(Only.setCell w ⟨b,o,none⟩ v).trans (Only.setCells b r (o+1) _)
theorem Only.alloc(w:World)(o:Obj)(q:Option Nat):Only w (w.alloc o) q:=
 ⟨rfl,rfl,rfl,by simp,fun k hk _=>Below.heap_alloc w o k hk⟩
theorem Only.into{w w1 w2:World}{q:Option Nat}{g:Nat}(h:Only w w1 q)(k:Only w1 w2 (some g))(hg:w.heap.size≤g):Only w w2 q:=
 ⟨k.os.trans h.os,k.tape.trans h.tape,k.output.trans h.output,Nat.le_trans h.size k.size,
  fun i hi hq=>(k.block i (Nat.lt_of_lt_of_le hi h.size) (fun e=>by cases e;omega)).trans (h.block i hi hq)⟩
theorem Only.putRow{α:Type}[Inhabited α](enc:α→Value)(w:World)(b off:Nat)(d:Array α):Only w (Go.Sort.putRow enc w b off d) (some b):=
 ⟨rfl,rfl,rfl,by simp,fun k _ hq=>by
  have:b≠k:=fun e=>hq (by rw[e])
  simp[Go.Sort.putRow,Go.Sort.mapBlock,Array.getElem?_modify,this]⟩
section
variable {C:Ctx} {B:Nat} {S:Addr→Prop} {μ:Map} {h:Heap} {w w':World}
theorem Fits.give(f:Fits C B S μ h w){p:Nat}{m:MB}(hm:μ[p]? =some m){g:Nat}(hg:∀q m',μ[q]? =some m'→m'.blk=some g→q=p)(hB:B≤g)(hgl:g<w.heap.size):
  Step B S μ w (fun a=>S a∨a.block=g) (μ.set p ⟨none,m.ver+1,m.size,m.cap⟩) w∧Fits C B (fun a=>S a∨a.block=g) (μ.set p ⟨none,m.ver+1,m.size,m.cap⟩) (h.set p .dead) w:=by
 have hlt:=(List.getElem?_eq_some_iff.1 hm).1
 have st:Step B S μ w (fun a=>S a∨a.block=g) (μ.set p ⟨none,m.ver+1,m.size,m.cap⟩) w:=⟨fun a ha=>.inl ha,fun _ _=>rfl,Below.refl _ _,bq hm (by simp) (fun e=>by simp at e),fun a ha=>by
  rcases ha with ha|ha
  ·exact .inl ha
  ·exact .inr (by omega)⟩
 have at_:∀q k,(μ.set p ⟨none,m.ver+1,m.size,m.cap⟩)[q]? =some k→(q=p∧k.blk=none)∨(q≠p∧μ[q]? =some k):=by
  intro q k hq
  by_cases e:p=q
  ·subst e;rw[List.getElem?_set_self hlt]at hq;cases hq;exact .inl ⟨rfl,rfl⟩
  ·rw[List.getElem?_set_ne e]at hq;exact .inr ⟨fun e'=>e e'.symm,hq⟩
 refine⟨st,⟨fun g cs hg=>(f.glob g cs hg).mono st,by simp[f.len],?_,?_,f.base,?_,?_⟩⟩
 ·intro p1 q1 m1 m2 b h1 h2 e1 e2
  rcases at_ p1 m1 h1 with⟨_,k1⟩| ⟨_,k1⟩
  ·rw[k1]at e1;cases e1
  ·rcases at_ q1 m2 h2 with⟨_,k2⟩| ⟨_,k2⟩
   ·rw[k2]at e2;cases e2
   ·exact f.sep p1 q1 m1 m2 b k1 k2 e1 e2
 ·intro p1 m1 b h1 e1
  rcases at_ p1 m1 h1 with⟨_,k1⟩| ⟨r1,k1⟩
  ·rw[k1]at e1;cases e1
  ·obtain⟨a1,a2,a3⟩:=f.own p1 m1 b k1 e1
   refine⟨a1,a2,fun a ha=>?_⟩
   rcases ha with ha|ha
   ·exact a3 a ha
   ·intro e
    exact r1 (hg p1 m1 k1 (by rw[e1, ← e,ha]))
 ·intro a ha
  rcases ha with ha|ha
  ·exact f.lie a ha
  ·omega
 ·intro p1 m1 k1 h1 h2
  rcases at_ p1 m1 h1 with⟨rfl,_⟩| ⟨r1,h1⟩
  ·rw[List.getElem?_set_self (by rw[← f.len];exact hlt)]at h2;cases h2;trivial
  ·rw[List.getElem?_set_ne (fun e=>r1 e.symm)]at h2
   exact(f.blk p1 m1 k1 h1 h2).mono st fun b _=>rfl
theorem tu{g off cap:Nat}{ls:List Bs}(hS:∀a,a.block=g→S a)(hl:ls.length≤cap)(hm:cap≤maxLen)(hc:∀j x,ls[j]? =some x→w.cell? ⟨g,off+j,none⟩=some (encS x)):
  Rep w S μ (.sl 1 (ls.map .str)) (.slice (some ⟨g,off,none⟩) ls.length cap):=by
 by_cases hn:ls=[]
 ·subst hn;exact .sl0 1 _ cap
 have hlen:(ls.map AVal.str).length=ls.length:=List.length_map ..
 rw[← hlen]
 refine .sl 1 (ls.map .str) g off cap (fun i _=>encS (ls.getD i [])) (by simpa using hn) (by omega) hm (fun i x hx=>?_) (fun i x j c hx hj=>?_) (fun i x j c hx hj=>?_)
 ·obtain⟨a,_,rfl⟩:=List.mem_map.1 (List.mem_of_getElem? hx);rfl
 ·rw[List.getElem?_map]at hx
  obtain⟨a,ha,rfl⟩:=Option.map_eq_some_iff.1 hx
  match j with
  |0=>
   simp[AVal.cells]at hj;subst hj
   refine⟨hS _ rfl,?_,rfl⟩
   rw[show off+(i*1+0)=off+i by omega,hc i a ha]
   simp[List.getD,ha]
  |j+1=>simp[AVal.cells]at hj
 ·rw[List.getElem?_map]at hx
  obtain⟨a,ha,rfl⟩:=Option.map_eq_some_iff.1 hx
  match j with
  |0=>
   simp[AVal.cells]at hj;subst hj
   simp only[List.getD,ha,Option.getD_some]
   exact .str a
  |j+1=>simp[AVal.cells]at hj
theorem iz(f:Fits C B S μ h w){p:Nat}{m:MB}(hm:μ[p]? =some m)(o:Only w w' m.blk){g off cap:Nat}{ls:List Bs}(hg:m.blk=some g∨(w.heap.size≤g∧g<w'.heap.size))
  (hl:ls.length≤cap)(hx:cap≤maxLen)(hc:∀j x,ls[j]? =some x→w'.cell? ⟨g,off+j,none⟩=some (encS x)):
  ∃S' μ',Step B S μ w S' μ' w'∧Fits C B S' μ' (h.set p .dead) w'∧Rep w' S' μ' (.sl 1 (ls.map .str)) (.slice (some ⟨g,off,none⟩) ls.length cap):=by
 obtain⟨f1,st1⟩:=f.update (m':=⟨m.blk,m.ver+1,m.size,m.cap⟩) (k':=.dead) hm o (by simp) (fun e=>by simp at e) (.inl rfl) trivial
 have hlt:=(List.getElem?_eq_some_iff.1 hm).1
 have hm1:(μ.set p ⟨m.blk,m.ver+1,m.size,m.cap⟩)[p]? =some ⟨m.blk,m.ver+1,m.size,m.cap⟩:=List.getElem?_set_self hlt
 have hgg:(B≤g∧g<w'.heap.size)∧∀q m',(μ.set p ⟨m.blk,m.ver+1,m.size,m.cap⟩)[q]? =some m'→m'.blk=some g→q=p:=by
  rcases hg with hg| ⟨h1,h2⟩
  ·obtain⟨a1,a2,_⟩:=f.own p m g hm hg
   exact⟨⟨a1,Nat.lt_of_lt_of_le a2 o.size⟩,fun q m' hq hb=>f1.sep q p m' _ g hq hm1 hb hg⟩
  ·refine⟨⟨Nat.le_trans f.base h1,h2⟩,fun q m' hq hb=>?_⟩
   by_cases e:p=q
   ·exact e.symm
   ·rw[List.getElem?_set_ne e]at hq
    have:=(f.own q m' g hq hb).2.1
    omega
 obtain⟨st2,f2⟩:=f1.give hm1 hgg.2 hgg.1.1 hgg.1.2
 refine⟨_,_,st1.trans st2,?_,tu (fun a ha=>.inr ha) hl hx hc⟩
 simpa using f2
end
theorem gA{C:Ctx}{B:Nat}{S:Addr→Prop}{μ:Map}{h:Heap}{w:World}(f:Fits C B S μ h w){p ver len:Nat}{T:TypeId}{room:Bool}{l:List Bs}{v:Value}(hn:l≠ [])
  (hg:getRow h p ver=some (T,1,l.map .str))(hv:Rep w S μ (.hs p ver 0 len room) v):
  ∃m b cur,μ[p]? =some m∧m.blk=some b∧w.heap[b]? =some (.cells cur T (0,0))∧cur.size=m.cap∧l.length≤m.cap∧m.cap≤maxLen∧0<m.cap∧v=.slice (some ⟨b,0,none⟩) len (if room then m.cap else len)∧
   ∀j x,l[j]? =some x→w.cell? ⟨b,0+j,none⟩=some (encS x):=by
 obtain⟨m,hm,hf⟩:=f.row hg
 rcases hf.lies with⟨_,h2⟩| ⟨b,cur,hb,hheap,hsz,⟨h0,hle⟩,hmax,hcell⟩
 ·exact absurd (List.map_eq_nil_iff.1 h2) hn
 rcases hv.hs_now hm hf.hver with⟨h1,_⟩| ⟨b',hb',_,hve⟩
 ·rw[hb]at h1;cases h1
 rw[hb]at hb';cases hb'
 have hs1:=hf.hsize
 refine⟨m,b,cur,hm,hb,hheap,by omega,by simpa using hle,hmax,h0,by rw[hve];simp,fun j x hx=>?_⟩
 have hx':(l.map AVal.str)[j]? =some (.str x):=by rw[List.getElem?_map,hx];rfl
 obtain⟨u,hu,hr⟩:=hcell j (.str x) 0 (.str x) hx' rfl
 rw[hr.str_inv]at hu
 have hlt:=(Array.getElem?_eq_some_iff.1 hu).1
 simp only[World.cell?,hheap]
 have e:j*1+0=0+j:=by omega
 rw[e]at hu
 simpa [encS]using hu
theorem fm(w:World)(c:Array Value)(T:TypeId)(j:Nat):(w.alloc (.cells c T)).cell? ⟨w.heap.size,j,none⟩=c[j]? :=by
 simp only[World.cell?,bN]
 rfl
theorem cP(b:Nat):∀(vs:List Value) (o:Nat) (w:World) (k:Nat),(w.cell? ⟨b,k,none⟩).isSome=true→((w.setCells b o vs).cell? ⟨b,k,none⟩).isSome=true
 | [],_,_,_,h=>h
 |v::r,o,w,k,h=>cP b r (o+1) (w.setCell ⟨b,o,none⟩ v) k (by
  by_cases e:o=k
  ·subst e;obtain⟨u,hu⟩:=Option.isSome_iff_exists.1 h;rw[World.cell?_setCell_same _ _ _ hu];rfl
  ·rw[World.cell?_setCell_other _ _ _ _ (by simpa using e)];exact h)
theorem fZ{w:World}{b o:Nat}{v:Value}(hs:(w.cell? ⟨b,o,none⟩).isSome=true):(w.setCells b o [v]).cell? ⟨b,o,none⟩=some v:=by
 have:=World.cell?_setCells_in b [v] o w (fun j hj=>by simp at hj;subst hj;exact hs) 0 (by simp)
 simpa using this
theorem gB(l:List Bs)(t:Bs)(i:Nat)(hi:i≤l.length)(j:Nat)(x:Bs)(hx:(l.take i++t::l.drop i)[j]? =some x):
  (j<i∧l[j]? =some x)∨(j=i∧x=t)∨(i<j∧l[j-1]? =some x):=by
 rcases Nat.lt_trichotomy j i with h|h|h
 ·rw[List.getElem?_append_left (by simp;omega),List.getElem?_take_of_lt h]at hx
  exact .inl ⟨h,hx⟩
 ·subst h
  rw[List.getElem?_append_right (by rw[List.length_take];omega)]at hx
  have:j-(l.take j).length=0:=by rw[List.length_take];omega
  rw[this]at hx;simp at hx
  exact .inr (.inl ⟨rfl,hx.symm⟩)
 ·rw[List.getElem?_append_right (by simp;omega)]at hx
  have:j-(l.take i).length=(j-i-1)+1:=by rw[List.length_take];omega
  rw[this,List.getElem?_cons_succ,List.getElem?_drop]at hx
  refine .inr (.inr ⟨h,?_⟩)
  rw[← hx];congr 1;omega
variable (G:Nat→Option (List AVal))
theorem p4(l:List Bs)(t:Bs)(i v1 v2:Nat)(rm:Bool)(hi:i≤l.length)(hn:l≠ [])(hl:l.length≤100000)(h:Heap):
  Sat (CT G) 101 [.hs h.length v1 0 l.length true,.int .i64 i,.hs (h.length+1) v2 0 1 rm] (h++[Blk.row 9 1 v1 (l.map .str),.row 9 1 v2 [.str t]])
   (fun r h'=>r=.sl 1 ((l.take i++t::l.drop i).map .str)∧h'=h++[.dead,.row 9 1 v2 [.str t]]):=by
 intro B S μ w us fit rl
 obtain⟨hul,hur⟩:=rl
 match us,hul,hur with
 | [u0,u1,u2],_,hur=>
  have r0:Rep w S μ (.hs h.length v1 0 l.length true) u0:=hur 0 _ rfl
  have r1:Rep w S μ (.int .i64 i) u1:=hur 1 _ rfl
  have r2:Rep w S μ (.hs (h.length+1) v2 0 1 rm) u2:=hur 2 _ rfl
  obtain rfl:=r1.int_inv
  have hg0:getRow (h++[Blk.row 9 1 v1 (l.map .str),.row 9 1 v2 [.str t]]) h.length v1=some (9,1,l.map .str):=by simp[getRow]
  have hg2:getRow (h++[Blk.row 9 1 v1 (l.map .str),.row 9 1 v2 [.str t]]) (h.length+1) v2=some (9,1,[t].map .str):=by simp[getRow]
  obtain⟨m,b,cur,hm,hb,hheap,hsz,hle,hmax,h0,rfl,hc⟩:=gA fit hn hg0 r0
  obtain⟨m2,b2,cur2,hm2,hb2,hheap2,hsz2,hle2,hmax2,h02,rfl,hc2⟩:=gA fit (by simp) hg2 r2
  simp only[↓reduceIte]
  have hne:b2≠b:=fun e=>by have:=fit.sep _ _ m2 m b hm2 hm (by rw[hb2,e]) hb;omega
  have hset:(h++[Blk.row 9 1 v1 (l.map .str),.row 9 1 v2 [.str t]]).set h.length .dead=h++[.dead,.row 9 1 v2 [.str t]]:=by simp[List.set_append]
  have hil:(l.take i++t::l.drop i).length=l.length+1:=by simp;omega
  change OpOk Tryz.prog _ ((callFunc 101 #[_,_,_]).run Tryz.prog w)
  rw[bO (f:=101) Tryz.func101 rfl rfl]
  have fin:∀(w':World) (g cap:Nat),Only w w' (some b)→(g=b∨(w.heap.size≤g∧g<w'.heap.size))→l.length+1≤cap→cap≤maxLen→
    (∀j x,(l.take i++t::l.drop i)[j]? =some x→w'.cell? ⟨g,0+j,none⟩=some (encS x))→
    OpPost (CT G) B S μ w (fun r h'=>r=.sl 1 ((l.take i++t::l.drop i).map .str)∧h'=h++[.dead,.row 9 1 v2 [.str t]]) (.slice (some ⟨g,0,none⟩) (l.length+1) cap) w':=by
   intro w' g cap ho hg hcap hmx hcell
   obtain⟨S',μ',st,f',rp⟩:=iz fit hm (by rw[hb];exact ho) (g:=g) (by rcases hg with rfl|hg;exact .inl hb;exact .inr hg) (by rw[hil];exact hcap) hmx hcell
   rw[hset]at f'
   rw[hil]at rp
   exact⟨_,_,S',μ',⟨rfl,rfl⟩,st,f',rp⟩
  have hcs:∀j v,(l.map encS)[j]? =some v→w.cell? ⟨b,0+j,none⟩=some v:=by
   intro j v hv
   rw[List.getElem?_map]at hv
   obtain⟨x,hx,rfl⟩:=Option.map_eq_some_iff.1 hv
   exact hc j x hx
  have hvs:∀j v,[encS t][j]? =some v→w.cell? ⟨b2,0+j,none⟩=some v:=by
   intro j v hv
   match j with
   |0=>simp at hv;subst hv;exact hc2 0 t rfl
   |j+1=>simp at hv
  have h1c:∀v∈l.map encS,v.oneCell'=true:=by intro v hv;obtain⟨x,_,rfl⟩:=List.mem_map.1 hv;rfl
  have h1v:∀v∈ [encS t],v.oneCell'=true:=by intro v hv;simp at hv;subst hv;rfl
  have there:∀k,k<m.cap→(w.cell? ⟨b,k,none⟩).isSome=true:=by
   intro k hk
   have:k<cur.size:=by omega
   simp[World.cell?,hheap,this]
  have mx:maxLen≤9223372036854775807:=by decide
  have hdr:(l.map encS).drop i=(l.drop i).map encS:=by rw[List.map_drop]
  by_cases hroom:l.length+1≤m.cap
  ·by_cases hil2:i=l.length
   ·subst hil2
    refine(Any2.slices_Insert_string_end_room Tryz.lays2_22 b 0 l.length m.cap b2 0 1 _ [encS t] w (by omega) hroom (by omega) rfl (fun j hj=>there _ (by omega)) (fun j hj=>by simp[World.frozen?,hheap]) hvs h1v).mono fun e w' ⟨he,hw⟩=>?_
    refine⟨_,he,fin w' b m.cap (by rw[hw];exact Only.setCells _ _ _ _) (.inl rfl) hroom hmax fun j x hx=>?_⟩
    rw[hw]
    rcases gB l t l.length (Nat.le_refl _) j x hx with⟨h1,h2⟩| ⟨rfl,rfl⟩| ⟨h1,h2⟩
    ·rw[World.cell?_setCells_out _ _ _ _ _ (fun _ _=>.inl (by simp;omega))];exact hc j x h2
    ·exact fZ (there _ (by omega))
    ·have:=(List.getElem?_eq_some_iff.1 h2).1;omega
   ·refine(Any2.slices_Insert_string_shift Tryz.lays2_22 b 0 l.length m.cap i b2 0 1 _ (l.map encS) [encS t] w (by omega) (by omega) hroom (by omega) hne (by simp) rfl hcs (fun j hj=>there _ (by omega)) (fun j hj=>by simp[World.frozen?,hheap]) hvs h1c h1v
     9 9 cur2.size cur.size (by simp[World.shape?,hheap2]) (by simp[World.shape?,hheap]) (by omega) (by simp[World.frozen?,hheap2]) (by simp[World.frozen?,hheap2])).mono fun e w' ⟨he,hw⟩=>?_
    refine⟨_,he,fin w' b m.cap (by rw[hw];exact((Only.drew w _).trans (Only.setCells _ _ _ _)).trans (Only.setCells _ _ _ _)) (.inl rfl) hroom hmax fun j x hx=>?_⟩
    rw[hw]
    have th2:∀k,k<m.cap→((w.drew.setCells b (0+(i+1)) ((l.map encS).drop i)).cell? ⟨b,k,none⟩).isSome=true:=fun k hk=>cP b _ _ _ _ (there k hk)
    rcases gB l t i hi j x hx with⟨h1,h2⟩| ⟨rfl,rfl⟩| ⟨h1,h2⟩
    ·rw[World.cell?_setCells_out _ _ _ _ _ (fun _ _=>.inl (by simp;omega)),World.cell?_setCells_out _ _ _ _ _ (fun _ _=>.inl (by simp;omega))];exact hc j x h2
    ·exact fZ (th2 _ (by omega))
    ·have hjl:=(List.getElem?_eq_some_iff.1 h2).1
     rw[World.cell?_setCells_out _ _ _ _ _ (fun _ _=>.inr (by simp;omega))]
     have:=World.cell?_setCells_in b ((l.map encS).drop i) (0+(i+1)) w.drew (fun k hk=>by
      have hk2:k<l.length-i:=by simpa using hk
      exact there _ (by omega)) (j-1-i) (by simp;omega)
     rw[show 0+(i+1)+(j-1-i)=0+j by omega]at this
     rw[this]
     have e2:i+(j-1-i)=j-1:=by omega
     simp only[List.getElem_drop,List.getElem_map,e2]
     rw[(List.getElem?_eq_some_iff.1 h2).2]
  ·have hcl:m.cap=l.length:=by omega
   have hcg:=grownCap_ge w (l.length+1) m.cap 9
   have hmx1:(100001:Nat)≤maxLen:=by decide
   have hcm:=grownCap_le_maxLen w (l.length+1) m.cap 9 (by omega)
   by_cases hil2:i=l.length
   ·subst hil2
    refine(Any2.slices_Insert_string_end_grow Tryz.lays2_22 (some ⟨b,0,none⟩) l.length m.cap b2 0 1 _ (l.map encS) [encS t] w (by omega) (by omega) (by omega) (by omega) (by simp) rfl (by simp)
     (fun a ha j v hv=>by cases ha;rw[bd];exact hcs j v hv) hvs h1v).mono fun e w' ⟨he,hw⟩=>?_
    refine⟨_,he,fin w' w.heap.size _ (by rw[hw];exact(Only.drew w _).trans (Only.alloc _ _ _)) (.inr ⟨Nat.le_refl _,by rw[hw];simp⟩) hcg hcm fun j x hx=>?_⟩
    rw[hw]
    refine(fm w.drew _ _ _).trans ?_
    rw[Array.getElem?_append_left (by simp;have:=(List.getElem?_eq_some_iff.1 hx).1;rw[hil]at this;omega)]
    rcases gB l t l.length (Nat.le_refl _) j x hx with⟨h1,h2⟩| ⟨rfl,rfl⟩| ⟨h1,h2⟩
    ·rw[List.getElem?_toArray,List.getElem?_append_left (by simpa using by omega),List.getElem?_map,Nat.zero_add,h2];rfl
    ·rw[List.getElem?_toArray,List.getElem?_append_right (by simp)];simp
    ·have:=(List.getElem?_eq_some_iff.1 h2).1;omega
   ·refine(Any2.slices_Insert_string_grow Tryz.lays2_22 b 0 l.length m.cap i b2 0 1 _ (l.map encS) [encS t] w (by omega) (by omega) (by omega) (by omega) (by omega) (by simp) rfl hcs hvs h1c h1v).mono fun e w' ⟨he,hw⟩=>?_
    rw[show Tryz.lays2_22_ren.t 9=9 from rfl]at hw
    generalize hw1:w.alloc (.cells (((l.map encS).take i).toArray++Builtin.zeroCells (Value.string ⟨#[]⟩).cells (l.length+1-i)++Builtin.zeroCells (Value.string ⟨#[]⟩).cells (grownCap w (l.length+1) m.cap 9-(l.length+1))) 9)=w1 at hw
    have hsz1:w1.heap.size=w.heap.size+1:=by rw[← hw1];simp
    have ho1:Only w w1 (some b):=by rw[← hw1];exact Only.alloc _ _ _
    have hw':w'=((w1.drew.setCells w.heap.size i [encS t]).drew).setCells w.heap.size (i+1) ((l.map encS).drop i):=hw
    have ho2:Only w1 w' (some w.heap.size):=by rw[hw'];exact(((Only.drew _ _).trans (Only.setCells _ _ _ _)).trans (Only.drew _ _)).trans (Only.setCells _ _ _ _)
    have hc1:∀k,w1.cell? ⟨w.heap.size,k,none⟩=(((l.map encS).take i).toArray++Builtin.zeroCells (Value.string ⟨#[]⟩).cells (l.length+1-i)++Builtin.zeroCells (Value.string ⟨#[]⟩).cells (grownCap w (l.length+1) m.cap 9-(l.length+1)))[k]? :=by
     intro k;rw[← hw1];exact fm _ _ _ _
    have th1:∀k,k<l.length+1→(w1.cell? ⟨w.heap.size,k,none⟩).isSome=true:=by
     intro k hk
     rw[hc1,Array.getElem?_eq_getElem (by simp[size_zeroCells,Value.cells];omega)];rfl
    have th2:∀k,k<l.length+1→((w1.drew.setCells w.heap.size i [encS t]).drew.cell? ⟨w.heap.size,k,none⟩).isSome=true:=fun k hk=>cP _ _ _ w1.drew _ (th1 k hk)
    refine⟨_,he,fin w' w.heap.size _ (Only.into ho1 ho2 (Nat.le_refl _)) (.inr ⟨Nat.le_refl _,by have:=ho2.size;omega⟩) hcg hcm fun j x hx=>?_⟩
    rw[hw']
    rcases gB l t i hi j x hx with⟨h1,h2⟩| ⟨rfl,rfl⟩| ⟨h1,h2⟩
    ·rw[World.cell?_setCells_out _ _ _ _ _ (fun _ _=>.inl (by simp;omega))]
     refine(World.cell?_setCells_out _ _ _ w1.drew _ (fun _ _=>.inl (by simp;omega))).trans ?_
     refine(hc1 _).trans ?_
     rw[Array.getElem?_append_left (by simp;omega),Array.getElem?_append_left (by simp;omega),List.getElem?_toArray,Nat.zero_add,List.getElem?_take_of_lt h1,List.getElem?_map,h2];rfl
    ·rw[World.cell?_setCells_out _ _ _ _ _ (fun _ _=>.inl (by simp))]
     have:=fZ (w:=w1.drew) (b:=w.heap.size) (o:=j) (v:=encS x) (th1 j (by omega))
     simpa using this
    ·have hjl:=(List.getElem?_eq_some_iff.1 h2).1
     have:=World.cell?_setCells_in w.heap.size ((l.map encS).drop i) (i+1) (w1.drew.setCells w.heap.size i [encS t]).drew (fun k hk=>by
      have hk2:k<l.length-i:=by simpa using hk
      exact th2 _ (by omega)) (j-1-i) (by simp;omega)
     rw[show i+1+(j-1-i)=0+j by omega]at this
     rw[this]
     have e2:i+(j-1-i)=j-1:=by omega
     simp only[List.getElem_drop,List.getElem_map,e2]
     rw[(List.getElem?_eq_some_iff.1 h2).2]
theorem mK(a:AVal)(ha:a=.ez∨a=.nil (.slice none 0 0))(t:Bs)(v2:Nat)(rm:Bool)(h:Heap):
  Sat (CT G) 101 [a,.int .i64 0,.hs h.length v2 0 1 rm] (h++[Blk.row 9 1 v2 [.str t]]) (fun r h'=>r=.sl 1 [.str t]∧h'=h++[.dead]):=by
 intro B S μ w us fit rl
 obtain⟨hul,hur⟩:=rl
 match us,hul,hur with
 | [u0,u1,u2],_,hur=>
  have r0:Rep w S μ a u0:=hur 0 _ rfl
  have r1:Rep w S μ (.int .i64 0) u1:=hur 1 _ rfl
  have r2:Rep w S μ (.hs h.length v2 0 1 rm) u2:=hur 2 _ rfl
  obtain rfl:=r1.int_inv
  have hg2:getRow (h++[Blk.row 9 1 v2 [.str t]]) h.length v2=some (9,1,[t].map .str):=by simp[getRow]
  obtain⟨m2,b2,cur2,hm2,hb2,hheap2,hsz2,hle2,hmax2,h02,rfl,hc2⟩:=gA fit (by simp) hg2 r2
  have hset:(h++[Blk.row 9 1 v2 [.str t]]).set h.length .dead=h++[.dead]:=by simp[List.set_append]
  obtain⟨base,rfl⟩:∃base,u0=.slice base 0 0:=by
   rcases ha with rfl|rfl
   ·cases r0 with|ez a=>exact⟨_,rfl⟩
   ·exact⟨none,r0.nil_inv⟩
  change OpOk Tryz.prog _ ((callFunc 101 #[_,_,_]).run Tryz.prog w)
  rw[bO (f:=101) Tryz.func101 rfl rfl]
  have hvs:∀j v,[encS t][j]? =some v→w.cell? ⟨b2,0+j,none⟩=some v:=by
   intro j v hv
   match j with
   |0=>simp at hv;subst hv;exact hc2 0 t rfl
   |j+1=>simp at hv
  have h1v:∀v∈ [encS t],v.oneCell'=true:=by intro v hv;simp at hv;subst hv;rfl
  have hcg:=grownCap_ge w (0+1) 0 9
  have hcm:=grownCap_le_maxLen w (0+1) 0 9 (by decide)
  refine(Any2.slices_Insert_string_end_grow Tryz.lays2_22 base 0 0 b2 0 1 _ [] [encS t] w (by omega) (by omega) (by omega) (by omega) rfl rfl (fun _=>rfl)
   (fun a ha j v hv=>by simp at hv) hvs h1v).mono fun e w' ⟨he,hw⟩=>?_
  obtain⟨S',μ',st,f',rp⟩:=iz (ls:=[t]) (off:=0) (cap:=grownCap w (0+1) 0 9) (w':=w') fit hm2 (by rw[hw];exact(Only.drew w _).trans (Only.alloc _ _ _)) (g:=w.heap.size) (.inr ⟨Nat.le_refl _,by rw[hw];simp⟩) hcg hcm (fun j x hx=>by
   rw[hw]
   refine(fm w.drew _ _ _).trans ?_
   match j with
   |0=>simp at hx;subst hx;rw[Array.getElem?_append_left (by simp)];rfl
   |j+1=>simp at hx)
  rw[hset]at f'
  exact⟨_,he,_,_,S',μ',⟨rfl,rfl⟩,st,f',rp⟩
theorem p6(l:List Bs)(i v1:Nat)(hi:i<l.length)(hl:l.length≤100000)(h:Heap):
  Sat (CT G) 102 [.hs h.length v1 0 l.length true,.int .i64 i,.int .i64 (i+1)] (h++[Blk.row 9 1 v1 (l.map .str)])
   (fun r h'=>r=.sl 1 ((l.take i++l.drop (i+1)).map .str)∧h'=h++[.dead]):=by
 intro B S μ w us fit rl
 obtain⟨hul,hur⟩:=rl
 match us,hul,hur with
 | [u0,u1,u2],_,hur=>
  have r0:Rep w S μ (.hs h.length v1 0 l.length true) u0:=hur 0 _ rfl
  have r1:Rep w S μ (.int .i64 i) u1:=hur 1 _ rfl
  have r2:Rep w S μ (.int .i64 (i+1)) u2:=hur 2 _ rfl
  obtain rfl:=r1.int_inv
  obtain rfl:=r2.int_inv
  have hn:l≠ []:=by rintro rfl;simp at hi
  have hg0:getRow (h++[Blk.row 9 1 v1 (l.map .str)]) h.length v1=some (9,1,l.map .str):=by simp[getRow]
  obtain⟨m,b,cur,hm,hb,hheap,hsz,hle,hmax,h0,rfl,hc⟩:=gA fit hn hg0 r0
  simp only[↓reduceIte]
  have hset:(h++[Blk.row 9 1 v1 (l.map .str)]).set h.length .dead=h++[.dead]:=by simp[List.set_append]
  have mx:maxLen≤9223372036854775807:=by decide
  change OpOk Tryz.prog _ ((callFunc 102 #[_,_,_]).run Tryz.prog w)
  rw[bO (f:=102) Tryz.func102 rfl rfl]
  have hH:Go.Sort.Holds Go.Proofs.encStr w b 0 l.toArray:=by
   intro j hj
   have hj':j<l.length:=by simpa using hj
   refine⟨?_,by simp[World.frozen?,hheap]⟩
   rw[hc j l[j] (List.getElem?_eq_getElem hj')]
   simp[encS,Go.Proofs.encStr,hj']
  have hlen:(l.take i++l.drop (i+1)++List.replicate (i+1-i) ([]:List UInt8)).length=l.length:=by simp;omega
  refine(Tryz.slices_Delete_string b 0 m.cap i (i+1) l w hH hle (by omega) (by omega) (by omega)).mono fun e w' ⟨he,q,hw⟩=>?_
  obtain⟨S',μ',st,f',rp⟩:=iz (ls:=l.take i++l.drop (i+1)) (off:=0) (cap:=m.cap) (w':=w') fit hm (by rw[hw,hb];exact Only.trans (b:=Go.Sort.ahead w q) ⟨rfl,rfl,rfl,Nat.le_refl _,fun _ _ _=>rfl⟩ (Only.putRow _ _ _ _ _)) (g:=b) (.inl hb) (by simp;omega) hmax (fun j x hx=>by
   rw[hw]
   have hjl:=(List.getElem?_eq_some_iff.1 hx).1
   have hH2:Go.Sort.Holds Go.Proofs.encStr (Go.Sort.ahead w q) b 0 l.toArray:=hH
   rw[Go.Sort.cell?_putRow _ _ _ _ l.toArray _ hH2 (by simpa using hlen) j (by rw[List.size_toArray,List.length_append];omega)]
   have hx2:(l.take i++l.drop (i+1)++List.replicate (i+1-i) ([]:List UInt8))[j]? =some x:=by rw[List.getElem?_append_left hjl];exact hx
   have:(l.take i++l.drop (i+1)++List.replicate (i+1-i) ([]:List UInt8)).toArray[j]! =x:=by
    rw[getElem!_def,List.getElem?_toArray,hx2]
   rw[this];rfl)
  rw[hset]at f'
  have hl2:(l.take i++l.drop (i+1)).length=l.length-(i+1-i):=by simp;omega
  rw[hl2]at rp
  exact⟨_,he,_,_,S',μ',⟨rfl,rfl⟩,st,f',rp⟩
end Go.Av
namespace Go.Av
open Go Go.Proofs Go.RowKit
attribute [local irreducible] WP WPl WPix Sat
variable (G:Nat→Option (List AVal))
theorem eB(h:Heap):Sat (CT G) 88 [.sl 1 []] h (fun r h'=>(r=.ez∨r=.nil (.slice none 0 0))∧h'=h):=by
 refine sb [.tmp 2] (fn:=Tryz.f88) Tryz.func88 ?_
 intro Q hQ
 refine wk trivial ?_
 refine iS _ (by exact zq trivial) (.inl rfl) fun b=>?_
 cases b
 ·try refine sq trivial ?_
  refine wk trivial ?_
  refine gr (.inl rfl) (by simp(disch:=first|omega| (simp only[go_sem, ↓reduceIte,seval];first|done|omega)|fail) only[go_sem, ↓reduceIte,seval];rfl) (by simp(disch:=first|omega| (simp only[go_sem, ↓reduceIte,seval];first|done|omega)|fail) only[go_sem, ↓reduceIte,seval];rfl) (by simp(disch:=first|omega| (simp only[go_sem, ↓reduceIte,seval];first|done|omega)|fail) only[go_sem, ↓reduceIte,seval];rfl) (by simp(disch:=first|omega| (simp only[go_sem, ↓reduceIte,seval];first|done|omega)|fail) only[go_sem, ↓reduceIte,seval];try rfl) (by omega) (by simp only[elemsOf, ↓reduceIte];try rfl) (by simp) (fun _=>?_) (fun h=>absurd rfl h)
  try refine sq trivial ?_
  refine wk trivial ?_
  refine ee hQ trivial ?_
  exact Fin.same .ez ⟨.inl rfl,rfl⟩
 ·try refine sq trivial ?_
  refine wk trivial ?_
  refine ee hQ trivial ?_
  exact Fin.same (.nil _) ⟨.inr rfl,rfl⟩
theorem p7(l:List Bs)(hn:l≠ [])(hl:l.length≤1048576)(h:Heap):Sat (CT G) 88 [.sl 1 (l.map .str)] h (fun r h'=>r=.hs h.length 0 0 l.length true∧h'=h++[Blk.row 9 1 0 (l.map .str)]):=by
 obtain⟨a,l,rfl⟩:∃a k,l=a::k:=by
  cases l with
  |nil=>exact absurd rfl hn
  |cons a k=>exact⟨a,k,rfl⟩
 have hr:(List.map AVal.str (a::l))≠ []:=by simp
 refine sb [.tmp 2] (fn:=Tryz.f88) Tryz.func88 ?_
 intro Q hQ
 refine wk trivial ?_
 refine gr (.inl rfl) (by simp(disch:=first|omega| (simp only[go_sem, ↓reduceIte,seval];first|done|omega)|fail) only[go_sem, ↓reduceIte,seval];rfl) (by simp(disch:=first|omega| (simp only[go_sem, ↓reduceIte,seval];first|done|omega)|fail) only[go_sem, ↓reduceIte,seval];rfl) (by simp(disch:=first|omega| (simp only[go_sem, ↓reduceIte,seval];first|done|omega)|fail) only[go_sem, ↓reduceIte,seval];rfl) (by simp(disch:=first|omega| (simp only[go_sem, ↓reduceIte,seval];first|done|omega)|fail) only[go_sem, ↓reduceIte,seval];try rfl) (by omega) (by simp only[elemsOf, ↓reduceIte];try rfl) ?_ (fun h=>by simp at h) (fun _=>?_)
 ·simp[maxLen]at hl ⊢;omega
 try refine sq trivial ?_
 refine wk trivial ?_
 refine ee hQ trivial ?_
 exact Fin.whole (by simp) (.hs _ _ _ _ _ (by simp)) ⟨rfl,rfl⟩
section
variable {H:Heap} {n:Nat} {s:PS}
theorem p8(hn:n+9≤H.length)(x:Blk)(a:AVal)(ha:a=.ez∨a=.nil (.slice none 0 0))(t:Bs):Sat (CT G) 101 [a,.int .i64 0,.hs (H.length+1) 0 0 1 true] (so (H++[x,Blk.row 9 1 0 [.str t]]) n s)
  (fun r h'=>r=.sl 1 [.str t]∧h'=so (H++[x,.dead]) n s):=by
 have c:=mK G a ha t 0 true (so (H++[x]) n s)
 have hn1:n+9≤(H++[x]).length:=by simp;omega
 rw[aJ hn1,b9 hn1,b9 hn1]at c
 simpa using c
theorem qR(hn:n+9≤H.length)(x:Blk)(l:List Bs)(t:Bs)(hl0:l≠ [])(hl:l.length≤100000):Sat (CT G) 101 [.hs (H.length+1) 0 0 l.length true,.int .i64 (lbF l t),.hs (H.length+2) 0 0 1 true] (so (H++[x,Blk.row 9 1 0 (l.map .str),Blk.row 9 1 0 [.str t]]) n s)
  (fun r h'=>r=.sl 1 ((l.take (lbF l t)++t::l.drop (lbF l t)).map .str)∧h'=so (H++[x,.dead,Blk.row 9 1 0 [.str t]]) n s):=by
 have c:=p4 G l t (lbF l t) 0 0 true (lH l t) hl0 hl (so (H++[x]) n s)
 have hn1:n+9≤(H++[x]).length:=by simp;omega
 rw[aJ hn1,b9 hn1,b9 hn1]at c
 simpa using c
theorem qS(hn:n+9≤H.length)(x:Blk)(l:List Bs)(i:Nat)(hi:i<l.length)(hl:l.length≤100000):Sat (CT G) 102 [.hs (H.length+1) 0 0 l.length true,.int .i64 i,.int .i64 (i+1)] (so (H++[x,Blk.row 9 1 0 (l.map .str)]) n s)
  (fun r h'=>r=.sl 1 ((l.take i++l.drop (i+1)).map .str)∧h'=so (H++[x,.dead]) n s):=by
 have c:=p6 G l i 0 hi hl (so (H++[x]) n s)
 have hn1:n+9≤(H++[x]).length:=by simp;omega
 rw[aJ hn1,b9 hn1,b9 hn1]at c
 simpa using c
theorem dJ{s':PS}{j:Heap}{R:AVal→Heap→Prop}{r0 r:AVal}(hn:n+9≤H.length)(hz:Frz (so (H++j) n s') H.length r0 r)(hR:R r (so H n s')):Fin (so H n s) (so (H++j) n s') R r0:=dF hn rfl (PS.clo hn s') hz hR
theorem j9(hn:n+9≤H.length)(x:Blk)(l:List Bs):Frz (so (H++[x,Blk.row 9 1 0 (l.map .str)]) n s) H.length (.hs (H.length+1) 0 0 l.length true) (.sl 1 (l.map .str)):=by
 have hg:getRow (so (H++[x,Blk.row 9 1 0 (l.map .str)]) n s) (H.length+1) 0=some (9,1,l.map .str):=by
  rw[bK (by simp;omega) 0 (by omega)];simp[getRow]
 have:=Frz.data (n:=H.length) (len:=l.length) (room:=true) (by omega) hg (by simp) (fun r hr=>by obtain⟨a,_,rfl⟩:=List.mem_map.1 hr;exact .str _) (fun r hr c hc=>by obtain⟨a,_,rfl⟩:=List.mem_map.1 hr;simp[AVal.cells]at hc;subst hc;rfl)
 simpa using this
theorem cw(hn:n+9≤H.length)(x:Blk)(l:List Bs)(hl0:l≠ [])(hl:l.length≤1048576):Sat (CT G) 88 [.sl 1 (l.map .str)] (so (H++[x]) n s)
  (fun r h'=>r=.hs (H.length+1) 0 0 l.length true∧h'=so (H++[x,Blk.row 9 1 0 (l.map .str)]) n s):=by
 have c:=p7 G l hl0 hl (so (H++[x]) n s)
 have hn1:n+9≤(H++[x]).length:=by simp;omega
 rw[aJ hn1,b9 hn1]at c
 simpa using c
end
theorem kh(s:PS)(id:Int)(t:Bs)(hs:Srt ((lkM s.it id).getD It.z).tags)(hl:((lkM s.it id).getD It.z).tags.length≤100000){H:Heap}{n:Nat}(hn:n+9≤H.length):Sat (CT G) 100 [.hp (n+8) 0 0 0,.int .i64 id,.str t] (so H n s) (fun r h'=>r=.tup [.int .i64 (lbF ((lkM s.it id).getD It.z).tags t),.bool (decide (t∈ ((lkM s.it id).getD It.z).tags))]∧h'=so H n s):=by
 refine sb [.tmp 6,.tmp 7] (fn:=Tryz.f100) Tryz.func100 ?_
 intro Q hQ
 refine wk trivial ?_
 refine kq trivial (kO G _ t hs hl _) ?_
 refine ye hQ trivial ?_
 exact cr hn (.tup _ (fun x hx=>by simp only[List.mem_cons,List.not_mem_nil,or_false]at hx;rcases hx with rfl|rfl;exact .int _ _;exact .bool _)) ⟨rfl,rfl⟩
def tgF(l:List Bs)(t:Bs)(n:Int):List Bs:=
 if n=1∧t ∉ l then l.take (lbF l t)++t::l.drop (lbF l t)else if n=0∧t∈l then l.take (lbF l t)++l.drop (lbF l t+1)else l
theorem lI(s:PS)(e:Ev)(hs:Srt ((lkM s.it e.a).getD It.z).tags)(hl:((lkM s.it e.a).getD It.z).tags.length≤100000){H:Heap}{n:Nat}(hn:n+9≤H.length):Sat (CT G) 57 [.hp (n+8) 0 0 0,e.av] (so H n s) (fun r h'=>r=.sl 1 ((tgF ((lkM s.it e.a).getD It.z).tags e.s e.n).map .str)∧h'=so H n s):=by
 have hT:=fun(H:Heap) (hn:n+9≤H.length)=>kh G s e.a e.s hs hl (n:=n) hn
 have hn1:∀x:Blk,n+9≤(H++[x]).length:=fun x=>by simp;omega
 generalize hg:((lkM s.it e.a).getD It.z).tags=l at hs hl hT ⊢
 by_cases hn0:l=[]
 ·subst hn0
  have ht:lbF [] e.s=0:=rfl
  have hd:decide (e.s∈ ([]:List Bs))=false:=by simp
  rw[ht,hd]at hT
  by_cases k1:e.n=1
  ·have F:=k1
   skip
   refine sb [.tmp 4] (fn:=Tryz.f57) Tryz.func57 ?_
   intro Q hQ
   refine wn F ?_
   refine bF 8 0 _ (by rfl) (by decide+kernel) (by kernel_rfl) (by decide+kernel) (by decide+kernel) (by decide+kernel) ?_
   simp only[List.take_succ_cons,List.take_zero]
   refine sq F ?_
   refine wn F ?_
   rw[hg]
   refine(eB G _).mono ?_
   rintro r h' ⟨hr,rfl⟩
   simp(disch:=first|omega| (simp only[go_sem, ↓reduceIte,seval];first|done|omega)|fail) only[go_sem, ↓reduceIte,seval,F]
   skip
   refine wk F ?_
   skip
   refine kx F (hT _ (by first|omega| (simp;omega))) ?_
   refine kx F (p8 G hn _ r hr e.s) ?_
   skip
   refine ee hQ F ?_
   exact aj hn (.sl _ _ (by simp;exact .str _)) ⟨by simp[tgF,k1],rfl⟩
  ·by_cases k0:e.n=0
   ·have F:=k0
    skip
    refine sb [.tmp 4] (fn:=Tryz.f57) Tryz.func57 ?_
    intro Q hQ
    refine wn F ?_
    refine bF 8 0 _ (by rfl) (by decide+kernel) (by kernel_rfl) (by decide+kernel) (by decide+kernel) (by decide+kernel) ?_
    simp only[List.take_succ_cons,List.take_zero]
    refine sq F ?_
    refine wn F ?_
    rw[hg]
    refine(eB G _).mono ?_
    rintro r h' ⟨hr,rfl⟩
    simp(disch:=first|omega| (simp only[go_sem, ↓reduceIte,seval];first|done|omega)|fail) only[go_sem, ↓reduceIte,seval,F]
    skip
    refine wk F ?_
    refine kq F (hT _ (by first|omega| (simp;omega))) ?_
    refine ee hQ F ?_
    refine dJ (r:=.sl 1 []) hn ?_ ⟨by simp[tgF,k0,k1],rfl⟩
    rcases hr with rfl|rfl
    ·exact .ezs _
    ·exact .nils _
   ·have n1:(e.n==1)=false:=by simp[k1]
    have n0:(e.n==0)=false:=by simp[k0]
    have F:=F2 n1 n0
    skip
    refine sb [.tmp 4] (fn:=Tryz.f57) Tryz.func57 ?_
    intro Q hQ
    refine wn F ?_
    refine bF 8 0 _ (by rfl) (by decide+kernel) (by kernel_rfl) (by decide+kernel) (by decide+kernel) (by decide+kernel) ?_
    simp only[List.take_succ_cons,List.take_zero]
    refine sq F ?_
    refine wn F ?_
    rw[hg]
    refine(eB G _).mono ?_
    rintro r h' ⟨hr,rfl⟩
    simp(disch:=first|omega| (simp only[go_sem, ↓reduceIte,seval];first|done|omega)|fail) only[go_sem, ↓reduceIte,seval,F]
    skip
    refine wk F ?_
    refine kq F (hT _ (by first|omega| (simp;omega))) ?_
    refine ee hQ F ?_
    refine dJ (r:=.sl 1 []) hn ?_ ⟨by simp[tgF,k0,k1],rfl⟩
    rcases hr with rfl|rfl
    ·exact .ezs _
    ·exact .nils _
 ·by_cases km:e.s∈l
  ·have hd:decide (e.s∈l)=true:=by simp[km]
   rw[hd]at hT
   have hlt:lbF l e.s<l.length:=(List.getElem?_eq_some_iff.1 (nE hs km)).1
   by_cases k0:e.n=0
   ·have F:=k0
    skip
    refine sb [.tmp 4] (fn:=Tryz.f57) Tryz.func57 ?_
    intro Q hQ
    refine wn F ?_
    refine bF 8 0 _ (by rfl) (by decide+kernel) (by kernel_rfl) (by decide+kernel) (by decide+kernel) (by decide+kernel) ?_
    simp only[List.take_succ_cons,List.take_zero]
    refine sq F ?_
    refine wn F ?_
    rw[hg]
    refine(cw G hn _ l hn0 (by omega)).mono ?_
    rintro r h' ⟨rfl,rfl⟩
    try refine sq F ?_
    skip
    refine wk F ?_
    refine kq F (hT _ (by first|omega| (simp;omega))) ?_
    refine kq F (qS G hn _ l (lbF l e.s) hlt hl) ?_
    refine ee hQ F ?_
    exact aj hn (iq _ _) ⟨by simp[tgF,k0,km],rfl⟩
   ·by_cases k1:e.n=1
    ·have F:=k1
     skip
     refine sb [.tmp 4] (fn:=Tryz.f57) Tryz.func57 ?_
     intro Q hQ
     refine wn F ?_
     refine bF 8 0 _ (by rfl) (by decide+kernel) (by kernel_rfl) (by decide+kernel) (by decide+kernel) (by decide+kernel) ?_
     simp only[List.take_succ_cons,List.take_zero]
     refine sq F ?_
     refine wn F ?_
     rw[hg]
     refine(cw G hn _ l hn0 (by omega)).mono ?_
     rintro r h' ⟨rfl,rfl⟩
     try refine sq F ?_
     skip
     refine wk F ?_
     refine kq F (hT _ (by first|omega| (simp;omega))) ?_
     refine ee hQ F ?_
     exact dJ hn (j9 hn _ l) ⟨by simp[tgF,k1,km],rfl⟩
    ·have n1:(e.n==1)=false:=by simp[k1]
     have n0:(e.n==0)=false:=by simp[k0]
     have F:=F2 n1 n0
     skip
     refine sb [.tmp 4] (fn:=Tryz.f57) Tryz.func57 ?_
     intro Q hQ
     refine wn F ?_
     refine bF 8 0 _ (by rfl) (by decide+kernel) (by kernel_rfl) (by decide+kernel) (by decide+kernel) (by decide+kernel) ?_
     simp only[List.take_succ_cons,List.take_zero]
     refine sq F ?_
     refine wn F ?_
     rw[hg]
     refine(cw G hn _ l hn0 (by omega)).mono ?_
     rintro r h' ⟨rfl,rfl⟩
     try refine sq F ?_
     skip
     refine wk F ?_
     refine kq F (hT _ (by first|omega| (simp;omega))) ?_
     refine ee hQ F ?_
     exact dJ hn (j9 hn _ l) ⟨by simp[tgF,k1,k0,km],rfl⟩
  ·have hd:decide (e.s∈l)=false:=by simp[km]
   rw[hd]at hT
   by_cases k1:e.n=1
   ·have F:=k1
    skip
    refine sb [.tmp 4] (fn:=Tryz.f57) Tryz.func57 ?_
    intro Q hQ
    refine wn F ?_
    refine bF 8 0 _ (by rfl) (by decide+kernel) (by kernel_rfl) (by decide+kernel) (by decide+kernel) (by decide+kernel) ?_
    simp only[List.take_succ_cons,List.take_zero]
    refine sq F ?_
    refine wn F ?_
    rw[hg]
    refine(cw G hn _ l hn0 (by omega)).mono ?_
    rintro r h' ⟨rfl,rfl⟩
    try refine sq F ?_
    skip
    refine wk F ?_
    skip
    refine kx F (hT _ (by first|omega| (simp;omega))) ?_
    refine kx F (qR G hn _ l e.s hn0 hl) ?_
    skip
    refine ee hQ F ?_
    exact aj hn (iq _ _) ⟨by simp[tgF,k1,km],rfl⟩
   ·by_cases k0:e.n=0
    ·have F:=k0
     skip
     refine sb [.tmp 4] (fn:=Tryz.f57) Tryz.func57 ?_
     intro Q hQ
     refine wn F ?_
     refine bF 8 0 _ (by rfl) (by decide+kernel) (by kernel_rfl) (by decide+kernel) (by decide+kernel) (by decide+kernel) ?_
     simp only[List.take_succ_cons,List.take_zero]
     refine sq F ?_
     refine wn F ?_
     rw[hg]
     refine(cw G hn _ l hn0 (by omega)).mono ?_
     rintro r h' ⟨rfl,rfl⟩
     try refine sq F ?_
     skip
     refine wk F ?_
     refine kq F (hT _ (by first|omega| (simp;omega))) ?_
     refine ee hQ F ?_
     exact dJ hn (j9 hn _ l) ⟨by simp[tgF,k0,km],rfl⟩
    ·have n1:(e.n==1)=false:=by simp[k1]
     have n0:(e.n==0)=false:=by simp[k0]
     have F:=F2 n1 n0
     skip
     refine sb [.tmp 4] (fn:=Tryz.f57) Tryz.func57 ?_
     intro Q hQ
     refine wn F ?_
     refine bF 8 0 _ (by rfl) (by decide+kernel) (by kernel_rfl) (by decide+kernel) (by decide+kernel) (by decide+kernel) ?_
     simp only[List.take_succ_cons,List.take_zero]
     refine sq F ?_
     refine wn F ?_
     rw[hg]
     refine(cw G hn _ l hn0 (by omega)).mono ?_
     rintro r h' ⟨rfl,rfl⟩
     try refine sq F ?_
     skip
     refine wk F ?_
     refine kq F (hT _ (by first|omega| (simp;omega))) ?_
     refine ee hQ F ?_
     exact dJ hn (j9 hn _ l) ⟨by simp[tgF,k1,k0,km],rfl⟩
end Go.Av
namespace Go.Av
open Go Go.Proofs Go.RowKit
attribute [local irreducible] WP WPl WPix Sat
variable (G:Nat→Option (List AVal))
theorem xe(h:Heap)(s:PS):h++s.bl h.length=so (h++PS.z.bl h.length) h.length s:=by
 have:=j1 h (s.bl h.length) []
 rw[List.append_nil]at this
 rw[this];unfold so
 have hz:ov (h++PS.z.bl h.length) h.length (PS.z.bl h.length)=h++PS.z.bl h.length:=by
  have:=j1 h (PS.z.bl h.length) []
  rw[List.append_nil]at this;exact this.symm
 apply List.ext_getElem?
 intro p
 rw[aO (by simp),aO (by simp[PS.bl])]
 split
 ·rfl
 ·rename_i hp
  rcases Nat.lt_or_ge p h.length with h1|h1
  ·rw[List.getElem?_append_left h1,List.getElem?_append_left h1]
  ·rw[List.getElem?_append_right h1,List.getElem?_append_right h1,List.getElem?_eq_none (by simp[PS.bl]at hp ⊢;omega),List.getElem?_eq_none (by simp[PS.bl]at hp ⊢;omega)]
@[go_sem] theorem DA(p:Nat):(AVal.hm p).cells=[.hm p]:=(rfl)
@[go_sem] theorem Ge(p:Nat):(AVal.hm p).lies=true:=(rfl)
theorem qT(h:Heap):Sat (CT G) 30 [] h (fun r h'=>r=.hp (h.length+8) 0 0 0∧h'=so (h++PS.z.bl h.length) h.length PS.z):=by
 rw[← xe]
 refine sb [.tmp 0] (fn:=Tryz.f30) Tryz.func30 ?_
 intro Q hQ
 refine wk trivial ?_
 refine ee hQ trivial ?_
 refine Fin.whole (by simp) (.hp _ _ _ _ (by simp)) ⟨rfl,?_⟩
 simp[PS.bl,PS.z,encM,PS.row]
theorem p9(es:List Ev)(hl:es.length≤1048576)(I:PS→Prop)(okF:PS→Ev→Bool)(stp:PS→Ev→PS)(hI0:I PS.z)(hI:∀s e,e∈es→I s→I (stp s e))
  (hA:∀s e,e∈es→I s→∀(n:Nat) (H:Heap),n+9≤H.length→Sat (CT G) 31 [.hp (n+8) 0 0 0,e.av] (so H n s) (fun r h'=>r=.bool (okF s e)∧h'=so H n (stp s e)))(h:Heap):
  Sat (CT G) 10 [.sl 7 (es.map Ev.av)] h (fun r h'=>r=.hp (h.length+8) 0 0 0∧h'=so (h++PS.z.bl h.length) h.length (es.foldl stp PS.z)):=by
 have hIk:∀k,I ((es.take k).foldl stp PS.z):=by
  intro k
  induction k with
  |zero=>exact hI0
  |succ k ih=>
   rw[List.take_add_one,List.foldl_append]
   cases he:es[k]? with
   |none=>exact ih
   |some e=>exact hI _ _ (List.mem_of_getElem? he) ih
 have hz9:(PS.z.bl h.length).length=9:=rfl
 generalize hH:h++PS.z.bl h.length=H0
 have hl0:h.length+9≤H0.length:=by rw[← hH];simp[hz9]
 have hN:=qT G h
 rw[hH]at hN
 refine sb [.tmp 2] (fn:=Tryz.f10) Tryz.func10 ?_
 intro Q hQ
 refine wk trivial ?_
 refine kq trivial (hN) ?_
 refine lm (fun nL tL hL=>∃(k:Nat) (j:Heap),es.length-k=nL∧so (H0++j) h.length ((es.take k).foldl stp PS.z)=hL∧tL 3=.hp (h.length+8) 0 0 0∧tL 7=.sl 7 (es.map Ev.av)∧tL 8=.int .i64 es.length∧tL 9=.int .i64 k∧k≤es.length) ((fun(k:Nat) (j:Heap)=>(es.length-k:Nat)) (0) ([])) ?_ ?_
 ·refine Wkn.refl ⟨0,[],rfl,aC,?_,?_,?_,?_,by omega⟩
  all_goals first|exact zq trivial|rfl|omega|trivial|skip
 rintro _ s2 h' ⟨k,j,rfl,rfl,e3,e7,e8,e9,hk⟩ K2 hK2
 simp only[ai,ap,Nat.reduceEqDiff, ↓reduceIte]at e3 e7 e8 e9
 have F:=F4 e3 e7 e8 e9
 refine wk F ?_
 have hn1:h.length+9≤(H0++j).length:=by simp;omega
 refine cq F (fun c1=>?_) (fun c1=>?_)<;>(try exact c1.elim)<;>(refine wk F ?_)
 ·have c2:k<es.length:=by omega
  obtain⟨e,he⟩:∃e,es[k]? =some e:=⟨es[k],List.getElem?_eq_getElem c2⟩
  have hem:=List.mem_of_getElem? he
  have F:=F3 F c2 he
  try refine sq F ?_
  refine wk F ?_
  refine kq F (hA _ e hem (hIk k) _ _ (by first|omega| (simp;omega))) ?_
  have ht:(es.take (k+1)).foldl stp PS.z=stp ((es.take k).foldl stp PS.z) e:=by rw[List.take_add_one,List.foldl_append,he];rfl
  refine hK2 _ _ _ (Wkn.refl ⟨k+1,j++[.row 62 7 0 [e.av]],rfl,by rw[ht];rfl,?_,?_,?_,?_,by omega⟩) (by omega)
  all_goals first|exact zq F|rfl|omega|trivial|skip
 ·have hk2:k=es.length:=by omega
  subst hk2
  have htk:es.take es.length=es:=List.take_length
  rw[htk]
  refine wk F ?_
  refine ee hQ F ?_
  rw[← b9 hl0]
  refine Fin.upto (by rw[aJ hl0];omega) ?_ (.hp _ _ _ _ (by rw[aJ hl0];omega)) ⟨rfl,rfl⟩
  rw[aJ hl0]
  have:=xe h (es.foldl stp PS.z)
  rw[hH]at this
  rw[← this]
  exact(KeepC.refl h _).app (PS.clo hl0 _)
end Go.Av
namespace Go.Av
open Go Go.Proofs Go.RowKit
attribute [local irreducible] WP WPl WPix Sat
variable (G:Nat→Option (List AVal))
def btw(c a b:Int):Bool:=decide (a≤c)&&decide (c≤b)
theorem bS(c a b:Int)(h:Heap):Sat (CT G) 256 [.int .i32 c,.int .i32 a,.int .i32 b] h (fun r h'=>r=.bool (btw c a b)∧h'=h):=by
 by_cases k:a≤c
 ·have k2:decide (c≥a)=true:=by simpa using k
  have F:=k2
  refine sb [.tmp 6] (fn:=Tryz.f256) Tryz.func256 ?_
  intro Q hQ
  refine wk F ?_
  refine ee hQ F ?_
  exact Fin.same (.bool _) ⟨by simp[btw,k],rfl⟩
 ·have k2:decide (c≥a)=false:=by simpa using k
  have F:=k2
  refine sb [.tmp 6] (fn:=Tryz.f256) Tryz.func256 ?_
  intro Q hQ
  refine wk F ?_
  refine ee hQ F ?_
  exact Fin.same (.bool _) ⟨by simp[btw,k],rfl⟩
def foldR(c:Int):Int:=
 if c=215∨c=930 then c else if btw c 65 90∨btw c 192 222∨btw c 913 937∨btw c 1040 1071 then c+32 else if btw c 1024 1039 then c+80 else c
theorem fu{c:Int}(h:Rune c):Rune (foldR c):=by
 unfold foldR btw
 simp only[Bool.and_eq_true,decide_eq_true_eq]
 unfold Rune at*
 split
 ·exact h
 ·split
  ·omega
  ·split<;>omega
theorem qY(c:Int)(hc:Rune c)(h:Heap):Sat (CT G) 243 [.int .i32 c] h (fun r h'=>r=.int .i32 (foldR c)∧h'=h):=by
 have c0:0≤c∧c≤1114111:=by unfold Rune at hc;omega
 obtain⟨c1,c2⟩:=c0
 by_cases k1:c=215
 ·subst k1
  refine sb [.tmp 2] (fn:=Tryz.f243) Tryz.func243 ?_
  intro Q hQ
  refine wk trivial ?_
  refine ee hQ trivial ?_
  exact Fin.same (.int _ _) ⟨rfl,rfl⟩
 by_cases k2:c=930
 ·subst k2
  refine sb [.tmp 2] (fn:=Tryz.f243) Tryz.func243 ?_
  intro Q hQ
  refine wk trivial ?_
  refine ee hQ trivial ?_
  exact Fin.same (.int _ _) ⟨rfl,rfl⟩
 have w32:IntKind.i32.wrap (c+32)=c+32:=bQ (by omega) (by omega)
 have w80:IntKind.i32.wrap (c+80)=c+80:=bQ (by omega) (by omega)
 have n1:(c==215)=false:=by simp[k1]
 have n2:(c==930)=false:=by simp[k2]
 have b1:=bS G c 65 90
 have b2:=bS G c 192 222
 have b3:=bS G c 913 937
 have b4:=bS G c 1040 1071
 have b5:=bS G c 1024 1039
 cases h1:btw c 65 90
 ·cases h2:btw c 192 222
  ·cases h3:btw c 913 937
   ·cases h4:btw c 1040 1071
    ·cases h5:btw c 1024 1039
     ·rw[h1]at b1;rw[h2]at b2;rw[h3]at b3;rw[h4]at b4;rw[h5]at b5
      have F:=F2 n1 n2
      refine sb [.tmp 2] (fn:=Tryz.f243) Tryz.func243 ?_
      intro Q hQ
      refine wk F ?_
      refine kq F (b1 _) ?_
      refine kq F (b2 _) ?_
      refine kq F (b3 _) ?_
      refine kq F (b4 _) ?_
      refine kq F (b5 _) ?_
      refine ee hQ F ?_
      exact Fin.same (.int _ _) ⟨by simp[foldR,k1,k2,h1,h2,h3,h4,h5,w32,w80],rfl⟩
     ·rw[h1]at b1;rw[h2]at b2;rw[h3]at b3;rw[h4]at b4;rw[h5]at b5
      have F:=F2 n1 n2
      refine sb [.tmp 2] (fn:=Tryz.f243) Tryz.func243 ?_
      intro Q hQ
      refine wk F ?_
      refine kq F (b1 _) ?_
      refine kq F (b2 _) ?_
      refine kq F (b3 _) ?_
      refine kq F (b4 _) ?_
      refine kq F (b5 _) ?_
      refine ee hQ F ?_
      exact Fin.same (.int _ _) ⟨by simp[foldR,k1,k2,h1,h2,h3,h4,h5,w32,w80],rfl⟩
    ·rw[h1]at b1;rw[h2]at b2;rw[h3]at b3;rw[h4]at b4
     have F:=F2 n1 n2
     refine sb [.tmp 2] (fn:=Tryz.f243) Tryz.func243 ?_
     intro Q hQ
     refine wk F ?_
     refine kq F (b1 _) ?_
     refine kq F (b2 _) ?_
     refine kq F (b3 _) ?_
     refine kq F (b4 _) ?_
     refine ee hQ F ?_
     exact Fin.same (.int _ _) ⟨by simp[foldR,k1,k2,h1,h2,h3,h4,w32],rfl⟩
   ·rw[h1]at b1;rw[h2]at b2;rw[h3]at b3
    have F:=F2 n1 n2
    refine sb [.tmp 2] (fn:=Tryz.f243) Tryz.func243 ?_
    intro Q hQ
    refine wk F ?_
    refine kq F (b1 _) ?_
    refine kq F (b2 _) ?_
    refine kq F (b3 _) ?_
    refine ee hQ F ?_
    exact Fin.same (.int _ _) ⟨by simp[foldR,k1,k2,h1,h2,h3,w32],rfl⟩
  ·rw[h1]at b1;rw[h2]at b2
   have F:=F2 n1 n2
   refine sb [.tmp 2] (fn:=Tryz.f243) Tryz.func243 ?_
   intro Q hQ
   refine wk F ?_
   refine kq F (b1 _) ?_
   refine kq F (b2 _) ?_
   refine ee hQ F ?_
   exact Fin.same (.int _ _) ⟨by simp[foldR,k1,k2,h1,h2,w32],rfl⟩
 ·rw[h1]at b1
  have F:=F2 n1 n2
  refine sb [.tmp 2] (fn:=Tryz.f243) Tryz.func243 ?_
  intro Q hQ
  refine wk F ?_
  refine kq F (b1 _) ?_
  refine ee hQ F ?_
  exact Fin.same (.int _ _) ⟨by simp[foldR,k1,k2,h1,w32],rfl⟩
def foldS(s:Bs):Bs:=encs ((runesF s).map foldR)
theorem r7(s:Bs)(hs:s.length≤1000000)(h:Heap):Sat (CT G) 213 [.str s] h (fun r h'=>r=.str (foldS s)∧h'=h):=by
 have F:= @lO
 refine sb [.tmp 2] (fn:=Tryz.f213) Tryz.func213 ?_
 intro Q hQ
 (repeat (first|refine w1 (fun K hK=>?_)|refine w2 ?_|refine w3 ?_| ((first|refine w4 ?_|refine wD ?_|refine w5 ?_|refine w6 ?_|refine w7 ?_);try refine sq F ?_)| (refine w8 ?_;refine sq F ?_;refine w9 ?_)))
 refine hK _ _ (Wkn.refl ?_)
 clear hK K
 (repeat (first|refine w1 (fun K hK=>?_)|refine w2 ?_|refine w3 ?_| ((first|refine w4 ?_|refine wD ?_|refine w5 ?_|refine w6 ?_|refine w7 ?_);try refine sq F ?_)| (refine w8 ?_;refine sq F ?_;refine w9 ?_)))
 refine hK _ _ ⟨_,_,Weak.virtCell (p:=h.length) (v:=0) 5 1 (by omega) (by simp(disch:=first|omega| (simp only[go_sem, ↓reduceIte,seval];first|done|omega)|fail) only[go_sem, ↓reduceIte,seval,F];rfl) 1 rfl,?_⟩
 clear hK K
 (repeat (first|refine w1 (fun K hK=>?_)|refine w2 ?_|refine w3 ?_| ((first|refine w4 ?_|refine wD ?_|refine w5 ?_|refine w6 ?_|refine w7 ?_);try refine sq F ?_)| (refine w8 ?_;refine sq F ?_;refine w9 ?_)| ((first|refine hK _ _ (w0 ?_)| (clear hK K;refine hK _ _ (w0 ?_))| (clear hK K;clear hK K;refine hK _ _ (w0 ?_)));clear hK K)))
 refine lm (fun nL tL hL=>∃(a:AVal) (v k:Nat) (out:List Int),s.length-k=nL∧bldH h [.iter s k] a v (encs out)=hL∧bldA a h.length∧k≤s.length∧out++(runesF (s.drop k)).map foldR=(runesF s).map foldR∧(encs out).length+4*(s.length-k)≤4*s.length) ((fun(a:AVal) (v k:Nat) (out:List Int)=>(s.length-k:Nat)) ((.nil (.pointer none))) (0) (0) ([])) ?_ ?_
 ·refine Wkn.refl ⟨(.nil (.pointer none)),0,0,[],rfl,by simp[bldH,bldR,bufR,encs],.inl rfl,by omega,by simp,by simp[encs]⟩
  all_goals first|exact zq F|rfl|omega|trivial|skip
 rintro _ s2 h' ⟨a,v,k,out,rfl,rfl,ha,hk,hv,hl⟩ K2 hK2
 (repeat (first|refine w1 (fun K hK=>?_)|refine w2 ?_|refine w3 ?_| ((first|refine w4 ?_|refine wD ?_|refine w5 ?_|refine w6 ?_|refine w7 ?_);try refine sq F ?_)| (refine w8 ?_;refine sq F ?_;refine w9 ?_)| ((first|refine hK _ _ (w0 ?_)| (clear hK K;refine hK _ _ (w0 ?_))| (clear hK K;clear hK K;refine hK _ _ (w0 ?_)));clear hK K)))
 refine ff (lN _ _ _ _ _ _ _) (fun hlt=>?_) (fun hge=>?_)
 ·have hR:=iB s k hlt
  have hp:=bg s k hlt
  rw[er s k hlt,List.map_cons]at hv
  rw[show Utf8.decode ⟨s.toArray⟩ k=dec s k from rfl]
  generalize dec s k=d at*
  obtain⟨c,m⟩:=d
  simp only[]at hR hp hv ⊢
  have hR2:=fu hR
  have he:=dL (foldR c)
  have e2:encs (out++[foldR c])=encs out++enc (foldR c):=by
   simp only[encs,List.flatMap_append,List.flatMap_cons,List.flatMap_nil,List.append_nil]
  try refine sq F ?_
  (repeat (first|refine w1 (fun K hK=>?_)|refine w2 ?_|refine w3 ?_| ((first|refine w4 ?_|refine wD ?_|refine w5 ?_|refine w6 ?_|refine w7 ?_);try refine sq F ?_)| (refine w8 ?_;refine sq F ?_;refine w9 ?_)| ((first|refine hK _ _ (w0 ?_)| (clear hK K;refine hK _ _ (w0 ?_))| (clear hK K;clear hK K;refine hK _ _ (w0 ?_)));clear hK K)))
  refine(qY G c hR _).mono ?_
  rintro r h' ⟨rfl,rfl⟩
  try refine sq F ?_
  (repeat (first|refine w1 (fun K hK=>?_)|refine w2 ?_|refine w3 ?_| ((first|refine w4 ?_|refine wD ?_|refine w5 ?_|refine w6 ?_|refine w7 ?_);try refine sq F ?_)| (refine w8 ?_;refine sq F ?_;refine w9 ?_)| ((first|refine hK _ _ (w0 ?_)| (clear hK K;refine hK _ _ (w0 ?_))| (clear hK K;clear hK K;refine hK _ _ (w0 ?_)));clear hK K)))
  refine(dn G a (foldR c) hR2 h [.iter s (k+m)] v (encs out) ha (by omega)).mono ?_
  rintro r h' ⟨rfl,rfl⟩
  try refine sq F ?_
  (repeat (first|refine w1 (fun K hK=>?_)|refine w2 ?_|refine w3 ?_| ((first|refine w4 ?_|refine wD ?_|refine w5 ?_|refine w6 ?_|refine w7 ?_);try refine sq F ?_)| (refine w8 ?_;refine sq F ?_;refine w9 ?_)| ((first|refine hK _ _ (w0 ?_)| (clear hK K;refine hK _ _ (w0 ?_))| (clear hK K;clear hK K;refine hK _ _ (w0 ?_)));clear hK K)))
  refine hK2 _ _ _ (Wkn.refl ⟨(.hp h.length 0 0 0),v+1,k+m,out++[foldR c],rfl,by rw[e2],.inr rfl,by omega,by rw[← hv];simp,by rw[e2];simp only[List.length_append];omega⟩) (by omega)
  all_goals first|exact zq F|rfl|omega|trivial|skip
 ·rw[dC s k (by omega)]at hv
  try refine sq F ?_
  (repeat (first|refine w1 (fun K hK=>?_)|refine w2 ?_|refine w3 ?_| ((first|refine w4 ?_|refine wD ?_|refine w5 ?_|refine w6 ?_|refine w7 ?_);try refine sq F ?_)| (refine w8 ?_;refine sq F ?_;refine w9 ?_)| ((first|refine hK _ _ (w0 ?_)| (clear hK K;refine hK _ _ (w0 ?_))| (clear hK K;clear hK K;refine hK _ _ (w0 ?_)));clear hK K)))
  refine(jb G a h [.iter s k] v (encs out)).mono ?_
  rintro r h' ⟨rfl,b2,rfl⟩
  try refine sq F ?_
  (repeat (first|refine w1 (fun K hK=>?_)|refine w2 ?_|refine w3 ?_| ((first|refine w4 ?_|refine wD ?_|refine w5 ?_|refine w6 ?_|refine w7 ?_);try refine sq F ?_)| (refine w8 ?_;refine sq F ?_;refine w9 ?_)| ((first|refine hK _ _ (w0 ?_)| (clear hK K;refine hK _ _ (w0 ?_))| (clear hK K;clear hK K;refine hK _ _ (w0 ?_)));clear hK K)))
  refine ee hQ F ?_
  exact Fin.plainE (j:=[bldR a (h.length+1) v (encs out),b2,.iter s k]) (by simp) (.str _) ⟨congrArg AVal.str (by unfold foldS;rw[← hv];simp),rfl⟩
theorem di(s:Bs):(foldS s).length≤4*s.length:=by
 unfold foldS
 have h1:=(iC ((runesF s).map foldR)).1
 have h2:=bX s.length s (Nat.le_refl _)
 rw[List.length_map]at h1
 omega
end Go.Av
namespace Go.Av
open Go Go.Proofs Go.RowKit
attribute [local irreducible] WP WPl WPix Sat
variable (G:Nat→Option (List AVal))
def shN:Nat→Bs→Nat→Nat
 |0,_,_=>0
 |f+1,s,n=>if s=[]then 0 else if n=32 then 0 else(dec s 0).2+shN f (s.drop (dec s 0).2) (n+1)
def shW(s:Bs):Bs:=s.take (shN s.length s 0)
theorem tJ:∀(f:Nat) (s:Bs) (n:Nat),s.length≤f→shN f s n=shN s.length s n:=by
 intro f
 induction f using Nat.strongRecOn with
 |ind f ih=>
  intro s n hs
  cases s with
  |nil=>cases f<;>rfl
  |cons b t=>
   obtain⟨f,rfl⟩:∃g,f=g+1:=⟨f-1,by simp at hs;omega⟩
   have hd:=bg (b::t) 0 (by simp)
   simp only[List.length_cons]at hs hd ⊢
   have hl:((b::t).drop (dec (b::t) 0).2).length≤t.length:=by simp only[List.length_drop,List.length_cons];omega
   rw[shN,shN,if_neg (show ¬(b::t)=[] by simp),if_neg (show ¬(b::t)=[] by simp),ih f (by omega) _ _ (by omega),ih t.length (by omega) _ _ hl]
def shA(s:Bs)(k n:Nat):Nat:=shN (s.drop k).length (s.drop k) n
theorem vB(s:Bs)(k n:Nat)(h:s.length≤k):shA s k n=0:=by unfold shA;rw[List.drop_of_length_le h];rfl
theorem xp(s:Bs)(k n:Nat)(h:k<s.length):shA s k n=if n=32 then 0 else(dec s k).2+shA s (k+(dec s k).2) (n+1):=by
 have hd:=bg s k h
 have hl:(s.drop k).length=(s.length-k-1)+1:=by rw[List.length_drop];omega
 unfold shA
 rw[hl,shN,if_neg (by intro e;rw[e]at hl;simp at hl), ← bR,List.drop_drop,tJ (s.length-k-1) _ _ (by simp only[List.length_drop];omega)]
theorem pu(s:Bs)(hs:s.length≤100000000)(h:Heap):Sat (CT G) 216 [.str s] h (fun r h'=>r=.str (shW s)∧h'=h):=by
 refine sb [.tmp 2] (fn:=Tryz.f216) Tryz.func216 ?_
 intro Q hQ
 refine wk trivial ?_
 refine lm (fun nL tL hL=>∃(k n:Nat),s.length-k=nL∧h++[.iter s k]=hL∧tL 3=.int .i64 n∧k≤s.length∧n≤32∧k+shA s k n=shN s.length s 0) ((fun(k n:Nat)=>(s.length-k:Nat)) (0) (0)) ?_ ?_
 ·refine Wkn.refl ⟨0,0,rfl,aC,?_,by omega,by omega,by simp[shA]⟩
  all_goals first|exact zq trivial|rfl|omega|trivial|skip
 rintro _ s2 h' ⟨k,n,rfl,rfl,e3,hk,hn,hc⟩ K2 hK2
 simp only[ai,ap,Nat.reduceEqDiff, ↓reduceIte]at e3
 have F:=e3
 refine wk F ?_
 refine ff (nK _ _ _ _) (fun hlt=>?_) (fun hge=>?_)
 ·have hp:=bg s k hlt
  have hca:=xp s k n hlt
  rw[show Utf8.decode ⟨s.toArray⟩ k=dec s k from rfl]
  generalize dec s k=d at*
  obtain⟨c,m⟩:=d
  simp only[]at hp hca ⊢
  try refine sq F ?_
  refine wk F ?_
  refine cq F (fun c1=>?_) (fun c1=>?_)<;>(try exact c1.elim)<;>(refine wk F ?_)
  ·have c2:n=32:=by omega
   rw[if_pos c2]at hca
   refine ee hQ F ?_
   refine fR (.str _) ?_
   unfold shW
   congr 2
   omega
  ·have c2:¬n=32:=by omega
   rw[if_neg c2]at hca
   refine hK2 _ _ _ (Wkn.refl ⟨k+m,n+1,rfl,aC,?_,by omega,by omega,by omega⟩) (by omega)
   all_goals first|exact zq F|rfl|omega|trivial|skip
 ·rw[vB s k n (by omega)]at hc
  try refine sq F ?_
  refine wk F ?_
  refine ee hQ F ?_
  refine fR (.str _) ?_
  unfold shW
  rw[← hc,List.take_of_length_le (by omega)]
def wordsF(s:Bs):List Bs:=(fldsF (foldS s)).map shW
theorem tK(s:Bs):∀w∈fldsF s,w.length≤s.length:=fun w hw=>by
 unfold fldsF Lib.goFieldsP at hw
 rw[List.map_map]at hw
 obtain⟨x,_,rfl⟩:=List.mem_map.1 hw
 simp only[Function.comp,ByteArray.extract,ByteArray.copySlice,Array.toList_append,Array.toList_extract,List.length_append]
 simp[List.extract]
 omega
theorem dj(p:Nat→Bool)(s:ByteArray):∀(f pos:Nat) (st:Option Nat) (acc:List (Nat×Nat)),(Lib.spansFromP p s f pos st acc).1.length≤acc.length+f
 |0,_,_,acc=>by simp[Lib.spansFromP]
 |f+1,pos,st,acc=>by
  unfold Lib.spansFromP
  split
  ·split
   ·cases st with
    |some a=>have:=dj p s f (pos+(Utf8.decode s pos).2) none (acc++[(a,pos)]);simp only[List.length_append,List.length_cons,List.length_nil]at this;simp only;omega
    |none=>have:=dj p s f (pos+(Utf8.decode s pos).2) none acc;simp only;omega
   ·cases st with
    |some a=>have:=dj p s f (pos+(Utf8.decode s pos).2) (some a) acc;simp only;omega
    |none=>have:=dj p s f (pos+(Utf8.decode s pos).2) (some pos) acc;simp only;omega
  ·simp only;omega
theorem lP(s:Bs):(fldsF s).length≤s.length+1:=by
 unfold fldsF Lib.goFieldsP Lib.spansOfP
 rw[List.length_map,List.length_map]
 have:=dj (fun r=> !letF r) ⟨s.toArray⟩ (ByteArray.size ⟨s.toArray⟩) 0 none []
 have hsz:ByteArray.size ⟨s.toArray⟩=s.length:=by simp[ByteArray.size]
 rw[hsz]at this ⊢
 unfold Lib.closeSpans
 simp only[List.length_nil]at this
 split
 ·simp only[List.length_append,List.length_cons,List.length_nil];omega
 ·omega
theorem fw(s:Bs)(hs:s.length≤100000)(h:Heap):Sat (CT G) 175 [.str s] h (fun r h'=>r=.sl 1 ((wordsF s).map .str)∧h'=h):=by
 have hfl:=di s
 have hwl:=tK (foldS s)
 have hn:=lP (foldS s)
 refine sb [.tmp 2] (fn:=Tryz.f175) Tryz.func175 ?_
 intro Q hQ
 refine wk trivial ?_
 refine kq trivial (r7 G s (by omega) _) ?_
 refine(pm G (foldS s) (by omega) _).mono ?_
 unfold wordsF at hQ
 generalize fldsF (foldS s)=ws at*
 rintro r h' (⟨hw0,rfl,he⟩| ⟨hw0,rfl,rfl⟩)
 ·subst hw0
  rw[he]
  try refine sq trivial ?_
  refine wk trivial ?_
  refine lm (fun nL tL hL=>0=nL∧[]++h=hL∧tL 3=.sl 1 []∧tL 10=.int .i64 0∧tL 11=.int .i64 0) (0) ?_ ?_
  ·refine Wkn.refl ⟨rfl,rfl,?_,?_,?_⟩
   all_goals first|exact zq trivial|rfl|omega|trivial|skip
  rintro _ s2 h' ⟨rfl,rfl,e3,e10,e11⟩ K2 hK2
  simp only[ai,ap,Nat.reduceEqDiff, ↓reduceIte]at e3 e10 e11
  have F:=F3 e3 e10 e11
  refine wk F ?_
  refine cq F (fun c1=>?_) (fun c1=>?_)<;>(try exact c1.elim)<;>(refine wk F ?_)
  refine ye hQ F ?_
  exact Fin.same (Clo.sl 1 [] fun x hx=>by cases hx) ⟨rfl,rfl⟩
 ·try refine sq trivial ?_
  refine wk trivial ?_
  refine lm (fun nL tL hL=>∃(k:Nat),ws.length-k=nL∧h++[.row 9 1 0 (((ws.take k).map shW++ws.drop k).map .str)]=hL∧tL 3=.hs h.length 0 0 ws.length true∧tL 9=.hs h.length 0 0 ws.length true∧tL 10=.int .i64 (ws.length:Int)∧tL 11=.int .i64 k∧k≤ws.length) ((fun(k:Nat)=>(ws.length-k:Nat)) (0)) ?_ ?_
  ·refine Wkn.refl ⟨0,rfl,aC,?_,?_,?_,?_,by omega⟩
   all_goals first|exact zq trivial|rfl|omega|trivial|skip
  rintro _ s2 h' ⟨k,rfl,rfl,e3,e9,e10,e11,hk⟩ K2 hK2
  simp only[ai,ap,Nat.reduceEqDiff, ↓reduceIte]at e3 e9 e10 e11
  have F:=F4 e3 e9 e10 e11
  refine wk F ?_
  refine cq F (fun c1=>?_) (fun c1=>?_)<;>(try exact c1.elim)<;>(refine wk F ?_)
  ·have c2:k<ws.length:=by omega
   obtain⟨y,hy,hym⟩:=af c2
   have hyl:=hwl y hym
   have hget:((ws.take k).map shW++ws.drop k)[k]? =some y:=by
    rw[List.getElem?_append_right (by simp;omega),List.length_map,List.length_take,Nat.min_eq_left (by omega),Nat.sub_self,List.getElem?_drop];simpa using hy
   have hset:(((ws.take k).map shW++ws.drop k).map AVal.str).set k (.str (shW y))=((ws.take (k+1)).map shW++ws.drop (k+1)).map .str:=by
    have h1:(AVal.str (shW y))=AVal.str (shW y):=rfl
    rw[← List.map_set]
    congr 1
    rw[List.set_append_right _ _ (by simp;omega),List.length_map,List.length_take,Nat.min_eq_left (by omega),Nat.sub_self,aA hy,List.set_cons_zero,List.take_add_one,hy]
    simp
   have hlen:(((ws.take k).map shW++ws.drop k).map AVal.str).length=ws.length:=by simp;omega
   generalize hrw:(ws.take k).map shW++ws.drop k=rw at*
   have F:=F6 F c2 @hget @hset @hlen @aw
   try refine sq F ?_
   refine wk F ?_
   refine kq F (pu G y (by omega) _) ?_
   refine hK2 _ _ _ (Wkn.refl ⟨k+1,rfl,rfl,?_,?_,?_,?_,by omega⟩) (by omega)
   all_goals first|exact zq F|rfl|omega|trivial|skip
  ·have hk2:k=ws.length:=by omega
   subst hk2
   have hfin:(ws.take ws.length).map shW++ws.drop ws.length=ws.map shW:=by rw[List.take_length,List.drop_length,List.append_nil]
   rw[hfin]
   have hg:getRow (h++[.row 9 1 0 ((ws.map shW).map .str)]) h.length 0=some (9,1,(ws.map shW).map .str):=by rw[aI _ rfl];simp[getRow]
   have hz:=Frz.data (n:=h.length) (len:=ws.length) (room:=true) (Nat.le_refl _) hg (by simp) (fun r hr=>by obtain⟨a,_,rfl⟩:=List.mem_map.1 hr;exact .str _) (fun r hr c hc=>by obtain⟨a,_,rfl⟩:=List.mem_map.1 hr;simp[AVal.cells]at hc;subst hc;rfl)
   refine ye hQ F ?_
   exact Fin.frz hz ⟨rfl,rfl⟩
def isF(s:Bs):Bool:=decide (wordsF s=[s])
theorem nM(s:Bs)(hs:s.length≤100000)(h:Heap):Sat (CT G) 160 [.str s] h (fun r h'=>r=.bool (isF s)∧h'=h):=by
 have hW:=fw G s hs
 unfold isF
 generalize wordsF s=ws at*
 match ws with
 | []=>
  refine sb [.tmp 2] (fn:=Tryz.f160) Tryz.func160 ?_
  intro Q hQ
  refine wk trivial ?_
  refine kq trivial (hW _) ?_
  refine ee hQ trivial ?_
  exact Fin.same (.bool _) ⟨by simp,rfl⟩
 | [w]=>
  refine sb [.tmp 2] (fn:=Tryz.f160) Tryz.func160 ?_
  intro Q hQ
  refine wk trivial ?_
  refine kq trivial (hW _) ?_
  refine ee hQ trivial ?_
  exact Fin.same (.bool _) ⟨by simp;rw[Bool.eq_iff_iff];simp,rfl⟩
 |w::v::l=>
  refine sb [.tmp 2] (fn:=Tryz.f160) Tryz.func160 ?_
  intro Q hQ
  refine wk trivial ?_
  refine kq trivial (hW _) ?_
  (first|refine gq trivial (fun g=>?_) (fun g=>?_)|refine pq trivial (fun g=>?_) (fun g=>?_))<;>(try exact g.elim)<;>(try refine sq trivial ?_)<;>(refine wk trivial ?_)
  ·exfalso;first|omega| (simp at g;omega)
  ·refine ee hQ trivial ?_
   exact Fin.same (.bool _) ⟨by simp,rfl⟩
end Go.Av
namespace Go.Av
open Go Go.Proofs Go.RowKit
attribute [local irreducible] WP WPl WPix Sat
variable (G:Nat→Option (List AVal))
theorem kz{x:Int}(h0:0≤x)(h1:x<256):IntKind.u8.wrap x=x:=by
 simp only[IntKind.wrap,IntKind.bits,IntKind.signed];simp;omega
theorem u4(k:IntKind)(n:Int)(h0:0≤n)(h1:n<256):aconv Tryz.prog 21 5 (.int k n)=some (.int .u8 n):=by simp only[aconv,go_sem,kz h0 h1]
theorem vD{a b:Int}(h0:0≤a):a.tdiv b=a/b:=Int.tdiv_eq_ediv_of_nonneg h0
theorem vE{a b:Int}(h0:0≤a):a.tmod b=a%b:=Int.tmod_eq_emod_of_nonneg h0
theorem Bytes.clo(n m:Nat)(l:Bs):Clo n (.sl m (l.map bytA)):=.sl _ _ fun e he=>by obtain⟨a,_,rfl⟩:=List.mem_map.1 he;exact .int _ _
theorem nP(r:Int)(hr:Rune r)(h:Heap):Sat (CT G) 219 [.int .i32 r] h (fun x h'=>x=.sl 1 ((enc r).map bytA)∧h'=h):=by
 obtain⟨h0,h1⟩:=id hr
 have n64:((64:Int)=0)=False:=by decide
 have F:=F4 @u4 @bQ @vD @vE
 refine sb [.tmp 2] (fn:=Tryz.f219) Tryz.func219 ?_
 intro Q hQ
 (repeat (first|refine w1 (fun K hK=>?_)|refine w2 ?_|refine w3 ?_| ((first|refine w4 ?_|refine wD ?_|refine w5 ?_|refine w6 ?_|refine w7 ?_);try refine sq F ?_)| (refine w8 ?_;refine sq F ?_;refine w9 ?_)| (refine rq F ?_;try refine sq F ?_)| (refine vq F ?_;try refine sq F ?_)| ((first|refine hK _ _ (w0 ?_)| (clear hK K;refine hK _ _ (w0 ?_))| (clear hK K;clear hK K;refine hK _ _ (w0 ?_)));clear hK K)))
 (first|refine gq F (fun g1=>?_) (fun g1=>?_)|refine pq F (fun g1=>?_) (fun g1=>?_))<;>(try exact g1.elim)<;>(try refine sq F ?_)<;>((repeat (first|refine w1 (fun K hK=>?_)|refine w2 ?_|refine w3 ?_| ((first|refine w4 ?_|refine wD ?_|refine w5 ?_|refine w6 ?_|refine w7 ?_);try refine sq F ?_)| (refine w8 ?_;refine sq F ?_;refine w9 ?_)| (refine rq F ?_;try refine sq F ?_)| (refine vq F ?_;try refine sq F ?_)| ((first|refine hK _ _ (w0 ?_)| (clear hK K;refine hK _ _ (w0 ?_))| (clear hK K;clear hK K;refine hK _ _ (w0 ?_)));clear hK K))))
 ·exfalso;omega
 ·have big:∀(t':Env),t' 0=.int .i32 r→t' 16=.bool false→K t' h:=by
   intro t' e0 e16
   refine hK _ _ (Wkn.refl ?_)
   clear hK K
   have F:=F3 F e0 e16
   (repeat (first|refine w1 (fun K hK=>?_)|refine w2 ?_|refine w3 ?_| ((first|refine w4 ?_|refine wD ?_|refine w5 ?_|refine w6 ?_|refine w7 ?_);try refine sq F ?_)| (refine w8 ?_;refine sq F ?_;refine w9 ?_)| (refine rq F ?_;try refine sq F ?_)| (refine vq F ?_;try refine sq F ?_)| ((first|refine hK _ _ (w0 ?_)| (clear hK K;refine hK _ _ (w0 ?_))| (clear hK K;clear hK K;refine hK _ _ (w0 ?_)));clear hK K)))
   have fin:∀l:List AVal,(enc r).map bytA=l→Fin h h (fun x h'=>x=.sl 1 ((enc r).map bytA)∧h'=h) (.sl 1 l):=fun l e=>by
    rw[← e];exact iv (.clo _ (Bytes.clo _ _ _)) ⟨rfl,rfl⟩
   refine cq F (fun c1=>?_) (fun c1=>?_)<;>(try exact c1.elim)<;>((repeat (first|refine w1 (fun K hK=>?_)|refine w2 ?_|refine w3 ?_| ((first|refine w4 ?_|refine wD ?_|refine w5 ?_|refine w6 ?_|refine w7 ?_);try refine sq F ?_)| (refine w8 ?_;refine sq F ?_;refine w9 ?_)| (refine rq F ?_;try refine sq F ?_)| (refine vq F ?_;try refine sq F ?_)| ((first|refine hK _ _ (w0 ?_)| (clear hK K;refine hK _ _ (w0 ?_))| (clear hK K;clear hK K;refine hK _ _ (w0 ?_)));clear hK K))))
   ·refine ee hQ F ?_
    exact fin _ (xh h0 c1)
   ·refine cq F (fun c2=>?_) (fun c2=>?_)<;>(try exact c2.elim)<;>((repeat (first|refine w1 (fun K hK=>?_)|refine w2 ?_|refine w3 ?_| ((first|refine w4 ?_|refine wD ?_|refine w5 ?_|refine w6 ?_|refine w7 ?_);try refine sq F ?_)| (refine w8 ?_;refine sq F ?_;refine w9 ?_)| (refine rq F ?_;try refine sq F ?_)| (refine vq F ?_;try refine sq F ?_)| ((first|refine hK _ _ (w0 ?_)| (clear hK K;refine hK _ _ (w0 ?_))| (clear hK K;clear hK K;refine hK _ _ (w0 ?_)));clear hK K))))
    ·refine ee hQ F ?_
     exact fin _ (by rw[xi c1 c2])
    ·refine cq F (fun c3=>?_) (fun c3=>?_)<;>(try exact c3.elim)<;>((repeat (first|refine w1 (fun K hK=>?_)|refine w2 ?_|refine w3 ?_| ((first|refine w4 ?_|refine wD ?_|refine w5 ?_|refine w6 ?_|refine w7 ?_);try refine sq F ?_)| (refine w8 ?_;refine sq F ?_;refine w9 ?_)| (refine rq F ?_;try refine sq F ?_)| (refine vq F ?_;try refine sq F ?_)| ((first|refine hK _ _ (w0 ?_)| (clear hK K;refine hK _ _ (w0 ?_))| (clear hK K;clear hK K;refine hK _ _ (w0 ?_)));clear hK K))))
     ·refine ee hQ F ?_
      exact fin _ (by rw[tF hr c2 c3])
     ·refine ee hQ F ?_
      exact fin _ (by rw[xj c3 (by omega)])
  (first|refine gq F (fun g2=>?_) (fun g2=>?_)|refine pq F (fun g2=>?_) (fun g2=>?_))<;>(try exact g2.elim)<;>(try refine sq F ?_)<;>((repeat (first|refine w1 (fun K hK=>?_)|refine w2 ?_|refine w3 ?_| ((first|refine w4 ?_|refine wD ?_|refine w5 ?_|refine w6 ?_|refine w7 ?_);try refine sq F ?_)| (refine w8 ?_;refine sq F ?_;refine w9 ?_)| (refine rq F ?_;try refine sq F ?_)| (refine vq F ?_;try refine sq F ?_)| ((first|refine hK _ _ (w0 ?_)| (clear hK K;refine hK _ _ (w0 ?_))| (clear hK K;clear hK K;refine hK _ _ (w0 ?_)));clear hK K))))
  ·exfalso;omega
  ·(first|refine gq F (fun g3=>?_) (fun g3=>?_)|refine pq F (fun g3=>?_) (fun g3=>?_))<;>(try exact g3.elim)<;>(try refine sq F ?_)<;>((repeat (first|refine w1 (fun K hK=>?_)|refine w2 ?_|refine w3 ?_| ((first|refine w4 ?_|refine wD ?_|refine w5 ?_|refine w6 ?_|refine w7 ?_);try refine sq F ?_)| (refine w8 ?_;refine sq F ?_;refine w9 ?_)| (refine rq F ?_;try refine sq F ?_)| (refine vq F ?_;try refine sq F ?_)| ((first|refine hK _ _ (w0 ?_)| (clear hK K;refine hK _ _ (w0 ?_))| (clear hK K;clear hK K;refine hK _ _ (w0 ?_)));clear hK K))))
   ·have e:decide (r≤57343)=false:=by rw[decide_eq_false_iff_not];omega
    refine big _ ?_ ?_
    ·exact zq F
    ·exact zq (F2 F e)
   ·refine big _ ?_ ?_
    ·exact zq F
    ·exact zq F
theorem i8:bytesStr Tryz.prog 228 9=true:=by kernel_rfl
def runA(r:Int):AVal:=.int .i32 r
@[go_sem] theorem Ac(r:Int):(runA r).cells=[.int .i32 r]:=(rfl)
theorem vF(l:List Int)(hr:∀r∈l,Rune r)(hl:l.length≤1048576)(h:Heap):Sat (CT G) 181 [.sl 1 (l.map runA)] h (fun x h'=>x=.str (l.flatMap enc)∧h'=h):=by
 have hll:(l.map runA).length=l.length:=List.length_map ..
 have F:=hll
 refine sb [.tmp 2] (fn:=Tryz.f181) Tryz.func181 ?_
 intro Q hQ
 refine wk F ?_
 refine lm (fun nL tL hL=>∃(k v:Nat) (acc:Bs),l.length-k=nL∧h++[.row 5 1 v (acc.map bytA)]=hL∧tL 3=.hs h.length v 0 acc.length true∧tL 4=.int .i64 k∧k≤l.length∧acc++(l.drop k).flatMap enc=l.flatMap enc∧acc.length≤4*k) ((fun(k v:Nat) (acc:Bs)=>(l.length-k:Nat)) (0) (0) ([])) ?_ ?_
 ·refine⟨_,_,Weak.virt 3 5 1 (by simp) (by omega) (by exact zq F),⟨0,0,[],rfl,aC,?_,?_,?_,?_,?_⟩⟩
  all_goals first|exact zq F|rfl|omega|trivial|skip
 rintro _ s2 h' ⟨k,v,acc,rfl,rfl,e3,e4,hk,hp,hz⟩ K2 hK2
 simp only[ai,ap,Nat.reduceEqDiff, ↓reduceIte]at e3 e4
 have F:=F3 F e3 e4
 refine wk F ?_
 refine cq F (fun hc=>?_) (fun hc=>?_)<;>(try exact hc.elim)
 ·obtain⟨y,hy,hym⟩:=af hc
  rw[aA hy,List.flatMap_cons]at hp
  have he:=dL y
  have hel:((enc y).map bytA).length=(enc y).length:=List.length_map ..
  have F:=F2 F hy
  refine wk F ?_
  refine kq F (nP G y (hr y hym) _) ?_
  refine aq F ?_
  try refine sq F ?_
  refine wk F ?_
  refine hK2 _ _ _ (Wkn.refl ⟨k+1,v+1,acc++enc y,rfl,aC,?_,?_,by omega,by rw[← hp];simp,by simp;omega⟩) (by omega)
  all_goals first|exact zq F|rfl|omega|trivial|skip
 ·rw[aB hc,List.flatMap_nil,List.append_nil]at hp
  have hb:=ft acc
  have hel:elemsOf (h++[.row 5 1 v (acc.map bytA)]) 1 (.hs h.length v 0 acc.length true)=some (acc.map bytA):=by
   simp[elemsOf,getRow,List.take_of_length_le]
  have F:=F4 F hb hel @i8
  refine wk F ?_
  refine ee hQ F ?_
  rw[← hp]
  exact Fin.plainE (j:=_) rfl (.str _) ⟨rfl,rfl⟩
end Go.Av
namespace Go.Av
open Go Go.Proofs Go.RowKit
attribute [local irreducible] WP WPl WPix Sat
variable (G:Nat→Option (List AVal))
def bA(s:Bs)(i:Nat):Nat:=(s.getD i 0).toNat
theorem uH(s:Bs)(i:Nat):bA s i<256:=UInt8.toNat_lt _
theorem uI{s:Bs}{i:Nat}{c:UInt8}(h:s[i]? =some c):bA s i=c.toNat:=by unfold bA;rw[List.getD_eq_getElem?_getD,h];rfl
def Cls(b:Nat)(n:Nat)(r l:Int):Prop:=
 (192≤b∧b<224∧n=2∧r=b-192∧l=128)∨(224≤b∧b<240∧n=3∧r=b-224∧l=2048)∨(240≤b∧b<248∧n=4∧r=b-240∧l=65536)
def accI(s:Bs)(r:Int):Nat→Int
 |0=>r
 |i+1=>accI s r i*64+(bA s (i+1)-128)
theorem kS(s:Bs):dec s 0=Lib.decodeN s.length (bA s 0) (bA s 1) (bA s 2) (bA s 3):=by rw[ep];rfl
theorem jh(s:Bs)(h:(128≤bA s 0∧bA s 0<192)∨248≤bA s 0):dec s 0=(65533,1):=by
 rw[kS]
 have:=uH s 0
 unfold Lib.decodeN
 rw[if_neg (by omega),if_neg (by omega),if_neg (by omega),if_neg (by omega)]
theorem ng(s:Bs){n:Nat}{r l:Int}(hc:Cls (bA s 0) n r l)(h:s.length<n):dec s 0=(65533,1):=by
 rw[kS]
 unfold Cls at hc
 unfold Lib.decodeN
 rw[if_neg (by omega),if_neg (by omega),if_neg (by omega),if_neg (by omega)]
theorem pE(s:Bs){n:Nat}{r l:Int}(hc:Cls (bA s 0) n r l)(i:Nat)(h1:1≤i)(h2:i<n)(h:¬(128≤bA s i∧bA s i<192)):dec s 0=(65533,1):=by
 rw[kS]
 unfold Cls at hc
 have:=uH s i
 unfold Lib.decodeN
 have hi:i=1∨i=2∨i=3:=by omega
 rcases hi with rfl|rfl|rfl<;>rw[if_neg (by omega),if_neg (by omega),if_neg (by omega),if_neg (by omega)]
theorem rD(s:Bs){n:Nat}{r l:Int}(hc:Cls (bA s 0) n r l)(hn:n≤s.length)(ht:∀i,1≤i→i<n→128≤bA s i∧bA s i<192):
  ((accI s r (n-1)<l∨1114111<accI s r (n-1)∨(55296≤accI s r (n-1)∧accI s r (n-1)≤57343))→dec s 0=(65533,1))∧
  (¬(accI s r (n-1)<l∨1114111<accI s r (n-1)∨(55296≤accI s r (n-1)∧accI s r (n-1)≤57343))→((dec s 0).1:Int)=accI s r (n-1)∧(dec s 0).2=n):=by
 rw[kS]
 unfold Cls at hc
 rcases hc with⟨h1,h2,rfl,rfl,rfl⟩| ⟨h1,h2,rfl,rfl,rfl⟩| ⟨h1,h2,rfl,rfl,rfl⟩
 ·have t1:=ht 1 (by omega) (by omega)
  simp only[accI,Nat.reduceSub,Nat.reduceAdd]
  unfold Lib.decodeN
  rw[if_neg (by omega),if_pos (by omega)]
  constructor
  ·intro h;rw[if_neg (by omega)]
  ·intro h;rw[if_pos (by omega)];dsimp only;refine⟨?_,rfl⟩;omega
 ·have t1:=ht 1 (by omega) (by omega)
  have t2:=ht 2 (by omega) (by omega)
  simp only[accI,Nat.reduceSub,Nat.reduceAdd]
  unfold Lib.decodeN
  rw[if_neg (by omega),if_neg (by omega),if_pos (by omega)]
  constructor
  ·intro h;rw[if_neg (by omega)]
  ·intro h;rw[if_pos (by omega)];dsimp only;refine⟨?_,rfl⟩;omega
 ·have t1:=ht 1 (by omega) (by omega)
  have t2:=ht 2 (by omega) (by omega)
  have t3:=ht 3 (by omega) (by omega)
  simp only[accI,Nat.reduceSub,Nat.reduceAdd]
  unfold Lib.decodeN
  rw[if_neg (by omega),if_neg (by omega),if_neg (by omega),if_pos (by omega)]
  constructor
  ·intro h;rw[if_neg (by omega)]
  ·intro h;rw[if_pos (by omega)];dsimp only;refine⟨?_,rfl⟩;omega
theorem rE(b:UInt8)(h:Heap):Sat (CT G) 245 [.int .u8 b.toNat] h (fun r h'=>r=.bool (decide (128≤b.toNat∧b.toNat<192))∧h'=h):=by
 refine sb [.tmp 2] (fn:=Tryz.f245) Tryz.func245 ?_
 intro Q hQ
 refine wk trivial ?_
 (first|refine gq trivial (fun g1=>?_) (fun g1=>?_)|refine pq trivial (fun g1=>?_) (fun g1=>?_))<;>(try exact g1.elim)<;>(try refine sq trivial ?_)<;>(refine wk trivial ?_)
 ·refine ee hQ trivial ?_
  refine fR (.bool _) ?_
  congr 1
  rw[Bool.eq_iff_iff];simp;omega
 ·refine ee hQ trivial ?_
  refine fR (.bool _) ?_
  rw[decide_eq_false (by omega)]
theorem u5(k:IntKind)(n:Int)(h0:0≤n)(h1:n<256):aconv Tryz.prog 5 21 (.int k n)=some (.int .i32 n):=by simp only[aconv,go_sem,bQ (x:=n) (by omega) (by omega)]
theorem gf(s:Bs)(hne:s≠ [])(hs:s.length≤1073741824)(h:Heap):Sat (CT G) 217 [.str s] h (fun r h'=>r=.tup [.int .i32 (dec s 0).1,.int .i64 (dec s 0).2]∧h'=h):=by
 have hpos:0<s.length:=List.length_pos_iff.2 hne
 obtain⟨b,hb,_⟩:=af hpos
 have hbA:=uI hb
 have hb256:=b.toNat_lt
 have fin:∀c w:Int,((dec s 0).1:Int)=c→((dec s 0).2:Int)=w→Fin h h (fun r h'=>r=.tup [.int .i32 (dec s 0).1,.int .i64 (dec s 0).2]∧h'=h) (.tup [.int .i32 c,.int .i64 w]):=fun c w e1 e2=>by
  rw[e1,e2]
  exact Fin.same (.tup _ (by intro c hc;simp at hc;rcases hc with rfl|rfl<;>exact .int _ _)) ⟨rfl,rfl⟩
 have bad:dec s 0=(65533,1)→Fin h h (fun r h'=>r=.tup [.int .i32 (dec s 0).1,.int .i64 (dec s 0).2]∧h'=h) (.tup [.int .i32 65533,.int .i64 1]):=fun e=>fin _ _ (by rw[e];rfl) (by rw[e];rfl)
 have F:=F4 @u5 @kz @bQ hb
 refine sb [.tmp 2,.tmp 3] (fn:=Tryz.f217) Tryz.func217 ?_
 intro Q hQ
 (repeat (first|refine w1 (fun K hK=>?_)|refine w2 ?_|refine w3 ?_| ((first|refine w4 ?_|refine wD ?_|refine w5 ?_|refine w6 ?_|refine w7 ?_);try refine sq F ?_)| (refine w8 ?_;refine sq F ?_;refine w9 ?_)| ((first|refine hK _ _ (w0 ?_)| (clear hK K;refine hK _ _ (w0 ?_))| (clear hK K;clear hK K;refine hK _ _ (w0 ?_)));clear hK K)))
 refine cq F (fun c1=>?_) (fun c1=>?_)<;>(try exact c1.elim)<;>((repeat (first|refine w1 (fun K hK=>?_)|refine w2 ?_|refine w3 ?_| ((first|refine w4 ?_|refine wD ?_|refine w5 ?_|refine w6 ?_|refine w7 ?_);try refine sq F ?_)| (refine w8 ?_;refine sq F ?_;refine w9 ?_)| ((first|refine hK _ _ (w0 ?_)| (clear hK K;refine hK _ _ (w0 ?_))| (clear hK K;clear hK K;refine hK _ _ (w0 ?_)));clear hK K))))
 ·refine ee hQ F ?_
  have e:=kj s 0 b hb (by omega)
  exact fin _ _ (by rw[e]) (by rw[e];rfl)
 rename_i K0 hK0
 have tail:∀(t':Env) (n:Nat) (r l:Int),Cls (bA s 0) n r l→t' 0=.str s→t' 5=.int .i64 n→t' 6=.int .i32 r→t' 7=.int .i32 l→K0 t' h:=by
  intro t' n r l hc e0 e5 e6 e7
  refine hK0 _ _ (Wkn.refl ?_)
  clear hK0 K0 hK K
  have F:=F5 F e0 e5 e6 e7
  (repeat (first|refine w1 (fun K hK=>?_)|refine w2 ?_|refine w3 ?_| ((first|refine w4 ?_|refine wD ?_|refine w5 ?_|refine w6 ?_|refine w7 ?_);try refine sq F ?_)| (refine w8 ?_;refine sq F ?_;refine w9 ?_)| ((first|refine hK _ _ (w0 ?_)| (clear hK K;refine hK _ _ (w0 ?_))| (clear hK K;clear hK K;refine hK _ _ (w0 ?_)));clear hK K)))
  refine cq F (fun c2=>?_) (fun c2=>?_)<;>(try exact c2.elim)<;>((repeat (first|refine w1 (fun K hK=>?_)|refine w2 ?_|refine w3 ?_| ((first|refine w4 ?_|refine wD ?_|refine w5 ?_|refine w6 ?_|refine w7 ?_);try refine sq F ?_)| (refine w8 ?_;refine sq F ?_;refine w9 ?_)| ((first|refine hK _ _ (w0 ?_)| (clear hK K;refine hK _ _ (w0 ?_))| (clear hK K;clear hK K;refine hK _ _ (w0 ?_)));clear hK K))))
  ·refine ee hQ F ?_
   exact bad (ng s hc (by omega))
  have hc':=hc
  unfold Cls at hc'
  refine lm (fun nL tL hL=>∃(i:Nat) (q:Int),n-i=nL∧h=hL∧tL 6=.int .i32 q∧tL 8=.int .i64 i∧(1≤i∧i≤n)∧q=accI s r (i-1)∧(0≤q∧(i=1→q<32)∧(i=2→q<2048)∧(i=3→q<131072)∧(i=4→q<8388608))∧(∀j,1≤j→j<i→128≤bA s j∧bA s j<192)) ((fun(i:Nat) (q:Int)=>(n-i:Nat)) (1) (r)) ?_ ?_
  ·refine Wkn.refl ⟨1,r,rfl,aC,?_,?_,⟨by omega,by omega⟩,rfl,⟨by omega,by omega,by omega,by omega,by omega⟩,fun j h1 h2=>by omega⟩
   all_goals first|exact zq F|rfl|omega|trivial|skip
  rintro _ s1 h' ⟨i,q,rfl,rfl,e6,e8,hi,hq,hb,ht⟩ K1 hK1
  simp only[ai,ap,Nat.reduceEqDiff, ↓reduceIte]at e6 e8
  have F:=F3 F e6 e8
  (repeat (first|refine w1 (fun K hK=>?_)|refine w2 ?_|refine w3 ?_| ((first|refine w4 ?_|refine wD ?_|refine w5 ?_|refine w6 ?_|refine w7 ?_);try refine sq F ?_)| (refine w8 ?_;refine sq F ?_;refine w9 ?_)| ((first|refine hK _ _ (w0 ?_)| (clear hK K;refine hK _ _ (w0 ?_))| (clear hK K;clear hK K;refine hK _ _ (w0 ?_)));clear hK K)))
  refine cq F (fun c3=>?_) (fun c3=>?_)<;>(try exact c3.elim)<;>((repeat (first|refine w1 (fun K hK=>?_)|refine w2 ?_|refine w3 ?_| ((first|refine w4 ?_|refine wD ?_|refine w5 ?_|refine w6 ?_|refine w7 ?_);try refine sq F ?_)| (refine w8 ?_;refine sq F ?_;refine w9 ?_)| ((first|refine hK _ _ (w0 ?_)| (clear hK K;refine hK _ _ (w0 ?_))| (clear hK K;clear hK K;refine hK _ _ (w0 ?_)));clear hK K))))
  ·obtain⟨y,hy,_⟩:=af (show i<s.length by omega)
   have hyA:=uI hy
   have hy256:=y.toNat_lt
   have F:=F2 F hy
   try refine sq F ?_
   (repeat (first|refine w1 (fun K hK=>?_)|refine w2 ?_|refine w3 ?_| ((first|refine w4 ?_|refine wD ?_|refine w5 ?_|refine w6 ?_|refine w7 ?_);try refine sq F ?_)| (refine w8 ?_;refine sq F ?_;refine w9 ?_)| ((first|refine hK _ _ (w0 ?_)| (clear hK K;refine hK _ _ (w0 ?_))| (clear hK K;clear hK K;refine hK _ _ (w0 ?_)));clear hK K)))
   refine(rE G y _).mono ?_
   rintro r h' ⟨rfl,rfl⟩
   try refine sq F ?_
   (repeat (first|refine w1 (fun K hK=>?_)|refine w2 ?_|refine w3 ?_| ((first|refine w4 ?_|refine wD ?_|refine w5 ?_|refine w6 ?_|refine w7 ?_);try refine sq F ?_)| (refine w8 ?_;refine sq F ?_;refine w9 ?_)| ((first|refine hK _ _ (w0 ?_)| (clear hK K;refine hK _ _ (w0 ?_))| (clear hK K;clear hK K;refine hK _ _ (w0 ?_)));clear hK K)))
   refine cq F (fun c4=>?_) (fun c4=>?_)<;>(try exact c4.elim)<;>((repeat (first|refine w1 (fun K hK=>?_)|refine w2 ?_|refine w3 ?_| ((first|refine w4 ?_|refine wD ?_|refine w5 ?_|refine w6 ?_|refine w7 ?_);try refine sq F ?_)| (refine w8 ?_;refine sq F ?_;refine w9 ?_)| ((first|refine hK _ _ (w0 ?_)| (clear hK K;refine hK _ _ (w0 ?_))| (clear hK K;clear hK K;refine hK _ _ (w0 ?_)));clear hK K))))
   ·refine ee hQ F ?_
    exact bad (pE s hc i hi.1 c3 (by rw[hyA];omega))
   ·have hacc:accI s r i=accI s r (i-1)*64+(bA s i-128):=by
     obtain⟨k,rfl⟩:∃k,i=k+1:=⟨i-1,by omega⟩
     rfl
    have hi4:i=1∨i=2∨i=3:=by omega
    have ht':∀j,1≤j→j<i+1→128≤bA s j∧bA s j<192:=fun j h1 h2=>by
     rcases Nat.lt_or_ge j i with h3|h3
     ·exact ht j h1 h3
     ·obtain rfl:j=i:=by omega
      rw[hyA];omega
    have hq':q*64+((y.toNat:Int)-128)=accI s r (i+1-1):=by rw[Nat.add_sub_cancel,hacc, ← hq,hyA]
    try refine sq F ?_
    (repeat (first|refine w1 (fun K hK=>?_)|refine w2 ?_|refine w3 ?_| ((first|refine w4 ?_|refine wD ?_|refine w5 ?_|refine w6 ?_|refine w7 ?_);try refine sq F ?_)| (refine w8 ?_;refine sq F ?_;refine w9 ?_)| ((first|refine hK _ _ (w0 ?_)| (clear hK K;refine hK _ _ (w0 ?_))| (clear hK K;clear hK K;refine hK _ _ (w0 ?_)));clear hK K)))
    refine hK1 _ _ _ (Wkn.refl ⟨i+1,q*64+(y.toNat-128),rfl,aC,?_,?_,⟨by omega,by omega⟩,hq',by omega,ht'⟩) (by omega)
    all_goals first|exact zq F|rfl|omega|trivial|skip
  ·have hin:i=n:=by omega
   subst hin
   obtain⟨f1,f2⟩:=rD s hc (by omega) ht
   rw[← hq]at f1 f2
   try refine sq F ?_
   (repeat (first|refine w1 (fun K hK=>?_)|refine w2 ?_|refine w3 ?_| ((first|refine w4 ?_|refine wD ?_|refine w5 ?_|refine w6 ?_|refine w7 ?_);try refine sq F ?_)| (refine w8 ?_;refine sq F ?_;refine w9 ?_)| ((first|refine hK _ _ (w0 ?_)| (clear hK K;refine hK _ _ (w0 ?_))| (clear hK K;clear hK K;refine hK _ _ (w0 ?_)));clear hK K)))
   (first|refine gq F (fun g1=>?_) (fun g1=>?_)|refine pq F (fun g1=>?_) (fun g1=>?_))<;>(try exact g1.elim)<;>(try refine sq F ?_)<;>((repeat (first|refine w1 (fun K hK=>?_)|refine w2 ?_|refine w3 ?_| ((first|refine w4 ?_|refine wD ?_|refine w5 ?_|refine w6 ?_|refine w7 ?_);try refine sq F ?_)| (refine w8 ?_;refine sq F ?_;refine w9 ?_)| ((first|refine hK _ _ (w0 ?_)| (clear hK K;refine hK _ _ (w0 ?_))| (clear hK K;clear hK K;refine hK _ _ (w0 ?_)));clear hK K))))
   ·refine ee hQ F ?_
    exact bad (f1 (by omega))
   ·(first|refine gq F (fun g2=>?_) (fun g2=>?_)|refine pq F (fun g2=>?_) (fun g2=>?_))<;>(try exact g2.elim)<;>(try refine sq F ?_)<;>((repeat (first|refine w1 (fun K hK=>?_)|refine w2 ?_|refine w3 ?_| ((first|refine w4 ?_|refine wD ?_|refine w5 ?_|refine w6 ?_|refine w7 ?_);try refine sq F ?_)| (refine w8 ?_;refine sq F ?_;refine w9 ?_)| ((first|refine hK _ _ (w0 ?_)| (clear hK K;refine hK _ _ (w0 ?_))| (clear hK K;clear hK K;refine hK _ _ (w0 ?_)));clear hK K))))
    ·refine ee hQ F ?_
     exact bad (f1 (by omega))
    ·(first|refine gq F (fun g3=>?_) (fun g3=>?_)|refine pq F (fun g3=>?_) (fun g3=>?_))<;>(try exact g3.elim)<;>(try refine sq F ?_)<;>((repeat (first|refine w1 (fun K hK=>?_)|refine w2 ?_|refine w3 ?_| ((first|refine w4 ?_|refine wD ?_|refine w5 ?_|refine w6 ?_|refine w7 ?_);try refine sq F ?_)| (refine w8 ?_;refine sq F ?_;refine w9 ?_)| ((first|refine hK _ _ (w0 ?_)| (clear hK K;refine hK _ _ (w0 ?_))| (clear hK K;clear hK K;refine hK _ _ (w0 ?_)));clear hK K))))
     ·refine cq F (fun g4=>?_) (fun g4=>?_)<;>(try exact g4.elim)<;>((repeat (first|refine w1 (fun K hK=>?_)|refine w2 ?_|refine w3 ?_| ((first|refine w4 ?_|refine wD ?_|refine w5 ?_|refine w6 ?_|refine w7 ?_);try refine sq F ?_)| (refine w8 ?_;refine sq F ?_;refine w9 ?_)| ((first|refine hK _ _ (w0 ?_)| (clear hK K;refine hK _ _ (w0 ?_))| (clear hK K;clear hK K;refine hK _ _ (w0 ?_)));clear hK K))))
      ·refine ee hQ F ?_
       exact bad (f1 (by omega))
      ·refine ee hQ F ?_
       exact fin _ _ (f2 (by omega)).1 (by rw[(f2 (by omega)).2])
     ·refine ee hQ F ?_
      exact fin _ _ (f2 (by omega)).1 (by rw[(f2 (by omega)).2])
 (first|refine gq F (fun g1=>?_) (fun g1=>?_)|refine pq F (fun g1=>?_) (fun g1=>?_))<;>(try exact g1.elim)<;>(try refine sq F ?_)<;>((repeat (first|refine w1 (fun K hK=>?_)|refine w2 ?_|refine w3 ?_| ((first|refine w4 ?_|refine wD ?_|refine w5 ?_|refine w6 ?_|refine w7 ?_);try refine sq F ?_)| (refine w8 ?_;refine sq F ?_;refine w9 ?_)| ((first|refine hK _ _ (w0 ?_)| (clear hK K;refine hK _ _ (w0 ?_))| (clear hK K;clear hK K;refine hK _ _ (w0 ?_)));clear hK K))))
 ·refine cq F (fun g2=>?_) (fun g2=>?_)<;>(try exact g2.elim)<;>((repeat (first|refine w1 (fun K hK=>?_)|refine w2 ?_|refine w3 ?_| ((first|refine w4 ?_|refine wD ?_|refine w5 ?_|refine w6 ?_|refine w7 ?_);try refine sq F ?_)| (refine w8 ?_;refine sq F ?_;refine w9 ?_)| ((first|refine hK _ _ (w0 ?_)| (clear hK K;refine hK _ _ (w0 ?_))| (clear hK K;clear hK K;refine hK _ _ (w0 ?_)));clear hK K))))
  ·refine tail _ 2 (b.toNat-192) 128 ?_ ?_ ?_ ?_ ?_
   ·unfold Cls;omega
   ·exact zq F
   ·exact zq F
   ·exact zq F
   ·exact zq F
  ·(first|refine gq F (fun g3=>?_) (fun g3=>?_)|refine pq F (fun g3=>?_) (fun g3=>?_))<;>(try exact g3.elim)<;>(try refine sq F ?_)<;>((repeat (first|refine w1 (fun K hK=>?_)|refine w2 ?_|refine w3 ?_| ((first|refine w4 ?_|refine wD ?_|refine w5 ?_|refine w6 ?_|refine w7 ?_);try refine sq F ?_)| (refine w8 ?_;refine sq F ?_;refine w9 ?_)| ((first|refine hK _ _ (w0 ?_)| (clear hK K;refine hK _ _ (w0 ?_))| (clear hK K;clear hK K;refine hK _ _ (w0 ?_)));clear hK K))))
   ·refine cq F (fun g4=>?_) (fun g4=>?_)<;>(try exact g4.elim)<;>((repeat (first|refine w1 (fun K hK=>?_)|refine w2 ?_|refine w3 ?_| ((first|refine w4 ?_|refine wD ?_|refine w5 ?_|refine w6 ?_|refine w7 ?_);try refine sq F ?_)| (refine w8 ?_;refine sq F ?_;refine w9 ?_)| ((first|refine hK _ _ (w0 ?_)| (clear hK K;refine hK _ _ (w0 ?_))| (clear hK K;clear hK K;refine hK _ _ (w0 ?_)));clear hK K))))
    ·refine tail _ 3 (b.toNat-224) 2048 ?_ ?_ ?_ ?_ ?_
     ·unfold Cls;omega
     ·exact zq F
     ·exact zq F
     ·exact zq F
     ·exact zq F
    ·(first|refine gq F (fun g5=>?_) (fun g5=>?_)|refine pq F (fun g5=>?_) (fun g5=>?_))<;>(try exact g5.elim)<;>(try refine sq F ?_)<;>((repeat (first|refine w1 (fun K hK=>?_)|refine w2 ?_|refine w3 ?_| ((first|refine w4 ?_|refine wD ?_|refine w5 ?_|refine w6 ?_|refine w7 ?_);try refine sq F ?_)| (refine w8 ?_;refine sq F ?_;refine w9 ?_)| ((first|refine hK _ _ (w0 ?_)| (clear hK K;refine hK _ _ (w0 ?_))| (clear hK K;clear hK K;refine hK _ _ (w0 ?_)));clear hK K))))
     ·refine cq F (fun g6=>?_) (fun g6=>?_)<;>(try exact g6.elim)<;>((repeat (first|refine w1 (fun K hK=>?_)|refine w2 ?_|refine w3 ?_| ((first|refine w4 ?_|refine wD ?_|refine w5 ?_|refine w6 ?_|refine w7 ?_);try refine sq F ?_)| (refine w8 ?_;refine sq F ?_;refine w9 ?_)| ((first|refine hK _ _ (w0 ?_)| (clear hK K;refine hK _ _ (w0 ?_))| (clear hK K;clear hK K;refine hK _ _ (w0 ?_)));clear hK K))))
      ·refine tail _ 4 (b.toNat-240) 65536 ?_ ?_ ?_ ?_ ?_
       ·unfold Cls;omega
       ·exact zq F
       ·exact zq F
       ·exact zq F
       ·exact zq F
      ·refine ee hQ F ?_
       exact bad (jh s (by omega))
     ·exfalso;omega
   ·exfalso;omega
 ·(first|refine gq F (fun g3=>?_) (fun g3=>?_)|refine pq F (fun g3=>?_) (fun g3=>?_))<;>(try exact g3.elim)<;>(try refine sq F ?_)<;>((repeat (first|refine w1 (fun K hK=>?_)|refine w2 ?_|refine w3 ?_| ((first|refine w4 ?_|refine wD ?_|refine w5 ?_|refine w6 ?_|refine w7 ?_);try refine sq F ?_)| (refine w8 ?_;refine sq F ?_;refine w9 ?_)| ((first|refine hK _ _ (w0 ?_)| (clear hK K;refine hK _ _ (w0 ?_))| (clear hK K;clear hK K;refine hK _ _ (w0 ?_)));clear hK K))))
  ·exfalso;omega
  ·(first|refine gq F (fun g5=>?_) (fun g5=>?_)|refine pq F (fun g5=>?_) (fun g5=>?_))<;>(try exact g5.elim)<;>(try refine sq F ?_)<;>((repeat (first|refine w1 (fun K hK=>?_)|refine w2 ?_|refine w3 ?_| ((first|refine w4 ?_|refine wD ?_|refine w5 ?_|refine w6 ?_|refine w7 ?_);try refine sq F ?_)| (refine w8 ?_;refine sq F ?_;refine w9 ?_)| ((first|refine hK _ _ (w0 ?_)| (clear hK K;refine hK _ _ (w0 ?_))| (clear hK K;clear hK K;refine hK _ _ (w0 ?_)));clear hK K))))
   ·exfalso;omega
   ·refine ee hQ F ?_
    exact bad (jh s (by omega))
end Go.Av
namespace Go.Av
open Go Go.Proofs Go.RowKit
attribute [local irreducible] WP WPl WPix Sat
variable (G:Nat→Option (List AVal))
theorem u6:∀(l:List Int),∀r∈l.map runA,∀c∈r.cells,c.sto=true:=fun l r hr c hc=>by
 obtain⟨a,_,rfl⟩:=List.mem_map.1 hr
 simp[runA,AVal.cells]at hc;subst hc;rfl
theorem u7:∀(n:Nat) (l:List Int),∀r∈l.map runA,Clo n r:=fun n l r hr=>by
 obtain⟨a,_,rfl⟩:=List.mem_map.1 hr;exact .int _ _
theorem Frz.runes{h:Heap}{n q v e:Nat}{l:List Int}{len:Nat}{room:Bool}(hq:n≤q)(hg:getRow h q v=some (e,1,l.map runA))(hlen:len=l.length):Frz h n (.hs q v 0 len room) (.sl 1 (l.map runA)):=
 Frz.data hq hg (by simpa using hlen) (fun r hr=>u7 _ l r hr) (fun r hr=>u6 l r hr)
theorem kA(s:Bs)(hs:s.length≤1048576)(h:Heap):Sat (CT G) 178 [.str s] h (fun r h'=>r=.sl 1 ((runesF s).map runA)∧h'=h):=by
 refine sb [.tmp 2] (fn:=Tryz.f178) Tryz.func178 ?_
 intro Q hQ
 refine wk trivial ?_
 refine lm (fun nL tL hL=>∃(k v:Nat) (acc:List Int),s.length-k=nL∧h++[.row 21 1 v (acc.map runA)]=hL∧tL 0=.str (s.drop k)∧tL 3=.hs h.length v 0 acc.length true∧k≤s.length∧acc.length≤k∧acc++runesF (s.drop k)=runesF s) ((fun(k v:Nat) (acc:List Int)=>(s.length-k:Nat)) (0) (0) ([])) ?_ ?_
 ·refine⟨_,_,Weak.virt 3 21 1 (by simp) (by omega) (by exact zq trivial),⟨0,0,[],rfl,aC,?_,?_,?_,?_,?_⟩⟩
  all_goals first|exact zq trivial|rfl|omega|trivial|skip
 rintro _ s2 h' ⟨k,v,acc,rfl,rfl,e0,e3,hk,hl,hp⟩ K2 hK2
 simp only[ai,ap,Nat.reduceEqDiff, ↓reduceIte]at e0 e3
 have F:=F2 e0 e3
 refine wk F ?_
 refine cq F (fun c1=>?_) (fun c1=>?_)<;>(try exact c1.elim)<;>(refine wk F ?_)
 ·simp only[List.length_drop]at c1
  have hlt:k<s.length:=by omega
  have hp2:=bg s k hlt
  rw[er s k hlt]at hp
  have hne:s.drop k≠ []:=by intro e;have:=congrArg List.length e;simp at this;omega
  refine(gf G (s.drop k) hne (by simp;omega) _).mono ?_
  rintro r h' ⟨rfl,rfl⟩
  rw[← bR]
  generalize dec s k=d at*
  obtain⟨c,m⟩:=d
  simp only[]at hp hp2 ⊢
  have hsl:m≤(s.drop k).length:=by simp;omega
  have hdd:(s.drop k).drop m=s.drop (k+m):=List.drop_drop ..
  have F:=F3 F hsl hdd
  try refine sq F ?_
  refine wk F ?_
  refine aq F ?_
  try refine sq F ?_
  refine wk F ?_
  refine hK2 _ _ _ (Wkn.refl ⟨k+m,v+1,acc++[(c:Int)],rfl,aC,?_,?_,by omega,by simp;omega,by rw[← hp];simp⟩) (by omega)
  all_goals first|exact zq F|rfl|omega|trivial|skip
 ·simp only[List.length_drop]at c1
  rw[dC s k (by omega),List.append_nil]at hp
  refine wk F ?_
  refine ee hQ F ?_
  rw[← hp]
  exact Fin.frz (Frz.runes (Nat.le_refl _) (by simp[getRow];rfl) rfl) ⟨rfl,rfl⟩
theorem pF(c:Int)(h:Heap):Sat (CT G) 253 [.int .i32 c] h (fun r h'=>r=.bool (blankR c)∧h'=h):=by
 have yes:(c=9∨c=10∨c=13∨c=32∨c=160∨c=8232∨c=8233∨c=12288)→blankR c=true:=fun h=>decide_eq_true h
 have no:¬(c=9∨c=10∨c=13∨c=32∨c=160∨c=8232∨c=8233∨c=12288)→blankR c=false:=fun h=>decide_eq_false h
 refine sb [.tmp 2] (fn:=Tryz.f253) Tryz.func253 ?_
 intro Q hQ
 refine wk trivial ?_
 (first|refine gq trivial (fun g0=>?_) (fun g0=>?_)|refine pq trivial (fun g0=>?_) (fun g0=>?_))<;>(try exact g0.elim)<;>(try refine sq trivial ?_)<;>(refine wk trivial ?_)
 ·refine ee hQ trivial ?_
  refine fR (.bool _) ?_
  rw[yes (by omega)]
 ·(first|refine gq trivial (fun g1=>?_) (fun g1=>?_)|refine pq trivial (fun g1=>?_) (fun g1=>?_))<;>(try exact g1.elim)<;>(try refine sq trivial ?_)<;>(refine wk trivial ?_)
  ·refine ee hQ trivial ?_
   refine fR (.bool _) ?_
   rw[yes (by omega)]
  ·(first|refine gq trivial (fun g2=>?_) (fun g2=>?_)|refine pq trivial (fun g2=>?_) (fun g2=>?_))<;>(try exact g2.elim)<;>(try refine sq trivial ?_)<;>(refine wk trivial ?_)
   ·refine ee hQ trivial ?_
    refine fR (.bool _) ?_
    rw[yes (by omega)]
   ·(first|refine gq trivial (fun g3=>?_) (fun g3=>?_)|refine pq trivial (fun g3=>?_) (fun g3=>?_))<;>(try exact g3.elim)<;>(try refine sq trivial ?_)<;>(refine wk trivial ?_)
    ·refine ee hQ trivial ?_
     refine fR (.bool _) ?_
     rw[yes (by omega)]
    ·(first|refine gq trivial (fun g4=>?_) (fun g4=>?_)|refine pq trivial (fun g4=>?_) (fun g4=>?_))<;>(try exact g4.elim)<;>(try refine sq trivial ?_)<;>(refine wk trivial ?_)
     ·refine ee hQ trivial ?_
      refine fR (.bool _) ?_
      rw[yes (by omega)]
     ·(first|refine gq trivial (fun g5=>?_) (fun g5=>?_)|refine pq trivial (fun g5=>?_) (fun g5=>?_))<;>(try exact g5.elim)<;>(try refine sq trivial ?_)<;>(refine wk trivial ?_)
      ·refine ee hQ trivial ?_
       refine fR (.bool _) ?_
       rw[yes (by omega)]
      ·(first|refine gq trivial (fun g6=>?_) (fun g6=>?_)|refine pq trivial (fun g6=>?_) (fun g6=>?_))<;>(try exact g6.elim)<;>(try refine sq trivial ?_)<;>(refine wk trivial ?_)
       ·refine ee hQ trivial ?_
        refine fR (.bool _) ?_
        rw[yes (by omega)]
       ·refine ee hQ trivial ?_
        refine fR (.bool _) ?_
        congr 1
        rw[Bool.eq_iff_iff]
        by_cases h8:c=12288
        ·rw[yes (by omega)];simp[h8]
        ·rw[no (by omega)];simp[h8]
theorem pG(s:Bs)(hs:s.length≤1048576)(h:Heap):Sat (CT G) 238 [.str s] h (fun r h'=>r=.bool (rightS s)∧h'=h):=by
 refine sb [.tmp 2] (fn:=Tryz.f238) Tryz.func238 ?_
 intro Q hQ
 refine wk trivial ?_
 refine lm (fun nL tL hL=>∃(k:Nat),s.length-k=nL∧h=hL∧tL 0=.str (s.drop k)∧k≤s.length∧rightS (s.drop k)=rightS s) ((fun(k:Nat)=>(s.length-k:Nat)) (0)) ?_ ?_
 ·refine Wkn.refl ⟨0,rfl,aC,?_,by omega,rfl⟩
  all_goals first|exact zq trivial|rfl|omega|trivial|skip
 rintro _ s2 h' ⟨k,rfl,rfl,e0,hk,hc⟩ K2 hK2
 simp only[ai,ap,Nat.reduceEqDiff, ↓reduceIte]at e0
 have F:=e0
 refine wk F ?_
 refine cq F (fun c1=>?_) (fun c1=>?_)<;>(try exact c1.elim)<;>(refine wk F ?_)
 ·simp only[List.length_drop]at c1
  have hlt:k<s.length:=by omega
  have hp2:=bg s k hlt
  have hca:=kp s k hlt
  have hne:s.drop k≠ []:=by intro e;have:=congrArg List.length e;simp at this;omega
  rw[hc]at hca
  refine(gf G (s.drop k) hne (by simp;omega) _).mono ?_
  rintro r h' ⟨rfl,rfl⟩
  rw[← bR]
  generalize dec s k=d at*
  obtain⟨c,m⟩:=d
  simp only[]at hp2 hca ⊢
  have hsl:m≤(s.drop k).length:=by simp;omega
  have hdd:(s.drop k).drop m=s.drop (k+m):=List.drop_drop ..
  have F:=F3 F hsl hdd
  try refine sq F ?_
  refine wk F ?_
  (first|refine gq F (fun g1=>?_) (fun g1=>?_)|refine pq F (fun g1=>?_) (fun g1=>?_))<;>(try exact g1.elim)<;>(try refine sq F ?_)<;>(refine wk F ?_)
  ·refine cq F (fun g2=>?_) (fun g2=>?_)<;>(try exact g2.elim)<;>(refine wk F ?_)
   ·refine ee hQ F ?_
    refine fR (.bool _) ?_
    rw[hca,if_pos (by omega)]
   ·refine hK2 _ _ _ (Wkn.refl ⟨k+m,rfl,aC,?_,by omega,by rw[hca,if_neg (by omega)]⟩) (by omega)
    all_goals first|exact zq F|rfl|omega|trivial|skip
  ·refine hK2 _ _ _ (Wkn.refl ⟨k+m,rfl,aC,?_,by omega,by rw[hca,if_neg (by omega)]⟩) (by omega)
   all_goals first|exact zq F|rfl|omega|trivial|skip
 ·simp only[List.length_drop]at c1
  rw[List.drop_of_length_le (by omega)]at hc
  refine wk F ?_
  refine ee hQ F ?_
  refine fR (.bool _) ?_
  rw[← hc];rfl
end Go.Av
namespace Go.Av
open Go Go.Proofs Go.RowKit
attribute [local irreducible] WP WPl WPix Sat
variable (G:Nat→Option (List AVal))
theorem pH(s:Bs)(hs:s.length≤100000)(h:Heap):Sat (CT G) 239 [.str s] h (fun r h'=>r=.str (cleanF s)∧h'=h):=by
 have hll:=bX s.length s (Nat.le_refl _)
 have hrl:=d7 s.length s (Nat.le_refl _)
 have hcl:=eu (runesF s) [] false hrl (by simp)
 have hdef:clnR (runesF s) [] false=cleanR s:=rfl
 have hcf:encs (cleanR s)=cleanF s:=rfl
 refine sb [.tmp 2] (fn:=Tryz.f239) Tryz.func239 ?_
 intro Q hQ
 (repeat (first|refine w1 (fun K hK=>?_)|refine w2 ?_|refine w3 ?_| ((first|refine w4 ?_|refine wD ?_|refine w5 ?_|refine w6 ?_|refine w7 ?_);try refine sq trivial ?_)| (refine w8 ?_;refine sq trivial ?_;refine w9 ?_)| (refine rq trivial ?_;try refine sq trivial ?_)| (refine vq trivial ?_;try refine sq trivial ?_)| ((first|refine hK _ _ (w0 ?_)| (clear hK K;refine hK _ _ (w0 ?_))| (clear hK K;clear hK K;refine hK _ _ (w0 ?_)));clear hK K)))
 refine(kA G s (by omega) _).mono ?_
 rintro r h' ⟨rfl,hk_⟩
 replace hk_:=hk_.symm
 subst hk_
 try refine sq trivial ?_
 (repeat (first|refine w1 (fun K hK=>?_)|refine w2 ?_|refine w3 ?_| ((first|refine w4 ?_|refine wD ?_|refine w5 ?_|refine w6 ?_|refine w7 ?_);try refine sq trivial ?_)| (refine w8 ?_;refine sq trivial ?_;refine w9 ?_)| (refine rq trivial ?_;try refine sq trivial ?_)| (refine vq trivial ?_;try refine sq trivial ?_)| ((first|refine hK _ _ (w0 ?_)| (clear hK K;refine hK _ _ (w0 ?_))| (clear hK K;clear hK K;refine hK _ _ (w0 ?_)));clear hK K)))
 generalize runesF s=l at*
 have hlm:(l.map runA).length=l.length:=List.length_map ..
 have F:=hlm
 refine lm (fun nL tL hL=>∃(k v:Nat) (acc:List Int) (w:Bool),l.length-k=nL∧h++[.row 21 1 v (acc.map runA)]=hL∧tL 4=.hs h.length v 0 acc.length true∧tL 5=.bool w∧tL 6=.int .i64 k∧k≤l.length∧clnR (l.drop k) acc w=cleanR s∧acc.length≤2*k) ((fun(k v:Nat) (acc:List Int) (w:Bool)=>(l.length-k:Nat)) (0) (0) ([]) (false)) ?_ ?_
 ·refine⟨_,_,Weak.virt 4 21 1 (by simp) (by omega) (by exact zq F),⟨0,0,[],false,rfl,aC,?_,?_,?_,by omega,hdef,by simp⟩⟩
  all_goals first|exact zq F|rfl|omega|trivial|skip
 rintro _ s2 h' ⟨k,v,acc,w,rfl,rfl,e4,e5,e6,hk,hv,hl⟩ K2 hK2
 simp only[ai,ap,Nat.reduceEqDiff, ↓reduceIte]at e4 e5 e6
 have F:=F4 F e4 e5 e6
 (repeat (first|refine w1 (fun K hK=>?_)|refine w2 ?_|refine w3 ?_| ((first|refine w4 ?_|refine wD ?_|refine w5 ?_|refine w6 ?_|refine w7 ?_);try refine sq F ?_)| (refine w8 ?_;refine sq F ?_;refine w9 ?_)| (refine rq F ?_;try refine sq F ?_)| (refine vq F ?_;try refine sq F ?_)| ((first|refine hK _ _ (w0 ?_)| (clear hK K;refine hK _ _ (w0 ?_))| (clear hK K;clear hK K;refine hK _ _ (w0 ?_)));clear hK K)))
 refine cq F (fun c1=>?_) (fun c1=>?_)<;>(try exact c1.elim)
 ·obtain⟨y,hy,hym⟩:=af c1
  have hyl:(l.map runA)[k]? =some (.int .i32 y):=by rw[List.getElem?_map,hy];rfl
  rw[aA hy,clnR]at hv
  have F:=F2 F hyl
  (repeat (first|refine w1 (fun K hK=>?_)|refine w2 ?_|refine w3 ?_| ((first|refine w4 ?_|refine wD ?_|refine w5 ?_|refine w6 ?_|refine w7 ?_);try refine sq F ?_)| (refine w8 ?_;refine sq F ?_;refine w9 ?_)| (refine rq F ?_;try refine sq F ?_)| (refine vq F ?_;try refine sq F ?_)| ((first|refine hK _ _ (w0 ?_)| (clear hK K;refine hK _ _ (w0 ?_))| (clear hK K;clear hK K;refine hK _ _ (w0 ?_)));clear hK K)))
  refine(pF G y _).mono ?_
  rintro r h' ⟨rfl,rfl⟩
  try refine sq F ?_
  (repeat (first|refine w1 (fun K hK=>?_)|refine w2 ?_|refine w3 ?_| ((first|refine w4 ?_|refine wD ?_|refine w5 ?_|refine w6 ?_|refine w7 ?_);try refine sq F ?_)| (refine w8 ?_;refine sq F ?_;refine w9 ?_)| (refine rq F ?_;try refine sq F ?_)| (refine vq F ?_;try refine sq F ?_)| ((first|refine hK _ _ (w0 ?_)| (clear hK K;refine hK _ _ (w0 ?_))| (clear hK K;clear hK K;refine hK _ _ (w0 ?_)));clear hK K)))
  have ho:decide ((acc.length:Int)>0)=decide (0<acc.length):=by
   rw[Bool.eq_iff_iff];simp only[decide_eq_true_eq];omega
  refine cq F (fun c2=>?_) (fun c2=>?_)<;>(try exact c2.elim)<;>((repeat (first|refine w1 (fun K hK=>?_)|refine w2 ?_|refine w3 ?_| ((first|refine w4 ?_|refine wD ?_|refine w5 ?_|refine w6 ?_|refine w7 ?_);try refine sq F ?_)| (refine w8 ?_;refine sq F ?_;refine w9 ?_)| (refine rq F ?_;try refine sq F ?_)| (refine vq F ?_;try refine sq F ?_)| ((first|refine hK _ _ (w0 ?_)| (clear hK K;refine hK _ _ (w0 ?_))| (clear hK K;clear hK K;refine hK _ _ (w0 ?_)));clear hK K))))
  ·rw[if_pos c2]at hv
   have F:=F2 F ho
   try refine sq F ?_
   refine hK2 _ _ _ (Wkn.refl ⟨k+1,v,acc,decide (0<acc.length),rfl,aC,?_,?_,?_,by omega,hv,by omega⟩) (by omega)
   all_goals first|exact zq F|rfl|omega|trivial|skip
  ·rw[if_neg (by simp[c2])]at hv
   have yes:(y<32∨(127≤y∧y≤159))→ctlR y=true:=fun h=>decide_eq_true h
   have no:¬(y<32∨(127≤y∧y≤159))→ctlR y=false:=fun h=>decide_eq_false h
   (first|refine gq F (fun g1=>?_) (fun g1=>?_)|refine pq F (fun g1=>?_) (fun g1=>?_))<;>(try exact g1.elim)<;>(try refine sq F ?_)<;>((repeat (first|refine w1 (fun K hK=>?_)|refine w2 ?_|refine w3 ?_| ((first|refine w4 ?_|refine wD ?_|refine w5 ?_|refine w6 ?_|refine w7 ?_);try refine sq F ?_)| (refine w8 ?_;refine sq F ?_;refine w9 ?_)| (refine rq F ?_;try refine sq F ?_)| (refine vq F ?_;try refine sq F ?_)| ((first|refine hK _ _ (w0 ?_)| (clear hK K;refine hK _ _ (w0 ?_))| (clear hK K;clear hK K;refine hK _ _ (w0 ?_)));clear hK K))))
   ·rw[if_pos (yes (by omega))]at hv
    refine hK2 _ _ _ (Wkn.refl ⟨k+1,v,acc,w,rfl,aC,?_,?_,?_,by omega,hv,by omega⟩) (by omega)
    all_goals first|exact zq F|rfl|omega|trivial|skip
   ·(first|refine gq F (fun g2=>?_) (fun g2=>?_)|refine pq F (fun g2=>?_) (fun g2=>?_))<;>(try exact g2.elim)<;>(try refine sq F ?_)<;>((repeat (first|refine w1 (fun K hK=>?_)|refine w2 ?_|refine w3 ?_| ((first|refine w4 ?_|refine wD ?_|refine w5 ?_|refine w6 ?_|refine w7 ?_);try refine sq F ?_)| (refine w8 ?_;refine sq F ?_;refine w9 ?_)| (refine rq F ?_;try refine sq F ?_)| (refine vq F ?_;try refine sq F ?_)| ((first|refine hK _ _ (w0 ?_)| (clear hK K;refine hK _ _ (w0 ?_))| (clear hK K;clear hK K;refine hK _ _ (w0 ?_)));clear hK K))))
    ·refine cq F (fun g3=>?_) (fun g3=>?_)<;>(try exact g3.elim)<;>((repeat (first|refine w1 (fun K hK=>?_)|refine w2 ?_|refine w3 ?_| ((first|refine w4 ?_|refine wD ?_|refine w5 ?_|refine w6 ?_|refine w7 ?_);try refine sq F ?_)| (refine w8 ?_;refine sq F ?_;refine w9 ?_)| (refine rq F ?_;try refine sq F ?_)| (refine vq F ?_;try refine sq F ?_)| ((first|refine hK _ _ (w0 ?_)| (clear hK K;refine hK _ _ (w0 ?_))| (clear hK K;clear hK K;refine hK _ _ (w0 ?_)));clear hK K))))
     ·rw[if_pos (yes (by omega))]at hv
      refine hK2 _ _ _ (Wkn.refl ⟨k+1,v,acc,w,rfl,aC,?_,?_,?_,by omega,hv,by omega⟩) (by omega)
      all_goals first|exact zq F|rfl|omega|trivial|skip
     ·rw[if_neg (by rw[no (by omega)];simp)]at hv
      refine cq F (fun c3=>?_) (fun c3=>?_)<;>(try exact c3.elim)<;>((repeat (first|refine w1 (fun K hK=>?_)|refine w2 ?_|refine w3 ?_| ((first|refine w4 ?_|refine wD ?_|refine w5 ?_|refine w6 ?_|refine w7 ?_);try refine sq F ?_)| (refine w8 ?_;refine sq F ?_;refine w9 ?_)| (refine rq F ?_;try refine sq F ?_)| (refine vq F ?_;try refine sq F ?_)| ((first|refine hK _ _ (w0 ?_)| (clear hK K;refine hK _ _ (w0 ?_))| (clear hK K;clear hK K;refine hK _ _ (w0 ?_)));clear hK K))))
      ·rw[if_pos c3]at hv
       refine aq F ?_
       try refine sq F ?_
       (repeat (first|refine w1 (fun K hK=>?_)|refine w2 ?_|refine w3 ?_| ((first|refine w4 ?_|refine wD ?_|refine w5 ?_|refine w6 ?_|refine w7 ?_);try refine sq F ?_)| (refine w8 ?_;refine sq F ?_;refine w9 ?_)| (refine rq F ?_;try refine sq F ?_)| (refine vq F ?_;try refine sq F ?_)| ((first|refine hK _ _ (w0 ?_)| (clear hK K;refine hK _ _ (w0 ?_))| (clear hK K;clear hK K;refine hK _ _ (w0 ?_)));clear hK K)))
       refine aq F ?_
       try refine sq F ?_
       (repeat (first|refine w1 (fun K hK=>?_)|refine w2 ?_|refine w3 ?_| ((first|refine w4 ?_|refine wD ?_|refine w5 ?_|refine w6 ?_|refine w7 ?_);try refine sq F ?_)| (refine w8 ?_;refine sq F ?_;refine w9 ?_)| (refine rq F ?_;try refine sq F ?_)| (refine vq F ?_;try refine sq F ?_)| ((first|refine hK _ _ (w0 ?_)| (clear hK K;refine hK _ _ (w0 ?_))| (clear hK K;clear hK K;refine hK _ _ (w0 ?_)));clear hK K)))
       refine hK2 _ _ _ (Wkn.refl ⟨k+1,v+1+1,acc++[32,y],false,rfl,by simp[runA],?_,?_,?_,by omega,hv,by simp;omega⟩) (by omega)
       all_goals first|exact zq F|rfl|omega|trivial|skip
      ·rw[if_neg (by simp[c3])]at hv
       refine aq F ?_
       try refine sq F ?_
       (repeat (first|refine w1 (fun K hK=>?_)|refine w2 ?_|refine w3 ?_| ((first|refine w4 ?_|refine wD ?_|refine w5 ?_|refine w6 ?_|refine w7 ?_);try refine sq F ?_)| (refine w8 ?_;refine sq F ?_;refine w9 ?_)| (refine rq F ?_;try refine sq F ?_)| (refine vq F ?_;try refine sq F ?_)| ((first|refine hK _ _ (w0 ?_)| (clear hK K;refine hK _ _ (w0 ?_))| (clear hK K;clear hK K;refine hK _ _ (w0 ?_)));clear hK K)))
       refine hK2 _ _ _ (Wkn.refl ⟨k+1,v+1,acc++[y],w,rfl,by simp[runA],?_,?_,?_,by omega,by rw[c3];exact hv,by simp;omega⟩) (by omega)
       all_goals first|exact zq F|rfl|omega|trivial|skip
    ·rw[if_neg (by rw[no (by omega)];simp)]at hv
     refine cq F (fun c3=>?_) (fun c3=>?_)<;>(try exact c3.elim)<;>((repeat (first|refine w1 (fun K hK=>?_)|refine w2 ?_|refine w3 ?_| ((first|refine w4 ?_|refine wD ?_|refine w5 ?_|refine w6 ?_|refine w7 ?_);try refine sq F ?_)| (refine w8 ?_;refine sq F ?_;refine w9 ?_)| (refine rq F ?_;try refine sq F ?_)| (refine vq F ?_;try refine sq F ?_)| ((first|refine hK _ _ (w0 ?_)| (clear hK K;refine hK _ _ (w0 ?_))| (clear hK K;clear hK K;refine hK _ _ (w0 ?_)));clear hK K))))
     ·rw[if_pos c3]at hv
      refine aq F ?_
      try refine sq F ?_
      (repeat (first|refine w1 (fun K hK=>?_)|refine w2 ?_|refine w3 ?_| ((first|refine w4 ?_|refine wD ?_|refine w5 ?_|refine w6 ?_|refine w7 ?_);try refine sq F ?_)| (refine w8 ?_;refine sq F ?_;refine w9 ?_)| (refine rq F ?_;try refine sq F ?_)| (refine vq F ?_;try refine sq F ?_)| ((first|refine hK _ _ (w0 ?_)| (clear hK K;refine hK _ _ (w0 ?_))| (clear hK K;clear hK K;refine hK _ _ (w0 ?_)));clear hK K)))
      refine aq F ?_
      try refine sq F ?_
      (repeat (first|refine w1 (fun K hK=>?_)|refine w2 ?_|refine w3 ?_| ((first|refine w4 ?_|refine wD ?_|refine w5 ?_|refine w6 ?_|refine w7 ?_);try refine sq F ?_)| (refine w8 ?_;refine sq F ?_;refine w9 ?_)| (refine rq F ?_;try refine sq F ?_)| (refine vq F ?_;try refine sq F ?_)| ((first|refine hK _ _ (w0 ?_)| (clear hK K;refine hK _ _ (w0 ?_))| (clear hK K;clear hK K;refine hK _ _ (w0 ?_)));clear hK K)))
      refine hK2 _ _ _ (Wkn.refl ⟨k+1,v+1+1,acc++[32,y],false,rfl,by simp[runA],?_,?_,?_,by omega,hv,by simp;omega⟩) (by omega)
      all_goals first|exact zq F|rfl|omega|trivial|skip
     ·rw[if_neg (by simp[c3])]at hv
      refine aq F ?_
      try refine sq F ?_
      (repeat (first|refine w1 (fun K hK=>?_)|refine w2 ?_|refine w3 ?_| ((first|refine w4 ?_|refine wD ?_|refine w5 ?_|refine w6 ?_|refine w7 ?_);try refine sq F ?_)| (refine w8 ?_;refine sq F ?_;refine w9 ?_)| (refine rq F ?_;try refine sq F ?_)| (refine vq F ?_;try refine sq F ?_)| ((first|refine hK _ _ (w0 ?_)| (clear hK K;refine hK _ _ (w0 ?_))| (clear hK K;clear hK K;refine hK _ _ (w0 ?_)));clear hK K)))
      refine hK2 _ _ _ (Wkn.refl ⟨k+1,v+1,acc++[y],w,rfl,by simp[runA],?_,?_,?_,by omega,by rw[c3];exact hv,by simp;omega⟩) (by omega)
      all_goals first|exact zq F|rfl|omega|trivial|skip
 ·rw[aB c1,clnR]at hv
  (repeat (first|refine w1 (fun K hK=>?_)|refine w2 ?_|refine w3 ?_| ((first|refine w4 ?_|refine wD ?_|refine w5 ?_|refine w6 ?_|refine w7 ?_);try refine sq F ?_)| (refine w8 ?_;refine sq F ?_;refine w9 ?_)| (refine rq F ?_;try refine sq F ?_)| (refine vq F ?_;try refine sq F ?_)))
  have hg:getRow (h++[.row 21 1 v (acc.map runA)]) h.length v=some (21,1,acc.map runA):=by simp[getRow]
  have ht:∀(ms:List Nat) (t:Env),4∈ms→t 4=.hs h.length v 0 acc.length true→∀i,upd t 4 (.sl 1 (acc.map runA)) i=t i∨(i∈ms∧Fz (h++[.row 21 1 v (acc.map runA)]) h.length v (t i) (upd t 4 (.sl 1 (acc.map runA)) i)):=fun ms t hm ht i=>by
   by_cases hi:i=4
   ·subst hi
    right
    refine⟨hm,?_⟩
    rw[ht]
    simp only[upd, ↓reduceIte]
    exact Fz.all _ _ _ hg rfl (by simp)
   ·left;simp only[upd];rw[if_neg hi]
  clear hK K
  refine hK _ _ ⟨_,_,Weak.fz h.length v hg (ht _ _ (by decide+kernel) (by exact zq F)),?_⟩
  clear hK K
  have hset:(h++[Blk.row 21 1 v (acc.map runA)]).set h.length Blk.dead=h++[Blk.dead]:=by simp
  rw[hset]
  (repeat (first|refine w1 (fun K hK=>?_)|refine w2 ?_|refine w3 ?_| ((first|refine w4 ?_|refine wD ?_|refine w5 ?_|refine w6 ?_|refine w7 ?_);try refine sq F ?_)| (refine w8 ?_;refine sq F ?_;refine w9 ?_)| (refine rq F ?_;try refine sq F ?_)| (refine vq F ?_;try refine sq F ?_)| ((first|refine hK _ _ (w0 ?_)| (clear hK K;refine hK _ _ (w0 ?_))| (clear hK K;clear hK K;refine hK _ _ (w0 ?_)));clear hK K)))
  refine(vF G acc (fun r hr=>hcl r (by rw[hdef, ← hv];exact hr)) (by omega) _).mono ?_
  rintro r h' ⟨rfl,rfl⟩
  try refine sq F ?_
  (repeat (first|refine w1 (fun K hK=>?_)|refine w2 ?_|refine w3 ?_| ((first|refine w4 ?_|refine wD ?_|refine w5 ?_|refine w6 ?_|refine w7 ?_);try refine sq F ?_)| (refine w8 ?_;refine sq F ?_;refine w9 ?_)| (refine rq F ?_;try refine sq F ?_)| (refine vq F ?_;try refine sq F ?_)| ((first|refine hK _ _ (w0 ?_)| (clear hK K;refine hK _ _ (w0 ?_))| (clear hK K;clear hK K;refine hK _ _ (w0 ?_)));clear hK K)))
  refine ee hQ F ?_
  refine fR (.str _) ?_
  rw[hv];exact congrArg AVal.str hcf
end Go.Av
