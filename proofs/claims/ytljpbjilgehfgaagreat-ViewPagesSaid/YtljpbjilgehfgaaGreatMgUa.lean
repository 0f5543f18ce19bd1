/- Texts of runes: plain laws. -/
import Derived.Shelf.Strings.Builder1
import Derived.Shelf.Small.Bits
import Derived.Shelf.Small.Wraps
import Derived.Shelf.Strings.BuilderF
import Derived.Shelf.Strings.BuilderK
import Derived.Shelf.Utf8.AppendRunePlain
import Derived.Shelf.Strconv.Itoa0
import Derived.Shelf.Strings.Prefix
import Derived.Shelf.Strings.FieldsFuncAny
import Derived.Shelf.Slices.Clone
import Derived.Shelf.Slices.SearchI
import Derived.Shelf.Slices.Delete
import Derived.Shelf.Slices.Empties
import Derived.Test.YtljpbjilgehfgaaGreatMgYr
import Derived.Lib.TrimUEq
set_option linter.unusedSimpArgs false
set_option linter.unusedVariables false
set_option linter.unusedSectionVars false
set_option linter.unnecessarySimpa false
set_option maxRecDepth 100000
set_option maxHeartbeats 16000000
namespace Go.Av
open Go Go.Proofs Go.RowKit
theorem mh(G:Nat→Option (List AVal)):(CT G).P.follows .mixedOrders=true:=by kernel_rfl
theorem ea{C:Ctx}{t:Env}{h:Heap}{id:Nat}{l:List Oper}{Q:Exit→Env→Heap→Prop}(hok:preOkG false l.toArray l.length=true)(hm:C.P.follows .mixedOrders=true)
  (hh:WPp C l.toArray l t h fun t'=>Q .normal t' h):WP C (.region id l.toArray true) Q t h:=by
 have D:=eJ hok
 obtain⟨V,hv,hK⟩:=bC _ _ hh
 have htk:l.toArray.toList.take l.length=l:=by simp
 have main:∀n,WPix C l.toArray Q (Region.linearise .any l.toArray n) t h:=fun n=>by
  unfold Region.linearise
  refine cG D .any D.less (by simp) (V:=V) (t0:=t) (fun _=>True) (fun i o hi _=>by rw[htk]at hi ⊢;exact hv i o hi) (fun n=>?_) _ _ _ _ (by simp) ?_ (fun j oj hj hl=>?_) (fun j hj hl=>?_) (fun _ _ _=>trivial) (Ag.start _ _ _ _ fun j hj=>?_)
  ·rw[htk]
   have e1:l.toArray.size-l.length=0:=by simp
   rw[e1]
   exact Rest.nil hK .any n
  ·unfold left
   have:(List.range l.toArray.size).filter (fun i=> !(Array.replicate l.toArray.size false).getD i true)=List.range l.toArray.size:=by
    rw[List.filter_eq_self]
    intro i hi
    have:=List.mem_range.1 hi
    simp at this ⊢
    simp[this]
   rw[this,List.length_range]
  ·have h8:=(Array.getElem?_eq_some_iff.1 hj).1
   simp at h8 hl
   simp[h8]at hl
  ·simp at hj hl
   simp[hj]at hl
  ·have:j<l.length:=by omega
   simp[this]
 show ∀tp,WPix C l.toArray Q (Region.schedule (C.P.follows .mixedOrders) l.toArray tp) t h
 intro tp
 unfold Region.schedule
 rw[hm]
 simp only[Bool.true_or,if_true]
 exact main _
end Go.Av
namespace Go.Av
open Go Go.Proofs Go.RowKit
theorem mi:∀t:Bs,Op.bytesLess t t=false
 | []=>rfl
 |a::t=>by simp[Op.bytesLess,mi t]
theorem iH:∀{a b c:Bs},Op.bytesLess a b=true→Op.bytesLess b c=true→Op.bytesLess a c=true
 |_,_,[],_,h=>by cases h2:(‹Bs› :Bs)<;>simp[Op.bytesLess]at h
 | [],_,_::_,_,_=>rfl
 |_::_,[],_::_,h,_=>by simp[Op.bytesLess]at h
 |x::a,y::b,z::c,h,k=>by
  simp only[Op.bytesLess,Bool.or_eq_true,decide_eq_true_eq,Bool.and_eq_true,beq_iff_eq]at h k ⊢
  rcases h with h| ⟨rfl,h⟩
  ·rcases k with k| ⟨rfl,k⟩
   ·exact .inl (UInt8.lt_trans h k)
   ·exact .inl h
  ·rcases k with k| ⟨rfl,k⟩
   ·exact .inl k
   ·exact .inr ⟨rfl,iH h k⟩
theorem qX:∀(a b:Bs),Op.bytesLess a b=false→Op.bytesLess b a=false→a=b
 | [],[],_,_=>rfl
 | [],_::_,h,_=>by simp[Op.bytesLess]at h
 |_::_,[],_,h=>by simp[Op.bytesLess]at h
 |x::a,y::b,h,k=>by
  simp only[Op.bytesLess,Bool.or_eq_false_iff,decide_eq_false_iff_not,Bool.and_eq_false_iff,beq_eq_false_iff_ne]at h k
  have hxy:x=y:=by
   have h1:=UInt8.not_lt.1 h.1
   have h2:=UInt8.not_lt.1 k.1
   exact UInt8.le_antisymm h2 h1
  subst hxy
  rw[qX a b (by rcases h.2 with h|h;exact absurd rfl h;exact h) (by rcases k.2 with h|h;exact absurd rfl h;exact h)]
def Srt(l:List Bs):Prop:=l.Pairwise fun a b=>Op.bytesLess a b=true
def lbF(l:List Bs)(t:Bs):Nat:=(l.takeWhile fun x=>Op.bytesLess x t).length
theorem mj(l:List Bs)(t:Bs):lbF l t≤l.length:=by
 unfold lbF
 have:=(List.takeWhile_sublist (l:=l) fun x=>Op.bytesLess x t).length_le
 exact this
theorem iI(a:Bs)(l:List Bs)(t:Bs):lbF (a::l) t=if Op.bytesLess a t=true then lbF l t+1 else 0:=by
 unfold lbF;rw[List.takeWhile_cons];split<;>simp
theorem qY{l:List Bs}{t:Bs}:∀j,j<lbF l t→∃x,l[j]? =some x∧Op.bytesLess x t=true:=by
 induction l with
 |nil=>intro j h;simp[lbF]at h
 |cons a l ih=>
  intro j h
  rw[iI]at h
  split at h
  ·rename_i ha
   cases j with
   |zero=>exact⟨a,rfl,ha⟩
   |succ j=>exact ih j (by omega)
  ·omega
theorem qZ{l:List Bs}{t:Bs}(hs:Srt l):∀j x,lbF l t≤j→l[j]? =some x→Op.bytesLess x t=false:=by
 induction l with
 |nil=>intro j x _ h;simp at h
 |cons a l ih=>
  intro j x h hx
  rw[iI]at h
  have hp:=List.pairwise_cons.1 hs
  split at h
  ·rename_i ha
   cases j with
   |zero=>omega
   |succ j=>exact ih hp.2 j x (by omega) (by simpa using hx)
  ·rename_i ha
   cases j with
   |zero=>simp at hx;subst hx;simpa using ha
   |succ j=>
    have hm:=hp.1 x (List.mem_of_getElem? (by simpa using hx))
    cases hq:Op.bytesLess x t with
    |false=>rfl
    |true=>exact absurd (iH hm hq) ha
theorem oc{l:List Bs}{t:Bs}(hs:Srt l)(hm:t∈l):l[lbF l t]? =some t:=by
 obtain⟨j,hj⟩:=List.getElem?_of_mem hm
 rcases Nat.lt_trichotomy j (lbF l t)with h|h|h
 ·obtain⟨x,hx,hl⟩:=qY j h
  rw[hj]at hx;cases hx
  rw[mi]at hl;cases hl
 ·rw[← h];exact hj
 ·have hlt:lbF l t<l.length:=by have:=(List.getElem?_eq_some_iff.1 hj).1;omega
  have h1:l[lbF l t]? =some l[lbF l t]:=List.getElem?_eq_getElem hlt
  have h2:=qZ hs _ _ (Nat.le_refl _) h1
  have h3:=(List.pairwise_iff_getElem.1 hs) (lbF l t) j hlt (List.getElem?_eq_some_iff.1 hj).1 h
  rw[(List.getElem?_eq_some_iff.1 hj).2,h2]at h3;cases h3
variable (G:Nat→Option (List AVal))
theorem tK(w:World)(n:Nat):Below w.heap.size w (w.drewN n):=by
 induction n with
 |zero=>exact Below.refl _ _
 |succ n ih=>exact ih.trans (Below.drew (Below.refl _ _))
theorem lj(l:List Bs)(t:Bs)(hs:Srt l)(hl:l.length≤100000)(h:Heap):Sat (CT G) 151 [.sl 1 (l.map .str),.str t] h (fun r h'=>r=.tup [.int .i64 (lbF l t),.bool (decide (t∈l))]∧h'=h):=by
 intro B S μ w us fit rl
 obtain⟨hul,hur⟩:=rl
 match us,hul,hur with
 | [v0,v1],_,hur=>
  have r0:Rep w S μ (.sl 1 (l.map .str)) v0:=hur 0 _ rfl
  have r1:Rep w S μ (.str t) v1:=hur 1 _ rfl
  obtain rfl:=r1.str_inv
  change OpOk Tryz.prog _ ((callFunc 151 #[v0,.string ⟨t.toArray⟩]).run Tryz.prog w)
  rw[bw (f:=151) Tryz.func151 rfl rfl]
  have fin:∀(w':World) (i:Nat) (b:Bool),Below w.heap.size w w'→i=lbF l t→b=decide (t∈l)→∃v,Value.tuple #[.int .i64 i,.bool b]=v∧OpPost (CT G) B S μ w (fun r h'=>r=.tup [.int .i64 (lbF l t),.bool (decide (t∈l))]∧h'=h) v w':=by
   rintro w' i b hb rfl rfl
   obtain⟨f',st⟩:=fit.grown hb
   exact⟨_,rfl,_,h,S,μ,⟨rfl,rfl⟩,st,f',iv (.int _ _) (.bool _)⟩
  by_cases hn:l=[]
  ·subst hn
   obtain⟨a,cap,rfl⟩:∃a cap,v0=.slice a 0 cap:=by
    cases r0 with
    |sl0 _ a cap=>exact⟨a,cap,rfl⟩
    |sl _ _ b o cap vs h1=>exact absurd rfl h1
   refine(Any2.slices_BinarySearch_string_empty Tryz.lays2_26 a cap ⟨t.toArray⟩ w).mono fun e w' ⟨he,hw⟩=>?_
   obtain⟨v,hv,hp⟩:=fin w' 0 false (by rw[hw];exact Below.refl _ _) rfl (by simp)
   exact⟨v,by rw[he, ← hv];rfl,hp⟩
  ·obtain⟨b,o,cap,rfl,hc⟩:∃b o cap,v0=.slice (some ⟨b,o,none⟩) l.length cap∧∀j,j<l.length→w.cell? ⟨b,o+j,none⟩=some (.string ⟨(l.getD j t).toArray⟩):=by
    generalize hm:l.map AVal.str=m at r0
    cases r0 with
    |sl0 _ a cap=>simp at hm;exact absurd hm hn
    |sl _ _ b o cap vs h1 h2 h3 h4 h5 h6=>
     subst hm
     refine⟨b,o,cap,by simp,fun j hj=>?_⟩
     have hx:(l.map AVal.str)[j]? =some (.str l[j]):=by rw[List.getElem?_map,List.getElem?_eq_getElem hj];rfl
     have h7:=h5 j _ 0 _ hx rfl
     have h8:=h6 j _ 0 _ hx rfl
     rw[h8.str_inv]at h7
     have:l.getD j t=l[j]:=by simp[List.getD,hj]
     rw[this]
     have e:o+(j*1+0)=o+j:=by omega
     rw[e]at h7
     exact h7.2.1
   refine(Any2.slices_BinarySearch_string Tryz.lays2_26 b o l.length cap (fun j=>⟨(l.getD j t).toArray⟩) ⟨t.toArray⟩ w (by omega) hc).mono fun e w' ⟨he,q,hw⟩=>?_
   have hk:Lib.bsGo (fun j=>Op.bytesLess (⟨(l.getD j t).toArray⟩:ByteArray).toList (⟨t.toArray⟩:ByteArray).toList) l.length 0 l.length=lbF l t:=by
    refine Lib.bsGo_spec _ (lbF l t) (fun j hj=>?_) (fun j hj=>?_) _ _ _ (by omega) (Nat.zero_le _) (mj l t)
    ·obtain⟨x,hx,hlt⟩:=qY j hj
     simp only[bM]
     rw[show l.getD j t=x by simp[List.getD,hx]];exact hlt
    ·simp only[bM]
     cases hx:l[j]? with
     |none=>rw[show l.getD j t=t by simp[List.getD,hx]];exact mi t
     |some x=>rw[show l.getD j t=x by simp[List.getD,hx]];exact qZ hs j x hj hx
   rw[hk]at he
   obtain⟨v,hv,hp⟩:=fin w' (lbF l t) (decide (lbF l t<l.length∧(⟨(l.getD (lbF l t) t).toArray⟩:ByteArray)=⟨t.toArray⟩)) (by rw[hw];exact tK w q) rfl (by
    rw[Bool.eq_iff_iff,decide_eq_true_eq,decide_eq_true_eq]
    constructor
    ·rintro⟨h1,h2⟩
     have h3:l.getD (lbF l t) t=l[lbF l t]:=by simp[List.getD,h1]
     rw[h3]at h2
     have:l[lbF l t]=t:=by simpa using h2
     rw[← this];exact List.getElem_mem h1
    ·intro hm
     have:=oc hs hm
     exact⟨(List.getElem?_eq_some_iff.1 this).1,by simp[List.getD,this]⟩)
   exact⟨v,by rw[he, ← hv],hp⟩
end Go.Av
namespace Go.Proofs
open Go.Shelf
def Tryz.lays99_ren:Go.Shelf.Ren:=⟨fun|99=>148|206=>195|n=>n,fun|9=>9|4=>4|3=>3|n=>n,fun|n=>n⟩
theorem Tryz.lays99:Go.Proofs.Lays.n99 Tryz.prog Tryz.lays99_ren:= {
 mixed:=by kernel_rfl
 f99:=Tryz.func148.trans (congrArg some (by kernel_rfl))
 f206:=Tryz.func195.trans (congrArg some (by kernel_rfl))
 t3:=Tryz.underlying3
 a3:=Tryz.isAgg3
 z3:=Tryz.sizeOf3
 v3:=Tryz.zeroValue3
 t4:=Tryz.underlying4
 a4:=Tryz.isAgg4
 z4:=Tryz.sizeOf4
 v4:=Tryz.zeroValue4
 t9:=Tryz.underlying9
 a9:=Tryz.isAgg9
 z9:=Tryz.sizeOf9
 v9:=Tryz.zeroValue9}
open Go.RowKit Go.Lib in
theorem Tryz.strings_HasPrefix(s p:ByteArray)(w:World):
  Calls Tryz.prog 148 #[.string s,.string p] w fun e w'=>e=.returned (.bool (Lib.hasPrefix s.data.toList p.data.toList))∧w'=w:=Any.strings_HasPrefix Tryz.lays99 s p w
def Tryz.lays229_ren:Go.Shelf.Ren:=⟨fun|229=>243|n=>n,fun|9=>9|40=>256|31=>54|152=>285|3=>3|0=>0|4=>4|21=>21|154=>287|n=>n,fun|n=>n⟩
theorem Tryz.lays229:Go.Proofs.Lays.n229 Tryz.prog Tryz.lays229_ren:= {
 mixed:=by kernel_rfl
 f229:=Tryz.func243.trans (congrArg some (by kernel_rfl))
 t0:=Tryz.underlying0
 a0:=Tryz.isAgg0
 z0:=Tryz.sizeOf0
 v0:=Tryz.zeroValue0
 t3:=Tryz.underlying3
 a3:=Tryz.isAgg3
 z3:=Tryz.sizeOf3
 v3:=Tryz.zeroValue3
 t4:=Tryz.underlying4
 a4:=Tryz.isAgg4
 z4:=Tryz.sizeOf4
 v4:=Tryz.zeroValue4
 t9:=Tryz.underlying9
 a9:=Tryz.isAgg9
 z9:=Tryz.sizeOf9
 v9:=Tryz.zeroValue9
 t21:=Tryz.underlying21
 a21:=Tryz.isAgg21
 z21:=Tryz.sizeOf21
 v21:=Tryz.zeroValue21
 t31:=Tryz.underlying54
 a31:=Tryz.isAgg54
 z31:=Tryz.sizeOf54
 v31:=Tryz.zeroValue54
 t40:=Tryz.underlying256
 a40:=Tryz.isAgg256
 z40:=Tryz.sizeOf256
 v40:=Tryz.zeroValue256
 t152:=Tryz.underlying285
 a152:=Tryz.isAgg285
 z152:=Tryz.sizeOf285
 v152:=Tryz.zeroValue285
 t154:=Tryz.underlying287
 a154:=Tryz.isAgg287
 z154:=Tryz.sizeOf287
 v154:=Tryz.zeroValue287}
open Go.RowKit Go.Lib in
theorem Tryz.strings_FieldsFunc(g:Nat)(lb:Array Value)(eg:∀args w,(callFunc g args).run Tryz.prog w=.ok (.enter g args) w)(p:Nat→Bool)(s:ByteArray)(w:World)(hs:s.size≤4294967296)(hp:PredAt Tryz.prog g lb encR p w):
  Calls Tryz.prog 243 #[.string s,.func (.func g) #[] lb] w fun e w'=>∃A,e=.returned (.slice (some ⟨A,0,none⟩) (Lib.goFieldsP p s).length (Lib.goFieldsP p s).length)∧w.heap.size≤A∧
   w'.ownsRow w.heap.size 9 1 (.slice (some ⟨A,0,none⟩) (Lib.goFieldsP p s).length (Lib.goFieldsP p s).length) (Lib.goFieldsP p s).length ((Lib.goFieldsP p s).map Value.string)∧Below w.heap.size w w':=Any.strings_FieldsFunc Tryz.lays229 g lb eg p s w hs hp (by kernel_rfl) (by kernel_rfl)
def Tryz.laysNm224_ren:Go.Shelf.Ren:=⟨fun|24=>102|n=>n,fun|24=>54|9=>9|3=>3|4=>4|0=>0|n=>n,fun|n=>n⟩
theorem Tryz.laysNm224:Go.Proofs.Lays2.n24 Tryz.prog Tryz.laysNm224_ren:= {
 mixed:=by kernel_rfl
 f24:=Tryz.func102.trans (congrArg some (by kernel_rfl))
 t0:=Tryz.underlying0
 a0:=Tryz.isAgg0
 z0:=Tryz.sizeOf0
 v0:=Tryz.zeroValue0
 t3:=Tryz.underlying3
 a3:=Tryz.isAgg3
 z3:=Tryz.sizeOf3
 v3:=Tryz.zeroValue3
 t4:=Tryz.underlying4
 a4:=Tryz.isAgg4
 z4:=Tryz.sizeOf4
 v4:=Tryz.zeroValue4
 t9:=Tryz.underlying9
 a9:=Tryz.isAgg9
 z9:=Tryz.sizeOf9
 v9:=Tryz.zeroValue9
 t24:=Tryz.underlying54
 a24:=Tryz.isAgg54
 z24:=Tryz.sizeOf54
 v24:=Tryz.zeroValue54
 i9:=by kernel_rfl}
open Go.RowKit Go.Lib Go.Sort in
theorem Tryz.slices_Delete_string(blk off cap i j:Nat)(zs:List (List UInt8))(w:World)(hH:Holds encStr w blk off zs.toArray)(hcap:zs.length≤cap)(hm:cap≤9223372036854775807)(hij:i≤j)(hj:j≤zs.length):
  Calls Tryz.prog 102 #[.slice (some ⟨blk,off,none⟩) zs.length cap,.int .i64 i,.int .i64 j] w fun e w'=>e=.returned (.slice (some ⟨blk,off,none⟩) (zs.length-(j-i)) cap)∧∃q,w'=putRow encStr (Sort.ahead w q) blk off (zs.take i++zs.drop j++List.replicate (j-i) []).toArray:=Any.slices_Delete_string Tryz.laysNm224 blk off cap i j zs w hH hcap hm hij hj
end Go.Proofs
namespace Go.Av
open Go Go.Proofs Go.RowKit
def encS(t:Bs):Value:=.string ⟨t.toArray⟩
theorem Only.setCells(b:Nat):∀(vs:List Value) (o:Nat) (w:World),Only w (w.setCells b o vs) (some b)
 | [],_,_=>Only.refl _ _
 |v::r,o,w=>(Only.setCell w ⟨b,o,none⟩ v).trans (Only.setCells b r (o+1) _)
theorem Only.alloc(w:World)(o:Obj)(q:Option Nat):Only w (w.alloc o) q:=
 ⟨rfl,rfl,rfl,by simp,fun k hk _=>Below.heap_alloc w o k hk⟩
theorem Only.into{w w1 w2:World}{q:Option Nat}{g:Nat}(h:Only w w1 q)(k:Only w1 w2 (some g))(hg:w.heap.size≤g):Only w w2 q:=
 ⟨k.os.trans h.os,k.tape.trans h.tape,k.output.trans h.output,Nat.le_trans h.size k.size,
  fun i hi hq=>(k.block i (Nat.lt_of_lt_of_le hi h.size) (fun e=>by cases e;omega)).trans (h.block i hi hq)⟩
theorem Only.putRow{α:Type}[Inhabited α](enc:α→Value)(w:World)(b off:Nat)(d:Array α):Only w (Go.Sort.putRow enc w b off d) (some b):=
 ⟨rfl,rfl,rfl,by simp,fun k _ hq=>by
  have:b≠k:=fun e=>hq (by rw[e])
  simp[Go.Sort.putRow,Go.Sort.mapBlock,Array.getElem?_modify,this]⟩
section
variable {C:Ctx} {B:Nat} {S:Addr→Prop} {μ:Map} {h:Heap} {w w':World}
theorem Fits.give(f:Fits C B S μ h w){p:Nat}{m:MB}(hm:μ[p]? =some m){g:Nat}(hg:∀q m',μ[q]? =some m'→m'.blk=some g→q=p)(hB:B≤g)(hgl:g<w.heap.size):
  Step B S μ w (fun a=>S a∨a.block=g) (μ.set p ⟨none,m.ver+1,m.size,m.cap⟩) w∧Fits C B (fun a=>S a∨a.block=g) (μ.set p ⟨none,m.ver+1,m.size,m.cap⟩) (h.set p .dead) w:=by
 have hlt:=(List.getElem?_eq_some_iff.1 hm).1
 have st:Step B S μ w (fun a=>S a∨a.block=g) (μ.set p ⟨none,m.ver+1,m.size,m.cap⟩) w:=⟨fun a ha=>.inl ha,fun _ _=>rfl,Below.refl _ _,bg hm (by simp) (fun e=>by simp at e),fun a ha=>by
  rcases ha with ha|ha
  ·exact .inl ha
  ·exact .inr (by omega)⟩
 have at_:∀q k,(μ.set p ⟨none,m.ver+1,m.size,m.cap⟩)[q]? =some k→(q=p∧k.blk=none)∨(q≠p∧μ[q]? =some k):=by
  intro q k hq
  by_cases e:p=q
  ·subst e;rw[List.getElem?_set_self hlt]at hq;cases hq;exact .inl ⟨rfl,rfl⟩
  ·rw[List.getElem?_set_ne e]at hq;exact .inr ⟨fun e'=>e e'.symm,hq⟩
 refine⟨st,⟨fun g cs hg=>(f.glob g cs hg).mono st,by simp[f.len],?_,?_,f.base,?_,?_⟩⟩
 ·intro p1 q1 m1 m2 b h1 h2 e1 e2
  rcases at_ p1 m1 h1 with⟨_,k1⟩| ⟨_,k1⟩
  ·rw[k1]at e1;cases e1
  ·rcases at_ q1 m2 h2 with⟨_,k2⟩| ⟨_,k2⟩
   ·rw[k2]at e2;cases e2
   ·exact f.sep p1 q1 m1 m2 b k1 k2 e1 e2
 ·intro p1 m1 b h1 e1
  rcases at_ p1 m1 h1 with⟨_,k1⟩| ⟨r1,k1⟩
  ·rw[k1]at e1;cases e1
  ·obtain⟨a1,a2,a3⟩:=f.own p1 m1 b k1 e1
   refine⟨a1,a2,fun a ha=>?_⟩
   rcases ha with ha|ha
   ·exact a3 a ha
   ·intro e
    exact r1 (hg p1 m1 k1 (by rw[e1, ← e,ha]))
 ·intro a ha
  rcases ha with ha|ha
  ·exact f.lie a ha
  ·omega
 ·intro p1 m1 k1 h1 h2
  rcases at_ p1 m1 h1 with⟨rfl,_⟩| ⟨r1,h1⟩
  ·rw[List.getElem?_set_self (by rw[← f.len];exact hlt)]at h2;cases h2;trivial
  ·rw[List.getElem?_set_ne (fun e=>r1 e.symm)]at h2
   exact(f.blk p1 m1 k1 h1 h2).mono st fun b _=>rfl
theorem tM{g off cap:Nat}{ls:List Bs}(hS:∀a,a.block=g→S a)(hl:ls.length≤cap)(hm:cap≤maxLen)(hc:∀j x,ls[j]? =some x→w.cell? ⟨g,off+j,none⟩=some (encS x)):
  Rep w S μ (.sl 1 (ls.map .str)) (.slice (some ⟨g,off,none⟩) ls.length cap):=by
 by_cases hn:ls=[]
 ·subst hn;exact .sl0 1 _ cap
 have hlen:(ls.map AVal.str).length=ls.length:=List.length_map ..
 rw[← hlen]
 refine .sl 1 (ls.map .str) g off cap (fun i _=>encS (ls.getD i [])) (by simpa using hn) (by omega) hm (fun i x hx=>?_) (fun i x j c hx hj=>?_) (fun i x j c hx hj=>?_)
 ·obtain⟨a,_,rfl⟩:=List.mem_map.1 (List.mem_of_getElem? hx);rfl
 ·rw[List.getElem?_map]at hx
  obtain⟨a,ha,rfl⟩:=Option.map_eq_some_iff.1 hx
  match j with
  |0=>
   simp[AVal.cells]at hj;subst hj
   refine⟨hS _ rfl,?_,rfl⟩
   rw[show off+(i*1+0)=off+i by omega,hc i a ha]
   simp[List.getD,ha]
  |j+1=>simp[AVal.cells]at hj
 ·rw[List.getElem?_map]at hx
  obtain⟨a,ha,rfl⟩:=Option.map_eq_some_iff.1 hx
  match j with
  |0=>
   simp[AVal.cells]at hj;subst hj
   simp only[List.getD,ha,Option.getD_some]
   exact .str a
  |j+1=>simp[AVal.cells]at hj
theorem iJ(f:Fits C B S μ h w){p:Nat}{m:MB}(hm:μ[p]? =some m)(o:Only w w' m.blk){g off cap:Nat}{ls:List Bs}(hg:m.blk=some g∨(w.heap.size≤g∧g<w'.heap.size))
  (hl:ls.length≤cap)(hx:cap≤maxLen)(hc:∀j x,ls[j]? =some x→w'.cell? ⟨g,off+j,none⟩=some (encS x)):
  ∃S' μ',Step B S μ w S' μ' w'∧Fits C B S' μ' (h.set p .dead) w'∧Rep w' S' μ' (.sl 1 (ls.map .str)) (.slice (some ⟨g,off,none⟩) ls.length cap):=by
 obtain⟨f1,st1⟩:=f.update (m':=⟨m.blk,m.ver+1,m.size,m.cap⟩) (k':=.dead) hm o (by simp) (fun e=>by simp at e) (.inl rfl) trivial
 have hlt:=(List.getElem?_eq_some_iff.1 hm).1
 have hm1:(μ.set p ⟨m.blk,m.ver+1,m.size,m.cap⟩)[p]? =some ⟨m.blk,m.ver+1,m.size,m.cap⟩:=List.getElem?_set_self hlt
 have hgg:(B≤g∧g<w'.heap.size)∧∀q m',(μ.set p ⟨m.blk,m.ver+1,m.size,m.cap⟩)[q]? =some m'→m'.blk=some g→q=p:=by
  rcases hg with hg| ⟨h1,h2⟩
  ·obtain⟨a1,a2,_⟩:=f.own p m g hm hg
   exact⟨⟨a1,Nat.lt_of_lt_of_le a2 o.size⟩,fun q m' hq hb=>f1.sep q p m' _ g hq hm1 hb hg⟩
  ·refine⟨⟨Nat.le_trans f.base h1,h2⟩,fun q m' hq hb=>?_⟩
   by_cases e:p=q
   ·exact e.symm
   ·rw[List.getElem?_set_ne e]at hq
    have:=(f.own q m' g hq hb).2.1
    omega
 obtain⟨st2,f2⟩:=f1.give hm1 hgg.2 hgg.1.1 hgg.1.2
 refine⟨_,_,st1.trans st2,?_,tM (fun a ha=>.inr ha) hl hx hc⟩
 simpa using f2
end
theorem gM{C:Ctx}{B:Nat}{S:Addr→Prop}{μ:Map}{h:Heap}{w:World}(f:Fits C B S μ h w){p ver len:Nat}{T:TypeId}{room:Bool}{l:List Bs}{v:Value}(hn:l≠ [])
  (hg:getRow h p ver=some (T,1,l.map .str))(hv:Rep w S μ (.hs p ver 0 len room) v):
  ∃m b cur,μ[p]? =some m∧m.blk=some b∧w.heap[b]? =some (.cells cur T (0,0))∧cur.size=m.cap∧l.length≤m.cap∧m.cap≤maxLen∧0<m.cap∧v=.slice (some ⟨b,0,none⟩) len (if room then m.cap else len)∧
   ∀j x,l[j]? =some x→w.cell? ⟨b,0+j,none⟩=some (encS x):=by
 obtain⟨m,hm,hf⟩:=f.row hg
 rcases hf.lies with⟨_,h2⟩| ⟨b,cur,hb,hheap,hsz,⟨h0,hle⟩,hmax,hcell⟩
 ·exact absurd (List.map_eq_nil_iff.1 h2) hn
 rcases hv.hs_now hm hf.hver with⟨h1,_⟩| ⟨b',hb',_,hve⟩
 ·rw[hb]at h1;cases h1
 rw[hb]at hb';cases hb'
 have hs1:=hf.hsize
 refine⟨m,b,cur,hm,hb,hheap,by omega,by simpa using hle,hmax,h0,by rw[hve];simp,fun j x hx=>?_⟩
 have hx':(l.map AVal.str)[j]? =some (.str x):=by rw[List.getElem?_map,hx];rfl
 obtain⟨u,hu,hr⟩:=hcell j (.str x) 0 (.str x) hx' rfl
 rw[hr.str_inv]at hu
 have hlt:=(Array.getElem?_eq_some_iff.1 hu).1
 simp only[World.cell?,hheap]
 have e:j*1+0=0+j:=by omega
 rw[e]at hu
 simpa [encS]using hu
theorem fu(w:World)(c:Array Value)(T:TypeId)(j:Nat):(w.alloc (.cells c T)).cell? ⟨w.heap.size,j,none⟩=c[j]? :=by
 simp only[World.cell?,bN]
 rfl
theorem cO(b:Nat):∀(vs:List Value) (o:Nat) (w:World) (k:Nat),(w.cell? ⟨b,k,none⟩).isSome=true→((w.setCells b o vs).cell? ⟨b,k,none⟩).isSome=true
 | [],_,_,_,h=>h
 |v::r,o,w,k,h=>cO b r (o+1) (w.setCell ⟨b,o,none⟩ v) k (by
  by_cases e:o=k
  ·subst e;obtain⟨u,hu⟩:=Option.isSome_iff_exists.1 h;rw[World.cell?_setCell_same _ _ _ hu];rfl
  ·rw[World.cell?_setCell_other _ _ _ _ (by simpa using e)];exact h)
theorem gw{w:World}{b o:Nat}{v:Value}(hs:(w.cell? ⟨b,o,none⟩).isSome=true):(w.setCells b o [v]).cell? ⟨b,o,none⟩=some v:=by
 have:=World.cell?_setCells_in b [v] o w (fun j hj=>by simp at hj;subst hj;exact hs) 0 (by simp)
 simpa using this
theorem gN(l:List Bs)(t:Bs)(i:Nat)(hi:i≤l.length)(j:Nat)(x:Bs)(hx:(l.take i++t::l.drop i)[j]? =some x):
  (j<i∧l[j]? =some x)∨(j=i∧x=t)∨(i<j∧l[j-1]? =some x):=by
 rcases Nat.lt_trichotomy j i with h|h|h
 ·rw[List.getElem?_append_left (by simp;omega),List.getElem?_take_of_lt h]at hx
  exact .inl ⟨h,hx⟩
 ·subst h
  rw[List.getElem?_append_right (by rw[List.length_take];omega)]at hx
  have:j-(l.take j).length=0:=by rw[List.length_take];omega
  rw[this]at hx;simp at hx
  exact .inr (.inl ⟨rfl,hx.symm⟩)
 ·rw[List.getElem?_append_right (by simp;omega)]at hx
  have:j-(l.take i).length=(j-i-1)+1:=by rw[List.length_take];omega
  rw[this,List.getElem?_cons_succ,List.getElem?_drop]at hx
  refine .inr (.inr ⟨h,?_⟩)
  rw[← hx];congr 1;omega
variable (G:Nat→Option (List AVal))
theorem pm(l:List Bs)(t:Bs)(i v1 v2:Nat)(rm:Bool)(hi:i≤l.length)(hn:l≠ [])(hl:l.length≤100000)(h:Heap):
  Sat (CT G) 101 [.hs h.length v1 0 l.length true,.int .i64 i,.hs (h.length+1) v2 0 1 rm] (h++[Blk.row 9 1 v1 (l.map .str),.row 9 1 v2 [.str t]])
   (fun r h'=>r=.sl 1 ((l.take i++t::l.drop i).map .str)∧h'=h++[.dead,.row 9 1 v2 [.str t]]):=by
 intro B S μ w us fit rl
 obtain⟨hul,hur⟩:=rl
 match us,hul,hur with
 | [u0,u1,u2],_,hur=>
  have r0:Rep w S μ (.hs h.length v1 0 l.length true) u0:=hur 0 _ rfl
  have r1:Rep w S μ (.int .i64 i) u1:=hur 1 _ rfl
  have r2:Rep w S μ (.hs (h.length+1) v2 0 1 rm) u2:=hur 2 _ rfl
  obtain rfl:=r1.int_inv
  have hg0:getRow (h++[Blk.row 9 1 v1 (l.map .str),.row 9 1 v2 [.str t]]) h.length v1=some (9,1,l.map .str):=by simp[getRow]
  have hg2:getRow (h++[Blk.row 9 1 v1 (l.map .str),.row 9 1 v2 [.str t]]) (h.length+1) v2=some (9,1,[t].map .str):=by simp[getRow]
  obtain⟨m,b,cur,hm,hb,hheap,hsz,hle,hmax,h0,rfl,hc⟩:=gM fit hn hg0 r0
  obtain⟨m2,b2,cur2,hm2,hb2,hheap2,hsz2,hle2,hmax2,h02,rfl,hc2⟩:=gM fit (by simp) hg2 r2
  simp only[↓reduceIte]
  have hne:b2≠b:=fun e=>by have:=fit.sep _ _ m2 m b hm2 hm (by rw[hb2,e]) hb;omega
  have hset:(h++[Blk.row 9 1 v1 (l.map .str),.row 9 1 v2 [.str t]]).set h.length .dead=h++[.dead,.row 9 1 v2 [.str t]]:=by simp[List.set_append]
  have hil:(l.take i++t::l.drop i).length=l.length+1:=by simp;omega
  change OpOk Tryz.prog _ ((callFunc 101 #[_,_,_]).run Tryz.prog w)
  rw[bw (f:=101) Tryz.func101 rfl rfl]
  have fin:∀(w':World) (g cap:Nat),Only w w' (some b)→(g=b∨(w.heap.size≤g∧g<w'.heap.size))→l.length+1≤cap→cap≤maxLen→
    (∀j x,(l.take i++t::l.drop i)[j]? =some x→w'.cell? ⟨g,0+j,none⟩=some (encS x))→
    OpPost (CT G) B S μ w (fun r h'=>r=.sl 1 ((l.take i++t::l.drop i).map .str)∧h'=h++[.dead,.row 9 1 v2 [.str t]]) (.slice (some ⟨g,0,none⟩) (l.length+1) cap) w':=by
   intro w' g cap ho hg hcap hmx hcell
   obtain⟨S',μ',st,f',rp⟩:=iJ fit hm (by rw[hb];exact ho) (g:=g) (by rcases hg with rfl|hg;exact .inl hb;exact .inr hg) (by rw[hil];exact hcap) hmx hcell
   rw[hset]at f'
   rw[hil]at rp
   exact⟨_,_,S',μ',⟨rfl,rfl⟩,st,f',rp⟩
  have hcs:∀j v,(l.map encS)[j]? =some v→w.cell? ⟨b,0+j,none⟩=some v:=by
   intro j v hv
   rw[List.getElem?_map]at hv
   obtain⟨x,hx,rfl⟩:=Option.map_eq_some_iff.1 hv
   exact hc j x hx
  have hvs:∀j v,[encS t][j]? =some v→w.cell? ⟨b2,0+j,none⟩=some v:=by
   intro j v hv
   match j with
   |0=>simp at hv;subst hv;exact hc2 0 t rfl
   |j+1=>simp at hv
  have h1c:∀v∈l.map encS,v.oneCell'=true:=by intro v hv;obtain⟨x,_,rfl⟩:=List.mem_map.1 hv;rfl
  have h1v:∀v∈ [encS t],v.oneCell'=true:=by intro v hv;simp at hv;subst hv;rfl
  have there:∀k,k<m.cap→(w.cell? ⟨b,k,none⟩).isSome=true:=by
   intro k hk
   have:k<cur.size:=by omega
   simp[World.cell?,hheap,this]
  have mx:maxLen≤9223372036854775807:=by decide
  have hdr:(l.map encS).drop i=(l.drop i).map encS:=by rw[List.map_drop]
  by_cases hroom:l.length+1≤m.cap
  ·by_cases hil2:i=l.length
   ·subst hil2
    refine(Any2.slices_Insert_string_end_room Tryz.lays2_22 b 0 l.length m.cap b2 0 1 _ [encS t] w (by omega) hroom (by omega) rfl (fun j hj=>there _ (by omega)) (fun j hj=>by simp[World.frozen?,hheap]) hvs h1v).mono fun e w' ⟨he,hw⟩=>?_
    refine⟨_,he,fin w' b m.cap (by rw[hw];exact Only.setCells _ _ _ _) (.inl rfl) hroom hmax fun j x hx=>?_⟩
    rw[hw]
    rcases gN l t l.length (Nat.le_refl _) j x hx with⟨h1,h2⟩| ⟨rfl,rfl⟩| ⟨h1,h2⟩
    ·rw[World.cell?_setCells_out _ _ _ _ _ (fun _ _=>.inl (by simp;omega))];exact hc j x h2
    ·exact gw (there _ (by omega))
    ·have:=(List.getElem?_eq_some_iff.1 h2).1;omega
   ·refine(Any2.slices_Insert_string_shift Tryz.lays2_22 b 0 l.length m.cap i b2 0 1 _ (l.map encS) [encS t] w (by omega) (by omega) hroom (by omega) hne (by simp) rfl hcs (fun j hj=>there _ (by omega)) (fun j hj=>by simp[World.frozen?,hheap]) hvs h1c h1v
     9 9 cur2.size cur.size (by simp[World.shape?,hheap2]) (by simp[World.shape?,hheap]) (by omega) (by simp[World.frozen?,hheap2]) (by simp[World.frozen?,hheap2])).mono fun e w' ⟨he,hw⟩=>?_
    refine⟨_,he,fin w' b m.cap (by rw[hw];exact((Only.drew w _).trans (Only.setCells _ _ _ _)).trans (Only.setCells _ _ _ _)) (.inl rfl) hroom hmax fun j x hx=>?_⟩
    rw[hw]
    have th2:∀k,k<m.cap→((w.drew.setCells b (0+(i+1)) ((l.map encS).drop i)).cell? ⟨b,k,none⟩).isSome=true:=fun k hk=>cO b _ _ _ _ (there k hk)
    rcases gN l t i hi j x hx with⟨h1,h2⟩| ⟨rfl,rfl⟩| ⟨h1,h2⟩
    ·rw[World.cell?_setCells_out _ _ _ _ _ (fun _ _=>.inl (by simp;omega)),World.cell?_setCells_out _ _ _ _ _ (fun _ _=>.inl (by simp;omega))];exact hc j x h2
    ·exact gw (th2 _ (by omega))
    ·have hjl:=(List.getElem?_eq_some_iff.1 h2).1
     rw[World.cell?_setCells_out _ _ _ _ _ (fun _ _=>.inr (by simp;omega))]
     have:=World.cell?_setCells_in b ((l.map encS).drop i) (0+(i+1)) w.drew (fun k hk=>by
      have hk2:k<l.length-i:=by simpa using hk
      exact there _ (by omega)) (j-1-i) (by simp;omega)
     rw[show 0+(i+1)+(j-1-i)=0+j by omega]at this
     rw[this]
     have e2:i+(j-1-i)=j-1:=by omega
     simp only[List.getElem_drop,List.getElem_map,e2]
     rw[(List.getElem?_eq_some_iff.1 h2).2]
  ·have hcl:m.cap=l.length:=by omega
   have hcg:=grownCap_ge w (l.length+1) m.cap 9
   have hmx1:(100001:Nat)≤maxLen:=by decide
   have hcm:=grownCap_le_maxLen w (l.length+1) m.cap 9 (by omega)
   by_cases hil2:i=l.length
   ·subst hil2
    refine(Any2.slices_Insert_string_end_grow Tryz.lays2_22 (some ⟨b,0,none⟩) l.length m.cap b2 0 1 _ (l.map encS) [encS t] w (by omega) (by omega) (by omega) (by omega) (by simp) rfl (by simp)
     (fun a ha j v hv=>by cases ha;rw[bb];exact hcs j v hv) hvs h1v).mono fun e w' ⟨he,hw⟩=>?_
    refine⟨_,he,fin w' w.heap.size _ (by rw[hw];exact(Only.drew w _).trans (Only.alloc _ _ _)) (.inr ⟨Nat.le_refl _,by rw[hw];simp⟩) hcg hcm fun j x hx=>?_⟩
    rw[hw]
    refine(fu w.drew _ _ _).trans ?_
    rw[Array.getElem?_append_left (by simp;have:=(List.getElem?_eq_some_iff.1 hx).1;rw[hil]at this;omega)]
    rcases gN l t l.length (Nat.le_refl _) j x hx with⟨h1,h2⟩| ⟨rfl,rfl⟩| ⟨h1,h2⟩
    ·rw[List.getElem?_toArray,List.getElem?_append_left (by simpa using by omega),List.getElem?_map,Nat.zero_add,h2];rfl
    ·rw[List.getElem?_toArray,List.getElem?_append_right (by simp)];simp
    ·have:=(List.getElem?_eq_some_iff.1 h2).1;omega
   ·refine(Any2.slices_Insert_string_grow Tryz.lays2_22 b 0 l.length m.cap i b2 0 1 _ (l.map encS) [encS t] w (by omega) (by omega) (by omega) (by omega) (by omega) (by simp) rfl hcs hvs h1c h1v).mono fun e w' ⟨he,hw⟩=>?_
    rw[show Tryz.lays2_22_ren.t 9=9 from rfl]at hw
    generalize hw1:w.alloc (.cells (((l.map encS).take i).toArray++Builtin.zeroCells (Value.string ⟨#[]⟩).cells (l.length+1-i)++Builtin.zeroCells (Value.string ⟨#[]⟩).cells (grownCap w (l.length+1) m.cap 9-(l.length+1))) 9)=w1 at hw
    have hsz1:w1.heap.size=w.heap.size+1:=by rw[← hw1];simp
    have ho1:Only w w1 (some b):=by rw[← hw1];exact Only.alloc _ _ _
    have hw':w'=((w1.drew.setCells w.heap.size i [encS t]).drew).setCells w.heap.size (i+1) ((l.map encS).drop i):=hw
    have ho2:Only w1 w' (some w.heap.size):=by rw[hw'];exact(((Only.drew _ _).trans (Only.setCells _ _ _ _)).trans (Only.drew _ _)).trans (Only.setCells _ _ _ _)
    have hc1:∀k,w1.cell? ⟨w.heap.size,k,none⟩=(((l.map encS).take i).toArray++Builtin.zeroCells (Value.string ⟨#[]⟩).cells (l.length+1-i)++Builtin.zeroCells (Value.string ⟨#[]⟩).cells (grownCap w (l.length+1) m.cap 9-(l.length+1)))[k]? :=by
     intro k;rw[← hw1];exact fu _ _ _ _
    have th1:∀k,k<l.length+1→(w1.cell? ⟨w.heap.size,k,none⟩).isSome=true:=by
     intro k hk
     rw[hc1,Array.getElem?_eq_getElem (by simp[size_zeroCells,Value.cells];omega)];rfl
    have th2:∀k,k<l.length+1→((w1.drew.setCells w.heap.size i [encS t]).drew.cell? ⟨w.heap.size,k,none⟩).isSome=true:=fun k hk=>cO _ _ _ w1.drew _ (th1 k hk)
    refine⟨_,he,fin w' w.heap.size _ (Only.into ho1 ho2 (Nat.le_refl _)) (.inr ⟨Nat.le_refl _,by have:=ho2.size;omega⟩) hcg hcm fun j x hx=>?_⟩
    rw[hw']
    rcases gN l t i hi j x hx with⟨h1,h2⟩| ⟨rfl,rfl⟩| ⟨h1,h2⟩
    ·rw[World.cell?_setCells_out _ _ _ _ _ (fun _ _=>.inl (by simp;omega))]
     refine(World.cell?_setCells_out _ _ _ w1.drew _ (fun _ _=>.inl (by simp;omega))).trans ?_
     refine(hc1 _).trans ?_
     rw[Array.getElem?_append_left (by simp;omega),Array.getElem?_append_left (by simp;omega),List.getElem?_toArray,Nat.zero_add,List.getElem?_take_of_lt h1,List.getElem?_map,h2];rfl
    ·rw[World.cell?_setCells_out _ _ _ _ _ (fun _ _=>.inl (by simp))]
     have:=gw (w:=w1.drew) (b:=w.heap.size) (o:=j) (v:=encS x) (th1 j (by omega))
     simpa using this
    ·have hjl:=(List.getElem?_eq_some_iff.1 h2).1
     have:=World.cell?_setCells_in w.heap.size ((l.map encS).drop i) (i+1) (w1.drew.setCells w.heap.size i [encS t]).drew (fun k hk=>by
      have hk2:k<l.length-i:=by simpa using hk
      exact th2 _ (by omega)) (j-1-i) (by simp;omega)
     rw[show i+1+(j-1-i)=0+j by omega]at this
     rw[this]
     have e2:i+(j-1-i)=j-1:=by omega
     simp only[List.getElem_drop,List.getElem_map,e2]
     rw[(List.getElem?_eq_some_iff.1 h2).2]
theorem nt(a:AVal)(ha:a=.ez∨a=.nil (.slice none 0 0))(t:Bs)(v2:Nat)(rm:Bool)(h:Heap):
  Sat (CT G) 101 [a,.int .i64 0,.hs h.length v2 0 1 rm] (h++[Blk.row 9 1 v2 [.str t]]) (fun r h'=>r=.sl 1 [.str t]∧h'=h++[.dead]):=by
 intro B S μ w us fit rl
 obtain⟨hul,hur⟩:=rl
 match us,hul,hur with
 | [u0,u1,u2],_,hur=>
  have r0:Rep w S μ a u0:=hur 0 _ rfl
  have r1:Rep w S μ (.int .i64 0) u1:=hur 1 _ rfl
  have r2:Rep w S μ (.hs h.length v2 0 1 rm) u2:=hur 2 _ rfl
  obtain rfl:=r1.int_inv
  have hg2:getRow (h++[Blk.row 9 1 v2 [.str t]]) h.length v2=some (9,1,[t].map .str):=by simp[getRow]
  obtain⟨m2,b2,cur2,hm2,hb2,hheap2,hsz2,hle2,hmax2,h02,rfl,hc2⟩:=gM fit (by simp) hg2 r2
  have hset:(h++[Blk.row 9 1 v2 [.str t]]).set h.length .dead=h++[.dead]:=by simp[List.set_append]
  obtain⟨base,rfl⟩:∃base,u0=.slice base 0 0:=by
   rcases ha with rfl|rfl
   ·cases r0 with|ez a=>exact⟨_,rfl⟩
   ·exact⟨none,r0.nil_inv⟩
  change OpOk Tryz.prog _ ((callFunc 101 #[_,_,_]).run Tryz.prog w)
  rw[bw (f:=101) Tryz.func101 rfl rfl]
  have hvs:∀j v,[encS t][j]? =some v→w.cell? ⟨b2,0+j,none⟩=some v:=by
   intro j v hv
   match j with
   |0=>simp at hv;subst hv;exact hc2 0 t rfl
   |j+1=>simp at hv
  have h1v:∀v∈ [encS t],v.oneCell'=true:=by intro v hv;simp at hv;subst hv;rfl
  have hcg:=grownCap_ge w (0+1) 0 9
  have hcm:=grownCap_le_maxLen w (0+1) 0 9 (by decide)
  refine(Any2.slices_Insert_string_end_grow Tryz.lays2_22 base 0 0 b2 0 1 _ [] [encS t] w (by omega) (by omega) (by omega) (by omega) rfl rfl (fun _=>rfl)
   (fun a ha j v hv=>by simp at hv) hvs h1v).mono fun e w' ⟨he,hw⟩=>?_
  obtain⟨S',μ',st,f',rp⟩:=iJ (ls:=[t]) (off:=0) (cap:=grownCap w (0+1) 0 9) (w':=w') fit hm2 (by rw[hw];exact(Only.drew w _).trans (Only.alloc _ _ _)) (g:=w.heap.size) (.inr ⟨Nat.le_refl _,by rw[hw];simp⟩) hcg hcm (fun j x hx=>by
   rw[hw]
   refine(fu w.drew _ _ _).trans ?_
   match j with
   |0=>simp at hx;subst hx;rw[Array.getElem?_append_left (by simp)];rfl
   |j+1=>simp at hx)
  rw[hset]at f'
  exact⟨_,he,_,_,S',μ',⟨rfl,rfl⟩,st,f',rp⟩
theorem pn(l:List Bs)(i v1:Nat)(hi:i<l.length)(hl:l.length≤100000)(h:Heap):
  Sat (CT G) 102 [.hs h.length v1 0 l.length true,.int .i64 i,.int .i64 (i+1)] (h++[Blk.row 9 1 v1 (l.map .str)])
   (fun r h'=>r=.sl 1 ((l.take i++l.drop (i+1)).map .str)∧h'=h++[.dead]):=by
 intro B S μ w us fit rl
 obtain⟨hul,hur⟩:=rl
 match us,hul,hur with
 | [u0,u1,u2],_,hur=>
  have r0:Rep w S μ (.hs h.length v1 0 l.length true) u0:=hur 0 _ rfl
  have r1:Rep w S μ (.int .i64 i) u1:=hur 1 _ rfl
  have r2:Rep w S μ (.int .i64 (i+1)) u2:=hur 2 _ rfl
  obtain rfl:=r1.int_inv
  obtain rfl:=r2.int_inv
  have hn:l≠ []:=by rintro rfl;simp at hi
  have hg0:getRow (h++[Blk.row 9 1 v1 (l.map .str)]) h.length v1=some (9,1,l.map .str):=by simp[getRow]
  obtain⟨m,b,cur,hm,hb,hheap,hsz,hle,hmax,h0,rfl,hc⟩:=gM fit hn hg0 r0
  simp only[↓reduceIte]
  have hset:(h++[Blk.row 9 1 v1 (l.map .str)]).set h.length .dead=h++[.dead]:=by simp[List.set_append]
  have mx:maxLen≤9223372036854775807:=by decide
  change OpOk Tryz.prog _ ((callFunc 102 #[_,_,_]).run Tryz.prog w)
  rw[bw (f:=102) Tryz.func102 rfl rfl]
  have hH:Go.Sort.Holds Go.Proofs.encStr w b 0 l.toArray:=by
   intro j hj
   have hj':j<l.length:=by simpa using hj
   refine⟨?_,by simp[World.frozen?,hheap]⟩
   rw[hc j l[j] (List.getElem?_eq_getElem hj')]
   simp[encS,Go.Proofs.encStr,hj']
  have hlen:(l.take i++l.drop (i+1)++List.replicate (i+1-i) ([]:List UInt8)).length=l.length:=by simp;omega
  refine(Tryz.slices_Delete_string b 0 m.cap i (i+1) l w hH hle (by omega) (by omega) (by omega)).mono fun e w' ⟨he,q,hw⟩=>?_
  obtain⟨S',μ',st,f',rp⟩:=iJ (ls:=l.take i++l.drop (i+1)) (off:=0) (cap:=m.cap) (w':=w') fit hm (by rw[hw,hb];exact Only.trans (b:=Go.Sort.ahead w q) ⟨rfl,rfl,rfl,Nat.le_refl _,fun _ _ _=>rfl⟩ (Only.putRow _ _ _ _ _)) (g:=b) (.inl hb) (by simp;omega) hmax (fun j x hx=>by
   rw[hw]
   have hjl:=(List.getElem?_eq_some_iff.1 hx).1
   have hH2:Go.Sort.Holds Go.Proofs.encStr (Go.Sort.ahead w q) b 0 l.toArray:=hH
   rw[Go.Sort.cell?_putRow _ _ _ _ l.toArray _ hH2 (by simpa using hlen) j (by rw[List.size_toArray,List.length_append];omega)]
   have hx2:(l.take i++l.drop (i+1)++List.replicate (i+1-i) ([]:List UInt8))[j]? =some x:=by rw[List.getElem?_append_left hjl];exact hx
   have:(l.take i++l.drop (i+1)++List.replicate (i+1-i) ([]:List UInt8)).toArray[j]! =x:=by
    rw[getElem!_def,List.getElem?_toArray,hx2]
   rw[this];rfl)
  rw[hset]at f'
  have hl2:(l.take i++l.drop (i+1)).length=l.length-(i+1-i):=by simp;omega
  rw[hl2]at rp
  exact⟨_,he,_,_,S',μ',⟨rfl,rfl⟩,st,f',rp⟩
end Go.Av
namespace Go.Av
open Go Go.Proofs Go.RowKit
attribute [local irreducible] WP WPl WPix Sat
variable (G:Nat→Option (List AVal))
theorem eK(h:Heap):Sat (CT G) 87 [.sl 1 []] h (fun r h'=>(r=.ez∨r=.nil (.slice none 0 0))∧h'=h):=by
 refine sb [.tmp 2] (fn:=Tryz.f87) Tryz.func87 ?_
 intro Q hQ
 refine wk trivial ?_
 refine iX _ (by exact zq trivial) (.inl rfl) fun b=>?_
 cases b
 ·try refine sq trivial ?_
  refine wk trivial ?_
  refine gG (.inl rfl) (by simp(disch:=first|omega| (simp only[go_sem, ↓reduceIte,seval];first|done|omega)|fail) only[go_sem, ↓reduceIte,seval];rfl) (by simp(disch:=first|omega| (simp only[go_sem, ↓reduceIte,seval];first|done|omega)|fail) only[go_sem, ↓reduceIte,seval];rfl) (by simp(disch:=first|omega| (simp only[go_sem, ↓reduceIte,seval];first|done|omega)|fail) only[go_sem, ↓reduceIte,seval];rfl) (by simp(disch:=first|omega| (simp only[go_sem, ↓reduceIte,seval];first|done|omega)|fail) only[go_sem, ↓reduceIte,seval];try rfl) (by omega) (by simp only[elemsOf, ↓reduceIte];try rfl) (by simp) (fun _=>?_) (fun h=>absurd rfl h)
  try refine sq trivial ?_
  refine wk trivial ?_
  refine ee hQ trivial ?_
  exact Fin.same .ez ⟨.inl rfl,rfl⟩
 ·try refine sq trivial ?_
  refine wk trivial ?_
  refine ee hQ trivial ?_
  exact Fin.same (.nil _) ⟨.inr rfl,rfl⟩
theorem pr(l:List Bs)(hn:l≠ [])(hl:l.length≤1048576)(h:Heap):Sat (CT G) 87 [.sl 1 (l.map .str)] h (fun r h'=>r=.hs h.length 0 0 l.length true∧h'=h++[Blk.row 9 1 0 (l.map .str)]):=by
 obtain⟨a,l,rfl⟩:∃a k,l=a::k:=by
  cases l with
  |nil=>exact absurd rfl hn
  |cons a k=>exact⟨a,k,rfl⟩
 have hr:(List.map AVal.str (a::l))≠ []:=by simp
 refine sb [.tmp 2] (fn:=Tryz.f87) Tryz.func87 ?_
 intro Q hQ
 refine wk trivial ?_
 refine gG (.inl rfl) (by simp(disch:=first|omega| (simp only[go_sem, ↓reduceIte,seval];first|done|omega)|fail) only[go_sem, ↓reduceIte,seval];rfl) (by simp(disch:=first|omega| (simp only[go_sem, ↓reduceIte,seval];first|done|omega)|fail) only[go_sem, ↓reduceIte,seval];rfl) (by simp(disch:=first|omega| (simp only[go_sem, ↓reduceIte,seval];first|done|omega)|fail) only[go_sem, ↓reduceIte,seval];rfl) (by simp(disch:=first|omega| (simp only[go_sem, ↓reduceIte,seval];first|done|omega)|fail) only[go_sem, ↓reduceIte,seval];try rfl) (by omega) (by simp only[elemsOf, ↓reduceIte];try rfl) ?_ (fun h=>by simp at h) (fun _=>?_)
 ·simp[maxLen]at hl ⊢;omega
 try refine sq trivial ?_
 refine wk trivial ?_
 refine ee hQ trivial ?_
 exact Fin.whole (by simp) (.hs _ _ _ _ _ (by simp)) ⟨rfl,rfl⟩
section
variable {H:Heap} {n:Nat} {s:PS}
theorem pt(hn:n+9≤H.length)(x:Blk)(a:AVal)(ha:a=.ez∨a=.nil (.slice none 0 0))(t:Bs):Sat (CT G) 101 [a,.int .i64 0,.hs (H.length+1) 0 0 1 true] (so (H++[x,Blk.row 9 1 0 [.str t]]) n s)
  (fun r h'=>r=.sl 1 [.str t]∧h'=so (H++[x,.dead]) n s):=by
 have c:=nt G a ha t 0 true (so (H++[x]) n s)
 have hn1:n+9≤(H++[x]).length:=by simp;omega
 rw[aB hn1,aI hn1,aI hn1]at c
 simpa using c
theorem r7(hn:n+9≤H.length)(x:Blk)(l:List Bs)(t:Bs)(hl0:l≠ [])(hl:l.length≤100000):Sat (CT G) 101 [.hs (H.length+1) 0 0 l.length true,.int .i64 (lbF l t),.hs (H.length+2) 0 0 1 true] (so (H++[x,Blk.row 9 1 0 (l.map .str),Blk.row 9 1 0 [.str t]]) n s)
  (fun r h'=>r=.sl 1 ((l.take (lbF l t)++t::l.drop (lbF l t)).map .str)∧h'=so (H++[x,.dead,Blk.row 9 1 0 [.str t]]) n s):=by
 have c:=pm G l t (lbF l t) 0 0 true (mj l t) hl0 hl (so (H++[x]) n s)
 have hn1:n+9≤(H++[x]).length:=by simp;omega
 rw[aB hn1,aI hn1,aI hn1]at c
 simpa using c
theorem r8(hn:n+9≤H.length)(x:Blk)(l:List Bs)(i:Nat)(hi:i<l.length)(hl:l.length≤100000):Sat (CT G) 102 [.hs (H.length+1) 0 0 l.length true,.int .i64 i,.int .i64 (i+1)] (so (H++[x,Blk.row 9 1 0 (l.map .str)]) n s)
  (fun r h'=>r=.sl 1 ((l.take i++l.drop (i+1)).map .str)∧h'=so (H++[x,.dead]) n s):=by
 have c:=pn G l i 0 hi hl (so (H++[x]) n s)
 have hn1:n+9≤(H++[x]).length:=by simp;omega
 rw[aB hn1,aI hn1,aI hn1]at c
 simpa using c
theorem dK{s':PS}{j:Heap}{R:AVal→Heap→Prop}{r0 r:AVal}(hn:n+9≤H.length)(hz:Frz (so (H++j) n s') H.length r0 r)(hR:R r (so H n s')):Fin (so H n s) (so (H++j) n s') R r0:=cn hn rfl (PS.clo hn s') hz hR
theorem jl(hn:n+9≤H.length)(x:Blk)(l:List Bs):Frz (so (H++[x,Blk.row 9 1 0 (l.map .str)]) n s) H.length (.hs (H.length+1) 0 0 l.length true) (.sl 1 (l.map .str)):=by
 have hg:getRow (so (H++[x,Blk.row 9 1 0 (l.map .str)]) n s) (H.length+1) 0=some (9,1,l.map .str):=by
  rw[bt (by simp;omega) 0 (by omega)];simp[getRow]
 have:=Frz.data (n:=H.length) (len:=l.length) (room:=true) (by omega) hg (by simp) (fun r hr=>by obtain⟨a,_,rfl⟩:=List.mem_map.1 hr;exact .str _) (fun r hr c hc=>by obtain⟨a,_,rfl⟩:=List.mem_map.1 hr;simp[AVal.cells]at hc;subst hc;rfl)
 simpa using this
theorem cA(hn:n+9≤H.length)(x:Blk)(l:List Bs)(hl0:l≠ [])(hl:l.length≤1048576):Sat (CT G) 87 [.sl 1 (l.map .str)] (so (H++[x]) n s)
  (fun r h'=>r=.hs (H.length+1) 0 0 l.length true∧h'=so (H++[x,Blk.row 9 1 0 (l.map .str)]) n s):=by
 have c:=pr G l hl0 hl (so (H++[x]) n s)
 have hn1:n+9≤(H++[x]).length:=by simp;omega
 rw[aB hn1,aI hn1]at c
 simpa using c
end
theorem kP(s:PS)(id:Int)(t:Bs)(hs:Srt ((lkM s.it id).getD It.z).tags)(hl:((lkM s.it id).getD It.z).tags.length≤100000){H:Heap}{n:Nat}(hn:n+9≤H.length):Sat (CT G) 100 [.hp (n+8) 0 0 0,.int .i64 id,.str t] (so H n s) (fun r h'=>r=.tup [.int .i64 (lbF ((lkM s.it id).getD It.z).tags t),.bool (decide (t∈ ((lkM s.it id).getD It.z).tags))]∧h'=so H n s):=by
 refine sb [.tmp 6,.tmp 7] (fn:=Tryz.f100) Tryz.func100 ?_
 intro Q hQ
 refine wk trivial ?_
 refine kq trivial (lj G _ t hs hl _) ?_
 refine ye hQ trivial ?_
 exact cu hn (.tup _ (fun x hx=>by simp only[List.mem_cons,List.not_mem_nil,or_false]at hx;rcases hx with rfl|rfl;exact .int _ _;exact .bool _)) ⟨rfl,rfl⟩
def tgF(l:List Bs)(t:Bs)(n:Int):List Bs:=
 if n=1∧t ∉ l then l.take (lbF l t)++t::l.drop (lbF l t)else if n=0∧t∈l then l.take (lbF l t)++l.drop (lbF l t+1)else l
theorem ml(s:PS)(e:Ev)(hs:Srt ((lkM s.it e.a).getD It.z).tags)(hl:((lkM s.it e.a).getD It.z).tags.length≤100000){H:Heap}{n:Nat}(hn:n+9≤H.length):Sat (CT G) 53 [.hp (n+8) 0 0 0,e.av] (so H n s) (fun r h'=>r=.sl 1 ((tgF ((lkM s.it e.a).getD It.z).tags e.s e.n).map .str)∧h'=so H n s):=by
 have hT:=fun(H:Heap) (hn:n+9≤H.length)=>kP G s e.a e.s hs hl (n:=n) hn
 have hn1:∀x:Blk,n+9≤(H++[x]).length:=fun x=>by simp;omega
 generalize hg:((lkM s.it e.a).getD It.z).tags=l at hs hl hT ⊢
 by_cases hn0:l=[]
 ·subst hn0
  have ht:lbF [] e.s=0:=rfl
  have hd:decide (e.s∈ ([]:List Bs))=false:=by simp
  rw[ht,hd]at hT
  by_cases k1:e.n=1
  ·have F:=k1
   skip
   refine sb [.tmp 4] (fn:=Tryz.f53) Tryz.func53 ?_
   intro Q hQ
   refine wn F ?_
   refine bD 8 0 _ (by rfl) (by decide+kernel) (by kernel_rfl) (by decide+kernel) (by decide+kernel) (by decide+kernel) ?_
   simp only[List.take_succ_cons,List.take_zero]
   refine sq F ?_
   refine wn F ?_
   rw[hg]
   refine(eK G _).mono ?_
   rintro r h' ⟨hr,rfl⟩
   simp(disch:=first|omega| (simp only[go_sem, ↓reduceIte,seval];first|done|omega)|fail) only[go_sem, ↓reduceIte,seval,F]
   skip
   refine wk F ?_
   skip
   refine kx F (hT _ (by first|omega| (simp;omega))) ?_
   refine kx F (pt G hn _ r hr e.s) ?_
   skip
   refine ee hQ F ?_
   exact ak hn (.sl _ _ (by simp;exact .str _)) ⟨by simp[tgF,k1],rfl⟩
  ·by_cases k0:e.n=0
   ·have F:=k0
    skip
    refine sb [.tmp 4] (fn:=Tryz.f53) Tryz.func53 ?_
    intro Q hQ
    refine wn F ?_
    refine bD 8 0 _ (by rfl) (by decide+kernel) (by kernel_rfl) (by decide+kernel) (by decide+kernel) (by decide+kernel) ?_
    simp only[List.take_succ_cons,List.take_zero]
    refine sq F ?_
    refine wn F ?_
    rw[hg]
    refine(eK G _).mono ?_
    rintro r h' ⟨hr,rfl⟩
    simp(disch:=first|omega| (simp only[go_sem, ↓reduceIte,seval];first|done|omega)|fail) only[go_sem, ↓reduceIte,seval,F]
    skip
    refine wk F ?_
    refine kq F (hT _ (by first|omega| (simp;omega))) ?_
    refine ee hQ F ?_
    refine dK (r:=.sl 1 []) hn ?_ ⟨by simp[tgF,k0,k1],rfl⟩
    rcases hr with rfl|rfl
    ·exact .ezs _
    ·exact .nils _
   ·have n1:(e.n==1)=false:=by simp[k1]
    have n0:(e.n==0)=false:=by simp[k0]
    have F:=F2 n1 n0
    skip
    refine sb [.tmp 4] (fn:=Tryz.f53) Tryz.func53 ?_
    intro Q hQ
    refine wn F ?_
    refine bD 8 0 _ (by rfl) (by decide+kernel) (by kernel_rfl) (by decide+kernel) (by decide+kernel) (by decide+kernel) ?_
    simp only[List.take_succ_cons,List.take_zero]
    refine sq F ?_
    refine wn F ?_
    rw[hg]
    refine(eK G _).mono ?_
    rintro r h' ⟨hr,rfl⟩
    simp(disch:=first|omega| (simp only[go_sem, ↓reduceIte,seval];first|done|omega)|fail) only[go_sem, ↓reduceIte,seval,F]
    skip
    refine wk F ?_
    refine kq F (hT _ (by first|omega| (simp;omega))) ?_
    refine ee hQ F ?_
    refine dK (r:=.sl 1 []) hn ?_ ⟨by simp[tgF,k0,k1],rfl⟩
    rcases hr with rfl|rfl
    ·exact .ezs _
    ·exact .nils _
 ·by_cases km:e.s∈l
  ·have hd:decide (e.s∈l)=true:=by simp[km]
   rw[hd]at hT
   have hlt:lbF l e.s<l.length:=(List.getElem?_eq_some_iff.1 (oc hs km)).1
   by_cases k0:e.n=0
   ·have F:=k0
    skip
    refine sb [.tmp 4] (fn:=Tryz.f53) Tryz.func53 ?_
    intro Q hQ
    refine wn F ?_
    refine bD 8 0 _ (by rfl) (by decide+kernel) (by kernel_rfl) (by decide+kernel) (by decide+kernel) (by decide+kernel) ?_
    simp only[List.take_succ_cons,List.take_zero]
    refine sq F ?_
    refine wn F ?_
    rw[hg]
    refine(cA G hn _ l hn0 (by omega)).mono ?_
    rintro r h' ⟨rfl,rfl⟩
    try refine sq F ?_
    skip
    refine wk F ?_
    refine kq F (hT _ (by first|omega| (simp;omega))) ?_
    refine kq F (r8 G hn _ l (lbF l e.s) hlt hl) ?_
    refine ee hQ F ?_
    exact ak hn (iB _ _) ⟨by simp[tgF,k0,km],rfl⟩
   ·by_cases k1:e.n=1
    ·have F:=k1
     skip
     refine sb [.tmp 4] (fn:=Tryz.f53) Tryz.func53 ?_
     intro Q hQ
     refine wn F ?_
     refine bD 8 0 _ (by rfl) (by decide+kernel) (by kernel_rfl) (by decide+kernel) (by decide+kernel) (by decide+kernel) ?_
     simp only[List.take_succ_cons,List.take_zero]
     refine sq F ?_
     refine wn F ?_
     rw[hg]
     refine(cA G hn _ l hn0 (by omega)).mono ?_
     rintro r h' ⟨rfl,rfl⟩
     try refine sq F ?_
     skip
     refine wk F ?_
     refine kq F (hT _ (by first|omega| (simp;omega))) ?_
     refine ee hQ F ?_
     exact dK hn (jl hn _ l) ⟨by simp[tgF,k1,km],rfl⟩
    ·have n1:(e.n==1)=false:=by simp[k1]
     have n0:(e.n==0)=false:=by simp[k0]
     have F:=F2 n1 n0
     skip
     refine sb [.tmp 4] (fn:=Tryz.f53) Tryz.func53 ?_
     intro Q hQ
     refine wn F ?_
     refine bD 8 0 _ (by rfl) (by decide+kernel) (by kernel_rfl) (by decide+kernel) (by decide+kernel) (by decide+kernel) ?_
     simp only[List.take_succ_cons,List.take_zero]
     refine sq F ?_
     refine wn F ?_
     rw[hg]
     refine(cA G hn _ l hn0 (by omega)).mono ?_
     rintro r h' ⟨rfl,rfl⟩
     try refine sq F ?_
     skip
     refine wk F ?_
     refine kq F (hT _ (by first|omega| (simp;omega))) ?_
     refine ee hQ F ?_
     exact dK hn (jl hn _ l) ⟨by simp[tgF,k1,k0,km],rfl⟩
  ·have hd:decide (e.s∈l)=false:=by simp[km]
   rw[hd]at hT
   by_cases k1:e.n=1
   ·have F:=k1
    skip
    refine sb [.tmp 4] (fn:=Tryz.f53) Tryz.func53 ?_
    intro Q hQ
    refine wn F ?_
    refine bD 8 0 _ (by rfl) (by decide+kernel) (by kernel_rfl) (by decide+kernel) (by decide+kernel) (by decide+kernel) ?_
    simp only[List.take_succ_cons,List.take_zero]
    refine sq F ?_
    refine wn F ?_
    rw[hg]
    refine(cA G hn _ l hn0 (by omega)).mono ?_
    rintro r h' ⟨rfl,rfl⟩
    try refine sq F ?_
    skip
    refine wk F ?_
    skip
    refine kx F (hT _ (by first|omega| (simp;omega))) ?_
    refine kx F (r7 G hn _ l e.s hn0 hl) ?_
    skip
    refine ee hQ F ?_
    exact ak hn (iB _ _) ⟨by simp[tgF,k1,km],rfl⟩
   ·by_cases k0:e.n=0
    ·have F:=k0
     skip
     refine sb [.tmp 4] (fn:=Tryz.f53) Tryz.func53 ?_
     intro Q hQ
     refine wn F ?_
     refine bD 8 0 _ (by rfl) (by decide+kernel) (by kernel_rfl) (by decide+kernel) (by decide+kernel) (by decide+kernel) ?_
     simp only[List.take_succ_cons,List.take_zero]
     refine sq F ?_
     refine wn F ?_
     rw[hg]
     refine(cA G hn _ l hn0 (by omega)).mono ?_
     rintro r h' ⟨rfl,rfl⟩
     try refine sq F ?_
     skip
     refine wk F ?_
     refine kq F (hT _ (by first|omega| (simp;omega))) ?_
     refine ee hQ F ?_
     exact dK hn (jl hn _ l) ⟨by simp[tgF,k0,km],rfl⟩
    ·have n1:(e.n==1)=false:=by simp[k1]
     have n0:(e.n==0)=false:=by simp[k0]
     have F:=F2 n1 n0
     skip
     refine sb [.tmp 4] (fn:=Tryz.f53) Tryz.func53 ?_
     intro Q hQ
     refine wn F ?_
     refine bD 8 0 _ (by rfl) (by decide+kernel) (by kernel_rfl) (by decide+kernel) (by decide+kernel) (by decide+kernel) ?_
     simp only[List.take_succ_cons,List.take_zero]
     refine sq F ?_
     refine wn F ?_
     rw[hg]
     refine(cA G hn _ l hn0 (by omega)).mono ?_
     rintro r h' ⟨rfl,rfl⟩
     try refine sq F ?_
     skip
     refine wk F ?_
     refine kq F (hT _ (by first|omega| (simp;omega))) ?_
     refine ee hQ F ?_
     exact dK hn (jl hn _ l) ⟨by simp[tgF,k1,k0,km],rfl⟩
end Go.Av
namespace Go.Av
open Go Go.Proofs Go.RowKit
attribute [local irreducible] WP WPl WPix Sat
variable (G:Nat→Option (List AVal))
theorem xp(h:Heap)(s:PS):h++s.bl h.length=so (h++PS.z.bl h.length) h.length s:=by
 have:=j9 h (s.bl h.length) []
 rw[List.append_nil]at this
 rw[this];unfold so
 have hz:ov (h++PS.z.bl h.length) h.length (PS.z.bl h.length)=h++PS.z.bl h.length:=by
  have:=j9 h (PS.z.bl h.length) []
  rw[List.append_nil]at this;exact this.symm
 apply List.ext_getElem?
 intro p
 rw[aO (by simp),aO (by simp[PS.bl])]
 split
 ·rfl
 ·rename_i hp
  rcases Nat.lt_or_ge p h.length with h1|h1
  ·rw[List.getElem?_append_left h1,List.getElem?_append_left h1]
  ·rw[List.getElem?_append_right h1,List.getElem?_append_right h1,List.getElem?_eq_none (by simp[PS.bl]at hp ⊢;omega),List.getElem?_eq_none (by simp[PS.bl]at hp ⊢;omega)]
@[go_sem] theorem Ec(p:Nat):(AVal.hm p).cells=[.hm p]:=(rfl)
@[go_sem] theorem Gz(p:Nat):(AVal.hm p).lies=true:=(rfl)
theorem r9(h:Heap):Sat (CT G) 33 [] h (fun r h'=>r=.hp (h.length+8) 0 0 0∧h'=so (h++PS.z.bl h.length) h.length PS.z):=by
 rw[← xp]
 refine sb [.tmp 0] (fn:=Tryz.f33) Tryz.func33 ?_
 intro Q hQ
 refine wk trivial ?_
 refine ee hQ trivial ?_
 refine Fin.whole (by simp) (.hp _ _ _ _ (by simp)) ⟨rfl,?_⟩
 simp[PS.bl,PS.z,encM,PS.row]
theorem pu(es:List Ev)(hl:es.length≤1048576)(I:PS→Prop)(okF:PS→Ev→Bool)(stp:PS→Ev→PS)(hI0:I PS.z)(hI:∀s e,e∈es→I s→I (stp s e))
  (hA:∀s e,e∈es→I s→∀(n:Nat) (H:Heap),n+9≤H.length→Sat (CT G) 21 [.hp (n+8) 0 0 0,e.av] (so H n s) (fun r h'=>r=.bool (okF s e)∧h'=so H n (stp s e)))(h:Heap):
  Sat (CT G) 10 [.sl 7 (es.map Ev.av)] h (fun r h'=>r=.hp (h.length+8) 0 0 0∧h'=so (h++PS.z.bl h.length) h.length (es.foldl stp PS.z)):=by
 have hIk:∀k,I ((es.take k).foldl stp PS.z):=by
  intro k
  induction k with
  |zero=>exact hI0
  |succ k ih=>
   rw[List.take_add_one,List.foldl_append]
   cases he:es[k]? with
   |none=>exact ih
   |some e=>exact hI _ _ (List.mem_of_getElem? he) ih
 have hz9:(PS.z.bl h.length).length=9:=rfl
 generalize hH:h++PS.z.bl h.length=H0
 have hl0:h.length+9≤H0.length:=by rw[← hH];simp[hz9]
 have hN:=r9 G h
 rw[hH]at hN
 refine sb [.tmp 2] (fn:=Tryz.f10) Tryz.func10 ?_
 intro Q hQ
 refine wk trivial ?_
 refine kq trivial (hN) ?_
 refine lm (fun nL tL hL=>∃(k:Nat) (j:Heap),es.length-k=nL∧so (H0++j) h.length ((es.take k).foldl stp PS.z)=hL∧tL 3=.hp (h.length+8) 0 0 0∧tL 7=.sl 7 (es.map Ev.av)∧tL 8=.int .i64 es.length∧tL 9=.int .i64 k∧k≤es.length) ((fun(k:Nat) (j:Heap)=>(es.length-k:Nat)) (0) ([])) ?_ ?_
 ·refine Wkn.refl ⟨0,[],rfl,aA,?_,?_,?_,?_,by omega⟩
  all_goals first|exact zq trivial|rfl|omega|trivial|skip
 rintro _ s2 h' ⟨k,j,rfl,rfl,e3,e7,e8,e9,hk⟩ K2 hK2
 simp only[ai,aj,Nat.reduceEqDiff, ↓reduceIte]at e3 e7 e8 e9
 have F:=F4 e3 e7 e8 e9
 refine wk F ?_
 have hn1:h.length+9≤(H0++j).length:=by simp;omega
 refine cq F (fun c1=>?_) (fun c1=>?_)<;>(try exact c1.elim)<;>(refine wk F ?_)
 ·have c2:k<es.length:=by omega
  obtain⟨e,he⟩:∃e,es[k]? =some e:=⟨es[k],List.getElem?_eq_getElem c2⟩
  have hem:=List.mem_of_getElem? he
  have F:=F3 F c2 he
  try refine sq F ?_
  refine wk F ?_
  refine kq F (hA _ e hem (hIk k) _ _ (by first|omega| (simp;omega))) ?_
  have ht:(es.take (k+1)).foldl stp PS.z=stp ((es.take k).foldl stp PS.z) e:=by rw[List.take_add_one,List.foldl_append,he];rfl
  refine hK2 _ _ _ (Wkn.refl ⟨k+1,j++[.row 62 7 0 [e.av]],rfl,by rw[ht];rfl,?_,?_,?_,?_,by omega⟩) (by omega)
  all_goals first|exact zq F|rfl|omega|trivial|skip
 ·have hk2:k=es.length:=by omega
  subst hk2
  have htk:es.take es.length=es:=List.take_length
  rw[htk]
  refine wk F ?_
  refine ee hQ F ?_
  rw[← aI hl0]
  refine Fin.upto (by rw[aB hl0];omega) ?_ (.hp _ _ _ _ (by rw[aB hl0];omega)) ⟨rfl,rfl⟩
  rw[aB hl0]
  have:=xp h (es.foldl stp PS.z)
  rw[hH]at this
  rw[← this]
  exact(KeepC.refl h _).app (PS.clo hl0 _)
end Go.Av
namespace Go.Av
open Go Go.Proofs Go.RowKit Go.Shelf Go.Lib
def letF(r:Nat):Bool:=
 if r<192 then(decide (97≤r)&&decide (r≤122))||(decide (48≤r)&&decide (r≤57))
 else !(decide (r=215)||decide (r=247)||decide (r=65533))&& !((decide (8192≤r)&&decide (r≤8303))||(decide (12288≤r)&&decide (r≤12351)))
set_option maxHeartbeats 4000000 in
theorem mr(W:World)(r:Nat):Calls Tryz.prog 246 #[encR r] W fun e w'=>e=.returned (.bool (letF r))∧∃q,w'=W.drewN q:=by
 by_cases h0:r<192
 ·by_cases h1:97≤r<;>by_cases h2:r≤122<;>by_cases h3:48≤r<;>by_cases h4:r≤57
  all_goals first| (exfalso;omega)|skip
  all_goals
   have z0:(r:Int)<192↔r<192:=by omega
   have z1:(97:Int)≤(r:Int)↔97≤r:=by omega
   have z2:(r:Int)≤122↔r≤122:=by omega
   have z3:(48:Int)≤(r:Int)↔48≤r:=by omega
   have z4:(r:Int)≤57↔r≤57:=by omega
   go_enter Tryz.func246,Tryz.ntmps246
   go_wp2
   all_goals first| (exfalso;omega)| (go_ret;exact⟨by simp[letF,h0,h1,h2,h3,h4],0,rfl⟩)
 ·by_cases h1:r=215
  ·subst h1
   go_enter Tryz.func246,Tryz.ntmps246
   go_wp2
   all_goals first| (exfalso;omega)| (go_ret;exact⟨by simp[letF],0,rfl⟩)
  by_cases h2:r=247
  ·subst h2
   go_enter Tryz.func246,Tryz.ntmps246
   go_wp2
   all_goals first| (exfalso;omega)| (go_ret;exact⟨by simp[letF],0,rfl⟩)
  by_cases h3:r=65533
  ·subst h3
   go_enter Tryz.func246,Tryz.ntmps246
   go_wp2
   all_goals first| (exfalso;omega)| (go_ret;exact⟨by simp[letF],0,rfl⟩)
  by_cases h4:8192≤r<;>by_cases h5:r≤8303<;>by_cases h6:12288≤r<;>by_cases h7:r≤12351
  all_goals first| (exfalso;omega)|skip
  all_goals
   have z0:(r:Int)<192↔r<192:=by omega
   have z1:(r:Int)=215↔r=215:=by omega
   have z2:(r:Int)=247↔r=247:=by omega
   have z3:(r:Int)=65533↔r=65533:=by omega
   have z4:(8192:Int)≤(r:Int)↔8192≤r:=by omega
   have z5:(r:Int)≤8303↔r≤8303:=by omega
   have z6:(12288:Int)≤(r:Int)↔12288≤r:=by omega
   have z7:(r:Int)≤12351↔r≤12351:=by omega
   go_enter Tryz.func246,Tryz.ntmps246
   go_wp2
   all_goals first| (exfalso;omega)| (exfalso;simp only[beq_iff_eq]at *;omega)| (go_ret;exact⟨by simp[letF,h0,h1,h2,h3,h4,h5,h6,h7],0,rfl⟩)
set_option maxHeartbeats 4000000 in
theorem rj(w:World):PredAt Tryz.prog 245 #[] encR (fun r=> !letF r) w:=fun W r _=>by
 unfold FnGives
 have hL:=mr
 go_enter Tryz.func245,Tryz.ntmps245
 go_wp2_with (go_at_call 246;refine(hL _ _).mono ?_;rintro e w' ⟨rfl,q,rfl⟩)
 go_ret
 exact⟨rfl,_,rfl⟩
end Go.Av
namespace Go.Av
open Go Go.Proofs Go.RowKit
variable (G:Nat→Option (List AVal))
theorem pz{w w':World}(e:w'=w):Below w.heap.size w w':=by rw[e];exact Below.refl _ _
end Go.Av
namespace Go.Av
open Go Go.Proofs Go.RowKit
variable (G:Nat→Option (List AVal))
variable {G}
variable (G)
theorem fK(s p:Bs)(h:Heap):
  Sat (CT G) 148 [.str s,.str p] h (fun r h'=>r=.bool (Lib.hasPrefix s p)∧h'=h):=by
 refine Sat.of_calls (fn:=Tryz.f148) Tryz.func148 (by kernel_rfl) (by kernel_rfl) rfl rfl fun B S μ w f=>?_
 refine(Tryz.strings_HasPrefix ⟨s.toArray⟩ ⟨p.toArray⟩ w).mono fun e w' ⟨h1,h2⟩=>⟨h1,pz h2⟩
end Go.Av
namespace Go.Av
open Go Go.Proofs Go.RowKit
attribute [local irreducible] WP WPl WPix Sat
variable (G:Nat→Option (List AVal))
def bytA(b:UInt8):AVal:=.int .u8 b.toNat
def bldR(a:AVal)(q v:Nat)(s:Bs):Blk:=.row 290 2 0 [.agg [a,.hs q v 0 s.length true]]
def bufR(v:Nat)(s:Bs):Blk:=.row 5 1 v (s.map bytA)
def bldA(a:AVal)(p:Nat):Prop:=a=.nil (.pointer none)∨a=.hp p 0 0 0
theorem fw(s:Bs):bytesA (s.map bytA)=some s:=by
 induction s with
 |nil=>rfl
 |cons b s ih=>
  have hb:(UInt8.ofNat (b.toNat:Int).toNat)=b:=by simp
  simp only[List.map_cons,bytA,bytesA,hb,if_true]
  show(bytesA (s.map bytA)).map _=_
  rw[ih];rfl
@[go_sem] theorem Ak(a:AVal)(q v:Nat)(s:Bs)(l:Heap):getRow (bldR a q v s::l) 0 0=some (290,2,[.agg [a,.hs q v 0 s.length true]]):=rfl
theorem bj(v:Nat)(s:Bs)(l:Heap):getRow (bufR v s::l) 0 v=some (5,1,s.map bytA):=by simp[getRow,bufR]
theorem pA:ptrConv Tryz.prog 288 307 290 2=true:=by kernel_rfl
theorem mu:ptrConv Tryz.prog 307 288 290 2=true:=by kernel_rfl
theorem xt:ptrT Tryz.prog 288=true:=by kernel_rfl
attribute [go_sem] pA mu
theorem vL(n p q v:Nat)(s:Bs)(hp:p<n)(hq:q<n):CloB n (bldR (.hp p 0 0 0) q v s):=by
 intro r hr
 simp only[List.mem_singleton]at hr
 subst hr
 refine .agg _ fun c hc=>?_
 simp only[List.mem_cons,List.mem_nil_iff,or_false]at hc
 rcases hc with rfl|rfl
 ·exact .hp _ _ _ _ hp
 ·exact .hs _ _ _ _ _ hq
theorem kb(n v:Nat)(s:Bs):CloB n (bufR v s):=by
 intro r hr
 obtain⟨b,_,rfl⟩:=List.mem_map.1 hr
 exact .int _ _
theorem tR(h:Heap)(p:Nat)(hr:(getRow h p 0).isSome=true):abin Tryz.prog h .neq 288 (.hp p 0 0 0) (.hp p 0 0 0)=some (.bool false):=by
 simp[abin,hr,xt]
theorem rk(h:Heap)(p:Nat)(x:TypeId×Nat×List AVal)(hr:getRow h p 0=some x):abin Tryz.prog h .eql 288 (.hp p 0 0 0) (.nil (.pointer none))=some (.bool false):=by
 have hk:nilKind Tryz.prog 288 (.pointer none)=true:=by kernel_rfl
 simp[abin,hk,aeqNil,hr]
theorem vN(h:Heap):abin Tryz.prog h .eql 288 (.nil (.pointer none)) (.nil (.pointer none))=some (.bool true):=by
 have hk:nilKind Tryz.prog 288 (.pointer none)=true:=by kernel_rfl
 simp[abin,hk,aeqNil]
theorem Al{h j:Heap}{x y x' y':Blk}{n:Nat}(hx:CloB n x')(hy:CloB n y'):∀(p:Nat) (k:Blk),(h++x'::y'::j)[p]? =some k→(h++x::y::j)[p]? =some k∨CloB n k:=by
 intro p k hk
 rcases Nat.lt_or_ge p h.length with h1|h1
 ·rw[List.getElem?_append_left h1]at hk ⊢;exact .inl hk
 ·rw[List.getElem?_append_right h1]at hk ⊢
  match p-h.length,hk with
  |0,hk=>simp at hk;subst hk;exact .inr hx
  |1,hk=>simp at hk;subst hk;exact .inr hy
  |i+2,hk=>exact .inl (by simpa using hk)
def bldH(h j:Heap)(a:AVal)(v:Nat)(s:Bs):Heap:=h++bldR a (h.length+1) v s::bufR v s::j
theorem ci(h j:Heap)(a:AVal)(v:Nat)(s:Bs):(bldH h j a v s).length=h.length+(2+j.length):=by simp[bldH];omega
theorem gz(h j:Heap)(a:AVal)(v v':Nat)(s s':Bs):∀(p:Nat) (k:Blk),(bldH h j (.hp h.length 0 0 0) v' s')[p]? =some k→(bldH h j a v s)[p]? =some k∨CloB (bldH h j a v s).length k:=by
 rw[ci]
 exact Al (vL _ _ _ _ _ (by omega) (by omega)) (kb _ _ _)
theorem fL(a:AVal)(h j:Heap)(v:Nat)(s:Bs)(ha:bldA a h.length):
  Sat (CT G) 289 [.hp h.length 0 0 0] (bldH h j a v s) (fun r h'=>r=.tup []∧h'=bldH h j (.hp h.length 0 0 0) v s):=by
 have hK:=gz h j a v v s s
 have hl:=(ci h j (.hp h.length 0 0 0) v s).trans (ci h j a v s).symm
 have hfin:∀t',Fin (bldH h j a v s) (bldH h j (.hp h.length 0 0 0) v s) (fun r h'=>r=.tup []∧h'=bldH h j (.hp h.length 0 0 0) v s) t'∨True:=fun _=>.inr trivial
 have end_:Fin (bldH h j a v s) (bldH h j (.hp h.length 0 0 0) v s) (fun r h'=>r=.tup []∧h'=bldH h j (.hp h.length 0 0 0) v s) (.tup []):=Fin.keep0 hl hK (.tup _ (by simp)) ⟨rfl,rfl⟩
 clear hfin hK hl
 unfold bldH at*
 refine sb [] (fn:=Tryz.f289) Tryz.func289 ?_
 intro Q hQ
 (repeat (first|refine w1 (fun K hK=>?_)|refine w2 ?_|refine w3 ?_| ((first|refine w4 ?_|refine wD ?_|refine w5 ?_|refine w6 ?_|refine w7 ?_);try refine eQ trivial ?_)| (refine w8 ?_;refine eQ trivial ?_;refine w9 ?_)| ((first|refine hK _ _ (w0 ?_)| (clear hK K;refine hK _ _ (w0 ?_))| (clear hK K;clear hK K;refine hK _ _ (w0 ?_)));clear hK K)))
 rcases ha with rfl|rfl
 ·rw[qx,vN]
  simp(disch:=first|omega| (simp only[go_sem, ↓reduceIte,Nat.reduceEqDiff];done)|fail) only[go_sem, ↓reduceIte,Int.reduceToNat,Int.reduceLE,Int.reduceLT,Int.reduceSub,Int.reduceAdd,Nat.reduceEqDiff,Nat.reduceAdd,Nat.reduceLeDiff,Nat.reduceLT,Nat.reduceMul,Nat.reduceSub]
  (repeat (first|refine w1 (fun K hK=>?_)|refine w2 ?_|refine w3 ?_| ((first|refine w4 ?_|refine wD ?_|refine w5 ?_|refine w6 ?_|refine w7 ?_);try refine eQ trivial ?_)| (refine w8 ?_;refine eQ trivial ?_;refine w9 ?_)| ((first|refine hK _ _ (w0 ?_)| (clear hK K;refine hK _ _ (w0 ?_))| (clear hK K;clear hK K;refine hK _ _ (w0 ?_)));clear hK K)))
  refine⟨by simp,?_⟩
  refine(mt G _ _).mono ?_
  rintro r h' ⟨rfl,rfl⟩
  simp(disch:=first|omega| (simp only[go_sem, ↓reduceIte,Nat.reduceEqDiff];done)|fail) only[go_sem, ↓reduceIte,Int.reduceToNat,Int.reduceLE,Int.reduceLT,Int.reduceSub,Int.reduceAdd,Nat.reduceEqDiff,Nat.reduceAdd,Nat.reduceLeDiff,Nat.reduceLT,Nat.reduceMul,Nat.reduceSub,List.cons_ne_nil]
  refine(hQ _ _ ?_).2
  simp(disch:=first|omega| (simp only[go_sem, ↓reduceIte,Nat.reduceEqDiff];done)|fail) only[go_sem, ↓reduceIte,Int.reduceToNat,Int.reduceLE,Int.reduceLT,Int.reduceSub,Int.reduceAdd,Nat.reduceEqDiff,Nat.reduceAdd,Nat.reduceLeDiff,Nat.reduceLT,Nat.reduceMul,Nat.reduceSub]
  exact end_
 ·rw[sR,rk _ _ _ (by simp(disch:=first|omega| (simp only[go_sem, ↓reduceIte,Nat.reduceEqDiff];done)|fail) only[go_sem, ↓reduceIte,Int.reduceToNat,Int.reduceLE,Int.reduceLT,Int.reduceSub,Int.reduceAdd,Nat.reduceEqDiff,Nat.reduceAdd,Nat.reduceLeDiff,Nat.reduceLT,Nat.reduceMul,Nat.reduceSub];rfl)]
  simp(disch:=first|omega| (simp only[go_sem, ↓reduceIte,Nat.reduceEqDiff];done)|fail) only[go_sem, ↓reduceIte,Int.reduceToNat,Int.reduceLE,Int.reduceLT,Int.reduceSub,Int.reduceAdd,Nat.reduceEqDiff,Nat.reduceAdd,Nat.reduceLeDiff,Nat.reduceLT,Nat.reduceMul,Nat.reduceSub]
  (repeat (first|refine w1 (fun K hK=>?_)|refine w2 ?_|refine w3 ?_| ((first|refine w4 ?_|refine wD ?_|refine w5 ?_|refine w6 ?_|refine w7 ?_);try refine eQ trivial ?_)| (refine w8 ?_;refine eQ trivial ?_;refine w9 ?_)| ((first|refine hK _ _ (w0 ?_)| (clear hK K;refine hK _ _ (w0 ?_))| (clear hK K;clear hK K;refine hK _ _ (w0 ?_)));clear hK K)))
  rw[tR _ _ (by exact eR trivial)]
  simp(disch:=first|omega| (simp only[go_sem, ↓reduceIte,Nat.reduceEqDiff];done)|fail) only[go_sem, ↓reduceIte,Int.reduceToNat,Int.reduceLE,Int.reduceLT,Int.reduceSub,Int.reduceAdd,Nat.reduceEqDiff,Nat.reduceAdd,Nat.reduceLeDiff,Nat.reduceLT,Nat.reduceMul,Nat.reduceSub]
  (repeat (first|refine w1 (fun K hK=>?_)|refine w2 ?_|refine w3 ?_| ((first|refine w4 ?_|refine wD ?_|refine w5 ?_|refine w6 ?_|refine w7 ?_);try refine eQ trivial ?_)| (refine w8 ?_;refine eQ trivial ?_;refine w9 ?_)| ((first|refine hK _ _ (w0 ?_)| (clear hK K;refine hK _ _ (w0 ?_))| (clear hK K;clear hK K;refine hK _ _ (w0 ?_)));clear hK K)))
  refine(hQ _ _ ?_).2
  simp(disch:=first|omega| (simp only[go_sem, ↓reduceIte,Nat.reduceEqDiff];done)|fail) only[go_sem, ↓reduceIte,Int.reduceToNat,Int.reduceLE,Int.reduceLT,Int.reduceSub,Int.reduceAdd,Nat.reduceEqDiff,Nat.reduceAdd,Nat.reduceLeDiff,Nat.reduceLT,Nat.reduceMul,Nat.reduceSub]
  exact end_
theorem cR:byT Tryz.prog 5=some 1:=by kernel_rfl
theorem cC(h:Heap)(es:List AVal):elemsOf h 1 (.sl 1 es)=some es:=by simp[elemsOf]
theorem eW:(zroT Tryz.prog 5).map (fun z=>z.cells.length)=some 1:=by simp only[go_sem]
theorem lk(a:AVal)(h j:Heap)(v:Nat)(s:Bs)(b:UInt8)(ha:bldA a h.length)(hs:s.length+1≤1073741824):
  Sat (CT G) 295 [.hp h.length 0 0 0,.int .u8 b.toNat] (bldH h j a v s) (fun r h'=>r=.nil .nilIface∧h'=bldH h j (.hp h.length 0 0 0) (v+1) (s++[b])):=by
 have end_:Fin (bldH h j a v s) (bldH h j (.hp h.length 0 0 0) (v+1) (s++[b])) (fun r h'=>r=.nil .nilIface∧h'=bldH h j (.hp h.length 0 0 0) (v+1) (s++[b])) (.nil .nilIface):=
  Fin.keep0 ((ci ..).trans (ci ..).symm) (gz _ _ _ _ _ _ _) (.nil _) ⟨rfl,rfl⟩
 refine sb [.tmp 4] (fn:=Tryz.f295) Tryz.func295 ?_
 intro Q hQ
 refine bG trivial ?_
 refine(fL G a h j v s ha).mono ?_
 rintro r h' ⟨rfl,rfl⟩
 unfold bldH at*
 try refine eQ trivial ?_
 refine bG trivial ?_
 refine bB (.inl rfl) (by exact eR trivial) (by exact eR trivial) cR eW (by omega) (cC _ _) (by simp(disch:=first|omega| (simp only[go_sem, ↓reduceIte,Nat.reduceEqDiff];done)|fail) only[go_sem, ↓reduceIte,Int.reduceToNat,Int.reduceLE,Int.reduceLT,Int.reduceSub,Int.reduceAdd,Nat.reduceEqDiff,Nat.reduceAdd,Nat.reduceLeDiff,Nat.reduceLT,Nat.reduceMul,Nat.reduceSub,bj];rfl) (by simp) ?_ ?_
 ·simp[maxLen];omega
 simp(disch:=first|omega| (simp only[go_sem, ↓reduceIte,Nat.reduceEqDiff];done)|fail) only[go_sem, ↓reduceIte,Int.reduceToNat,Int.reduceLE,Int.reduceLT,Int.reduceSub,Int.reduceAdd,Nat.reduceEqDiff,Nat.reduceAdd,Nat.reduceLeDiff,Nat.reduceLT,Nat.reduceMul,Nat.reduceSub]
 refine bG trivial ?_
 refine ib hQ trivial ?_
 simp only[bldR,bufR,List.length_append,List.map_append,List.length_cons,List.length_nil,List.map_cons,List.map_nil,bytA,Nat.zero_add]at end_ ⊢
 exact end_
theorem vO(a:AVal)(h j:Heap)(v:Nat)(s:Bs):Sat (CT G) 293 [.hp h.length 0 0 0] (bldH h j a v s) (fun r h'=>r=.int .i64 s.length∧h'=bldH h j a v s):=by
 have end_:Fin (bldH h j a v s) (bldH h j a v s) (fun r h'=>r=.int .i64 s.length∧h'=bldH h j a v s) (.int .i64 s.length):=Fin.same (.int _ _) ⟨rfl,rfl⟩
 unfold bldH at*
 have F:= @bj
 refine sb [.tmp 2] (fn:=Tryz.f293) Tryz.func293 ?_
 intro Q hQ
 refine bG F ?_
 refine bG F ?_
 refine ib hQ F ?_
 exact end_
theorem xu:bptr Tryz.prog 304 5=true:=by kernel_rfl
theorem jn(a:AVal)(h j:Heap)(v:Nat)(s:Bs):Sat (CT G) 277 [.hp h.length 0 0 0] (bldH h j a v s) (fun r h'=>r=.str s∧∃b,h'=h++bldR a (h.length+1) v s::b::j):=by
 unfold bldH
 have F:= @bj
 refine sb [.tmp 2] (fn:=Tryz.f277) Tryz.func277 ?_
 intro Q hQ
 refine bG F ?_
 have fin:∀b,Fin (h++bldR a (h.length+1) v s::bufR v s::j) (h++bldR a (h.length+1) v s::b::j) (fun r h'=>r=.str s∧∃b,h'=h++bldR a (h.length+1) v s::b::j) (.str s)∨¬(b=bufR v s∨b=.dead):=fun b=>by
  by_cases hb:b=bufR v s∨b=.dead
  ·refine .inl (Fin.keep0 (by simp) (fun p k hk=>?_) (.str _) ⟨rfl,b,rfl⟩)
   rcases Nat.lt_or_ge p h.length with h1|h1
   ·rw[List.getElem?_append_left h1]at hk ⊢;exact .inl hk
   ·rw[List.getElem?_append_right h1]at hk ⊢
    match p-h.length,hk with
    |0,hk=>exact .inl (by simpa using hk)
    |1,hk=>
     simp at hk;subst hk
     rcases hb with rfl|rfl
     ·exact .inl (by simp)
     ·exact .inr trivial
    |i+2,hk=>exact .inl (by simpa using hk)
  ·exact .inr hb
 rcases Nat.eq_zero_or_pos s.length with h0|h0
 ·have hs:s=[]:=List.length_eq_zero_iff.1 h0
  subst hs
  simp(disch:=first|omega| (simp only[go_sem, ↓reduceIte,Nat.reduceEqDiff];done)|fail) only[go_sem, ↓reduceIte,Int.reduceToNat,Int.reduceLE,Int.reduceLT,Int.reduceSub,Int.reduceAdd,Nat.reduceEqDiff,Nat.reduceAdd,Nat.reduceLeDiff,Nat.reduceLT,Nat.reduceMul,Nat.reduceSub,F,List.length_nil,Nat.lt_irrefl,Int.natCast_zero]
  refine bG F ?_
  refine ib hQ F ?_
  rcases fin (bufR v [])with f|f
  ·exact f
  ·exact absurd (.inl rfl) f
 ·simp(disch:=first|omega| (simp only[go_sem, ↓reduceIte,Nat.reduceEqDiff];done)|fail) only[go_sem, ↓reduceIte,Int.reduceToNat,Int.reduceLE,Int.reduceLT,Int.reduceSub,Int.reduceAdd,Nat.reduceEqDiff,Nat.reduceAdd,Nat.reduceLeDiff,Nat.reduceLT,Nat.reduceMul,Nat.reduceSub,F,h0]
  refine sS h0 (by simp(disch:=first|omega| (simp only[go_sem, ↓reduceIte,Nat.reduceEqDiff];done)|fail) only[go_sem, ↓reduceIte,Int.reduceToNat,Int.reduceLE,Int.reduceLT,Int.reduceSub,Int.reduceAdd,Nat.reduceEqDiff,Nat.reduceAdd,Nat.reduceLeDiff,Nat.reduceLT,Nat.reduceMul,Nat.reduceSub,F];rfl) xu (by simp) (by rw[List.take_of_length_le (by simp)];exact fw s) ?_
  try refine eQ F ?_
  refine bG F ?_
  refine ib hQ F ?_
  rcases fin .dead with f|f
  ·exact f
  ·exact absurd (.inr rfl) f
end Go.Av
namespace Go.Av
open Go Go.Proofs Go.RowKit
attribute [local irreducible] WP WPl WPix Sat
variable (G:Nat→Option (List AVal))
def enc(r:Int):Bs:=(Utf8.encode r).data.toList
def Rune(r:Int):Prop:=0≤r∧(r<55296∨57343<r∧r≤1114111)
theorem Rune.valid{r:Int}(h:Rune r):Utf8.valid r=true:=by
 unfold Utf8.valid;obtain⟨h0,h1⟩:=h;simp;omega
theorem bf(n:Nat)(h:n<256):bytA (UInt8.ofNat n)=.int .u8 n:=by
 simp[bytA];omega
theorem xw{r:Int}(h0:0≤r)(h1:r<128):(enc r).map bytA=[.int .u8 r]:=by
 have hv:=Rune.valid (r:=r) ⟨h0,by omega⟩
 unfold enc Utf8.encode
 simp only[hv,if_true]
 rw[if_pos (by omega)]
 simp only[List.map_cons,List.map_nil]
 rw[bf _ (by omega)]
 simp only[List.cons.injEq,AVal.int.injEq,and_true,true_and]
 omega
theorem xx{r:Int}(h0:128≤r)(h1:r<2048):(enc r).map bytA=[.int .u8 (192+r/64),.int .u8 (128+r%64)]:=by
 have hv:=Rune.valid (r:=r) ⟨by omega,by omega⟩
 unfold enc Utf8.encode
 simp only[hv,if_true]
 rw[if_neg (by omega),if_pos (by omega)]
 simp only[List.map_cons,List.map_nil]
 rw[bf _ (by omega),bf _ (by omega)]
 simp only[List.cons.injEq,AVal.int.injEq,and_true,true_and]
 omega
theorem tS{r:Int}(h:Rune r)(h0:2048≤r)(h1:r<65536):(enc r).map bytA=[.int .u8 (224+r/4096),.int .u8 (128+r/64%64),.int .u8 (128+r%64)]:=by
 have hv:=h.valid
 unfold enc Utf8.encode
 simp only[hv,if_true]
 rw[if_neg (by omega),if_neg (by omega),if_pos (by omega)]
 simp only[List.map_cons,List.map_nil]
 rw[bf _ (by omega),bf _ (by omega),bf _ (by omega)]
 simp only[List.cons.injEq,AVal.int.injEq,and_true,true_and]
 omega
theorem xy{r:Int}(h0:65536≤r)(h1:r≤1114111):(enc r).map bytA=[.int .u8 (240+r/262144),.int .u8 (128+r/4096%64),.int .u8 (128+r/64%64),.int .u8 (128+r%64)]:=by
 have hv:=Rune.valid (r:=r) ⟨by omega,by omega⟩
 unfold enc Utf8.encode
 simp only[hv,if_true]
 rw[if_neg (by omega),if_neg (by omega),if_neg (by omega)]
 simp only[List.map_cons,List.map_nil]
 rw[bf _ (by omega),bf _ (by omega),bf _ (by omega),bf _ (by omega)]
 simp only[List.cons.injEq,AVal.int.injEq,and_true,true_and]
 omega
theorem dM(r:Int):1≤(enc r).length∧(enc r).length≤4:=by
 unfold enc Utf8.encode
 simp only[]
 generalize (if Utf8.valid r=true then r.toNat else Utf8.runeError)=c
 by_cases h1:c<128
 ·rw[if_pos h1];exact⟨by simp,by simp⟩
 ·rw[if_neg h1]
  by_cases h2:c<2048
  ·rw[if_pos h2];exact⟨by simp,by simp⟩
  ·rw[if_neg h2]
   by_cases h3:c<65536
   ·rw[if_pos h3];exact⟨by simp,by simp⟩
   ·rw[if_neg h3];exact⟨by simp,by simp⟩
theorem kc(P:Program)(h:Heap)(T:TypeId)(a b:Int)(k:IntKind)(hb:0≤b)(hb2:b<32):abin P h .shr T (.int .i32 a) (.int k b)=some (.int .i32 (a/2^b.toNat)):=by
 simp only[abin]
 rw[if_neg (by omega)]
 have:min b.toNat (IntKind.bits .i32)=b.toNat:=by simp[IntKind.bits];omega
 rw[this,Int.fdiv_eq_ediv_of_nonneg _ (by exact Int.le_of_lt (Int.pow_pos (by omega)))]
theorem wrap_u8(x:Int):IntKind.wrap .u8 x=x%256:=IntKind.wrap_u8 x
theorem wrap_u32(x:Int)(h0:0≤x)(h1:x<4294967296):IntKind.wrap .u32 x=x:=by rw[IntKind.wrap_u32];omega
theorem gU(n m:Nat)(h:n+m<256)(hh:∀x:_root_.Fin 256,x.val≤m→(BitVec.ofInt 8 n|||BitVec.ofInt 8 (x.val:Int)).toNat=n+x.val)(x:Int)(h0:0≤x)(h1:x≤m):aint .or .u8 n x=some (.int .u8 (n+x)):=by
 have e:(BitVec.ofInt 8 n|||BitVec.ofInt 8 ((x.toNat:Nat):Int)).toNat=n+x.toNat:=hh ⟨x.toNat,by omega⟩ (by simp;omega)
 rw[show x=((x.toNat:Nat):Int)from by omega]
 show some (AVal.int .u8 (IntKind.wrap .u8 (BitVec.ofInt 8 n|||BitVec.ofInt 8 ((x.toNat:Nat):Int)).toNat))=_
 rw[e,wrap_u8]
 congr 2;omega
theorem Am(x:Int)(h0:0≤x)(h1:x≤31):aint .or .u8 192 x=some (.int .u8 (192+x)):=gU 192 31 (by omega) (by decide+kernel) x h0 h1
theorem An(x:Int)(h0:0≤x)(h1:x≤15):aint .or .u8 224 x=some (.int .u8 (224+x)):=gU 224 15 (by omega) (by decide+kernel) x h0 h1
theorem Ao(x:Int)(h0:0≤x)(h1:x≤7):aint .or .u8 240 x=some (.int .u8 (240+x)):=gU 240 7 (by omega) (by decide+kernel) x h0 h1
theorem Ap(x:Int)(h0:0≤x)(h1:x≤63):aint .or .u8 128 x=some (.int .u8 (128+x)):=gU 128 63 (by omega) (by decide+kernel) x h0 h1
theorem Aq(x:Int)(h0:0≤x)(h1:x<256):aint .and .u8 x 63=some (.int .u8 (x%64)):=by
 have hh:∀x:_root_.Fin 256,(BitVec.ofInt 8 (x.val:Int)&&&BitVec.ofInt 8 63).toNat=x.val%64:=by decide+kernel
 have e:(BitVec.ofInt 8 ((x.toNat:Nat):Int)&&&BitVec.ofInt 8 63).toNat=x.toNat%64:=hh ⟨x.toNat,by omega⟩
 rw[show x=((x.toNat:Nat):Int)from by omega]
 show some (AVal.int .u8 (IntKind.wrap .u8 (BitVec.ofInt 8 ((x.toNat:Nat):Int)&&&BitVec.ofInt 8 63).toNat))=_
 rw[e,wrap_u8]
 congr 2;omega
theorem pB(P:Program)(h:Heap)(T:TypeId)(x:Int)(h0:0≤x)(h1:x≤31):abin P h .or T (.int .u8 192) (.int .u8 x)=some (.int .u8 (192+x)):=by simpa only[abin,if_true]using Am x h0 h1
theorem pC(P:Program)(h:Heap)(T:TypeId)(x:Int)(h0:0≤x)(h1:x≤15):abin P h .or T (.int .u8 224) (.int .u8 x)=some (.int .u8 (224+x)):=by simpa only[abin,if_true]using An x h0 h1
theorem pD(P:Program)(h:Heap)(T:TypeId)(x:Int)(h0:0≤x)(h1:x≤7):abin P h .or T (.int .u8 240) (.int .u8 x)=some (.int .u8 (240+x)):=by simpa only[abin,if_true]using Ao x h0 h1
theorem pE(P:Program)(h:Heap)(T:TypeId)(x:Int)(h0:0≤x)(h1:x≤63):abin P h .or T (.int .u8 128) (.int .u8 x)=some (.int .u8 (128+x)):=by simpa only[abin,if_true]using Ap x h0 h1
theorem pF(P:Program)(h:Heap)(T:TypeId)(x:Int)(h0:0≤x)(h1:x<256):abin P h .and T (.int .u8 x) (.int .u8 63)=some (.int .u8 (x%64)):=by simpa only[abin,if_true]using Aq x h0 h1
theorem Ed(P:Program)(h:Heap)(T:TypeId)(a:Int):abin P h .shr T (.int .i32 a) (.int .u64 6)=some (.int .i32 (a/64)):=by rw[kc _ _ _ _ _ _ (by omega) (by omega)];rfl
theorem Ar(P:Program)(h:Heap)(T:TypeId)(a:Int):abin P h .shr T (.int .i32 a) (.int .u64 12)=some (.int .i32 (a/4096)):=by rw[kc _ _ _ _ _ _ (by omega) (by omega)];rfl
theorem As(P:Program)(h:Heap)(T:TypeId)(a:Int):abin P h .shr T (.int .i32 a) (.int .u64 18)=some (.int .i32 (a/262144)):=by rw[kc _ _ _ _ _ _ (by omega) (by omega)];rfl
theorem kR(k:IntKind)(n:Int):aconv Tryz.prog 21 5 (.int k n)=some (.int .u8 (n%256)):=by simp only[aconv,go_sem,wrap_u8]
theorem jo(k:IntKind)(n:Int)(h0:0≤n)(h1:n<4294967296):aconv Tryz.prog 21 239 (.int k n)=some (.int .u32 n):=by simp only[aconv,go_sem,wrap_u32 n h0 h1]
theorem eM(r:Int)(hr:Rune r)(h1:128≤r)(h j:Heap)(X:Blk)(v:Nat)(s:Bs)(hs:s.length≤1073741824):
  Sat (CT G) 299 [.hs (h.length+1) v 0 s.length true,.int .i32 r] (h++X::bufR v s::j)
   (fun x h'=>x=.hs (h.length+1) (v+1) 0 (s.length+(enc r).length) true∧h'=h++X::bufR (v+1) (s++enc r)::j):=by
 have end_:∀l,l=enc r→Fin (h++X::bufR v s::j) (h++X::bufR (v+1) (s++l)::j) (fun x h'=>x=.hs (h.length+1) (v+1) 0 (s.length+(enc r).length) true∧h'=h++X::bufR (v+1) (s++enc r)::j) (.hs (h.length+1) (v+1) 0 (s.length+l.length) true):=fun l hl=>by
  subst hl
  refine Fin.keep0 (by simp) (fun p k hk=>?_) (.hs _ _ _ _ _ (by simp)) ⟨rfl,rfl⟩
  rcases Nat.lt_or_ge p h.length with h1|h1
  ·rw[List.getElem?_append_left h1]at hk ⊢;exact .inl hk
  ·rw[List.getElem?_append_right h1]at hk ⊢
   match p-h.length,hk with
   |0,hk=>exact .inl hk
   |1,hk=>simp at hk;subst hk;exact .inr (kb _ _ _)
   |i+2,hk=>exact .inl hk
 have F:=F2 (F9 @kR @jo @Ed @Ar @As @pB @pC @pD @pE) (F3 @pF @wrap_u8 @wrap_u32)
 obtain⟨hr0,hr1⟩:=hr
 refine sb [.tmp 4] (fn:=Tryz.f299) Tryz.func299 ?_
 intro Q hQ
 refine bG F ?_
 refine nZ F (fun hc=>?_) (fun hc=>?_)<;>(try exact hc.elim)<;>(refine bG F ?_)
 ·refine bB (.inl rfl) (by exact eR F) (by exact eR F) cR eW (by omega) (cC _ _) (by simp(disch:=first|omega| (simp only[go_sem, ↓reduceIte,Nat.reduceEqDiff];done)|fail) only[go_sem, ↓reduceIte,Int.reduceToNat,Int.reduceLE,Int.reduceLT,Int.reduceSub,Int.reduceAdd,Nat.reduceEqDiff,Nat.reduceAdd,Nat.reduceLeDiff,Nat.reduceLT,Nat.reduceMul,Nat.reduceSub,F,bj];rfl) (by simp) ?_ ?_
  ·simp[maxLen];omega
  simp(disch:=first|omega| (simp only[go_sem, ↓reduceIte,Nat.reduceEqDiff];done)|fail) only[go_sem, ↓reduceIte,Int.reduceToNat,Int.reduceLE,Int.reduceLT,Int.reduceSub,Int.reduceAdd,Nat.reduceEqDiff,Nat.reduceAdd,Nat.reduceLeDiff,Nat.reduceLT,Nat.reduceMul,Nat.reduceSub,F]
  refine bG F ?_
  refine ib hQ F ?_
  have e:=xx h1 (by omega)
  have le:(enc r).length=2:=by simpa using congrArg List.length e
  have:=end_ _ rfl
  simp only[bufR,List.map_append,e,le]at this
  have m0:r/64%256=r/64:=by omega
  have m1:r%256%64=r%64:=by omega
  simp only[bufR,List.map_append,e,le,m0,m1,List.length_cons,List.length_nil,Nat.zero_add,Nat.reduceAdd]
  exact this
 ·refine nZ F (fun hc=>?_) (fun hc=>?_)<;>(try exact hc.elim)<;>(refine bG F ?_)
  ·refine nZ F (fun hc=>?_) (fun hc=>?_)<;>(try exact hc.elim)<;>(refine bG F ?_)
   ·refine bB (.inl rfl) (by exact eR F) (by exact eR F) cR eW (by omega) (cC _ _) (by simp(disch:=first|omega| (simp only[go_sem, ↓reduceIte,Nat.reduceEqDiff];done)|fail) only[go_sem, ↓reduceIte,Int.reduceToNat,Int.reduceLE,Int.reduceLT,Int.reduceSub,Int.reduceAdd,Nat.reduceEqDiff,Nat.reduceAdd,Nat.reduceLeDiff,Nat.reduceLT,Nat.reduceMul,Nat.reduceSub,F,bj];rfl) (by simp) ?_ ?_
    ·simp[maxLen];omega
    simp(disch:=first|omega| (simp only[go_sem, ↓reduceIte,Nat.reduceEqDiff];done)|fail) only[go_sem, ↓reduceIte,Int.reduceToNat,Int.reduceLE,Int.reduceLT,Int.reduceSub,Int.reduceAdd,Nat.reduceEqDiff,Nat.reduceAdd,Nat.reduceLeDiff,Nat.reduceLT,Nat.reduceMul,Nat.reduceSub,F]
    refine bG F ?_
    refine ib hQ F ?_
    have e:=tS ⟨hr0,hr1⟩ (by omega) (by omega)
    have le:(enc r).length=3:=by simpa using congrArg List.length e
    have:=end_ _ rfl
    simp only[bufR,List.map_append,e,le]at this
    have m0:r/4096%256=r/4096:=by omega
    have m1:r/64%256%64=r/64%64:=by omega
    have m2:r%256%64=r%64:=by omega
    simp only[bufR,List.map_append,e,le,m0,m1,m2,List.length_cons,List.length_nil,Nat.zero_add,Nat.reduceAdd]
    exact this
   ·exfalso;omega
  ·(first|refine Bd F (fun hg=>?_) (fun hg=>?_)|refine pqo F (fun hg=>?_) (fun hg=>?_))<;>(try exact hg.elim)<;>(try refine eQ F ?_)<;>(refine bG F ?_)
   ·refine nZ F (fun hc=>?_) (fun hc=>?_)<;>(try exact hc.elim)<;>(refine bG F ?_)
    ·refine bB (.inl rfl) (by exact eR F) (by exact eR F) cR eW (by omega) (cC _ _) (by simp(disch:=first|omega| (simp only[go_sem, ↓reduceIte,Nat.reduceEqDiff];done)|fail) only[go_sem, ↓reduceIte,Int.reduceToNat,Int.reduceLE,Int.reduceLT,Int.reduceSub,Int.reduceAdd,Nat.reduceEqDiff,Nat.reduceAdd,Nat.reduceLeDiff,Nat.reduceLT,Nat.reduceMul,Nat.reduceSub,F,bj];rfl) (by simp) ?_ ?_
     ·simp[maxLen];omega
     simp(disch:=first|omega| (simp only[go_sem, ↓reduceIte,Nat.reduceEqDiff];done)|fail) only[go_sem, ↓reduceIte,Int.reduceToNat,Int.reduceLE,Int.reduceLT,Int.reduceSub,Int.reduceAdd,Nat.reduceEqDiff,Nat.reduceAdd,Nat.reduceLeDiff,Nat.reduceLT,Nat.reduceMul,Nat.reduceSub,F]
     refine bG F ?_
     refine ib hQ F ?_
     have e:=tS ⟨hr0,hr1⟩ (by omega) (by omega)
     have le:(enc r).length=3:=by simpa using congrArg List.length e
     have:=end_ _ rfl
     simp only[bufR,List.map_append,e,le]at this
     have m0:r/4096%256=r/4096:=by omega
     have m1:r/64%256%64=r/64%64:=by omega
     have m2:r%256%64=r%64:=by omega
     simp only[bufR,List.map_append,e,le,m0,m1,m2,List.length_cons,List.length_nil,Nat.zero_add,Nat.reduceAdd]
     exact this
    ·(first|refine Bd F (fun hg=>?_) (fun hg=>?_)|refine pqo F (fun hg=>?_) (fun hg=>?_))<;>(try exact hg.elim)<;>(try refine eQ F ?_)<;>(refine bG F ?_)
     ·refine nZ F (fun hc=>?_) (fun hc=>?_)<;>(try exact hc.elim)<;>(refine bG F ?_)
      ·refine bB (.inl rfl) (by exact eR F) (by exact eR F) cR eW (by omega) (cC _ _) (by simp(disch:=first|omega| (simp only[go_sem, ↓reduceIte,Nat.reduceEqDiff];done)|fail) only[go_sem, ↓reduceIte,Int.reduceToNat,Int.reduceLE,Int.reduceLT,Int.reduceSub,Int.reduceAdd,Nat.reduceEqDiff,Nat.reduceAdd,Nat.reduceLeDiff,Nat.reduceLT,Nat.reduceMul,Nat.reduceSub,F,bj];rfl) (by simp) ?_ ?_
       ·simp[maxLen];omega
       simp(disch:=first|omega| (simp only[go_sem, ↓reduceIte,Nat.reduceEqDiff];done)|fail) only[go_sem, ↓reduceIte,Int.reduceToNat,Int.reduceLE,Int.reduceLT,Int.reduceSub,Int.reduceAdd,Nat.reduceEqDiff,Nat.reduceAdd,Nat.reduceLeDiff,Nat.reduceLT,Nat.reduceMul,Nat.reduceSub,F]
       refine bG F ?_
       refine ib hQ F ?_
       have e:=xy (r:=r) (by omega) (by omega)
       have le:(enc r).length=4:=by simpa using congrArg List.length e
       have:=end_ _ rfl
       simp only[bufR,List.map_append,e,le]at this
       have m0:r/262144%256=r/262144:=by omega
       have m1:r/4096%256%64=r/4096%64:=by omega
       have m2:r/64%256%64=r/64%64:=by omega
       have m3:r%256%64=r%64:=by omega
       simp only[bufR,List.map_append,e,le,m0,m1,m2,m3,List.length_cons,List.length_nil,Nat.zero_add,Nat.reduceAdd]
       exact this
      ·exfalso;omega
     ·exfalso;omega
   ·exfalso;omega
theorem ke(r:Int)(hr:Rune r)(h j:Heap)(X:Blk)(v:Nat)(s:Bs)(hs:s.length≤1073741824):
  Sat (CT G) 290 [.hs (h.length+1) v 0 s.length true,.int .i32 r] (h++X::bufR v s::j)
   (fun x h'=>x=.hs (h.length+1) (v+1) 0 (s.length+(enc r).length) true∧h'=h++X::bufR (v+1) (s++enc r)::j):=by
 have end_:∀l,l=enc r→Fin (h++X::bufR v s::j) (h++X::bufR (v+1) (s++l)::j) (fun x h'=>x=.hs (h.length+1) (v+1) 0 (s.length+(enc r).length) true∧h'=h++X::bufR (v+1) (s++enc r)::j) (.hs (h.length+1) (v+1) 0 (s.length+l.length) true):=fun l hl=>by
  subst hl
  refine Fin.keep0 (by simp) (fun p k hk=>?_) (.hs _ _ _ _ _ (by simp)) ⟨rfl,rfl⟩
  rcases Nat.lt_or_ge p h.length with h1|h1
  ·rw[List.getElem?_append_left h1]at hk ⊢;exact .inl hk
  ·rw[List.getElem?_append_right h1]at hk ⊢
   match p-h.length,hk with
   |0,hk=>exact .inl hk
   |1,hk=>simp at hk;subst hk;exact .inr (kb _ _ _)
   |i+2,hk=>exact .inl hk
 have hr':=hr
 obtain⟨hr0,hr1⟩:=hr
 have F:=F2 @kR @jo
 refine sb [.tmp 4] (fn:=Tryz.f290) Tryz.func290 ?_
 intro Q hQ
 refine bG F ?_
 refine nZ F (fun hc=>?_) (fun hc=>?_)<;>(try exact hc.elim)<;>(refine bG F ?_)
 ·refine bB (.inl rfl) (by exact eR F) (by exact eR F) cR eW (by omega) (cC _ _) (by simp(disch:=first|omega| (simp only[go_sem, ↓reduceIte,Nat.reduceEqDiff];done)|fail) only[go_sem, ↓reduceIte,Int.reduceToNat,Int.reduceLE,Int.reduceLT,Int.reduceSub,Int.reduceAdd,Nat.reduceEqDiff,Nat.reduceAdd,Nat.reduceLeDiff,Nat.reduceLT,Nat.reduceMul,Nat.reduceSub,F,bj];rfl) (by simp) ?_ ?_
  ·simp[maxLen];omega
  simp(disch:=first|omega| (simp only[go_sem, ↓reduceIte,Nat.reduceEqDiff];done)|fail) only[go_sem, ↓reduceIte,Int.reduceToNat,Int.reduceLE,Int.reduceLT,Int.reduceSub,Int.reduceAdd,Nat.reduceEqDiff,Nat.reduceAdd,Nat.reduceLeDiff,Nat.reduceLT,Nat.reduceMul,Nat.reduceSub,F]
  refine bG F ?_
  refine ib hQ F ?_
  have e:=xw (r:=r) (by omega) (by omega)
  have le:(enc r).length=1:=by simpa using congrArg List.length e
  have:=end_ _ rfl
  simp only[bufR,List.map_append,e,le]at this
  have m0:r%256=r:=by omega
  simp only[bufR,List.map_append,e,le,m0,List.length_cons,List.length_nil,Nat.zero_add,Nat.reduceAdd]
  exact this
 ·refine Bf F (eM G r hr' (by omega) h j X v s hs) ?_
  refine ib hQ F ?_
  exact end_ _ rfl
theorem dq(a:AVal)(r:Int)(hr:Rune r)(h j:Heap)(v:Nat)(s:Bs)(ha:bldA a h.length)(hs:s.length≤1073741824):
  Sat (CT G) 275 [.hp h.length 0 0 0,.int .i32 r] (bldH h j a v s) (fun x h'=>x=.tup [.int .i64 (enc r).length,.nil .nilIface]∧h'=bldH h j (.hp h.length 0 0 0) (v+1) (s++enc r)):=by
 have end_:Fin (bldH h j a v s) (bldH h j (.hp h.length 0 0 0) (v+1) (s++enc r)) (fun x h'=>x=.tup [.int .i64 (enc r).length,.nil .nilIface]∧h'=bldH h j (.hp h.length 0 0 0) (v+1) (s++enc r)) (.tup [.int .i64 (enc r).length,.nil .nilIface]):=
  Fin.keep0 ((ci ..).trans (ci ..).symm) (gz _ _ _ _ _ _ _) (.tup _ (by intro c hc;simp at hc;rcases hc with rfl|rfl;exact .int _ _;exact .nil _)) ⟨rfl,rfl⟩
 have F:= @bj
 refine sb [.tmp 4,.tmp 5] (fn:=Tryz.f275) Tryz.func275 ?_
 intro Q hQ
 refine bG F ?_
 refine(fL G a h j v s ha).mono ?_
 rintro x h' ⟨rfl,rfl⟩
 unfold bldH at*
 try refine eQ F ?_
 refine bG F ?_
 refine Bf F (ke G r hr h j _ v s hs) ?_
 refine(hQ _ _ ?_).1
 simp(disch:=first|omega| (simp only[go_sem, ↓reduceIte,Nat.reduceEqDiff];done)|fail) only[go_sem, ↓reduceIte,Int.reduceToNat,Int.reduceLE,Int.reduceLT,Int.reduceSub,Int.reduceAdd,Nat.reduceEqDiff,Nat.reduceAdd,Nat.reduceLeDiff,Nat.reduceLT,Nat.reduceMul,Nat.reduceSub,F]
 have hl:=dM r
 simp only[bldR,bufR,List.length_append,List.map_append]at end_ ⊢
 rw[show IntKind.wrap .i64 (((s.length+(enc r).length:Nat):Int)-(s.length:Nat))=((enc r).length:Nat)from by rw[kD (by omega) (by omega)];omega]
 exact end_
end Go.Av
namespace Go.Av
open Go Go.Proofs Go.RowKit
def dec(s:Bs)(k:Nat):Nat×Nat:=Utf8.decode ⟨s.toArray⟩ k
theorem eC(s:Bs)(k:Nat):dec s k=Lib.decodeN (s.length-k) (s.getD k 0).toNat (s.getD (k+1) 0).toNat (s.getD (k+2) 0).toNat (s.getD (k+3) 0).toNat:=by
 unfold dec;rw[Lib.decode_N]
theorem aV(n:Nat)(h:n<256):(UInt8.ofNat n).toNat=n:=by simp;omega
def fix(r:Int):Nat:=if Utf8.valid r=true then r.toNat else Utf8.runeError
theorem xz(r:Int):fix r≤1114111:=by
 unfold fix Utf8.valid Utf8.runeError;split
 ·rename_i h;simp at h;omega
 ·omega
theorem vP(r:Int):fix r<55296∨57344≤fix r:=by
 unfold fix Utf8.valid Utf8.runeError;split
 ·rename_i h;simp at h;omega
 ·omega
theorem ol(r:Int):enc r=let c:=fix r
  if c<0x80 then [UInt8.ofNat c]
  else if c<0x800 then [UInt8.ofNat (0xC0+c/64),UInt8.ofNat (0x80+c%64)]
  else if c<0x10000 then [UInt8.ofNat (0xE0+c/4096),UInt8.ofNat (0x80+c/64%64),UInt8.ofNat (0x80+c%64)]
  else [UInt8.ofNat (0xF0+c/262144),UInt8.ofNat (0x80+c/4096%64),UInt8.ofNat (0x80+c/64%64),UInt8.ofNat (0x80+c%64)]:=by
 unfold enc Utf8.encode fix
 simp only[]
 split
 ·split
  ·rfl
  ·split
   ·rfl
   ·split<;>rfl
 ·rfl
theorem bc(s:Bs)(k:Nat)(h:k<s.length):1≤(dec s k).2∧k+(dec s k).2≤s.length:=by
 rw[eC]
 refine⟨Lib.decodeN_ge1 _ _ _ _ _,?_⟩
 unfold Lib.decodeN
 repeat (first|split| (simp only[];omega))
theorem kS(s:Bs)(k:Nat)(b:UInt8)(h:s[k]? =some b)(ha:b.toNat<128):dec s k=(b.toNat,1):=by
 rw[eC,List.getD_eq_getElem?_getD,h]
 exact Lib.decodeN_ascii _ _ _ _ _ ha
theorem tT(s:Bs)(k:Nat)(b:UInt8)(h:s[k]? =some b)(ha:128≤b.toNat):
  128≤(dec s k).1∧((dec s k).1<55296∨57343<(dec s k).1∧(dec s k).1≤1114111)∧∀i,i<(dec s k).2→∀c,s[k+i]? =some c→128≤c.toNat:=by
 have hb:s.getD k 0=b:=by rw[List.getD_eq_getElem?_getD,h];rfl
 have at_:∀i c,s[k+i]? =some c→s.getD (k+i) 0=c:=fun i c hc=>by rw[List.getD_eq_getElem?_getD,hc];rfl
 have l0:∀i,(s.getD i 0).toNat<256:=fun i=>(s.getD i 0).toNat_lt
 have e1:=l0 (k+1);have e2:=l0 (k+2);have e3:=l0 (k+3);have e0:=b.toNat_lt
 rw[eC,hb]
 generalize h1:(s.getD (k+1) 0).toNat=b1 at*
 generalize h2:(s.getD (k+2) 0).toNat=b2 at*
 generalize h3:(s.getD (k+3) 0).toNat=b3 at*
 have key:∀i c,s[k+i]? =some c→(i=0→c.toNat=b.toNat)∧(i=1→c.toNat=b1)∧(i=2→c.toNat=b2)∧(i=3→c.toNat=b3):=fun i c hc=>by
  have:=at_ i c hc
  refine⟨fun e=>?_,fun e=>?_,fun e=>?_,fun e=>?_⟩<;>subst e
  ·rw[← this];simp only[Nat.add_zero];rw[hb]
  ·rw[← h1,this]
  ·rw[← h2,this]
  ·rw[← h3,this]
 generalize s.length-k=n
 have fin:∀x m:Nat,(128≤x∧(x<55296∨57343<x∧x≤1114111))→(∀i,i<m→(i=0∧128≤b.toNat)∨(i=1∧128≤b1)∨(i=2∧128≤b2)∨(i=3∧128≤b3))→
   128≤(x,m).1∧((x,m).1<55296∨57343<(x,m).1∧(x,m).1≤1114111)∧∀i,i<(x,m).2→∀c,s[k+i]? =some c→128≤c.toNat:=fun x m hx hm=>
  ⟨hx.1,hx.2,fun i hi c hc=>by
   obtain⟨k0,k1,k2,k3⟩:=key i c hc
   rcases hm i hi with⟨e,h⟩| ⟨e,h⟩| ⟨e,h⟩| ⟨e,h⟩
   ·rw[k0 e];exact h
   ·rw[k1 e];exact h
   ·rw[k2 e];exact h
   ·rw[k3 e];exact h⟩
 unfold Lib.decodeN
 rw[if_neg (by omega)]
 split
 ·split
  ·exact fin _ _ (by omega) (fun i hi=>by omega)
  ·exact fin _ _ (by omega) (fun i hi=>by omega)
 ·split
  ·split
   ·exact fin _ _ (by omega) (fun i hi=>by omega)
   ·exact fin _ _ (by omega) (fun i hi=>by omega)
  ·split
   ·split
    ·exact fin _ _ (by omega) (fun i hi=>by omega)
    ·exact fin _ _ (by omega) (fun i hi=>by omega)
   ·exact fin _ _ (by omega) (fun i hi=>by omega)
end Go.Av
namespace Go.Av
open Go Go.Proofs Go.RowKit
attribute [local irreducible] WP WPl WPix Sat
variable (G:Nat→Option (List AVal))
theorem bP{x:Int}(h0: -2147483648≤x)(h1:x≤2147483647):IntKind.i32.wrap x=x:=by
 simp only[IntKind.wrap,IntKind.bits,IntKind.signed];simp;omega
theorem om(h j:Heap)(s:Bs)(q:Nat):(h++Blk.iter s q::j)[h.length]? =some (.iter s q):=by simp
end Go.Av
namespace Go.Av
open Go Go.Proofs Go.RowKit Go.Lib
section
variable {C:Ctx} {B:Nat} {S:Addr→Prop} {μ:Map} {h:Heap} {w w':World}
theorem tU(f:Fits C B S μ h w)(hb:Below w.heap.size w w'){g cap:Nat}{cur:Array Value}{e:TypeId}{ls:List Bs}(hg:w.heap.size≤g)(hheap:w'.heap[g]? =some (.cells cur e (0,0)))
  (hn:ls.length≤cap)(h0:0<cap)(hm:cap≤maxLen)(hsz:cur.size=cap)(hget:∀(i:Nat) (a:Bs),ls[i]? =some a→cur[i]? =some (.string ⟨a.toArray⟩)):
  Fits C B S (μ++[⟨some g,0,1,cap⟩]) (h++[.row e 1 0 (ls.map .str)]) w'∧Step B S μ w S (μ++[⟨some g,0,1,cap⟩]) w':=by
 obtain⟨f',st⟩:=f.grown hb
 have hgl:g<w'.heap.size:=(Array.getElem?_eq_some_iff.1 hheap).1
 have st2:Step B S μ w' S (μ++[⟨some g,0,1,cap⟩]) w':=⟨fun a ha=>ha,fun _ _=>rfl,Below.refl _ _,dS _ _,fun a ha=>.inl ha⟩
 refine⟨⟨fun g' cs hg'=>(f'.glob g' cs hg').mono st2,by simp[f'.len],?_,?_,f'.base,f'.lie,?_⟩,st.trans st2⟩
 ·intro p q m1 m2 b h1 h2 e1 e2
  rcases aE h1 with k1| ⟨k1,rfl⟩<;>rcases aE h2 with k2| ⟨k2,rfl⟩
  ·exact f'.sep p q m1 m2 b k1 k2 e1 e2
  ·have:=(f.own p m1 b k1 e1).2.1;cases e2;omega
  ·have:=(f.own q m2 b k2 e2).2.1;cases e1;omega
  ·rw[k1,k2]
 ·intro p m1 b h1 e1
  rcases aE h1 with k1| ⟨k1,rfl⟩
  ·exact f'.own p m1 b k1 e1
  ·cases e1
   exact⟨Nat.le_trans f.base hg,hgl,fun a ha=>by have:=f.lie a ha;omega⟩
 ·intro p m1 k1 h1 h2
  rcases aE h1 with a1| ⟨a1,rfl⟩
  ·have hp:p<h.length:=by have:=(List.getElem?_eq_some_iff.1 a1).1;rw[f.len]at this;exact this
   rw[List.getElem?_append_left hp]at h2
   exact(f'.blk p m1 k1 a1 h2).mono st2 fun _ _=>rfl
  ·rw[a1,f.len,List.getElem?_append_right (Nat.le_refl _)]at h2
   simp at h2
   subst h2
   refine⟨rfl,rfl,by omega,fun i r hr=>?_,fun i r j c hr hc=>?_,.inr ⟨g,cur,rfl,hheap,by simp[hsz],⟨h0,by simpa using hn⟩,hm,fun i r j c hr hc=>?_⟩⟩
   ·obtain⟨a,_,rfl⟩:=List.mem_map.1 (List.mem_of_getElem? hr);rfl
   ·obtain⟨a,_,rfl⟩:=List.mem_map.1 (List.mem_of_getElem? hr)
    match j with
    |0=>simp[AVal.cells]at hc;subst hc;rfl
    |j+1=>simp[AVal.cells]at hc
   ·rw[List.getElem?_map]at hr
    obtain⟨a,ha,rfl⟩:=Option.map_eq_some_iff.1 hr
    match j with
    |0=>
     simp[AVal.cells]at hc;subst hc
     exact⟨_,by simpa using hget i a ha,.str _⟩
    |j+1=>simp[AVal.cells]at hc
end
variable (G:Nat→Option (List AVal))
def fldsF(s:Bs):List Bs:=(goFieldsP (fun r=> !letF r) ⟨s.toArray⟩).map fun b=>b.data.toList
theorem pG(s:Bs)(hs:s.length≤1000000)(h:Heap):Sat (CT G) 243 [.str s,.fn (.func 245) [] []] h
  (fun r h'=>(fldsF s=[]∧r=.sl 1 []∧h'=h)∨(fldsF s≠ []∧r=.hs h.length 0 0 (fldsF s).length true∧h'=h++[.row 9 1 0 ((fldsF s).map .str)])):=by
 intro B S μ w us fit rl
 obtain⟨hul,hur⟩:=rl
 match us,hul,hur with
 | [v0,v1],_,hur=>
  have r0:Rep w S μ (.str s) v0:=hur 0 _ rfl
  have r1:Rep w S μ (.fn (.func 245) [] []) v1:=hur 1 _ rfl
  obtain rfl:=r0.str_inv
  obtain rfl:v1=.func (.func 245) #[] #[]:=by
   cases r1 with
   |fn _ _ _ xv cv h1 h2 h3 h4=>
    match xv,cv,h1,h2 with
    | [],[],_,_=>rfl
  change OpOk Tryz.prog _ ((callFunc 243 #[Value.string ⟨s.toArray⟩,Value.func (Fn.func 245) #[] #[]]).run Tryz.prog w)
  rw[bw (f:=243) Tryz.func243 rfl rfl]
  refine(Tryz.strings_FieldsFunc 245 #[] (enters_of Tryz.func245 (by kernel_rfl) rfl) _ ⟨s.toArray⟩ w (by simp[ByteArray.size];omega) (rj w)).mono fun e w' ⟨A,he,hA,hrow,hbel⟩=>?_
  refine⟨_,he,?_⟩
  have hlen:(fldsF s).length=(goFieldsP (fun r=> !letF r) ⟨s.toArray⟩).length:=by unfold fldsF;rw[List.length_map]
  have hmap:(goFieldsP (fun r=> !letF r) ⟨s.toArray⟩).map Value.string=(fldsF s).map fun a=>Value.string ⟨a.toArray⟩:=by
   unfold fldsF
   rw[List.map_map]
   exact List.map_congr_left fun b _=>by simp
  rw[hmap]at hrow
  rw[← hlen]at hrow he ⊢
  obtain⟨_,ho⟩:=hrow
  rcases ho with⟨h1,_⟩| ⟨g,cap,cur,h1,hg,hheap,hn,hm,hsz,htk⟩
  ·cases h1
  ·cases h1
   by_cases hl:fldsF s=[]
   ·obtain⟨f',st⟩:=fit.grown hbel
    rw[hl]
    exact⟨.sl 1 [],h,S,μ,.inl ⟨rfl,rfl,rfl⟩,st,f',.sl0 1 _ _⟩
   ·have hp:=List.length_pos_iff.2 hl
    have hget:∀(i:Nat) (a:Bs),(fldsF s)[i]? =some a→cur[i]? =some (.string ⟨a.toArray⟩):=fun i a ha=>by
     have hi:i<(fldsF s).length:=(List.getElem?_eq_some_iff.1 ha).1
     have h2:(cur.toList.take ((fldsF s).length*1))[i]? =some (.string ⟨a.toArray⟩):=by rw[htk,List.getElem?_map,ha];rfl
     rw[List.getElem?_take_of_lt (by omega)]at h2
     simpa using h2
    obtain⟨f',st⟩:=tU fit hbel hg hheap hn (by omega) hm (by simpa using hsz) hget
    refine⟨.hs h.length 0 0 (fldsF s).length true,_,S,_,.inr ⟨hl,rfl,rfl⟩,st,f',?_⟩
    refine .hs _ _ _ _ _ ⟨some A,0,1,(fldsF s).length⟩ _ (by rw[← fit.len];simp) (Nat.le_refl _) (fun cs h=>by cases h) rfl (fun _=>.inr ⟨A,rfl,by simp,by simp⟩)
end Go.Av
namespace Go.Av
open Go Go.Proofs Go.RowKit
theorem bQ(s:Bs)(k:Nat):dec s k=dec (s.drop k) 0:=by
 rw[eC,eC]
 simp only[List.getD_eq_getElem?_getD,List.getElem?_drop,List.length_drop,Nat.add_zero,Nat.zero_add,Nat.sub_zero,Nat.add_assoc]
theorem iK(s:Bs)(k:Nat)(h:k<s.length):Rune (dec s k).1:=by
 have hb:=List.getElem?_eq_getElem h
 by_cases ha:s[k].toNat<128
 ·rw[kS s k _ hb ha];exact⟨by simp,by simp;omega⟩
 ·obtain⟨h1,h2,_⟩:=tT s k _ hb (by omega)
  exact⟨by omega,by omega⟩
def runesN:Nat→Bs→List Int
 |0,_=>[]
 |f+1,s=>if s=[]then []else((dec s 0).1:Int)::runesN f (s.drop (dec s 0).2)
def runesF(s:Bs):List Int:=runesN s.length s
theorem nx:∀(f:Nat) (s:Bs),s.length≤f→runesN f s=runesN s.length s:=by
 intro f
 induction f using Nat.strongRecOn with
 |ind f ih=>
  intro s hs
  cases s with
  |nil=>cases f<;>rfl
  |cons b t=>
   obtain⟨f,rfl⟩:∃g,f=g+1:=⟨f-1,by simp at hs;omega⟩
   have hd:=bc (b::t) 0 (by simp)
   simp only[List.length_cons]at hs hd ⊢
   rw[runesN,runesN,if_neg (by simp),if_neg (by simp)]
   have hl:((b::t).drop (dec (b::t) 0).2).length≤t.length:=by simp only[List.length_drop,List.length_cons];omega
   rw[ih f (by omega) _ (by omega)]
   by_cases hf:t.length=f
   ·subst hf;rw[ih t.length (by omega) _ hl]
   ·rw[ih t.length (by omega) _ hl]
theorem dB:runesF []=[]:=rfl
theorem cY(s:Bs)(h:s≠ []):runesF s=((dec s 0).1:Int)::runesF (s.drop (dec s 0).2):=by
 have hl:0<s.length:=List.length_pos_iff.2 h
 have hd:=bc s 0 hl
 unfold runesF
 obtain⟨n,hn⟩:∃n,s.length=n+1:=⟨s.length-1,by omega⟩
 rw[hn,runesN,if_neg h,nx n _ (by simp only[List.length_drop];omega)]
theorem eD(s:Bs)(k:Nat)(h:k<s.length):runesF (s.drop k)=((dec s k).1:Int)::runesF (s.drop (k+(dec s k).2)):=by
 rw[cY _ (by intro e;have:=congrArg List.length e;simp at this;omega), ← bQ,List.drop_drop]
theorem dC(s:Bs)(k:Nat)(h:s.length≤k):runesF (s.drop k)=[]:=by
 rw[List.drop_of_length_le h];rfl
theorem bY:∀(n:Nat) (s:Bs),s.length≤n→(runesF s).length≤s.length:=by
 intro n
 induction n with
 |zero=>intro s h;have:s=[]:=List.length_eq_zero_iff.1 (by omega);subst this;simp[dB]
 |succ n ih=>
  intro s h
  by_cases h0:s=[]
  ·subst h0;simp[dB]
  ·have hd:=bc s 0 (List.length_pos_iff.2 h0)
   rw[cY s h0]
   have:=ih (s.drop (dec s 0).2) (by simp only[List.length_drop];omega)
   simp only[List.length_drop]at this
   simp only[List.length_cons];omega
theorem cZ:∀(n:Nat) (s:Bs),s.length≤n→∀c∈runesF s,Rune c:=by
 intro n
 induction n with
 |zero=>intro s h c hc;have:s=[]:=List.length_eq_zero_iff.1 (by omega);subst this;simp[dB]at hc
 |succ n ih=>
  intro s h c hc
  by_cases h0:s=[]
  ·subst h0;simp[dB]at hc
  ·have hl:=List.length_pos_iff.2 h0
   have hd:=bc s 0 hl
   rw[cY s h0]at hc
   rcases List.mem_cons.1 hc with rfl|hc
   ·exact iK s 0 hl
   ·exact ih _ (by simp only[List.length_drop];omega) c hc
def blankR(c:Int):Bool:=decide (c=9∨c=10∨c=13∨c=32∨c=160∨c=8232∨c=8233∨c=12288)
def ctlR(c:Int):Bool:=decide (c<32∨(127≤c∧c≤159))
def clnR:List Int→List Int→Bool→List Int
 | [],o,_=>o
 |c::t,o,w=>if blankR c then clnR t o (decide (0<o.length))else if ctlR c then clnR t o w else clnR t (o++(if w then [32,c]else [c])) false
def cleanR(s:Bs):List Int:=clnR (runesF s) [] false
def encs(l:List Int):Bs:=l.flatMap enc
def cleanF(s:Bs):Bs:=encs (cleanR s)
theorem gV(r:Int):1≤(enc r).length:=by
 rw[ol];simp only[];repeat (first|split|simp)
theorem iL(l:List Int):(encs l).length≤4*l.length∧l.length≤(encs l).length:=by
 induction l with
 |nil=>simp[encs]
 |cons c t ih=>
  have h1:=dM c
  have h2:=gV c
  simp only[encs,List.flatMap_cons,List.length_append,List.length_cons]at ih ⊢;omega
theorem eE:∀(l o:List Int) (w:Bool),(∀c∈l,Rune c)→(∀c∈o,Rune c)→∀c∈clnR l o w,Rune c
 | [],o,w,_,h=>by simpa [clnR]using h
 |c::t,o,w,hl,ho=>by
  rw[clnR]
  have ht:∀x∈t,Rune x:=fun x hx=>hl x (by simp[hx])
  split
  ·exact eE t o _ ht ho
  ·split
   ·exact eE t o w ht ho
   ·refine eE t _ false ht ?_
    intro x hx
    rcases List.mem_append.1 hx with hx|hx
    ·exact ho x hx
    ·have h32:Rune 32:=⟨by decide,by decide⟩
     split at hx
     ·simp at hx;rcases hx with rfl|rfl
      ·exact h32
      ·exact hl _ (by simp)
     ·simp at hx;subst hx;exact hl _ (by simp)
def rightN:Nat→Bs→Bool
 |0,_=>true
 |f+1,s=>if s=[]then true else if (dec s 0).1=65533∧(dec s 0).2=1 then false else rightN f (s.drop (dec s 0).2)
def rightS(s:Bs):Bool:=rightN s.length s
theorem ny:∀(f:Nat) (s:Bs),s.length≤f→rightN f s=rightN s.length s:=by
 intro f
 induction f using Nat.strongRecOn with
 |ind f ih=>
  intro s hs
  cases s with
  |nil=>cases f<;>rfl
  |cons b t=>
   obtain⟨f,rfl⟩:∃g,f=g+1:=⟨f-1,by simp at hs;omega⟩
   have hd:=bc (b::t) 0 (by simp)
   simp only[List.length_cons]at hs hd ⊢
   rw[rightN,rightN,if_neg (show ¬(b::t)=[] by simp),if_neg (show ¬(b::t)=[] by simp)]
   have hl:((b::t).drop (dec (b::t) 0).2).length≤t.length:=by simp only[List.length_drop,List.length_cons];omega
   rw[ih f (by omega) _ (by omega),ih t.length (by omega) _ hl]
theorem nz(s:Bs)(h:s≠ []):rightS s=if (dec s 0).1=65533∧(dec s 0).2=1 then false else rightS (s.drop (dec s 0).2):=by
 have hl:0<s.length:=List.length_pos_iff.2 h
 have hd:=bc s 0 hl
 unfold rightS
 obtain⟨n,hn⟩:∃n,s.length=n+1:=⟨s.length-1,by omega⟩
 rw[hn,rightN,if_neg h,ny n _ (by simp only[List.length_drop];omega)]
theorem kT(s:Bs)(k:Nat)(h:k<s.length):rightS (s.drop k)=if (dec s k).1=65533∧(dec s k).2=1 then false else rightS (s.drop (k+(dec s k).2)):=by
 rw[nz _ (by intro e;have:=congrArg List.length e;simp at this;omega), ← bQ,List.drop_drop]
theorem nB(n b0 b1 b2 b3:Nat)(h1:b1<256)(h2:b2<256)(h0:b0<256)(h:(Lib.decodeN n b0 b1 b2 b3).1=65533):(Lib.decodeN n b0 b1 b2 b3).2=1↔¬(3≤n∧b0=239∧b1=191∧b2=189):=by
 unfold Lib.decodeN at*
 by_cases c1:b0<128
 ·rw[if_pos c1]at *;simp only[]at *;omega
 rw[if_neg c1]at*
 by_cases c2:(b0/32=6∧(1<n∧b1/64=2))
 ·rw[if_pos c2]at*
  by_cases c3:b0%32*64+b1%64≥128
  ·rw[if_pos c3]at *;simp only[]at *;omega
  ·rw[if_neg c3]at *;exact⟨fun _ hc=>by omega,fun _=>rfl⟩
 rw[if_neg c2]at*
 by_cases c4:b0/16=14∧(1<n∧b1/64=2)∧(2<n∧b2/64=2)
 ·rw[if_pos c4]at*
  by_cases c5:(b0%16*4096+b1%64*64+b2%64≥2048∧(b0%16*4096+b1%64*64+b2%64<55296∨(57344≤b0%16*4096+b1%64*64+b2%64∧b0%16*4096+b1%64*64+b2%64≤1114111)))
  ·rw[if_pos c5]at *;simp only[]at *;omega
  ·rw[if_neg c5]at *;exact⟨fun _ hc=>by omega,fun _=>rfl⟩
 rw[if_neg c4]at*
 by_cases c6:b0/8=30∧(1<n∧b1/64=2)∧(2<n∧b2/64=2)∧(3<n∧b3/64=2)
 ·rw[if_pos c6]at*
  by_cases c7:(b0%8*262144+b1%64*4096+b2%64*64+b3%64≥65536∧(b0%8*262144+b1%64*4096+b2%64*64+b3%64<55296∨(57344≤b0%8*262144+b1%64*4096+b2%64*64+b3%64∧b0%8*262144+b1%64*4096+b2%64*64+b3%64≤1114111)))
  ·rw[if_pos c7]at *;simp only[]at *;omega
  ·rw[if_neg c7]at *;exact⟨fun _ hc=>by omega,fun _=>rfl⟩
 ·rw[if_neg c6]at *;exact⟨fun _ hc=>by omega,fun _=>rfl⟩
theorem Ee(u:Bs):Lib.hasPrefix u [239,191,189]=true↔(3≤u.length∧(u.getD 0 0).toNat=239∧(u.getD 1 0).toNat=191∧(u.getD 2 0).toNat=189):=by
 have key:∀(x:UInt8) (n:Nat),n<256→(x.toNat=n↔x=UInt8.ofNat n):=fun x n h=>by rw[← UInt8.toNat_inj,aV n h]
 match u with
 | []=>simp[Lib.hasPrefix]
 | [a]=>simp[Lib.hasPrefix]
 | [a,b]=>simp[Lib.hasPrefix]
 |a::b::c::t=>
  simp only[List.getD_cons_zero,List.getD_cons_succ,List.length_cons]
  rw[key a 239 (by omega),key b 191 (by omega),key c 189 (by omega)]
  unfold Lib.hasPrefix
  simp only[List.isPrefixOf,Bool.and_eq_true,beq_iff_eq]
  constructor
  ·rintro⟨rfl,rfl,rfl,_⟩;exact⟨by omega,rfl,rfl,rfl⟩
  ·rintro⟨_,rfl,rfl,rfl⟩;exact⟨rfl,rfl,rfl,trivial⟩
theorem tV(s:Bs)(k:Nat)(hd:(dec s k).1=65533):(dec s k).2=1↔Lib.hasPrefix (s.drop k) [239,191,189]=false:=by
 rw[bQ]at*
 generalize s.drop k=u at*
 rw[← Bool.not_eq_true,Ee]
 rw[eC]at*
 exact nB _ _ _ _ _ (UInt8.toNat_lt _) (UInt8.toNat_lt _) (UInt8.toNat_lt _) hd
end Go.Av
