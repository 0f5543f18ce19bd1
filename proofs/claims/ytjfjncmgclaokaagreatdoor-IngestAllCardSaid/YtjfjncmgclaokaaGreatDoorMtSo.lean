/- The program's state: an item's tags, looked up and changed. -/
import Derived.Test.YtjfjncmgclaokaaGreatDoorMtEb
import Derived.Test.YtjfjncmgclaokaaGreatDoorMtDj
set_option linter.unusedSimpArgs false
set_option linter.unusedVariables false
set_option linter.unusedSectionVars false
set_option linter.unnecessarySimpa false
set_option maxRecDepth 100000
set_option maxHeartbeats 16000000
namespace Go.Av
open Go Go.Proofs Go.RowKit
section
variable {C:Ctx} {B:Nat} {S:Addr→Prop} {μ:Map} {h:Heap} {w w':World} {α:Type}
theorem qg{av:α→AVal}{enc:α→Value}(hc:∀a,(av a).cells=[av a])(hs:∀a,(av a).sto=true)(hr:∀(w:World) (S:Addr→Prop) (μ:Map) (a:α),Rep w S μ (av a) (enc a))
  (f:Fits C B S μ h w){e:TypeId}{v:Value}{ls:List α}(ho:w'.ownsRow w.heap.size e 1 v ls.length (ls.map enc))(hb:Below w.heap.size w w'):
  ∃S',Fits C B S' μ h w'∧Step B S μ w S' μ w'∧Rep w' S' μ (.sl 1 (ls.map av)) v:=by
 obtain⟨f',st⟩:=f.grown hb
 obtain⟨_,ho⟩:=ho
 rcases ho with⟨rfl,h0⟩| ⟨g,cap,cur,rfl,hg,hheap,hn,hm,hsz,htk⟩
 ·have:ls=[]:=List.length_eq_zero_iff.1 h0
  subst this
  exact⟨S,f',st,.sl0 1 none 0⟩
 ·by_cases hl:ls=[]
  ·subst hl;exact⟨S,f',st,.sl0 1 _ cap⟩
  have hgl:g<w'.heap.size:=(Array.getElem?_eq_some_iff.1 hheap).1
  let S':Addr→Prop:=fun a=>S a∨a.block=g
  have st2:Step B S μ w' S' μ w':=⟨fun a ha=>.inl ha,fun _ _=>rfl,Below.refl _ _,MapLe.refl _,fun a ha=>ha.elim .inl fun e=>.inr (by rw[e];exact Nat.le_trans f.base hg)⟩
  have f2:Fits C B S' μ h w':=⟨fun g' cs hg'=>(f'.glob g' cs hg').mono st2,f'.len,f'.sep,fun p m b h1 e1=>by
    obtain⟨a1,a2,a3⟩:=f'.own p m b h1 e1
    have:=(f.own p m b h1 e1).2.1
    exact⟨a1,a2,fun a ha=>ha.elim (a3 a) fun e=>by omega⟩,f'.base,fun a ha=>ha.elim (f'.lie a) fun e=>by rw[e];exact hgl,
   fun p m k h1 h2=>(f'.blk p m k h1 h2).mono st2 fun _ _=>rfl⟩
  have hget:∀i,cur[0+(i*1+0)]? =cur[i]? :=fun i=>by congr 1;omega
  refine⟨S',f2,st.trans st2,?_⟩
  have hlen:(ls.map av).length=ls.length:=List.length_map ..
  rw[← hlen]
  refine .sl 1 (ls.map av) g 0 cap (fun i _=>cur[i]?.getD undef) (by simpa using hl) (by omega) hm (fun i x hx=>?_) (fun i x j c hx hj=>?_) (fun i x j c hx hj=>?_)
  ·obtain⟨a,_,rfl⟩:=List.mem_map.1 (List.mem_of_getElem? hx);rw[hc];rfl
  ·obtain⟨a,_,rfl⟩:=List.mem_map.1 (List.mem_of_getElem? hx)
   rw[hc]at hj
   match j with
   |0=>
    simp at hj;subst hj
    have hi:i<ls.length:=by have:=(List.getElem?_eq_some_iff.1 hx).1;omega
    have hi2:i<cur.size:=by omega
    refine⟨.inr rfl,?_,hs a⟩
    simp only[World.cell?,hheap]
    simp[hi2]
   |j+1=>simp at hj
  ·rw[List.getElem?_map]at hx
   obtain⟨a,ha,rfl⟩:=Option.map_eq_some_iff.1 hx
   rw[hc]at hj
   match j with
   |0=>
    simp at hj;subst hj
    have hi:i<ls.length:=(List.getElem?_eq_some_iff.1 ha).1
    have:cur[i]? =some (enc a):=by
     have h1:(cur.toList.take (ls.length*1))[i]? =some (enc a):=by rw[htk,List.getElem?_map,ha];rfl
     rw[List.getElem?_take_of_lt (by omega)]at h1
     simpa using h1
    rw[this]
    exact hr _ _ _ a
   |j+1=>simp at hj
theorem bR{P:Program}{f:FuncId}{fn:Func}(hf:P.funcs[f]? =some fn)(hb:fn.body.isNone=false)(hname:(fn.name== "runtime.NumGoroutine")=false)(us:Array Value)(w:World):(callFunc f us).run P w=.ok (.enter f us) w:=by
 have hne:fn.name≠ "runtime.NumGoroutine" :=by simpa using hname
 obtain⟨c,hbc⟩:∃c,fn.body=some c:=by cases hq:fn.body with|none=>simp[hq]at hb|some c=>exact⟨c,rfl⟩
 simp[callFunc,hf,hne,hbc]
end
def noR:Value→Option (DataW Unit×List MemPlace):=fun _=>some (.nil,[])
def kI(n:Int):Lit:=.int .i64 n
theorem lJ(x:Lit×DataW Unit)(l:List (Lit×DataW Unit)):(DataW.insert x l).Perm (x::l):=by
 induction l with
 |nil=>exact List.Perm.refl _
 |cons y r ih=>
  rw[DataW.insert]
  split
  ·exact List.Perm.refl _
  ·exact(ih.cons y).trans (List.Perm.swap x y r)
theorem iN(l:List (Lit×DataW Unit)):(l.foldr DataW.insert []).Perm l:=by
 induction l with
 |nil=>exact List.Perm.refl _
 |cons x l ih=>exact(lJ x _).trans (ih.cons x)
def datK(ks:List Lit):DataW Unit:=.map ((ks.map fun k=>(k,(DataW.nil:DataW Unit))).foldr DataW.insert [])
theorem oO(ks:List Lit):Maps.size (datK ks)=ks.length:=by
 unfold datK
 rw[Maps.size_eq,(iN _).length_eq,List.length_map]
theorem rS{P:Program}{kt:TypeId}{w:World}{b c:Nat}{cur:Array MapEntry}{ks:List Lit}(hheap:w.heap[b]? =some (.map cur c))(hl:ks.length=cur.size)(hm:cur.size≤maxLen)
  (hk:∀(i:Nat) (x:MapEntry),cur[i]? =some x→∃k,ks[i]? =some k∧keyOf P kt x.key=some k)(hb:∀x∈cur.toList,x.born<c)(hn:(cur.toList.map (·.born)).Nodup)(hd:(cur.toList.map (·.key)).Nodup):
  w.ownsMap P kt noR b cur.size (datK ks):=by
 refine⟨cur,c,hheap,⟨hm,⟨hb,hn,hd⟩,fun x hx=>?_⟩,Nat.le_refl _,?_⟩
 ·obtain⟨i,hi⟩:=List.getElem?_of_mem hx
  obtain⟨k,_,h2⟩:=hk i x (by simpa using hi)
  exact⟨(k,.nil),by simp[WideElems.rd,h2,noR]⟩
 ·unfold datK
  congr 2
  apply List.ext_getElem?
  intro i
  rw[List.getElem?_map,List.getElem?_map]
  by_cases hi:i<cur.size
  ·have hc:cur[i]? =some cur[i]:=Array.getElem?_eq_getElem hi
   obtain⟨k,h1,h2⟩:=hk i _ hc
   have h3:cur.toList[i]? =some cur[i]:=by simp[hi]
   rw[h1,h3]
   simp[WideElems.rg,WideElems.rd,h2,noR]
  ·rw[List.getElem?_eq_none (l:=cur.toList) (by simp;omega),List.getElem?_eq_none (l:=ks) (by omega)];rfl
variable (G:Nat→Option (List AVal))
theorem cF{α:Type}(ev:α→AVal)(I:FuncId)
  (hI:∀(Bm b nn:Nat) (D0:DataW Unit) (R:Value→Option (DataW Unit×List MemPlace)) (w:World),Bm<w.heap.size→w.cell? ⟨Bm,0,none⟩=some (.map (some b))→w.ownsMap Tryz.prog 3 R b nn D0→Maps.size D0≤maxLen→Maps.size D0*8≤140737488355328→
   Calls Tryz.prog 89 #[.func (.func I) #[] #[.pointer (some ⟨Bm,0,none⟩)]] w fun e w'=>∃(v:Value) (ss:List Int),e=.returned v∧ss.Perm (intKeys D0)∧w'.ownsRow w.heap.size 3 1 v ss.length ((ss.mergeSort (fun x y=>decide (x≤y))).map encZ)∧(v=.slice none 0 0↔ss=[])∧Below w.heap.size w w')
  (l:ML Int α)(c:Nat)(hw:WFM l c)(hb:∀e∈l, -9223372036854775808≤e.1∧e.1≤9223372036854775807)(hl:l.length≤100000){h:Heap}{q p T:Nat}(hq:getRow h q 0=some (T,1,[.hm p]))(hp:mapAt h p=some (encM iA ev l,c)):
  Sat (CT G) 89 [.fn (.func I) [] [.hp q 0 0 0]] h (fun r h'=>r=.sl 1 (((l.map (·.1)).mergeSort (fun x y=>decide (x≤y))).map iA)∧h'=h):=by
 intro B S μ w us fit rl
 obtain⟨hul,hur⟩:=rl
 match us,hul,hur with
 | [v0],_,hur=>
  have r0:Rep w S μ (.fn (.func I) [] [.hp q 0 0 0]) v0:=hur 0 _ rfl
  obtain⟨cv,rfl,rc⟩:∃cv,v0=.func (.func I) #[] #[cv]∧Rep w S μ (.hp q 0 0 0) cv:=by
   cases r0 with
   |fn _ _ _ xv cv h1 h2 h3 h4=>
    match xv,cv,h1,h2,h4 with
    | [],[cv],_,_,h4=>exact⟨cv,rfl,h4 0 _ rfl⟩
  obtain⟨m,hm,rf⟩:=fit.row hq
  obtain⟨b0,hb0,rfl⟩:=rc.hp_now hm rf.hver
  have hz:0*m.size+0=0:=by simp
  rw[hz]
  obtain⟨cur,hheap,hcell⟩:∃cur,w.heap[b0]? =some (.cells cur T (0,0))∧∃x,cur[0]? =some x∧Rep w S μ (.hm p) x:=by
   rcases rf.lies with⟨_,h2⟩| ⟨b,cur,h1,h2,_,_,_,h6⟩
   ·cases h2
   ·rw[hb0]at h1;cases h1
    obtain⟨x,hx,rx⟩:=h6 0 (.hm p) 0 (.hm p) rfl rfl
    exact⟨cur,h2,x,by simpa using hx,rx⟩
  obtain⟨x,hx0,rx⟩:=hcell
  obtain⟨m2,b2,cur2,hm2,hv2,hb2,rfl,hheap2,E⟩:=aT fit rx hp
  have hcell0:w.cell? ⟨b0,0,none⟩=some (.map (some b2)):=by simp[World.cell?,hheap,hx0]
  have hlen:cur2.size=l.length:=by have:=E.len;simpa [encM]using this
  have hget:∀(i:Nat) (y:MapEntry),cur2[i]? =some y→∃e,l[i]? =some e∧y.key=encZ e.1∧y.born=e.2.2:=by
   intro i y hy
   have hi:i<l.length:=by have:=(Array.getElem?_eq_some_iff.1 hy).1;omega
   obtain⟨y',hy',r1,_,r3⟩:=E.get i (iA l[i].1,ev l[i].2.1,l[i].2.2) (by rw[encM,List.getElem?_map,List.getElem?_eq_getElem hi];rfl)
   rw[Array.getElem?_toList,hy]at hy';cases hy'
   refine⟨l[i],List.getElem?_eq_getElem hi,?_,r3⟩
   exact r1.int_inv
  have hbk:cur2.toList.map (·.born)=l.map (·.2.2):=by
   apply List.ext_getElem?
   intro i
   rw[List.getElem?_map,List.getElem?_map,Array.getElem?_toList]
   cases hy:cur2[i]? with
   |none=>rw[List.getElem?_eq_none (l:=l) (by rw[Array.getElem?_eq_none_iff]at hy;omega)];rfl
   |some y=>obtain⟨e,h1,_,h3⟩:=hget i y hy;rw[h1];simp[h3]
  have hkk:cur2.toList.map (·.key)=l.map (fun e=>encZ e.1):=by
   apply List.ext_getElem?
   intro i
   rw[List.getElem?_map,List.getElem?_map,Array.getElem?_toList]
   cases hy:cur2[i]? with
   |none=>rw[List.getElem?_eq_none (l:=l) (by rw[Array.getElem?_eq_none_iff]at hy;omega)];rfl
   |some y=>obtain⟨e,h1,h2,_⟩:=hget i y hy;rw[h1];simp[h2]
  have hown:w.ownsMap Tryz.prog 3 noR b2 cur2.size (datK (l.map fun e=>kI e.1)):=by
   refine rS hheap2 (by simp[hlen]) (by simp[maxLen];omega) (fun i y hy=>?_) (fun y hy=>?_) (by rw[hbk];exact hw.borns) ?_
   ·obtain⟨e,h1,h2,_⟩:=hget i y hy
    refine⟨kI e.1,by rw[List.getElem?_map,h1];rfl,?_⟩
    have hu:Tryz.prog.underlying 3=some (.int .i64):=by kernel_rfl
    have:=hb e (List.mem_of_getElem? h1)
    have hwf:(Lit.int .i64 e.1).wf=true:=by
     simp only[Lit.wf,Bool.and_eq_true,decide_eq_true_eq]
     exact this
    rw[h2]
    simp[keyOf,hu,mapKey,encZ,kI,hwf]
   ·obtain⟨i,hi⟩:=List.getElem?_of_mem hy
    obtain⟨e,h1,_,h3⟩:=hget i y (by simpa using hi)
    rw[h3];exact hw.lt e (List.mem_of_getElem? h1)
   ·rw[hkk]
    have:=hw.keys
    rw[show(l.map fun e=>encZ e.1)=(l.map (·.1)).map encZ by simp]
    exact List.Pairwise.map encZ (fun a b hab he=>hab (by first|exact encZ_inj he| (simpa [encStr]using he))) this
  have hsz:Maps.size (datK (l.map fun e=>kI e.1))=l.length:=by rw[oO];simp
  change OpOk Tryz.prog _ ((callFunc 89 #[Value.func (Fn.func I) #[] #[Value.pointer (some ⟨b0,0,none⟩)]]).run Tryz.prog w)
  rw[bR (f:=89) Tryz.func89 rfl rfl]
  refine(hI b0 b2 _ _ _ w (Array.getElem?_eq_some_iff.1 hheap).1 hcell0 hown (by rw[hsz];simp[maxLen];omega) (by rw[hsz];omega)).mono fun e w' ⟨v,ss,he,hperm,hrow,_,hbel⟩=>?_
  refine⟨v,he,?_⟩
  have hk:(intKeys (datK (l.map fun e=>kI e.1))).Perm (l.map (·.1)):=by
   unfold datK
   refine((iN _).map _).trans ?_
   rw[List.map_map,List.map_map]
   exact List.Perm.of_eq (List.map_congr_left fun e _=>rfl)
  have hs:ss.mergeSort (fun x y=>decide (x≤y))=(l.map (·.1)).mergeSort (fun x y=>decide (x≤y)):=mergeSort_of_perm_i (hperm.trans hk)
  rw[hs]at hrow
  have hl2:ss.length=((l.map (·.1)).mergeSort (fun x y=>decide (x≤y))).length:=by
   rw[← hs,(List.mergeSort_perm _ _).length_eq]
  rw[hl2]at hrow
  obtain⟨S',f',st',r'⟩:=qg (av:=iA) (enc:=encZ) (fun _=>rfl) (fun _=>rfl) (fun _ _ _ _=>by first|exact .int _ _|exact .str _) fit hrow hbel
  exact⟨_,h,S',μ,⟨rfl,rfl⟩,st',f',r'⟩
end Go.Av
namespace Go.Av
open Go Go.Proofs Go.RowKit Go.Shelf Go.Lib
def letF(r:Nat):Bool:=
 if r<192 then(decide (97≤r)&&decide (r≤122))||(decide (48≤r)&&decide (r≤57))
 else !(decide (r=215)||decide (r=247)||decide (r=65533))&& !((decide (8192≤r)&&decide (r≤8303))||(decide (12288≤r)&&decide (r≤12351)))
set_option maxHeartbeats 4000000 in
theorem kV(W:World)(r:Nat):Calls Tryz.prog 320 #[encR r] W fun e w'=>e=.returned (.bool (letF r))∧∃q,w'=W.drewN q:=by
 by_cases h0:r<192
 ·by_cases h1:97≤r<;>by_cases h2:r≤122<;>by_cases h3:48≤r<;>by_cases h4:r≤57
  all_goals first| (exfalso;omega)|skip
  all_goals
   have z0:(r:Int)<192↔r<192:=by omega
   have z1:(97:Int)≤(r:Int)↔97≤r:=by omega
   have z2:(r:Int)≤122↔r≤122:=by omega
   have z3:(48:Int)≤(r:Int)↔48≤r:=by omega
   have z4:(r:Int)≤57↔r≤57:=by omega
   go_enter Tryz.func320,Tryz.ntmps320
   go_wp2
   all_goals first| (exfalso;omega)| (go_ret;exact⟨by simp[letF,h0,h1,h2,h3,h4],0,rfl⟩)
 ·by_cases h1:r=215
  ·subst h1
   go_enter Tryz.func320,Tryz.ntmps320
   go_wp2
   all_goals first| (exfalso;omega)| (go_ret;exact⟨by simp[letF],0,rfl⟩)
  by_cases h2:r=247
  ·subst h2
   go_enter Tryz.func320,Tryz.ntmps320
   go_wp2
   all_goals first| (exfalso;omega)| (go_ret;exact⟨by simp[letF],0,rfl⟩)
  by_cases h3:r=65533
  ·subst h3
   go_enter Tryz.func320,Tryz.ntmps320
   go_wp2
   all_goals first| (exfalso;omega)| (go_ret;exact⟨by simp[letF],0,rfl⟩)
  by_cases h4:8192≤r<;>by_cases h5:r≤8303<;>by_cases h6:12288≤r<;>by_cases h7:r≤12351
  all_goals first| (exfalso;omega)|skip
  all_goals
   have z0:(r:Int)<192↔r<192:=by omega
   have z1:(r:Int)=215↔r=215:=by omega
   have z2:(r:Int)=247↔r=247:=by omega
   have z3:(r:Int)=65533↔r=65533:=by omega
   have z4:(8192:Int)≤(r:Int)↔8192≤r:=by omega
   have z5:(r:Int)≤8303↔r≤8303:=by omega
   have z6:(12288:Int)≤(r:Int)↔12288≤r:=by omega
   have z7:(r:Int)≤12351↔r≤12351:=by omega
   go_enter Tryz.func320,Tryz.ntmps320
   go_wp2
   all_goals first| (exfalso;omega)| (exfalso;simp only[beq_iff_eq]at *;omega)| (go_ret;exact⟨by simp[letF,h0,h1,h2,h3,h4,h5,h6,h7],0,rfl⟩)
set_option maxHeartbeats 4000000 in
theorem oP(w:World):PredAt Tryz.prog 319 #[] encR (fun r=> !letF r) w:=fun W r _=>by
 unfold FnGives
 have hL:=kV
 go_enter Tryz.func319,Tryz.ntmps319
 go_wp2_with (go_at_call 320;refine(hL _ _).mono ?_;rintro e w' ⟨rfl,q,rfl⟩)
 go_ret
 exact⟨rfl,_,rfl⟩
end Go.Av
namespace Go.Av
open Go Go.Proofs Go.RowKit Go.Lib
section
variable {C:Ctx} {B:Nat} {S:Addr→Prop} {μ:Map} {h:Heap} {w w':World}
theorem qh(f:Fits C B S μ h w)(hb:Below w.heap.size w w'){g cap:Nat}{cur:Array Value}{e:TypeId}{ls:List Bs}(hg:w.heap.size≤g)(hheap:w'.heap[g]? =some (.cells cur e (0,0)))
  (hn:ls.length≤cap)(h0:0<cap)(hm:cap≤maxLen)(hsz:cur.size=cap)(hget:∀(i:Nat) (a:Bs),ls[i]? =some a→cur[i]? =some (.string ⟨a.toArray⟩)):
  Fits C B S (μ++[⟨some g,0,1,cap⟩]) (h++[.row e 1 0 (ls.map .str)]) w'∧Step B S μ w S (μ++[⟨some g,0,1,cap⟩]) w':=by
 obtain⟨f',st⟩:=f.grown hb
 have hgl:g<w'.heap.size:=(Array.getElem?_eq_some_iff.1 hheap).1
 have st2:Step B S μ w' S (μ++[⟨some g,0,1,cap⟩]) w':=⟨fun a ha=>ha,fun _ _=>rfl,Below.refl _ _,dn _ _,fun a ha=>.inl ha⟩
 refine⟨⟨fun g' cs hg'=>(f'.glob g' cs hg').mono st2,by simp[f'.len],?_,?_,f'.base,f'.lie,?_⟩,st.trans st2⟩
 ·intro p q m1 m2 b h1 h2 e1 e2
  rcases au h1 with k1| ⟨k1,rfl⟩<;>rcases au h2 with k2| ⟨k2,rfl⟩
  ·exact f'.sep p q m1 m2 b k1 k2 e1 e2
  ·have:=(f.own p m1 b k1 e1).2.1;cases e2;omega
  ·have:=(f.own q m2 b k2 e2).2.1;cases e1;omega
  ·rw[k1,k2]
 ·intro p m1 b h1 e1
  rcases au h1 with k1| ⟨k1,rfl⟩
  ·exact f'.own p m1 b k1 e1
  ·cases e1
   exact⟨Nat.le_trans f.base hg,hgl,fun a ha=>by have:=f.lie a ha;omega⟩
 ·intro p m1 k1 h1 h2
  rcases au h1 with a1| ⟨a1,rfl⟩
  ·have hp:p<h.length:=by have:=(List.getElem?_eq_some_iff.1 a1).1;rw[f.len]at this;exact this
   rw[List.getElem?_append_left hp]at h2
   exact(f'.blk p m1 k1 a1 h2).mono st2 fun _ _=>rfl
  ·rw[a1,f.len,List.getElem?_append_right (Nat.le_refl _)]at h2
   simp at h2
   subst h2
   refine⟨rfl,rfl,by omega,fun i r hr=>?_,fun i r j c hr hc=>?_,.inr ⟨g,cur,rfl,hheap,by simp[hsz],⟨h0,by simpa using hn⟩,hm,fun i r j c hr hc=>?_⟩⟩
   ·obtain⟨a,_,rfl⟩:=List.mem_map.1 (List.mem_of_getElem? hr);rfl
   ·obtain⟨a,_,rfl⟩:=List.mem_map.1 (List.mem_of_getElem? hr)
    match j with
    |0=>simp[AVal.cells]at hc;subst hc;rfl
    |j+1=>simp[AVal.cells]at hc
   ·rw[List.getElem?_map]at hr
    obtain⟨a,ha,rfl⟩:=Option.map_eq_some_iff.1 hr
    match j with
    |0=>
     simp[AVal.cells]at hc;subst hc
     exact⟨_,by simpa using hget i a ha,.str _⟩
    |j+1=>simp[AVal.cells]at hc
end
variable (G:Nat→Option (List AVal))
def fldsF(s:Bs):List Bs:=(goFieldsP (fun r=> !letF r) ⟨s.toArray⟩).map fun b=>b.data.toList
theorem nB(s:Bs)(hs:s.length≤1000000)(h:Heap):Sat (CT G) 317 [.str s,.fn (.func 319) [] []] h
  (fun r h'=>(fldsF s=[]∧r=.sl 1 []∧h'=h)∨(fldsF s≠ []∧r=.hs h.length 0 0 (fldsF s).length true∧h'=h++[.row 9 1 0 ((fldsF s).map .str)])):=by
 intro B S μ w us fit rl
 obtain⟨hul,hur⟩:=rl
 match us,hul,hur with
 | [v0,v1],_,hur=>
  have r0:Rep w S μ (.str s) v0:=hur 0 _ rfl
  have r1:Rep w S μ (.fn (.func 319) [] []) v1:=hur 1 _ rfl
  obtain rfl:=r0.str_inv
  obtain rfl:v1=.func (.func 319) #[] #[]:=by
   cases r1 with
   |fn _ _ _ xv cv h1 h2 h3 h4=>
    match xv,cv,h1,h2 with
    | [],[],_,_=>rfl
  change OpOk Tryz.prog _ ((callFunc 317 #[Value.string ⟨s.toArray⟩,Value.func (Fn.func 319) #[] #[]]).run Tryz.prog w)
  rw[bR (f:=317) Tryz.func317 rfl rfl]
  refine(Tryz.strings_FieldsFunc 319 #[] (enters_of Tryz.func319 (by kernel_rfl) rfl) _ ⟨s.toArray⟩ w (by simp[ByteArray.size];omega) (oP w)).mono fun e w' ⟨A,he,hA,hrow,hbel⟩=>?_
  refine⟨_,he,?_⟩
  have hlen:(fldsF s).length=(goFieldsP (fun r=> !letF r) ⟨s.toArray⟩).length:=by unfold fldsF;rw[List.length_map]
  have hmap:(goFieldsP (fun r=> !letF r) ⟨s.toArray⟩).map Value.string=(fldsF s).map fun a=>Value.string ⟨a.toArray⟩:=by
   unfold fldsF
   rw[List.map_map]
   exact List.map_congr_left fun b _=>by simp
  rw[hmap]at hrow
  rw[← hlen]at hrow he ⊢
  obtain⟨_,ho⟩:=hrow
  rcases ho with⟨h1,_⟩| ⟨g,cap,cur,h1,hg,hheap,hn,hm,hsz,htk⟩
  ·cases h1
  ·cases h1
   by_cases hl:fldsF s=[]
   ·obtain⟨f',st⟩:=fit.grown hbel
    rw[hl]
    exact⟨.sl 1 [],h,S,μ,.inl ⟨rfl,rfl,rfl⟩,st,f',.sl0 1 _ _⟩
   ·have hp:=List.length_pos_iff.2 hl
    have hget:∀(i:Nat) (a:Bs),(fldsF s)[i]? =some a→cur[i]? =some (.string ⟨a.toArray⟩):=fun i a ha=>by
     have hi:i<(fldsF s).length:=(List.getElem?_eq_some_iff.1 ha).1
     have h2:(cur.toList.take ((fldsF s).length*1))[i]? =some (.string ⟨a.toArray⟩):=by rw[htk,List.getElem?_map,ha];rfl
     rw[List.getElem?_take_of_lt (by omega)]at h2
     simpa using h2
    obtain⟨f',st⟩:=qh fit hbel hg hheap hn (by omega) hm (by simpa using hsz) hget
    refine⟨.hs h.length 0 0 (fldsF s).length true,_,S,_,.inr ⟨hl,rfl,rfl⟩,st,f',?_⟩
    refine .hs _ _ _ _ _ ⟨some A,0,1,(fldsF s).length⟩ _ (by rw[← fit.len];simp) (Nat.le_refl _) (fun cs h=>by cases h) rfl (fun _=>.inr ⟨A,rfl,by simp,by simp⟩)
end Go.Av
namespace Go.Av
open Go Go.Proofs Go.RowKit
attribute [local irreducible] WP WPl WPix Sat
variable (G:Nat→Option (List AVal))
def btw(c a b:Int):Bool:=decide (a≤c)&&decide (c≤b)
theorem bE(c a b:Int)(h:Heap):Sat (CT G) 351 [.int .i32 c,.int .i32 a,.int .i32 b] h (fun r h'=>r=.bool (btw c a b)∧h'=h):=by
 by_cases k:a≤c
 ·have k2:decide (c≥a)=true:=by simpa using k
  have F:=k2
  refine sb [.tmp 6] (fn:=Tryz.f351) Tryz.func351 ?_
  intro Q hQ
  refine wk F ?_
  refine ee hQ F ?_
  exact Fin.same (.bool _) ⟨by simp[btw,k],rfl⟩
 ·have k2:decide (c≥a)=false:=by simpa using k
  have F:=k2
  refine sb [.tmp 6] (fn:=Tryz.f351) Tryz.func351 ?_
  intro Q hQ
  refine wk F ?_
  refine ee hQ F ?_
  exact Fin.same (.bool _) ⟨by simp[btw,k],rfl⟩
def foldR(c:Int):Int:=
 if c=215∨c=930 then c else if btw c 65 90∨btw c 192 222∨btw c 913 937∨btw c 1040 1071 then c+32 else if btw c 1024 1039 then c+80 else c
theorem nC{c:Int}(h:Rune c):Rune (foldR c):=by
 unfold foldR btw
 simp only[Bool.and_eq_true,decide_eq_true_eq]
 unfold Rune at*
 split
 ·exact h
 ·split
  ·omega
  ·split<;>omega
theorem oQ(c:Int)(hc:Rune c)(h:Heap):Sat (CT G) 345 [.int .i32 c] h (fun r h'=>r=.int .i32 (foldR c)∧h'=h):=by
 have c0:0≤c∧c≤1114111:=by unfold Rune at hc;omega
 obtain⟨c1,c2⟩:=c0
 by_cases k1:c=215
 ·subst k1
  refine sb [.tmp 2] (fn:=Tryz.f345) Tryz.func345 ?_
  intro Q hQ
  refine wk trivial ?_
  refine ee hQ trivial ?_
  exact Fin.same (.int _ _) ⟨rfl,rfl⟩
 by_cases k2:c=930
 ·subst k2
  refine sb [.tmp 2] (fn:=Tryz.f345) Tryz.func345 ?_
  intro Q hQ
  refine wk trivial ?_
  refine ee hQ trivial ?_
  exact Fin.same (.int _ _) ⟨rfl,rfl⟩
 have w32:IntKind.i32.wrap (c+32)=c+32:=jF (by omega) (by omega)
 have w80:IntKind.i32.wrap (c+80)=c+80:=jF (by omega) (by omega)
 have n1:(c==215)=false:=by simp[k1]
 have n2:(c==930)=false:=by simp[k2]
 have b1:=bE G c 65 90
 have b2:=bE G c 192 222
 have b3:=bE G c 913 937
 have b4:=bE G c 1040 1071
 have b5:=bE G c 1024 1039
 cases h1:btw c 65 90
 ·cases h2:btw c 192 222
  ·cases h3:btw c 913 937
   ·cases h4:btw c 1040 1071
    ·cases h5:btw c 1024 1039
     ·rw[h1]at b1;rw[h2]at b2;rw[h3]at b3;rw[h4]at b4;rw[h5]at b5
      have F:=F2 n1 n2
      refine sb [.tmp 2] (fn:=Tryz.f345) Tryz.func345 ?_
      intro Q hQ
      refine wk F ?_
      refine kq F (b1 _) ?_
      refine kq F (b2 _) ?_
      refine kq F (b3 _) ?_
      refine kq F (b4 _) ?_
      refine kq F (b5 _) ?_
      refine ee hQ F ?_
      exact Fin.same (.int _ _) ⟨by simp[foldR,k1,k2,h1,h2,h3,h4,h5,w32,w80],rfl⟩
     ·rw[h1]at b1;rw[h2]at b2;rw[h3]at b3;rw[h4]at b4;rw[h5]at b5
      have F:=F2 n1 n2
      refine sb [.tmp 2] (fn:=Tryz.f345) Tryz.func345 ?_
      intro Q hQ
      refine wk F ?_
      refine kq F (b1 _) ?_
      refine kq F (b2 _) ?_
      refine kq F (b3 _) ?_
      refine kq F (b4 _) ?_
      refine kq F (b5 _) ?_
      refine ee hQ F ?_
      exact Fin.same (.int _ _) ⟨by simp[foldR,k1,k2,h1,h2,h3,h4,h5,w32,w80],rfl⟩
    ·rw[h1]at b1;rw[h2]at b2;rw[h3]at b3;rw[h4]at b4
     have F:=F2 n1 n2
     refine sb [.tmp 2] (fn:=Tryz.f345) Tryz.func345 ?_
     intro Q hQ
     refine wk F ?_
     refine kq F (b1 _) ?_
     refine kq F (b2 _) ?_
     refine kq F (b3 _) ?_
     refine kq F (b4 _) ?_
     refine ee hQ F ?_
     exact Fin.same (.int _ _) ⟨by simp[foldR,k1,k2,h1,h2,h3,h4,w32],rfl⟩
   ·rw[h1]at b1;rw[h2]at b2;rw[h3]at b3
    have F:=F2 n1 n2
    refine sb [.tmp 2] (fn:=Tryz.f345) Tryz.func345 ?_
    intro Q hQ
    refine wk F ?_
    refine kq F (b1 _) ?_
    refine kq F (b2 _) ?_
    refine kq F (b3 _) ?_
    refine ee hQ F ?_
    exact Fin.same (.int _ _) ⟨by simp[foldR,k1,k2,h1,h2,h3,w32],rfl⟩
  ·rw[h1]at b1;rw[h2]at b2
   have F:=F2 n1 n2
   refine sb [.tmp 2] (fn:=Tryz.f345) Tryz.func345 ?_
   intro Q hQ
   refine wk F ?_
   refine kq F (b1 _) ?_
   refine kq F (b2 _) ?_
   refine ee hQ F ?_
   exact Fin.same (.int _ _) ⟨by simp[foldR,k1,k2,h1,h2,w32],rfl⟩
 ·rw[h1]at b1
  have F:=F2 n1 n2
  refine sb [.tmp 2] (fn:=Tryz.f345) Tryz.func345 ?_
  intro Q hQ
  refine wk F ?_
  refine kq F (b1 _) ?_
  refine ee hQ F ?_
  exact Fin.same (.int _ _) ⟨by simp[foldR,k1,k2,h1,w32],rfl⟩
def foldS(s:Bs):Bs:=encs ((runesF s).map foldR)
theorem oR(s:Bs)(hs:s.length≤1000000)(h:Heap):Sat (CT G) 318 [.str s] h (fun r h'=>r=.str (foldS s)∧h'=h):=by
 have F:= @kN
 refine sb [.tmp 2] (fn:=Tryz.f318) Tryz.func318 ?_
 intro Q hQ
 (repeat (first|refine w1 (fun K hK=>?_)|refine w2 ?_|refine w3 ?_| ((first|refine w4 ?_|refine wD ?_|refine w5 ?_|refine w6 ?_|refine w7 ?_);try refine sq F ?_)| (refine w8 ?_;refine sq F ?_;refine w9 ?_)))
 refine hK _ _ (Wkn.refl ?_)
 clear hK K
 (repeat (first|refine w1 (fun K hK=>?_)|refine w2 ?_|refine w3 ?_| ((first|refine w4 ?_|refine wD ?_|refine w5 ?_|refine w6 ?_|refine w7 ?_);try refine sq F ?_)| (refine w8 ?_;refine sq F ?_;refine w9 ?_)))
 refine hK _ _ ⟨_,_,Weak.virtCell (p:=h.length) (v:=0) 5 1 (by omega) (by simp(disch:=first|omega| (simp only[go_sem, ↓reduceIte,seval];first|done|omega)|fail) only[go_sem, ↓reduceIte,seval,F];rfl) 1 rfl,?_⟩
 clear hK K
 refine wk F ?_
 refine lm (fun nL tL hL=>∃(a:AVal) (v k:Nat) (out:List Int),s.length-k=nL∧bldH h [.iter s k] a v (encs out)=hL∧bldA a h.length∧k≤s.length∧out++(runesF (s.drop k)).map foldR=(runesF s).map foldR∧(encs out).length+4*(s.length-k)≤4*s.length) ((fun(a:AVal) (v k:Nat) (out:List Int)=>(s.length-k:Nat)) ((.nil (.pointer none))) (0) (0) ([])) ?_ ?_
 ·refine Wkn.refl ⟨(.nil (.pointer none)),0,0,[],rfl,by simp[bldH,bldR,bufR,encs],.inl rfl,by omega,by simp,by simp[encs]⟩
  all_goals first|exact zq F|rfl|omega|trivial|skip
 rintro _ s2 h' ⟨a,v,k,out,rfl,rfl,ha,hk,hv,hl⟩ K2 hK2
 refine wk F ?_
 refine du (kM _ _ _ _ _ _ _) (fun hlt=>?_) (fun hge=>?_)
 ·have hR:=kH s k hlt
  have hp:=aM s k hlt
  rw[jG s k hlt,List.map_cons]at hv
  rw[show Utf8.decode ⟨s.toArray⟩ k=dec s k from rfl]
  generalize dec s k=d at*
  obtain⟨c,m⟩:=d
  simp only[]at hR hp hv ⊢
  have hR2:=nC hR
  have he:=fX (foldR c)
  have e2:encs (out++[foldR c])=encs out++enc (foldR c):=by
   simp only[encs,List.flatMap_append,List.flatMap_cons,List.flatMap_nil,List.append_nil]
  try refine sq F ?_
  refine wk F ?_
  refine kq F (oQ G c hR _) ?_
  refine kq F (cV G a (foldR c) hR2 h [.iter s (k+m)] v (encs out) ha (by omega)) ?_
  refine hK2 _ _ _ (Wkn.refl ⟨(.hp h.length 0 0 0),v+1,k+m,out++[foldR c],rfl,by rw[e2],.inr rfl,by omega,by rw[← hv];simp,by rw[e2];simp only[List.length_append];omega⟩) (by omega)
  all_goals first|exact zq F|rfl|omega|trivial|skip
 ·rw[iI s k (by omega)]at hv
  try refine sq F ?_
  refine wk F ?_
  refine(iF G a h [.iter s k] v (encs out)).mono ?_
  rintro r h' ⟨rfl,b2,rfl⟩
  try refine sq F ?_
  refine wk F ?_
  refine ee hQ F ?_
  exact Fin.plainE (j:=[bldR a (h.length+1) v (encs out),b2,.iter s k]) (by simp) (.str _) ⟨congrArg AVal.str (by unfold foldS;rw[← hv];simp),rfl⟩
theorem oS(s:Bs):(foldS s).length≤4*s.length:=by
 unfold foldS
 have h1:=(gW ((runesF s).map foldR)).1
 have h2:=iJ s.length s (Nat.le_refl _)
 rw[List.length_map]at h1
 omega
end Go.Av
namespace Go.Av
open Go Go.Proofs Go.RowKit
attribute [local irreducible] WP WPl WPix Sat
variable (G:Nat→Option (List AVal))
def sortI(l:List Int):List Int:=l.mergeSort (fun x y=>decide (x≤y))
def valsM{α:Type}(z:α)(l:ML Int α):List α:=(sortI (l.map (·.1))).map fun k=>(lkM l k).getD z
theorem bS(l:List Int):(sortI l).length=l.length:=(List.mergeSort_perm _ _).length_eq
theorem Fo.cells_sto(e:Fo):∀c∈e.av.cells,c.sto=true:=by
 intro c hc;simp only[Fo.av,AVal.cells,List.mem_cons,List.mem_nil_iff,or_false]at hc;rcases hc with rfl|rfl|rfl<;>rfl
theorem Fe.cells_sto(e:Fe):∀c∈e.av.cells,c.sto=true:=by
 intro c hc;simp only[Fe.av,AVal.cells,List.mem_cons,List.mem_nil_iff,or_false]at hc;rcases hc with rfl|rfl|rfl|rfl<;>rfl
theorem Se.cells_sto(e:Se):∀c∈e.av.cells,c.sto=true:=by
 intro c hc;simp only[Se.av,AVal.cells,List.mem_cons,List.mem_nil_iff,or_false]at hc;rcases hc with rfl|rfl|rfl<;>rfl
theorem It.cells_sto(e:It):∀c∈e.av.cells,c.sto=true:=by
 intro c hc;simp only[It.av,AVal.cells,List.mem_cons,List.mem_nil_iff,or_false]at hc;rcases hc with rfl|rfl|rfl|rfl|rfl|rfl|rfl|rfl|rfl<;>rfl
theorem Fo.clo(N:Nat)(f:Fo):Clo N f.av:=bp fun c hc=>by simp[Fo.av]at hc;rcases hc with rfl|rfl|rfl<;>simp
theorem Fe.clo(N:Nat)(f:Fe):Clo N f.av:=bp fun c hc=>by simp[Fe.av]at hc;rcases hc with rfl|rfl|rfl|rfl<;>simp
theorem Se.clo(N:Nat)(f:Se):Clo N f.av:=bp fun c hc=>by simp[Se.av]at hc;rcases hc with rfl|rfl|rfl<;>simp
theorem nE(p:Nat)(h:Heap):Sat (CT G) 90 [.hm p] h (fun r h'=>r=.fn (.func 150) [] [.hp h.length 0 0 0]∧h'=h++[.row 98 1 0 [.hm p]]):=by
 refine sb [.tmp 2] (fn:=Tryz.f90) Tryz.func90 ?_
 intro Q hQ
 refine wk trivial ?_
 refine ee hQ trivial ?_
 exact Fin.whole (by simp) (.fn _ _ _ (fun _ h=>by cases h) (fun x hx=>by simp at hx;subst hx;exact .hp _ _ _ _ (by simp))) ⟨rfl,rfl⟩
theorem je(s:PS)(hw:WFM s.fo s.c1)(hb:∀e∈s.fo, -9223372036854775808≤e.1∧e.1≤9223372036854775807)(hl:s.fo.length≤100000){H:Heap}{n:Nat}(hn:n+9≤H.length):Sat (CT G) 52 [.hm (n)] (so H n s) (fun r h'=>r=.sl 3 ((valsM Fo.z s.fo).map Fo.av)∧h'=so H n s):=by
 have hsl:=bS (s.fo.map (·.1))
 rw[List.length_map]at hsl
 refine sb [.tmp 2] (fn:=Tryz.f52) Tryz.func52 ?_
 intro Q hQ
 refine wk trivial ?_
 refine kq trivial (nE G _ _) ?_
 refine kq trivial (cF G Fo.av _ Tryz.sortedKeys90 s.fo s.c1 hw hb hl (by rw[bi (by simp;omega) 0 (by omega),aW _ rfl];rfl) (vL (by simp;omega))) ?_
 unfold valsM at hQ
 have hks:(List.map (fun x=>x.1) s.fo).mergeSort (fun x y=>decide (x≤y))=sortI (s.fo.map (·.1)):=rfl
 rw[hks]
 generalize sortI (s.fo.map (·.1))=ks at*
 have hkm:(ks.map iA).length=ks.length:=List.length_map ..
 have F:=hkm
 refine lm (fun nL tL hL=>∃(k v:Nat) (acc:List Fo),ks.length-k=nL∧so (H++[.row 98 1 0 [.hm (n)],.row 95 3 v (acc.map Fo.av)]) n s=hL∧tL 0=.hm (n)∧tL 3=.hs (H.length+1) v 0 acc.length true∧tL 8=.sl 1 (ks.map iA)∧tL 9=.int .i64 (ks.length:Int)∧tL 10=.int .i64 k∧k≤ks.length∧acc.length=k∧acc++(ks.drop k).map (fun k=>(lkM s.fo k).getD Fo.z)=ks.map (fun k=>(lkM s.fo k).getD Fo.z)) ((fun(k v:Nat) (acc:List Fo)=>(ks.length-k:Nat)) (0) (0) ([])) ?_ ?_
 ·refine⟨_,_,Weak.virt 3 95 3 (by simp) (by omega) (by exact zq F),⟨0,0,[],rfl,by rw[b8 (by simp;omega)];simp,?_,?_,?_,?_,?_,by omega,rfl,by simp⟩⟩
  all_goals first|exact zq F|rfl|omega|trivial|skip
 rintro _ s2 h' ⟨k,v,acc,rfl,rfl,e0,e3,e8,e9,e10,hk,hac,hp⟩ K2 hK2
 simp only[am,ao,Nat.reduceEqDiff, ↓reduceIte]at e0 e3 e8 e9 e10
 have F:=F6 F e0 e3 e8 e9 e10
 refine wk F ?_
 refine cq F (fun c1=>?_) (fun c1=>?_)<;>(try exact c1.elim)<;>(refine wk F ?_)
 ·have c2:k<ks.length:=by omega
  obtain⟨y,hy,hym⟩:=ak c2
  rw[bh hy,List.map_cons]at hp
  have F:=F3 F hy @ai
  try refine sq F ?_
  refine wk F ?_
  refine aq F ?_
  try refine sq F ?_
  refine wk F ?_
  refine hK2 _ _ _ (Wkn.refl ⟨k+1,v+1,acc++[(lkM s.fo y).getD Fo.z],rfl,by simp[Fo.av],?_,?_,?_,?_,?_,by omega,by simp;omega,by rw[← hp];simp⟩) (by omega)
  all_goals first|exact zq F|rfl|omega|trivial|skip
 ·rw[bJ c1,List.map_nil,List.append_nil]at hp
  refine ee hQ F ?_
  rw[← hp]
  have hbl:n+(s.bl n).length≤H.length:=hn
  have hg:getRow (so (H++[.row 98 1 0 [.hm (n)],.row 95 3 v (acc.map Fo.av)]) n s) (H.length+1) v=some (95,3,acc.map Fo.av):=by
   rw[bi (by simp;omega) v (by omega),br _ rfl];simp[getRow]
  exact eu hbl rfl (PS.clo hn s) (Frz.data (by omega) hg (by simp) (fun r hr=>by obtain⟨a,_,rfl⟩:=List.mem_map.1 hr;exact Fo.clo _ a) (fun r hr=>by obtain⟨a,_,rfl⟩:=List.mem_map.1 hr;exact a.cells_sto)) ⟨rfl,rfl⟩
theorem nF(p:Nat)(h:Heap):Sat (CT G) 91 [.hm p] h (fun r h'=>r=.fn (.func 151) [] [.hp h.length 0 0 0]∧h'=h++[.row 99 1 0 [.hm p]]):=by
 refine sb [.tmp 2] (fn:=Tryz.f91) Tryz.func91 ?_
 intro Q hQ
 refine wk trivial ?_
 refine ee hQ trivial ?_
 exact Fin.whole (by simp) (.fn _ _ _ (fun _ h=>by cases h) (fun x hx=>by simp at hx;subst hx;exact .hp _ _ _ _ (by simp))) ⟨rfl,rfl⟩
theorem jf(s:PS)(hw:WFM s.fe s.c2)(hb:∀e∈s.fe, -9223372036854775808≤e.1∧e.1≤9223372036854775807)(hl:s.fe.length≤100000){H:Heap}{n:Nat}(hn:n+9≤H.length):Sat (CT G) 53 [.hm (n+1)] (so H n s) (fun r h'=>r=.sl 4 ((valsM Fe.z s.fe).map Fe.av)∧h'=so H n s):=by
 have hsl:=bS (s.fe.map (·.1))
 rw[List.length_map]at hsl
 refine sb [.tmp 2] (fn:=Tryz.f53) Tryz.func53 ?_
 intro Q hQ
 refine wk trivial ?_
 refine kq trivial (nF G _ _) ?_
 refine kq trivial (cF G Fe.av _ Tryz.sortedKeys91 s.fe s.c2 hw hb hl (by rw[bi (by simp;omega) 0 (by omega),aW _ rfl];rfl) (vN (by simp;omega))) ?_
 unfold valsM at hQ
 have hks:(List.map (fun x=>x.1) s.fe).mergeSort (fun x y=>decide (x≤y))=sortI (s.fe.map (·.1)):=rfl
 rw[hks]
 generalize sortI (s.fe.map (·.1))=ks at*
 have hkm:(ks.map iA).length=ks.length:=List.length_map ..
 have F:=hkm
 refine lm (fun nL tL hL=>∃(k v:Nat) (acc:List Fe),ks.length-k=nL∧so (H++[.row 99 1 0 [.hm (n+1)],.row 69 4 v (acc.map Fe.av)]) n s=hL∧tL 0=.hm (n+1)∧tL 3=.hs (H.length+1) v 0 acc.length true∧tL 8=.sl 1 (ks.map iA)∧tL 9=.int .i64 (ks.length:Int)∧tL 10=.int .i64 k∧k≤ks.length∧acc.length=k∧acc++(ks.drop k).map (fun k=>(lkM s.fe k).getD Fe.z)=ks.map (fun k=>(lkM s.fe k).getD Fe.z)) ((fun(k v:Nat) (acc:List Fe)=>(ks.length-k:Nat)) (0) (0) ([])) ?_ ?_
 ·refine⟨_,_,Weak.virt 3 69 4 (by simp) (by omega) (by exact zq F),⟨0,0,[],rfl,by rw[b8 (by simp;omega)];simp,?_,?_,?_,?_,?_,by omega,rfl,by simp⟩⟩
  all_goals first|exact zq F|rfl|omega|trivial|skip
 rintro _ s2 h' ⟨k,v,acc,rfl,rfl,e0,e3,e8,e9,e10,hk,hac,hp⟩ K2 hK2
 simp only[am,ao,Nat.reduceEqDiff, ↓reduceIte]at e0 e3 e8 e9 e10
 have F:=F6 F e0 e3 e8 e9 e10
 refine wk F ?_
 refine cq F (fun c1=>?_) (fun c1=>?_)<;>(try exact c1.elim)<;>(refine wk F ?_)
 ·have c2:k<ks.length:=by omega
  obtain⟨y,hy,hym⟩:=ak c2
  rw[bh hy,List.map_cons]at hp
  have F:=F3 F hy @ai
  try refine sq F ?_
  refine wk F ?_
  refine aq F ?_
  try refine sq F ?_
  refine wk F ?_
  refine hK2 _ _ _ (Wkn.refl ⟨k+1,v+1,acc++[(lkM s.fe y).getD Fe.z],rfl,by simp[Fe.av],?_,?_,?_,?_,?_,by omega,by simp;omega,by rw[← hp];simp⟩) (by omega)
  all_goals first|exact zq F|rfl|omega|trivial|skip
 ·rw[bJ c1,List.map_nil,List.append_nil]at hp
  refine ee hQ F ?_
  rw[← hp]
  have hbl:n+(s.bl n).length≤H.length:=hn
  have hg:getRow (so (H++[.row 99 1 0 [.hm (n+1)],.row 69 4 v (acc.map Fe.av)]) n s) (H.length+1) v=some (69,4,acc.map Fe.av):=by
   rw[bi (by simp;omega) v (by omega),br _ rfl];simp[getRow]
  exact eu hbl rfl (PS.clo hn s) (Frz.data (by omega) hg (by simp) (fun r hr=>by obtain⟨a,_,rfl⟩:=List.mem_map.1 hr;exact Fe.clo _ a) (fun r hr=>by obtain⟨a,_,rfl⟩:=List.mem_map.1 hr;exact a.cells_sto)) ⟨rfl,rfl⟩
theorem nG(p:Nat)(h:Heap):Sat (CT G) 92 [.hm p] h (fun r h'=>r=.fn (.func 152) [] [.hp h.length 0 0 0]∧h'=h++[.row 100 1 0 [.hm p]]):=by
 refine sb [.tmp 2] (fn:=Tryz.f92) Tryz.func92 ?_
 intro Q hQ
 refine wk trivial ?_
 refine ee hQ trivial ?_
 exact Fin.whole (by simp) (.fn _ _ _ (fun _ h=>by cases h) (fun x hx=>by simp at hx;subst hx;exact .hp _ _ _ _ (by simp))) ⟨rfl,rfl⟩
theorem nH(p:Nat)(h:Heap):Sat (CT G) 93 [.hm p] h (fun r h'=>r=.fn (.func 153) [] [.hp h.length 0 0 0]∧h'=h++[.row 101 1 0 [.hm p]]):=by
 refine sb [.tmp 2] (fn:=Tryz.f93) Tryz.func93 ?_
 intro Q hQ
 refine wk trivial ?_
 refine ee hQ trivial ?_
 exact Fin.whole (by simp) (.fn _ _ _ (fun _ h=>by cases h) (fun x hx=>by simp at hx;subst hx;exact .hp _ _ _ _ (by simp))) ⟨rfl,rfl⟩
theorem jg(s:PS)(hw:WFM s.se s.c4)(hb:∀e∈s.se, -9223372036854775808≤e.1∧e.1≤9223372036854775807)(hl:s.se.length≤100000){H:Heap}{n:Nat}(hn:n+9≤H.length):Sat (CT G) 55 [.hm (n+3)] (so H n s) (fun r h'=>r=.sl 3 ((valsM Se.z s.se).map Se.av)∧h'=so H n s):=by
 have hsl:=bS (s.se.map (·.1))
 rw[List.length_map]at hsl
 refine sb [.tmp 2] (fn:=Tryz.f55) Tryz.func55 ?_
 intro Q hQ
 refine wk trivial ?_
 refine kq trivial (nH G _ _) ?_
 refine kq trivial (cF G Se.av _ Tryz.sortedKeys93 s.se s.c4 hw hb hl (by rw[bi (by simp;omega) 0 (by omega),aW _ rfl];rfl) (vO (by simp;omega))) ?_
 unfold valsM at hQ
 have hks:(List.map (fun x=>x.1) s.se).mergeSort (fun x y=>decide (x≤y))=sortI (s.se.map (·.1)):=rfl
 rw[hks]
 generalize sortI (s.se.map (·.1))=ks at*
 have hkm:(ks.map iA).length=ks.length:=List.length_map ..
 have F:=hkm
 refine lm (fun nL tL hL=>∃(k v:Nat) (acc:List Se),ks.length-k=nL∧so (H++[.row 101 1 0 [.hm (n+3)],.row 97 3 v (acc.map Se.av)]) n s=hL∧tL 0=.hm (n+3)∧tL 3=.hs (H.length+1) v 0 acc.length true∧tL 8=.sl 1 (ks.map iA)∧tL 9=.int .i64 (ks.length:Int)∧tL 10=.int .i64 k∧k≤ks.length∧acc.length=k∧acc++(ks.drop k).map (fun k=>(lkM s.se k).getD Se.z)=ks.map (fun k=>(lkM s.se k).getD Se.z)) ((fun(k v:Nat) (acc:List Se)=>(ks.length-k:Nat)) (0) (0) ([])) ?_ ?_
 ·refine⟨_,_,Weak.virt 3 97 3 (by simp) (by omega) (by exact zq F),⟨0,0,[],rfl,by rw[b8 (by simp;omega)];simp,?_,?_,?_,?_,?_,by omega,rfl,by simp⟩⟩
  all_goals first|exact zq F|rfl|omega|trivial|skip
 rintro _ s2 h' ⟨k,v,acc,rfl,rfl,e0,e3,e8,e9,e10,hk,hac,hp⟩ K2 hK2
 simp only[am,ao,Nat.reduceEqDiff, ↓reduceIte]at e0 e3 e8 e9 e10
 have F:=F6 F e0 e3 e8 e9 e10
 refine wk F ?_
 refine cq F (fun c1=>?_) (fun c1=>?_)<;>(try exact c1.elim)<;>(refine wk F ?_)
 ·have c2:k<ks.length:=by omega
  obtain⟨y,hy,hym⟩:=ak c2
  rw[bh hy,List.map_cons]at hp
  have F:=F3 F hy @ai
  try refine sq F ?_
  refine wk F ?_
  refine aq F ?_
  try refine sq F ?_
  refine wk F ?_
  refine hK2 _ _ _ (Wkn.refl ⟨k+1,v+1,acc++[(lkM s.se y).getD Se.z],rfl,by simp[Se.av],?_,?_,?_,?_,?_,by omega,by simp;omega,by rw[← hp];simp⟩) (by omega)
  all_goals first|exact zq F|rfl|omega|trivial|skip
 ·rw[bJ c1,List.map_nil,List.append_nil]at hp
  refine ee hQ F ?_
  rw[← hp]
  have hbl:n+(s.bl n).length≤H.length:=hn
  have hg:getRow (so (H++[.row 101 1 0 [.hm (n+3)],.row 97 3 v (acc.map Se.av)]) n s) (H.length+1) v=some (97,3,acc.map Se.av):=by
   rw[bi (by simp;omega) v (by omega),br _ rfl];simp[getRow]
  exact eu hbl rfl (PS.clo hn s) (Frz.data (by omega) hg (by simp) (fun r hr=>by obtain⟨a,_,rfl⟩:=List.mem_map.1 hr;exact Se.clo _ a) (fun r hr=>by obtain⟨a,_,rfl⟩:=List.mem_map.1 hr;exact a.cells_sto)) ⟨rfl,rfl⟩
theorem iO(s:PS)(hw:WFM s.it s.c3)(hb:∀e∈s.it, -9223372036854775808≤e.1∧e.1≤9223372036854775807)(hl:s.it.length≤100000){H:Heap}{n:Nat}(hn:n+9≤H.length):Sat (CT G) 54 [.hm (n+2)] (so H n s) (fun r h'=>∃v,r=.hs (H.length+1) v 0 (valsM It.z s.it).length true∧h'=so (H++[.row 100 1 0 [.hm (n+2)],.row 64 9 v ((valsM It.z s.it).map It.av)]) n s):=by
 have hsl:=bS (s.it.map (·.1))
 rw[List.length_map]at hsl
 refine sb [.tmp 2] (fn:=Tryz.f54) Tryz.func54 ?_
 intro Q hQ
 refine wk trivial ?_
 refine kq trivial (nG G _ _) ?_
 refine kq trivial (cF G It.av _ Tryz.sortedKeys92 s.it s.c3 hw hb hl (by rw[bi (by simp;omega) 0 (by omega),aW _ rfl];rfl) (nz (by simp;omega))) ?_
 unfold valsM at hQ
 have hks:(List.map (fun x=>x.1) s.it).mergeSort (fun x y=>decide (x≤y))=sortI (s.it.map (·.1)):=rfl
 rw[hks]
 generalize sortI (s.it.map (·.1))=ks at*
 have hkm:(ks.map iA).length=ks.length:=List.length_map ..
 have F:=hkm
 refine lm (fun nL tL hL=>∃(k v:Nat) (acc:List It),ks.length-k=nL∧so (H++[.row 100 1 0 [.hm (n+2)],.row 64 9 v (acc.map It.av)]) n s=hL∧tL 0=.hm (n+2)∧tL 3=.hs (H.length+1) v 0 acc.length true∧tL 8=.sl 1 (ks.map iA)∧tL 9=.int .i64 (ks.length:Int)∧tL 10=.int .i64 k∧k≤ks.length∧acc.length=k∧acc++(ks.drop k).map (fun k=>(lkM s.it k).getD It.z)=ks.map (fun k=>(lkM s.it k).getD It.z)) ((fun(k v:Nat) (acc:List It)=>(ks.length-k:Nat)) (0) (0) ([])) ?_ ?_
 ·refine⟨_,_,Weak.virt 3 64 9 (by simp) (by omega) (by exact zq F),⟨0,0,[],rfl,by rw[b8 (by simp;omega)];simp,?_,?_,?_,?_,?_,by omega,rfl,by simp⟩⟩
  all_goals first|exact zq F|rfl|omega|trivial|skip
 rintro _ s2 h' ⟨k,v,acc,rfl,rfl,e0,e3,e8,e9,e10,hk,hac,hp⟩ K2 hK2
 simp only[am,ao,Nat.reduceEqDiff, ↓reduceIte]at e0 e3 e8 e9 e10
 have F:=F6 F e0 e3 e8 e9 e10
 refine wk F ?_
 refine cq F (fun c1=>?_) (fun c1=>?_)<;>(try exact c1.elim)<;>(refine wk F ?_)
 ·have c2:k<ks.length:=by omega
  obtain⟨y,hy,hym⟩:=ak c2
  rw[bh hy,List.map_cons]at hp
  have F:=F3 F hy @ai
  try refine sq F ?_
  refine wk F ?_
  refine aq F ?_
  try refine sq F ?_
  refine wk F ?_
  refine hK2 _ _ _ (Wkn.refl ⟨k+1,v+1,acc++[(lkM s.it y).getD It.z],rfl,by simp[It.av],?_,?_,?_,?_,?_,by omega,by simp;omega,by rw[← hp];simp⟩) (by omega)
  all_goals first|exact zq F|rfl|omega|trivial|skip
 ·rw[bJ c1,List.map_nil,List.append_nil]at hp
  refine ee hQ F ?_
  rw[← hp]
  have hal:acc.length=ks.length:=by omega
  exact Fin.whole (by rw[aJ hn,aJ (by simp;omega)];simp) (.hs _ _ _ _ _ (by rw[aJ (by simp;omega)];simp)) ⟨v,by simp[hal],rfl⟩
end Go.Av
namespace Go.Av
open Go Go.Proofs Go.RowKit
attribute [local irreducible] WP WPl WPix Sat
variable (G:Nat→Option (List AVal))
theorem kW{h0:Heap}{R:AVal→Heap→Prop}{r0 r:AVal}(hz:Frz h0 h0.length r0 r)(hR:R r h0):Fin h0 h0 R r0:=by
 have:=Fin.frz (h0:=h0) (j:=[]) (R:=R) (r0:=r0) (r:=r) (by rwa [List.append_nil]) hR
 rwa [List.append_nil]at this
theorem nI(l:List Bs)(hl:l.length≤1048576)(h:Heap):Sat (CT G) 94 [.sl 1 (l.map .str)] h (fun r h'=>r=.sl 1 (l.map .str)∧h'=h):=by
 rcases l with _| ⟨a,l⟩
 ·refine sb [.tmp 2] (fn:=Tryz.f94) Tryz.func94 ?_
  intro Q hQ
  refine wk trivial ?_
  refine iq _ (by exact zq trivial) (.inl rfl) fun b=>?_
  cases b
  ·try refine sq trivial ?_
   refine wk trivial ?_
   refine fV (.inl rfl) (by simp(disch:=first|omega| (simp only[go_sem, ↓reduceIte,seval];first|done|omega)|fail) only[go_sem, ↓reduceIte,seval];rfl) (by simp(disch:=first|omega| (simp only[go_sem, ↓reduceIte,seval];first|done|omega)|fail) only[go_sem, ↓reduceIte,seval];rfl) (by simp(disch:=first|omega| (simp only[go_sem, ↓reduceIte,seval];first|done|omega)|fail) only[go_sem, ↓reduceIte,seval];rfl) (by simp(disch:=first|omega| (simp only[go_sem, ↓reduceIte,seval];first|done|omega)|fail) only[go_sem, ↓reduceIte,seval];try rfl) (by omega) (by simp only[elemsOf, ↓reduceIte];try rfl) (by simp) (fun _=>?_) (fun h=>absurd rfl h)
   try refine sq trivial ?_
   refine wk trivial ?_
   refine ee hQ trivial ?_
   exact kW (.ezs _) ⟨rfl,rfl⟩
  ·try refine sq trivial ?_
   refine wk trivial ?_
   refine ee hQ trivial ?_
   exact kW (.nils _) ⟨rfl,rfl⟩
 ·have hr:(List.map AVal.str (a::l))≠ []:=by simp
  refine sb [.tmp 2] (fn:=Tryz.f94) Tryz.func94 ?_
  intro Q hQ
  refine wk trivial ?_
  refine fV (.inl rfl) (by simp(disch:=first|omega| (simp only[go_sem, ↓reduceIte,seval];first|done|omega)|fail) only[go_sem, ↓reduceIte,seval];rfl) (by simp(disch:=first|omega| (simp only[go_sem, ↓reduceIte,seval];first|done|omega)|fail) only[go_sem, ↓reduceIte,seval];rfl) (by simp(disch:=first|omega| (simp only[go_sem, ↓reduceIte,seval];first|done|omega)|fail) only[go_sem, ↓reduceIte,seval];rfl) (by simp(disch:=first|omega| (simp only[go_sem, ↓reduceIte,seval];first|done|omega)|fail) only[go_sem, ↓reduceIte,seval];try rfl) (by omega) (by simp only[elemsOf, ↓reduceIte];try rfl) ?_ (fun h=>by simp at h) (fun _=>?_)
  ·simp[maxLen]at hl ⊢;omega
  try refine sq trivial ?_
  refine wk trivial ?_
  refine ee hQ trivial ?_
  have hg:getRow (h++[.row 9 1 0 ((a::l).map .str)]) h.length 0=some (9,1,(a::l).map .str):=by rw[aW _ rfl];simp[getRow]
  have:=Frz.data (n:=h.length) (len:=(a::l).length) (room:=true) (Nat.le_refl _) hg (by simp) (fun r hr=>by obtain⟨a,_,rfl⟩:=List.mem_map.1 hr;exact .str _) (fun r hr c hc=>by obtain⟨a,_,rfl⟩:=List.mem_map.1 hr;simp[AVal.cells]at hc;subst hc;rfl)
  simp only[List.length_cons,List.map_cons]at this
  exact Fin.frz (by simpa using this) ⟨rfl,rfl⟩
theorem eP(t:It)(ht:t.tags.length≤1048576)(h:Heap):Sat (CT G) 56 [t.av] h (fun r h'=>r=t.av∧h'=h):=by
 refine sb [.cell 2 64] (fn:=Tryz.f56) Tryz.func56 ?_
 intro Q hQ
 refine wk trivial ?_
 refine kq trivial (nI G t.tags ht _) ?_
 refine ye hQ trivial ?_
 exact Fin.plain (It.clo _ t) ⟨rfl,rfl⟩
theorem nJ(s:PS)(id:Int)(ht:((lkM s.it id).getD It.z).tags.length≤1048576){H:Heap}{n:Nat}(hn:n+9≤H.length):Sat (CT G) 30 [.hp (n+8) 0 0 0,.int .i64 id] (so H n s) (fun r h'=>r=.tup [((lkM s.it id).getD It.z).av,.bool (lkM s.it id).isSome]∧h'=so H n s):=by
 refine sb [.cell 4 64,.tmp 5] (fn:=Tryz.f30) Tryz.func30 ?_
 intro Q hQ
 refine wk trivial ?_
 refine kq trivial (eP G ((lkM s.it id).getD It.z) ht _) ?_
 refine ye hQ trivial ?_
 exact af hn (.tup _ (fun x hx=>by simp only[List.mem_cons,List.not_mem_nil,or_false]at hx;rcases hx with rfl|rfl;exact It.clo _ _;exact .bool _)) ⟨rfl,rfl⟩
end Go.Av
namespace Go.Av
open Go Go.Proofs Go.RowKit
attribute [local irreducible] WP WPl WPix Sat
variable (G:Nat→Option (List AVal))
def shN:Nat→Bs→Nat→Nat
 |0,_,_=>0
 |f+1,s,n=>if s=[]then 0 else if n=32 then 0 else(dec s 0).2+shN f (s.drop (dec s 0).2) (n+1)
def shW(s:Bs):Bs:=s.take (shN s.length s 0)
theorem qj:∀(f:Nat) (s:Bs) (n:Nat),s.length≤f→shN f s n=shN s.length s n:=by
 intro f
 induction f using Nat.strongRecOn with
 |ind f ih=>
  intro s n hs
  cases s with
  |nil=>cases f<;>rfl
  |cons b t=>
   obtain⟨f,rfl⟩:∃g,f=g+1:=⟨f-1,by simp at hs;omega⟩
   have hd:=aM (b::t) 0 (by simp)
   simp only[List.length_cons]at hs hd ⊢
   have hl:((b::t).drop (dec (b::t) 0).2).length≤t.length:=by simp only[List.length_drop,List.length_cons];omega
   rw[shN,shN,if_neg (show ¬(b::t)=[] by simp),if_neg (show ¬(b::t)=[] by simp),ih f (by omega) _ _ (by omega),ih t.length (by omega) _ _ hl]
def shA(s:Bs)(k n:Nat):Nat:=shN (s.drop k).length (s.drop k) n
theorem rU(s:Bs)(k n:Nat)(h:s.length≤k):shA s k n=0:=by unfold shA;rw[List.drop_of_length_le h];rfl
theorem tB(s:Bs)(k n:Nat)(h:k<s.length):shA s k n=if n=32 then 0 else(dec s k).2+shA s (k+(dec s k).2) (n+1):=by
 have hd:=aM s k h
 have hl:(s.drop k).length=(s.length-k-1)+1:=by rw[List.length_drop];omega
 unfold shA
 rw[hl,shN,if_neg (by intro e;rw[e]at hl;simp at hl), ← dG,List.drop_drop,qj (s.length-k-1) _ _ (by simp only[List.length_drop];omega)]
theorem nK(s:Bs)(hs:s.length≤100000000)(h:Heap):Sat (CT G) 321 [.str s] h (fun r h'=>r=.str (shW s)∧h'=h):=by
 refine sb [.tmp 2] (fn:=Tryz.f321) Tryz.func321 ?_
 intro Q hQ
 refine wk trivial ?_
 refine lm (fun nL tL hL=>∃(k n:Nat),s.length-k=nL∧h++[.iter s k]=hL∧tL 3=.int .i64 n∧k≤s.length∧n≤32∧k+shA s k n=shN s.length s 0) ((fun(k n:Nat)=>(s.length-k:Nat)) (0) (0)) ?_ ?_
 ·refine Wkn.refl ⟨0,0,rfl,aY,?_,by omega,by omega,by simp[shA]⟩
  all_goals first|exact zq trivial|rfl|omega|trivial|skip
 rintro _ s2 h' ⟨k,n,rfl,rfl,e3,hk,hn,hc⟩ K2 hK2
 simp only[am,ao,Nat.reduceEqDiff, ↓reduceIte]at e3
 have F:=e3
 refine wk F ?_
 refine du (jb _ _ _ _) (fun hlt=>?_) (fun hge=>?_)
 ·have hp:=aM s k hlt
  have hca:=tB s k n hlt
  rw[show Utf8.decode ⟨s.toArray⟩ k=dec s k from rfl]
  generalize dec s k=d at*
  obtain⟨c,m⟩:=d
  simp only[]at hp hca ⊢
  try refine sq F ?_
  refine wk F ?_
  refine cq F (fun c1=>?_) (fun c1=>?_)<;>(try exact c1.elim)<;>(refine wk F ?_)
  ·have c2:n=32:=by omega
   rw[if_pos c2]at hca
   refine ee hQ F ?_
   refine fR (.str _) ?_
   unfold shW
   congr 2
   omega
  ·have c2:¬n=32:=by omega
   rw[if_neg c2]at hca
   refine hK2 _ _ _ (Wkn.refl ⟨k+m,n+1,rfl,aY,?_,by omega,by omega,by omega⟩) (by omega)
   all_goals first|exact zq F|rfl|omega|trivial|skip
 ·rw[rU s k n (by omega)]at hc
  try refine sq F ?_
  refine wk F ?_
  refine ee hQ F ?_
  refine fR (.str _) ?_
  unfold shW
  rw[← hc,List.take_of_length_le (by omega)]
def wordsF(s:Bs):List Bs:=(fldsF (foldS s)).map shW
theorem qk(s:Bs):∀w∈fldsF s,w.length≤s.length:=fun w hw=>by
 unfold fldsF Lib.goFieldsP at hw
 rw[List.map_map]at hw
 obtain⟨x,_,rfl⟩:=List.mem_map.1 hw
 simp only[Function.comp,ByteArray.extract,ByteArray.copySlice,Array.toList_append,Array.toList_extract,List.length_append]
 simp[List.extract]
 omega
theorem cS(p:Nat→Bool)(s:ByteArray):∀(f pos:Nat) (st:Option Nat) (acc:List (Nat×Nat)),(Lib.spansFromP p s f pos st acc).1.length≤acc.length+f
 |0,_,_,acc=>by simp[Lib.spansFromP]
 |f+1,pos,st,acc=>by
  unfold Lib.spansFromP
  split
  ·split
   ·cases st with
    |some a=>have:=cS p s f (pos+(Utf8.decode s pos).2) none (acc++[(a,pos)]);simp only[List.length_append,List.length_cons,List.length_nil]at this;simp only;omega
    |none=>have:=cS p s f (pos+(Utf8.decode s pos).2) none acc;simp only;omega
   ·cases st with
    |some a=>have:=cS p s f (pos+(Utf8.decode s pos).2) (some a) acc;simp only;omega
    |none=>have:=cS p s f (pos+(Utf8.decode s pos).2) (some pos) acc;simp only;omega
  ·simp only;omega
theorem ql(s:Bs):(fldsF s).length≤s.length+1:=by
 unfold fldsF Lib.goFieldsP Lib.spansOfP
 rw[List.length_map,List.length_map]
 have:=cS (fun r=> !letF r) ⟨s.toArray⟩ (ByteArray.size ⟨s.toArray⟩) 0 none []
 have hsz:ByteArray.size ⟨s.toArray⟩=s.length:=by simp[ByteArray.size]
 rw[hsz]at this ⊢
 unfold Lib.closeSpans
 simp only[List.length_nil]at this
 split
 ·simp only[List.length_append,List.length_cons,List.length_nil];omega
 ·omega
theorem nM(s:Bs)(hs:s.length≤100000)(h:Heap):Sat (CT G) 299 [.str s] h (fun r h'=>r=.sl 1 ((wordsF s).map .str)∧h'=h):=by
 have hfl:=oS s
 have hwl:=qk (foldS s)
 have hn:=ql (foldS s)
 refine sb [.tmp 2] (fn:=Tryz.f299) Tryz.func299 ?_
 intro Q hQ
 refine wk trivial ?_
 refine kq trivial (oR G s (by omega) _) ?_
 refine(nB G (foldS s) (by omega) _).mono ?_
 unfold wordsF at hQ
 generalize fldsF (foldS s)=ws at*
 rintro r h' (⟨hw0,rfl,he⟩| ⟨hw0,rfl,rfl⟩)
 ·subst hw0
  rw[he]
  try refine sq trivial ?_
  refine wk trivial ?_
  refine lm (fun nL tL hL=>0=nL∧[]++h=hL∧tL 3=.sl 1 []∧tL 10=.int .i64 0∧tL 11=.int .i64 0) (0) ?_ ?_
  ·refine Wkn.refl ⟨rfl,rfl,?_,?_,?_⟩
   all_goals first|exact zq trivial|rfl|omega|trivial|skip
  rintro _ s2 h' ⟨rfl,rfl,e3,e10,e11⟩ K2 hK2
  simp only[am,ao,Nat.reduceEqDiff, ↓reduceIte]at e3 e10 e11
  have F:=F3 e3 e10 e11
  refine wk F ?_
  refine cq F (fun c1=>?_) (fun c1=>?_)<;>(try exact c1.elim)<;>(refine wk F ?_)
  refine ye hQ F ?_
  exact Fin.same (Clo.sl 1 [] fun x hx=>by cases hx) ⟨rfl,rfl⟩
 ·try refine sq trivial ?_
  refine wk trivial ?_
  refine lm (fun nL tL hL=>∃(k:Nat),ws.length-k=nL∧h++[.row 9 1 0 (((ws.take k).map shW++ws.drop k).map .str)]=hL∧tL 3=.hs h.length 0 0 ws.length true∧tL 9=.hs h.length 0 0 ws.length true∧tL 10=.int .i64 (ws.length:Int)∧tL 11=.int .i64 k∧k≤ws.length) ((fun(k:Nat)=>(ws.length-k:Nat)) (0)) ?_ ?_
  ·refine Wkn.refl ⟨0,rfl,aY,?_,?_,?_,?_,by omega⟩
   all_goals first|exact zq trivial|rfl|omega|trivial|skip
  rintro _ s2 h' ⟨k,rfl,rfl,e3,e9,e10,e11,hk⟩ K2 hK2
  simp only[am,ao,Nat.reduceEqDiff, ↓reduceIte]at e3 e9 e10 e11
  have F:=F4 e3 e9 e10 e11
  refine wk F ?_
  refine cq F (fun c1=>?_) (fun c1=>?_)<;>(try exact c1.elim)<;>(refine wk F ?_)
  ·have c2:k<ws.length:=by omega
   obtain⟨y,hy,hym⟩:=ak c2
   have hyl:=hwl y hym
   have hget:((ws.take k).map shW++ws.drop k)[k]? =some y:=by
    rw[List.getElem?_append_right (by simp;omega),List.length_map,List.length_take,Nat.min_eq_left (by omega),Nat.sub_self,List.getElem?_drop];simpa using hy
   have hset:(((ws.take k).map shW++ws.drop k).map AVal.str).set k (.str (shW y))=((ws.take (k+1)).map shW++ws.drop (k+1)).map .str:=by
    have h1:(AVal.str (shW y))=AVal.str (shW y):=rfl
    rw[← List.map_set]
    congr 1
    rw[List.set_append_right _ _ (by simp;omega),List.length_map,List.length_take,Nat.min_eq_left (by omega),Nat.sub_self,bh hy,List.set_cons_zero,List.take_add_one,hy]
    simp
   have hlen:(((ws.take k).map shW++ws.drop k).map AVal.str).length=ws.length:=by simp;omega
   generalize hrw:(ws.take k).map shW++ws.drop k=rw at*
   have F:=F6 F c2 @hget @hset @hlen @ai
   try refine sq F ?_
   refine wk F ?_
   refine kq F (nK G y (by omega) _) ?_
   refine hK2 _ _ _ (Wkn.refl ⟨k+1,rfl,rfl,?_,?_,?_,?_,by omega⟩) (by omega)
   all_goals first|exact zq F|rfl|omega|trivial|skip
  ·have hk2:k=ws.length:=by omega
   subst hk2
   have hfin:(ws.take ws.length).map shW++ws.drop ws.length=ws.map shW:=by rw[List.take_length,List.drop_length,List.append_nil]
   rw[hfin]
   have hg:getRow (h++[.row 9 1 0 ((ws.map shW).map .str)]) h.length 0=some (9,1,(ws.map shW).map .str):=by rw[aW _ rfl];simp[getRow]
   have hz:=Frz.data (n:=h.length) (len:=ws.length) (room:=true) (Nat.le_refl _) hg (by simp) (fun r hr=>by obtain⟨a,_,rfl⟩:=List.mem_map.1 hr;exact .str _) (fun r hr c hc=>by obtain⟨a,_,rfl⟩:=List.mem_map.1 hr;simp[AVal.cells]at hc;subst hc;rfl)
   refine ye hQ F ?_
   exact Fin.frz hz ⟨rfl,rfl⟩
def isF(s:Bs):Bool:=decide (wordsF s=[s])
theorem rV(s:Bs)(hs:s.length≤100000)(h:Heap):Sat (CT G) 259 [.str s] h (fun r h'=>r=.bool (isF s)∧h'=h):=by
 have hW:=nM G s hs
 unfold isF
 generalize wordsF s=ws at*
 match ws with
 | []=>
  refine sb [.tmp 2] (fn:=Tryz.f259) Tryz.func259 ?_
  intro Q hQ
  refine wk trivial ?_
  refine kq trivial (hW _) ?_
  refine ee hQ trivial ?_
  exact Fin.same (.bool _) ⟨by simp,rfl⟩
 | [w]=>
  refine sb [.tmp 2] (fn:=Tryz.f259) Tryz.func259 ?_
  intro Q hQ
  refine wk trivial ?_
  refine kq trivial (hW _) ?_
  refine ee hQ trivial ?_
  exact Fin.same (.bool _) ⟨by simp;rw[Bool.eq_iff_iff];simp,rfl⟩
 |w::v::l=>
  refine sb [.tmp 2] (fn:=Tryz.f259) Tryz.func259 ?_
  intro Q hQ
  refine wk trivial ?_
  refine kq trivial (hW _) ?_
  (first|refine gq trivial (fun g=>?_) (fun g=>?_)|refine pq trivial (fun g=>?_) (fun g=>?_))<;>(try exact g.elim)<;>(try refine sq trivial ?_)<;>(refine wk trivial ?_)
  ·exfalso;first|omega| (simp at g;omega)
  ·refine ee hQ trivial ?_
   exact Fin.same (.bool _) ⟨by simp,rfl⟩
end Go.Av
namespace Go.Av
open Go Go.Proofs Go.RowKit
theorem kZ:∀t:Bs,Op.bytesLess t t=false
 | []=>rfl
 |a::t=>by simp[Op.bytesLess,kZ t]
theorem hZ:∀{a b c:Bs},Op.bytesLess a b=true→Op.bytesLess b c=true→Op.bytesLess a c=true
 |_,_,[],_,h=>by cases h2:(‹Bs› :Bs)<;>simp[Op.bytesLess]at h
 | [],_,_::_,_,_=>rfl
 |_::_,[],_::_,h,_=>by simp[Op.bytesLess]at h
 |x::a,y::b,z::c,h,k=>by
  simp only[Op.bytesLess,Bool.or_eq_true,decide_eq_true_eq,Bool.and_eq_true,beq_iff_eq]at h k ⊢
  rcases h with h| ⟨rfl,h⟩
  ·rcases k with k| ⟨rfl,k⟩
   ·exact .inl (UInt8.lt_trans h k)
   ·exact .inl h
  ·rcases k with k| ⟨rfl,k⟩
   ·exact .inl k
   ·exact .inr ⟨rfl,hZ h k⟩
theorem oY:∀(a b:Bs),Op.bytesLess a b=false→Op.bytesLess b a=false→a=b
 | [],[],_,_=>rfl
 | [],_::_,h,_=>by simp[Op.bytesLess]at h
 |_::_,[],_,h=>by simp[Op.bytesLess]at h
 |x::a,y::b,h,k=>by
  simp only[Op.bytesLess,Bool.or_eq_false_iff,decide_eq_false_iff_not,Bool.and_eq_false_iff,beq_eq_false_iff_ne]at h k
  have hxy:x=y:=by
   have h1:=UInt8.not_lt.1 h.1
   have h2:=UInt8.not_lt.1 k.1
   exact UInt8.le_antisymm h2 h1
  subst hxy
  rw[oY a b (by rcases h.2 with h|h;exact absurd rfl h;exact h) (by rcases k.2 with h|h;exact absurd rfl h;exact h)]
def Srt(l:List Bs):Prop:=l.Pairwise fun a b=>Op.bytesLess a b=true
def lbF(l:List Bs)(t:Bs):Nat:=(l.takeWhile fun x=>Op.bytesLess x t).length
theorem l5(l:List Bs)(t:Bs):lbF l t≤l.length:=by
 unfold lbF
 have:=(List.takeWhile_sublist (l:=l) fun x=>Op.bytesLess x t).length_le
 exact this
theorem i5(a:Bs)(l:List Bs)(t:Bs):lbF (a::l) t=if Op.bytesLess a t=true then lbF l t+1 else 0:=by
 unfold lbF;rw[List.takeWhile_cons];split<;>simp
theorem oZ{l:List Bs}{t:Bs}:∀j,j<lbF l t→∃x,l[j]? =some x∧Op.bytesLess x t=true:=by
 induction l with
 |nil=>intro j h;simp[lbF]at h
 |cons a l ih=>
  intro j h
  rw[i5]at h
  split at h
  ·rename_i ha
   cases j with
   |zero=>exact⟨a,rfl,ha⟩
   |succ j=>exact ih j (by omega)
  ·omega
theorem p3{l:List Bs}{t:Bs}(hs:Srt l):∀j x,lbF l t≤j→l[j]? =some x→Op.bytesLess x t=false:=by
 induction l with
 |nil=>intro j x _ h;simp at h
 |cons a l ih=>
  intro j x h hx
  rw[i5]at h
  have hp:=List.pairwise_cons.1 hs
  split at h
  ·rename_i ha
   cases j with
   |zero=>omega
   |succ j=>exact ih hp.2 j x (by omega) (by simpa using hx)
  ·rename_i ha
   cases j with
   |zero=>simp at hx;subst hx;simpa using ha
   |succ j=>
    have hm:=hp.1 x (List.mem_of_getElem? (by simpa using hx))
    cases hq:Op.bytesLess x t with
    |false=>rfl
    |true=>exact absurd (hZ hm hq) ha
theorem mt{l:List Bs}{t:Bs}(hs:Srt l)(hm:t∈l):l[lbF l t]? =some t:=by
 obtain⟨j,hj⟩:=List.getElem?_of_mem hm
 rcases Nat.lt_trichotomy j (lbF l t)with h|h|h
 ·obtain⟨x,hx,hl⟩:=oZ j h
  rw[hj]at hx;cases hx
  rw[kZ]at hl;cases hl
 ·rw[← h];exact hj
 ·have hlt:lbF l t<l.length:=by have:=(List.getElem?_eq_some_iff.1 hj).1;omega
  have h1:l[lbF l t]? =some l[lbF l t]:=List.getElem?_eq_getElem hlt
  have h2:=p3 hs _ _ (Nat.le_refl _) h1
  have h3:=(List.pairwise_iff_getElem.1 hs) (lbF l t) j hlt (List.getElem?_eq_some_iff.1 hj).1 h
  rw[(List.getElem?_eq_some_iff.1 hj).2,h2]at h3;cases h3
variable (G:Nat→Option (List AVal))
theorem qB(w:World)(n:Nat):Below w.heap.size w (w.drewN n):=by
 induction n with
 |zero=>exact Below.refl _ _
 |succ n ih=>exact ih.trans (Below.drew (Below.refl _ _))
theorem jU(l:List Bs)(t:Bs)(hs:Srt l)(hl:l.length≤100000)(h:Heap):Sat (CT G) 156 [.sl 1 (l.map .str),.str t] h (fun r h'=>r=.tup [.int .i64 (lbF l t),.bool (decide (t∈l))]∧h'=h):=by
 intro B S μ w us fit rl
 obtain⟨hul,hur⟩:=rl
 match us,hul,hur with
 | [v0,v1],_,hur=>
  have r0:Rep w S μ (.sl 1 (l.map .str)) v0:=hur 0 _ rfl
  have r1:Rep w S μ (.str t) v1:=hur 1 _ rfl
  obtain rfl:=r1.str_inv
  change OpOk Tryz.prog _ ((callFunc 156 #[v0,.string ⟨t.toArray⟩]).run Tryz.prog w)
  rw[bR (f:=156) Tryz.func156 rfl rfl]
  have fin:∀(w':World) (i:Nat) (b:Bool),Below w.heap.size w w'→i=lbF l t→b=decide (t∈l)→∃v,Value.tuple #[.int .i64 i,.bool b]=v∧OpPost (CT G) B S μ w (fun r h'=>r=.tup [.int .i64 (lbF l t),.bool (decide (t∈l))]∧h'=h) v w':=by
   rintro w' i b hb rfl rfl
   obtain⟨f',st⟩:=fit.grown hb
   exact⟨_,rfl,_,h,S,μ,⟨rfl,rfl⟩,st,f',gR (.int _ _) (.bool _)⟩
  by_cases hn:l=[]
  ·subst hn
   obtain⟨a,cap,rfl⟩:∃a cap,v0=.slice a 0 cap:=by
    cases r0 with
    |sl0 _ a cap=>exact⟨a,cap,rfl⟩
    |sl _ _ b o cap vs h1=>exact absurd rfl h1
   refine(Any2.slices_BinarySearch_string_empty Tryz.lays2_26 a cap ⟨t.toArray⟩ w).mono fun e w' ⟨he,hw⟩=>?_
   obtain⟨v,hv,hp⟩:=fin w' 0 false (by rw[hw];exact Below.refl _ _) rfl (by simp)
   exact⟨v,by rw[he, ← hv];rfl,hp⟩
  ·obtain⟨b,o,cap,rfl,hc⟩:∃b o cap,v0=.slice (some ⟨b,o,none⟩) l.length cap∧∀j,j<l.length→w.cell? ⟨b,o+j,none⟩=some (.string ⟨(l.getD j t).toArray⟩):=by
    generalize hm:l.map AVal.str=m at r0
    cases r0 with
    |sl0 _ a cap=>simp at hm;exact absurd hm hn
    |sl _ _ b o cap vs h1 h2 h3 h4 h5 h6=>
     subst hm
     refine⟨b,o,cap,by simp,fun j hj=>?_⟩
     have hx:(l.map AVal.str)[j]? =some (.str l[j]):=by rw[List.getElem?_map,List.getElem?_eq_getElem hj];rfl
     have h7:=h5 j _ 0 _ hx rfl
     have h8:=h6 j _ 0 _ hx rfl
     rw[h8.str_inv]at h7
     have:l.getD j t=l[j]:=by simp[List.getD,hj]
     rw[this]
     have e:o+(j*1+0)=o+j:=by omega
     rw[e]at h7
     exact h7.2.1
   refine(Any2.slices_BinarySearch_string Tryz.lays2_26 b o l.length cap (fun j=>⟨(l.getD j t).toArray⟩) ⟨t.toArray⟩ w (by omega) hc).mono fun e w' ⟨he,q,hw⟩=>?_
   have hk:Lib.bsGo (fun j=>Op.bytesLess (⟨(l.getD j t).toArray⟩:ByteArray).toList (⟨t.toArray⟩:ByteArray).toList) l.length 0 l.length=lbF l t:=by
    refine Lib.bsGo_spec _ (lbF l t) (fun j hj=>?_) (fun j hj=>?_) _ _ _ (by omega) (Nat.zero_le _) (l5 l t)
    ·obtain⟨x,hx,hlt⟩:=oZ j hj
     simp only[bw]
     rw[show l.getD j t=x by simp[List.getD,hx]];exact hlt
    ·simp only[bw]
     cases hx:l[j]? with
     |none=>rw[show l.getD j t=t by simp[List.getD,hx]];exact kZ t
     |some x=>rw[show l.getD j t=x by simp[List.getD,hx]];exact p3 hs j x hj hx
   rw[hk]at he
   obtain⟨v,hv,hp⟩:=fin w' (lbF l t) (decide (lbF l t<l.length∧(⟨(l.getD (lbF l t) t).toArray⟩:ByteArray)=⟨t.toArray⟩)) (by rw[hw];exact qB w q) rfl (by
    rw[Bool.eq_iff_iff,decide_eq_true_eq,decide_eq_true_eq]
    constructor
    ·rintro⟨h1,h2⟩
     have h3:l.getD (lbF l t) t=l[lbF l t]:=by simp[List.getD,h1]
     rw[h3]at h2
     have:l[lbF l t]=t:=by simpa using h2
     rw[← this];exact List.getElem_mem h1
    ·intro hm
     have:=mt hs hm
     exact⟨(List.getElem?_eq_some_iff.1 this).1,by simp[List.getD,this]⟩)
   exact⟨v,by rw[he, ← hv],hp⟩
end Go.Av
namespace Go.Av
open Go Go.Proofs Go.RowKit
def encS(t:Bs):Value:=.string ⟨t.toArray⟩
theorem Only.setCells(b:Nat):∀(vs:List Value) (o:Nat) (w:World),Only w (w.setCells b o vs) (some b)
 | [],_,_=>Only.refl _ _
 |v::r,o,w=>(Only.setCell w ⟨b,o,none⟩ v).trans (Only.setCells b r (o+1) _)
theorem Only.alloc(w:World)(o:Obj)(q:Option Nat):Only w (w.alloc o) q:=
 ⟨rfl,rfl,rfl,by simp,fun k hk _=>Below.heap_alloc w o k hk⟩
theorem Only.into{w w1 w2:World}{q:Option Nat}{g:Nat}(h:Only w w1 q)(k:Only w1 w2 (some g))(hg:w.heap.size≤g):Only w w2 q:=
 ⟨k.os.trans h.os,k.tape.trans h.tape,k.output.trans h.output,Nat.le_trans h.size k.size,
  fun i hi hq=>(k.block i (Nat.lt_of_lt_of_le hi h.size) (fun e=>by cases e;omega)).trans (h.block i hi hq)⟩
theorem Only.putRow{α:Type}[Inhabited α](enc:α→Value)(w:World)(b off:Nat)(d:Array α):Only w (Go.Sort.putRow enc w b off d) (some b):=
 ⟨rfl,rfl,rfl,by simp,fun k _ hq=>by
  have:b≠k:=fun e=>hq (by rw[e])
  simp[Go.Sort.putRow,Go.Sort.mapBlock,Array.getElem?_modify,this]⟩
section
variable {C:Ctx} {B:Nat} {S:Addr→Prop} {μ:Map} {h:Heap} {w w':World}
theorem Fits.give(f:Fits C B S μ h w){p:Nat}{m:MB}(hm:μ[p]? =some m){g:Nat}(hg:∀q m',μ[q]? =some m'→m'.blk=some g→q=p)(hB:B≤g)(hgl:g<w.heap.size):
  Step B S μ w (fun a=>S a∨a.block=g) (μ.set p ⟨none,m.ver+1,m.size,m.cap⟩) w∧Fits C B (fun a=>S a∨a.block=g) (μ.set p ⟨none,m.ver+1,m.size,m.cap⟩) (h.set p .dead) w:=by
 have hlt:=(List.getElem?_eq_some_iff.1 hm).1
 have st:Step B S μ w (fun a=>S a∨a.block=g) (μ.set p ⟨none,m.ver+1,m.size,m.cap⟩) w:=⟨fun a ha=>.inl ha,fun _ _=>rfl,Below.refl _ _,b9 hm (by simp) (fun e=>by simp at e),fun a ha=>by
  rcases ha with ha|ha
  ·exact .inl ha
  ·exact .inr (by omega)⟩
 have at_:∀q k,(μ.set p ⟨none,m.ver+1,m.size,m.cap⟩)[q]? =some k→(q=p∧k.blk=none)∨(q≠p∧μ[q]? =some k):=by
  intro q k hq
  by_cases e:p=q
  ·subst e;rw[List.getElem?_set_self hlt]at hq;cases hq;exact .inl ⟨rfl,rfl⟩
  ·rw[List.getElem?_set_ne e]at hq;exact .inr ⟨fun e'=>e e'.symm,hq⟩
 refine⟨st,⟨fun g cs hg=>(f.glob g cs hg).mono st,by simp[f.len],?_,?_,f.base,?_,?_⟩⟩
 ·intro p1 q1 m1 m2 b h1 h2 e1 e2
  rcases at_ p1 m1 h1 with⟨_,k1⟩| ⟨_,k1⟩
  ·rw[k1]at e1;cases e1
  ·rcases at_ q1 m2 h2 with⟨_,k2⟩| ⟨_,k2⟩
   ·rw[k2]at e2;cases e2
   ·exact f.sep p1 q1 m1 m2 b k1 k2 e1 e2
 ·intro p1 m1 b h1 e1
  rcases at_ p1 m1 h1 with⟨_,k1⟩| ⟨r1,k1⟩
  ·rw[k1]at e1;cases e1
  ·obtain⟨a1,a2,a3⟩:=f.own p1 m1 b k1 e1
   refine⟨a1,a2,fun a ha=>?_⟩
   rcases ha with ha|ha
   ·exact a3 a ha
   ·intro e
    exact r1 (hg p1 m1 k1 (by rw[e1, ← e,ha]))
 ·intro a ha
  rcases ha with ha|ha
  ·exact f.lie a ha
  ·omega
 ·intro p1 m1 k1 h1 h2
  rcases at_ p1 m1 h1 with⟨rfl,_⟩| ⟨r1,h1⟩
  ·rw[List.getElem?_set_self (by rw[← f.len];exact hlt)]at h2;cases h2;trivial
  ·rw[List.getElem?_set_ne (fun e=>r1 e.symm)]at h2
   exact(f.blk p1 m1 k1 h1 h2).mono st fun b _=>rfl
theorem qC{g off cap:Nat}{ls:List Bs}(hS:∀a,a.block=g→S a)(hl:ls.length≤cap)(hm:cap≤maxLen)(hc:∀j x,ls[j]? =some x→w.cell? ⟨g,off+j,none⟩=some (encS x)):
  Rep w S μ (.sl 1 (ls.map .str)) (.slice (some ⟨g,off,none⟩) ls.length cap):=by
 by_cases hn:ls=[]
 ·subst hn;exact .sl0 1 _ cap
 have hlen:(ls.map AVal.str).length=ls.length:=List.length_map ..
 rw[← hlen]
 refine .sl 1 (ls.map .str) g off cap (fun i _=>encS (ls.getD i [])) (by simpa using hn) (by omega) hm (fun i x hx=>?_) (fun i x j c hx hj=>?_) (fun i x j c hx hj=>?_)
 ·obtain⟨a,_,rfl⟩:=List.mem_map.1 (List.mem_of_getElem? hx);rfl
 ·rw[List.getElem?_map]at hx
  obtain⟨a,ha,rfl⟩:=Option.map_eq_some_iff.1 hx
  match j with
  |0=>
   simp[AVal.cells]at hj;subst hj
   refine⟨hS _ rfl,?_,rfl⟩
   rw[show off+(i*1+0)=off+i by omega,hc i a ha]
   simp[List.getD,ha]
  |j+1=>simp[AVal.cells]at hj
 ·rw[List.getElem?_map]at hx
  obtain⟨a,ha,rfl⟩:=Option.map_eq_some_iff.1 hx
  match j with
  |0=>
   simp[AVal.cells]at hj;subst hj
   simp only[List.getD,ha,Option.getD_some]
   exact .str a
  |j+1=>simp[AVal.cells]at hj
theorem i6(f:Fits C B S μ h w){p:Nat}{m:MB}(hm:μ[p]? =some m)(o:Only w w' m.blk){g off cap:Nat}{ls:List Bs}(hg:m.blk=some g∨(w.heap.size≤g∧g<w'.heap.size))
  (hl:ls.length≤cap)(hx:cap≤maxLen)(hc:∀j x,ls[j]? =some x→w'.cell? ⟨g,off+j,none⟩=some (encS x)):
  ∃S' μ',Step B S μ w S' μ' w'∧Fits C B S' μ' (h.set p .dead) w'∧Rep w' S' μ' (.sl 1 (ls.map .str)) (.slice (some ⟨g,off,none⟩) ls.length cap):=by
 obtain⟨f1,st1⟩:=f.update (m':=⟨m.blk,m.ver+1,m.size,m.cap⟩) (k':=.dead) hm o (by simp) (fun e=>by simp at e) (.inl rfl) trivial
 have hlt:=(List.getElem?_eq_some_iff.1 hm).1
 have hm1:(μ.set p ⟨m.blk,m.ver+1,m.size,m.cap⟩)[p]? =some ⟨m.blk,m.ver+1,m.size,m.cap⟩:=List.getElem?_set_self hlt
 have hgg:(B≤g∧g<w'.heap.size)∧∀q m',(μ.set p ⟨m.blk,m.ver+1,m.size,m.cap⟩)[q]? =some m'→m'.blk=some g→q=p:=by
  rcases hg with hg| ⟨h1,h2⟩
  ·obtain⟨a1,a2,_⟩:=f.own p m g hm hg
   exact⟨⟨a1,Nat.lt_of_lt_of_le a2 o.size⟩,fun q m' hq hb=>f1.sep q p m' _ g hq hm1 hb hg⟩
  ·refine⟨⟨Nat.le_trans f.base h1,h2⟩,fun q m' hq hb=>?_⟩
   by_cases e:p=q
   ·exact e.symm
   ·rw[List.getElem?_set_ne e]at hq
    have:=(f.own q m' g hq hb).2.1
    omega
 obtain⟨st2,f2⟩:=f1.give hm1 hgg.2 hgg.1.1 hgg.1.2
 refine⟨_,_,st1.trans st2,?_,qC (fun a ha=>.inr ha) hl hx hc⟩
 simpa using f2
end
theorem g9{C:Ctx}{B:Nat}{S:Addr→Prop}{μ:Map}{h:Heap}{w:World}(f:Fits C B S μ h w){p ver len:Nat}{T:TypeId}{room:Bool}{l:List Bs}{v:Value}(hn:l≠ [])
  (hg:getRow h p ver=some (T,1,l.map .str))(hv:Rep w S μ (.hs p ver 0 len room) v):
  ∃m b cur,μ[p]? =some m∧m.blk=some b∧w.heap[b]? =some (.cells cur T (0,0))∧cur.size=m.cap∧l.length≤m.cap∧m.cap≤maxLen∧0<m.cap∧v=.slice (some ⟨b,0,none⟩) len (if room then m.cap else len)∧
   ∀j x,l[j]? =some x→w.cell? ⟨b,0+j,none⟩=some (encS x):=by
 obtain⟨m,hm,hf⟩:=f.row hg
 rcases hf.lies with⟨_,h2⟩| ⟨b,cur,hb,hheap,hsz,⟨h0,hle⟩,hmax,hcell⟩
 ·exact absurd (List.map_eq_nil_iff.1 h2) hn
 rcases hv.hs_now hm hf.hver with⟨h1,_⟩| ⟨b',hb',_,hve⟩
 ·rw[hb]at h1;cases h1
 rw[hb]at hb';cases hb'
 have hs1:=hf.hsize
 refine⟨m,b,cur,hm,hb,hheap,by omega,by simpa using hle,hmax,h0,by rw[hve];simp,fun j x hx=>?_⟩
 have hx':(l.map AVal.str)[j]? =some (.str x):=by rw[List.getElem?_map,hx];rfl
 obtain⟨u,hu,hr⟩:=hcell j (.str x) 0 (.str x) hx' rfl
 rw[hr.str_inv]at hu
 have hlt:=(Array.getElem?_eq_some_iff.1 hu).1
 simp only[World.cell?,hheap]
 have e:j*1+0=0+j:=by omega
 rw[e]at hu
 simpa [encS]using hu
theorem eQ(w:World)(c:Array Value)(T:TypeId)(j:Nat):(w.alloc (.cells c T)).cell? ⟨w.heap.size,j,none⟩=c[j]? :=by
 simp only[World.cell?,bx]
 rfl
theorem cw(b:Nat):∀(vs:List Value) (o:Nat) (w:World) (k:Nat),(w.cell? ⟨b,k,none⟩).isSome=true→((w.setCells b o vs).cell? ⟨b,k,none⟩).isSome=true
 | [],_,_,_,h=>h
 |v::r,o,w,k,h=>cw b r (o+1) (w.setCell ⟨b,o,none⟩ v) k (by
  by_cases e:o=k
  ·subst e;obtain⟨u,hu⟩:=Option.isSome_iff_exists.1 h;rw[World.cell?_setCell_same _ _ _ hu];rfl
  ·rw[World.cell?_setCell_other _ _ _ _ (by simpa using e)];exact h)
theorem fH{w:World}{b o:Nat}{v:Value}(hs:(w.cell? ⟨b,o,none⟩).isSome=true):(w.setCells b o [v]).cell? ⟨b,o,none⟩=some v:=by
 have:=World.cell?_setCells_in b [v] o w (fun j hj=>by simp at hj;subst hj;exact hs) 0 (by simp)
 simpa using this
theorem ga(l:List Bs)(t:Bs)(i:Nat)(hi:i≤l.length)(j:Nat)(x:Bs)(hx:(l.take i++t::l.drop i)[j]? =some x):
  (j<i∧l[j]? =some x)∨(j=i∧x=t)∨(i<j∧l[j-1]? =some x):=by
 rcases Nat.lt_trichotomy j i with h|h|h
 ·rw[List.getElem?_append_left (by simp;omega),List.getElem?_take_of_lt h]at hx
  exact .inl ⟨h,hx⟩
 ·subst h
  rw[List.getElem?_append_right (by rw[List.length_take];omega)]at hx
  have:j-(l.take j).length=0:=by rw[List.length_take];omega
  rw[this]at hx;simp at hx
  exact .inr (.inl ⟨rfl,hx.symm⟩)
 ·rw[List.getElem?_append_right (by simp;omega)]at hx
  have:j-(l.take i).length=(j-i-1)+1:=by rw[List.length_take];omega
  rw[this,List.getElem?_cons_succ,List.getElem?_drop]at hx
  refine .inr (.inr ⟨h,?_⟩)
  rw[← hx];congr 1;omega
variable (G:Nat→Option (List AVal))
theorem nP(l:List Bs)(t:Bs)(i v1 v2:Nat)(rm:Bool)(hi:i≤l.length)(hn:l≠ [])(hl:l.length≤100000)(h:Heap):
  Sat (CT G) 99 [.hs h.length v1 0 l.length true,.int .i64 i,.hs (h.length+1) v2 0 1 rm] (h++[Blk.row 9 1 v1 (l.map .str),.row 9 1 v2 [.str t]])
   (fun r h'=>r=.sl 1 ((l.take i++t::l.drop i).map .str)∧h'=h++[.dead,.row 9 1 v2 [.str t]]):=by
 intro B S μ w us fit rl
 obtain⟨hul,hur⟩:=rl
 match us,hul,hur with
 | [u0,u1,u2],_,hur=>
  have r0:Rep w S μ (.hs h.length v1 0 l.length true) u0:=hur 0 _ rfl
  have r1:Rep w S μ (.int .i64 i) u1:=hur 1 _ rfl
  have r2:Rep w S μ (.hs (h.length+1) v2 0 1 rm) u2:=hur 2 _ rfl
  obtain rfl:=r1.int_inv
  have hg0:getRow (h++[Blk.row 9 1 v1 (l.map .str),.row 9 1 v2 [.str t]]) h.length v1=some (9,1,l.map .str):=by simp[getRow]
  have hg2:getRow (h++[Blk.row 9 1 v1 (l.map .str),.row 9 1 v2 [.str t]]) (h.length+1) v2=some (9,1,[t].map .str):=by simp[getRow]
  obtain⟨m,b,cur,hm,hb,hheap,hsz,hle,hmax,h0,rfl,hc⟩:=g9 fit hn hg0 r0
  obtain⟨m2,b2,cur2,hm2,hb2,hheap2,hsz2,hle2,hmax2,h02,rfl,hc2⟩:=g9 fit (by simp) hg2 r2
  simp only[↓reduceIte]
  have hne:b2≠b:=fun e=>by have:=fit.sep _ _ m2 m b hm2 hm (by rw[hb2,e]) hb;omega
  have hset:(h++[Blk.row 9 1 v1 (l.map .str),.row 9 1 v2 [.str t]]).set h.length .dead=h++[.dead,.row 9 1 v2 [.str t]]:=by simp[List.set_append]
  have hil:(l.take i++t::l.drop i).length=l.length+1:=by simp;omega
  change OpOk Tryz.prog _ ((callFunc 99 #[_,_,_]).run Tryz.prog w)
  rw[bR (f:=99) Tryz.func99 rfl rfl]
  have fin:∀(w':World) (g cap:Nat),Only w w' (some b)→(g=b∨(w.heap.size≤g∧g<w'.heap.size))→l.length+1≤cap→cap≤maxLen→
    (∀j x,(l.take i++t::l.drop i)[j]? =some x→w'.cell? ⟨g,0+j,none⟩=some (encS x))→
    OpPost (CT G) B S μ w (fun r h'=>r=.sl 1 ((l.take i++t::l.drop i).map .str)∧h'=h++[.dead,.row 9 1 v2 [.str t]]) (.slice (some ⟨g,0,none⟩) (l.length+1) cap) w':=by
   intro w' g cap ho hg hcap hmx hcell
   obtain⟨S',μ',st,f',rp⟩:=i6 fit hm (by rw[hb];exact ho) (g:=g) (by rcases hg with rfl|hg;exact .inl hb;exact .inr hg) (by rw[hil];exact hcap) hmx hcell
   rw[hset]at f'
   rw[hil]at rp
   exact⟨_,_,S',μ',⟨rfl,rfl⟩,st,f',rp⟩
  have hcs:∀j v,(l.map encS)[j]? =some v→w.cell? ⟨b,0+j,none⟩=some v:=by
   intro j v hv
   rw[List.getElem?_map]at hv
   obtain⟨x,hx,rfl⟩:=Option.map_eq_some_iff.1 hv
   exact hc j x hx
  have hvs:∀j v,[encS t][j]? =some v→w.cell? ⟨b2,0+j,none⟩=some v:=by
   intro j v hv
   match j with
   |0=>simp at hv;subst hv;exact hc2 0 t rfl
   |j+1=>simp at hv
  have h1c:∀v∈l.map encS,v.oneCell'=true:=by intro v hv;obtain⟨x,_,rfl⟩:=List.mem_map.1 hv;rfl
  have h1v:∀v∈ [encS t],v.oneCell'=true:=by intro v hv;simp at hv;subst hv;rfl
  have there:∀k,k<m.cap→(w.cell? ⟨b,k,none⟩).isSome=true:=by
   intro k hk
   have:k<cur.size:=by omega
   simp[World.cell?,hheap,this]
  have mx:maxLen≤9223372036854775807:=by decide
  have hdr:(l.map encS).drop i=(l.drop i).map encS:=by rw[List.map_drop]
  by_cases hroom:l.length+1≤m.cap
  ·by_cases hil2:i=l.length
   ·subst hil2
    refine(Any2.slices_Insert_string_end_room Tryz.lays2_22 b 0 l.length m.cap b2 0 1 _ [encS t] w (by omega) hroom (by omega) rfl (fun j hj=>there _ (by omega)) (fun j hj=>by simp[World.frozen?,hheap]) hvs h1v).mono fun e w' ⟨he,hw⟩=>?_
    refine⟨_,he,fin w' b m.cap (by rw[hw];exact Only.setCells _ _ _ _) (.inl rfl) hroom hmax fun j x hx=>?_⟩
    rw[hw]
    rcases ga l t l.length (Nat.le_refl _) j x hx with⟨h1,h2⟩| ⟨rfl,rfl⟩| ⟨h1,h2⟩
    ·rw[World.cell?_setCells_out _ _ _ _ _ (fun _ _=>.inl (by simp;omega))];exact hc j x h2
    ·exact fH (there _ (by omega))
    ·have:=(List.getElem?_eq_some_iff.1 h2).1;omega
   ·refine(Any2.slices_Insert_string_shift Tryz.lays2_22 b 0 l.length m.cap i b2 0 1 _ (l.map encS) [encS t] w (by omega) (by omega) hroom (by omega) hne (by simp) rfl hcs (fun j hj=>there _ (by omega)) (fun j hj=>by simp[World.frozen?,hheap]) hvs h1c h1v
     9 9 cur2.size cur.size (by simp[World.shape?,hheap2]) (by simp[World.shape?,hheap]) (by omega) (by simp[World.frozen?,hheap2]) (by simp[World.frozen?,hheap2])).mono fun e w' ⟨he,hw⟩=>?_
    refine⟨_,he,fin w' b m.cap (by rw[hw];exact((Only.drew w _).trans (Only.setCells _ _ _ _)).trans (Only.setCells _ _ _ _)) (.inl rfl) hroom hmax fun j x hx=>?_⟩
    rw[hw]
    have th2:∀k,k<m.cap→((w.drew.setCells b (0+(i+1)) ((l.map encS).drop i)).cell? ⟨b,k,none⟩).isSome=true:=fun k hk=>cw b _ _ _ _ (there k hk)
    rcases ga l t i hi j x hx with⟨h1,h2⟩| ⟨rfl,rfl⟩| ⟨h1,h2⟩
    ·rw[World.cell?_setCells_out _ _ _ _ _ (fun _ _=>.inl (by simp;omega)),World.cell?_setCells_out _ _ _ _ _ (fun _ _=>.inl (by simp;omega))];exact hc j x h2
    ·exact fH (th2 _ (by omega))
    ·have hjl:=(List.getElem?_eq_some_iff.1 h2).1
     rw[World.cell?_setCells_out _ _ _ _ _ (fun _ _=>.inr (by simp;omega))]
     have:=World.cell?_setCells_in b ((l.map encS).drop i) (0+(i+1)) w.drew (fun k hk=>by
      have hk2:k<l.length-i:=by simpa using hk
      exact there _ (by omega)) (j-1-i) (by simp;omega)
     rw[show 0+(i+1)+(j-1-i)=0+j by omega]at this
     rw[this]
     have e2:i+(j-1-i)=j-1:=by omega
     simp only[List.getElem_drop,List.getElem_map,e2]
     rw[(List.getElem?_eq_some_iff.1 h2).2]
  ·have hcl:m.cap=l.length:=by omega
   have hcg:=grownCap_ge w (l.length+1) m.cap 9
   have hmx1:(100001:Nat)≤maxLen:=by decide
   have hcm:=grownCap_le_maxLen w (l.length+1) m.cap 9 (by omega)
   by_cases hil2:i=l.length
   ·subst hil2
    refine(Any2.slices_Insert_string_end_grow Tryz.lays2_22 (some ⟨b,0,none⟩) l.length m.cap b2 0 1 _ (l.map encS) [encS t] w (by omega) (by omega) (by omega) (by omega) (by simp) rfl (by simp)
     (fun a ha j v hv=>by cases ha;rw[aP];exact hcs j v hv) hvs h1v).mono fun e w' ⟨he,hw⟩=>?_
    refine⟨_,he,fin w' w.heap.size _ (by rw[hw];exact(Only.drew w _).trans (Only.alloc _ _ _)) (.inr ⟨Nat.le_refl _,by rw[hw];simp⟩) hcg hcm fun j x hx=>?_⟩
    rw[hw]
    refine(eQ w.drew _ _ _).trans ?_
    rw[Array.getElem?_append_left (by simp;have:=(List.getElem?_eq_some_iff.1 hx).1;rw[hil]at this;omega)]
    rcases ga l t l.length (Nat.le_refl _) j x hx with⟨h1,h2⟩| ⟨rfl,rfl⟩| ⟨h1,h2⟩
    ·rw[List.getElem?_toArray,List.getElem?_append_left (by simpa using by omega),List.getElem?_map,Nat.zero_add,h2];rfl
    ·rw[List.getElem?_toArray,List.getElem?_append_right (by simp)];simp
    ·have:=(List.getElem?_eq_some_iff.1 h2).1;omega
   ·refine(Any2.slices_Insert_string_grow Tryz.lays2_22 b 0 l.length m.cap i b2 0 1 _ (l.map encS) [encS t] w (by omega) (by omega) (by omega) (by omega) (by omega) (by simp) rfl hcs hvs h1c h1v).mono fun e w' ⟨he,hw⟩=>?_
    rw[show Tryz.lays2_22_ren.t 9=9 from rfl]at hw
    generalize hw1:w.alloc (.cells (((l.map encS).take i).toArray++Builtin.zeroCells (Value.string ⟨#[]⟩).cells (l.length+1-i)++Builtin.zeroCells (Value.string ⟨#[]⟩).cells (grownCap w (l.length+1) m.cap 9-(l.length+1))) 9)=w1 at hw
    have hsz1:w1.heap.size=w.heap.size+1:=by rw[← hw1];simp
    have ho1:Only w w1 (some b):=by rw[← hw1];exact Only.alloc _ _ _
    have hw':w'=((w1.drew.setCells w.heap.size i [encS t]).drew).setCells w.heap.size (i+1) ((l.map encS).drop i):=hw
    have ho2:Only w1 w' (some w.heap.size):=by rw[hw'];exact(((Only.drew _ _).trans (Only.setCells _ _ _ _)).trans (Only.drew _ _)).trans (Only.setCells _ _ _ _)
    have hc1:∀k,w1.cell? ⟨w.heap.size,k,none⟩=(((l.map encS).take i).toArray++Builtin.zeroCells (Value.string ⟨#[]⟩).cells (l.length+1-i)++Builtin.zeroCells (Value.string ⟨#[]⟩).cells (grownCap w (l.length+1) m.cap 9-(l.length+1)))[k]? :=by
     intro k;rw[← hw1];exact eQ _ _ _ _
    have th1:∀k,k<l.length+1→(w1.cell? ⟨w.heap.size,k,none⟩).isSome=true:=by
     intro k hk
     rw[hc1,Array.getElem?_eq_getElem (by simp[size_zeroCells,Value.cells];omega)];rfl
    have th2:∀k,k<l.length+1→((w1.drew.setCells w.heap.size i [encS t]).drew.cell? ⟨w.heap.size,k,none⟩).isSome=true:=fun k hk=>cw _ _ _ w1.drew _ (th1 k hk)
    refine⟨_,he,fin w' w.heap.size _ (Only.into ho1 ho2 (Nat.le_refl _)) (.inr ⟨Nat.le_refl _,by have:=ho2.size;omega⟩) hcg hcm fun j x hx=>?_⟩
    rw[hw']
    rcases ga l t i hi j x hx with⟨h1,h2⟩| ⟨rfl,rfl⟩| ⟨h1,h2⟩
    ·rw[World.cell?_setCells_out _ _ _ _ _ (fun _ _=>.inl (by simp;omega))]
     refine(World.cell?_setCells_out _ _ _ w1.drew _ (fun _ _=>.inl (by simp;omega))).trans ?_
     refine(hc1 _).trans ?_
     rw[Array.getElem?_append_left (by simp;omega),Array.getElem?_append_left (by simp;omega),List.getElem?_toArray,Nat.zero_add,List.getElem?_take_of_lt h1,List.getElem?_map,h2];rfl
    ·rw[World.cell?_setCells_out _ _ _ _ _ (fun _ _=>.inl (by simp))]
     have:=fH (w:=w1.drew) (b:=w.heap.size) (o:=j) (v:=encS x) (th1 j (by omega))
     simpa using this
    ·have hjl:=(List.getElem?_eq_some_iff.1 h2).1
     have:=World.cell?_setCells_in w.heap.size ((l.map encS).drop i) (i+1) (w1.drew.setCells w.heap.size i [encS t]).drew (fun k hk=>by
      have hk2:k<l.length-i:=by simpa using hk
      exact th2 _ (by omega)) (j-1-i) (by simp;omega)
     rw[show i+1+(j-1-i)=0+j by omega]at this
     rw[this]
     have e2:i+(j-1-i)=j-1:=by omega
     simp only[List.getElem_drop,List.getElem_map,e2]
     rw[(List.getElem?_eq_some_iff.1 h2).2]
theorem lR(a:AVal)(ha:a=.ez∨a=.nil (.slice none 0 0))(t:Bs)(v2:Nat)(rm:Bool)(h:Heap):
  Sat (CT G) 99 [a,.int .i64 0,.hs h.length v2 0 1 rm] (h++[Blk.row 9 1 v2 [.str t]]) (fun r h'=>r=.sl 1 [.str t]∧h'=h++[.dead]):=by
 intro B S μ w us fit rl
 obtain⟨hul,hur⟩:=rl
 match us,hul,hur with
 | [u0,u1,u2],_,hur=>
  have r0:Rep w S μ a u0:=hur 0 _ rfl
  have r1:Rep w S μ (.int .i64 0) u1:=hur 1 _ rfl
  have r2:Rep w S μ (.hs h.length v2 0 1 rm) u2:=hur 2 _ rfl
  obtain rfl:=r1.int_inv
  have hg2:getRow (h++[Blk.row 9 1 v2 [.str t]]) h.length v2=some (9,1,[t].map .str):=by simp[getRow]
  obtain⟨m2,b2,cur2,hm2,hb2,hheap2,hsz2,hle2,hmax2,h02,rfl,hc2⟩:=g9 fit (by simp) hg2 r2
  have hset:(h++[Blk.row 9 1 v2 [.str t]]).set h.length .dead=h++[.dead]:=by simp[List.set_append]
  obtain⟨base,rfl⟩:∃base,u0=.slice base 0 0:=by
   rcases ha with rfl|rfl
   ·cases r0 with|ez a=>exact⟨_,rfl⟩
   ·exact⟨none,r0.nil_inv⟩
  change OpOk Tryz.prog _ ((callFunc 99 #[_,_,_]).run Tryz.prog w)
  rw[bR (f:=99) Tryz.func99 rfl rfl]
  have hvs:∀j v,[encS t][j]? =some v→w.cell? ⟨b2,0+j,none⟩=some v:=by
   intro j v hv
   match j with
   |0=>simp at hv;subst hv;exact hc2 0 t rfl
   |j+1=>simp at hv
  have h1v:∀v∈ [encS t],v.oneCell'=true:=by intro v hv;simp at hv;subst hv;rfl
  have hcg:=grownCap_ge w (0+1) 0 9
  have hcm:=grownCap_le_maxLen w (0+1) 0 9 (by decide)
  refine(Any2.slices_Insert_string_end_grow Tryz.lays2_22 base 0 0 b2 0 1 _ [] [encS t] w (by omega) (by omega) (by omega) (by omega) rfl rfl (fun _=>rfl)
   (fun a ha j v hv=>by simp at hv) hvs h1v).mono fun e w' ⟨he,hw⟩=>?_
  obtain⟨S',μ',st,f',rp⟩:=i6 (ls:=[t]) (off:=0) (cap:=grownCap w (0+1) 0 9) (w':=w') fit hm2 (by rw[hw];exact(Only.drew w _).trans (Only.alloc _ _ _)) (g:=w.heap.size) (.inr ⟨Nat.le_refl _,by rw[hw];simp⟩) hcg hcm (fun j x hx=>by
   rw[hw]
   refine(eQ w.drew _ _ _).trans ?_
   match j with
   |0=>simp at hx;subst hx;rw[Array.getElem?_append_left (by simp)];rfl
   |j+1=>simp at hx)
  rw[hset]at f'
  exact⟨_,he,_,_,S',μ',⟨rfl,rfl⟩,st,f',rp⟩
theorem nQ(l:List Bs)(i v1:Nat)(hi:i<l.length)(hl:l.length≤100000)(h:Heap):
  Sat (CT G) 100 [.hs h.length v1 0 l.length true,.int .i64 i,.int .i64 (i+1)] (h++[Blk.row 9 1 v1 (l.map .str)])
   (fun r h'=>r=.sl 1 ((l.take i++l.drop (i+1)).map .str)∧h'=h++[.dead]):=by
 intro B S μ w us fit rl
 obtain⟨hul,hur⟩:=rl
 match us,hul,hur with
 | [u0,u1,u2],_,hur=>
  have r0:Rep w S μ (.hs h.length v1 0 l.length true) u0:=hur 0 _ rfl
  have r1:Rep w S μ (.int .i64 i) u1:=hur 1 _ rfl
  have r2:Rep w S μ (.int .i64 (i+1)) u2:=hur 2 _ rfl
  obtain rfl:=r1.int_inv
  obtain rfl:=r2.int_inv
  have hn:l≠ []:=by rintro rfl;simp at hi
  have hg0:getRow (h++[Blk.row 9 1 v1 (l.map .str)]) h.length v1=some (9,1,l.map .str):=by simp[getRow]
  obtain⟨m,b,cur,hm,hb,hheap,hsz,hle,hmax,h0,rfl,hc⟩:=g9 fit hn hg0 r0
  simp only[↓reduceIte]
  have hset:(h++[Blk.row 9 1 v1 (l.map .str)]).set h.length .dead=h++[.dead]:=by simp[List.set_append]
  have mx:maxLen≤9223372036854775807:=by decide
  change OpOk Tryz.prog _ ((callFunc 100 #[_,_,_]).run Tryz.prog w)
  rw[bR (f:=100) Tryz.func100 rfl rfl]
  have hH:Go.Sort.Holds Go.Proofs.encStr w b 0 l.toArray:=by
   intro j hj
   have hj':j<l.length:=by simpa using hj
   refine⟨?_,by simp[World.frozen?,hheap]⟩
   rw[hc j l[j] (List.getElem?_eq_getElem hj')]
   simp[encS,Go.Proofs.encStr,hj']
  have hlen:(l.take i++l.drop (i+1)++List.replicate (i+1-i) ([]:List UInt8)).length=l.length:=by simp;omega
  refine(Tryz.slices_Delete_string b 0 m.cap i (i+1) l w hH hle (by omega) (by omega) (by omega)).mono fun e w' ⟨he,q,hw⟩=>?_
  obtain⟨S',μ',st,f',rp⟩:=i6 (ls:=l.take i++l.drop (i+1)) (off:=0) (cap:=m.cap) (w':=w') fit hm (by rw[hw,hb];exact Only.trans (b:=Go.Sort.ahead w q) ⟨rfl,rfl,rfl,Nat.le_refl _,fun _ _ _=>rfl⟩ (Only.putRow _ _ _ _ _)) (g:=b) (.inl hb) (by simp;omega) hmax (fun j x hx=>by
   rw[hw]
   have hjl:=(List.getElem?_eq_some_iff.1 hx).1
   have hH2:Go.Sort.Holds Go.Proofs.encStr (Go.Sort.ahead w q) b 0 l.toArray:=hH
   rw[Go.Sort.cell?_putRow _ _ _ _ l.toArray _ hH2 (by simpa using hlen) j (by rw[List.size_toArray,List.length_append];omega)]
   have hx2:(l.take i++l.drop (i+1)++List.replicate (i+1-i) ([]:List UInt8))[j]? =some x:=by rw[List.getElem?_append_left hjl];exact hx
   have:(l.take i++l.drop (i+1)++List.replicate (i+1-i) ([]:List UInt8)).toArray[j]! =x:=by
    rw[getElem!_def,List.getElem?_toArray,hx2]
   rw[this];rfl)
  rw[hset]at f'
  have hl2:(l.take i++l.drop (i+1)).length=l.length-(i+1-i):=by simp;omega
  rw[hl2]at rp
  exact⟨_,he,_,_,S',μ',⟨rfl,rfl⟩,st,f',rp⟩
end Go.Av
namespace Go.Av
open Go Go.Proofs Go.RowKit
attribute [local irreducible] WP WPl WPix Sat
variable (G:Nat→Option (List AVal))
theorem dX(h:Heap):Sat (CT G) 94 [.sl 1 []] h (fun r h'=>(r=.ez∨r=.nil (.slice none 0 0))∧h'=h):=by
 refine sb [.tmp 2] (fn:=Tryz.f94) Tryz.func94 ?_
 intro Q hQ
 refine wk trivial ?_
 refine iq _ (by exact zq trivial) (.inl rfl) fun b=>?_
 cases b
 ·try refine sq trivial ?_
  refine wk trivial ?_
  refine fV (.inl rfl) (by simp(disch:=first|omega| (simp only[go_sem, ↓reduceIte,seval];first|done|omega)|fail) only[go_sem, ↓reduceIte,seval];rfl) (by simp(disch:=first|omega| (simp only[go_sem, ↓reduceIte,seval];first|done|omega)|fail) only[go_sem, ↓reduceIte,seval];rfl) (by simp(disch:=first|omega| (simp only[go_sem, ↓reduceIte,seval];first|done|omega)|fail) only[go_sem, ↓reduceIte,seval];rfl) (by simp(disch:=first|omega| (simp only[go_sem, ↓reduceIte,seval];first|done|omega)|fail) only[go_sem, ↓reduceIte,seval];try rfl) (by omega) (by simp only[elemsOf, ↓reduceIte];try rfl) (by simp) (fun _=>?_) (fun h=>absurd rfl h)
  try refine sq trivial ?_
  refine wk trivial ?_
  refine ee hQ trivial ?_
  exact Fin.same .ez ⟨.inl rfl,rfl⟩
 ·try refine sq trivial ?_
  refine wk trivial ?_
  refine ee hQ trivial ?_
  exact Fin.same (.nil _) ⟨.inr rfl,rfl⟩
theorem nR(l:List Bs)(hn:l≠ [])(hl:l.length≤1048576)(h:Heap):Sat (CT G) 94 [.sl 1 (l.map .str)] h (fun r h'=>r=.hs h.length 0 0 l.length true∧h'=h++[Blk.row 9 1 0 (l.map .str)]):=by
 obtain⟨a,l,rfl⟩:∃a k,l=a::k:=by
  cases l with
  |nil=>exact absurd rfl hn
  |cons a k=>exact⟨a,k,rfl⟩
 have hr:(List.map AVal.str (a::l))≠ []:=by simp
 refine sb [.tmp 2] (fn:=Tryz.f94) Tryz.func94 ?_
 intro Q hQ
 refine wk trivial ?_
 refine fV (.inl rfl) (by simp(disch:=first|omega| (simp only[go_sem, ↓reduceIte,seval];first|done|omega)|fail) only[go_sem, ↓reduceIte,seval];rfl) (by simp(disch:=first|omega| (simp only[go_sem, ↓reduceIte,seval];first|done|omega)|fail) only[go_sem, ↓reduceIte,seval];rfl) (by simp(disch:=first|omega| (simp only[go_sem, ↓reduceIte,seval];first|done|omega)|fail) only[go_sem, ↓reduceIte,seval];rfl) (by simp(disch:=first|omega| (simp only[go_sem, ↓reduceIte,seval];first|done|omega)|fail) only[go_sem, ↓reduceIte,seval];try rfl) (by omega) (by simp only[elemsOf, ↓reduceIte];try rfl) ?_ (fun h=>by simp at h) (fun _=>?_)
 ·simp[maxLen]at hl ⊢;omega
 try refine sq trivial ?_
 refine wk trivial ?_
 refine ee hQ trivial ?_
 exact Fin.whole (by simp) (.hs _ _ _ _ _ (by simp)) ⟨rfl,rfl⟩
section
variable {H:Heap} {n:Nat} {s:PS}
theorem nS(hn:n+9≤H.length)(x:Blk)(a:AVal)(ha:a=.ez∨a=.nil (.slice none 0 0))(t:Bs):Sat (CT G) 99 [a,.int .i64 0,.hs (H.length+1) 0 0 1 true] (so (H++[x,Blk.row 9 1 0 [.str t]]) n s)
  (fun r h'=>r=.sl 1 [.str t]∧h'=so (H++[x,.dead]) n s):=by
 have c:=lR G a ha t 0 true (so (H++[x]) n s)
 have hn1:n+9≤(H++[x]).length:=by simp;omega
 rw[aJ hn1,b8 hn1,b8 hn1]at c
 simpa using c
theorem p4(hn:n+9≤H.length)(x:Blk)(l:List Bs)(t:Bs)(hl0:l≠ [])(hl:l.length≤100000):Sat (CT G) 99 [.hs (H.length+1) 0 0 l.length true,.int .i64 (lbF l t),.hs (H.length+2) 0 0 1 true] (so (H++[x,Blk.row 9 1 0 (l.map .str),Blk.row 9 1 0 [.str t]]) n s)
  (fun r h'=>r=.sl 1 ((l.take (lbF l t)++t::l.drop (lbF l t)).map .str)∧h'=so (H++[x,.dead,Blk.row 9 1 0 [.str t]]) n s):=by
 have c:=nP G l t (lbF l t) 0 0 true (l5 l t) hl0 hl (so (H++[x]) n s)
 have hn1:n+9≤(H++[x]).length:=by simp;omega
 rw[aJ hn1,b8 hn1,b8 hn1]at c
 simpa using c
theorem p5(hn:n+9≤H.length)(x:Blk)(l:List Bs)(i:Nat)(hi:i<l.length)(hl:l.length≤100000):Sat (CT G) 100 [.hs (H.length+1) 0 0 l.length true,.int .i64 i,.int .i64 (i+1)] (so (H++[x,Blk.row 9 1 0 (l.map .str)]) n s)
  (fun r h'=>r=.sl 1 ((l.take i++l.drop (i+1)).map .str)∧h'=so (H++[x,.dead]) n s):=by
 have c:=nQ G l i 0 hi hl (so (H++[x]) n s)
 have hn1:n+9≤(H++[x]).length:=by simp;omega
 rw[aJ hn1,b8 hn1,b8 hn1]at c
 simpa using c
theorem bk{s':PS}{j:Heap}{R:AVal→Heap→Prop}{r0 r:AVal}(hn:n+9≤H.length)(hz:Frz (so (H++j) n s') H.length r0 r)(hR:R r (so H n s')):Fin (so H n s) (so (H++j) n s') R r0:=eu hn rfl (PS.clo hn s') hz hR
theorem iR(hn:n+9≤H.length)(x:Blk)(l:List Bs):Frz (so (H++[x,Blk.row 9 1 0 (l.map .str)]) n s) H.length (.hs (H.length+1) 0 0 l.length true) (.sl 1 (l.map .str)):=by
 have hg:getRow (so (H++[x,Blk.row 9 1 0 (l.map .str)]) n s) (H.length+1) 0=some (9,1,l.map .str):=by
  rw[bi (by simp;omega) 0 (by omega)];simp[getRow]
 have:=Frz.data (n:=H.length) (len:=l.length) (room:=true) (by omega) hg (by simp) (fun r hr=>by obtain⟨a,_,rfl⟩:=List.mem_map.1 hr;exact .str _) (fun r hr c hc=>by obtain⟨a,_,rfl⟩:=List.mem_map.1 hr;simp[AVal.cells]at hc;subst hc;rfl)
 simpa using this
theorem bT(hn:n+9≤H.length)(x:Blk)(l:List Bs)(hl0:l≠ [])(hl:l.length≤1048576):Sat (CT G) 94 [.sl 1 (l.map .str)] (so (H++[x]) n s)
  (fun r h'=>r=.hs (H.length+1) 0 0 l.length true∧h'=so (H++[x,Blk.row 9 1 0 (l.map .str)]) n s):=by
 have c:=nR G l hl0 hl (so (H++[x]) n s)
 have hn1:n+9≤(H++[x]).length:=by simp;omega
 rw[aJ hn1,b8 hn1]at c
 simpa using c
end
theorem jI(s:PS)(id:Int)(t:Bs)(hs:Srt ((lkM s.it id).getD It.z).tags)(hl:((lkM s.it id).getD It.z).tags.length≤100000){H:Heap}{n:Nat}(hn:n+9≤H.length):Sat (CT G) 98 [.hp (n+8) 0 0 0,.int .i64 id,.str t] (so H n s) (fun r h'=>r=.tup [.int .i64 (lbF ((lkM s.it id).getD It.z).tags t),.bool (decide (t∈ ((lkM s.it id).getD It.z).tags))]∧h'=so H n s):=by
 refine sb [.tmp 6,.tmp 7] (fn:=Tryz.f98) Tryz.func98 ?_
 intro Q hQ
 refine wk trivial ?_
 refine kq trivial (jU G _ t hs hl _) ?_
 refine ye hQ trivial ?_
 exact bj hn (.tup _ (fun x hx=>by simp only[List.mem_cons,List.not_mem_nil,or_false]at hx;rcases hx with rfl|rfl;exact .int _ _;exact .bool _)) ⟨rfl,rfl⟩
def tgF(l:List Bs)(t:Bs)(n:Int):List Bs:=
 if n=1∧t ∉ l then l.take (lbF l t)++t::l.drop (lbF l t)else if n=0∧t∈l then l.take (lbF l t)++l.drop (lbF l t+1)else l
theorem l6(s:PS)(e:Ev)(hs:Srt ((lkM s.it e.a).getD It.z).tags)(hl:((lkM s.it e.a).getD It.z).tags.length≤100000){H:Heap}{n:Nat}(hn:n+9≤H.length):Sat (CT G) 60 [.hp (n+8) 0 0 0,e.av] (so H n s) (fun r h'=>r=.sl 1 ((tgF ((lkM s.it e.a).getD It.z).tags e.s e.n).map .str)∧h'=so H n s):=by
 have hT:=fun(H:Heap) (hn:n+9≤H.length)=>jI G s e.a e.s hs hl (n:=n) hn
 have hn1:∀x:Blk,n+9≤(H++[x]).length:=fun x=>by simp;omega
 generalize hg:((lkM s.it e.a).getD It.z).tags=l at hs hl hT ⊢
 by_cases hn0:l=[]
 ·subst hn0
  have ht:lbF [] e.s=0:=rfl
  have hd:decide (e.s∈ ([]:List Bs))=false:=by simp
  rw[ht,hd]at hT
  by_cases k1:e.n=1
  ·have F:=k1
   skip
   refine sb [.tmp 4] (fn:=Tryz.f60) Tryz.func60 ?_
   intro Q hQ
   refine wn F ?_
   refine aX 8 0 _ (by rfl) (by decide+kernel) (by kernel_rfl) (by decide+kernel) (by decide+kernel) (by decide+kernel) ?_
   simp only[List.take_succ_cons,List.take_zero]
   refine sq F ?_
   refine wn F ?_
   rw[hg]
   refine(dX G _).mono ?_
   rintro r h' ⟨hr,rfl⟩
   simp(disch:=first|omega| (simp only[go_sem, ↓reduceIte,seval];first|done|omega)|fail) only[go_sem, ↓reduceIte,seval,F]
   skip
   refine wk F ?_
   skip
   refine kx F (hT _ (by first|omega| (simp;omega))) ?_
   refine kx F (nS G hn _ r hr e.s) ?_
   skip
   refine ee hQ F ?_
   exact af hn (.sl _ _ (by simp;exact .str _)) ⟨by simp[tgF,k1],rfl⟩
  ·by_cases k0:e.n=0
   ·have F:=k0
    skip
    refine sb [.tmp 4] (fn:=Tryz.f60) Tryz.func60 ?_
    intro Q hQ
    refine wn F ?_
    refine aX 8 0 _ (by rfl) (by decide+kernel) (by kernel_rfl) (by decide+kernel) (by decide+kernel) (by decide+kernel) ?_
    simp only[List.take_succ_cons,List.take_zero]
    refine sq F ?_
    refine wn F ?_
    rw[hg]
    refine(dX G _).mono ?_
    rintro r h' ⟨hr,rfl⟩
    simp(disch:=first|omega| (simp only[go_sem, ↓reduceIte,seval];first|done|omega)|fail) only[go_sem, ↓reduceIte,seval,F]
    skip
    refine wk F ?_
    refine kq F (hT _ (by first|omega| (simp;omega))) ?_
    refine ee hQ F ?_
    refine bk (r:=.sl 1 []) hn ?_ ⟨by simp[tgF,k0,k1],rfl⟩
    rcases hr with rfl|rfl
    ·exact .ezs _
    ·exact .nils _
   ·have n1:(e.n==1)=false:=by simp[k1]
    have n0:(e.n==0)=false:=by simp[k0]
    have F:=F2 n1 n0
    skip
    refine sb [.tmp 4] (fn:=Tryz.f60) Tryz.func60 ?_
    intro Q hQ
    refine wn F ?_
    refine aX 8 0 _ (by rfl) (by decide+kernel) (by kernel_rfl) (by decide+kernel) (by decide+kernel) (by decide+kernel) ?_
    simp only[List.take_succ_cons,List.take_zero]
    refine sq F ?_
    refine wn F ?_
    rw[hg]
    refine(dX G _).mono ?_
    rintro r h' ⟨hr,rfl⟩
    simp(disch:=first|omega| (simp only[go_sem, ↓reduceIte,seval];first|done|omega)|fail) only[go_sem, ↓reduceIte,seval,F]
    skip
    refine wk F ?_
    refine kq F (hT _ (by first|omega| (simp;omega))) ?_
    refine ee hQ F ?_
    refine bk (r:=.sl 1 []) hn ?_ ⟨by simp[tgF,k0,k1],rfl⟩
    rcases hr with rfl|rfl
    ·exact .ezs _
    ·exact .nils _
 ·by_cases km:e.s∈l
  ·have hd:decide (e.s∈l)=true:=by simp[km]
   rw[hd]at hT
   have hlt:lbF l e.s<l.length:=(List.getElem?_eq_some_iff.1 (mt hs km)).1
   by_cases k0:e.n=0
   ·have F:=k0
    skip
    refine sb [.tmp 4] (fn:=Tryz.f60) Tryz.func60 ?_
    intro Q hQ
    refine wn F ?_
    refine aX 8 0 _ (by rfl) (by decide+kernel) (by kernel_rfl) (by decide+kernel) (by decide+kernel) (by decide+kernel) ?_
    simp only[List.take_succ_cons,List.take_zero]
    refine sq F ?_
    refine wn F ?_
    rw[hg]
    refine(bT G hn _ l hn0 (by omega)).mono ?_
    rintro r h' ⟨rfl,rfl⟩
    try refine sq F ?_
    skip
    refine wk F ?_
    refine kq F (hT _ (by first|omega| (simp;omega))) ?_
    refine kq F (p5 G hn _ l (lbF l e.s) hlt hl) ?_
    refine ee hQ F ?_
    exact af hn (gZ _ _) ⟨by simp[tgF,k0,km],rfl⟩
   ·by_cases k1:e.n=1
    ·have F:=k1
     skip
     refine sb [.tmp 4] (fn:=Tryz.f60) Tryz.func60 ?_
     intro Q hQ
     refine wn F ?_
     refine aX 8 0 _ (by rfl) (by decide+kernel) (by kernel_rfl) (by decide+kernel) (by decide+kernel) (by decide+kernel) ?_
     simp only[List.take_succ_cons,List.take_zero]
     refine sq F ?_
     refine wn F ?_
     rw[hg]
     refine(bT G hn _ l hn0 (by omega)).mono ?_
     rintro r h' ⟨rfl,rfl⟩
     try refine sq F ?_
     skip
     refine wk F ?_
     refine kq F (hT _ (by first|omega| (simp;omega))) ?_
     refine ee hQ F ?_
     exact bk hn (iR hn _ l) ⟨by simp[tgF,k1,km],rfl⟩
    ·have n1:(e.n==1)=false:=by simp[k1]
     have n0:(e.n==0)=false:=by simp[k0]
     have F:=F2 n1 n0
     skip
     refine sb [.tmp 4] (fn:=Tryz.f60) Tryz.func60 ?_
     intro Q hQ
     refine wn F ?_
     refine aX 8 0 _ (by rfl) (by decide+kernel) (by kernel_rfl) (by decide+kernel) (by decide+kernel) (by decide+kernel) ?_
     simp only[List.take_succ_cons,List.take_zero]
     refine sq F ?_
     refine wn F ?_
     rw[hg]
     refine(bT G hn _ l hn0 (by omega)).mono ?_
     rintro r h' ⟨rfl,rfl⟩
     try refine sq F ?_
     skip
     refine wk F ?_
     refine kq F (hT _ (by first|omega| (simp;omega))) ?_
     refine ee hQ F ?_
     exact bk hn (iR hn _ l) ⟨by simp[tgF,k1,k0,km],rfl⟩
  ·have hd:decide (e.s∈l)=false:=by simp[km]
   rw[hd]at hT
   by_cases k1:e.n=1
   ·have F:=k1
    skip
    refine sb [.tmp 4] (fn:=Tryz.f60) Tryz.func60 ?_
    intro Q hQ
    refine wn F ?_
    refine aX 8 0 _ (by rfl) (by decide+kernel) (by kernel_rfl) (by decide+kernel) (by decide+kernel) (by decide+kernel) ?_
    simp only[List.take_succ_cons,List.take_zero]
    refine sq F ?_
    refine wn F ?_
    rw[hg]
    refine(bT G hn _ l hn0 (by omega)).mono ?_
    rintro r h' ⟨rfl,rfl⟩
    try refine sq F ?_
    skip
    refine wk F ?_
    skip
    refine kx F (hT _ (by first|omega| (simp;omega))) ?_
    refine kx F (p4 G hn _ l e.s hn0 hl) ?_
    skip
    refine ee hQ F ?_
    exact af hn (gZ _ _) ⟨by simp[tgF,k1,km],rfl⟩
   ·by_cases k0:e.n=0
    ·have F:=k0
     skip
     refine sb [.tmp 4] (fn:=Tryz.f60) Tryz.func60 ?_
     intro Q hQ
     refine wn F ?_
     refine aX 8 0 _ (by rfl) (by decide+kernel) (by kernel_rfl) (by decide+kernel) (by decide+kernel) (by decide+kernel) ?_
     simp only[List.take_succ_cons,List.take_zero]
     refine sq F ?_
     refine wn F ?_
     rw[hg]
     refine(bT G hn _ l hn0 (by omega)).mono ?_
     rintro r h' ⟨rfl,rfl⟩
     try refine sq F ?_
     skip
     refine wk F ?_
     refine kq F (hT _ (by first|omega| (simp;omega))) ?_
     refine ee hQ F ?_
     exact bk hn (iR hn _ l) ⟨by simp[tgF,k0,km],rfl⟩
    ·have n1:(e.n==1)=false:=by simp[k1]
     have n0:(e.n==0)=false:=by simp[k0]
     have F:=F2 n1 n0
     skip
     refine sb [.tmp 4] (fn:=Tryz.f60) Tryz.func60 ?_
     intro Q hQ
     refine wn F ?_
     refine aX 8 0 _ (by rfl) (by decide+kernel) (by kernel_rfl) (by decide+kernel) (by decide+kernel) (by decide+kernel) ?_
     simp only[List.take_succ_cons,List.take_zero]
     refine sq F ?_
     refine wn F ?_
     rw[hg]
     refine(bT G hn _ l hn0 (by omega)).mono ?_
     rintro r h' ⟨rfl,rfl⟩
     try refine sq F ?_
     skip
     refine wk F ?_
     refine kq F (hT _ (by first|omega| (simp;omega))) ?_
     refine ee hQ F ?_
     exact bk hn (iR hn _ l) ⟨by simp[tgF,k1,k0,km],rfl⟩
end Go.Av
