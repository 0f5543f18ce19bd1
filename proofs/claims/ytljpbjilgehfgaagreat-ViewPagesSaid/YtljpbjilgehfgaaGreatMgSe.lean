/- The program's state: what an event makes. -/
import Derived.Test.YtljpbjilgehfgaaGreatMgIter
import Derived.Test.YtljpbjilgehfgaaGreatMgXf
set_option linter.unusedSimpArgs false
set_option linter.unusedVariables false
set_option linter.unusedSectionVars false
set_option linter.unnecessarySimpa false
set_option maxRecDepth 100000
set_option maxHeartbeats 16000000
namespace Go.Av
open Go Go.Proofs Go.RowKit
section
variable {C:Ctx} {B:Nat} {S:Addr→Prop} {μ:Map} {h:Heap} {w w':World} {α:Type}
theorem tw{av:α→AVal}{enc:α→Value}(hc:∀a,(av a).cells=[av a])(hs:∀a,(av a).sto=true)(hr:∀(w:World) (S:Addr→Prop) (μ:Map) (a:α),Rep w S μ (av a) (enc a))
  (f:Fits C B S μ h w){e:TypeId}{v:Value}{ls:List α}(ho:w'.ownsRow w.heap.size e 1 v ls.length (ls.map enc))(hb:Below w.heap.size w w'):
  ∃S',Fits C B S' μ h w'∧Step B S μ w S' μ w'∧Rep w' S' μ (.sl 1 (ls.map av)) v:=by
 obtain⟨f',st⟩:=f.grown hb
 obtain⟨_,ho⟩:=ho
 rcases ho with⟨rfl,h0⟩| ⟨g,cap,cur,rfl,hg,hheap,hn,hm,hsz,htk⟩
 ·have:ls=[]:=List.length_eq_zero_iff.1 h0
  subst this
  exact⟨S,f',st,.sl0 1 none 0⟩
 ·by_cases hl:ls=[]
  ·subst hl;exact⟨S,f',st,.sl0 1 _ cap⟩
  have hgl:g<w'.heap.size:=(Array.getElem?_eq_some_iff.1 hheap).1
  let S':Addr→Prop:=fun a=>S a∨a.block=g
  have st2:Step B S μ w' S' μ w':=⟨fun a ha=>.inl ha,fun _ _=>rfl,Below.refl _ _,MapLe.refl _,fun a ha=>ha.elim .inl fun e=>.inr (by rw[e];exact Nat.le_trans f.base hg)⟩
  have f2:Fits C B S' μ h w':=⟨fun g' cs hg'=>(f'.glob g' cs hg').mono st2,f'.len,f'.sep,fun p m b h1 e1=>by
    obtain⟨a1,a2,a3⟩:=f'.own p m b h1 e1
    have:=(f.own p m b h1 e1).2.1
    exact⟨a1,a2,fun a ha=>ha.elim (a3 a) fun e=>by omega⟩,f'.base,fun a ha=>ha.elim (f'.lie a) fun e=>by rw[e];exact hgl,
   fun p m k h1 h2=>(f'.blk p m k h1 h2).mono st2 fun _ _=>rfl⟩
  have hget:∀i,cur[0+(i*1+0)]? =cur[i]? :=fun i=>by congr 1;omega
  refine⟨S',f2,st.trans st2,?_⟩
  have hlen:(ls.map av).length=ls.length:=List.length_map ..
  rw[← hlen]
  refine .sl 1 (ls.map av) g 0 cap (fun i _=>cur[i]?.getD undef) (by simpa using hl) (by omega) hm (fun i x hx=>?_) (fun i x j c hx hj=>?_) (fun i x j c hx hj=>?_)
  ·obtain⟨a,_,rfl⟩:=List.mem_map.1 (List.mem_of_getElem? hx);rw[hc];rfl
  ·obtain⟨a,_,rfl⟩:=List.mem_map.1 (List.mem_of_getElem? hx)
   rw[hc]at hj
   match j with
   |0=>
    simp at hj;subst hj
    have hi:i<ls.length:=by have:=(List.getElem?_eq_some_iff.1 hx).1;omega
    have hi2:i<cur.size:=by omega
    refine⟨.inr rfl,?_,hs a⟩
    simp only[World.cell?,hheap]
    simp[hi2]
   |j+1=>simp at hj
  ·rw[List.getElem?_map]at hx
   obtain⟨a,ha,rfl⟩:=Option.map_eq_some_iff.1 hx
   rw[hc]at hj
   match j with
   |0=>
    simp at hj;subst hj
    have hi:i<ls.length:=(List.getElem?_eq_some_iff.1 ha).1
    have:cur[i]? =some (enc a):=by
     have h1:(cur.toList.take (ls.length*1))[i]? =some (enc a):=by rw[htk,List.getElem?_map,ha];rfl
     rw[List.getElem?_take_of_lt (by omega)]at h1
     simpa using h1
    rw[this]
    exact hr _ _ _ a
   |j+1=>simp at hj
theorem bw{P:Program}{f:FuncId}{fn:Func}(hf:P.funcs[f]? =some fn)(hb:fn.body.isNone=false)(hname:(fn.name== "runtime.NumGoroutine")=false)(us:Array Value)(w:World):(callFunc f us).run P w=.ok (.enter f us) w:=by
 have hne:fn.name≠ "runtime.NumGoroutine" :=by simpa using hname
 obtain⟨c,hbc⟩:∃c,fn.body=some c:=by cases hq:fn.body with|none=>simp[hq]at hb|some c=>exact⟨c,rfl⟩
 simp[callFunc,hf,hne,hbc]
end
def noR:Value→Option (DataW Unit×List MemPlace):=fun _=>some (.nil,[])
def kI(n:Int):Lit:=.int .i64 n
theorem nl(x:Lit×DataW Unit)(l:List (Lit×DataW Unit)):(DataW.insert x l).Perm (x::l):=by
 induction l with
 |nil=>exact List.Perm.refl _
 |cons y r ih=>
  rw[DataW.insert]
  split
  ·exact List.Perm.refl _
  ·exact(ih.cons y).trans (List.Perm.swap x y r)
theorem jd(l:List (Lit×DataW Unit)):(l.foldr DataW.insert []).Perm l:=by
 induction l with
 |nil=>exact List.Perm.refl _
 |cons x l ih=>exact(nl x _).trans (ih.cons x)
def datK(ks:List Lit):DataW Unit:=.map ((ks.map fun k=>(k,(DataW.nil:DataW Unit))).foldr DataW.insert [])
theorem qR(ks:List Lit):Maps.size (datK ks)=ks.length:=by
 unfold datK
 rw[Maps.size_eq,(jd _).length_eq,List.length_map]
theorem vw{P:Program}{kt:TypeId}{w:World}{b c:Nat}{cur:Array MapEntry}{ks:List Lit}(hheap:w.heap[b]? =some (.map cur c))(hl:ks.length=cur.size)(hm:cur.size≤maxLen)
  (hk:∀(i:Nat) (x:MapEntry),cur[i]? =some x→∃k,ks[i]? =some k∧keyOf P kt x.key=some k)(hb:∀x∈cur.toList,x.born<c)(hn:(cur.toList.map (·.born)).Nodup)(hd:(cur.toList.map (·.key)).Nodup):
  w.ownsMap P kt noR b cur.size (datK ks):=by
 refine⟨cur,c,hheap,⟨hm,⟨hb,hn,hd⟩,fun x hx=>?_⟩,Nat.le_refl _,?_⟩
 ·obtain⟨i,hi⟩:=List.getElem?_of_mem hx
  obtain⟨k,_,h2⟩:=hk i x (by simpa using hi)
  exact⟨(k,.nil),by simp[WideElems.rd,h2,noR]⟩
 ·unfold datK
  congr 2
  apply List.ext_getElem?
  intro i
  rw[List.getElem?_map,List.getElem?_map]
  by_cases hi:i<cur.size
  ·have hc:cur[i]? =some cur[i]:=Array.getElem?_eq_getElem hi
   obtain⟨k,h1,h2⟩:=hk i _ hc
   have h3:cur.toList[i]? =some cur[i]:=by simp[hi]
   rw[h1,h3]
   simp[WideElems.rg,WideElems.rd,h2,noR]
  ·rw[List.getElem?_eq_none (l:=cur.toList) (by simp;omega),List.getElem?_eq_none (l:=ks) (by omega)];rfl
variable (G:Nat→Option (List AVal))
theorem cW{α:Type}(ev:α→AVal)(I:FuncId)
  (hI:∀(Bm b nn:Nat) (D0:DataW Unit) (R:Value→Option (DataW Unit×List MemPlace)) (w:World),Bm<w.heap.size→w.cell? ⟨Bm,0,none⟩=some (.map (some b))→w.ownsMap Tryz.prog 3 R b nn D0→Maps.size D0≤maxLen→Maps.size D0*8≤140737488355328→
   Calls Tryz.prog 111 #[.func (.func I) #[] #[.pointer (some ⟨Bm,0,none⟩)]] w fun e w'=>∃(v:Value) (ss:List Int),e=.returned v∧ss.Perm (intKeys D0)∧w'.ownsRow w.heap.size 3 1 v ss.length ((ss.mergeSort (fun x y=>decide (x≤y))).map encZ)∧(v=.slice none 0 0↔ss=[])∧Below w.heap.size w w')
  (l:ML Int α)(c:Nat)(hw:WFM l c)(hb:∀e∈l, -9223372036854775808≤e.1∧e.1≤9223372036854775807)(hl:l.length≤100000){h:Heap}{q p T:Nat}(hq:getRow h q 0=some (T,1,[.hm p]))(hp:mapAt h p=some (encM iA ev l,c)):
  Sat (CT G) 111 [.fn (.func I) [] [.hp q 0 0 0]] h (fun r h'=>r=.sl 1 (((l.map (·.1)).mergeSort (fun x y=>decide (x≤y))).map iA)∧h'=h):=by
 intro B S μ w us fit rl
 obtain⟨hul,hur⟩:=rl
 match us,hul,hur with
 | [v0],_,hur=>
  have r0:Rep w S μ (.fn (.func I) [] [.hp q 0 0 0]) v0:=hur 0 _ rfl
  obtain⟨cv,rfl,rc⟩:∃cv,v0=.func (.func I) #[] #[cv]∧Rep w S μ (.hp q 0 0 0) cv:=by
   cases r0 with
   |fn _ _ _ xv cv h1 h2 h3 h4=>
    match xv,cv,h1,h2,h4 with
    | [],[cv],_,_,h4=>exact⟨cv,rfl,h4 0 _ rfl⟩
  obtain⟨m,hm,rf⟩:=fit.row hq
  obtain⟨b0,hb0,rfl⟩:=rc.hp_now hm rf.hver
  have hz:0*m.size+0=0:=by simp
  rw[hz]
  obtain⟨cur,hheap,hcell⟩:∃cur,w.heap[b0]? =some (.cells cur T (0,0))∧∃x,cur[0]? =some x∧Rep w S μ (.hm p) x:=by
   rcases rf.lies with⟨_,h2⟩| ⟨b,cur,h1,h2,_,_,_,h6⟩
   ·cases h2
   ·rw[hb0]at h1;cases h1
    obtain⟨x,hx,rx⟩:=h6 0 (.hm p) 0 (.hm p) rfl rfl
    exact⟨cur,h2,x,by simpa using hx,rx⟩
  obtain⟨x,hx0,rx⟩:=hcell
  obtain⟨m2,b2,cur2,hm2,hv2,hb2,rfl,hheap2,E⟩:=bd fit rx hp
  have hcell0:w.cell? ⟨b0,0,none⟩=some (.map (some b2)):=by simp[World.cell?,hheap,hx0]
  have hlen:cur2.size=l.length:=by have:=E.len;simpa [encM]using this
  have hget:∀(i:Nat) (y:MapEntry),cur2[i]? =some y→∃e,l[i]? =some e∧y.key=encZ e.1∧y.born=e.2.2:=by
   intro i y hy
   have hi:i<l.length:=by have:=(Array.getElem?_eq_some_iff.1 hy).1;omega
   obtain⟨y',hy',r1,_,r3⟩:=E.get i (iA l[i].1,ev l[i].2.1,l[i].2.2) (by rw[encM,List.getElem?_map,List.getElem?_eq_getElem hi];rfl)
   rw[Array.getElem?_toList,hy]at hy';cases hy'
   refine⟨l[i],List.getElem?_eq_getElem hi,?_,r3⟩
   exact r1.int_inv
  have hbk:cur2.toList.map (·.born)=l.map (·.2.2):=by
   apply List.ext_getElem?
   intro i
   rw[List.getElem?_map,List.getElem?_map,Array.getElem?_toList]
   cases hy:cur2[i]? with
   |none=>rw[List.getElem?_eq_none (l:=l) (by rw[Array.getElem?_eq_none_iff]at hy;omega)];rfl
   |some y=>obtain⟨e,h1,_,h3⟩:=hget i y hy;rw[h1];simp[h3]
  have hkk:cur2.toList.map (·.key)=l.map (fun e=>encZ e.1):=by
   apply List.ext_getElem?
   intro i
   rw[List.getElem?_map,List.getElem?_map,Array.getElem?_toList]
   cases hy:cur2[i]? with
   |none=>rw[List.getElem?_eq_none (l:=l) (by rw[Array.getElem?_eq_none_iff]at hy;omega)];rfl
   |some y=>obtain⟨e,h1,h2,_⟩:=hget i y hy;rw[h1];simp[h2]
  have hown:w.ownsMap Tryz.prog 3 noR b2 cur2.size (datK (l.map fun e=>kI e.1)):=by
   refine vw hheap2 (by simp[hlen]) (by simp[maxLen];omega) (fun i y hy=>?_) (fun y hy=>?_) (by rw[hbk];exact hw.borns) ?_
   ·obtain⟨e,h1,h2,_⟩:=hget i y hy
    refine⟨kI e.1,by rw[List.getElem?_map,h1];rfl,?_⟩
    have hu:Tryz.prog.underlying 3=some (.int .i64):=by kernel_rfl
    have:=hb e (List.mem_of_getElem? h1)
    have hwf:(Lit.int .i64 e.1).wf=true:=by
     simp only[Lit.wf,Bool.and_eq_true,decide_eq_true_eq]
     exact this
    rw[h2]
    simp[keyOf,hu,mapKey,encZ,kI,hwf]
   ·obtain⟨i,hi⟩:=List.getElem?_of_mem hy
    obtain⟨e,h1,_,h3⟩:=hget i y (by simpa using hi)
    rw[h3];exact hw.lt e (List.mem_of_getElem? h1)
   ·rw[hkk]
    have:=hw.keys
    rw[show(l.map fun e=>encZ e.1)=(l.map (·.1)).map encZ by simp]
    exact List.Pairwise.map encZ (fun a b hab he=>hab (by first|exact encZ_inj he| (simpa [encStr]using he))) this
  have hsz:Maps.size (datK (l.map fun e=>kI e.1))=l.length:=by rw[qR];simp
  change OpOk Tryz.prog _ ((callFunc 111 #[Value.func (Fn.func I) #[] #[Value.pointer (some ⟨b0,0,none⟩)]]).run Tryz.prog w)
  rw[bw (f:=111) Tryz.func111 rfl rfl]
  refine(hI b0 b2 _ _ _ w (Array.getElem?_eq_some_iff.1 hheap).1 hcell0 hown (by rw[hsz];simp[maxLen];omega) (by rw[hsz];omega)).mono fun e w' ⟨v,ss,he,hperm,hrow,_,hbel⟩=>?_
  refine⟨v,he,?_⟩
  have hk:(intKeys (datK (l.map fun e=>kI e.1))).Perm (l.map (·.1)):=by
   unfold datK
   refine((jd _).map _).trans ?_
   rw[List.map_map,List.map_map]
   exact List.Perm.of_eq (List.map_congr_left fun e _=>rfl)
  have hs:ss.mergeSort (fun x y=>decide (x≤y))=(l.map (·.1)).mergeSort (fun x y=>decide (x≤y)):=mergeSort_of_perm_i (hperm.trans hk)
  rw[hs]at hrow
  have hl2:ss.length=((l.map (·.1)).mergeSort (fun x y=>decide (x≤y))).length:=by
   rw[← hs,(List.mergeSort_perm _ _).length_eq]
  rw[hl2]at hrow
  obtain⟨S',f',st',r'⟩:=tw (av:=iA) (enc:=encZ) (fun _=>rfl) (fun _=>rfl) (fun _ _ _ _=>by first|exact .int _ _|exact .str _) fit hrow hbel
  exact⟨_,h,S',μ,⟨rfl,rfl⟩,st',f',r'⟩
end Go.Av
namespace Go.Av
open Go Go.Proofs Go.RowKit
attribute [local irreducible] WP WPl WPix Sat
section
variable {C:Ctx} {B:Nat} {S:Addr→Prop} {μ:Map} {h:Heap} {w w':World}
theorem Flat.dropR{rows:List AVal}{cur:List Value}{m:Nat}(fl:Flat w S μ m rows (cur.take (rows.length*m)))(k:Nat)(hk:k≤rows.length):Flat w S μ m (rows.drop k) ((cur.drop (k*m)).take ((rows.length-k)*m)):=by
 have hlm:(rows.length-k)*m+k*m=rows.length*m:=by rw[← Nat.add_mul];congr 1;omega
 have gt:∀{i:Nat} {r:AVal},(rows.drop k)[i]? =some r→rows[k+i]? =some r:=fun hi=>by rwa [List.getElem?_drop]at hi
 refine⟨?_,fun i r hi=>fl.lens _ r (gt hi),fun i r j c hi hj=>fl.sto _ r j c (gt hi) hj,fun i r j c hi hj=>?_⟩
 ·have:=fl.len;simp only[List.length_take,List.length_drop]at this ⊢;omega
 ·obtain⟨x,hx',hr⟩:=fl.rep _ r j c (gt hi) hj
  refine⟨x,?_,hr⟩
  have hi':=(List.getElem?_eq_some_iff.1 hi).1
  rw[List.length_drop]at hi'
  have hlt:i*m+j<(rows.length-k)*m:=bU hi' (by rw[← fl.lens _ r (gt hi)];exact(List.getElem?_eq_some_iff.1 hj).1)
  have e:k*m+(i*m+j)=(k+i)*m+j:=by rw[Nat.add_mul];omega
  rw[List.getElem?_take_of_lt hlt,List.getElem?_drop,e]
  exact aJ hx'
theorem Flat.one{rows:List AVal}{xs:List Value}{m:Nat}(hm:0<m)(fl:Flat w S μ m rows xs):∀v∈xs,v.oneCell'=true:=fun v hv=>by
 obtain⟨t,ht⟩:=List.getElem?_of_mem hv
 have hlt:=(List.getElem?_eq_some_iff.1 ht).1
 rw[fl.len]at hlt
 have hr:t/m<rows.length:=Nat.div_lt_of_lt_mul (by rwa [Nat.mul_comm])
 have h1:rows[t/m]? =some rows[t/m]:=List.getElem?_eq_getElem hr
 have hc:t%m<rows[t/m].cells.length:=by rw[fl.lens _ _ h1];exact Nat.mod_lt _ hm
 have h2:rows[t/m].cells[t%m]? =some rows[t/m].cells[t%m]:=List.getElem?_eq_getElem hc
 obtain⟨x,hx,hrep⟩:=fl.rep _ _ _ _ h1 h2
 have e:t/m*m+t%m=t:=Nat.div_add_mod' t m
 rw[e,ht]at hx
 cases hx
 exact hrep.oneCell (fl.sto _ _ _ _ h1 h2)
theorem vx(f:Fits C B S μ h w){p:Nat}{m:MB}(hm:μ[p]? =some m)(o:Only w w' m.blk){e n g cp:Nat}{rows:List AVal}{Z:Array Value}(hg:m.blk=some g∨(w.heap.size≤g∧g<w'.heap.size))
  (hn:0<n)(hh:w'.heap[g]? =some (.cells Z e (0,0)))(hz:Z.size=cp*n)(hl:0<cp∧rows.length≤cp)(hx:cp≤maxLen)(fl:Flat w S μ n rows (Z.toList.take (rows.length*n))):
  ∃μ',Step B S μ w S μ' w'∧Fits C B S μ' (h.set p (.row e n (m.ver+1) rows)) w'∧Rep w' S μ' (.hs p (m.ver+1) 0 rows.length true) (.slice (some ⟨g,0,none⟩) rows.length cp):=by
 have hlt:=(List.getElem?_eq_some_iff.1 hm).1
 have st0:=bh f hm o (bg (m':=⟨some g,m.ver+1,n,cp⟩) hm (by simp) (by simp))
 have hrf:BlkFits w' S (μ.set p ⟨some g,m.ver+1,n,cp⟩) ⟨some g,m.ver+1,n,cp⟩ (.row e n (m.ver+1) rows):=
  bz hn rfl rfl rfl hh hz hl hx (fl.mono st0) rfl
 obtain⟨f',st⟩:=f.update (m':=⟨some g,m.ver+1,n,cp⟩) hm o (by simp) (by simp) (by rcases hg with hg|hg;exact .inl hg.symm;exact .inr ⟨g,rfl,hg.1,hg.2⟩) hrf
 refine⟨_,st,f',.hs _ _ _ _ _ ⟨some g,m.ver+1,n,cp⟩ _ (by rw[List.getElem?_set_self hlt]) (Nat.le_refl _) (by simp) rfl fun _=>.inr ⟨g,rfl,by simpa using hl.2,by simp⟩⟩
end
theorem vy(G:Nat→Option (List AVal))(l:List Ky)(k:Ky)(i v p q v2:Nat)(rm:Bool)(hi:i<l.length)(hl:l.length≤100000)(h:Heap)(hp:getRow h p v=some (92,3,l.map Ky.av))(hq:getRow h q v2=some (92,3,[k.av]))(hne:p≠q):
  Sat (CT G) 70 [.hs p v 0 l.length true,.int .i64 i,.hs q v2 0 1 rm] h
   (fun r h'=>r=.hs p (v+1) 0 (l.length+1) true∧h'=h.set p (.row 92 3 (v+1) ((l.take i++k::l.drop i).map Ky.av))):=by
 unfold Sat
 intro B S μ w us fit rl
 obtain⟨hul,hur⟩:=rl
 match us,hul,hur with
 | [u0,u1,u2],_,hur=>
  have r0:Rep w S μ (.hs p v 0 l.length true) u0:=hur 0 _ rfl
  have r1:Rep w S μ (.int .i64 i) u1:=hur 1 _ rfl
  have r2:Rep w S μ (.hs q v2 0 1 rm) u2:=hur 2 _ rfl
  obtain rfl:=r1.int_inv
  obtain⟨m,hm,hf⟩:=fit.row hp
  obtain⟨m2,hm2,hf2⟩:=fit.row hq
  have hver:=hf.hver
  have hver2:=hf2.hver
  have hsz3:=hf.hsize
  rcases r0.hs_now hm hver with⟨_,_,h1,_⟩| ⟨b,hb,hcap,rfl⟩
  ·omega
  rcases r2.hs_now hm2 hver2 with⟨_,_,h1,_⟩| ⟨b2,hb2,hcap2,rfl⟩
  ·omega
  obtain⟨cur,hheap,hcs,hle,hmax,fl⟩:=hf.flat hb
  obtain⟨cur2,hheap2,hcs2,hle2,hmax2,fl2⟩:=hf2.flat hb2
  simp only[List.length_map,List.length_singleton,Nat.one_mul]at fl fl2 hle hle2
  have hnb:b2≠b:=fun e=>hne (fit.sep p q m m2 b hm hm2 hb (by rw[hb2,e]))
  simp only[if_true,Nat.sub_zero,Nat.zero_mul]
  have flr:Flat w S μ 3 (l.map Ky.av) (cur.toList.take ((l.map Ky.av).length*3)):=by rw[List.length_map];exact fl
  have fA:=flr.takeR i (by rw[List.length_map];omega)
  have fD:=flr.dropR i (by rw[List.length_map];omega)
  rw[List.length_map]at fD
  have hnew:(l.take i++k::l.drop i).map Ky.av=((l.map Ky.av).take i++[k.av])++(l.map Ky.av).drop i:=by simp[List.map_take,List.map_drop]
  have fN:=(fA.append fl2).append fD
  rw[← hnew]at fN
  have hnl:((l.take i++k::l.drop i).map Ky.av).length=l.length+1:=by simp;omega
  have hc3:(l.length:Nat)*3≤cur.size:=by rw[hcs];exact Nat.mul_le_mul_right _ hle.2
  have hc23:3≤cur2.size:=by rw[hcs2];omega
  have hcl:cur.toList.length=cur.size:=Array.length_toList
  have hcl2:cur2.toList.length=cur2.size:=Array.length_toList
  have hAl:(cur.toList.take (i*3)).length=i*3:=by rw[List.length_take,hcl];omega
  have hVl:(cur2.toList.take 3).length=3:=by rw[List.length_take,hcl2];omega
  have hDl:((cur.toList.drop (i*3)).take ((l.length-i)*3)).length=(l.length-i)*3:=by rw[List.length_take,List.length_drop,hcl];omega
  have h1:=fD.one (by omega)
  have h1v:=fl2.one (by omega)
  have fin:∀(w':World) (g cp:Nat) (Z E:List Value),Only w w' (some b)→(g=b∨(w.heap.size≤g∧g<w'.heap.size))→w'.heap[g]? =some (.cells Z.toArray 92 (0,0))→Z.length=cp*3→l.length+1≤cp→cp≤maxLen→
    Z=cur.toList.take (i*3)++cur2.toList.take 3++(cur.toList.drop (i*3)).take ((l.length-i)*3)++E→
    OpPost (CT G) B S μ w (fun r h'=>r=.hs p (v+1) 0 (l.length+1) true∧h'=h.set p (.row 92 3 (v+1) ((l.take i++k::l.drop i).map Ky.av))) (.slice (some ⟨g,0,none⟩) (l.length+1) cp) w':=by
   intro w' g cp Z E ho hg hh hz hcp hcm hZ
   have hZl:(l.length+1)*3=(cur.toList.take (i*3)++cur2.toList.take 3++(cur.toList.drop (i*3)).take ((l.length-i)*3)).length:=by
    simp only[List.length_append,hAl,hVl,hDl];omega
   obtain⟨μ',st,f',rp⟩:=vx (rows:=(l.take i++k::l.drop i).map Ky.av) fit hm (by rw[hb];exact ho) (e:=92) (n:=3) (cp:=cp) (Z:=Z.toArray) (g:=g) (by rcases hg with rfl|hg;exact .inl hb;exact .inr hg) (by decide) hh (by simpa using hz) ⟨by omega,by rw[hnl];exact hcp⟩ hcm (by
    rw[hnl]
    show Flat _ _ _ _ _ (List.take _ Z)
    rw[hZ,hZl,List.take_left']
    ·exact fN
    ·rfl)
   rw[hnl,hver]at rp
   rw[hver]at f'
   exact⟨_,_,S,μ',⟨rfl,rfl⟩,st,f',rp⟩
  change OpOk Tryz.prog _ ((callFunc 70 #[_,_,_]).run Tryz.prog w)
  rw[bw (f:=70) Tryz.func70 rfl rfl]
  by_cases hroom:l.length+1≤m.cap
  ·refine(sK b l.length m.cap i b2 _ cur cur2 w hi hroom (by simp only[maxLen]at hmax;omega) hnb hheap hcs hheap2 hc23 h1 h1v _ _ rfl rfl).mono fun e w' ⟨he,hw⟩=>?_
   refine⟨_,he,fin w' b m.cap _ (cur.toList.drop ((i+1)*3+(l.length-i)*3)) (by rw[hw];exact⟨rfl,rfl,rfl,by simp,fun j _ hj=>by rw[setRow_other _ _ _ _ (fun e=>hj (by rw[e])),setRow_other _ _ _ _ (fun e=>hj (by rw[e]))];rfl⟩) (.inl rfl) (by rw[hw];exact setRow_heap _ b _ _ _ _ (setRow_heap w.drew b cur _ _ _ hheap)) ?_ hroom hmax ?_⟩
   ·simp only[List.length_append,List.length_take,List.length_drop,Array.length_toList,List.toList_toArray,hVl]
    omega
   ·rw[List.toList_toArray]
    have e1:(cur.toList.take ((i+1)*3)++(cur.toList.drop (i*3)).take ((l.length-i)*3)++cur.toList.drop ((i+1)*3+(l.length-i)*3)).take (i*3)=cur.toList.take (i*3):=by
     rw[List.append_assoc,List.take_append_of_le_length (by rw[List.length_take,hcl];omega),List.take_take];congr 1;omega
    have e2:(cur.toList.take ((i+1)*3)++(cur.toList.drop (i*3)).take ((l.length-i)*3)++cur.toList.drop ((i+1)*3+(l.length-i)*3)).drop (i*3+3)=(cur.toList.drop (i*3)).take ((l.length-i)*3)++cur.toList.drop ((i+1)*3+(l.length-i)*3):=by
     rw[List.append_assoc,List.drop_left' (by rw[List.length_take,hcl];omega)]
    rw[e1,e2];simp
  ·have hcm:=grownCap_le_maxLen w (l.length+1) m.cap 92 (by simp only[maxLen];omega)
   have hcg:=grownCap_ge w (l.length+1) m.cap 92
   obtain⟨cp,hcpe⟩:∃cp,cp=grownCap w (l.length+1) m.cap 92:=⟨_,rfl⟩
   rw[← hcpe]at hcm hcg
   obtain⟨ROW,hROW⟩:∃ROW:Array Value,(cur.toList.take (i*3)).toArray++Builtin.zeroCells (Value.agg #[.int .i64 0,.int .i64 0,.int .i64 0]).cells (l.length+1-i)++Builtin.zeroCells (Value.agg #[.int .i64 0,.int .i64 0,.int .i64 0]).cells (cp-(l.length+1))=ROW:=⟨_,rfl⟩
   obtain⟨Y1,hY1⟩:∃Y1:Array Value,(ROW.toList.take (i*3)++cur2.toList.take 3++ROW.toList.drop (i*3+3)).toArray=Y1:=⟨_,rfl⟩
   obtain⟨Y2,hY2⟩:∃Y2:Array Value,(Y1.toList.take ((i+1)*3)++(cur.toList.drop (i*3)).take ((l.length-i)*3)++Y1.toList.drop ((i+1)*3+(l.length-i)*3)).toArray=Y2:=⟨_,rfl⟩
   refine(sL b l.length m.cap i b2 _ cur cur2 w hi hle.2 (by omega) (by omega) hheap hcs hheap2 hc23 h1 h1v ROW Y1 Y2 cp hcpe hROW hY1 hY2).mono fun e w' ⟨he,hw⟩=>?_
   have hon:Only w w' (some b):=by
    rw[hw]
    refine⟨rfl,rfl,rfl,by simp,fun j hj _=>?_⟩
    rw[setRow_other _ _ _ _ (by omega)]
    show(World.setRow _ _ _).heap[j]? =_
    rw[setRow_other _ _ _ _ (by omega)]
    first|exact heap_alloc_old w.drew _ hj|exact heap_alloc_old w.drew _ _ hj
   have hz3:∀j,(Builtin.zeroCells (Value.agg #[.int .i64 0,.int .i64 0,.int .i64 0]).cells j).toList.length=j*3:=fun j=>by
    rw[Array.length_toList,size_zeroCells];simp[Value.cells]
   have hRl:ROW.toList=cur.toList.take (i*3)++((Builtin.zeroCells (Value.agg #[.int .i64 0,.int .i64 0,.int .i64 0]).cells (l.length+1-i)).toList++(Builtin.zeroCells (Value.agg #[.int .i64 0,.int .i64 0,.int .i64 0]).cells (cp-(l.length+1))).toList):=by
    rw[← hROW];simp
   generalize hZ1:(Builtin.zeroCells (Value.agg #[.int .i64 0,.int .i64 0,.int .i64 0]).cells (l.length+1-i)).toList++(Builtin.zeroCells (Value.agg #[.int .i64 0,.int .i64 0,.int .i64 0]).cells (cp-(l.length+1))).toList=Z1 at hRl
   have hZ1l:Z1.length=(l.length+1-i)*3+(cp-(l.length+1))*3:=by rw[← hZ1,List.length_append,hz3,hz3]
   have hY1l:Y1.toList=cur.toList.take (i*3)++cur2.toList.take 3++Z1.drop 3:=by
    rw[← hY1,hRl,List.take_left' hAl]
    show _++List.drop (i*3+3) _=_
    rw[← List.drop_drop,List.drop_left' hAl]
   have hT:Y1.toList.take ((i+1)*3)=cur.toList.take (i*3)++cur2.toList.take 3:=by
    rw[hY1l,List.take_left' (by rw[List.length_append,hAl,hVl];omega)]
   have hY2l:Y2.toList=cur.toList.take (i*3)++cur2.toList.take 3++(cur.toList.drop (i*3)).take ((l.length-i)*3)++Y1.toList.drop ((i+1)*3+(l.length-i)*3):=by
    rw[← hY2, ← hT]
   refine⟨_,he,fin w' w.heap.size cp Y2.toList _ hon (.inr ⟨Nat.le_refl _,by rw[hw];simp⟩) ?_ ?_ hcg hcm hY2l⟩
   ·rw[hw,Array.toArray_toList]
    exact setRow_heap _ _ _ _ _ _ (setRow_heap (w.drew.alloc (.cells ROW _)) _ _ Y1 _ _ (heap_alloc_new w.drew _))
   ·rw[hY2l,List.length_append,List.length_append,List.length_append,hAl,hVl,hDl,List.length_drop,hY1l,List.length_append,List.length_append,hAl,hVl,List.length_drop,hZ1l]
    omega
end Go.Av
namespace Go.Av
open Go Go.Proofs Go.RowKit
attribute [local irreducible] WP WPl WPix Sat
theorem np{h:Heap}{p v len n m:Nat}{b:Bool}{rows:List AVal}(hg:getRow h p v=some (m,n,rows))(hl:rows.length=len):elemsOf h n (.hs p v 0 len b)=some rows:=by
 simp only[elemsOf,hg,true_and]
 rw[if_pos (by omega),List.drop_zero,List.take_of_length_le (by omega)]
variable (G:Nat→Option (List AVal))
theorem vz(l:List Ky)(k:Ky)(v p q v2:Nat)(rm:Bool)(hl:l.length≤100000)(h:Heap)(hp:getRow h p v=some (92,3,l.map Ky.av))(hq:getRow h q v2=some (92,3,[k.av])):
  Sat (CT G) 70 [.hs p v 0 l.length true,.int .i64 l.length,.hs q v2 0 1 rm] h
   (fun r h'=>r=.hs p (v+1) 0 (l.length+1) true∧h'=h.set p (.row 92 3 (v+1) ((l++[k]).map Ky.av))):=by
 have s1:aslice Tryz.prog h 80 (.hs p v 0 l.length true) (some (.int .i64 (l.length:Int))) none none=some (.sl 3 [])∨aslice Tryz.prog h 80 (.hs p v 0 l.length true) (some (.int .i64 (l.length:Int))) none none=some (.hs p v (0+l.length) 0 true):=by
  have e1:elmT Tryz.prog 80=some 92:=by simp only[go_sem]
  have e2:szOf Tryz.prog 92=some 3:=by simp only[go_sem]
  simp only[aslice,e1,e2,hp,optInt,if_true]
  by_cases h0:l=[]
  ·subst h0;right;simp
  ·left
   have:0<l.length:=List.length_pos_iff.2 h0
   rw[if_neg (by omega),if_pos (by simp)]
 rw[Ky.av_eq]at hq
 rcases s1 with s1|s1
 all_goals have hy:=np (b:=rm) hq (rfl:[AVal.agg [.int .i64 k.d,.int .i64 k.i,.int .i64 k.f]].length=1)
 ·have F:=F4 hp hq s1 (F3 (@beq_self_eq_true Int _ _) (@beq_self_eq_true Bool _ _) (@beq_self_eq_true Bs _ _))
  refine sb [.tmp 6] (fn:=Tryz.f70) Tryz.func70 ?_
  intro Q hQ
  refine wk F ?_
  refine bB (.inl rfl) (by simp(disch:=first|omega| (simp only[go_sem, ↓reduceIte,seval];first|done|omega)|fail) only[go_sem, ↓reduceIte,seval,F];try rfl) (by simp(disch:=first|omega| (simp only[go_sem, ↓reduceIte,seval];first|done|omega)|fail) only[go_sem, ↓reduceIte,seval,F];try rfl) (by simp(disch:=first|omega| (simp only[go_sem, ↓reduceIte,seval];first|done|omega)|fail) only[go_sem, ↓reduceIte,seval,F];try rfl) (by simp(disch:=first|omega| (simp only[go_sem, ↓reduceIte,seval];first|done|omega)|fail) only[go_sem, ↓reduceIte,seval,F];try rfl) (by omega) hy hp (List.length_map ..).symm ⟨by simp[maxLen];omega,by simp;omega⟩ ?_
  try refine sq F ?_
  refine wk F ?_
  refine ee hQ F ?_
  exact Fin.whole (by simp) (.hs _ _ _ _ _ (by rw[List.length_set];exact bo hp)) ⟨by simp,by simp[Ky.av]⟩
 ·have F:=F4 hp hq s1 (F3 (@beq_self_eq_true Int _ _) (@beq_self_eq_true Bool _ _) (@beq_self_eq_true Bs _ _))
  refine sb [.tmp 6] (fn:=Tryz.f70) Tryz.func70 ?_
  intro Q hQ
  refine wk F ?_
  refine bB (.inl rfl) (by simp(disch:=first|omega| (simp only[go_sem, ↓reduceIte,seval];first|done|omega)|fail) only[go_sem, ↓reduceIte,seval,F];try rfl) (by simp(disch:=first|omega| (simp only[go_sem, ↓reduceIte,seval];first|done|omega)|fail) only[go_sem, ↓reduceIte,seval,F];try rfl) (by simp(disch:=first|omega| (simp only[go_sem, ↓reduceIte,seval];first|done|omega)|fail) only[go_sem, ↓reduceIte,seval,F];try rfl) (by simp(disch:=first|omega| (simp only[go_sem, ↓reduceIte,seval];first|done|omega)|fail) only[go_sem, ↓reduceIte,seval,F];try rfl) (by omega) hy hp (List.length_map ..).symm ⟨by simp[maxLen];omega,by simp;omega⟩ ?_
  try refine sq F ?_
  refine wk F ?_
  refine ee hQ F ?_
  exact Fin.whole (by simp) (.hs _ _ _ _ _ (by rw[List.length_set];exact bo hp)) ⟨by simp,by simp[Ky.av]⟩
theorem tz{C:Ctx}{ops:Array Oper}{dst:Option Tmp}{ty:TypeId}{pos:String}{aft:Array Edge}{t:Env}{h:Heap}{K:AVal→Heap→Prop}{x:Operand}{T e n:Nat}{v:AVal}(hv:aev C.G t x=v)(he:elmT C.P T=some e)(hn:szOf C.P e=some n)
  (hz:(zroT C.P e).map (fun z=>(z.cells.length,z.cells.all AVal.sto))=some (n,true))(hc:v.cells.length=n)(hl:v.lies=true)(h0:0<n∧n≤16777216)(k:K (.hs h.length 0 0 1 true) (h++[.row e n 0 [v]])):
  wpOperV C ops ⟨dst,.buildSlice T 1 #[(0,x)],ty,pos,aft,none⟩ t h K:=by
 show wpOp C (.buildSlice T 1 #[(0,x)]) t h K
 subst hv
 simp only[wpOp]
 rw[he]
 show need (szOf C.P e) _
 rw[hn]
 unfold need
 simp only[]
 rw[if_neg (by decide)]
 exact⟨rfl,by decide,h0.1,by omega,rfl,hz,fun y hy=>by simp at hy;subst hy;exact⟨hc,hl⟩,.inl k⟩
section
variable {l:List Ky} {H:Heap} {n v:Nat}
theorem Ai(hl:l.length≤100000)(k:Ky)(q:Nat)(hn:n+2≤H.length)(hq:n+2≤q)(hr:getRow H q 0=some (92,3,[k.av])):
  Sat (CT G) 70 [.hs (n+1) v 0 l.length true,.int .i64 (pst l k),.hs q 0 0 1 true] (vo H n v l)
   (fun r h'=>r=.hs (n+1) (v+1) 0 (insK l k).length true∧h'=(vo H n v l).set (n+1) (.row 92 3 (v+1) ((insK l k).map Ky.av))):=by
 have hr2:getRow (vo H n v l) q 0=some (92,3,[k.av]):=(dH hn 0 hq).trans hr
 rw[lY]
 rcases Nat.lt_or_ge (pst l k) l.length with h|h
 ·exact vy G l k _ v _ q 0 true h hl _ (bJ hn) hr2 (by omega)
 ·have e:pst l k=l.length:=Nat.le_antisymm (gj l k) h
  have e2:insK l k=l++[k]:=by unfold insK;rw[e,List.take_length,List.drop_length]
  rw[e,e2]
  exact vz G l k v _ q 0 true hl _ (bJ hn) hr2
theorem o7(hs:Sk l)(hl:l.length≤100000)(t:It)(hn:n+2≤H.length):Sat (CT G) 35 [.hp n 0 0 0,t.av] (vo H n v l) (fun r h'=>r=.tup []∧h'=vo H n (v+1) (insK l t.ky)):=by
 skip
 refine sb [] (fn:=Tryz.f35) Tryz.func35 ?_
 intro Q hQ
 refine wn trivial ?_
 refine aM 11 [9,10] [true,true,true,true,true,true,true,true,true,false,false] (.one 9 [false,false,true,true,true,false,true,true] (.one 10 [] .fin)) (by decide+kernel) (by kernel_rfl) (by decide+kernel) ?_
 simp only[aT,aU,aL]
 try refine sq trivial ?_
 repeat' (first| (refine au ?_;try refine sq trivial ?_)| (refine aw ?_;try refine sq trivial ?_)| (refine ax ?_ ?_<;>try refine sq trivial ?_))
 all_goals try refine wn trivial ?_
 refine aG (iE G hs (by omega) t.ky (by simp;omega)) ?_
 try refine sq trivial ?_
 refine wn trivial ?_
 repeat' (first| (refine au ?_;try refine sq trivial ?_)| (refine aw ?_;try refine sq trivial ?_)| (refine ax ?_ ?_<;>try refine sq trivial ?_))
 all_goals try refine wn trivial ?_
 refine tz (n:=3) (by simp(disch:=first|omega| (simp only[go_sem, ↓reduceIte,seval];first|done|omega)|fail) only[go_sem, ↓reduceIte,seval];rfl) (by simp(disch:=first|omega| (simp only[go_sem, ↓reduceIte,seval];first|done|omega)|fail) only[go_sem, ↓reduceIte,seval];try rfl) (by simp(disch:=first|omega| (simp only[go_sem, ↓reduceIte,seval];first|done|omega)|fail) only[go_sem, ↓reduceIte,seval];try rfl) (by simp(disch:=first|omega| (simp only[go_sem, ↓reduceIte,seval];first|done|omega)|fail) only[go_sem, ↓reduceIte,seval];try rfl) rfl rfl (by decide) ?_
 refine⟨?_,?_⟩
 ·try refine sq trivial ?_
  exact aG (iE G hs (by omega) t.ky (by simp;omega)) rfl
 repeat' (first| (refine au ?_;try refine sq trivial ?_)| (refine aw ?_;try refine sq trivial ?_)| (refine ax ?_ ?_<;>try refine sq trivial ?_))
 all_goals try refine wn trivial ?_
 have hki:=Ai G (H:=H++[.row 56 9 0 [t.av],.row 92 3 0 [t.ky.av],.row 92 3 0 [t.ky.av]]) (n:=n) (v:=v) hl t.ky (H.length+2) (by simp;omega) (by omega) (by rw[aZ _ rfl];rfl)
 refine hki.mono ?_
 rintro r h' ⟨rfl,rfl⟩
 have F:= @az
 try refine sq F ?_
 repeat' (first| (refine au ?_;try refine sq F ?_)| (refine aw ?_;try refine sq F ?_)| (refine ax ?_ ?_<;>try refine sq F ?_))
 all_goals try refine wn F ?_
 refine ee hQ F ?_
 rw[o5 (by simp;omega)]
 exact bp hn (.tup _ (fun x hx=>by simp at hx)) ⟨rfl,rfl⟩
end
end Go.Av
namespace Go.Av
open Go Go.Proofs Go.RowKit
attribute [local irreducible] WP WPl WPix Sat
variable (G:Nat→Option (List AVal))
def PS.within(s:PS)(id:Int):Bool:=decide (id=0)||(lkM s.fo id).isSome
theorem dZ(s:PS)(id:Int){H:Heap}{n:Nat}(hn:n+9≤H.length):Sat (CT G) 98 [.hp (n+8) 0 0 0,.int .i64 id] (so H n s) (fun r h'=>r=.bool (s.within id)∧h'=so H n s):=by
 refine sb [.tmp 4] (fn:=Tryz.f98) Tryz.func98 ?_
 intro Q hQ
 refine wk trivial ?_
 (first|refine gq trivial (fun g=>?_) (fun g=>?_)|refine pq trivial (fun g=>?_) (fun g=>?_))<;>(try exact g.elim)<;>(try refine sq trivial ?_)<;>(refine wk trivial ?_)
 ·refine ee hQ trivial ?_
  exact ak hn (.bool _) ⟨by simp[PS.within,g],rfl⟩
 ·refine ee hQ trivial ?_
  exact ak hn (.bool _) ⟨by simp[PS.within,g],rfl⟩
def PS.hold(s:PS)(id k:Int):PS:=if id=0 then s else {s with he:=upM s.he s.c8 id ((lkM s.he id).getD 0+k),c8:=ckM s.he s.c8 id}
theorem bX(s:PS)(id k:Int)(hk: -1000000≤(lkM s.he id).getD 0∧(lkM s.he id).getD 0≤1000000)(hk': -1≤k∧k≤1){H:Heap}{n:Nat}(hn:n+9≤H.length):Sat (CT G) 51 [.hp (n+8) 0 0 0,.int .i64 id,.int .i64 k] (so H n s) (fun r h'=>r=.tup []∧h'=so H n (s.hold id k)):=by
 refine sb [] (fn:=Tryz.f51) Tryz.func51 ?_
 intro Q hQ
 refine wk trivial ?_
 refine cq trivial (fun c=>?_) (fun c=>?_)<;>(try exact c.elim)<;>(refine wk trivial ?_)
 ·refine ee hQ trivial ?_
  exact cu hn (.tup _ (by simp)) ⟨rfl,by rw[PS.hold,if_neg (by omega)]⟩
 ·refine ee hQ trivial ?_
  exact cu hn (.tup _ (by simp)) ⟨rfl,by rw[PS.hold,if_pos (by omega)]⟩
def PS.raise(s:PS)(k:Nat)(id:Int):PS:=match k with
 |0=> {s with t1:=if id>s.t1 then id else s.t1}
 |1=> {s with t2:=if id>s.t2 then id else s.t2}
 |2=> {s with t3:=if id>s.t3 then id else s.t3}
 |_=> {s with t4:=if id>s.t4 then id else s.t4}
theorem cX(s:PS)(k:Nat)(id:Int)(hk:k<4){H:Heap}{n:Nat}(hn:n+9≤H.length):Sat (CT G) 103 [.hp (n+8) 0 0 0,.int .i64 (k:Int),.int .i64 id] (so H n s) (fun r h'=>r=.tup []∧h'=so H n (s.raise k id)):=by
 match k,hk with
 |0,_=>
  refine sb [] (fn:=Tryz.f103) Tryz.func103 ?_
  intro Q hQ
  refine wk trivial ?_
  refine ee hQ trivial ?_
  exact cu hn (.tup _ (by simp)) ⟨rfl,by simp only[PS.raise,decide_eq_true_eq]⟩
 |1,_=>
  refine sb [] (fn:=Tryz.f103) Tryz.func103 ?_
  intro Q hQ
  refine wk trivial ?_
  refine ee hQ trivial ?_
  exact cu hn (.tup _ (by simp)) ⟨rfl,by simp only[PS.raise,decide_eq_true_eq]⟩
 |2,_=>
  refine sb [] (fn:=Tryz.f103) Tryz.func103 ?_
  intro Q hQ
  refine wk trivial ?_
  refine ee hQ trivial ?_
  exact cu hn (.tup _ (by simp)) ⟨rfl,by simp only[PS.raise,decide_eq_true_eq]⟩
 |3,_=>
  refine sb [] (fn:=Tryz.f103) Tryz.func103 ?_
  intro Q hQ
  refine wk trivial ?_
  refine ee hQ trivial ?_
  exact cu hn (.tup _ (by simp)) ⟨rfl,by simp only[PS.raise,decide_eq_true_eq]⟩
def deepO(l:ML Int Fo):Nat→Int→Option Nat
 |0,id=>if (lkM l id).isSome then none else some 0
 |k+1,id=>match lkM l id with
  |none=>some 0
  |some f=>(deepO l k f.inn).map (· +1)
theorem p8(s:PS)(id:Int)(k d:Nat)(hd:deepO s.fo k id=some d)(hk:d≤1000){H:Heap}{n:Nat}(hn:n+9≤H.length):Sat (CT G) 99 [.hp (n+8) 0 0 0,.int .i64 id] (so H n s) (fun r h'=>r=.int .i64 d∧h'=so H n s):=by
 have step:∀(k m:Nat) (id:Int),deepO s.fo k id=some (d-m)→m≤d→((lkM s.fo id).isSome=true∧m+1≤d∧∃k,deepO s.fo k ((lkM s.fo id).getD Fo.z).inn=some (d-(m+1)))∨((lkM s.fo id).isSome=false∧m=d):=by
  intro k m id h hm
  cases k with
  |zero=>
   rw[deepO]at h
   cases hl:lkM s.fo id with
   |none=>rw[hl]at h;simp at h;exact .inr ⟨rfl,by omega⟩
   |some f=>rw[hl]at h;simp at h
  |succ k=>
   rw[deepO]at h
   cases hl:lkM s.fo id with
   |none=>rw[hl]at h;simp at h;exact .inr ⟨rfl,by omega⟩
   |some f=>
    rw[hl]at h
    simp only[Option.map_eq_some_iff]at h
    obtain⟨j,hj,hd⟩:=h
    exact .inl ⟨rfl,by omega,k,by rw[Option.getD_some,hj];congr 1;omega⟩
 refine sb [.tmp 4] (fn:=Tryz.f99) Tryz.func99 ?_
 intro Q hQ
 refine wk trivial ?_
 refine lm (fun nL tL hL=>∃(m:Nat) (f:Fo) (b:Bool),d-m=nL∧so (H++[.row 116 3 0 [.agg [.int .i64 f.id,.int .i64 f.inn,.str f.name]]]) n s=hL∧tL 0=.hp (n+8) 0 0 0∧tL 5=.int .i64 m∧tL 6=.hp H.length 0 0 0∧tL 7=.bool b∧((b=true∧m+1≤d∧∃k,deepO s.fo k f.inn=some (d-(m+1)))∨(b=false∧m=d))) ((fun(m:Nat) (f:Fo) (b:Bool)=>(d-m:Nat)) (0) ((lkM s.fo id).getD Fo.z) ((lkM s.fo id).isSome)) ?_ ?_
 ·refine Wkn.refl ⟨0,(lkM s.fo id).getD Fo.z,(lkM s.fo id).isSome,rfl,aA,?_,?_,?_,?_,step k 0 id hd (by omega)⟩
  all_goals first|exact zq trivial|rfl|omega|trivial|skip
 rintro _ s2 h' ⟨m,f,b,rfl,rfl,e0,e5,e6,e7,hi⟩ K2 hK2
 simp only[ai,aj,Nat.reduceEqDiff, ↓reduceIte]at e0 e5 e6 e7
 have F:=F4 e0 e5 e6 e7
 refine wk F ?_
 refine cq F (fun c=>?_) (fun c=>?_)<;>(try exact c.elim)<;>(refine wk F ?_)
 ·rcases hi with⟨_,h1,k1,h2⟩| ⟨h1,_⟩
  ·refine iy 8 (.two 8 (.two 9 (.one 10 (.one 11 .nil)) 10 (.one 9 (.one 11 .nil))) 9 (.one 8 (.one 10 (.one 11 .nil)))) (by decide+kernel) (by kernel_rfl) (by decide+kernel) ?_
   simp only[List.take_succ_cons,List.take_zero]
   try refine sq F ?_
   repeat' (first|refine cK ?_| (refine cL rfl ?_;refine sq F ?_)| (refine cM rfl rfl ?_ ?_<;>refine sq F ?_))
   all_goals (
    refine hK2 _ _ _ (Wkn.refl ⟨m+1,(lkM s.fo f.inn).getD Fo.z,(lkM s.fo f.inn).isSome,rfl,aA,?_,?_,?_,?_,step k1 (m+1) f.inn h2 h1⟩) (by omega)
    all_goals first|exact zq F|rfl|omega|trivial|skip)
  ·rw[c]at h1;cases h1
 ·rcases hi with⟨h1,_⟩| ⟨_,h1⟩
  ·rw[c]at h1;cases h1
  ·subst h1
   refine ee hQ F ?_
   exact ak hn (.int _ _) ⟨rfl,rfl⟩
end Go.Av
namespace Go.Av
open Go Go.Proofs Go.RowKit
attribute [local irreducible] WP WPl WPix Sat
variable (G:Nat→Option (List AVal))
def sortI(l:List Int):List Int:=l.mergeSort (fun x y=>decide (x≤y))
def valsM{α:Type}(z:α)(l:ML Int α):List α:=(sortI (l.map (·.1))).map fun k=>(lkM l k).getD z
theorem cy(l:List Int):(sortI l).length=l.length:=(List.mergeSort_perm _ _).length_eq
theorem Fo.cells_sto(e:Fo):∀c∈e.av.cells,c.sto=true:=by
 intro c hc;simp only[Fo.av,AVal.cells,List.mem_cons,List.mem_nil_iff,or_false]at hc;rcases hc with rfl|rfl|rfl<;>rfl
theorem Fe.cells_sto(e:Fe):∀c∈e.av.cells,c.sto=true:=by
 intro c hc;simp only[Fe.av,AVal.cells,List.mem_cons,List.mem_nil_iff,or_false]at hc;rcases hc with rfl|rfl|rfl|rfl<;>rfl
theorem Se.cells_sto(e:Se):∀c∈e.av.cells,c.sto=true:=by
 intro c hc;simp only[Se.av,AVal.cells,List.mem_cons,List.mem_nil_iff,or_false]at hc;rcases hc with rfl|rfl|rfl<;>rfl
theorem It.cells_sto(e:It):∀c∈e.av.cells,c.sto=true:=by
 intro c hc;simp only[It.av,AVal.cells,List.mem_cons,List.mem_nil_iff,or_false]at hc;rcases hc with rfl|rfl|rfl|rfl|rfl|rfl|rfl|rfl|rfl<;>rfl
theorem Fo.clo(N:Nat)(f:Fo):Clo N f.av:=bF fun c hc=>by simp[Fo.av]at hc;rcases hc with rfl|rfl|rfl<;>simp
theorem Fe.clo(N:Nat)(f:Fe):Clo N f.av:=bF fun c hc=>by simp[Fe.av]at hc;rcases hc with rfl|rfl|rfl|rfl<;>simp
theorem Se.clo(N:Nat)(f:Se):Clo N f.av:=bF fun c hc=>by simp[Se.av]at hc;rcases hc with rfl|rfl|rfl<;>simp
theorem p9(p:Nat)(h:Heap):Sat (CT G) 116 [.hm p] h (fun r h'=>r=.fn (.func 168) [] [.hp h.length 0 0 0]∧h'=h++[.row 98 1 0 [.hm p]]):=by
 refine sb [.tmp 2] (fn:=Tryz.f116) Tryz.func116 ?_
 intro Q hQ
 refine wk trivial ?_
 refine ee hQ trivial ?_
 exact Fin.whole (by simp) (.fn _ _ _ (fun _ h=>by cases h) (fun x hx=>by simp at hx;subst hx;exact .hp _ _ _ _ (by simp))) ⟨rfl,rfl⟩
theorem jW(s:PS)(hw:WFM s.fo s.c1)(hb:∀e∈s.fo, -9223372036854775808≤e.1∧e.1≤9223372036854775807)(hl:s.fo.length≤100000){H:Heap}{n:Nat}(hn:n+9≤H.length):Sat (CT G) 66 [.hm (n)] (so H n s) (fun r h'=>r=.sl 3 ((valsM Fo.z s.fo).map Fo.av)∧h'=so H n s):=by
 have hsl:=cy (s.fo.map (·.1))
 rw[List.length_map]at hsl
 refine sb [.tmp 2] (fn:=Tryz.f66) Tryz.func66 ?_
 intro Q hQ
 refine wk trivial ?_
 refine kq trivial (p9 G _ _) ?_
 refine kq trivial (cW G Fo.av _ Tryz.sortedKeys116 s.fo s.c1 hw hb hl (by rw[bt (by simp;omega) 0 (by omega),aF _ rfl];rfl) (Ad (by simp;omega))) ?_
 unfold valsM at hQ
 have hks:(List.map (fun x=>x.1) s.fo).mergeSort (fun x y=>decide (x≤y))=sortI (s.fo.map (·.1)):=rfl
 rw[hks]
 generalize sortI (s.fo.map (·.1))=ks at*
 have hkm:(ks.map iA).length=ks.length:=List.length_map ..
 have F:=hkm
 refine lm (fun nL tL hL=>∃(k v:Nat) (acc:List Fo),ks.length-k=nL∧so (H++[.row 98 1 0 [.hm (n)],.row 116 3 v (acc.map Fo.av)]) n s=hL∧tL 0=.hm (n)∧tL 3=.hs (H.length+1) v 0 acc.length true∧tL 8=.sl 1 (ks.map iA)∧tL 9=.int .i64 (ks.length:Int)∧tL 10=.int .i64 k∧k≤ks.length∧acc.length=k∧acc++(ks.drop k).map (fun k=>(lkM s.fo k).getD Fo.z)=ks.map (fun k=>(lkM s.fo k).getD Fo.z)) ((fun(k v:Nat) (acc:List Fo)=>(ks.length-k:Nat)) (0) (0) ([])) ?_ ?_
 ·refine⟨_,_,Weak.virt 3 116 3 (by simp) (by omega) (by exact zq F),⟨0,0,[],rfl,by rw[aI (by simp;omega)];simp,?_,?_,?_,?_,?_,by omega,rfl,by simp⟩⟩
  all_goals first|exact zq F|rfl|omega|trivial|skip
 rintro _ s2 h' ⟨k,v,acc,rfl,rfl,e0,e3,e8,e9,e10,hk,hac,hp⟩ K2 hK2
 simp only[ai,aj,Nat.reduceEqDiff, ↓reduceIte]at e0 e3 e8 e9 e10
 have F:=F6 F e0 e3 e8 e9 e10
 refine wk F ?_
 refine cq F (fun c1=>?_) (fun c1=>?_)<;>(try exact c1.elim)<;>(refine wk F ?_)
 ·have c2:k<ks.length:=by omega
  obtain⟨y,hy,hym⟩:=ae c2
  rw[ap hy,List.map_cons]at hp
  have F:=F3 F hy @az
  try refine sq F ?_
  refine wk F ?_
  refine aq F ?_
  try refine sq F ?_
  refine wk F ?_
  refine hK2 _ _ _ (Wkn.refl ⟨k+1,v+1,acc++[(lkM s.fo y).getD Fo.z],rfl,by simp[Fo.av],?_,?_,?_,?_,?_,by omega,by simp;omega,by rw[← hp];simp⟩) (by omega)
  all_goals first|exact zq F|rfl|omega|trivial|skip
 ·rw[aD c1,List.map_nil,List.append_nil]at hp
  refine ee hQ F ?_
  rw[← hp]
  have hbl:n+(s.bl n).length≤H.length:=hn
  have hg:getRow (so (H++[.row 98 1 0 [.hm (n)],.row 116 3 v (acc.map Fo.av)]) n s) (H.length+1) v=some (116,3,acc.map Fo.av):=by
   rw[bt (by simp;omega) v (by omega),aZ _ rfl];simp[getRow]
  exact cn hbl rfl (PS.clo hn s) (Frz.data (by omega) hg (by simp) (fun r hr=>by obtain⟨a,_,rfl⟩:=List.mem_map.1 hr;exact Fo.clo _ a) (fun r hr=>by obtain⟨a,_,rfl⟩:=List.mem_map.1 hr;exact a.cells_sto)) ⟨rfl,rfl⟩
theorem pb(p:Nat)(h:Heap):Sat (CT G) 117 [.hm p] h (fun r h'=>r=.fn (.func 169) [] [.hp h.length 0 0 0]∧h'=h++[.row 99 1 0 [.hm p]]):=by
 refine sb [.tmp 2] (fn:=Tryz.f117) Tryz.func117 ?_
 intro Q hQ
 refine wk trivial ?_
 refine ee hQ trivial ?_
 exact Fin.whole (by simp) (.fn _ _ _ (fun _ h=>by cases h) (fun x hx=>by simp at hx;subst hx;exact .hp _ _ _ _ (by simp))) ⟨rfl,rfl⟩
theorem jX(s:PS)(hw:WFM s.fe s.c2)(hb:∀e∈s.fe, -9223372036854775808≤e.1∧e.1≤9223372036854775807)(hl:s.fe.length≤100000){H:Heap}{n:Nat}(hn:n+9≤H.length):Sat (CT G) 67 [.hm (n+1)] (so H n s) (fun r h'=>r=.sl 4 ((valsM Fe.z s.fe).map Fe.av)∧h'=so H n s):=by
 have hsl:=cy (s.fe.map (·.1))
 rw[List.length_map]at hsl
 refine sb [.tmp 2] (fn:=Tryz.f67) Tryz.func67 ?_
 intro Q hQ
 refine wk trivial ?_
 refine kq trivial (pb G _ _) ?_
 refine kq trivial (cW G Fe.av _ Tryz.sortedKeys117 s.fe s.c2 hw hb hl (by rw[bt (by simp;omega) 0 (by omega),aF _ rfl];rfl) (Ae (by simp;omega))) ?_
 unfold valsM at hQ
 have hks:(List.map (fun x=>x.1) s.fe).mergeSort (fun x y=>decide (x≤y))=sortI (s.fe.map (·.1)):=rfl
 rw[hks]
 generalize sortI (s.fe.map (·.1))=ks at*
 have hkm:(ks.map iA).length=ks.length:=List.length_map ..
 have F:=hkm
 refine lm (fun nL tL hL=>∃(k v:Nat) (acc:List Fe),ks.length-k=nL∧so (H++[.row 99 1 0 [.hm (n+1)],.row 114 4 v (acc.map Fe.av)]) n s=hL∧tL 0=.hm (n+1)∧tL 3=.hs (H.length+1) v 0 acc.length true∧tL 8=.sl 1 (ks.map iA)∧tL 9=.int .i64 (ks.length:Int)∧tL 10=.int .i64 k∧k≤ks.length∧acc.length=k∧acc++(ks.drop k).map (fun k=>(lkM s.fe k).getD Fe.z)=ks.map (fun k=>(lkM s.fe k).getD Fe.z)) ((fun(k v:Nat) (acc:List Fe)=>(ks.length-k:Nat)) (0) (0) ([])) ?_ ?_
 ·refine⟨_,_,Weak.virt 3 114 4 (by simp) (by omega) (by exact zq F),⟨0,0,[],rfl,by rw[aI (by simp;omega)];simp,?_,?_,?_,?_,?_,by omega,rfl,by simp⟩⟩
  all_goals first|exact zq F|rfl|omega|trivial|skip
 rintro _ s2 h' ⟨k,v,acc,rfl,rfl,e0,e3,e8,e9,e10,hk,hac,hp⟩ K2 hK2
 simp only[ai,aj,Nat.reduceEqDiff, ↓reduceIte]at e0 e3 e8 e9 e10
 have F:=F6 F e0 e3 e8 e9 e10
 refine wk F ?_
 refine cq F (fun c1=>?_) (fun c1=>?_)<;>(try exact c1.elim)<;>(refine wk F ?_)
 ·have c2:k<ks.length:=by omega
  obtain⟨y,hy,hym⟩:=ae c2
  rw[ap hy,List.map_cons]at hp
  have F:=F3 F hy @az
  try refine sq F ?_
  refine wk F ?_
  refine aq F ?_
  try refine sq F ?_
  refine wk F ?_
  refine hK2 _ _ _ (Wkn.refl ⟨k+1,v+1,acc++[(lkM s.fe y).getD Fe.z],rfl,by simp[Fe.av],?_,?_,?_,?_,?_,by omega,by simp;omega,by rw[← hp];simp⟩) (by omega)
  all_goals first|exact zq F|rfl|omega|trivial|skip
 ·rw[aD c1,List.map_nil,List.append_nil]at hp
  refine ee hQ F ?_
  rw[← hp]
  have hbl:n+(s.bl n).length≤H.length:=hn
  have hg:getRow (so (H++[.row 99 1 0 [.hm (n+1)],.row 114 4 v (acc.map Fe.av)]) n s) (H.length+1) v=some (114,4,acc.map Fe.av):=by
   rw[bt (by simp;omega) v (by omega),aZ _ rfl];simp[getRow]
  exact cn hbl rfl (PS.clo hn s) (Frz.data (by omega) hg (by simp) (fun r hr=>by obtain⟨a,_,rfl⟩:=List.mem_map.1 hr;exact Fe.clo _ a) (fun r hr=>by obtain⟨a,_,rfl⟩:=List.mem_map.1 hr;exact a.cells_sto)) ⟨rfl,rfl⟩
theorem pc(p:Nat)(h:Heap):Sat (CT G) 118 [.hm p] h (fun r h'=>r=.fn (.func 170) [] [.hp h.length 0 0 0]∧h'=h++[.row 100 1 0 [.hm p]]):=by
 refine sb [.tmp 2] (fn:=Tryz.f118) Tryz.func118 ?_
 intro Q hQ
 refine wk trivial ?_
 refine ee hQ trivial ?_
 exact Fin.whole (by simp) (.fn _ _ _ (fun _ h=>by cases h) (fun x hx=>by simp at hx;subst hx;exact .hp _ _ _ _ (by simp))) ⟨rfl,rfl⟩
theorem pd(p:Nat)(h:Heap):Sat (CT G) 119 [.hm p] h (fun r h'=>r=.fn (.func 171) [] [.hp h.length 0 0 0]∧h'=h++[.row 101 1 0 [.hm p]]):=by
 refine sb [.tmp 2] (fn:=Tryz.f119) Tryz.func119 ?_
 intro Q hQ
 refine wk trivial ?_
 refine ee hQ trivial ?_
 exact Fin.whole (by simp) (.fn _ _ _ (fun _ h=>by cases h) (fun x hx=>by simp at hx;subst hx;exact .hp _ _ _ _ (by simp))) ⟨rfl,rfl⟩
theorem jY(s:PS)(hw:WFM s.se s.c4)(hb:∀e∈s.se, -9223372036854775808≤e.1∧e.1≤9223372036854775807)(hl:s.se.length≤100000){H:Heap}{n:Nat}(hn:n+9≤H.length):Sat (CT G) 69 [.hm (n+3)] (so H n s) (fun r h'=>r=.sl 3 ((valsM Se.z s.se).map Se.av)∧h'=so H n s):=by
 have hsl:=cy (s.se.map (·.1))
 rw[List.length_map]at hsl
 refine sb [.tmp 2] (fn:=Tryz.f69) Tryz.func69 ?_
 intro Q hQ
 refine wk trivial ?_
 refine kq trivial (pd G _ _) ?_
 refine kq trivial (cW G Se.av _ Tryz.sortedKeys119 s.se s.c4 hw hb hl (by rw[bt (by simp;omega) 0 (by omega),aF _ rfl];rfl) (Af (by simp;omega))) ?_
 unfold valsM at hQ
 have hks:(List.map (fun x=>x.1) s.se).mergeSort (fun x y=>decide (x≤y))=sortI (s.se.map (·.1)):=rfl
 rw[hks]
 generalize sortI (s.se.map (·.1))=ks at*
 have hkm:(ks.map iA).length=ks.length:=List.length_map ..
 have F:=hkm
 refine lm (fun nL tL hL=>∃(k v:Nat) (acc:List Se),ks.length-k=nL∧so (H++[.row 101 1 0 [.hm (n+3)],.row 145 3 v (acc.map Se.av)]) n s=hL∧tL 0=.hm (n+3)∧tL 3=.hs (H.length+1) v 0 acc.length true∧tL 8=.sl 1 (ks.map iA)∧tL 9=.int .i64 (ks.length:Int)∧tL 10=.int .i64 k∧k≤ks.length∧acc.length=k∧acc++(ks.drop k).map (fun k=>(lkM s.se k).getD Se.z)=ks.map (fun k=>(lkM s.se k).getD Se.z)) ((fun(k v:Nat) (acc:List Se)=>(ks.length-k:Nat)) (0) (0) ([])) ?_ ?_
 ·refine⟨_,_,Weak.virt 3 145 3 (by simp) (by omega) (by exact zq F),⟨0,0,[],rfl,by rw[aI (by simp;omega)];simp,?_,?_,?_,?_,?_,by omega,rfl,by simp⟩⟩
  all_goals first|exact zq F|rfl|omega|trivial|skip
 rintro _ s2 h' ⟨k,v,acc,rfl,rfl,e0,e3,e8,e9,e10,hk,hac,hp⟩ K2 hK2
 simp only[ai,aj,Nat.reduceEqDiff, ↓reduceIte]at e0 e3 e8 e9 e10
 have F:=F6 F e0 e3 e8 e9 e10
 refine wk F ?_
 refine cq F (fun c1=>?_) (fun c1=>?_)<;>(try exact c1.elim)<;>(refine wk F ?_)
 ·have c2:k<ks.length:=by omega
  obtain⟨y,hy,hym⟩:=ae c2
  rw[ap hy,List.map_cons]at hp
  have F:=F3 F hy @az
  try refine sq F ?_
  refine wk F ?_
  refine aq F ?_
  try refine sq F ?_
  refine wk F ?_
  refine hK2 _ _ _ (Wkn.refl ⟨k+1,v+1,acc++[(lkM s.se y).getD Se.z],rfl,by simp[Se.av],?_,?_,?_,?_,?_,by omega,by simp;omega,by rw[← hp];simp⟩) (by omega)
  all_goals first|exact zq F|rfl|omega|trivial|skip
 ·rw[aD c1,List.map_nil,List.append_nil]at hp
  refine ee hQ F ?_
  rw[← hp]
  have hbl:n+(s.bl n).length≤H.length:=hn
  have hg:getRow (so (H++[.row 101 1 0 [.hm (n+3)],.row 145 3 v (acc.map Se.av)]) n s) (H.length+1) v=some (145,3,acc.map Se.av):=by
   rw[bt (by simp;omega) v (by omega),aZ _ rfl];simp[getRow]
  exact cn hbl rfl (PS.clo hn s) (Frz.data (by omega) hg (by simp) (fun r hr=>by obtain⟨a,_,rfl⟩:=List.mem_map.1 hr;exact Se.clo _ a) (fun r hr=>by obtain⟨a,_,rfl⟩:=List.mem_map.1 hr;exact a.cells_sto)) ⟨rfl,rfl⟩
theorem je(s:PS)(hw:WFM s.it s.c3)(hb:∀e∈s.it, -9223372036854775808≤e.1∧e.1≤9223372036854775807)(hl:s.it.length≤100000){H:Heap}{n:Nat}(hn:n+9≤H.length):Sat (CT G) 68 [.hm (n+2)] (so H n s) (fun r h'=>∃v,r=.hs (H.length+1) v 0 (valsM It.z s.it).length true∧h'=so (H++[.row 100 1 0 [.hm (n+2)],.row 56 9 v ((valsM It.z s.it).map It.av)]) n s):=by
 have hsl:=cy (s.it.map (·.1))
 rw[List.length_map]at hsl
 refine sb [.tmp 2] (fn:=Tryz.f68) Tryz.func68 ?_
 intro Q hQ
 refine wk trivial ?_
 refine kq trivial (pc G _ _) ?_
 refine kq trivial (cW G It.av _ Tryz.sortedKeys118 s.it s.c3 hw hb hl (by rw[bt (by simp;omega) 0 (by omega),aF _ rfl];rfl) (p6 (by simp;omega))) ?_
 unfold valsM at hQ
 have hks:(List.map (fun x=>x.1) s.it).mergeSort (fun x y=>decide (x≤y))=sortI (s.it.map (·.1)):=rfl
 rw[hks]
 generalize sortI (s.it.map (·.1))=ks at*
 have hkm:(ks.map iA).length=ks.length:=List.length_map ..
 have F:=hkm
 refine lm (fun nL tL hL=>∃(k v:Nat) (acc:List It),ks.length-k=nL∧so (H++[.row 100 1 0 [.hm (n+2)],.row 56 9 v (acc.map It.av)]) n s=hL∧tL 0=.hm (n+2)∧tL 3=.hs (H.length+1) v 0 acc.length true∧tL 8=.sl 1 (ks.map iA)∧tL 9=.int .i64 (ks.length:Int)∧tL 10=.int .i64 k∧k≤ks.length∧acc.length=k∧acc++(ks.drop k).map (fun k=>(lkM s.it k).getD It.z)=ks.map (fun k=>(lkM s.it k).getD It.z)) ((fun(k v:Nat) (acc:List It)=>(ks.length-k:Nat)) (0) (0) ([])) ?_ ?_
 ·refine⟨_,_,Weak.virt 3 56 9 (by simp) (by omega) (by exact zq F),⟨0,0,[],rfl,by rw[aI (by simp;omega)];simp,?_,?_,?_,?_,?_,by omega,rfl,by simp⟩⟩
  all_goals first|exact zq F|rfl|omega|trivial|skip
 rintro _ s2 h' ⟨k,v,acc,rfl,rfl,e0,e3,e8,e9,e10,hk,hac,hp⟩ K2 hK2
 simp only[ai,aj,Nat.reduceEqDiff, ↓reduceIte]at e0 e3 e8 e9 e10
 have F:=F6 F e0 e3 e8 e9 e10
 refine wk F ?_
 refine cq F (fun c1=>?_) (fun c1=>?_)<;>(try exact c1.elim)<;>(refine wk F ?_)
 ·have c2:k<ks.length:=by omega
  obtain⟨y,hy,hym⟩:=ae c2
  rw[ap hy,List.map_cons]at hp
  have F:=F3 F hy @az
  try refine sq F ?_
  refine wk F ?_
  refine aq F ?_
  try refine sq F ?_
  refine wk F ?_
  refine hK2 _ _ _ (Wkn.refl ⟨k+1,v+1,acc++[(lkM s.it y).getD It.z],rfl,by simp[It.av],?_,?_,?_,?_,?_,by omega,by simp;omega,by rw[← hp];simp⟩) (by omega)
  all_goals first|exact zq F|rfl|omega|trivial|skip
 ·rw[aD c1,List.map_nil,List.append_nil]at hp
  refine ee hQ F ?_
  rw[← hp]
  have hal:acc.length=ks.length:=by omega
  exact Fin.whole (by rw[aB hn,aB (by simp;omega)];simp) (.hs _ _ _ _ _ (by rw[aB (by simp;omega)];simp)) ⟨v,by simp[hal],rfl⟩
end Go.Av
namespace Go.Av
open Go Go.Proofs Go.RowKit
attribute [local irreducible] WP WPl WPix Sat
variable (G:Nat→Option (List AVal))
theorem iF{h0:Heap}{R:AVal→Heap→Prop}{r0 r:AVal}(hz:Frz h0 h0.length r0 r)(hR:R r h0):Fin h0 h0 R r0:=by
 have:=Fin.frz (h0:=h0) (j:=[]) (R:=R) (r0:=r0) (r:=r) (by rwa [List.append_nil]) hR
 rwa [List.append_nil]at this
theorem pf(l:List Bs)(hl:l.length≤1048576)(h:Heap):Sat (CT G) 87 [.sl 1 (l.map .str)] h (fun r h'=>r=.sl 1 (l.map .str)∧h'=h):=by
 rcases l with _| ⟨a,l⟩
 ·refine sb [.tmp 2] (fn:=Tryz.f87) Tryz.func87 ?_
  intro Q hQ
  refine wk trivial ?_
  refine iX _ (by exact zq trivial) (.inl rfl) fun b=>?_
  cases b
  ·try refine sq trivial ?_
   refine wk trivial ?_
   refine gG (.inl rfl) (by simp(disch:=first|omega| (simp only[go_sem, ↓reduceIte,seval];first|done|omega)|fail) only[go_sem, ↓reduceIte,seval];rfl) (by simp(disch:=first|omega| (simp only[go_sem, ↓reduceIte,seval];first|done|omega)|fail) only[go_sem, ↓reduceIte,seval];rfl) (by simp(disch:=first|omega| (simp only[go_sem, ↓reduceIte,seval];first|done|omega)|fail) only[go_sem, ↓reduceIte,seval];rfl) (by simp(disch:=first|omega| (simp only[go_sem, ↓reduceIte,seval];first|done|omega)|fail) only[go_sem, ↓reduceIte,seval];try rfl) (by omega) (by simp only[elemsOf, ↓reduceIte];try rfl) (by simp) (fun _=>?_) (fun h=>absurd rfl h)
   try refine sq trivial ?_
   refine wk trivial ?_
   refine ee hQ trivial ?_
   exact iF (.ezs _) ⟨rfl,rfl⟩
  ·try refine sq trivial ?_
   refine wk trivial ?_
   refine ee hQ trivial ?_
   exact iF (.nils _) ⟨rfl,rfl⟩
 ·have hr:(List.map AVal.str (a::l))≠ []:=by simp
  refine sb [.tmp 2] (fn:=Tryz.f87) Tryz.func87 ?_
  intro Q hQ
  refine wk trivial ?_
  refine gG (.inl rfl) (by simp(disch:=first|omega| (simp only[go_sem, ↓reduceIte,seval];first|done|omega)|fail) only[go_sem, ↓reduceIte,seval];rfl) (by simp(disch:=first|omega| (simp only[go_sem, ↓reduceIte,seval];first|done|omega)|fail) only[go_sem, ↓reduceIte,seval];rfl) (by simp(disch:=first|omega| (simp only[go_sem, ↓reduceIte,seval];first|done|omega)|fail) only[go_sem, ↓reduceIte,seval];rfl) (by simp(disch:=first|omega| (simp only[go_sem, ↓reduceIte,seval];first|done|omega)|fail) only[go_sem, ↓reduceIte,seval];try rfl) (by omega) (by simp only[elemsOf, ↓reduceIte];try rfl) ?_ (fun h=>by simp at h) (fun _=>?_)
  ·simp[maxLen]at hl ⊢;omega
  try refine sq trivial ?_
  refine wk trivial ?_
  refine ee hQ trivial ?_
  have hg:getRow (h++[.row 9 1 0 ((a::l).map .str)]) h.length 0=some (9,1,(a::l).map .str):=by rw[aF _ rfl];simp[getRow]
  have:=Frz.data (n:=h.length) (len:=(a::l).length) (room:=true) (Nat.le_refl _) hg (by simp) (fun r hr=>by obtain⟨a,_,rfl⟩:=List.mem_map.1 hr;exact .str _) (fun r hr c hc=>by obtain⟨a,_,rfl⟩:=List.mem_map.1 hr;simp[AVal.cells]at hc;subst hc;rfl)
  simp only[List.length_cons,List.map_cons]at this
  exact Fin.frz (by simpa using this) ⟨rfl,rfl⟩
theorem ft(t:It)(ht:t.tags.length≤1048576)(h:Heap):Sat (CT G) 47 [t.av] h (fun r h'=>r=t.av∧h'=h):=by
 refine sb [.cell 2 56] (fn:=Tryz.f47) Tryz.func47 ?_
 intro Q hQ
 refine wk trivial ?_
 refine kq trivial (pf G t.tags ht _) ?_
 refine ye hQ trivial ?_
 exact Fin.plain (It.clo _ t) ⟨rfl,rfl⟩
theorem jf(s:PS)(id:Int)(ht:((lkM s.it id).getD It.z).tags.length≤1048576){H:Heap}{n:Nat}(hn:n+9≤H.length):Sat (CT G) 19 [.hp (n+8) 0 0 0,.int .i64 id] (so H n s) (fun r h'=>r=.tup [((lkM s.it id).getD It.z).av,.bool (lkM s.it id).isSome]∧h'=so H n s):=by
 refine sb [.cell 4 56,.tmp 5] (fn:=Tryz.f19) Tryz.func19 ?_
 intro Q hQ
 refine wk trivial ?_
 refine kq trivial (ft G ((lkM s.it id).getD It.z) ht _) ?_
 refine ye hQ trivial ?_
 exact ak hn (.tup _ (fun x hx=>by simp only[List.mem_cons,List.not_mem_nil,or_false]at hx;rcases hx with rfl|rfl;exact It.clo _ _;exact .bool _)) ⟨rfl,rfl⟩
end Go.Av
namespace Go.Av
open Go Go.Proofs Go.RowKit
attribute [local irreducible] WP WPl WPix Sat
variable (G:Nat→Option (List AVal))
structure St where
 clock:Int
 fo:List Fo
 fe:List Fe
 it:List It
 se:List Se
 t1:Int
 t2:Int
 t3:Int
 t4:Int
def St.av(x:St):AVal:=.agg [.int .i64 x.clock,.sl 3 (x.fo.map Fo.av),.sl 4 (x.fe.map Fe.av),.sl 9 (x.it.map It.av),.sl 3 (x.se.map Se.av),.int .i64 x.t1,.int .i64 x.t2,.int .i64 x.t3,.int .i64 x.t4]
@[go_sem] theorem St.av_eq(x:St):x.av=.agg [.int .i64 x.clock,.sl 3 (x.fo.map Fo.av),.sl 4 (x.fe.map Fe.av),.sl 9 (x.it.map It.av),.sl 3 (x.se.map Se.av),.int .i64 x.t1,.int .i64 x.t2,.int .i64 x.t3,.int .i64 x.t4]:=(rfl)
def PS.tell(s:PS):St:=⟨s.clock,valsM Fo.z s.fo,valsM Fe.z s.fe,valsM It.z s.it,valsM Se.z s.se,s.t1,s.t2,s.t3,s.t4⟩
def inI(k:Int):Prop:= -9223372036854775808≤k∧k≤9223372036854775807
structure PS.Ok (s:PS):Prop where
 w1:WFM s.fo s.c1
 w2:WFM s.fe s.c2
 w3:WFM s.it s.c3
 w4:WFM s.se s.c4
 b1:∀e∈s.fo,inI e.1
 b2:∀e∈s.fe,inI e.1
 b3:∀e∈s.it,inI e.1
 b4:∀e∈s.se,inI e.1
 l1:s.fo.length≤100000
 l2:s.fe.length≤100000
 l3:s.it.length≤100000
 l4:s.se.length≤100000
 tg:∀t∈valsM It.z s.it,t.tags.length≤1048576
theorem jZ{N:Nat}{h:Heap}{α:Type}{av:α→AVal}{m:Nat}(hc:∀a,Clo N (av a))(l:List α):Frz h N (.sl m (l.map av)) (.sl m (l.map av)):=
 .clo _ (Clo.sl _ _ fun x hx=>by obtain⟨a,_,rfl⟩:=List.mem_map.1 hx;exact hc a)
theorem tB(s:PS){H j:Heap}{n p v:Nat}(hn:n+9≤H.length)(hg:getRow (H++j) (H.length+p) v=some (56,9,(valsM It.z s.it).map It.av)):
  Fin (so H n s) (so (H++j) n s) (fun r h'=>r=s.tell.av∧h'=so H n s) (.agg [.int .i64 s.clock,.sl 3 ((valsM Fo.z s.fo).map Fo.av),.sl 4 ((valsM Fe.z s.fe).map Fe.av),.hs (H.length+p) v 0 (valsM It.z s.it).length true,.sl 3 ((valsM Se.z s.se).map Se.av),.int .i64 s.t1,.int .i64 s.t2,.int .i64 s.t3,.int .i64 s.t4]):=by
 have hl:H.length+p<(H++j).length:=bo hg
 have hg':getRow (so (H++j) n s) (H.length+p) v=some (56,9,(valsM It.z s.it).map It.av):=by rw[bt (by simp;omega) v (by omega)];exact hg
 refine cn hn rfl (PS.clo hn s) (FrzL.agg (.cons (.clo _ (.int _ _)) (.cons (jZ (Fo.clo _) _) (.cons (jZ (Fe.clo _) _) (.cons (Frz.data (by omega) hg' (by simp) (fun r hr=>by obtain⟨a,_,rfl⟩:=List.mem_map.1 hr;exact It.clo _ a) (fun r hr=>by obtain⟨a,_,rfl⟩:=List.mem_map.1 hr;exact a.cells_sto)) (.cons (jZ (Se.clo _) _) (.cons (.clo _ (.int _ _)) (.cons (.clo _ (.int _ _)) (.cons (.clo _ (.int _ _)) (.cons (.clo _ (.int _ _)) .nil))))))))) rfl) ⟨rfl,rfl⟩
def PS.tellH(s:PS)(p v:Nat):AVal:=.agg [.int .i64 s.clock,.sl 3 ((valsM Fo.z s.fo).map Fo.av),.sl 4 ((valsM Fe.z s.fe).map Fe.av),.hs p v 0 (valsM It.z s.it).length true,.sl 3 ((valsM Se.z s.se).map Se.av),.int .i64 s.t1,.int .i64 s.t2,.int .i64 s.t3,.int .i64 s.t4]
theorem ie(s:PS)(hs:s.Ok){H:Heap}{n:Nat}(hn:n+9≤H.length)(R:AVal→Heap→Prop)
  (hR:∀(j:Heap) (p v:Nat),getRow (H++j) (H.length+p) v=some (56,9,(valsM It.z s.it).map It.av)→Fin (so H n s) (so (H++j) n s) R (s.tellH (H.length+p) v)):Sat (CT G) 34 [.hp (n+8) 0 0 0] (so H n s) R:=by
 have hvl:(valsM It.z s.it).length≤100000:=by unfold valsM;rw[List.length_map,cy,List.length_map];exact hs.l3
 refine sb [.cell 2 40] (fn:=Tryz.f34) Tryz.func34 ?_
 intro Q hQ
 refine wk trivial ?_
 refine aM 46 [8,13,18,23,44,45] [true,true,true,true,true,true,true,true,false,true,true,true,true,false,true,true,true,true,false,true,true,true,true,false,true,true,true,true,true,true,true,true,true,true,true,true,true,true,true,true,true,true,true,true,false,false] (.two 8 [false,true,true,true,false,false,false,false,false,false,true,true,true,false,false,true,true,true,false,false,true,true,true,false,false,true,true,true,true,false,true,true,true,true,false,true,true,true,true,false,true,true,true,true] (.two 13 [false,true,true,true,false,false,false,false,false,false,false,false,false,false,false,true,true,true,false,false,true,true,true,false,false,true,true,true,true,false,true,true,true,true,false,true,true,true,true,false,true,true,true,true] (.two 18 [false,true,true,true,false,false,false,false,false,false,false,false,false,false,false,false,false,false,false,false,true,true,true,false,false,true,true,true,true,false,true,true,true,true,false,true,true,true,true,false,true,true,true,true] (.two 23 [false,true,true,true,false,false,false,false,false,false,false,false,false,false,false,false,false,false,false,false,false,false,false,false,false,true,true,true,true,false,true,true,true,true,false,true,true,true,true,false,true,true,true,true] (.two 44 [] (.one 45 [] .fin) 45 [false,true,true,true,false,false,false,false,false,false,false,false,false,false,false,false,false,false,false,false,false,false,false,false,false,true,true,true,true,false,true,true,true,true,false,true,true,true,true,false,true,true,true,true] (.one 44 [] .fin)) 45 [false,true,true,true,false,false,false,false,false,false,false,false,false,false,false,false,false,false,false,false,true,true,true,false,false,true,true,true,true,false,true,true,true,true,false,true,true,true,true,false,true,true,true,true] (.one 23 [false,true,true,true,false,false,false,false,false,false,false,false,false,false,false,false,false,false,false,false,false,false,false,false,false,true,true,true,true,false,true,true,true,true,false,true,true,true,true,false,true,true,true,true] (.one 44 [] .fin))) 45 [false,true,true,true,false,false,false,false,false,false,false,false,false,false,false,true,true,true,false,false,true,true,true,false,false,true,true,true,true,false,true,true,true,true,false,true,true,true,true,false,true,true,true,true] (.one 18 [false,true,true,true,false,false,false,false,false,false,false,false,false,false,false,false,false,false,false,false,true,true,true,false,false,true,true,true,true,false,true,true,true,true,false,true,true,true,true,false,true,true,true,true] (.one 23 [false,true,true,true,false,false,false,false,false,false,false,false,false,false,false,false,false,false,false,false,false,false,false,false,false,true,true,true,true,false,true,true,true,true,false,true,true,true,true,false,true,true,true,true] (.one 44 [] .fin)))) 45 [false,true,true,true,false,false,false,false,false,false,true,true,true,false,false,true,true,true,false,false,true,true,true,false,false,true,true,true,true,false,true,true,true,true,false,true,true,true,true,false,true,true,true,true] (.one 13 [false,true,true,true,false,false,false,false,false,false,false,false,false,false,false,true,true,true,false,false,true,true,true,false,false,true,true,true,true,false,true,true,true,true,false,true,true,true,true,false,true,true,true,true] (.one 18 [false,true,true,true,false,false,false,false,false,false,false,false,false,false,false,false,false,false,false,false,true,true,true,false,false,true,true,true,true,false,true,true,true,true,false,true,true,true,true,false,true,true,true,true] (.one 23 [false,true,true,true,false,false,false,false,false,false,false,false,false,false,false,false,false,false,false,false,false,false,false,false,false,true,true,true,true,false,true,true,true,true,false,true,true,true,true,false,true,true,true,true] (.one 44 [] .fin))))) 45 [false,true,true,true,false,true,true,true,false,false,true,true,true,false,false,true,true,true,false,false,true,true,true,false,false,true,true,true,true,false,true,true,true,true,false,true,true,true,true,false,true,true,true,true] (.one 8 [false,true,true,true,false,false,false,false,false,false,true,true,true,false,false,true,true,true,false,false,true,true,true,false,false,true,true,true,true,false,true,true,true,true,false,true,true,true,true,false,true,true,true,true] (.one 13 [false,true,true,true,false,false,false,false,false,false,false,false,false,false,false,true,true,true,false,false,true,true,true,false,false,true,true,true,true,false,true,true,true,true,false,true,true,true,true,false,true,true,true,true] (.one 18 [false,true,true,true,false,false,false,false,false,false,false,false,false,false,false,false,false,false,false,false,true,true,true,false,false,true,true,true,true,false,true,true,true,true,false,true,true,true,true,false,true,true,true,true] (.one 23 [false,true,true,true,false,false,false,false,false,false,false,false,false,false,false,false,false,false,false,false,false,false,false,false,false,true,true,true,true,false,true,true,true,true,false,true,true,true,true,false,true,true,true,true] (.one 44 [] .fin)))))) (by decide+kernel) (by kernel_rfl) (by decide+kernel) ?_
 simp only[aT,aU,aL]
 try refine sq trivial ?_
 repeat' (first| (refine au ?_;try refine sq trivial ?_)| (refine aw ?_;try refine sq trivial ?_)| (refine ax ?_ ?_<;>try refine sq trivial ?_))
 all_goals try refine wk trivial ?_
 repeat' (first
  | (refine(jW G s hs.w1 hs.b1 hs.l1 (by first|omega| (simp;omega))).mono ?_;rintro r h' ⟨rfl,rfl⟩;try refine sq trivial ?_)
  | (refine(jX G s hs.w2 hs.b2 hs.l2 (by first|omega| (simp;omega))).mono ?_;rintro r h' ⟨rfl,rfl⟩;try refine sq trivial ?_)
  | (refine(jY G s hs.w4 hs.b4 hs.l4 (by first|omega| (simp;omega))).mono ?_;rintro r h' ⟨rfl,rfl⟩;try refine sq trivial ?_)
  | (refine(je G s hs.w3 hs.b3 hs.l3 (by first|omega| (simp;omega))).mono ?_;rintro r h' ⟨v,rfl,rfl⟩;try refine sq trivial ?_)
  | (refine au ?_;try refine sq trivial ?_)| (refine aw ?_;try refine sq trivial ?_)| (refine ax ?_ ?_<;>try refine sq trivial ?_))
 all_goals try refine wk trivial ?_
 all_goals first
  | (
   refine lm (fun nL tL hL=>∃(k:Nat) (hh:Heap),(valsM It.z s.it).length-k=nL∧so hh n s=hL∧tL 2=.hp H.length 0 0 0∧tL 3=.hp (H.length+3) 0 0 0∧tL 55=.hs (H.length+2) v 0 (valsM It.z s.it).length true∧tL 56=.int .i64 ((valsM It.z s.it).length:Int)∧tL 57=.int .i64 k∧k≤(valsM It.z s.it).length∧(FrN H.length H hh∧H.length+3<hh.length)∧getRow hh H.length 0=some (40,9,[.agg [.int .i64 0,.nil (.slice none 0 0),.nil (.slice none 0 0),.nil (.slice none 0 0),.nil (.slice none 0 0),.int .i64 0,.int .i64 0,.int .i64 0,.int .i64 0]])∧getRow hh (H.length+3) 0=some (40,9,[.agg [.int .i64 s.clock,.sl 3 ((valsM Fo.z s.fo).map Fo.av),.sl 4 ((valsM Fe.z s.fe).map Fe.av),.hs (H.length+2) v 0 (valsM It.z s.it).length true,.sl 3 ((valsM Se.z s.se).map Se.av),.int .i64 s.t1,.int .i64 s.t2,.int .i64 s.t3,.int .i64 s.t4]])∧getRow hh (H.length+2) v=some (56,9,(valsM It.z s.it).map It.av)) ((fun(k:Nat) (hh:Heap)=>((valsM It.z s.it).length-k:Nat)) (0) (H++[.row 40 9 0 [.agg [.int .i64 0,.nil (.slice none 0 0),.nil (.slice none 0 0),.nil (.slice none 0 0),.nil (.slice none 0 0),.int .i64 0,.int .i64 0,.int .i64 0,.int .i64 0]],.row 100 1 0 [.hm (n+2)],.row 56 9 v ((valsM It.z s.it).map It.av),.row 40 9 0 [.agg [.int .i64 s.clock,.sl 3 ((valsM Fo.z s.fo).map Fo.av),.sl 4 ((valsM Fe.z s.fe).map Fe.av),.hs (H.length+2) v 0 (valsM It.z s.it).length true,.sl 3 ((valsM Se.z s.se).map Se.av),.int .i64 s.t1,.int .i64 s.t2,.int .i64 s.t3,.int .i64 s.t4]]])) ?_ ?_
   ·refine Wkn.refl ⟨0,H++[.row 40 9 0 [.agg [.int .i64 0,.nil (.slice none 0 0),.nil (.slice none 0 0),.nil (.slice none 0 0),.nil (.slice none 0 0),.int .i64 0,.int .i64 0,.int .i64 0,.int .i64 0]],.row 100 1 0 [.hm (n+2)],.row 56 9 v ((valsM It.z s.it).map It.av),.row 40 9 0 [.agg [.int .i64 s.clock,.sl 3 ((valsM Fo.z s.fo).map Fo.av),.sl 4 ((valsM Fe.z s.fe).map Fe.av),.hs (H.length+2) v 0 (valsM It.z s.it).length true,.sl 3 ((valsM Se.z s.se).map Se.av),.int .i64 s.t1,.int .i64 s.t2,.int .i64 s.t3,.int .i64 s.t4]]],rfl,aA,?_,?_,?_,?_,?_,by omega,⟨FrN.app _ (by omega) (FrN.refl _ _),by simp⟩,by rw[aF _ rfl];rfl,by rw[aZ _ rfl];rfl,by rw[aZ _ rfl];simp[getRow]⟩
    all_goals first|exact zq trivial|rfl|omega|trivial|skip
   rintro _ s2 h' ⟨k,hh,rfl,rfl,e2,e3,e55,e56,e57,hk,hfr,hg2,hgx,hgi⟩ K2 hK2
   simp only[ai,aj,Nat.reduceEqDiff, ↓reduceIte]at e2 e3 e55 e56 e57
   have F:=F5 e2 e3 e55 e56 e57
   refine wk F ?_
   obtain⟨hfr,hfl⟩:=hfr
   have hn1:n+9≤hh.length:=by omega
   refine cq F (fun c1=>?_) (fun c1=>?_)<;>(try exact c1.elim)<;>(refine wk F ?_)
   ·have c2:k<(valsM It.z s.it).length:=by omega
    obtain⟨y,hy,hym⟩:=ae c2
    have hyt:=hs.tg y hym
    have hset:((valsM It.z s.it).map It.av).set k (.agg [.int .i64 y.id,.int .i64 y.feed,.int .i64 y.date,.str y.guid,.str y.title,.str y.link,.bool y.read,.bool y.star,.sl 1 (y.tags.map .str)])=(valsM It.z s.it).map It.av:=by
     apply List.ext_getElem?
     intro q
     rw[List.getElem?_set]
     split
     ·rename_i hq;subst hq;rw[List.getElem?_map,hy];simp[c2,It.av]
     ·rfl
    have F:=F7 F c2 hy @hset hgi hgx @az
    try refine sq F ?_
    refine wk F ?_
    refine aG (ft G y hyt _) ?_
    try refine sq F ?_
    refine wk F ?_
    refine hK2 _ _ _ (Wkn.refl ⟨k+1,hh.set (H.length+2) (.row 56 9 v ((valsM It.z s.it).map It.av))++[.row 56 9 0 [y.av]],rfl,aA,?_,?_,?_,?_,?_,by omega,⟨FrN.app _ (by simp;omega) (FrN.set _ (by omega) hfr),by simp;omega⟩,by rw[bi _ (by simp;omega),ce _ _ (by omega)];exact hg2,by rw[bi _ (by simp;omega),ce _ _ (by omega)];exact hgx,by rw[bi _ (by simp;omega),fm _ _ _ _ _ (by omega),if_pos rfl]⟩) (by omega)
    all_goals first|exact zq F|rfl|omega|trivial|skip
   ·have F:=F5 F hg2 hgx hgi @az
    try refine sq F ?_
    refine wk F ?_
    refine ye hQ F ?_
    obtain⟨j,hj⟩:=hfr.behind (by omega)
    subst hj
    have hgi2:∀b,getRow (H++j.set 0 b) (H.length+2) v=some (56,9,(valsM It.z s.it).map It.av):=fun b=>by rw[← bI b rfl,ce _ _ (by omega)];exact hgi
    rw[bI _ rfl]
    exact hR _ _ _ (by simpa using hgi2 _))
  | (
   refine lm (fun nL tL hL=>∃(k:Nat) (hh:Heap),(valsM It.z s.it).length-k=nL∧so hh n s=hL∧tL 2=.hp H.length 0 0 0∧tL 3=.hp (H.length+1) 0 0 0∧tL 55=.hs (H.length+3) v 0 (valsM It.z s.it).length true∧tL 56=.int .i64 ((valsM It.z s.it).length:Int)∧tL 57=.int .i64 k∧k≤(valsM It.z s.it).length∧(FrN H.length H hh∧H.length+3<hh.length)∧getRow hh H.length 0=some (40,9,[.agg [.int .i64 0,.nil (.slice none 0 0),.nil (.slice none 0 0),.nil (.slice none 0 0),.nil (.slice none 0 0),.int .i64 0,.int .i64 0,.int .i64 0,.int .i64 0]])∧getRow hh (H.length+1) 0=some (40,9,[.agg [.int .i64 s.clock,.sl 3 ((valsM Fo.z s.fo).map Fo.av),.sl 4 ((valsM Fe.z s.fe).map Fe.av),.hs (H.length+3) v 0 (valsM It.z s.it).length true,.sl 3 ((valsM Se.z s.se).map Se.av),.int .i64 s.t1,.int .i64 s.t2,.int .i64 s.t3,.int .i64 s.t4]])∧getRow hh (H.length+3) v=some (56,9,(valsM It.z s.it).map It.av)) ((fun(k:Nat) (hh:Heap)=>((valsM It.z s.it).length-k:Nat)) (0) (H++[.row 40 9 0 [.agg [.int .i64 0,.nil (.slice none 0 0),.nil (.slice none 0 0),.nil (.slice none 0 0),.nil (.slice none 0 0),.int .i64 0,.int .i64 0,.int .i64 0,.int .i64 0]],.row 40 9 0 [.agg [.int .i64 s.clock,.sl 3 ((valsM Fo.z s.fo).map Fo.av),.sl 4 ((valsM Fe.z s.fe).map Fe.av),.hs (H.length+3) v 0 (valsM It.z s.it).length true,.sl 3 ((valsM Se.z s.se).map Se.av),.int .i64 s.t1,.int .i64 s.t2,.int .i64 s.t3,.int .i64 s.t4]],.row 100 1 0 [.hm (n+2)],.row 56 9 v ((valsM It.z s.it).map It.av)])) ?_ ?_
   ·refine Wkn.refl ⟨0,H++[.row 40 9 0 [.agg [.int .i64 0,.nil (.slice none 0 0),.nil (.slice none 0 0),.nil (.slice none 0 0),.nil (.slice none 0 0),.int .i64 0,.int .i64 0,.int .i64 0,.int .i64 0]],.row 40 9 0 [.agg [.int .i64 s.clock,.sl 3 ((valsM Fo.z s.fo).map Fo.av),.sl 4 ((valsM Fe.z s.fe).map Fe.av),.hs (H.length+3) v 0 (valsM It.z s.it).length true,.sl 3 ((valsM Se.z s.se).map Se.av),.int .i64 s.t1,.int .i64 s.t2,.int .i64 s.t3,.int .i64 s.t4]],.row 100 1 0 [.hm (n+2)],.row 56 9 v ((valsM It.z s.it).map It.av)],rfl,aA,?_,?_,?_,?_,?_,by omega,⟨FrN.app _ (by omega) (FrN.refl _ _),by simp⟩,by rw[aF _ rfl];rfl,by rw[aZ _ rfl];rfl,by rw[aZ _ rfl];simp[getRow]⟩
    all_goals first|exact zq trivial|rfl|omega|trivial|skip
   rintro _ s2 h' ⟨k,hh,rfl,rfl,e2,e3,e55,e56,e57,hk,hfr,hg2,hgx,hgi⟩ K2 hK2
   simp only[ai,aj,Nat.reduceEqDiff, ↓reduceIte]at e2 e3 e55 e56 e57
   have F:=F5 e2 e3 e55 e56 e57
   refine wk F ?_
   obtain⟨hfr,hfl⟩:=hfr
   have hn1:n+9≤hh.length:=by omega
   refine cq F (fun c1=>?_) (fun c1=>?_)<;>(try exact c1.elim)<;>(refine wk F ?_)
   ·have c2:k<(valsM It.z s.it).length:=by omega
    obtain⟨y,hy,hym⟩:=ae c2
    have hyt:=hs.tg y hym
    have hset:((valsM It.z s.it).map It.av).set k (.agg [.int .i64 y.id,.int .i64 y.feed,.int .i64 y.date,.str y.guid,.str y.title,.str y.link,.bool y.read,.bool y.star,.sl 1 (y.tags.map .str)])=(valsM It.z s.it).map It.av:=by
     apply List.ext_getElem?
     intro q
     rw[List.getElem?_set]
     split
     ·rename_i hq;subst hq;rw[List.getElem?_map,hy];simp[c2,It.av]
     ·rfl
    have F:=F7 F c2 hy @hset hgi hgx @az
    try refine sq F ?_
    refine wk F ?_
    refine aG (ft G y hyt _) ?_
    try refine sq F ?_
    refine wk F ?_
    refine hK2 _ _ _ (Wkn.refl ⟨k+1,hh.set (H.length+3) (.row 56 9 v ((valsM It.z s.it).map It.av))++[.row 56 9 0 [y.av]],rfl,aA,?_,?_,?_,?_,?_,by omega,⟨FrN.app _ (by simp;omega) (FrN.set _ (by omega) hfr),by simp;omega⟩,by rw[bi _ (by simp;omega),ce _ _ (by omega)];exact hg2,by rw[bi _ (by simp;omega),ce _ _ (by omega)];exact hgx,by rw[bi _ (by simp;omega),fm _ _ _ _ _ (by omega),if_pos rfl]⟩) (by omega)
    all_goals first|exact zq F|rfl|omega|trivial|skip
   ·have F:=F5 F hg2 hgx hgi @az
    try refine sq F ?_
    refine wk F ?_
    refine ye hQ F ?_
    obtain⟨j,hj⟩:=hfr.behind (by omega)
    subst hj
    have hgi2:∀b,getRow (H++j.set 0 b) (H.length+3) v=some (56,9,(valsM It.z s.it).map It.av):=fun b=>by rw[← bI b rfl,ce _ _ (by omega)];exact hgi
    rw[bI _ rfl]
    exact hR _ _ _ (by simpa using hgi2 _))
theorem jg(s:PS)(hs:s.Ok){H:Heap}{n:Nat}(hn:n+9≤H.length):Sat (CT G) 34 [.hp (n+8) 0 0 0] (so H n s) (fun r h'=>r=s.tell.av∧h'=so H n s):=
 ie G s hs hn _ fun _ _ _ hg=>tB s hn hg
theorem nq(s:PS)(hs:s.Ok){H:Heap}{n:Nat}(hn:n+9≤H.length):Sat (CT G) 34 [.hp (n+8) 0 0 0] (so H n s) (fun r h'=>∃(j:Heap) (p v:Nat),r=s.tellH p v∧H.length≤p∧getRow (H++j) p v=some (56,9,(valsM It.z s.it).map It.av)∧h'=so (H++j) n s):=
 ie G s hs hn _ fun j p v hg=>Fin.whole (by rw[aB hn,aB (by simp;omega)];simp) (.agg _ fun x hx=>by
  have hl:=bo hg
  simp only[List.mem_cons,List.not_mem_nil,or_false]at hx
  rcases hx with rfl|rfl|rfl|rfl|rfl|rfl|rfl|rfl|rfl
  ·exact .int _ _
  ·exact Clo.sl _ _ fun x hx=>by obtain⟨a,_,rfl⟩:=List.mem_map.1 hx;exact Fo.clo _ a
  ·exact Clo.sl _ _ fun x hx=>by obtain⟨a,_,rfl⟩:=List.mem_map.1 hx;exact Fe.clo _ a
  ·exact .hs _ _ _ _ _ (by rw[aB (by simp;omega)];exact hl)
  ·exact Clo.sl _ _ fun x hx=>by obtain⟨a,_,rfl⟩:=List.mem_map.1 hx;exact Se.clo _ a
  ·exact .int _ _
  ·exact .int _ _
  ·exact .int _ _
  ·exact .int _ _) ⟨j,_,v,rfl,by omega,hg,rfl⟩
end Go.Av
namespace Go.Av
open Go Go.Proofs Go.RowKit
attribute [local irreducible] WP WPl WPix Sat
variable (G:Nat→Option (List AVal))
theorem kO(l:List Ky)(acc:List Ky):(l.foldl insK acc).length=acc.length+l.length:=by
 induction l generalizing acc with
 |nil=>rfl
 |cons x l ih=>rw[List.foldl_cons,ih,lY];simp;omega
theorem mc(h:Heap)(v u:Nat)(l l':List Ky):vo (h++vb h.length u l') h.length v l=h++vb h.length v l:=by
 unfold vo ov
 have e:(vb h.length u l').length=2:=rfl
 have e2:(vb h.length v l).length=2:=rfl
 rw[List.take_left' rfl,e2,List.drop_of_length_le (by simp[e]),List.append_nil]
theorem tC(x:St)(sp:AVal)(h:Heap)(hT:∀j,Sat (CT G) 34 [sp] (h++j) (fun r h'=>r=x.av∧h'=h++j))(hl:x.it.length≤100000)(hd:(x.it.map (·.id)).Nodup):
  Sat (CT G) 11 [sp] h (fun r h'=>r=.hp h.length 0 0 0∧h'=h++vb h.length x.it.length (srtK (x.it.map It.ky))):=by
 have hil:(x.it.map It.av).length=x.it.length:=List.length_map ..
 have hsk:∀k,Sk (((x.it.take k).map It.ky).foldl insK []):=fun k=>fp (by
  rw[List.map_map]
  exact(List.Sublist.map _ (List.take_sublist k x.it)).nodup hd)
 have hkl:∀k,(((x.it.take k).map It.ky).foldl insK []).length≤100000:=fun k=>by rw[kO];simp;omega
 obtain⟨H0,hH0⟩:∃H0,H0=h++vb h.length 0 []:=⟨_,rfl⟩
 have hl0:H0.length=h.length+2:=by rw[hH0];simp[ma]
 have F:=hil
 refine sb [.tmp 2] (fn:=Tryz.f11) Tryz.func11 ?_
 intro Q hQ
 refine wk F ?_
 refine kq F (hT _) ?_
 refine lm (fun nL tL hL=>∃(k:Nat) (j:Heap),x.it.length-k=nL∧vo (H0++j) h.length k (((x.it.take k).map It.ky).foldl insK [])=hL∧tL 12=.int .i64 k∧k≤x.it.length) ((fun(k:Nat) (j:Heap)=>(x.it.length-k:Nat)) (0) ([])) ?_ ?_
 ·refine⟨_,_,Weak.virtCell (p:=h.length) (v:=0) 92 3 (by omega) (by rw[aF _ rfl];rfl) 0 rfl,⟨0,[],rfl,by rw[List.append_nil,hH0,mc];simp[vb],?_,by omega⟩⟩
  all_goals first|exact zq F|rfl|omega|trivial|skip
 rintro _ s2 h' ⟨k,j,rfl,rfl,e12,hk⟩ K2 hK2
 simp only[ai,aj,Nat.reduceEqDiff, ↓reduceIte]at e12
 have F:=F2 F e12
 refine wk F ?_
 refine cq F (fun c1=>?_) (fun c1=>?_)<;>(try exact c1.elim)<;>(refine wk F ?_)
 ·have c2:k<x.it.length:=by omega
  obtain⟨y,hy,hym⟩:=ae c2
  have F:=F4 F hy c2 @az
  try refine sq F ?_
  refine wk F ?_
  refine kq F (o7 G (H:=H0++(j++[Blk.row 56 9 0 [y.av]])) (n:=h.length) (v:=k) (hsk k) (hkl k) y (by simp;omega)) ?_
  have ht:insK (((x.it.take k).map It.ky).foldl insK []) y.ky=((x.it.take (k+1)).map It.ky).foldl insK []:=by rw[List.take_add_one,hy];simp
  rw[ht]
  refine hK2 _ _ _ (Wkn.refl ⟨k+1,j++[.row 56 9 0 [y.av]],rfl,by simp[It.av],?_,by omega⟩) (by omega)
  all_goals first|exact zq F|rfl|omega|trivial|skip
 ·have e:k=x.it.length:=by omega
  subst e
  rw[List.take_length]
  refine ee hQ F ?_
  rw[← eT (by omega),hH0,mc]
  exact Fin.upto (by simp) ((KeepC.refl h _).app (gm (by simp[ma]))) (.hp _ _ _ _ (by simp[ma])) ⟨rfl,rfl⟩
section
variable {l:List Ky} {H:Heap} {n v:Nat}
theorem qS(k:Ky)(e:Ev)(q:Nat)(h:Heap)(hq:getRow h q 0=some (62,7,[e.av])):Sat (CT G) 56 [k.av,.hp q 0 0 0] h (fun r h'=>r=.bool (decide (k.f=e.a))∧h'=h):=by
 have h2:getRow (h++[.row 92 3 0 [k.av]]) q 0=some (62,7,[e.av]):=by rw[bi _ (bo hq)];exact hq
 rw[Ky.av_eq,Ev.av_eq]at h2
 have F:=h2
 refine sb [.tmp 3] (fn:=Tryz.f56) Tryz.func56 ?_
 intro Q hQ
 refine wk F ?_
 refine ee hQ F ?_
 exact Fin.plain (.bool _) ⟨by rw[show(k.f==e.a)=decide (k.f=e.a)from by rw[Bool.eq_iff_iff];simp],rfl⟩
def VStepF(l:List Ky)(e:Ev)(t:It)(b:Bool):List Ky:=
 if e.kind=7 then(if b then insK l t.ky else l)else if e.kind=4 then l.filter (fun k=> !decide (k.f=e.a))else l
theorem qT(hs:Sk l)(hl:l.length≤100000)(e:Ev)(sp:AVal)(t:It)(b:Bool)(hn:n+2≤H.length)
  (hI:e.kind=7→∀j,Sat (CT G) 19 [sp,.int .i64 e.a] (vo (H++j) n v l) (fun r h'=>r=.tup [t.av,.bool b]∧h'=vo (H++j) n v l)):
  Sat (CT G) 22 [.hp n 0 0 0,sp,e.av] (vo H n v l) (fun r h'=>r=.tup []∧∃u,h'=vo H n u (VStepF l e t b)):=by
 have ct:∀N,Clo N (.tup []):=fun N=>.tup _ (fun x hx=>by simp at hx)
 have hn1:∀j:Heap,n+2≤(H++j).length:=fun j=>by simp;omega
 by_cases k7:e.kind=7
 ·have hP:=o7 G (n:=n) (v:=v) (H:=H++[Blk.row 62 7 0 [e.av],Blk.row 56 9 0 [t.av]]) hs hl t (hn1 _)
  cases b with
  |true=>
   have hI1:=hI k7 [Blk.row 62 7 0 [e.av]]
   have y7:(e.kind==7)=true:=by simp[k7]
   have F:=y7
   refine sb [] (fn:=Tryz.f22) Tryz.func22 ?_
   intro Q hQ
   refine wk F ?_
   refine kq F (hI1) ?_
   refine kq F (hP) ?_
   refine ee hQ F ?_
   exact bp hn (ct _) ⟨rfl,v+1,by unfold VStepF;rw[if_pos k7];rfl⟩
  |false=>
   have hI1:=hI k7 [Blk.row 62 7 0 [e.av]]
   have y7:(e.kind==7)=true:=by simp[k7]
   have F:=y7
   refine sb [] (fn:=Tryz.f22) Tryz.func22 ?_
   intro Q hQ
   refine wk F ?_
   refine kq F (hI1) ?_
   refine ee hQ F ?_
   exact bp hn (ct _) ⟨rfl,v,by unfold VStepF;rw[if_pos k7];rfl⟩
 ·by_cases k4:e.kind=4
  ·have hD:=tv G (l:=l) (v:=v) (n:=n) (H:=H++[Blk.row 62 7 0 [e.av]]) (fun k=>decide (k.f=e.a)) 56 [.hp H.length 0 0 0] (hn1 _) (by omega) (fun a j L=>qS G a e H.length _ (by
    rw[dH (by simp;omega) 0 (by omega),List.append_assoc,aF _ rfl];rfl))
   have n7:(e.kind==7)=false:=by simp[k7]
   have y4:(e.kind==4)=true:=by simp[k4]
   have F:=F2 n7 y4
   refine sb [] (fn:=Tryz.f22) Tryz.func22 ?_
   intro Q hQ
   refine wk F ?_
   refine kq F (hD) ?_
   have F:=F2 F @az
   try refine sq F ?_
   refine wk F ?_
   refine ee hQ F ?_
   rw[o5 (hn1 _)]
   exact bp hn (ct _) ⟨rfl,v,by unfold VStepF;rw[if_neg k7,if_pos k4]⟩
  ·have n7:(e.kind==7)=false:=by simp[k7]
   have n4:(e.kind==4)=false:=by simp[k4]
   have F:=F2 n7 n4
   refine sb [] (fn:=Tryz.f22) Tryz.func22 ?_
   intro Q hQ
   refine wk F ?_
   refine ee hQ F ?_
   exact bp hn (ct _) ⟨rfl,v,by unfold VStepF;rw[if_neg k7,if_neg k4]⟩
end
end Go.Av
namespace Go.Av
open Go Go.Proofs Go.RowKit
attribute [local irreducible] WP WPl WPix Sat
inductive Qy where
 |mk (op num:Int) (s:Bs) (ks:List Qy)
namespace Qy
mutual
def av:Qy→AVal
 | .mk op num s ks=>.agg [.int .i64 op,.int .i64 num,.str s,.sl 4 (avL ks)]
def avL:List Qy→List AVal
 | []=>[]
 |k::ks=>k.av::avL ks
end
theorem qU:∀ks:List Qy,avL ks=ks.map av
 | []=>by simp[avL]
 |k::ks=>by simp[avL,qU ks]
@[go_sem] theorem av_eq(op num:Int)(s:Bs)(ks:List Qy):(Qy.mk op num s ks).av=.agg [.int .i64 op,.int .i64 num,.str s,.sl 4 (ks.map av)]:=by rw[av,qU]
theorem ind{P:Qy→Prop}(h:∀op num s ks,(∀k∈ks,P k)→P (.mk op num s ks)):∀q,P q:=fun q=>
 Qy.rec (motive_1:=P) (motive_2:=fun ks=>∀k∈ks,P k) (fun op num s ks ih=>h op num s ks ih) (fun k hk=>by simp at hk) (fun k ks ih1 ih2 x hx=>by
  rcases List.mem_cons.1 hx with rfl|hx
  ·exact ih1
  ·exact ih2 x hx) q
mutual
def sz:Qy→Nat
 | .mk _ _ s ks=>1+s.length+szL ks
def szL:List Qy→Nat
 | []=>0
 |k::ks=>k.sz+szL ks
end
theorem szL_mem:∀{ks:List Qy} {k:Qy},k∈ks→k.sz≤szL ks
 |k'::ks,k,h=>by
  rw[szL]
  rcases List.mem_cons.1 h with rfl|h
  ·omega
  ·have:=szL_mem h;omega
theorem szL_len:∀ks:List Qy,ks.length≤szL ks
 | []=>by simp
 | .mk op n s l::ks=>by rw[szL,sz,List.length_cons];have:=szL_len ks;omega
mutual
def mx:Qy→Nat
 | .mk _ _ s ks=>max (max s.length ks.length) (mxL ks)
def mxL:List Qy→Nat
 | []=>0
 |k::ks=>max k.mx (mxL ks)
end
theorem o8:∀{ks:List Qy} {k:Qy},k∈ks→k.mx≤mxL ks
 |k'::ks,k,h=>by
  rw[mxL]
  rcases List.mem_cons.1 h with rfl|h
  ·omega
  ·have:=o8 h;omega
theorem mx_mk{op num:Int}{s:Bs}{ks:List Qy}{B:Nat}(h:(Qy.mk op num s ks).mx≤B):s.length≤B∧ks.length≤B∧∀k∈ks,k.mx≤B:=by
 rw[mx]at h
 exact⟨by omega,by omega,fun k hk=>by have:=o8 hk;omega⟩
mutual
def left:Qy→Int→Int→Int
 | .mk _ _ s ks,d,n=>leftL ks d (n-1-s.length/20)
def leftL:List Qy→Int→Int→Int
 | [],_,n=>n
 |k::ks,d,n=>if n>0∧d<70 then leftL ks d (k.left (d+1) n)else n
end
mutual
theorem left_le:∀(q:Qy) (d n:Int),q.left d n≤n-1∧n-q.sz≤q.left d n
 | .mk op num s ks,d,n=>by
  rw[left,sz]
  have:=iG ks d (n-1-s.length/20)
  omega
theorem iG:∀(ks:List Qy) (d n:Int),leftL ks d n≤n∧n-szL ks≤leftL ks d n
 | [],d,n=>by simp[leftL,szL]
 |k::ks,d,n=>by
  rw[leftL,szL]
  split
  ·have h1:=left_le k (d+1) n
   have h2:=iG ks d (k.left (d+1) n)
   have h3:1≤k.sz:=by cases k;rw[sz];omega
   omega
  ·omega
end
end Qy
end Go.Av
namespace Go.Av
open Go Go.Proofs Go.RowKit Go.ChangeShapes Go.WideShapes
section
variable {H:Type} {enc:TypeId×Value→H} {W:World}
theorem vA{P:Program}{n:Nat}{t:TypeId}(ht:P.underlying t=some .string):Rd H enc P W n t (fun s: {s:Bs//s.length≤9223372036854775807}=>[.str s.1]) (fun _=>0):=fun cs x h=>by
 obtain⟨s,rfl,rfl,hs⟩:=DataW.trod_string ht h
 refine⟨⟨s.data.toList,by simpa [maxLen]using hs⟩,rfl,fun j c hj=>?_,Nat.zero_le _⟩
 match j with
 |0=>simp at hj;subst hj;exact⟨rfl,.str _⟩
 |j+1=>simp at hj
theorem xm{ks:List Qy}{B:Nat}(h:∀k∈ks,k.mx≤B):Qy.mxL ks≤B:=by
 induction ks with
 |nil=>exact Nat.zero_le _
 |cons k ks ih=>
  rw[Qy.mxL]
  have h1:=h k (by simp)
  have h2:=ih fun x hx=>h x (by simp[hx])
  omega
theorem vB{S:Addr→Prop}{μ:Map}{n:Nat}{es:List AVal}{v:Value}(h:Rep W S μ (.sl n es) v):es.length≤9223372036854775807:=by
 cases h with
 |sl _ _ b o cap vs h1 h2 h3=>exact Nat.le_trans h2 h3
 |sl0=>simp
theorem Aj:∀n:Nat,Rd H enc Tryz.prog W n 25 (fun q: {q:Qy//q.mx≤9223372036854775807}=>q.1.av.cells) (fun _=>0):=by
 intro n
 induction n using Nat.strongRecOn with
 |ind n ih=>
  intro cs x h
  obtain⟨ds,n',rfl,hx,hcl,hdl,hf⟩:=kN (fs:=[3,3,9,23]) (by kernel_rfl) h
  obtain⟨y0,d0,t0⟩:=hf 0 _ rfl
  obtain⟨y1,d1,t1⟩:=hf 1 _ rfl
  obtain⟨y2,d2,t2⟩:=hf 2 _ rfl
  obtain⟨y3,d3,t3⟩:=hf 3 _ rfl
  obtain⟨a0,s0,r0,_⟩:=bn (mk:=fun i: {i:Int//(Lit.int .i64 i).wf=true}=>.int .i64 i.1) (dX (by kernel_rfl)) t0
  obtain⟨a1,s1,r1,_⟩:=bn (mk:=fun i: {i:Int//(Lit.int .i64 i).wf=true}=>.int .i64 i.1) (dX (by kernel_rfl)) t1
  obtain⟨a2,s2,r2,_⟩:=bn (mk:=fun s: {s:Bs//s.length≤9223372036854775807}=>.str s.1) (vA (by kernel_rfl)) t2
  obtain⟨a3,s3,r3,_⟩:=bn (mk:=fun l:List {q:Qy//q.mx≤9223372036854775807}=>.sl 4 (l.map fun q=>q.1.av)) (lR (m:=4) (e:=25) (fun q: {q:Qy//q.mx≤9223372036854775807}=>q.1.av) (by kernel_rfl) (by kernel_rfl) (by decide) (fun _=>rfl) (fun⟨⟨o,i,s,l⟩,_⟩=>by rw[Qy.av_eq];rfl) fun k hk=>ih k (by omega)) t3
  have hl:=vB r3
  rw[List.length_map]at hl
  have e3:(a3.map fun q=>q.1.av)=(a3.map (·.1)).map Qy.av:=by rw[List.map_map];rfl
  rw[e3]at r3
  have hmx:(Qy.mk a0.1 a1.1 a2.1 (a3.map (·.1))).mx≤9223372036854775807:=by
   rw[Qy.mx,List.length_map]
   have h1:=a2.2
   have h2:=xm (ks:=a3.map (·.1)) (B:=9223372036854775807) fun k hk=>by
    obtain⟨q,_,rfl⟩:=List.mem_map.1 hk
    exact q.2
   omega
  have hc:(Qy.mk a0.1 a1.1 a2.1 (a3.map (·.1))).av.cells=[.int .i64 a0.1,.int .i64 a1.1,.str a2.1,.sl 4 ((a3.map (·.1)).map Qy.av)]:=by rw[Qy.av_eq];rfl
  refine⟨⟨.mk a0.1 a1.1 a2.1 (a3.map (·.1)),hmx⟩,by show(Qy.mk a0.1 a1.1 a2.1 (a3.map (·.1))).av.cells.length=_;rw[hc,hcl];rfl,fun j c hj=>?_,Nat.zero_le _⟩
  change (Qy.mk a0.1 a1.1 a2.1 (a3.map (·.1))).av.cells[j]? =some c at hj
  rw[hc]at hj
  match j with
  |0=>simp at hj;subst hj;exact⟨s0,r0⟩
  |1=>simp at hj;subst hj;exact⟨s1,r1⟩
  |2=>simp at hj;subst hj;exact⟨s2,r2⟩
  |3=>
   simp only[List.getElem?_cons_succ,List.getElem?_cons_zero,Option.some.injEq]at hj
   subst hj;exact⟨s3,r3⟩
  |j+4=>simp at hj
theorem pg{v:Value}{d:DataW H}{ps:List MemPlace}(h:DataW.Trod enc Tryz.prog W 0 (fun _=>true) true 25 v d ps):∃q:Qy,q.mx≤9223372036854775807∧Rep W (lies0 W) [] q.av v:=by
 obtain⟨n,hn⟩:=h
 obtain⟨⟨q,hq⟩,h1,h2,_⟩:=Aj n _ _ hn
 change q.av.cells.length=_ at h1
 refine⟨q,hq,?_⟩
 obtain⟨qo,qn,qs,qk⟩:=q
 have hc:(Qy.mk qo qn qs qk).av.cells=[.int .i64 qo,.int .i64 qn,.str qs,.sl 4 (qk.map Qy.av)]:=by rw[Qy.av_eq];rfl
 have hl:v.cells.size=4:=by rw[hc]at h1;simpa using h1.symm
 obtain⟨a,rfl⟩:∃a,v=.agg a:=by
  cases v with
  |agg a=>exact⟨a,rfl⟩
  |_=>simp[Value.cells]at hl
 rw[Qy.av_eq]
 have:=Rep.agg (w:=W) (S:=lies0 W) (μ:=[]) [.int .i64 qo,.int .i64 qn,.str qs,.sl 4 (qk.map Qy.av)] a.toList (by simpa [Value.cells]using hl) (fun i x hx=>(h2 i x (by show(Qy.mk qo qn qs qk).av.cells[i]? =some x;rw[hc];exact hx)).1)
  (fun i x hx=>by
   have:=(h2 i x (by show(Qy.mk qo qn qs qk).av.cells[i]? =some x;rw[hc];exact hx)).2
   simpa [Value.cells]using this)
 simpa using this
theorem nr{v:Value}{d:DataW H}{ps:List MemPlace}{r:Reach}{b0:Nat}(hval:Value.okWide Tryz.prog W r b0 3 v)(h:DataW.Trod enc Tryz.prog W 0 (fun _=>true) true 3 v d ps):∃i:Int,Rep W (lies0 W) [] (.int .i64 i) v:=by
 obtain⟨n,hn⟩:=h
 have hcs:v.cells.toList=[v]:=by
  have hu:Tryz.prog.underlying 3=some (.int .i64):=by kernel_rfl
  cases v with
  |agg a=>simp[Value.okWide,hu,Cell.okWide,Cell.ok]at hval
  |_=>rfl
 rw[hcs]at hn
 obtain⟨a,_,ra,_⟩:=bn (mk:=fun i: {i:Int//(Lit.int .i64 i).wf=true}=>.int .i64 i.1) (dX (by kernel_rfl)) hn
 exact⟨a.1,ra⟩
end
def none':Nat→Option (List AVal):=fun _=>none
end Go.Av
namespace Go.Av
open Go Go.Proofs Go.RowKit
attribute [local irreducible] WP WPl WPix Sat
namespace Qy
mutual
def dep:Qy→Int→Int
 | .mk _ _ _ ks,a=>if a>64 then a else depL ks a a
def depL:List Qy→Int→Int→Int
 | [],_,m=>m
 |k::ks,a,m=>depL ks a (if k.dep (a+1)>m then k.dep (a+1)else m)
end
mutual
def nod:Qy→Int
 | .mk _ _ _ ks=>nodL ks 1
def nodL:List Qy→Int→Int
 | [],m=>m
 |k::ks,m=>nodL ks (m+k.nod)
end
mutual
theorem nod_in:∀(q:Qy),1≤q.nod∧q.nod≤q.sz
 | .mk _ _ s ks=>by
  rw[nod,sz]
  have:=nodL_in ks 1
  omega
theorem nodL_in:∀(ks:List Qy) (m:Int),m≤nodL ks m∧nodL ks m≤m+szL ks
 | [],m=>by simp[nodL,szL]
 |k::ks,m=>by
  rw[nodL,szL]
  have h1:=nod_in k
  have h2:=nodL_in ks (m+k.nod)
  omega
end
end Qy
variable (G:Nat→Option (List AVal))
theorem tD:∀(q:Qy) (a:Int) (h:Heap),1≤a→a≤65→q.mx≤9223372036854775807→Sat (CT G) 83 [q.av,.int .i64 a] h (fun r h'=>r=.int .i64 (q.dep a)∧h'=h):=by
 refine Qy.ind fun op num s ks ih=>?_
 intro a h h1 h2 hz
 obtain⟨hsl,hkl,hkm⟩:=Qy.mx_mk hz
 have hml:(ks.map Qy.av).length=ks.length:=List.length_map ..
 rw[Qy.av_eq,Qy.dep]
 by_cases ha:a>64
 ·rw[if_pos ha]
  have g0:decide (a>64)=true:=by simp[ha]
  have F:=g0
  refine sb [.tmp 4] (fn:=Tryz.f83) Tryz.func83 ?_
  intro Q hQ
  refine wk F ?_
  refine ee hQ F ?_
  exact Fin.plain (.int _ _) ⟨rfl,rfl⟩
 ·rw[if_neg ha]
  have g0:decide (a>64)=false:=by simp[ha]
  have wa:IntKind.i64.wrap (a+1)=a+1:=by rw[IntKind.wrap_i64];omega
  have F:=F3 g0 wa hml
  refine sb [.tmp 4] (fn:=Tryz.f83) Tryz.func83 ?_
  intro Q hQ
  refine wk F ?_
  refine lm (fun nL tL hL=>∃(k:Nat) (m:Int),ks.length-k=nL∧h++[.row 25 4 0 [.agg [.int .i64 op,.int .i64 num,.str s,.sl 4 (ks.map Qy.av)]]]=hL∧tL 6=.int .i64 k∧tL 5=.int .i64 m∧k≤ks.length∧Qy.depL ks a a=Qy.depL (ks.drop k) a m) ((fun(k:Nat) (m:Int)=>(ks.length-k:Nat)) (0) (a)) ?_ ?_
  ·refine Wkn.refl ⟨0,a,rfl,aA,?_,?_,by omega,rfl⟩
   all_goals first|exact zq F|rfl|omega|trivial|skip
  rintro _ s2 h' ⟨k,m,rfl,rfl,e6,e5,hk,hm⟩ K2 hK2
  simp only[ai,aj,Nat.reduceEqDiff, ↓reduceIte]at e6 e5
  have F:=F3 F e6 e5
  refine wk F ?_
  refine cq F (fun c1=>?_) (fun c1=>?_)<;>(try exact c1.elim)<;>(refine wk F ?_)
  ·have c2:k<ks.length:=by omega
   obtain⟨y,hy,hym⟩:=ae c2
   have hc:=ih y hym (a+1) (h++[.row 25 4 0 [.agg [.int .i64 op,.int .i64 num,.str s,.sl 4 (ks.map Qy.av)]]]) (by omega) (by omega) (hkm y hym)
   rw[ap hy,Qy.depL]at hm
   generalize y.dep (a+1)=e at hm hc
   obtain⟨yo,yn,ys,yl⟩:=y
   rw[Qy.av_eq]at hc
   have F:=F3 F hy c2
   try refine sq F ?_
   refine wk F ?_
   refine kq F (hc) ?_
   refine cq F (fun c3=>?_) (fun c3=>?_)<;>(try exact c3.elim)<;>(refine wk F ?_)
   ·rw[if_pos (by omega)]at hm
    refine hK2 _ _ _ (Wkn.refl ⟨k+1,e,rfl,aA,?_,?_,by omega,hm⟩) (by omega)
    all_goals first|exact zq F|rfl|omega|trivial|skip
   ·rw[if_neg (by omega)]at hm
    refine hK2 _ _ _ (Wkn.refl ⟨k+1,m,rfl,aA,?_,?_,by omega,hm⟩) (by omega)
    all_goals first|exact zq F|rfl|omega|trivial|skip
  ·rw[aD c1,Qy.depL]at hm
   refine ee hQ F ?_
   exact Fin.plain (.int _ _) ⟨by rw[hm],rfl⟩
end Go.Av
namespace Go.Av
open Go Go.Proofs Go.RowKit
attribute [local irreducible] WP WPl WPix Sat
variable (G:Nat→Option (List AVal))
theorem tE:∀(q:Qy) (h:Heap),q.sz≤1048576→Sat (CT G) 41 [q.av] h (fun r h'=>r=.int .i64 q.nod∧h'=h):=by
 refine Qy.ind fun op num s ks ih=>?_
 intro h hz
 have hkl:=Qy.szL_len ks
 have hkm:∀k∈ks,k.sz≤Qy.szL ks:=fun k hk=>Qy.szL_mem hk
 have hnt:=Qy.nodL_in ks 1
 rw[Qy.sz]at hz
 have hml:(ks.map Qy.av).length=ks.length:=List.length_map ..
 rw[Qy.av_eq,Qy.nod]
 have F:=hml
 refine sb [.tmp 2] (fn:=Tryz.f41) Tryz.func41 ?_
 intro Q hQ
 refine wk F ?_
 refine lm (fun nL tL hL=>∃(k:Nat) (m:Int),ks.length-k=nL∧h++[.row 25 4 0 [.agg [.int .i64 op,.int .i64 num,.str s,.sl 4 (ks.map Qy.av)]]]=hL∧tL 4=.int .i64 k∧tL 3=.int .i64 m∧k≤ks.length∧1≤m∧Qy.nodL ks 1=Qy.nodL (ks.drop k) m) ((fun(k:Nat) (m:Int)=>(ks.length-k:Nat)) (0) (1)) ?_ ?_
 ·refine Wkn.refl ⟨0,1,rfl,aA,?_,?_,by omega,by omega,rfl⟩
  all_goals first|exact zq F|rfl|omega|trivial|skip
 rintro _ s2 h' ⟨k,m,rfl,rfl,e4,e3,hk,h1,hm⟩ K2 hK2
 simp only[ai,aj,Nat.reduceEqDiff, ↓reduceIte]at e4 e3
 have F:=F3 F e4 e3
 refine wk F ?_
 refine cq F (fun c1=>?_) (fun c1=>?_)<;>(try exact c1.elim)<;>(refine wk F ?_)
 ·have c2:k<ks.length:=by omega
  obtain⟨y,hy,hym⟩:=ae c2
  have hc:=ih y hym (h++[.row 25 4 0 [.agg [.int .i64 op,.int .i64 num,.str s,.sl 4 (ks.map Qy.av)]]]) (by have:=hkm y hym;omega)
  rw[ap hy,Qy.nodL]at hm
  have hb:=Qy.nodL_in (ks.drop (k+1)) (m+y.nod)
  have hy1:=Qy.nod_in y
  generalize y.nod=e at hm hc hb hy1
  obtain⟨yo,yn,ys,yl⟩:=y
  rw[Qy.av_eq]at hc
  have wm:IntKind.i64.wrap (m+e)=m+e:=by rw[IntKind.wrap_i64];omega
  have F:=F4 F hy c2 wm
  try refine sq F ?_
  refine wk F ?_
  refine kq F (hc) ?_
  refine hK2 _ _ _ (Wkn.refl ⟨k+1,m+e,rfl,aA,?_,?_,by omega,by omega,hm⟩) (by omega)
  all_goals first|exact zq F|rfl|omega|trivial|skip
 ·rw[aD c1,Qy.nodL]at hm
  refine ee hQ F ?_
  exact Fin.plain (.int _ _) ⟨by rw[hm],rfl⟩
theorem tF:∀(q:Qy) (a:Int) (h:Heap),1≤a→a≤65→q.mx≤9223372036854775807→Sat (CT G) 133 [q.av,.int .i64 a] h (fun r h'=>r=.int .i64 (q.dep a)∧h'=h):=by
 refine Qy.ind fun op num s ks ih=>?_
 intro a h h1 h2 hz
 obtain⟨hsl,hkl,hkm⟩:=Qy.mx_mk hz
 have hml:(ks.map Qy.av).length=ks.length:=List.length_map ..
 rw[Qy.av_eq,Qy.dep]
 by_cases ha:a>64
 ·rw[if_pos ha]
  have g0:decide (a>64)=true:=by simp[ha]
  have F:=g0
  refine sb [.tmp 4] (fn:=Tryz.f133) Tryz.func133 ?_
  intro Q hQ
  refine wk F ?_
  refine ee hQ F ?_
  exact Fin.plain (.int _ _) ⟨rfl,rfl⟩
 ·rw[if_neg ha]
  have g0:decide (a>64)=false:=by simp[ha]
  have wa:IntKind.i64.wrap (a+1)=a+1:=by rw[IntKind.wrap_i64];omega
  have F:=F3 g0 wa hml
  refine sb [.tmp 4] (fn:=Tryz.f133) Tryz.func133 ?_
  intro Q hQ
  refine wk F ?_
  refine lm (fun nL tL hL=>∃(k:Nat) (m:Int) (j:Heap),ks.length-k=nL∧h++(.row 25 4 0 [.agg [.int .i64 op,.int .i64 num,.str s,.sl 4 (ks.map Qy.av)]]::j)=hL∧tL 15=.int .i64 k∧tL 5=.int .i64 m∧k≤ks.length∧Qy.depL ks a a=Qy.depL (ks.drop k) a m) ((fun(k:Nat) (m:Int) (j:Heap)=>(ks.length-k:Nat)) (0) (a) ([])) ?_ ?_
  ·refine Wkn.refl ⟨0,a,[],rfl,aA,?_,?_,by omega,rfl⟩
   all_goals first|exact zq F|rfl|omega|trivial|skip
  rintro _ s2 h' ⟨k,m,j,rfl,rfl,e15,e5,hk,hm⟩ K2 hK2
  simp only[ai,aj,Nat.reduceEqDiff, ↓reduceIte]at e15 e5
  have F:=F3 F e15 e5
  refine wk F ?_
  refine cq F (fun c1=>?_) (fun c1=>?_)<;>(try exact c1.elim)<;>(refine wk F ?_)
  ·have c2:k<ks.length:=by omega
   obtain⟨y,hy,hym⟩:=ae c2
   have hc:=fun h=>ih y hym (a+1) h (by omega) (by omega) (hkm y hym)
   rw[ap hy,Qy.depL]at hm
   generalize y.dep (a+1)=e at hm hc
   obtain⟨yo,yn,ys,yl⟩:=y
   rw[Qy.av_eq]at hc
   by_cases hem:e>m
   ·have d0:decide (e>m)=true:=by simp;omega
    rw[if_pos (by omega)]at hm
    have F:=F5 F hy c2 d0 @az
    try refine sq F ?_
    refine wk F ?_
    refine kq F (hc _) ?_
    refine hK2 _ _ _ (Wkn.refl ⟨k+1,e,j++[Blk.row 25 4 0 [.agg [.int .i64 yo,.int .i64 yn,.str ys,.sl 4 (yl.map Qy.av)]]],rfl,by simp,?_,?_,by omega,hm⟩) (by omega)
    all_goals first|exact zq F|rfl|omega|trivial|skip
   ·have d0:decide (e>m)=false:=by simp;omega
    rw[if_neg (by omega)]at hm
    have F:=F5 F hy c2 d0 @az
    try refine sq F ?_
    refine wk F ?_
    refine kq F (hc _) ?_
    refine hK2 _ _ _ (Wkn.refl ⟨k+1,m,j++[Blk.row 25 4 0 [.agg [.int .i64 yo,.int .i64 yn,.str ys,.sl 4 (yl.map Qy.av)]]],rfl,by simp,?_,?_,by omega,hm⟩) (by omega)
    all_goals first|exact zq F|rfl|omega|trivial|skip
  ·rw[aD c1,Qy.depL]at hm
   refine ee hQ F ?_
   exact Fin.plain (.int _ _) ⟨by rw[hm],rfl⟩
theorem tG:∀(q:Qy) (h:Heap),q.sz≤1048576→Sat (CT G) 78 [q.av] h (fun r h'=>r=.int .i64 q.nod∧h'=h):=by
 refine Qy.ind fun op num s ks ih=>?_
 intro h hz
 have hkl:=Qy.szL_len ks
 have hkm:∀k∈ks,k.sz≤Qy.szL ks:=fun k hk=>Qy.szL_mem hk
 have hnt:=Qy.nodL_in ks 1
 rw[Qy.sz]at hz
 have hml:(ks.map Qy.av).length=ks.length:=List.length_map ..
 rw[Qy.av_eq,Qy.nod]
 have F:=hml
 refine sb [.tmp 2] (fn:=Tryz.f78) Tryz.func78 ?_
 intro Q hQ
 refine wk F ?_
 refine lm (fun nL tL hL=>∃(k:Nat) (m:Int) (j:Heap),ks.length-k=nL∧h++(.row 25 4 0 [.agg [.int .i64 op,.int .i64 num,.str s,.sl 4 (ks.map Qy.av)]]::j)=hL∧tL 9=.int .i64 k∧tL 3=.int .i64 m∧k≤ks.length∧1≤m∧Qy.nodL ks 1=Qy.nodL (ks.drop k) m) ((fun(k:Nat) (m:Int) (j:Heap)=>(ks.length-k:Nat)) (0) (1) ([])) ?_ ?_
 ·refine Wkn.refl ⟨0,1,[],rfl,aA,?_,?_,by omega,by omega,rfl⟩
  all_goals first|exact zq F|rfl|omega|trivial|skip
 rintro _ s2 h' ⟨k,m,j,rfl,rfl,e9,e3,hk,h1,hm⟩ K2 hK2
 simp only[ai,aj,Nat.reduceEqDiff, ↓reduceIte]at e9 e3
 have F:=F3 F e9 e3
 refine wk F ?_
 refine cq F (fun c1=>?_) (fun c1=>?_)<;>(try exact c1.elim)<;>(refine wk F ?_)
 ·have c2:k<ks.length:=by omega
  obtain⟨y,hy,hym⟩:=ae c2
  have hc:=fun h=>ih y hym h (by have:=hkm y hym;omega)
  rw[ap hy,Qy.nodL]at hm
  have hb:=Qy.nodL_in (ks.drop (k+1)) (m+y.nod)
  have hy1:=Qy.nod_in y
  generalize y.nod=e at hm hc hb hy1
  obtain⟨yo,yn,ys,yl⟩:=y
  rw[Qy.av_eq]at hc
  have wm:IntKind.i64.wrap (m+e)=m+e:=by rw[IntKind.wrap_i64];omega
  have F:=F5 F hy c2 wm @az
  try refine sq F ?_
  refine wk F ?_
  refine kq F (hc _) ?_
  refine hK2 _ _ _ (Wkn.refl ⟨k+1,m+e,j++[Blk.row 25 4 0 [.agg [.int .i64 yo,.int .i64 yn,.str ys,.sl 4 (yl.map Qy.av)]]],rfl,by simp,?_,?_,by omega,by omega,hm⟩) (by omega)
  all_goals first|exact zq F|rfl|omega|trivial|skip
 ·rw[aD c1,Qy.nodL]at hm
  refine ee hQ F ?_
  exact Fin.plain (.int _ _) ⟨by rw[hm],rfl⟩
end Go.Av
namespace Go.Av
open Go Go.Proofs Go.RowKit
attribute [local irreducible] WP WPl WPix Sat
namespace Qy
def num:Qy→Int| .mk _ n _ _=>n
def op:Qy→Int| .mk o _ _ _=>o
def txt:Qy→Bs| .mk _ _ s _=>s
def kds:Qy→List Qy| .mk _ _ _ ks=>ks
mutual
def all(pl:Qy→Bool):Qy→Bool
 | .mk op num s ks=>allL pl ks&&pl (.mk op num s ks)
def allL(pl:Qy→Bool):List Qy→Bool
 | []=>true
 |k::ks=>k.all pl&&allL pl ks
end
theorem allL_eq(pl:Qy→Bool):∀ks:List Qy,allL pl ks=ks.all (all pl)
 | []=>by simp[allL]
 |k::ks=>by rw[allL,allL_eq pl ks];rfl
end Qy
variable (G:Nat→Option (List AVal))
theorem qV:∀(q:Qy) (d n:Int) (h:Heap),0≤d→d≤70→0≤n→n≤300→q.mx≤9223372036854775807→Sat (CT G) 30 [q.av,.int .i64 d,.int .i64 n] h (fun r h'=>r=.int .i64 (q.left d n)∧h'=h):=by
 refine Qy.ind fun op num s ks ih=>?_
 intro d n h d1 d2 n1 n2 hz
 obtain⟨hsl,hkl,hkm⟩:=Qy.mx_mk hz
 have hml:(ks.map Qy.av).length=ks.length:=List.length_map ..
 rw[Qy.av_eq,Qy.left]
 have q1:((s.length:Int)).tdiv 20=(s.length:Int)/20:=Int.tdiv_eq_ediv_of_nonneg (by omega)
 have q2:IntKind.i64.wrap ((s.length:Int)/20)=(s.length:Int)/20:=by rw[IntKind.wrap_i64];omega
 have q3:IntKind.i64.wrap (n-1)=n-1:=by rw[IntKind.wrap_i64];omega
 have q4:IntKind.i64.wrap (n-1-(s.length:Int)/20)=n-1-(s.length:Int)/20:=by rw[IntKind.wrap_i64];omega
 have q5:IntKind.i64.wrap (d+1)=d+1:=by rw[IntKind.wrap_i64];omega
 generalize hn0:n-1-(s.length:Int)/20=n0 at q4
 have hn3:n0≤300:=by omega
 have F:=F7 hml q1 q2 q3 q4 q5 hn0
 refine sb [.tmp 6] (fn:=Tryz.f30) Tryz.func30 ?_
 intro Q hQ
 refine wk F ?_
 refine lm (fun nL tL hL=>∃(k:Nat) (m:Int),ks.length-k=nL∧h++[.row 25 4 0 [.agg [.int .i64 op,.int .i64 num,.str s,.sl 4 (ks.map Qy.av)]]]=hL∧tL 7=.int .i64 k∧tL 2=.int .i64 m∧k≤ks.length∧m≤300∧Qy.leftL ks d n0=Qy.leftL (ks.drop k) d m) ((fun(k:Nat) (m:Int)=>(ks.length-k:Nat)) (0) (n0)) ?_ ?_
 ·refine Wkn.refl ⟨0,n0,rfl,aA,?_,?_,by omega,hn3,rfl⟩
  all_goals first|exact zq F|rfl|omega|trivial|skip
 rintro _ s2 h' ⟨k,m,rfl,rfl,e7,e2,hk,hm2,hm⟩ K2 hK2
 simp only[ai,aj,Nat.reduceEqDiff, ↓reduceIte]at e7 e2
 have F:=F3 F e7 e2
 by_cases c1:k<ks.length
 ·have b1:decide (k<ks.length)=true:=by simp[c1]
  obtain⟨y,hy,hym⟩:=ae c1
  rw[ap hy,Qy.leftL]at hm
  by_cases c2:m>0∧d<70
  ·have b2:decide (m>0)=true:=by simp;omega
   have b3:decide (d<70)=true:=by simp;omega
   have hc:=ih y hym (d+1) m (h++[.row 25 4 0 [.agg [.int .i64 op,.int .i64 num,.str s,.sl 4 (ks.map Qy.av)]]]) (by omega) (by omega) (by omega) hm2 (hkm y hym)
   rw[if_pos c2]at hm
   have hle:=(Qy.left_le y (d+1) m).1
   generalize y.left (d+1) m=e at hm hc hle
   obtain⟨yo,yn,ys,yl⟩:=y
   rw[Qy.av_eq]at hc
   have dt:∀i:Decidable True, @decide True i=true:=fun i=>by simp
   have F:=F6 F b2 b3 hy c1 dt
   refine wk F ?_
   refine kq F (hc) ?_
   refine hK2 _ _ _ (Wkn.refl ⟨k+1,e,rfl,aA,?_,?_,by omega,by omega,hm⟩) (by omega)
   all_goals first|exact zq F|rfl|omega|trivial|skip
  ·rw[if_neg c2]at hm
   by_cases c3:m>0
   ·have b2:decide (m>0)=true:=by simp;omega
    have b3:decide (d<70)=false:=by simp;omega
    have F:=F4 F b1 b2 b3
    refine wk F ?_
    refine ee hQ F ?_
    exact Fin.plain (.int _ _) ⟨by rw[hm],rfl⟩
   ·have b2:decide (m>0)=false:=by simp;omega
    have F:=F3 F b1 b2
    refine wk F ?_
    refine ee hQ F ?_
    exact Fin.plain (.int _ _) ⟨by rw[hm],rfl⟩
 ·have b1:decide (k<ks.length)=false:=by simp[c1]
  rw[aD (by omega),Qy.leftL]at hm
  have F:=F2 F b1
  refine wk F ?_
  refine ee hQ F ?_
  exact Fin.plain (.int _ _) ⟨by rw[hm],rfl⟩
theorem jh(q:Qy)(h:Heap)(hz:q.mx≤9223372036854775807):Sat (CT G) 8 [q.av] h (fun r h'=>r=.bool (decide (q.left 0 300≤0))∧h'=h):=by
 have hc:=fun h=>qV G q 0 300 h (by omega) (by omega) (by omega) (by omega) hz
 generalize q.left 0 300=e at*
 obtain⟨yo,yn,ys,yl⟩:=q
 rw[Qy.av_eq]at*
 refine sb [.tmp 2] (fn:=Tryz.f8) Tryz.func8 ?_
 intro Q hQ
 refine wk trivial ?_
 refine kq trivial (hc _) ?_
 refine ee hQ trivial ?_
 exact Fin.plain (.bool _) ⟨rfl,rfl⟩
theorem ph(q:Qy)(h:Heap)(hz:q.mx≤9223372036854775807):Sat (CT G) 40 [q.av] h (fun r h'=>r=.int .i64 (q.dep 1)∧h'=h):=by
 have hc:=fun h=>tD G q 1 h (by omega) (by omega) hz
 generalize q.dep 1=e at*
 obtain⟨yo,yn,ys,yl⟩:=q
 rw[Qy.av_eq]at*
 refine sb [.tmp 2] (fn:=Tryz.f40) Tryz.func40 ?_
 intro Q hQ
 refine wk trivial ?_
 refine kq trivial (hc _) ?_
 refine ee hQ trivial ?_
 exact Fin.plain (.int _ _) ⟨rfl,rfl⟩
theorem pi(q:Qy)(h:Heap)(hz:q.mx≤9223372036854775807):Sat (CT G) 77 [q.av] h (fun r h'=>r=.int .i64 (q.dep 1)∧h'=h):=by
 have hc:=fun h=>tF G q 1 h (by omega) (by omega) hz
 generalize q.dep 1=e at*
 obtain⟨yo,yn,ys,yl⟩:=q
 rw[Qy.av_eq]at*
 refine sb [.tmp 2] (fn:=Tryz.f77) Tryz.func77 ?_
 intro Q hQ
 refine wk trivial ?_
 refine kq trivial (hc _) ?_
 refine ee hQ trivial ?_
 exact Fin.plain (.int _ _) ⟨rfl,rfl⟩
namespace Qy
theorem dJ:∀(ks:List Qy) (a m:Int),m≤depL ks a m
 | [],a,m=>by rw[depL];omega
 |k::ks,a,m=>by
  rw[depL]
  split
  ·have:=dJ ks a (k.dep (a+1));omega
  ·exact dJ ks a m
mutual
theorem o9:∀(q:Qy) (a n:Int),1≤a→q.dep a≤12→0<q.left (a-1) n→(q.sz:Int)≤20*(n-q.left (a-1) n)
 | .mk op num s ks,a,n,h1,hd,hl=>by
  rw[left]at hl ⊢
  rw[dep]at hd
  rw[sz]
  have ha:¬a>64:=fun h=>by rw[if_pos h]at hd;omega
  rw[if_neg ha]at hd
  have:=me ks a a (n-1-s.length/20) h1 (Int.le_refl _) hd hl
  omega
theorem me:∀(ks:List Qy) (a m n:Int),1≤a→a≤m→depL ks a m≤12→0<leftL ks (a-1) n→(szL ks:Int)≤20*(n-leftL ks (a-1) n)
 | [],a,m,n,h1,h2,hd,hl=>by rw[leftL,szL];omega
 |k::ks,a,m,n,h1,h2,hd,hl=>by
  rw[depL]at hd
  rw[leftL]at hl ⊢
  rw[szL]
  have e1:a-1+1=a+1-1:=by omega
  rw[e1]at hl ⊢
  split at hl
  ·rename_i hc
   rw[if_pos hc]
   have h3:=(iG ks (a-1) (k.left (a+1-1) n)).1
   have hd2:k.dep (a+1)≤12∧∃m',a≤m'∧depL ks a m'≤12:=by
    split at hd
    ·exact⟨by have:=dJ ks a (k.dep (a+1));omega,_,by omega,hd⟩
    ·exact⟨by have:=dJ ks a m;omega,_,h2,hd⟩
   obtain⟨h4,m',h5,h6⟩:=hd2
   have k1:=o9 k (a+1) n (by omega) h4 (by omega)
   have k2:=me ks a m' _ h1 h5 h6 hl
   omega
  ·rename_i hc
   have:m≤12:=by
    split at hd
    ·have:=dJ ks a (k.dep (a+1));omega
    ·have:=dJ ks a m;omega
   omega
end
theorem small{q:Qy}(h:¬q.left 0 300≤0)(hd:q.dep 1≤12):q.sz≤6000:=by
 have:=o9 q 1 300 (by omega) hd (by simpa using h)
 simp only[Int.sub_self]at this
 omega
end Qy
end Go.Av
namespace Go.Av
open Go Go.Proofs Go.RowKit
attribute [local irreducible] WP WPl WPix Sat
variable (G:Nat→Option (List AVal))
theorem tH(pl:Qy→Bool)(B:Nat)(hB:B≤1048576)(hp:∀q h,q.sz≤B→Sat (CT G) 84 [q.av] h (fun r h'=>r=.bool (pl q)∧h'=h)):
  ∀(q:Qy) (h:Heap),q.sz≤B→Sat (CT G) 42 [q.av] h (fun r h'=>r=.bool (q.all pl)∧h'=h):=by
 refine Qy.ind fun op num s ks ih=>?_
 intro h hz
 have hpl:=fun h=>hp (.mk op num s ks) h hz
 have hkl:=Qy.szL_len ks
 have hkm:∀k∈ks,k.sz≤Qy.szL ks:=fun k hk=>Qy.szL_mem hk
 rw[Qy.sz]at hz
 have hml:(ks.map Qy.av).length=ks.length:=List.length_map ..
 rw[Qy.all]
 generalize pl (.mk op num s ks)=pq at*
 rw[Qy.av_eq]at*
 have F:=hml
 refine sb [.tmp 2] (fn:=Tryz.f42) Tryz.func42 ?_
 intro Q hQ
 refine wk F ?_
 refine lm (fun nL tL hL=>∃(k:Nat),ks.length-k=nL∧h++[.row 25 4 0 [.agg [.int .i64 op,.int .i64 num,.str s,.sl 4 (ks.map Qy.av)]]]=hL∧tL 3=.int .i64 k∧k≤ks.length∧Qy.allL pl ks=Qy.allL pl (ks.drop k)) ((fun(k:Nat)=>(ks.length-k:Nat)) (0)) ?_ ?_
 ·refine Wkn.refl ⟨0,rfl,aA,?_,by omega,rfl⟩
  all_goals first|exact zq F|rfl|omega|trivial|skip
 rintro _ s2 h' ⟨k,rfl,rfl,e3,hk,hm⟩ K2 hK2
 simp only[ai,aj,Nat.reduceEqDiff, ↓reduceIte]at e3
 have F:=F2 F e3
 refine wk F ?_
 refine cq F (fun c1=>?_) (fun c1=>?_)<;>(try exact c1.elim)<;>(refine wk F ?_)
 ·have c2:k<ks.length:=by omega
  obtain⟨y,hy,hym⟩:=ae c2
  have hc:=fun h=>ih y hym h (by have:=hkm y hym;omega)
  rw[ap hy,Qy.allL]at hm
  cases he:y.all pl with
  |true=>
   rw[he,Bool.true_and]at hm
   rw[he]at hc
   clear he
   obtain⟨yo,yn,ys,yl⟩:=y
   rw[Qy.av_eq]at hc
   have F:=F3 F hy c2
   try refine sq F ?_
   refine wk F ?_
   refine kq F (hc _) ?_
   refine hK2 _ _ _ (Wkn.refl ⟨k+1,rfl,aA,?_,by omega,hm⟩) (by omega)
   all_goals first|exact zq F|rfl|omega|trivial|skip
  |false=>
   rw[he,Bool.false_and]at hm
   rw[he]at hc
   clear he
   obtain⟨yo,yn,ys,yl⟩:=y
   rw[Qy.av_eq]at hc
   have F:=F3 F hy c2
   try refine sq F ?_
   refine wk F ?_
   refine kq F (hc _) ?_
   refine ee hQ F ?_
   exact Fin.plain (.bool _) ⟨by rw[hm];rfl,rfl⟩
 ·rw[aD c1,Qy.allL]at hm
  refine wk F ?_
  refine kq F (hpl _) ?_
  refine ee hQ F ?_
  exact Fin.plain (.bool _) ⟨by rw[hm];rfl,rfl⟩
def ixQ{α:Type}(p:α→Bool)(l:List α):Int:=match l.findIdx? p with
 |some k=>(k:Int)
 |none=> -1
theorem gL{α:Type}(p:α→Bool)(l:List α):decide (ixQ p l≥0)=l.any p:=by
 unfold ixQ
 cases h:l.findIdx? p with
 |none=>
  rw[List.findIdx?_eq_none_iff]at h
  have:l.any p=false:=by rw[List.any_eq_false];intro x hx;rw[h x hx];simp
  rw[this];rfl
 |some k=>
  obtain⟨hk,hp,_⟩:=List.findIdx?_eq_some_iff_getElem.1 h
  have:l.any p=true:=List.any_eq_true.2 ⟨l[k],List.getElem_mem hk,hp⟩
  rw[this];simp
theorem gn{α:Type}{p:α→Bool}{l:List α}{k:Nat}{y:α}(hy:l[k]? =some y)(he:p y=true)(hp:∀a∈l.take k,p a=false):ixQ p l=k:=by
 obtain⟨c2,hk⟩:=List.getElem?_eq_some_iff.1 hy
 unfold ixQ
 have:l.findIdx? p=some k:=by
  rw[List.findIdx?_eq_some_iff_getElem]
  refine⟨c2,by rw[hk];exact he,fun i hi=>?_⟩
  rw[hp _ (by rw[List.mem_take_iff_getElem];exact⟨i,by omega,rfl⟩)];simp
 rw[this]
theorem gp{α:Type}{p:α→Bool}{l:List α}(hp:∀a∈l,p a=false):ixQ p l= -1:=by
 unfold ixQ
 rw[List.findIdx?_eq_none_iff.2 hp]
theorem ji{α:Type}{p:α→Bool}{l:List α}{k:Nat}{y:α}(hy:l[k]? =some y)(he:p y=false)(hp:∀a∈l.take k,p a=false):∀a∈l.take (k+1),p a=false:=by
 rw[List.take_add_one,hy]
 intro a ha
 simp at ha
 rcases ha with ha|rfl
 ·exact hp a ha
 ·exact he
def FinW{σ:Type}(Hp:σ→Heap):Prop:=∀(x y:σ) (r:AVal) (R:AVal→Heap→Prop),(∀N,Clo N r)→R r (Hp y)→Fin (Hp x) (Hp y) R r
theorem ns{σ:Type}{Hp:σ→Heap}{P:σ→Prop}(hF:FinW Hp)(p:Qy→Bool)(g:FuncId)(cap:List AVal)(l:List Qy)(hl:l.length≤1048576)
  (hg:∀a∈l,∀x,P x→Sat (CT G) g ([]++[a.av]++cap) (Hp x) (fun r h'=>r=.bool (p a)∧∃y,P y∧h'=Hp y))(x:σ)(hx:P x):
  Sat (CT G) 142 [.sl 4 (l.map Qy.av),.fn (.func g) [] cap] (Hp x) (fun r h'=>r=.int .i64 (ixQ p l)∧∃y,P y∧h'=Hp y):=by
 have hml:(l.map Qy.av).length=l.length:=List.length_map ..
 have F:=hml
 refine sb [.tmp 4] (fn:=Tryz.f142) Tryz.func142 ?_
 intro Q hQ
 refine wk F ?_
 refine lm (fun nL tL hL=>∃(k:Nat) (z:σ),l.length-k=nL∧Hp z=hL∧tL 8=.int .i64 k∧k≤l.length∧P z∧(∀a∈l.take k,p a=false)) ((fun(k:Nat) (z:σ)=>(l.length-k:Nat)) (0) (x)) ?_ ?_
 ·refine Wkn.refl ⟨0,x,rfl,aA,?_,Nat.zero_le _,hx,by simp⟩
  all_goals first|exact zq F|rfl|omega|trivial|skip
 rintro _ s2 h' ⟨k,z,rfl,rfl,e8,hk,hz,hp⟩ K2 hK2
 simp only[ai,aj,Nat.reduceEqDiff, ↓reduceIte]at e8
 have F:=F2 F e8
 refine wk F ?_
 refine cq F (fun c1=>?_) (fun c1=>?_)<;>(try exact c1.elim)<;>(refine wk F ?_)
 ·have c2:k<l.length:=by omega
  obtain⟨y,hy,hym⟩:=ae c2
  have hc:=hg y hym z hz
  cases he:p y with
  |true=>
   have e:=gn hy he hp
   rw[he]at hc
   clear he
   obtain⟨yo,yn,ys,yl⟩:=y
   rw[Qy.av_eq]at hc
   have F:=F3 F hy c2
   try refine sq F ?_
   refine wk F ?_
   refine hc.mono ?_
   rintro r h' ⟨rfl,u,hu,rfl⟩
   try refine sq F ?_
   refine wk F ?_
   refine ee hQ F ?_
   exact hF _ _ _ _ (fun N=>.int _ _) ⟨by rw[e],u,hu,rfl⟩
  |false=>
   have hp1:=ji hy he hp
   rw[he]at hc
   clear he
   obtain⟨yo,yn,ys,yl⟩:=y
   rw[Qy.av_eq]at hc
   have F:=F3 F hy c2
   try refine sq F ?_
   refine wk F ?_
   refine hc.mono ?_
   rintro r h' ⟨rfl,u,hu,rfl⟩
   try refine sq F ?_
   refine wk F ?_
   refine hK2 _ _ _ (Wkn.refl ⟨k+1,u,rfl,aA,?_,by omega,hu,hp1⟩) (by omega)
   all_goals first|exact zq F|rfl|omega|trivial|skip
 ·have e:=gp (p:=p) (l:=l) fun a ha=>hp a (by rwa [List.take_of_length_le (by omega)])
  refine ee hQ F ?_
  exact hF _ _ _ _ (fun N=>.int _ _) ⟨by rw[e],z,hz,rfl⟩
theorem gr{σ:Type}{Hp:σ→Heap}{P:σ→Prop}(hF:FinW Hp)(p:Qy→Bool)(g:FuncId)(cap:List AVal)(l:List Qy)(hl:l.length≤1048576)
  (hg:∀a∈l,∀x,P x→Sat (CT G) g ([]++[a.av]++cap) (Hp x) (fun r h'=>r=.bool (p a)∧∃y,P y∧h'=Hp y))(x:σ)(hx:P x):
  Sat (CT G) 89 [.sl 4 (l.map Qy.av),.fn (.func g) [] cap] (Hp x) (fun r h'=>r=.bool (l.any p)∧∃y,P y∧h'=Hp y):=by
 have hc:=ns G hF p g cap l hl hg x hx
 rw[← gL]
 refine sb [.tmp 4] (fn:=Tryz.f89) Tryz.func89 ?_
 intro Q hQ
 refine wk trivial ?_
 refine hc.mono ?_
 rintro r h' ⟨rfl,u,hu,rfl⟩
 try refine sq trivial ?_
 refine wk trivial ?_
 refine ee hQ trivial ?_
 exact hF _ _ _ _ (fun N=>.bool _) ⟨rfl,u,hu,rfl⟩
theorem tI(p:Qy→Bool)(g:FuncId)(cap:List AVal)(h:Heap)(l:List Qy)(hl:l.length≤1048576)(hg:∀a∈l,Sat (CT G) g ([]++[a.av]++cap) h (fun r h'=>r=.bool (p a)∧h'=h)):
  Sat (CT G) 89 [.sl 4 (l.map Qy.av),.fn (.func g) [] cap] h (fun r h'=>r=.bool (l.any p)∧h'=h):=
 (gr G (Hp:=fun _:Unit=>h) (P:=fun _=>True) (fun _ _ _ _ hc hR=>Fin.same (hc _) hR) p g cap l hl (fun a ha _ _=>(hg a ha).mono fun r h' ⟨h1,h2⟩=>⟨h1,(),trivial,h2⟩) () trivial).mono fun r h' ⟨h1,_,_,h2⟩=>⟨h1,h2⟩
def plP(nm tx kd:Qy→Bool)(q:Qy):Bool:= !(decide (q.op<1)||(decide (q.op>15)||(!nm q||(!tx q|| !kd q))))
theorem pj(nm tx kd:Qy→Bool)(B:Nat)(hB:B≤1048576)(h1:∀q h,q.sz≤B→Sat (CT G) 134 [q.av] h (fun r h'=>r=.bool (nm q)∧h'=h))(h2:∀q h,q.sz≤B→Sat (CT G) 135 [q.av] h (fun r h'=>r=.bool (tx q)∧h'=h))
  (h3:∀q h,q.sz≤B→Sat (CT G) 136 [q.av] h (fun r h'=>r=.bool (kd q)∧h'=h)):
  ∀(q:Qy) (h:Heap),q.sz≤B→Sat (CT G) 79 [q.av] h (fun r h'=>r=.bool (q.all (plP nm tx kd))∧h'=h):=by
 refine Qy.ind fun op num s ks ih=>?_
 intro h hz
 have k1:=fun h=>h1 (.mk op num s ks) h hz
 have k2:=fun h=>h2 (.mk op num s ks) h hz
 have k3:=fun h=>h3 (.mk op num s ks) h hz
 have hkl:=Qy.szL_len ks
 have hkm:∀k∈ks,k.sz≤Qy.szL ks:=fun k hk=>Qy.szL_mem hk
 rw[Qy.sz]at hz
 have hcl:∀a∈ks,∀h,Sat (CT G) 137 ([]++[a.av]++[]) h (fun r h'=>r=.bool (!a.all (plP nm tx kd))∧h'=h):=fun a ha h=>by
  have hc:=fun h=>ih a ha h (by have:=hkm a ha;omega)
  generalize a.all (plP nm tx kd)=e at*
  obtain⟨yo,yn,ys,yl⟩:=a
  rw[Qy.av_eq]at*
  refine sb [.tmp 2] (fn:=Tryz.f137) Tryz.func137 ?_
  intro Q hQ
  refine wk trivial ?_
  refine kq trivial (hc _) ?_
  refine ee hQ trivial ?_
  exact Fin.plain (.bool _) ⟨rfl,rfl⟩
 have hany:=fun h=>tI G (fun a=> !a.all (plP nm tx kd)) 137 [] h ks (by omega) (fun a ha=>hcl a ha h)
 have hfin:(!ks.any fun a=> !a.all (plP nm tx kd))=Qy.allL (plP nm tx kd) ks:=by
  rw[Qy.allL_eq,List.all_eq_not_any_not]
 rw[Qy.all, ← hfin]
 generalize (ks.any fun a=> !a.all (plP nm tx kd))=ay at*
 unfold plP
 show Sat _ _ _ _ (fun r h'=>r=.bool (!ay&& !(decide (op<1)||(decide (op>15)||(!nm (.mk op num s ks)||(!tx (.mk op num s ks)|| !kd (.mk op num s ks))))))∧h'=h)
 generalize nm (.mk op num s ks)=e1 at*
 generalize tx (.mk op num s ks)=e2 at*
 generalize kd (.mk op num s ks)=e3 at*
 rw[Qy.av_eq]at*
 have dt:∀i:Decidable True, @decide True i=true:=fun i=>by simp
 have df:∀i:Decidable False, @decide False i=false:=fun i=>by simp
 cases b1:decide (op<1)with
 |true=>
  have F:=b1
  refine sb [.tmp 2] (fn:=Tryz.f79) Tryz.func79 ?_
  intro Q hQ
  refine wk F ?_
  refine ee hQ F ?_
  exact Fin.plain (.bool _) ⟨by simp,rfl⟩
 |false=>
 cases b2:decide (op>15)with
 |true=>
  have F:=F2 b1 b2
  refine sb [.tmp 2] (fn:=Tryz.f79) Tryz.func79 ?_
  intro Q hQ
  refine wk F ?_
  refine ee hQ F ?_
  exact Fin.plain (.bool _) ⟨by simp,rfl⟩
 |false=>
 have F:=F2 b1 b2
 cases e1 with
 |false=>
  refine sb [.tmp 2] (fn:=Tryz.f79) Tryz.func79 ?_
  intro Q hQ
  refine wk F ?_
  refine kq F (k1 _) ?_
  refine ee hQ F ?_
  exact Fin.plain (.bool _) ⟨by simp,rfl⟩
 |true=>
 cases e2 with
 |false=>
  refine sb [.tmp 2] (fn:=Tryz.f79) Tryz.func79 ?_
  intro Q hQ
  refine wk F ?_
  refine kq F (k1 _) ?_
  refine kq F (k2 _) ?_
  refine ee hQ F ?_
  exact Fin.plain (.bool _) ⟨by simp,rfl⟩
 |true=>
 cases e3 with
 |false=>
  refine sb [.tmp 2] (fn:=Tryz.f79) Tryz.func79 ?_
  intro Q hQ
  refine wk F ?_
  refine kq F (k1 _) ?_
  refine kq F (k2 _) ?_
  refine kq F (k3 _) ?_
  refine ee hQ F ?_
  exact Fin.plain (.bool _) ⟨by simp,rfl⟩
 |true=>
  refine sb [.tmp 2] (fn:=Tryz.f79) Tryz.func79 ?_
  intro Q hQ
  refine wk F ?_
  refine kq F (k1 _) ?_
  refine kq F (k2 _) ?_
  refine kq F (k3 _) ?_
  refine kq F (hany _) ?_
  refine ee hQ F ?_
  exact Fin.plain (.bool _) ⟨by simp,rfl⟩
end Go.Av
namespace Go.Av
open Go Go.Proofs Go.RowKit
abbrev T2:=Int×Int
def tA(t:T2):AVal:=.agg [.int .i64 t.1,.int .i64 t.2]
def tadd(a b:T2):T2:=(a.1+b.1,a.2+b.2)
structure CS where
 al:T2
 st:T2
 fo:ML Int T2
 fe:ML Int T2
 tg:ML Bs T2
 it:ML Int It
 inn:ML Int Int
 ab:ML Int Int
 c1:Nat
 c2:Nat
 c3:Nat
 c4:Nat
 c5:Nat
 c6:Nat
def CS.row(m:Nat)(c:CS):AVal:=.agg [.int .i64 c.al.1,.int .i64 c.al.2,.int .i64 c.st.1,.int .i64 c.st.2,.hm m,.hm (m+1),.hm (m+2),.hm (m+3),.hm (m+4),.hm (m+5)]
def CS.bl(m:Nat)(c:CS):List Blk:=
 [.mp (encM iA tA c.fo) c.c1,.mp (encM iA tA c.fe) c.c2,.mp (encM AVal.str tA c.tg) c.c3,.mp (encM iA It.av c.it) c.c4,.mp (encM iA iA c.inn) c.c5,.mp (encM iA iA c.ab) c.c6,.row 134 10 0 [c.row m]]
def CS.z:CS:=⟨(0,0),(0,0),[],[],[],[],[],[],0,0,0,0,0,0⟩
def co(H:Heap)(m:Nat)(c:CS):Heap:=ov H m (c.bl m)
section
variable {H:Heap} {m:Nat} {c:CS}
end
end Go.Av
namespace Go.Av
open Go Go.Proofs Go.RowKit
def negT(t:T2):T2:=(-t.1, -t.2)
def oneT(t:It):T2:=(1,if t.read then 0 else 1)
def foF(t:T2):List Int→ML Int T2→Nat→ML Int T2×Nat
 | [],l,k=>(l,k)
 |id::ch,l,k=>foF t ch (upM l k id (tadd ((lkM l id).getD (0,0)) t)) (ckM l k id)
def CS.shift(c:CS)(ch:List Int)(feed:Int)(t:T2):CS:=
 {c with al:=tadd c.al t,fe:=upM c.fe c.c2 feed (tadd ((lkM c.fe feed).getD (0,0)) t),c2:=ckM c.fe c.c2 feed,fo:=(foF t ch c.fo c.c1).1,c1:=(foF t ch c.fo c.c1).2}
def tg1F(n:T2)(g:Bs)(l:ML Bs T2)(k:Nat):ML Bs T2×Nat:=
 if (tadd ((lkM l g).getD (0,0)) n).1=0 then(dlM l g,k)else(upM l k g (tadd ((lkM l g).getD (0,0)) n),ckM l k g)
def tgsF(n:T2):List Bs→ML Bs T2→Nat→ML Bs T2×Nat
 | [],l,k=>(l,k)
 |g::gs,l,k=>tgsF n gs (tg1F n g l k).1 (tg1F n g l k).2
def CS.tag(c:CS)(g:Bs)(n:T2):CS:= {c with tg:=(tg1F n g c.tg c.c3).1,c3:=(tg1F n g c.tg c.c3).2}
def CS.tags(c:CS)(gs:List Bs)(n:T2):CS:= {c with tg:=(tgsF n gs c.tg c.c3).1,c3:=(tgsF n gs c.tg c.c3).2}
def CS.star(c:CS)(b:Bool)(n:T2):CS:= {c with st:=if b then tadd c.st n else c.st}
def CS.count(c:CS)(ch:List Int)(t:It)(n:T2):CS:=((c.shift ch t.feed n).star t.star n).tags t.tags n
def chO(ab:ML Int Int):Nat→Int→Option (List Int)
 |0,id=>if id=0 then some []else none
 |k+1,id=>if id=0 then some []else(chO ab k ((lkM ab id).getD 0)).map (id:: ·)
def CS.chn(c:CS)(feed:Int):List Int:=(chO c.ab 7 ((lkM c.inn feed).getD 0)).getD []
def tl(L:List It)(p:It→Bool):T2:=((L.countP p:Nat),(L.countP (fun t=>p t&& !t.read):Nat))
end Go.Av
namespace Go.Av
open Go Go.Proofs Go.RowKit
attribute [local irreducible] WP WPl WPix Sat
section
variable {C:Ctx} {ops:Array Oper} {rest:List Oper} {t:Env} {h:Heap} {K:Env→Prop} {dst:Option Nat} {ty:TypeId} {pos:String} {aft:Array Edge}
end
variable (G:Nat→Option (List AVal))
end Go.Av
namespace Go.Av
open Go Go.Proofs Go.RowKit
attribute [local irreducible] WP WPl WPix Sat
variable (G:Nat→Option (List AVal))
end Go.Av
namespace Go.Av
open Go Go.Proofs Go.RowKit
attribute [local irreducible] WP WPl WPix Sat
variable (G:Nat→Option (List AVal))
end Go.Av
namespace Go.Av
open Go Go.Proofs Go.RowKit
attribute [local irreducible] WP WPl WPix Sat
variable (G:Nat→Option (List AVal))
end Go.Av
namespace Go.Av
open Go Go.Proofs Go.RowKit
attribute [local irreducible] WP WPl WPix Sat
variable (G:Nat→Option (List AVal))
def PS.upFo(s:PS)(k:Int)(f:Fo):PS:= {s with fo:=upM s.fo s.c1 k f,c1:=ckM s.fo s.c1 k}
def PS.upFe(s:PS)(k:Int)(f:Fe):PS:= {s with fe:=upM s.fe s.c2 k f,c2:=ckM s.fe s.c2 k}
def PS.upIt(s:PS)(k:Int)(f:It):PS:= {s with it:=upM s.it s.c3 k f,c3:=ckM s.it s.c3 k}
def PS.upSe(s:PS)(k:Int)(f:Se):PS:= {s with se:=upM s.se s.c4 k f,c4:=ckM s.se s.c4 k}
def PS.upNm(s:PS)(k:Int×Bs)(f:Int):PS:= {s with nm:=upM s.nm s.c5 k f,c5:=ckM s.nm s.c5 k}
def PS.upPl(s:PS)(k:Bs)(f:Int):PS:= {s with pl:=upM s.pl s.c6 k f,c6:=ckM s.pl s.c6 k}
def PS.upGu(s:PS)(k:Int×Bs)(f:Int):PS:= {s with gu:=upM s.gu s.c7 k f,c7:=ckM s.gu s.c7 k}
def PS.few(s:PS):Prop:=∀id, -100000≤(lkM s.he id).getD 0∧(lkM s.he id).getD 0≤100000
theorem PS.few1{s:PS}(h:s.few)(id:Int): -1000000≤(lkM s.he id).getD 0∧(lkM s.he id).getD 0≤1000000:=by have:=h id;omega
def PS.make(s:PS)(e:Ev):PS:=
 if e.kind=1 then(((s.upFo e.a ⟨e.a,e.b,e.s⟩).upNm (e.b,e.s) e.a).hold e.b 1).raise 0 e.a
 else if e.kind=3 then(((s.upFe e.a ⟨e.a,e.b,e.s,e.t⟩).upPl e.s e.a).hold e.b 1).raise 1 e.a
 else if e.kind=7 then((s.upIt e.a ⟨e.a,e.b,e.n,e.s,e.t,e.u,false,false,[]⟩).upGu (e.b,e.s) e.a).raise 2 e.a
 else if e.kind=11 then(s.upSe e.a ⟨e.a,e.s,e.t⟩).raise 3 e.a
 else s
theorem pk(s:PS)(e:Ev)(hf:s.few){H:Heap}{n:Nat}(hn:n+9≤H.length):Sat (CT G) 54 [.hp (n+8) 0 0 0,e.av] (so H n s) (fun r h'=>r=.tup []∧h'=so H n (s.make e)):=by
 refine sb [] (fn:=Tryz.f54) Tryz.func54 ?_
 intro Q hQ
 refine wk trivial ?_
 by_cases k1:e.kind=1
 ·have F:=k1
  try refine sq F ?_
  refine wk F ?_
  refine kq F (bX G _ e.b 1 (PS.few1 (s:=((s.upFo e.a ⟨e.a,e.b,e.s⟩).upNm (e.b,e.s) e.a)) hf e.b) (by omega) (by first|omega| (simp;omega))) ?_
  refine kq F (cX G _ 0 e.a (by omega) (by first|omega| (simp;omega))) ?_
  refine ee hQ F ?_
  exact ak hn (.tup _ (by simp)) ⟨rfl,by rw[PS.make,if_pos k1]⟩
 by_cases k3:e.kind=3
 ·have F:=k3
  try refine sq F ?_
  refine wk F ?_
  refine kq F (bX G _ e.b 1 (PS.few1 (s:=((s.upFe e.a ⟨e.a,e.b,e.s,e.t⟩).upPl e.s e.a)) hf e.b) (by omega) (by first|omega| (simp;omega))) ?_
  refine kq F (cX G _ 1 e.a (by omega) (by first|omega| (simp;omega))) ?_
  refine ee hQ F ?_
  exact ak hn (.tup _ (by simp)) ⟨rfl,by rw[PS.make,if_neg k1,if_pos k3]⟩
 by_cases k7:e.kind=7
 ·have F:=k7
  try refine sq F ?_
  refine wk F ?_
  refine kq F (cX G _ 2 e.a (by omega) (by first|omega| (simp;omega))) ?_
  refine ee hQ F ?_
  exact ak hn (.tup _ (by simp)) ⟨rfl,by rw[PS.make,if_neg k1,if_neg k3,if_pos k7];rfl⟩
 by_cases k11:e.kind=11
 ·have F:=k11
  try refine sq F ?_
  refine wk F ?_
  refine kq F (cX G _ 3 e.a (by omega) (by first|omega| (simp;omega))) ?_
  refine ee hQ F ?_
  exact ak hn (.tup _ (by simp)) ⟨rfl,by rw[PS.make,if_neg k1,if_neg k3,if_neg k7,if_pos k11];rfl⟩
 have n1:(e.kind==1)=false:=by simp[k1]
 have n3:(e.kind==3)=false:=by simp[k3]
 have n7:(e.kind==7)=false:=by simp[k7]
 have n11:(e.kind==11)=false:=by simp[k11]
 have F:=F4 n1 n3 n7 n11
 try refine sq F ?_
 refine wk F ?_
 refine ee hQ F ?_
 exact ak hn (.tup _ (by simp)) ⟨rfl,by rw[PS.make,if_neg k1,if_neg k3,if_neg k7,if_neg k11]⟩
end Go.Av
