/- Parts. -/
import Derived.Test.YtjfjncmgclaokaaGreatDoorMqAv21
import Derived.Laws.Externs
import Derived.Test.YtjfjncmgclaokaaGreatDoorMqAv9
import Derived.Test.YtjfjncmgclaokaaGreatDoorProg
import Derived.KernelRfl
import Derived.Test.YtjfjncmgclaokaaGreatDoorRows
import Derived.ChangeSame
import Derived.RowKit
import Derived.ReadAgain
import Derived.ChangeArms
import Derived.Clock
import Derived.Deep.Slices
import Derived.Lib.Builder
import Derived.Shelf.Strings.Builder1
import Derived.Shelf.Strings.Trim
import Derived.Shelf.Small.Utf8
import Derived.Shelf.Small.Bits
import Derived.Shelf.Small.Strs
import Derived.Shelf.Small.Wraps
import Derived.Shelf.Strings.BuilderF
import Derived.Shelf.Strings.BuilderK
import Derived.Shelf.Utf8.AppendRunePlain
import Derived.Shelf.Strconv.Itoa0
import Derived.Shelf.Strings.Search1
import Derived.Shelf.Strings.Search2
import Derived.Shelf.Strings.Search3
import Derived.Shelf.Strings.Cut
import Derived.Shelf.Strings.Count
import Derived.Shelf.LaysM
import Derived.Shelf.Strings.Shaped
import Derived.Shelf.Strings.LastIndex
import Derived.Shelf.Strings.Prefix
import Derived.Shelf.Strings.Split
import Derived.Shelf.Unicode.Decode
import Derived.Shelf.Strings.Runes
import Derived.Shelf.Strings.AsciiSet
import Derived.Shelf.Unicode.DecodeSlow
import Derived.Shelf.Strings.FieldsFuncAny
import Derived.Ground.Names2Prog
import Derived.Shelf.Slices.Clone
import Derived.Shelf.Slices.SearchI
import Derived.Shelf.Slices.Delete
import Derived.Shelf.Slices.Empties
import Derived.Ground.SlgmProg
import Derived.Shelf.SortM.Plain
import Derived.Shelf.SortM.SortNone
set_option linter.unusedSimpArgs false
set_option linter.unusedVariables false
set_option linter.unusedSectionVars false
set_option linter.unnecessarySimpa false
set_option maxRecDepth 100000
set_option maxHeartbeats 16000000
namespace Go.Av
open Go.RowKit
section
variable {C:Ctx}
def Agr(ms:List Nat)(s t:Env):Prop:=∀i,i ∉ ms→s i=t i
theorem Agr.put{ms:List Nat}{s t:Env}{d:Option Nat}{v:AVal}(g:Agr ms s t)(hd:∀x,d=some x→x∈ms):Agr ms (put s d v) t:=by
 intro i hi;cases d with
 |none=>exact g i hi
 |some x=>
  have:i≠x:=fun e=>hi (e▸hd x rfl)
  simp only[Av.put,upd];rw[G0 this];exact g i hi
theorem bv{ops:Array Oper}{o:Oper}{t:Env}{h:Heap}{K K':AVal→Heap→Prop}(g:wpOperV C ops o t h K)(k:∀v h',K v h'→K' v h'):wpOperV C ops o t h K':=by
 unfold wpOperV at*;split at g
 ·exact dN k g
 ·split at g
  ·exact⟨fun e=>dN k (g.1 e),fun e=>k _ _ (g.2 e)⟩
  ·exact g.elim
theorem kR{ops:Array Oper}{ms:List Nat}{t0:Env}{Q Q':Exit→Env→Heap→Prop}(k:∀e t h,Q e t h→Agr ms t t0→Q' e t h):
  ∀(l:List Oper) (t:Env) (h:Heap),(∀x∈wrOps l,x∈ms)→Agr ms t t0→WPl C ops Q l t h→WPl C ops Q' l t h
 | [],t,h,_,a,g=>k _ _ _ g a
 |o::rest,t,h,hm,a,g=>by
  unfold WPl at g ⊢;rw[cS]at g ⊢;refine bv g fun v h' g'=>kR k rest _ h' (fun x hx=>hm x ?_) (a.put fun x hx=>hm x ?_) g'
  ·unfold wrOps;split<;>simp[hx]
  ·unfold wrOps;simp[hx]
theorem kS{o:Oper}{x:Nat}(hx:o.dst=some x):∀(l:List Oper),o∈l→x∈wrOps l
 |o'::rest,hm=>by
  unfold wrOps;rcases J6.1 hm with rfl|hm
  ·rw[hx];simp
  ·split<;>simp[kS hx rest hm]
theorem fY{ops:Array Oper}{ms:List Nat}{t0:Env}{Q Q':Exit→Env→Heap→Prop}(k:∀e t h,Q e t h→Agr ms t t0→Q' e t h)(hm:∀x∈wrOps ops.toList,x∈ms):
  ∀(l:List Nat) (t:Env) (h:Heap),Agr ms t t0→WPix C ops Q l t h→WPix C ops Q' l t h
 | [],t,h,a,g=>k _ _ _ g a
 |i::rest,t,h,a,g=>by
  unfold WPix at g ⊢;cases hi:ops[i]? with
  |none=>rw[hi]at g;exact fY k hm rest t h a g
  |some o=>
   rw[hi]at g;simp only[]at g ⊢;rw[cS]at g ⊢;exact bv g fun v h' g'=>fY k hm rest _ h' (a.put fun x hx=>hm x (kS hx _ (by simpa using Q4 hi))) g'
theorem tP{ms:List Nat}{t0:Env}:∀(c:Code) {Q Q':Exit→Env→Heap→Prop},(∀e t h,Q e t h→Agr ms t t0→Q' e t h)→
  ∀(t:Env) (h:Heap),(∀x∈wr c,x∈ms)→Agr ms t t0→WP C c Q t h→WP C c Q' t h:=by
 intro c;induction c with
 |skip=>intro Q Q' k t h _ a g;exact k _ _ _ g a
 |label l=>intro Q Q' k t h _ a g;exact k _ _ _ g a
 |exit id=>intro Q Q' k t h _ a g;exact k _ _ _ g a
 |ret=>intro Q Q' k t h _ a g;exact k _ _ _ g a
 |region id ops draw=>
  intro Q Q' k t h hm a g;cases draw with
  |false=>exact kR k _ t h hm a g
  |true=>exact fun tp=>fY k hm _ t h a (g tp)
 |seq x y ihx ihy=>
  intro Q Q' k t h hm a g;refine ihx (Q:=thenQ (fun t h=>Wkn C (wr x) t h fun t h=>WP C y Q t h) Q) (fun e t' h' g' a'=>?_) t h (fun i hi=>hm i (by simp[wr,hi])) a g;cases e with
  |normal=>
   obtain⟨t1,h1,hw,g'⟩:=g';exact⟨t1,h1,hw,ihy k t1 h1 (fun i hi=>hm i (by simp[wr,hi])) (fun i hi=>(hw.1 i fun e=>hi (hm i (by simp[wr,e]))).trans (a' i hi)) g'⟩
  |_=>exact k _ _ _ g' a'
 |cond c x y ihx ihy=>
  intro Q Q' k t h hm a g;simp only[WP]at g ⊢;split at g
  ·exact⟨fun e=>ihx k t h (fun i hi=>hm i (by simp[wr,hi])) a (g.1 e),fun e=>ihy k t h (fun i hi=>hm i (by simp[wr,hi])) a (g.2 e)⟩
  ·exact g.elim
 |block id x ih=>
  intro Q Q' k t h hm a g;refine ih (Q:=blockQ id Q) (fun e t' h' g' a'=>?_) t h hm a g;cases e with
  |exit id'=>
   simp only[blockQ]at g' ⊢;split at g'
   ·rename_i e;rw[G3 e];exact k _ _ _ g' a'
   ·rename_i e;rw[G0 e];exact k _ _ _ g' a'
  |_=>exact k _ _ _ g' a'
 |loop x ih=>
  intro Q Q' k t h hm a g;obtain⟨I,n,⟨t1,h1,hw,h0⟩,round⟩:=g;have wk:∀t h t1 h1,Weak C (wr x) t h t1 h1→Agr ms t t0→Agr ms t1 t0:=fun t h t1 h1 hw a i hi=>(hw.1 i fun e=>hi (hm i e)).trans (a i hi)
  refine⟨fun n t h=>I n t h∧Agr ms t t0,n,⟨t1,h1,hw,h0,wk _ _ _ _ hw a⟩,fun n' t' h' hI=>?_⟩;refine ih (Q:=thenQ (fun t2 h2=>∃m,m<n'∧Wkn C (wr x) t2 h2 (I m)) Q) (fun e t2 h2 g' a'=>?_) t' h' hm hI.2 (round n' t' h' hI.1);cases e with
  |normal=>obtain⟨m,h1,t3,h3,hw3,h2⟩:=g';exact⟨m,h1,t3,h3,hw3,h2,wk _ _ _ _ hw3 a'⟩
  |_=>exact k _ _ _ g' a'
 |rangeFunc f ps a0 b _ _=>intro Q Q' k t h _ a g;exact g.elim
 |scope x ih=>
  intro Q Q' k t h hm a g;refine ih (Q:=noG Q) (fun e t' h' g' a'=>?_) t h hm a g;cases e with
  |goto l=>exact g'.elim
  |_=>exact k _ _ _ g' a'
 |goto l=>intro Q Q' k t h _ a g;exact g.elim
 |refuse s=>intro Q Q' k t h _ a g;exact g.elim
def mix:List Nat→Env→Env→Env
 | [],_,t=>t
 |a::ms,s,t=>upd (mix ms s t) a (s a)
@[go_sem] theorem ak(s t:Env)(i:Nat):mix [] s t i=t i:=(rfl)
@[go_sem] theorem ai(a:Nat)(ms:List Nat)(s t:Env)(i:Nat):mix (a::ms) s t i=if i=a then s a else mix ms s t i:=(rfl)
theorem xb{ms:List Nat}{s t:Env}{i:Nat}(h:i∈ms):mix ms s t i=s i:=by
 induction ms with
 |nil=>cases h
 |cons a ms ih=>
  rw[ai];split
  ·rename_i e;rw[e]
  ·rename_i e;rcases J6.1 h with h|h
   ·exact absurd h e
   ·exact ih h
theorem vI{ms:List Nat}{s t:Env}{i:Nat}(h:i ∉ ms):mix ms s t i=t i:=by
 induction ms with
 |nil=>rfl
 |cons a ms ih=>
  rw[ai];simp only[J6,not_or]at h;rw[G0 h.1];exact ih h.2
theorem Agr.mix{ms:List Nat}{s t:Env}(g:Agr ms s t):s=mix ms s t:=by
 funext i
 by_cases h:i∈ms
 ·rw[xb h]
 ·rw[vI h];exact g i h
theorem tQ{c:Code}{ms:List Nat}{Q:Exit→Env→Heap→Prop}{t:Env}{h:Heap}(hms:wr c=ms)(I:Nat→Env→Heap→Prop)(n:Nat)(h0:Wkn C ms t h (I n))
  (round:∀(n':Nat) (s:Env) (h':Heap),I n' (mix ms s t) h'→∀K:Env→Heap→Prop,(∀m t2 h2,Wkn C ms t2 h2 (I m)→m<n'→K t2 h2)→WP C c (thenQ K Q) (mix ms s t) h'):WP C (.loop c) Q t h:=by
 subst hms;obtain⟨t1,h1,hw,h0⟩:=h0;refine⟨fun n t' h'=>I n t' h'∧Agr (wr c) t' t,n,⟨t1,h1,hw,h0,hw.1⟩,fun n' t' h' hI=>?_⟩;obtain⟨hI,ha⟩:=hI;have e:=ha.mix;have h1:=round n' t' h' (by rw[← e];exact hI) (fun t2 h2=>∃m,m<n'∧Wkn C (wr c) t2 h2 (I m)) (fun m t2 h2 hm hi=>⟨m,hi,hm⟩);rw[← e]at h1;refine tP (ms:=wr c) (t0:=t) c (fun e t2 h2 g' a'=>?_) t' h' (fun x hx=>hx) ha h1;cases e with
 |normal=>obtain⟨m,hm,t3,h3,hw3,hi⟩:=g';exact⟨m,hm,t3,h3,hw3,hi,fun i hi=>(hw3.1 i hi).trans (a' i hi)⟩
 |_=>exact g'
attribute [go_sem] wr wrOps
theorem Weak.trans{ms:List Nat}{t t1 t2:Env}{h h1 h2:Heap}(a:Weak C ms t h t1 h1)(b:Weak C ms t1 h1 t2 h2):Weak C ms t h t2 h2:=
 ⟨fun i hi=>(b.1 i hi).trans (a.1 i hi),fun B n S μ w ac f r=>by
  obtain⟨S1,μ1,st1,f1,r1⟩:=a.2 B n S μ w ac f r;obtain⟨S2,μ2,st2,f2,r2⟩:=b.2 B n S1 μ1 w ac f1 r1;exact⟨S2,μ2,st1.trans st2,f2,r2⟩⟩
theorem mm{w:World}{S:Addr→Prop}{μ:Map}{m:MB}(hm:m.blk=none)(hv:m.ver=0):Rep w S (μ++[m]) (.hs μ.length 0 0 0 true) (.slice none 0 0):=
 .hs _ _ _ _ _ m _ (by simp) (by omega) (by intro cs h;cases h) rfl fun _=>.inl ⟨hm,rfl,rfl,rfl⟩
theorem kT{S:Addr→Prop}{μ:Map}{w:World}{B:Nat}{h:Heap}(f:Fits C B S μ h w)(e n:Nat)(hn:0<n):
  Fits C B S (μ++[⟨none,0,n,0⟩]) (h++[.row e n 0 []]) w∧Step B S μ w S (μ++[⟨none,0,n,0⟩]) w:=
 f.virtual ⟨none,0,n,0⟩ (.row e n 0 []) rfl ⟨rfl,rfl,hn,fun i r hi=>by simp at hi,fun i r j c hi=>by simp at hi,.inl ⟨rfl,rfl⟩⟩
theorem Weak.virt{ms:List Nat}{t:Env}{h:Heap}(i e n:Nat)(hi:i∈ms)(hn:0<n)(ht:t i=.nil (.slice none 0 0)):
  Weak C ms t h (upd t i (.hs h.length 0 0 0 true)) (h++[.row e n 0 []]):=by
 refine⟨fun j hj=>by simp only[upd];rw[G0];intro e;subst e;exact hj hi,fun B k S μ w a f r=>?_⟩;obtain⟨f',st⟩:=kT f e n hn;refine⟨S,_,st,f',r.1,r.2.1,fun j hj=>?_⟩;have hr:=r.2.2 j hj;simp only[upd];split
 ·rename_i e;subst e;rw[ht]at hr;generalize a.tmps.getD j undef=v at hr;cases hr;rw[← f.len];exact mm rfl rfl
 ·exact hr.mono st
def WkR(r s:AVal):Prop:=r.cells.length=s.cells.length∧∀(j:Nat) (c d:AVal),r.cells[j]? =some c→s.cells[j]? =some d→Wk c d∧(c.sto=true→d.sto=true)
theorem Weak.virtRows{ms:List Nat}{t:Env}{h:Heap}{p v e m:Nat}{rows:List AVal}(rows':List AVal)(e' n':Nat)(hn:0<n')(hg:getRow h p v=some (e,m,rows))(hl:rows'.length=rows.length)
  (at_:∀(i:Nat) (r':AVal),rows'[i]? =some r'→∃r0,rows[i]? =some r0∧r'.cells.length=r0.cells.length∧
    ∀(q:Nat) (c:AVal),r'.cells[q]? =some c→(r0.cells[q]? =some c)∨(c=.hs h.length 0 0 0 true∧r0.cells[q]? =some (.nil (.slice none 0 0)))):
  Weak C ms t h t (h.set p (.row e m v rows')++[.row e' n' 0 []]):=by
 refine⟨fun _ _=>rfl,fun B k S μ w a f r=>?_⟩;obtain⟨f1,st1⟩:=kT f e' n' hn;have hh:=bS hg;have hp:=(F1.1 hh).1;have hg1:getRow (h++[.row e' n' 0 []]) p v=some (e,m,rows):=eC hg;obtain⟨mb,hm,rf⟩:=f1.row hg1;have key:BlkFits w S (List.set (μ++[(⟨none,0,n',0⟩:MB)]) p mb) mb (.row e m v rows'):=by
  have hset:List.set (μ++[(⟨none,0,n',0⟩:MB)]) p mb=μ++[(⟨none,0,n',0⟩:MB)]:=by
   obtain⟨hlt,he⟩:=F1.1 hm;rw[← he,List.set_getElem_self]
  rw[hset];refine⟨rf.hver,rf.hsize,rf.pos,fun i r' hi=>?_,fun i r' q c hi hc=>?_,?_⟩
  ·obtain⟨r0,h0,h1,_⟩:=at_ i r' hi;rw[h1];exact rf.lens i r0 h0
  ·obtain⟨r0,h0,_,h2⟩:=at_ i r' hi;rcases h2 q c hc with h3| ⟨rfl,h3⟩
   ·exact rf.sto i r0 q c h0 h3
   ·rfl
  ·rcases rf.lies with⟨h1,h2⟩| ⟨b,cur,h1,h2,h3,h4,h5,h6⟩
   ·subst h2;exact .inl ⟨h1,K5.1 (by simpa using hl)⟩
   ·refine .inr ⟨b,cur,h1,h2,h3,by omega,h5,fun i r' q c hi hc=>?_⟩;obtain⟨r0,h0,_,h7⟩:=at_ i r' hi;rcases h7 q c hc with h8| ⟨rfl,h8⟩
    ·exact h6 i r0 q c h0 h8
    ·obtain⟨x,hx,hr⟩:=h6 i r0 q _ h0 h8;refine⟨x,hx,?_⟩;cases hr;rw[← f.len];exact mm rfl rfl
 obtain⟨f2,st2⟩:=f1.update (m':=mb) (k':=.row e m v rows') hm (Only.refl w _) (H5 _) (fun _=>rfl) (.inl rfl) key;rw[List.set_append_left _ _ hp]at f2;exact⟨S,_,st1.trans st2,f2,r.mono (st1.trans st2)⟩
theorem Weak.virtCell{ms:List Nat}{t:Env}{h:Heap}{p v e m:Nat}{cs:List AVal}(e' n':Nat)(hn:0<n')(hg:getRow h p v=some (e,m,[.agg cs]))(j:Nat)(hj:cs[j]? =some (.nil (.slice none 0 0))):
  Weak C ms t h t (h.set p (.row e m v [.agg (cs.set j (.hs h.length 0 0 0 true))])++[.row e' n' 0 []]):=by
 refine Weak.virtRows _ e' n' hn hg rfl fun i r' hi=>?_
 match i with
 |0=>
  simp only[Q6,I0]at hi;subst hi;refine⟨_,rfl,by simp[AVal.cells],fun q c hc=>?_⟩;simp only[AVal.cells]at hc ⊢;by_cases hq:j=q
  ·subst hq;rw[L5 (F1.1 hj).1]at hc;cases hc;exact .inr ⟨rfl,hj⟩
  ·rw[K6 hq]at hc;exact .inl hc
 |i+1=>simp at hi
end
section
variable {C:Ctx} {B n:Nat} {S:Addr→Prop} {μ:Map} {h:Heap} {w w':World} {t:Env} {a:Act} {K:AVal→Heap→Prop}
theorem Fits.grown(f:Fits C B S μ h w)(b:Below w.heap.size w w'):Fits C B S μ h w'∧Step B S μ w S μ w':=by
 have hk:∀k,k<w.heap.size→w'.heap[k]? =w.heap[k]? :=fun k hk=>b.block k hk
 have st:Step B S μ w S μ w':=⟨fun _ ha=>ha,fun a ha=>World.cell?_of_block (hk _ (f.lie a ha)),b.mono f.base,MapLe.refl _,fun _ ha=>.inl ha⟩
 exact⟨⟨fun g cs hg=>(f.glob g cs hg).mono st,f.len,f.sep,fun p m k h1 e1=>by
  obtain⟨a1,a2,a3⟩:=f.own p m k h1 e1;exact⟨a1,T8 a2 b.size,a3⟩,T4 f.base b.size,fun a ha=>T8 (f.lie a ha) b.size,
  fun p m k h1 h2=>(f.blk p m k h1 h2).mono st fun q hq=>hk q (f.own p m q h1 hq).2.1⟩,st⟩
theorem mn{T len e n:Nat}{idx:List Nat}{xs:List AVal}{k:AVal→Heap→Prop}(he:elmT C.P T=some e)(hn:szOf C.P e=some n)(hz:(zroT C.P e).map (fun z=>(z.cells.length,z.cells.all AVal.sto))=some (n,true))
  (hl:xs.length=len)(h0:0<len)(h1:0<n)(hb:len*n≤16777216)(hi:idx=List.range len)(hx:xs.all (fun x=>decide (x.cells.length=n)&&x.lies)=true)(hk:k (.sl n xs) h):rowsK C T len idx xs h k:=by
 unfold rowsK;rw[he,bm,hn,bm,G0 (by omega)];refine⟨hl,h0,h1,hb,hi,hz,fun x hm=>?_,.inr hk⟩;have:=I1.1 hx x hm;simpa using this
theorem mr{T len e n:Nat}{idx:List Nat}{xs:List AVal}{k:AVal→Heap→Prop}(he:elmT C.P T=some e)(hn:szOf C.P e=some n)(hz:(zroT C.P e).map (fun z=>(z.cells.length,z.cells.all AVal.sto))=some (n,true))
  (hl:xs.length=len)(h0:0<len)(h1:0<n)(hb:len*n≤16777216)(hi:idx=List.range len)(hx:xs.all (fun x=>decide (x.cells.length=n)&&x.lies)=true)(hk:k (.hs h.length 0 0 len true) (h++[.row e n 0 xs])):rowsK C T len idx xs h k:=by
 unfold rowsK;rw[he,bm,hn,bm,G0 (by omega)];refine⟨hl,h0,h1,hb,hi,hz,fun x hm=>?_,.inl hk⟩;have:=I1.1 hx x hm;simpa using this
theorem tR{T len e n:Nat}{idx:List Nat}{xs:List AVal}{k:AVal→Prop}(he:elmT C.P T=some e)(hn:szOf C.P e=some n)(hz:(zroT C.P e).map (fun z=>(z.cells.length,z.cells.all AVal.sto))=some (n,true))
  (hl:xs.length=len)(h0:0<len)(h1:0<n)(hb:len*n≤16777216)(hi:idx=List.range len)(hx:xs.all (fun x=>decide (x.cells.length=n)&&x.lies)=true)(hk:k (.sl n xs)):rowsV C T len idx xs k:=by
 unfold rowsV;rw[he,bm,hn,bm,G0 (by omega)];refine⟨hl,h0,h1,hb,hi,hz,fun x hm=>?_,hk⟩;have:=I1.1 hx x hm;simpa using this
def plainV:AVal→Option Value
 | .int k n=>some (.int k n)
 | .bool b=>some (.bool b)
 | .str s=>some (.string ⟨s.toArray⟩)
 |_=>none
def plainL:List AVal→Option (List Value)
 | []=>some []
 |x::l=>match plainV x,plainL l with|some v,some vs=>some (v::vs)|_,_=>none
theorem pP{x:AVal}{v u:Value}(g:plainV x=some v)(r:Rep w S μ x u):u=v:=by
 unfold plainV at g;split at g
 ·cases g;exact r.int_inv
 ·cases g;exact r.bool_inv
 ·cases g;exact r.str_inv
 ·cases g
theorem kU{x:AVal}{v:Value}(g:plainV x=some v):Rep w S μ x v:=by
 unfold plainV at g;split at g
 ·cases g;exact .int _ _
 ·cases g;exact .bool _
 ·cases g;exact .str _
 ·cases g
theorem fZ:∀{xs:List AVal} {vs us:List Value},plainL xs=some vs→RepL w S μ xs us→us=vs
 | [],vs,us,g,r=>by
  cases g;have h1:=r.1;simpa using h1
 |x::l,vs,us,g,r=>by
  unfold plainL at g;split at g
  ·rename_i v vs' h1 h2;cases g;obtain⟨hl,hr⟩:=r
   match us,hl,hr with
   |u::us,hl,hr=>
    have e1:=pP h1 (by simpa using hr 0 x rfl);have e2:=fZ (us:=us) h2 ⟨by simpa using hl,fun i y hi=>by simpa using hr (i+1) y (by simpa using hi)⟩;rw[e1,e2]
  ·cases g
theorem kV(w:World)(S:Addr→Prop)(μ:Map):∀{xs:List AVal} {vs:List Value},plainL xs=some vs→RepL w S μ xs vs
 | [],vs,g=>by cases g;exact⟨rfl,fun i x hi=>by simp at hi⟩
 |x::l,vs,g=>by
  unfold plainL at g;split at g
  ·rename_i v vs' h1 h2;cases g;have ih:=kV w S μ h2;refine⟨by simp[ih.1],fun i y hi=>?_⟩
   match i with
   |0=>simp at hi;subst hi;simpa using kU h1
   |i+1=>simpa using ih.2 i y (by simpa using hi)
  ·cases g
def plainR:AVal→Option Value
 | .tup l=>(plainL l).map fun vs=>.tuple vs.toArray
 |x=>plainV x
theorem rD{x:AVal}{v:Value}(g:plainR x=some v):Rep w S μ x v:=by
 unfold plainR at g;split at g
 ·obtain⟨vs,hv,rfl⟩:=J4.1 g;have:=kV w S μ hv;exact .tup _ vs this.1 this.2
 ·exact kU g
theorem Sat.of_calls{f:FuncId}{fn:Func}{args:List AVal}{vs:List Value}{r:AVal}{v:Value}(hf:C.P.funcs[f]? =some fn)(hb:fn.body.isNone=false)(hname:(fn.name== "runtime.NumGoroutine")=false)
  (ha:plainL args=some vs)(hr:plainR r=some v)(hc:∀B S μ w,Fits C B S μ h w→Calls C.P f vs.toArray w fun e w'=>e=.returned v∧Below w.heap.size w w'):Sat C f args h (fun r' h'=>r'=r∧h'=h):=by
 intro B S μ w us fit rl;obtain rfl:=fZ ha rl;have e:(callFunc f us.toArray).run C.P w=.ok (.enter f us.toArray) w:=by
  have hne:fn.name≠ "runtime.NumGoroutine" :=by simpa using hname
  obtain⟨c,hbc⟩:∃c,fn.body=some c:=by cases hq:fn.body with|none=>simp[hq]at hb|some c=>exact⟨c,rfl⟩
  simp[callFunc,hf,hne,hbc]
 rw[e];refine(hc B S μ w fit).mono fun e' w' ⟨he,hw⟩=>⟨v,he,?_⟩
 obtain⟨f',st⟩:=fit.grown hw;exact⟨r,h,S,μ,⟨rfl,rfl⟩,st,f',rD hr⟩
theorem Sat.of_extern{f:FuncId}{fn:Func}{ex:Array Value→Sem Value}{args:List AVal}{R:AVal→Heap→Prop}(hf:C.P.funcs[f]? =some fn)(hname:(fn.name== "runtime.NumGoroutine")=false)
  (hb:fn.body.isNone=true)(hn:Extern.findNext fn=none)(he:Extern.find fn=some ex)
  (hc:∀B S μ w vs,Fits C B S μ h w→RepL w S μ args vs→∃v w',(ex vs.toArray).run C.P w=.ok v w'∧OpPost C B S μ w R v w'):Sat C f args h R:=by
 intro B S μ w vs fit rl;obtain⟨v,w',hr,hp⟩:=hc B S μ w vs fit rl;rw[run_callFunc_extern hf hname hb hn he];simp[H4,hr];exact hp
theorem Fin.plainE{h0 h1 j:Heap}{R:AVal→Heap→Prop}{r:AVal}(hh:h1=h0++j)(hc:Clo h0.length r)(hR:R r h0):Fin h0 h1 R r:=by
 subst hh;exact H3 hc hR
theorem Fin.keep{h0 h1 j:Heap}{R:AVal→Heap→Prop}{r:AVal}(hl:h1.length=h0.length)(hk:∀(p:Nat) (k:Blk),h1[p]? =some k→h0[p]? =some k∨CloB h0.length k)(hc:Clo h0.length r)(hR:R r h1):Fin h0 (h1++j) R r:=by
 refine⟨h0.length,r,H5 _,.clo _ hc,.inr fun p k hp h2=>?_,by rw[List.take_left' hl];exact hR⟩;rw[H0 (by omega)]at h2;rcases hk p k h2 with h3|h3
 ·exact .inl ⟨hp,h3⟩
 ·exact .inr h3
theorem Fin.keep0{h0 h1:Heap}{R:AVal→Heap→Prop}{r:AVal}(hl:h1.length=h0.length)(hk:∀(p:Nat) (k:Blk),h1[p]? =some k→h0[p]? =some k∨CloB h0.length k)(hc:Clo h0.length r)(hR:R r h1):Fin h0 h1 R r:=by
 have:=Fin.keep (j:=[]) hl hk hc hR;simpa using this
theorem Fin.keepF{h0 h1 j:Heap}{R:AVal→Heap→Prop}{r0 r:AVal}(hl:h1.length=h0.length)(hk:∀(p:Nat) (k:Blk),h1[p]? =some k→h0[p]? =some k∨CloB h0.length k)(hc:Frz (h1++j) h0.length r0 r)(hR:R r h1):Fin h0 (h1++j) R r0:=by
 refine⟨h0.length,r,H5 _,hc,.inr fun p k hp h2=>?_,by rw[List.take_left' hl];exact hR⟩;rw[H0 (by omega)]at h2;rcases hk p k h2 with h3|h3
 ·exact .inl ⟨hp,h3⟩
 ·exact .inr h3
theorem Fin.keepE{h0 h1 h2 j:Heap}{R:AVal→Heap→Prop}{r:AVal}(hh:h2=h1++j)(hl:h1.length=h0.length)(hk:∀(p:Nat) (k:Blk),h1[p]? =some k→h0[p]? =some k∨CloB h0.length k)(hc:Clo h0.length r)(hR:R r h1):Fin h0 h2 R r:=by
 subst hh;exact Fin.keep hl hk hc hR
theorem mu{h0:Heap}{p:Nat}{b:Blk}(hb:CloB h0.length b):∀(q:Nat) (k:Blk),(h0.set p b)[q]? =some k→h0[q]? =some k∨CloB h0.length k:=by
 intro q k hq;by_cases e:p=q
 ·subst e;rw[List.getElem?_set]at hq;simp at hq;obtain⟨_,rfl⟩:=hq;exact .inr hb
 ·rw[K6 e]at hq;exact .inl hq
end
abbrev ML(κ α:Type):=List (κ×α×Nat)
def encM{κ α:Type}(ek:κ→AVal)(ev:α→AVal)(l:ML κ α):List (AVal×AVal×Nat):=l.map fun e=>(ek e.1,ev e.2.1,e.2.2)
def iA(n:Int):AVal:=.int .i64 n
section
variable {κ α:Type} [DecidableEq κ]
def ixM:ML κ α→κ→Option Nat
 | [],_=>none
 |e::l,x=>if x=e.1 then some 0 else(ixM l x).map (· +1)
def lkM:ML κ α→κ→Option α
 | [],_=>none
 |e::l,x=>if x=e.1 then some e.2.1 else lkM l x
def upM:ML κ α→Nat→κ→α→ML κ α
 | [],c,x,a=>[(x,a,c)]
 |e::l,c,x,a=>if x=e.1 then(x,a,e.2.2)::l else e::upM l c x a
def dlM:ML κ α→κ→ML κ α
 | [],_=>[]
 |e::l,x=>if x=e.1 then l else e::dlM l x
def ckM(l:ML κ α)(c:Nat)(x:κ):Nat:=if (lkM l x).isSome then c else c+1
theorem xc(l:ML κ α)(x:κ):(ixM l x).isSome=(lkM l x).isSome:=by
 induction l with
 |nil=>rfl
 |cons e l ih=>simp only[ixM,lkM];split<;>simp[ih]
theorem xd(l:ML κ α)(c:Nat)(x:κ)(a:α)(y:κ):lkM (upM l c x a) y=if y=x then some a else lkM l y:=by
 induction l with
 |nil=>simp[upM,lkM]
 |cons e l ih=>
  simp only[upM,lkM];by_cases h:x=e.1
  ·subst h;simp only[if_true,lkM];split<;>rfl
  ·rw[G0 h];simp only[lkM,ih];by_cases hy:y=e.1
   ·subst hy;rw[G3 rfl,G3 rfl,G0 (fun e=>h e.symm)]
   ·rw[G0 hy,G0 hy]
variable {P:Program} {kt:TypeId} {ek:κ→AVal} {ev:α→AVal}
theorem tS(hk:∀x y,akey P kt (ek x) (ek y)=some (decide (x=y)))(x:κ)(l:ML κ α):∀i,findA P kt (ek x) (encM ek ev l) i=some ((ixM l x).map (· +i)):=by
 induction l with
 |nil=>intro i;rfl
 |cons e l ih=>
  intro i;have hh:=hk x e.1;simp only[encM,K4,findA,hh,ixM];by_cases h:x=e.1
  ·rw[G8 h];simp[G3 h]
  ·rw[G7 h,G0 h];have:=ih (i+1);rw[encM]at this;simp only[this,Option.map_map];congr 2
   funext j;simp;omega
theorem rE(hk:∀x y,akey P kt (ek x) (ek y)=some (decide (x=y)))(x:κ)(l:ML κ α):findA P kt (ek x) (encM ek ev l) 0=some (ixM l x):=by
 rw[tS hk];simp
theorem xe(h:kindT P kt=2)(x y:List UInt8):akey P kt (.str x) (.str y)=some (decide (x=y)):=by
 simp only[akey,h,aeq1,I0];rw[N8];simp
@[go_sem] theorem DH{l:ML (List UInt8) α}(h:kindT P kt=2)(x:List UInt8):findA P kt (.str x) (encM AVal.str ev l) 0=some (ixM l x):=rE (ek:=AVal.str) (xe h) x l
@[go_sem] theorem DI(h:kindT P kt=2)(x:List UInt8):keyA P kt (.str x)=true:=by simp[keyA,keyT,akey,h,aeq1]
def v1(z:AVal)(ev:α→AVal):Option α→AVal
 |some a=>ev a
 |none=>z
def vM(ok:Bool)(z:AVal)(ev:α→AVal)(o:Option α):AVal:=if ok then .tup [v1 z ev o,.bool o.isSome]else v1 z ev o
@[go_sem] theorem Ea(z:AVal)(ev:α→AVal)(o:Option α):vM false z ev o=v1 z ev o:=(rfl)
theorem BV{z:AVal}{ev:α→AVal}{d:α}(h:ev d=z)(o:Option α):v1 z ev o=ev (o.getD d):=by cases o<;>simp[v1,h]
@[go_sem] theorem Eb(d:Int)(o:Option Int):v1 (.int .i64 d) iA o=.int .i64 (o.getD d):=BV rfl o
theorem xf(ok:Bool)(z:AVal)(l:ML κ α)(x:κ):gotA ok z ((ixM l x).bind fun i=>(encM ek ev l)[i]?)=vM ok z ev (lkM l x):=by
 induction l with
 |nil=>cases ok<;>rfl
 |cons e l ih=>
  simp only[ixM,lkM];split
  ·cases ok<;>simp[encM,gotA,vM,v1]
  ·rw[Option.bind_map];simp only[encM,K4]at ih ⊢;exact ih
attribute [go_sem] xf
theorem yU(c:Nat)(l:ML κ α)(x:κ)(a:α):putM (encM ek ev l) c (ek x) (ev a) (ixM l x)=.mp (encM ek ev (upM l c x a)) (ckM l c x):=by
 have h1:∀l:ML κ α,(match ixM l x with|some i=>(encM ek ev l).modify i fun e=>(ek x,ev a,e.2.2)|none=>encM ek ev l++[(ek x,ev a,c)])=encM ek ev (upM l c x a):=by
  intro l;induction l with
  |nil=>rfl
  |cons e l ih=>
   simp only[ixM,upM];split
   ·rename_i h;split at h
    ·cases h;rename_i hx;rw[G3 hx];rfl
    ·rename_i hx;rw[G0 hx];cases hi:ixM l x with
     |none=>rw[hi]at h;cases h
     |some j=>
      rw[hi]at h ih;simp at h;subst h;simp only[encM,K4,List.modify_succ_cons]at ih ⊢;rw[ih]
   ·rename_i h;split at h
    ·cases h
    ·rename_i hx;rw[G0 hx];cases hi:ixM l x with
     |some j=>rw[hi]at h;cases h
     |none=>
      rw[hi]at ih;simp only[encM,K4,N5]at ih ⊢;rw[ih]
 have h2:=xc l x;have h3:=h1 l;cases hi:ixM l x with
 |some i=>rw[hi]at h2 h3;simp only[Option.isSome_some]at h2;simp only[putM,ckM, ← h2,if_true];rw[← h3]
 |none=>rw[hi]at h2 h3;simp only[Option.isSome_none]at h2;simp only[putM,ckM, ← h2];rw[← h3];rfl
theorem yV(c:Nat)(l:ML κ α)(x:κ):delM (encM ek ev l) c (ixM l x)=.mp (encM ek ev (dlM l x)) c:=by
 have h1:∀l:ML κ α,(match ixM l x with|some i=>(encM ek ev l).eraseIdx i|none=>encM ek ev l)=encM ek ev (dlM l x):=by
  intro l;induction l with
  |nil=>rfl
  |cons e l ih=>
   simp only[ixM,dlM];by_cases hx:x=e.1
   ·rw[G3 hx,G3 hx];rfl
   ·rw[G0 hx,G0 hx];cases hi:ixM l x with
    |none=>rw[hi]at ih;simp only[encM,K4,Option.map_none]at ih ⊢;rw[← ih]
    |some j=>rw[hi]at ih;simp only[encM,K4,O2,List.eraseIdx_cons_succ]at ih ⊢;rw[ih]
 have h3:=h1 l;cases hi:ixM l x with
 |some i=>rw[hi]at h3;simp only[delM];rw[← h3]
 |none=>rw[hi]at h3;simp only[delM];rw[← h3]
attribute [go_sem] yV
theorem BW{v:AVal}(c:Nat)(l:ML (List UInt8) α)(x:List UInt8)(a:α)(h:ev a=v):putM (encM AVal.str ev l) c (.str x) v (ixM l x)=.mp (encM AVal.str ev (upM l c x a)) (ckM l c x):=by subst h;exact yU (ek:=AVal.str) c l x a
@[go_sem] theorem E2(c:Nat)(l:ML (List UInt8) Int)(x:List UInt8)(a:Int):putM (encM AVal.str iA l) c (.str x) (.int .i64 a) (ixM l x)=.mp (encM AVal.str iA (upM l c x a)) (ckM l c x):=BW c l x a rfl
@[go_sem] theorem DJ(k:IntKind)(n:Int):softA (.int k n)=.int k n:=(rfl)
end
end Go.Av
namespace Go.Av
attribute [go_sem] Nat.le_refl Bool.false_or Bool.true_or Bool.false_and fh Int.natCast_nonneg Int.ofNat_lt Int.ofNat_le Bool.not_true Bool.not_false
attribute [go_sem ↓] tM nQ List.getElem?_cons_succ List.getElem?_cons_zero
def condK(c:AVal)(a b:Prop):Prop:=match c with| .bool q=>(q=true→a)∧(q=false→b)|_=>False
structure Went (a:Prop):Prop where
 go:a
@[congr] theorem yW(a:Prop):Went a=Went a:=rfl
@[congr] theorem yh{c c':AVal}{a b:Prop}(e:c=c'):condK c a b=condK c' a b:=by rw[e]
@[go_sem] theorem D5(a b:Prop):condK (.bool true) a b=Went a:=propext ⟨fun h=>⟨h.1 rfl⟩,fun h=>⟨fun _=>h.go,fun e=>Bool.noConfusion e⟩⟩
@[go_sem] theorem D6(a b:Prop):condK (.bool false) a b=Went b:=propext ⟨fun h=>⟨h.2 rfl⟩,fun h=>⟨fun e=>Bool.noConfusion e,fun _=>h.go⟩⟩
theorem tT{C:Ctx}{t:Env}{h:Heap}{c:Operand}{x y:Code}{Q:Exit→Env→Heap→Prop}(g:condK (aev C.G t c) (WP C x Q t h) (WP C y Q t h)):WP C (.cond c x y) Q t h:=by
 unfold condK at g;split at g
 ·rename_i q hq;exact kh hq g.1 g.2
 ·exact g.elim
end Go.Av
namespace Go.Av
theorem kW{p P:Prop}(e:p=P:=by first| (simp only[O0,Q1,L0,T6,Bool.false_and,Bool.and_false,Bool.and_true,Q0,L3,S6,G2,U1,Nat.not_lt,Nat.not_le,H2,decide_eq_false_iff_not,M6,Bool.not_eq_false',beq_iff_eq,bne_iff_ne,ne_eq,beq_eq_false_iff_ne,bne_eq_false_iff_eq,Bool.not_eq_true,Bool.not_eq_false,O5,Int.not_le,gt_iff_lt,ge_iff_le,Int.ofNat_lt,Int.ofNat_le,Int.natCast_inj,Int.natCast_inj,Bool.not_not,decide_not,Decidable.not_not];rfl)|rfl):p=P:=e
theorem ar{α:Type}{a b:α}(e:a=b:=by first|rfl| (simp;done)| (simp;rfl)):a=b:=e
theorem F2{A0 A1:Prop}(a0:A0)(a1:A1):A0∧A1:=⟨a0,a1⟩
theorem F3{A0 A1 A2:Prop}(a0:A0)(a1:A1)(a2:A2):A0∧A1∧A2:=⟨a0,a1,a2⟩
theorem F4{A0 A1 A2 A3:Prop}(a0:A0)(a1:A1)(a2:A2)(a3:A3):A0∧A1∧A2∧A3:=⟨a0,a1,a2,a3⟩
theorem F5{A0 A1 A2 A3 A4:Prop}(a0:A0)(a1:A1)(a2:A2)(a3:A3)(a4:A4):A0∧A1∧A2∧A3∧A4:=⟨a0,a1,a2,a3,a4⟩
theorem F6{A0 A1 A2 A3 A4 A5:Prop}(a0:A0)(a1:A1)(a2:A2)(a3:A3)(a4:A4)(a5:A5):A0∧A1∧A2∧A3∧A4∧A5:=⟨a0,a1,a2,a3,a4,a5⟩
theorem F7{A0 A1 A2 A3 A4 A5 A6:Prop}(a0:A0)(a1:A1)(a2:A2)(a3:A3)(a4:A4)(a5:A5)(a6:A6):A0∧A1∧A2∧A3∧A4∧A5∧A6:=⟨a0,a1,a2,a3,a4,a5,a6⟩
theorem F8{A0 A1 A2 A3 A4 A5 A6 A7:Prop}(a0:A0)(a1:A1)(a2:A2)(a3:A3)(a4:A4)(a5:A5)(a6:A6)(a7:A7):A0∧A1∧A2∧A3∧A4∧A5∧A6∧A7:=⟨a0,a1,a2,a3,a4,a5,a6,a7⟩
theorem F9{A0 A1 A2 A3 A4 A5 A6 A7 A8:Prop}(a0:A0)(a1:A1)(a2:A2)(a3:A3)(a4:A4)(a5:A5)(a6:A6)(a7:A7)(a8:A8):A0∧A1∧A2∧A3∧A4∧A5∧A6∧A7∧A8:=⟨a0,a1,a2,a3,a4,a5,a6,a7,a8⟩
theorem xg{A0 A1 A2 A3 A4 A5 A6 A7 A8 A9:Prop}(a0:A0)(a1:A1)(a2:A2)(a3:A3)(a4:A4)(a5:A5)(a6:A6)(a7:A7)(a8:A8)(a9:A9):A0∧A1∧A2∧A3∧A4∧A5∧A6∧A7∧A8∧A9:=⟨a0,a1,a2,a3,a4,a5,a6,a7,a8,a9⟩
variable {C:Ctx} {Q:Exit→Env→Heap→Prop} {t:Env} {h:Heap}
theorem w1{a b:Code}(hh:∀K:Env→Heap→Prop,(∀t h,Wkn C (wr a) t h (fun t h=>WP C b Q t h)→K t h)→WP C a (thenQ K Q) t h):WP C (.seq a b) Q t h:=wY hh
theorem w2{id:Nat}{c:Code}(hh:WP C c (blockQ id Q) t h):WP C (.block id c) Q t h:=tK hh
theorem w3{c:Code}(hh:WP C c (noG Q) t h):WP C (.scope c) Q t h:=tJ hh
theorem w4{id:Nat}{l:List Oper}(hh:WPl C l.toArray Q l t h):WP C (.region id l.toArray false) Q t h:=rz hh
theorem w5(hh:Q .normal t h):WP C .skip Q t h:=vE hh
theorem w6{id:Nat}(hh:Q (.exit id) t h):WP C (.exit id) Q t h:=vF hh
theorem w7(hh:Q .ret t h):WP C .ret Q t h:=wZ hh
theorem w8{c:Operand}{x y:Code}(g:condK (aev C.G t c) (WP C x Q t h) (WP C y Q t h)):WP C (.cond c x y) Q t h:=tT g
theorem w9{a:Prop}(g:a):Went a:=⟨g⟩
theorem w0{ms:List Nat}{R:Env→Heap→Prop}(g:R t h):Wkn C ms t h R:=G9 g
def pureB:Callee→Bool
 | .value _=>true
 | .builtin .len=>true
 | .builtin .max=>true
 | .builtin .min=>true
 | .builtin .unsafeSliceData=>true
 |_=>false
def pureO:Op→Bool
 | .move _| .assign _| .pick _ _ _| .load _ _| .nilCheck _| .binOp _ _ _ _ _| .unOp _ _ _| .convert _ _ _| .slice _ _ _ _ _| .fieldAddr _ _ _| .field _ _ _| .indexAddr _ _ _| .index _ _ _| .extract _ _| .build _ _| .buildSlice _ _ _| .lookup _ _ _ _=>true
 | .call c=>pureB c.callee
 |_=>false
def pureN:List Oper→Nat
 | []=>0
 |o::r=>match pureO o.op with|true=>pureN r+1|false=>0
def dk(l:List Oper)(k:Nat):Bool:=Nat.beq (pureN l) k&&(drawOk l.toArray k&&decide (k≤l.length))
theorem wD{id k:Nat}{l:List Oper}(g:WPp C l.toArray (l.take k) t h fun t'=>WPl C l.toArray Q (l.drop k) t' h)(hk:dk l k=true:=by first| (show dk _ 2=true;decide+kernel)| (show dk _ 3=true;decide+kernel)| (show dk _ 4=true;decide+kernel)| (show dk _ 5=true;decide+kernel)| (show dk _ 6=true;decide+kernel)| (show dk _ 7=true;decide+kernel)| (show dk _ 8=true;decide+kernel)| (show dk _ 9=true;decide+kernel)| (show dk _ 10=true;decide+kernel)| (show dk _ 11=true;decide+kernel)| (show dk _ 12=true;decide+kernel)| (show dk _ 13=true;decide+kernel)| (show dk _ 14=true;decide+kernel)| (show dk _ 15=true;decide+kernel)| (show dk _ 1=true;decide+kernel)| (show dk _ 16=true;decide+kernel)| (show dk _ 17=true;decide+kernel)| (show dk _ 18=true;decide+kernel)| (show dk _ 19=true;decide+kernel)| (show dk _ 20=true;decide+kernel)| (show dk _ 21=true;decide+kernel)| (show dk _ 22=true;decide+kernel)| (show dk _ 23=true;decide+kernel)| (show dk _ 24=true;decide+kernel)| (show dk _ 25=true;decide+kernel)| (show dk _ 26=true;decide+kernel)| (show dk _ 27=true;decide+kernel)| (show dk _ 28=true;decide+kernel)| (show dk _ 29=true;decide+kernel)| (show dk _ 30=true;decide+kernel)| (show dk _ 31=true;decide+kernel)| (show dk _ 32=true;decide+kernel)| (show dk _ 33=true;decide+kernel)| (show dk _ 34=true;decide+kernel)| (show dk _ 35=true;decide+kernel)| (show dk _ 36=true;decide+kernel)| (show dk _ 37=true;decide+kernel)| (show dk _ 38=true;decide+kernel)| (show dk _ 39=true;decide+kernel)| (show dk _ 40=true;decide+kernel)| (show dk _ 41=true;decide+kernel)| (show dk _ 42=true;decide+kernel)| (show dk _ 43=true;decide+kernel)| (show dk _ 44=true;decide+kernel)| (show dk _ 45=true;decide+kernel)| (show dk _ 46=true;decide+kernel)| (show dk _ 47=true;decide+kernel)| (show dk _ 48=true;decide+kernel)| (show dk _ 49=true;decide+kernel)| (show dk _ 50=true;decide+kernel)| (show dk _ 51=true;decide+kernel)| (show dk _ 52=true;decide+kernel)| (show dk _ 53=true;decide+kernel)| (show dk _ 54=true;decide+kernel)| (show dk _ 55=true;decide+kernel)| (show dk _ 56=true;decide+kernel)| (show dk _ 57=true;decide+kernel)| (show dk _ 58=true;decide+kernel)| (show dk _ 59=true;decide+kernel)| (show dk _ 60=true;decide+kernel)| (show dk _ 61=true;decide+kernel)| (show dk _ 62=true;decide+kernel)| (show dk _ 63=true;decide+kernel)| (show dk _ 64=true;decide+kernel)| (show dk _ 65=true;decide+kernel)| (show dk _ 66=true;decide+kernel)| (show dk _ 67=true;decide+kernel)| (show dk _ 68=true;decide+kernel)| (show dk _ 69=true;decide+kernel)| (show dk _ 70=true;decide+kernel)| (show dk _ 71=true;decide+kernel)| (show dk _ 72=true;decide+kernel)):WP C (.region id l.toArray true) Q t h:=by
 unfold dk at hk;rw[G2]at hk;exact vG k hk.2 g
variable {F X Y P N:Prop} {c:Operand} {a b:Code} {q:Bool} {ops:Array Oper} {rest:List Oper} {dst:Option Nat} {op:Op} {ty:TypeId} {pos:String} {aft:Array Edge} {j d:Nat} {want:Bool} {K:Env→Prop} {T T' len e n by' p ver:Nat} {idx:List Nat} {xs rows ys:List AVal} {y:AVal} {k:AVal→Heap→Prop} {kv:AVal→Prop}
theorem sq(f:F)(g:Y)(e:F→X=Y:=by intro f;simp(maxSteps:=1000000) (disch:=first|omega| (simp only[go_sem, ↓reduceIte,seval];first|done|omega)|fail) only[go_sem, ↓reduceIte,seval,f];rfl):X:=(e f).mpr g
theorem zq(f:F)(e:F→X:=by intro f;simp(maxSteps:=1000000) (disch:=first|omega| (simp only[go_sem, ↓reduceIte,seval];first|done|omega)|fail) only[go_sem, ↓reduceIte,seval,f];all_goals fail):X:=e f
theorem cq(f:F)(h1:P→WP C a Q t h)(h2:N→WP C b Q t h)(e:F→aev C.G t c=.bool q:=by intro f;simp(maxSteps:=1000000) (disch:=first|omega| (simp only[go_sem, ↓reduceIte,seval];first|done|omega)|fail) only[go_sem, ↓reduceIte,seval,f];rfl)(hP:(q=true)=P:=by exact kW)(hN:(q=false)=N:=by exact kW):WP C (.cond c a b) Q t h:=kh (e f) (fun x=>h1 (hP.mp x)) (fun x=>h2 (hN.mp x))
theorem gq(f:F)(h1:P→WPl C ops Q (⟨dst,op,ty,pos,aft,some (j,want)⟩::rest) (upd t d (.bool true)) h)(h2:N→WPl C ops Q (⟨dst,op,ty,pos,aft,some (j,want)⟩::rest) (upd t d (.bool false)) h)(hd:(ops[j]?).bind (·.dst)=some d:=by rfl)(e:F→t d=.bool q:=by intro f;simp(maxSteps:=1000000) (disch:=first|omega| (simp only[go_sem, ↓reduceIte,seval];first|done|omega)|fail) only[go_sem, ↓reduceIte,seval,f];rfl)(hP:(q=true)=P:=by exact kW)(hN:(q=false)=N:=by exact kW):WPl C ops Q (⟨dst,op,ty,pos,aft,some (j,want)⟩::rest) t h:=ju hd (e f) (fun x=>h1 (hP.mp x)) (fun x=>h2 (hN.mp x))
theorem rq(f:F)(hk:k (.sl n xs) h)(he:elmT C.P T=some e:=by simp only[go_sem];rfl)(hn:szOf C.P e=some n:=by simp only[go_sem];rfl)(hz:(zroT C.P e).map (fun z=>(z.cells.length,z.cells.all AVal.sto))=some (n,true):=by simp only[go_sem];try rfl)(hl:xs.length=len:=by simp)(h0:0<len:=by omega)(h1:0<n:=by omega)(hb:len*n≤16777216:=by omega)(hi:idx=List.range len:=by rfl)(hx:F→xs.all (fun x=>decide (x.cells.length=n)&&x.lies)=true:=by intro f;simp(maxSteps:=1000000) (disch:=first|omega| (simp only[go_sem, ↓reduceIte,seval];first|done|omega)|fail) only[go_sem, ↓reduceIte,seval,f];all_goals (simp;all_goals fail)):rowsK C T len idx xs h k:=mn he hn hz hl h0 h1 hb hi (hx f) hk
theorem xq(f:F)(hk:k (.hs h.length 0 0 len true) (h++[.row e n 0 xs]))(he:elmT C.P T=some e:=by simp only[go_sem];rfl)(hn:szOf C.P e=some n:=by simp only[go_sem];rfl)(hz:(zroT C.P e).map (fun z=>(z.cells.length,z.cells.all AVal.sto))=some (n,true):=by simp only[go_sem];try rfl)(hl:xs.length=len:=by simp)(h0:0<len:=by omega)(h1:0<n:=by omega)(hb:len*n≤16777216:=by omega)(hi:idx=List.range len:=by rfl)(hx:F→xs.all (fun x=>decide (x.cells.length=n)&&x.lies)=true:=by intro f;simp(maxSteps:=1000000) (disch:=first|omega| (simp only[go_sem, ↓reduceIte,seval];first|done|omega)|fail) only[go_sem, ↓reduceIte,seval,f];all_goals (simp;all_goals fail)):rowsK C T len idx xs h k:=mr he hn hz hl h0 h1 hb hi (hx f) hk
theorem vq(f:F)(hk:kv (.sl n xs))(he:elmT C.P T=some e:=by simp only[go_sem];rfl)(hn:szOf C.P e=some n:=by simp only[go_sem];rfl)(hz:(zroT C.P e).map (fun z=>(z.cells.length,z.cells.all AVal.sto))=some (n,true):=by simp only[go_sem];try rfl)(hl:xs.length=len:=by simp)(h0:0<len:=by omega)(h1:0<n:=by omega)(hb:len*n≤16777216:=by omega)(hi:idx=List.range len:=by rfl)(hx:F→xs.all (fun x=>decide (x.cells.length=n)&&x.lies)=true:=by intro f;simp(maxSteps:=1000000) (disch:=first|omega| (simp only[go_sem, ↓reduceIte,seval];first|done|omega)|fail) only[go_sem, ↓reduceIte,seval,f];all_goals (simp;all_goals fail)):rowsV C T len idx xs kv:=tR he hn hz hl h0 h1 hb hi (hx f) hk
theorem aq(f:F)(hk:k (.hs p (ver+1) 0 (len+ys.length) true) (h.set p (.row e n (ver+1) (rows++ys))))(hT:T'=T∨strT C.P T'=true:=by first|exact .inl rfl| (right;simp only[go_sem]))(he:elmT C.P T=some e:=by simp only[go_sem];rfl)(hn:szOf C.P e=some n:=by simp only[go_sem];rfl)(hb:byT C.P e=some by':=by simp only[go_sem];rfl)(hz:(zroT C.P e).map (fun z=>z.cells.length)=some n:=by simp only[go_sem];try rfl)(h0:0<n:=by omega)(hy:elemsOf h n y=some ys:=by simp only[elemsOf, ↓reduceIte];rfl)(hrow:F→getRow h p ver=some (e,n,rows):=by intro f;simp(maxSteps:=1000000) (disch:=first|omega| (simp only[go_sem, ↓reduceIte,seval];first|done|omega)|fail) only[go_sem, ↓reduceIte,seval,f];rfl)(hl:len=rows.length:=by simp)(hr:len+ys.length≤maxLen∧(len+ys.length)*by'≤140737488355328:=by refine⟨?_,?_⟩<;>simp only[maxLen,I9,G5,H6,H7]<;>omega):appK C T T' (.hs p ver 0 len true) y h k:=ce hT he hn hb hz h0 hy (hrow f) hl hr hk
theorem ee{x:Exit}{h0:Heap}{rs:List ResultVar}{R:AVal→Heap→Prop}(hQ:∀t h,need (resA C t h rs) (Fin h0 h R)→Q .ret t h∧Q .normal t h)(f:F)(g:Y)(e:F→need (resA C t h rs) (Fin h0 h R)=Y:=by intro f;simp(maxSteps:=1000000) (disch:=first|omega| (simp only[go_sem, ↓reduceIte,seval];first|done|omega)|fail) only[go_sem, ↓reduceIte,seval,f];rfl)(hx:x=.ret∨x=.normal:=by first|exact .inl rfl|exact .inr rfl):Q x t h:=by
 have:=hQ t h ((e f).mpr g);rcases hx with rfl|rfl
 ·exact this.1
 ·exact this.2
theorem ye{x:Exit}{h0:Heap}{rs:List ResultVar}{R:AVal→Heap→Prop}(hQ:∀t h,need (resA C t h rs) (Fin h0 h R)→Q .ret t h∧Q .normal t h)(f:F)(g:Y)(e:F→need (resA C t h rs) (Fin h0 h R)=Y:=by intro f;simp(maxSteps:=1000000) (disch:=first|omega| (simp only[go_sem, ↓reduceIte,seval];first|done|omega)|fail) only[go_sem, ↓reduceIte,seval,f,resA,resL,resA1];rfl)(hx:x=.ret∨x=.normal:=by first|exact .inl rfl|exact .inr rfl):Q x t h:=by
 have:=hQ t h ((e f).mpr g);rcases hx with rfl|rfl
 ·exact this.1
 ·exact this.2
theorem am(f:F)(g:Y)(e:F→X=Y:=by intro f;simp(disch:=first|omega| (simp only[go_sem, ↓reduceIte,Nat.reduceEqDiff];done)|fail) only[go_sem, ↓reduceIte,Int.reduceToNat,Int.reduceLE,Int.reduceLT,Int.reduceSub,Int.reduceAdd,Nat.reduceEqDiff,Nat.reduceAdd,Nat.reduceLeDiff,Nat.reduceLT,Nat.reduceMul,Nat.reduceSub,f];rfl):X:=(e f).mpr g
theorem aE(f:F)(e:F→X:=by intro f;simp(disch:=first|omega| (simp only[go_sem, ↓reduceIte,Nat.reduceEqDiff];done)|fail) only[go_sem, ↓reduceIte,Int.reduceToNat,Int.reduceLE,Int.reduceLT,Int.reduceSub,Int.reduceAdd,Nat.reduceEqDiff,Nat.reduceAdd,Nat.reduceLeDiff,Nat.reduceLT,Nat.reduceMul,Nat.reduceSub,f];all_goals fail):X:=e f
theorem aH(f:F)(h1:P→WP C a Q t h)(h2:N→WP C b Q t h)(e:F→aev C.G t c=.bool q:=by intro f;simp(disch:=first|omega| (simp only[go_sem, ↓reduceIte,Nat.reduceEqDiff];done)|fail) only[go_sem, ↓reduceIte,Int.reduceToNat,Int.reduceLE,Int.reduceLT,Int.reduceSub,Int.reduceAdd,Nat.reduceEqDiff,Nat.reduceAdd,Nat.reduceLeDiff,Nat.reduceLT,Nat.reduceMul,Nat.reduceSub,f];rfl)(hP:(q=true)=P:=by exact kW)(hN:(q=false)=N:=by exact kW):WP C (.cond c a b) Q t h:=kh (e f) (fun x=>h1 (hP.mp x)) (fun x=>h2 (hN.mp x))
theorem bD(f:F)(h1:P→WPl C ops Q (⟨dst,op,ty,pos,aft,some (j,want)⟩::rest) (upd t d (.bool true)) h)(h2:N→WPl C ops Q (⟨dst,op,ty,pos,aft,some (j,want)⟩::rest) (upd t d (.bool false)) h)(hd:(ops[j]?).bind (·.dst)=some d:=by rfl)(e:F→t d=.bool q:=by intro f;simp(disch:=first|omega| (simp only[go_sem, ↓reduceIte,Nat.reduceEqDiff];done)|fail) only[go_sem, ↓reduceIte,Int.reduceToNat,Int.reduceLE,Int.reduceLT,Int.reduceSub,Int.reduceAdd,Nat.reduceEqDiff,Nat.reduceAdd,Nat.reduceLeDiff,Nat.reduceLT,Nat.reduceMul,Nat.reduceSub,f];rfl)(hP:(q=true)=P:=by exact kW)(hN:(q=false)=N:=by exact kW):WPl C ops Q (⟨dst,op,ty,pos,aft,some (j,want)⟩::rest) t h:=ju hd (e f) (fun x=>h1 (hP.mp x)) (fun x=>h2 (hN.mp x))
theorem AH(f:F)(hk:k (.sl n xs) h)(he:elmT C.P T=some e:=by simp only[go_sem];rfl)(hn:szOf C.P e=some n:=by simp only[go_sem];rfl)(hz:(zroT C.P e).map (fun z=>(z.cells.length,z.cells.all AVal.sto))=some (n,true):=by simp only[go_sem];try rfl)(hl:xs.length=len:=by simp)(h0:0<len:=by omega)(h1:0<n:=by omega)(hb:len*n≤16777216:=by omega)(hi:idx=List.range len:=by rfl)(hx:F→xs.all (fun x=>decide (x.cells.length=n)&&x.lies)=true:=by intro f;simp(disch:=first|omega| (simp only[go_sem, ↓reduceIte,Nat.reduceEqDiff];done)|fail) only[go_sem, ↓reduceIte,Int.reduceToNat,Int.reduceLE,Int.reduceLT,Int.reduceSub,Int.reduceAdd,Nat.reduceEqDiff,Nat.reduceAdd,Nat.reduceLeDiff,Nat.reduceLT,Nat.reduceMul,Nat.reduceSub,f];all_goals (simp;all_goals fail)):rowsK C T len idx xs h k:=mn he hn hz hl h0 h1 hb hi (hx f) hk
theorem AI(f:F)(hk:k (.hs h.length 0 0 len true) (h++[.row e n 0 xs]))(he:elmT C.P T=some e:=by simp only[go_sem];rfl)(hn:szOf C.P e=some n:=by simp only[go_sem];rfl)(hz:(zroT C.P e).map (fun z=>(z.cells.length,z.cells.all AVal.sto))=some (n,true):=by simp only[go_sem];try rfl)(hl:xs.length=len:=by simp)(h0:0<len:=by omega)(h1:0<n:=by omega)(hb:len*n≤16777216:=by omega)(hi:idx=List.range len:=by rfl)(hx:F→xs.all (fun x=>decide (x.cells.length=n)&&x.lies)=true:=by intro f;simp(disch:=first|omega| (simp only[go_sem, ↓reduceIte,Nat.reduceEqDiff];done)|fail) only[go_sem, ↓reduceIte,Int.reduceToNat,Int.reduceLE,Int.reduceLT,Int.reduceSub,Int.reduceAdd,Nat.reduceEqDiff,Nat.reduceAdd,Nat.reduceLeDiff,Nat.reduceLT,Nat.reduceMul,Nat.reduceSub,f];all_goals (simp;all_goals fail)):rowsK C T len idx xs h k:=mr he hn hz hl h0 h1 hb hi (hx f) hk
theorem AJ(f:F)(hk:k (.hs p (ver+1) 0 (len+ys.length) true) (h.set p (.row e n (ver+1) (rows++ys))))(hT:T'=T∨strT C.P T'=true:=by first|exact .inl rfl| (right;simp only[go_sem]))(he:elmT C.P T=some e:=by simp only[go_sem];rfl)(hn:szOf C.P e=some n:=by simp only[go_sem];rfl)(hb:byT C.P e=some by':=by simp only[go_sem];rfl)(hz:(zroT C.P e).map (fun z=>z.cells.length)=some n:=by simp only[go_sem];try rfl)(h0:0<n:=by omega)(hy:elemsOf h n y=some ys:=by simp only[elemsOf, ↓reduceIte];rfl)(hrow:F→getRow h p ver=some (e,n,rows):=by intro f;simp(disch:=first|omega| (simp only[go_sem, ↓reduceIte,Nat.reduceEqDiff];done)|fail) only[go_sem, ↓reduceIte,Int.reduceToNat,Int.reduceLE,Int.reduceLT,Int.reduceSub,Int.reduceAdd,Nat.reduceEqDiff,Nat.reduceAdd,Nat.reduceLeDiff,Nat.reduceLT,Nat.reduceMul,Nat.reduceSub,f];rfl)(hl:len=rows.length:=by simp)(hr:len+ys.length≤maxLen∧(len+ys.length)*by'≤140737488355328:=by refine⟨?_,?_⟩<;>simp only[maxLen,I9,G5,H6,H7]<;>omega):appK C T T' (.hs p ver 0 len true) y h k:=ce hT he hn hb hz h0 hy (hrow f) hl hr hk
theorem ay{x:Exit}{h0:Heap}{rs:List ResultVar}{R:AVal→Heap→Prop}(hQ:∀t h,need (resA C t h rs) (Fin h0 h R)→Q .ret t h∧Q .normal t h)(f:F)(g:Y)(e:F→need (resA C t h rs) (Fin h0 h R)=Y:=by intro f;simp(disch:=first|omega| (simp only[go_sem, ↓reduceIte,Nat.reduceEqDiff];done)|fail) only[go_sem, ↓reduceIte,Int.reduceToNat,Int.reduceLE,Int.reduceLT,Int.reduceSub,Int.reduceAdd,Nat.reduceEqDiff,Nat.reduceAdd,Nat.reduceLeDiff,Nat.reduceLT,Nat.reduceMul,Nat.reduceSub,f];rfl)(hx:x=.ret∨x=.normal:=by first|exact .inl rfl|exact .inr rfl):Q x t h:=by
 have:=hQ t h ((e f).mpr g);rcases hx with rfl|rfl
 ·exact this.1
 ·exact this.2
theorem oI{x:Exit}{h0:Heap}{rs:List ResultVar}{R:AVal→Heap→Prop}(hQ:∀t h,need (resA C t h rs) (Fin h0 h R)→Q .ret t h∧Q .normal t h)(f:F)(g:Y)(e:F→need (resA C t h rs) (Fin h0 h R)=Y:=by intro f;simp(disch:=first|omega| (simp only[go_sem, ↓reduceIte,Nat.reduceEqDiff];done)|fail) only[go_sem, ↓reduceIte,Int.reduceToNat,Int.reduceLE,Int.reduceLT,Int.reduceSub,Int.reduceAdd,Nat.reduceEqDiff,Nat.reduceAdd,Nat.reduceLeDiff,Nat.reduceLT,Nat.reduceMul,Nat.reduceSub,f,resA,resL,resA1];rfl)(hx:x=.ret∨x=.normal:=by first|exact .inl rfl|exact .inr rfl):Q x t h:=by
 have:=hQ t h ((e f).mpr g);rcases hx with rfl|rfl
 ·exact this.1
 ·exact this.2
theorem fR{h0 h1 j:Heap}{R:AVal→Heap→Prop}{r:AVal}{A:Prop}(hc:Clo h0.length r)(g:A)(hh:h1=h0++j:=by first|exact(J3 _).symm|rfl| (simp only[M5,N5,L6];rfl))(e:A→R r h0:=by intro g;exact⟨g,rfl⟩):Fin h0 h1 R r:=Fin.plainE hh hc (e g)
theorem sb(rs:List ResultVar){f:FuncId}{fn:Func}{c:Code}{args:List AVal}{R:AVal→Heap→Prop}(hf:C.P.funcs[f]? =some fn)(hw:∀Q:Exit→Env→Heap→Prop,(∀t' h',need (resA C t' h' rs) (Fin h h' R)→Q .ret t' h'∧Q .normal t' h')→WP C c Q (env0 args) h)(hb:fn.body=some c:=by exact rfl)(hrs:fn.results.toList=rs:=by exact rfl)(hname:(fn.name== "runtime.NumGoroutine")=false:=by kernel_rfl)
  (hok:okCode fn.ntmps c=true:=by kernel_rfl)(hres:fn.results.toList.all (okRes fn.ntmps)=true:=by kernel_rfl)(hlen:decide (args.length≤fn.ntmps)=true:=by exact rfl):Sat C f args h R:=Sat.body rs hf hb hrs hname hok hres hlen hw
theorem lm{c:Code}{ms:List Nat}(I:Nat→Env→Heap→Prop)(n:Nat)(h0:Wkn C ms t h (I n))
  (round:∀(n':Nat) (s:Env) (h':Heap),I n' (mix ms s t) h'→∀K:Env→Heap→Prop,(∀m t2 h2,Wkn C ms t2 h2 (I m)→m<n'→K t2 h2)→WP C c (thenQ K Q) (mix ms s t) h')(hms:wr c=ms:=by simp only[go_sem,L6,N5];rfl):WP C (.loop c) Q t h:=tQ hms I n h0 round
end Go.Av
namespace Go.Av
variable {C:Ctx} {Q:Exit→Env→Heap→Prop} {t:Env} {h:Heap} {a b:Code}
def Kt(C:Ctx)(a b:Code)(Q:Exit→Env→Heap→Prop):Env→Heap→Prop:=fun t h=>Wkn C (wr a) t h fun t h=>WP C b Q t h
@[congr] theorem BX(C:Ctx)(a b:Code)(Q:Exit→Env→Heap→Prop):Kt C a b Q=Kt C a b Q:=rfl
structure Bx (Y:Prop):Prop where
 go:Y
theorem wG(g:WP C b Q t h):Kt C a b Q t h:=G9 g
theorem wS(hh:WP C a (thenQ (Kt C a b Q) Q) t h):WP C (.seq a b) Q t h:=hh
variable {F X Y:Prop} {fn:FuncId} {args:List AVal} {x:AVal} {h1:Heap} {KK:AVal→Heap→Prop}
theorem wk(f:F)(g:Y)(e:F→Bx Y→X:=by intro f g;(repeat (first|refine wS ?_|refine w2 ?_|refine w3 ?_| ((first|refine w4 ?_|refine w5 ?_|refine w6 ?_|refine w7 ?_|refine wD ?_);try refine sq f ?_)| (refine w8 ?_;refine sq f ?_;refine w9 ?_)|refine wG ?_| (refine rq f ?_;try refine sq f ?_)| (refine vq f ?_;try refine sq f ?_)));exact g.go):X:=e f ⟨g⟩
theorem kq(f:F)(c:Sat C fn args h (fun r h'=>r=x∧h'=h1))(g:Y)(e:F→Bx Y→KK x h1:=by intro f g;(try refine sq f ?_);(repeat (first|refine wS ?_|refine w2 ?_|refine w3 ?_| ((first|refine w4 ?_|refine w5 ?_|refine w6 ?_|refine w7 ?_|refine wD ?_);try refine sq f ?_)| (refine w8 ?_;refine sq f ?_;refine w9 ?_)|refine wG ?_| (refine rq f ?_;try refine sq f ?_)| (refine vq f ?_;try refine sq f ?_)));exact g.go):Sat C fn args h KK:=c.mono (by rintro r h' ⟨rfl,rfl⟩;exact e f ⟨g⟩)
theorem wn(f:F)(g:Y)(e:F→Bx Y→X:=by intro f g;(repeat (first|refine wS ?_|refine w2 ?_|refine w3 ?_| ((first|refine w4 ?_|refine w5 ?_|refine w6 ?_|refine w7 ?_);try refine sq f ?_)| (refine w8 ?_;refine sq f ?_;refine w9 ?_)|refine wG ?_| (refine rq f ?_;try refine sq f ?_)| (refine vq f ?_;try refine sq f ?_)));exact g.go):X:=e f ⟨g⟩
theorem kn(f:F)(c:Sat C fn args h (fun r h'=>r=x∧h'=h1))(g:Y)(e:F→Bx Y→KK x h1:=by intro f g;(try refine sq f ?_);(repeat (first|refine wS ?_|refine w2 ?_|refine w3 ?_| ((first|refine w4 ?_|refine w5 ?_|refine w6 ?_|refine w7 ?_);try refine sq f ?_)| (refine w8 ?_;refine sq f ?_;refine w9 ?_)|refine wG ?_| (refine rq f ?_;try refine sq f ?_)| (refine vq f ?_;try refine sq f ?_)));exact g.go):Sat C fn args h KK:=c.mono (by rintro r h' ⟨rfl,rfl⟩;exact e f ⟨g⟩)
theorem aj(f:F)(g:Y)(e:F→Bx Y→X:=by intro f g;(repeat (first|refine wS ?_|refine w2 ?_|refine w3 ?_| ((first|refine w4 ?_|refine w5 ?_|refine w6 ?_|refine w7 ?_|refine wD ?_);try refine am f ?_)| (refine w8 ?_;refine am f ?_;refine w9 ?_)|refine wG ?_| (refine AH f ?_;try refine am f ?_)| (refine vqo f ?_;try refine am f ?_)));exact g.go):X:=e f ⟨g⟩
theorem aJ(f:F)(c:Sat C fn args h (fun r h'=>r=x∧h'=h1))(g:Y)(e:F→Bx Y→KK x h1:=by intro f g;(try refine am f ?_);(repeat (first|refine wS ?_|refine w2 ?_|refine w3 ?_| ((first|refine w4 ?_|refine w5 ?_|refine w6 ?_|refine w7 ?_|refine wD ?_);try refine am f ?_)| (refine w8 ?_;refine am f ?_;refine w9 ?_)|refine wG ?_| (refine AH f ?_;try refine am f ?_)| (refine vqo f ?_;try refine am f ?_)));exact g.go):Sat C fn args h KK:=c.mono (by rintro r h' ⟨rfl,rfl⟩;exact e f ⟨g⟩)
theorem rF(f:F)(g:Y)(e:F→Bx Y→X:=by intro f g;(repeat (first|refine wS ?_|refine w2 ?_|refine w3 ?_| ((first|refine w4 ?_|refine w5 ?_|refine w6 ?_|refine w7 ?_|refine wD ?_);try refine am f ?_)| (refine w8 ?_;refine am f ?_;refine w9 ?_)|refine wG ?_| (refine AI f ?_;try refine am f ?_)));exact g.go):X:=e f ⟨g⟩
theorem rG(f:F)(c:Sat C fn args h (fun r h'=>r=x∧h'=h1))(g:Y)(e:F→Bx Y→KK x h1:=by intro f g;(try refine am f ?_);(repeat (first|refine wS ?_|refine w2 ?_|refine w3 ?_| ((first|refine w4 ?_|refine w5 ?_|refine w6 ?_|refine w7 ?_|refine wD ?_);try refine am f ?_)| (refine w8 ?_;refine am f ?_;refine w9 ?_)|refine wG ?_| (refine AI f ?_;try refine am f ?_)));exact g.go):Sat C fn args h KK:=c.mono (by rintro r h' ⟨rfl,rfl⟩;exact e f ⟨g⟩)
theorem zZz (f:F)(e:F→X:=by intro f;first|exact zq f|rfl|omega|trivial):X:=e f
theorem gGp{Y1 Y2:Prop}(f:F)(g1:Y1)(g2:Y2)(e:F→Bx Y1→Bx Y2→X:=by intro f a b;first|exact gq f a.go b.go|exact pq f a.go b.go):X:=e f ⟨g1⟩ ⟨g2⟩
end Go.Av
namespace Go.Av.Ty
open Go Go.Av Go.Proofs
@[go_sem] theorem DK:szOf Tryz.prog 3=some 1:=by kernel_rfl
@[go_sem] theorem DL:aggT Tryz.prog 3=some false:=by kernel_rfl
@[go_sem] theorem DM:zroT Tryz.prog 3=some (.int .i64 0):=by kernel_rfl
@[go_sem] theorem E3:Program.underlying Tryz.prog 3=some (.int .i64):=by kernel_rfl
@[go_sem] theorem DN:szOf Tryz.prog 4=some 1:=by kernel_rfl
@[go_sem] theorem DO:aggT Tryz.prog 4=some false:=by kernel_rfl
@[go_sem] theorem DP:zroT Tryz.prog 4=some (.bool false):=by kernel_rfl
@[go_sem] theorem DQ:szOf Tryz.prog 5=some 1:=by kernel_rfl
@[go_sem] theorem E4:byT Tryz.prog 5=some 1:=by kernel_rfl
@[go_sem] theorem DR:zroT Tryz.prog 5=some (.int .u8 0):=by kernel_rfl
@[go_sem] theorem E5:Program.underlying Tryz.prog 5=some (.int .u8):=by kernel_rfl
@[go_sem] theorem DS:szOf Tryz.prog 9=some 1:=by kernel_rfl
@[go_sem] theorem DT:aggT Tryz.prog 9=some false:=by kernel_rfl
@[go_sem] theorem E6:byT Tryz.prog 9=some 16:=by kernel_rfl
@[go_sem] theorem D7:kindT Tryz.prog 9=2:=by kernel_rfl
@[go_sem] theorem DU:strT Tryz.prog 9=true:=by kernel_rfl
@[go_sem] theorem DV:zroT Tryz.prog 9=some (.str []):=by kernel_rfl
@[go_sem] theorem E7:Program.underlying Tryz.prog 9=some .string:=by kernel_rfl
@[go_sem] theorem D8:szOf Tryz.prog 21=some 1:=by kernel_rfl
@[go_sem] theorem D9:aggT Tryz.prog 21=some false:=by kernel_rfl
@[go_sem] theorem DW:byT Tryz.prog 21=some 4:=by kernel_rfl
@[go_sem] theorem Da:zroT Tryz.prog 21=some (.int .i32 0):=by kernel_rfl
@[go_sem] theorem DX:Program.underlying Tryz.prog 21=some (.int .i32):=by kernel_rfl
@[go_sem] theorem Db:szOf Tryz.prog 23=some 1:=by kernel_rfl
@[go_sem] theorem Dc:aggT Tryz.prog 23=some false:=by kernel_rfl
@[go_sem] theorem Dd:elmT Tryz.prog 23=some 61:=by kernel_rfl
@[go_sem] theorem De:szOf Tryz.prog 25=some 3:=by kernel_rfl
@[go_sem] theorem Df:aggT Tryz.prog 25=some true:=by kernel_rfl
@[go_sem] theorem Dg:nFld Tryz.prog 25=some 3:=by kernel_rfl
@[go_sem] theorem AK:fOff Tryz.prog 25 0=some (0,9,1):=by kernel_rfl
@[go_sem] theorem AL:fOff Tryz.prog 25 1=some (1,9,1):=by kernel_rfl
@[go_sem] theorem AM:fOff Tryz.prog 25 2=some (2,23,1):=by kernel_rfl
@[go_sem] theorem Dh:zroT Tryz.prog 25=some (.agg [.str [],.str [],.nil (.slice none 0 0)]):=by kernel_rfl
@[go_sem] theorem Di:szOf Tryz.prog 61=some 5:=by kernel_rfl
@[go_sem] theorem Dj:aggT Tryz.prog 61=some true:=by kernel_rfl
@[go_sem] theorem DY:byT Tryz.prog 61=some 64:=by kernel_rfl
@[go_sem] theorem Dk:nFld Tryz.prog 61=some 5:=by kernel_rfl
@[go_sem] theorem AN:fOff Tryz.prog 61 0=some (0,9,1):=by kernel_rfl
@[go_sem] theorem AO:fOff Tryz.prog 61 1=some (1,9,1):=by kernel_rfl
@[go_sem] theorem AP:fOff Tryz.prog 61 2=some (2,9,1):=by kernel_rfl
@[go_sem] theorem AQ:fOff Tryz.prog 61 3=some (3,3,1):=by kernel_rfl
@[go_sem] theorem AR:fOff Tryz.prog 61 4=some (4,4,1):=by kernel_rfl
@[go_sem] theorem AS:plainT Tryz.prog 61=some [2,2,2,0,1]:=by kernel_rfl
@[go_sem] theorem Dl:zroT Tryz.prog 61=some (.agg [.str [],.str [],.str [],.int .i64 0,.bool false]):=by kernel_rfl
@[go_sem] theorem Dm:elmT Tryz.prog 62=some 9:=by kernel_rfl
@[go_sem] theorem Dn:szOf Tryz.prog 73=some 1:=by kernel_rfl
@[go_sem] theorem Do:aggT Tryz.prog 73=some false:=by kernel_rfl
@[go_sem] theorem Dp:elmT Tryz.prog 73=some 228:=by kernel_rfl
@[go_sem] theorem Dq:szOf Tryz.prog 74=some 1:=by kernel_rfl
@[go_sem] theorem Dr:aggT Tryz.prog 74=some false:=by kernel_rfl
@[go_sem] theorem Ds:elmT Tryz.prog 74=some 76:=by kernel_rfl
@[go_sem] theorem Du:szOf Tryz.prog 76=some 4:=by kernel_rfl
@[go_sem] theorem Dv:aggT Tryz.prog 76=some true:=by kernel_rfl
@[go_sem] theorem DZ:byT Tryz.prog 76=some 80:=by kernel_rfl
@[go_sem] theorem Dw:nFld Tryz.prog 76=some 4:=by kernel_rfl
@[go_sem] theorem AU:fOff Tryz.prog 76 0=some (0,9,1):=by kernel_rfl
@[go_sem] theorem AV:fOff Tryz.prog 76 1=some (1,73,1):=by kernel_rfl
@[go_sem] theorem AW:fOff Tryz.prog 76 2=some (2,9,1):=by kernel_rfl
@[go_sem] theorem AX:fOff Tryz.prog 76 3=some (3,74,1):=by kernel_rfl
@[go_sem] theorem Dx:zroT Tryz.prog 76=some (.agg [.str [],.nil (.slice none 0 0),.str [],.nil (.slice none 0 0)]):=by kernel_rfl
@[go_sem] theorem BY:mapT Tryz.prog 103=some (9,3):=by kernel_rfl
@[go_sem] theorem BZ:szOf Tryz.prog 124=some 1:=by kernel_rfl
@[go_sem] theorem C0:aggT Tryz.prog 124=some false:=by kernel_rfl
@[go_sem] theorem C1:szOf Tryz.prog 125=some 1:=by kernel_rfl
@[go_sem] theorem C2:aggT Tryz.prog 125=some false:=by kernel_rfl
@[go_sem] theorem C3:elmT Tryz.prog 125=some 5:=by kernel_rfl
@[go_sem] theorem yX:fOff Tryz.prog 127 0=some (0,124,1):=by kernel_rfl
@[go_sem] theorem yY:fOff Tryz.prog 127 1=some (1,125,1):=by kernel_rfl
@[go_sem] theorem C4:zroT Tryz.prog 127=some (.agg [.nil (.pointer none),.nil (.slice none 0 0)]):=by kernel_rfl
@[go_sem] theorem C5:elmT Tryz.prog 137=some 182:=by kernel_rfl
@[go_sem] theorem C6:elmT Tryz.prog 154=some 3:=by kernel_rfl
@[go_sem] theorem C7:nFld Tryz.prog 179=some 2:=by kernel_rfl
@[go_sem] theorem yZ:fOff Tryz.prog 179 0=some (0,9,1):=by kernel_rfl
@[go_sem] theorem z6:fOff Tryz.prog 179 1=some (1,4,1):=by kernel_rfl
@[go_sem] theorem C8:zroT Tryz.prog 179=some (.agg [.str [],.bool false]):=by kernel_rfl
@[go_sem] theorem C9:szOf Tryz.prog 182=some 4:=by kernel_rfl
@[go_sem] theorem Ca:aggT Tryz.prog 182=some true:=by kernel_rfl
@[go_sem] theorem Dy:byT Tryz.prog 182=some 64:=by kernel_rfl
@[go_sem] theorem Cb:nFld Tryz.prog 182=some 4:=by kernel_rfl
@[go_sem] theorem z7:fOff Tryz.prog 182 0=some (0,3,1):=by kernel_rfl
@[go_sem] theorem za:fOff Tryz.prog 182 1=some (1,9,1):=by kernel_rfl
@[go_sem] theorem zb:fOff Tryz.prog 182 2=some (2,73,1):=by kernel_rfl
@[go_sem] theorem zc:fOff Tryz.prog 182 3=some (3,9,1):=by kernel_rfl
@[go_sem] theorem Cc:zroT Tryz.prog 182=some (.agg [.int .i64 0,.str [],.nil (.slice none 0 0),.str []]):=by kernel_rfl
@[go_sem] theorem Cd:nFld Tryz.prog 186=some 2:=by kernel_rfl
@[go_sem] theorem zd:fOff Tryz.prog 186 0=some (0,74,1):=by kernel_rfl
@[go_sem] theorem ze:fOff Tryz.prog 186 1=some (1,74,1):=by kernel_rfl
@[go_sem] theorem Ce:zroT Tryz.prog 186=some (.agg [.nil (.slice none 0 0),.nil (.slice none 0 0)]):=by kernel_rfl
@[go_sem] theorem Cf:szOf Tryz.prog 197=some 6:=by kernel_rfl
@[go_sem] theorem Cg:aggT Tryz.prog 197=some true:=by kernel_rfl
@[go_sem] theorem Ch:nFld Tryz.prog 197=some 6:=by kernel_rfl
@[go_sem] theorem zf:fOff Tryz.prog 197 0=some (0,3,1):=by kernel_rfl
@[go_sem] theorem zg:fOff Tryz.prog 197 1=some (1,3,1):=by kernel_rfl
@[go_sem] theorem zh:fOff Tryz.prog 197 2=some (2,3,1):=by kernel_rfl
@[go_sem] theorem zi:fOff Tryz.prog 197 3=some (3,3,1):=by kernel_rfl
@[go_sem] theorem zj:fOff Tryz.prog 197 4=some (4,3,1):=by kernel_rfl
@[go_sem] theorem zl:fOff Tryz.prog 197 5=some (5,3,1):=by kernel_rfl
@[go_sem] theorem Ci:zroT Tryz.prog 197=some (.agg [.int .i64 0,.int .i64 0,.int .i64 0,.int .i64 0,.int .i64 0,.int .i64 0]):=by kernel_rfl
@[go_sem] theorem Cj:elmT Tryz.prog 207=some 21:=by kernel_rfl
@[go_sem] theorem Ck:szOf Tryz.prog 228=some 2:=by kernel_rfl
@[go_sem] theorem Cl:aggT Tryz.prog 228=some true:=by kernel_rfl
@[go_sem] theorem Dz:byT Tryz.prog 228=some 32:=by kernel_rfl
@[go_sem] theorem Cm:nFld Tryz.prog 228=some 2:=by kernel_rfl
@[go_sem] theorem zm:fOff Tryz.prog 228 0=some (0,9,1):=by kernel_rfl
@[go_sem] theorem zp:fOff Tryz.prog 228 1=some (1,9,1):=by kernel_rfl
@[go_sem] theorem Cn:zroT Tryz.prog 228=some (.agg [.str [],.str []]):=by kernel_rfl
@[go_sem] theorem DA:Program.underlying Tryz.prog 259=some (.int .u32):=by kernel_rfl
@[go_sem] theorem Co:szOf Tryz.prog 281=some 256:=by kernel_rfl
@[go_sem] theorem Cp:arrT Tryz.prog 281=some (256,4):=by kernel_rfl
@[go_sem] theorem Cq:zroT Tryz.prog 281=some (.agg [.bool false,.bool false,.bool false,.bool false,.bool false,.bool false,.bool false,.bool false,.bool false,.bool false,.bool false,.bool false,.bool false,.bool false,.bool false,.bool false,.bool false,.bool false,.bool false,.bool false,.bool false,.bool false,.bool false,.bool false,.bool false,.bool false,.bool false,.bool false,.bool false,.bool false,.bool false,.bool false,.bool false,.bool false,.bool false,.bool false,.bool false,.bool false,.bool false,.bool false,.bool false,.bool false,.bool false,.bool false,.bool false,.bool false,.bool false,.bool false,.bool false,.bool false,.bool false,.bool false,.bool false,.bool false,.bool false,.bool false,.bool false,.bool false,.bool false,.bool false,.bool false,.bool false,.bool false,.bool false,.bool false,.bool false,.bool false,.bool false,.bool false,.bool false,.bool false,.bool false,.bool false,.bool false,.bool false,.bool false,.bool false,.bool false,.bool false,.bool false,.bool false,.bool false,.bool false,.bool false,.bool false,.bool false,.bool false,.bool false,.bool false,.bool false,.bool false,.bool false,.bool false,.bool false,.bool false,.bool false,.bool false,.bool false,.bool false,.bool false,.bool false,.bool false,.bool false,.bool false,.bool false,.bool false,.bool false,.bool false,.bool false,.bool false,.bool false,.bool false,.bool false,.bool false,.bool false,.bool false,.bool false,.bool false,.bool false,.bool false,.bool false,.bool false,.bool false,.bool false,.bool false,.bool false,.bool false,.bool false,.bool false,.bool false,.bool false,.bool false,.bool false,.bool false,.bool false,.bool false,.bool false,.bool false,.bool false,.bool false,.bool false,.bool false,.bool false,.bool false,.bool false,.bool false,.bool false,.bool false,.bool false,.bool false,.bool false,.bool false,.bool false,.bool false,.bool false,.bool false,.bool false,.bool false,.bool false,.bool false,.bool false,.bool false,.bool false,.bool false,.bool false,.bool false,.bool false,.bool false,.bool false,.bool false,.bool false,.bool false,.bool false,.bool false,.bool false,.bool false,.bool false,.bool false,.bool false,.bool false,.bool false,.bool false,.bool false,.bool false,.bool false,.bool false,.bool false,.bool false,.bool false,.bool false,.bool false,.bool false,.bool false,.bool false,.bool false,.bool false,.bool false,.bool false,.bool false,.bool false,.bool false,.bool false,.bool false,.bool false,.bool false,.bool false,.bool false,.bool false,.bool false,.bool false,.bool false,.bool false,.bool false,.bool false,.bool false,.bool false,.bool false,.bool false,.bool false,.bool false,.bool false,.bool false,.bool false,.bool false,.bool false,.bool false,.bool false,.bool false,.bool false,.bool false,.bool false,.bool false,.bool false,.bool false,.bool false,.bool false,.bool false,.bool false,.bool false,.bool false,.bool false,.bool false,.bool false,.bool false,.bool false,.bool false,.bool false,.bool false,.bool false,.bool false,.bool false,.bool false,.bool false,.bool false,.bool false,.bool false]):=by kernel_rfl
@[go_sem] theorem Cr:nFld Tryz.prog 309=some 2:=by kernel_rfl
@[go_sem] theorem zr:fOff Tryz.prog 309 0=some (0,9,1):=by kernel_rfl
@[go_sem] theorem zt:fOff Tryz.prog 309 1=some (1,4,1):=by kernel_rfl
@[go_sem] theorem Cs:zroT Tryz.prog 309=some (.agg [.str [],.bool false]):=by kernel_rfl
end Go.Av.Ty
namespace Go.Av
open Go Go.Proofs Go.RowKit
noncomputable def CT(G:Nat→Option (List AVal)):Ctx:=⟨Tryz.prog,G⟩
@[go_sem] theorem Ec(G:Nat→Option (List AVal)):(CT G).P=Tryz.prog:=(rfl)
@[go_sem] theorem xh(G:Nat→Option (List AVal)):(CT G).G=G:=(rfl)
abbrev Bs:=List UInt8
abbrev At:=Bs×Bs
def At.av(a:At):AVal:=.agg [.str a.1,.str a.2]
abbrev Tok:=Int×Bs×List At×Bs
def Tok.av(t:Tok):AVal:=.agg [.int .i64 t.1,.str t.2.1,.sl 2 (t.2.2.1.map At.av),.str t.2.2.2]
inductive Elem where
 |mk (name:Bs) (attrs:List At) (text:Bs) (kids:List Elem)
 deriving Inhabited
namespace Elem
def name:Elem→Bs| .mk n _ _ _=>n
def attrs:Elem→List At| .mk _ a _ _=>a
def text:Elem→Bs| .mk _ _ t _=>t
def kids:Elem→List Elem| .mk _ _ _ k=>k
end Elem
mutual
def Elem.av:Elem→AVal
 | .mk n a t k=>.agg [.str n,.sl 2 (a.map At.av),.str t,.sl 4 (avs k)]
def avs:List Elem→List AVal
 | []=>[]
 |e::l=>e.av::avs l
end
theorem xi(l:List Elem):avs l=l.map Elem.av:=by
 induction l with
 |nil=>rfl
 |cons e l ih=>rw[avs,ih];rfl
theorem Elem.av_eq(e:Elem):e.av=.agg [.str e.name,.sl 2 (e.attrs.map At.av),.str e.text,.sl 4 (e.kids.map Elem.av)]:=by
 cases e with
 |mk n a t k=>simp only[Elem.av,xi,Elem.name,Elem.attrs,Elem.text,Elem.kids]
def At.sz(a:At):Nat:=1+a.1.length+a.2.length
def szs{α:Type}(f:α→Nat):List α→Nat
 | []=>0
 |a::l=>f a+szs f l
mutual
def Elem.sz:Elem→Nat
 | .mk n a t k=>1+n.length+szs At.sz a+t.length+kidsz k
def kidsz:List Elem→Nat
 | []=>0
 |e::l=>e.sz+kidsz l
end
theorem tU(l:List Elem):kidsz l=szs Elem.sz l:=by
 induction l with
 |nil=>rfl
 |cons e l ih=>rw[kidsz,ih];rfl
theorem Elem.sz_eq(e:Elem):e.sz=1+e.name.length+szs At.sz e.attrs+e.text.length+szs Elem.sz e.kids:=by
 cases e with
 |mk n a t k=>simp only[Elem.sz,tU,Elem.name,Elem.attrs,Elem.text,Elem.kids]
theorem iq{α:Type}(f:α→Nat){l:List α}{a:α}(h:a∈l):f a≤szs f l:=by
 induction l with
 |nil=>cases h
 |cons b l ih=>
  rw[szs];rcases J6.1 h with rfl|h
  ·omega
  ·have:=ih h;omega
theorem bF{α:Type}(f:α→Nat)(hf:∀a,1≤f a)(l:List α):l.length≤szs f l:=by
 induction l with
 |nil=>exact Nat.zero_le _
 |cons b l ih=>rw[szs,G5];have:=hf b;omega
theorem At.sz_pos(a:At):1≤a.sz:=by unfold At.sz;omega
theorem Elem.sz_pos(e:Elem):1≤e.sz:=by rw[Elem.sz_eq];omega
theorem Elem.kid_sz{e k:Elem}(h:k∈e.kids):k.sz+1≤e.sz:=by
 have:=iq Elem.sz h;rw[Elem.sz_eq e];omega
theorem Elem.kids_len(e:Elem):e.kids.length≤e.sz:=by
 have:=bF Elem.sz Elem.sz_pos e.kids;rw[Elem.sz_eq e];omega
theorem Elem.attrs_len(e:Elem):e.attrs.length≤e.sz:=by
 have:=bF At.sz At.sz_pos e.attrs;rw[Elem.sz_eq e];omega
theorem Elem.name_len(e:Elem):e.name.length≤e.sz:=by rw[Elem.sz_eq e];omega
theorem Elem.text_len(e:Elem):e.text.length≤e.sz:=by rw[Elem.sz_eq e];omega
def Tok.sz(t:Tok):Nat:=1+t.2.1.length+szs At.sz t.2.2.1+t.2.2.2.length
theorem Tok.sz_pos(t:Tok):1≤t.sz:=by unfold Tok.sz;omega
@[go_sem] theorem Tok.av_cells(t:Tok):AVal.cells (Tok.av t)=[.int .i64 t.1,.str t.2.1,.sl 2 (t.2.2.1.map At.av),.str t.2.2.2]:=(rfl)
@[go_sem] theorem Tok.av_fold(t:Tok):AVal.agg [.int .i64 t.1,.str t.2.1,.sl 2 (t.2.2.1.map At.av),.str t.2.2.2]=Tok.av t:=(rfl)
@[go_sem] theorem Tok.av_lies(t:Tok):AVal.lies (Tok.av t)=true:=(rfl)
@[go_sem] theorem Tok.av_box(e:TypeId)(t:Tok)(h:Heap)(k:Heap→Prop):boxK e (Tok.av t) h k=k (h++[.row e 4 0 [Tok.av t]]):=by simp[Tok.av,iZ]
@[go_sem] theorem At.av_cells(a:At):AVal.cells (At.av a)=[.str a.1,.str a.2]:=(rfl)
@[go_sem] theorem Elem.av_cells(e:Elem):AVal.cells (Elem.av e)=[.str e.name,.sl 2 (e.attrs.map At.av),.str e.text,.sl 4 (e.kids.map Elem.av)]:=by rw[Elem.av_eq];rfl
@[go_sem] theorem At.av_fold(a:At):AVal.agg [.str a.1,.str a.2]=At.av a:=(rfl)
@[go_sem] theorem Elem.av_fold(e:Elem):AVal.agg [.str e.name,.sl 2 (e.attrs.map At.av),.str e.text,.sl 4 (e.kids.map Elem.av)]=Elem.av e:=(Elem.av_eq e).symm
@[go_sem] theorem At.av_box(e:TypeId)(a:At)(h:Heap)(k:Heap→Prop):boxK e (At.av a) h k=k (h++[.row e 2 0 [At.av a]]):=by simp[At.av,iZ]
@[go_sem] theorem Elem.av_box(t:TypeId)(e:Elem)(h:Heap)(k:Heap→Prop):boxK t (Elem.av e) h k=k (h++[.row t 4 0 [Elem.av e]]):=by simp[Elem.av_eq,iZ]
@[go_sem] theorem At.av_lies(a:At):AVal.lies (At.av a)=true:=(rfl)
@[go_sem] theorem Elem.av_lies(e:Elem):AVal.lies (Elem.av e)=true:=by rw[Elem.av_eq];rfl
theorem At.clo(n:Nat)(a:At):Clo n a.av:=by
 refine .agg _ fun c hc=>?_
 simp at hc;rcases hc with rfl|rfl<;>exact .str _
theorem Tok.clo(n:Nat)(t:Tok):Clo n t.av:=by
 refine .agg _ fun c hc=>?_
 simp only[J6,Q9,or_false]at hc;rcases hc with rfl|rfl|rfl|rfl
 ·exact .int _ _
 ·exact .str _
 ·exact .sl _ _ fun e he=>by obtain⟨a,_,rfl⟩:=J9.1 he;exact At.clo n a
 ·exact .str _
theorem Toks.clo(n m:Nat)(l:List Tok):Clo n (.sl m (l.map Tok.av)):=.sl _ _ fun e he=>by
 obtain⟨a,_,rfl⟩:=J9.1 he;exact Tok.clo n a
theorem Ats.clo(n m:Nat)(l:List At):Clo n (.sl m (l.map At.av)):=.sl _ _ fun e he=>by
 obtain⟨a,_,rfl⟩:=J9.1 he;exact At.clo n a
mutual
theorem Elem.clo(n:Nat):∀e:Elem,Clo n e.av
 | .mk nm a t k=>by
  rw[Elem.av];refine .agg _ fun c hc=>?_
  simp only[J6,Q9,or_false]at hc;rcases hc with rfl|rfl|rfl|rfl
  ·exact .str _
  ·exact Ats.clo n 2 a
  ·exact .str _
  ·exact .sl _ _ (my n k)
theorem my(n:Nat):∀(l:List Elem),∀e∈avs l,Clo n e
 | []=>by intro e he;cases he
 |x::l=>by
  intro e he;rw[avs]at he;rcases J6.1 he with rfl|he
  ·exact Elem.clo n x
  ·exact my n l e he
end
@[go_sem] theorem xj(n:Nat):(n:Int)+1=((n+1:Nat):Int):=(rfl)
theorem ae{α:Type}{l:List α}{k:Nat}(h:k<l.length):∃a,l[k]? =some a∧a∈l:=⟨l[k],G1 h,List.getElem_mem h⟩
theorem aF{α:Type}{l:List α}{k:Nat}{a:α}(h:l[k]? =some a):l.drop k=a::l.drop (k+1):=by
 obtain⟨hlt,rfl⟩:=F1.1 h;exact P9 hlt
theorem aY{α:Type}{l:List α}{k:Nat}(h:l.length≤k):l.drop k=[]:=P7 h
end Go.Av
namespace Go.Av
open Go.RowKit Go.ChangeShapes Go.WideShapes
section
variable {H:Type} {enc:TypeId×Value→H} {P:Program}
theorem gN{w w':World}{base:Nat}{sp:Nat→Bool}{held:Bool}:∀{ts:List TypeId} {vs:List Value} {ds:List (DataW H)} {ps:List MemPlace},DataW.TrodAll enc P w base sp held ts vs ds ps→(∀p∈ps,w.sameAt w' p)→DataW.TrodAll enc P w' base sp held ts vs ds ps
 | [],[],[],_,h,_=>h
 |_::_,_::_,_::_,_,⟨p,q,⟨n,h1⟩,h2,e⟩,hs=>⟨p,q,⟨n,DataW.trod_carry n _ _ _ h1 (fun x hx=>hs x (by rw[e];exact List.mem_append_left _ hx))⟩,gN h2 (fun x hx=>hs x (by rw[e];exact List.mem_append_right _ hx)),e⟩
theorem lS{f:Func}{s:ChangeSpec}{apart fresh handsOn again:Bool}{W W':World}{args:Array Value}{v:Value}{ds gs:List (DataW H)}{before:List MemPlace}
  (K:Kids P (· < P.types.size))(full:∀t e,t<P.types.size→P.underlying t=some (.slice e)→0<P.cellsOf e)(hts:∀t∈f.params.toList,t<P.types.size)
  (hv:s.vars=[])(hfn:s.fn H (ds++gs)= {results:=[.lit (.bool true)],args:=ds}){tb:TypeId}(hres:f.resultTypes= #[tb])(hb:P.underlying tb=some .bool)
  (hW:DataW.Whole enc P f.params.toList s.vars apart W args.toList ds gs before)(hbel:Below W.heap.size W W')(hvv:v=.bool true):
  s.post enc P f apart fresh handsOn again W args v W':=by
 subst hvv;have hlt:=hW.lt;obtain⟨p,q,hA,hV,hbe,hz,hn⟩:=hW;have hV0:=hV;rw[hv]at hV0;obtain⟨rfl,rfl⟩:=trodVars_none hV0;simp only[J3]at hbe;subst hbe;have hA':=gN hA fun x hx=>hbel.same (hlt x hx)
 have hold:∀x∈before,(fun b=>decide (b<W.heap.size)) x.block=true:=fun x hx=>by simpa using hlt x hx
 have hr:∀(b:Nat) (sp:Nat→Bool) (hd:Bool),DataW.TrodAll enc P W' b sp hd f.resultTypes.toList ((Value.bool true).resultList f.resultTypes.size) [.lit (.bool true)] []:=fun b sp hd=>by
  rw[hres];exact trodAll_mk1 (shut_bool hb true)
 refine⟨ds,[],before,[],before,[],⟨before,[],hA,hV,by simp,hz,hn⟩,by rw[hfn];exact hr _ _ _,by rw[hfn];exact hA'.respare K full hts hold,by rw[hfn,hv];rfl,hbel.frame _,fun _=>⟨ok_one hres rfl (okWide_bool_mk hb _),[.lit (.bool true)]++ds,[],before,⟨before,[],?_,by rw[hv];rfl,by simp,?_,fun ha=>hn ha⟩,fun x hx _=>hx⟩⟩
 ·have:=trodAll_append hA' (hr 0 (fun _=>true) true);simpa using this
 ·intro b off hp;have h1:=hz b off hp;have h2:=hlt _ hp;rw[hbel.frozen (p:=⟨b,off,none⟩) h2];exact h1
def lies0(W:World):Addr→Prop:=fun a=>(W.cell? a).isSome=true
theorem tV{W:World}{a:Addr}(h:lies0 W a):a.block<W.heap.size:=by
 unfold lies0 World.cell? at h;refine U8 fun hle=>?_
 rw[Array.getElem?_eq_none hle]at h;cases h
theorem zu{C:Ctx}{W:World}(hg:∀g cs,C.G g=some cs→Rep W (lies0 W) [] (.ad cs) (.pointer (some ⟨g,0,none⟩))):Fits C W.heap.size (lies0 W) [] [] W:=
 ⟨hg,rfl,fun p q m m' b h=>by simp at h,fun p m b h=>by simp at h,H5 _,fun a ha=>tV ha,fun p m k h=>by simp at h⟩
theorem mz{C:Ctx}{f:FuncId}{fn:Func}{c:Code}(hf:C.P.funcs[f]? =some fn)(hb:fn.body=some c)(hname:(fn.name== "runtime.NumGoroutine")=false){W:World}{args:Array Value}{xs:List AVal}
  (fit:Fits C W.heap.size (lies0 W) [] [] W)(rl:RepL W (lies0 W) [] xs args.toList)(sat:Sat C f xs [] fun r h'=>r=.bool true∧h'=[]):
  Calls C.P f args W fun e W'=>e=.returned (.bool true)∧Below W.heap.size W W':=by
 have h:=sat _ _ [] W args.toList fit rl;have hcall:(callFunc f args.toList.toArray).run C.P W=.ok (.enter f args.toList.toArray) W:=by
  have hne:fn.name≠ "runtime.NumGoroutine" :=by simpa using hname
  simp[callFunc,hf,hne,hb]
 rw[hcall]at h;have h:Calls C.P f args.toList.toArray W fun e w''=>∃v,e=.returned v∧OpPost C W.heap.size (lies0 W) [] W (fun r h'=>r=.bool true∧h'=[]) v w'':=h
 rw[Array.toArray_toList]at h;refine h.mono fun e W' ⟨v,he,r,h',S',μ',⟨hr,_⟩,st,_,hrep⟩=>?_
 subst hr;rw[hrep.bool_inv]at he;exact⟨he,st.below⟩
theorem jv{C:Ctx}{f:FuncId}{fn:Func}{c:Code}(hf:C.P.funcs[f]? =some fn)(hb:fn.body=some c)(hname:(fn.name== "runtime.NumGoroutine")=false){s:ChangeSpec}{apart fresh handsOn again:Bool}{W:World}{args:Array Value}{xs:List AVal}{ds gs:List (DataW H)}{before:List MemPlace}
  (K:Kids C.P (· < C.P.types.size))(full:∀t e,t<C.P.types.size→C.P.underlying t=some (.slice e)→0<C.P.cellsOf e)(hts:∀t∈fn.params.toList,t<C.P.types.size)
  (hv:s.vars=[])(hfn:s.fn H (ds++gs)= {results:=[.lit (.bool true)],args:=ds}){tb:TypeId}(hres:fn.resultTypes= #[tb])(hbt:C.P.underlying tb=some .bool)
  (hW:DataW.Whole enc C.P fn.params.toList s.vars apart W args.toList ds gs before)
  (hg:∀g cs,C.G g=some cs→Rep W (lies0 W) [] (.ad cs) (.pointer (some ⟨g,0,none⟩)))(rl:RepL W (lies0 W) [] xs args.toList)(sat:Sat C f xs [] fun r h'=>r=.bool true∧h'=[]):
  Calls C.P f args W fun e W'=>∃v,e=.returned v∧s.post enc C.P fn apart fresh handsOn again W args v W':=
 (mz hf hb hname (zu hg) rl sat).mono fun e W' ⟨he,hbel⟩=>⟨_,he,lS K full hts hv hfn hres hbt hW hbel rfl⟩
variable {W:World}
end
end Go.Av
namespace Go.Av
open Go Go.Proofs Go.RowKit Go.ChangeShapes Go.WideShapes
section
variable {H:Type} {enc:TypeId×Value→H} {W:World}
theorem rH:Kids Tryz.prog (· < Tryz.prog.types.size):=kids_rows (by kernel_rfl) (by kernel_rfl)
theorem rI:∀t e,t<Tryz.prog.types.size→Tryz.prog.underlying t=some (.slice e)→0<Tryz.prog.cellsOf e:=slices_full_of Tryz.prog (by kernel_rfl)
theorem nU{t:TypeId}(ht:Tryz.prog.underlying t=some .string){r:Reach}{b0:Nat}{v:Value}{d:DataW H}{ps:List MemPlace}(hval:Value.okWide Tryz.prog W r b0 t v)(h:DataW.Trod enc Tryz.prog W 0 (fun _=>true) true t v d ps):
  ∃s:Bs,Rep W (lies0 W) [] (.str s) v∧s.length+1≤Go.Proofs.YtjfjncmgclaokaaGreatDoor.Rows.uptoBulk d:=by
 obtain⟨s,rfl,rfl,_,_⟩:=Go.ChangeMaps.open_string ht hval h;exact⟨s.data.toList,by simpa using Rep.str (w:=W) (S:=lies0 W) (μ:=[]) s.data.toList,by simp[Go.Proofs.YtjfjncmgclaokaaGreatDoor.Rows.uptoBulk]⟩
end
end Go.Av
namespace Go.Av
open Go Go.Proofs Go.RowKit
variable (G:Nat→Option (List AVal))
theorem gZ(x:AVal)(h:Heap):Sat (CT G) 159 [x] h (fun r h'=>r=x∧h'=h):=by
 refine Sat.of_extern (fn:=Tryz.f159) (ex:=Extern.AbiNoEscape.same) Tryz.func159 (by kernel_rfl) (by kernel_rfl) (by kernel_rfl) (by kernel_rfl) fun B S μ w vs f r=>?_
 obtain⟨hl,hr⟩:=r
 match vs,hl,hr with
 | [v],_,hr=>
  refine⟨v,w,Lib.run_noEscape w v,x,h,S,μ,⟨rfl,rfl⟩,Step.refl _ _ _ _,f,?_⟩;simpa using hr 0 x rfl
end Go.Av
namespace Go.Proofs
open Go.Shelf
def Tryz.lays137_ren:Go.Shelf.Ren:=⟨fun|137=>341|217=>337|266=>349|n=>n,fun|9=>9|5=>5|3=>3|n=>n,fun|n=>n⟩
theorem Tryz.lays137:Go.Proofs.Lays.n137 Tryz.prog Tryz.lays137_ren:= {
 mixed:=by kernel_rfl
 f137:=Tryz.func341.trans (J2 some (by kernel_rfl))
 f217:=Tryz.func337.trans (J2 some (by kernel_rfl))
 f266:=Tryz.func349.trans (J2 some (by kernel_rfl))
 t3:=Tryz.underlying3
 a3:=Tryz.isAgg3
 z3:=Tryz.sizeOf3
 v3:=Tryz.zeroValue3
 t5:=Tryz.underlying5
 a5:=Tryz.isAgg5
 z5:=Tryz.sizeOf5
 v5:=Tryz.zeroValue5
 t9:=Tryz.underlying9
 a9:=Tryz.isAgg9
 z9:=Tryz.sizeOf9
 v9:=Tryz.zeroValue9}
open Go.RowKit in
theorem Tryz.strings_IndexByte(s:ByteArray)(c:Int)(w:World):
  Calls Tryz.prog 341 #[.string s,.int .u8 c] w fun e w'=>e=.returned (.int .i64 (Lib.indexByte s.data.toList c.toNat.toUInt8))∧w'=w:=Any.strings_IndexByte Tryz.lays137 s c w
def Tryz.lays103_ren:Go.Shelf.Ren:=⟨fun|103=>224|210=>265|206=>191|n=>n,fun|9=>9|4=>4|24=>222|3=>3|n=>n,fun|n=>n⟩
theorem Tryz.lays103:Go.Proofs.Lays.n103 Tryz.prog Tryz.lays103_ren:= {
 mixed:=by kernel_rfl
 f103:=Tryz.func224.trans (J2 some (by kernel_rfl))
 f206:=Tryz.func191.trans (J2 some (by kernel_rfl))
 f210:=Tryz.func265.trans (J2 some (by kernel_rfl))
 t3:=Tryz.underlying3
 a3:=Tryz.isAgg3
 z3:=Tryz.sizeOf3
 v3:=Tryz.zeroValue3
 t4:=Tryz.underlying4
 a4:=Tryz.isAgg4
 z4:=Tryz.sizeOf4
 v4:=Tryz.zeroValue4
 t9:=Tryz.underlying9
 a9:=Tryz.isAgg9
 z9:=Tryz.sizeOf9
 v9:=Tryz.zeroValue9
 t24:=Tryz.underlying222
 a24:=Tryz.isAgg222
 z24:=Tryz.sizeOf222
 v24:=Tryz.zeroValue222}
open Go.RowKit in
theorem Tryz.strings_CutPrefix(s p:ByteArray)(w:World):
  Calls Tryz.prog 224 #[.string s,.string p] w fun e w'=>e=.returned (.tuple #[.string ⟨(Lib.trimPrefix s.data.toList p.data.toList).toArray⟩,.bool (Lib.hasPrefix s.data.toList p.data.toList)])∧w'=w:=Any.strings_CutPrefix Tryz.lays103 s p w
def Tryz.lays143_ren:Go.Shelf.Ren:=⟨fun|143=>267|219=>303|217=>337|225=>338|224=>339|267=>340|266=>349|314=>350|n=>n,fun|9=>9|3=>3|4=>4|5=>5|46=>243|146=>321|51=>259|n=>n,fun|1=>0|n=>n⟩
theorem Tryz.lays143:Go.Proofs.Lays.n143 Tryz.prog Tryz.lays143_ren:= {
 mixed:=by kernel_rfl
 f143:=Tryz.func267.trans (J2 some (by kernel_rfl))
 f217:=Tryz.func337.trans (J2 some (by kernel_rfl))
 f219:=Tryz.func303.trans (J2 some (by kernel_rfl))
 f224:=Tryz.func339.trans (J2 some (by kernel_rfl))
 f225:=Tryz.func338.trans (J2 some (by kernel_rfl))
 f266:=Tryz.func349.trans (J2 some (by kernel_rfl))
 f267:=Tryz.func340.trans (J2 some (by kernel_rfl))
 f314:=Tryz.func350.trans (J2 some (by kernel_rfl))
 t3:=Tryz.underlying3
 a3:=Tryz.isAgg3
 z3:=Tryz.sizeOf3
 v3:=Tryz.zeroValue3
 t4:=Tryz.underlying4
 a4:=Tryz.isAgg4
 z4:=Tryz.sizeOf4
 v4:=Tryz.zeroValue4
 t5:=Tryz.underlying5
 a5:=Tryz.isAgg5
 z5:=Tryz.sizeOf5
 v5:=Tryz.zeroValue5
 t9:=Tryz.underlying9
 a9:=Tryz.isAgg9
 z9:=Tryz.sizeOf9
 v9:=Tryz.zeroValue9
 t46:=Tryz.underlying243
 a46:=Tryz.isAgg243
 z46:=Tryz.sizeOf243
 v46:=Tryz.zeroValue243
 t51:=Tryz.underlying259
 a51:=Tryz.isAgg259
 z51:=Tryz.sizeOf259
 v51:=Tryz.zeroValue259
 t146:=Tryz.underlying321
 a146:=Tryz.isAgg321
 z146:=Tryz.sizeOf321
 v146:=Tryz.zeroValue321
 g1:=by kernel_rfl}
open Go.RowKit Go.Lib in
theorem Tryz.strings_Index(s sub:ByteArray)(m:Int)(w:World)(hs:s.size<4294967281)(hm:w.cell? ⟨0,0,none⟩=some (.int .i64 m)):
  Calls Tryz.prog 267 #[.string s,.string sub] w fun e w'=>e=.returned (.int .i64 (Lib.index s.data.toList sub.data.toList))∧w'=w:=Any.strings_Index Tryz.lays143 s sub m w hs hm
def Tryz.lays144_ren:Go.Shelf.Ren:=⟨fun|144=>226|143=>267|219=>303|217=>337|225=>338|224=>339|267=>340|266=>349|314=>350|n=>n,fun|9=>9|4=>4|3=>3|5=>5|46=>243|146=>321|51=>259|n=>n,fun|1=>0|n=>n⟩
theorem Tryz.lays144:Go.Proofs.Lays.n144 Tryz.prog Tryz.lays144_ren:= {
 mixed:=by kernel_rfl
 f143:=Tryz.func267.trans (J2 some (by kernel_rfl))
 f144:=Tryz.func226.trans (J2 some (by kernel_rfl))
 f217:=Tryz.func337.trans (J2 some (by kernel_rfl))
 f219:=Tryz.func303.trans (J2 some (by kernel_rfl))
 f224:=Tryz.func339.trans (J2 some (by kernel_rfl))
 f225:=Tryz.func338.trans (J2 some (by kernel_rfl))
 f266:=Tryz.func349.trans (J2 some (by kernel_rfl))
 f267:=Tryz.func340.trans (J2 some (by kernel_rfl))
 f314:=Tryz.func350.trans (J2 some (by kernel_rfl))
 t3:=Tryz.underlying3
 a3:=Tryz.isAgg3
 z3:=Tryz.sizeOf3
 v3:=Tryz.zeroValue3
 t4:=Tryz.underlying4
 a4:=Tryz.isAgg4
 z4:=Tryz.sizeOf4
 v4:=Tryz.zeroValue4
 t5:=Tryz.underlying5
 a5:=Tryz.isAgg5
 z5:=Tryz.sizeOf5
 v5:=Tryz.zeroValue5
 t9:=Tryz.underlying9
 a9:=Tryz.isAgg9
 z9:=Tryz.sizeOf9
 v9:=Tryz.zeroValue9
 t46:=Tryz.underlying243
 a46:=Tryz.isAgg243
 z46:=Tryz.sizeOf243
 v46:=Tryz.zeroValue243
 t51:=Tryz.underlying259
 a51:=Tryz.isAgg259
 z51:=Tryz.sizeOf259
 v51:=Tryz.zeroValue259
 t146:=Tryz.underlying321
 a146:=Tryz.isAgg321
 z146:=Tryz.sizeOf321
 v146:=Tryz.zeroValue321
 g1:=by kernel_rfl}
open Go.RowKit Go.Lib in
theorem Tryz.strings_Contains(s sub:ByteArray)(m:Int)(w:World)(hs:s.size<4294967281)(hm:w.cell? ⟨0,0,none⟩=some (.int .i64 m)):
  Calls Tryz.prog 226 #[.string s,.string sub] w fun e w'=>e=.returned (.bool (Lib.contains s.data.toList sub.data.toList))∧w'=w:=Any.strings_Contains Tryz.lays144 s sub m w hs hm
def Tryz.lays145_ren:Go.Shelf.Ren:=⟨fun|145=>225|220=>266|219=>303|217=>337|225=>338|224=>339|267=>340|266=>349|314=>350|n=>n,fun|9=>9|4=>4|59=>230|3=>3|5=>5|46=>243|146=>321|51=>259|n=>n,fun|1=>0|n=>n⟩
theorem Tryz.lays145:Go.Proofs.Lays.n145 Tryz.prog Tryz.lays145_ren:= {
 mixed:=by kernel_rfl
 f145:=Tryz.func225.trans (J2 some (by kernel_rfl))
 f217:=Tryz.func337.trans (J2 some (by kernel_rfl))
 f219:=Tryz.func303.trans (J2 some (by kernel_rfl))
 f220:=Tryz.func266.trans (J2 some (by kernel_rfl))
 f224:=Tryz.func339.trans (J2 some (by kernel_rfl))
 f225:=Tryz.func338.trans (J2 some (by kernel_rfl))
 f266:=Tryz.func349.trans (J2 some (by kernel_rfl))
 f267:=Tryz.func340.trans (J2 some (by kernel_rfl))
 f314:=Tryz.func350.trans (J2 some (by kernel_rfl))
 t3:=Tryz.underlying3
 a3:=Tryz.isAgg3
 z3:=Tryz.sizeOf3
 v3:=Tryz.zeroValue3
 t4:=Tryz.underlying4
 a4:=Tryz.isAgg4
 z4:=Tryz.sizeOf4
 v4:=Tryz.zeroValue4
 t5:=Tryz.underlying5
 a5:=Tryz.isAgg5
 z5:=Tryz.sizeOf5
 v5:=Tryz.zeroValue5
 t9:=Tryz.underlying9
 a9:=Tryz.isAgg9
 z9:=Tryz.sizeOf9
 v9:=Tryz.zeroValue9
 t46:=Tryz.underlying243
 a46:=Tryz.isAgg243
 z46:=Tryz.sizeOf243
 v46:=Tryz.zeroValue243
 t51:=Tryz.underlying259
 a51:=Tryz.isAgg259
 z51:=Tryz.sizeOf259
 v51:=Tryz.zeroValue259
 t59:=Tryz.underlying230
 a59:=Tryz.isAgg230
 z59:=Tryz.sizeOf230
 v59:=Tryz.zeroValue230
 t146:=Tryz.underlying321
 a146:=Tryz.isAgg321
 z146:=Tryz.sizeOf321
 v146:=Tryz.zeroValue321
 g1:=by kernel_rfl}
open Go.RowKit Go.Lib in
theorem Tryz.strings_Cut(s sep:ByteArray)(m:Int)(w:World)(hs:s.size<4294967281)(hm:w.cell? ⟨0,0,none⟩=some (.int .i64 m)):
  Calls Tryz.prog 225 #[.string s,.string sep] w fun e w'=>e=.returned (.tuple #[.string ⟨(Lib.cut s.data.toList sep.data.toList).1.toArray⟩,.string ⟨(Lib.cut s.data.toList sep.data.toList).2.1.toArray⟩,.bool (Lib.cut s.data.toList sep.data.toList).2.2])∧∃n,w'=w.drewN n:=Any.strings_Cut Tryz.lays145 s sep m w hs hm
def Tryz.lays149_ren:Go.Shelf.Ren:=⟨fun|149=>162|222=>219|n=>n,fun|9=>9|5=>5|3=>3|4=>4|n=>n,fun|n=>n⟩
theorem Tryz.lays149:Go.Proofs.Lays.n149 Tryz.prog Tryz.lays149_ren:= {
 mixed:=by kernel_rfl
 f149:=Tryz.func162.trans (J2 some (by kernel_rfl))
 f222:=Tryz.func219.trans (J2 some (by kernel_rfl))
 t3:=Tryz.underlying3
 a3:=Tryz.isAgg3
 z3:=Tryz.sizeOf3
 v3:=Tryz.zeroValue3
 t4:=Tryz.underlying4
 a4:=Tryz.isAgg4
 z4:=Tryz.sizeOf4
 v4:=Tryz.zeroValue4
 t5:=Tryz.underlying5
 a5:=Tryz.isAgg5
 z5:=Tryz.sizeOf5
 v5:=Tryz.zeroValue5
 t9:=Tryz.underlying9
 a9:=Tryz.isAgg9
 z9:=Tryz.sizeOf9
 v9:=Tryz.zeroValue9}
open Go.RowKit Go.Lib in
theorem Tryz.strings_LastIndexByte(s:ByteArray)(c:Int)(hs:s.size<4611686018427387904)(w:World):
  Calls Tryz.prog 162 #[.string s,.int .u8 c] w fun e w'=>e=.returned (.int .i64 (Lib.lastIndexByte s c))∧w'=w:=Any.strings_LastIndexByte Tryz.lays149 s c hs w
def Tryz.lays99_ren:Go.Shelf.Ren:=⟨fun|99=>125|206=>191|n=>n,fun|9=>9|4=>4|3=>3|n=>n,fun|n=>n⟩
theorem Tryz.lays99:Go.Proofs.Lays.n99 Tryz.prog Tryz.lays99_ren:= {
 mixed:=by kernel_rfl
 f99:=Tryz.func125.trans (J2 some (by kernel_rfl))
 f206:=Tryz.func191.trans (J2 some (by kernel_rfl))
 t3:=Tryz.underlying3
 a3:=Tryz.isAgg3
 z3:=Tryz.sizeOf3
 v3:=Tryz.zeroValue3
 t4:=Tryz.underlying4
 a4:=Tryz.isAgg4
 z4:=Tryz.sizeOf4
 v4:=Tryz.zeroValue4
 t9:=Tryz.underlying9
 a9:=Tryz.isAgg9
 z9:=Tryz.sizeOf9
 v9:=Tryz.zeroValue9}
open Go.RowKit Go.Lib in
theorem Tryz.strings_HasPrefix(s p:ByteArray)(w:World):
  Calls Tryz.prog 125 #[.string s,.string p] w fun e w'=>e=.returned (.bool (Lib.hasPrefix s.data.toList p.data.toList))∧w'=w:=Any.strings_HasPrefix Tryz.lays99 s p w
def Tryz.lays146_ren:Go.Shelf.Ren:=⟨fun|146=>327|221=>348|268=>354|138=>355|143=>267|195=>357|197=>307|218=>358|219=>303|260=>343|217=>337|225=>338|224=>339|267=>340|266=>349|314=>350|n=>n,fun|9=>9|31=>62|3=>3|4=>4|0=>0|105=>205|21=>21|5=>5|46=>243|119=>323|139=>326|138=>325|146=>321|51=>259|n=>n,fun|1=>0|3=>1|4=>2|n=>n⟩
theorem Tryz.lays146:Go.Proofs.Lays.n146 Tryz.prog Tryz.lays146_ren:= {
 mixed:=by kernel_rfl
 f138:=Tryz.func355.trans (J2 some (by kernel_rfl))
 f143:=Tryz.func267.trans (J2 some (by kernel_rfl))
 f146:=Tryz.func327.trans (J2 some (by kernel_rfl))
 f195:=Tryz.func357.trans (J2 some (by kernel_rfl))
 f197:=Tryz.func307.trans (J2 some (by kernel_rfl))
 f217:=Tryz.func337.trans (J2 some (by kernel_rfl))
 f218:=Tryz.func358.trans (J2 some (by kernel_rfl))
 f219:=Tryz.func303.trans (J2 some (by kernel_rfl))
 f221:=Tryz.func348.trans (J2 some (by kernel_rfl))
 f224:=Tryz.func339.trans (J2 some (by kernel_rfl))
 f225:=Tryz.func338.trans (J2 some (by kernel_rfl))
 f260:=Tryz.func343.trans (J2 some (by kernel_rfl))
 f266:=Tryz.func349.trans (J2 some (by kernel_rfl))
 f267:=Tryz.func340.trans (J2 some (by kernel_rfl))
 f268:=Tryz.func354.trans (J2 some (by kernel_rfl))
 f314:=Tryz.func350.trans (J2 some (by kernel_rfl))
 t0:=Tryz.underlying0
 a0:=Tryz.isAgg0
 z0:=Tryz.sizeOf0
 v0:=Tryz.zeroValue0
 t3:=Tryz.underlying3
 a3:=Tryz.isAgg3
 z3:=Tryz.sizeOf3
 v3:=Tryz.zeroValue3
 t4:=Tryz.underlying4
 a4:=Tryz.isAgg4
 z4:=Tryz.sizeOf4
 v4:=Tryz.zeroValue4
 t5:=Tryz.underlying5
 a5:=Tryz.isAgg5
 z5:=Tryz.sizeOf5
 v5:=Tryz.zeroValue5
 t9:=Tryz.underlying9
 a9:=Tryz.isAgg9
 z9:=Tryz.sizeOf9
 v9:=Tryz.zeroValue9
 t21:=Tryz.underlying21
 a21:=Tryz.isAgg21
 z21:=Tryz.sizeOf21
 v21:=Tryz.zeroValue21
 t31:=Tryz.underlying62
 a31:=Tryz.isAgg62
 z31:=Tryz.sizeOf62
 v31:=Tryz.zeroValue62
 t46:=Tryz.underlying243
 a46:=Tryz.isAgg243
 z46:=Tryz.sizeOf243
 v46:=Tryz.zeroValue243
 t51:=Tryz.underlying259
 a51:=Tryz.isAgg259
 z51:=Tryz.sizeOf259
 v51:=Tryz.zeroValue259
 t105:=Tryz.underlying205
 a105:=Tryz.isAgg205
 z105:=Tryz.sizeOf205
 v105:=Tryz.zeroValue205
 t119:=Tryz.underlying323
 a119:=Tryz.isAgg323
 z119:=Tryz.sizeOf323
 t138:=Tryz.underlying325
 a138:=Tryz.isAgg325
 z138:=Tryz.sizeOf325
 v138:=Tryz.zeroValue325
 t139:=Tryz.underlying326
 a139:=Tryz.isAgg326
 z139:=Tryz.sizeOf326
 v139:=Tryz.zeroValue326
 t146:=Tryz.underlying321
 a146:=Tryz.isAgg321
 z146:=Tryz.sizeOf321
 v146:=Tryz.zeroValue321
 g1:=by kernel_rfl
 g3:=by kernel_rfl
 g4:=by kernel_rfl}
open Go.RowKit Go.Lib in
theorem Tryz.strings_Split(s sep:ByteArray)(m:Int)(w:World)(hs:s.size<4294967281)(hm:w.cell? ⟨0,0,none⟩=some (.int .i64 m))(h1:1≤sep.size):
  Calls Tryz.prog 327 #[.string s,.string sep] w fun e w'=>
   e=.returned (.slice (some ⟨w.heap.size,0,none⟩) (Lib.countB s sep+1) (Lib.countB s sep+1))∧w'=w.alloc (.cells ((Lib.splitB sep 0 (Lib.countB s sep) s).map Value.string).toArray 9):=Any.strings_Split Tryz.lays146 (by kernel_rfl) s sep m w hs hm h1
def Tryz.lays151_ren:Go.Shelf.Ren:=⟨fun|151=>271|152=>304|137=>341|119=>342|224=>339|225=>338|217=>337|266=>349|n=>n,fun|9=>9|21=>21|4=>4|3=>3|5=>5|0=>0|46=>243|n=>n,fun|n=>n⟩
theorem Tryz.lays151:Go.Proofs.Lays.n151 Tryz.prog Tryz.lays151_ren:= {
 mixed:=by kernel_rfl
 f119:=Tryz.func342.trans (J2 some (by kernel_rfl))
 f137:=Tryz.func341.trans (J2 some (by kernel_rfl))
 f151:=Tryz.func271.trans (J2 some (by kernel_rfl))
 f152:=Tryz.func304.trans (J2 some (by kernel_rfl))
 f217:=Tryz.func337.trans (J2 some (by kernel_rfl))
 f224:=Tryz.func339.trans (J2 some (by kernel_rfl))
 f225:=Tryz.func338.trans (J2 some (by kernel_rfl))
 f266:=Tryz.func349.trans (J2 some (by kernel_rfl))
 t0:=Tryz.underlying0
 a0:=Tryz.isAgg0
 z0:=Tryz.sizeOf0
 v0:=Tryz.zeroValue0
 t3:=Tryz.underlying3
 a3:=Tryz.isAgg3
 z3:=Tryz.sizeOf3
 v3:=Tryz.zeroValue3
 t4:=Tryz.underlying4
 a4:=Tryz.isAgg4
 z4:=Tryz.sizeOf4
 v4:=Tryz.zeroValue4
 t5:=Tryz.underlying5
 a5:=Tryz.isAgg5
 z5:=Tryz.sizeOf5
 v5:=Tryz.zeroValue5
 t9:=Tryz.underlying9
 a9:=Tryz.isAgg9
 z9:=Tryz.sizeOf9
 v9:=Tryz.zeroValue9
 t21:=Tryz.underlying21
 a21:=Tryz.isAgg21
 z21:=Tryz.sizeOf21
 v21:=Tryz.zeroValue21
 t46:=Tryz.underlying243
 a46:=Tryz.isAgg243
 z46:=Tryz.sizeOf243
 v46:=Tryz.zeroValue243}
open Go.RowKit Go.Lib in
theorem Tryz.strings_ContainsRune_ascii(s:ByteArray)(r:Int)(w:World)(h0:0≤r)(h1:r<128):
  Calls Tryz.prog 271 #[.string s,.int .i32 r] w fun e w'=>e=.returned (.bool (decide (0≤Lib.indexByte s.data.toList r.toNat.toUInt8)))∧w'=w:=Any.strings_ContainsRune_ascii Tryz.lays151 s r w h0 h1
end Go.Proofs
namespace Go.Av
open Go Go.Proofs Go.RowKit
variable (G:Nat→Option (List AVal))
theorem cf{w w':World}(e:w'=w):Below w.heap.size w w':=by rw[e];exact U5 _ _
theorem nV(w:World)(n:Nat):Below w.heap.size w (w.drewN n):=by
 induction n with
 |zero=>exact U5 _ _
 |succ n ih=>exact ih.trans (Below.drew (U5 _ _))
theorem er(s:Bs)(c:Int)(hs:s.length≤1073741824)(h:Heap):Sat (CT G) 162 [.str s,.int .u8 c] h (fun r h'=>r=.int .i64 (Lib.lastIndexByte ⟨s.toArray⟩ c)∧h'=h):=by
 refine Sat.of_calls (fn:=Tryz.f162) Tryz.func162 (by kernel_rfl) (by kernel_rfl) rfl rfl fun B S μ w f=>?_
 refine(Tryz.strings_LastIndexByte ⟨s.toArray⟩ c (by simp[ByteArray.size];omega) w).mono fun e w' ⟨h1,h2⟩=>⟨h1,cf h2⟩
end Go.Av
namespace Go.Av
open Go Go.Proofs Go.RowKit
variable (G:Nat→Option (List AVal))
def GOk:Prop:=∃m,G 0=some [.int .i64 m]
theorem ir(s:Bs):(⟨s.toArray⟩:ByteArray).size=s.length:=by simp[ByteArray.size]
variable {G}
theorem GOk.cell(hG:GOk G){B:Nat}{S:Addr→Prop}{μ:Map}{h:Heap}{w:World}(f:Fits (CT G) B S μ h w):∃m,w.cell? ⟨0,0,none⟩=some (.int .i64 m):=by
 obtain⟨m,hm⟩:=hG;have r:=f.glob _ _ hm;cases r with
 |ad cs b o vs hne hc hr=>
  have h1:=(hc 0 _ rfl).2.1;have h2:=hr 0 _ rfl;refine⟨m,?_⟩;generalize vs 0=u at h1 h2;cases h2;exact h1
variable (G)
theorem nW{w w':World}(h:∃n,w'=w.drewN n):Below w.heap.size w w':=by obtain⟨n,rfl⟩:=h;exact nV w n
theorem iu(hG:GOk G)(s p:Bs)(hs:s.length≤1073741824)(h:Heap):
  Sat (CT G) 225 [.str s,.str p] h (fun r h'=>r=.tup [.str (Lib.cut s p).1,.str (Lib.cut s p).2.1,.bool (Lib.cut s p).2.2]∧h'=h):=by
 refine Sat.of_calls (fn:=Tryz.f225) Tryz.func225 (by kernel_rfl) (by kernel_rfl) rfl rfl fun B S μ w f=>?_
 obtain⟨m,hm⟩:=hG.cell f;refine(Tryz.strings_Cut ⟨s.toArray⟩ ⟨p.toArray⟩ m w (by rw[ir];omega) hm).mono fun e w' ⟨h1,h2⟩=>⟨h1,nW h2⟩
theorem dm(hG:GOk G)(s p:Bs)(hs:s.length≤1073741824)(h:Heap):
  Sat (CT G) 226 [.str s,.str p] h (fun r h'=>r=.bool (Lib.contains s p)∧h'=h):=by
 refine Sat.of_calls (fn:=Tryz.f226) Tryz.func226 (by kernel_rfl) (by kernel_rfl) rfl rfl fun B S μ w f=>?_
 obtain⟨m,hm⟩:=hG.cell f;refine(Tryz.strings_Contains ⟨s.toArray⟩ ⟨p.toArray⟩ m w (by rw[ir];omega) hm).mono fun e w' ⟨h1,h2⟩=>⟨h1,cf h2⟩
theorem cO(s p:Bs)(h:Heap):
  Sat (CT G) 224 [.str s,.str p] h (fun r h'=>r=.tup [.str (Lib.trimPrefix s p),.bool (Lib.hasPrefix s p)]∧h'=h):=by
 refine Sat.of_calls (fn:=Tryz.f224) Tryz.func224 (by kernel_rfl) (by kernel_rfl) rfl rfl fun B S μ w f=>?_
 refine(Tryz.strings_CutPrefix ⟨s.toArray⟩ ⟨p.toArray⟩ w).mono fun e w' ⟨h1,h2⟩=>⟨h1,cf h2⟩
theorem cP(s p:Bs)(h:Heap):
  Sat (CT G) 125 [.str s,.str p] h (fun r h'=>r=.bool (Lib.hasPrefix s p)∧h'=h):=by
 refine Sat.of_calls (fn:=Tryz.f125) Tryz.func125 (by kernel_rfl) (by kernel_rfl) rfl rfl fun B S μ w f=>?_
 refine(Tryz.strings_HasPrefix ⟨s.toArray⟩ ⟨p.toArray⟩ w).mono fun e w' ⟨h1,h2⟩=>⟨h1,cf h2⟩
theorem dO(s:Bs)(r:Int)(h0:0≤r)(h1:r<128)(h:Heap):
  Sat (CT G) 271 [.str s,.int .i32 r] h (fun x h'=>x=.bool (decide (0≤Lib.indexByte s r.toNat.toUInt8))∧h'=h):=by
 refine Sat.of_calls (fn:=Tryz.f271) Tryz.func271 (by kernel_rfl) (by kernel_rfl) rfl rfl fun B S μ w f=>?_
 refine(Tryz.strings_ContainsRune_ascii ⟨s.toArray⟩ r w h0 h1).mono fun e w' ⟨h1,h2⟩=>⟨h1,cf h2⟩
theorem bj(s:Bs)(c:UInt8)(h:Heap):
  Sat (CT G) 341 [.str s,.int .u8 c.toNat] h (fun x h'=>x=.int .i64 (Lib.indexByte s c)∧h'=h):=by
 refine Sat.of_calls (fn:=Tryz.f341) Tryz.func341 (by kernel_rfl) (by kernel_rfl) rfl rfl fun B S μ w f=>?_
 refine(Tryz.strings_IndexByte ⟨s.toArray⟩ c.toNat w).mono fun e w' ⟨h1,h2⟩=>⟨by simpa using h1,cf h2⟩
end Go.Av
namespace Go.Av
open Go.RowKit
section
variable (C:Ctx)
def loadX(T:TypeId)(x:AVal)(h:Heap):Option AVal:=match x with
 | .ad cs=>pickT C.P T cs
 | .hp p ver i off=>match getRow h p ver with
  |some (_,_,rows)=>match rows[i]? with
   |some r=>pickT C.P T (r.cells.drop off)
   |none=>none
  |none=>none
 |_=>none
def nilX(x:AVal)(h:Heap):Option AVal:=match x with
 | .hp p ver i off=>if (getRow h p ver).isSome=true then some (.hp p ver i off)else none
 | .ad cs=>some (.ad cs)
 | .fn (.func f) a b=>some (.fn (.func f) a b)
 | .ifc T v=>some (.ifc T v)
 |_=>none
def binX(h:Heap)(op:BinOp)(T:TypeId)(x y:AVal):Option AVal:=match x,y with
 | .sl _ [],.nil (.slice none 0 0)=>none
 |x,y=>abin C.P h op T x y
def convX(src dst:TypeId)(x:AVal)(h:Heap):Option AVal:=match x with
 | .hp p ver 0 0=>match getRow h p ver with
  |some (e,n,rows)=>match rows with
   | []=>none
   |_::_=>if ptrConv C.P src dst e n=true then some (.hp p ver 0 0)else none
  |none=>none
 | .hs p v o l r=>if bytesStr C.P src dst=true then match elemsOf h 1 (.hs p v o l r)with
  |some ys=>match bytesA ys with|some bs=>some (.str bs)|none=>none
  |none=>none else none
 | .int k n=>aconv C.P src dst (.int k n)
 | .str s=>aconv C.P src dst (.str s)
 |_=>none
def fieldAX(T:TypeId)(f:Nat)(x:AVal)(h:Heap):Option AVal:=match fOff C.P T f with
 |some (o,_,n)=>if n=0 then none else match x with
  | .hp p ver i off=>if (getRow h p ver).isSome=true then some (.hp p ver i (off+o))else none
  | .ad cs=>if o<cs.length then some (.ad (cs.drop o))else none
  |_=>none
 |none=>none
def fieldX(T:TypeId)(f:Nat)(x:AVal):Option AVal:=match fOff C.P T f with
 |some (o,fT,_)=>match x with
  | .agg cs=>pickT C.P fT (cs.drop o)
  |_=>none
 |none=>none
def indexAX(T:TypeId)(x i:AVal)(h:Heap):Option AVal:=match i with
 | .int _ n=>if 0≤n then match x with
  | .sl m es=>match elmT C.P T with
   |some e=>if szOf C.P e=some m∧0<m then match es[n.toNat]? with
    |some r=>some (.ad r.cells)
    |none=>none else none
   |none=>none
  | .hs p ver off len _=>match elmT C.P T,getRow h p ver with
   |some e,some (_,m,_)=>if szOf C.P e=some m∧n<len then some (.hp p ver (off+n.toNat) 0)else none
   |_,_=>none
  | .hp p ver j off=>match arrT C.P T with
   |some (k,e)=>match szOf C.P e with
    |some m=>if (getRow h p ver).isSome=true∧n<k then some (.hp p ver j (off+n.toNat*m))else none
    |none=>none
   |none=>none
  | .ad cs=>match arrT C.P T with
   |some (k,e)=>match szOf C.P e with
    |some m=>if n<k∧n.toNat*m<cs.length then some (.ad (cs.drop (n.toNat*m)))else none
    |none=>none
   |none=>none
  |_=>none else none
 |_=>none
def indexX(T:TypeId)(x i:AVal):Option AVal:=match i with
 | .int _ n=>if 0≤n then match x with
  | .str s=>if strT C.P T=true then match s[n.toNat]? with
   |some b=>some (.int .u8 b.toNat)
   |none=>none else none
  | .agg cs=>match arrT C.P T with
   |some (k,e)=>match szOf C.P e with
    |some m=>if n<k then pickT C.P e (cs.drop (n.toNat*m))else none
    |none=>none
   |none=>none
  |_=>none else none
 |_=>none
def buildX(T:TypeId)(parts:List (Nat×AVal)):Option AVal:=match zroT C.P T with
 |some z=>if z.cells.all AVal.sto=true then match nFld C.P T with
  |some _=>match fillA (fun i=>(fOff C.P T i).map fun q=>(q.1,q.2.2)) z.cells parts with
   |some cs=>some (.agg cs)
   |none=>none
  |none=>match arrT C.P T with
   |some (_,e)=>match szOf C.P e with
    |some n=>match fillA (fun i=>some (i*n,n)) z.cells parts with
     |some cs=>some (.agg cs)
     |none=>none
    |none=>none
   |none=>none else none
 |none=>none
def callPX(c:Call)(ρ:Operand→AVal)(h:Heap):Option AVal:=match c.callee with
 | .builtin .len=>match c.args.toList,c.argTypes.toList with
  | [x],[T]=>match alen C.P h T (ρ x)with|some n=>some (.int .i64 n)|none=>none
  |_,_=>none
 | .builtin .max=>match c.args.toList with
  | [x,y]=>match ρ x,ρ y with| .int kd a,.int _ b=>some (.int kd (if b>a then b else a))|_,_=>none
  |_=>none
 | .builtin .min=>match c.args.toList with
  | [x,y]=>match ρ x,ρ y with| .int kd a,.int _ b=>some (.int kd (if b<a then b else a))|_,_=>none
  |_=>none
 | .builtin .unsafeSliceData=>match c.args.toList with
  | [x]=>match ρ x with
   | .hs p ver 0 len true=>if (getRow h p ver).isSome=true then(if 0<len then some (.hp p ver 0 0)else some .pa)else none
   | .nil (.slice none 0 0)=>some .pa
   |_=>none
  |_=>none
 |_=>none
def pureX(o:Op)(t:Env)(h:Heap):Option AVal:=
 let ρ:=aev C.G t
 match o with
 | .move x=>some (ρ x)
 | .assign x=>some (ρ x)
 | .pick c a b=>match ρ c with| .bool true=>some (ρ a)| .bool false=>some (ρ b)|_=>none
 | .load T x=>loadX C T (ρ x) h
 | .nilCheck x=>nilX (ρ x) h
 | .binOp op T x y _=>binX C h op T (ρ x) (ρ y)
 | .unOp op _ x=>aun op (ρ x)
 | .convert s d x=>convX C s d (ρ x) h
 | .makeInterface T x=>if ifcT C.P T=some false then some (.ifc T (ρ x))else none
 | .makeFunc f first captured=>some (.fn f (first.toList.map ρ) (captured.toList.map ρ))
 | .slice T x lo hi mx=>aslice C.P h T (ρ x) (lo.map ρ) (hi.map ρ) (mx.map ρ)
 | .fieldAddr T x f=>fieldAX C T f (ρ x) h
 | .field T x f=>fieldX C T f (ρ x)
 | .indexAddr T x i=>indexAX C T (ρ x) (ρ i) h
 | .index T x i=>indexX C T (ρ x) (ρ i)
 | .extract x i=>match ρ x with| .tup vs=>vs[i]? |_=>none
 | .build T parts=>buildX C T (parts.toList.map fun q=>(q.1,ρ q.2))
 | .call c=>callPX C c ρ h
 |_=>none
variable {C} {t:Env} {h:Heap}
theorem au{α:Type}{x:Option α}{a:α}{f:α→Prop}(e:x=some a)(h:f a):need x f:=by rw[e];exact h
theorem tW{T:TypeId}{x v:AVal}(g:loadX C T x h=some v){k:AVal→Prop}(hk:k v):loadK C T x h k:=by
 unfold loadX at g;unfold loadK;split at g
 ·exact au g hk
 ·split at g
  ·rename_i hq;split at g
   ·rename_i hr;exact au hq (au hr (au g hk))
   ·cases g
  ·cases g
 ·cases g
theorem vJ{op:BinOp}{T:TypeId}{x y v:AVal}(g:binX C h op T x y=some v){k:AVal→Prop}(hk:k v):binK C.P h op T x y k:=by
 unfold binX at g;split at g
 ·cases g
 ·rename_i hne;rw[dv fun n e1 e2=>hne n e1 e2];exact au g hk
theorem tX{s d:TypeId}{x v:AVal}(g:convX C s d x h=some v){k:AVal→Prop}(hk:k v):convK C.P s d x h k:=by
 unfold convX at g;split at g
 ·split at g
  ·rename_i hq;split at g
   ·cases g
   ·split at g
    ·rename_i hp;cases g;exact au hq ⟨hp,by simp,hk⟩
    ·cases g
  ·cases g
 ·split at g
  ·rename_i hb;split at g
   ·rename_i hy;split at g
    ·rename_i hz;cases g;exact⟨hb,au hy (au hz hk)⟩
    ·cases g
   ·cases g
  ·cases g
 ·exact au g hk
 ·exact au g hk
 ·cases g
theorem mA{o:Op}{v:AVal}(g:pureX C o t h=some v){K:AVal→Heap→Prop}(hk:K v h):wpOp C o t h K:=by
 cases o with
 |move x=>simp only[pureX,I0]at g;subst g;exact hk
 |assign x=>simp only[pureX,I0]at g;subst g;exact hk
 |pick c a b=>
  simp only[pureX]at g;unfold wpOp;simp only[];split at g
  ·rename_i e;cases g;rw[e];exact And.intro (fun _=>hk) (fun e=>Bool.noConfusion e)
  ·rename_i e;cases g;rw[e];exact And.intro (fun e=>Bool.noConfusion e) (fun _=>hk)
  ·cases g
 |load T x=>
  have:=tW (k:=fun v=>K v h) g hk;unfold loadK at this;unfold wpOp;simp only[];exact this
 |nilCheck x=>
  simp only[pureX,nilX]at g;unfold wpOp;simp only[];split at g
  ·rename_i e;rw[e];split at g
   ·rename_i e2;cases g;exact⟨e2,hk⟩
   ·cases g
  ·rename_i e;rw[e];cases g;exact hk
  ·rename_i e;rw[e];cases g;exact hk
  ·rename_i e;rw[e];cases g;exact hk
  ·cases g
 |binOp op T x y _=>exact vJ (k:=fun v=>K v h) g hk
 |unOp op _ x=>exact au g hk
 |convert s d x=>exact tX (k:=fun v=>K v h) g hk
 |makeInterface T x=>
  simp only[pureX]at g;split at g
  ·rename_i e;cases g;exact⟨e,hk⟩
  ·cases g
 |makeFunc f a b=>simp only[pureX,I0]at g;subst g;exact hk
 |slice T x lo hi mx=>exact au g hk
 |fieldAddr T x f=>
  simp only[pureX,fieldAX]at g;unfold wpOp;simp only[];split at g
  ·rename_i e;split at g
   ·cases g
   ·rename_i hn;refine au e ⟨hn,?_⟩;split at g
    ·rename_i e;rw[e];split at g
     ·rename_i e2;cases g;exact⟨e2,hk⟩
     ·cases g
    ·rename_i e;rw[e];split at g
     ·rename_i e2;cases g;exact⟨e2,hk⟩
     ·cases g
    ·cases g
  ·cases g
 |field T x f=>
  simp only[pureX,fieldX]at g;unfold wpOp;simp only[];split at g
  ·rename_i e;refine au e ?_;split at g
   ·rename_i e;rw[e];exact au g hk
   ·cases g
  ·cases g
 |indexAddr T x i=>
  simp only[pureX,indexAX]at g;unfold wpOp;simp only[];split at g
  ·rename_i ei;rw[ei];simp only[];split at g
   ·rename_i h0;split at g
    ·rename_i e;rw[e];simp only[];split at g
     ·rename_i he;split at g
      ·rename_i hs;split at g
       ·rename_i hr;cases g;exact au he ⟨hs.1,h0,hs.2,au hr hk⟩
       ·cases g
      ·cases g
     ·cases g
    ·rename_i e;rw[e];simp only[];split at g
     ·rename_i he hr;split at g
      ·rename_i hs;cases g;exact au he (au hr ⟨hs.1,h0,hs.2,hk⟩)
      ·cases g
     ·cases g
    ·rename_i e;rw[e];simp only[];split at g
     ·rename_i he;split at g
      ·rename_i hs;split at g
       ·rename_i hc;cases g;exact au he (au hs ⟨hc.1,h0,hc.2,hk⟩)
       ·cases g
      ·cases g
     ·cases g
    ·rename_i e;rw[e];simp only[];split at g
     ·rename_i he;split at g
      ·rename_i hs;split at g
       ·rename_i hc;cases g;exact au he (au hs ⟨h0,hc.1,hc.2,hk⟩)
       ·cases g
      ·cases g
     ·cases g
    ·cases g
   ·cases g
  ·cases g
 |index T x i=>
  simp only[pureX,indexX]at g;unfold wpOp;simp only[];split at g
  ·rename_i ei;rw[ei];simp only[];split at g
   ·rename_i h0;split at g
    ·rename_i e;rw[e];simp only[];split at g
     ·rename_i he;split at g
      ·rename_i hr;cases g;exact⟨he,h0,au hr hk⟩
      ·cases g
     ·cases g
    ·rename_i e;rw[e];simp only[];split at g
     ·rename_i he;split at g
      ·rename_i hs;split at g
       ·rename_i hc;exact au he (au hs ⟨h0,hc,au g hk⟩)
       ·cases g
      ·cases g
     ·cases g
    ·cases g
   ·cases g
  ·cases g
 |extract x i=>
  simp only[pureX]at g;unfold wpOp;simp only[];split at g
  ·rename_i e;rw[e];exact au g hk
  ·cases g
 |build T parts=>
  simp only[pureX,buildX]at g;unfold wpOp;simp only[];split at g
  ·rename_i hz;split at g
   ·rename_i ha;refine au hz ⟨ha,?_⟩;split at g
    ·rename_i hn;rw[hn];simp only[];split at g
     ·rename_i hf;cases g;exact au hf hk
     ·cases g
    ·rename_i hn;rw[hn];split at g
     ·rename_i hr;rw[hr];simp only[];split at g
      ·rename_i hs;split at g
       ·rename_i hf;cases g;exact au hs (au hf hk)
       ·cases g
      ·cases g
     ·cases g
   ·cases g
  ·cases g
 |call c=>
  simp only[pureX,callPX]at g;unfold wpOp;simp only[];unfold wpCall;simp only[];split at g
  ·rename_i hc;rw[hc];simp only[];split at g
   ·rename_i h1 h2;rw[h1,h2];simp only[];split at g
    ·rename_i hn;cases g;exact au hn hk
    ·cases g
   ·cases g
  ·rename_i hc;rw[hc];simp only[];split at g
   ·rename_i h1;rw[h1];simp only[];split at g
    ·rename_i e1 e2;cases g;rw[e1,e2];unfold maxK;simp only[H2];exact hk
    ·cases g
   ·cases g
  ·rename_i hc;rw[hc];simp only[];split at g
   ·rename_i h1;rw[h1];simp only[];split at g
    ·rename_i e1 e2;cases g;rw[e1,e2];unfold maxK;simp only[H2];exact hk
    ·cases g
   ·cases g
  ·rename_i hc;rw[hc];simp only[];split at g
   ·rename_i h1;rw[h1];simp only[];split at g
    ·rename_i e1;rw[e1];unfold sdataK;simp only[];split at g
     ·rename_i hs;refine⟨hs,?_⟩;split at g
      ·rename_i hl;cases g;rw[G3 hl];exact hk
      ·rename_i hl;cases g;rw[G0 hl];exact hk
     ·cases g
    ·rename_i e1;rw[e1];cases g;exact hk
    ·cases g
   ·cases g
  ·cases g
 |_=>cases g
end
abbrev CallX:=FuncId→List AVal→Heap→Option (AVal×Heap)
section
variable (C:Ctx)
def roomyB(n bytes:Nat):Bool:=decide (n≤maxLen)&&decide (n*bytes≤140737488355328)
def appX(T:TypeId)(x y:AVal)(h:Heap):Option (AVal×Heap):=match elmT C.P T with
 |none=>none
 |some e=>match szOf C.P e with
  |none=>none
  |some n=>match byT C.P e with
   |none=>none
   |some by'=>match elemsOf h n y with
    |none=>none
    |some ys=>if 0<n∧(zroT C.P e).map (fun z=>z.cells.length)=some n then match x with
     | .nil (.slice none 0 0)=>if roomyB ys.length by'=true then some (.hs h.length 0 0 ys.length true,h++[.row e n 0 ys])else none
     | .hs p ver off len room=>match getRow h p ver with
      |some (e',m,rows)=>if e'=e∧m=n∧off=0∧roomyB (len+ys.length) by'=true then
        (if room=true then(if len=rows.length then some (.hs p (ver+1) 0 (len+ys.length) true,h.set p (.row e n (ver+1) (rows++ys)))else none)
        else(if 0<ys.length∧len≤rows.length then some (.hs h.length 0 0 (len+ys.length) true,h++[.row e n 0 (rows.take len++ys)])else none))else none
      |none=>none
     | .ez=>if ys=[]then some (.ez,h)else if roomyB ys.length by'=true then some (.hs h.length 0 0 ys.length true,h++[.row e n 0 ys])else none
     |_=>none else none
def ustrX(T:TypeId)(x n:AVal)(h:Heap):Option (AVal×Heap):=match n with
 | .int .i64 m=>if m=0 then(match x with| .pa=>some (.str [],h)|_=>none)
  else match x with
   | .hp p ver 0 0=>match getRow h p ver with
    |some (e,k,rows)=>if k=1∧bptr C.P T e=true∧0<m∧m.toNat≤rows.length then match bytesA (rows.take m.toNat)with
     |some bs=>some (.str bs,h.set p .dead)
     |none=>none else none
    |none=>none
   |_=>none
 |_=>none
def rowsX(T len:Nat)(idx:List Nat)(xs:List AVal)(h:Heap):Option (AVal×Heap):=match elmT C.P T with
 |none=>none
 |some e=>match szOf C.P e with
  |none=>none
  |some n=>if len=0 then(if idx.length=0 then some (.ez,h)else none)
   else if idx.length=len∧0<n∧len*n≤16777216∧idx=List.range len∧(zroT C.P e).map (fun z=>(z.cells.length,z.cells.all AVal.sto))=some (n,true)∧
    xs.all (fun x=>decide (x.cells.length=n)&&x.lies)=true then some (.hs h.length 0 0 len true,h++[.row e n 0 xs])else none
def storeX(T:TypeId)(x y:AVal)(h:Heap):Option (AVal×Heap):=match x with
 | .hp p ver i off=>match getRow h p ver with
  |some (e,n,rows)=>match rows[i]? with
   |some r=>if szOf C.P T=some y.cells.length∧y.lies=true∧off+y.cells.length≤n then some (undefA,h.set p (.row e n ver (rows.set i (putA r off y.cells))))else none
   |none=>none
  |none=>none
 |_=>none
def nextX(x:AVal)(isS:Bool)(h:Heap):Option (AVal×Heap):=match x with
 | .hp p 0 0 0=>if isS=true then match h[p]? with
  |some (.iter s pos)=>if pos<s.length then some (.tup [.bool true,.int .i64 pos,.int .i32 (Utf8.decode ⟨s.toArray⟩ pos).1],h.set p (.iter s (pos+(Utf8.decode ⟨s.toArray⟩ pos).2)))else some (.tup [.bool false],h)
  |_=>none else none
 |_=>none
def opX(call:CallX)(o:Op)(t:Env)(h:Heap):Option (AVal×Heap):=
 match pureX C o t h with
 |some v=>some (v,h)
 |none=>
 let ρ:=aev C.G t
 match o with
 | .alloc e=>match zroT C.P e with
  |some z=>if 0<z.cells.length∧z.cells.all AVal.sto=true∧z.lies=true then some (.hp h.length 0 0 0,h++[.row e z.cells.length 0 [z]])else none
  |none=>none
 | .box e x=>if 0<(ρ x).cells.length∧(ρ x).lies=true then some (.hp h.length 0 0 0,h++[.row e (ρ x).cells.length 0 [ρ x]])else none
 | .buildSlice T len parts=>rowsX C T len (parts.toList.map (·.1)) (parts.toList.map fun q=>ρ q.2) h
 | .store T x y=>storeX C T (ρ x) (ρ y) h
 | .range T x=>match ρ x with
  | .str s=>if strT C.P T=true then some (.hp h.length 0 0 0,h++[.iter s 0])else none
  |_=>none
 | .next x b=>nextX (ρ x) b h
 | .call c=>match c.callee with
  | .builtin .append=>match c.args.toList,c.argTypes.toList with
   | [x,y],[T,T']=>if T'=T∨strT C.P T'=true then appX C T (ρ x) (ρ y) h else none
   |_,_=>none
  | .builtin .unsafeString=>match c.args.toList,c.argTypes.toList with
   | [x,n],[T,_]=>ustrX C T (ρ x) (ρ n) h
   |_,_=>none
  | .value f=>match ρ f with
   | .fn (.func g) first captured=>call g (first++c.args.toList.map ρ++captured) h
   |_=>none
  |_=>none
 |_=>none
variable {C} {t:Env} {h h':Heap} {call:CallX}
theorem hJ{n b:Nat}(g:roomyB n b=true):roomy n b:=by
 simpa [roomyB,roomy]using g
theorem vK{T:TypeId}{x y v:AVal}(g:appX C T x y h=some (v,h')){K:AVal→Heap→Prop}(hk:K v h'):wpAppend C.P T x y h K:=by
 unfold appX at g;unfold wpAppend;split at g
 ·cases g
 ·rename_i e he;refine au he ?_;split at g
  ·cases g
  ·rename_i n hn;refine au hn ?_;split at g
   ·cases g
   ·rename_i b hb;refine au hb ?_;split at g
    ·cases g
    ·rename_i ys hy;refine au hy ?_;split at g
     ·rename_i hc;refine⟨hc.1,hc.2,?_⟩;split at g
      ·simp only[];split at g
       ·rename_i hr;cases g;exact⟨hJ hr,hk⟩
       ·cases g
      ·simp only[];split at g
       ·rename_i hq;refine au hq ?_;split at g
        ·rename_i hs;refine⟨hs.1,hs.2.1,hs.2.2.1,hJ hs.2.2.2,?_⟩;split at g
         ·rename_i hr;rw[G3 hr];split at g
          ·rename_i hl;cases g;exact⟨hl,hk⟩
          ·cases g
         ·rename_i hr;rw[G0 hr];split at g
          ·rename_i hl;cases g;exact⟨hl.1,hl.2,hk⟩
          ·cases g
        ·cases g
       ·cases g
      ·simp only[];split at g
       ·rename_i hz;rw[G3 hz];cases g;exact hk
       ·rename_i hz;rw[G0 hz];split at g
        ·rename_i hr;cases g;exact⟨hJ hr,hk⟩
        ·cases g
      ·cases g
     ·cases g
theorem tY{T:TypeId}{x y v:AVal}(g:ustrX C T x y h=some (v,h')){K:AVal→Heap→Prop}(hk:K v h'):ustrK C.P T x y h K:=by
 unfold ustrX at g;unfold ustrK;split at g
 ·simp only[];split at g
  ·rename_i hm;rw[G3 hm];split at g
   ·cases g;exact hk
   ·cases g
  ·rename_i hm;rw[G0 hm];split at g
   ·simp only[];split at g
    ·rename_i hq;refine au hq ?_;split at g
     ·rename_i hs;split at g
      ·rename_i hb;cases g;exact⟨hs.1,hs.2.1,hs.2.2.1,hs.2.2.2,au hb hk⟩
      ·cases g
     ·cases g
    ·cases g
   ·cases g
 ·cases g
theorem jw(hcall:∀f args h r h',call f args h=some (r,h')→Sat C f args h fun r2 h2=>r2=r∧h2=h'){o:Op}{v:AVal}(g:opX C call o t h=some (v,h')){K:AVal→Heap→Prop}(hk:K v h'):wpOp C o t h K:=by
 unfold opX at g;split at g
 ·rename_i hp;cases g;exact mA hp hk
 ·rename_i hp;clear hp;cases o with
  |alloc e=>
   simp only[]at g;unfold wpOp;simp only[];split at g
   ·rename_i hz;split at g
    ·rename_i hs;cases g;exact au hz ⟨hs.1,hs.2.1,hs.2.2,hk⟩
    ·cases g
   ·cases g
  |box e x=>
   simp only[]at g;unfold wpOp;simp only[];split at g
   ·rename_i hs;cases g;exact⟨hs.1,hs.2,hk⟩
   ·cases g
  |buildSlice T len parts=>
   simp only[rowsX]at g;unfold wpOp;simp only[];split at g
   ·cases g
   ·rename_i he;refine au he ?_;split at g
    ·cases g
    ·rename_i hn;refine au hn ?_;split at g
     ·rename_i h0;rw[G3 h0];split at g
      ·rename_i hp;cases g;exact⟨by simpa using hp,hk⟩
      ·cases g
     ·rename_i h0;rw[G0 h0];split at g
      ·rename_i hs;cases g;obtain⟨s1,s2,s3,s4,s5,s6⟩:=hs;refine⟨by simpa using s1,by omega,s2,s3,s4,s5,fun x hx=>?_,.inl hk⟩;simpa using I1.1 s6 x hx
      ·cases g
  |store T x y=>
   simp only[storeX]at g;unfold wpOp;simp only[];split at g
   ·rename_i e;rw[e];simp only[];split at g
    ·rename_i hq;refine au hq ?_;split at g
     ·rename_i hr;refine au hr ?_;split at g
      ·rename_i hs;cases g;exact⟨hs.1,hs.2.1,hs.2.2,hk⟩
      ·cases g
     ·cases g
    ·cases g
   ·cases g
  |range T x=>
   simp only[]at g;unfold wpOp;simp only[];split at g
   ·rename_i e;rw[e];simp only[];split at g
    ·rename_i hs;cases g;exact⟨hs,hk⟩
    ·cases g
   ·cases g
  |next x b=>
   simp only[nextX]at g;unfold wpOp;simp only[];split at g
   ·rename_i e;rw[e];simp only[];split at g
    ·rename_i hb;subst hb;simp only[];split at g
     ·rename_i hi;rw[hi];simp only[];split at g
      ·rename_i hl;cases g;exact⟨fun _=>hk,fun hn=>absurd hl hn⟩
      ·rename_i hl;cases g;exact⟨fun hn=>absurd hn hl,fun _=>hk⟩
     ·cases g
    ·cases g
   ·cases g
  |call c=>
   simp only[]at g;unfold wpOp;simp only[];unfold wpCall;simp only[];split at g
   ·rename_i hc;rw[hc];simp only[];split at g
    ·rename_i h1 h2;rw[h1,h2];simp only[];split at g
     ·rename_i hT;exact⟨hT,vK g hk⟩
     ·cases g
    ·cases g
   ·rename_i hc;rw[hc];simp only[];split at g
    ·rename_i h1 h2;rw[h1,h2];simp only[];exact tY g hk
    ·cases g
   ·rename_i hc;rw[hc];split at g
    ·rename_i e;show callK _ _ _ _ _;rw[e];exact(hcall _ _ _ _ _ g).mono fun r2 h2 ⟨e1,e2⟩=>by rw[e1,e2];exact hk
    ·cases g
   ·cases g
  |_=>cases g
end
end Go.Av
theorem S7:type_of% @Go.Av.Weak.virtCell:=@Go.Av.Weak.virtCell
theorem V0:type_of% @Go.Av.Tok.sz_pos:=@Go.Av.Tok.sz_pos
theorem V3:type_of% @Go.Av.Fin.plainE:=@Go.Av.Fin.plainE
theorem V4:type_of% @Go.Av.Weak.virt:=@Go.Av.Weak.virt
theorem V5:type_of% @Go.Av.Elem.sz_eq:=@Go.Av.Elem.sz_eq
