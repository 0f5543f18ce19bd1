/- Parts. -/
import Derived.Test.YtnolelibaahimaaGreatDoorQAv21
import Derived.Laws.Externs
import Derived.Test.YtnolelibaahimaaGreatDoorQAv9
import Derived.Test.YtnolelibaahimaaGreatDoorProg
import Derived.KernelRfl
import Derived.Test.YtnolelibaahimaaGreatDoorRows
import Derived.ChangeSame
import Derived.RowKit
import Derived.ReadAgain
import Derived.ChangeArms
import Derived.Clock
import Derived.Deep.Slices
import Derived.Lib.Builder
import Derived.Shelf.Strings.Builder1
import Derived.Shelf.Strings.Trim
import Derived.Shelf.Small.Utf8
import Derived.Shelf.Small.Bits
import Derived.Shelf.Small.Strs
import Derived.Shelf.Small.Wraps
import Derived.Shelf.Strings.BuilderF
import Derived.Shelf.Strings.BuilderK
import Derived.Shelf.Utf8.AppendRunePlain
import Derived.Shelf.Strconv.Itoa0
import Derived.Shelf.Strings.Search1
import Derived.Shelf.Strings.Search2
import Derived.Shelf.Strings.Search3
import Derived.Shelf.Strings.Cut
import Derived.Shelf.LaysM
import Derived.Shelf.Strings.Shaped
import Derived.Shelf.Strings.LastIndex
import Derived.Shelf.Strings.Prefix
import Derived.Shelf.Strings.Runes
import Derived.Shelf.Strings.AsciiSet
import Derived.Shelf.Unicode.DecodeSlow
import Derived.Shelf.Strings.FieldsFuncAny
import Derived.Ground.Names2Prog
import Derived.Shelf.Slices.Clone
import Derived.Shelf.Slices.SearchI
import Derived.Shelf.Slices.Delete
import Derived.Shelf.Slices.Empties
import Derived.Ground.SlgmProg
import Derived.Shelf.SortM.Plain
import Derived.Shelf.SortM.SortNone
set_option linter.unusedSimpArgs false
set_option linter.unusedVariables false
set_option linter.unusedSectionVars false
set_option linter.unnecessarySimpa false
set_option maxRecDepth 100000
set_option maxHeartbeats 16000000
namespace Go.Av
open Go.RowKit
section
variable {C:Ctx}
def Agr(ms:List Nat)(s t:Env):Prop:=∀i,i ∉ ms→s i=t i
theorem Agr.put{ms:List Nat}{s t:Env}{d:Option Nat}{v:AVal}(g:Agr ms s t)(hd:∀x,d=some x→x∈ms):Agr ms (put s d v) t:=by
 intro i hi;cases d with
 |none=>exact g i hi
 |some x=>
  have:i≠x:=fun e=>hi (e▸hd x rfl)
  simp only[Av.put,upd];rw[I0 this];exact g i hi
theorem bD{ops:Array Oper}{o:Oper}{t:Env}{h:Heap}{K K':AVal→Heap→Prop}(g:wpOperV C ops o t h K)(k:∀v h',K v h'→K' v h'):wpOperV C ops o t h K':=by
 unfold wpOperV at*;split at g
 ·exact dM k g
 ·split at g
  ·exact⟨fun e=>dM k (g.1 e),fun e=>k _ _ (g.2 e)⟩
  ·exact g.elim
theorem kV{ops:Array Oper}{ms:List Nat}{t0:Env}{Q Q':Exit→Env→Heap→Prop}(k:∀e t h,Q e t h→Agr ms t t0→Q' e t h):
  ∀(l:List Oper) (t:Env) (h:Heap),(∀x∈wrOps l,x∈ms)→Agr ms t t0→WPl C ops Q l t h→WPl C ops Q' l t h
 | [],t,h,_,a,g=>k _ _ _ g a
 |o::rest,t,h,hm,a,g=>by
  unfold WPl at g ⊢;rw[dg]at g ⊢;refine bD g fun v h' g'=>kV k rest _ h' (fun x hx=>hm x ?_) (a.put fun x hx=>hm x ?_) g'
  ·unfold wrOps;split<;>simp[hx]
  ·unfold wrOps;simp[hx]
theorem kW{o:Oper}{x:Nat}(hx:o.dst=some x):∀(l:List Oper),o∈l→x∈wrOps l
 |o'::rest,hm=>by
  unfold wrOps;rcases K4.1 hm with rfl|hm
  ·rw[hx];simp
  ·split<;>simp[kW hx rest hm]
theorem ga{ops:Array Oper}{ms:List Nat}{t0:Env}{Q Q':Exit→Env→Heap→Prop}(k:∀e t h,Q e t h→Agr ms t t0→Q' e t h)(hm:∀x∈wrOps ops.toList,x∈ms):
  ∀(l:List Nat) (t:Env) (h:Heap),Agr ms t t0→WPix C ops Q l t h→WPix C ops Q' l t h
 | [],t,h,a,g=>k _ _ _ g a
 |i::rest,t,h,a,g=>by
  unfold WPix at g ⊢;cases hi:ops[i]? with
  |none=>rw[hi]at g;exact ga k hm rest t h a g
  |some o=>
   rw[hi]at g;simp only[]at g ⊢;rw[dg]at g ⊢;exact bD g fun v h' g'=>ga k hm rest _ h' (a.put fun x hx=>hm x (kW hx _ (by simpa using S8 hi))) g'
theorem tE{ms:List Nat}{t0:Env}:∀(c:Code) {Q Q':Exit→Env→Heap→Prop},(∀e t h,Q e t h→Agr ms t t0→Q' e t h)→
  ∀(t:Env) (h:Heap),(∀x∈wr c,x∈ms)→Agr ms t t0→WP C c Q t h→WP C c Q' t h:=by
 intro c;induction c with
 |skip=>intro Q Q' k t h _ a g;exact k _ _ _ g a
 |label l=>intro Q Q' k t h _ a g;exact k _ _ _ g a
 |exit id=>intro Q Q' k t h _ a g;exact k _ _ _ g a
 |ret=>intro Q Q' k t h _ a g;exact k _ _ _ g a
 |region id ops draw=>
  intro Q Q' k t h hm a g;cases draw with
  |false=>exact kV k _ t h hm a g
  |true=>exact fun tp=>ga k hm _ t h a (g tp)
 |seq x y ihx ihy=>
  intro Q Q' k t h hm a g;refine ihx (Q:=thenQ (fun t h=>Wkn C (wr x) t h fun t h=>WP C y Q t h) Q) (fun e t' h' g' a'=>?_) t h (fun i hi=>hm i (by simp[wr,hi])) a g;cases e with
  |normal=>
   obtain⟨t1,h1,hw,g'⟩:=g';exact⟨t1,h1,hw,ihy k t1 h1 (fun i hi=>hm i (by simp[wr,hi])) (fun i hi=>(hw.1 i fun e=>hi (hm i (by simp[wr,e]))).trans (a' i hi)) g'⟩
  |_=>exact k _ _ _ g' a'
 |cond c x y ihx ihy=>
  intro Q Q' k t h hm a g;simp only[WP]at g ⊢;split at g
  ·exact⟨fun e=>ihx k t h (fun i hi=>hm i (by simp[wr,hi])) a (g.1 e),fun e=>ihy k t h (fun i hi=>hm i (by simp[wr,hi])) a (g.2 e)⟩
  ·exact g.elim
 |block id x ih=>
  intro Q Q' k t h hm a g;refine ih (Q:=blockQ id Q) (fun e t' h' g' a'=>?_) t h hm a g;cases e with
  |exit id'=>
   simp only[blockQ]at g' ⊢;split at g'
   ·rename_i e;rw[I7 e];exact k _ _ _ g' a'
   ·rename_i e;rw[I0 e];exact k _ _ _ g' a'
  |_=>exact k _ _ _ g' a'
 |loop x ih=>
  intro Q Q' k t h hm a g;obtain⟨I,n,⟨t1,h1,hw,h0⟩,round⟩:=g;have wk:∀t h t1 h1,Weak C (wr x) t h t1 h1→Agr ms t t0→Agr ms t1 t0:=fun t h t1 h1 hw a i hi=>(hw.1 i fun e=>hi (hm i e)).trans (a i hi)
  refine⟨fun n t h=>I n t h∧Agr ms t t0,n,⟨t1,h1,hw,h0,wk _ _ _ _ hw a⟩,fun n' t' h' hI=>?_⟩;refine ih (Q:=thenQ (fun t2 h2=>∃m,m<n'∧Wkn C (wr x) t2 h2 (I m)) Q) (fun e t2 h2 g' a'=>?_) t' h' hm hI.2 (round n' t' h' hI.1);cases e with
  |normal=>obtain⟨m,h1,t3,h3,hw3,h2⟩:=g';exact⟨m,h1,t3,h3,hw3,h2,wk _ _ _ _ hw3 a'⟩
  |_=>exact k _ _ _ g' a'
 |rangeFunc f ps a0 b _ _=>intro Q Q' k t h _ a g;exact g.elim
 |scope x ih=>
  intro Q Q' k t h hm a g;refine ih (Q:=noG Q) (fun e t' h' g' a'=>?_) t h hm a g;cases e with
  |goto l=>exact g'.elim
  |_=>exact k _ _ _ g' a'
 |goto l=>intro Q Q' k t h _ a g;exact g.elim
 |refuse s=>intro Q Q' k t h _ a g;exact g.elim
def mix:List Nat→Env→Env→Env
 | [],_,t=>t
 |a::ms,s,t=>upd (mix ms s t) a (s a)
@[go_sem] theorem ao(s t:Env)(i:Nat):mix [] s t i=t i:=(rfl)
@[go_sem] theorem ah(a:Nat)(ms:List Nat)(s t:Env)(i:Nat):mix (a::ms) s t i=if i=a then s a else mix ms s t i:=(rfl)
theorem xc{ms:List Nat}{s t:Env}{i:Nat}(h:i∈ms):mix ms s t i=s i:=by
 induction ms with
 |nil=>cases h
 |cons a ms ih=>
  rw[ah];split
  ·rename_i e;rw[e]
  ·rename_i e;rcases K4.1 h with h|h
   ·exact absurd h e
   ·exact ih h
theorem vD{ms:List Nat}{s t:Env}{i:Nat}(h:i ∉ ms):mix ms s t i=t i:=by
 induction ms with
 |nil=>rfl
 |cons a ms ih=>
  rw[ah];simp only[K4,not_or]at h;rw[I0 h.1];exact ih h.2
theorem Agr.mix{ms:List Nat}{s t:Env}(g:Agr ms s t):s=mix ms s t:=by
 funext i
 by_cases h:i∈ms
 ·rw[xc h]
 ·rw[vD h];exact g i h
theorem tF{c:Code}{ms:List Nat}{Q:Exit→Env→Heap→Prop}{t:Env}{h:Heap}(hms:wr c=ms)(I:Nat→Env→Heap→Prop)(n:Nat)(h0:Wkn C ms t h (I n))
  (round:∀(n':Nat) (s:Env) (h':Heap),I n' (mix ms s t) h'→∀K:Env→Heap→Prop,(∀m t2 h2,Wkn C ms t2 h2 (I m)→m<n'→K t2 h2)→WP C c (thenQ K Q) (mix ms s t) h'):WP C (.loop c) Q t h:=by
 subst hms;obtain⟨t1,h1,hw,h0⟩:=h0;refine⟨fun n t' h'=>I n t' h'∧Agr (wr c) t' t,n,⟨t1,h1,hw,h0,hw.1⟩,fun n' t' h' hI=>?_⟩;obtain⟨hI,ha⟩:=hI;have e:=ha.mix;have h1:=round n' t' h' (by rw[← e];exact hI) (fun t2 h2=>∃m,m<n'∧Wkn C (wr c) t2 h2 (I m)) (fun m t2 h2 hm hi=>⟨m,hi,hm⟩);rw[← e]at h1;refine tE (ms:=wr c) (t0:=t) c (fun e t2 h2 g' a'=>?_) t' h' (fun x hx=>hx) ha h1;cases e with
 |normal=>obtain⟨m,hm,t3,h3,hw3,hi⟩:=g';exact⟨m,hm,t3,h3,hw3,hi,fun i hi=>(hw3.1 i hi).trans (a' i hi)⟩
 |_=>exact g'
attribute [go_sem] wr wrOps
theorem mc{w:World}{S:Addr→Prop}{μ:Map}{m:MB}(hm:m.blk=none)(hv:m.ver=0):Rep w S (μ++[m]) (.hs μ.length 0 0 0 true) (.slice none 0 0):=
 .hs _ _ _ _ _ m _ (by simp) (by omega) (by intro cs h;cases h) rfl fun _=>.inl ⟨hm,rfl,rfl,rfl⟩
theorem kX{S:Addr→Prop}{μ:Map}{w:World}{B:Nat}{h:Heap}(f:Fits C B S μ h w)(e n:Nat)(hn:0<n):
  Fits C B S (μ++[⟨none,0,n,0⟩]) (h++[.row e n 0 []]) w∧Step B S μ w S (μ++[⟨none,0,n,0⟩]) w:=
 f.virtual ⟨none,0,n,0⟩ (.row e n 0 []) rfl ⟨rfl,rfl,hn,fun i r hi=>by simp at hi,fun i r j c hi=>by simp at hi,.inl ⟨rfl,rfl⟩⟩
theorem Weak.virt{ms:List Nat}{t:Env}{h:Heap}(i e n:Nat)(hi:i∈ms)(hn:0<n)(ht:t i=.nil (.slice none 0 0)):
  Weak C ms t h (upd t i (.hs h.length 0 0 0 true)) (h++[.row e n 0 []]):=by
 refine⟨fun j hj=>by simp only[upd];rw[I0];intro e;subst e;exact hj hi,fun B k S μ w a f r=>?_⟩;obtain⟨f',st⟩:=kX f e n hn;refine⟨S,_,st,f',r.1,r.2.1,fun j hj=>?_⟩;have hr:=r.2.2 j hj;simp only[upd];split
 ·rename_i e;subst e;rw[ht]at hr;generalize a.tmps.getD j undef=v at hr;cases hr;rw[← f.len];exact mc rfl rfl
 ·exact hr.mono st
def WkR(r s:AVal):Prop:=r.cells.length=s.cells.length∧∀(j:Nat) (c d:AVal),r.cells[j]? =some c→s.cells[j]? =some d→Wk c d∧(c.sto=true→d.sto=true)
theorem Weak.rows{ms:List Nat}{t:Env}{h:Heap}{p v e m:Nat}{rows:List AVal}(rows':List AVal)(hg:getRow h p v=some (e,m,rows))(hl:rows.length=rows'.length)
  (hw:∀(i:Nat) (r s:AVal),rows[i]? =some r→rows'[i]? =some s→WkR r s):Weak C ms t h t (h.set p (.row e m v rows')):=by
 refine⟨fun _ _=>rfl,fun B k S μ w a f r=>?_⟩;have hh:=dC hg;obtain⟨mb,hm,rf⟩:=f.row hg;have hset:List.set μ p mb=μ:=by
  obtain⟨hlt,he⟩:=f9.1 hm;rw[← he,List.set_getElem_self]
 have at_:∀(i:Nat) (s:AVal),rows'[i]? =some s→∃r,rows[i]? =some r∧WkR r s:=by
  intro i s hi;have hlt:=(f9.1 hi).1;exact⟨_,I2 (by omega),hw i _ s (I2 (by omega)) hi⟩
 have cat:∀(r s:AVal) (j:Nat) (d:AVal),WkR r s→s.cells[j]? =some d→∃c,r.cells[j]? =some c∧Wk c d∧(c.sto=true→d.sto=true):=by
  intro r s j d hw hj;have hlt:=(f9.1 hj).1;have hc:=I2 (show j<r.cells.length by rw[hw.1];exact hlt);exact⟨_,hc,hw.2 j _ d hc hj⟩
 have key:BlkFits w S (List.set μ p mb) mb (.row e m v rows'):=by
  rw[hset];refine⟨rf.hver,rf.hsize,rf.pos,fun i s hi=>?_,fun i s j d hi hj=>?_,?_⟩
  ·obtain⟨r,h0,h1⟩:=at_ i s hi;rw[← h1.1];exact rf.lens i r h0
  ·obtain⟨r,h0,h1⟩:=at_ i s hi;obtain⟨c,h2,_,h4⟩:=cat r s j d h1 hj;exact h4 (rf.sto i r j c h0 h2)
  ·rcases rf.lies with⟨h1,h2⟩| ⟨b,cur,h1,h2,h3,h4,h5,h6⟩
   ·subst h2;have:rows'=[]:=O1.1 (by simpa using hl.symm);exact .inl ⟨h1,this⟩
   ·refine .inr ⟨b,cur,h1,h2,h3,by omega,h5,fun i s j d hi hj=>?_⟩;obtain⟨r,h0,h7⟩:=at_ i s hi;obtain⟨c,h8,h9,_⟩:=cat r s j d h7 hj;obtain⟨x,hx,hr⟩:=h6 i r j c h0 h8;exact⟨x,hx,h9 w S μ x hr⟩
 obtain⟨f2,st2⟩:=f.update (m':=mb) (k':=.row e m v rows') hm (Only.refl w _) (J0 _) (fun _=>rfl) (.inl rfl) key;exact⟨S,_,st2,f2,r.mono st2⟩
theorem Weak.virtRows{ms:List Nat}{t:Env}{h:Heap}{p v e m:Nat}{rows:List AVal}(rows':List AVal)(e' n':Nat)(hn:0<n')(hg:getRow h p v=some (e,m,rows))(hl:rows'.length=rows.length)
  (at_:∀(i:Nat) (r':AVal),rows'[i]? =some r'→∃r0,rows[i]? =some r0∧r'.cells.length=r0.cells.length∧
    ∀(q:Nat) (c:AVal),r'.cells[q]? =some c→(r0.cells[q]? =some c)∨(c=.hs h.length 0 0 0 true∧r0.cells[q]? =some (.nil (.slice none 0 0)))):
  Weak C ms t h t (h.set p (.row e m v rows')++[.row e' n' 0 []]):=by
 refine⟨fun _ _=>rfl,fun B k S μ w a f r=>?_⟩;obtain⟨f1,st1⟩:=kX f e' n' hn;have hh:=dC hg;have hp:=(f9.1 hh).1;have hg1:getRow (h++[.row e' n' 0 []]) p v=some (e,m,rows):=pz hg;obtain⟨mb,hm,rf⟩:=f1.row hg1;have key:BlkFits w S (List.set (μ++[(⟨none,0,n',0⟩:MB)]) p mb) mb (.row e m v rows'):=by
  have hset:List.set (μ++[(⟨none,0,n',0⟩:MB)]) p mb=μ++[(⟨none,0,n',0⟩:MB)]:=by
   obtain⟨hlt,he⟩:=f9.1 hm;rw[← he,List.set_getElem_self]
  rw[hset];refine⟨rf.hver,rf.hsize,rf.pos,fun i r' hi=>?_,fun i r' q c hi hc=>?_,?_⟩
  ·obtain⟨r0,h0,h1,_⟩:=at_ i r' hi;rw[h1];exact rf.lens i r0 h0
  ·obtain⟨r0,h0,_,h2⟩:=at_ i r' hi;rcases h2 q c hc with h3| ⟨rfl,h3⟩
   ·exact rf.sto i r0 q c h0 h3
   ·rfl
  ·rcases rf.lies with⟨h1,h2⟩| ⟨b,cur,h1,h2,h3,h4,h5,h6⟩
   ·subst h2;exact .inl ⟨h1,O1.1 (by simpa using hl)⟩
   ·refine .inr ⟨b,cur,h1,h2,h3,by omega,h5,fun i r' q c hi hc=>?_⟩;obtain⟨r0,h0,_,h7⟩:=at_ i r' hi;rcases h7 q c hc with h8| ⟨rfl,h8⟩
    ·exact h6 i r0 q c h0 h8
    ·obtain⟨x,hx,hr⟩:=h6 i r0 q _ h0 h8;refine⟨x,hx,?_⟩;cases hr;rw[← f.len];exact mc rfl rfl
 obtain⟨f2,st2⟩:=f1.update (m':=mb) (k':=.row e m v rows') hm (Only.refl w _) (J0 _) (fun _=>rfl) (.inl rfl) key;rw[List.set_append_left _ _ hp]at f2;exact⟨S,_,st1.trans st2,f2,r.mono (st1.trans st2)⟩
theorem Weak.virtCell{ms:List Nat}{t:Env}{h:Heap}{p v e m:Nat}{cs:List AVal}(e' n':Nat)(hn:0<n')(hg:getRow h p v=some (e,m,[.agg cs]))(j:Nat)(hj:cs[j]? =some (.nil (.slice none 0 0))):
  Weak C ms t h t (h.set p (.row e m v [.agg (cs.set j (.hs h.length 0 0 0 true))])++[.row e' n' 0 []]):=by
 refine Weak.virtRows _ e' n' hn hg rfl fun i r' hi=>?_
 match i with
 |0=>
  simp only[T5,K5]at hi;subst hi;refine⟨_,rfl,by simp[AVal.cells],fun q c hc=>?_⟩;simp only[AVal.cells]at hc ⊢;by_cases hq:j=q
  ·subst hq;rw[M9 (f9.1 hj).1]at hc;cases hc;exact .inr ⟨rfl,hj⟩
  ·rw[P3 hq]at hc;exact .inl hc
 |i+1=>simp at hi
theorem Weak.virtCell1{ms:List Nat}{t:Env}{h:Heap}{p v e m:Nat}(e' n':Nat)(hn:0<n')(hg:getRow h p v=some (e,m,[.nil (.slice none 0 0)])):
  Weak C ms t h t (h.set p (.row e m v [.hs h.length 0 0 0 true])++[.row e' n' 0 []]):=by
 refine Weak.virtRows _ e' n' hn hg rfl fun i r' hi=>?_
 match i with
 |0=>
  simp only[T5,K5]at hi;subst hi;refine⟨_,rfl,rfl,fun q c hc=>?_⟩
  match q with
  |0=>simp[AVal.cells]at hc;subst hc;exact .inr ⟨rfl,rfl⟩
  |q+1=>simp[AVal.cells]at hc
 |i+1=>simp at hi
end
section
variable {C:Ctx} {B n:Nat} {S:Addr→Prop} {μ:Map} {h:Heap} {w w':World} {t:Env} {a:Act} {K:AVal→Heap→Prop}
theorem Fits.grown(f:Fits C B S μ h w)(b:Below w.heap.size w w'):Fits C B S μ h w'∧Step B S μ w S μ w':=by
 have hk:∀k,k<w.heap.size→w'.heap[k]? =w.heap[k]? :=fun k hk=>b.block k hk
 have st:Step B S μ w S μ w':=⟨fun _ ha=>ha,fun a ha=>World.cell?_of_block (hk _ (f.lie a ha)),b.mono f.base,MapLe.refl _,fun _ ha=>.inl ha⟩
 exact⟨⟨fun g cs hg=>(f.glob g cs hg).mono st,f.len,f.sep,fun p m k h1 e1=>by
  obtain⟨a1,a2,a3⟩:=f.own p m k h1 e1;exact⟨a1,R8 a2 b.size,a3⟩,O5 f.base b.size,fun a ha=>R8 (f.lie a ha) b.size,
  fun p m k h1 h2=>(f.blk p m k h1 h2).mono st fun q hq=>hk q (f.own p m q h1 hq).2.1⟩,st⟩
theorem mf{T len e n:Nat}{idx:List Nat}{xs:List AVal}{k:AVal→Heap→Prop}(he:elmT C.P T=some e)(hn:szOf C.P e=some n)(hz:(zroT C.P e).map (fun z=>(z.cells.length,z.cells.all AVal.sto))=some (n,true))
  (hl:xs.length=len)(h0:0<len)(h1:0<n)(hb:len*n≤16777216)(hi:idx=List.range len)(hx:xs.all (fun x=>decide (x.cells.length=n)&&x.lies)=true)(hk:k (.sl n xs) h):rowsK C T len idx xs h k:=by
 unfold rowsK;rw[he,aZ,hn,aZ,I0 (by omega)];refine⟨hl,h0,h1,hb,hi,hz,fun x hm=>?_,.inr hk⟩;have:=M2.1 hx x hm;simpa using this
theorem tG{T len e n:Nat}{idx:List Nat}{xs:List AVal}{k:AVal→Heap→Prop}(he:elmT C.P T=some e)(hn:szOf C.P e=some n)(hz:(zroT C.P e).map (fun z=>(z.cells.length,z.cells.all AVal.sto))=some (n,true))
  (hl:xs.length=len)(h0:0<len)(h1:0<n)(hb:len*n≤16777216)(hi:idx=List.range len)(hx:xs.all (fun x=>decide (x.cells.length=n)&&x.lies)=true)(hk:k (.hs h.length 0 0 len true) (h++[.row e n 0 xs])):rowsK C T len idx xs h k:=by
 unfold rowsK;rw[he,aZ,hn,aZ,I0 (by omega)];refine⟨hl,h0,h1,hb,hi,hz,fun x hm=>?_,.inl hk⟩;have:=M2.1 hx x hm;simpa using this
theorem tH{T len e n:Nat}{idx:List Nat}{xs:List AVal}{k:AVal→Prop}(he:elmT C.P T=some e)(hn:szOf C.P e=some n)(hz:(zroT C.P e).map (fun z=>(z.cells.length,z.cells.all AVal.sto))=some (n,true))
  (hl:xs.length=len)(h0:0<len)(h1:0<n)(hb:len*n≤16777216)(hi:idx=List.range len)(hx:xs.all (fun x=>decide (x.cells.length=n)&&x.lies)=true)(hk:k (.sl n xs)):rowsV C T len idx xs k:=by
 unfold rowsV;rw[he,aZ,hn,aZ,I0 (by omega)];refine⟨hl,h0,h1,hb,hi,hz,fun x hm=>?_,hk⟩;have:=M2.1 hx x hm;simpa using this
def plainV:AVal→Option Value
 | .int k n=>some (.int k n)
 | .bool b=>some (.bool b)
 | .str s=>some (.string ⟨s.toArray⟩)
 |_=>none
def plainL:List AVal→Option (List Value)
 | []=>some []
 |x::l=>match plainV x,plainL l with|some v,some vs=>some (v::vs)|_,_=>none
theorem pE{x:AVal}{v u:Value}(g:plainV x=some v)(r:Rep w S μ x u):u=v:=by
 unfold plainV at g;split at g
 ·cases g;exact r.int_inv
 ·cases g;exact r.bool_inv
 ·cases g;exact r.str_inv
 ·cases g
theorem kY{x:AVal}{v:Value}(g:plainV x=some v):Rep w S μ x v:=by
 unfold plainV at g;split at g
 ·cases g;exact .int _ _
 ·cases g;exact .bool _
 ·cases g;exact .str _
 ·cases g
theorem jq:∀{xs:List AVal} {vs us:List Value},plainL xs=some vs→RepL w S μ xs us→us=vs
 | [],vs,us,g,r=>by
  cases g;have h1:=r.1;simpa using h1
 |x::l,vs,us,g,r=>by
  unfold plainL at g;split at g
  ·rename_i v vs' h1 h2;cases g;obtain⟨hl,hr⟩:=r
   match us,hl,hr with
   |u::us,hl,hr=>
    have e1:=pE h1 (by simpa using hr 0 x rfl);have e2:=jq (us:=us) h2 ⟨by simpa using hl,fun i y hi=>by simpa using hr (i+1) y (by simpa using hi)⟩;rw[e1,e2]
  ·cases g
theorem kZ(w:World)(S:Addr→Prop)(μ:Map):∀{xs:List AVal} {vs:List Value},plainL xs=some vs→RepL w S μ xs vs
 | [],vs,g=>by cases g;exact⟨rfl,fun i x hi=>by simp at hi⟩
 |x::l,vs,g=>by
  unfold plainL at g;split at g
  ·rename_i v vs' h1 h2;cases g;have ih:=kZ w S μ h2;refine⟨by simp[ih.1],fun i y hi=>?_⟩
   match i with
   |0=>simp at hi;subst hi;simpa using kY h1
   |i+1=>simpa using ih.2 i y (by simpa using hi)
  ·cases g
def plainR:AVal→Option Value
 | .tup l=>(plainL l).map fun vs=>.tuple vs.toArray
 |x=>plainV x
theorem rD{x:AVal}{v:Value}(g:plainR x=some v):Rep w S μ x v:=by
 unfold plainR at g;split at g
 ·obtain⟨vs,hv,rfl⟩:=K7.1 g;have:=kZ w S μ hv;exact .tup _ vs this.1 this.2
 ·exact kY g
theorem Sat.of_calls{f:FuncId}{fn:Func}{args:List AVal}{vs:List Value}{r:AVal}{v:Value}(hf:C.P.funcs[f]? =some fn)(hb:fn.body.isNone=false)(hname:(fn.name== "runtime.NumGoroutine")=false)
  (ha:plainL args=some vs)(hr:plainR r=some v)(hc:∀B S μ w,Fits C B S μ h w→Calls C.P f vs.toArray w fun e w'=>e=.returned v∧Below w.heap.size w w'):Sat C f args h (fun r' h'=>r'=r∧h'=h):=by
 intro B S μ w us fit rl;obtain rfl:=jq ha rl;have e:(callFunc f us.toArray).run C.P w=.ok (.enter f us.toArray) w:=by
  have hne:fn.name≠ "runtime.NumGoroutine" :=by simpa using hname
  obtain⟨c,hbc⟩:∃c,fn.body=some c:=by cases hq:fn.body with|none=>simp[hq]at hb|some c=>exact⟨c,rfl⟩
  simp[callFunc,hf,hne,hbc]
 rw[e];refine(hc B S μ w fit).mono fun e' w' ⟨he,hw⟩=>⟨v,he,?_⟩
 obtain⟨f',st⟩:=fit.grown hw;exact⟨r,h,S,μ,⟨rfl,rfl⟩,st,f',rD hr⟩
theorem Sat.of_extern{f:FuncId}{fn:Func}{ex:Array Value→Sem Value}{args:List AVal}{R:AVal→Heap→Prop}(hf:C.P.funcs[f]? =some fn)(hname:(fn.name== "runtime.NumGoroutine")=false)
  (hb:fn.body.isNone=true)(hn:Extern.findNext fn=none)(he:Extern.find fn=some ex)
  (hc:∀B S μ w vs,Fits C B S μ h w→RepL w S μ args vs→∃v w',(ex vs.toArray).run C.P w=.ok v w'∧OpPost C B S μ w R v w'):Sat C f args h R:=by
 intro B S μ w vs fit rl;obtain⟨v,w',hr,hp⟩:=hc B S μ w vs fit rl;rw[run_callFunc_extern hf hname hb hn he];simp[J6,hr];exact hp
theorem Fin.plainE{h0 h1 j:Heap}{R:AVal→Heap→Prop}{r:AVal}(hh:h1=h0++j)(hc:Clo h0.length r)(hR:R r h0):Fin h0 h1 R r:=by
 subst hh;exact I3 hc hR
theorem Fin.keep{h0 h1 j:Heap}{R:AVal→Heap→Prop}{r:AVal}(hl:h1.length=h0.length)(hk:∀(p:Nat) (k:Blk),h1[p]? =some k→h0[p]? =some k∨CloB h0.length k)(hc:Clo h0.length r)(hR:R r h1):Fin h0 (h1++j) R r:=by
 refine⟨h0.length,r,J0 _,.clo _ hc,.inr fun p k hp h2=>?_,by rw[S3 hl];exact hR⟩;rw[I8 (by omega)]at h2;rcases hk p k h2 with h3|h3
 ·exact .inl ⟨hp,h3⟩
 ·exact .inr h3
theorem Fin.keep0{h0 h1:Heap}{R:AVal→Heap→Prop}{r:AVal}(hl:h1.length=h0.length)(hk:∀(p:Nat) (k:Blk),h1[p]? =some k→h0[p]? =some k∨CloB h0.length k)(hc:Clo h0.length r)(hR:R r h1):Fin h0 h1 R r:=by
 have:=Fin.keep (j:=[]) hl hk hc hR;simpa using this
theorem Fin.keepF{h0 h1 j:Heap}{R:AVal→Heap→Prop}{r0 r:AVal}(hl:h1.length=h0.length)(hk:∀(p:Nat) (k:Blk),h1[p]? =some k→h0[p]? =some k∨CloB h0.length k)(hc:Frz (h1++j) h0.length r0 r)(hR:R r h1):Fin h0 (h1++j) R r0:=by
 refine⟨h0.length,r,J0 _,hc,.inr fun p k hp h2=>?_,by rw[S3 hl];exact hR⟩;rw[I8 (by omega)]at h2;rcases hk p k h2 with h3|h3
 ·exact .inl ⟨hp,h3⟩
 ·exact .inr h3
end
abbrev ML(κ α:Type):=List (κ×α×Nat)
def encM{κ α:Type}(ek:κ→AVal)(ev:α→AVal)(l:ML κ α):List (AVal×AVal×Nat):=l.map fun e=>(ek e.1,ev e.2.1,e.2.2)
def iA(n:Int):AVal:=.int .i64 n
def nA(n:Int×List UInt8):AVal:=.agg [.int .i64 n.1,.str n.2]
section
variable {κ α:Type} [DecidableEq κ]
def ixM:ML κ α→κ→Option Nat
 | [],_=>none
 |e::l,x=>if x=e.1 then some 0 else(ixM l x).map (· +1)
def lkM:ML κ α→κ→Option α
 | [],_=>none
 |e::l,x=>if x=e.1 then some e.2.1 else lkM l x
def upM:ML κ α→Nat→κ→α→ML κ α
 | [],c,x,a=>[(x,a,c)]
 |e::l,c,x,a=>if x=e.1 then(x,a,e.2.2)::l else e::upM l c x a
def dlM:ML κ α→κ→ML κ α
 | [],_=>[]
 |e::l,x=>if x=e.1 then l else e::dlM l x
def ckM(l:ML κ α)(c:Nat)(x:κ):Nat:=if (lkM l x).isSome then c else c+1
theorem xd(l:ML κ α)(x:κ):(ixM l x).isSome=(lkM l x).isSome:=by
 induction l with
 |nil=>rfl
 |cons e l ih=>simp only[ixM,lkM];split<;>simp[ih]
theorem aW(l:ML κ α)(c:Nat)(x:κ)(a:α)(y:κ):lkM (upM l c x a) y=if y=x then some a else lkM l y:=by
 induction l with
 |nil=>simp[upM,lkM]
 |cons e l ih=>
  simp only[upM,lkM];by_cases h:x=e.1
  ·subst h;simp only[if_true,lkM];split<;>rfl
  ·rw[I0 h];simp only[lkM,ih];by_cases hy:y=e.1
   ·subst hy;rw[I7 rfl,I7 rfl,I0 (fun e=>h e.symm)]
   ·rw[I0 hy,I0 hy]
theorem tI{l:ML κ α}{x:κ}(h:x ∉ l.map (·.1)):lkM l x=none:=by
 induction l with
 |nil=>rfl
 |cons e l ih=>
  simp only[K8,K4,not_or]at h;rw[lkM,I0 h.1,ih h.2]
theorem cN{l:ML κ α}{x:κ}{a:α}(h:lkM l x=some a):∃b,(x,a,b)∈l:=by
 induction l with
 |nil=>cases h
 |cons e l ih=>
  rw[lkM]at h;split at h
  ·rename_i hx;cases h;subst hx;exact⟨_,U2 ..⟩
  ·obtain⟨b,hb⟩:=ih h;exact⟨b,Q3 _ hb⟩
theorem cu{l:ML κ α}(hn:(l.map (·.1)).Nodup){x:κ}{a:α}{b:Nat}(h:(x,a,b)∈l):lkM l x=some a:=by
 induction l with
 |nil=>cases h
 |cons e l ih=>
  rw[K8,X0]at hn;rcases K4.1 h with h|h
  ·subst h;rw[lkM,I7 rfl]
  ·rw[lkM,I0,ih hn.2 h];intro he;exact hn.1 (J5.2 ⟨_,h,he⟩)
theorem dR{l:ML κ α}(hn:(l.map (·.1)).Nodup)(x y:κ):lkM (dlM l x) y=if y=x then none else lkM l y:=by
 induction l with
 |nil=>simp[dlM,lkM]
 |cons e l ih=>
  rw[K8,X0]at hn;simp only[dlM];by_cases h:x=e.1
  ·subst h;rw[I7 rfl];by_cases hy:y=e.1
   ·subst hy;rw[I7 rfl,tI hn.1]
   ·rw[I0 hy,lkM,I0 hy]
  ·rw[I0 h];simp only[lkM,ih hn.2];by_cases hy:y=e.1
   ·subst hy;rw[I7 rfl,I7 rfl,I0 (fun e=>h e.symm)]
   ·rw[I0 hy,I0 hy]
theorem ko(l:ML κ α)(c:Nat)(x:κ)(a:α):(upM l c x a).length=if (lkM l x).isSome then l.length else l.length+1:=by
 induction l with
 |nil=>rfl
 |cons e l ih=>
  simp only[upM,lkM];split
  ·simp
  ·rw[I6,ih];split<;>simp
theorem vE{l:ML κ α}{x:κ}{e:κ×α×Nat}(h:e∈dlM l x):e∈l:=by
 induction l with
 |nil=>exact h
 |cons d l ih=>
  simp only[dlM]at h;split at h
  ·exact Q3 _ h
  ·rcases K4.1 h with h|h
   ·rw[h];exact U2 ..
   ·exact Q3 _ (ih h)
theorem ie(l:ML κ α)(x:κ):(dlM l x).Sublist l:=by
 induction l with
 |nil=>exact .slnil
 |cons d l ih=>
  simp only[dlM];split
  ·exact List.sublist_cons_self ..
  ·exact ih.cons_cons _
structure WFM (l:ML κ α) (c:Nat):Prop where
 keys:(l.map (·.1)).Nodup
 borns:(l.map (·.2.2)).Nodup
 lt:∀e∈l,e.2.2<c
theorem WFM.nil:WFM ([]:ML κ α) 0:=⟨by simp,by simp,fun e h=>by cases h⟩
theorem mg(l:ML κ α)(c:Nat)(x:κ)(a:α):(upM l c x a).map (·.1)=if (lkM l x).isSome then l.map (·.1)else l.map (·.1)++[x]:=by
 induction l with
 |nil=>rfl
 |cons e l ih=>
  simp only[upM,lkM];split
  ·rename_i h;subst h;simp
  ·rw[K8,ih];split<;>simp
theorem fg(l:ML κ α)(c:Nat)(x:κ)(a:α):(upM l c x a).map (·.2.2)=if (lkM l x).isSome then l.map (·.2.2)else l.map (·.2.2)++[c]:=by
 induction l with
 |nil=>rfl
 |cons e l ih=>
  simp only[upM,lkM];split
  ·rename_i h;subst h;simp
  ·rw[K8,ih];split<;>simp
theorem oE{l:ML κ α}{x:κ}(h:(lkM l x).isSome=false):x ∉ l.map (·.1):=by
 induction l with
 |nil=>simp
 |cons e l ih=>
  rw[lkM]at h;split at h
  ·cases h
  ·rename_i hx;simp only[K8,K4,not_or];exact⟨hx,ih h⟩
theorem WFM.up{l:ML κ α}{c:Nat}(w:WFM l c)(x:κ)(a:α):WFM (upM l c x a) (ckM l c x):=by
 cases h:(lkM l x).isSome with
 |true=>
  refine⟨by rw[mg,h];exact w.keys,by rw[fg,h];exact w.borns,fun e he=>?_⟩;have:e.2.2∈ (upM l c x a).map (·.2.2):=J5.2 ⟨e,he,rfl⟩;rw[fg,h,I7 rfl]at this;obtain⟨d,hd,hq⟩:=J5.1 this;rw[ckM,h,I7 rfl, ← hq];exact w.lt d hd
 |false=>
  refine⟨?_,?_,fun e he=>?_⟩
  ·rw[mg,h];simp only[M1,if_false];rw[List.nodup_append];exact⟨w.keys,by simp,fun y hy z hz=>by simp at hz;subst hz;intro e;subst e;exact oE h hy⟩
  ·rw[fg,h];simp only[M1,if_false];rw[List.nodup_append];exact⟨w.borns,by simp,fun y hy z hz=>by
    simp at hz;subst hz;intro e;subst e;obtain⟨d,hd,hq⟩:=J5.1 hy;have:=w.lt d hd;omega⟩
  ·have:e.2.2∈ (upM l c x a).map (·.2.2):=J5.2 ⟨e,he,rfl⟩;rw[fg,h]at this;simp only[M1,if_false,P6,W0]at this;rw[ckM,h];simp only[M1,if_false];rcases this with h1|h1
   ·obtain⟨d,hd,hq⟩:=J5.1 h1;have:=w.lt d hd;omega
   ·omega
theorem WFM.dl{l:ML κ α}{c:Nat}(w:WFM l c)(x:κ):WFM (dlM l x) c:=
 ⟨((ie l x).map _).nodup w.keys,((ie l x).map _).nodup w.borns,fun e he=>w.lt e (vE he)⟩
variable {P:Program} {kt:TypeId} {ek:κ→AVal} {ev:α→AVal}
theorem tJ(hk:∀x y,akey P kt (ek x) (ek y)=some (decide (x=y)))(x:κ)(l:ML κ α):∀i,findA P kt (ek x) (encM ek ev l) i=some ((ixM l x).map (· +i)):=by
 induction l with
 |nil=>intro i;rfl
 |cons e l ih=>
  intro i;have hh:=hk x e.1;simp only[encM,K8,findA,hh,ixM];by_cases h:x=e.1
  ·rw[M0 h];simp[I7 h]
  ·rw[L6 h,I0 h];have:=ih (i+1);rw[encM]at this;simp only[this,Option.map_map];congr 2
   funext j;simp;omega
theorem gR(hk:∀x y,akey P kt (ek x) (ek y)=some (decide (x=y)))(x:κ)(l:ML κ α):findA P kt (ek x) (encM ek ev l) 0=some (ixM l x):=by
 rw[tJ hk];simp
theorem xe(h:kindT P kt=0)(x y:Int):akey P kt (iA x) (iA y)=some (decide (x=y)):=by
 simp only[akey,iA,h,aeq1,if_true,K5];rw[N3];simp
theorem xf(h:kindT P kt=2)(x y:List UInt8):akey P kt (.str x) (.str y)=some (decide (x=y)):=by
 simp only[akey,h,aeq1,K5];rw[N3];simp
theorem xg(h:plainT P kt=some [0,2])(x y:Int×List UInt8):akey P kt (nA x) (nA y)=some (decide (x=y)):=by
 simp only[akey,nA,h,Option.bind_some,aeqL,aeq1,if_true,O2,K5,Bool.and_true];rw[N3];obtain⟨a,b⟩:=x;obtain⟨c,d⟩:=y;simp
@[go_sem] theorem GJ{l:ML Int α}(h:kindT P kt=0)(x:Int):findA P kt (.int .i64 x) (encM iA ev l) 0=some (ixM l x):=gR (ek:=iA) (xe h) x l
@[go_sem] theorem GK{l:ML (List UInt8) α}(h:kindT P kt=2)(x:List UInt8):findA P kt (.str x) (encM AVal.str ev l) 0=some (ixM l x):=gR (ek:=AVal.str) (xf h) x l
@[go_sem] theorem GL{l:ML (Int×List UInt8) α}(h:plainT P kt=some [0,2])(a:Int)(b:List UInt8):findA P kt (.agg [.int .i64 a,.str b]) (encM nA ev l) 0=some (ixM l (a,b)):=gR (ek:=nA) (xg h) (a,b) l
@[go_sem] theorem GM(h:kindT P kt=0)(x:Int):keyA P kt (.int .i64 x)=true:=by simp[keyA,keyT,akey,h,aeq1]
@[go_sem] theorem GN(h:kindT P kt=2)(x:List UInt8):keyA P kt (.str x)=true:=by simp[keyA,keyT,akey,h,aeq1]
@[go_sem] theorem GO(h:plainT P kt=some [0,2])(a:Int)(b:List UInt8):keyA P kt (.agg [.int .i64 a,.str b])=true:=by simp[keyA,keyT,akey,h,aeqL,aeq1]
def v1(z:AVal)(ev:α→AVal):Option α→AVal
 |some a=>ev a
 |none=>z
def vM(ok:Bool)(z:AVal)(ev:α→AVal)(o:Option α):AVal:=if ok then .tup [v1 z ev o,.bool o.isSome]else v1 z ev o
@[go_sem] theorem HM(z:AVal)(ev:α→AVal)(o:Option α):vM true z ev o=.tup [v1 z ev o,.bool o.isSome]:=(rfl)
@[go_sem] theorem HN(z:AVal)(ev:α→AVal)(o:Option α):vM false z ev o=v1 z ev o:=(rfl)
theorem mh{z:AVal}{ev:α→AVal}{d:α}(h:ev d=z)(o:Option α):v1 z ev o=ev (o.getD d):=by cases o<;>simp[v1,h]
@[go_sem] theorem HO(d:Int)(o:Option Int):v1 (.int .i64 d) iA o=.int .i64 (o.getD d):=mh rfl o
theorem xh(ok:Bool)(z:AVal)(l:ML κ α)(x:κ):gotA ok z ((ixM l x).bind fun i=>(encM ek ev l)[i]?)=vM ok z ev (lkM l x):=by
 induction l with
 |nil=>cases ok<;>rfl
 |cons e l ih=>
  simp only[ixM,lkM];split
  ·cases ok<;>simp[encM,gotA,vM,v1]
  ·rw[Option.bind_map];simp only[encM,K8]at ih ⊢;exact ih
attribute [go_sem] xh
theorem pF(c:Nat)(l:ML κ α)(x:κ)(a:α):putM (encM ek ev l) c (ek x) (ev a) (ixM l x)=.mp (encM ek ev (upM l c x a)) (ckM l c x):=by
 have h1:∀l:ML κ α,(match ixM l x with|some i=>(encM ek ev l).modify i fun e=>(ek x,ev a,e.2.2)|none=>encM ek ev l++[(ek x,ev a,c)])=encM ek ev (upM l c x a):=by
  intro l;induction l with
  |nil=>rfl
  |cons e l ih=>
   simp only[ixM,upM];split
   ·rename_i h;split at h
    ·cases h;rename_i hx;rw[I7 hx];rfl
    ·rename_i hx;rw[I0 hx];cases hi:ixM l x with
     |none=>rw[hi]at h;cases h
     |some j=>
      rw[hi]at h ih;simp at h;subst h;simp only[encM,K8,List.modify_succ_cons]at ih ⊢;rw[ih]
   ·rename_i h;split at h
    ·cases h
    ·rename_i hx;rw[I0 hx];cases hi:ixM l x with
     |some j=>rw[hi]at h;cases h
     |none=>
      rw[hi]at ih;simp only[encM,K8,O9]at ih ⊢;rw[ih]
 have h2:=xd l x;have h3:=h1 l;cases hi:ixM l x with
 |some i=>rw[hi]at h2 h3;simp only[Option.isSome_some]at h2;simp only[putM,ckM, ← h2,if_true];rw[← h3]
 |none=>rw[hi]at h2 h3;simp only[Option.isSome_none]at h2;simp only[putM,ckM, ← h2];rw[← h3];rfl
theorem zC(c:Nat)(l:ML κ α)(x:κ):delM (encM ek ev l) c (ixM l x)=.mp (encM ek ev (dlM l x)) c:=by
 have h1:∀l:ML κ α,(match ixM l x with|some i=>(encM ek ev l).eraseIdx i|none=>encM ek ev l)=encM ek ev (dlM l x):=by
  intro l;induction l with
  |nil=>rfl
  |cons e l ih=>
   simp only[ixM,dlM];by_cases hx:x=e.1
   ·rw[I7 hx,I7 hx];rfl
   ·rw[I0 hx,I0 hx];cases hi:ixM l x with
    |none=>rw[hi]at ih;simp only[encM,K8,Option.map_none]at ih ⊢;rw[← ih]
    |some j=>rw[hi]at ih;simp only[encM,K8,O2,List.eraseIdx_cons_succ]at ih ⊢;rw[ih]
 have h3:=h1 l;cases hi:ixM l x with
 |some i=>rw[hi]at h3;simp only[delM];rw[← h3]
 |none=>rw[hi]at h3;simp only[delM];rw[← h3]
attribute [go_sem] zC
def alenM:Option (TypeId×TypeId)→Option (List (AVal×AVal×Nat)×Nat)→Option Nat
 |some _,some r=>some r.1.length
 |_,_=>none
@[go_sem] theorem EG(P:Program)(h:Heap)(T:TypeId)(p:Nat):alen P h T (.hm p)=alenM (mapT P T) (mapAt h p):=by
 simp only[alen];cases mapT P T with
 |none=>rfl
 |some q=>cases mapAt h p<;>rfl
@[go_sem] theorem EH(q:TypeId×TypeId)(r:List (AVal×AVal×Nat))(c:Nat):alenM (some q) (some (r,c))=some r.length:=(rfl)
@[go_sem] theorem Ds(l:ML κ α):(encM ek ev l).length=l.length:=I5 ..
theorem kp{v:AVal}(c:Nat)(l:ML Int α)(x:Int)(a:α)(h:ev a=v):putM (encM iA ev l) c (.int .i64 x) v (ixM l x)=.mp (encM iA ev (upM l c x a)) (ckM l c x):=by subst h;exact pF (ek:=iA) c l x a
theorem Dt{v:AVal}(c:Nat)(l:ML (List UInt8) α)(x:List UInt8)(a:α)(h:ev a=v):putM (encM AVal.str ev l) c (.str x) v (ixM l x)=.mp (encM AVal.str ev (upM l c x a)) (ckM l c x):=by subst h;exact pF (ek:=AVal.str) c l x a
theorem Du{v:AVal}(c:Nat)(l:ML (Int×List UInt8) α)(x:Int)(y:List UInt8)(a:α)(h:ev a=v):putM (encM nA ev l) c (.agg [.int .i64 x,.str y]) v (ixM l (x,y))=.mp (encM nA ev (upM l c (x,y) a)) (ckM l c (x,y)):=by subst h;exact pF (ek:=nA) c l (x,y) a
@[go_sem] theorem Hh(c:Nat)(l:ML Int Int)(x a:Int):putM (encM iA iA l) c (.int .i64 x) (.int .i64 a) (ixM l x)=.mp (encM iA iA (upM l c x a)) (ckM l c x):=kp c l x a rfl
@[go_sem] theorem Hi(c:Nat)(l:ML (List UInt8) Int)(x:List UInt8)(a:Int):putM (encM AVal.str iA l) c (.str x) (.int .i64 a) (ixM l x)=.mp (encM AVal.str iA (upM l c x a)) (ckM l c x):=Dt c l x a rfl
@[go_sem] theorem Hj(c:Nat)(l:ML (Int×List UInt8) Int)(x:Int)(y:List UInt8)(a:Int):putM (encM nA iA l) c (.agg [.int .i64 x,.str y]) (.int .i64 a) (ixM l (x,y))=.mp (encM nA iA (upM l c (x,y) a)) (ckM l c (x,y)):=Du c l x y a rfl
@[go_sem] theorem GP(k:IntKind)(n:Int):softA (.int k n)=.int k n:=(rfl)
@[go_sem] theorem Dv(cs:List AVal):softA (.agg cs)=.agg (cs.map soft1):=(rfl)
@[go_sem] theorem EI(k:IntKind)(n:Int):soft1 (.int k n)=.int k n:=(rfl)
@[go_sem] theorem EJ(s:List UInt8):soft1 (.str s)=.str s:=(rfl)
@[go_sem] theorem EK(b:Bool):soft1 (.bool b)=.bool b:=(rfl)
@[go_sem] theorem EL:soft1 (.nil (.slice none 0 0))=.sl 1 []:=(rfl)
@[go_sem] theorem EM(n:Nat)(l:List AVal):soft1 (.sl n l)=.sl n l:=(rfl)
def leftM(l:ML κ α)(seen:List Nat):Nat:=(l.filter fun e=>decide (e.2.2 ∉ seen)).length
theorem tK{h:Heap}{p q c:Nat}{seen:List Nat}{l:ML κ α}{k:AVal→Heap→Prop}(hh:h[p]? =some (.mit q c seen c))(hm:mapAt h q=some (encM ek ev l,c))(hb:∀e∈l,e.2.2<c)
  (h1:∀e∈l,e.2.2 ∉ seen→k (.tup [.bool true,ek e.1,ev e.2.1]) (h.set p (.mit q c (seen++[e.2.2]) c)))
  (h2:(∀e∈l,e.2.2∈seen)→k (.tup [.bool false]) h):nextMK (.hp p 0 0 0) h k:=by
 simp only[nextMK,hh,hm,aZ];refine⟨?_,fun e he hs=>?_,fun hn=>h2 fun e he=>?_⟩
 ·cases l with
  |nil=>simp[encM]
  |cons e l=>
   have:=hb e (U2 ..);simp only[encM,K8,List.all_cons];rw[L6 (by omega)];simp
 ·obtain⟨d,hd,rfl⟩:=J5.1 he;exact h1 d hd hs
 ·apply O3
  intro hs;have:=hn (ek e.1,ev e.2.1,e.2.2) (J5.2 ⟨e,he,rfl⟩) hs;have:=hb e he;simp at *;omega
theorem tM{h:Heap}{p q c since:Nat}{seen:List Nat}{l:ML κ α}{e:κ×α×Nat}{k:AVal→Prop}(hh:h[p]? =some (.mit q since (seen++[e.2.2]) c))(hm:mapAt h q=some (encM ek ev l,c))(w:WFM l c)(he:e∈l)
  (hk:k (.tup [ek e.1,ev e.2.1])):entryK (.hp p 0 0 0) h k:=by
 have:(encM ek ev l).find? (fun d=>d.2.2==e.2.2)=some (ek e.1,ev e.2.1,e.2.2):=by
  have hb:=w.borns;clear w hm;induction l with
  |nil=>cases he
  |cons d l ih=>
   rw[K8,X0]at hb;rw[encM,K8,List.find?_cons];rcases K4.1 he with rfl|he
   ·simp
   ·have:d.2.2≠e.2.2:=fun q=>hb.1 (J5.2 ⟨e,he,q.symm⟩)
    simp only[beq_eq_false_iff_ne.2 this];exact ih he hb.2
 simp only[entryK,hh,hm,aZ,this,List.getLast?_append,List.getLast?_singleton,Option.some_or];exact⟨trivial,hk⟩
theorem mi{l l':ML κ α}{seen:List Nat}{e:κ×α×Nat}(he:e∈l)(hs:e.2.2 ∉ seen)(hsub:l'.Sublist l):leftM l' (seen++[e.2.2])<leftM l seen:=by
 unfold leftM;have h1:(l'.filter fun d=>decide (d.2.2 ∉ seen++[e.2.2])).length≤(l.filter fun d=>decide (d.2.2 ∉ seen++[e.2.2])).length:=(hsub.filter _).length_le;have h2:∀l:ML κ α,e∈l→(l.filter fun d=>decide (d.2.2 ∉ seen++[e.2.2])).length<(l.filter fun d=>decide (d.2.2 ∉ seen)).length:=by
  intro l;have le:∀l:ML κ α,(l.filter fun d=>decide (d.2.2 ∉ seen++[e.2.2])).length≤(l.filter fun d=>decide (d.2.2 ∉ seen)).length:=by
   intro l;induction l with
   |nil=>simp
   |cons d l ih=>
    simp only[V7];by_cases h:d.2.2∈seen
    ·rw[L6 (by simp[h]),L6 (by simp[h])];exact ih
    ·rw[M0 (p:=d.2.2 ∉ seen) h];split
     ·simp only[if_true,I6];omega
     ·simp only[if_true,I6];omega
  induction l with
  |nil=>intro h;cases h
  |cons d l ih=>
   intro h;simp only[V7];rcases K4.1 h with h|h
   ·subst h;rw[L6 (by simp),M0 (p:=e.2.2 ∉ seen) hs];have:=le l;simp only[if_true,I6,M1,if_false];omega
   ·have:=ih h;by_cases hd:d.2.2∈seen
    ·rw[L6 (by simp[hd]),L6 (by simp[hd])];exact this
    ·rw[M0 (p:=d.2.2 ∉ seen) hd];split
     ·simp only[if_true,I6];omega
     ·simp only[if_true,I6];omega
 have:=h2 l he;omega
end
end Go.Av
namespace Go.Av
attribute [go_sem] Nat.le_refl Bool.false_or Bool.true_or Bool.false_and kT Int.natCast_nonneg Int.ofNat_lt Int.ofNat_le Bool.not_true Bool.not_false
attribute [go_sem ↓] tB nC List.getElem?_cons_succ List.getElem?_cons_zero
def condK(c:AVal)(a b:Prop):Prop:=match c with| .bool q=>(q=true→a)∧(q=false→b)|_=>False
structure Went (a:Prop):Prop where
 go:a
@[congr] theorem zD(a:Prop):Went a=Went a:=rfl
@[congr] theorem yM{c c':AVal}{a b:Prop}(e:c=c'):condK c a b=condK c' a b:=by rw[e]
@[go_sem] theorem EN(a b:Prop):condK (.bool true) a b=Went a:=propext ⟨fun h=>⟨h.1 rfl⟩,fun h=>⟨fun _=>h.go,fun e=>Bool.noConfusion e⟩⟩
@[go_sem] theorem EO(a b:Prop):condK (.bool false) a b=Went b:=propext ⟨fun h=>⟨h.2 rfl⟩,fun h=>⟨fun e=>Bool.noConfusion e,fun _=>h.go⟩⟩
theorem tN{C:Ctx}{t:Env}{h:Heap}{c:Operand}{x y:Code}{Q:Exit→Env→Heap→Prop}(g:condK (aev C.G t c) (WP C x Q t h) (WP C y Q t h)):WP C (.cond c x y) Q t h:=by
 unfold condK at g;split at g
 ·rename_i q hq;exact kl hq g.1 g.2
 ·exact g.elim
end Go.Av
namespace Go.Av
theorem iG{p P:Prop}(e:p=P:=by first| (simp only[Bool.false_or,Bool.or_false,Bool.true_or,Bool.or_true,Bool.false_and,Bool.and_false,Bool.and_true,P0,N6,Bool.or_eq_false_iff,I1,Bool.and_eq_false_iff,Nat.not_lt,Nat.not_le,I4,decide_eq_false_iff_not,M5,Bool.not_eq_false',beq_iff_eq,bne_iff_ne,ne_eq,beq_eq_false_iff_ne,bne_eq_false_iff_eq,Bool.not_eq_true,Bool.not_eq_false,Int.not_lt,Int.not_le,gt_iff_lt,ge_iff_le,Int.ofNat_lt,Int.ofNat_le,Int.natCast_inj,Int.natCast_inj,Bool.not_not,decide_not,Decidable.not_not];rfl)|rfl):p=P:=e
theorem aw{α:Type}{a b:α}(e:a=b:=by first|rfl| (simp;done)| (simp;rfl)):a=b:=e
theorem F2{A0 A1:Prop}(a0:A0)(a1:A1):A0∧A1:=⟨a0,a1⟩
theorem F3{A0 A1 A2:Prop}(a0:A0)(a1:A1)(a2:A2):A0∧A1∧A2:=⟨a0,a1,a2⟩
theorem F4{A0 A1 A2 A3:Prop}(a0:A0)(a1:A1)(a2:A2)(a3:A3):A0∧A1∧A2∧A3:=⟨a0,a1,a2,a3⟩
theorem F5{A0 A1 A2 A3 A4:Prop}(a0:A0)(a1:A1)(a2:A2)(a3:A3)(a4:A4):A0∧A1∧A2∧A3∧A4:=⟨a0,a1,a2,a3,a4⟩
theorem F6{A0 A1 A2 A3 A4 A5:Prop}(a0:A0)(a1:A1)(a2:A2)(a3:A3)(a4:A4)(a5:A5):A0∧A1∧A2∧A3∧A4∧A5:=⟨a0,a1,a2,a3,a4,a5⟩
theorem F7{A0 A1 A2 A3 A4 A5 A6:Prop}(a0:A0)(a1:A1)(a2:A2)(a3:A3)(a4:A4)(a5:A5)(a6:A6):A0∧A1∧A2∧A3∧A4∧A5∧A6:=⟨a0,a1,a2,a3,a4,a5,a6⟩
theorem F8{A0 A1 A2 A3 A4 A5 A6 A7:Prop}(a0:A0)(a1:A1)(a2:A2)(a3:A3)(a4:A4)(a5:A5)(a6:A6)(a7:A7):A0∧A1∧A2∧A3∧A4∧A5∧A6∧A7:=⟨a0,a1,a2,a3,a4,a5,a6,a7⟩
theorem F9{A0 A1 A2 A3 A4 A5 A6 A7 A8:Prop}(a0:A0)(a1:A1)(a2:A2)(a3:A3)(a4:A4)(a5:A5)(a6:A6)(a7:A7)(a8:A8):A0∧A1∧A2∧A3∧A4∧A5∧A6∧A7∧A8:=⟨a0,a1,a2,a3,a4,a5,a6,a7,a8⟩
theorem iH{A0 A1 A2 A3 A4 A5 A6 A7 A8 A9:Prop}(a0:A0)(a1:A1)(a2:A2)(a3:A3)(a4:A4)(a5:A5)(a6:A6)(a7:A7)(a8:A8)(a9:A9):A0∧A1∧A2∧A3∧A4∧A5∧A6∧A7∧A8∧A9:=⟨a0,a1,a2,a3,a4,a5,a6,a7,a8,a9⟩
variable {C:Ctx} {Q:Exit→Env→Heap→Prop} {t:Env} {h:Heap}
theorem w1{a b:Code}(hh:∀K:Env→Heap→Prop,(∀t h,Wkn C (wr a) t h (fun t h=>WP C b Q t h)→K t h)→WP C a (thenQ K Q) t h):WP C (.seq a b) Q t h:=x8 hh
theorem w2{id:Nat}{c:Code}(hh:WP C c (blockQ id Q) t h):WP C (.block id c) Q t h:=tz hh
theorem w4{id:Nat}{l:List Oper}(hh:WPl C l.toArray Q l t h):WP C (.region id l.toArray false) Q t h:=rt hh
theorem w5(hh:Q .normal t h):WP C .skip Q t h:=vz hh
theorem w6{id:Nat}(hh:Q (.exit id) t h):WP C (.exit id) Q t h:=vA hh
theorem w7(hh:Q .ret t h):WP C .ret Q t h:=x9 hh
theorem w8{c:Operand}{x y:Code}(g:condK (aev C.G t c) (WP C x Q t h) (WP C y Q t h)):WP C (.cond c x y) Q t h:=tN g
theorem w9{a:Prop}(g:a):Went a:=⟨g⟩
theorem w0{ms:List Nat}{R:Env→Heap→Prop}(g:R t h):Wkn C ms t h R:=I9 g
def pureB:Callee→Bool
 | .value _=>true
 | .builtin .len=>true
 | .builtin .max=>true
 | .builtin .min=>true
 | .builtin .unsafeSliceData=>true
 |_=>false
def pureO:Op→Bool
 | .move _| .assign _| .pick _ _ _| .load _ _| .nilCheck _| .binOp _ _ _ _ _| .unOp _ _ _| .convert _ _ _| .slice _ _ _ _ _| .fieldAddr _ _ _| .field _ _ _| .indexAddr _ _ _| .index _ _ _| .extract _ _| .build _ _| .buildSlice _ _ _| .lookup _ _ _ _=>true
 | .call c=>pureB c.callee
 |_=>false
def pureN:List Oper→Nat
 | []=>0
 |o::r=>match pureO o.op with|true=>pureN r+1|false=>0
def dk(l:List Oper)(k:Nat):Bool:=Nat.beq (pureN l) k&&(drawOk l.toArray k&&decide (k≤l.length))
theorem wD{id k:Nat}{l:List Oper}(g:WPp C l.toArray (l.take k) t h fun t'=>WPl C l.toArray Q (l.drop k) t' h)(hk:dk l k=true:=by first| (show dk _ 2=true;decide+kernel)| (show dk _ 3=true;decide+kernel)| (show dk _ 4=true;decide+kernel)| (show dk _ 5=true;decide+kernel)| (show dk _ 6=true;decide+kernel)| (show dk _ 7=true;decide+kernel)| (show dk _ 8=true;decide+kernel)| (show dk _ 9=true;decide+kernel)| (show dk _ 10=true;decide+kernel)| (show dk _ 11=true;decide+kernel)| (show dk _ 12=true;decide+kernel)| (show dk _ 13=true;decide+kernel)| (show dk _ 14=true;decide+kernel)| (show dk _ 15=true;decide+kernel)| (show dk _ 1=true;decide+kernel)| (show dk _ 16=true;decide+kernel)| (show dk _ 17=true;decide+kernel)| (show dk _ 18=true;decide+kernel)| (show dk _ 19=true;decide+kernel)| (show dk _ 20=true;decide+kernel)| (show dk _ 21=true;decide+kernel)| (show dk _ 22=true;decide+kernel)| (show dk _ 23=true;decide+kernel)| (show dk _ 24=true;decide+kernel)| (show dk _ 25=true;decide+kernel)| (show dk _ 26=true;decide+kernel)| (show dk _ 27=true;decide+kernel)| (show dk _ 28=true;decide+kernel)| (show dk _ 29=true;decide+kernel)| (show dk _ 30=true;decide+kernel)| (show dk _ 31=true;decide+kernel)| (show dk _ 32=true;decide+kernel)| (show dk _ 33=true;decide+kernel)| (show dk _ 34=true;decide+kernel)| (show dk _ 35=true;decide+kernel)| (show dk _ 36=true;decide+kernel)| (show dk _ 37=true;decide+kernel)| (show dk _ 38=true;decide+kernel)| (show dk _ 39=true;decide+kernel)| (show dk _ 40=true;decide+kernel)| (show dk _ 41=true;decide+kernel)| (show dk _ 42=true;decide+kernel)| (show dk _ 43=true;decide+kernel)| (show dk _ 44=true;decide+kernel)| (show dk _ 45=true;decide+kernel)| (show dk _ 46=true;decide+kernel)| (show dk _ 47=true;decide+kernel)| (show dk _ 48=true;decide+kernel)| (show dk _ 49=true;decide+kernel)| (show dk _ 50=true;decide+kernel)| (show dk _ 51=true;decide+kernel)| (show dk _ 52=true;decide+kernel)| (show dk _ 53=true;decide+kernel)| (show dk _ 54=true;decide+kernel)| (show dk _ 55=true;decide+kernel)| (show dk _ 56=true;decide+kernel)| (show dk _ 57=true;decide+kernel)| (show dk _ 58=true;decide+kernel)| (show dk _ 59=true;decide+kernel)| (show dk _ 60=true;decide+kernel)| (show dk _ 61=true;decide+kernel)| (show dk _ 62=true;decide+kernel)| (show dk _ 63=true;decide+kernel)| (show dk _ 64=true;decide+kernel)| (show dk _ 65=true;decide+kernel)| (show dk _ 66=true;decide+kernel)| (show dk _ 67=true;decide+kernel)| (show dk _ 68=true;decide+kernel)| (show dk _ 69=true;decide+kernel)| (show dk _ 70=true;decide+kernel)| (show dk _ 71=true;decide+kernel)| (show dk _ 72=true;decide+kernel)):WP C (.region id l.toArray true) Q t h:=by
 unfold dk at hk;rw[I1]at hk;exact vB k hk.2 g
variable {F X Y P N:Prop} {c:Operand} {a b:Code} {q:Bool} {ops:Array Oper} {rest:List Oper} {dst:Option Nat} {op:Op} {ty:TypeId} {pos:String} {aft:Array Edge} {j d:Nat} {want:Bool} {K:Env→Prop} {T T' len e n by' p ver:Nat} {idx:List Nat} {xs rows ys:List AVal} {y:AVal} {k:AVal→Heap→Prop} {kv:AVal→Prop}
theorem sq(f:F)(g:Y)(e:F→X=Y:=by intro f;simp(maxSteps:=1000000) (disch:=first|omega| (simp only[go_sem, ↓reduceIte,seval];first|done|omega)|fail) only[go_sem, ↓reduceIte,seval,f];rfl):X:=(e f).mpr g
theorem zq(f:F)(e:F→X:=by intro f;simp(maxSteps:=1000000) (disch:=first|omega| (simp only[go_sem, ↓reduceIte,seval];first|done|omega)|fail) only[go_sem, ↓reduceIte,seval,f];all_goals fail):X:=e f
theorem cq(f:F)(h1:P→WP C a Q t h)(h2:N→WP C b Q t h)(e:F→aev C.G t c=.bool q:=by intro f;simp(maxSteps:=1000000) (disch:=first|omega| (simp only[go_sem, ↓reduceIte,seval];first|done|omega)|fail) only[go_sem, ↓reduceIte,seval,f];rfl)(hP:(q=true)=P:=by exact iG)(hN:(q=false)=N:=by exact iG):WP C (.cond c a b) Q t h:=kl (e f) (fun x=>h1 (hP.mp x)) (fun x=>h2 (hN.mp x))
theorem gq(f:F)(h1:P→WPl C ops Q (⟨dst,op,ty,pos,aft,some (j,want)⟩::rest) (upd t d (.bool true)) h)(h2:N→WPl C ops Q (⟨dst,op,ty,pos,aft,some (j,want)⟩::rest) (upd t d (.bool false)) h)(hd:(ops[j]?).bind (·.dst)=some d:=by rfl)(e:F→t d=.bool q:=by intro f;simp(maxSteps:=1000000) (disch:=first|omega| (simp only[go_sem, ↓reduceIte,seval];first|done|omega)|fail) only[go_sem, ↓reduceIte,seval,f];rfl)(hP:(q=true)=P:=by exact iG)(hN:(q=false)=N:=by exact iG):WPl C ops Q (⟨dst,op,ty,pos,aft,some (j,want)⟩::rest) t h:=jp hd (e f) (fun x=>h1 (hP.mp x)) (fun x=>h2 (hN.mp x))
theorem pq(f:F)(h1:P→WPp C ops (⟨dst,op,ty,pos,aft,some (j,want)⟩::rest) (upd t d (.bool true)) h K)(h2:N→WPp C ops (⟨dst,op,ty,pos,aft,some (j,want)⟩::rest) (upd t d (.bool false)) h K)(hd:(ops[j]?).bind (·.dst)=some d:=by rfl)(e:F→t d=.bool q:=by intro f;simp(maxSteps:=1000000) (disch:=first|omega| (simp only[go_sem, ↓reduceIte,seval];first|done|omega)|fail) only[go_sem, ↓reduceIte,seval,f];rfl)(hP:(q=true)=P:=by exact iG)(hN:(q=false)=N:=by exact iG):WPp C ops (⟨dst,op,ty,pos,aft,some (j,want)⟩::rest) t h K:=pD hd (e f) (fun x=>h1 (hP.mp x)) (fun x=>h2 (hN.mp x))
theorem rq(f:F)(hk:k (.sl n xs) h)(he:elmT C.P T=some e:=by simp only[go_sem];rfl)(hn:szOf C.P e=some n:=by simp only[go_sem];rfl)(hz:(zroT C.P e).map (fun z=>(z.cells.length,z.cells.all AVal.sto))=some (n,true):=by simp only[go_sem];try rfl)(hl:xs.length=len:=by simp)(h0:0<len:=by omega)(h1:0<n:=by omega)(hb:len*n≤16777216:=by omega)(hi:idx=List.range len:=by rfl)(hx:F→xs.all (fun x=>decide (x.cells.length=n)&&x.lies)=true:=by intro f;simp(maxSteps:=1000000) (disch:=first|omega| (simp only[go_sem, ↓reduceIte,seval];first|done|omega)|fail) only[go_sem, ↓reduceIte,seval,f];all_goals (simp;all_goals fail)):rowsK C T len idx xs h k:=mf he hn hz hl h0 h1 hb hi (hx f) hk
theorem xq(f:F)(hk:k (.hs h.length 0 0 len true) (h++[.row e n 0 xs]))(he:elmT C.P T=some e:=by simp only[go_sem];rfl)(hn:szOf C.P e=some n:=by simp only[go_sem];rfl)(hz:(zroT C.P e).map (fun z=>(z.cells.length,z.cells.all AVal.sto))=some (n,true):=by simp only[go_sem];try rfl)(hl:xs.length=len:=by simp)(h0:0<len:=by omega)(h1:0<n:=by omega)(hb:len*n≤16777216:=by omega)(hi:idx=List.range len:=by rfl)(hx:F→xs.all (fun x=>decide (x.cells.length=n)&&x.lies)=true:=by intro f;simp(maxSteps:=1000000) (disch:=first|omega| (simp only[go_sem, ↓reduceIte,seval];first|done|omega)|fail) only[go_sem, ↓reduceIte,seval,f];all_goals (simp;all_goals fail)):rowsK C T len idx xs h k:=tG he hn hz hl h0 h1 hb hi (hx f) hk
theorem vq(f:F)(hk:kv (.sl n xs))(he:elmT C.P T=some e:=by simp only[go_sem];rfl)(hn:szOf C.P e=some n:=by simp only[go_sem];rfl)(hz:(zroT C.P e).map (fun z=>(z.cells.length,z.cells.all AVal.sto))=some (n,true):=by simp only[go_sem];try rfl)(hl:xs.length=len:=by simp)(h0:0<len:=by omega)(h1:0<n:=by omega)(hb:len*n≤16777216:=by omega)(hi:idx=List.range len:=by rfl)(hx:F→xs.all (fun x=>decide (x.cells.length=n)&&x.lies)=true:=by intro f;simp(maxSteps:=1000000) (disch:=first|omega| (simp only[go_sem, ↓reduceIte,seval];first|done|omega)|fail) only[go_sem, ↓reduceIte,seval,f];all_goals (simp;all_goals fail)):rowsV C T len idx xs kv:=tH he hn hz hl h0 h1 hb hi (hx f) hk
theorem aq(f:F)(hk:k (.hs p (ver+1) 0 (len+ys.length) true) (h.set p (.row e n (ver+1) (rows++ys))))(hT:T'=T∨strT C.P T'=true:=by first|exact .inl rfl| (right;simp only[go_sem]))(he:elmT C.P T=some e:=by simp only[go_sem];rfl)(hn:szOf C.P e=some n:=by simp only[go_sem];rfl)(hb:byT C.P e=some by':=by simp only[go_sem];rfl)(hz:(zroT C.P e).map (fun z=>z.cells.length)=some n:=by simp only[go_sem];try rfl)(h0:0<n:=by omega)(hy:elemsOf h n y=some ys:=by simp only[elemsOf, ↓reduceIte];rfl)(hrow:F→getRow h p ver=some (e,n,rows):=by intro f;simp(maxSteps:=1000000) (disch:=first|omega| (simp only[go_sem, ↓reduceIte,seval];first|done|omega)|fail) only[go_sem, ↓reduceIte,seval,f];rfl)(hl:len=rows.length:=by simp)(hr:len+ys.length≤maxLen∧(len+ys.length)*by'≤140737488355328:=by refine⟨?_,?_⟩<;>simp only[maxLen,I5,I6,L8,J3]<;>omega):appK C T T' (.hs p ver 0 len true) y h k:=bY hT he hn hb hz h0 hy (hrow f) hl hr hk
theorem ee{x:Exit}{h0:Heap}{rs:List ResultVar}{R:AVal→Heap→Prop}(hQ:∀t h,need (resA C t h rs) (Fin h0 h R)→Q .ret t h∧Q .normal t h)(f:F)(g:Y)(e:F→need (resA C t h rs) (Fin h0 h R)=Y:=by intro f;simp(maxSteps:=1000000) (disch:=first|omega| (simp only[go_sem, ↓reduceIte,seval];first|done|omega)|fail) only[go_sem, ↓reduceIte,seval,f];rfl)(hx:x=.ret∨x=.normal:=by first|exact .inl rfl|exact .inr rfl):Q x t h:=by
 have:=hQ t h ((e f).mpr g);rcases hx with rfl|rfl
 ·exact this.1
 ·exact this.2
theorem ye{x:Exit}{h0:Heap}{rs:List ResultVar}{R:AVal→Heap→Prop}(hQ:∀t h,need (resA C t h rs) (Fin h0 h R)→Q .ret t h∧Q .normal t h)(f:F)(g:Y)(e:F→need (resA C t h rs) (Fin h0 h R)=Y:=by intro f;simp(maxSteps:=1000000) (disch:=first|omega| (simp only[go_sem, ↓reduceIte,seval];first|done|omega)|fail) only[go_sem, ↓reduceIte,seval,f,resA,resL,resA1];rfl)(hx:x=.ret∨x=.normal:=by first|exact .inl rfl|exact .inr rfl):Q x t h:=by
 have:=hQ t h ((e f).mpr g);rcases hx with rfl|rfl
 ·exact this.1
 ·exact this.2
theorem cO(f:F)(g:Y)(e:F→X=Y:=by intro f;simp(disch:=first|omega| (simp only[go_sem, ↓reduceIte,Nat.reduceEqDiff];done)|fail) only[go_sem, ↓reduceIte,Int.reduceToNat,Int.reduceLE,Int.reduceLT,Int.reduceSub,Int.reduceAdd,Nat.reduceEqDiff,Nat.reduceAdd,Nat.reduceLeDiff,Nat.reduceLT,Nat.reduceMul,Nat.reduceSub,f];rfl):X:=(e f).mpr g
theorem eP(f:F)(e:F→X:=by intro f;simp(disch:=first|omega| (simp only[go_sem, ↓reduceIte,Nat.reduceEqDiff];done)|fail) only[go_sem, ↓reduceIte,Int.reduceToNat,Int.reduceLE,Int.reduceLT,Int.reduceSub,Int.reduceAdd,Nat.reduceEqDiff,Nat.reduceAdd,Nat.reduceLeDiff,Nat.reduceLT,Nat.reduceMul,Nat.reduceSub,f];all_goals fail):X:=e f
theorem mj(f:F)(h1:P→WP C a Q t h)(h2:N→WP C b Q t h)(e:F→aev C.G t c=.bool q:=by intro f;simp(disch:=first|omega| (simp only[go_sem, ↓reduceIte,Nat.reduceEqDiff];done)|fail) only[go_sem, ↓reduceIte,Int.reduceToNat,Int.reduceLE,Int.reduceLT,Int.reduceSub,Int.reduceAdd,Nat.reduceEqDiff,Nat.reduceAdd,Nat.reduceLeDiff,Nat.reduceLT,Nat.reduceMul,Nat.reduceSub,f];rfl)(hP:(q=true)=P:=by exact iG)(hN:(q=false)=N:=by exact iG):WP C (.cond c a b) Q t h:=kl (e f) (fun x=>h1 (hP.mp x)) (fun x=>h2 (hN.mp x))
theorem eh(f:F)(h1:P→WPl C ops Q (⟨dst,op,ty,pos,aft,some (j,want)⟩::rest) (upd t d (.bool true)) h)(h2:N→WPl C ops Q (⟨dst,op,ty,pos,aft,some (j,want)⟩::rest) (upd t d (.bool false)) h)(hd:(ops[j]?).bind (·.dst)=some d:=by rfl)(e:F→t d=.bool q:=by intro f;simp(disch:=first|omega| (simp only[go_sem, ↓reduceIte,Nat.reduceEqDiff];done)|fail) only[go_sem, ↓reduceIte,Int.reduceToNat,Int.reduceLE,Int.reduceLT,Int.reduceSub,Int.reduceAdd,Nat.reduceEqDiff,Nat.reduceAdd,Nat.reduceLeDiff,Nat.reduceLT,Nat.reduceMul,Nat.reduceSub,f];rfl)(hP:(q=true)=P:=by exact iG)(hN:(q=false)=N:=by exact iG):WPl C ops Q (⟨dst,op,ty,pos,aft,some (j,want)⟩::rest) t h:=jp hd (e f) (fun x=>h1 (hP.mp x)) (fun x=>h2 (hN.mp x))
theorem Bo(f:F)(hk:k (.sl n xs) h)(he:elmT C.P T=some e:=by simp only[go_sem];rfl)(hn:szOf C.P e=some n:=by simp only[go_sem];rfl)(hz:(zroT C.P e).map (fun z=>(z.cells.length,z.cells.all AVal.sto))=some (n,true):=by simp only[go_sem];try rfl)(hl:xs.length=len:=by simp)(h0:0<len:=by omega)(h1:0<n:=by omega)(hb:len*n≤16777216:=by omega)(hi:idx=List.range len:=by rfl)(hx:F→xs.all (fun x=>decide (x.cells.length=n)&&x.lies)=true:=by intro f;simp(disch:=first|omega| (simp only[go_sem, ↓reduceIte,Nat.reduceEqDiff];done)|fail) only[go_sem, ↓reduceIte,Int.reduceToNat,Int.reduceLE,Int.reduceLT,Int.reduceSub,Int.reduceAdd,Nat.reduceEqDiff,Nat.reduceAdd,Nat.reduceLeDiff,Nat.reduceLT,Nat.reduceMul,Nat.reduceSub,f];all_goals (simp;all_goals fail)):rowsK C T len idx xs h k:=mf he hn hz hl h0 h1 hb hi (hx f) hk
theorem ej{x:Exit}{h0:Heap}{rs:List ResultVar}{R:AVal→Heap→Prop}(hQ:∀t h,need (resA C t h rs) (Fin h0 h R)→Q .ret t h∧Q .normal t h)(f:F)(g:Y)(e:F→need (resA C t h rs) (Fin h0 h R)=Y:=by intro f;simp(disch:=first|omega| (simp only[go_sem, ↓reduceIte,Nat.reduceEqDiff];done)|fail) only[go_sem, ↓reduceIte,Int.reduceToNat,Int.reduceLE,Int.reduceLT,Int.reduceSub,Int.reduceAdd,Nat.reduceEqDiff,Nat.reduceAdd,Nat.reduceLeDiff,Nat.reduceLT,Nat.reduceMul,Nat.reduceSub,f];rfl)(hx:x=.ret∨x=.normal:=by first|exact .inl rfl|exact .inr rfl):Q x t h:=by
 have:=hQ t h ((e f).mpr g);rcases hx with rfl|rfl
 ·exact this.1
 ·exact this.2
theorem fR{h0 h1 j:Heap}{R:AVal→Heap→Prop}{r:AVal}{A:Prop}(hc:Clo h0.length r)(g:A)(hh:h1=h0++j:=by first|exact(M4 _).symm|rfl| (simp only[N2,O9,M3];rfl))(e:A→R r h0:=by intro g;exact⟨g,rfl⟩):Fin h0 h1 R r:=Fin.plainE hh hc (e g)
theorem sb(rs:List ResultVar){f:FuncId}{fn:Func}{c:Code}{args:List AVal}{R:AVal→Heap→Prop}(hf:C.P.funcs[f]? =some fn)(hw:∀Q:Exit→Env→Heap→Prop,(∀t' h',need (resA C t' h' rs) (Fin h h' R)→Q .ret t' h'∧Q .normal t' h')→WP C c Q (env0 args) h)(hb:fn.body=some c:=by exact rfl)(hrs:fn.results.toList=rs:=by exact rfl)(hname:(fn.name== "runtime.NumGoroutine")=false:=by kernel_rfl)
  (hok:okCode fn.ntmps c=true:=by kernel_rfl)(hres:fn.results.toList.all (okRes fn.ntmps)=true:=by kernel_rfl)(hlen:decide (args.length≤fn.ntmps)=true:=by exact rfl):Sat C f args h R:=Sat.body rs hf hb hrs hname hok hres hlen hw
theorem lm{c:Code}{ms:List Nat}(I:Nat→Env→Heap→Prop)(n:Nat)(h0:Wkn C ms t h (I n))
  (round:∀(n':Nat) (s:Env) (h':Heap),I n' (mix ms s t) h'→∀K:Env→Heap→Prop,(∀m t2 h2,Wkn C ms t2 h2 (I m)→m<n'→K t2 h2)→WP C c (thenQ K Q) (mix ms s t) h')(hms:wr c=ms:=by simp only[go_sem,M3,O9];rfl):WP C (.loop c) Q t h:=tF hms I n h0 round
end Go.Av
namespace Go.Av
variable {C:Ctx} {Q:Exit→Env→Heap→Prop} {t:Env} {h:Heap} {a b:Code}
def Kt(C:Ctx)(a b:Code)(Q:Exit→Env→Heap→Prop):Env→Heap→Prop:=fun t h=>Wkn C (wr a) t h fun t h=>WP C b Q t h
@[congr] theorem Dw(C:Ctx)(a b:Code)(Q:Exit→Env→Heap→Prop):Kt C a b Q=Kt C a b Q:=rfl
structure Bx (Y:Prop):Prop where
 go:Y
theorem wG(g:WP C b Q t h):Kt C a b Q t h:=I9 g
theorem GQ{t1:Env}{h1:Heap}(w:Weak C (wr a) t h t1 h1)(g:WP C b Q t1 h1):Kt C a b Q t h:=⟨_,_,w,g⟩
theorem wS(hh:WP C a (thenQ (Kt C a b Q) Q) t h):WP C (.seq a b) Q t h:=hh
variable {F X Y:Prop} {fn:FuncId} {args:List AVal} {x:AVal} {h1:Heap} {KK:AVal→Heap→Prop}
theorem wk(f:F)(g:Y)(e:F→Bx Y→X:=by intro f g;(repeat (first|refine wS ?_|refine w2 ?_|refine w3 ?_| ((first|refine w4 ?_|refine w5 ?_|refine w6 ?_|refine w7 ?_|refine wD ?_);try refine sq f ?_)| (refine w8 ?_;refine sq f ?_;refine w9 ?_)|refine wG ?_| (refine rq f ?_;try refine sq f ?_)| (refine vq f ?_;try refine sq f ?_)));exact g.go):X:=e f ⟨g⟩
theorem kq(f:F)(c:Sat C fn args h (fun r h'=>r=x∧h'=h1))(g:Y)(e:F→Bx Y→KK x h1:=by intro f g;(try refine sq f ?_);(repeat (first|refine wS ?_|refine w2 ?_|refine w3 ?_| ((first|refine w4 ?_|refine w5 ?_|refine w6 ?_|refine w7 ?_|refine wD ?_);try refine sq f ?_)| (refine w8 ?_;refine sq f ?_;refine w9 ?_)|refine wG ?_| (refine rq f ?_;try refine sq f ?_)| (refine vq f ?_;try refine sq f ?_)));exact g.go):Sat C fn args h KK:=c.mono (by rintro r h' ⟨rfl,rfl⟩;exact e f ⟨g⟩)
theorem wn(f:F)(g:Y)(e:F→Bx Y→X:=by intro f g;(repeat (first|refine wS ?_|refine w2 ?_|refine w3 ?_| ((first|refine w4 ?_|refine w5 ?_|refine w6 ?_|refine w7 ?_);try refine sq f ?_)| (refine w8 ?_;refine sq f ?_;refine w9 ?_)|refine wG ?_| (refine rq f ?_;try refine sq f ?_)| (refine vq f ?_;try refine sq f ?_)));exact g.go):X:=e f ⟨g⟩
theorem kn(f:F)(c:Sat C fn args h (fun r h'=>r=x∧h'=h1))(g:Y)(e:F→Bx Y→KK x h1:=by intro f g;(try refine sq f ?_);(repeat (first|refine wS ?_|refine w2 ?_|refine w3 ?_| ((first|refine w4 ?_|refine w5 ?_|refine w6 ?_|refine w7 ?_);try refine sq f ?_)| (refine w8 ?_;refine sq f ?_;refine w9 ?_)|refine wG ?_| (refine rq f ?_;try refine sq f ?_)| (refine vq f ?_;try refine sq f ?_)));exact g.go):Sat C fn args h KK:=c.mono (by rintro r h' ⟨rfl,rfl⟩;exact e f ⟨g⟩)
theorem kx(f:F)(c:Sat C fn args h (fun r h'=>r=x∧h'=h1))(g:Y)(e:F→Bx Y→KK x h1:=by intro f g;(try refine sq f ?_);(repeat (first|refine wS ?_|refine w2 ?_|refine w3 ?_| ((first|refine w4 ?_|refine w5 ?_|refine w6 ?_|refine w7 ?_|refine wD ?_);try refine sq f ?_)| (refine w8 ?_;refine sq f ?_;refine w9 ?_)|refine wG ?_| (refine xq f ?_;try refine sq f ?_)));exact g.go):Sat C fn args h KK:=c.mono (by rintro r h' ⟨rfl,rfl⟩;exact e f ⟨g⟩)
theorem aM(f:F)(g:Y)(e:F→Bx Y→X:=by intro f g;(repeat (first|refine wS ?_|refine w2 ?_|refine w3 ?_| ((first|refine w4 ?_|refine w5 ?_|refine w6 ?_|refine w7 ?_|refine wD ?_);try refine cO f ?_)| (refine w8 ?_;refine cO f ?_;refine w9 ?_)|refine wG ?_| (refine Bo f ?_;try refine cO f ?_)| (refine vqo f ?_;try refine cO f ?_)));exact g.go):X:=e f ⟨g⟩
theorem vl(f:F)(c:Sat C fn args h (fun r h'=>r=x∧h'=h1))(g:Y)(e:F→Bx Y→KK x h1:=by intro f g;(try refine cO f ?_);(repeat (first|refine wS ?_|refine w2 ?_|refine w3 ?_| ((first|refine w4 ?_|refine w5 ?_|refine w6 ?_|refine w7 ?_|refine wD ?_);try refine cO f ?_)| (refine w8 ?_;refine cO f ?_;refine w9 ?_)|refine wG ?_| (refine Bo f ?_;try refine cO f ?_)| (refine vqo f ?_;try refine cO f ?_)));exact g.go):Sat C fn args h KK:=c.mono (by rintro r h' ⟨rfl,rfl⟩;exact e f ⟨g⟩)
theorem zZz (f:F)(e:F→X:=by intro f;first|exact zq f|rfl|omega|trivial):X:=e f
theorem gGp{Y1 Y2:Prop}(f:F)(g1:Y1)(g2:Y2)(e:F→Bx Y1→Bx Y2→X:=by intro f a b;first|exact gq f a.go b.go|exact pq f a.go b.go):X:=e f ⟨g1⟩ ⟨g2⟩
end Go.Av
namespace Go.Av.Ty
open Go Go.Av Go.Proofs
@[go_sem] theorem GR:szOf Tryz.prog 3=some 1:=by kernel_rfl
@[go_sem] theorem GS:aggT Tryz.prog 3=some false:=by kernel_rfl
@[go_sem] theorem EP:kindT Tryz.prog 3=0:=by kernel_rfl
@[go_sem] theorem GT:zroT Tryz.prog 3=some (.int .i64 0):=by kernel_rfl
@[go_sem] theorem GU:szOf Tryz.prog 4=some 1:=by kernel_rfl
@[go_sem] theorem GV:aggT Tryz.prog 4=some false:=by kernel_rfl
@[go_sem] theorem GW:szOf Tryz.prog 5=some 1:=by kernel_rfl
@[go_sem] theorem Hk:byT Tryz.prog 5=some 1:=by kernel_rfl
@[go_sem] theorem GX:zroT Tryz.prog 5=some (.int .u8 0):=by kernel_rfl
@[go_sem] theorem Hl:Program.underlying Tryz.prog 5=some (.int .u8):=by kernel_rfl
@[go_sem] theorem GY:szOf Tryz.prog 9=some 1:=by kernel_rfl
@[go_sem] theorem GZ:aggT Tryz.prog 9=some false:=by kernel_rfl
@[go_sem] theorem Hm:byT Tryz.prog 9=some 16:=by kernel_rfl
@[go_sem] theorem EQ:kindT Tryz.prog 9=2:=by kernel_rfl
@[go_sem] theorem H1:strT Tryz.prog 9=true:=by kernel_rfl
@[go_sem] theorem H2:zroT Tryz.prog 9=some (.str []):=by kernel_rfl
@[go_sem] theorem ER:szOf Tryz.prog 21=some 1:=by kernel_rfl
@[go_sem] theorem ES:aggT Tryz.prog 21=some false:=by kernel_rfl
@[go_sem] theorem H3:byT Tryz.prog 21=some 4:=by kernel_rfl
@[go_sem] theorem EU:zroT Tryz.prog 21=some (.int .i32 0):=by kernel_rfl
@[go_sem] theorem H4:Program.underlying Tryz.prog 21=some (.int .i32):=by kernel_rfl
@[go_sem] theorem EV:szOf Tryz.prog 22=some 1:=by kernel_rfl
@[go_sem] theorem EW:aggT Tryz.prog 22=some false:=by kernel_rfl
@[go_sem] theorem EX:elmT Tryz.prog 22=some 34:=by kernel_rfl
@[go_sem] theorem EY:zroT Tryz.prog 22=some (.nil (.slice none 0 0)):=by kernel_rfl
@[go_sem] theorem EZ:szOf Tryz.prog 23=some 1:=by kernel_rfl
@[go_sem] theorem F0:aggT Tryz.prog 23=some false:=by kernel_rfl
@[go_sem] theorem F1:elmT Tryz.prog 23=some 55:=by kernel_rfl
@[go_sem] theorem Fa:szOf Tryz.prog 27=some 1:=by kernel_rfl
@[go_sem] theorem Fb:aggT Tryz.prog 27=some false:=by kernel_rfl
@[go_sem] theorem Fc:szOf Tryz.prog 32=some 1:=by kernel_rfl
@[go_sem] theorem Ff:aggT Tryz.prog 32=some false:=by kernel_rfl
@[go_sem] theorem Fg:zroT Tryz.prog 32=some (.nil .nilFunc):=by kernel_rfl
@[go_sem] theorem Fh:szOf Tryz.prog 34=some 7:=by kernel_rfl
@[go_sem] theorem Fi:aggT Tryz.prog 34=some true:=by kernel_rfl
@[go_sem] theorem H5:byT Tryz.prog 34=some 80:=by kernel_rfl
@[go_sem] theorem Fj:nFld Tryz.prog 34=some 7:=by kernel_rfl
@[go_sem] theorem Bp:fOff Tryz.prog 34 0=some (0,3,1):=by kernel_rfl
@[go_sem] theorem Bq:fOff Tryz.prog 34 1=some (1,3,1):=by kernel_rfl
@[go_sem] theorem Bt:fOff Tryz.prog 34 2=some (2,3,1):=by kernel_rfl
@[go_sem] theorem Bu:fOff Tryz.prog 34 3=some (3,3,1):=by kernel_rfl
@[go_sem] theorem Bv:fOff Tryz.prog 34 4=some (4,9,1):=by kernel_rfl
@[go_sem] theorem Bw:fOff Tryz.prog 34 5=some (5,9,1):=by kernel_rfl
@[go_sem] theorem By:fOff Tryz.prog 34 6=some (6,9,1):=by kernel_rfl
@[go_sem] theorem Bz:plainT Tryz.prog 34=some [0,0,0,0,2,2,2]:=by kernel_rfl
@[go_sem] theorem Fk:zroT Tryz.prog 34=some (.agg [.int .i64 0,.int .i64 0,.int .i64 0,.int .i64 0,.str [],.str [],.str []]):=by kernel_rfl
@[go_sem] theorem Fl:szOf Tryz.prog 36=some 1:=by kernel_rfl
@[go_sem] theorem Fm:aggT Tryz.prog 36=some false:=by kernel_rfl
@[go_sem] theorem Fp:elmT Tryz.prog 36=some 44:=by kernel_rfl
@[go_sem] theorem Fq:szOf Tryz.prog 37=some 1:=by kernel_rfl
@[go_sem] theorem Fr:aggT Tryz.prog 37=some false:=by kernel_rfl
@[go_sem] theorem Fs:elmT Tryz.prog 37=some 48:=by kernel_rfl
@[go_sem] theorem Ft:szOf Tryz.prog 38=some 1:=by kernel_rfl
@[go_sem] theorem Fu:aggT Tryz.prog 38=some false:=by kernel_rfl
@[go_sem] theorem Fv:elmT Tryz.prog 38=some 86:=by kernel_rfl
@[go_sem] theorem Fw:szOf Tryz.prog 39=some 1:=by kernel_rfl
@[go_sem] theorem Fx:aggT Tryz.prog 39=some false:=by kernel_rfl
@[go_sem] theorem Fy:elmT Tryz.prog 39=some 98:=by kernel_rfl
@[go_sem] theorem FA:szOf Tryz.prog 41=some 9:=by kernel_rfl
@[go_sem] theorem FB:aggT Tryz.prog 41=some true:=by kernel_rfl
@[go_sem] theorem FC:nFld Tryz.prog 41=some 9:=by kernel_rfl
@[go_sem] theorem BA:fOff Tryz.prog 41 0=some (0,3,1):=by kernel_rfl
@[go_sem] theorem BB:fOff Tryz.prog 41 1=some (1,36,1):=by kernel_rfl
@[go_sem] theorem BC:fOff Tryz.prog 41 2=some (2,37,1):=by kernel_rfl
@[go_sem] theorem BD:fOff Tryz.prog 41 3=some (3,38,1):=by kernel_rfl
@[go_sem] theorem BE:fOff Tryz.prog 41 4=some (4,39,1):=by kernel_rfl
@[go_sem] theorem BF:fOff Tryz.prog 41 5=some (5,3,1):=by kernel_rfl
@[go_sem] theorem BG:fOff Tryz.prog 41 6=some (6,3,1):=by kernel_rfl
@[go_sem] theorem BH:fOff Tryz.prog 41 7=some (7,3,1):=by kernel_rfl
@[go_sem] theorem BI:fOff Tryz.prog 41 8=some (8,3,1):=by kernel_rfl
@[go_sem] theorem FD:zroT Tryz.prog 41=some (.agg [.int .i64 0,.nil (.slice none 0 0),.nil (.slice none 0 0),.nil (.slice none 0 0),.nil (.slice none 0 0),.int .i64 0,.int .i64 0,.int .i64 0,.int .i64 0]):=by kernel_rfl
@[go_sem] theorem FE:szOf Tryz.prog 44=some 3:=by kernel_rfl
@[go_sem] theorem FF:aggT Tryz.prog 44=some true:=by kernel_rfl
@[go_sem] theorem H6:byT Tryz.prog 44=some 32:=by kernel_rfl
@[go_sem] theorem FG:nFld Tryz.prog 44=some 3:=by kernel_rfl
@[go_sem] theorem BJ:fOff Tryz.prog 44 0=some (0,3,1):=by kernel_rfl
@[go_sem] theorem BK:fOff Tryz.prog 44 1=some (1,3,1):=by kernel_rfl
@[go_sem] theorem BL:fOff Tryz.prog 44 2=some (2,9,1):=by kernel_rfl
@[go_sem] theorem BM:plainT Tryz.prog 44=some [0,0,2]:=by kernel_rfl
@[go_sem] theorem FH:zroT Tryz.prog 44=some (.agg [.int .i64 0,.int .i64 0,.str []]):=by kernel_rfl
@[go_sem] theorem FI:szOf Tryz.prog 48=some 4:=by kernel_rfl
@[go_sem] theorem FJ:aggT Tryz.prog 48=some true:=by kernel_rfl
@[go_sem] theorem H7:byT Tryz.prog 48=some 48:=by kernel_rfl
@[go_sem] theorem FK:nFld Tryz.prog 48=some 4:=by kernel_rfl
@[go_sem] theorem BN:fOff Tryz.prog 48 0=some (0,3,1):=by kernel_rfl
@[go_sem] theorem BO:fOff Tryz.prog 48 1=some (1,3,1):=by kernel_rfl
@[go_sem] theorem BP:fOff Tryz.prog 48 2=some (2,9,1):=by kernel_rfl
@[go_sem] theorem BQ:fOff Tryz.prog 48 3=some (3,9,1):=by kernel_rfl
@[go_sem] theorem BR:plainT Tryz.prog 48=some [0,0,2,2]:=by kernel_rfl
@[go_sem] theorem FL:zroT Tryz.prog 48=some (.agg [.int .i64 0,.int .i64 0,.str [],.str []]):=by kernel_rfl
@[go_sem] theorem FM:szOf Tryz.prog 55=some 3:=by kernel_rfl
@[go_sem] theorem FN:aggT Tryz.prog 55=some true:=by kernel_rfl
@[go_sem] theorem FO:nFld Tryz.prog 55=some 3:=by kernel_rfl
@[go_sem] theorem BS:fOff Tryz.prog 55 0=some (0,9,1):=by kernel_rfl
@[go_sem] theorem BT:fOff Tryz.prog 55 1=some (1,9,1):=by kernel_rfl
@[go_sem] theorem BU:fOff Tryz.prog 55 2=some (2,23,1):=by kernel_rfl
@[go_sem] theorem FP:zroT Tryz.prog 55=some (.agg [.str [],.str [],.nil (.slice none 0 0)]):=by kernel_rfl
@[go_sem] theorem FQ:szOf Tryz.prog 73=some 1:=by kernel_rfl
@[go_sem] theorem FR:aggT Tryz.prog 73=some false:=by kernel_rfl
@[go_sem] theorem FS:mapT Tryz.prog 73=some (3,44):=by kernel_rfl
@[go_sem] theorem FT:szOf Tryz.prog 74=some 1:=by kernel_rfl
@[go_sem] theorem FU:aggT Tryz.prog 74=some false:=by kernel_rfl
@[go_sem] theorem FV:mapT Tryz.prog 74=some (3,48):=by kernel_rfl
@[go_sem] theorem FW:szOf Tryz.prog 75=some 1:=by kernel_rfl
@[go_sem] theorem FX:aggT Tryz.prog 75=some false:=by kernel_rfl
@[go_sem] theorem FY:mapT Tryz.prog 75=some (3,86):=by kernel_rfl
@[go_sem] theorem FZ:szOf Tryz.prog 76=some 1:=by kernel_rfl
@[go_sem] theorem G0:aggT Tryz.prog 76=some false:=by kernel_rfl
@[go_sem] theorem G1:mapT Tryz.prog 76=some (3,98):=by kernel_rfl
@[go_sem] theorem G2:szOf Tryz.prog 77=some 1:=by kernel_rfl
@[go_sem] theorem G3:aggT Tryz.prog 77=some false:=by kernel_rfl
@[go_sem] theorem G4:mapT Tryz.prog 77=some (88,3):=by kernel_rfl
@[go_sem] theorem G5:szOf Tryz.prog 78=some 1:=by kernel_rfl
@[go_sem] theorem G6:aggT Tryz.prog 78=some false:=by kernel_rfl
@[go_sem] theorem G7:mapT Tryz.prog 78=some (9,3):=by kernel_rfl
@[go_sem] theorem G8:szOf Tryz.prog 79=some 1:=by kernel_rfl
@[go_sem] theorem G9:aggT Tryz.prog 79=some false:=by kernel_rfl
@[go_sem] theorem Ga:mapT Tryz.prog 79=some (131,3):=by kernel_rfl
@[go_sem] theorem Gb:szOf Tryz.prog 80=some 1:=by kernel_rfl
@[go_sem] theorem Gc:aggT Tryz.prog 80=some false:=by kernel_rfl
@[go_sem] theorem Gd:mapT Tryz.prog 80=some (3,3):=by kernel_rfl
@[go_sem] theorem Ge:arrT Tryz.prog 81=some (4,3):=by kernel_rfl
@[go_sem] theorem Gf:szOf Tryz.prog 83=some 13:=by kernel_rfl
@[go_sem] theorem Gg:aggT Tryz.prog 83=some true:=by kernel_rfl
@[go_sem] theorem Gh:nFld Tryz.prog 83=some 10:=by kernel_rfl
@[go_sem] theorem BV:fOff Tryz.prog 83 0=some (0,3,1):=by kernel_rfl
@[go_sem] theorem BW:fOff Tryz.prog 83 1=some (1,73,1):=by kernel_rfl
@[go_sem] theorem BX:fOff Tryz.prog 83 2=some (2,74,1):=by kernel_rfl
@[go_sem] theorem BY:fOff Tryz.prog 83 3=some (3,75,1):=by kernel_rfl
@[go_sem] theorem BZ:fOff Tryz.prog 83 4=some (4,76,1):=by kernel_rfl
@[go_sem] theorem C1:fOff Tryz.prog 83 5=some (5,77,1):=by kernel_rfl
@[go_sem] theorem C2:fOff Tryz.prog 83 6=some (6,78,1):=by kernel_rfl
@[go_sem] theorem C3:fOff Tryz.prog 83 7=some (7,79,1):=by kernel_rfl
@[go_sem] theorem C4:fOff Tryz.prog 83 8=some (8,80,1):=by kernel_rfl
@[go_sem] theorem C6:fOff Tryz.prog 83 9=some (9,81,4):=by kernel_rfl
@[go_sem] theorem Gi:zroT Tryz.prog 83=some (.agg [.int .i64 0,.nil (.map none),.nil (.map none),.nil (.map none),.nil (.map none),.nil (.map none),.nil (.map none),.nil (.map none),.nil (.map none),.int .i64 0,.int .i64 0,.int .i64 0,.int .i64 0]):=by kernel_rfl
@[go_sem] theorem Gj:szOf Tryz.prog 84=some 1:=by kernel_rfl
@[go_sem] theorem Gk:aggT Tryz.prog 84=some false:=by kernel_rfl
@[go_sem] theorem Gl:elmT Tryz.prog 84=some 9:=by kernel_rfl
@[go_sem] theorem Gm:szOf Tryz.prog 86=some 9:=by kernel_rfl
@[go_sem] theorem Gn:aggT Tryz.prog 86=some true:=by kernel_rfl
@[go_sem] theorem H8:byT Tryz.prog 86=some 104:=by kernel_rfl
@[go_sem] theorem Gp:nFld Tryz.prog 86=some 9:=by kernel_rfl
@[go_sem] theorem C7:fOff Tryz.prog 86 0=some (0,3,1):=by kernel_rfl
@[go_sem] theorem C8:fOff Tryz.prog 86 1=some (1,3,1):=by kernel_rfl
@[go_sem] theorem C9:fOff Tryz.prog 86 2=some (2,3,1):=by kernel_rfl
@[go_sem] theorem Ca:fOff Tryz.prog 86 3=some (3,9,1):=by kernel_rfl
@[go_sem] theorem Cb:fOff Tryz.prog 86 4=some (4,9,1):=by kernel_rfl
@[go_sem] theorem Cc:fOff Tryz.prog 86 5=some (5,9,1):=by kernel_rfl
@[go_sem] theorem Cd:fOff Tryz.prog 86 6=some (6,4,1):=by kernel_rfl
@[go_sem] theorem Ce:fOff Tryz.prog 86 7=some (7,4,1):=by kernel_rfl
@[go_sem] theorem Cf:fOff Tryz.prog 86 8=some (8,84,1):=by kernel_rfl
@[go_sem] theorem Gq:zroT Tryz.prog 86=some (.agg [.int .i64 0,.int .i64 0,.int .i64 0,.str [],.str [],.str [],.bool false,.bool false,.nil (.slice none 0 0)]):=by kernel_rfl
@[go_sem] theorem Gs:nFld Tryz.prog 88=some 2:=by kernel_rfl
@[go_sem] theorem Cg:fOff Tryz.prog 88 0=some (0,3,1):=by kernel_rfl
@[go_sem] theorem Ch:fOff Tryz.prog 88 1=some (1,9,1):=by kernel_rfl
@[go_sem] theorem Ci:plainT Tryz.prog 88=some [0,2]:=by kernel_rfl
@[go_sem] theorem Gt:zroT Tryz.prog 88=some (.agg [.int .i64 0,.str []]):=by kernel_rfl
@[go_sem] theorem Gu:szOf Tryz.prog 98=some 3:=by kernel_rfl
@[go_sem] theorem Gv:aggT Tryz.prog 98=some true:=by kernel_rfl
@[go_sem] theorem H9:byT Tryz.prog 98=some 40:=by kernel_rfl
@[go_sem] theorem Gw:nFld Tryz.prog 98=some 3:=by kernel_rfl
@[go_sem] theorem Cj:fOff Tryz.prog 98 0=some (0,3,1):=by kernel_rfl
@[go_sem] theorem Ck:fOff Tryz.prog 98 1=some (1,9,1):=by kernel_rfl
@[go_sem] theorem Cl:fOff Tryz.prog 98 2=some (2,9,1):=by kernel_rfl
@[go_sem] theorem Cm:plainT Tryz.prog 98=some [0,2,2]:=by kernel_rfl
@[go_sem] theorem Gx:zroT Tryz.prog 98=some (.agg [.int .i64 0,.str [],.str []]):=by kernel_rfl
@[go_sem] theorem Dx:nFld Tryz.prog 107=some 1:=by kernel_rfl
@[go_sem] theorem zE:fOff Tryz.prog 107 0=some (0,41,9):=by kernel_rfl
@[go_sem] theorem Dy:zroT Tryz.prog 107=some (.agg [.int .i64 0,.nil (.slice none 0 0),.nil (.slice none 0 0),.nil (.slice none 0 0),.nil (.slice none 0 0),.int .i64 0,.int .i64 0,.int .i64 0,.int .i64 0]):=by kernel_rfl
@[go_sem] theorem Dz:szOf Tryz.prog 120=some 1:=by kernel_rfl
@[go_sem] theorem DA:aggT Tryz.prog 120=some false:=by kernel_rfl
@[go_sem] theorem DB:zroT Tryz.prog 120=some (.nil .nilFunc):=by kernel_rfl
@[go_sem] theorem DC:nFld Tryz.prog 131=some 2:=by kernel_rfl
@[go_sem] theorem zF:fOff Tryz.prog 131 0=some (0,3,1):=by kernel_rfl
@[go_sem] theorem zG:fOff Tryz.prog 131 1=some (1,9,1):=by kernel_rfl
@[go_sem] theorem zH:plainT Tryz.prog 131=some [0,2]:=by kernel_rfl
@[go_sem] theorem DD:zroT Tryz.prog 131=some (.agg [.int .i64 0,.str []]):=by kernel_rfl
@[go_sem] theorem DE:elmT Tryz.prog 141=some 3:=by kernel_rfl
@[go_sem] theorem DF:szOf Tryz.prog 154=some 1:=by kernel_rfl
@[go_sem] theorem DG:aggT Tryz.prog 154=some false:=by kernel_rfl
@[go_sem] theorem DH:szOf Tryz.prog 155=some 1:=by kernel_rfl
@[go_sem] theorem DI:aggT Tryz.prog 155=some false:=by kernel_rfl
@[go_sem] theorem DJ:elmT Tryz.prog 155=some 5:=by kernel_rfl
@[go_sem] theorem zI:fOff Tryz.prog 157 0=some (0,154,1):=by kernel_rfl
@[go_sem] theorem zJ:fOff Tryz.prog 157 1=some (1,155,1):=by kernel_rfl
@[go_sem] theorem DK:zroT Tryz.prog 157=some (.agg [.nil (.pointer none),.nil (.slice none 0 0)]):=by kernel_rfl
@[go_sem] theorem DL:elmT Tryz.prog 209=some 21:=by kernel_rfl
@[go_sem] theorem DM:szOf Tryz.prog 231=some 6:=by kernel_rfl
@[go_sem] theorem DN:aggT Tryz.prog 231=some true:=by kernel_rfl
@[go_sem] theorem DO:nFld Tryz.prog 231=some 6:=by kernel_rfl
@[go_sem] theorem zK:fOff Tryz.prog 231 0=some (0,3,1):=by kernel_rfl
@[go_sem] theorem zL:fOff Tryz.prog 231 1=some (1,3,1):=by kernel_rfl
@[go_sem] theorem zM:fOff Tryz.prog 231 2=some (2,3,1):=by kernel_rfl
@[go_sem] theorem zN:fOff Tryz.prog 231 3=some (3,3,1):=by kernel_rfl
@[go_sem] theorem zO:fOff Tryz.prog 231 4=some (4,3,1):=by kernel_rfl
@[go_sem] theorem zP:fOff Tryz.prog 231 5=some (5,3,1):=by kernel_rfl
@[go_sem] theorem DP:zroT Tryz.prog 231=some (.agg [.int .i64 0,.int .i64 0,.int .i64 0,.int .i64 0,.int .i64 0,.int .i64 0]):=by kernel_rfl
@[go_sem] theorem Gy:Program.underlying Tryz.prog 244=some (.int .u32):=by kernel_rfl
end Go.Av.Ty
namespace Go.Av
open Go Go.Proofs Go.RowKit
noncomputable def CT(G:Nat→Option (List AVal)):Ctx:=⟨Tryz.prog,G⟩
@[go_sem] theorem HP(G:Nat→Option (List AVal)):(CT G).P=Tryz.prog:=(rfl)
@[go_sem] theorem xi(G:Nat→Option (List AVal)):(CT G).G=G:=(rfl)
abbrev Bs:=List UInt8
abbrev At:=Bs×Bs
def At.av(a:At):AVal:=.agg [.str a.1,.str a.2]
abbrev Tok:=Int×Bs×List At×Bs
def Tok.av(t:Tok):AVal:=.agg [.int .i64 t.1,.str t.2.1,.sl 2 (t.2.2.1.map At.av),.str t.2.2.2]
inductive Elem where
 |mk (name:Bs) (attrs:List At) (text:Bs) (kids:List Elem)
 deriving Inhabited
namespace Elem
def name:Elem→Bs| .mk n _ _ _=>n
def attrs:Elem→List At| .mk _ a _ _=>a
def kids:Elem→List Elem| .mk _ _ _ k=>k
end Elem
mutual
def Elem.av:Elem→AVal
 | .mk n a t k=>.agg [.str n,.sl 2 (a.map At.av),.str t,.sl 4 (avs k)]
def avs:List Elem→List AVal
 | []=>[]
 |e::l=>e.av::avs l
end
def At.sz(a:At):Nat:=1+a.1.length+a.2.length
def szs{α:Type}(f:α→Nat):List α→Nat
 | []=>0
 |a::l=>f a+szs f l
mutual
def Elem.sz:Elem→Nat
 | .mk n a t k=>1+n.length+szs At.sz a+t.length+kidsz k
def kidsz:List Elem→Nat
 | []=>0
 |e::l=>e.sz+kidsz l
end
theorem oF{α:Type}(f:α→Nat){l:List α}{a:α}(h:a∈l):f a≤szs f l:=by
 induction l with
 |nil=>cases h
 |cons b l ih=>
  rw[szs];rcases K4.1 h with rfl|h
  ·omega
  ·have:=ih h;omega
theorem vF{α:Type}(f:α→Nat)(hf:∀a,1≤f a)(l:List α):l.length≤szs f l:=by
 induction l with
 |nil=>exact U3 _
 |cons b l ih=>rw[szs,I6];have:=hf b;omega
def Tok.sz(t:Tok):Nat:=1+t.2.1.length+szs At.sz t.2.2.1+t.2.2.2.length
@[go_sem] theorem Cn(h:Heap)(a b:Bool):abin Tryz.prog h .eql 4 (.bool a) (.bool b)=some (.bool (a==b)):=by
 have hT:Tryz.prog.underlying 4=some .bool:=by kernel_rfl
 simp only[abin,hT]
@[go_sem] theorem xj(n:Nat):(n:Int)+1=((n+1:Nat):Int):=(rfl)
theorem ac{α:Type}{l:List α}{k:Nat}(h:k<l.length):∃a,l[k]? =some a∧a∈l:=⟨l[k],I2 h,List.getElem_mem h⟩
theorem aA{α:Type}{l:List α}{k:Nat}{a:α}(h:l[k]? =some a):l.drop k=a::l.drop (k+1):=by
 obtain⟨hlt,rfl⟩:=f9.1 h;exact W6 hlt
theorem aE{α:Type}{l:List α}{k:Nat}(h:l.length≤k):l.drop k=[]:=List.drop_eq_nil_of_le h
end Go.Av
namespace Go.Av
open Go.RowKit Go.ChangeShapes Go.WideShapes
section
variable {H:Type} {enc:TypeId×Value→H} {P:Program}
theorem gC{w w':World}{base:Nat}{sp:Nat→Bool}{held:Bool}:∀{ts:List TypeId} {vs:List Value} {ds:List (DataW H)} {ps:List MemPlace},DataW.TrodAll enc P w base sp held ts vs ds ps→(∀p∈ps,w.sameAt w' p)→DataW.TrodAll enc P w' base sp held ts vs ds ps
 | [],[],[],_,h,_=>h
 |_::_,_::_,_::_,_,⟨p,q,⟨n,h1⟩,h2,e⟩,hs=>⟨p,q,⟨n,DataW.trod_carry n _ _ _ h1 (fun x hx=>hs x (by rw[e];exact List.mem_append_left _ hx))⟩,gC h2 (fun x hx=>hs x (by rw[e];exact List.mem_append_right _ hx)),e⟩
theorem lB{f:Func}{s:ChangeSpec}{apart fresh handsOn again:Bool}{W W':World}{args:Array Value}{v:Value}{ds gs:List (DataW H)}{before:List MemPlace}
  (K:Kids P (· < P.types.size))(full:∀t e,t<P.types.size→P.underlying t=some (.slice e)→0<P.cellsOf e)(hts:∀t∈f.params.toList,t<P.types.size)
  (hv:s.vars=[])(hfn:s.fn H (ds++gs)= {results:=[.lit (.bool true)],args:=ds}){tb:TypeId}(hres:f.resultTypes= #[tb])(hb:P.underlying tb=some .bool)
  (hW:DataW.Whole enc P f.params.toList s.vars apart W args.toList ds gs before)(hbel:Below W.heap.size W W')(hvv:v=.bool true):
  s.post enc P f apart fresh handsOn again W args v W':=by
 subst hvv;have hlt:=hW.lt;obtain⟨p,q,hA,hV,hbe,hz,hn⟩:=hW;have hV0:=hV;rw[hv]at hV0;obtain⟨rfl,rfl⟩:=trodVars_none hV0;simp only[M4]at hbe;subst hbe;have hA':=gC hA fun x hx=>hbel.same (hlt x hx)
 have hold:∀x∈before,(fun b=>decide (b<W.heap.size)) x.block=true:=fun x hx=>by simpa using hlt x hx
 have hr:∀(b:Nat) (sp:Nat→Bool) (hd:Bool),DataW.TrodAll enc P W' b sp hd f.resultTypes.toList ((Value.bool true).resultList f.resultTypes.size) [.lit (.bool true)] []:=fun b sp hd=>by
  rw[hres];exact trodAll_mk1 (shut_bool hb true)
 refine⟨ds,[],before,[],before,[],⟨before,[],hA,hV,by simp,hz,hn⟩,by rw[hfn];exact hr _ _ _,by rw[hfn];exact hA'.respare K full hts hold,by rw[hfn,hv];rfl,hbel.frame _,fun _=>⟨ok_one hres rfl (okWide_bool_mk hb _),[.lit (.bool true)]++ds,[],before,⟨before,[],?_,by rw[hv];rfl,by simp,?_,fun ha=>hn ha⟩,fun x hx _=>hx⟩⟩
 ·have:=trodAll_append hA' (hr 0 (fun _=>true) true);simpa using this
 ·intro b off hp;have h1:=hz b off hp;have h2:=hlt _ hp;rw[hbel.frozen (p:=⟨b,off,none⟩) h2];exact h1
def lies0(W:World):Addr→Prop:=fun a=>(W.cell? a).isSome=true
theorem tO{W:World}{a:Addr}(h:lies0 W a):a.block<W.heap.size:=by
 unfold lies0 World.cell? at h;refine Nat.lt_of_not_le fun hle=>?_
 rw[Array.getElem?_eq_none hle]at h;cases h
theorem zQ{C:Ctx}{W:World}(hg:∀g cs,C.G g=some cs→Rep W (lies0 W) [] (.ad cs) (.pointer (some ⟨g,0,none⟩))):Fits C W.heap.size (lies0 W) [] [] W:=
 ⟨hg,rfl,fun p q m m' b h=>by simp at h,fun p m b h=>by simp at h,J0 _,fun a ha=>tO ha,fun p m k h=>by simp at h⟩
theorem ml{C:Ctx}{f:FuncId}{fn:Func}{c:Code}(hf:C.P.funcs[f]? =some fn)(hb:fn.body=some c)(hname:(fn.name== "runtime.NumGoroutine")=false){W:World}{args:Array Value}{xs:List AVal}
  (fit:Fits C W.heap.size (lies0 W) [] [] W)(rl:RepL W (lies0 W) [] xs args.toList)(sat:Sat C f xs [] fun r h'=>r=.bool true∧h'=[]):
  Calls C.P f args W fun e W'=>e=.returned (.bool true)∧Below W.heap.size W W':=by
 have h:=sat _ _ [] W args.toList fit rl;have hcall:(callFunc f args.toList.toArray).run C.P W=.ok (.enter f args.toList.toArray) W:=by
  have hne:fn.name≠ "runtime.NumGoroutine" :=by simpa using hname
  simp[callFunc,hf,hne,hb]
 rw[hcall]at h;have h:Calls C.P f args.toList.toArray W fun e w''=>∃v,e=.returned v∧OpPost C W.heap.size (lies0 W) [] W (fun r h'=>r=.bool true∧h'=[]) v w'':=h
 rw[Array.toArray_toList]at h;refine h.mono fun e W' ⟨v,he,r,h',S',μ',⟨hr,_⟩,st,_,hrep⟩=>?_
 subst hr;rw[hrep.bool_inv]at he;exact⟨he,st.below⟩
theorem jr{C:Ctx}{f:FuncId}{fn:Func}{c:Code}(hf:C.P.funcs[f]? =some fn)(hb:fn.body=some c)(hname:(fn.name== "runtime.NumGoroutine")=false){s:ChangeSpec}{apart fresh handsOn again:Bool}{W:World}{args:Array Value}{xs:List AVal}{ds gs:List (DataW H)}{before:List MemPlace}
  (K:Kids C.P (· < C.P.types.size))(full:∀t e,t<C.P.types.size→C.P.underlying t=some (.slice e)→0<C.P.cellsOf e)(hts:∀t∈fn.params.toList,t<C.P.types.size)
  (hv:s.vars=[])(hfn:s.fn H (ds++gs)= {results:=[.lit (.bool true)],args:=ds}){tb:TypeId}(hres:fn.resultTypes= #[tb])(hbt:C.P.underlying tb=some .bool)
  (hW:DataW.Whole enc C.P fn.params.toList s.vars apart W args.toList ds gs before)
  (hg:∀g cs,C.G g=some cs→Rep W (lies0 W) [] (.ad cs) (.pointer (some ⟨g,0,none⟩)))(rl:RepL W (lies0 W) [] xs args.toList)(sat:Sat C f xs [] fun r h'=>r=.bool true∧h'=[]):
  Calls C.P f args W fun e W'=>∃v,e=.returned v∧s.post enc C.P fn apart fresh handsOn again W args v W':=
 (ml hf hb hname (zQ hg) rl sat).mono fun e W' ⟨he,hbel⟩=>⟨_,he,lB K full hts hv hfn hres hbt hW hbel rfl⟩
def Rd(H:Type)(enc:TypeId×Value→H)(P:Program)(W:World)(n:Nat)(t:TypeId){α:Type}(cl:α→List AVal)(sz:α→Nat):Prop:=
 ∀(cs:List Value) (x:DataW H×List MemPlace),DataW.trod enc P W 0 (fun _=>true) true n t cs=some x→
  ∃a:α,(cl a).length=cs.length∧(∀(j:Nat) (c:AVal),(cl a)[j]? =some c→c.sto=true∧Rep W (lies0 W) [] c (cs.getD j undef))∧sz a≤Go.Proofs.YtnolelibaahimaaGreatDoor.Rows.uptoBulk x.1
variable {W:World}
theorem gS{n:Nat}{t:TypeId}(ht:P.underlying t=some .string):Rd H enc P W n t (fun s:List UInt8=>[.str s]) (fun s=>s.length+1):=fun cs x h=>by
 obtain⟨s,rfl,rfl,_⟩:=DataW.trod_string ht h;refine⟨s.data.toList,rfl,fun j c hj=>?_,?_⟩
 ·match j with
  |0=>simp at hj;subst hj;exact⟨rfl,.str _⟩
  |j+1=>simp at hj
 ·simp[Go.Proofs.YtnolelibaahimaaGreatDoor.Rows.uptoBulk]
theorem js{n:Nat}{t:TypeId}{k:IntKind}(ht:P.underlying t=some (.int k)):Rd H enc P W n t (fun i: {i:Int//(Lit.int k i).wf=true}=>[.int k i.1]) (fun _=>1):=fun cs x h=>by
 obtain⟨i,rfl,rfl,hw⟩:=DataW.trod_int ht h;refine⟨⟨i,hw⟩,rfl,fun j c hj=>?_,?_⟩
 ·match j with
  |0=>simp at hj;subst hj;exact⟨rfl,.int _ _⟩
  |j+1=>simp at hj
 ·simp[Go.Proofs.YtnolelibaahimaaGreatDoor.Rows.uptoBulk]
def szL{α:Type}(f:α→Nat):List α→Nat
 | []=>0
 |a::l=>f a+szL f l
theorem nG{α:Type}(sz:α→Nat)(D:Nat→DataW H)(l:List α)(s:Nat)(h:∀(i:Nat) (a:α),l[i]? =some a→sz a≤Go.Proofs.YtnolelibaahimaaGreatDoor.Rows.uptoBulk (D (s+i))):szL sz l≤Go.Proofs.YtnolelibaahimaaGreatDoor.Rows.uptoBulkAll ((List.range' s l.length).map D):=by
 induction l generalizing s with
 |nil=>exact U3 _
 |cons a l ih=>
  simp only[I6,List.range'_succ,K8,szL,Go.Proofs.YtnolelibaahimaaGreatDoor.Rows.uptoBulkAll];have h0:=h 0 a rfl;have:=ih (s+1) fun i b hb=>by
   have:=h (i+1) b (by simpa using hb)
   rwa [show s+1+i=s+(i+1) by omega]
  simp only[S6]at h0;omega
theorem iW{n:Nat}{t e m:TypeId}{α:Type}{cl:α→List AVal}{sz:α→Nat}(mk:α→AVal)(ht:P.underlying t=some (.slice e))(hm:P.cellsOf e=m)(hm0:0<m)(hmk:∀a,(mk a).cells=cl a)(hl:∀a,(cl a).length=m)
  (hel:∀k,k<n→Rd H enc P W k e cl sz):Rd H enc P W n t (fun l:List α=>[.sl m (l.map mk)]) (fun l=>szL sz l+1):=fun cs x h=>by
 rcases DataW.trod_slice ht h with⟨rfl,rfl⟩| ⟨a,len,cap,elems,rest,n',hn,rfl,rfl,hb,hlc,hmx,hlen,hel',hsp,hns⟩
 ·refine⟨[],rfl,fun j c hj=>?_,?_⟩
  ·match j with
   |0=>simp at hj;subst hj;exact⟨rfl,.sl0 _ _ _⟩
   |j+1=>simp at hj
  ·simp[szL,Go.Proofs.YtnolelibaahimaaGreatDoor.Rows.uptoBulk]
 ·subst hn;have at_:∀i,i<len→∃al:α,(∀(j:Nat) (c:AVal),(cl al)[j]? =some c→c.sto=true∧∃v,W.cell? ((a.add (i*m)).add j)=some v∧Rep W (lies0 W) [] c v)∧sz al≤Go.Proofs.YtnolelibaahimaaGreatDoor.Rows.uptoBulk (elems.getD i (.nil,[])).1:=fun i hi=>by
   have h1:=hel' i hi;rw[I2 (by omega)]at h1;obtain⟨cs',h2,h3⟩:=Option.bind_eq_some_iff.1 h1;obtain⟨al,k1,k2,k3⟩:=hel n' (by omega) _ _ h3;obtain⟨_,k5,k6⟩:=World.cells?_some h2;refine⟨al,fun j c hj=>?_,?_⟩
   ·obtain⟨s1,s2⟩:=k2 j c hj;have hjl:=(f9.1 hj).1;have hc:=k6 j (by omega);rw[hm]at hc;rw[I2 (by omega)]at hc;refine⟨s1,_,hc,?_⟩;simpa [List.getD,I2 (show j<cs'.length by omega)]using s2
   ·simpa [List.getD,I2 (show i<elems.length by omega)]using k3
  cases len with
  |zero=>
   refine⟨[],rfl,fun j c hj=>?_,?_⟩
   ·match j with
    |0=>simp at hj;subst hj;exact⟨rfl,.sl0 _ _ _⟩
    |j+1=>simp at hj
   ·simp[szL,Go.Proofs.YtnolelibaahimaaGreatDoor.Rows.uptoBulk]
  |succ len=>
   have hspot:a.spot=none:=by
    obtain⟨al,k1,_⟩:=at_ 0 (by omega);have hc:=I2 (show 0<(cl al).length by rw[hl];exact hm0);obtain⟨_,v,hv,_⟩:=k1 0 _ hc;simp only[Nat.zero_mul,Addr.add,I7]at hv;unfold World.cell? at hv;split at hv
    ·cases hs:a.spot with
     |none=>rfl
     |some q=>rw[hs]at hv;simp at hv
    ·cases hv
   obtain⟨b,off,sp⟩:=a;simp only at hspot;subst hspot;have hadd:∀i j,((⟨b,off,none⟩:Addr).add (i*m)).add j=⟨b,off+(i*m+j),none⟩:=fun i j=>by
    rw[bf,bf,Nat.add_assoc]
   have hch:∀n,n≤len+1→∃l:List α,l.length=n∧∀(i:Nat) (al:α),l[i]? =some al→(∀(j:Nat) (c:AVal),(cl al)[j]? =some c→c.sto=true∧∃v,W.cell? ⟨b,off+(i*m+j),none⟩=some v∧Rep W (lies0 W) [] c v)∧sz al≤Go.Proofs.YtnolelibaahimaaGreatDoor.Rows.uptoBulk (elems.getD i (.nil,[])).1:=by
    intro n;induction n with
    |zero=>intro _;exact⟨[],rfl,fun i al h=>by simp at h⟩
    |succ n ih=>
     intro hn;obtain⟨l,h1,h2⟩:=ih (by omega);obtain⟨al,k1,k2⟩:=at_ n (by omega);refine⟨l++[al],by simp[h1],fun i al' hi=>?_⟩;rcases aF hi with h3| ⟨h3,rfl⟩
     ·exact h2 i al' h3
     ·rw[h3,h1];exact⟨fun j c hj=>by have:=k1 j c hj;rwa [hadd]at this,k2⟩
   obtain⟨l,hll,hl2⟩:=hch (len+1) (J0 _);refine⟨l,rfl,fun j c hj=>?_,?_⟩
   ·match j with
    |0=>
     simp at hj;subst hj;refine⟨rfl,?_⟩;have key:=Rep.sl (w:=W) (S:=lies0 W) (μ:=[]) m (l.map mk) b off cap (fun i j=>(W.cell? ⟨b,off+(i*m+j),none⟩).getD undef) (by intro e;have:=K9 List.length e;simp[hll]at this) (by simp[hll];exact hlc) hmx
      (fun i e hi=>by
       rw[J8]at hi;obtain⟨al,_,rfl⟩:=K7.1 hi;rw[hmk,hl])
      (fun i e j c hi hj=>by
       rw[J8]at hi;obtain⟨al,h1,rfl⟩:=K7.1 hi;rw[hmk]at hj;obtain⟨s1,v,s2,s3⟩:=(hl2 i al h1).1 j c hj;exact⟨by unfold lies0;rw[s2];rfl,by rw[s2];rfl,s1⟩)
      (fun i e j c hi hj=>by
       rw[J8]at hi;obtain⟨al,h1,rfl⟩:=K7.1 hi;rw[hmk]at hj;obtain⟨s1,v,s2,s3⟩:=(hl2 i al h1).1 j c hj;simp only[s2,O0];exact s3)
     simpa [hll]using key
    |j+1=>simp at hj
   ·have hb:=nG sz (fun i=>(elems.getD i (.nil,[])).1) l 0 fun i al hi=>by rw[N8];exact(hl2 i al hi).2
    have he:(List.range' 0 l.length).map (fun i=>(elems.getD i (.nil,[])).1)=elems.map (·.1):=by
     rw[Deep.map_by_index elems (.nil,[]) (·.1),hll,hlen,List.range_eq_range']
    rw[he]at hb;simp only[Go.Proofs.YtnolelibaahimaaGreatDoor.Rows.uptoBulk];omega
theorem rE{n:Nat}{t:TypeId}{fs:Array Field}(ht:P.underlying t=some (.struct fs))(hk:P.cellsOf t=fs.size)(ho:∀(j:Nat) (f:Field),fs[j]? =some f→f.offset=j∧P.cellsOf f.type=1){cs:List Value}{x:DataW H×List MemPlace}
  (h:DataW.trod enc P W 0 (fun _=>true) true n t cs=some x):
  ∃(xs:List (DataW H×List MemPlace)) (n':Nat),n=n'+1∧x.1=.agg (xs.map (·.1))∧cs.length=fs.size∧xs.length=fs.size∧∀(j:Nat) (f:Field),fs[j]? =some f→∃y,xs[j]? =some y∧DataW.trod enc P W 0 (fun _=>true) true n' f.type [cs.getD j undef]=some y:=by
 obtain⟨xs,n',hn,rfl,hl,hlen,hf⟩:=DataW.trod_struct ht h;refine⟨xs,n',hn,rfl,by omega,hlen,fun j f hj=>?_⟩;have hlt:=(L5.1 hj).1;obtain⟨h1,h2⟩:=ho j f hj;have:=hf j f hj;rw[h1,h2]at this;have hx:=I2 (show j<xs.length by omega);rw[hx]at this;refine⟨_,hx,?_⟩;rw[← this];have hc:=I2 (show j<cs.length by omega);congr 1
 rw[W6 (show j<cs.length by omega),List.getD,hc];rfl
end
end Go.Av
namespace Go.Av
open Go Go.Proofs Go.RowKit Go.ChangeShapes Go.WideShapes
section
variable {H:Type} {enc:TypeId×Value→H} {W:World}
theorem rF:Kids Tryz.prog (· < Tryz.prog.types.size):=kids_rows (by kernel_rfl) (by kernel_rfl)
theorem rG:∀t e,t<Tryz.prog.types.size→Tryz.prog.underlying t=some (.slice e)→0<Tryz.prog.cellsOf e:=slices_full_of Tryz.prog (by kernel_rfl)
theorem mm{α:Type}(f g:α→Nat)(h:∀a,g a≤f a):∀l:List α,szs g l≤szL f l
 | []=>J0 _
 |a::l=>by have:=h a;have:=mm f g h l;simp only[szs,szL];omega
def fieldsOk(P:Program)(t:TypeId)(fs:List TypeId):Bool:=match P.underlying t with
 |some (.struct gs)=>decide (gs.toList.map (·.type)=fs)&&decide (P.cellsOf t=fs.length)&&(gs.toList.zipIdx.all fun(f,i)=>f.offset==i&&P.cellsOf f.type==1)
 |_=>false
theorem lC{P:Program}{t:TypeId}{fs:List TypeId}(h:fieldsOk P t fs=true):∃gs:Array Field,P.underlying t=some (.struct gs)∧gs.size=fs.length∧P.cellsOf t=gs.size∧
  (∀(j:Nat) (f:Field),gs[j]? =some f→f.offset=j∧P.cellsOf f.type=1)∧∀(j:Nat) (T:TypeId),fs[j]? =some T→∃f,gs[j]? =some f∧f.type=T:=by
 unfold fieldsOk at h;split at h
 ·rename_i gs hg;simp only[I1,I4,M2]at h;obtain⟨⟨h1,h2⟩,h3⟩:=h;have hl:gs.size=fs.length:=by rw[← h1];simp
  refine⟨gs,hg,hl,by omega,fun j f hj=>?_,fun j T hT=>?_⟩
  ·have hm:(f,j)∈gs.toList.zipIdx:=List.mem_zipIdx_iff_getElem?.2 (by simpa using hj);have:=h3 _ hm;simpa using this
  ·rw[← h1,J8]at hT;obtain⟨f,hf,rfl⟩:=K7.1 hT;exact⟨f,by simpa using hf,rfl⟩
 ·cases h
theorem l5{P:Program}{n:Nat}{t:TypeId}{fs:List TypeId}(hf:fieldsOk P t fs=true){cs:List Value}{x:DataW H×List MemPlace}(h:DataW.trod enc P W 0 (fun _=>true) true n t cs=some x):
  ∃(ds:List (DataW H)) (n':Nat),n=n'+1∧x.1=.agg ds∧cs.length=fs.length∧ds.length=fs.length∧∀(j:Nat) (T:TypeId),fs[j]? =some T→∃y,ds[j]? =some y.1∧DataW.trod enc P W 0 (fun _=>true) true n' T [cs.getD j undef]=some y:=by
 obtain⟨gs,h1,h2,h3,h4,h5⟩:=lC hf;obtain⟨xs,n',k1,k2,k3,k4,k5⟩:=rE h1 h3 h4 h;refine⟨_,n',k1,k2,by omega,by simp;omega,fun j T hT=>?_⟩;obtain⟨f,hf1,rfl⟩:=h5 j T hT;obtain⟨y,hy,hy2⟩:=k5 j f hf1;exact⟨y,by simp[hy],hy2⟩
theorem bS{P:Program}{n:Nat}{T:TypeId}{α:Type}{mk:α→AVal}{sz:α→Nat}(hr:Rd H enc P W n T (fun a=>[mk a]) sz){v:Value}{y:DataW H×List MemPlace}(h:DataW.trod enc P W 0 (fun _=>true) true n T [v]=some y):
  ∃a:α,(mk a).sto=true∧Rep W (lies0 W) [] (mk a) v∧sz a≤Go.Proofs.YtnolelibaahimaaGreatDoor.Rows.uptoBulk y.1:=by
 obtain⟨a,_,h2,h3⟩:=hr _ _ h;have:=h2 0 (mk a) rfl;exact⟨a,this.1,by simpa using this.2,h3⟩
end
end Go.Av
namespace Go.Av
open Go Go.Proofs Go.RowKit
variable (G:Nat→Option (List AVal))
theorem gU(x:AVal)(h:Heap):Sat (CT G) 178 [x] h (fun r h'=>r=x∧h'=h):=by
 refine Sat.of_extern (fn:=Tryz.f178) (ex:=Extern.AbiNoEscape.same) Tryz.func178 (by kernel_rfl) (by kernel_rfl) (by kernel_rfl) (by kernel_rfl) fun B S μ w vs f r=>?_
 obtain⟨hl,hr⟩:=r
 match vs,hl,hr with
 | [v],_,hr=>
  refine⟨v,w,Lib.run_noEscape w v,x,h,S,μ,⟨rfl,rfl⟩,Step.refl _ _ _ _,f,?_⟩;simpa using hr 0 x rfl
end Go.Av
namespace Go.Proofs
open Go.Shelf
def Tryz.lays103_ren:Go.Shelf.Ren:=⟨fun|103=>237|210=>256|206=>247|n=>n,fun|9=>9|4=>4|24=>227|3=>3|n=>n,fun|n=>n⟩
theorem Tryz.lays103:Go.Proofs.Lays.n103 Tryz.prog Tryz.lays103_ren:= {
 mixed:=by kernel_rfl
 f103:=Tryz.func237.trans (K9 some (by kernel_rfl))
 f206:=Tryz.func247.trans (K9 some (by kernel_rfl))
 f210:=Tryz.func256.trans (K9 some (by kernel_rfl))
 t3:=Tryz.underlying3
 a3:=Tryz.isAgg3
 z3:=Tryz.sizeOf3
 v3:=Tryz.zeroValue3
 t4:=Tryz.underlying4
 a4:=Tryz.isAgg4
 z4:=Tryz.sizeOf4
 v4:=Tryz.zeroValue4
 t9:=Tryz.underlying9
 a9:=Tryz.isAgg9
 z9:=Tryz.sizeOf9
 v9:=Tryz.zeroValue9
 t24:=Tryz.underlying227
 a24:=Tryz.isAgg227
 z24:=Tryz.sizeOf227
 v24:=Tryz.zeroValue227}
open Go.RowKit in
theorem Tryz.strings_CutPrefix(s p:ByteArray)(w:World):
  Calls Tryz.prog 237 #[.string s,.string p] w fun e w'=>e=.returned (.tuple #[.string ⟨(Lib.trimPrefix s.data.toList p.data.toList).toArray⟩,.bool (Lib.hasPrefix s.data.toList p.data.toList)])∧w'=w:=Any.strings_CutPrefix Tryz.lays103 s p w
def Tryz.lays144_ren:Go.Shelf.Ren:=⟨fun|144=>239|143=>258|219=>278|217=>286|225=>287|224=>288|267=>289|266=>294|314=>295|n=>n,fun|9=>9|4=>4|3=>3|5=>5|46=>204|146=>297|51=>244|n=>n,fun|1=>0|n=>n⟩
theorem Tryz.lays144:Go.Proofs.Lays.n144 Tryz.prog Tryz.lays144_ren:= {
 mixed:=by kernel_rfl
 f143:=Tryz.func258.trans (K9 some (by kernel_rfl))
 f144:=Tryz.func239.trans (K9 some (by kernel_rfl))
 f217:=Tryz.func286.trans (K9 some (by kernel_rfl))
 f219:=Tryz.func278.trans (K9 some (by kernel_rfl))
 f224:=Tryz.func288.trans (K9 some (by kernel_rfl))
 f225:=Tryz.func287.trans (K9 some (by kernel_rfl))
 f266:=Tryz.func294.trans (K9 some (by kernel_rfl))
 f267:=Tryz.func289.trans (K9 some (by kernel_rfl))
 f314:=Tryz.func295.trans (K9 some (by kernel_rfl))
 t3:=Tryz.underlying3
 a3:=Tryz.isAgg3
 z3:=Tryz.sizeOf3
 v3:=Tryz.zeroValue3
 t4:=Tryz.underlying4
 a4:=Tryz.isAgg4
 z4:=Tryz.sizeOf4
 v4:=Tryz.zeroValue4
 t5:=Tryz.underlying5
 a5:=Tryz.isAgg5
 z5:=Tryz.sizeOf5
 v5:=Tryz.zeroValue5
 t9:=Tryz.underlying9
 a9:=Tryz.isAgg9
 z9:=Tryz.sizeOf9
 v9:=Tryz.zeroValue9
 t46:=Tryz.underlying204
 a46:=Tryz.isAgg204
 z46:=Tryz.sizeOf204
 v46:=Tryz.zeroValue204
 t51:=Tryz.underlying244
 a51:=Tryz.isAgg244
 z51:=Tryz.sizeOf244
 v51:=Tryz.zeroValue244
 t146:=Tryz.underlying297
 a146:=Tryz.isAgg297
 z146:=Tryz.sizeOf297
 v146:=Tryz.zeroValue297
 g1:=by kernel_rfl}
open Go.RowKit Go.Lib in
theorem Tryz.strings_Contains(s sub:ByteArray)(m:Int)(w:World)(hs:s.size<4294967281)(hm:w.cell? ⟨0,0,none⟩=some (.int .i64 m)):
  Calls Tryz.prog 239 #[.string s,.string sub] w fun e w'=>e=.returned (.bool (Lib.contains s.data.toList sub.data.toList))∧w'=w:=Any.strings_Contains Tryz.lays144 s sub m w hs hm
def Tryz.lays145_ren:Go.Shelf.Ren:=⟨fun|145=>238|220=>257|219=>278|217=>286|225=>287|224=>288|267=>289|266=>294|314=>295|n=>n,fun|9=>9|4=>4|59=>266|3=>3|5=>5|46=>204|146=>297|51=>244|n=>n,fun|1=>0|n=>n⟩
theorem Tryz.lays145:Go.Proofs.Lays.n145 Tryz.prog Tryz.lays145_ren:= {
 mixed:=by kernel_rfl
 f145:=Tryz.func238.trans (K9 some (by kernel_rfl))
 f217:=Tryz.func286.trans (K9 some (by kernel_rfl))
 f219:=Tryz.func278.trans (K9 some (by kernel_rfl))
 f220:=Tryz.func257.trans (K9 some (by kernel_rfl))
 f224:=Tryz.func288.trans (K9 some (by kernel_rfl))
 f225:=Tryz.func287.trans (K9 some (by kernel_rfl))
 f266:=Tryz.func294.trans (K9 some (by kernel_rfl))
 f267:=Tryz.func289.trans (K9 some (by kernel_rfl))
 f314:=Tryz.func295.trans (K9 some (by kernel_rfl))
 t3:=Tryz.underlying3
 a3:=Tryz.isAgg3
 z3:=Tryz.sizeOf3
 v3:=Tryz.zeroValue3
 t4:=Tryz.underlying4
 a4:=Tryz.isAgg4
 z4:=Tryz.sizeOf4
 v4:=Tryz.zeroValue4
 t5:=Tryz.underlying5
 a5:=Tryz.isAgg5
 z5:=Tryz.sizeOf5
 v5:=Tryz.zeroValue5
 t9:=Tryz.underlying9
 a9:=Tryz.isAgg9
 z9:=Tryz.sizeOf9
 v9:=Tryz.zeroValue9
 t46:=Tryz.underlying204
 a46:=Tryz.isAgg204
 z46:=Tryz.sizeOf204
 v46:=Tryz.zeroValue204
 t51:=Tryz.underlying244
 a51:=Tryz.isAgg244
 z51:=Tryz.sizeOf244
 v51:=Tryz.zeroValue244
 t59:=Tryz.underlying266
 a59:=Tryz.isAgg266
 z59:=Tryz.sizeOf266
 v59:=Tryz.zeroValue266
 t146:=Tryz.underlying297
 a146:=Tryz.isAgg297
 z146:=Tryz.sizeOf297
 v146:=Tryz.zeroValue297
 g1:=by kernel_rfl}
open Go.RowKit Go.Lib in
theorem Tryz.strings_Cut(s sep:ByteArray)(m:Int)(w:World)(hs:s.size<4294967281)(hm:w.cell? ⟨0,0,none⟩=some (.int .i64 m)):
  Calls Tryz.prog 238 #[.string s,.string sep] w fun e w'=>e=.returned (.tuple #[.string ⟨(Lib.cut s.data.toList sep.data.toList).1.toArray⟩,.string ⟨(Lib.cut s.data.toList sep.data.toList).2.1.toArray⟩,.bool (Lib.cut s.data.toList sep.data.toList).2.2])∧∃n,w'=w.drewN n:=Any.strings_Cut Tryz.lays145 s sep m w hs hm
def Tryz.lays149_ren:Go.Shelf.Ren:=⟨fun|149=>142|222=>182|n=>n,fun|9=>9|5=>5|3=>3|4=>4|n=>n,fun|n=>n⟩
theorem Tryz.lays149:Go.Proofs.Lays.n149 Tryz.prog Tryz.lays149_ren:= {
 mixed:=by kernel_rfl
 f149:=Tryz.func142.trans (K9 some (by kernel_rfl))
 f222:=Tryz.func182.trans (K9 some (by kernel_rfl))
 t3:=Tryz.underlying3
 a3:=Tryz.isAgg3
 z3:=Tryz.sizeOf3
 v3:=Tryz.zeroValue3
 t4:=Tryz.underlying4
 a4:=Tryz.isAgg4
 z4:=Tryz.sizeOf4
 v4:=Tryz.zeroValue4
 t5:=Tryz.underlying5
 a5:=Tryz.isAgg5
 z5:=Tryz.sizeOf5
 v5:=Tryz.zeroValue5
 t9:=Tryz.underlying9
 a9:=Tryz.isAgg9
 z9:=Tryz.sizeOf9
 v9:=Tryz.zeroValue9}
open Go.RowKit Go.Lib in
theorem Tryz.strings_LastIndexByte(s:ByteArray)(c:Int)(hs:s.size<4611686018427387904)(w:World):
  Calls Tryz.prog 142 #[.string s,.int .u8 c] w fun e w'=>e=.returned (.int .i64 (Lib.lastIndexByte s c))∧w'=w:=Any.strings_LastIndexByte Tryz.lays149 s c hs w
def Tryz.lays99_ren:Go.Shelf.Ren:=⟨fun|99=>223|206=>247|n=>n,fun|9=>9|4=>4|3=>3|n=>n,fun|n=>n⟩
theorem Tryz.lays99:Go.Proofs.Lays.n99 Tryz.prog Tryz.lays99_ren:= {
 mixed:=by kernel_rfl
 f99:=Tryz.func223.trans (K9 some (by kernel_rfl))
 f206:=Tryz.func247.trans (K9 some (by kernel_rfl))
 t3:=Tryz.underlying3
 a3:=Tryz.isAgg3
 z3:=Tryz.sizeOf3
 v3:=Tryz.zeroValue3
 t4:=Tryz.underlying4
 a4:=Tryz.isAgg4
 z4:=Tryz.sizeOf4
 v4:=Tryz.zeroValue4
 t9:=Tryz.underlying9
 a9:=Tryz.isAgg9
 z9:=Tryz.sizeOf9
 v9:=Tryz.zeroValue9}
open Go.RowKit Go.Lib in
theorem Tryz.strings_HasPrefix(s p:ByteArray)(w:World):
  Calls Tryz.prog 223 #[.string s,.string p] w fun e w'=>e=.returned (.bool (Lib.hasPrefix s.data.toList p.data.toList))∧w'=w:=Any.strings_HasPrefix Tryz.lays99 s p w
def Tryz.lays151_ren:Go.Shelf.Ren:=⟨fun|151=>262|152=>279|137=>290|119=>291|224=>288|225=>287|217=>286|266=>294|n=>n,fun|9=>9|21=>21|4=>4|3=>3|5=>5|0=>0|46=>204|n=>n,fun|n=>n⟩
theorem Tryz.lays151:Go.Proofs.Lays.n151 Tryz.prog Tryz.lays151_ren:= {
 mixed:=by kernel_rfl
 f119:=Tryz.func291.trans (K9 some (by kernel_rfl))
 f137:=Tryz.func290.trans (K9 some (by kernel_rfl))
 f151:=Tryz.func262.trans (K9 some (by kernel_rfl))
 f152:=Tryz.func279.trans (K9 some (by kernel_rfl))
 f217:=Tryz.func286.trans (K9 some (by kernel_rfl))
 f224:=Tryz.func288.trans (K9 some (by kernel_rfl))
 f225:=Tryz.func287.trans (K9 some (by kernel_rfl))
 f266:=Tryz.func294.trans (K9 some (by kernel_rfl))
 t0:=Tryz.underlying0
 a0:=Tryz.isAgg0
 z0:=Tryz.sizeOf0
 v0:=Tryz.zeroValue0
 t3:=Tryz.underlying3
 a3:=Tryz.isAgg3
 z3:=Tryz.sizeOf3
 v3:=Tryz.zeroValue3
 t4:=Tryz.underlying4
 a4:=Tryz.isAgg4
 z4:=Tryz.sizeOf4
 v4:=Tryz.zeroValue4
 t5:=Tryz.underlying5
 a5:=Tryz.isAgg5
 z5:=Tryz.sizeOf5
 v5:=Tryz.zeroValue5
 t9:=Tryz.underlying9
 a9:=Tryz.isAgg9
 z9:=Tryz.sizeOf9
 v9:=Tryz.zeroValue9
 t21:=Tryz.underlying21
 a21:=Tryz.isAgg21
 z21:=Tryz.sizeOf21
 v21:=Tryz.zeroValue21
 t46:=Tryz.underlying204
 a46:=Tryz.isAgg204
 z46:=Tryz.sizeOf204
 v46:=Tryz.zeroValue204}
open Go.RowKit Go.Lib in
theorem Tryz.strings_ContainsRune_ascii(s:ByteArray)(r:Int)(w:World)(h0:0≤r)(h1:r<128):
  Calls Tryz.prog 262 #[.string s,.int .i32 r] w fun e w'=>e=.returned (.bool (decide (0≤Lib.indexByte s.data.toList r.toNat.toUInt8)))∧w'=w:=Any.strings_ContainsRune_ascii Tryz.lays151 s r w h0 h1
def Tryz.lays229_ren:Go.Shelf.Ren:=⟨fun|229=>248|n=>n,fun|9=>9|40=>200|31=>84|152=>291|3=>3|0=>0|4=>4|21=>21|154=>293|n=>n,fun|n=>n⟩
theorem Tryz.lays229:Go.Proofs.Lays.n229 Tryz.prog Tryz.lays229_ren:= {
 mixed:=by kernel_rfl
 f229:=Tryz.func248.trans (K9 some (by kernel_rfl))
 t0:=Tryz.underlying0
 a0:=Tryz.isAgg0
 z0:=Tryz.sizeOf0
 v0:=Tryz.zeroValue0
 t3:=Tryz.underlying3
 a3:=Tryz.isAgg3
 z3:=Tryz.sizeOf3
 v3:=Tryz.zeroValue3
 t4:=Tryz.underlying4
 a4:=Tryz.isAgg4
 z4:=Tryz.sizeOf4
 v4:=Tryz.zeroValue4
 t9:=Tryz.underlying9
 a9:=Tryz.isAgg9
 z9:=Tryz.sizeOf9
 v9:=Tryz.zeroValue9
 t21:=Tryz.underlying21
 a21:=Tryz.isAgg21
 z21:=Tryz.sizeOf21
 v21:=Tryz.zeroValue21
 t31:=Tryz.underlying84
 a31:=Tryz.isAgg84
 z31:=Tryz.sizeOf84
 v31:=Tryz.zeroValue84
 t40:=Tryz.underlying200
 a40:=Tryz.isAgg200
 z40:=Tryz.sizeOf200
 v40:=Tryz.zeroValue200
 t152:=Tryz.underlying291
 a152:=Tryz.isAgg291
 z152:=Tryz.sizeOf291
 v152:=Tryz.zeroValue291
 t154:=Tryz.underlying293
 a154:=Tryz.isAgg293
 z154:=Tryz.sizeOf293
 v154:=Tryz.zeroValue293}
open Go.RowKit Go.Lib in
theorem Tryz.strings_FieldsFunc(g:Nat)(lb:Array Value)(eg:∀args w,(callFunc g args).run Tryz.prog w=.ok (.enter g args) w)(p:Nat→Bool)(s:ByteArray)(w:World)(hs:s.size≤4294967296)(hp:PredAt Tryz.prog g lb encR p w):
  Calls Tryz.prog 248 #[.string s,.func (.func g) #[] lb] w fun e w'=>∃A,e=.returned (.slice (some ⟨A,0,none⟩) (Lib.goFieldsP p s).length (Lib.goFieldsP p s).length)∧w.heap.size≤A∧
   w'.ownsRow w.heap.size 9 1 (.slice (some ⟨A,0,none⟩) (Lib.goFieldsP p s).length (Lib.goFieldsP p s).length) (Lib.goFieldsP p s).length ((Lib.goFieldsP p s).map Value.string)∧Below w.heap.size w w':=Any.strings_FieldsFunc Tryz.lays229 g lb eg p s w hs hp (by kernel_rfl) (by kernel_rfl)
def Tryz.laysNm224_ren:Go.Shelf.Ren:=⟨fun|24=>85|n=>n,fun|24=>84|9=>9|3=>3|4=>4|0=>0|n=>n,fun|n=>n⟩
theorem Tryz.laysNm224:Go.Proofs.Lays2.n24 Tryz.prog Tryz.laysNm224_ren:= {
 mixed:=by kernel_rfl
 f24:=Tryz.func85.trans (K9 some (by kernel_rfl))
 t0:=Tryz.underlying0
 a0:=Tryz.isAgg0
 z0:=Tryz.sizeOf0
 v0:=Tryz.zeroValue0
 t3:=Tryz.underlying3
 a3:=Tryz.isAgg3
 z3:=Tryz.sizeOf3
 v3:=Tryz.zeroValue3
 t4:=Tryz.underlying4
 a4:=Tryz.isAgg4
 z4:=Tryz.sizeOf4
 v4:=Tryz.zeroValue4
 t9:=Tryz.underlying9
 a9:=Tryz.isAgg9
 z9:=Tryz.sizeOf9
 v9:=Tryz.zeroValue9
 t24:=Tryz.underlying84
 a24:=Tryz.isAgg84
 z24:=Tryz.sizeOf84
 v24:=Tryz.zeroValue84
 i9:=by kernel_rfl}
open Go.RowKit Go.Lib Go.Sort in
theorem Tryz.slices_Delete_string(blk off cap i j:Nat)(zs:List (List UInt8))(w:World)(hH:Holds encStr w blk off zs.toArray)(hcap:zs.length≤cap)(hm:cap≤9223372036854775807)(hij:i≤j)(hj:j≤zs.length):
  Calls Tryz.prog 85 #[.slice (some ⟨blk,off,none⟩) zs.length cap,.int .i64 i,.int .i64 j] w fun e w'=>e=.returned (.slice (some ⟨blk,off,none⟩) (zs.length-(j-i)) cap)∧∃q,w'=putRow encStr (Sort.ahead w q) blk off (zs.take i++zs.drop j++List.replicate (j-i) []).toArray:=Any.slices_Delete_string Tryz.laysNm224 blk off cap i j zs w hH hcap hm hij hj
end Go.Proofs
namespace Go.Av
open Go Go.Proofs Go.RowKit
variable (G:Nat→Option (List AVal))
theorem d9{w w':World}(e:w'=w):Below w.heap.size w w':=by rw[e];exact S7 _ _
theorem nH(w:World)(n:Nat):Below w.heap.size w (w.drewN n):=by
 induction n with
 |zero=>exact S7 _ _
 |succ n ih=>exact ih.trans (Below.drew (S7 _ _))
theorem iB(s:Bs)(c:Int)(hs:s.length≤1073741824)(h:Heap):Sat (CT G) 142 [.str s,.int .u8 c] h (fun r h'=>r=.int .i64 (Lib.lastIndexByte ⟨s.toArray⟩ c)∧h'=h):=by
 refine Sat.of_calls (fn:=Tryz.f142) Tryz.func142 (by kernel_rfl) (by kernel_rfl) rfl rfl fun B S μ w f=>?_
 refine(Tryz.strings_LastIndexByte ⟨s.toArray⟩ c (by simp[ByteArray.size];omega) w).mono fun e w' ⟨h1,h2⟩=>⟨h1,d9 h2⟩
end Go.Av
namespace Go.Av
open Go Go.Proofs Go.RowKit
variable (G:Nat→Option (List AVal))
def GOk:Prop:=∃m,G 0=some [.int .i64 m]
theorem oG(s:Bs):(⟨s.toArray⟩:ByteArray).size=s.length:=by simp[ByteArray.size]
variable {G}
theorem GOk.cell(hG:GOk G){B:Nat}{S:Addr→Prop}{μ:Map}{h:Heap}{w:World}(f:Fits (CT G) B S μ h w):∃m,w.cell? ⟨0,0,none⟩=some (.int .i64 m):=by
 obtain⟨m,hm⟩:=hG;have r:=f.glob _ _ hm;cases r with
 |ad cs b o vs hne hc hr=>
  have h1:=(hc 0 _ rfl).2.1;have h2:=hr 0 _ rfl;refine⟨m,?_⟩;generalize vs 0=u at h1 h2;cases h2;exact h1
variable (G)
theorem nI{w w':World}(h:∃n,w'=w.drewN n):Below w.heap.size w w':=by obtain⟨n,rfl⟩:=h;exact nH w n
theorem vG(hG:GOk G)(s p:Bs)(hs:s.length≤1073741824)(h:Heap):
  Sat (CT G) 238 [.str s,.str p] h (fun r h'=>r=.tup [.str (Lib.cut s p).1,.str (Lib.cut s p).2.1,.bool (Lib.cut s p).2.2]∧h'=h):=by
 refine Sat.of_calls (fn:=Tryz.f238) Tryz.func238 (by kernel_rfl) (by kernel_rfl) rfl rfl fun B S μ w f=>?_
 obtain⟨m,hm⟩:=hG.cell f;refine(Tryz.strings_Cut ⟨s.toArray⟩ ⟨p.toArray⟩ m w (by rw[oG];omega) hm).mono fun e w' ⟨h1,h2⟩=>⟨h1,nI h2⟩
theorem mn(hG:GOk G)(s p:Bs)(hs:s.length≤1073741824)(h:Heap):
  Sat (CT G) 239 [.str s,.str p] h (fun r h'=>r=.bool (Lib.contains s p)∧h'=h):=by
 refine Sat.of_calls (fn:=Tryz.f239) Tryz.func239 (by kernel_rfl) (by kernel_rfl) rfl rfl fun B S μ w f=>?_
 obtain⟨m,hm⟩:=hG.cell f;refine(Tryz.strings_Contains ⟨s.toArray⟩ ⟨p.toArray⟩ m w (by rw[oG];omega) hm).mono fun e w' ⟨h1,h2⟩=>⟨h1,d9 h2⟩
theorem lD(s p:Bs)(h:Heap):
  Sat (CT G) 237 [.str s,.str p] h (fun r h'=>r=.tup [.str (Lib.trimPrefix s p),.bool (Lib.hasPrefix s p)]∧h'=h):=by
 refine Sat.of_calls (fn:=Tryz.f237) Tryz.func237 (by kernel_rfl) (by kernel_rfl) rfl rfl fun B S μ w f=>?_
 refine(Tryz.strings_CutPrefix ⟨s.toArray⟩ ⟨p.toArray⟩ w).mono fun e w' ⟨h1,h2⟩=>⟨h1,d9 h2⟩
theorem gD(s p:Bs)(h:Heap):
  Sat (CT G) 223 [.str s,.str p] h (fun r h'=>r=.bool (Lib.hasPrefix s p)∧h'=h):=by
 refine Sat.of_calls (fn:=Tryz.f223) Tryz.func223 (by kernel_rfl) (by kernel_rfl) rfl rfl fun B S μ w f=>?_
 refine(Tryz.strings_HasPrefix ⟨s.toArray⟩ ⟨p.toArray⟩ w).mono fun e w' ⟨h1,h2⟩=>⟨h1,d9 h2⟩
theorem gV(s:Bs)(r:Int)(h0:0≤r)(h1:r<128)(h:Heap):
  Sat (CT G) 262 [.str s,.int .i32 r] h (fun x h'=>x=.bool (decide (0≤Lib.indexByte s r.toNat.toUInt8))∧h'=h):=by
 refine Sat.of_calls (fn:=Tryz.f262) Tryz.func262 (by kernel_rfl) (by kernel_rfl) rfl rfl fun B S μ w f=>?_
 refine(Tryz.strings_ContainsRune_ascii ⟨s.toArray⟩ r w h0 h1).mono fun e w' ⟨h1,h2⟩=>⟨h1,d9 h2⟩
end Go.Av
namespace Go.Av
open Go.RowKit
section
variable (C:Ctx)
def loadX(T:TypeId)(x:AVal)(h:Heap):Option AVal:=match x with
 | .ad cs=>pickT C.P T cs
 | .hp p ver i off=>match getRow h p ver with
  |some (_,_,rows)=>match rows[i]? with
   |some r=>pickT C.P T (r.cells.drop off)
   |none=>none
  |none=>none
 |_=>none
def nilX(x:AVal)(h:Heap):Option AVal:=match x with
 | .hp p ver i off=>if (getRow h p ver).isSome=true then some (.hp p ver i off)else none
 | .ad cs=>some (.ad cs)
 | .fn (.func f) a b=>some (.fn (.func f) a b)
 | .ifc T v=>some (.ifc T v)
 |_=>none
def binX(h:Heap)(op:BinOp)(T:TypeId)(x y:AVal):Option AVal:=match x,y with
 | .sl _ [],.nil (.slice none 0 0)=>none
 |x,y=>abin C.P h op T x y
def convX(src dst:TypeId)(x:AVal)(h:Heap):Option AVal:=match x with
 | .hp p ver 0 0=>match getRow h p ver with
  |some (e,n,rows)=>match rows with
   | []=>none
   |_::_=>if ptrConv C.P src dst e n=true then some (.hp p ver 0 0)else none
  |none=>none
 | .hs p v o l r=>if bytesStr C.P src dst=true then match elemsOf h 1 (.hs p v o l r)with
  |some ys=>match bytesA ys with|some bs=>some (.str bs)|none=>none
  |none=>none else none
 | .int k n=>aconv C.P src dst (.int k n)
 | .str s=>aconv C.P src dst (.str s)
 |_=>none
def fieldAX(T:TypeId)(f:Nat)(x:AVal)(h:Heap):Option AVal:=match fOff C.P T f with
 |some (o,_,n)=>if n=0 then none else match x with
  | .hp p ver i off=>if (getRow h p ver).isSome=true then some (.hp p ver i (off+o))else none
  | .ad cs=>if o<cs.length then some (.ad (cs.drop o))else none
  |_=>none
 |none=>none
def fieldX(T:TypeId)(f:Nat)(x:AVal):Option AVal:=match fOff C.P T f with
 |some (o,fT,_)=>match x with
  | .agg cs=>pickT C.P fT (cs.drop o)
  |_=>none
 |none=>none
def indexAX(T:TypeId)(x i:AVal)(h:Heap):Option AVal:=match i with
 | .int _ n=>if 0≤n then match x with
  | .sl m es=>match elmT C.P T with
   |some e=>if szOf C.P e=some m∧0<m then match es[n.toNat]? with
    |some r=>some (.ad r.cells)
    |none=>none else none
   |none=>none
  | .hs p ver off len _=>match elmT C.P T,getRow h p ver with
   |some e,some (_,m,_)=>if szOf C.P e=some m∧n<len then some (.hp p ver (off+n.toNat) 0)else none
   |_,_=>none
  | .hp p ver j off=>match arrT C.P T with
   |some (k,e)=>match szOf C.P e with
    |some m=>if (getRow h p ver).isSome=true∧n<k then some (.hp p ver j (off+n.toNat*m))else none
    |none=>none
   |none=>none
  | .ad cs=>match arrT C.P T with
   |some (k,e)=>match szOf C.P e with
    |some m=>if n<k∧n.toNat*m<cs.length then some (.ad (cs.drop (n.toNat*m)))else none
    |none=>none
   |none=>none
  |_=>none else none
 |_=>none
def indexX(T:TypeId)(x i:AVal):Option AVal:=match i with
 | .int _ n=>if 0≤n then match x with
  | .str s=>if strT C.P T=true then match s[n.toNat]? with
   |some b=>some (.int .u8 b.toNat)
   |none=>none else none
  | .agg cs=>match arrT C.P T with
   |some (k,e)=>match szOf C.P e with
    |some m=>if n<k then pickT C.P e (cs.drop (n.toNat*m))else none
    |none=>none
   |none=>none
  |_=>none else none
 |_=>none
def buildX(T:TypeId)(parts:List (Nat×AVal)):Option AVal:=match zroT C.P T with
 |some z=>if z.cells.all AVal.sto=true then match nFld C.P T with
  |some _=>match fillA (fun i=>(fOff C.P T i).map fun q=>(q.1,q.2.2)) z.cells parts with
   |some cs=>some (.agg cs)
   |none=>none
  |none=>match arrT C.P T with
   |some (_,e)=>match szOf C.P e with
    |some n=>match fillA (fun i=>some (i*n,n)) z.cells parts with
     |some cs=>some (.agg cs)
     |none=>none
    |none=>none
   |none=>none else none
 |none=>none
def callPX(c:Call)(ρ:Operand→AVal)(h:Heap):Option AVal:=match c.callee with
 | .builtin .len=>match c.args.toList,c.argTypes.toList with
  | [x],[T]=>match alen C.P h T (ρ x)with|some n=>some (.int .i64 n)|none=>none
  |_,_=>none
 | .builtin .max=>match c.args.toList with
  | [x,y]=>match ρ x,ρ y with| .int kd a,.int _ b=>some (.int kd (if b>a then b else a))|_,_=>none
  |_=>none
 | .builtin .min=>match c.args.toList with
  | [x,y]=>match ρ x,ρ y with| .int kd a,.int _ b=>some (.int kd (if b<a then b else a))|_,_=>none
  |_=>none
 | .builtin .unsafeSliceData=>match c.args.toList with
  | [x]=>match ρ x with
   | .hs p ver 0 len true=>if (getRow h p ver).isSome=true then(if 0<len then some (.hp p ver 0 0)else some .pa)else none
   | .nil (.slice none 0 0)=>some .pa
   |_=>none
  |_=>none
 |_=>none
def pureX(o:Op)(t:Env)(h:Heap):Option AVal:=
 let ρ:=aev C.G t
 match o with
 | .move x=>some (ρ x)
 | .assign x=>some (ρ x)
 | .pick c a b=>match ρ c with| .bool true=>some (ρ a)| .bool false=>some (ρ b)|_=>none
 | .load T x=>loadX C T (ρ x) h
 | .nilCheck x=>nilX (ρ x) h
 | .binOp op T x y _=>binX C h op T (ρ x) (ρ y)
 | .unOp op _ x=>aun op (ρ x)
 | .convert s d x=>convX C s d (ρ x) h
 | .makeInterface T x=>if ifcT C.P T=some false then some (.ifc T (ρ x))else none
 | .makeFunc f first captured=>some (.fn f (first.toList.map ρ) (captured.toList.map ρ))
 | .slice T x lo hi mx=>aslice C.P h T (ρ x) (lo.map ρ) (hi.map ρ) (mx.map ρ)
 | .fieldAddr T x f=>fieldAX C T f (ρ x) h
 | .field T x f=>fieldX C T f (ρ x)
 | .indexAddr T x i=>indexAX C T (ρ x) (ρ i) h
 | .index T x i=>indexX C T (ρ x) (ρ i)
 | .extract x i=>match ρ x with| .tup vs=>vs[i]? |_=>none
 | .build T parts=>buildX C T (parts.toList.map fun q=>(q.1,ρ q.2))
 | .call c=>callPX C c ρ h
 |_=>none
variable {C} {t:Env} {h:Heap}
theorem ar{α:Type}{x:Option α}{a:α}{f:α→Prop}(e:x=some a)(h:f a):need x f:=by rw[e];exact h
theorem tP{T:TypeId}{x v:AVal}(g:loadX C T x h=some v){k:AVal→Prop}(hk:k v):loadK C T x h k:=by
 unfold loadX at g;unfold loadK;split at g
 ·exact ar g hk
 ·split at g
  ·rename_i hq;split at g
   ·rename_i hr;exact ar hq (ar hr (ar g hk))
   ·cases g
  ·cases g
 ·cases g
theorem vH{op:BinOp}{T:TypeId}{x y v:AVal}(g:binX C h op T x y=some v){k:AVal→Prop}(hk:k v):binK C.P h op T x y k:=by
 unfold binX at g;split at g
 ·cases g
 ·rename_i hne;rw[cr fun n e1 e2=>hne n e1 e2];exact ar g hk
theorem tQ{s d:TypeId}{x v:AVal}(g:convX C s d x h=some v){k:AVal→Prop}(hk:k v):convK C.P s d x h k:=by
 unfold convX at g;split at g
 ·split at g
  ·rename_i hq;split at g
   ·cases g
   ·split at g
    ·rename_i hp;cases g;exact ar hq ⟨hp,by simp,hk⟩
    ·cases g
  ·cases g
 ·split at g
  ·rename_i hb;split at g
   ·rename_i hy;split at g
    ·rename_i hz;cases g;exact⟨hb,ar hy (ar hz hk)⟩
    ·cases g
   ·cases g
  ·cases g
 ·exact ar g hk
 ·exact ar g hk
 ·cases g
theorem mq{o:Op}{v:AVal}(g:pureX C o t h=some v){K:AVal→Heap→Prop}(hk:K v h):wpOp C o t h K:=by
 cases o with
 |move x=>simp only[pureX,K5]at g;subst g;exact hk
 |assign x=>simp only[pureX,K5]at g;subst g;exact hk
 |pick c a b=>
  simp only[pureX]at g;unfold wpOp;simp only[];split at g
  ·rename_i e;cases g;rw[e];exact And.intro (fun _=>hk) (fun e=>Bool.noConfusion e)
  ·rename_i e;cases g;rw[e];exact And.intro (fun e=>Bool.noConfusion e) (fun _=>hk)
  ·cases g
 |load T x=>
  have:=tP (k:=fun v=>K v h) g hk;unfold loadK at this;unfold wpOp;simp only[];exact this
 |nilCheck x=>
  simp only[pureX,nilX]at g;unfold wpOp;simp only[];split at g
  ·rename_i e;rw[e];split at g
   ·rename_i e2;cases g;exact⟨e2,hk⟩
   ·cases g
  ·rename_i e;rw[e];cases g;exact hk
  ·rename_i e;rw[e];cases g;exact hk
  ·rename_i e;rw[e];cases g;exact hk
  ·cases g
 |binOp op T x y _=>exact vH (k:=fun v=>K v h) g hk
 |unOp op _ x=>exact ar g hk
 |convert s d x=>exact tQ (k:=fun v=>K v h) g hk
 |makeInterface T x=>
  simp only[pureX]at g;split at g
  ·rename_i e;cases g;exact⟨e,hk⟩
  ·cases g
 |makeFunc f a b=>simp only[pureX,K5]at g;subst g;exact hk
 |slice T x lo hi mx=>exact ar g hk
 |fieldAddr T x f=>
  simp only[pureX,fieldAX]at g;unfold wpOp;simp only[];split at g
  ·rename_i e;split at g
   ·cases g
   ·rename_i hn;refine ar e ⟨hn,?_⟩;split at g
    ·rename_i e;rw[e];split at g
     ·rename_i e2;cases g;exact⟨e2,hk⟩
     ·cases g
    ·rename_i e;rw[e];split at g
     ·rename_i e2;cases g;exact⟨e2,hk⟩
     ·cases g
    ·cases g
  ·cases g
 |field T x f=>
  simp only[pureX,fieldX]at g;unfold wpOp;simp only[];split at g
  ·rename_i e;refine ar e ?_;split at g
   ·rename_i e;rw[e];exact ar g hk
   ·cases g
  ·cases g
 |indexAddr T x i=>
  simp only[pureX,indexAX]at g;unfold wpOp;simp only[];split at g
  ·rename_i ei;rw[ei];simp only[];split at g
   ·rename_i h0;split at g
    ·rename_i e;rw[e];simp only[];split at g
     ·rename_i he;split at g
      ·rename_i hs;split at g
       ·rename_i hr;cases g;exact ar he ⟨hs.1,h0,hs.2,ar hr hk⟩
       ·cases g
      ·cases g
     ·cases g
    ·rename_i e;rw[e];simp only[];split at g
     ·rename_i he hr;split at g
      ·rename_i hs;cases g;exact ar he (ar hr ⟨hs.1,h0,hs.2,hk⟩)
      ·cases g
     ·cases g
    ·rename_i e;rw[e];simp only[];split at g
     ·rename_i he;split at g
      ·rename_i hs;split at g
       ·rename_i hc;cases g;exact ar he (ar hs ⟨hc.1,h0,hc.2,hk⟩)
       ·cases g
      ·cases g
     ·cases g
    ·rename_i e;rw[e];simp only[];split at g
     ·rename_i he;split at g
      ·rename_i hs;split at g
       ·rename_i hc;cases g;exact ar he (ar hs ⟨h0,hc.1,hc.2,hk⟩)
       ·cases g
      ·cases g
     ·cases g
    ·cases g
   ·cases g
  ·cases g
 |index T x i=>
  simp only[pureX,indexX]at g;unfold wpOp;simp only[];split at g
  ·rename_i ei;rw[ei];simp only[];split at g
   ·rename_i h0;split at g
    ·rename_i e;rw[e];simp only[];split at g
     ·rename_i he;split at g
      ·rename_i hr;cases g;exact⟨he,h0,ar hr hk⟩
      ·cases g
     ·cases g
    ·rename_i e;rw[e];simp only[];split at g
     ·rename_i he;split at g
      ·rename_i hs;split at g
       ·rename_i hc;exact ar he (ar hs ⟨h0,hc,ar g hk⟩)
       ·cases g
      ·cases g
     ·cases g
    ·cases g
   ·cases g
  ·cases g
 |extract x i=>
  simp only[pureX]at g;unfold wpOp;simp only[];split at g
  ·rename_i e;rw[e];exact ar g hk
  ·cases g
 |build T parts=>
  simp only[pureX,buildX]at g;unfold wpOp;simp only[];split at g
  ·rename_i hz;split at g
   ·rename_i ha;refine ar hz ⟨ha,?_⟩;split at g
    ·rename_i hn;rw[hn];simp only[];split at g
     ·rename_i hf;cases g;exact ar hf hk
     ·cases g
    ·rename_i hn;rw[hn];split at g
     ·rename_i hr;rw[hr];simp only[];split at g
      ·rename_i hs;split at g
       ·rename_i hf;cases g;exact ar hs (ar hf hk)
       ·cases g
      ·cases g
     ·cases g
   ·cases g
  ·cases g
 |call c=>
  simp only[pureX,callPX]at g;unfold wpOp;simp only[];unfold wpCall;simp only[];split at g
  ·rename_i hc;rw[hc];simp only[];split at g
   ·rename_i h1 h2;rw[h1,h2];simp only[];split at g
    ·rename_i hn;cases g;exact ar hn hk
    ·cases g
   ·cases g
  ·rename_i hc;rw[hc];simp only[];split at g
   ·rename_i h1;rw[h1];simp only[];split at g
    ·rename_i e1 e2;cases g;rw[e1,e2];unfold maxK;simp only[I4];exact hk
    ·cases g
   ·cases g
  ·rename_i hc;rw[hc];simp only[];split at g
   ·rename_i h1;rw[h1];simp only[];split at g
    ·rename_i e1 e2;cases g;rw[e1,e2];unfold maxK;simp only[I4];exact hk
    ·cases g
   ·cases g
  ·rename_i hc;rw[hc];simp only[];split at g
   ·rename_i h1;rw[h1];simp only[];split at g
    ·rename_i e1;rw[e1];unfold sdataK;simp only[];split at g
     ·rename_i hs;refine⟨hs,?_⟩;split at g
      ·rename_i hl;cases g;rw[I7 hl];exact hk
      ·rename_i hl;cases g;rw[I0 hl];exact hk
     ·cases g
    ·rename_i e1;rw[e1];cases g;exact hk
    ·cases g
   ·cases g
  ·cases g
 |_=>cases g
end
end Go.Av
theorem U9:type_of% @Go.Av.Weak.virt:=@Go.Av.Weak.virt
