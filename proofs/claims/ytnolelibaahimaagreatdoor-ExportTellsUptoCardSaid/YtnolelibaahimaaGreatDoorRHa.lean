/- Parts. -/
import Derived.Test.YtnolelibaahimaaGreatDoorRAv21
import Derived.Laws.Externs
import Derived.Test.YtnolelibaahimaaGreatDoorRAv9
import Derived.Test.YtnolelibaahimaaGreatDoorProg
import Derived.KernelRfl
import Derived.Test.YtnolelibaahimaaGreatDoorRows
import Derived.ChangeSame
import Derived.RowKit
import Derived.ReadAgain
import Derived.ChangeArms
import Derived.Clock
import Derived.Deep.Slices
import Derived.Lib.Builder
import Derived.Shelf.Strings.Builder1
import Derived.Shelf.Strings.Trim
import Derived.Shelf.Small.Utf8
import Derived.Shelf.Small.Bits
import Derived.Shelf.Small.Strs
import Derived.Shelf.Small.Wraps
import Derived.Shelf.Strings.BuilderF
import Derived.Shelf.Strings.BuilderK
import Derived.Shelf.Utf8.AppendRunePlain
import Derived.Shelf.Strconv.Itoa0
import Derived.Shelf.Strings.Search1
import Derived.Shelf.Strings.Search2
import Derived.Shelf.Strings.Search3
import Derived.Shelf.Strings.Cut
import Derived.Shelf.LaysM
import Derived.Shelf.Strings.Shaped
import Derived.Shelf.Strings.LastIndex
import Derived.Shelf.Strings.Prefix
import Derived.Shelf.Strings.Runes
import Derived.Shelf.Strings.AsciiSet
import Derived.Shelf.Unicode.DecodeSlow
import Derived.Shelf.Strings.FieldsFuncAny
import Derived.Ground.Names2Prog
import Derived.Shelf.Slices.Clone
import Derived.Shelf.Slices.SearchI
import Derived.Shelf.Slices.Delete
import Derived.Shelf.Slices.Empties
import Derived.Ground.SlgmProg
import Derived.Shelf.SortM.Plain
import Derived.Shelf.SortM.SortNone
set_option linter.unusedSimpArgs false
set_option linter.unusedVariables false
set_option linter.unusedSectionVars false
set_option linter.unnecessarySimpa false
set_option maxRecDepth 100000
set_option maxHeartbeats 16000000
namespace Go.Av
open Go.RowKit
section
variable {C:Ctx}
def Agr(ms:List Nat)(s t:Env):Prop:=∀i,i ∉ ms→s i=t i
theorem Agr.put{ms:List Nat}{s t:Env}{d:Option Nat}{v:AVal}(g:Agr ms s t)(hd:∀x,d=some x→x∈ms):Agr ms (put s d v) t:=by
 intro i hi;cases d with
 |none=>exact g i hi
 |some x=>
  have:i≠x:=fun e=>hi (e▸hd x rfl)
  simp only[Av.put,upd];rw[K4 this];exact g i hi
theorem bK{ops:Array Oper}{o:Oper}{t:Env}{h:Heap}{K K':AVal→Heap→Prop}(g:wpOperV C ops o t h K)(k:∀v h',K v h'→K' v h'):wpOperV C ops o t h K':=by
 unfold wpOperV at*;split at g
 ·exact eB k g
 ·split at g
  ·exact⟨fun e=>eB k (g.1 e),fun e=>k _ _ (g.2 e)⟩
  ·exact g.elim
theorem lV{ops:Array Oper}{ms:List Nat}{t0:Env}{Q Q':Exit→Env→Heap→Prop}(k:∀e t h,Q e t h→Agr ms t t0→Q' e t h):
  ∀(l:List Oper) (t:Env) (h:Heap),(∀x∈wrOps l,x∈ms)→Agr ms t t0→WPl C ops Q l t h→WPl C ops Q' l t h
 | [],t,h,_,a,g=>k _ _ _ g a
 |o::rest,t,h,hm,a,g=>by
  unfold WPl at g ⊢;rw[dJ]at g ⊢;refine bK g fun v h' g'=>lV k rest _ h' (fun x hx=>hm x ?_) (a.put fun x hx=>hm x ?_) g'
  ·unfold wrOps;split<;>simp[hx]
  ·unfold wrOps;simp[hx]
theorem lW{o:Oper}{x:Nat}(hx:o.dst=some x):∀(l:List Oper),o∈l→x∈wrOps l
 |o'::rest,hm=>by
  unfold wrOps;rcases N0.1 hm with rfl|hm
  ·rw[hx];simp
  ·split<;>simp[lW hx rest hm]
theorem gN{ops:Array Oper}{ms:List Nat}{t0:Env}{Q Q':Exit→Env→Heap→Prop}(k:∀e t h,Q e t h→Agr ms t t0→Q' e t h)(hm:∀x∈wrOps ops.toList,x∈ms):
  ∀(l:List Nat) (t:Env) (h:Heap),Agr ms t t0→WPix C ops Q l t h→WPix C ops Q' l t h
 | [],t,h,a,g=>k _ _ _ g a
 |i::rest,t,h,a,g=>by
  unfold WPix at g ⊢;cases hi:ops[i]? with
  |none=>rw[hi]at g;exact gN k hm rest t h a g
  |some o=>
   rw[hi]at g;simp only[]at g ⊢;rw[dJ]at g ⊢;exact bK g fun v h' g'=>gN k hm rest _ h' (a.put fun x hx=>hm x (lW hx _ (by simpa using V5 hi))) g'
theorem vm{ms:List Nat}{t0:Env}:∀(c:Code) {Q Q':Exit→Env→Heap→Prop},(∀e t h,Q e t h→Agr ms t t0→Q' e t h)→
  ∀(t:Env) (h:Heap),(∀x∈wr c,x∈ms)→Agr ms t t0→WP C c Q t h→WP C c Q' t h:=by
 intro c;induction c with
 |skip=>intro Q Q' k t h _ a g;exact k _ _ _ g a
 |label l=>intro Q Q' k t h _ a g;exact k _ _ _ g a
 |exit id=>intro Q Q' k t h _ a g;exact k _ _ _ g a
 |ret=>intro Q Q' k t h _ a g;exact k _ _ _ g a
 |region id ops draw=>
  intro Q Q' k t h hm a g;cases draw with
  |false=>exact lV k _ t h hm a g
  |true=>exact fun tp=>gN k hm _ t h a (g tp)
 |seq x y ihx ihy=>
  intro Q Q' k t h hm a g;refine ihx (Q:=thenQ (fun t h=>Wkn C (wr x) t h fun t h=>WP C y Q t h) Q) (fun e t' h' g' a'=>?_) t h (fun i hi=>hm i (by simp[wr,hi])) a g;cases e with
  |normal=>
   obtain⟨t1,h1,hw,g'⟩:=g';exact⟨t1,h1,hw,ihy k t1 h1 (fun i hi=>hm i (by simp[wr,hi])) (fun i hi=>(hw.1 i fun e=>hi (hm i (by simp[wr,e]))).trans (a' i hi)) g'⟩
  |_=>exact k _ _ _ g' a'
 |cond c x y ihx ihy=>
  intro Q Q' k t h hm a g;simp only[WP]at g ⊢;split at g
  ·exact⟨fun e=>ihx k t h (fun i hi=>hm i (by simp[wr,hi])) a (g.1 e),fun e=>ihy k t h (fun i hi=>hm i (by simp[wr,hi])) a (g.2 e)⟩
  ·exact g.elim
 |block id x ih=>
  intro Q Q' k t h hm a g;refine ih (Q:=blockQ id Q) (fun e t' h' g' a'=>?_) t h hm a g;cases e with
  |exit id'=>
   simp only[blockQ]at g' ⊢;split at g'
   ·rename_i e;rw[L7 e];exact k _ _ _ g' a'
   ·rename_i e;rw[K4 e];exact k _ _ _ g' a'
  |_=>exact k _ _ _ g' a'
 |loop x ih=>
  intro Q Q' k t h hm a g;obtain⟨I,n,⟨t1,h1,hw,h0⟩,round⟩:=g;have wk:∀t h t1 h1,Weak C (wr x) t h t1 h1→Agr ms t t0→Agr ms t1 t0:=fun t h t1 h1 hw a i hi=>(hw.1 i fun e=>hi (hm i e)).trans (a i hi)
  refine⟨fun n t h=>I n t h∧Agr ms t t0,n,⟨t1,h1,hw,h0,wk _ _ _ _ hw a⟩,fun n' t' h' hI=>?_⟩;refine ih (Q:=thenQ (fun t2 h2=>∃m,m<n'∧Wkn C (wr x) t2 h2 (I m)) Q) (fun e t2 h2 g' a'=>?_) t' h' hm hI.2 (round n' t' h' hI.1);cases e with
  |normal=>obtain⟨m,h1,t3,h3,hw3,h2⟩:=g';exact⟨m,h1,t3,h3,hw3,h2,wk _ _ _ _ hw3 a'⟩
  |_=>exact k _ _ _ g' a'
 |rangeFunc f ps a0 b _ _=>intro Q Q' k t h _ a g;exact g.elim
 |scope x ih=>
  intro Q Q' k t h hm a g;refine ih (Q:=noG Q) (fun e t' h' g' a'=>?_) t h hm a g;cases e with
  |goto l=>exact g'.elim
  |_=>exact k _ _ _ g' a'
 |goto l=>intro Q Q' k t h _ a g;exact g.elim
 |refuse s=>intro Q Q' k t h _ a g;exact g.elim
def mix:List Nat→Env→Env→Env
 | [],_,t=>t
 |a::ms,s,t=>upd (mix ms s t) a (s a)
@[go_sem] theorem ao(s t:Env)(i:Nat):mix [] s t i=t i:=(rfl)
@[go_sem] theorem ah(a:Nat)(ms:List Nat)(s t:Env)(i:Nat):mix (a::ms) s t i=if i=a then s a else mix ms s t i:=(rfl)
theorem yX{ms:List Nat}{s t:Env}{i:Nat}(h:i∈ms):mix ms s t i=s i:=by
 induction ms with
 |nil=>cases h
 |cons a ms ih=>
  rw[ah];split
  ·rename_i e;rw[e]
  ·rename_i e;rcases N0.1 h with h|h
   ·exact absurd h e
   ·exact ih h
theorem xB{ms:List Nat}{s t:Env}{i:Nat}(h:i ∉ ms):mix ms s t i=t i:=by
 induction ms with
 |nil=>rfl
 |cons a ms ih=>
  rw[ah];simp only[N0,not_or]at h;rw[K4 h.1];exact ih h.2
theorem Agr.mix{ms:List Nat}{s t:Env}(g:Agr ms s t):s=mix ms s t:=by
 funext i
 by_cases h:i∈ms
 ·rw[yX h]
 ·rw[xB h];exact g i h
theorem vn{c:Code}{ms:List Nat}{Q:Exit→Env→Heap→Prop}{t:Env}{h:Heap}(hms:wr c=ms)(I:Nat→Env→Heap→Prop)(n:Nat)(h0:Wkn C ms t h (I n))
  (round:∀(n':Nat) (s:Env) (h':Heap),I n' (mix ms s t) h'→∀K:Env→Heap→Prop,(∀m t2 h2,Wkn C ms t2 h2 (I m)→m<n'→K t2 h2)→WP C c (thenQ K Q) (mix ms s t) h'):WP C (.loop c) Q t h:=by
 subst hms;obtain⟨t1,h1,hw,h0⟩:=h0;refine⟨fun n t' h'=>I n t' h'∧Agr (wr c) t' t,n,⟨t1,h1,hw,h0,hw.1⟩,fun n' t' h' hI=>?_⟩;obtain⟨hI,ha⟩:=hI;have e:=ha.mix;have h1:=round n' t' h' (by rw[← e];exact hI) (fun t2 h2=>∃m,m<n'∧Wkn C (wr c) t2 h2 (I m)) (fun m t2 h2 hm hi=>⟨m,hi,hm⟩);rw[← e]at h1;refine vm (ms:=wr c) (t0:=t) c (fun e t2 h2 g' a'=>?_) t' h' (fun x hx=>hx) ha h1;cases e with
 |normal=>obtain⟨m,hm,t3,h3,hw3,hi⟩:=g';exact⟨m,hm,t3,h3,hw3,hi,fun i hi=>(hw3.1 i hi).trans (a' i hi)⟩
 |_=>exact g'
attribute [go_sem] wr wrOps
theorem ny{w:World}{S:Addr→Prop}{μ:Map}{m:MB}(hm:m.blk=none)(hv:m.ver=0):Rep w S (μ++[m]) (.hs μ.length 0 0 0 true) (.slice none 0 0):=
 .hs _ _ _ _ _ m _ (by simp) (by omega) (by intro cs h;cases h) rfl fun _=>.inl ⟨hm,rfl,rfl,rfl⟩
theorem lY{S:Addr→Prop}{μ:Map}{w:World}{B:Nat}{h:Heap}(f:Fits C B S μ h w)(e n:Nat)(hn:0<n):
  Fits C B S (μ++[⟨none,0,n,0⟩]) (h++[.row e n 0 []]) w∧Step B S μ w S (μ++[⟨none,0,n,0⟩]) w:=
 f.virtual ⟨none,0,n,0⟩ (.row e n 0 []) rfl ⟨rfl,rfl,hn,fun i r hi=>by simp at hi,fun i r j c hi=>by simp at hi,.inl ⟨rfl,rfl⟩⟩
theorem Weak.virt{ms:List Nat}{t:Env}{h:Heap}(i e n:Nat)(hi:i∈ms)(hn:0<n)(ht:t i=.nil (.slice none 0 0)):
  Weak C ms t h (upd t i (.hs h.length 0 0 0 true)) (h++[.row e n 0 []]):=by
 refine⟨fun j hj=>by simp only[upd];rw[K4];intro e;subst e;exact hj hi,fun B k S μ w a f r=>?_⟩;obtain⟨f',st⟩:=lY f e n hn;refine⟨S,_,st,f',r.1,r.2.1,fun j hj=>?_⟩;have hr:=r.2.2 j hj;simp only[upd];split
 ·rename_i e;subst e;rw[ht]at hr;generalize a.tmps.getD j undef=v at hr;cases hr;rw[← f.len];exact ny rfl rfl
 ·exact hr.mono st
def WkR(r s:AVal):Prop:=r.cells.length=s.cells.length∧∀(j:Nat) (c d:AVal),r.cells[j]? =some c→s.cells[j]? =some d→Wk c d∧(c.sto=true→d.sto=true)
theorem Weak.rows{ms:List Nat}{t:Env}{h:Heap}{p v e m:Nat}{rows:List AVal}(rows':List AVal)(hg:getRow h p v=some (e,m,rows))(hl:rows.length=rows'.length)
  (hw:∀(i:Nat) (r s:AVal),rows[i]? =some r→rows'[i]? =some s→WkR r s):Weak C ms t h t (h.set p (.row e m v rows')):=by
 refine⟨fun _ _=>rfl,fun B k S μ w a f r=>?_⟩;have hh:=ef hg;obtain⟨mb,hm,rf⟩:=f.row hg;have hset:List.set μ p mb=μ:=by
  obtain⟨hlt,he⟩:=f9.1 hm;rw[← he,List.set_getElem_self]
 have at_:∀(i:Nat) (s:AVal),rows'[i]? =some s→∃r,rows[i]? =some r∧WkR r s:=by
  intro i s hi;have hlt:=(f9.1 hi).1;exact⟨_,K6 (by omega),hw i _ s (K6 (by omega)) hi⟩
 have cat:∀(r s:AVal) (j:Nat) (d:AVal),WkR r s→s.cells[j]? =some d→∃c,r.cells[j]? =some c∧Wk c d∧(c.sto=true→d.sto=true):=by
  intro r s j d hw hj;have hlt:=(f9.1 hj).1;have hc:=K6 (show j<r.cells.length by rw[hw.1];exact hlt);exact⟨_,hc,hw.2 j _ d hc hj⟩
 have key:BlkFits w S (List.set μ p mb) mb (.row e m v rows'):=by
  rw[hset];refine⟨rf.hver,rf.hsize,rf.pos,fun i s hi=>?_,fun i s j d hi hj=>?_,?_⟩
  ·obtain⟨r,h0,h1⟩:=at_ i s hi;rw[← h1.1];exact rf.lens i r h0
  ·obtain⟨r,h0,h1⟩:=at_ i s hi;obtain⟨c,h2,_,h4⟩:=cat r s j d h1 hj;exact h4 (rf.sto i r j c h0 h2)
  ·rcases rf.lies with⟨h1,h2⟩| ⟨b,cur,h1,h2,h3,h4,h5,h6⟩
   ·subst h2;have:rows'=[]:=Q2.1 (by simpa using hl.symm);exact .inl ⟨h1,this⟩
   ·refine .inr ⟨b,cur,h1,h2,h3,by omega,h5,fun i s j d hi hj=>?_⟩;obtain⟨r,h0,h7⟩:=at_ i s hi;obtain⟨c,h8,h9,_⟩:=cat r s j d h7 hj;obtain⟨x,hx,hr⟩:=h6 i r j c h0 h8;exact⟨x,hx,h9 w S μ x hr⟩
 obtain⟨f2,st2⟩:=f.update (m':=mb) (k':=.row e m v rows') hm (Only.refl w _) (M0 _) (fun _=>rfl) (.inl rfl) key;exact⟨S,_,st2,f2,r.mono st2⟩
theorem Weak.virtRows{ms:List Nat}{t:Env}{h:Heap}{p v e m:Nat}{rows:List AVal}(rows':List AVal)(e' n':Nat)(hn:0<n')(hg:getRow h p v=some (e,m,rows))(hl:rows'.length=rows.length)
  (at_:∀(i:Nat) (r':AVal),rows'[i]? =some r'→∃r0,rows[i]? =some r0∧r'.cells.length=r0.cells.length∧
    ∀(q:Nat) (c:AVal),r'.cells[q]? =some c→(r0.cells[q]? =some c)∨(c=.hs h.length 0 0 0 true∧r0.cells[q]? =some (.nil (.slice none 0 0)))):
  Weak C ms t h t (h.set p (.row e m v rows')++[.row e' n' 0 []]):=by
 refine⟨fun _ _=>rfl,fun B k S μ w a f r=>?_⟩;obtain⟨f1,st1⟩:=lY f e' n' hn;have hh:=ef hg;have hp:=(f9.1 hh).1;have hg1:getRow (h++[.row e' n' 0 []]) p v=some (e,m,rows):=rn hg;obtain⟨mb,hm,rf⟩:=f1.row hg1;have key:BlkFits w S (List.set (μ++[(⟨none,0,n',0⟩:MB)]) p mb) mb (.row e m v rows'):=by
  have hset:List.set (μ++[(⟨none,0,n',0⟩:MB)]) p mb=μ++[(⟨none,0,n',0⟩:MB)]:=by
   obtain⟨hlt,he⟩:=f9.1 hm;rw[← he,List.set_getElem_self]
  rw[hset];refine⟨rf.hver,rf.hsize,rf.pos,fun i r' hi=>?_,fun i r' q c hi hc=>?_,?_⟩
  ·obtain⟨r0,h0,h1,_⟩:=at_ i r' hi;rw[h1];exact rf.lens i r0 h0
  ·obtain⟨r0,h0,_,h2⟩:=at_ i r' hi;rcases h2 q c hc with h3| ⟨rfl,h3⟩
   ·exact rf.sto i r0 q c h0 h3
   ·rfl
  ·rcases rf.lies with⟨h1,h2⟩| ⟨b,cur,h1,h2,h3,h4,h5,h6⟩
   ·subst h2;exact .inl ⟨h1,Q2.1 (by simpa using hl)⟩
   ·refine .inr ⟨b,cur,h1,h2,h3,by omega,h5,fun i r' q c hi hc=>?_⟩;obtain⟨r0,h0,_,h7⟩:=at_ i r' hi;rcases h7 q c hc with h8| ⟨rfl,h8⟩
    ·exact h6 i r0 q c h0 h8
    ·obtain⟨x,hx,hr⟩:=h6 i r0 q _ h0 h8;refine⟨x,hx,?_⟩;cases hr;rw[← f.len];exact ny rfl rfl
 obtain⟨f2,st2⟩:=f1.update (m':=mb) (k':=.row e m v rows') hm (Only.refl w _) (M0 _) (fun _=>rfl) (.inl rfl) key;rw[List.set_append_left _ _ hp]at f2;exact⟨S,_,st1.trans st2,f2,r.mono (st1.trans st2)⟩
theorem Weak.virtCell{ms:List Nat}{t:Env}{h:Heap}{p v e m:Nat}{cs:List AVal}(e' n':Nat)(hn:0<n')(hg:getRow h p v=some (e,m,[.agg cs]))(j:Nat)(hj:cs[j]? =some (.nil (.slice none 0 0))):
  Weak C ms t h t (h.set p (.row e m v [.agg (cs.set j (.hs h.length 0 0 0 true))])++[.row e' n' 0 []]):=by
 refine Weak.virtRows _ e' n' hn hg rfl fun i r' hi=>?_
 match i with
 |0=>
  simp only[V6,N2]at hi;subst hi;refine⟨_,rfl,by simp[AVal.cells],fun q c hc=>?_⟩;simp only[AVal.cells]at hc ⊢;by_cases hq:j=q
  ·subst hq;rw[P3 (f9.1 hj).1]at hc;cases hc;exact .inr ⟨rfl,hj⟩
  ·rw[R6 hq]at hc;exact .inl hc
 |i+1=>simp at hi
theorem Weak.virtCell1{ms:List Nat}{t:Env}{h:Heap}{p v e m:Nat}(e' n':Nat)(hn:0<n')(hg:getRow h p v=some (e,m,[.nil (.slice none 0 0)])):
  Weak C ms t h t (h.set p (.row e m v [.hs h.length 0 0 0 true])++[.row e' n' 0 []]):=by
 refine Weak.virtRows _ e' n' hn hg rfl fun i r' hi=>?_
 match i with
 |0=>
  simp only[V6,N2]at hi;subst hi;refine⟨_,rfl,rfl,fun q c hc=>?_⟩
  match q with
  |0=>simp[AVal.cells]at hc;subst hc;exact .inr ⟨rfl,rfl⟩
  |q+1=>simp[AVal.cells]at hc
 |i+1=>simp at hi
end
section
variable {C:Ctx} {B n:Nat} {S:Addr→Prop} {μ:Map} {h:Heap} {w w':World} {t:Env} {a:Act} {K:AVal→Heap→Prop}
theorem Fits.grown(f:Fits C B S μ h w)(b:Below w.heap.size w w'):Fits C B S μ h w'∧Step B S μ w S μ w':=by
 have hk:∀k,k<w.heap.size→w'.heap[k]? =w.heap[k]? :=fun k hk=>b.block k hk
 have st:Step B S μ w S μ w':=⟨fun _ ha=>ha,fun a ha=>World.cell?_of_block (hk _ (f.lie a ha)),b.mono f.base,MapLe.refl _,fun _ ha=>.inl ha⟩
 exact⟨⟨fun g cs hg=>(f.glob g cs hg).mono st,f.len,f.sep,fun p m k h1 e1=>by
  obtain⟨a1,a2,a3⟩:=f.own p m k h1 e1;exact⟨a1,U8 a2 b.size,a3⟩,Q6 f.base b.size,fun a ha=>U8 (f.lie a ha) b.size,
  fun p m k h1 h2=>(f.blk p m k h1 h2).mono st fun q hq=>hk q (f.own p m q h1 hq).2.1⟩,st⟩
theorem nz{T len e n:Nat}{idx:List Nat}{xs:List AVal}{k:AVal→Heap→Prop}(he:elmT C.P T=some e)(hn:szOf C.P e=some n)(hz:(zroT C.P e).map (fun z=>(z.cells.length,z.cells.all AVal.sto))=some (n,true))
  (hl:xs.length=len)(h0:0<len)(h1:0<n)(hb:len*n≤16777216)(hi:idx=List.range len)(hx:xs.all (fun x=>decide (x.cells.length=n)&&x.lies)=true)(hk:k (.sl n xs) h):rowsK C T len idx xs h k:=by
 unfold rowsK;rw[he,ba,hn,ba,K4 (by omega)];refine⟨hl,h0,h1,hb,hi,hz,fun x hm=>?_,.inr hk⟩;have:=O4.1 hx x hm;simpa using this
theorem vp{T len e n:Nat}{idx:List Nat}{xs:List AVal}{k:AVal→Heap→Prop}(he:elmT C.P T=some e)(hn:szOf C.P e=some n)(hz:(zroT C.P e).map (fun z=>(z.cells.length,z.cells.all AVal.sto))=some (n,true))
  (hl:xs.length=len)(h0:0<len)(h1:0<n)(hb:len*n≤16777216)(hi:idx=List.range len)(hx:xs.all (fun x=>decide (x.cells.length=n)&&x.lies)=true)(hk:k (.hs h.length 0 0 len true) (h++[.row e n 0 xs])):rowsK C T len idx xs h k:=by
 unfold rowsK;rw[he,ba,hn,ba,K4 (by omega)];refine⟨hl,h0,h1,hb,hi,hz,fun x hm=>?_,.inl hk⟩;have:=O4.1 hx x hm;simpa using this
theorem vr{T len e n:Nat}{idx:List Nat}{xs:List AVal}{k:AVal→Prop}(he:elmT C.P T=some e)(hn:szOf C.P e=some n)(hz:(zroT C.P e).map (fun z=>(z.cells.length,z.cells.all AVal.sto))=some (n,true))
  (hl:xs.length=len)(h0:0<len)(h1:0<n)(hb:len*n≤16777216)(hi:idx=List.range len)(hx:xs.all (fun x=>decide (x.cells.length=n)&&x.lies)=true)(hk:k (.sl n xs)):rowsV C T len idx xs k:=by
 unfold rowsV;rw[he,ba,hn,ba,K4 (by omega)];refine⟨hl,h0,h1,hb,hi,hz,fun x hm=>?_,hk⟩;have:=O4.1 hx x hm;simpa using this
def plainV:AVal→Option Value
 | .int k n=>some (.int k n)
 | .bool b=>some (.bool b)
 | .str s=>some (.string ⟨s.toArray⟩)
 |_=>none
def plainL:List AVal→Option (List Value)
 | []=>some []
 |x::l=>match plainV x,plainL l with|some v,some vs=>some (v::vs)|_,_=>none
theorem rz{x:AVal}{v u:Value}(g:plainV x=some v)(r:Rep w S μ x u):u=v:=by
 unfold plainV at g;split at g
 ·cases g;exact r.int_inv
 ·cases g;exact r.bool_inv
 ·cases g;exact r.str_inv
 ·cases g
theorem lZ{x:AVal}{v:Value}(g:plainV x=some v):Rep w S μ x v:=by
 unfold plainV at g;split at g
 ·cases g;exact .int _ _
 ·cases g;exact .bool _
 ·cases g;exact .str _
 ·cases g
theorem jT:∀{xs:List AVal} {vs us:List Value},plainL xs=some vs→RepL w S μ xs us→us=vs
 | [],vs,us,g,r=>by
  cases g;have h1:=r.1;simpa using h1
 |x::l,vs,us,g,r=>by
  unfold plainL at g;split at g
  ·rename_i v vs' h1 h2;cases g;obtain⟨hl,hr⟩:=r
   match us,hl,hr with
   |u::us,hl,hr=>
    have e1:=rz h1 (by simpa using hr 0 x rfl);have e2:=jT (us:=us) h2 ⟨by simpa using hl,fun i y hi=>by simpa using hr (i+1) y (by simpa using hi)⟩;rw[e1,e2]
  ·cases g
theorem ma(w:World)(S:Addr→Prop)(μ:Map):∀{xs:List AVal} {vs:List Value},plainL xs=some vs→RepL w S μ xs vs
 | [],vs,g=>by cases g;exact⟨rfl,fun i x hi=>by simp at hi⟩
 |x::l,vs,g=>by
  unfold plainL at g;split at g
  ·rename_i v vs' h1 h2;cases g;have ih:=ma w S μ h2;refine⟨by simp[ih.1],fun i y hi=>?_⟩
   match i with
   |0=>simp at hi;subst hi;simpa using lZ h1
   |i+1=>simpa using ih.2 i y (by simpa using hi)
  ·cases g
def plainR:AVal→Option Value
 | .tup l=>(plainL l).map fun vs=>.tuple vs.toArray
 |x=>plainV x
theorem tB{x:AVal}{v:Value}(g:plainR x=some v):Rep w S μ x v:=by
 unfold plainR at g;split at g
 ·obtain⟨vs,hv,rfl⟩:=N3.1 g;have:=ma w S μ hv;exact .tup _ vs this.1 this.2
 ·exact lZ g
theorem Sat.of_calls{f:FuncId}{fn:Func}{args:List AVal}{vs:List Value}{r:AVal}{v:Value}(hf:C.P.funcs[f]? =some fn)(hb:fn.body.isNone=false)(hname:(fn.name== "runtime.NumGoroutine")=false)
  (ha:plainL args=some vs)(hr:plainR r=some v)(hc:∀B S μ w,Fits C B S μ h w→Calls C.P f vs.toArray w fun e w'=>e=.returned v∧Below w.heap.size w w'):Sat C f args h (fun r' h'=>r'=r∧h'=h):=by
 intro B S μ w us fit rl;obtain rfl:=jT ha rl;have e:(callFunc f us.toArray).run C.P w=.ok (.enter f us.toArray) w:=by
  have hne:fn.name≠ "runtime.NumGoroutine" :=by simpa using hname
  obtain⟨c,hbc⟩:∃c,fn.body=some c:=by cases hq:fn.body with|none=>simp[hq]at hb|some c=>exact⟨c,rfl⟩
  simp[callFunc,hf,hne,hbc]
 rw[e];refine(hc B S μ w fit).mono fun e' w' ⟨he,hw⟩=>⟨v,he,?_⟩
 obtain⟨f',st⟩:=fit.grown hw;exact⟨r,h,S,μ,⟨rfl,rfl⟩,st,f',tB hr⟩
theorem Sat.of_extern{f:FuncId}{fn:Func}{ex:Array Value→Sem Value}{args:List AVal}{R:AVal→Heap→Prop}(hf:C.P.funcs[f]? =some fn)(hname:(fn.name== "runtime.NumGoroutine")=false)
  (hb:fn.body.isNone=true)(hn:Extern.findNext fn=none)(he:Extern.find fn=some ex)
  (hc:∀B S μ w vs,Fits C B S μ h w→RepL w S μ args vs→∃v w',(ex vs.toArray).run C.P w=.ok v w'∧OpPost C B S μ w R v w'):Sat C f args h R:=by
 intro B S μ w vs fit rl;obtain⟨v,w',hr,hp⟩:=hc B S μ w vs fit rl;rw[run_callFunc_extern hf hname hb hn he];simp[M6,hr];exact hp
theorem Fin.plainE{h0 h1 j:Heap}{R:AVal→Heap→Prop}{r:AVal}(hh:h1=h0++j)(hc:Clo h0.length r)(hR:R r h0):Fin h0 h1 R r:=by
 subst hh;exact K9 hc hR
theorem Fin.keep{h0 h1 j:Heap}{R:AVal→Heap→Prop}{r:AVal}(hl:h1.length=h0.length)(hk:∀(p:Nat) (k:Blk),h1[p]? =some k→h0[p]? =some k∨CloB h0.length k)(hc:Clo h0.length r)(hR:R r h1):Fin h0 (h1++j) R r:=by
 refine⟨h0.length,r,M0 _,.clo _ hc,.inr fun p k hp h2=>?_,by rw[V1 hl];exact hR⟩;rw[L9 (by omega)]at h2;rcases hk p k h2 with h3|h3
 ·exact .inl ⟨hp,h3⟩
 ·exact .inr h3
theorem Fin.keep0{h0 h1:Heap}{R:AVal→Heap→Prop}{r:AVal}(hl:h1.length=h0.length)(hk:∀(p:Nat) (k:Blk),h1[p]? =some k→h0[p]? =some k∨CloB h0.length k)(hc:Clo h0.length r)(hR:R r h1):Fin h0 h1 R r:=by
 have:=Fin.keep (j:=[]) hl hk hc hR;simpa using this
theorem Fin.keepF{h0 h1 j:Heap}{R:AVal→Heap→Prop}{r0 r:AVal}(hl:h1.length=h0.length)(hk:∀(p:Nat) (k:Blk),h1[p]? =some k→h0[p]? =some k∨CloB h0.length k)(hc:Frz (h1++j) h0.length r0 r)(hR:R r h1):Fin h0 (h1++j) R r0:=by
 refine⟨h0.length,r,M0 _,hc,.inr fun p k hp h2=>?_,by rw[V1 hl];exact hR⟩;rw[L9 (by omega)]at h2;rcases hk p k h2 with h3|h3
 ·exact .inl ⟨hp,h3⟩
 ·exact .inr h3
end
abbrev ML(κ α:Type):=List (κ×α×Nat)
def encM{κ α:Type}(ek:κ→AVal)(ev:α→AVal)(l:ML κ α):List (AVal×AVal×Nat):=l.map fun e=>(ek e.1,ev e.2.1,e.2.2)
def iA(n:Int):AVal:=.int .i64 n
def nA(n:Int×List UInt8):AVal:=.agg [.int .i64 n.1,.str n.2]
section
variable {κ α:Type} [DecidableEq κ]
def ixM:ML κ α→κ→Option Nat
 | [],_=>none
 |e::l,x=>if x=e.1 then some 0 else(ixM l x).map (· +1)
def lkM:ML κ α→κ→Option α
 | [],_=>none
 |e::l,x=>if x=e.1 then some e.2.1 else lkM l x
def upM:ML κ α→Nat→κ→α→ML κ α
 | [],c,x,a=>[(x,a,c)]
 |e::l,c,x,a=>if x=e.1 then(x,a,e.2.2)::l else e::upM l c x a
def dlM:ML κ α→κ→ML κ α
 | [],_=>[]
 |e::l,x=>if x=e.1 then l else e::dlM l x
def ckM(l:ML κ α)(c:Nat)(x:κ):Nat:=if (lkM l x).isSome then c else c+1
theorem yY(l:ML κ α)(x:κ):(ixM l x).isSome=(lkM l x).isSome:=by
 induction l with
 |nil=>rfl
 |cons e l ih=>simp only[ixM,lkM];split<;>simp[ih]
theorem aY(l:ML κ α)(c:Nat)(x:κ)(a:α)(y:κ):lkM (upM l c x a) y=if y=x then some a else lkM l y:=by
 induction l with
 |nil=>simp[upM,lkM]
 |cons e l ih=>
  simp only[upM,lkM];by_cases h:x=e.1
  ·subst h;simp only[if_true,lkM];split<;>rfl
  ·rw[K4 h];simp only[lkM,ih];by_cases hy:y=e.1
   ·subst hy;rw[L7 rfl,L7 rfl,K4 (fun e=>h e.symm)]
   ·rw[K4 hy,K4 hy]
theorem vt{l:ML κ α}{x:κ}(h:x ∉ l.map (·.1)):lkM l x=none:=by
 induction l with
 |nil=>rfl
 |cons e l ih=>
  simp only[N4,N0,not_or]at h;rw[lkM,K4 h.1,ih h.2]
theorem dL{l:ML κ α}{x:κ}{a:α}(h:lkM l x=some a):∃b,(x,a,b)∈l:=by
 induction l with
 |nil=>cases h
 |cons e l ih=>
  rw[lkM]at h;split at h
  ·rename_i hx;cases h;subst hx;exact⟨_,S9 ..⟩
  ·obtain⟨b,hb⟩:=ih h;exact⟨b,Q1 _ hb⟩
theorem bT{l:ML κ α}(hn:(l.map (·.1)).Nodup){x:κ}{a:α}{b:Nat}(h:(x,a,b)∈l):lkM l x=some a:=by
 induction l with
 |nil=>cases h
 |cons e l ih=>
  rw[N4,X4]at hn;rcases N0.1 h with h|h
  ·subst h;rw[lkM,L7 rfl]
  ·rw[lkM,K4,ih hn.2 h];intro he;exact hn.1 (M7.2 ⟨_,h,he⟩)
theorem eE{l:ML κ α}(hn:(l.map (·.1)).Nodup)(x y:κ):lkM (dlM l x) y=if y=x then none else lkM l y:=by
 induction l with
 |nil=>simp[dlM,lkM]
 |cons e l ih=>
  rw[N4,X4]at hn;simp only[dlM];by_cases h:x=e.1
  ·subst h;rw[L7 rfl];by_cases hy:y=e.1
   ·subst hy;rw[L7 rfl,vt hn.1]
   ·rw[K4 hy,lkM,K4 hy]
  ·rw[K4 h];simp only[lkM,ih hn.2];by_cases hy:y=e.1
   ·subst hy;rw[L7 rfl,L7 rfl,K4 (fun e=>h e.symm)]
   ·rw[K4 hy,K4 hy]
theorem l9(l:ML κ α)(c:Nat)(x:κ)(a:α):(upM l c x a).length=if (lkM l x).isSome then l.length else l.length+1:=by
 induction l with
 |nil=>rfl
 |cons e l ih=>
  simp only[upM,lkM];split
  ·simp
  ·rw[L6,ih];split<;>simp
theorem xC{l:ML κ α}{x:κ}{e:κ×α×Nat}(h:e∈dlM l x):e∈l:=by
 induction l with
 |nil=>exact h
 |cons d l ih=>
  simp only[dlM]at h;split at h
  ·exact Q1 _ h
  ·rcases N0.1 h with h|h
   ·rw[h];exact S9 ..
   ·exact Q1 _ (ih h)
theorem iM(l:ML κ α)(x:κ):(dlM l x).Sublist l:=by
 induction l with
 |nil=>exact .slnil
 |cons d l ih=>
  simp only[dlM];split
  ·exact List.sublist_cons_self ..
  ·exact ih.cons_cons _
structure WFM (l:ML κ α) (c:Nat):Prop where
 keys:(l.map (·.1)).Nodup
 borns:(l.map (·.2.2)).Nodup
 lt:∀e∈l,e.2.2<c
theorem WFM.nil:WFM ([]:ML κ α) 0:=⟨by simp,by simp,fun e h=>by cases h⟩
theorem nB(l:ML κ α)(c:Nat)(x:κ)(a:α):(upM l c x a).map (·.1)=if (lkM l x).isSome then l.map (·.1)else l.map (·.1)++[x]:=by
 induction l with
 |nil=>rfl
 |cons e l ih=>
  simp only[upM,lkM];split
  ·rename_i h;subst h;simp
  ·rw[N4,ih];split<;>simp
theorem fJ(l:ML κ α)(c:Nat)(x:κ)(a:α):(upM l c x a).map (·.2.2)=if (lkM l x).isSome then l.map (·.2.2)else l.map (·.2.2)++[c]:=by
 induction l with
 |nil=>rfl
 |cons e l ih=>
  simp only[upM,lkM];split
  ·rename_i h;subst h;simp
  ·rw[N4,ih];split<;>simp
theorem qg{l:ML κ α}{x:κ}(h:(lkM l x).isSome=false):x ∉ l.map (·.1):=by
 induction l with
 |nil=>simp
 |cons e l ih=>
  rw[lkM]at h;split at h
  ·cases h
  ·rename_i hx;simp only[N4,N0,not_or];exact⟨hx,ih h⟩
theorem WFM.up{l:ML κ α}{c:Nat}(w:WFM l c)(x:κ)(a:α):WFM (upM l c x a) (ckM l c x):=by
 cases h:(lkM l x).isSome with
 |true=>
  refine⟨by rw[nB,h];exact w.keys,by rw[fJ,h];exact w.borns,fun e he=>?_⟩;have:e.2.2∈ (upM l c x a).map (·.2.2):=M7.2 ⟨e,he,rfl⟩;rw[fJ,h,L7 rfl]at this;obtain⟨d,hd,hq⟩:=M7.1 this;rw[ckM,h,L7 rfl, ← hq];exact w.lt d hd
 |false=>
  refine⟨?_,?_,fun e he=>?_⟩
  ·rw[nB,h];simp only[O0,if_false];rw[List.nodup_append];exact⟨w.keys,by simp,fun y hy z hz=>by simp at hz;subst hz;intro e;subst e;exact qg h hy⟩
  ·rw[fJ,h];simp only[O0,if_false];rw[List.nodup_append];exact⟨w.borns,by simp,fun y hy z hz=>by
    simp at hz;subst hz;intro e;subst e;obtain⟨d,hd,hq⟩:=M7.1 hy;have:=w.lt d hd;omega⟩
  ·have:e.2.2∈ (upM l c x a).map (·.2.2):=M7.2 ⟨e,he,rfl⟩;rw[fJ,h]at this;simp only[O0,if_false,R4,W7]at this;rw[ckM,h];simp only[O0,if_false];rcases this with h1|h1
   ·obtain⟨d,hd,hq⟩:=M7.1 h1;have:=w.lt d hd;omega
   ·omega
theorem WFM.dl{l:ML κ α}{c:Nat}(w:WFM l c)(x:κ):WFM (dlM l x) c:=
 ⟨((iM l x).map _).nodup w.keys,((iM l x).map _).nodup w.borns,fun e he=>w.lt e (xC he)⟩
variable {P:Program} {kt:TypeId} {ek:κ→AVal} {ev:α→AVal}
theorem vu(hk:∀x y,akey P kt (ek x) (ek y)=some (decide (x=y)))(x:κ)(l:ML κ α):∀i,findA P kt (ek x) (encM ek ev l) i=some ((ixM l x).map (· +i)):=by
 induction l with
 |nil=>intro i;rfl
 |cons e l ih=>
  intro i;have hh:=hk x e.1;simp only[encM,N4,findA,hh,ixM];by_cases h:x=e.1
  ·rw[N7 h];simp[L7 h]
  ·rw[N8 h,K4 h];have:=ih (i+1);rw[encM]at this;simp only[this,Option.map_map];congr 2
   funext j;simp;omega
theorem ir(hk:∀x y,akey P kt (ek x) (ek y)=some (decide (x=y)))(x:κ)(l:ML κ α):findA P kt (ek x) (encM ek ev l) 0=some (ixM l x):=by
 rw[vu hk];simp
theorem yZ(h:kindT P kt=0)(x y:Int):akey P kt (iA x) (iA y)=some (decide (x=y)):=by
 simp only[akey,iA,h,aeq1,if_true,N2];rw[P6];simp
theorem z8(h:kindT P kt=2)(x y:List UInt8):akey P kt (.str x) (.str y)=some (decide (x=y)):=by
 simp only[akey,h,aeq1,N2];rw[P6];simp
theorem za(h:plainT P kt=some [0,2])(x y:Int×List UInt8):akey P kt (nA x) (nA y)=some (decide (x=y)):=by
 simp only[akey,nA,h,Option.bind_some,aeqL,aeq1,if_true,Q3,N2,Bool.and_true];rw[P6];obtain⟨a,b⟩:=x;obtain⟨c,d⟩:=y;simp
@[go_sem] theorem Ir{l:ML Int α}(h:kindT P kt=0)(x:Int):findA P kt (.int .i64 x) (encM iA ev l) 0=some (ixM l x):=ir (ek:=iA) (yZ h) x l
@[go_sem] theorem Iu{l:ML (List UInt8) α}(h:kindT P kt=2)(x:List UInt8):findA P kt (.str x) (encM AVal.str ev l) 0=some (ixM l x):=ir (ek:=AVal.str) (z8 h) x l
@[go_sem] theorem Iv{l:ML (Int×List UInt8) α}(h:plainT P kt=some [0,2])(a:Int)(b:List UInt8):findA P kt (.agg [.int .i64 a,.str b]) (encM nA ev l) 0=some (ixM l (a,b)):=ir (ek:=nA) (za h) (a,b) l
@[go_sem] theorem Iw(h:kindT P kt=0)(x:Int):keyA P kt (.int .i64 x)=true:=by simp[keyA,keyT,akey,h,aeq1]
@[go_sem] theorem Ix(h:kindT P kt=2)(x:List UInt8):keyA P kt (.str x)=true:=by simp[keyA,keyT,akey,h,aeq1]
@[go_sem] theorem Iy(h:plainT P kt=some [0,2])(a:Int)(b:List UInt8):keyA P kt (.agg [.int .i64 a,.str b])=true:=by simp[keyA,keyT,akey,h,aeqL,aeq1]
def v1(z:AVal)(ev:α→AVal):Option α→AVal
 |some a=>ev a
 |none=>z
def vM(ok:Bool)(z:AVal)(ev:α→AVal)(o:Option α):AVal:=if ok then .tup [v1 z ev o,.bool o.isSome]else v1 z ev o
@[go_sem] theorem Jy(z:AVal)(ev:α→AVal)(o:Option α):vM true z ev o=.tup [v1 z ev o,.bool o.isSome]:=(rfl)
@[go_sem] theorem Jz(z:AVal)(ev:α→AVal)(o:Option α):vM false z ev o=v1 z ev o:=(rfl)
theorem nC{z:AVal}{ev:α→AVal}{d:α}(h:ev d=z)(o:Option α):v1 z ev o=ev (o.getD d):=by cases o<;>simp[v1,h]
@[go_sem] theorem JA(d:Int)(o:Option Int):v1 (.int .i64 d) iA o=.int .i64 (o.getD d):=nC rfl o
theorem zb(ok:Bool)(z:AVal)(l:ML κ α)(x:κ):gotA ok z ((ixM l x).bind fun i=>(encM ek ev l)[i]?)=vM ok z ev (lkM l x):=by
 induction l with
 |nil=>cases ok<;>rfl
 |cons e l ih=>
  simp only[ixM,lkM];split
  ·cases ok<;>simp[encM,gotA,vM,v1]
  ·rw[Option.bind_map];simp only[encM,N4]at ih ⊢;exact ih
attribute [go_sem] zb
theorem rC(c:Nat)(l:ML κ α)(x:κ)(a:α):putM (encM ek ev l) c (ek x) (ev a) (ixM l x)=.mp (encM ek ev (upM l c x a)) (ckM l c x):=by
 have h1:∀l:ML κ α,(match ixM l x with|some i=>(encM ek ev l).modify i fun e=>(ek x,ev a,e.2.2)|none=>encM ek ev l++[(ek x,ev a,c)])=encM ek ev (upM l c x a):=by
  intro l;induction l with
  |nil=>rfl
  |cons e l ih=>
   simp only[ixM,upM];split
   ·rename_i h;split at h
    ·cases h;rename_i hx;rw[L7 hx];rfl
    ·rename_i hx;rw[K4 hx];cases hi:ixM l x with
     |none=>rw[hi]at h;cases h
     |some j=>
      rw[hi]at h ih;simp at h;subst h;simp only[encM,N4,List.modify_succ_cons]at ih ⊢;rw[ih]
   ·rename_i h;split at h
    ·cases h
    ·rename_i hx;rw[K4 hx];cases hi:ixM l x with
     |some j=>rw[hi]at h;cases h
     |none=>
      rw[hi]at ih;simp only[encM,N4,Q7]at ih ⊢;rw[ih]
 have h2:=yY l x;have h3:=h1 l;cases hi:ixM l x with
 |some i=>rw[hi]at h2 h3;simp only[Option.isSome_some]at h2;simp only[putM,ckM, ← h2,if_true];rw[← h3]
 |none=>rw[hi]at h2 h3;simp only[Option.isSome_none]at h2;simp only[putM,ckM, ← h2];rw[← h3];rfl
theorem Bu(c:Nat)(l:ML κ α)(x:κ):delM (encM ek ev l) c (ixM l x)=.mp (encM ek ev (dlM l x)) c:=by
 have h1:∀l:ML κ α,(match ixM l x with|some i=>(encM ek ev l).eraseIdx i|none=>encM ek ev l)=encM ek ev (dlM l x):=by
  intro l;induction l with
  |nil=>rfl
  |cons e l ih=>
   simp only[ixM,dlM];by_cases hx:x=e.1
   ·rw[L7 hx,L7 hx];rfl
   ·rw[K4 hx,K4 hx];cases hi:ixM l x with
    |none=>rw[hi]at ih;simp only[encM,N4,Option.map_none]at ih ⊢;rw[← ih]
    |some j=>rw[hi]at ih;simp only[encM,N4,Q3,List.eraseIdx_cons_succ]at ih ⊢;rw[ih]
 have h3:=h1 l;cases hi:ixM l x with
 |some i=>rw[hi]at h3;simp only[delM];rw[← h3]
 |none=>rw[hi]at h3;simp only[delM];rw[← h3]
attribute [go_sem] Bu
def alenM:Option (TypeId×TypeId)→Option (List (AVal×AVal×Nat)×Nat)→Option Nat
 |some _,some r=>some r.1.length
 |_,_=>none
@[go_sem] theorem GD(P:Program)(h:Heap)(T:TypeId)(p:Nat):alen P h T (.hm p)=alenM (mapT P T) (mapAt h p):=by
 simp only[alen];cases mapT P T with
 |none=>rfl
 |some q=>cases mapAt h p<;>rfl
@[go_sem] theorem GE(q:TypeId×TypeId)(r:List (AVal×AVal×Nat))(c:Nat):alenM (some q) (some (r,c))=some r.length:=(rfl)
@[go_sem] theorem Fk(l:ML κ α):(encM ek ev l).length=l.length:=L5 ..
theorem la{v:AVal}(c:Nat)(l:ML Int α)(x:Int)(a:α)(h:ev a=v):putM (encM iA ev l) c (.int .i64 x) v (ixM l x)=.mp (encM iA ev (upM l c x a)) (ckM l c x):=by subst h;exact rC (ek:=iA) c l x a
theorem Fl{v:AVal}(c:Nat)(l:ML (List UInt8) α)(x:List UInt8)(a:α)(h:ev a=v):putM (encM AVal.str ev l) c (.str x) v (ixM l x)=.mp (encM AVal.str ev (upM l c x a)) (ckM l c x):=by subst h;exact rC (ek:=AVal.str) c l x a
theorem Fm{v:AVal}(c:Nat)(l:ML (Int×List UInt8) α)(x:Int)(y:List UInt8)(a:α)(h:ev a=v):putM (encM nA ev l) c (.agg [.int .i64 x,.str y]) v (ixM l (x,y))=.mp (encM nA ev (upM l c (x,y) a)) (ckM l c (x,y)):=by subst h;exact rC (ek:=nA) c l (x,y) a
@[go_sem] theorem J3(c:Nat)(l:ML Int Int)(x a:Int):putM (encM iA iA l) c (.int .i64 x) (.int .i64 a) (ixM l x)=.mp (encM iA iA (upM l c x a)) (ckM l c x):=la c l x a rfl
@[go_sem] theorem J4(c:Nat)(l:ML (List UInt8) Int)(x:List UInt8)(a:Int):putM (encM AVal.str iA l) c (.str x) (.int .i64 a) (ixM l x)=.mp (encM AVal.str iA (upM l c x a)) (ckM l c x):=Fl c l x a rfl
@[go_sem] theorem J5(c:Nat)(l:ML (Int×List UInt8) Int)(x:Int)(y:List UInt8)(a:Int):putM (encM nA iA l) c (.agg [.int .i64 x,.str y]) (.int .i64 a) (ixM l (x,y))=.mp (encM nA iA (upM l c (x,y) a)) (ckM l c (x,y)):=Fm c l x y a rfl
@[go_sem] theorem Iz(k:IntKind)(n:Int):softA (.int k n)=.int k n:=(rfl)
@[go_sem] theorem Fp(cs:List AVal):softA (.agg cs)=.agg (cs.map soft1):=(rfl)
@[go_sem] theorem GF(k:IntKind)(n:Int):soft1 (.int k n)=.int k n:=(rfl)
@[go_sem] theorem GG(s:List UInt8):soft1 (.str s)=.str s:=(rfl)
@[go_sem] theorem GH(b:Bool):soft1 (.bool b)=.bool b:=(rfl)
@[go_sem] theorem GI:soft1 (.nil (.slice none 0 0))=.sl 1 []:=(rfl)
@[go_sem] theorem GJ(n:Nat)(l:List AVal):soft1 (.sl n l)=.sl n l:=(rfl)
def leftM(l:ML κ α)(seen:List Nat):Nat:=(l.filter fun e=>decide (e.2.2 ∉ seen)).length
theorem vw{h:Heap}{p q c:Nat}{seen:List Nat}{l:ML κ α}{k:AVal→Heap→Prop}(hh:h[p]? =some (.mit q c seen c))(hm:mapAt h q=some (encM ek ev l,c))(hb:∀e∈l,e.2.2<c)
  (h1:∀e∈l,e.2.2 ∉ seen→k (.tup [.bool true,ek e.1,ev e.2.1]) (h.set p (.mit q c (seen++[e.2.2]) c)))
  (h2:(∀e∈l,e.2.2∈seen)→k (.tup [.bool false]) h):nextMK (.hp p 0 0 0) h k:=by
 simp only[nextMK,hh,hm,ba];refine⟨?_,fun e he hs=>?_,fun hn=>h2 fun e he=>?_⟩
 ·cases l with
  |nil=>simp[encM]
  |cons e l=>
   have:=hb e (S9 ..);simp only[encM,N4,Z0];rw[N8 (by omega)];simp
 ·obtain⟨d,hd,rfl⟩:=M7.1 he;exact h1 d hd hs
 ·apply Q4
  intro hs;have:=hn (ek e.1,ev e.2.1,e.2.2) (M7.2 ⟨e,he,rfl⟩) hs;have:=hb e he;simp at *;omega
theorem vx{h:Heap}{p q c since:Nat}{seen:List Nat}{l:ML κ α}{e:κ×α×Nat}{k:AVal→Prop}(hh:h[p]? =some (.mit q since (seen++[e.2.2]) c))(hm:mapAt h q=some (encM ek ev l,c))(w:WFM l c)(he:e∈l)
  (hk:k (.tup [ek e.1,ev e.2.1])):entryK (.hp p 0 0 0) h k:=by
 have:(encM ek ev l).find? (fun d=>d.2.2==e.2.2)=some (ek e.1,ev e.2.1,e.2.2):=by
  have hb:=w.borns;clear w hm;induction l with
  |nil=>cases he
  |cons d l ih=>
   rw[N4,X4]at hb;rw[encM,N4,List.find?_cons];rcases N0.1 he with rfl|he
   ·simp
   ·have:d.2.2≠e.2.2:=fun q=>hb.1 (M7.2 ⟨e,he,q.symm⟩)
    simp only[beq_eq_false_iff_ne.2 this];exact ih he hb.2
 simp only[entryK,hh,hm,ba,this,List.getLast?_append,List.getLast?_singleton,Option.some_or];exact⟨trivial,hk⟩
theorem nD{l l':ML κ α}{seen:List Nat}{e:κ×α×Nat}(he:e∈l)(hs:e.2.2 ∉ seen)(hsub:l'.Sublist l):leftM l' (seen++[e.2.2])<leftM l seen:=by
 unfold leftM;have h1:(l'.filter fun d=>decide (d.2.2 ∉ seen++[e.2.2])).length≤(l.filter fun d=>decide (d.2.2 ∉ seen++[e.2.2])).length:=(hsub.filter _).length_le;have h2:∀l:ML κ α,e∈l→(l.filter fun d=>decide (d.2.2 ∉ seen++[e.2.2])).length<(l.filter fun d=>decide (d.2.2 ∉ seen)).length:=by
  intro l;have le:∀l:ML κ α,(l.filter fun d=>decide (d.2.2 ∉ seen++[e.2.2])).length≤(l.filter fun d=>decide (d.2.2 ∉ seen)).length:=by
   intro l;induction l with
   |nil=>simp
   |cons d l ih=>
    simp only[V8];by_cases h:d.2.2∈seen
    ·rw[N8 (by simp[h]),N8 (by simp[h])];exact ih
    ·rw[N7 (p:=d.2.2 ∉ seen) h];split
     ·simp only[if_true,L6];omega
     ·simp only[if_true,L6];omega
  induction l with
  |nil=>intro h;cases h
  |cons d l ih=>
   intro h;simp only[V8];rcases N0.1 h with h|h
   ·subst h;rw[N8 (by simp),N7 (p:=e.2.2 ∉ seen) hs];have:=le l;simp only[if_true,L6,O0,if_false];omega
   ·have:=ih h;by_cases hd:d.2.2∈seen
    ·rw[N8 (by simp[hd]),N8 (by simp[hd])];exact this
    ·rw[N7 (p:=d.2.2 ∉ seen) hd];split
     ·simp only[if_true,L6];omega
     ·simp only[if_true,L6];omega
 have:=h2 l he;omega
end
end Go.Av
namespace Go.Av
attribute [go_sem] Nat.le_refl Bool.false_or Bool.true_or Bool.false_and lT Int.natCast_nonneg Int.ofNat_lt Int.ofNat_le Bool.not_true Bool.not_false
attribute [go_sem ↓] vk oW List.getElem?_cons_succ List.getElem?_cons_zero
def condK(c:AVal)(a b:Prop):Prop:=match c with| .bool q=>(q=true→a)∧(q=false→b)|_=>False
structure Went (a:Prop):Prop where
 go:a
@[congr] theorem Bv(a:Prop):Went a=Went a:=rfl
@[congr] theorem AO{c c':AVal}{a b:Prop}(e:c=c'):condK c a b=condK c' a b:=by rw[e]
@[go_sem] theorem GK(a b:Prop):condK (.bool true) a b=Went a:=propext ⟨fun h=>⟨h.1 rfl⟩,fun h=>⟨fun _=>h.go,fun e=>Bool.noConfusion e⟩⟩
@[go_sem] theorem GL(a b:Prop):condK (.bool false) a b=Went b:=propext ⟨fun h=>⟨h.2 rfl⟩,fun h=>⟨fun e=>Bool.noConfusion e,fun _=>h.go⟩⟩
theorem vy{C:Ctx}{t:Env}{h:Heap}{c:Operand}{x y:Code}{Q:Exit→Env→Heap→Prop}(g:condK (aev C.G t c) (WP C x Q t h) (WP C y Q t h)):WP C (.cond c x y) Q t h:=by
 unfold condK at g;split at g
 ·rename_i q hq;exact l7 hq g.1 g.2
 ·exact g.elim
end Go.Av
namespace Go.Av
theorem i6{p P:Prop}(e:p=P:=by first| (simp only[Bool.false_or,Bool.or_false,Bool.true_or,Bool.or_true,Bool.false_and,Bool.and_false,Bool.and_true,S3,P8,Bool.or_eq_false_iff,K5,Bool.and_eq_false_iff,Nat.not_lt,Nat.not_le,K8,decide_eq_false_iff_not,O6,Bool.not_eq_false',beq_iff_eq,bne_iff_ne,ne_eq,beq_eq_false_iff_ne,bne_eq_false_iff_eq,Bool.not_eq_true,Bool.not_eq_false,Int.not_lt,Int.not_le,gt_iff_lt,ge_iff_le,Int.ofNat_lt,Int.ofNat_le,Int.natCast_inj,Int.natCast_inj,Bool.not_not,decide_not,Decidable.not_not];rfl)|rfl):p=P:=e
theorem aw{α:Type}{a b:α}(e:a=b:=by first|rfl| (simp;done)| (simp;rfl)):a=b:=e
theorem F2{A0 A1:Prop}(a0:A0)(a1:A1):A0∧A1:=⟨a0,a1⟩
theorem F3{A0 A1 A2:Prop}(a0:A0)(a1:A1)(a2:A2):A0∧A1∧A2:=⟨a0,a1,a2⟩
theorem F4{A0 A1 A2 A3:Prop}(a0:A0)(a1:A1)(a2:A2)(a3:A3):A0∧A1∧A2∧A3:=⟨a0,a1,a2,a3⟩
theorem F5{A0 A1 A2 A3 A4:Prop}(a0:A0)(a1:A1)(a2:A2)(a3:A3)(a4:A4):A0∧A1∧A2∧A3∧A4:=⟨a0,a1,a2,a3,a4⟩
theorem F6{A0 A1 A2 A3 A4 A5:Prop}(a0:A0)(a1:A1)(a2:A2)(a3:A3)(a4:A4)(a5:A5):A0∧A1∧A2∧A3∧A4∧A5:=⟨a0,a1,a2,a3,a4,a5⟩
theorem F7{A0 A1 A2 A3 A4 A5 A6:Prop}(a0:A0)(a1:A1)(a2:A2)(a3:A3)(a4:A4)(a5:A5)(a6:A6):A0∧A1∧A2∧A3∧A4∧A5∧A6:=⟨a0,a1,a2,a3,a4,a5,a6⟩
theorem F8{A0 A1 A2 A3 A4 A5 A6 A7:Prop}(a0:A0)(a1:A1)(a2:A2)(a3:A3)(a4:A4)(a5:A5)(a6:A6)(a7:A7):A0∧A1∧A2∧A3∧A4∧A5∧A6∧A7:=⟨a0,a1,a2,a3,a4,a5,a6,a7⟩
theorem F9{A0 A1 A2 A3 A4 A5 A6 A7 A8:Prop}(a0:A0)(a1:A1)(a2:A2)(a3:A3)(a4:A4)(a5:A5)(a6:A6)(a7:A7)(a8:A8):A0∧A1∧A2∧A3∧A4∧A5∧A6∧A7∧A8:=⟨a0,a1,a2,a3,a4,a5,a6,a7,a8⟩
theorem j8{A0 A1 A2 A3 A4 A5 A6 A7 A8 A9:Prop}(a0:A0)(a1:A1)(a2:A2)(a3:A3)(a4:A4)(a5:A5)(a6:A6)(a7:A7)(a8:A8)(a9:A9):A0∧A1∧A2∧A3∧A4∧A5∧A6∧A7∧A8∧A9:=⟨a0,a1,a2,a3,a4,a5,a6,a7,a8,a9⟩
variable {C:Ctx} {Q:Exit→Env→Heap→Prop} {t:Env} {h:Heap}
theorem w1{a b:Code}(hh:∀K:Env→Heap→Prop,(∀t h,Wkn C (wr a) t h (fun t h=>WP C b Q t h)→K t h)→WP C a (thenQ K Q) t h):WP C (.seq a b) Q t h:=yT hh
theorem w2{id:Nat}{c:Code}(hh:WP C c (blockQ id Q) t h):WP C (.block id c) Q t h:=vj hh
theorem w4{id:Nat}{l:List Oper}(hh:WPl C l.toArray Q l t h):WP C (.region id l.toArray false) Q t h:=tu hh
theorem w5(hh:Q .normal t h):WP C .skip Q t h:=xy hh
theorem w6{id:Nat}(hh:Q (.exit id) t h):WP C (.exit id) Q t h:=xz hh
theorem w7(hh:Q .ret t h):WP C .ret Q t h:=yU hh
theorem w8{c:Operand}{x y:Code}(g:condK (aev C.G t c) (WP C x Q t h) (WP C y Q t h)):WP C (.cond c x y) Q t h:=vy g
theorem w9{a:Prop}(g:a):Went a:=⟨g⟩
theorem w0{ms:List Nat}{R:Env→Heap→Prop}(g:R t h):Wkn C ms t h R:=L8 g
def pureB:Callee→Bool
 | .value _=>true
 | .builtin .len=>true
 | .builtin .max=>true
 | .builtin .min=>true
 | .builtin .unsafeSliceData=>true
 |_=>false
def pureO:Op→Bool
 | .move _| .assign _| .pick _ _ _| .load _ _| .nilCheck _| .binOp _ _ _ _ _| .unOp _ _ _| .convert _ _ _| .slice _ _ _ _ _| .fieldAddr _ _ _| .field _ _ _| .indexAddr _ _ _| .index _ _ _| .extract _ _| .build _ _| .buildSlice _ _ _| .lookup _ _ _ _=>true
 | .call c=>pureB c.callee
 |_=>false
def pureN:List Oper→Nat
 | []=>0
 |o::r=>match pureO o.op with|true=>pureN r+1|false=>0
def dk(l:List Oper)(k:Nat):Bool:=Nat.beq (pureN l) k&&(drawOk l.toArray k&&decide (k≤l.length))
theorem wD{id k:Nat}{l:List Oper}(g:WPp C l.toArray (l.take k) t h fun t'=>WPl C l.toArray Q (l.drop k) t' h)(hk:dk l k=true:=by first| (show dk _ 2=true;decide+kernel)| (show dk _ 3=true;decide+kernel)| (show dk _ 4=true;decide+kernel)| (show dk _ 5=true;decide+kernel)| (show dk _ 6=true;decide+kernel)| (show dk _ 7=true;decide+kernel)| (show dk _ 8=true;decide+kernel)| (show dk _ 9=true;decide+kernel)| (show dk _ 10=true;decide+kernel)| (show dk _ 11=true;decide+kernel)| (show dk _ 12=true;decide+kernel)| (show dk _ 13=true;decide+kernel)| (show dk _ 14=true;decide+kernel)| (show dk _ 15=true;decide+kernel)| (show dk _ 1=true;decide+kernel)| (show dk _ 16=true;decide+kernel)| (show dk _ 17=true;decide+kernel)| (show dk _ 18=true;decide+kernel)| (show dk _ 19=true;decide+kernel)| (show dk _ 20=true;decide+kernel)| (show dk _ 21=true;decide+kernel)| (show dk _ 22=true;decide+kernel)| (show dk _ 23=true;decide+kernel)| (show dk _ 24=true;decide+kernel)| (show dk _ 25=true;decide+kernel)| (show dk _ 26=true;decide+kernel)| (show dk _ 27=true;decide+kernel)| (show dk _ 28=true;decide+kernel)| (show dk _ 29=true;decide+kernel)| (show dk _ 30=true;decide+kernel)| (show dk _ 31=true;decide+kernel)| (show dk _ 32=true;decide+kernel)| (show dk _ 33=true;decide+kernel)| (show dk _ 34=true;decide+kernel)| (show dk _ 35=true;decide+kernel)| (show dk _ 36=true;decide+kernel)| (show dk _ 37=true;decide+kernel)| (show dk _ 38=true;decide+kernel)| (show dk _ 39=true;decide+kernel)| (show dk _ 40=true;decide+kernel)| (show dk _ 41=true;decide+kernel)| (show dk _ 42=true;decide+kernel)| (show dk _ 43=true;decide+kernel)| (show dk _ 44=true;decide+kernel)| (show dk _ 45=true;decide+kernel)| (show dk _ 46=true;decide+kernel)| (show dk _ 47=true;decide+kernel)| (show dk _ 48=true;decide+kernel)| (show dk _ 49=true;decide+kernel)| (show dk _ 50=true;decide+kernel)| (show dk _ 51=true;decide+kernel)| (show dk _ 52=true;decide+kernel)| (show dk _ 53=true;decide+kernel)| (show dk _ 54=true;decide+kernel)| (show dk _ 55=true;decide+kernel)| (show dk _ 56=true;decide+kernel)| (show dk _ 57=true;decide+kernel)| (show dk _ 58=true;decide+kernel)| (show dk _ 59=true;decide+kernel)| (show dk _ 60=true;decide+kernel)| (show dk _ 61=true;decide+kernel)| (show dk _ 62=true;decide+kernel)| (show dk _ 63=true;decide+kernel)| (show dk _ 64=true;decide+kernel)| (show dk _ 65=true;decide+kernel)| (show dk _ 66=true;decide+kernel)| (show dk _ 67=true;decide+kernel)| (show dk _ 68=true;decide+kernel)| (show dk _ 69=true;decide+kernel)| (show dk _ 70=true;decide+kernel)| (show dk _ 71=true;decide+kernel)| (show dk _ 72=true;decide+kernel)):WP C (.region id l.toArray true) Q t h:=by
 unfold dk at hk;rw[K5]at hk;exact l8 k hk.2 g
variable {F X Y P N:Prop} {c:Operand} {a b:Code} {q:Bool} {ops:Array Oper} {rest:List Oper} {dst:Option Nat} {op:Op} {ty:TypeId} {pos:String} {aft:Array Edge} {j d:Nat} {want:Bool} {K:Env→Prop} {T T' len e n by' p ver:Nat} {idx:List Nat} {xs rows ys:List AVal} {y:AVal} {k:AVal→Heap→Prop} {kv:AVal→Prop}
theorem sq(f:F)(g:Y)(e:F→X=Y:=by intro f;simp(maxSteps:=1000000) (disch:=first|omega| (simp only[go_sem, ↓reduceIte,seval];first|done|omega)|fail) only[go_sem, ↓reduceIte,seval,f];rfl):X:=(e f).mpr g
theorem zq(f:F)(e:F→X:=by intro f;simp(maxSteps:=1000000) (disch:=first|omega| (simp only[go_sem, ↓reduceIte,seval];first|done|omega)|fail) only[go_sem, ↓reduceIte,seval,f];all_goals fail):X:=e f
theorem cq(f:F)(h1:P→WP C a Q t h)(h2:N→WP C b Q t h)(e:F→aev C.G t c=.bool q:=by intro f;simp(maxSteps:=1000000) (disch:=first|omega| (simp only[go_sem, ↓reduceIte,seval];first|done|omega)|fail) only[go_sem, ↓reduceIte,seval,f];rfl)(hP:(q=true)=P:=by exact i6)(hN:(q=false)=N:=by exact i6):WP C (.cond c a b) Q t h:=l7 (e f) (fun x=>h1 (hP.mp x)) (fun x=>h2 (hN.mp x))
theorem gq(f:F)(h1:P→WPl C ops Q (⟨dst,op,ty,pos,aft,some (j,want)⟩::rest) (upd t d (.bool true)) h)(h2:N→WPl C ops Q (⟨dst,op,ty,pos,aft,some (j,want)⟩::rest) (upd t d (.bool false)) h)(hd:(ops[j]?).bind (·.dst)=some d:=by rfl)(e:F→t d=.bool q:=by intro f;simp(maxSteps:=1000000) (disch:=first|omega| (simp only[go_sem, ↓reduceIte,seval];first|done|omega)|fail) only[go_sem, ↓reduceIte,seval,f];rfl)(hP:(q=true)=P:=by exact i6)(hN:(q=false)=N:=by exact i6):WPl C ops Q (⟨dst,op,ty,pos,aft,some (j,want)⟩::rest) t h:=jR hd (e f) (fun x=>h1 (hP.mp x)) (fun x=>h2 (hN.mp x))
theorem pq(f:F)(h1:P→WPp C ops (⟨dst,op,ty,pos,aft,some (j,want)⟩::rest) (upd t d (.bool true)) h K)(h2:N→WPp C ops (⟨dst,op,ty,pos,aft,some (j,want)⟩::rest) (upd t d (.bool false)) h K)(hd:(ops[j]?).bind (·.dst)=some d:=by rfl)(e:F→t d=.bool q:=by intro f;simp(maxSteps:=1000000) (disch:=first|omega| (simp only[go_sem, ↓reduceIte,seval];first|done|omega)|fail) only[go_sem, ↓reduceIte,seval,f];rfl)(hP:(q=true)=P:=by exact i6)(hN:(q=false)=N:=by exact i6):WPp C ops (⟨dst,op,ty,pos,aft,some (j,want)⟩::rest) t h K:=jS hd (e f) (fun x=>h1 (hP.mp x)) (fun x=>h2 (hN.mp x))
theorem rq(f:F)(hk:k (.sl n xs) h)(he:elmT C.P T=some e:=by simp only[go_sem];rfl)(hn:szOf C.P e=some n:=by simp only[go_sem];rfl)(hz:(zroT C.P e).map (fun z=>(z.cells.length,z.cells.all AVal.sto))=some (n,true):=by simp only[go_sem];try rfl)(hl:xs.length=len:=by simp)(h0:0<len:=by omega)(h1:0<n:=by omega)(hb:len*n≤16777216:=by omega)(hi:idx=List.range len:=by rfl)(hx:F→xs.all (fun x=>decide (x.cells.length=n)&&x.lies)=true:=by intro f;simp(maxSteps:=1000000) (disch:=first|omega| (simp only[go_sem, ↓reduceIte,seval];first|done|omega)|fail) only[go_sem, ↓reduceIte,seval,f];all_goals (simp;all_goals fail)):rowsK C T len idx xs h k:=nz he hn hz hl h0 h1 hb hi (hx f) hk
theorem xq(f:F)(hk:k (.hs h.length 0 0 len true) (h++[.row e n 0 xs]))(he:elmT C.P T=some e:=by simp only[go_sem];rfl)(hn:szOf C.P e=some n:=by simp only[go_sem];rfl)(hz:(zroT C.P e).map (fun z=>(z.cells.length,z.cells.all AVal.sto))=some (n,true):=by simp only[go_sem];try rfl)(hl:xs.length=len:=by simp)(h0:0<len:=by omega)(h1:0<n:=by omega)(hb:len*n≤16777216:=by omega)(hi:idx=List.range len:=by rfl)(hx:F→xs.all (fun x=>decide (x.cells.length=n)&&x.lies)=true:=by intro f;simp(maxSteps:=1000000) (disch:=first|omega| (simp only[go_sem, ↓reduceIte,seval];first|done|omega)|fail) only[go_sem, ↓reduceIte,seval,f];all_goals (simp;all_goals fail)):rowsK C T len idx xs h k:=vp he hn hz hl h0 h1 hb hi (hx f) hk
theorem vq(f:F)(hk:kv (.sl n xs))(he:elmT C.P T=some e:=by simp only[go_sem];rfl)(hn:szOf C.P e=some n:=by simp only[go_sem];rfl)(hz:(zroT C.P e).map (fun z=>(z.cells.length,z.cells.all AVal.sto))=some (n,true):=by simp only[go_sem];try rfl)(hl:xs.length=len:=by simp)(h0:0<len:=by omega)(h1:0<n:=by omega)(hb:len*n≤16777216:=by omega)(hi:idx=List.range len:=by rfl)(hx:F→xs.all (fun x=>decide (x.cells.length=n)&&x.lies)=true:=by intro f;simp(maxSteps:=1000000) (disch:=first|omega| (simp only[go_sem, ↓reduceIte,seval];first|done|omega)|fail) only[go_sem, ↓reduceIte,seval,f];all_goals (simp;all_goals fail)):rowsV C T len idx xs kv:=vr he hn hz hl h0 h1 hb hi (hx f) hk
theorem aq(f:F)(hk:k (.hs p (ver+1) 0 (len+ys.length) true) (h.set p (.row e n (ver+1) (rows++ys))))(hT:T'=T∨strT C.P T'=true:=by first|exact .inl rfl| (right;simp only[go_sem]))(he:elmT C.P T=some e:=by simp only[go_sem];rfl)(hn:szOf C.P e=some n:=by simp only[go_sem];rfl)(hb:byT C.P e=some by':=by simp only[go_sem];rfl)(hz:(zroT C.P e).map (fun z=>z.cells.length)=some n:=by simp only[go_sem];try rfl)(h0:0<n:=by omega)(hy:elemsOf h n y=some ys:=by simp only[elemsOf, ↓reduceIte];rfl)(hrow:F→getRow h p ver=some (e,n,rows):=by intro f;simp(maxSteps:=1000000) (disch:=first|omega| (simp only[go_sem, ↓reduceIte,seval];first|done|omega)|fail) only[go_sem, ↓reduceIte,seval,f];rfl)(hl:len=rows.length:=by simp)(hr:len+ys.length≤maxLen∧(len+ys.length)*by'≤140737488355328:=by refine⟨?_,?_⟩<;>simp only[maxLen,L5,L6,M9,K7]<;>omega):appK C T T' (.hs p ver 0 len true) y h k:=bF hT he hn hb hz h0 hy (hrow f) hl hr hk
theorem ee{x:Exit}{h0:Heap}{rs:List ResultVar}{R:AVal→Heap→Prop}(hQ:∀t h,need (resA C t h rs) (Fin h0 h R)→Q .ret t h∧Q .normal t h)(f:F)(g:Y)(e:F→need (resA C t h rs) (Fin h0 h R)=Y:=by intro f;simp(maxSteps:=1000000) (disch:=first|omega| (simp only[go_sem, ↓reduceIte,seval];first|done|omega)|fail) only[go_sem, ↓reduceIte,seval,f];rfl)(hx:x=.ret∨x=.normal:=by first|exact .inl rfl|exact .inr rfl):Q x t h:=by
 have:=hQ t h ((e f).mpr g);rcases hx with rfl|rfl
 ·exact this.1
 ·exact this.2
theorem ye{x:Exit}{h0:Heap}{rs:List ResultVar}{R:AVal→Heap→Prop}(hQ:∀t h,need (resA C t h rs) (Fin h0 h R)→Q .ret t h∧Q .normal t h)(f:F)(g:Y)(e:F→need (resA C t h rs) (Fin h0 h R)=Y:=by intro f;simp(maxSteps:=1000000) (disch:=first|omega| (simp only[go_sem, ↓reduceIte,seval];first|done|omega)|fail) only[go_sem, ↓reduceIte,seval,f,resA,resL,resA1];rfl)(hx:x=.ret∨x=.normal:=by first|exact .inl rfl|exact .inr rfl):Q x t h:=by
 have:=hQ t h ((e f).mpr g);rcases hx with rfl|rfl
 ·exact this.1
 ·exact this.2
theorem bg(f:F)(g:Y)(e:F→X=Y:=by intro f;simp(disch:=first|omega| (simp only[go_sem, ↓reduceIte,Nat.reduceEqDiff];done)|fail) only[go_sem, ↓reduceIte,Int.reduceToNat,Int.reduceLE,Int.reduceLT,Int.reduceSub,Int.reduceAdd,Nat.reduceEqDiff,Nat.reduceAdd,Nat.reduceLeDiff,Nat.reduceLT,Nat.reduceMul,Nat.reduceSub,f];rfl):X:=(e f).mpr g
theorem bv(f:F)(e:F→X:=by intro f;simp(disch:=first|omega| (simp only[go_sem, ↓reduceIte,Nat.reduceEqDiff];done)|fail) only[go_sem, ↓reduceIte,Int.reduceToNat,Int.reduceLE,Int.reduceLT,Int.reduceSub,Int.reduceAdd,Nat.reduceEqDiff,Nat.reduceAdd,Nat.reduceLeDiff,Nat.reduceLT,Nat.reduceMul,Nat.reduceSub,f];all_goals fail):X:=e f
theorem gj(f:F)(h1:P→WP C a Q t h)(h2:N→WP C b Q t h)(e:F→aev C.G t c=.bool q:=by intro f;simp(disch:=first|omega| (simp only[go_sem, ↓reduceIte,Nat.reduceEqDiff];done)|fail) only[go_sem, ↓reduceIte,Int.reduceToNat,Int.reduceLE,Int.reduceLT,Int.reduceSub,Int.reduceAdd,Nat.reduceEqDiff,Nat.reduceAdd,Nat.reduceLeDiff,Nat.reduceLT,Nat.reduceMul,Nat.reduceSub,f];rfl)(hP:(q=true)=P:=by exact i6)(hN:(q=false)=N:=by exact i6):WP C (.cond c a b) Q t h:=l7 (e f) (fun x=>h1 (hP.mp x)) (fun x=>h2 (hN.mp x))
theorem cR(f:F)(h1:P→WPl C ops Q (⟨dst,op,ty,pos,aft,some (j,want)⟩::rest) (upd t d (.bool true)) h)(h2:N→WPl C ops Q (⟨dst,op,ty,pos,aft,some (j,want)⟩::rest) (upd t d (.bool false)) h)(hd:(ops[j]?).bind (·.dst)=some d:=by rfl)(e:F→t d=.bool q:=by intro f;simp(disch:=first|omega| (simp only[go_sem, ↓reduceIte,Nat.reduceEqDiff];done)|fail) only[go_sem, ↓reduceIte,Int.reduceToNat,Int.reduceLE,Int.reduceLT,Int.reduceSub,Int.reduceAdd,Nat.reduceEqDiff,Nat.reduceAdd,Nat.reduceLeDiff,Nat.reduceLT,Nat.reduceMul,Nat.reduceSub,f];rfl)(hP:(q=true)=P:=by exact i6)(hN:(q=false)=N:=by exact i6):WPl C ops Q (⟨dst,op,ty,pos,aft,some (j,want)⟩::rest) t h:=jR hd (e f) (fun x=>h1 (hP.mp x)) (fun x=>h2 (hN.mp x))
theorem cS(f:F)(h1:P→WPp C ops (⟨dst,op,ty,pos,aft,some (j,want)⟩::rest) (upd t d (.bool true)) h K)(h2:N→WPp C ops (⟨dst,op,ty,pos,aft,some (j,want)⟩::rest) (upd t d (.bool false)) h K)(hd:(ops[j]?).bind (·.dst)=some d:=by rfl)(e:F→t d=.bool q:=by intro f;simp(disch:=first|omega| (simp only[go_sem, ↓reduceIte,Nat.reduceEqDiff];done)|fail) only[go_sem, ↓reduceIte,Int.reduceToNat,Int.reduceLE,Int.reduceLT,Int.reduceSub,Int.reduceAdd,Nat.reduceEqDiff,Nat.reduceAdd,Nat.reduceLeDiff,Nat.reduceLT,Nat.reduceMul,Nat.reduceSub,f];rfl)(hP:(q=true)=P:=by exact i6)(hN:(q=false)=N:=by exact i6):WPp C ops (⟨dst,op,ty,pos,aft,some (j,want)⟩::rest) t h K:=jS hd (e f) (fun x=>h1 (hP.mp x)) (fun x=>h2 (hN.mp x))
theorem D9(f:F)(hk:k (.sl n xs) h)(he:elmT C.P T=some e:=by simp only[go_sem];rfl)(hn:szOf C.P e=some n:=by simp only[go_sem];rfl)(hz:(zroT C.P e).map (fun z=>(z.cells.length,z.cells.all AVal.sto))=some (n,true):=by simp only[go_sem];try rfl)(hl:xs.length=len:=by simp)(h0:0<len:=by omega)(h1:0<n:=by omega)(hb:len*n≤16777216:=by omega)(hi:idx=List.range len:=by rfl)(hx:F→xs.all (fun x=>decide (x.cells.length=n)&&x.lies)=true:=by intro f;simp(disch:=first|omega| (simp only[go_sem, ↓reduceIte,Nat.reduceEqDiff];done)|fail) only[go_sem, ↓reduceIte,Int.reduceToNat,Int.reduceLE,Int.reduceLT,Int.reduceSub,Int.reduceAdd,Nat.reduceEqDiff,Nat.reduceAdd,Nat.reduceLeDiff,Nat.reduceLT,Nat.reduceMul,Nat.reduceSub,f];all_goals (simp;all_goals fail)):rowsK C T len idx xs h k:=nz he hn hz hl h0 h1 hb hi (hx f) hk
theorem cn{x:Exit}{h0:Heap}{rs:List ResultVar}{R:AVal→Heap→Prop}(hQ:∀t h,need (resA C t h rs) (Fin h0 h R)→Q .ret t h∧Q .normal t h)(f:F)(g:Y)(e:F→need (resA C t h rs) (Fin h0 h R)=Y:=by intro f;simp(disch:=first|omega| (simp only[go_sem, ↓reduceIte,Nat.reduceEqDiff];done)|fail) only[go_sem, ↓reduceIte,Int.reduceToNat,Int.reduceLE,Int.reduceLT,Int.reduceSub,Int.reduceAdd,Nat.reduceEqDiff,Nat.reduceAdd,Nat.reduceLeDiff,Nat.reduceLT,Nat.reduceMul,Nat.reduceSub,f];rfl)(hx:x=.ret∨x=.normal:=by first|exact .inl rfl|exact .inr rfl):Q x t h:=by
 have:=hQ t h ((e f).mpr g);rcases hx with rfl|rfl
 ·exact this.1
 ·exact this.2
theorem fR{h0 h1 j:Heap}{R:AVal→Heap→Prop}{r:AVal}{A:Prop}(hc:Clo h0.length r)(g:A)(hh:h1=h0++j:=by first|exact(O1 _).symm|rfl| (simp only[P1,Q7,O5];rfl))(e:A→R r h0:=by intro g;exact⟨g,rfl⟩):Fin h0 h1 R r:=Fin.plainE hh hc (e g)
theorem sb(rs:List ResultVar){f:FuncId}{fn:Func}{c:Code}{args:List AVal}{R:AVal→Heap→Prop}(hf:C.P.funcs[f]? =some fn)(hw:∀Q:Exit→Env→Heap→Prop,(∀t' h',need (resA C t' h' rs) (Fin h h' R)→Q .ret t' h'∧Q .normal t' h')→WP C c Q (env0 args) h)(hb:fn.body=some c:=by exact rfl)(hrs:fn.results.toList=rs:=by exact rfl)(hname:(fn.name== "runtime.NumGoroutine")=false:=by kernel_rfl)
  (hok:okCode fn.ntmps c=true:=by kernel_rfl)(hres:fn.results.toList.all (okRes fn.ntmps)=true:=by kernel_rfl)(hlen:decide (args.length≤fn.ntmps)=true:=by exact rfl):Sat C f args h R:=Sat.body rs hf hb hrs hname hok hres hlen hw
theorem lm{c:Code}{ms:List Nat}(I:Nat→Env→Heap→Prop)(n:Nat)(h0:Wkn C ms t h (I n))
  (round:∀(n':Nat) (s:Env) (h':Heap),I n' (mix ms s t) h'→∀K:Env→Heap→Prop,(∀m t2 h2,Wkn C ms t2 h2 (I m)→m<n'→K t2 h2)→WP C c (thenQ K Q) (mix ms s t) h')(hms:wr c=ms:=by simp only[go_sem,O5,Q7];rfl):WP C (.loop c) Q t h:=vn hms I n h0 round
end Go.Av
namespace Go.Av
variable {C:Ctx} {Q:Exit→Env→Heap→Prop} {t:Env} {h:Heap} {a b:Code}
def Kt(C:Ctx)(a b:Code)(Q:Exit→Env→Heap→Prop):Env→Heap→Prop:=fun t h=>Wkn C (wr a) t h fun t h=>WP C b Q t h
@[congr] theorem Fq(C:Ctx)(a b:Code)(Q:Exit→Env→Heap→Prop):Kt C a b Q=Kt C a b Q:=rfl
structure Bx (Y:Prop):Prop where
 go:Y
theorem wG(g:WP C b Q t h):Kt C a b Q t h:=L8 g
theorem IA{t1:Env}{h1:Heap}(w:Weak C (wr a) t h t1 h1)(g:WP C b Q t1 h1):Kt C a b Q t h:=⟨_,_,w,g⟩
theorem wS(hh:WP C a (thenQ (Kt C a b Q) Q) t h):WP C (.seq a b) Q t h:=hh
variable {F X Y:Prop} {fn:FuncId} {args:List AVal} {x:AVal} {h1:Heap} {KK:AVal→Heap→Prop}
theorem wk(f:F)(g:Y)(e:F→Bx Y→X:=by intro f g;(repeat (first|refine wS ?_|refine w2 ?_|refine w3 ?_| ((first|refine w4 ?_|refine w5 ?_|refine w6 ?_|refine w7 ?_|refine wD ?_);try refine sq f ?_)| (refine w8 ?_;refine sq f ?_;refine w9 ?_)|refine wG ?_| (refine rq f ?_;try refine sq f ?_)| (refine vq f ?_;try refine sq f ?_)));exact g.go):X:=e f ⟨g⟩
theorem kq(f:F)(c:Sat C fn args h (fun r h'=>r=x∧h'=h1))(g:Y)(e:F→Bx Y→KK x h1:=by intro f g;(try refine sq f ?_);(repeat (first|refine wS ?_|refine w2 ?_|refine w3 ?_| ((first|refine w4 ?_|refine w5 ?_|refine w6 ?_|refine w7 ?_|refine wD ?_);try refine sq f ?_)| (refine w8 ?_;refine sq f ?_;refine w9 ?_)|refine wG ?_| (refine rq f ?_;try refine sq f ?_)| (refine vq f ?_;try refine sq f ?_)));exact g.go):Sat C fn args h KK:=c.mono (by rintro r h' ⟨rfl,rfl⟩;exact e f ⟨g⟩)
theorem wn(f:F)(g:Y)(e:F→Bx Y→X:=by intro f g;(repeat (first|refine wS ?_|refine w2 ?_|refine w3 ?_| ((first|refine w4 ?_|refine w5 ?_|refine w6 ?_|refine w7 ?_);try refine sq f ?_)| (refine w8 ?_;refine sq f ?_;refine w9 ?_)|refine wG ?_| (refine rq f ?_;try refine sq f ?_)| (refine vq f ?_;try refine sq f ?_)));exact g.go):X:=e f ⟨g⟩
theorem kn(f:F)(c:Sat C fn args h (fun r h'=>r=x∧h'=h1))(g:Y)(e:F→Bx Y→KK x h1:=by intro f g;(try refine sq f ?_);(repeat (first|refine wS ?_|refine w2 ?_|refine w3 ?_| ((first|refine w4 ?_|refine w5 ?_|refine w6 ?_|refine w7 ?_);try refine sq f ?_)| (refine w8 ?_;refine sq f ?_;refine w9 ?_)|refine wG ?_| (refine rq f ?_;try refine sq f ?_)| (refine vq f ?_;try refine sq f ?_)));exact g.go):Sat C fn args h KK:=c.mono (by rintro r h' ⟨rfl,rfl⟩;exact e f ⟨g⟩)
theorem kx(f:F)(c:Sat C fn args h (fun r h'=>r=x∧h'=h1))(g:Y)(e:F→Bx Y→KK x h1:=by intro f g;(try refine sq f ?_);(repeat (first|refine wS ?_|refine w2 ?_|refine w3 ?_| ((first|refine w4 ?_|refine w5 ?_|refine w6 ?_|refine w7 ?_|refine wD ?_);try refine sq f ?_)| (refine w8 ?_;refine sq f ?_;refine w9 ?_)|refine wG ?_| (refine xq f ?_;try refine sq f ?_)));exact g.go):Sat C fn args h KK:=c.mono (by rintro r h' ⟨rfl,rfl⟩;exact e f ⟨g⟩)
theorem aA(f:F)(g:Y)(e:F→Bx Y→X:=by intro f g;(repeat (first|refine wS ?_|refine w2 ?_|refine w3 ?_| ((first|refine w4 ?_|refine w5 ?_|refine w6 ?_|refine w7 ?_|refine wD ?_);try refine bg f ?_)| (refine w8 ?_;refine bg f ?_;refine w9 ?_)|refine wG ?_| (refine D9 f ?_;try refine bg f ?_)| (refine vqo f ?_;try refine bg f ?_)));exact g.go):X:=e f ⟨g⟩
theorem tC(f:F)(c:Sat C fn args h (fun r h'=>r=x∧h'=h1))(g:Y)(e:F→Bx Y→KK x h1:=by intro f g;(try refine bg f ?_);(repeat (first|refine wS ?_|refine w2 ?_|refine w3 ?_| ((first|refine w4 ?_|refine w5 ?_|refine w6 ?_|refine w7 ?_|refine wD ?_);try refine bg f ?_)| (refine w8 ?_;refine bg f ?_;refine w9 ?_)|refine wG ?_| (refine D9 f ?_;try refine bg f ?_)| (refine vqo f ?_;try refine bg f ?_)));exact g.go):Sat C fn args h KK:=c.mono (by rintro r h' ⟨rfl,rfl⟩;exact e f ⟨g⟩)
theorem zZz (f:F)(e:F→X:=by intro f;first|exact zq f|rfl|omega|trivial):X:=e f
theorem gGp{Y1 Y2:Prop}(f:F)(g1:Y1)(g2:Y2)(e:F→Bx Y1→Bx Y2→X:=by intro f a b;first|exact gq f a.go b.go|exact pq f a.go b.go):X:=e f ⟨g1⟩ ⟨g2⟩
end Go.Av
namespace Go.Av.Ty
open Go Go.Av Go.Proofs
@[go_sem] theorem IB:szOf Tryz.prog 3=some 1:=by kernel_rfl
@[go_sem] theorem IC:aggT Tryz.prog 3=some false:=by kernel_rfl
@[go_sem] theorem GM:kindT Tryz.prog 3=0:=by kernel_rfl
@[go_sem] theorem IE:zroT Tryz.prog 3=some (.int .i64 0):=by kernel_rfl
@[go_sem] theorem IF:szOf Tryz.prog 4=some 1:=by kernel_rfl
@[go_sem] theorem IG:aggT Tryz.prog 4=some false:=by kernel_rfl
@[go_sem] theorem IH:szOf Tryz.prog 5=some 1:=by kernel_rfl
@[go_sem] theorem J6:byT Tryz.prog 5=some 1:=by kernel_rfl
@[go_sem] theorem II:zroT Tryz.prog 5=some (.int .u8 0):=by kernel_rfl
@[go_sem] theorem J7:Program.underlying Tryz.prog 5=some (.int .u8):=by kernel_rfl
@[go_sem] theorem IJ:szOf Tryz.prog 9=some 1:=by kernel_rfl
@[go_sem] theorem IK:aggT Tryz.prog 9=some false:=by kernel_rfl
@[go_sem] theorem J8:byT Tryz.prog 9=some 16:=by kernel_rfl
@[go_sem] theorem GN:kindT Tryz.prog 9=2:=by kernel_rfl
@[go_sem] theorem IL:strT Tryz.prog 9=true:=by kernel_rfl
@[go_sem] theorem IM:zroT Tryz.prog 9=some (.str []):=by kernel_rfl
@[go_sem] theorem GO:szOf Tryz.prog 21=some 1:=by kernel_rfl
@[go_sem] theorem GP:aggT Tryz.prog 21=some false:=by kernel_rfl
@[go_sem] theorem IO:byT Tryz.prog 21=some 4:=by kernel_rfl
@[go_sem] theorem GQ:zroT Tryz.prog 21=some (.int .i32 0):=by kernel_rfl
@[go_sem] theorem IP:Program.underlying Tryz.prog 21=some (.int .i32):=by kernel_rfl
@[go_sem] theorem GR:szOf Tryz.prog 22=some 1:=by kernel_rfl
@[go_sem] theorem GS:aggT Tryz.prog 22=some false:=by kernel_rfl
@[go_sem] theorem GT:elmT Tryz.prog 22=some 34:=by kernel_rfl
@[go_sem] theorem GU:zroT Tryz.prog 22=some (.nil (.slice none 0 0)):=by kernel_rfl
@[go_sem] theorem GV:szOf Tryz.prog 23=some 1:=by kernel_rfl
@[go_sem] theorem GW:aggT Tryz.prog 23=some false:=by kernel_rfl
@[go_sem] theorem GX:elmT Tryz.prog 23=some 55:=by kernel_rfl
@[go_sem] theorem GY:szOf Tryz.prog 27=some 1:=by kernel_rfl
@[go_sem] theorem GZ:aggT Tryz.prog 27=some false:=by kernel_rfl
@[go_sem] theorem H1:szOf Tryz.prog 32=some 1:=by kernel_rfl
@[go_sem] theorem H2:aggT Tryz.prog 32=some false:=by kernel_rfl
@[go_sem] theorem H3:zroT Tryz.prog 32=some (.nil .nilFunc):=by kernel_rfl
@[go_sem] theorem H4:szOf Tryz.prog 34=some 7:=by kernel_rfl
@[go_sem] theorem H5:aggT Tryz.prog 34=some true:=by kernel_rfl
@[go_sem] theorem IQ:byT Tryz.prog 34=some 80:=by kernel_rfl
@[go_sem] theorem H6:nFld Tryz.prog 34=some 7:=by kernel_rfl
@[go_sem] theorem Da:fOff Tryz.prog 34 0=some (0,3,1):=by kernel_rfl
@[go_sem] theorem Db:fOff Tryz.prog 34 1=some (1,3,1):=by kernel_rfl
@[go_sem] theorem Dc:fOff Tryz.prog 34 2=some (2,3,1):=by kernel_rfl
@[go_sem] theorem Dd:fOff Tryz.prog 34 3=some (3,3,1):=by kernel_rfl
@[go_sem] theorem De:fOff Tryz.prog 34 4=some (4,9,1):=by kernel_rfl
@[go_sem] theorem Df:fOff Tryz.prog 34 5=some (5,9,1):=by kernel_rfl
@[go_sem] theorem Dg:fOff Tryz.prog 34 6=some (6,9,1):=by kernel_rfl
@[go_sem] theorem Dh:plainT Tryz.prog 34=some [0,0,0,0,2,2,2]:=by kernel_rfl
@[go_sem] theorem H7:zroT Tryz.prog 34=some (.agg [.int .i64 0,.int .i64 0,.int .i64 0,.int .i64 0,.str [],.str [],.str []]):=by kernel_rfl
@[go_sem] theorem H8:szOf Tryz.prog 36=some 1:=by kernel_rfl
@[go_sem] theorem H9:aggT Tryz.prog 36=some false:=by kernel_rfl
@[go_sem] theorem Ha:elmT Tryz.prog 36=some 44:=by kernel_rfl
@[go_sem] theorem Hb:szOf Tryz.prog 37=some 1:=by kernel_rfl
@[go_sem] theorem Hc:aggT Tryz.prog 37=some false:=by kernel_rfl
@[go_sem] theorem Hd:elmT Tryz.prog 37=some 48:=by kernel_rfl
@[go_sem] theorem He:szOf Tryz.prog 38=some 1:=by kernel_rfl
@[go_sem] theorem Hf:aggT Tryz.prog 38=some false:=by kernel_rfl
@[go_sem] theorem Hg:elmT Tryz.prog 38=some 86:=by kernel_rfl
@[go_sem] theorem Hh:szOf Tryz.prog 39=some 1:=by kernel_rfl
@[go_sem] theorem Hi:aggT Tryz.prog 39=some false:=by kernel_rfl
@[go_sem] theorem Hj:elmT Tryz.prog 39=some 98:=by kernel_rfl
@[go_sem] theorem Hk:szOf Tryz.prog 41=some 9:=by kernel_rfl
@[go_sem] theorem Hl:aggT Tryz.prog 41=some true:=by kernel_rfl
@[go_sem] theorem Hm:nFld Tryz.prog 41=some 9:=by kernel_rfl
@[go_sem] theorem Di:fOff Tryz.prog 41 0=some (0,3,1):=by kernel_rfl
@[go_sem] theorem Dj:fOff Tryz.prog 41 1=some (1,36,1):=by kernel_rfl
@[go_sem] theorem Dk:fOff Tryz.prog 41 2=some (2,37,1):=by kernel_rfl
@[go_sem] theorem Dl:fOff Tryz.prog 41 3=some (3,38,1):=by kernel_rfl
@[go_sem] theorem Dm:fOff Tryz.prog 41 4=some (4,39,1):=by kernel_rfl
@[go_sem] theorem Dn:fOff Tryz.prog 41 5=some (5,3,1):=by kernel_rfl
@[go_sem] theorem Do:fOff Tryz.prog 41 6=some (6,3,1):=by kernel_rfl
@[go_sem] theorem Dp:fOff Tryz.prog 41 7=some (7,3,1):=by kernel_rfl
@[go_sem] theorem Dq:fOff Tryz.prog 41 8=some (8,3,1):=by kernel_rfl
@[go_sem] theorem Hn:zroT Tryz.prog 41=some (.agg [.int .i64 0,.nil (.slice none 0 0),.nil (.slice none 0 0),.nil (.slice none 0 0),.nil (.slice none 0 0),.int .i64 0,.int .i64 0,.int .i64 0,.int .i64 0]):=by kernel_rfl
@[go_sem] theorem Ho:szOf Tryz.prog 44=some 3:=by kernel_rfl
@[go_sem] theorem Hp:aggT Tryz.prog 44=some true:=by kernel_rfl
@[go_sem] theorem IR:byT Tryz.prog 44=some 32:=by kernel_rfl
@[go_sem] theorem Hq:nFld Tryz.prog 44=some 3:=by kernel_rfl
@[go_sem] theorem Dr:fOff Tryz.prog 44 0=some (0,3,1):=by kernel_rfl
@[go_sem] theorem Ds:fOff Tryz.prog 44 1=some (1,3,1):=by kernel_rfl
@[go_sem] theorem Dt:fOff Tryz.prog 44 2=some (2,9,1):=by kernel_rfl
@[go_sem] theorem Du:plainT Tryz.prog 44=some [0,0,2]:=by kernel_rfl
@[go_sem] theorem Hr:zroT Tryz.prog 44=some (.agg [.int .i64 0,.int .i64 0,.str []]):=by kernel_rfl
@[go_sem] theorem Hs:szOf Tryz.prog 48=some 4:=by kernel_rfl
@[go_sem] theorem Ht:aggT Tryz.prog 48=some true:=by kernel_rfl
@[go_sem] theorem IS:byT Tryz.prog 48=some 48:=by kernel_rfl
@[go_sem] theorem Hu:nFld Tryz.prog 48=some 4:=by kernel_rfl
@[go_sem] theorem Dv:fOff Tryz.prog 48 0=some (0,3,1):=by kernel_rfl
@[go_sem] theorem Dw:fOff Tryz.prog 48 1=some (1,3,1):=by kernel_rfl
@[go_sem] theorem Dx:fOff Tryz.prog 48 2=some (2,9,1):=by kernel_rfl
@[go_sem] theorem Dy:fOff Tryz.prog 48 3=some (3,9,1):=by kernel_rfl
@[go_sem] theorem Dz:plainT Tryz.prog 48=some [0,0,2,2]:=by kernel_rfl
@[go_sem] theorem Hv:zroT Tryz.prog 48=some (.agg [.int .i64 0,.int .i64 0,.str [],.str []]):=by kernel_rfl
@[go_sem] theorem Hw:szOf Tryz.prog 55=some 3:=by kernel_rfl
@[go_sem] theorem Hx:aggT Tryz.prog 55=some true:=by kernel_rfl
@[go_sem] theorem IT:byT Tryz.prog 55=some 56:=by kernel_rfl
@[go_sem] theorem Hy:nFld Tryz.prog 55=some 3:=by kernel_rfl
@[go_sem] theorem DA:fOff Tryz.prog 55 0=some (0,9,1):=by kernel_rfl
@[go_sem] theorem DB:fOff Tryz.prog 55 1=some (1,9,1):=by kernel_rfl
@[go_sem] theorem DC:fOff Tryz.prog 55 2=some (2,23,1):=by kernel_rfl
@[go_sem] theorem Hz:zroT Tryz.prog 55=some (.agg [.str [],.str [],.nil (.slice none 0 0)]):=by kernel_rfl
@[go_sem] theorem HA:szOf Tryz.prog 73=some 1:=by kernel_rfl
@[go_sem] theorem HB:aggT Tryz.prog 73=some false:=by kernel_rfl
@[go_sem] theorem HC:mapT Tryz.prog 73=some (3,44):=by kernel_rfl
@[go_sem] theorem HD:szOf Tryz.prog 74=some 1:=by kernel_rfl
@[go_sem] theorem HE:aggT Tryz.prog 74=some false:=by kernel_rfl
@[go_sem] theorem HF:mapT Tryz.prog 74=some (3,48):=by kernel_rfl
@[go_sem] theorem HG:szOf Tryz.prog 75=some 1:=by kernel_rfl
@[go_sem] theorem HH:aggT Tryz.prog 75=some false:=by kernel_rfl
@[go_sem] theorem HI:mapT Tryz.prog 75=some (3,86):=by kernel_rfl
@[go_sem] theorem HJ:szOf Tryz.prog 76=some 1:=by kernel_rfl
@[go_sem] theorem HK:aggT Tryz.prog 76=some false:=by kernel_rfl
@[go_sem] theorem HL:mapT Tryz.prog 76=some (3,98):=by kernel_rfl
@[go_sem] theorem HM:szOf Tryz.prog 77=some 1:=by kernel_rfl
@[go_sem] theorem HN:aggT Tryz.prog 77=some false:=by kernel_rfl
@[go_sem] theorem HO:mapT Tryz.prog 77=some (88,3):=by kernel_rfl
@[go_sem] theorem HP:szOf Tryz.prog 78=some 1:=by kernel_rfl
@[go_sem] theorem HQ:aggT Tryz.prog 78=some false:=by kernel_rfl
@[go_sem] theorem HR:mapT Tryz.prog 78=some (9,3):=by kernel_rfl
@[go_sem] theorem HS:szOf Tryz.prog 79=some 1:=by kernel_rfl
@[go_sem] theorem HT:aggT Tryz.prog 79=some false:=by kernel_rfl
@[go_sem] theorem HU:mapT Tryz.prog 79=some (131,3):=by kernel_rfl
@[go_sem] theorem HV:szOf Tryz.prog 80=some 1:=by kernel_rfl
@[go_sem] theorem HW:aggT Tryz.prog 80=some false:=by kernel_rfl
@[go_sem] theorem HX:mapT Tryz.prog 80=some (3,3):=by kernel_rfl
@[go_sem] theorem HY:arrT Tryz.prog 81=some (4,3):=by kernel_rfl
@[go_sem] theorem HZ:szOf Tryz.prog 83=some 13:=by kernel_rfl
@[go_sem] theorem I0:aggT Tryz.prog 83=some true:=by kernel_rfl
@[go_sem] theorem I1:nFld Tryz.prog 83=some 10:=by kernel_rfl
@[go_sem] theorem DD:fOff Tryz.prog 83 0=some (0,3,1):=by kernel_rfl
@[go_sem] theorem DE:fOff Tryz.prog 83 1=some (1,73,1):=by kernel_rfl
@[go_sem] theorem DF:fOff Tryz.prog 83 2=some (2,74,1):=by kernel_rfl
@[go_sem] theorem DG:fOff Tryz.prog 83 3=some (3,75,1):=by kernel_rfl
@[go_sem] theorem DH:fOff Tryz.prog 83 4=some (4,76,1):=by kernel_rfl
@[go_sem] theorem DI:fOff Tryz.prog 83 5=some (5,77,1):=by kernel_rfl
@[go_sem] theorem DJ:fOff Tryz.prog 83 6=some (6,78,1):=by kernel_rfl
@[go_sem] theorem DK:fOff Tryz.prog 83 7=some (7,79,1):=by kernel_rfl
@[go_sem] theorem DL:fOff Tryz.prog 83 8=some (8,80,1):=by kernel_rfl
@[go_sem] theorem DM:fOff Tryz.prog 83 9=some (9,81,4):=by kernel_rfl
@[go_sem] theorem I2:zroT Tryz.prog 83=some (.agg [.int .i64 0,.nil (.map none),.nil (.map none),.nil (.map none),.nil (.map none),.nil (.map none),.nil (.map none),.nil (.map none),.nil (.map none),.int .i64 0,.int .i64 0,.int .i64 0,.int .i64 0]):=by kernel_rfl
@[go_sem] theorem I3:szOf Tryz.prog 84=some 1:=by kernel_rfl
@[go_sem] theorem I4:aggT Tryz.prog 84=some false:=by kernel_rfl
@[go_sem] theorem I5:elmT Tryz.prog 84=some 9:=by kernel_rfl
@[go_sem] theorem I6:szOf Tryz.prog 86=some 9:=by kernel_rfl
@[go_sem] theorem I7:aggT Tryz.prog 86=some true:=by kernel_rfl
@[go_sem] theorem IU:byT Tryz.prog 86=some 104:=by kernel_rfl
@[go_sem] theorem I8:nFld Tryz.prog 86=some 9:=by kernel_rfl
@[go_sem] theorem DN:fOff Tryz.prog 86 0=some (0,3,1):=by kernel_rfl
@[go_sem] theorem DO:fOff Tryz.prog 86 1=some (1,3,1):=by kernel_rfl
@[go_sem] theorem DP:fOff Tryz.prog 86 2=some (2,3,1):=by kernel_rfl
@[go_sem] theorem DQ:fOff Tryz.prog 86 3=some (3,9,1):=by kernel_rfl
@[go_sem] theorem DR:fOff Tryz.prog 86 4=some (4,9,1):=by kernel_rfl
@[go_sem] theorem DS:fOff Tryz.prog 86 5=some (5,9,1):=by kernel_rfl
@[go_sem] theorem DT:fOff Tryz.prog 86 6=some (6,4,1):=by kernel_rfl
@[go_sem] theorem DU:fOff Tryz.prog 86 7=some (7,4,1):=by kernel_rfl
@[go_sem] theorem DV:fOff Tryz.prog 86 8=some (8,84,1):=by kernel_rfl
@[go_sem] theorem I9:zroT Tryz.prog 86=some (.agg [.int .i64 0,.int .i64 0,.int .i64 0,.str [],.str [],.str [],.bool false,.bool false,.nil (.slice none 0 0)]):=by kernel_rfl
@[go_sem] theorem Ia:nFld Tryz.prog 88=some 2:=by kernel_rfl
@[go_sem] theorem DW:fOff Tryz.prog 88 0=some (0,3,1):=by kernel_rfl
@[go_sem] theorem DX:fOff Tryz.prog 88 1=some (1,9,1):=by kernel_rfl
@[go_sem] theorem DY:plainT Tryz.prog 88=some [0,2]:=by kernel_rfl
@[go_sem] theorem Ib:zroT Tryz.prog 88=some (.agg [.int .i64 0,.str []]):=by kernel_rfl
@[go_sem] theorem Ic:szOf Tryz.prog 98=some 3:=by kernel_rfl
@[go_sem] theorem Id:aggT Tryz.prog 98=some true:=by kernel_rfl
@[go_sem] theorem IV:byT Tryz.prog 98=some 40:=by kernel_rfl
@[go_sem] theorem Ie:nFld Tryz.prog 98=some 3:=by kernel_rfl
@[go_sem] theorem DZ:fOff Tryz.prog 98 0=some (0,3,1):=by kernel_rfl
@[go_sem] theorem E1:fOff Tryz.prog 98 1=some (1,9,1):=by kernel_rfl
@[go_sem] theorem E2:fOff Tryz.prog 98 2=some (2,9,1):=by kernel_rfl
@[go_sem] theorem E3:plainT Tryz.prog 98=some [0,2,2]:=by kernel_rfl
@[go_sem] theorem If:zroT Tryz.prog 98=some (.agg [.int .i64 0,.str [],.str []]):=by kernel_rfl
@[go_sem] theorem Fr:szOf Tryz.prog 107=some 9:=by kernel_rfl
@[go_sem] theorem Fs:aggT Tryz.prog 107=some true:=by kernel_rfl
@[go_sem] theorem Ft:nFld Tryz.prog 107=some 1:=by kernel_rfl
@[go_sem] theorem Bw:fOff Tryz.prog 107 0=some (0,41,9):=by kernel_rfl
@[go_sem] theorem Fu:zroT Tryz.prog 107=some (.agg [.int .i64 0,.nil (.slice none 0 0),.nil (.slice none 0 0),.nil (.slice none 0 0),.nil (.slice none 0 0),.int .i64 0,.int .i64 0,.int .i64 0,.int .i64 0]):=by kernel_rfl
@[go_sem] theorem Fv:szOf Tryz.prog 120=some 1:=by kernel_rfl
@[go_sem] theorem Fw:aggT Tryz.prog 120=some false:=by kernel_rfl
@[go_sem] theorem Fx:zroT Tryz.prog 120=some (.nil .nilFunc):=by kernel_rfl
@[go_sem] theorem Fy:nFld Tryz.prog 131=some 2:=by kernel_rfl
@[go_sem] theorem By:fOff Tryz.prog 131 0=some (0,3,1):=by kernel_rfl
@[go_sem] theorem Bz:fOff Tryz.prog 131 1=some (1,9,1):=by kernel_rfl
@[go_sem] theorem BA:plainT Tryz.prog 131=some [0,2]:=by kernel_rfl
@[go_sem] theorem FA:zroT Tryz.prog 131=some (.agg [.int .i64 0,.str []]):=by kernel_rfl
@[go_sem] theorem FB:elmT Tryz.prog 141=some 3:=by kernel_rfl
@[go_sem] theorem FC:szOf Tryz.prog 154=some 1:=by kernel_rfl
@[go_sem] theorem FD:aggT Tryz.prog 154=some false:=by kernel_rfl
@[go_sem] theorem FE:szOf Tryz.prog 155=some 1:=by kernel_rfl
@[go_sem] theorem FF:aggT Tryz.prog 155=some false:=by kernel_rfl
@[go_sem] theorem FG:elmT Tryz.prog 155=some 5:=by kernel_rfl
@[go_sem] theorem BB:fOff Tryz.prog 157 0=some (0,154,1):=by kernel_rfl
@[go_sem] theorem BC:fOff Tryz.prog 157 1=some (1,155,1):=by kernel_rfl
@[go_sem] theorem FH:zroT Tryz.prog 157=some (.agg [.nil (.pointer none),.nil (.slice none 0 0)]):=by kernel_rfl
@[go_sem] theorem FI:nFld Tryz.prog 159=some 1:=by kernel_rfl
@[go_sem] theorem BD:fOff Tryz.prog 159 0=some (0,157,2):=by kernel_rfl
@[go_sem] theorem FJ:zroT Tryz.prog 159=some (.agg [.nil (.pointer none),.nil (.slice none 0 0)]):=by kernel_rfl
@[go_sem] theorem FK:elmT Tryz.prog 209=some 21:=by kernel_rfl
@[go_sem] theorem FL:szOf Tryz.prog 231=some 6:=by kernel_rfl
@[go_sem] theorem FM:aggT Tryz.prog 231=some true:=by kernel_rfl
@[go_sem] theorem FN:nFld Tryz.prog 231=some 6:=by kernel_rfl
@[go_sem] theorem BE:fOff Tryz.prog 231 0=some (0,3,1):=by kernel_rfl
@[go_sem] theorem BF:fOff Tryz.prog 231 1=some (1,3,1):=by kernel_rfl
@[go_sem] theorem BG:fOff Tryz.prog 231 2=some (2,3,1):=by kernel_rfl
@[go_sem] theorem BH:fOff Tryz.prog 231 3=some (3,3,1):=by kernel_rfl
@[go_sem] theorem BI:fOff Tryz.prog 231 4=some (4,3,1):=by kernel_rfl
@[go_sem] theorem BJ:fOff Tryz.prog 231 5=some (5,3,1):=by kernel_rfl
@[go_sem] theorem FO:zroT Tryz.prog 231=some (.agg [.int .i64 0,.int .i64 0,.int .i64 0,.int .i64 0,.int .i64 0,.int .i64 0]):=by kernel_rfl
@[go_sem] theorem Ig:Program.underlying Tryz.prog 244=some (.int .u32):=by kernel_rfl
end Go.Av.Ty
namespace Go.Av
open Go Go.Proofs Go.RowKit
noncomputable def CT(G:Nat→Option (List AVal)):Ctx:=⟨Tryz.prog,G⟩
@[go_sem] theorem JB(G:Nat→Option (List AVal)):(CT G).P=Tryz.prog:=(rfl)
@[go_sem] theorem zc(G:Nat→Option (List AVal)):(CT G).G=G:=(rfl)
abbrev Bs:=List UInt8
abbrev At:=Bs×Bs
def At.av(a:At):AVal:=.agg [.str a.1,.str a.2]
abbrev Tok:=Int×Bs×List At×Bs
def Tok.av(t:Tok):AVal:=.agg [.int .i64 t.1,.str t.2.1,.sl 2 (t.2.2.1.map At.av),.str t.2.2.2]
inductive Elem where
 |mk (name:Bs) (attrs:List At) (text:Bs) (kids:List Elem)
 deriving Inhabited
namespace Elem
def name:Elem→Bs| .mk n _ _ _=>n
def attrs:Elem→List At| .mk _ a _ _=>a
def kids:Elem→List Elem| .mk _ _ _ k=>k
end Elem
mutual
def Elem.av:Elem→AVal
 | .mk n a t k=>.agg [.str n,.sl 2 (a.map At.av),.str t,.sl 4 (avs k)]
def avs:List Elem→List AVal
 | []=>[]
 |e::l=>e.av::avs l
end
def At.sz(a:At):Nat:=1+a.1.length+a.2.length
def szs{α:Type}(f:α→Nat):List α→Nat
 | []=>0
 |a::l=>f a+szs f l
mutual
def Elem.sz:Elem→Nat
 | .mk n a t k=>1+n.length+szs At.sz a+t.length+kidsz k
def kidsz:List Elem→Nat
 | []=>0
 |e::l=>e.sz+kidsz l
end
theorem dM{α:Type}(f:α→Nat){l:List α}{a:α}(h:a∈l):f a≤szs f l:=by
 induction l with
 |nil=>cases h
 |cons b l ih=>
  rw[szs];rcases N0.1 h with rfl|h
  ·omega
  ·have:=ih h;omega
theorem xD{α:Type}(f:α→Nat)(hf:∀a,1≤f a)(l:List α):l.length≤szs f l:=by
 induction l with
 |nil=>exact W1 _
 |cons b l ih=>rw[szs,L6];have:=hf b;omega
def Tok.sz(t:Tok):Nat:=1+t.2.1.length+szs At.sz t.2.2.1+t.2.2.2.length
@[go_sem] theorem E4(h:Heap)(a b:Bool):abin Tryz.prog h .eql 4 (.bool a) (.bool b)=some (.bool (a==b)):=by
 have hT:Tryz.prog.underlying 4=some .bool:=by kernel_rfl
 simp only[abin,hT]
@[go_sem] theorem zd(n:Nat):(n:Int)+1=((n+1:Nat):Int):=(rfl)
theorem ac{α:Type}{l:List α}{k:Nat}(h:k<l.length):∃a,l[k]? =some a∧a∈l:=⟨l[k],K6 h,List.getElem_mem h⟩
theorem aB{α:Type}{l:List α}{k:Nat}{a:α}(h:l[k]? =some a):l.drop k=a::l.drop (k+1):=by
 obtain⟨hlt,rfl⟩:=f9.1 h;exact Z3 hlt
theorem aF{α:Type}{l:List α}{k:Nat}(h:l.length≤k):l.drop k=[]:=X8 h
end Go.Av
namespace Go.Av
open Go.RowKit Go.ChangeShapes Go.WideShapes
section
variable {H:Type} {enc:TypeId×Value→H} {P:Program}
theorem i7{w w':World}{base:Nat}{sp:Nat→Bool}{held:Bool}:∀{ts:List TypeId} {vs:List Value} {ds:List (DataW H)} {ps:List MemPlace},DataW.TrodAll enc P w base sp held ts vs ds ps→(∀p∈ps,w.sameAt w' p)→DataW.TrodAll enc P w' base sp held ts vs ds ps
 | [],[],[],_,h,_=>h
 |_::_,_::_,_::_,_,⟨p,q,⟨n,h1⟩,h2,e⟩,hs=>⟨p,q,⟨n,DataW.trod_carry n _ _ _ h1 (fun x hx=>hs x (by rw[e];exact List.mem_append_left _ hx))⟩,i7 h2 (fun x hx=>hs x (by rw[e];exact List.mem_append_right _ hx)),e⟩
theorem mP{f:Func}{s:ChangeSpec}{apart fresh handsOn again:Bool}{W W':World}{args:Array Value}{v:Value}{ds gs:List (DataW H)}{before:List MemPlace}
  (K:Kids P (· < P.types.size))(full:∀t e,t<P.types.size→P.underlying t=some (.slice e)→0<P.cellsOf e)(hts:∀t∈f.params.toList,t<P.types.size)
  (hv:s.vars=[])(hfn:s.fn H (ds++gs)= {results:=[.lit (.bool true)],args:=ds}){tb:TypeId}(hres:f.resultTypes= #[tb])(hb:P.underlying tb=some .bool)
  (hW:DataW.Whole enc P f.params.toList s.vars apart W args.toList ds gs before)(hbel:Below W.heap.size W W')(hvv:v=.bool true):
  s.post enc P f apart fresh handsOn again W args v W':=by
 subst hvv;have hlt:=hW.lt;obtain⟨p,q,hA,hV,hbe,hz,hn⟩:=hW;have hV0:=hV;rw[hv]at hV0;obtain⟨rfl,rfl⟩:=trodVars_none hV0;simp only[O1]at hbe;subst hbe;have hA':=i7 hA fun x hx=>hbel.same (hlt x hx)
 have hold:∀x∈before,(fun b=>decide (b<W.heap.size)) x.block=true:=fun x hx=>by simpa using hlt x hx
 have hr:∀(b:Nat) (sp:Nat→Bool) (hd:Bool),DataW.TrodAll enc P W' b sp hd f.resultTypes.toList ((Value.bool true).resultList f.resultTypes.size) [.lit (.bool true)] []:=fun b sp hd=>by
  rw[hres];exact trodAll_mk1 (shut_bool hb true)
 refine⟨ds,[],before,[],before,[],⟨before,[],hA,hV,by simp,hz,hn⟩,by rw[hfn];exact hr _ _ _,by rw[hfn];exact hA'.respare K full hts hold,by rw[hfn,hv];rfl,hbel.frame _,fun _=>⟨ok_one hres rfl (okWide_bool_mk hb _),[.lit (.bool true)]++ds,[],before,⟨before,[],?_,by rw[hv];rfl,by simp,?_,fun ha=>hn ha⟩,fun x hx _=>hx⟩⟩
 ·have:=trodAll_append hA' (hr 0 (fun _=>true) true);simpa using this
 ·intro b off hp;have h1:=hz b off hp;have h2:=hlt _ hp;rw[hbel.frozen (p:=⟨b,off,none⟩) h2];exact h1
def lies0(W:World):Addr→Prop:=fun a=>(W.cell? a).isSome=true
theorem vz{W:World}{a:Addr}(h:lies0 W a):a.block<W.heap.size:=by
 unfold lies0 World.cell? at h;refine Nat.lt_of_not_le fun hle=>?_
 rw[Array.getElem?_eq_none hle]at h;cases h
theorem BK{C:Ctx}{W:World}(hg:∀g cs,C.G g=some cs→Rep W (lies0 W) [] (.ad cs) (.pointer (some ⟨g,0,none⟩))):Fits C W.heap.size (lies0 W) [] [] W:=
 ⟨hg,rfl,fun p q m m' b h=>by simp at h,fun p m b h=>by simp at h,M0 _,fun a ha=>vz ha,fun p m k h=>by simp at h⟩
theorem nE{C:Ctx}{f:FuncId}{fn:Func}{c:Code}(hf:C.P.funcs[f]? =some fn)(hb:fn.body=some c)(hname:(fn.name== "runtime.NumGoroutine")=false){W:World}{args:Array Value}{xs:List AVal}
  (fit:Fits C W.heap.size (lies0 W) [] [] W)(rl:RepL W (lies0 W) [] xs args.toList)(sat:Sat C f xs [] fun r h'=>r=.bool true∧h'=[]):
  Calls C.P f args W fun e W'=>e=.returned (.bool true)∧Below W.heap.size W W':=by
 have h:=sat _ _ [] W args.toList fit rl;have hcall:(callFunc f args.toList.toArray).run C.P W=.ok (.enter f args.toList.toArray) W:=by
  have hne:fn.name≠ "runtime.NumGoroutine" :=by simpa using hname
  simp[callFunc,hf,hne,hb]
 rw[hcall]at h;have h:Calls C.P f args.toList.toArray W fun e w''=>∃v,e=.returned v∧OpPost C W.heap.size (lies0 W) [] W (fun r h'=>r=.bool true∧h'=[]) v w'':=h
 rw[Array.toArray_toList]at h;refine h.mono fun e W' ⟨v,he,r,h',S',μ',⟨hr,_⟩,st,_,hrep⟩=>?_
 subst hr;rw[hrep.bool_inv]at he;exact⟨he,st.below⟩
theorem jU{C:Ctx}{f:FuncId}{fn:Func}{c:Code}(hf:C.P.funcs[f]? =some fn)(hb:fn.body=some c)(hname:(fn.name== "runtime.NumGoroutine")=false){s:ChangeSpec}{apart fresh handsOn again:Bool}{W:World}{args:Array Value}{xs:List AVal}{ds gs:List (DataW H)}{before:List MemPlace}
  (K:Kids C.P (· < C.P.types.size))(full:∀t e,t<C.P.types.size→C.P.underlying t=some (.slice e)→0<C.P.cellsOf e)(hts:∀t∈fn.params.toList,t<C.P.types.size)
  (hv:s.vars=[])(hfn:s.fn H (ds++gs)= {results:=[.lit (.bool true)],args:=ds}){tb:TypeId}(hres:fn.resultTypes= #[tb])(hbt:C.P.underlying tb=some .bool)
  (hW:DataW.Whole enc C.P fn.params.toList s.vars apart W args.toList ds gs before)
  (hg:∀g cs,C.G g=some cs→Rep W (lies0 W) [] (.ad cs) (.pointer (some ⟨g,0,none⟩)))(rl:RepL W (lies0 W) [] xs args.toList)(sat:Sat C f xs [] fun r h'=>r=.bool true∧h'=[]):
  Calls C.P f args W fun e W'=>∃v,e=.returned v∧s.post enc C.P fn apart fresh handsOn again W args v W':=
 (nE hf hb hname (BK hg) rl sat).mono fun e W' ⟨he,hbel⟩=>⟨_,he,mP K full hts hv hfn hres hbt hW hbel rfl⟩
def Rd(H:Type)(enc:TypeId×Value→H)(P:Program)(W:World)(n:Nat)(t:TypeId){α:Type}(cl:α→List AVal)(sz:α→Nat):Prop:=
 ∀(cs:List Value) (x:DataW H×List MemPlace),DataW.trod enc P W 0 (fun _=>true) true n t cs=some x→
  ∃a:α,(cl a).length=cs.length∧(∀(j:Nat) (c:AVal),(cl a)[j]? =some c→c.sto=true∧Rep W (lies0 W) [] c (cs.getD j undef))∧sz a≤Go.Proofs.YtnolelibaahimaaGreatDoor.Rows.uptoBulk x.1
variable {W:World}
theorem iu{n:Nat}{t:TypeId}(ht:P.underlying t=some .string):Rd H enc P W n t (fun s:List UInt8=>[.str s]) (fun s=>s.length+1):=fun cs x h=>by
 obtain⟨s,rfl,rfl,_⟩:=DataW.trod_string ht h;refine⟨s.data.toList,rfl,fun j c hj=>?_,?_⟩
 ·match j with
  |0=>simp at hj;subst hj;exact⟨rfl,.str _⟩
  |j+1=>simp at hj
 ·simp[Go.Proofs.YtnolelibaahimaaGreatDoor.Rows.uptoBulk]
theorem jV{n:Nat}{t:TypeId}{k:IntKind}(ht:P.underlying t=some (.int k)):Rd H enc P W n t (fun i: {i:Int//(Lit.int k i).wf=true}=>[.int k i.1]) (fun _=>1):=fun cs x h=>by
 obtain⟨i,rfl,rfl,hw⟩:=DataW.trod_int ht h;refine⟨⟨i,hw⟩,rfl,fun j c hj=>?_,?_⟩
 ·match j with
  |0=>simp at hj;subst hj;exact⟨rfl,.int _ _⟩
  |j+1=>simp at hj
 ·simp[Go.Proofs.YtnolelibaahimaaGreatDoor.Rows.uptoBulk]
def szL{α:Type}(f:α→Nat):List α→Nat
 | []=>0
 |a::l=>f a+szL f l
theorem oZ{α:Type}(sz:α→Nat)(D:Nat→DataW H)(l:List α)(s:Nat)(h:∀(i:Nat) (a:α),l[i]? =some a→sz a≤Go.Proofs.YtnolelibaahimaaGreatDoor.Rows.uptoBulk (D (s+i))):szL sz l≤Go.Proofs.YtnolelibaahimaaGreatDoor.Rows.uptoBulkAll ((List.range' s l.length).map D):=by
 induction l generalizing s with
 |nil=>exact W1 _
 |cons a l ih=>
  simp only[L6,List.range'_succ,N4,szL,Go.Proofs.YtnolelibaahimaaGreatDoor.Rows.uptoBulkAll];have h0:=h 0 a rfl;have:=ih (s+1) fun i b hb=>by
   have:=h (i+1) b (by simpa using hb)
   rwa [show s+1+i=s+(i+1) by omega]
  simp only[U9]at h0;omega
theorem jq{n:Nat}{t e m:TypeId}{α:Type}{cl:α→List AVal}{sz:α→Nat}(mk:α→AVal)(ht:P.underlying t=some (.slice e))(hm:P.cellsOf e=m)(hm0:0<m)(hmk:∀a,(mk a).cells=cl a)(hl:∀a,(cl a).length=m)
  (hel:∀k,k<n→Rd H enc P W k e cl sz):Rd H enc P W n t (fun l:List α=>[.sl m (l.map mk)]) (fun l=>szL sz l+1):=fun cs x h=>by
 rcases DataW.trod_slice ht h with⟨rfl,rfl⟩| ⟨a,len,cap,elems,rest,n',hn,rfl,rfl,hb,hlc,hmx,hlen,hel',hsp,hns⟩
 ·refine⟨[],rfl,fun j c hj=>?_,?_⟩
  ·match j with
   |0=>simp at hj;subst hj;exact⟨rfl,.sl0 _ _ _⟩
   |j+1=>simp at hj
  ·simp[szL,Go.Proofs.YtnolelibaahimaaGreatDoor.Rows.uptoBulk]
 ·subst hn;have at_:∀i,i<len→∃al:α,(∀(j:Nat) (c:AVal),(cl al)[j]? =some c→c.sto=true∧∃v,W.cell? ((a.add (i*m)).add j)=some v∧Rep W (lies0 W) [] c v)∧sz al≤Go.Proofs.YtnolelibaahimaaGreatDoor.Rows.uptoBulk (elems.getD i (.nil,[])).1:=fun i hi=>by
   have h1:=hel' i hi;rw[K6 (by omega)]at h1;obtain⟨cs',h2,h3⟩:=Option.bind_eq_some_iff.1 h1;obtain⟨al,k1,k2,k3⟩:=hel n' (by omega) _ _ h3;obtain⟨_,k5,k6⟩:=World.cells?_some h2;refine⟨al,fun j c hj=>?_,?_⟩
   ·obtain⟨s1,s2⟩:=k2 j c hj;have hjl:=(f9.1 hj).1;have hc:=k6 j (by omega);rw[hm]at hc;rw[K6 (by omega)]at hc;refine⟨s1,_,hc,?_⟩;simpa [List.getD,K6 (show j<cs'.length by omega)]using s2
   ·simpa [List.getD,K6 (show i<elems.length by omega)]using k3
  cases len with
  |zero=>
   refine⟨[],rfl,fun j c hj=>?_,?_⟩
   ·match j with
    |0=>simp at hj;subst hj;exact⟨rfl,.sl0 _ _ _⟩
    |j+1=>simp at hj
   ·simp[szL,Go.Proofs.YtnolelibaahimaaGreatDoor.Rows.uptoBulk]
  |succ len=>
   have hspot:a.spot=none:=by
    obtain⟨al,k1,_⟩:=at_ 0 (by omega);have hc:=K6 (show 0<(cl al).length by rw[hl];exact hm0);obtain⟨_,v,hv,_⟩:=k1 0 _ hc;simp only[Nat.zero_mul,Addr.add,L7]at hv;unfold World.cell? at hv;split at hv
    ·cases hs:a.spot with
     |none=>rfl
     |some q=>rw[hs]at hv;simp at hv
    ·cases hv
   obtain⟨b,off,sp⟩:=a;simp only at hspot;subst hspot;have hadd:∀i j,((⟨b,off,none⟩:Addr).add (i*m)).add j=⟨b,off+(i*m+j),none⟩:=fun i j=>by
    rw[bi,bi,Nat.add_assoc]
   have hch:∀n,n≤len+1→∃l:List α,l.length=n∧∀(i:Nat) (al:α),l[i]? =some al→(∀(j:Nat) (c:AVal),(cl al)[j]? =some c→c.sto=true∧∃v,W.cell? ⟨b,off+(i*m+j),none⟩=some v∧Rep W (lies0 W) [] c v)∧sz al≤Go.Proofs.YtnolelibaahimaaGreatDoor.Rows.uptoBulk (elems.getD i (.nil,[])).1:=by
    intro n;induction n with
    |zero=>intro _;exact⟨[],rfl,fun i al h=>by simp at h⟩
    |succ n ih=>
     intro hn;obtain⟨l,h1,h2⟩:=ih (by omega);obtain⟨al,k1,k2⟩:=at_ n (by omega);refine⟨l++[al],by simp[h1],fun i al' hi=>?_⟩;rcases aJ hi with h3| ⟨h3,rfl⟩
     ·exact h2 i al' h3
     ·rw[h3,h1];exact⟨fun j c hj=>by have:=k1 j c hj;rwa [hadd]at this,k2⟩
   obtain⟨l,hll,hl2⟩:=hch (len+1) (M0 _);refine⟨l,rfl,fun j c hj=>?_,?_⟩
   ·match j with
    |0=>
     simp at hj;subst hj;refine⟨rfl,?_⟩;have key:=Rep.sl (w:=W) (S:=lies0 W) (μ:=[]) m (l.map mk) b off cap (fun i j=>(W.cell? ⟨b,off+(i*m+j),none⟩).getD undef) (by intro e;have:=N5 List.length e;simp[hll]at this) (by simp[hll];exact hlc) hmx
      (fun i e hi=>by
       rw[M5]at hi;obtain⟨al,_,rfl⟩:=N3.1 hi;rw[hmk,hl])
      (fun i e j c hi hj=>by
       rw[M5]at hi;obtain⟨al,h1,rfl⟩:=N3.1 hi;rw[hmk]at hj;obtain⟨s1,v,s2,s3⟩:=(hl2 i al h1).1 j c hj;exact⟨by unfold lies0;rw[s2];rfl,by rw[s2];rfl,s1⟩)
      (fun i e j c hi hj=>by
       rw[M5]at hi;obtain⟨al,h1,rfl⟩:=N3.1 hi;rw[hmk]at hj;obtain⟨s1,v,s2,s3⟩:=(hl2 i al h1).1 j c hj;simp only[s2,Q0];exact s3)
     simpa [hll]using key
    |j+1=>simp at hj
   ·have hb:=oZ sz (fun i=>(elems.getD i (.nil,[])).1) l 0 fun i al hi=>by rw[P9];exact(hl2 i al hi).2
    have he:(List.range' 0 l.length).map (fun i=>(elems.getD i (.nil,[])).1)=elems.map (·.1):=by
     rw[Deep.map_by_index elems (.nil,[]) (·.1),hll,hlen,List.range_eq_range']
    rw[he]at hb;simp only[Go.Proofs.YtnolelibaahimaaGreatDoor.Rows.uptoBulk];omega
theorem tD{n:Nat}{t:TypeId}{fs:Array Field}(ht:P.underlying t=some (.struct fs))(hk:P.cellsOf t=fs.size)(ho:∀(j:Nat) (f:Field),fs[j]? =some f→f.offset=j∧P.cellsOf f.type=1){cs:List Value}{x:DataW H×List MemPlace}
  (h:DataW.trod enc P W 0 (fun _=>true) true n t cs=some x):
  ∃(xs:List (DataW H×List MemPlace)) (n':Nat),n=n'+1∧x.1=.agg (xs.map (·.1))∧cs.length=fs.size∧xs.length=fs.size∧∀(j:Nat) (f:Field),fs[j]? =some f→∃y,xs[j]? =some y∧DataW.trod enc P W 0 (fun _=>true) true n' f.type [cs.getD j undef]=some y:=by
 obtain⟨xs,n',hn,rfl,hl,hlen,hf⟩:=DataW.trod_struct ht h;refine⟨xs,n',hn,rfl,by omega,hlen,fun j f hj=>?_⟩;have hlt:=(N6.1 hj).1;obtain⟨h1,h2⟩:=ho j f hj;have:=hf j f hj;rw[h1,h2]at this;have hx:=K6 (show j<xs.length by omega);rw[hx]at this;refine⟨_,hx,?_⟩;rw[← this];have hc:=K6 (show j<cs.length by omega);congr 1
 rw[Z3 (show j<cs.length by omega),List.getD,hc];rfl
end
end Go.Av
namespace Go.Av
open Go Go.Proofs Go.RowKit Go.ChangeShapes Go.WideShapes
section
variable {H:Type} {enc:TypeId×Value→H} {W:World}
theorem tE:Kids Tryz.prog (· < Tryz.prog.types.size):=kids_rows (by kernel_rfl) (by kernel_rfl)
theorem tF:∀t e,t<Tryz.prog.types.size→Tryz.prog.underlying t=some (.slice e)→0<Tryz.prog.cellsOf e:=slices_full_of Tryz.prog (by kernel_rfl)
theorem nF{α:Type}(f g:α→Nat)(h:∀a,g a≤f a):∀l:List α,szs g l≤szL f l
 | []=>M0 _
 |a::l=>by have:=h a;have:=nF f g h l;simp only[szs,szL];omega
def fieldsOk(P:Program)(t:TypeId)(fs:List TypeId):Bool:=match P.underlying t with
 |some (.struct gs)=>decide (gs.toList.map (·.type)=fs)&&decide (P.cellsOf t=fs.length)&&(gs.toList.zipIdx.all fun(f,i)=>f.offset==i&&P.cellsOf f.type==1)
 |_=>false
theorem mQ{P:Program}{t:TypeId}{fs:List TypeId}(h:fieldsOk P t fs=true):∃gs:Array Field,P.underlying t=some (.struct gs)∧gs.size=fs.length∧P.cellsOf t=gs.size∧
  (∀(j:Nat) (f:Field),gs[j]? =some f→f.offset=j∧P.cellsOf f.type=1)∧∀(j:Nat) (T:TypeId),fs[j]? =some T→∃f,gs[j]? =some f∧f.type=T:=by
 unfold fieldsOk at h;split at h
 ·rename_i gs hg;simp only[K5,K8,O4]at h;obtain⟨⟨h1,h2⟩,h3⟩:=h;have hl:gs.size=fs.length:=by rw[← h1];simp
  refine⟨gs,hg,hl,by omega,fun j f hj=>?_,fun j T hT=>?_⟩
  ·have hm:(f,j)∈gs.toList.zipIdx:=List.mem_zipIdx_iff_getElem?.2 (by simpa using hj);have:=h3 _ hm;simpa using this
  ·rw[← h1,M5]at hT;obtain⟨f,hf,rfl⟩:=N3.1 hT;exact⟨f,by simpa using hf,rfl⟩
 ·cases h
theorem mc{P:Program}{n:Nat}{t:TypeId}{fs:List TypeId}(hf:fieldsOk P t fs=true){cs:List Value}{x:DataW H×List MemPlace}(h:DataW.trod enc P W 0 (fun _=>true) true n t cs=some x):
  ∃(ds:List (DataW H)) (n':Nat),n=n'+1∧x.1=.agg ds∧cs.length=fs.length∧ds.length=fs.length∧∀(j:Nat) (T:TypeId),fs[j]? =some T→∃y,ds[j]? =some y.1∧DataW.trod enc P W 0 (fun _=>true) true n' T [cs.getD j undef]=some y:=by
 obtain⟨gs,h1,h2,h3,h4,h5⟩:=mQ hf;obtain⟨xs,n',k1,k2,k3,k4,k5⟩:=tD h1 h3 h4 h;refine⟨_,n',k1,k2,by omega,by simp;omega,fun j T hT=>?_⟩;obtain⟨f,hf1,rfl⟩:=h5 j T hT;obtain⟨y,hy,hy2⟩:=k5 j f hf1;exact⟨y,by simp[hy],hy2⟩
theorem cf{P:Program}{n:Nat}{T:TypeId}{α:Type}{mk:α→AVal}{sz:α→Nat}(hr:Rd H enc P W n T (fun a=>[mk a]) sz){v:Value}{y:DataW H×List MemPlace}(h:DataW.trod enc P W 0 (fun _=>true) true n T [v]=some y):
  ∃a:α,(mk a).sto=true∧Rep W (lies0 W) [] (mk a) v∧sz a≤Go.Proofs.YtnolelibaahimaaGreatDoor.Rows.uptoBulk y.1:=by
 obtain⟨a,_,h2,h3⟩:=hr _ _ h;have:=h2 0 (mk a) rfl;exact⟨a,this.1,by simpa using this.2,h3⟩
theorem p4{t:TypeId}(ht:Tryz.prog.underlying t=some .string){r:Reach}{b0:Nat}{v:Value}{d:DataW H}{ps:List MemPlace}(hval:Value.okWide Tryz.prog W r b0 t v)(h:DataW.Trod enc Tryz.prog W 0 (fun _=>true) true t v d ps):
  ∃s:Bs,Rep W (lies0 W) [] (.str s) v∧s.length+1≤Go.Proofs.YtnolelibaahimaaGreatDoor.Rows.uptoBulk d:=by
 obtain⟨s,rfl,rfl,_,_⟩:=Go.ChangeMaps.open_string ht hval h;exact⟨s.data.toList,by simpa using Rep.str (w:=W) (S:=lies0 W) (μ:=[]) s.data.toList,by simp[Go.Proofs.YtnolelibaahimaaGreatDoor.Rows.uptoBulk]⟩
end
end Go.Av
namespace Go.Av
open Go Go.Proofs Go.RowKit
variable (G:Nat→Option (List AVal))
theorem fp(x:AVal)(h:Heap):Sat (CT G) 178 [x] h (fun r h'=>r=x∧h'=h):=by
 refine Sat.of_extern (fn:=Tryz.f178) (ex:=Extern.AbiNoEscape.same) Tryz.func178 (by kernel_rfl) (by kernel_rfl) (by kernel_rfl) (by kernel_rfl) fun B S μ w vs f r=>?_
 obtain⟨hl,hr⟩:=r
 match vs,hl,hr with
 | [v],_,hr=>
  refine⟨v,w,Lib.run_noEscape w v,x,h,S,μ,⟨rfl,rfl⟩,Step.refl _ _ _ _,f,?_⟩;simpa using hr 0 x rfl
end Go.Av
namespace Go.Proofs
open Go.Shelf
def Tryz.lays103_ren:Go.Shelf.Ren:=⟨fun|103=>237|210=>256|206=>247|n=>n,fun|9=>9|4=>4|24=>227|3=>3|n=>n,fun|n=>n⟩
theorem Tryz.lays103:Go.Proofs.Lays.n103 Tryz.prog Tryz.lays103_ren:= {
 mixed:=by kernel_rfl
 f103:=Tryz.func237.trans (N5 some (by kernel_rfl))
 f206:=Tryz.func247.trans (N5 some (by kernel_rfl))
 f210:=Tryz.func256.trans (N5 some (by kernel_rfl))
 t3:=Tryz.underlying3
 a3:=Tryz.isAgg3
 z3:=Tryz.sizeOf3
 v3:=Tryz.zeroValue3
 t4:=Tryz.underlying4
 a4:=Tryz.isAgg4
 z4:=Tryz.sizeOf4
 v4:=Tryz.zeroValue4
 t9:=Tryz.underlying9
 a9:=Tryz.isAgg9
 z9:=Tryz.sizeOf9
 v9:=Tryz.zeroValue9
 t24:=Tryz.underlying227
 a24:=Tryz.isAgg227
 z24:=Tryz.sizeOf227
 v24:=Tryz.zeroValue227}
open Go.RowKit in
theorem Tryz.strings_CutPrefix(s p:ByteArray)(w:World):
  Calls Tryz.prog 237 #[.string s,.string p] w fun e w'=>e=.returned (.tuple #[.string ⟨(Lib.trimPrefix s.data.toList p.data.toList).toArray⟩,.bool (Lib.hasPrefix s.data.toList p.data.toList)])∧w'=w:=Any.strings_CutPrefix Tryz.lays103 s p w
def Tryz.lays144_ren:Go.Shelf.Ren:=⟨fun|144=>239|143=>258|219=>278|217=>286|225=>287|224=>288|267=>289|266=>294|314=>295|n=>n,fun|9=>9|4=>4|3=>3|5=>5|46=>204|146=>297|51=>244|n=>n,fun|1=>0|n=>n⟩
theorem Tryz.lays144:Go.Proofs.Lays.n144 Tryz.prog Tryz.lays144_ren:= {
 mixed:=by kernel_rfl
 f143:=Tryz.func258.trans (N5 some (by kernel_rfl))
 f144:=Tryz.func239.trans (N5 some (by kernel_rfl))
 f217:=Tryz.func286.trans (N5 some (by kernel_rfl))
 f219:=Tryz.func278.trans (N5 some (by kernel_rfl))
 f224:=Tryz.func288.trans (N5 some (by kernel_rfl))
 f225:=Tryz.func287.trans (N5 some (by kernel_rfl))
 f266:=Tryz.func294.trans (N5 some (by kernel_rfl))
 f267:=Tryz.func289.trans (N5 some (by kernel_rfl))
 f314:=Tryz.func295.trans (N5 some (by kernel_rfl))
 t3:=Tryz.underlying3
 a3:=Tryz.isAgg3
 z3:=Tryz.sizeOf3
 v3:=Tryz.zeroValue3
 t4:=Tryz.underlying4
 a4:=Tryz.isAgg4
 z4:=Tryz.sizeOf4
 v4:=Tryz.zeroValue4
 t5:=Tryz.underlying5
 a5:=Tryz.isAgg5
 z5:=Tryz.sizeOf5
 v5:=Tryz.zeroValue5
 t9:=Tryz.underlying9
 a9:=Tryz.isAgg9
 z9:=Tryz.sizeOf9
 v9:=Tryz.zeroValue9
 t46:=Tryz.underlying204
 a46:=Tryz.isAgg204
 z46:=Tryz.sizeOf204
 v46:=Tryz.zeroValue204
 t51:=Tryz.underlying244
 a51:=Tryz.isAgg244
 z51:=Tryz.sizeOf244
 v51:=Tryz.zeroValue244
 t146:=Tryz.underlying297
 a146:=Tryz.isAgg297
 z146:=Tryz.sizeOf297
 v146:=Tryz.zeroValue297
 g1:=by kernel_rfl}
open Go.RowKit Go.Lib in
theorem Tryz.strings_Contains(s sub:ByteArray)(m:Int)(w:World)(hs:s.size<4294967281)(hm:w.cell? ⟨0,0,none⟩=some (.int .i64 m)):
  Calls Tryz.prog 239 #[.string s,.string sub] w fun e w'=>e=.returned (.bool (Lib.contains s.data.toList sub.data.toList))∧w'=w:=Any.strings_Contains Tryz.lays144 s sub m w hs hm
def Tryz.lays145_ren:Go.Shelf.Ren:=⟨fun|145=>238|220=>257|219=>278|217=>286|225=>287|224=>288|267=>289|266=>294|314=>295|n=>n,fun|9=>9|4=>4|59=>266|3=>3|5=>5|46=>204|146=>297|51=>244|n=>n,fun|1=>0|n=>n⟩
theorem Tryz.lays145:Go.Proofs.Lays.n145 Tryz.prog Tryz.lays145_ren:= {
 mixed:=by kernel_rfl
 f145:=Tryz.func238.trans (N5 some (by kernel_rfl))
 f217:=Tryz.func286.trans (N5 some (by kernel_rfl))
 f219:=Tryz.func278.trans (N5 some (by kernel_rfl))
 f220:=Tryz.func257.trans (N5 some (by kernel_rfl))
 f224:=Tryz.func288.trans (N5 some (by kernel_rfl))
 f225:=Tryz.func287.trans (N5 some (by kernel_rfl))
 f266:=Tryz.func294.trans (N5 some (by kernel_rfl))
 f267:=Tryz.func289.trans (N5 some (by kernel_rfl))
 f314:=Tryz.func295.trans (N5 some (by kernel_rfl))
 t3:=Tryz.underlying3
 a3:=Tryz.isAgg3
 z3:=Tryz.sizeOf3
 v3:=Tryz.zeroValue3
 t4:=Tryz.underlying4
 a4:=Tryz.isAgg4
 z4:=Tryz.sizeOf4
 v4:=Tryz.zeroValue4
 t5:=Tryz.underlying5
 a5:=Tryz.isAgg5
 z5:=Tryz.sizeOf5
 v5:=Tryz.zeroValue5
 t9:=Tryz.underlying9
 a9:=Tryz.isAgg9
 z9:=Tryz.sizeOf9
 v9:=Tryz.zeroValue9
 t46:=Tryz.underlying204
 a46:=Tryz.isAgg204
 z46:=Tryz.sizeOf204
 v46:=Tryz.zeroValue204
 t51:=Tryz.underlying244
 a51:=Tryz.isAgg244
 z51:=Tryz.sizeOf244
 v51:=Tryz.zeroValue244
 t59:=Tryz.underlying266
 a59:=Tryz.isAgg266
 z59:=Tryz.sizeOf266
 v59:=Tryz.zeroValue266
 t146:=Tryz.underlying297
 a146:=Tryz.isAgg297
 z146:=Tryz.sizeOf297
 v146:=Tryz.zeroValue297
 g1:=by kernel_rfl}
open Go.RowKit Go.Lib in
theorem Tryz.strings_Cut(s sep:ByteArray)(m:Int)(w:World)(hs:s.size<4294967281)(hm:w.cell? ⟨0,0,none⟩=some (.int .i64 m)):
  Calls Tryz.prog 238 #[.string s,.string sep] w fun e w'=>e=.returned (.tuple #[.string ⟨(Lib.cut s.data.toList sep.data.toList).1.toArray⟩,.string ⟨(Lib.cut s.data.toList sep.data.toList).2.1.toArray⟩,.bool (Lib.cut s.data.toList sep.data.toList).2.2])∧∃n,w'=w.drewN n:=Any.strings_Cut Tryz.lays145 s sep m w hs hm
def Tryz.lays149_ren:Go.Shelf.Ren:=⟨fun|149=>142|222=>182|n=>n,fun|9=>9|5=>5|3=>3|4=>4|n=>n,fun|n=>n⟩
theorem Tryz.lays149:Go.Proofs.Lays.n149 Tryz.prog Tryz.lays149_ren:= {
 mixed:=by kernel_rfl
 f149:=Tryz.func142.trans (N5 some (by kernel_rfl))
 f222:=Tryz.func182.trans (N5 some (by kernel_rfl))
 t3:=Tryz.underlying3
 a3:=Tryz.isAgg3
 z3:=Tryz.sizeOf3
 v3:=Tryz.zeroValue3
 t4:=Tryz.underlying4
 a4:=Tryz.isAgg4
 z4:=Tryz.sizeOf4
 v4:=Tryz.zeroValue4
 t5:=Tryz.underlying5
 a5:=Tryz.isAgg5
 z5:=Tryz.sizeOf5
 v5:=Tryz.zeroValue5
 t9:=Tryz.underlying9
 a9:=Tryz.isAgg9
 z9:=Tryz.sizeOf9
 v9:=Tryz.zeroValue9}
open Go.RowKit Go.Lib in
theorem Tryz.strings_LastIndexByte(s:ByteArray)(c:Int)(hs:s.size<4611686018427387904)(w:World):
  Calls Tryz.prog 142 #[.string s,.int .u8 c] w fun e w'=>e=.returned (.int .i64 (Lib.lastIndexByte s c))∧w'=w:=Any.strings_LastIndexByte Tryz.lays149 s c hs w
def Tryz.lays99_ren:Go.Shelf.Ren:=⟨fun|99=>223|206=>247|n=>n,fun|9=>9|4=>4|3=>3|n=>n,fun|n=>n⟩
theorem Tryz.lays99:Go.Proofs.Lays.n99 Tryz.prog Tryz.lays99_ren:= {
 mixed:=by kernel_rfl
 f99:=Tryz.func223.trans (N5 some (by kernel_rfl))
 f206:=Tryz.func247.trans (N5 some (by kernel_rfl))
 t3:=Tryz.underlying3
 a3:=Tryz.isAgg3
 z3:=Tryz.sizeOf3
 v3:=Tryz.zeroValue3
 t4:=Tryz.underlying4
 a4:=Tryz.isAgg4
 z4:=Tryz.sizeOf4
 v4:=Tryz.zeroValue4
 t9:=Tryz.underlying9
 a9:=Tryz.isAgg9
 z9:=Tryz.sizeOf9
 v9:=Tryz.zeroValue9}
open Go.RowKit Go.Lib in
theorem Tryz.strings_HasPrefix(s p:ByteArray)(w:World):
  Calls Tryz.prog 223 #[.string s,.string p] w fun e w'=>e=.returned (.bool (Lib.hasPrefix s.data.toList p.data.toList))∧w'=w:=Any.strings_HasPrefix Tryz.lays99 s p w
def Tryz.lays151_ren:Go.Shelf.Ren:=⟨fun|151=>262|152=>279|137=>290|119=>291|224=>288|225=>287|217=>286|266=>294|n=>n,fun|9=>9|21=>21|4=>4|3=>3|5=>5|0=>0|46=>204|n=>n,fun|n=>n⟩
theorem Tryz.lays151:Go.Proofs.Lays.n151 Tryz.prog Tryz.lays151_ren:= {
 mixed:=by kernel_rfl
 f119:=Tryz.func291.trans (N5 some (by kernel_rfl))
 f137:=Tryz.func290.trans (N5 some (by kernel_rfl))
 f151:=Tryz.func262.trans (N5 some (by kernel_rfl))
 f152:=Tryz.func279.trans (N5 some (by kernel_rfl))
 f217:=Tryz.func286.trans (N5 some (by kernel_rfl))
 f224:=Tryz.func288.trans (N5 some (by kernel_rfl))
 f225:=Tryz.func287.trans (N5 some (by kernel_rfl))
 f266:=Tryz.func294.trans (N5 some (by kernel_rfl))
 t0:=Tryz.underlying0
 a0:=Tryz.isAgg0
 z0:=Tryz.sizeOf0
 v0:=Tryz.zeroValue0
 t3:=Tryz.underlying3
 a3:=Tryz.isAgg3
 z3:=Tryz.sizeOf3
 v3:=Tryz.zeroValue3
 t4:=Tryz.underlying4
 a4:=Tryz.isAgg4
 z4:=Tryz.sizeOf4
 v4:=Tryz.zeroValue4
 t5:=Tryz.underlying5
 a5:=Tryz.isAgg5
 z5:=Tryz.sizeOf5
 v5:=Tryz.zeroValue5
 t9:=Tryz.underlying9
 a9:=Tryz.isAgg9
 z9:=Tryz.sizeOf9
 v9:=Tryz.zeroValue9
 t21:=Tryz.underlying21
 a21:=Tryz.isAgg21
 z21:=Tryz.sizeOf21
 v21:=Tryz.zeroValue21
 t46:=Tryz.underlying204
 a46:=Tryz.isAgg204
 z46:=Tryz.sizeOf204
 v46:=Tryz.zeroValue204}
open Go.RowKit Go.Lib in
theorem Tryz.strings_ContainsRune_ascii(s:ByteArray)(r:Int)(w:World)(h0:0≤r)(h1:r<128):
  Calls Tryz.prog 262 #[.string s,.int .i32 r] w fun e w'=>e=.returned (.bool (decide (0≤Lib.indexByte s.data.toList r.toNat.toUInt8)))∧w'=w:=Any.strings_ContainsRune_ascii Tryz.lays151 s r w h0 h1
def Tryz.lays229_ren:Go.Shelf.Ren:=⟨fun|229=>248|n=>n,fun|9=>9|40=>200|31=>84|152=>291|3=>3|0=>0|4=>4|21=>21|154=>293|n=>n,fun|n=>n⟩
theorem Tryz.lays229:Go.Proofs.Lays.n229 Tryz.prog Tryz.lays229_ren:= {
 mixed:=by kernel_rfl
 f229:=Tryz.func248.trans (N5 some (by kernel_rfl))
 t0:=Tryz.underlying0
 a0:=Tryz.isAgg0
 z0:=Tryz.sizeOf0
 v0:=Tryz.zeroValue0
 t3:=Tryz.underlying3
 a3:=Tryz.isAgg3
 z3:=Tryz.sizeOf3
 v3:=Tryz.zeroValue3
 t4:=Tryz.underlying4
 a4:=Tryz.isAgg4
 z4:=Tryz.sizeOf4
 v4:=Tryz.zeroValue4
 t9:=Tryz.underlying9
 a9:=Tryz.isAgg9
 z9:=Tryz.sizeOf9
 v9:=Tryz.zeroValue9
 t21:=Tryz.underlying21
 a21:=Tryz.isAgg21
 z21:=Tryz.sizeOf21
 v21:=Tryz.zeroValue21
 t31:=Tryz.underlying84
 a31:=Tryz.isAgg84
 z31:=Tryz.sizeOf84
 v31:=Tryz.zeroValue84
 t40:=Tryz.underlying200
 a40:=Tryz.isAgg200
 z40:=Tryz.sizeOf200
 v40:=Tryz.zeroValue200
 t152:=Tryz.underlying291
 a152:=Tryz.isAgg291
 z152:=Tryz.sizeOf291
 v152:=Tryz.zeroValue291
 t154:=Tryz.underlying293
 a154:=Tryz.isAgg293
 z154:=Tryz.sizeOf293
 v154:=Tryz.zeroValue293}
open Go.RowKit Go.Lib in
theorem Tryz.strings_FieldsFunc(g:Nat)(lb:Array Value)(eg:∀args w,(callFunc g args).run Tryz.prog w=.ok (.enter g args) w)(p:Nat→Bool)(s:ByteArray)(w:World)(hs:s.size≤4294967296)(hp:PredAt Tryz.prog g lb encR p w):
  Calls Tryz.prog 248 #[.string s,.func (.func g) #[] lb] w fun e w'=>∃A,e=.returned (.slice (some ⟨A,0,none⟩) (Lib.goFieldsP p s).length (Lib.goFieldsP p s).length)∧w.heap.size≤A∧
   w'.ownsRow w.heap.size 9 1 (.slice (some ⟨A,0,none⟩) (Lib.goFieldsP p s).length (Lib.goFieldsP p s).length) (Lib.goFieldsP p s).length ((Lib.goFieldsP p s).map Value.string)∧Below w.heap.size w w':=Any.strings_FieldsFunc Tryz.lays229 g lb eg p s w hs hp (by kernel_rfl) (by kernel_rfl)
def Tryz.laysNm224_ren:Go.Shelf.Ren:=⟨fun|24=>85|n=>n,fun|24=>84|9=>9|3=>3|4=>4|0=>0|n=>n,fun|n=>n⟩
theorem Tryz.laysNm224:Go.Proofs.Lays2.n24 Tryz.prog Tryz.laysNm224_ren:= {
 mixed:=by kernel_rfl
 f24:=Tryz.func85.trans (N5 some (by kernel_rfl))
 t0:=Tryz.underlying0
 a0:=Tryz.isAgg0
 z0:=Tryz.sizeOf0
 v0:=Tryz.zeroValue0
 t3:=Tryz.underlying3
 a3:=Tryz.isAgg3
 z3:=Tryz.sizeOf3
 v3:=Tryz.zeroValue3
 t4:=Tryz.underlying4
 a4:=Tryz.isAgg4
 z4:=Tryz.sizeOf4
 v4:=Tryz.zeroValue4
 t9:=Tryz.underlying9
 a9:=Tryz.isAgg9
 z9:=Tryz.sizeOf9
 v9:=Tryz.zeroValue9
 t24:=Tryz.underlying84
 a24:=Tryz.isAgg84
 z24:=Tryz.sizeOf84
 v24:=Tryz.zeroValue84
 i9:=by kernel_rfl}
open Go.RowKit Go.Lib Go.Sort in
theorem Tryz.slices_Delete_string(blk off cap i j:Nat)(zs:List (List UInt8))(w:World)(hH:Holds encStr w blk off zs.toArray)(hcap:zs.length≤cap)(hm:cap≤9223372036854775807)(hij:i≤j)(hj:j≤zs.length):
  Calls Tryz.prog 85 #[.slice (some ⟨blk,off,none⟩) zs.length cap,.int .i64 i,.int .i64 j] w fun e w'=>e=.returned (.slice (some ⟨blk,off,none⟩) (zs.length-(j-i)) cap)∧∃q,w'=putRow encStr (Sort.ahead w q) blk off (zs.take i++zs.drop j++List.replicate (j-i) []).toArray:=Any.slices_Delete_string Tryz.laysNm224 blk off cap i j zs w hH hcap hm hij hj
end Go.Proofs
namespace Go.Av
open Go Go.Proofs Go.RowKit
variable (G:Nat→Option (List AVal))
theorem dz{w w':World}(e:w'=w):Below w.heap.size w w':=by rw[e];exact V4 _ _
theorem p5(w:World)(n:Nat):Below w.heap.size w (w.drewN n):=by
 induction n with
 |zero=>exact V4 _ _
 |succ n ih=>exact ih.trans (Below.drew (V4 _ _))
theorem j1(s:Bs)(c:Int)(hs:s.length≤1073741824)(h:Heap):Sat (CT G) 142 [.str s,.int .u8 c] h (fun r h'=>r=.int .i64 (Lib.lastIndexByte ⟨s.toArray⟩ c)∧h'=h):=by
 refine Sat.of_calls (fn:=Tryz.f142) Tryz.func142 (by kernel_rfl) (by kernel_rfl) rfl rfl fun B S μ w f=>?_
 refine(Tryz.strings_LastIndexByte ⟨s.toArray⟩ c (by simp[ByteArray.size];omega) w).mono fun e w' ⟨h1,h2⟩=>⟨h1,dz h2⟩
end Go.Av
namespace Go.Av
open Go Go.Proofs Go.RowKit
variable (G:Nat→Option (List AVal))
def GOk:Prop:=∃m,G 0=some [.int .i64 m]
theorem qh(s:Bs):(⟨s.toArray⟩:ByteArray).size=s.length:=by simp[ByteArray.size]
variable {G}
theorem GOk.cell(hG:GOk G){B:Nat}{S:Addr→Prop}{μ:Map}{h:Heap}{w:World}(f:Fits (CT G) B S μ h w):∃m,w.cell? ⟨0,0,none⟩=some (.int .i64 m):=by
 obtain⟨m,hm⟩:=hG;have r:=f.glob _ _ hm;cases r with
 |ad cs b o vs hne hc hr=>
  have h1:=(hc 0 _ rfl).2.1;have h2:=hr 0 _ rfl;refine⟨m,?_⟩;generalize vs 0=u at h1 h2;cases h2;exact h1
variable (G)
theorem p6{w w':World}(h:∃n,w'=w.drewN n):Below w.heap.size w w':=by obtain⟨n,rfl⟩:=h;exact p5 w n
theorem xE(hG:GOk G)(s p:Bs)(hs:s.length≤1073741824)(h:Heap):
  Sat (CT G) 238 [.str s,.str p] h (fun r h'=>r=.tup [.str (Lib.cut s p).1,.str (Lib.cut s p).2.1,.bool (Lib.cut s p).2.2]∧h'=h):=by
 refine Sat.of_calls (fn:=Tryz.f238) Tryz.func238 (by kernel_rfl) (by kernel_rfl) rfl rfl fun B S μ w f=>?_
 obtain⟨m,hm⟩:=hG.cell f;refine(Tryz.strings_Cut ⟨s.toArray⟩ ⟨p.toArray⟩ m w (by rw[qh];omega) hm).mono fun e w' ⟨h1,h2⟩=>⟨h1,p6 h2⟩
theorem nG(hG:GOk G)(s p:Bs)(hs:s.length≤1073741824)(h:Heap):
  Sat (CT G) 239 [.str s,.str p] h (fun r h'=>r=.bool (Lib.contains s p)∧h'=h):=by
 refine Sat.of_calls (fn:=Tryz.f239) Tryz.func239 (by kernel_rfl) (by kernel_rfl) rfl rfl fun B S μ w f=>?_
 obtain⟨m,hm⟩:=hG.cell f;refine(Tryz.strings_Contains ⟨s.toArray⟩ ⟨p.toArray⟩ m w (by rw[qh];omega) hm).mono fun e w' ⟨h1,h2⟩=>⟨h1,dz h2⟩
theorem mR(s p:Bs)(h:Heap):
  Sat (CT G) 237 [.str s,.str p] h (fun r h'=>r=.tup [.str (Lib.trimPrefix s p),.bool (Lib.hasPrefix s p)]∧h'=h):=by
 refine Sat.of_calls (fn:=Tryz.f237) Tryz.func237 (by kernel_rfl) (by kernel_rfl) rfl rfl fun B S μ w f=>?_
 refine(Tryz.strings_CutPrefix ⟨s.toArray⟩ ⟨p.toArray⟩ w).mono fun e w' ⟨h1,h2⟩=>⟨h1,dz h2⟩
theorem i8(s p:Bs)(h:Heap):
  Sat (CT G) 223 [.str s,.str p] h (fun r h'=>r=.bool (Lib.hasPrefix s p)∧h'=h):=by
 refine Sat.of_calls (fn:=Tryz.f223) Tryz.func223 (by kernel_rfl) (by kernel_rfl) rfl rfl fun B S μ w f=>?_
 refine(Tryz.strings_HasPrefix ⟨s.toArray⟩ ⟨p.toArray⟩ w).mono fun e w' ⟨h1,h2⟩=>⟨h1,dz h2⟩
theorem iv(s:Bs)(r:Int)(h0:0≤r)(h1:r<128)(h:Heap):
  Sat (CT G) 262 [.str s,.int .i32 r] h (fun x h'=>x=.bool (decide (0≤Lib.indexByte s r.toNat.toUInt8))∧h'=h):=by
 refine Sat.of_calls (fn:=Tryz.f262) Tryz.func262 (by kernel_rfl) (by kernel_rfl) rfl rfl fun B S μ w f=>?_
 refine(Tryz.strings_ContainsRune_ascii ⟨s.toArray⟩ r w h0 h1).mono fun e w' ⟨h1,h2⟩=>⟨h1,dz h2⟩
end Go.Av
theorem W9:type_of% @Go.Av.Weak.virt:=@Go.Av.Weak.virt
