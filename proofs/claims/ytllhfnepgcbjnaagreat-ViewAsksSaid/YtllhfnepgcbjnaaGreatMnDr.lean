/- Parts. -/
import Derived.Test.YtllhfnepgcbjnaaGreatMnAv21
import Derived.Laws.Externs
import Derived.Test.YtllhfnepgcbjnaaGreatMnAv9
import Derived.Test.YtllhfnepgcbjnaaGreatProg
import Derived.KernelRfl
import Derived.Test.YtllhfnepgcbjnaaGreatRows
import Derived.ChangeSame
import Derived.RowKit
import Derived.ReadAgain
import Derived.ChangeArms
import Derived.Clock
import Derived.Deep.Slices
set_option linter.unusedSimpArgs false
set_option linter.unusedVariables false
set_option linter.unusedSectionVars false
set_option linter.unnecessarySimpa false
set_option maxRecDepth 100000
set_option maxHeartbeats 16000000
namespace Go.Av
open Go.RowKit
section
variable {C:Ctx}
def Agr(ms:List Nat)(s t:Env):Prop:=∀i,i ∉ ms→s i=t i
theorem Agr.put{ms:List Nat}{s t:Env}{d:Option Nat}{v:AVal}(g:Agr ms s t)(hd:∀x,d=some x→x∈ms):Agr ms (put s d v) t:=by
 intro i hi;cases d with
 |none=>exact g i hi
 |some x=>
  have:i≠x:=fun e=>hi (e▸hd x rfl)
  simp only[Av.put,upd];rw[L5 this];exact g i hi
theorem cg{ops:Array Oper}{o:Oper}{t:Env}{h:Heap}{K K':AVal→Heap→Prop}(g:wpOperV C ops o t h K)(k:∀v h',K v h'→K' v h'):wpOperV C ops o t h K':=by
 unfold wpOperV at*;split at g
 ·exact dQ k g
 ·split at g
  ·exact⟨fun e=>dQ k (g.1 e),fun e=>k _ _ (g.2 e)⟩
  ·exact g.elim
theorem lF{ops:Array Oper}{ms:List Nat}{t0:Env}{Q Q':Exit→Env→Heap→Prop}(k:∀e t h,Q e t h→Agr ms t t0→Q' e t h):
  ∀(l:List Oper) (t:Env) (h:Heap),(∀x∈wrOps l,x∈ms)→Agr ms t t0→WPl C ops Q l t h→WPl C ops Q' l t h
 | [],t,h,_,a,g=>k _ _ _ g a
 |o::rest,t,h,hm,a,g=>by
  unfold WPl at g ⊢;rw[de]at g ⊢;refine cg g fun v h' g'=>lF k rest _ h' (fun x hx=>hm x ?_) (a.put fun x hx=>hm x ?_) g'
  ·unfold wrOps;split<;>simp[hx]
  ·unfold wrOps;simp[hx]
theorem lG{o:Oper}{x:Nat}(hx:o.dst=some x):∀(l:List Oper),o∈l→x∈wrOps l
 |o'::rest,hm=>by
  unfold wrOps;rcases N2.1 hm with rfl|hm
  ·rw[hx];simp
  ·split<;>simp[lG hx rest hm]
theorem gw{ops:Array Oper}{ms:List Nat}{t0:Env}{Q Q':Exit→Env→Heap→Prop}(k:∀e t h,Q e t h→Agr ms t t0→Q' e t h)(hm:∀x∈wrOps ops.toList,x∈ms):
  ∀(l:List Nat) (t:Env) (h:Heap),Agr ms t t0→WPix C ops Q l t h→WPix C ops Q' l t h
 | [],t,h,a,g=>k _ _ _ g a
 |i::rest,t,h,a,g=>by
  unfold WPix at g ⊢;cases hi:ops[i]? with
  |none=>rw[hi]at g;exact gw k hm rest t h a g
  |some o=>
   rw[hi]at g;simp only[]at g ⊢;rw[de]at g ⊢;exact cg g fun v h' g'=>gw k hm rest _ h' (a.put fun x hx=>hm x (lG hx _ (by simpa using zb4 hi))) g'
theorem ve{ms:List Nat}{t0:Env}:∀(c:Code) {Q Q':Exit→Env→Heap→Prop},(∀e t h,Q e t h→Agr ms t t0→Q' e t h)→
  ∀(t:Env) (h:Heap),(∀x∈wr c,x∈ms)→Agr ms t t0→WP C c Q t h→WP C c Q' t h:=by
 intro c;induction c with
 |skip=>intro Q Q' k t h _ a g;exact k _ _ _ g a
 |label l=>intro Q Q' k t h _ a g;exact k _ _ _ g a
 |exit id=>intro Q Q' k t h _ a g;exact k _ _ _ g a
 |ret=>intro Q Q' k t h _ a g;exact k _ _ _ g a
 |region id ops draw=>
  intro Q Q' k t h hm a g;cases draw with
  |false=>exact lF k _ t h hm a g
  |true=>exact fun tp=>gw k hm _ t h a (g tp)
 |seq x y ihx ihy=>
  intro Q Q' k t h hm a g;refine ihx (Q:=thenQ (fun t h=>Wkn C (wr x) t h fun t h=>WP C y Q t h) Q) (fun e t' h' g' a'=>?_) t h (fun i hi=>hm i (by simp[wr,hi])) a g;cases e with
  |normal=>
   obtain⟨t1,h1,hw,g'⟩:=g';exact⟨t1,h1,hw,ihy k t1 h1 (fun i hi=>hm i (by simp[wr,hi])) (fun i hi=>(hw.1 i fun e=>hi (hm i (by simp[wr,e]))).trans (a' i hi)) g'⟩
  |_=>exact k _ _ _ g' a'
 |cond c x y ihx ihy=>
  intro Q Q' k t h hm a g;simp only[WP]at g ⊢;split at g
  ·exact⟨fun e=>ihx k t h (fun i hi=>hm i (by simp[wr,hi])) a (g.1 e),fun e=>ihy k t h (fun i hi=>hm i (by simp[wr,hi])) a (g.2 e)⟩
  ·exact g.elim
 |block id x ih=>
  intro Q Q' k t h hm a g;refine ih (Q:=blockQ id Q) (fun e t' h' g' a'=>?_) t h hm a g;cases e with
  |exit id'=>
   simp only[blockQ]at g' ⊢;split at g'
   ·rename_i e;rw[M1 e];exact k _ _ _ g' a'
   ·rename_i e;rw[L5 e];exact k _ _ _ g' a'
  |_=>exact k _ _ _ g' a'
 |loop x ih=>
  intro Q Q' k t h hm a g;obtain⟨I,n,⟨t1,h1,hw,h0⟩,round⟩:=g;have wk:∀t h t1 h1,Weak C (wr x) t h t1 h1→Agr ms t t0→Agr ms t1 t0:=fun t h t1 h1 hw a i hi=>(hw.1 i fun e=>hi (hm i e)).trans (a i hi)
  refine⟨fun n t h=>I n t h∧Agr ms t t0,n,⟨t1,h1,hw,h0,wk _ _ _ _ hw a⟩,fun n' t' h' hI=>?_⟩;refine ih (Q:=thenQ (fun t2 h2=>∃m,m<n'∧Wkn C (wr x) t2 h2 (I m)) Q) (fun e t2 h2 g' a'=>?_) t' h' hm hI.2 (round n' t' h' hI.1);cases e with
  |normal=>obtain⟨m,h1,t3,h3,hw3,h2⟩:=g';exact⟨m,h1,t3,h3,hw3,h2,wk _ _ _ _ hw3 a'⟩
  |_=>exact k _ _ _ g' a'
 |rangeFunc f ps a0 b _ _=>intro Q Q' k t h _ a g;exact g.elim
 |scope x ih=>
  intro Q Q' k t h hm a g;refine ih (Q:=noG Q) (fun e t' h' g' a'=>?_) t h hm a g;cases e with
  |goto l=>exact g'.elim
  |_=>exact k _ _ _ g' a'
 |goto l=>intro Q Q' k t h _ a g;exact g.elim
 |refuse s=>intro Q Q' k t h _ a g;exact g.elim
def mix:List Nat→Env→Env→Env
 | [],_,t=>t
 |a::ms,s,t=>upd (mix ms s t) a (s a)
@[go_sem] theorem ak(s t:Env)(i:Nat):mix [] s t i=t i:=(rfl)
@[go_sem] theorem ai(a:Nat)(ms:List Nat)(s t:Env)(i:Nat):mix (a::ms) s t i=if i=a then s a else mix ms s t i:=(rfl)
theorem yS{ms:List Nat}{s t:Env}{i:Nat}(h:i∈ms):mix ms s t i=s i:=by
 induction ms with
 |nil=>cases h
 |cons a ms ih=>
  rw[ai];split
  ·rename_i e;rw[e]
  ·rename_i e;rcases N2.1 h with h|h
   ·exact absurd h e
   ·exact ih h
theorem xg{ms:List Nat}{s t:Env}{i:Nat}(h:i ∉ ms):mix ms s t i=t i:=by
 induction ms with
 |nil=>rfl
 |cons a ms ih=>
  rw[ai];simp only[N2,not_or]at h;rw[L5 h.1];exact ih h.2
theorem Agr.mix{ms:List Nat}{s t:Env}(g:Agr ms s t):s=mix ms s t:=by
 funext i
 by_cases h:i∈ms
 ·rw[yS h]
 ·rw[xg h];exact g i h
theorem vf{c:Code}{ms:List Nat}{Q:Exit→Env→Heap→Prop}{t:Env}{h:Heap}(hms:wr c=ms)(I:Nat→Env→Heap→Prop)(n:Nat)(h0:Wkn C ms t h (I n))
  (round:∀(n':Nat) (s:Env) (h':Heap),I n' (mix ms s t) h'→∀K:Env→Heap→Prop,(∀m t2 h2,Wkn C ms t2 h2 (I m)→m<n'→K t2 h2)→WP C c (thenQ K Q) (mix ms s t) h'):WP C (.loop c) Q t h:=by
 subst hms;obtain⟨t1,h1,hw,h0⟩:=h0;refine⟨fun n t' h'=>I n t' h'∧Agr (wr c) t' t,n,⟨t1,h1,hw,h0,hw.1⟩,fun n' t' h' hI=>?_⟩;obtain⟨hI,ha⟩:=hI;have e:=ha.mix;have h1:=round n' t' h' (by rw[← e];exact hI) (fun t2 h2=>∃m,m<n'∧Wkn C (wr c) t2 h2 (I m)) (fun m t2 h2 hm hi=>⟨m,hi,hm⟩);rw[← e]at h1;refine ve (ms:=wr c) (t0:=t) c (fun e t2 h2 g' a'=>?_) t' h' (fun x hx=>hx) ha h1;cases e with
 |normal=>obtain⟨m,hm,t3,h3,hw3,hi⟩:=g';exact⟨m,hm,t3,h3,hw3,hi,fun i hi=>(hw3.1 i hi).trans (a' i hi)⟩
 |_=>exact g'
attribute [go_sem] wr wrOps
theorem mG{w:World}{S:Addr→Prop}{μ:Map}{m:MB}(hm:m.blk=none)(hv:m.ver=0):Rep w S (μ++[m]) (.hs μ.length 0 0 0 true) (.slice none 0 0):=
 .hs _ _ _ _ _ m _ (by simp) (by omega) (by intro cs h;cases h) rfl fun _=>.inl ⟨hm,rfl,rfl,rfl⟩
theorem lH{S:Addr→Prop}{μ:Map}{w:World}{B:Nat}{h:Heap}(f:Fits C B S μ h w)(e n:Nat)(hn:0<n):
  Fits C B S (μ++[⟨none,0,n,0⟩]) (h++[.row e n 0 []]) w∧Step B S μ w S (μ++[⟨none,0,n,0⟩]) w:=
 f.virtual ⟨none,0,n,0⟩ (.row e n 0 []) rfl ⟨rfl,rfl,hn,fun i r hi=>by simp at hi,fun i r j c hi=>by simp at hi,.inl ⟨rfl,rfl⟩⟩
theorem Weak.virt{ms:List Nat}{t:Env}{h:Heap}(i e n:Nat)(hi:i∈ms)(hn:0<n)(ht:t i=.nil (.slice none 0 0)):
  Weak C ms t h (upd t i (.hs h.length 0 0 0 true)) (h++[.row e n 0 []]):=by
 refine⟨fun j hj=>by simp only[upd];rw[L5];intro e;subst e;exact hj hi,fun B k S μ w a f r=>?_⟩;obtain⟨f',st⟩:=lH f e n hn;refine⟨S,_,st,f',r.1,r.2.1,fun j hj=>?_⟩;have hr:=r.2.2 j hj;simp only[upd];split
 ·rename_i e;subst e;rw[ht]at hr;generalize a.tmps.getD j undef=v at hr;cases hr;rw[← f.len];exact mG rfl rfl
 ·exact hr.mono st
def WkR(r s:AVal):Prop:=r.cells.length=s.cells.length∧∀(j:Nat) (c d:AVal),r.cells[j]? =some c→s.cells[j]? =some d→Wk c d∧(c.sto=true→d.sto=true)
theorem Weak.rows{ms:List Nat}{t:Env}{h:Heap}{p v e m:Nat}{rows:List AVal}(rows':List AVal)(hg:getRow h p v=some (e,m,rows))(hl:rows.length=rows'.length)
  (hw:∀(i:Nat) (r s:AVal),rows[i]? =some r→rows'[i]? =some s→WkR r s):Weak C ms t h t (h.set p (.row e m v rows')):=by
 refine⟨fun _ _=>rfl,fun B k S μ w a f r=>?_⟩;have hh:=dD hg;obtain⟨mb,hm,rf⟩:=f.row hg;have hset:List.set μ p mb=μ:=by
  obtain⟨hlt,he⟩:=f9.1 hm;rw[← he,List.set_getElem_self]
 have at_:∀(i:Nat) (s:AVal),rows'[i]? =some s→∃r,rows[i]? =some r∧WkR r s:=by
  intro i s hi;have hlt:=(f9.1 hi).1;exact⟨_,L9 (by omega),hw i _ s (L9 (by omega)) hi⟩
 have cat:∀(r s:AVal) (j:Nat) (d:AVal),WkR r s→s.cells[j]? =some d→∃c,r.cells[j]? =some c∧Wk c d∧(c.sto=true→d.sto=true):=by
  intro r s j d hw hj;have hlt:=(f9.1 hj).1;have hc:=L9 (show j<r.cells.length by rw[hw.1];exact hlt);exact⟨_,hc,hw.2 j _ d hc hj⟩
 have key:BlkFits w S (List.set μ p mb) mb (.row e m v rows'):=by
  rw[hset];refine⟨rf.hver,rf.hsize,rf.pos,fun i s hi=>?_,fun i s j d hi hj=>?_,?_⟩
  ·obtain⟨r,h0,h1⟩:=at_ i s hi;rw[← h1.1];exact rf.lens i r h0
  ·obtain⟨r,h0,h1⟩:=at_ i s hi;obtain⟨c,h2,_,h4⟩:=cat r s j d h1 hj;exact h4 (rf.sto i r j c h0 h2)
  ·rcases rf.lies with⟨h1,h2⟩| ⟨b,cur,h1,h2,h3,h4,h5,h6⟩
   ·subst h2;have:rows'=[]:=U4.1 (by simpa using hl.symm);exact .inl ⟨h1,this⟩
   ·refine .inr ⟨b,cur,h1,h2,h3,by omega,h5,fun i s j d hi hj=>?_⟩;obtain⟨r,h0,h7⟩:=at_ i s hi;obtain⟨c,h8,h9,_⟩:=cat r s j d h7 hj;obtain⟨x,hx,hr⟩:=h6 i r j c h0 h8;exact⟨x,hx,h9 w S μ x hr⟩
 obtain⟨f2,st2⟩:=f.update (m':=mb) (k':=.row e m v rows') hm (Only.refl w _) (M2 _) (fun _=>rfl) (.inl rfl) key;exact⟨S,_,st2,f2,r.mono st2⟩
theorem Weak.virtRows{ms:List Nat}{t:Env}{h:Heap}{p v e m:Nat}{rows:List AVal}(rows':List AVal)(e' n':Nat)(hn:0<n')(hg:getRow h p v=some (e,m,rows))(hl:rows'.length=rows.length)
  (at_:∀(i:Nat) (r':AVal),rows'[i]? =some r'→∃r0,rows[i]? =some r0∧r'.cells.length=r0.cells.length∧
    ∀(q:Nat) (c:AVal),r'.cells[q]? =some c→(r0.cells[q]? =some c)∨(c=.hs h.length 0 0 0 true∧r0.cells[q]? =some (.nil (.slice none 0 0)))):
  Weak C ms t h t (h.set p (.row e m v rows')++[.row e' n' 0 []]):=by
 refine⟨fun _ _=>rfl,fun B k S μ w a f r=>?_⟩;obtain⟨f1,st1⟩:=lH f e' n' hn;have hh:=dD hg;have hp:=(f9.1 hh).1;have hg1:getRow (h++[.row e' n' 0 []]) p v=some (e,m,rows):=qe hg;obtain⟨mb,hm,rf⟩:=f1.row hg1;have key:BlkFits w S (List.set (μ++[(⟨none,0,n',0⟩:MB)]) p mb) mb (.row e m v rows'):=by
  have hset:List.set (μ++[(⟨none,0,n',0⟩:MB)]) p mb=μ++[(⟨none,0,n',0⟩:MB)]:=by
   obtain⟨hlt,he⟩:=f9.1 hm;rw[← he,List.set_getElem_self]
  rw[hset];refine⟨rf.hver,rf.hsize,rf.pos,fun i r' hi=>?_,fun i r' q c hi hc=>?_,?_⟩
  ·obtain⟨r0,h0,h1,_⟩:=at_ i r' hi;rw[h1];exact rf.lens i r0 h0
  ·obtain⟨r0,h0,_,h2⟩:=at_ i r' hi;rcases h2 q c hc with h3| ⟨rfl,h3⟩
   ·exact rf.sto i r0 q c h0 h3
   ·rfl
  ·rcases rf.lies with⟨h1,h2⟩| ⟨b,cur,h1,h2,h3,h4,h5,h6⟩
   ·subst h2;exact .inl ⟨h1,U4.1 (by simpa using hl)⟩
   ·refine .inr ⟨b,cur,h1,h2,h3,by omega,h5,fun i r' q c hi hc=>?_⟩;obtain⟨r0,h0,_,h7⟩:=at_ i r' hi;rcases h7 q c hc with h8| ⟨rfl,h8⟩
    ·exact h6 i r0 q c h0 h8
    ·obtain⟨x,hx,hr⟩:=h6 i r0 q _ h0 h8;refine⟨x,hx,?_⟩;cases hr;rw[← f.len];exact mG rfl rfl
 obtain⟨f2,st2⟩:=f1.update (m':=mb) (k':=.row e m v rows') hm (Only.refl w _) (M2 _) (fun _=>rfl) (.inl rfl) key;rw[List.set_append_left _ _ hp]at f2;exact⟨S,_,st1.trans st2,f2,r.mono (st1.trans st2)⟩
theorem Weak.virtCell{ms:List Nat}{t:Env}{h:Heap}{p v e m:Nat}{cs:List AVal}(e' n':Nat)(hn:0<n')(hg:getRow h p v=some (e,m,[.agg cs]))(j:Nat)(hj:cs[j]? =some (.nil (.slice none 0 0))):
  Weak C ms t h t (h.set p (.row e m v [.agg (cs.set j (.hs h.length 0 0 0 true))])++[.row e' n' 0 []]):=by
 refine Weak.virtRows _ e' n' hn hg rfl fun i r' hi=>?_
 match i with
 |0=>
  simp only[T8,P1]at hi;subst hi;refine⟨_,rfl,by simp[AVal.cells],fun q c hc=>?_⟩;simp only[AVal.cells]at hc ⊢;by_cases hq:j=q
  ·subst hq;rw[P6 (f9.1 hj).1]at hc;cases hc;exact .inr ⟨rfl,hj⟩
  ·rw[S7 hq]at hc;exact .inl hc
 |i+1=>simp at hi
theorem Weak.virtCell1{ms:List Nat}{t:Env}{h:Heap}{p v e m:Nat}(e' n':Nat)(hn:0<n')(hg:getRow h p v=some (e,m,[.nil (.slice none 0 0)])):
  Weak C ms t h t (h.set p (.row e m v [.hs h.length 0 0 0 true])++[.row e' n' 0 []]):=by
 refine Weak.virtRows _ e' n' hn hg rfl fun i r' hi=>?_
 match i with
 |0=>
  simp only[T8,P1]at hi;subst hi;refine⟨_,rfl,rfl,fun q c hc=>?_⟩
  match q with
  |0=>simp[AVal.cells]at hc;subst hc;exact .inr ⟨rfl,rfl⟩
  |q+1=>simp[AVal.cells]at hc
 |i+1=>simp at hi
end
section
variable {C:Ctx} {B n:Nat} {S:Addr→Prop} {μ:Map} {h:Heap} {w w':World} {t:Env} {a:Act} {K:AVal→Heap→Prop}
theorem Fits.grown(f:Fits C B S μ h w)(b:Below w.heap.size w w'):Fits C B S μ h w'∧Step B S μ w S μ w':=by
 have hk:∀k,k<w.heap.size→w'.heap[k]? =w.heap[k]? :=fun k hk=>b.block k hk
 have st:Step B S μ w S μ w':=⟨fun _ ha=>ha,fun a ha=>World.cell?_of_block (hk _ (f.lie a ha)),b.mono f.base,MapLe.refl _,fun _ ha=>.inl ha⟩
 exact⟨⟨fun g cs hg=>(f.glob g cs hg).mono st,f.len,f.sep,fun p m k h1 e1=>by
  obtain⟨a1,a2,a3⟩:=f.own p m k h1 e1;exact⟨a1,Y5 a2 b.size,a3⟩,R1 f.base b.size,fun a ha=>Y5 (f.lie a ha) b.size,
  fun p m k h1 h2=>(f.blk p m k h1 h2).mono st fun q hq=>hk q (f.own p m q h1 hq).2.1⟩,st⟩
theorem mH{T len e n:Nat}{idx:List Nat}{xs:List AVal}{k:AVal→Heap→Prop}(he:elmT C.P T=some e)(hn:szOf C.P e=some n)(hz:(zroT C.P e).map (fun z=>(z.cells.length,z.cells.all AVal.sto))=some (n,true))
  (hl:xs.length=len)(h0:0<len)(h1:0<n)(hb:len*n≤16777216)(hi:idx=List.range len)(hx:xs.all (fun x=>decide (x.cells.length=n)&&x.lies)=true)(hk:k (.sl n xs) h):rowsK C T len idx xs h k:=by
 unfold rowsK;rw[he,bc,hn,bc,L5 (by omega)];refine⟨hl,h0,h1,hb,hi,hz,fun x hm=>?_,.inr hk⟩;have:=P8.1 hx x hm;simpa using this
theorem vg{T len e n:Nat}{idx:List Nat}{xs:List AVal}{k:AVal→Heap→Prop}(he:elmT C.P T=some e)(hn:szOf C.P e=some n)(hz:(zroT C.P e).map (fun z=>(z.cells.length,z.cells.all AVal.sto))=some (n,true))
  (hl:xs.length=len)(h0:0<len)(h1:0<n)(hb:len*n≤16777216)(hi:idx=List.range len)(hx:xs.all (fun x=>decide (x.cells.length=n)&&x.lies)=true)(hk:k (.hs h.length 0 0 len true) (h++[.row e n 0 xs])):rowsK C T len idx xs h k:=by
 unfold rowsK;rw[he,bc,hn,bc,L5 (by omega)];refine⟨hl,h0,h1,hb,hi,hz,fun x hm=>?_,.inl hk⟩;have:=P8.1 hx x hm;simpa using this
theorem vh{T len e n:Nat}{idx:List Nat}{xs:List AVal}{k:AVal→Prop}(he:elmT C.P T=some e)(hn:szOf C.P e=some n)(hz:(zroT C.P e).map (fun z=>(z.cells.length,z.cells.all AVal.sto))=some (n,true))
  (hl:xs.length=len)(h0:0<len)(h1:0<n)(hb:len*n≤16777216)(hi:idx=List.range len)(hx:xs.all (fun x=>decide (x.cells.length=n)&&x.lies)=true)(hk:k (.sl n xs)):rowsV C T len idx xs k:=by
 unfold rowsV;rw[he,bc,hn,bc,L5 (by omega)];refine⟨hl,h0,h1,hb,hi,hz,fun x hm=>?_,hk⟩;have:=P8.1 hx x hm;simpa using this
def plainV:AVal→Option Value
 | .int k n=>some (.int k n)
 | .bool b=>some (.bool b)
 | .str s=>some (.string ⟨s.toArray⟩)
 |_=>none
def plainL:List AVal→Option (List Value)
 | []=>some []
 |x::l=>match plainV x,plainL l with|some v,some vs=>some (v::vs)|_,_=>none
theorem qi{x:AVal}{v u:Value}(g:plainV x=some v)(r:Rep w S μ x u):u=v:=by
 unfold plainV at g;split at g
 ·cases g;exact r.int_inv
 ·cases g;exact r.bool_inv
 ·cases g;exact r.str_inv
 ·cases g
theorem lI{x:AVal}{v:Value}(g:plainV x=some v):Rep w S μ x v:=by
 unfold plainV at g;split at g
 ·cases g;exact .int _ _
 ·cases g;exact .bool _
 ·cases g;exact .str _
 ·cases g
theorem jO:∀{xs:List AVal} {vs us:List Value},plainL xs=some vs→RepL w S μ xs us→us=vs
 | [],vs,us,g,r=>by
  cases g;have h1:=r.1;simpa using h1
 |x::l,vs,us,g,r=>by
  unfold plainL at g;split at g
  ·rename_i v vs' h1 h2;cases g;obtain⟨hl,hr⟩:=r
   match us,hl,hr with
   |u::us,hl,hr=>
    have e1:=qi h1 (by simpa using hr 0 x rfl);have e2:=jO (us:=us) h2 ⟨by simpa using hl,fun i y hi=>by simpa using hr (i+1) y (by simpa using hi)⟩;rw[e1,e2]
  ·cases g
theorem lJ(w:World)(S:Addr→Prop)(μ:Map):∀{xs:List AVal} {vs:List Value},plainL xs=some vs→RepL w S μ xs vs
 | [],vs,g=>by cases g;exact⟨rfl,fun i x hi=>by simp at hi⟩
 |x::l,vs,g=>by
  unfold plainL at g;split at g
  ·rename_i v vs' h1 h2;cases g;have ih:=lJ w S μ h2;refine⟨by simp[ih.1],fun i y hi=>?_⟩
   match i with
   |0=>simp at hi;subst hi;simpa using lI h1
   |i+1=>simpa using ih.2 i y (by simpa using hi)
  ·cases g
def plainR:AVal→Option Value
 | .tup l=>(plainL l).map fun vs=>.tuple vs.toArray
 |x=>plainV x
theorem sI{x:AVal}{v:Value}(g:plainR x=some v):Rep w S μ x v:=by
 unfold plainR at g;split at g
 ·obtain⟨vs,hv,rfl⟩:=N1.1 g;have:=lJ w S μ hv;exact .tup _ vs this.1 this.2
 ·exact lI g
theorem Sat.of_calls{f:FuncId}{fn:Func}{args:List AVal}{vs:List Value}{r:AVal}{v:Value}(hf:C.P.funcs[f]? =some fn)(hb:fn.body.isNone=false)(hname:(fn.name== "runtime.NumGoroutine")=false)
  (ha:plainL args=some vs)(hr:plainR r=some v)(hc:∀B S μ w,Fits C B S μ h w→Calls C.P f vs.toArray w fun e w'=>e=.returned v∧Below w.heap.size w w'):Sat C f args h (fun r' h'=>r'=r∧h'=h):=by
 intro B S μ w us fit rl;obtain rfl:=jO ha rl;have e:(callFunc f us.toArray).run C.P w=.ok (.enter f us.toArray) w:=by
  have hne:fn.name≠ "runtime.NumGoroutine" :=by simpa using hname
  obtain⟨c,hbc⟩:∃c,fn.body=some c:=by cases hq:fn.body with|none=>simp[hq]at hb|some c=>exact⟨c,rfl⟩
  simp[callFunc,hf,hne,hbc]
 rw[e];refine(hc B S μ w fit).mono fun e' w' ⟨he,hw⟩=>⟨v,he,?_⟩
 obtain⟨f',st⟩:=fit.grown hw;exact⟨r,h,S,μ,⟨rfl,rfl⟩,st,f',sI hr⟩
theorem Sat.of_extern{f:FuncId}{fn:Func}{ex:Array Value→Sem Value}{args:List AVal}{R:AVal→Heap→Prop}(hf:C.P.funcs[f]? =some fn)(hname:(fn.name== "runtime.NumGoroutine")=false)
  (hb:fn.body.isNone=true)(hn:Extern.findNext fn=none)(he:Extern.find fn=some ex)
  (hc:∀B S μ w vs,Fits C B S μ h w→RepL w S μ args vs→∃v w',(ex vs.toArray).run C.P w=.ok v w'∧OpPost C B S μ w R v w'):Sat C f args h R:=by
 intro B S μ w vs fit rl;obtain⟨v,w',hr,hp⟩:=hc B S μ w vs fit rl;rw[run_callFunc_extern hf hname hb hn he];simp[N6,hr];exact hp
theorem Fin.plainE{h0 h1 j:Heap}{R:AVal→Heap→Prop}{r:AVal}(hh:h1=h0++j)(hc:Clo h0.length r)(hR:R r h0):Fin h0 h1 R r:=by
 subst hh;exact L6 hc hR
theorem Fin.keep{h0 h1 j:Heap}{R:AVal→Heap→Prop}{r:AVal}(hl:h1.length=h0.length)(hk:∀(p:Nat) (k:Blk),h1[p]? =some k→h0[p]? =some k∨CloB h0.length k)(hc:Clo h0.length r)(hR:R r h1):Fin h0 (h1++j) R r:=by
 refine⟨h0.length,r,M2 _,.clo _ hc,.inr fun p k hp h2=>?_,by rw[U3 hl];exact hR⟩;rw[M6 (by omega)]at h2;rcases hk p k h2 with h3|h3
 ·exact .inl ⟨hp,h3⟩
 ·exact .inr h3
theorem Fin.keep0{h0 h1:Heap}{R:AVal→Heap→Prop}{r:AVal}(hl:h1.length=h0.length)(hk:∀(p:Nat) (k:Blk),h1[p]? =some k→h0[p]? =some k∨CloB h0.length k)(hc:Clo h0.length r)(hR:R r h1):Fin h0 h1 R r:=by
 have:=Fin.keep (j:=[]) hl hk hc hR;simpa using this
theorem Fin.keepF{h0 h1 j:Heap}{R:AVal→Heap→Prop}{r0 r:AVal}(hl:h1.length=h0.length)(hk:∀(p:Nat) (k:Blk),h1[p]? =some k→h0[p]? =some k∨CloB h0.length k)(hc:Frz (h1++j) h0.length r0 r)(hR:R r h1):Fin h0 (h1++j) R r0:=by
 refine⟨h0.length,r,M2 _,hc,.inr fun p k hp h2=>?_,by rw[U3 hl];exact hR⟩;rw[M6 (by omega)]at h2;rcases hk p k h2 with h3|h3
 ·exact .inl ⟨hp,h3⟩
 ·exact .inr h3
end
abbrev ML(κ α:Type):=List (κ×α×Nat)
def encM{κ α:Type}(ek:κ→AVal)(ev:α→AVal)(l:ML κ α):List (AVal×AVal×Nat):=l.map fun e=>(ek e.1,ev e.2.1,e.2.2)
def iA(n:Int):AVal:=.int .i64 n
def nA(n:Int×List UInt8):AVal:=.agg [.int .i64 n.1,.str n.2]
section
variable {κ α:Type} [DecidableEq κ]
def ixM:ML κ α→κ→Option Nat
 | [],_=>none
 |e::l,x=>if x=e.1 then some 0 else(ixM l x).map (· +1)
def lkM:ML κ α→κ→Option α
 | [],_=>none
 |e::l,x=>if x=e.1 then some e.2.1 else lkM l x
def upM:ML κ α→Nat→κ→α→ML κ α
 | [],c,x,a=>[(x,a,c)]
 |e::l,c,x,a=>if x=e.1 then(x,a,e.2.2)::l else e::upM l c x a
def dlM:ML κ α→κ→ML κ α
 | [],_=>[]
 |e::l,x=>if x=e.1 then l else e::dlM l x
def ckM(l:ML κ α)(c:Nat)(x:κ):Nat:=if (lkM l x).isSome then c else c+1
theorem yT(l:ML κ α)(x:κ):(ixM l x).isSome=(lkM l x).isSome:=by
 induction l with
 |nil=>rfl
 |cons e l ih=>simp only[ixM,lkM];split<;>simp[ih]
theorem aI(l:ML κ α)(c:Nat)(x:κ)(a:α)(y:κ):lkM (upM l c x a) y=if y=x then some a else lkM l y:=by
 induction l with
 |nil=>simp[upM,lkM]
 |cons e l ih=>
  simp only[upM,lkM];by_cases h:x=e.1
  ·subst h;simp only[if_true,lkM];split<;>rfl
  ·rw[L5 h];simp only[lkM,ih];by_cases hy:y=e.1
   ·subst hy;rw[M1 rfl,M1 rfl,L5 (fun e=>h e.symm)]
   ·rw[L5 hy,L5 hy]
theorem mI{l:ML κ α}{x:κ}(h:x ∉ l.map (·.1)):lkM l x=none:=by
 induction l with
 |nil=>rfl
 |cons e l ih=>
  simp only[N7,N2,not_or]at h;rw[lkM,L5 h.1,ih h.2]
theorem cO{l:ML κ α}{x:κ}{a:α}(h:lkM l x=some a):∃b,(x,a,b)∈l:=by
 induction l with
 |nil=>cases h
 |cons e l ih=>
  rw[lkM]at h;split at h
  ·rename_i hx;cases h;subst hx;exact⟨_,W7 ..⟩
  ·obtain⟨b,hb⟩:=ih h;exact⟨b,V7 _ hb⟩
theorem bI{l:ML κ α}(hn:(l.map (·.1)).Nodup){x:κ}{a:α}{b:Nat}(h:(x,a,b)∈l):lkM l x=some a:=by
 induction l with
 |nil=>cases h
 |cons e l ih=>
  rw[N7,U8]at hn;rcases N2.1 h with h|h
  ·subst h;rw[lkM,M1 rfl]
  ·rw[lkM,L5,ih hn.2 h];intro he;exact hn.1 (N0.2 ⟨_,h,he⟩)
theorem cK{l:ML κ α}(hn:(l.map (·.1)).Nodup)(x y:κ):lkM (dlM l x) y=if y=x then none else lkM l y:=by
 induction l with
 |nil=>simp[dlM,lkM]
 |cons e l ih=>
  rw[N7,U8]at hn;simp only[dlM];by_cases h:x=e.1
  ·subst h;rw[M1 rfl];by_cases hy:y=e.1
   ·subst hy;rw[M1 rfl,mI hn.1]
   ·rw[L5 hy,lkM,L5 hy]
  ·rw[L5 h];simp only[lkM,ih hn.2];by_cases hy:y=e.1
   ·subst hy;rw[M1 rfl,M1 rfl,L5 (fun e=>h e.symm)]
   ·rw[L5 hy,L5 hy]
theorem iC(l:ML κ α)(c:Nat)(x:κ)(a:α):(upM l c x a).length=if (lkM l x).isSome then l.length else l.length+1:=by
 induction l with
 |nil=>rfl
 |cons e l ih=>
  simp only[upM,lkM];split
  ·simp
  ·rw[M8,ih];split<;>simp
theorem xh{l:ML κ α}{x:κ}{e:κ×α×Nat}(h:e∈dlM l x):e∈l:=by
 induction l with
 |nil=>exact h
 |cons d l ih=>
  simp only[dlM]at h;split at h
  ·exact V7 _ h
  ·rcases N2.1 h with h|h
   ·rw[h];exact W7 ..
   ·exact V7 _ (ih h)
theorem iD(l:ML κ α)(x:κ):(dlM l x).Sublist l:=by
 induction l with
 |nil=>exact .slnil
 |cons d l ih=>
  simp only[dlM];split
  ·exact List.sublist_cons_self ..
  ·exact ih.cons_cons _
structure WFM (l:ML κ α) (c:Nat):Prop where
 keys:(l.map (·.1)).Nodup
 borns:(l.map (·.2.2)).Nodup
 lt:∀e∈l,e.2.2<c
theorem WFM.nil:WFM ([]:ML κ α) 0:=⟨by simp,by simp,fun e h=>by cases h⟩
theorem mJ(l:ML κ α)(c:Nat)(x:κ)(a:α):(upM l c x a).map (·.1)=if (lkM l x).isSome then l.map (·.1)else l.map (·.1)++[x]:=by
 induction l with
 |nil=>rfl
 |cons e l ih=>
  simp only[upM,lkM];split
  ·rename_i h;subst h;simp
  ·rw[N7,ih];split<;>simp
theorem fm(l:ML κ α)(c:Nat)(x:κ)(a:α):(upM l c x a).map (·.2.2)=if (lkM l x).isSome then l.map (·.2.2)else l.map (·.2.2)++[c]:=by
 induction l with
 |nil=>rfl
 |cons e l ih=>
  simp only[upM,lkM];split
  ·rename_i h;subst h;simp
  ·rw[N7,ih];split<;>simp
theorem iE{l:ML κ α}{x:κ}(h:(lkM l x).isSome=false):x ∉ l.map (·.1):=by
 induction l with
 |nil=>simp
 |cons e l ih=>
  rw[lkM]at h;split at h
  ·cases h
  ·rename_i hx;simp only[N7,N2,not_or];exact⟨hx,ih h⟩
theorem WFM.up{l:ML κ α}{c:Nat}(w:WFM l c)(x:κ)(a:α):WFM (upM l c x a) (ckM l c x):=by
 cases h:(lkM l x).isSome with
 |true=>
  refine⟨by rw[mJ,h];exact w.keys,by rw[fm,h];exact w.borns,fun e he=>?_⟩;have:e.2.2∈ (upM l c x a).map (·.2.2):=N0.2 ⟨e,he,rfl⟩;rw[fm,h,M1 rfl]at this;obtain⟨d,hd,hq⟩:=N0.1 this;rw[ckM,h,M1 rfl, ← hq];exact w.lt d hd
 |false=>
  refine⟨?_,?_,fun e he=>?_⟩
  ·rw[mJ,h];simp only[Q3,if_false];rw[List.nodup_append];exact⟨w.keys,by simp,fun y hy z hz=>by simp at hz;subst hz;intro e;subst e;exact iE h hy⟩
  ·rw[fm,h];simp only[Q3,if_false];rw[List.nodup_append];exact⟨w.borns,by simp,fun y hy z hz=>by
    simp at hz;subst hz;intro e;subst e;obtain⟨d,hd,hq⟩:=N0.1 hy;have:=w.lt d hd;omega⟩
  ·have:e.2.2∈ (upM l c x a).map (·.2.2):=N0.2 ⟨e,he,rfl⟩;rw[fm,h]at this;simp only[Q3,if_false,T4,Y6]at this;rw[ckM,h];simp only[Q3,if_false];rcases this with h1|h1
   ·obtain⟨d,hd,hq⟩:=N0.1 h1;have:=w.lt d hd;omega
   ·omega
theorem WFM.dl{l:ML κ α}{c:Nat}(w:WFM l c)(x:κ):WFM (dlM l x) c:=
 ⟨((iD l x).map _).nodup w.keys,((iD l x).map _).nodup w.borns,fun e he=>w.lt e (xh he)⟩
variable {P:Program} {kt:TypeId} {ek:κ→AVal} {ev:α→AVal}
theorem vj(hk:∀x y,akey P kt (ek x) (ek y)=some (decide (x=y)))(x:κ)(l:ML κ α):∀i,findA P kt (ek x) (encM ek ev l) i=some ((ixM l x).map (· +i)):=by
 induction l with
 |nil=>intro i;rfl
 |cons e l ih=>
  intro i;have hh:=hk x e.1;simp only[encM,N7,findA,hh,ixM];by_cases h:x=e.1
  ·rw[O4 h];simp[M1 h]
  ·rw[O0 h,L5 h];have:=ih (i+1);rw[encM]at this;simp only[this,Option.map_map];congr 2
   funext j;simp;omega
theorem i8(hk:∀x y,akey P kt (ek x) (ek y)=some (decide (x=y)))(x:κ)(l:ML κ α):findA P kt (ek x) (encM ek ev l) 0=some (ixM l x):=by
 rw[vj hk];simp
theorem yU(h:kindT P kt=0)(x y:Int):akey P kt (iA x) (iA y)=some (decide (x=y)):=by
 simp only[akey,iA,h,aeq1,if_true,P1];rw[O9];simp
theorem yV(h:kindT P kt=2)(x y:List UInt8):akey P kt (.str x) (.str y)=some (decide (x=y)):=by
 simp only[akey,h,aeq1,P1];rw[O9];simp
theorem yW(h:plainT P kt=some [0,2])(x y:Int×List UInt8):akey P kt (nA x) (nA y)=some (decide (x=y)):=by
 simp only[akey,nA,h,Option.bind_some,aeqL,aeq1,if_true,R4,P1,Bool.and_true];rw[O9];obtain⟨a,b⟩:=x;obtain⟨c,d⟩:=y;simp
@[go_sem] theorem Ja{l:ML Int α}(h:kindT P kt=0)(x:Int):findA P kt (.int .i64 x) (encM iA ev l) 0=some (ixM l x):=i8 (ek:=iA) (yU h) x l
@[go_sem] theorem Jb{l:ML (List UInt8) α}(h:kindT P kt=2)(x:List UInt8):findA P kt (.str x) (encM AVal.str ev l) 0=some (ixM l x):=i8 (ek:=AVal.str) (yV h) x l
@[go_sem] theorem Jc{l:ML (Int×List UInt8) α}(h:plainT P kt=some [0,2])(a:Int)(b:List UInt8):findA P kt (.agg [.int .i64 a,.str b]) (encM nA ev l) 0=some (ixM l (a,b)):=i8 (ek:=nA) (yW h) (a,b) l
@[go_sem] theorem Jd(h:kindT P kt=0)(x:Int):keyA P kt (.int .i64 x)=true:=by simp[keyA,keyT,akey,h,aeq1]
@[go_sem] theorem Je(h:kindT P kt=2)(x:List UInt8):keyA P kt (.str x)=true:=by simp[keyA,keyT,akey,h,aeq1]
@[go_sem] theorem Jf(h:plainT P kt=some [0,2])(a:Int)(b:List UInt8):keyA P kt (.agg [.int .i64 a,.str b])=true:=by simp[keyA,keyT,akey,h,aeqL,aeq1]
def v1(z:AVal)(ev:α→AVal):Option α→AVal
 |some a=>ev a
 |none=>z
def vM(ok:Bool)(z:AVal)(ev:α→AVal)(o:Option α):AVal:=if ok then .tup [v1 z ev o,.bool o.isSome]else v1 z ev o
@[go_sem] theorem Ks(z:AVal)(ev:α→AVal)(o:Option α):vM true z ev o=.tup [v1 z ev o,.bool o.isSome]:=(rfl)
@[go_sem] theorem Ku(z:AVal)(ev:α→AVal)(o:Option α):vM false z ev o=v1 z ev o:=(rfl)
@[go_sem] theorem H1(z:AVal)(ev:α→AVal)(a:α):v1 z ev (some a)=ev a:=(rfl)
@[go_sem] theorem H2(z:AVal)(ev:α→AVal):v1 z ev none=z:=(rfl)
theorem mK{z:AVal}{ev:α→AVal}{d:α}(h:ev d=z)(o:Option α):v1 z ev o=ev (o.getD d):=by cases o<;>simp[v1,h]
@[go_sem] theorem Kv(d:Int)(o:Option Int):v1 (.int .i64 d) iA o=.int .i64 (o.getD d):=mK rfl o
theorem yX(ok:Bool)(z:AVal)(l:ML κ α)(x:κ):gotA ok z ((ixM l x).bind fun i=>(encM ek ev l)[i]?)=vM ok z ev (lkM l x):=by
 induction l with
 |nil=>cases ok<;>rfl
 |cons e l ih=>
  simp only[ixM,lkM];split
  ·cases ok<;>simp[encM,gotA,vM,v1]
  ·rw[Option.bind_map];simp only[encM,N7]at ih ⊢;exact ih
attribute [go_sem] yX
theorem qj(c:Nat)(l:ML κ α)(x:κ)(a:α):putM (encM ek ev l) c (ek x) (ev a) (ixM l x)=.mp (encM ek ev (upM l c x a)) (ckM l c x):=by
 have h1:∀l:ML κ α,(match ixM l x with|some i=>(encM ek ev l).modify i fun e=>(ek x,ev a,e.2.2)|none=>encM ek ev l++[(ek x,ev a,c)])=encM ek ev (upM l c x a):=by
  intro l;induction l with
  |nil=>rfl
  |cons e l ih=>
   simp only[ixM,upM];split
   ·rename_i h;split at h
    ·cases h;rename_i hx;rw[M1 hx];rfl
    ·rename_i hx;rw[L5 hx];cases hi:ixM l x with
     |none=>rw[hi]at h;cases h
     |some j=>
      rw[hi]at h ih;simp at h;subst h;simp only[encM,N7,List.modify_succ_cons]at ih ⊢;rw[ih]
   ·rename_i h;split at h
    ·cases h
    ·rename_i hx;rw[L5 hx];cases hi:ixM l x with
     |some j=>rw[hi]at h;cases h
     |none=>
      rw[hi]at ih;simp only[encM,N7,W4]at ih ⊢;rw[ih]
 have h2:=yT l x;have h3:=h1 l;cases hi:ixM l x with
 |some i=>rw[hi]at h2 h3;simp only[Option.isSome_some]at h2;simp only[putM,ckM, ← h2,if_true];rw[← h3]
 |none=>rw[hi]at h2 h3;simp only[Option.isSome_none]at h2;simp only[putM,ckM, ← h2];rw[← h3];rfl
theorem Bo(c:Nat)(l:ML κ α)(x:κ):delM (encM ek ev l) c (ixM l x)=.mp (encM ek ev (dlM l x)) c:=by
 have h1:∀l:ML κ α,(match ixM l x with|some i=>(encM ek ev l).eraseIdx i|none=>encM ek ev l)=encM ek ev (dlM l x):=by
  intro l;induction l with
  |nil=>rfl
  |cons e l ih=>
   simp only[ixM,dlM];by_cases hx:x=e.1
   ·rw[M1 hx,M1 hx];rfl
   ·rw[L5 hx,L5 hx];cases hi:ixM l x with
    |none=>rw[hi]at ih;simp only[encM,N7,Option.map_none]at ih ⊢;rw[← ih]
    |some j=>rw[hi]at ih;simp only[encM,N7,R4,List.eraseIdx_cons_succ]at ih ⊢;rw[ih]
 have h3:=h1 l;cases hi:ixM l x with
 |some i=>rw[hi]at h3;simp only[delM];rw[← h3]
 |none=>rw[hi]at h3;simp only[delM];rw[← h3]
attribute [go_sem] Bo
def alenM:Option (TypeId×TypeId)→Option (List (AVal×AVal×Nat)×Nat)→Option Nat
 |some _,some r=>some r.1.length
 |_,_=>none
@[go_sem] theorem H3(P:Program)(h:Heap)(T:TypeId)(p:Nat):alen P h T (.hm p)=alenM (mapT P T) (mapAt h p):=by
 simp only[alen];cases mapT P T with
 |none=>rfl
 |some q=>cases mapAt h p<;>rfl
@[go_sem] theorem H4(q:TypeId×TypeId)(r:List (AVal×AVal×Nat))(c:Nat):alenM (some q) (some (r,c))=some r.length:=(rfl)
@[go_sem] theorem Fx(l:ML κ α):(encM ek ev l).length=l.length:=L8 ..
theorem jg{v:AVal}(c:Nat)(l:ML Int α)(x:Int)(a:α)(h:ev a=v):putM (encM iA ev l) c (.int .i64 x) v (ixM l x)=.mp (encM iA ev (upM l c x a)) (ckM l c x):=by subst h;exact qj (ek:=iA) c l x a
theorem Fy{v:AVal}(c:Nat)(l:ML (List UInt8) α)(x:List UInt8)(a:α)(h:ev a=v):putM (encM AVal.str ev l) c (.str x) v (ixM l x)=.mp (encM AVal.str ev (upM l c x a)) (ckM l c x):=by subst h;exact qj (ek:=AVal.str) c l x a
theorem FA{v:AVal}(c:Nat)(l:ML (Int×List UInt8) α)(x:Int)(y:List UInt8)(a:α)(h:ev a=v):putM (encM nA ev l) c (.agg [.int .i64 x,.str y]) v (ixM l (x,y))=.mp (encM nA ev (upM l c (x,y) a)) (ckM l c (x,y)):=by subst h;exact qj (ek:=nA) c l (x,y) a
@[go_sem] theorem JJ(c:Nat)(l:ML Int Int)(x a:Int):putM (encM iA iA l) c (.int .i64 x) (.int .i64 a) (ixM l x)=.mp (encM iA iA (upM l c x a)) (ckM l c x):=jg c l x a rfl
@[go_sem] theorem JK(c:Nat)(l:ML (List UInt8) Int)(x:List UInt8)(a:Int):putM (encM AVal.str iA l) c (.str x) (.int .i64 a) (ixM l x)=.mp (encM AVal.str iA (upM l c x a)) (ckM l c x):=Fy c l x a rfl
@[go_sem] theorem JL(c:Nat)(l:ML (Int×List UInt8) Int)(x:Int)(y:List UInt8)(a:Int):putM (encM nA iA l) c (.agg [.int .i64 x,.str y]) (.int .i64 a) (ixM l (x,y))=.mp (encM nA iA (upM l c (x,y) a)) (ckM l c (x,y)):=FA c l x y a rfl
@[go_sem] theorem Jg(k:IntKind)(n:Int):softA (.int k n)=.int k n:=(rfl)
@[go_sem] theorem FB(cs:List AVal):softA (.agg cs)=.agg (cs.map soft1):=(rfl)
@[go_sem] theorem H5(k:IntKind)(n:Int):soft1 (.int k n)=.int k n:=(rfl)
@[go_sem] theorem H6(s:List UInt8):soft1 (.str s)=.str s:=(rfl)
@[go_sem] theorem H7(b:Bool):soft1 (.bool b)=.bool b:=(rfl)
@[go_sem] theorem H8:soft1 (.nil (.slice none 0 0))=.sl 1 []:=(rfl)
@[go_sem] theorem H9(n:Nat)(l:List AVal):soft1 (.sl n l)=.sl n l:=(rfl)
def leftM(l:ML κ α)(seen:List Nat):Nat:=(l.filter fun e=>decide (e.2.2 ∉ seen)).length
theorem vk{h:Heap}{p q c:Nat}{seen:List Nat}{l:ML κ α}{k:AVal→Heap→Prop}(hh:h[p]? =some (.mit q c seen c))(hm:mapAt h q=some (encM ek ev l,c))(hb:∀e∈l,e.2.2<c)
  (h1:∀e∈l,e.2.2 ∉ seen→k (.tup [.bool true,ek e.1,ev e.2.1]) (h.set p (.mit q c (seen++[e.2.2]) c)))
  (h2:(∀e∈l,e.2.2∈seen)→k (.tup [.bool false]) h):nextMK (.hp p 0 0 0) h k:=by
 simp only[nextMK,hh,hm,bc];refine⟨?_,fun e he hs=>?_,fun hn=>h2 fun e he=>?_⟩
 ·cases l with
  |nil=>simp[encM]
  |cons e l=>
   have:=hb e (W7 ..);simp only[encM,N7,List.all_cons];rw[O0 (by omega)];simp
 ·obtain⟨d,hd,rfl⟩:=N0.1 he;exact h1 d hd hs
 ·apply R7
  intro hs;have:=hn (ek e.1,ev e.2.1,e.2.2) (N0.2 ⟨e,he,rfl⟩) hs;have:=hb e he;simp at *;omega
theorem vl{h:Heap}{p q c since:Nat}{seen:List Nat}{l:ML κ α}{e:κ×α×Nat}{k:AVal→Prop}(hh:h[p]? =some (.mit q since (seen++[e.2.2]) c))(hm:mapAt h q=some (encM ek ev l,c))(w:WFM l c)(he:e∈l)
  (hk:k (.tup [ek e.1,ev e.2.1])):entryK (.hp p 0 0 0) h k:=by
 have:(encM ek ev l).find? (fun d=>d.2.2==e.2.2)=some (ek e.1,ev e.2.1,e.2.2):=by
  have hb:=w.borns;clear w hm;induction l with
  |nil=>cases he
  |cons d l ih=>
   rw[N7,U8]at hb;rw[encM,N7,za9];rcases N2.1 he with rfl|he
   ·simp
   ·have:d.2.2≠e.2.2:=fun q=>hb.1 (N0.2 ⟨e,he,q.symm⟩)
    simp only[beq_eq_false_iff_ne.2 this];exact ih he hb.2
 simp only[entryK,hh,hm,bc,this,List.getLast?_append,List.getLast?_singleton,Option.some_or];exact⟨trivial,hk⟩
theorem mL{l l':ML κ α}{seen:List Nat}{e:κ×α×Nat}(he:e∈l)(hs:e.2.2 ∉ seen)(hsub:l'.Sublist l):leftM l' (seen++[e.2.2])<leftM l seen:=by
 unfold leftM;have h1:(l'.filter fun d=>decide (d.2.2 ∉ seen++[e.2.2])).length≤(l.filter fun d=>decide (d.2.2 ∉ seen++[e.2.2])).length:=(hsub.filter _).length_le;have h2:∀l:ML κ α,e∈l→(l.filter fun d=>decide (d.2.2 ∉ seen++[e.2.2])).length<(l.filter fun d=>decide (d.2.2 ∉ seen)).length:=by
  intro l;have le:∀l:ML κ α,(l.filter fun d=>decide (d.2.2 ∉ seen++[e.2.2])).length≤(l.filter fun d=>decide (d.2.2 ∉ seen)).length:=by
   intro l;induction l with
   |nil=>simp
   |cons d l ih=>
    simp only[S8];by_cases h:d.2.2∈seen
    ·rw[O0 (by simp[h]),O0 (by simp[h])];exact ih
    ·rw[O4 (p:=d.2.2 ∉ seen) h];split
     ·simp only[if_true,M8];omega
     ·simp only[if_true,M8];omega
  induction l with
  |nil=>intro h;cases h
  |cons d l ih=>
   intro h;simp only[S8];rcases N2.1 h with h|h
   ·subst h;rw[O0 (by simp),O4 (p:=e.2.2 ∉ seen) hs];have:=le l;simp only[if_true,M8,Q3,if_false];omega
   ·have:=ih h;by_cases hd:d.2.2∈seen
    ·rw[O0 (by simp[hd]),O0 (by simp[hd])];exact this
    ·rw[O4 (p:=d.2.2 ∉ seen) hd];split
     ·simp only[if_true,M8];omega
     ·simp only[if_true,M8];omega
 have:=h2 l he;omega
end
end Go.Av
namespace Go.Av
attribute [go_sem] Nat.le_refl Bool.false_or Bool.true_or Bool.false_and lD Int.natCast_nonneg Int.ofNat_lt Int.ofNat_le Bool.not_true Bool.not_false
attribute [go_sem ↓] v7 o0 List.getElem?_cons_succ List.getElem?_cons_zero
def condK(c:AVal)(a b:Prop):Prop:=match c with| .bool q=>(q=true→a)∧(q=false→b)|_=>False
structure Went (a:Prop):Prop where
 go:a
@[congr] theorem Bp(a:Prop):Went a=Went a:=rfl
@[congr] theorem AR{c c':AVal}{a b:Prop}(e:c=c'):condK c a b=condK c' a b:=by rw[e]
@[go_sem] theorem Ha(a b:Prop):condK (.bool true) a b=Went a:=propext ⟨fun h=>⟨h.1 rfl⟩,fun h=>⟨fun _=>h.go,fun e=>Bool.noConfusion e⟩⟩
@[go_sem] theorem Hb(a b:Prop):condK (.bool false) a b=Went b:=propext ⟨fun h=>⟨h.2 rfl⟩,fun h=>⟨fun e=>Bool.noConfusion e,fun _=>h.go⟩⟩
theorem vm{C:Ctx}{t:Env}{h:Heap}{c:Operand}{x y:Code}{Q:Exit→Env→Heap→Prop}(g:condK (aev C.G t c) (WP C x Q t h) (WP C y Q t h)):WP C (.cond c x y) Q t h:=by
 unfold condK at g;split at g
 ·rename_i q hq;exact kX hq g.1 g.2
 ·exact g.elim
end Go.Av
namespace Go.Av
theorem iY{p P:Prop}(e:p=P:=by first| (simp only[Bool.false_or,za2,Bool.true_or,Bool.or_true,zc9,Bool.and_false,Bool.and_true,T6,R6,zb8,L7,Bool.and_eq_false_iff,Nat.not_lt,Nat.not_le,M7,decide_eq_false_iff_not,P0,Bool.not_eq_false',beq_iff_eq,bne_iff_ne,ne_eq,beq_eq_false_iff_ne,bne_eq_false_iff_eq,Bool.not_eq_true,Bool.not_eq_false,Int.not_lt,Int.not_le,gt_iff_lt,ge_iff_le,Int.ofNat_lt,Int.ofNat_le,Int.natCast_inj,Int.natCast_inj,Bool.not_not,decide_not,Decidable.not_not];rfl)|rfl):p=P:=e
theorem aw{α:Type}{a b:α}(e:a=b:=by first|rfl| (simp;done)| (simp;rfl)):a=b:=e
theorem F2{A0 A1:Prop}(a0:A0)(a1:A1):A0∧A1:=⟨a0,a1⟩
theorem F3{A0 A1 A2:Prop}(a0:A0)(a1:A1)(a2:A2):A0∧A1∧A2:=⟨a0,a1,a2⟩
theorem F4{A0 A1 A2 A3:Prop}(a0:A0)(a1:A1)(a2:A2)(a3:A3):A0∧A1∧A2∧A3:=⟨a0,a1,a2,a3⟩
theorem F5{A0 A1 A2 A3 A4:Prop}(a0:A0)(a1:A1)(a2:A2)(a3:A3)(a4:A4):A0∧A1∧A2∧A3∧A4:=⟨a0,a1,a2,a3,a4⟩
theorem F6{A0 A1 A2 A3 A4 A5:Prop}(a0:A0)(a1:A1)(a2:A2)(a3:A3)(a4:A4)(a5:A5):A0∧A1∧A2∧A3∧A4∧A5:=⟨a0,a1,a2,a3,a4,a5⟩
theorem F7{A0 A1 A2 A3 A4 A5 A6:Prop}(a0:A0)(a1:A1)(a2:A2)(a3:A3)(a4:A4)(a5:A5)(a6:A6):A0∧A1∧A2∧A3∧A4∧A5∧A6:=⟨a0,a1,a2,a3,a4,a5,a6⟩
theorem F8{A0 A1 A2 A3 A4 A5 A6 A7:Prop}(a0:A0)(a1:A1)(a2:A2)(a3:A3)(a4:A4)(a5:A5)(a6:A6)(a7:A7):A0∧A1∧A2∧A3∧A4∧A5∧A6∧A7:=⟨a0,a1,a2,a3,a4,a5,a6,a7⟩
theorem F9{A0 A1 A2 A3 A4 A5 A6 A7 A8:Prop}(a0:A0)(a1:A1)(a2:A2)(a3:A3)(a4:A4)(a5:A5)(a6:A6)(a7:A7)(a8:A8):A0∧A1∧A2∧A3∧A4∧A5∧A6∧A7∧A8:=⟨a0,a1,a2,a3,a4,a5,a6,a7,a8⟩
theorem iZ{A0 A1 A2 A3 A4 A5 A6 A7 A8 A9:Prop}(a0:A0)(a1:A1)(a2:A2)(a3:A3)(a4:A4)(a5:A5)(a6:A6)(a7:A7)(a8:A8)(a9:A9):A0∧A1∧A2∧A3∧A4∧A5∧A6∧A7∧A8∧A9:=⟨a0,a1,a2,a3,a4,a5,a6,a7,a8,a9⟩
variable {C:Ctx} {Q:Exit→Env→Heap→Prop} {t:Env} {h:Heap}
theorem w1{a b:Code}(hh:∀K:Env→Heap→Prop,(∀t h,Wkn C (wr a) t h (fun t h=>WP C b Q t h)→K t h)→WP C a (thenQ K Q) t h):WP C (.seq a b) Q t h:=yO hh
theorem w2{id:Nat}{c:Code}(hh:WP C c (blockQ id Q) t h):WP C (.block id c) Q t h:=v6 hh
theorem w4{id:Nat}{l:List Oper}(hh:WPl C l.toArray Q l t h):WP C (.region id l.toArray false) Q t h:=sE hh
theorem w5(hh:Q .normal t h):WP C .skip Q t h:=xc hh
theorem w6{id:Nat}(hh:Q (.exit id) t h):WP C (.exit id) Q t h:=xd hh
theorem w7(hh:Q .ret t h):WP C .ret Q t h:=yP hh
theorem w8{c:Operand}{x y:Code}(g:condK (aev C.G t c) (WP C x Q t h) (WP C y Q t h)):WP C (.cond c x y) Q t h:=vm g
theorem w9{a:Prop}(g:a):Went a:=⟨g⟩
theorem w0{ms:List Nat}{R:Env→Heap→Prop}(g:R t h):Wkn C ms t h R:=M0 g
def pureB:Callee→Bool
 | .value _=>true
 | .builtin .len=>true
 | .builtin .max=>true
 | .builtin .min=>true
 | .builtin .unsafeSliceData=>true
 |_=>false
def pureO:Op→Bool
 | .move _| .assign _| .pick _ _ _| .load _ _| .nilCheck _| .binOp _ _ _ _ _| .unOp _ _ _| .convert _ _ _| .slice _ _ _ _ _| .fieldAddr _ _ _| .field _ _ _| .indexAddr _ _ _| .index _ _ _| .extract _ _| .build _ _| .buildSlice _ _ _| .lookup _ _ _ _=>true
 | .call c=>pureB c.callee
 |_=>false
def pureN:List Oper→Nat
 | []=>0
 |o::r=>match pureO o.op with|true=>pureN r+1|false=>0
def dk(l:List Oper)(k:Nat):Bool:=Nat.beq (pureN l) k&&(drawOk l.toArray k&&decide (k≤l.length))
theorem wD{id k:Nat}{l:List Oper}(g:WPp C l.toArray (l.take k) t h fun t'=>WPl C l.toArray Q (l.drop k) t' h)(hk:dk l k=true:=by first| (show dk _ 2=true;decide+kernel)| (show dk _ 3=true;decide+kernel)| (show dk _ 4=true;decide+kernel)| (show dk _ 5=true;decide+kernel)| (show dk _ 6=true;decide+kernel)| (show dk _ 7=true;decide+kernel)| (show dk _ 8=true;decide+kernel)| (show dk _ 9=true;decide+kernel)| (show dk _ 10=true;decide+kernel)| (show dk _ 11=true;decide+kernel)| (show dk _ 12=true;decide+kernel)| (show dk _ 13=true;decide+kernel)| (show dk _ 14=true;decide+kernel)| (show dk _ 15=true;decide+kernel)| (show dk _ 1=true;decide+kernel)| (show dk _ 16=true;decide+kernel)| (show dk _ 17=true;decide+kernel)| (show dk _ 18=true;decide+kernel)| (show dk _ 19=true;decide+kernel)| (show dk _ 20=true;decide+kernel)| (show dk _ 21=true;decide+kernel)| (show dk _ 22=true;decide+kernel)| (show dk _ 23=true;decide+kernel)| (show dk _ 24=true;decide+kernel)| (show dk _ 25=true;decide+kernel)| (show dk _ 26=true;decide+kernel)| (show dk _ 27=true;decide+kernel)| (show dk _ 28=true;decide+kernel)| (show dk _ 29=true;decide+kernel)| (show dk _ 30=true;decide+kernel)| (show dk _ 31=true;decide+kernel)| (show dk _ 32=true;decide+kernel)| (show dk _ 33=true;decide+kernel)| (show dk _ 34=true;decide+kernel)| (show dk _ 35=true;decide+kernel)| (show dk _ 36=true;decide+kernel)| (show dk _ 37=true;decide+kernel)| (show dk _ 38=true;decide+kernel)| (show dk _ 39=true;decide+kernel)| (show dk _ 40=true;decide+kernel)| (show dk _ 41=true;decide+kernel)| (show dk _ 42=true;decide+kernel)| (show dk _ 43=true;decide+kernel)| (show dk _ 44=true;decide+kernel)| (show dk _ 45=true;decide+kernel)| (show dk _ 46=true;decide+kernel)| (show dk _ 47=true;decide+kernel)| (show dk _ 48=true;decide+kernel)| (show dk _ 49=true;decide+kernel)| (show dk _ 50=true;decide+kernel)| (show dk _ 51=true;decide+kernel)| (show dk _ 52=true;decide+kernel)| (show dk _ 53=true;decide+kernel)| (show dk _ 54=true;decide+kernel)| (show dk _ 55=true;decide+kernel)| (show dk _ 56=true;decide+kernel)| (show dk _ 57=true;decide+kernel)| (show dk _ 58=true;decide+kernel)| (show dk _ 59=true;decide+kernel)| (show dk _ 60=true;decide+kernel)| (show dk _ 61=true;decide+kernel)| (show dk _ 62=true;decide+kernel)| (show dk _ 63=true;decide+kernel)| (show dk _ 64=true;decide+kernel)| (show dk _ 65=true;decide+kernel)| (show dk _ 66=true;decide+kernel)| (show dk _ 67=true;decide+kernel)| (show dk _ 68=true;decide+kernel)| (show dk _ 69=true;decide+kernel)| (show dk _ 70=true;decide+kernel)| (show dk _ 71=true;decide+kernel)| (show dk _ 72=true;decide+kernel)):WP C (.region id l.toArray true) Q t h:=by
 unfold dk at hk;rw[L7]at hk;exact xe k hk.2 g
variable {F X Y P N:Prop} {c:Operand} {a b:Code} {q:Bool} {ops:Array Oper} {rest:List Oper} {dst:Option Nat} {op:Op} {ty:TypeId} {pos:String} {aft:Array Edge} {j d:Nat} {want:Bool} {K:Env→Prop} {T T' len e n by' p ver:Nat} {idx:List Nat} {xs rows ys:List AVal} {y:AVal} {k:AVal→Heap→Prop} {kv:AVal→Prop}
theorem sq(f:F)(g:Y)(e:F→X=Y:=by intro f;simp(maxSteps:=1000000) (disch:=first|omega| (simp only[go_sem, ↓reduceIte,seval];first|done|omega)|fail) only[go_sem, ↓reduceIte,seval,f];rfl):X:=(e f).mpr g
theorem zq(f:F)(e:F→X:=by intro f;simp(maxSteps:=1000000) (disch:=first|omega| (simp only[go_sem, ↓reduceIte,seval];first|done|omega)|fail) only[go_sem, ↓reduceIte,seval,f];all_goals fail):X:=e f
theorem cq(f:F)(h1:P→WP C a Q t h)(h2:N→WP C b Q t h)(e:F→aev C.G t c=.bool q:=by intro f;simp(maxSteps:=1000000) (disch:=first|omega| (simp only[go_sem, ↓reduceIte,seval];first|done|omega)|fail) only[go_sem, ↓reduceIte,seval,f];rfl)(hP:(q=true)=P:=by exact iY)(hN:(q=false)=N:=by exact iY):WP C (.cond c a b) Q t h:=kX (e f) (fun x=>h1 (hP.mp x)) (fun x=>h2 (hN.mp x))
theorem gq(f:F)(h1:P→WPl C ops Q (⟨dst,op,ty,pos,aft,some (j,want)⟩::rest) (upd t d (.bool true)) h)(h2:N→WPl C ops Q (⟨dst,op,ty,pos,aft,some (j,want)⟩::rest) (upd t d (.bool false)) h)(hd:(ops[j]?).bind (·.dst)=some d:=by rfl)(e:F→t d=.bool q:=by intro f;simp(maxSteps:=1000000) (disch:=first|omega| (simp only[go_sem, ↓reduceIte,seval];first|done|omega)|fail) only[go_sem, ↓reduceIte,seval,f];rfl)(hP:(q=true)=P:=by exact iY)(hN:(q=false)=N:=by exact iY):WPl C ops Q (⟨dst,op,ty,pos,aft,some (j,want)⟩::rest) t h:=jN hd (e f) (fun x=>h1 (hP.mp x)) (fun x=>h2 (hN.mp x))
theorem pq(f:F)(h1:P→WPp C ops (⟨dst,op,ty,pos,aft,some (j,want)⟩::rest) (upd t d (.bool true)) h K)(h2:N→WPp C ops (⟨dst,op,ty,pos,aft,some (j,want)⟩::rest) (upd t d (.bool false)) h K)(hd:(ops[j]?).bind (·.dst)=some d:=by rfl)(e:F→t d=.bool q:=by intro f;simp(maxSteps:=1000000) (disch:=first|omega| (simp only[go_sem, ↓reduceIte,seval];first|done|omega)|fail) only[go_sem, ↓reduceIte,seval,f];rfl)(hP:(q=true)=P:=by exact iY)(hN:(q=false)=N:=by exact iY):WPp C ops (⟨dst,op,ty,pos,aft,some (j,want)⟩::rest) t h K:=qh hd (e f) (fun x=>h1 (hP.mp x)) (fun x=>h2 (hN.mp x))
theorem rq(f:F)(hk:k (.sl n xs) h)(he:elmT C.P T=some e:=by simp only[go_sem];rfl)(hn:szOf C.P e=some n:=by simp only[go_sem];rfl)(hz:(zroT C.P e).map (fun z=>(z.cells.length,z.cells.all AVal.sto))=some (n,true):=by simp only[go_sem];try rfl)(hl:xs.length=len:=by simp)(h0:0<len:=by omega)(h1:0<n:=by omega)(hb:len*n≤16777216:=by omega)(hi:idx=List.range len:=by rfl)(hx:F→xs.all (fun x=>decide (x.cells.length=n)&&x.lies)=true:=by intro f;simp(maxSteps:=1000000) (disch:=first|omega| (simp only[go_sem, ↓reduceIte,seval];first|done|omega)|fail) only[go_sem, ↓reduceIte,seval,f];all_goals (simp;all_goals fail)):rowsK C T len idx xs h k:=mH he hn hz hl h0 h1 hb hi (hx f) hk
theorem xq(f:F)(hk:k (.hs h.length 0 0 len true) (h++[.row e n 0 xs]))(he:elmT C.P T=some e:=by simp only[go_sem];rfl)(hn:szOf C.P e=some n:=by simp only[go_sem];rfl)(hz:(zroT C.P e).map (fun z=>(z.cells.length,z.cells.all AVal.sto))=some (n,true):=by simp only[go_sem];try rfl)(hl:xs.length=len:=by simp)(h0:0<len:=by omega)(h1:0<n:=by omega)(hb:len*n≤16777216:=by omega)(hi:idx=List.range len:=by rfl)(hx:F→xs.all (fun x=>decide (x.cells.length=n)&&x.lies)=true:=by intro f;simp(maxSteps:=1000000) (disch:=first|omega| (simp only[go_sem, ↓reduceIte,seval];first|done|omega)|fail) only[go_sem, ↓reduceIte,seval,f];all_goals (simp;all_goals fail)):rowsK C T len idx xs h k:=vg he hn hz hl h0 h1 hb hi (hx f) hk
theorem vq(f:F)(hk:kv (.sl n xs))(he:elmT C.P T=some e:=by simp only[go_sem];rfl)(hn:szOf C.P e=some n:=by simp only[go_sem];rfl)(hz:(zroT C.P e).map (fun z=>(z.cells.length,z.cells.all AVal.sto))=some (n,true):=by simp only[go_sem];try rfl)(hl:xs.length=len:=by simp)(h0:0<len:=by omega)(h1:0<n:=by omega)(hb:len*n≤16777216:=by omega)(hi:idx=List.range len:=by rfl)(hx:F→xs.all (fun x=>decide (x.cells.length=n)&&x.lies)=true:=by intro f;simp(maxSteps:=1000000) (disch:=first|omega| (simp only[go_sem, ↓reduceIte,seval];first|done|omega)|fail) only[go_sem, ↓reduceIte,seval,f];all_goals (simp;all_goals fail)):rowsV C T len idx xs kv:=vh he hn hz hl h0 h1 hb hi (hx f) hk
theorem aq(f:F)(hk:k (.hs p (ver+1) 0 (len+ys.length) true) (h.set p (.row e n (ver+1) (rows++ys))))(hT:T'=T∨strT C.P T'=true:=by first|exact .inl rfl| (right;simp only[go_sem]))(he:elmT C.P T=some e:=by simp only[go_sem];rfl)(hn:szOf C.P e=some n:=by simp only[go_sem];rfl)(hb:byT C.P e=some by':=by simp only[go_sem];rfl)(hz:(zroT C.P e).map (fun z=>z.cells.length)=some n:=by simp only[go_sem];try rfl)(h0:0<n:=by omega)(hy:elemsOf h n y=some ys:=by simp only[elemsOf, ↓reduceIte];rfl)(hrow:F→getRow h p ver=some (e,n,rows):=by intro f;simp(maxSteps:=1000000) (disch:=first|omega| (simp only[go_sem, ↓reduceIte,seval];first|done|omega)|fail) only[go_sem, ↓reduceIte,seval,f];rfl)(hl:len=rows.length:=by simp)(hr:len+ys.length≤maxLen∧(len+ys.length)*by'≤140737488355328:=by refine⟨?_,?_⟩<;>simp only[maxLen,L8,M8,O7,M5]<;>omega):appK C T T' (.hs p ver 0 len true) y h k:=bB hT he hn hb hz h0 hy (hrow f) hl hr hk
theorem ee{x:Exit}{h0:Heap}{rs:List ResultVar}{R:AVal→Heap→Prop}(hQ:∀t h,need (resA C t h rs) (Fin h0 h R)→Q .ret t h∧Q .normal t h)(f:F)(g:Y)(e:F→need (resA C t h rs) (Fin h0 h R)=Y:=by intro f;simp(maxSteps:=1000000) (disch:=first|omega| (simp only[go_sem, ↓reduceIte,seval];first|done|omega)|fail) only[go_sem, ↓reduceIte,seval,f];rfl)(hx:x=.ret∨x=.normal:=by first|exact .inl rfl|exact .inr rfl):Q x t h:=by
 have:=hQ t h ((e f).mpr g);rcases hx with rfl|rfl
 ·exact this.1
 ·exact this.2
theorem ye{x:Exit}{h0:Heap}{rs:List ResultVar}{R:AVal→Heap→Prop}(hQ:∀t h,need (resA C t h rs) (Fin h0 h R)→Q .ret t h∧Q .normal t h)(f:F)(g:Y)(e:F→need (resA C t h rs) (Fin h0 h R)=Y:=by intro f;simp(maxSteps:=1000000) (disch:=first|omega| (simp only[go_sem, ↓reduceIte,seval];first|done|omega)|fail) only[go_sem, ↓reduceIte,seval,f,resA,resL,resA1];rfl)(hx:x=.ret∨x=.normal:=by first|exact .inl rfl|exact .inr rfl):Q x t h:=by
 have:=hQ t h ((e f).mpr g);rcases hx with rfl|rfl
 ·exact this.1
 ·exact this.2
theorem sJ(f:F)(g:Y)(e:F→X=Y:=by intro f;simp(disch:=first|omega| (simp only[go_sem, ↓reduceIte,Nat.reduceEqDiff];done)|fail) only[go_sem, ↓reduceIte,Int.reduceToNat,Int.reduceLE,Int.reduceLT,Int.reduceSub,Int.reduceAdd,Nat.reduceEqDiff,Nat.reduceAdd,Nat.reduceLeDiff,Nat.reduceLT,Nat.reduceMul,Nat.reduceSub,f];rfl):X:=(e f).mpr g
theorem fO(f:F)(e:F→X:=by intro f;simp(disch:=first|omega| (simp only[go_sem, ↓reduceIte,Nat.reduceEqDiff];done)|fail) only[go_sem, ↓reduceIte,Int.reduceToNat,Int.reduceLE,Int.reduceLT,Int.reduceSub,Int.reduceAdd,Nat.reduceEqDiff,Nat.reduceAdd,Nat.reduceLeDiff,Nat.reduceLT,Nat.reduceMul,Nat.reduceSub,f];all_goals fail):X:=e f
theorem p7(f:F)(h1:P→WP C a Q t h)(h2:N→WP C b Q t h)(e:F→aev C.G t c=.bool q:=by intro f;simp(disch:=first|omega| (simp only[go_sem, ↓reduceIte,Nat.reduceEqDiff];done)|fail) only[go_sem, ↓reduceIte,Int.reduceToNat,Int.reduceLE,Int.reduceLT,Int.reduceSub,Int.reduceAdd,Nat.reduceEqDiff,Nat.reduceAdd,Nat.reduceLeDiff,Nat.reduceLT,Nat.reduceMul,Nat.reduceSub,f];rfl)(hP:(q=true)=P:=by exact iY)(hN:(q=false)=N:=by exact iY):WP C (.cond c a b) Q t h:=kX (e f) (fun x=>h1 (hP.mp x)) (fun x=>h2 (hN.mp x))
theorem Dg(f:F)(h1:P→WPl C ops Q (⟨dst,op,ty,pos,aft,some (j,want)⟩::rest) (upd t d (.bool true)) h)(h2:N→WPl C ops Q (⟨dst,op,ty,pos,aft,some (j,want)⟩::rest) (upd t d (.bool false)) h)(hd:(ops[j]?).bind (·.dst)=some d:=by rfl)(e:F→t d=.bool q:=by intro f;simp(disch:=first|omega| (simp only[go_sem, ↓reduceIte,Nat.reduceEqDiff];done)|fail) only[go_sem, ↓reduceIte,Int.reduceToNat,Int.reduceLE,Int.reduceLT,Int.reduceSub,Int.reduceAdd,Nat.reduceEqDiff,Nat.reduceAdd,Nat.reduceLeDiff,Nat.reduceLT,Nat.reduceMul,Nat.reduceSub,f];rfl)(hP:(q=true)=P:=by exact iY)(hN:(q=false)=N:=by exact iY):WPl C ops Q (⟨dst,op,ty,pos,aft,some (j,want)⟩::rest) t h:=jN hd (e f) (fun x=>h1 (hP.mp x)) (fun x=>h2 (hN.mp x))
theorem Dh(f:F)(hk:k (.sl n xs) h)(he:elmT C.P T=some e:=by simp only[go_sem];rfl)(hn:szOf C.P e=some n:=by simp only[go_sem];rfl)(hz:(zroT C.P e).map (fun z=>(z.cells.length,z.cells.all AVal.sto))=some (n,true):=by simp only[go_sem];try rfl)(hl:xs.length=len:=by simp)(h0:0<len:=by omega)(h1:0<n:=by omega)(hb:len*n≤16777216:=by omega)(hi:idx=List.range len:=by rfl)(hx:F→xs.all (fun x=>decide (x.cells.length=n)&&x.lies)=true:=by intro f;simp(disch:=first|omega| (simp only[go_sem, ↓reduceIte,Nat.reduceEqDiff];done)|fail) only[go_sem, ↓reduceIte,Int.reduceToNat,Int.reduceLE,Int.reduceLT,Int.reduceSub,Int.reduceAdd,Nat.reduceEqDiff,Nat.reduceAdd,Nat.reduceLeDiff,Nat.reduceLT,Nat.reduceMul,Nat.reduceSub,f];all_goals (simp;all_goals fail)):rowsK C T len idx xs h k:=mH he hn hz hl h0 h1 hb hi (hx f) hk
theorem j1{x:Exit}{h0:Heap}{rs:List ResultVar}{R:AVal→Heap→Prop}(hQ:∀t h,need (resA C t h rs) (Fin h0 h R)→Q .ret t h∧Q .normal t h)(f:F)(g:Y)(e:F→need (resA C t h rs) (Fin h0 h R)=Y:=by intro f;simp(disch:=first|omega| (simp only[go_sem, ↓reduceIte,Nat.reduceEqDiff];done)|fail) only[go_sem, ↓reduceIte,Int.reduceToNat,Int.reduceLE,Int.reduceLT,Int.reduceSub,Int.reduceAdd,Nat.reduceEqDiff,Nat.reduceAdd,Nat.reduceLeDiff,Nat.reduceLT,Nat.reduceMul,Nat.reduceSub,f];rfl)(hx:x=.ret∨x=.normal:=by first|exact .inl rfl|exact .inr rfl):Q x t h:=by
 have:=hQ t h ((e f).mpr g);rcases hx with rfl|rfl
 ·exact this.1
 ·exact this.2
theorem fR{h0 h1 j:Heap}{R:AVal→Heap→Prop}{r:AVal}{A:Prop}(hc:Clo h0.length r)(g:A)(hh:h1=h0++j:=by first|exact(O2 _).symm|rfl| (simp only[P2,W4,P3];rfl))(e:A→R r h0:=by intro g;exact⟨g,rfl⟩):Fin h0 h1 R r:=Fin.plainE hh hc (e g)
theorem sb(rs:List ResultVar){f:FuncId}{fn:Func}{c:Code}{args:List AVal}{R:AVal→Heap→Prop}(hf:C.P.funcs[f]? =some fn)(hw:∀Q:Exit→Env→Heap→Prop,(∀t' h',need (resA C t' h' rs) (Fin h h' R)→Q .ret t' h'∧Q .normal t' h')→WP C c Q (env0 args) h)(hb:fn.body=some c:=by exact rfl)(hrs:fn.results.toList=rs:=by exact rfl)(hname:(fn.name== "runtime.NumGoroutine")=false:=by kernel_rfl)
  (hok:okCode fn.ntmps c=true:=by kernel_rfl)(hres:fn.results.toList.all (okRes fn.ntmps)=true:=by kernel_rfl)(hlen:decide (args.length≤fn.ntmps)=true:=by exact rfl):Sat C f args h R:=Sat.body rs hf hb hrs hname hok hres hlen hw
theorem lm{c:Code}{ms:List Nat}(I:Nat→Env→Heap→Prop)(n:Nat)(h0:Wkn C ms t h (I n))
  (round:∀(n':Nat) (s:Env) (h':Heap),I n' (mix ms s t) h'→∀K:Env→Heap→Prop,(∀m t2 h2,Wkn C ms t2 h2 (I m)→m<n'→K t2 h2)→WP C c (thenQ K Q) (mix ms s t) h')(hms:wr c=ms:=by simp only[go_sem,P3,W4];rfl):WP C (.loop c) Q t h:=vf hms I n h0 round
end Go.Av
namespace Go.Av
variable {C:Ctx} {Q:Exit→Env→Heap→Prop} {t:Env} {h:Heap} {a b:Code}
def Kt(C:Ctx)(a b:Code)(Q:Exit→Env→Heap→Prop):Env→Heap→Prop:=fun t h=>Wkn C (wr a) t h fun t h=>WP C b Q t h
@[congr] theorem FC(C:Ctx)(a b:Code)(Q:Exit→Env→Heap→Prop):Kt C a b Q=Kt C a b Q:=rfl
structure Bx (Y:Prop):Prop where
 go:Y
theorem wG(g:WP C b Q t h):Kt C a b Q t h:=M0 g
theorem Di{t1:Env}{h1:Heap}(w:Weak C (wr a) t h t1 h1)(g:WP C b Q t1 h1):Kt C a b Q t h:=⟨_,_,w,g⟩
theorem wS(hh:WP C a (thenQ (Kt C a b Q) Q) t h):WP C (.seq a b) Q t h:=hh
variable {F X Y:Prop} {fn:FuncId} {args:List AVal} {x:AVal} {h1:Heap} {KK:AVal→Heap→Prop}
theorem wk(f:F)(g:Y)(e:F→Bx Y→X:=by intro f g;(repeat (first|refine wS ?_|refine w2 ?_|refine w3 ?_| ((first|refine w4 ?_|refine w5 ?_|refine w6 ?_|refine w7 ?_|refine wD ?_);try refine sq f ?_)| (refine w8 ?_;refine sq f ?_;refine w9 ?_)|refine wG ?_| (refine rq f ?_;try refine sq f ?_)| (refine vq f ?_;try refine sq f ?_)));exact g.go):X:=e f ⟨g⟩
theorem kq(f:F)(c:Sat C fn args h (fun r h'=>r=x∧h'=h1))(g:Y)(e:F→Bx Y→KK x h1:=by intro f g;(try refine sq f ?_);(repeat (first|refine wS ?_|refine w2 ?_|refine w3 ?_| ((first|refine w4 ?_|refine w5 ?_|refine w6 ?_|refine w7 ?_|refine wD ?_);try refine sq f ?_)| (refine w8 ?_;refine sq f ?_;refine w9 ?_)|refine wG ?_| (refine rq f ?_;try refine sq f ?_)| (refine vq f ?_;try refine sq f ?_)));exact g.go):Sat C fn args h KK:=c.mono (by rintro r h' ⟨rfl,rfl⟩;exact e f ⟨g⟩)
theorem wn(f:F)(g:Y)(e:F→Bx Y→X:=by intro f g;(repeat (first|refine wS ?_|refine w2 ?_|refine w3 ?_| ((first|refine w4 ?_|refine w5 ?_|refine w6 ?_|refine w7 ?_);try refine sq f ?_)| (refine w8 ?_;refine sq f ?_;refine w9 ?_)|refine wG ?_| (refine rq f ?_;try refine sq f ?_)| (refine vq f ?_;try refine sq f ?_)));exact g.go):X:=e f ⟨g⟩
theorem kn(f:F)(c:Sat C fn args h (fun r h'=>r=x∧h'=h1))(g:Y)(e:F→Bx Y→KK x h1:=by intro f g;(try refine sq f ?_);(repeat (first|refine wS ?_|refine w2 ?_|refine w3 ?_| ((first|refine w4 ?_|refine w5 ?_|refine w6 ?_|refine w7 ?_);try refine sq f ?_)| (refine w8 ?_;refine sq f ?_;refine w9 ?_)|refine wG ?_| (refine rq f ?_;try refine sq f ?_)| (refine vq f ?_;try refine sq f ?_)));exact g.go):Sat C fn args h KK:=c.mono (by rintro r h' ⟨rfl,rfl⟩;exact e f ⟨g⟩)
theorem kx(f:F)(c:Sat C fn args h (fun r h'=>r=x∧h'=h1))(g:Y)(e:F→Bx Y→KK x h1:=by intro f g;(try refine sq f ?_);(repeat (first|refine wS ?_|refine w2 ?_|refine w3 ?_| ((first|refine w4 ?_|refine w5 ?_|refine w6 ?_|refine w7 ?_|refine wD ?_);try refine sq f ?_)| (refine w8 ?_;refine sq f ?_;refine w9 ?_)|refine wG ?_| (refine xq f ?_;try refine sq f ?_)));exact g.go):Sat C fn args h KK:=c.mono (by rintro r h' ⟨rfl,rfl⟩;exact e f ⟨g⟩)
theorem bJ(f:F)(g:Y)(e:F→Bx Y→X:=by intro f g;(repeat (first|refine wS ?_|refine w2 ?_|refine w3 ?_| ((first|refine w4 ?_|refine w5 ?_|refine w6 ?_|refine w7 ?_|refine wD ?_);try refine sJ f ?_)| (refine w8 ?_;refine sJ f ?_;refine w9 ?_)|refine wG ?_| (refine Dh f ?_;try refine sJ f ?_)| (refine vqo f ?_;try refine sJ f ?_)));exact g.go):X:=e f ⟨g⟩
theorem Dj(f:F)(c:Sat C fn args h (fun r h'=>r=x∧h'=h1))(g:Y)(e:F→Bx Y→KK x h1:=by intro f g;(try refine sJ f ?_);(repeat (first|refine wS ?_|refine w2 ?_|refine w3 ?_| ((first|refine w4 ?_|refine w5 ?_|refine w6 ?_|refine w7 ?_|refine wD ?_);try refine sJ f ?_)| (refine w8 ?_;refine sJ f ?_;refine w9 ?_)|refine wG ?_| (refine Dh f ?_;try refine sJ f ?_)| (refine vqo f ?_;try refine sJ f ?_)));exact g.go):Sat C fn args h KK:=c.mono (by rintro r h' ⟨rfl,rfl⟩;exact e f ⟨g⟩)
theorem zZz (f:F)(e:F→X:=by intro f;first|exact zq f|rfl|omega|trivial):X:=e f
theorem gGp{Y1 Y2:Prop}(f:F)(g1:Y1)(g2:Y2)(e:F→Bx Y1→Bx Y2→X:=by intro f a b;first|exact gq f a.go b.go|exact pq f a.go b.go):X:=e f ⟨g1⟩ ⟨g2⟩
end Go.Av
namespace Go.Av.Ty
open Go Go.Av Go.Proofs
@[go_sem] theorem Jh:szOf Tryz.prog 3=some 1:=by kernel_rfl
@[go_sem] theorem Ji:aggT Tryz.prog 3=some false:=by kernel_rfl
@[go_sem] theorem JM:byT Tryz.prog 3=some 8:=by kernel_rfl
@[go_sem] theorem Hc:kindT Tryz.prog 3=0:=by kernel_rfl
@[go_sem] theorem Jj:zroT Tryz.prog 3=some (.int .i64 0):=by kernel_rfl
@[go_sem] theorem Jk:szOf Tryz.prog 4=some 1:=by kernel_rfl
@[go_sem] theorem Jl:aggT Tryz.prog 4=some false:=by kernel_rfl
@[go_sem] theorem Jm:szOf Tryz.prog 5=some 1:=by kernel_rfl
@[go_sem] theorem JN:byT Tryz.prog 5=some 1:=by kernel_rfl
@[go_sem] theorem Jn:zroT Tryz.prog 5=some (.int .u8 0):=by kernel_rfl
@[go_sem] theorem JO:Program.underlying Tryz.prog 5=some (.int .u8):=by kernel_rfl
@[go_sem] theorem Jo:szOf Tryz.prog 9=some 1:=by kernel_rfl
@[go_sem] theorem Jp:aggT Tryz.prog 9=some false:=by kernel_rfl
@[go_sem] theorem JP:byT Tryz.prog 9=some 16:=by kernel_rfl
@[go_sem] theorem Hd:kindT Tryz.prog 9=2:=by kernel_rfl
@[go_sem] theorem Jq:strT Tryz.prog 9=true:=by kernel_rfl
@[go_sem] theorem Jr:zroT Tryz.prog 9=some (.str []):=by kernel_rfl
@[go_sem] theorem He:szOf Tryz.prog 21=some 1:=by kernel_rfl
@[go_sem] theorem Hf:aggT Tryz.prog 21=some false:=by kernel_rfl
@[go_sem] theorem Js:byT Tryz.prog 21=some 4:=by kernel_rfl
@[go_sem] theorem Hg:zroT Tryz.prog 21=some (.int .i32 0):=by kernel_rfl
@[go_sem] theorem Jt:Program.underlying Tryz.prog 21=some (.int .i32):=by kernel_rfl
@[go_sem] theorem Hh:elmT Tryz.prog 22=some 56:=by kernel_rfl
@[go_sem] theorem Hi:szOf Tryz.prog 23=some 1:=by kernel_rfl
@[go_sem] theorem Hj:aggT Tryz.prog 23=some false:=by kernel_rfl
@[go_sem] theorem Hk:elmT Tryz.prog 23=some 25:=by kernel_rfl
@[go_sem] theorem Hl:szOf Tryz.prog 25=some 4:=by kernel_rfl
@[go_sem] theorem Hm:aggT Tryz.prog 25=some true:=by kernel_rfl
@[go_sem] theorem Hn:nFld Tryz.prog 25=some 4:=by kernel_rfl
@[go_sem] theorem Dk:fOff Tryz.prog 25 0=some (0,3,1):=by kernel_rfl
@[go_sem] theorem Dl:fOff Tryz.prog 25 1=some (1,3,1):=by kernel_rfl
@[go_sem] theorem Dm:fOff Tryz.prog 25 2=some (2,9,1):=by kernel_rfl
@[go_sem] theorem Dn:fOff Tryz.prog 25 3=some (3,23,1):=by kernel_rfl
@[go_sem] theorem Ho:zroT Tryz.prog 25=some (.agg [.int .i64 0,.int .i64 0,.str [],.nil (.slice none 0 0)]):=by kernel_rfl
@[go_sem] theorem Hq:szOf Tryz.prog 27=some 3:=by kernel_rfl
@[go_sem] theorem Hr:aggT Tryz.prog 27=some true:=by kernel_rfl
@[go_sem] theorem Hs:nFld Tryz.prog 27=some 3:=by kernel_rfl
@[go_sem] theorem Do:fOff Tryz.prog 27 0=some (0,3,1):=by kernel_rfl
@[go_sem] theorem Dp:fOff Tryz.prog 27 1=some (1,3,1):=by kernel_rfl
@[go_sem] theorem Dq:fOff Tryz.prog 27 2=some (2,4,1):=by kernel_rfl
@[go_sem] theorem Dr:plainT Tryz.prog 27=some [0,0,1]:=by kernel_rfl
@[go_sem] theorem Ht:zroT Tryz.prog 27=some (.agg [.int .i64 0,.int .i64 0,.bool false]):=by kernel_rfl
@[go_sem] theorem Hu:szOf Tryz.prog 29=some 1:=by kernel_rfl
@[go_sem] theorem Hv:aggT Tryz.prog 29=some false:=by kernel_rfl
@[go_sem] theorem Hw:zroT Tryz.prog 29=some (.nil .nilFunc):=by kernel_rfl
@[go_sem] theorem Hx:szOf Tryz.prog 31=some 1:=by kernel_rfl
@[go_sem] theorem Hy:aggT Tryz.prog 31=some false:=by kernel_rfl
@[go_sem] theorem Hz:szOf Tryz.prog 33=some 1:=by kernel_rfl
@[go_sem] theorem HA:aggT Tryz.prog 33=some false:=by kernel_rfl
@[go_sem] theorem HB:szOf Tryz.prog 35=some 1:=by kernel_rfl
@[go_sem] theorem HC:aggT Tryz.prog 35=some false:=by kernel_rfl
@[go_sem] theorem HD:elmT Tryz.prog 35=some 99:=by kernel_rfl
@[go_sem] theorem HE:szOf Tryz.prog 36=some 1:=by kernel_rfl
@[go_sem] theorem HF:aggT Tryz.prog 36=some false:=by kernel_rfl
@[go_sem] theorem HG:elmT Tryz.prog 36=some 86:=by kernel_rfl
@[go_sem] theorem HH:szOf Tryz.prog 37=some 1:=by kernel_rfl
@[go_sem] theorem HI:aggT Tryz.prog 37=some false:=by kernel_rfl
@[go_sem] theorem HJ:elmT Tryz.prog 37=some 69:=by kernel_rfl
@[go_sem] theorem HK:szOf Tryz.prog 38=some 1:=by kernel_rfl
@[go_sem] theorem HL:aggT Tryz.prog 38=some false:=by kernel_rfl
@[go_sem] theorem HM:elmT Tryz.prog 38=some 115:=by kernel_rfl
@[go_sem] theorem HN:szOf Tryz.prog 40=some 9:=by kernel_rfl
@[go_sem] theorem HO:aggT Tryz.prog 40=some true:=by kernel_rfl
@[go_sem] theorem HP:nFld Tryz.prog 40=some 9:=by kernel_rfl
@[go_sem] theorem Ds:fOff Tryz.prog 40 0=some (0,3,1):=by kernel_rfl
@[go_sem] theorem Dt:fOff Tryz.prog 40 1=some (1,35,1):=by kernel_rfl
@[go_sem] theorem Du:fOff Tryz.prog 40 2=some (2,36,1):=by kernel_rfl
@[go_sem] theorem Dv:fOff Tryz.prog 40 3=some (3,37,1):=by kernel_rfl
@[go_sem] theorem Dw:fOff Tryz.prog 40 4=some (4,38,1):=by kernel_rfl
@[go_sem] theorem Dx:fOff Tryz.prog 40 5=some (5,3,1):=by kernel_rfl
@[go_sem] theorem Dy:fOff Tryz.prog 40 6=some (6,3,1):=by kernel_rfl
@[go_sem] theorem Dz:fOff Tryz.prog 40 7=some (7,3,1):=by kernel_rfl
@[go_sem] theorem DA:fOff Tryz.prog 40 8=some (8,3,1):=by kernel_rfl
@[go_sem] theorem HQ:zroT Tryz.prog 40=some (.agg [.int .i64 0,.nil (.slice none 0 0),.nil (.slice none 0 0),.nil (.slice none 0 0),.nil (.slice none 0 0),.int .i64 0,.int .i64 0,.int .i64 0,.int .i64 0]):=by kernel_rfl
@[go_sem] theorem HR:szOf Tryz.prog 42=some 1:=by kernel_rfl
@[go_sem] theorem HS:aggT Tryz.prog 42=some false:=by kernel_rfl
@[go_sem] theorem HT:elmT Tryz.prog 42=some 3:=by kernel_rfl
@[go_sem] theorem HU:zroT Tryz.prog 42=some (.nil (.slice none 0 0)):=by kernel_rfl
@[go_sem] theorem HV:szOf Tryz.prog 44=some 5:=by kernel_rfl
@[go_sem] theorem HW:aggT Tryz.prog 44=some true:=by kernel_rfl
@[go_sem] theorem HX:nFld Tryz.prog 44=some 3:=by kernel_rfl
@[go_sem] theorem DB:fOff Tryz.prog 44 0=some (0,42,1):=by kernel_rfl
@[go_sem] theorem DC:fOff Tryz.prog 44 1=some (1,27,3):=by kernel_rfl
@[go_sem] theorem DD:fOff Tryz.prog 44 2=some (4,4,1):=by kernel_rfl
@[go_sem] theorem HY:zroT Tryz.prog 44=some (.agg [.nil (.slice none 0 0),.int .i64 0,.int .i64 0,.bool false,.bool false]):=by kernel_rfl
@[go_sem] theorem HZ:szOf Tryz.prog 56=some 7:=by kernel_rfl
@[go_sem] theorem I0:aggT Tryz.prog 56=some true:=by kernel_rfl
@[go_sem] theorem I1:nFld Tryz.prog 56=some 7:=by kernel_rfl
@[go_sem] theorem DE:fOff Tryz.prog 56 0=some (0,3,1):=by kernel_rfl
@[go_sem] theorem DF:fOff Tryz.prog 56 1=some (1,3,1):=by kernel_rfl
@[go_sem] theorem DG:fOff Tryz.prog 56 2=some (2,3,1):=by kernel_rfl
@[go_sem] theorem DH:fOff Tryz.prog 56 3=some (3,3,1):=by kernel_rfl
@[go_sem] theorem DI:fOff Tryz.prog 56 4=some (4,9,1):=by kernel_rfl
@[go_sem] theorem DJ:fOff Tryz.prog 56 5=some (5,9,1):=by kernel_rfl
@[go_sem] theorem DK:fOff Tryz.prog 56 6=some (6,9,1):=by kernel_rfl
@[go_sem] theorem DL:plainT Tryz.prog 56=some [0,0,0,0,2,2,2]:=by kernel_rfl
@[go_sem] theorem I2:zroT Tryz.prog 56=some (.agg [.int .i64 0,.int .i64 0,.int .i64 0,.int .i64 0,.str [],.str [],.str []]):=by kernel_rfl
@[go_sem] theorem I3:szOf Tryz.prog 63=some 1:=by kernel_rfl
@[go_sem] theorem I4:aggT Tryz.prog 63=some false:=by kernel_rfl
@[go_sem] theorem I5:elmT Tryz.prog 63=some 78:=by kernel_rfl
@[go_sem] theorem I6:nFld Tryz.prog 65=some 1:=by kernel_rfl
@[go_sem] theorem DM:fOff Tryz.prog 65 0=some (0,63,1):=by kernel_rfl
@[go_sem] theorem I7:zroT Tryz.prog 65=some (.agg [.nil (.slice none 0 0)]):=by kernel_rfl
@[go_sem] theorem I8:szOf Tryz.prog 67=some 1:=by kernel_rfl
@[go_sem] theorem I9:aggT Tryz.prog 67=some false:=by kernel_rfl
@[go_sem] theorem Ia:elmT Tryz.prog 67=some 9:=by kernel_rfl
@[go_sem] theorem Ib:szOf Tryz.prog 69=some 9:=by kernel_rfl
@[go_sem] theorem Ic:aggT Tryz.prog 69=some true:=by kernel_rfl
@[go_sem] theorem Ju:byT Tryz.prog 69=some 104:=by kernel_rfl
@[go_sem] theorem Id:nFld Tryz.prog 69=some 9:=by kernel_rfl
@[go_sem] theorem DN:fOff Tryz.prog 69 0=some (0,3,1):=by kernel_rfl
@[go_sem] theorem DO:fOff Tryz.prog 69 1=some (1,3,1):=by kernel_rfl
@[go_sem] theorem DP:fOff Tryz.prog 69 2=some (2,3,1):=by kernel_rfl
@[go_sem] theorem DQ:fOff Tryz.prog 69 3=some (3,9,1):=by kernel_rfl
@[go_sem] theorem DR:fOff Tryz.prog 69 4=some (4,9,1):=by kernel_rfl
@[go_sem] theorem DS:fOff Tryz.prog 69 5=some (5,9,1):=by kernel_rfl
@[go_sem] theorem DT:fOff Tryz.prog 69 6=some (6,4,1):=by kernel_rfl
@[go_sem] theorem DU:fOff Tryz.prog 69 7=some (7,4,1):=by kernel_rfl
@[go_sem] theorem DV:fOff Tryz.prog 69 8=some (8,67,1):=by kernel_rfl
@[go_sem] theorem Ie:zroT Tryz.prog 69=some (.agg [.int .i64 0,.int .i64 0,.int .i64 0,.str [],.str [],.str [],.bool false,.bool false,.nil (.slice none 0 0)]):=by kernel_rfl
@[go_sem] theorem If:szOf Tryz.prog 78=some 3:=by kernel_rfl
@[go_sem] theorem Ig:aggT Tryz.prog 78=some true:=by kernel_rfl
@[go_sem] theorem Jv:byT Tryz.prog 78=some 24:=by kernel_rfl
@[go_sem] theorem Ih:nFld Tryz.prog 78=some 3:=by kernel_rfl
@[go_sem] theorem DW:fOff Tryz.prog 78 0=some (0,3,1):=by kernel_rfl
@[go_sem] theorem DX:fOff Tryz.prog 78 1=some (1,3,1):=by kernel_rfl
@[go_sem] theorem DY:fOff Tryz.prog 78 2=some (2,3,1):=by kernel_rfl
@[go_sem] theorem Ii:zroT Tryz.prog 78=some (.agg [.int .i64 0,.int .i64 0,.int .i64 0]):=by kernel_rfl
@[go_sem] theorem Ij:szOf Tryz.prog 86=some 4:=by kernel_rfl
@[go_sem] theorem Ik:aggT Tryz.prog 86=some true:=by kernel_rfl
@[go_sem] theorem Jw:byT Tryz.prog 86=some 48:=by kernel_rfl
@[go_sem] theorem Il:nFld Tryz.prog 86=some 4:=by kernel_rfl
@[go_sem] theorem DZ:fOff Tryz.prog 86 0=some (0,3,1):=by kernel_rfl
@[go_sem] theorem E1:fOff Tryz.prog 86 1=some (1,3,1):=by kernel_rfl
@[go_sem] theorem E2:fOff Tryz.prog 86 2=some (2,9,1):=by kernel_rfl
@[go_sem] theorem E3:fOff Tryz.prog 86 3=some (3,9,1):=by kernel_rfl
@[go_sem] theorem Im:zroT Tryz.prog 86=some (.agg [.int .i64 0,.int .i64 0,.str [],.str []]):=by kernel_rfl
@[go_sem] theorem In:szOf Tryz.prog 87=some 1:=by kernel_rfl
@[go_sem] theorem Io:aggT Tryz.prog 87=some false:=by kernel_rfl
@[go_sem] theorem Ip:mapT Tryz.prog 87=some (3,99):=by kernel_rfl
@[go_sem] theorem Iq:szOf Tryz.prog 88=some 1:=by kernel_rfl
@[go_sem] theorem Ir:aggT Tryz.prog 88=some false:=by kernel_rfl
@[go_sem] theorem Iu:mapT Tryz.prog 88=some (3,86):=by kernel_rfl
@[go_sem] theorem Iv:szOf Tryz.prog 89=some 1:=by kernel_rfl
@[go_sem] theorem Iw:aggT Tryz.prog 89=some false:=by kernel_rfl
@[go_sem] theorem Ix:mapT Tryz.prog 89=some (3,69):=by kernel_rfl
@[go_sem] theorem Iy:szOf Tryz.prog 90=some 1:=by kernel_rfl
@[go_sem] theorem Iz:aggT Tryz.prog 90=some false:=by kernel_rfl
@[go_sem] theorem IA:mapT Tryz.prog 90=some (3,115):=by kernel_rfl
@[go_sem] theorem IB:szOf Tryz.prog 91=some 1:=by kernel_rfl
@[go_sem] theorem IC:aggT Tryz.prog 91=some false:=by kernel_rfl
@[go_sem] theorem IE:mapT Tryz.prog 91=some (101,3):=by kernel_rfl
@[go_sem] theorem IF:szOf Tryz.prog 92=some 1:=by kernel_rfl
@[go_sem] theorem IG:aggT Tryz.prog 92=some false:=by kernel_rfl
@[go_sem] theorem IH:mapT Tryz.prog 92=some (9,3):=by kernel_rfl
@[go_sem] theorem II:szOf Tryz.prog 93=some 1:=by kernel_rfl
@[go_sem] theorem IJ:aggT Tryz.prog 93=some false:=by kernel_rfl
@[go_sem] theorem IK:mapT Tryz.prog 93=some (135,3):=by kernel_rfl
@[go_sem] theorem IL:szOf Tryz.prog 94=some 1:=by kernel_rfl
@[go_sem] theorem IM:aggT Tryz.prog 94=some false:=by kernel_rfl
@[go_sem] theorem IO:mapT Tryz.prog 94=some (3,3):=by kernel_rfl
@[go_sem] theorem IP:arrT Tryz.prog 95=some (4,3):=by kernel_rfl
@[go_sem] theorem IQ:nFld Tryz.prog 97=some 10:=by kernel_rfl
@[go_sem] theorem E4:fOff Tryz.prog 97 0=some (0,3,1):=by kernel_rfl
@[go_sem] theorem E5:fOff Tryz.prog 97 1=some (1,87,1):=by kernel_rfl
@[go_sem] theorem E6:fOff Tryz.prog 97 2=some (2,88,1):=by kernel_rfl
@[go_sem] theorem E7:fOff Tryz.prog 97 3=some (3,89,1):=by kernel_rfl
@[go_sem] theorem E8:fOff Tryz.prog 97 4=some (4,90,1):=by kernel_rfl
@[go_sem] theorem E9:fOff Tryz.prog 97 5=some (5,91,1):=by kernel_rfl
@[go_sem] theorem Ea:fOff Tryz.prog 97 6=some (6,92,1):=by kernel_rfl
@[go_sem] theorem Eb:fOff Tryz.prog 97 7=some (7,93,1):=by kernel_rfl
@[go_sem] theorem Ec:fOff Tryz.prog 97 8=some (8,94,1):=by kernel_rfl
@[go_sem] theorem Ed:fOff Tryz.prog 97 9=some (9,95,4):=by kernel_rfl
@[go_sem] theorem IR:zroT Tryz.prog 97=some (.agg [.int .i64 0,.nil (.map none),.nil (.map none),.nil (.map none),.nil (.map none),.nil (.map none),.nil (.map none),.nil (.map none),.nil (.map none),.int .i64 0,.int .i64 0,.int .i64 0,.int .i64 0]):=by kernel_rfl
@[go_sem] theorem IS:szOf Tryz.prog 99=some 3:=by kernel_rfl
@[go_sem] theorem IT:aggT Tryz.prog 99=some true:=by kernel_rfl
@[go_sem] theorem Jx:byT Tryz.prog 99=some 32:=by kernel_rfl
@[go_sem] theorem IU:nFld Tryz.prog 99=some 3:=by kernel_rfl
@[go_sem] theorem Ee:fOff Tryz.prog 99 0=some (0,3,1):=by kernel_rfl
@[go_sem] theorem Ef:fOff Tryz.prog 99 1=some (1,3,1):=by kernel_rfl
@[go_sem] theorem Eg:fOff Tryz.prog 99 2=some (2,9,1):=by kernel_rfl
@[go_sem] theorem IV:zroT Tryz.prog 99=some (.agg [.int .i64 0,.int .i64 0,.str []]):=by kernel_rfl
@[go_sem] theorem FD:nFld Tryz.prog 101=some 2:=by kernel_rfl
@[go_sem] theorem Bq:fOff Tryz.prog 101 0=some (0,3,1):=by kernel_rfl
@[go_sem] theorem Br:fOff Tryz.prog 101 1=some (1,9,1):=by kernel_rfl
@[go_sem] theorem Bt:plainT Tryz.prog 101=some [0,2]:=by kernel_rfl
@[go_sem] theorem FE:zroT Tryz.prog 101=some (.agg [.int .i64 0,.str []]):=by kernel_rfl
@[go_sem] theorem FF:szOf Tryz.prog 115=some 3:=by kernel_rfl
@[go_sem] theorem IW:byT Tryz.prog 115=some 40:=by kernel_rfl
@[go_sem] theorem FG:nFld Tryz.prog 115=some 3:=by kernel_rfl
@[go_sem] theorem Bu:fOff Tryz.prog 115 0=some (0,3,1):=by kernel_rfl
@[go_sem] theorem Bv:fOff Tryz.prog 115 1=some (1,9,1):=by kernel_rfl
@[go_sem] theorem Bw:fOff Tryz.prog 115 2=some (2,9,1):=by kernel_rfl
@[go_sem] theorem FH:zroT Tryz.prog 115=some (.agg [.int .i64 0,.str [],.str []]):=by kernel_rfl
@[go_sem] theorem FI:szOf Tryz.prog 123=some 1:=by kernel_rfl
@[go_sem] theorem FJ:aggT Tryz.prog 123=some false:=by kernel_rfl
@[go_sem] theorem FK:nFld Tryz.prog 135=some 2:=by kernel_rfl
@[go_sem] theorem By:fOff Tryz.prog 135 0=some (0,3,1):=by kernel_rfl
@[go_sem] theorem Bz:fOff Tryz.prog 135 1=some (1,9,1):=by kernel_rfl
@[go_sem] theorem BA:plainT Tryz.prog 135=some [0,2]:=by kernel_rfl
@[go_sem] theorem FL:zroT Tryz.prog 135=some (.agg [.int .i64 0,.str []]):=by kernel_rfl
@[go_sem] theorem FM:szOf Tryz.prog 158=some 1:=by kernel_rfl
@[go_sem] theorem FN:aggT Tryz.prog 158=some false:=by kernel_rfl
@[go_sem] theorem FO:mapT Tryz.prog 158=some (3,42):=by kernel_rfl
@[go_sem] theorem FP:nFld Tryz.prog 160=some 2:=by kernel_rfl
@[go_sem] theorem BB:fOff Tryz.prog 160 0=some (0,31,1):=by kernel_rfl
@[go_sem] theorem BC:fOff Tryz.prog 160 1=some (1,158,1):=by kernel_rfl
@[go_sem] theorem FQ:zroT Tryz.prog 160=some (.agg [.nil (.pointer none),.nil (.map none)]):=by kernel_rfl
@[go_sem] theorem FR:szOf Tryz.prog 163=some 1:=by kernel_rfl
@[go_sem] theorem FS:aggT Tryz.prog 163=some false:=by kernel_rfl
@[go_sem] theorem FT:szOf Tryz.prog 172=some 6:=by kernel_rfl
@[go_sem] theorem FU:aggT Tryz.prog 172=some true:=by kernel_rfl
@[go_sem] theorem FV:nFld Tryz.prog 172=some 6:=by kernel_rfl
@[go_sem] theorem BD:fOff Tryz.prog 172 0=some (0,3,1):=by kernel_rfl
@[go_sem] theorem BE:fOff Tryz.prog 172 1=some (1,3,1):=by kernel_rfl
@[go_sem] theorem BF:fOff Tryz.prog 172 2=some (2,3,1):=by kernel_rfl
@[go_sem] theorem BG:fOff Tryz.prog 172 3=some (3,3,1):=by kernel_rfl
@[go_sem] theorem BH:fOff Tryz.prog 172 4=some (4,3,1):=by kernel_rfl
@[go_sem] theorem BI:fOff Tryz.prog 172 5=some (5,3,1):=by kernel_rfl
@[go_sem] theorem FW:zroT Tryz.prog 172=some (.agg [.int .i64 0,.int .i64 0,.int .i64 0,.int .i64 0,.int .i64 0,.int .i64 0]):=by kernel_rfl
@[go_sem] theorem FX:elmT Tryz.prog 195=some 21:=by kernel_rfl
@[go_sem] theorem IX:Program.underlying Tryz.prog 212=some (.int .u32):=by kernel_rfl
@[go_sem] theorem FY:szOf Tryz.prog 223=some 1:=by kernel_rfl
@[go_sem] theorem FZ:aggT Tryz.prog 223=some false:=by kernel_rfl
@[go_sem] theorem G0:elmT Tryz.prog 223=some 5:=by kernel_rfl
@[go_sem] theorem G1:szOf Tryz.prog 235=some 1:=by kernel_rfl
@[go_sem] theorem G2:aggT Tryz.prog 235=some false:=by kernel_rfl
@[go_sem] theorem BJ:fOff Tryz.prog 237 0=some (0,235,1):=by kernel_rfl
@[go_sem] theorem BK:fOff Tryz.prog 237 1=some (1,223,1):=by kernel_rfl
@[go_sem] theorem G3:zroT Tryz.prog 237=some (.agg [.nil (.pointer none),.nil (.slice none 0 0)]):=by kernel_rfl
end Go.Av.Ty
namespace Go.Av
open Go Go.Proofs Go.RowKit
noncomputable def CT(G:Nat→Option (List AVal)):Ctx:=⟨Tryz.prog,G⟩
@[go_sem] theorem Kw(G:Nat→Option (List AVal)):(CT G).P=Tryz.prog:=(rfl)
@[go_sem] theorem yY(G:Nat→Option (List AVal)):(CT G).G=G:=(rfl)
abbrev Bs:=List UInt8
abbrev At:=Bs×Bs
def At.av(a:At):AVal:=.agg [.str a.1,.str a.2]
abbrev Tok:=Int×Bs×List At×Bs
def Tok.av(t:Tok):AVal:=.agg [.int .i64 t.1,.str t.2.1,.sl 2 (t.2.2.1.map At.av),.str t.2.2.2]
inductive Elem where
 |mk (name:Bs) (attrs:List At) (text:Bs) (kids:List Elem)
 deriving Inhabited
namespace Elem
def name:Elem→Bs| .mk n _ _ _=>n
end Elem
mutual
def Elem.av:Elem→AVal
 | .mk n a t k=>.agg [.str n,.sl 2 (a.map At.av),.str t,.sl 4 (avs k)]
def avs:List Elem→List AVal
 | []=>[]
 |e::l=>e.av::avs l
end
def At.sz(a:At):Nat:=1+a.1.length+a.2.length
def szs{α:Type}(f:α→Nat):List α→Nat
 | []=>0
 |a::l=>f a+szs f l
mutual
def Elem.sz:Elem→Nat
 | .mk n a t k=>1+n.length+szs At.sz a+t.length+kidsz k
def kidsz:List Elem→Nat
 | []=>0
 |e::l=>e.sz+kidsz l
end
def Tok.sz(t:Tok):Nat:=1+t.2.1.length+szs At.sz t.2.2.1+t.2.2.2.length
@[go_sem] theorem Eh(h:Heap)(a b:Bool):abin Tryz.prog h .eql 4 (.bool a) (.bool b)=some (.bool (a==b)):=by
 have hT:Tryz.prog.underlying 4=some .bool:=by kernel_rfl
 simp only[abin,hT]
@[go_sem] theorem yZ(n:Nat):(n:Int)+1=((n+1:Nat):Int):=(rfl)
theorem ac{α:Type}{l:List α}{k:Nat}(h:k<l.length):∃a,l[k]? =some a∧a∈l:=⟨l[k],L9 h,List.getElem_mem h⟩
theorem aF{α:Type}{l:List α}{k:Nat}{a:α}(h:l[k]? =some a):l.drop k=a::l.drop (k+1):=by
 obtain⟨hlt,rfl⟩:=f9.1 h;exact List.drop_eq_getElem_cons hlt
theorem aG{α:Type}{l:List α}{k:Nat}(h:l.length≤k):l.drop k=[]:=List.drop_eq_nil_of_le h
end Go.Av
namespace Go.Av
open Go.RowKit Go.ChangeShapes Go.WideShapes
section
variable {H:Type} {enc:TypeId×Value→H} {P:Program}
theorem gO{w w':World}{base:Nat}{sp:Nat→Bool}{held:Bool}:∀{ts:List TypeId} {vs:List Value} {ds:List (DataW H)} {ps:List MemPlace},DataW.TrodAll enc P w base sp held ts vs ds ps→(∀p∈ps,w.sameAt w' p)→DataW.TrodAll enc P w' base sp held ts vs ds ps
 | [],[],[],_,h,_=>h
 |_::_,_::_,_::_,_,⟨p,q,⟨n,h1⟩,h2,e⟩,hs=>⟨p,q,⟨n,DataW.trod_carry n _ _ _ h1 (fun x hx=>hs x (by rw[e];exact List.mem_append_left _ hx))⟩,gO h2 (fun x hx=>hs x (by rw[e];exact List.mem_append_right _ hx)),e⟩
theorem mg{f:Func}{s:ChangeSpec}{apart fresh handsOn again:Bool}{W W':World}{args:Array Value}{v:Value}{ds gs:List (DataW H)}{before:List MemPlace}
  (K:Kids P (· < P.types.size))(full:∀t e,t<P.types.size→P.underlying t=some (.slice e)→0<P.cellsOf e)(hts:∀t∈f.params.toList,t<P.types.size)
  (hv:s.vars=[])(hfn:s.fn H (ds++gs)= {results:=[.lit (.bool true)],args:=ds}){tb:TypeId}(hres:f.resultTypes= #[tb])(hb:P.underlying tb=some .bool)
  (hW:DataW.Whole enc P f.params.toList s.vars apart W args.toList ds gs before)(hbel:Below W.heap.size W W')(hvv:v=.bool true):
  s.post enc P f apart fresh handsOn again W args v W':=by
 subst hvv;have hlt:=hW.lt;obtain⟨p,q,hA,hV,hbe,hz,hn⟩:=hW;have hV0:=hV;rw[hv]at hV0;obtain⟨rfl,rfl⟩:=trodVars_none hV0;simp only[O2]at hbe;subst hbe;have hA':=gO hA fun x hx=>hbel.same (hlt x hx)
 have hold:∀x∈before,(fun b=>decide (b<W.heap.size)) x.block=true:=fun x hx=>by simpa using hlt x hx
 have hr:∀(b:Nat) (sp:Nat→Bool) (hd:Bool),DataW.TrodAll enc P W' b sp hd f.resultTypes.toList ((Value.bool true).resultList f.resultTypes.size) [.lit (.bool true)] []:=fun b sp hd=>by
  rw[hres];exact trodAll_mk1 (shut_bool hb true)
 refine⟨ds,[],before,[],before,[],⟨before,[],hA,hV,by simp,hz,hn⟩,by rw[hfn];exact hr _ _ _,by rw[hfn];exact hA'.respare K full hts hold,by rw[hfn,hv];rfl,hbel.frame _,fun _=>⟨ok_one hres rfl (okWide_bool_mk hb _),[.lit (.bool true)]++ds,[],before,⟨before,[],?_,by rw[hv];rfl,by simp,?_,fun ha=>hn ha⟩,fun x hx _=>hx⟩⟩
 ·have:=trodAll_append hA' (hr 0 (fun _=>true) true);simpa using this
 ·intro b off hp;have h1:=hz b off hp;have h2:=hlt _ hp;rw[hbel.frozen (p:=⟨b,off,none⟩) h2];exact h1
def lies0(W:World):Addr→Prop:=fun a=>(W.cell? a).isSome=true
theorem vn{W:World}{a:Addr}(h:lies0 W a):a.block<W.heap.size:=by
 unfold lies0 World.cell? at h;refine Nat.lt_of_not_le fun hle=>?_
 rw[Array.getElem?_eq_none hle]at h;cases h
theorem BL{C:Ctx}{W:World}(hg:∀g cs,C.G g=some cs→Rep W (lies0 W) [] (.ad cs) (.pointer (some ⟨g,0,none⟩))):Fits C W.heap.size (lies0 W) [] [] W:=
 ⟨hg,rfl,fun p q m m' b h=>by simp at h,fun p m b h=>by simp at h,M2 _,fun a ha=>vn ha,fun p m k h=>by simp at h⟩
theorem mM{C:Ctx}{f:FuncId}{fn:Func}{c:Code}(hf:C.P.funcs[f]? =some fn)(hb:fn.body=some c)(hname:(fn.name== "runtime.NumGoroutine")=false){W:World}{args:Array Value}{xs:List AVal}
  (fit:Fits C W.heap.size (lies0 W) [] [] W)(rl:RepL W (lies0 W) [] xs args.toList)(sat:Sat C f xs [] fun r h'=>r=.bool true∧h'=[]):
  Calls C.P f args W fun e W'=>e=.returned (.bool true)∧Below W.heap.size W W':=by
 have h:=sat _ _ [] W args.toList fit rl;have hcall:(callFunc f args.toList.toArray).run C.P W=.ok (.enter f args.toList.toArray) W:=by
  have hne:fn.name≠ "runtime.NumGoroutine" :=by simpa using hname
  simp[callFunc,hf,hne,hb]
 rw[hcall]at h;have h:Calls C.P f args.toList.toArray W fun e w''=>∃v,e=.returned v∧OpPost C W.heap.size (lies0 W) [] W (fun r h'=>r=.bool true∧h'=[]) v w'':=h
 rw[Array.toArray_toList]at h;refine h.mono fun e W' ⟨v,he,r,h',S',μ',⟨hr,_⟩,st,_,hrep⟩=>?_
 subst hr;rw[hrep.bool_inv]at he;exact⟨he,st.below⟩
theorem jP{C:Ctx}{f:FuncId}{fn:Func}{c:Code}(hf:C.P.funcs[f]? =some fn)(hb:fn.body=some c)(hname:(fn.name== "runtime.NumGoroutine")=false){s:ChangeSpec}{apart fresh handsOn again:Bool}{W:World}{args:Array Value}{xs:List AVal}{ds gs:List (DataW H)}{before:List MemPlace}
  (K:Kids C.P (· < C.P.types.size))(full:∀t e,t<C.P.types.size→C.P.underlying t=some (.slice e)→0<C.P.cellsOf e)(hts:∀t∈fn.params.toList,t<C.P.types.size)
  (hv:s.vars=[])(hfn:s.fn H (ds++gs)= {results:=[.lit (.bool true)],args:=ds}){tb:TypeId}(hres:fn.resultTypes= #[tb])(hbt:C.P.underlying tb=some .bool)
  (hW:DataW.Whole enc C.P fn.params.toList s.vars apart W args.toList ds gs before)
  (hg:∀g cs,C.G g=some cs→Rep W (lies0 W) [] (.ad cs) (.pointer (some ⟨g,0,none⟩)))(rl:RepL W (lies0 W) [] xs args.toList)(sat:Sat C f xs [] fun r h'=>r=.bool true∧h'=[]):
  Calls C.P f args W fun e W'=>∃v,e=.returned v∧s.post enc C.P fn apart fresh handsOn again W args v W':=
 (mM hf hb hname (BL hg) rl sat).mono fun e W' ⟨he,hbel⟩=>⟨_,he,mg K full hts hv hfn hres hbt hW hbel rfl⟩
def Rd(H:Type)(enc:TypeId×Value→H)(P:Program)(W:World)(n:Nat)(t:TypeId){α:Type}(cl:α→List AVal)(sz:α→Nat):Prop:=
 ∀(cs:List Value) (x:DataW H×List MemPlace),DataW.trod enc P W 0 (fun _=>true) true n t cs=some x→
  ∃a:α,(cl a).length=cs.length∧(∀(j:Nat) (c:AVal),(cl a)[j]? =some c→c.sto=true∧Rep W (lies0 W) [] c (cs.getD j undef))∧sz a≤Go.Proofs.YtllhfnepgcbjnaaGreat.Rows.uptoBulk x.1
variable {W:World}
theorem mN{n:Nat}{t:TypeId}(ht:P.underlying t=some .string):Rd H enc P W n t (fun s:List UInt8=>[.str s]) (fun s=>s.length+1):=fun cs x h=>by
 obtain⟨s,rfl,rfl,_⟩:=DataW.trod_string ht h;refine⟨s.data.toList,rfl,fun j c hj=>?_,?_⟩
 ·match j with
  |0=>simp at hj;subst hj;exact⟨rfl,.str _⟩
  |j+1=>simp at hj
 ·simp[Go.Proofs.YtllhfnepgcbjnaaGreat.Rows.uptoBulk]
theorem d8{n:Nat}{t:TypeId}{k:IntKind}(ht:P.underlying t=some (.int k)):Rd H enc P W n t (fun i: {i:Int//(Lit.int k i).wf=true}=>[.int k i.1]) (fun _=>1):=fun cs x h=>by
 obtain⟨i,rfl,rfl,hw⟩:=DataW.trod_int ht h;refine⟨⟨i,hw⟩,rfl,fun j c hj=>?_,?_⟩
 ·match j with
  |0=>simp at hj;subst hj;exact⟨rfl,.int _ _⟩
  |j+1=>simp at hj
 ·simp[Go.Proofs.YtllhfnepgcbjnaaGreat.Rows.uptoBulk]
theorem xi{n:Nat}{t:TypeId}(ht:P.underlying t=some .bool):Rd H enc P W n t (fun b:Bool=>[.bool b]) (fun _=>1):=fun cs x h=>by
 obtain⟨b,rfl,rfl⟩:=DataW.trod_bool ht h;refine⟨b,rfl,fun j c hj=>?_,?_⟩
 ·match j with
  |0=>simp at hj;subst hj;exact⟨rfl,.bool _⟩
  |j+1=>simp at hj
 ·simp[Go.Proofs.YtllhfnepgcbjnaaGreat.Rows.uptoBulk]
def szL{α:Type}(f:α→Nat):List α→Nat
 | []=>0
 |a::l=>f a+szL f l
theorem o7{α:Type}(sz:α→Nat)(D:Nat→DataW H)(l:List α)(s:Nat)(h:∀(i:Nat) (a:α),l[i]? =some a→sz a≤Go.Proofs.YtllhfnepgcbjnaaGreat.Rows.uptoBulk (D (s+i))):szL sz l≤Go.Proofs.YtllhfnepgcbjnaaGreat.Rows.uptoBulkAll ((List.range' s l.length).map D):=by
 induction l generalizing s with
 |nil=>exact Y4 _
 |cons a l ih=>
  simp only[M8,List.range'_succ,N7,szL,Go.Proofs.YtllhfnepgcbjnaaGreat.Rows.uptoBulkAll];have h0:=h 0 a rfl;have:=ih (s+1) fun i b hb=>by
   have:=h (i+1) b (by simpa using hb)
   rwa [show s+1+i=s+(i+1) by omega]
  simp only[Y9]at h0;omega
theorem mO{n:Nat}{t e m:TypeId}{α:Type}{cl:α→List AVal}{sz:α→Nat}(mk:α→AVal)(ht:P.underlying t=some (.slice e))(hm:P.cellsOf e=m)(hm0:0<m)(hmk:∀a,(mk a).cells=cl a)(hl:∀a,(cl a).length=m)
  (hel:∀k,k<n→Rd H enc P W k e cl sz):Rd H enc P W n t (fun l:List α=>[.sl m (l.map mk)]) (fun l=>szL sz l+1):=fun cs x h=>by
 rcases DataW.trod_slice ht h with⟨rfl,rfl⟩| ⟨a,len,cap,elems,rest,n',hn,rfl,rfl,hb,hlc,hmx,hlen,hel',hsp,hns⟩
 ·refine⟨[],rfl,fun j c hj=>?_,?_⟩
  ·match j with
   |0=>simp at hj;subst hj;exact⟨rfl,.sl0 _ _ _⟩
   |j+1=>simp at hj
  ·simp[szL,Go.Proofs.YtllhfnepgcbjnaaGreat.Rows.uptoBulk]
 ·subst hn;have at_:∀i,i<len→∃al:α,(∀(j:Nat) (c:AVal),(cl al)[j]? =some c→c.sto=true∧∃v,W.cell? ((a.add (i*m)).add j)=some v∧Rep W (lies0 W) [] c v)∧sz al≤Go.Proofs.YtllhfnepgcbjnaaGreat.Rows.uptoBulk (elems.getD i (.nil,[])).1:=fun i hi=>by
   have h1:=hel' i hi;rw[L9 (by omega)]at h1;obtain⟨cs',h2,h3⟩:=Option.bind_eq_some_iff.1 h1;obtain⟨al,k1,k2,k3⟩:=hel n' (by omega) _ _ h3;obtain⟨_,k5,k6⟩:=World.cells?_some h2;refine⟨al,fun j c hj=>?_,?_⟩
   ·obtain⟨s1,s2⟩:=k2 j c hj;have hjl:=(f9.1 hj).1;have hc:=k6 j (by omega);rw[hm]at hc;rw[L9 (by omega)]at hc;refine⟨s1,_,hc,?_⟩;simpa [List.getD,L9 (show j<cs'.length by omega)]using s2
   ·simpa [List.getD,L9 (show i<elems.length by omega)]using k3
  cases len with
  |zero=>
   refine⟨[],rfl,fun j c hj=>?_,?_⟩
   ·match j with
    |0=>simp at hj;subst hj;exact⟨rfl,.sl0 _ _ _⟩
    |j+1=>simp at hj
   ·simp[szL,Go.Proofs.YtllhfnepgcbjnaaGreat.Rows.uptoBulk]
  |succ len=>
   have hspot:a.spot=none:=by
    obtain⟨al,k1,_⟩:=at_ 0 (by omega);have hc:=L9 (show 0<(cl al).length by rw[hl];exact hm0);obtain⟨_,v,hv,_⟩:=k1 0 _ hc;simp only[zc2,Addr.add,M1]at hv;unfold World.cell? at hv;split at hv
    ·cases hs:a.spot with
     |none=>rfl
     |some q=>rw[hs]at hv;simp at hv
    ·cases hv
   obtain⟨b,off,sp⟩:=a;simp only at hspot;subst hspot;have hadd:∀i j,((⟨b,off,none⟩:Addr).add (i*m)).add j=⟨b,off+(i*m+j),none⟩:=fun i j=>by
    rw[bp,bp,Nat.add_assoc]
   have hch:∀n,n≤len+1→∃l:List α,l.length=n∧∀(i:Nat) (al:α),l[i]? =some al→(∀(j:Nat) (c:AVal),(cl al)[j]? =some c→c.sto=true∧∃v,W.cell? ⟨b,off+(i*m+j),none⟩=some v∧Rep W (lies0 W) [] c v)∧sz al≤Go.Proofs.YtllhfnepgcbjnaaGreat.Rows.uptoBulk (elems.getD i (.nil,[])).1:=by
    intro n;induction n with
    |zero=>intro _;exact⟨[],rfl,fun i al h=>by simp at h⟩
    |succ n ih=>
     intro hn;obtain⟨l,h1,h2⟩:=ih (by omega);obtain⟨al,k1,k2⟩:=at_ n (by omega);refine⟨l++[al],by simp[h1],fun i al' hi=>?_⟩;rcases aO hi with h3| ⟨h3,rfl⟩
     ·exact h2 i al' h3
     ·rw[h3,h1];exact⟨fun j c hj=>by have:=k1 j c hj;rwa [hadd]at this,k2⟩
   obtain⟨l,hll,hl2⟩:=hch (len+1) (M2 _);refine⟨l,rfl,fun j c hj=>?_,?_⟩
   ·match j with
    |0=>
     simp at hj;subst hj;refine⟨rfl,?_⟩;have key:=Rep.sl (w:=W) (S:=lies0 W) (μ:=[]) m (l.map mk) b off cap (fun i j=>(W.cell? ⟨b,off+(i*m+j),none⟩).getD undef) (by intro e;have:=P9 List.length e;simp[hll]at this) (by simp[hll];exact hlc) hmx
      (fun i e hi=>by
       rw[N8]at hi;obtain⟨al,_,rfl⟩:=N1.1 hi;rw[hmk,hl])
      (fun i e j c hi hj=>by
       rw[N8]at hi;obtain⟨al,h1,rfl⟩:=N1.1 hi;rw[hmk]at hj;obtain⟨s1,v,s2,s3⟩:=(hl2 i al h1).1 j c hj;exact⟨by unfold lies0;rw[s2];rfl,by rw[s2];rfl,s1⟩)
      (fun i e j c hi hj=>by
       rw[N8]at hi;obtain⟨al,h1,rfl⟩:=N1.1 hi;rw[hmk]at hj;obtain⟨s1,v,s2,s3⟩:=(hl2 i al h1).1 j c hj;simp only[s2,Q8];exact s3)
     simpa [hll]using key
    |j+1=>simp at hj
   ·have hb:=o7 sz (fun i=>(elems.getD i (.nil,[])).1) l 0 fun i al hi=>by rw[Q9];exact(hl2 i al hi).2
    have he:(List.range' 0 l.length).map (fun i=>(elems.getD i (.nil,[])).1)=elems.map (·.1):=by
     rw[Deep.map_by_index elems (.nil,[]) (·.1),hll,hlen,List.range_eq_range']
    rw[he]at hb;simp only[Go.Proofs.YtllhfnepgcbjnaaGreat.Rows.uptoBulk];omega
theorem sK{n:Nat}{t:TypeId}{fs:Array Field}(ht:P.underlying t=some (.struct fs))(hk:P.cellsOf t=fs.size)(ho:∀(j:Nat) (f:Field),fs[j]? =some f→f.offset=j∧P.cellsOf f.type=1){cs:List Value}{x:DataW H×List MemPlace}
  (h:DataW.trod enc P W 0 (fun _=>true) true n t cs=some x):
  ∃(xs:List (DataW H×List MemPlace)) (n':Nat),n=n'+1∧x.1=.agg (xs.map (·.1))∧cs.length=fs.size∧xs.length=fs.size∧∀(j:Nat) (f:Field),fs[j]? =some f→∃y,xs[j]? =some y∧DataW.trod enc P W 0 (fun _=>true) true n' f.type [cs.getD j undef]=some y:=by
 obtain⟨xs,n',hn,rfl,hl,hlen,hf⟩:=DataW.trod_struct ht h;refine⟨xs,n',hn,rfl,by omega,hlen,fun j f hj=>?_⟩;have hlt:=(O6.1 hj).1;obtain⟨h1,h2⟩:=ho j f hj;have:=hf j f hj;rw[h1,h2]at this;have hx:=L9 (show j<xs.length by omega);rw[hx]at this;refine⟨_,hx,?_⟩;rw[← this];have hc:=L9 (show j<cs.length by omega);congr 1
 rw[List.drop_eq_getElem_cons (show j<cs.length by omega),List.getD,hc];rfl
end
end Go.Av
namespace Go.Av
open Go.RowKit
def preOkG(st:Bool)(ops:Array Oper)(k:Nat):Bool:=
 let b:=Region.before ops
 (List.range ops.size).all fun j=>match ops[j]? with
  |none=>true
  |some oj=>if j<k then
    (oj.after.all fun e=>(!st&& !Region.binds .any e)||decide (e.on<j))&&(List.range j).all fun i=>match ops[i]? with
    |none=>true
    |some oi=>
     (!(b.getD j 0).testBit i||oj.after.any fun e=>Region.binds .any e&&(e.on==i||(decide (i<e.on)&&(b.getD e.on 0).testBit i)))&&
     (((b.getD j 0).testBit i||oi.apart ops oj)&&(oi.dst.isNone||oi.dst !=oj.dst))
   else(List.range k).all fun i=>oj.after.any fun e=>Region.binds .any e&&(e.on==i||(decide (e.on<k)&&decide (i<e.on)&&(b.getD e.on 0).testBit i))
def preOk(ops:Array Oper)(k:Nat):Bool:=preOkG true ops k
structure PreOk (ops:Array Oper) (k:Nat) (c:Nat→Nat→Bool):Prop where
 less:∀(j:Nat) (oj:Oper),ops[j]? =some oj→j<k→∀e∈oj.after,Region.binds .any e=true→e.on<j
 cert:∀(i j:Nat) (oj:Oper),ops[j]? =some oj→j<k→i<j→c i j=true→∃e∈oj.after,Region.binds .any e=true∧(e.on=i∨(i<e.on∧c i e.on=true))
 sfx:∀(i j:Nat) (oj:Oper),ops[j]? =some oj→i<k→k≤j→∃e∈oj.after,Region.binds .any e=true∧(e.on=i∨(e.on<k∧i<e.on∧c i e.on=true))
 pre:∀(i j:Nat) (oi oj:Oper),ops[i]? =some oi→ops[j]? =some oj→i<j→j<k→(c i j=true∨oi.apart ops oj=true)∧(∀d,oi.dst=some d→oj.dst≠some d)
theorem fF{st:Bool}{ops:Array Oper}{k:Nat}(hk:preOkG st ops k=true):PreOk ops k fun i j=>((Region.before ops).getD j 0).testBit i:=by
 unfold preOkG at hk;simp only[P8,T9]at hk;have at_:∀(j:Nat) (oj:Oper),ops[j]? =some oj→_:=fun j oj hj=>by
  have:=hk j (O6.1 hj).1;rw[hj]at this;exact this
 have some_i:∀(i j:Nat) (oj:Oper),ops[j]? =some oj→i<j→∃oi,ops[i]? =some oi:=fun i j oj hj hij=>by
  have:=(O6.1 hj).1;exact⟨_,O8 (show i<ops.size by omega)⟩
 have key:∀(j:Nat) (oj:Oper),ops[j]? =some oj→j<k→(oj.after.all fun e=>(!st&& !Region.binds .any e)||decide (e.on<j))=true∧∀(i:Nat) (oi:Oper),ops[i]? =some oi→i<j→
   ((!((Region.before ops).getD j 0).testBit i||oj.after.any fun e=>Region.binds .any e&&(e.on==i||(decide (i<e.on)&&((Region.before ops).getD e.on 0).testBit i)))&&
    ((((Region.before ops).getD j 0).testBit i||oi.apart ops oj)&&(oi.dst.isNone||oi.dst !=oj.dst)))=true:=by
  intro j oj hj hjk;have:=at_ j oj hj;simp only[M1 hjk,L7,P8,T9]at this;refine⟨this.1,fun i oi hi hij=>?_⟩;have:=this.2 i hij;rw[hi]at this;simpa only[L7]using this
 refine⟨fun j oj hj hjk e he hb=>?_,fun i j oj hj hjk hij hc=>?_,fun i j oj hj hik hkj=>?_,fun i j oi oj hi hj hij hjk=>?_⟩
 ·have:=(key j oj hj hjk).1;rw[Array.all_eq_true_iff_forall_mem]at this;simpa [hb]using this e he
 ·obtain⟨oi,hi⟩:=some_i i j oj hj hij;have:=(key j oj hj hjk).2 i oi hi hij;simp only[L7,R6,P0]at this;rcases this.1 with h1|h1
  ·rw[hc]at h1;cases h1
  ·obtain⟨e,he,h2⟩:=Array.any_eq_true'.1 h1;simp only[L7,R6,beq_iff_eq,M7]at h2;exact⟨e,he,h2.1,h2.2⟩
 ·have:=at_ j oj hj;simp only[L5 (show ¬j<k by omega),P8,T9]at this;obtain⟨e,he,h2⟩:=Array.any_eq_true'.1 (this i hik);simp only[L7,R6,beq_iff_eq,M7]at h2;exact⟨e,he,h2.1,h2.2.imp id fun q=>⟨q.1.1,q.1.2,q.2⟩⟩
 ·have:=(key j oj hj hjk).2 i oi hi hij;simp only[L7,R6]at this;refine⟨this.2.1,fun d hd e=>?_⟩;rcases this.2.2 with h1|h1
  ·rw[hd]at h1;cases h1
  ·rw[hd,e]at h1;simp at h1
theorem jQ{ops:Array Oper}{k:Nat}(hk:preOk ops k=true):PreOk ops k fun i j=>((Region.before ops).getD j 0).testBit i:=fF hk
theorem PreOk.bef{ops:Array Oper}{L:Array Bool}{k:Nat}{c:Nat→Nat→Bool}(D:PreOk ops k c)(cl:Closed ops L):
  ∀(j:Nat) (oj:Oper),ops[j]? =some oj→j<k→∀i,i<j→c i j=true→(∀e∈oj.after,Region.binds .any e=true→L.getD e.on false=true)→L.getD i false=true:=by
 intro j;induction j using Nat.strongRecOn with
 |ind j ih=>
  intro oj hj hjk i hij hc hl;obtain⟨e,he,hb,h1⟩:=D.cert i j oj hj hjk hij hc;have h2:=hl e he hb;rcases h1 with rfl|h1
  ·exact h2
  ·have h3:=D.less j oj hj hjk e he hb;have hsz:=(O6.1 hj).1;have hoe:ops[e.on]? =some ops[e.on]:=O8 (by omega);exact ih e.on h3 _ hoe (by omega) i h1.1 h1.2 fun e' he' hb'=>cl e.on _ hoe h2 e' he' hb'
theorem PreOk.ag_put{ops:Array Oper}{k:Nat}{c:Nat→Nat→Bool}(D:PreOk ops k c){V:Nat→AVal}{t s:Env}{p p':Nat→Bool}(g:Ag ops k V t p s){i:Nat}{o:Oper}(hi:ops[i]? =some o)(hk:i<k)
  (hp:∀j,j<k→p' j=(p j||j==i)):Ag ops k V t p' (put s o.dst (V i)):=by
 have uniq:∀(j:Nat) (oj:Oper) (x:Nat),j<k→ops[j]? =some oj→oj.dst=some x→o.dst=some x→j=i:=fun j oj x hj hoj h1 h2=>by
  rcases V5 j i with h3|h3|h3
  ·exact absurd h2 ((D.pre j i oj o hoj hi h3 hk).2 x h1)
  ·exact h3
  ·exact absurd h1 ((D.pre i j o oj hi hoj h3 hj).2 x h2)
 refine⟨fun j oj x hj hoj hpj hd=>?_,fun x hn=>?_⟩
 ·by_cases hji:j=i
  ·subst hji;rw[hoj]at hi;cases hi;simp[Av.put,hd,upd]
  ·have:o.dst≠some x:=fun e=>hji (uniq j oj x hj hoj hd e)
   have hs:(Av.put s o.dst (V i)) x=s x:=by
    cases hdo:o.dst with
    |none=>rfl
    |some d=>simp only[Av.put,upd];rw[L5];intro e;subst e;exact this hdo
   rw[hs];exact g.1 j oj x hj hoj (by have:=hp j hj;rw[hpj]at this;simpa [hji]using this.symm) hd
 ·have:o.dst≠some x:=hn i o hk hi (by rw[hp i hk];simp);have hs:(Av.put s o.dst (V i)) x=s x:=by
   cases hdo:o.dst with
   |none=>rfl
   |some d=>simp only[Av.put,upd];rw[L5];intro e;subst e;exact this hdo
  rw[hs];exact g.2 x fun j oj hj hoj hpj=>hn j oj hj hoj (by rw[hp j hj,hpj];rfl)
theorem PreOk.ag_T{ops:Array Oper}{k:Nat}{c:Nat→Nat→Bool}(D:PreOk ops k c)(V:Nat→AVal)(t:Env)(hkn:k≤ops.size):∀i,i≤k→Ag ops k V t (fun j=>decide (j<i)) (Av.T V (ops.toList.take k) t i)
 |0,_=>by rw[i6];exact Ag.start ops k V t fun j _=>by simp
 |i+1,hi=>by
  have ih:=PreOk.ag_T D V t hkn i (by omega);have ho:ops[i]? =some (ops[i]'(by omega)):=O8 _;have ho2:(ops.toList.take k)[i]? =some (ops[i]'(by omega)):=by rw[U6,M1 (by omega)];simp
  rw[eS V _ t i _ ho2];refine D.ag_put ih ho (by omega) fun j hj=>?_
  by_cases h1:j<i
  ·have h2:j<i+1:=(by omega);simp[h1,h2]
  ·by_cases h2:j=i
   ·subst h2;simp
   ·have h3:¬j<i+1:=(by omega);have h4:(j==i)=false:=(by simpa using h2);simp[h1,h3,h4]
theorem PreOk.sees{ops:Array Oper}{k:Nat}{c:Nat→Nat→Bool}(D:PreOk ops k c){V:Nat→AVal}{t s:Env}{L:Array Bool}(cl:Closed ops L)(g:Ag ops k V t (fun j=>L.getD j false) s)
  {i:Nat}{o:Oper}(hi:ops[i]? =some o)(hk:i<k)(hkn:k≤ops.size)(hun:L.getD i false=false)(hrd:∀e∈o.after,Region.binds .any e=true→L.getD e.on false=true):
  ∀d∈o.looksAt ops,Av.T V (ops.toList.take k) t i d=s d:=by
 intro d hd;have gT:=D.ag_T V t hkn i (by omega);by_cases hx:∃(j:Nat) (oj:Oper),j<k∧ops[j]? =some oj∧oj.dst=some d
 ·obtain⟨j,oj,hj,hoj,hdj⟩:=hx;have uniq:∀(j':Nat) (o':Oper),j'<k→ops[j']? =some o'→o'.dst=some d→j'=j:=fun j' o' hj' ho' h1=>by
   rcases V5 j' j with h3|h3|h3
   ·exact absurd hdj ((D.pre j' j o' oj ho' hoj h3 hj).2 d h1)
   ·exact h3
   ·exact absurd h1 ((D.pre j j' oj o' hoj ho' h3 hj').2 d hdj)
  rcases V5 j i with h3|h3|h3
  ·have hc:c j i=true:=by
    rcases(D.pre j i oj o hoj hi h3 hk).1 with h4|h4
    ·exact h4
    ·exact absurd hd ((Oper.apart_spec h4).1 d hdj)
   have hl:=D.bef cl i o hi hk j h3 hc hrd;rw[gT.1 j oj d hj hoj (by simpa using h3) hdj,g.1 j oj d hj hoj hl hdj]
  ·subst h3;rw[gT.2 d fun j' o' hj' ho' hp h1=>by have:=uniq j' o' hj' ho' h1;subst this;simp at hp,
    g.2 d fun j' o' hj' ho' hp h1=>by have:=uniq j' o' hj' ho' h1;subst this;simp only[hun]at hp;cases hp]
  ·have hc:c i j=true:=by
    rcases(D.pre i j o oj hi hoj h3 hj).1 with h4|h4
    ·exact h4
    ·exact absurd hd ((Oper.apart_spec h4).2.2 d hdj)
   have hl:L.getD j false=false:=by
    cases hlj:L.getD j false with
    |false=>rfl
    |true=>have:=D.bef cl j oj hoj hj i h3 hc (cl j oj hoj hlj);rw[hun]at this;cases this
   rw[gT.2 d fun j' o' hj' ho' hp h1=>by have:=uniq j' o' hj' ho' h1;subst this;simp at hp;omega,
    g.2 d fun j' o' hj' ho' hp h1=>by have:=uniq j' o' hj' ho' h1;subst this;simp only[hl]at hp;cases hp]
 ·have hn:∀(j:Nat) (oj:Oper),j<k→ops[j]? =some oj→oj.dst≠some d:=fun j oj h1 h2 h3=>hx ⟨j,oj,h1,h2,h3⟩
  rw[gT.2 d fun j oj h1 h2 _=>hn j oj h1 h2,g.2 d fun j oj h1 h2 _=>hn j oj h1 h2]
def listK(n k:Nat):Array Bool:=((List.range n).map fun i=>decide (i<k)).toArray
section
variable {C:Ctx} {t:Env} {h:Heap}
def Rest(C:Ctx)(ops:Array Oper)(Q:Exit→Env→Heap→Prop)(fuel:Nat)(L:Array Bool)(t:Env)(h:Heap):Prop:=
 ∀md n,WPix C ops Q (Region.linearise.go md ops fuel n L []) t h
def RestM(C:Ctx)(ops:Array Oper)(Q:Exit→Env→Heap→Prop)(md:Region.Mode)(fuel:Nat)(L:Array Bool)(t:Env)(h:Heap):Prop:=
 ∀n,WPix C ops Q (Region.linearise.go md ops fuel n L []) t h
theorem Rest.nil{ops:Array Oper}{Q:Exit→Env→Heap→Prop}{L:Array Bool}(g:Q .normal t h):Rest C ops Q 0 L t h:=fun md n=>by
 simpa [Region.linearise.go,WPix]using g
theorem eh{ops:Array Oper}{Q:Exit→Env→Heap→Prop}{k:Nat}{c:Nat→Nat→Bool}(D:PreOk ops k c)(md:Region.Mode)(hless:∀(j:Nat) (oj:Oper),ops[j]? =some oj→j<k→∀e∈oj.after,Region.binds md e=true→e.on<j)(hkn:k≤ops.size){V:Nat→AVal}{t0:Env}{h:Heap}(ok:Nat→Prop)
  (hv:∀(i:Nat) (o:Oper),(ops.toList.take k)[i]? =some o→ok i→∀KK:AVal→Heap→Prop,KK (V i) h→wpOperV C ops o (Av.T V (ops.toList.take k) t0 i) h KK)
  (hK:RestM C ops Q md (ops.size-k) (listK ops.size k) (Av.T V (ops.toList.take k) t0 k) h):
  ∀(fuel n:Nat) (L:Array Bool) (s:Env),L.size=ops.size→left ops L=fuel→Closed ops L→(∀j,j<ops.size→L.getD j false=true→j<k)→(∀j,j<k→L.getD j false=false→ok j)→Ag ops k V t0 (fun j=>L.getD j false) s→
   WPix C ops Q (Region.linearise.go md ops fuel n L []) s h:=by
 have hlk:∀j,j<ops.size→(listK ops.size k).getD j false=decide (j<k):=fun j hj=>by simp[listK,hj]
 have fin:∀(fuel n:Nat) (L:Array Bool) (s:Env),L.size=ops.size→left ops L=fuel→(∀j,j<ops.size→L.getD j false=decide (j<k))→Ag ops k V t0 (fun j=>L.getD j false) s→
   WPix C ops Q (Region.linearise.go md ops fuel n L []) s h:=fun fuel n L s hs hl hL ag=>by
  have h1:=D.ag_T V t0 hkn k (M2 _);have h2:Ag ops k V t0 (fun j=>decide (j<k)) s:=⟨fun j o x hj ho hp hd=>ag.1 j o x hj ho (by show L.getD j false=true;rw[hL j (by omega)];exact hp) hd,
   fun x hn=>ag.2 x fun j o hj ho hp=>hn j o hj ho (by simpa using hj)⟩
  have:=h2.eq h1;subst this;have hsz:(listK ops.size k).size=ops.size:=by simp[listK]
  have eL:L=listK ops.size k:=by
   refine Array.ext (by rw[hs,hsz]) fun i h1 h2=>?_
   have e1:=hL i (by omega);have e2:=hlk i (by omega);have:=e1.trans e2.symm;simpa [h1,h2]using this
  have el:fuel=ops.size-k:=by
   rw[← hl];unfold left;have:(List.range ops.size).filter (fun i=> !L.getD i true)=(List.range ops.size).filter (fun i=>decide (k≤i)):=V6 fun i hi=>by
    have hi':=T9.1 hi;have h3:i<L.size:=(by omega);have e1:=hL i hi';have e3:L.getD i true=L.getD i false:=(by simp[h3]);rw[e3,e1];by_cases hik:i<k
    ·have:¬k≤i:=by omega
     simp[hik,this]
    ·have:k≤i:=by omega
     simp[hik,this]
   rw[this];have cnt:∀n,k≤n→((List.range n).filter fun i=>decide (k≤i)).length=n-k:=by
    intro n;induction n with
    |zero=>intro h;simp
    |succ n ih=>
     intro h;rw[List.range_succ,U7,M5];by_cases hkn2:k≤n
     ·rw[ih hkn2];simp[hkn2];omega
     ·have hnil:(List.range n).filter (fun i=>decide (k≤i))=[]:=by
       rw[zb1];intro i hi;have:=T9.1 hi;simp;omega
      rw[hnil];simp[hkn2];omega
   exact cnt _ hkn
  subst eL;subst el;exact hK n
 intro fuel;induction fuel with
 |zero=>
  intro n L s hs hl cl hlt hun0 ag;have hall:=dR hs hl;refine fin 0 n L s hs hl (fun j hj=>?_) ag;rw[hall j hj];have:=hlt j hj (hall j hj);simp[this]
 |succ fuel ih=>
  intro n L s hs hl cl hlt hun0 ag;by_cases hpre:∀j,j<k→L.getD j false=true
  ·refine fin (fuel+1) n L s hs hl (fun j hj=>?_) ag;by_cases hjk:j<k
   ·rw[hpre j hjk];simp[hjk]
   ·cases hlj:L.getD j false with
    |false=>simp[hjk]
    |true=>exact absurd (hlt j hj hlj) hjk
  ·have hne:Region.ready md ops L≠ []:=by
    have hex:∃i,i<k∧L.getD i false=false:=by
     refine R7 fun hno=>hpre fun j hj=>?_
     cases hlj:L.getD j false with
     |true=>rfl
     |false=>exact absurd ⟨j,hj,hlj⟩ hno
    have hmin:∃i,i<k∧L.getD i false=false∧∀j,j<i→L.getD j false=true:=by
     obtain⟨i,hi,hl⟩:=hex;induction i using Nat.strongRecOn with
     |ind i ih=>
      by_cases hall:∀j,j<i→L.getD j false=true
      ·exact⟨i,hi,hl,hall⟩
      ·have:∃j,j<i∧L.getD j false=false:=R7 fun hno=>hall fun j hj=>by
        cases hlj:L.getD j false with
        |true=>rfl
        |false=>exact absurd ⟨j,hj,hlj⟩ hno
       obtain⟨j,hj,hlj⟩:=this;exact ih j hj (by omega) hlj
    obtain⟨i,hi,hl,hall⟩:=hmin;have hin:i<ops.size:=(by omega);have h3:i<L.size:=(by omega);intro e;have:i∈Region.ready md ops L:=mem_ready.2 ⟨by simp[h3]at hl ⊢;exact hl,ops[i],O8 hin,fun e he hb=>hall _ (hless i _ (O8 hin) hi e he hb)⟩;rw[e]at this;cases this
   obtain⟨i,hi,hmem⟩:=cf hne n;obtain⟨hun,o,ho,hrd⟩:=mem_ready.1 hmem;have hin:=(O6.1 ho).1;have h3:i<L.size:=(by omega);have hun':L.getD i false=false:=(by simp[h3]at hun ⊢;exact hun);have hrd':∀e∈o.after,Region.binds .any e=true→L.getD e.on false=true:=fun e he hb=>hrd e he (fk hb)
   by_cases hk:i<k
   ·rw[dh md ops fuel n L hi];simp only[WPix,ho];rw[de];have ho2:(ops.toList.take k)[i]? =some o:=(by rw[U6,M1 hk];simpa using ho);rw[← bm (t:=Av.T V (ops.toList.take k) t0 i) (D.sees cl ag ho hk hkn hun' hrd')];refine hv i o ho2 (hun0 i hk hun') _ ?_;refine ih _ _ _ (by simpa using hs) (by have:=dg hs hin hun';omega) (cl.set ho hrd') (fun j hj hlj=>?_) (fun j hj hlj=>?_) (D.ag_put ag ho hk fun j hj=>?_)
    ·by_cases hji:i=j
     ·subst hji;exact hk
     ·rw[getD_set_ne false hji]at hlj;exact hlt j hj hlj
    ·by_cases hji:i=j
     ·subst hji;simp[h3]at hlj
     ·rw[getD_set_ne false hji]at hlj;exact hun0 j hj hlj
    ·by_cases hji:i=j
     ·subst hji;simp[h3]
     ·rw[getD_set_ne false hji];have:(j==i)=false:=by simp;exact fun e=>hji e.symm
      rw[this,za2]
   ·exfalso;refine hpre fun j hj=>?_
    obtain⟨e,he,hb,h1⟩:=D.sfx j i o ho hj (by omega);have h2:=hrd' e he hb;rcases h1 with rfl| ⟨h4,h5,h6⟩
    ·exact h2
    ·have hoe:ops[e.on]? =some ops[e.on]:=O8 (by omega);exact D.bef cl e.on _ hoe h4 j h5 h6 fun e' he' hb'=>cl e.on _ hoe h2 e' he' hb'
theorem ib(V V':Nat→AVal)(k:Nat)(hV:∀i,i<k→V' i=V i):∀(l l':List Oper) (t:Env) (i:Nat),i≤k→l.take k=l'.take k→i≤l.length→i≤l'.length→Av.T V' l t i=Av.T V l' t i:=by
 intro l l' t i;induction i with
 |zero=>intro _ _ _ _;rw[i6,i6]
 |succ i ih=>
  intro hi he h1 h2;have e1:l[i]? =some (l[i]'(by omega)):=L9 _;have e2:l'[i]? =some (l'[i]'(by omega)):=L9 _;have e3:l[i]? =l'[i]? :=by
   have:=P9 (fun q=>q[i]?) he;simpa only[U6,M1 (show i<k by omega)]using this
  rw[eS V' _ t i _ e1,eS V _ t i _ e2,ih (by omega) he (by omega) (by omega),hV i (by omega)];rw[e1,e2]at e3;rw[Option.some.inj e3]
theorem ql{ops:Array Oper}{Q:Exit→Env→Heap→Prop}{k:Nat}{c:Nat→Nat→Bool}(D:PreOk ops (k+1) c)(md:Region.Mode)(hless:∀(j:Nat) (oj:Oper),ops[j]? =some oj→j<k+1→∀e∈oj.after,Region.binds md e=true→e.on<j)(hkn:k+1≤ops.size){V:Nat→AVal}{t0:Env}{h:Heap}{oe:Oper}(hoe:ops[k]? =some oe)
  (hv:∀(i:Nat) (o:Oper),i<k→ops[i]? =some o→∀KK:AVal→Heap→Prop,KK (V i) h→wpOperV C ops o (Av.T V ops.toList t0 i) h KK)
  (he:wpOperV C ops oe (Av.T V ops.toList t0 k) h fun v h'=>(∀(i:Nat) (o:Oper),i<k→ops[i]? =some o→c i k=false→∀KK:AVal→Heap→Prop,KK (V i) h'→wpOperV C ops o (Av.T V ops.toList t0 i) h' KK)∧
   RestM C ops Q md (ops.size-(k+1)) (listK ops.size (k+1)) (put (Av.T V ops.toList t0 k) oe.dst v) h'):
  ∀(fuel n:Nat) (L:Array Bool) (s:Env),L.size=ops.size→left ops L=fuel→Closed ops L→(∀j,j<ops.size→L.getD j false=true→j<k)→Ag ops (k+1) V t0 (fun j=>L.getD j false) s→
   WPix C ops Q (Region.linearise.go md ops fuel n L []) s h:=by
 have hT:∀(V':Nat→AVal) (i:Nat),(∀j,j<k→V' j=V j)→i≤k→Av.T V' (ops.toList.take (k+1)) t0 i=Av.T V ops.toList t0 i:=fun V' i hV hi=>
  ib V V' k hV _ _ _ _ hi (by rw[zc7];congr 1;omega) (by simp;omega) (by simp;omega)
 intro fuel;induction fuel with
 |zero=>
  intro n L s hs hl cl hlt ag;have:=dR hs hl k (by omega);have:=hlt k (by omega) this;omega
 |succ fuel ih=>
  intro n L s hs hl cl hlt ag;have hkun:L.getD k false=false:=by
   cases hq:L.getD k false with
   |false=>rfl
   |true=>have:=hlt k (by omega) hq;omega
  have hne:Region.ready md ops L≠ []:=by
   have hmin:∃i,i<k+1∧L.getD i false=false∧∀j,j<i→L.getD j false=true:=by
    have hex:∃i,i<k+1∧L.getD i false=false:=⟨k,by omega,hkun⟩
    obtain⟨i,hi,hl⟩:=hex;clear hl;have hex:∃i,i<k+1∧L.getD i false=false:=⟨k,by omega,hkun⟩
    obtain⟨i,hi,hl⟩:=hex;induction i using Nat.strongRecOn with
    |ind i ih=>
     by_cases hall:∀j,j<i→L.getD j false=true
     ·exact⟨i,hi,hl,hall⟩
     ·have:∃j,j<i∧L.getD j false=false:=R7 fun hno=>hall fun j hj=>by
       cases hlj:L.getD j false with
       |true=>rfl
       |false=>exact absurd ⟨j,hj,hlj⟩ hno
      obtain⟨j,hj,hlj⟩:=this;exact ih j hj (by omega) hlj
   obtain⟨i,hi,hl,hall⟩:=hmin;have hin:i<ops.size:=(by omega);have h3:i<L.size:=(by omega);intro e;have:i∈Region.ready md ops L:=mem_ready.2 ⟨by simp[h3]at hl ⊢;exact hl,ops[i],O8 hin,fun e he hb=>hall _ (hless i _ (O8 hin) hi e he hb)⟩;rw[e]at this;cases this
  obtain⟨i,hi,hmem⟩:=cf hne n;obtain⟨hun,o,ho,hrd⟩:=mem_ready.1 hmem;have hin:=(O6.1 ho).1;have h3:i<L.size:=by omega
  have hun':L.getD i false=false:=by simp[h3]at hun ⊢;exact hun
  have hrd':∀e∈o.after,Region.binds .any e=true→L.getD e.on false=true:=fun e he hb=>hrd e he (fk hb)
  have hik:i<k+1:=by
   refine Nat.lt_of_not_le fun hle=>?_
   obtain⟨e,he,hb,h1⟩:=D.sfx k i o ho (by omega) hle;have h2:=hrd' e he hb;have hkl:L.getD k false=true:=by
    rcases h1 with rfl| ⟨h4,h5,h6⟩
    ·exact h2
    ·have hoe:ops[e.on]? =some ops[e.on]:=O8 (by omega);exact D.bef cl e.on _ hoe h4 k h5 h6 fun e' he' hb'=>cl e.on _ hoe h2 e' he' hb'
   rw[hkun]at hkl;cases hkl
  rw[dh md ops fuel n L hi];simp only[WPix,ho];rw[de];have hsees:=D.sees cl ag ho hik hkn hun' hrd';by_cases hk:i<k
  ·rw[hT V i (fun _ _=>rfl) (by omega)]at hsees;rw[← bm (t:=Av.T V ops.toList t0 i) hsees];refine hv i o hk ho _ ?_;refine ih _ _ _ (by simpa using hs) (by have:=dg hs hin hun';omega) (cl.set ho hrd') (fun j hj hlj=>?_) (D.ag_put ag ho hik fun j hj=>?_)
   ·by_cases hji:i=j
    ·subst hji;exact hk
    ·rw[getD_set_ne false hji]at hlj;exact hlt j hj hlj
   ·by_cases hji:i=j
    ·subst hji;simp[h3]
    ·rw[getD_set_ne false hji];have:(j==i)=false:=by simp;exact fun e=>hji e.symm
     rw[this,za2]
  ·obtain rfl:i=k:=by omega
   rw[hoe]at ho;cases ho;rw[hT V i (fun _ _=>rfl) (M2 _)]at hsees;rw[← bm (t:=Av.T V ops.toList t0 i) hsees];refine cg he fun v h' ⟨hv2,hrest⟩=>?_
   have hV':∀j,j<i→(fun j=>if j=i then v else V j) j=V j:=fun j hj=>by simp only[];rw[L5 (by omega)]
   have ag':Ag ops (i+1) (fun j=>if j=i then v else V j) t0 (fun j=>L.getD j false) s:=by
    refine⟨fun j o x hj hoj hp hd=>?_,ag.2⟩;have hji:j≠i:=fun e=>by subst e;simp only[hun']at hp;cases hp
    simp only[L5 hji];exact ag.1 j o x hj hoj hp hd
   refine eh D md hless hkn (V:=fun j=>if j=i then v else V j) (t0:=t0) (h:=h') (fun j=>j<i∧c j i=false) (fun j o hj hok KK hkk=>?_) ?_ _ _ _ _ (by simpa using hs) (by have:=dg hs hin hun';omega) (cl.set hoe hrd') (fun j hj hlj=>?_) (fun j hj hlj=>?_) ?_
   ·have hoj:ops[j]? =some o:=by
     rw[U6,M1 (by omega)]at hj;simpa using hj
    rw[hT _ j hV' (by omega)];simp only[L5 (show ¬j=i by omega)]at hkk;exact hv2 j o hok.1 hoj hok.2 KK hkk
   ·have e1:(ops.toList.take (i+1))[i]? =some oe:=(by rw[U6,M1 (by omega)];simpa using hoe);rw[eS _ _ _ _ _ e1,hT _ i hV' (M2 _)];simpa using hrest
   ·by_cases hji:i=j
    ·omega
    ·rw[getD_set_ne false hji]at hlj;have:=hlt j hj hlj;omega
   ·have hji:i≠j:=fun e=>by subst e;simp[h3]at hlj
    rw[getD_set_ne false hji]at hlj;refine⟨by omega,?_⟩;cases hc:c j i with
    |false=>rfl
    |true=>
     have:=D.bef cl i oe hoe (by omega) j (by omega) hc hrd';rw[hlj]at this;cases this
   ·have:=D.ag_put ag' (p':=fun j=>(L.setIfInBounds i true).getD j false) hoe (by omega) fun j hj=>by
     by_cases hji:i=j
     ·subst hji;simp[h3]
     ·rw[getD_set_ne false hji];have:(j==i)=false:=by simp;exact fun e=>hji e.symm
      rw[this,za2]
    simpa using this
end
end Go.Av
theorem Z2:type_of% @Go.Av.Weak.virt:=@Go.Av.Weak.virt
