/- A region that draws its order: a beginning of pure operations in any order, then what comes in one order alone (not always the text's). -/
import Derived.Test.YtmfhelaoeaifeaaGreatDoorMlAv21
import Derived.Laws.Externs
import Derived.Test.YtmfhelaoeaifeaaGreatDoorMlAv9
import Derived.Test.YtmfhelaoeaifeaaGreatDoorProg
import Derived.KernelRfl
import Derived.Test.YtmfhelaoeaifeaaGreatDoorRows
import Derived.ChangeSame
import Derived.RowKit
import Derived.ReadAgain
import Derived.ChangeArms
import Derived.Clock
import Derived.Deep.Slices
set_option linter.unusedSimpArgs false
set_option linter.unusedVariables false
set_option linter.unusedSectionVars false
set_option linter.unnecessarySimpa false
set_option maxRecDepth 100000
set_option maxHeartbeats 16000000
namespace Go.Av
open Go.RowKit
section
variable {C:Ctx}
def Agr(ms:List Nat)(s t:Env):Prop:=∀i,i ∉ ms→s i=t i
theorem Agr.put{ms:List Nat}{s t:Env}{d:Option Nat}{v:AVal}(g:Agr ms s t)(hd:∀x,d=some x→x∈ms):Agr ms (put s d v) t:=by
 intro i hi
 cases d with
 |none=>exact g i hi
 |some x=>
  have:i≠x:=fun e=>hi (e▸hd x rfl)
  simp only[Av.put,upd];rw[if_neg this];exact g i hi
theorem bz{ops:Array Oper}{o:Oper}{t:Env}{h:Heap}{K K':AVal→Heap→Prop}(g:wpOperV C ops o t h K)(k:∀v h',K v h'→K' v h'):wpOperV C ops o t h K':=by
 unfold wpOperV at*
 split at g
 ·exact db k g
 ·split at g
  ·exact⟨fun e=>db k (g.1 e),fun e=>k _ _ (g.2 e)⟩
  ·exact g.elim
theorem jX{ops:Array Oper}{ms:List Nat}{t0:Env}{Q Q':Exit→Env→Heap→Prop}(k:∀e t h,Q e t h→Agr ms t t0→Q' e t h):
  ∀(l:List Oper) (t:Env) (h:Heap),(∀x∈wrOps l,x∈ms)→Agr ms t t0→WPl C ops Q l t h→WPl C ops Q' l t h
 | [],t,h,_,a,g=>k _ _ _ g a
 |o::rest,t,h,hm,a,g=>by
  unfold WPl at g ⊢
  rw[cH]at g ⊢
  refine bz g fun v h' g'=>jX k rest _ h' (fun x hx=>hm x ?_) (a.put fun x hx=>hm x ?_) g'
  ·unfold wrOps;split<;>simp[hx]
  ·unfold wrOps;simp[hx]
theorem jY{o:Oper}{x:Nat}(hx:o.dst=some x):∀(l:List Oper),o∈l→x∈wrOps l
 |o'::rest,hm=>by
  unfold wrOps
  rcases List.mem_cons.1 hm with rfl|hm
  ·rw[hx];simp
  ·split<;>simp[jY hx rest hm]
theorem fh{ops:Array Oper}{ms:List Nat}{t0:Env}{Q Q':Exit→Env→Heap→Prop}(k:∀e t h,Q e t h→Agr ms t t0→Q' e t h)(hm:∀x∈wrOps ops.toList,x∈ms):
  ∀(l:List Nat) (t:Env) (h:Heap),Agr ms t t0→WPix C ops Q l t h→WPix C ops Q' l t h
 | [],t,h,a,g=>k _ _ _ g a
 |i::rest,t,h,a,g=>by
  unfold WPix at g ⊢
  cases hi:ops[i]? with
  |none=>rw[hi]at g;exact fh k hm rest t h a g
  |some o=>
   rw[hi]at g
   simp only[]at g ⊢
   rw[cH]at g ⊢
   exact bz g fun v h' g'=>fh k hm rest _ h' (a.put fun x hx=>hm x (jY hx _ (by simpa using Array.mem_of_getElem? hi))) g'
theorem sG{ms:List Nat}{t0:Env}:∀(c:Code) {Q Q':Exit→Env→Heap→Prop},(∀e t h,Q e t h→Agr ms t t0→Q' e t h)→
  ∀(t:Env) (h:Heap),(∀x∈wr c,x∈ms)→Agr ms t t0→WP C c Q t h→WP C c Q' t h:=by
 intro c
 induction c with
 |skip=>intro Q Q' k t h _ a g;exact k _ _ _ g a
 |label l=>intro Q Q' k t h _ a g;exact k _ _ _ g a
 |exit id=>intro Q Q' k t h _ a g;exact k _ _ _ g a
 |ret=>intro Q Q' k t h _ a g;exact k _ _ _ g a
 |region id ops draw=>
  intro Q Q' k t h hm a g
  cases draw with
  |false=>exact jX k _ t h hm a g
  |true=>exact fun tp=>fh k hm _ t h a (g tp)
 |seq x y ihx ihy=>
  intro Q Q' k t h hm a g
  refine ihx (Q:=thenQ (fun t h=>Wkn C (wr x) t h fun t h=>WP C y Q t h) Q) (fun e t' h' g' a'=>?_) t h (fun i hi=>hm i (by simp[wr,hi])) a g
  cases e with
  |normal=>
   obtain⟨t1,h1,hw,g'⟩:=g'
   exact⟨t1,h1,hw,ihy k t1 h1 (fun i hi=>hm i (by simp[wr,hi])) (fun i hi=>(hw.1 i fun e=>hi (hm i (by simp[wr,e]))).trans (a' i hi)) g'⟩
  |_=>exact k _ _ _ g' a'
 |cond c x y ihx ihy=>
  intro Q Q' k t h hm a g
  simp only[WP]at g ⊢
  split at g
  ·exact⟨fun e=>ihx k t h (fun i hi=>hm i (by simp[wr,hi])) a (g.1 e),fun e=>ihy k t h (fun i hi=>hm i (by simp[wr,hi])) a (g.2 e)⟩
  ·exact g.elim
 |block id x ih=>
  intro Q Q' k t h hm a g
  refine ih (Q:=blockQ id Q) (fun e t' h' g' a'=>?_) t h hm a g
  cases e with
  |exit id'=>
   simp only[blockQ]at g' ⊢
   split at g'
   ·rename_i e;rw[if_pos e];exact k _ _ _ g' a'
   ·rename_i e;rw[if_neg e];exact k _ _ _ g' a'
  |_=>exact k _ _ _ g' a'
 |loop x ih=>
  intro Q Q' k t h hm a g
  obtain⟨I,n,⟨t1,h1,hw,h0⟩,round⟩:=g
  have wk:∀t h t1 h1,Weak C (wr x) t h t1 h1→Agr ms t t0→Agr ms t1 t0:=fun t h t1 h1 hw a i hi=>(hw.1 i fun e=>hi (hm i e)).trans (a i hi)
  refine⟨fun n t h=>I n t h∧Agr ms t t0,n,⟨t1,h1,hw,h0,wk _ _ _ _ hw a⟩,fun n' t' h' hI=>?_⟩
  refine ih (Q:=thenQ (fun t2 h2=>∃m,m<n'∧Wkn C (wr x) t2 h2 (I m)) Q) (fun e t2 h2 g' a'=>?_) t' h' hm hI.2 (round n' t' h' hI.1)
  cases e with
  |normal=>obtain⟨m,h1,t3,h3,hw3,h2⟩:=g';exact⟨m,h1,t3,h3,hw3,h2,wk _ _ _ _ hw3 a'⟩
  |_=>exact k _ _ _ g' a'
 |rangeFunc f ps a0 b _ _=>intro Q Q' k t h _ a g;exact g.elim
 |scope x ih=>
  intro Q Q' k t h hm a g
  refine ih (Q:=noG Q) (fun e t' h' g' a'=>?_) t h hm a g
  cases e with
  |goto l=>exact g'.elim
  |_=>exact k _ _ _ g' a'
 |goto l=>intro Q Q' k t h _ a g;exact g.elim
 |refuse s=>intro Q Q' k t h _ a g;exact g.elim
def mix:List Nat→Env→Env→Env
 | [],_,t=>t
 |a::ms,s,t=>upd (mix ms s t) a (s a)
@[go_sem] theorem ap(s t:Env)(i:Nat):mix [] s t i=t i:=(rfl)
@[go_sem] theorem ai(a:Nat)(ms:List Nat)(s t:Env)(i:Nat):mix (a::ms) s t i=if i=a then s a else mix ms s t i:=(rfl)
theorem wT{ms:List Nat}{s t:Env}{i:Nat}(h:i∈ms):mix ms s t i=s i:=by
 induction ms with
 |nil=>cases h
 |cons a ms ih=>
  rw[ai];split
  ·rename_i e;rw[e]
  ·rename_i e;rcases List.mem_cons.1 h with h|h
   ·exact absurd h e
   ·exact ih h
theorem uT{ms:List Nat}{s t:Env}{i:Nat}(h:i ∉ ms):mix ms s t i=t i:=by
 induction ms with
 |nil=>rfl
 |cons a ms ih=>
  rw[ai];simp only[List.mem_cons,not_or]at h
  rw[if_neg h.1];exact ih h.2
theorem Agr.mix{ms:List Nat}{s t:Env}(g:Agr ms s t):s=mix ms s t:=by
 funext i
 by_cases h:i∈ms
 ·rw[wT h]
 ·rw[uT h];exact g i h
theorem sH{c:Code}{ms:List Nat}{Q:Exit→Env→Heap→Prop}{t:Env}{h:Heap}(hms:wr c=ms)(I:Nat→Env→Heap→Prop)(n:Nat)(h0:Wkn C ms t h (I n))
  (round:∀(n':Nat) (s:Env) (h':Heap),I n' (mix ms s t) h'→∀K:Env→Heap→Prop,(∀m t2 h2,Wkn C ms t2 h2 (I m)→m<n'→K t2 h2)→WP C c (thenQ K Q) (mix ms s t) h'):WP C (.loop c) Q t h:=by
 subst hms
 obtain⟨t1,h1,hw,h0⟩:=h0
 refine⟨fun n t' h'=>I n t' h'∧Agr (wr c) t' t,n,⟨t1,h1,hw,h0,hw.1⟩,fun n' t' h' hI=>?_⟩
 obtain⟨hI,ha⟩:=hI
 have e:=ha.mix
 have h1:=round n' t' h' (by rw[← e];exact hI) (fun t2 h2=>∃m,m<n'∧Wkn C (wr c) t2 h2 (I m)) (fun m t2 h2 hm hi=>⟨m,hi,hm⟩)
 rw[← e]at h1
 refine sG (ms:=wr c) (t0:=t) c (fun e t2 h2 g' a'=>?_) t' h' (fun x hx=>hx) ha h1
 cases e with
 |normal=>obtain⟨m,hm,t3,h3,hw3,hi⟩:=g';exact⟨m,hm,t3,h3,hw3,hi,fun i hi=>(hw3.1 i hi).trans (a' i hi)⟩
 |_=>exact g'
attribute [go_sem] wr wrOps
theorem l6{w:World}{S:Addr→Prop}{μ:Map}{m:MB}(hm:m.blk=none)(hv:m.ver=0):Rep w S (μ++[m]) (.hs μ.length 0 0 0 true) (.slice none 0 0):=
 .hs _ _ _ _ _ m _ (by simp) (by omega) (by intro cs h;cases h) rfl fun _=>.inl ⟨hm,rfl,rfl,rfl⟩
theorem jZ{S:Addr→Prop}{μ:Map}{w:World}{B:Nat}{h:Heap}(f:Fits C B S μ h w)(e n:Nat)(hn:0<n):
  Fits C B S (μ++[⟨none,0,n,0⟩]) (h++[.row e n 0 []]) w∧Step B S μ w S (μ++[⟨none,0,n,0⟩]) w:=
 f.virtual ⟨none,0,n,0⟩ (.row e n 0 []) rfl ⟨rfl,rfl,hn,fun i r hi=>by simp at hi,fun i r j c hi=>by simp at hi,.inl ⟨rfl,rfl⟩⟩
theorem Weak.virt{ms:List Nat}{t:Env}{h:Heap}(i e n:Nat)(hi:i∈ms)(hn:0<n)(ht:t i=.nil (.slice none 0 0)):
  Weak C ms t h (upd t i (.hs h.length 0 0 0 true)) (h++[.row e n 0 []]):=by
 refine⟨fun j hj=>by simp only[upd];rw[if_neg];intro e;subst e;exact hj hi,fun B k S μ w a f r=>?_⟩
 obtain⟨f',st⟩:=jZ f e n hn
 refine⟨S,_,st,f',r.1,r.2.1,fun j hj=>?_⟩
 have hr:=r.2.2 j hj
 simp only[upd]
 split
 ·rename_i e;subst e
  rw[ht]at hr
  generalize a.tmps.getD j undef=v at hr
  cases hr
  rw[← f.len];exact l6 rfl rfl
 ·exact hr.mono st
theorem Weak.virtRows{ms:List Nat}{t:Env}{h:Heap}{p v e m:Nat}{rows:List AVal}(rows':List AVal)(e' n':Nat)(hn:0<n')(hg:getRow h p v=some (e,m,rows))(hl:rows'.length=rows.length)
  (at_:∀(i:Nat) (r':AVal),rows'[i]? =some r'→∃r0,rows[i]? =some r0∧r'.cells.length=r0.cells.length∧
    ∀(q:Nat) (c:AVal),r'.cells[q]? =some c→(r0.cells[q]? =some c)∨(c=.hs h.length 0 0 0 true∧r0.cells[q]? =some (.nil (.slice none 0 0)))):
  Weak C ms t h t (h.set p (.row e m v rows')++[.row e' n' 0 []]):=by
 refine⟨fun _ _=>rfl,fun B k S μ w a f r=>?_⟩
 obtain⟨f1,st1⟩:=jZ f e' n' hn
 have hh:=bY hg
 have hp:=(List.getElem?_eq_some_iff.1 hh).1
 have hg1:getRow (h++[.row e' n' 0 []]) p v=some (e,m,rows):=ox hg
 obtain⟨mb,hm,rf⟩:=f1.row hg1
 have key:BlkFits w S (List.set (μ++[(⟨none,0,n',0⟩:MB)]) p mb) mb (.row e m v rows'):=by
  have hset:List.set (μ++[(⟨none,0,n',0⟩:MB)]) p mb=μ++[(⟨none,0,n',0⟩:MB)]:=by
   obtain⟨hlt,he⟩:=List.getElem?_eq_some_iff.1 hm
   rw[← he,List.set_getElem_self]
  rw[hset]
  refine⟨rf.hver,rf.hsize,rf.pos,fun i r' hi=>?_,fun i r' q c hi hc=>?_,?_⟩
  ·obtain⟨r0,h0,h1,_⟩:=at_ i r' hi
   rw[h1];exact rf.lens i r0 h0
  ·obtain⟨r0,h0,_,h2⟩:=at_ i r' hi
   rcases h2 q c hc with h3| ⟨rfl,h3⟩
   ·exact rf.sto i r0 q c h0 h3
   ·rfl
  ·rcases rf.lies with⟨h1,h2⟩| ⟨b,cur,h1,h2,h3,h4,h5,h6⟩
   ·subst h2
    exact .inl ⟨h1,List.length_eq_zero_iff.1 (by simpa using hl)⟩
   ·refine .inr ⟨b,cur,h1,h2,h3,by omega,h5,fun i r' q c hi hc=>?_⟩
    obtain⟨r0,h0,_,h7⟩:=at_ i r' hi
    rcases h7 q c hc with h8| ⟨rfl,h8⟩
    ·exact h6 i r0 q c h0 h8
    ·obtain⟨x,hx,hr⟩:=h6 i r0 q _ h0 h8
     refine⟨x,hx,?_⟩
     cases hr
     rw[← f.len];exact l6 rfl rfl
 obtain⟨f2,st2⟩:=f1.update (m':=mb) (k':=.row e m v rows') hm (Only.refl w _) (Nat.le_refl _) (fun _=>rfl) (.inl rfl) key
 rw[List.set_append_left _ _ hp]at f2
 exact⟨S,_,st1.trans st2,f2,r.mono (st1.trans st2)⟩
theorem Weak.virtCell{ms:List Nat}{t:Env}{h:Heap}{p v e m:Nat}{cs:List AVal}(e' n':Nat)(hn:0<n')(hg:getRow h p v=some (e,m,[.agg cs]))(j:Nat)(hj:cs[j]? =some (.nil (.slice none 0 0))):
  Weak C ms t h t (h.set p (.row e m v [.agg (cs.set j (.hs h.length 0 0 0 true))])++[.row e' n' 0 []]):=by
 refine Weak.virtRows _ e' n' hn hg rfl fun i r' hi=>?_
 match i with
 |0=>
  simp only[List.getElem?_cons_zero,Option.some.injEq]at hi
  subst hi
  refine⟨_,rfl,by simp[AVal.cells],fun q c hc=>?_⟩
  simp only[AVal.cells]at hc ⊢
  by_cases hq:j=q
  ·subst hq
   rw[List.getElem?_set_self (List.getElem?_eq_some_iff.1 hj).1]at hc
   cases hc;exact .inr ⟨rfl,hj⟩
  ·rw[List.getElem?_set_ne hq]at hc;exact .inl hc
 |i+1=>simp at hi
theorem Weak.virtCell1{ms:List Nat}{t:Env}{h:Heap}{p v e m:Nat}(e' n':Nat)(hn:0<n')(hg:getRow h p v=some (e,m,[.nil (.slice none 0 0)])):
  Weak C ms t h t (h.set p (.row e m v [.hs h.length 0 0 0 true])++[.row e' n' 0 []]):=by
 refine Weak.virtRows _ e' n' hn hg rfl fun i r' hi=>?_
 match i with
 |0=>
  simp only[List.getElem?_cons_zero,Option.some.injEq]at hi
  subst hi
  refine⟨_,rfl,rfl,fun q c hc=>?_⟩
  match q with
  |0=>simp[AVal.cells]at hc;subst hc;exact .inr ⟨rfl,rfl⟩
  |q+1=>simp[AVal.cells]at hc
 |i+1=>simp at hi
end
end Go.Av
namespace Go.Av
open Go.RowKit
section
variable {C:Ctx} {B n:Nat} {S:Addr→Prop} {μ:Map} {h:Heap} {w w':World} {t:Env} {a:Act} {K:AVal→Heap→Prop}
theorem Fits.grown(f:Fits C B S μ h w)(b:Below w.heap.size w w'):Fits C B S μ h w'∧Step B S μ w S μ w':=by
 have hk:∀k,k<w.heap.size→w'.heap[k]? =w.heap[k]? :=fun k hk=>b.block k hk
 have st:Step B S μ w S μ w':=⟨fun _ ha=>ha,fun a ha=>World.cell?_of_block (hk _ (f.lie a ha)),b.mono f.base,MapLe.refl _,fun _ ha=>.inl ha⟩
 exact⟨⟨fun g cs hg=>(f.glob g cs hg).mono st,f.len,f.sep,fun p m k h1 e1=>by
  obtain⟨a1,a2,a3⟩:=f.own p m k h1 e1
  exact⟨a1,Nat.lt_of_lt_of_le a2 b.size,a3⟩,Nat.le_trans f.base b.size,fun a ha=>Nat.lt_of_lt_of_le (f.lie a ha) b.size,
  fun p m k h1 h2=>(f.blk p m k h1 h2).mono st fun q hq=>hk q (f.own p m q h1 hq).2.1⟩,st⟩
theorem l7{T len e n:Nat}{idx:List Nat}{xs:List AVal}{k:AVal→Heap→Prop}(he:elmT C.P T=some e)(hn:szOf C.P e=some n)(hz:(zroT C.P e).map (fun z=>(z.cells.length,z.cells.all AVal.sto))=some (n,true))
  (hl:xs.length=len)(h0:0<len)(h1:0<n)(hb:len*n≤16777216)(hi:idx=List.range len)(hx:xs.all (fun x=>decide (x.cells.length=n)&&x.lies)=true)(hk:k (.sl n xs) h):rowsK C T len idx xs h k:=by
 unfold rowsK
 rw[he,aX,hn,aX,if_neg (by omega)]
 refine⟨hl,h0,h1,hb,hi,hz,fun x hm=>?_,.inr hk⟩
 have:=List.all_eq_true.1 hx x hm
 simpa using this
theorem sJ{T len e n:Nat}{idx:List Nat}{xs:List AVal}{k:AVal→Heap→Prop}(he:elmT C.P T=some e)(hn:szOf C.P e=some n)(hz:(zroT C.P e).map (fun z=>(z.cells.length,z.cells.all AVal.sto))=some (n,true))
  (hl:xs.length=len)(h0:0<len)(h1:0<n)(hb:len*n≤16777216)(hi:idx=List.range len)(hx:xs.all (fun x=>decide (x.cells.length=n)&&x.lies)=true)(hk:k (.hs h.length 0 0 len true) (h++[.row e n 0 xs])):rowsK C T len idx xs h k:=by
 unfold rowsK
 rw[he,aX,hn,aX,if_neg (by omega)]
 refine⟨hl,h0,h1,hb,hi,hz,fun x hm=>?_,.inl hk⟩
 have:=List.all_eq_true.1 hx x hm
 simpa using this
theorem sK{T len e n:Nat}{idx:List Nat}{xs:List AVal}{k:AVal→Prop}(he:elmT C.P T=some e)(hn:szOf C.P e=some n)(hz:(zroT C.P e).map (fun z=>(z.cells.length,z.cells.all AVal.sto))=some (n,true))
  (hl:xs.length=len)(h0:0<len)(h1:0<n)(hb:len*n≤16777216)(hi:idx=List.range len)(hx:xs.all (fun x=>decide (x.cells.length=n)&&x.lies)=true)(hk:k (.sl n xs)):rowsV C T len idx xs k:=by
 unfold rowsV
 rw[he,aX,hn,aX,if_neg (by omega)]
 refine⟨hl,h0,h1,hb,hi,hz,fun x hm=>?_,hk⟩
 have:=List.all_eq_true.1 hx x hm
 simpa using this
def plainV:AVal→Option Value
 | .int k n=>some (.int k n)
 | .bool b=>some (.bool b)
 | .str s=>some (.string ⟨s.toArray⟩)
 |_=>none
def plainL:List AVal→Option (List Value)
 | []=>some []
 |x::l=>match plainV x,plainL l with|some v,some vs=>some (v::vs)|_,_=>none
theorem oB{x:AVal}{v u:Value}(g:plainV x=some v)(r:Rep w S μ x u):u=v:=by
 unfold plainV at g
 split at g
 ·cases g;exact r.int_inv
 ·cases g;exact r.bool_inv
 ·cases g;exact r.str_inv
 ·cases g
theorem ka{x:AVal}{v:Value}(g:plainV x=some v):Rep w S μ x v:=by
 unfold plainV at g
 split at g
 ·cases g;exact .int _ _
 ·cases g;exact .bool _
 ·cases g;exact .str _
 ·cases g
theorem iX:∀{xs:List AVal} {vs us:List Value},plainL xs=some vs→RepL w S μ xs us→us=vs
 | [],vs,us,g,r=>by
  cases g
  have h1:=r.1
  simpa using h1
 |x::l,vs,us,g,r=>by
  unfold plainL at g
  split at g
  ·rename_i v vs' h1 h2
   cases g
   obtain⟨hl,hr⟩:=r
   match us,hl,hr with
   |u::us,hl,hr=>
    have e1:=oB h1 (by simpa using hr 0 x rfl)
    have e2:=iX (us:=us) h2 ⟨by simpa using hl,fun i y hi=>by simpa using hr (i+1) y (by simpa using hi)⟩
    rw[e1,e2]
  ·cases g
theorem kb(w:World)(S:Addr→Prop)(μ:Map):∀{xs:List AVal} {vs:List Value},plainL xs=some vs→RepL w S μ xs vs
 | [],vs,g=>by cases g;exact⟨rfl,fun i x hi=>by simp at hi⟩
 |x::l,vs,g=>by
  unfold plainL at g
  split at g
  ·rename_i v vs' h1 h2
   cases g
   have ih:=kb w S μ h2
   refine⟨by simp[ih.1],fun i y hi=>?_⟩
   match i with
   |0=>simp at hi;subst hi;simpa using ka h1
   |i+1=>simpa using ih.2 i y (by simpa using hi)
  ·cases g
def plainR:AVal→Option Value
 | .tup l=>(plainL l).map fun vs=>.tuple vs.toArray
 |x=>plainV x
theorem qw{x:AVal}{v:Value}(g:plainR x=some v):Rep w S μ x v:=by
 unfold plainR at g
 split at g
 ·obtain⟨vs,hv,rfl⟩:=Option.map_eq_some_iff.1 g
  have:=kb w S μ hv
  exact .tup _ vs this.1 this.2
 ·exact ka g
theorem Sat.of_calls{f:FuncId}{fn:Func}{args:List AVal}{vs:List Value}{r:AVal}{v:Value}(hf:C.P.funcs[f]? =some fn)(hb:fn.body.isNone=false)(hname:(fn.name== "runtime.NumGoroutine")=false)
  (ha:plainL args=some vs)(hr:plainR r=some v)(hc:∀B S μ w,Fits C B S μ h w→Calls C.P f vs.toArray w fun e w'=>e=.returned v∧Below w.heap.size w w'):Sat C f args h (fun r' h'=>r'=r∧h'=h):=by
 intro B S μ w us fit rl
 obtain rfl:=iX ha rl
 have e:(callFunc f us.toArray).run C.P w=.ok (.enter f us.toArray) w:=by
  have hne:fn.name≠ "runtime.NumGoroutine" :=by simpa using hname
  obtain⟨c,hbc⟩:∃c,fn.body=some c:=by cases hq:fn.body with|none=>simp[hq]at hb|some c=>exact⟨c,rfl⟩
  simp[callFunc,hf,hne,hbc]
 rw[e]
 refine(hc B S μ w fit).mono fun e' w' ⟨he,hw⟩=>⟨v,he,?_⟩
 obtain⟨f',st⟩:=fit.grown hw
 exact⟨r,h,S,μ,⟨rfl,rfl⟩,st,f',qw hr⟩
theorem Sat.of_extern{f:FuncId}{fn:Func}{ex:Array Value→Sem Value}{args:List AVal}{R:AVal→Heap→Prop}(hf:C.P.funcs[f]? =some fn)(hname:(fn.name== "runtime.NumGoroutine")=false)
  (hb:fn.body.isNone=true)(hn:Extern.findNext fn=none)(he:Extern.find fn=some ex)
  (hc:∀B S μ w vs,Fits C B S μ h w→RepL w S μ args vs→∃v w',(ex vs.toArray).run C.P w=.ok v w'∧OpPost C B S μ w R v w'):Sat C f args h R:=by
 intro B S μ w vs fit rl
 obtain⟨v,w',hr,hp⟩:=hc B S μ w vs fit rl
 rw[run_callFunc_extern hf hname hb hn he]
 simp[Sem.run_bind,hr]
 exact hp
theorem Fin.plainE{h0 h1 j:Heap}{R:AVal→Heap→Prop}{r:AVal}(hh:h1=h0++j)(hc:Clo h0.length r)(hR:R r h0):Fin h0 h1 R r:=by
 subst hh;exact Fin.plain hc hR
theorem Fin.keep{h0 h1 j:Heap}{R:AVal→Heap→Prop}{r:AVal}(hl:h1.length=h0.length)(hk:∀(p:Nat) (k:Blk),h1[p]? =some k→h0[p]? =some k∨CloB h0.length k)(hc:Clo h0.length r)(hR:R r h1):Fin h0 (h1++j) R r:=by
 refine⟨h0.length,r,Nat.le_refl _,.clo _ hc,.inr fun p k hp h2=>?_,by rw[List.take_left' hl];exact hR⟩
 rw[List.getElem?_append_left (by omega)]at h2
 rcases hk p k h2 with h3|h3
 ·exact .inl ⟨hp,h3⟩
 ·exact .inr h3
theorem Fin.keep0{h0 h1:Heap}{R:AVal→Heap→Prop}{r:AVal}(hl:h1.length=h0.length)(hk:∀(p:Nat) (k:Blk),h1[p]? =some k→h0[p]? =some k∨CloB h0.length k)(hc:Clo h0.length r)(hR:R r h1):Fin h0 h1 R r:=by
 have:=Fin.keep (j:=[]) hl hk hc hR
 simpa using this
theorem Fin.keepF{h0 h1 j:Heap}{R:AVal→Heap→Prop}{r0 r:AVal}(hl:h1.length=h0.length)(hk:∀(p:Nat) (k:Blk),h1[p]? =some k→h0[p]? =some k∨CloB h0.length k)(hc:Frz (h1++j) h0.length r0 r)(hR:R r h1):Fin h0 (h1++j) R r0:=by
 refine⟨h0.length,r,Nat.le_refl _,hc,.inr fun p k hp h2=>?_,by rw[List.take_left' hl];exact hR⟩
 rw[List.getElem?_append_left (by omega)]at h2
 rcases hk p k h2 with h3|h3
 ·exact .inl ⟨hp,h3⟩
 ·exact .inr h3
end
end Go.Av
namespace Go.Av
open Go.RowKit
abbrev ML(κ α:Type):=List (κ×α×Nat)
def encM{κ α:Type}(ek:κ→AVal)(ev:α→AVal)(l:ML κ α):List (AVal×AVal×Nat):=l.map fun e=>(ek e.1,ev e.2.1,e.2.2)
def iA(n:Int):AVal:=.int .i64 n
def nA(n:Int×List UInt8):AVal:=.agg [.int .i64 n.1,.str n.2]
section
variable {κ α:Type} [DecidableEq κ]
def ixM:ML κ α→κ→Option Nat
 | [],_=>none
 |e::l,x=>if x=e.1 then some 0 else(ixM l x).map (· +1)
def lkM:ML κ α→κ→Option α
 | [],_=>none
 |e::l,x=>if x=e.1 then some e.2.1 else lkM l x
def upM:ML κ α→Nat→κ→α→ML κ α
 | [],c,x,a=>[(x,a,c)]
 |e::l,c,x,a=>if x=e.1 then(x,a,e.2.2)::l else e::upM l c x a
def dlM:ML κ α→κ→ML κ α
 | [],_=>[]
 |e::l,x=>if x=e.1 then l else e::dlM l x
def ckM(l:ML κ α)(c:Nat)(x:κ):Nat:=if (lkM l x).isSome then c else c+1
theorem wU(l:ML κ α)(x:κ):(ixM l x).isSome=(lkM l x).isSome:=by
 induction l with
 |nil=>rfl
 |cons e l ih=>simp only[ixM,lkM];split<;>simp[ih]
theorem eH(l:ML κ α)(c:Nat)(x:κ)(a:α)(y:κ):lkM (upM l c x a) y=if y=x then some a else lkM l y:=by
 induction l with
 |nil=>simp[upM,lkM]
 |cons e l ih=>
  simp only[upM,lkM]
  by_cases h:x=e.1
  ·subst h;simp only[if_true,lkM];split<;>rfl
  ·rw[if_neg h]
   simp only[lkM,ih]
   by_cases hy:y=e.1
   ·subst hy;rw[if_pos rfl,if_pos rfl,if_neg (fun e=>h e.symm)]
   ·rw[if_neg hy,if_neg hy]
theorem sL{l:ML κ α}{x:κ}(h:x ∉ l.map (·.1)):lkM l x=none:=by
 induction l with
 |nil=>rfl
 |cons e l ih=>
  simp only[List.map_cons,List.mem_cons,not_or]at h
  rw[lkM,if_neg h.1,ih h.2]
theorem gv{l:ML κ α}{x:κ}{a:α}(h:lkM l x=some a):∃b,(x,a,b)∈l:=by
 induction l with
 |nil=>cases h
 |cons e l ih=>
  rw[lkM]at h
  split at h
  ·rename_i hx;cases h;subst hx;exact⟨_,List.mem_cons_self ..⟩
  ·obtain⟨b,hb⟩:=ih h;exact⟨b,List.mem_cons_of_mem _ hb⟩
theorem cD{l:ML κ α}(hn:(l.map (·.1)).Nodup){x:κ}{a:α}{b:Nat}(h:(x,a,b)∈l):lkM l x=some a:=by
 induction l with
 |nil=>cases h
 |cons e l ih=>
  rw[List.map_cons,List.nodup_cons]at hn
  rcases List.mem_cons.1 h with h|h
  ·subst h;rw[lkM,if_pos rfl]
  ·rw[lkM,if_neg,ih hn.2 h]
   intro he;exact hn.1 (List.mem_map.2 ⟨_,h,he⟩)
theorem fQ{l:ML κ α}(hn:(l.map (·.1)).Nodup)(x y:κ):lkM (dlM l x) y=if y=x then none else lkM l y:=by
 induction l with
 |nil=>simp[dlM,lkM]
 |cons e l ih=>
  rw[List.map_cons,List.nodup_cons]at hn
  simp only[dlM]
  by_cases h:x=e.1
  ·subst h
   rw[if_pos rfl]
   by_cases hy:y=e.1
   ·subst hy;rw[if_pos rfl,sL hn.1]
   ·rw[if_neg hy,lkM,if_neg hy]
  ·rw[if_neg h]
   simp only[lkM,ih hn.2]
   by_cases hy:y=e.1
   ·subst hy;rw[if_pos rfl,if_pos rfl,if_neg (fun e=>h e.symm)]
   ·rw[if_neg hy,if_neg hy]
theorem uU(l:ML κ α)(c:Nat)(x:κ)(a:α):(upM l c x a).length=if (lkM l x).isSome then l.length else l.length+1:=by
 induction l with
 |nil=>rfl
 |cons e l ih=>
  simp only[upM,lkM]
  split
  ·simp
  ·rw[List.length_cons,ih];split<;>simp
theorem uV{l:ML κ α}{x:κ}{e:κ×α×Nat}(h:e∈dlM l x):e∈l:=by
 induction l with
 |nil=>exact h
 |cons d l ih=>
  simp only[dlM]at h
  split at h
  ·exact List.mem_cons_of_mem _ h
  ·rcases List.mem_cons.1 h with h|h
   ·rw[h];exact List.mem_cons_self ..
   ·exact List.mem_cons_of_mem _ (ih h)
theorem gw(l:ML κ α)(x:κ):(dlM l x).Sublist l:=by
 induction l with
 |nil=>exact .slnil
 |cons d l ih=>
  simp only[dlM]
  split
  ·exact List.sublist_cons_self ..
  ·exact ih.cons_cons _
structure WFM (l:ML κ α) (c:Nat):Prop where
 keys:(l.map (·.1)).Nodup
 borns:(l.map (·.2.2)).Nodup
 lt:∀e∈l,e.2.2<c
theorem WFM.nil:WFM ([]:ML κ α) 0:=⟨by simp,by simp,fun e h=>by cases h⟩
theorem l8(l:ML κ α)(c:Nat)(x:κ)(a:α):(upM l c x a).map (·.1)=if (lkM l x).isSome then l.map (·.1)else l.map (·.1)++[x]:=by
 induction l with
 |nil=>rfl
 |cons e l ih=>
  simp only[upM,lkM]
  split
  ·rename_i h;subst h;simp
  ·rw[List.map_cons,ih];split<;>simp
theorem ef(l:ML κ α)(c:Nat)(x:κ)(a:α):(upM l c x a).map (·.2.2)=if (lkM l x).isSome then l.map (·.2.2)else l.map (·.2.2)++[c]:=by
 induction l with
 |nil=>rfl
 |cons e l ih=>
  simp only[upM,lkM]
  split
  ·rename_i h;subst h;simp
  ·rw[List.map_cons,ih];split<;>simp
theorem jy{l:ML κ α}{x:κ}(h:(lkM l x).isSome=false):x ∉ l.map (·.1):=by
 induction l with
 |nil=>simp
 |cons e l ih=>
  rw[lkM]at h
  split at h
  ·cases h
  ·rename_i hx;simp only[List.map_cons,List.mem_cons,not_or];exact⟨hx,ih h⟩
theorem WFM.up{l:ML κ α}{c:Nat}(w:WFM l c)(x:κ)(a:α):WFM (upM l c x a) (ckM l c x):=by
 cases h:(lkM l x).isSome with
 |true=>
  refine⟨by rw[l8,h];exact w.keys,by rw[ef,h];exact w.borns,fun e he=>?_⟩
  have:e.2.2∈ (upM l c x a).map (·.2.2):=List.mem_map.2 ⟨e,he,rfl⟩
  rw[ef,h,if_pos rfl]at this
  obtain⟨d,hd,hq⟩:=List.mem_map.1 this
  rw[ckM,h,if_pos rfl, ← hq];exact w.lt d hd
 |false=>
  refine⟨?_,?_,fun e he=>?_⟩
  ·rw[l8,h]
   simp only[Bool.false_eq_true,if_false]
   rw[List.nodup_append]
   exact⟨w.keys,by simp,fun y hy z hz=>by simp at hz;subst hz;intro e;subst e;exact jy h hy⟩
  ·rw[ef,h]
   simp only[Bool.false_eq_true,if_false]
   rw[List.nodup_append]
   exact⟨w.borns,by simp,fun y hy z hz=>by
    simp at hz;subst hz;intro e;subst e
    obtain⟨d,hd,hq⟩:=List.mem_map.1 hy
    have:=w.lt d hd;omega⟩
  ·have:e.2.2∈ (upM l c x a).map (·.2.2):=List.mem_map.2 ⟨e,he,rfl⟩
   rw[ef,h]at this
   simp only[Bool.false_eq_true,if_false,List.mem_append,List.mem_singleton]at this
   rw[ckM,h]
   simp only[Bool.false_eq_true,if_false]
   rcases this with h1|h1
   ·obtain⟨d,hd,hq⟩:=List.mem_map.1 h1
    have:=w.lt d hd;omega
   ·omega
theorem WFM.dl{l:ML κ α}{c:Nat}(w:WFM l c)(x:κ):WFM (dlM l x) c:=
 ⟨((gw l x).map _).nodup w.keys,((gw l x).map _).nodup w.borns,fun e he=>w.lt e (uV he)⟩
variable {P:Program} {kt:TypeId} {ek:κ→AVal} {ev:α→AVal}
theorem sM(hk:∀x y,akey P kt (ek x) (ek y)=some (decide (x=y)))(x:κ)(l:ML κ α):∀i,findA P kt (ek x) (encM ek ev l) i=some ((ixM l x).map (· +i)):=by
 induction l with
 |nil=>intro i;rfl
 |cons e l ih=>
  intro i
  have hh:=hk x e.1
  simp only[encM,List.map_cons,findA,hh,ixM]
  by_cases h:x=e.1
  ·rw[decide_eq_true h];simp[if_pos h]
  ·rw[decide_eq_false h,if_neg h]
   have:=ih (i+1)
   rw[encM]at this
   simp only[this,Option.map_map]
   congr 2
   funext j;simp;omega
theorem fS(hk:∀x y,akey P kt (ek x) (ek y)=some (decide (x=y)))(x:κ)(l:ML κ α):findA P kt (ek x) (encM ek ev l) 0=some (ixM l x):=by
 rw[sM hk];simp
theorem wV(h:kindT P kt=0)(x y:Int):akey P kt (iA x) (iA y)=some (decide (x=y)):=by
 simp only[akey,iA,h,aeq1,if_true,Option.some.injEq];rw[Bool.eq_iff_iff];simp
theorem wW(h:kindT P kt=2)(x y:List UInt8):akey P kt (.str x) (.str y)=some (decide (x=y)):=by
 simp only[akey,h,aeq1,Option.some.injEq];rw[Bool.eq_iff_iff];simp
theorem wX(h:plainT P kt=some [0,2])(x y:Int×List UInt8):akey P kt (nA x) (nA y)=some (decide (x=y)):=by
 simp only[akey,nA,h,Option.bind_some,aeqL,aeq1,if_true,Option.map_some,Option.some.injEq,Bool.and_true]
 rw[Bool.eq_iff_iff];obtain⟨a,b⟩:=x;obtain⟨c,d⟩:=y;simp
@[go_sem] theorem Gl{l:ML Int α}(h:kindT P kt=0)(x:Int):findA P kt (.int .i64 x) (encM iA ev l) 0=some (ixM l x):=fS (ek:=iA) (wV h) x l
@[go_sem] theorem Gm{l:ML (List UInt8) α}(h:kindT P kt=2)(x:List UInt8):findA P kt (.str x) (encM AVal.str ev l) 0=some (ixM l x):=fS (ek:=AVal.str) (wW h) x l
@[go_sem] theorem Gn{l:ML (Int×List UInt8) α}(h:plainT P kt=some [0,2])(a:Int)(b:List UInt8):findA P kt (.agg [.int .i64 a,.str b]) (encM nA ev l) 0=some (ixM l (a,b)):=fS (ek:=nA) (wX h) (a,b) l
@[go_sem] theorem Gp(h:kindT P kt=0)(x:Int):keyA P kt (.int .i64 x)=true:=by simp[keyA,keyT,akey,h,aeq1]
@[go_sem] theorem Gq(h:kindT P kt=2)(x:List UInt8):keyA P kt (.str x)=true:=by simp[keyA,keyT,akey,h,aeq1]
@[go_sem] theorem Gr(h:plainT P kt=some [0,2])(a:Int)(b:List UInt8):keyA P kt (.agg [.int .i64 a,.str b])=true:=by simp[keyA,keyT,akey,h,aeqL,aeq1]
def v1(z:AVal)(ev:α→AVal):Option α→AVal
 |some a=>ev a
 |none=>z
def vM(ok:Bool)(z:AVal)(ev:α→AVal)(o:Option α):AVal:=if ok then .tup [v1 z ev o,.bool o.isSome]else v1 z ev o
@[go_sem] theorem Hx(z:AVal)(ev:α→AVal)(o:Option α):vM true z ev o=.tup [v1 z ev o,.bool o.isSome]:=(rfl)
@[go_sem] theorem Hy(z:AVal)(ev:α→AVal)(o:Option α):vM false z ev o=v1 z ev o:=(rfl)
@[go_sem] theorem Ej(z:AVal)(ev:α→AVal)(a:α):v1 z ev (some a)=ev a:=(rfl)
@[go_sem] theorem Ek(z:AVal)(ev:α→AVal):v1 z ev none=z:=(rfl)
theorem l9{z:AVal}{ev:α→AVal}{d:α}(h:ev d=z)(o:Option α):v1 z ev o=ev (o.getD d):=by cases o<;>simp[v1,h]
@[go_sem] theorem Hz(d:Int)(o:Option Int):v1 (.int .i64 d) iA o=.int .i64 (o.getD d):=l9 rfl o
theorem wY(ok:Bool)(z:AVal)(l:ML κ α)(x:κ):gotA ok z ((ixM l x).bind fun i=>(encM ek ev l)[i]?)=vM ok z ev (lkM l x):=by
 induction l with
 |nil=>cases ok<;>rfl
 |cons e l ih=>
  simp only[ixM,lkM]
  split
  ·cases ok<;>simp[encM,gotA,vM,v1]
  ·rw[Option.bind_map]
   simp only[encM,List.map_cons]at ih ⊢
   exact ih
attribute [go_sem] wY
theorem oC(c:Nat)(l:ML κ α)(x:κ)(a:α):putM (encM ek ev l) c (ek x) (ev a) (ixM l x)=.mp (encM ek ev (upM l c x a)) (ckM l c x):=by
 have h1:∀l:ML κ α,(match ixM l x with|some i=>(encM ek ev l).modify i fun e=>(ek x,ev a,e.2.2)|none=>encM ek ev l++[(ek x,ev a,c)])=encM ek ev (upM l c x a):=by
  intro l
  induction l with
  |nil=>rfl
  |cons e l ih=>
   simp only[ixM,upM]
   split
   ·rename_i h;split at h
    ·cases h;rename_i hx;rw[if_pos hx];rfl
    ·rename_i hx
     rw[if_neg hx]
     cases hi:ixM l x with
     |none=>rw[hi]at h;cases h
     |some j=>
      rw[hi]at h ih;simp at h;subst h
      simp only[encM,List.map_cons,List.modify_succ_cons]at ih ⊢
      rw[ih]
   ·rename_i h;split at h
    ·cases h
    ·rename_i hx
     rw[if_neg hx]
     cases hi:ixM l x with
     |some j=>rw[hi]at h;cases h
     |none=>
      rw[hi]at ih
      simp only[encM,List.map_cons,List.cons_append]at ih ⊢
      rw[ih]
 have h2:=wU l x
 have h3:=h1 l
 cases hi:ixM l x with
 |some i=>rw[hi]at h2 h3;simp only[Option.isSome_some]at h2;simp only[putM,ckM, ← h2,if_true];rw[← h3]
 |none=>rw[hi]at h2 h3;simp only[Option.isSome_none]at h2;simp only[putM,ckM, ← h2];rw[← h3];rfl
theorem ze(c:Nat)(l:ML κ α)(x:κ):delM (encM ek ev l) c (ixM l x)=.mp (encM ek ev (dlM l x)) c:=by
 have h1:∀l:ML κ α,(match ixM l x with|some i=>(encM ek ev l).eraseIdx i|none=>encM ek ev l)=encM ek ev (dlM l x):=by
  intro l
  induction l with
  |nil=>rfl
  |cons e l ih=>
   simp only[ixM,dlM]
   by_cases hx:x=e.1
   ·rw[if_pos hx,if_pos hx];rfl
   ·rw[if_neg hx,if_neg hx]
    cases hi:ixM l x with
    |none=>rw[hi]at ih;simp only[encM,List.map_cons,Option.map_none]at ih ⊢;rw[← ih]
    |some j=>rw[hi]at ih;simp only[encM,List.map_cons,Option.map_some,List.eraseIdx_cons_succ]at ih ⊢;rw[ih]
 have h3:=h1 l
 cases hi:ixM l x with
 |some i=>rw[hi]at h3;simp only[delM];rw[← h3]
 |none=>rw[hi]at h3;simp only[delM];rw[← h3]
attribute [go_sem] ze
def alenM:Option (TypeId×TypeId)→Option (List (AVal×AVal×Nat)×Nat)→Option Nat
 |some _,some r=>some r.1.length
 |_,_=>none
@[go_sem] theorem El(P:Program)(h:Heap)(T:TypeId)(p:Nat):alen P h T (.hm p)=alenM (mapT P T) (mapAt h p):=by
 simp only[alen]
 cases mapT P T with
 |none=>rfl
 |some q=>cases mapAt h p<;>rfl
@[go_sem] theorem Em(q:TypeId×TypeId)(r:List (AVal×AVal×Nat))(c:Nat):alenM (some q) (some (r,c))=some r.length:=(rfl)
@[go_sem] theorem CX(l:ML κ α):(encM ek ev l).length=l.length:=List.length_map ..
theorem im{v:AVal}(c:Nat)(l:ML Int α)(x:Int)(a:α)(h:ev a=v):putM (encM iA ev l) c (.int .i64 x) v (ixM l x)=.mp (encM iA ev (upM l c x a)) (ckM l c x):=by subst h;exact oC (ek:=iA) c l x a
theorem CY{v:AVal}(c:Nat)(l:ML (List UInt8) α)(x:List UInt8)(a:α)(h:ev a=v):putM (encM AVal.str ev l) c (.str x) v (ixM l x)=.mp (encM AVal.str ev (upM l c x a)) (ckM l c x):=by subst h;exact oC (ek:=AVal.str) c l x a
theorem CZ{v:AVal}(c:Nat)(l:ML (Int×List UInt8) α)(x:Int)(y:List UInt8)(a:α)(h:ev a=v):putM (encM nA ev l) c (.agg [.int .i64 x,.str y]) v (ixM l (x,y))=.mp (encM nA ev (upM l c (x,y) a)) (ckM l c (x,y)):=by subst h;exact oC (ek:=nA) c l (x,y) a
@[go_sem] theorem GR(c:Nat)(l:ML Int Int)(x a:Int):putM (encM iA iA l) c (.int .i64 x) (.int .i64 a) (ixM l x)=.mp (encM iA iA (upM l c x a)) (ckM l c x):=im c l x a rfl
@[go_sem] theorem GS(c:Nat)(l:ML (List UInt8) Int)(x:List UInt8)(a:Int):putM (encM AVal.str iA l) c (.str x) (.int .i64 a) (ixM l x)=.mp (encM AVal.str iA (upM l c x a)) (ckM l c x):=CY c l x a rfl
@[go_sem] theorem GT(c:Nat)(l:ML (Int×List UInt8) Int)(x:Int)(y:List UInt8)(a:Int):putM (encM nA iA l) c (.agg [.int .i64 x,.str y]) (.int .i64 a) (ixM l (x,y))=.mp (encM nA iA (upM l c (x,y) a)) (ckM l c (x,y)):=CZ c l x y a rfl
@[go_sem] theorem Gs(k:IntKind)(n:Int):softA (.int k n)=.int k n:=(rfl)
@[go_sem] theorem D1(cs:List AVal):softA (.agg cs)=.agg (cs.map soft1):=(rfl)
@[go_sem] theorem En(k:IntKind)(n:Int):soft1 (.int k n)=.int k n:=(rfl)
@[go_sem] theorem Eo(s:List UInt8):soft1 (.str s)=.str s:=(rfl)
@[go_sem] theorem Ep(b:Bool):soft1 (.bool b)=.bool b:=(rfl)
@[go_sem] theorem Er:soft1 (.nil (.slice none 0 0))=.sl 1 []:=(rfl)
@[go_sem] theorem Es(n:Nat)(l:List AVal):soft1 (.sl n l)=.sl n l:=(rfl)
def leftM(l:ML κ α)(seen:List Nat):Nat:=(l.filter fun e=>decide (e.2.2 ∉ seen)).length
theorem sN{h:Heap}{p q c:Nat}{seen:List Nat}{l:ML κ α}{k:AVal→Heap→Prop}(hh:h[p]? =some (.mit q c seen c))(hm:mapAt h q=some (encM ek ev l,c))(hb:∀e∈l,e.2.2<c)
  (h1:∀e∈l,e.2.2 ∉ seen→k (.tup [.bool true,ek e.1,ev e.2.1]) (h.set p (.mit q c (seen++[e.2.2]) c)))
  (h2:(∀e∈l,e.2.2∈seen)→k (.tup [.bool false]) h):nextMK (.hp p 0 0 0) h k:=by
 simp only[nextMK,hh,hm,aX]
 refine⟨?_,fun e he hs=>?_,fun hn=>h2 fun e he=>?_⟩
 ·cases l with
  |nil=>simp[encM]
  |cons e l=>
   have:=hb e (List.mem_cons_self ..)
   simp only[encM,List.map_cons,List.all_cons]
   rw[decide_eq_false (by omega)];simp
 ·obtain⟨d,hd,rfl⟩:=List.mem_map.1 he
  exact h1 d hd hs
 ·apply Classical.byContradiction
  intro hs
  have:=hn (ek e.1,ev e.2.1,e.2.2) (List.mem_map.2 ⟨e,he,rfl⟩) hs
  have:=hb e he
  simp at *;omega
theorem sO{h:Heap}{p q c since:Nat}{seen:List Nat}{l:ML κ α}{e:κ×α×Nat}{k:AVal→Prop}(hh:h[p]? =some (.mit q since (seen++[e.2.2]) c))(hm:mapAt h q=some (encM ek ev l,c))(w:WFM l c)(he:e∈l)
  (hk:k (.tup [ek e.1,ev e.2.1])):entryK (.hp p 0 0 0) h k:=by
 have:(encM ek ev l).find? (fun d=>d.2.2==e.2.2)=some (ek e.1,ev e.2.1,e.2.2):=by
  have hb:=w.borns
  clear w hm
  induction l with
  |nil=>cases he
  |cons d l ih=>
   rw[List.map_cons,List.nodup_cons]at hb
   rw[encM,List.map_cons,List.find?_cons]
   rcases List.mem_cons.1 he with rfl|he
   ·simp
   ·have:d.2.2≠e.2.2:=fun q=>hb.1 (List.mem_map.2 ⟨e,he,q.symm⟩)
    simp only[beq_eq_false_iff_ne.2 this]
    exact ih he hb.2
 simp only[entryK,hh,hm,aX,this,List.getLast?_append,List.getLast?_singleton,Option.some_or]
 exact⟨trivial,hk⟩
theorem la{l l':ML κ α}{seen:List Nat}{e:κ×α×Nat}(he:e∈l)(hs:e.2.2 ∉ seen)(hsub:l'.Sublist l):leftM l' (seen++[e.2.2])<leftM l seen:=by
 unfold leftM
 have h1:(l'.filter fun d=>decide (d.2.2 ∉ seen++[e.2.2])).length≤(l.filter fun d=>decide (d.2.2 ∉ seen++[e.2.2])).length:=(hsub.filter _).length_le
 have h2:∀l:ML κ α,e∈l→(l.filter fun d=>decide (d.2.2 ∉ seen++[e.2.2])).length<(l.filter fun d=>decide (d.2.2 ∉ seen)).length:=by
  intro l
  have le:∀l:ML κ α,(l.filter fun d=>decide (d.2.2 ∉ seen++[e.2.2])).length≤(l.filter fun d=>decide (d.2.2 ∉ seen)).length:=by
   intro l
   induction l with
   |nil=>simp
   |cons d l ih=>
    simp only[List.filter_cons]
    by_cases h:d.2.2∈seen
    ·rw[decide_eq_false (by simp[h]),decide_eq_false (by simp[h])];exact ih
    ·rw[decide_eq_true (p:=d.2.2 ∉ seen) h]
     split
     ·simp only[if_true,List.length_cons];omega
     ·simp only[if_true,List.length_cons];omega
  induction l with
  |nil=>intro h;cases h
  |cons d l ih=>
   intro h
   simp only[List.filter_cons]
   rcases List.mem_cons.1 h with h|h
   ·subst h
    rw[decide_eq_false (by simp),decide_eq_true (p:=e.2.2 ∉ seen) hs]
    have:=le l
    simp only[if_true,List.length_cons,Bool.false_eq_true,if_false];omega
   ·have:=ih h
    by_cases hd:d.2.2∈seen
    ·rw[decide_eq_false (by simp[hd]),decide_eq_false (by simp[hd])];exact this
    ·rw[decide_eq_true (p:=d.2.2 ∉ seen) hd]
     split
     ·simp only[if_true,List.length_cons];omega
     ·simp only[if_true,List.length_cons];omega
 have:=h2 l he
 omega
end
end Go.Av
namespace Go.Av
attribute [go_sem] Nat.le_refl Bool.false_or Bool.true_or Bool.false_and jV Int.natCast_nonneg Int.ofNat_lt Int.ofNat_le Bool.not_true Bool.not_false
attribute [go_sem ↓] sD mz List.getElem?_cons_succ List.getElem?_cons_zero
def condK(c:AVal)(a b:Prop):Prop:=match c with| .bool q=>(q=true→a)∧(q=false→b)|_=>False
structure Went (a:Prop):Prop where
 go:a
@[congr] theorem zf(a:Prop):Went a=Went a:=rfl
@[congr] theorem yx{c c':AVal}{a b:Prop}(e:c=c'):condK c a b=condK c' a b:=by rw[e]
@[go_sem] theorem Et(a b:Prop):condK (.bool true) a b=Went a:=propext ⟨fun h=>⟨h.1 rfl⟩,fun h=>⟨fun _=>h.go,fun e=>Bool.noConfusion e⟩⟩
@[go_sem] theorem Eu(a b:Prop):condK (.bool false) a b=Went b:=propext ⟨fun h=>⟨h.2 rfl⟩,fun h=>⟨fun e=>Bool.noConfusion e,fun _=>h.go⟩⟩
theorem sP{C:Ctx}{t:Env}{h:Heap}{c:Operand}{x y:Code}{Q:Exit→Env→Heap→Prop}(g:condK (aev C.G t c) (WP C x Q t h) (WP C y Q t h)):WP C (.cond c x y) Q t h:=by
 unfold condK at g
 split at g
 ·rename_i q hq
  exact jx hq g.1 g.2
 ·exact g.elim
end Go.Av
namespace Go.Av
theorem gY{p P:Prop}(e:p=P:=by first| (simp only[Bool.false_or,Bool.or_false,Bool.true_or,Bool.or_true,Bool.false_and,Bool.and_false,Bool.and_true,Bool.true_and,Bool.or_eq_true,Bool.or_eq_false_iff,Bool.and_eq_true,Bool.and_eq_false_iff,Nat.not_lt,Nat.not_le,decide_eq_true_eq,decide_eq_false_iff_not,Bool.not_eq_true',Bool.not_eq_false',beq_iff_eq,bne_iff_ne,ne_eq,beq_eq_false_iff_ne,bne_eq_false_iff_eq,Bool.not_eq_true,Bool.not_eq_false,Int.not_lt,Int.not_le,gt_iff_lt,ge_iff_le,Int.ofNat_lt,Int.ofNat_le,Int.natCast_inj,Int.natCast_inj,Bool.not_not,decide_not,Decidable.not_not];rfl)|rfl):p=P:=e
theorem aC{α:Type}{a b:α}(e:a=b:=by first|rfl| (simp;done)| (simp;rfl)):a=b:=e
theorem F2{A0 A1:Prop}(a0:A0)(a1:A1):A0∧A1:=⟨a0,a1⟩
theorem F3{A0 A1 A2:Prop}(a0:A0)(a1:A1)(a2:A2):A0∧A1∧A2:=⟨a0,a1,a2⟩
theorem F4{A0 A1 A2 A3:Prop}(a0:A0)(a1:A1)(a2:A2)(a3:A3):A0∧A1∧A2∧A3:=⟨a0,a1,a2,a3⟩
theorem F5{A0 A1 A2 A3 A4:Prop}(a0:A0)(a1:A1)(a2:A2)(a3:A3)(a4:A4):A0∧A1∧A2∧A3∧A4:=⟨a0,a1,a2,a3,a4⟩
theorem F6{A0 A1 A2 A3 A4 A5:Prop}(a0:A0)(a1:A1)(a2:A2)(a3:A3)(a4:A4)(a5:A5):A0∧A1∧A2∧A3∧A4∧A5:=⟨a0,a1,a2,a3,a4,a5⟩
theorem F7{A0 A1 A2 A3 A4 A5 A6:Prop}(a0:A0)(a1:A1)(a2:A2)(a3:A3)(a4:A4)(a5:A5)(a6:A6):A0∧A1∧A2∧A3∧A4∧A5∧A6:=⟨a0,a1,a2,a3,a4,a5,a6⟩
theorem F8{A0 A1 A2 A3 A4 A5 A6 A7:Prop}(a0:A0)(a1:A1)(a2:A2)(a3:A3)(a4:A4)(a5:A5)(a6:A6)(a7:A7):A0∧A1∧A2∧A3∧A4∧A5∧A6∧A7:=⟨a0,a1,a2,a3,a4,a5,a6,a7⟩
theorem F9{A0 A1 A2 A3 A4 A5 A6 A7 A8:Prop}(a0:A0)(a1:A1)(a2:A2)(a3:A3)(a4:A4)(a5:A5)(a6:A6)(a7:A7)(a8:A8):A0∧A1∧A2∧A3∧A4∧A5∧A6∧A7∧A8:=⟨a0,a1,a2,a3,a4,a5,a6,a7,a8⟩
theorem wZ{A0 A1 A2 A3 A4 A5 A6 A7 A8 A9:Prop}(a0:A0)(a1:A1)(a2:A2)(a3:A3)(a4:A4)(a5:A5)(a6:A6)(a7:A7)(a8:A8)(a9:A9):A0∧A1∧A2∧A3∧A4∧A5∧A6∧A7∧A8∧A9:=⟨a0,a1,a2,a3,a4,a5,a6,a7,a8,a9⟩
variable {C:Ctx} {Q:Exit→Env→Heap→Prop} {t:Env} {h:Heap}
theorem w1{a b:Code}(hh:∀K:Env→Heap→Prop,(∀t h,Wkn C (wr a) t h (fun t h=>WP C b Q t h)→K t h)→WP C a (thenQ K Q) t h):WP C (.seq a b) Q t h:=wN hh
theorem w2{id:Nat}{c:Code}(hh:WP C c (blockQ id Q) t h):WP C (.block id c) Q t h:=sC hh
theorem w4{id:Nat}{l:List Oper}(hh:WPl C l.toArray Q l t h):WP C (.region id l.toArray false) Q t h:=qq hh
theorem w5(hh:Q .normal t h):WP C .skip Q t h:=uP hh
theorem w6{id:Nat}(hh:Q (.exit id) t h):WP C (.exit id) Q t h:=uQ hh
theorem w7(hh:Q .ret t h):WP C .ret Q t h:=wO hh
theorem w8{c:Operand}{x y:Code}(g:condK (aev C.G t c) (WP C x Q t h) (WP C y Q t h)):WP C (.cond c x y) Q t h:=sP g
theorem w9{a:Prop}(g:a):Went a:=⟨g⟩
theorem w0{ms:List Nat}{R:Env→Heap→Prop}(g:R t h):Wkn C ms t h R:=Wkn.refl g
def pureB:Callee→Bool
 | .value _=>true
 | .builtin .len=>true
 | .builtin .max=>true
 | .builtin .min=>true
 | .builtin .unsafeSliceData=>true
 |_=>false
def pureO:Op→Bool
 | .move _| .assign _| .pick _ _ _| .load _ _| .nilCheck _| .binOp _ _ _ _ _| .unOp _ _ _| .convert _ _ _| .slice _ _ _ _ _| .fieldAddr _ _ _| .field _ _ _| .indexAddr _ _ _| .index _ _ _| .extract _ _| .build _ _| .buildSlice _ _ _| .lookup _ _ _ _=>true
 | .call c=>pureB c.callee
 |_=>false
def pureN:List Oper→Nat
 | []=>0
 |o::r=>match pureO o.op with|true=>pureN r+1|false=>0
def dk(l:List Oper)(k:Nat):Bool:=Nat.beq (pureN l) k&&(drawOk l.toArray k&&decide (k≤l.length))
theorem wD{id k:Nat}{l:List Oper}(g:WPp C l.toArray (l.take k) t h fun t'=>WPl C l.toArray Q (l.drop k) t' h)(hk:dk l k=true:=by first| (show dk _ 2=true;decide+kernel)| (show dk _ 3=true;decide+kernel)| (show dk _ 4=true;decide+kernel)| (show dk _ 5=true;decide+kernel)| (show dk _ 6=true;decide+kernel)| (show dk _ 7=true;decide+kernel)| (show dk _ 8=true;decide+kernel)| (show dk _ 9=true;decide+kernel)| (show dk _ 10=true;decide+kernel)| (show dk _ 11=true;decide+kernel)| (show dk _ 12=true;decide+kernel)| (show dk _ 13=true;decide+kernel)| (show dk _ 14=true;decide+kernel)| (show dk _ 15=true;decide+kernel)| (show dk _ 1=true;decide+kernel)| (show dk _ 16=true;decide+kernel)| (show dk _ 17=true;decide+kernel)| (show dk _ 18=true;decide+kernel)| (show dk _ 19=true;decide+kernel)| (show dk _ 20=true;decide+kernel)| (show dk _ 21=true;decide+kernel)| (show dk _ 22=true;decide+kernel)| (show dk _ 23=true;decide+kernel)| (show dk _ 24=true;decide+kernel)| (show dk _ 25=true;decide+kernel)| (show dk _ 26=true;decide+kernel)| (show dk _ 27=true;decide+kernel)| (show dk _ 28=true;decide+kernel)| (show dk _ 29=true;decide+kernel)| (show dk _ 30=true;decide+kernel)| (show dk _ 31=true;decide+kernel)| (show dk _ 32=true;decide+kernel)| (show dk _ 33=true;decide+kernel)| (show dk _ 34=true;decide+kernel)| (show dk _ 35=true;decide+kernel)| (show dk _ 36=true;decide+kernel)| (show dk _ 37=true;decide+kernel)| (show dk _ 38=true;decide+kernel)| (show dk _ 39=true;decide+kernel)| (show dk _ 40=true;decide+kernel)| (show dk _ 41=true;decide+kernel)| (show dk _ 42=true;decide+kernel)| (show dk _ 43=true;decide+kernel)| (show dk _ 44=true;decide+kernel)| (show dk _ 45=true;decide+kernel)| (show dk _ 46=true;decide+kernel)| (show dk _ 47=true;decide+kernel)| (show dk _ 48=true;decide+kernel)| (show dk _ 49=true;decide+kernel)| (show dk _ 50=true;decide+kernel)| (show dk _ 51=true;decide+kernel)| (show dk _ 52=true;decide+kernel)| (show dk _ 53=true;decide+kernel)| (show dk _ 54=true;decide+kernel)| (show dk _ 55=true;decide+kernel)| (show dk _ 56=true;decide+kernel)| (show dk _ 57=true;decide+kernel)| (show dk _ 58=true;decide+kernel)| (show dk _ 59=true;decide+kernel)| (show dk _ 60=true;decide+kernel)| (show dk _ 61=true;decide+kernel)| (show dk _ 62=true;decide+kernel)| (show dk _ 63=true;decide+kernel)| (show dk _ 64=true;decide+kernel)| (show dk _ 65=true;decide+kernel)| (show dk _ 66=true;decide+kernel)| (show dk _ 67=true;decide+kernel)| (show dk _ 68=true;decide+kernel)| (show dk _ 69=true;decide+kernel)| (show dk _ 70=true;decide+kernel)| (show dk _ 71=true;decide+kernel)| (show dk _ 72=true;decide+kernel)):WP C (.region id l.toArray true) Q t h:=by
 unfold dk at hk
 rw[Bool.and_eq_true]at hk
 exact uR k hk.2 g
variable {F X Y P N:Prop} {c:Operand} {a b:Code} {q:Bool} {ops:Array Oper} {rest:List Oper} {dst:Option Nat} {op:Op} {ty:TypeId} {pos:String} {aft:Array Edge} {j d:Nat} {want:Bool} {K:Env→Prop} {T T' len e n by' p ver:Nat} {idx:List Nat} {xs rows ys:List AVal} {y:AVal} {k:AVal→Heap→Prop} {kv:AVal→Prop}
theorem sq(f:F)(g:Y)(e:F→X=Y:=by intro f;simp(maxSteps:=1000000) (disch:=first|omega| (simp only[go_sem, ↓reduceIte,seval];first|done|omega)|fail) only[go_sem, ↓reduceIte,seval,f];rfl):X:=(e f).mpr g
theorem zq(f:F)(e:F→X:=by intro f;simp(maxSteps:=1000000) (disch:=first|omega| (simp only[go_sem, ↓reduceIte,seval];first|done|omega)|fail) only[go_sem, ↓reduceIte,seval,f];all_goals fail):X:=e f
theorem cq(f:F)(h1:P→WP C a Q t h)(h2:N→WP C b Q t h)(e:F→aev C.G t c=.bool q:=by intro f;simp(maxSteps:=1000000) (disch:=first|omega| (simp only[go_sem, ↓reduceIte,seval];first|done|omega)|fail) only[go_sem, ↓reduceIte,seval,f];rfl)(hP:(q=true)=P:=by exact gY)(hN:(q=false)=N:=by exact gY):WP C (.cond c a b) Q t h:=jx (e f) (fun x=>h1 (hP.mp x)) (fun x=>h2 (hN.mp x))
theorem gq(f:F)(h1:P→WPl C ops Q (⟨dst,op,ty,pos,aft,some (j,want)⟩::rest) (upd t d (.bool true)) h)(h2:N→WPl C ops Q (⟨dst,op,ty,pos,aft,some (j,want)⟩::rest) (upd t d (.bool false)) h)(hd:(ops[j]?).bind (·.dst)=some d:=by rfl)(e:F→t d=.bool q:=by intro f;simp(maxSteps:=1000000) (disch:=first|omega| (simp only[go_sem, ↓reduceIte,seval];first|done|omega)|fail) only[go_sem, ↓reduceIte,seval,f];rfl)(hP:(q=true)=P:=by exact gY)(hN:(q=false)=N:=by exact gY):WPl C ops Q (⟨dst,op,ty,pos,aft,some (j,want)⟩::rest) t h:=iW hd (e f) (fun x=>h1 (hP.mp x)) (fun x=>h2 (hN.mp x))
theorem pq(f:F)(h1:P→WPp C ops (⟨dst,op,ty,pos,aft,some (j,want)⟩::rest) (upd t d (.bool true)) h K)(h2:N→WPp C ops (⟨dst,op,ty,pos,aft,some (j,want)⟩::rest) (upd t d (.bool false)) h K)(hd:(ops[j]?).bind (·.dst)=some d:=by rfl)(e:F→t d=.bool q:=by intro f;simp(maxSteps:=1000000) (disch:=first|omega| (simp only[go_sem, ↓reduceIte,seval];first|done|omega)|fail) only[go_sem, ↓reduceIte,seval,f];rfl)(hP:(q=true)=P:=by exact gY)(hN:(q=false)=N:=by exact gY):WPp C ops (⟨dst,op,ty,pos,aft,some (j,want)⟩::rest) t h K:=oA hd (e f) (fun x=>h1 (hP.mp x)) (fun x=>h2 (hN.mp x))
theorem rq(f:F)(hk:k (.sl n xs) h)(he:elmT C.P T=some e:=by simp only[go_sem];rfl)(hn:szOf C.P e=some n:=by simp only[go_sem];rfl)(hz:(zroT C.P e).map (fun z=>(z.cells.length,z.cells.all AVal.sto))=some (n,true):=by simp only[go_sem];try rfl)(hl:xs.length=len:=by simp)(h0:0<len:=by omega)(h1:0<n:=by omega)(hb:len*n≤16777216:=by omega)(hi:idx=List.range len:=by rfl)(hx:F→xs.all (fun x=>decide (x.cells.length=n)&&x.lies)=true:=by intro f;simp(maxSteps:=1000000) (disch:=first|omega| (simp only[go_sem, ↓reduceIte,seval];first|done|omega)|fail) only[go_sem, ↓reduceIte,seval,f];all_goals (simp;all_goals fail)):rowsK C T len idx xs h k:=l7 he hn hz hl h0 h1 hb hi (hx f) hk
theorem xq(f:F)(hk:k (.hs h.length 0 0 len true) (h++[.row e n 0 xs]))(he:elmT C.P T=some e:=by simp only[go_sem];rfl)(hn:szOf C.P e=some n:=by simp only[go_sem];rfl)(hz:(zroT C.P e).map (fun z=>(z.cells.length,z.cells.all AVal.sto))=some (n,true):=by simp only[go_sem];try rfl)(hl:xs.length=len:=by simp)(h0:0<len:=by omega)(h1:0<n:=by omega)(hb:len*n≤16777216:=by omega)(hi:idx=List.range len:=by rfl)(hx:F→xs.all (fun x=>decide (x.cells.length=n)&&x.lies)=true:=by intro f;simp(maxSteps:=1000000) (disch:=first|omega| (simp only[go_sem, ↓reduceIte,seval];first|done|omega)|fail) only[go_sem, ↓reduceIte,seval,f];all_goals (simp;all_goals fail)):rowsK C T len idx xs h k:=sJ he hn hz hl h0 h1 hb hi (hx f) hk
theorem vq(f:F)(hk:kv (.sl n xs))(he:elmT C.P T=some e:=by simp only[go_sem];rfl)(hn:szOf C.P e=some n:=by simp only[go_sem];rfl)(hz:(zroT C.P e).map (fun z=>(z.cells.length,z.cells.all AVal.sto))=some (n,true):=by simp only[go_sem];try rfl)(hl:xs.length=len:=by simp)(h0:0<len:=by omega)(h1:0<n:=by omega)(hb:len*n≤16777216:=by omega)(hi:idx=List.range len:=by rfl)(hx:F→xs.all (fun x=>decide (x.cells.length=n)&&x.lies)=true:=by intro f;simp(maxSteps:=1000000) (disch:=first|omega| (simp only[go_sem, ↓reduceIte,seval];first|done|omega)|fail) only[go_sem, ↓reduceIte,seval,f];all_goals (simp;all_goals fail)):rowsV C T len idx xs kv:=sK he hn hz hl h0 h1 hb hi (hx f) hk
theorem aq(f:F)(hk:k (.hs p (ver+1) 0 (len+ys.length) true) (h.set p (.row e n (ver+1) (rows++ys))))(hT:T'=T∨strT C.P T'=true:=by first|exact .inl rfl| (right;simp only[go_sem]))(he:elmT C.P T=some e:=by simp only[go_sem];rfl)(hn:szOf C.P e=some n:=by simp only[go_sem];rfl)(hb:byT C.P e=some by':=by simp only[go_sem];rfl)(hz:(zroT C.P e).map (fun z=>z.cells.length)=some n:=by simp only[go_sem];try rfl)(h0:0<n:=by omega)(hy:elemsOf h n y=some ys:=by simp only[elemsOf, ↓reduceIte];rfl)(hrow:F→getRow h p ver=some (e,n,rows):=by intro f;simp(maxSteps:=1000000) (disch:=first|omega| (simp only[go_sem, ↓reduceIte,seval];first|done|omega)|fail) only[go_sem, ↓reduceIte,seval,f];rfl)(hl:len=rows.length:=by simp)(hr:len+ys.length≤maxLen∧(len+ys.length)*by'≤140737488355328:=by refine⟨?_,?_⟩<;>simp only[maxLen,List.length_map,List.length_cons,List.length_nil,List.length_append]<;>omega):appK C T T' (.hs p ver 0 len true) y h k:=cc hT he hn hb hz h0 hy (hrow f) hl hr hk
theorem ee{x:Exit}{h0:Heap}{rs:List ResultVar}{R:AVal→Heap→Prop}(hQ:∀t h,need (resA C t h rs) (Fin h0 h R)→Q .ret t h∧Q .normal t h)(f:F)(g:Y)(e:F→need (resA C t h rs) (Fin h0 h R)=Y:=by intro f;simp(maxSteps:=1000000) (disch:=first|omega| (simp only[go_sem, ↓reduceIte,seval];first|done|omega)|fail) only[go_sem, ↓reduceIte,seval,f];rfl)(hx:x=.ret∨x=.normal:=by first|exact .inl rfl|exact .inr rfl):Q x t h:=by
 have:=hQ t h ((e f).mpr g)
 rcases hx with rfl|rfl
 ·exact this.1
 ·exact this.2
theorem ye{x:Exit}{h0:Heap}{rs:List ResultVar}{R:AVal→Heap→Prop}(hQ:∀t h,need (resA C t h rs) (Fin h0 h R)→Q .ret t h∧Q .normal t h)(f:F)(g:Y)(e:F→need (resA C t h rs) (Fin h0 h R)=Y:=by intro f;simp(maxSteps:=1000000) (disch:=first|omega| (simp only[go_sem, ↓reduceIte,seval];first|done|omega)|fail) only[go_sem, ↓reduceIte,seval,f,resA,resL,resA1];rfl)(hx:x=.ret∨x=.normal:=by first|exact .inl rfl|exact .inr rfl):Q x t h:=by
 have:=hQ t h ((e f).mpr g)
 rcases hx with rfl|rfl
 ·exact this.1
 ·exact this.2
theorem eI(f:F)(g:Y)(e:F→X=Y:=by intro f;simp(disch:=first|omega| (simp only[go_sem, ↓reduceIte,Nat.reduceEqDiff];done)|fail) only[go_sem, ↓reduceIte,Int.reduceToNat,Int.reduceLE,Int.reduceLT,Int.reduceSub,Int.reduceAdd,Nat.reduceEqDiff,Nat.reduceAdd,Nat.reduceLeDiff,Nat.reduceLT,Nat.reduceMul,Nat.reduceSub,f];rfl):X:=(e f).mpr g
theorem eJ(f:F)(e:F→X:=by intro f;simp(disch:=first|omega| (simp only[go_sem, ↓reduceIte,Nat.reduceEqDiff];done)|fail) only[go_sem, ↓reduceIte,Int.reduceToNat,Int.reduceLE,Int.reduceLT,Int.reduceSub,Int.reduceAdd,Nat.reduceEqDiff,Nat.reduceAdd,Nat.reduceLeDiff,Nat.reduceLT,Nat.reduceMul,Nat.reduceSub,f];all_goals fail):X:=e f
theorem ns(f:F)(h1:P→WP C a Q t h)(h2:N→WP C b Q t h)(e:F→aev C.G t c=.bool q:=by intro f;simp(disch:=first|omega| (simp only[go_sem, ↓reduceIte,Nat.reduceEqDiff];done)|fail) only[go_sem, ↓reduceIte,Int.reduceToNat,Int.reduceLE,Int.reduceLT,Int.reduceSub,Int.reduceAdd,Nat.reduceEqDiff,Nat.reduceAdd,Nat.reduceLeDiff,Nat.reduceLT,Nat.reduceMul,Nat.reduceSub,f];rfl)(hP:(q=true)=P:=by exact gY)(hN:(q=false)=N:=by exact gY):WP C (.cond c a b) Q t h:=jx (e f) (fun x=>h1 (hP.mp x)) (fun x=>h2 (hN.mp x))
theorem AY(f:F)(h1:P→WPl C ops Q (⟨dst,op,ty,pos,aft,some (j,want)⟩::rest) (upd t d (.bool true)) h)(h2:N→WPl C ops Q (⟨dst,op,ty,pos,aft,some (j,want)⟩::rest) (upd t d (.bool false)) h)(hd:(ops[j]?).bind (·.dst)=some d:=by rfl)(e:F→t d=.bool q:=by intro f;simp(disch:=first|omega| (simp only[go_sem, ↓reduceIte,Nat.reduceEqDiff];done)|fail) only[go_sem, ↓reduceIte,Int.reduceToNat,Int.reduceLE,Int.reduceLT,Int.reduceSub,Int.reduceAdd,Nat.reduceEqDiff,Nat.reduceAdd,Nat.reduceLeDiff,Nat.reduceLT,Nat.reduceMul,Nat.reduceSub,f];rfl)(hP:(q=true)=P:=by exact gY)(hN:(q=false)=N:=by exact gY):WPl C ops Q (⟨dst,op,ty,pos,aft,some (j,want)⟩::rest) t h:=iW hd (e f) (fun x=>h1 (hP.mp x)) (fun x=>h2 (hN.mp x))
theorem AZ(f:F)(hk:k (.sl n xs) h)(he:elmT C.P T=some e:=by simp only[go_sem];rfl)(hn:szOf C.P e=some n:=by simp only[go_sem];rfl)(hz:(zroT C.P e).map (fun z=>(z.cells.length,z.cells.all AVal.sto))=some (n,true):=by simp only[go_sem];try rfl)(hl:xs.length=len:=by simp)(h0:0<len:=by omega)(h1:0<n:=by omega)(hb:len*n≤16777216:=by omega)(hi:idx=List.range len:=by rfl)(hx:F→xs.all (fun x=>decide (x.cells.length=n)&&x.lies)=true:=by intro f;simp(disch:=first|omega| (simp only[go_sem, ↓reduceIte,Nat.reduceEqDiff];done)|fail) only[go_sem, ↓reduceIte,Int.reduceToNat,Int.reduceLE,Int.reduceLT,Int.reduceSub,Int.reduceAdd,Nat.reduceEqDiff,Nat.reduceAdd,Nat.reduceLeDiff,Nat.reduceLT,Nat.reduceMul,Nat.reduceSub,f];all_goals (simp;all_goals fail)):rowsK C T len idx xs h k:=l7 he hn hz hl h0 h1 hb hi (hx f) hk
theorem gZ{x:Exit}{h0:Heap}{rs:List ResultVar}{R:AVal→Heap→Prop}(hQ:∀t h,need (resA C t h rs) (Fin h0 h R)→Q .ret t h∧Q .normal t h)(f:F)(g:Y)(e:F→need (resA C t h rs) (Fin h0 h R)=Y:=by intro f;simp(disch:=first|omega| (simp only[go_sem, ↓reduceIte,Nat.reduceEqDiff];done)|fail) only[go_sem, ↓reduceIte,Int.reduceToNat,Int.reduceLE,Int.reduceLT,Int.reduceSub,Int.reduceAdd,Nat.reduceEqDiff,Nat.reduceAdd,Nat.reduceLeDiff,Nat.reduceLT,Nat.reduceMul,Nat.reduceSub,f];rfl)(hx:x=.ret∨x=.normal:=by first|exact .inl rfl|exact .inr rfl):Q x t h:=by
 have:=hQ t h ((e f).mpr g)
 rcases hx with rfl|rfl
 ·exact this.1
 ·exact this.2
theorem fR{h0 h1 j:Heap}{R:AVal→Heap→Prop}{r:AVal}{A:Prop}(hc:Clo h0.length r)(g:A)(hh:h1=h0++j:=by first|exact(List.append_nil _).symm|rfl| (simp only[List.append_assoc,List.cons_append,List.nil_append];rfl))(e:A→R r h0:=by intro g;exact⟨g,rfl⟩):Fin h0 h1 R r:=Fin.plainE hh hc (e g)
theorem sb(rs:List ResultVar){f:FuncId}{fn:Func}{c:Code}{args:List AVal}{R:AVal→Heap→Prop}(hf:C.P.funcs[f]? =some fn)(hw:∀Q:Exit→Env→Heap→Prop,(∀t' h',need (resA C t' h' rs) (Fin h h' R)→Q .ret t' h'∧Q .normal t' h')→WP C c Q (env0 args) h)(hb:fn.body=some c:=by exact rfl)(hrs:fn.results.toList=rs:=by exact rfl)(hname:(fn.name== "runtime.NumGoroutine")=false:=by kernel_rfl)
  (hok:okCode fn.ntmps c=true:=by kernel_rfl)(hres:fn.results.toList.all (okRes fn.ntmps)=true:=by kernel_rfl)(hlen:decide (args.length≤fn.ntmps)=true:=by exact rfl):Sat C f args h R:=Sat.body rs hf hb hrs hname hok hres hlen hw
theorem lm{c:Code}{ms:List Nat}(I:Nat→Env→Heap→Prop)(n:Nat)(h0:Wkn C ms t h (I n))
  (round:∀(n':Nat) (s:Env) (h':Heap),I n' (mix ms s t) h'→∀K:Env→Heap→Prop,(∀m t2 h2,Wkn C ms t2 h2 (I m)→m<n'→K t2 h2)→WP C c (thenQ K Q) (mix ms s t) h')(hms:wr c=ms:=by simp only[go_sem,List.nil_append,List.cons_append];rfl):WP C (.loop c) Q t h:=sH hms I n h0 round
end Go.Av
namespace Go.Av
variable {C:Ctx} {Q:Exit→Env→Heap→Prop} {t:Env} {h:Heap} {a b:Code}
def Kt(C:Ctx)(a b:Code)(Q:Exit→Env→Heap→Prop):Env→Heap→Prop:=fun t h=>Wkn C (wr a) t h fun t h=>WP C b Q t h
@[congr] theorem D2(C:Ctx)(a b:Code)(Q:Exit→Env→Heap→Prop):Kt C a b Q=Kt C a b Q:=rfl
structure Bx (Y:Prop):Prop where
 go:Y
theorem wG(g:WP C b Q t h):Kt C a b Q t h:=Wkn.refl g
theorem wS(hh:WP C a (thenQ (Kt C a b Q) Q) t h):WP C (.seq a b) Q t h:=hh
variable {F X Y:Prop} {fn:FuncId} {args:List AVal} {x:AVal} {h1:Heap} {KK:AVal→Heap→Prop}
theorem wk(f:F)(g:Y)(e:F→Bx Y→X:=by intro f g;(repeat (first|refine wS ?_|refine w2 ?_|refine w3 ?_| ((first|refine w4 ?_|refine w5 ?_|refine w6 ?_|refine w7 ?_|refine wD ?_);try simp(maxSteps:=1000000) (disch:=first|omega| (simp only[go_sem, ↓reduceIte,seval];first|done|omega)|fail) only[go_sem, ↓reduceIte,seval,f])| (refine w8 ?_;simp(maxSteps:=1000000) (disch:=first|omega| (simp only[go_sem, ↓reduceIte,seval];first|done|omega)|fail) only[go_sem, ↓reduceIte,seval,f];refine w9 ?_)|refine wG ?_| (refine rq f ?_;try simp(maxSteps:=1000000) (disch:=first|omega| (simp only[go_sem, ↓reduceIte,seval];first|done|omega)|fail) only[go_sem, ↓reduceIte,seval,f])| (refine vq f ?_;try simp(maxSteps:=1000000) (disch:=first|omega| (simp only[go_sem, ↓reduceIte,seval];first|done|omega)|fail) only[go_sem, ↓reduceIte,seval,f])));exact g.go):X:=e f ⟨g⟩
theorem kq(f:F)(c:Sat C fn args h (fun r h'=>r=x∧h'=h1))(g:Y)(e:F→Bx Y→KK x h1:=by intro f g;(try simp(maxSteps:=1000000) (disch:=first|omega| (simp only[go_sem, ↓reduceIte,seval];first|done|omega)|fail) only[go_sem, ↓reduceIte,seval,f]);(repeat (first|refine wS ?_|refine w2 ?_|refine w3 ?_| ((first|refine w4 ?_|refine w5 ?_|refine w6 ?_|refine w7 ?_|refine wD ?_);try simp(maxSteps:=1000000) (disch:=first|omega| (simp only[go_sem, ↓reduceIte,seval];first|done|omega)|fail) only[go_sem, ↓reduceIte,seval,f])| (refine w8 ?_;simp(maxSteps:=1000000) (disch:=first|omega| (simp only[go_sem, ↓reduceIte,seval];first|done|omega)|fail) only[go_sem, ↓reduceIte,seval,f];refine w9 ?_)|refine wG ?_| (refine rq f ?_;try simp(maxSteps:=1000000) (disch:=first|omega| (simp only[go_sem, ↓reduceIte,seval];first|done|omega)|fail) only[go_sem, ↓reduceIte,seval,f])| (refine vq f ?_;try simp(maxSteps:=1000000) (disch:=first|omega| (simp only[go_sem, ↓reduceIte,seval];first|done|omega)|fail) only[go_sem, ↓reduceIte,seval,f])));exact g.go):Sat C fn args h KK:=c.mono (by rintro r h' ⟨rfl,rfl⟩;exact e f ⟨g⟩)
theorem wn(f:F)(g:Y)(e:F→Bx Y→X:=by intro f g;(repeat (first|refine wS ?_|refine w2 ?_|refine w3 ?_| ((first|refine w4 ?_|refine w5 ?_|refine w6 ?_|refine w7 ?_);try simp(maxSteps:=1000000) (disch:=first|omega| (simp only[go_sem, ↓reduceIte,seval];first|done|omega)|fail) only[go_sem, ↓reduceIte,seval,f])| (refine w8 ?_;simp(maxSteps:=1000000) (disch:=first|omega| (simp only[go_sem, ↓reduceIte,seval];first|done|omega)|fail) only[go_sem, ↓reduceIte,seval,f];refine w9 ?_)|refine wG ?_| (refine rq f ?_;try simp(maxSteps:=1000000) (disch:=first|omega| (simp only[go_sem, ↓reduceIte,seval];first|done|omega)|fail) only[go_sem, ↓reduceIte,seval,f])| (refine vq f ?_;try simp(maxSteps:=1000000) (disch:=first|omega| (simp only[go_sem, ↓reduceIte,seval];first|done|omega)|fail) only[go_sem, ↓reduceIte,seval,f])));exact g.go):X:=e f ⟨g⟩
theorem kn(f:F)(c:Sat C fn args h (fun r h'=>r=x∧h'=h1))(g:Y)(e:F→Bx Y→KK x h1:=by intro f g;(try simp(maxSteps:=1000000) (disch:=first|omega| (simp only[go_sem, ↓reduceIte,seval];first|done|omega)|fail) only[go_sem, ↓reduceIte,seval,f]);(repeat (first|refine wS ?_|refine w2 ?_|refine w3 ?_| ((first|refine w4 ?_|refine w5 ?_|refine w6 ?_|refine w7 ?_);try simp(maxSteps:=1000000) (disch:=first|omega| (simp only[go_sem, ↓reduceIte,seval];first|done|omega)|fail) only[go_sem, ↓reduceIte,seval,f])| (refine w8 ?_;simp(maxSteps:=1000000) (disch:=first|omega| (simp only[go_sem, ↓reduceIte,seval];first|done|omega)|fail) only[go_sem, ↓reduceIte,seval,f];refine w9 ?_)|refine wG ?_| (refine rq f ?_;try simp(maxSteps:=1000000) (disch:=first|omega| (simp only[go_sem, ↓reduceIte,seval];first|done|omega)|fail) only[go_sem, ↓reduceIte,seval,f])| (refine vq f ?_;try simp(maxSteps:=1000000) (disch:=first|omega| (simp only[go_sem, ↓reduceIte,seval];first|done|omega)|fail) only[go_sem, ↓reduceIte,seval,f])));exact g.go):Sat C fn args h KK:=c.mono (by rintro r h' ⟨rfl,rfl⟩;exact e f ⟨g⟩)
theorem kx(f:F)(c:Sat C fn args h (fun r h'=>r=x∧h'=h1))(g:Y)(e:F→Bx Y→KK x h1:=by intro f g;(try simp(maxSteps:=1000000) (disch:=first|omega| (simp only[go_sem, ↓reduceIte,seval];first|done|omega)|fail) only[go_sem, ↓reduceIte,seval,f]);(repeat (first|refine wS ?_|refine w2 ?_|refine w3 ?_| ((first|refine w4 ?_|refine w5 ?_|refine w6 ?_|refine w7 ?_|refine wD ?_);try simp(maxSteps:=1000000) (disch:=first|omega| (simp only[go_sem, ↓reduceIte,seval];first|done|omega)|fail) only[go_sem, ↓reduceIte,seval,f])| (refine w8 ?_;simp(maxSteps:=1000000) (disch:=first|omega| (simp only[go_sem, ↓reduceIte,seval];first|done|omega)|fail) only[go_sem, ↓reduceIte,seval,f];refine w9 ?_)|refine wG ?_| (refine xq f ?_;try simp(maxSteps:=1000000) (disch:=first|omega| (simp only[go_sem, ↓reduceIte,seval];first|done|omega)|fail) only[go_sem, ↓reduceIte,seval,f])));exact g.go):Sat C fn args h KK:=c.mono (by rintro r h' ⟨rfl,rfl⟩;exact e f ⟨g⟩)
theorem bI(f:F)(g:Y)(e:F→Bx Y→X:=by intro f g;(repeat (first|refine wS ?_|refine w2 ?_|refine w3 ?_| ((first|refine w4 ?_|refine w5 ?_|refine w6 ?_|refine w7 ?_|refine wD ?_);try simp(disch:=first|omega| (simp only[go_sem, ↓reduceIte,Nat.reduceEqDiff];done)|fail) only[go_sem, ↓reduceIte,Int.reduceToNat,Int.reduceLE,Int.reduceLT,Int.reduceSub,Int.reduceAdd,Nat.reduceEqDiff,Nat.reduceAdd,Nat.reduceLeDiff,Nat.reduceLT,Nat.reduceMul,Nat.reduceSub,f])| (refine w8 ?_;simp(disch:=first|omega| (simp only[go_sem, ↓reduceIte,Nat.reduceEqDiff];done)|fail) only[go_sem, ↓reduceIte,Int.reduceToNat,Int.reduceLE,Int.reduceLT,Int.reduceSub,Int.reduceAdd,Nat.reduceEqDiff,Nat.reduceAdd,Nat.reduceLeDiff,Nat.reduceLT,Nat.reduceMul,Nat.reduceSub,f];refine w9 ?_)|refine wG ?_| (refine AZ f ?_;try simp(disch:=first|omega| (simp only[go_sem, ↓reduceIte,Nat.reduceEqDiff];done)|fail) only[go_sem, ↓reduceIte,Int.reduceToNat,Int.reduceLE,Int.reduceLT,Int.reduceSub,Int.reduceAdd,Nat.reduceEqDiff,Nat.reduceAdd,Nat.reduceLeDiff,Nat.reduceLT,Nat.reduceMul,Nat.reduceSub,f])| (refine vqo f ?_;try simp(disch:=first|omega| (simp only[go_sem, ↓reduceIte,Nat.reduceEqDiff];done)|fail) only[go_sem, ↓reduceIte,Int.reduceToNat,Int.reduceLE,Int.reduceLT,Int.reduceSub,Int.reduceAdd,Nat.reduceEqDiff,Nat.reduceAdd,Nat.reduceLeDiff,Nat.reduceLT,Nat.reduceMul,Nat.reduceSub,f])));exact g.go):X:=e f ⟨g⟩
theorem B0(f:F)(c:Sat C fn args h (fun r h'=>r=x∧h'=h1))(g:Y)(e:F→Bx Y→KK x h1:=by intro f g;(try simp(disch:=first|omega| (simp only[go_sem, ↓reduceIte,Nat.reduceEqDiff];done)|fail) only[go_sem, ↓reduceIte,Int.reduceToNat,Int.reduceLE,Int.reduceLT,Int.reduceSub,Int.reduceAdd,Nat.reduceEqDiff,Nat.reduceAdd,Nat.reduceLeDiff,Nat.reduceLT,Nat.reduceMul,Nat.reduceSub,f]);(repeat (first|refine wS ?_|refine w2 ?_|refine w3 ?_| ((first|refine w4 ?_|refine w5 ?_|refine w6 ?_|refine w7 ?_|refine wD ?_);try simp(disch:=first|omega| (simp only[go_sem, ↓reduceIte,Nat.reduceEqDiff];done)|fail) only[go_sem, ↓reduceIte,Int.reduceToNat,Int.reduceLE,Int.reduceLT,Int.reduceSub,Int.reduceAdd,Nat.reduceEqDiff,Nat.reduceAdd,Nat.reduceLeDiff,Nat.reduceLT,Nat.reduceMul,Nat.reduceSub,f])| (refine w8 ?_;simp(disch:=first|omega| (simp only[go_sem, ↓reduceIte,Nat.reduceEqDiff];done)|fail) only[go_sem, ↓reduceIte,Int.reduceToNat,Int.reduceLE,Int.reduceLT,Int.reduceSub,Int.reduceAdd,Nat.reduceEqDiff,Nat.reduceAdd,Nat.reduceLeDiff,Nat.reduceLT,Nat.reduceMul,Nat.reduceSub,f];refine w9 ?_)|refine wG ?_| (refine AZ f ?_;try simp(disch:=first|omega| (simp only[go_sem, ↓reduceIte,Nat.reduceEqDiff];done)|fail) only[go_sem, ↓reduceIte,Int.reduceToNat,Int.reduceLE,Int.reduceLT,Int.reduceSub,Int.reduceAdd,Nat.reduceEqDiff,Nat.reduceAdd,Nat.reduceLeDiff,Nat.reduceLT,Nat.reduceMul,Nat.reduceSub,f])| (refine vqo f ?_;try simp(disch:=first|omega| (simp only[go_sem, ↓reduceIte,Nat.reduceEqDiff];done)|fail) only[go_sem, ↓reduceIte,Int.reduceToNat,Int.reduceLE,Int.reduceLT,Int.reduceSub,Int.reduceAdd,Nat.reduceEqDiff,Nat.reduceAdd,Nat.reduceLeDiff,Nat.reduceLT,Nat.reduceMul,Nat.reduceSub,f])));exact g.go):Sat C fn args h KK:=c.mono (by rintro r h' ⟨rfl,rfl⟩;exact e f ⟨g⟩)
end Go.Av
namespace Go.Av.Ty
open Go Go.Av Go.Proofs
@[go_sem] theorem Gt:szOf Tryz.prog 3=some 1:=by kernel_rfl
@[go_sem] theorem Gu:aggT Tryz.prog 3=some false:=by kernel_rfl
@[go_sem] theorem GU:byT Tryz.prog 3=some 8:=by kernel_rfl
@[go_sem] theorem Ew:kindT Tryz.prog 3=0:=by kernel_rfl
@[go_sem] theorem Gv:zroT Tryz.prog 3=some (.int .i64 0):=by kernel_rfl
@[go_sem] theorem Gw:szOf Tryz.prog 4=some 1:=by kernel_rfl
@[go_sem] theorem Gx:aggT Tryz.prog 4=some false:=by kernel_rfl
@[go_sem] theorem Gy:zroT Tryz.prog 4=some (.bool false):=by kernel_rfl
@[go_sem] theorem Gz:szOf Tryz.prog 5=some 1:=by kernel_rfl
@[go_sem] theorem GV:byT Tryz.prog 5=some 1:=by kernel_rfl
@[go_sem] theorem GA:zroT Tryz.prog 5=some (.int .u8 0):=by kernel_rfl
@[go_sem] theorem GW:Program.underlying Tryz.prog 5=some (.int .u8):=by kernel_rfl
@[go_sem] theorem GB:szOf Tryz.prog 9=some 1:=by kernel_rfl
@[go_sem] theorem GC:aggT Tryz.prog 9=some false:=by kernel_rfl
@[go_sem] theorem GX:byT Tryz.prog 9=some 16:=by kernel_rfl
@[go_sem] theorem Ex:kindT Tryz.prog 9=2:=by kernel_rfl
@[go_sem] theorem GD:strT Tryz.prog 9=true:=by kernel_rfl
@[go_sem] theorem GE:zroT Tryz.prog 9=some (.str []):=by kernel_rfl
@[go_sem] theorem Ey:szOf Tryz.prog 21=some 1:=by kernel_rfl
@[go_sem] theorem Ez:aggT Tryz.prog 21=some false:=by kernel_rfl
@[go_sem] theorem GF:byT Tryz.prog 21=some 4:=by kernel_rfl
@[go_sem] theorem EA:zroT Tryz.prog 21=some (.int .i32 0):=by kernel_rfl
@[go_sem] theorem GG:Program.underlying Tryz.prog 21=some (.int .i32):=by kernel_rfl
@[go_sem] theorem EB:elmT Tryz.prog 22=some 62:=by kernel_rfl
@[go_sem] theorem EC:szOf Tryz.prog 23=some 1:=by kernel_rfl
@[go_sem] theorem ED:aggT Tryz.prog 23=some false:=by kernel_rfl
@[go_sem] theorem EE:elmT Tryz.prog 23=some 25:=by kernel_rfl
@[go_sem] theorem EF:szOf Tryz.prog 25=some 4:=by kernel_rfl
@[go_sem] theorem EG:aggT Tryz.prog 25=some true:=by kernel_rfl
@[go_sem] theorem GH:byT Tryz.prog 25=some 56:=by kernel_rfl
@[go_sem] theorem EH:nFld Tryz.prog 25=some 4:=by kernel_rfl
@[go_sem] theorem B1:fOff Tryz.prog 25 0=some (0,3,1):=by kernel_rfl
@[go_sem] theorem B2:fOff Tryz.prog 25 1=some (1,3,1):=by kernel_rfl
@[go_sem] theorem B3:fOff Tryz.prog 25 2=some (2,9,1):=by kernel_rfl
@[go_sem] theorem B4:fOff Tryz.prog 25 3=some (3,23,1):=by kernel_rfl
@[go_sem] theorem EI:zroT Tryz.prog 25=some (.agg [.int .i64 0,.int .i64 0,.str [],.nil (.slice none 0 0)]):=by kernel_rfl
@[go_sem] theorem EJ:szOf Tryz.prog 27=some 1:=by kernel_rfl
@[go_sem] theorem EK:aggT Tryz.prog 27=some false:=by kernel_rfl
@[go_sem] theorem EL:zroT Tryz.prog 27=some (.nil .nilFunc):=by kernel_rfl
@[go_sem] theorem EM:szOf Tryz.prog 29=some 1:=by kernel_rfl
@[go_sem] theorem EN:aggT Tryz.prog 29=some false:=by kernel_rfl
@[go_sem] theorem EO:elmT Tryz.prog 31=some 90:=by kernel_rfl
@[go_sem] theorem EP:szOf Tryz.prog 32=some 1:=by kernel_rfl
@[go_sem] theorem EQ:aggT Tryz.prog 32=some false:=by kernel_rfl
@[go_sem] theorem ER:elmT Tryz.prog 32=some 93:=by kernel_rfl
@[go_sem] theorem ES:szOf Tryz.prog 33=some 1:=by kernel_rfl
@[go_sem] theorem EU:aggT Tryz.prog 33=some false:=by kernel_rfl
@[go_sem] theorem EV:elmT Tryz.prog 33=some 49:=by kernel_rfl
@[go_sem] theorem EW:elmT Tryz.prog 34=some 97:=by kernel_rfl
@[go_sem] theorem EX:szOf Tryz.prog 36=some 9:=by kernel_rfl
@[go_sem] theorem EY:aggT Tryz.prog 36=some true:=by kernel_rfl
@[go_sem] theorem EZ:nFld Tryz.prog 36=some 9:=by kernel_rfl
@[go_sem] theorem B5:fOff Tryz.prog 36 0=some (0,3,1):=by kernel_rfl
@[go_sem] theorem B6:fOff Tryz.prog 36 1=some (1,31,1):=by kernel_rfl
@[go_sem] theorem B7:fOff Tryz.prog 36 2=some (2,32,1):=by kernel_rfl
@[go_sem] theorem B8:fOff Tryz.prog 36 3=some (3,33,1):=by kernel_rfl
@[go_sem] theorem B9:fOff Tryz.prog 36 4=some (4,34,1):=by kernel_rfl
@[go_sem] theorem Ba:fOff Tryz.prog 36 5=some (5,3,1):=by kernel_rfl
@[go_sem] theorem Bb:fOff Tryz.prog 36 6=some (6,3,1):=by kernel_rfl
@[go_sem] theorem Bc:fOff Tryz.prog 36 7=some (7,3,1):=by kernel_rfl
@[go_sem] theorem Bd:fOff Tryz.prog 36 8=some (8,3,1):=by kernel_rfl
@[go_sem] theorem F0:zroT Tryz.prog 36=some (.agg [.int .i64 0,.nil (.slice none 0 0),.nil (.slice none 0 0),.nil (.slice none 0 0),.nil (.slice none 0 0),.int .i64 0,.int .i64 0,.int .i64 0,.int .i64 0]):=by kernel_rfl
@[go_sem] theorem F1:szOf Tryz.prog 38=some 1:=by kernel_rfl
@[go_sem] theorem Fa:aggT Tryz.prog 38=some false:=by kernel_rfl
@[go_sem] theorem Fb:elmT Tryz.prog 38=some 3:=by kernel_rfl
@[go_sem] theorem Fc:zroT Tryz.prog 38=some (.nil (.slice none 0 0)):=by kernel_rfl
@[go_sem] theorem Fd:szOf Tryz.prog 47=some 1:=by kernel_rfl
@[go_sem] theorem Ff:aggT Tryz.prog 47=some false:=by kernel_rfl
@[go_sem] theorem Fg:elmT Tryz.prog 47=some 9:=by kernel_rfl
@[go_sem] theorem Fh:szOf Tryz.prog 49=some 9:=by kernel_rfl
@[go_sem] theorem Fi:aggT Tryz.prog 49=some true:=by kernel_rfl
@[go_sem] theorem GI:byT Tryz.prog 49=some 104:=by kernel_rfl
@[go_sem] theorem Fj:nFld Tryz.prog 49=some 9:=by kernel_rfl
@[go_sem] theorem Be:fOff Tryz.prog 49 0=some (0,3,1):=by kernel_rfl
@[go_sem] theorem Bf:fOff Tryz.prog 49 1=some (1,3,1):=by kernel_rfl
@[go_sem] theorem Bg:fOff Tryz.prog 49 2=some (2,3,1):=by kernel_rfl
@[go_sem] theorem Bh:fOff Tryz.prog 49 3=some (3,9,1):=by kernel_rfl
@[go_sem] theorem Bi:fOff Tryz.prog 49 4=some (4,9,1):=by kernel_rfl
@[go_sem] theorem Bj:fOff Tryz.prog 49 5=some (5,9,1):=by kernel_rfl
@[go_sem] theorem Bk:fOff Tryz.prog 49 6=some (6,4,1):=by kernel_rfl
@[go_sem] theorem Bl:fOff Tryz.prog 49 7=some (7,4,1):=by kernel_rfl
@[go_sem] theorem Bn:fOff Tryz.prog 49 8=some (8,47,1):=by kernel_rfl
@[go_sem] theorem Fk:zroT Tryz.prog 49=some (.agg [.int .i64 0,.int .i64 0,.int .i64 0,.str [],.str [],.str [],.bool false,.bool false,.nil (.slice none 0 0)]):=by kernel_rfl
@[go_sem] theorem Fl:szOf Tryz.prog 62=some 7:=by kernel_rfl
@[go_sem] theorem Fm:aggT Tryz.prog 62=some true:=by kernel_rfl
@[go_sem] theorem Fp:nFld Tryz.prog 62=some 7:=by kernel_rfl
@[go_sem] theorem Bo:fOff Tryz.prog 62 0=some (0,3,1):=by kernel_rfl
@[go_sem] theorem Bp:fOff Tryz.prog 62 1=some (1,3,1):=by kernel_rfl
@[go_sem] theorem Bq:fOff Tryz.prog 62 2=some (2,3,1):=by kernel_rfl
@[go_sem] theorem Br:fOff Tryz.prog 62 3=some (3,3,1):=by kernel_rfl
@[go_sem] theorem Bt:fOff Tryz.prog 62 4=some (4,9,1):=by kernel_rfl
@[go_sem] theorem Bu:fOff Tryz.prog 62 5=some (5,9,1):=by kernel_rfl
@[go_sem] theorem Bv:fOff Tryz.prog 62 6=some (6,9,1):=by kernel_rfl
@[go_sem] theorem Bw:plainT Tryz.prog 62=some [0,0,0,0,2,2,2]:=by kernel_rfl
@[go_sem] theorem Fq:zroT Tryz.prog 62=some (.agg [.int .i64 0,.int .i64 0,.int .i64 0,.int .i64 0,.str [],.str [],.str []]):=by kernel_rfl
@[go_sem] theorem Fr:szOf Tryz.prog 70=some 1:=by kernel_rfl
@[go_sem] theorem Fs:aggT Tryz.prog 70=some false:=by kernel_rfl
@[go_sem] theorem Ft:zroT Tryz.prog 70=some (.nil (.pointer none)):=by kernel_rfl
@[go_sem] theorem Fu:szOf Tryz.prog 74=some 1:=by kernel_rfl
@[go_sem] theorem Fv:aggT Tryz.prog 74=some false:=by kernel_rfl
@[go_sem] theorem Fw:szOf Tryz.prog 77=some 1:=by kernel_rfl
@[go_sem] theorem Fx:aggT Tryz.prog 77=some false:=by kernel_rfl
@[go_sem] theorem Fy:mapT Tryz.prog 77=some (3,90):=by kernel_rfl
@[go_sem] theorem FA:szOf Tryz.prog 78=some 1:=by kernel_rfl
@[go_sem] theorem FB:aggT Tryz.prog 78=some false:=by kernel_rfl
@[go_sem] theorem FC:mapT Tryz.prog 78=some (3,93):=by kernel_rfl
@[go_sem] theorem FD:szOf Tryz.prog 79=some 1:=by kernel_rfl
@[go_sem] theorem FE:aggT Tryz.prog 79=some false:=by kernel_rfl
@[go_sem] theorem FF:mapT Tryz.prog 79=some (3,49):=by kernel_rfl
@[go_sem] theorem FG:szOf Tryz.prog 80=some 1:=by kernel_rfl
@[go_sem] theorem FH:aggT Tryz.prog 80=some false:=by kernel_rfl
@[go_sem] theorem FI:mapT Tryz.prog 80=some (3,97):=by kernel_rfl
@[go_sem] theorem FJ:szOf Tryz.prog 81=some 1:=by kernel_rfl
@[go_sem] theorem FK:aggT Tryz.prog 81=some false:=by kernel_rfl
@[go_sem] theorem FL:mapT Tryz.prog 81=some (107,3):=by kernel_rfl
@[go_sem] theorem FM:szOf Tryz.prog 82=some 1:=by kernel_rfl
@[go_sem] theorem FN:aggT Tryz.prog 82=some false:=by kernel_rfl
@[go_sem] theorem FO:mapT Tryz.prog 82=some (9,3):=by kernel_rfl
@[go_sem] theorem FP:szOf Tryz.prog 83=some 1:=by kernel_rfl
@[go_sem] theorem FQ:aggT Tryz.prog 83=some false:=by kernel_rfl
@[go_sem] theorem FR:mapT Tryz.prog 83=some (152,3):=by kernel_rfl
@[go_sem] theorem FS:szOf Tryz.prog 84=some 1:=by kernel_rfl
@[go_sem] theorem FT:aggT Tryz.prog 84=some false:=by kernel_rfl
@[go_sem] theorem FU:mapT Tryz.prog 84=some (3,3):=by kernel_rfl
@[go_sem] theorem FV:arrT Tryz.prog 85=some (4,3):=by kernel_rfl
@[go_sem] theorem FW:nFld Tryz.prog 87=some 10:=by kernel_rfl
@[go_sem] theorem By:fOff Tryz.prog 87 0=some (0,3,1):=by kernel_rfl
@[go_sem] theorem Bz:fOff Tryz.prog 87 1=some (1,77,1):=by kernel_rfl
@[go_sem] theorem BA:fOff Tryz.prog 87 2=some (2,78,1):=by kernel_rfl
@[go_sem] theorem BB:fOff Tryz.prog 87 3=some (3,79,1):=by kernel_rfl
@[go_sem] theorem BC:fOff Tryz.prog 87 4=some (4,80,1):=by kernel_rfl
@[go_sem] theorem BD:fOff Tryz.prog 87 5=some (5,81,1):=by kernel_rfl
@[go_sem] theorem BE:fOff Tryz.prog 87 6=some (6,82,1):=by kernel_rfl
@[go_sem] theorem BF:fOff Tryz.prog 87 7=some (7,83,1):=by kernel_rfl
@[go_sem] theorem BG:fOff Tryz.prog 87 8=some (8,84,1):=by kernel_rfl
@[go_sem] theorem BH:fOff Tryz.prog 87 9=some (9,85,4):=by kernel_rfl
@[go_sem] theorem FX:zroT Tryz.prog 87=some (.agg [.int .i64 0,.nil (.map none),.nil (.map none),.nil (.map none),.nil (.map none),.nil (.map none),.nil (.map none),.nil (.map none),.nil (.map none),.int .i64 0,.int .i64 0,.int .i64 0,.int .i64 0]):=by kernel_rfl
@[go_sem] theorem FY:szOf Tryz.prog 90=some 3:=by kernel_rfl
@[go_sem] theorem FZ:aggT Tryz.prog 90=some true:=by kernel_rfl
@[go_sem] theorem GJ:byT Tryz.prog 90=some 32:=by kernel_rfl
@[go_sem] theorem G0:nFld Tryz.prog 90=some 3:=by kernel_rfl
@[go_sem] theorem BI:fOff Tryz.prog 90 0=some (0,3,1):=by kernel_rfl
@[go_sem] theorem BJ:fOff Tryz.prog 90 1=some (1,3,1):=by kernel_rfl
@[go_sem] theorem BK:fOff Tryz.prog 90 2=some (2,9,1):=by kernel_rfl
@[go_sem] theorem G1:zroT Tryz.prog 90=some (.agg [.int .i64 0,.int .i64 0,.str []]):=by kernel_rfl
@[go_sem] theorem G2:szOf Tryz.prog 93=some 4:=by kernel_rfl
@[go_sem] theorem G3:aggT Tryz.prog 93=some true:=by kernel_rfl
@[go_sem] theorem GK:byT Tryz.prog 93=some 48:=by kernel_rfl
@[go_sem] theorem G4:nFld Tryz.prog 93=some 4:=by kernel_rfl
@[go_sem] theorem BL:fOff Tryz.prog 93 0=some (0,3,1):=by kernel_rfl
@[go_sem] theorem BM:fOff Tryz.prog 93 1=some (1,3,1):=by kernel_rfl
@[go_sem] theorem BN:fOff Tryz.prog 93 2=some (2,9,1):=by kernel_rfl
@[go_sem] theorem BO:fOff Tryz.prog 93 3=some (3,9,1):=by kernel_rfl
@[go_sem] theorem G5:zroT Tryz.prog 93=some (.agg [.int .i64 0,.int .i64 0,.str [],.str []]):=by kernel_rfl
@[go_sem] theorem G6:szOf Tryz.prog 97=some 3:=by kernel_rfl
@[go_sem] theorem G7:aggT Tryz.prog 97=some true:=by kernel_rfl
@[go_sem] theorem GL:byT Tryz.prog 97=some 40:=by kernel_rfl
@[go_sem] theorem G8:nFld Tryz.prog 97=some 3:=by kernel_rfl
@[go_sem] theorem BP:fOff Tryz.prog 97 0=some (0,3,1):=by kernel_rfl
@[go_sem] theorem BQ:fOff Tryz.prog 97 1=some (1,9,1):=by kernel_rfl
@[go_sem] theorem BR:fOff Tryz.prog 97 2=some (2,9,1):=by kernel_rfl
@[go_sem] theorem G9:zroT Tryz.prog 97=some (.agg [.int .i64 0,.str [],.str []]):=by kernel_rfl
@[go_sem] theorem D3:nFld Tryz.prog 107=some 2:=by kernel_rfl
@[go_sem] theorem zg:fOff Tryz.prog 107 0=some (0,3,1):=by kernel_rfl
@[go_sem] theorem zh:fOff Tryz.prog 107 1=some (1,9,1):=by kernel_rfl
@[go_sem] theorem zi:plainT Tryz.prog 107=some [0,2]:=by kernel_rfl
@[go_sem] theorem D4:zroT Tryz.prog 107=some (.agg [.int .i64 0,.str []]):=by kernel_rfl
@[go_sem] theorem D5:szOf Tryz.prog 115=some 1:=by kernel_rfl
@[go_sem] theorem D6:aggT Tryz.prog 115=some false:=by kernel_rfl
@[go_sem] theorem D7:mapT Tryz.prog 115=some (3,38):=by kernel_rfl
@[go_sem] theorem D8:nFld Tryz.prog 117=some 2:=by kernel_rfl
@[go_sem] theorem zj:fOff Tryz.prog 117 0=some (0,29,1):=by kernel_rfl
@[go_sem] theorem zl:fOff Tryz.prog 117 1=some (1,115,1):=by kernel_rfl
@[go_sem] theorem D9:zroT Tryz.prog 117=some (.agg [.nil (.pointer none),.nil (.map none)]):=by kernel_rfl
@[go_sem] theorem Da:szOf Tryz.prog 123=some 1:=by kernel_rfl
@[go_sem] theorem Db:aggT Tryz.prog 123=some false:=by kernel_rfl
@[go_sem] theorem Dc:szOf Tryz.prog 138=some 1:=by kernel_rfl
@[go_sem] theorem Dd:aggT Tryz.prog 138=some false:=by kernel_rfl
@[go_sem] theorem De:elmT Tryz.prog 138=some 178:=by kernel_rfl
@[go_sem] theorem Df:nFld Tryz.prog 141=some 2:=by kernel_rfl
@[go_sem] theorem zm:fOff Tryz.prog 141 0=some (0,138,1):=by kernel_rfl
@[go_sem] theorem zp:fOff Tryz.prog 141 1=some (1,3,1):=by kernel_rfl
@[go_sem] theorem Dg:zroT Tryz.prog 141=some (.agg [.nil (.slice none 0 0),.int .i64 0]):=by kernel_rfl
@[go_sem] theorem Dh:nFld Tryz.prog 152=some 2:=by kernel_rfl
@[go_sem] theorem zr:fOff Tryz.prog 152 0=some (0,3,1):=by kernel_rfl
@[go_sem] theorem zt:fOff Tryz.prog 152 1=some (1,9,1):=by kernel_rfl
@[go_sem] theorem zu:plainT Tryz.prog 152=some [0,2]:=by kernel_rfl
@[go_sem] theorem Di:zroT Tryz.prog 152=some (.agg [.int .i64 0,.str []]):=by kernel_rfl
@[go_sem] theorem Dj:szOf Tryz.prog 175=some 1:=by kernel_rfl
@[go_sem] theorem Dk:aggT Tryz.prog 175=some false:=by kernel_rfl
@[go_sem] theorem Dl:szOf Tryz.prog 178=some 2:=by kernel_rfl
@[go_sem] theorem zw:fOff Tryz.prog 178 0=some (0,9,1):=by kernel_rfl
@[go_sem] theorem zy:fOff Tryz.prog 178 1=some (1,3,1):=by kernel_rfl
@[go_sem] theorem Dm:ifcT Tryz.prog 179=some false:=by kernel_rfl
@[go_sem] theorem Dn:szOf Tryz.prog 187=some 6:=by kernel_rfl
@[go_sem] theorem Do:aggT Tryz.prog 187=some true:=by kernel_rfl
@[go_sem] theorem Dp:nFld Tryz.prog 187=some 6:=by kernel_rfl
@[go_sem] theorem zz:fOff Tryz.prog 187 0=some (0,3,1):=by kernel_rfl
@[go_sem] theorem zA:fOff Tryz.prog 187 1=some (1,3,1):=by kernel_rfl
@[go_sem] theorem zB:fOff Tryz.prog 187 2=some (2,3,1):=by kernel_rfl
@[go_sem] theorem zC:fOff Tryz.prog 187 3=some (3,3,1):=by kernel_rfl
@[go_sem] theorem zD:fOff Tryz.prog 187 4=some (4,3,1):=by kernel_rfl
@[go_sem] theorem zE:fOff Tryz.prog 187 5=some (5,3,1):=by kernel_rfl
@[go_sem] theorem Dq:zroT Tryz.prog 187=some (.agg [.int .i64 0,.int .i64 0,.int .i64 0,.int .i64 0,.int .i64 0,.int .i64 0]):=by kernel_rfl
@[go_sem] theorem Ga:Program.underlying Tryz.prog 198=some (.int .u32):=by kernel_rfl
@[go_sem] theorem Dr:elmT Tryz.prog 205=some 21:=by kernel_rfl
@[go_sem] theorem Ds:szOf Tryz.prog 228=some 1:=by kernel_rfl
@[go_sem] theorem Dt:aggT Tryz.prog 228=some false:=by kernel_rfl
@[go_sem] theorem Du:elmT Tryz.prog 228=some 5:=by kernel_rfl
@[go_sem] theorem Dv:szOf Tryz.prog 247=some 1:=by kernel_rfl
@[go_sem] theorem Dw:aggT Tryz.prog 247=some false:=by kernel_rfl
@[go_sem] theorem zF:fOff Tryz.prog 249 0=some (0,247,1):=by kernel_rfl
@[go_sem] theorem zG:fOff Tryz.prog 249 1=some (1,228,1):=by kernel_rfl
@[go_sem] theorem Dx:zroT Tryz.prog 249=some (.agg [.nil (.pointer none),.nil (.slice none 0 0)]):=by kernel_rfl
end Go.Av.Ty
namespace Go.Av
open Go Go.Proofs Go.RowKit
noncomputable def CT(G:Nat→Option (List AVal)):Ctx:=⟨Tryz.prog,G⟩
@[go_sem] theorem HA(G:Nat→Option (List AVal)):(CT G).P=Tryz.prog:=(rfl)
@[go_sem] theorem x3(G:Nat→Option (List AVal)):(CT G).G=G:=(rfl)
abbrev Bs:=List UInt8
abbrev At:=Bs×Bs
def At.av(a:At):AVal:=.agg [.str a.1,.str a.2]
abbrev Tok:=Int×Bs×List At×Bs
def Tok.av(t:Tok):AVal:=.agg [.int .i64 t.1,.str t.2.1,.sl 2 (t.2.2.1.map At.av),.str t.2.2.2]
inductive Elem where
 |mk (name:Bs) (attrs:List At) (text:Bs) (kids:List Elem)
 deriving Inhabited
namespace Elem
def name:Elem→Bs| .mk n _ _ _=>n
end Elem
mutual
def Elem.av:Elem→AVal
 | .mk n a t k=>.agg [.str n,.sl 2 (a.map At.av),.str t,.sl 4 (avs k)]
def avs:List Elem→List AVal
 | []=>[]
 |e::l=>e.av::avs l
end
def At.sz(a:At):Nat:=1+a.1.length+a.2.length
def szs{α:Type}(f:α→Nat):List α→Nat
 | []=>0
 |a::l=>f a+szs f l
mutual
def Elem.sz:Elem→Nat
 | .mk n a t k=>1+n.length+szs At.sz a+t.length+kidsz k
def kidsz:List Elem→Nat
 | []=>0
 |e::l=>e.sz+kidsz l
end
def Tok.sz(t:Tok):Nat:=1+t.2.1.length+szs At.sz t.2.2.1+t.2.2.2.length
@[go_sem] theorem x4(n:Nat):(n:Int)+1=((n+1:Nat):Int):=(rfl)
theorem af{α:Type}{l:List α}{k:Nat}(h:k<l.length):∃a,l[k]? =some a∧a∈l:=⟨l[k],List.getElem?_eq_getElem h,List.getElem_mem h⟩
theorem aA{α:Type}{l:List α}{k:Nat}{a:α}(h:l[k]? =some a):l.drop k=a::l.drop (k+1):=by
 obtain⟨hlt,rfl⟩:=List.getElem?_eq_some_iff.1 h
 exact List.drop_eq_getElem_cons hlt
theorem aB{α:Type}{l:List α}{k:Nat}(h:l.length≤k):l.drop k=[]:=List.drop_eq_nil_of_le h
end Go.Av
namespace Go.Av
open Go.RowKit Go.ChangeShapes Go.WideShapes
section
variable {H:Type} {enc:TypeId×Value→H} {P:Program}
theorem fE{w w':World}{base:Nat}{sp:Nat→Bool}{held:Bool}:∀{ts:List TypeId} {vs:List Value} {ds:List (DataW H)} {ps:List MemPlace},DataW.TrodAll enc P w base sp held ts vs ds ps→(∀p∈ps,w.sameAt w' p)→DataW.TrodAll enc P w' base sp held ts vs ds ps
 | [],[],[],_,h,_=>h
 |_::_,_::_,_::_,_,⟨p,q,⟨n,h1⟩,h2,e⟩,hs=>⟨p,q,⟨n,DataW.trod_carry n _ _ _ h1 (fun x hx=>hs x (by rw[e];exact List.mem_append_left _ hx))⟩,fE h2 (fun x hx=>hs x (by rw[e];exact List.mem_append_right _ hx)),e⟩
theorem kM{f:Func}{s:ChangeSpec}{apart fresh handsOn again:Bool}{W W':World}{args:Array Value}{v:Value}{ds gs:List (DataW H)}{before:List MemPlace}
  (K:Kids P (· < P.types.size))(full:∀t e,t<P.types.size→P.underlying t=some (.slice e)→0<P.cellsOf e)(hts:∀t∈f.params.toList,t<P.types.size)
  (hv:s.vars=[])(hfn:s.fn H (ds++gs)= {results:=[.lit (.bool true)],args:=ds}){tb:TypeId}(hres:f.resultTypes= #[tb])(hb:P.underlying tb=some .bool)
  (hW:DataW.Whole enc P f.params.toList s.vars apart W args.toList ds gs before)(hbel:Below W.heap.size W W')(hvv:v=.bool true):
  s.post enc P f apart fresh handsOn again W args v W':=by
 subst hvv
 have hlt:=hW.lt
 obtain⟨p,q,hA,hV,hbe,hz,hn⟩:=hW
 have hV0:=hV
 rw[hv]at hV0
 obtain⟨rfl,rfl⟩:=trodVars_none hV0
 simp only[List.append_nil]at hbe
 subst hbe
 have hA':=fE hA fun x hx=>hbel.same (hlt x hx)
 have hold:∀x∈before,(fun b=>decide (b<W.heap.size)) x.block=true:=fun x hx=>by simpa using hlt x hx
 have hr:∀(b:Nat) (sp:Nat→Bool) (hd:Bool),DataW.TrodAll enc P W' b sp hd f.resultTypes.toList ((Value.bool true).resultList f.resultTypes.size) [.lit (.bool true)] []:=fun b sp hd=>by
  rw[hres];exact trodAll_mk1 (shut_bool hb true)
 refine⟨ds,[],before,[],before,[],⟨before,[],hA,hV,by simp,hz,hn⟩,by rw[hfn];exact hr _ _ _,by rw[hfn];exact hA'.respare K full hts hold,by rw[hfn,hv];rfl,hbel.frame _,fun _=>⟨ok_one hres rfl (okWide_bool_mk hb _),[.lit (.bool true)]++ds,[],before,⟨before,[],?_,by rw[hv];rfl,by simp,?_,fun ha=>hn ha⟩,fun x hx _=>hx⟩⟩
 ·have:=trodAll_append hA' (hr 0 (fun _=>true) true)
  simpa using this
 ·intro b off hp
  have h1:=hz b off hp
  have h2:=hlt _ hp
  rw[hbel.frozen (p:=⟨b,off,none⟩) h2]
  exact h1
def lies0(W:World):Addr→Prop:=fun a=>(W.cell? a).isSome=true
theorem sQ{W:World}{a:Addr}(h:lies0 W a):a.block<W.heap.size:=by
 unfold lies0 World.cell? at h
 refine Nat.lt_of_not_le fun hle=>?_
 rw[Array.getElem?_eq_none hle]at h
 cases h
theorem zH{C:Ctx}{W:World}(hg:∀g cs,C.G g=some cs→Rep W (lies0 W) [] (.ad cs) (.pointer (some ⟨g,0,none⟩))):Fits C W.heap.size (lies0 W) [] [] W:=
 ⟨hg,rfl,fun p q m m' b h=>by simp at h,fun p m b h=>by simp at h,Nat.le_refl _,fun a ha=>sQ ha,fun p m k h=>by simp at h⟩
theorem lc{C:Ctx}{f:FuncId}{fn:Func}{c:Code}(hf:C.P.funcs[f]? =some fn)(hb:fn.body=some c)(hname:(fn.name== "runtime.NumGoroutine")=false){W:World}{args:Array Value}{xs:List AVal}
  (fit:Fits C W.heap.size (lies0 W) [] [] W)(rl:RepL W (lies0 W) [] xs args.toList)(sat:Sat C f xs [] fun r h'=>r=.bool true∧h'=[]):
  Calls C.P f args W fun e W'=>e=.returned (.bool true)∧Below W.heap.size W W':=by
 have h:=sat _ _ [] W args.toList fit rl
 have hcall:(callFunc f args.toList.toArray).run C.P W=.ok (.enter f args.toList.toArray) W:=by
  have hne:fn.name≠ "runtime.NumGoroutine" :=by simpa using hname
  simp[callFunc,hf,hne,hb]
 rw[hcall]at h
 have h:Calls C.P f args.toList.toArray W fun e w''=>∃v,e=.returned v∧OpPost C W.heap.size (lies0 W) [] W (fun r h'=>r=.bool true∧h'=[]) v w'':=h
 rw[Array.toArray_toList]at h
 refine h.mono fun e W' ⟨v,he,r,h',S',μ',⟨hr,_⟩,st,_,hrep⟩=>?_
 subst hr
 rw[hrep.bool_inv]at he
 exact⟨he,st.below⟩
theorem iY{C:Ctx}{f:FuncId}{fn:Func}{c:Code}(hf:C.P.funcs[f]? =some fn)(hb:fn.body=some c)(hname:(fn.name== "runtime.NumGoroutine")=false){s:ChangeSpec}{apart fresh handsOn again:Bool}{W:World}{args:Array Value}{xs:List AVal}{ds gs:List (DataW H)}{before:List MemPlace}
  (K:Kids C.P (· < C.P.types.size))(full:∀t e,t<C.P.types.size→C.P.underlying t=some (.slice e)→0<C.P.cellsOf e)(hts:∀t∈fn.params.toList,t<C.P.types.size)
  (hv:s.vars=[])(hfn:s.fn H (ds++gs)= {results:=[.lit (.bool true)],args:=ds}){tb:TypeId}(hres:fn.resultTypes= #[tb])(hbt:C.P.underlying tb=some .bool)
  (hW:DataW.Whole enc C.P fn.params.toList s.vars apart W args.toList ds gs before)
  (hg:∀g cs,C.G g=some cs→Rep W (lies0 W) [] (.ad cs) (.pointer (some ⟨g,0,none⟩)))(rl:RepL W (lies0 W) [] xs args.toList)(sat:Sat C f xs [] fun r h'=>r=.bool true∧h'=[]):
  Calls C.P f args W fun e W'=>∃v,e=.returned v∧s.post enc C.P fn apart fresh handsOn again W args v W':=
 (lc hf hb hname (zH hg) rl sat).mono fun e W' ⟨he,hbel⟩=>⟨_,he,kM K full hts hv hfn hres hbt hW hbel rfl⟩
def Rd(H:Type)(enc:TypeId×Value→H)(P:Program)(W:World)(n:Nat)(t:TypeId){α:Type}(cl:α→List AVal)(sz:α→Nat):Prop:=
 ∀(cs:List Value) (x:DataW H×List MemPlace),DataW.trod enc P W 0 (fun _=>true) true n t cs=some x→
  ∃a:α,(cl a).length=cs.length∧(∀(j:Nat) (c:AVal),(cl a)[j]? =some c→c.sto=true∧Rep W (lies0 W) [] c (cs.getD j undef))∧sz a≤Go.Proofs.YtmfhelaoeaifeaaGreatDoor.Rows.uptoBulk x.1
variable {W:World}
theorem ld{n:Nat}{t:TypeId}(ht:P.underlying t=some .string):Rd H enc P W n t (fun s:List UInt8=>[.str s]) (fun s=>s.length+1):=fun cs x h=>by
 obtain⟨s,rfl,rfl,_⟩:=DataW.trod_string ht h
 refine⟨s.data.toList,rfl,fun j c hj=>?_,?_⟩
 ·match j with
  |0=>simp at hj;subst hj;exact⟨rfl,.str _⟩
  |j+1=>simp at hj
 ·simp[Go.Proofs.YtmfhelaoeaifeaaGreatDoor.Rows.uptoBulk]
theorem eK{n:Nat}{t:TypeId}{k:IntKind}(ht:P.underlying t=some (.int k)):Rd H enc P W n t (fun i: {i:Int//(Lit.int k i).wf=true}=>[.int k i.1]) (fun _=>1):=fun cs x h=>by
 obtain⟨i,rfl,rfl,hw⟩:=DataW.trod_int ht h
 refine⟨⟨i,hw⟩,rfl,fun j c hj=>?_,?_⟩
 ·match j with
  |0=>simp at hj;subst hj;exact⟨rfl,.int _ _⟩
  |j+1=>simp at hj
 ·simp[Go.Proofs.YtmfhelaoeaifeaaGreatDoor.Rows.uptoBulk]
def szL{α:Type}(f:α→Nat):List α→Nat
 | []=>0
 |a::l=>f a+szL f l
theorem mD{α:Type}(sz:α→Nat)(D:Nat→DataW H)(l:List α)(s:Nat)(h:∀(i:Nat) (a:α),l[i]? =some a→sz a≤Go.Proofs.YtmfhelaoeaifeaaGreatDoor.Rows.uptoBulk (D (s+i))):szL sz l≤Go.Proofs.YtmfhelaoeaifeaaGreatDoor.Rows.uptoBulkAll ((List.range' s l.length).map D):=by
 induction l generalizing s with
 |nil=>exact Nat.zero_le _
 |cons a l ih=>
  simp only[List.length_cons,List.range'_succ,List.map_cons,szL,Go.Proofs.YtmfhelaoeaifeaaGreatDoor.Rows.uptoBulkAll]
  have h0:=h 0 a rfl
  have:=ih (s+1) fun i b hb=>by
   have:=h (i+1) b (by simpa using hb)
   rwa [show s+1+i=s+(i+1) by omega]
  simp only[Nat.add_zero]at h0
  omega
theorem lg{n:Nat}{t e m:TypeId}{α:Type}{cl:α→List AVal}{sz:α→Nat}(mk:α→AVal)(ht:P.underlying t=some (.slice e))(hm:P.cellsOf e=m)(hm0:0<m)(hmk:∀a,(mk a).cells=cl a)(hl:∀a,(cl a).length=m)
  (hel:∀k,k<n→Rd H enc P W k e cl sz):Rd H enc P W n t (fun l:List α=>[.sl m (l.map mk)]) (fun l=>szL sz l+1):=fun cs x h=>by
 rcases DataW.trod_slice ht h with⟨rfl,rfl⟩| ⟨a,len,cap,elems,rest,n',hn,rfl,rfl,hb,hlc,hmx,hlen,hel',hsp,hns⟩
 ·refine⟨[],rfl,fun j c hj=>?_,?_⟩
  ·match j with
   |0=>simp at hj;subst hj;exact⟨rfl,.sl0 _ _ _⟩
   |j+1=>simp at hj
  ·simp[szL,Go.Proofs.YtmfhelaoeaifeaaGreatDoor.Rows.uptoBulk]
 ·subst hn
  have at_:∀i,i<len→∃al:α,(∀(j:Nat) (c:AVal),(cl al)[j]? =some c→c.sto=true∧∃v,W.cell? ((a.add (i*m)).add j)=some v∧Rep W (lies0 W) [] c v)∧sz al≤Go.Proofs.YtmfhelaoeaifeaaGreatDoor.Rows.uptoBulk (elems.getD i (.nil,[])).1:=fun i hi=>by
   have h1:=hel' i hi
   rw[List.getElem?_eq_getElem (by omega)]at h1
   obtain⟨cs',h2,h3⟩:=Option.bind_eq_some_iff.1 h1
   obtain⟨al,k1,k2,k3⟩:=hel n' (by omega) _ _ h3
   obtain⟨_,k5,k6⟩:=World.cells?_some h2
   refine⟨al,fun j c hj=>?_,?_⟩
   ·obtain⟨s1,s2⟩:=k2 j c hj
    have hjl:=(List.getElem?_eq_some_iff.1 hj).1
    have hc:=k6 j (by omega)
    rw[hm]at hc
    rw[List.getElem?_eq_getElem (by omega)]at hc
    refine⟨s1,_,hc,?_⟩
    simpa [List.getD,List.getElem?_eq_getElem (show j<cs'.length by omega)]using s2
   ·simpa [List.getD,List.getElem?_eq_getElem (show i<elems.length by omega)]using k3
  cases len with
  |zero=>
   refine⟨[],rfl,fun j c hj=>?_,?_⟩
   ·match j with
    |0=>simp at hj;subst hj;exact⟨rfl,.sl0 _ _ _⟩
    |j+1=>simp at hj
   ·simp[szL,Go.Proofs.YtmfhelaoeaifeaaGreatDoor.Rows.uptoBulk]
  |succ len=>
   have hspot:a.spot=none:=by
    obtain⟨al,k1,_⟩:=at_ 0 (by omega)
    have hc:=List.getElem?_eq_getElem (show 0<(cl al).length by rw[hl];exact hm0)
    obtain⟨_,v,hv,_⟩:=k1 0 _ hc
    simp only[Nat.zero_mul,Addr.add,if_pos]at hv
    unfold World.cell? at hv
    split at hv
    ·cases hs:a.spot with
     |none=>rfl
     |some q=>rw[hs]at hv;simp at hv
    ·cases hv
   obtain⟨b,off,sp⟩:=a
   simp only at hspot
   subst hspot
   have hadd:∀i j,((⟨b,off,none⟩:Addr).add (i*m)).add j=⟨b,off+(i*m+j),none⟩:=fun i j=>by
    rw[bd,bd,Nat.add_assoc]
   have hch:∀n,n≤len+1→∃l:List α,l.length=n∧∀(i:Nat) (al:α),l[i]? =some al→(∀(j:Nat) (c:AVal),(cl al)[j]? =some c→c.sto=true∧∃v,W.cell? ⟨b,off+(i*m+j),none⟩=some v∧Rep W (lies0 W) [] c v)∧sz al≤Go.Proofs.YtmfhelaoeaifeaaGreatDoor.Rows.uptoBulk (elems.getD i (.nil,[])).1:=by
    intro n
    induction n with
    |zero=>intro _;exact⟨[],rfl,fun i al h=>by simp at h⟩
    |succ n ih=>
     intro hn
     obtain⟨l,h1,h2⟩:=ih (by omega)
     obtain⟨al,k1,k2⟩:=at_ n (by omega)
     refine⟨l++[al],by simp[h1],fun i al' hi=>?_⟩
     rcases aH hi with h3| ⟨h3,rfl⟩
     ·exact h2 i al' h3
     ·rw[h3,h1]
      exact⟨fun j c hj=>by have:=k1 j c hj;rwa [hadd]at this,k2⟩
   obtain⟨l,hll,hl2⟩:=hch (len+1) (Nat.le_refl _)
   refine⟨l,rfl,fun j c hj=>?_,?_⟩
   ·match j with
    |0=>
     simp at hj;subst hj
     refine⟨rfl,?_⟩
     have key:=Rep.sl (w:=W) (S:=lies0 W) (μ:=[]) m (l.map mk) b off cap (fun i j=>(W.cell? ⟨b,off+(i*m+j),none⟩).getD undef) (by intro e;have:=congrArg List.length e;simp[hll]at this) (by simp[hll];exact hlc) hmx
      (fun i e hi=>by
       rw[List.getElem?_map]at hi
       obtain⟨al,_,rfl⟩:=Option.map_eq_some_iff.1 hi
       rw[hmk,hl])
      (fun i e j c hi hj=>by
       rw[List.getElem?_map]at hi
       obtain⟨al,h1,rfl⟩:=Option.map_eq_some_iff.1 hi
       rw[hmk]at hj
       obtain⟨s1,v,s2,s3⟩:=(hl2 i al h1).1 j c hj
       exact⟨by unfold lies0;rw[s2];rfl,by rw[s2];rfl,s1⟩)
      (fun i e j c hi hj=>by
       rw[List.getElem?_map]at hi
       obtain⟨al,h1,rfl⟩:=Option.map_eq_some_iff.1 hi
       rw[hmk]at hj
       obtain⟨s1,v,s2,s3⟩:=(hl2 i al h1).1 j c hj
       simp only[s2,Option.getD_some];exact s3)
     simpa [hll]using key
    |j+1=>simp at hj
   ·have hb:=mD sz (fun i=>(elems.getD i (.nil,[])).1) l 0 fun i al hi=>by rw[Nat.zero_add];exact(hl2 i al hi).2
    have he:(List.range' 0 l.length).map (fun i=>(elems.getD i (.nil,[])).1)=elems.map (·.1):=by
     rw[Deep.map_by_index elems (.nil,[]) (·.1),hll,hlen,List.range_eq_range']
    rw[he]at hb
    simp only[Go.Proofs.YtmfhelaoeaifeaaGreatDoor.Rows.uptoBulk]
    omega
theorem qx{n:Nat}{t:TypeId}{fs:Array Field}(ht:P.underlying t=some (.struct fs))(hk:P.cellsOf t=fs.size)(ho:∀(j:Nat) (f:Field),fs[j]? =some f→f.offset=j∧P.cellsOf f.type=1){cs:List Value}{x:DataW H×List MemPlace}
  (h:DataW.trod enc P W 0 (fun _=>true) true n t cs=some x):
  ∃(xs:List (DataW H×List MemPlace)) (n':Nat),n=n'+1∧x.1=.agg (xs.map (·.1))∧cs.length=fs.size∧xs.length=fs.size∧∀(j:Nat) (f:Field),fs[j]? =some f→∃y,xs[j]? =some y∧DataW.trod enc P W 0 (fun _=>true) true n' f.type [cs.getD j undef]=some y:=by
 obtain⟨xs,n',hn,rfl,hl,hlen,hf⟩:=DataW.trod_struct ht h
 refine⟨xs,n',hn,rfl,by omega,hlen,fun j f hj=>?_⟩
 have hlt:=(Array.getElem?_eq_some_iff.1 hj).1
 obtain⟨h1,h2⟩:=ho j f hj
 have:=hf j f hj
 rw[h1,h2]at this
 have hx:=List.getElem?_eq_getElem (show j<xs.length by omega)
 rw[hx]at this
 refine⟨_,hx,?_⟩
 rw[← this]
 have hc:=List.getElem?_eq_getElem (show j<cs.length by omega)
 congr 1
 rw[List.drop_eq_getElem_cons (show j<cs.length by omega),List.getD,hc]
 rfl
end
end Go.Av
namespace Go.Av
open Go.RowKit
def preOkG(st:Bool)(ops:Array Oper)(k:Nat):Bool:=
 let b:=Region.before ops
 (List.range ops.size).all fun j=>match ops[j]? with
  |none=>true
  |some oj=>if j<k then
    (oj.after.all fun e=>(!st&& !Region.binds .any e)||decide (e.on<j))&&(List.range j).all fun i=>match ops[i]? with
    |none=>true
    |some oi=>
     (!(b.getD j 0).testBit i||oj.after.any fun e=>Region.binds .any e&&(e.on==i||(decide (i<e.on)&&(b.getD e.on 0).testBit i)))&&
     (((b.getD j 0).testBit i||oi.apart ops oj)&&(oi.dst.isNone||oi.dst !=oj.dst))
   else(List.range k).all fun i=>oj.after.any fun e=>Region.binds .any e&&(e.on==i||(decide (e.on<k)&&decide (i<e.on)&&(b.getD e.on 0).testBit i))
def preOk(ops:Array Oper)(k:Nat):Bool:=preOkG true ops k
structure PreOk (ops:Array Oper) (k:Nat) (c:Nat→Nat→Bool):Prop where
 less:∀(j:Nat) (oj:Oper),ops[j]? =some oj→j<k→∀e∈oj.after,Region.binds .any e=true→e.on<j
 cert:∀(i j:Nat) (oj:Oper),ops[j]? =some oj→j<k→i<j→c i j=true→∃e∈oj.after,Region.binds .any e=true∧(e.on=i∨(i<e.on∧c i e.on=true))
 sfx:∀(i j:Nat) (oj:Oper),ops[j]? =some oj→i<k→k≤j→∃e∈oj.after,Region.binds .any e=true∧(e.on=i∨(e.on<k∧i<e.on∧c i e.on=true))
 pre:∀(i j:Nat) (oi oj:Oper),ops[i]? =some oi→ops[j]? =some oj→i<j→j<k→(c i j=true∨oi.apart ops oj=true)∧(∀d,oi.dst=some d→oj.dst≠some d)
theorem eA{st:Bool}{ops:Array Oper}{k:Nat}(hk:preOkG st ops k=true):PreOk ops k fun i j=>((Region.before ops).getD j 0).testBit i:=by
 unfold preOkG at hk
 simp only[List.all_eq_true,List.mem_range]at hk
 have at_:∀(j:Nat) (oj:Oper),ops[j]? =some oj→_:=fun j oj hj=>by
  have:=hk j (Array.getElem?_eq_some_iff.1 hj).1
  rw[hj]at this
  exact this
 have some_i:∀(i j:Nat) (oj:Oper),ops[j]? =some oj→i<j→∃oi,ops[i]? =some oi:=fun i j oj hj hij=>by
  have:=(Array.getElem?_eq_some_iff.1 hj).1
  exact⟨_,Array.getElem?_eq_getElem (show i<ops.size by omega)⟩
 have key:∀(j:Nat) (oj:Oper),ops[j]? =some oj→j<k→(oj.after.all fun e=>(!st&& !Region.binds .any e)||decide (e.on<j))=true∧∀(i:Nat) (oi:Oper),ops[i]? =some oi→i<j→
   ((!((Region.before ops).getD j 0).testBit i||oj.after.any fun e=>Region.binds .any e&&(e.on==i||(decide (i<e.on)&&((Region.before ops).getD e.on 0).testBit i)))&&
    ((((Region.before ops).getD j 0).testBit i||oi.apart ops oj)&&(oi.dst.isNone||oi.dst !=oj.dst)))=true:=by
  intro j oj hj hjk
  have:=at_ j oj hj
  simp only[if_pos hjk,Bool.and_eq_true,List.all_eq_true,List.mem_range]at this
  refine⟨this.1,fun i oi hi hij=>?_⟩
  have:=this.2 i hij
  rw[hi]at this
  simpa only[Bool.and_eq_true]using this
 refine⟨fun j oj hj hjk e he hb=>?_,fun i j oj hj hjk hij hc=>?_,fun i j oj hj hik hkj=>?_,fun i j oi oj hi hj hij hjk=>?_⟩
 ·have:=(key j oj hj hjk).1
  rw[Array.all_eq_true_iff_forall_mem]at this
  simpa [hb]using this e he
 ·obtain⟨oi,hi⟩:=some_i i j oj hj hij
  have:=(key j oj hj hjk).2 i oi hi hij
  simp only[Bool.and_eq_true,Bool.or_eq_true,Bool.not_eq_true']at this
  rcases this.1 with h1|h1
  ·rw[hc]at h1;cases h1
  ·obtain⟨e,he,h2⟩:=Array.any_eq_true'.1 h1
   simp only[Bool.and_eq_true,Bool.or_eq_true,beq_iff_eq,decide_eq_true_eq]at h2
   exact⟨e,he,h2.1,h2.2⟩
 ·have:=at_ j oj hj
  simp only[if_neg (show ¬j<k by omega),List.all_eq_true,List.mem_range]at this
  obtain⟨e,he,h2⟩:=Array.any_eq_true'.1 (this i hik)
  simp only[Bool.and_eq_true,Bool.or_eq_true,beq_iff_eq,decide_eq_true_eq]at h2
  exact⟨e,he,h2.1,h2.2.imp id fun q=>⟨q.1.1,q.1.2,q.2⟩⟩
 ·have:=(key j oj hj hjk).2 i oi hi hij
  simp only[Bool.and_eq_true,Bool.or_eq_true]at this
  refine⟨this.2.1,fun d hd e=>?_⟩
  rcases this.2.2 with h1|h1
  ·rw[hd]at h1;cases h1
  ·rw[hd,e]at h1;simp at h1
theorem dA{ops:Array Oper}{k:Nat}(hk:preOk ops k=true):PreOk ops k fun i j=>((Region.before ops).getD j 0).testBit i:=eA hk
theorem iZ{ops:Array Oper}{k:Nat}(hk:preOk ops k=true)(md:Region.Mode):∀(j:Nat) (oj:Oper),ops[j]? =some oj→j<k→∀e∈oj.after,Region.binds md e=true→e.on<j:=by
 intro j oj hj hjk e he _
 unfold preOk preOkG at hk
 simp only[List.all_eq_true,List.mem_range]at hk
 have:=hk j (Array.getElem?_eq_some_iff.1 hj).1
 rw[hj]at this
 simp only[if_pos hjk,Bool.and_eq_true]at this
 have:=this.1
 rw[Array.all_eq_true_iff_forall_mem]at this
 simpa using this e he
theorem PreOk.bef{ops:Array Oper}{L:Array Bool}{k:Nat}{c:Nat→Nat→Bool}(D:PreOk ops k c)(cl:Closed ops L):
  ∀(j:Nat) (oj:Oper),ops[j]? =some oj→j<k→∀i,i<j→c i j=true→(∀e∈oj.after,Region.binds .any e=true→L.getD e.on false=true)→L.getD i false=true:=by
 intro j
 induction j using Nat.strongRecOn with
 |ind j ih=>
  intro oj hj hjk i hij hc hl
  obtain⟨e,he,hb,h1⟩:=D.cert i j oj hj hjk hij hc
  have h2:=hl e he hb
  rcases h1 with rfl|h1
  ·exact h2
  ·have h3:=D.less j oj hj hjk e he hb
   have hsz:=(Array.getElem?_eq_some_iff.1 hj).1
   have hoe:ops[e.on]? =some ops[e.on]:=Array.getElem?_eq_getElem (by omega)
   exact ih e.on h3 _ hoe (by omega) i h1.1 h1.2 fun e' he' hb'=>cl e.on _ hoe h2 e' he' hb'
theorem PreOk.ag_put{ops:Array Oper}{k:Nat}{c:Nat→Nat→Bool}(D:PreOk ops k c){V:Nat→AVal}{t s:Env}{p p':Nat→Bool}(g:Ag ops k V t p s){i:Nat}{o:Oper}(hi:ops[i]? =some o)(hk:i<k)
  (hp:∀j,j<k→p' j=(p j||j==i)):Ag ops k V t p' (put s o.dst (V i)):=by
 have uniq:∀(j:Nat) (oj:Oper) (x:Nat),j<k→ops[j]? =some oj→oj.dst=some x→o.dst=some x→j=i:=fun j oj x hj hoj h1 h2=>by
  rcases Nat.lt_trichotomy j i with h3|h3|h3
  ·exact absurd h2 ((D.pre j i oj o hoj hi h3 hk).2 x h1)
  ·exact h3
  ·exact absurd h1 ((D.pre i j o oj hi hoj h3 hj).2 x h2)
 refine⟨fun j oj x hj hoj hpj hd=>?_,fun x hn=>?_⟩
 ·by_cases hji:j=i
  ·subst hji
   rw[hoj]at hi;cases hi
   simp[Av.put,hd,upd]
  ·have:o.dst≠some x:=fun e=>hji (uniq j oj x hj hoj hd e)
   have hs:(Av.put s o.dst (V i)) x=s x:=by
    cases hdo:o.dst with
    |none=>rfl
    |some d=>simp only[Av.put,upd];rw[if_neg];intro e;subst e;exact this hdo
   rw[hs]
   exact g.1 j oj x hj hoj (by have:=hp j hj;rw[hpj]at this;simpa [hji]using this.symm) hd
 ·have:o.dst≠some x:=hn i o hk hi (by rw[hp i hk];simp)
  have hs:(Av.put s o.dst (V i)) x=s x:=by
   cases hdo:o.dst with
   |none=>rfl
   |some d=>simp only[Av.put,upd];rw[if_neg];intro e;subst e;exact this hdo
  rw[hs]
  exact g.2 x fun j oj hj hoj hpj=>hn j oj hj hoj (by rw[hp j hj,hpj];rfl)
theorem PreOk.ag_T{ops:Array Oper}{k:Nat}{c:Nat→Nat→Bool}(D:PreOk ops k c)(V:Nat→AVal)(t:Env)(hkn:k≤ops.size):∀i,i≤k→Ag ops k V t (fun j=>decide (j<i)) (Av.T V (ops.toList.take k) t i)
 |0,_=>by rw[fO];exact Ag.start ops k V t fun j _=>by simp
 |i+1,hi=>by
  have ih:=PreOk.ag_T D V t hkn i (by omega)
  have ho:ops[i]? =some (ops[i]'(by omega)):=Array.getElem?_eq_getElem _
  have ho2:(ops.toList.take k)[i]? =some (ops[i]'(by omega)):=by rw[List.getElem?_take,if_pos (by omega)];simp
  rw[dS V _ t i _ ho2]
  refine D.ag_put ih ho (by omega) fun j hj=>?_
  by_cases h1:j<i
  ·have h2:j<i+1:=by omega
   simp[h1,h2]
  ·by_cases h2:j=i
   ·subst h2;simp
   ·have h3:¬j<i+1:=by omega
    have h4:(j==i)=false:=by simpa using h2
    simp[h1,h3,h4]
theorem PreOk.sees{ops:Array Oper}{k:Nat}{c:Nat→Nat→Bool}(D:PreOk ops k c){V:Nat→AVal}{t s:Env}{L:Array Bool}(cl:Closed ops L)(g:Ag ops k V t (fun j=>L.getD j false) s)
  {i:Nat}{o:Oper}(hi:ops[i]? =some o)(hk:i<k)(hkn:k≤ops.size)(hun:L.getD i false=false)(hrd:∀e∈o.after,Region.binds .any e=true→L.getD e.on false=true):
  ∀d∈o.looksAt ops,Av.T V (ops.toList.take k) t i d=s d:=by
 intro d hd
 have gT:=D.ag_T V t hkn i (by omega)
 by_cases hx:∃(j:Nat) (oj:Oper),j<k∧ops[j]? =some oj∧oj.dst=some d
 ·obtain⟨j,oj,hj,hoj,hdj⟩:=hx
  have uniq:∀(j':Nat) (o':Oper),j'<k→ops[j']? =some o'→o'.dst=some d→j'=j:=fun j' o' hj' ho' h1=>by
   rcases Nat.lt_trichotomy j' j with h3|h3|h3
   ·exact absurd hdj ((D.pre j' j o' oj ho' hoj h3 hj).2 d h1)
   ·exact h3
   ·exact absurd h1 ((D.pre j j' oj o' hoj ho' h3 hj').2 d hdj)
  rcases Nat.lt_trichotomy j i with h3|h3|h3
  ·have hc:c j i=true:=by
    rcases(D.pre j i oj o hoj hi h3 hk).1 with h4|h4
    ·exact h4
    ·exact absurd hd ((Oper.apart_spec h4).1 d hdj)
   have hl:=D.bef cl i o hi hk j h3 hc hrd
   rw[gT.1 j oj d hj hoj (by simpa using h3) hdj,g.1 j oj d hj hoj hl hdj]
  ·subst h3
   rw[gT.2 d fun j' o' hj' ho' hp h1=>by have:=uniq j' o' hj' ho' h1;subst this;simp at hp,
    g.2 d fun j' o' hj' ho' hp h1=>by have:=uniq j' o' hj' ho' h1;subst this;simp only[hun]at hp;cases hp]
  ·have hc:c i j=true:=by
    rcases(D.pre i j o oj hi hoj h3 hj).1 with h4|h4
    ·exact h4
    ·exact absurd hd ((Oper.apart_spec h4).2.2 d hdj)
   have hl:L.getD j false=false:=by
    cases hlj:L.getD j false with
    |false=>rfl
    |true=>have:=D.bef cl j oj hoj hj i h3 hc (cl j oj hoj hlj);rw[hun]at this;cases this
   rw[gT.2 d fun j' o' hj' ho' hp h1=>by have:=uniq j' o' hj' ho' h1;subst this;simp at hp;omega,
    g.2 d fun j' o' hj' ho' hp h1=>by have:=uniq j' o' hj' ho' h1;subst this;simp only[hl]at hp;cases hp]
 ·have hn:∀(j:Nat) (oj:Oper),j<k→ops[j]? =some oj→oj.dst≠some d:=fun j oj h1 h2 h3=>hx ⟨j,oj,h1,h2,h3⟩
  rw[gT.2 d fun j oj h1 h2 _=>hn j oj h1 h2,g.2 d fun j oj h1 h2 _=>hn j oj h1 h2]
def listK(n k:Nat):Array Bool:=((List.range n).map fun i=>decide (i<k)).toArray
section
variable {C:Ctx} {t:Env} {h:Heap}
def Rest(C:Ctx)(ops:Array Oper)(Q:Exit→Env→Heap→Prop)(fuel:Nat)(L:Array Bool)(t:Env)(h:Heap):Prop:=
 ∀md n,WPix C ops Q (Region.linearise.go md ops fuel n L []) t h
def RestM(C:Ctx)(ops:Array Oper)(Q:Exit→Env→Heap→Prop)(md:Region.Mode)(fuel:Nat)(L:Array Bool)(t:Env)(h:Heap):Prop:=
 ∀n,WPix C ops Q (Region.linearise.go md ops fuel n L []) t h
theorem kc{ops:Array Oper}{L:Array Bool}{md:Region.Mode}{i:Nat}(h:i∈Region.ready md ops L):i∈Region.ready .any ops L:=by
 obtain⟨h1,o,h2,h3⟩:=mem_ready.1 h
 exact mem_ready.2 ⟨h1,o,h2,fun e he hb=>h3 e he (dc hb)⟩
theorem Rest.nil{ops:Array Oper}{Q:Exit→Env→Heap→Prop}{L:Array Bool}(g:Q .normal t h):Rest C ops Q 0 L t h:=fun md n=>by
 simpa [Region.linearise.go,WPix]using g
theorem Rest.step{ops:Array Oper}{Q:Exit→Env→Heap→Prop}{fuel:Nat}{L:Array Bool}(h1:Region.ready .text ops L≠ [])(h2:Region.ready .gc ops L≠ [])(h3:Region.ready .any ops L≠ [])
  (g:∀i∈Region.ready .any ops L,∀o,ops[i]? =some o→wpOper C ops o t h fun t' h'=>Rest C ops Q fuel (L.setIfInBounds i true) t' h'):Rest C ops Q (fuel+1) L t h:=fun md n=>by
 have hne:Region.ready md ops L≠ []:=by cases md;exact h1;exact h2;exact h3
 obtain⟨i,hi,hmem⟩:=bw hne n
 rw[cj md ops fuel n L hi]
 obtain⟨_,o,ho,_⟩:=mem_ready.1 hmem
 simp only[WPix,ho]
 exact cV (g i (kc hmem) o ho) fun t' h' g'=>g' md _
theorem cE{ops:Array Oper}{Q:Exit→Env→Heap→Prop}{k:Nat}{c:Nat→Nat→Bool}(D:PreOk ops k c)(md:Region.Mode)(hless:∀(j:Nat) (oj:Oper),ops[j]? =some oj→j<k→∀e∈oj.after,Region.binds md e=true→e.on<j)(hkn:k≤ops.size){V:Nat→AVal}{t0:Env}{h:Heap}(ok:Nat→Prop)
  (hv:∀(i:Nat) (o:Oper),(ops.toList.take k)[i]? =some o→ok i→∀KK:AVal→Heap→Prop,KK (V i) h→wpOperV C ops o (Av.T V (ops.toList.take k) t0 i) h KK)
  (hK:RestM C ops Q md (ops.size-k) (listK ops.size k) (Av.T V (ops.toList.take k) t0 k) h):
  ∀(fuel n:Nat) (L:Array Bool) (s:Env),L.size=ops.size→left ops L=fuel→Closed ops L→(∀j,j<ops.size→L.getD j false=true→j<k)→(∀j,j<k→L.getD j false=false→ok j)→Ag ops k V t0 (fun j=>L.getD j false) s→
   WPix C ops Q (Region.linearise.go md ops fuel n L []) s h:=by
 have hlk:∀j,j<ops.size→(listK ops.size k).getD j false=decide (j<k):=fun j hj=>by simp[listK,hj]
 have fin:∀(fuel n:Nat) (L:Array Bool) (s:Env),L.size=ops.size→left ops L=fuel→(∀j,j<ops.size→L.getD j false=decide (j<k))→Ag ops k V t0 (fun j=>L.getD j false) s→
   WPix C ops Q (Region.linearise.go md ops fuel n L []) s h:=fun fuel n L s hs hl hL ag=>by
  have h1:=D.ag_T V t0 hkn k (Nat.le_refl _)
  have h2:Ag ops k V t0 (fun j=>decide (j<k)) s:=⟨fun j o x hj ho hp hd=>ag.1 j o x hj ho (by show L.getD j false=true;rw[hL j (by omega)];exact hp) hd,
   fun x hn=>ag.2 x fun j o hj ho hp=>hn j o hj ho (by simpa using hj)⟩
  have:=h2.eq h1
  subst this
  have hsz:(listK ops.size k).size=ops.size:=by simp[listK]
  have eL:L=listK ops.size k:=by
   refine Array.ext (by rw[hs,hsz]) fun i h1 h2=>?_
   have e1:=hL i (by omega)
   have e2:=hlk i (by omega)
   have:=e1.trans e2.symm
   simpa [h1,h2]using this
  have el:fuel=ops.size-k:=by
   rw[← hl]
   unfold left
   have:(List.range ops.size).filter (fun i=> !L.getD i true)=(List.range ops.size).filter (fun i=>decide (k≤i)):=List.filter_congr fun i hi=>by
    have hi':=List.mem_range.1 hi
    have h3:i<L.size:=by omega
    have e1:=hL i hi'
    have e3:L.getD i true=L.getD i false:=by simp[h3]
    rw[e3,e1]
    by_cases hik:i<k
    ·have:¬k≤i:=by omega
     simp[hik,this]
    ·have:k≤i:=by omega
     simp[hik,this]
   rw[this]
   have cnt:∀n,k≤n→((List.range n).filter fun i=>decide (k≤i)).length=n-k:=by
    intro n
    induction n with
    |zero=>intro h;simp
    |succ n ih=>
     intro h
     rw[List.range_succ,List.filter_append,List.length_append]
     by_cases hkn2:k≤n
     ·rw[ih hkn2];simp[hkn2];omega
     ·have hnil:(List.range n).filter (fun i=>decide (k≤i))=[]:=by
       rw[List.filter_eq_nil_iff]
       intro i hi
       have:=List.mem_range.1 hi
       simp;omega
      rw[hnil];simp[hkn2];omega
   exact cnt _ hkn
  subst eL;subst el
  exact hK n
 intro fuel
 induction fuel with
 |zero=>
  intro n L s hs hl cl hlt hun0 ag
  have hall:=de hs hl
  refine fin 0 n L s hs hl (fun j hj=>?_) ag
  rw[hall j hj];have:=hlt j hj (hall j hj);simp[this]
 |succ fuel ih=>
  intro n L s hs hl cl hlt hun0 ag
  by_cases hpre:∀j,j<k→L.getD j false=true
  ·refine fin (fuel+1) n L s hs hl (fun j hj=>?_) ag
   by_cases hjk:j<k
   ·rw[hpre j hjk];simp[hjk]
   ·cases hlj:L.getD j false with
    |false=>simp[hjk]
    |true=>exact absurd (hlt j hj hlj) hjk
  ·have hne:Region.ready md ops L≠ []:=by
    have hex:∃i,i<k∧L.getD i false=false:=by
     refine Classical.byContradiction fun hno=>hpre fun j hj=>?_
     cases hlj:L.getD j false with
     |true=>rfl
     |false=>exact absurd ⟨j,hj,hlj⟩ hno
    have hmin:∃i,i<k∧L.getD i false=false∧∀j,j<i→L.getD j false=true:=by
     obtain⟨i,hi,hl⟩:=hex
     induction i using Nat.strongRecOn with
     |ind i ih=>
      by_cases hall:∀j,j<i→L.getD j false=true
      ·exact⟨i,hi,hl,hall⟩
      ·have:∃j,j<i∧L.getD j false=false:=Classical.byContradiction fun hno=>hall fun j hj=>by
        cases hlj:L.getD j false with
        |true=>rfl
        |false=>exact absurd ⟨j,hj,hlj⟩ hno
       obtain⟨j,hj,hlj⟩:=this
       exact ih j hj (by omega) hlj
    obtain⟨i,hi,hl,hall⟩:=hmin
    have hin:i<ops.size:=by omega
    have h3:i<L.size:=by omega
    intro e
    have:i∈Region.ready md ops L:=mem_ready.2 ⟨by simp[h3]at hl ⊢;exact hl,ops[i],Array.getElem?_eq_getElem hin,fun e he hb=>hall _ (hless i _ (Array.getElem?_eq_getElem hin) hi e he hb)⟩
    rw[e]at this;cases this
   obtain⟨i,hi,hmem⟩:=bw hne n
   obtain⟨hun,o,ho,hrd⟩:=mem_ready.1 hmem
   have hin:=(Array.getElem?_eq_some_iff.1 ho).1
   have h3:i<L.size:=by omega
   have hun':L.getD i false=false:=by simp[h3]at hun ⊢;exact hun
   have hrd':∀e∈o.after,Region.binds .any e=true→L.getD e.on false=true:=fun e he hb=>hrd e he (dc hb)
   by_cases hk:i<k
   ·rw[cj md ops fuel n L hi]
    simp only[WPix,ho]
    rw[cH]
    have ho2:(ops.toList.take k)[i]? =some o:=by rw[List.getElem?_take,if_pos hk];simpa using ho
    rw[← ba (t:=Av.T V (ops.toList.take k) t0 i) (D.sees cl ag ho hk hkn hun' hrd')]
    refine hv i o ho2 (hun0 i hk hun') _ ?_
    refine ih _ _ _ (by simpa using hs) (by have:=cI hs hin hun';omega) (cl.set ho hrd') (fun j hj hlj=>?_) (fun j hj hlj=>?_) (D.ag_put ag ho hk fun j hj=>?_)
    ·by_cases hji:i=j
     ·subst hji;exact hk
     ·rw[getD_set_ne false hji]at hlj;exact hlt j hj hlj
    ·by_cases hji:i=j
     ·subst hji;simp[h3]at hlj
     ·rw[getD_set_ne false hji]at hlj;exact hun0 j hj hlj
    ·by_cases hji:i=j
     ·subst hji;simp[h3]
     ·rw[getD_set_ne false hji]
      have:(j==i)=false:=by simp;exact fun e=>hji e.symm
      rw[this,Bool.or_false]
   ·exfalso
    refine hpre fun j hj=>?_
    obtain⟨e,he,hb,h1⟩:=D.sfx j i o ho hj (by omega)
    have h2:=hrd' e he hb
    rcases h1 with rfl| ⟨h4,h5,h6⟩
    ·exact h2
    ·have hoe:ops[e.on]? =some ops[e.on]:=Array.getElem?_eq_getElem (by omega)
     exact D.bef cl e.on _ hoe h4 j h5 h6 fun e' he' hb'=>cl e.on _ hoe h2 e' he' hb'
theorem sR{id:Nat}{l:List Oper}{Q:Exit→Env→Heap→Prop}(k:Nat)(hok:(preOk l.toArray k&&decide (k≤l.length))=true)
  (hh:WPp C l.toArray (l.take k) t h fun t'=>Rest C l.toArray Q (l.length-k) (listK l.length k) t' h):WP C (.region id l.toArray true) Q t h:=by
 simp only[Bool.and_eq_true,decide_eq_true_eq]at hok
 have D:=dA hok.1
 obtain⟨V,hv,hK⟩:=bE _ _ hh
 have hlen:(l.take k).length=k:=by simp[hok.2]
 rw[hlen]at hK
 have main:∀md n,WPix C l.toArray Q (Region.linearise md l.toArray n) t h:=fun md n=>by
  unfold Region.linearise
  refine cE D md (iZ hok.1 md) (by simpa using hok.2) (V:=V) (t0:=t) (fun _=>True) (fun i o hi _=>hv i o hi) (fun n=>by have:=hK md n;simpa using this) _ _ _ _ (by simp) ?_ (fun j oj hj hl=>?_) (fun j hj hl=>?_) (fun _ _ _=>trivial) (Ag.start _ _ _ _ fun j hj=>?_)
  ·unfold left
   have:(List.range l.toArray.size).filter (fun i=> !(Array.replicate l.toArray.size false).getD i true)=List.range l.toArray.size:=by
    rw[List.filter_eq_self]
    intro i hi
    have:=List.mem_range.1 hi
    have h8:i<(Array.replicate l.toArray.size false).size:=by simpa using this
    simp at this ⊢
    simp[this]
   rw[this,List.length_range]
  ·have h8:=(Array.getElem?_eq_some_iff.1 hj).1
   simp at h8 hl
   simp[h8]at hl
  ·simp at hj hl
   simp[hj]at hl
  ·have:j<l.length:=by omega
   simp[this]
 show ∀tp,WPix C l.toArray Q (Region.schedule (C.P.follows .mixedOrders) l.toArray tp) t h
 intro tp
 unfold Region.schedule
 split
 ·exact main _ _
 ·exact main _ _
theorem eM(V V':Nat→AVal)(k:Nat)(hV:∀i,i<k→V' i=V i):∀(l l':List Oper) (t:Env) (i:Nat),i≤k→l.take k=l'.take k→i≤l.length→i≤l'.length→Av.T V' l t i=Av.T V l' t i:=by
 intro l l' t i
 induction i with
 |zero=>intro _ _ _ _;rw[fO,fO]
 |succ i ih=>
  intro hi he h1 h2
  have e1:l[i]? =some (l[i]'(by omega)):=List.getElem?_eq_getElem _
  have e2:l'[i]? =some (l'[i]'(by omega)):=List.getElem?_eq_getElem _
  have e3:l[i]? =l'[i]? :=by
   have:=congrArg (fun q=>q[i]?) he
   simpa only[List.getElem?_take,if_pos (show i<k by omega)]using this
  rw[dS V' _ t i _ e1,dS V _ t i _ e2,ih (by omega) he (by omega) (by omega),hV i (by omega)]
  rw[e1,e2]at e3
  rw[Option.some.inj e3]
theorem j0{ops:Array Oper}{Q:Exit→Env→Heap→Prop}{k:Nat}{c:Nat→Nat→Bool}(D:PreOk ops (k+1) c)(md:Region.Mode)(hless:∀(j:Nat) (oj:Oper),ops[j]? =some oj→j<k+1→∀e∈oj.after,Region.binds md e=true→e.on<j)(hkn:k+1≤ops.size){V:Nat→AVal}{t0:Env}{h:Heap}{oe:Oper}(hoe:ops[k]? =some oe)
  (hv:∀(i:Nat) (o:Oper),i<k→ops[i]? =some o→∀KK:AVal→Heap→Prop,KK (V i) h→wpOperV C ops o (Av.T V ops.toList t0 i) h KK)
  (he:wpOperV C ops oe (Av.T V ops.toList t0 k) h fun v h'=>(∀(i:Nat) (o:Oper),i<k→ops[i]? =some o→c i k=false→∀KK:AVal→Heap→Prop,KK (V i) h'→wpOperV C ops o (Av.T V ops.toList t0 i) h' KK)∧
   RestM C ops Q md (ops.size-(k+1)) (listK ops.size (k+1)) (put (Av.T V ops.toList t0 k) oe.dst v) h'):
  ∀(fuel n:Nat) (L:Array Bool) (s:Env),L.size=ops.size→left ops L=fuel→Closed ops L→(∀j,j<ops.size→L.getD j false=true→j<k)→Ag ops (k+1) V t0 (fun j=>L.getD j false) s→
   WPix C ops Q (Region.linearise.go md ops fuel n L []) s h:=by
 have hT:∀(V':Nat→AVal) (i:Nat),(∀j,j<k→V' j=V j)→i≤k→Av.T V' (ops.toList.take (k+1)) t0 i=Av.T V ops.toList t0 i:=fun V' i hV hi=>
  eM V V' k hV _ _ _ _ hi (by rw[List.take_take];congr 1;omega) (by simp;omega) (by simp;omega)
 intro fuel
 induction fuel with
 |zero=>
  intro n L s hs hl cl hlt ag
  have:=de hs hl k (by omega)
  have:=hlt k (by omega) this
  omega
 |succ fuel ih=>
  intro n L s hs hl cl hlt ag
  have hkun:L.getD k false=false:=by
   cases hq:L.getD k false with
   |false=>rfl
   |true=>have:=hlt k (by omega) hq;omega
  have hne:Region.ready md ops L≠ []:=by
   have hmin:∃i,i<k+1∧L.getD i false=false∧∀j,j<i→L.getD j false=true:=by
    have hex:∃i,i<k+1∧L.getD i false=false:=⟨k,by omega,hkun⟩
    obtain⟨i,hi,hl⟩:=hex
    clear hl
    have hex:∃i,i<k+1∧L.getD i false=false:=⟨k,by omega,hkun⟩
    obtain⟨i,hi,hl⟩:=hex
    induction i using Nat.strongRecOn with
    |ind i ih=>
     by_cases hall:∀j,j<i→L.getD j false=true
     ·exact⟨i,hi,hl,hall⟩
     ·have:∃j,j<i∧L.getD j false=false:=Classical.byContradiction fun hno=>hall fun j hj=>by
       cases hlj:L.getD j false with
       |true=>rfl
       |false=>exact absurd ⟨j,hj,hlj⟩ hno
      obtain⟨j,hj,hlj⟩:=this
      exact ih j hj (by omega) hlj
   obtain⟨i,hi,hl,hall⟩:=hmin
   have hin:i<ops.size:=by omega
   have h3:i<L.size:=by omega
   intro e
   have:i∈Region.ready md ops L:=mem_ready.2 ⟨by simp[h3]at hl ⊢;exact hl,ops[i],Array.getElem?_eq_getElem hin,fun e he hb=>hall _ (hless i _ (Array.getElem?_eq_getElem hin) hi e he hb)⟩
   rw[e]at this;cases this
  obtain⟨i,hi,hmem⟩:=bw hne n
  obtain⟨hun,o,ho,hrd⟩:=mem_ready.1 hmem
  have hin:=(Array.getElem?_eq_some_iff.1 ho).1
  have h3:i<L.size:=by omega
  have hun':L.getD i false=false:=by simp[h3]at hun ⊢;exact hun
  have hrd':∀e∈o.after,Region.binds .any e=true→L.getD e.on false=true:=fun e he hb=>hrd e he (dc hb)
  have hik:i<k+1:=by
   refine Nat.lt_of_not_le fun hle=>?_
   obtain⟨e,he,hb,h1⟩:=D.sfx k i o ho (by omega) hle
   have h2:=hrd' e he hb
   have hkl:L.getD k false=true:=by
    rcases h1 with rfl| ⟨h4,h5,h6⟩
    ·exact h2
    ·have hoe:ops[e.on]? =some ops[e.on]:=Array.getElem?_eq_getElem (by omega)
     exact D.bef cl e.on _ hoe h4 k h5 h6 fun e' he' hb'=>cl e.on _ hoe h2 e' he' hb'
   rw[hkun]at hkl;cases hkl
  rw[cj md ops fuel n L hi]
  simp only[WPix,ho]
  rw[cH]
  have hsees:=D.sees cl ag ho hik hkn hun' hrd'
  by_cases hk:i<k
  ·rw[hT V i (fun _ _=>rfl) (by omega)]at hsees
   rw[← ba (t:=Av.T V ops.toList t0 i) hsees]
   refine hv i o hk ho _ ?_
   refine ih _ _ _ (by simpa using hs) (by have:=cI hs hin hun';omega) (cl.set ho hrd') (fun j hj hlj=>?_) (D.ag_put ag ho hik fun j hj=>?_)
   ·by_cases hji:i=j
    ·subst hji;exact hk
    ·rw[getD_set_ne false hji]at hlj;exact hlt j hj hlj
   ·by_cases hji:i=j
    ·subst hji;simp[h3]
    ·rw[getD_set_ne false hji]
     have:(j==i)=false:=by simp;exact fun e=>hji e.symm
     rw[this,Bool.or_false]
  ·obtain rfl:i=k:=by omega
   rw[hoe]at ho;cases ho
   rw[hT V i (fun _ _=>rfl) (Nat.le_refl _)]at hsees
   rw[← ba (t:=Av.T V ops.toList t0 i) hsees]
   refine bz he fun v h' ⟨hv2,hrest⟩=>?_
   have hV':∀j,j<i→(fun j=>if j=i then v else V j) j=V j:=fun j hj=>by simp only[];rw[if_neg (by omega)]
   have ag':Ag ops (i+1) (fun j=>if j=i then v else V j) t0 (fun j=>L.getD j false) s:=by
    refine⟨fun j o x hj hoj hp hd=>?_,ag.2⟩
    have hji:j≠i:=fun e=>by subst e;simp only[hun']at hp;cases hp
    simp only[if_neg hji]
    exact ag.1 j o x hj hoj hp hd
   refine cE D md hless hkn (V:=fun j=>if j=i then v else V j) (t0:=t0) (h:=h') (fun j=>j<i∧c j i=false) (fun j o hj hok KK hkk=>?_) ?_ _ _ _ _ (by simpa using hs) (by have:=cI hs hin hun';omega) (cl.set hoe hrd') (fun j hj hlj=>?_) (fun j hj hlj=>?_) ?_
   ·have hoj:ops[j]? =some o:=by
     rw[List.getElem?_take,if_pos (by omega)]at hj
     simpa using hj
    rw[hT _ j hV' (by omega)]
    simp only[if_neg (show ¬j=i by omega)]at hkk
    exact hv2 j o hok.1 hoj hok.2 KK hkk
   ·have e1:(ops.toList.take (i+1))[i]? =some oe:=by rw[List.getElem?_take,if_pos (by omega)];simpa using hoe
    rw[dS _ _ _ _ _ e1,hT _ i hV' (Nat.le_refl _)]
    simpa using hrest
   ·by_cases hji:i=j
    ·omega
    ·rw[getD_set_ne false hji]at hlj;have:=hlt j hj hlj;omega
   ·have hji:i≠j:=fun e=>by subst e;simp[h3]at hlj
    rw[getD_set_ne false hji]at hlj
    refine⟨by omega,?_⟩
    cases hc:c j i with
    |false=>rfl
    |true=>
     have:=D.bef cl i oe hoe (by omega) j (by omega) hc hrd'
     rw[hlj]at this;cases this
   ·have:=D.ag_put ag' (p':=fun j=>(L.setIfInBounds i true).getD j false) hoe (by omega) fun j hj=>by
     by_cases hji:i=j
     ·subst hji;simp[h3]
     ·rw[getD_set_ne false hji]
      have:(j==i)=false:=by simp;exact fun e=>hji e.symm
      rw[this,Bool.or_false]
    simpa using this
theorem sS{id:Nat}{l:List Oper}{Q:Exit→Env→Heap→Prop}(k:Nat)(oe:Oper)(hoe:l[k]? =some oe)(hok:preOk l.toArray (k+1)=true)(V:Nat→AVal)
  (hv:∀(i:Nat) (o:Oper),i<k→l[i]? =some o→∀KK:AVal→Heap→Prop,KK (V i) h→wpOperV C l.toArray o (Av.T V l t i) h KK)
  (he:wpOperV C l.toArray oe (Av.T V l t k) h fun v h'=>(∀(i:Nat) (o:Oper),i<k→l[i]? =some o→((Region.before l.toArray).getD k 0).testBit i=false→∀KK:AVal→Heap→Prop,KK (V i) h'→wpOperV C l.toArray o (Av.T V l t i) h' KK)∧
   Rest C l.toArray Q (l.length-(k+1)) (listK l.length (k+1)) (put (Av.T V l t k) oe.dst v) h'):WP C (.region id l.toArray true) Q t h:=by
 have D:=dA hok
 have hkl:=(List.getElem?_eq_some_iff.1 hoe).1
 have main:∀md n,WPix C l.toArray Q (Region.linearise md l.toArray n) t h:=fun md n=>by
  unfold Region.linearise
  refine j0 D md (iZ hok md) (by simp;omega) (V:=V) (t0:=t) (oe:=oe) (by simpa using hoe) (fun i o hi ho=>hv i o hi (by simpa using ho)) ?_ _ _ _ _ (by simp) ?_ (fun j oj hj hl=>?_) (fun j hj hl=>?_) (Ag.start _ _ _ _ fun j hj=>?_)
  ·refine bz he fun v h' ⟨h1,h2⟩=>⟨fun i o hi ho hc=>h1 i o hi (by simpa using ho) hc,fun n=>by have:=h2 md n;simpa using this⟩
  ·unfold left
   have:(List.range l.toArray.size).filter (fun i=> !(Array.replicate l.toArray.size false).getD i true)=List.range l.toArray.size:=by
    rw[List.filter_eq_self]
    intro i hi
    have:=List.mem_range.1 hi
    have h8:i<(Array.replicate l.toArray.size false).size:=by simpa using this
    simp at this ⊢
    simp[this]
   rw[this,List.length_range]
  ·have h8:=(Array.getElem?_eq_some_iff.1 hj).1
   simp at h8 hl
   simp[h8]at hl
  ·simp at hj hl
   simp[hj]at hl
  ·have:j<l.length:=by omega
   simp[this]
 show ∀tp,WPix C l.toArray Q (Region.schedule (C.P.follows .mixedOrders) l.toArray tp) t h
 intro tp
 unfold Region.schedule
 split
 ·exact main _ _
 ·exact main _ _
end
end Go.Av
