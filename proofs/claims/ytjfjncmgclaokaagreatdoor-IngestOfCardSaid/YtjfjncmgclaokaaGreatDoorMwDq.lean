/- Parts. -/
import Derived.Test.YtjfjncmgclaokaaGreatDoorMwInx
set_option linter.unusedSimpArgs false
set_option linter.unusedVariables false
set_option linter.unusedSectionVars false
set_option linter.unnecessarySimpa false
set_option maxRecDepth 100000
set_option maxHeartbeats 16000000
namespace Go.Av
open Go Go.Proofs Go.RowKit
attribute [local irreducible] WP WPl WPix Sat
variable {G:Nat→Option (List AVal)}
attribute [go_sem] decide_true decide_false
end Go.Av
namespace Go.Av
open Go Go.Proofs Go.RowKit
end Go.Av
namespace Go.Av
open Go Go.Proofs Go.RowKit
attribute [local irreducible] WP WPl WPix Sat
variable {G:Nat→Option (List AVal)}
end Go.Av
namespace Go.Av
open Go Go.Proofs Go.RowKit
attribute [local irreducible] WP WPl WPix Sat
variable {G:Nat→Option (List AVal)}
end Go.Av
namespace Go.Av
open Go Go.Proofs Go.RowKit
attribute [local irreducible] WP WPl WPix Sat
variable {G:Nat→Option (List AVal)}
end Go.Av
namespace Go.Av
open Go Go.Proofs Go.RowKit
attribute [local irreducible] WP WPl WPix Sat
variable {G:Nat→Option (List AVal)}
end Go.Av
namespace Go.Av
open Go Go.Proofs Go.RowKit
attribute [local irreducible] WP WPl WPix Sat
variable {G:Nat→Option (List AVal)}
end Go.Av
namespace Go.Av
open Go Go.Proofs Go.RowKit
attribute [local irreducible] WP WPl WPix Sat
variable {G:Nat→Option (List AVal)}
end Go.Av
namespace Go.Av
open Go Go.Proofs Go.RowKit
attribute [local irreducible] WP WPl WPix Sat
variable {G:Nat→Option (List AVal)}
end Go.Av
namespace Go.Av
open Go Go.Proofs Go.RowKit
end Go.Av
namespace Go.Av
open Go Go.Proofs Go.RowKit
attribute [local irreducible] WP WPl WPix Sat
variable {G:Nat→Option (List AVal)}
end Go.Av
namespace Go.Av
open Go Go.Proofs Go.RowKit
attribute [local irreducible] WP WPl WPix Sat
variable {G:Nat→Option (List AVal)}
end Go.Av
namespace Go.Av
open Go Go.Proofs Go.RowKit
def shortF(s:Bs)(n:Nat):Bs:=cleanF (cutF (cleanF s) n)
def orF(a b c:Bs):Bs:=if a≠ []then a else if b≠ []then b else c
def bTitle:Bs:=[116,105,116,108,101]
theorem uJ(s:Bs)(n:Nat):(cutF s n).length≤n∧(cutF s n).length≤s.length:=by
 have:=vu s s.length 0 n (by omega);unfold cutA at this;simp only[U6]at this;unfold cutF;rw[M2];omega
def textO(s:Bs)(m:Nat):Bool:=decide (s.length≤m)&&rightS s&&decide (cleanF s=s)
structure En where
 guid:Bs
 title:Bs
 link:Bs
 date:Int
 dated:Bool
def En.av(x:En):AVal:=.agg [.str x.guid,.str x.title,.str x.link,.int .i64 x.date,.bool x.dated]
@[go_sem] theorem En.av_eq(x:En):x.av=.agg [.str x.guid,.str x.title,.str x.link,.int .i64 x.date,.bool x.dated]:=(rfl)
theorem En.clo(n:Nat)(x:En):Clo n x.av:=.agg _ fun c hc=>by
 simp only[J9,N9,or_false]at hc;rcases hc with rfl|rfl|rfl|rfl|rfl<;>first|exact .str _|exact .int _ _|exact .bool _
theorem En.sto(x:En):∀c∈x.av.cells,c.sto=true:=by
 intro c hc;simp[En.av,AVal.cells]at hc;rcases hc with rfl|rfl|rfl|rfl|rfl<;>rfl
structure Fd where
 title:Bs
 link:Bs
 es:List En
def Fd.av(d:Fd):AVal:=.agg [.str d.title,.str d.link,.sl 5 (d.es.map En.av)]
def onceS(out:List En)(x:En):List En:=if out.any (fun y=>decide (y.guid=x.guid))then out else out++[x]
def onceF(l:List En):List En:=l.foldl onceS []
theorem nj{l:List En}{i:Nat}{x:En}(h:l[i]? =some x):onceF (l.take (i+1))=onceS (onceF (l.take i)) x:=by
 unfold onceF;rw[M8,h,List.foldl_append];rfl
theorem iC(l:List En):(onceF l).length≤l.length:=by
 have key:∀(l out:List En),(l.foldl onceS out).length≤out.length+l.length:=by
  intro l;induction l with
  |nil=>intro out;simp
  |cons x l ih=>
   intro out;have:=ih (onceS out x);have h2:(onceS out x).length≤out.length+1:=(by unfold onceS;split<;>simp);rw[List.foldl_cons,I7];omega
 have k:=key l [];rw[M0,N7]at k;exact k
def anyF(s:Bs):Option Int:=match webR s with
 |some n=>some n
 |none=>mailR s
def fieldF(e:Elem)(n:Bs)(m:Nat):Bs:=shortF (kidF e n).1.text m
def momE(f:Bs→Option Int)(e:Elem)(n:Bs):Option Int:=if (kidF e n).2 then f (cleanF (kidF e n).1.text)else none
def momL(f:Bs→Option Int)(e:Elem):List Bs→Option Int
 | []=>none
 |n::l=>match momE f e n with
  |some v=>some v
  |none=>momL f e l
def mkE(g t l:Bs)(m:Option Int):Option En:=if g=[]then none else some ⟨g,t,l,m.getD 0,m.isSome⟩
def bLink:Bs:=[108,105,110,107]
def bGuid:Bs:=[103,117,105,100]
def bPub:Bs:=[112,117,98,68,97,116,101]
def bDate:Bs:=[100,97,116,101]
def bId:Bs:=[105,100]
def bHref:Bs:=[104,114,101,102]
def bRel:Bs:=[114,101,108]
def bAlt:Bs:=[97,108,116,101,114,110,97,116,101]
def bUpd:Bs:=[117,112,100,97,116,101,100]
def bPubl:Bs:=[112,117,98,108,105,115,104,101,100]
def bIss:Bs:=[105,115,115,117,101,100]
def bChan:Bs:=[99,104,97,110,110,101,108]
def bItem:Bs:=[105,116,101,109]
def bRss:Bs:=[114,115,115]
def bFeed:Bs:=[102,101,101,100]
def bEntry:Bs:=[101,110,116,114,121]
def entR(e:Elem):Option En:=mkE (orF (fieldF e bGuid 512) (fieldF e bLink 512) (fieldF e bTitle 256)) (fieldF e bTitle 256) (fieldF e bLink 512) (momL anyF e [bPub,bDate])
def linkP(k:Elem):Bool:=(attrF k.attrs bHref).2&&(!(attrF k.attrs bRel).2||decide ((attrF k.attrs bRel).1=bAlt))
def linkA(e:Elem):Bs:=match (kidsF e bLink).find? linkP with
 |some k=>shortF (attrF k.attrs bHref).1 512
 |none=>[]
def entA(e:Elem):Option En:=mkE (orF (fieldF e bId 512) (linkA e) (fieldF e bTitle 256)) (fieldF e bTitle 256) (linkA e) (momL webR e [bUpd,bPubl,bIss])
def entsF(f:Elem→Option En)(l:List Elem):List En:=(l.filterMap f).take 256
def rssF(e:Elem):Option Fd:=if (kidF e bChan).2&&decide (short e.name=bRss)then some ⟨fieldF (kidF e bChan).1 bTitle 256,fieldF (kidF e bChan).1 bLink 512,entsF entR (kidsF (kidF e bChan).1 bItem)⟩else none
def atomF(e:Elem):Option Fd:=if short e.name=bFeed then some ⟨fieldF e bTitle 256,linkA e,entsF entA (kidsF e bEntry)⟩else none
def ofE(e:Elem):Option Fd:=(match rssF e with
 |some d=>some d
 |none=>atomF e).map fun d:Fd=>⟨d.title,d.link,onceF d.es⟩
end Go.Av
namespace Go.Av
open Go Go.Proofs Go.RowKit Go.ChangeShapes Go.WideShapes
section
variable {H:Type} {enc:TypeId×Value→H} {W:World}
theorem Au(n:Nat):Rd H enc Tryz.prog W n 61 (fun e:En=>e.av.cells) (fun _=>0):=fun cs x h=>by
 obtain⟨ds,n',rfl,hx,hcl,hdl,hf⟩:=il (fs:=[9,9,9,3,4]) (by kernel_rfl) h;obtain⟨y0,d0,t0⟩:=hf 0 _ rfl;obtain⟨y1,d1,t1⟩:=hf 1 _ rfl;obtain⟨y2,d2,t2⟩:=hf 2 _ rfl;obtain⟨y3,d3,t3⟩:=hf 3 _ rfl;obtain⟨y4,d4,t4⟩:=hf 4 _ rfl;obtain⟨a0,s0,r0,_⟩:=bc (mk:=fun s:Bs=>.str s) (dW (by kernel_rfl)) t0;obtain⟨a1,s1,r1,_⟩:=bc (mk:=fun s:Bs=>.str s) (dW (by kernel_rfl)) t1;obtain⟨a2,s2,r2,_⟩:=bc (mk:=fun s:Bs=>.str s) (dW (by kernel_rfl)) t2;obtain⟨a3,s3,r3,_⟩:=bc (mk:=fun i: {i:Int//(Lit.int .i64 i).wf=true}=>.int .i64 i.1) (fV (by kernel_rfl)) t3;obtain⟨a4,s4,r4,_⟩:=bc (mk:=fun b:Bool=>.bool b) (vg (by kernel_rfl)) t4;refine⟨⟨a0,a1,a2,a3.1,a4⟩,by rw[hcl];rfl,fun j c hj=>?_,X9 _⟩
 match j with
 |0=>simp[En.av,AVal.cells]at hj;subst hj;exact⟨s0,r0⟩
 |1=>simp[En.av,AVal.cells]at hj;subst hj;exact⟨s1,r1⟩
 |2=>simp[En.av,AVal.cells]at hj;subst hj;exact⟨s2,r2⟩
 |3=>simp[En.av,AVal.cells]at hj;subst hj;exact⟨s3,r3⟩
 |4=>simp[En.av,AVal.cells]at hj;subst hj;exact⟨s4,r4⟩
 |j+5=>simp[En.av,AVal.cells]at hj
end
section
variable {H:Type} {enc:TypeId×Value→H} {W:World}
theorem Aw(n:Nat):Rd H enc Tryz.prog W n 25 (fun d:Fd=>d.av.cells) (fun _=>0):=fun cs x h=>by
 obtain⟨ds,n',rfl,hx,hcl,hdl,hf⟩:=il (fs:=[9,9,23]) (by kernel_rfl) h;obtain⟨y0,d0,t0⟩:=hf 0 _ rfl;obtain⟨y1,d1,t1⟩:=hf 1 _ rfl;obtain⟨y2,d2,t2⟩:=hf 2 _ rfl;obtain⟨a0,s0,r0,_⟩:=bc (mk:=fun s:Bs=>.str s) (dW (by kernel_rfl)) t0;obtain⟨a1,s1,r1,_⟩:=bc (mk:=fun s:Bs=>.str s) (dW (by kernel_rfl)) t1;obtain⟨a2,s2,r2,_⟩:=bc (mk:=fun l:List En=>.sl 5 (l.map En.av)) (mt (m:=5) (e:=61) En.av (by kernel_rfl) (by kernel_rfl) (by decide) (fun _=>rfl) (fun _=>rfl) fun k _=>Au k) t2;refine⟨⟨a0,a1,a2⟩,by rw[hcl];rfl,fun j c hj=>?_,X9 _⟩
 match j with
 |0=>simp[Fd.av,AVal.cells]at hj;subst hj;exact⟨s0,r0⟩
 |1=>simp[Fd.av,AVal.cells]at hj;subst hj;exact⟨s1,r1⟩
 |2=>simp[Fd.av,AVal.cells]at hj;subst hj;exact⟨s2,r2⟩
 |j+3=>simp[Fd.av,AVal.cells]at hj
theorem qF{v:Value}{d:DataW H}{ps:List MemPlace}(h:DataW.Trod enc Tryz.prog W 0 (fun _=>true) true 25 v d ps):∃e:Fd,Rep W (lies0 W) [] e.av v:=by
 obtain⟨n,hn⟩:=h;obtain⟨e,h1,h2,_⟩:=Aw n _ _ hn
 change e.av.cells.length=_ at h1
 refine⟨e,?_⟩;have hc:e.av.cells=[.str e.title,.str e.link,.sl 5 (e.es.map En.av)]:=rfl;have hl:v.cells.size=3:=by rw[hc]at h1;simpa using h1.symm
 have hv:∃a,v=.agg a:=by
  cases v with
  |agg a=>exact⟨a,rfl⟩
  |_=>simp[Value.cells]at hl
 obtain⟨a,rfl⟩:=hv;have:=mu (vs:=a.toList) (x:=e.av) (cs:=[.str e.title,.str e.link,.sl 5 (e.es.map En.av)]) rfl (by simpa [Value.cells]using hl.symm) (fun j c hj=>by have:=h2 j c (by show e.av.cells[j]? =some c;rw[hc];exact hj);simpa [Value.cells]using this);simpa using this
end
section
variable {H:Type} {enc:TypeId×Value→H} {W:World}
theorem Ax(n:Nat):Rd H enc Tryz.prog W n 57 (fun e:Ev=>e.av.cells) (fun _=>0):=fun cs x h=>by
 obtain⟨ds,n',rfl,hx,hcl,hdl,hf⟩:=il (fs:=[3,3,3,3,9,9,9]) (by kernel_rfl) h;obtain⟨y0,d0,t0⟩:=hf 0 _ rfl;obtain⟨y1,d1,t1⟩:=hf 1 _ rfl;obtain⟨y2,d2,t2⟩:=hf 2 _ rfl;obtain⟨y3,d3,t3⟩:=hf 3 _ rfl;obtain⟨y4,d4,t4⟩:=hf 4 _ rfl;obtain⟨y5,d5,t5⟩:=hf 5 _ rfl;obtain⟨y6,d6,t6⟩:=hf 6 _ rfl;obtain⟨a0,s0,r0,_⟩:=bc (mk:=fun i: {i:Int//(Lit.int .i64 i).wf=true}=>.int .i64 i.1) (fV (by kernel_rfl)) t0;obtain⟨a1,s1,r1,_⟩:=bc (mk:=fun i: {i:Int//(Lit.int .i64 i).wf=true}=>.int .i64 i.1) (fV (by kernel_rfl)) t1;obtain⟨a2,s2,r2,_⟩:=bc (mk:=fun i: {i:Int//(Lit.int .i64 i).wf=true}=>.int .i64 i.1) (fV (by kernel_rfl)) t2;obtain⟨a3,s3,r3,_⟩:=bc (mk:=fun i: {i:Int//(Lit.int .i64 i).wf=true}=>.int .i64 i.1) (fV (by kernel_rfl)) t3;obtain⟨a4,s4,r4,_⟩:=bc (mk:=fun s:Bs=>.str s) (dW (by kernel_rfl)) t4;obtain⟨a5,s5,r5,_⟩:=bc (mk:=fun s:Bs=>.str s) (dW (by kernel_rfl)) t5;obtain⟨a6,s6,r6,_⟩:=bc (mk:=fun s:Bs=>.str s) (dW (by kernel_rfl)) t6;refine⟨⟨a0.1,a1.1,a2.1,a3.1,a4,a5,a6⟩,by rw[hcl];rfl,fun j c hj=>?_,X9 _⟩
 match j with
 |0=>simp[Ev.av,AVal.cells]at hj;subst hj;exact⟨s0,r0⟩
 |1=>simp[Ev.av,AVal.cells]at hj;subst hj;exact⟨s1,r1⟩
 |2=>simp[Ev.av,AVal.cells]at hj;subst hj;exact⟨s2,r2⟩
 |3=>simp[Ev.av,AVal.cells]at hj;subst hj;exact⟨s3,r3⟩
 |4=>simp[Ev.av,AVal.cells]at hj;subst hj;exact⟨s4,r4⟩
 |5=>simp[Ev.av,AVal.cells]at hj;subst hj;exact⟨s5,r5⟩
 |6=>simp[Ev.av,AVal.cells]at hj;subst hj;exact⟨s6,r6⟩
 |j+7=>simp[Ev.av,AVal.cells]at hj
theorem o9{v:Value}{d:DataW H}{ps:List MemPlace}{r:Reach}{b0:Nat}(hval:Value.okWide Tryz.prog W r b0 33 v)(h:DataW.Trod enc Tryz.prog W 0 (fun _=>true) true 33 v d ps):∃es:List Ev,Rep W (lies0 W) [] (.sl 7 (es.map Ev.av)) v:=by
 obtain⟨n,hn⟩:=h;obtain⟨l,h1,h2,_⟩:=mt (m:=7) (e:=57) Ev.av (by kernel_rfl) (by kernel_rfl) (by decide) (fun _=>rfl) (fun _=>rfl) (fun k _=>Ax k) _ _ hn;refine⟨l,?_⟩;have h4:=(h2 0 _ rfl).2;have hcs:v.cells.toList=[v]:=by
  have hu:Tryz.prog.underlying 33=some (.slice 57):=by kernel_rfl
  cases v with
  |agg a=>simp[Value.okWide,hu,Cell.okWide,Cell.ok]at hval
  |_=>rfl
 rw[hcs]at h4;simpa using h4
theorem oc{v:Value}{d:DataW H}{ps:List MemPlace}{r:Reach}{b0:Nat}(hval:Value.okWide Tryz.prog W r b0 3 v)(h:DataW.Trod enc Tryz.prog W 0 (fun _=>true) true 3 v d ps):∃i:Int,Rep W (lies0 W) [] (.int .i64 i) v:=by
 obtain⟨n,hn⟩:=h;have hcs:v.cells.toList=[v]:=by
  have hu:Tryz.prog.underlying 3=some (.int .i64):=by kernel_rfl
  cases v with
  |agg a=>simp[Value.okWide,hu,Cell.okWide,Cell.ok]at hval
  |_=>rfl
 rw[hcs]at hn;obtain⟨a,_,ra,_⟩:=bc (mk:=fun i: {i:Int//(Lit.int .i64 i).wf=true}=>.int .i64 i.1) (fV (by kernel_rfl)) hn;exact⟨a.1,ra⟩
end
end Go.Av
namespace Go.Proofs.YtjfjncmgclaokaaGreatDoor.ingestOf
open Go Go.Av
theorem vR:(Rows.ingestOfRow.inPlace==Tryz.pinned.checked.prog.inPlace 5)=true:=by kernel_rfl
theorem vS:(Rows.ingestOfRow.unfollowed==Tryz.pinned.checked.prog.unfollowed 5)=true:=by kernel_rfl
theorem vT:(Rows.ingestOfRow.recurses==Tryz.pinned.checked.prog.recurses 5)=true:=by kernel_rfl
theorem vU:(Rows.ingestOfRow.named==Tryz.pinned.checked.prog.varsNamed 5)=true:=by kernel_rfl
theorem xG:joinedFacts Tryz.pinned.checked.prog 5 Tryz.f5 (OpenSpec.ofChange Rows.ingestOfSpec).bare Rows.ingestOfRow=true:=by
 unfold joinedFacts;rw[vR,vS,vT,vU]
 kernel_rfl
end Go.Proofs.YtjfjncmgclaokaaGreatDoor.ingestOf
namespace Go.Av
open Go Go.Proofs Go.RowKit
attribute [local irreducible] WP WPl WPix Sat
variable (G:Nat→Option (List AVal))
theorem oT{h0 Z:Heap}{q v e:Nat}(l:List En)(hq:h0.length≤q)(hg:getRow Z q v=some (e,5,l.map En.av)):Frz Z h0.length (.hs q v 0 l.length true) (.sl 5 (l.map En.av)):=
 U9 hq hg (by simp) (fun r hr=>by obtain⟨x,_,rfl⟩:=J8.1 hr;exact x.clo _) (fun r hr=>by obtain⟨x,_,rfl⟩:=J8.1 hr;exact x.sto)
theorem iD(l:List En)(hl:l.length≤1048576)(h:Heap):Sat (CT G) 35 [.sl 5 (l.map En.av)] h (fun r h'=>r=.sl 5 ((onceF l).map En.av)∧h'=h):=by
 have ml:(l.map En.av).length=l.length:=I4 ..;have hma:∀(m:ML Bs Int) (c:Nat) (j:Heap),mapAt (h++(.mp (encM .str iA m) c::j)) h.length=some (encM .str iA m,c):=fun m c j=>by simp[mapAt]
 have ia:∀n,iA n=.int .i64 n:=fun _=>rfl
 have F:=F2 ml hma;refine sb [.tmp 2] Tryz.func35 ?_;intro Q hQ;refine wk F ?_;refine lm (fun nL tL hL=>∃(i v c:Nat) (m:ML Bs Int) (out:List En) (j:Heap),l.length-i=nL∧h++(.mp (encM .str iA m) c:: .row 61 5 v (out.map En.av)::j)=hL∧tL 3=.hs (h.length+1) v 0 out.length true∧tL 10=.int .i64 i∧i≤l.length∧out=onceF (l.take i)∧(∀g,((∃y∈out,y.guid=g)∧lkM m g=some 1)∨((∀y∈out,y.guid≠g)∧lkM m g=none))) ((fun(i v c:Nat) (m:ML Bs Int) (out:List En) (j:Heap)=>(l.length-i:Nat)) (0) (0) (0) ([]) ([]) ([])) ?_ ?_
 ·refine⟨_,_,V3 3 61 5 (by simp) (by omega) (by exact zq F),⟨0,0,0,[],[],[],rfl,az,?_,?_,by omega,rfl,fun g=>.inr ⟨by simp,rfl⟩⟩⟩;all_goals try exact zZz F
 rintro _ s2 h' ⟨i,v,c,m,out,j,rfl,rfl,e3,e10,hi,ho,hm⟩ K2 hK2;simp only[ah,ar,Nat.reduceEqDiff, ↓reduceIte]at e3 e10;have F:=F3 F e3 e10;have hol:=iC (l.take i);rw[← ho,M2]at hol;by_cases c1:i<l.length
 ·obtain⟨x,hx,_⟩:=ac c1;have d1:=J7 c1;have hst:=nj hx;rw[← ho]at hst;have mo:(out.map En.av).length=out.length:=I4 ..;rcases hm x.guid with⟨⟨y,hy1,hy2⟩,hlk⟩| ⟨hn,hlk⟩
  ·have ha:out.any (fun y=>decide (y.guid=x.guid))=true:=U0.2 ⟨y,hy1,by simp[hy2]⟩;unfold onceS at hst;rw[I6 ha]at hst;have hg:(lkM m x.guid).getD 0=1:=(by rw[hlk];rfl);have q:decide ((1:Int)>0)=true:=rfl;have F:=F6 F hx d1 hg q @ao;(try refine sq F ?_);refine wk F ?_;refine hK2 _ _ _ (I9 ⟨i+1,v,c,m,out,j++[.row 61 5 0 [x.av]],rfl,rfl,?_,?_,by omega,hst.symm,hm⟩) (by omega);all_goals try exact zZz F
  ·have ha:out.any (fun y=>decide (y.guid=x.guid))=false:=by
    cases hh:out.any (fun y=>decide (y.guid=x.guid))with
    |false=>rfl
    |true=>
     obtain⟨y,hy1,hy2⟩:=U0.1 hh;exact absurd (by simpa using hy2) (hn y hy1)
   unfold onceS at hst;rw[I0 (by simp[ha])]at hst;have hg:(lkM m x.guid).getD 0=0:=(by rw[hlk];rfl);have q:decide ((0:Int)>0)=false:=rfl;have hm2:∀g,((∃y∈out++[x],y.guid=g)∧lkM (upM m c x.guid 1) g=some 1)∨((∀y∈out++[x],y.guid≠g)∧lkM (upM m c x.guid 1) g=none):=fun g=>by
    rw[bt];by_cases e:g=x.guid
    ·left;rw[I6 e];exact⟨⟨x,by simp,e.symm⟩,rfl⟩
    ·rw[I0 e];rcases hm g with⟨⟨y,hy1,hy2⟩,k⟩| ⟨k1,k2⟩
     ·exact .inl ⟨⟨y,by simp[hy1],hy2⟩,k⟩
     ·refine .inr ⟨fun y hy=>?_,k2⟩;rcases P6.1 hy with hy|hy
      ·exact k1 y hy
      ·rw[List.mem_singleton.1 hy];exact fun k=>e k.symm
   have F:=F7 F hx d1 hg q mo @ao;(try refine sq F ?_);refine wk F ?_;refine aq F ?_;(try refine sq F ?_);refine wk F ?_;refine hK2 _ _ _ (I9 ⟨i+1,v+1,ckM m c x.guid,upM m c x.guid 1,out++[x],j++[.row 61 5 0 [x.av]],rfl,by simp[En.av],?_,?_,by omega,hst.symm,hm2⟩) (by omega);all_goals try exact zZz F
 ·have d1:=J3 c1;rw[J6 (by omega)]at ho;have mo:(out.map En.av).length=out.length:=I4 ..;have F:=F3 F d1 mo;try refine sq F ?_
  refine wk F ?_;refine ee hQ F ?_;rw[← ho];exact X1 (oT out (by omega) (by rw[bm _ rfl];show(if v=v then _ else _)=_;rw[I6 rfl])) ⟨rfl,rfl⟩
end Go.Av
namespace Go.Av
open Go Go.Proofs Go.RowKit
attribute [local irreducible] WP WPl WPix Sat
variable {G:Nat→Option (List AVal)}
end Go.Av
namespace Go.Av
open Go Go.Proofs Go.RowKit
attribute [local irreducible] WP WPl WPix Sat
variable (G:Nat→Option (List AVal))
theorem xJ(a b c:Bs)(h:Heap):Sat (CT G) 164 [.sl 1 [.str a,.str b,.str c]] h (fun r h'=>r=.str (orF a b c)∧h'=h):=by
 refine sb [.tmp 2] Tryz.func164 ?_;intro Q hQ;refine wk trivial ?_;refine lm (fun nL tL hL=>∃(k:Nat),3-k=nL∧h=hL∧tL 8=.int .i64 k∧k≤3∧(1≤k→a=[])∧(2≤k→b=[])∧(3≤k→c=[])) ((fun(k:Nat)=>(3-k:Nat)) (0)) ?_ ?_
 ·refine I9 ⟨0,rfl,az,?_,by omega,fun h=>by omega,fun h=>by omega,fun h=>by omega⟩;all_goals try exact zZz trivial
 rintro _ s2 h' ⟨k,rfl,rfl,e8,hk,h0,h1,h2⟩ K2 hK2;simp only[ah,ar,Nat.reduceEqDiff, ↓reduceIte]at e8;have F:=e8;refine wk F ?_;refine cq F (fun c1=>?_) (fun c1=>?_)<;>(try exact c1.elim)<;>(refine wk F ?_)
 ·obtain⟨y,hy,hyv⟩:∃y:Bs,([.str a,.str b,.str c]:List AVal)[k]? =some (.str y)∧((k=0∧y=a)∨(k=1∧y=b)∨(k=2∧y=c)):=by
   match k,c1 with
   |0,_=>exact⟨a,rfl,.inl ⟨rfl,rfl⟩⟩
   |1,_=>exact⟨b,rfl,.inr (.inl ⟨rfl,rfl⟩)⟩
   |2,_=>exact⟨c,rfl,.inr (.inr ⟨rfl,rfl⟩)⟩
   |k+3,c1=>exfalso;omega
  have F:=F2 F hy;try refine sq F ?_
  refine wk F ?_;refine cq F (fun c2=>?_) (fun c2=>?_)<;>(try exact c2.elim)<;>(refine wk F ?_)
  ·refine ee hQ F ?_;refine fR (.str _) ?_;unfold orF;rcases hyv with⟨rfl,rfl⟩| ⟨rfl,rfl⟩| ⟨rfl,rfl⟩
   ·rw[I6 c2]
   ·rw[I0 (by simp[h0 (by omega)]),I6 c2]
   ·rw[I0 (by simp[h0 (by omega)]),I0 (by simp[h1 (by omega)])]
  ·have c3:y=[]:=(by simpa using c2);have n0:1≤k+1→a=[]:=fun hh=>by
    rcases hyv with⟨rfl,rfl⟩| ⟨rfl,rfl⟩| ⟨rfl,rfl⟩
    ·exact c3
    ·exact h0 (by omega)
    ·exact h0 (by omega)
   have n1:2≤k+1→b=[]:=fun hh=>by
    rcases hyv with⟨rfl,rfl⟩| ⟨rfl,rfl⟩| ⟨rfl,rfl⟩
    ·omega
    ·exact c3
    ·exact h1 (by omega)
   have n2:3≤k+1→c=[]:=fun hh=>by
    rcases hyv with⟨rfl,rfl⟩| ⟨rfl,rfl⟩| ⟨rfl,rfl⟩
    ·omega
    ·omega
    ·exact c3
   refine hK2 _ _ _ (I9 ⟨k+1,rfl,az,?_,by omega,n0,n1,n2⟩) (by omega);all_goals try exact zZz F
 ·have h3:=h2 (by omega);subst h3;refine wk F ?_;refine ee hQ F ?_;refine fR (.str _) ?_;unfold orF;rw[h0 (by omega),h1 (by omega)];rfl
theorem uP(e:Elem)(n:Bs)(hs:e.sz≤1048576):(kidF e n).1.text.length≤1048576:=by
 unfold kidF;split
 ·exact X9 _
 ·rename_i k l hk;have hm:k∈e.kids:=by
   have:k∈kidsF e n:=by rw[hk];simp
   unfold kidsF at this;exact(R7.1 this).1
  have h1:=Elem.kid_sz hm;have h3:=k.text_len;show k.text.length≤_;omega
theorem d9(e:Elem)(n:Bs)(m:Nat)(hs:e.sz≤1048576)(hm:m≤1000)(h:Heap):Sat (CT G) 107 [e.av,.str n,.int .i64 m] h (fun r h'=>r=.str (fieldF e n m)∧h'=h):=by
 have hKd:=mI G e n hs;have ht:=uP e n hs;obtain⟨k,hk⟩:∃k,k=kidF e n:=⟨_,rfl⟩;have hf:fieldF e n m=cleanF (cutF (cleanF k.1.text) m):=by unfold fieldF shortF;rw[hk]
 rw[← hk]at hKd ht;obtain⟨⟨k1,k2,k3,k4⟩,is⟩:=k;have ht:k3.length≤1048576:=ht;have hc:=pK k3;have hct:=uJ (cleanF k3) m;have h1:=eD G k3 (by omega);have h2:=tU G (cleanF k3) m (by omega) (by omega);have h3:=eD G (cutF (cleanF k3) m) (by omega);rw[hf];have F:= @ao;refine sb [.tmp 6] Tryz.func107 ?_;intro Q hQ;refine wk F ?_;refine kq F (hKd _) ?_;refine kq F (h1 _) ?_;refine kq F (h2 _) ?_;refine kq F (h3 _) ?_;refine ee hQ F ?_;exact I2 (.str _) ⟨rfl,rfl⟩
end Go.Av
