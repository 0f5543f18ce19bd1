/- What an element that is not too large keeps to: texts and attributes, down to some depth (plain). -/
import Derived.Test.YtljohklbgahomaaGreatDoorMoRn
import Derived.Test.YtljohklbgahomaaGreatDoorMoDe
set_option linter.unusedSimpArgs false
set_option linter.unusedVariables false
set_option linter.unusedSectionVars false
set_option linter.unnecessarySimpa false
set_option maxRecDepth 100000
set_option maxHeartbeats 16000000
namespace Go.Av
open Go Go.Proofs Go.RowKit
end Go.Av
namespace Go.Av
open Go Go.Proofs Go.RowKit
def shortF(s:Bs)(n:Nat):Bs:=cleanF (cutF (cleanF s) n)
def orF(a b c:Bs):Bs:=if a≠ []then a else if b≠ []then b else c
def bTitle:Bs:=[116,105,116,108,101]
theorem jS(s:Bs)(n:Nat):(cutF s n).length≤n∧(cutF s n).length≤s.length:=by
 have:=pK s s.length 0 n (by omega)
 unfold cutA at this
 simp only[List.drop_zero]at this
 unfold cutF
 rw[List.length_take];omega
end Go.Av
namespace Go.Av
open Go Go.Proofs Go.RowKit
structure En where
 guid:Bs
 title:Bs
 link:Bs
 date:Int
 dated:Bool
def En.av(x:En):AVal:=.agg [.str x.guid,.str x.title,.str x.link,.int .i64 x.date,.bool x.dated]
@[go_sem] theorem En.av_eq(x:En):x.av=.agg [.str x.guid,.str x.title,.str x.link,.int .i64 x.date,.bool x.dated]:=(rfl)
theorem En.clo(n:Nat)(x:En):Clo n x.av:=.agg _ fun c hc=>by
 simp only[List.mem_cons,List.not_mem_nil,or_false]at hc
 rcases hc with rfl|rfl|rfl|rfl|rfl<;>first|exact .str _|exact .int _ _|exact .bool _
theorem En.sto(x:En):∀c∈x.av.cells,c.sto=true:=by
 intro c hc
 simp[En.av,AVal.cells]at hc
 rcases hc with rfl|rfl|rfl|rfl|rfl<;>rfl
structure Fd where
 title:Bs
 link:Bs
 es:List En
def Fd.av(d:Fd):AVal:=.agg [.str d.title,.str d.link,.sl 5 (d.es.map En.av)]
def onceS(out:List En)(x:En):List En:=if out.any (fun y=>decide (y.guid=x.guid))then out else out++[x]
def onceF(l:List En):List En:=l.foldl onceS []
theorem jT{l:List En}{i:Nat}{x:En}(h:l[i]? =some x):onceF (l.take (i+1))=onceS (onceF (l.take i)) x:=by
 unfold onceF
 rw[List.take_add_one,h,List.foldl_append]
 rfl
theorem dq(l:List En):(onceF l).length≤l.length:=by
 have key:∀(l out:List En),(l.foldl onceS out).length≤out.length+l.length:=by
  intro l
  induction l with
  |nil=>intro out;simp
  |cons x l ih=>
   intro out
   have:=ih (onceS out x)
   have h2:(onceS out x).length≤out.length+1:=by unfold onceS;split<;>simp
   rw[List.foldl_cons,List.length_cons]
   omega
 have k:=key l []
 rw[List.length_nil,Nat.zero_add]at k
 exact k
def anyF(s:Bs):Option Int:=match webR s with
 |some n=>some n
 |none=>mailR s
def fieldF(e:Elem)(n:Bs)(m:Nat):Bs:=shortF (kidF e n).1.text m
def momE(f:Bs→Option Int)(e:Elem)(n:Bs):Option Int:=if (kidF e n).2 then f (cleanF (kidF e n).1.text)else none
def momL(f:Bs→Option Int)(e:Elem):List Bs→Option Int
 | []=>none
 |n::l=>match momE f e n with
  |some v=>some v
  |none=>momL f e l
def mkE(g t l:Bs)(m:Option Int):Option En:=if g=[]then none else some ⟨g,t,l,m.getD 0,m.isSome⟩
def bLink:Bs:=[108,105,110,107]
def bGuid:Bs:=[103,117,105,100]
def bPub:Bs:=[112,117,98,68,97,116,101]
def bDate:Bs:=[100,97,116,101]
def bId:Bs:=[105,100]
def bHref:Bs:=[104,114,101,102]
def bRel:Bs:=[114,101,108]
def bAlt:Bs:=[97,108,116,101,114,110,97,116,101]
def bUpd:Bs:=[117,112,100,97,116,101,100]
def bPubl:Bs:=[112,117,98,108,105,115,104,101,100]
def bIss:Bs:=[105,115,115,117,101,100]
def bChan:Bs:=[99,104,97,110,110,101,108]
def bItem:Bs:=[105,116,101,109]
def bRss:Bs:=[114,115,115]
def bFeed:Bs:=[102,101,101,100]
def bEntry:Bs:=[101,110,116,114,121]
def entR(e:Elem):Option En:=mkE (orF (fieldF e bGuid 512) (fieldF e bLink 512) (fieldF e bTitle 256)) (fieldF e bTitle 256) (fieldF e bLink 512) (momL anyF e [bPub,bDate])
def linkP(k:Elem):Bool:=(attrF k.attrs bHref).2&&(!(attrF k.attrs bRel).2||decide ((attrF k.attrs bRel).1=bAlt))
def linkA(e:Elem):Bs:=match (kidsF e bLink).find? linkP with
 |some k=>shortF (attrF k.attrs bHref).1 512
 |none=>[]
def entA(e:Elem):Option En:=mkE (orF (fieldF e bId 512) (linkA e) (fieldF e bTitle 256)) (fieldF e bTitle 256) (linkA e) (momL webR e [bUpd,bPubl,bIss])
def entsF(f:Elem→Option En)(l:List Elem):List En:=(l.filterMap f).take 256
def rssF(e:Elem):Option Fd:=if (kidF e bChan).2&&decide (short e.name=bRss)then some ⟨fieldF (kidF e bChan).1 bTitle 256,fieldF (kidF e bChan).1 bLink 512,entsF entR (kidsF (kidF e bChan).1 bItem)⟩else none
def atomF(e:Elem):Option Fd:=if short e.name=bFeed then some ⟨fieldF e bTitle 256,linkA e,entsF entA (kidsF e bEntry)⟩else none
def ofE(e:Elem):Option Fd:=(match rssF e with
 |some d=>some d
 |none=>atomF e).map fun d:Fd=>⟨d.title,d.link,onceF d.es⟩
end Go.Av
namespace Go.Av
open Go Go.Proofs Go.RowKit Go.ChangeShapes Go.WideShapes
section
variable {H:Type} {enc:TypeId×Value→H} {W:World}
theorem tu(n:Nat):Rd H enc Tryz.prog W n 48 (fun e:En=>e.av.cells) (fun _=>0):=fun cs x h=>by
 obtain⟨ds,n',rfl,hx,hcl,hdl,hf⟩:=eT (fs:=[9,9,9,3,4]) (by kernel_rfl) h
 obtain⟨y0,d0,t0⟩:=hf 0 _ rfl
 obtain⟨y1,d1,t1⟩:=hf 1 _ rfl
 obtain⟨y2,d2,t2⟩:=hf 2 _ rfl
 obtain⟨y3,d3,t3⟩:=hf 3 _ rfl
 obtain⟨y4,d4,t4⟩:=hf 4 _ rfl
 obtain⟨a0,s0,r0,_⟩:=bm (mk:=fun s:Bs=>.str s) (da (by kernel_rfl)) t0
 obtain⟨a1,s1,r1,_⟩:=bm (mk:=fun s:Bs=>.str s) (da (by kernel_rfl)) t1
 obtain⟨a2,s2,r2,_⟩:=bm (mk:=fun s:Bs=>.str s) (da (by kernel_rfl)) t2
 obtain⟨a3,s3,r3,_⟩:=bm (mk:=fun i: {i:Int//(Lit.int .i64 i).wf=true}=>.int .i64 i.1) (qL (by kernel_rfl)) t3
 obtain⟨a4,s4,r4,_⟩:=bm (mk:=fun b:Bool=>.bool b) (pr (by kernel_rfl)) t4
 refine⟨⟨a0,a1,a2,a3.1,a4⟩,by rw[hcl];rfl,fun j c hj=>?_,Nat.zero_le _⟩
 match j with
 |0=>simp[En.av,AVal.cells]at hj;subst hj;exact⟨s0,r0⟩
 |1=>simp[En.av,AVal.cells]at hj;subst hj;exact⟨s1,r1⟩
 |2=>simp[En.av,AVal.cells]at hj;subst hj;exact⟨s2,r2⟩
 |3=>simp[En.av,AVal.cells]at hj;subst hj;exact⟨s3,r3⟩
 |4=>simp[En.av,AVal.cells]at hj;subst hj;exact⟨s4,r4⟩
 |j+5=>simp[En.av,AVal.cells]at hj
theorem kD{v:Value}{d:DataW H}{ps:List MemPlace}{r:Reach}{b0:Nat}(hval:Value.okWide Tryz.prog W r b0 23 v)(h:DataW.Trod enc Tryz.prog W 0 (fun _=>true) true 23 v d ps):∃es:List En,Rep W (lies0 W) [] (.sl 5 (es.map En.av)) v:=by
 obtain⟨n,hn⟩:=h
 obtain⟨l,h1,h2,_⟩:=fS (m:=5) (e:=48) En.av (by kernel_rfl) (by kernel_rfl) (by decide) (fun _=>rfl) (fun _=>rfl) (fun k _=>tu k) _ _ hn
 refine⟨l,?_⟩
 have h4:=(h2 0 _ rfl).2
 have hcs:v.cells.toList=[v]:=by
  have hu:Tryz.prog.underlying 23=some (.slice 48):=by kernel_rfl
  cases v with
  |agg a=>simp[Value.okWide,hu,Cell.okWide,Cell.ok]at hval
  |_=>rfl
 rw[hcs]at h4
 simpa using h4
end
end Go.Av
namespace Go.Av
open Go Go.Proofs Go.RowKit
attribute [local irreducible] WP WPl WPix Sat
variable (G:Nat→Option (List AVal))
theorem ll{h0 Z:Heap}{q v e:Nat}(l:List En)(hq:h0.length≤q)(hg:getRow Z q v=some (e,5,l.map En.av)):Frz Z h0.length (.hs q v 0 l.length true) (.sl 5 (l.map En.av)):=
 Frz.data hq hg (by simp) (fun r hr=>by obtain⟨x,_,rfl⟩:=List.mem_map.1 hr;exact x.clo _) (fun r hr=>by obtain⟨x,_,rfl⟩:=List.mem_map.1 hr;exact x.sto)
theorem cI(l:List En)(hl:l.length≤1048576)(h:Heap):Sat (CT G) 16 [.sl 5 (l.map En.av)] h (fun r h'=>r=.sl 5 ((onceF l).map En.av)∧h'=h):=by
 have ml:(l.map En.av).length=l.length:=List.length_map ..
 have hma:∀(m:ML Bs Int) (c:Nat) (j:Heap),mapAt (h++(.mp (encM .str iA m) c::j)) h.length=some (encM .str iA m,c):=fun m c j=>by simp[mapAt]
 have ia:∀n,iA n=.int .i64 n:=fun _=>rfl
 have F:=F2 ml hma
 refine sb [.tmp 2] (fn:=Tryz.f16) Tryz.func16 ?_
 intro Q hQ
 refine wk F ?_
 refine lm (fun nL tL hL=>∃(i v c:Nat) (m:ML Bs Int) (out:List En) (j:Heap),l.length-i=nL∧h++(.mp (encM .str iA m) c:: .row 48 5 v (out.map En.av)::j)=hL∧tL 3=.hs (h.length+1) v 0 out.length true∧tL 10=.int .i64 i∧i≤l.length∧out=onceF (l.take i)∧(∀g,((∃y∈out,y.guid=g)∧lkM m g=some 1)∨((∀y∈out,y.guid≠g)∧lkM m g=none))) ((fun(i v c:Nat) (m:ML Bs Int) (out:List En) (j:Heap)=>(l.length-i:Nat)) (0) (0) (0) ([]) ([]) ([])) ?_ ?_
 ·refine⟨_,_,Weak.virt 3 48 5 (by simp) (by omega) (by exact zq F),⟨0,0,0,[],[],[],rfl,ay,?_,?_,by omega,rfl,fun g=>.inr ⟨by simp,rfl⟩⟩⟩
  all_goals first|exact zq F|rfl|omega|trivial|skip
 rintro _ s2 h' ⟨i,v,c,m,out,j,rfl,rfl,e3,e10,hi,ho,hm⟩ K2 hK2
 simp only[ak,ao,Nat.reduceEqDiff, ↓reduceIte]at e3 e10
 have F:=F3 F e3 e10
 have hol:=dq (l.take i)
 rw[← ho,List.length_take]at hol
 by_cases c1:i<l.length
 ·obtain⟨x,hx,_⟩:=af c1
  have d1:=decide_eq_true c1
  have hst:=jT hx
  rw[← ho]at hst
  have mo:(out.map En.av).length=out.length:=List.length_map ..
  rcases hm x.guid with⟨⟨y,hy1,hy2⟩,hlk⟩| ⟨hn,hlk⟩
  ·have ha:out.any (fun y=>decide (y.guid=x.guid))=true:=List.any_eq_true.2 ⟨y,hy1,by simp[hy2]⟩
   unfold onceS at hst
   rw[if_pos ha]at hst
   have hg:(lkM m x.guid).getD 0=1:=by rw[hlk];rfl
   have q:decide ((1:Int)>0)=true:=rfl
   have F:=F6 F hx d1 hg q @ai
   try refine sq F ?_
   refine wk F ?_
   refine hK2 _ _ _ (Wkn.refl ⟨i+1,v,c,m,out,j++[.row 48 5 0 [x.av]],rfl,rfl,?_,?_,by omega,hst.symm,hm⟩) (by omega)
   all_goals first|exact zq F|rfl|omega|trivial|skip
  ·have ha:out.any (fun y=>decide (y.guid=x.guid))=false:=by
    cases hh:out.any (fun y=>decide (y.guid=x.guid))with
    |false=>rfl
    |true=>
     obtain⟨y,hy1,hy2⟩:=List.any_eq_true.1 hh
     exact absurd (by simpa using hy2) (hn y hy1)
   unfold onceS at hst
   rw[if_neg (by simp[ha])]at hst
   have hg:(lkM m x.guid).getD 0=0:=by rw[hlk];rfl
   have q:decide ((0:Int)>0)=false:=rfl
   have hm2:∀g,((∃y∈out++[x],y.guid=g)∧lkM (upM m c x.guid 1) g=some 1)∨((∀y∈out++[x],y.guid≠g)∧lkM (upM m c x.guid 1) g=none):=fun g=>by
    rw[qF]
    by_cases e:g=x.guid
    ·left
     rw[if_pos e]
     exact⟨⟨x,by simp,e.symm⟩,rfl⟩
    ·rw[if_neg e]
     rcases hm g with⟨⟨y,hy1,hy2⟩,k⟩| ⟨k1,k2⟩
     ·exact .inl ⟨⟨y,by simp[hy1],hy2⟩,k⟩
     ·refine .inr ⟨fun y hy=>?_,k2⟩
      rcases List.mem_append.1 hy with hy|hy
      ·exact k1 y hy
      ·rw[List.mem_singleton.1 hy];exact fun k=>e k.symm
   have F:=F7 F hx d1 hg q mo @ai
   try refine sq F ?_
   refine wk F ?_
   refine aq F ?_
   try refine sq F ?_
   refine wk F ?_
   refine hK2 _ _ _ (Wkn.refl ⟨i+1,v+1,ckM m c x.guid,upM m c x.guid 1,out++[x],j++[.row 48 5 0 [x.av]],rfl,by simp[En.av],?_,?_,by omega,hst.symm,hm2⟩) (by omega)
   all_goals first|exact zq F|rfl|omega|trivial|skip
 ·have d1:=decide_eq_false c1
  rw[List.take_of_length_le (by omega)]at ho
  have mo:(out.map En.av).length=out.length:=List.length_map ..
  have F:=F3 F d1 mo
  try refine sq F ?_
  refine wk F ?_
  refine ee hQ F ?_
  rw[← ho]
  exact Fin.frz (ll out (by omega) (by rw[fe _ rfl];show(if v=v then _ else _)=_;rw[if_pos rfl])) ⟨rfl,rfl⟩
end Go.Av
namespace Go.Av
open Go Go.Proofs Go.RowKit
def Cn:Nat→Elem→Prop
 |0,e=>e.text.length≤6000∧∀a∈e.attrs,a.2.length≤6000
 |k+1,e=>(e.text.length≤6000∧∀a∈e.attrs,a.2.length≤6000)∧∀x∈e.kids,Cn k x
theorem Cn.self{k:Nat}{e:Elem}(h:Cn k e):e.text.length≤6000∧∀a∈e.attrs,a.2.length≤6000:=by
 cases k with
 |zero=>exact h
 |succ k=>exact h.1
theorem dv:∀(a:List At) (l:Int),attrsC a l≤l
 | [],l=>by rw[attrsC];exact Int.le_refl _
 |a::r,l=>by
  have:=dv r (l-a.1.length-a.2.length)
  rw[attrsC];omega
theorem gN:∀(q:List At) (l:Int),∀a∈q,0<attrsC q l→(a.2.length:Int)≤l
 | [],l,a,h,_=>by cases h
 |b::r,l,a,h,hp=>by
  rw[attrsC]at hp
  have h1:=dv r (l-b.1.length-b.2.length)
  rcases List.mem_cons.1 h with rfl|h
  ·omega
  ·have:=gN r _ a h hp
   omega
theorem gO:∀(r:List Elem) (d:Nat) (l:Int),d<40→0<countL r d l→∀x∈r,∃l':Int,l'≤l∧0<countE x (d+1) l'
 | [],d,l,_,_,x,h=>by cases h
 |e::r,d,l,hd,hp,x,h=>by
  rw[countL]at hp
  by_cases c:0<l∧d<40
  ·rw[if_pos c]at hp
   have h1:=(bX r d (countE e (d+1) l)).2
   have h2:=(fg e (d+1) l).2
   rcases List.mem_cons.1 h with rfl|h
   ·exact⟨l,Int.le_refl _,by omega⟩
   ·obtain⟨l',a,b⟩:=gO r d _ hd hp x h
    exact⟨l',by omega,b⟩
  ·rw[if_neg c]at hp
   exact absurd ⟨hp,hd⟩ c
theorem tv:∀(k:Nat) (e:Elem) (d:Nat) (l:Int),d+k≤40→l≤6000→0<countE e d l→Cn k e:=by
 have self:∀(e:Elem) (d:Nat) (l:Int),l≤6000→0<countE e d l→e.text.length≤6000∧∀a∈e.attrs,a.2.length≤6000:=by
  intro e d l hl hp
  rw[ff]at hp
  have h1:=(bX e.kids d (attrsC e.attrs (l-1-e.text.length-e.name.length-e.attrs.length))).2
  have h2:=dv e.attrs (l-1-e.text.length-e.name.length-e.attrs.length)
  refine⟨by omega,fun a ha=>?_⟩
  have:=gN e.attrs (l-1-e.text.length-e.name.length-e.attrs.length) a ha (by omega)
  omega
 intro k
 induction k with
 |zero=>intro e d l _ hl hp;exact self e d l hl hp
 |succ k ih=>
  intro e d l hd hl hp
  refine⟨self e d l hl hp,fun x hx=>?_⟩
  rw[ff]at hp
  have h2:=dv e.attrs (l-1-e.text.length-e.name.length-e.attrs.length)
  obtain⟨l',a,b⟩:=gO e.kids d _ (by omega) hp x hx
  exact ih x (d+1) l' (by omega) (by omega) b
theorem Cn.kid{k:Nat}{e:Elem}(h:Cn (k+1) e)(n:Bs):Cn k (kidF e n).1:=by
 unfold kidF
 split
 ·cases k with
  |zero=>exact⟨Nat.zero_le _,fun a ha=>by cases ha⟩
  |succ k=>exact⟨⟨Nat.zero_le _,fun a ha=>by cases ha⟩,fun x hx=>by cases hx⟩
 ·rename_i x l hk
  have hm:x∈kidsF e n:=by rw[hk];simp
  exact h.2 x (List.mem_filter.1 hm).1
theorem Cn.kids{k:Nat}{e:Elem}(h:Cn (k+1) e){n:Bs}{x:Elem}(hx:x∈kidsF e n):Cn k x:=h.2 x (List.mem_filter.1 hx).1
theorem Cn.text{k:Nat}{e:Elem}(h:Cn (k+1) e)(n:Bs):(kidF e n).1.text.length≤100000:=by
 have:=(h.kid n).self.1
 omega
theorem gP:∀(l:List At) (n:Bs),(∀a∈l,a.2.length≤6000)→(attrF l n).1.length≤6000
 | [],n,_=>by rw[attrF];simp
 |a::l,n,h=>by
  rw[attrF]
  split
  ·exact h a (by simp)
  ·exact gP l n fun b hb=>h b (by simp[hb])
theorem Cn.href{k:Nat}{e:Elem}(h:Cn (k+1) e){n m:Bs}{x:Elem}(hx:x∈kidsF e n):(attrF x.attrs m).1.length≤100000:=by
 have:=gP x.attrs m (h.kids hx).self.2
 omega
end Go.Av
