/- Parts. -/
import Derived.Test.YtljohklbgahomaaGreatDoorMsTi
import Derived.Test.YtljohklbgahomaaGreatDoorMsRn
import Derived.Test.YtljohklbgahomaaGreatDoorMsGg
set_option linter.unusedSimpArgs false
set_option linter.unusedVariables false
set_option linter.unusedSectionVars false
set_option linter.unnecessarySimpa false
set_option maxRecDepth 100000
set_option maxHeartbeats 16000000
namespace Go.Av
open Go Go.Proofs Go.RowKit
def foldB:List Elem→List Elem→List Tok→Option (List Elem×List Elem)
 |os,ds,[]=>some (os,ds)
 |os,ds,t::ts=>(stepB os ds t).bind fun q=>foldB q.1 q.2 ts
def finB:Option (List Elem×List Elem)→Option Elem
 |some ([],[e])=>some e
 |_=>none
def clsB(st:List Elem)(e:Elem):List Elem×List Elem:=
 match st.getLast? with
 |none=>([],[e])
 |some p=>(st.dropLast++[⟨p.name,p.attrs,p.text,p.kids++[e]⟩],[])
theorem sE(os ds:List Elem):foldB os ds []=some (os,ds):=rfl
theorem cn(os ds:List Elem)(t:Tok)(ts:List Tok):foldB os ds (t::ts)=(stepB os ds t).bind fun q=>foldB q.1 q.2 ts:=rfl
theorem gV:∀(a b:List Tok) (os ds:List Elem),foldB os ds (a++b)=(foldB os ds a).bind fun q=>foldB q.1 q.2 b
 | [],b,os,ds=>rfl
 |t::a,b,os,ds=>by
  rw[K5,cn,cn];cases stepB os ds t with
  |none=>rfl
  |some q=>simp only[M7];exact gV a b q.1 q.2
theorem sF(st:List Elem)(p e:Elem):clsB (st++[p]) e=(st++[⟨p.name,p.attrs,p.text,p.kids++[e]⟩],[]):=by
 unfold clsB;simp
theorem uL:∀(f d:Nat) (st:List Elem) (n:Bs) (a:List At) (x:Bs) (k:List Elem) (ts:List Tok),ts.length<f→st.length+d=31→
  finB (foldB (st++[⟨n,a,x,k⟩]) [] ts)=(elL f d n a x k ts).bind fun q=>finB (foldB (clsB st q.1).1 (clsB st q.1).2 q.2):=by
 intro f;induction f with
 |zero=>intro d st n a x k ts h;omega
 |succ f ih=>
  intro d st n a x k ts hf hd;cases ts with
  |nil=>
   rw[im,sE];cases st<;>rfl
  |cons t ts=>
   simp only[G0]at hf;rw[bg,cn];have hlast:(st++[(⟨n,a,x,k⟩:Elem)]).getLast? =some ⟨n,a,x,k⟩:=(by simp);have hdrop:(st++[(⟨n,a,x,k⟩:Elem)]).dropLast=st:=(by simp);by_cases h3:t.1=3
   ·have e:stepB (st++[⟨n,a,x,k⟩]) [] t=some (st++[⟨n,a,x++t.2.2.2,k⟩],[]):=by
     unfold stepB;rw[G2 (by omega),G2 (by omega),G5 h3,hlast,hdrop];rfl
    rw[e,G5 h3,M7];exact ih d st n a (x++t.2.2.2) k ts (by omega) hd
   ·rw[G2 h3];by_cases h1:t.1=1
    ·rw[G5 h1];by_cases h0:d=0
     ·have e:stepB (st++[⟨n,a,x,k⟩]) [] t=none:=by
       unfold stepB;rw[G5 h1,G2];simp;omega
      rw[e,G5 h0];rfl
     ·have e:stepB (st++[⟨n,a,x,k⟩]) [] t=some ((st++[⟨n,a,x,k⟩])++[⟨t.2.1,t.2.2.1,[],[]⟩],[]):=by
       unfold stepB;rw[G5 h1,G5];simp;omega
      rw[e,G2 h0,M7];simp only[];rw[ih (d-1) (st++[Elem.mk n a x k]) t.2.1 t.2.2.1 [] [] ts (by omega) (by simp;omega)];cases hq:elL f (d-1) t.2.1 t.2.2.1 [] [] ts with
      |none=>rfl
      |some q=>
       have:=(ph _ _ _ _ _ _ _ _ hq).2;simp only[M7,sF];exact ih d st n a x (k++[q.1]) q.2 (by omega) hd
    ·rw[G2 h1];by_cases h2:t.1=2
     ·rw[G5 h2];by_cases hn:t.2.1=n
      ·have e:stepB (st++[⟨n,a,x,k⟩]) [] t=some (clsB st ⟨n,a,x,k⟩):=by
        unfold stepB;rw[G2 h1,G5 h2,hlast,hdrop];show(if n=t.2.1 then _ else _)=_;rw[G5 hn.symm];unfold clsB;cases st.getLast?<;>rfl
       rw[e,G5 hn];rfl
      ·have e:stepB (st++[⟨n,a,x,k⟩]) [] t=none:=by
        unfold stepB;rw[G2 h1,G5 h2,hlast];show(if n=t.2.1 then _ else _)=_;rw[G2 (Ne.symm hn)]
       rw[e,G2 hn];rfl
     ·have e:stepB (st++[⟨n,a,x,k⟩]) [] t=none:=by
       unfold stepB;rw[G2 h1,G2 h2,G2 h3]
      rw[e,G2 h2];rfl
theorem sG(ds:List Elem)(t:Tok)(h:ds≠ []):stepB [] ds t=if blankT t then some ([],ds)else none:=by
 unfold stepB blankT;by_cases h1:t.1=1
 ·rw[G5 h1,G2 (fun hc=>h hc.2),G2 (by simp[h1])]
 ·rw[G2 h1];by_cases h2:t.1=2
  ·rw[G5 h2,G2 (by simp[h2])];rfl
  ·rw[G2 h2];by_cases h3:t.1=3
   ·rw[G5 h3];simp[h3]
   ·rw[G2 h3,G2 (by simp[h3])]
theorem kO(e:Elem):∀ts:List Tok,finB (foldB [] [e] ts)=if ts.dropWhile blankT=[]then some e else none
 | []=>rfl
 |t::ts=>by
  rw[cn,sG _ _ (by simp),Q6];cases hb:blankT t with
  |true=>simp only[↓reduceIte,M7];exact kO e ts
  |false=>rfl
theorem gj:∀ts:List Tok,finB (foldB [] [] ts)=bldF ts
 | []=>rfl
 |t::ts=>by
  unfold bldF;rw[cn,Q6];cases hb:blankT t with
  |true=>
   have e:stepB [] [] t=some ([],[]):=by
    unfold blankT at hb;simp only[G1,beq_iff_eq]at hb;unfold stepB;rw[G2 (by omega),G2 (by omega),G5 hb.2];show(if _ then _ else _)=_;rw[G5 hb.1]
   rw[e];simp only[↓reduceIte,M7];exact gj ts
  |false=>
   simp only[I4, ↓reduceIte];rw[mL];by_cases h1:t.1=1
   ·have e:stepB [] [] t=some ([⟨t.2.1,t.2.2.1,[],[]⟩],[]):=by
     unfold stepB;rw[G5 h1,G5 (by simp)];rfl
    rw[e,G5 h1,G2 (by omega),M7];have:=uL (ts.length+1) 31 [] t.2.1 t.2.2.1 [] [] ts (by omega) rfl;rw[J6]at this;rw[this];show Option.bind (elL (ts.length+1) 31 _ _ _ _ ts) _=Option.bind (elL (ts.length+1) 31 _ _ _ _ ts) _;congr 1
    funext q
    exact kO q.1 q.2
   ·rw[G2 h1];have e:stepB [] [] t=none:=by
     unfold blankT at hb;unfold stepB;rw[G2 h1];by_cases h2:t.1=2
     ·rw[G5 h2];rfl
     ·rw[G2 h2];by_cases h3:t.1=3
      ·rw[G5 h3];show(if _ then _ else _)=_;rw[G2 (by simpa [h3]using hb)]
      ·rw[G2 h3]
    rw[e];rfl
theorem iO{l:List Elem}{e:Elem}(h:l.getLast? =some e):szs Elem.sz l=szs Elem.sz l.dropLast+e.sz:=by
 rcases P9 l with rfl| ⟨m,o,rfl⟩
 ·cases h
 ·rw[Q0]at*;simp at h;subst h;simp[ca,szs]
theorem sH(t:Tok):Tok.sz t=1+t.2.1.length+szs At.sz t.2.2.1+t.2.2.2.length:=rfl
theorem er(n:Bs)(a:List At)(x:Bs)(k:List Elem):(Elem.mk n a x k).sz=1+n.length+szs At.sz a+x.length+szs Elem.sz k:=Elem.sz_eq _
theorem uM{os ds:List Elem}{t:Tok}{q:List Elem×List Elem}(h:stepB os ds t=some q):
  szs Elem.sz q.1+szs Elem.sz q.2≤szs Elem.sz os+szs Elem.sz ds+Tok.sz t∧(os.length≤32→q.1.length≤32):=by
 have ht:=sH t;unfold stepB at h;split at h
 ·split at h
  ·rename_i h1 h2;cases h;refine⟨?_,fun _=>by simp;omega⟩;simp only[ca,szs,er,G8];omega
  ·cases h
 ·split at h
  ·split at h
   ·cases h
   ·rename_i e he;have h1:=iO he;split at h
    ·split at h
     ·rename_i hn;cases h;refine⟨?_,fun _=>by simp⟩;simp only[ca,szs];omega
     ·rename_i p hp;cases h;have h2:=iO hp;have h3:=Elem.sz_eq p;refine⟨?_,fun hl=>by simp[List.length_dropLast];omega⟩;simp only[ca,szs,er];omega
    ·cases h
  ·split at h
   ·split at h
    ·split at h
     ·cases h;refine⟨?_,fun _=>by simp⟩;simp only[szs];omega
     ·cases h
    ·rename_i e he;cases h;have h1:=iO he;have h3:=Elem.sz_eq e;have hne:os≠ []:=(by rintro rfl;cases he);have hl0:0<os.length:=N6.2 hne;refine⟨?_,fun hl=>by simp[List.length_dropLast];omega⟩;simp only[ca,szs,er,G4];omega
   ·cases h
theorem iP:∀(ts:List Tok) (os ds:List Elem) (q:List Elem×List Elem),foldB os ds ts=some q→
  szs Elem.sz q.1+szs Elem.sz q.2≤szs Elem.sz os+szs Elem.sz ds+szs Tok.sz ts∧(os.length≤32→q.1.length≤32)
 | [],os,ds,q,h=>by cases h;exact⟨by simp[szs],id⟩
 |t::ts,os,ds,q,h=>by
  rw[cn]at h;obtain⟨p,hp,h⟩:=Q2.1 h;have h1:=uM hp;have h2:=iP ts p.1 p.2 q h;rw[szs];exact⟨by omega,fun hl=>h2.2 (h1.2 hl)⟩
theorem wl{ts:List Tok}{e:Elem}(h:bldF ts=some e):e.sz≤szs Tok.sz ts:=by
 rw[← gj]at h;cases hq:foldB [] [] ts with
 |none=>rw[hq]at h;cases h
 |some q=>
  rw[hq]at h;have:=(iP ts [] [] q hq).1;obtain⟨a,b⟩:=q
  match a,b,h with
  | [],[x],h=>cases h;simpa [szs]using this
def shortF(s:Bs)(n:Nat):Bs:=cleanF (cutF (cleanF s) n)
def orF(a b c:Bs):Bs:=if a≠ []then a else if b≠ []then b else c
def bTitle:Bs:=[116,105,116,108,101]
theorem uN(s:Bs)(n:Nat):(cutF s n).length≤n∧(cutF s n).length≤s.length:=by
 have:=vP s s.length 0 n (by omega);unfold cutA at this;simp only[P4]at this;unfold cutF;rw[I6];omega
def textO(s:Bs)(m:Nat):Bool:=decide (s.length≤m)&&rightS s&&decide (cleanF s=s)
structure En where
 guid:Bs
 title:Bs
 link:Bs
 date:Int
 dated:Bool
def En.av(x:En):AVal:=.agg [.str x.guid,.str x.title,.str x.link,.int .i64 x.date,.bool x.dated]
@[go_sem] theorem En.av_eq(x:En):x.av=.agg [.str x.guid,.str x.title,.str x.link,.int .i64 x.date,.bool x.dated]:=(rfl)
theorem En.clo(n:Nat)(x:En):Clo n x.av:=.agg _ fun c hc=>by
 simp only[J5,O3,or_false]at hc;rcases hc with rfl|rfl|rfl|rfl|rfl<;>first|exact .str _|exact .int _ _|exact .bool _
theorem En.sto(x:En):∀c∈x.av.cells,c.sto=true:=by
 intro c hc;simp[En.av,AVal.cells]at hc;rcases hc with rfl|rfl|rfl|rfl|rfl<;>rfl
structure Fd where
 title:Bs
 link:Bs
 es:List En
def Fd.av(d:Fd):AVal:=.agg [.str d.title,.str d.link,.sl 5 (d.es.map En.av)]
def onceS(out:List En)(x:En):List En:=if out.any (fun y=>decide (y.guid=x.guid))then out else out++[x]
def onceF(l:List En):List En:=l.foldl onceS []
theorem mM{l:List En}{i:Nat}{x:En}(h:l[i]? =some x):onceF (l.take (i+1))=onceS (onceF (l.take i)) x:=by
 unfold onceF;rw[M8,h,List.foldl_append];rfl
theorem gW(l:List En):(onceF l).length≤l.length:=by
 have key:∀(l out:List En),(l.foldl onceS out).length≤out.length+l.length:=by
  intro l;induction l with
  |nil=>intro out;simp
  |cons x l ih=>
   intro out;have:=ih (onceS out x);have h2:(onceS out x).length≤out.length+1:=(by unfold onceS;split<;>simp);rw[List.foldl_cons,G0];omega
 have k:=key l [];rw[G8,L0]at k;exact k
def anyF(s:Bs):Option Int:=match webR s with
 |some n=>some n
 |none=>mailR s
def fieldF(e:Elem)(n:Bs)(m:Nat):Bs:=shortF (kidF e n).1.text m
def momE(f:Bs→Option Int)(e:Elem)(n:Bs):Option Int:=if (kidF e n).2 then f (cleanF (kidF e n).1.text)else none
def momL(f:Bs→Option Int)(e:Elem):List Bs→Option Int
 | []=>none
 |n::l=>match momE f e n with
  |some v=>some v
  |none=>momL f e l
def mkE(g t l:Bs)(m:Option Int):Option En:=if g=[]then none else some ⟨g,t,l,m.getD 0,m.isSome⟩
def bLink:Bs:=[108,105,110,107]
def bGuid:Bs:=[103,117,105,100]
def bPub:Bs:=[112,117,98,68,97,116,101]
def bDate:Bs:=[100,97,116,101]
def bId:Bs:=[105,100]
def bHref:Bs:=[104,114,101,102]
def bRel:Bs:=[114,101,108]
def bAlt:Bs:=[97,108,116,101,114,110,97,116,101]
def bUpd:Bs:=[117,112,100,97,116,101,100]
def bPubl:Bs:=[112,117,98,108,105,115,104,101,100]
def bIss:Bs:=[105,115,115,117,101,100]
def bChan:Bs:=[99,104,97,110,110,101,108]
def bItem:Bs:=[105,116,101,109]
def bRss:Bs:=[114,115,115]
def bFeed:Bs:=[102,101,101,100]
def bEntry:Bs:=[101,110,116,114,121]
def entR(e:Elem):Option En:=mkE (orF (fieldF e bGuid 512) (fieldF e bLink 512) (fieldF e bTitle 256)) (fieldF e bTitle 256) (fieldF e bLink 512) (momL anyF e [bPub,bDate])
def linkP(k:Elem):Bool:=(attrF k.attrs bHref).2&&(!(attrF k.attrs bRel).2||decide ((attrF k.attrs bRel).1=bAlt))
def linkA(e:Elem):Bs:=match (kidsF e bLink).find? linkP with
 |some k=>shortF (attrF k.attrs bHref).1 512
 |none=>[]
def entA(e:Elem):Option En:=mkE (orF (fieldF e bId 512) (linkA e) (fieldF e bTitle 256)) (fieldF e bTitle 256) (linkA e) (momL webR e [bUpd,bPubl,bIss])
def entsF(f:Elem→Option En)(l:List Elem):List En:=(l.filterMap f).take 256
def rssF(e:Elem):Option Fd:=if (kidF e bChan).2&&decide (short e.name=bRss)then some ⟨fieldF (kidF e bChan).1 bTitle 256,fieldF (kidF e bChan).1 bLink 512,entsF entR (kidsF (kidF e bChan).1 bItem)⟩else none
def atomF(e:Elem):Option Fd:=if short e.name=bFeed then some ⟨fieldF e bTitle 256,linkA e,entsF entA (kidsF e bEntry)⟩else none
def ofE(e:Elem):Option Fd:=(match rssF e with
 |some d=>some d
 |none=>atomF e).map fun d:Fd=>⟨d.title,d.link,onceF d.es⟩
end Go.Av
namespace Go.Av
open Go Go.Proofs Go.RowKit Go.ChangeShapes Go.WideShapes
section
variable {H:Type} {enc:TypeId×Value→H} {W:World}
theorem zO(n:Nat):Rd H enc Tryz.prog W n 48 (fun e:En=>e.av.cells) (fun _=>0):=fun cs x h=>by
 obtain⟨ds,n',rfl,hx,hcl,hdl,hf⟩:=km (fs:=[9,9,9,3,4]) (by kernel_rfl) h;obtain⟨y0,d0,t0⟩:=hf 0 _ rfl;obtain⟨y1,d1,t1⟩:=hf 1 _ rfl;obtain⟨y2,d2,t2⟩:=hf 2 _ rfl;obtain⟨y3,d3,t3⟩:=hf 3 _ rfl;obtain⟨y4,d4,t4⟩:=hf 4 _ rfl;obtain⟨a0,s0,r0,_⟩:=cG (mk:=fun s:Bs=>.str s) (gK (by kernel_rfl)) t0;obtain⟨a1,s1,r1,_⟩:=cG (mk:=fun s:Bs=>.str s) (gK (by kernel_rfl)) t1;obtain⟨a2,s2,r2,_⟩:=cG (mk:=fun s:Bs=>.str s) (gK (by kernel_rfl)) t2;obtain⟨a3,s3,r3,_⟩:=cG (mk:=fun i: {i:Int//(Lit.int .i64 i).wf=true}=>.int .i64 i.1) (xp (by kernel_rfl)) t3;obtain⟨a4,s4,r4,_⟩:=cG (mk:=fun b:Bool=>.bool b) (vF (by kernel_rfl)) t4;refine⟨⟨a0,a1,a2,a3.1,a4⟩,by rw[hcl];rfl,fun j c hj=>?_,Nat.zero_le _⟩
 match j with
 |0=>simp[En.av,AVal.cells]at hj;subst hj;exact⟨s0,r0⟩
 |1=>simp[En.av,AVal.cells]at hj;subst hj;exact⟨s1,r1⟩
 |2=>simp[En.av,AVal.cells]at hj;subst hj;exact⟨s2,r2⟩
 |3=>simp[En.av,AVal.cells]at hj;subst hj;exact⟨s3,r3⟩
 |4=>simp[En.av,AVal.cells]at hj;subst hj;exact⟨s4,r4⟩
 |j+5=>simp[En.av,AVal.cells]at hj
end
section
variable {H:Type} {enc:TypeId×Value→H} {W:World}
theorem zP(n:Nat):Rd H enc Tryz.prog W n 25 (fun d:Fd=>d.av.cells) (fun _=>0):=fun cs x h=>by
 obtain⟨ds,n',rfl,hx,hcl,hdl,hf⟩:=km (fs:=[9,9,23]) (by kernel_rfl) h;obtain⟨y0,d0,t0⟩:=hf 0 _ rfl;obtain⟨y1,d1,t1⟩:=hf 1 _ rfl;obtain⟨y2,d2,t2⟩:=hf 2 _ rfl;obtain⟨a0,s0,r0,_⟩:=cG (mk:=fun s:Bs=>.str s) (gK (by kernel_rfl)) t0;obtain⟨a1,s1,r1,_⟩:=cG (mk:=fun s:Bs=>.str s) (gK (by kernel_rfl)) t1;obtain⟨a2,s2,r2,_⟩:=cG (mk:=fun l:List En=>.sl 5 (l.map En.av)) (tK (m:=5) (e:=48) En.av (by kernel_rfl) (by kernel_rfl) (by decide) (fun _=>rfl) (fun _=>rfl) fun k _=>zO k) t2;refine⟨⟨a0,a1,a2⟩,by rw[hcl];rfl,fun j c hj=>?_,Nat.zero_le _⟩
 match j with
 |0=>simp[Fd.av,AVal.cells]at hj;subst hj;exact⟨s0,r0⟩
 |1=>simp[Fd.av,AVal.cells]at hj;subst hj;exact⟨s1,r1⟩
 |2=>simp[Fd.av,AVal.cells]at hj;subst hj;exact⟨s2,r2⟩
 |j+3=>simp[Fd.av,AVal.cells]at hj
theorem qA{v:Value}{d:DataW H}{ps:List MemPlace}(h:DataW.Trod enc Tryz.prog W 0 (fun _=>true) true 25 v d ps):∃e:Fd,Rep W (lies0 W) [] e.av v:=by
 obtain⟨n,hn⟩:=h;obtain⟨e,h1,h2,_⟩:=zP n _ _ hn
 change e.av.cells.length=_ at h1
 refine⟨e,?_⟩;have hc:e.av.cells=[.str e.title,.str e.link,.sl 5 (e.es.map En.av)]:=rfl;have hl:v.cells.size=3:=by rw[hc]at h1;simpa using h1.symm
 have hv:∃a,v=.agg a:=by
  cases v with
  |agg a=>exact⟨a,rfl⟩
  |_=>simp[Value.cells]at hl
 obtain⟨a,rfl⟩:=hv;have:=lV (vs:=a.toList) (x:=e.av) (cs:=[.str e.title,.str e.link,.sl 5 (e.es.map En.av)]) rfl (by simpa [Value.cells]using hl.symm) (fun j c hj=>by have:=h2 j c (by show e.av.cells[j]? =some c;rw[hc];exact hj);simpa [Value.cells]using this);simpa using this
end
end Go.Av
namespace Go.Av
open Go Go.Proofs Go.RowKit
attribute [local irreducible] WP WPl WPix Sat
variable (G:Nat→Option (List AVal))
theorem pi{h0 Z:Heap}{q v e:Nat}(l:List En)(hq:h0.length≤q)(hg:getRow Z q v=some (e,5,l.map En.av)):Frz Z h0.length (.hs q v 0 l.length true) (.sl 5 (l.map En.av)):=
 Frz.data hq hg (by simp) (fun r hr=>by obtain⟨x,_,rfl⟩:=K6.1 hr;exact x.clo _) (fun r hr=>by obtain⟨x,_,rfl⟩:=K6.1 hr;exact x.sto)
theorem dN(l:List En)(hl:l.length≤1048576)(h:Heap):Sat (CT G) 16 [.sl 5 (l.map En.av)] h (fun r h'=>r=.sl 5 ((onceF l).map En.av)∧h'=h):=by
 have ml:(l.map En.av).length=l.length:=I7 ..;have hma:∀(m:ML Bs Int) (c:Nat) (j:Heap),mapAt (h++(.mp (encM .str iA m) c::j)) h.length=some (encM .str iA m,c):=fun m c j=>by simp[mapAt]
 have ia:∀n,iA n=.int .i64 n:=fun _=>rfl
 have F:=F2 ml hma;refine sb [.tmp 2] Tryz.func16 ?_;intro Q hQ;refine wk F ?_;refine lm (fun nL tL hL=>∃(i v c:Nat) (m:ML Bs Int) (out:List En) (j:Heap),l.length-i=nL∧h++(.mp (encM .str iA m) c:: .row 48 5 v (out.map En.av)::j)=hL∧tL 3=.hs (h.length+1) v 0 out.length true∧tL 10=.int .i64 i∧i≤l.length∧out=onceF (l.take i)∧(∀g,((∃y∈out,y.guid=g)∧lkM m g=some 1)∨((∀y∈out,y.guid≠g)∧lkM m g=none))) ((fun(i v c:Nat) (m:ML Bs Int) (out:List En) (j:Heap)=>(l.length-i:Nat)) (0) (0) (0) ([]) ([]) ([])) ?_ ?_
 ·refine⟨_,_,Weak.virt 3 48 5 (by simp) (by omega) (by exact zq F),⟨0,0,0,[],[],[],rfl,aw,?_,?_,by omega,rfl,fun g=>.inr ⟨by simp,rfl⟩⟩⟩;all_goals try exact zZz F
 rintro _ s2 h' ⟨i,v,c,m,out,j,rfl,rfl,e3,e10,hi,ho,hm⟩ K2 hK2;simp only[am,ar,Nat.reduceEqDiff, ↓reduceIte]at e3 e10;have F:=F3 F e3 e10;have hol:=gW (l.take i);rw[← ho,I6]at hol;by_cases c1:i<l.length
 ·obtain⟨x,hx,_⟩:=aj c1;have d1:=H0 c1;have hst:=mM hx;rw[← ho]at hst;have mo:(out.map En.av).length=out.length:=I7 ..;rcases hm x.guid with⟨⟨y,hy1,hy2⟩,hlk⟩| ⟨hn,hlk⟩
  ·have ha:out.any (fun y=>decide (y.guid=x.guid))=true:=U6.2 ⟨y,hy1,by simp[hy2]⟩;unfold onceS at hst;rw[G5 ha]at hst;have hg:(lkM m x.guid).getD 0=1:=(by rw[hlk];rfl);have q:decide ((1:Int)>0)=true:=rfl;have F:=F6 F hx d1 hg q @ak;(try refine sq F ?_);refine wk F ?_;refine hK2 _ _ _ (H5 ⟨i+1,v,c,m,out,j++[.row 48 5 0 [x.av]],rfl,rfl,?_,?_,by omega,hst.symm,hm⟩) (by omega);all_goals try exact zZz F
  ·have ha:out.any (fun y=>decide (y.guid=x.guid))=false:=by
    cases hh:out.any (fun y=>decide (y.guid=x.guid))with
    |false=>rfl
    |true=>
     obtain⟨y,hy1,hy2⟩:=U6.1 hh;exact absurd (by simpa using hy2) (hn y hy1)
   unfold onceS at hst;rw[G2 (by simp[ha])]at hst;have hg:(lkM m x.guid).getD 0=0:=(by rw[hlk];rfl);have q:decide ((0:Int)>0)=false:=rfl;have hm2:∀g,((∃y∈out++[x],y.guid=g)∧lkM (upM m c x.guid 1) g=some 1)∨((∀y∈out++[x],y.guid≠g)∧lkM (upM m c x.guid 1) g=none):=fun g=>by
    rw[xi];by_cases e:g=x.guid
    ·left;rw[G5 e];exact⟨⟨x,by simp,e.symm⟩,rfl⟩
    ·rw[G2 e];rcases hm g with⟨⟨y,hy1,hy2⟩,k⟩| ⟨k1,k2⟩
     ·exact .inl ⟨⟨y,by simp[hy1],hy2⟩,k⟩
     ·refine .inr ⟨fun y hy=>?_,k2⟩;rcases U0.1 hy with hy|hy
      ·exact k1 y hy
      ·rw[L8.1 hy];exact fun k=>e k.symm
   have F:=F7 F hx d1 hg q mo @ak;(try refine sq F ?_);refine wk F ?_;refine aq F ?_;(try refine sq F ?_);refine wk F ?_;refine hK2 _ _ _ (H5 ⟨i+1,v+1,ckM m c x.guid,upM m c x.guid 1,out++[x],j++[.row 48 5 0 [x.av]],rfl,by simp[En.av],?_,?_,by omega,hst.symm,hm2⟩) (by omega);all_goals try exact zZz F
 ·have d1:=H3 c1;rw[H9 (by omega)]at ho;have mo:(out.map En.av).length=out.length:=I7 ..;have F:=F3 F d1 mo;try refine sq F ?_
  refine wk F ?_;refine ee hQ F ?_;rw[← ho];exact U9 (pi out (by omega) (by rw[jd _ rfl];show(if v=v then _ else _)=_;rw[G5 rfl])) ⟨rfl,rfl⟩
end Go.Av
namespace Go.Av
open Go Go.Proofs Go.RowKit
end Go.Av
