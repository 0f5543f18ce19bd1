/- Parts. -/
import Derived.Test.YtljohklbgahomaaGreatDoorMrRn
import Derived.Test.YtljohklbgahomaaGreatDoorMrEx7
import Derived.Test.YtljohklbgahomaaGreatDoorMrDj
set_option linter.unusedSimpArgs false
set_option linter.unusedVariables false
set_option linter.unusedSectionVars false
set_option linter.unnecessarySimpa false
set_option maxRecDepth 100000
set_option maxHeartbeats 16000000
namespace Go.Av
open Go Go.Proofs Go.RowKit
def foldB:List Elem→List Elem→List Tok→Option (List Elem×List Elem)
 |os,ds,[]=>some (os,ds)
 |os,ds,t::ts=>(stepB os ds t).bind fun q=>foldB q.1 q.2 ts
def finB:Option (List Elem×List Elem)→Option Elem
 |some ([],[e])=>some e
 |_=>none
def clsB(st:List Elem)(e:Elem):List Elem×List Elem:=
 match st.getLast? with
 |none=>([],[e])
 |some p=>(st.dropLast++[⟨p.name,p.attrs,p.text,p.kids++[e]⟩],[])
theorem rA(os ds:List Elem):foldB os ds []=some (os,ds):=rfl
theorem cm(os ds:List Elem)(t:Tok)(ts:List Tok):foldB os ds (t::ts)=(stepB os ds t).bind fun q=>foldB q.1 q.2 ts:=rfl
theorem gD:∀(a b:List Tok) (os ds:List Elem),foldB os ds (a++b)=(foldB os ds a).bind fun q=>foldB q.1 q.2 b
 | [],b,os,ds=>rfl
 |t::a,b,os,ds=>by
  rw[J8,cm,cm];cases stepB os ds t with
  |none=>rfl
  |some q=>simp only[L6];exact gD a b q.1 q.2
theorem rB(st:List Elem)(p e:Elem):clsB (st++[p]) e=(st++[⟨p.name,p.attrs,p.text,p.kids++[e]⟩],[]):=by
 unfold clsB;simp
theorem tS:∀(f d:Nat) (st:List Elem) (n:Bs) (a:List At) (x:Bs) (k:List Elem) (ts:List Tok),ts.length<f→st.length+d=31→
  finB (foldB (st++[⟨n,a,x,k⟩]) [] ts)=(elL f d n a x k ts).bind fun q=>finB (foldB (clsB st q.1).1 (clsB st q.1).2 q.2):=by
 intro f;induction f with
 |zero=>intro d st n a x k ts h;omega
 |succ f ih=>
  intro d st n a x k ts hf hd;cases ts with
  |nil=>
   rw[gX,rA];cases st<;>rfl
  |cons t ts=>
   simp only[E2]at hf;rw[bf,cm];have hlast:(st++[(⟨n,a,x,k⟩:Elem)]).getLast? =some ⟨n,a,x,k⟩:=(by simp);have hdrop:(st++[(⟨n,a,x,k⟩:Elem)]).dropLast=st:=(by simp);by_cases h3:t.1=3
   ·have e:stepB (st++[⟨n,a,x,k⟩]) [] t=some (st++[⟨n,a,x++t.2.2.2,k⟩],[]):=by
     unfold stepB;rw[E4 (by omega),E4 (by omega),E8 h3,hlast,hdrop];rfl
    rw[e,E8 h3,L6];exact ih d st n a (x++t.2.2.2) k ts (by omega) hd
   ·rw[E4 h3];by_cases h1:t.1=1
    ·rw[E8 h1];by_cases h0:d=0
     ·have e:stepB (st++[⟨n,a,x,k⟩]) [] t=none:=by
       unfold stepB;rw[E8 h1,E4];simp;omega
      rw[e,E8 h0];rfl
     ·have e:stepB (st++[⟨n,a,x,k⟩]) [] t=some ((st++[⟨n,a,x,k⟩])++[⟨t.2.1,t.2.2.1,[],[]⟩],[]):=by
       unfold stepB;rw[E8 h1,E8];simp;omega
      rw[e,E4 h0,L6];simp only[];rw[ih (d-1) (st++[Elem.mk n a x k]) t.2.1 t.2.2.1 [] [] ts (by omega) (by simp;omega)];cases hq:elL f (d-1) t.2.1 t.2.2.1 [] [] ts with
      |none=>rfl
      |some q=>
       have:=(oc _ _ _ _ _ _ _ _ hq).2;simp only[L6,rB];exact ih d st n a x (k++[q.1]) q.2 (by omega) hd
    ·rw[E4 h1];by_cases h2:t.1=2
     ·rw[E8 h2];by_cases hn:t.2.1=n
      ·have e:stepB (st++[⟨n,a,x,k⟩]) [] t=some (clsB st ⟨n,a,x,k⟩):=by
        unfold stepB;rw[E4 h1,E8 h2,hlast,hdrop];show(if n=t.2.1 then _ else _)=_;rw[E8 hn.symm];unfold clsB;cases st.getLast?<;>rfl
       rw[e,E8 hn];rfl
      ·have e:stepB (st++[⟨n,a,x,k⟩]) [] t=none:=by
        unfold stepB;rw[E4 h1,E8 h2,hlast];show(if n=t.2.1 then _ else _)=_;rw[E4 (Ne.symm hn)]
       rw[e,E4 hn];rfl
     ·have e:stepB (st++[⟨n,a,x,k⟩]) [] t=none:=by
       unfold stepB;rw[E4 h1,E4 h2,E4 h3]
      rw[e,E4 h2];rfl
theorem rC(ds:List Elem)(t:Tok)(h:ds≠ []):stepB [] ds t=if blankT t then some ([],ds)else none:=by
 unfold stepB blankT;by_cases h1:t.1=1
 ·rw[E8 h1,E4 (fun hc=>h hc.2),E4 (by simp[h1])]
 ·rw[E4 h1];by_cases h2:t.1=2
  ·rw[E8 h2,E4 (by simp[h2])];rfl
  ·rw[E4 h2];by_cases h3:t.1=3
   ·rw[E8 h3];simp[h3]
   ·rw[E4 h3,E4 (by simp[h3])]
theorem kr(e:Elem):∀ts:List Tok,finB (foldB [] [e] ts)=if ts.dropWhile blankT=[]then some e else none
 | []=>rfl
 |t::ts=>by
  rw[cm,rC _ _ (by simp),P5];cases hb:blankT t with
  |true=>simp only[↓reduceIte,L6];exact kr e ts
  |false=>rfl
theorem fQ:∀ts:List Tok,finB (foldB [] [] ts)=bldF ts
 | []=>rfl
 |t::ts=>by
  unfold bldF;rw[cm,P5];cases hb:blankT t with
  |true=>
   have e:stepB [] [] t=some ([],[]):=by
    unfold blankT at hb;simp only[E3,beq_iff_eq]at hb;unfold stepB;rw[E4 (by omega),E4 (by omega),E8 hb.2];show(if _ then _ else _)=_;rw[E8 hb.1]
   rw[e];simp only[↓reduceIte,L6];exact fQ ts
  |false=>
   simp only[G9, ↓reduceIte];rw[m7];by_cases h1:t.1=1
   ·have e:stepB [] [] t=some ([⟨t.2.1,t.2.2.1,[],[]⟩],[]):=by
     unfold stepB;rw[E8 h1,E8 (by simp)];rfl
    rw[e,E8 h1,E4 (by omega),L6];have:=tS (ts.length+1) 31 [] t.2.1 t.2.2.1 [] [] ts (by omega) rfl;rw[I7]at this;rw[this];show Option.bind (elL (ts.length+1) 31 _ _ _ _ ts) _=Option.bind (elL (ts.length+1) 31 _ _ _ _ ts) _;congr 1
    funext q
    exact kr q.1 q.2
   ·rw[E4 h1];have e:stepB [] [] t=none:=by
     unfold blankT at hb;unfold stepB;rw[E4 h1];by_cases h2:t.1=2
     ·rw[E8 h2];rfl
     ·rw[E4 h2];by_cases h3:t.1=3
      ·rw[E8 h3];show(if _ then _ else _)=_;rw[E4 (by simpa [h3]using hb)]
      ·rw[E4 h3]
    rw[e];rfl
theorem iy{l:List Elem}{e:Elem}(h:l.getLast? =some e):szs Elem.sz l=szs Elem.sz l.dropLast+e.sz:=by
 rcases O6 l with rfl| ⟨m,o,rfl⟩
 ·cases h
 ·rw[O7]at*;simp at h;subst h;simp[c8,szs]
theorem rD(t:Tok):Tok.sz t=1+t.2.1.length+szs At.sz t.2.2.1+t.2.2.2.length:=rfl
theorem dL(n:Bs)(a:List At)(x:Bs)(k:List Elem):(Elem.mk n a x k).sz=1+n.length+szs At.sz a+x.length+szs Elem.sz k:=Elem.sz_eq _
theorem tT{os ds:List Elem}{t:Tok}{q:List Elem×List Elem}(h:stepB os ds t=some q):
  szs Elem.sz q.1+szs Elem.sz q.2≤szs Elem.sz os+szs Elem.sz ds+Tok.sz t∧(os.length≤32→q.1.length≤32):=by
 have ht:=rD t;unfold stepB at h;split at h
 ·split at h
  ·rename_i h1 h2;cases h;refine⟨?_,fun _=>by simp;omega⟩;simp only[c8,szs,dL,E9];omega
  ·cases h
 ·split at h
  ·split at h
   ·cases h
   ·rename_i e he;have h1:=iy he;split at h
    ·split at h
     ·rename_i hn;cases h;refine⟨?_,fun _=>by simp⟩;simp only[c8,szs];omega
     ·rename_i p hp;cases h;have h2:=iy hp;have h3:=Elem.sz_eq p;refine⟨?_,fun hl=>by simp[List.length_dropLast];omega⟩;simp only[c8,szs,dL];omega
    ·cases h
  ·split at h
   ·split at h
    ·split at h
     ·cases h;refine⟨?_,fun _=>by simp⟩;simp only[szs];omega
     ·cases h
    ·rename_i e he;cases h;have h1:=iy he;have h3:=Elem.sz_eq e;have hne:os≠ []:=(by rintro rfl;cases he);have hl0:0<os.length:=M7.2 hne;refine⟨?_,fun hl=>by simp[List.length_dropLast];omega⟩;simp only[c8,szs,dL,E5];omega
   ·cases h
theorem iz:∀(ts:List Tok) (os ds:List Elem) (q:List Elem×List Elem),foldB os ds ts=some q→
  szs Elem.sz q.1+szs Elem.sz q.2≤szs Elem.sz os+szs Elem.sz ds+szs Tok.sz ts∧(os.length≤32→q.1.length≤32)
 | [],os,ds,q,h=>by cases h;exact⟨by simp[szs],id⟩
 |t::ts,os,ds,q,h=>by
  rw[cm]at h;obtain⟨p,hp,h⟩:=Q0.1 h;have h1:=tT hp;have h2:=iz ts p.1 p.2 q h;rw[szs];exact⟨by omega,fun hl=>h2.2 (h1.2 hl)⟩
theorem v8{ts:List Tok}{e:Elem}(h:bldF ts=some e):e.sz≤szs Tok.sz ts:=by
 rw[← fQ]at h;cases hq:foldB [] [] ts with
 |none=>rw[hq]at h;cases h
 |some q=>
  rw[hq]at h;have:=(iz ts [] [] q hq).1;obtain⟨a,b⟩:=q
  match a,b,h with
  | [],[x],h=>cases h;simpa [szs]using this
def shortF(s:Bs)(n:Nat):Bs:=cleanF (cutF (cleanF s) n)
def orF(a b c:Bs):Bs:=if a≠ []then a else if b≠ []then b else c
def bTitle:Bs:=[116,105,116,108,101]
theorem m8(s:Bs)(n:Nat):(cutF s n).length≤n∧(cutF s n).length≤s.length:=by
 have:=uT s s.length 0 n (by omega);unfold cutA at this;simp only[N8]at this;unfold cutF;rw[I0];omega
def textO(s:Bs)(m:Nat):Bool:=decide (s.length≤m)&&rightS s&&decide (cleanF s=s)
structure En where
 guid:Bs
 title:Bs
 link:Bs
 date:Int
 dated:Bool
def En.av(x:En):AVal:=.agg [.str x.guid,.str x.title,.str x.link,.int .i64 x.date,.bool x.dated]
@[go_sem] theorem En.av_eq(x:En):x.av=.agg [.str x.guid,.str x.title,.str x.link,.int .i64 x.date,.bool x.dated]:=(rfl)
theorem En.clo(n:Nat)(x:En):Clo n x.av:=.agg _ fun c hc=>by
 simp only[I2,M5,or_false]at hc;rcases hc with rfl|rfl|rfl|rfl|rfl<;>first|exact .str _|exact .int _ _|exact .bool _
theorem En.sto(x:En):∀c∈x.av.cells,c.sto=true:=by
 intro c hc;simp[En.av,AVal.cells]at hc;rcases hc with rfl|rfl|rfl|rfl|rfl<;>rfl
structure Fd where
 title:Bs
 link:Bs
 es:List En
def Fd.av(d:Fd):AVal:=.agg [.str d.title,.str d.link,.sl 5 (d.es.map En.av)]
def onceS(out:List En)(x:En):List En:=if out.any (fun y=>decide (y.guid=x.guid))then out else out++[x]
def onceF(l:List En):List En:=l.foldl onceS []
theorem tU{l:List En}{i:Nat}{x:En}(h:l[i]? =some x):onceF (l.take (i+1))=onceS (onceF (l.take i)) x:=by
 unfold onceF;rw[O0,h,List.foldl_append];rfl
theorem gE(l:List En):(onceF l).length≤l.length:=by
 have key:∀(l out:List En),(l.foldl onceS out).length≤out.length+l.length:=by
  intro l;induction l with
  |nil=>intro out;simp
  |cons x l ih=>
   intro out;have:=ih (onceS out x);have h2:(onceS out x).length≤out.length+1:=(by unfold onceS;split<;>simp);rw[R8,E2];omega
 have k:=key l [];rw[E9,J6]at k;exact k
def anyF(s:Bs):Option Int:=match webR s with
 |some n=>some n
 |none=>mailR s
def fieldF(e:Elem)(n:Bs)(m:Nat):Bs:=shortF (kidF e n).1.text m
def momE(f:Bs→Option Int)(e:Elem)(n:Bs):Option Int:=if (kidF e n).2 then f (cleanF (kidF e n).1.text)else none
def momL(f:Bs→Option Int)(e:Elem):List Bs→Option Int
 | []=>none
 |n::l=>match momE f e n with
  |some v=>some v
  |none=>momL f e l
def mkE(g t l:Bs)(m:Option Int):Option En:=if g=[]then none else some ⟨g,t,l,m.getD 0,m.isSome⟩
def bLink:Bs:=[108,105,110,107]
def bGuid:Bs:=[103,117,105,100]
def bPub:Bs:=[112,117,98,68,97,116,101]
def bDate:Bs:=[100,97,116,101]
def bId:Bs:=[105,100]
def bHref:Bs:=[104,114,101,102]
def bRel:Bs:=[114,101,108]
def bAlt:Bs:=[97,108,116,101,114,110,97,116,101]
def bUpd:Bs:=[117,112,100,97,116,101,100]
def bPubl:Bs:=[112,117,98,108,105,115,104,101,100]
def bIss:Bs:=[105,115,115,117,101,100]
def bChan:Bs:=[99,104,97,110,110,101,108]
def bItem:Bs:=[105,116,101,109]
def bRss:Bs:=[114,115,115]
def bFeed:Bs:=[102,101,101,100]
def bEntry:Bs:=[101,110,116,114,121]
def entR(e:Elem):Option En:=mkE (orF (fieldF e bGuid 512) (fieldF e bLink 512) (fieldF e bTitle 256)) (fieldF e bTitle 256) (fieldF e bLink 512) (momL anyF e [bPub,bDate])
def linkP(k:Elem):Bool:=(attrF k.attrs bHref).2&&(!(attrF k.attrs bRel).2||decide ((attrF k.attrs bRel).1=bAlt))
def linkA(e:Elem):Bs:=match (kidsF e bLink).find? linkP with
 |some k=>shortF (attrF k.attrs bHref).1 512
 |none=>[]
def entA(e:Elem):Option En:=mkE (orF (fieldF e bId 512) (linkA e) (fieldF e bTitle 256)) (fieldF e bTitle 256) (linkA e) (momL webR e [bUpd,bPubl,bIss])
def entsF(f:Elem→Option En)(l:List Elem):List En:=(l.filterMap f).take 256
def rssF(e:Elem):Option Fd:=if (kidF e bChan).2&&decide (short e.name=bRss)then some ⟨fieldF (kidF e bChan).1 bTitle 256,fieldF (kidF e bChan).1 bLink 512,entsF entR (kidsF (kidF e bChan).1 bItem)⟩else none
def atomF(e:Elem):Option Fd:=if short e.name=bFeed then some ⟨fieldF e bTitle 256,linkA e,entsF entA (kidsF e bEntry)⟩else none
def ofE(e:Elem):Option Fd:=(match rssF e with
 |some d=>some d
 |none=>atomF e).map fun d:Fd=>⟨d.title,d.link,onceF d.es⟩
end Go.Av
namespace Go.Av
open Go Go.Proofs Go.RowKit
attribute [local irreducible] WP WPl WPix Sat
variable (G:Nat→Option (List AVal))
theorem va{h0 Z:Heap}{q v e:Nat}(l:List En)(hq:h0.length≤q)(hg:getRow Z q v=some (e,5,l.map En.av)):Frz Z h0.length (.hs q v 0 l.length true) (.sl 5 (l.map En.av)):=
 Frz.data hq hg (by simp) (fun r hr=>by obtain⟨x,_,rfl⟩:=I9.1 hr;exact x.clo _) (fun r hr=>by obtain⟨x,_,rfl⟩:=I9.1 hr;exact x.sto)
theorem dr(l:List En)(hl:l.length≤1048576)(h:Heap):Sat (CT G) 16 [.sl 5 (l.map En.av)] h (fun r h'=>r=.sl 5 ((onceF l).map En.av)∧h'=h):=by
 have ml:(l.map En.av).length=l.length:=I5 ..;have hma:∀(m:ML Bs Int) (c:Nat) (j:Heap),mapAt (h++(.mp (encM .str iA m) c::j)) h.length=some (encM .str iA m,c):=fun m c j=>by simp[mapAt]
 have ia:∀n,iA n=.int .i64 n:=fun _=>rfl
 have F:=F2 ml hma;refine sb [.tmp 2] Tryz.func16 ?_;intro Q hQ;refine wk F ?_;refine lm (fun nL tL hL=>∃(i v c:Nat) (m:ML Bs Int) (out:List En) (j:Heap),l.length-i=nL∧h++(.mp (encM .str iA m) c:: .row 48 5 v (out.map En.av)::j)=hL∧tL 3=.hs (h.length+1) v 0 out.length true∧tL 10=.int .i64 i∧i≤l.length∧out=onceF (l.take i)∧(∀g,((∃y∈out,y.guid=g)∧lkM m g=some 1)∨((∀y∈out,y.guid≠g)∧lkM m g=none))) ((fun(i v c:Nat) (m:ML Bs Int) (out:List En) (j:Heap)=>(l.length-i:Nat)) (0) (0) (0) ([]) ([]) ([])) ?_ ?_
 ·refine⟨_,_,Weak.virt 3 48 5 (by simp) (by omega) (by exact zq F),⟨0,0,0,[],[],[],rfl,aB,?_,?_,by omega,rfl,fun g=>.inr ⟨by simp,rfl⟩⟩⟩;all_goals try exact zZz F
 rintro _ s2 h' ⟨i,v,c,m,out,j,rfl,rfl,e3,e10,hi,ho,hm⟩ K2 hK2;simp only[ao,aw,Nat.reduceEqDiff, ↓reduceIte]at e3 e10;have F:=F3 F e3 e10;have hol:=gE (l.take i);rw[← ho,I0]at hol;by_cases c1:i<l.length
 ·obtain⟨x,hx,_⟩:=am c1;have d1:=G4 c1;have hst:=tU hx;rw[← ho]at hst;have mo:(out.map En.av).length=out.length:=I5 ..;rcases hm x.guid with⟨⟨y,hy1,hy2⟩,hlk⟩| ⟨hn,hlk⟩
  ·have ha:out.any (fun y=>decide (y.guid=x.guid))=true:=P8.2 ⟨y,hy1,by simp[hy2]⟩;unfold onceS at hst;rw[E8 ha]at hst;have hg:(lkM m x.guid).getD 0=1:=(by rw[hlk];rfl);have q:decide ((1:Int)>0)=true:=rfl;have F:=F6 F hx d1 hg q @ak;(try refine sq F ?_);refine wk F ?_;refine hK2 _ _ _ (H3 ⟨i+1,v,c,m,out,j++[.row 48 5 0 [x.av]],rfl,rfl,?_,?_,by omega,hst.symm,hm⟩) (by omega);all_goals try exact zZz F
  ·have ha:out.any (fun y=>decide (y.guid=x.guid))=false:=by
    cases hh:out.any (fun y=>decide (y.guid=x.guid))with
    |false=>rfl
    |true=>
     obtain⟨y,hy1,hy2⟩:=P8.1 hh;exact absurd (by simpa using hy2) (hn y hy1)
   unfold onceS at hst;rw[E4 (by simp[ha])]at hst;have hg:(lkM m x.guid).getD 0=0:=(by rw[hlk];rfl);have q:decide ((0:Int)>0)=false:=rfl;have hm2:∀g,((∃y∈out++[x],y.guid=g)∧lkM (upM m c x.guid 1) g=some 1)∨((∀y∈out++[x],y.guid≠g)∧lkM (upM m c x.guid 1) g=none):=fun g=>by
    rw[wb];by_cases e:g=x.guid
    ·left;rw[E8 e];exact⟨⟨x,by simp,e.symm⟩,rfl⟩
    ·rw[E4 e];rcases hm g with⟨⟨y,hy1,hy2⟩,k⟩| ⟨k1,k2⟩
     ·exact .inl ⟨⟨y,by simp[hy1],hy2⟩,k⟩
     ·refine .inr ⟨fun y hy=>?_,k2⟩;rcases R7.1 hy with hy|hy
      ·exact k1 y hy
      ·rw[K4.1 hy];exact fun k=>e k.symm
   have F:=F7 F hx d1 hg q mo @ak;(try refine sq F ?_);refine wk F ?_;refine aq F ?_;(try refine sq F ?_);refine wk F ?_;refine hK2 _ _ _ (H3 ⟨i+1,v+1,ckM m c x.guid,upM m c x.guid 1,out++[x],j++[.row 48 5 0 [x.av]],rfl,by simp[En.av],?_,?_,by omega,hst.symm,hm2⟩) (by omega);all_goals try exact zZz F
 ·have d1:=H2 c1;rw[H4 (by omega)]at ho;have mo:(out.map En.av).length=out.length:=I5 ..;have F:=F3 F d1 mo;try refine sq F ?_
  refine wk F ?_;refine ee hQ F ?_;rw[← ho];exact T6 (va out (by omega) (by rw[j3 _ rfl];show(if v=v then _ else _)=_;rw[E8 rfl])) ⟨rfl,rfl⟩
end Go.Av
