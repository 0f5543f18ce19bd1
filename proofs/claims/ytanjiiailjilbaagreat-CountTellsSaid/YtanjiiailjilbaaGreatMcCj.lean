/- The program's counts: all are told. -/
import Derived.Test.YtanjiiailjilbaaGreatMcEx2b
import Derived.Test.YtanjiiailjilbaaGreatMcEb
set_option linter.unusedSimpArgs false
set_option linter.unusedVariables false
set_option linter.unusedSectionVars false
set_option linter.unnecessarySimpa false
set_option maxRecDepth 100000
set_option maxHeartbeats 4000000
namespace Go.Av
open Go Go.Proofs Go.RowKit
attribute [local irreducible] WP WPl WPix Sat
theorem o8{κ α:Type}[DecidableEq κ]{l:ML κ α}{k:κ}{o:α}(h:lkM l k=some o):(l.map (·.2.1)).Perm (o::(dlM l k).map (·.2.1)):=by
 induction l with
 |nil=>cases h
 |cons e l ih=>
  rw[lkM]at h
  rw[dlM]
  split at h
  ·rename_i hx;cases h;rw[if_pos hx];exact .refl _
  ·rename_i hx;rw[if_neg hx];exact((ih h).cons _).trans (.swap _ _ _)
theorem tz{κ α:Type}[DecidableEq κ]{l:ML κ α}{k:κ}(h:lkM l k=none):dlM l k=l:=by
 induction l with
 |nil=>rfl
 |cons e l ih=>
  rw[lkM]at h
  rw[dlM]
  split at h
  ·cases h
  ·rename_i hx;rw[if_neg hx,ih h]
theorem uO{κ α:Type}[DecidableEq κ](l:ML κ α)(c:Nat)(k:κ)(a:α):((upM l c k a).map (·.2.1)).Perm (a::(dlM l k).map (·.2.1)):=by
 induction l with
 |nil=>exact .refl _
 |cons e l ih=>
  rw[upM,dlM]
  split
  ·exact .refl _
  ·exact(ih.cons _).trans (.swap _ _ _)
theorem Tal.toBd{c:CS}{L:List It}(h:Tal c L)(hl:L.length≤100000):c.Bd 100000:=by
 have hb:∀p,Av.bd 100000 (tl L p):=fun p=>by have:=uc L p;unfold Av.bd;omega
 have h0:Av.bd 100000 (0,0):=by unfold Av.bd;simp
 refine⟨by rw[h.al];exact hb _,by rw[h.st];exact hb _,fun id=>?_,fun id=>?_,fun g=>?_⟩
 ·cases hl:(lkM c.fe id).isSome with
  |true=>rw[h.fe id hl];exact hb _
  |false=>rw[Option.isSome_eq_false_iff,Option.isNone_iff_eq_none]at hl;rw[hl];exact h0
 ·cases hl:(lkM c.fo id).isSome with
  |true=>rw[h.fo id hl];exact hb _
  |false=>rw[Option.isSome_eq_false_iff,Option.isNone_iff_eq_none]at hl;rw[hl];exact h0
 ·rw[h.tg,fb];exact hb _
structure CS.Own (c:CS):Prop where
 wf:c.Wf
 tal:Tal c (c.it.map (·.2.1))
 rdy:∀k t,lkM c.it k=some t→Rdy c t∧t.id=k∧t.tags.length≤8
 len:c.it.length≤1024
def CS.inIt(c:CS)(t:It):CS:= {c with it:=upM c.it c.c4 t.id t,c4:=ckM c.it c.c4 t.id}
def CS.out1(c:CS)(t:It):CS:=match lkM c.it t.id with
 |some o=>c.count (c.chn o.feed) o (negT (oneT o))
 |none=>c
def CS.putF(c:CS)(t:It):CS:=((c.out1 t).inIt t).count (c.chn t.feed) t (oneT t)
theorem CS.Like.refl(c:CS):c.Like c:=⟨rfl,rfl,rfl,rfl,fun _=>rfl,fun _=>rfl⟩
theorem CS.Own.out1{c:CS}(h:c.Own)(t:It):Tal (c.out1 t) ((dlM c.it t.id).map (·.2.1))∧c.Like (c.out1 t)∧(c.out1 t).Wf:=by
 unfold CS.out1
 cases hl:lkM c.it t.id with
 |none=>simp only;rw[tz hl];exact⟨h.tal,.refl c,h.wf⟩
 |some o=>
  simp only
  have hr:=(h.rdy _ _ hl).1
  exact⟨kQ (h.tal.perm (o8 hl)) hr h.wf.w3,CS.count_like hr _,h.wf.count _ _ _⟩
theorem Rdy.ch7{c:CS}{t:It}(r:Rdy c t):chO c.ab 7 ((lkM c.inn t.feed).getD 0)=some (c.chn t.feed)∧(c.chn t.feed).length≤7:=by
 obtain⟨l,h1,_,h3,_⟩:=r.ch
 unfold CS.chn;rw[h1];exact⟨rfl,h3⟩
theorem Tal.inIt{c:CS}{L:List It}(h:Tal c L)(t:It):Tal (c.inIt t) L:=⟨h.al,h.st,h.fe,h.fo,h.tg⟩
theorem Rdy.inIt{c:CS}{t:It}(r:Rdy c t)(u:It):Rdy (c.inIt u) t:=⟨r.fe,r.ch,r.tg⟩
theorem CS.Own.putF{c:CS}(h:c.Own){t:It}(r:Rdy c t)(ht:t.tags.length≤8)(hl:c.it.length<1024∨(lkM c.it t.id).isSome=true):(c.putF t).Own∧c.it.length≤1024∧(c.putF t).it=upM c.it c.c4 t.id t∧(c.putF t).inn=c.inn∧(c.putF t).ab=c.ab∧(∀id,(lkM (c.putF t).fe id).isSome=(lkM c.fe id).isSome)∧(∀id,(lkM (c.putF t).fo id).isSome=(lkM c.fo id).isSome):=by
 obtain⟨h1,h2,h3⟩:=h.out1 t
 have r1:Rdy ((c.out1 t).inIt t) t:=(h2.rdy r).inIt t
 have hc:((c.out1 t).inIt t).chn t.feed=c.chn t.feed:=h2.chn _
 have w4:((c.out1 t).inIt t).Wf:= {h3 with w4:=h3.w4.up _ _}
 have hk:=CS.count_like r1 (oneT t)
 have hT:=tw (h1.inIt t) r1 w4.w3
 rw[hc]at hk hT
 have hit:(c.putF t).it=upM c.it c.c4 t.id t:=by
  show upM (c.out1 t).it (c.out1 t).c4 t.id t=_
  rw[h2.it,h2.c4]
 have hfe:∀id,(lkM (c.putF t).fe id).isSome=(lkM c.fe id).isSome:=fun id=>(hk.fe id).trans (h2.fe id)
 have hfo:∀id,(lkM (c.putF t).fo id).isSome=(lkM c.fo id).isSome:=fun id=>(hk.fo id).trans (h2.fo id)
 have hinn:(c.putF t).inn=c.inn:=hk.inn.trans h2.inn
 have hab:(c.putF t).ab=c.ab:=hk.ab.trans h2.ab
 have hrd:∀u,Rdy c u→Rdy (c.putF t) u:=fun u ru=>⟨by rw[hfe];exact ru.fe,by
  obtain⟨l,a1,a2,a3,a4⟩:=ru.ch
  exact⟨l,by rw[hab,hinn];exact a1,a2,a3,fun x hx=>by rw[hfo];exact a4 x hx⟩,ru.tg⟩
 refine⟨⟨w4.count _ _ _,?_,fun k u hu=>?_,?_⟩,h.len,hit,hinn,hab,hfe,hfo⟩
 ·rw[hit];exact hT.perm (uO _ _ _ _).symm
 ·rw[hit,ap]at hu
  split at hu
  ·rename_i hk;cases hu;exact⟨hrd _ r,hk.symm,ht⟩
  ·obtain⟨a1,a2⟩:=h.rdy k u hu;exact⟨hrd _ a1,a2⟩
 ·rw[hit,ia]
  have:=h.len
  split
  ·exact this
  ·rename_i hn;rcases hl with hl|hl
   ·omega
   ·exact(hn hl).elim
variable (G:Nat→Option (List AVal))
theorem kR(c:CS)(h:c.Own)(t:It)(r:Rdy c t)(ht:t.tags.length≤8){H:Heap}{m:Nat}(hm:m+7≤H.length):
  Sat (CT G) 41 [.hp (m+6) 0 0 0,t.av] (co H m c) (fun r h'=>r=.tup []∧h'=co H m (c.putF t)):=by
 obtain⟨h1,h2,h3⟩:=h.out1 t
 have hlen:((dlM c.it t.id).map (·.2.1)).length≤100000:=by
  rw[List.length_map]
  have:=(er c.it t.id).length_le
  have:=h.len
  omega
 have hb2:=((h1.inIt t).toBd hlen)
 have hb1:=h.tal.toBd (by rw[List.length_map];have:=h.len;omega)
 have hc2:chO ((c.out1 t).inIt t).ab 7 ((lkM ((c.out1 t).inIt t).inn t.feed).getD 0)=some (c.chn t.feed):=by
  show chO (c.out1 t).ab 7 ((lkM (c.out1 t).inn t.feed).getD 0)=_
  rw[h2.ab,h2.inn];exact r.ch7.1
 have hcl:(c.chn t.feed).length≤50:=by have:=r.ch7.2;omega
 have hP:∀(H:Heap),m+7≤H.length→Sat (CT G) 78 [.hp (m+6) 0 0 0,t.av,.bool false] (co H m ((c.out1 t).inIt t)) (fun r h'=>r=.tup []∧h'=co H m (c.putF t)):=
  fun H hm=>fy G ((c.out1 t).inIt t) t false (c.chn t.feed) 7 hc2 hcl (by omega) h3.w3 hb2 hm
 have hO:∀o,lkM c.it t.id=some o→∀(H:Heap),m+7≤H.length→Sat (CT G) 78 [.hp (m+6) 0 0 0,o.av,.bool true] (co H m c) (fun r h'=>r=.tup []∧h'=co H m (c.out1 t)):=fun o ho H hm=>by
  obtain⟨ro,_,hot⟩:=h.rdy _ _ ho
  have:=fy G c o true (c.chn o.feed) 7 ro.ch7.1 (by have:=ro.ch7.2;omega) (by omega) h.wf.w3 hb1 hm
  have he:c.out1 t=c.count (c.chn o.feed) o (awT o true):=by unfold CS.out1;rw[ho];rfl
  rw[he];exact this
 cases hl:lkM c.it t.id with
 |none=>
  have he:c.out1 t=c:=by unfold CS.out1;rw[hl]
  rw[he]at hP
  have his:(lkM c.it t.id).isSome=false:=by rw[hl];rfl
  have F:=his
  refine sb [] (fn:=Tryz.f41) Tryz.func41 ?_
  intro Q hQ
  refine wk F ?_
  refine ay 12 [10,11] [true,true,true,true,true,true,true,true,true,true,false,false] (.one 10 [false,true,true,true,true,true,true] (.one 11 [] .fin)) (by decide+kernel) (by kernel_rfl) (by decide+kernel) ?_
  simp only[aC,aD,az]
  try refine sq F ?_
  repeat' (first| (refine aj ?_;try refine sq F ?_)| (refine ak ?_;try refine sq F ?_)| (refine am ?_ ?_<;>try refine sq F ?_))
  all_goals try refine wk F ?_
  all_goals (
   refine kq F (hP _ (by first|omega| (simp;omega))) ?_
   refine ee hQ F ?_
   exact aT hm (.tup _ (by simp)) ⟨rfl,rfl⟩)
 |some o=>
  have hO1:=hO o hl
  have his:(lkM c.it t.id).isSome=true:=by rw[hl];rfl
  have hgd:(lkM c.it t.id).getD It.z=o:=by rw[hl];rfl
  have F:=F2 his hgd
  refine sb [] (fn:=Tryz.f41) Tryz.func41 ?_
  intro Q hQ
  refine wk F ?_
  refine ay 12 [10,11] [true,true,true,true,true,true,true,true,true,true,false,false] (.one 10 [false,true,true,true,true,true,true] (.one 11 [] .fin)) (by decide+kernel) (by kernel_rfl) (by decide+kernel) ?_
  simp only[aC,aD,az]
  try refine sq F ?_
  repeat' (first| (refine aj ?_;try refine sq F ?_)| (refine ak ?_;try refine sq F ?_)| (refine am ?_ ?_<;>try refine sq F ?_))
  all_goals try refine wk F ?_
  all_goals (
   refine kq F (hO1 _ (by first|omega| (simp;omega))) ?_
   refine kq F (hP _ (by first|omega| (simp;omega))) ?_
   refine ee hQ F ?_
   exact aT hm (.tup _ (by simp)) ⟨rfl,rfl⟩)
end Go.Av
namespace Go.Av
open Go Go.Proofs Go.RowKit
attribute [local irreducible] WP WPl WPix Sat
structure Unf (c:CS) (l:ML Int It) (d:CS):Prop where
 it:d.it=l
 c4:d.c4=c.c4
 inn:d.inn=c.inn
 ab:d.ab=c.ab
 fe:∀id,(lkM d.fe id).isSome=(lkM c.fe id).isSome
 fo:∀id,(lkM d.fo id).isSome=(lkM c.fo id).isSome
 wf:d.Wf
 tal:Tal d (d.it.map (·.2.1))
theorem Unf.rdy{c:CS}{l:ML Int It}{d:CS}(h:Unf c l d){t:It}(r:Rdy c t):Rdy d t where
 fe:=by rw[h.fe];exact r.fe
 ch:=by
  obtain⟨l,h1,h2,h3,h4⟩:=r.ch
  exact⟨l,by rw[h.ab,h.inn];exact h1,h2,h3,fun x hx=>by rw[h.fo];exact h4 x hx⟩
 tg:=r.tg
def CS.drop(d:CS)(k:Int)(t:It):CS:= {d.count (d.chn t.feed) t (negT (oneT t))with it:=dlM d.it k}
theorem Unf.go{c:CS}{l:ML Int It}{d:CS}(h:Unf c l d){k:Int}{t:It}(r:Rdy c t)(hk:lkM l k=some t):Unf c (dlM l k) (d.drop k t):=by
 have r1:=h.rdy r
 have hl:=CS.count_like r1 (negT (oneT t))
 have hw:=h.wf.count (d.chn t.feed) t (negT (oneT t))
 have ht:Tal d (t::(dlM d.it k).map (·.2.1)):=h.tal.perm (o8 (by rw[h.it];exact hk))
 have h2:=kQ ht r1 h.wf.w3
 exact⟨by show dlM d.it k=_;rw[h.it],h.c4,h.inn,h.ab,fun id=>(hl.fe id).trans (h.fe id),fun id=>(hl.fo id).trans (h.fo id),{hw with w4:=by have:=h.wf.w4.dl k;exact this},⟨h2.al,h2.st,h2.fe,h2.fo,h2.tg⟩⟩
theorem Unf.refl{c:CS}(h:c.Own):Unf c c.it c:=⟨rfl,rfl,rfl,rfl,fun _=>rfl,fun _=>rfl,h.wf,h.tal⟩
variable (G:Nat→Option (List AVal))
def CS.less(d:CS)(feed:Int):CS:= {d with fe:=dlM d.fe feed,inn:=dlM d.inn feed}
theorem mr(c:CS)(h:c.Own)(feed:Int){H:Heap}{m:Nat}(hm:m+7≤H.length):
  Sat (CT G) 49 [.hp (m+6) 0 0 0,.int .i64 feed] (co H m c) (fun r h'=>r=.tup []∧∃d,Unf c (itF c.it feed) d∧h'=co H m (d.less feed)):=by
 have hw:=h.wf.w4
 refine sb [] (fn:=Tryz.f49) Tryz.func49 ?_
 intro Q hQ
 refine wk trivial ?_
 refine lm (fun nL tL hL=>∃(hh:Heap) (seen:List Nat) (d:CS),leftM (itS c.it feed seen) seen=nL∧co hh m d=hL∧tL 0=.hp (m+6) 0 0 0∧tL 1=.int .i64 feed∧tL 10=.hp H.length 0 0 0∧Unf c (itS c.it feed seen) d∧(FrN H.length H hh∧H.length<hh.length)∧hh[H.length]? =some (.mit (m+3) c.c4 seen c.c4)) ((fun(hh:Heap) (seen:List Nat) (d:CS)=>(leftM (itS c.it feed seen) seen:Nat)) (H++[.mit (m+3) c.c4 [] c.c4]) ([]) (c)) ?_ ?_
 ·refine Wkn.refl ⟨H++[.mit (m+3) c.c4 [] c.c4],[],c,rfl,aB,?_,?_,?_,by rw[o1];exact .refl h,⟨FrN.app _ (by omega) (FrN.refl _ _),by simp⟩,by simp⟩
  all_goals first|exact zq trivial|rfl|omega|trivial|skip
 rintro _ s2 h' ⟨hh,seen,d,rfl,rfl,e0,e1,e10,hd,hfr,hi⟩ K2 hK2
 simp only[ai,ao,Nat.reduceEqDiff, ↓reduceIte]at e0 e1 e10
 have F:=F3 e0 e1 e10
 refine wk F ?_
 obtain⟨hfr,hfl⟩:=hfr
 have hm1:m+7≤hh.length:=by omega
 have hmp:∀{hh:Heap},m+7≤hh.length→mapAt (co hh m d) (m+3)=some (encM iA It.av (itS c.it feed seen),c.c4):=fun hm=>by rw[yU hm,hd.it,hd.c4]
 refine lM (q:=m+3) (c:=c.c4) (seen:=seen) (l:=itS c.it feed seen) (by rw[qV hm1 (by omega)];exact hi) (hmp hm1) (hw.filter _).lt (fun e he hs=>?_) (fun hall=>?_)
 ·have F:=F2 F @aJ
  try refine sq F ?_
  refine wk F ?_
  have hel:=(List.mem_filter.1 he).1
  have hek:lkM (itS c.it feed seen) e.1=some e.2.1:=aS (hw.filter _).keys (b:=e.2.2) he
  obtain⟨re,_,ret⟩:=h.rdy e.1 e.2.1 (aS hw.keys (b:=e.2.2) hel)
  refine lN (q:=m+3) (l:=itS c.it feed seen) (by rw[qV (by simpa using hm1) (by omega),List.getElem?_set_self hfl]) (hmp (by simpa using hm1)) (hw.filter _) he ?_
  try refine sq F ?_
  refine wk F ?_
  refine cq F (fun c1=>?_) (fun c1=>?_)<;>(try exact c1.elim)<;>(refine wk F ?_)
  ·have hlt:leftM (itS c.it feed (seen++[e.2.2])) (seen++[e.2.2])<leftM (itS c.it feed seen) seen:=by rw[← jr hw hel c1];exact gd he hs (er _ _)
   have r1:=hd.rdy re
   have hlen:(d.it.map (·.2.1)).length≤100000:=by
    rw[List.length_map,hd.it]
    have h1:(itS c.it feed seen).length≤c.it.length:=List.length_filter_le _ _
    have:=h.len
    omega
   refine kq F (fy G d e.2.1 true (d.chn e.2.1.feed) 7 r1.ch7.1 (by have:=r1.ch7.2;omega) (by omega) hd.wf.w3 (hd.tal.toBd hlen) (by first|omega| (simp;omega))) ?_
   refine hK2 _ _ _ (Wkn.refl ⟨hh.set H.length (.mit (m+3) c.c4 (seen++[e.2.2]) c.c4)++[.row 82 9 0 [e.2.1.av]],seen++[e.2.2],d.drop e.1 e.2.1,rfl,by show co _ m (d.drop e.1 e.2.1)=_;rfl,?_,?_,?_,by rw[← jr hw hel c1];exact hd.go re hek,⟨FrN.app _ (by simp;omega) (FrN.set _ (by omega) hfr),by simp;omega⟩,by rw[List.getElem?_append_left (by simp;omega),List.getElem?_set_self hfl]⟩) (by omega)
   all_goals first|exact zq F|rfl|omega|trivial|skip
  ·have hlt:leftM (itS c.it feed (seen++[e.2.2])) (seen++[e.2.2])<leftM (itS c.it feed seen) seen:=by rw[gn hw hel c1];exact gd he hs (List.Sublist.refl _)
   refine hK2 _ _ _ (Wkn.refl ⟨hh.set H.length (.mit (m+3) c.c4 (seen++[e.2.2]) c.c4)++[.row 82 9 0 [e.2.1.av]],seen++[e.2.2],d,rfl,aB,?_,?_,?_,by rw[gn hw hel c1];exact hd,⟨FrN.app _ (by simp;omega) (FrN.set _ (by omega) hfr),by simp;omega⟩,by rw[List.getElem?_append_left (by simp;omega),List.getElem?_set_self hfl]⟩) (by omega)
   all_goals first|exact zq F|rfl|omega|trivial|skip
 ·have hx:=o0 hall
  rw[o2 hx]at hd
  try refine sq F ?_
  refine wk F ?_
  obtain⟨j,hj⟩:=hfr.behind (by omega)
  subst hj
  refine ee hQ F ?_
  exact aT hm (.tup _ (by simp)) ⟨rfl,d,hd,rfl⟩
theorem tB{c:CS}{ch:List Int}{n:T2}(feed:Int)(hb:c.Bd 100000)(hn:bd 100000 n)(hl:ch.length≤7):(c.shift ch feed n).Bd 1000000 where
 al:=by
  show bd 1000000 (tadd c.al n)
  have:=hb.al;unfold bd tadd at *;simp only;omega
 st:=by
  show bd 1000000 c.st
  have:=hb.st;unfold bd at *;omega
 fe:=fun id=>by
  show bd 1000000 ((lkM (upM c.fe c.c2 feed (tadd ((lkM c.fe feed).getD (0,0)) n)) id).getD (0,0))
  rw[ap]
  split
  ·have:=hb.fe feed;unfold bd tadd at *;simp only[Option.getD_some];omega
  ·have:=hb.fe id;unfold bd at *;omega
 fo:=fun id=>by
  have:=qZ hn ch (k:=c.c1) hb.fo id
  show bd 1000000 ((lkM (foF n ch c.fo c.c1).1 id).getD (0,0))
  unfold bd at *;omega
 tg:=fun g=>by
  show bd 1000000 ((lkM c.tg g).getD (0,0))
  have:=hb.tg g;unfold bd at *;omega
def CS.setIn(c:CS)(feed to1:Int):CS:= {c with inn:=upM c.inn c.c5 feed to1,c5:=ckM c.inn c.c5 feed}
def CS.moveF(c:CS)(feed to1:Int):CS:=
 ((c.shift (c.chn feed) feed (negT ((lkM c.fe feed).getD (0,0)))).setIn feed to1).shift ((chO c.ab 7 to1).getD []) feed ((lkM c.fe feed).getD (0,0))
theorem pI(c:CS)(h:c.Own)(feed to1:Int){bF ca:List Int}(h1:chO c.ab 7 ((lkM c.inn feed).getD 0)=some bF)(l1:bF.length≤7)(h2:chO c.ab 7 to1=some ca)(l2:ca.length≤7){H:Heap}{m:Nat}(hm:m+7≤H.length):
  Sat (CT G) 50 [.hp (m+6) 0 0 0,.int .i64 feed,.int .i64 to1] (co H m c) (fun r h'=>r=.tup []∧h'=co H m (c.moveF feed to1)):=by
 have hb:=h.tal.toBd (by rw[List.length_map];have:=h.len;omega)
 have hb1:c.Bd 1000000:=⟨by have:=hb.al;unfold bd at *;omega,by have:=hb.st;unfold bd at *;omega,fun id=>by have:=hb.fe id;unfold bd at *;omega,fun id=>by have:=hb.fo id;unfold bd at *;omega,fun id=>by have:=hb.tg id;unfold bd at *;omega⟩
 have he1:c.chn feed=bF:=by unfold CS.chn;rw[h1];rfl
 have he2:(chO c.ab 7 to1).getD []=ca:=by rw[h2];rfl
 have hn:=hb.fe feed
 have hnn:bd 100000 (negT ((lkM c.fe feed).getD (0,0))):=by unfold bd negT at *;simp only;omega
 have hb2:=tB feed hb hnn l1
 have hb3:((c.shift bF feed (negT ((lkM c.fe feed).getD (0,0)))).setIn feed to1).Bd 1000000:=⟨hb2.al,hb2.st,hb2.fe,hb2.fo,hb2.tg⟩
 have hto:(lkM ((c.shift bF feed (negT ((lkM c.fe feed).getD (0,0)))).setIn feed to1).inn feed).getD 0=to1:=by
  show(lkM (upM c.inn c.c5 feed to1) feed).getD 0=to1
  rw[ap,if_pos rfl];rfl
 have hS2:=fun(H:Heap) (hm:m+7≤H.length)=>fw G ((c.shift bF feed (negT ((lkM c.fe feed).getD (0,0)))).setIn feed to1) feed ca 7 ((lkM c.fe feed).getD (0,0)) (by rw[hto];exact h2) (by omega) hb3 (by unfold bd at *;omega) (H:=H) hm
 have hS1:=fun(H:Heap) (hm:m+7≤H.length)=>fw G c feed bF 7 (negT ((lkM c.fe feed).getD (0,0))) h1 (by omega) hb1 (by unfold bd at *;omega) (H:=H) hm
 unfold CS.moveF
 rw[he1,he2]
 generalize hg:(lkM c.fe feed).getD (0,0)=n at*
 have F:=hg
 refine sb [] (fn:=Tryz.f50) Tryz.func50 ?_
 intro Q hQ
 refine wk F ?_
 refine kq F (hJ G n.1 n.2 (by unfold bd at *;omega) _) ?_
 refine kq F (hS1 _ (by first|omega| (simp;omega))) ?_
 refine kq F (hS2 _ (by first|omega| (simp;omega))) ?_
 refine ee hQ F ?_
 exact aT hm (.tup _ (by simp)) ⟨rfl,rfl⟩
end Go.Av
namespace Go.Av
open Go Go.Proofs Go.RowKit
attribute [local irreducible] WP WPl WPix Sat
variable (G:Nat→Option (List AVal))
def StepR(c:CS)(e:Ev)(t:It)(b:Bool)(d:CS):Prop:=
 if e.kind=1 then d= {c with fo:=upM c.fo c.c1 e.a (0,0),c1:=ckM c.fo c.c1 e.a,ab:=upM c.ab c.c6 e.a e.b,c6:=ckM c.ab c.c6 e.a}
 else if e.kind=2 then d= {c with fo:=dlM c.fo e.a,ab:=dlM c.ab e.a}
 else if e.kind=3 then d= {c with fe:=upM c.fe c.c2 e.a (0,0),c2:=ckM c.fe c.c2 e.a,inn:=upM c.inn c.c5 e.a e.b,c5:=ckM c.inn c.c5 e.a}
 else if e.kind=4 then ∃d',Unf c (itF c.it e.a) d'∧d=d'.less e.a
 else if e.kind=6 then d=c.moveF e.a e.b
 else if e.kind=7∨e.kind=8∨e.kind=9∨e.kind=10 then d=if b then c.putF t else c
 else d=c
theorem pJ(c:CS)(h:c.Own)(e:Ev)(q:Nat)(t:It)(b:Bool){H:Heap}{m:Nat}(hm:m+7≤H.length)
  (hI:(e.kind=7∨e.kind=8∨e.kind=9∨e.kind=10)→∀j,Sat (CT G) 38 [.hp q 0 0 0,.int .i64 e.a] (co (H++j) m c) (fun r h'=>r=.tup [t.av,.bool b]∧h'=co (H++j) m c))
  (hr:(e.kind=7∨e.kind=8∨e.kind=9∨e.kind=10)→b=true→Rdy c t∧t.tags.length≤8)
  (hv:e.kind=6→(∃ch,chO c.ab 7 ((lkM c.inn e.a).getD 0)=some ch∧ch.length≤7)∧∃ch,chO c.ab 7 e.b=some ch∧ch.length≤7):
  Sat (CT G) 20 [.hp (m+6) 0 0 0,.hp q 0 0 0,e.av] (co H m c) (fun r h'=>r=.tup []∧∃d,StepR c e t b d∧h'=co H m d):=by
 refine sb [] (fn:=Tryz.f20) Tryz.func20 ?_
 intro Q hQ
 refine wk trivial ?_
 by_cases k1:e.kind=1
 ·have F:=k1
  try refine sq F ?_
  refine wk F ?_
  refine ee hQ F ?_
  exact aT hm (.tup _ (by simp)) ⟨rfl,_,by rw[StepR,if_pos k1],rfl⟩
 by_cases k2:e.kind=2
 ·have F:=k2
  try refine sq F ?_
  refine wk F ?_
  refine ee hQ F ?_
  exact aT hm (.tup _ (by simp)) ⟨rfl,_,by rw[StepR,if_neg k1,if_pos k2],rfl⟩
 by_cases k3:e.kind=3
 ·have F:=k3
  try refine sq F ?_
  refine wk F ?_
  refine ee hQ F ?_
  exact aT hm (.tup _ (by simp)) ⟨rfl,_,by rw[StepR,if_neg k1,if_neg k2,if_pos k3],rfl⟩
 by_cases k4:e.kind=4
 ·have F:=k4
  try refine sq F ?_
  refine wk F ?_
  refine(mr G c h e.a (by first|omega| (simp;omega))).mono ?_
  rintro r h' ⟨rfl,d,hd,rfl⟩
  try refine sq F ?_
  refine wk F ?_
  refine ee hQ F ?_
  exact aT hm (.tup _ (by simp)) ⟨rfl,_,by rw[StepR,if_neg k1,if_neg k2,if_neg k3,if_pos k4];exact⟨d,hd,rfl⟩,rfl⟩
 by_cases k6:e.kind=6
 ·obtain⟨⟨bF,a1,a2⟩,ca,a3,a4⟩:=hv k6
  have F:=k6
  try refine sq F ?_
  refine wk F ?_
  refine kq F (pI G c h e.a e.b a1 a2 a3 a4 (by first|omega| (simp;omega))) ?_
  refine ee hQ F ?_
  exact aT hm (.tup _ (by simp)) ⟨rfl,_,by rw[StepR,if_neg k1,if_neg k2,if_neg k3,if_neg k4,if_pos k6],rfl⟩
 have n1:(e.kind==1)=false:=by simp[k1]
 have n2:(e.kind==2)=false:=by simp[k2]
 have n3:(e.kind==3)=false:=by simp[k3]
 have n4:(e.kind==4)=false:=by simp[k4]
 have n6:(e.kind==6)=false:=by simp[k6]
 by_cases k7:e.kind=7∨e.kind=8∨e.kind=9∨e.kind=10
 ·have hI2:=hI k7
  have hr2:=hr k7
  have hfin:StepR c e t b (if b then c.putF t else c):=by rw[StepR,if_neg k1,if_neg k2,if_neg k3,if_neg k4,if_neg k6,if_pos k7]
  cases b with
  |false=>
   rcases k7 with k|k|k|k
   all_goals (
    have F:=k
    try refine sq F ?_
    refine wk F ?_
    refine kq F (hI2 _) ?_
    refine ee hQ F ?_
    exact aT hm (.tup _ (by simp)) ⟨rfl,_,hfin,rfl⟩)
  |true=>
   obtain⟨r1,r2⟩:=hr2 rfl
   rcases k7 with k|k|k|k
   all_goals (
    have F:=k
    try refine sq F ?_
    refine wk F ?_
    refine kq F (hI2 _) ?_
    refine kq F (kR G c h t r1 r2 (by first|omega| (simp;omega))) ?_
    refine ee hQ F ?_
    exact aT hm (.tup _ (by simp)) ⟨rfl,_,hfin,rfl⟩)
 ·have n7:(e.kind==7)=false:=by simp;omega
  have n8:(e.kind==8)=false:=by simp;omega
  have n9:(e.kind==9)=false:=by simp;omega
  have n10:(e.kind==10)=false:=by simp;omega
  have F:=F9 n1 n2 n3 n4 n6 n7 n8 n9 n10
  try refine sq F ?_
  refine wk F ?_
  refine ee hQ F ?_
  exact aT hm (.tup _ (by simp)) ⟨rfl,_,by rw[StepR,if_neg k1,if_neg k2,if_neg k3,if_neg k4,if_neg k6,if_neg k7],rfl⟩
def CS.of(c:CS)(kind id:Int)(g:Bs):T2:=
 if kind=1 then c.al else if kind=2 then(lkM c.fo id).getD (0,0)else if kind=3 then(lkM c.fe id).getD (0,0)else if kind=4 then(lkM c.tg g).getD (0,0)else if kind=5 then c.st else(0,0)
theorem tC(c:CS)(kind id:Int)(g:Bs){H:Heap}{m:Nat}(hm:m+7≤H.length):
  Sat (CT G) 18 [.hp (m+6) 0 0 0,.int .i64 kind,.int .i64 id,.str g] (co H m c) (fun r h'=>r=.tup [.int .i64 (c.of kind id g).1,.int .i64 (c.of kind id g).2]∧h'=co H m c):=by
 by_cases k1:kind=1
 ·have F:=k1
  skip
  refine sb [.tmp 8,.tmp 9] (fn:=Tryz.f18) Tryz.func18 ?_
  intro Q hQ
  refine wn F ?_
  refine cu (by decide+kernel) (gV G) ?_
  refine sq F ?_
  refine wn F ?_
  skip
  all_goals (
   refine ee hQ F ?_
   exact aT hm (.tup _ (fun x hx=>by simp at hx;rcases hx with rfl|rfl<;>exact .int _ _)) ⟨by simp[CS.of,k1],rfl⟩)
 by_cases k2:kind=2
 ·have F:=k2
  skip
  refine sb [.tmp 8,.tmp 9] (fn:=Tryz.f18) Tryz.func18 ?_
  intro Q hQ
  refine wn F ?_
  refine cu (by decide+kernel) (gV G) ?_
  refine sq F ?_
  refine wn F ?_
  skip
  all_goals (
   refine ee hQ F ?_
   exact aT hm (.tup _ (fun x hx=>by simp at hx;rcases hx with rfl|rfl<;>exact .int _ _)) ⟨by simp[CS.of,k2],rfl⟩)
 by_cases k3:kind=3
 ·have F:=k3
  skip
  refine sb [.tmp 8,.tmp 9] (fn:=Tryz.f18) Tryz.func18 ?_
  intro Q hQ
  refine wn F ?_
  refine cu (by decide+kernel) (gV G) ?_
  refine sq F ?_
  refine wn F ?_
  skip
  all_goals (
   refine ee hQ F ?_
   exact aT hm (.tup _ (fun x hx=>by simp at hx;rcases hx with rfl|rfl<;>exact .int _ _)) ⟨by simp[CS.of,k3],rfl⟩)
 by_cases k4:kind=4
 ·have F:=k4
  skip
  refine sb [.tmp 8,.tmp 9] (fn:=Tryz.f18) Tryz.func18 ?_
  intro Q hQ
  refine wn F ?_
  refine cu (by decide+kernel) (gV G) ?_
  refine sq F ?_
  refine wn F ?_
  skip
  all_goals (
   refine ee hQ F ?_
   exact aT hm (.tup _ (fun x hx=>by simp at hx;rcases hx with rfl|rfl<;>exact .int _ _)) ⟨by simp[CS.of,k4],rfl⟩)
 by_cases k5:kind=5
 ·have F:=k5
  skip
  refine sb [.tmp 8,.tmp 9] (fn:=Tryz.f18) Tryz.func18 ?_
  intro Q hQ
  refine wn F ?_
  refine cu (by decide+kernel) (gV G) ?_
  refine sq F ?_
  refine wn F ?_
  skip
  all_goals (
   refine ee hQ F ?_
   exact aT hm (.tup _ (fun x hx=>by simp at hx;rcases hx with rfl|rfl<;>exact .int _ _)) ⟨by simp[CS.of,k5],rfl⟩)
 have n1:(kind==1)=false:=by simp[k1]
 have n2:(kind==2)=false:=by simp[k2]
 have n3:(kind==3)=false:=by simp[k3]
 have n4:(kind==4)=false:=by simp[k4]
 have n5:(kind==5)=false:=by simp[k5]
 have F:=F5 n1 n2 n3 n4 n5
 skip
 refine sb [.tmp 8,.tmp 9] (fn:=Tryz.f18) Tryz.func18 ?_
 intro Q hQ
 refine wn F ?_
 refine cu (by decide+kernel) (gV G) ?_
 refine sq F ?_
 refine wn F ?_
 skip
 all_goals (
  refine ee hQ F ?_
  exact aT hm (.tup _ (fun x hx=>by simp at hx;rcases hx with rfl|rfl<;>exact .int _ _)) ⟨by simp[CS.of,k1,k2,k3,k4,k5],rfl⟩)
end Go.Av
namespace Go.Av
open Go Go.Proofs Go.RowKit
attribute [local irreducible] WP WPl WPix Sat
section
variable {C:Ctx} {ops:Array Oper} {t:Env} {h:Heap} {dst:Option Nat} {ty:TypeId} {pos:String} {aft:Array Edge} {T:TypeId}
@[go_sem] theorem uP(len:Nat)(parts:Array (Nat×Operand))(K:AVal→Heap→Prop):wpOperV C ops ⟨dst,.buildSlice T len parts,ty,pos,aft,none⟩ t h K=
  rowsK C T len (parts.toList.map (·.1)) (parts.toList.map fun q=>aev C.G t q.2) h K:=by
 show wpOp C (.buildSlice T len parts) t h K=_
 simp only[wpOp,rowsK,List.length_map,Array.length_toList]
end
structure Ct where
 kind:Int
 id:Int
 tag:Bs
 all:Int
 un:Int
def Ct.av(x:Ct):AVal:=.agg [.int .i64 x.kind,.int .i64 x.id,.str x.tag,.int .i64 x.all,.int .i64 x.un]
@[go_sem] theorem Ct.av_eq(x:Ct):x.av=.agg [.int .i64 x.kind,.int .i64 x.id,.str x.tag,.int .i64 x.all,.int .i64 x.un]:=(rfl)
theorem Ct.clo(N:Nat)(x:Ct):Clo N x.av:=bt fun c hc=>by simp[Ct.av]at hc;rcases hc with rfl|rfl|rfl|rfl|rfl<;>simp
theorem Ct.cells_sto(e:Ct):∀c∈e.av.cells,c.sto=true:=by
 intro c hc;simp only[Ct.av,AVal.cells,List.mem_cons,List.mem_nil_iff,or_false]at hc;rcases hc with rfl|rfl|rfl|rfl|rfl<;>rfl
def ctI(kind:Int)(l:ML Int T2)(id:Int):Ct:=⟨kind,id,[],((lkM l id).getD (0,0)).1,((lkM l id).getD (0,0)).2⟩
def toldI(kind:Int)(l:ML Int T2):List Ct:=(sortI (l.map (·.1))).map (ctI kind l)
def ctS(l:ML Bs T2)(g:Bs):Ct:=⟨4,0,g,((lkM l g).getD (0,0)).1,((lkM l g).getD (0,0)).2⟩
def toldS(l:ML Bs T2):List Ct:=(sortB (l.map (·.1))).map (ctS l)
def CS.tell(c:CS):List Ct:=⟨1,0,[],c.al.1,c.al.2⟩::(toldI 2 c.fo++toldI 3 c.fe++toldS c.tg)++[⟨5,0,[],c.st.1,c.st.2⟩]
theorem r7(l:List Bs):(sortB l).length=l.length:=(List.mergeSort_perm _ _).length_eq
variable (G:Nat→Option (List AVal))
theorem r8(p:Nat)(h:Heap):Sat (CT G) 85 [.hm p] h (fun r h'=>r=.fn (.func 138) [] [.hp h.length 0 0 0]∧h'=h++[.row 89 1 0 [.hm p]]):=by
 refine sb [.tmp 2] (fn:=Tryz.f85) Tryz.func85 ?_
 intro Q hQ
 refine wk trivial ?_
 refine ee hQ trivial ?_
 exact Fin.whole (by simp) (.fn _ _ _ (fun _ h=>by cases h) (fun x hx=>by simp at hx;subst hx;exact .hp _ _ _ _ (by simp))) ⟨rfl,rfl⟩
theorem pL(p:Nat)(h:Heap):Sat (CT G) 46 [.hm p] h (fun r h'=>r=.fn (.func 88) [] [.hp h.length 0 0 0]∧h'=h++[.row 90 1 0 [.hm p]]):=by
 refine sb [.tmp 2] (fn:=Tryz.f46) Tryz.func46 ?_
 intro Q hQ
 refine wk trivial ?_
 refine ee hQ trivial ?_
 exact Fin.whole (by simp) (.fn _ _ _ (fun _ h=>by cases h) (fun x hx=>by simp at hx;subst hx;exact .hp _ _ _ _ (by simp))) ⟨rfl,rfl⟩
theorem jx(kind:Int)(l:ML Int T2)(c:Nat)(hw:WFM l c)(hb:∀e∈l, -9223372036854775808≤e.1∧e.1≤9223372036854775807)(hl:l.length≤100000){h:Heap}{p:Nat}(hp:mapAt h p=some (encM iA tA l,c)):
  Sat (CT G) 44 [.int .i64 kind,.hm p] h (fun r h'=>r=.sl 5 ((toldI kind l).map Ct.av)∧h'=h):=by
 have hsl:=bJ (l.map (·.1))
 rw[List.length_map]at hsl
 have hpl:p<h.length:=by
  refine Nat.lt_of_not_le fun hle=>?_
  unfold mapAt at hp
  rw[List.getElem?_eq_none hle]at hp
  cases hp
 have hpa:∀j,mapAt (h++j) p=some (encM iA tA l,c):=fun j=>by rw[vJ hpl];exact hp
 refine sb [.tmp 4] (fn:=Tryz.f44) Tryz.func44 ?_
 intro Q hQ
 refine wk trivial ?_
 refine kq trivial (r8 G _ _) ?_
 refine kq trivial (cI G tA _ Tryz.sortedKeys85 l c hw hb hl (by rw[aG _ rfl];rfl) (hpa _)) ?_
 unfold toldI at hQ
 have hks:(List.map (fun x=>x.1) l).mergeSort (fun x y=>decide (x≤y))=sortI (l.map (·.1)):=rfl
 rw[hks]
 generalize sortI (l.map (·.1))=ks at*
 have hkm:(ks.map iA).length=ks.length:=List.length_map ..
 have F:=hkm
 refine lm (fun nL tL hL=>∃(k v:Nat) (acc:List Ct),ks.length-k=nL∧h++[.row 89 1 0 [.hm p],.row 88 5 v (acc.map Ct.av)]=hL∧tL 0=.int .i64 kind∧tL 1=.hm p∧tL 5=.hs (h.length+1) v 0 acc.length true∧tL 10=.sl 1 (ks.map iA)∧tL 11=.int .i64 (ks.length:Int)∧tL 12=.int .i64 k∧k≤ks.length∧acc.length=k∧acc++(ks.drop k).map (ctI kind l)=ks.map (ctI kind l)) ((fun(k v:Nat) (acc:List Ct)=>(ks.length-k:Nat)) (0) (0) ([])) ?_ ?_
 ·refine⟨_,_,Weak.virt 5 88 5 (by simp) (by omega) (by exact zq F),⟨0,0,[],rfl,by simp,?_,?_,?_,?_,?_,?_,by omega,rfl,by simp⟩⟩
  all_goals first|exact zq F|rfl|omega|trivial|skip
 rintro _ s2 h' ⟨k,v,acc,rfl,rfl,e0,e1,e5,e10,e11,e12,hk,hac,hpp⟩ K2 hK2
 simp only[ai,ao,Nat.reduceEqDiff, ↓reduceIte]at e0 e1 e5 e10 e11 e12
 have F:=F7 F e0 e1 e5 e10 e11 e12
 refine wk F ?_
 refine cq F (fun c1=>?_) (fun c1=>?_)<;>(try exact c1.elim)<;>(refine wk F ?_)
 ·have c2:k<ks.length:=by omega
  obtain⟨y,hy,hym⟩:=ac c2
  rw[aH hy,List.map_cons]at hpp
  have F:=F4 F hy hpa @aJ
  try refine sq F ?_
  refine wk F ?_
  refine aq F ?_
  try refine sq F ?_
  refine wk F ?_
  refine hK2 _ _ _ (Wkn.refl ⟨k+1,v+1,acc++[ctI kind l y],rfl,by simp[Ct.av,ctI],?_,?_,?_,?_,?_,?_,by omega,by simp;omega,by rw[← hpp];simp⟩) (by omega)
  all_goals first|exact zq F|rfl|omega|trivial|skip
 ·rw[aN c1,List.map_nil,List.append_nil]at hpp
  refine ee hQ F ?_
  rw[← hpp]
  have hg:getRow (h++[.row 89 1 0 [.hm p],.row 88 5 v (acc.map Ct.av)]) (h.length+1) v=some (88,5,acc.map Ct.av):=by
   rw[bo _ rfl];simp[getRow]
  exact Fin.frz (Frz.data (by omega) hg (by simp) (fun r hr=>by obtain⟨a,_,rfl⟩:=List.mem_map.1 hr;exact Ct.clo _ a) (fun r hr=>by obtain⟨a,_,rfl⟩:=List.mem_map.1 hr;exact a.cells_sto)) ⟨rfl,rfl⟩
end Go.Av
namespace Go.Av
open Go Go.Proofs Go.RowKit
attribute [local irreducible] WP WPl WPix Sat
variable (G:Nat→Option (List AVal))
theorem kT(k:Int)(l:ML Int T2):(toldI k l).length=l.length:=by unfold toldI;rw[List.length_map,bJ,List.length_map]
theorem jy(c:CS)(w:c.Wf)(b1:∀e∈c.fo, -9223372036854775808≤e.1∧e.1≤9223372036854775807)(b2:∀e∈c.fe, -9223372036854775808≤e.1∧e.1≤9223372036854775807)(b3:∀e∈c.tg,e.1.length≤1048576)
  (l1:c.fo.length≤100000)(l2:c.fe.length≤100000)(l3:c.tg.length≤100000){H:Heap}{m:Nat}(hm:m+7≤H.length):
  Sat (CT G) 16 [.hp (m+6) 0 0 0] (co H m c) (fun r h'=>r=.sl 5 (c.tell.map Ct.av)∧h'=co H m c):=by
 have hsl:=r7 (c.tg.map (·.1))
 rw[List.length_map]at hsl
 have e1:=kT 2 c.fo
 have e2:=kT 3 c.fe
 skip
 refine sb [.tmp 2] (fn:=Tryz.f16) Tryz.func16 ?_
 intro Q hQ
 refine wn trivial ?_
 skip
 refine bG 11 0 _ (by rfl) (by decide+kernel) (by kernel_rfl) (by decide+kernel) (by decide+kernel) (by decide+kernel) ?_
 simp only[List.take_succ_cons,List.take_zero]
 refine sq trivial ?_
 refine wx trivial ?_
 skip
 skip
 refine kq trivial (jx G 2 c.fo c.c1 w.w1 b1 l1 (yR (by first|omega| (simp;omega)))) ?_
 have F:= @aJ
 refine aq F ?_
 try refine sq F ?_
 refine wk F ?_
 refine kq F (jx G 3 c.fe c.c2 w.w2 b2 l2 (yS (by first|omega| (simp;omega)))) ?_
 refine aq F ?_ (hl:=by simp;omega)
 try refine sq F ?_
 refine wk F ?_
 refine kq F (pL G _ _) ?_
 refine kq F (nB G tA _ Tryz.sortedKeys46 c.tg c.c3 w.w3 b3 l3 (by rw[jX (by simp;omega) 0 (by omega),bo _ rfl];rfl) (yT (by simp;omega))) ?_
 have hks:(List.map (fun x=>x.1) c.tg).mergeSort (fun x y=>decide (x≤y))=sortB (c.tg.map (·.1)):=rfl
 have htel:c.tell=(⟨1,0,[],c.al.1,c.al.2⟩::(toldI 2 c.fo++toldI 3 c.fe))++(sortB (c.tg.map (·.1))).map (ctS c.tg)++[⟨5,0,[],c.st.1,c.st.2⟩]:=by unfold CS.tell toldS;simp
 rw[hks]
 rw[htel]at hQ
 generalize hpre:(⟨1,0,[],c.al.1,c.al.2⟩::(toldI 2 c.fo++toldI 3 c.fe):List Ct)=pre at*
 have hprl:pre.length=1+c.fo.length+c.fe.length:=by rw[← hpre];simp[e1,e2];omega
 generalize sortB (c.tg.map (·.1))=ks at*
 have hkm:(ks.map AVal.str).length=ks.length:=List.length_map ..
 have hprl2:1+((toldI 2 c.fo).length+(toldI 3 c.fe).length)=pre.length:=by omega
 have F:=F3 F hkm @hprl2
 refine lm (fun nL tL hL=>∃(k v:Nat) (acc:List Ct) (hh:Heap),ks.length-k=nL∧co hh m c=hL∧tL 0=.hp (m+6) 0 0 0∧tL 3=.hs H.length v 0 acc.length true∧tL 40=.sl 1 (ks.map .str)∧tL 41=.int .i64 (ks.length:Int)∧tL 42=.int .i64 k∧k≤ks.length∧acc.length=pre.length+k∧acc++(ks.drop k).map (ctS c.tg)=pre++ks.map (ctS c.tg)∧(FrN H.length H hh∧H.length<hh.length)∧getRow hh H.length v=some (88,5,acc.map Ct.av)) ((fun(k v:Nat) (acc:List Ct) (hh:Heap)=>(ks.length-k:Nat)) (0) (2) (pre) (H++[.row 88 5 2 (pre.map Ct.av),.row 90 1 0 [.hm (m+2)]])) ?_ ?_
 ·refine Wkn.refl ⟨0,2,pre,H++[.row 88 5 2 (pre.map Ct.av),.row 90 1 0 [.hm (m+2)]],rfl,by rw[← hpre];simp[Ct.av],?_,?_,?_,?_,?_,by omega,rfl,by simp,⟨FrN.app _ (by omega) (FrN.refl _ _),by simp⟩,by rw[aG _ rfl];simp[getRow]⟩
  all_goals first|exact zq F|rfl|omega|trivial|skip
 rintro _ s2 h' ⟨k,v,acc,hh,rfl,rfl,e0,e3,e40,e41,e42,hk,hac,hpp,hfr,hg⟩ K2 hK2
 simp only[ai,ao,Nat.reduceEqDiff, ↓reduceIte]at e0 e3 e40 e41 e42
 have F:=F6 F e0 e3 e40 e41 e42
 refine wk F ?_
 obtain⟨hfr,hfl⟩:=hfr
 have hm1:m+7≤hh.length:=by omega
 have hll:k+pre.length≤300001:=by omega
 refine cq F (fun c1=>?_) (fun c1=>?_)<;>(try exact c1.elim)<;>(refine wk F ?_)
 ·have c2:k<ks.length:=by omega
  obtain⟨y,hy,hym⟩:=ac c2
  rw[aH hy,List.map_cons]at hpp
  have F:=F4 F hy hg @aJ
  try refine sq F ?_
  refine wk F ?_
  refine aq F ?_
  try refine sq F ?_
  refine wk F ?_
  refine hK2 _ _ _ (Wkn.refl ⟨k+1,v+1,acc++[ctS c.tg y],hh.set H.length (.row 88 5 (v+1) ((acc++[ctS c.tg y]).map Ct.av))++[.row 94 2 0 [.agg [.int .i64 ((lkM c.tg y).getD (0,0)).1,.int .i64 ((lkM c.tg y).getD (0,0)).2]]],rfl,by simp[Ct.av,ctS],?_,?_,?_,?_,?_,by omega,by simp;omega,by rw[← hpp];simp,⟨FrN.app _ (by simp;omega) (FrN.set _ (by omega) hfr),by simp;omega⟩,by rw[bi _ (by simp;omega),bW _ _ _ _ _ (by omega),if_pos rfl]⟩) (by omega)
  all_goals first|exact zq F|rfl|omega|trivial|skip
 ·rw[aN c1,List.map_nil,List.append_nil]at hpp
  rw[← hpp]at hQ
  have F:=F3 F hg @aJ
  try refine sq F ?_
  refine wk F ?_
  refine aq F ?_
  try refine sq F ?_
  refine wk F ?_
  refine ee hQ F ?_
  obtain⟨j,hj⟩:=hfr.behind (by omega)
  subst hj
  rw[eu _ rfl]
  have hgf:getRow (co (H++j.set 0 (.row 88 5 (v+1) (acc.map Ct.av++[(⟨5,0,[],c.st.1,c.st.2⟩:Ct).av]))) m c) H.length (v+1)=some (88,5,(acc++[(⟨5,0,[],c.st.1,c.st.2⟩:Ct)]).map Ct.av):=by
   rw[jX (by simp;omega) _ (by omega),aG _ rfl]
   cases j with
   |nil=>simp at hfl
   |cons x j=>simp[getRow]
  have hz:=Frz.data (n:=H.length) (len:=acc.length+1) (room:=true) (Nat.le_refl _) hgf (by simp) (fun r hr=>by obtain⟨a,_,rfl⟩:=List.mem_map.1 hr;exact Ct.clo _ a) (fun r hr=>by obtain⟨a,_,rfl⟩:=List.mem_map.1 hr;exact a.cells_sto)
  exact uJ hm hz ⟨rfl,rfl⟩
end Go.Av
