/- Parts. -/
import Derived.Test.YtllhfnepgcbjnaaGreatMnHa
import Derived.RangeFuncLeaves
import Derived.RangeFuncRecord
set_option linter.unusedSimpArgs false
set_option linter.unusedVariables false
set_option linter.unusedSectionVars false
set_option linter.unnecessarySimpa false
set_option maxRecDepth 100000
set_option maxHeartbeats 16000000
namespace Go.Av
open Go Go.Proofs Go.RowKit
attribute [local irreducible] WP WPl WPix Sat
variable (G:Nat→Option (List AVal))
def PS.fits(s:PS)(ok:Bool)(dp:Nat)(e:Ev):Bool:=
 ok&&(
  if e.kind=1 then !(lkM s.fo e.a).isSome&&decide (s.fo.length<64)&&s.within e.b&&decide (dp<7)&&((lkM s.nm (e.b,e.s)).getD 0==0)
  else if e.kind=2 then(lkM s.fo e.a).isSome&&((lkM s.he e.a).getD 0==0)
  else if e.kind=3 then !(lkM s.fe e.a).isSome&&decide (s.fe.length<64)&&s.within e.b&&((lkM s.pl e.s).getD 0==0)
  else if e.kind=4∨e.kind=5 then(lkM s.fe e.a).isSome
  else if e.kind=6 then(lkM s.fe e.a).isSome&&s.within e.b
  else if e.kind=7 then !(lkM s.it e.a).isSome&&decide (s.it.length<1024)&&(lkM s.fe e.b).isSome&&((lkM s.gu (e.b,e.s)).getD 0==0)
  else if e.kind=8∨e.kind=9 then(lkM s.it e.a).isSome
  else if e.kind=10 then(lkM s.it e.a).isSome&&(decide (e.n=0)||decide (e.s∈ ((lkM s.it e.a).getD It.z).tags)||decide (((lkM s.it e.a).getD It.z).tags.length<8))
  else if e.kind=11 then !(lkM s.se e.a).isSome&&decide (s.se.length<32)
  else if e.kind=12 then(lkM s.se e.a).isSome
  else decide (s.clock≤e.n))
theorem r8(s:PS)(e:Ev)(ok:Bool)(k dp:Nat)(hdp:deepO s.fo k e.b=some dp)(hdk:dp≤1000)(hl:s.fo.length≤100∧s.fe.length≤100∧s.it.length≤2000∧s.se.length≤100)
  (hE:∀h,Sat (CT G) 70 [e.av] h (fun r h'=>r=.int .i64 (if ok then 0 else 140)∧h'=h))
  (hB:∀(n:Nat) (H:Heap),n+9≤H.length→Sat (CT G) 73 [.hp (n+8) 0 0 0,.int .i64 e.a,.str e.s] (so H n s) (fun r h'=>(∃i:Int,r=.tup [.int .i64 i,.bool (decide (e.s∈ ((lkM s.it e.a).getD It.z).tags))])∧h'=so H n s))
  {H:Heap}{n:Nat}(hn:n+9≤H.length):Sat (CT G) 38 [.hp (n+8) 0 0 0,e.av] (so H n s) (fun r h'=>r=.bool (s.fits ok dp e)∧h'=so H n s):=by
 cases ok with
 |false=>
  have hE:=fun h=>(hE h)
  refine sb [.tmp 4] Tryz.func38 ?_;intro Q hQ;refine wk trivial ?_;refine kq trivial (hE _) ?_;refine ee hQ trivial ?_;exact az hn (.bool _) ⟨rfl,rfl⟩
 |true=>
  refine sb [.tmp 4] Tryz.func38 ?_;intro Q hQ;refine wk trivial ?_;refine kq trivial (hE _) ?_;refine aA 12 [10,11] [true,true,true,true,true,true,true,true,true,true,false,false] (.one 10 [false,true,true,true,true,true,true] (.one 11 [] .fin)) (by decide+kernel) (by kernel_rfl) (by decide+kernel) ?_;simp only[aD,aE,aC];try refine sq trivial ?_
  repeat' ((first|refine ae ?_|refine af ?_|refine ah ?_ ?_)<;>try refine sq trivial ?_)
  all_goals try refine wk trivial ?_
  refine aA 12 [10,11] [true,true,true,true,true,true,true,true,true,true,false,false] (.one 10 [false,true,true,true,true,true,true] (.one 11 [] .fin)) (by decide+kernel) (by kernel_rfl) (by decide+kernel) ?_;simp only[aD,aE,aC];try refine sq trivial ?_
  repeat' ((first|refine ae ?_|refine af ?_|refine ah ?_ ?_)<;>try refine sq trivial ?_)
  all_goals try refine wk trivial ?_
  refine aA 12 [10,11] [true,true,true,true,true,true,true,true,true,true,false,false] (.one 10 [false,true,true,true,true,true,true] (.one 11 [] .fin)) (by decide+kernel) (by kernel_rfl) (by decide+kernel) ?_;simp only[aD,aE,aC];try refine sq trivial ?_
  repeat' ((first|refine ae ?_|refine af ?_|refine ah ?_ ?_)<;>try refine sq trivial ?_)
  all_goals try refine wk trivial ?_
  refine aA 12 [10,11] [true,true,true,true,true,true,true,true,true,true,false,false] (.one 10 [false,true,true,true,true,true,true] (.one 11 [] .fin)) (by decide+kernel) (by kernel_rfl) (by decide+kernel) ?_;simp only[aD,aE,aC];try refine sq trivial ?_
  repeat' ((first|refine ae ?_|refine af ?_|refine ah ?_ ?_)<;>try refine sq trivial ?_)
  all_goals try refine wk trivial ?_
  by_cases k1:e.kind=1
  ·have F:=k1;(try refine sq F ?_);refine wk F ?_;refine gGp F ?_ ?_<;>intro g1<;>(first|exact g1.elim|(try refine sq F ?_);refine wk F ?_)
   ·skip
    refine gGp F ?_ ?_<;>intro g2<;>(first|exact g2.elim|(try refine sq F ?_);refine wk F ?_)
    ·have ag2:s.fo.length<64:=(by omega);refine au (eT G s e.b (by simp;omega)) ?_;(try refine sq F ?_);refine wk F ?_;refine gGp F ?_ ?_<;>intro g3<;>(first|exact g3.elim|(try refine sq F ?_);refine wk F ?_)
     ·skip
      refine au (qx G s e.b k dp hdp hdk (by simp;omega)) ?_;(try refine sq F ?_);refine wk F ?_;refine gGp F ?_ ?_<;>intro g4<;>(first|exact g4.elim|(try refine sq F ?_);refine wk F ?_)
      ·have ag4:dp<7:=(by omega);refine ee hQ F ?_;exact az hn (.bool _) ⟨by simp[PS.fits,k1,g1,ag2,g3,ag4],rfl⟩
      ·have ag4:¬dp<7:=(by omega);refine ee hQ F ?_;exact az hn (.bool _) ⟨by simp[PS.fits,k1,g1,ag2,g3,ag4],rfl⟩
     ·skip
      refine ee hQ F ?_;exact az hn (.bool _) ⟨by simp[PS.fits,k1,g1,ag2,g3],rfl⟩
    ·have ag2:¬s.fo.length<64:=(by omega);refine ee hQ F ?_;exact az hn (.bool _) ⟨by simp[PS.fits,k1,g1,ag2],rfl⟩
   ·skip
    refine ee hQ F ?_;exact az hn (.bool _) ⟨by simp[PS.fits,k1,g1],rfl⟩
  by_cases k2:e.kind=2
  ·have F:=k2;(try refine sq F ?_);refine wk F ?_;refine gGp F ?_ ?_<;>intro g1<;>(first|exact g1.elim|(try refine sq F ?_);refine wk F ?_)
   ·skip
    refine ee hQ F ?_;exact az hn (.bool _) ⟨by simp[PS.fits,k2,g1],rfl⟩
   ·skip
    refine ee hQ F ?_;exact az hn (.bool _) ⟨by simp[PS.fits,k2,g1],rfl⟩
  by_cases k3:e.kind=3
  ·have F:=k3;(try refine sq F ?_);refine wk F ?_;refine gGp F ?_ ?_<;>intro g1<;>(first|exact g1.elim|(try refine sq F ?_);refine wk F ?_)
   ·skip
    refine gGp F ?_ ?_<;>intro g2<;>(first|exact g2.elim|(try refine sq F ?_);refine wk F ?_)
    ·have ag2:s.fe.length<64:=(by omega);refine au (eT G s e.b (by simp;omega)) ?_;(try refine sq F ?_);refine wk F ?_;refine gGp F ?_ ?_<;>intro g3<;>(first|exact g3.elim|(try refine sq F ?_);refine wk F ?_)
     ·skip
      refine ee hQ F ?_;exact az hn (.bool _) ⟨by simp[PS.fits,k3,g1,ag2,g3],rfl⟩
     ·skip
      refine ee hQ F ?_;exact az hn (.bool _) ⟨by simp[PS.fits,k3,g1,ag2,g3],rfl⟩
    ·have ag2:¬s.fe.length<64:=(by omega);refine ee hQ F ?_;exact az hn (.bool _) ⟨by simp[PS.fits,k3,g1,ag2],rfl⟩
   ·skip
    refine ee hQ F ?_;exact az hn (.bool _) ⟨by simp[PS.fits,k3,g1],rfl⟩
  by_cases k4:e.kind=4
  ·have F:=k4;(try refine sq F ?_);refine wk F ?_;refine ee hQ F ?_;exact az hn (.bool _) ⟨by simp[PS.fits,k4],rfl⟩
  by_cases k5:e.kind=5
  ·have F:=k5;(try refine sq F ?_);refine wk F ?_;refine ee hQ F ?_;exact az hn (.bool _) ⟨by simp[PS.fits,k5],rfl⟩
  by_cases k6:e.kind=6
  ·have F:=k6;(try refine sq F ?_);refine wk F ?_;refine gGp F ?_ ?_<;>intro g1<;>(first|exact g1.elim|(try refine sq F ?_);refine wk F ?_)
   ·refine kq F (eT G s e.b (by simp;omega)) ?_;refine ee hQ F ?_;exact az hn (.bool _) ⟨by simp[PS.fits,k6,g1],rfl⟩
   ·skip
    refine ee hQ F ?_;exact az hn (.bool _) ⟨by simp[PS.fits,k6,g1],rfl⟩
  by_cases k7:e.kind=7
  ·have F:=k7;(try refine sq F ?_);refine wk F ?_;refine aA 12 [10,11] [true,true,true,true,true,true,true,true,true,true,false,false] (.one 10 [false,true,true,true,true,true,true] (.one 11 [] .fin)) (by decide+kernel) (by kernel_rfl) (by decide+kernel) ?_;simp only[aD,aE,aC];(try refine sq F ?_);repeat' ((first|refine ae ?_|refine af ?_|refine ah ?_ ?_)<;>try refine sq F ?_)
   (all_goals try refine wk F ?_);refine gGp F ?_ ?_<;>intro g1<;>(first|exact g1.elim|(try refine sq F ?_);refine wk F ?_)
   ·skip
    refine gGp F ?_ ?_<;>intro g2<;>(first|exact g2.elim|(try refine sq F ?_);refine wk F ?_)
    ·have ag2:s.it.length<1024:=(by omega);refine gGp F ?_ ?_<;>intro g3<;>(first|exact g3.elim|(try refine sq F ?_);refine wk F ?_)
     ·skip
      refine ee hQ F ?_;exact az hn (.bool _) ⟨by simp[PS.fits,k7,g1,ag2,g3],rfl⟩
     ·skip
      refine ee hQ F ?_;exact az hn (.bool _) ⟨by simp[PS.fits,k7,g1,ag2,g3],rfl⟩
    ·have ag2:¬s.it.length<1024:=(by omega);refine ee hQ F ?_;exact az hn (.bool _) ⟨by simp[PS.fits,k7,g1,ag2],rfl⟩
   ·skip
    refine ee hQ F ?_;exact az hn (.bool _) ⟨by simp[PS.fits,k7,g1],rfl⟩
  by_cases k8:e.kind=8
  ·have F:=k8;(try refine sq F ?_);refine wk F ?_;refine ee hQ F ?_;exact az hn (.bool _) ⟨by simp[PS.fits,k8],rfl⟩
  by_cases k9:e.kind=9
  ·have F:=k9;(try refine sq F ?_);refine wk F ?_;refine ee hQ F ?_;exact az hn (.bool _) ⟨by simp[PS.fits,k9],rfl⟩
  by_cases k10:e.kind=10
  ·have F:=k10;(try refine sq F ?_);refine wk F ?_;refine(hB n _ (by simp;omega)).mono ?_;rintro r h' ⟨⟨i,rfl⟩,rfl⟩;(try refine sq F ?_);refine wk F ?_;refine gGp F ?_ ?_<;>intro g1<;>(first|exact g1.elim|(try refine sq F ?_);refine wk F ?_)
   ·refine gGp F ?_ ?_<;>intro g2<;>(first|exact g2.elim|(try refine sq F ?_);refine wk F ?_)
    ·skip
     refine ee hQ F ?_;exact az hn (.bool _) ⟨by simp[PS.fits,k10,g1,g2],rfl⟩
    ·refine gGp F ?_ ?_<;>intro g3<;>(first|exact g3.elim|(try refine sq F ?_);refine wk F ?_)
     ·skip
      refine ee hQ F ?_;exact az hn (.bool _) ⟨by simp[PS.fits,k10,g1,g2,g3],rfl⟩
     ·skip
      refine ee hQ F ?_;exact az hn (.bool _) ⟨by simp[PS.fits,k10,g1,g2,g3];omega,rfl⟩
   ·skip
    refine ee hQ F ?_;exact az hn (.bool _) ⟨by simp[PS.fits,k10,g1],rfl⟩
  by_cases k11:e.kind=11
  ·have F:=k11;(try refine sq F ?_);refine wk F ?_;refine gGp F ?_ ?_<;>intro g1<;>(first|exact g1.elim|(try refine sq F ?_);refine wk F ?_)
   ·skip
    refine ee hQ F ?_;exact az hn (.bool _) ⟨by simp[PS.fits,k11,g1];omega,rfl⟩
   ·skip
    refine ee hQ F ?_;exact az hn (.bool _) ⟨by simp[PS.fits,k11,g1],rfl⟩
  by_cases k12:e.kind=12
  ·have F:=k12;(try refine sq F ?_);refine wk F ?_;refine ee hQ F ?_;exact az hn (.bool _) ⟨by simp[PS.fits,k12],rfl⟩
  have n1:(e.kind==1)=false:=by simp[k1]
  have n2:(e.kind==2)=false:=by simp[k2]
  have n3:(e.kind==3)=false:=by simp[k3]
  have n4:(e.kind==4)=false:=by simp[k4]
  have n5:(e.kind==5)=false:=by simp[k5]
  have n6:(e.kind==6)=false:=by simp[k6]
  have n7:(e.kind==7)=false:=by simp[k7]
  have n8:(e.kind==8)=false:=by simp[k8]
  have n9:(e.kind==9)=false:=by simp[k9]
  have n10:(e.kind==10)=false:=by simp[k10]
  have n11:(e.kind==11)=false:=by simp[k11]
  have n12:(e.kind==12)=false:=by simp[k12]
  have F:=F2 (F9 n1 n2 n3 n4 n5 n6 n7 n8 n9) (F3 n10 n11 n12);try refine sq F ?_
  refine wk F ?_;refine ee hQ F ?_;exact az hn (.bool _) ⟨by simp[PS.fits,k1,k2,k3,k4,k5,k6,k7,k8,k9,k10,k11,k12],rfl⟩
end Go.Av
namespace Go.Av
open Go Go.Proofs Go.RowKit
abbrev T2:=Int×Int
def tA(t:T2):AVal:=.agg [.int .i64 t.1,.int .i64 t.2]
def tadd(a b:T2):T2:=(a.1+b.1,a.2+b.2)
structure CS where
 al:T2
 st:T2
 fo:ML Int T2
 fe:ML Int T2
 tg:ML Bs T2
 it:ML Int It
 inn:ML Int Int
 ab:ML Int Int
 c1:Nat
 c2:Nat
 c3:Nat
 c4:Nat
 c5:Nat
 c6:Nat
def CS.row(m:Nat)(c:CS):AVal:=.agg [.int .i64 c.al.1,.int .i64 c.al.2,.int .i64 c.st.1,.int .i64 c.st.2,.hm m,.hm (m+1),.hm (m+2),.hm (m+3),.hm (m+4),.hm (m+5)]
def CS.bl(m:Nat)(c:CS):List Blk:=
 [.mp (encM iA tA c.fo) c.c1,.mp (encM iA tA c.fe) c.c2,.mp (encM AVal.str tA c.tg) c.c3,.mp (encM iA It.av c.it) c.c4,.mp (encM iA iA c.inn) c.c5,.mp (encM iA iA c.ab) c.c6,.row 0 10 0 [c.row m]]
def CS.z:CS:=⟨(0,0),(0,0),[],[],[],[],[],[],0,0,0,0,0,0⟩
def co(H:Heap)(m:Nat)(c:CS):Heap:=ov H m (c.bl m)
section
variable {H:Heap} {m:Nat} {c:CS}
end
def negT(t:T2):T2:=(-t.1, -t.2)
def oneT(t:It):T2:=(1,if t.read then 0 else 1)
def foF(t:T2):List Int→ML Int T2→Nat→ML Int T2×Nat
 | [],l,k=>(l,k)
 |id::ch,l,k=>foF t ch (upM l k id (tadd ((lkM l id).getD (0,0)) t)) (ckM l k id)
def CS.shift(c:CS)(ch:List Int)(feed:Int)(t:T2):CS:=
 {c with al:=tadd c.al t,fe:=upM c.fe c.c2 feed (tadd ((lkM c.fe feed).getD (0,0)) t),c2:=ckM c.fe c.c2 feed,fo:=(foF t ch c.fo c.c1).1,c1:=(foF t ch c.fo c.c1).2}
def tg1F(n:T2)(g:Bs)(l:ML Bs T2)(k:Nat):ML Bs T2×Nat:=
 if (tadd ((lkM l g).getD (0,0)) n).1=0 then(dlM l g,k)else(upM l k g (tadd ((lkM l g).getD (0,0)) n),ckM l k g)
def tgsF(n:T2):List Bs→ML Bs T2→Nat→ML Bs T2×Nat
 | [],l,k=>(l,k)
 |g::gs,l,k=>tgsF n gs (tg1F n g l k).1 (tg1F n g l k).2
def CS.tag(c:CS)(g:Bs)(n:T2):CS:= {c with tg:=(tg1F n g c.tg c.c3).1,c3:=(tg1F n g c.tg c.c3).2}
def CS.tags(c:CS)(gs:List Bs)(n:T2):CS:= {c with tg:=(tgsF n gs c.tg c.c3).1,c3:=(tgsF n gs c.tg c.c3).2}
def CS.star(c:CS)(b:Bool)(n:T2):CS:= {c with st:=if b then tadd c.st n else c.st}
def CS.count(c:CS)(ch:List Int)(t:It)(n:T2):CS:=((c.shift ch t.feed n).star t.star n).tags t.tags n
def chO(ab:ML Int Int):Nat→Int→Option (List Int)
 |0,id=>if id=0 then some []else none
 |k+1,id=>if id=0 then some []else(chO ab k ((lkM ab id).getD 0)).map (id:: ·)
def CS.chn(c:CS)(feed:Int):List Int:=(chO c.ab 7 ((lkM c.inn feed).getD 0)).getD []
theorem tw(t:T2):∀{ch:List Int} (_:ch.Nodup) (l:ML Int T2) (k:Nat) (x:Int),lkM (foF t ch l k).1 x=if x∈ch then some (tadd ((lkM l x).getD (0,0)) t)else lkM l x:=by
 intro ch;induction ch with
 |nil=>intro _ l k x;simp[foF]
 |cons a ch ih=>
  intro hn l k x;rw[U8]at hn;rw[foF,ih hn.2];by_cases hx:x∈ch
  ·have hxa:x≠a:=fun e=>hn.1 (e▸hx)
   rw[M1 hx,M1 (V7 _ hx),aI,L5 hxa]
  ·rw[L5 hx,aI];by_cases hxa:x=a
   ·subst hxa;rw[M1 rfl,M1 (W7 ..)]
   ·rw[L5 hxa,L5 (by simp[hx,hxa])]
theorem zt(t:T2):∀(ch:List Int) {l:ML Int T2} {k:Nat},WFM l k→WFM (foF t ch l k).1 (foF t ch l k).2:=by
 intro ch;induction ch with
 |nil=>intro l k h;exact h
 |cons a ch ih=>intro l k h;rw[foF];exact ih (h.up _ _)
theorem pz(n:T2)(g:Bs){l:ML Bs T2}{k:Nat}(h:WFM l k):WFM (tg1F n g l k).1 (tg1F n g l k).2:=by
 unfold tg1F;split
 ·exact h.dl _
 ·exact h.up _ _
theorem xO(n:T2):∀(gs:List Bs) {l:ML Bs T2} {k:Nat},WFM l k→WFM (tgsF n gs l k).1 (tgsF n gs l k).2:=by
 intro gs;induction gs with
 |nil=>intro l k h;exact h
 |cons a gs ih=>intro l k h;rw[tgsF];exact ih (pz _ _ h)
def some0(u:T2):Option T2:=if u.1=0 then none else some u
theorem pA(n:T2)(g:Bs){l:ML Bs T2}{k:Nat}(w:WFM l k)(x:Bs):lkM (tg1F n g l k).1 x=if x=g then some0 (tadd ((lkM l x).getD (0,0)) n)else lkM l x:=by
 unfold tg1F some0;by_cases hx:x=g
 ·subst hx;rw[M1 rfl];split
  ·rw[cK w.keys,M1 rfl]
  ·rw[aI,M1 rfl]
 ·rw[L5 hx];split
  ·rw[cK w.keys,L5 hx]
  ·rw[aI,L5 hx]
theorem xP(n:T2):∀{gs:List Bs} (_:gs.Nodup) {l:ML Bs T2} {k:Nat} (_:WFM l k) (x:Bs),lkM (tgsF n gs l k).1 x=if x∈gs then some0 (tadd ((lkM l x).getD (0,0)) n)else lkM l x:=by
 intro gs;induction gs with
 |nil=>intro _ l k _ x;simp[tgsF]
 |cons a gs ih=>
  intro hn l k w x;rw[U8]at hn;rw[tgsF,ih hn.2 (pz _ _ w)];by_cases hx:x∈gs
  ·have hxa:x≠a:=fun e=>hn.1 (e▸hx)
   rw[M1 hx,M1 (V7 _ hx),pA _ _ w,L5 hxa]
  ·rw[L5 hx,pA _ _ w];by_cases hxa:x=a
   ·subst hxa;rw[M1 rfl,M1 (W7 ..)]
   ·rw[L5 hxa,L5 (by simp[hx,hxa])]
def tl(L:List It)(p:It→Bool):T2:=((L.countP p:Nat),(L.countP (fun t=>p t&& !t.read):Nat))
def dlt(t:It)(p:It→Bool):T2:=if p t then oneT t else(0,0)
theorem iM(t:It)(L:List It)(p:It→Bool):tl (t::L) p=tadd (tl L p) (dlt t p):=by
 unfold tl dlt oneT tadd;rw[List.countP_cons,List.countP_cons];cases h:p t<;>cases h2:t.read<;>simp[h]
theorem ga{L L':List It}(h:L.Perm L')(p:It→Bool):tl L p=tl L' p:=by
 unfold tl;rw[h.countP_eq,h.countP_eq]
theorem C4(L:List It)(p:It→Bool):0≤(tl L p).2∧(tl L p).2≤(tl L p).1∧(tl L p).1≤L.length:=by
 unfold tl;refine⟨by simp,?_,by simp only;exact Int.ofNat_le.2 List.countP_le_length⟩;simp only;exact Int.ofNat_le.2 (List.countP_mono_left fun t _ h=>by simp only[L7]at h;exact h.1)
theorem G9{L:List It}{p:It→Bool}(h:(tl L p).1=0):tl L p=(0,0):=by
 have:=C4 L p;rw[Prod.ext_iff];exact⟨h,by omega⟩
theorem tz(t:T2):tadd t (0,0)=t:=by unfold tadd;simp
theorem vY(t n:T2):tadd (tadd t n) (negT n)=t:=by unfold tadd negT;rw[Prod.ext_iff];simp only;omega
theorem tB(L:List It)(p:It→Bool):(some0 (tl L p)).getD (0,0)=tl L p:=by
 unfold some0;split
 ·rename_i h;rw[G9 h];rfl
 ·rfl
structure Tal (c:CS) (L:List It):Prop where
 al:c.al=tl L fun _=>true
 st:c.st=tl L fun t=>t.star
 fe:∀id,(lkM c.fe id).isSome=true→lkM c.fe id=some (tl L fun t=>decide (t.feed=id))
 fo:∀id,(lkM c.fo id).isSome=true→lkM c.fo id=some (tl L fun t=>decide (id∈c.chn t.feed))
 tg:∀g,lkM c.tg g=some0 (tl L fun t=>decide (g∈t.tags))
theorem Tal.perm{c:CS}{L L':List It}(h:Tal c L)(p:L.Perm L'):Tal c L' where
 al:=by rw[← ga p];exact h.al
 st:=by rw[← ga p];exact h.st
 fe:=fun id hi=>by rw[← ga p];exact h.fe id hi
 fo:=fun id hi=>by rw[← ga p];exact h.fo id hi
 tg:=fun g=>by rw[← ga p];exact h.tg g
structure Rdy (c:CS) (t:It):Prop where
 fe:(lkM c.fe t.feed).isSome=true
 ch:∃l,chO c.ab 7 ((lkM c.inn t.feed).getD 0)=some l∧l.Nodup∧l.length≤7∧∀x∈l,(lkM c.fo x).isSome=true
 tg:t.tags.Nodup
theorem Rdy.chn{c:CS}{t:It}(h:Rdy c t):(c.chn t.feed).Nodup∧∀x∈c.chn t.feed,(lkM c.fo x).isSome=true:=by
 obtain⟨l,h1,h2,_,h3⟩:=h.ch;unfold CS.chn;rw[h1];exact⟨h2,h3⟩
theorem lP{c:CS}{L L':List It}{t:It}{n:T2}(h:Tal c L)(r:Rdy c t)(w3:WFM c.tg c.c3)
  (hy:∀p:It→Bool,p t=true→tl L' p=tadd (tl L p) n)(hn:∀p:It→Bool,p t=false→tl L' p=tl L p):Tal (c.count (c.chn t.feed) t n) L' where
 al:=by rw[hy _ rfl, ← h.al];rfl
 st:=by
  show(if t.star then tadd c.st n else c.st)=_;cases hs:t.star with
  |true=>rw[M1 rfl,hy _ hs, ← h.st]
  |false=>rw[L5 (by simp),hn _ hs, ← h.st]
 fe:=fun id hi=>by
  have hi:(lkM (upM c.fe c.c2 t.feed (tadd ((lkM c.fe t.feed).getD (0,0)) n)) id).isSome=true:=hi;show lkM (upM c.fe c.c2 t.feed (tadd ((lkM c.fe t.feed).getD (0,0)) n)) id=_;rw[aI]at hi ⊢;by_cases hx:id=t.feed
  ·subst hx;rw[M1 rfl,h.fe _ r.fe,hy _ (by simp)];rfl
  ·rw[L5 hx]at hi ⊢;rw[h.fe _ hi,hn _ (by simp;exact fun e=>hx e.symm)]
 fo:=fun id hi=>by
  obtain⟨hnd,hpr⟩:=r.chn;have hi:(lkM (foF n (c.chn t.feed) c.fo c.c1).1 id).isSome=true:=hi;show lkM (foF n (c.chn t.feed) c.fo c.c1).1 id=some (tl L' fun t=>decide (id∈c.chn t.feed));rw[tw n hnd]at hi ⊢;by_cases hx:id∈c.chn t.feed
  ·rw[M1 hx,h.fo _ (hpr id hx),hy _ (by simpa using hx)];rfl
  ·rw[L5 hx]at hi ⊢;rw[h.fo _ hi,hn _ (by simpa using hx)]
 tg:=fun g=>by
  show lkM (tgsF n t.tags c.tg c.c3).1 g=_;rw[xP n r.tg w3];by_cases hx:g∈t.tags
  ·rw[M1 hx,h.tg,tB,hy _ (by simpa using hx)]
  ·rw[L5 hx,h.tg,hn _ (by simpa using hx)]
theorem vZ{c:CS}{L:List It}{t:It}(h:Tal c L)(r:Rdy c t)(w3:WFM c.tg c.c3):Tal (c.count (c.chn t.feed) t (oneT t)) (t::L):=
 lP h r w3 (fun p hp=>by rw[iM,dlt,M1 hp]) (fun p hp=>by rw[iM,dlt,L5 (by simp[hp]),tz])
theorem tC{c:CS}{L:List It}{t:It}(h:Tal c (t::L))(r:Rdy c t)(w3:WFM c.tg c.c3):Tal (c.count (c.chn t.feed) t (negT (oneT t))) L:=
 lP h r w3 (fun p hp=>by rw[iM,dlt,M1 hp,vY]) (fun p hp=>by rw[iM,dlt,L5 (by simp[hp]),tz])
structure CS.Wf (c:CS):Prop where
 w1:WFM c.fo c.c1
 w2:WFM c.fe c.c2
 w3:WFM c.tg c.c3
 w4:WFM c.it c.c4
 w5:WFM c.inn c.c5
 w6:WFM c.ab c.c6
theorem CS.Wf.count{c:CS}(w:c.Wf)(ch:List Int)(t:It)(n:T2):(c.count ch t n).Wf:=
 {w with w1:=zt _ _ w.w1,w2:=w.w2.up _ _,w3:=xO _ _ w.w3}
structure CS.Like (c d:CS):Prop where
 it:d.it=c.it
 c4:d.c4=c.c4
 inn:d.inn=c.inn
 ab:d.ab=c.ab
 fe:∀id,(lkM d.fe id).isSome=(lkM c.fe id).isSome
 fo:∀id,(lkM d.fo id).isSome=(lkM c.fo id).isSome
theorem CS.Like.chn{c d:CS}(h:c.Like d)(f:Int):d.chn f=c.chn f:=by unfold CS.chn;rw[h.ab,h.inn]
theorem CS.Like.rdy{c d:CS}(h:c.Like d){t:It}(r:Rdy c t):Rdy d t where
 fe:=by rw[h.fe];exact r.fe
 ch:=by
  obtain⟨l,h1,h2,h3,h4⟩:=r.ch;exact⟨l,by rw[h.ab,h.inn];exact h1,h2,h3,fun x hx=>by rw[h.fo];exact h4 x hx⟩
 tg:=r.tg
theorem CS.count_like{c:CS}{t:It}(r:Rdy c t)(n:T2):c.Like (c.count (c.chn t.feed) t n) where
 it:=rfl
 c4:=rfl
 inn:=rfl
 ab:=rfl
 fe:=fun id=>by
  show(lkM (upM c.fe c.c2 t.feed _) id).isSome=_;rw[aI];split
  ·rename_i h;subst h;rw[r.fe];rfl
  ·rfl
 fo:=fun id=>by
  obtain⟨hnd,hpr⟩:=r.chn;show(lkM (foF n (c.chn t.feed) c.fo c.c1).1 id).isSome=_;rw[tw n hnd];split
  ·rename_i h;rw[hpr id h];rfl
  ·rfl
end Go.Av
namespace Go.Av
open Go Go.Proofs Go.RowKit
attribute [local irreducible] WP WPl WPix Sat
section
variable {C:Ctx} {ops:Array Oper} {rest:List Oper} {t:Env} {h:Heap} {K:Env→Prop} {dst:Option Nat} {ty:TypeId} {pos:String} {aft:Array Edge}
end
variable (G:Nat→Option (List AVal))
end Go.Av
namespace Go.Av
open Go Go.Proofs Go.RowKit
attribute [local irreducible] WP WPl WPix Sat
variable (G:Nat→Option (List AVal))
end Go.Av
namespace Go.Av
open Go Go.Proofs Go.RowKit Go.Maps Go.Sort
def sortB(l:List Bs):List Bs:=l.mergeSort fun x y=>decide (x≤y)
variable (G:Nat→Option (List AVal))
end Go.Av
namespace Go.Av
def GClo(C:Ctx):Prop:=∀g cs,C.G g=some cs→Clo 0 (.ad cs)
end Go.Av
namespace Go.Av
open Go Go.Proofs Go.RowKit
attribute [local irreducible] WP WPl WPix Sat
namespace Qy
mutual
def dep:Qy→Int→Int
 | .mk _ _ _ ks,a=>if a>64 then a else depL ks a a
def depL:List Qy→Int→Int→Int
 | [],_,m=>m
 |k::ks,a,m=>depL ks a (if k.dep (a+1)>m then k.dep (a+1)else m)
end
mutual
def nod:Qy→Int
 | .mk _ _ _ ks=>nodL ks 1
def nodL:List Qy→Int→Int
 | [],m=>m
 |k::ks,m=>nodL ks (m+k.nod)
end
mutual
theorem nod_in:∀(q:Qy),1≤q.nod∧q.nod≤q.sz
 | .mk _ _ s ks=>by
  rw[nod,sz];have:=nodL_in ks 1;omega
theorem nodL_in:∀(ks:List Qy) (m:Int),m≤nodL ks m∧nodL ks m≤m+szL ks
 | [],m=>by simp[nodL,szL]
 |k::ks,m=>by
  rw[nodL,szL];have h1:=nod_in k;have h2:=nodL_in ks (m+k.nod);omega
end
end Qy
variable (G:Nat→Option (List AVal))
theorem ww:∀(q:Qy) (a:Int) (h:Heap),1≤a→a≤65→q.mx≤9223372036854775807→Sat (CT G) 66 [q.av,.int .i64 a] h (fun r h'=>r=.int .i64 (q.dep a)∧h'=h):=by
 refine Qy.ind fun op num s ks ih=>?_
 intro a h h1 h2 hz;obtain⟨hsl,hkl,hkm⟩:=Qy.mx_mk hz;have hml:(ks.map Qy.av).length=ks.length:=L8 ..;rw[Qy.av_eq,Qy.dep];by_cases ha:a>64
 ·rw[M1 ha];have g0:decide (a>64)=true:=by simp[ha]
  have F:=g0;refine sb [.tmp 4] Tryz.func66 ?_;intro Q hQ;refine wk F ?_;refine ee hQ F ?_;exact L6 (.int _ _) ⟨rfl,rfl⟩
 ·rw[L5 ha];have g0:decide (a>64)=false:=by simp[ha]
  have wa:IntKind.i64.wrap (a+1)=a+1:=by rw[U2];omega
  have F:=F3 g0 wa hml;refine sb [.tmp 4] Tryz.func66 ?_;intro Q hQ;refine wk F ?_;refine lm (fun nL tL hL=>∃(k:Nat) (m:Int),ks.length-k=nL∧h++[.row 25 4 0 [.agg [.int .i64 op,.int .i64 num,.str s,.sl 4 (ks.map Qy.av)]]]=hL∧tL 6=.int .i64 k∧tL 5=.int .i64 m∧k≤ks.length∧Qy.depL ks a a=Qy.depL (ks.drop k) a m) ((fun(k:Nat) (m:Int)=>(ks.length-k:Nat)) (0) (a)) ?_ ?_
  ·refine M0 ⟨0,a,rfl,aw,?_,?_,by omega,rfl⟩;all_goals try exact zZz F
  rintro _ s2 h' ⟨k,m,rfl,rfl,e6,e5,hk,hm⟩ K2 hK2;simp only[ai,ak,Nat.reduceEqDiff, ↓reduceIte]at e6 e5;have F:=F3 F e6 e5;refine wk F ?_;refine cq F (fun c1=>?_) (fun c1=>?_)<;>(try exact c1.elim)<;>(refine wk F ?_)
  ·have c2:k<ks.length:=(by omega);obtain⟨y,hy,hym⟩:=ac c2;have hc:=ih y hym (a+1) (h++[.row 25 4 0 [.agg [.int .i64 op,.int .i64 num,.str s,.sl 4 (ks.map Qy.av)]]]) (by omega) (by omega) (hkm y hym);rw[aF hy,Qy.depL]at hm;generalize y.dep (a+1)=e at hm hc;obtain⟨yo,yn,ys,yl⟩:=y;rw[Qy.av_eq]at hc;have F:=F3 F hy c2;(try refine sq F ?_);refine wk F ?_;refine kq F (hc) ?_;refine cq F (fun c3=>?_) (fun c3=>?_)<;>(try exact c3.elim)<;>(refine wk F ?_)
   ·rw[M1 (by omega)]at hm;refine hK2 _ _ _ (M0 ⟨k+1,e,rfl,aw,?_,?_,by omega,hm⟩) (by omega);all_goals try exact zZz F
   ·rw[L5 (by omega)]at hm;refine hK2 _ _ _ (M0 ⟨k+1,m,rfl,aw,?_,?_,by omega,hm⟩) (by omega);all_goals try exact zZz F
  ·rw[aG c1,Qy.depL]at hm;refine ee hQ F ?_;exact L6 (.int _ _) ⟨by rw[hm],rfl⟩
end Go.Av
namespace Go.Av
open Go.RowKit
section
variable {C:Ctx} {B n m:Nat} {S:Addr→Prop} {μ:Map} {h:Heap} {w:World} {t:Env} {a:Act} {ds:List Deferred}
theorem gL{α:Type}{l:List α}{p:Nat}{x:α}(h:l[p]? =some x):l.set p x=l:=by
 obtain⟨hlt,rfl⟩:=f9.1 h;exact List.set_getElem_self hlt
theorem dK(w:World)(b:Nat)(o:Obj):Only w (w.putObj b o) (some b):=
 ⟨rfl,rfl,rfl,by simp,fun k _ hne=>World.putObj_heap_other fun e=>hne (by rw[e])⟩
theorem Fits.turn(f:Fits C B S μ h w){p l k:Nat}{t:Env}{ps:Array Tmp}{ass body:Code}{st:LoopState}{pe:Option Code}(hh:h[p]? =some (.lp l k t ps ass body st pe)):
  ∃(fn:FuncId) (D:Nat) (tmps:Array Value),w.heap[l]? =some (.loop {state:=st,pending:=pe,fn,tmps,params:=ps,assign:=ass,body,defers:=D})∧tmps.size=k∧(∀i,i<k→Rep w S μ (t i) (tmps.getD i undef))∧
   (∀st' pe',Fits C B S μ (h.set p (.lp l k t ps ass body st' pe')) (w.putObj l (.loop {state:=st',pending:=pe',fn,tmps,params:=ps,assign:=ass,body,defers:=D}))∧
    Step B S μ w S μ (w.putObj l (.loop {state:=st',pending:=pe',fn,tmps,params:=ps,assign:=ass,body,defers:=D})))∧
   ∀o,Fits C B S μ (h.set p .dead) (w.putObj l o)∧Step B S μ w S μ (w.putObj l o):=by
 have hlt:p<μ.length:=by rw[f.len];exact(f9.1 hh).1
 have hm:=L9 hlt;obtain⟨hv,hb,fn,D,tmps,h1,h2,h3⟩:=f.blk p _ _ hm hh;have hll:=(f.own p _ l hm hb).2.1;refine⟨fn,D,tmps,h1,h2,h3,fun st' pe'=>?_,fun o=>?_⟩
 ·have st0:=bF f hm (hb▸dK w l (.loop {state:=st',pending:=pe',fn,tmps,params:=ps,assign:=ass,body,defers:=D})) (MapLe.refl μ);have:=f.update (k':=.lp l k t ps ass body st' pe') hm (hb▸dK w l (.loop {state:=st',pending:=pe',fn,tmps,params:=ps,assign:=ass,body,defers:=D})) (M2 _) (fun _=>rfl) (.inl rfl)
   ⟨hv,hb,fn,D,tmps,World.putObj_heap_same hll,h2,fun i hi=>by rw[gL hm];exact(h3 i hi).mono st0⟩
  rwa [gL hm]at this
 ·have:=f.update (k':=.dead) hm (hb▸dK w l o) (M2 _) (fun _=>rfl) (.inl rfl) trivial
  rwa [gL hm]at this
def roundQ(p l k:Nat)(t:Env)(ps:Array Tmp)(ass body:Code)(R:AVal→Heap→Prop):Exit→Env→Heap→Prop:=fun e _ h2=>h2[p]? =some (.lp l k t ps ass body .busy none)∧(match e with
 | .normal=>R (.bool true) (h2.set p (.lp l k t ps ass body .ready none))
 | .ret=>R (.bool false) (h2.set p (.lp l k t ps ass body .done (some .ret)))
 | .exit id=>R (.bool false) (h2.set p (.lp l k t ps ass body .done (some (.exit id))))
 |_=>False)
theorem SatY.round{l k p q:Nat}{t:Env}{ass body:Code}{x:AVal}{R:AVal→Heap→Prop}(hh:h[p]? =some (.lp l k t #[q] ass body .ready none))
  (ho1:okCode k ass=true)(ho2:okCode k body=true)(hf1:flat ass=true)(hf2:flat body=true)
  (hw:WP C ass (fun e t1 h1=>e=.normal∧h1[p]? =some (.lp l k t #[q] ass body .ready none)∧WP C body (roundQ p l k t #[q] ass body R) t1 (h1.set p (.lp l k t #[q] ass body .busy none))) (upd t q x) h):SatY C l [x] h R:=by
 intro B S μ w vs f rl;obtain⟨fn,D,tmps,h1,h2,h3,_,_⟩:=f.turn hh;obtain⟨v,rfl⟩:∃v,vs=[v]:=by have:=rl.1;match vs,this with| [v],_=>exact⟨v,rfl⟩
 have hx:Rep w S μ x v:=by simpa using rl.2 0 x rfl
 rw[run_yield h1 (by simp)];intro m;refine roundIn_of_wpIn trivial ?_;have renv:REnv k w S μ (upd t q x) {tmps:=(Array.zip #[q] [v].toArray).foldl (fun tmps (t,a)=>tmps.setIfInBounds t a) tmps,defers:=[]}:=by
  refine⟨by simp[h2],rfl,fun i hi=>?_⟩;have e0:(Array.zip #[q] [v].toArray).foldl (fun tmps (t,a)=>tmps.setIfInBounds t a) tmps=tmps.setIfInBounds q v:=by simp
  simp only[e0,upd];have hs:i<tmps.size:=by omega
  split
  ·rename_i e;subst e;simpa [Q6,hs]using hx
  ·rename_i e;have:=h3 i hi;simpa [Q6,U9 (show q≠i from fun e'=>e e'.symm)]using this
 refine wpIn_mono (cZ (ρ:=some l) (ds:=[]) ass ho1 (.inr hf1) (Step.refl B S μ w) f renv hw) fun e a1 w1 hp=>?_
 obtain⟨t1,h1',S1,μ1,⟨rfl,hh1,hb⟩,st1,f1,r1⟩:=hp;obtain⟨fn1,D1,tmps1,g1,g2,g3,g4,_⟩:=f1.turn hh1;refine⟨_,run_beginRound g1 rfl,?_⟩;obtain⟨f2,st2⟩:=g4 .busy none;refine wpIn_mono (cZ (ρ:=some l) (ds:=[]) body ho2 (.inr hf2) (st1.trans st2) f2 (r1.mono st2) hb) fun e a3 w3 hp=>?_
 obtain⟨t3,h3',S3,μ3,⟨hh3,hq⟩,st3,f3,r3⟩:=hp;obtain⟨fn3,D3,tmps3,k1,k2,k3,k4,_⟩:=f3.turn hh3;have fin:∀(j:Option Code),R (.bool j.isNone) (h3'.set p (.lp l k t #[q] ass body (if j.isNone then .ready else .done) j))→
   ∃v w',(Instr.endRound l j).run C.P w3=.ok v w'∧∃u,Ending.returned v=Ending.returned u∧OpPost C B S μ w R u w':=fun j hR=>by
  obtain⟨f4,st4⟩:=k4 (if j.isNone then .ready else .done) j;exact⟨_,_,run_endRound j k1,_,rfl,_,_,_,_,hR,st3.trans st4,f4,.bool _⟩
 cases e with
 |normal=>exact fin none hq
 |ret=>exact fin (some .ret) hq
 |exit id=>exact fin (some (.exit id)) hq
 |_=>exact hq.elim
theorem SatY.roundQ{l k p q:Nat}{t:Env}{ass body:Code}{x:AVal}{R:AVal→Heap→Prop}(hh:h[p]? =some (.lp l k t #[q] ass body .ready none))
  (ho1:okCode k ass=true)(ho2:okCode k body=true)(hf1:flat ass=true)(hf2:flat body=true)
  (hw:∀Q1:Exit→Env→Heap→Prop,(∀t1 h1,h1[p]? =some (.lp l k t #[q] ass body .ready none)→
   (∀Q2:Exit→Env→Heap→Prop,(∀t2 h2,h2[p]? =some (.lp l k t #[q] ass body .busy none)→R (.bool true) (h2.set p (.lp l k t #[q] ass body .ready none))→Q2 .normal t2 h2)→
    (∀id t2 h2,h2[p]? =some (.lp l k t #[q] ass body .busy none)→R (.bool false) (h2.set p (.lp l k t #[q] ass body .done (some (.exit id))))→Q2 (.exit id) t2 h2)→WP C body Q2 t1 (h1.set p (.lp l k t #[q] ass body .busy none)))→Q1 .normal t1 h1)→WP C ass Q1 (upd t q x) h):SatY C l [x] h R:=
 SatY.round hh ho1 ho2 hf1 hf2 (hw _ fun _ _ g1 g2=>⟨rfl,g1,g2 _ (fun _ _ a b=>⟨a,b⟩) fun _ _ _ a b=>⟨a,b⟩⟩)
def mark(D:Nat):Deferred:= {target:=.collected D,args:= #[]}
def PostM(C:Ctx)(B n:Nat)(S:Addr→Prop)(μ:Map)(w:World)(p:Nat)(Q:Exit→Env→Heap→Prop):Exit→Act→World→Prop:=fun e a' w'=>
 ∃D t' h' S' μ' k,Q e t' h'∧Step B S μ w S' μ' w'∧Fits C B S' μ' h' w'∧REnv n w' S' μ' t' a' [mark D]∧μ'[p]? =some k∧(k.ver=0→k.blk=some D)
def PostE(C:Ctx)(B n:Nat)(S:Addr→Prop)(μ:Map)(w:World)(p:Nat)(Q0 Q1:Exit→Env→Heap→Prop):Exit→Act→World→Prop:=fun e a' w'=>
 Post C B n S μ w Q0 [] e a' w'∨PostM C B n S μ w p Q1 e a' w'
def MJ(C:Ctx)(n p:Nat)(Q:Exit→Env→Heap→Prop)(c:Code)(t:Env)(h:Heap):Prop:=∀m B S0 μ0 w0 S μ w a D k,Step B S0 μ0 w0 S μ w→Fits C B S μ h w→REnv n w S μ t a [mark D]→μ[p]? =some k→(k.ver=0→k.blk=some D)→
 c.wpIn (WF none) m C.P (PostM C B n S0 μ0 w0 p Q) a w
def EJ(C:Ctx)(n p:Nat)(Q0 Q1:Exit→Env→Heap→Prop)(c:Code)(t:Env)(h:Heap):Prop:=∀m B S0 μ0 w0 S μ w a,Step B S0 μ0 w0 S μ w→Fits C B S μ h w→REnv n w S μ t a []→
 c.wpIn (WF none) m C.P (PostE C B n S0 μ0 w0 p Q0 Q1) a w
variable {p:Nat} {Q Q0 Q1:Exit→Env→Heap→Prop} {c d:Code}
theorem MJ.wp(ho:okCode n c=true)(hw:WP C c Q t h):MJ C n p Q c t h:=fun m B S0 μ0 w0 S μ w a D k st f r hk hD=>
 wpIn_mono (cZ (ρ:=none) c ho (.inl rfl) (Step.refl B S μ w) f r hw) fun e a' w' ⟨t',h',S',μ',hq,st',f',r'⟩=>by
  obtain⟨k',h1,h2,h3⟩:=st'.map p k hk;exact⟨D,t',h',S',μ',k',hq,st.trans st',f',r',h1,fun e=>by have:=h3 (by omega);subst this;exact hD e⟩
theorem EJ.seq1(ho:okCode n c=true)(hw:∀KK:Env→Heap→Prop,(∀t h,Wkn C (wr c) t h (fun t h=>EJ C n p Q0 Q1 d t h)→KK t h)→WP C c (thenQ KK Q0) t h):EJ C n p Q0 Q1 (.seq c d) t h:=fun m B S0 μ0 w0 S μ w a st f r=>
 wpIn_seq (wpIn_mono (cZ (ρ:=none) c ho (.inl rfl) st f r (hw _ fun _ _ g=>g)) fun e a' w' ⟨t',h',S',μ',hq,st',f',r'⟩=>by
  cases e with
  |normal=>
   obtain⟨t1,h1,hw,hq⟩:=hq;obtain⟨S1,μ1,st1,f1,r1⟩:=hw.at f' r';exact hq m B S0 μ0 w0 S1 μ1 w' a' (st'.trans st1) f1 r1
  |_=>exact .inl ⟨t',h',S',μ',hq,st',f',r'⟩)
theorem EJ.seq2(hw:EJ C n p (thenQ (fun t h=>EJ C n p Q0 Q1 d t h) Q0) (thenQ (fun t h=>MJ C n p Q1 d t h) Q1) c t h):EJ C n p Q0 Q1 (.seq c d) t h:=fun m B S0 μ0 w0 S μ w a st f r=>
 wpIn_seq (wpIn_mono (hw m B S0 μ0 w0 S μ w a st f r) fun e a' w' hp=>by
  rcases hp with⟨t',h',S',μ',hq,st',f',r'⟩| ⟨D,t',h',S',μ',k,hq,st',f',r',hk,hD⟩
  ·cases e with
   |normal=>exact hq m B S0 μ0 w0 S' μ' w' a' st' f' r'
   |_=>exact .inl ⟨t',h',S',μ',hq,st',f',r'⟩
  ·cases e with
   |normal=>exact wpIn_mono (hq m B S0 μ0 w0 S' μ' w' a' D k st' f' r' hk hD) fun _ _ _ hp=>.inr hp
   |_=>exact .inr ⟨D,t',h',S',μ',k,hq,st',f',r',hk,hD⟩)
theorem EJ.block{id:Nat}(hw:EJ C n p (blockQ id Q0) (blockQ id Q1) c t h):EJ C n p Q0 Q1 (.block id c) t h:=fun m B S0 μ0 w0 S μ w a st f r=>
 wpIn_block (wpIn_mono (hw m B S0 μ0 w0 S μ w a st f r) fun e a' w' hp=>by
  rcases hp with⟨t',h',S',μ',hq,st',f',r'⟩| ⟨D,t',h',S',μ',k,hq,st',f',r',hk,hD⟩
  ·cases e with
   |exit id'=>
    simp only[blockQ]at hq;simp only[Exit.inBlock];split
    ·rename_i e;rw[M1 e]at hq;exact .inl ⟨t',h',S',μ',hq,st',f',r'⟩
    ·rename_i e;rw[L5 e]at hq;exact .inl ⟨t',h',S',μ',hq,st',f',r'⟩
   |_=>exact .inl ⟨t',h',S',μ',hq,st',f',r'⟩
  ·cases e with
   |exit id'=>
    simp only[blockQ]at hq;simp only[Exit.inBlock];split
    ·rename_i e;rw[M1 e]at hq;exact .inr ⟨D,t',h',S',μ',k,hq,st',f',r',hk,hD⟩
    ·rename_i e;rw[L5 e]at hq;exact .inr ⟨D,t',h',S',μ',k,hq,st',f',r',hk,hD⟩
   |_=>exact .inr ⟨D,t',h',S',μ',k,hq,st',f',r',hk,hD⟩)
def rangeQ(p l k:Nat)(t:Env)(ps:Array Tmp)(ass body:Code)(Q:Exit→Env→Heap→Prop):AVal→Heap→Prop:=fun _ h'=>
 ∃st pe,h'[p+1]? =some (.lp l k t ps ass body st pe)∧st≠ .busy∧(match pe with
  |none=>Q .normal t (h'.set (p+1) .dead)
  |some .ret=>Q .ret t (h'.set (p+1) .dead)
  |some (.exit id)=>Q (.exit id) t (h'.set (p+1) .dead)
  |_=>False)
theorem EJ.range{g:Operand}{ps:Array Tmp}{ass body:Code}{gf:FuncId}{fn:Func}{cb:Code}{caps:List AVal}(ho:okOpd n g=true)(hg:aev C.G t g=.fn (.func gf) [] caps)(hf:C.P.funcs[gf]? =some fn)(hb:fn.body=some cb)(hname:(fn.name== "runtime.NumGoroutine")=false)
  (hp:p=h.length)(hs:∀l,Sat C gf (.fn (.yield l) [] []::caps) (h++[.df,.lp l n t ps ass body .ready none]) (rangeQ p l n t ps ass body Q1)):EJ C n p Q0 Q1 (.rangeFunc g ps ass body) t h:=by
 intro m B S0 μ0 w0 S μ w a st f r;refine wpIn_rangeFunc fun fid _=>?_
 have hgv:=eC f r g ho;rw[hg]at hgv;generalize hgg:a.eval g=gv at hgv;cases hgv with
 |fn _ _ _ xv cv hx1 hc1 hx2 hc2=>
 obtain rfl:xv=[]:=S4 hx1
 let rec1:Loop:= {state:=.ready,pending:=none,fn:=fid,tmps:=a.tmps,params:=ps,assign:=ass,body,defers:=w.heap.size}
 have f1:Fits C B S (μ++[⟨some w.heap.size,0,1,1⟩]) (h++[.df]) (w.alloc (.deferred (some []))):=f.alloc _ _ .df rfl ⟨rfl,_,rfl,World.alloc_heap_new w _⟩;have st1:=bg f (.deferred (some [])) ⟨some w.heap.size,0,1,1⟩;have hsz:(w.alloc (.deferred (some []))).heap.size=w.heap.size+1:=World.size_alloc _ _;have st2:=bg f1 (.loop rec1) ⟨some (w.heap.size+1),0,1,1⟩;have f2:Fits C B S (μ++[⟨some w.heap.size,0,1,1⟩]++[⟨some (w.heap.size+1),0,1,1⟩]) (h++[.df]++[.lp (w.heap.size+1) n t ps ass body .ready none]) ((w.alloc (.deferred (some []))).alloc (.loop rec1)):=
  f1.alloc _ _ _ (by rw[hsz]) ⟨rfl,rfl,fid,w.heap.size,a.tmps,by have:=World.alloc_heap_new (w.alloc (.deferred (some []))) (.loop rec1);rw[hsz]at this;exact this,r.1,fun i hi=>((r.2.2 i hi).mono st1).mono st2⟩
 have st12:=st1.trans st2;rw[P2]at st12;rw[P2,P2]at f2;have hcall:∀(args:Array Value) (w:World),(callFunc gf args).run C.P w=.ok (.enter gf args) w:=fun args w=>by
  have hne:fn.name≠ "runtime.NumGoroutine" :=by simpa using hname
  simp[callFunc,hf,hne,hb]
 refine⟨w.heap.size+1,[mark w.heap.size],(w.alloc (.deferred (some []))).alloc (.loop rec1),{target:=.fn (.func gf) cv.toArray,args:= #[.func (.yield (w.heap.size+1)) #[] #[]]},(w.alloc (.deferred (some []))).alloc (.loop rec1),gf,
  #[.func (.yield (w.heap.size+1)) #[] #[]]++cv.toArray,(w.alloc (.deferred (some []))).alloc (.loop rec1),run_enterLoop_outer _ _ _ _ _,?_,fun _ _=>trivial,?_,fun e=>by simp[WF,Fence.wide]at e,?_⟩
 ·simp only[resolve,hgg];simp[go_sem]
 ·simp[invoke,go_sem,hcall]
 ·have hsat:=hs (w.heap.size+1) B S _ _ (.func (.yield (w.heap.size+1)) #[] #[]::cv) f2 ⟨by simp[hc1],fun i x hi=>by
   match i with
   |0=>simp at hi;subst hi;exact .fn _ [] [] [] [] rfl rfl (fun i c hi=>by simp at hi) (fun i c hi=>by simp at hi)
   |i+1=>simpa using((hc2 i x (by simpa using hi)).mono st1).mono st2⟩
  rw[hcall]at hsat;have e0:(#[Value.func (.yield (w.heap.size+1)) #[] #[]]++cv.toArray:Array Value)=(.func (.yield (w.heap.size+1)) #[] #[]::cv).toArray:=by simp
  rw[e0];show CallsIn Fence.wide (m-1) C.P _ _ _ _;refine callsIn_wide.2 (Calls.mono hsat fun e w3 hh=>?_);obtain⟨v,rfl,_,h',S',μ',⟨sst,pe,hh1,hbusy,hq⟩,st3,f3,_⟩:=hh;obtain⟨fn3,D3,tmps3,k1,k2,k3,_,k4⟩:=f3.turn hh1;have hmark:∃k,μ'[p]? =some k∧(k.ver=0→k.blk=some w.heap.size):=by
   obtain⟨k,g1,g2,g3⟩:=st3.map p ⟨some w.heap.size,0,1,1⟩ (by rw[hp, ← f.len];simp);exact⟨k,g1,fun e=>by have:=g3 (by simp[e]);subst this;rfl⟩
  obtain⟨k,hk1,hk2⟩:=hmark;refine⟨pe,_,run_endLoop k1 hbusy,?_⟩;obtain⟨f4,st4⟩:=k4 (.loop {state:=.exhausted,pending:=pe,fn:=fn3,tmps:=tmps3,params:=ps,assign:=ass,body:=body,defers:=D3});have stF:=(st.trans st12).trans (st3.trans st4);have renv:REnv n _ S' μ' t {a with defers:=[mark w.heap.size]++a.defers} [mark w.heap.size]:=⟨r.1,by simp[r.2.1],fun i hi=>(r.2.2 i hi).mono (st12.trans (st3.trans st4))⟩
  match pe,hq with
  |none,hq=>exact .inr ⟨_,t,_,S',μ',k,hq,stF,f4,renv,hk1,hk2⟩
  |some .ret,hq=>exact wpIn_ret (.inr ⟨_,t,_,S',μ',k,hq,stF,f4,renv,hk1,hk2⟩)
  |some (.exit id),hq=>exact wpIn_exit (.inr ⟨_,t,_,S',μ',k,hq,stF,f4,renv,hk1,hk2⟩)
def EQ0(C:Ctx)(fn:Func)(h:Heap)(R:AVal→Heap→Prop):Exit→Env→Heap→Prop:=fun e t' h'=>match e with
 | .normal=>need (resA C t' h' fn.results.toList) (Fin h h' R)
 | .ret=>need (resA C t' h' fn.results.toList) (Fin h h' R)
 |_=>False
def EQ1(C:Ctx)(fn:Func)(h:Heap)(p:Nat)(R:AVal→Heap→Prop):Exit→Env→Heap→Prop:=fun e t' h'=>h'[p]? =some .df∧EQ0 C fn h R e t' (h'.set p .dead)
theorem Fits.shut(f:Fits C B S μ h w){k:MB}{D:Nat}(hh:h[p]? =some .df)(hk:μ[p]? =some k)(hD:k.ver=0→k.blk=some D):
  w.heap[D]? =some (.deferred (some []))∧Fits C B S μ (h.set p .dead) (w.putObj D (.deferred none))∧Step B S μ w S μ (w.putObj D (.deferred none)):=by
 obtain⟨hv,b,hb,hheap⟩:=f.blk p _ _ hk hh;have e:=hD hv;rw[hb]at e;cases e;refine⟨hheap,?_⟩;have:=f.update (k':=.dead) hk (hb▸dK w D (.deferred none)) (M2 _) (fun _=>rfl) (.inl rfl) trivial
 rwa [gL hk]at this
theorem Sat.of_range{f:FuncId}{fn:Func}{c:Code}{args:List AVal}{R:AVal→Heap→Prop}(hf:C.P.funcs[f]? =some fn)(hb:fn.body=some c)(hname:(fn.name== "runtime.NumGoroutine")=false)
  (hres:fn.results.toList.all (okRes fn.ntmps)=true)(hlen:args.length≤fn.ntmps)(hw:EJ C fn.ntmps p (EQ0 C fn h R) (EQ1 C fn h p R) c (env0 args) h):Sat C f args h R:=by
 intro B S μ w vs fit rl;have hcall:(callFunc f vs.toArray).run C.P w=.ok (.enter f vs.toArray) w:=by
  have hne:fn.name≠ "runtime.NumGoroutine" :=by simpa using hname
  simp[callFunc,hf,hne,hb]
 rw[hcall];show Calls C.P f vs.toArray w _;refine(callsIn_wide (n:=0)).1 (callsIn_of_wp_marks hf hb trivial ?_);have renv:=mF (n:=fn.ntmps) rl hlen;have hres':=P8.1 hres;refine wpIn_mono (hw 0 B S μ w S μ w _ (Step.refl B S μ w) fit renv) fun e a' w' hp=>?_
 have fin:∀{t' h' S' μ' w'} {a':Act} {ds:List Deferred},Step B S μ w S' μ' w'→Fits C B S' μ' h' w'→REnv fn.ntmps w' S' μ' t' a' ds→need (resA C t' h' fn.results.toList) (Fin h h' R)→∃v,(results fn a'.tmps).run C.P w'=.ok v w'∧
   ∃u,Ending.returned v=Ending.returned u∧OpPost C B S μ w R u w':=fun st fit' renv' hq=>by
  obtain⟨r0,hr0,hF⟩:=aj hq;obtain⟨v,hv,hrep⟩:=mE fit' renv' hres' hr0;exact⟨v,hv,v,rfl,hF.post fit st fit' hrep⟩
 rcases hp with⟨t',h',S',μ',hq,st,fit',renv'⟩| ⟨D,t',h',S',μ',k,⟨hdf,hq⟩,st,fit',renv',hk,hD⟩
 ·cases e with
  |normal=>show LeavesInM _ _ _ _ _ _ a'.defers _ _;rw[renv'.2.1];exact fin st fit' renv' hq
  |ret=>show LeavesInM _ _ _ _ _ _ a'.defers _ _;rw[renv'.2.1];exact fin st fit' renv' hq
  |_=>exact hq.elim
 ·obtain⟨g1,g2,g3⟩:=fit'.shut hdf hk hD;have leave:need (resA C t' (h'.set p .dead) fn.results.toList) (Fin h (h'.set p .dead) R)→LeavesInM (WF none) 0 C.P fn a'.tmps (fun e w''=>∃u,e=.returned u∧OpPost C B S μ w R u w'') a'.defers .returning w':=fun hq=>by
   rw[renv'.2.1];exact⟨by simp,.inl ⟨D,_,rfl,run_takeDeferred g1,fin (st.trans g3) g2 (renv'.mono g3) hq⟩⟩
  cases e with
  |normal=>exact leave hq
  |ret=>exact leave hq
  |_=>exact hq.elim
theorem EJ.forget{P:Env→Prop}(hP:P t)(hk:∀t,P t→EJ C n p Q0 Q1 c t h):EJ C n p Q0 Q1 c t h:=hk t hP
theorem Sat.range(rs:List ResultVar){f:FuncId}{fn:Func}{c:Code}{args:List AVal}{R:AVal→Heap→Prop}(p:Nat)(hf:C.P.funcs[f]? =some fn)(hw:∀Q0 Q1:Exit→Env→Heap→Prop,(∀t' h',need (resA C t' h' rs) (Fin h h' R)→Q0 .ret t' h'∧Q0 .normal t' h')→
  (∀t' h',h'[p]? =some .df→need (resA C t' (h'.set p .dead) rs) (Fin h (h'.set p .dead) R)→Q1 .ret t' h'∧Q1 .normal t' h')→EJ C fn.ntmps p Q0 Q1 c (env0 args) h)(hb:fn.body=some c:=by exact rfl)(hrs:fn.results.toList=rs:=by exact rfl)
  (hname:(fn.name== "runtime.NumGoroutine")=false:=by kernel_rfl)(hres:fn.results.toList.all (okRes fn.ntmps)=true:=by kernel_rfl)(hlen:decide (args.length≤fn.ntmps)=true:=by exact rfl):Sat C f args h R:=by
 subst hrs;exact Sat.of_range hf hb hname hres (zd1 hlen) (hw _ _ (fun _ _ g=>⟨g,g⟩) fun _ _ g1 g2=>⟨⟨g1,g2⟩,⟨g1,g2⟩⟩)
end
end Go.Av
