/- Parts. -/
import Derived.Test.YtjfjncmgclaokaaGreatDoorMqUd
import Derived.Test.YtjfjncmgclaokaaGreatDoorMqDg
set_option linter.unusedSimpArgs false
set_option linter.unusedVariables false
set_option linter.unusedSectionVars false
set_option linter.unnecessarySimpa false
set_option maxRecDepth 100000
set_option maxHeartbeats 16000000
namespace Go.Av
open Go Go.Proofs Go.RowKit
section
def clnG:List Int→Bool→Bool→List Int
 | [],_,_=>[]
 |c::t,e,w=>if blankR c then clnG t e e else if ctlR c then clnG t e w else(if w then [32,c]else [c])++clnG t true false
theorem fS:∀(l o:List Int) (w:Bool),clnR l o w=o++clnG l (decide (0<o.length)) w
 | [],o,w=>by simp[clnR,clnG]
 |c::t,o,w=>by
  rw[clnR,clnG];split
  ·exact fS t o _
  ·split
   ·exact fS t o w
   ·rw[fS t _ false,M5];have:decide (0<(o++if w=true then [32,c]else [c]).length)=true:=by
     refine G8 ?_;rw[H7];split<;>simp<;>omega
    rw[this]
theorem dU:∀(l:List Int) (e w:Bool),(w=true→e=true)→clnG (clnG l e w) e false=clnG l e w
 | [],e,w,_=>rfl
 |c::t,e,w,h=>by
  rw[clnG];by_cases hb:blankR c=true
  ·rw[G3 hb];exact dU t e e id
  ·rw[G0 hb];by_cases hk:ctlR c=true
   ·rw[G3 hk];exact dU t e w h
   ·rw[G0 hk];have ih:=dU t true false (by simp);have h32:blankR 32=true:=(by decide);cases w with
    |false=>
     show clnG (c::clnG t true false) e false=c::clnG t true false;rw[clnG,G0 hb,G0 hk,ih];rfl
    |true=>
     rw[h rfl];show clnG (32::c::clnG t true false) true false=32::c::clnG t true false;rw[clnG,G3 h32,clnG,G0 hb,G0 hk,ih];rfl
theorem iH:∀(l:List Int) (e w:Bool),(encs (clnG l e w)).length≤(encs l).length+(if w then 1 else 0)
 | [],e,w=>by simp[clnG,encs]
 |c::t,e,w=>by
  rw[clnG,bE,H7];have hp:=fK c;split
  ·have:=iH t e e;have:(if e=true then 1 else 0)≤1:=by split<;>omega
   omega
  ·split
   ·have:=iH t e w;omega
   ·have ih:=iH t true false;rw[uh,H7];have h32:(enc 32).length=1:=(by decide);cases w with
    |false=>
     have:(encs (if false=true then [32,c]else [c])).length=(enc c).length:=by simp[encs]
     simp only[I7,if_false]at*;omega
    |true=>
     have:(encs (if true=true then [32,c]else [c])).length=1+(enc c).length:=by simp[encs,h32]
     simp only[if_true]at*;simp only[I7,if_false]at ih;omega
theorem lI{l:List Int}(h:∀c∈l,Rune c):∀c∈clnG l false false,Rune c:=by
 have:=dQ l [] false h (by simp);rw[fS]at this;exact this
theorem qK(s:Bs):∀c∈runesF s,Rune c:=iQ s.length s (H5 _)
theorem iV{l:List Int}(h:∀c∈l,Rune c):cleanF (encs l)=encs (clnG l false false):=by
 unfold cleanF cleanR;rw[iS h,fS];rfl
theorem sZ(s:Bs):∃l:List Int,(∀c∈l,Rune c)∧cleanF s=encs l∧clnG l false false=l:=by
 refine⟨clnG (runesF s) false false,lI (qK s),?_,dU _ _ _ (by simp)⟩;unfold cleanF cleanR;rw[fS];rfl
theorem pf{c:Int}{l:List Int}:encs (c::l)≠ []:=fun e=>by
 have hp:=fK c;have h2:=J2 List.length e;rw[bE,H7]at h2;simp only[H6]at h2;omega
theorem jS:∀{l:List Int},(∀c∈l,Rune c)→rightS (encs l)=true
 | [],_=>rfl
 |c::l,h=>by
  have hc:=h c (by simp);rw[iR _ pf,bE,fA,j4 hc,List.drop_left' rfl,G0]
  ·exact jS fun x hx=>h x (by simp[hx])
  ·rintro⟨h1,h2⟩;simp only[]at h1 h2;have:c=65533:=by unfold Rune at hc;omega
   rw[this]at h2;revert h2;decide
theorem nr:∀(l:List Int) (n:Nat),(∀c∈l,Rune c)→∃k,cutF (encs l) n=encs (l.take k)
 | [],n,_=>⟨0,by simp[cutF,encs]⟩
 |c::l,n,h=>by
  have hc:=h c (by simp);have hp:=fK c;obtain⟨k,hk⟩:=nr l (n-(enc c).length) fun x hx=>h x (by simp[hx])
  have hd:dec (encs (c::l)) 0=(c.toNat,(enc c).length):=by rw[bE,fA,j4 hc]
  have hdr:(encs (c::l)).drop (enc c).length=encs l:=by rw[bE,List.drop_left' rfl]
  have hst:cutN (encs (c::l)).length (encs (c::l)) n=if n<(enc c).length then 0 else(enc c).length+cutN (encs l).length (encs l) (n-(enc c).length):=by
   have hl:(encs (c::l)).length=(enc c).length+(encs l).length:=(by rw[bE,H7]);obtain⟨f,hf⟩:∃f,(encs (c::l)).length=f+1:=⟨(encs (c::l)).length-1,by omega⟩;rw[hf,cutN,G0 pf,hd];simp only[];rw[hdr,lj f (encs l) _ (by omega)]
  unfold cutF at hk ⊢;rw[hst];by_cases h2:n<(enc c).length
  ·rw[G3 h2];exact⟨0,rfl⟩
  ·rw[G0 h2];refine⟨k+1,?_⟩;rw[H8,bE,bE, ← hk,List.take_append,H9 (by omega),Nat.add_sub_cancel_left]
theorem vb(s:Bs)(n:Nat):∃l:List Int,(∀c∈l,Rune c)∧shortF s n=encs l∧clnG l false false=l∧(encs l).length≤n:=by
 obtain⟨l,h1,h2,h3⟩:=sZ s;obtain⟨k,hk⟩:=nr l n h1;have ht:∀c∈l.take k,Rune c:=fun c hc=>h1 c (R9 hc)
 refine⟨clnG (l.take k) false false,lI ht,?_,dU _ _ _ (by simp),?_⟩
 ·unfold shortF;rw[h2,hk,iV ht]
 ·have h4:=iH (l.take k) false false;have h5:=(jg (encs l) n).1;rw[hk]at h5;simp only[I7,if_false]at h4;omega
theorem jT(s:Bs)(n:Nat):textO (shortF s n) n=true:=by
 obtain⟨l,h1,h2,h3,h4⟩:=vb s n;unfold textO;rw[h2,jS h1,iV h1,h3,G8 h4,G8 rfl];rfl
theorem jU{s:Bs}{m n:Nat}(h:textO s m=true)(hn:m≤n):textO s n=true:=by
 unfold textO at h ⊢;simp only[G2,H2]at h ⊢;exact⟨⟨by omega,h.1.2⟩,h.2⟩
theorem t6(n:Nat):textO [] n=true:=by
 unfold textO;rw[G8 (by simp)];rfl
end
section
attribute [local irreducible] WP WPl WPix Sat
def dateOk(x:En):Bool:=if x.dated then decide (-62135596800≤x.date)&&decide (x.date≤253402300799)else decide (x.date=0)
def enOk(x:En):Bool:=decide (x.guid≠ [])&&(textO x.guid 512&&(textO x.title 256&&(textO x.link 512&&dateOk x)))
def fdOk(d:Fd):Bool:=decide (d.es.length≤256)&&(textO d.title 256&&(textO d.link 512&&(decide ((onceF d.es).length=d.es.length)&&d.es.all enOk)))
def EnS(x:En):Prop:=x.guid.length≤1048576∧x.title.length≤1048576∧x.link.length≤1048576
variable (G:Nat→Option (List AVal))
theorem dr(s:Bs)(m:Nat)(hs:s.length≤1048576)(h:Heap):Sat (CT G) 39 [.str s,.int .i64 m] h (fun r h'=>r=.bool (textO s m)∧h'=h):=by
 have hR:=qa G s (by omega);have hC:=dp G s (by omega);by_cases c1:s.length≤m
 ·have d1:=G8 c1;cases c2:rightS s with
  |true=>
   rw[c2]at hR;by_cases c3:cleanF s=s
   ·have q:(cleanF s==s)=true:=(by simpa using c3);have e:textO s m=true:=(by unfold textO;rw[c2,G8 c1,G8 c3];rfl);rw[e];have F:=F2 d1 q;refine sb [.tmp 4] Tryz.func39 ?_;intro Q hQ;refine wk F ?_;refine kq F (hR _) ?_;refine kq F (hC _) ?_;refine ee hQ F ?_;exact I8 (.bool _) ⟨rfl,rfl⟩
   ·have q:(cleanF s==s)=false:=(by simpa using c3);have e:textO s m=false:=(by unfold textO;rw[G7 c3,Bool.and_false]);rw[e];have F:=F2 d1 q;refine sb [.tmp 4] Tryz.func39 ?_;intro Q hQ;refine wk F ?_;refine kq F (hR _) ?_;refine kq F (hC _) ?_;refine ee hQ F ?_;exact I8 (.bool _) ⟨rfl,rfl⟩
  |false=>
   rw[c2]at hR;have e:textO s m=false:=(by unfold textO;rw[c2,Bool.and_false,Bool.false_and]);rw[e];have F:=d1;refine sb [.tmp 4] Tryz.func39 ?_;intro Q hQ;refine wk F ?_;refine kq F (hR _) ?_;refine ee hQ F ?_;exact I8 (.bool _) ⟨rfl,rfl⟩
 ·have d1:=G7 c1;have e:textO s m=false:=by unfold textO;rw[G7 c1];rfl
  rw[e];have F:=d1;refine sb [.tmp 4] Tryz.func39 ?_;intro Q hQ;refine wk F ?_;refine ee hQ F ?_;exact I8 (.bool _) ⟨rfl,rfl⟩
theorem qL(N:Nat)(a b c d e f k:Int):Clo N (.tup [.agg [.int .i64 a,.int .i64 b,.int .i64 c,.int .i64 d,.int .i64 e,.int .i64 f],.int .i64 k]):=.tup _ fun x hx=>by
 simp only[J6,O7,or_false]at hx;rcases hx with rfl|rfl
 ·exact .agg _ fun c hc=>by simp at hc;rcases hc with rfl|rfl|rfl|rfl|rfl|rfl<;>exact .int _ _
 ·exact .int _ _
theorem vc(n:Int)(h:Heap):Sat (CT G) 131 [.int .i64 n] h (fun r h'=>(∃a b c d e f:Int,r=.tup [.agg [.int .i64 a,.int .i64 b,.int .i64 c,.int .i64 d,.int .i64 e,.int .i64 f],.int .i64 (if decide (-62135596800≤n)&&decide (n≤253402300799)then 0 else 40)])∧h'=h):=by
 have hW:=cC G n (-62135596800) 253402300799;cases hm:(decide (-62135596800≤n)&&decide (n≤253402300799))with
 |false=>
  rw[hm]at hW;refine sb [.cell 2 197,.tmp 3] Tryz.func131 ?_;intro Q hQ;refine wk trivial ?_;refine kq trivial (hW _) ?_;refine ye hQ trivial ?_;exact H3 (qL ..) ⟨⟨_,_,_,_,_,_,rfl⟩,rfl⟩
 |true=>
  rw[hm]at hW;simp only[G2,H2]at hm;obtain⟨m1,m2⟩:=hm;refine sb [.cell 2 197,.tmp 3] Tryz.func131 ?_;intro Q hQ;refine wk trivial ?_;refine kq trivial (hW _) ?_;refine cq trivial (fun c1=>?_) (fun c1=>?_)<;>(try exact c1.elim)<;>(refine wk trivial ?_)
  ·refine ye hQ trivial ?_;exact H3 (qL ..) ⟨⟨_,_,_,_,_,_,rfl⟩,rfl⟩
  ·refine ye hQ trivial ?_;exact H3 (qL ..) ⟨⟨_,_,_,_,_,_,rfl⟩,rfl⟩
theorem om(x:En)(h:Heap):Sat (CT G) 77 [x.av] h (fun r h'=>r=.bool (dateOk x)∧h'=h):=by
 obtain⟨g,t,l,n,b⟩:=x;unfold dateOk;simp only[En.av_eq];cases b with
 |false=>
  simp only[I7,if_false];have q:((n:Int)==0)=decide (n=0):=by rw[N8];simp
  generalize decide (n=0)=d at*;have F:=F2 q @al;refine sb [.tmp 2] Tryz.func77 ?_;intro Q hQ;refine wk F ?_;refine ee hQ F ?_;exact H3 (.bool _) ⟨rfl,rfl⟩
 |true=>
  simp only[if_true];have hO:=vc G n;generalize (decide (-62135596800≤n)&&decide (n≤253402300799))=d at*;cases d with
  |true=>
   have F:= @al;refine sb [.tmp 2] Tryz.func77 ?_;intro Q hQ;refine wk F ?_;refine(hO _).mono ?_;rintro r h' ⟨⟨_,_,_,_,_,_,rfl⟩,rfl⟩;(try refine sq F ?_);refine wk F ?_;refine ee hQ F ?_;exact H3 (.bool _) ⟨rfl,rfl⟩
  |false=>
   have F:= @al;refine sb [.tmp 2] Tryz.func77 ?_;intro Q hQ;refine wk F ?_;refine(hO _).mono ?_;rintro r h' ⟨⟨_,_,_,_,_,_,rfl⟩,rfl⟩;(try refine sq F ?_);refine wk F ?_;refine ee hQ F ?_;exact H3 (.bool _) ⟨rfl,rfl⟩
theorem oo(x:En)(hx:EnS x)(h:Heap):Sat (CT G) 40 [x.av] h (fun r h'=>r=.bool (enOk x)∧h'=h):=by
 have hD:=om G x;obtain⟨h1,h2,h3⟩:=hx;have T1:=dr G x.guid 512 h1;have T2:=dr G x.title 256 h2;have T3:=dr G x.link 512 h3;unfold enOk;obtain⟨g,t,l,n,b⟩:=x;simp only[]at*;generalize dateOk ⟨g,t,l,n,b⟩=d4 at*;generalize textO g 512=d1 at*;generalize textO t 256=d2 at*;generalize textO l 512=d3 at*;simp only[En.av_eq]at*;by_cases c0:g=[]
 ·have q:(g==([]:Bs))=true:=by simp[c0]
  have e:decide (g≠ [])=false:=by simp[c0]
  rw[e];have F:=F4 q @Q2 @R4 @al;refine sb [.tmp 2] Tryz.func40 ?_;intro Q hQ;refine wk F ?_;refine ee hQ F ?_;exact H3 (.bool _) ⟨rfl,rfl⟩
 have q:(g==([]:Bs))=false:=by simpa using c0
 have e:decide (g≠ [])=true:=by simp[c0]
 rw[e];cases d1 with
 |false=>
  have F:=F4 q @Q2 @R4 @al;refine sb [.tmp 2] Tryz.func40 ?_;intro Q hQ;refine wk F ?_;refine kq F (T1 _) ?_;refine ee hQ F ?_;exact H3 (.bool _) ⟨rfl,rfl⟩
 |true=>
  cases d2 with
  |false=>
   have F:=F4 q @Q2 @R4 @al;refine sb [.tmp 2] Tryz.func40 ?_;intro Q hQ;refine wk F ?_;refine kq F (T1 _) ?_;refine kq F (T2 _) ?_;refine ee hQ F ?_;exact H3 (.bool _) ⟨rfl,rfl⟩
  |true=>
   cases d3 with
   |false=>
    have F:=F4 q @Q2 @R4 @al;refine sb [.tmp 2] Tryz.func40 ?_;intro Q hQ;refine wk F ?_;refine kq F (T1 _) ?_;refine kq F (T2 _) ?_;refine kq F (T3 _) ?_;refine ee hQ F ?_;exact H3 (.bool _) ⟨rfl,rfl⟩
   |true=>
    have F:=F4 q @Q2 @R4 @al;refine sb [.tmp 2] Tryz.func40 ?_;intro Q hQ;refine wk F ?_;refine kq F (T1 _) ?_;refine kq F (T2 _) ?_;refine kq F (T3 _) ?_;refine kq F (hD _) ?_;refine ee hQ F ?_;exact H3 (.bool _) ⟨rfl,rfl⟩
end
section
attribute [local irreducible] WP WPl WPix Sat
variable (G:Nat→Option (List AVal))
def FdS(d:Fd):Prop:=d.title.length≤1048576∧d.link.length≤1048576∧d.es.length≤1048576∧∀x∈d.es,EnS x
theorem ot(d:Fd)(hd:FdS d)(h:Heap):Sat (CT G) 12 [d.av] h (fun r h'=>r=.int .i64 (if fdOk d then 0 else 120)∧h'=h):=by
 obtain⟨t,l,es⟩:=d;obtain⟨ht,hl,he,hx⟩:=hd;simp only[]at ht hl he hx;have T1:=dr G t 256 ht;have T2:=dr G l 512 hl;have O1:=dV G es he;have me:(es.map En.av).length=es.length:=I9 ..;have mo:((onceF es).map En.av).length=(onceF es).length:=I9 ..;have ol:=ft es;have f1:(Fd.mk t l es).av=.agg [.str t,.str l,.sl 5 (es.map En.av)]:=rfl;have ek:fdOk ⟨t,l,es⟩=(decide (es.length≤256)&&(textO t 256&&(textO l 512&&(decide ((onceF es).length=es.length)&&es.all enOk)))):=rfl;rw[f1,ek];generalize textO t 256=d1 at*;generalize textO l 512=d2 at*;have dt:∀i:Decidable True, @decide True i=true:=fun i=>by simp
 have df:∀i:Decidable False, @decide False i=false:=fun i=>by simp
 by_cases c0:es.length≤256
 rotate_left
 ·have q0:decide ((es.length:Int)>256)=true:=G8 (by omega);rw[G7 c0];have F:=F3 me q0 @al;refine sb [.tmp 2] Tryz.func12 ?_;intro Q hQ;refine wk F ?_;refine ee hQ F ?_;exact H3 (.int _ _) ⟨rfl,rfl⟩
 have q0:decide ((es.length:Int)>256)=false:=G7 (by omega);rw[G8 c0];cases d1 with
 |false=>
  have F:=F3 me q0 @al;refine sb [.tmp 2] Tryz.func12 ?_;intro Q hQ;refine wk F ?_;refine aa (T1 _) ?_;try refine sq F ?_
  refine wk F ?_;refine ee hQ F ?_;exact H3 (.int _ _) ⟨rfl,rfl⟩
 |true=>
  cases d2 with
  |false=>
   have F:=F3 me q0 @al;refine sb [.tmp 2] Tryz.func12 ?_;intro Q hQ;refine wk F ?_;refine aa (T1 _) ?_;(try refine sq F ?_);refine wk F ?_;refine aa (T2 _) ?_;(try refine sq F ?_);refine wk F ?_;refine ee hQ F ?_;exact H3 (.int _ _) ⟨rfl,rfl⟩
  |true=>
   by_cases c1:(onceF es).length=es.length
   rotate_left
   ·have q1:decide ((onceF es).length<es.length)=true:=G8 (by omega);rw[G7 c1];have F:=F5 me mo q0 q1 @al;refine sb [.tmp 2] Tryz.func12 ?_;intro Q hQ;refine wk F ?_;refine aa (T1 _) ?_;(try refine sq F ?_);refine wk F ?_;refine aa (T2 _) ?_;(try refine sq F ?_);refine wk F ?_;refine aa (O1 _) ?_;(try refine sq F ?_);refine wk F ?_;refine ee hQ F ?_;exact H3 (.int _ _) ⟨rfl,rfl⟩
   have q1:decide (es.length<es.length)=false:=G7 (by omega);rw[G8 c1];rw[c1]at mo;simp only[Q0];have F:=F5 me mo q0 q1 @al;refine sb [.tmp 2] Tryz.func12 ?_;intro Q hQ;refine wk F ?_;refine aa (T1 _) ?_;(try refine sq F ?_);refine wk F ?_;refine aa (T2 _) ?_;(try refine sq F ?_);refine wk F ?_;refine aa (O1 _) ?_;(try refine sq F ?_);refine wk F ?_;refine lm (fun nL tL hL=>∃(i:Nat) (j:Heap),es.length-i=nL∧h++(.row 25 3 0 [.agg [.str t,.str l,.sl 5 (es.map En.av)]]::j)=hL∧tL 34=.int .i64 i∧i≤es.length∧(es.take i).all enOk=true) ((fun(i:Nat) (j:Heap)=>(es.length-i:Nat)) (0) ([])) ?_ ?_
   ·refine G9 ⟨0,[],rfl,ar,?_,by omega,rfl⟩;all_goals try exact zZz F
   rintro _ s2 h' ⟨i,j,rfl,rfl,e34,hi,ha⟩ K2 hK2;simp only[ai,ak,Nat.reduceEqDiff, ↓reduceIte]at e34;have F:=F2 F e34;by_cases c2:i<es.length
   ·obtain⟨x,hx2,_⟩:=ae c2;have d2:=G8 c2;have hxs:=hx x (G4 hx2);have E1:=oo G x hxs;have hm:(es.map En.av)[i]? =some x.av:=(by rw[L4,hx2];rfl);cases c3:enOk x with
    |true=>
     rw[c3]at E1;have ha':(es.take (i+1)).all enOk=true:=by
      rw[M2,hx2,List.all_append,ha];simp[c3]
     have F:=F3 F d2 hx2;(try refine sq F ?_);refine wk F ?_;refine kq F (E1 _) ?_;refine hK2 _ _ _ (G9 ⟨i+1,_,rfl,ar,?_,by omega,ha'⟩) (by omega);all_goals try exact zZz F
    |false=>
     rw[c3]at E1;have hn:es.all enOk=false:=by
      rw[List.all_eq_false];exact⟨x,G4 hx2,by simp[c3]⟩
     have F:=F3 F d2 hx2;(try refine sq F ?_);refine wk F ?_;refine kq F (E1 _) ?_;refine ee hQ F ?_;exact H3 (.int _ _) ⟨by rw[hn];rfl,rfl⟩
   ·have d2:=G7 c2;rw[H9 (by omega)]at ha;have F:=F2 F d2;(try refine sq F ?_);refine wk F ?_;refine ee hQ F ?_;exact H3 (.int _ _) ⟨by rw[ha];rfl,rfl⟩
end
section
theorem pm:∀(l out:List En),out.Pairwise (fun a b=>a.guid≠b.guid)→(l.foldl onceS out).Pairwise (fun a b=>a.guid≠b.guid)
 | [],out,h=>h
 |x::l,out,h=>by
  refine pm l _ ?_;unfold onceS;split
  ·exact h
  ·rename_i hn;rw[List.pairwise_append];refine⟨h,by simp,fun a ha b hb e=>hn ?_⟩;have:b=x:=by simpa using hb
   subst this;rw[R0];exact⟨a,ha,by simpa using e⟩
theorem pn:∀(l out:List En),(out++l).Pairwise (fun a b=>a.guid≠b.guid)→l.foldl onceS out=out++l
 | [],out,_=>by simp
 |x::l,out,h=>by
  have hs:onceS out x=out++[x]:=by
   unfold onceS;refine G0 ?_;rw[R0];rintro⟨a,ha,e⟩;exact(List.pairwise_append.1 h).2.2 a ha x (by simp) (by simpa using e)
  rw[List.foldl_cons,hs,pn l _ (by simpa using h)];simp
theorem tu(l:List En):onceF (onceF l)=onceF l:=pn _ [] (pm l [] .nil)
theorem nE:∀(l out:List En),∀x∈l.foldl onceS out,x∈out∨x∈l
 | [],out,x,h=>.inl h
 |y::l,out,x,h=>by
  rcases nE l _ x h with h|h
  ·unfold onceS at h;split at h
   ·exact .inl h
   ·rcases R6.1 h with h|h
    ·exact .inl h
    ·exact .inr (by simp at h;simp[h])
  ·exact .inr (by simp[h])
theorem pp{x:Dt}{z n:Int}(h:tellD x z=some n):inM n=true:=by
 unfold tellD at h;split at h
 ·rename_i hc;cases h;simp only[G2]at hc;exact hc.2
 ·cases h
theorem ww{r:Rdr}{x:Dt}{z n:Int}(h:r.told x z=some n):inM n=true:=by
 unfold Rdr.told at h;split at h
 ·cases h
 ·exact pp h
theorem tv{s:Bs}{n:Int}(h:webR s=some n):inM n=true:=by
 rw[← mK]at h;unfold webP at h;exact ww h
theorem xH{w:List Bs}{n:Int}(h:wrdP w=some n):inM n=true:=by
 unfold wrdP at h;split at h
 ·simp only[]at h;split at h<;>split at h<;>first|exact pp h|cases h
 ·cases h
theorem xI{s:Bs}{n:Int}(h:anyF s=some n):inM n=true:=by
 unfold anyF at h;split at h
 ·rename_i m e;cases h;exact tv e
 ·rw[← oO]at h;exact xH h
theorem nF{f:Bs→Option Int}(hf:∀s n,f s=some n→inM n=true){e:Elem}{n:Int}:∀{l:List Bs},momL f e l=some n→inM n=true
 | [],h=>by cases h
 |a::l,h=>by
  unfold momL at h;split at h
  ·rename_i v hv;cases h;unfold momE at hv;split at hv
   ·exact hf _ _ hv
   ·cases hv
  ·exact nF hf h
theorem bf(e:Elem)(n:Bs)(m:Nat):textO (fieldF e n m) m=true:=jT _ _
theorem io(e:Elem):textO (linkA e) 512=true:=by
 unfold linkA;split
 ·exact jT _ _
 ·exact t6 _
theorem pr{a b c:Bs}{m:Nat}(h1:textO a m=true)(h2:textO b m=true)(h3:textO c m=true):textO (orF a b c) m=true:=by
 unfold orF;split
 ·exact h1
 ·split
  ·exact h2
  ·exact h3
theorem vB{g t l:Bs}{m:Option Int}{x:En}(h:mkE g t l m=some x)(h1:textO g 512=true)(h2:textO t 256=true)(h3:textO l 512=true)(h4:∀n,m=some n→inM n=true):enOk x=true:=by
 unfold mkE at h;split at h
 ·cases h
 ·rename_i hg;cases h;unfold enOk dateOk;simp only[h1,h2,h3,Q0];rw[G8 hg,Q0];cases m with
  |none=>rfl
  |some n=>exact h4 n rfl
theorem wx{e:Elem}{x:En}(h:entR e=some x):enOk x=true:=
 vB h (pr (bf _ _ _) (bf _ _ _) (jU (bf _ _ _) (by decide))) (bf _ _ _) (bf _ _ _) fun n hn=>nF (fun s n=>xI) hn
theorem wy{e:Elem}{x:En}(h:entA e=some x):enOk x=true:=
 vB h (pr (bf _ _ _) (io _) (jU (bf _ _ _) (by decide))) (bf _ _ _) (io _) fun n hn=>nF (fun s n=>tv) hn
theorem wz{f:Elem→Option En}(hf:∀e x,f e=some x→enOk x=true)(l:List Elem):(onceF (entsF f l)).all enOk=true:=by
 rw[I1];intro x hx;rcases nE _ _ x hx with h|h
 ·cases h
 ·obtain⟨e,_,he⟩:=List.mem_filterMap.1 (R9 h);exact hf e x he
theorem vC{t l:Bs}{f:Elem→Option En}{k:List Elem}(h1:textO t 256=true)(h2:textO l 512=true)(hf:∀e x,f e=some x→enOk x=true):fdOk ⟨t,l,onceF (entsF f k)⟩=true:=by
 unfold fdOk;simp only[h1,h2,Q0];rw[wz hf,tu,G8 rfl,G8]
 ·rfl
 ·have:=ft (entsF f k);have:(entsF f k).length≤256:=by unfold entsF;rw[I2];omega
  omega
theorem zX{e:Elem}{d:Fd}(h:ofE e=some d):fdOk d=true:=by
 unfold ofE at h;obtain⟨d0,h0,rfl⟩:=J4.1 h;split at h0
 ·rename_i d1 e1;cases h0;unfold rssF at e1;split at e1
  ·cases e1;exact vC (bf _ _ _) (bf _ _ _) fun e x=>wx
  ·cases e1
 ·unfold atomF at h0;split at h0
  ·cases h0;exact vC (bf _ _ _) (io _) fun e x=>wy
  ·cases h0
end
end Go.Av
