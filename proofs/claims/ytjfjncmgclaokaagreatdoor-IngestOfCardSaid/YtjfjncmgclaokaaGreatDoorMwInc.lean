/- Parts. -/
import Derived.Test.YtjfjncmgclaokaaGreatDoorMwDq
import Derived.Test.YtjfjncmgclaokaaGreatDoorMwNm
set_option linter.unusedSimpArgs false
set_option linter.unusedVariables false
set_option linter.unusedSectionVars false
set_option linter.unnecessarySimpa false
set_option maxRecDepth 100000
set_option maxHeartbeats 16000000
namespace Go.Av
open Go Go.Proofs Go.RowKit
section
end
section
attribute [local irreducible] WP WPl WPix Sat
def dateOk(x:En):Bool:=if x.dated then decide (-62135596800≤x.date)&&decide (x.date≤253402300799)else decide (x.date=0)
def enOk(x:En):Bool:=decide (x.guid≠ [])&&(textO x.guid 512&&(textO x.title 256&&(textO x.link 512&&dateOk x)))
def fdOk(d:Fd):Bool:=decide (d.es.length≤256)&&(textO d.title 256&&(textO d.link 512&&(decide ((onceF d.es).length=d.es.length)&&d.es.all enOk)))
def EnS(x:En):Prop:=x.guid.length≤1048576∧x.title.length≤1048576∧x.link.length≤1048576
variable (G:Nat→Option (List AVal))
theorem d8(s:Bs)(m:Nat)(hs:s.length≤1048576)(h:Heap):Sat (CT G) 39 [.str s,.int .i64 m] h (fun r h'=>r=.bool (textO s m)∧h'=h):=by
 have hR:=jM G s (by omega);have hC:=eD G s (by omega);by_cases c1:s.length≤m
 ·have d1:=J7 c1;cases c2:rightS s with
  |true=>
   rw[c2]at hR;by_cases c3:cleanF s=s
   ·have q:(cleanF s==s)=true:=(by simpa using c3);have e:textO s m=true:=(by unfold textO;rw[c2,J7 c1,J7 c3];rfl);rw[e];have F:=F2 d1 q;refine sb [.tmp 4] Tryz.func39 ?_;intro Q hQ;refine wk F ?_;refine kq F (hR _) ?_;refine kq F (hC _) ?_;refine ee hQ F ?_;exact M9 (.bool _) ⟨rfl,rfl⟩
   ·have q:(cleanF s==s)=false:=(by simpa using c3);have e:textO s m=false:=(by unfold textO;rw[J3 c3,Bool.and_false]);rw[e];have F:=F2 d1 q;refine sb [.tmp 4] Tryz.func39 ?_;intro Q hQ;refine wk F ?_;refine kq F (hR _) ?_;refine kq F (hC _) ?_;refine ee hQ F ?_;exact M9 (.bool _) ⟨rfl,rfl⟩
  |false=>
   rw[c2]at hR;have e:textO s m=false:=(by unfold textO;rw[c2,Bool.and_false,Bool.false_and]);rw[e];have F:=d1;refine sb [.tmp 4] Tryz.func39 ?_;intro Q hQ;refine wk F ?_;refine kq F (hR _) ?_;refine ee hQ F ?_;exact M9 (.bool _) ⟨rfl,rfl⟩
 ·have d1:=J3 c1;have e:textO s m=false:=by unfold textO;rw[J3 c1];rfl
  rw[e];have F:=d1;refine sb [.tmp 4] Tryz.func39 ?_;intro Q hQ;refine wk F ?_;refine ee hQ F ?_;exact M9 (.bool _) ⟨rfl,rfl⟩
theorem qG(N:Nat)(a b c d e f k:Int):Clo N (.tup [.agg [.int .i64 a,.int .i64 b,.int .i64 c,.int .i64 d,.int .i64 e,.int .i64 f],.int .i64 k]):=.tup _ fun x hx=>by
 simp only[J9,N9,or_false]at hx;rcases hx with rfl|rfl
 ·exact .agg _ fun c hc=>by simp at hc;rcases hc with rfl|rfl|rfl|rfl|rfl|rfl<;>exact .int _ _
 ·exact .int _ _
theorem uK(n:Int)(h:Heap):Sat (CT G) 131 [.int .i64 n] h (fun r h'=>(∃a b c d e f:Int,r=.tup [.agg [.int .i64 a,.int .i64 b,.int .i64 c,.int .i64 d,.int .i64 e,.int .i64 f],.int .i64 (if decide (-62135596800≤n)&&decide (n≤253402300799)then 0 else 40)])∧h'=h):=by
 have hW:=ut G n (-62135596800) 253402300799;cases hm:(decide (-62135596800≤n)&&decide (n≤253402300799))with
 |false=>
  rw[hm]at hW;refine sb [.cell 2 197,.tmp 3] Tryz.func131 ?_;intro Q hQ;refine wk trivial ?_;refine kq trivial (hW _) ?_;refine ye hQ trivial ?_;exact I2 (qG ..) ⟨⟨_,_,_,_,_,_,rfl⟩,rfl⟩
 |true=>
  rw[hm]at hW;simp only[I1,I8]at hm;obtain⟨m1,m2⟩:=hm;refine sb [.cell 2 197,.tmp 3] Tryz.func131 ?_;intro Q hQ;refine wk trivial ?_;refine kq trivial (hW _) ?_;refine cq trivial (fun c1=>?_) (fun c1=>?_)<;>(try exact c1.elim)<;>(refine wk trivial ?_)
  ·refine ye hQ trivial ?_;exact I2 (qG ..) ⟨⟨_,_,_,_,_,_,rfl⟩,rfl⟩
  ·refine ye hQ trivial ?_;exact I2 (qG ..) ⟨⟨_,_,_,_,_,_,rfl⟩,rfl⟩
theorem od(x:En)(h:Heap):Sat (CT G) 77 [x.av] h (fun r h'=>r=.bool (dateOk x)∧h'=h):=by
 obtain⟨g,t,l,n,b⟩:=x;unfold dateOk;simp only[En.av_eq];cases b with
 |false=>
  simp only[L8,if_false];have q:((n:Int)==0)=decide (n=0):=by rw[N8];simp
  generalize decide (n=0)=d at*;have F:=F2 q @ao;refine sb [.tmp 2] Tryz.func77 ?_;intro Q hQ;refine wk F ?_;refine ee hQ F ?_;exact I2 (.bool _) ⟨rfl,rfl⟩
 |true=>
  simp only[if_true];have hO:=uK G n;generalize (decide (-62135596800≤n)&&decide (n≤253402300799))=d at*;cases d with
  |true=>
   have F:= @ao;refine sb [.tmp 2] Tryz.func77 ?_;intro Q hQ;refine wk F ?_;refine(hO _).mono ?_;rintro r h' ⟨⟨_,_,_,_,_,_,rfl⟩,rfl⟩;(try refine sq F ?_);refine wk F ?_;refine ee hQ F ?_;exact I2 (.bool _) ⟨rfl,rfl⟩
  |false=>
   have F:= @ao;refine sb [.tmp 2] Tryz.func77 ?_;intro Q hQ;refine wk F ?_;refine(hO _).mono ?_;rintro r h' ⟨⟨_,_,_,_,_,_,rfl⟩,rfl⟩;(try refine sq F ?_);refine wk F ?_;refine ee hQ F ?_;exact I2 (.bool _) ⟨rfl,rfl⟩
theorem og(x:En)(hx:EnS x)(h:Heap):Sat (CT G) 40 [x.av] h (fun r h'=>r=.bool (enOk x)∧h'=h):=by
 have hD:=od G x;obtain⟨h1,h2,h3⟩:=hx;have T1:=d8 G x.guid 512 h1;have T2:=d8 G x.title 256 h2;have T3:=d8 G x.link 512 h3;unfold enOk;obtain⟨g,t,l,n,b⟩:=x;simp only[]at*;generalize dateOk ⟨g,t,l,n,b⟩=d4 at*;generalize textO g 512=d1 at*;generalize textO t 256=d2 at*;generalize textO l 512=d3 at*;simp only[En.av_eq]at*;by_cases c0:g=[]
 ·have q:(g==([]:Bs))=true:=by simp[c0]
  have e:decide (g≠ [])=false:=by simp[c0]
  rw[e];have F:=F4 q @P1 @O5 @ao;refine sb [.tmp 2] Tryz.func40 ?_;intro Q hQ;refine wk F ?_;refine ee hQ F ?_;exact I2 (.bool _) ⟨rfl,rfl⟩
 have q:(g==([]:Bs))=false:=by simpa using c0
 have e:decide (g≠ [])=true:=by simp[c0]
 rw[e];cases d1 with
 |false=>
  have F:=F4 q @P1 @O5 @ao;refine sb [.tmp 2] Tryz.func40 ?_;intro Q hQ;refine wk F ?_;refine kq F (T1 _) ?_;refine ee hQ F ?_;exact I2 (.bool _) ⟨rfl,rfl⟩
 |true=>
  cases d2 with
  |false=>
   have F:=F4 q @P1 @O5 @ao;refine sb [.tmp 2] Tryz.func40 ?_;intro Q hQ;refine wk F ?_;refine kq F (T1 _) ?_;refine kq F (T2 _) ?_;refine ee hQ F ?_;exact I2 (.bool _) ⟨rfl,rfl⟩
  |true=>
   cases d3 with
   |false=>
    have F:=F4 q @P1 @O5 @ao;refine sb [.tmp 2] Tryz.func40 ?_;intro Q hQ;refine wk F ?_;refine kq F (T1 _) ?_;refine kq F (T2 _) ?_;refine kq F (T3 _) ?_;refine ee hQ F ?_;exact I2 (.bool _) ⟨rfl,rfl⟩
   |true=>
    have F:=F4 q @P1 @O5 @ao;refine sb [.tmp 2] Tryz.func40 ?_;intro Q hQ;refine wk F ?_;refine kq F (T1 _) ?_;refine kq F (T2 _) ?_;refine kq F (T3 _) ?_;refine kq F (hD _) ?_;refine ee hQ F ?_;exact I2 (.bool _) ⟨rfl,rfl⟩
end
section
def evT(f:Fe)(d:Fd):List Ev:=if f.title=[]∧d.title≠ []then [⟨5,f.id,0,0,[],d.title,[]⟩]else []
def evX(id c n:Int)(x:En):Ev:=⟨7,n,id,if x.dated then x.date else c,x.guid,x.title,x.link⟩
def evI(id c:Int):Int→List En→List Ev
 |_,[]=>[]
 |n,x::l=>evX id c n x::evI id c (n+1) l
def frF(s:PS)(id:Int)(l:List En):List En:=l.filter fun x=> !(lkM s.gu (id,x.guid)).isSome
def PS.room(s:PS):Int:=min (1024-s.it.length) (1048576-s.t3)
def brF(s:PS)(f:Fe)(d:Fd):List Ev:=evT f d++evI f.id s.clock (s.t3+1) ((frF s f.id d.es).take s.room.toNat)
section
variable {s:PS} {id c:Int} {x:En}
end
section
variable {s:PS} {id:Int} {f:Fe} {d:Fd}
end
variable {s s':PS} {id:Int}
theorem gr{α:Type}(z:α)(l:ML Int α):(valsM z l).length=l.length:=by
 unfold valsM;rw[I4,cd,I4]
end
section
def goR(id c t:Int)(R:Nat)(p:En→Bool):List En→Nat→List Ev
 | [],_=>[]
 |x::l,n=>if n<R then(if p x then goR id c t R p l n else evX id c (t+n+1) x::goR id c t R p l (n+1))else []
theorem nk(id c t:Int)(R:Nat)(p:En→Bool):∀(l:List En) (n:Nat),goR id c t R p l n=evI id c (t+n+1) ((l.filter fun x=> !p x).take (R-n))
 | [],n=>by rw[goR,List.filter_nil,List.take_nil,evI]
 |x::l,n=>by
  rw[goR,nk id c t R p l n,nk id c t R p l (n+1),S6];split
  ·rename_i h;obtain⟨m,hm⟩:∃m,R-n=m+1:=⟨R-n-1,by omega⟩;cases hp:p x with
   |true=>simp
   |false=>
    simp only[O5,if_true,L8,if_false];rw[hm,M7,evI,show R-(n+1)=m by omega,show t+((n+1:Nat):Int)+1=t+n+1+1 by omega]
  ·rw[show R-n=0 by omega,N6,evI]
end
section
attribute [local irreducible] WP WPl WPix Sat
variable (G:Nat→Option (List AVal))
section
variable (s:PS) {H:Heap} {n:Nat} (hn:n+9≤H.length)
include hn
theorem qH(id:Int):Sat (CT G) 78 [.hp (n+8) 0 0 0,.int .i64 id] (so H n s) (fun r h'=>r=.tup [((lkM s.fe id).getD Fe.z).av,.bool (lkM s.fe id).isSome]∧h'=so H n s):=by
 refine sb [.cell 4 69,.tmp 5] Tryz.func78 ?_;intro Q hQ;refine wk trivial ?_;refine ye hQ trivial ?_;exact aw hn (.tup _ (fun x hx=>by simp only[J9,N9,or_false]at hx;rcases hx with rfl|rfl;exact Y0 _ _;exact .bool _)) ⟨rfl,rfl⟩
theorem qI(id:Int)(g:Bs):Sat (CT G) 29 [.hp (n+8) 0 0 0,.int .i64 id,.str g] (so H n s) (fun r h'=>r=.tup [.int .i64 ((lkM s.gu (id,g)).getD 0),.bool (lkM s.gu (id,g)).isSome]∧h'=so H n s):=by
 refine sb [.tmp 6,.tmp 7] Tryz.func29 ?_;intro Q hQ;refine wk trivial ?_;refine ye hQ trivial ?_;exact bE hn (.tup _ (fun x hx=>by simp only[J9,N9,or_false]at hx;rcases hx with rfl|rfl;exact .int _ _;exact .bool _)) ⟨rfl,rfl⟩
theorem lC:Sat (CT G) 43 [.hp (n+8) 0 0 0,.int .i64 7] (so H n s) (fun r h'=>r=.int .i64 s.t3∧h'=so H n s):=by
 refine sb [.tmp 4] Tryz.func43 ?_;intro Q hQ;refine wk trivial ?_;refine ee hQ trivial ?_;exact bE hn (.int _ _) ⟨rfl,rfl⟩
theorem sN:Sat (CT G) 80 [.hp (n+8) 0 0 0] (so H n s) (fun r h'=>r=.int .i64 s.clock∧h'=so H n s):=by
 refine sb [.tmp 2] Tryz.func80 ?_;intro Q hQ;refine wk trivial ?_;refine ee hQ trivial ?_;exact bE hn (.int _ _) ⟨rfl,rfl⟩
theorem lD(hI:s.Inv)(hT:s.Tops):Sat (CT G) 18 [.hp (n+8) 0 0 0] (so H n s) (fun r h'=>r=.int .i64 s.room∧h'=so H n s):=by
 have T1:=jV G s hI.toOk hn;have T2:=lC G s hn;have hl:(valsM It.z s.it).length=s.it.length:=gr _ _;have h3:=hI.l3;have h4:=hT.z;have h5:=hT.m;refine sb [.tmp 2] Tryz.func18 ?_;intro Q hQ;refine wk trivial ?_;refine kq trivial (T1) ?_;refine kq trivial (T2) ?_;refine ee hQ trivial ?_;refine bE hn (.int _ _) ⟨?_,rfl⟩;have hl2:s.tell.it.length=s.it.length:=hl;rw[hl2];have hw:IntKind.i64.wrap (1024-(s.it.length:Int))=1024-s.it.length:=by rw[ie (by omega) (by omega)]
 rw[hw];unfold PS.room;congr 1
 by_cases hc:1048576-s.t3<1024-(s.it.length:Int)
 ·rw[I6 (J7 hc)];omega
 ·rw[I0 (by simpa using hc)];omega
end
end
section
attribute [local irreducible] WP WPl WPix Sat SatY
def frB(sp:AVal)(id:Int)(l:List En):List Blk:=[.row 40 1 0 [sp],.row 3 1 0 [.int .i64 id],.row 23 1 0 [.sl 5 (l.map En.av)]]
variable (G:Nat→Option (List AVal))
section
variable {s:PS} {H:Heap} {n:Nat}
theorem qJ(hn:n+9≤H.length)(id:Int)(l:List En):
  Sat (CT G) 79 [.hp (n+8) 0 0 0,.int .i64 id,.sl 5 (l.map En.av)] (so H n s)
   (fun r h'=>r=.fn (.func 132) [] [.hp (H.length+2) 0 0 0,.hp H.length 0 0 0,.hp (H.length+1) 0 0 0]∧h'=so (H++frB (.hp (n+8) 0 0 0) id l) n s):=by
 have clo:∀N,H.length+3≤N→Clo N (.fn (.func 132) [] [.hp (H.length+2) 0 0 0,.hp H.length 0 0 0,.hp (H.length+1) 0 0 0]):=fun N hN=>.fn _ _ _ (fun x hx=>by simp at hx) fun x hx=>by
  simp only[J9,N9,or_false]at hx;rcases hx with rfl|rfl|rfl<;>exact .hp _ _ _ _ (by omega)
 have F:= @ao;refine sb [.tmp 6] Tryz.func79 ?_;intro Q hQ;refine wk F ?_;refine ee hQ F ?_;exact Y5 (by rw[b8 hn,b8 (by simp;omega)];simp) (clo _ (by rw[b8 (by simp;omega)];simp)) ⟨rfl,rfl⟩
theorem uL(l:List En)(hl:l.length≤1048576)(id:Int)(N yl q b0:Nat)(B Bs:List En→Heap→Heap)
  (hB:∀pre j j',B pre j++j'=B pre (j++j'))(hBl:∀pre j,(B pre j).length=b0+j.length)(hBsl:∀pre j,(Bs pre j).length=b0+j.length)(hb0:q+3≤b0)(hq:n+9≤q)
  (hr0:∀pre j,getRow (B pre j) q 0=some (40,1,[.hp (n+8) 0 0 0]))(hr1:∀pre j,getRow (B pre j) (q+1) 0=some (3,1,[.int .i64 id]))(hr2:∀pre j,getRow (B pre j) (q+2) 0=some (23,1,[.sl 5 (l.map En.av)]))
  (hY:∀pre j y,pre.length≤N→SatY (CT G) yl [y.av] (so (B pre j) n s) (fun r h'=>∃j',j.length≤j'.length∧((pre.length<N∧r=.bool true∧h'=so (B (pre++[y]) j') n s)∨(pre.length=N∧r=.bool false∧h'=so (Bs pre j') n s))))(j0:Heap):
  Sat (CT G) 132 [.fn (.yield yl) [] [],.hp (q+2) 0 0 0,.hp q 0 0 0,.hp (q+1) 0 0 0] (so (B [] j0) n s)
   (fun _ h'=>∃j,((frF s id l).length≤N∧h'=so (B (frF s id l) j) n s)∨(N<(frF s id l).length∧h'=so (Bs ((frF s id l).take N) j) n s)):=by
 have ct:∀N,Clo N (.tup []):=fun N=>.tup _ (fun x hx=>by simp at hx)
 have hn:∀pre j,n+9≤(B pre j).length:=fun pre j=>by rw[hBl];omega
 have hn':∀pre j (x:Blk),n+9≤(B pre j++[x]).length:=fun pre j x=>by rw[J5,hBl];omega
 have hns:∀pre j,n+9≤(Bs pre j).length:=fun pre j=>by rw[hBsl];omega
 have hnA:=hn [] j0;have v2:=hr2 [] j0;have hml:(l.map En.av).length=l.length:=I4 ..;have F:=F2 v2 hml;refine sb [] Tryz.func132 ?_;intro Q hQ;refine wk F ?_;refine lm (fun nL tL hL=>∃(k:Nat) (j:Heap),l.length-k=nL∧so (B (frF s id (l.take k)) j) n s=hL∧tL 11=.int .i64 k∧k≤l.length∧j0.length≤j.length∧(frF s id (l.take k)).length≤N) ((fun(k:Nat) (j:Heap)=>(l.length-k:Nat)) (0) (j0)) ?_ ?_
 ·refine I9 ⟨0,j0,rfl,az,?_,by omega,by omega,by simp[frF]⟩;all_goals try exact zZz F
 rintro _ s2 h' ⟨k,j,rfl,rfl,e11,hk,hj,hp⟩ K2 hK2;simp only[ah,ar,Nat.reduceEqDiff, ↓reduceIte]at e11;have F:=F2 F e11;by_cases c2:k<l.length
 ·have d2:=J7 c2;obtain⟨y,hy,hym⟩:=ac c2;have hm:(l.map En.av)[k]? =some y.av:=by rw[K5,hy];rfl
  have hfl:frF s id (l.take (k+1))=frF s id (l.take k)++if (lkM s.gu (id,y.guid)).isSome then []else [y]:=by
   unfold frF;rw[M8,hy,Option.toList_some,List.filter_append,S6,List.filter_nil];cases(lkM s.gu (id,y.guid)).isSome<;>rfl
  have hwh:(lkM s.gu (id,y.guid)).isSome=false→frF s id l=frF s id (l.take k)++y::frF s id (l.drop (k+1)):=fun hb=>by
   have e1:frF s id l=frF s id (l.take (k+1)++l.drop (k+1)):=(by rw[List.take_append_drop]);rw[e1];show(List.filter _ _)=_;rw[List.filter_append];show frF s id (l.take (k+1))++frF s id (l.drop (k+1))=_;rw[hfl,hb,N0];rfl
  generalize frF s id (l.take k)=pre at hp hfl hwh ⊢;have hG1:=qI G s (H:=B pre (j++[.row 61 5 0 [y.av]])) (n:=n) (hn _ _) id y.guid;have hY1:=hY pre (j++[.row 61 5 0 [y.av]]) y hp;have hb1:∀p,p<b0→∀u x,getRow (B pre j++[x]) p u=getRow (B pre j) p u:=fun p hp u x=>bu _ (by rw[hBl];omega)
  have g0:getRow (B pre j++[.row 61 5 0 [y.av]]) q 0=some (40,1,[.hp (n+8) 0 0 0]):=by rw[hb1 _ (by omega)];exact hr0 _ _
  have g1:getRow (B pre j++[.row 61 5 0 [y.av]]) (q+1) 0=some (3,1,[.int .i64 id]):=by rw[hb1 _ (by omega)];exact hr1 _ _
  rw[← hB]at hG1 hY1;obtain⟨yg,yt,yk,ya,yb⟩:=y;rw[En.av_eq]at hY1 hm g0 g1;rw[En.av_eq]at hG1;simp only[]at hG1 hfl hwh;have hnB:=hn pre j;have hnC:=hn' pre j (.row 61 5 0 [.agg [.str yg,.str yt,.str yk,.int .i64 ya,.bool yb]]);cases hb:(lkM s.gu (id,yg)).isSome with
  |true=>
   rw[hb]at hG1 hfl;have F:=F8 F hm hy d2 c2 g0 g1 @ao;(try refine sq F ?_);refine wk F ?_;refine kq F (hG1) ?_;refine hK2 _ _ _ (I9 ⟨k+1,j++[.row 61 5 0 [.agg [.str yg,.str yt,.str yk,.int .i64 ya,.bool yb]]],rfl,by rw[hfl];simp[hB,En.av],?_,by omega,by simp;omega,by rw[hfl];simpa using hp⟩) (by omega);all_goals try exact zZz F
  |false=>
   rw[hb]at hG1 hfl;have hwh:=hwh hb;have F:=F8 F hm hy d2 c2 g0 g1 @ao;(try refine sq F ?_);refine wk F ?_;refine kq F (hG1) ?_;refine hY1.mono ?_;rintro r h' ⟨j',hj',⟨hlt2,rfl,rfl⟩| ⟨heq,rfl,rfl⟩⟩
   ·(try refine sq F ?_);refine wk F ?_;refine hK2 _ _ _ (I9 ⟨k+1,j',rfl,by rw[hfl];rfl,?_,by omega,by simp at hj';omega,by rw[hfl];simp;omega⟩) (by omega);all_goals try exact zZz F
   ·(try refine sq F ?_);refine wk F ?_;refine ee hQ F ?_;refine Y5 (by rw[b8 (hn _ _),b8 (hns _ _),hBl,hBsl];simp at hj';omega) (ct _) ⟨j',.inr ⟨by rw[hwh];simp;omega,?_⟩⟩;rw[hwh, ← heq,T6 rfl]
 ·have d2:=J3 c2;have e:k=l.length:=by omega
  subst e;rw[J6 (J1 _)]at hp ⊢;have F:=F2 F d2;try refine sq F ?_
  refine wk F ?_;refine ee hQ F ?_;exact Y5 (by rw[b8 (hn _ _),b8 (hn _ _),hBl,hBl];omega) (ct _) ⟨j,.inl ⟨hp,rfl⟩⟩
end
end
section
attribute [local irreducible] WP WPl WPix Sat SatY
def uF(sw:Bool)(R t3:Int)(k:Nat):Int:=if sw then t3+1+k else R-k
def vF(sw:Bool)(R t3:Int)(k:Nat):Int:=if sw then R-k else t3+1+k
def bgM(H:Heap)(n:Nat)(fv dv:AVal)(id:Int)(l:List En)(sw:Bool)(R t3:Int)(ws:List Ev)(k:Nat)(z:Blk)(j:Heap):Heap:=
 H++(.row 40 1 0 [.hp (n+8) 0 0 0]:: .row 69 4 0 [fv]:: .row 25 3 0 [dv]:: .row 33 1 0 [.hs (H.length+4) ws.length 0 ws.length true]::
  .row 57 7 ws.length (ws.map Ev.av):: .row 3 1 0 [.int .i64 (uF sw R t3 k)]:: .row 3 1 0 [.int .i64 (vF sw R t3 k)]:: .row 40 1 0 [.hp (n+8) 0 0 0]:: .row 3 1 0 [.int .i64 id]:: .row 23 1 0 [.sl 5 (l.map En.av)]:: .df::z::j)
section
variable {H:Heap} {n:Nat} {fv dv:AVal} {id:Int} {l:List En} {sw:Bool} {R t3:Int} {ws:List Ev} {k:Nat} {z:Blk} {j:Heap}
theorem gw(j':Heap):bgM H n fv dv id l sw R t3 ws k z j++j'=bgM H n fv dv id l sw R t3 ws k z (j++j'):=by simp[bgM]
theorem eQ:(bgM H n fv dv id l sw R t3 ws k z j).length=H.length+12+j.length:=by simp[bgM];omega
theorem eR:(bgM H n fv dv id l sw R t3 ws k z j)[H.length+11]? =some z:=by
 unfold bgM;rw[J4 (by omega),T5];rfl
theorem xH:(bgM H n fv dv id l sw R t3 ws k z j)[H.length+10]? =some .df:=by
 unfold bgM;rw[J4 (by omega),T5];rfl
theorem gx(z':Blk):(bgM H n fv dv id l sw R t3 ws k z j).set (H.length+11) z'=bgM H n fv dv id l sw R t3 ws k z' j:=by
 unfold bgM;rw[dY _ rfl];rfl
theorem bG(i v:Nat):getRow (bgM H n fv dv id l sw R t3 ws k z j) (H.length+i) v=getRow (.row 40 1 0 [.hp (n+8) 0 0 0]:: .row 69 4 0 [fv]:: .row 25 3 0 [dv]:: .row 33 1 0 [.hs (H.length+4) ws.length 0 ws.length true]::
  .row 57 7 ws.length (ws.map Ev.av):: .row 3 1 0 [.int .i64 (uF sw R t3 k)]:: .row 3 1 0 [.int .i64 (vF sw R t3 k)]:: .row 40 1 0 [.hp (n+8) 0 0 0]:: .row 3 1 0 [.int .i64 id]:: .row 23 1 0 [.sl 5 (l.map En.av)]:: .df::z::j) i v:=bm v rfl
theorem oU(e:Ev):((((bgM H n fv dv id l sw R t3 ws k z j).set (H.length+4) (.row 57 7 (ws.length+1) (ws.map Ev.av++[e.av]))).set (H.length+3) (.row 33 1 0 [.hs (H.length+4) (ws.length+1) 0 (ws.length+1) true])).set (H.length+5) (.row 3 1 0 [.int .i64 (uF sw R t3 (k+1))])).set (H.length+6) (.row 3 1 0 [.int .i64 (vF sw R t3 (k+1))])=bgM H n fv dv id l sw R t3 (ws++[e]) (k+1) z j:=by
 unfold bgM;rw[dY _ rfl,dY _ rfl,dY _ rfl,dY _ rfl];simp only[List.set_cons_succ,List.set_cons_zero,J5,List.length_singleton,O0,L5,P4]
theorem uM(e:Ev):((((bgM H n fv dv id l sw R t3 ws k z j).set (H.length+4) (.row 57 7 (ws.length+1) (ws.map Ev.av++[e.av]))).set (H.length+3) (.row 33 1 0 [.hs (H.length+4) (ws.length+1) 0 (ws.length+1) true])).set (H.length+6) (.row 3 1 0 [.int .i64 (vF sw R t3 (k+1))])).set (H.length+5) (.row 3 1 0 [.int .i64 (uF sw R t3 (k+1))])=bgM H n fv dv id l sw R t3 (ws++[e]) (k+1) z j:=by
 rw[List.set_comm _ _ (by omega)];exact oU e
end
def outF(vs:List Ev)(id c t3:Int)(pre:List En):List Ev:=vs++evI id c (t3+1) pre
theorem oV(id c:Int)(y:En):∀(pre:List En) (t:Int),evI id c t (pre++[y])=evI id c t pre++[evX id c (t+pre.length) y]
 | [],t=>by simp[evI]
 |x::pre,t=>by
  rw[Q3,evI,oV id c y pre (t+1),evI,Q3,I7];rw[show t+1+(pre.length:Int)=t+((pre.length+1:Nat):Int) by omega]
theorem uN(vs:List Ev)(id c t3:Int)(pre:List En)(y:En):outF vs id c t3 (pre++[y])=outF vs id c t3 pre++[evX id c (t3+1+pre.length) y]:=by
 unfold outF;rw[oV,N0]
theorem kS(id c:Int):∀(l:List En) (t:Int),(evI id c t l).length=l.length
 | [],_=>rfl
 |x::l,t=>by rw[evI,I7,I7,kS id c l]
theorem uO(vs:List Ev)(id c t3:Int)(pre:List En):(outF vs id c t3 pre).length=vs.length+pre.length:=by
 unfold outF;rw[J5,kS]
theorem du{H:Heap}{n:Nat}{s:PS}(hn:n+9≤H.length){p:Nat}(hp:n+9≤p):(so H n s)[p]? =H[p]? :=ir hn (.inr hp)
variable (G:Nat→Option (List AVal))
section
variable {s:PS} {H:Heap} {n:Nat}
theorem qK{ass body:Code}{kk:Nat}{t:Env}{Q1:Exit→Env→Heap→Prop}(l:List En)(hl:l.length≤1048576)(id:Int)(fv dv:AVal)(sw:Bool)(R:Int)(vs:List Ev)(N yl:Nat)(hn:n+9≤H.length)
  (okA:okCode kk ass=true)(okB:okCode kk body=true)(flA:flat ass=true)(flB:flat body=true)
  (hA:∀(y:En) (H':Heap) (Q:Exit→Env→Heap→Prop),Q .normal (upd (upd t 39 y.av) 10 (.hp H'.length 0 0 0)) (H'++[.row 61 5 0 [y.av]])→WP (CT G) ass Q (upd t 39 y.av) H')
  (hB:∀(y:En) (pre:List En) (j:Heap) (z:Blk) (Q:Exit→Env→Heap→Prop),pre.length≤N→
   (pre.length=N→∀t',Q (.exit 0) t' (so (bgM H n fv dv id l sw R s.t3 (outF vs id s.clock s.t3 pre) pre.length z (j++[.row 61 5 0 [y.av]])) n s))→
   (pre.length<N→∀t',Q .normal t' (so (bgM H n fv dv id l sw R s.t3 (outF vs id s.clock s.t3 (pre++[y])) (pre.length+1) z (j++[.row 61 5 0 [y.av],.row 57 7 0 [(evX id s.clock (s.t3+1+pre.length) y).av]])) n s))→
   WP (CT G) body Q (upd (upd t 39 y.av) 10 (.hp (H.length+12+j.length) 0 0 0)) (so (bgM H n fv dv id l sw R s.t3 (outF vs id s.clock s.t3 pre) pre.length z j++[.row 61 5 0 [y.av]]) n s))
  (f0:∀j,Q1 .normal t (so (bgM H n fv dv id l sw R s.t3 (outF vs id s.clock s.t3 ((frF s id l).take N)) ((frF s id l).take N).length .dead j) n s))
  (f1:∀j,Q1 (.exit 0) t (so (bgM H n fv dv id l sw R s.t3 (outF vs id s.clock s.t3 ((frF s id l).take N)) ((frF s id l).take N).length .dead j) n s)):
  Sat (CT G) 132 [.fn (.yield yl) [] [],.hp (H.length+9) 0 0 0,.hp (H.length+7) 0 0 0,.hp (H.length+8) 0 0 0]
   (so (H++[Blk.row 40 1 0 [.hp (n+8) 0 0 0],.row 69 4 0 [fv],.row 25 3 0 [dv],.row 33 1 0 [.hs (H.length+4) vs.length 0 vs.length true],
    .row 57 7 vs.length (vs.map Ev.av),.row 3 1 0 [.int .i64 (uF sw R s.t3 0)],.row 3 1 0 [.int .i64 (vF sw R s.t3 0)],.row 40 1 0 [.hp (n+8) 0 0 0],.row 3 1 0 [.int .i64 id],.row 23 1 0 [.sl 5 (l.map En.av)]]) n s++[.df,.lp yl kk t #[39] ass body .ready none]) (rangeQ (H.length+10) yl kk t #[39] ass body Q1):=by
 have hnM:∀{ws:List Ev} {k:Nat} {z:Blk} {j:Heap},n+9≤(bgM H n fv dv id l sw R s.t3 ws k z j).length:=by intro ws k z j;rw[eQ];omega
 have hseq:=uL G (s:=s) (n:=n) l hl id N yl (H.length+7) (H.length+12) (fun pre j=>bgM H n fv dv id l sw R s.t3 (outF vs id s.clock s.t3 pre) pre.length (.lp yl kk t #[39] ass body .ready none) j) (fun pre j=>bgM H n fv dv id l sw R s.t3 (outF vs id s.clock s.t3 pre) pre.length (.lp yl kk t #[39] ass body .done (some (.exit 0))) j)
  (fun pre j j'=>gw j') (fun pre j=>eQ) (fun pre j=>eQ) (by omega) (by omega) (fun pre j=>bG 7 0) (fun pre j=>bG 8 0) (fun pre j=>bG 9 0)
  (fun pre j y hp=>?_) []
 ·have e0:so (H++[Blk.row 40 1 0 [.hp (n+8) 0 0 0],.row 69 4 0 [fv],.row 25 3 0 [dv],.row 33 1 0 [.hs (H.length+4) vs.length 0 vs.length true],
    .row 57 7 vs.length (vs.map Ev.av),.row 3 1 0 [.int .i64 (uF sw R s.t3 0)],.row 3 1 0 [.int .i64 (vF sw R s.t3 0)],.row 40 1 0 [.hp (n+8) 0 0 0],.row 3 1 0 [.int .i64 id],.row 23 1 0 [.sl 5 (l.map En.av)]]) n s++[.df,.lp yl kk t #[39] ass body .ready none]=so (bgM H n fv dv id l sw R s.t3 (outF vs id s.clock s.t3 []) ([]:List En).length (.lp yl kk t #[39] ass body .ready none) []) n s:=by
   rw[bv (by simp;omega)];simp[bgM,outF,evI]
  rw[e0];refine hseq.mono ?_;rintro r h' ⟨j,⟨hle,rfl⟩| ⟨hlt,rfl⟩⟩
  ·refine⟨.ready,none,by rw[du hnM (by omega)];exact eR,by simp,?_⟩;have:=f0 j;rw[J6 hle]at this;show Q1 .normal t _;rw[ga hnM _ (by omega),gx];exact this
  ·refine⟨.done,some (.exit 0),by rw[du hnM (by omega)];exact eR,by simp,?_⟩;have:=f1 j;show Q1 (.exit 0) t _;rw[ga hnM _ (by omega),gx];exact this
 ·refine SatY.roundQ (p:=H.length+11) (by rw[du hnM (by omega)];exact eR) okA okB flA flB fun Qa ha=>hA y _ Qa (ha _ _ ?_ fun Qb hb he=>?_)
  ·rw[bv hnM,du (by rw[J5];have:=hnM (ws:=outF vs id s.clock s.t3 pre) (k:=pre.length) (z:=.lp yl kk t #[39] ass body .ready none) (j:=j);omega) (by omega),gw];exact eR
  ·have e1:(so (bgM H n fv dv id l sw R s.t3 (outF vs id s.clock s.t3 pre) pre.length (.lp yl kk t #[39] ass body .ready none) j) n s++[Blk.row 61 5 0 [y.av]]).set (H.length+11) (.lp yl kk t #[39] ass body .busy none)=so (bgM H n fv dv id l sw R s.t3 (outF vs id s.clock s.t3 pre) pre.length (.lp yl kk t #[39] ass body .busy none) j++[.row 61 5 0 [y.av]]) n s:=by
    rw[bv hnM,gw,ga hnM _ (by omega),gx,gw]
   rw[e1,b8 hnM,eQ];refine hB y pre j _ Qb hp (fun e t'=>he 0 _ _ ?_ ?_) fun e t'=>hb _ _ ?_ ?_
   ·rw[du hnM (by omega)];exact eR
   ·rw[ga hnM _ (by omega),gx];exact⟨_,by simp,.inr ⟨e,rfl,rfl⟩⟩
   ·rw[du hnM (by omega)];exact eR
   ·rw[ga hnM _ (by omega),gx];refine⟨_,?_,.inl ⟨e,rfl,by rw[J5];rfl⟩⟩;simp
end
end
section
attribute [local irreducible] WP WPl WPix Sat SatY
variable (G:Nat→Option (List AVal))
section
variable {s:PS} {H:Heap} {n:Nat}
theorem iE(N:Nat)(e:Ev):Clo N e.av:=.agg _ (fun x hx=>by
 simp only[J9,N9,or_false]at hx;rcases hx with rfl|rfl|rfl|rfl|rfl|rfl|rfl<;>first|exact .int _ _|exact .str _)
theorem kh(e:Ev):∀c∈e.av.cells,c.sto=true:=by
 intro c hc;simp only[Ev.av,AVal.cells,J9,N9,or_false]at hc;rcases hc with rfl|rfl|rfl|rfl|rfl|rfl|rfl<;>rfl
theorem j7(hI:s.Inv)(hT:s.Tops)(hn:n+9≤H.length)(f:Fe)(d:Fd)(hd:d.es.length≤1048576):
  Sat (CT G) 42 [.hp (n+8) 0 0 0,f.av,d.av] (so H n s) (fun r h'=>r=.sl 7 ((brF s f d).map Ev.av)∧h'=so H n s):=by
 have hr0:0≤s.room:=by have:=hI.l3;have:=hT.m;unfold PS.room;omega
 have hr1:s.room≤1048576:=by have:=hT.z;unfold PS.room;omega
 have hz:=hT.z;have hm3:=hT.m;have hRm:∀X:Heap,n+9≤X.length→Sat (CT G) 18 [.hp (n+8) 0 0 0] (so X n s) (fun r h'=>r=.int .i64 s.room∧h'=so X n s):=fun X hX=>lD G s hX hI hT
 have hTp:=fun(X:Heap) (hX:n+9≤X.length)=>lC G s (H:=X) (n:=n) hX
 have hCk:=fun(X:Heap) (hX:n+9≤X.length)=>sN G s (H:=X) (n:=n) hX
 have hbr:brF s f d=outF (evT f d) f.id s.clock s.t3 ((frF s f.id d.es).take s.room.toNat):=rfl;rw[hbr];generalize hvs:evT f d=vs;generalize hR:s.room=R at*;obtain⟨fi,fn,fu,ft⟩:=f;obtain⟨dt,dk,es⟩:=d;simp only[]at hd ⊢;have f1:(Fe.mk fi fn fu ft).av=.agg [.int .i64 fi,.int .i64 fn,.str fu,.str ft]:=rfl;have f2:(Fd.mk dt dk es).av=.agg [.str dt,.str dk,.sl 5 (es.map En.av)]:=rfl;rw[f1,f2];have hvl:vs.length≤1:=by rw[← hvs];unfold evT;split<;>simp
 skip
 refine Sat.range [.tmp 6] (fn:=Tryz.f42) (H.length+10) Tryz.func42 ?_;intro Q0 Q1 hQ hQ1;have F:= @ao;refine EJ.seq1 (by kernel_rfl) fun KK kK=>?_
 refine wk F ?_;refine kK _ _ (w0 ?_);clear kK KK;refine EJ.seq1 (by kernel_rfl) fun KK kK=>?_
 refine wk F ?_;refine kK _ _ ⟨_,_,Weak.virtCell1 (p:=H.length+3) (v:=0) 57 7 (by omega) (by simp(disch:=first|omega| (simp only[go_sem, ↓reduceIte,seval];first|done|omega)|fail) only[go_sem, ↓reduceIte,seval,F];rfl),?_⟩;clear kK KK;try refine sq F ?_
 refine EJ.seq1 (by kernel_rfl) fun KK kK=>?_
 suffices kJ:∀t:Env,(t 3=.hp H.length 0 0 0∧t 4=.hp (H.length+1) 0 0 0∧t 5=.hp (H.length+2) 0 0 0∧t 7=.hp (H.length+3) 0 0 0)→
   KK t (so (H++[Blk.row 40 1 0 [.hp (n+8) 0 0 0],.row 69 4 0 [.agg [.int .i64 fi,.int .i64 fn,.str fu,.str ft]],.row 25 3 0 [.agg [.str dt,.str dk,.sl 5 (es.map En.av)]],.row 33 1 0 [.hs (H.length+4) vs.length 0 vs.length true],
    .row 57 7 vs.length (vs.map Ev.av)]) n s) by
  by_cases c1:ft=[]
  ·by_cases c2:dt=[]
   ·have hv:vs=[]:=(by rw[← hvs];unfold evT;rw[I0 (by simp[c2])]);subst hv;have q1:(ft==([]:Bs))=true:=(by simp[c1]);have q2:(dt==([]:Bs))=true:=(by simp[c2]);have F:=F5 F q1 q2 @P1 @O5;refine wk F ?_;exact kJ _ ⟨by simp(disch:=first|omega| (simp only[go_sem, ↓reduceIte,seval];first|done|omega)|fail) only[go_sem, ↓reduceIte,seval,F],by simp(disch:=first|omega| (simp only[go_sem, ↓reduceIte,seval];first|done|omega)|fail) only[go_sem, ↓reduceIte,seval,F],by simp(disch:=first|omega| (simp only[go_sem, ↓reduceIte,seval];first|done|omega)|fail) only[go_sem, ↓reduceIte,seval,F],by simp(disch:=first|omega| (simp only[go_sem, ↓reduceIte,seval];first|done|omega)|fail) only[go_sem, ↓reduceIte,seval,F]⟩
   ·have hv:vs=[⟨5,fi,0,0,[],dt,[]⟩]:=(by rw[← hvs];unfold evT;rw[I6 ⟨c1,c2⟩]);subst hv;have q1:(ft==([]:Bs))=true:=(by simp[c1]);have q2:(dt==([]:Bs))=false:=(by simp[c2]);have F:=F5 F q1 q2 @P1 @O5;refine wk F ?_;refine aq F ?_;(try refine sq F ?_);refine wk F ?_;exact kJ _ ⟨by simp(disch:=first|omega| (simp only[go_sem, ↓reduceIte,seval];first|done|omega)|fail) only[go_sem, ↓reduceIte,seval,F],by simp(disch:=first|omega| (simp only[go_sem, ↓reduceIte,seval];first|done|omega)|fail) only[go_sem, ↓reduceIte,seval,F],by simp(disch:=first|omega| (simp only[go_sem, ↓reduceIte,seval];first|done|omega)|fail) only[go_sem, ↓reduceIte,seval,F],by simp(disch:=first|omega| (simp only[go_sem, ↓reduceIte,seval];first|done|omega)|fail) only[go_sem, ↓reduceIte,seval,F]⟩
  ·have hv:vs=[]:=(by rw[← hvs];unfold evT;rw[I0 (by simp[c1])]);subst hv;have q1:(ft==([]:Bs))=false:=(by simp[c1]);have F:=F2 F q1;refine wk F ?_;exact kJ _ ⟨by simp(disch:=first|omega| (simp only[go_sem, ↓reduceIte,seval];first|done|omega)|fail) only[go_sem, ↓reduceIte,seval,F],by simp(disch:=first|omega| (simp only[go_sem, ↓reduceIte,seval];first|done|omega)|fail) only[go_sem, ↓reduceIte,seval,F],by simp(disch:=first|omega| (simp only[go_sem, ↓reduceIte,seval];first|done|omega)|fail) only[go_sem, ↓reduceIte,seval,F],by simp(disch:=first|omega| (simp only[go_sem, ↓reduceIte,seval];first|done|omega)|fail) only[go_sem, ↓reduceIte,seval,F]⟩
 rintro t ⟨tq3,tq4,tq5,tq7⟩;refine kK _ _ (w0 ?_);clear kK KK;have F:=F5 F tq3 tq4 tq5 tq7;refine EJ.seq1 (by kernel_rfl) fun KK kK=>?_
 suffices kJ:∀(sw:Bool) (t:Env),(t 3=.hp H.length 0 0 0∧t 4=.hp (H.length+1) 0 0 0∧t 5=.hp (H.length+2) 0 0 0∧t 7=.hp (H.length+3) 0 0 0∧t 8=.hp (H.length+if sw then 6 else 5) 0 0 0∧t 9=.hp (H.length+if sw then 5 else 6) 0 0 0)→
   KK t (so (H++[Blk.row 40 1 0 [.hp (n+8) 0 0 0],.row 69 4 0 [.agg [.int .i64 fi,.int .i64 fn,.str fu,.str ft]],.row 25 3 0 [.agg [.str dt,.str dk,.sl 5 (es.map En.av)]],.row 33 1 0 [.hs (H.length+4) vs.length 0 vs.length true],
    .row 57 7 vs.length (vs.map Ev.av),.row 3 1 0 [.int .i64 (uF sw R s.t3 0)],.row 3 1 0 [.int .i64 (vF sw R s.t3 0)]]) n s) by
  have kF:=kJ false;have kT:=kJ true;rw[show uF false R s.t3 0=R by simp[uF],show vF false R s.t3 0=s.t3+1 by simp[vF]]at kF;rw[show uF true R s.t3 0=s.t3+1 by simp[uF],show vF true R s.t3 0=R by simp[vF]]at kT;simp only[L8,if_false]at kF;simp only[if_true]at kT;clear kJ
  skip
  refine wn F ?_;refine aA 8 [5,6,7] [true,true,true,true,true,false,false,false] (.two 5 [true,true,true,true,true] (.one 6 [true,true,true,true,true] (.one 7 [false,false,false,false,true] .fin)) 6 [true,true,true,true,true] (.one 5 [true,true,true,true,true] (.one 7 [false,false,false,false,true] .fin))) (by decide+kernel) (by kernel_rfl) (by decide+kernel) ?_;simp only[aC,aD,aB];try refine sq F ?_
  repeat' ((first|refine ai ?_|refine aj ?_|refine ak ?_ ?_)<;>try refine sq F ?_)
  all_goals try refine wn F ?_
  refine au (hRm _ (by first|omega| (simp;omega))) ?_;try refine sq F ?_
  refine wn F ?_;refine au (hTp _ (by first|omega| (simp;omega))) ?_;try refine sq F ?_
  refine wn F ?_;repeat' ((first|refine ai ?_|refine aj ?_|refine ak ?_ ?_)<;>try refine sq F ?_)
  all_goals try refine wn F ?_
  all_goals (
   repeat' (
    refine⟨?_,?_⟩
    ·refine au (hRm _ (by first|omega| (simp;omega))) ?_;(try refine sq F ?_);refine wn F ?_;refine au (hTp _ (by first|omega| (simp;omega))) ?_;(try refine sq F ?_);refine wn F ?_;all_goals first|exact zq F|trivial| (refine sq F ?_;trivial)
    repeat' ((first|refine ai ?_|refine aj ?_|refine ak ?_ ?_)<;>try refine sq F ?_)
    all_goals try refine wn F ?_))
  ·exact kF _ ⟨by simp(disch:=first|omega| (simp only[go_sem, ↓reduceIte,seval];first|done|omega)|fail) only[go_sem, ↓reduceIte,seval,F],by simp(disch:=first|omega| (simp only[go_sem, ↓reduceIte,seval];first|done|omega)|fail) only[go_sem, ↓reduceIte,seval,F],by simp(disch:=first|omega| (simp only[go_sem, ↓reduceIte,seval];first|done|omega)|fail) only[go_sem, ↓reduceIte,seval,F],by simp(disch:=first|omega| (simp only[go_sem, ↓reduceIte,seval];first|done|omega)|fail) only[go_sem, ↓reduceIte,seval,F],by simp(disch:=first|omega| (simp only[go_sem, ↓reduceIte,seval];first|done|omega)|fail) only[go_sem, ↓reduceIte,seval,F],by simp(disch:=first|omega| (simp only[go_sem, ↓reduceIte,seval];first|done|omega)|fail) only[go_sem, ↓reduceIte,seval,F]⟩
  ·exact kT _ ⟨by simp(disch:=first|omega| (simp only[go_sem, ↓reduceIte,seval];first|done|omega)|fail) only[go_sem, ↓reduceIte,seval,F],by simp(disch:=first|omega| (simp only[go_sem, ↓reduceIte,seval];first|done|omega)|fail) only[go_sem, ↓reduceIte,seval,F],by simp(disch:=first|omega| (simp only[go_sem, ↓reduceIte,seval];first|done|omega)|fail) only[go_sem, ↓reduceIte,seval,F],by simp(disch:=first|omega| (simp only[go_sem, ↓reduceIte,seval];first|done|omega)|fail) only[go_sem, ↓reduceIte,seval,F],by simp(disch:=first|omega| (simp only[go_sem, ↓reduceIte,seval];first|done|omega)|fail) only[go_sem, ↓reduceIte,seval,F],by simp(disch:=first|omega| (simp only[go_sem, ↓reduceIte,seval];first|done|omega)|fail) only[go_sem, ↓reduceIte,seval,F]⟩
 skip
 rintro sw t ⟨tq3,tq4,tq5,tq7,tq8,tq9⟩;refine kK _ _ (w0 ?_);clear kK KK;have F:=F7 F tq3 tq4 tq5 tq7 tq8 tq9;have hBh:∀(X:Heap),n+9≤X.length→_:=fun X hX=>qJ G (s:=s) (H:=X) (n:=n) hX fi es
 refine EJ.seq2 (EJ.seq1 (by kernel_rfl) fun KK kK=>?_);refine wk F ?_;refine kq F (hBh _ (by first|omega| (simp;omega))) ?_;unfold frB;refine kK _ _ (w0 ?_);clear kK KK;try refine sq F ?_
 refine EJ.block (EJ.forget (P:=fun t=>t 3=.hp H.length 0 0 0∧t 4=.hp (H.length+1) 0 0 0∧t 7=.hp (H.length+3) 0 0 0∧t 8=.hp (H.length+if sw then 6 else 5) 0 0 0∧t 9=.hp (H.length+if sw then 5 else 6) 0 0 0∧t 38=.fn (.func 132) [] [.hp (H.length+9) 0 0 0,.hp (H.length+7) 0 0 0,.hp (H.length+8) 0 0 0]) ⟨by simp(disch:=first|omega| (simp only[go_sem, ↓reduceIte,seval];first|done|omega)|fail) only[go_sem, ↓reduceIte,seval,F],by simp(disch:=first|omega| (simp only[go_sem, ↓reduceIte,seval];first|done|omega)|fail) only[go_sem, ↓reduceIte,seval,F],by simp(disch:=first|omega| (simp only[go_sem, ↓reduceIte,seval];first|done|omega)|fail) only[go_sem, ↓reduceIte,seval,F],by simp(disch:=first|omega| (simp only[go_sem, ↓reduceIte,seval];first|done|omega)|fail) only[go_sem, ↓reduceIte,seval,F],by simp(disch:=first|omega| (simp only[go_sem, ↓reduceIte,seval];first|done|omega)|fail) only[go_sem, ↓reduceIte,seval,F],by simp(disch:=first|omega| (simp only[go_sem, ↓reduceIte,seval];first|done|omega)|fail) only[go_sem, ↓reduceIte,seval,F]⟩ ?_);clear tq3 tq4 tq5 tq7 tq8 tq9;rintro t ⟨tq3,tq4,tq7,tq8,tq9,tq38⟩;refine EJ.range (gf:=132) (fn:=Tryz.f132) rfl tq38 Tryz.func132 rfl (by kernel_rfl) (by rw[b8 (by simp;omega)];simp) fun yl=>?_
 refine qK G es hd fi _ _ sw R vs R.toNat yl hn (by kernel_rfl) (by kernel_rfl) rfl rfl (fun y H' Q hq1=>?_) (fun y pre j z Q hp hx ha=>?_) (fun j=>?_) (fun j=>?_)
 ·refine wk F ?_;exact hq1
 ·have xl:=eQ (H:=H) (n:=n) (fv:=.agg [.int .i64 fi,.int .i64 fn,.str fu,.str ft]) (dv:=.agg [.str dt,.str dk,.sl 5 (es.map En.av)]) (id:=fi) (l:=es) (sw:=sw) (R:=R) (t3:=s.t3) (ws:=outF vs fi s.clock s.t3 pre) (k:=pre.length) (z:=z) (j:=j);obtain⟨ws,hws⟩:∃ws,outF vs fi s.clock s.t3 pre=ws:=⟨_,rfl⟩;have hw2:=uN vs fi s.clock s.t3 pre y;have hwl:=uO vs fi s.clock s.t3 pre;rw[hws]at hw2 xl hx hwl ⊢;rw[hw2]at ha;obtain⟨X,hX⟩:∃X,bgM H n (.agg [.int .i64 fi,.int .i64 fn,.str fu,.str ft]) (.agg [.str dt,.str dk,.sl 5 (es.map En.av)]) fi es sw R s.t3 ws pre.length z j=X:=⟨_,rfl⟩;have r0:getRow X H.length 0=some (40,1,[.hp (n+8) 0 0 0]):=(L9 (fun X=>getRow X (H.length+0) 0) hX).symm.trans (bG 0 0);have r1:getRow X (H.length+1) 0=some (69,4,[.agg [.int .i64 fi,.int .i64 fn,.str fu,.str ft]]):=(L9 (fun X=>getRow X (H.length+1) 0) hX).symm.trans (bG 1 0);have r3:getRow X (H.length+3) 0=some (33,1,[.hs (H.length+4) ws.length 0 ws.length true]):=(L9 (fun X=>getRow X (H.length+3) 0) hX).symm.trans (bG 3 0);have r4:getRow X (H.length+4) ws.length=some (57,7,ws.map Ev.av):=((L9 (fun X=>getRow X (H.length+4) ws.length) hX).symm.trans (bG 4 ws.length)).trans (by simp[getRow]);have r5:getRow X (H.length+5) 0=some (3,1,[.int .i64 (uF sw R s.t3 pre.length)]):=(L9 (fun X=>getRow X (H.length+5) 0) hX).symm.trans (bG 5 0);have r6:getRow X (H.length+6) 0=some (3,1,[.int .i64 (vF sw R s.t3 pre.length)]):=(L9 (fun X=>getRow X (H.length+6) 0) hX).symm.trans (bG 6 0);have a1:=oU (H:=H) (n:=n) (fv:=.agg [.int .i64 fi,.int .i64 fn,.str fu,.str ft]) (dv:=.agg [.str dt,.str dk,.sl 5 (es.map En.av)]) (id:=fi) (l:=es) (sw:=sw) (R:=R) (t3:=s.t3) (ws:=ws) (k:=pre.length) (z:=z) (j:=j) (evX fi s.clock (s.t3+1+pre.length) y);have a2:=uM (H:=H) (n:=n) (fv:=.agg [.int .i64 fi,.int .i64 fn,.str fu,.str ft]) (dv:=.agg [.str dt,.str dk,.sl 5 (es.map En.av)]) (id:=fi) (l:=es) (sw:=sw) (R:=R) (t3:=s.t3) (ws:=ws) (k:=pre.length) (z:=z) (j:=j) (evX fi s.clock (s.t3+1+pre.length) y);rw[← gw]at hx ha;rw[hX]at xl hx a1 a2 ⊢;clear hX hvs hbr hRm hTp tq38 hws hw2;have hnX:n+9≤X.length:=by omega
  have hXl:H.length+12≤X.length:=by omega
  rw[← xl];clear xl;have hmw:(ws.map Ev.av).length=ws.length:=I4 ..;obtain⟨yg,yt,yk,ya,yb⟩:=y;simp only[X8,En.av_eq,evX]at hx ha a1 a2 ⊢;have e5:R-((pre.length+1:Nat):Int)=R-pre.length-1:=by omega
  have e6:s.t3+1+((pre.length+1:Nat):Int)=s.t3+1+pre.length+1:=by omega
  cases sw;all_goals (
   simp only[uF,vF,L8,if_false,if_true,e5,e6]at r5 r6 a1 a2 tq8 tq9 hx ha ⊢;by_cases hpn:pre.length=R.toNat
   ·have q0:(R-(pre.length:Int)==0)=true:=(by simp;omega);have F:=F2 (F9 tq3 tq5 tq4 tq7 tq8 tq9 r0 r1 r3) (F6 r4 r5 r6 q0 @hnX @ao);refine wk F ?_;exact hx hpn _
   ·have q0:(R-(pre.length:Int)==0)=false:=(by simp;omega);have ha1:=ha;rw[← a1]at ha1;rw[← a2]at ha;cases yb;all_goals (
     simp only[L8,if_false,if_true]at ha ha1;have F:=F2 (F9 tq5 tq3 tq4 tq7 tq8 tq9 r0 r1 r3) (F7 r4 r5 r6 q0 @hnX hmw @ao)
     skip
     refine wn F ?_;refine aA 13 [12] [true,true,true,true,true,true,true,true,true,true,true,true,false] (.one 12 [true,true,true,true,true,true,true,true,true,true,true] .fin) (by decide+kernel) (by kernel_rfl) (by decide+kernel) ?_;simp only[aC,aD,aB];(try refine sq F ?_);repeat' ((first|refine ai ?_|refine aj ?_|refine ak ?_ ?_)<;>try refine sq F ?_)
     (all_goals try refine wn F ?_);refine au (hCk _ (by first|omega| (simp;omega))) ?_;(try refine sq F ?_);refine wn F ?_;repeat' ((first|refine ai ?_|refine aj ?_|refine ak ?_ ?_)<;>try refine sq F ?_)
     (all_goals try refine wn F ?_);refine⟨?_,?_⟩
     ·refine au (hCk _ (by first|omega| (simp;omega))) ?_;(try refine sq F ?_);refine wn F ?_;all_goals first|exact zq F|trivial| (refine sq F ?_;trivial)
     repeat' ((first|refine ai ?_|refine aj ?_|refine ak ?_ ?_)<;>try refine sq F ?_)
     all_goals try refine wn F ?_
     skip
     (try refine sq F ?_);refine wk F ?_;refine aq F ?_;(try refine sq F ?_);refine wk F ?_;first|exact ha1 (by omega) _|exact ha (by omega) _))
 all_goals (
  show MJ (CT G) _ _ Q1 _ t _;generalize (frF s fi es).take R.toNat=l at hQ1 ⊢;generalize outF vs fi s.clock s.t3 l=ws at hQ1 ⊢;obtain⟨X,hX⟩:∃X,bgM H n (.agg [.int .i64 fi,.int .i64 fn,.str fu,.str ft]) (.agg [.str dt,.str dk,.sl 5 (es.map En.av)]) fi es sw R s.t3 ws l.length .dead j=X:=⟨_,rfl⟩;have xl:=(L9 List.length hX).symm.trans eQ;have r3:=(L9 (fun X=>getRow X (H.length+3) 0) hX).symm.trans (bG 3 0);have r4:=(L9 (fun X=>getRow X (H.length+4) ws.length) hX).symm.trans (bG 4 ws.length);have d10:=(L9 (fun X=>X[H.length+10]?) hX).symm.trans xH;obtain⟨J,hJ⟩:∃J,X=H++J:=⟨_,hX.symm⟩;rw[hX];clear hX;have r3:getRow X (H.length+3) 0=some (33,1,[.hs (H.length+4) ws.length 0 ws.length true]):=r3;have r4:getRow X (H.length+4) ws.length=some (57,7,ws.map Ev.av):=r4.trans (by simp[getRow]);have hnX:n+9≤X.length:=by omega
  refine MJ.wp (by kernel_rfl) ?_;have F:=F5 F tq7 r3 @hnX @ao;refine wk F ?_;refine(hQ1 _ _ (by rw[du hnX (by omega)];exact d10) ?_).1;simp(disch:=first|omega| (simp only[go_sem, ↓reduceIte,seval];first|done|omega)|fail) only[go_sem, ↓reduceIte,seval,F,resA,resL,resA1];have hg:=b9 (H:=X) (p:=H.length+10) (q:=H.length+4) .dead ws.length (by omega);rw[r4]at hg;subst hJ;rw[dY _ rfl]at hg ⊢;exact bF hn (U9 (by omega) (by rw[bU (by simp at hnX ⊢;omega) _ (by omega)];exact hg) (by simp) (fun r hr=>by obtain⟨e,_,rfl⟩:=J8.1 hr;exact iE _ e) (fun r hr=>by obtain⟨e,_,rfl⟩:=J8.1 hr;exact kh e)) ⟨rfl,rfl⟩)
end
end
section
attribute [local irreducible] WP WPl WPix Sat
variable (G:Nat→Option (List AVal))
def FdS(d:Fd):Prop:=d.title.length≤1048576∧d.link.length≤1048576∧d.es.length≤1048576∧∀x∈d.es,EnS x
theorem oh(d:Fd)(hd:FdS d)(h:Heap):Sat (CT G) 12 [d.av] h (fun r h'=>r=.int .i64 (if fdOk d then 0 else 120)∧h'=h):=by
 obtain⟨t,l,es⟩:=d;obtain⟨ht,hl,he,hx⟩:=hd;simp only[]at ht hl he hx;have T1:=d8 G t 256 ht;have T2:=d8 G l 512 hl;have O1:=iD G es he;have me:(es.map En.av).length=es.length:=I4 ..;have mo:((onceF es).map En.av).length=(onceF es).length:=I4 ..;have ol:=iC es;have f1:(Fd.mk t l es).av=.agg [.str t,.str l,.sl 5 (es.map En.av)]:=rfl;have ek:fdOk ⟨t,l,es⟩=(decide (es.length≤256)&&(textO t 256&&(textO l 512&&(decide ((onceF es).length=es.length)&&es.all enOk)))):=rfl;rw[f1,ek];generalize textO t 256=d1 at*;generalize textO l 512=d2 at*;have dt:∀i:Decidable True, @decide True i=true:=fun i=>by simp
 have df:∀i:Decidable False, @decide False i=false:=fun i=>by simp
 by_cases c0:es.length≤256
 rotate_left
 ·have q0:decide ((es.length:Int)>256)=true:=J7 (by omega);rw[J3 c0];have F:=F3 me q0 @ao;refine sb [.tmp 2] Tryz.func12 ?_;intro Q hQ;refine wk F ?_;refine ee hQ F ?_;exact I2 (.int _ _) ⟨rfl,rfl⟩
 have q0:decide ((es.length:Int)>256)=false:=J3 (by omega);rw[J7 c0];cases d1 with
 |false=>
  have F:=F3 me q0 @ao;refine sb [.tmp 2] Tryz.func12 ?_;intro Q hQ;refine wk F ?_;refine au (T1 _) ?_;try refine sq F ?_
  refine wk F ?_;refine ee hQ F ?_;exact I2 (.int _ _) ⟨rfl,rfl⟩
 |true=>
  cases d2 with
  |false=>
   have F:=F3 me q0 @ao;refine sb [.tmp 2] Tryz.func12 ?_;intro Q hQ;refine wk F ?_;refine au (T1 _) ?_;(try refine sq F ?_);refine wk F ?_;refine au (T2 _) ?_;(try refine sq F ?_);refine wk F ?_;refine ee hQ F ?_;exact I2 (.int _ _) ⟨rfl,rfl⟩
  |true=>
   by_cases c1:(onceF es).length=es.length
   rotate_left
   ·have q1:decide ((onceF es).length<es.length)=true:=J7 (by omega);rw[J3 c1];have F:=F5 me mo q0 q1 @ao;refine sb [.tmp 2] Tryz.func12 ?_;intro Q hQ;refine wk F ?_;refine au (T1 _) ?_;(try refine sq F ?_);refine wk F ?_;refine au (T2 _) ?_;(try refine sq F ?_);refine wk F ?_;refine au (O1 _) ?_;(try refine sq F ?_);refine wk F ?_;refine ee hQ F ?_;exact I2 (.int _ _) ⟨rfl,rfl⟩
   have q1:decide (es.length<es.length)=false:=J3 (by omega);rw[J7 c1];rw[c1]at mo;simp only[Q4];have F:=F5 me mo q0 q1 @ao;refine sb [.tmp 2] Tryz.func12 ?_;intro Q hQ;refine wk F ?_;refine au (T1 _) ?_;(try refine sq F ?_);refine wk F ?_;refine au (T2 _) ?_;(try refine sq F ?_);refine wk F ?_;refine au (O1 _) ?_;(try refine sq F ?_);refine wk F ?_;refine lm (fun nL tL hL=>∃(i:Nat) (j:Heap),es.length-i=nL∧h++(.row 25 3 0 [.agg [.str t,.str l,.sl 5 (es.map En.av)]]::j)=hL∧tL 34=.int .i64 i∧i≤es.length∧(es.take i).all enOk=true) ((fun(i:Nat) (j:Heap)=>(es.length-i:Nat)) (0) ([])) ?_ ?_
   ·refine I9 ⟨0,[],rfl,az,?_,by omega,rfl⟩;all_goals try exact zZz F
   rintro _ s2 h' ⟨i,j,rfl,rfl,e34,hi,ha⟩ K2 hK2;simp only[ah,ar,Nat.reduceEqDiff, ↓reduceIte]at e34;have F:=F2 F e34;by_cases c2:i<es.length
   ·obtain⟨x,hx2,_⟩:=ac c2;have d2:=J7 c2;have hxs:=hx x (J2 hx2);have E1:=og G x hxs;have hm:(es.map En.av)[i]? =some x.av:=(by rw[K5,hx2];rfl);cases c3:enOk x with
    |true=>
     rw[c3]at E1;have ha':(es.take (i+1)).all enOk=true:=by
      rw[M8,hx2,List.all_append,ha];simp[c3]
     have F:=F3 F d2 hx2;(try refine sq F ?_);refine wk F ?_;refine kq F (E1 _) ?_;refine hK2 _ _ _ (I9 ⟨i+1,_,rfl,az,?_,by omega,ha'⟩) (by omega);all_goals try exact zZz F
    |false=>
     rw[c3]at E1;have hn:es.all enOk=false:=by
      rw[List.all_eq_false];exact⟨x,J2 hx2,by simp[c3]⟩
     have F:=F3 F d2 hx2;(try refine sq F ?_);refine wk F ?_;refine kq F (E1 _) ?_;refine ee hQ F ?_;exact I2 (.int _ _) ⟨by rw[hn];rfl,rfl⟩
   ·have d2:=J3 c2;rw[J6 (by omega)]at ha;have F:=F2 F d2;(try refine sq F ?_);refine wk F ?_;refine ee hQ F ?_;exact I2 (.int _ _) ⟨by rw[ha];rfl,rfl⟩
end
section
attribute [local irreducible] WP WPl WPix Sat
def plF(s:PS)(id:Int)(d:Fd)(c:Int):List Ev×Int:=match lkM s.fe id with
 |none=>([],4)
 |some f=>if c=0 then(brF s f d,0)else([],c)
theorem sO(s:PS)(f:Fe)(d:Fd):(brF s f d).length≤1+d.es.length:=by
 unfold brF;rw[J5,kS,M2];have h1:(evT f d).length≤1:=by unfold evT;split<;>simp
 have h2:(frF s f.id d.es).length≤d.es.length:=List.length_filter_le ..;omega
theorem xI(s:PS)(id:Int)(d:Fd)(c:Int):(plF s id d c).1.length≤1+d.es.length:=by
 unfold plF;split
 ·simp
 ·split
  ·exact sO _ _ _
  ·simp
def plR(p:List Ev×Int):AVal:=.tup [.sl 7 (p.1.map Ev.av),.int .i64 p.2]
theorem gU(Z:Heap)(n:Nat)(c:Int):Frz Z n (.tup [.nil (.slice none 0 0),.int .i64 c]) (plR ([],c)):=FrzL.tup (.cons (.nils 7) (.cons (.clo _ (.int _ _)) .nil))
theorem vV(N:Nat)(l:List Ev):Clo N (.sl 7 (l.map Ev.av)):=.sl _ _ (fun x hx=>by
  obtain⟨e,_,rfl⟩:=J8.1 hx;exact iE N e)
theorem kU(N:Nat)(p:List Ev×Int):Clo N (plR p):=.tup _ fun x hx=>by
 simp only[J9,N9,or_false]at hx;rcases hx with rfl|rfl
 ·exact vV N _
 ·exact .int _ _
variable (G:Nat→Option (List AVal))
section
variable {s:PS} {H:Heap} {n:Nat}
theorem ki(hn:n+9≤H.length)(id:Int):Sat (CT G) 41 [.hp (n+8) 0 0 0,.int .i64 id] (so H n s) (fun r h'=>r=.tup [((lkM s.fe id).getD Fe.z).av,.int .i64 (if (lkM s.fe id).isSome then 0 else 4)]∧h'=so H n s):=by
 have hF:=fun(X:Heap) (hX:n+9≤X.length)=>qH G s (H:=X) (n:=n) hX id
 have clo:∀N (f:Fe) (c:Int),Clo N (.tup [f.av,.int .i64 c]):=fun N f c=>.tup _ fun x hx=>by
  simp only[J9,N9,or_false]at hx;rcases hx with rfl|rfl
  ·exact Y0 _ _
  ·exact .int _ _
 cases hf:lkM s.fe id with
 |none=>
  rw[hf]at hF;have hF:∀(X:Heap),n+9≤X.length→Sat (CT G) 78 [.hp (n+8) 0 0 0,.int .i64 id] (so X n s) (fun r h'=>r=.tup [.agg [.int .i64 0,.int .i64 0,.str [],.str []],.bool false]∧h'=so X n s):=hF;have F:= @ao;refine sb [.cell 4 69,.tmp 5] Tryz.func41 ?_;intro Q hQ;refine wk F ?_;refine kq F (hF _ (by first|omega| (simp;omega))) ?_;refine ye hQ F ?_;exact aw hn (clo _ Fe.z _) ⟨rfl,rfl⟩
 |some f=>
  rw[hf]at hF;obtain⟨a,b,u,t⟩:=f;have hF:∀(X:Heap),n+9≤X.length→Sat (CT G) 78 [.hp (n+8) 0 0 0,.int .i64 id] (so X n s) (fun r h'=>r=.tup [.agg [.int .i64 a,.int .i64 b,.str u,.str t],.bool true]∧h'=so X n s):=hF;have F:= @ao;refine sb [.cell 4 69,.tmp 5] Tryz.func41 ?_;intro Q hQ;refine wk F ?_;refine kq F (hF _ (by first|omega| (simp;omega))) ?_;refine ye hQ F ?_;exact aw hn (clo _ ⟨a,b,u,t⟩ _) ⟨rfl,rfl⟩
theorem oW(hI:s.Inv)(hT:s.Tops)(hn:n+9≤H.length)(id:Int)(d:Fd)(hd:FdS d):
  Sat (CT G) 15 [.hp (n+8) 0 0 0,.int .i64 id,d.av] (so H n s) (fun r h'=>r=plR (plF s id d (if fdOk d then 0 else 120))∧h'=so H n s):=by
 have hTh:=fun(X:Heap) (hX:n+9≤X.length)=>ki G (s:=s) (H:=X) (n:=n) hX id
 have hCk:=oh G d hd;have hBr:=fun(f:Fe) (X:Heap) (hX:n+9≤X.length)=>j7 G (H:=X) hI hT hX f d hd.2.2.1
 obtain⟨dt,dk,es⟩:=d;have f2:(Fd.mk dt dk es).av=.agg [.str dt,.str dk,.sl 5 (es.map En.av)]:=rfl;rw[f2]at hCk ⊢;simp only[f2]at hBr;unfold plF;cases hf:lkM s.fe id with
 |none=>
  rw[hf]at hTh;have hTh:∀(X:Heap),n+9≤X.length→Sat (CT G) 41 [.hp (n+8) 0 0 0,.int .i64 id] (so X n s) (fun r h'=>r=.tup [.agg [.int .i64 0,.int .i64 0,.str [],.str []],.int .i64 4]∧h'=so X n s):=hTh;have F:= @ao;refine sb [.tmp 6,.tmp 7] Tryz.func15 ?_;intro Q hQ;refine wk F ?_;refine kq F (hTh _ (by first|omega| (simp;omega))) ?_;refine ye hQ F ?_;exact bF hn (gU _ _ _) ⟨rfl,rfl⟩
 |some f=>
  rw[hf]at hTh;have hBr:=hBr f;obtain⟨a,b,u,t⟩:=f;have hTh:∀(X:Heap),n+9≤X.length→Sat (CT G) 41 [.hp (n+8) 0 0 0,.int .i64 id] (so X n s) (fun r h'=>r=.tup [.agg [.int .i64 a,.int .i64 b,.str u,.str t],.int .i64 0]∧h'=so X n s):=hTh;have f1:(Fe.mk a b u t).av=.agg [.int .i64 a,.int .i64 b,.str u,.str t]:=rfl;rw[f1]at hBr;cases hk:fdOk ⟨dt,dk,es⟩with
  |false=>
   rw[hk]at hCk;have hCk:∀h,Sat (CT G) 12 [.agg [.str dt,.str dk,.sl 5 (es.map En.av)]] h (fun r h'=>r=.int .i64 120∧h'=h):=hCk;have F:= @ao;refine sb [.tmp 6,.tmp 7] Tryz.func15 ?_;intro Q hQ;refine wk F ?_;refine kq F (hTh _ (by first|omega| (simp;omega))) ?_;refine kq F (hCk _) ?_;refine ye hQ F ?_;exact bF hn (gU _ _ _) ⟨rfl,rfl⟩
  |true=>
   rw[hk]at hCk;have hCk:∀h,Sat (CT G) 12 [.agg [.str dt,.str dk,.sl 5 (es.map En.av)]] h (fun r h'=>r=.int .i64 0∧h'=h):=hCk;have F:= @ao;refine sb [.tmp 6,.tmp 7] Tryz.func15 ?_;intro Q hQ;refine wk F ?_;refine kq F (hTh _ (by first|omega| (simp;omega))) ?_;refine kq F (hCk _) ?_;refine kq F (hBr _ (by first|omega| (simp;omega))) ?_;refine ye hQ F ?_;exact aw hn (kU _ (_,_)) ⟨rfl,rfl⟩
theorem iF(hI:s.Inv)(hT:s.Tops)(hn:n+9≤H.length)(id:Int)(x:Bs)(d:Fd)(c:Int)(hd:d.es.length≤1048576)(hP:∀h,Sat (CT G) 9 [.str x] h (fun r h'=>r=.tup [d.av,.int .i64 c]∧h'=h)):
  Sat (CT G) 16 [.hp (n+8) 0 0 0,.int .i64 id,.str x] (so H n s) (fun r h'=>r=plR (plF s id d c)∧h'=so H n s):=by
 have hTh:=fun(X:Heap) (hX:n+9≤X.length)=>ki G (s:=s) (H:=X) (n:=n) hX id
 have hBr:=fun(f:Fe) (X:Heap) (hX:n+9≤X.length)=>j7 G (H:=X) hI hT hX f d hd
 obtain⟨dt,dk,es⟩:=d;have f2:(Fd.mk dt dk es).av=.agg [.str dt,.str dk,.sl 5 (es.map En.av)]:=rfl;rw[f2]at hP;simp only[f2]at hBr;unfold plF;cases hf:lkM s.fe id with
 |none=>
  rw[hf]at hTh;have hTh:∀(X:Heap),n+9≤X.length→Sat (CT G) 41 [.hp (n+8) 0 0 0,.int .i64 id] (so X n s) (fun r h'=>r=.tup [.agg [.int .i64 0,.int .i64 0,.str [],.str []],.int .i64 4]∧h'=so X n s):=hTh;have F:= @ao;refine sb [.tmp 6,.tmp 7] Tryz.func16 ?_;intro Q hQ;refine wk F ?_;refine kq F (hTh _ (by first|omega| (simp;omega))) ?_;refine ye hQ F ?_;exact bF hn (gU _ _ _) ⟨rfl,rfl⟩
 |some f=>
  rw[hf]at hTh;have hBr:=hBr f;obtain⟨a,b,u,t⟩:=f;have hTh:∀(X:Heap),n+9≤X.length→Sat (CT G) 41 [.hp (n+8) 0 0 0,.int .i64 id] (so X n s) (fun r h'=>r=.tup [.agg [.int .i64 a,.int .i64 b,.str u,.str t],.int .i64 0]∧h'=so X n s):=hTh;have f1:(Fe.mk a b u t).av=.agg [.int .i64 a,.int .i64 b,.str u,.str t]:=rfl;rw[f1]at hBr;by_cases c0:c=0
  ·subst c0;have F:= @ao;refine sb [.tmp 6,.tmp 7] Tryz.func16 ?_;intro Q hQ;refine wk F ?_;refine kq F (hTh _ (by first|omega| (simp;omega))) ?_;refine kq F (hP _) ?_;refine kq F (hBr _ (by first|omega| (simp;omega))) ?_;refine ye hQ F ?_;exact aw hn (kU _ (_,_)) ⟨rfl,rfl⟩
  ·have q1:(c !=0)=true:=(by simpa using c0);simp only[I0 c0];have F:=F2 q1 @ao;refine sb [.tmp 6,.tmp 7] Tryz.func16 ?_;intro Q hQ;refine wk F ?_;refine kq F (hTh _ (by first|omega| (simp;omega))) ?_;refine kq F (hP _) ?_;refine ye hQ F ?_;exact bF hn (gU _ _ _) ⟨rfl,rfl⟩
theorem oX(hI:s.Inv)(hT:s.Tops)(hn:n+9≤H.length)(id:Int)(x:Bs)(d:Fd)(c:Int)(hd:d.es.length≤1048576)(hP:∀h,Sat (CT G) 9 [.str x] h (fun r h'=>r=.tup [d.av,.int .i64 c]∧h'=h)):
  Sat (CT G) 17 [.hp (n+8) 0 0 0,.int .i64 id,.str x] (so H n s) (fun r h'=>r=plR (plF s id d c)∧h'=so H n ((plF s id d c).1.foldl (PS.step L0) s)):=by
 have hPl:=fun(X:Heap) (hX:n+9≤X.length)=>iF G (H:=X) hI hT hX id x d c hd hP
 have hAp:=fun(s:PS) (hI:s.Inv) (e:Ev) (X:Heap) (hX:n+9≤X.length)=>jX G s hI e (H:=X) hX
 have hpl:=xI s id d c;generalize plF s id d c=p at*;obtain⟨l,e⟩:=p;have hpl:l.length≤1+d.es.length:=hpl;have hPl:∀(X:Heap),n+9≤X.length→Sat (CT G) 16 [.hp (n+8) 0 0 0,.int .i64 id,.str x] (so X n s) (fun r h'=>r=.tup [.sl 7 (l.map Ev.av),.int .i64 e]∧h'=so X n s):=hPl;have hml:(l.map Ev.av).length=l.length:=I4 ..;have F:=F2 hml @ao;refine sb [.tmp 6,.tmp 7] Tryz.func17 ?_;intro Q hQ;refine wk F ?_;refine kq F (hPl _ (by first|omega| (simp;omega))) ?_;refine lm (fun nL tL hL=>∃(k:Nat) (j:Heap),l.length-k=nL∧so (H++j) n ((l.take k).foldl (PS.step L0) s)=hL∧tL 21=.int .i64 k∧k≤l.length) ((fun(k:Nat) (j:Heap)=>(l.length-k:Nat)) (0) ([])) ?_ ?_
 ·refine I9 ⟨0,[],rfl,by rw[M6];rfl,?_,by omega⟩;all_goals try exact zZz F
 rintro _ s2 h' ⟨k,j,rfl,rfl,e21,hk⟩ K2 hK2;simp only[ah,ar,Nat.reduceEqDiff, ↓reduceIte]at e21;have F:=F2 F e21;by_cases c2:k<l.length
 ·have d2:=J7 c2;obtain⟨y,hy,hym⟩:=ac c2;have hm:(l.map Ev.av)[k]? =some y.av:=by rw[K5,hy];rfl
  have hst:(l.take (k+1)).foldl (PS.step L0) s=((l.take k).foldl (PS.step L0) s).step L0 y:=by rw[M8,hy,Option.toList_some,List.foldl_append];rfl
  have hA1:=hAp _ (hI.fold (L:=L0) (l.take k)) y (H++(j++[.row 57 7 0 [y.av]])) (by simp;omega);rw[← hst]at hA1;have hnj:∀j,n+9≤(H++j).length:=fun j=>by simp;omega
  have F:=F6 F hm hy d2 c2 hnj;try refine sq F ?_
  refine wk F ?_;refine kq F (hA1) ?_;refine hK2 _ _ _ (I9 ⟨k+1,j++[.row 57 7 0 [y.av]],rfl,rfl,?_,by omega⟩) (by omega);all_goals try exact zZz F
 ·have d2:=J3 c2;rw[J6 (by omega)];have F:=F2 F d2;try refine sq F ?_
  refine wk F ?_;refine ye hQ F ?_;exact aw hn (kU _ (_,_)) ⟨rfl,rfl⟩
end
end
section
attribute [local irreducible] WP WPl WPix Sat
variable (G:Nat→Option (List AVal))
def En.z:En:=⟨[],[],[],0,false⟩
def oEn(o:Option En):AVal:=.tup [(o.getD En.z).av,.bool o.isSome]
theorem oY(N:Nat)(x:En)(b:Bool):Clo N (.tup [x.av,.bool b]):=.tup _ (fun c hc=>by simp only[J9,N9,or_false]at hc;rcases hc with rfl|rfl<;>first|exact x.clo _|exact .bool _)
def Fd.z:Fd:=⟨[],[],[]⟩
theorem Fd.clo(n:Nat)(d:Fd):Clo n d.av:=.agg _ fun c hc=>by
 simp only[J9,N9,or_false]at hc;rcases hc with rfl|rfl|rfl
 ·exact .str _
 ·exact .str _
 ·exact .sl _ _ (fun r hr=>by obtain⟨x,_,rfl⟩:=J8.1 hr;exact x.clo _)
def oFd(o:Option Fd):AVal:=.tup [(o.getD Fd.z).av,.bool o.isSome]
theorem uQ(f:Elem→Option En){l:List Elem}{k:Nat}{x:Elem}(hx:l[k]? =some x):entsF f (l.take (k+1))=match f x with
 |none=>entsF f (l.take k)
 |some v=>if (entsF f (l.take k)).length<256 then entsF f (l.take k)++[v]else entsF f (l.take k):=by
 unfold entsF;rw[M8 (l:=l) (i:=k),hx,List.filterMap_append];cases hv:f x with
 |none=>simp[hv]
 |some v=>
  have:List.filterMap f (some x).toList=[v]:=by simp[hv]
  rw[this];generalize List.filterMap f (l.take k)=A;by_cases hl:A.length<256
  ·have h1:(A++[v]).take 256=A++[v]:=J6 (by simp;omega);have h2:A.take 256=A:=J6 (by omega);rw[h1,h2];exact(I6 hl).symm
  ·have h1:(A++[v]).take 256=A.take 256:=V0 (by omega);rw[h1];exact(I0 (by rw[M2];omega)).symm
theorem np{e k:Elem}{n:Bs}(hs:e.sz≤1048576)(h:k∈kidsF e n):k.sz≤1048576:=by
 have:=Elem.kid_sz (R7.1 h).1;omega
theorem sP(e:Elem)(n:Bs)(hs:e.sz≤1048576):(kidsF e n).length≤1048576:=by
 have h1:=e.kids_len;have h2:(kidsF e n).length≤e.kids.length:=List.length_filter_le ..;omega
theorem xK{Z:Heap}{n q v e:Nat}(t l:Bs)(es:List En)(b:Bool)(hq:n≤q)(hg:getRow Z q v=some (e,5,es.map En.av)):Frz Z n (.tup [.agg [.str t,.str l,.hs q v 0 es.length true],.bool b]) (.tup [Fd.av ⟨t,l,es⟩,.bool b]):=by
 have z:Frz Z n (.hs q v 0 es.length true) (.sl 5 (es.map En.av)):=U9 hq hg (by simp) (fun r hr=>by obtain⟨x,_,rfl⟩:=J8.1 hr;exact x.clo _) (fun r hr=>by obtain⟨x,_,rfl⟩:=J8.1 hr;exact x.sto);exact FrzL.tup (.cons (FrzL.agg (.cons (.clo _ (.str _)) (.cons (.clo _ (.str _)) (.cons z .nil))) rfl) (.cons (.clo _ (.bool _)) .nil))
theorem oZ(Z:Heap)(n:Nat):Frz Z n (.tup [.agg [.str [],.str [],.nil (.slice none 0 0)],.bool false]) (oFd none):=
 FrzL.tup (.cons (FrzL.agg (.cons (.clo _ (.str _)) (.cons (.clo _ (.str _)) (.cons (.nils 5) .nil))) rfl) (.cons (.clo _ (.bool _)) .nil))
theorem sQ(l:List En)(hl:l.length≤1048576)(h:Heap):Sat (CT G) 49 [.sl 5 (l.map En.av)] h (fun r h'=>r=.sl 5 ((onceF l).map En.av)∧h'=h):=by
 have ml:(l.map En.av).length=l.length:=I4 ..;have dt:∀i:Decidable True, @decide True i=true:=fun i=>by simp
 have F:=F2 ml dt;refine sb [.tmp 2] Tryz.func49 ?_;intro Q hQ;refine wk F ?_;refine lm (fun nL tL hL=>∃(i v:Nat) (out:List En) (j:Heap),l.length-i=nL∧h++ .row 61 5 v (out.map En.av)::j=hL∧tL 3=.hs h.length v 0 out.length true∧tL 4=.int .i64 i∧i≤l.length∧out=onceF (l.take i)) ((fun(i v:Nat) (out:List En) (j:Heap)=>(l.length-i:Nat)) (0) (0) ([]) ([])) ?_ ?_
 ·refine⟨_,_,V3 3 61 5 (by simp) (by omega) (by exact zq F),⟨0,0,[],[],rfl,az,?_,?_,by omega,rfl⟩⟩;all_goals try exact zZz F
 rintro _ s2 h' ⟨i,v,out,j,rfl,rfl,e3,e4,hi,ho⟩ K2 hK2;simp only[ah,ar,Nat.reduceEqDiff, ↓reduceIte]at e3 e4;have F:=F3 F e3 e4;have hol:=iC (l.take i);rw[← ho,M2]at hol;have mo:(out.map En.av).length=out.length:=I4 ..;by_cases c1:i<l.length
 ·obtain⟨x,hx,_⟩:=ac c1;have d1:=J7 c1;have hst:=nj hx;rw[← ho]at hst;have F:=F5 F hx d1 mo @ao;try refine sq F ?_
  refine wk F ?_;refine lm (fun nL tL hL=>∃(k:Nat) (b:Bool),out.length-k=nL∧h++ .row 61 5 v (out.map En.av)::j=hL∧tL 5=.bool b∧tL 6=.int .i64 k∧k≤out.length∧b=(out.take k).any (fun y=>decide (y.guid=x.guid))) ((fun(k:Nat) (b:Bool)=>(out.length-k:Nat)) (0) (false)) ?_ ?_
  ·refine I9 ⟨0,false,rfl,az,?_,?_,by omega,rfl⟩;all_goals try exact zZz F
  rintro _ s3 h' ⟨k,b,rfl,rfl,e5,e6,hk,hb⟩ K3 hK3;simp only[ah,ar,Nat.reduceEqDiff, ↓reduceIte]at e5 e6;have F:=F3 F e5 e6;by_cases c2:k<out.length
  ·obtain⟨y,hy,_⟩:=ac c2;have d2:=J7 c2;have hb2:(b||decide (y.guid=x.guid))=(out.take (k+1)).any (fun y=>decide (y.guid=x.guid)):=by
    rw[M8 (l:=out) (i:=k),hy,List.any_append, ← hb];simp
   cases b with
   |true=>
    have F:=F3 F hy d2;(try refine sq F ?_);refine wk F ?_;refine hK3 _ _ _ (I9 ⟨k+1,true,rfl,rfl,?_,?_,by omega,by rw[← hb2];rfl⟩) (by omega);all_goals try exact zZz F
   |false=>
    have q:(y.guid==x.guid)=decide (y.guid=x.guid):=(by rw[N8];simp);have F:=F4 F hy c2 q;(try refine sq F ?_);refine wk F ?_;refine hK3 _ _ _ (I9 ⟨k+1,decide (y.guid=x.guid),rfl,rfl,?_,?_,by omega,by rw[← hb2];simp⟩) (by omega);all_goals try exact zZz F
  ·have d2:=J3 c2;rw[J6 (by omega)]at hb;unfold onceS at hst;cases b with
   |true=>
    rw[I6 hb.symm]at hst;have F:=F2 F d2;(try refine sq F ?_);refine wk F ?_;refine hK2 _ _ _ (I9 ⟨i+1,v,out,j,rfl,rfl,?_,?_,by omega,hst.symm⟩) (by omega);all_goals try exact zZz F
   |false=>
    rw[I0 (by rw[← hb];simp)]at hst;have F:=F2 F d2;(try refine sq F ?_);refine wk F ?_;refine aq F ?_;(try refine sq F ?_);refine wk F ?_;refine hK2 _ _ _ (I9 ⟨i+1,v+1,out++[x],j,rfl,by simp[En.av],?_,?_,by omega,hst.symm⟩) (by omega);all_goals try exact zZz F
 ·have d1:=J3 c1;rw[J6 (by omega)]at ho;have F:=F4 F d1 mo @ao;try refine sq F ?_
  refine wk F ?_;refine ee hQ F ?_;rw[← ho];exact X1 (oT out (by omega) (by rw[aR _ rfl];show(if v=v then _ else _)=_;rw[I6 rfl])) ⟨rfl,rfl⟩
instance:DecidableEq En:=fun x y=>by
 cases x;cases y;simp only[En.mk.injEq];exact inferInstance
theorem lE(f:Elem→Option En)(l:List Elem):(entsF f l).length≤256:=by unfold entsF;rw[M2];omega
theorem uR{e:Elem}{d:Fd}(h:rssF e=some d):d.es.length≤256:=by
 unfold rssF at h;split at h
 ·cases h;exact lE _ _
 ·cases h
theorem sR{e:Elem}{d:Fd}(h:atomF e=some d):d.es.length≤256:=by
 unfold atomF at h;split at h
 ·cases h;exact lE _ _
 ·cases h
def ReadC(F:FuncId)(e:Elem)(f:Elem→Option Fd):Prop:=∀h,Sat (CT G) F [e.av] h (fun r h'=>r=oFd (f e)∧h'=h)
theorem sS(N:Nat)(x:Fd)(n:Int):Clo N (.tup [x.av,.int .i64 n]):=.tup _ (fun c hc=>by simp only[J9,N9,or_false]at hc;rcases hc with rfl|rfl<;>first|exact x.clo _|exact .int _ _)
theorem vW(Z:Heap)(n:Nat):Frz Z n (.tup [.agg [.str [],.str [],.nil (.slice none 0 0)],.int .i64 120]) (.tup [Fd.z.av,.int .i64 120]):=
 FrzL.tup (.cons (FrzL.agg (.cons (.clo _ (.str _)) (.cons (.clo _ (.str _)) (.cons (.nils 5) .nil))) rfl) (.cons (.clo _ (.int _ _)) .nil))
theorem sT(e:Elem)(hR:ReadC G 67 e rssF)(hB:ReadC G 68 e atomF)(h:Heap):Sat (CT G) 33 [e.av] h (fun r h'=>r=.tup [((ofE e).getD Fd.z).av,.int .i64 (if (ofE e).isSome then 0 else 120)]∧h'=h):=by
 have hE:ofE e=(match rssF e with
  |some d=>some d
  |none=>atomF e).map fun d:Fd=>⟨d.title,d.link,onceF d.es⟩:=rfl
 unfold ReadC at hR hB;have l1:= @uR e;have l2:= @sR e;rw[hE];clear hE;generalize rssF e=o1 at*;generalize atomF e=o2 at*;obtain⟨e1,e2,e3,e4⟩:=e;cases o1 with
 |some d=>
  obtain⟨t,l,es⟩:=d;have hO:=iD G es (by have:=l1 rfl;simp only[]at this;omega);have hR:∀h,Sat (CT G) 67 [(Elem.mk e1 e2 e3 e4).av] h (fun r h'=>r=.tup [.agg [.str t,.str l,.sl 5 (es.map En.av)],.bool true]∧h'=h):=hR;have F:= @ao;refine sb [.cell 2 25,.tmp 3] Tryz.func33 ?_;intro Q hQ;refine wk F ?_;refine kq F (hR _) ?_;refine kq F (hO _) ?_;refine ye hQ F ?_;exact I2 (sS _ (⟨t,l,onceF es⟩:Fd) _) ⟨rfl,rfl⟩
 |none=>
  have hR:∀h,Sat (CT G) 67 [(Elem.mk e1 e2 e3 e4).av] h (fun r h'=>r=.tup [.agg [.str [],.str [],.sl 5 []],.bool false]∧h'=h):=hR;cases o2 with
  |some d=>
   obtain⟨t,l,es⟩:=d;have hO:=iD G es (by have:=l2 rfl;simp only[]at this;omega);have hB:∀h,Sat (CT G) 68 [(Elem.mk e1 e2 e3 e4).av] h (fun r h'=>r=.tup [.agg [.str t,.str l,.sl 5 (es.map En.av)],.bool true]∧h'=h):=hB;have F:= @ao;refine sb [.cell 2 25,.tmp 3] Tryz.func33 ?_;intro Q hQ;refine wk F ?_;refine kq F (hR _) ?_;refine kq F (hB _) ?_;refine kq F (hO _) ?_;refine ye hQ F ?_;exact I2 (sS _ (⟨t,l,onceF es⟩:Fd) _) ⟨rfl,rfl⟩
  |none=>
   have hB:∀h,Sat (CT G) 68 [(Elem.mk e1 e2 e3 e4).av] h (fun r h'=>r=.tup [.agg [.str [],.str [],.sl 5 []],.bool false]∧h'=h):=hB;have F:= @ao;refine sb [.cell 2 25,.tmp 3] Tryz.func33 ?_;intro Q hQ;refine wk F ?_;refine kq F (hR _) ?_;refine kq F (hB _) ?_;refine ye hQ F ?_;exact X1 (vW _ _) ⟨rfl,rfl⟩
def MomC(e:Elem):Prop:=∀h,Sat (CT G) 165 [e.av,.sl 1 ([bPub,bDate].map .str)] h (fun r h'=>r=.tup [.int .i64 ((momL anyF e [bPub,bDate]).getD 0),.bool (momL anyF e [bPub,bDate]).isSome]∧h'=h)
theorem om(e:Elem)(hM:MomC G e)(hs:e.sz≤1048576)(h:Heap):Sat (CT G) 109 [e.av] h (fun r h'=>r=oEn (entR e)∧h'=h):=by
 have fT:=d9 G e bTitle 256 hs (by omega);have fL:=d9 G e bLink 512 hs (by omega);have fG:=d9 G e bGuid 512 hs (by omega);unfold MomC at hM;have hE:entR e=mkE (orF (fieldF e bGuid 512) (fieldF e bLink 512) (fieldF e bTitle 256)) (fieldF e bTitle 256) (fieldF e bLink 512) (momL anyF e [bPub,bDate]):=rfl;rw[hE];generalize fieldF e bTitle 256=t at*;generalize fieldF e bLink 512=l at*;generalize fieldF e bGuid 512=g at*;generalize momL anyF e [bPub,bDate]=m at*;have hO:=xJ G g l t;generalize orF g l t=u at*;clear hE;have hz:ofVal (.agg #[.string ⟨#[]⟩,.string ⟨#[]⟩,.string ⟨#[]⟩,.int .i64 0,.bool false])=.agg [.str [],.str [],.str [],.int .i64 0,.bool false]:=rfl;by_cases hu:u=[]
 ·have q:(u==([]:Bs))=true:=by simp[hu]
  have eo:oEn (mkE u t l m)=.tup [En.z.av,.bool false]:=by unfold mkE;rw[I6 hu];rfl
  rw[eo];have F:=F3 q hz @ao
  skip
  refine sb [.cell 2 61,.tmp 3] Tryz.func109 ?_;intro Q hQ;refine wn F ?_;refine bn 5 5 _ (by rfl) (by decide+kernel) (by kernel_rfl) (by decide+kernel) (by decide+kernel) (by decide+kernel) ?_;simp only[M7,N6];refine sq F ?_;refine wn F ?_;refine au (fT _) ?_;try refine sq F ?_
  refine wn F ?_;refine au (fL _) ?_;try refine sq F ?_
  refine wn F ?_;try refine⟨by decide+kernel,?_⟩
  try refine sq F ?_
  refine⟨?_,?_⟩
  ·refine au (fT _) ?_;(try refine sq F ?_);refine wn F ?_;refine au (fL _) ?_;(try refine sq F ?_);refine wn F ?_;all_goals first|exact zq F|trivial| (refine sq F ?_;trivial)
  skip
  try refine sq F ?_
  refine wk F ?_;refine au (fG _) ?_;try refine sq F ?_
  refine wk F ?_;refine au (hO _) ?_;try refine sq F ?_
  refine wk F ?_;refine ye hQ F ?_;exact I2 (oY _ En.z _) ⟨rfl,rfl⟩
 ·have q:(u==([]:Bs))=false:=by simpa using hu
  have eo:oEn (mkE u t l m)=.tup [(⟨u,t,l,m.getD 0,m.isSome⟩:En).av,.bool true]:=by unfold mkE;rw[I0 hu];rfl
  rw[eo];have F:=F3 q hz @ao
  skip
  refine sb [.cell 2 61,.tmp 3] Tryz.func109 ?_;intro Q hQ;refine wn F ?_;refine bn 5 5 _ (by rfl) (by decide+kernel) (by kernel_rfl) (by decide+kernel) (by decide+kernel) (by decide+kernel) ?_;simp only[M7,N6];refine sq F ?_;refine wn F ?_;refine au (fT _) ?_;try refine sq F ?_
  refine wn F ?_;refine au (fL _) ?_;try refine sq F ?_
  refine wn F ?_;try refine⟨by decide+kernel,?_⟩
  try refine sq F ?_
  refine⟨?_,?_⟩
  ·refine au (fT _) ?_;(try refine sq F ?_);refine wn F ?_;refine au (fL _) ?_;(try refine sq F ?_);refine wn F ?_;all_goals first|exact zq F|trivial| (refine sq F ?_;trivial)
  skip
  try refine sq F ?_
  refine wk F ?_;refine au (fG _) ?_;try refine sq F ?_
  refine wk F ?_;refine au (hO _) ?_;try refine sq F ?_
  refine wk F ?_;refine kq F (hM _) ?_;refine ye hQ F ?_;exact I2 (oY _ (⟨u,t,l,m.getD 0,m.isSome⟩:En) _) ⟨rfl,rfl⟩
theorem qL(e:Elem)(hM:∀k∈kidsF (kidF e bChan).1 bItem,MomC G k)(hs:e.sz≤1048576)(h:Heap):Sat (CT G) 67 [e.av] h (fun r h'=>r=oFd (rssF e)∧h'=h):=by
 have hKd:=mI G e bChan hs;have hSh:=jO G e.name (by have:=Elem.sz_eq e;omega);have hc:(kidF e bChan).1.sz≤1048576:=by
  unfold kidF;split
  ·show 1≤_;omega
  ·rename_i k l hk;exact np hs (by rw[hk];simp)
 have hR:rssF e=if (kidF e bChan).2&&decide (short e.name=bRss)then some ⟨fieldF (kidF e bChan).1 bTitle 256,fieldF (kidF e bChan).1 bLink 512,entsF entR (kidsF (kidF e bChan).1 bItem)⟩else none:=rfl
 rw[hR];clear hR;generalize short e.name=sn at*;generalize kidF e bChan=kk at*;obtain⟨c,is⟩:=kk;simp only[]at hc;have fT:=d9 G c bTitle 256 hc (by omega);have fL:=d9 G c bLink 512 hc (by omega);have hKs:=lu G c bItem hc;have hsz:∀k∈kidsF c bItem,k.sz≤1048576:=fun k hk=>np hc hk
 have hln:=sP c bItem hc;generalize fieldF c bTitle 256=t at*;generalize fieldF c bLink 512=l at*;generalize kidsF c bItem=ks at*;have mk:(ks.map Elem.av).length=ks.length:=I4 ..;obtain⟨e1,e2,e3,e4⟩:=e;cases is with
 |false=>
  have F:= @ao;refine sb [.cell 2 25,.tmp 3] Tryz.func67 ?_;intro Q hQ;refine wk F ?_;refine kq F (hKd _) ?_;refine ye hQ F ?_;exact X1 (oZ _ _) ⟨rfl,rfl⟩
 |true=>
  by_cases hn:sn=bRss
  rotate_left
  ·have q:(sn==bRss)=false:=(by simpa using hn);unfold bRss at q;have d:(true&&decide (sn=bRss))=false:=(by simp[hn]);simp only[d];have F:=F2 q @ao;refine sb [.cell 2 25,.tmp 3] Tryz.func67 ?_;intro Q hQ;refine wk F ?_;refine kq F (hKd _) ?_;refine kq F (hSh _) ?_;refine ye hQ F ?_;exact X1 (oZ _ _) ⟨rfl,rfl⟩
  have q:(sn==bRss)=true:=by simpa using hn
  unfold bRss at q;have d:(true&&decide (sn=bRss))=true:=by simp[hn]
  simp only[d];clear d;have hz:ofVal (.agg #[.string ⟨#[]⟩,.string ⟨#[]⟩,.slice none 0 0])=.agg [.str [],.str [],.nil (.slice none 0 0)]:=rfl;have F:=F4 q hz mk @ao
  skip
  refine sb [.cell 2 25,.tmp 3] Tryz.func67 ?_;intro Q hQ;refine wn F ?_;refine kn F (hKd _) ?_;refine kn F (hSh _) ?_;refine bn 5 5 _ (by rfl) (by decide+kernel) (by kernel_rfl) (by decide+kernel) (by decide+kernel) (by decide+kernel) ?_;simp only[M7,N6];refine sq F ?_;refine wn F ?_;refine au (fT _) ?_;try refine sq F ?_
  refine wn F ?_;refine au (fL _) ?_;try refine sq F ?_
  refine wn F ?_;try refine⟨by decide+kernel,?_⟩
  try refine sq F ?_
  refine⟨?_,?_⟩
  ·refine au (fT _) ?_;(try refine sq F ?_);refine wn F ?_;refine au (fL _) ?_;(try refine sq F ?_);refine wn F ?_;all_goals first|exact zq F|trivial| (refine sq F ?_;trivial)
  skip
  try refine sq F ?_
  refine wk F ?_;refine kq F (hKs _) ?_;refine lm (fun nL tL hL=>∃(k v:Nat) (es:List En) (j:Heap),ks.length-k=nL∧h++ .row 76 4 0 [Elem.av ⟨e1,e2,e3,e4⟩]:: .row 25 3 0 [.agg [.str [],.str [],.nil (.slice none 0 0)]]:: .row 76 4 0 [c.av]:: .row 25 3 0 [.agg [.str t,.str l,.hs (h.length+4) v 0 es.length true]]:: .row 61 5 v (es.map En.av)::j=hL∧tL 33=.int .i64 k∧k≤ks.length∧es=entsF entR (ks.take k)) ((fun(k v:Nat) (es:List En) (j:Heap)=>(ks.length-k:Nat)) (0) (0) ([]) ([])) ?_ ?_
  ·refine⟨_,_,Weak.virtCell (p:=h.length+3) (v:=0) 61 5 (by omega) (by simp(disch:=first|omega| (simp only[go_sem, ↓reduceIte,seval];first|done|omega)|fail) only[go_sem, ↓reduceIte,seval,F];rfl) 2 rfl,⟨0,0,[],[],rfl,(by simp),?_,by omega,rfl⟩⟩;all_goals try exact zZz F
  rintro _ s2 h' ⟨k,v,es,j,rfl,rfl,e33,hk,ho⟩ K2 hK2;simp only[ah,ar,Nat.reduceEqDiff, ↓reduceIte]at e33;have F:=F2 F e33;have hel:es.length≤256:=by rw[ho];unfold entsF;rw[M2];omega
  have me:(es.map En.av).length=es.length:=I4 ..;by_cases c1:k<ks.length
  ·obtain⟨x,hx,hxm⟩:=ac c1;have d1:=J7 c1;have hE:=om G x (hM x hxm) (hsz x hxm);have hst:=uQ entR hx;rw[← ho]at hst;cases hv:entR x with
   |none=>
    rw[hv]at hE hst;have hE:∀h,Sat (CT G) 109 [x.av] h (fun r h'=>r=.tup [En.z.av,.bool false]∧h'=h):=hE;have F:=F4 F hx d1 me;(try refine sq F ?_);refine wk F ?_;have hst:entsF entR (ks.take (k+1))=es:=hst;refine kq F (hE _) ?_;refine hK2 _ _ _ (I9 ⟨k+1,v,es,j++[.row 76 4 0 [x.av],.row 61 5 0 [En.z.av]],rfl,by simp[En.av,En.z],?_,by omega,hst.symm⟩) (by omega);all_goals try exact zZz F
   |some y=>
    rw[hv]at hE hst;have hE:∀h,Sat (CT G) 109 [x.av] h (fun r h'=>r=.tup [y.av,.bool true]∧h'=h):=hE;have hst:entsF entR (ks.take (k+1))=if es.length<256 then es++[y]else es:=hst
    by_cases c2:es.length<256
    ·have d2:decide ((es.length:Int)<256)=true:=J7 (by omega);rw[I6 c2]at hst;have F:=F5 F hx d1 d2 me;(try refine sq F ?_);refine wk F ?_;refine kq F (hE _) ?_;refine aq F ?_;(try refine sq F ?_);refine wk F ?_;refine hK2 _ _ _ (I9 ⟨k+1,v+1,es++[y],j++[.row 76 4 0 [x.av],.row 61 5 0 [y.av]],rfl,by simp[En.av],?_,by omega,hst.symm⟩) (by omega);all_goals try exact zZz F
    ·have d2:decide ((es.length:Int)<256)=false:=J3 (by omega);rw[I0 c2]at hst;have F:=F5 F hx d1 d2 me;(try refine sq F ?_);refine wk F ?_;refine kq F (hE _) ?_;refine hK2 _ _ _ (I9 ⟨k+1,v,es,j++[.row 76 4 0 [x.av],.row 61 5 0 [y.av]],rfl,by simp[En.av],?_,by omega,hst.symm⟩) (by omega);all_goals try exact zZz F
  ·have d1:=J3 c1;rw[J6 (by omega)]at ho;have F:=F3 F d1 me;(try refine sq F ?_);refine wk F ?_;refine ye hQ F ?_;rw[← ho];exact X1 (xK t l es true (by omega) (by rw[bm _ rfl];show(if v=v then _ else _)=_;rw[I6 rfl])) ⟨rfl,rfl⟩
end
section
attribute [local irreducible] WP WPl WPix Sat
theorem uS(h:Heap)(a b c d:Int)(s t u:Bs):abin Tryz.prog h .eql 57 (.agg [.int .i64 a,.int .i64 b,.int .i64 c,.int .i64 d,.str s,.str t,.str u]) (.agg [.int .i64 a,.int .i64 b,.int .i64 c,.int .i64 d,.str s,.str t,.str u])=some (.bool true):=by
 simp[abin,go_sem,aeqL,aeq1]
theorem cH(h:Heap)(a b:Int)(s t:Bs):abin Tryz.prog h .neq 69 (.agg [.int .i64 a,.int .i64 b,.str s,.str t]) (.agg [.int .i64 a,.int .i64 b,.str s,.str t])=some (.bool false):=by
 simp[abin,go_sem,aeqL,aeq1]
theorem vX{h j:Heap}{n:Nat}{s:PS}(hm:n+9≤(h++j).length)(hh:h.length≤n):∃j',so (h++j) n s=h++j':=by
 refine⟨(so (h++j) n s).drop h.length,?_⟩;have hl:=b8 (s:=s) hm
 apply Q5
 intro p;by_cases hp:p<h.length
 ·rw[J0 hp];unfold so;rw[ir (by show n+9≤_;omega) (.inl (by omega)),J0 hp]
 ·rw[J4 (by omega),N4];congr 1
  omega
theorem iS{h Y:Heap}{n:Nat}{s:PS}{R:AVal→Heap→Prop}{b:Bool}(hm:n+9≤Y.length)(hp:∃j,Y=h++j)(hh:h.length≤n)(hR:R (.bool b) h):Fin h (so Y n s) R (.bool b):=by
 obtain⟨j,rfl⟩:=hp;obtain⟨j',he⟩:=vX (s:=s) hm hh;rw[he];exact Fin.plainE (j:=j') rfl (.bool _) hR
def PS.stp1(s:PS)(e:Ev):PS:=if s.fits true (s.dpt e.b) e then s.aft e else s
theorem iG{s:PS}{e:Ev}(h:L0.ck e=true):s.step L0 e=s.stp1 e:=by unfold PS.step PS.stp1 PS.ok;rw[h]
theorem iH{e:Ev}(h1:L0.right e=true)(h2:usedE e=e):L0.ck e=true:=by unfold Leaf.ck;rw[h1,h2];simp
def l23:List Ev:=[⟨3,3,0,0,[117],[],[]⟩,⟨7,4,3,0,[103],[],[]⟩,⟨13,0,0,9,[],[],[]⟩]
def b23:List Ev:=[⟨5,3,0,0,[],[84],[]⟩,⟨7,5,3,9,[104],[120],[]⟩]
def s23:PS:=l23.foldl PS.stp1 PS.z
def s24:PS:=b23.foldl PS.stp1 s23
def d23:Fd:=⟨[84],[],[⟨[103],[],[],0,false⟩,⟨[104],[120],[],0,false⟩]⟩
theorem jo:l23.foldl (PS.step L0) PS.z=s23:=by
 show(((PS.z.step L0 _).step L0 _).step L0 _)=_;rw[iG (iH (by kernel_rfl) rfl),iG (iH (by kernel_rfl) rfl),iG (iH (by kernel_rfl) rfl)];rfl
theorem jp:b23.foldl (PS.step L0) s23=s24:=by
 show((s23.step L0 _).step L0 _)=_;rw[iG (iH (by kernel_rfl) rfl),iG (iH (by kernel_rfl) rfl)];rfl
theorem kV:s23.Inv:=by rw[← jo];exact PS.Inv.z.fold l23
theorem p4:s23.Tops:=by rw[← jo];exact PS.Tops.z0.fold PS.Inv.z l23
theorem gy:s24.Inv:=by rw[← jp];exact kV.fold b23
theorem gz:s24.Tops:=by rw[← jp];exact p4.fold kV b23
theorem Ay:plF s23 3 d23 0=(b23,0):=by kernel_rfl
theorem Az:plF s24 3 d23 0=([],0):=by kernel_rfl
theorem AA:plF s24 4 d23 0=([],4):=by kernel_rfl
theorem AB:plF s24 3 Fd.z 120=([],120):=by kernel_rfl
theorem AC:plF s24 3 ⟨[32],[],[]⟩ (if fdOk ⟨[32],[],[]⟩then 0 else 120)=([],120):=by kernel_rfl
theorem Ej:s24.room=1022:=by kernel_rfl
def t23:Bs:=[60,114,115,115,62,60,99,104,97,110,110,101,108,62,60,116,105,116,108,101,62,84,60,47,116,105,116,108,101,62,60,105,116,101,109,62,60,103,117,105,100,62,103,60,47,103,117,105,100,62,60,47,105,116,101,109,62,60,105,116,101,109,62,60,103,117,105,100,62,104,60,47,103,117,105,100,62,60,116,105,116,108,101,62,120,60,47,116,105,116,108,101,62,60,47,105,116,101,109,62,60,47,99,104,97,110,110,101,108,62,60,47,114,115,115,62]
def e23:Elem:=⟨[114,115,115],[],[],[⟨[99,104,97,110,110,101,108],[],[],[⟨[116,105,116,108,101],[],[84],[]⟩,⟨[105,116,101,109],[],[],[⟨[103,117,105,100],[],[103],[]⟩]⟩,⟨[105,116,101,109],[],[],[⟨[103,117,105,100],[],[104],[]⟩,⟨[116,105,116,108,101],[],[120],[]⟩]⟩]⟩]⟩
def eG23:AVal:=.agg [.str [103],.str [],.str [],.int .i64 0,.bool false]
def eH23:AVal:=.agg [.str [104],.str [120],.str [],.int .i64 0,.bool false]
theorem Ek:ofE e23=some d23:=by kernel_rfl
section
variable (G:Nat→Option (List AVal))
theorem xL:isW (.tup [e23.av,.int .i64 0]) (callX (CT G) orcX 1000 100 36 [.str t23] [])=true:=by kernel_rfl
def m23:List Elem:=[⟨[105,116,101,109],[],[],[⟨[103,117,105,100],[],[103],[]⟩]⟩,⟨[105,116,101,109],[],[],[⟨[103,117,105,100],[],[104],[]⟩,⟨[116,105,116,108,101],[],[120],[]⟩]⟩]
theorem vY:∀k∈m23,(momL anyF k [bPub,bDate])=none:=by
 intro k hk;simp only[m23,J9,N9,or_false]at hk;rcases hk with rfl|rfl<;>kernel_rfl
theorem xM:(m23.all fun k=>isV (.tup [.int .i64 0,.bool false]) (callX (CT G) orcX 1000 100 165 [k.av,.sl 1 ([bPub,bDate].map .str)] []))=true:=by kernel_rfl
theorem xN:isW (oFd none) (callX (CT G) orcX 1000 100 68 [e23.av] [])=true:=by kernel_rfl
theorem AD(hG:GOk G)(hc:GClo (CT G))(h:Heap):Sat (CT G) 33 [e23.av] h (fun r h'=>r=.tup [d23.av,.int .i64 0]∧h'=h):=by
 have hk:kidsF (kidF e23 bChan).1 bItem=m23:=by kernel_rfl
 have hM:∀k∈kidsF (kidF e23 bChan).1 bItem,MomC G k:=by
  rw[hk];intro k hm h;rw[vY k hm];exact Sat.closedD hc (iQ hG) 1000 100 (f:=165) (by
   simp only[m23,J9,N9,or_false]at hm;rcases hm with rfl|rfl<;>rfl) rfl (M3.1 (xM G) k hm) h
 have hR:ReadC G 67 e23 rssF:=fun h=>qL G e23 hM (U3 (by kernel_rfl)) h
 have ha:atomF e23=none:=by kernel_rfl
 have hB:ReadC G 68 e23 atomF:=fun h=>by
  rw[ha];exact Sat.closedW hc (iQ hG) 1000 100 (f:=68) (args:=[e23.av]) rfl (xN G) h
 have:=sT G e23 hR hB h;rw[Ek]at this;exact this
theorem uT(hG:GOk G)(hc:GClo (CT G))(h:Heap):Sat (CT G) 9 [.str t23] h (fun r h'=>r=.tup [d23.av,.int .i64 0]∧h'=h):=by
 have hT:=Sat.closedW hc (iQ hG) 1000 100 (f:=36) (args:=[.str t23]) rfl (xL G);have hO:∀h,Sat (CT G) 33 [e23.av] h (fun r h'=>r=.tup [.agg [.str [84],.str [],.sl 5 [eG23,eH23]],.int .i64 0]∧h'=h):=fun h=>AD G hG hc h
 rw[Elem.av_eq]at hT hO;have F:= @ao;refine sb [.cell 2 25,.tmp 3] Tryz.func9 ?_;intro Q hQ;refine wk F ?_;refine kq F (hT _) ?_;refine kq F (hO _) ?_;refine ye hQ F ?_;exact I2 (cr _ _ rfl) ⟨rfl,rfl⟩
theorem xO:isW (.tup [Fd.z.av,.int .i64 120]) (callX (CT G) orcX 1000 100 9 [.str [60,97,47,62]] [])=true:=by kernel_rfl
theorem oo(hG:GOk G)(hc:GClo (CT G))(h:Heap):Sat (CT G) 14 [] h (fun r h'=>r=.bool true∧h'=h):=by
 have hF:=lz G l23 (by decide) h;rw[jo]at hF;have hz9:(PS.z.bl h.length).length=9:=rfl;obtain⟨H0,hH0⟩:∃H0,H0=h++PS.z.bl h.length:=⟨_,rfl⟩;rw[← hH0]at hF;have hl0:H0.length=h.length+9:=by rw[hH0];simp[hz9]
 have hn0:∀j:Heap,h.length+9≤(H0++j).length:=fun j=>by simp;omega
 have hP1:=uT G hG hc;have hP2:=fun h=>Sat.closedW hc (iQ hG) 1000 100 (f:=9) (args:=[.str [60,97,47,62]]) (v:=.tup [Fd.z.av,.int .i64 120]) rfl (xO G) h
 have hd:d23.es.length≤1048576:=by decide
 have dA:=oX G (H:=H0) (n:=h.length) kV p4 (by omega) 3 t23 d23 0 hd hP1;have dB:=oX G (H:=H0) (n:=h.length) gy gz (by omega) 3 t23 d23 0 hd hP1;have dC:=iF G (H:=H0) (n:=h.length) gy gz (by omega) 4 t23 d23 0 hd hP1;have dD:=iF G (H:=H0) (n:=h.length) gy gz (by omega) 3 [60,97,47,62] Fd.z 120 (by decide) hP2;have dE:=oW G (H:=H0) (n:=h.length) gy gz (by omega) 3 ⟨[32],[],[]⟩ ⟨by decide,by decide,by decide,fun x hx=>by cases hx⟩;have dF:=lD G (H:=H0) (n:=h.length) s24 (by omega) gy gz;rw[Ay]at dA;rw[Az]at dB;rw[AA]at dC;rw[AB]at dD;rw[AC]at dE;rw[Ej]at dF;simp only[jp,List.foldl_nil]at dA dB;have dA:Sat (CT G) 17 [.hp (h.length+8) 0 0 0,.int .i64 3,.str t23] (so H0 h.length s23) (fun r h'=>r=.tup [.sl 7 [.agg [.int .i64 5,.int .i64 3,.int .i64 0,.int .i64 0,.str [],.str [84],.str []],.agg [.int .i64 7,.int .i64 5,.int .i64 3,.int .i64 9,.str [104],.str [120],.str []]],.int .i64 0]∧h'=so H0 h.length s24):=dA;have dB:Sat (CT G) 17 [.hp (h.length+8) 0 0 0,.int .i64 3,.str t23] (so H0 h.length s24) (fun r h'=>r=.tup [.sl 7 [],.int .i64 0]∧h'=so H0 h.length s24):=dB;have dC:Sat (CT G) 16 [.hp (h.length+8) 0 0 0,.int .i64 4,.str t23] (so H0 h.length s24) (fun r h'=>r=.tup [.sl 7 [],.int .i64 4]∧h'=so H0 h.length s24):=dC;have dD:Sat (CT G) 16 [.hp (h.length+8) 0 0 0,.int .i64 3,.str [60,97,47,62]] (so H0 h.length s24) (fun r h'=>r=.tup [.sl 7 [],.int .i64 120]∧h'=so H0 h.length s24):=dD;have dE:Sat (CT G) 15 [.hp (h.length+8) 0 0 0,.int .i64 3,.agg [.str [32],.str [],.sl 5 []]] (so H0 h.length s24) (fun r h'=>r=.tup [.sl 7 [],.int .i64 120]∧h'=so H0 h.length s24):=dE;have dE:=Sat.wk (xs:=[.hp (h.length+8) 0 0 0,.int .i64 3,.agg [.str [32],.str [],.nil (.slice none 0 0)]]) (ys:=[.hp (h.length+8) 0 0 0,.int .i64 3,.agg [.str [32],.str [],.sl 5 []]]) rfl (fun i x y hx hy=>by
  match i with
  |0=>cases hx;cases hy;exact Wk.refl _
  |1=>cases hx;cases hy;exact Wk.refl _
  |2=>cases hx;cases hy;exact rY 5 _ _ rfl
  |i+3=>cases hx) dE
 have ap:∀a b:Bs,List.append a b=a++b:=fun _ _=>rfl
 unfold t23 at dA dB dC;have hn00:=hn0 [];rw[M6]at hn00;have F:=F7 @uS hn00 hn0 ap (F3 (@Q3 Blk) (@Q3 AVal) (@Q3 UInt8)) (F3 (@M5 Blk) (@M5 AVal) (@M5 UInt8)) @ao;refine sb [.tmp 0] Tryz.func14 ?_;intro Q hQ;refine wk F ?_;refine kq F (hF) ?_;refine kq F (dA) ?_;refine kq F (dB) ?_;refine kq F (dC) ?_;refine kq F (dD) ?_;refine kq F (dE) ?_;refine kq F (dF) ?_;refine ee hQ F ?_;exact iS hn00 ⟨_,hH0⟩ (J1 _) ⟨rfl,rfl⟩
end
def EnU(x:En):Prop:=x.guid.length≤2000∧x.title.length≤2000∧x.link.length≤2000
def FdU(d:Fd):Prop:=d.title.length≤2000∧d.link.length≤2000∧d.es.length≤300∧∀x∈d.es,EnU x
theorem FdU.S{d:Fd}(h:FdU d):FdS d:=by
 obtain⟨h1,h2,h3,h4⟩:=h;refine⟨by omega,by omega,by omega,fun x hx=>?_⟩;obtain⟨k1,k2,k3⟩:=h4 x hx;exact⟨by omega,by omega,by omega⟩
variable (G:Nat→Option (List AVal))
theorem ot(d:Fd)(h:Heap):Sat (CT G) 13 [d.av] h (fun r h'=>(∃b,r=.bool b∧(b=false→FdU d))∧h'=h):=by
 obtain⟨t,l,es⟩:=d;have me:(es.map En.av).length=es.length:=I4 ..;have f1:(Fd.mk t l es).av=.agg [.str t,.str l,.sl 5 (es.map En.av)]:=rfl;rw[f1];have yes:∀j,Fin h (h++j) (fun r h'=>(∃b,r=.bool b∧(b=false→FdU ⟨t,l,es⟩))∧h'=h) (.bool true):=fun j=>I2 (.bool _) ⟨⟨true,rfl,fun k=>by cases k⟩,rfl⟩
 by_cases c0:es.length≤300
 rotate_left
 ·have q0:decide ((es.length:Int)>300)=true:=J7 (by omega);have F:=F3 me q0 @ao;refine sb [.tmp 2] Tryz.func13 ?_;intro Q hQ;refine wk F ?_;refine ee hQ F ?_;exact yes _
 have q0:decide ((es.length:Int)>300)=false:=J3 (by omega);by_cases ct:t.length≤2000
 rotate_left
 ·have q1:decide ((t.length:Int)>2000)=true:=J7 (by omega);have F:=F4 me q0 q1 @ao;refine sb [.tmp 2] Tryz.func13 ?_;intro Q hQ;refine wk F ?_;refine ee hQ F ?_;exact yes _
 have q1:decide ((t.length:Int)>2000)=false:=J3 (by omega);by_cases cl:l.length≤2000
 rotate_left
 ·have q2:decide ((l.length:Int)>2000)=true:=J7 (by omega);have F:=F5 me q0 q1 q2 @ao;refine sb [.tmp 2] Tryz.func13 ?_;intro Q hQ;refine wk F ?_;refine ee hQ F ?_;exact yes _
 have q2:decide ((l.length:Int)>2000)=false:=J3 (by omega);have F:=F5 me q0 q1 q2 @ao;refine sb [.tmp 2] Tryz.func13 ?_;intro Q hQ;refine wk F ?_;refine lm (fun nL tL hL=>∃(i:Nat) (m:Int) (j:Heap),es.length-i=nL∧h++(.row 25 3 0 [.agg [.str t,.str l,.sl 5 (es.map En.av)]]::j)=hL∧tL 3=.int .i64 m∧tL 4=.int .i64 i∧i≤es.length∧(0≤m∧m≤6000*i)∧(∀x∈es.take i,EnU x)) ((fun(i:Nat) (m:Int) (j:Heap)=>(es.length-i:Nat)) (0) (0) ([])) ?_ ?_
 ·refine I9 ⟨0,0,[],rfl,az,?_,?_,by omega,by omega,by simp⟩;all_goals try exact zZz F
 rintro _ s2 h' ⟨i,m,j,rfl,rfl,e3,e4,hi,hm,hx⟩ K2 hK2;simp only[ah,ar,Nat.reduceEqDiff, ↓reduceIte]at e3 e4;have F:=F3 F e3 e4;by_cases c1:i<es.length
 ·obtain⟨x,hxi,hxm⟩:=ac c1;have d1:=J7 c1;obtain⟨g,tt,ll,n,b⟩:=x;by_cases u1:g.length≤2000
  rotate_left
  ·have r1:decide ((g.length:Int)>2000)=true:=J7 (by omega);have F:=F4 F d1 hxi r1;(try refine sq F ?_);refine wk F ?_;refine ee hQ F ?_;exact yes _
  have r1:decide ((g.length:Int)>2000)=false:=J3 (by omega);by_cases u2:tt.length≤2000
  rotate_left
  ·have r2:decide ((tt.length:Int)>2000)=true:=J7 (by omega);have F:=F5 F d1 hxi r1 r2;(try refine sq F ?_);refine wk F ?_;refine ee hQ F ?_;exact yes _
  have r2:decide ((tt.length:Int)>2000)=false:=J3 (by omega);by_cases u3:ll.length≤2000
  rotate_left
  ·have r3:decide ((ll.length:Int)>2000)=true:=J7 (by omega);have F:=F6 F d1 hxi r1 r2 r3;(try refine sq F ?_);refine wk F ?_;refine ee hQ F ?_;exact yes _
  have r3:decide ((ll.length:Int)>2000)=false:=J3 (by omega);have hx':∀y∈es.take (i+1),EnU y:=fun y hy=>by
   rw[M8,hxi]at hy;rcases P6.1 hy with hy|hy
   ·exact hx y hy
   ·have:y=⟨g,tt,ll,n,b⟩:=by simpa using hy
    rw[this];exact⟨u1,u2,u3⟩
  have F:=F6 F d1 hxi r1 r2 r3;try refine sq F ?_
  refine wk F ?_;refine hK2 _ _ _ (I9 ⟨i+1,m+(g.length:Int)+(tt.length:Int)+(ll.length:Int),_,rfl,az,?_,?_,by omega,by omega,hx'⟩) (by omega);all_goals try exact zZz F
 ·have d1:=J3 c1;rw[J6 (by omega)]at hx;have fin:∀(b:Bool) (j:Heap),Fin h (h++j) (fun r h'=>(∃b,r=.bool b∧(b=false→FdU ⟨t,l,es⟩))∧h'=h) (.bool b):=fun b j=>I2 (.bool _) ⟨⟨b,rfl,fun _=>⟨ct,cl,c0,hx⟩⟩,rfl⟩
  generalize hb:decide (m>20000)=bb at*;have F:=F3 F d1 hb;try refine sq F ?_
  refine wk F ?_;refine ee hQ F ?_;exact fin _ _
end
section
attribute [local irreducible] WP WPl WPix Sat
theorem vZ{es:List Ev}(h:lgF es=false):es.length≤150:=by
 unfold lgF at h;rw[Bool.or_eq_false_iff]at h;have:=h.1;simp only[decide_eq_false_iff_not]at this;omega
theorem wa{H j:Heap}{n p:Nat}{s:PS}(hn:n+9≤(H++j).length)(hp:p<n)(hl:n≤H.length)(u:Nat):getRow (so (H++j) n s) p u=getRow H p u:=by
 unfold getRow so;rw[ir (by show n+9≤_;omega) (.inl hp),J0 (by omega)]
variable (G:Nat→Option (List AVal))
end
section
attribute [local irreducible] WP WPl WPix Sat
variable (G:Nat→Option (List AVal))
theorem qM(l:List Bs)(hl:l.length≤1048576)(h:Heap):Sat (CT G) 62 [.sl 1 (l.map .str),.sl 1 (l.map .str)] h (fun r h'=>r=.bool true∧h'=h):=by
 have hml:(l.map AVal.str).length=l.length:=I4 ..;have q1:((l.length:Int) != (l.length:Int))=false:=by simp
 have F:=F2 hml q1;refine sb [.tmp 4] Tryz.func62 ?_;intro Q hQ;refine wk F ?_;refine lm (fun nL tL hL=>∃(k:Nat),l.length-k=nL∧h=hL∧tL 5=.int .i64 k∧k≤l.length) ((fun(k:Nat)=>(l.length-k:Nat)) (0)) ?_ ?_
 ·refine I9 ⟨0,rfl,az,?_,by omega⟩;all_goals try exact zZz F
 rintro _ s2 h' ⟨k,rfl,rfl,e5,hk⟩ K2 hK2;simp only[ah,ar,Nat.reduceEqDiff, ↓reduceIte]at e5;have F:=F2 F e5;by_cases c2:k<l.length
 ·have d2:=J7 c2;obtain⟨y,hy,hym⟩:=ac c2;have hm:(l.map AVal.str)[k]? =some (.str y):=by rw[K5,hy];rfl
  have qy:(y==y)=true:=by simp
  have F:=F7 F hm hy d2 c2 qy @P1;try refine sq F ?_
  refine wk F ?_;refine hK2 _ _ _ (I9 ⟨k+1,rfl,rfl,?_,by omega⟩) (by omega);all_goals try exact zZz F
 ·have d2:=J3 c2;have F:=F2 F d2;try refine sq F ?_
  refine wk F ?_;refine ee hQ F ?_;exact M9 (.bool _) ⟨rfl,rfl⟩
theorem lO(t:It)(ht:t.tags.length≤1048576)(h:Heap):Sat (CT G) 31 [t.av,t.av] h (fun r h'=>r=.bool true∧h'=h):=by
 have hX:=qM G t.tags ht;obtain⟨a,b,c,g,u,v,p,q,ts⟩:=t;have f1:(It.mk a b c g u v p q ts).av=.agg [.int .i64 a,.int .i64 b,.int .i64 c,.str g,.str u,.str v,.bool p,.bool q,.sl 1 (ts.map .str)]:=rfl;rw[f1];simp only[]at hX;have qi:∀x:Int,(x==x)=true:=fun x=>by simp
 have qs:∀x:Bs,(x==x)=true:=fun x=>by simp
 have qb:∀x:Bool,(x==x)=true:=fun x=>by simp
 have F:=F4 qi qs qb @ao;refine sb [.tmp 4] Tryz.func31 ?_;intro Q hQ;refine wk F ?_;refine kq F (hX _) ?_;refine ee hQ F ?_;exact I2 (.bool _) ⟨rfl,rfl⟩
theorem da(s:Bs)(m:Nat)(hs:s.length≤100000)(h:Heap):Sat (CT G) 47 [.str s,.int .i64 m] h (fun r h'=>r=.bool (textO s m)∧h'=h):=by
 have hR:=fO G s (by omega);have hC:=fP G s (by omega);by_cases c1:s.length≤m
 ·have d1:=J7 c1;cases c2:rightS s with
  |true=>
   rw[c2]at hR;by_cases c3:cleanF s=s
   ·have q:(cleanF s==s)=true:=(by simpa using c3);have e:textO s m=true:=(by unfold textO;rw[c2,J7 c1,J7 c3];rfl);rw[e];have F:=F2 d1 q;refine sb [.tmp 4] Tryz.func47 ?_;intro Q hQ;refine wk F ?_;refine kq F (hR _) ?_;refine kq F (hC _) ?_;refine ee hQ F ?_;exact M9 (.bool _) ⟨rfl,rfl⟩
   ·have q:(cleanF s==s)=false:=(by simpa using c3);have e:textO s m=false:=(by unfold textO;rw[J3 c3,Bool.and_false]);rw[e];have F:=F2 d1 q;refine sb [.tmp 4] Tryz.func47 ?_;intro Q hQ;refine wk F ?_;refine kq F (hR _) ?_;refine kq F (hC _) ?_;refine ee hQ F ?_;exact M9 (.bool _) ⟨rfl,rfl⟩
  |false=>
   rw[c2]at hR;have e:textO s m=false:=(by unfold textO;rw[c2,Bool.and_false,Bool.false_and]);rw[e];have F:=d1;refine sb [.tmp 4] Tryz.func47 ?_;intro Q hQ;refine wk F ?_;refine kq F (hR _) ?_;refine ee hQ F ?_;exact M9 (.bool _) ⟨rfl,rfl⟩
 ·have d1:=J3 c1;have e:textO s m=false:=by unfold textO;rw[J3 c1];rfl
  rw[e];have F:=d1;refine sb [.tmp 4] Tryz.func47 ?_;intro Q hQ;refine wk F ?_;refine ee hQ F ?_;exact M9 (.bool _) ⟨rfl,rfl⟩
theorem ox(hc:GClo (CT G))(x:En)(hx:EnU x)(h:Heap):Sat (CT G) 48 [x.av] h (fun r h'=>r=.bool (enOk x)∧h'=h):=by
 obtain⟨h1,h2,h3⟩:=hx;have T1:=da G x.guid 512 (by omega);have T2:=da G x.title 256 (by omega);have T3:=da G x.link 512 (by omega);have hM:=nf G hc x.date;unfold enOk dateOk;obtain⟨g,t,l,n,b⟩:=x;simp only[]at*;have eM:(decide (-62135596800≤n)&&decide (n≤253402300799))=momF n:=rfl;rw[eM];generalize momF n=dM at*;generalize textO g 512=d1 at*;generalize textO t 256=d2 at*;generalize textO l 512=d3 at*;simp only[En.av_eq]at*;by_cases c0:g=[]
 ·have q:(g==([]:Bs))=true:=by simp[c0]
  have e:decide (g≠ [])=false:=by simp[c0]
  rw[e];have F:=F4 q @P1 @O5 @ao;refine sb [.tmp 2] Tryz.func48 ?_;intro Q hQ;refine wk F ?_;refine ee hQ F ?_;exact I2 (.bool _) ⟨rfl,rfl⟩
 have q:(g==([]:Bs))=false:=by simpa using c0
 have e:decide (g≠ [])=true:=by simp[c0]
 rw[e];have q0:((n:Int)==0)=decide (n=0):=by rw[N8];simp
 generalize decide (n=0)=dz at*;cases d1 with
 |false=>
  have F:=F4 q @P1 @O5 @ao;refine sb [.tmp 2] Tryz.func48 ?_;intro Q hQ;refine wk F ?_;refine kq F (T1 _) ?_;refine ee hQ F ?_;exact I2 (.bool _) ⟨rfl,rfl⟩
 |true=>
  cases d2 with
  |false=>
   have F:=F4 q @P1 @O5 @ao;refine sb [.tmp 2] Tryz.func48 ?_;intro Q hQ;refine wk F ?_;refine kq F (T1 _) ?_;refine kq F (T2 _) ?_;refine ee hQ F ?_;exact I2 (.bool _) ⟨rfl,rfl⟩
  |true=>
   cases d3 with
   |false=>
    have F:=F4 q @P1 @O5 @ao;refine sb [.tmp 2] Tryz.func48 ?_;intro Q hQ;refine wk F ?_;refine kq F (T1 _) ?_;refine kq F (T2 _) ?_;refine kq F (T3 _) ?_;refine ee hQ F ?_;exact I2 (.bool _) ⟨rfl,rfl⟩
   |true=>
    cases b with
    |true=>
     cases dM with
     |true=>
      have F:=F4 q @P1 @O5 @ao;refine sb [.tmp 2] Tryz.func48 ?_;intro Q hQ;refine wk F ?_;refine kq F (T1 _) ?_;refine kq F (T2 _) ?_;refine kq F (T3 _) ?_;refine kq F (hM _) ?_;refine ee hQ F ?_;exact I2 (.bool _) ⟨rfl,rfl⟩
     |false=>
      have F:=F4 q @P1 @O5 @ao;refine sb [.tmp 2] Tryz.func48 ?_;intro Q hQ;refine wk F ?_;refine kq F (T1 _) ?_;refine kq F (T2 _) ?_;refine kq F (T3 _) ?_;refine kq F (hM _) ?_;refine ee hQ F ?_;exact I2 (.bool _) ⟨rfl,rfl⟩
    |false=>
     have F:=F5 q q0 @P1 @O5 @ao;refine sb [.tmp 2] Tryz.func48 ?_;intro Q hQ;refine wk F ?_;refine kq F (T1 _) ?_;refine kq F (T2 _) ?_;refine kq F (T3 _) ?_;refine ee hQ F ?_;exact I2 (.bool _) ⟨rfl,rfl⟩
theorem oy(hc:GClo (CT G))(d:Fd)(hd:FdU d)(h:Heap):Sat (CT G) 23 [d.av] h (fun r h'=>r=.bool (fdOk d)∧h'=h):=by
 obtain⟨t,l,es⟩:=d;obtain⟨ht,hl,he,hx⟩:=hd;simp only[]at ht hl he hx;have T1:=da G t 256 (by omega);have T2:=da G l 512 (by omega);have O1:=sQ G es (by omega);have me:(es.map En.av).length=es.length:=I4 ..;have mo:((onceF es).map En.av).length=(onceF es).length:=I4 ..;have f1:(Fd.mk t l es).av=.agg [.str t,.str l,.sl 5 (es.map En.av)]:=rfl;have ek:fdOk ⟨t,l,es⟩=(decide (es.length≤256)&&(textO t 256&&(textO l 512&&(decide ((onceF es).length=es.length)&&es.all enOk)))):=rfl;rw[f1,ek];generalize textO t 256=d1 at*;generalize textO l 512=d2 at*;by_cases c0:es.length≤256
 rotate_left
 ·have q0:decide ((es.length:Int)>256)=true:=J7 (by omega);rw[J3 c0];have F:=F3 me q0 @ao;refine sb [.tmp 2] Tryz.func23 ?_;intro Q hQ;refine wk F ?_;refine ee hQ F ?_;exact I2 (.bool _) ⟨rfl,rfl⟩
 have q0:decide ((es.length:Int)>256)=false:=J3 (by omega);rw[J7 c0];cases d1 with
 |false=>
  have F:=F3 me q0 @ao;refine sb [.tmp 2] Tryz.func23 ?_;intro Q hQ;refine wk F ?_;refine kq F (T1 _) ?_;refine ee hQ F ?_;exact I2 (.bool _) ⟨rfl,rfl⟩
 |true=>
  cases d2 with
  |false=>
   have F:=F3 me q0 @ao;refine sb [.tmp 2] Tryz.func23 ?_;intro Q hQ;refine wk F ?_;refine kq F (T1 _) ?_;refine kq F (T2 _) ?_;refine ee hQ F ?_;exact I2 (.bool _) ⟨rfl,rfl⟩
  |true=>
   have q1:(((onceF es).length:Int)==(es.length:Int))=decide ((onceF es).length=es.length):=by
    by_cases q:(onceF es).length=es.length
    ·rw[J7 q,q];simp
    ·rw[J3 q];simpa using(by omega:¬((onceF es).length:Int)=(es.length:Int))
   generalize decide ((onceF es).length=es.length)=dO at*;simp only[Q4];have F:=F5 me mo q0 q1 @ao;refine sb [.tmp 2] Tryz.func23 ?_;intro Q hQ;refine wk F ?_;refine kq F (T1 _) ?_;refine kq F (T2 _) ?_;refine lm (fun nL tL hL=>∃(i:Nat),es.length-i=nL∧h++[.row 25 3 0 [.agg [.str t,.str l,.sl 5 (es.map En.av)]]]=hL∧tL 3=.int .i64 i∧i≤es.length∧(es.take i).all enOk=true) ((fun(i:Nat)=>(es.length-i:Nat)) (0)) ?_ ?_
   ·refine I9 ⟨0,rfl,az,?_,by omega,rfl⟩;all_goals try exact zZz F
   rintro _ s2 h' ⟨i,rfl,rfl,e3,hi,ha⟩ K2 hK2;simp only[ah,ar,Nat.reduceEqDiff, ↓reduceIte]at e3;have F:=F2 F e3;by_cases c2:i<es.length
   ·obtain⟨x,hx2,_⟩:=ac c2;have d2:=J7 c2;have E1:=ox G hc x (hx x (J2 hx2));cases c3:enOk x with
    |true=>
     rw[c3]at E1;have ha':(es.take (i+1)).all enOk=true:=by
      rw[M8,hx2,List.all_append,ha];simp[c3]
     have F:=F3 F d2 hx2;(try refine sq F ?_);refine wk F ?_;refine kq F (E1 _) ?_;refine hK2 _ _ _ (I9 ⟨i+1,rfl,az,?_,by omega,ha'⟩) (by omega);all_goals try exact zZz F
    |false=>
     rw[c3]at E1;have hn:es.all enOk=false:=by
      rw[List.all_eq_false];exact⟨x,J2 hx2,by simp[c3]⟩
     have F:=F3 F d2 hx2;(try refine sq F ?_);refine wk F ?_;refine kq F (E1 _) ?_;refine ee hQ F ?_;exact I2 (.bool _) ⟨by rw[hn];simp,rfl⟩
   ·have d2:=J3 c2;rw[J6 (by omega)]at ha;have F:=F2 F d2;(try refine sq F ?_);refine wk F ?_;refine au (O1 _) ?_;(try refine sq F ?_);refine wk F ?_;refine ee hQ F ?_;exact I2 (.bool _) ⟨by rw[ha];simp,rfl⟩
end
end Go.Av
