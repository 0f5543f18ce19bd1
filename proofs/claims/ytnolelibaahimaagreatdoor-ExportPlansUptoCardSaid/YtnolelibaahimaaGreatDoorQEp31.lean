/- Parts. -/
import Derived.Test.YtnolelibaahimaaGreatDoorQEp18
import Derived.Test.YtnolelibaahimaaGreatDoorQNu
set_option linter.unusedSimpArgs false
set_option linter.unusedVariables false
set_option linter.unusedSectionVars false
set_option linter.unnecessarySimpa false
set_option maxRecDepth 100000
set_option maxHeartbeats 16000000
namespace Go.Av
open Go Go.Proofs Go.RowKit
attribute [local irreducible] WP WPl WPix Sat
theorem ve(h:Heap)(a b c d:Int)(s t u:Bs):abin Tryz.prog h .neq 34 (.agg [.int .i64 a,.int .i64 b,.int .i64 c,.int .i64 d,.str s,.str t,.str u]) (.agg [.int .i64 a,.int .i64 b,.int .i64 c,.int .i64 d,.str s,.str t,.str u])=some (.bool false):=by
 simp[abin,go_sem,aeqL,aeq1]
theorem cK(h:Heap)(a b:Int)(s:Bs):abin Tryz.prog h .neq 44 (.agg [.int .i64 a,.int .i64 b,.str s]) (.agg [.int .i64 a,.int .i64 b,.str s])=some (.bool false):=by
 simp[abin,go_sem,aeqL,aeq1]
theorem cL(h:Heap)(a:Int)(s t:Bs):abin Tryz.prog h .neq 98 (.agg [.int .i64 a,.str s,.str t]) (.agg [.int .i64 a,.str s,.str t])=some (.bool false):=by
 simp[abin,go_sem,aeqL,aeq1]
variable (G:Nat→Option (List AVal))
theorem qX(l:List Bs)(hl:l.length≤1048576)(h:Heap):Sat (CT G) 103 [.sl 1 (l.map .str),.sl 1 (l.map .str)] h (fun r h'=>r=.bool true∧h'=h):=by
 have hml:(l.map AVal.str).length=l.length:=I5 ..;have q1:((l.length:Int) != (l.length:Int))=false:=by simp
 have F:=F2 hml q1;refine sb [.tmp 4] Tryz.func103 ?_;intro Q hQ;refine wk F ?_;refine lm (fun nL tL hL=>∃(k:Nat),l.length-k=nL∧h=hL∧tL 5=.int .i64 k∧k≤l.length) ((fun(k:Nat)=>(l.length-k:Nat)) (0)) ?_ ?_
 ·refine I9 ⟨0,rfl,aw,?_,by omega⟩;all_goals try exact zZz F
 rintro _ s2 h' ⟨k,rfl,rfl,e5,hk⟩ K2 hK2;simp only[ah,ao,Nat.reduceEqDiff, ↓reduceIte]at e5;have F:=F2 F e5;by_cases c2:k<l.length
 ·have d2:=M0 c2;obtain⟨y,hy,hym⟩:=ac c2;have hm:(l.map AVal.str)[k]? =some (.str y):=by rw[J8,hy];rfl
  have qy:(y==y)=true:=by simp
  have F:=F7 F hm hy d2 c2 qy @X6;try refine sq F ?_
  refine wk F ?_;refine hK2 _ _ _ (I9 ⟨k+1,rfl,rfl,?_,by omega⟩) (by omega);all_goals try exact zZz F
 ·have d2:=L6 c2;have F:=F2 F d2;try refine sq F ?_
  refine wk F ?_;refine ee hQ F ?_;exact M8 (.bool _) ⟨rfl,rfl⟩
theorem lH(t:It)(ht:t.tags.length≤1048576)(h:Heap):Sat (CT G) 55 [t.av,t.av] h (fun r h'=>r=.bool true∧h'=h):=by
 have hX:=qX G t.tags ht;obtain⟨a,b,c,g,u,v,p,q,ts⟩:=t;have f1:(It.mk a b c g u v p q ts).av=.agg [.int .i64 a,.int .i64 b,.int .i64 c,.str g,.str u,.str v,.bool p,.bool q,.sl 1 (ts.map .str)]:=rfl;rw[f1];simp only[]at hX;have qi:∀x:Int,(x==x)=true:=fun x=>by simp
 have qs:∀x:Bs,(x==x)=true:=fun x=>by simp
 have qb:∀x:Bool,(x==x)=true:=fun x=>by simp
 have F:=F4 qi qs qb @ax;refine sb [.tmp 4] Tryz.func55 ?_;intro Q hQ;refine wk F ?_;refine kq F (hX _) ?_;refine ee hQ F ?_;exact I3 (.bool _) ⟨rfl,rfl⟩
theorem ow(l:List Ev)(hl:l.length≤1048576)(h:Heap):Sat (CT G) 29 [.sl 7 (l.map Ev.av),.sl 7 (l.map Ev.av)] h (fun r h'=>r=.bool true∧h'=h):=by
 have hml:(l.map Ev.av).length=l.length:=I5 ..;have q1:((l.length:Int) != (l.length:Int))=false:=by simp
 have F:=F3 @ve hml q1;refine sb [.tmp 4] Tryz.func29 ?_;intro Q hQ;refine wk F ?_;refine lm (fun nL tL hL=>∃(k:Nat),l.length-k=nL∧h=hL∧tL 5=.int .i64 k∧k≤l.length) ((fun(k:Nat)=>(l.length-k:Nat)) (0)) ?_ ?_
 ·refine I9 ⟨0,rfl,aw,?_,by omega⟩;all_goals try exact zZz F
 rintro _ s2 h' ⟨k,rfl,rfl,e5,hk⟩ K2 hK2;simp only[ah,ao,Nat.reduceEqDiff, ↓reduceIte]at e5;have F:=F2 F e5;by_cases c2:k<l.length
 ·have d2:=M0 c2;obtain⟨y,hy,hym⟩:=ac c2;have hm:(l.map Ev.av)[k]? =some y.av:=by rw[J8,hy];rfl
  have F:=F5 F hm hy d2 c2;try refine sq F ?_
  refine wk F ?_;refine hK2 _ _ _ (I9 ⟨k+1,rfl,rfl,?_,by omega⟩) (by omega);all_goals try exact zZz F
 ·have d2:=L6 c2;have F:=F2 F d2;try refine sq F ?_
  refine wk F ?_;refine ee hQ F ?_;exact M8 (.bool _) ⟨rfl,rfl⟩
theorem ox(x:St)(h1:x.fo.length≤1048576)(h2:x.fe.length≤1048576)(h3:x.it.length≤1048576)(h4:x.se.length≤1048576)(ht:∀t∈x.it,t.tags.length≤1048576)(h:Heap):Sat (CT G) 25 [x.av,x.av] h (fun r h'=>r=.bool true∧h'=h):=by
 have m1:(x.fo.map Fo.av).length=x.fo.length:=I5 ..;have m2:(x.fe.map Fe.av).length=x.fe.length:=I5 ..;have m3:(x.it.map It.av).length=x.it.length:=I5 ..;have m4:(x.se.map Se.av).length=x.se.length:=I5 ..;have qi:∀n:Nat,((n:Int) != (n:Int))=false:=fun n=>by simp
 have qe:∀a:Int,(a==a)=true:=fun a=>by simp
 rw[St.av_eq];have F:=iH @cK @cJ @cL m1 m2 m3 m4 qi qe @ax;refine sb [.tmp 4] Tryz.func25 ?_;intro Q hQ;refine wk F ?_;refine lm (fun nL tL hL=>∃(k:Nat),x.fo.length-k=nL∧h++[.row 41 9 0 [.agg [.int .i64 x.clock,.sl 3 (x.fo.map Fo.av),.sl 4 (x.fe.map Fe.av),.sl 9 (x.it.map It.av),.sl 3 (x.se.map Se.av),.int .i64 x.t1,.int .i64 x.t2,.int .i64 x.t3,.int .i64 x.t4]],.row 41 9 0 [.agg [.int .i64 x.clock,.sl 3 (x.fo.map Fo.av),.sl 4 (x.fe.map Fe.av),.sl 9 (x.it.map It.av),.sl 3 (x.se.map Se.av),.int .i64 x.t1,.int .i64 x.t2,.int .i64 x.t3,.int .i64 x.t4]]]=hL∧tL 5=.int .i64 k∧k≤x.fo.length) ((fun(k:Nat)=>(x.fo.length-k:Nat)) (0)) ?_ ?_
 ·refine I9 ⟨0,rfl,aw,?_,by omega⟩;all_goals try exact zZz F
 rintro _ s2 h' ⟨k,rfl,rfl,e5,hk⟩ K2 hK2;simp only[ah,ao,Nat.reduceEqDiff, ↓reduceIte]at e5;have F:=F2 F e5;by_cases c2:k<x.fo.length
 ·have d2:=M0 c2;obtain⟨y,hy,hym⟩:=ac c2;have hm:(x.fo.map Fo.av)[k]? =some y.av:=by rw[J8,hy];rfl
  have F:=F5 F hm hy d2 c2;try refine sq F ?_
  refine wk F ?_;refine hK2 _ _ _ (I9 ⟨k+1,rfl,rfl,?_,by omega⟩) (by omega);all_goals try exact zZz F
 have d2:=L6 c2;have F:=F2 F d2;try refine sq F ?_
 refine wk F ?_;refine lm (fun nL tL hL=>∃(k:Nat),x.fe.length-k=nL∧h++[.row 41 9 0 [.agg [.int .i64 x.clock,.sl 3 (x.fo.map Fo.av),.sl 4 (x.fe.map Fe.av),.sl 9 (x.it.map It.av),.sl 3 (x.se.map Se.av),.int .i64 x.t1,.int .i64 x.t2,.int .i64 x.t3,.int .i64 x.t4]],.row 41 9 0 [.agg [.int .i64 x.clock,.sl 3 (x.fo.map Fo.av),.sl 4 (x.fe.map Fe.av),.sl 9 (x.it.map It.av),.sl 3 (x.se.map Se.av),.int .i64 x.t1,.int .i64 x.t2,.int .i64 x.t3,.int .i64 x.t4]]]=hL∧tL 6=.int .i64 k∧k≤x.fe.length) ((fun(k:Nat)=>(x.fe.length-k:Nat)) (0)) ?_ ?_
 ·refine I9 ⟨0,rfl,aw,?_,by omega⟩;all_goals try exact zZz F
 rintro _ s2 h' ⟨k,rfl,rfl,e6,hk⟩ K2 hK2;simp only[ah,ao,Nat.reduceEqDiff, ↓reduceIte]at e6;have F:=F2 F e6;by_cases c2:k<x.fe.length
 ·have d2:=M0 c2;obtain⟨y,hy,hym⟩:=ac c2;have hm:(x.fe.map Fe.av)[k]? =some y.av:=by rw[J8,hy];rfl
  have F:=F2 (F9 @cK @cJ @cL m1 m2 m3 m4 qi qe) (F7 e5 e6 hm hy d2 c2 @ax);try refine sq F ?_
  refine wk F ?_;refine hK2 _ _ _ (I9 ⟨k+1,rfl,rfl,?_,by omega⟩) (by omega);all_goals try exact zZz F
 have d2:=L6 c2;have F:=F2 (F9 @cK @cJ @cL m1 m2 m3 m4 qi qe) (F4 e5 e6 d2 @ax);try refine sq F ?_
 refine wk F ?_;refine lm (fun nL tL hL=>∃(k:Nat),x.it.length-k=nL∧h++[.row 41 9 0 [.agg [.int .i64 x.clock,.sl 3 (x.fo.map Fo.av),.sl 4 (x.fe.map Fe.av),.sl 9 (x.it.map It.av),.sl 3 (x.se.map Se.av),.int .i64 x.t1,.int .i64 x.t2,.int .i64 x.t3,.int .i64 x.t4]],.row 41 9 0 [.agg [.int .i64 x.clock,.sl 3 (x.fo.map Fo.av),.sl 4 (x.fe.map Fe.av),.sl 9 (x.it.map It.av),.sl 3 (x.se.map Se.av),.int .i64 x.t1,.int .i64 x.t2,.int .i64 x.t3,.int .i64 x.t4]]]=hL∧tL 7=.int .i64 k∧k≤x.it.length) ((fun(k:Nat)=>(x.it.length-k:Nat)) (0)) ?_ ?_
 ·refine I9 ⟨0,rfl,aw,?_,by omega⟩;all_goals try exact zZz F
 rintro _ s2 h' ⟨k,rfl,rfl,e7,hk⟩ K2 hK2;simp only[ah,ao,Nat.reduceEqDiff, ↓reduceIte]at e7;have F:=F2 F e7;by_cases c2:k<x.it.length
 ·have d2:=M0 c2;obtain⟨y,hy,hym⟩:=ac c2;have hm:(x.it.map It.av)[k]? =some y.av:=by rw[J8,hy];rfl
  have F:=F2 (F9 @cK @cJ @cL m1 m2 m3 m4 qi qe) (F8 e5 e6 e7 hm hy d2 c2 @ax);try refine sq F ?_
  refine wk F ?_;refine aH (lH G y (ht y hym) _) ?_;try refine sq F ?_
  refine wk F ?_;refine hK2 _ _ _ (I9 ⟨k+1,rfl,rfl,?_,by omega⟩) (by omega);all_goals try exact zZz F
 have d2:=L6 c2;have F:=F2 (F9 @cK @cJ @cL m1 m2 m3 m4 qi qe) (F5 e5 e6 e7 d2 @ax);try refine sq F ?_
 refine wk F ?_;refine lm (fun nL tL hL=>∃(k:Nat),x.se.length-k=nL∧h++[.row 41 9 0 [.agg [.int .i64 x.clock,.sl 3 (x.fo.map Fo.av),.sl 4 (x.fe.map Fe.av),.sl 9 (x.it.map It.av),.sl 3 (x.se.map Se.av),.int .i64 x.t1,.int .i64 x.t2,.int .i64 x.t3,.int .i64 x.t4]],.row 41 9 0 [.agg [.int .i64 x.clock,.sl 3 (x.fo.map Fo.av),.sl 4 (x.fe.map Fe.av),.sl 9 (x.it.map It.av),.sl 3 (x.se.map Se.av),.int .i64 x.t1,.int .i64 x.t2,.int .i64 x.t3,.int .i64 x.t4]]]=hL∧tL 8=.int .i64 k∧k≤x.se.length) ((fun(k:Nat)=>(x.se.length-k:Nat)) (0)) ?_ ?_
 ·refine I9 ⟨0,rfl,aw,?_,by omega⟩;all_goals try exact zZz F
 rintro _ s2 h' ⟨k,rfl,rfl,e8,hk⟩ K2 hK2;simp only[ah,ao,Nat.reduceEqDiff, ↓reduceIte]at e8;have F:=F2 F e8;by_cases c2:k<x.se.length
 ·have d2:=M0 c2;obtain⟨y,hy,hym⟩:=ac c2;have hm:(x.se.map Se.av)[k]? =some y.av:=by rw[J8,hy];rfl
  have F:=F2 (F9 @cK @cJ @cL m1 m2 m3 m4 qi qe) (F9 e5 e6 e7 e8 hm hy d2 c2 @ax);try refine sq F ?_
  refine wk F ?_;refine hK2 _ _ _ (I9 ⟨k+1,rfl,rfl,?_,by omega⟩) (by omega);all_goals try exact zZz F
 have d2:=L6 c2;have F:=F2 (F9 @cK @cJ @cL m1 m2 m3 m4 qi qe) (F6 e5 e6 e7 e8 d2 @ax);try refine sq F ?_
 refine wk F ?_;refine ee hQ F ?_;exact I3 (.bool _) ⟨rfl,rfl⟩
end Go.Av
namespace Go.Av
open Go Go.Proofs Go.RowKit
attribute [local irreducible] WP WPl WPix Sat
variable (G:Nat→Option (List AVal))
theorem ka(hAp:ApC G):∀(k:Nat) (l:List Outl),cntN k l≤512→szs Outl.sz l≤2097152→BrC G (brgF nfX k) l
 |0,l,hl,_=>by
  have e:=td hl;subst e;exact fW G hAp (g:=fun _ _ s=>(s,[])) (fun _ _ s T _=>Br.nil T) (fun _ _ _=>U3 _) (fun _ _=>rfl) (by decide) (fun o ho=>by cases ho)
 |k+1,l,hl,hz=>by
  have h0:∀(k:Nat) (inn:Int) (s:PS),brgF nfX k inn [] s=(s,[]):=fun k inn s=>by cases k<;>rfl
  exact fW G hAp (g:=brgF nfX k) (ib k) (iy k) (h0 k) hz fun o ho=>⟨((lr hl).1 o ho).1,ka hAp k o.kids ((lr hl).1 o ho).2 (by
   have h1:=oF Outl.sz ho;have h2:=o.kids_sz;omega)⟩
theorem th(hAp:ApC G){s:PS}(T:s.Top2)(l:List Outl)(hl:cntN 8 l≤512)(hz:szs Outl.sz l≤2097152)(h:Heap):
  Sat (CT G) 28 [s.tell.av,.sl 3 (l.map Outl.av)] h (fun r h'=>r=.tup [(brgF nfX 8 0 l s).1.tell.av,.sl 7 ((brgF nfX 8 0 l s).2.map Ev.av)]∧h'=h):=by
 have hB:=fun h=>ka G hAp 8 l hl hz 0 s h T rfl
 generalize brgF nfX 8 0 l s=p at*;obtain⟨z,ws⟩:=p;simp only[]at hB ⊢;have hcl:Clo h.length (.tup [z.tell.av,.sl 7 (ws.map Ev.av)]):=.tup _ fun a ha=>by
  simp only[K4,P8,or_false]at ha;rcases ha with rfl|rfl
  ·exact St.clo _ _
  ·exact .sl _ _ (fun r hr=>by obtain⟨e,_,rfl⟩:=J5.1 hr;exact Ev.clo _ e)
 generalize s.tell=x at*;generalize z.tell=y at*;have hz:ofVal (.agg #[.int .i64 0,.slice none 0 0,.slice none 0 0,.slice none 0 0,.slice none 0 0,.int .i64 0,.int .i64 0,.int .i64 0,.int .i64 0])=stZ:=rfl;unfold stZ at hz;have F:=F2 hz @ax;refine sb [.cell 4 41,.tmp 5] Tryz.func28 ?_;intro Q hQ;refine wk F ?_;refine kq F (hB _) ?_;refine ye hQ F ?_;exact I3 hcl ⟨rfl,rfl⟩
theorem kb(hC:CloneC G)(hcc:GClo (CT G))(hlives:∀h,Sat (CT G) 10 [] h (fun r h'=>r=.bool true∧h'=h))(hsmall:∀l:List Outl,0<ocntL l 1 700→OkN 8 l)(es:List Ev)(m:List Outl)(hs:szs Outl.sz m≤1048576)(h:Heap):
  Sat (CT G) 6 [.sl 7 (es.map Ev.av),.sl 3 (m.map Outl.av)] h (fun r h'=>r=.bool true∧h'=h):=by
 have hLg:=jL G es;have hLm:=pR G m hs;have dt1:∀i:Decidable True, @decide True i=true:=fun i=>by simp
 have df:∀i:Decidable False, @decide False i=false:=fun i=>by simp
 cases hlg:lgF es with
 |true=>
  rw[hlg]at hLg;refine sb [.tmp 4] Tryz.func6 ?_;intro Q hQ;refine wk trivial ?_;refine kq trivial (hLg _) ?_;refine kq trivial (hlives _) ?_;refine ee hQ trivial ?_;exact M8 (.bool _) ⟨rfl,rfl⟩
 |false=>
  rw[hlg]at hLg;have hel:=vb hlg;by_cases hl0:ocntL m 1 700≤0
  ·rw[M0 hl0]at hLm;refine sb [.tmp 4] Tryz.func6 ?_;intro Q hQ;refine wk trivial ?_;refine kq trivial (hLg _) ?_;refine kq trivial (hLm _) ?_;refine kq trivial (hlives _) ?_;refine ee hQ trivial ?_;exact M8 (.bool _) ⟨rfl,rfl⟩
  rw[L6 hl0]at hLm;have hok:=hsmall m (by omega);have T:(es.foldl (PS.step L0) PS.z).Top2:=PS.Top2.z0.fold es;have hfh:=si G es (by omega) h;have hrf:=sS G hcc es (by omega);have hAp:ApC G:=fun s e h hI hN=>jS G hcc hI hN e h
  generalize es.foldl (PS.step L0) PS.z=s at T hfh hrf;have hz9:(PS.z.bl h.length).length=9:=rfl;obtain⟨H0,hH0⟩:∃H0,H0=h++PS.z.bl h.length:=⟨_,rfl⟩;rw[← hH0]at hfh;have hn00:h.length+9≤H0.length:=by rw[hH0];simp[hz9]
  have hl0':H0.length=h.length+9:=by rw[hH0];simp[hz9]
  have hn0:∀j:Heap,h.length+9≤(H0++j).length:=fun j=>by simp;omega
  have hpre:∀j,∃j',H0++j=h++j':=fun j=>⟨PS.z.bl h.length++j,by rw[hH0];simp only[N2]⟩
  have hTl:=fun(X:Heap) (hX:h.length+9≤X.length)=>gn G s T.i.toOk (H:=X) (n:=h.length) hX
  have hPl:=fun(X:Heap) (hX:h.length+9≤X.length)=>gA G (s:=s) hC hX T m hok (by omega)
  have hSm:=ox G s.tell (by show(valsM Fo.z s.fo).length≤_;rw[fS];have:=T.i.l1;omega) (by show(valsM Fe.z s.fe).length≤_;rw[fS];have:=T.i.l2;omega) (by show(valsM It.z s.it).length≤_;rw[fS];have:=T.i.l3;omega) (by show(valsM Se.z s.se).length≤_;rw[fS];have:=T.i.l4;omega)
   (fun t ht=>by obtain⟨k,hk⟩:=aJ ht;have:=(T.i.tg k t hk).2;omega)
  have hCk:=oy G m hok;have hRp:=fun hk:cntN 8 m≤512=>th G hAp T m hk (by omega)
  have hbl:=iy (nf:=nfX) 8 0 m s;obtain⟨x,hx⟩:∃x,s.tell=x:=⟨_,rfl⟩;rw[hx]at hTl hrf hSm hRp;obtain⟨J,hJ⟩:∃J:Heap,[Blk.row 41 9 0 [x.av]]=J:=⟨_,rfl⟩;have hJl:J.length=1:=by rw[← hJ];rfl
  have hJ2:=hJ;rw[St.av_eq]at hJ2;have gJ:∀(s:PS) (j:Heap),getRow (so (H0++(J++j)) h.length s) H0.length 0=some (41,9,[x.av]):=fun s j=>by
   rw[bG (hn0 _) _ (by omega), ← hJ,aR _ rfl];rfl
  have gJ1:=gJ;simp only[St.av_eq]at gJ1;have gJ0:∀(s:PS),getRow (so (H0++J) h.length s) H0.length 0=some (41,9,[.agg [.int .i64 x.clock,.sl 3 (x.fo.map Fo.av),.sl 4 (x.fe.map Fe.av),.sl 9 (x.it.map It.av),.sl 3 (x.se.map Se.av),.int .i64 x.t1,.int .i64 x.t2,.int .i64 x.t3,.int .i64 x.t4]]):=fun s=>by have:=gJ1 s [];rwa [M4]at this
  unfold exF at hPl;cases hk:okX m with
  |false=>
   rw[show okOl m=false from hk]at hCk;rw[hk]at hPl;have hPl:∀(X:Heap),h.length+9≤X.length→Sat (CT G) 12 [.hp (h.length+8) 0 0 0,.sl 3 (m.map Outl.av)] (so X h.length s) (fun r h'=>r=.tup [.sl 7 [],.int .i64 130]∧h'=so X h.length s):=hPl;have F:=F7 hn00 hn0 dt1 df hJ2 @gJ0 @gJ1;refine sb [.tmp 4] Tryz.func6 ?_;intro Q hQ;refine wk F ?_;refine kq F (hLg _) ?_;refine kq F (hLm _) ?_;refine kq F (hfh) ?_;refine kq F (hrf _) ?_;refine kq F (hlives _) ?_;refine kq F (hPl _ (hn0 _)) ?_;refine aH (hTl _ (hn0 _)) ?_;(try refine sq F ?_);refine wk F ?_;refine aH (hSm _) ?_;(try refine sq F ?_);refine wk F ?_;refine kq F (hCk _) ?_;refine ee hQ F ?_;exact kL (hn0 _) (hpre _) (J0 _) ⟨rfl,rfl⟩
  |true=>
   rw[show okOl m=true from hk]at hCk;rw[hk]at hPl;have hRp:=hRp (Q8 hk);generalize brgF nfX 8 0 m s=p at*;obtain⟨z,l⟩:=p;simp only[]at hPl hRp hbl;have hPl:∀(X:Heap),h.length+9≤X.length→Sat (CT G) 12 [.hp (h.length+8) 0 0 0,.sl 3 (m.map Outl.av)] (so X h.length s) (fun r h'=>r=.tup [.sl 7 (l.map Ev.av),.int .i64 0]∧h'=so X h.length s):=hPl;have hSe:=ow G l (by omega);generalize z.tell=y at*;have F:=F7 hn00 hn0 dt1 df hJ2 @gJ0 @gJ1;refine sb [.tmp 4] Tryz.func6 ?_;intro Q hQ;refine wk F ?_;refine kq F (hLg _) ?_;refine kq F (hLm _) ?_;refine kq F (hfh) ?_;refine kq F (hrf _) ?_;refine kq F (hlives _) ?_;refine kq F (hPl _ (hn0 _)) ?_;refine aH (hTl _ (hn0 _)) ?_;(try refine sq F ?_);refine wk F ?_;refine aH (hSm _) ?_;(try refine sq F ?_);refine wk F ?_;refine kq F (hCk _) ?_;refine kq F (hRp _) ?_;refine kq F (hSe _) ?_;refine ee hQ F ?_;exact kL (hn0 _) (hpre _) (J0 _) ⟨rfl,rfl⟩
theorem vj(l:List Outl)(h:0<ocntL l 1 700):OkN 8 l:=(wI 8 1 l 700 (by omega) (by omega) h).1
theorem jb(hG:GOk G)(hc:GClo (CT G))(es:List Ev)(m:List Outl)(hs:szs Outl.sz m≤1048576)(h:Heap):
  Sat (CT G) 6 [.sl 7 (es.map Ev.av),.sl 3 (m.map Outl.av)] h (fun r h'=>r=.bool true∧h'=h):=kb G (iR G) hc (oo G hG hc) vj es m hs h
end Go.Av
