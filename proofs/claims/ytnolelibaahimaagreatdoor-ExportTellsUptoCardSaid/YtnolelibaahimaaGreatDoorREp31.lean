/- Parts. -/
import Derived.Test.YtnolelibaahimaaGreatDoorREp18
import Derived.Test.YtnolelibaahimaaGreatDoorRNu
set_option linter.unusedSimpArgs false
set_option maxRecDepth 100000
set_option maxHeartbeats 16000000
namespace Go.Av
open Go Go.Proofs Go.RowKit
section
attribute [local irreducible] WP WPl WPix Sat
theorem cZ(h:Heap)(a b:Int)(s:Bs):abin Tryz.prog h .neq 44 (.agg [.int .i64 a,.int .i64 b,.str s]) (.agg [.int .i64 a,.int .i64 b,.str s])=some (.bool false):=by
 simp[abin,go_sem,aeqL,aeq1]
theorem d8(h:Heap)(a:Int)(s t:Bs):abin Tryz.prog h .neq 98 (.agg [.int .i64 a,.str s,.str t]) (.agg [.int .i64 a,.str s,.str t])=some (.bool false):=by
 simp[abin,go_sem,aeqL,aeq1]
variable (G:Nat→Option (List AVal))
theorem sW(l:List Bs)(hl:l.length≤1048576)(h:Heap):Sat (CT G) 103 [.sl 1 (l.map .str),.sl 1 (l.map .str)] h (fun r h'=>r=.bool true∧h'=h):=by
 have hml:(l.map AVal.str).length=l.length:=L5 ..;have q1:((l.length:Int) != (l.length:Int))=false:=by simp
 have F:=F2 hml q1;refine sb [.tmp 4] Tryz.func103 ?_;intro Q hQ;refine wk F ?_;refine lm (fun nL tL hL=>∃(k:Nat),l.length-k=nL∧h=hL∧tL 5=.int .i64 k∧k≤l.length) ((fun(k:Nat)=>(l.length-k:Nat)) (0)) ?_ ?_
 ·refine L8 ⟨0,rfl,aw,?_,by omega⟩;all_goals try exact zZz F
 rintro _ s2 h' ⟨k,rfl,rfl,e5,hk⟩ K2 hK2;simp only[ah,ao,Nat.reduceEqDiff, ↓reduceIte]at e5;have F:=F2 F e5;by_cases c2:k<l.length
 ·have d2:=N7 c2;obtain⟨y,hy,hym⟩:=ac c2;have hm:(l.map AVal.str)[k]? =some (.str y):=by rw[M5,hy];rfl
  have qy:(y==y)=true:=by simp
  have F:=F7 F hm hy d2 c2 qy @za1;try refine sq F ?_
  refine wk F ?_;refine hK2 _ _ _ (L8 ⟨k+1,rfl,rfl,?_,by omega⟩) (by omega);all_goals try exact zZz F
 ·have d2:=N8 c2;have F:=F2 F d2;try refine sq F ?_
  refine wk F ?_;refine ee hQ F ?_;exact O9 (.bool _) ⟨rfl,rfl⟩
theorem mU(t:It)(ht:t.tags.length≤1048576)(h:Heap):Sat (CT G) 55 [t.av,t.av] h (fun r h'=>r=.bool true∧h'=h):=by
 have hX:=sW G t.tags ht;obtain⟨a,b,c,g,u,v,p,q,ts⟩:=t;have f1:(It.mk a b c g u v p q ts).av=.agg [.int .i64 a,.int .i64 b,.int .i64 c,.str g,.str u,.str v,.bool p,.bool q,.sl 1 (ts.map .str)]:=rfl;rw[f1];simp only[]at hX;have qi:∀x:Int,(x==x)=true:=fun x=>by simp
 have qs:∀x:Bs,(x==x)=true:=fun x=>by simp
 have qb:∀x:Bool,(x==x)=true:=fun x=>by simp
 have F:=F4 qi qs qb @ax;refine sb [.tmp 4] Tryz.func55 ?_;intro Q hQ;refine wk F ?_;refine kq F (hX _) ?_;refine ee hQ F ?_;exact K9 (.bool _) ⟨rfl,rfl⟩
theorem pO(x:St)(h1:x.fo.length≤1048576)(h2:x.fe.length≤1048576)(h3:x.it.length≤1048576)(h4:x.se.length≤1048576)(ht:∀t∈x.it,t.tags.length≤1048576)(h:Heap):Sat (CT G) 25 [x.av,x.av] h (fun r h'=>r=.bool true∧h'=h):=by
 have m1:(x.fo.map Fo.av).length=x.fo.length:=L5 ..;have m2:(x.fe.map Fe.av).length=x.fe.length:=L5 ..;have m3:(x.it.map It.av).length=x.it.length:=L5 ..;have m4:(x.se.map Se.av).length=x.se.length:=L5 ..;have qi:∀n:Nat,((n:Int) != (n:Int))=false:=fun n=>by simp
 have qe:∀a:Int,(a==a)=true:=fun a=>by simp
 rw[St.av_eq];have F:=j8 @cZ @cY @d8 m1 m2 m3 m4 qi qe @ax;refine sb [.tmp 4] Tryz.func25 ?_;intro Q hQ;refine wk F ?_;refine lm (fun nL tL hL=>∃(k:Nat),x.fo.length-k=nL∧h++[.row 41 9 0 [.agg [.int .i64 x.clock,.sl 3 (x.fo.map Fo.av),.sl 4 (x.fe.map Fe.av),.sl 9 (x.it.map It.av),.sl 3 (x.se.map Se.av),.int .i64 x.t1,.int .i64 x.t2,.int .i64 x.t3,.int .i64 x.t4]],.row 41 9 0 [.agg [.int .i64 x.clock,.sl 3 (x.fo.map Fo.av),.sl 4 (x.fe.map Fe.av),.sl 9 (x.it.map It.av),.sl 3 (x.se.map Se.av),.int .i64 x.t1,.int .i64 x.t2,.int .i64 x.t3,.int .i64 x.t4]]]=hL∧tL 5=.int .i64 k∧k≤x.fo.length) ((fun(k:Nat)=>(x.fo.length-k:Nat)) (0)) ?_ ?_
 ·refine L8 ⟨0,rfl,aw,?_,by omega⟩;all_goals try exact zZz F
 rintro _ s2 h' ⟨k,rfl,rfl,e5,hk⟩ K2 hK2;simp only[ah,ao,Nat.reduceEqDiff, ↓reduceIte]at e5;have F:=F2 F e5;by_cases c2:k<x.fo.length
 ·have d2:=N7 c2;obtain⟨y,hy,hym⟩:=ac c2;have hm:(x.fo.map Fo.av)[k]? =some y.av:=by rw[M5,hy];rfl
  have F:=F5 F hm hy d2 c2;try refine sq F ?_
  refine wk F ?_;refine hK2 _ _ _ (L8 ⟨k+1,rfl,rfl,?_,by omega⟩) (by omega);all_goals try exact zZz F
 have d2:=N8 c2;have F:=F2 F d2;try refine sq F ?_
 refine wk F ?_;refine lm (fun nL tL hL=>∃(k:Nat),x.fe.length-k=nL∧h++[.row 41 9 0 [.agg [.int .i64 x.clock,.sl 3 (x.fo.map Fo.av),.sl 4 (x.fe.map Fe.av),.sl 9 (x.it.map It.av),.sl 3 (x.se.map Se.av),.int .i64 x.t1,.int .i64 x.t2,.int .i64 x.t3,.int .i64 x.t4]],.row 41 9 0 [.agg [.int .i64 x.clock,.sl 3 (x.fo.map Fo.av),.sl 4 (x.fe.map Fe.av),.sl 9 (x.it.map It.av),.sl 3 (x.se.map Se.av),.int .i64 x.t1,.int .i64 x.t2,.int .i64 x.t3,.int .i64 x.t4]]]=hL∧tL 6=.int .i64 k∧k≤x.fe.length) ((fun(k:Nat)=>(x.fe.length-k:Nat)) (0)) ?_ ?_
 ·refine L8 ⟨0,rfl,aw,?_,by omega⟩;all_goals try exact zZz F
 rintro _ s2 h' ⟨k,rfl,rfl,e6,hk⟩ K2 hK2;simp only[ah,ao,Nat.reduceEqDiff, ↓reduceIte]at e6;have F:=F2 F e6;by_cases c2:k<x.fe.length
 ·have d2:=N7 c2;obtain⟨y,hy,hym⟩:=ac c2;have hm:(x.fe.map Fe.av)[k]? =some y.av:=by rw[M5,hy];rfl
  have F:=F2 (F9 @cZ @cY @d8 m1 m2 m3 m4 qi qe) (F7 e5 e6 hm hy d2 c2 @ax);try refine sq F ?_
  refine wk F ?_;refine hK2 _ _ _ (L8 ⟨k+1,rfl,rfl,?_,by omega⟩) (by omega);all_goals try exact zZz F
 have d2:=N8 c2;have F:=F2 (F9 @cZ @cY @d8 m1 m2 m3 m4 qi qe) (F4 e5 e6 d2 @ax);try refine sq F ?_
 refine wk F ?_;refine lm (fun nL tL hL=>∃(k:Nat),x.it.length-k=nL∧h++[.row 41 9 0 [.agg [.int .i64 x.clock,.sl 3 (x.fo.map Fo.av),.sl 4 (x.fe.map Fe.av),.sl 9 (x.it.map It.av),.sl 3 (x.se.map Se.av),.int .i64 x.t1,.int .i64 x.t2,.int .i64 x.t3,.int .i64 x.t4]],.row 41 9 0 [.agg [.int .i64 x.clock,.sl 3 (x.fo.map Fo.av),.sl 4 (x.fe.map Fe.av),.sl 9 (x.it.map It.av),.sl 3 (x.se.map Se.av),.int .i64 x.t1,.int .i64 x.t2,.int .i64 x.t3,.int .i64 x.t4]]]=hL∧tL 7=.int .i64 k∧k≤x.it.length) ((fun(k:Nat)=>(x.it.length-k:Nat)) (0)) ?_ ?_
 ·refine L8 ⟨0,rfl,aw,?_,by omega⟩;all_goals try exact zZz F
 rintro _ s2 h' ⟨k,rfl,rfl,e7,hk⟩ K2 hK2;simp only[ah,ao,Nat.reduceEqDiff, ↓reduceIte]at e7;have F:=F2 F e7;by_cases c2:k<x.it.length
 ·have d2:=N7 c2;obtain⟨y,hy,hym⟩:=ac c2;have hm:(x.it.map It.av)[k]? =some y.av:=by rw[M5,hy];rfl
  have F:=F2 (F9 @cZ @cY @d8 m1 m2 m3 m4 qi qe) (F8 e5 e6 e7 hm hy d2 c2 @ax);try refine sq F ?_
  refine wk F ?_;refine aG (mU G y (ht y hym) _) ?_;try refine sq F ?_
  refine wk F ?_;refine hK2 _ _ _ (L8 ⟨k+1,rfl,rfl,?_,by omega⟩) (by omega);all_goals try exact zZz F
 have d2:=N8 c2;have F:=F2 (F9 @cZ @cY @d8 m1 m2 m3 m4 qi qe) (F5 e5 e6 e7 d2 @ax);try refine sq F ?_
 refine wk F ?_;refine lm (fun nL tL hL=>∃(k:Nat),x.se.length-k=nL∧h++[.row 41 9 0 [.agg [.int .i64 x.clock,.sl 3 (x.fo.map Fo.av),.sl 4 (x.fe.map Fe.av),.sl 9 (x.it.map It.av),.sl 3 (x.se.map Se.av),.int .i64 x.t1,.int .i64 x.t2,.int .i64 x.t3,.int .i64 x.t4]],.row 41 9 0 [.agg [.int .i64 x.clock,.sl 3 (x.fo.map Fo.av),.sl 4 (x.fe.map Fe.av),.sl 9 (x.it.map It.av),.sl 3 (x.se.map Se.av),.int .i64 x.t1,.int .i64 x.t2,.int .i64 x.t3,.int .i64 x.t4]]]=hL∧tL 8=.int .i64 k∧k≤x.se.length) ((fun(k:Nat)=>(x.se.length-k:Nat)) (0)) ?_ ?_
 ·refine L8 ⟨0,rfl,aw,?_,by omega⟩;all_goals try exact zZz F
 rintro _ s2 h' ⟨k,rfl,rfl,e8,hk⟩ K2 hK2;simp only[ah,ao,Nat.reduceEqDiff, ↓reduceIte]at e8;have F:=F2 F e8;by_cases c2:k<x.se.length
 ·have d2:=N7 c2;obtain⟨y,hy,hym⟩:=ac c2;have hm:(x.se.map Se.av)[k]? =some y.av:=by rw[M5,hy];rfl
  have F:=F2 (F9 @cZ @cY @d8 m1 m2 m3 m4 qi qe) (F9 e5 e6 e7 e8 hm hy d2 c2 @ax);try refine sq F ?_
  refine wk F ?_;refine hK2 _ _ _ (L8 ⟨k+1,rfl,rfl,?_,by omega⟩) (by omega);all_goals try exact zZz F
 have d2:=N8 c2;have F:=F2 (F9 @cZ @cY @d8 m1 m2 m3 m4 qi qe) (F6 e5 e6 e7 e8 d2 @ax);try refine sq F ?_
 refine wk F ?_;refine ee hQ F ?_;exact K9 (.bool _) ⟨rfl,rfl⟩
theorem iZ(H:Heap):abin Tryz.prog H .eql 27 (.nil (.pointer none)) (.nil (.pointer none))=some (.bool true):=by
 have hk:nilKind Tryz.prog 27 (.pointer none)=true:=by kernel_rfl
 simp[abin,hk,aeqNil]
theorem pW(h:Heap):Sat (CT G) 21 [.nil (.pointer none)] h (fun r h'=>r=.tup [.str [],.int .i64 6]∧h'=h):=by
 have F:= @iZ;refine sb [.tmp 2,.tmp 3] Tryz.func21 ?_;intro Q hQ;refine wk F ?_;refine ye hQ F ?_;exact O9 (.tup _ (by intro c hc;simp at hc;rcases hc with rfl|rfl;exact .str _;exact .int _ _)) ⟨rfl,rfl⟩
theorem t8(m:List Outl)(h:Heap):Sat (CT G) 12 [.nil (.pointer none),.sl 3 (m.map Outl.av)] h (fun r h'=>r=.tup [.sl 7 [],.int .i64 6]∧h'=h):=by
 have F:= @iZ;refine sb [.tmp 4,.tmp 5] Tryz.func12 ?_;intro Q hQ;refine wk F ?_;refine ye hQ F ?_;have:=za6 (h0:=h) (j:=[]) (R:=fun r h'=>r=exR ([],6)∧h'=h) (iX (h++[]) h.length 6) ⟨rfl,rfl⟩;rw[O1]at this;exact this
theorem ta(t:Bs)(h:Heap):Sat (CT G) 26 [.nil (.pointer none),.str t] h (fun r h'=>r=.tup [.sl 7 [],.int .i64 6]∧h'=h):=by
 have F:= @iZ;refine sb [.tmp 4,.tmp 5] Tryz.func26 ?_;intro Q hQ;refine wk F ?_;refine ye hQ F ?_;have:=za6 (h0:=h) (j:=[]) (R:=fun r h'=>r=exR ([],6)∧h'=h) (iX (h++[]) h.length 6) ⟨rfl,rfl⟩;rw[O1]at this;exact this
theorem lK(h:Heap):Sat (CT G) 24 [.nil (.pointer none)] h (fun r h'=>r=.sl 3 []∧h'=h):=by
 have F:= @iZ;refine sb [.tmp 2] Tryz.func24 ?_;intro Q hQ;refine wk F ?_;refine ee hQ F ?_;have:=za6 (h0:=h) (j:=[]) (R:=fun r h'=>r=.sl 3 []∧h'=h) (Frz.nils (h:=h++[]) (n:=h.length) 3) ⟨rfl,rfl⟩;rw[O1]at this;exact this
theorem kV(hcc:GClo (CT G))(hlives:∀h,Sat (CT G) 10 [] h (fun r h'=>r=.bool true∧h'=h))(es:List Ev)(m:List Outl)(hs:szs Outl.sz m≤1048576)(txt:Bs)(h:Heap):
  Sat (CT G) 5 [.sl 7 (es.map Ev.av),.sl 3 (m.map Outl.av),.str txt] h (fun r h'=>r=.bool true∧h'=h):=by
 have hLg:=kw G es;have hLm:=rO G m hs;have dt1:∀i:Decidable True, @decide True i=true:=fun i=>by simp
 have df:∀i:Decidable False, @decide False i=false:=fun i=>by simp
 cases hlg:lgF es with
 |true=>
  rw[hlg]at hLg;refine sb [.tmp 6] Tryz.func5 ?_;intro Q hQ;refine wk trivial ?_;refine kq trivial (hLg _) ?_;refine kq trivial (hlives _) ?_;refine ee hQ trivial ?_;exact O9 (.bool _) ⟨rfl,rfl⟩
 |false=>
  rw[hlg]at hLg;have hel:=x6 hlg;by_cases hl0:ocntL m 1 700≤0
  ·rw[N7 hl0]at hLm;refine sb [.tmp 6] Tryz.func5 ?_;intro Q hQ;refine wk trivial ?_;refine kq trivial (hLg _) ?_;refine kq trivial (hLm _) ?_;refine kq trivial (hlives _) ?_;refine ee hQ trivial ?_;exact O9 (.bool _) ⟨rfl,rfl⟩
  rw[N8 hl0]at hLm;by_cases hx6:txt.length>6000
  ·have qx:decide ((txt.length:Int)>6000)=true:=N7 (by omega);have F:=qx;refine sb [.tmp 6] Tryz.func5 ?_;intro Q hQ;refine wk F ?_;refine kq F (hLg _) ?_;refine kq F (hLm _) ?_;refine kq F (hlives _) ?_;refine ee hQ F ?_;exact O9 (.bool _) ⟨rfl,rfl⟩
  have qx:decide ((txt.length:Int)>6000)=false:=N8 (by omega);have T:(es.foldl (PS.step L0) PS.z).Top2:=PS.Top2.z0.fold es;have X:(es.foldl (PS.step L0) PS.z).Txt:=PS.Txt.fold es PS.Txt.z0 PS.Inv.z;have hfh:=ub G es (by omega) h;have hrf:=uG G hcc es (by omega);generalize es.foldl (PS.step L0) PS.z=s at T X hfh hrf;have hz9:(PS.z.bl h.length).length=9:=rfl;obtain⟨H0,hH0⟩:∃H0,H0=h++PS.z.bl h.length:=⟨_,rfl⟩;rw[← hH0]at hfh;have hn00:h.length+9≤H0.length:=by rw[hH0];simp[hz9]
  have hl0':H0.length=h.length+9:=by rw[hH0];simp[hz9]
  have hn0:∀j:Heap,h.length+9≤(H0++j).length:=fun j=>by simp;omega
  have hpre:∀j,∃j',H0++j=h++j':=fun j=>⟨PS.z.bl h.length++j,by rw[hH0];simp only[P1]⟩
  have hTl:=fun(X:Heap) (hX:h.length+9≤X.length)=>f4 G s T.i.toOk (H:=X) (n:=h.length) hX
  have hSm:=pO G s.tell (by show(valsM Fo.z s.fo).length≤_;rw[dG];have:=T.i.l1;omega) (by show(valsM Fe.z s.fe).length≤_;rw[dG];have:=T.i.l2;omega) (by show(valsM It.z s.it).length≤_;rw[dG];have:=T.i.l3;omega) (by show(valsM Se.z s.se).length≤_;rw[dG];have:=T.i.l4;omega)
   (fun t ht=>by obtain⟨k,hk⟩:=aK ht;have:=(T.i.tg k t hk).2;omega)
  have hRo:=mV G T.i X;have hPo:=fun(Y:Heap) (hY:h.length+9≤Y.length)=>ib G (s:=s) (X:=Y) (n:=h.length) T.i X hY
  have hPw:=fun(Y:Heap) (hY:h.length+9≤Y.length)=>pV G (s:=s) (X:=Y) (n:=h.length) T.i X hY
  obtain⟨k1,k2,k3,k4⟩:=oM T.i X;have hkc:=R8 k1;have ho:=qM T.i X;have hcs:=uX 8 s.outl hkc;have hwr:(wrF 8 s.outl).length≤1000000:=by
   have h2:=qP 8 s.outl;have h3:=qL 8 s.outl hkc;omega
  have hRw:=pT G s.outl k1 (by omega) hwr;have hRs:=tM G s.outl s.outl (by omega) (by omega);rw[pQ 8 s.outl hkc]at hRs;generalize s.outl=ol at*;obtain⟨d,hd⟩:∃d,docF 8 ol=d:=⟨_,rfl⟩;rw[hd]at hRw;simp only[hd]at hPw;have qd:(d==d)=true:=by simp
  obtain⟨x,hx⟩:∃x,s.tell=x:=⟨_,rfl⟩;rw[hx]at hTl hrf hSm hRo;obtain⟨J,hJ⟩:∃J:Heap,[Blk.row 41 9 0 [x.av]]=J:=⟨_,rfl⟩;have hJl:J.length=1:=by rw[← hJ];rfl
  have hJ2:=hJ;rw[St.av_eq]at hJ2;have gJ:∀(s:PS) (j:Heap),getRow (so (H0++(J++j)) h.length s) H0.length 0=some (41,9,[x.av]):=fun s j=>by
   rw[bM (hn0 _) _ (by omega), ← hJ,aS _ rfl];rfl
  have gJ1:=gJ;simp only[St.av_eq]at gJ1;have gJ0:∀(s:PS),getRow (so (H0++J) h.length s) H0.length 0=some (41,9,[.agg [.int .i64 x.clock,.sl 3 (x.fo.map Fo.av),.sl 4 (x.fe.map Fe.av),.sl 9 (x.it.map It.av),.sl 3 (x.se.map Se.av),.int .i64 x.t1,.int .i64 x.t2,.int .i64 x.t3,.int .i64 x.t4]]):=fun s=>by have:=gJ1 s [];rwa [O1]at this
  have F:=F9 hn00 hn0 dt1 df hJ2 @gJ0 @gJ1 qx qd;refine sb [.tmp 6] Tryz.func5 ?_;intro Q hQ;refine wk F ?_;refine kq F (hLg _) ?_;refine kq F (hLm _) ?_;refine kq F (hfh) ?_;refine kq F (hrf _) ?_;refine kq F (hlives _) ?_;refine kq F (hRo _) ?_;refine kq F (hPw _ (hn0 _)) ?_;refine aG (hRw _) ?_;try refine sq F ?_
  refine wk F ?_;refine aG (hPo _ (hn0 _)) ?_;try refine sq F ?_
  refine wk F ?_;refine aG (hRs _) ?_;try refine sq F ?_
  refine wk F ?_;refine aG (hTl _ (hn0 _)) ?_;try refine sq F ?_
  refine wk F ?_;refine aG (hSm _) ?_;try refine sq F ?_
  refine wk F ?_;refine kq F (pW G _) ?_;refine kq F (t8 G m _) ?_;refine kq F (ta G txt _) ?_;refine kq F (lK G _) ?_;refine ee hQ F ?_;exact qK (hn0 _) (hpre _) (M0 _) ⟨rfl,rfl⟩
theorem jE(hG:GOk G)(hc:GClo (CT G))(es:List Ev)(m:List Outl)(hs:szs Outl.sz m≤1048576)(t:Bs)(h:Heap):
  Sat (CT G) 5 [.sl 7 (es.map Ev.av),.sl 3 (m.map Outl.av),.str t] h (fun r h'=>r=.bool true∧h'=h):=kV G hc (pN G hG hc) es m hs t h
end
end Go.Av
