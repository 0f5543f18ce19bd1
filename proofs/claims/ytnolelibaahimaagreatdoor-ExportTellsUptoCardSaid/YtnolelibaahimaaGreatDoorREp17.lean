/- Parts. -/
import Derived.Test.YtnolelibaahimaaGreatDoorRVh
set_option linter.unusedSimpArgs false
set_option maxRecDepth 100000
set_option maxHeartbeats 16000000
namespace Go.Av
open Go Go.Proofs Go.RowKit
section
attribute [local irreducible] WP WPl WPix Sat
theorem qE(h:Outl→PS→PS×List Ev):∀(a b:List Outl) (s:PS),lstG h (a++b) s=((lstG h b (lstG h a s).1).1,(lstG h a s).2++(lstG h b (lstG h a s).1).2)
 | [],b,s=>by rw[O5,lstG];rfl
 |o::a,b,s=>by
  rw[Q7,lstG,qE h a b,lstG];simp only[P1]
theorem yq(h:Outl→PS→PS×List Ev){l:List Outl}{i:Nat}{o:Outl}(ho:l[i]? =some o)(s:PS):lstG h (l.take (i+1)) s=((h o (lstG h (l.take i) s).1).1,(lstG h (l.take i) s).2++(h o (lstG h (l.take i) s).1).2):=by
 rw[O7,ho,Option.toList_some,qE];simp only[lstG,O1]
theorem qF{nf:Bs→Bs}{g:Int→List Outl→PS→PS×List Ev}(hg:∀inn l s,(g inn l s).2.length≤szs Outl.sz l)(inn:Int)(o:Outl)(s:PS):(oneG nf g inn o s).2.length≤o.sz:=by
 have hz:=Outl.sz_eq o;unfold oneG;split
 ·unfold putF;split<;>simp<;>omega
 ·split
  ·have:=hg (foId s inn (nf o.title)) o.kids s;omega
  ·split
   ·have:=hg (s.t1+1) o.kids (s.step L0 (evFo s inn (nf o.title)));simp only[L6];omega
   ·have:=hg inn o.kids s;omega
theorem lC{h:Outl→PS→PS×List Ev}(hh:∀o s,(h o s).2.length≤o.sz):∀(l:List Outl) (s:PS),(lstG h l s).2.length≤szs Outl.sz l
 | [],s=>W1 _
 |o::l,s=>by
  have h1:=hh o s;have h2:=lC hh l (h o s).1;rw[lstG,szs,K7];omega
theorem qG{nf:Bs→Bs}:∀(k:Nat) (inn:Int) (l:List Outl) (s:PS),(brgF nf k inn l s).2.length≤szs Outl.sz l
 |0,_,_,_=>W1 _
 |k+1,inn,l,s=>lC (fun o s=>qF (qG k) inn o s) l s
theorem zS{l:List Outl}{i:Nat}{o:Outl}(ho:l[i]? =some o):szs Outl.sz (l.take i)+o.sz≤szs Outl.sz l:=by
 induction l generalizing i with
 |nil=>simp at ho
 |cons x l ih=>cases i with
  |zero=>simp at ho;subst ho;simp[szs]
  |succ i=>
   simp at ho;have:=ih ho;rw[P0,szs,szs];omega
variable (G:Nat→Option (List AVal))
section
variable {s:PS} {H:Heap} {n:Nat}
theorem oz(hn:n+9≤H.length)(hI:s.Inv)(ws:List Ev)(hws:ws.length≤4194304)(j:Heap)(e:Ev)(t:Int)(ht:e.a=t+1)(hb:0≤t∧t≤1048576)
  (hTop:∀X:Heap,n+9≤X.length→Sat (CT G) 67 [.hp (n+8) 0 0 0,.int .i64 e.kind] (so X n s) (fun r h'=>r=.int .i64 t∧h'=so X n s)):
  Sat (CT G) 66 [.agg [.int .i64 e.kind,.int .i64 0,.int .i64 e.b,.int .i64 e.n,.str e.s,.str e.t,.str e.u],.hp H.length 0 0 0,.hp (H.length+1) 0 0 0] (so (exM H n ws j) n s)
   (fun r h'=>r=.bool (s.ok L0 e)∧h'=so (exM H n (ws++if s.ok L0 e then [e]else []) (j++[.row 34 7 0 [e.av]])) n (s.step L0 e)):=by
 have cb:∀N b,Clo N (.bool b):=fun N b=>.bool _
 have hnM:∀{ws:List Ev} {j:Heap},n+9≤(exM H n ws j).length:=by intro ws j;rw[cQ];omega
 have hAp:=fun(X:Heap) (hX:n+9≤X.length)=>ku G s hI e (H:=X) hX
 have hadd:=yp (H:=H) (n:=n) (ws:=ws) (j:=j++[.row 34 7 0 [e.av]]) e;have happ:=gD (H:=H) (n:=n) (ws:=ws) (j:=j) [.row 34 7 0 [e.av]];have hlen:=cQ (H:=H) (n:=n) (ws:=ws) (j:=j);have hlen2:=cQ (H:=H) (n:=n) (ws:=ws++[e]) (j:=j++[.row 34 7 0 [e.av]]);rw[← happ]at hadd;have hnX:n+9≤(exM H n ws j).length:=hnM;obtain⟨X,hX⟩:∃X,exM H n ws j=X:=⟨_,rfl⟩;have r0:getRow X H.length 0=some (27,1,[.hp (n+8) 0 0 0]):=(N5 (fun X=>getRow X (H.length+0) 0) hX).symm.trans (dr 0 0);have r1:getRow X (H.length+1) 0=some (22,1,[.hs (H.length+2) ws.length 0 ws.length true]):=(N5 (fun X=>getRow X (H.length+1) 0) hX).symm.trans (dr 1 0);have r2:getRow X (H.length+2) ws.length=some (34,7,ws.map Ev.av):=((N5 (fun X=>getRow X (H.length+2) ws.length) hX).symm.trans (dr 2 ws.length)).trans (by simp[getRow]);have hmw:(ws.map Ev.av).length=ws.length:=L5 ..;rw[hX]at hadd hlen hnX ⊢;have hXl:H.length+5≤X.length:=by omega
 obtain⟨k,a,b,m,es,et,eu⟩:=e;simp only[]at ht hTop;subst ht;simp only[X9]at hadd hAp happ hlen2;cases hok:s.ok L0 ⟨k,t+1,b,m,es,et,eu⟩with
 |false=>
  have hst:s.step L0 ⟨k,t+1,b,m,es,et,eu⟩=s:=by unfold PS.step;rw[hok];rfl
  rw[hst,hok]at hAp;rw[hst];have F:=F6 r0 r1 r2 @hnX hmw @ax;refine sb [.tmp 4] Tryz.func66 ?_;intro Q hQ;refine wk F ?_;refine kq F (hTop _ (by first|omega| (simp;omega))) ?_;refine kq F (hAp _ (by first|omega| (simp;omega))) ?_;refine ee hQ F ?_;refine za3 (by rw[aQ hnX,aQ (by simp;omega)];simp) (cb _ _) ⟨rfl,?_⟩;rw[← hX];rw[gD]
 |true=>
  have hnS:∀z:PS,n+9≤X.length:=fun _=>hnX
  rw[hok]at hAp;have F:=F6 r0 r1 r2 @hnX hmw @ax;refine sb [.tmp 4] Tryz.func66 ?_;intro Q hQ;refine wk F ?_;refine kq F (hTop _ (by first|omega| (simp;omega))) ?_;refine kq F (hAp _ (by first|omega| (simp;omega))) ?_;refine aq F ?_;try refine sq F ?_
  refine wk F ?_;refine ee hQ F ?_;refine za3 (by rw[aQ hnX,aQ (by simp;omega)];simp) (cb _ _) ⟨rfl,?_⟩;rw[← hadd];simp(disch:=first|omega| (simp;omega)) only[tN]
end
def nfX(t:Bs):Bs:=shortF t 64
theorem zT{H:Heap}{n:Nat}{ws:List Ev}{j j2:Heap}{e m:Nat}{rs:List AVal}:getRow (exM H n ws (j++(.row e m 0 rs::j2))) (H.length+(5+j.length)) 0=some (e,m,rs):=by
 have e1:exM H n ws (j++(.row e m 0 rs::j2))=exM H n ws j++(.row e m 0 rs::j2):=gD _|>.symm
 rw[e1,aS 0 (by rw[cQ];omega)];simp[getRow]
theorem zU(l:List Outl):l.length≤szs Outl.sz l:=by
 induction l with
 |nil=>exact W1 _
 |cons o l ih=>have:=Outl.sz_eq o;rw[szs,L6];omega
section
variable {H:Heap} {n:Nat}
theorem pK(hn:n+9≤H.length):∀(k:Nat) (inn:Int) (l:List Outl) (s:PS) (ws:List Ev) (j:Heap),s.Top2→s.within inn=true→okK k l→ws.length+szs Outl.sz l≤2097152→
  Sat (CT G) 68 [.int .i64 inn,.sl 3 (l.map Outl.av),.hp (H.length+3) 0 0 0,.hp H.length 0 0 0,.hp (H.length+4) 0 0 0] (so (exM H n ws j) n s)
   (fun _ h'=>∃j2,h'=so (exM H n (ws++(brgF nfX k inn l s).2) (j++j2)) n (brgF nfX k inn l s).1):=by
 have ct:∀N,Clo N (.tup []):=fun N=>.tup _ (fun x hx=>by simp at hx)
 have hnM:∀{ws:List Ev} {j:Heap},n+9≤(exM H n ws j).length:=by intro ws j;rw[cQ];omega
 have hnM2:∀(ws:List Ev) (j:Heap),n+9≤(exM H n ws j).length:=fun ws j=>hnM
 have q0:∀(ws:List Ev) (j:Heap),getRow (exM H n ws j) H.length 0=some (27,1,[.hp (n+8) 0 0 0]):=fun ws j=>dr 0 0
 have q3:∀(ws:List Ev) (j:Heap),getRow (exM H n ws j) (H.length+3) 0=some (32,1,[.fn (.func 66) [] [.hp H.length 0 0 0,.hp (H.length+1) 0 0 0]]):=fun ws j=>dr 3 0
 have q4:∀(ws:List Ev) (j:Heap),getRow (exM H n ws j) (H.length+4) 0=some (120,1,[.fn (.func 68) [] [.hp (H.length+3) 0 0 0,.hp H.length 0 0 0,.hp (H.length+4) 0 0 0]]):=fun ws j=>dr 4 0
 have qa:∀(ws:List Ev) (j j':Heap),exM H n ws j++j'=exM H n ws (j++j'):=fun ws j j'=>gD j'
 have ql:∀(ws:List Ev) (j:Heap),(exM H n ws j).length=H.length+(5+j.length):=fun ws j=>by rw[cQ];omega
 have qt:∀(ws:List Ev) (j j2:Heap) (e m:Nat) (rs:List AVal),getRow (exM H n ws (j++(.row e m 0 rs::j2))) (H.length+(5+j.length)) 0=some (e,m,rs):=fun ws j j2 e m rs=>zT
 intro k;induction k with
 |zero=>
  intro inn l s ws j T hw hk hsz;have hk:l=[]:=hk;subst hk;have e0:(brgF nfX 0 inn [] s)=(s,[]):=rfl;rw[e0];refine sb [] Tryz.func68 ?_;intro Q hQ;refine wk trivial ?_;refine lm (fun nL tL hL=>∃(i:Nat),0-i=nL∧so (exM H n ws j) n s=hL∧tL 14=.int .i64 i∧i≤0) ((fun(i:Nat)=>(0-i:Nat)) (0)) ?_ ?_
  ·refine L8 ⟨0,rfl,aw,?_,M0 0⟩;all_goals try exact zZz trivial
  rintro _ s2 h' ⟨i,rfl,rfl,e14,hi⟩ K2 hK2;simp only[ah,ao,Nat.reduceEqDiff, ↓reduceIte]at e14;have F:=e14;refine wk F ?_;refine cq F (fun c1=>?_) (fun c1=>?_)<;>(try exact c1.elim)<;>(refine wk F ?_)
  ·exact absurd c1 (by omega)
  refine ee hQ F ?_;exact za3 (M0 _) (ct _) ⟨[],by simp⟩
 |succ k ih=>
  intro inn l s ws j T hw hk hsz;have hbb:∀inn l s,s.Top2→s.within inn=true→Br s (brgF nfX k inn l s):=fun inn l s T hw=>kH k inn l s T hw
  have hh:∀o s,s.Top2→s.within inn=true→Br s (oneG nfX (brgF nfX k) inn o s):=fun o s T hw=>kF hbb T hw o
  have hbr:brgF nfX (k+1) inn l s=lstG (oneG nfX (brgF nfX k) inn) l s:=rfl;rw[hbr];have hlen:=lC (h:=oneG nfX (brgF nfX k) inn) (fun o s=>qF (nf:=nfX) (g:=brgF nfX k) (qG (nf:=nfX) k) inn o s);have hll:=zU l;have hml:(l.map Outl.av).length=l.length:=L5 ..;have F:=hml;refine sb [] Tryz.func68 ?_;intro Q hQ;refine wk F ?_;refine lm (fun nL tL hL=>∃(i:Nat) (j2:Heap),l.length-i=nL∧so (exM H n (ws++(lstG (oneG nfX (brgF nfX k) inn) (l.take i) s).2) (j++j2)) n (lstG (oneG nfX (brgF nfX k) inn) (l.take i) s).1=hL∧tL 14=.int .i64 i∧i≤l.length) ((fun(i:Nat) (j2:Heap)=>(l.length-i:Nat)) (0) ([])) ?_ ?_
  ·refine L8 ⟨0,[],rfl,by rw[O1,Q8,lstG,O1],?_,by omega⟩;all_goals try exact zZz F
  rintro _ s2 h' ⟨i,j2,rfl,rfl,e14,hi⟩ K2 hK2;simp only[ah,ao,Nat.reduceEqDiff, ↓reduceIte]at e14;have F:=F2 F e14;by_cases c2:i<l.length
  ·have d2:=N7 c2;obtain⟨o,ho,hom⟩:=ac c2;have hm:(l.map Outl.av)[i]? =some o.av:=(by rw[M5,ho];rfl);have hst:=yq (oneG nfX (brgF nfX k) inn) ho s;have b1:=kG hh (l.take i) s T hw;have w1:=sP (b1.r.gr T).1 hw;have T1:=b1.t;have hl1:=hlen (l.take i) s;have hzo:=zS ho;have hoz:=Outl.sz_eq o;have hok:=hk o hom;generalize lstG (oneG nfX (brgF nfX k) inn) (l.take i) s=p at*;obtain⟨s1,es1⟩:=p;simp only[]at hst T1 w1 hl1 ⊢;obtain⟨J,hJ⟩:∃J,j++j2=J:=⟨_,rfl⟩;rw[hJ];obtain⟨ot,ou,ks⟩:=o;have hot:ot.length≤256:=by
    have:=hok.1;unfold oneOk at this;simp only[K5]at this;have:=this.1.1.2;unfold textO at this;simp only[K5,K8]at this;exact this.1.1
   have f1:(Outl.mk ot ou ks).av=.agg [.str ot,.str ou,.sl 3 (ks.map Outl.av)]:=Outl.av_eq _;rw[f1]at hm;have hzk:szs Outl.sz ks≤(Outl.mk ot ou ks).sz:=(by rw[hoz];show szs Outl.sz ks≤1+ot.length+ou.length+szs Outl.sz ks;omega);have hzk1:szs Outl.sz ks+1≤(Outl.mk ot ou ks).sz:=(by rw[hoz];show szs Outl.sz ks+1≤1+ot.length+ou.length+szs Outl.sz ks;omega);have hoe:oneG nfX (brgF nfX k) inn (Outl.mk ot ou ks) s1=if ou≠ []then putF s1 (evFe s1 inn (Outl.mk ot ou ks))
     else if foId s1 inn (shortF ot 64)≠0 then brgF nfX k (foId s1 inn (shortF ot 64)) ks s1
     else if s1.ok L0 (evFo s1 inn (shortF ot 64))then((brgF nfX k (s1.t1+1) ks (s1.step L0 (evFo s1 inn (shortF ot 64)))).1,evFo s1 inn (shortF ot 64)::(brgF nfX k (s1.t1+1) ks (s1.step L0 (evFo s1 inn (shortF ot 64)))).2)
     else brgF nfX k inn ks s1:=rfl
   rw[hoe]at hst;have hSh:=jh G ot 64 (by omega) (by omega);have bz:=T1.ze;have bo:=T1.zo;have hlw:(ws++es1).length≤4194304:=(by rw[K7];omega);have hap:=fun(ws:List Ev) (J:Heap)=>(gD (H:=H) (n:=n) (ws:=ws) (j:=J) [.row 55 3 0 [.agg [.str ot,.str ou,.sl 3 (ks.map Outl.av)]]]).symm
   have hnX:=hnM2 (ws++es1) J;have x0:=q0 (ws++es1) J;have x3:=q3 (ws++es1) J;have x4:=q4 (ws++es1) J;have xl:=ql (ws++es1) J;have yo:∀(w:List Ev) (j2:Heap),getRow (exM H n w (J++[.row 55 3 0 [.agg [.str ot,.str ou,.sl 3 (ks.map Outl.av)]]]++j2)) (exM H n (ws++es1) J).length 0=some (55,3,[.agg [.str ot,.str ou,.sl 3 (ks.map Outl.av)]]):=fun w j2=>by
    rw[xl,P1];exact qt w J j2 _ _ _
   have hFo:=fun(X:Heap) (hX:n+9≤X.length)=>pJ G (H:=X) (n:=n) T1 hX inn (shortF ot 64)
   obtain⟨X,hX⟩:∃X,exM H n (ws++es1) J=X:=⟨_,rfl⟩;have hX1:exM H n (ws++es1) (J++[.row 55 3 0 [.agg [.str ot,.str ou,.sl 3 (ks.map Outl.av)]]])=X++[.row 55 3 0 [.agg [.str ot,.str ou,.sl 3 (ks.map Outl.av)]]]:=(by rw[hap,hX]);rw[hX]at hnX x0 x3 x4 xl yo ⊢;have hXl:H.length+5≤X.length:=(by omega);by_cases hu:ou=[]
   ·have qu:(ou==([]:Bs))=true:=(by simp[hu]);rw[K4 (by simp[hu])]at hst;by_cases h0:foId s1 inn (shortF ot 64)=0
    ·have qf:(foId s1 inn (shortF ot 64) !=0)=false:=(by simp[h0]);rw[K4 (by simp[h0])]at hst;have hPu:=oz G hn T1.i (ws++es1) hlw (J++[.row 55 3 0 [.agg [.str ot,.str ou,.sl 3 (ks.map Outl.av)]]]) (evFo s1 inn (shortF ot 64)) s1.t1 rfl ⟨T1.zo,T1.mo⟩ (fun X hX=>kM G hX);rw[hX1]at hPu;cases hok1:s1.ok L0 (evFo s1 inn (shortF ot 64))with
     |true=>
      have g1:=kE T1 hok1;obtain⟨he,c8,hst1⟩:=qD hok1;have ht1:(s1.step L0 (evFo s1 inn (shortF ot 64))).t1=s1.t1+1:=(by rw[hst1]);have wi:(s1.step L0 (evFo s1 inn (shortF ot 64))).within (s1.t1+1)=true:=(by unfold PS.within;rw[g1.2.2.2];simp);have hIH:=ih (s1.t1+1) ks (s1.step L0 (evFo s1 inn (shortF ot 64))) (ws++es1++[evFo s1 inn (shortF ot 64)]) (J++[.row 55 3 0 [.agg [.str ot,.str ou,.sl 3 (ks.map Outl.av)]]]++[.row 34 7 0 [(evFo s1 inn (shortF ot 64)).av]]) g1.2.1 wi hok.2 (by simp only[K7,Y8];omega);rw[hok1]at hPu;have hPu:Sat (CT G) 66 [.agg [.int .i64 1,.int .i64 0,.int .i64 inn,.int .i64 0,.str (shortF ot 64),.str [],.str []],.hp H.length 0 0 0,.hp (H.length+1) 0 0 0] (so (X++[.row 55 3 0 [.agg [.str ot,.str ou,.sl 3 (ks.map Outl.av)]]]) n s1)
       (fun r h'=>r=.bool true∧h'=so (exM H n (ws++es1++[evFo s1 inn (shortF ot 64)]) (J++[.row 55 3 0 [.agg [.str ot,.str ou,.sl 3 (ks.map Outl.av)]]]++[.row 34 7 0 [(evFo s1 inn (shortF ot 64)).av]])) n (s1.step L0 (evFo s1 inn (shortF ot 64)))):=hPu
      have hnY:=hnM2 (ws++es1++[evFo s1 inn (shortF ot 64)]) (J++[.row 55 3 0 [.agg [.str ot,.str ou,.sl 3 (ks.map Outl.av)]]]++[.row 34 7 0 [(evFo s1 inn (shortF ot 64)).av]]);have y0:=q0 (ws++es1++[evFo s1 inn (shortF ot 64)]) (J++[.row 55 3 0 [.agg [.str ot,.str ou,.sl 3 (ks.map Outl.av)]]]++[.row 34 7 0 [(evFo s1 inn (shortF ot 64)).av]]);have y4:=q4 (ws++es1++[evFo s1 inn (shortF ot 64)]) (J++[.row 55 3 0 [.agg [.str ot,.str ou,.sl 3 (ks.map Outl.av)]]]++[.row 34 7 0 [(evFo s1 inn (shortF ot 64)).av]]);have y8:=yo (ws++es1++[evFo s1 inn (shortF ot 64)]) [.row 34 7 0 [(evFo s1 inn (shortF ot 64)).av]];generalize exM H n (ws++es1++[evFo s1 inn (shortF ot 64)]) (J++[.row 55 3 0 [.agg [.str ot,.str ou,.sl 3 (ks.map Outl.av)]]]++[.row 34 7 0 [(evFo s1 inn (shortF ot 64)).av]])=Y at hPu hIH hnY y0 y4 y8;have hTo:=kM G (s:=s1.step L0 (evFo s1 inn (shortF ot 64))) hnY;rw[ht1]at hTo;rw[hok1,L7 rfl]at hst;have F:=F2 (F9 F qu @za1 qf x0 x3 x4 y0 y4) (F7 y8 @hnX hm ho d2 c2 @ax);(try refine sq F ?_);refine wk F ?_;refine kq F (hSh _) ?_;refine kq F (hFo _ (by simp;omega)) ?_;refine kq F (hPu) ?_;refine kq F (hTo) ?_;refine hIH.mono ?_;rintro r h' ⟨j3,rfl⟩;(try refine sq F ?_);refine wk F ?_;refine hK2 _ _ _ (L8 ⟨i+1,j2++([.row 55 3 0 [.agg [.str ot,.str ou,.sl 3 (ks.map Outl.av)]]]++([.row 34 7 0 [(evFo s1 inn (shortF ot 64)).av]]++j3)),rfl,by rw[hst, ← hJ];simp only[P1,Q7,O5,X9],?_,by omega⟩) (by omega);all_goals try exact zZz F
     |false=>
      have hsp:s1.step L0 (evFo s1 inn (shortF ot 64))=s1:=(by unfold PS.step;rw[hok1];rfl);have hIH:=ih inn ks s1 (ws++es1) (J++[.row 55 3 0 [.agg [.str ot,.str ou,.sl 3 (ks.map Outl.av)]]]++[.row 34 7 0 [(evFo s1 inn (shortF ot 64)).av]]) T1 w1 hok.2 (by rw[K7];omega);rw[hok1,hsp]at hPu;have hPu:Sat (CT G) 66 [.agg [.int .i64 1,.int .i64 0,.int .i64 inn,.int .i64 0,.str (shortF ot 64),.str [],.str []],.hp H.length 0 0 0,.hp (H.length+1) 0 0 0] (so (X++[.row 55 3 0 [.agg [.str ot,.str ou,.sl 3 (ks.map Outl.av)]]]) n s1)
       (fun r h'=>r=.bool false∧h'=so (exM H n (ws++es1++[]) (J++[.row 55 3 0 [.agg [.str ot,.str ou,.sl 3 (ks.map Outl.av)]]]++[.row 34 7 0 [(evFo s1 inn (shortF ot 64)).av]])) n s1):=hPu
      rw[O1]at hPu;have hnY:=hnM2 (ws++es1) (J++[.row 55 3 0 [.agg [.str ot,.str ou,.sl 3 (ks.map Outl.av)]]]++[.row 34 7 0 [(evFo s1 inn (shortF ot 64)).av]]);have y0:=q0 (ws++es1) (J++[.row 55 3 0 [.agg [.str ot,.str ou,.sl 3 (ks.map Outl.av)]]]++[.row 34 7 0 [(evFo s1 inn (shortF ot 64)).av]]);have y4:=q4 (ws++es1) (J++[.row 55 3 0 [.agg [.str ot,.str ou,.sl 3 (ks.map Outl.av)]]]++[.row 34 7 0 [(evFo s1 inn (shortF ot 64)).av]]);have y8:=yo (ws++es1) [.row 34 7 0 [(evFo s1 inn (shortF ot 64)).av]];generalize exM H n (ws++es1) (J++[.row 55 3 0 [.agg [.str ot,.str ou,.sl 3 (ks.map Outl.av)]]]++[.row 34 7 0 [(evFo s1 inn (shortF ot 64)).av]])=Y at hPu hIH hnY y0 y4 y8;rw[hok1,K4 (by simp)]at hst;have F:=F2 (F9 F qu @za1 qf x0 x3 x4 y0 y4) (F7 y8 @hnX hm ho d2 c2 @ax);(try refine sq F ?_);refine wk F ?_;refine kq F (hSh _) ?_;refine kq F (hFo _ (by simp;omega)) ?_;refine kq F (hPu) ?_;refine hIH.mono ?_;rintro r h' ⟨j3,rfl⟩;(try refine sq F ?_);refine wk F ?_;refine hK2 _ _ _ (L8 ⟨i+1,j2++([.row 55 3 0 [.agg [.str ot,.str ou,.sl 3 (ks.map Outl.av)]]]++([.row 34 7 0 [(evFo s1 inn (shortF ot 64)).av]]++j3)),rfl,by rw[hst, ← hJ];simp only[P1,Q7,O5,X9],?_,by omega⟩) (by omega);all_goals try exact zZz F
    ·have qf:(foId s1 inn (shortF ot 64) !=0)=true:=(by simp[h0]);have hIH:=ih (foId s1 inn (shortF ot 64)) ks s1 (ws++es1) (J++[.row 55 3 0 [.agg [.str ot,.str ou,.sl 3 (ks.map Outl.av)]]]) T1 (sQ T1 rfl h0) hok.2 (by rw[K7];omega);rw[hX1]at hIH;rw[L7 h0]at hst;have F:=F2 (F9 F qu @za1 qf x0 x3 x4 @hnX hm) (F4 ho d2 c2 @ax);(try refine sq F ?_);refine wk F ?_;refine kq F (hSh _) ?_;refine kq F (hFo _ (by simp;omega)) ?_;refine hIH.mono ?_;rintro r h' ⟨j3,rfl⟩;(try refine sq F ?_);refine wk F ?_;refine hK2 _ _ _ (L8 ⟨i+1,j2++([.row 55 3 0 [.agg [.str ot,.str ou,.sl 3 (ks.map Outl.av)]]]++j3),rfl,by rw[hst, ← hJ];simp only[P1,Q7,O5,X9],?_,by omega⟩) (by omega);all_goals try exact zZz F
   ·have qu:(ou==([]:Bs))=false:=(by simp[hu]);rw[L7 hu]at hst;have hPu:=oz G hn T1.i (ws++es1) hlw (J++[.row 55 3 0 [.agg [.str ot,.str ou,.sl 3 (ks.map Outl.av)]]]) (evFe s1 inn (Outl.mk ot ou ks)) s1.t2 rfl ⟨T1.ze,T1.me⟩ (fun X hX=>sU G hX);rw[hX1]at hPu;have hpf:putF s1 (evFe s1 inn (Outl.mk ot ou ks))=(s1.step L0 (evFe s1 inn (Outl.mk ot ou ks)),if s1.ok L0 (evFe s1 inn (Outl.mk ot ou ks))then [evFe s1 inn (Outl.mk ot ou ks)]else []):=by
     unfold putF PS.step;split<;>rfl
    rw[hpf]at hst;have hPu:Sat (CT G) 66 [.agg [.int .i64 3,.int .i64 0,.int .i64 inn,.int .i64 0,.str ou,.str ot,.str []],.hp H.length 0 0 0,.hp (H.length+1) 0 0 0] (so (X++[.row 55 3 0 [.agg [.str ot,.str ou,.sl 3 (ks.map Outl.av)]]]) n s1)
     (fun r h'=>r=.bool (s1.ok L0 (evFe s1 inn (Outl.mk ot ou ks)))∧h'=so (exM H n (ws++es1++if s1.ok L0 (evFe s1 inn (Outl.mk ot ou ks))then [evFe s1 inn (Outl.mk ot ou ks)]else []) (J++[.row 55 3 0 [.agg [.str ot,.str ou,.sl 3 (ks.map Outl.av)]]]++[.row 34 7 0 [(evFe s1 inn (Outl.mk ot ou ks)).av]])) n (s1.step L0 (evFe s1 inn (Outl.mk ot ou ks)))):=hPu
    obtain⟨Y,hY⟩:∃Y,so (exM H n (ws++es1++if s1.ok L0 (evFe s1 inn (Outl.mk ot ou ks))then [evFe s1 inn (Outl.mk ot ou ks)]else []) (J++[.row 55 3 0 [.agg [.str ot,.str ou,.sl 3 (ks.map Outl.av)]]]++[.row 34 7 0 [(evFe s1 inn (Outl.mk ot ou ks)).av]])) n (s1.step L0 (evFe s1 inn (Outl.mk ot ou ks)))=Y:=⟨_,rfl⟩;rw[hY]at hPu;have F:=F2 (F9 F qu @Bool.not_false x0 x3 x4 @hnX hm ho) (F3 d2 c2 @ax);(try refine sq F ?_);refine wk F ?_;refine kq F (hPu) ?_;refine hK2 _ _ _ (L8 ⟨i+1,j2++([.row 55 3 0 [.agg [.str ot,.str ou,.sl 3 (ks.map Outl.av)]]]++[.row 34 7 0 [(evFe s1 inn (Outl.mk ot ou ks)).av]]),rfl,by rw[← hY,hst, ← hJ];simp only[P1,Q7,O5,X9],?_,by omega⟩) (by omega);all_goals try exact zZz F
  ·have d2:=N8 c2;rw[M4 (by omega)];have F:=F2 F d2;(try refine sq F ?_);refine wk F ?_;refine ee hQ F ?_;exact za3 (by rw[aQ hnM,aQ hnM,cQ,cQ];simp) (ct _) ⟨j2,rfl⟩
end
end
section
def PS.okR(s:PS)(e:Ev):Bool:=s.fits (L0.right e) (s.dpt e.b) e
def PS.stR(s:PS)(e:Ev):PS:=if s.okR e then s.aft e else s
theorem uO(s:PS)(inn:Int)(o:Outl):s.ok L0 (evFe s inn o)=s.okR (evFe s inn o):=by
 have h:usedE (evFe s inn o)=evFe s inn o:=rfl;unfold PS.ok PS.okR Leaf.ck;rw[h];simp
theorem uP(s:PS)(inn:Int)(t:Bs):s.ok L0 (evFo s inn t)=s.okR (evFo s inn t):=by
 have h:usedE (evFo s inn t)=evFo s inn t:=rfl;unfold PS.ok PS.okR Leaf.ck;rw[h];simp
theorem zV(s:PS)(inn:Int)(o:Outl):s.step L0 (evFe s inn o)=s.stR (evFe s inn o):=by unfold PS.step PS.stR;rw[uO]
theorem zW(s:PS)(inn:Int)(t:Bs):s.step L0 (evFo s inn t)=s.stR (evFo s inn t):=by unfold PS.step PS.stR;rw[uP]
def oneR(nf:Bs→Bs)(g:Int→List Outl→PS→PS×List Ev)(inn:Int)(o:Outl)(s:PS):PS×List Ev:=
 if o.url≠ []then(if s.okR (evFe s inn o)then(s.stR (evFe s inn o),[evFe s inn o])else(s,[]))
 else if foId s inn (nf o.title)≠0 then g (foId s inn (nf o.title)) o.kids s
 else if s.okR (evFo s inn (nf o.title))then((g (s.t1+1) o.kids (s.stR (evFo s inn (nf o.title)))).1,evFo s inn (nf o.title)::(g (s.t1+1) o.kids (s.stR (evFo s inn (nf o.title)))).2)
 else g inn o.kids s
def brgR(nf:Bs→Bs):Nat→Int→List Outl→PS→PS×List Ev
 |0,_,_,s=>(s,[])
 |k+1,inn,l,s=>lstG (oneR nf (brgR nf k) inn) l s
theorem yt(nf:Bs→Bs)(g:Int→List Outl→PS→PS×List Ev)(inn:Int)(o:Outl)(s:PS):oneG nf g inn o s=oneR nf g inn o s:=by
 unfold oneG oneR putF;rw[uO,uP,zV,zW]
theorem qH(nf:Bs→Bs):∀(k:Nat),brgF nf k=brgR nf k
 |0=>rfl
 |k+1=>by
  funext inn l s
  rw[brgF,brgR,qH nf k];congr 1
  funext o s
  exact yt nf _ inn o s
def bTech:Bs:=[116,101,99,104]
def o24:Outl:=⟨bTech,[],[⟨[65],[117],[]⟩]⟩
def l24:List Outl:=[o24,⟨bTech,[],[]⟩]
def w24:List Ev:=[⟨1,1,0,0,bTech,[],[]⟩,⟨3,1,1,0,[117],[65],[]⟩]
def s24:PS:=(brgR nfX 8 0 l24 PS.z).1
theorem nc:brgF nfX 8 0 l24 PS.z=(s24,w24):=by
 rw[qH];have h:(brgR nfX 8 0 l24 PS.z).2=w24:=by kernel_rfl
 rw[← h];rfl
theorem zX:brgF nfX 8 0 l24 s24=(s24,[]):=by
 have h1:=mz (nf:=nfX) 8 0 l24 PS.z s24 PS.Top2.z0 rfl (by rw[nc];exact .refl _);exact h1
theorem lD:s24.Top2:=by
 have:=(kH (nf:=nfX) 8 0 l24 PS.z PS.Top2.z0 rfl).t;rw[nc]at this;exact this
theorem mB{α:Type}(z:α)(k:Int)(a:α)(n:Nat):valsM z [(k,a,n)]=[a]:=by
 unfold valsM sortI;rw[N4,R1,List.mergeSort_singleton];simp[lkM]
def x24:St:=⟨0,[⟨1,0,bTech⟩],[⟨1,1,[117],[65]⟩],[],[],1,1,0,0⟩
theorem x5:s24.tell=x24:=by
 have h1:s24.fo=[(1,⟨1,0,bTech⟩,0)]:=by kernel_rfl
 have h2:s24.fe=[(1,⟨1,1,[117],[65]⟩,0)]:=by kernel_rfl
 have h3:s24.it=[]:=by kernel_rfl
 have h4:s24.se=[]:=by kernel_rfl
 have h5:s24.clock=0:=by kernel_rfl
 have h6:s24.t1=1:=by kernel_rfl
 have h7:s24.t2=1:=by kernel_rfl
 have h8:s24.t3=0:=by kernel_rfl
 have h9:s24.t4=0:=by kernel_rfl
 unfold PS.tell;rw[h1,h2,h3,h4,h5,h6,h7,h8,h9,mB,mB];simp[valsM,sortI,x24]
end
section
attribute [local irreducible] WP WPl WPix Sat
theorem yu(e:Ev):∀c∈e.av.cells,c.sto=true:=by
 intro c hc;simp only[Ev.av,AVal.cells,N0,T8,or_false]at hc;rcases hc with rfl|rfl|rfl|rfl|rfl|rfl|rfl<;>rfl
variable (G:Nat→Option (List AVal))
section
variable {s:PS} {H:Heap} {n:Nat}
theorem ji(hn:n+9≤H.length)(T:s.Top2)(l:List Outl)(hk:okK 8 l)(hz:szs Outl.sz l≤2097152):
  Sat (CT G) 36 [.hp (n+8) 0 0 0,.sl 3 (l.map Outl.av)] (so H n s) (fun r h'=>r=.sl 7 ((brgF nfX 8 0 l s).2.map Ev.av)∧h'=so H n (brgF nfX 8 0 l s).1):=by
 have hW:Sat (CT G) 68 [.int .i64 0,.sl 3 (l.map Outl.av),.hp (H.length+3) 0 0 0,.hp H.length 0 0 0,.hp (H.length+4) 0 0 0] (so (H++[Blk.row 27 1 0 [.hp (n+8) 0 0 0],.row 22 1 0 [.hs (H.length+2) 0 0 0 true],.row 34 7 0 [],
  .row 32 1 0 [.fn (.func 66) [] [.hp H.length 0 0 0,.hp (H.length+1) 0 0 0]],
  .row 120 1 0 [.fn (.func 68) [] [.hp (H.length+3) 0 0 0,.hp H.length 0 0 0,.hp (H.length+4) 0 0 0]]]) n s)
   (fun _ h'=>∃j2,h'=so (exM H n (brgF nfX 8 0 l s).2 j2) n (brgF nfX 8 0 l s).1):=pK G hn 8 0 l s [] [] T rfl hk (by simpa using hz)
 generalize brgF nfX 8 0 l s=p at*;obtain⟨z,ws⟩:=p;simp only[]at hW ⊢;have F:= @ax;refine sb [.tmp 4] Tryz.func36 ?_;intro Q hQ;(repeat (first|refine w1 (fun K hK=>?_)|refine w2 ?_|refine w3 ?_| ((first|refine w4 ?_|refine wD ?_|refine w5 ?_|refine w6 ?_|refine w7 ?_);try refine sq F ?_)| (refine w8 ?_;refine sq F ?_;refine w9 ?_)))
 refine hK _ _ (L8 ?_);clear hK K;(repeat (first|refine w1 (fun K hK=>?_)|refine w2 ?_|refine w3 ?_| ((first|refine w4 ?_|refine wD ?_|refine w5 ?_|refine w6 ?_|refine w7 ?_);try refine sq F ?_)| (refine w8 ?_;refine sq F ?_;refine w9 ?_)))
 refine hK _ _ ⟨_,_,Weak.virtCell1 (p:=H.length+1) (v:=0) 34 7 (by omega) (by simp(disch:=first|omega| (simp only[go_sem, ↓reduceIte,seval];first|done|omega)|fail) only[go_sem, ↓reduceIte,seval,F];rfl),?_⟩;clear hK K;try refine sq F ?_
 (repeat (first|refine w1 (fun K hK=>?_)|refine w2 ?_|refine w3 ?_| ((first|refine w4 ?_|refine wD ?_|refine w5 ?_|refine w6 ?_|refine w7 ?_);try refine sq F ?_)| (refine w8 ?_;refine sq F ?_;refine w9 ?_)| ((first|refine hK _ _ (w0 ?_)| (clear hK K;refine hK _ _ (w0 ?_))| (clear hK K;clear hK K;refine hK _ _ (w0 ?_)));clear hK K)))
 refine hW.mono ?_;rintro r h' ⟨j2,rfl⟩;have hnM:n+9≤(exM H n ws j2).length:=by rw[cQ];omega
 have q1:getRow (exM H n ws j2) (H.length+1) 0=some (22,1,[.hs (H.length+2) ws.length 0 ws.length true]):=dr 1 0;have q2:getRow (exM H n ws j2) (H.length+2) ws.length=some (34,7,ws.map Ev.av):=(dr 2 ws.length).trans (by simp[getRow]);have F:=F3 F q1 @hnM;try refine sq F ?_
 (repeat (first|refine w1 (fun K hK=>?_)|refine w2 ?_|refine w3 ?_| ((first|refine w4 ?_|refine wD ?_|refine w5 ?_|refine w6 ?_|refine w7 ?_);try refine sq F ?_)| (refine w8 ?_;refine sq F ?_;refine w9 ?_)| ((first|refine hK _ _ (w0 ?_)| (clear hK K;refine hK _ _ (w0 ?_))| (clear hK K;clear hK K;refine hK _ _ (w0 ?_)));clear hK K)))
 refine ee hQ F ?_;unfold exM at hnM q2 ⊢;exact ci hn (Z5 (by omega) (by rw[bM hnM _ (by omega)];exact q2) (by simp) (fun r hr=>by obtain⟨e,_,rfl⟩:=M7.1 hr;exact Ev.clo _ e) (fun r hr=>by obtain⟨e,_,rfl⟩:=M7.1 hr;exact yu e)) ⟨rfl,rfl⟩
end
theorem qI{h j:Heap}{n:Nat}{s:PS}(hm:n+9≤(h++j).length)(hh:h.length≤n):∃j',so (h++j) n s=h++j':=by
 refine⟨(so (h++j) n s).drop h.length,?_⟩;have hl:=aQ (s:=s) hm
 apply S7
 intro p;by_cases hp:p<h.length
 ·rw[L9 hp];unfold so;rw[nT (by show n+9≤_;omega) (.inl (by omega)),L9 hp]
 ·rw[M1 (by omega),P4];congr 1
  omega
def okX(l:List Outl):Bool:=decide (cntN 8 l≤512)
theorem pL(l:List Outl)(hl:OkN 8 l)(h:Heap):Sat (CT G) 31 [.sl 3 (l.map Outl.av)] h (fun r h'=>r=.int .i64 (if okX l then 0 else 130)∧h'=h):=by
 have hc:=lE 8 l;refine sb [.tmp 2] Tryz.func31 ?_;intro Q hQ;refine wk trivial ?_;refine kq trivial (kO G 8 1 (by omega) l hl _) ?_;refine cq trivial (fun c1=>?_) (fun c1=>?_)<;>(try exact c1.elim)<;>(refine wk trivial ?_)
 ·refine ee hQ trivial ?_;refine fR (.int _ _) ?_;rw[K4 (by unfold okX;simp;omega)]
 ·refine ee hQ trivial ?_;refine fR (.int _ _) ?_;rw[L7 (by unfold okX;simp;omega)]
def CloneC:Prop:=∀(s:PS) (X:Heap) (n:Nat),s.Inv→n+9≤X.length→Sat (CT G) 37 [.hp (n+8) 0 0 0] (so X n s) (fun r h'=>r=.hp (X.length+8) 0 0 0∧h'=so (so X n s++PS.z.bl X.length) X.length s)
def exF(s:PS)(l:List Outl):List Ev×Int:=if okX l then((brgF nfX 8 0 l s).2,0)else([],130)
def exR(p:List Ev×Int):AVal:=.tup [.sl 7 (p.1.map Ev.av),.int .i64 p.2]
theorem qJ(N:Nat)(p:List Ev×Int):Clo N (exR p):=.tup _ fun x hx=>by
 simp only[N0,T8,or_false]at hx;rcases hx with rfl|rfl
 ·exact .sl _ _ fun x hx=>by obtain⟨e,_,rfl⟩:=M7.1 hx;exact Ev.clo _ e
 ·exact .int _ _
theorem iX(Z:Heap)(n:Nat)(c:Int):Frz Z n (.tup [.nil (.slice none 0 0),.int .i64 c]) (exR ([],c)):=FrzL.tup (.cons (.nils 7) (.cons (.clo _ (.int _ _)) .nil))
section
variable {s:PS} {X:Heap} {n:Nat}
theorem kP(hC:CloneC G)(hn:n+9≤X.length)(T:s.Top2)(l:List Outl)(hl:OkN 8 l)(hz:szs Outl.sz l≤2097152):
  Sat (CT G) 12 [.hp (n+8) 0 0 0,.sl 3 (l.map Outl.av)] (so X n s) (fun r h'=>r=exR (exF s l)∧h'=so X n s):=by
 have hCk:=pL G l hl;have hCl:=hC s X n T.i hn;unfold exF;cases hk:okX l with
 |false=>
  rw[hk]at hCk;have hCk:∀h,Sat (CT G) 31 [.sl 3 (l.map Outl.av)] h (fun r h'=>r=.int .i64 130∧h'=h):=hCk;refine sb [.tmp 4,.tmp 5] Tryz.func12 ?_;intro Q hQ;refine wk trivial ?_;refine kq trivial (hCk _) ?_;refine ye hQ trivial ?_;have:=ci (j:=[]) (s:=s) (s':=s) (R:=fun r h'=>r=exR ([],130)∧h'=so X n s) hn (iX (so (X++[]) n s) X.length 130) ⟨rfl,rfl⟩;rw[O1]at this;exact this
 |true=>
  rw[hk]at hCk;have hCk:∀h,Sat (CT G) 31 [.sl 3 (l.map Outl.av)] h (fun r h'=>r=.int .i64 0∧h'=h):=hCk;have hlz:(so X n s++PS.z.bl X.length).length=X.length+9:=by rw[K7,aQ hn];rfl
  have hB:=ji G (s:=s) (H:=so X n s++PS.z.bl X.length) (n:=X.length) (by omega) T l (sR 8 l (R8 hk)) hz;obtain⟨j',hj'⟩:=qI (h:=so X n s) (j:=PS.z.bl X.length) (n:=X.length) (s:=(brgF nfX 8 0 l s).1) (by omega) (by rw[aQ hn];omega);rw[hj',bD hn]at hB;rw[bD hn]at hB;refine sb [.tmp 4,.tmp 5] Tryz.func12 ?_;intro Q hQ;refine wk trivial ?_;refine kq trivial (hCk _) ?_;refine kq trivial (hCl) ?_;refine kq trivial (hB) ?_;refine ye hQ trivial ?_;exact ci (s':=s) hn (.clo _ (qJ _ (_,_))) ⟨rfl,rfl⟩
end
section
variable {s:PS} {X:Heap} {n:Nat}
def rowC(s:PS)(m:Nat):AVal:=.agg [.int .i64 s.clock,.hm m,.hm (m+1),.hm (m+2),.hm (m+3),.hm (m+4),.hm (m+5),.hm (m+6),.hm (m+7),.int .i64 s.t1,.int .i64 s.t2,.int .i64 s.t3,.int .i64 s.t4]
def mpsC(s:PS):List Blk:=[.mp (encM iA Fo.av s.fo) s.c1,.mp (encM iA Fe.av s.fe) s.c2,.mp (encM iA It.av s.it) s.c3,.mp (encM iA Se.av s.se) s.c4,
 .mp (encM nA iA s.nm) s.c5,.mp (encM AVal.str iA s.pl) s.c6,.mp (encM nA iA s.gu) s.c7,.mp (encM iA iA s.he) s.c8]
theorem oB(s:PS)(hn:n+9≤X.length):Sat (CT G) 37 [.hp (n+8) 0 0 0] (so X n s) (fun r h'=>r=.hp (so X n s).length 0 0 0∧h'=so X n s++ .row 83 13 0 [rowC s (X.length+1)]::mpsC s):=by
 have h1:=fun {h:Heap} {es c} (hm:mapAt h n=some (es,c))=>bE (C:=CT G) (f:=71) Tryz.mcl71 rfl Tryz.func71 (by kernel_rfl) (by kernel_rfl) hm
 have h2:=fun {h:Heap} {es c} (hm:mapAt h (n+1)=some (es,c))=>bE (C:=CT G) (f:=72) Tryz.mcl72 rfl Tryz.func72 (by kernel_rfl) (by kernel_rfl) hm
 have h3:=fun {h:Heap} {es c} (hm:mapAt h (n+2)=some (es,c))=>bE (C:=CT G) (f:=73) Tryz.mcl73 rfl Tryz.func73 (by kernel_rfl) (by kernel_rfl) hm
 have h4:=fun {h:Heap} {es c} (hm:mapAt h (n+3)=some (es,c))=>bE (C:=CT G) (f:=74) Tryz.mcl74 rfl Tryz.func74 (by kernel_rfl) (by kernel_rfl) hm
 have h5:=fun {h:Heap} {es c} (hm:mapAt h (n+4)=some (es,c))=>bE (C:=CT G) (f:=75) Tryz.mcl75 rfl Tryz.func75 (by kernel_rfl) (by kernel_rfl) hm
 have h6:=fun {h:Heap} {es c} (hm:mapAt h (n+5)=some (es,c))=>bE (C:=CT G) (f:=76) Tryz.mcl76 rfl Tryz.func76 (by kernel_rfl) (by kernel_rfl) hm
 have h7:=fun {h:Heap} {es c} (hm:mapAt h (n+6)=some (es,c))=>bE (C:=CT G) (f:=77) Tryz.mcl77 rfl Tryz.func77 (by kernel_rfl) (by kernel_rfl) hm
 have h8:=fun {h:Heap} {es c} (hm:mapAt h (n+7)=some (es,c))=>bE (C:=CT G) (f:=78) Tryz.mcl78 rfl Tryz.func78 (by kernel_rfl) (by kernel_rfl) hm
 have F:= @ax
 skip
 refine sb [.tmp 2] Tryz.func37 ?_;intro Q hQ;refine wn F ?_;refine ay 19 [4,9,14] [true,true,true,true,false,true,true,true,true,false,true,true,true,true,false,true,true,true,true] (.one 4 [false,false,false,false,false,false,true,true,true,false,false,true,true,true,false,false,true,true,true] (.one 9 [false,false,false,false,false,false,false,false,false,false,false,true,true,true,false,false,true,true,true] (.one 14 [false,false,false,false,false,false,false,false,false,false,false,false,false,false,false,false,true,true,true] .fin))) (by decide+kernel) (by kernel_rfl) (by decide+kernel) ?_;simp only[aC,aD,az];try refine sq F ?_
 repeat' ((first|refine ai ?_|refine aj ?_|refine am ?_ ?_)<;>try refine sq F ?_)
 all_goals try refine wn F ?_
 repeat' (first
  | (refine(h1 (by simp(disch:=first|omega| (simp only[go_sem, ↓reduceIte,seval];first|done|omega)|fail) only[go_sem, ↓reduceIte,seval,F];rfl)).mono ?_;rintro r h' ⟨rfl,rfl⟩;try refine sq F ?_)
  | (refine(h2 (by simp(disch:=first|omega| (simp only[go_sem, ↓reduceIte,seval];first|done|omega)|fail) only[go_sem, ↓reduceIte,seval,F];rfl)).mono ?_;rintro r h' ⟨rfl,rfl⟩;try refine sq F ?_)
  | (refine(h3 (by simp(disch:=first|omega| (simp only[go_sem, ↓reduceIte,seval];first|done|omega)|fail) only[go_sem, ↓reduceIte,seval,F];rfl)).mono ?_;rintro r h' ⟨rfl,rfl⟩;try refine sq F ?_)
  | (refine(h4 (by simp(disch:=first|omega| (simp only[go_sem, ↓reduceIte,seval];first|done|omega)|fail) only[go_sem, ↓reduceIte,seval,F];rfl)).mono ?_;rintro r h' ⟨rfl,rfl⟩;try refine sq F ?_)
  | (refine ai ?_;try refine sq F ?_)| (refine aj ?_;try refine sq F ?_))
 refine wn F ?_;refine ay 19 [4,9,14] [true,true,true,true,false,true,true,true,true,false,true,true,true,true,false,true,true,true,true] (.one 4 [false,false,false,false,false,false,true,true,true,false,false,true,true,true,false,false,true,true,true] (.one 9 [false,false,false,false,false,false,false,false,false,false,false,true,true,true,false,false,true,true,true] (.one 14 [false,false,false,false,false,false,false,false,false,false,false,false,false,false,false,false,true,true,true] .fin))) (by decide+kernel) (by kernel_rfl) (by decide+kernel) ?_;simp only[aC,aD,az];try refine sq F ?_
 repeat' ((first|refine ai ?_|refine aj ?_|refine am ?_ ?_)<;>try refine sq F ?_)
 all_goals try refine wn F ?_
 repeat' (first
  | (refine(h5 (by simp(disch:=first|omega| (simp only[go_sem, ↓reduceIte,seval];first|done|omega)|fail) only[go_sem, ↓reduceIte,seval,F];rfl)).mono ?_;rintro r h' ⟨rfl,rfl⟩;try refine sq F ?_)
  | (refine(h6 (by simp(disch:=first|omega| (simp only[go_sem, ↓reduceIte,seval];first|done|omega)|fail) only[go_sem, ↓reduceIte,seval,F];rfl)).mono ?_;rintro r h' ⟨rfl,rfl⟩;try refine sq F ?_)
  | (refine(h7 (by simp(disch:=first|omega| (simp only[go_sem, ↓reduceIte,seval];first|done|omega)|fail) only[go_sem, ↓reduceIte,seval,F];rfl)).mono ?_;rintro r h' ⟨rfl,rfl⟩;try refine sq F ?_)
  | (refine(h8 (by simp(disch:=first|omega| (simp only[go_sem, ↓reduceIte,seval];first|done|omega)|fail) only[go_sem, ↓reduceIte,seval,F];rfl)).mono ?_;rintro r h' ⟨rfl,rfl⟩;try refine sq F ?_)
  | (refine ai ?_;try refine sq F ?_)| (refine aj ?_;try refine sq F ?_))
 refine wn F ?_;refine ee hQ F ?_;exact za3 (by rw[aQ hn,aQ (by simp;omega)];simp) (.hp _ _ _ _ (by rw[aQ (by simp;omega)];simp)) ⟨rfl,rfl⟩
theorem zY(A B bs:Heap)(hl:bs.length=B.length):ov (A++B) A.length bs=A++bs:=by
 unfold ov;rw[V1 rfl,X8 (by rw[K7];omega),O1]
theorem pM:CloneC G:=by
 intro s X n _ hn;have hl:(so X n s).length=X.length:=aQ hn;have h0:=oB G s hn;rw[← hl]at h0;generalize so X n s=A at*;have key:=Sat.turn (fun c hc=>?_) (fun c hc hcl=>?_) (fun k hk=>?_) h0
 ·refine key.mono ?_;rintro r h' ⟨rfl,rfl⟩;rw[hl];refine⟨rfl,?_⟩;unfold so;rw[← hl,zY A (PS.bl A.length PS.z) (PS.bl A.length s) rfl];have e:∀i,(if A.length+1+i<A.length then AVal.hm (A.length+1+i)else .hm (A.length+1+i-1))=.hm (A.length+i):=fun i=>by
   rw[K4 (by omega)];congr 1;omega
  have e0:=e 0;have e1:=e 1;have e2:=e 2;have e3:=e 3;have e4:=e 4;have e5:=e 5;have e6:=e 6;have e7:=e 7;simp only[U9]at e0;simp only[PS.bl,PS.row,mpsC,N4,R1,trn,Q7,O5,e0,e1,e2,e3,e4,e5,e6,e7]
 ·simp only[N0,T8,or_false]at hc;rcases hc with rfl|rfl|rfl|rfl|rfl|rfl|rfl|rfl|rfl|rfl|rfl|rfl|rfl
  ·exact .inl (.int _ _)
  ·exact .inr ⟨0,rfl⟩
  ·exact .inr ⟨1,rfl⟩
  ·exact .inr ⟨2,rfl⟩
  ·exact .inr ⟨3,rfl⟩
  ·exact .inr ⟨4,rfl⟩
  ·exact .inr ⟨5,rfl⟩
  ·exact .inr ⟨6,rfl⟩
  ·exact .inr ⟨7,rfl⟩
  all_goals exact .inl (.int _ _)
 ·simp only[N0,T8,or_false]at hc;rcases hc with rfl|rfl|rfl|rfl|rfl|rfl|rfl|rfl|rfl|rfl|rfl|rfl|rfl<;>first|rfl| (exfalso;cases hcl;omega)
 ·exact PS.clo (n:=0) (N:=A.length) (by omega) s k (by simp only[mpsC,PS.bl]at hk ⊢;exact List.mem_append_left [_] hk)
end
theorem x6{es:List Ev}(h:lgF es=false):es.length≤150:=by
 unfold lgF at h;rw[Bool.or_eq_false_iff]at h;have:=h.1;simp only[decide_eq_false_iff_not]at this;omega
theorem qK{h Y:Heap}{n:Nat}{s:PS}{R:AVal→Heap→Prop}{b:Bool}(hm:n+9≤Y.length)(hp:∃j,Y=h++j)(hh:h.length≤n)(hR:R (.bool b) h):Fin h (so Y n s) R (.bool b):=by
 obtain⟨j,rfl⟩:=hp;obtain⟨j',he⟩:=qI (s:=s) hm hh;rw[he];exact Fin.plainE (j:=j') rfl (.bool _) hR
end
end Go.Av
