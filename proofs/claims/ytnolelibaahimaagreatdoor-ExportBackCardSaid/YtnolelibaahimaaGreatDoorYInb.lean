/- Parts. -/
import Derived.Test.YtnolelibaahimaaGreatDoorYJc
import Derived.Test.YtnolelibaahimaaGreatDoorYEc
set_option linter.unusedSimpArgs false
set_option linter.unusedVariables false
set_option linter.unusedSectionVars false
set_option linter.unnecessarySimpa false
set_option maxRecDepth 100000
set_option maxHeartbeats 16000000
namespace Go.Av
open Go Go.Proofs Go.RowKit
section
attribute [local irreducible] WP WPl WPix Sat
variable (G:Nat→Option (List AVal))
theorem xM(N:Nat)(a b c d e f k:Int):Clo N (.tup [.agg [.int .i64 a,.int .i64 b,.int .i64 c,.int .i64 d,.int .i64 e,.int .i64 f],.int .i64 k]):=.tup _ fun x hx=>by
 simp only[O5,W9,or_false]at hx;rcases hx with rfl|rfl
 ·exact ci fun c hc=>by simp at hc;rcases hc with rfl|rfl|rfl|rfl|rfl|rfl<;>simp
 ·exact .int _ _
def momF(n:Int):Bool:=decide (-62135596800≤n)&&decide (n≤253402300799)
theorem jE(n a b:Int)(h:Heap):Sat (CT G) 225 [.int .i64 n,.int .i64 a,.int .i64 b] h (fun r h'=>r=.bool (decide (a≤n)&&decide (n≤b))∧h'=h):=by
 by_cases k:a≤n
 ·have k2:decide (n≥a)=true:=by simpa using k
  have F:=k2;refine sb [.tmp 6] Tryz.func225 ?_;intro Q hQ;refine wk F ?_;refine ee hQ F ?_;exact S6 (.bool _) ⟨by simp[k],rfl⟩
 ·have k2:decide (n≥a)=false:=by simpa using k
  have F:=k2;refine sb [.tmp 6] Tryz.func225 ?_;intro Q hQ;refine wk F ?_;refine ee hQ F ?_;exact S6 (.bool _) ⟨by simp[k],rfl⟩
theorem zR(n:Int)(h:Heap):Sat (CT G) 187 [.int .i64 n] h (fun r h'=>(∃a b c d e f:Int,r=.tup [.agg [.int .i64 a,.int .i64 b,.int .i64 c,.int .i64 d,.int .i64 e,.int .i64 f],.int .i64 (if momF n then 0 else 40)])∧h'=h):=by
 cases hm:momF n with
 |false=>
  unfold momF at hm;have hW:=jE G n (-62135596800) 253402300799;rw[hm]at hW;refine sb [.cell 2 231,.tmp 3] Tryz.func187 ?_;intro Q hQ;refine wk trivial ?_;refine kq trivial (hW _) ?_;refine ye hQ trivial ?_;exact N2 (xM ..) ⟨⟨_,_,_,_,_,_,rfl⟩,rfl⟩
 |true=>
  have hm2:=hm;unfold momF at hm2;have hW:=jE G n (-62135596800) 253402300799;rw[hm2]at hW;simp only[M2,M8]at hm2;obtain⟨m1,m2⟩:=hm2;refine sb [.cell 2 231,.tmp 3] Tryz.func187 ?_;intro Q hQ;refine wk trivial ?_;refine kq trivial (hW _) ?_;refine cq trivial (fun c1=>?_) (fun c1=>?_)<;>(try exact c1.elim)<;>(refine wk trivial ?_)
  ·refine ye hQ trivial ?_;exact N2 (xM ..) ⟨⟨_,_,_,_,_,_,rfl⟩,rfl⟩
  ·refine ye hQ trivial ?_;exact N2 (xM ..) ⟨⟨_,_,_,_,_,_,rfl⟩,rfl⟩
theorem qy(n:Int)(h:Heap):Sat (CT G) 157 [.int .i64 n] h (fun r h'=>r=.bool (momF n)∧h'=h):=by
 refine sb [.tmp 2] Tryz.func157 ?_;intro Q hQ;refine wk trivial ?_;refine(zR G n _).mono ?_;rintro r h' ⟨⟨_,_,_,_,_,_,rfl⟩,rfl⟩;cases hm:momF n
 ·have F:=hm;try refine sq F ?_
  refine wk F ?_;refine ee hQ F ?_;exact N2 (.bool _) ⟨rfl,rfl⟩
 ·have F:=hm;try refine sq F ?_
  refine wk F ?_;refine ee hQ F ?_;exact N2 (.bool _) ⟨rfl,rfl⟩
end
section
attribute [local irreducible] WP WPl WPix Sat
def textF(ri:Bs→Bool)(cl:Bs→Bs)(t:Bs)(n:Int):Bool:=decide ((t.length:Int)≤n)&&(ri t&&cl t==t)
variable (G:Nat→Option (List AVal))
theorem fa(ri:Bs→Bool)(cl:Bs→Bs)(hR:∀t,t.length≤1000→∀h,Sat (CT G) 184 [.str t] h (fun r h'=>r=.bool (ri t)∧h'=h))(hC:∀t,t.length≤1000→∀h,Sat (CT G) 111 [.str t] h (fun r h'=>r=.str (cl t)∧h'=h))(t:Bs)(n:Int)(hn:n≤1000)(h:Heap):Sat (CT G) 186 [.str t,.int .i64 n] h (fun r h'=>r=.bool (textF ri cl t n)∧h'=h):=by
 cases hl:decide ((t.length:Int)≤n)with
 |false=>
  have F:=hl;refine sb [.tmp 4] Tryz.func186 ?_;intro Q hQ;refine wk F ?_;refine ee hQ F ?_;exact S6 (.bool _) ⟨by simp[textF,hl],rfl⟩
 |true=>
  have hlt:t.length≤1000:=by have:=R7 hl;omega
  cases hr:ri t with
  |false=>
   have hR1:=hR t hlt;rw[hr]at hR1;have F:=hl;refine sb [.tmp 4] Tryz.func186 ?_;intro Q hQ;refine wk F ?_;refine kq F (hR1 _) ?_;refine ee hQ F ?_;exact S6 (.bool _) ⟨by simp[textF,hl,hr],rfl⟩
  |true=>
   have hR1:=hR t hlt;rw[hr]at hR1;have F:=hl;refine sb [.tmp 4] Tryz.func186 ?_;intro Q hQ;refine wk F ?_;refine kq F (hR1 _) ?_;refine kq F (hC t hlt _) ?_;refine ee hQ F ?_;exact S6 (.bool _) ⟨by simp[textF,hl,hr],rfl⟩
theorem jF(ri:Bs→Bool)(cl:Bs→Bs)(hR:∀t,t.length≤1000→∀h,Sat (CT G) 184 [.str t] h (fun r h'=>r=.bool (ri t)∧h'=h))(hC:∀t,t.length≤1000→∀h,Sat (CT G) 111 [.str t] h (fun r h'=>r=.str (cl t)∧h'=h))(t:Bs)(h:Heap):Sat (CT G) 154 [.str t] h (fun r h'=>r=.bool (!(t==[])&&textF ri cl t 64)∧h'=h):=by
 cases k1:(t==[])with
 |true=>
  have k2:(t != [])=false:=by simpa using k1
  have F:=F2 k1 k2;refine sb [.tmp 2] Tryz.func154 ?_;intro Q hQ;refine wk F ?_;refine ee hQ F ?_;exact S6 (.bool _) ⟨by simp,rfl⟩
 |false=>
  have k2:(t != [])=true:=by simpa using k1
  have F:=F2 k1 k2;refine sb [.tmp 2] Tryz.func154 ?_;intro Q hQ;refine wk F ?_;refine kq F (fa G ri cl hR hC t 64 (by omega) _) ?_;refine ee hQ F ?_;exact S6 (.bool _) ⟨by simp,rfl⟩
theorem qB(ri:Bs→Bool)(cl:Bs→Bs)(hR:∀t,t.length≤1000→∀h,Sat (CT G) 184 [.str t] h (fun r h'=>r=.bool (ri t)∧h'=h))(hC:∀t,t.length≤1000→∀h,Sat (CT G) 111 [.str t] h (fun r h'=>r=.str (cl t)∧h'=h))(t:Bs)(h:Heap):Sat (CT G) 156 [.str t] h (fun r h'=>r=.bool (textF ri cl t 256)∧h'=h):=by
 refine sb [.tmp 2] Tryz.func156 ?_;intro Q hQ;refine wk trivial ?_;refine kq trivial (fa G ri cl hR hC t 256 (by omega) _) ?_;refine ee hQ trivial ?_;exact S6 (.bool _) ⟨rfl,rfl⟩
theorem lh(ri:Bs→Bool)(cl:Bs→Bs)(hR:∀t,t.length≤1000→∀h,Sat (CT G) 184 [.str t] h (fun r h'=>r=.bool (ri t)∧h'=h))(hC:∀t,t.length≤1000→∀h,Sat (CT G) 111 [.str t] h (fun r h'=>r=.str (cl t)∧h'=h))(t:Bs)(h:Heap):Sat (CT G) 158 [.str t] h (fun r h'=>r=.bool (textF ri cl t 512)∧h'=h):=by
 refine sb [.tmp 2] Tryz.func158 ?_;intro Q hQ;refine wk trivial ?_;refine kq trivial (fa G ri cl hR hC t 512 (by omega) _) ?_;refine ee hQ trivial ?_;exact S6 (.bool _) ⟨rfl,rfl⟩
theorem qC(ri:Bs→Bool)(cl:Bs→Bs)(hR:∀t,t.length≤1000→∀h,Sat (CT G) 184 [.str t] h (fun r h'=>r=.bool (ri t)∧h'=h))(hC:∀t,t.length≤1000→∀h,Sat (CT G) 111 [.str t] h (fun r h'=>r=.str (cl t)∧h'=h))(t:Bs)(h:Heap):Sat (CT G) 160 [.str t] h (fun r h'=>r=.bool (!(t==[])&&textF ri cl t 512)∧h'=h):=by
 cases k1:(t==[])with
 |true=>
  have k2:(t != [])=false:=by simpa using k1
  have F:=F2 k1 k2;refine sb [.tmp 2] Tryz.func160 ?_;intro Q hQ;refine wk F ?_;refine ee hQ F ?_;exact S6 (.bool _) ⟨by simp,rfl⟩
 |false=>
  have k2:(t != [])=true:=by simpa using k1
  have F:=F2 k1 k2;refine sb [.tmp 2] Tryz.func160 ?_;intro Q hQ;refine wk F ?_;refine kq F (fa G ri cl hR hC t 512 (by omega) _) ?_;refine ee hQ F ?_;exact S6 (.bool _) ⟨by simp,rfl⟩
end
section
variable {s:PS} {e:Ev}
theorem dV{κ α:Type}[DecidableEq κ]{l:ML κ α}{x:κ}(h:(lkM l x).isSome=false):lkM l x=none:=by
 cases hl:lkM l x with
 |none=>rfl
 |some a=>rw[hl]at h;cases h
theorem aF{κ α:Type}[DecidableEq κ]{l:ML κ α}{x:κ}(h:(lkM l x).isSome=true):∃a,lkM l x=some a:=P7.1 h
theorem fk{κ α:Type}[DecidableEq κ]{l:ML κ α}(c:Nat)(x:κ)(a:α){y:κ}(h:(lkM l y).isSome=true):(lkM (upM l c x a) y).isSome=true:=by
 rw[aS];split
 ·rfl
 ·exact h
theorem aE{κ α:Type}[DecidableEq κ]{l:ML κ α}{c:Nat}{x y:κ}{a b:α}(h:lkM (upM l c x a) y=some b):(y=x∧b=a)∨(y≠x∧lkM l y=some b):=by
 rw[aS]at h;split at h
 ·rename_i hy;cases h;exact .inl ⟨hy,rfl⟩
 ·rename_i hy;exact .inr ⟨hy,h⟩
theorem cJ{κ α:Type}[DecidableEq κ]{l:ML κ α}(hn:(l.map (·.1)).Nodup){x y:κ}{b:α}(h:lkM (dlM l x) y=some b):y≠x∧lkM l y=some b:=by
 rw[ft hn]at h;split at h
 ·cases h
 ·rename_i hy;exact⟨hy,h⟩
theorem mm{α:Type}{l:ML Int α}(hn:(l.map (·.1)).Nodup){p:Int×α×Nat→Bool}{y:Int}{b:α}(h:lkM (l.filter p) y=some b):lkM l y=some b:=by
 obtain⟨n,hm⟩:=dG h;exact dw hn (T4.1 hm).1
theorem fE{κ α:Type}[DecidableEq κ](l:ML κ α)(c:Nat)(x:κ)(a:α)(m:Nat)(h:l.length<m∨((lkM l x).isSome=true∧l.length≤m)):(upM l c x a).length≤m:=by
 rw[jd];split
 ·omega
 ·rename_i h1;rcases h with h|h
  ·omega
  ·exact(h1 h.1).elim
theorem pj{κ α:Type}[DecidableEq κ](l:ML κ α)(x:κ)(m:Nat)(h:l.length≤m):(dlM l x).length≤m:=S4 (je l x).length_le h
theorem PS.Inv.deep(h:s.Inv)(id:Int):deepO s.fo 7 id=some (s.dpt id)∧s.dpt id≤7:=by
 obtain⟨d,h1,h2⟩:=h.dp id;unfold PS.dpt;rw[h2];exact⟨rfl,h1⟩
theorem iT(h:s.within e.b=true):e.b=0∨(lkM s.fo e.b).isSome=true:=by
 unfold PS.within at h;simpa using h
theorem PS.Inv.mkFo(h:s.Inv)(ha:1≤e.a∧e.a≤1048576)(hn:(lkM s.fo e.a).isSome=false)(hl:s.fo.length<64)(hw:s.within e.b=true)(hd:s.dpt e.b<7):
  PS.Inv ((((s.upFo e.a ⟨e.a,e.b,e.s⟩).upNm (e.b,e.s) e.a).hold e.b 1).raise 0 e.a):=by
 rw[bC];have hb:=iT hw;have hnn:=dV hn;have hba:e.b≠e.a:=by
  rcases hb with hb|hb
  ·omega
  ·intro q;rw[q,hn]at hb;cases hb
 have hcg:∀k id,id≠e.a→deepO (upM s.fo s.c1 e.a ⟨e.a,e.b,e.s⟩) k id=deepO s.fo k id:=by
  refine jG (fun id=>id≠e.a) (fun id hi=>by rw[aS,M1 hi]) (fun id f hi hf=>?_);rcases h.u1 id f hf with h1|h1
  ·omega
  ·intro q;rw[q,hn]at h1;cases h1
 exact {h with
  w1:=h.w1.up _ _
  w8:=gB h.w8 _ _
  i1:=fun k f hk=>by
   rcases aE (l:=s.fo) hk with⟨rfl,rfl⟩| ⟨_,hk⟩
   ·exact⟨rfl,ha⟩
   ·exact h.i1 k f hk
  u1:=fun k f hk=>by
   rcases aE (l:=s.fo) hk with⟨rfl,rfl⟩| ⟨_,hk⟩
   ·exact hb.imp id (fk _ _ _)
   ·exact(h.u1 k f hk).imp id (fk _ _ _)
  u2:=fun k f hk=>(h.u2 k f hk).imp id (fk _ _ _)
  dp:=fun id=>by
   show ∃d,d≤7∧deepO (upM s.fo s.c1 e.a ⟨e.a,e.b,e.s⟩) 7 id=some d;by_cases hi:id=e.a
   ·subst hi;obtain⟨h1,h2⟩:=h.deep e.b;refine⟨s.dpt e.b+1,by omega,?_⟩;rw[deepO,aS,M7 rfl];simp only[hcg 6 e.b hba,eF h1 (k':=6) (by omega),T3]
   ·obtain⟨d,h1,h2⟩:=h.dp id;exact⟨d,h1,by rw[hcg 7 id hi,h2]⟩
  hd:=fun id hi=>by
   show(lkM (heF s.he s.c8 e.b 1) id).getD 0=sumM (inFo id) (upM s.fo s.c1 e.a ⟨e.a,e.b,e.s⟩)+sumM (inFe id) s.fe;rw[fD,jl,hnn,h.hd id hi];simp only[atM,inFo];by_cases hx:e.b=id
   ·subst hx;simp[hi];omega
   ·rw[M1 (by omega),M1 hx];omega
  h0:=jp _ _ _ h.h0
  l1:=fE _ _ _ _ _ (.inl hl)}
theorem PS.Inv.mkFe(h:s.Inv)(ha:1≤e.a∧e.a≤1048576)(hn:(lkM s.fe e.a).isSome=false)(hl:s.fe.length<64)(hw:s.within e.b=true):
  PS.Inv ((((s.upFe e.a ⟨e.a,e.b,e.s,e.t⟩).upPl e.s e.a).hold e.b 1).raise 1 e.a):=by
 rw[bC];have hb:=iT hw;have hnn:=dV hn;exact {h with
  w2:=h.w2.up _ _
  w8:=gB h.w8 _ _
  i2:=fun k f hk=>by
   rcases aE (l:=s.fe) hk with⟨rfl,rfl⟩| ⟨_,hk⟩
   ·exact⟨rfl,ha⟩
   ·exact h.i2 k f hk
  u2:=fun k f hk=>by
   rcases aE (l:=s.fe) hk with⟨rfl,rfl⟩| ⟨_,hk⟩
   ·exact hb
   ·exact h.u2 k f hk
  u3:=fun k f hk=>fk _ _ _ (h.u3 k f hk)
  hd:=fun id hi=>by
   show(lkM (heF s.he s.c8 e.b 1) id).getD 0=sumM (inFo id) s.fo+sumM (inFe id) (upM s.fe s.c2 e.a ⟨e.a,e.b,e.s,e.t⟩);rw[fD,jl,hnn,h.hd id hi];simp only[atM,inFe];by_cases hx:e.b=id
   ·subst hx;simp[hi];omega
   ·rw[M1 (by omega),M1 hx];omega
  h0:=jp _ _ _ h.h0
  l2:=fE _ _ _ _ _ (.inl hl)}
theorem PS.Inv.mkIt(h:s.Inv)(ha:1≤e.a∧e.a≤1048576)(hl:s.it.length<1024)(hw:(lkM s.fe e.b).isSome=true):
  PS.Inv (((s.upIt e.a ⟨e.a,e.b,e.n,e.s,e.t,e.u,false,false,[]⟩).upGu (e.b,e.s) e.a).raise 2 e.a):=
 {h with
  w3:=h.w3.up _ _
  w7:=h.w7.up _ _
  i3:=fun k f hk=>by
   rcases aE (l:=s.it) hk with⟨rfl,rfl⟩| ⟨_,hk⟩
   ·exact⟨rfl,ha⟩
   ·exact h.i3 k f hk
  u3:=fun k f hk=>by
   rcases aE (l:=s.it) hk with⟨rfl,rfl⟩| ⟨_,hk⟩
   ·exact hw
   ·exact h.u3 k f hk
  tg:=fun k f hk=>by
   rcases aE (l:=s.it) hk with⟨rfl,rfl⟩| ⟨_,hk⟩
   ·exact⟨by simp[Srt],by simp⟩
   ·exact h.tg k f hk
  l3:=fE _ _ _ _ _ (.inl hl)}
theorem PS.Inv.mkSe(h:s.Inv)(ha:1≤e.a∧e.a≤1048576)(hl:s.se.length<32):PS.Inv ((s.upSe e.a ⟨e.a,e.s,e.t⟩).raise 3 e.a):=
 {h with
  w4:=h.w4.up _ _
  i4:=fun k f hk=>by
   rcases aE (l:=s.se) hk with⟨rfl,rfl⟩| ⟨_,hk⟩
   ·exact⟨rfl,ha⟩
   ·exact h.i4 k f hk
  l4:=fE _ _ _ _ _ (.inl hl)}
theorem PS.Inv.reIt(h:s.Inv){k:Int}{t:It}(t':It)(hk:lkM s.it k=some t)(h1:t'.id=t.id)(h2:t'.feed=t.feed)(h3:Srt t'.tags∧t'.tags.length≤8):PS.Inv (s.upIt k t'):=
 {h with
  w3:=h.w3.up _ _
  i3:=fun j f hj=>by
   rcases aE (l:=s.it) hj with⟨rfl,rfl⟩| ⟨_,hj⟩
   ·rw[h1];exact h.i3 _ _ hk
   ·exact h.i3 j f hj
  u3:=fun j f hj=>by
   rcases aE (l:=s.it) hj with⟨rfl,rfl⟩| ⟨_,hj⟩
   ·rw[h2];exact h.u3 _ _ hk
   ·exact h.u3 j f hj
  tg:=fun j f hj=>by
   rcases aE (l:=s.it) hj with⟨rfl,rfl⟩| ⟨_,hj⟩
   ·exact h3
   ·exact h.tg j f hj
  l3:=fE _ _ _ _ _ (.inr ⟨by rw[hk];rfl,h.l3⟩)}
theorem PS.Inv.unFo(h:s.Inv){k:Int}{f:Fo}(hk:lkM s.fo k=some f)(h0:(lkM s.he k).getD 0=0):PS.Inv (((s.dlNm (f.inn,f.name)).dlFo k).hold f.inn (-1)):=by
 rw[bC];have hk1:=(h.i1 _ _ hk).2;have hs:=h.hd k (by omega);have n1:=dU (jn k) s.fo;have n2:=dU (jo k) s.fe;have hA:∀j g,lkM s.fo j=some g→g.inn≠k:=fun j g hg q=>by
  have:=vu (jn k) (l:=s.fo) (by omega) hg;rw[inFo,M7 q]at this;omega
 have hB:∀j g,lkM s.fe j=some g→g.inn≠k:=fun j g hg q=>by
  have:=vu (jo k) (l:=s.fe) (by omega) hg;rw[inFe,M7 q]at this;omega
 have hcg:∀m id,id≠k→deepO (dlM s.fo k) m id=deepO s.fo m id:=
  jG (fun id=>id≠k) (fun id hi=>by rw[ft h.w1.keys,M1 hi]) (fun id g _ hg=>hA id g hg)
 have hst:∀x,x≠k→(lkM s.fo x).isSome=true→(lkM (dlM s.fo k) x).isSome=true:=fun x hx hs=>by rw[ft h.w1.keys,M1 hx];exact hs
 exact {h with
  w1:=h.w1.dl _
  w8:=gB h.w8 _ _
  i1:=fun j g hj=>h.i1 j g (cJ h.w1.keys hj).2
  u1:=fun j g hj=>by
   obtain⟨_,hj⟩:=cJ h.w1.keys hj;exact(h.u1 j g hj).imp id (hst _ (hA j g hj))
  u2:=fun j g hj=>(h.u2 j g hj).imp id (hst _ (hB j g hj))
  dp:=fun id=>by
   show ∃d,d≤7∧deepO (dlM s.fo k) 7 id=some d;by_cases hi:id=k
   ·subst hi;exact⟨0,by omega,by rw[deepO,ft h.w1.keys,M7 rfl]⟩
   ·rw[hcg 7 id hi];exact h.dp id
  hd:=fun id hi=>by
   show(lkM (heF s.he s.c8 f.inn (-1)) id).getD 0=sumM (inFo id) (dlM s.fo k)+sumM (inFe id) s.fe;rw[fD,rB,hk,h.hd id hi];simp only[atM,inFo];by_cases hx:f.inn=id
   ·subst hx;simp[hi];omega
   ·rw[M1 (by omega),M1 hx];omega
  h0:=jp _ _ _ h.h0
  l1:=pj _ _ _ h.l1}
theorem PS.Inv.reTi(h:s.Inv){k:Int}{f:Fe}(t:Bs)(hk:lkM s.fe k=some f):PS.Inv (s.upFe k {f with title:=t}):=
 {h with
  w2:=h.w2.up _ _
  i2:=fun j g hj=>by
   rcases aE (l:=s.fe) hj with⟨rfl,rfl⟩| ⟨_,hj⟩
   ·have:=h.i2 _ _ hk;exact this
   ·exact h.i2 j g hj
  u2:=fun j g hj=>by
   rcases aE (l:=s.fe) hj with⟨rfl,rfl⟩| ⟨_,hj⟩
   ·have:=h.u2 _ _ hk;exact this
   ·exact h.u2 j g hj
  u3:=fun j g hj=>fk _ _ _ (h.u3 j g hj)
  hd:=fun id hi=>by
   show(lkM s.he id).getD 0=sumM (inFo id) s.fo+sumM (inFe id) (upM s.fe s.c2 k {f with title:=t});rw[jl,hk,h.hd id hi];simp only[atM,inFe];omega
  l2:=fE _ _ _ _ _ (.inr ⟨by rw[hk];rfl,h.l2⟩)}
theorem PS.Inv.reIn(h:s.Inv){k b:Int}{f:Fe}(hk:lkM s.fe k=some f)(hb:b=0∨(lkM s.fo b).isSome=true):PS.Inv (((s.hold f.inn (-1)).hold b 1).upFe k {f with inn:=b}):=by
 rw[bC s,bC];exact {h with
  w2:=h.w2.up _ _
  w8:=gB (gB h.w8 _ _) _ _
  i2:=fun j g hj=>by
   rcases aE (l:=s.fe) hj with⟨rfl,rfl⟩| ⟨_,hj⟩
   ·have:=h.i2 _ _ hk;exact this
   ·exact h.i2 j g hj
  u2:=fun j g hj=>by
   rcases aE (l:=s.fe) hj with⟨rfl,rfl⟩| ⟨_,hj⟩
   ·exact hb
   ·exact h.u2 j g hj
  u3:=fun j g hj=>fk _ _ _ (h.u3 j g hj)
  hd:=fun id hi=>by
   show(lkM (heF (heF s.he s.c8 f.inn (-1)) (chF s.he s.c8 f.inn) b 1) id).getD 0=sumM (inFo id) s.fo+sumM (inFe id) (upM s.fe s.c2 k {f with inn:=b});rw[fD,fD,jl,hk,h.hd id hi];simp only[atM,inFe];by_cases h1:f.inn=id
   ·by_cases h2:b=id
    ·rw[M7 ⟨h1.symm,by omega⟩,M7 ⟨h2.symm,by omega⟩,M7 h1,M7 h2];omega
    ·rw[M7 ⟨h1.symm,by omega⟩,M1 (by omega),M7 h1,M1 h2];omega
   ·by_cases h2:b=id
    ·rw[M1 (by omega),M7 ⟨h2.symm,by omega⟩,M1 h1,M7 h2];omega
    ·rw[M1 (by omega),M1 (by omega),M1 h1,M1 h2];omega
  h0:=jp _ _ _ (jp _ _ _ h.h0)
  l2:=fE _ _ _ _ _ (.inr ⟨by rw[hk];rfl,h.l2⟩)}
theorem PS.Inv.unFe(h:s.Inv){k:Int}{f:Fe}(hk:lkM s.fe k=some f):PS.Inv (s.unfeed f):=by
 have hfk:=(h.i2 _ _ hk).1;unfold PS.unfeed;rw[bC];exact {h with
  w2:=h.w2.dl _
  w3:=h.w3.filter _
  w7:=h.w7.filter _
  w8:=gB h.w8 _ _
  i2:=fun j g hj=>h.i2 j g (cJ h.w2.keys hj).2
  i3:=fun j t hj=>h.i3 j t (mm h.w3.keys hj)
  u2:=fun j g hj=>h.u2 j g (cJ h.w2.keys hj).2
  u3:=fun j t hj=>by
   have hj':lkM (itF s.it f.id) j=some t:=hj;show(lkM (dlM s.fe f.id) t.feed).isSome=true;have hne:t.feed≠f.id:=by
    obtain⟨n,hm⟩:=dG hj';have:=(T4.1 hm).2;simpa using this
   rw[ft h.w2.keys,M1 hne];exact h.u3 j t (mm h.w3.keys hj')
  hd:=fun id hi=>by
   show(lkM (heF s.he s.c8 f.inn (-1)) id).getD 0=sumM (inFo id) s.fo+sumM (inFe id) (dlM s.fe f.id);rw[fD,rB,hfk,hk,h.hd id hi];simp only[atM,inFe];by_cases hx:f.inn=id
   ·subst hx;simp[hi];omega
   ·rw[M1 (by omega),M1 hx];omega
  h0:=jp _ _ _ h.h0
  tg:=fun j t hj=>h.tg j t (mm h.w3.keys hj)
  l2:=pj _ _ _ h.l2
  l3:=S4 (List.length_filter_le _ _) h.l3}
theorem PS.Inv.unSe(h:s.Inv)(k:Int):PS.Inv (s.dlSe k):=
 {h with
  w4:=h.w4.dl _
  i4:=fun j g hj=>h.i4 j g (cJ h.w4.keys hj).2
  l4:=pj _ _ _ h.l4}
theorem PS.Inv.clk(h:s.Inv)(k:Int):PS.Inv {s with clock:=k}:= {h with}
theorem PS.Inv.step{L:Leaf}(h:s.Inv)(e:Ev):(s.step L e).Inv:=by
 unfold PS.step;split
 ·rename_i hok;unfold PS.ok PS.fits at hok;rw[M2]at hok;obtain⟨hck,hf⟩:=hok;have hr:L.right e=true:=by unfold Leaf.ck at hck;simp only[M2]at hck;exact hck.1
  have ha:e.kind≠13→1≤e.a∧e.a≤1048576:=fun hk=>i6 hr hk
  unfold PS.aft PS.after;by_cases k1:e.kind=1
  ·rw[M7 k1]at hf;simp only[M2,P8,M8,beq_iff_eq]at hf;rw[M1 (by omega),M1 (by omega),M1 (by omega),M1 (by omega),M1 (by omega),M1 (by omega),M1 (by omega),M1 (by omega),M1 (by omega),PS.make,M7 k1];exact h.mkFo (ha (by omega)) hf.1.1.1.1 hf.1.1.1.2 hf.1.1.2 hf.1.2
  rw[M1 k1]at hf;by_cases k2:e.kind=2
  ·rw[M7 k2]at hf ⊢;simp only[M2,beq_iff_eq]at hf;obtain⟨f,hfo⟩:=aF hf.1;rw[hfo];exact h.unFo hfo hf.2
  rw[M1 k2]at hf ⊢;by_cases k3:e.kind=3
  ·rw[M7 k3]at hf;simp only[M2,P8,M8,beq_iff_eq]at hf;rw[M1 (by omega),M1 (by omega),M1 (by omega),M1 (by omega),M1 (by omega),M1 (by omega),M1 (by omega),M1 (by omega),PS.make,M1 (by omega),M7 k3];exact h.mkFe (ha (by omega)) hf.1.1.1 hf.1.1.2 hf.1.2
  rw[M1 k3]at hf;by_cases k4:e.kind=4
  ·rw[M7 (.inl k4)]at hf;rw[M7 k4];obtain⟨f,hfo⟩:=aF hf;rw[hfo];exact h.unFe hfo
  rw[M1 k4];by_cases k5:e.kind=5
  ·rw[M7 (.inr k5)]at hf;rw[M7 k5];obtain⟨f,hfo⟩:=aF hf;rw[hfo];exact h.reTi _ hfo
  rw[M1 (by omega)]at hf;rw[M1 k5];by_cases k6:e.kind=6
  ·rw[M7 k6]at hf ⊢;simp only[M2]at hf;obtain⟨f,hfo⟩:=aF hf.1;rw[hfo];exact h.reIn hfo (iT hf.2)
  rw[M1 k6]at hf ⊢;by_cases k7:e.kind=7
  ·rw[M7 k7]at hf;simp only[M2,P8,M8,beq_iff_eq]at hf;rw[M1 (by omega),M1 (by omega),M1 (by omega),M1 (by omega),M1 (by omega),PS.make,M1 (by omega),M1 (by omega),M7 k7];exact h.mkIt (ha (by omega)) hf.1.1.2 hf.1.2
  rw[M1 k7]at hf;by_cases k8:e.kind=8
  ·rw[M7 (.inl k8)]at hf;rw[M7 k8];obtain⟨f,hfo⟩:=aF hf;rw[hfo];have htg:=h.tg _ _ hfo;exact h.reIt _ hfo rfl rfl htg
  rw[M1 k8];by_cases k9:e.kind=9
  ·rw[M7 (.inr k9)]at hf;rw[M7 k9];obtain⟨f,hfo⟩:=aF hf;rw[hfo];have htg:=h.tg _ _ hfo;exact h.reIt _ hfo rfl rfl htg
  rw[M1 (by omega)]at hf;rw[M1 k9];by_cases k10:e.kind=10
  ·rw[M7 k10]at hf ⊢;simp only[M2,Q9,M8]at hf;obtain⟨f,hfo⟩:=aF hf.1;rw[hfo]at hf ⊢;simp only[V6]at hf ⊢;have htg:=h.tg _ _ hfo;exact h.reIt _ hfo rfl rfl ⟨zU htg.1 _ _,zV _ _ htg.2 (by rcases hf.2 with(h1|h1)|h1<;>simp[h1])⟩
  rw[M1 k10]at hf ⊢;by_cases k11:e.kind=11
  ·rw[M7 k11]at hf;simp only[M2,P8,M8]at hf;rw[M1 (by omega),M1 (by omega),PS.make,M1 (by omega),M1 (by omega),M1 (by omega),M7 k11];exact h.mkSe (ha (by omega)) hf.2
  rw[M1 k11]at hf;by_cases k12:e.kind=12
  ·rw[M7 k12];exact h.unSe _
  rw[M1 k12];by_cases k13:e.kind=13
  ·rw[M7 k13];exact h.clk _
  ·exfalso;unfold Leaf.right at hr;rw[M1 k1,M1 (by omega),M1 k3,M1 k5,M1 k6,M1 k7,M1 (by omega),M1 k10,M1 k11,M1 k13]at hr;cases hr
 ·exact h
theorem PS.Inv.fold{L:Leaf}(h:s.Inv)(l:List Ev):(l.foldl (PS.step L) s).Inv:=by
 induction l generalizing s with
 |nil=>exact h
 |cons e l ih=>exact ih (h.step e)
theorem da{α:Type}{z:α}{l:ML Int α}{a:α}(h:a∈valsM z l):∃k,lkM l k=some a:=by
 unfold valsM at h;obtain⟨k,hk,rfl⟩:=N5.1 h;have hk2:k∈l.map (·.1):=(Y6 _ _).mem_iff.1 hk;refine⟨k,?_⟩;cases hl:lkM l k with
 |none=>
  have:(lkM l k).isSome=false:=by rw[hl];rfl
  exact(qU this hk2).elim
 |some a=>rfl
theorem lj{α:Type}{l:ML Int α}{c:Nat}(w:WFM l c)(h:∀k a,lkM l k=some a→1≤k∧k≤1048576):∀e∈l,inI e.1:=fun e he=>by
 have:=h e.1 e.2.1 (dw w.keys (b:=e.2.2) (by exact he));unfold inI;omega
theorem PS.Inv.toOk(h:s.Inv):s.Ok where
 w1:=h.w1
 w2:=h.w2
 w3:=h.w3
 w4:=h.w4
 b1:=lj h.w1 fun k f hk=>(h.i1 k f hk).2
 b2:=lj h.w2 fun k f hk=>(h.i2 k f hk).2
 b3:=lj h.w3 fun k f hk=>(h.i3 k f hk).2
 b4:=lj h.w4 fun k f hk=>(h.i4 k f hk).2
 l1:=S4 h.l1 (by omega)
 l2:=S4 h.l2 (by omega)
 l3:=S4 h.l3 (by omega)
 l4:=S4 h.l4 (by omega)
 tg:=fun t ht=>by
  obtain⟨k,hk⟩:=da ht;exact S4 (h.tg k t hk).2 (by omega)
theorem PS.Inv.tags(h:s.Inv)(id:Int):Srt ((lkM s.it id).getD It.z).tags∧((lkM s.it id).getD It.z).tags.length≤8:=by
 cases hl:lkM s.it id with
 |none=>exact⟨by simp[It.z,Srt],by simp[It.z]⟩
 |some t=>exact h.tg id t hl
end
section
attribute [local irreducible] WP WPl WPix Sat
variable (G:Nat→Option (List AVal))
def L0:Leaf where
 label:=fun t=> !(t==[])&&textF rightS cleanF t 64
 title:=fun t=>textF rightS cleanF t 256
 link:=fun t=>textF rightS cleanF t 512
 tag:=fun t=>(!(t==[])&&textF rightS cleanF t 64)&&isF t
 query:=fun t=> !(t==[])&&textF rightS cleanF t 512
 moment:=momF
theorem R0(t:Bs)(ht:t.length≤1000)(h:Heap):Sat (CT G) 184 [.str t] h (fun r h'=>r=.bool (rightS t)∧h'=h):=kY G t (by omega) h
theorem C0(t:Bs)(ht:t.length≤1000)(h:Heap):Sat (CT G) 111 [.str t] h (fun r h'=>r=.str (cleanF t)∧h'=h):=cQ G t (by omega) h
theorem ya(t:Bs)(h:Heap):Sat (CT G) 159 [.str t] h (fun r h'=>r=.bool (L0.tag t)∧h'=h):=by
 have hL:=jF G rightS cleanF (R0 G) (C0 G) t;have hu:L0.tag t=((!(t==[])&&textF rightS cleanF t 64)&&isF t):=rfl;rw[hu];cases hl:(!(t==[])&&textF rightS cleanF t 64)with
 |false=>
  rw[hl]at hL;refine sb [.tmp 2] Tryz.func159 ?_;intro Q hQ;refine wk trivial ?_;refine kq trivial (hL _) ?_;refine ee hQ trivial ?_;exact S6 (.bool _) ⟨by simp,rfl⟩
 |true=>
  rw[hl]at hL;have hlen:t.length≤64:=by
   rw[M2]at hl;have:=hl.2;unfold textF at this;rw[M2,M8]at this;omega
  refine sb [.tmp 2] Tryz.func159 ?_;intro Q hQ;refine wk trivial ?_;refine kq trivial (hL _) ?_;refine kq trivial (zL G t (by omega) _) ?_;refine ee hQ trivial ?_;exact S6 (.bool _) ⟨by simp,rfl⟩
theorem tI(e:Ev)(h:Heap):Sat (CT G) 79 [e.av] h (fun r h'=>r=.int .i64 (if L0.ck e then 0 else 140)∧h'=h):=
 qx G L0 e (qA G L0 (jF G rightS cleanF (R0 G) (C0 G)) (qB G rightS cleanF (R0 G) (C0 G)) (lh G rightS cleanF (R0 G) (C0 G)) (qz G L0 (lh G rightS cleanF (R0 G) (C0 G))) (ya G) (qC G rightS cleanF (R0 G) (C0 G)) (qy G) e) h
theorem i7(s:PS)(h:s.Inv)(e:Ev){H:Heap}{n:Nat}(hn:n+9≤H.length):Sat (CT G) 13 [.hp (n+8) 0 0 0,e.av] (so H n s) (fun r h'=>r=.bool (s.ok L0 e)∧h'=so H n (s.step L0 e)):=by
 obtain⟨d1,d2⟩:=h.deep e.b;obtain⟨g1,g2⟩:=h.tags e.a;have hl:=(⟨S4 h.l1 (by omega),S4 h.l2 (by omega),S4 h.l3 (by omega),S4 h.l4 (by omega)⟩:s.fo.length≤100∧s.fe.length≤100∧s.it.length≤2000∧s.se.length≤100)
 exact qw G s e (s.ok L0 e) (tgF ((lkM s.it e.a).getD It.z).tags e.s e.n) h.w3 h.w7 h.few (y7 h _ _ (by omega))
  (fun n H hn=>tH G s e (L0.ck e) 7 (s.dpt e.b) d1 (by omega) hl (tI G e) (fun n H hn=>(nq G s e.a e.s g1 (by omega) hn).mono fun r h' ⟨hr,hh⟩=>⟨⟨_,hr⟩,hh⟩) hn)
  (fun n H hn=>pi G s e g1 (by omega) hn) hn
theorem vw(es:List Ev)(hl:es.length≤1048576)(h:Heap):Sat (CT G) 11 [.sl 7 (es.map Ev.av)] h (fun r h'=>r=.hp (h.length+8) 0 0 0∧h'=so (h++PS.z.bl h.length) h.length (es.foldl (PS.step L0) PS.z)):=
 tG G es hl PS.Inv (PS.ok L0) (PS.step L0) .z (fun s e _ h=>h.step e) (fun s e _ h n H hn=>i7 G s h e hn) h
end
section
variable {s:PS} {e:Ev}
structure PS.Nam (s:PS):Prop where
 w5:WFM s.nm s.c5
 w6:WFM s.pl s.c6
 n1:∀key k,lkM s.nm key=some k→∃f,lkM s.fo k=some f∧(f.inn,f.name)=key
 n2:∀k f,lkM s.fo k=some f→lkM s.nm (f.inn,f.name)=some k
 p1:∀u k,lkM s.pl u=some k→∃f,lkM s.fe k=some f∧f.url=u
 p2:∀k f,lkM s.fe k=some f→lkM s.pl f.url=some k
 g1:∀key k,lkM s.gu key=some k→∃t,lkM s.it k=some t∧(t.feed,t.guid)=key
 g2:∀k t,lkM s.it k=some t→lkM s.gu (t.feed,t.guid)=some k
theorem PS.Nam.z:PS.z.Nam where
 w5:=.nil
 w6:=.nil
 n1:=fun _ _ h=>by cases h
 n2:=fun _ _ h=>by cases h
 p1:=fun _ _ h=>by cases h
 p2:=fun _ _ h=>by cases h
 g1:=fun _ _ h=>by cases h
 g2:=fun _ _ h=>by cases h
theorem mn{κ α:Type}[DecidableEq κ]{m:ML κ Int}{l:ML Int α}{c c':Nat}{key:κ}{a:α}{k:Int}(kf:α→κ)
  (h1:∀q j,lkM m q=some j→∃f,lkM l j=some f∧kf f=q)(h2:∀j f,lkM l j=some f→lkM m (kf f)=some j)(hk:lkM l k=none)(hm:lkM m key=none)(ha:kf a=key):
  (∀q j,lkM (upM m c key k) q=some j→∃f,lkM (upM l c' k a) j=some f∧kf f=q)∧(∀j f,lkM (upM l c' k a) j=some f→lkM (upM m c key k) (kf f)=some j):=by
 refine⟨fun q j hq=>?_,fun j f hf=>?_⟩
 ·rcases aE hq with⟨rfl,rfl⟩| ⟨hne,hq⟩
  ·exact⟨a,by rw[aS,M7 rfl],ha⟩
  ·obtain⟨f,hf,hkf⟩:=h1 q j hq;refine⟨f,?_,hkf⟩;rw[aS,M1 (by rintro rfl;rw[hk]at hf;cases hf)];exact hf
 ·rcases aE hf with⟨rfl,rfl⟩| ⟨hne,hf⟩
  ·rw[ha,aS,M7 rfl]
  ·have:=h2 j f hf;rw[aS,M1 (by intro e;rw[e,hm]at this;cases this)];exact this
theorem rE{κ α:Type}[DecidableEq κ]{m:ML κ Int}{l:ML Int α}{k:Int}{a:α}(kf:α→κ)(nm:(m.map (·.1)).Nodup)(nl:(l.map (·.1)).Nodup)
  (h1:∀q j,lkM m q=some j→∃f,lkM l j=some f∧kf f=q)(h2:∀j f,lkM l j=some f→lkM m (kf f)=some j)(hk:lkM l k=some a):
  (∀q j,lkM (dlM m (kf a)) q=some j→∃f,lkM (dlM l k) j=some f∧kf f=q)∧(∀j f,lkM (dlM l k) j=some f→lkM (dlM m (kf a)) (kf f)=some j):=by
 refine⟨fun q j hq=>?_,fun j f hf=>?_⟩
 ·obtain⟨hne,hq⟩:=cJ nm hq;obtain⟨f,hf,hkf⟩:=h1 q j hq;refine⟨f,?_,hkf⟩;rw[ft nl,M1 (by rintro rfl;rw[hk]at hf;cases hf;exact hne hkf.symm)];exact hf
 ·obtain⟨hne,hf⟩:=cJ nl hf;have:=h2 j f hf;rw[ft nm,M1 (by intro e;rw[e,h2 k a hk]at this;cases this;exact hne rfl)];exact this
theorem gC{κ α:Type}[DecidableEq κ]{m:ML κ Int}{l:ML Int α}{c:Nat}{k:Int}{a a':α}(kf:α→κ)
  (h1:∀q j,lkM m q=some j→∃f,lkM l j=some f∧kf f=q)(h2:∀j f,lkM l j=some f→lkM m (kf f)=some j)(hk:lkM l k=some a)(ha:kf a'=kf a):
  (∀q j,lkM m q=some j→∃f,lkM (upM l c k a') j=some f∧kf f=q)∧(∀j f,lkM (upM l c k a') j=some f→lkM m (kf f)=some j):=by
 refine⟨fun q j hq=>?_,fun j f hf=>?_⟩
 ·obtain⟨f,hf,hkf⟩:=h1 q j hq;by_cases hj:j=k
  ·subst hj;rw[hk]at hf;cases hf;exact⟨a',by rw[aS,M7 rfl],by rw[ha,hkf]⟩
  ·exact⟨f,by rw[aS,M1 hj];exact hf,hkf⟩
 ·rcases aE hf with⟨rfl,rfl⟩| ⟨hne,hf⟩
  ·rw[ha];exact h2 _ _ hk
  ·exact h2 j f hf
theorem vx{κ α:Type}[DecidableEq κ]{l:ML κ α}(hn:(l.map (·.1)).Nodup){p:κ×α×Nat→Bool}{y:κ}{b:α}(h:lkM l y=some b)(hp:∀n,p (y,b,n)=true):lkM (l.filter p) y=some b:=by
 obtain⟨n,hm⟩:=dG h;exact dw (hn.sublist (List.filter_sublist.map _)) (T4.2 ⟨hm,hp n⟩)
theorem rF{κ α:Type}[DecidableEq κ]{l:ML κ α}(hn:(l.map (·.1)).Nodup){p:κ×α×Nat→Bool}{y:κ}{b:α}(h:lkM (l.filter p) y=some b):lkM l y=some b∧∃n,(y,b,n)∈l∧p (y,b,n)=true:=by
 obtain⟨n,hm⟩:=dG h;have:=T4.1 hm;exact⟨dw hn this.1,n,this.1,this.2⟩
theorem pk{κ:Type}[DecidableEq κ]{m:ML κ Int}{key:κ}(h:∀j,lkM m key=some j→1≤j)(h0:(lkM m key).getD 0=0):lkM m key=none:=by
 cases hl:lkM m key with
 |none=>rfl
 |some j=>rw[hl]at h0;have:=h j hl;simp at h0;omega
theorem PS.Nam.nm1(h:s.Nam)(hI:s.Inv){key:Int×Bs}{j:Int}(hj:lkM s.nm key=some j):1≤j:=by
 obtain⟨f,hf,_⟩:=h.n1 key j hj;exact(hI.i1 _ _ hf).2.1
theorem PS.Nam.pl1(h:s.Nam)(hI:s.Inv){key:Bs}{j:Int}(hj:lkM s.pl key=some j):1≤j:=by
 obtain⟨f,hf,_⟩:=h.p1 key j hj;exact(hI.i2 _ _ hf).2.1
theorem PS.Nam.gu1(h:s.Nam)(hI:s.Inv){key:Int×Bs}{j:Int}(hj:lkM s.gu key=some j):1≤j:=by
 obtain⟨f,hf,_⟩:=h.g1 key j hj;exact(hI.i3 _ _ hf).2.1
theorem PS.Nam.unFe(h:s.Nam)(hI:s.Inv){k:Int}{f:Fe}(hk:lkM s.fe k=some f):PS.Nam (s.unfeed f):=by
 have hfk:=(hI.i2 _ _ hk).1;obtain⟨q1,q2⟩:=rE (·.url) h.w6.keys hI.w2.keys h.p1 h.p2 hk;unfold PS.unfeed;rw[bC];have hkey:∀j t,lkM s.it j=some t→t.feed=f.id→∀n,(fun e:(Int×Bs)×Int×Nat=> !(s.it.any fun d=>decide (d.2.1.feed=f.id)&&decide (e.1=(d.2.1.feed,d.2.1.guid)))) ((t.feed,t.guid),j,n)=false:=fun j t ht hf n=>by
  obtain⟨m,hm⟩:=dG ht;simp only[Bool.not_eq_false',zb1];exact⟨_,hm,by simp[hf]⟩
 exact {h with
  w6:=h.w6.dl _
  p1:=by rw[hfk];exact q1
  p2:=by rw[hfk];exact q2
  g1:=fun key j hj=>by
   obtain⟨h1,n,h2,h3⟩:=rF hI.w7.keys hj;obtain⟨t,ht,hkf⟩:=h.g1 key j h1;refine⟨t,vx hI.w3.keys ht fun n'=>?_,hkf⟩;simp only[P8,decide_eq_false_iff_not];intro hfe;have:=hkey j t ht hfe n;rw[hkf]at this;exact absurd (h3.symm.trans this) (by decide)
  g2:=fun j t ht=>by
   obtain⟨h1,n,h2,h3⟩:=rF hI.w3.keys ht;refine vx hI.w7.keys (h.g2 j t h1) fun n'=>?_
   simp only[P8,decide_eq_false_iff_not]at h3;simp only[P8,za6,M2,M8,not_and];intro d hd hdf hq;have:t.feed=d.2.1.feed:=O6 Prod.fst hq;exact h3 (this.trans hdf)}
theorem PS.Nam.step{L:Leaf}(h:s.Nam)(hI:s.Inv)(e:Ev):(s.step L e).Nam:=by
 unfold PS.step;split
 ·rename_i hok;unfold PS.ok PS.fits at hok;rw[M2]at hok;obtain⟨hck,hf⟩:=hok;unfold PS.aft PS.after;by_cases k1:e.kind=1
  ·rw[M7 k1]at hf;simp only[M2,P8,M8,beq_iff_eq]at hf;rw[M1 (by omega),M1 (by omega),M1 (by omega),M1 (by omega),M1 (by omega),M1 (by omega),M1 (by omega),M1 (by omega),M1 (by omega),PS.make,M7 k1,bC];have hn:=pk (fun j hj=>h.nm1 hI hj) hf.2;obtain⟨q1,q2⟩:=mn (c:=s.c5) (c':=s.c1) (a:=(⟨e.a,e.b,e.s⟩:Fo)) (fun f:Fo=>(f.inn,f.name)) h.n1 h.n2 (dV hf.1.1.1.1) hn rfl;exact {h with w5:=h.w5.up _ _,n1:=q1,n2:=q2}
  rw[M1 k1]at hf;by_cases k2:e.kind=2
  ·rw[M7 k2]at hf ⊢;simp only[M2,beq_iff_eq]at hf;obtain⟨f,hfo⟩:=aF hf.1;rw[hfo,bC];obtain⟨q1,q2⟩:=rE (fun f:Fo=>(f.inn,f.name)) h.w5.keys hI.w1.keys h.n1 h.n2 hfo;exact {h with w5:=h.w5.dl _,n1:=q1,n2:=q2}
  rw[M1 k2]at hf ⊢;by_cases k3:e.kind=3
  ·rw[M7 k3]at hf;simp only[M2,P8,M8,beq_iff_eq]at hf;rw[M1 (by omega),M1 (by omega),M1 (by omega),M1 (by omega),M1 (by omega),M1 (by omega),M1 (by omega),M1 (by omega),PS.make,M1 (by omega),M7 k3,bC];have hn:=pk (fun j hj=>h.pl1 hI hj) hf.2;obtain⟨q1,q2⟩:=mn (c:=s.c6) (c':=s.c2) (a:=(⟨e.a,e.b,e.s,e.t⟩:Fe)) (fun f:Fe=>f.url) h.p1 h.p2 (dV hf.1.1.1) hn rfl;exact {h with w6:=h.w6.up _ _,p1:=q1,p2:=q2}
  rw[M1 k3]at hf;by_cases k4:e.kind=4
  ·rw[M7 (.inl k4)]at hf;rw[M7 k4];obtain⟨f,hfo⟩:=aF hf;rw[hfo];exact h.unFe hI hfo
  rw[M1 k4];by_cases k5:e.kind=5
  ·rw[M7 (.inr k5)]at hf;rw[M7 k5];obtain⟨f,hfo⟩:=aF hf;rw[hfo];obtain⟨q1,q2⟩:=gC (c:=s.c2) (a':= {f with title:=e.t}) (fun f:Fe=>f.url) h.p1 h.p2 hfo rfl;exact {h with p1:=q1,p2:=q2}
  rw[M1 (by omega)]at hf;rw[M1 k5];by_cases k6:e.kind=6
  ·rw[M7 k6]at hf ⊢;simp only[M2]at hf;obtain⟨f,hfo⟩:=aF hf.1;rw[hfo,bC,bC];obtain⟨q1,q2⟩:=gC (c:=s.c2) (a':= {f with inn:=e.b}) (fun f:Fe=>f.url) h.p1 h.p2 hfo rfl;exact {h with p1:=q1,p2:=q2}
  rw[M1 k6]at hf ⊢;by_cases k7:e.kind=7
  ·rw[M7 k7]at hf;simp only[M2,P8,M8,beq_iff_eq]at hf;rw[M1 (by omega),M1 (by omega),M1 (by omega),M1 (by omega),M1 (by omega),PS.make,M1 (by omega),M1 (by omega),M7 k7];have hn:=pk (fun j hj=>h.gu1 hI hj) hf.2;obtain⟨q1,q2⟩:=mn (c:=s.c7) (c':=s.c3) (a:=(⟨e.a,e.b,e.n,e.s,e.t,e.u,false,false,[]⟩:It)) (fun t:It=>(t.feed,t.guid)) h.g1 h.g2 (dV hf.1.1.1) hn rfl;exact {h with g1:=q1,g2:=q2}
  rw[M1 k7]at hf;by_cases k8:e.kind=8
  ·rw[M7 (.inl k8)]at hf;rw[M7 k8];obtain⟨f,hfo⟩:=aF hf;rw[hfo];obtain⟨q1,q2⟩:=gC (c:=s.c3) (a':= {f with read:=e.n==1}) (fun t:It=>(t.feed,t.guid)) h.g1 h.g2 hfo rfl;exact {h with g1:=q1,g2:=q2}
  rw[M1 k8];by_cases k9:e.kind=9
  ·rw[M7 (.inr k9)]at hf;rw[M7 k9];obtain⟨f,hfo⟩:=aF hf;rw[hfo];obtain⟨q1,q2⟩:=gC (c:=s.c3) (a':= {f with star:=e.n==1}) (fun t:It=>(t.feed,t.guid)) h.g1 h.g2 hfo rfl;exact {h with g1:=q1,g2:=q2}
  rw[M1 (by omega)]at hf;rw[M1 k9];by_cases k10:e.kind=10
  ·rw[M7 k10]at hf ⊢;simp only[M2,Q9,M8]at hf;obtain⟨f,hfo⟩:=aF hf.1;rw[hfo];obtain⟨q1,q2⟩:=gC (c:=s.c3) (a':= {f with tags:=tgF f.tags e.s e.n}) (fun t:It=>(t.feed,t.guid)) h.g1 h.g2 hfo rfl;exact {h with g1:=q1,g2:=q2}
  rw[M1 k10];by_cases k12:e.kind=12
  ·rw[M7 k12];exact {h with}
  rw[M1 k12];by_cases k13:e.kind=13
  ·rw[M7 k13];exact {h with}
  rw[M1 k13,PS.make,M1 k1,M1 k3,M1 k7];split
  ·exact {h with}
  ·exact h
 ·exact h
end
section
attribute [local irreducible] WP WPl WPix Sat
variable (G:Nat→Option (List AVal))
def lgE(e:Ev):Bool:=decide ((e.s.length:Int)>1000)||(decide ((e.t.length:Int)>1000)||decide ((e.u.length:Int)>1000))
theorem qH(e:Ev)(h:Heap):Sat (CT G) 34 [e.av] h (fun r h'=>r=.bool (lgE e)∧h'=h):=by
 refine sb [.tmp 2] Tryz.func34 ?_;intro Q hQ;refine wk trivial ?_;cases k1:decide ((e.s.length:Int)>1000)with
 |true=>
  have F:=k1;try refine sq F ?_
  refine wk F ?_;refine ee hQ F ?_;exact N2 (.bool _) ⟨by simp[lgE,k1],rfl⟩
 |false=>
  cases k2:decide ((e.t.length:Int)>1000)with
  |true=>
   have F:=F2 k1 k2;(try refine sq F ?_);refine wk F ?_;refine ee hQ F ?_;exact N2 (.bool _) ⟨by simp[lgE,k1,k2],rfl⟩
  |false=>
   have F:=F2 k1 k2;(try refine sq F ?_);refine wk F ?_;refine ee hQ F ?_;exact N2 (.bool _) ⟨by simp[lgE,k1,k2],rfl⟩
def lgF(es:List Ev):Bool:=decide ((es.length:Int)>150)||es.any lgE
theorem ll(es:List Ev)(h:Heap):Sat (CT G) 8 [.sl 7 (es.map Ev.av)] h (fun r h'=>r=.bool (lgF es)∧h'=h):=by
 refine sb [.tmp 2] Tryz.func8 ?_;intro Q hQ;refine wk trivial ?_;have hel:(es.map Ev.av).length=es.length:=O0 ..;have F:=hel;try refine sq F ?_
 refine cq F (fun c0=>?_) (fun c0=>?_)<;>(try exact c0.elim)<;>(refine wk F ?_)
 ·refine ee hQ F ?_;exact S6 (.bool _) ⟨by simp[lgF];omega,rfl⟩
 ·refine lm (fun nL tL hL=>∃(k:Nat),es.length-k=nL∧[]++h=hL∧tL 0=.sl 7 (es.map Ev.av)∧tL 3=.int .i64 k∧k≤es.length∧(∀e∈es.take k,lgE e=false)) ((fun(k:Nat)=>(es.length-k:Nat)) (0)) ?_ ?_
  ·refine N6 ⟨0,rfl,rfl,?_,?_,by omega,by simp⟩;all_goals try exact zZz F
  rintro _ s2 h' ⟨k,rfl,rfl,e0,e3,hk,hp⟩ K2 hK2;simp only[aj,am,Nat.reduceEqDiff, ↓reduceIte]at e0 e3;have F:=F3 F e0 e3;refine wk F ?_;refine cq F (fun c1=>?_) (fun c1=>?_)<;>(try exact c1.elim)<;>(refine wk F ?_)
  ·have c2:k<es.length:=(by omega);obtain⟨e,he,_⟩:=ak c2;have F:=F3 F c2 he;(try refine sq F ?_);refine wk F ?_;refine kq F (qH G e _) ?_;refine cq F (fun c3=>?_) (fun c3=>?_)<;>(try exact c3.elim)<;>(refine wk F ?_)
   ·refine ee hQ F ?_;exact S6 (.bool _) ⟨by
     have:es.any lgE=true:=zb1.2 ⟨e,N0 he,c3⟩;simp[lgF,this],rfl⟩
   ·have hp1:∀x∈es.take (k+1),lgE x=false:=by
     rw[T9,he];intro x hx;simp at hx;rcases hx with hx|rfl
     ·exact hp x hx
     ·exact c3
    refine hK2 _ _ _ (N6 ⟨k+1,rfl,rfl,?_,?_,by omega,hp1⟩) (by omega);all_goals try exact zZz F
  ·rw[P5 (by omega)]at hp;refine ee hQ F ?_;exact S6 (.bool _) ⟨by
    have:es.any lgE=false:=by rw[za6];intro x hx;rw[hp x hx];simp
    simp[lgF,this];omega,rfl⟩
end
end Go.Av
