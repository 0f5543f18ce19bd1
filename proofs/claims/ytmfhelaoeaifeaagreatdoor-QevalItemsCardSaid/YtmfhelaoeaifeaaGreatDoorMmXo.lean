/- Parts. -/
import Derived.Test.YtmfhelaoeaifeaaGreatDoorMmNn
import Derived.Test.YtmfhelaoeaifeaaGreatDoorMmQt
set_option linter.unusedSimpArgs false
set_option linter.unusedVariables false
set_option linter.unusedSectionVars false
set_option linter.unnecessarySimpa false
set_option maxRecDepth 100000
set_option maxHeartbeats 16000000
namespace Go.Av
open Go Go.Proofs Go.RowKit
section
attribute [local irreducible] WP WPl WPix Sat
section
theorem mj{α:Type}{key:α→Int}{l:List α}{id:Int}{o:Option α}(h:fnd key l id=o):decide (posF key l id<0)= !o.isSome:=by
 subst h;cases hf:fnd key l id with
 |none=>rw[dz hf];rfl
 |some a=>obtain⟨k,_,h2,_⟩:=bh hf;rw[h2];simp
theorem eA{α:Type}{key:α→Int}{l:List α}{id:Int}{o:Option α}(h:fnd key l id=o):decide (posF key l id≥0)=o.isSome:=by
 subst h;cases hf:fnd key l id with
 |none=>rw[dz hf];rfl
 |some a=>obtain⟨k,_,h2,_⟩:=bh hf;rw[h2];simp
variable {s:PS} {e:Ev}
theorem zZ(hI:s.Inv):∀{k:Nat} {id:Int} {d n:Nat},(id=0∨(lkM s.fo id).isSome=true)→deepO s.fo k id=some d→s.tell.dpW k id n=n+d:=by
 intro k;induction k with
 |zero=>
  intro id d n hv hd;rw[deepO]at hd;split at hd
  ·cases hd
  ·rename_i hs;cases hd;rcases hv with hv|hv
   ·rw[St.dpW,M0 hv];rfl
   ·exact(hs hv).elim
 |succ k ih=>
  intro id d n hv hd;by_cases h0:id=0
  ·subst h0;rw[deepO,hI.no0]at hd;cases hd;rw[St.dpW,M0 rfl];rfl
  ·obtain⟨f,hf⟩:=N5.1 (hv.resolve_left h0);rw[deepO,hf]at hd;simp only[N2]at hd;obtain⟨j,hj,rfl⟩:=hd;rw[St.dpW,L5 h0,hI.fndFo,hf];simp only;rw[ih (hI.u1 _ _ hf) hj];omega
theorem yp(hI:s.Inv)(id:Int):s.tell.deep id=s.dpt id:=by
 unfold St.deep;rw[hI.fndFo];obtain⟨h1,_⟩:=hI.deep id;cases hf:lkM s.fo id with
 |none=>
  rw[deepO,hf]at h1;simp only[N7]at h1;exact h1
 |some f=>
  simp only;rw[zZ hI (.inr (by rw[hf];rfl)) h1];omega
theorem Aa(hI:s.Inv)(hN:s.Nam)(i:Int)(g:Bs):(!s.tell.nmd i g)=((lkM s.nm (i,g)).getD 0==0):=by
 have h1:s.tell.nmd i g=(lkM s.nm (i,g)).isSome:=by
  unfold St.nmd;rw[P5,X9];constructor
  ·rintro⟨f,hf,hp⟩;obtain⟨k,hk⟩:=aP hf;have:=hN.n2 k f hk;simp only[M1]at hp;rw[hp.1,hp.2]at this;rw[this];rfl
  ·intro hs;obtain⟨k,hk⟩:=N5.1 hs;obtain⟨f,hf,hp⟩:=hN.n1 _ _ hk;refine⟨f,bD hf,?_⟩;simp only[M1];cases hp;exact⟨rfl,rfl⟩
 rw[h1];cases hl:lkM s.nm (i,g)with
 |none=>rfl
 |some j=>
  have:=hN.nm1 hI hl;rw[P5];simp;omega
theorem Ab(hI:s.Inv)(hN:s.Nam)(u:Bs):s.tell.plc u=(lkM s.pl u).getD 0:=by
 unfold St.plc;cases hf:s.tell.fe.find? fun f=>decide (f.url=u)with
 |none=>
  cases hl:lkM s.pl u with
  |none=>rfl
  |some k=>
   obtain⟨f,hk,hu⟩:=hN.p1 _ _ hl;have:=X5.1 hf f (bD hk);simp[hu]at this
 |some f=>
  have h1:=List.find?_some hf;obtain⟨k,hk⟩:=aP (za6 hf);simp only[M1]at h1;have:=hN.p2 k f hk;rw[h1]at this;rw[this];simp only[R4,Q3];exact(hI.i2 _ _ hk).1
theorem Ac(hI:s.Inv)(hN:s.Nam)(i:Int)(g:Bs):s.tell.gid i g=(lkM s.gu (i,g)).getD 0:=by
 unfold St.gid;cases hf:s.tell.it.find? fun t=>decide (t.feed=i∧t.guid=g)with
 |none=>
  cases hl:lkM s.gu (i,g)with
  |none=>rfl
  |some k=>
   obtain⟨t,hk,hu⟩:=hN.g1 _ _ hl;have:=X5.1 hf t (bD hk);cases hu;simp at this
 |some t=>
  have h1:=List.find?_some hf;obtain⟨k,hk⟩:=aP (za6 hf);simp only[M1]at h1;have:=hN.g2 k t hk;rw[h1.1,h1.2]at this;rw[this];simp only[R4,Q3];exact(hI.i3 _ _ hk).1
theorem Ad(hI:s.Inv){a:Int}(ha:a≠0):s.tell.emp a=((lkM s.he a).getD 0==0):=by
 have h1:=hI.hd a ha;have hz:∀{α:Type} (z:α) (w:α→Int) (p:α→Bool) (l:ML Int α),(∀x,w x=if p x then 1 else 0)→(l.map (·.1)).Nodup→(((valsM z l).any p)=false↔sumM w l=0):=fun {α} z w p l hw hn=>by
  have hnn:∀x,0≤w x:=fun x=>by rw[hw];split<;>omega
  constructor
  ·intro h;have:∀e∈l,w e.2.1=0:=fun e he=>by
    have hm:e.2.1∈valsM z l:=bD (bH hn (b:=e.2.2) he);have:=V8.1 h _ hm;rw[hw];simp[this]
   clear h hn;induction l with
   |nil=>rfl
   |cons e l ih=>rw[sumM,this e (by simp),ih fun x hx=>this x (by simp[hx])];rfl
  ·intro h;rw[V8];intro x hx;obtain⟨k,hk⟩:=aP hx;have:=nh hnn (by omega:sumM w l≤0) hk;rw[hw]at this;intro hp;rw[M0 hp]at this;cases this
 have hz1:=hz Fo.z (inFo a) (fun f=>decide (f.inn=a)) s.fo (fun x=>by unfold inFo;simp) hI.w1.keys;have hz2:=hz Fe.z (inFe a) (fun f=>decide (f.inn=a)) s.fe (fun x=>by unfold inFe;simp) hI.w2.keys;have n1:=cC (fQ a) s.fo;have n2:=cC (fS a) s.fe;rw[h1];unfold St.emp
 change (!((valsM Fo.z s.fo).any fun f=>decide (f.inn=a))&& !((valsM Fe.z s.fe).any fun f=>decide (f.inn=a)))=_
 rw[P5];simp only[L6,P6,beq_iff_eq];rw[hz1,hz2];omega
theorem rZ(s:PS):s.tell.fo.length=s.fo.length∧s.tell.fe.length=s.fe.length∧s.tell.it.length=s.it.length∧s.tell.se.length=s.se.length:=⟨aK _,aK _,aK _,aK _⟩
theorem fY(n m:Nat):decide ((n:Int)<(m:Int))=decide (n<m):=by rw[decide_eq_decide];omega
theorem Gr(hI:s.Inv)(hN:s.Nam)(hck:L0.ck e=true)(k:e.kind=1):s.ok L0 e=((decide (posF (·.id) s.tell.fo e.a<0))&&(decide ((s.tell.fo.length:Int)<64))&&(s.within e.b)&&(decide ((s.tell.deep e.b:Int)<7))&&(!s.tell.nmd e.b e.s)):=by
 have q1:decide ((s.fo.length:Int)<64)=decide (s.fo.length<64):=fY _ _;have q2:decide (((s.dpt e.b):Int)<7)=decide ((s.dpt e.b)<7):=fY _ _;unfold PS.ok PS.fits;rw[hck,M0 k,mj (hI.fndFo e.a),Aa hI hN,yp hI,(rZ s).1,S9,q1,q2]
theorem Gs(hI:s.Inv)(hN:s.Nam)(hck:L0.ck e=true)(k:e.kind=2):s.ok L0 e=((decide (posF (·.id) s.tell.fo e.a≥0))&&(s.tell.emp e.a)):=by
 have ha:1≤e.a:=by
  unfold Leaf.ck at hck;simp only[L6]at hck;exact(ni hck.1 (by omega)).1
 unfold PS.ok PS.fits;rw[hck,L5 (by omega),M0 k,eA (hI.fndFo e.a),Ad hI (by omega),S9]
theorem Gt(hI:s.Inv)(hN:s.Nam)(hck:L0.ck e=true)(k:e.kind=3):s.ok L0 e=((decide (posF (·.id) s.tell.fe e.a<0))&&(decide ((s.tell.fe.length:Int)<64))&&(s.within e.b)&&(s.tell.plc e.s==0)):=by
 have q1:decide ((s.fe.length:Int)<64)=decide (s.fe.length<64):=fY _ _;unfold PS.ok PS.fits;rw[hck,L5 (by omega),L5 (by omega),M0 k,mj (hI.fndFe e.a),Ab hI hN,(rZ s).2.1,S9,q1]
theorem Gu(hI:s.Inv)(hN:s.Nam)(hck:L0.ck e=true)(k:e.kind=4):s.ok L0 e=((decide (posF (·.id) s.tell.fe e.a≥0))):=by
 unfold PS.ok PS.fits;rw[hck,L5 (by omega),L5 (by omega),L5 (by omega),M0 (.inl k),eA (hI.fndFe e.a),S9]
theorem Gv(hI:s.Inv)(hN:s.Nam)(hck:L0.ck e=true)(k:e.kind=5):s.ok L0 e=((decide (posF (·.id) s.tell.fe e.a≥0))):=by
 unfold PS.ok PS.fits;rw[hck,L5 (by omega),L5 (by omega),L5 (by omega),M0 (.inr k),eA (hI.fndFe e.a),S9]
theorem Gw(hI:s.Inv)(hN:s.Nam)(hck:L0.ck e=true)(k:e.kind=6):s.ok L0 e=((decide (posF (·.id) s.tell.fe e.a≥0))&&(s.within e.b)):=by
 unfold PS.ok PS.fits;rw[hck,L5 (by omega),L5 (by omega),L5 (by omega),L5 (by omega),M0 k,eA (hI.fndFe e.a),S9]
theorem Gx(hI:s.Inv)(hN:s.Nam)(hck:L0.ck e=true)(k:e.kind=7):s.ok L0 e=((decide (posF (·.id) s.tell.it e.a<0))&&(decide ((s.tell.it.length:Int)<1024))&&(decide (posF (·.id) s.tell.fe e.b≥0))&&(s.tell.gid e.b e.s==0)):=by
 have q1:decide ((s.it.length:Int)<1024)=decide (s.it.length<1024):=fY _ _;unfold PS.ok PS.fits;rw[hck,L5 (by omega),L5 (by omega),L5 (by omega),L5 (by omega),L5 (by omega),M0 k,mj (hI.fndIt e.a),eA (hI.fndFe e.b),Ac hI hN,(rZ s).2.2.1,S9,q1]
theorem Gy(hI:s.Inv)(hN:s.Nam)(hck:L0.ck e=true)(k:e.kind=8):s.ok L0 e=((decide (posF (·.id) s.tell.it e.a≥0))):=by
 unfold PS.ok PS.fits;rw[hck,L5 (by omega),L5 (by omega),L5 (by omega),L5 (by omega),L5 (by omega),L5 (by omega),M0 (.inl k),eA (hI.fndIt e.a),S9]
theorem Gz(hI:s.Inv)(hN:s.Nam)(hck:L0.ck e=true)(k:e.kind=9):s.ok L0 e=((decide (posF (·.id) s.tell.it e.a≥0))):=by
 unfold PS.ok PS.fits;rw[hck,L5 (by omega),L5 (by omega),L5 (by omega),L5 (by omega),L5 (by omega),L5 (by omega),M0 (.inr k),eA (hI.fndIt e.a),S9]
theorem Co(hI:s.Inv)(hN:s.Nam)(hck:L0.ck e=true)(k:e.kind=11):s.ok L0 e=((decide (posF (·.id) s.tell.se e.a<0))&&(decide ((s.tell.se.length:Int)<32))):=by
 have q1:decide ((s.se.length:Int)<32)=decide (s.se.length<32):=fY _ _;unfold PS.ok PS.fits;rw[hck,L5 (by omega),L5 (by omega),L5 (by omega),L5 (by omega),L5 (by omega),L5 (by omega),L5 (by omega),L5 (by omega),M0 k,mj (hI.fndSe e.a),(rZ s).2.2.2,S9,q1]
theorem Cp(hI:s.Inv)(hN:s.Nam)(hck:L0.ck e=true)(k:e.kind=12):s.ok L0 e=((decide (posF (·.id) s.tell.se e.a≥0))):=by
 unfold PS.ok PS.fits;rw[hck,L5 (by omega),L5 (by omega),L5 (by omega),L5 (by omega),L5 (by omega),L5 (by omega),L5 (by omega),L5 (by omega),L5 (by omega),M0 k,eA (hI.fndSe e.a),S9]
theorem GA(hI:s.Inv)(hN:s.Nam)(hck:L0.ck e=true)(k1:¬e.kind=1)(k2:¬e.kind=2)(k3:¬e.kind=3)(k4:¬e.kind=4)(k5:¬e.kind=5)(k6:¬e.kind=6)(k7:¬e.kind=7)(k8:¬e.kind=8)(k9:¬e.kind=9)(k11:¬e.kind=11)(k12:¬e.kind=12)(k10:¬e.kind=10):s.ok L0 e=decide (e.n≥s.clock):=by
 unfold PS.ok PS.fits;rw[hck,L5 k1,L5 k2,L5 k3,L5 (by omega),L5 k6,L5 k7,L5 (by omega),L5 k10,L5 k11,L5 k12,S9]
end
variable (G:Nat→Option (List AVal))
theorem bb(hc:GClo (CT G)){s:PS}(hI:s.Inv)(hN:s.Nam)(e:Ev)(h:Heap):Sat (CT G) 59 [s.tell.av,e.av] h (fun r h'=>r=.bool (s.ok L0 e)∧h'=h):=by
 have hl1:s.tell.fo.length≤100000:=by have:=hI.up.l1;omega
 have hl2:s.tell.fe.length≤100000:=by have:=hI.up.l2;omega
 have hl3:s.tell.it.length≤100000:=by have:=hI.up.l3;omega
 have hl4:s.tell.se.length≤100000:=by have:=aK (z:=Se.z) s.se;have:=hI.l4;show(valsM Se.z s.se).length≤_;omega
 have hm1:(s.tell.fo.map Fo.av).length=s.tell.fo.length:=L8 ..;have hm2:(s.tell.fe.map Fe.av).length=s.tell.fe.length:=L8 ..;have hm3:(s.tell.it.map It.av).length=s.tell.it.length:=L8 ..;have hm4:(s.tell.se.map Se.av).length=s.tell.se.length:=L8 ..;have hcl:s.tell.clock=s.clock:=rfl;have hB:=bK G s.tell e.b hl1;have hw:=eA (hI.fndFo e.b);have hC:=rS G hc e;cases hck:L0.ck e with
 |false=>
  rw[hck]at hC;refine sb [.tmp 4] Tryz.func59 ?_;intro Q hQ;(repeat (first|refine w1 (fun K hK=>?_)|refine w2 ?_|refine w3 ?_| ((first|refine w4 ?_|refine wD ?_|refine w5 ?_|refine w6 ?_|refine w7 ?_);try refine sq trivial ?_)| (refine w8 ?_;refine sq trivial ?_;refine w9 ?_)| ((first|refine hK _ _ (w0 ?_)| (clear hK K;refine hK _ _ (w0 ?_))| (clear hK K;clear hK K;refine hK _ _ (w0 ?_)));clear hK K)))
  refine(hC _).mono ?_;rintro r h' ⟨rfl,rfl⟩;try refine sq trivial ?_
  (repeat (first|refine w1 (fun K hK=>?_)|refine w2 ?_|refine w3 ?_| ((first|refine w4 ?_|refine wD ?_|refine w5 ?_|refine w6 ?_|refine w7 ?_);try refine sq trivial ?_)| (refine w8 ?_;refine sq trivial ?_;refine w9 ?_)| ((first|refine hK _ _ (w0 ?_)| (clear hK K;refine hK _ _ (w0 ?_))| (clear hK K;clear hK K;refine hK _ _ (w0 ?_)));clear hK K)))
  refine ee hQ trivial ?_;exact L7 (.bool _) ⟨by simp[PS.ok,PS.fits,hck],rfl⟩
 |true=>
  rw[hck]at hC;refine sb [.tmp 4] Tryz.func59 ?_;intro Q hQ;(repeat (first|refine w1 (fun K hK=>?_)|refine w2 ?_|refine w3 ?_| ((first|refine w4 ?_|refine wD ?_|refine w5 ?_|refine w6 ?_|refine w7 ?_);try refine sq trivial ?_)| (refine w8 ?_;refine sq trivial ?_;refine w9 ?_)))
  refine hK _ _ (M2 ?_);clear hK K;(repeat (first|refine w1 (fun K hK=>?_)|refine w2 ?_|refine w3 ?_| ((first|refine w4 ?_|refine wD ?_|refine w5 ?_|refine w6 ?_|refine w7 ?_);try refine sq trivial ?_)| (refine w8 ?_;refine sq trivial ?_;refine w9 ?_)))
  refine(hC _).mono ?_;rintro r h' ⟨rfl,rfl⟩;try refine sq trivial ?_
  (repeat (first|refine w1 (fun K hK=>?_)|refine w2 ?_|refine w3 ?_| ((first|refine w4 ?_|refine wD ?_|refine w5 ?_|refine w6 ?_|refine w7 ?_);try refine sq trivial ?_)| (refine w8 ?_;refine sq trivial ?_;refine w9 ?_)| ((first|refine hK _ _ (w0 ?_)| (clear hK K;refine hK _ _ (w0 ?_))| (clear hK K;clear hK K;refine hK _ _ (w0 ?_)));clear hK K)))
  generalize hH:h++[.row 36 9 0 [s.tell.av],.row 62 7 0 [e.av]]=H;have key:∀(T:Env) (y:Bool),T 2=.hp h.length 0 0 0→T 3=.hp (h.length+1) 0 0 0→T 5=.bool y→y=s.within e.b→K T H:=by
   subst hH;intro T y e2 e3 e5 hy;by_cases k1:e.kind=1
   ·have hres:s.ok L0 e=((decide (posF (·.id) s.tell.fo e.a<0))&&(decide ((s.tell.fo.length:Int)<64))&&(y)&&(decide ((s.tell.deep e.b:Int)<7))&&(!s.tell.nmd e.b e.s)):=(by subst hy;exact Gr hI hN hck k1);have ht:=JC (decide (posF (·.id) s.tell.fo e.a<0)) (decide ((s.tell.fo.length:Int)<64)) (y) (decide ((s.tell.deep e.b:Int)<7));rcases ht with ht|ht|ht|ht|ht;all_goals (
     have F:=gJ e2 e3 e5 hm1 hm2 hm3 hm4 hcl k1 ht;refine hK _ _ (M2 ?_);clear hK K;refine wk F ?_;repeat (first|refine kq F (bK G s.tell e.a hl1 _) ?_|refine kq F (ut G s.tell e.b hl1 _) ?_|refine kq F (rV G s.tell e.b e.s hl1 _) ?_)
     refine ee hQ F ?_;refine L7 (.bool _) ⟨?_,rfl⟩;rw[hres];simp[ht])
   by_cases k2:e.kind=2
   ·have hres:s.ok L0 e=((decide (posF (·.id) s.tell.fo e.a≥0))&&(s.tell.emp e.a)):=(by subst hy;exact Gs hI hN hck k2);have ht:=nC (decide (posF (·.id) s.tell.fo e.a≥0));rcases ht with ht|ht;all_goals (
     have F:=gJ e2 e3 e5 hm1 hm2 hm3 hm4 hcl k2 ht;refine hK _ _ (M2 ?_);clear hK K;refine wk F ?_;repeat (first|refine kq F (bK G s.tell e.a hl1 _) ?_|refine kq F (rW G s.tell e.a hl1 hl2 _) ?_)
     refine ee hQ F ?_;refine L7 (.bool _) ⟨?_,rfl⟩;rw[hres];simp[ht])
   by_cases k3:e.kind=3
   ·have hres:s.ok L0 e=((decide (posF (·.id) s.tell.fe e.a<0))&&(decide ((s.tell.fe.length:Int)<64))&&(y)&&(s.tell.plc e.s==0)):=(by subst hy;exact Gt hI hN hck k3);have ht:=uo (decide (posF (·.id) s.tell.fe e.a<0)) (decide ((s.tell.fe.length:Int)<64)) (y);rcases ht with ht|ht|ht|ht;all_goals (
     have F:=gJ e2 e3 e5 hm1 hm2 hm3 hm4 hcl k3 ht;refine hK _ _ (M2 ?_);clear hK K;refine wk F ?_;repeat (first|refine kq F (cZ G s.tell e.a hl2 _) ?_|refine kq F (rU G s.tell e.s hl2 _) ?_)
     refine ee hQ F ?_;refine L7 (.bool _) ⟨?_,rfl⟩;rw[hres];simp[ht])
   by_cases k4:e.kind=4
   ·have hres:s.ok L0 e=((decide (posF (·.id) s.tell.fe e.a≥0))):=(by subst hy;exact Gu hI hN hck k4);all_goals (
     have F:=F9 e2 e3 e5 hm1 hm2 hm3 hm4 hcl k4;refine hK _ _ (M2 ?_);clear hK K;refine wk F ?_;repeat (first|refine kq F (cZ G s.tell e.a hl2 _) ?_)
     refine ee hQ F ?_;refine L7 (.bool _) ⟨?_,rfl⟩;rw[hres];try rfl)
   by_cases k5:e.kind=5
   ·have hres:s.ok L0 e=((decide (posF (·.id) s.tell.fe e.a≥0))):=(by subst hy;exact Gv hI hN hck k5);all_goals (
     have F:=F9 e2 e3 e5 hm1 hm2 hm3 hm4 hcl k5;refine hK _ _ (M2 ?_);clear hK K;refine wk F ?_;repeat (first|refine kq F (cZ G s.tell e.a hl2 _) ?_)
     refine ee hQ F ?_;refine L7 (.bool _) ⟨?_,rfl⟩;rw[hres];try rfl)
   by_cases k6:e.kind=6
   ·have hres:s.ok L0 e=((decide (posF (·.id) s.tell.fe e.a≥0))&&(y)):=(by subst hy;exact Gw hI hN hck k6);have ht:=nC (decide (posF (·.id) s.tell.fe e.a≥0));rcases ht with ht|ht;all_goals (
     have F:=gJ e2 e3 e5 hm1 hm2 hm3 hm4 hcl k6 ht;refine hK _ _ (M2 ?_);clear hK K;refine wk F ?_;repeat (first|refine kq F (cZ G s.tell e.a hl2 _) ?_)
     refine ee hQ F ?_;refine L7 (.bool _) ⟨?_,rfl⟩;rw[hres];simp[ht])
   by_cases k7:e.kind=7
   ·have hres:s.ok L0 e=((decide (posF (·.id) s.tell.it e.a<0))&&(decide ((s.tell.it.length:Int)<1024))&&(decide (posF (·.id) s.tell.fe e.b≥0))&&(s.tell.gid e.b e.s==0)):=(by subst hy;exact Gx hI hN hck k7);have ht:=uo (decide (posF (·.id) s.tell.it e.a<0)) (decide ((s.tell.it.length:Int)<1024)) (decide (posF (·.id) s.tell.fe e.b≥0));rcases ht with ht|ht|ht|ht;all_goals (
     have F:=gJ e2 e3 e5 hm1 hm2 hm3 hm4 hcl k7 ht;refine hK _ _ (M2 ?_);clear hK K;refine wk F ?_;repeat (first|refine kq F (dV G s.tell e.a hl3 _) ?_|refine kq F (cZ G s.tell e.b hl2 _) ?_|refine kq F (uq G s.tell e.b e.s hl3 _) ?_)
     refine ee hQ F ?_;refine L7 (.bool _) ⟨?_,rfl⟩;rw[hres];simp[ht])
   by_cases k8:e.kind=8
   ·have hres:s.ok L0 e=((decide (posF (·.id) s.tell.it e.a≥0))):=(by subst hy;exact Gy hI hN hck k8);all_goals (
     have F:=F9 e2 e3 e5 hm1 hm2 hm3 hm4 hcl k8;refine hK _ _ (M2 ?_);clear hK K;refine wk F ?_;repeat (first|refine kq F (dV G s.tell e.a hl3 _) ?_)
     refine ee hQ F ?_;refine L7 (.bool _) ⟨?_,rfl⟩;rw[hres];try rfl)
   by_cases k9:e.kind=9
   ·have hres:s.ok L0 e=((decide (posF (·.id) s.tell.it e.a≥0))):=(by subst hy;exact Gz hI hN hck k9);all_goals (
     have F:=F9 e2 e3 e5 hm1 hm2 hm3 hm4 hcl k9;refine hK _ _ (M2 ?_);clear hK K;refine wk F ?_;repeat (first|refine kq F (dV G s.tell e.a hl3 _) ?_)
     refine ee hQ F ?_;refine L7 (.bool _) ⟨?_,rfl⟩;rw[hres];try rfl)
   by_cases k11:e.kind=11
   ·have hres:s.ok L0 e=((decide (posF (·.id) s.tell.se e.a<0))&&(decide ((s.tell.se.length:Int)<32))):=(by subst hy;exact Co hI hN hck k11);have ht:=nC (decide (posF (·.id) s.tell.se e.a<0));rcases ht with ht|ht;all_goals (
     have F:=gJ e2 e3 e5 hm1 hm2 hm3 hm4 hcl k11 ht;refine hK _ _ (M2 ?_);clear hK K;refine wk F ?_;repeat (first|refine kq F (fG G s.tell e.a hl4 _) ?_)
     refine ee hQ F ?_;refine L7 (.bool _) ⟨?_,rfl⟩;rw[hres];simp[ht])
   by_cases k12:e.kind=12
   ·have hres:s.ok L0 e=((decide (posF (·.id) s.tell.se e.a≥0))):=(by subst hy;exact Cp hI hN hck k12);all_goals (
     have F:=F9 e2 e3 e5 hm1 hm2 hm3 hm4 hcl k12;refine hK _ _ (M2 ?_);clear hK K;refine wk F ?_;repeat (first|refine kq F (fG G s.tell e.a hl4 _) ?_)
     refine ee hQ F ?_;refine L7 (.bool _) ⟨?_,rfl⟩;rw[hres];try rfl)
   by_cases k10:e.kind=10
   ·have hIt:=dV G s.tell e.a hl3;have dt:∀i:Decidable True, @decide True i=true:=fun i=>P1 trivial
    have df:∀i:Decidable False, @decide False i=false:=fun i=>O4 id
    cases hit:lkM s.it e.a with
    |none=>
     have hfi:fnd (·.id) s.tell.it e.a=none:=(by rw[hI.fndIt,hit]);rw[dz hfi]at hIt;have dm:decide ((-1:Int)≥0)=false:=rfl;have F:=F7 e2 e3 e5 hm3 k10 dm df;refine hK _ _ (M2 ?_);clear hK K;refine wk F ?_;refine kq F (hIt _) ?_;(try refine wk F ?_);refine ee hQ F ?_;exact L7 (.bool _) ⟨by simp[PS.ok,PS.fits,hck,k10,hit],rfl⟩
    |some t=>
     have hfi:fnd (·.id) s.tell.it e.a=some t:=(by rw[hI.fndIt,hit]);obtain⟨q,p1,p2,p3⟩:=bh hfi;rw[p2]at hIt;have hql:q<s.tell.it.length:=(f9.1 p1).1;have hqg:decide ((q:Int)≥0)=true:=(by simp);have htl:=(hI.tg _ _ hit).2;have htm:(t.tags.map AVal.str).length=t.tags.length:=L8 ..;have hG:=ur G t.tags e.s (by omega);have hn:=two (e.n==0);rcases hn with hn|hn
     ·have F:=gJ e2 e3 e5 hm3 k10 p1 hql hqg dt hn;refine hK _ _ (M2 ?_);clear hK K;refine wk F ?_;refine kq F (hIt _) ?_;(try refine wk F ?_);refine ee hQ F ?_;refine L7 (.bool _) ⟨?_,rfl⟩;simp at hn;simp[PS.ok,PS.fits,hck,k10,hit,hn]
     ·have hg:=two (decide (e.s∈t.tags));rcases hg with hg|hg
      ·rw[hg]at hG;have F:=F2 (F9 e2 e3 e5 hm3 k10 p1 hql hqg dt) (F2 hn hg);refine hK _ _ (M2 ?_);clear hK K;refine wk F ?_;refine kq F (hIt _) ?_;(try refine wk F ?_);refine aE (hG _) ?_;refine sq F ?_;refine wk F ?_;refine ee hQ F ?_;refine L7 (.bool _) ⟨?_,rfl⟩;simp at hg;simp[PS.ok,PS.fits,hck,k10,hit,hg]
      ·rw[hg]at hG;have F:=F2 (F9 e2 e3 e5 hm3 htm k10 p1 hql hqg) (F3 dt hn hg);refine hK _ _ (M2 ?_);clear hK K;refine wk F ?_;refine kq F (hIt _) ?_;(try refine wk F ?_);refine aE (hG _) ?_;refine sq F ?_;refine wk F ?_;refine ee hQ F ?_;refine L7 (.bool _) ⟨?_,rfl⟩;simp at hn hg;have q8:decide ((t.tags.length:Int)<8)=decide (t.tags.length<8):=fY _ _;simp[PS.ok,PS.fits,hck,k10,hit,hg,hn];try omega
   have hres:=GA hI hN hck k1 k2 k3 k4 k5 k6 k7 k8 k9 k11 k12 k10;have n1:(e.kind==1)=false:=(by simp[k1]);have n2:(e.kind==2)=false:=(by simp[k2]);have n3:(e.kind==3)=false:=(by simp[k3]);have n4:(e.kind==4)=false:=(by simp[k4]);have n5:(e.kind==5)=false:=(by simp[k5]);have n6:(e.kind==6)=false:=(by simp[k6]);have n7:(e.kind==7)=false:=(by simp[k7]);have n8:(e.kind==8)=false:=(by simp[k8]);have n9:(e.kind==9)=false:=(by simp[k9]);have n11:(e.kind==11)=false:=(by simp[k11]);have n12:(e.kind==12)=false:=(by simp[k12]);have n10:(e.kind==10)=false:=(by simp[k10]);have F:=F2 (F9 e2 e3 e5 hcl n1 n2 n3 n4 n5) (F7 n6 n7 n8 n9 n11 n12 n10);refine hK _ _ (M2 ?_);clear hK K;refine wk F ?_;refine ee hQ F ?_;exact L7 (.bool _) ⟨by rw[hres],rfl⟩
  subst hH;(first|refine gq trivial (fun g=>?_) (fun g=>?_)|refine pq trivial (fun g=>?_) (fun g=>?_))<;>(try exact g.elim)<;>(try refine sq trivial ?_)<;>((repeat (first|refine w1 (fun K hK=>?_)|refine w2 ?_|refine w3 ?_| ((first|refine w4 ?_|refine wD ?_|refine w5 ?_|refine w6 ?_|refine w7 ?_);try refine sq trivial ?_)| (refine w8 ?_;refine sq trivial ?_;refine w9 ?_)| ((first|refine hK _ _ (w0 ?_)| (clear hK K;refine hK _ _ (w0 ?_))| (clear hK K;clear hK K;refine hK _ _ (w0 ?_)));clear hK K))))
  ·exact key _ true (by exact zq trivial) (by exact zq trivial) (by exact zq trivial) (by simp[PS.within,g])
  ·refine(hB _).mono ?_;rintro r h' ⟨rfl,rfl⟩;(try refine sq trivial ?_);(repeat (first|refine w1 (fun K hK=>?_)|refine w2 ?_|refine w3 ?_| ((first|refine w4 ?_|refine wD ?_|refine w5 ?_|refine w6 ?_|refine w7 ?_);try refine sq trivial ?_)| (refine w8 ?_;refine sq trivial ?_;refine w9 ?_)| ((first|refine hK _ _ (w0 ?_)| (clear hK K;refine hK _ _ (w0 ?_))| (clear hK K;clear hK K;refine hK _ _ (w0 ?_)));clear hK K)))
   exact key _ (decide (posF (·.id) s.tell.fo e.b≥0)) (by exact zq trivial) (by exact zq trivial) (by exact zq trivial) (by rw[hw];simp[PS.within,g])
end
section
attribute [local irreducible] WP WPl WPix Sat
def IsL(H:Heap)(n0 e n:Nat)(rows:List AVal)(v:AVal):Prop:=
 (rows=[]∧v=.ez)∨∃p w,v=.hs p w 0 rows.length true∧getRow H p w=some (e,n,rows)∧n0≤p
section
variable {H H':Heap} {n0 e n:Nat} {rows:List AVal} {v:AVal}
theorem IsL.ez(H:Heap)(n0 e n:Nat):IsL H n0 e n [] .ez:=.inl ⟨rfl,rfl⟩
theorem IsL.cel(h:IsL H n0 e n rows v):v.cells=[v]:=by
 rcases h with⟨_,rfl⟩| ⟨p,w,rfl,_⟩<;>rfl
theorem IsL.lie(h:IsL H n0 e n rows v):v.lies=true:=by
 rcases h with⟨_,rfl⟩| ⟨p,w,rfl,_⟩<;>rfl
theorem IsL.elems(h:IsL H n0 e n rows v):elemsOf H n v=some rows:=by
 rcases h with⟨rfl,rfl⟩| ⟨p,w,rfl,h1,_⟩
 ·rfl
 ·exact j3 h1 rfl
theorem IsL.keep(h:IsL H n0 e n rows v)(hk:∀p w,n0≤p→∀x,getRow H p w=some x→getRow H' p w=some x):IsL H' n0 e n rows v:=by
 rcases h with h| ⟨p,w,h1,h2,h3⟩
 ·exact .inl h
 ·exact .inr ⟨p,w,h1,hk p w h3 _ h2,h3⟩
theorem IsL.set(h:IsL H n0 e n rows v){q:Nat}(b:Blk)(hq:q<n0):IsL (H.set q b) n0 e n rows v:=h.keep fun p w hp x hx=>by rw[bi _ _ (by omega)];exact hx
theorem IsL.old(h:IsL H n0 e n rows v)(hf:FrN H.length H H'):IsL H' n0 e n rows v:=h.keep fun p w hp x hx=>by
 have:=ba hx;unfold getRow at hx ⊢;rw[hf p this];exact hx
theorem IsL.frz(h:IsL H n0 e n rows v){N:Nat}(hN:N≤n0)(hc:∀r∈rows,Clo N r)(hs:∀r∈rows,∀c∈r.cells,c.sto=true):Frz H N v (.sl n rows):=by
 rcases h with⟨rfl,rfl⟩| ⟨p,w,rfl,h1,h2⟩
 ·exact .ezs _
 ·exact za3 (by omega) h1 rfl hc hs
theorem FrN.row{p w:Nat}(h:FrN n0 H H')(hp:p<n0):getRow H' p w=getRow H p w:=by unfold getRow;rw[h p hp]
end
theorem FrN.r3{h h1:Heap}{e1 m1 e2 m2 e3 m3:Nat}{a b c:List AVal}(f:FrN (h.length+3) (h++[.row e1 m1 0 a,.row e2 m2 0 b,.row e3 m3 0 c]) h1):
  getRow h1 h.length 0=some (e1,m1,a)∧getRow h1 (h.length+1) 0=some (e2,m2,b)∧getRow h1 (h.length+2) 0=some (e3,m3,c):=by
 refine⟨?_,?_,?_⟩
 ·rw[f.row (by omega),aJ _ rfl];rfl
 ·rw[f.row (by omega),bd _ rfl];rfl
 ·rw[f.row (by omega),bd _ rfl];rfl
section
variable {C:Ctx}
@[go_sem] theorem Cq{T:TypeId}{k:AVal→Prop}:rowsV C T 0 [] [] k=need (elmT C.P T) fun e=>need (szOf C.P e) fun _=>k .ez:=by simp[rowsV]
@[go_sem] theorem J3{ops:Array Oper}{x y:Operand}{T T':TypeId}{ty:TypeId}{pos:String}{aft:Array Edge}{dst:Option Tmp}{t:Env}{h:Heap}{K:AVal→Heap→Prop}:
  wpOperV C ops ⟨dst,.call ⟨.builtin .append, #[x,y], #[T,T']⟩,ty,pos,aft,none⟩ t h K=appK C T T' (aev C.G t x) (aev C.G t y) h K:=(rfl)
theorem wX{T T' e n by' n0:Nat}{v y:AVal}{rows ys:List AVal}{h:Heap}{k:AVal→Heap→Prop}(hL:IsL h n0 e n rows v)(hn0:n0≤h.length)(hT:T'=T∨strT C.P T'=true)(he:elmT C.P T=some e)(hn:szOf C.P e=some n)(hb:byT C.P e=some by')
  (hz:(zroT C.P e).map (fun z=>z.cells.length)=some n)(h0:0<n)(hy:elemsOf h n y=some ys)(hr:rows.length+ys.length≤maxLen∧(rows.length+ys.length)*by'≤140737488355328)
  (hk:∀v' h',IsL h' n0 e n (rows++ys) v'→FrN n0 h h'→h.length≤h'.length→k v' h'):appK C T T' v y h k:=by
 rcases hL with⟨rfl,rfl⟩| ⟨p,w,rfl,h1,h2⟩
 ·simp only[O7,R1]at hr;refine fI hT he hn hb hz h0 hy hr (fun e0=>?_) (fun e0=>?_)
  ·subst e0;exact hk _ _ (.ez ..) (W7 _ _) (M4 _)
  ·refine hk _ _ (.inr ⟨h.length,0,rfl,by rw[aJ _ rfl];rfl,hn0⟩) (X0 _ hn0 (W7 _ _)) (by simp)
 ·refine bJ hT he hn hb hz h0 hy h1 rfl hr ?_;have hl:=ba h1;have:=hk (.hs p (w+1) 0 (rows.length+ys.length) true) (h.set p (.row e n (w+1) (rows++ys))) (.inr ⟨p,w+1,by rw[N3],by rw[ca _ _ _ _ _ hl,M0 rfl],h2⟩) (Y0 _ h2 (W7 _ _)) (by simp);exact this
theorem aL{T e n by' n0:Nat}{v y:AVal}{rows ys:List AVal}{h:Heap}{k:AVal→Heap→Prop}(hL:IsL h n0 e n rows v)(hn0:n0≤h.length)
  (hk:∀v' h',IsL h' n0 e n (rows++ys) v'→FrN n0 h h'→h.length≤h'.length→k v' h')(he:elmT C.P T=some e:=by simp only[go_sem];try rfl)(hn:szOf C.P e=some n:=by simp only[go_sem];try rfl)(hb:byT C.P e=some by':=by simp only[go_sem];try rfl)
  (hz:(zroT C.P e).map (fun z=>z.cells.length)=some n:=by simp only[go_sem];try rfl)(h0:0<n:=by omega)(hy:elemsOf h n y=some ys:=by simp only[elemsOf, ↓reduceIte];rfl)(hr:rows.length+ys.length≤maxLen∧(rows.length+ys.length)*by'≤140737488355328:=by refine⟨?_,?_⟩<;>simp[maxLen]<;>omega):appK C T T v y h k:=
 wX hL hn0 (.inl rfl) he hn hb hz h0 hy hr hk
end
theorem bU{P:Program}{h:Heap}{T e n i:Nat}{es:List AVal}{k:IntKind}(he:elmT P T=some e)(hn:szOf P e=some n)(hi:i≤es.length):aslice P h T (.sl n es) none (some (.int k (i:Int))) none=some (.sl n (es.take i)):=by
 simp only[aslice,he,hn,optInt,Option.isNone_none,if_true];rw[M0 ⟨Int.le_refl _,by omega,by omega⟩];simp
theorem bV{P:Program}{h:Heap}{T e n i:Nat}{es:List AVal}{k:IntKind}(he:elmT P T=some e)(hn:szOf P e=some n)(hi:i≤es.length):aslice P h T (.sl n es) (some (.int k (i:Int))) none none=some (.sl n (es.drop i)):=by
 simp only[aslice,he,hn,optInt,Option.isNone_none,if_true];rw[M0 ⟨by omega,by omega,by omega⟩];simp
theorem uw{h h2:Heap}{bs:List Blk}{R:AVal→Heap→Prop}{r0 r:AVal}{b1 b2:Blk}(hb:bs.length=3)(f:FrN (h.length+3) (h++bs) h2)(g:h.length+3≤h2.length)
  (hz:Frz ((h2.set h.length b1).set (h.length+2) b2) h.length r0 r)(hR:R r h):Fin h ((h2.set h.length b1).set (h.length+2) b2) R r0:=by
 have fr:FrN h.length h ((h2.set h.length b1).set (h.length+2) b2):=Y0 _ (by omega) (Y0 _ (by omega) (Z1 (X0 bs (M4 _) (W7 _ _)) (f.less (by omega))));obtain⟨j,hj⟩:=fr.behind (by simp;omega);rw[hj]at hz ⊢;exact Fin.frz hz hR
end
section
attribute [local irreducible] WP WPl WPix Sat
variable (G:Nat→Option (List AVal))
theorem Fo.sto(f:Fo):∀c∈f.av.cells,c.sto=true:=by
 intro c hc;simp only[Fo.av,AVal.cells,M6,V6,or_false]at hc;rcases hc with rfl|rfl|rfl<;>rfl
theorem Fe.sto(f:Fe):∀c∈f.av.cells,c.sto=true:=by
 intro c hc;simp only[Fe.av,AVal.cells,M6,V6,or_false]at hc;rcases hc with rfl|rfl|rfl|rfl<;>rfl
theorem It.sto(f:It):∀c∈f.av.cells,c.sto=true:=by
 intro c hc;simp only[It.av,AVal.cells,M6,V6,or_false]at hc;rcases hc with rfl|rfl|rfl|rfl|rfl|rfl|rfl|rfl|rfl<;>rfl
theorem Se.sto(f:Se):∀c∈f.av.cells,c.sto=true:=by
 intro c hc;simp only[Se.av,AVal.cells,M6,V6,or_false]at hc;rcases hc with rfl|rfl|rfl<;>rfl
theorem c9{α:Type}{av:α→AVal}{N:Nat}(hc:∀a,Clo N (av a))(l:List α):∀r∈l.map av,Clo N r:=fun r hr=>by obtain⟨a,_,rfl⟩:=M9.1 hr;exact hc a
theorem eJ{α:Type}{av:α→AVal}(hs:∀a,∀c∈ (av a).cells,c.sto=true)(l:List α):∀r∈l.map av,∀c∈r.cells,c.sto=true:=fun r hr=>by obtain⟨a,_,rfl⟩:=M9.1 hr;exact hs a
theorem IsL.fin{α:Type}{av:α→AVal}{H:Heap}{n0 e n N p q:Nat}{rows:List AVal}{v:AVal}(h:IsL H n0 e n rows v){l:List α}(hr:rows=l.map av)(hN:N≤n0)(hp:p<n0)(hq:q<n0)(hc:∀N a,Clo N (av a))(hs:∀a,∀c∈ (av a).cells,c.sto=true){b1 b2:Blk}:
  Frz ((H.set p b1).set q b2) N v (.sl n (l.map av)):=by
 subst hr;exact((h.set b1 hp).set b2 hq).frz hN (c9 (hc N) l) (eJ hs l)
theorem cF{h h2:Heap}{R:AVal→Heap→Prop}{r0 r:AVal}{p q:Nat}{b1 b2:Blk}(f:FrN h.length h h2)(g:h.length≤h2.length)(hp:h.length≤p∧h.length≤q)
  (hz:Frz ((h2.set p b1).set q b2) h.length r0 r)(hR:R r h):Fin h ((h2.set p b1).set q b2) R r0:=by
 have fr:FrN h.length h ((h2.set p b1).set q b2):=Y0 _ hp.2 (Y0 _ hp.1 f);obtain⟨j,hj⟩:=fr.behind (by simp;omega);rw[hj]at hz ⊢;exact Fin.frz hz hR
theorem bx{H:Heap}{N:Nat}{x:St}{v1 v2 v3 v4:AVal}(h1:Frz H N v1 (.sl 3 (x.fo.map Fo.av)))(h2:Frz H N v2 (.sl 4 (x.fe.map Fe.av)))(h3:Frz H N v3 (.sl 9 (x.it.map It.av)))(h4:Frz H N v4 (.sl 3 (x.se.map Se.av))):
  Frz H N (.agg [.int .i64 x.clock,v1,v2,v3,v4,.int .i64 x.t1,.int .i64 x.t2,.int .i64 x.t3,.int .i64 x.t4]) x.av:=
 FrzL.agg (.cons (.clo _ (.int _ _)) (.cons h1 (.cons h2 (.cons h3 (.cons h4 (.cons (.clo _ (.int _ _)) (.cons (.clo _ (.int _ _)) (.cons (.clo _ (.int _ _)) (.cons (.clo _ (.int _ _)) .nil))))))))) rfl
theorem s7(x:St)(e:Ev)(k1:e.kind=2)(i:Nat)(hp:posF (·.id) x.fo e.a=(i:Int))(hi:i<x.fo.length)(hl:x.fo.length≤100000)(h:Heap):
  Sat (CT G) 61 [x.av,e.av] h (fun r h'=>r=({x with fo:=x.fo.take i++x.fo.drop (i+1)}:St).av∧h'=h):=by
 have hF:=bK G x e.a hl;rw[hp]at hF;have hel:(x.fo.map Fo.av).length=x.fo.length:=L8 ..;have hsA:∀H,aslice Tryz.prog H 31 (.sl 3 (x.fo.map Fo.av)) none (some (.int .i64 (i:Int))) none=some (.sl 3 ((x.fo.map Fo.av).take i)):=fun H=>bU (by simp only[go_sem];try rfl) (by simp only[go_sem];try rfl) (by omega)
 have hsB:∀H,aslice Tryz.prog H 31 (.sl 3 (x.fo.map Fo.av)) (some (.int .i64 ((i+1:Nat):Int))) none none=some (.sl 3 ((x.fo.map Fo.av).drop (i+1))):=fun H=>bV (i:=i+1) (by simp only[go_sem];try rfl) (by simp only[go_sem];try rfl) (by omega)
 have F:=F3 k1 @hsA @hsB
 skip
 refine sb [.cell 4 36] Tryz.func61 ?_;intro Q hQ;refine wn F ?_;refine kn F (hF _) ?_;refine aC 11 [5] [true,true,true,true,true,false,true,true,true,true,true] (.one 5 [false,false,false,false,false,false,true,true,false,true,true] .fin) (by decide+kernel) (by kernel_rfl) (by decide+kernel) ?_;simp only[aG,aH,aD];try refine sq F ?_
 repeat' ((first|refine ai ?_|refine aj ?_|refine ak ?_ ?_)<;>try refine sq F ?_)
 all_goals try refine wn F ?_
 refine aL (n0:=h.length+3) (.ez _ _ _ _) (by simp) ?_;intro v1 h1 L1 f1 g1;obtain⟨r1,r2,r3⟩:=f1.r3;simp only[N3,M8,O7]at g1;have F:=F4 F r1 r2 r3;try refine sq F ?_
 repeat' ((first|refine ai ?_|refine aj ?_|refine ak ?_ ?_)<;>try refine sq F ?_)
 all_goals try refine wn F ?_
 refine aL L1 (by omega) ?_;intro v2 h2 L2 f2 g2;obtain⟨r1,r2,r3⟩:=(f1.trans f2).r3;have lc:=L2.cel;have ll:=L2.lie;have hz:h.length+2<h2.length:=by omega
 have hn1:h.length<h2.length:=by omega
 have F:=F7 F r1 r2 r3 lc ll @aw;try refine sq F ?_
 repeat' ((first|refine ai ?_|refine aj ?_|refine ak ?_ ?_)<;>try refine sq F ?_)
 all_goals try refine wn F ?_
 refine ye hQ F ?_;refine uw (bs:=[_,_,_]) rfl (f1.trans f2) (by omega) ?_ ⟨rfl,rfl⟩;refine bx (x:= {x with fo:=x.fo.take i++x.fo.drop (i+1)}) ?_ (ax (zc5 _) _) (ax (zc2 _) _) (ax (zc4 _) _);exact L2.fin (by simp) (by omega) (by omega) (by omega) zc3 Fo.sto
theorem oN(x:St)(e:Ev)(k1:e.kind=12)(i:Nat)(hp:posF (·.id) x.se e.a=(i:Int))(hi:i<x.se.length)(hl:x.se.length≤100000)(h:Heap):
  Sat (CT G) 61 [x.av,e.av] h (fun r h'=>r=({x with se:=x.se.take i++x.se.drop (i+1)}:St).av∧h'=h):=by
 have hF:=fG G x e.a hl;rw[hp]at hF;have hel:(x.se.map Se.av).length=x.se.length:=L8 ..;have hsA:∀H,aslice Tryz.prog H 34 (.sl 3 (x.se.map Se.av)) none (some (.int .i64 (i:Int))) none=some (.sl 3 ((x.se.map Se.av).take i)):=fun H=>bU (by simp only[go_sem];try rfl) (by simp only[go_sem];try rfl) (by omega)
 have hsB:∀H,aslice Tryz.prog H 34 (.sl 3 (x.se.map Se.av)) (some (.int .i64 ((i+1:Nat):Int))) none none=some (.sl 3 ((x.se.map Se.av).drop (i+1))):=fun H=>bV (i:=i+1) (by simp only[go_sem];try rfl) (by simp only[go_sem];try rfl) (by omega)
 have F:=F3 k1 @hsA @hsB
 skip
 refine sb [.cell 4 36] Tryz.func61 ?_;intro Q hQ;refine wn F ?_;refine kn F (hF _) ?_;refine aC 11 [5] [true,true,true,true,true,false,true,true,true,true,true] (.one 5 [false,false,false,false,false,false,true,true,false,true,true] .fin) (by decide+kernel) (by kernel_rfl) (by decide+kernel) ?_;simp only[aG,aH,aD];try refine sq F ?_
 repeat' ((first|refine ai ?_|refine aj ?_|refine ak ?_ ?_)<;>try refine sq F ?_)
 all_goals try refine wn F ?_
 refine aL (n0:=h.length+3) (.ez _ _ _ _) (by simp) ?_;intro v1 h1 L1 f1 g1;obtain⟨r1,r2,r3⟩:=f1.r3;simp only[N3,M8,O7]at g1;have F:=F4 F r1 r2 r3;try refine sq F ?_
 repeat' ((first|refine ai ?_|refine aj ?_|refine ak ?_ ?_)<;>try refine sq F ?_)
 all_goals try refine wn F ?_
 refine aL L1 (by omega) ?_;intro v2 h2 L2 f2 g2;obtain⟨r1,r2,r3⟩:=(f1.trans f2).r3;have lc:=L2.cel;have ll:=L2.lie;have hz:h.length+2<h2.length:=by omega
 have hn1:h.length<h2.length:=by omega
 have F:=F7 F r1 r2 r3 lc ll @aw;try refine sq F ?_
 repeat' ((first|refine ai ?_|refine aj ?_|refine ak ?_ ?_)<;>try refine sq F ?_)
 all_goals try refine wn F ?_
 refine ye hQ F ?_;refine uw (bs:=[_,_,_]) rfl (f1.trans f2) (by omega) ?_ ⟨rfl,rfl⟩;refine bx (x:= {x with se:=x.se.take i++x.se.drop (i+1)}) (ax (zc3 _) _) (ax (zc5 _) _) (ax (zc2 _) _) ?_;exact L2.fin (by simp) (by omega) (by omega) (by omega) zc4 Se.sto
theorem s8(x:St)(e:Ev)(k1:e.kind=4)(i:Nat)(hp:posF (·.id) x.fe e.a=(i:Int))(hi:i<x.fe.length)(hl:x.fe.length≤100000)(hl3:x.it.length≤100000)(h:Heap):
  Sat (CT G) 61 [x.av,e.av] h (fun r h'=>r=({x with fe:=x.fe.take i++x.fe.drop (i+1),it:=x.it.filter fun t=>decide (t.feed≠e.a)}:St).av∧h'=h):=by
 have hF:=cZ G x e.a hl;rw[hp]at hF;have hel:(x.fe.map Fe.av).length=x.fe.length:=L8 ..;have hsA:∀H,aslice Tryz.prog H 32 (.sl 4 (x.fe.map Fe.av)) none (some (.int .i64 (i:Int))) none=some (.sl 4 ((x.fe.map Fe.av).take i)):=fun H=>bU (by simp only[go_sem];try rfl) (by simp only[go_sem];try rfl) (by omega)
 have hsB:∀H,aslice Tryz.prog H 32 (.sl 4 (x.fe.map Fe.av)) (some (.int .i64 ((i+1:Nat):Int))) none none=some (.sl 4 ((x.fe.map Fe.av).drop (i+1))):=fun H=>bV (i:=i+1) (by simp only[go_sem];try rfl) (by simp only[go_sem];try rfl) (by omega)
 have F:=F3 k1 @hsA @hsB
 skip
 refine sb [.cell 4 36] Tryz.func61 ?_;intro Q hQ;refine wn F ?_;refine kn F (hF _) ?_;refine aC 11 [5] [true,true,true,true,true,false,true,true,true,true,true] (.one 5 [false,false,false,false,false,false,true,true,false,true,true] .fin) (by decide+kernel) (by kernel_rfl) (by decide+kernel) ?_;simp only[aG,aH,aD];try refine sq F ?_
 repeat' ((first|refine ai ?_|refine aj ?_|refine ak ?_ ?_)<;>try refine sq F ?_)
 all_goals try refine wn F ?_
 refine aL (n0:=h.length+3) (.ez _ _ _ _) (by simp) ?_;intro v1 h1 L1 f1 g1;obtain⟨r1,r2,r3⟩:=f1.r3;simp only[N3,M8,O7]at g1;have F:=F4 F r1 r2 r3;try refine sq F ?_
 repeat' ((first|refine ai ?_|refine aj ?_|refine ak ?_ ?_)<;>try refine sq F ?_)
 all_goals try refine wn F ?_
 refine aL L1 (by omega) ?_;intro v2 h2 L2 f2 g2;obtain⟨r1,r2,r3⟩:=(f1.trans f2).r3;have lc:=L2.cel;have ll:=L2.lie;have hz:h.length+2<h2.length:=by omega
 have hn1:h.length<h2.length:=by omega
 have F:=F7 F r1 r2 r3 lc ll @aw;try refine sq F ?_
 repeat' ((first|refine ai ?_|refine aj ?_|refine ak ?_ ?_)<;>try refine sq F ?_)
 all_goals try refine wn F ?_
 have r2':=r2;have r3':=r3;have g3:h.length+3≤h2.length:=by omega
 have L3:=L2.set (.row 36 9 0 [.agg [.int .i64 x.clock,.sl 3 (x.fo.map Fo.av),v2,.sl 9 (x.it.map It.av),.sl 3 (x.se.map Se.av),.int .i64 x.t1,.int .i64 x.t2,.int .i64 x.t3,.int .i64 x.t4]]) (q:=h.length) (by omega);have f3:FrN (h.length+3) (h++[_,_,_]) h2:=f1.trans f2;have r1b:getRow (h2.set h.length (.row 36 9 0 [.agg [.int .i64 x.clock,.sl 3 (x.fo.map Fo.av),v2,.sl 9 (x.it.map It.av),.sl 3 (x.se.map Se.av),.int .i64 x.t1,.int .i64 x.t2,.int .i64 x.t3,.int .i64 x.t4]])) h.length 0=some (36,9,[.agg [.int .i64 x.clock,.sl 3 (x.fo.map Fo.av),v2,.sl 9 (x.it.map It.av),.sl 3 (x.se.map Se.av),.int .i64 x.t1,.int .i64 x.t2,.int .i64 x.t3,.int .i64 x.t4]]):=by rw[ca _ _ _ _ _ hn1,M0 rfl]
 have r2b:getRow (h2.set h.length (.row 36 9 0 [.agg [.int .i64 x.clock,.sl 3 (x.fo.map Fo.av),v2,.sl 9 (x.it.map It.av),.sl 3 (x.se.map Se.av),.int .i64 x.t1,.int .i64 x.t2,.int .i64 x.t3,.int .i64 x.t4]])) (h.length+1) 0=_:=(bi _ _ (by omega)).trans r2;have r3b:getRow (h2.set h.length (.row 36 9 0 [.agg [.int .i64 x.clock,.sl 3 (x.fo.map Fo.av),v2,.sl 9 (x.it.map It.av),.sl 3 (x.se.map Se.av),.int .i64 x.t1,.int .i64 x.t2,.int .i64 x.t3,.int .i64 x.t4]])) (h.length+2) 0=_:=(bi _ _ (by omega)).trans r3;have frb:FrN h.length h (h2.set h.length (.row 36 9 0 [.agg [.int .i64 x.clock,.sl 3 (x.fo.map Fo.av),v2,.sl 9 (x.it.map It.av),.sl 3 (x.se.map Se.av),.int .i64 x.t1,.int .i64 x.t2,.int .i64 x.t3,.int .i64 x.t4]])):=Y0 _ (M4 _) (Z1 (X0 _ (M4 _) (W7 _ _)) (f3.less (by omega)));have hlb:(h2.set h.length (.row 36 9 0 [.agg [.int .i64 x.clock,.sl 3 (x.fo.map Fo.av),v2,.sl 9 (x.it.map It.av),.sl 3 (x.se.map Se.av),.int .i64 x.t1,.int .i64 x.t2,.int .i64 x.t3,.int .i64 x.t4]])).length=h2.length:=by simp
 have him:(x.it.map It.av).length=x.it.length:=L8 ..;generalize h2.set h.length (.row 36 9 0 [.agg [.int .i64 x.clock,.sl 3 (x.fo.map Fo.av),v2,.sl 9 (x.it.map It.av),.sl 3 (x.se.map Se.av),.int .i64 x.t1,.int .i64 x.t2,.int .i64 x.t3,.int .i64 x.t4]])=hb at*;refine lm (fun nL tL hL=>∃(k p w:Nat) (hh:Heap) (acc:List It),x.it.length-k=nL∧hh=hL∧tL 2=.hp h.length 0 0 0∧tL 3=.hp (h.length+1) 0 0 0∧tL 4=.hp (h.length+2) 0 0 0∧tL 7=.hs p w 0 acc.length true∧tL 8=.int .i64 k∧k≤x.it.length∧acc.length≤k∧acc++(x.it.drop k).filter (fun t=>decide (t.feed≠e.a))=x.it.filter (fun t=>decide (t.feed≠e.a))∧FrN hb.length hb hh∧getRow hh p w=some (49,9,acc.map It.av)∧hb.length≤p) ((fun(k p w:Nat) (hh:Heap) (acc:List It)=>(x.it.length-k:Nat)) (0) (hb.length) (0) (hb++[.row 49 9 0 []]) ([])) ?_ ?_
 ·refine⟨_,_,Y3 7 49 9 (by simp) (by omega) (by exact zq F),⟨0,hb.length,0,hb++[.row 49 9 0 []],[],rfl,aB,?_,?_,?_,?_,?_,by omega,by simp,by simp,X0 _ (M4 _) (W7 _ _),by rw[aJ _ rfl];rfl,M4 _⟩⟩;all_goals try exact zZz F
 rintro _ s2 h' ⟨k,p,w,hh,acc,rfl,rfl,e2,e3,e4,e7,e8,hk,hal,hac,hfr,hg,hpb⟩ K2 hK2;simp only[af,ao,Nat.reduceEqDiff, ↓reduceIte]at e2 e3 e4 e7 e8;have F:=F6 F e2 e3 e4 e7 e8;have q1:=(hfr.row (p:=h.length) (w:=0) (by omega)).trans r1b;have q2:=(hfr.row (p:=h.length+1) (w:=0) (by omega)).trans r2b;have q3:=(hfr.row (p:=h.length+2) (w:=0) (by omega)).trans r3b;have hgl:=ba hg;have hgm:(acc.map It.av).length=acc.length:=L8 ..;have hh1:h.length<hh.length:=by omega
 have hh2:h.length+2<hh.length:=by omega
 have F:=F7 F q1 q2 q3 hg him hgm;try refine sq F ?_
 refine wn F ?_;refine cq F (fun c1=>?_) (fun c1=>?_)<;>(try exact c1.elim)<;>(refine wn F ?_)
 ·have c2:k<x.it.length:=by omega
  obtain⟨y,hy,_⟩:=ac c2;rw[aF hy,Y9]at hac;have F:=F3 F c2 hy;refine jl (by decide+kernel) (vS G) ?_;refine sq F ?_;refine wn F ?_;refine cq F (fun c3=>?_) (fun c3=>?_)<;>(try exact c3.elim)<;>(refine wn F ?_)
  ·rw[M0 (by simpa using c3)]at hac;refine aq F ?_;(try refine sq F ?_);refine wn F ?_;refine hK2 _ _ _ (M2 ⟨k+1,p,w+1,hh.set p (.row 49 9 (w+1) ((acc++[y]).map It.av)),acc++[y],rfl,by simp[It.av],?_,?_,?_,?_,?_,by omega,by simp;omega,by rw[← hac];simp,Y0 _ hpb hfr,by rw[ca _ _ _ _ _ hgl,M0 rfl],hpb⟩) (by omega);all_goals try exact zZz F
  ·rw[L5 (by simpa using c3)]at hac;refine hK2 _ _ _ (M2 ⟨k+1,p,w,hh,acc,rfl,rfl,?_,?_,?_,?_,?_,by omega,by omega,hac,hfr,hg,hpb⟩) (by omega);all_goals try exact zZz F
 ·rw[aI (by omega),List.filter_nil,O8]at hac;have L4:=L3.old hfr;have lc:=L4.cel;have ll:=L4.lie;have hfin:IsL hh (h.length+3) 49 9 (acc.map It.av) (.hs p w 0 acc.length true):=.inr ⟨p,w,by rw[hgm],hg,by omega⟩;have F:=F2 (F9 k1 @hsA @hsB r1 r2 r3 e2 e3 e4) (F2 (F9 e7 e8 q1 q2 q3 hg him hgm lc) (F2 ll @aw));try refine sq F ?_
  refine wn F ?_;refine ye hQ F ?_;rw[← hac];refine cF (frb.trans (hfr.less (by omega))) (by omega) (by omega) ?_ ⟨rfl,rfl⟩;refine bx (x:= {x with fe:=x.fe.take i++x.fe.drop (i+1),it:=acc}) (ax (zc3 _) _) ?_ ?_ (ax (zc4 _) _)
  ·exact L4.fin (by simp) (by omega) (by omega) (by omega) zc5 Fe.sto
  ·exact hfin.fin rfl (by omega) (by omega) (by omega) zc2 It.sto
end
section
attribute [local irreducible] WP WPl WPix Sat
def insI{α:Type}(key:α→Int)(l:List α)(id:Int):Nat:=(l.takeWhile fun a=>decide (key a<id)).length
theorem cG{α:Type}{key:α→Int}{id:Int}:∀{l:List α} {k:Nat},(∀b∈l.take k,key b<id)→k≤l.length→(∀b,l[k]? =some b→¬key b<id)→insI key l id=k
 | [],k,_,h,_=>by simp at h;subst h;rfl
 |a::l,0,_,_,h2=>by
  have:=h2 a rfl;unfold insI;rw[zb6,O4 this];rfl
 |a::l,k+1,h1,h,h2=>by
  have ha:=h1 a (by simp);have ih:=cG (key:=key) (id:=id) (l:=l) (k:=k) (fun b hb=>h1 b (by simp[hb])) (by simpa using h) (fun b hb=>h2 b (by simpa using hb));unfold insI at ih ⊢;rw[zb6,P1 ha];simp[ih]
theorem FrzRs.app{H:Heap}{N:Nat}{a b c d:List AVal}(z:FrzRs H N a b)(w:FrzRs H N c d):FrzRs H N (a++c) (b++d):=by
 induction z with
 |nil=>exact w
 |cons r _ ih=>exact .cons r ih
theorem FrzRs.map{α:Type}{av:α→AVal}{H:Heap}{N:Nat}(hc:∀N a,Clo N (av a))(hs:∀a,∀c∈ (av a).cells,c.sto=true)(l:List α):FrzRs H N (l.map av) (l.map av):=by
 induction l with
 |nil=>exact .nil
 |cons a l ih=>exact .cons (FrzR.clo (hc N a) (hs a)) ih
theorem IsL.fin2{H:Heap}{n0 e n N p q:Nat}{rows es:List AVal}{v:AVal}(h:IsL H n0 e n rows v)(hN:N≤n0)(hp:p<n0)(hq:q<n0){b1 b2:Blk}(hz:FrzRs ((H.set p b1).set q b2) N rows es):Frz ((H.set p b1).set q b2) N v (.sl n es):=by
 rcases(h.set b1 hp).set b2 hq with⟨rfl,rfl⟩| ⟨q,w,rfl,h1,h2⟩
 ·cases hz;exact .ezs _
 ·exact hz.hs h1 rfl (by omega)
variable (G:Nat→Option (List AVal))
theorem s9(x:St)(e:Ev)(k1:e.kind=1)(hl:x.fo.length≤100000)(h:Heap):
  Sat (CT G) 60 [x.av,e.av] h (fun r h'=>r=({x with fo:=x.fo.take (insI (·.id) x.fo e.a)++(⟨e.a,e.b,e.s⟩:Fo)::x.fo.drop (insI (·.id) x.fo e.a),t1:=topI x.t1 e.a}:St).av∧h'=h):=by
 have hel:(x.fo.map Fo.av).length=x.fo.length:=L8 ..;have dt:∀i:Decidable True, @decide True i=true:=fun i=>P1 trivial
 have F:=F2 k1 hel;refine sb [.cell 4 36] Tryz.func60 ?_;intro Q hQ;refine wk F ?_;refine lm (fun nL tL hL=>∃(k:Nat),x.fo.length-k=nL∧h++[.row 36 9 0 [x.av],.row 62 7 0 [e.av],.row 36 9 0 [.agg [.int .i64 0,.nil (.slice none 0 0),.nil (.slice none 0 0),.nil (.slice none 0 0),.nil (.slice none 0 0),.int .i64 0,.int .i64 0,.int .i64 0,.int .i64 0]]]=hL∧tL 2=.hp h.length 0 0 0∧tL 3=.hp (h.length+1) 0 0 0∧tL 4=.hp (h.length+2) 0 0 0∧tL 5=.int .i64 k∧k≤x.fo.length∧(∀b∈x.fo.take k,b.id<e.a)) ((fun(k:Nat)=>(x.fo.length-k:Nat)) (0)) ?_ ?_
 ·refine M2 ⟨0,rfl,by simp[St.av,Ev.av,k1],?_,?_,?_,?_,by omega,by simp⟩;all_goals try exact zZz F
 rintro _ s2 h' ⟨k,rfl,rfl,e2,e3,e4,e5,hk,hlt⟩ K2 hK2;simp only[af,ao,Nat.reduceEqDiff, ↓reduceIte]at e2 e3 e4 e5;have F:=F5 F e2 e3 e4 e5;have hsA:∀H,aslice Tryz.prog H 31 (.sl 3 (x.fo.map Fo.av)) none (some (.int .i64 (k:Int))) none=some (.sl 3 ((x.fo.map Fo.av).take k)):=fun H=>bU (by simp only[go_sem];try rfl) (by simp only[go_sem];try rfl) (by omega)
 have hsB:∀H,aslice Tryz.prog H 31 (.sl 3 (x.fo.map Fo.av)) (some (.int .i64 (k:Int))) none none=some (.sl 3 ((x.fo.map Fo.av).drop k)):=fun H=>bV (by simp only[go_sem];try rfl) (by simp only[go_sem];try rfl) (by omega)
 by_cases c1:k<x.fo.length
 ·obtain⟨b,hb,_⟩:=ac c1;by_cases c2:b.id<e.a
  ·have d2:decide (b.id<e.a)=true:=P1 c2;have F:=F5 F hb c1 dt d2;(try refine sq F ?_);refine wk F ?_;have hlt1:∀b∈x.fo.take (k+1),b.id<e.a:=by
    rw[P3,hb];intro z hz;simp at hz;rcases hz with hz|rfl
    ·exact hlt z hz
    ·exact c2
   refine hK2 _ _ _ (M2 ⟨k+1,rfl,by simp[St.av,Ev.av,k1],?_,?_,?_,?_,by omega,hlt1⟩) (by omega);all_goals try exact zZz F
  ·have d2:decide (b.id<e.a)=false:=O4 c2;have hins:insI (·.id) x.fo e.a=k:=cG hlt hk fun z hz=>by rw[hb]at hz;cases hz;exact c2
   have F:=F7 F hb c1 dt d2 @hsA @hsB;(try refine sq F ?_);refine wk F ?_;refine aL (n0:=h.length+3) (.ez _ _ _ _) (by simp) ?_;intro v0 h0 L0 f0 g0;obtain⟨r1,r2,r3⟩:=f0.r3;simp only[N3,M8,O7]at g0;have F:=F4 F r1 r2 r3;try refine sq F ?_
   skip
   refine wn F ?_;refine aC 16 [5,14] [true,true,true,true,true,false,true,true,true,true,true,true,true,true,false,true] (.one 5 [false,false,false,false,false,false,true,true,true,true,true,true,false,true] (.one 14 [] .fin)) (by decide+kernel) (by kernel_rfl) (by decide+kernel) ?_;simp only[aG,aH,aD];(try refine sq F ?_);repeat' ((first|refine ai ?_|refine aj ?_|refine ak ?_ ?_)<;>try refine sq F ?_)
   (all_goals try refine wn F ?_);refine aL (n0:=h0.length) (.ez _ _ _ _) (M4 _) ?_;intro v1 h1 L1 f1 g1;obtain⟨r1,r2,r3⟩:=(f0.trans (f1.less (by omega))).r3;have F:=F4 F r1 r2 r3;(try refine sq F ?_);refine⟨?_,?_⟩
   ·(refine vq F ?_;try refine sq F ?_)<;>trivial
   repeat' ((first|refine ai ?_|refine aj ?_|refine ak ?_ ?_)<;>try refine sq F ?_)
   (all_goals try refine wn F ?_);refine aL L1 (by omega) ?_;intro v2 h2 L2 f2 g2;obtain⟨r1,r2,r3⟩:=(f0.trans ((f1.trans f2).less (by omega))).r3;have E0:=(L0.old (f1.trans f2)).elems;have F:=F4 F r1 r2 r3;(try refine sq F ?_);repeat' ((first|refine ai ?_|refine aj ?_|refine ak ?_ ?_)<;>try refine sq F ?_)
   (all_goals try refine wn F ?_);refine aL L2 (by omega) ?_ (hy:=E0);intro v3 h3 L3 f3 g3;obtain⟨r1,r2,r3⟩:=(f0.trans (((f1.trans f2).trans f3).less (by omega))).r3;have lc:=L3.cel;have ll:=L3.lie;have hz:h.length+2<h3.length:=(by omega);have hn1:h.length<h3.length:=(by omega);have F:=F7 F r1 r2 r3 lc ll @aw;(try refine sq F ?_);repeat' ((first|refine ai ?_|refine aj ?_|refine ak ?_ ?_)<;>try refine sq F ?_)
   all_goals try refine wn F ?_
   skip
   refine kq F (cu G x.t1 e.a _) ?_;refine ye hQ F ?_;refine cF (Z1 (X0 _ (M4 _) (W7 _ _)) ((f0.trans (((f1.trans f2).trans f3).less (by omega))).less (by omega))) (by omega) (by omega) ?_ ⟨by rw[hins],rfl⟩;refine bx (x:= {x with fo:=x.fo.take k++(⟨e.a,e.b,e.s⟩:Fo)::x.fo.drop k,t1:=topI x.t1 e.a}) ?_ (ax (zc5 _) _) (ax (zc2 _) _) (ax (zc4 _) _);refine L3.fin2 (es:=(x.fo.take k++(⟨e.a,e.b,e.s⟩:Fo)::x.fo.drop k).map Fo.av) (by omega) (by omega) (by omega) ?_;rw[Q9,N9,show(x.fo.take k).map Fo.av++Fo.av ⟨e.a,e.b,e.s⟩::(x.fo.drop k).map Fo.av=(x.fo.take k).map Fo.av++[Fo.av ⟨e.a,e.b,e.s⟩]++(x.fo.drop k).map Fo.av by simp, ← X4, ← Z4,P4];refine((FrzRs.map zc3 Fo.sto _).app (.cons ?_ .nil)).app (FrzRs.map zc3 Fo.sto _);exact FrzR.clo (zc3 _ ⟨e.a,e.b,e.s⟩) (Fo.sto ⟨e.a,e.b,e.s⟩)
 ·have d1:decide (k<x.fo.length)=false:=O4 c1;have hins:insI (·.id) x.fo e.a=k:=cG hlt hk fun z hz=>by rw[Q4 (by omega)]at hz;cases hz
  have F:=F4 F d1 @hsA @hsB;try refine sq F ?_
  refine wk F ?_;refine aL (n0:=h.length+3) (.ez _ _ _ _) (by simp) ?_;intro v0 h0 L0 f0 g0;obtain⟨r1,r2,r3⟩:=f0.r3;simp only[N3,M8,O7]at g0;have F:=F4 F r1 r2 r3;try refine sq F ?_
  skip
  refine wn F ?_;refine aC 16 [5,14] [true,true,true,true,true,false,true,true,true,true,true,true,true,true,false,true] (.one 5 [false,false,false,false,false,false,true,true,true,true,true,true,false,true] (.one 14 [] .fin)) (by decide+kernel) (by kernel_rfl) (by decide+kernel) ?_;simp only[aG,aH,aD];try refine sq F ?_
  repeat' ((first|refine ai ?_|refine aj ?_|refine ak ?_ ?_)<;>try refine sq F ?_)
  all_goals try refine wn F ?_
  refine aL (n0:=h0.length) (.ez _ _ _ _) (M4 _) ?_;intro v1 h1 L1 f1 g1;obtain⟨r1,r2,r3⟩:=(f0.trans (f1.less (by omega))).r3;have F:=F4 F r1 r2 r3;try refine sq F ?_
  refine⟨?_,?_⟩
  ·(refine vq F ?_;try refine sq F ?_)<;>trivial
  repeat' ((first|refine ai ?_|refine aj ?_|refine ak ?_ ?_)<;>try refine sq F ?_)
  all_goals try refine wn F ?_
  refine aL L1 (by omega) ?_;intro v2 h2 L2 f2 g2;obtain⟨r1,r2,r3⟩:=(f0.trans ((f1.trans f2).less (by omega))).r3;have E0:=(L0.old (f1.trans f2)).elems;have F:=F4 F r1 r2 r3;try refine sq F ?_
  repeat' ((first|refine ai ?_|refine aj ?_|refine ak ?_ ?_)<;>try refine sq F ?_)
  all_goals try refine wn F ?_
  refine aL L2 (by omega) ?_ (hy:=E0);intro v3 h3 L3 f3 g3;obtain⟨r1,r2,r3⟩:=(f0.trans (((f1.trans f2).trans f3).less (by omega))).r3;have lc:=L3.cel;have ll:=L3.lie;have hz:h.length+2<h3.length:=by omega
  have hn1:h.length<h3.length:=by omega
  have F:=F7 F r1 r2 r3 lc ll @aw;try refine sq F ?_
  repeat' ((first|refine ai ?_|refine aj ?_|refine ak ?_ ?_)<;>try refine sq F ?_)
  all_goals try refine wn F ?_
  skip
  refine kq F (cu G x.t1 e.a _) ?_;refine ye hQ F ?_;refine cF (Z1 (X0 _ (M4 _) (W7 _ _)) ((f0.trans (((f1.trans f2).trans f3).less (by omega))).less (by omega))) (by omega) (by omega) ?_ ⟨by rw[hins],rfl⟩;refine bx (x:= {x with fo:=x.fo.take k++(⟨e.a,e.b,e.s⟩:Fo)::x.fo.drop k,t1:=topI x.t1 e.a}) ?_ (ax (zc5 _) _) (ax (zc2 _) _) (ax (zc4 _) _);refine L3.fin2 (es:=(x.fo.take k++(⟨e.a,e.b,e.s⟩:Fo)::x.fo.drop k).map Fo.av) (by omega) (by omega) (by omega) ?_;rw[Q9,N9,show(x.fo.take k).map Fo.av++Fo.av ⟨e.a,e.b,e.s⟩::(x.fo.drop k).map Fo.av=(x.fo.take k).map Fo.av++[Fo.av ⟨e.a,e.b,e.s⟩]++(x.fo.drop k).map Fo.av by simp, ← X4, ← Z4,P4];refine((FrzRs.map zc3 Fo.sto _).app (.cons ?_ .nil)).app (FrzRs.map zc3 Fo.sto _);exact FrzR.clo (zc3 _ ⟨e.a,e.b,e.s⟩) (Fo.sto ⟨e.a,e.b,e.s⟩)
theorem sf(x:St)(e:Ev)(k1:e.kind=3)(hl:x.fe.length≤100000)(h:Heap):
  Sat (CT G) 60 [x.av,e.av] h (fun r h'=>r=({x with fe:=x.fe.take (insI (·.id) x.fe e.a)++(⟨e.a,e.b,e.s,e.t⟩:Fe)::x.fe.drop (insI (·.id) x.fe e.a),t2:=topI x.t2 e.a}:St).av∧h'=h):=by
 have hel:(x.fe.map Fe.av).length=x.fe.length:=L8 ..;have dt:∀i:Decidable True, @decide True i=true:=fun i=>P1 trivial
 have F:=F2 k1 hel;refine sb [.cell 4 36] Tryz.func60 ?_;intro Q hQ;refine wk F ?_;refine lm (fun nL tL hL=>∃(k:Nat),x.fe.length-k=nL∧h++[.row 36 9 0 [x.av],.row 62 7 0 [e.av],.row 36 9 0 [.agg [.int .i64 0,.nil (.slice none 0 0),.nil (.slice none 0 0),.nil (.slice none 0 0),.nil (.slice none 0 0),.int .i64 0,.int .i64 0,.int .i64 0,.int .i64 0]]]=hL∧tL 2=.hp h.length 0 0 0∧tL 3=.hp (h.length+1) 0 0 0∧tL 4=.hp (h.length+2) 0 0 0∧tL 5=.int .i64 k∧k≤x.fe.length∧(∀b∈x.fe.take k,b.id<e.a)) ((fun(k:Nat)=>(x.fe.length-k:Nat)) (0)) ?_ ?_
 ·refine M2 ⟨0,rfl,by simp[St.av,Ev.av,k1],?_,?_,?_,?_,by omega,by simp⟩;all_goals try exact zZz F
 rintro _ s2 h' ⟨k,rfl,rfl,e2,e3,e4,e5,hk,hlt⟩ K2 hK2;simp only[af,ao,Nat.reduceEqDiff, ↓reduceIte]at e2 e3 e4 e5;have F:=F5 F e2 e3 e4 e5;have hsA:∀H,aslice Tryz.prog H 32 (.sl 4 (x.fe.map Fe.av)) none (some (.int .i64 (k:Int))) none=some (.sl 4 ((x.fe.map Fe.av).take k)):=fun H=>bU (by simp only[go_sem];try rfl) (by simp only[go_sem];try rfl) (by omega)
 have hsB:∀H,aslice Tryz.prog H 32 (.sl 4 (x.fe.map Fe.av)) (some (.int .i64 (k:Int))) none none=some (.sl 4 ((x.fe.map Fe.av).drop k)):=fun H=>bV (by simp only[go_sem];try rfl) (by simp only[go_sem];try rfl) (by omega)
 by_cases c1:k<x.fe.length
 ·obtain⟨b,hb,_⟩:=ac c1;by_cases c2:b.id<e.a
  ·have d2:decide (b.id<e.a)=true:=P1 c2;have F:=F5 F hb c1 dt d2;(try refine sq F ?_);refine wk F ?_;have hlt1:∀b∈x.fe.take (k+1),b.id<e.a:=by
    rw[P3,hb];intro z hz;simp at hz;rcases hz with hz|rfl
    ·exact hlt z hz
    ·exact c2
   refine hK2 _ _ _ (M2 ⟨k+1,rfl,by simp[St.av,Ev.av,k1],?_,?_,?_,?_,by omega,hlt1⟩) (by omega);all_goals try exact zZz F
  ·have d2:decide (b.id<e.a)=false:=O4 c2;have hins:insI (·.id) x.fe e.a=k:=cG hlt hk fun z hz=>by rw[hb]at hz;cases hz;exact c2
   have F:=F7 F hb c1 dt d2 @hsA @hsB;(try refine sq F ?_);refine wk F ?_;refine aL (n0:=h.length+3) (.ez _ _ _ _) (by simp) ?_;intro v0 h0 L0 f0 g0;obtain⟨r1,r2,r3⟩:=f0.r3;simp only[N3,M8,O7]at g0;have F:=F4 F r1 r2 r3;try refine sq F ?_
   skip
   refine wn F ?_;refine aC 18 [5,16] [true,true,true,true,true,false,true,true,true,true,true,true,true,true,true,true,false,true] (.one 5 [false,false,false,false,false,false,true,true,true,true,true,true,true,true,false,true] (.one 16 [] .fin)) (by decide+kernel) (by kernel_rfl) (by decide+kernel) ?_;simp only[aG,aH,aD];(try refine sq F ?_);repeat' ((first|refine ai ?_|refine aj ?_|refine ak ?_ ?_)<;>try refine sq F ?_)
   (all_goals try refine wn F ?_);refine aL (n0:=h0.length) (.ez _ _ _ _) (M4 _) ?_;intro v1 h1 L1 f1 g1;obtain⟨r1,r2,r3⟩:=(f0.trans (f1.less (by omega))).r3;have F:=F4 F r1 r2 r3;(try refine sq F ?_);refine⟨?_,?_⟩
   ·(refine vq F ?_;try refine sq F ?_)<;>trivial
   repeat' ((first|refine ai ?_|refine aj ?_|refine ak ?_ ?_)<;>try refine sq F ?_)
   (all_goals try refine wn F ?_);refine aL L1 (by omega) ?_;intro v2 h2 L2 f2 g2;obtain⟨r1,r2,r3⟩:=(f0.trans ((f1.trans f2).less (by omega))).r3;have E0:=(L0.old (f1.trans f2)).elems;have F:=F4 F r1 r2 r3;(try refine sq F ?_);repeat' ((first|refine ai ?_|refine aj ?_|refine ak ?_ ?_)<;>try refine sq F ?_)
   (all_goals try refine wn F ?_);refine aL L2 (by omega) ?_ (hy:=E0);intro v3 h3 L3 f3 g3;obtain⟨r1,r2,r3⟩:=(f0.trans (((f1.trans f2).trans f3).less (by omega))).r3;have lc:=L3.cel;have ll:=L3.lie;have hz:h.length+2<h3.length:=(by omega);have hn1:h.length<h3.length:=(by omega);have F:=F7 F r1 r2 r3 lc ll @aw;(try refine sq F ?_);repeat' ((first|refine ai ?_|refine aj ?_|refine ak ?_ ?_)<;>try refine sq F ?_)
   all_goals try refine wn F ?_
   skip
   refine kq F (cu G x.t2 e.a _) ?_;refine ye hQ F ?_;refine cF (Z1 (X0 _ (M4 _) (W7 _ _)) ((f0.trans (((f1.trans f2).trans f3).less (by omega))).less (by omega))) (by omega) (by omega) ?_ ⟨by rw[hins],rfl⟩;refine bx (x:= {x with fe:=x.fe.take k++(⟨e.a,e.b,e.s,e.t⟩:Fe)::x.fe.drop k,t2:=topI x.t2 e.a}) (ax (zc3 _) _) ?_ (ax (zc2 _) _) (ax (zc4 _) _);refine L3.fin2 (es:=(x.fe.take k++(⟨e.a,e.b,e.s,e.t⟩:Fe)::x.fe.drop k).map Fe.av) (by omega) (by omega) (by omega) ?_;rw[Q9,N9,show(x.fe.take k).map Fe.av++Fe.av ⟨e.a,e.b,e.s,e.t⟩::(x.fe.drop k).map Fe.av=(x.fe.take k).map Fe.av++[Fe.av ⟨e.a,e.b,e.s,e.t⟩]++(x.fe.drop k).map Fe.av by simp, ← X4, ← Z4,P4];refine((FrzRs.map zc5 Fe.sto _).app (.cons ?_ .nil)).app (FrzRs.map zc5 Fe.sto _);exact FrzR.clo (zc5 _ ⟨e.a,e.b,e.s,e.t⟩) (Fe.sto ⟨e.a,e.b,e.s,e.t⟩)
 ·have d1:decide (k<x.fe.length)=false:=O4 c1;have hins:insI (·.id) x.fe e.a=k:=cG hlt hk fun z hz=>by rw[Q4 (by omega)]at hz;cases hz
  have F:=F4 F d1 @hsA @hsB;try refine sq F ?_
  refine wk F ?_;refine aL (n0:=h.length+3) (.ez _ _ _ _) (by simp) ?_;intro v0 h0 L0 f0 g0;obtain⟨r1,r2,r3⟩:=f0.r3;simp only[N3,M8,O7]at g0;have F:=F4 F r1 r2 r3;try refine sq F ?_
  skip
  refine wn F ?_;refine aC 18 [5,16] [true,true,true,true,true,false,true,true,true,true,true,true,true,true,true,true,false,true] (.one 5 [false,false,false,false,false,false,true,true,true,true,true,true,true,true,false,true] (.one 16 [] .fin)) (by decide+kernel) (by kernel_rfl) (by decide+kernel) ?_;simp only[aG,aH,aD];try refine sq F ?_
  repeat' ((first|refine ai ?_|refine aj ?_|refine ak ?_ ?_)<;>try refine sq F ?_)
  all_goals try refine wn F ?_
  refine aL (n0:=h0.length) (.ez _ _ _ _) (M4 _) ?_;intro v1 h1 L1 f1 g1;obtain⟨r1,r2,r3⟩:=(f0.trans (f1.less (by omega))).r3;have F:=F4 F r1 r2 r3;try refine sq F ?_
  refine⟨?_,?_⟩
  ·(refine vq F ?_;try refine sq F ?_)<;>trivial
  repeat' ((first|refine ai ?_|refine aj ?_|refine ak ?_ ?_)<;>try refine sq F ?_)
  all_goals try refine wn F ?_
  refine aL L1 (by omega) ?_;intro v2 h2 L2 f2 g2;obtain⟨r1,r2,r3⟩:=(f0.trans ((f1.trans f2).less (by omega))).r3;have E0:=(L0.old (f1.trans f2)).elems;have F:=F4 F r1 r2 r3;try refine sq F ?_
  repeat' ((first|refine ai ?_|refine aj ?_|refine ak ?_ ?_)<;>try refine sq F ?_)
  all_goals try refine wn F ?_
  refine aL L2 (by omega) ?_ (hy:=E0);intro v3 h3 L3 f3 g3;obtain⟨r1,r2,r3⟩:=(f0.trans (((f1.trans f2).trans f3).less (by omega))).r3;have lc:=L3.cel;have ll:=L3.lie;have hz:h.length+2<h3.length:=by omega
  have hn1:h.length<h3.length:=by omega
  have F:=F7 F r1 r2 r3 lc ll @aw;try refine sq F ?_
  repeat' ((first|refine ai ?_|refine aj ?_|refine ak ?_ ?_)<;>try refine sq F ?_)
  all_goals try refine wn F ?_
  skip
  refine kq F (cu G x.t2 e.a _) ?_;refine ye hQ F ?_;refine cF (Z1 (X0 _ (M4 _) (W7 _ _)) ((f0.trans (((f1.trans f2).trans f3).less (by omega))).less (by omega))) (by omega) (by omega) ?_ ⟨by rw[hins],rfl⟩;refine bx (x:= {x with fe:=x.fe.take k++(⟨e.a,e.b,e.s,e.t⟩:Fe)::x.fe.drop k,t2:=topI x.t2 e.a}) (ax (zc3 _) _) ?_ (ax (zc2 _) _) (ax (zc4 _) _);refine L3.fin2 (es:=(x.fe.take k++(⟨e.a,e.b,e.s,e.t⟩:Fe)::x.fe.drop k).map Fe.av) (by omega) (by omega) (by omega) ?_;rw[Q9,N9,show(x.fe.take k).map Fe.av++Fe.av ⟨e.a,e.b,e.s,e.t⟩::(x.fe.drop k).map Fe.av=(x.fe.take k).map Fe.av++[Fe.av ⟨e.a,e.b,e.s,e.t⟩]++(x.fe.drop k).map Fe.av by simp, ← X4, ← Z4,P4];refine((FrzRs.map zc5 Fe.sto _).app (.cons ?_ .nil)).app (FrzRs.map zc5 Fe.sto _);exact FrzR.clo (zc5 _ ⟨e.a,e.b,e.s,e.t⟩) (Fe.sto ⟨e.a,e.b,e.s,e.t⟩)
theorem sg(x:St)(e:Ev)(k1:e.kind=7)(hl:x.it.length≤100000)(h:Heap):
  Sat (CT G) 60 [x.av,e.av] h (fun r h'=>r=({x with it:=x.it.take (insI (·.id) x.it e.a)++(⟨e.a,e.b,e.n,e.s,e.t,e.u,false,false,[]⟩:It)::x.it.drop (insI (·.id) x.it e.a),t3:=topI x.t3 e.a}:St).av∧h'=h):=by
 have hel:(x.it.map It.av).length=x.it.length:=L8 ..;have dt:∀i:Decidable True, @decide True i=true:=fun i=>P1 trivial
 have F:=F2 k1 hel;refine sb [.cell 4 36] Tryz.func60 ?_;intro Q hQ;refine wk F ?_;refine lm (fun nL tL hL=>∃(k:Nat),x.it.length-k=nL∧h++[.row 36 9 0 [x.av],.row 62 7 0 [e.av],.row 36 9 0 [.agg [.int .i64 0,.nil (.slice none 0 0),.nil (.slice none 0 0),.nil (.slice none 0 0),.nil (.slice none 0 0),.int .i64 0,.int .i64 0,.int .i64 0,.int .i64 0]]]=hL∧tL 2=.hp h.length 0 0 0∧tL 3=.hp (h.length+1) 0 0 0∧tL 4=.hp (h.length+2) 0 0 0∧tL 5=.int .i64 k∧k≤x.it.length∧(∀b∈x.it.take k,b.id<e.a)) ((fun(k:Nat)=>(x.it.length-k:Nat)) (0)) ?_ ?_
 ·refine M2 ⟨0,rfl,by simp[St.av,Ev.av,k1],?_,?_,?_,?_,by omega,by simp⟩;all_goals try exact zZz F
 rintro _ s2 h' ⟨k,rfl,rfl,e2,e3,e4,e5,hk,hlt⟩ K2 hK2;simp only[af,ao,Nat.reduceEqDiff, ↓reduceIte]at e2 e3 e4 e5;have F:=F5 F e2 e3 e4 e5;have hsA:∀H,aslice Tryz.prog H 33 (.sl 9 (x.it.map It.av)) none (some (.int .i64 (k:Int))) none=some (.sl 9 ((x.it.map It.av).take k)):=fun H=>bU (by simp only[go_sem];try rfl) (by simp only[go_sem];try rfl) (by omega)
 have hsB:∀H,aslice Tryz.prog H 33 (.sl 9 (x.it.map It.av)) (some (.int .i64 (k:Int))) none none=some (.sl 9 ((x.it.map It.av).drop k)):=fun H=>bV (by simp only[go_sem];try rfl) (by simp only[go_sem];try rfl) (by omega)
 by_cases c1:k<x.it.length
 ·obtain⟨b,hb,_⟩:=ac c1;by_cases c2:b.id<e.a
  ·have d2:decide (b.id<e.a)=true:=P1 c2;have F:=F5 F hb c1 dt d2;(try refine sq F ?_);refine wk F ?_;have hlt1:∀b∈x.it.take (k+1),b.id<e.a:=by
    rw[P3,hb];intro z hz;simp at hz;rcases hz with hz|rfl
    ·exact hlt z hz
    ·exact c2
   refine hK2 _ _ _ (M2 ⟨k+1,rfl,by simp[St.av,Ev.av,k1],?_,?_,?_,?_,by omega,hlt1⟩) (by omega);all_goals try exact zZz F
  ·have d2:decide (b.id<e.a)=false:=O4 c2;have hins:insI (·.id) x.it e.a=k:=cG hlt hk fun z hz=>by rw[hb]at hz;cases hz;exact c2
   have F:=F7 F hb c1 dt d2 @hsA @hsB;(try refine sq F ?_);refine wk F ?_;refine aL (n0:=h.length+3) (.ez _ _ _ _) (by simp) ?_;intro v0 h0 L0 f0 g0;obtain⟨r1,r2,r3⟩:=f0.r3;simp only[N3,M8,O7]at g0;have F:=F4 F r1 r2 r3;try refine sq F ?_
   skip
   refine wn F ?_;refine aC 22 [5,20] [true,true,true,true,true,false,true,true,true,true,true,true,true,true,true,true,true,true,true,true,false,true] (.one 5 [false,false,false,false,false,false,true,true,true,true,true,true,true,true,true,true,true,true,false,true] (.one 20 [] .fin)) (by decide+kernel) (by kernel_rfl) (by decide+kernel) ?_;simp only[aG,aH,aD];(try refine sq F ?_);repeat' ((first|refine ai ?_|refine aj ?_|refine ak ?_ ?_)<;>try refine sq F ?_)
   (all_goals try refine wn F ?_);refine aL (n0:=h0.length) (.ez _ _ _ _) (M4 _) ?_;intro v1 h1 L1 f1 g1;obtain⟨r1,r2,r3⟩:=(f0.trans (f1.less (by omega))).r3;have F:=F4 F r1 r2 r3;(try refine sq F ?_);refine⟨?_,?_⟩
   ·(refine vq F ?_;try refine sq F ?_)<;>trivial
   repeat' ((first|refine ai ?_|refine aj ?_|refine ak ?_ ?_)<;>try refine sq F ?_)
   (all_goals try refine wn F ?_);refine aL L1 (by omega) ?_;intro v2 h2 L2 f2 g2;obtain⟨r1,r2,r3⟩:=(f0.trans ((f1.trans f2).less (by omega))).r3;have E0:=(L0.old (f1.trans f2)).elems;have F:=F4 F r1 r2 r3;(try refine sq F ?_);repeat' ((first|refine ai ?_|refine aj ?_|refine ak ?_ ?_)<;>try refine sq F ?_)
   (all_goals try refine wn F ?_);refine aL L2 (by omega) ?_ (hy:=E0);intro v3 h3 L3 f3 g3;obtain⟨r1,r2,r3⟩:=(f0.trans (((f1.trans f2).trans f3).less (by omega))).r3;have lc:=L3.cel;have ll:=L3.lie;have hz:h.length+2<h3.length:=(by omega);have hn1:h.length<h3.length:=(by omega);have F:=F7 F r1 r2 r3 lc ll @aw;(try refine sq F ?_);repeat' ((first|refine ai ?_|refine aj ?_|refine ak ?_ ?_)<;>try refine sq F ?_)
   all_goals try refine wn F ?_
   skip
   refine kq F (cu G x.t3 e.a _) ?_;refine ye hQ F ?_;refine cF (Z1 (X0 _ (M4 _) (W7 _ _)) ((f0.trans (((f1.trans f2).trans f3).less (by omega))).less (by omega))) (by omega) (by omega) ?_ ⟨by rw[hins],rfl⟩;refine bx (x:= {x with it:=x.it.take k++(⟨e.a,e.b,e.n,e.s,e.t,e.u,false,false,[]⟩:It)::x.it.drop k,t3:=topI x.t3 e.a}) (ax (zc3 _) _) (ax (zc5 _) _) ?_ (ax (zc4 _) _);refine L3.fin2 (es:=(x.it.take k++(⟨e.a,e.b,e.n,e.s,e.t,e.u,false,false,[]⟩:It)::x.it.drop k).map It.av) (by omega) (by omega) (by omega) ?_;rw[Q9,N9,show(x.it.take k).map It.av++It.av ⟨e.a,e.b,e.n,e.s,e.t,e.u,false,false,[]⟩::(x.it.drop k).map It.av=(x.it.take k).map It.av++[It.av ⟨e.a,e.b,e.n,e.s,e.t,e.u,false,false,[]⟩]++(x.it.drop k).map It.av by simp, ← X4, ← Z4,P4];refine((FrzRs.map zc2 It.sto _).app (.cons ?_ .nil)).app (FrzRs.map zc2 It.sto _);exact FrzL.row (.cons (.clo _ (.int _ _)) (.cons (.clo _ (.int _ _)) (.cons (.clo _ (.int _ _)) (.cons (.clo _ (.str _)) (.cons (.clo _ (.str _)) (.cons (.clo _ (.str _)) (.cons (.clo _ (.bool _)) (.cons (.clo _ (.bool _)) (.cons (.nils 1) .nil))))))))) rfl
 ·have d1:decide (k<x.it.length)=false:=O4 c1;have hins:insI (·.id) x.it e.a=k:=cG hlt hk fun z hz=>by rw[Q4 (by omega)]at hz;cases hz
  have F:=F4 F d1 @hsA @hsB;try refine sq F ?_
  refine wk F ?_;refine aL (n0:=h.length+3) (.ez _ _ _ _) (by simp) ?_;intro v0 h0 L0 f0 g0;obtain⟨r1,r2,r3⟩:=f0.r3;simp only[N3,M8,O7]at g0;have F:=F4 F r1 r2 r3;try refine sq F ?_
  skip
  refine wn F ?_;refine aC 22 [5,20] [true,true,true,true,true,false,true,true,true,true,true,true,true,true,true,true,true,true,true,true,false,true] (.one 5 [false,false,false,false,false,false,true,true,true,true,true,true,true,true,true,true,true,true,false,true] (.one 20 [] .fin)) (by decide+kernel) (by kernel_rfl) (by decide+kernel) ?_;simp only[aG,aH,aD];try refine sq F ?_
  repeat' ((first|refine ai ?_|refine aj ?_|refine ak ?_ ?_)<;>try refine sq F ?_)
  all_goals try refine wn F ?_
  refine aL (n0:=h0.length) (.ez _ _ _ _) (M4 _) ?_;intro v1 h1 L1 f1 g1;obtain⟨r1,r2,r3⟩:=(f0.trans (f1.less (by omega))).r3;have F:=F4 F r1 r2 r3;try refine sq F ?_
  refine⟨?_,?_⟩
  ·(refine vq F ?_;try refine sq F ?_)<;>trivial
  repeat' ((first|refine ai ?_|refine aj ?_|refine ak ?_ ?_)<;>try refine sq F ?_)
  all_goals try refine wn F ?_
  refine aL L1 (by omega) ?_;intro v2 h2 L2 f2 g2;obtain⟨r1,r2,r3⟩:=(f0.trans ((f1.trans f2).less (by omega))).r3;have E0:=(L0.old (f1.trans f2)).elems;have F:=F4 F r1 r2 r3;try refine sq F ?_
  repeat' ((first|refine ai ?_|refine aj ?_|refine ak ?_ ?_)<;>try refine sq F ?_)
  all_goals try refine wn F ?_
  refine aL L2 (by omega) ?_ (hy:=E0);intro v3 h3 L3 f3 g3;obtain⟨r1,r2,r3⟩:=(f0.trans (((f1.trans f2).trans f3).less (by omega))).r3;have lc:=L3.cel;have ll:=L3.lie;have hz:h.length+2<h3.length:=by omega
  have hn1:h.length<h3.length:=by omega
  have F:=F7 F r1 r2 r3 lc ll @aw;try refine sq F ?_
  repeat' ((first|refine ai ?_|refine aj ?_|refine ak ?_ ?_)<;>try refine sq F ?_)
  all_goals try refine wn F ?_
  skip
  refine kq F (cu G x.t3 e.a _) ?_;refine ye hQ F ?_;refine cF (Z1 (X0 _ (M4 _) (W7 _ _)) ((f0.trans (((f1.trans f2).trans f3).less (by omega))).less (by omega))) (by omega) (by omega) ?_ ⟨by rw[hins],rfl⟩;refine bx (x:= {x with it:=x.it.take k++(⟨e.a,e.b,e.n,e.s,e.t,e.u,false,false,[]⟩:It)::x.it.drop k,t3:=topI x.t3 e.a}) (ax (zc3 _) _) (ax (zc5 _) _) ?_ (ax (zc4 _) _);refine L3.fin2 (es:=(x.it.take k++(⟨e.a,e.b,e.n,e.s,e.t,e.u,false,false,[]⟩:It)::x.it.drop k).map It.av) (by omega) (by omega) (by omega) ?_;rw[Q9,N9,show(x.it.take k).map It.av++It.av ⟨e.a,e.b,e.n,e.s,e.t,e.u,false,false,[]⟩::(x.it.drop k).map It.av=(x.it.take k).map It.av++[It.av ⟨e.a,e.b,e.n,e.s,e.t,e.u,false,false,[]⟩]++(x.it.drop k).map It.av by simp, ← X4, ← Z4,P4];refine((FrzRs.map zc2 It.sto _).app (.cons ?_ .nil)).app (FrzRs.map zc2 It.sto _);exact FrzL.row (.cons (.clo _ (.int _ _)) (.cons (.clo _ (.int _ _)) (.cons (.clo _ (.int _ _)) (.cons (.clo _ (.str _)) (.cons (.clo _ (.str _)) (.cons (.clo _ (.str _)) (.cons (.clo _ (.bool _)) (.cons (.clo _ (.bool _)) (.cons (.nils 1) .nil))))))))) rfl
theorem oO(x:St)(e:Ev)(k1:e.kind=11)(hl:x.se.length≤100000)(h:Heap):
  Sat (CT G) 60 [x.av,e.av] h (fun r h'=>r=({x with se:=x.se.take (insI (·.id) x.se e.a)++(⟨e.a,e.s,e.t⟩:Se)::x.se.drop (insI (·.id) x.se e.a),t4:=topI x.t4 e.a}:St).av∧h'=h):=by
 have hel:(x.se.map Se.av).length=x.se.length:=L8 ..;have dt:∀i:Decidable True, @decide True i=true:=fun i=>P1 trivial
 have F:=F2 k1 hel;refine sb [.cell 4 36] Tryz.func60 ?_;intro Q hQ;refine wk F ?_;refine lm (fun nL tL hL=>∃(k:Nat),x.se.length-k=nL∧h++[.row 36 9 0 [x.av],.row 62 7 0 [e.av],.row 36 9 0 [.agg [.int .i64 0,.nil (.slice none 0 0),.nil (.slice none 0 0),.nil (.slice none 0 0),.nil (.slice none 0 0),.int .i64 0,.int .i64 0,.int .i64 0,.int .i64 0]]]=hL∧tL 2=.hp h.length 0 0 0∧tL 3=.hp (h.length+1) 0 0 0∧tL 4=.hp (h.length+2) 0 0 0∧tL 5=.int .i64 k∧k≤x.se.length∧(∀b∈x.se.take k,b.id<e.a)) ((fun(k:Nat)=>(x.se.length-k:Nat)) (0)) ?_ ?_
 ·refine M2 ⟨0,rfl,by simp[St.av,Ev.av,k1],?_,?_,?_,?_,by omega,by simp⟩;all_goals try exact zZz F
 rintro _ s2 h' ⟨k,rfl,rfl,e2,e3,e4,e5,hk,hlt⟩ K2 hK2;simp only[af,ao,Nat.reduceEqDiff, ↓reduceIte]at e2 e3 e4 e5;have F:=F5 F e2 e3 e4 e5;have hsA:∀H,aslice Tryz.prog H 34 (.sl 3 (x.se.map Se.av)) none (some (.int .i64 (k:Int))) none=some (.sl 3 ((x.se.map Se.av).take k)):=fun H=>bU (by simp only[go_sem];try rfl) (by simp only[go_sem];try rfl) (by omega)
 have hsB:∀H,aslice Tryz.prog H 34 (.sl 3 (x.se.map Se.av)) (some (.int .i64 (k:Int))) none none=some (.sl 3 ((x.se.map Se.av).drop k)):=fun H=>bV (by simp only[go_sem];try rfl) (by simp only[go_sem];try rfl) (by omega)
 by_cases c1:k<x.se.length
 ·obtain⟨b,hb,_⟩:=ac c1;by_cases c2:b.id<e.a
  ·have d2:decide (b.id<e.a)=true:=P1 c2;have F:=F5 F hb c1 dt d2;(try refine sq F ?_);refine wk F ?_;have hlt1:∀b∈x.se.take (k+1),b.id<e.a:=by
    rw[P3,hb];intro z hz;simp at hz;rcases hz with hz|rfl
    ·exact hlt z hz
    ·exact c2
   refine hK2 _ _ _ (M2 ⟨k+1,rfl,by simp[St.av,Ev.av,k1],?_,?_,?_,?_,by omega,hlt1⟩) (by omega);all_goals try exact zZz F
  ·have d2:decide (b.id<e.a)=false:=O4 c2;have hins:insI (·.id) x.se e.a=k:=cG hlt hk fun z hz=>by rw[hb]at hz;cases hz;exact c2
   have F:=F7 F hb c1 dt d2 @hsA @hsB;(try refine sq F ?_);refine wk F ?_;refine aL (n0:=h.length+3) (.ez _ _ _ _) (by simp) ?_;intro v0 h0 L0 f0 g0;obtain⟨r1,r2,r3⟩:=f0.r3;simp only[N3,M8,O7]at g0;have F:=F4 F r1 r2 r3;try refine sq F ?_
   skip
   refine wn F ?_;refine aC 16 [5,14] [true,true,true,true,true,false,true,true,true,true,true,true,true,true,false,true] (.one 5 [false,false,false,false,false,false,true,true,true,true,true,true,false,true] (.one 14 [] .fin)) (by decide+kernel) (by kernel_rfl) (by decide+kernel) ?_;simp only[aG,aH,aD];(try refine sq F ?_);repeat' ((first|refine ai ?_|refine aj ?_|refine ak ?_ ?_)<;>try refine sq F ?_)
   (all_goals try refine wn F ?_);refine aL (n0:=h0.length) (.ez _ _ _ _) (M4 _) ?_;intro v1 h1 L1 f1 g1;obtain⟨r1,r2,r3⟩:=(f0.trans (f1.less (by omega))).r3;have F:=F4 F r1 r2 r3;(try refine sq F ?_);refine⟨?_,?_⟩
   ·(refine vq F ?_;try refine sq F ?_)<;>trivial
   repeat' ((first|refine ai ?_|refine aj ?_|refine ak ?_ ?_)<;>try refine sq F ?_)
   (all_goals try refine wn F ?_);refine aL L1 (by omega) ?_;intro v2 h2 L2 f2 g2;obtain⟨r1,r2,r3⟩:=(f0.trans ((f1.trans f2).less (by omega))).r3;have E0:=(L0.old (f1.trans f2)).elems;have F:=F4 F r1 r2 r3;(try refine sq F ?_);repeat' ((first|refine ai ?_|refine aj ?_|refine ak ?_ ?_)<;>try refine sq F ?_)
   (all_goals try refine wn F ?_);refine aL L2 (by omega) ?_ (hy:=E0);intro v3 h3 L3 f3 g3;obtain⟨r1,r2,r3⟩:=(f0.trans (((f1.trans f2).trans f3).less (by omega))).r3;have lc:=L3.cel;have ll:=L3.lie;have hz:h.length+2<h3.length:=(by omega);have hn1:h.length<h3.length:=(by omega);have F:=F7 F r1 r2 r3 lc ll @aw;(try refine sq F ?_);repeat' ((first|refine ai ?_|refine aj ?_|refine ak ?_ ?_)<;>try refine sq F ?_)
   all_goals try refine wn F ?_
   skip
   refine kq F (cu G x.t4 e.a _) ?_;refine ye hQ F ?_;refine cF (Z1 (X0 _ (M4 _) (W7 _ _)) ((f0.trans (((f1.trans f2).trans f3).less (by omega))).less (by omega))) (by omega) (by omega) ?_ ⟨by rw[hins],rfl⟩;refine bx (x:= {x with se:=x.se.take k++(⟨e.a,e.s,e.t⟩:Se)::x.se.drop k,t4:=topI x.t4 e.a}) (ax (zc3 _) _) (ax (zc5 _) _) (ax (zc2 _) _) ?_;refine L3.fin2 (es:=(x.se.take k++(⟨e.a,e.s,e.t⟩:Se)::x.se.drop k).map Se.av) (by omega) (by omega) (by omega) ?_;rw[Q9,N9,show(x.se.take k).map Se.av++Se.av ⟨e.a,e.s,e.t⟩::(x.se.drop k).map Se.av=(x.se.take k).map Se.av++[Se.av ⟨e.a,e.s,e.t⟩]++(x.se.drop k).map Se.av by simp, ← X4, ← Z4,P4];refine((FrzRs.map zc4 Se.sto _).app (.cons ?_ .nil)).app (FrzRs.map zc4 Se.sto _);exact FrzR.clo (zc4 _ ⟨e.a,e.s,e.t⟩) (Se.sto ⟨e.a,e.s,e.t⟩)
 ·have d1:decide (k<x.se.length)=false:=O4 c1;have hins:insI (·.id) x.se e.a=k:=cG hlt hk fun z hz=>by rw[Q4 (by omega)]at hz;cases hz
  have F:=F4 F d1 @hsA @hsB;try refine sq F ?_
  refine wk F ?_;refine aL (n0:=h.length+3) (.ez _ _ _ _) (by simp) ?_;intro v0 h0 L0 f0 g0;obtain⟨r1,r2,r3⟩:=f0.r3;simp only[N3,M8,O7]at g0;have F:=F4 F r1 r2 r3;try refine sq F ?_
  skip
  refine wn F ?_;refine aC 16 [5,14] [true,true,true,true,true,false,true,true,true,true,true,true,true,true,false,true] (.one 5 [false,false,false,false,false,false,true,true,true,true,true,true,false,true] (.one 14 [] .fin)) (by decide+kernel) (by kernel_rfl) (by decide+kernel) ?_;simp only[aG,aH,aD];try refine sq F ?_
  repeat' ((first|refine ai ?_|refine aj ?_|refine ak ?_ ?_)<;>try refine sq F ?_)
  all_goals try refine wn F ?_
  refine aL (n0:=h0.length) (.ez _ _ _ _) (M4 _) ?_;intro v1 h1 L1 f1 g1;obtain⟨r1,r2,r3⟩:=(f0.trans (f1.less (by omega))).r3;have F:=F4 F r1 r2 r3;try refine sq F ?_
  refine⟨?_,?_⟩
  ·(refine vq F ?_;try refine sq F ?_)<;>trivial
  repeat' ((first|refine ai ?_|refine aj ?_|refine ak ?_ ?_)<;>try refine sq F ?_)
  all_goals try refine wn F ?_
  refine aL L1 (by omega) ?_;intro v2 h2 L2 f2 g2;obtain⟨r1,r2,r3⟩:=(f0.trans ((f1.trans f2).less (by omega))).r3;have E0:=(L0.old (f1.trans f2)).elems;have F:=F4 F r1 r2 r3;try refine sq F ?_
  repeat' ((first|refine ai ?_|refine aj ?_|refine ak ?_ ?_)<;>try refine sq F ?_)
  all_goals try refine wn F ?_
  refine aL L2 (by omega) ?_ (hy:=E0);intro v3 h3 L3 f3 g3;obtain⟨r1,r2,r3⟩:=(f0.trans (((f1.trans f2).trans f3).less (by omega))).r3;have lc:=L3.cel;have ll:=L3.lie;have hz:h.length+2<h3.length:=by omega
  have hn1:h.length<h3.length:=by omega
  have F:=F7 F r1 r2 r3 lc ll @aw;try refine sq F ?_
  repeat' ((first|refine ai ?_|refine aj ?_|refine ak ?_ ?_)<;>try refine sq F ?_)
  all_goals try refine wn F ?_
  skip
  refine kq F (cu G x.t4 e.a _) ?_;refine ye hQ F ?_;refine cF (Z1 (X0 _ (M4 _) (W7 _ _)) ((f0.trans (((f1.trans f2).trans f3).less (by omega))).less (by omega))) (by omega) (by omega) ?_ ⟨by rw[hins],rfl⟩;refine bx (x:= {x with se:=x.se.take k++(⟨e.a,e.s,e.t⟩:Se)::x.se.drop k,t4:=topI x.t4 e.a}) (ax (zc3 _) _) (ax (zc5 _) _) (ax (zc2 _) _) ?_;refine L3.fin2 (es:=(x.se.take k++(⟨e.a,e.s,e.t⟩:Se)::x.se.drop k).map Se.av) (by omega) (by omega) (by omega) ?_;rw[Q9,N9,show(x.se.take k).map Se.av++Se.av ⟨e.a,e.s,e.t⟩::(x.se.drop k).map Se.av=(x.se.take k).map Se.av++[Se.av ⟨e.a,e.s,e.t⟩]++(x.se.drop k).map Se.av by simp, ← X4, ← Z4,P4];refine((FrzRs.map zc4 Se.sto _).app (.cons ?_ .nil)).app (FrzRs.map zc4 Se.sto _);exact FrzR.clo (zc4 _ ⟨e.a,e.s,e.t⟩) (Se.sto ⟨e.a,e.s,e.t⟩)
end
section
theorem wY{l:List Int}(h:l.Nodup):(sortI l).Pairwise (· < ·):=by
 have h1:(sortI l).Pairwise fun a b=>decide (a≤b)=true:=List.pairwise_mergeSort (fun a b c h1 h2=>by simp at *;omega) (fun a b=>by simp;omega) l
 have h2:(sortI l).Nodup:=dK h;refine List.Pairwise.imp₂ (R:=fun a b=>decide (a≤b)=true) (S:=fun a b=>a≠b) (fun a b hab hne=>?_) h1 h2;simp at hab;omega
section
variable {α:Type} {z:α} {key:α→Int} {l:ML Int α} {c:Nat}
theorem dB(w:WFM l c)(hid:∀k a,lkM l k=some a→key a=k):((valsM z l).map key).Pairwise (· < ·):=by
 rw[gz w key hid];exact wY w.keys
theorem ux{L:List α}(h:(L.map key).Pairwise (· < ·)):L.Nodup:=by
 rw[zb0]at h;exact h.imp fun hab he=>by rw[he]at hab;omega
theorem fy(w:WFM l c)(hid:∀k a,lkM l k=some a→key a=k){L:List α}(hs:(L.map key).Pairwise (· < ·))(hm:∀a,a∈L↔∃k,lkM l k=some a):valsM z l=L:=by
 have h0:=dB (z:=z) w hid;have hp:(valsM z l).Perm L:=(za4 (ux h0) (ux hs)).2 fun a=>by
  rw[hm];exact⟨aP,fun⟨k,hk⟩=>bD hk⟩
 rw[zb0]at h0 hs;exact List.Perm.eq_of_pairwise (fun a b _ _ h1 h2=>by omega) h0 hs hp
theorem uy(k:Int)(a:α)(b:α):(∃j,lkM (upM l c k a) j=some b)↔b=a∨∃j,j≠k∧lkM l j=some b:=by
 constructor
 ·rintro⟨j,hj⟩;rcases aR hj with⟨_,rfl⟩| ⟨h1,h2⟩
  ·exact .inl rfl
  ·exact .inr ⟨j,h1,h2⟩
 ·rintro(rfl| ⟨j,h1,h2⟩)
  ·exact⟨k,by rw[aN,M0 rfl]⟩
  ·exact⟨j,by rw[aN,L5 h1];exact h2⟩
theorem uz(L:List α)(id:Int):∀b∈L.take (insI key L id),key b<id:=by
 induction L with
 |nil=>intro b hb;simp at hb
 |cons a L ih=>
  unfold insI at ih ⊢;rw[zb6];split
  ·rename_i h;intro b hb;simp only[M8,P8,M6]at hb;rcases hb with rfl|hb
   ·simpa using h
   ·exact ih b hb
  ·intro b hb;simp at hb
theorem uA{L:List α}(hs:(L.map key).Pairwise (· < ·))(id:Int):∀b∈L.drop (insI key L id),id≤key b:=by
 induction L with
 |nil=>intro b hb;simp at hb
 |cons a L ih=>
  rw[N9,U3]at hs;have ih:=ih hs.2;unfold insI at ih ⊢;rw[zb6];split
  ·intro b hb;simp only[M8,za2]at hb;exact ih b hb
  ·rename_i h;intro b hb;simp only[O7,za7,M6]at hb;simp at h;rcases hb with rfl|hb
   ·exact h
   ·have:=hs.1 (key b) (M9.2 ⟨b,hb,rfl⟩);omega
theorem gD(w:WFM l c)(hid:∀k a,lkM l k=some a→key a=k){k:Int}{a:α}(hk:lkM l k=none)(ha:key a=k):
  valsM z (upM l c k a)=(valsM z l).take (insI key (valsM z l) k)++a::(valsM z l).drop (insI key (valsM z l) k):=by
 have h0:=dB (z:=z) w hid;have hne:∀b∈valsM z l,key b≠k:=fun b hb=>by
  obtain⟨j,hj⟩:=aP hb;rw[hid j b hj];rintro rfl;rw[hk]at hj;cases hj
 refine fy (key:=key) (c:=ckM l c k) (w.up _ _) (fun j b hj=>?_) ?_ fun b=>?_
 ·rcases aR hj with⟨rfl,rfl⟩| ⟨_,h⟩
  ·exact ha
  ·exact hid _ _ h
 ·rw[Q9,N9,List.pairwise_append,U3];have h1:((valsM z l).take (insI key (valsM z l) k)++(valsM z l).drop (insI key (valsM z l) k))=valsM z l:=za5 _ _;have h2:=h0;rw[← h1,Q9,List.pairwise_append]at h2;have hlt:∀b∈ (valsM z l).drop (insI key (valsM z l) k),k<key b:=fun b hb=>by
   have:=uA h0 k b hb;have:=hne b (List.mem_of_mem_drop hb);omega
  refine⟨h2.1,⟨fun q hq=>?_,h2.2.1⟩,fun q hq r hr=>?_⟩
  ·obtain⟨b,hb,rfl⟩:=M9.1 hq;rw[ha];exact hlt b hb
  ·obtain⟨b,hb,rfl⟩:=M9.1 hq;have hb2:=uz _ _ b hb;rcases M6.1 hr with rfl|hr
   ·rw[ha];exact hb2
   ·obtain⟨d,hd,rfl⟩:=M9.1 hr;have:=hlt d hd;omega
 ·rw[uy,S5,M6];have hm:∀b,b∈valsM z l↔b∈ (valsM z l).take (insI key (valsM z l) k)∨b∈ (valsM z l).drop (insI key (valsM z l) k):=fun b=>by rw[← S5,za5]
  constructor
  ·intro h;have:b=a∨b∈valsM z l:=by
    rcases h with h|h|h
    ·exact .inr ((hm b).2 (.inl h))
    ·exact .inl h
    ·exact .inr ((hm b).2 (.inr h))
   refine this.imp id fun h=>?_
   obtain⟨j,hj⟩:=aP h;exact⟨j,(by rintro rfl;rw[hk]at hj;cases hj),hj⟩
  ·rintro(h| ⟨j,_,hj⟩)
   ·exact .inr (.inl h)
   ·rcases(hm b).1 (bD hj)with h|h
    ·exact .inl h
    ·exact .inr (.inr h)
theorem pG{L:List α}(hs:(L.map key).Pairwise (· < ·)){i:Nat}{b:α}(hi:L[i]? =some b)(x:α):x∈L.take i++L.drop (i+1)↔x∈L∧key x≠key b:=by
 induction L generalizing i with
 |nil=>simp at hi
 |cons a L ih=>
  rw[N9,U3]at hs;cases i with
  |zero=>
   simp at hi;subst hi;simp only[R3,P4,R1,za2,za7,M6];constructor
   ·intro h;exact⟨.inr h,by have:=hs.1 (key x) (M9.2 ⟨x,h,rfl⟩);omega⟩
   ·rintro⟨h|h,hne⟩
    ·exact(hne (by rw[h])).elim
    ·exact h
  |succ i=>
   have hi':L[i]? =some b:=(by simpa using hi);have hb:=M7 hi';have hab:=hs.1 (key b) (M9.2 ⟨b,hb,rfl⟩);simp only[P8,U8,za2,M6];rw[ih hs.2 hi'];constructor
   ·rintro(h| ⟨h,hne⟩)
    ·exact⟨.inl h,by rw[h];omega⟩
    ·exact⟨.inr h,hne⟩
   ·rintro⟨h|h,hne⟩
    ·exact .inl h
    ·exact .inr ⟨h,hne⟩
theorem js(w:WFM l c)(hid:∀k a,lkM l k=some a→key a=k){k:Int}{i:Nat}{b:α}(hi:(valsM z l)[i]? =some b)(hb:key b=k):
  valsM z (dlM l k)=(valsM z l).take i++(valsM z l).drop (i+1):=by
 have h0:=dB (z:=z) w hid;refine fy (key:=key) (c:=c) (w.dl _) (fun j b hj=>hid _ _ (db w.keys hj).2) ?_ fun x=>?_
 ·refine h0.sublist ?_;refine List.Sublist.map key ?_;rw[← List.eraseIdx_eq_take_drop_succ];exact List.eraseIdx_sublist _ _
 ·rw[pG h0 hi,hb];constructor
  ·rintro⟨h1,h2⟩;obtain⟨j,hj⟩:=aP h1;refine⟨j,?_⟩;rw[cH w.keys,L5 (by rintro rfl;exact h2 (hid _ _ hj))];exact hj
  ·rintro⟨j,hj⟩;obtain⟨h1,h2⟩:=db w.keys hj;exact⟨bD h2,by rw[hid _ _ h2];exact h1⟩
theorem uB{L:List α}{i:Nat}{b:α}(hi:L[i]? =some b)(a:α):L.set i a=L.take i++a::L.drop (i+1):=by
 rw[List.set_eq_take_append_cons_drop,M0 (f9.1 hi).1]
theorem fb(w:WFM l c)(hid:∀k a,lkM l k=some a→key a=k){k:Int}{i:Nat}{a b:α}(hi:(valsM z l)[i]? =some b)(hb:key b=k)(ha:key a=k):
  valsM z (upM l c k a)=(valsM z l).set i a:=by
 have h0:=dB (z:=z) w hid;refine fy (key:=key) (c:=ckM l c k) (w.up _ _) (fun j d hj=>?_) ?_ fun x=>?_
 ·rcases aR hj with⟨rfl,rfl⟩| ⟨_,h⟩
  ·exact ha
  ·exact hid _ _ h
 ·have:((valsM z l).set i a).map key=(valsM z l).map key:=by
   rw[zb5,ha, ← hb]
   apply R8
   intro q;rw[Y6];split
   ·rename_i hq;subst hq;rw[N8,hi];simp[(f9.1 hi).1]
   ·rfl
  rw[this];exact h0
 ·rw[uy,uB hi,S5,M6];have hm:=pG h0 hi x;rw[S5,hb]at hm;constructor
  ·intro h;have:x=a∨(x∈valsM z l∧key x≠k):=by
    rcases h with h|h|h
    ·exact .inr (hm.1 (.inl h))
    ·exact .inl h
    ·exact .inr (hm.1 (.inr h))
   refine this.imp id fun⟨h1,h2⟩=>?_
   obtain⟨j,hj⟩:=aP h1;exact⟨j,by rintro rfl;exact h2 (hid _ _ hj),hj⟩
  ·rintro(h| ⟨j,h1,h2⟩)
   ·exact .inr (.inl h)
   ·rcases hm.2 ⟨bD h2,by rw[hid _ _ h2];exact h1⟩with h|h
    ·exact .inl h
    ·exact .inr (.inr h)
theorem wZ(w:WFM l c)(hid:∀k a,lkM l k=some a→key a=k)(p:α→Bool):valsM z (l.filter fun e=>p e.2.1)=(valsM z l).filter p:=by
 have h0:=dB (z:=z) w hid;refine fy (key:=key) (c:=c) (w.filter _) (fun j b hj=>hid _ _ (fV w.keys hj)) (h0.sublist (List.filter_sublist.map _)) fun x=>?_
 rw[V3];constructor
 ·rintro⟨h1,h2⟩;obtain⟨j,hj⟩:=aP h1;exact⟨j,nD w.keys hj fun n=>h2⟩
 ·rintro⟨j,hj⟩;obtain⟨h1,n,h2,h3⟩:=l6 w.keys hj;exact⟨bD h1,h3⟩
end
theorem nG{s:PS}(h:s.Inv):(s.tell.it.map (·.id)).Nodup:=
 (dB (z:=It.z) h.w3 fun k a hk=>(h.i3 k a hk).1).imp fun hab e=>by omega
end
section
attribute [local irreducible] WP WPl WPix Sat
def ptI(l:List It)(t:It):List It:=l.take (pst (l.map It.ky) t.ky)++t::l.drop (pst (l.map It.ky) t.ky)
theorem uC(l:List It)(t:It):(ptI l t).map It.ky=insK (l.map It.ky) t.ky:=by
 unfold ptI insK;simp[X4,Z4]
theorem x3(l:List It)(acc:List It):(l.foldl ptI acc).map It.ky=(l.map It.ky).foldl insK (acc.map It.ky):=by
 induction l generalizing acc with
 |nil=>rfl
 |cons x l ih=>rw[zb1,ih,uC];rfl
theorem iH(l:List It)(t:It):(ptI l t).length=l.length+1:=by
 have:=P0 List.length (uC l t);rw[vl]at this;simpa using this
theorem yq{l:List It}{t x:It}(h:x∈ptI l t):x=t∨x∈l:=by
 unfold ptI at h;rw[S5,M6]at h;rcases h with h|h|h
 ·exact .inr (W1 h)
 ·exact .inl h
 ·exact .inr (List.mem_of_mem_drop h)
theorem uD{l acc:List It}{x:It}(h:x∈l.foldl ptI acc):x∈acc∨x∈l:=by
 induction l generalizing acc with
 |nil=>exact .inl h
 |cons y l ih=>
  rcases ih h with h|h
  ·rcases yq h with rfl|h
   ·exact .inr (by simp)
   ·exact .inl h
  ·exact .inr (by simp[h])
theorem nH{l:List Ky}{k:Ky}:∀{a:Nat},a≤l.length→(∀b∈l.take a,ahd b k=true)→(∀b,l[a]? =some b→ahd b k=false)→pos27 l k=a:=by
 induction l with
 |nil=>intro a ha _ _;simp at ha;subst ha;rfl
 |cons x l ih=>
  intro a ha h1 h2;cases a with
  |zero=>unfold pos27;rw[h2 x rfl];rfl
  |succ a=>
   unfold pos27;rw[h1 x (by simp),ih (by simpa using ha) (fun b hb=>h1 b (by simp[hb])) (fun b hb=>h2 b (by simpa using hb))];rfl
variable (G:Nat→Option (List AVal))
theorem sh(a b:It)(h:Heap):Sat (CT G) 23 [a.av,b.av] h (fun r h'=>r=.bool (ahd a.ky b.ky)∧h'=h):=by
 have e:ahd a.ky b.ky=(decide (b.date<a.date)||(decide (a.date=b.date)&&decide (a.id<b.id))):=rfl;rw[e];by_cases c1:b.date<a.date
 ·have d1:decide (a.date>b.date)=true:=by simp;omega
  have F:=d1;refine sb [.tmp 4] Tryz.func23 ?_;intro Q hQ;refine wk F ?_;refine ee hQ F ?_;exact L7 (.bool _) ⟨rfl,rfl⟩
 ·have d1:decide (a.date>b.date)=false:=by simp;omega
  by_cases c2:a.date=b.date
  ·have d2:(a.date==b.date)=true:=(by simp[c2]);have F:=F2 d1 d2;refine sb [.tmp 4] Tryz.func23 ?_;intro Q hQ;refine wk F ?_;refine ee hQ F ?_;exact L7 (.bool _) ⟨by simp[c2],rfl⟩
  ·have d2:(a.date==b.date)=false:=(by simp[c2]);have F:=F2 d1 d2;refine sb [.tmp 4] Tryz.func23 ?_;intro Q hQ;refine wk F ?_;refine ee hQ F ?_;exact L7 (.bool _) ⟨by simp[c2],rfl⟩
theorem si(l:List It)(hd:(l.map (·.id)).Nodup)(hl:l.length≤100000)(h:Heap):Sat (CT G) 38 [.sl 9 (l.map It.av)] h (fun r h'=>r=.sl 1 (((srtK (l.map It.ky)).map (·.i)).map iA)∧h'=h):=by
 have hel:(l.map It.av).length=l.length:=L8 ..;have F:=hel;refine sb [.tmp 2] Tryz.func38 ?_;intro Q hQ;refine wk F ?_;refine lm (fun nL tL hL=>∃(i p v:Nat) (hh:Heap) (acc:List It),l.length-i=nL∧hh=hL∧tL 3=.hs p v 0 acc.length true∧tL 4=.int .i64 i∧i≤l.length∧acc=(l.take i).foldl ptI []∧acc.length=i∧getRow hh p v=some (49,9,acc.map It.av)∧(FrN h.length h hh∧h.length≤p)) ((fun(i p v:Nat) (hh:Heap) (acc:List It)=>(l.length-i:Nat)) (0) (h.length) (0) (h++[.row 49 9 0 []]) ([])) ?_ ?_
 ·refine⟨_,_,Y3 3 49 9 (by simp) (by omega) (by exact zq F),⟨0,h.length,0,h++[.row 49 9 0 []],[],rfl,aB,?_,?_,by omega,by simp,by simp,by rw[aJ _ rfl];rfl,⟨X0 _ (by omega) (W7 _ _),by omega⟩⟩⟩;all_goals try exact zZz F
 rintro _ s2 h' ⟨i,p,v,hh,acc,rfl,rfl,e3,e4,hi,hac,hal,hg,hfr⟩ K2 hK2;simp only[af,ao,Nat.reduceEqDiff, ↓reduceIte]at e3 e4;have F:=F3 F e3 e4;have hgl:=ba hg;have hacl:(acc.map It.av).length=acc.length:=L8 ..;have F:=F3 F hg @hacl;try refine sq F ?_
 refine wk F ?_;refine cq F (fun c1=>?_) (fun c1=>?_)<;>(try exact c1.elim)<;>(refine wk F ?_)
 ·have c2:i<l.length:=by omega
  obtain⟨y,hy,hym⟩:=ac c2;have F:=F3 F c2 hy;try refine sq F ?_
  refine wk F ?_;refine lm (fun nL tL hL=>∃(a:Nat),acc.length-a=nL∧[]++hh=hL∧tL 5=.int .i64 a∧a≤acc.length∧(∀b∈acc.take a,ahd b.ky y.ky=true)) ((fun(a:Nat)=>(acc.length-a:Nat)) (0)) ?_ ?_
  ·refine M2 ⟨0,rfl,rfl,?_,by omega,by simp⟩;all_goals try exact zZz F
  rintro _ s4 h' ⟨a,rfl,rfl,e5,ha,hlt⟩ K4 hK4;simp only[af,ao,Nat.reduceEqDiff, ↓reduceIte]at e5;have F:=F2 F e5;rw[P4];have hdis:∀t∈acc,t.ky.i≠y.ky.i:=fun t ht=>by
   rw[hac]at ht;rcases uD ht with ht|ht
   ·simp at ht
   ·obtain⟨q,hq⟩:=Q5 ht;have hql:=(f9.1 hq).1;rw[O6]at hql;rw[N4 (by omega)]at hq;intro e;have:=(List.getElem?_inj (i:=q) (j:=i) (l:=l.map (·.id)) (by rw[L8];omega) hd).1 (by rw[N8,N8,hq,hy];exact P0 some e);omega
  by_cases c5:a<acc.length
  ·obtain⟨b,hb,_⟩:=ac c5;have dt:∀i:Decidable True, @decide True i=true:=fun i=>P1 trivial
   have F:=F4 F hb c5 dt;(try refine sq F ?_);refine wk F ?_;refine aE (sh G b y _) ?_;(try refine sq F ?_);refine wk F ?_;cases hbl:ahd b.ky y.ky with
   |true=>
    have hlt1:∀b∈acc.take (a+1),ahd b.ky y.ky=true:=by
     rw[P3,hb];intro z hz;simp at hz;rcases hz with hz|rfl
     ·exact hlt z hz
     ·exact hbl
    have F:=F2 F hbl;(try refine sq F ?_);refine wk F ?_;refine hK4 _ _ _ (M2 ⟨a+1,rfl,rfl,?_,by omega,hlt1⟩) (by omega);all_goals try exact zZz F
   |false=>
    have hat:∀b,acc[a]? =some b→ahd b.ky y.ky=false:=fun b' hb'=>by rw[hb]at hb';cases hb';exact hbl
    have hsl:∃z,aslice Tryz.prog hh 33 (.hs p v 0 acc.length true) (some (.int .i64 (a:Int))) none none=some z∧elemsOf hh 9 z=some ((acc.map It.av).drop a):=
     ⟨_,qi (P:=Tryz.prog) (T:=33) (k:=.i64) (len:=acc.length) (i:=a) (by simp only[go_sem];try rfl) hg (by simp only[go_sem];try rfl) c5,oM (b:=true) (i:=a) hg hacl (by omega)⟩
    have F:=F2 F hbl;(try refine sq F ?_);refine wk F ?_;have hpp:pst (acc.map It.ky) y.ky=a:=(mQ fun x hx=>by obtain⟨t,ht,rfl⟩:=M9.1 hx;exact hdis t ht).symm.trans (nH (by rw[L8];omega) (fun b hb=>by rw[← X4]at hb;obtain⟨t,ht,rfl⟩:=M9.1 hb;exact hlt t ht)
     (fun b hb=>by rw[N8]at hb;obtain⟨t,ht,rfl⟩:=N2.1 hb;exact hat t ht))
    have hpt:ptI acc y=acc.take a++y::acc.drop a:=(by unfold ptI;rw[hpp]);have hac2:ptI acc y=(l.take (i+1)).foldl ptI []:=(by rw[P3,hy,zb2, ← hac];rfl);obtain⟨z,hz1,hz2⟩:=hsl;have F:=F2 (F9 hel e3 e4 hg @hacl c2 hy e5 hb) (F4 c5 dt hbl hz1);(try refine sq F ?_);refine wk F ?_;refine aL (n0:=hh.length) (.ez _ _ _ _) (M4 _) ?_ (hy:=hz2);intro v1 h1 L1 f1 g1;have hg3:getRow h1 p v=some (49,9,acc.map It.av):=(f1.row hgl).trans hg;have hgl1:=ba hg3;have lc:=L1.cel;have ll:=L1.lie;have hsl2:=jL (P:=Tryz.prog) (T:=33) (off:=0) (len:=acc.length) (room:=true) (k:=.i64) (k':=.i64) (r:=a) (by simp only[go_sem];try rfl) hg3 (by simp only[go_sem];try rfl) (by omega);have F:=F5 F hg3 hsl2 lc ll
    skip
    (try refine sq F ?_);refine wn F ?_;refine aC 11 [9] [true,true,true,true,true,true,true,true,true,false,true] (.one 9 [] .fin) (by decide+kernel) (by kernel_rfl) (by decide+kernel) ?_;simp only[aG,aH,aD];(try refine sq F ?_);repeat' ((first|refine ai ?_|refine aj ?_|refine ak ?_ ?_)<;>try refine sq F ?_)
    (all_goals try refine wn F ?_);refine mJ (.inl rfl) (by simp(disch:=first|omega| (simp only[go_sem, ↓reduceIte,seval];first|done|omega)|fail) only[go_sem, ↓reduceIte,seval,F];try rfl) (by simp(disch:=first|omega| (simp only[go_sem, ↓reduceIte,seval];first|done|omega)|fail) only[go_sem, ↓reduceIte,seval,F];try rfl) (by simp(disch:=first|omega| (simp only[go_sem, ↓reduceIte,seval];first|done|omega)|fail) only[go_sem, ↓reduceIte,seval,F];try rfl) (by simp(disch:=first|omega| (simp only[go_sem, ↓reduceIte,seval];first|done|omega)|fail) only[go_sem, ↓reduceIte,seval,F];try rfl) (by omega) (by simp only[elemsOf, ↓reduceIte];rfl) hg3 (by simp;try omega) (by simp) ⟨by simp[maxLen];try omega,by simp;try omega⟩ ?_;(try refine sq F ?_);repeat' ((first|refine ai ?_|refine aj ?_|refine ak ?_ ?_)<;>try refine sq F ?_)
    (all_goals try refine wn F ?_);have hg5:getRow (h1++[.row 49 9 0 ((acc.map It.av).take a++[y.av])]) h1.length 0=some (49,9,(acc.map It.av).take a++[y.av]):=(by rw[aJ _ rfl];rfl);have hyE:=(L1.old (H':=h1++[Blk.row 49 9 0 ((acc.map It.av).take a++[y.av])]) (X0 _ (M4 _) (W7 _ _))).elems;refine bJ (.inl rfl) (by simp(disch:=first|omega| (simp only[go_sem, ↓reduceIte,seval];first|done|omega)|fail) only[go_sem, ↓reduceIte,seval,F];try rfl) (by simp(disch:=first|omega| (simp only[go_sem, ↓reduceIte,seval];first|done|omega)|fail) only[go_sem, ↓reduceIte,seval,F];try rfl) (by simp(disch:=first|omega| (simp only[go_sem, ↓reduceIte,seval];first|done|omega)|fail) only[go_sem, ↓reduceIte,seval,F];try rfl) (by simp(disch:=first|omega| (simp only[go_sem, ↓reduceIte,seval];first|done|omega)|fail) only[go_sem, ↓reduceIte,seval,F];try rfl) (by omega) hyE hg5 (by simp;try omega) ⟨by simp[maxLen];try omega,by simp;try omega⟩ ?_;have hrw:(acc.map It.av).take a++[y.av]++(acc.map It.av).drop a=(ptI acc y).map It.av:=(by rw[hpt];simp);have hL:(ptI acc y).length=a+1+(acc.length-a):=(by rw[iH];omega);have hdl:((acc.map It.av).drop a).length=acc.length-a:=(by simp);have hg6:getRow (h1++[.row 49 9 1 ((ptI acc y).map It.av)]) h1.length 1=some (49,9,(ptI acc y).map It.av):=(by rw[aJ _ rfl];rfl);have F:=F3 F hL hdl;(try refine sq F ?_);refine wn F ?_;refine hK2 _ _ _ (M2 ⟨i+1,h1.length,1,h1++[Blk.row 49 9 1 ((ptI acc y).map It.av)],ptI acc y,rfl,by rw[← hrw];simp[It.av],?_,?_,by omega,hac2,by rw[iH];omega,hg6,⟨X0 _ (by omega) (Z1 hfr.1 (f1.less (by omega))),by omega⟩⟩) (by omega);all_goals try exact zZz F
  ·have d5:decide (a<acc.length)=false:=(by simp;omega);have hae:a=acc.length:=(by omega);have hat:∀b,acc[a]? =some b→ahd b.ky y.ky=false:=fun b' hb'=>by rw[Q4 (by omega)]at hb';cases hb'
   have hsl:∃z,aslice Tryz.prog hh 33 (.hs p v 0 acc.length true) (some (.int .i64 (a:Int))) none none=some z∧elemsOf hh 9 z=some ((acc.map It.av).drop a):=by
    rw[T9 (by omega)];by_cases ha0:a=0
    ·have hl0:acc.length=0:=(by omega);subst ha0;rw[hl0];exact⟨_,rX (by simp only[go_sem];try rfl) hg (by simp only[go_sem];try rfl),by rw[j3 hg (by rw[hacl,hl0])];rw[S8.1 hl0];rfl⟩
    ·exact⟨_,qj (by simp only[go_sem];try rfl) hg (by simp only[go_sem];try rfl) hae (by omega),rfl⟩
   skip
   have F:=F2 F d5;(try refine sq F ?_);refine wk F ?_;have hpp:pst (acc.map It.ky) y.ky=a:=(mQ fun x hx=>by obtain⟨t,ht,rfl⟩:=M9.1 hx;exact hdis t ht).symm.trans (nH (by rw[L8];omega) (fun b hb=>by rw[← X4]at hb;obtain⟨t,ht,rfl⟩:=M9.1 hb;exact hlt t ht)
    (fun b hb=>by rw[N8]at hb;obtain⟨t,ht,rfl⟩:=N2.1 hb;exact hat t ht))
   have hpt:ptI acc y=acc.take a++y::acc.drop a:=(by unfold ptI;rw[hpp]);have hac2:ptI acc y=(l.take (i+1)).foldl ptI []:=(by rw[P3,hy,zb2, ← hac];rfl);obtain⟨z,hz1,hz2⟩:=hsl;have F:=F2 F hz1;(try refine sq F ?_);refine wk F ?_;refine aL (n0:=hh.length) (.ez _ _ _ _) (M4 _) ?_ (hy:=hz2);intro v1 h1 L1 f1 g1;have hg3:getRow h1 p v=some (49,9,acc.map It.av):=(f1.row hgl).trans hg;have hgl1:=ba hg3;have lc:=L1.cel;have ll:=L1.lie;have hsl2:=jL (P:=Tryz.prog) (T:=33) (off:=0) (len:=acc.length) (room:=true) (k:=.i64) (k':=.i64) (r:=a) (by simp only[go_sem];try rfl) hg3 (by simp only[go_sem];try rfl) (by omega);have F:=F5 F hg3 hsl2 lc ll
   skip
   (try refine sq F ?_);refine wn F ?_;refine aC 11 [9] [true,true,true,true,true,true,true,true,true,false,true] (.one 9 [] .fin) (by decide+kernel) (by kernel_rfl) (by decide+kernel) ?_;simp only[aG,aH,aD];(try refine sq F ?_);repeat' ((first|refine ai ?_|refine aj ?_|refine ak ?_ ?_)<;>try refine sq F ?_)
   (all_goals try refine wn F ?_);refine mJ (.inl rfl) (by simp(disch:=first|omega| (simp only[go_sem, ↓reduceIte,seval];first|done|omega)|fail) only[go_sem, ↓reduceIte,seval,F];try rfl) (by simp(disch:=first|omega| (simp only[go_sem, ↓reduceIte,seval];first|done|omega)|fail) only[go_sem, ↓reduceIte,seval,F];try rfl) (by simp(disch:=first|omega| (simp only[go_sem, ↓reduceIte,seval];first|done|omega)|fail) only[go_sem, ↓reduceIte,seval,F];try rfl) (by simp(disch:=first|omega| (simp only[go_sem, ↓reduceIte,seval];first|done|omega)|fail) only[go_sem, ↓reduceIte,seval,F];try rfl) (by omega) (by simp only[elemsOf, ↓reduceIte];rfl) hg3 (by simp;try omega) (by simp) ⟨by simp[maxLen];try omega,by simp;try omega⟩ ?_;(try refine sq F ?_);repeat' ((first|refine ai ?_|refine aj ?_|refine ak ?_ ?_)<;>try refine sq F ?_)
   (all_goals try refine wn F ?_);have hg5:getRow (h1++[.row 49 9 0 ((acc.map It.av).take a++[y.av])]) h1.length 0=some (49,9,(acc.map It.av).take a++[y.av]):=(by rw[aJ _ rfl];rfl);have hyE:=(L1.old (H':=h1++[Blk.row 49 9 0 ((acc.map It.av).take a++[y.av])]) (X0 _ (M4 _) (W7 _ _))).elems;refine bJ (.inl rfl) (by simp(disch:=first|omega| (simp only[go_sem, ↓reduceIte,seval];first|done|omega)|fail) only[go_sem, ↓reduceIte,seval,F];try rfl) (by simp(disch:=first|omega| (simp only[go_sem, ↓reduceIte,seval];first|done|omega)|fail) only[go_sem, ↓reduceIte,seval,F];try rfl) (by simp(disch:=first|omega| (simp only[go_sem, ↓reduceIte,seval];first|done|omega)|fail) only[go_sem, ↓reduceIte,seval,F];try rfl) (by simp(disch:=first|omega| (simp only[go_sem, ↓reduceIte,seval];first|done|omega)|fail) only[go_sem, ↓reduceIte,seval,F];try rfl) (by omega) hyE hg5 (by simp;try omega) ⟨by simp[maxLen];try omega,by simp;try omega⟩ ?_;have hrw:(acc.map It.av).take a++[y.av]++(acc.map It.av).drop a=(ptI acc y).map It.av:=(by rw[hpt];simp);have hL:(ptI acc y).length=a+1+(acc.length-a):=(by rw[iH];omega);have hdl:((acc.map It.av).drop a).length=acc.length-a:=(by simp);have hg6:getRow (h1++[.row 49 9 1 ((ptI acc y).map It.av)]) h1.length 1=some (49,9,(ptI acc y).map It.av):=(by rw[aJ _ rfl];rfl);have F:=F3 F hL hdl;(try refine sq F ?_);refine wn F ?_;refine hK2 _ _ _ (M2 ⟨i+1,h1.length,1,h1++[Blk.row 49 9 1 ((ptI acc y).map It.av)],ptI acc y,rfl,by rw[← hrw];simp[It.av],?_,?_,by omega,hac2,by rw[iH];omega,hg6,⟨X0 _ (by omega) (Z1 hfr.1 (f1.less (by omega))),by omega⟩⟩) (by omega);all_goals try exact zZz F
 ·rw[N0 (by omega)]at hac;obtain⟨hfr,hfp⟩:=hfr;obtain⟨j0,rfl⟩:=hfr.behind (by omega);have hky:acc.map It.ky=srtK (l.map It.ky):=by rw[hac,x3];rfl
  skip
  refine lm (fun nL tL hL=>∃(k w:Nat) (out:List Int),acc.length-k=nL∧(h++j0)++[.row 3 1 w (out.map iA)]=hL∧tL 7=.hs (h++j0).length w 0 out.length true∧tL 8=.int .i64 k∧k≤acc.length∧out.length=k∧out++(acc.drop k).map (·.id)=acc.map (·.id)) ((fun(k w:Nat) (out:List Int)=>(acc.length-k:Nat)) (0) (0) ([])) ?_ ?_
  ·refine⟨_,_,Y3 7 3 1 (by simp) (by omega) (by exact zq F),⟨0,0,[],rfl,aB,?_,?_,by omega,rfl,by simp⟩⟩;all_goals try exact zZz F
  rintro _ s5 h' ⟨k,w,out,rfl,rfl,e7,e8,hk,hol,hop⟩ K5 hK5;simp only[af,ao,Nat.reduceEqDiff, ↓reduceIte]at e7 e8;have F:=F3 F e7 e8;have hg9:getRow ((h++j0)++[Blk.row 3 1 w (out.map iA)]) p v=some (49,9,acc.map It.av):=by rw[bo _ hgl];exact hg
  rw[O1]at hg9;have F:=F2 F hg9;try refine sq F ?_
  refine wk F ?_;refine cq F (fun c7=>?_) (fun c7=>?_)<;>(try exact c7.elim)<;>(refine wk F ?_)
  ·have c8:k<acc.length:=(by omega);obtain⟨y,hy,_⟩:=ac c8;rw[aF hy,N9]at hop;have F:=F4 F hy c8 @aw;(try refine sq F ?_);refine wk F ?_;refine aq F ?_;(try refine sq F ?_);refine wk F ?_;refine hK5 _ _ _ (M2 ⟨k+1,w+1,out++[y.id],rfl,by simp[iA],?_,?_,by omega,by simp;omega,by rw[← hop];simp⟩) (by omega);all_goals try exact zZz F
  ·rw[aI (by omega),S6,O8]at hop;have hres:(srtK (l.map It.ky)).map (·.i)=out:=(by rw[hop, ← hky,W5];rfl);have hgo:getRow ((h++j0)++[Blk.row 3 1 w (out.map iA)]) (h++j0).length w=some (3,1,out.map iA):=(by rw[aJ _ rfl];simp[getRow]);rw[O1,N3]at hgo;refine ee hQ F ?_;rw[hres];refine Fin.frz (za3 (by simp) hgo (by simp) (fun r hr=>?_) (fun r hr=>?_)) ⟨rfl,rfl⟩
   ·obtain⟨a,_,rfl⟩:=M9.1 hr;exact .int _ _
   ·obtain⟨a,_,rfl⟩:=M9.1 hr;intro c hc;simp[AVal.cells,iA]at hc;subst hc;rfl
end
section
attribute [local irreducible] WP WPl WPix Sat
theorem x4(N:Nat)(l:List Int):Clo N (.sl 1 (l.map iA)):=Clo.sl _ _ fun x hx=>by obtain⟨y,_,rfl⟩:=M9.1 hx;exact .int _ _
variable (G:Nat→Option (List AVal))
theorem lQ(a b:List Int)(ha:a.length≤1000000)(hb:b.length≤1000000)(h:Heap):Sat (CT G) 16 [.sl 1 (a.map iA),.sl 1 (b.map iA)] h (fun r h'=>r=.bool (decide (a=b))∧h'=h):=by
 have hal:(a.map iA).length=a.length:=L8 ..;have hbl:(b.map iA).length=b.length:=L8 ..;by_cases hlen:a.length=b.length
 ·have hne:((a.length:Int) != (b.length:Int))=false:=by simp[hlen]
  have F:=F3 hal hbl hne;refine sb [.tmp 4] Tryz.func16 ?_;intro Q hQ;refine wk F ?_;refine lm (fun nL tL hL=>∃(k:Nat),a.length-k=nL∧h=hL∧tL 5=.int .i64 k∧k≤a.length∧a.take k=b.take k) ((fun(k:Nat)=>(a.length-k:Nat)) (0)) ?_ ?_
  ·refine M2 ⟨0,rfl,aB,?_,by omega,rfl⟩;all_goals try exact zZz F
  rintro _ s2 h' ⟨k,rfl,rfl,e5,hk,hp⟩ K2 hK2;simp only[af,ao,Nat.reduceEqDiff, ↓reduceIte]at e5;have F:=F2 F e5;refine wk F ?_;refine cq F (fun c1=>?_) (fun c1=>?_)<;>(try exact c1.elim)<;>(refine wk F ?_)
  ·have c2:k<a.length:=(by omega);have c3:k<b.length:=(by omega);obtain⟨x,hx,_⟩:=ac c2;obtain⟨y,hy,_⟩:=ac c3;have F:=F5 F hx hy c2 c3;(try refine sq F ?_);refine wk F ?_;refine cq F (fun c4=>?_) (fun c4=>?_)<;>(try exact c4.elim)<;>(refine wk F ?_)
   ·have e:a≠b:=(by rintro rfl;rw[hx]at hy;cases hy;exact c4 rfl);refine ee hQ (F8 hal hbl hne e5 hx hy c2 c3) ?_;exact P2 (.bool _) ⟨by rw[O4 e],rfl⟩
   ·have hp1:a.take (k+1)=b.take (k+1):=(by rw[P3,P3,hx,hy,hp,c4]);refine hK2 _ _ _ (M2 ⟨k+1,rfl,aB,?_,by omega,hp1⟩) (by omega);all_goals try exact zZz F
  ·have e:a=b:=by
    have:=hp
    rwa [N0 (by omega),N0 (by omega)]at this
   refine ee hQ F ?_;exact P2 (.bool _) ⟨by rw[P1 e],rfl⟩
 ·have hne:((a.length:Int) != (b.length:Int))=true:=by simp;omega
  have e:a≠b:=by rintro rfl;exact hlen rfl
  have F:=F3 hal hbl hne;refine sb [.tmp 4] Tryz.func16 ?_;intro Q hQ;refine wk F ?_;refine ee hQ F ?_;exact P2 (.bool _) ⟨by rw[O4 e],rfl⟩
end
section
attribute [local irreducible] WP WPl WPix Sat
variable (G:Nat→Option (List AVal))
theorem pH{C:Ctx}{ops:Array Oper}{dst:Option Nat}{op:Op}{ty:TypeId}{pos:String}{aft:Array Edge}{t:Env}{h:Heap}{K:AVal→Heap→Prop}{j d:Nat}{want:Bool}(hd:(ops[j]?).bind (·.dst)=some d)(ht:t d=.bool want)
  (g:wpOperV C ops ⟨dst,op,ty,pos,aft,none⟩ t h K):wpOperV C ops ⟨dst,op,ty,pos,aft,some (j,want)⟩ t h K:=by
 have e:guardA ops t j=some (some want):=by unfold guardA;rw[hd];simp only[ht]
 unfold wpOperV;simp only[e];exact⟨fun _=>g,fun h=>absurd rfl h⟩
end
section
attribute [local irreducible] WP WPl WPix Sat
section
variable {Y:Heap} {n m v:Nat} {s:PS} {l:List Ky}
end
variable (G:Nat→Option (List AVal))
section
variable {Y:Heap} {n m v:Nat} {s:PS} {l:List Ky}
end
end
end Go.Av
