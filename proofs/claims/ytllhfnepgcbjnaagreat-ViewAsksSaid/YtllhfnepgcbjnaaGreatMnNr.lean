/- Parts. -/
import Derived.Test.YtllhfnepgcbjnaaGreatMnNn
import Derived.Test.YtllhfnepgcbjnaaGreatMnQu
set_option linter.unusedSimpArgs false
set_option linter.unusedVariables false
set_option linter.unusedSectionVars false
set_option linter.unnecessarySimpa false
set_option maxRecDepth 100000
set_option maxHeartbeats 16000000
namespace Go.Av
open Go Go.Proofs Go.RowKit
section
attribute [local irreducible] WP WPl WPix Sat
section
theorem mq{α:Type}{key:α→Int}{l:List α}{id:Int}{o:Option α}(h:fnd key l id=o):decide (posF key l id<0)= !o.isSome:=by
 subst h;cases hf:fnd key l id with
 |none=>rw[dr hf];rfl
 |some a=>obtain⟨k,_,h2,_⟩:=bd hf;rw[h2];simp
theorem eu{α:Type}{key:α→Int}{l:List α}{id:Int}{o:Option α}(h:fnd key l id=o):decide (posF key l id≥0)=o.isSome:=by
 subst h;cases hf:fnd key l id with
 |none=>rw[dr hf];rfl
 |some a=>obtain⟨k,_,h2,_⟩:=bd hf;rw[h2];simp
variable {s:PS} {e:Ev}
theorem zJ(hI:s.Inv):∀{k:Nat} {id:Int} {d n:Nat},(id=0∨(lkM s.fo id).isSome=true)→deepO s.fo k id=some d→s.tell.dpW k id n=n+d:=by
 intro k;induction k with
 |zero=>
  intro id d n hv hd;rw[deepO]at hd;split at hd
  ·cases hd
  ·rename_i hs;cases hd;rcases hv with hv|hv
   ·rw[St.dpW,M1 hv];rfl
   ·exact(hs hv).elim
 |succ k ih=>
  intro id d n hv hd;by_cases h0:id=0
  ·subst h0;rw[deepO,hI.no0]at hd;cases hd;rw[St.dpW,M1 rfl];rfl
  ·obtain⟨f,hf⟩:=N3.1 (hv.resolve_left h0);rw[deepO,hf]at hd;simp only[N1]at hd;obtain⟨j,hj,rfl⟩:=hd;rw[St.dpW,L5 h0,hI.fndFo,hf];simp only;rw[ih (hI.u1 _ _ hf) hj];omega
theorem ya(hI:s.Inv)(id:Int):s.tell.deep id=s.dpt id:=by
 unfold St.deep;rw[hI.fndFo];obtain⟨h1,_⟩:=hI.deep id;cases hf:lkM s.fo id with
 |none=>
  rw[deepO,hf]at h1;simp only[P1]at h1;exact h1
 |some f=>
  simp only;rw[zJ hI (.inr (by rw[hf];rfl)) h1];omega
theorem zK(hI:s.Inv)(hN:s.Nam)(i:Int)(g:Bs):(!s.tell.nmd i g)=((lkM s.nm (i,g)).getD 0==0):=by
 have h1:s.tell.nmd i g=(lkM s.nm (i,g)).isSome:=by
  unfold St.nmd;rw[O9,Z8];constructor
  ·rintro⟨f,hf,hp⟩;obtain⟨k,hk⟩:=aN hf;have:=hN.n2 k f hk;simp only[M7]at hp;rw[hp.1,hp.2]at this;rw[this];rfl
  ·intro hs;obtain⟨k,hk⟩:=N3.1 hs;obtain⟨f,hf,hp⟩:=hN.n1 _ _ hk;refine⟨f,bt hf,?_⟩;simp only[M7];cases hp;exact⟨rfl,rfl⟩
 rw[h1];cases hl:lkM s.nm (i,g)with
 |none=>rfl
 |some j=>
  have:=hN.nm1 hI hl;rw[O9];simp;omega
theorem zL(hI:s.Inv)(hN:s.Nam)(u:Bs):s.tell.plc u=(lkM s.pl u).getD 0:=by
 unfold St.plc;cases hf:s.tell.fe.find? fun f=>decide (f.url=u)with
 |none=>
  cases hl:lkM s.pl u with
  |none=>rfl
  |some k=>
   obtain⟨f,hk,hu⟩:=hN.p1 _ _ hl;have:=Y7.1 hf f (bt hk);simp[hu]at this
 |some f=>
  have h1:=List.find?_some hf;obtain⟨k,hk⟩:=aN (zb6 hf);simp only[M7]at h1;have:=hN.p2 k f hk;rw[h1]at this;rw[this];simp only[R4,Q8];exact(hI.i2 _ _ hk).1
theorem zM(hI:s.Inv)(hN:s.Nam)(i:Int)(g:Bs):s.tell.gid i g=(lkM s.gu (i,g)).getD 0:=by
 unfold St.gid;cases hf:s.tell.it.find? fun t=>decide (t.feed=i∧t.guid=g)with
 |none=>
  cases hl:lkM s.gu (i,g)with
  |none=>rfl
  |some k=>
   obtain⟨t,hk,hu⟩:=hN.g1 _ _ hl;have:=Y7.1 hf t (bt hk);cases hu;simp at this
 |some t=>
  have h1:=List.find?_some hf;obtain⟨k,hk⟩:=aN (zb6 hf);simp only[M7]at h1;have:=hN.g2 k t hk;rw[h1.1,h1.2]at this;rw[this];simp only[R4,Q8];exact(hI.i3 _ _ hk).1
theorem zN(hI:s.Inv){a:Int}(ha:a≠0):s.tell.emp a=((lkM s.he a).getD 0==0):=by
 have h1:=hI.hd a ha;have hz:∀{α:Type} (z:α) (w:α→Int) (p:α→Bool) (l:ML Int α),(∀x,w x=if p x then 1 else 0)→(l.map (·.1)).Nodup→(((valsM z l).any p)=false↔sumM w l=0):=fun {α} z w p l hw hn=>by
  have hnn:∀x,0≤w x:=fun x=>by rw[hw];split<;>omega
  constructor
  ·intro h;have:∀e∈l,w e.2.1=0:=fun e he=>by
    have hm:e.2.1∈valsM z l:=bt (bI hn (b:=e.2.2) he);have:=W6.1 h _ hm;rw[hw];simp[this]
   clear h hn;induction l with
   |nil=>rfl
   |cons e l ih=>rw[sumM,this e (by simp),ih fun x hx=>this x (by simp[hx])];rfl
  ·intro h;rw[W6];intro x hx;obtain⟨k,hk⟩:=aN hx;have:=nt hnn (by omega:sumM w l≤0) hk;rw[hw]at this;intro hp;rw[M1 hp]at this;cases this
 have hz1:=hz Fo.z (inFo a) (fun f=>decide (f.inn=a)) s.fo (fun x=>by unfold inFo;simp) hI.w1.keys;have hz2:=hz Fe.z (inFe a) (fun f=>decide (f.inn=a)) s.fe (fun x=>by unfold inFe;simp) hI.w2.keys;have n1:=cF (fX a) s.fo;have n2:=cF (fY a) s.fe;rw[h1];unfold St.emp
 change (!((valsM Fo.z s.fo).any fun f=>decide (f.inn=a))&& !((valsM Fe.z s.fe).any fun f=>decide (f.inn=a)))=_
 rw[O9];simp only[L7,P0,beq_iff_eq];rw[hz1,hz2];omega
theorem rU(s:PS):s.tell.fo.length=s.fo.length∧s.tell.fe.length=s.fe.length∧s.tell.it.length=s.it.length∧s.tell.se.length=s.se.length:=⟨aJ _,aJ _,aJ _,aJ _⟩
theorem gc(n m:Nat):decide ((n:Int)<(m:Int))=decide (n<m):=by rw[decide_eq_decide];omega
theorem Gh(hI:s.Inv)(hN:s.Nam)(hck:L0.ck e=true)(k:e.kind=1):s.ok L0 e=((decide (posF (·.id) s.tell.fo e.a<0))&&(decide ((s.tell.fo.length:Int)<64))&&(s.within e.b)&&(decide ((s.tell.deep e.b:Int)<7))&&(!s.tell.nmd e.b e.s)):=by
 have q1:decide ((s.fo.length:Int)<64)=decide (s.fo.length<64):=gc _ _;have q2:decide (((s.dpt e.b):Int)<7)=decide ((s.dpt e.b)<7):=gc _ _;unfold PS.ok PS.fits;rw[hck,M1 k,mq (hI.fndFo e.a),zK hI hN,ya hI,(rU s).1,T6,q1,q2]
theorem Gi(hI:s.Inv)(hN:s.Nam)(hck:L0.ck e=true)(k:e.kind=2):s.ok L0 e=((decide (posF (·.id) s.tell.fo e.a≥0))&&(s.tell.emp e.a)):=by
 have ha:1≤e.a:=by
  unfold Leaf.ck at hck;simp only[L7]at hck;exact(nu hck.1 (by omega)).1
 unfold PS.ok PS.fits;rw[hck,L5 (by omega),M1 k,eu (hI.fndFo e.a),zN hI (by omega),T6]
theorem Gj(hI:s.Inv)(hN:s.Nam)(hck:L0.ck e=true)(k:e.kind=3):s.ok L0 e=((decide (posF (·.id) s.tell.fe e.a<0))&&(decide ((s.tell.fe.length:Int)<64))&&(s.within e.b)&&(s.tell.plc e.s==0)):=by
 have q1:decide ((s.fe.length:Int)<64)=decide (s.fe.length<64):=gc _ _;unfold PS.ok PS.fits;rw[hck,L5 (by omega),L5 (by omega),M1 k,mq (hI.fndFe e.a),zL hI hN,(rU s).2.1,T6,q1]
theorem Gk(hI:s.Inv)(hN:s.Nam)(hck:L0.ck e=true)(k:e.kind=4):s.ok L0 e=((decide (posF (·.id) s.tell.fe e.a≥0))):=by
 unfold PS.ok PS.fits;rw[hck,L5 (by omega),L5 (by omega),L5 (by omega),M1 (.inl k),eu (hI.fndFe e.a),T6]
theorem Gl(hI:s.Inv)(hN:s.Nam)(hck:L0.ck e=true)(k:e.kind=5):s.ok L0 e=((decide (posF (·.id) s.tell.fe e.a≥0))):=by
 unfold PS.ok PS.fits;rw[hck,L5 (by omega),L5 (by omega),L5 (by omega),M1 (.inr k),eu (hI.fndFe e.a),T6]
theorem Gm(hI:s.Inv)(hN:s.Nam)(hck:L0.ck e=true)(k:e.kind=6):s.ok L0 e=((decide (posF (·.id) s.tell.fe e.a≥0))&&(s.within e.b)):=by
 unfold PS.ok PS.fits;rw[hck,L5 (by omega),L5 (by omega),L5 (by omega),L5 (by omega),M1 k,eu (hI.fndFe e.a),T6]
theorem Gn(hI:s.Inv)(hN:s.Nam)(hck:L0.ck e=true)(k:e.kind=7):s.ok L0 e=((decide (posF (·.id) s.tell.it e.a<0))&&(decide ((s.tell.it.length:Int)<1024))&&(decide (posF (·.id) s.tell.fe e.b≥0))&&(s.tell.gid e.b e.s==0)):=by
 have q1:decide ((s.it.length:Int)<1024)=decide (s.it.length<1024):=gc _ _;unfold PS.ok PS.fits;rw[hck,L5 (by omega),L5 (by omega),L5 (by omega),L5 (by omega),L5 (by omega),M1 k,mq (hI.fndIt e.a),eu (hI.fndFe e.b),zM hI hN,(rU s).2.2.1,T6,q1]
theorem Gp(hI:s.Inv)(hN:s.Nam)(hck:L0.ck e=true)(k:e.kind=8):s.ok L0 e=((decide (posF (·.id) s.tell.it e.a≥0))):=by
 unfold PS.ok PS.fits;rw[hck,L5 (by omega),L5 (by omega),L5 (by omega),L5 (by omega),L5 (by omega),L5 (by omega),M1 (.inl k),eu (hI.fndIt e.a),T6]
theorem Gq(hI:s.Inv)(hN:s.Nam)(hck:L0.ck e=true)(k:e.kind=9):s.ok L0 e=((decide (posF (·.id) s.tell.it e.a≥0))):=by
 unfold PS.ok PS.fits;rw[hck,L5 (by omega),L5 (by omega),L5 (by omega),L5 (by omega),L5 (by omega),L5 (by omega),M1 (.inr k),eu (hI.fndIt e.a),T6]
theorem Ca(hI:s.Inv)(hN:s.Nam)(hck:L0.ck e=true)(k:e.kind=11):s.ok L0 e=((decide (posF (·.id) s.tell.se e.a<0))&&(decide ((s.tell.se.length:Int)<32))):=by
 have q1:decide ((s.se.length:Int)<32)=decide (s.se.length<32):=gc _ _;unfold PS.ok PS.fits;rw[hck,L5 (by omega),L5 (by omega),L5 (by omega),L5 (by omega),L5 (by omega),L5 (by omega),L5 (by omega),L5 (by omega),M1 k,mq (hI.fndSe e.a),(rU s).2.2.2,T6,q1]
theorem Cb(hI:s.Inv)(hN:s.Nam)(hck:L0.ck e=true)(k:e.kind=12):s.ok L0 e=((decide (posF (·.id) s.tell.se e.a≥0))):=by
 unfold PS.ok PS.fits;rw[hck,L5 (by omega),L5 (by omega),L5 (by omega),L5 (by omega),L5 (by omega),L5 (by omega),L5 (by omega),L5 (by omega),L5 (by omega),M1 k,eu (hI.fndSe e.a),T6]
theorem Gr(hI:s.Inv)(hN:s.Nam)(hck:L0.ck e=true)(k1:¬e.kind=1)(k2:¬e.kind=2)(k3:¬e.kind=3)(k4:¬e.kind=4)(k5:¬e.kind=5)(k6:¬e.kind=6)(k7:¬e.kind=7)(k8:¬e.kind=8)(k9:¬e.kind=9)(k11:¬e.kind=11)(k12:¬e.kind=12)(k10:¬e.kind=10):s.ok L0 e=decide (e.n≥s.clock):=by
 unfold PS.ok PS.fits;rw[hck,L5 k1,L5 k2,L5 k3,L5 (by omega),L5 k6,L5 k7,L5 (by omega),L5 k10,L5 k11,L5 k12,T6]
end
variable (G:Nat→Option (List AVal))
theorem bb(hc:GClo (CT G)){s:PS}(hI:s.Inv)(hN:s.Nam)(e:Ev)(h:Heap):Sat (CT G) 53 [s.tell.av,e.av] h (fun r h'=>r=.bool (s.ok L0 e)∧h'=h):=by
 have hl1:s.tell.fo.length≤100000:=by have:=hI.up.l1;omega
 have hl2:s.tell.fe.length≤100000:=by have:=hI.up.l2;omega
 have hl3:s.tell.it.length≤100000:=by have:=hI.up.l3;omega
 have hl4:s.tell.se.length≤100000:=by have:=aJ (z:=Se.z) s.se;have:=hI.l4;show(valsM Se.z s.se).length≤_;omega
 have hm1:(s.tell.fo.map Fo.av).length=s.tell.fo.length:=L8 ..;have hm2:(s.tell.fe.map Fe.av).length=s.tell.fe.length:=L8 ..;have hm3:(s.tell.it.map It.av).length=s.tell.it.length:=L8 ..;have hm4:(s.tell.se.map Se.av).length=s.tell.se.length:=L8 ..;have hcl:s.tell.clock=s.clock:=rfl;have hB:=bK G s.tell e.b hl1;have hw:=eu (hI.fndFo e.b);have hC:=rO G hc e;cases hck:L0.ck e with
 |false=>
  rw[hck]at hC;refine sb [.tmp 4] Tryz.func53 ?_;intro Q hQ;(repeat (first|refine w1 (fun K hK=>?_)|refine w2 ?_|refine w3 ?_| ((first|refine w4 ?_|refine wD ?_|refine w5 ?_|refine w6 ?_|refine w7 ?_);try refine sq trivial ?_)| (refine w8 ?_;refine sq trivial ?_;refine w9 ?_)| ((first|refine hK _ _ (w0 ?_)| (clear hK K;refine hK _ _ (w0 ?_))| (clear hK K;clear hK K;refine hK _ _ (w0 ?_)));clear hK K)))
  refine(hC _).mono ?_;rintro r h' ⟨rfl,rfl⟩;try refine sq trivial ?_
  (repeat (first|refine w1 (fun K hK=>?_)|refine w2 ?_|refine w3 ?_| ((first|refine w4 ?_|refine wD ?_|refine w5 ?_|refine w6 ?_|refine w7 ?_);try refine sq trivial ?_)| (refine w8 ?_;refine sq trivial ?_;refine w9 ?_)| ((first|refine hK _ _ (w0 ?_)| (clear hK K;refine hK _ _ (w0 ?_))| (clear hK K;clear hK K;refine hK _ _ (w0 ?_)));clear hK K)))
  refine ee hQ trivial ?_;exact L6 (.bool _) ⟨by simp[PS.ok,PS.fits,hck],rfl⟩
 |true=>
  rw[hck]at hC;refine sb [.tmp 4] Tryz.func53 ?_;intro Q hQ;(repeat (first|refine w1 (fun K hK=>?_)|refine w2 ?_|refine w3 ?_| ((first|refine w4 ?_|refine wD ?_|refine w5 ?_|refine w6 ?_|refine w7 ?_);try refine sq trivial ?_)| (refine w8 ?_;refine sq trivial ?_;refine w9 ?_)))
  refine hK _ _ (M0 ?_);clear hK K;(repeat (first|refine w1 (fun K hK=>?_)|refine w2 ?_|refine w3 ?_| ((first|refine w4 ?_|refine wD ?_|refine w5 ?_|refine w6 ?_|refine w7 ?_);try refine sq trivial ?_)| (refine w8 ?_;refine sq trivial ?_;refine w9 ?_)))
  refine(hC _).mono ?_;rintro r h' ⟨rfl,rfl⟩;try refine sq trivial ?_
  (repeat (first|refine w1 (fun K hK=>?_)|refine w2 ?_|refine w3 ?_| ((first|refine w4 ?_|refine wD ?_|refine w5 ?_|refine w6 ?_|refine w7 ?_);try refine sq trivial ?_)| (refine w8 ?_;refine sq trivial ?_;refine w9 ?_)| ((first|refine hK _ _ (w0 ?_)| (clear hK K;refine hK _ _ (w0 ?_))| (clear hK K;clear hK K;refine hK _ _ (w0 ?_)));clear hK K)))
  generalize hH:h++[.row 40 9 0 [s.tell.av],.row 56 7 0 [e.av]]=H;have key:∀(T:Env) (y:Bool),T 2=.hp h.length 0 0 0→T 3=.hp (h.length+1) 0 0 0→T 5=.bool y→y=s.within e.b→K T H:=by
   subst hH;intro T y e2 e3 e5 hy;by_cases k1:e.kind=1
   ·have hres:s.ok L0 e=((decide (posF (·.id) s.tell.fo e.a<0))&&(decide ((s.tell.fo.length:Int)<64))&&(y)&&(decide ((s.tell.deep e.b:Int)<7))&&(!s.tell.nmd e.b e.s)):=(by subst hy;exact Gh hI hN hck k1);have ht:=JE (decide (posF (·.id) s.tell.fo e.a<0)) (decide ((s.tell.fo.length:Int)<64)) (y) (decide ((s.tell.deep e.b:Int)<7));rcases ht with ht|ht|ht|ht|ht;all_goals (
     have F:=iZ e2 e3 e5 hm1 hm2 hm3 hm4 hcl k1 ht;refine hK _ _ (M0 ?_);clear hK K;refine wk F ?_;repeat (first|refine kq F (bK G s.tell e.a hl1 _) ?_|refine kq F (ua G s.tell e.b hl1 _) ?_|refine kq F (rR G s.tell e.b e.s hl1 _) ?_)
     refine ee hQ F ?_;refine L6 (.bool _) ⟨?_,rfl⟩;rw[hres];simp[ht])
   by_cases k2:e.kind=2
   ·have hres:s.ok L0 e=((decide (posF (·.id) s.tell.fo e.a≥0))&&(s.tell.emp e.a)):=(by subst hy;exact Gi hI hN hck k2);have ht:=nG (decide (posF (·.id) s.tell.fo e.a≥0));rcases ht with ht|ht;all_goals (
     have F:=iZ e2 e3 e5 hm1 hm2 hm3 hm4 hcl k2 ht;refine hK _ _ (M0 ?_);clear hK K;refine wk F ?_;repeat (first|refine kq F (bK G s.tell e.a hl1 _) ?_|refine kq F (rS G s.tell e.a hl1 hl2 _) ?_)
     refine ee hQ F ?_;refine L6 (.bool _) ⟨?_,rfl⟩;rw[hres];simp[ht])
   by_cases k3:e.kind=3
   ·have hres:s.ok L0 e=((decide (posF (·.id) s.tell.fe e.a<0))&&(decide ((s.tell.fe.length:Int)<64))&&(y)&&(s.tell.plc e.s==0)):=(by subst hy;exact Gj hI hN hck k3);have ht:=u5 (decide (posF (·.id) s.tell.fe e.a<0)) (decide ((s.tell.fe.length:Int)<64)) (y);rcases ht with ht|ht|ht|ht;all_goals (
     have F:=iZ e2 e3 e5 hm1 hm2 hm3 hm4 hcl k3 ht;refine hK _ _ (M0 ?_);clear hK K;refine wk F ?_;repeat (first|refine kq F (cT G s.tell e.a hl2 _) ?_|refine kq F (rP G s.tell e.s hl2 _) ?_)
     refine ee hQ F ?_;refine L6 (.bool _) ⟨?_,rfl⟩;rw[hres];simp[ht])
   by_cases k4:e.kind=4
   ·have hres:s.ok L0 e=((decide (posF (·.id) s.tell.fe e.a≥0))):=(by subst hy;exact Gk hI hN hck k4);all_goals (
     have F:=F9 e2 e3 e5 hm1 hm2 hm3 hm4 hcl k4;refine hK _ _ (M0 ?_);clear hK K;refine wk F ?_;repeat (first|refine kq F (cT G s.tell e.a hl2 _) ?_)
     refine ee hQ F ?_;refine L6 (.bool _) ⟨?_,rfl⟩;rw[hres];try rfl)
   by_cases k5:e.kind=5
   ·have hres:s.ok L0 e=((decide (posF (·.id) s.tell.fe e.a≥0))):=(by subst hy;exact Gl hI hN hck k5);all_goals (
     have F:=F9 e2 e3 e5 hm1 hm2 hm3 hm4 hcl k5;refine hK _ _ (M0 ?_);clear hK K;refine wk F ?_;repeat (first|refine kq F (cT G s.tell e.a hl2 _) ?_)
     refine ee hQ F ?_;refine L6 (.bool _) ⟨?_,rfl⟩;rw[hres];try rfl)
   by_cases k6:e.kind=6
   ·have hres:s.ok L0 e=((decide (posF (·.id) s.tell.fe e.a≥0))&&(y)):=(by subst hy;exact Gm hI hN hck k6);have ht:=nG (decide (posF (·.id) s.tell.fe e.a≥0));rcases ht with ht|ht;all_goals (
     have F:=iZ e2 e3 e5 hm1 hm2 hm3 hm4 hcl k6 ht;refine hK _ _ (M0 ?_);clear hK K;refine wk F ?_;repeat (first|refine kq F (cT G s.tell e.a hl2 _) ?_)
     refine ee hQ F ?_;refine L6 (.bool _) ⟨?_,rfl⟩;rw[hres];simp[ht])
   by_cases k7:e.kind=7
   ·have hres:s.ok L0 e=((decide (posF (·.id) s.tell.it e.a<0))&&(decide ((s.tell.it.length:Int)<1024))&&(decide (posF (·.id) s.tell.fe e.b≥0))&&(s.tell.gid e.b e.s==0)):=(by subst hy;exact Gn hI hN hck k7);have ht:=u5 (decide (posF (·.id) s.tell.it e.a<0)) (decide ((s.tell.it.length:Int)<1024)) (decide (posF (·.id) s.tell.fe e.b≥0));rcases ht with ht|ht|ht|ht;all_goals (
     have F:=iZ e2 e3 e5 hm1 hm2 hm3 hm4 hcl k7 ht;refine hK _ _ (M0 ?_);clear hK K;refine wk F ?_;repeat (first|refine kq F (cU G s.tell e.a hl3 _) ?_|refine kq F (cT G s.tell e.b hl2 _) ?_|refine kq F (u6 G s.tell e.b e.s hl3 _) ?_)
     refine ee hQ F ?_;refine L6 (.bool _) ⟨?_,rfl⟩;rw[hres];simp[ht])
   by_cases k8:e.kind=8
   ·have hres:s.ok L0 e=((decide (posF (·.id) s.tell.it e.a≥0))):=(by subst hy;exact Gp hI hN hck k8);all_goals (
     have F:=F9 e2 e3 e5 hm1 hm2 hm3 hm4 hcl k8;refine hK _ _ (M0 ?_);clear hK K;refine wk F ?_;repeat (first|refine kq F (cU G s.tell e.a hl3 _) ?_)
     refine ee hQ F ?_;refine L6 (.bool _) ⟨?_,rfl⟩;rw[hres];try rfl)
   by_cases k9:e.kind=9
   ·have hres:s.ok L0 e=((decide (posF (·.id) s.tell.it e.a≥0))):=(by subst hy;exact Gq hI hN hck k9);all_goals (
     have F:=F9 e2 e3 e5 hm1 hm2 hm3 hm4 hcl k9;refine hK _ _ (M0 ?_);clear hK K;refine wk F ?_;repeat (first|refine kq F (cU G s.tell e.a hl3 _) ?_)
     refine ee hQ F ?_;refine L6 (.bool _) ⟨?_,rfl⟩;rw[hres];try rfl)
   by_cases k11:e.kind=11
   ·have hres:s.ok L0 e=((decide (posF (·.id) s.tell.se e.a<0))&&(decide ((s.tell.se.length:Int)<32))):=(by subst hy;exact Ca hI hN hck k11);have ht:=nG (decide (posF (·.id) s.tell.se e.a<0));rcases ht with ht|ht;all_goals (
     have F:=iZ e2 e3 e5 hm1 hm2 hm3 hm4 hcl k11 ht;refine hK _ _ (M0 ?_);clear hK K;refine wk F ?_;repeat (first|refine kq F (fG G s.tell e.a hl4 _) ?_)
     refine ee hQ F ?_;refine L6 (.bool _) ⟨?_,rfl⟩;rw[hres];simp[ht])
   by_cases k12:e.kind=12
   ·have hres:s.ok L0 e=((decide (posF (·.id) s.tell.se e.a≥0))):=(by subst hy;exact Cb hI hN hck k12);all_goals (
     have F:=F9 e2 e3 e5 hm1 hm2 hm3 hm4 hcl k12;refine hK _ _ (M0 ?_);clear hK K;refine wk F ?_;repeat (first|refine kq F (fG G s.tell e.a hl4 _) ?_)
     refine ee hQ F ?_;refine L6 (.bool _) ⟨?_,rfl⟩;rw[hres];try rfl)
   by_cases k10:e.kind=10
   ·have hIt:=cU G s.tell e.a hl3;have dt:∀i:Decidable True, @decide True i=true:=fun i=>O4 trivial
    have df:∀i:Decidable False, @decide False i=false:=fun i=>O0 id
    cases hit:lkM s.it e.a with
    |none=>
     have hfi:fnd (·.id) s.tell.it e.a=none:=(by rw[hI.fndIt,hit]);rw[dr hfi]at hIt;have dm:decide ((-1:Int)≥0)=false:=rfl;have F:=F7 e2 e3 e5 hm3 k10 dm df;refine hK _ _ (M0 ?_);clear hK K;refine wk F ?_;refine kq F (hIt _) ?_;(try refine wk F ?_);refine ee hQ F ?_;exact L6 (.bool _) ⟨by simp[PS.ok,PS.fits,hck,k10,hit],rfl⟩
    |some t=>
     have hfi:fnd (·.id) s.tell.it e.a=some t:=(by rw[hI.fndIt,hit]);obtain⟨q,p1,p2,p3⟩:=bd hfi;rw[p2]at hIt;have hql:q<s.tell.it.length:=(f9.1 p1).1;have hqg:decide ((q:Int)≥0)=true:=(by simp);have htl:=(hI.tg _ _ hit).2;have htm:(t.tags.map AVal.str).length=t.tags.length:=L8 ..;have hG:=u7 G t.tags e.s (by omega);have hn:=two (e.n==0);rcases hn with hn|hn
     ·have F:=iZ e2 e3 e5 hm3 k10 p1 hql hqg dt hn;refine hK _ _ (M0 ?_);clear hK K;refine wk F ?_;refine kq F (hIt _) ?_;(try refine wk F ?_);refine ee hQ F ?_;refine L6 (.bool _) ⟨?_,rfl⟩;simp at hn;simp[PS.ok,PS.fits,hck,k10,hit,hn]
     ·have hg:=two (decide (e.s∈t.tags));rcases hg with hg|hg
      ·rw[hg]at hG;have F:=F2 (F9 e2 e3 e5 hm3 k10 p1 hql hqg dt) (F2 hn hg);refine hK _ _ (M0 ?_);clear hK K;refine wk F ?_;refine kq F (hIt _) ?_;(try refine wk F ?_);refine au (hG _) ?_;refine sq F ?_;refine wk F ?_;refine ee hQ F ?_;refine L6 (.bool _) ⟨?_,rfl⟩;simp at hg;simp[PS.ok,PS.fits,hck,k10,hit,hg]
      ·rw[hg]at hG;have F:=F2 (F9 e2 e3 e5 hm3 htm k10 p1 hql hqg) (F3 dt hn hg);refine hK _ _ (M0 ?_);clear hK K;refine wk F ?_;refine kq F (hIt _) ?_;(try refine wk F ?_);refine au (hG _) ?_;refine sq F ?_;refine wk F ?_;refine ee hQ F ?_;refine L6 (.bool _) ⟨?_,rfl⟩;simp at hn hg;have q8:decide ((t.tags.length:Int)<8)=decide (t.tags.length<8):=gc _ _;simp[PS.ok,PS.fits,hck,k10,hit,hg,hn];try omega
   have hres:=Gr hI hN hck k1 k2 k3 k4 k5 k6 k7 k8 k9 k11 k12 k10;have n1:(e.kind==1)=false:=(by simp[k1]);have n2:(e.kind==2)=false:=(by simp[k2]);have n3:(e.kind==3)=false:=(by simp[k3]);have n4:(e.kind==4)=false:=(by simp[k4]);have n5:(e.kind==5)=false:=(by simp[k5]);have n6:(e.kind==6)=false:=(by simp[k6]);have n7:(e.kind==7)=false:=(by simp[k7]);have n8:(e.kind==8)=false:=(by simp[k8]);have n9:(e.kind==9)=false:=(by simp[k9]);have n11:(e.kind==11)=false:=(by simp[k11]);have n12:(e.kind==12)=false:=(by simp[k12]);have n10:(e.kind==10)=false:=(by simp[k10]);have F:=F2 (F9 e2 e3 e5 hcl n1 n2 n3 n4 n5) (F7 n6 n7 n8 n9 n11 n12 n10);refine hK _ _ (M0 ?_);clear hK K;refine wk F ?_;refine ee hQ F ?_;exact L6 (.bool _) ⟨by rw[hres],rfl⟩
  subst hH;(first|refine gq trivial (fun g=>?_) (fun g=>?_)|refine pq trivial (fun g=>?_) (fun g=>?_))<;>(try exact g.elim)<;>(try refine sq trivial ?_)<;>((repeat (first|refine w1 (fun K hK=>?_)|refine w2 ?_|refine w3 ?_| ((first|refine w4 ?_|refine wD ?_|refine w5 ?_|refine w6 ?_|refine w7 ?_);try refine sq trivial ?_)| (refine w8 ?_;refine sq trivial ?_;refine w9 ?_)| ((first|refine hK _ _ (w0 ?_)| (clear hK K;refine hK _ _ (w0 ?_))| (clear hK K;clear hK K;refine hK _ _ (w0 ?_)));clear hK K))))
  ·exact key _ true (by exact zq trivial) (by exact zq trivial) (by exact zq trivial) (by simp[PS.within,g])
  ·refine(hB _).mono ?_;rintro r h' ⟨rfl,rfl⟩;(try refine sq trivial ?_);(repeat (first|refine w1 (fun K hK=>?_)|refine w2 ?_|refine w3 ?_| ((first|refine w4 ?_|refine wD ?_|refine w5 ?_|refine w6 ?_|refine w7 ?_);try refine sq trivial ?_)| (refine w8 ?_;refine sq trivial ?_;refine w9 ?_)| ((first|refine hK _ _ (w0 ?_)| (clear hK K;refine hK _ _ (w0 ?_))| (clear hK K;clear hK K;refine hK _ _ (w0 ?_)));clear hK K)))
   exact key _ (decide (posF (·.id) s.tell.fo e.b≥0)) (by exact zq trivial) (by exact zq trivial) (by exact zq trivial) (by rw[hw];simp[PS.within,g])
end
section
attribute [local irreducible] WP WPl WPix Sat
def IsL(H:Heap)(n0 e n:Nat)(rows:List AVal)(v:AVal):Prop:=
 (rows=[]∧v=.ez)∨∃p w,v=.hs p w 0 rows.length true∧getRow H p w=some (e,n,rows)∧n0≤p
section
variable {H H':Heap} {n0 e n:Nat} {rows:List AVal} {v:AVal}
theorem IsL.ez(H:Heap)(n0 e n:Nat):IsL H n0 e n [] .ez:=.inl ⟨rfl,rfl⟩
theorem IsL.cel(h:IsL H n0 e n rows v):v.cells=[v]:=by
 rcases h with⟨_,rfl⟩| ⟨p,w,rfl,_⟩<;>rfl
theorem IsL.lie(h:IsL H n0 e n rows v):v.lies=true:=by
 rcases h with⟨_,rfl⟩| ⟨p,w,rfl,_⟩<;>rfl
theorem IsL.elems(h:IsL H n0 e n rows v):elemsOf H n v=some rows:=by
 rcases h with⟨rfl,rfl⟩| ⟨p,w,rfl,h1,_⟩
 ·rfl
 ·exact ja h1 rfl
theorem IsL.keep(h:IsL H n0 e n rows v)(hk:∀p w,n0≤p→∀x,getRow H p w=some x→getRow H' p w=some x):IsL H' n0 e n rows v:=by
 rcases h with h| ⟨p,w,h1,h2,h3⟩
 ·exact .inl h
 ·exact .inr ⟨p,w,h1,hk p w h3 _ h2,h3⟩
theorem IsL.set(h:IsL H n0 e n rows v){q:Nat}(b:Blk)(hq:q<n0):IsL (H.set q b) n0 e n rows v:=h.keep fun p w hp x hx=>by rw[bh _ _ (by omega)];exact hx
theorem IsL.old(h:IsL H n0 e n rows v)(hf:FrN H.length H H'):IsL H' n0 e n rows v:=h.keep fun p w hp x hx=>by
 have:=aT hx;unfold getRow at hx ⊢;rw[hf p this];exact hx
theorem IsL.frz(h:IsL H n0 e n rows v){N:Nat}(hN:N≤n0)(hc:∀r∈rows,Clo N r)(hs:∀r∈rows,∀c∈r.cells,c.sto=true):Frz H N v (.sl n rows):=by
 rcases h with⟨rfl,rfl⟩| ⟨p,w,rfl,h1,h2⟩
 ·exact .ezs _
 ·exact za1 (by omega) h1 rfl hc hs
theorem FrN.row{p w:Nat}(h:FrN n0 H H')(hp:p<n0):getRow H' p w=getRow H p w:=by unfold getRow;rw[h p hp]
end
theorem FrN.r3{h h1:Heap}{e1 m1 e2 m2 e3 m3:Nat}{a b c:List AVal}(f:FrN (h.length+3) (h++[.row e1 m1 0 a,.row e2 m2 0 b,.row e3 m3 0 c]) h1):
  getRow h1 h.length 0=some (e1,m1,a)∧getRow h1 (h.length+1) 0=some (e2,m2,b)∧getRow h1 (h.length+2) 0=some (e3,m3,c):=by
 refine⟨?_,?_,?_⟩
 ·rw[f.row (by omega),aH _ rfl];rfl
 ·rw[f.row (by omega),aV _ rfl];rfl
 ·rw[f.row (by omega),aV _ rfl];rfl
section
variable {C:Ctx}
@[go_sem] theorem Cc{T:TypeId}{k:AVal→Prop}:rowsV C T 0 [] [] k=need (elmT C.P T) fun e=>need (szOf C.P e) fun _=>k .ez:=by simp[rowsV]
@[go_sem] theorem J4{ops:Array Oper}{x y:Operand}{T T':TypeId}{ty:TypeId}{pos:String}{aft:Array Edge}{dst:Option Tmp}{t:Env}{h:Heap}{K:AVal→Heap→Prop}:
  wpOperV C ops ⟨dst,.call ⟨.builtin .append, #[x,y], #[T,T']⟩,ty,pos,aft,none⟩ t h K=appK C T T' (aev C.G t x) (aev C.G t y) h K:=(rfl)
theorem wL{T T' e n by' n0:Nat}{v y:AVal}{rows ys:List AVal}{h:Heap}{k:AVal→Heap→Prop}(hL:IsL h n0 e n rows v)(hn0:n0≤h.length)(hT:T'=T∨strT C.P T'=true)(he:elmT C.P T=some e)(hn:szOf C.P e=some n)(hb:byT C.P e=some by')
  (hz:(zroT C.P e).map (fun z=>z.cells.length)=some n)(h0:0<n)(hy:elemsOf h n y=some ys)(hr:rows.length+ys.length≤maxLen∧(rows.length+ys.length)*by'≤140737488355328)
  (hk:∀v' h',IsL h' n0 e n (rows++ys) v'→FrN n0 h h'→h.length≤h'.length→k v' h'):appK C T T' v y h k:=by
 rcases hL with⟨rfl,rfl⟩| ⟨p,w,rfl,h1,h2⟩
 ·simp only[O7,Q9]at hr;refine fL hT he hn hb hz h0 hy hr (fun e0=>?_) (fun e0=>?_)
  ·subst e0;exact hk _ _ (.ez ..) (X4 _ _) (M2 _)
  ·refine hk _ _ (.inr ⟨h.length,0,rfl,by rw[aH _ rfl];rfl,hn0⟩) (Y0 _ hn0 (X4 _ _)) (by simp)
 ·refine bB hT he hn hb hz h0 hy h1 rfl hr ?_;have hl:=aT h1;have:=hk (.hs p (w+1) 0 (rows.length+ys.length) true) (h.set p (.row e n (w+1) (rows++ys))) (.inr ⟨p,w+1,by rw[M5],by rw[bQ _ _ _ _ _ hl,M1 rfl],h2⟩) (Z0 _ h2 (X4 _ _)) (by simp);exact this
theorem aL{T e n by' n0:Nat}{v y:AVal}{rows ys:List AVal}{h:Heap}{k:AVal→Heap→Prop}(hL:IsL h n0 e n rows v)(hn0:n0≤h.length)
  (hk:∀v' h',IsL h' n0 e n (rows++ys) v'→FrN n0 h h'→h.length≤h'.length→k v' h')(he:elmT C.P T=some e:=by simp only[go_sem];try rfl)(hn:szOf C.P e=some n:=by simp only[go_sem];try rfl)(hb:byT C.P e=some by':=by simp only[go_sem];try rfl)
  (hz:(zroT C.P e).map (fun z=>z.cells.length)=some n:=by simp only[go_sem];try rfl)(h0:0<n:=by omega)(hy:elemsOf h n y=some ys:=by simp only[elemsOf, ↓reduceIte];rfl)(hr:rows.length+ys.length≤maxLen∧(rows.length+ys.length)*by'≤140737488355328:=by refine⟨?_,?_⟩<;>simp[maxLen]<;>omega):appK C T T v y h k:=
 wL hL hn0 (.inl rfl) he hn hb hz h0 hy hr hk
end
theorem bT{P:Program}{h:Heap}{T e n i:Nat}{es:List AVal}{k:IntKind}(he:elmT P T=some e)(hn:szOf P e=some n)(hi:i≤es.length):aslice P h T (.sl n es) none (some (.int k (i:Int))) none=some (.sl n (es.take i)):=by
 simp only[aslice,he,hn,optInt,Option.isNone_none,if_true];rw[M1 ⟨Int.le_refl _,by omega,by omega⟩];simp
theorem bU{P:Program}{h:Heap}{T e n i:Nat}{es:List AVal}{k:IntKind}(he:elmT P T=some e)(hn:szOf P e=some n)(hi:i≤es.length):aslice P h T (.sl n es) (some (.int k (i:Int))) none none=some (.sl n (es.drop i)):=by
 simp only[aslice,he,hn,optInt,Option.isNone_none,if_true];rw[M1 ⟨by omega,by omega,by omega⟩];simp
theorem ud{h h2:Heap}{bs:List Blk}{R:AVal→Heap→Prop}{r0 r:AVal}{b1 b2:Blk}(hb:bs.length=3)(f:FrN (h.length+3) (h++bs) h2)(g:h.length+3≤h2.length)
  (hz:Frz ((h2.set h.length b1).set (h.length+2) b2) h.length r0 r)(hR:R r h):Fin h ((h2.set h.length b1).set (h.length+2) b2) R r0:=by
 have fr:FrN h.length h ((h2.set h.length b1).set (h.length+2) b2):=Z0 _ (by omega) (Z0 _ (by omega) (Z9 (Y0 bs (M2 _) (X4 _ _)) (f.less (by omega))));obtain⟨j,hj⟩:=fr.behind (by simp;omega);rw[hj]at hz ⊢;exact Fin.frz hz hR
end
section
attribute [local irreducible] WP WPl WPix Sat
variable (G:Nat→Option (List AVal))
theorem Fo.sto(f:Fo):∀c∈f.av.cells,c.sto=true:=by
 intro c hc;simp only[Fo.av,AVal.cells,N2,X0,or_false]at hc;rcases hc with rfl|rfl|rfl<;>rfl
theorem Fe.sto(f:Fe):∀c∈f.av.cells,c.sto=true:=by
 intro c hc;simp only[Fe.av,AVal.cells,N2,X0,or_false]at hc;rcases hc with rfl|rfl|rfl|rfl<;>rfl
theorem It.sto(f:It):∀c∈f.av.cells,c.sto=true:=by
 intro c hc;simp only[It.av,AVal.cells,N2,X0,or_false]at hc;rcases hc with rfl|rfl|rfl|rfl|rfl|rfl|rfl|rfl|rfl<;>rfl
theorem Se.sto(f:Se):∀c∈f.av.cells,c.sto=true:=by
 intro c hc;simp only[Se.av,AVal.cells,N2,X0,or_false]at hc;rcases hc with rfl|rfl|rfl<;>rfl
theorem c9{α:Type}{av:α→AVal}{N:Nat}(hc:∀a,Clo N (av a))(l:List α):∀r∈l.map av,Clo N r:=fun r hr=>by obtain⟨a,_,rfl⟩:=N0.1 hr;exact hc a
theorem eK{α:Type}{av:α→AVal}(hs:∀a,∀c∈ (av a).cells,c.sto=true)(l:List α):∀r∈l.map av,∀c∈r.cells,c.sto=true:=fun r hr=>by obtain⟨a,_,rfl⟩:=N0.1 hr;exact hs a
theorem IsL.fin{α:Type}{av:α→AVal}{H:Heap}{n0 e n N p q:Nat}{rows:List AVal}{v:AVal}(h:IsL H n0 e n rows v){l:List α}(hr:rows=l.map av)(hN:N≤n0)(hp:p<n0)(hq:q<n0)(hc:∀N a,Clo N (av a))(hs:∀a,∀c∈ (av a).cells,c.sto=true){b1 b2:Blk}:
  Frz ((H.set p b1).set q b2) N v (.sl n (l.map av)):=by
 subst hr;exact((h.set b1 hp).set b2 hq).frz hN (c9 (hc N) l) (eK hs l)
theorem cI{h h2:Heap}{R:AVal→Heap→Prop}{r0 r:AVal}{p q:Nat}{b1 b2:Blk}(f:FrN h.length h h2)(g:h.length≤h2.length)(hp:h.length≤p∧h.length≤q)
  (hz:Frz ((h2.set p b1).set q b2) h.length r0 r)(hR:R r h):Fin h ((h2.set p b1).set q b2) R r0:=by
 have fr:FrN h.length h ((h2.set p b1).set q b2):=Z0 _ hp.2 (Z0 _ hp.1 f);obtain⟨j,hj⟩:=fr.behind (by simp;omega);rw[hj]at hz ⊢;exact Fin.frz hz hR
theorem bD{H:Heap}{N:Nat}{x:St}{v1 v2 v3 v4:AVal}(h1:Frz H N v1 (.sl 3 (x.fo.map Fo.av)))(h2:Frz H N v2 (.sl 4 (x.fe.map Fe.av)))(h3:Frz H N v3 (.sl 9 (x.it.map It.av)))(h4:Frz H N v4 (.sl 3 (x.se.map Se.av))):
  Frz H N (.agg [.int .i64 x.clock,v1,v2,v3,v4,.int .i64 x.t1,.int .i64 x.t2,.int .i64 x.t3,.int .i64 x.t4]) x.av:=
 FrzL.agg (.cons (.clo _ (.int _ _)) (.cons h1 (.cons h2 (.cons h3 (.cons h4 (.cons (.clo _ (.int _ _)) (.cons (.clo _ (.int _ _)) (.cons (.clo _ (.int _ _)) (.cons (.clo _ (.int _ _)) .nil))))))))) rfl
theorem rV(x:St)(e:Ev)(k1:e.kind=2)(i:Nat)(hp:posF (·.id) x.fo e.a=(i:Int))(hi:i<x.fo.length)(hl:x.fo.length≤100000)(h:Heap):
  Sat (CT G) 55 [x.av,e.av] h (fun r h'=>r=({x with fo:=x.fo.take i++x.fo.drop (i+1)}:St).av∧h'=h):=by
 have hF:=bK G x e.a hl;rw[hp]at hF;have hel:(x.fo.map Fo.av).length=x.fo.length:=L8 ..;have hsA:∀H,aslice Tryz.prog H 35 (.sl 3 (x.fo.map Fo.av)) none (some (.int .i64 (i:Int))) none=some (.sl 3 ((x.fo.map Fo.av).take i)):=fun H=>bT (by simp only[go_sem];try rfl) (by simp only[go_sem];try rfl) (by omega)
 have hsB:∀H,aslice Tryz.prog H 35 (.sl 3 (x.fo.map Fo.av)) (some (.int .i64 ((i+1:Nat):Int))) none none=some (.sl 3 ((x.fo.map Fo.av).drop (i+1))):=fun H=>bU (i:=i+1) (by simp only[go_sem];try rfl) (by simp only[go_sem];try rfl) (by omega)
 have F:=F3 k1 @hsA @hsB
 skip
 refine sb [.cell 4 40] Tryz.func55 ?_;intro Q hQ;refine wn F ?_;refine kn F (hF _) ?_;refine aA 11 [5] [true,true,true,true,true,false,true,true,true,true,true] (.one 5 [false,false,false,false,false,false,true,true,false,true,true] .fin) (by decide+kernel) (by kernel_rfl) (by decide+kernel) ?_;simp only[aD,aE,aC];try refine sq F ?_
 repeat' ((first|refine ae ?_|refine af ?_|refine ah ?_ ?_)<;>try refine sq F ?_)
 all_goals try refine wn F ?_
 refine aL (n0:=h.length+3) (.ez _ _ _ _) (by simp) ?_;intro v1 h1 L1 f1 g1;obtain⟨r1,r2,r3⟩:=f1.r3;simp only[M5,M8,O7]at g1;have F:=F4 F r1 r2 r3;try refine sq F ?_
 repeat' ((first|refine ae ?_|refine af ?_|refine ah ?_ ?_)<;>try refine sq F ?_)
 all_goals try refine wn F ?_
 refine aL L1 (by omega) ?_;intro v2 h2 L2 f2 g2;obtain⟨r1,r2,r3⟩:=(f1.trans f2).r3;have lc:=L2.cel;have ll:=L2.lie;have hz:h.length+2<h2.length:=by omega
 have hn1:h.length<h2.length:=by omega
 have F:=F7 F r1 r2 r3 lc ll @ax;try refine sq F ?_
 repeat' ((first|refine ae ?_|refine af ?_|refine ah ?_ ?_)<;>try refine sq F ?_)
 all_goals try refine wn F ?_
 refine ye hQ F ?_;refine ud (bs:=[_,_,_]) rfl (f1.trans f2) (by omega) ?_ ⟨rfl,rfl⟩;refine bD (x:= {x with fo:=x.fo.take i++x.fo.drop (i+1)}) ?_ (aB (zd5 _) _) (aB (zd2 _) _) (aB (zd4 _) _);exact L2.fin (by simp) (by omega) (by omega) (by omega) zd3 Fo.sto
theorem oR(x:St)(e:Ev)(k1:e.kind=12)(i:Nat)(hp:posF (·.id) x.se e.a=(i:Int))(hi:i<x.se.length)(hl:x.se.length≤100000)(h:Heap):
  Sat (CT G) 55 [x.av,e.av] h (fun r h'=>r=({x with se:=x.se.take i++x.se.drop (i+1)}:St).av∧h'=h):=by
 have hF:=fG G x e.a hl;rw[hp]at hF;have hel:(x.se.map Se.av).length=x.se.length:=L8 ..;have hsA:∀H,aslice Tryz.prog H 38 (.sl 3 (x.se.map Se.av)) none (some (.int .i64 (i:Int))) none=some (.sl 3 ((x.se.map Se.av).take i)):=fun H=>bT (by simp only[go_sem];try rfl) (by simp only[go_sem];try rfl) (by omega)
 have hsB:∀H,aslice Tryz.prog H 38 (.sl 3 (x.se.map Se.av)) (some (.int .i64 ((i+1:Nat):Int))) none none=some (.sl 3 ((x.se.map Se.av).drop (i+1))):=fun H=>bU (i:=i+1) (by simp only[go_sem];try rfl) (by simp only[go_sem];try rfl) (by omega)
 have F:=F3 k1 @hsA @hsB
 skip
 refine sb [.cell 4 40] Tryz.func55 ?_;intro Q hQ;refine wn F ?_;refine kn F (hF _) ?_;refine aA 11 [5] [true,true,true,true,true,false,true,true,true,true,true] (.one 5 [false,false,false,false,false,false,true,true,false,true,true] .fin) (by decide+kernel) (by kernel_rfl) (by decide+kernel) ?_;simp only[aD,aE,aC];try refine sq F ?_
 repeat' ((first|refine ae ?_|refine af ?_|refine ah ?_ ?_)<;>try refine sq F ?_)
 all_goals try refine wn F ?_
 refine aL (n0:=h.length+3) (.ez _ _ _ _) (by simp) ?_;intro v1 h1 L1 f1 g1;obtain⟨r1,r2,r3⟩:=f1.r3;simp only[M5,M8,O7]at g1;have F:=F4 F r1 r2 r3;try refine sq F ?_
 repeat' ((first|refine ae ?_|refine af ?_|refine ah ?_ ?_)<;>try refine sq F ?_)
 all_goals try refine wn F ?_
 refine aL L1 (by omega) ?_;intro v2 h2 L2 f2 g2;obtain⟨r1,r2,r3⟩:=(f1.trans f2).r3;have lc:=L2.cel;have ll:=L2.lie;have hz:h.length+2<h2.length:=by omega
 have hn1:h.length<h2.length:=by omega
 have F:=F7 F r1 r2 r3 lc ll @ax;try refine sq F ?_
 repeat' ((first|refine ae ?_|refine af ?_|refine ah ?_ ?_)<;>try refine sq F ?_)
 all_goals try refine wn F ?_
 refine ye hQ F ?_;refine ud (bs:=[_,_,_]) rfl (f1.trans f2) (by omega) ?_ ⟨rfl,rfl⟩;refine bD (x:= {x with se:=x.se.take i++x.se.drop (i+1)}) (aB (zd3 _) _) (aB (zd5 _) _) (aB (zd2 _) _) ?_;exact L2.fin (by simp) (by omega) (by omega) (by omega) zd4 Se.sto
theorem rX(x:St)(e:Ev)(k1:e.kind=4)(i:Nat)(hp:posF (·.id) x.fe e.a=(i:Int))(hi:i<x.fe.length)(hl:x.fe.length≤100000)(hl3:x.it.length≤100000)(h:Heap):
  Sat (CT G) 55 [x.av,e.av] h (fun r h'=>r=({x with fe:=x.fe.take i++x.fe.drop (i+1),it:=x.it.filter fun t=>decide (t.feed≠e.a)}:St).av∧h'=h):=by
 have hF:=cT G x e.a hl;rw[hp]at hF;have hel:(x.fe.map Fe.av).length=x.fe.length:=L8 ..;have hsA:∀H,aslice Tryz.prog H 36 (.sl 4 (x.fe.map Fe.av)) none (some (.int .i64 (i:Int))) none=some (.sl 4 ((x.fe.map Fe.av).take i)):=fun H=>bT (by simp only[go_sem];try rfl) (by simp only[go_sem];try rfl) (by omega)
 have hsB:∀H,aslice Tryz.prog H 36 (.sl 4 (x.fe.map Fe.av)) (some (.int .i64 ((i+1:Nat):Int))) none none=some (.sl 4 ((x.fe.map Fe.av).drop (i+1))):=fun H=>bU (i:=i+1) (by simp only[go_sem];try rfl) (by simp only[go_sem];try rfl) (by omega)
 have F:=F3 k1 @hsA @hsB
 skip
 refine sb [.cell 4 40] Tryz.func55 ?_;intro Q hQ;refine wn F ?_;refine kn F (hF _) ?_;refine aA 11 [5] [true,true,true,true,true,false,true,true,true,true,true] (.one 5 [false,false,false,false,false,false,true,true,false,true,true] .fin) (by decide+kernel) (by kernel_rfl) (by decide+kernel) ?_;simp only[aD,aE,aC];try refine sq F ?_
 repeat' ((first|refine ae ?_|refine af ?_|refine ah ?_ ?_)<;>try refine sq F ?_)
 all_goals try refine wn F ?_
 refine aL (n0:=h.length+3) (.ez _ _ _ _) (by simp) ?_;intro v1 h1 L1 f1 g1;obtain⟨r1,r2,r3⟩:=f1.r3;simp only[M5,M8,O7]at g1;have F:=F4 F r1 r2 r3;try refine sq F ?_
 repeat' ((first|refine ae ?_|refine af ?_|refine ah ?_ ?_)<;>try refine sq F ?_)
 all_goals try refine wn F ?_
 refine aL L1 (by omega) ?_;intro v2 h2 L2 f2 g2;obtain⟨r1,r2,r3⟩:=(f1.trans f2).r3;have lc:=L2.cel;have ll:=L2.lie;have hz:h.length+2<h2.length:=by omega
 have hn1:h.length<h2.length:=by omega
 have F:=F7 F r1 r2 r3 lc ll @ax;try refine sq F ?_
 repeat' ((first|refine ae ?_|refine af ?_|refine ah ?_ ?_)<;>try refine sq F ?_)
 all_goals try refine wn F ?_
 have r2':=r2;have r3':=r3;have g3:h.length+3≤h2.length:=by omega
 have L3:=L2.set (.row 40 9 0 [.agg [.int .i64 x.clock,.sl 3 (x.fo.map Fo.av),v2,.sl 9 (x.it.map It.av),.sl 3 (x.se.map Se.av),.int .i64 x.t1,.int .i64 x.t2,.int .i64 x.t3,.int .i64 x.t4]]) (q:=h.length) (by omega);have f3:FrN (h.length+3) (h++[_,_,_]) h2:=f1.trans f2;have r1b:getRow (h2.set h.length (.row 40 9 0 [.agg [.int .i64 x.clock,.sl 3 (x.fo.map Fo.av),v2,.sl 9 (x.it.map It.av),.sl 3 (x.se.map Se.av),.int .i64 x.t1,.int .i64 x.t2,.int .i64 x.t3,.int .i64 x.t4]])) h.length 0=some (40,9,[.agg [.int .i64 x.clock,.sl 3 (x.fo.map Fo.av),v2,.sl 9 (x.it.map It.av),.sl 3 (x.se.map Se.av),.int .i64 x.t1,.int .i64 x.t2,.int .i64 x.t3,.int .i64 x.t4]]):=by rw[bQ _ _ _ _ _ hn1,M1 rfl]
 have r2b:getRow (h2.set h.length (.row 40 9 0 [.agg [.int .i64 x.clock,.sl 3 (x.fo.map Fo.av),v2,.sl 9 (x.it.map It.av),.sl 3 (x.se.map Se.av),.int .i64 x.t1,.int .i64 x.t2,.int .i64 x.t3,.int .i64 x.t4]])) (h.length+1) 0=_:=(bh _ _ (by omega)).trans r2;have r3b:getRow (h2.set h.length (.row 40 9 0 [.agg [.int .i64 x.clock,.sl 3 (x.fo.map Fo.av),v2,.sl 9 (x.it.map It.av),.sl 3 (x.se.map Se.av),.int .i64 x.t1,.int .i64 x.t2,.int .i64 x.t3,.int .i64 x.t4]])) (h.length+2) 0=_:=(bh _ _ (by omega)).trans r3;have frb:FrN h.length h (h2.set h.length (.row 40 9 0 [.agg [.int .i64 x.clock,.sl 3 (x.fo.map Fo.av),v2,.sl 9 (x.it.map It.av),.sl 3 (x.se.map Se.av),.int .i64 x.t1,.int .i64 x.t2,.int .i64 x.t3,.int .i64 x.t4]])):=Z0 _ (M2 _) (Z9 (Y0 _ (M2 _) (X4 _ _)) (f3.less (by omega)));have hlb:(h2.set h.length (.row 40 9 0 [.agg [.int .i64 x.clock,.sl 3 (x.fo.map Fo.av),v2,.sl 9 (x.it.map It.av),.sl 3 (x.se.map Se.av),.int .i64 x.t1,.int .i64 x.t2,.int .i64 x.t3,.int .i64 x.t4]])).length=h2.length:=by simp
 have him:(x.it.map It.av).length=x.it.length:=L8 ..;generalize h2.set h.length (.row 40 9 0 [.agg [.int .i64 x.clock,.sl 3 (x.fo.map Fo.av),v2,.sl 9 (x.it.map It.av),.sl 3 (x.se.map Se.av),.int .i64 x.t1,.int .i64 x.t2,.int .i64 x.t3,.int .i64 x.t4]])=hb at*;refine lm (fun nL tL hL=>∃(k p w:Nat) (hh:Heap) (acc:List It),x.it.length-k=nL∧hh=hL∧tL 2=.hp h.length 0 0 0∧tL 3=.hp (h.length+1) 0 0 0∧tL 4=.hp (h.length+2) 0 0 0∧tL 7=.hs p w 0 acc.length true∧tL 8=.int .i64 k∧k≤x.it.length∧acc.length≤k∧acc++(x.it.drop k).filter (fun t=>decide (t.feed≠e.a))=x.it.filter (fun t=>decide (t.feed≠e.a))∧FrN hb.length hb hh∧getRow hh p w=some (69,9,acc.map It.av)∧hb.length≤p) ((fun(k p w:Nat) (hh:Heap) (acc:List It)=>(x.it.length-k:Nat)) (0) (hb.length) (0) (hb++[.row 69 9 0 []]) ([])) ?_ ?_
 ·refine⟨_,_,Z2 7 69 9 (by simp) (by omega) (by exact zq F),⟨0,hb.length,0,hb++[.row 69 9 0 []],[],rfl,aw,?_,?_,?_,?_,?_,by omega,by simp,by simp,Y0 _ (M2 _) (X4 _ _),by rw[aH _ rfl];rfl,M2 _⟩⟩;all_goals try exact zZz F
 rintro _ s2 h' ⟨k,p,w,hh,acc,rfl,rfl,e2,e3,e4,e7,e8,hk,hal,hac,hfr,hg,hpb⟩ K2 hK2;simp only[ai,ak,Nat.reduceEqDiff, ↓reduceIte]at e2 e3 e4 e7 e8;have F:=F6 F e2 e3 e4 e7 e8;have q1:=(hfr.row (p:=h.length) (w:=0) (by omega)).trans r1b;have q2:=(hfr.row (p:=h.length+1) (w:=0) (by omega)).trans r2b;have q3:=(hfr.row (p:=h.length+2) (w:=0) (by omega)).trans r3b;have hgl:=aT hg;have hgm:(acc.map It.av).length=acc.length:=L8 ..;have hh1:h.length<hh.length:=by omega
 have hh2:h.length+2<hh.length:=by omega
 have F:=F7 F q1 q2 q3 hg him hgm;try refine sq F ?_
 refine wn F ?_;refine cq F (fun c1=>?_) (fun c1=>?_)<;>(try exact c1.elim)<;>(refine wn F ?_)
 ·have c2:k<x.it.length:=by omega
  obtain⟨y,hy,_⟩:=ac c2;rw[aF hy,S8]at hac;have F:=F3 F c2 hy;refine dw (by decide+kernel) (lg G) ?_;refine sq F ?_;refine wn F ?_;refine cq F (fun c3=>?_) (fun c3=>?_)<;>(try exact c3.elim)<;>(refine wn F ?_)
  ·rw[M1 (by simpa using c3)]at hac;refine aq F ?_;(try refine sq F ?_);refine wn F ?_;refine hK2 _ _ _ (M0 ⟨k+1,p,w+1,hh.set p (.row 69 9 (w+1) ((acc++[y]).map It.av)),acc++[y],rfl,by simp[It.av],?_,?_,?_,?_,?_,by omega,by simp;omega,by rw[← hac];simp,Z0 _ hpb hfr,by rw[bQ _ _ _ _ _ hgl,M1 rfl],hpb⟩) (by omega);all_goals try exact zZz F
  ·rw[L5 (by simpa using c3)]at hac;refine hK2 _ _ _ (M0 ⟨k+1,p,w,hh,acc,rfl,rfl,?_,?_,?_,?_,?_,by omega,by omega,hac,hfr,hg,hpb⟩) (by omega);all_goals try exact zZz F
 ·rw[aG (by omega),List.filter_nil,O2]at hac;have L4:=L3.old hfr;have lc:=L4.cel;have ll:=L4.lie;have hfin:IsL hh (h.length+3) 69 9 (acc.map It.av) (.hs p w 0 acc.length true):=.inr ⟨p,w,by rw[hgm],hg,by omega⟩;have F:=F2 (F9 k1 @hsA @hsB r1 r2 r3 e2 e3 e4) (F2 (F9 e7 e8 q1 q2 q3 hg him hgm lc) (F2 ll @ax));try refine sq F ?_
  refine wn F ?_;refine ye hQ F ?_;rw[← hac];refine cI (frb.trans (hfr.less (by omega))) (by omega) (by omega) ?_ ⟨rfl,rfl⟩;refine bD (x:= {x with fe:=x.fe.take i++x.fe.drop (i+1),it:=acc}) (aB (zd3 _) _) ?_ ?_ (aB (zd4 _) _)
  ·exact L4.fin (by simp) (by omega) (by omega) (by omega) zd5 Fe.sto
  ·exact hfin.fin rfl (by omega) (by omega) (by omega) zd2 It.sto
end
section
attribute [local irreducible] WP WPl WPix Sat
def insI{α:Type}(key:α→Int)(l:List α)(id:Int):Nat:=(l.takeWhile fun a=>decide (key a<id)).length
theorem cJ{α:Type}{key:α→Int}{id:Int}:∀{l:List α} {k:Nat},(∀b∈l.take k,key b<id)→k≤l.length→(∀b,l[k]? =some b→¬key b<id)→insI key l id=k
 | [],k,_,h,_=>by simp at h;subst h;rfl
 |a::l,0,_,_,h2=>by
  have:=h2 a rfl;unfold insI;rw[zc4,O0 this];rfl
 |a::l,k+1,h1,h,h2=>by
  have ha:=h1 a (by simp);have ih:=cJ (key:=key) (id:=id) (l:=l) (k:=k) (fun b hb=>h1 b (by simp[hb])) (by simpa using h) (fun b hb=>h2 b (by simpa using hb));unfold insI at ih ⊢;rw[zc4,O4 ha];simp[ih]
theorem FrzRs.app{H:Heap}{N:Nat}{a b c d:List AVal}(z:FrzRs H N a b)(w:FrzRs H N c d):FrzRs H N (a++c) (b++d):=by
 induction z with
 |nil=>exact w
 |cons r _ ih=>exact .cons r ih
theorem FrzRs.map{α:Type}{av:α→AVal}{H:Heap}{N:Nat}(hc:∀N a,Clo N (av a))(hs:∀a,∀c∈ (av a).cells,c.sto=true)(l:List α):FrzRs H N (l.map av) (l.map av):=by
 induction l with
 |nil=>exact .nil
 |cons a l ih=>exact .cons (FrzR.clo (hc N a) (hs a)) ih
theorem IsL.fin2{H:Heap}{n0 e n N p q:Nat}{rows es:List AVal}{v:AVal}(h:IsL H n0 e n rows v)(hN:N≤n0)(hp:p<n0)(hq:q<n0){b1 b2:Blk}(hz:FrzRs ((H.set p b1).set q b2) N rows es):Frz ((H.set p b1).set q b2) N v (.sl n es):=by
 rcases(h.set b1 hp).set b2 hq with⟨rfl,rfl⟩| ⟨q,w,rfl,h1,h2⟩
 ·cases hz;exact .ezs _
 ·exact hz.hs h1 rfl (by omega)
variable (G:Nat→Option (List AVal))
theorem rY(x:St)(e:Ev)(k1:e.kind=1)(hl:x.fo.length≤100000)(h:Heap):
  Sat (CT G) 54 [x.av,e.av] h (fun r h'=>r=({x with fo:=x.fo.take (insI (·.id) x.fo e.a)++(⟨e.a,e.b,e.s⟩:Fo)::x.fo.drop (insI (·.id) x.fo e.a),t1:=topI x.t1 e.a}:St).av∧h'=h):=by
 have hel:(x.fo.map Fo.av).length=x.fo.length:=L8 ..;have dt:∀i:Decidable True, @decide True i=true:=fun i=>O4 trivial
 have F:=F2 k1 hel;refine sb [.cell 4 40] Tryz.func54 ?_;intro Q hQ;refine wk F ?_;refine lm (fun nL tL hL=>∃(k:Nat),x.fo.length-k=nL∧h++[.row 40 9 0 [x.av],.row 56 7 0 [e.av],.row 40 9 0 [.agg [.int .i64 0,.nil (.slice none 0 0),.nil (.slice none 0 0),.nil (.slice none 0 0),.nil (.slice none 0 0),.int .i64 0,.int .i64 0,.int .i64 0,.int .i64 0]]]=hL∧tL 2=.hp h.length 0 0 0∧tL 3=.hp (h.length+1) 0 0 0∧tL 4=.hp (h.length+2) 0 0 0∧tL 5=.int .i64 k∧k≤x.fo.length∧(∀b∈x.fo.take k,b.id<e.a)) ((fun(k:Nat)=>(x.fo.length-k:Nat)) (0)) ?_ ?_
 ·refine M0 ⟨0,rfl,by simp[St.av,Ev.av,k1],?_,?_,?_,?_,by omega,by simp⟩;all_goals try exact zZz F
 rintro _ s2 h' ⟨k,rfl,rfl,e2,e3,e4,e5,hk,hlt⟩ K2 hK2;simp only[ai,ak,Nat.reduceEqDiff, ↓reduceIte]at e2 e3 e4 e5;have F:=F5 F e2 e3 e4 e5;have hsA:∀H,aslice Tryz.prog H 35 (.sl 3 (x.fo.map Fo.av)) none (some (.int .i64 (k:Int))) none=some (.sl 3 ((x.fo.map Fo.av).take k)):=fun H=>bT (by simp only[go_sem];try rfl) (by simp only[go_sem];try rfl) (by omega)
 have hsB:∀H,aslice Tryz.prog H 35 (.sl 3 (x.fo.map Fo.av)) (some (.int .i64 (k:Int))) none none=some (.sl 3 ((x.fo.map Fo.av).drop k)):=fun H=>bU (by simp only[go_sem];try rfl) (by simp only[go_sem];try rfl) (by omega)
 by_cases c1:k<x.fo.length
 ·obtain⟨b,hb,_⟩:=ac c1;by_cases c2:b.id<e.a
  ·have d2:decide (b.id<e.a)=true:=O4 c2;have F:=F5 F hb c1 dt d2;(try refine sq F ?_);refine wk F ?_;have hlt1:∀b∈x.fo.take (k+1),b.id<e.a:=by
    rw[O3,hb];intro z hz;simp at hz;rcases hz with hz|rfl
    ·exact hlt z hz
    ·exact c2
   refine hK2 _ _ _ (M0 ⟨k+1,rfl,by simp[St.av,Ev.av,k1],?_,?_,?_,?_,by omega,hlt1⟩) (by omega);all_goals try exact zZz F
  ·have d2:decide (b.id<e.a)=false:=O0 c2;have hins:insI (·.id) x.fo e.a=k:=cJ hlt hk fun z hz=>by rw[hb]at hz;cases hz;exact c2
   have F:=F7 F hb c1 dt d2 @hsA @hsB;(try refine sq F ?_);refine wk F ?_;refine aL (n0:=h.length+3) (.ez _ _ _ _) (by simp) ?_;intro v0 h0 L0 f0 g0;obtain⟨r1,r2,r3⟩:=f0.r3;simp only[M5,M8,O7]at g0;have F:=F4 F r1 r2 r3;try refine sq F ?_
   skip
   refine wn F ?_;refine aA 16 [5,14] [true,true,true,true,true,false,true,true,true,true,true,true,true,true,false,true] (.one 5 [false,false,false,false,false,false,true,true,true,true,true,true,false,true] (.one 14 [] .fin)) (by decide+kernel) (by kernel_rfl) (by decide+kernel) ?_;simp only[aD,aE,aC];(try refine sq F ?_);repeat' ((first|refine ae ?_|refine af ?_|refine ah ?_ ?_)<;>try refine sq F ?_)
   (all_goals try refine wn F ?_);refine aL (n0:=h0.length) (.ez _ _ _ _) (M2 _) ?_;intro v1 h1 L1 f1 g1;obtain⟨r1,r2,r3⟩:=(f0.trans (f1.less (by omega))).r3;have F:=F4 F r1 r2 r3;(try refine sq F ?_);refine⟨?_,?_⟩
   ·(refine vq F ?_;try refine sq F ?_)<;>trivial
   repeat' ((first|refine ae ?_|refine af ?_|refine ah ?_ ?_)<;>try refine sq F ?_)
   (all_goals try refine wn F ?_);refine aL L1 (by omega) ?_;intro v2 h2 L2 f2 g2;obtain⟨r1,r2,r3⟩:=(f0.trans ((f1.trans f2).less (by omega))).r3;have E0:=(L0.old (f1.trans f2)).elems;have F:=F4 F r1 r2 r3;(try refine sq F ?_);repeat' ((first|refine ae ?_|refine af ?_|refine ah ?_ ?_)<;>try refine sq F ?_)
   (all_goals try refine wn F ?_);refine aL L2 (by omega) ?_ (hy:=E0);intro v3 h3 L3 f3 g3;obtain⟨r1,r2,r3⟩:=(f0.trans (((f1.trans f2).trans f3).less (by omega))).r3;have lc:=L3.cel;have ll:=L3.lie;have hz:h.length+2<h3.length:=(by omega);have hn1:h.length<h3.length:=(by omega);have F:=F7 F r1 r2 r3 lc ll @ax;(try refine sq F ?_);repeat' ((first|refine ae ?_|refine af ?_|refine ah ?_ ?_)<;>try refine sq F ?_)
   all_goals try refine wn F ?_
   skip
   refine kq F (cy G x.t1 e.a _) ?_;refine ye hQ F ?_;refine cI (Z9 (Y0 _ (M2 _) (X4 _ _)) ((f0.trans (((f1.trans f2).trans f3).less (by omega))).less (by omega))) (by omega) (by omega) ?_ ⟨by rw[hins],rfl⟩;refine bD (x:= {x with fo:=x.fo.take k++(⟨e.a,e.b,e.s⟩:Fo)::x.fo.drop k,t1:=topI x.t1 e.a}) ?_ (aB (zd5 _) _) (aB (zd2 _) _) (aB (zd4 _) _);refine L3.fin2 (es:=(x.fo.take k++(⟨e.a,e.b,e.s⟩:Fo)::x.fo.drop k).map Fo.av) (by omega) (by omega) (by omega) ?_;rw[Q5,N7,show(x.fo.take k).map Fo.av++Fo.av ⟨e.a,e.b,e.s⟩::(x.fo.drop k).map Fo.av=(x.fo.take k).map Fo.av++[Fo.av ⟨e.a,e.b,e.s⟩]++(x.fo.drop k).map Fo.av by simp, ← X3, ← Z5,P3];refine((FrzRs.map zd3 Fo.sto _).app (.cons ?_ .nil)).app (FrzRs.map zd3 Fo.sto _);exact FrzR.clo (zd3 _ ⟨e.a,e.b,e.s⟩) (Fo.sto ⟨e.a,e.b,e.s⟩)
 ·have d1:decide (k<x.fo.length)=false:=O0 c1;have hins:insI (·.id) x.fo e.a=k:=cJ hlt hk fun z hz=>by rw[Q7 (by omega)]at hz;cases hz
  have F:=F4 F d1 @hsA @hsB;try refine sq F ?_
  refine wk F ?_;refine aL (n0:=h.length+3) (.ez _ _ _ _) (by simp) ?_;intro v0 h0 L0 f0 g0;obtain⟨r1,r2,r3⟩:=f0.r3;simp only[M5,M8,O7]at g0;have F:=F4 F r1 r2 r3;try refine sq F ?_
  skip
  refine wn F ?_;refine aA 16 [5,14] [true,true,true,true,true,false,true,true,true,true,true,true,true,true,false,true] (.one 5 [false,false,false,false,false,false,true,true,true,true,true,true,false,true] (.one 14 [] .fin)) (by decide+kernel) (by kernel_rfl) (by decide+kernel) ?_;simp only[aD,aE,aC];try refine sq F ?_
  repeat' ((first|refine ae ?_|refine af ?_|refine ah ?_ ?_)<;>try refine sq F ?_)
  all_goals try refine wn F ?_
  refine aL (n0:=h0.length) (.ez _ _ _ _) (M2 _) ?_;intro v1 h1 L1 f1 g1;obtain⟨r1,r2,r3⟩:=(f0.trans (f1.less (by omega))).r3;have F:=F4 F r1 r2 r3;try refine sq F ?_
  refine⟨?_,?_⟩
  ·(refine vq F ?_;try refine sq F ?_)<;>trivial
  repeat' ((first|refine ae ?_|refine af ?_|refine ah ?_ ?_)<;>try refine sq F ?_)
  all_goals try refine wn F ?_
  refine aL L1 (by omega) ?_;intro v2 h2 L2 f2 g2;obtain⟨r1,r2,r3⟩:=(f0.trans ((f1.trans f2).less (by omega))).r3;have E0:=(L0.old (f1.trans f2)).elems;have F:=F4 F r1 r2 r3;try refine sq F ?_
  repeat' ((first|refine ae ?_|refine af ?_|refine ah ?_ ?_)<;>try refine sq F ?_)
  all_goals try refine wn F ?_
  refine aL L2 (by omega) ?_ (hy:=E0);intro v3 h3 L3 f3 g3;obtain⟨r1,r2,r3⟩:=(f0.trans (((f1.trans f2).trans f3).less (by omega))).r3;have lc:=L3.cel;have ll:=L3.lie;have hz:h.length+2<h3.length:=by omega
  have hn1:h.length<h3.length:=by omega
  have F:=F7 F r1 r2 r3 lc ll @ax;try refine sq F ?_
  repeat' ((first|refine ae ?_|refine af ?_|refine ah ?_ ?_)<;>try refine sq F ?_)
  all_goals try refine wn F ?_
  skip
  refine kq F (cy G x.t1 e.a _) ?_;refine ye hQ F ?_;refine cI (Z9 (Y0 _ (M2 _) (X4 _ _)) ((f0.trans (((f1.trans f2).trans f3).less (by omega))).less (by omega))) (by omega) (by omega) ?_ ⟨by rw[hins],rfl⟩;refine bD (x:= {x with fo:=x.fo.take k++(⟨e.a,e.b,e.s⟩:Fo)::x.fo.drop k,t1:=topI x.t1 e.a}) ?_ (aB (zd5 _) _) (aB (zd2 _) _) (aB (zd4 _) _);refine L3.fin2 (es:=(x.fo.take k++(⟨e.a,e.b,e.s⟩:Fo)::x.fo.drop k).map Fo.av) (by omega) (by omega) (by omega) ?_;rw[Q5,N7,show(x.fo.take k).map Fo.av++Fo.av ⟨e.a,e.b,e.s⟩::(x.fo.drop k).map Fo.av=(x.fo.take k).map Fo.av++[Fo.av ⟨e.a,e.b,e.s⟩]++(x.fo.drop k).map Fo.av by simp, ← X3, ← Z5,P3];refine((FrzRs.map zd3 Fo.sto _).app (.cons ?_ .nil)).app (FrzRs.map zd3 Fo.sto _);exact FrzR.clo (zd3 _ ⟨e.a,e.b,e.s⟩) (Fo.sto ⟨e.a,e.b,e.s⟩)
theorem rZ(x:St)(e:Ev)(k1:e.kind=3)(hl:x.fe.length≤100000)(h:Heap):
  Sat (CT G) 54 [x.av,e.av] h (fun r h'=>r=({x with fe:=x.fe.take (insI (·.id) x.fe e.a)++(⟨e.a,e.b,e.s,e.t⟩:Fe)::x.fe.drop (insI (·.id) x.fe e.a),t2:=topI x.t2 e.a}:St).av∧h'=h):=by
 have hel:(x.fe.map Fe.av).length=x.fe.length:=L8 ..;have dt:∀i:Decidable True, @decide True i=true:=fun i=>O4 trivial
 have F:=F2 k1 hel;refine sb [.cell 4 40] Tryz.func54 ?_;intro Q hQ;refine wk F ?_;refine lm (fun nL tL hL=>∃(k:Nat),x.fe.length-k=nL∧h++[.row 40 9 0 [x.av],.row 56 7 0 [e.av],.row 40 9 0 [.agg [.int .i64 0,.nil (.slice none 0 0),.nil (.slice none 0 0),.nil (.slice none 0 0),.nil (.slice none 0 0),.int .i64 0,.int .i64 0,.int .i64 0,.int .i64 0]]]=hL∧tL 2=.hp h.length 0 0 0∧tL 3=.hp (h.length+1) 0 0 0∧tL 4=.hp (h.length+2) 0 0 0∧tL 5=.int .i64 k∧k≤x.fe.length∧(∀b∈x.fe.take k,b.id<e.a)) ((fun(k:Nat)=>(x.fe.length-k:Nat)) (0)) ?_ ?_
 ·refine M0 ⟨0,rfl,by simp[St.av,Ev.av,k1],?_,?_,?_,?_,by omega,by simp⟩;all_goals try exact zZz F
 rintro _ s2 h' ⟨k,rfl,rfl,e2,e3,e4,e5,hk,hlt⟩ K2 hK2;simp only[ai,ak,Nat.reduceEqDiff, ↓reduceIte]at e2 e3 e4 e5;have F:=F5 F e2 e3 e4 e5;have hsA:∀H,aslice Tryz.prog H 36 (.sl 4 (x.fe.map Fe.av)) none (some (.int .i64 (k:Int))) none=some (.sl 4 ((x.fe.map Fe.av).take k)):=fun H=>bT (by simp only[go_sem];try rfl) (by simp only[go_sem];try rfl) (by omega)
 have hsB:∀H,aslice Tryz.prog H 36 (.sl 4 (x.fe.map Fe.av)) (some (.int .i64 (k:Int))) none none=some (.sl 4 ((x.fe.map Fe.av).drop k)):=fun H=>bU (by simp only[go_sem];try rfl) (by simp only[go_sem];try rfl) (by omega)
 by_cases c1:k<x.fe.length
 ·obtain⟨b,hb,_⟩:=ac c1;by_cases c2:b.id<e.a
  ·have d2:decide (b.id<e.a)=true:=O4 c2;have F:=F5 F hb c1 dt d2;(try refine sq F ?_);refine wk F ?_;have hlt1:∀b∈x.fe.take (k+1),b.id<e.a:=by
    rw[O3,hb];intro z hz;simp at hz;rcases hz with hz|rfl
    ·exact hlt z hz
    ·exact c2
   refine hK2 _ _ _ (M0 ⟨k+1,rfl,by simp[St.av,Ev.av,k1],?_,?_,?_,?_,by omega,hlt1⟩) (by omega);all_goals try exact zZz F
  ·have d2:decide (b.id<e.a)=false:=O0 c2;have hins:insI (·.id) x.fe e.a=k:=cJ hlt hk fun z hz=>by rw[hb]at hz;cases hz;exact c2
   have F:=F7 F hb c1 dt d2 @hsA @hsB;(try refine sq F ?_);refine wk F ?_;refine aL (n0:=h.length+3) (.ez _ _ _ _) (by simp) ?_;intro v0 h0 L0 f0 g0;obtain⟨r1,r2,r3⟩:=f0.r3;simp only[M5,M8,O7]at g0;have F:=F4 F r1 r2 r3;try refine sq F ?_
   skip
   refine wn F ?_;refine aA 18 [5,16] [true,true,true,true,true,false,true,true,true,true,true,true,true,true,true,true,false,true] (.one 5 [false,false,false,false,false,false,true,true,true,true,true,true,true,true,false,true] (.one 16 [] .fin)) (by decide+kernel) (by kernel_rfl) (by decide+kernel) ?_;simp only[aD,aE,aC];(try refine sq F ?_);repeat' ((first|refine ae ?_|refine af ?_|refine ah ?_ ?_)<;>try refine sq F ?_)
   (all_goals try refine wn F ?_);refine aL (n0:=h0.length) (.ez _ _ _ _) (M2 _) ?_;intro v1 h1 L1 f1 g1;obtain⟨r1,r2,r3⟩:=(f0.trans (f1.less (by omega))).r3;have F:=F4 F r1 r2 r3;(try refine sq F ?_);refine⟨?_,?_⟩
   ·(refine vq F ?_;try refine sq F ?_)<;>trivial
   repeat' ((first|refine ae ?_|refine af ?_|refine ah ?_ ?_)<;>try refine sq F ?_)
   (all_goals try refine wn F ?_);refine aL L1 (by omega) ?_;intro v2 h2 L2 f2 g2;obtain⟨r1,r2,r3⟩:=(f0.trans ((f1.trans f2).less (by omega))).r3;have E0:=(L0.old (f1.trans f2)).elems;have F:=F4 F r1 r2 r3;(try refine sq F ?_);repeat' ((first|refine ae ?_|refine af ?_|refine ah ?_ ?_)<;>try refine sq F ?_)
   (all_goals try refine wn F ?_);refine aL L2 (by omega) ?_ (hy:=E0);intro v3 h3 L3 f3 g3;obtain⟨r1,r2,r3⟩:=(f0.trans (((f1.trans f2).trans f3).less (by omega))).r3;have lc:=L3.cel;have ll:=L3.lie;have hz:h.length+2<h3.length:=(by omega);have hn1:h.length<h3.length:=(by omega);have F:=F7 F r1 r2 r3 lc ll @ax;(try refine sq F ?_);repeat' ((first|refine ae ?_|refine af ?_|refine ah ?_ ?_)<;>try refine sq F ?_)
   all_goals try refine wn F ?_
   skip
   refine kq F (cy G x.t2 e.a _) ?_;refine ye hQ F ?_;refine cI (Z9 (Y0 _ (M2 _) (X4 _ _)) ((f0.trans (((f1.trans f2).trans f3).less (by omega))).less (by omega))) (by omega) (by omega) ?_ ⟨by rw[hins],rfl⟩;refine bD (x:= {x with fe:=x.fe.take k++(⟨e.a,e.b,e.s,e.t⟩:Fe)::x.fe.drop k,t2:=topI x.t2 e.a}) (aB (zd3 _) _) ?_ (aB (zd2 _) _) (aB (zd4 _) _);refine L3.fin2 (es:=(x.fe.take k++(⟨e.a,e.b,e.s,e.t⟩:Fe)::x.fe.drop k).map Fe.av) (by omega) (by omega) (by omega) ?_;rw[Q5,N7,show(x.fe.take k).map Fe.av++Fe.av ⟨e.a,e.b,e.s,e.t⟩::(x.fe.drop k).map Fe.av=(x.fe.take k).map Fe.av++[Fe.av ⟨e.a,e.b,e.s,e.t⟩]++(x.fe.drop k).map Fe.av by simp, ← X3, ← Z5,P3];refine((FrzRs.map zd5 Fe.sto _).app (.cons ?_ .nil)).app (FrzRs.map zd5 Fe.sto _);exact FrzR.clo (zd5 _ ⟨e.a,e.b,e.s,e.t⟩) (Fe.sto ⟨e.a,e.b,e.s,e.t⟩)
 ·have d1:decide (k<x.fe.length)=false:=O0 c1;have hins:insI (·.id) x.fe e.a=k:=cJ hlt hk fun z hz=>by rw[Q7 (by omega)]at hz;cases hz
  have F:=F4 F d1 @hsA @hsB;try refine sq F ?_
  refine wk F ?_;refine aL (n0:=h.length+3) (.ez _ _ _ _) (by simp) ?_;intro v0 h0 L0 f0 g0;obtain⟨r1,r2,r3⟩:=f0.r3;simp only[M5,M8,O7]at g0;have F:=F4 F r1 r2 r3;try refine sq F ?_
  skip
  refine wn F ?_;refine aA 18 [5,16] [true,true,true,true,true,false,true,true,true,true,true,true,true,true,true,true,false,true] (.one 5 [false,false,false,false,false,false,true,true,true,true,true,true,true,true,false,true] (.one 16 [] .fin)) (by decide+kernel) (by kernel_rfl) (by decide+kernel) ?_;simp only[aD,aE,aC];try refine sq F ?_
  repeat' ((first|refine ae ?_|refine af ?_|refine ah ?_ ?_)<;>try refine sq F ?_)
  all_goals try refine wn F ?_
  refine aL (n0:=h0.length) (.ez _ _ _ _) (M2 _) ?_;intro v1 h1 L1 f1 g1;obtain⟨r1,r2,r3⟩:=(f0.trans (f1.less (by omega))).r3;have F:=F4 F r1 r2 r3;try refine sq F ?_
  refine⟨?_,?_⟩
  ·(refine vq F ?_;try refine sq F ?_)<;>trivial
  repeat' ((first|refine ae ?_|refine af ?_|refine ah ?_ ?_)<;>try refine sq F ?_)
  all_goals try refine wn F ?_
  refine aL L1 (by omega) ?_;intro v2 h2 L2 f2 g2;obtain⟨r1,r2,r3⟩:=(f0.trans ((f1.trans f2).less (by omega))).r3;have E0:=(L0.old (f1.trans f2)).elems;have F:=F4 F r1 r2 r3;try refine sq F ?_
  repeat' ((first|refine ae ?_|refine af ?_|refine ah ?_ ?_)<;>try refine sq F ?_)
  all_goals try refine wn F ?_
  refine aL L2 (by omega) ?_ (hy:=E0);intro v3 h3 L3 f3 g3;obtain⟨r1,r2,r3⟩:=(f0.trans (((f1.trans f2).trans f3).less (by omega))).r3;have lc:=L3.cel;have ll:=L3.lie;have hz:h.length+2<h3.length:=by omega
  have hn1:h.length<h3.length:=by omega
  have F:=F7 F r1 r2 r3 lc ll @ax;try refine sq F ?_
  repeat' ((first|refine ae ?_|refine af ?_|refine ah ?_ ?_)<;>try refine sq F ?_)
  all_goals try refine wn F ?_
  skip
  refine kq F (cy G x.t2 e.a _) ?_;refine ye hQ F ?_;refine cI (Z9 (Y0 _ (M2 _) (X4 _ _)) ((f0.trans (((f1.trans f2).trans f3).less (by omega))).less (by omega))) (by omega) (by omega) ?_ ⟨by rw[hins],rfl⟩;refine bD (x:= {x with fe:=x.fe.take k++(⟨e.a,e.b,e.s,e.t⟩:Fe)::x.fe.drop k,t2:=topI x.t2 e.a}) (aB (zd3 _) _) ?_ (aB (zd2 _) _) (aB (zd4 _) _);refine L3.fin2 (es:=(x.fe.take k++(⟨e.a,e.b,e.s,e.t⟩:Fe)::x.fe.drop k).map Fe.av) (by omega) (by omega) (by omega) ?_;rw[Q5,N7,show(x.fe.take k).map Fe.av++Fe.av ⟨e.a,e.b,e.s,e.t⟩::(x.fe.drop k).map Fe.av=(x.fe.take k).map Fe.av++[Fe.av ⟨e.a,e.b,e.s,e.t⟩]++(x.fe.drop k).map Fe.av by simp, ← X3, ← Z5,P3];refine((FrzRs.map zd5 Fe.sto _).app (.cons ?_ .nil)).app (FrzRs.map zd5 Fe.sto _);exact FrzR.clo (zd5 _ ⟨e.a,e.b,e.s,e.t⟩) (Fe.sto ⟨e.a,e.b,e.s,e.t⟩)
theorem s7(x:St)(e:Ev)(k1:e.kind=7)(hl:x.it.length≤100000)(h:Heap):
  Sat (CT G) 54 [x.av,e.av] h (fun r h'=>r=({x with it:=x.it.take (insI (·.id) x.it e.a)++(⟨e.a,e.b,e.n,e.s,e.t,e.u,false,false,[]⟩:It)::x.it.drop (insI (·.id) x.it e.a),t3:=topI x.t3 e.a}:St).av∧h'=h):=by
 have hel:(x.it.map It.av).length=x.it.length:=L8 ..;have dt:∀i:Decidable True, @decide True i=true:=fun i=>O4 trivial
 have F:=F2 k1 hel;refine sb [.cell 4 40] Tryz.func54 ?_;intro Q hQ;refine wk F ?_;refine lm (fun nL tL hL=>∃(k:Nat),x.it.length-k=nL∧h++[.row 40 9 0 [x.av],.row 56 7 0 [e.av],.row 40 9 0 [.agg [.int .i64 0,.nil (.slice none 0 0),.nil (.slice none 0 0),.nil (.slice none 0 0),.nil (.slice none 0 0),.int .i64 0,.int .i64 0,.int .i64 0,.int .i64 0]]]=hL∧tL 2=.hp h.length 0 0 0∧tL 3=.hp (h.length+1) 0 0 0∧tL 4=.hp (h.length+2) 0 0 0∧tL 5=.int .i64 k∧k≤x.it.length∧(∀b∈x.it.take k,b.id<e.a)) ((fun(k:Nat)=>(x.it.length-k:Nat)) (0)) ?_ ?_
 ·refine M0 ⟨0,rfl,by simp[St.av,Ev.av,k1],?_,?_,?_,?_,by omega,by simp⟩;all_goals try exact zZz F
 rintro _ s2 h' ⟨k,rfl,rfl,e2,e3,e4,e5,hk,hlt⟩ K2 hK2;simp only[ai,ak,Nat.reduceEqDiff, ↓reduceIte]at e2 e3 e4 e5;have F:=F5 F e2 e3 e4 e5;have hsA:∀H,aslice Tryz.prog H 37 (.sl 9 (x.it.map It.av)) none (some (.int .i64 (k:Int))) none=some (.sl 9 ((x.it.map It.av).take k)):=fun H=>bT (by simp only[go_sem];try rfl) (by simp only[go_sem];try rfl) (by omega)
 have hsB:∀H,aslice Tryz.prog H 37 (.sl 9 (x.it.map It.av)) (some (.int .i64 (k:Int))) none none=some (.sl 9 ((x.it.map It.av).drop k)):=fun H=>bU (by simp only[go_sem];try rfl) (by simp only[go_sem];try rfl) (by omega)
 by_cases c1:k<x.it.length
 ·obtain⟨b,hb,_⟩:=ac c1;by_cases c2:b.id<e.a
  ·have d2:decide (b.id<e.a)=true:=O4 c2;have F:=F5 F hb c1 dt d2;(try refine sq F ?_);refine wk F ?_;have hlt1:∀b∈x.it.take (k+1),b.id<e.a:=by
    rw[O3,hb];intro z hz;simp at hz;rcases hz with hz|rfl
    ·exact hlt z hz
    ·exact c2
   refine hK2 _ _ _ (M0 ⟨k+1,rfl,by simp[St.av,Ev.av,k1],?_,?_,?_,?_,by omega,hlt1⟩) (by omega);all_goals try exact zZz F
  ·have d2:decide (b.id<e.a)=false:=O0 c2;have hins:insI (·.id) x.it e.a=k:=cJ hlt hk fun z hz=>by rw[hb]at hz;cases hz;exact c2
   have F:=F7 F hb c1 dt d2 @hsA @hsB;(try refine sq F ?_);refine wk F ?_;refine aL (n0:=h.length+3) (.ez _ _ _ _) (by simp) ?_;intro v0 h0 L0 f0 g0;obtain⟨r1,r2,r3⟩:=f0.r3;simp only[M5,M8,O7]at g0;have F:=F4 F r1 r2 r3;try refine sq F ?_
   skip
   refine wn F ?_;refine aA 22 [5,20] [true,true,true,true,true,false,true,true,true,true,true,true,true,true,true,true,true,true,true,true,false,true] (.one 5 [false,false,false,false,false,false,true,true,true,true,true,true,true,true,true,true,true,true,false,true] (.one 20 [] .fin)) (by decide+kernel) (by kernel_rfl) (by decide+kernel) ?_;simp only[aD,aE,aC];(try refine sq F ?_);repeat' ((first|refine ae ?_|refine af ?_|refine ah ?_ ?_)<;>try refine sq F ?_)
   (all_goals try refine wn F ?_);refine aL (n0:=h0.length) (.ez _ _ _ _) (M2 _) ?_;intro v1 h1 L1 f1 g1;obtain⟨r1,r2,r3⟩:=(f0.trans (f1.less (by omega))).r3;have F:=F4 F r1 r2 r3;(try refine sq F ?_);refine⟨?_,?_⟩
   ·(refine vq F ?_;try refine sq F ?_)<;>trivial
   repeat' ((first|refine ae ?_|refine af ?_|refine ah ?_ ?_)<;>try refine sq F ?_)
   (all_goals try refine wn F ?_);refine aL L1 (by omega) ?_;intro v2 h2 L2 f2 g2;obtain⟨r1,r2,r3⟩:=(f0.trans ((f1.trans f2).less (by omega))).r3;have E0:=(L0.old (f1.trans f2)).elems;have F:=F4 F r1 r2 r3;(try refine sq F ?_);repeat' ((first|refine ae ?_|refine af ?_|refine ah ?_ ?_)<;>try refine sq F ?_)
   (all_goals try refine wn F ?_);refine aL L2 (by omega) ?_ (hy:=E0);intro v3 h3 L3 f3 g3;obtain⟨r1,r2,r3⟩:=(f0.trans (((f1.trans f2).trans f3).less (by omega))).r3;have lc:=L3.cel;have ll:=L3.lie;have hz:h.length+2<h3.length:=(by omega);have hn1:h.length<h3.length:=(by omega);have F:=F7 F r1 r2 r3 lc ll @ax;(try refine sq F ?_);repeat' ((first|refine ae ?_|refine af ?_|refine ah ?_ ?_)<;>try refine sq F ?_)
   all_goals try refine wn F ?_
   skip
   refine kq F (cy G x.t3 e.a _) ?_;refine ye hQ F ?_;refine cI (Z9 (Y0 _ (M2 _) (X4 _ _)) ((f0.trans (((f1.trans f2).trans f3).less (by omega))).less (by omega))) (by omega) (by omega) ?_ ⟨by rw[hins],rfl⟩;refine bD (x:= {x with it:=x.it.take k++(⟨e.a,e.b,e.n,e.s,e.t,e.u,false,false,[]⟩:It)::x.it.drop k,t3:=topI x.t3 e.a}) (aB (zd3 _) _) (aB (zd5 _) _) ?_ (aB (zd4 _) _);refine L3.fin2 (es:=(x.it.take k++(⟨e.a,e.b,e.n,e.s,e.t,e.u,false,false,[]⟩:It)::x.it.drop k).map It.av) (by omega) (by omega) (by omega) ?_;rw[Q5,N7,show(x.it.take k).map It.av++It.av ⟨e.a,e.b,e.n,e.s,e.t,e.u,false,false,[]⟩::(x.it.drop k).map It.av=(x.it.take k).map It.av++[It.av ⟨e.a,e.b,e.n,e.s,e.t,e.u,false,false,[]⟩]++(x.it.drop k).map It.av by simp, ← X3, ← Z5,P3];refine((FrzRs.map zd2 It.sto _).app (.cons ?_ .nil)).app (FrzRs.map zd2 It.sto _);exact FrzL.row (.cons (.clo _ (.int _ _)) (.cons (.clo _ (.int _ _)) (.cons (.clo _ (.int _ _)) (.cons (.clo _ (.str _)) (.cons (.clo _ (.str _)) (.cons (.clo _ (.str _)) (.cons (.clo _ (.bool _)) (.cons (.clo _ (.bool _)) (.cons (.nils 1) .nil))))))))) rfl
 ·have d1:decide (k<x.it.length)=false:=O0 c1;have hins:insI (·.id) x.it e.a=k:=cJ hlt hk fun z hz=>by rw[Q7 (by omega)]at hz;cases hz
  have F:=F4 F d1 @hsA @hsB;try refine sq F ?_
  refine wk F ?_;refine aL (n0:=h.length+3) (.ez _ _ _ _) (by simp) ?_;intro v0 h0 L0 f0 g0;obtain⟨r1,r2,r3⟩:=f0.r3;simp only[M5,M8,O7]at g0;have F:=F4 F r1 r2 r3;try refine sq F ?_
  skip
  refine wn F ?_;refine aA 22 [5,20] [true,true,true,true,true,false,true,true,true,true,true,true,true,true,true,true,true,true,true,true,false,true] (.one 5 [false,false,false,false,false,false,true,true,true,true,true,true,true,true,true,true,true,true,false,true] (.one 20 [] .fin)) (by decide+kernel) (by kernel_rfl) (by decide+kernel) ?_;simp only[aD,aE,aC];try refine sq F ?_
  repeat' ((first|refine ae ?_|refine af ?_|refine ah ?_ ?_)<;>try refine sq F ?_)
  all_goals try refine wn F ?_
  refine aL (n0:=h0.length) (.ez _ _ _ _) (M2 _) ?_;intro v1 h1 L1 f1 g1;obtain⟨r1,r2,r3⟩:=(f0.trans (f1.less (by omega))).r3;have F:=F4 F r1 r2 r3;try refine sq F ?_
  refine⟨?_,?_⟩
  ·(refine vq F ?_;try refine sq F ?_)<;>trivial
  repeat' ((first|refine ae ?_|refine af ?_|refine ah ?_ ?_)<;>try refine sq F ?_)
  all_goals try refine wn F ?_
  refine aL L1 (by omega) ?_;intro v2 h2 L2 f2 g2;obtain⟨r1,r2,r3⟩:=(f0.trans ((f1.trans f2).less (by omega))).r3;have E0:=(L0.old (f1.trans f2)).elems;have F:=F4 F r1 r2 r3;try refine sq F ?_
  repeat' ((first|refine ae ?_|refine af ?_|refine ah ?_ ?_)<;>try refine sq F ?_)
  all_goals try refine wn F ?_
  refine aL L2 (by omega) ?_ (hy:=E0);intro v3 h3 L3 f3 g3;obtain⟨r1,r2,r3⟩:=(f0.trans (((f1.trans f2).trans f3).less (by omega))).r3;have lc:=L3.cel;have ll:=L3.lie;have hz:h.length+2<h3.length:=by omega
  have hn1:h.length<h3.length:=by omega
  have F:=F7 F r1 r2 r3 lc ll @ax;try refine sq F ?_
  repeat' ((first|refine ae ?_|refine af ?_|refine ah ?_ ?_)<;>try refine sq F ?_)
  all_goals try refine wn F ?_
  skip
  refine kq F (cy G x.t3 e.a _) ?_;refine ye hQ F ?_;refine cI (Z9 (Y0 _ (M2 _) (X4 _ _)) ((f0.trans (((f1.trans f2).trans f3).less (by omega))).less (by omega))) (by omega) (by omega) ?_ ⟨by rw[hins],rfl⟩;refine bD (x:= {x with it:=x.it.take k++(⟨e.a,e.b,e.n,e.s,e.t,e.u,false,false,[]⟩:It)::x.it.drop k,t3:=topI x.t3 e.a}) (aB (zd3 _) _) (aB (zd5 _) _) ?_ (aB (zd4 _) _);refine L3.fin2 (es:=(x.it.take k++(⟨e.a,e.b,e.n,e.s,e.t,e.u,false,false,[]⟩:It)::x.it.drop k).map It.av) (by omega) (by omega) (by omega) ?_;rw[Q5,N7,show(x.it.take k).map It.av++It.av ⟨e.a,e.b,e.n,e.s,e.t,e.u,false,false,[]⟩::(x.it.drop k).map It.av=(x.it.take k).map It.av++[It.av ⟨e.a,e.b,e.n,e.s,e.t,e.u,false,false,[]⟩]++(x.it.drop k).map It.av by simp, ← X3, ← Z5,P3];refine((FrzRs.map zd2 It.sto _).app (.cons ?_ .nil)).app (FrzRs.map zd2 It.sto _);exact FrzL.row (.cons (.clo _ (.int _ _)) (.cons (.clo _ (.int _ _)) (.cons (.clo _ (.int _ _)) (.cons (.clo _ (.str _)) (.cons (.clo _ (.str _)) (.cons (.clo _ (.str _)) (.cons (.clo _ (.bool _)) (.cons (.clo _ (.bool _)) (.cons (.nils 1) .nil))))))))) rfl
theorem oS(x:St)(e:Ev)(k1:e.kind=11)(hl:x.se.length≤100000)(h:Heap):
  Sat (CT G) 54 [x.av,e.av] h (fun r h'=>r=({x with se:=x.se.take (insI (·.id) x.se e.a)++(⟨e.a,e.s,e.t⟩:Se)::x.se.drop (insI (·.id) x.se e.a),t4:=topI x.t4 e.a}:St).av∧h'=h):=by
 have hel:(x.se.map Se.av).length=x.se.length:=L8 ..;have dt:∀i:Decidable True, @decide True i=true:=fun i=>O4 trivial
 have F:=F2 k1 hel;refine sb [.cell 4 40] Tryz.func54 ?_;intro Q hQ;refine wk F ?_;refine lm (fun nL tL hL=>∃(k:Nat),x.se.length-k=nL∧h++[.row 40 9 0 [x.av],.row 56 7 0 [e.av],.row 40 9 0 [.agg [.int .i64 0,.nil (.slice none 0 0),.nil (.slice none 0 0),.nil (.slice none 0 0),.nil (.slice none 0 0),.int .i64 0,.int .i64 0,.int .i64 0,.int .i64 0]]]=hL∧tL 2=.hp h.length 0 0 0∧tL 3=.hp (h.length+1) 0 0 0∧tL 4=.hp (h.length+2) 0 0 0∧tL 5=.int .i64 k∧k≤x.se.length∧(∀b∈x.se.take k,b.id<e.a)) ((fun(k:Nat)=>(x.se.length-k:Nat)) (0)) ?_ ?_
 ·refine M0 ⟨0,rfl,by simp[St.av,Ev.av,k1],?_,?_,?_,?_,by omega,by simp⟩;all_goals try exact zZz F
 rintro _ s2 h' ⟨k,rfl,rfl,e2,e3,e4,e5,hk,hlt⟩ K2 hK2;simp only[ai,ak,Nat.reduceEqDiff, ↓reduceIte]at e2 e3 e4 e5;have F:=F5 F e2 e3 e4 e5;have hsA:∀H,aslice Tryz.prog H 38 (.sl 3 (x.se.map Se.av)) none (some (.int .i64 (k:Int))) none=some (.sl 3 ((x.se.map Se.av).take k)):=fun H=>bT (by simp only[go_sem];try rfl) (by simp only[go_sem];try rfl) (by omega)
 have hsB:∀H,aslice Tryz.prog H 38 (.sl 3 (x.se.map Se.av)) (some (.int .i64 (k:Int))) none none=some (.sl 3 ((x.se.map Se.av).drop k)):=fun H=>bU (by simp only[go_sem];try rfl) (by simp only[go_sem];try rfl) (by omega)
 by_cases c1:k<x.se.length
 ·obtain⟨b,hb,_⟩:=ac c1;by_cases c2:b.id<e.a
  ·have d2:decide (b.id<e.a)=true:=O4 c2;have F:=F5 F hb c1 dt d2;(try refine sq F ?_);refine wk F ?_;have hlt1:∀b∈x.se.take (k+1),b.id<e.a:=by
    rw[O3,hb];intro z hz;simp at hz;rcases hz with hz|rfl
    ·exact hlt z hz
    ·exact c2
   refine hK2 _ _ _ (M0 ⟨k+1,rfl,by simp[St.av,Ev.av,k1],?_,?_,?_,?_,by omega,hlt1⟩) (by omega);all_goals try exact zZz F
  ·have d2:decide (b.id<e.a)=false:=O0 c2;have hins:insI (·.id) x.se e.a=k:=cJ hlt hk fun z hz=>by rw[hb]at hz;cases hz;exact c2
   have F:=F7 F hb c1 dt d2 @hsA @hsB;(try refine sq F ?_);refine wk F ?_;refine aL (n0:=h.length+3) (.ez _ _ _ _) (by simp) ?_;intro v0 h0 L0 f0 g0;obtain⟨r1,r2,r3⟩:=f0.r3;simp only[M5,M8,O7]at g0;have F:=F4 F r1 r2 r3;try refine sq F ?_
   skip
   refine wn F ?_;refine aA 16 [5,14] [true,true,true,true,true,false,true,true,true,true,true,true,true,true,false,true] (.one 5 [false,false,false,false,false,false,true,true,true,true,true,true,false,true] (.one 14 [] .fin)) (by decide+kernel) (by kernel_rfl) (by decide+kernel) ?_;simp only[aD,aE,aC];(try refine sq F ?_);repeat' ((first|refine ae ?_|refine af ?_|refine ah ?_ ?_)<;>try refine sq F ?_)
   (all_goals try refine wn F ?_);refine aL (n0:=h0.length) (.ez _ _ _ _) (M2 _) ?_;intro v1 h1 L1 f1 g1;obtain⟨r1,r2,r3⟩:=(f0.trans (f1.less (by omega))).r3;have F:=F4 F r1 r2 r3;(try refine sq F ?_);refine⟨?_,?_⟩
   ·(refine vq F ?_;try refine sq F ?_)<;>trivial
   repeat' ((first|refine ae ?_|refine af ?_|refine ah ?_ ?_)<;>try refine sq F ?_)
   (all_goals try refine wn F ?_);refine aL L1 (by omega) ?_;intro v2 h2 L2 f2 g2;obtain⟨r1,r2,r3⟩:=(f0.trans ((f1.trans f2).less (by omega))).r3;have E0:=(L0.old (f1.trans f2)).elems;have F:=F4 F r1 r2 r3;(try refine sq F ?_);repeat' ((first|refine ae ?_|refine af ?_|refine ah ?_ ?_)<;>try refine sq F ?_)
   (all_goals try refine wn F ?_);refine aL L2 (by omega) ?_ (hy:=E0);intro v3 h3 L3 f3 g3;obtain⟨r1,r2,r3⟩:=(f0.trans (((f1.trans f2).trans f3).less (by omega))).r3;have lc:=L3.cel;have ll:=L3.lie;have hz:h.length+2<h3.length:=(by omega);have hn1:h.length<h3.length:=(by omega);have F:=F7 F r1 r2 r3 lc ll @ax;(try refine sq F ?_);repeat' ((first|refine ae ?_|refine af ?_|refine ah ?_ ?_)<;>try refine sq F ?_)
   all_goals try refine wn F ?_
   skip
   refine kq F (cy G x.t4 e.a _) ?_;refine ye hQ F ?_;refine cI (Z9 (Y0 _ (M2 _) (X4 _ _)) ((f0.trans (((f1.trans f2).trans f3).less (by omega))).less (by omega))) (by omega) (by omega) ?_ ⟨by rw[hins],rfl⟩;refine bD (x:= {x with se:=x.se.take k++(⟨e.a,e.s,e.t⟩:Se)::x.se.drop k,t4:=topI x.t4 e.a}) (aB (zd3 _) _) (aB (zd5 _) _) (aB (zd2 _) _) ?_;refine L3.fin2 (es:=(x.se.take k++(⟨e.a,e.s,e.t⟩:Se)::x.se.drop k).map Se.av) (by omega) (by omega) (by omega) ?_;rw[Q5,N7,show(x.se.take k).map Se.av++Se.av ⟨e.a,e.s,e.t⟩::(x.se.drop k).map Se.av=(x.se.take k).map Se.av++[Se.av ⟨e.a,e.s,e.t⟩]++(x.se.drop k).map Se.av by simp, ← X3, ← Z5,P3];refine((FrzRs.map zd4 Se.sto _).app (.cons ?_ .nil)).app (FrzRs.map zd4 Se.sto _);exact FrzR.clo (zd4 _ ⟨e.a,e.s,e.t⟩) (Se.sto ⟨e.a,e.s,e.t⟩)
 ·have d1:decide (k<x.se.length)=false:=O0 c1;have hins:insI (·.id) x.se e.a=k:=cJ hlt hk fun z hz=>by rw[Q7 (by omega)]at hz;cases hz
  have F:=F4 F d1 @hsA @hsB;try refine sq F ?_
  refine wk F ?_;refine aL (n0:=h.length+3) (.ez _ _ _ _) (by simp) ?_;intro v0 h0 L0 f0 g0;obtain⟨r1,r2,r3⟩:=f0.r3;simp only[M5,M8,O7]at g0;have F:=F4 F r1 r2 r3;try refine sq F ?_
  skip
  refine wn F ?_;refine aA 16 [5,14] [true,true,true,true,true,false,true,true,true,true,true,true,true,true,false,true] (.one 5 [false,false,false,false,false,false,true,true,true,true,true,true,false,true] (.one 14 [] .fin)) (by decide+kernel) (by kernel_rfl) (by decide+kernel) ?_;simp only[aD,aE,aC];try refine sq F ?_
  repeat' ((first|refine ae ?_|refine af ?_|refine ah ?_ ?_)<;>try refine sq F ?_)
  all_goals try refine wn F ?_
  refine aL (n0:=h0.length) (.ez _ _ _ _) (M2 _) ?_;intro v1 h1 L1 f1 g1;obtain⟨r1,r2,r3⟩:=(f0.trans (f1.less (by omega))).r3;have F:=F4 F r1 r2 r3;try refine sq F ?_
  refine⟨?_,?_⟩
  ·(refine vq F ?_;try refine sq F ?_)<;>trivial
  repeat' ((first|refine ae ?_|refine af ?_|refine ah ?_ ?_)<;>try refine sq F ?_)
  all_goals try refine wn F ?_
  refine aL L1 (by omega) ?_;intro v2 h2 L2 f2 g2;obtain⟨r1,r2,r3⟩:=(f0.trans ((f1.trans f2).less (by omega))).r3;have E0:=(L0.old (f1.trans f2)).elems;have F:=F4 F r1 r2 r3;try refine sq F ?_
  repeat' ((first|refine ae ?_|refine af ?_|refine ah ?_ ?_)<;>try refine sq F ?_)
  all_goals try refine wn F ?_
  refine aL L2 (by omega) ?_ (hy:=E0);intro v3 h3 L3 f3 g3;obtain⟨r1,r2,r3⟩:=(f0.trans (((f1.trans f2).trans f3).less (by omega))).r3;have lc:=L3.cel;have ll:=L3.lie;have hz:h.length+2<h3.length:=by omega
  have hn1:h.length<h3.length:=by omega
  have F:=F7 F r1 r2 r3 lc ll @ax;try refine sq F ?_
  repeat' ((first|refine ae ?_|refine af ?_|refine ah ?_ ?_)<;>try refine sq F ?_)
  all_goals try refine wn F ?_
  skip
  refine kq F (cy G x.t4 e.a _) ?_;refine ye hQ F ?_;refine cI (Z9 (Y0 _ (M2 _) (X4 _ _)) ((f0.trans (((f1.trans f2).trans f3).less (by omega))).less (by omega))) (by omega) (by omega) ?_ ⟨by rw[hins],rfl⟩;refine bD (x:= {x with se:=x.se.take k++(⟨e.a,e.s,e.t⟩:Se)::x.se.drop k,t4:=topI x.t4 e.a}) (aB (zd3 _) _) (aB (zd5 _) _) (aB (zd2 _) _) ?_;refine L3.fin2 (es:=(x.se.take k++(⟨e.a,e.s,e.t⟩:Se)::x.se.drop k).map Se.av) (by omega) (by omega) (by omega) ?_;rw[Q5,N7,show(x.se.take k).map Se.av++Se.av ⟨e.a,e.s,e.t⟩::(x.se.drop k).map Se.av=(x.se.take k).map Se.av++[Se.av ⟨e.a,e.s,e.t⟩]++(x.se.drop k).map Se.av by simp, ← X3, ← Z5,P3];refine((FrzRs.map zd4 Se.sto _).app (.cons ?_ .nil)).app (FrzRs.map zd4 Se.sto _);exact FrzR.clo (zd4 _ ⟨e.a,e.s,e.t⟩) (Se.sto ⟨e.a,e.s,e.t⟩)
end
end Go.Av
