/- Parts. -/
import Derived.Test.YtllhfnepgcbjnaaGreatMnNr
set_option linter.unusedSimpArgs false
set_option linter.unusedVariables false
set_option linter.unusedSectionVars false
set_option linter.unnecessarySimpa false
set_option maxRecDepth 100000
set_option maxHeartbeats 16000000
namespace Go.Av
open Go Go.Proofs Go.RowKit
attribute [local irreducible] WP WPl WPix Sat
theorem gg{h H:Heap}{R:AVal→Heap→Prop}{r0 r:AVal}(f:FrN h.length h H)(g:h.length≤H.length)(hz:Frz H h.length r0 r)(hR:R r h):Fin h H R r0:=by
 obtain⟨j,hj⟩:=f.behind g;rw[hj]at hz ⊢;exact Fin.frz hz hR
variable (G:Nat→Option (List AVal))
theorem kP(x:St)(id:Int)(hl:x.fe.length≤100000){h:Heap}{p w:Nat}(hg:getRow h p w=some (86,4,x.fe.map Fe.av)):Sat (CT G) 56 [.agg [.int .i64 x.clock,.sl 3 (x.fo.map Fo.av),.hs p w 0 x.fe.length true,.sl 9 (x.it.map It.av),.sl 3 (x.se.map Se.av),.int .i64 x.t1,.int .i64 x.t2,.int .i64 x.t3,.int .i64 x.t4],.int .i64 id] h (fun r h'=>r=.int .i64 (posF (·.id) x.fe id)∧h'=h):=by
 have hel:(x.fe.map Fe.av).length=x.fe.length:=L8 ..;have hpl:=aT hg;have hgj:∀j,getRow (h++j) p w=some (86,4,x.fe.map Fe.av):=fun j=>by rw[aU _ hpl];exact hg
 have F:=F3 hel hg hgj;refine sb [.tmp 4] Tryz.func56 ?_;intro Q hQ;refine wk F ?_;refine lm (fun nL tL hL=>∃(k:Nat),x.fe.length-k=nL∧h++[.row 40 9 0 [.agg [.int .i64 x.clock,.sl 3 (x.fo.map Fo.av),.hs p w 0 x.fe.length true,.sl 9 (x.it.map It.av),.sl 3 (x.se.map Se.av),.int .i64 x.t1,.int .i64 x.t2,.int .i64 x.t3,.int .i64 x.t4]]]=hL∧tL 1=.int .i64 id∧tL 2=.hp h.length 0 0 0∧tL 5=.int .i64 k∧k≤x.fe.length∧(∀f∈x.fe.take k,f.id≠id)) ((fun(k:Nat)=>(x.fe.length-k:Nat)) (0)) ?_ ?_
 ·refine M0 ⟨0,rfl,aw,?_,?_,?_,by omega,by simp⟩;all_goals try exact zZz F
 rintro _ s2 h' ⟨k,rfl,rfl,e1,e2,e5,hk,hp⟩ K2 hK2;simp only[ai,ak,Nat.reduceEqDiff, ↓reduceIte]at e1 e2 e5;have F:=F4 F e1 e2 e5;refine wk F ?_;refine cq F (fun c1=>?_) (fun c1=>?_)<;>(try exact c1.elim)<;>(refine wk F ?_)
 ·have c2:k<x.fe.length:=by omega
  obtain⟨f,hf,hfm⟩:=ac c2;have F:=F3 F c2 hf;try refine sq F ?_
  refine wk F ?_;refine cq F (fun c3=>?_) (fun c3=>?_)<;>(try exact c3.elim)<;>(refine wk F ?_)
  ·refine ee hQ F ?_;exact L6 (.int _ _) ⟨by rw[cS hf (by first|exact c3|exact c3.symm) hp],rfl⟩
  ·have hp1:∀g∈x.fe.take (k+1),g.id≠id:=by
    rw[O3,hf];intro g hg;simp at hg;rcases hg with hg|rfl
    ·exact hp g hg
    ·exact c3
   refine hK2 _ _ _ (M0 ⟨k+1,rfl,aw,?_,?_,?_,by omega,hp1⟩) (by omega);all_goals try exact zZz F
 ·rw[M4 (by omega)]at hp;refine ee hQ F ?_;exact L6 (.int _ _) ⟨by rw[cj hp],rfl⟩
theorem gM(x:St)(id:Int)(hl:x.it.length≤100000){h:Heap}{p w:Nat}(hg:getRow h p w=some (69,9,x.it.map It.av)):Sat (CT G) 34 [.agg [.int .i64 x.clock,.sl 3 (x.fo.map Fo.av),.sl 4 (x.fe.map Fe.av),.hs p w 0 x.it.length true,.sl 3 (x.se.map Se.av),.int .i64 x.t1,.int .i64 x.t2,.int .i64 x.t3,.int .i64 x.t4],.int .i64 id] h (fun r h'=>r=.int .i64 (posF (·.id) x.it id)∧h'=h):=by
 have hel:(x.it.map It.av).length=x.it.length:=L8 ..;have hpl:=aT hg;have hgj:∀j,getRow (h++j) p w=some (69,9,x.it.map It.av):=fun j=>by rw[aU _ hpl];exact hg
 have F:=F3 hel hg hgj;refine sb [.tmp 4] Tryz.func34 ?_;intro Q hQ;refine wk F ?_;refine lm (fun nL tL hL=>∃(k:Nat),x.it.length-k=nL∧h++[.row 40 9 0 [.agg [.int .i64 x.clock,.sl 3 (x.fo.map Fo.av),.sl 4 (x.fe.map Fe.av),.hs p w 0 x.it.length true,.sl 3 (x.se.map Se.av),.int .i64 x.t1,.int .i64 x.t2,.int .i64 x.t3,.int .i64 x.t4]]]=hL∧tL 1=.int .i64 id∧tL 2=.hp h.length 0 0 0∧tL 5=.int .i64 k∧k≤x.it.length∧(∀f∈x.it.take k,f.id≠id)) ((fun(k:Nat)=>(x.it.length-k:Nat)) (0)) ?_ ?_
 ·refine M0 ⟨0,rfl,aw,?_,?_,?_,by omega,by simp⟩;all_goals try exact zZz F
 rintro _ s2 h' ⟨k,rfl,rfl,e1,e2,e5,hk,hp⟩ K2 hK2;simp only[ai,ak,Nat.reduceEqDiff, ↓reduceIte]at e1 e2 e5;have F:=F4 F e1 e2 e5;refine wk F ?_;refine cq F (fun c1=>?_) (fun c1=>?_)<;>(try exact c1.elim)<;>(refine wk F ?_)
 ·have c2:k<x.it.length:=by omega
  obtain⟨f,hf,hfm⟩:=ac c2;have F:=F3 F c2 hf;try refine sq F ?_
  refine wk F ?_;refine cq F (fun c3=>?_) (fun c3=>?_)<;>(try exact c3.elim)<;>(refine wk F ?_)
  ·refine ee hQ F ?_;exact L6 (.int _ _) ⟨by rw[cS hf (by first|exact c3|exact c3.symm) hp],rfl⟩
  ·have hp1:∀g∈x.it.take (k+1),g.id≠id:=by
    rw[O3,hf];intro g hg;simp at hg;rcases hg with hg|rfl
    ·exact hp g hg
    ·exact c3
   refine hK2 _ _ _ (M0 ⟨k+1,rfl,aw,?_,?_,?_,by omega,hp1⟩) (by omega);all_goals try exact zZz F
 ·rw[M4 (by omega)]at hp;refine ee hQ F ?_;exact L6 (.int _ _) ⟨by rw[cj hp],rfl⟩
theorem uH(x:St)(e:Ev)(k1:e.kind=5)(hF:∀h,Sat (CT G) 53 [x.av,e.av] h (fun r h'=>r=.bool true∧h'=h))(i:Nat)(f:Fe)(hf:x.fe[i]? =some f)(hp:posF (·.id) x.fe e.a=(i:Int))(hl:x.fe.length≤100000)(h:Heap):
  Sat (CT G) 26 [x.av,e.av] h (fun r h'=>r=.tup [({x with fe:=x.fe.set i {f with title:=e.t}}:St).av,.bool true]∧h'=h):=by
 have hel:(x.fe.map Fe.av).length=x.fe.length:=L8 ..;have hil:i<x.fe.length:=(f9.1 hf).1;simp only[zd0,k1]at hF;have F:=k1;refine sb [.cell 4 40,.tmp 5] Tryz.func26 ?_;intro Q hQ;refine wk F ?_;refine kq F (hF _) ?_;refine aL (n0:=h.length+3) (.ez _ _ _ _) (by simp) ?_;intro v1 h1 L1 f1 g1;rw[P3]at L1;rcases L1 with⟨hnil,_⟩| ⟨p,w,rfl,hg,hpp⟩
 ·rw[za6]at hnil;rw[hnil]at hil;simp at hil
 rw[hel];obtain⟨r1,r2,r3⟩:=f1.r3;simp only[M5,M8,O7]at g1;have hpl:=aT hg;have hn1:h.length<h1.length:=by omega
 have hz:h.length+2<h1.length:=by omega
 have hne:h.length≠p:=by omega
 have hne2:h.length+2≠p:=by omega
 have hgs:∀b,getRow (h1.set h.length b) p w=some (86,4,x.fe.map Fe.av):=fun b=>by rw[bh _ _ hne];exact hg
 have hH:=fun b=>kP G x e.a hl (hgs b)
 simp only[hp]at hH;have F:=F8 F r1 r2 r3 hg hf hil @ax;try refine sq F ?_
 refine wk F ?_;refine kq F (hH _) ?_;refine ye hQ F ?_;have hrw:(x.fe.map Fe.av).set i (Fe.av {f with title:=e.t})=(x.fe.set i {f with title:=e.t}).map Fe.av:=by rw[zc3]
 simp only[Fe.av_eq]at hrw;rw[hrw];have fr0:FrN h.length h h1:=Z9 (Y0 _ (M2 _) (X4 _ _)) (f1.less (by omega));refine gg (Z0 _ (by omega) (Z0 _ (by omega) (Z0 _ (M2 _) fr0))) (by simp;omega) (FrzL.tup (.cons (bD (x:= {x with fe:=x.fe.set i {f with title:=e.t}}) (aB (zd3 _) _) ?_ (aB (zd2 _) _) (aB (zd4 _) _)) (.cons (.clo _ (.bool _)) .nil))) ⟨rfl,rfl⟩;refine za1 (q:=p) (v:=w) (e:=86) (by omega) ?_ (by simp) (c9 (zd5 _) _) (eK Fe.sto _);rw[bh _ _ hne2,bQ _ _ _ _ _ (by rw[W2];exact hpl),M1 rfl]
theorem uI(x:St)(e:Ev)(k1:e.kind=6)(hF:∀h,Sat (CT G) 53 [x.av,e.av] h (fun r h'=>r=.bool true∧h'=h))(i:Nat)(f:Fe)(hf:x.fe[i]? =some f)(hp:posF (·.id) x.fe e.a=(i:Int))(hl:x.fe.length≤100000)(h:Heap):
  Sat (CT G) 26 [x.av,e.av] h (fun r h'=>r=.tup [({x with fe:=x.fe.set i {f with inn:=e.b}}:St).av,.bool true]∧h'=h):=by
 have hel:(x.fe.map Fe.av).length=x.fe.length:=L8 ..;have hil:i<x.fe.length:=(f9.1 hf).1;simp only[zd0,k1]at hF;have F:=k1;refine sb [.cell 4 40,.tmp 5] Tryz.func26 ?_;intro Q hQ;refine wk F ?_;refine kq F (hF _) ?_;refine aL (n0:=h.length+3) (.ez _ _ _ _) (by simp) ?_;intro v1 h1 L1 f1 g1;rw[P3]at L1;rcases L1 with⟨hnil,_⟩| ⟨p,w,rfl,hg,hpp⟩
 ·rw[za6]at hnil;rw[hnil]at hil;simp at hil
 rw[hel];obtain⟨r1,r2,r3⟩:=f1.r3;simp only[M5,M8,O7]at g1;have hpl:=aT hg;have hn1:h.length<h1.length:=by omega
 have hz:h.length+2<h1.length:=by omega
 have hne:h.length≠p:=by omega
 have hne2:h.length+2≠p:=by omega
 have hgs:∀b,getRow (h1.set h.length b) p w=some (86,4,x.fe.map Fe.av):=fun b=>by rw[bh _ _ hne];exact hg
 have hH:=fun b=>kP G x e.a hl (hgs b)
 simp only[hp]at hH;have F:=F8 F r1 r2 r3 hg hf hil @ax;try refine sq F ?_
 refine wk F ?_;refine kq F (hH _) ?_;refine ye hQ F ?_;have hrw:(x.fe.map Fe.av).set i (Fe.av {f with inn:=e.b})=(x.fe.set i {f with inn:=e.b}).map Fe.av:=by rw[zc3]
 simp only[Fe.av_eq]at hrw;rw[hrw];have fr0:FrN h.length h h1:=Z9 (Y0 _ (M2 _) (X4 _ _)) (f1.less (by omega));refine gg (Z0 _ (by omega) (Z0 _ (by omega) (Z0 _ (M2 _) fr0))) (by simp;omega) (FrzL.tup (.cons (bD (x:= {x with fe:=x.fe.set i {f with inn:=e.b}}) (aB (zd3 _) _) ?_ (aB (zd2 _) _) (aB (zd4 _) _)) (.cons (.clo _ (.bool _)) .nil))) ⟨rfl,rfl⟩;refine za1 (q:=p) (v:=w) (e:=86) (by omega) ?_ (by simp) (c9 (zd5 _) _) (eK Fe.sto _);rw[bh _ _ hne2,bQ _ _ _ _ _ (by rw[W2];exact hpl),M1 rfl]
theorem uJ(x:St)(e:Ev)(k1:e.kind=8)(hF:∀h,Sat (CT G) 53 [x.av,e.av] h (fun r h'=>r=.bool true∧h'=h))(i:Nat)(f:It)(hf:x.it[i]? =some f)(hp:posF (·.id) x.it e.a=(i:Int))(hl:x.it.length≤100000)(h:Heap):
  Sat (CT G) 26 [x.av,e.av] h (fun r h'=>r=.tup [({x with it:=x.it.set i {f with read:=e.n==1}}:St).av,.bool true]∧h'=h):=by
 have hel:(x.it.map It.av).length=x.it.length:=L8 ..;have hil:i<x.it.length:=(f9.1 hf).1;simp only[zd0,k1]at hF;have F:=k1;refine sb [.cell 4 40,.tmp 5] Tryz.func26 ?_;intro Q hQ;refine wk F ?_;refine kq F (hF _) ?_;refine aL (n0:=h.length+3) (.ez _ _ _ _) (by simp) ?_;intro v1 h1 L1 f1 g1;rw[P3]at L1;rcases L1 with⟨hnil,_⟩| ⟨p,w,rfl,hg,hpp⟩
 ·rw[za6]at hnil;rw[hnil]at hil;simp at hil
 rw[hel];obtain⟨r1,r2,r3⟩:=f1.r3;simp only[M5,M8,O7]at g1;have hpl:=aT hg;have hn1:h.length<h1.length:=by omega
 have hz:h.length+2<h1.length:=by omega
 have hne:h.length≠p:=by omega
 have hne2:h.length+2≠p:=by omega
 have hgs:∀b,getRow (h1.set h.length b) p w=some (69,9,x.it.map It.av):=fun b=>by rw[bh _ _ hne];exact hg
 have hH:=fun b=>gM G x e.a hl (hgs b)
 simp only[hp]at hH;have F:=F8 F r1 r2 r3 hg hf hil @ax;try refine sq F ?_
 refine wk F ?_;refine kq F (hH _) ?_;refine ye hQ F ?_;have hrw:(x.it.map It.av).set i (It.av {f with read:=e.n==1})=(x.it.set i {f with read:=e.n==1}).map It.av:=by rw[zc3]
 simp only[It.av_eq]at hrw;rw[hrw];have fr0:FrN h.length h h1:=Z9 (Y0 _ (M2 _) (X4 _ _)) (f1.less (by omega));refine gg (Z0 _ (by omega) (Z0 _ (by omega) (Z0 _ (M2 _) fr0))) (by simp;omega) (FrzL.tup (.cons (bD (x:= {x with it:=x.it.set i {f with read:=e.n==1}}) (aB (zd3 _) _) (aB (zd5 _) _) ?_ (aB (zd4 _) _)) (.cons (.clo _ (.bool _)) .nil))) ⟨rfl,rfl⟩;refine za1 (q:=p) (v:=w) (e:=69) (by omega) ?_ (by simp) (c9 (zd2 _) _) (eK It.sto _);rw[bh _ _ hne2,bQ _ _ _ _ _ (by rw[W2];exact hpl),M1 rfl]
theorem uK(x:St)(e:Ev)(k1:e.kind=9)(hF:∀h,Sat (CT G) 53 [x.av,e.av] h (fun r h'=>r=.bool true∧h'=h))(i:Nat)(f:It)(hf:x.it[i]? =some f)(hp:posF (·.id) x.it e.a=(i:Int))(hl:x.it.length≤100000)(h:Heap):
  Sat (CT G) 26 [x.av,e.av] h (fun r h'=>r=.tup [({x with it:=x.it.set i {f with star:=e.n==1}}:St).av,.bool true]∧h'=h):=by
 have hel:(x.it.map It.av).length=x.it.length:=L8 ..;have hil:i<x.it.length:=(f9.1 hf).1;simp only[zd0,k1]at hF;have F:=k1;refine sb [.cell 4 40,.tmp 5] Tryz.func26 ?_;intro Q hQ;refine wk F ?_;refine kq F (hF _) ?_;refine aL (n0:=h.length+3) (.ez _ _ _ _) (by simp) ?_;intro v1 h1 L1 f1 g1;rw[P3]at L1;rcases L1 with⟨hnil,_⟩| ⟨p,w,rfl,hg,hpp⟩
 ·rw[za6]at hnil;rw[hnil]at hil;simp at hil
 rw[hel];obtain⟨r1,r2,r3⟩:=f1.r3;simp only[M5,M8,O7]at g1;have hpl:=aT hg;have hn1:h.length<h1.length:=by omega
 have hz:h.length+2<h1.length:=by omega
 have hne:h.length≠p:=by omega
 have hne2:h.length+2≠p:=by omega
 have hgs:∀b,getRow (h1.set h.length b) p w=some (69,9,x.it.map It.av):=fun b=>by rw[bh _ _ hne];exact hg
 have hH:=fun b=>gM G x e.a hl (hgs b)
 simp only[hp]at hH;have F:=F8 F r1 r2 r3 hg hf hil @ax;try refine sq F ?_
 refine wk F ?_;refine kq F (hH _) ?_;refine ye hQ F ?_;have hrw:(x.it.map It.av).set i (It.av {f with star:=e.n==1})=(x.it.set i {f with star:=e.n==1}).map It.av:=by rw[zc3]
 simp only[It.av_eq]at hrw;rw[hrw];have fr0:FrN h.length h h1:=Z9 (Y0 _ (M2 _) (X4 _ _)) (f1.less (by omega));refine gg (Z0 _ (by omega) (Z0 _ (by omega) (Z0 _ (M2 _) fr0))) (by simp;omega) (FrzL.tup (.cons (bD (x:= {x with it:=x.it.set i {f with star:=e.n==1}}) (aB (zd3 _) _) (aB (zd5 _) _) ?_ (aB (zd4 _) _)) (.cons (.clo _ (.bool _)) .nil))) ⟨rfl,rfl⟩;refine za1 (q:=p) (v:=w) (e:=69) (by omega) ?_ (by simp) (c9 (zd2 _) _) (eK It.sto _);rw[bh _ _ hne2,bQ _ _ _ _ _ (by rw[W2];exact hpl),M1 rfl]
theorem si(x:St)(e:Ev)(k1:e.kind=10)(hF:∀h,Sat (CT G) 53 [x.av,e.av] h (fun r h'=>r=.bool true∧h'=h))(i:Nat)(f:It)(hf:x.it[i]? =some f)(hp:posF (·.id) x.it e.a=(i:Int))(hl:x.it.length≤100000)(ht:f.tags.length≤100000)(h:Heap):
  Sat (CT G) 26 [x.av,e.av] h (fun r h'=>r=.tup [({x with it:=x.it.set i {f with tags:=tgR e.s f.tags (!(e.n==1))}}:St).av,.bool true]∧h'=h):=by
 have hel:(x.it.map It.av).length=x.it.length:=L8 ..;have hil:i<x.it.length:=(f9.1 hf).1;simp only[zd0,k1]at hF;have F:=k1;refine sb [.cell 4 40,.tmp 5] Tryz.func26 ?_;intro Q hQ;refine wk F ?_;refine kq F (hF _) ?_;refine aL (n0:=h.length+3) (.ez _ _ _ _) (by simp) ?_;intro v1 h1 L1 f1 g1;rw[P3]at L1;rcases L1 with⟨hnil,_⟩| ⟨p,w,rfl,hg,hpp⟩
 ·rw[za6]at hnil;rw[hnil]at hil;simp at hil
 rw[hel];obtain⟨r1,r2,r3⟩:=f1.r3;simp only[M5,M8,O7]at g1;have hpl:=aT hg;have hn1:h.length<h1.length:=by omega
 have hz:h.length+2<h1.length:=by omega
 have hne:h.length≠p:=by omega
 have hne2:h.length+2≠p:=by omega
 have hgs:∀b,getRow (h1.set h.length b) p w=some (69,9,x.it.map It.av):=fun b=>by rw[bh _ _ hne];exact hg
 have hH:=fun b=>gM G x e.a hl (hgs b)
 simp only[hp]at hH;have F:=F8 F r1 r2 r3 hg hf hil @ax;try refine sq F ?_
 refine wk F ?_;refine kq F (hH _) ?_;have hw:=two (e.n==1);have hT:=uc G f.tags e.s (e.n==1) ht;refine au (hT _) ?_;try refine sq F ?_
 refine wk F ?_;refine ye hQ F ?_;have hrw:(x.it.map It.av).set i (It.av {f with tags:=tgR e.s f.tags (!(e.n==1))})=(x.it.set i {f with tags:=tgR e.s f.tags (!(e.n==1))}).map It.av:=by rw[zc3]
 simp only[It.av_eq]at hrw;rw[hrw];have fr0:FrN h.length h h1:=Z9 (Y0 _ (M2 _) (X4 _ _)) (f1.less (by omega));refine gg (Z0 _ (by omega) (Z0 _ (by omega) (Z0 _ (M2 _) fr0))) (by simp;omega) (FrzL.tup (.cons (bD (x:= {x with it:=x.it.set i {f with tags:=tgR e.s f.tags (!(e.n==1))}}) (aB (zd3 _) _) (aB (zd5 _) _) ?_ (aB (zd4 _) _)) (.cons (.clo _ (.bool _)) .nil))) ⟨rfl,rfl⟩;refine za1 (q:=p) (v:=w) (e:=69) (by omega) ?_ (by simp) (c9 (zd2 _) _) (eK It.sto _);rw[bh _ _ hne2,bQ _ _ _ _ _ (by rw[W2];exact hpl),M1 rfl]
end Go.Av
