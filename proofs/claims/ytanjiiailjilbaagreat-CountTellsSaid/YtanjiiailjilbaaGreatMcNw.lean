import Derived.Test.YtanjiiailjilbaaGreatMcNr
set_option linter.unusedSimpArgs false
set_option linter.unusedVariables false
set_option linter.unusedSectionVars false
set_option linter.unnecessarySimpa false
set_option maxRecDepth 100000
set_option maxHeartbeats 4000000
namespace Go.Av
open Go Go.Proofs Go.RowKit
attribute [local irreducible] WP WPl WPix Sat
theorem we{c:Prop}{_:Decidable c}(h:¬c){α}{t e:α}:ite c t e=e:=if_neg h
theorem Za{c:Prop}{_:Decidable c}(h:c){α}{t e:α}:ite c t e=t:=if_pos h
theorem Zb(a b:Bool):((a&&b)=true)=(a=true∧b=true):=Bool.and_eq_true a b
theorem Zc{α}{l:List α}{i:Nat}{a:α}(h:l[i]?=some a):∃h:i<l.length,l[i]=a:=List.getElem?_eq_some_iff.1 h
theorem Zd{α}{x:Option α}(h:x.isSome=true):∃a,x=some a:=Option.isSome_iff_exists.1 h
theorem eG{h H:Heap}{R:AVal→Heap→Prop}{r0 r:AVal}(f:FrN h.length h H)(g:h.length≤H.length)(hz:Frz H h.length r0 r)(hR:R r h):Fin h H R r0:=by
 obtain⟨j,hj⟩:=f.behind g
 rw[hj]at hz ⊢
 exact Fin.frz hz hR
variable (G:Nat→Option (List AVal))
theorem jH(x:St)(id:Int)(hl:x.fe.length≤100000){h:Heap}{p w:Nat}(hg:getRow h p w=some (51,4,x.fe.map Fe.av)):Sat (CT G) 82 [.agg [.int .i64 x.clock,.sl 3 (x.fo.map Fo.av),.hs p w 0 x.fe.length true,.sl 9 (x.it.map It.av),.sl 3 (x.se.map Se.av),.int .i64 x.t1,.int .i64 x.t2,.int .i64 x.t3,.int .i64 x.t4],.int .i64 id] h (fun r h'=>r=.int .i64 (posF (·.id) x.fe id)∧h'=h):=by
 have hel:(x.fe.map Fe.av).length=x.fe.length:=List.length_map ..
 have hpl:=bn hg
 have hgj:∀j,getRow (h++j) p w=some (51,4,x.fe.map Fe.av):=fun j=>by rw[bi _ hpl];exact hg
 have F:=F3 hel hg hgj
 refine sb [.tmp 4] (fn:=Tryz.f82) Tryz.func82 ?_
 intro Q hQ
 refine wk F ?_
 refine lm (fun nL tL hL=>∃(k:Nat),x.fe.length-k=nL∧h++[.row 34 9 0 [.agg [.int .i64 x.clock,.sl 3 (x.fo.map Fo.av),.hs p w 0 x.fe.length true,.sl 9 (x.it.map It.av),.sl 3 (x.se.map Se.av),.int .i64 x.t1,.int .i64 x.t2,.int .i64 x.t3,.int .i64 x.t4]]]=hL∧tL 1=.int .i64 id∧tL 2=.hp h.length 0 0 0∧tL 5=.int .i64 k∧k≤x.fe.length∧(∀f∈x.fe.take k,f.id≠id)) ((fun(k:Nat)=>(x.fe.length-k:Nat)) (0)) ?_ ?_
 ·refine Wkn.refl ⟨0,rfl,aB,?_,?_,?_,by omega,by simp⟩
  all_goals first|exact zq F|rfl|omega|trivial|skip
 rintro _ s2 h' ⟨k,rfl,rfl,e1,e2,e5,hk,hp⟩ K2 hK2
 simp only[ai,ao,Nat.reduceEqDiff, ↓reduceIte]at e1 e2 e5
 have F:=F4 F e1 e2 e5
 refine wk F ?_
 refine cq F (fun c1=>?_) (fun c1=>?_)<;>(try exact c1.elim)<;>(refine wk F ?_)
 ·have c2:k<x.fe.length:=by omega
  obtain⟨f,hf,hfm⟩:=ac c2
  have F:=F3 F c2 hf
  try refine sq F ?_
  refine wk F ?_
  refine cq F (fun c3=>?_) (fun c3=>?_)<;>(try exact c3.elim)<;>(refine wk F ?_)
  ·refine ee hQ F ?_
   exact Fin.plain (.int _ _) ⟨by rw[cS hf (by first|exact c3|exact c3.symm) hp],rfl⟩
  ·have hp1:∀g∈x.fe.take (k+1),g.id≠id:=by
    rw[List.take_add_one,hf]
    intro g hg
    simp at hg
    rcases hg with hg|rfl
    ·exact hp g hg
    ·exact c3
   refine hK2 _ _ _ (Wkn.refl ⟨k+1,rfl,aB,?_,?_,?_,by omega,hp1⟩) (by omega)
   all_goals first|exact zq F|rfl|omega|trivial|skip
 ·rw[List.take_of_length_le (by omega)]at hp
  refine ee hQ F ?_
  exact Fin.plain (.int _ _) ⟨by rw[cm hp],rfl⟩
theorem gB(x:St)(id:Int)(hl:x.it.length≤100000){h:Heap}{p w:Nat}(hg:getRow h p w=some (82,9,x.it.map It.av)):Sat (CT G) 72 [.agg [.int .i64 x.clock,.sl 3 (x.fo.map Fo.av),.sl 4 (x.fe.map Fe.av),.hs p w 0 x.it.length true,.sl 3 (x.se.map Se.av),.int .i64 x.t1,.int .i64 x.t2,.int .i64 x.t3,.int .i64 x.t4],.int .i64 id] h (fun r h'=>r=.int .i64 (posF (·.id) x.it id)∧h'=h):=by
 have hel:(x.it.map It.av).length=x.it.length:=List.length_map ..
 have hpl:=bn hg
 have hgj:∀j,getRow (h++j) p w=some (82,9,x.it.map It.av):=fun j=>by rw[bi _ hpl];exact hg
 have F:=F3 hel hg hgj
 refine sb [.tmp 4] (fn:=Tryz.f72) Tryz.func72 ?_
 intro Q hQ
 refine wk F ?_
 refine lm (fun nL tL hL=>∃(k:Nat),x.it.length-k=nL∧h++[.row 34 9 0 [.agg [.int .i64 x.clock,.sl 3 (x.fo.map Fo.av),.sl 4 (x.fe.map Fe.av),.hs p w 0 x.it.length true,.sl 3 (x.se.map Se.av),.int .i64 x.t1,.int .i64 x.t2,.int .i64 x.t3,.int .i64 x.t4]]]=hL∧tL 1=.int .i64 id∧tL 2=.hp h.length 0 0 0∧tL 5=.int .i64 k∧k≤x.it.length∧(∀f∈x.it.take k,f.id≠id)) ((fun(k:Nat)=>(x.it.length-k:Nat)) (0)) ?_ ?_
 ·refine Wkn.refl ⟨0,rfl,aB,?_,?_,?_,by omega,by simp⟩
  all_goals first|exact zq F|rfl|omega|trivial|skip
 rintro _ s2 h' ⟨k,rfl,rfl,e1,e2,e5,hk,hp⟩ K2 hK2
 simp only[ai,ao,Nat.reduceEqDiff, ↓reduceIte]at e1 e2 e5
 have F:=F4 F e1 e2 e5
 refine wk F ?_
 refine cq F (fun c1=>?_) (fun c1=>?_)<;>(try exact c1.elim)<;>(refine wk F ?_)
 ·have c2:k<x.it.length:=by omega
  obtain⟨f,hf,hfm⟩:=ac c2
  have F:=F3 F c2 hf
  try refine sq F ?_
  refine wk F ?_
  refine cq F (fun c3=>?_) (fun c3=>?_)<;>(try exact c3.elim)<;>(refine wk F ?_)
  ·refine ee hQ F ?_
   exact Fin.plain (.int _ _) ⟨by rw[cS hf (by first|exact c3|exact c3.symm) hp],rfl⟩
  ·have hp1:∀g∈x.it.take (k+1),g.id≠id:=by
    rw[List.take_add_one,hf]
    intro g hg
    simp at hg
    rcases hg with hg|rfl
    ·exact hp g hg
    ·exact c3
   refine hK2 _ _ _ (Wkn.refl ⟨k+1,rfl,aB,?_,?_,?_,by omega,hp1⟩) (by omega)
   all_goals first|exact zq F|rfl|omega|trivial|skip
 ·rw[List.take_of_length_le (by omega)]at hp
  refine ee hQ F ?_
  exact Fin.plain (.int _ _) ⟨by rw[cm hp],rfl⟩
theorem rR(x:St)(e:Ev)(k1:e.kind=5)(hF:∀h,Sat (CT G) 79 [x.av,e.av] h (fun r h'=>r=.bool true∧h'=h))(i:Nat)(f:Fe)(hf:x.fe[i]? =some f)(hp:posF (·.id) x.fe e.a=(i:Int))(hl:x.fe.length≤100000)(h:Heap):
  Sat (CT G) 43 [x.av,e.av] h (fun r h'=>r=.tup [({x with fe:=x.fe.set i {f with title:=e.t}}:St).av,.bool true]∧h'=h):=by
 have hel:(x.fe.map Fe.av).length=x.fe.length:=List.length_map ..
 have hil:i<x.fe.length:=(Zc hf).1
 simp only[Ev.av_eq,k1]at hF
 have F:=k1
 refine sb [.cell 4 34,.tmp 5] (fn:=Tryz.f43) Tryz.func43 ?_
 intro Q hQ
 refine wk F ?_
 refine kq F (hF _) ?_
 refine aL (n0:=h.length+3) (.ez _ _ _ _) (by simp) ?_
 intro v1 h1 L1 f1 g1
 rw[List.nil_append]at L1
 rcases L1 with⟨hnil,_⟩| ⟨p,w,rfl,hg,hpp⟩
 ·rw[List.map_eq_nil_iff]at hnil;rw[hnil]at hil;simp at hil
 rw[hel]
 obtain⟨r1,r2,r3⟩:=f1.r3
 simp only[List.length_append,List.length_cons,List.length_nil]at g1
 have hpl:=bn hg
 have hn1:h.length<h1.length:=by omega
 have hz:h.length+2<h1.length:=by omega
 have hne:h.length≠p:=by omega
 have hne2:h.length+2≠p:=by omega
 have hgs:∀b,getRow (h1.set h.length b) p w=some (51,4,x.fe.map Fe.av):=fun b=>by rw[bh _ _ hne];exact hg
 have hH:=fun b=>jH G x e.a hl (hgs b)
 simp only[hp]at hH
 have F:=F8 F r1 r2 r3 hg hf hil @aJ
 try refine sq F ?_
 refine wk F ?_
 refine kq F (hH _) ?_
 refine ye hQ F ?_
 have hrw:(x.fe.map Fe.av).set i (Fe.av {f with title:=e.t})=(x.fe.set i {f with title:=e.t}).map Fe.av:=by rw[List.map_set]
 simp only[Fe.av_eq]at hrw
 rw[hrw]
 have fr0:FrN h.length h h1:=FrN.trans (FrN.app _ (Nat.le_refl _) (FrN.refl _ _)) (f1.less (by omega))
 refine eG (FrN.set _ (by omega) (FrN.set _ (by omega) (FrN.set _ (Nat.le_refl _) fr0))) (by simp;omega) (FrzL.tup (.cons (bx (x:= {x with fe:=x.fe.set i {f with title:=e.t}}) (ar (Fo.clo _) _) ?_ (ar (It.clo _) _) (ar (Se.clo _) _)) (.cons (.clo _ (.bool _)) .nil))) ⟨rfl,rfl⟩
 refine Frz.data (q:=p) (v:=w) (e:=51) (by omega) ?_ (by simp) (cf (Fe.clo _) _) (eF Fe.sto _)
 rw[bh _ _ hne2,bW _ _ _ _ _ (by rw[List.length_set];exact hpl),Za rfl]
theorem rS(x:St)(e:Ev)(k1:e.kind=6)(hF:∀h,Sat (CT G) 79 [x.av,e.av] h (fun r h'=>r=.bool true∧h'=h))(i:Nat)(f:Fe)(hf:x.fe[i]? =some f)(hp:posF (·.id) x.fe e.a=(i:Int))(hl:x.fe.length≤100000)(h:Heap):
  Sat (CT G) 43 [x.av,e.av] h (fun r h'=>r=.tup [({x with fe:=x.fe.set i {f with inn:=e.b}}:St).av,.bool true]∧h'=h):=by
 have hel:(x.fe.map Fe.av).length=x.fe.length:=List.length_map ..
 have hil:i<x.fe.length:=(Zc hf).1
 simp only[Ev.av_eq,k1]at hF
 have F:=k1
 refine sb [.cell 4 34,.tmp 5] (fn:=Tryz.f43) Tryz.func43 ?_
 intro Q hQ
 refine wk F ?_
 refine kq F (hF _) ?_
 refine aL (n0:=h.length+3) (.ez _ _ _ _) (by simp) ?_
 intro v1 h1 L1 f1 g1
 rw[List.nil_append]at L1
 rcases L1 with⟨hnil,_⟩| ⟨p,w,rfl,hg,hpp⟩
 ·rw[List.map_eq_nil_iff]at hnil;rw[hnil]at hil;simp at hil
 rw[hel]
 obtain⟨r1,r2,r3⟩:=f1.r3
 simp only[List.length_append,List.length_cons,List.length_nil]at g1
 have hpl:=bn hg
 have hn1:h.length<h1.length:=by omega
 have hz:h.length+2<h1.length:=by omega
 have hne:h.length≠p:=by omega
 have hne2:h.length+2≠p:=by omega
 have hgs:∀b,getRow (h1.set h.length b) p w=some (51,4,x.fe.map Fe.av):=fun b=>by rw[bh _ _ hne];exact hg
 have hH:=fun b=>jH G x e.a hl (hgs b)
 simp only[hp]at hH
 have F:=F8 F r1 r2 r3 hg hf hil @aJ
 try refine sq F ?_
 refine wk F ?_
 refine kq F (hH _) ?_
 refine ye hQ F ?_
 have hrw:(x.fe.map Fe.av).set i (Fe.av {f with inn:=e.b})=(x.fe.set i {f with inn:=e.b}).map Fe.av:=by rw[List.map_set]
 simp only[Fe.av_eq]at hrw
 rw[hrw]
 have fr0:FrN h.length h h1:=FrN.trans (FrN.app _ (Nat.le_refl _) (FrN.refl _ _)) (f1.less (by omega))
 refine eG (FrN.set _ (by omega) (FrN.set _ (by omega) (FrN.set _ (Nat.le_refl _) fr0))) (by simp;omega) (FrzL.tup (.cons (bx (x:= {x with fe:=x.fe.set i {f with inn:=e.b}}) (ar (Fo.clo _) _) ?_ (ar (It.clo _) _) (ar (Se.clo _) _)) (.cons (.clo _ (.bool _)) .nil))) ⟨rfl,rfl⟩
 refine Frz.data (q:=p) (v:=w) (e:=51) (by omega) ?_ (by simp) (cf (Fe.clo _) _) (eF Fe.sto _)
 rw[bh _ _ hne2,bW _ _ _ _ _ (by rw[List.length_set];exact hpl),Za rfl]
theorem rU(x:St)(e:Ev)(k1:e.kind=8)(hF:∀h,Sat (CT G) 79 [x.av,e.av] h (fun r h'=>r=.bool true∧h'=h))(i:Nat)(f:It)(hf:x.it[i]? =some f)(hp:posF (·.id) x.it e.a=(i:Int))(hl:x.it.length≤100000)(h:Heap):
  Sat (CT G) 43 [x.av,e.av] h (fun r h'=>r=.tup [({x with it:=x.it.set i {f with read:=e.n==1}}:St).av,.bool true]∧h'=h):=by
 have hel:(x.it.map It.av).length=x.it.length:=List.length_map ..
 have hil:i<x.it.length:=(Zc hf).1
 simp only[Ev.av_eq,k1]at hF
 have F:=k1
 refine sb [.cell 4 34,.tmp 5] (fn:=Tryz.f43) Tryz.func43 ?_
 intro Q hQ
 refine wk F ?_
 refine kq F (hF _) ?_
 refine aL (n0:=h.length+3) (.ez _ _ _ _) (by simp) ?_
 intro v1 h1 L1 f1 g1
 rw[List.nil_append]at L1
 rcases L1 with⟨hnil,_⟩| ⟨p,w,rfl,hg,hpp⟩
 ·rw[List.map_eq_nil_iff]at hnil;rw[hnil]at hil;simp at hil
 rw[hel]
 obtain⟨r1,r2,r3⟩:=f1.r3
 simp only[List.length_append,List.length_cons,List.length_nil]at g1
 have hpl:=bn hg
 have hn1:h.length<h1.length:=by omega
 have hz:h.length+2<h1.length:=by omega
 have hne:h.length≠p:=by omega
 have hne2:h.length+2≠p:=by omega
 have hgs:∀b,getRow (h1.set h.length b) p w=some (82,9,x.it.map It.av):=fun b=>by rw[bh _ _ hne];exact hg
 have hH:=fun b=>gB G x e.a hl (hgs b)
 simp only[hp]at hH
 have F:=F8 F r1 r2 r3 hg hf hil @aJ
 try refine sq F ?_
 refine wk F ?_
 refine kq F (hH _) ?_
 refine ye hQ F ?_
 have hrw:(x.it.map It.av).set i (It.av {f with read:=e.n==1})=(x.it.set i {f with read:=e.n==1}).map It.av:=by rw[List.map_set]
 simp only[It.av_eq]at hrw
 rw[hrw]
 have fr0:FrN h.length h h1:=FrN.trans (FrN.app _ (Nat.le_refl _) (FrN.refl _ _)) (f1.less (by omega))
 refine eG (FrN.set _ (by omega) (FrN.set _ (by omega) (FrN.set _ (Nat.le_refl _) fr0))) (by simp;omega) (FrzL.tup (.cons (bx (x:= {x with it:=x.it.set i {f with read:=e.n==1}}) (ar (Fo.clo _) _) (ar (Fe.clo _) _) ?_ (ar (Se.clo _) _)) (.cons (.clo _ (.bool _)) .nil))) ⟨rfl,rfl⟩
 refine Frz.data (q:=p) (v:=w) (e:=82) (by omega) ?_ (by simp) (cf (It.clo _) _) (eF It.sto _)
 rw[bh _ _ hne2,bW _ _ _ _ _ (by rw[List.length_set];exact hpl),Za rfl]
theorem rV(x:St)(e:Ev)(k1:e.kind=9)(hF:∀h,Sat (CT G) 79 [x.av,e.av] h (fun r h'=>r=.bool true∧h'=h))(i:Nat)(f:It)(hf:x.it[i]? =some f)(hp:posF (·.id) x.it e.a=(i:Int))(hl:x.it.length≤100000)(h:Heap):
  Sat (CT G) 43 [x.av,e.av] h (fun r h'=>r=.tup [({x with it:=x.it.set i {f with star:=e.n==1}}:St).av,.bool true]∧h'=h):=by
 have hel:(x.it.map It.av).length=x.it.length:=List.length_map ..
 have hil:i<x.it.length:=(Zc hf).1
 simp only[Ev.av_eq,k1]at hF
 have F:=k1
 refine sb [.cell 4 34,.tmp 5] (fn:=Tryz.f43) Tryz.func43 ?_
 intro Q hQ
 refine wk F ?_
 refine kq F (hF _) ?_
 refine aL (n0:=h.length+3) (.ez _ _ _ _) (by simp) ?_
 intro v1 h1 L1 f1 g1
 rw[List.nil_append]at L1
 rcases L1 with⟨hnil,_⟩| ⟨p,w,rfl,hg,hpp⟩
 ·rw[List.map_eq_nil_iff]at hnil;rw[hnil]at hil;simp at hil
 rw[hel]
 obtain⟨r1,r2,r3⟩:=f1.r3
 simp only[List.length_append,List.length_cons,List.length_nil]at g1
 have hpl:=bn hg
 have hn1:h.length<h1.length:=by omega
 have hz:h.length+2<h1.length:=by omega
 have hne:h.length≠p:=by omega
 have hne2:h.length+2≠p:=by omega
 have hgs:∀b,getRow (h1.set h.length b) p w=some (82,9,x.it.map It.av):=fun b=>by rw[bh _ _ hne];exact hg
 have hH:=fun b=>gB G x e.a hl (hgs b)
 simp only[hp]at hH
 have F:=F8 F r1 r2 r3 hg hf hil @aJ
 try refine sq F ?_
 refine wk F ?_
 refine kq F (hH _) ?_
 refine ye hQ F ?_
 have hrw:(x.it.map It.av).set i (It.av {f with star:=e.n==1})=(x.it.set i {f with star:=e.n==1}).map It.av:=by rw[List.map_set]
 simp only[It.av_eq]at hrw
 rw[hrw]
 have fr0:FrN h.length h h1:=FrN.trans (FrN.app _ (Nat.le_refl _) (FrN.refl _ _)) (f1.less (by omega))
 refine eG (FrN.set _ (by omega) (FrN.set _ (by omega) (FrN.set _ (Nat.le_refl _) fr0))) (by simp;omega) (FrzL.tup (.cons (bx (x:= {x with it:=x.it.set i {f with star:=e.n==1}}) (ar (Fo.clo _) _) (ar (Fe.clo _) _) ?_ (ar (Se.clo _) _)) (.cons (.clo _ (.bool _)) .nil))) ⟨rfl,rfl⟩
 refine Frz.data (q:=p) (v:=w) (e:=82) (by omega) ?_ (by simp) (cf (It.clo _) _) (eF It.sto _)
 rw[bh _ _ hne2,bW _ _ _ _ _ (by rw[List.length_set];exact hpl),Za rfl]
theorem qe(x:St)(e:Ev)(k1:e.kind=10)(hF:∀h,Sat (CT G) 79 [x.av,e.av] h (fun r h'=>r=.bool true∧h'=h))(i:Nat)(f:It)(hf:x.it[i]? =some f)(hp:posF (·.id) x.it e.a=(i:Int))(hl:x.it.length≤100000)(ht:f.tags.length≤100000)(h:Heap):
  Sat (CT G) 43 [x.av,e.av] h (fun r h'=>r=.tup [({x with it:=x.it.set i {f with tags:=tgR e.s f.tags (!(e.n==1))}}:St).av,.bool true]∧h'=h):=by
 have hel:(x.it.map It.av).length=x.it.length:=List.length_map ..
 have hil:i<x.it.length:=(Zc hf).1
 simp only[Ev.av_eq,k1]at hF
 have F:=k1
 refine sb [.cell 4 34,.tmp 5] (fn:=Tryz.f43) Tryz.func43 ?_
 intro Q hQ
 refine wk F ?_
 refine kq F (hF _) ?_
 refine aL (n0:=h.length+3) (.ez _ _ _ _) (by simp) ?_
 intro v1 h1 L1 f1 g1
 rw[List.nil_append]at L1
 rcases L1 with⟨hnil,_⟩| ⟨p,w,rfl,hg,hpp⟩
 ·rw[List.map_eq_nil_iff]at hnil;rw[hnil]at hil;simp at hil
 rw[hel]
 obtain⟨r1,r2,r3⟩:=f1.r3
 simp only[List.length_append,List.length_cons,List.length_nil]at g1
 have hpl:=bn hg
 have hn1:h.length<h1.length:=by omega
 have hz:h.length+2<h1.length:=by omega
 have hne:h.length≠p:=by omega
 have hne2:h.length+2≠p:=by omega
 have hgs:∀b,getRow (h1.set h.length b) p w=some (82,9,x.it.map It.av):=fun b=>by rw[bh _ _ hne];exact hg
 have hH:=fun b=>gB G x e.a hl (hgs b)
 simp only[hp]at hH
 have F:=F8 F r1 r2 r3 hg hf hil @aJ
 try refine sq F ?_
 refine wk F ?_
 refine kq F (hH _) ?_
 have hw:=two (e.n==1)
 have hT:=rO G f.tags e.s (e.n==1) ht
 refine aA (hT _) ?_
 try refine sq F ?_
 refine wk F ?_
 refine ye hQ F ?_
 have hrw:(x.it.map It.av).set i (It.av {f with tags:=tgR e.s f.tags (!(e.n==1))})=(x.it.set i {f with tags:=tgR e.s f.tags (!(e.n==1))}).map It.av:=by rw[List.map_set]
 simp only[It.av_eq]at hrw
 rw[hrw]
 have fr0:FrN h.length h h1:=FrN.trans (FrN.app _ (Nat.le_refl _) (FrN.refl _ _)) (f1.less (by omega))
 refine eG (FrN.set _ (by omega) (FrN.set _ (by omega) (FrN.set _ (Nat.le_refl _) fr0))) (by simp;omega) (FrzL.tup (.cons (bx (x:= {x with it:=x.it.set i {f with tags:=tgR e.s f.tags (!(e.n==1))}}) (ar (Fo.clo _) _) (ar (Fe.clo _) _) ?_ (ar (Se.clo _) _)) (.cons (.clo _ (.bool _)) .nil))) ⟨rfl,rfl⟩
 refine Frz.data (q:=p) (v:=w) (e:=82) (by omega) ?_ (by simp) (cf (It.clo _) _) (eF It.sto _)
 rw[bh _ _ hne2,bW _ _ _ _ _ (by rw[List.length_set];exact hpl),Za rfl]
end Go.Av
namespace Go.Av
open Go Go.Proofs Go.RowKit
theorem u6{l:List Int}(h:l.Nodup):(sortI l).Pairwise (· < ·):=by
 have h1:(sortI l).Pairwise fun a b=>decide (a≤b)=true:=List.pairwise_mergeSort (fun a b c h1 h2=>by simp at *;omega) (fun a b=>by simp;omega) l
 have h2:(sortI l).Nodup:=dI h
 refine List.Pairwise.imp₂ (R:=fun a b=>decide (a≤b)=true) (S:=fun a b=>a≠b) (fun a b hab hne=>?_) h1 h2
 simp at hab;omega
section
variable {α:Type} {z:α} {key:α→Int} {l:ML Int α} {c:Nat}
theorem eT(w:WFM l c)(hid:∀k a,lkM l k=some a→key a=k):((valsM z l).map key).Pairwise (· < ·):=by
 rw[dw w key hid];exact u6 w.keys
theorem rW{L:List α}(h:(L.map key).Pairwise (· < ·)):L.Nodup:=by
 rw[List.pairwise_map]at h
 exact h.imp fun hab he=>by rw[he]at hab;omega
theorem fj(w:WFM l c)(hid:∀k a,lkM l k=some a→key a=k){L:List α}(hs:(L.map key).Pairwise (· < ·))(hm:∀a,a∈L↔∃k,lkM l k=some a):valsM z l=L:=by
 have h0:=eT (z:=z) w hid
 have hp:(valsM z l).Perm L:=(List.perm_ext_iff_of_nodup (rW h0) (rW hs)).2 fun a=>by
  rw[hm];exact⟨aM,fun⟨k,hk⟩=>bL hk⟩
 rw[List.pairwise_map]at h0 hs
 exact List.Perm.eq_of_pairwise (fun a b _ _ h1 h2=>by omega) h0 hs hp
theorem rX(k:Int)(a:α)(b:α):(∃j,lkM (upM l c k a) j=some b)↔b=a∨∃j,j≠k∧lkM l j=some b:=by
 constructor
 ·rintro⟨j,hj⟩
  rcases aO hj with⟨_,rfl⟩| ⟨h1,h2⟩
  ·exact .inl rfl
  ·exact .inr ⟨j,h1,h2⟩
 ·rintro(rfl| ⟨j,h1,h2⟩)
  ·exact⟨k,by rw[ap,Za rfl]⟩
  ·exact⟨j,by rw[ap,we h1];exact h2⟩
theorem rY(L:List α)(id:Int):∀b∈L.take (insI key L id),key b<id:=by
 induction L with
 |nil=>intro b hb;simp at hb
 |cons a L ih=>
  unfold insI at ih ⊢
  rw[List.takeWhile_cons]
  split
  ·rename_i h
   intro b hb
   simp only[List.length_cons,List.take_succ_cons,List.mem_cons]at hb
   rcases hb with rfl|hb
   ·simpa using h
   ·exact ih b hb
  ·intro b hb;simp at hb
theorem rZ{L:List α}(hs:(L.map key).Pairwise (· < ·))(id:Int):∀b∈L.drop (insI key L id),id≤key b:=by
 induction L with
 |nil=>intro b hb;simp at hb
 |cons a L ih=>
  rw[List.map_cons,List.pairwise_cons]at hs
  have ih:=ih hs.2
  unfold insI at ih ⊢
  rw[List.takeWhile_cons]
  split
  ·intro b hb
   simp only[List.length_cons,List.drop_succ_cons]at hb
   exact ih b hb
  ·rename_i h
   intro b hb
   simp only[List.length_nil,List.drop_zero,List.mem_cons]at hb
   simp at h
   rcases hb with rfl|hb
   ·exact h
   ·have:=hs.1 (key b) (List.mem_map.2 ⟨b,hb,rfl⟩);omega
theorem gC(w:WFM l c)(hid:∀k a,lkM l k=some a→key a=k){k:Int}{a:α}(hk:lkM l k=none)(ha:key a=k):
  valsM z (upM l c k a)=(valsM z l).take (insI key (valsM z l) k)++a::(valsM z l).drop (insI key (valsM z l) k):=by
 have h0:=eT (z:=z) w hid
 have hne:∀b∈valsM z l,key b≠k:=fun b hb=>by
  obtain⟨j,hj⟩:=aM hb
  rw[hid j b hj]
  rintro rfl;rw[hk]at hj;cases hj
 refine fj (key:=key) (c:=ckM l c k) (w.up _ _) (fun j b hj=>?_) ?_ fun b=>?_
 ·rcases aO hj with⟨rfl,rfl⟩| ⟨_,h⟩
  ·exact ha
  ·exact hid _ _ h
 ·rw[List.map_append,List.map_cons,List.pairwise_append,List.pairwise_cons]
  have h1:((valsM z l).take (insI key (valsM z l) k)++(valsM z l).drop (insI key (valsM z l) k))=valsM z l:=List.take_append_drop _ _
  have h2:=h0
  rw[← h1,List.map_append,List.pairwise_append]at h2
  have hlt:∀b∈ (valsM z l).drop (insI key (valsM z l) k),k<key b:=fun b hb=>by
   have:=rZ h0 k b hb
   have:=hne b (List.mem_of_mem_drop hb)
   omega
  refine⟨h2.1,⟨fun q hq=>?_,h2.2.1⟩,fun q hq r hr=>?_⟩
  ·obtain⟨b,hb,rfl⟩:=List.mem_map.1 hq
   rw[ha];exact hlt b hb
  ·obtain⟨b,hb,rfl⟩:=List.mem_map.1 hq
   have hb2:=rY _ _ b hb
   rcases List.mem_cons.1 hr with rfl|hr
   ·rw[ha];exact hb2
   ·obtain⟨d,hd,rfl⟩:=List.mem_map.1 hr
    have:=hlt d hd
    omega
 ·rw[rX,List.mem_append,List.mem_cons]
  have hm:∀b,b∈valsM z l↔b∈ (valsM z l).take (insI key (valsM z l) k)∨b∈ (valsM z l).drop (insI key (valsM z l) k):=fun b=>by rw[← List.mem_append,List.take_append_drop]
  constructor
  ·intro h
   have:b=a∨b∈valsM z l:=by
    rcases h with h|h|h
    ·exact .inr ((hm b).2 (.inl h))
    ·exact .inl h
    ·exact .inr ((hm b).2 (.inr h))
   refine this.imp id fun h=>?_
   obtain⟨j,hj⟩:=aM h
   exact⟨j,(by rintro rfl;rw[hk]at hj;cases hj),hj⟩
  ·rintro(h| ⟨j,_,hj⟩)
   ·exact .inr (.inl h)
   ·rcases(hm b).1 (bL hj)with h|h
    ·exact .inl h
    ·exact .inr (.inr h)
theorem ox{L:List α}(hs:(L.map key).Pairwise (· < ·)){i:Nat}{b:α}(hi:L[i]? =some b)(x:α):x∈L.take i++L.drop (i+1)↔x∈L∧key x≠key b:=by
 induction L generalizing i with
 |nil=>simp at hi
 |cons a L ih=>
  rw[List.map_cons,List.pairwise_cons]at hs
  cases i with
  |zero=>
   simp at hi;subst hi
   simp only[List.take_zero,List.nil_append,Nat.zero_add,List.drop_succ_cons,List.drop_zero,List.mem_cons]
   constructor
   ·intro h;exact⟨.inr h,by have:=hs.1 (key x) (List.mem_map.2 ⟨x,h,rfl⟩);omega⟩
   ·rintro⟨h|h,hne⟩
    ·exact(hne (by rw[h])).elim
    ·exact h
  |succ i=>
   have hi':L[i]? =some b:=by simpa using hi
   have hb:=List.mem_of_getElem? hi'
   have hab:=hs.1 (key b) (List.mem_map.2 ⟨b,hb,rfl⟩)
   simp only[List.take_succ_cons,List.cons_append,List.drop_succ_cons,List.mem_cons]
   rw[ih hs.2 hi']
   constructor
   ·rintro(h| ⟨h,hne⟩)
    ·exact⟨.inl h,by rw[h];omega⟩
    ·exact⟨.inr h,hne⟩
   ·rintro⟨h|h,hne⟩
    ·exact .inl h
    ·exact .inr ⟨h,hne⟩
theorem iY(w:WFM l c)(hid:∀k a,lkM l k=some a→key a=k){k:Int}{i:Nat}{b:α}(hi:(valsM z l)[i]? =some b)(hb:key b=k):
  valsM z (dlM l k)=(valsM z l).take i++(valsM z l).drop (i+1):=by
 have h0:=eT (z:=z) w hid
 refine fj (key:=key) (c:=c) (w.dl _) (fun j b hj=>hid _ _ (da w.keys hj).2) ?_ fun x=>?_
 ·refine h0.sublist ?_
  refine List.Sublist.map key ?_
  rw[← List.eraseIdx_eq_take_drop_succ]
  exact List.eraseIdx_sublist _ _
 ·rw[ox h0 hi,hb]
  constructor
  ·rintro⟨h1,h2⟩
   obtain⟨j,hj⟩:=aM h1
   refine⟨j,?_⟩
   rw[aQ w.keys,we (by rintro rfl;exact h2 (hid _ _ hj))];exact hj
  ·rintro⟨j,hj⟩
   obtain⟨h1,h2⟩:=da w.keys hj
   exact⟨bL h2,by rw[hid _ _ h2];exact h1⟩
theorem s7{L:List α}{i:Nat}{b:α}(hi:L[i]? =some b)(a:α):L.set i a=L.take i++a::L.drop (i+1):=by
 rw[List.set_eq_take_append_cons_drop,Za (Zc hi).1]
theorem eU(w:WFM l c)(hid:∀k a,lkM l k=some a→key a=k){k:Int}{i:Nat}{a b:α}(hi:(valsM z l)[i]? =some b)(hb:key b=k)(ha:key a=k):
  valsM z (upM l c k a)=(valsM z l).set i a:=by
 have h0:=eT (z:=z) w hid
 refine fj (key:=key) (c:=ckM l c k) (w.up _ _) (fun j d hj=>?_) ?_ fun x=>?_
 ·rcases aO hj with⟨rfl,rfl⟩| ⟨_,h⟩
  ·exact ha
  ·exact hid _ _ h
 ·have:((valsM z l).set i a).map key=(valsM z l).map key:=by
   rw[List.map_set,ha, ← hb]
   apply List.ext_getElem?
   intro q
   rw[List.getElem?_set]
   split
   ·rename_i hq;subst hq
    rw[List.getElem?_map,hi];simp[(Zc hi).1]
   ·rfl
  rw[this];exact h0
 ·rw[rX,s7 hi,List.mem_append,List.mem_cons]
  have hm:=ox h0 hi x
  rw[List.mem_append,hb]at hm
  constructor
  ·intro h
   have:x=a∨(x∈valsM z l∧key x≠k):=by
    rcases h with h|h|h
    ·exact .inr (hm.1 (.inl h))
    ·exact .inl h
    ·exact .inr (hm.1 (.inr h))
   refine this.imp id fun⟨h1,h2⟩=>?_
   obtain⟨j,hj⟩:=aM h1
   exact⟨j,by rintro rfl;exact h2 (hid _ _ hj),hj⟩
  ·rintro(h| ⟨j,h1,h2⟩)
   ·exact .inr (.inl h)
   ·rcases hm.2 ⟨bL h2,by rw[hid _ _ h2];exact h1⟩with h|h
    ·exact .inl h
    ·exact .inr (.inr h)
theorem u7(w:WFM l c)(hid:∀k a,lkM l k=some a→key a=k)(p:α→Bool):valsM z (l.filter fun e=>p e.2.1)=(valsM z l).filter p:=by
 have h0:=eT (z:=z) w hid
 refine fj (key:=key) (c:=c) (w.filter _) (fun j b hj=>hid _ _ (fN w.keys hj)) (h0.sublist (List.filter_sublist.map _)) fun x=>?_
 rw[List.mem_filter]
 constructor
 ·rintro⟨h1,h2⟩
  obtain⟨j,hj⟩:=aM h1
  exact⟨j,mH w.keys hj fun n=>h2⟩
 ·rintro⟨j,hj⟩
  obtain⟨h1,n,h2,h3⟩:=ki w.keys hj
  exact⟨bL h1,h3⟩
end
end Go.Av
namespace Go.Av
open Go Go.Proofs Go.RowKit
attribute [local irreducible] WP WPl WPix Sat
section
variable {s:PS} {e:Ev}
theorem St.clo(N:Nat)(x:St):Clo N x.av:=.agg _ fun c hc=>by
 simp only[List.mem_cons,List.not_mem_nil,or_false]at hc
 rcases hc with rfl|rfl|rfl|rfl|rfl|rfl|rfl|rfl|rfl
 ·exact .int _ _
 ·exact Clo.sl _ _ (cf (Fo.clo N) _)
 ·exact Clo.sl _ _ (cf (Fe.clo N) _)
 ·exact Clo.sl _ _ (cf (It.clo N) _)
 ·exact Clo.sl _ _ (cf (Se.clo N) _)
 all_goals exact .int _ _
theorem St.clo2(N:Nat)(x:St)(b:Bool):Clo N (.tup [x.av,.bool b]):=.tup _ fun c hc=>by
 simp only[List.mem_cons,List.not_mem_nil,or_false]at hc
 rcases hc with rfl|rfl
 ·exact St.clo _ _
 ·exact .bool _
theorem wF(s:PS)(a:Int):s.raise 0 a= {s with t1:=topI s.t1 a}:=by
 unfold PS.raise topI;simp only
 congr 1
 split<;>split<;>omega
theorem wH(s:PS)(a:Int):s.raise 1 a= {s with t2:=topI s.t2 a}:=by
 unfold PS.raise topI;simp only
 congr 1
 split<;>split<;>omega
theorem wI(s:PS)(a:Int):s.raise 2 a= {s with t3:=topI s.t3 a}:=by
 unfold PS.raise topI;simp only
 congr 1
 split<;>split<;>omega
theorem wJ(s:PS)(a:Int):s.raise 3 a= {s with t4:=topI s.t4 a}:=by
 unfold PS.raise topI;simp only
 congr 1
 split<;>split<;>omega
theorem z8(hI:s.Inv)(k:e.kind=1)(hn:lkM s.fo e.a=none):(s.aft e).tell= {s.tell with fo:=s.tell.fo.take (insI (·.id) s.tell.fo e.a)++(⟨e.a,e.b,e.s⟩:Fo)::s.tell.fo.drop (insI (·.id) s.tell.fo e.a),t1:=topI s.tell.t1 e.a}:=by
 have h1:=gC (z:=Fo.z) (key:=(·.id)) hI.w1 (fun k f hk=>(hI.i1 k f hk).1) (a:=(⟨e.a,e.b,e.s⟩:Fo)) hn rfl
 unfold PS.aft PS.after
 rw[we (by omega),we (by omega),we (by omega),we (by omega),we (by omega),we (by omega),we (by omega),we (by omega),we (by omega),PS.make,Za k,aI,wF]
 change St.mk _ _ _ _ _ _ _ _ _=_
 simp only[PS.tell,PS.upFo,PS.upNm]
 rw[h1]
theorem za(hI:s.Inv)(k:e.kind=3)(hn:lkM s.fe e.a=none):(s.aft e).tell= {s.tell with fe:=s.tell.fe.take (insI (·.id) s.tell.fe e.a)++(⟨e.a,e.b,e.s,e.t⟩:Fe)::s.tell.fe.drop (insI (·.id) s.tell.fe e.a),t2:=topI s.tell.t2 e.a}:=by
 have h1:=gC (z:=Fe.z) (key:=(·.id)) hI.w2 (fun k f hk=>(hI.i2 k f hk).1) (a:=(⟨e.a,e.b,e.s,e.t⟩:Fe)) hn rfl
 unfold PS.aft PS.after
 rw[we (by omega),we (by omega),we (by omega),we (by omega),we (by omega),we (by omega),we (by omega),we (by omega),we (by omega),PS.make,we (by omega),Za k,aI,wH]
 change St.mk _ _ _ _ _ _ _ _ _=_
 simp only[PS.tell,PS.upFe,PS.upPl]
 rw[h1]
theorem zb(hI:s.Inv)(k:e.kind=7)(hn:lkM s.it e.a=none):(s.aft e).tell= {s.tell with it:=s.tell.it.take (insI (·.id) s.tell.it e.a)++(⟨e.a,e.b,e.n,e.s,e.t,e.u,false,false,[]⟩:It)::s.tell.it.drop (insI (·.id) s.tell.it e.a),t3:=topI s.tell.t3 e.a}:=by
 have h1:=gC (z:=It.z) (key:=(·.id)) hI.w3 (fun k f hk=>(hI.i3 k f hk).1) (a:=(⟨e.a,e.b,e.n,e.s,e.t,e.u,false,false,[]⟩:It)) hn rfl
 unfold PS.aft PS.after
 rw[we (by omega),we (by omega),we (by omega),we (by omega),we (by omega),we (by omega),we (by omega),we (by omega),we (by omega),PS.make,we (by omega),we (by omega),Za k,wI]
 change St.mk _ _ _ _ _ _ _ _ _=_
 simp only[PS.tell,PS.upIt,PS.upGu]
 rw[h1]
theorem wK(hI:s.Inv)(k:e.kind=11)(hn:lkM s.se e.a=none):(s.aft e).tell= {s.tell with se:=s.tell.se.take (insI (·.id) s.tell.se e.a)++(⟨e.a,e.s,e.t⟩:Se)::s.tell.se.drop (insI (·.id) s.tell.se e.a),t4:=topI s.tell.t4 e.a}:=by
 have h1:=gC (z:=Se.z) (key:=(·.id)) hI.w4 (fun k f hk=>(hI.i4 k f hk).1) (a:=(⟨e.a,e.s,e.t⟩:Se)) hn rfl
 unfold PS.aft PS.after
 rw[we (by omega),we (by omega),we (by omega),we (by omega),we (by omega),we (by omega),we (by omega),we (by omega),we (by omega),PS.make,we (by omega),we (by omega),we (by omega),Za k,wJ]
 change St.mk _ _ _ _ _ _ _ _ _=_
 simp only[PS.tell,PS.upSe,PS.upSe]
 rw[h1]
theorem zc(hI:s.Inv)(k:e.kind=2){f:Fo}(hf:lkM s.fo e.a=some f){i:Nat}(hi:s.tell.fo[i]? =some f):(s.aft e).tell= {s.tell with fo:=s.tell.fo.take i++s.tell.fo.drop (i+1)}:=by
 have h1:=iY (z:=Fo.z) (key:=(·.id)) hI.w1 (fun k f hk=>(hI.i1 k f hk).1) hi (hI.i1 _ _ hf).1
 unfold PS.aft PS.after
 rw[Za k,aI]
 change St.mk _ _ _ _ _ _ _ _ _=_
 simp only[PS.tell,PS.dlFo,PS.dlNm]at h1 ⊢
 rw[h1]
theorem wL(hI:s.Inv)(k:e.kind=12){f:Se}(hf:lkM s.se e.a=some f){i:Nat}(hi:s.tell.se[i]? =some f):(s.aft e).tell= {s.tell with se:=s.tell.se.take i++s.tell.se.drop (i+1)}:=by
 have h1:=iY (z:=Se.z) (key:=(·.id)) hI.w4 (fun k f hk=>(hI.i4 k f hk).1) hi (hI.i4 _ _ hf).1
 unfold PS.aft PS.after
 rw[we (by omega),we (by omega),we (by omega),we (by omega),we (by omega),we (by omega),we (by omega),Za k]
 change St.mk _ _ _ _ _ _ _ _ _=_
 simp only[PS.tell,PS.dlSe]at h1 ⊢
 rw[h1]
theorem zd(hI:s.Inv)(k:e.kind=4){f:Fe}(hf:lkM s.fe e.a=some f){i:Nat}(hi:s.tell.fe[i]? =some f):(s.aft e).tell= {s.tell with fe:=s.tell.fe.take i++s.tell.fe.drop (i+1),it:=s.tell.it.filter fun t=>decide (t.feed≠e.a)}:=by
 have hid:=(hI.i2 _ _ hf).1
 have h1:=iY (z:=Fe.z) (key:=(·.id)) hI.w2 (fun k f hk=>(hI.i2 k f hk).1) hi hid
 have h2:=u7 (z:=It.z) (key:=(·.id)) hI.w3 (fun k f hk=>(hI.i3 k f hk).1) fun t=>decide (t.feed≠e.a)
 have h3:itF s.it f.id=s.it.filter fun x=>decide (x.2.1.feed≠e.a):=by
  unfold itF;rw[hid]
  refine List.filter_congr fun x _=>?_
  simp
 unfold PS.aft PS.after
 rw[we (by omega),Za k,hf,Option.getD_some,PS.unfeed,aI]
 change St.mk _ _ _ _ _ _ _ _ _=_
 simp only[PS.tell,PS.dlFe,PS.dlPl,hid]at h1 h2 h3 ⊢
 rw[h1,h3,h2]
theorem ze(hI:s.Inv)(k:e.kind=5){f:Fe}(hf:lkM s.fe e.a=some f){i:Nat}(hi:s.tell.fe[i]? =some f):(s.aft e).tell= {s.tell with fe:=s.tell.fe.set i {f with title:=e.t}}:=by
 have hid:=(hI.i2 _ _ hf).1
 have h1:=eU (z:=Fe.z) (key:=(·.id)) hI.w2 (fun k f hk=>(hI.i2 k f hk).1) (a:= {f with title:=e.t}) hi hid hid
 unfold PS.aft PS.after
 rw[we (by omega),we (by omega),Za k,hf,Option.getD_some]
 change St.mk _ _ _ _ _ _ _ _ _=_
 simp only[PS.tell,PS.upFe]at h1 ⊢
 rw[h1]
theorem zf(hI:s.Inv)(k:e.kind=6){f:Fe}(hf:lkM s.fe e.a=some f){i:Nat}(hi:s.tell.fe[i]? =some f):(s.aft e).tell= {s.tell with fe:=s.tell.fe.set i {f with inn:=e.b}}:=by
 have hid:=(hI.i2 _ _ hf).1
 have h1:=eU (z:=Fe.z) (key:=(·.id)) hI.w2 (fun k f hk=>(hI.i2 k f hk).1) (a:= {f with inn:=e.b}) hi hid hid
 unfold PS.aft PS.after
 rw[we (by omega),we (by omega),we (by omega),Za k,hf,Option.getD_some,aI,aI]
 change St.mk _ _ _ _ _ _ _ _ _=_
 simp only[PS.tell,PS.upFe]at h1 ⊢
 rw[h1]
theorem zg(hI:s.Inv)(k:e.kind=8){f:It}(hf:lkM s.it e.a=some f){i:Nat}(hi:s.tell.it[i]? =some f):(s.aft e).tell= {s.tell with it:=s.tell.it.set i {f with read:=e.n==1}}:=by
 have hid:=(hI.i3 _ _ hf).1
 have h1:=eU (z:=It.z) (key:=(·.id)) hI.w3 (fun k f hk=>(hI.i3 k f hk).1) (a:= {f with read:=e.n==1}) hi hid hid
 unfold PS.aft PS.after
 rw[we (by omega),we (by omega),we (by omega),we (by omega),Za k,hf,Option.getD_some]
 change St.mk _ _ _ _ _ _ _ _ _=_
 simp only[PS.tell,PS.upIt]at h1 ⊢
 rw[h1]
theorem zh(hI:s.Inv)(k:e.kind=9){f:It}(hf:lkM s.it e.a=some f){i:Nat}(hi:s.tell.it[i]? =some f):(s.aft e).tell= {s.tell with it:=s.tell.it.set i {f with star:=e.n==1}}:=by
 have hid:=(hI.i3 _ _ hf).1
 have h1:=eU (z:=It.z) (key:=(·.id)) hI.w3 (fun k f hk=>(hI.i3 k f hk).1) (a:= {f with star:=e.n==1}) hi hid hid
 unfold PS.aft PS.after
 rw[we (by omega),we (by omega),we (by omega),we (by omega),we (by omega),Za k,hf,Option.getD_some]
 change St.mk _ _ _ _ _ _ _ _ _=_
 simp only[PS.tell,PS.upIt]at h1 ⊢
 rw[h1]
theorem wM(hI:s.Inv)(k:e.kind=10){f:It}(hf:lkM s.it e.a=some f){i:Nat}(hi:s.tell.it[i]? =some f):(s.aft e).tell= {s.tell with it:=s.tell.it.set i {f with tags:=tgF f.tags e.s e.n}}:=by
 have hid:=(hI.i3 _ _ hf).1
 have h1:=eU (z:=It.z) (key:=(·.id)) hI.w3 (fun k f hk=>(hI.i3 k f hk).1) (a:= {f with tags:=tgF f.tags e.s e.n}) hi hid hid
 unfold PS.aft PS.after
 rw[we (by omega),we (by omega),we (by omega),we (by omega),we (by omega),we (by omega),Za k,hf,Option.getD_some]
 change St.mk _ _ _ _ _ _ _ _ _=_
 simp only[PS.tell,PS.upIt]at h1 ⊢
 rw[h1]
theorem wN(k:e.kind=13):(s.aft e).tell= {s.tell with clock:=e.n}:=by
 unfold PS.aft PS.after
 rw[we (by omega),we (by omega),we (by omega),we (by omega),we (by omega),we (by omega),we (by omega),we (by omega),Za k];rfl
end
theorem Bi:∀(i:Nat) (r s:AVal),[AVal.agg [.int .i64 0,.nil (.slice none 0 0),.nil (.slice none 0 0),.nil (.slice none 0 0),.nil (.slice none 0 0),.int .i64 0,.int .i64 0,.int .i64 0,.int .i64 0]][i]? =some r→[PS.z.tell.av][i]? =some s→WkR r s:=fun i r s hr hs=>by
 match i with
 |0=>
  simp at hr hs
  subst hr;subst hs
  refine⟨rfl,fun j c d hc hd=>?_⟩
  match j with
  |0|5|6|7|8=>simp[PS.tell,PS.z,St.av,AVal.cells]at hc hd;subst hc;subst hd;exact⟨Wk.refl _,id⟩
  |1|2|3|4=>
   simp[PS.tell,PS.z,St.av,AVal.cells,valsM,sortI]at hc hd
   subst hc;subst hd
   exact⟨fun w S μ x hx=>by cases hx;exact .sl0 _ _ _,fun _=>rfl⟩
  |j+9=>simp[AVal.cells]at hc
 |i+1=>simp at hr
variable (G:Nat→Option (List AVal))
theorem zi(hc:GClo (CT G)){s:PS}(hI:s.Inv)(hN:s.Nam)(e:Ev)(k1:e.kind=1)(hok:s.ok L0 e=true)(h:Heap):Sat (CT G) 43 [s.tell.av,e.av] h (fun r h'=>r=.tup [(s.aft e).tell.av,.bool true]∧h'=h):=by
 have hF:=aX G hc hI hN e
 rw[hok]at hF
 have hl1:s.tell.fo.length≤100000:=by have:=hI.up.l1;omega
 have hl2:s.tell.fe.length≤100000:=by have:=hI.up.l2;omega
 have hl3:s.tell.it.length≤100000:=by have:=hI.up.l3;omega
 have hl4:s.tell.se.length≤100000:=by have:=aF (z:=Se.z) s.se;have:=hI.l4;show(valsM Se.z s.se).length≤_;omega
 have hno:lkM s.fo e.a=none:=by
  unfold PS.ok PS.fits at hok
  rw[Zb]at hok
  have:=hok.2
  rw[Za k1]at this;simp only[Zb,Bool.not_eq_true']at this;exact bR this.1.1.1.1
 have hM:=qb G s.tell e k1 hl1
 rw[← z8 hI k1 hno]at hM
 simp only[Ev.av_eq,k1]at hF hM
 have F:=k1
 refine sb [.cell 4 34,.tmp 5] (fn:=Tryz.f43) Tryz.func43 ?_
 intro Q hQ
 refine wk F ?_
 refine kq F (hF _) ?_
 refine kq F (hM _) ?_
 refine ye hQ F ?_
 exact Fin.plain (St.clo2 _ _ _) ⟨rfl,rfl⟩
theorem zj(hc:GClo (CT G)){s:PS}(hI:s.Inv)(hN:s.Nam)(e:Ev)(k1:e.kind=3)(hok:s.ok L0 e=true)(h:Heap):Sat (CT G) 43 [s.tell.av,e.av] h (fun r h'=>r=.tup [(s.aft e).tell.av,.bool true]∧h'=h):=by
 have hF:=aX G hc hI hN e
 rw[hok]at hF
 have hl1:s.tell.fo.length≤100000:=by have:=hI.up.l1;omega
 have hl2:s.tell.fe.length≤100000:=by have:=hI.up.l2;omega
 have hl3:s.tell.it.length≤100000:=by have:=hI.up.l3;omega
 have hl4:s.tell.se.length≤100000:=by have:=aF (z:=Se.z) s.se;have:=hI.l4;show(valsM Se.z s.se).length≤_;omega
 have hno:lkM s.fe e.a=none:=by
  unfold PS.ok PS.fits at hok
  rw[Zb]at hok
  have:=hok.2
  rw[we (by omega),we (by omega),Za k1]at this;simp only[Zb,Bool.not_eq_true']at this;exact bR this.1.1.1
 have hM:=qc G s.tell e k1 hl2
 rw[← za hI k1 hno]at hM
 simp only[Ev.av_eq,k1]at hF hM
 have F:=k1
 refine sb [.cell 4 34,.tmp 5] (fn:=Tryz.f43) Tryz.func43 ?_
 intro Q hQ
 refine wk F ?_
 refine kq F (hF _) ?_
 refine kq F (hM _) ?_
 refine ye hQ F ?_
 exact Fin.plain (St.clo2 _ _ _) ⟨rfl,rfl⟩
theorem zk(hc:GClo (CT G)){s:PS}(hI:s.Inv)(hN:s.Nam)(e:Ev)(k1:e.kind=7)(hok:s.ok L0 e=true)(h:Heap):Sat (CT G) 43 [s.tell.av,e.av] h (fun r h'=>r=.tup [(s.aft e).tell.av,.bool true]∧h'=h):=by
 have hF:=aX G hc hI hN e
 rw[hok]at hF
 have hl1:s.tell.fo.length≤100000:=by have:=hI.up.l1;omega
 have hl2:s.tell.fe.length≤100000:=by have:=hI.up.l2;omega
 have hl3:s.tell.it.length≤100000:=by have:=hI.up.l3;omega
 have hl4:s.tell.se.length≤100000:=by have:=aF (z:=Se.z) s.se;have:=hI.l4;show(valsM Se.z s.se).length≤_;omega
 have hno:lkM s.it e.a=none:=by
  unfold PS.ok PS.fits at hok
  rw[Zb]at hok
  have:=hok.2
  rw[we (by omega),we (by omega),we (by omega),we (by omega),we (by omega),Za k1]at this;simp only[Zb,Bool.not_eq_true']at this;exact bR this.1.1.1
 have hM:=qd G s.tell e k1 hl3
 rw[← zb hI k1 hno]at hM
 simp only[Ev.av_eq,k1]at hF hM
 have F:=k1
 refine sb [.cell 4 34,.tmp 5] (fn:=Tryz.f43) Tryz.func43 ?_
 intro Q hQ
 refine wk F ?_
 refine kq F (hF _) ?_
 refine kq F (hM _) ?_
 refine ye hQ F ?_
 exact Fin.plain (St.clo2 _ _ _) ⟨rfl,rfl⟩
theorem wO(hc:GClo (CT G)){s:PS}(hI:s.Inv)(hN:s.Nam)(e:Ev)(k1:e.kind=11)(hok:s.ok L0 e=true)(h:Heap):Sat (CT G) 43 [s.tell.av,e.av] h (fun r h'=>r=.tup [(s.aft e).tell.av,.bool true]∧h'=h):=by
 have hF:=aX G hc hI hN e
 rw[hok]at hF
 have hl1:s.tell.fo.length≤100000:=by have:=hI.up.l1;omega
 have hl2:s.tell.fe.length≤100000:=by have:=hI.up.l2;omega
 have hl3:s.tell.it.length≤100000:=by have:=hI.up.l3;omega
 have hl4:s.tell.se.length≤100000:=by have:=aF (z:=Se.z) s.se;have:=hI.l4;show(valsM Se.z s.se).length≤_;omega
 have hno:lkM s.se e.a=none:=by
  unfold PS.ok PS.fits at hok
  rw[Zb]at hok
  have:=hok.2
  rw[we (by omega),we (by omega),we (by omega),we (by omega),we (by omega),we (by omega),we (by omega),we (by omega),Za k1]at this;simp only[Zb,Bool.not_eq_true']at this;exact bR this.1
 have hM:=nJ G s.tell e k1 hl4
 rw[← wK hI k1 hno]at hM
 simp only[Ev.av_eq,k1]at hF hM
 have F:=k1
 refine sb [.cell 4 34,.tmp 5] (fn:=Tryz.f43) Tryz.func43 ?_
 intro Q hQ
 refine wk F ?_
 refine kq F (hF _) ?_
 refine kq F (hM _) ?_
 refine ye hQ F ?_
 exact Fin.plain (St.clo2 _ _ _) ⟨rfl,rfl⟩
theorem zl(hc:GClo (CT G)){s:PS}(hI:s.Inv)(hN:s.Nam)(e:Ev)(k1:e.kind=2)(hok:s.ok L0 e=true)(h:Heap):Sat (CT G) 43 [s.tell.av,e.av] h (fun r h'=>r=.tup [(s.aft e).tell.av,.bool true]∧h'=h):=by
 have hF:=aX G hc hI hN e
 rw[hok]at hF
 have hl1:s.tell.fo.length≤100000:=by have:=hI.up.l1;omega
 have hl2:s.tell.fe.length≤100000:=by have:=hI.up.l2;omega
 have hl3:s.tell.it.length≤100000:=by have:=hI.up.l3;omega
 have hl4:s.tell.se.length≤100000:=by have:=aF (z:=Se.z) s.se;have:=hI.l4;show(valsM Se.z s.se).length≤_;omega
 have hso:(lkM s.fo e.a).isSome=true:=by
  unfold PS.ok PS.fits at hok
  rw[Zb]at hok
  have:=hok.2
  rw[we (by omega),Za k1]at this;simp only[Zb]at this;exact this.1
 obtain⟨f,hf⟩:=Zd hso
 obtain⟨i,p1,p2,_⟩:=bk (show fnd (·.id) s.tell.fo e.a=some f by rw[hI.fndFo,hf])
 have hil:i<s.tell.fo.length:=(Zc p1).1
 have hM:=q9 G s.tell e k1 i p2 hil hl1
 rw[← zc hI k1 hf p1]at hM
 simp only[Ev.av_eq,k1]at hF hM
 have F:=k1
 refine sb [.cell 4 34,.tmp 5] (fn:=Tryz.f43) Tryz.func43 ?_
 intro Q hQ
 refine wk F ?_
 refine kq F (hF _) ?_
 refine kq F (hM _) ?_
 refine ye hQ F ?_
 exact Fin.plain (St.clo2 _ _ _) ⟨rfl,rfl⟩
theorem wP(hc:GClo (CT G)){s:PS}(hI:s.Inv)(hN:s.Nam)(e:Ev)(k1:e.kind=12)(hok:s.ok L0 e=true)(h:Heap):Sat (CT G) 43 [s.tell.av,e.av] h (fun r h'=>r=.tup [(s.aft e).tell.av,.bool true]∧h'=h):=by
 have hF:=aX G hc hI hN e
 rw[hok]at hF
 have hl1:s.tell.fo.length≤100000:=by have:=hI.up.l1;omega
 have hl2:s.tell.fe.length≤100000:=by have:=hI.up.l2;omega
 have hl3:s.tell.it.length≤100000:=by have:=hI.up.l3;omega
 have hl4:s.tell.se.length≤100000:=by have:=aF (z:=Se.z) s.se;have:=hI.l4;show(valsM Se.z s.se).length≤_;omega
 have hso:(lkM s.se e.a).isSome=true:=by
  unfold PS.ok PS.fits at hok
  rw[Zb]at hok
  have:=hok.2
  rw[we (by omega),we (by omega),we (by omega),we (by omega),we (by omega),we (by omega),we (by omega),we (by omega),we (by omega),Za k1]at this;exact this
 obtain⟨f,hf⟩:=Zd hso
 obtain⟨i,p1,p2,_⟩:=bk (show fnd (·.id) s.tell.se e.a=some f by rw[hI.fndSe,hf])
 have hil:i<s.tell.se.length:=(Zc p1).1
 have hM:=nI G s.tell e k1 i p2 hil hl4
 rw[← wL hI k1 hf p1]at hM
 simp only[Ev.av_eq,k1]at hF hM
 have F:=k1
 refine sb [.cell 4 34,.tmp 5] (fn:=Tryz.f43) Tryz.func43 ?_
 intro Q hQ
 refine wk F ?_
 refine kq F (hF _) ?_
 refine kq F (hM _) ?_
 refine ye hQ F ?_
 exact Fin.plain (St.clo2 _ _ _) ⟨rfl,rfl⟩
theorem zm(hc:GClo (CT G)){s:PS}(hI:s.Inv)(hN:s.Nam)(e:Ev)(k1:e.kind=4)(hok:s.ok L0 e=true)(h:Heap):Sat (CT G) 43 [s.tell.av,e.av] h (fun r h'=>r=.tup [(s.aft e).tell.av,.bool true]∧h'=h):=by
 have hF:=aX G hc hI hN e
 rw[hok]at hF
 have hl1:s.tell.fo.length≤100000:=by have:=hI.up.l1;omega
 have hl2:s.tell.fe.length≤100000:=by have:=hI.up.l2;omega
 have hl3:s.tell.it.length≤100000:=by have:=hI.up.l3;omega
 have hl4:s.tell.se.length≤100000:=by have:=aF (z:=Se.z) s.se;have:=hI.l4;show(valsM Se.z s.se).length≤_;omega
 have hso:(lkM s.fe e.a).isSome=true:=by
  unfold PS.ok PS.fits at hok
  rw[Zb]at hok
  have:=hok.2
  rw[we (by omega),we (by omega),we (by omega),Za (by omega)]at this;exact this
 obtain⟨f,hf⟩:=Zd hso
 obtain⟨i,p1,p2,_⟩:=bk (show fnd (·.id) s.tell.fe e.a=some f by rw[hI.fndFe,hf])
 have hil:i<s.tell.fe.length:=(Zc p1).1
 have hM:=qa G s.tell e k1 i p2 hil hl2 hl3
 rw[← zd hI k1 hf p1]at hM
 simp only[Ev.av_eq,k1]at hF hM
 have F:=k1
 refine sb [.cell 4 34,.tmp 5] (fn:=Tryz.f43) Tryz.func43 ?_
 intro Q hQ
 refine wk F ?_
 refine kq F (hF _) ?_
 refine kq F (hM _) ?_
 refine ye hQ F ?_
 exact Fin.plain (St.clo2 _ _ _) ⟨rfl,rfl⟩
theorem zn(hc:GClo (CT G)){s:PS}(hI:s.Inv)(hN:s.Nam)(e:Ev)(k1:e.kind=5)(hok:s.ok L0 e=true)(h:Heap):Sat (CT G) 43 [s.tell.av,e.av] h (fun r h'=>r=.tup [(s.aft e).tell.av,.bool true]∧h'=h):=by
 have hF:=aX G hc hI hN e
 rw[hok]at hF
 have hl1:s.tell.fo.length≤100000:=by have:=hI.up.l1;omega
 have hl2:s.tell.fe.length≤100000:=by have:=hI.up.l2;omega
 have hl3:s.tell.it.length≤100000:=by have:=hI.up.l3;omega
 have hl4:s.tell.se.length≤100000:=by have:=aF (z:=Se.z) s.se;have:=hI.l4;show(valsM Se.z s.se).length≤_;omega
 have hso:(lkM s.fe e.a).isSome=true:=by
  unfold PS.ok PS.fits at hok
  rw[Zb]at hok
  have:=hok.2
  rw[we (by omega),we (by omega),we (by omega),Za (by omega)]at this;exact this
 obtain⟨f,hf⟩:=Zd hso
 obtain⟨i,p1,p2,_⟩:=bk (show fnd (·.id) s.tell.fe e.a=some f by rw[hI.fndFe,hf])
 have hil:i<s.tell.fe.length:=(Zc p1).1
 have hM:=rR G s.tell e k1 hF i f p1 p2 hl2 h
 rw[← ze hI k1 hf p1]at hM
 exact hM
theorem zo(hc:GClo (CT G)){s:PS}(hI:s.Inv)(hN:s.Nam)(e:Ev)(k1:e.kind=6)(hok:s.ok L0 e=true)(h:Heap):Sat (CT G) 43 [s.tell.av,e.av] h (fun r h'=>r=.tup [(s.aft e).tell.av,.bool true]∧h'=h):=by
 have hF:=aX G hc hI hN e
 rw[hok]at hF
 have hl1:s.tell.fo.length≤100000:=by have:=hI.up.l1;omega
 have hl2:s.tell.fe.length≤100000:=by have:=hI.up.l2;omega
 have hl3:s.tell.it.length≤100000:=by have:=hI.up.l3;omega
 have hl4:s.tell.se.length≤100000:=by have:=aF (z:=Se.z) s.se;have:=hI.l4;show(valsM Se.z s.se).length≤_;omega
 have hso:(lkM s.fe e.a).isSome=true:=by
  unfold PS.ok PS.fits at hok
  rw[Zb]at hok
  have:=hok.2
  rw[we (by omega),we (by omega),we (by omega),we (by omega),Za k1]at this;simp only[Zb]at this;exact this.1
 obtain⟨f,hf⟩:=Zd hso
 obtain⟨i,p1,p2,_⟩:=bk (show fnd (·.id) s.tell.fe e.a=some f by rw[hI.fndFe,hf])
 have hil:i<s.tell.fe.length:=(Zc p1).1
 have hM:=rS G s.tell e k1 hF i f p1 p2 hl2 h
 rw[← zf hI k1 hf p1]at hM
 exact hM
theorem zp(hc:GClo (CT G)){s:PS}(hI:s.Inv)(hN:s.Nam)(e:Ev)(k1:e.kind=8)(hok:s.ok L0 e=true)(h:Heap):Sat (CT G) 43 [s.tell.av,e.av] h (fun r h'=>r=.tup [(s.aft e).tell.av,.bool true]∧h'=h):=by
 have hF:=aX G hc hI hN e
 rw[hok]at hF
 have hl1:s.tell.fo.length≤100000:=by have:=hI.up.l1;omega
 have hl2:s.tell.fe.length≤100000:=by have:=hI.up.l2;omega
 have hl3:s.tell.it.length≤100000:=by have:=hI.up.l3;omega
 have hl4:s.tell.se.length≤100000:=by have:=aF (z:=Se.z) s.se;have:=hI.l4;show(valsM Se.z s.se).length≤_;omega
 have hso:(lkM s.it e.a).isSome=true:=by
  unfold PS.ok PS.fits at hok
  rw[Zb]at hok
  have:=hok.2
  rw[we (by omega),we (by omega),we (by omega),we (by omega),we (by omega),we (by omega),Za (by omega)]at this;exact this
 obtain⟨f,hf⟩:=Zd hso
 obtain⟨i,p1,p2,_⟩:=bk (show fnd (·.id) s.tell.it e.a=some f by rw[hI.fndIt,hf])
 have hil:i<s.tell.it.length:=(Zc p1).1
 have hM:=rU G s.tell e k1 hF i f p1 p2 hl3 h
 rw[← zg hI k1 hf p1]at hM
 exact hM
theorem zr(hc:GClo (CT G)){s:PS}(hI:s.Inv)(hN:s.Nam)(e:Ev)(k1:e.kind=9)(hok:s.ok L0 e=true)(h:Heap):Sat (CT G) 43 [s.tell.av,e.av] h (fun r h'=>r=.tup [(s.aft e).tell.av,.bool true]∧h'=h):=by
 have hF:=aX G hc hI hN e
 rw[hok]at hF
 have hl1:s.tell.fo.length≤100000:=by have:=hI.up.l1;omega
 have hl2:s.tell.fe.length≤100000:=by have:=hI.up.l2;omega
 have hl3:s.tell.it.length≤100000:=by have:=hI.up.l3;omega
 have hl4:s.tell.se.length≤100000:=by have:=aF (z:=Se.z) s.se;have:=hI.l4;show(valsM Se.z s.se).length≤_;omega
 have hso:(lkM s.it e.a).isSome=true:=by
  unfold PS.ok PS.fits at hok
  rw[Zb]at hok
  have:=hok.2
  rw[we (by omega),we (by omega),we (by omega),we (by omega),we (by omega),we (by omega),Za (by omega)]at this;exact this
 obtain⟨f,hf⟩:=Zd hso
 obtain⟨i,p1,p2,_⟩:=bk (show fnd (·.id) s.tell.it e.a=some f by rw[hI.fndIt,hf])
 have hil:i<s.tell.it.length:=(Zc p1).1
 have hM:=rV G s.tell e k1 hF i f p1 p2 hl3 h
 rw[← zh hI k1 hf p1]at hM
 exact hM
theorem wQ(hc:GClo (CT G)){s:PS}(hI:s.Inv)(hN:s.Nam)(e:Ev)(k1:e.kind=10)(hok:s.ok L0 e=true)(h:Heap):Sat (CT G) 43 [s.tell.av,e.av] h (fun r h'=>r=.tup [(s.aft e).tell.av,.bool true]∧h'=h):=by
 have hF:=aX G hc hI hN e
 rw[hok]at hF
 have hl1:s.tell.fo.length≤100000:=by have:=hI.up.l1;omega
 have hl2:s.tell.fe.length≤100000:=by have:=hI.up.l2;omega
 have hl3:s.tell.it.length≤100000:=by have:=hI.up.l3;omega
 have hl4:s.tell.se.length≤100000:=by have:=aF (z:=Se.z) s.se;have:=hI.l4;show(valsM Se.z s.se).length≤_;omega
 have hso:(lkM s.it e.a).isSome=true:=by
  unfold PS.ok PS.fits at hok
  rw[Zb]at hok
  have:=hok.2
  rw[we (by omega),we (by omega),we (by omega),we (by omega),we (by omega),we (by omega),we (by omega),Za k1]at this;simp only[Zb]at this;exact this.1
 obtain⟨f,hf⟩:=Zd hso
 obtain⟨i,p1,p2,_⟩:=bk (show fnd (·.id) s.tell.it e.a=some f by rw[hI.fndIt,hf])
 have hil:i<s.tell.it.length:=(Zc p1).1
 have hn01:e.n=0∨e.n=1:=by
  unfold PS.ok PS.fits at hok
  rw[Zb]at hok
  have hq:=hok.1
  unfold Leaf.ck at hq
  rw[Zb]at hq
  have hq:=hq.1
  unfold Leaf.right at hq
  rw[we (by omega),we (by omega),we (by omega),we (by omega),we (by omega),we (by omega),we (by omega),Za k1]at hq
  simp only[Zb,Bool.or_eq_true,beq_iff_eq]at hq
  exact hq.2.1
 have hM:=qe G s.tell e k1 hF i f p1 p2 hl3 (by have:=(hI.tg _ _ hf).2;omega) h
 rw[wy (hI.tg _ _ hf).1 e.s hn01, ← wM hI k1 hf p1]at hM
 exact hM
theorem wR(hc:GClo (CT G)){s:PS}(hI:s.Inv)(hN:s.Nam)(e:Ev)(k1:e.kind=13)(hok:s.ok L0 e=true)(h:Heap):Sat (CT G) 43 [s.tell.av,e.av] h (fun r h'=>r=.tup [(s.aft e).tell.av,.bool true]∧h'=h):=by
 have hF:=aX G hc hI hN e
 rw[hok]at hF
 have hl1:s.tell.fo.length≤100000:=by have:=hI.up.l1;omega
 have hl2:s.tell.fe.length≤100000:=by have:=hI.up.l2;omega
 have hl3:s.tell.it.length≤100000:=by have:=hI.up.l3;omega
 have hl4:s.tell.se.length≤100000:=by have:=aF (z:=Se.z) s.se;have:=hI.l4;show(valsM Se.z s.se).length≤_;omega
 have ht:=wN (s:=s) k1
 simp only[Ev.av_eq,k1]at hF
 have F:=k1
 refine sb [.cell 4 34,.tmp 5] (fn:=Tryz.f43) Tryz.func43 ?_
 intro Q hQ
 refine wk F ?_
 refine kq F (hF _) ?_
 refine ye hQ F ?_
 rw[ht]
 exact Fin.plain (St.clo2 _ {s.tell with clock:=e.n} _) ⟨rfl,rfl⟩
theorem qf(hc:GClo (CT G)){s:PS}(hI:s.Inv)(hN:s.Nam)(e:Ev)(h:Heap):Sat (CT G) 43 [s.tell.av,e.av] h (fun r h'=>r=.tup [(s.step L0 e).tell.av,.bool (s.ok L0 e)]∧h'=h):=by
 cases hok:s.ok L0 e with
 |false=>
  have hst:s.step L0 e=s:=by unfold PS.step;rw[hok];rfl
  have hF:=aX G hc hI hN e
  rw[hok]at hF
  rw[hst]
  refine sb [.cell 4 34,.tmp 5] (fn:=Tryz.f43) Tryz.func43 ?_
  intro Q hQ
  refine wk trivial ?_
  refine kq trivial (hF _) ?_
  refine ye hQ trivial ?_
  exact Fin.plain (St.clo2 _ s.tell _) ⟨rfl,rfl⟩
 |true=>
  have hst:s.step L0 e=s.aft e:=by unfold PS.step;rw[hok];rfl
  rw[hst]
  by_cases k1:e.kind=1
  ·exact zi G hc hI hN e k1 hok h
  by_cases k2:e.kind=2
  ·exact zl G hc hI hN e k2 hok h
  by_cases k3:e.kind=3
  ·exact zj G hc hI hN e k3 hok h
  by_cases k4:e.kind=4
  ·exact zm G hc hI hN e k4 hok h
  by_cases k5:e.kind=5
  ·exact zn G hc hI hN e k5 hok h
  by_cases k6:e.kind=6
  ·exact zo G hc hI hN e k6 hok h
  by_cases k7:e.kind=7
  ·exact zk G hc hI hN e k7 hok h
  by_cases k8:e.kind=8
  ·exact zp G hc hI hN e k8 hok h
  by_cases k9:e.kind=9
  ·exact zr G hc hI hN e k9 hok h
  by_cases k10:e.kind=10
  ·exact wQ G hc hI hN e k10 hok h
  by_cases k11:e.kind=11
  ·exact wO G hc hI hN e k11 hok h
  by_cases k12:e.kind=12
  ·exact wP G hc hI hN e k12 hok h
  by_cases k13:e.kind=13
  ·exact wR G hc hI hN e k13 hok h
  exfalso
  unfold PS.ok PS.fits at hok
  rw[Zb]at hok
  have hr:=hok.1
  unfold Leaf.ck at hr
  rw[Zb]at hr
  have hr:=hr.1
  unfold Leaf.right at hr
  rw[we k1,we (by omega),we k3,we k5,we k6,we k7,we (by omega),we k10,we k11,we k13]at hr
  cases hr
theorem s8(hc:GClo (CT G))(es:List Ev)(hl:es.length≤100000)(h:Heap):Sat (CT G) 14 [.sl 7 (es.map Ev.av)] h (fun r h'=>r=(es.foldl (PS.step L0) PS.z).tell.av∧h'=h):=by
 have hel:(es.map Ev.av).length=es.length:=List.length_map ..
 have F:=hel
 refine sb [.cell 2 34] (fn:=Tryz.f14) Tryz.func14 ?_
 intro Q hQ
 refine wk F ?_
 refine lm (fun nL tL hL=>∃(k:Nat) (s:PS),es.length-k=nL∧h++[.row 34 9 0 [.agg [.int .i64 0,.nil (.slice none 0 0),.nil (.slice none 0 0),.nil (.slice none 0 0),.nil (.slice none 0 0),.int .i64 0,.int .i64 0,.int .i64 0,.int .i64 0]],.row 34 9 0 [s.tell.av]]=hL∧tL 0=.sl 7 (es.map Ev.av)∧tL 2=.hp h.length 0 0 0∧tL 3=.hp (h.length+1) 0 0 0∧tL 4=.int .i64 k∧k≤es.length∧s=(es.take k).foldl (PS.step L0) PS.z) ((fun(k:Nat) (s:PS)=>(es.length-k:Nat)) (0) (PS.z)) ?_ ?_
 ·refine⟨_,_,Weak.rows (p:=h.length+1) (v:=0) (rows:=[.agg [.int .i64 0,.nil (.slice none 0 0),.nil (.slice none 0 0),.nil (.slice none 0 0),.nil (.slice none 0 0),.int .i64 0,.int .i64 0,.int .i64 0,.int .i64 0]]) [PS.z.tell.av] (by rw[bo _ rfl];rfl) rfl Bi,⟨0,PS.z,rfl,by rw[qz _ rfl];rfl,?_,?_,?_,?_,by omega,rfl⟩⟩
  all_goals first|exact zq F|rfl|omega|trivial|skip
 rintro _ s2 h' ⟨k,s,rfl,rfl,e0,e2,e3,e4,hk,hs⟩ K2 hK2
 simp only[ai,ao,Nat.reduceEqDiff, ↓reduceIte]at e0 e2 e3 e4
 have F:=F5 F e0 e2 e3 e4
 have hI:s.Inv:=by rw[hs];exact PS.Inv.z.fold _
 have hN:s.Nam:=by rw[hs];exact PS.Nam.z.fold .z _
 refine wk F ?_
 refine cq F (fun c1=>?_) (fun c1=>?_)<;>(try exact c1.elim)<;>(refine wk F ?_)
 ·have c2:k<es.length:=by omega
  obtain⟨e,he,_⟩:=ac c2
  have hA:=qf G hc hI hN e
  have hst:s.step L0 e=(es.take (k+1)).foldl (PS.step L0) PS.z:=by rw[List.take_add_one,List.foldl_append,he,hs];rfl
  have F:=F3 F c2 he
  skip
  try refine sq F ?_
  refine wn F ?_
  refine ay 10 [9] [true,true,true,true,true,true,true,true,true,false] (.one 9 [] .fin) (by decide+kernel) (by kernel_rfl) (by decide+kernel) ?_
  simp only[aC,aD,az]
  try refine sq F ?_
  repeat' (first| (refine aj ?_;try refine sq F ?_)| (refine ak ?_;try refine sq F ?_)| (refine am ?_ ?_<;>try refine sq F ?_))
  all_goals try refine wn F ?_
  refine aA (hA _) ?_
  try refine sq F ?_
  refine wn F ?_
  repeat' (first| (refine aj ?_;try refine sq F ?_)| (refine ak ?_;try refine sq F ?_)| (refine am ?_ ?_<;>try refine sq F ?_))
  all_goals try refine wn F ?_
  skip
  refine hK2 _ _ _ (Wkn.refl ⟨k+1,s.step L0 e,rfl,rfl,?_,?_,?_,?_,by omega,hst⟩) (by omega)
  all_goals first|exact zq F|rfl|omega|trivial|skip
 ·rw[List.take_of_length_le (by omega)]at hs
  try refine sq F ?_
  refine wk F ?_
  refine ye hQ F ?_
  rw[← hs]
  exact Fin.plain (St.clo _ s.tell) ⟨rfl,rfl⟩
end Go.Av
namespace Go.Av
open Go Go.Proofs Go.RowKit
attribute [local irreducible] WP WPl WPix Sat
section
variable {c:CS} {s:PS}
theorem kj{L:List It}{p:It→Bool}(h:∀t∈L,p t=false):tl L p=(0,0):=by
 unfold tl
 have h1:L.countP p=0:=by rw[List.countP_eq_zero];intro t ht;rw[h t ht];simp
 have h2:L.countP (fun t=>p t&& !t.read)=0:=by rw[List.countP_eq_zero];intro t ht;rw[h t ht];simp
 rw[h1,h2];rfl
theorem of_eq(K:Kp c s)(h:s.Inv)(kind id:Int)(g:Bs):c.of kind id g=((s.tell.fil kind id g).all,(s.tell.fil kind id g).un):=by
 have key:c.of kind id g=tl s.its (s.tell.cnt ⟨kind,id,g,0,0⟩):=by
  unfold CS.of
  by_cases k1:kind=1
  ·rw[Za k1,K.tal.al,K.tl h]
   exact bI fun t _=>by simp[St.cnt,k1]
  rw[we k1]
  by_cases k2:kind=2
  ·rw[Za k2]
   cases hs:(lkM s.fo id).isSome with
   |true=>
    have h0:id≠0:=by rintro rfl;rw[h.no0]at hs;cases hs
    rw[K.lkFo h hs]
    refine(bI fun t ht=>?_)
    obtain⟨q,hq⟩:=i7 h ht
    simp only[St.cnt,h.fndFe]
    rw[we k1,Za k2,gz h (h.u3 q t hq) h0]
    simp[h0]
   |false=>
    have hn:lkM c.fo id=none:=bR (by rw[K.fo];exact hs)
    rw[hn,kj]
    ·rfl
    ·intro t ht
     obtain⟨q,hq⟩:=i7 h ht
     simp only[St.cnt,h.fndFe]
     rw[we k1,Za k2]
     by_cases h0:id=0
     ·simp[h0]
     ·rw[gz h (h.u3 q t hq) h0]
      have:¬id∈s.chn t.feed:=fun hm=>by
       obtain⟨f0,hf0⟩:=Zd (h.u3 q t hq)
       obtain⟨l,a1,_,a3⟩:=h.chs (h.u2 _ _ hf0)
       have hch:s.chn t.feed=l:=by unfold PS.chn;rw[hf0];simp only[Option.map_some,Option.getD_some];rw[a1];rfl
       rw[hch]at hm
       rw[a3 id hm]at hs;cases hs
      simp[this]
  rw[we k2]
  by_cases k3:kind=3
  ·rw[Za k3]
   cases hs:(lkM s.fe id).isSome with
   |true=>
    rw[K.lkFe h hs]
    exact bI fun t _=>by simp only[St.cnt];rw[we k1,we k2,Za k3];rfl
   |false=>
    have hn:lkM c.fe id=none:=bR (by rw[K.fe];exact hs)
    rw[hn,kj]
    ·rfl
    ·intro t ht
     obtain⟨q,hq⟩:=i7 h ht
     have hf:=h.u3 q t hq
     simp only[St.cnt]
     rw[we k1,we k2,Za k3]
     have:¬t.feed=id:=by rintro rfl;rw[hf]at hs;cases hs
     simpa using this
  rw[we k3]
  by_cases k4:kind=4
  ·rw[Za k4,K.lkTg h,fb]
   exact bI fun t _=>by simp only[St.cnt];rw[we k1,we k2,we k3,Za k4]
  rw[we k4]
  by_cases k5:kind=5
  ·rw[Za k5,K.tal.st,K.tl h]
   exact bI fun t _=>by simp[St.cnt,k5]
  rw[we k5,kj]
  intro t _
  simp[St.cnt,k1,k2,k3,k4,k5]
 rw[key, ← cV (gA h)]
 rfl
end
variable (G:Nat→Option (List AVal))
theorem Sat.wkArgs{C:Ctx}{f:FuncId}{args args':List AVal}{h:Heap}{R:AVal→Heap→Prop}(hl:args.length=args'.length)(hw:∀(i:Nat) (x y:AVal),args[i]? =some x→args'[i]? =some y→Wk x y)(hs:Sat C f args' h R):Sat C f args h R:=by
 unfold Sat at*
 intro B S μ w vs fit rl
 refine hs B S μ w vs fit ⟨rl.1.trans hl,fun i y hy=>?_⟩
 have hlt:=(Zc hy).1
 have hx:=List.getElem?_eq_getElem (show i<args.length by omega)
 exact hw i _ y hx hy w S μ _ (rl.2 i _ hx)
abbrev zA:AVal:=.agg [.int .i64 0,.nil (.slice none 0 0),.nil (.slice none 0 0),.nil (.slice none 0 0),.nil (.slice none 0 0),.int .i64 0,.int .i64 0,.int .i64 0,.int .i64 0]
theorem zt:Wk zA PS.z.tell.av:=by
 have h:=Bi 0 zA PS.z.tell.av rfl rfl
 refine Wk.agg rfl (fun y hy=>?_) fun i x y hx hy=>(h.2 i x y hx hy).1
 simp[PS.tell,PS.z,valsM,sortI]at hy
 rcases hy with rfl|rfl|rfl|rfl|rfl|rfl<;>rfl
theorem qg(h:Heap):Sat (CT G) 17 [zA] h (fun r h'=>r=.sl 5 (PS.z.tellC.map Ct.av)∧h'=h):=by
 have h1:=l8 G PS.z.tell PS.Inv.z.up h
 rw[mJ PS.Inv.z]at h1
 refine Sat.wkArgs (args:=[zA]) (args':=[PS.z.tell.av]) rfl (fun i x y hx hy=>?_) h1
 match i with
 |0=>simp at hx hy;subst hx;subst hy;exact zt
 |i+1=>simp at hx
theorem v8(x:St)(hx:x.Up)(kind id:Int)(g:Bs)(h:Heap):Sat (CT G) 19 [x.av,.int .i64 kind,.int .i64 id,.str g] h (fun r h'=>r=.tup [.int .i64 (x.fil kind id g).all,.int .i64 (x.fil kind id g).un]∧h'=h):=by
 skip
 refine sb [.tmp 8,.tmp 9] (fn:=Tryz.f19) Tryz.func19 ?_
 intro Q hQ
 refine wn trivial ?_
 refine kn trivial (cW G x hx kind id g _) ?_
 skip
 refine cu (by decide+kernel) (gV G) ?_
 refine sq trivial ?_
 refine wk trivial ?_
 refine ye hQ trivial ?_
 exact Fin.plain (.tup _ (by simp;exact⟨.int _ _,.int _ _⟩)) ⟨rfl,rfl⟩
theorem nK(p:Nat)(e:Ev)(h:Heap):Sat (CT G) 20 [.nil (.pointer none),.hp p 0 0 0,e.av] h (fun r h'=>r=.tup []∧h'=h):=by
 have hq:∀H,abin Tryz.prog H .eql 25 (.nil (.pointer none)) (.nil (.pointer none))=some (.bool true):=fun H=>by
  have hk:nilKind Tryz.prog 25 (.pointer none)=true:=by kernel_rfl
  simp[abin,hk,aeqNil]
 have F:=hq
 refine sb [] (fn:=Tryz.f20) Tryz.func20 ?_
 intro Q hQ
 refine wk F ?_
 refine ee hQ F ?_
 exact Fin.plain (.tup _ (by simp)) ⟨rfl,rfl⟩
theorem sf(kind id:Int)(g:Bs)(h:Heap):Sat (CT G) 18 [.nil (.pointer none),.int .i64 kind,.int .i64 id,.str g] h (fun r h'=>r=.tup [.int .i64 0,.int .i64 0]∧h'=h):=by
 have hq:∀H,abin Tryz.prog H .eql 25 (.nil (.pointer none)) (.nil (.pointer none))=some (.bool true):=fun H=>by
  have hk:nilKind Tryz.prog 25 (.pointer none)=true:=by kernel_rfl
  simp[abin,hk,aeqNil]
 have F:=hq
 refine sb [.tmp 8,.tmp 9] (fn:=Tryz.f18) Tryz.func18 ?_
 intro Q hQ
 refine wk F ?_
 refine ye hQ F ?_
 exact Fin.same (.tup _ (by simp;exact .int _ _)) ⟨rfl,rfl⟩
theorem nM(h:Heap):Sat (CT G) 16 [.nil (.pointer none)] h (fun r h'=>r=.nil (.slice none 0 0)∧h'=h):=by
 have hq:∀H,abin Tryz.prog H .eql 25 (.nil (.pointer none)) (.nil (.pointer none))=some (.bool true):=fun H=>by
  have hk:nilKind Tryz.prog 25 (.pointer none)=true:=by kernel_rfl
  simp[abin,hk,aeqNil]
 have F:=hq
 refine sb [.tmp 2] (fn:=Tryz.f16) Tryz.func16 ?_
 intro Q hQ
 refine wk F ?_
 refine ee hQ F ?_
 exact Fin.same (.nil _) ⟨rfl,rfl⟩
theorem mO(h:Heap):Sat (CT G) 22 [.nil (.pointer none)] h (fun r h'=>r=PS.z.tell.av∧h'=h):=by
 have hq:∀H,abin Tryz.prog H .eql 27 (.nil (.pointer none)) (.nil (.pointer none))=some (.bool true):=fun H=>by
  have hk:nilKind Tryz.prog 27 (.pointer none)=true:=by kernel_rfl
  simp[abin,hk,aeqNil]
 have F:=hq
 skip
 refine sb [.cell 2 34] (fn:=Tryz.f22) Tryz.func22 ?_
 intro Q hQ
 refine wn F ?_
 refine ye hQ F ?_
 have hz:PS.z.tell=⟨0,[],[],[],[],0,0,0,0⟩:=by simp[PS.tell,PS.z,valsM,sortI]
 rw[hz]
 exact Fin.frz (bx (x:=⟨0,[],[],[],[],0,0,0,0⟩) (.nils 3) (.nils 4) (.nils 9) (.nils 3)) ⟨rfl,rfl⟩
theorem qh(h:Heap):Sat (CT G) 12 [.nil (.pointer none)] h (fun r h'=>r=.hp (h.length+6) 0 0 0∧h'=co (h++CS.z.bl h.length) h.length (CS.ofSt PS.z.tell)):=
 kW G PS.z.tell (.nil (.pointer none)) h (fun j=>mO G _) (kX PS.Inv.z) (by simp[PS.tell,PS.z,valsM,sortI]) (by simp[PS.tell,PS.z,valsM,sortI]) (by simp[PS.tell,PS.z,valsM,sortI])
end Go.Av
namespace Go.Av
open Go Go.Proofs Go.RowKit
attribute [local irreducible] WP WPl WPix Sat
variable (G:Nat→Option (List AVal))
theorem qi{H:Heap}:Sat (CT G) 16 [.hp (H.length+6) 0 0 0] (co (H++CS.z.bl H.length) H.length (CS.ofSt PS.z.tell)) (fun r h'=>r=.sl 5 (PS.z.tellC.map Ct.av)∧h'=co (H++CS.z.bl H.length) H.length (CS.ofSt PS.z.tell)):=by
 have Kc:=Kp.new PS.Inv.z
 have hb:(CS.z.bl H.length).length=7:=rfl
 have hfo:∀id,(lkM (CS.ofSt PS.z.tell).fo id).isSome=false:=fun id=>by rw[Kc.fo];rfl
 have hfe:∀id,(lkM (CS.ofSt PS.z.tell).fe id).isSome=false:=fun id=>by rw[Kc.fe];rfl
 have htg:∀g,(lkM (CS.ofSt PS.z.tell).tg g).isSome=false:=fun g=>by rw[Kc.lkTg PS.Inv.z];rfl
 have emp:∀{κ α:Type} [DecidableEq κ] {l:ML κ α} {c:Nat},WFM l c→(∀x,(lkM l x).isSome=false)→l=[]:=fun {κ α} _ {l c} w h=>by
  cases l with
  |nil=>rfl
  |cons e l=>have:=h e.1;rw[aS w.keys (b:=e.2.2) (a:=e.2.1) (by simp)]at this;cases this
 have e1:=emp Kc.wf.w1 hfo
 have e2:=emp Kc.wf.w2 hfe
 have e3:=emp Kc.wf.w3 htg
 rw[← Kc.told PS.Inv.z]
 exact jy G _ Kc.wf (by rw[e1];simp) (by rw[e2];simp) (by rw[e3];simp) (by rw[e1];simp) (by rw[e2];simp) (by rw[e3];simp) (by simp[hb])
theorem kl(hc:GClo (CT G))(es:List Ev)(kind id:Int)(g:Bs)(h:Heap):Sat (CT G) 3 [.sl 7 (es.map Ev.av),.int .i64 kind,.int .i64 id,.str g] h (fun r h'=>r=.bool true∧h'=h):=by
 have hLg:=jz G es
 cases hlg:lgF es with
 |true=>
  rw[hlg]at hLg
  refine sb [.tmp 8] (fn:=Tryz.f3) Tryz.func3 ?_
  intro Q hQ
  refine wk trivial ?_
  refine kq trivial (hLg _) ?_
  refine kq trivial (fC G _) ?_
  refine ee hQ trivial ?_
  exact Fin.same (.bool _) ⟨rfl,rfl⟩
 |false=>
 rw[hlg]at hLg
 cases hgl:decide ((g.length:Int)>300)with
 |true=>
  have F:=hgl
  refine sb [.tmp 8] (fn:=Tryz.f3) Tryz.func3 ?_
  intro Q hQ
  refine wk F ?_
  refine kq F (hLg _) ?_
  refine kq F (fC G _) ?_
  refine ee hQ F ?_
  exact Fin.same (.bool _) ⟨rfl,rfl⟩
 |false=>
  have hel:es.length≤150:=by
   unfold lgF at hlg
   rw[Bool.or_eq_false_iff]at hlg
   have:=hlg.1
   simp only[decide_eq_false_iff_not]at this
   omega
  have hI:(es.foldl (PS.step L0) PS.z).Inv:=PS.Inv.z.fold es
  have hT:(es.foldl (PS.step L0) PS.z).Tg:=PS.Tg.z.fold .z es
  have hfh:=gZ G es (by omega) h
  have hfA:=fun H=>gZ G es (by omega) H
  have hRF:=s8 G hc es (by omega)
  generalize es.foldl (PS.step L0) PS.z=s at hI hT hfh hRF hfA
  have hz9:(PS.z.bl h.length).length=9:=rfl
  generalize hH:h++PS.z.bl h.length=H0 at hfh
  have hl0:H0.length=h.length+9:=by rw[← hH];simp[hz9]
  have hnw:=wm G hI (H:=H0) (n:=h.length) (by omega)
  have kc:=Kp.new hI
  generalize CS.ofSt s.tell=c at hnw kc
  have hz7:(CS.z.bl H0.length).length=7:=rfl
  generalize hWw:H0++CS.z.bl H0.length=W0 at hnw
  have hlW:W0.length=H0.length+7:=by rw[← hWw];simp[hz7]
  have hpre:∃j,W0=h++j:=⟨PS.z.bl h.length++CS.z.bl H0.length,by rw[← hWw, ← hH,List.append_assoc]⟩
  generalize H0.length=m at*
  have hn:h.length+9≤m:=by omega
  have hm0:m+7≤W0.length:=by omega
  have hm1:m+7≤(W0++[Blk.row 34 9 0 [s.tell.av]]).length:=by simp;omega
  have hg1:getRow (W0++[Blk.row 34 9 0 [s.tell.av]]) W0.length 0=some (34,9,[s.tell.av]):=by rw[aG _ rfl];rfl
  have hW1:W0.length<(W0++[Blk.row 34 9 0 [s.tell.av]]).length:=by simp
  have hpre1:∃j,W0++[Blk.row 34 9 0 [s.tell.av]]=h++j:=by
   obtain⟨j,hj⟩:=hpre
   exact⟨j++[Blk.row 34 9 0 [s.tell.av]],by rw[hj,List.append_assoc]⟩
  have htl:=fun(W:Heap) (hm:m+7≤W.length)=>sa G (Y:=W) (n:=h.length) (m:=m) kc hI (hI.tgs hT) hI.tgl hn hm
  have hrt:=fun H=>l8 G s.tell hI.up H
  rw[mJ hI]at hrt
  have hsm:=fun H=>iV G s.tellC s.tellC (fk hI) (fk hI) H
  have hof:=fun(W:Heap) (hm:m+7≤W.length)=>Bg G (Y:=W) (n:=h.length) (m:=m) (s:=s) (c:=c) hn hm kind id g
  rw[of_eq kc hI]at hof
  have hro:=fun H=>v8 G s.tell hI.up kind id g H
  rw[decide_eq_true (rfl:s.tellC=s.tellC)]at hsm
  generalize (s.tell.fil kind id g).all=av at hof hro
  generalize (s.tell.fil kind id g).un=uv at hof hro
  have F:=hgl
  refine sb [.tmp 8] (fn:=Tryz.f3) Tryz.func3 ?_
  intro Q hQ
  refine wk F ?_
  refine kq F (hLg _) ?_
  refine kq F (hfh) ?_
  refine kq F (hnw) ?_
  refine kq F (hRF _) ?_
  obtain⟨W1,hWe⟩:∃W1,W1=W0++[Blk.row 34 9 0 [s.tell.av]]:=⟨_,rfl⟩
  rw[← hWe]at hm1 hg1 hW1 hpre1
  rw[St.av_eq]at hWe hg1
  rw[← hWe]
  clear hWe
  have F:=F2 F hg1
  refine aA (fC G _) ?_
  try refine sq F ?_
  refine wk F ?_
  refine aA (htl _ (by omega)) ?_
  try refine sq F ?_
  refine wk F ?_
  refine aA (hrt _) ?_
  try refine sq F ?_
  refine wk F ?_
  refine aA (hsm _) ?_
  try refine sq F ?_
  refine wk F ?_
  try refine sq F ?_
  refine wk F ?_
  refine kq F (hof _ (by omega)) ?_
  refine kq F (hro _) ?_
  have hpz:∃j,sc W1 h.length s m c=h++j:=by
   obtain⟨j,rfl⟩:=hpre1
   exact rb hn hm1 (Nat.le_refl _)
  generalize sc W1 h.length s m c=Z at*
  have hq:=hfA Z
  rw[← tm Z s]at hq
  have hpz2:∃j,Z++s.bl Z.length=h++j:=by
   obtain⟨j,hj⟩:=hpz
   exact⟨j++s.bl Z.length,by rw[← List.append_assoc, ← hj]⟩
  generalize Z++s.bl Z.length=Z2 at*
  have hs0:=iV G PS.z.tellC PS.z.tellC (fk PS.Inv.z) (fk PS.Inv.z)
  rw[decide_eq_true (rfl:PS.z.tellC=PS.z.tellC)]at hs0
  have hb7:(CS.z.bl Z2.length).length=7:=rfl
  have hneq:=vZ (c:=CS.ofSt PS.z.tell) (H:=Z2++CS.z.bl Z2.length) (m:=Z2.length) (by simp[hb7])
  have hsi:=nK G (Z.length+8) ⟨kind,0,0,0,[],[],[]⟩
  have hz0:=qi G (H:=Z2)
  have hnn:=qh G Z2
  have hfr:FrN h.length h (co (Z2++CS.z.bl Z2.length) Z2.length (CS.ofSt PS.z.tell)):=fun p hp=>by
   obtain⟨j,hj⟩:=hpz2
   have hlt:p<Z2.length:=by rw[hj];simp;omega
   unfold co
   rw[fJ (by show Z2.length+7≤_;simp[hb7]) (.inl hlt),List.getElem?_append_left hlt,hj,List.getElem?_append_left hp]
  have hle:h.length≤(co (Z2++CS.z.bl Z2.length) Z2.length (CS.ofSt PS.z.tell)).length:=by
   obtain⟨j,hj⟩:=hpz2
   rw[c9 (by simp[hb7]),hj];simp
  generalize co (Z2++CS.z.bl Z2.length) Z2.length (CS.ofSt PS.z.tell)=Z3 at*
  refine kq F (hq) ?_
  refine kq F (hsi _) ?_
  refine kq F (sf G kind id g _) ?_
  refine kq F (hnn) ?_
  have F:=F3 F @hneq (F3 (@beq_self_eq_true Int _ _) (@beq_self_eq_true Bool _ _) (@beq_self_eq_true Bs _ _))
  try refine sq F ?_
  refine wk F ?_
  refine kq F (nM G _) ?_
  refine kq F (hz0) ?_
  refine kq F (qg G _) ?_
  refine kq F (hs0 _) ?_
  refine ee hQ F ?_
  exact eG hfr hle (.clo _ (.bool _)) ⟨rfl,rfl⟩
end Go.Av
