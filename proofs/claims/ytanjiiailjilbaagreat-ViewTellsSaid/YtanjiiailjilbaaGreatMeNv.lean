/- The counts of any fold, and any one of them; nil ones: the parts. -/
import Derived.Test.YtanjiiailjilbaaGreatMeXl
set_option linter.unusedSimpArgs false
set_option linter.unusedVariables false
set_option linter.unusedSectionVars false
set_option linter.unnecessarySimpa false
set_option maxRecDepth 100000
set_option maxHeartbeats 4000000
namespace Go.Av
open Go Go.Proofs Go.RowKit
attribute [local irreducible] WP WPl WPix Sat
theorem fO{h H:Heap}{R:AVal→Heap→Prop}{r0 r:AVal}(f:FrN h.length h H)(g:h.length≤H.length)(hz:Frz H h.length r0 r)(hR:R r h):Fin h H R r0:=by
 obtain⟨j,hj⟩:=f.behind g
 rw[hj]at hz ⊢
 exact Fin.frz hz hR
variable (G:Nat→Option (List AVal))
theorem jO(x:St)(id:Int)(hl:x.fe.length≤100000){h:Heap}{p w:Nat}(hg:getRow h p w=some (51,4,x.fe.map Fe.av)):Sat (CT G) 82 [.agg [.int .i64 x.clock,.sl 3 (x.fo.map Fo.av),.hs p w 0 x.fe.length true,.sl 9 (x.it.map It.av),.sl 3 (x.se.map Se.av),.int .i64 x.t1,.int .i64 x.t2,.int .i64 x.t3,.int .i64 x.t4],.int .i64 id] h (fun r h'=>r=.int .i64 (posF (·.id) x.fe id)∧h'=h):=by
 have hel:(x.fe.map Fe.av).length=x.fe.length:=List.length_map ..
 have hpl:=b9 hg
 have hgj:∀j,getRow (h++j) p w=some (51,4,x.fe.map Fe.av):=fun j=>by rw[aN _ hpl];exact hg
 have F:=F3 hel hg hgj
 refine sb [.tmp 4] (fn:=Tryz.f82) Tryz.func82 ?_
 intro Q hQ
 refine wk F ?_
 refine lm (fun nL tL hL=>∃(k:Nat),x.fe.length-k=nL∧h++[.row 34 9 0 [.agg [.int .i64 x.clock,.sl 3 (x.fo.map Fo.av),.hs p w 0 x.fe.length true,.sl 9 (x.it.map It.av),.sl 3 (x.se.map Se.av),.int .i64 x.t1,.int .i64 x.t2,.int .i64 x.t3,.int .i64 x.t4]]]=hL∧tL 1=.int .i64 id∧tL 2=.hp h.length 0 0 0∧tL 5=.int .i64 k∧k≤x.fe.length∧(∀f∈x.fe.take k,f.id≠id)) ((fun(k:Nat)=>(x.fe.length-k:Nat)) (0)) ?_ ?_
 ·refine Wkn.refl ⟨0,rfl,ay,?_,?_,?_,by omega,by simp⟩
  all_goals first|exact zq F|rfl|omega|trivial|skip
 rintro _ s2 h' ⟨k,rfl,rfl,e1,e2,e5,hk,hp⟩ K2 hK2
 simp only[ak,ao,Nat.reduceEqDiff, ↓reduceIte]at e1 e2 e5
 have F:=F4 F e1 e2 e5
 refine wk F ?_
 refine cq F (fun c1=>?_) (fun c1=>?_)<;>(try exact c1.elim)<;>(refine wk F ?_)
 ·have c2:k<x.fe.length:=by omega
  obtain⟨f,hf,hfm⟩:=ac c2
  have F:=F3 F c2 hf
  try refine sq F ?_
  refine wk F ?_
  refine cq F (fun c3=>?_) (fun c3=>?_)<;>(try exact c3.elim)<;>(refine wk F ?_)
  ·refine ee hQ F ?_
   exact Fin.plain (.int _ _) ⟨by rw[cK hf (by first|exact c3|exact c3.symm) hp],rfl⟩
  ·have hp1:∀g∈x.fe.take (k+1),g.id≠id:=by
    rw[List.take_add_one,hf]
    intro g hg
    simp at hg
    rcases hg with hg|rfl
    ·exact hp g hg
    ·exact c3
   refine hK2 _ _ _ (Wkn.refl ⟨k+1,rfl,ay,?_,?_,?_,by omega,hp1⟩) (by omega)
   all_goals first|exact zq F|rfl|omega|trivial|skip
 ·rw[List.take_of_length_le (by omega)]at hp
  refine ee hQ F ?_
  exact Fin.plain (.int _ _) ⟨by rw[cc hp],rfl⟩
theorem gn(x:St)(id:Int)(hl:x.it.length≤100000){h:Heap}{p w:Nat}(hg:getRow h p w=some (82,9,x.it.map It.av)):Sat (CT G) 72 [.agg [.int .i64 x.clock,.sl 3 (x.fo.map Fo.av),.sl 4 (x.fe.map Fe.av),.hs p w 0 x.it.length true,.sl 3 (x.se.map Se.av),.int .i64 x.t1,.int .i64 x.t2,.int .i64 x.t3,.int .i64 x.t4],.int .i64 id] h (fun r h'=>r=.int .i64 (posF (·.id) x.it id)∧h'=h):=by
 have hel:(x.it.map It.av).length=x.it.length:=List.length_map ..
 have hpl:=b9 hg
 have hgj:∀j,getRow (h++j) p w=some (82,9,x.it.map It.av):=fun j=>by rw[aN _ hpl];exact hg
 have F:=F3 hel hg hgj
 refine sb [.tmp 4] (fn:=Tryz.f72) Tryz.func72 ?_
 intro Q hQ
 refine wk F ?_
 refine lm (fun nL tL hL=>∃(k:Nat),x.it.length-k=nL∧h++[.row 34 9 0 [.agg [.int .i64 x.clock,.sl 3 (x.fo.map Fo.av),.sl 4 (x.fe.map Fe.av),.hs p w 0 x.it.length true,.sl 3 (x.se.map Se.av),.int .i64 x.t1,.int .i64 x.t2,.int .i64 x.t3,.int .i64 x.t4]]]=hL∧tL 1=.int .i64 id∧tL 2=.hp h.length 0 0 0∧tL 5=.int .i64 k∧k≤x.it.length∧(∀f∈x.it.take k,f.id≠id)) ((fun(k:Nat)=>(x.it.length-k:Nat)) (0)) ?_ ?_
 ·refine Wkn.refl ⟨0,rfl,ay,?_,?_,?_,by omega,by simp⟩
  all_goals first|exact zq F|rfl|omega|trivial|skip
 rintro _ s2 h' ⟨k,rfl,rfl,e1,e2,e5,hk,hp⟩ K2 hK2
 simp only[ak,ao,Nat.reduceEqDiff, ↓reduceIte]at e1 e2 e5
 have F:=F4 F e1 e2 e5
 refine wk F ?_
 refine cq F (fun c1=>?_) (fun c1=>?_)<;>(try exact c1.elim)<;>(refine wk F ?_)
 ·have c2:k<x.it.length:=by omega
  obtain⟨f,hf,hfm⟩:=ac c2
  have F:=F3 F c2 hf
  try refine sq F ?_
  refine wk F ?_
  refine cq F (fun c3=>?_) (fun c3=>?_)<;>(try exact c3.elim)<;>(refine wk F ?_)
  ·refine ee hQ F ?_
   exact Fin.plain (.int _ _) ⟨by rw[cK hf (by first|exact c3|exact c3.symm) hp],rfl⟩
  ·have hp1:∀g∈x.it.take (k+1),g.id≠id:=by
    rw[List.take_add_one,hf]
    intro g hg
    simp at hg
    rcases hg with hg|rfl
    ·exact hp g hg
    ·exact c3
   refine hK2 _ _ _ (Wkn.refl ⟨k+1,rfl,ay,?_,?_,?_,by omega,hp1⟩) (by omega)
   all_goals first|exact zq F|rfl|omega|trivial|skip
 ·rw[List.take_of_length_le (by omega)]at hp
  refine ee hQ F ?_
  exact Fin.plain (.int _ _) ⟨by rw[cc hp],rfl⟩
theorem sB(x:St)(e:Ev)(k1:e.kind=5)(hF:∀h,Sat (CT G) 79 [x.av,e.av] h (fun r h'=>r=.bool true∧h'=h))(i:Nat)(f:Fe)(hf:x.fe[i]? =some f)(hp:posF (·.id) x.fe e.a=(i:Int))(hl:x.fe.length≤100000)(h:Heap):
  Sat (CT G) 43 [x.av,e.av] h (fun r h'=>r=.tup [({x with fe:=x.fe.set i {f with title:=e.t}}:St).av,.bool true]∧h'=h):=by
 have hel:(x.fe.map Fe.av).length=x.fe.length:=List.length_map ..
 have hil:i<x.fe.length:=(List.getElem?_eq_some_iff.1 hf).1
 simp only[Ev.av_eq,k1]at hF
 have F:=k1
 refine sb [.cell 4 34,.tmp 5] (fn:=Tryz.f43) Tryz.func43 ?_
 intro Q hQ
 refine wk F ?_
 refine kq F (hF _) ?_
 refine aL (n0:=h.length+3) (.ez _ _ _ _) (by simp) ?_
 intro v1 h1 L1 f1 g1
 rw[List.nil_append]at L1
 rcases L1 with⟨hnil,_⟩| ⟨p,w,rfl,hg,hpp⟩
 ·rw[List.map_eq_nil_iff]at hnil;rw[hnil]at hil;simp at hil
 rw[hel]
 obtain⟨r1,r2,r3⟩:=f1.r3
 simp only[List.length_append,List.length_cons,List.length_nil]at g1
 have hpl:=b9 hg
 have hn1:h.length<h1.length:=by omega
 have hz:h.length+2<h1.length:=by omega
 have hne:h.length≠p:=by omega
 have hne2:h.length+2≠p:=by omega
 have hgs:∀b,getRow (h1.set h.length b) p w=some (51,4,x.fe.map Fe.av):=fun b=>by rw[aZ _ _ hne];exact hg
 have hH:=fun b=>jO G x e.a hl (hgs b)
 simp only[hp]at hH
 have F:=F8 F r1 r2 r3 hg hf hil @ax
 try refine sq F ?_
 refine wk F ?_
 refine kq F (hH _) ?_
 refine ye hQ F ?_
 have hrw:(x.fe.map Fe.av).set i (Fe.av {f with title:=e.t})=(x.fe.set i {f with title:=e.t}).map Fe.av:=by rw[List.map_set]
 simp only[Fe.av_eq]at hrw
 rw[hrw]
 have fr0:FrN h.length h h1:=FrN.trans (FrN.app _ (Nat.le_refl _) (FrN.refl _ _)) (f1.less (by omega))
 refine fO (FrN.set _ (by omega) (FrN.set _ (by omega) (FrN.set _ (Nat.le_refl _) fr0))) (by simp;omega) (FrzL.tup (.cons (bo (x:= {x with fe:=x.fe.set i {f with title:=e.t}}) (ap (Fo.clo _) _) ?_ (ap (It.clo _) _) (ap (Se.clo _) _)) (.cons (.clo _ (.bool _)) .nil))) ⟨rfl,rfl⟩
 refine Frz.data (q:=p) (v:=w) (e:=51) (by omega) ?_ (by simp) (bS (Fe.clo _) _) (ep Fe.sto _)
 rw[aZ _ _ hne2,bJ _ _ _ _ _ (by rw[List.length_set];exact hpl),if_pos rfl]
theorem sC(x:St)(e:Ev)(k1:e.kind=6)(hF:∀h,Sat (CT G) 79 [x.av,e.av] h (fun r h'=>r=.bool true∧h'=h))(i:Nat)(f:Fe)(hf:x.fe[i]? =some f)(hp:posF (·.id) x.fe e.a=(i:Int))(hl:x.fe.length≤100000)(h:Heap):
  Sat (CT G) 43 [x.av,e.av] h (fun r h'=>r=.tup [({x with fe:=x.fe.set i {f with inn:=e.b}}:St).av,.bool true]∧h'=h):=by
 have hel:(x.fe.map Fe.av).length=x.fe.length:=List.length_map ..
 have hil:i<x.fe.length:=(List.getElem?_eq_some_iff.1 hf).1
 simp only[Ev.av_eq,k1]at hF
 have F:=k1
 refine sb [.cell 4 34,.tmp 5] (fn:=Tryz.f43) Tryz.func43 ?_
 intro Q hQ
 refine wk F ?_
 refine kq F (hF _) ?_
 refine aL (n0:=h.length+3) (.ez _ _ _ _) (by simp) ?_
 intro v1 h1 L1 f1 g1
 rw[List.nil_append]at L1
 rcases L1 with⟨hnil,_⟩| ⟨p,w,rfl,hg,hpp⟩
 ·rw[List.map_eq_nil_iff]at hnil;rw[hnil]at hil;simp at hil
 rw[hel]
 obtain⟨r1,r2,r3⟩:=f1.r3
 simp only[List.length_append,List.length_cons,List.length_nil]at g1
 have hpl:=b9 hg
 have hn1:h.length<h1.length:=by omega
 have hz:h.length+2<h1.length:=by omega
 have hne:h.length≠p:=by omega
 have hne2:h.length+2≠p:=by omega
 have hgs:∀b,getRow (h1.set h.length b) p w=some (51,4,x.fe.map Fe.av):=fun b=>by rw[aZ _ _ hne];exact hg
 have hH:=fun b=>jO G x e.a hl (hgs b)
 simp only[hp]at hH
 have F:=F8 F r1 r2 r3 hg hf hil @ax
 try refine sq F ?_
 refine wk F ?_
 refine kq F (hH _) ?_
 refine ye hQ F ?_
 have hrw:(x.fe.map Fe.av).set i (Fe.av {f with inn:=e.b})=(x.fe.set i {f with inn:=e.b}).map Fe.av:=by rw[List.map_set]
 simp only[Fe.av_eq]at hrw
 rw[hrw]
 have fr0:FrN h.length h h1:=FrN.trans (FrN.app _ (Nat.le_refl _) (FrN.refl _ _)) (f1.less (by omega))
 refine fO (FrN.set _ (by omega) (FrN.set _ (by omega) (FrN.set _ (Nat.le_refl _) fr0))) (by simp;omega) (FrzL.tup (.cons (bo (x:= {x with fe:=x.fe.set i {f with inn:=e.b}}) (ap (Fo.clo _) _) ?_ (ap (It.clo _) _) (ap (Se.clo _) _)) (.cons (.clo _ (.bool _)) .nil))) ⟨rfl,rfl⟩
 refine Frz.data (q:=p) (v:=w) (e:=51) (by omega) ?_ (by simp) (bS (Fe.clo _) _) (ep Fe.sto _)
 rw[aZ _ _ hne2,bJ _ _ _ _ _ (by rw[List.length_set];exact hpl),if_pos rfl]
theorem sD(x:St)(e:Ev)(k1:e.kind=8)(hF:∀h,Sat (CT G) 79 [x.av,e.av] h (fun r h'=>r=.bool true∧h'=h))(i:Nat)(f:It)(hf:x.it[i]? =some f)(hp:posF (·.id) x.it e.a=(i:Int))(hl:x.it.length≤100000)(h:Heap):
  Sat (CT G) 43 [x.av,e.av] h (fun r h'=>r=.tup [({x with it:=x.it.set i {f with read:=e.n==1}}:St).av,.bool true]∧h'=h):=by
 have hel:(x.it.map It.av).length=x.it.length:=List.length_map ..
 have hil:i<x.it.length:=(List.getElem?_eq_some_iff.1 hf).1
 simp only[Ev.av_eq,k1]at hF
 have F:=k1
 refine sb [.cell 4 34,.tmp 5] (fn:=Tryz.f43) Tryz.func43 ?_
 intro Q hQ
 refine wk F ?_
 refine kq F (hF _) ?_
 refine aL (n0:=h.length+3) (.ez _ _ _ _) (by simp) ?_
 intro v1 h1 L1 f1 g1
 rw[List.nil_append]at L1
 rcases L1 with⟨hnil,_⟩| ⟨p,w,rfl,hg,hpp⟩
 ·rw[List.map_eq_nil_iff]at hnil;rw[hnil]at hil;simp at hil
 rw[hel]
 obtain⟨r1,r2,r3⟩:=f1.r3
 simp only[List.length_append,List.length_cons,List.length_nil]at g1
 have hpl:=b9 hg
 have hn1:h.length<h1.length:=by omega
 have hz:h.length+2<h1.length:=by omega
 have hne:h.length≠p:=by omega
 have hne2:h.length+2≠p:=by omega
 have hgs:∀b,getRow (h1.set h.length b) p w=some (82,9,x.it.map It.av):=fun b=>by rw[aZ _ _ hne];exact hg
 have hH:=fun b=>gn G x e.a hl (hgs b)
 simp only[hp]at hH
 have F:=F8 F r1 r2 r3 hg hf hil @ax
 try refine sq F ?_
 refine wk F ?_
 refine kq F (hH _) ?_
 refine ye hQ F ?_
 have hrw:(x.it.map It.av).set i (It.av {f with read:=e.n==1})=(x.it.set i {f with read:=e.n==1}).map It.av:=by rw[List.map_set]
 simp only[It.av_eq]at hrw
 rw[hrw]
 have fr0:FrN h.length h h1:=FrN.trans (FrN.app _ (Nat.le_refl _) (FrN.refl _ _)) (f1.less (by omega))
 refine fO (FrN.set _ (by omega) (FrN.set _ (by omega) (FrN.set _ (Nat.le_refl _) fr0))) (by simp;omega) (FrzL.tup (.cons (bo (x:= {x with it:=x.it.set i {f with read:=e.n==1}}) (ap (Fo.clo _) _) (ap (Fe.clo _) _) ?_ (ap (Se.clo _) _)) (.cons (.clo _ (.bool _)) .nil))) ⟨rfl,rfl⟩
 refine Frz.data (q:=p) (v:=w) (e:=82) (by omega) ?_ (by simp) (bS (It.clo _) _) (ep It.sto _)
 rw[aZ _ _ hne2,bJ _ _ _ _ _ (by rw[List.length_set];exact hpl),if_pos rfl]
theorem sE(x:St)(e:Ev)(k1:e.kind=9)(hF:∀h,Sat (CT G) 79 [x.av,e.av] h (fun r h'=>r=.bool true∧h'=h))(i:Nat)(f:It)(hf:x.it[i]? =some f)(hp:posF (·.id) x.it e.a=(i:Int))(hl:x.it.length≤100000)(h:Heap):
  Sat (CT G) 43 [x.av,e.av] h (fun r h'=>r=.tup [({x with it:=x.it.set i {f with star:=e.n==1}}:St).av,.bool true]∧h'=h):=by
 have hel:(x.it.map It.av).length=x.it.length:=List.length_map ..
 have hil:i<x.it.length:=(List.getElem?_eq_some_iff.1 hf).1
 simp only[Ev.av_eq,k1]at hF
 have F:=k1
 refine sb [.cell 4 34,.tmp 5] (fn:=Tryz.f43) Tryz.func43 ?_
 intro Q hQ
 refine wk F ?_
 refine kq F (hF _) ?_
 refine aL (n0:=h.length+3) (.ez _ _ _ _) (by simp) ?_
 intro v1 h1 L1 f1 g1
 rw[List.nil_append]at L1
 rcases L1 with⟨hnil,_⟩| ⟨p,w,rfl,hg,hpp⟩
 ·rw[List.map_eq_nil_iff]at hnil;rw[hnil]at hil;simp at hil
 rw[hel]
 obtain⟨r1,r2,r3⟩:=f1.r3
 simp only[List.length_append,List.length_cons,List.length_nil]at g1
 have hpl:=b9 hg
 have hn1:h.length<h1.length:=by omega
 have hz:h.length+2<h1.length:=by omega
 have hne:h.length≠p:=by omega
 have hne2:h.length+2≠p:=by omega
 have hgs:∀b,getRow (h1.set h.length b) p w=some (82,9,x.it.map It.av):=fun b=>by rw[aZ _ _ hne];exact hg
 have hH:=fun b=>gn G x e.a hl (hgs b)
 simp only[hp]at hH
 have F:=F8 F r1 r2 r3 hg hf hil @ax
 try refine sq F ?_
 refine wk F ?_
 refine kq F (hH _) ?_
 refine ye hQ F ?_
 have hrw:(x.it.map It.av).set i (It.av {f with star:=e.n==1})=(x.it.set i {f with star:=e.n==1}).map It.av:=by rw[List.map_set]
 simp only[It.av_eq]at hrw
 rw[hrw]
 have fr0:FrN h.length h h1:=FrN.trans (FrN.app _ (Nat.le_refl _) (FrN.refl _ _)) (f1.less (by omega))
 refine fO (FrN.set _ (by omega) (FrN.set _ (by omega) (FrN.set _ (Nat.le_refl _) fr0))) (by simp;omega) (FrzL.tup (.cons (bo (x:= {x with it:=x.it.set i {f with star:=e.n==1}}) (ap (Fo.clo _) _) (ap (Fe.clo _) _) ?_ (ap (Se.clo _) _)) (.cons (.clo _ (.bool _)) .nil))) ⟨rfl,rfl⟩
 refine Frz.data (q:=p) (v:=w) (e:=82) (by omega) ?_ (by simp) (bS (It.clo _) _) (ep It.sto _)
 rw[aZ _ _ hne2,bJ _ _ _ _ _ (by rw[List.length_set];exact hpl),if_pos rfl]
theorem qq(x:St)(e:Ev)(k1:e.kind=10)(hF:∀h,Sat (CT G) 79 [x.av,e.av] h (fun r h'=>r=.bool true∧h'=h))(i:Nat)(f:It)(hf:x.it[i]? =some f)(hp:posF (·.id) x.it e.a=(i:Int))(hl:x.it.length≤100000)(ht:f.tags.length≤100000)(h:Heap):
  Sat (CT G) 43 [x.av,e.av] h (fun r h'=>r=.tup [({x with it:=x.it.set i {f with tags:=tgR e.s f.tags (!(e.n==1))}}:St).av,.bool true]∧h'=h):=by
 have hel:(x.it.map It.av).length=x.it.length:=List.length_map ..
 have hil:i<x.it.length:=(List.getElem?_eq_some_iff.1 hf).1
 simp only[Ev.av_eq,k1]at hF
 have F:=k1
 refine sb [.cell 4 34,.tmp 5] (fn:=Tryz.f43) Tryz.func43 ?_
 intro Q hQ
 refine wk F ?_
 refine kq F (hF _) ?_
 refine aL (n0:=h.length+3) (.ez _ _ _ _) (by simp) ?_
 intro v1 h1 L1 f1 g1
 rw[List.nil_append]at L1
 rcases L1 with⟨hnil,_⟩| ⟨p,w,rfl,hg,hpp⟩
 ·rw[List.map_eq_nil_iff]at hnil;rw[hnil]at hil;simp at hil
 rw[hel]
 obtain⟨r1,r2,r3⟩:=f1.r3
 simp only[List.length_append,List.length_cons,List.length_nil]at g1
 have hpl:=b9 hg
 have hn1:h.length<h1.length:=by omega
 have hz:h.length+2<h1.length:=by omega
 have hne:h.length≠p:=by omega
 have hne2:h.length+2≠p:=by omega
 have hgs:∀b,getRow (h1.set h.length b) p w=some (82,9,x.it.map It.av):=fun b=>by rw[aZ _ _ hne];exact hg
 have hH:=fun b=>gn G x e.a hl (hgs b)
 simp only[hp]at hH
 have F:=F8 F r1 r2 r3 hg hf hil @ax
 try refine sq F ?_
 refine wk F ?_
 refine kq F (hH _) ?_
 have hw:=two (e.n==1)
 have hT:=rW G f.tags e.s (e.n==1) ht
 refine aA (hT _) ?_
 try refine sq F ?_
 refine wk F ?_
 refine ye hQ F ?_
 have hrw:(x.it.map It.av).set i (It.av {f with tags:=tgR e.s f.tags (!(e.n==1))})=(x.it.set i {f with tags:=tgR e.s f.tags (!(e.n==1))}).map It.av:=by rw[List.map_set]
 simp only[It.av_eq]at hrw
 rw[hrw]
 have fr0:FrN h.length h h1:=FrN.trans (FrN.app _ (Nat.le_refl _) (FrN.refl _ _)) (f1.less (by omega))
 refine fO (FrN.set _ (by omega) (FrN.set _ (by omega) (FrN.set _ (Nat.le_refl _) fr0))) (by simp;omega) (FrzL.tup (.cons (bo (x:= {x with it:=x.it.set i {f with tags:=tgR e.s f.tags (!(e.n==1))}}) (ap (Fo.clo _) _) (ap (Fe.clo _) _) ?_ (ap (Se.clo _) _)) (.cons (.clo _ (.bool _)) .nil))) ⟨rfl,rfl⟩
 refine Frz.data (q:=p) (v:=w) (e:=82) (by omega) ?_ (by simp) (bS (It.clo _) _) (ep It.sto _)
 rw[aZ _ _ hne2,bJ _ _ _ _ _ (by rw[List.length_set];exact hpl),if_pos rfl]
end Go.Av
namespace Go.Av
open Go Go.Proofs Go.RowKit
attribute [local irreducible] WP WPl WPix Sat
section
variable {s:PS} {e:Ev}
theorem St.clo(N:Nat)(x:St):Clo N x.av:=.agg _ fun c hc=>by
 simp only[List.mem_cons,List.not_mem_nil,or_false]at hc
 rcases hc with rfl|rfl|rfl|rfl|rfl|rfl|rfl|rfl|rfl
 ·exact .int _ _
 ·exact Clo.sl _ _ (bS (Fo.clo N) _)
 ·exact Clo.sl _ _ (bS (Fe.clo N) _)
 ·exact Clo.sl _ _ (bS (It.clo N) _)
 ·exact Clo.sl _ _ (bS (Se.clo N) _)
 all_goals exact .int _ _
theorem St.clo2(N:Nat)(x:St)(b:Bool):Clo N (.tup [x.av,.bool b]):=.tup _ fun c hc=>by
 simp only[List.mem_cons,List.not_mem_nil,or_false]at hc
 rcases hc with rfl|rfl
 ·exact St.clo _ _
 ·exact .bool _
theorem xD(s:PS)(a:Int):s.raise 0 a= {s with t1:=topI s.t1 a}:=by
 unfold PS.raise topI;simp only
 congr 1
 split<;>split<;>omega
theorem xE(s:PS)(a:Int):s.raise 1 a= {s with t2:=topI s.t2 a}:=by
 unfold PS.raise topI;simp only
 congr 1
 split<;>split<;>omega
theorem xF(s:PS)(a:Int):s.raise 2 a= {s with t3:=topI s.t3 a}:=by
 unfold PS.raise topI;simp only
 congr 1
 split<;>split<;>omega
theorem xG(s:PS)(a:Int):s.raise 3 a= {s with t4:=topI s.t4 a}:=by
 unfold PS.raise topI;simp only
 congr 1
 split<;>split<;>omega
theorem Ab(hI:s.Inv)(k:e.kind=1)(hn:lkM s.fo e.a=none):(s.aft e).tell= {s.tell with fo:=s.tell.fo.take (insI (·.id) s.tell.fo e.a)++(⟨e.a,e.b,e.s⟩:Fo)::s.tell.fo.drop (insI (·.id) s.tell.fo e.a),t1:=topI s.tell.t1 e.a}:=by
 have h1:=gj (z:=Fo.z) (key:=(·.id)) hI.w1 (fun k f hk=>(hI.i1 k f hk).1) (a:=(⟨e.a,e.b,e.s⟩:Fo)) hn rfl
 unfold PS.aft PS.after
 rw[if_neg (by omega),if_neg (by omega),if_neg (by omega),if_neg (by omega),if_neg (by omega),if_neg (by omega),if_neg (by omega),if_neg (by omega),if_neg (by omega),PS.make,if_pos k,aM,xD]
 change St.mk _ _ _ _ _ _ _ _ _=_
 simp only[PS.tell,PS.upFo,PS.upNm]
 rw[h1]
theorem Ac(hI:s.Inv)(k:e.kind=3)(hn:lkM s.fe e.a=none):(s.aft e).tell= {s.tell with fe:=s.tell.fe.take (insI (·.id) s.tell.fe e.a)++(⟨e.a,e.b,e.s,e.t⟩:Fe)::s.tell.fe.drop (insI (·.id) s.tell.fe e.a),t2:=topI s.tell.t2 e.a}:=by
 have h1:=gj (z:=Fe.z) (key:=(·.id)) hI.w2 (fun k f hk=>(hI.i2 k f hk).1) (a:=(⟨e.a,e.b,e.s,e.t⟩:Fe)) hn rfl
 unfold PS.aft PS.after
 rw[if_neg (by omega),if_neg (by omega),if_neg (by omega),if_neg (by omega),if_neg (by omega),if_neg (by omega),if_neg (by omega),if_neg (by omega),if_neg (by omega),PS.make,if_neg (by omega),if_pos k,aM,xE]
 change St.mk _ _ _ _ _ _ _ _ _=_
 simp only[PS.tell,PS.upFe,PS.upPl]
 rw[h1]
theorem Ad(hI:s.Inv)(k:e.kind=7)(hn:lkM s.it e.a=none):(s.aft e).tell= {s.tell with it:=s.tell.it.take (insI (·.id) s.tell.it e.a)++(⟨e.a,e.b,e.n,e.s,e.t,e.u,false,false,[]⟩:It)::s.tell.it.drop (insI (·.id) s.tell.it e.a),t3:=topI s.tell.t3 e.a}:=by
 have h1:=gj (z:=It.z) (key:=(·.id)) hI.w3 (fun k f hk=>(hI.i3 k f hk).1) (a:=(⟨e.a,e.b,e.n,e.s,e.t,e.u,false,false,[]⟩:It)) hn rfl
 unfold PS.aft PS.after
 rw[if_neg (by omega),if_neg (by omega),if_neg (by omega),if_neg (by omega),if_neg (by omega),if_neg (by omega),if_neg (by omega),if_neg (by omega),if_neg (by omega),PS.make,if_neg (by omega),if_neg (by omega),if_pos k,xF]
 change St.mk _ _ _ _ _ _ _ _ _=_
 simp only[PS.tell,PS.upIt,PS.upGu]
 rw[h1]
theorem xH(hI:s.Inv)(k:e.kind=11)(hn:lkM s.se e.a=none):(s.aft e).tell= {s.tell with se:=s.tell.se.take (insI (·.id) s.tell.se e.a)++(⟨e.a,e.s,e.t⟩:Se)::s.tell.se.drop (insI (·.id) s.tell.se e.a),t4:=topI s.tell.t4 e.a}:=by
 have h1:=gj (z:=Se.z) (key:=(·.id)) hI.w4 (fun k f hk=>(hI.i4 k f hk).1) (a:=(⟨e.a,e.s,e.t⟩:Se)) hn rfl
 unfold PS.aft PS.after
 rw[if_neg (by omega),if_neg (by omega),if_neg (by omega),if_neg (by omega),if_neg (by omega),if_neg (by omega),if_neg (by omega),if_neg (by omega),if_neg (by omega),PS.make,if_neg (by omega),if_neg (by omega),if_neg (by omega),if_pos k,xG]
 change St.mk _ _ _ _ _ _ _ _ _=_
 simp only[PS.tell,PS.upSe,PS.upSe]
 rw[h1]
theorem Ae(hI:s.Inv)(k:e.kind=2){f:Fo}(hf:lkM s.fo e.a=some f){i:Nat}(hi:s.tell.fo[i]? =some f):(s.aft e).tell= {s.tell with fo:=s.tell.fo.take i++s.tell.fo.drop (i+1)}:=by
 have h1:=iZ (z:=Fo.z) (key:=(·.id)) hI.w1 (fun k f hk=>(hI.i1 k f hk).1) hi (hI.i1 _ _ hf).1
 unfold PS.aft PS.after
 rw[if_pos k,aM]
 change St.mk _ _ _ _ _ _ _ _ _=_
 simp only[PS.tell,PS.dlFo,PS.dlNm]at h1 ⊢
 rw[h1]
theorem xI(hI:s.Inv)(k:e.kind=12){f:Se}(hf:lkM s.se e.a=some f){i:Nat}(hi:s.tell.se[i]? =some f):(s.aft e).tell= {s.tell with se:=s.tell.se.take i++s.tell.se.drop (i+1)}:=by
 have h1:=iZ (z:=Se.z) (key:=(·.id)) hI.w4 (fun k f hk=>(hI.i4 k f hk).1) hi (hI.i4 _ _ hf).1
 unfold PS.aft PS.after
 rw[if_neg (by omega),if_neg (by omega),if_neg (by omega),if_neg (by omega),if_neg (by omega),if_neg (by omega),if_neg (by omega),if_pos k]
 change St.mk _ _ _ _ _ _ _ _ _=_
 simp only[PS.tell,PS.dlSe]at h1 ⊢
 rw[h1]
theorem Af(hI:s.Inv)(k:e.kind=4){f:Fe}(hf:lkM s.fe e.a=some f){i:Nat}(hi:s.tell.fe[i]? =some f):(s.aft e).tell= {s.tell with fe:=s.tell.fe.take i++s.tell.fe.drop (i+1),it:=s.tell.it.filter fun t=>decide (t.feed≠e.a)}:=by
 have hid:=(hI.i2 _ _ hf).1
 have h1:=iZ (z:=Fe.z) (key:=(·.id)) hI.w2 (fun k f hk=>(hI.i2 k f hk).1) hi hid
 have h2:=ux (z:=It.z) (key:=(·.id)) hI.w3 (fun k f hk=>(hI.i3 k f hk).1) fun t=>decide (t.feed≠e.a)
 have h3:itF s.it f.id=s.it.filter fun x=>decide (x.2.1.feed≠e.a):=by
  unfold itF;rw[hid]
  refine List.filter_congr fun x _=>?_
  simp
 unfold PS.aft PS.after
 rw[if_neg (by omega),if_pos k,hf,Option.getD_some,PS.unfeed,aM]
 change St.mk _ _ _ _ _ _ _ _ _=_
 simp only[PS.tell,PS.dlFe,PS.dlPl,hid]at h1 h2 h3 ⊢
 rw[h1,h3,h2]
theorem Ah(hI:s.Inv)(k:e.kind=5){f:Fe}(hf:lkM s.fe e.a=some f){i:Nat}(hi:s.tell.fe[i]? =some f):(s.aft e).tell= {s.tell with fe:=s.tell.fe.set i {f with title:=e.t}}:=by
 have hid:=(hI.i2 _ _ hf).1
 have h1:=eO (z:=Fe.z) (key:=(·.id)) hI.w2 (fun k f hk=>(hI.i2 k f hk).1) (a:= {f with title:=e.t}) hi hid hid
 unfold PS.aft PS.after
 rw[if_neg (by omega),if_neg (by omega),if_pos k,hf,Option.getD_some]
 change St.mk _ _ _ _ _ _ _ _ _=_
 simp only[PS.tell,PS.upFe]at h1 ⊢
 rw[h1]
theorem Ai(hI:s.Inv)(k:e.kind=6){f:Fe}(hf:lkM s.fe e.a=some f){i:Nat}(hi:s.tell.fe[i]? =some f):(s.aft e).tell= {s.tell with fe:=s.tell.fe.set i {f with inn:=e.b}}:=by
 have hid:=(hI.i2 _ _ hf).1
 have h1:=eO (z:=Fe.z) (key:=(·.id)) hI.w2 (fun k f hk=>(hI.i2 k f hk).1) (a:= {f with inn:=e.b}) hi hid hid
 unfold PS.aft PS.after
 rw[if_neg (by omega),if_neg (by omega),if_neg (by omega),if_pos k,hf,Option.getD_some,aM,aM]
 change St.mk _ _ _ _ _ _ _ _ _=_
 simp only[PS.tell,PS.upFe]at h1 ⊢
 rw[h1]
theorem Aj(hI:s.Inv)(k:e.kind=8){f:It}(hf:lkM s.it e.a=some f){i:Nat}(hi:s.tell.it[i]? =some f):(s.aft e).tell= {s.tell with it:=s.tell.it.set i {f with read:=e.n==1}}:=by
 have hid:=(hI.i3 _ _ hf).1
 have h1:=eO (z:=It.z) (key:=(·.id)) hI.w3 (fun k f hk=>(hI.i3 k f hk).1) (a:= {f with read:=e.n==1}) hi hid hid
 unfold PS.aft PS.after
 rw[if_neg (by omega),if_neg (by omega),if_neg (by omega),if_neg (by omega),if_pos k,hf,Option.getD_some]
 change St.mk _ _ _ _ _ _ _ _ _=_
 simp only[PS.tell,PS.upIt]at h1 ⊢
 rw[h1]
theorem Ak(hI:s.Inv)(k:e.kind=9){f:It}(hf:lkM s.it e.a=some f){i:Nat}(hi:s.tell.it[i]? =some f):(s.aft e).tell= {s.tell with it:=s.tell.it.set i {f with star:=e.n==1}}:=by
 have hid:=(hI.i3 _ _ hf).1
 have h1:=eO (z:=It.z) (key:=(·.id)) hI.w3 (fun k f hk=>(hI.i3 k f hk).1) (a:= {f with star:=e.n==1}) hi hid hid
 unfold PS.aft PS.after
 rw[if_neg (by omega),if_neg (by omega),if_neg (by omega),if_neg (by omega),if_neg (by omega),if_pos k,hf,Option.getD_some]
 change St.mk _ _ _ _ _ _ _ _ _=_
 simp only[PS.tell,PS.upIt]at h1 ⊢
 rw[h1]
theorem xJ(hI:s.Inv)(k:e.kind=10){f:It}(hf:lkM s.it e.a=some f){i:Nat}(hi:s.tell.it[i]? =some f):(s.aft e).tell= {s.tell with it:=s.tell.it.set i {f with tags:=tgF f.tags e.s e.n}}:=by
 have hid:=(hI.i3 _ _ hf).1
 have h1:=eO (z:=It.z) (key:=(·.id)) hI.w3 (fun k f hk=>(hI.i3 k f hk).1) (a:= {f with tags:=tgF f.tags e.s e.n}) hi hid hid
 unfold PS.aft PS.after
 rw[if_neg (by omega),if_neg (by omega),if_neg (by omega),if_neg (by omega),if_neg (by omega),if_neg (by omega),if_pos k,hf,Option.getD_some]
 change St.mk _ _ _ _ _ _ _ _ _=_
 simp only[PS.tell,PS.upIt]at h1 ⊢
 rw[h1]
theorem xK(k:e.kind=13):(s.aft e).tell= {s.tell with clock:=e.n}:=by
 unfold PS.aft PS.after
 rw[if_neg (by omega),if_neg (by omega),if_neg (by omega),if_neg (by omega),if_neg (by omega),if_neg (by omega),if_neg (by omega),if_neg (by omega),if_pos k];rfl
end
theorem H6:∀(i:Nat) (r s:AVal),[AVal.agg [.int .i64 0,.nil (.slice none 0 0),.nil (.slice none 0 0),.nil (.slice none 0 0),.nil (.slice none 0 0),.int .i64 0,.int .i64 0,.int .i64 0,.int .i64 0]][i]? =some r→[PS.z.tell.av][i]? =some s→WkR r s:=fun i r s hr hs=>by
 match i with
 |0=>
  simp at hr hs
  subst hr;subst hs
  refine⟨rfl,fun j c d hc hd=>?_⟩
  match j with
  |0|5|6|7|8=>simp[PS.tell,PS.z,St.av,AVal.cells]at hc hd;subst hc;subst hd;exact⟨Wk.refl _,id⟩
  |1|2|3|4=>
   simp[PS.tell,PS.z,St.av,AVal.cells,valsM,sortI]at hc hd
   subst hc;subst hd
   exact⟨fun w S μ x hx=>by cases hx;exact .sl0 _ _ _,fun _=>rfl⟩
  |j+9=>simp[AVal.cells]at hc
 |i+1=>simp at hr
variable (G:Nat→Option (List AVal))
theorem Al(hc:GClo (CT G)){s:PS}(hI:s.Inv)(hN:s.Nam)(e:Ev)(k1:e.kind=1)(hok:s.ok L0 e=true)(h:Heap):Sat (CT G) 43 [s.tell.av,e.av] h (fun r h'=>r=.tup [(s.aft e).tell.av,.bool true]∧h'=h):=by
 have hF:=aU G hc hI hN e
 rw[hok]at hF
 have hl1:s.tell.fo.length≤100000:=by have:=hI.up.l1;omega
 have hl2:s.tell.fe.length≤100000:=by have:=hI.up.l2;omega
 have hl3:s.tell.it.length≤100000:=by have:=hI.up.l3;omega
 have hl4:s.tell.se.length≤100000:=by have:=aG (z:=Se.z) s.se;have:=hI.l4;show(valsM Se.z s.se).length≤_;omega
 have hno:lkM s.fo e.a=none:=by
  unfold PS.ok PS.fits at hok
  rw[Bool.and_eq_true]at hok
  have:=hok.2
  rw[if_pos k1]at this;simp only[Bool.and_eq_true,Bool.not_eq_true']at this;exact bR this.1.1.1.1
 have hM:=qh G s.tell e k1 hl1
 rw[← Ab hI k1 hno]at hM
 simp only[Ev.av_eq,k1]at hF hM
 have F:=k1
 refine sb [.cell 4 34,.tmp 5] (fn:=Tryz.f43) Tryz.func43 ?_
 intro Q hQ
 refine wk F ?_
 refine kq F (hF _) ?_
 refine kq F (hM _) ?_
 refine ye hQ F ?_
 exact Fin.plain (St.clo2 _ _ _) ⟨rfl,rfl⟩
theorem Am(hc:GClo (CT G)){s:PS}(hI:s.Inv)(hN:s.Nam)(e:Ev)(k1:e.kind=3)(hok:s.ok L0 e=true)(h:Heap):Sat (CT G) 43 [s.tell.av,e.av] h (fun r h'=>r=.tup [(s.aft e).tell.av,.bool true]∧h'=h):=by
 have hF:=aU G hc hI hN e
 rw[hok]at hF
 have hl1:s.tell.fo.length≤100000:=by have:=hI.up.l1;omega
 have hl2:s.tell.fe.length≤100000:=by have:=hI.up.l2;omega
 have hl3:s.tell.it.length≤100000:=by have:=hI.up.l3;omega
 have hl4:s.tell.se.length≤100000:=by have:=aG (z:=Se.z) s.se;have:=hI.l4;show(valsM Se.z s.se).length≤_;omega
 have hno:lkM s.fe e.a=none:=by
  unfold PS.ok PS.fits at hok
  rw[Bool.and_eq_true]at hok
  have:=hok.2
  rw[if_neg (by omega),if_neg (by omega),if_pos k1]at this;simp only[Bool.and_eq_true,Bool.not_eq_true']at this;exact bR this.1.1.1
 have hM:=qi G s.tell e k1 hl2
 rw[← Ac hI k1 hno]at hM
 simp only[Ev.av_eq,k1]at hF hM
 have F:=k1
 refine sb [.cell 4 34,.tmp 5] (fn:=Tryz.f43) Tryz.func43 ?_
 intro Q hQ
 refine wk F ?_
 refine kq F (hF _) ?_
 refine kq F (hM _) ?_
 refine ye hQ F ?_
 exact Fin.plain (St.clo2 _ _ _) ⟨rfl,rfl⟩
theorem An(hc:GClo (CT G)){s:PS}(hI:s.Inv)(hN:s.Nam)(e:Ev)(k1:e.kind=7)(hok:s.ok L0 e=true)(h:Heap):Sat (CT G) 43 [s.tell.av,e.av] h (fun r h'=>r=.tup [(s.aft e).tell.av,.bool true]∧h'=h):=by
 have hF:=aU G hc hI hN e
 rw[hok]at hF
 have hl1:s.tell.fo.length≤100000:=by have:=hI.up.l1;omega
 have hl2:s.tell.fe.length≤100000:=by have:=hI.up.l2;omega
 have hl3:s.tell.it.length≤100000:=by have:=hI.up.l3;omega
 have hl4:s.tell.se.length≤100000:=by have:=aG (z:=Se.z) s.se;have:=hI.l4;show(valsM Se.z s.se).length≤_;omega
 have hno:lkM s.it e.a=none:=by
  unfold PS.ok PS.fits at hok
  rw[Bool.and_eq_true]at hok
  have:=hok.2
  rw[if_neg (by omega),if_neg (by omega),if_neg (by omega),if_neg (by omega),if_neg (by omega),if_pos k1]at this;simp only[Bool.and_eq_true,Bool.not_eq_true']at this;exact bR this.1.1.1
 have hM:=qj G s.tell e k1 hl3
 rw[← Ad hI k1 hno]at hM
 simp only[Ev.av_eq,k1]at hF hM
 have F:=k1
 refine sb [.cell 4 34,.tmp 5] (fn:=Tryz.f43) Tryz.func43 ?_
 intro Q hQ
 refine wk F ?_
 refine kq F (hF _) ?_
 refine kq F (hM _) ?_
 refine ye hQ F ?_
 exact Fin.plain (St.clo2 _ _ _) ⟨rfl,rfl⟩
theorem xL(hc:GClo (CT G)){s:PS}(hI:s.Inv)(hN:s.Nam)(e:Ev)(k1:e.kind=11)(hok:s.ok L0 e=true)(h:Heap):Sat (CT G) 43 [s.tell.av,e.av] h (fun r h'=>r=.tup [(s.aft e).tell.av,.bool true]∧h'=h):=by
 have hF:=aU G hc hI hN e
 rw[hok]at hF
 have hl1:s.tell.fo.length≤100000:=by have:=hI.up.l1;omega
 have hl2:s.tell.fe.length≤100000:=by have:=hI.up.l2;omega
 have hl3:s.tell.it.length≤100000:=by have:=hI.up.l3;omega
 have hl4:s.tell.se.length≤100000:=by have:=aG (z:=Se.z) s.se;have:=hI.l4;show(valsM Se.z s.se).length≤_;omega
 have hno:lkM s.se e.a=none:=by
  unfold PS.ok PS.fits at hok
  rw[Bool.and_eq_true]at hok
  have:=hok.2
  rw[if_neg (by omega),if_neg (by omega),if_neg (by omega),if_neg (by omega),if_neg (by omega),if_neg (by omega),if_neg (by omega),if_neg (by omega),if_pos k1]at this;simp only[Bool.and_eq_true,Bool.not_eq_true']at this;exact bR this.1
 have hM:=nW G s.tell e k1 hl4
 rw[← xH hI k1 hno]at hM
 simp only[Ev.av_eq,k1]at hF hM
 have F:=k1
 refine sb [.cell 4 34,.tmp 5] (fn:=Tryz.f43) Tryz.func43 ?_
 intro Q hQ
 refine wk F ?_
 refine kq F (hF _) ?_
 refine kq F (hM _) ?_
 refine ye hQ F ?_
 exact Fin.plain (St.clo2 _ _ _) ⟨rfl,rfl⟩
theorem Ao(hc:GClo (CT G)){s:PS}(hI:s.Inv)(hN:s.Nam)(e:Ev)(k1:e.kind=2)(hok:s.ok L0 e=true)(h:Heap):Sat (CT G) 43 [s.tell.av,e.av] h (fun r h'=>r=.tup [(s.aft e).tell.av,.bool true]∧h'=h):=by
 have hF:=aU G hc hI hN e
 rw[hok]at hF
 have hl1:s.tell.fo.length≤100000:=by have:=hI.up.l1;omega
 have hl2:s.tell.fe.length≤100000:=by have:=hI.up.l2;omega
 have hl3:s.tell.it.length≤100000:=by have:=hI.up.l3;omega
 have hl4:s.tell.se.length≤100000:=by have:=aG (z:=Se.z) s.se;have:=hI.l4;show(valsM Se.z s.se).length≤_;omega
 have hso:(lkM s.fo e.a).isSome=true:=by
  unfold PS.ok PS.fits at hok
  rw[Bool.and_eq_true]at hok
  have:=hok.2
  rw[if_neg (by omega),if_pos k1]at this;simp only[Bool.and_eq_true]at this;exact this.1
 obtain⟨f,hf⟩:=Option.isSome_iff_exists.1 hso
 obtain⟨i,p1,p2,_⟩:=bq (show fnd (·.id) s.tell.fo e.a=some f by rw[hI.fndFo,hf])
 have hil:i<s.tell.fo.length:=(List.getElem?_eq_some_iff.1 p1).1
 have hM:=qf G s.tell e k1 i p2 hil hl1
 rw[← Ae hI k1 hf p1]at hM
 simp only[Ev.av_eq,k1]at hF hM
 have F:=k1
 refine sb [.cell 4 34,.tmp 5] (fn:=Tryz.f43) Tryz.func43 ?_
 intro Q hQ
 refine wk F ?_
 refine kq F (hF _) ?_
 refine kq F (hM _) ?_
 refine ye hQ F ?_
 exact Fin.plain (St.clo2 _ _ _) ⟨rfl,rfl⟩
theorem xM(hc:GClo (CT G)){s:PS}(hI:s.Inv)(hN:s.Nam)(e:Ev)(k1:e.kind=12)(hok:s.ok L0 e=true)(h:Heap):Sat (CT G) 43 [s.tell.av,e.av] h (fun r h'=>r=.tup [(s.aft e).tell.av,.bool true]∧h'=h):=by
 have hF:=aU G hc hI hN e
 rw[hok]at hF
 have hl1:s.tell.fo.length≤100000:=by have:=hI.up.l1;omega
 have hl2:s.tell.fe.length≤100000:=by have:=hI.up.l2;omega
 have hl3:s.tell.it.length≤100000:=by have:=hI.up.l3;omega
 have hl4:s.tell.se.length≤100000:=by have:=aG (z:=Se.z) s.se;have:=hI.l4;show(valsM Se.z s.se).length≤_;omega
 have hso:(lkM s.se e.a).isSome=true:=by
  unfold PS.ok PS.fits at hok
  rw[Bool.and_eq_true]at hok
  have:=hok.2
  rw[if_neg (by omega),if_neg (by omega),if_neg (by omega),if_neg (by omega),if_neg (by omega),if_neg (by omega),if_neg (by omega),if_neg (by omega),if_neg (by omega),if_pos k1]at this;exact this
 obtain⟨f,hf⟩:=Option.isSome_iff_exists.1 hso
 obtain⟨i,p1,p2,_⟩:=bq (show fnd (·.id) s.tell.se e.a=some f by rw[hI.fndSe,hf])
 have hil:i<s.tell.se.length:=(List.getElem?_eq_some_iff.1 p1).1
 have hM:=nV G s.tell e k1 i p2 hil hl4
 rw[← xI hI k1 hf p1]at hM
 simp only[Ev.av_eq,k1]at hF hM
 have F:=k1
 refine sb [.cell 4 34,.tmp 5] (fn:=Tryz.f43) Tryz.func43 ?_
 intro Q hQ
 refine wk F ?_
 refine kq F (hF _) ?_
 refine kq F (hM _) ?_
 refine ye hQ F ?_
 exact Fin.plain (St.clo2 _ _ _) ⟨rfl,rfl⟩
theorem Ap(hc:GClo (CT G)){s:PS}(hI:s.Inv)(hN:s.Nam)(e:Ev)(k1:e.kind=4)(hok:s.ok L0 e=true)(h:Heap):Sat (CT G) 43 [s.tell.av,e.av] h (fun r h'=>r=.tup [(s.aft e).tell.av,.bool true]∧h'=h):=by
 have hF:=aU G hc hI hN e
 rw[hok]at hF
 have hl1:s.tell.fo.length≤100000:=by have:=hI.up.l1;omega
 have hl2:s.tell.fe.length≤100000:=by have:=hI.up.l2;omega
 have hl3:s.tell.it.length≤100000:=by have:=hI.up.l3;omega
 have hl4:s.tell.se.length≤100000:=by have:=aG (z:=Se.z) s.se;have:=hI.l4;show(valsM Se.z s.se).length≤_;omega
 have hso:(lkM s.fe e.a).isSome=true:=by
  unfold PS.ok PS.fits at hok
  rw[Bool.and_eq_true]at hok
  have:=hok.2
  rw[if_neg (by omega),if_neg (by omega),if_neg (by omega),if_pos (by omega)]at this;exact this
 obtain⟨f,hf⟩:=Option.isSome_iff_exists.1 hso
 obtain⟨i,p1,p2,_⟩:=bq (show fnd (·.id) s.tell.fe e.a=some f by rw[hI.fndFe,hf])
 have hil:i<s.tell.fe.length:=(List.getElem?_eq_some_iff.1 p1).1
 have hM:=qg G s.tell e k1 i p2 hil hl2 hl3
 rw[← Af hI k1 hf p1]at hM
 simp only[Ev.av_eq,k1]at hF hM
 have F:=k1
 refine sb [.cell 4 34,.tmp 5] (fn:=Tryz.f43) Tryz.func43 ?_
 intro Q hQ
 refine wk F ?_
 refine kq F (hF _) ?_
 refine kq F (hM _) ?_
 refine ye hQ F ?_
 exact Fin.plain (St.clo2 _ _ _) ⟨rfl,rfl⟩
theorem Aq(hc:GClo (CT G)){s:PS}(hI:s.Inv)(hN:s.Nam)(e:Ev)(k1:e.kind=5)(hok:s.ok L0 e=true)(h:Heap):Sat (CT G) 43 [s.tell.av,e.av] h (fun r h'=>r=.tup [(s.aft e).tell.av,.bool true]∧h'=h):=by
 have hF:=aU G hc hI hN e
 rw[hok]at hF
 have hl1:s.tell.fo.length≤100000:=by have:=hI.up.l1;omega
 have hl2:s.tell.fe.length≤100000:=by have:=hI.up.l2;omega
 have hl3:s.tell.it.length≤100000:=by have:=hI.up.l3;omega
 have hl4:s.tell.se.length≤100000:=by have:=aG (z:=Se.z) s.se;have:=hI.l4;show(valsM Se.z s.se).length≤_;omega
 have hso:(lkM s.fe e.a).isSome=true:=by
  unfold PS.ok PS.fits at hok
  rw[Bool.and_eq_true]at hok
  have:=hok.2
  rw[if_neg (by omega),if_neg (by omega),if_neg (by omega),if_pos (by omega)]at this;exact this
 obtain⟨f,hf⟩:=Option.isSome_iff_exists.1 hso
 obtain⟨i,p1,p2,_⟩:=bq (show fnd (·.id) s.tell.fe e.a=some f by rw[hI.fndFe,hf])
 have hil:i<s.tell.fe.length:=(List.getElem?_eq_some_iff.1 p1).1
 have hM:=sB G s.tell e k1 hF i f p1 p2 hl2 h
 rw[← Ah hI k1 hf p1]at hM
 exact hM
theorem Ar(hc:GClo (CT G)){s:PS}(hI:s.Inv)(hN:s.Nam)(e:Ev)(k1:e.kind=6)(hok:s.ok L0 e=true)(h:Heap):Sat (CT G) 43 [s.tell.av,e.av] h (fun r h'=>r=.tup [(s.aft e).tell.av,.bool true]∧h'=h):=by
 have hF:=aU G hc hI hN e
 rw[hok]at hF
 have hl1:s.tell.fo.length≤100000:=by have:=hI.up.l1;omega
 have hl2:s.tell.fe.length≤100000:=by have:=hI.up.l2;omega
 have hl3:s.tell.it.length≤100000:=by have:=hI.up.l3;omega
 have hl4:s.tell.se.length≤100000:=by have:=aG (z:=Se.z) s.se;have:=hI.l4;show(valsM Se.z s.se).length≤_;omega
 have hso:(lkM s.fe e.a).isSome=true:=by
  unfold PS.ok PS.fits at hok
  rw[Bool.and_eq_true]at hok
  have:=hok.2
  rw[if_neg (by omega),if_neg (by omega),if_neg (by omega),if_neg (by omega),if_pos k1]at this;simp only[Bool.and_eq_true]at this;exact this.1
 obtain⟨f,hf⟩:=Option.isSome_iff_exists.1 hso
 obtain⟨i,p1,p2,_⟩:=bq (show fnd (·.id) s.tell.fe e.a=some f by rw[hI.fndFe,hf])
 have hil:i<s.tell.fe.length:=(List.getElem?_eq_some_iff.1 p1).1
 have hM:=sC G s.tell e k1 hF i f p1 p2 hl2 h
 rw[← Ai hI k1 hf p1]at hM
 exact hM
theorem As(hc:GClo (CT G)){s:PS}(hI:s.Inv)(hN:s.Nam)(e:Ev)(k1:e.kind=8)(hok:s.ok L0 e=true)(h:Heap):Sat (CT G) 43 [s.tell.av,e.av] h (fun r h'=>r=.tup [(s.aft e).tell.av,.bool true]∧h'=h):=by
 have hF:=aU G hc hI hN e
 rw[hok]at hF
 have hl1:s.tell.fo.length≤100000:=by have:=hI.up.l1;omega
 have hl2:s.tell.fe.length≤100000:=by have:=hI.up.l2;omega
 have hl3:s.tell.it.length≤100000:=by have:=hI.up.l3;omega
 have hl4:s.tell.se.length≤100000:=by have:=aG (z:=Se.z) s.se;have:=hI.l4;show(valsM Se.z s.se).length≤_;omega
 have hso:(lkM s.it e.a).isSome=true:=by
  unfold PS.ok PS.fits at hok
  rw[Bool.and_eq_true]at hok
  have:=hok.2
  rw[if_neg (by omega),if_neg (by omega),if_neg (by omega),if_neg (by omega),if_neg (by omega),if_neg (by omega),if_pos (by omega)]at this;exact this
 obtain⟨f,hf⟩:=Option.isSome_iff_exists.1 hso
 obtain⟨i,p1,p2,_⟩:=bq (show fnd (·.id) s.tell.it e.a=some f by rw[hI.fndIt,hf])
 have hil:i<s.tell.it.length:=(List.getElem?_eq_some_iff.1 p1).1
 have hM:=sD G s.tell e k1 hF i f p1 p2 hl3 h
 rw[← Aj hI k1 hf p1]at hM
 exact hM
theorem Au(hc:GClo (CT G)){s:PS}(hI:s.Inv)(hN:s.Nam)(e:Ev)(k1:e.kind=9)(hok:s.ok L0 e=true)(h:Heap):Sat (CT G) 43 [s.tell.av,e.av] h (fun r h'=>r=.tup [(s.aft e).tell.av,.bool true]∧h'=h):=by
 have hF:=aU G hc hI hN e
 rw[hok]at hF
 have hl1:s.tell.fo.length≤100000:=by have:=hI.up.l1;omega
 have hl2:s.tell.fe.length≤100000:=by have:=hI.up.l2;omega
 have hl3:s.tell.it.length≤100000:=by have:=hI.up.l3;omega
 have hl4:s.tell.se.length≤100000:=by have:=aG (z:=Se.z) s.se;have:=hI.l4;show(valsM Se.z s.se).length≤_;omega
 have hso:(lkM s.it e.a).isSome=true:=by
  unfold PS.ok PS.fits at hok
  rw[Bool.and_eq_true]at hok
  have:=hok.2
  rw[if_neg (by omega),if_neg (by omega),if_neg (by omega),if_neg (by omega),if_neg (by omega),if_neg (by omega),if_pos (by omega)]at this;exact this
 obtain⟨f,hf⟩:=Option.isSome_iff_exists.1 hso
 obtain⟨i,p1,p2,_⟩:=bq (show fnd (·.id) s.tell.it e.a=some f by rw[hI.fndIt,hf])
 have hil:i<s.tell.it.length:=(List.getElem?_eq_some_iff.1 p1).1
 have hM:=sE G s.tell e k1 hF i f p1 p2 hl3 h
 rw[← Ak hI k1 hf p1]at hM
 exact hM
theorem xN(hc:GClo (CT G)){s:PS}(hI:s.Inv)(hN:s.Nam)(e:Ev)(k1:e.kind=10)(hok:s.ok L0 e=true)(h:Heap):Sat (CT G) 43 [s.tell.av,e.av] h (fun r h'=>r=.tup [(s.aft e).tell.av,.bool true]∧h'=h):=by
 have hF:=aU G hc hI hN e
 rw[hok]at hF
 have hl1:s.tell.fo.length≤100000:=by have:=hI.up.l1;omega
 have hl2:s.tell.fe.length≤100000:=by have:=hI.up.l2;omega
 have hl3:s.tell.it.length≤100000:=by have:=hI.up.l3;omega
 have hl4:s.tell.se.length≤100000:=by have:=aG (z:=Se.z) s.se;have:=hI.l4;show(valsM Se.z s.se).length≤_;omega
 have hso:(lkM s.it e.a).isSome=true:=by
  unfold PS.ok PS.fits at hok
  rw[Bool.and_eq_true]at hok
  have:=hok.2
  rw[if_neg (by omega),if_neg (by omega),if_neg (by omega),if_neg (by omega),if_neg (by omega),if_neg (by omega),if_neg (by omega),if_pos k1]at this;simp only[Bool.and_eq_true]at this;exact this.1
 obtain⟨f,hf⟩:=Option.isSome_iff_exists.1 hso
 obtain⟨i,p1,p2,_⟩:=bq (show fnd (·.id) s.tell.it e.a=some f by rw[hI.fndIt,hf])
 have hil:i<s.tell.it.length:=(List.getElem?_eq_some_iff.1 p1).1
 have hn01:e.n=0∨e.n=1:=by
  unfold PS.ok PS.fits at hok
  rw[Bool.and_eq_true]at hok
  have hq:=hok.1
  unfold Leaf.ck at hq
  rw[Bool.and_eq_true]at hq
  have hq:=hq.1
  unfold Leaf.right at hq
  rw[if_neg (by omega),if_neg (by omega),if_neg (by omega),if_neg (by omega),if_neg (by omega),if_neg (by omega),if_neg (by omega),if_pos k1]at hq
  simp only[Bool.and_eq_true,Bool.or_eq_true,beq_iff_eq]at hq
  exact hq.2.1
 have hM:=qq G s.tell e k1 hF i f p1 p2 hl3 (by have:=(hI.tg _ _ hf).2;omega) h
 rw[xg (hI.tg _ _ hf).1 e.s hn01, ← xJ hI k1 hf p1]at hM
 exact hM
theorem xO(hc:GClo (CT G)){s:PS}(hI:s.Inv)(hN:s.Nam)(e:Ev)(k1:e.kind=13)(hok:s.ok L0 e=true)(h:Heap):Sat (CT G) 43 [s.tell.av,e.av] h (fun r h'=>r=.tup [(s.aft e).tell.av,.bool true]∧h'=h):=by
 have hF:=aU G hc hI hN e
 rw[hok]at hF
 have hl1:s.tell.fo.length≤100000:=by have:=hI.up.l1;omega
 have hl2:s.tell.fe.length≤100000:=by have:=hI.up.l2;omega
 have hl3:s.tell.it.length≤100000:=by have:=hI.up.l3;omega
 have hl4:s.tell.se.length≤100000:=by have:=aG (z:=Se.z) s.se;have:=hI.l4;show(valsM Se.z s.se).length≤_;omega
 have ht:=xK (s:=s) k1
 simp only[Ev.av_eq,k1]at hF
 have F:=k1
 refine sb [.cell 4 34,.tmp 5] (fn:=Tryz.f43) Tryz.func43 ?_
 intro Q hQ
 refine wk F ?_
 refine kq F (hF _) ?_
 refine ye hQ F ?_
 rw[ht]
 exact Fin.plain (St.clo2 _ {s.tell with clock:=e.n} _) ⟨rfl,rfl⟩
theorem qr(hc:GClo (CT G)){s:PS}(hI:s.Inv)(hN:s.Nam)(e:Ev)(h:Heap):Sat (CT G) 43 [s.tell.av,e.av] h (fun r h'=>r=.tup [(s.step L0 e).tell.av,.bool (s.ok L0 e)]∧h'=h):=by
 cases hok:s.ok L0 e with
 |false=>
  have hst:s.step L0 e=s:=by unfold PS.step;rw[hok];rfl
  have hF:=aU G hc hI hN e
  rw[hok]at hF
  rw[hst]
  refine sb [.cell 4 34,.tmp 5] (fn:=Tryz.f43) Tryz.func43 ?_
  intro Q hQ
  refine wk trivial ?_
  refine kq trivial (hF _) ?_
  refine ye hQ trivial ?_
  exact Fin.plain (St.clo2 _ s.tell _) ⟨rfl,rfl⟩
 |true=>
  have hst:s.step L0 e=s.aft e:=by unfold PS.step;rw[hok];rfl
  rw[hst]
  by_cases k1:e.kind=1
  ·exact Al G hc hI hN e k1 hok h
  by_cases k2:e.kind=2
  ·exact Ao G hc hI hN e k2 hok h
  by_cases k3:e.kind=3
  ·exact Am G hc hI hN e k3 hok h
  by_cases k4:e.kind=4
  ·exact Ap G hc hI hN e k4 hok h
  by_cases k5:e.kind=5
  ·exact Aq G hc hI hN e k5 hok h
  by_cases k6:e.kind=6
  ·exact Ar G hc hI hN e k6 hok h
  by_cases k7:e.kind=7
  ·exact An G hc hI hN e k7 hok h
  by_cases k8:e.kind=8
  ·exact As G hc hI hN e k8 hok h
  by_cases k9:e.kind=9
  ·exact Au G hc hI hN e k9 hok h
  by_cases k10:e.kind=10
  ·exact xN G hc hI hN e k10 hok h
  by_cases k11:e.kind=11
  ·exact xL G hc hI hN e k11 hok h
  by_cases k12:e.kind=12
  ·exact xM G hc hI hN e k12 hok h
  by_cases k13:e.kind=13
  ·exact xO G hc hI hN e k13 hok h
  exfalso
  unfold PS.ok PS.fits at hok
  rw[Bool.and_eq_true]at hok
  have hr:=hok.1
  unfold Leaf.ck at hr
  rw[Bool.and_eq_true]at hr
  have hr:=hr.1
  unfold Leaf.right at hr
  rw[if_neg k1,if_neg (by omega),if_neg k3,if_neg k5,if_neg k6,if_neg k7,if_neg (by omega),if_neg k10,if_neg k11,if_neg k13]at hr
  cases hr
theorem sF(hc:GClo (CT G))(es:List Ev)(hl:es.length≤100000)(h:Heap):Sat (CT G) 14 [.sl 7 (es.map Ev.av)] h (fun r h'=>r=(es.foldl (PS.step L0) PS.z).tell.av∧h'=h):=by
 have hel:(es.map Ev.av).length=es.length:=List.length_map ..
 have F:=hel
 refine sb [.cell 2 34] (fn:=Tryz.f14) Tryz.func14 ?_
 intro Q hQ
 refine wk F ?_
 refine lm (fun nL tL hL=>∃(k:Nat) (s:PS),es.length-k=nL∧h++[.row 34 9 0 [.agg [.int .i64 0,.nil (.slice none 0 0),.nil (.slice none 0 0),.nil (.slice none 0 0),.nil (.slice none 0 0),.int .i64 0,.int .i64 0,.int .i64 0,.int .i64 0]],.row 34 9 0 [s.tell.av]]=hL∧tL 0=.sl 7 (es.map Ev.av)∧tL 2=.hp h.length 0 0 0∧tL 3=.hp (h.length+1) 0 0 0∧tL 4=.int .i64 k∧k≤es.length∧s=(es.take k).foldl (PS.step L0) PS.z) ((fun(k:Nat) (s:PS)=>(es.length-k:Nat)) (0) (PS.z)) ?_ ?_
 ·refine⟨_,_,Weak.rows (p:=h.length+1) (v:=0) (rows:=[.agg [.int .i64 0,.nil (.slice none 0 0),.nil (.slice none 0 0),.nil (.slice none 0 0),.nil (.slice none 0 0),.int .i64 0,.int .i64 0,.int .i64 0,.int .i64 0]]) [PS.z.tell.av] (by rw[bD _ rfl];rfl) rfl H6,⟨0,PS.z,rfl,by rw[dG _ rfl];rfl,?_,?_,?_,?_,by omega,rfl⟩⟩
  all_goals first|exact zq F|rfl|omega|trivial|skip
 rintro _ s2 h' ⟨k,s,rfl,rfl,e0,e2,e3,e4,hk,hs⟩ K2 hK2
 simp only[ak,ao,Nat.reduceEqDiff, ↓reduceIte]at e0 e2 e3 e4
 have F:=F5 F e0 e2 e3 e4
 have hI:s.Inv:=by rw[hs];exact PS.Inv.z.fold _
 have hN:s.Nam:=by rw[hs];exact PS.Nam.z.fold .z _
 refine wk F ?_
 refine cq F (fun c1=>?_) (fun c1=>?_)<;>(try exact c1.elim)<;>(refine wk F ?_)
 ·have c2:k<es.length:=by omega
  obtain⟨e,he,_⟩:=ac c2
  have hA:=qr G hc hI hN e
  have hst:s.step L0 e=(es.take (k+1)).foldl (PS.step L0) PS.z:=by rw[List.take_add_one,List.foldl_append,he,hs];rfl
  have F:=F3 F c2 he
  skip
  try refine sq F ?_
  refine wn F ?_
  refine aw 10 [9] [true,true,true,true,true,true,true,true,true,false] (.one 9 [] .fin) (by decide+kernel) (by kernel_rfl) (by decide+kernel) ?_
  simp only[aB,aC,az]
  try refine sq F ?_
  repeat' (first| (refine ah ?_;try refine sq F ?_)| (refine ai ?_;try refine sq F ?_)| (refine aj ?_ ?_<;>try refine sq F ?_))
  all_goals try refine wn F ?_
  refine aA (hA _) ?_
  try refine sq F ?_
  refine wn F ?_
  repeat' (first| (refine ah ?_;try refine sq F ?_)| (refine ai ?_;try refine sq F ?_)| (refine aj ?_ ?_<;>try refine sq F ?_))
  all_goals try refine wn F ?_
  skip
  refine hK2 _ _ _ (Wkn.refl ⟨k+1,s.step L0 e,rfl,rfl,?_,?_,?_,?_,by omega,hst⟩) (by omega)
  all_goals first|exact zq F|rfl|omega|trivial|skip
 ·rw[List.take_of_length_le (by omega)]at hs
  try refine sq F ?_
  refine wk F ?_
  refine ye hQ F ?_
  rw[← hs]
  exact Fin.plain (St.clo _ s.tell) ⟨rfl,rfl⟩
end Go.Av
namespace Go.Av
open Go Go.Proofs Go.RowKit
attribute [local irreducible] WP WPl WPix Sat
section
variable {c:CS} {s:PS}
end
variable (G:Nat→Option (List AVal))
theorem na(h:Heap):Sat (CT G) 22 [.nil (.pointer none)] h (fun r h'=>r=PS.z.tell.av∧h'=h):=by
 have hq:∀H,abin Tryz.prog H .eql 27 (.nil (.pointer none)) (.nil (.pointer none))=some (.bool true):=fun H=>by
  have hk:nilKind Tryz.prog 27 (.pointer none)=true:=by kernel_rfl
  simp[abin,hk,aeqNil]
 have F:=hq
 skip
 refine sb [.cell 2 34] (fn:=Tryz.f22) Tryz.func22 ?_
 intro Q hQ
 refine wn F ?_
 refine ye hQ F ?_
 have hz:PS.z.tell=⟨0,[],[],[],[],0,0,0,0⟩:=by simp[PS.tell,PS.z,valsM,sortI]
 rw[hz]
 exact Fin.frz (bo (x:=⟨0,[],[],[],[],0,0,0,0⟩) (.nils 3) (.nils 4) (.nils 9) (.nils 3)) ⟨rfl,rfl⟩
end Go.Av
