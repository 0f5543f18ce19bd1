/- A view that is kept, event by event, is one that is made anew. -/
import Derived.Test.YtanjiiailjilbaaGreatMeXl
set_option linter.unusedSimpArgs false
set_option linter.unusedVariables false
set_option linter.unusedSectionVars false
set_option linter.unnecessarySimpa false
set_option maxRecDepth 100000
set_option maxHeartbeats 4000000
namespace Go.Av
open Go Go.Proofs Go.RowKit
attribute [local irreducible] WP WPl WPix Sat
abbrev qL(op:Int):AVal:=.agg [.int .i64 op,.int .i64 0,.str [],.sl 4 []]
variable (G:Nat→Option (List AVal))
theorem qn(op:Int)(h:Heap):Sat (CT G) 158 [qL op,.int .i64 1] h (fun r h'=>r=.int .i64 1∧h'=h):=by
 have df:∀i:Decidable False, @decide False i=false:=fun i=>by simp
 have F:=df
 refine sb [.tmp 4] (fn:=Tryz.f158) Tryz.func158 ?_
 intro Q hQ
 refine wk F ?_
 refine lm (fun nL tL hL=>∃(k:Nat),0-k=nL∧h++[.row 66 4 0 [qL op]]=hL∧tL 15=.int .i64 k∧tL 5=.int .i64 1∧k≤0) ((fun(k:Nat)=>(0-k:Nat)) (0)) ?_ ?_
 ·refine Wkn.refl ⟨0,rfl,ay,?_,?_,Nat.le_refl 0⟩
  all_goals first|exact zq F|rfl|omega|trivial|skip
 rintro _ s2 h' ⟨k,rfl,rfl,e15,e5,hk⟩ K2 hK2
 simp only[ak,ao,Nat.reduceEqDiff, ↓reduceIte]at e15 e5
 have F:=F3 F e15 e5
 refine wk F ?_
 refine cq F (fun c1=>?_) (fun c1=>?_)<;>(try exact c1.elim)<;>(refine wk F ?_)
 ·exact absurd c1 (by omega)
 refine ee hQ F ?_
 exact Fin.plain (.int _ _) ⟨rfl,rfl⟩
theorem mV(op:Int)(h:Heap):Sat (CT G) 108 [qL op] h (fun r h'=>r=.int .i64 1∧h'=h):=by
 refine sb [.tmp 2] (fn:=Tryz.f108) Tryz.func108 ?_
 intro Q hQ
 refine wk trivial ?_
 refine kq trivial (qn G op _) ?_
 refine ee hQ trivial ?_
 exact Fin.plain (.int _ _) ⟨rfl,rfl⟩
theorem jG(op:Int)(h:Heap):Sat (CT G) 109 [qL op] h (fun r h'=>r=.int .i64 1∧h'=h):=by
 refine sb [.tmp 2] (fn:=Tryz.f109) Tryz.func109 ?_
 intro Q hQ
 refine wk trivial ?_
 refine lm (fun nL tL hL=>∃(k:Nat),0-k=nL∧h++[.row 66 4 0 [qL op]]=hL∧tL 9=.int .i64 k∧tL 3=.int .i64 1∧k≤0) ((fun(k:Nat)=>(0-k:Nat)) (0)) ?_ ?_
 ·refine Wkn.refl ⟨0,rfl,ay,?_,?_,Nat.le_refl 0⟩
  all_goals first|exact zq trivial|rfl|omega|trivial|skip
 rintro _ s2 h' ⟨k,rfl,rfl,e9,e3,hk⟩ K2 hK2
 simp only[ak,ao,Nat.reduceEqDiff, ↓reduceIte]at e9 e3
 have F:=F2 e9 e3
 refine wk F ?_
 refine cq F (fun c1=>?_) (fun c1=>?_)<;>(try exact c1.elim)<;>(refine wk F ?_)
 ·exact absurd c1 (by omega)
 refine ee hQ F ?_
 exact Fin.plain (.int _ _) ⟨rfl,rfl⟩
theorem vS(f:AVal)(h:Heap):Sat (CT G) 167 [.sl 4 [],f] h (fun r h'=>r=.int .i64 (-1)∧h'=h):=by
 have df:∀i:Decidable False, @decide False i=false:=fun i=>by simp
 have F:=df
 refine sb [.tmp 4] (fn:=Tryz.f167) Tryz.func167 ?_
 intro Q hQ
 refine wk F ?_
 refine lm (fun nL tL hL=>∃(k:Nat),0-k=nL∧h=hL∧tL 8=.int .i64 k∧k≤0) ((fun(k:Nat)=>(0-k:Nat)) (0)) ?_ ?_
 ·refine Wkn.refl ⟨0,rfl,ay,?_,Nat.le_refl 0⟩
  all_goals first|exact zq F|rfl|omega|trivial|skip
 rintro _ s2 h' ⟨k,rfl,rfl,e8,hk⟩ K2 hK2
 simp only[ak,ao,Nat.reduceEqDiff, ↓reduceIte]at e8
 have F:=F2 F e8
 refine wk F ?_
 refine cq F (fun c1=>?_) (fun c1=>?_)<;>(try exact c1.elim)<;>(refine wk F ?_)
 ·exact absurd c1 (by omega)
 refine ee hQ F ?_
 exact Fin.same (.int _ _) ⟨rfl,rfl⟩
theorem uA(f:AVal)(h:Heap):Sat (CT G) 116 [.sl 4 [],f] h (fun r h'=>r=.bool false∧h'=h):=by
 have df:∀i:Decidable False, @decide False i=false:=fun i=>by simp
 have F:=df
 refine sb [.tmp 4] (fn:=Tryz.f116) Tryz.func116 ?_
 intro Q hQ
 refine wk F ?_
 refine kq F (vS G f _) ?_
 refine ee hQ F ?_
 exact Fin.same (.bool _) ⟨rfl,rfl⟩
theorem uB(h:Heap):Sat (CT G) 159 [qL 1] h (fun r h'=>r=.bool true∧h'=h):=by
 refine sb [.tmp 2] (fn:=Tryz.f159) Tryz.func159 ?_
 intro Q hQ
 refine wk trivial ?_
 refine ee hQ trivial ?_
 exact Fin.plain (.bool _) ⟨rfl,rfl⟩
theorem sg(h:Heap):Sat (CT G) 160 [qL 1] h (fun r h'=>r=.bool true∧h'=h):=by
 refine sb [.tmp 2] (fn:=Tryz.f160) Tryz.func160 ?_
 intro Q hQ
 refine wk trivial ?_
 refine ee hQ trivial ?_
 exact Fin.plain (.bool _) ⟨rfl,rfl⟩
theorem sh(h:Heap):Sat (CT G) 161 [qL 1] h (fun r h'=>r=.bool true∧h'=h):=by
 refine sb [.tmp 2] (fn:=Tryz.f161) Tryz.func161 ?_
 intro Q hQ
 refine wk trivial ?_
 refine ee hQ trivial ?_
 exact Fin.plain (.bool _) ⟨rfl,rfl⟩
theorem qo(h:Heap):Sat (CT G) 110 [qL 1] h (fun r h'=>r=.bool true∧h'=h):=by
 have df:∀i:Decidable False, @decide False i=false:=fun i=>by simp
 have F:=df
 refine sb [.tmp 2] (fn:=Tryz.f110) Tryz.func110 ?_
 intro Q hQ
 refine wk F ?_
 refine kq F (uB G _) ?_
 refine kq F (sg G _) ?_
 refine kq F (sh G _) ?_
 refine kq F (uA G _ _) ?_
 refine ee hQ F ?_
 exact Fin.plain (.bool _) ⟨rfl,rfl⟩
theorem nX(h:Heap):Sat (CT G) 110 [qL 0] h (fun r h'=>r=.bool false∧h'=h):=by
 have df:∀i:Decidable False, @decide False i=false:=fun i=>by simp
 have dt:∀i:Decidable True, @decide True i=true:=fun i=>by simp
 have F:=F2 df dt
 refine sb [.tmp 2] (fn:=Tryz.f110) Tryz.func110 ?_
 intro Q hQ
 refine wk F ?_
 refine ee hQ F ?_
 exact Fin.plain (.bool _) ⟨rfl,rfl⟩
theorem cR(h:Heap):Sat (CT G) 66 [qL 1] h (fun r h'=>r=.int .i64 0∧h'=h):=by
 have df:∀i:Decidable False, @decide False i=false:=fun i=>by simp
 have F:=df
 refine sb [.tmp 2] (fn:=Tryz.f66) Tryz.func66 ?_
 intro Q hQ
 refine wk F ?_
 refine kq F (mV G _ _) ?_
 refine kq F (jG G _ _) ?_
 refine kq F (qo G _) ?_
 refine ee hQ F ?_
 exact Fin.plain (.int _ _) ⟨rfl,rfl⟩
theorem nY(h:Heap):Sat (CT G) 66 [qL 0] h (fun r h'=>r=.int .i64 250∧h'=h):=by
 have df:∀i:Decidable False, @decide False i=false:=fun i=>by simp
 have F:=df
 refine sb [.tmp 2] (fn:=Tryz.f66) Tryz.func66 ?_
 intro Q hQ
 refine wk F ?_
 refine kq F (mV G _ _) ?_
 refine kq F (jG G _ _) ?_
 refine kq F (nX G _) ?_
 refine ee hQ F ?_
 exact Fin.plain (.int _ _) ⟨rfl,rfl⟩
end Go.Av
namespace Go.Av
open Go Go.Proofs Go.RowKit
attribute [local irreducible] WP WPl WPix Sat
variable (G:Nat→Option (List AVal))
theorem vT(p:Nat)(h:Heap)(hp:p<h.length):Sat (CT G) 76 [.hp p 0 0 0] h (fun r h'=>r=.hp (h.length+1) 0 0 0∧∃j,h'=h++j∧j.length=2):=by
 refine sb [.tmp 2] (fn:=Tryz.f76) Tryz.func76 ?_
 intro Q hQ
 refine wk trivial ?_
 refine ee hQ trivial ?_
 refine Fin.whole (by simp) (.hp _ _ _ _ (by simp)) ⟨rfl,_,rfl,rfl⟩
theorem uC(p:Nat)(t:It)(h:Heap):Sat (CT G) 77 [.hp p 0 0 0,qL 1,t.av] h (fun r h'=>r=.bool true∧h'=h):=by
 have dt:∀i:Decidable True, @decide True i=true:=fun i=>by simp
 have F:=dt
 refine sb [.tmp 6] (fn:=Tryz.f77) Tryz.func77 ?_
 intro Q hQ
 refine wk F ?_
 refine ee hQ F ?_
 exact Fin.plain (.bool _) ⟨rfl,rfl⟩
theorem oK{C:Ctx}{ops:Array Oper}{dst:Option Nat}{op:Op}{ty:TypeId}{pos:String}{aft:Array Edge}{t:Env}{h:Heap}{K:AVal→Heap→Prop}{j d:Nat}{want:Bool}(hd:(ops[j]?).bind (·.dst)=some d)(ht:t d=.bool want)
  (g:wpOperV C ops ⟨dst,op,ty,pos,aft,none⟩ t h K):wpOperV C ops ⟨dst,op,ty,pos,aft,some (j,want)⟩ t h K:=by
 have e:guardA ops t j=some (some want):=by unfold guardA;rw[hd];simp only[ht]
 unfold wpOperV
 simp only[e]
 exact⟨fun _=>g,fun h=>absurd rfl h⟩
theorem si(p:Nat)(t:It)(b:Bool)(id:Int)(h:Heap)(hp:p<h.length)
  (hI:Sat (CT G) 38 [.hp p 0 0 0,.int .i64 id] (h++[.row 66 4 0 [qL 1]]) (fun r h'=>r=.tup [t.av,.bool b]∧h'=h++[.row 66 4 0 [qL 1]])):
  Sat (CT G) 39 [.hp p 0 0 0,qL 1,.int .i64 id] h (fun r h'=>r=.bool b∧h'=h):=by
 cases b with
 |false=>
  skip
  refine sb [.tmp 6] (fn:=Tryz.f39) Tryz.func39 ?_
  intro Q hQ
  refine wn trivial ?_
  refine kn trivial (hI) ?_
  refine eG (by decide+kernel) (mB G) ?_
  refine sq trivial ?_
  refine wn trivial ?_
  skip
  refine ee hQ trivial ?_
  exact Fin.plain (.bool _) ⟨rfl,rfl⟩
 |true=>
  skip
  refine sb [.tmp 6] (fn:=Tryz.f39) Tryz.func39 ?_
  intro Q hQ
  refine wn trivial ?_
  refine kn trivial (hI) ?_
  refine aw 12 [8,11] [true,true,true,true,true,true,true,true,false,true,true,false] (.one 8 [false,false,false,false,false,false,false,false,false,true,true] (.one 11 [] .fin)) (by decide+kernel) (by kernel_rfl) (by decide+kernel) ?_
  simp only[aB,aC,az]
  try refine sq trivial ?_
  repeat' (first| (refine ah ?_;try refine sq trivial ?_)| (refine ai ?_;try refine sq trivial ?_)| (refine aj ?_ ?_<;>try refine sq trivial ?_))
  all_goals try refine wn trivial ?_
  refine aA (cR G _) ?_
  try refine sq trivial ?_
  refine wn trivial ?_
  repeat' (first| (refine ah ?_;try refine sq trivial ?_)| (refine ai ?_;try refine sq trivial ?_)| (refine aj ?_ ?_<;>try refine sq trivial ?_))
  all_goals try refine wn trivial ?_
  refine oK rfl (by exact zq trivial) ?_
  simp(disch:=first|omega| (simp only[go_sem, ↓reduceIte,seval];first|done|omega)|fail) only[go_sem, ↓reduceIte,seval]
  refine(vT G p _ (by simp;omega)).mono ?_
  rintro r h' ⟨rfl,j,rfl,hj⟩
  have F:= @ax
  refine⟨by simp(disch:=first|omega| (simp only[go_sem, ↓reduceIte,seval];first|done|omega)|fail) only[go_sem, ↓reduceIte,seval,F],?_⟩
  repeat' (first| (refine ah ?_;try refine sq F ?_)| (refine ai ?_;try refine sq F ?_)| (refine aj ?_ ?_<;>try refine sq F ?_))
  all_goals try refine wn F ?_
  refine oK rfl (by exact zq F) ?_
  simp(disch:=first|omega| (simp only[go_sem, ↓reduceIte,seval];first|done|omega)|fail) only[go_sem, ↓reduceIte,seval,F]
  refine(uC G _ t _).mono ?_
  rintro r h' ⟨rfl,rfl⟩
  repeat' (first| (refine ah ?_;try refine sq F ?_)| (refine ai ?_;try refine sq F ?_)| (refine aj ?_ ?_<;>try refine sq F ?_))
  all_goals try refine wn F ?_
  refine ee hQ F ?_
  exact Fin.plain (.bool _) ⟨rfl,rfl⟩
end Go.Av
namespace Go.Av
open Go Go.Proofs Go.RowKit
attribute [local irreducible] WP WPl WPix Sat
def sv(Y:Heap)(n:Nat)(s:PS)(m v:Nat)(l:List Ky):Heap:=so (vo Y m v l) n s
section
variable {Y:Heap} {n m v:Nat} {s:PS} {l:List Ky}
theorem cC(hn:n+9≤m)(hm:m+2≤Y.length):sv Y n s m v l=vo (so Y n s) m v l:=uZ (bs:=s.bl n) (cs:=vb m v l) (by show n+9≤Y.length;omega) hm (.inl hn)
@[go_sem] theorem gZ(hn:n+9≤m)(hm:m+2≤Y.length)(j:Heap):sv Y n s m v l++j=sv (Y++j) n s m v l:=by
 unfold sv;rw[bg (by rw[aP hm];omega),dI hm]
@[go_sem] theorem mW(hn:n+9≤m)(hm:m+2≤Y.length):(sv Y n s m v l).length=Y.length:=by
 unfold sv;rw[aW (by rw[aP hm];omega),aP hm]
@[go_sem] theorem H3(hn:n+9≤m)(hm:m+2≤Y.length){p:Nat}(u:Nat)(hp:m+2≤p):getRow (sv Y n s m v l) p u=getRow Y p u:=by
 unfold sv;rw[bP (by rw[aP hm];omega) u (by omega),ea hm u hp]
@[go_sem] theorem H4(hn:n+9≤m)(hm:m+2≤Y.length){p:Nat}(b:Blk)(hp:m+2≤p):(sv Y n s m v l).set p b=sv (Y.set p b) n s m v l:=by
 unfold sv;rw[v7 (by rw[aP hm];omega) b (by omega),eb hm b hp]
@[go_sem] theorem sj(hn:n+9≤m)(hm:m+2≤Y.length):abin Tryz.prog (sv Y n s m v l) .eql 27 (.hp (n+8) 0 0 0) (.nil (.pointer none))=some (.bool false):=by
 unfold sv;exact wU (by rw[aP hm];omega)
@[go_sem] theorem H5(hn:n+9≤m)(hm:m+2≤Y.length):abin Tryz.prog (sv Y n s m v l) .eql 56 (.hp m 0 0 0) (.nil (.pointer none))=some (.bool false):=by
 rw[cC hn hm];exact qV (by rw[aW (by omega)];exact hm)
theorem xp(hn:n+9≤m){h j:Heap}(hm:m+2≤(h++j).length)(hh:h.length≤n):∃j',sv (h++j) n s m v l=h++j':=by
 refine⟨(sv (h++j) n s m v l).drop h.length,?_⟩
 have hl:=mW (s:=s) (v:=v) (l:=l) hn hm
 apply List.ext_getElem?
 intro p
 by_cases hp:p<h.length
 ·rw[List.getElem?_append_left hp]
  unfold sv so vo
  rw[gJ (by show n+9≤_;rw[ba hm];omega) (.inl (by omega)),gJ hm (.inl (by omega)),List.getElem?_append_left hp]
 ·rw[List.getElem?_append_right (by omega),List.getElem?_drop];congr 1;omega
theorem sk{h:Heap}{R:AVal→Heap→Prop}{b:Bool}(hn:n+9≤m)(hm:m+2≤Y.length)(hp:∃j,Y=h++j)(hh:h.length≤n)(hR:R (.bool b) h):Fin h (sv Y n s m v l) R (.bool b):=by
 obtain⟨j,rfl⟩:=hp
 obtain⟨j',he⟩:=xp (s:=s) (v:=v) (l:=l) hn hm hh
 rw[he]
 exact Fin.plainE (j:=j') rfl (.bool _) hR
end
variable (G:Nat→Option (List AVal))
section
variable {Y:Heap} {n m v:Nat} {s:PS} {l:List Ky}
theorem vU(h:s.Inv)(e:Ev)(hn:n+9≤m)(hm:m+2≤Y.length):Sat (CT G) 21 [.hp (n+8) 0 0 0,e.av] (sv Y n s m v l) (fun r h'=>r=.bool (s.ok L0 e)∧h'=sv Y n (s.step L0 e) m v l):=
 jx G s h e (by rw[aP hm];omega)
theorem sm(h:s.Inv)(id:Int)(hn:n+9≤m)(hm:m+2≤Y.length):Sat (CT G) 38 [.hp (n+8) 0 0 0,.int .i64 id] (sv Y n s m v l) (fun r h'=>r=.tup [((lkM s.it id).getD It.z).av,.bool (lkM s.it id).isSome]∧h'=sv Y n s m v l):=
 pv G s id (by have:=(h.tags id).2;omega) (by rw[aP hm];omega)
theorem uO(h:s.Inv){H:Heap}{n:Nat}(hn:n+9≤H.length):Sat (CT G) 24 [.hp (n+8) 0 0 0] (so H n s) (fun r h'=>r=.hp H.length 0 0 0∧h'=sv (H++vb H.length 0 []) n s H.length s.tell.it.length (srtK (s.tell.it.map It.ky))):=by
 have h0:=mr G s.tell (.hp (n+8) 0 0 0) (so H n s) (fun j=>by
  rw[bg hn];exact pw G s h.toOk (by simp;omega)) (by have:=aG (z:=It.z) s.it;have:=h.l3;show(valsM It.z s.it).length≤_;omega) (jF h)
 rw[aW hn]at h0
 refine h0.mono ?_
 rintro r h' ⟨h1,h2⟩
 refine⟨h1,?_⟩
 have e:=gO (so H n s) s.tell.it.length 0 (srtK (s.tell.it.map It.ky)) []
 rw[aW hn]at e
 rw[h2, ← e,cC hn (by simp[vb]),bg hn]
theorem xt{s:PS}(hk:VK l s)(h:s.Inv)(e:Ev)(hok:s.ok L0 e=true)(hn:n+9≤m)(hm:m+2≤Y.length):Sat (CT G) 30 [.hp m 0 0 0,.hp (n+8) 0 0 0,e.av] (sv Y n (s.aft e) m v l)
  (fun r h'=>r=.tup []∧∃u L,VK L (s.aft e)∧h'=sv Y n (s.aft e) m u L):=by
 have hI:(s.aft e).Inv:=by have:=h.step (L:=L0) e;unfold PS.step at this;rw[if_pos hok]at this;exact this
 have hl:=hk.len h
 rw[cC hn hm]
 refine(qZ G (H:=so Y n (s.aft e)) (v:=v) hk.1 (by omega) e (.hp (n+8) 0 0 0) ((lkM (s.aft e).it e.a).getD It.z) (lkM (s.aft e).it e.a).isSome (by rw[aW (by omega)];exact hm) (fun _ j=>?_)).mono ?_
 ·rw[bg (by omega), ← cC hn (by simp;omega)]
  exact sm G hI e.a hn (by simp;omega)
 ·rintro r h' ⟨h1,u,h2⟩
  exact⟨h1,u,_,hk.step h e hok,by rw[h2,cC hn hm]⟩
theorem sn(h:s.Inv)(id:Int)(hn:n+9≤m)(hm:m+2≤Y.length):Sat (CT G) 39 [.hp (n+8) 0 0 0,qL 1,.int .i64 id] (sv Y n s m v l) (fun r h'=>r=.bool (lkM s.it id).isSome∧h'=sv Y n s m v l):=
 si G (n+8) _ _ id _ (by rw[mW hn hm];omega) (by rw[gZ hn hm];exact sm G h id hn (by simp;omega))
theorem uP(hl:l.length≤1048576)(hn:n+9≤m)(hm:m+2≤Y.length):Sat (CT G) 26 [.hp m 0 0 0] (sv Y n s m v l) (fun r h'=>r=.sl 1 ((l.map (·.i)).map iA)∧h'=sv Y n s m v l):=by
 rw[cC hn hm];exact mn G hl (by rw[aW (by omega)];exact hm)
theorem mX(hl:l.length≤1048576)(id:Int)(hn:n+9≤m)(hm:m+2≤Y.length):Sat (CT G) 28 [.hp m 0 0 0,.int .i64 id] (sv Y n s m v l) (fun r h'=>r=.int .i64 (rkI (l.map (·.i)) id)∧h'=sv Y n s m v l):=by
 rw[cC hn hm, ← xn];exact qW G hl id (by rw[aW (by omega)];exact hm)
end
end Go.Av
namespace Go.Av
open Go Go.Proofs Go.RowKit
attribute [local irreducible] WP WPl WPix Sat SatY
structure Cu where
 d:Int
 i:Int
 set:Bool
def Cu.av(c:Cu):AVal:=.agg [.int .i64 c.d,.int .i64 c.i,.bool c.set]
@[go_sem] theorem Cu.av_eq(c:Cu):c.av=.agg [.int .i64 c.d,.int .i64 c.i,.bool c.set]:=(rfl)
def fromK(l:List Ky)(c:Cu):Nat:=if c.set then pst l ⟨c.d,c.i,0⟩else 0
theorem mY(l:List Ky)(c:Cu):fromK l c≤l.length:=by unfold fromK;split;exact gL l _;omega
abbrev qA(op num:Int)(s:Bs)(ks:List AVal):AVal:=.agg [.int .i64 op,.int .i64 num,.str s,.sl 4 ks]
def bhB(n:Nat)(sp qv:AVal)(c:Cu)(k:Nat):List Blk:=[.row 56 1 0 [.hp n 0 0 0],.row 27 1 0 [sp],.row 66 4 0 [qv],.row 55 3 0 [c.av],.row 3 1 0 [.int .i64 k]]
theorem jH{P:Program}{h:Heap}{T e p v len n m i:Nat}{rows:List AVal}{k:IntKind}(he:elmT P T=some e)(hg:getRow h p v=some (m,n,rows))(hn:szOf P e=some n)(hi:i<len∨i=0):
  aslice P h T (.hs p v 0 len true) (some (.int k (i:Int))) none none=some (.hs p v i (len-i) true):=by
 simp only[aslice,he,hg,hn,if_true,optInt]
 rw[if_pos ⟨by omega,by omega,by omega,by omega⟩]
 simp
variable (G:Nat→Option (List AVal))
section
variable {l:List Ky} {H:Heap} {n v:Nat}
theorem qp(hs:Sk l)(hl:l.length≤1048576)(c:Cu)(p:Nat)(hp:p<H.length)(op num:Int)(s:Bs)(ks:List AVal)(hn:n+2≤H.length):
  Sat (CT G) 67 [.hp n 0 0 0,.hp p 0 0 0,qA op num s ks,c.av] (vo H n v l)
   (fun r h'=>r=.fn (.func 111) [] [.hp H.length 0 0 0,.hp (H.length+4) 0 0 0,.hp (H.length+1) 0 0 0,.hp (H.length+2) 0 0 0]∧h'=vo (H++bhB n (.hp p 0 0 0) (qA op num s ks) c (fromK l c)) n v l):=by
 have clo:∀N,H.length+5≤N→Clo N (.fn (.func 111) [] [.hp H.length 0 0 0,.hp (H.length+4) 0 0 0,.hp (H.length+1) 0 0 0,.hp (H.length+2) 0 0 0]):=fun N hN=>.fn _ _ _ (fun x hx=>by simp at hx) fun x hx=>by
  simp only[List.mem_cons,List.not_mem_nil,or_false]at hx
  rcases hx with rfl|rfl|rfl|rfl<;>exact .hp _ _ _ _ (by omega)
 obtain⟨d,i,st⟩:=c
 cases st with
 |false=>
  have hf:fromK l ⟨d,i,false⟩=0:=rfl
  have F:= @ax
  refine sb [.tmp 8] (fn:=Tryz.f67) Tryz.func67 ?_
  intro Q hQ
  refine wk F ?_
  refine ee hQ F ?_
  exact Fin.whole (by rw[aP hn,aP (by simp;omega)];simp) (clo _ (by rw[aP (by simp;omega)];simp)) ⟨rfl,by rw[hf];rfl⟩
 |true=>
  have hf:fromK l ⟨d,i,true⟩=pst l ⟨d,i,0⟩:=rfl
  have hP:=iR G (v:=v) (n:=n) hs hl ⟨d,i,0⟩ (H:=H++[Blk.row 56 1 0 [.hp n 0 0 0],.row 27 1 0 [.hp p 0 0 0],.row 66 4 0 [qA op num s ks],.row 55 3 0 [.agg [.int .i64 d,.int .i64 i,.bool true]],.row 3 1 0 [.int .i64 0]]) (by simp;omega)
  have F:= @ax
  refine sb [.tmp 8] (fn:=Tryz.f67) Tryz.func67 ?_
  intro Q hQ
  refine wk F ?_
  refine kq F (hP) ?_
  refine ee hQ F ?_
  exact Fin.whole (by rw[aP hn,aP (by simp;omega)];simp) (clo _ (by rw[aP (by simp;omega)];simp)) ⟨rfl,by rw[hf];rfl⟩
theorem vV(hl:l.length≤1048576)(bel:Int→Bool)(N yl q b0 p:Nat)(op num:Int)(s:Bs)(ks:List AVal)(B Bs:List Ky→Heap→Heap)(fr:Nat)(hfr:fr≤l.length)
  (hB:∀pre j j',B pre j++j'=B pre (j++j'))(hBl:∀pre j,(B pre j).length=b0+j.length)(hBsl:∀pre j,(Bs pre j).length=b0+j.length)(hb0:q+5≤b0)(hq:n+2≤q)
  (hr0:∀pre j,getRow (B pre j) q 0=some (56,1,[.hp n 0 0 0]))(hr1:∀pre j,getRow (B pre j) (q+1) 0=some (27,1,[.hp p 0 0 0]))(hr2:∀pre j,getRow (B pre j) (q+2) 0=some (66,4,[qA op num s ks]))(hr4:∀pre j,getRow (B pre j) (q+4) 0=some (3,1,[.int .i64 fr]))
  (hE:∀pre j id,Sat (CT G) 39 [.hp p 0 0 0,qA op num s ks,.int .i64 id] (vo (B pre j) n v l) (fun r h'=>r=.bool (bel id)∧h'=vo (B pre j) n v l))
  (hY:∀pre j y,pre.length≤N→SatY (CT G) yl [y.av] (vo (B pre j) n v l) (fun r h'=>∃j',j.length≤j'.length∧((pre.length<N∧r=.bool true∧h'=vo (B (pre++[y]) j') n v l)∨(pre.length=N∧r=.bool false∧h'=vo (Bs pre j') n v l))))(j0:Heap):
  Sat (CT G) 111 [.fn (.yield yl) [] [],.hp q 0 0 0,.hp (q+4) 0 0 0,.hp (q+1) 0 0 0,.hp (q+2) 0 0 0] (vo (B [] j0) n v l)
   (fun _ h'=>∃j,(((l.drop fr).filter fun k=>bel k.i).length≤N∧h'=vo (B ((l.drop fr).filter fun k=>bel k.i) j) n v l)∨(N<((l.drop fr).filter fun k=>bel k.i).length∧h'=vo (Bs (((l.drop fr).filter fun k=>bel k.i).take N) j) n v l)):=by
 have ct:∀N,Clo N (.tup []):=fun N=>.tup _ (fun x hx=>by simp at hx)
 have hn:∀pre j,n+2≤(B pre j).length:=fun pre j=>by rw[hBl];omega
 have hn':∀pre j (x:Blk),n+2≤(B pre j++[x]).length:=fun pre j x=>by rw[List.length_append,hBl];omega
 have hns:∀pre j,n+2≤(Bs pre j).length:=fun pre j=>by rw[hBsl];omega
 have hnA:=hn [] j0
 have v0:=hr0 [] j0
 have v4:=hr4 [] j0
 by_cases h0:fr=l.length∧0<fr
 ·have hd:l.drop fr=[]:=by rw[h0.1,List.drop_length]
  have hsl:=fX (P:=Tryz.prog) (T:=131) (k:=.i64) (len:=l.length) (i:=fr) (by simp only[go_sem];try rfl) (bQ (l:=l) (v:=v) hnA) (by simp only[go_sem];try rfl) h0.1 h0.2
  have F:=F3 v0 v4 hsl
  refine sb [] (fn:=Tryz.f111) Tryz.func111 ?_
  intro Q hQ
  refine wk F ?_
  refine lm (fun nL tL hL=>∃(k:Nat),0-k=nL∧vo (B [] j0) n v l=hL∧tL 15=.int .i64 k∧k≤0) ((fun(k:Nat)=>(0-k:Nat)) (0)) ?_ ?_
  ·refine Wkn.refl ⟨0,rfl,ay,?_,Nat.le_refl 0⟩
   all_goals first|exact zq F|rfl|omega|trivial|skip
  rintro _ s2 h' ⟨k,rfl,rfl,e15,hk⟩ K2 hK2
  simp only[ak,ao,Nat.reduceEqDiff, ↓reduceIte]at e15
  have F:=F2 F e15
  refine wk F ?_
  refine cq F (fun c1=>?_) (fun c1=>?_)<;>(try exact c1.elim)<;>(refine wk F ?_)
  ·exact absurd c1 (by omega)
  refine ee hQ F ?_
  exact Fin.whole (Nat.le_refl _) (ct _) ⟨j0,.inl (by rw[hd];exact⟨Nat.zero_le _,rfl⟩)⟩
 have hlt:fr<l.length∨fr=0:=by omega
 have hsl:=jH (P:=Tryz.prog) (T:=131) (k:=.i64) (len:=l.length) (i:=fr) (by simp only[go_sem];try rfl) (bQ (l:=l) (v:=v) hnA) (by simp only[go_sem];try rfl) hlt
 have F:=F3 v0 v4 hsl
 refine sb [] (fn:=Tryz.f111) Tryz.func111 ?_
 intro Q hQ
 refine wk F ?_
 refine lm (fun nL tL hL=>∃(k:Nat) (j:Heap),l.length-fr-k=nL∧vo (B (((l.drop fr).take k).filter fun k=>bel k.i) j) n v l=hL∧tL 15=.int .i64 k∧k≤l.length-fr∧j0.length≤j.length∧(((l.drop fr).take k).filter fun k=>bel k.i).length≤N) ((fun(k:Nat) (j:Heap)=>(l.length-fr-k:Nat)) (0) (j0)) ?_ ?_
 ·refine Wkn.refl ⟨0,j0,rfl,ay,?_,by omega,by omega,by simp⟩
  all_goals first|exact zq F|rfl|omega|trivial|skip
 rintro _ s2 h' ⟨k,j,rfl,rfl,e15,hk,hj,hp⟩ K2 hK2
 simp only[ak,ao,Nat.reduceEqDiff, ↓reduceIte]at e15
 have F:=F2 F e15
 refine wk F ?_
 refine cq F (fun c1=>?_) (fun c1=>?_)<;>(try exact c1.elim)<;>(refine wk F ?_)
 ·have c2:fr+k<l.length:=by omega
  have c3:k<l.length-fr:=by omega
  obtain⟨y,hy,hym⟩:=ac c2
  have hyd:(l.drop fr)[k]? =some y:=by rw[List.getElem?_drop];exact hy
  have hfl:(((l.drop fr).take (k+1)).filter fun k=>bel k.i)=(((l.drop fr).take k).filter fun k=>bel k.i)++if bel y.i then [y]else []:=by
   rw[List.take_add_one,hyd,Option.toList_some,List.filter_append,List.filter_cons,List.filter_nil]
  have hwh:bel y.i=true→((l.drop fr).filter fun k=>bel k.i)=(((l.drop fr).take k).filter fun k=>bel k.i)++y::(((l.drop fr).drop (k+1)).filter fun k=>bel k.i):=fun hb=>by
   have e1:((l.drop fr).filter fun k=>bel k.i)=(((l.drop fr).take (k+1)++(l.drop fr).drop (k+1)).filter fun k=>bel k.i):=by rw[List.take_append_drop]
   rw[e1,List.filter_append,hfl,if_pos hb,List.append_assoc];rfl
  generalize (((l.drop fr).take k).filter fun k=>bel k.i)=pre at hp hfl hwh ⊢
  have hE1:=hE pre (j++[.row 135 3 0 [y.av]]) y.i
  have hY1:=hY pre (j++[.row 135 3 0 [y.av]]) y hp
  have hb1:∀p,p<b0→∀u x,getRow (B pre j++[x]) p u=getRow (B pre j) p u:=fun p hp u x=>aN _ (by rw[hBl];omega)
  have g1:getRow (B pre j++[.row 135 3 0 [y.av]]) (q+1) 0=some (27,1,[.hp p 0 0 0]):=by rw[hb1 _ (by omega)];exact hr1 _ _
  have g2:getRow (B pre j++[.row 135 3 0 [y.av]]) (q+2) 0=some (66,4,[qA op num s ks]):=by rw[hb1 _ (by omega)];exact hr2 _ _
  rw[← hB]at hE1 hY1
  rw[Ky.av_eq]at hE1 hY1 g1 g2
  have hnB:=hn pre j
  have hnC:=hn' pre j (.row 135 3 0 [.agg [.int .i64 y.d,.int .i64 y.i,.int .i64 y.f]])
  cases hb:bel y.i with
  |false=>
   rw[hb]at hE1 hfl
   have F:=F7 F hy c2 c3 g1 g2 @ax
   try refine sq F ?_
   refine wk F ?_
   refine kq F (hE1) ?_
   refine hK2 _ _ _ (Wkn.refl ⟨k+1,j++[.row 135 3 0 [y.av]],rfl,by rw[hfl];simp[hB,Ky.av],?_,by omega,by simp;omega,by rw[hfl];simpa using hp⟩) (by omega)
   all_goals first|exact zq F|rfl|omega|trivial|skip
  |true=>
   rw[hb]at hE1 hfl
   have hwh:=hwh hb
   have F:=F7 F hy c2 c3 g1 g2 @ax
   try refine sq F ?_
   refine wk F ?_
   refine kq F (hE1) ?_
   refine hY1.mono ?_
   rintro r h' ⟨j',hj',⟨hlt2,rfl,rfl⟩| ⟨heq,rfl,rfl⟩⟩
   ·try refine sq F ?_
    refine wk F ?_
    refine hK2 _ _ _ (Wkn.refl ⟨k+1,j',rfl,by rw[hfl];rfl,?_,by omega,by simp at hj';omega,by rw[hfl];simp;omega⟩) (by omega)
    all_goals first|exact zq F|rfl|omega|trivial|skip
   ·try refine sq F ?_
    refine wk F ?_
    refine ee hQ F ?_
    refine Fin.whole (by rw[aP (hn _ _),aP (hns _ _),hBl,hBsl];simp at hj';omega) (ct _) ⟨j',.inr ⟨by rw[hwh];simp;omega,?_⟩⟩
    rw[hwh, ← heq,List.take_left' rfl]
 ·have e:k=l.length-fr:=by omega
  subst e
  have ht:(l.drop fr).take (l.length-fr)=l.drop fr:=List.take_of_length_le (by simp)
  rw[ht]at hp ⊢
  refine ee hQ F ?_
  exact Fin.whole (by rw[aP (hn _ _),aP (hn _ _),hBl,hBl];omega) (ct _) ⟨j,.inl ⟨hp,rfl⟩⟩
end
end Go.Av
namespace Go.Av
open Go Go.Proofs Go.RowKit
attribute [local irreducible] WP WPl WPix Sat SatY
def nxC(c:Cu)(pre:List Ky):Cu:=match pre.getLast? with
 |none=>c
 |some k=>⟨k.d,k.i,true⟩
theorem vW(c:Cu)(pre:List Ky)(y:Ky):nxC c (pre++[y])=⟨y.d,y.i,true⟩:=by unfold nxC;rw[List.getLast?_concat]
def pgV(L:Nat)(mo:Bool)(c:Cu)(pre:List Ky):AVal:=.agg [.hs (L+10) pre.length 0 pre.length true,.int .i64 (nxC c pre).d,.int .i64 (nxC c pre).i,.bool (nxC c pre).set,.bool mo]
def pgM(H:Heap)(n p:Nat)(qv:AVal)(c:Cu)(N:Int)(fr:Nat)(z:Blk)(mo:Bool)(pre:List Ky)(j:Heap):Heap:=
 H++(.row 66 4 0 [qv]:: .row 55 3 0 [c.av]:: .row 3 1 0 [.int .i64 N]:: .row 68 5 0 [.agg [.nil (.slice none 0 0),.int .i64 0,.int .i64 0,.bool false,.bool false]]::
  .row 68 5 0 [pgV H.length mo c pre]:: .row 56 1 0 [.hp n 0 0 0]:: .row 27 1 0 [.hp p 0 0 0]:: .row 66 4 0 [qv]:: .row 55 3 0 [c.av]:: .row 3 1 0 [.int .i64 fr]::
  .row 3 1 pre.length (pre.map fun k=>iA k.i):: .df::z::j)
def pgA(c:Cu)(bs:List Ky)(N:Nat):AVal:=.agg [.sl 1 ((bs.take N).map fun k=>iA k.i),.int .i64 (nxC c (bs.take N)).d,.int .i64 (nxC c (bs.take N)).i,.bool (nxC c (bs.take N)).set,.bool (decide (N<bs.length))]
section
variable {H:Heap} {n p:Nat} {qv:AVal} {c:Cu} {N:Int} {fr:Nat} {z:Blk} {mo:Bool} {pre:List Ky} {j:Heap}
theorem er(j':Heap):pgM H n p qv c N fr z mo pre j++j'=pgM H n p qv c N fr z mo pre (j++j'):=by simp[pgM]
theorem eu:(pgM H n p qv c N fr z mo pre j).length=H.length+13+j.length:=by simp[pgM];omega
theorem ew:(pgM H n p qv c N fr z mo pre j)[H.length+12]? =some z:=by
 unfold pgM;rw[List.getElem?_append_right (by omega),Nat.add_sub_cancel_left];rfl
theorem xu:(pgM H n p qv c N fr z mo pre j)[H.length+11]? =some .df:=by
 unfold pgM;rw[List.getElem?_append_right (by omega),Nat.add_sub_cancel_left];rfl
theorem fM(z':Blk):(pgM H n p qv c N fr z mo pre j).set (H.length+12) z'=pgM H n p qv c N fr z' mo pre j:=by
 unfold pgM;rw[dG _ rfl];rfl
theorem bT(k v:Nat):getRow (pgM H n p qv c N fr z mo pre j) (H.length+k) v=getRow (.row 66 4 0 [qv]:: .row 55 3 0 [c.av]:: .row 3 1 0 [.int .i64 N]:: .row 68 5 0 [.agg [.nil (.slice none 0 0),.int .i64 0,.int .i64 0,.bool false,.bool false]]::
  .row 68 5 0 [pgV H.length mo c pre]:: .row 56 1 0 [.hp n 0 0 0]:: .row 27 1 0 [.hp p 0 0 0]:: .row 66 4 0 [qv]:: .row 55 3 0 [c.av]:: .row 3 1 0 [.int .i64 fr]::
  .row 3 1 pre.length (pre.map fun k=>iA k.i):: .df::z::j) k v:=bD v rfl
theorem uD:(pgM H n p qv c N fr z mo pre j).set (H.length+4) (.row 68 5 0 [pgV H.length true c pre])=pgM H n p qv c N fr z true pre j:=by
 unfold pgM;rw[dG _ rfl];rfl
theorem vX(y:Ky):((pgM H n p qv c N fr z mo pre j).set (H.length+10) (.row 3 1 (pre.length+1) ((pre.map fun k=>iA k.i)++[iA y.i]))).set (H.length+4) (.row 68 5 0 [.agg [.hs (H.length+10) (pre.length+1) 0 (pre.length+1) true,.int .i64 y.d,.int .i64 y.i,.bool true,.bool mo]])=pgM H n p qv c N fr z mo (pre++[y]) j:=by
 unfold pgM;rw[dG _ rfl,dG _ rfl]
 simp only[List.set_cons_succ,List.set_cons_zero,pgV,vW,List.length_append,List.length_singleton,List.map_append,List.map_cons,List.map_nil]
end
theorem uE{H Z:Heap}{n:Nat}{c:Cu}{bs:List Ky}{N L:Nat}(_hn:n+2≤H.length)(hg:getRow Z (H.length+10) (bs.take N).length=some (L,1,(bs.take N).map fun k=>iA k.i)):
  Frz Z H.length (.tup [.agg [.hs (H.length+10) (bs.take N).length 0 (bs.take N).length true,.int .i64 (nxC c (bs.take N)).d,.int .i64 (nxC c (bs.take N)).i,.bool (nxC c (bs.take N)).set,.bool (decide (N<bs.length))],.int .i64 0]) (.tup [pgA c bs N,.int .i64 0]):=by
 refine .tup _ _ rfl fun i a b ha hb=>?_
 match i with
 |0=>
  simp only[List.getElem?_cons_zero,Option.some.injEq]at ha hb
  subst ha;subst hb
  refine .agg _ _ rfl (fun d hd=>?_) fun i a b ha hb=>?_
  ·simp only[List.mem_cons,List.not_mem_nil,or_false]at hd
   rcases hd with rfl|rfl|rfl|rfl|rfl<;>rfl
  ·match i with
   |0=>
    simp only[List.getElem?_cons_zero,Option.some.injEq]at ha hb
    subst ha;subst hb
    refine Frz.data (by omega) hg (by simp) (fun r hr=>?_) (fun r hr=>?_)
    ·obtain⟨x,_,rfl⟩:=List.mem_map.1 hr;exact .int _ _
    ·obtain⟨x,_,rfl⟩:=List.mem_map.1 hr;intro c hc;simp[AVal.cells,iA]at hc;subst hc;rfl
   |1=>simp at ha hb;subst ha;subst hb;exact .clo _ (.int _ _)
   |2=>simp at ha hb;subst ha;subst hb;exact .clo _ (.int _ _)
   |3=>simp at ha hb;subst ha;subst hb;exact .clo _ (.bool _)
   |4=>simp at ha hb;subst ha;subst hb;exact .clo _ (.bool _)
   |i+5=>simp at ha
 |1=>simp at ha hb;subst ha;subst hb;exact .clo _ (.int _ _)
 |i+2=>simp at ha
theorem eP{H:Heap}{n v:Nat}{l:List Ky}(hn:n+2≤H.length){p:Nat}(hp:n+2≤p):(vo H n v l)[p]? =H[p]? :=gJ hn (.inr hp)
variable (G:Nat→Option (List AVal))
section
variable {l:List Ky} {H:Heap} {n v:Nat}
theorem su{ass body:Code}{k:Nat}{t:Env}{Q1:Exit→Env→Heap→Prop}(hl:l.length≤1048576)(bel:Int→Bool)(c:Cu)(p:Nat)(op num:Int)(s:Bs)(ks:List AVal)(N yl:Nat)(hn:n+2≤H.length)
  (okA:okCode k ass=true)(okB:okCode k body=true)(flA:flat ass=true)(flB:flat body=true)
  (hA:∀(y:Ky) (H':Heap) (Q:Exit→Env→Heap→Prop),Q .normal (upd (upd t 42 y.av) 14 (.hp H'.length 0 0 0)) (H'++[.row 135 3 0 [y.av]])→WP (CT G) ass Q (upd t 42 y.av) H')
  (hB:∀(y:Ky) (pre:List Ky) (j:Heap) (z:Blk) (Q:Exit→Env→Heap→Prop),pre.length≤N→
   (pre.length=N→∀t',Q (.exit 0) t' (vo (pgM H n p (qA op num s ks) c N (fromK l c) z true pre (j++[.row 135 3 0 [y.av]])) n v l))→
   (pre.length<N→∀t',Q .normal t' (vo (pgM H n p (qA op num s ks) c N (fromK l c) z false (pre++[y]) (j++[.row 135 3 0 [y.av]])) n v l))→
   WP (CT G) body Q (upd (upd t 42 y.av) 14 (.hp (H.length+13+j.length) 0 0 0)) (vo (pgM H n p (qA op num s ks) c N (fromK l c) z false pre j++[.row 135 3 0 [y.av]]) n v l))
  (hE:∀j id,Sat (CT G) 39 [.hp p 0 0 0,qA op num s ks,.int .i64 id] (vo (H++j) n v l) (fun r h'=>r=.bool (bel id)∧h'=vo (H++j) n v l))
  (f0:∀j,Q1 .normal t (vo (pgM H n p (qA op num s ks) c N (fromK l c) .dead (decide (N<((l.drop (fromK l c)).filter fun k=>bel k.i).length)) (((l.drop (fromK l c)).filter fun k=>bel k.i).take N) j) n v l))
  (f1:∀j,Q1 (.exit 0) t (vo (pgM H n p (qA op num s ks) c N (fromK l c) .dead (decide (N<((l.drop (fromK l c)).filter fun k=>bel k.i).length)) (((l.drop (fromK l c)).filter fun k=>bel k.i).take N) j) n v l)):
  Sat (CT G) 111 [.fn (.yield yl) [] [],.hp (H.length+5) 0 0 0,.hp (H.length+9) 0 0 0,.hp (H.length+6) 0 0 0,.hp (H.length+7) 0 0 0]
   (vo (H++[Blk.row 66 4 0 [qA op num s ks],.row 55 3 0 [.agg [.int .i64 c.d,.int .i64 c.i,.bool c.set]],.row 3 1 0 [.int .i64 N],.row 68 5 0 [.agg [.nil (.slice none 0 0),.int .i64 0,.int .i64 0,.bool false,.bool false]],.row 68 5 0 [.agg [.hs (H.length+10) 0 0 0 true,.int .i64 c.d,.int .i64 c.i,.bool c.set,.bool false]],.row 56 1 0 [.hp n 0 0 0],.row 27 1 0 [.hp p 0 0 0],.row 66 4 0 [qA op num s ks],.row 55 3 0 [.agg [.int .i64 c.d,.int .i64 c.i,.bool c.set]],.row 3 1 0 [.int .i64 (fromK l c)],.row 3 1 0 []]) n v l++[.df,.lp yl k t #[42] ass body .ready none]) (rangeQ (H.length+11) yl k t #[42] ass body Q1):=by
 have hnM:∀{z:Blk} {mo:Bool} {pre:List Ky} {j:Heap},n+2≤(pgM H n p (qA op num s ks) c N (fromK l c) z mo pre j).length:=by intro z mo pre j;rw[eu];omega
 have hseq:=vV G (v:=v) (n:=n) hl bel N yl (H.length+5) (H.length+13) p op num s ks (fun pre j=>pgM H n p (qA op num s ks) c N (fromK l c) (.lp yl k t #[42] ass body .ready none) false pre j) (fun pre j=>pgM H n p (qA op num s ks) c N (fromK l c) (.lp yl k t #[42] ass body .done (some (.exit 0))) true pre j) (fromK l c) (mY l c)
  (fun pre j j'=>er j') (fun pre j=>eu) (fun pre j=>eu) (by omega) (by omega) (fun pre j=>bT 5 0) (fun pre j=>bT 6 0) (fun pre j=>bT 7 0) (fun pre j=>bT 9 0)
  (fun pre j id=>hE _ id) (fun pre j y hp=>?_) []
 ·have e0:vo (H++[Blk.row 66 4 0 [qA op num s ks],.row 55 3 0 [.agg [.int .i64 c.d,.int .i64 c.i,.bool c.set]],.row 3 1 0 [.int .i64 N],.row 68 5 0 [.agg [.nil (.slice none 0 0),.int .i64 0,.int .i64 0,.bool false,.bool false]],.row 68 5 0 [.agg [.hs (H.length+10) 0 0 0 true,.int .i64 c.d,.int .i64 c.i,.bool c.set,.bool false]],.row 56 1 0 [.hp n 0 0 0],.row 27 1 0 [.hp p 0 0 0],.row 66 4 0 [qA op num s ks],.row 55 3 0 [.agg [.int .i64 c.d,.int .i64 c.i,.bool c.set]],.row 3 1 0 [.int .i64 (fromK l c)],.row 3 1 0 []]) n v l++[.df,.lp yl k t #[42] ass body .ready none]=vo (pgM H n p (qA op num s ks) c N (fromK l c) (.lp yl k t #[42] ass body .ready none) false [] []) n v l:=by
   rw[dI (by simp;omega)]
   simp[pgM,pgV,nxC,Cu.av]
  rw[e0]
  refine hseq.mono ?_
  rintro r h' ⟨j,⟨hle,rfl⟩| ⟨hlt,rfl⟩⟩
  ·refine⟨.ready,none,by rw[eP hnM (by omega)];exact ew,by simp,?_⟩
   have:=f0 j
   rw[List.take_of_length_le hle,decide_eq_false (by omega)]at this
   show Q1 .normal t _
   rw[eb hnM _ (by omega),fM]
   exact this
  ·refine⟨.done,some (.exit 0),by rw[eP hnM (by omega)];exact ew,by simp,?_⟩
   have:=f1 j
   rw[decide_eq_true hlt]at this
   show Q1 (.exit 0) t _
   rw[eb hnM _ (by omega),fM]
   exact this
 ·refine SatY.roundQ (p:=H.length+12) (by rw[eP hnM (by omega)];exact ew) okA okB flA flB fun Qa ha=>hA y _ Qa (ha _ _ ?_ fun Qb hb he=>?_)
  ·rw[dI hnM,eP (by rw[List.length_append];have:=hnM (z:=.lp yl k t #[42] ass body .ready none) (mo:=false) (pre:=pre) (j:=j);omega) (by omega),er];exact ew
  ·have e1:(vo (pgM H n p (qA op num s ks) c N (fromK l c) (.lp yl k t #[42] ass body .ready none) false pre j) n v l++[Blk.row 135 3 0 [y.av]]).set (H.length+12) (.lp yl k t #[42] ass body .busy none)=vo (pgM H n p (qA op num s ks) c N (fromK l c) (.lp yl k t #[42] ass body .busy none) false pre j++[.row 135 3 0 [y.av]]) n v l:=by
    rw[dI hnM,er,eb hnM _ (by omega),fM,er]
   rw[e1,aP hnM,eu]
   refine hB y pre j _ Qb hp (fun e t'=>he 0 _ _ ?_ ?_) fun e t'=>hb _ _ ?_ ?_
   ·rw[eP hnM (by omega)];exact ew
   ·rw[eb hnM _ (by omega),fM]
    exact⟨_,by simp,.inr ⟨e,rfl,rfl⟩⟩
   ·rw[eP hnM (by omega)];exact ew
   ·rw[eb hnM _ (by omega),fM]
    exact⟨_,by simp,.inl ⟨e,rfl,rfl⟩⟩
theorem uF(hs:Sk l)(hl:l.length≤1048576)(bel:Int→Bool)(c:Cu)(p:Nat)(hp:p<H.length)(op num:Int)(s:Bs)(ks:List AVal)(N:Nat)(hN:1≤N∧N≤100)(hn:n+2≤H.length)
  (hq:∀j,abin Tryz.prog (vo (H++j) n v l) .eql 27 (.hp p 0 0 0) (.nil (.pointer none))=some (.bool false))
  (hC:∀j,Sat (CT G) 66 [qA op num s ks] (vo (H++j) n v l) (fun r h'=>r=.int .i64 0∧h'=vo (H++j) n v l))
  (hE:∀j id,Sat (CT G) 39 [.hp p 0 0 0,qA op num s ks,.int .i64 id] (vo (H++j) n v l) (fun r h'=>r=.bool (bel id)∧h'=vo (H++j) n v l)):
  Sat (CT G) 31 [.hp n 0 0 0,.hp p 0 0 0,qA op num s ks,c.av,.int .i64 N] (vo H n v l)
   (fun r h'=>r=.tup [pgA c ((l.drop (fromK l c)).filter fun k=>bel k.i) N,.int .i64 0]∧h'=vo H n v l):=by
 have hfr:=mY l c
 have hCh:=hC [.row 66 4 0 [qA op num s ks],.row 55 3 0 [c.av],.row 3 1 0 [.int .i64 N],.row 68 5 0 [.agg [.nil (.slice none 0 0),.int .i64 0,.int .i64 0,.bool false,.bool false]]]
 rw[Cu.av_eq]at hCh
 have n1:decide ((N:Int)<1)=false:=by simp;omega
 have n2:decide ((N:Int)>100)=false:=by simp;omega
 have df:∀i:Decidable False, @decide False i=false:=fun i=>by simp
 skip
 refine Sat.range [.cell 10 68,.tmp 11] (fn:=Tryz.f31) (H.length+11) Tryz.func31 ?_
 intro Q0 Q1 hQ hQ1
 have F:=F5 hq n1 n2 df @ax
 refine EJ.seq1 (by kernel_rfl) fun KK kK=>?_
 refine wk F ?_
 refine kK _ _ (w0 ?_)
 clear kK KK
 refine EJ.seq1 (by kernel_rfl) fun KK kK=>?_
 refine wk F ?_
 refine kK _ _ (w0 ?_)
 clear kK KK
 refine EJ.seq1 (by kernel_rfl) fun KK kK=>?_
 refine wk F ?_
 refine kq F (hCh) ?_
 refine kK _ _ (w0 ?_)
 clear kK KK
 refine EJ.seq1 (by kernel_rfl) fun KK kK=>?_
 refine wk F ?_
 refine kK _ _ (w0 ?_)
 clear kK KK
 refine EJ.seq1 (by kernel_rfl) fun KK kK=>?_
 refine wk F ?_
 refine kK _ _ (w0 ?_)
 clear kK KK
 refine EJ.seq2 (EJ.seq1 (by kernel_rfl) fun KK kK=>?_)
 refine wk F ?_
 have hBh:=qp G (v:=v) (n:=n) hs hl c p (H:=H++[Blk.row 66 4 0 [qA op num s ks],.row 55 3 0 [c.av],.row 3 1 0 [.int .i64 N],.row 68 5 0 [.agg [.nil (.slice none 0 0),.int .i64 0,.int .i64 0,.bool false,.bool false]],.row 68 5 0 [.agg [.nil (.slice none 0 0),.int .i64 c.d,.int .i64 c.i,.bool c.set,.bool false]]]) (by simp;omega) op num s ks (by simp;omega)
 simp only[List.length_append,List.length_cons,List.length_nil,Nat.reduceAdd,Nat.zero_add,Nat.add_assoc,bhB,List.append_assoc,List.cons_append,List.nil_append,Cu.av_eq]at hBh
 refine kq F (hBh) ?_
 refine kK _ _ ⟨_,_,Weak.virtCell (p:=H.length+4) (v:=0) 3 1 (by omega) (by simp(disch:=first|omega| (simp only[go_sem, ↓reduceIte,seval];first|done|omega)|fail) only[go_sem, ↓reduceIte,seval,F];rfl) 0 rfl,?_⟩
 clear kK KK
 try refine sq F ?_
 refine EJ.block (EJ.forget (P:=fun t=>t 9=.hp (H.length+2) 0 0 0∧t 13=.hp (H.length+4) 0 0 0∧t 10=.hp (H.length+3) 0 0 0∧t 41=.fn (.func 111) [] [.hp (H.length+5) 0 0 0,.hp (H.length+9) 0 0 0,.hp (H.length+6) 0 0 0,.hp (H.length+7) 0 0 0]) ⟨by simp(disch:=first|omega| (simp only[go_sem, ↓reduceIte,seval];first|done|omega)|fail) only[go_sem, ↓reduceIte,seval,F],by simp(disch:=first|omega| (simp only[go_sem, ↓reduceIte,seval];first|done|omega)|fail) only[go_sem, ↓reduceIte,seval,F],by simp(disch:=first|omega| (simp only[go_sem, ↓reduceIte,seval];first|done|omega)|fail) only[go_sem, ↓reduceIte,seval,F],by simp(disch:=first|omega| (simp only[go_sem, ↓reduceIte,seval];first|done|omega)|fail) only[go_sem, ↓reduceIte,seval,F]⟩ ?_)
 rintro t ⟨tq9,tq13,tq10,tq41⟩
 refine EJ.range (gf:=111) (fn:=Tryz.f111) rfl tq41 Tryz.func111 rfl (by kernel_rfl) (by rw[aP (by simp;omega)];simp) fun yl=>?_
 refine su G hl bel c p op num s ks N yl hn (by kernel_rfl) (by kernel_rfl) rfl rfl (fun y H' Q hq1=>?_) (fun y pre j z Q hp hx ha=>?_) hE (fun j=>?_) (fun j=>?_)
 ·refine wk F ?_
  exact hq1
 ·have xl:=eu (H:=H) (n:=n) (p:=p) (qv:=qA op num s ks) (c:=c) (N:=N) (fr:=fromK l c) (z:=z) (mo:=false) (pre:=pre) (j:=j)
  have r4:getRow (pgM H n p (qA op num s ks) c N (fromK l c) z false pre j) (H.length+4) 0=some (68,5,[pgV H.length false c pre]):=bT 4 0
  have r2:getRow (pgM H n p (qA op num s ks) c N (fromK l c) z false pre j) (H.length+2) 0=some (3,1,[.int .i64 N]):=bT 2 0
  have r10:getRow (pgM H n p (qA op num s ks) c N (fromK l c) z false pre j) (H.length+10) pre.length=some (3,1,pre.map fun k=>iA k.i):=(bT 10 pre.length).trans (by simp[getRow])
  have m1:(pgM H n p (qA op num s ks) c N (fromK l c) z false pre j).set (H.length+4) (.row 68 5 0 [pgV H.length true c pre])++[Blk.row 135 3 0 [y.av]]=pgM H n p (qA op num s ks) c N (fromK l c) z true pre (j++[.row 135 3 0 [y.av]]):=by rw[uD,er]
  have a1:=congrArg (· ++ [Blk.row 135 3 0 [y.av]]) (vX (H:=H) (n:=n) (p:=p) (qv:=qA op num s ks) (c:=c) (N:=N) (fr:=fromK l c) (z:=z) (mo:=false) (pre:=pre) (j:=j) y)
  simp only[er]at a1
  rw[← m1]at hx
  rw[← a1]at ha
  simp only[pgV,Ky.av_eq,iA]at r4 r10 hx ha
  clear m1 a1
  generalize pgM H n p (qA op num s ks) c N (fromK l c) z false pre j=X at*
  have hnX:n+2≤X.length:=by omega
  have hmL:(pre.map fun k=>AVal.int .i64 k.i).length=pre.length:=List.length_map ..
  by_cases hpn:pre.length=N
  ·have hq3:((pre.length:Int)==(N:Int))=true:=by simp[hpn]
   have F:=F8 F tq9 tq13 r4 r2 r10 hq3 @ax
   refine wk F ?_
   exact hx hpn _
  ·have hq3:((pre.length:Int)==(N:Int))=false:=by simp;omega
   have F:=F9 F tq9 tq13 r4 r2 r10 hq3 @hmL @ax
   refine wk F ?_
   refine aq F ?_
   try refine sq F ?_
   refine wk F ?_
   exact ha (by omega) _
 all_goals (
  show MJ (CT G) _ _ Q1 _ t _
  generalize ((l.drop (fromK l c)).filter fun k=>bel k.i)=bs at hQ1 ⊢
  have xl:(pgM H n p (qA op num s ks) c N (fromK l c) .dead (decide (N<bs.length)) (bs.take N) j).length=_:=eu
  have r4:getRow (pgM H n p (qA op num s ks) c N (fromK l c) .dead (decide (N<bs.length)) (bs.take N) j) (H.length+4) 0=some (68,5,[pgV H.length (decide (N<bs.length)) c (bs.take N)]):=bT 4 0
  have r3:getRow (pgM H n p (qA op num s ks) c N (fromK l c) .dead (decide (N<bs.length)) (bs.take N) j) (H.length+3) 0=some (68,5,[.agg [.nil (.slice none 0 0),.int .i64 0,.int .i64 0,.bool false,.bool false]]):=bT 3 0
  have r10:getRow (pgM H n p (qA op num s ks) c N (fromK l c) .dead (decide (N<bs.length)) (bs.take N) j) (H.length+10) (bs.take N).length=some (3,1,(bs.take N).map fun k=>iA k.i):=(bT 10 _).trans (by simp[getRow])
  have d11:(pgM H n p (qA op num s ks) c N (fromK l c) .dead (decide (N<bs.length)) (bs.take N) j)[H.length+11]? =some .df:=xu
  obtain⟨J,hJ⟩:∃J,(pgM H n p (qA op num s ks) c N (fromK l c) .dead (decide (N<bs.length)) (bs.take N) j)=H++J:=⟨_,rfl⟩
  simp only[pgV]at r4
  generalize (pgM H n p (qA op num s ks) c N (fromK l c) .dead (decide (N<bs.length)) (bs.take N) j)=X at*
  have hnX:n+2≤X.length:=by omega
  refine MJ.wp (by kernel_rfl) ?_
  have F:=F6 F tq13 tq10 r4 r3 @ax
  refine wk F ?_
  refine(hQ1 _ _ (by rw[eP (by rw[List.length_set];exact hnX) (by omega),List.getElem?_set_ne (by omega)];exact d11) ?_).1
  simp(disch:=first|omega| (simp only[go_sem, ↓reduceIte,seval];first|done|omega)|fail) only[go_sem, ↓reduceIte,seval,F,resA,resL,resA1]
  have hg:=aZ (H:=X) (p:=H.length+3) (q:=H.length+10) (.row 68 5 0 [.agg [.hs (H.length+10) (bs.take N).length 0 (bs.take N).length true,.int .i64 (nxC c (bs.take N)).d,.int .i64 (nxC c (bs.take N)).i,.bool (nxC c (bs.take N)).set,.bool (decide (N<bs.length))]]) (bs.take N).length (by omega)
  rw[r10, ← aZ (p:=H.length+11) .dead _ (by omega)]at hg
  subst hJ
  rw[dG _ rfl,dG _ rfl]at hg ⊢
  rw[← ea (n:=n) (v:=v) (l:=l) (by rw[List.length_append];omega) _ (by omega)]at hg
  exact cZ hn rfl (gM hn) (uE hn hg) ⟨rfl,rfl⟩)
end
end Go.Av
namespace Go.Av
open Go Go.Proofs Go.RowKit
attribute [local irreducible] WP WPl WPix Sat
def lastI(bel:Int→Bool)(l:List Ky):Int:=match (l.filter fun k=>bel k.i).getLast? with
 |some k=>k.i
 |none=>0
def headI(bel:Int→Bool)(l:List Ky):Int:=match (l.filter fun k=>bel k.i).head? with
 |some k=>k.i
 |none=>0
def arF(bel:Int→Bool)(l:List Ky)(item:Int):Int×Int:=match l.findIdx? (fun k=>decide (k.i=item))with
 |some i=>(lastI bel (l.take i),headI bel (l.drop (i+1)))
 |none=>(0,0)
theorem lg{bel:Int→Bool}{l:List Ky}{y:Ky}(h:bel y.i=true):lastI bel (l++[y])=y.i:=by
 unfold lastI;rw[List.filter_append,List.filter_cons,if_pos h,List.filter_nil,List.getLast?_concat]
theorem jI{bel:Int→Bool}{l:List Ky}{y:Ky}(h:bel y.i=false):lastI bel (l++[y])=lastI bel l:=by
 unfold lastI;rw[List.filter_append,List.filter_cons,if_neg (by simp[h]),List.filter_nil,List.append_nil]
theorem jJ{bel:Int→Bool}{l:List Ky}{y:Ky}(h:bel y.i=true):headI bel (y::l)=y.i:=by
 unfold headI;rw[List.filter_cons,if_pos h];rfl
theorem jK{bel:Int→Bool}{l:List Ky}{y:Ky}(h:bel y.i=false):headI bel (y::l)=headI bel l:=by
 unfold headI;rw[List.filter_cons,if_neg (by simp[h])]
variable (G:Nat→Option (List AVal))
section
variable {l:List Ky} {H:Heap} {n v:Nat}
theorem jL(hl:l.length≤1048576)(bel:Int→Bool)(sp:AVal)(item op num:Int)(s:Bs)(ks:List AVal)(hn:n+2≤H.length)
  (hC:∀j,Sat (CT G) 66 [qA op num s ks] (vo (H++j) n v l) (fun r h'=>r=.int .i64 0∧h'=vo (H++j) n v l))
  (hE:∀j id,Sat (CT G) 39 [sp,qA op num s ks,.int .i64 id] (vo (H++j) n v l) (fun r h'=>r=.bool (bel id)∧h'=vo (H++j) n v l)):
  Sat (CT G) 32 [.hp n 0 0 0,sp,qA op num s ks,.int .i64 item] (vo H n v l)
   (fun r h'=>r=.tup [.int .i64 (arF bel l item).1,.int .i64 (arF bel l item).2]∧h'=vo H n v l):=by
 have ct:∀N (a b:Int),Clo N (.tup [.int .i64 a,.int .i64 b]):=fun N a b=>.tup _ (fun x hx=>by
  simp only[List.mem_cons,List.not_mem_nil,or_false]at hx
  rcases hx with rfl|rfl<;>exact .int _ _)
 have dt:∀i:Decidable True, @decide True i=true:=fun i=>by simp
 have df:∀i:Decidable False, @decide False i=false:=fun i=>by simp
 have hn1:∀j:Heap,n+2≤(H++j).length:=fun j=>by simp;omega
 have hA:=om G (v:=v) (l:=l) hl item (hn1 [.row 66 4 0 [qA op num s ks]])
 have hCh:=hC [.row 66 4 0 [qA op num s ks]]
 unfold ixK at hA
 unfold arF
 cases hx:l.findIdx? (fun k=>decide (k.i=item))with
 |none=>
  rw[hx]at hA
  have F:=dt
  refine sb [.tmp 8,.tmp 9] (fn:=Tryz.f32) Tryz.func32 ?_
  intro Q hQ
  refine wk F ?_
  refine kq F (hA) ?_
  refine ee hQ F ?_
  exact bz hn (ct _ _ _) ⟨rfl,rfl⟩
 |some i=>
  rw[hx]at hA
  obtain⟨hi,_⟩:=List.findIdx?_eq_some_iff_getElem.1 hx
  have xw1:IntKind.i64.wrap ((i:Int)-1)=(i:Int)-1:=by rw[IntKind.wrap_i64];omega
  have xw2:IntKind.i64.wrap ((i:Int)+1)=((i+1:Nat):Int):=by rw[IntKind.wrap_i64];omega
  have g0:decide ((i:Int)<0)=false:=by simp
  have F:=F7 xw1 xw2 g0 hn1 hn dt df
  by_cases hlt:i+1<l.length
  ·have hsl:=jH (P:=Tryz.prog) (T:=131) (k:=.i64) (len:=l.length) (i:=i+1) (by simp only[go_sem];try rfl) (bQ (l:=l) (v:=v) (hn1 [.row 66 4 0 [qA op num s ks]])) (by simp only[go_sem];try rfl) (.inl hlt)
   have F:=F3 F hlt hsl
   refine sb [.tmp 8,.tmp 9] (fn:=Tryz.f32) Tryz.func32 ?_
   intro Q hQ
   refine wk F ?_
   refine kq F (hA) ?_
   refine kq F (hCh) ?_
   refine wk F ?_
   refine lm (fun nL tL hL=>∃(m:Nat),m=nL∧vo (H++[.row 66 4 0 [qA op num s ks]]) n v l=hL∧tL 11=.int .i64 ((m:Int)-1)∧tL 8=.int .i64 0∧m≤i∧lastI bel (l.take i)=lastI bel (l.take m)) ((fun(m:Nat)=>(m:Nat)) (i)) ?_ ?_
   ·refine Wkn.refl ⟨i,rfl,ay,?_,?_,Nat.le_refl i,rfl⟩
    all_goals first|exact zq F|rfl|omega|trivial|skip
   rintro _ s2 h' ⟨m,rfl,rfl,e11,e8,hm,hz⟩ K2 hK2
   simp only[ak,ao,Nat.reduceEqDiff, ↓reduceIte]at e11 e8
   have F:=F3 F e11 e8
   refine wk F ?_
   refine cq F (fun c1=>?_) (fun c1=>?_)<;>(try exact c1.elim)<;>(refine wk F ?_)
   ·have c2:m-1<l.length:=by omega
    have em:(m:Int)-1=((m-1:Nat):Int):=by omega
    have em2:IntKind.i64.wrap (((m-1:Nat):Int)-1)=((m-1:Nat):Int)-1:=by rw[IntKind.wrap_i64];omega
    obtain⟨y1,hy1,hym1⟩:=ac c2
    have et:l.take m=l.take (m-1)++[y1]:=by
     have h:=List.take_add_one (l:=l) (i:=m-1)
     rw[show m-1+1=m from by omega,hy1]at h
     exact h
    rw[et]at hz
    have hE2:=hE [.row 66 4 0 [qA op num s ks]] y1.i
    cases hb0:bel y1.i with
    |true=>
     rw[hb0]at hE2
     rw[lg hb0]at hz
     have F:=F5 F em em2 hy1 c2
     try refine sq F ?_
     refine wk F ?_
     refine aA (hE2) ?_
     try refine sq F ?_
     refine wk F ?_
     refine lm (fun nL tL hL=>∃(k:Nat) (j:Heap),l.length-(i+1)-k=nL∧vo (H++(.row 66 4 0 [qA op num s ks]::j)) n v l=hL∧tL 57=.int .i64 k∧tL 8=.int .i64 y1.i∧k≤l.length-(i+1)∧headI bel (l.drop (i+1))=headI bel (l.drop (i+1+k))) ((fun(k:Nat) (j:Heap)=>(l.length-(i+1)-k:Nat)) (0) ([])) ?_ ?_
     ·refine Wkn.refl ⟨0,[],rfl,ay,?_,?_,by omega,rfl⟩
      all_goals first|exact zq F|rfl|omega|trivial|skip
     rintro _ s3 h' ⟨k,j,rfl,rfl,e57,e8,hk,hz2⟩ K3 hK3
     simp only[ak,ao,Nat.reduceEqDiff, ↓reduceIte]at e57 e8
     have F:=F3 F e57 e8
     refine wk F ?_
     refine cq F (fun d1=>?_) (fun d1=>?_)<;>(try exact d1.elim)<;>(refine wk F ?_)
     ·have d2:i+1+k<l.length:=by omega
      obtain⟨y,hy,hym⟩:=ac d2
      have d3:k<l.length-(i+1):=by omega
      have hyi:l[i+(1+k)]? =some y:=by rw[← hy];congr 1;omega
      have hE3:=hE (.row 66 4 0 [qA op num s ks]::j++[.row 135 3 0 [y.av]]) y.i
      rw[Ky.av_eq]at hE3
      rw[aD hy]at hz2
      cases hb:bel y.i with
      |true=>
       rw[hb]at hE3
       rw[jJ hb]at hz2
       have F:=F5 F hy hyi d3 @ax
       try refine sq F ?_
       refine wk F ?_
       refine kq F (hE3) ?_
       refine eG (by decide+kernel) (mB G) ?_
       refine sq F ?_
       refine wk F ?_
       refine ee hQ F ?_
       exact bz hn (ct _ _ _) ⟨by rw[show lastI bel (l.take i)=y1.i from hz,hz2],rfl⟩
      |false=>
       rw[hb]at hE3
       rw[jK hb]at hz2
       have F:=F5 F hy hyi d3 @ax
       try refine sq F ?_
       refine wk F ?_
       refine kq F (hE3) ?_
       refine hK3 _ _ _ (Wkn.refl ⟨k+1,j++[.row 135 3 0 [y.av]],rfl,by simp[Ky.av],?_,?_,by omega,hz2⟩) (by omega)
       all_goals first|exact zq F|rfl|omega|trivial|skip
     ·rw[List.drop_of_length_le (show l.length≤i+1+k by omega)]at hz2
      refine ee hQ F ?_
      exact bz hn (ct _ _ _) ⟨by rw[show lastI bel (l.take i)=y1.i from hz,hz2];rfl,rfl⟩
    |false=>
     rw[hb0]at hE2
     rw[jI hb0]at hz
     have F:=F5 F em em2 hy1 c2
     try refine sq F ?_
     refine wk F ?_
     refine aA (hE2) ?_
     try refine sq F ?_
     refine wk F ?_
     refine hK2 _ _ _ (Wkn.refl ⟨m-1,rfl,ay,?_,?_,by omega,hz⟩) (by omega)
     all_goals first|exact zq F|rfl|omega|trivial|skip
   ·have hz0:lastI bel (l.take i)=0:=by
     rw[hz,show m=0 from by omega];rfl
    refine lm (fun nL tL hL=>∃(k:Nat) (j:Heap),l.length-(i+1)-k=nL∧vo (H++(.row 66 4 0 [qA op num s ks]::j)) n v l=hL∧tL 57=.int .i64 k∧tL 8=.int .i64 0∧k≤l.length-(i+1)∧headI bel (l.drop (i+1))=headI bel (l.drop (i+1+k))) ((fun(k:Nat) (j:Heap)=>(l.length-(i+1)-k:Nat)) (0) ([])) ?_ ?_
    ·refine Wkn.refl ⟨0,[],rfl,ay,?_,?_,by omega,rfl⟩
     all_goals first|exact zq F|rfl|omega|trivial|skip
    rintro _ s3 h' ⟨k,j,rfl,rfl,e57,e8,hk,hz2⟩ K3 hK3
    simp only[ak,ao,Nat.reduceEqDiff, ↓reduceIte]at e57 e8
    have F:=F3 F e57 e8
    refine wk F ?_
    refine cq F (fun d1=>?_) (fun d1=>?_)<;>(try exact d1.elim)<;>(refine wk F ?_)
    ·have d2:i+1+k<l.length:=by omega
     obtain⟨y,hy,hym⟩:=ac d2
     have d3:k<l.length-(i+1):=by omega
     have hyi:l[i+(1+k)]? =some y:=by rw[← hy];congr 1;omega
     have hE3:=hE (.row 66 4 0 [qA op num s ks]::j++[.row 135 3 0 [y.av]]) y.i
     rw[Ky.av_eq]at hE3
     rw[aD hy]at hz2
     cases hb:bel y.i with
     |true=>
      rw[hb]at hE3
      rw[jJ hb]at hz2
      have F:=F5 F hy hyi d3 @ax
      try refine sq F ?_
      refine wk F ?_
      refine kq F (hE3) ?_
      refine eG (by decide+kernel) (mB G) ?_
      refine sq F ?_
      refine wk F ?_
      refine ee hQ F ?_
      exact bz hn (ct _ _ _) ⟨by rw[show lastI bel (l.take i)=0 from hz0,hz2],rfl⟩
     |false=>
      rw[hb]at hE3
      rw[jK hb]at hz2
      have F:=F5 F hy hyi d3 @ax
      try refine sq F ?_
      refine wk F ?_
      refine kq F (hE3) ?_
      refine hK3 _ _ _ (Wkn.refl ⟨k+1,j++[.row 135 3 0 [y.av]],rfl,by simp[Ky.av],?_,?_,by omega,hz2⟩) (by omega)
      all_goals first|exact zq F|rfl|omega|trivial|skip
    ·rw[List.drop_of_length_le (show l.length≤i+1+k by omega)]at hz2
     refine ee hQ F ?_
     exact bz hn (ct _ _ _) ⟨by rw[show lastI bel (l.take i)=0 from hz0,hz2];rfl,rfl⟩
  ·have hle:i+1=l.length:=by omega
   have hsl:=fX (P:=Tryz.prog) (T:=131) (k:=.i64) (len:=l.length) (i:=i+1) (by simp only[go_sem];try rfl) (bQ (l:=l) (v:=v) (hn1 [.row 66 4 0 [qA op num s ks]])) (by simp only[go_sem];try rfl) hle (by omega)
   have F:=F2 F hsl
   refine sb [.tmp 8,.tmp 9] (fn:=Tryz.f32) Tryz.func32 ?_
   intro Q hQ
   refine wk F ?_
   refine kq F (hA) ?_
   refine kq F (hCh) ?_
   refine wk F ?_
   refine lm (fun nL tL hL=>∃(m:Nat),m=nL∧vo (H++[.row 66 4 0 [qA op num s ks]]) n v l=hL∧tL 11=.int .i64 ((m:Int)-1)∧tL 8=.int .i64 0∧m≤i∧lastI bel (l.take i)=lastI bel (l.take m)) ((fun(m:Nat)=>(m:Nat)) (i)) ?_ ?_
   ·refine Wkn.refl ⟨i,rfl,ay,?_,?_,Nat.le_refl i,rfl⟩
    all_goals first|exact zq F|rfl|omega|trivial|skip
   rintro _ s2 h' ⟨m,rfl,rfl,e11,e8,hm,hz⟩ K2 hK2
   simp only[ak,ao,Nat.reduceEqDiff, ↓reduceIte]at e11 e8
   have F:=F3 F e11 e8
   refine wk F ?_
   refine cq F (fun c1=>?_) (fun c1=>?_)<;>(try exact c1.elim)<;>(refine wk F ?_)
   ·have c2:m-1<l.length:=by omega
    have em:(m:Int)-1=((m-1:Nat):Int):=by omega
    have em2:IntKind.i64.wrap (((m-1:Nat):Int)-1)=((m-1:Nat):Int)-1:=by rw[IntKind.wrap_i64];omega
    obtain⟨y1,hy1,hym1⟩:=ac c2
    have et:l.take m=l.take (m-1)++[y1]:=by
     have h:=List.take_add_one (l:=l) (i:=m-1)
     rw[show m-1+1=m from by omega,hy1]at h
     exact h
    rw[et]at hz
    have hE2:=hE [.row 66 4 0 [qA op num s ks]] y1.i
    cases hb0:bel y1.i with
    |true=>
     rw[hb0]at hE2
     rw[lg hb0]at hz
     have F:=F5 F em em2 hy1 c2
     try refine sq F ?_
     refine wk F ?_
     refine aA (hE2) ?_
     try refine sq F ?_
     refine wk F ?_
     refine lm (fun nL tL hL=>∃(k:Nat),0-k=nL∧vo (H++[.row 66 4 0 [qA op num s ks]]) n v l=hL∧tL 57=.int .i64 k∧tL 8=.int .i64 y1.i∧k≤0) ((fun(k:Nat)=>(0-k:Nat)) (0)) ?_ ?_
     ·refine Wkn.refl ⟨0,rfl,ay,?_,?_,Nat.le_refl 0⟩
      all_goals first|exact zq F|rfl|omega|trivial|skip
     rintro _ s3 h' ⟨k,rfl,rfl,e57,e8,hk⟩ K3 hK3
     simp only[ak,ao,Nat.reduceEqDiff, ↓reduceIte]at e57 e8
     have F:=F3 F e57 e8
     refine wk F ?_
     refine cq F (fun d1=>?_) (fun d1=>?_)<;>(try exact d1.elim)<;>(refine wk F ?_)
     ·exact absurd d1 (by omega)
     ·have hz2:headI bel (l.drop (i+1))=headI bel []:=by rw[List.drop_of_length_le (by omega)]
      refine ee hQ F ?_
      exact bz hn (ct _ _ _) ⟨by rw[show lastI bel (l.take i)=y1.i from hz,hz2];rfl,rfl⟩
    |false=>
     rw[hb0]at hE2
     rw[jI hb0]at hz
     have F:=F5 F em em2 hy1 c2
     try refine sq F ?_
     refine wk F ?_
     refine aA (hE2) ?_
     try refine sq F ?_
     refine wk F ?_
     refine hK2 _ _ _ (Wkn.refl ⟨m-1,rfl,ay,?_,?_,by omega,hz⟩) (by omega)
     all_goals first|exact zq F|rfl|omega|trivial|skip
   ·have hz0:lastI bel (l.take i)=0:=by
     rw[hz,show m=0 from by omega];rfl
    refine lm (fun nL tL hL=>∃(k:Nat),0-k=nL∧vo (H++[.row 66 4 0 [qA op num s ks]]) n v l=hL∧tL 57=.int .i64 k∧tL 8=.int .i64 0∧k≤0) ((fun(k:Nat)=>(0-k:Nat)) (0)) ?_ ?_
    ·refine Wkn.refl ⟨0,rfl,ay,?_,?_,Nat.le_refl 0⟩
     all_goals first|exact zq F|rfl|omega|trivial|skip
    rintro _ s3 h' ⟨k,rfl,rfl,e57,e8,hk⟩ K3 hK3
    simp only[ak,ao,Nat.reduceEqDiff, ↓reduceIte]at e57 e8
    have F:=F3 F e57 e8
    refine wk F ?_
    refine cq F (fun d1=>?_) (fun d1=>?_)<;>(try exact d1.elim)<;>(refine wk F ?_)
    ·exact absurd d1 (by omega)
    ·have hz2:headI bel (l.drop (i+1))=headI bel []:=by rw[List.drop_of_length_le (by omega)]
     refine ee hQ F ?_
     exact bz hn (ct _ _ _) ⟨by rw[show lastI bel (l.take i)=0 from hz0,hz2];rfl,rfl⟩
end
end Go.Av
namespace Go.Av
open Go Go.Proofs Go.RowKit
attribute [local irreducible] WP WPl WPix Sat
abbrev qN(op:Int):AVal:=.agg [.int .i64 op,.int .i64 0,.str [],.nil (.slice none 0 0)]
theorem jM(op:Int):Wk (qN op) (qA op 0 [] []):=Wk.agg rfl (fun y hy=>by
 simp only[List.mem_cons,List.not_mem_nil,or_false]at hy
 rcases hy with rfl|rfl|rfl|rfl<;>rfl) fun i x y hx hy=>by
 match i with
 |0=>simp at hx hy;subst hx;subst hy;exact Wk.refl _
 |1=>simp at hx hy;subst hx;subst hy;exact Wk.refl _
 |2=>simp at hx hy;subst hx;subst hy;exact Wk.refl _
 |3=>simp at hx hy;subst hx;subst hy;exact Wk.nils 4
 |i+4=>simp at hx
abbrev pgZ:AVal:=.agg [.nil (.slice none 0 0),.int .i64 0,.int .i64 0,.bool false,.bool false]
theorem ij(N:Nat)(e:Int):Clo N (.tup [pgZ,.int .i64 e]):=.tup _ fun x hx=>by
 simp only[List.mem_cons,List.not_mem_nil,or_false]at hx
 rcases hx with rfl|rfl
 ·exact .agg _ fun x hx=>by
   simp only[List.mem_cons,List.not_mem_nil,or_false]at hx
   rcases hx with rfl|rfl|rfl|rfl|rfl<;>first|exact .nil _|exact .int _ _|exact .bool _
 ·exact .int _ _
variable (G:Nat→Option (List AVal))
section
variable {Y:Heap} {n m v:Nat} {s:PS} {l:List Ky}
theorem sw(hI:s.Inv)(hk:VK l s)(c:Cu)(N:Nat)(hN:1≤N∧N≤100)(hn:n+9≤m)(hm:m+2≤Y.length):Sat (CT G) 31 [.hp m 0 0 0,.hp (n+8) 0 0 0,qN 1,c.av,.int .i64 N] (sv Y n s m v l)
  (fun r h'=>r=.tup [pgA c ((l.drop (fromK l c)).filter fun k=>(lkM s.it k.i).isSome) N,.int .i64 0]∧h'=sv Y n s m v l):=by
 have hl:=hk.len hI
 have e:∀j,vo (so Y n s++j) m v l=sv (Y++j) n s m v l:=fun j=>by rw[bg (by omega), ← cC hn (by simp;omega)]
 have h0:=uF G (H:=so Y n s) (n:=m) (v:=v) hk.1 (by omega) (fun id=>(lkM s.it id).isSome) c (n+8) (by rw[aW (by omega)];omega) 1 0 [] [] N hN (by rw[aW (by omega)];exact hm)
  (fun j=>by rw[e];exact sj hn (by simp;omega)) (fun j=>by rw[e];exact cR G _) (fun j id=>by rw[e];exact sn G hI id hn (by simp;omega))
 rw[← cC hn hm]at h0
 refine Sat.wk (ys:=[.hp m 0 0 0,.hp (n+8) 0 0 0,qA 1 0 [] [],c.av,.int .i64 N]) rfl (fun i x y hx hy=>?_) h0
 match i with
 |2=>simp at hx hy;subst hx;subst hy;exact jM 1
 |0=>simp at hx hy;subst hx;subst hy;exact Wk.refl _
 |1=>simp at hx hy;subst hx;subst hy;exact Wk.refl _
 |3=>simp at hx hy;subst hx;subst hy;exact Wk.refl _
 |4=>simp at hx hy;subst hx;subst hy;exact Wk.refl _
 |i+5=>simp at hx
theorem uG(hI:s.Inv)(hk:VK l s)(item:Int)(hn:n+9≤m)(hm:m+2≤Y.length):Sat (CT G) 32 [.hp m 0 0 0,.hp (n+8) 0 0 0,qN 1,.int .i64 item] (sv Y n s m v l)
  (fun r h'=>r=.tup [.int .i64 (arF (fun id=>(lkM s.it id).isSome) l item).1,.int .i64 (arF (fun id=>(lkM s.it id).isSome) l item).2]∧h'=sv Y n s m v l):=by
 have hl:=hk.len hI
 have e:∀j,vo (so Y n s++j) m v l=sv (Y++j) n s m v l:=fun j=>by rw[bg (by omega), ← cC hn (by simp;omega)]
 have h0:=jL G (H:=so Y n s) (n:=m) (v:=v) (l:=l) (by omega) (fun id=>(lkM s.it id).isSome) (.hp (n+8) 0 0 0) item 1 0 [] [] (by rw[aW (by omega)];exact hm)
  (fun j=>by rw[e];exact cR G _) (fun j id=>by rw[e];exact sn G hI id hn (by simp;omega))
 rw[← cC hn hm]at h0
 refine Sat.wk (ys:=[.hp m 0 0 0,.hp (n+8) 0 0 0,qA 1 0 [] [],.int .i64 item]) rfl (fun i x y hx hy=>?_) h0
 match i with
 |2=>simp at hx hy;subst hx;subst hy;exact jM 1
 |0=>simp at hx hy;subst hx;subst hy;exact Wk.refl _
 |1=>simp at hx hy;subst hx;subst hy;exact Wk.refl _
 |3=>simp at hx hy;subst hx;subst hy;exact Wk.refl _
 |i+4=>simp at hx
theorem vY(c:Cu)(hn:n+9≤m)(hm:m+2≤Y.length):Sat (CT G) 31 [.hp m 0 0 0,.hp (n+8) 0 0 0,qN 1,c.av,.int .i64 0] (sv Y n s m v l)
  (fun r h'=>r=.tup [pgZ,.int .i64 1]∧h'=sv Y n s m v l):=by
 refine Sat.wk (ys:=[.hp m 0 0 0,.hp (n+8) 0 0 0,qA 1 0 [] [],c.av,.int .i64 0]) rfl (fun i x y hx hy=>?_) ?_
 ·match i with
  |2=>simp at hx hy;subst hx;subst hy;exact jM 1
  |0=>simp at hx hy;subst hx;subst hy;exact Wk.refl _
  |1=>simp at hx hy;subst hx;subst hy;exact Wk.refl _
  |3=>simp at hx hy;subst hx;subst hy;exact Wk.refl _
  |4=>simp at hx hy;subst hx;subst hy;exact Wk.refl _
  |i+5=>simp at hx
 have df:∀i:Decidable False, @decide False i=false:=fun i=>by simp
 have dt:∀i:Decidable True, @decide True i=true:=fun i=>by simp
 have F:=F3 df dt @ax
 refine sb [.cell 10 68,.tmp 11] (fn:=Tryz.f31) Tryz.func31 ?_
 intro Q hQ
 refine wk F ?_
 refine kq F (cR G _) ?_
 refine ye hQ F ?_
 rw[← gZ hn hm]
 exact Fin.plain (ij _ _) ⟨rfl,rfl⟩
theorem vZ(c:Cu)(hn:n+9≤m)(hm:m+2≤Y.length):Sat (CT G) 31 [.hp m 0 0 0,.hp (n+8) 0 0 0,qN 0,c.av,.int .i64 0] (sv Y n s m v l)
  (fun r h'=>r=.tup [pgZ,.int .i64 250]∧h'=sv Y n s m v l):=by
 refine Sat.wk (ys:=[.hp m 0 0 0,.hp (n+8) 0 0 0,qA 0 0 [] [],c.av,.int .i64 0]) rfl (fun i x y hx hy=>?_) ?_
 ·match i with
  |2=>simp at hx hy;subst hx;subst hy;exact jM 0
  |0=>simp at hx hy;subst hx;subst hy;exact Wk.refl _
  |1=>simp at hx hy;subst hx;subst hy;exact Wk.refl _
  |3=>simp at hx hy;subst hx;subst hy;exact Wk.refl _
  |4=>simp at hx hy;subst hx;subst hy;exact Wk.refl _
  |i+5=>simp at hx
 have df:∀i:Decidable False, @decide False i=false:=fun i=>by simp
 have dt:∀i:Decidable True, @decide True i=true:=fun i=>by simp
 have F:=F3 df dt @ax
 refine sb [.cell 10 68,.tmp 11] (fn:=Tryz.f31) Tryz.func31 ?_
 intro Q hQ
 refine wk F ?_
 refine kq F (nY G _) ?_
 refine ye hQ F ?_
 rw[← gZ hn hm]
 exact Fin.plain (ij _ _) ⟨rfl,rfl⟩
end
def lv3:List Ev:=[⟨3,1,0,0,[117],[],[]⟩,⟨7,1,1,5,[97],[],[]⟩,⟨7,2,1,9,[98],[],[]⟩]
def lv3E:Ev:=⟨7,3,1,7,[99],[],[]⟩
def lv3S:PS:=lv3.foldl PS.step1 PS.z
def lv3T:PS:=lv3S.aft lv3E
theorem wa:L0.ck lv3E=true:=lF (by kernel_rfl) rfl
theorem mZ:lv3.foldl (PS.step L0) PS.z=lv3S:=by
 show(((PS.z.step L0 _).step L0 _).step L0 _)=_
 rw[kz (lF (by kernel_rfl) rfl),kz (lF (by kernel_rfl) rfl),kz (lF (by kernel_rfl) rfl)]
 rfl
theorem kA:lv3S.ok L0 lv3E=true:=by unfold PS.ok;rw[wa];kernel_rfl
theorem eQ:lv3S.Inv:=by rw[← mZ];exact PS.Inv.z.fold lv3
theorem lh:lv3S.step L0 lv3E=lv3T:=by unfold PS.step;rw[kA];rfl
theorem j1:lv3T.Inv:=by rw[← lh];exact eQ.step lv3E
def lv3L:List Ky:=[⟨9,2,1⟩,⟨7,3,1⟩,⟨5,1,1⟩]
def lv3a:It:=⟨1,1,5,[97],[],[],false,false,[]⟩
def lv3b:It:=⟨2,1,9,[98],[],[],false,false,[]⟩
def lv3c:It:=⟨3,1,7,[99],[],[],false,false,[]⟩
theorem sx:lkM lv3T.it 1=some lv3a:=by kernel_rfl
theorem sy:lkM lv3T.it 2=some lv3b:=by kernel_rfl
theorem sA:lkM lv3T.it 3=some lv3c:=by kernel_rfl
theorem xw:lv3T.it.map (·.1)=[1,2,3]:=by kernel_rfl
theorem xx:VK lv3L lv3T:=by
 refine⟨?_,fun k=>⟨fun hk=>?_,?_⟩⟩
 ·unfold Sk lv3L;simp[ahd]
 ·simp only[lv3L,List.mem_cons,List.not_mem_nil,or_false]at hk
  rcases hk with rfl|rfl|rfl
  ·exact⟨2,_,sy,rfl⟩
  ·exact⟨3,_,sA,rfl⟩
  ·exact⟨1,_,sx,rfl⟩
 ·rintro⟨id,t,ht,rfl⟩
  have hm:id∈lv3T.it.map (·.1):=u6.2 (by rw[ht];rfl)
  rw[xw]at hm
  simp only[List.mem_cons,List.not_mem_nil,or_false]at hm
  rcases hm with rfl|rfl|rfl
  ·rw[sx]at ht;cases ht;simp[lv3L,lv3a,It.ky]
  ·rw[sy]at ht;cases ht;simp[lv3L,lv3b,It.ky]
  ·rw[sA]at ht;cases ht;simp[lv3L,lv3c,It.ky]
theorem xy:pgA ⟨0,0,false⟩ ((lv3L.drop (fromK lv3L ⟨0,0,false⟩)).filter fun k=>(lkM lv3T.it k.i).isSome) 2=.agg [.sl 1 [.int .i64 2,.int .i64 3],.int .i64 7,.int .i64 3,.bool true,.bool true]:=by kernel_rfl
theorem xz:pgA ⟨7,3,true⟩ ((lv3L.drop (fromK lv3L ⟨7,3,true⟩)).filter fun k=>(lkM lv3T.it k.i).isSome) 2=.agg [.sl 1 [.int .i64 1],.int .i64 5,.int .i64 1,.bool true,.bool false]:=by kernel_rfl
theorem xA:arF (fun id=>(lkM lv3T.it id).isSome) lv3L 3=(2,1):=by kernel_rfl
theorem xB:rkI (lv3L.map (·.i)) 1=3:=by kernel_rfl
theorem xC:rkI (lv3L.map (·.i)) 4=0:=by kernel_rfl
@[go_sem] theorem Gw(h:Heap)(d1 i1 d2 i2:Int)(s1 s2:Bool):abin Tryz.prog h .eql 55 (.agg [.int .i64 d1,.int .i64 i1,.bool s1]) (.agg [.int .i64 d2,.int .i64 i2,.bool s2])=some (.bool (d1==d2&&(i1==i2&&s1==s2))):=by
 simp only[abin,go_sem,aeqL,aeq1, ↓reduceIte,Option.map_some,Option.some.injEq,AVal.bool.injEq]
theorem jN(a b:List Int)(d1 i1 d2 i2:Int)(s1 m1 s2 m2:Bool)(ha:a.length≤1000000)(hb:b.length≤1000000)(h:Heap):Sat (CT G) 35 [.agg [.sl 1 (a.map iA),.int .i64 d1,.int .i64 i1,.bool s1,.bool m1],.agg [.sl 1 (b.map iA),.int .i64 d2,.int .i64 i2,.bool s2,.bool m2]] h
  (fun r h'=>r=.bool (decide (a=b)&&((d1==d2&&(i1==i2&&s1==s2))&&m1==m2))∧h'=h):=by
 have hS:=gY G a b ha hb
 cases hab:decide (a=b)with
 |false=>
  rw[hab]at hS
  refine sb [.tmp 4] (fn:=Tryz.f35) Tryz.func35 ?_
  intro Q hQ
  refine wk trivial ?_
  refine kq trivial (hS _) ?_
  refine ee hQ trivial ?_
  exact Fin.plain (.bool _) ⟨rfl,rfl⟩
 |true=>
  rw[hab]at hS
  refine sb [.tmp 4] (fn:=Tryz.f35) Tryz.func35 ?_
  intro Q hQ
  refine wk trivial ?_
  refine kq trivial (hS _) ?_
  cases hcu:(d1==d2&&(i1==i2&&s1==s2))with
  |false=>
   have F:=hcu
   try refine sq F ?_
   refine wk F ?_
   refine ee hQ F ?_
   exact Fin.plain (.bool _) ⟨by simp,rfl⟩
  |true=>
   have F:=hcu
   try refine sq F ?_
   refine wk F ?_
   refine ee hQ F ?_
   exact Fin.plain (.bool _) ⟨by simp,rfl⟩
theorem iF(h:Heap):Sat (CT G) 23 [] h (fun r h'=>r=.bool true∧h'=h):=by
 have hF:=fun h=>l5 G lv3 (by decide) h
 rw[mZ]at hF
 have hz9:(PS.z.bl h.length).length=9:=rfl
 have hfh:=hF h
 generalize hH:h++PS.z.bl h.length=H0 at hfh
 have hl0:H0.length=h.length+9:=by rw[← hH];simp[hz9]
 have hnw:=uO G eQ (H:=H0) (n:=h.length) (by omega)
 have kc0:=VK.new eQ
 generalize srtK (lv3S.tell.it.map It.ky)=c0 at hnw kc0
 generalize lv3S.tell.it.length=v0 at hnw
 generalize hWw:H0++vb H0.length 0 []=W0 at hnw
 have hlW:W0.length=H0.length+2:=by rw[← hWw];simp[vb]
 have hpre:∃j,W0=h++j:=⟨PS.z.bl h.length++vb H0.length 0 [],by rw[← hWw, ← hH,List.append_assoc]⟩
 generalize H0.length=m at*
 have hn:h.length+9≤m:=by omega
 have hap:=fun(W:Heap) (hm:m+2≤W.length)=>vU G (Y:=W) (n:=h.length) (m:=m) (v:=v0) (l:=c0) eQ lv3E hn hm
 rw[lh,kA]at hap
 have hst:=fun(W:Heap) (hm:m+2≤W.length)=>xt G (Y:=W) (n:=h.length) (m:=m) (v:=v0) kc0 eQ lv3E kA hn hm
 refine sb [.tmp 0] (fn:=Tryz.f23) Tryz.func23 ?_
 intro Q hQ
 refine wk trivial ?_
 refine kq trivial (hfh) ?_
 refine kq trivial (hnw) ?_
 refine kq trivial (hap _ (by first|omega| (simp;omega))) ?_
 refine(hst _ (by first|omega| (simp;omega))).mono ?_
 rintro r h' ⟨rfl,u,L,kd,rfl⟩
 change VK L lv3T at kd
 obtain rfl:=kd.uniq xx
 have hp1:=fun(W:Heap) (hm:m+2≤W.length)=>sw G (Y:=W) (n:=h.length) (m:=m) (v:=u) j1 kd ⟨0,0,false⟩ 2 (by omega) hn hm
 have hp2:=fun(W:Heap) (hm:m+2≤W.length)=>sw G (Y:=W) (n:=h.length) (m:=m) (v:=u) j1 kd ⟨7,3,true⟩ 2 (by omega) hn hm
 have har:=fun(W:Heap) (hm:m+2≤W.length)=>uG G (Y:=W) (n:=h.length) (m:=m) (v:=u) j1 kd 3 hn hm
 have hal:=fun(W:Heap) (hm:m+2≤W.length)=>uP G (Y:=W) (n:=h.length) (m:=m) (v:=u) (s:=lv3T) (l:=lv3L) (by decide) hn hm
 have hr1:=fun(W:Heap) (hm:m+2≤W.length)=>mX G (Y:=W) (n:=h.length) (m:=m) (v:=u) (s:=lv3T) (l:=lv3L) (by decide) 1 hn hm
 have hr4:=fun(W:Heap) (hm:m+2≤W.length)=>mX G (Y:=W) (n:=h.length) (m:=m) (v:=u) (s:=lv3T) (l:=lv3L) (by decide) 4 hn hm
 rw[xy]at hp1
 rw[xz]at hp2
 rw[xA]at har
 rw[xB]at hr1
 rw[xC]at hr4
 have hs0:=gY G [2,3,1] [2,3,1] (by decide) (by decide)
 have hs1:=jN G [2,3] [2,3] 7 3 7 3 true true true true (by decide) (by decide)
 have hs2:=jN G [1] [1] 5 1 5 1 true false true false (by decide) (by decide)
 rw[decide_eq_true (rfl:([2,3,1]:List Int)=[2,3,1])]at hs0
 rw[show(decide (([2,3]:List Int)=[2,3])&&(((7:Int)==7&&((3:Int)==3&&true==true))&&true==true))=true from by decide]at hs1
 rw[show(decide (([1]:List Int)=[1])&&(((5:Int)==5&&((1:Int)==1&&true==true))&&false==false))=true from by decide]at hs2
 have hmm:∀q:Heap,m+2≤(W0++q).length:=fun q=>by simp;omega
 try refine sq trivial ?_
 refine wk trivial ?_
 refine kq trivial (hp1 _ (hmm _)) ?_
 refine kq trivial (hp2 _ (hmm _)) ?_
 refine kq trivial (vY G (Y:=W0++_) (n:=h.length) (m:=m) (v:=u) (s:=lv3T) (l:=lv3L) ⟨0,0,false⟩ hn (hmm _)) ?_
 refine kq trivial (vZ G (Y:=W0++_) (n:=h.length) (m:=m) (v:=u) (s:=lv3T) (l:=lv3L) ⟨0,0,false⟩ hn (hmm _)) ?_
 refine kq trivial (har _ (hmm _)) ?_
 refine kq trivial (hal _ (hmm _)) ?_
 refine kq trivial (hs0 _) ?_
 refine kq trivial (hr1 _ (hmm _)) ?_
 refine kq trivial (hr4 _ (hmm _)) ?_
 refine kq trivial (hs1 _) ?_
 refine kq trivial (hs2 _) ?_
 refine ee hQ trivial ?_
 obtain⟨j0,hj0⟩:=hpre
 exact sk hn (hmm _) ⟨j0++_,by rw[hj0,List.append_assoc]⟩ (Nat.le_refl _) ⟨rfl,rfl⟩
end Go.Av
namespace Go.Av
open Go Go.Proofs Go.RowKit
attribute [local irreducible] WP WPl WPix Sat
variable (G:Nat→Option (List AVal))
theorem VK.vw{l:List Ky}{s:PS}(h:s.Inv)(k:VK l s):s.tell.vw=l.map (·.i):=by rw[k.uniq (VK.new h)];rfl
end Go.Av
