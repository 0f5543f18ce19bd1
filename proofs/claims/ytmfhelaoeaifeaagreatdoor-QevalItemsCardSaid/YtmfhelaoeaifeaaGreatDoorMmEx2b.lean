/- Parts. -/
import Derived.Test.YtmfhelaoeaifeaaGreatDoorMmXh
import Derived.Test.YtmfhelaoeaifeaaGreatDoorMmDr
import Derived.Lib.Builder
import Derived.Shelf.Strings.Builder1
import Derived.Shelf.Small.Bits
import Derived.Shelf.Small.Strs
import Derived.Shelf.Small.Wraps
import Derived.Shelf.Strings.BuilderF
import Derived.Shelf.Strings.BuilderK
import Derived.Shelf.Utf8.AppendRunePlain
import Derived.Shelf.Strconv.Itoa0
import Derived.Shelf.Strings.Search1
import Derived.Shelf.Strings.Search2
import Derived.Shelf.Strings.Cut
import Derived.Shelf.LaysM
import Derived.Shelf.Strings.Shaped
import Derived.Shelf.Strings.Prefix
import Derived.Shelf.Strings.FieldsFuncAny
import Derived.Ground.Names2Prog
import Derived.Shelf.Slices.Clone
import Derived.Shelf.Slices.SearchI
import Derived.Shelf.Slices.Delete
import Derived.Shelf.Slices.Empties
import Derived.Ground.SlgmProg
import Derived.Shelf.SortM.Plain
import Derived.Shelf.SortM.SortNone
import Derived.Test.YtmfhelaoeaifeaaGreatDoorProg
set_option linter.unusedSimpArgs false
set_option linter.unusedVariables false
set_option linter.unusedSectionVars false
set_option linter.unnecessarySimpa false
set_option maxRecDepth 100000
set_option maxHeartbeats 16000000
namespace Go.Av
open Go Go.Proofs Go.RowKit
attribute [local irreducible] WP WPl WPix Sat
variable (G:Nat→Option (List AVal))
def PS.within(s:PS)(id:Int):Bool:=decide (id=0)||(lkM s.fo id).isSome
theorem eT(s:PS)(id:Int){H:Heap}{n:Nat}(hn:n+9≤H.length):Sat (CT G) 98 [.hp (n+8) 0 0 0,.int .i64 id] (so H n s) (fun r h'=>r=.bool (s.within id)∧h'=so H n s):=by
 refine sb [.tmp 4] Tryz.func98 ?_;intro Q hQ;refine wk trivial ?_;(first|refine gq trivial (fun g=>?_) (fun g=>?_)|refine pq trivial (fun g=>?_) (fun g=>?_))<;>(try exact g.elim)<;>(try refine sq trivial ?_)<;>(refine wk trivial ?_)
 ·refine ee hQ trivial ?_;exact au hn (.bool _) ⟨by simp[PS.within,g],rfl⟩
 ·refine ee hQ trivial ?_;exact au hn (.bool _) ⟨by simp[PS.within,g],rfl⟩
def PS.hold(s:PS)(id k:Int):PS:=if id=0 then s else {s with he:=upM s.he s.c8 id ((lkM s.he id).getD 0+k),c8:=ckM s.he s.c8 id}
theorem cA(s:PS)(id k:Int)(hk: -1000000≤(lkM s.he id).getD 0∧(lkM s.he id).getD 0≤1000000)(hk': -1≤k∧k≤1){H:Heap}{n:Nat}(hn:n+9≤H.length):Sat (CT G) 55 [.hp (n+8) 0 0 0,.int .i64 id,.int .i64 k] (so H n s) (fun r h'=>r=.tup []∧h'=so H n (s.hold id k)):=by
 refine sb [] Tryz.func55 ?_;intro Q hQ;refine wk trivial ?_;refine cq trivial (fun c=>?_) (fun c=>?_)<;>(try exact c.elim)<;>(refine wk trivial ?_)
 ·refine ee hQ trivial ?_;exact cT hn (.tup _ (by simp)) ⟨rfl,by rw[PS.hold,L5 (by omega)]⟩
 ·refine ee hQ trivial ?_;exact cT hn (.tup _ (by simp)) ⟨rfl,by rw[PS.hold,M0 (by omega)]⟩
def PS.raise(s:PS)(k:Nat)(id:Int):PS:=match k with
 |0=> {s with t1:=if id>s.t1 then id else s.t1}
 |1=> {s with t2:=if id>s.t2 then id else s.t2}
 |2=> {s with t3:=if id>s.t3 then id else s.t3}
 |_=> {s with t4:=if id>s.t4 then id else s.t4}
theorem dG(s:PS)(k:Nat)(id:Int)(hk:k<4){H:Heap}{n:Nat}(hn:n+9≤H.length):Sat (CT G) 103 [.hp (n+8) 0 0 0,.int .i64 (k:Int),.int .i64 id] (so H n s) (fun r h'=>r=.tup []∧h'=so H n (s.raise k id)):=by
 match k,hk with
 |0,_=>
  refine sb [] Tryz.func103 ?_;intro Q hQ;refine wk trivial ?_;refine ee hQ trivial ?_;exact cT hn (.tup _ (by simp)) ⟨rfl,by simp only[PS.raise,M1]⟩
 |1,_=>
  refine sb [] Tryz.func103 ?_;intro Q hQ;refine wk trivial ?_;refine ee hQ trivial ?_;exact cT hn (.tup _ (by simp)) ⟨rfl,by simp only[PS.raise,M1]⟩
 |2,_=>
  refine sb [] Tryz.func103 ?_;intro Q hQ;refine wk trivial ?_;refine ee hQ trivial ?_;exact cT hn (.tup _ (by simp)) ⟨rfl,by simp only[PS.raise,M1]⟩
 |3,_=>
  refine sb [] Tryz.func103 ?_;intro Q hQ;refine wk trivial ?_;refine ee hQ trivial ?_;exact cT hn (.tup _ (by simp)) ⟨rfl,by simp only[PS.raise,M1]⟩
def deepO(l:ML Int Fo):Nat→Int→Option Nat
 |0,id=>if (lkM l id).isSome then none else some 0
 |k+1,id=>match lkM l id with
  |none=>some 0
  |some f=>(deepO l k f.inn).map (· +1)
theorem qu(s:PS)(id:Int)(k d:Nat)(hd:deepO s.fo k id=some d)(hk:d≤1000){H:Heap}{n:Nat}(hn:n+9≤H.length):Sat (CT G) 99 [.hp (n+8) 0 0 0,.int .i64 id] (so H n s) (fun r h'=>r=.int .i64 d∧h'=so H n s):=by
 have step:∀(k m:Nat) (id:Int),deepO s.fo k id=some (d-m)→m≤d→((lkM s.fo id).isSome=true∧m+1≤d∧∃k,deepO s.fo k ((lkM s.fo id).getD Fo.z).inn=some (d-(m+1)))∨((lkM s.fo id).isSome=false∧m=d):=by
  intro k m id h hm;cases k with
  |zero=>
   rw[deepO]at h;cases hl:lkM s.fo id with
   |none=>rw[hl]at h;simp at h;exact .inr ⟨rfl,by omega⟩
   |some f=>rw[hl]at h;simp at h
  |succ k=>
   rw[deepO]at h;cases hl:lkM s.fo id with
   |none=>rw[hl]at h;simp at h;exact .inr ⟨rfl,by omega⟩
   |some f=>
    rw[hl]at h;simp only[N2]at h;obtain⟨j,hj,hd⟩:=h;exact .inl ⟨rfl,by omega,k,by rw[Q3,hj];congr 1;omega⟩
 refine sb [.tmp 4] Tryz.func99 ?_;intro Q hQ;refine wk trivial ?_;refine lm (fun nL tL hL=>∃(m:Nat) (f:Fo) (b:Bool),d-m=nL∧so (H++[.row 90 3 0 [.agg [.int .i64 f.id,.int .i64 f.inn,.str f.name]]]) n s=hL∧tL 0=.hp (n+8) 0 0 0∧tL 5=.int .i64 m∧tL 6=.hp H.length 0 0 0∧tL 7=.bool b∧((b=true∧m+1≤d∧∃k,deepO s.fo k f.inn=some (d-(m+1)))∨(b=false∧m=d))) ((fun(m:Nat) (f:Fo) (b:Bool)=>(d-m:Nat)) (0) ((lkM s.fo id).getD Fo.z) ((lkM s.fo id).isSome)) ?_ ?_
 ·refine M2 ⟨0,(lkM s.fo id).getD Fo.z,(lkM s.fo id).isSome,rfl,aB,?_,?_,?_,?_,step k 0 id hd (by omega)⟩;all_goals try exact zZz trivial
 rintro _ s2 h' ⟨m,f,b,rfl,rfl,e0,e5,e6,e7,hi⟩ K2 hK2;simp only[af,ao,Nat.reduceEqDiff, ↓reduceIte]at e0 e5 e6 e7;have F:=F4 e0 e5 e6 e7;refine wk F ?_;refine cq F (fun c=>?_) (fun c=>?_)<;>(try exact c.elim)<;>(refine wk F ?_)
 ·rcases hi with⟨_,h1,k1,h2⟩| ⟨h1,_⟩
  ·refine ja 8 (.two 8 (.two 9 (.one 10 (.one 11 .nil)) 10 (.one 9 (.one 11 .nil))) 9 (.one 8 (.one 10 (.one 11 .nil)))) (by decide+kernel) (by kernel_rfl) (by decide+kernel) ?_;simp only[P8,R3];(try refine sq F ?_);repeat' (first|refine dh ?_| (refine di rfl ?_;refine sq F ?_)| (refine dj rfl rfl ?_ ?_<;>refine sq F ?_))
   all_goals (
    refine hK2 _ _ _ (M2 ⟨m+1,(lkM s.fo f.inn).getD Fo.z,(lkM s.fo f.inn).isSome,rfl,aB,?_,?_,?_,?_,step k1 (m+1) f.inn h2 h1⟩) (by omega);all_goals try exact zZz F)
  ·rw[c]at h1;cases h1
 ·rcases hi with⟨h1,_⟩| ⟨_,h1⟩
  ·rw[c]at h1;cases h1
  ·subst h1;refine ee hQ F ?_;exact au hn (.int _ _) ⟨rfl,rfl⟩
def sortI(l:List Int):List Int:=l.mergeSort (fun x y=>decide (x≤y))
def valsM{α:Type}(z:α)(l:ML Int α):List α:=(sortI (l.map (·.1))).map fun k=>(lkM l k).getD z
theorem cU(l:List Int):(sortI l).length=l.length:=(Y4 _ _).length_eq
theorem Fo.cells_sto(e:Fo):∀c∈e.av.cells,c.sto=true:=by
 intro c hc;simp only[Fo.av,AVal.cells,M6,V6,or_false]at hc;rcases hc with rfl|rfl|rfl<;>rfl
theorem Fe.cells_sto(e:Fe):∀c∈e.av.cells,c.sto=true:=by
 intro c hc;simp only[Fe.av,AVal.cells,M6,V6,or_false]at hc;rcases hc with rfl|rfl|rfl|rfl<;>rfl
theorem Se.cells_sto(e:Se):∀c∈e.av.cells,c.sto=true:=by
 intro c hc;simp only[Se.av,AVal.cells,M6,V6,or_false]at hc;rcases hc with rfl|rfl|rfl<;>rfl
theorem It.cells_sto(e:It):∀c∈e.av.cells,c.sto=true:=by
 intro c hc;simp only[It.av,AVal.cells,M6,V6,or_false]at hc;rcases hc with rfl|rfl|rfl|rfl|rfl|rfl|rfl|rfl|rfl<;>rfl
theorem Fo.clo(N:Nat)(f:Fo):Clo N f.av:=bT fun c hc=>by simp[Fo.av]at hc;rcases hc with rfl|rfl|rfl<;>simp
theorem Fe.clo(N:Nat)(f:Fe):Clo N f.av:=bT fun c hc=>by simp[Fe.av]at hc;rcases hc with rfl|rfl|rfl|rfl<;>simp
theorem Se.clo(N:Nat)(f:Se):Clo N f.av:=bT fun c hc=>by simp[Se.av]at hc;rcases hc with rfl|rfl|rfl<;>simp
theorem qw(p:Nat)(h:Heap):Sat (CT G) 84 [.hm p] h (fun r h'=>r=.fn (.func 136) [] [.hp h.length 0 0 0]∧h'=h++[.row 77 1 0 [.hm p]]):=by
 refine sb [.tmp 2] Tryz.func84 ?_;intro Q hQ;refine wk trivial ?_;refine ee hQ trivial ?_;exact Z2 (by simp) (.fn _ _ _ (fun _ h=>by cases h) (fun x hx=>by simp at hx;subst hx;exact .hp _ _ _ _ (by simp))) ⟨rfl,rfl⟩
theorem kN(s:PS)(hw:WFM s.fo s.c1)(hb:∀e∈s.fo, -9223372036854775808≤e.1∧e.1≤9223372036854775807)(hl:s.fo.length≤100000){H:Heap}{n:Nat}(hn:n+9≤H.length):Sat (CT G) 43 [.hm (n)] (so H n s) (fun r h'=>r=.sl 3 ((valsM Fo.z s.fo).map Fo.av)∧h'=so H n s):=by
 have hsl:=cU (s.fo.map (·.1));rw[L8]at hsl;refine sb [.tmp 2] Tryz.func43 ?_;intro Q hQ;refine wk trivial ?_;refine kq trivial (qw G _ _) ?_;refine kq trivial (dF G Fo.av _ Tryz.sortedKeys84 s.fo s.c1 hw hb hl (by rw[bN (by simp;omega) 0 (by omega),aJ _ rfl];rfl) (C2 (by simp;omega))) ?_;unfold valsM at hQ;have hks:(List.map (fun x=>x.1) s.fo).mergeSort (fun x y=>decide (x≤y))=sortI (s.fo.map (·.1)):=rfl;rw[hks];generalize sortI (s.fo.map (·.1))=ks at*;have hkm:(ks.map iA).length=ks.length:=L8 ..;have F:=hkm;refine lm (fun nL tL hL=>∃(k v:Nat) (acc:List Fo),ks.length-k=nL∧so (H++[.row 77 1 0 [.hm (n)],.row 90 3 v (acc.map Fo.av)]) n s=hL∧tL 0=.hm (n)∧tL 3=.hs (H.length+1) v 0 acc.length true∧tL 8=.sl 1 (ks.map iA)∧tL 9=.int .i64 (ks.length:Int)∧tL 10=.int .i64 k∧k≤ks.length∧acc.length=k∧acc++(ks.drop k).map (fun k=>(lkM s.fo k).getD Fo.z)=ks.map (fun k=>(lkM s.fo k).getD Fo.z)) ((fun(k v:Nat) (acc:List Fo)=>(ks.length-k:Nat)) (0) (0) ([])) ?_ ?_
 ·refine⟨_,_,Y3 3 90 3 (by simp) (by omega) (by exact zq F),⟨0,0,[],rfl,by rw[bj (by simp;omega)];simp,?_,?_,?_,?_,?_,by omega,rfl,by simp⟩⟩;all_goals try exact zZz F
 rintro _ s2 h' ⟨k,v,acc,rfl,rfl,e0,e3,e8,e9,e10,hk,hac,hp⟩ K2 hK2;simp only[af,ao,Nat.reduceEqDiff, ↓reduceIte]at e0 e3 e8 e9 e10;have F:=F6 F e0 e3 e8 e9 e10;refine wk F ?_;refine cq F (fun c1=>?_) (fun c1=>?_)<;>(try exact c1.elim)<;>(refine wk F ?_)
 ·have c2:k<ks.length:=by omega
  obtain⟨y,hy,hym⟩:=ac c2;rw[aF hy,N9]at hp;have F:=F3 F hy @aw;try refine sq F ?_
  refine wk F ?_;refine aq F ?_;try refine sq F ?_
  refine wk F ?_;refine hK2 _ _ _ (M2 ⟨k+1,v+1,acc++[(lkM s.fo y).getD Fo.z],rfl,by simp[Fo.av],?_,?_,?_,?_,?_,by omega,by simp;omega,by rw[← hp];simp⟩) (by omega);all_goals try exact zZz F
 ·rw[aI c1,S6,O8]at hp;refine ee hQ F ?_;rw[← hp];have hbl:n+(s.bl n).length≤H.length:=hn;have hg:getRow (so (H++[.row 77 1 0 [.hm (n)],.row 90 3 v (acc.map Fo.av)]) n s) (H.length+1) v=some (90,3,acc.map Fo.av):=by
   rw[bN (by simp;omega) v (by omega),bd _ rfl];simp[getRow]
  exact eB hbl rfl (PS.clo hn s) (za3 (by omega) hg (by simp) (fun r hr=>by obtain⟨a,_,rfl⟩:=M9.1 hr;exact Fo.clo _ a) (fun r hr=>by obtain⟨a,_,rfl⟩:=M9.1 hr;exact a.cells_sto)) ⟨rfl,rfl⟩
theorem qx(p:Nat)(h:Heap):Sat (CT G) 85 [.hm p] h (fun r h'=>r=.fn (.func 137) [] [.hp h.length 0 0 0]∧h'=h++[.row 78 1 0 [.hm p]]):=by
 refine sb [.tmp 2] Tryz.func85 ?_;intro Q hQ;refine wk trivial ?_;refine ee hQ trivial ?_;exact Z2 (by simp) (.fn _ _ _ (fun _ h=>by cases h) (fun x hx=>by simp at hx;subst hx;exact .hp _ _ _ _ (by simp))) ⟨rfl,rfl⟩
theorem kO(s:PS)(hw:WFM s.fe s.c2)(hb:∀e∈s.fe, -9223372036854775808≤e.1∧e.1≤9223372036854775807)(hl:s.fe.length≤100000){H:Heap}{n:Nat}(hn:n+9≤H.length):Sat (CT G) 44 [.hm (n+1)] (so H n s) (fun r h'=>r=.sl 4 ((valsM Fe.z s.fe).map Fe.av)∧h'=so H n s):=by
 have hsl:=cU (s.fe.map (·.1));rw[L8]at hsl;refine sb [.tmp 2] Tryz.func44 ?_;intro Q hQ;refine wk trivial ?_;refine kq trivial (qx G _ _) ?_;refine kq trivial (dF G Fe.av _ Tryz.sortedKeys85 s.fe s.c2 hw hb hl (by rw[bN (by simp;omega) 0 (by omega),aJ _ rfl];rfl) (C3 (by simp;omega))) ?_;unfold valsM at hQ;have hks:(List.map (fun x=>x.1) s.fe).mergeSort (fun x y=>decide (x≤y))=sortI (s.fe.map (·.1)):=rfl;rw[hks];generalize sortI (s.fe.map (·.1))=ks at*;have hkm:(ks.map iA).length=ks.length:=L8 ..;have F:=hkm;refine lm (fun nL tL hL=>∃(k v:Nat) (acc:List Fe),ks.length-k=nL∧so (H++[.row 78 1 0 [.hm (n+1)],.row 93 4 v (acc.map Fe.av)]) n s=hL∧tL 0=.hm (n+1)∧tL 3=.hs (H.length+1) v 0 acc.length true∧tL 8=.sl 1 (ks.map iA)∧tL 9=.int .i64 (ks.length:Int)∧tL 10=.int .i64 k∧k≤ks.length∧acc.length=k∧acc++(ks.drop k).map (fun k=>(lkM s.fe k).getD Fe.z)=ks.map (fun k=>(lkM s.fe k).getD Fe.z)) ((fun(k v:Nat) (acc:List Fe)=>(ks.length-k:Nat)) (0) (0) ([])) ?_ ?_
 ·refine⟨_,_,Y3 3 93 4 (by simp) (by omega) (by exact zq F),⟨0,0,[],rfl,by rw[bj (by simp;omega)];simp,?_,?_,?_,?_,?_,by omega,rfl,by simp⟩⟩;all_goals try exact zZz F
 rintro _ s2 h' ⟨k,v,acc,rfl,rfl,e0,e3,e8,e9,e10,hk,hac,hp⟩ K2 hK2;simp only[af,ao,Nat.reduceEqDiff, ↓reduceIte]at e0 e3 e8 e9 e10;have F:=F6 F e0 e3 e8 e9 e10;refine wk F ?_;refine cq F (fun c1=>?_) (fun c1=>?_)<;>(try exact c1.elim)<;>(refine wk F ?_)
 ·have c2:k<ks.length:=by omega
  obtain⟨y,hy,hym⟩:=ac c2;rw[aF hy,N9]at hp;have F:=F3 F hy @aw;try refine sq F ?_
  refine wk F ?_;refine aq F ?_;try refine sq F ?_
  refine wk F ?_;refine hK2 _ _ _ (M2 ⟨k+1,v+1,acc++[(lkM s.fe y).getD Fe.z],rfl,by simp[Fe.av],?_,?_,?_,?_,?_,by omega,by simp;omega,by rw[← hp];simp⟩) (by omega);all_goals try exact zZz F
 ·rw[aI c1,S6,O8]at hp;refine ee hQ F ?_;rw[← hp];have hbl:n+(s.bl n).length≤H.length:=hn;have hg:getRow (so (H++[.row 78 1 0 [.hm (n+1)],.row 93 4 v (acc.map Fe.av)]) n s) (H.length+1) v=some (93,4,acc.map Fe.av):=by
   rw[bN (by simp;omega) v (by omega),bd _ rfl];simp[getRow]
  exact eB hbl rfl (PS.clo hn s) (za3 (by omega) hg (by simp) (fun r hr=>by obtain⟨a,_,rfl⟩:=M9.1 hr;exact Fe.clo _ a) (fun r hr=>by obtain⟨a,_,rfl⟩:=M9.1 hr;exact a.cells_sto)) ⟨rfl,rfl⟩
theorem qy(p:Nat)(h:Heap):Sat (CT G) 86 [.hm p] h (fun r h'=>r=.fn (.func 138) [] [.hp h.length 0 0 0]∧h'=h++[.row 79 1 0 [.hm p]]):=by
 refine sb [.tmp 2] Tryz.func86 ?_;intro Q hQ;refine wk trivial ?_;refine ee hQ trivial ?_;exact Z2 (by simp) (.fn _ _ _ (fun _ h=>by cases h) (fun x hx=>by simp at hx;subst hx;exact .hp _ _ _ _ (by simp))) ⟨rfl,rfl⟩
theorem qz(p:Nat)(h:Heap):Sat (CT G) 87 [.hm p] h (fun r h'=>r=.fn (.func 139) [] [.hp h.length 0 0 0]∧h'=h++[.row 80 1 0 [.hm p]]):=by
 refine sb [.tmp 2] Tryz.func87 ?_;intro Q hQ;refine wk trivial ?_;refine ee hQ trivial ?_;exact Z2 (by simp) (.fn _ _ _ (fun _ h=>by cases h) (fun x hx=>by simp at hx;subst hx;exact .hp _ _ _ _ (by simp))) ⟨rfl,rfl⟩
theorem kP(s:PS)(hw:WFM s.se s.c4)(hb:∀e∈s.se, -9223372036854775808≤e.1∧e.1≤9223372036854775807)(hl:s.se.length≤100000){H:Heap}{n:Nat}(hn:n+9≤H.length):Sat (CT G) 46 [.hm (n+3)] (so H n s) (fun r h'=>r=.sl 3 ((valsM Se.z s.se).map Se.av)∧h'=so H n s):=by
 have hsl:=cU (s.se.map (·.1));rw[L8]at hsl;refine sb [.tmp 2] Tryz.func46 ?_;intro Q hQ;refine wk trivial ?_;refine kq trivial (qz G _ _) ?_;refine kq trivial (dF G Se.av _ Tryz.sortedKeys87 s.se s.c4 hw hb hl (by rw[bN (by simp;omega) 0 (by omega),aJ _ rfl];rfl) (C4 (by simp;omega))) ?_;unfold valsM at hQ;have hks:(List.map (fun x=>x.1) s.se).mergeSort (fun x y=>decide (x≤y))=sortI (s.se.map (·.1)):=rfl;rw[hks];generalize sortI (s.se.map (·.1))=ks at*;have hkm:(ks.map iA).length=ks.length:=L8 ..;have F:=hkm;refine lm (fun nL tL hL=>∃(k v:Nat) (acc:List Se),ks.length-k=nL∧so (H++[.row 80 1 0 [.hm (n+3)],.row 97 3 v (acc.map Se.av)]) n s=hL∧tL 0=.hm (n+3)∧tL 3=.hs (H.length+1) v 0 acc.length true∧tL 8=.sl 1 (ks.map iA)∧tL 9=.int .i64 (ks.length:Int)∧tL 10=.int .i64 k∧k≤ks.length∧acc.length=k∧acc++(ks.drop k).map (fun k=>(lkM s.se k).getD Se.z)=ks.map (fun k=>(lkM s.se k).getD Se.z)) ((fun(k v:Nat) (acc:List Se)=>(ks.length-k:Nat)) (0) (0) ([])) ?_ ?_
 ·refine⟨_,_,Y3 3 97 3 (by simp) (by omega) (by exact zq F),⟨0,0,[],rfl,by rw[bj (by simp;omega)];simp,?_,?_,?_,?_,?_,by omega,rfl,by simp⟩⟩;all_goals try exact zZz F
 rintro _ s2 h' ⟨k,v,acc,rfl,rfl,e0,e3,e8,e9,e10,hk,hac,hp⟩ K2 hK2;simp only[af,ao,Nat.reduceEqDiff, ↓reduceIte]at e0 e3 e8 e9 e10;have F:=F6 F e0 e3 e8 e9 e10;refine wk F ?_;refine cq F (fun c1=>?_) (fun c1=>?_)<;>(try exact c1.elim)<;>(refine wk F ?_)
 ·have c2:k<ks.length:=by omega
  obtain⟨y,hy,hym⟩:=ac c2;rw[aF hy,N9]at hp;have F:=F3 F hy @aw;try refine sq F ?_
  refine wk F ?_;refine aq F ?_;try refine sq F ?_
  refine wk F ?_;refine hK2 _ _ _ (M2 ⟨k+1,v+1,acc++[(lkM s.se y).getD Se.z],rfl,by simp[Se.av],?_,?_,?_,?_,?_,by omega,by simp;omega,by rw[← hp];simp⟩) (by omega);all_goals try exact zZz F
 ·rw[aI c1,S6,O8]at hp;refine ee hQ F ?_;rw[← hp];have hbl:n+(s.bl n).length≤H.length:=hn;have hg:getRow (so (H++[.row 80 1 0 [.hm (n+3)],.row 97 3 v (acc.map Se.av)]) n s) (H.length+1) v=some (97,3,acc.map Se.av):=by
   rw[bN (by simp;omega) v (by omega),bd _ rfl];simp[getRow]
  exact eB hbl rfl (PS.clo hn s) (za3 (by omega) hg (by simp) (fun r hr=>by obtain⟨a,_,rfl⟩:=M9.1 hr;exact Se.clo _ a) (fun r hr=>by obtain⟨a,_,rfl⟩:=M9.1 hr;exact a.cells_sto)) ⟨rfl,rfl⟩
theorem jP(s:PS)(hw:WFM s.it s.c3)(hb:∀e∈s.it, -9223372036854775808≤e.1∧e.1≤9223372036854775807)(hl:s.it.length≤100000){H:Heap}{n:Nat}(hn:n+9≤H.length):Sat (CT G) 45 [.hm (n+2)] (so H n s) (fun r h'=>∃v,r=.hs (H.length+1) v 0 (valsM It.z s.it).length true∧h'=so (H++[.row 79 1 0 [.hm (n+2)],.row 49 9 v ((valsM It.z s.it).map It.av)]) n s):=by
 have hsl:=cU (s.it.map (·.1));rw[L8]at hsl;refine sb [.tmp 2] Tryz.func45 ?_;intro Q hQ;refine wk trivial ?_;refine kq trivial (qy G _ _) ?_;refine kq trivial (dF G It.av _ Tryz.sortedKeys86 s.it s.c3 hw hb hl (by rw[bN (by simp;omega) 0 (by omega),aJ _ rfl];rfl) (qp (by simp;omega))) ?_;unfold valsM at hQ;have hks:(List.map (fun x=>x.1) s.it).mergeSort (fun x y=>decide (x≤y))=sortI (s.it.map (·.1)):=rfl;rw[hks];generalize sortI (s.it.map (·.1))=ks at*;have hkm:(ks.map iA).length=ks.length:=L8 ..;have F:=hkm;refine lm (fun nL tL hL=>∃(k v:Nat) (acc:List It),ks.length-k=nL∧so (H++[.row 79 1 0 [.hm (n+2)],.row 49 9 v (acc.map It.av)]) n s=hL∧tL 0=.hm (n+2)∧tL 3=.hs (H.length+1) v 0 acc.length true∧tL 8=.sl 1 (ks.map iA)∧tL 9=.int .i64 (ks.length:Int)∧tL 10=.int .i64 k∧k≤ks.length∧acc.length=k∧acc++(ks.drop k).map (fun k=>(lkM s.it k).getD It.z)=ks.map (fun k=>(lkM s.it k).getD It.z)) ((fun(k v:Nat) (acc:List It)=>(ks.length-k:Nat)) (0) (0) ([])) ?_ ?_
 ·refine⟨_,_,Y3 3 49 9 (by simp) (by omega) (by exact zq F),⟨0,0,[],rfl,by rw[bj (by simp;omega)];simp,?_,?_,?_,?_,?_,by omega,rfl,by simp⟩⟩;all_goals try exact zZz F
 rintro _ s2 h' ⟨k,v,acc,rfl,rfl,e0,e3,e8,e9,e10,hk,hac,hp⟩ K2 hK2;simp only[af,ao,Nat.reduceEqDiff, ↓reduceIte]at e0 e3 e8 e9 e10;have F:=F6 F e0 e3 e8 e9 e10;refine wk F ?_;refine cq F (fun c1=>?_) (fun c1=>?_)<;>(try exact c1.elim)<;>(refine wk F ?_)
 ·have c2:k<ks.length:=by omega
  obtain⟨y,hy,hym⟩:=ac c2;rw[aF hy,N9]at hp;have F:=F3 F hy @aw;try refine sq F ?_
  refine wk F ?_;refine aq F ?_;try refine sq F ?_
  refine wk F ?_;refine hK2 _ _ _ (M2 ⟨k+1,v+1,acc++[(lkM s.it y).getD It.z],rfl,by simp[It.av],?_,?_,?_,?_,?_,by omega,by simp;omega,by rw[← hp];simp⟩) (by omega);all_goals try exact zZz F
 ·rw[aI c1,S6,O8]at hp;refine ee hQ F ?_;rw[← hp];have hal:acc.length=ks.length:=by omega
  exact Z2 (by rw[aQ hn,aQ (by simp;omega)];simp) (.hs _ _ _ _ _ (by rw[aQ (by simp;omega)];simp)) ⟨v,by simp[hal],rfl⟩
theorem jf{h0:Heap}{R:AVal→Heap→Prop}{r0 r:AVal}(hz:Frz h0 h0.length r0 r)(hR:R r h0):Fin h0 h0 R r0:=by
 have:=Fin.frz (h0:=h0) (j:=[]) (R:=R) (r0:=r0) (r:=r) (by rwa [O8]) hR
 rwa [O8]at this
theorem qA(l:List Bs)(hl:l.length≤1048576)(h:Heap):Sat (CT G) 88 [.sl 1 (l.map .str)] h (fun r h'=>r=.sl 1 (l.map .str)∧h'=h):=by
 rcases l with _| ⟨a,l⟩
 ·refine sb [.tmp 2] Tryz.func88 ?_;intro Q hQ;refine wk trivial ?_;refine jC _ (by exact zq trivial) (.inl rfl) fun b=>?_
  cases b
  ·(try refine sq trivial ?_);refine wk trivial ?_;refine fI (.inl rfl) (by simp(disch:=first|omega| (simp only[go_sem, ↓reduceIte,seval];first|done|omega)|fail) only[go_sem, ↓reduceIte,seval];rfl) (by simp(disch:=first|omega| (simp only[go_sem, ↓reduceIte,seval];first|done|omega)|fail) only[go_sem, ↓reduceIte,seval];rfl) (by simp(disch:=first|omega| (simp only[go_sem, ↓reduceIte,seval];first|done|omega)|fail) only[go_sem, ↓reduceIte,seval];rfl) (by simp(disch:=first|omega| (simp only[go_sem, ↓reduceIte,seval];first|done|omega)|fail) only[go_sem, ↓reduceIte,seval];try rfl) (by omega) (by simp only[elemsOf, ↓reduceIte];try rfl) (by simp) (fun _=>?_) (fun h=>absurd rfl h);(try refine sq trivial ?_);refine wk trivial ?_;refine ee hQ trivial ?_;exact jf (.ezs _) ⟨rfl,rfl⟩
  ·(try refine sq trivial ?_);refine wk trivial ?_;refine ee hQ trivial ?_;exact jf (.nils _) ⟨rfl,rfl⟩
 ·have hr:(List.map AVal.str (a::l))≠ []:=by simp
  refine sb [.tmp 2] Tryz.func88 ?_;intro Q hQ;refine wk trivial ?_;refine fI (.inl rfl) (by simp(disch:=first|omega| (simp only[go_sem, ↓reduceIte,seval];first|done|omega)|fail) only[go_sem, ↓reduceIte,seval];rfl) (by simp(disch:=first|omega| (simp only[go_sem, ↓reduceIte,seval];first|done|omega)|fail) only[go_sem, ↓reduceIte,seval];rfl) (by simp(disch:=first|omega| (simp only[go_sem, ↓reduceIte,seval];first|done|omega)|fail) only[go_sem, ↓reduceIte,seval];rfl) (by simp(disch:=first|omega| (simp only[go_sem, ↓reduceIte,seval];first|done|omega)|fail) only[go_sem, ↓reduceIte,seval];try rfl) (by omega) (by simp only[elemsOf, ↓reduceIte];try rfl) ?_ (fun h=>by simp at h) (fun _=>?_)
  ·simp[maxLen]at hl ⊢;omega
  try refine sq trivial ?_
  refine wk trivial ?_;refine ee hQ trivial ?_;have hg:getRow (h++[.row 9 1 0 ((a::l).map .str)]) h.length 0=some (9,1,(a::l).map .str):=by rw[aJ _ rfl];simp[getRow]
  have:=za3 (n:=h.length) (len:=(a::l).length) (room:=true) (M4 _) hg (by simp) (fun r hr=>by obtain⟨a,_,rfl⟩:=M9.1 hr;exact .str _) (fun r hr c hc=>by obtain⟨a,_,rfl⟩:=M9.1 hr;simp[AVal.cells]at hc;subst hc;rfl);simp only[M8,N9]at this;exact Fin.frz (by simpa using this) ⟨rfl,rfl⟩
theorem gm(t:It)(ht:t.tags.length≤1048576)(h:Heap):Sat (CT G) 47 [t.av] h (fun r h'=>r=t.av∧h'=h):=by
 refine sb [.cell 2 49] Tryz.func47 ?_;intro Q hQ;refine wk trivial ?_;refine kq trivial (qA G t.tags ht _) ?_;refine ye hQ trivial ?_;exact L7 (zc2 _ t) ⟨rfl,rfl⟩
theorem qB(s:PS)(id:Int)(ht:((lkM s.it id).getD It.z).tags.length≤1048576){H:Heap}{n:Nat}(hn:n+9≤H.length):Sat (CT G) 22 [.hp (n+8) 0 0 0,.int .i64 id] (so H n s) (fun r h'=>r=.tup [((lkM s.it id).getD It.z).av,.bool (lkM s.it id).isSome]∧h'=so H n s):=by
 refine sb [.cell 4 49,.tmp 5] Tryz.func22 ?_;intro Q hQ;refine wk trivial ?_;refine kq trivial (gm G ((lkM s.it id).getD It.z) ht _) ?_;refine ye hQ trivial ?_;exact au hn (.tup _ (fun x hx=>by simp only[M6,P7,or_false]at hx;rcases hx with rfl|rfl;exact zc2 _ _;exact .bool _)) ⟨rfl,rfl⟩
structure St where
 clock:Int
 fo:List Fo
 fe:List Fe
 it:List It
 se:List Se
 t1:Int
 t2:Int
 t3:Int
 t4:Int
def St.av(x:St):AVal:=.agg [.int .i64 x.clock,.sl 3 (x.fo.map Fo.av),.sl 4 (x.fe.map Fe.av),.sl 9 (x.it.map It.av),.sl 3 (x.se.map Se.av),.int .i64 x.t1,.int .i64 x.t2,.int .i64 x.t3,.int .i64 x.t4]
@[go_sem] theorem St.av_eq(x:St):x.av=.agg [.int .i64 x.clock,.sl 3 (x.fo.map Fo.av),.sl 4 (x.fe.map Fe.av),.sl 9 (x.it.map It.av),.sl 3 (x.se.map Se.av),.int .i64 x.t1,.int .i64 x.t2,.int .i64 x.t3,.int .i64 x.t4]:=(rfl)
def PS.tell(s:PS):St:=⟨s.clock,valsM Fo.z s.fo,valsM Fe.z s.fe,valsM It.z s.it,valsM Se.z s.se,s.t1,s.t2,s.t3,s.t4⟩
def inI(k:Int):Prop:= -9223372036854775808≤k∧k≤9223372036854775807
structure PS.Ok (s:PS):Prop where
 w1:WFM s.fo s.c1
 w2:WFM s.fe s.c2
 w3:WFM s.it s.c3
 w4:WFM s.se s.c4
 b1:∀e∈s.fo,inI e.1
 b2:∀e∈s.fe,inI e.1
 b3:∀e∈s.it,inI e.1
 b4:∀e∈s.se,inI e.1
 l1:s.fo.length≤100000
 l2:s.fe.length≤100000
 l3:s.it.length≤100000
 l4:s.se.length≤100000
 tg:∀t∈valsM It.z s.it,t.tags.length≤1048576
theorem ax{N:Nat}{h:Heap}{α:Type}{av:α→AVal}{m:Nat}(hc:∀a,Clo N (av a))(l:List α):Frz h N (.sl m (l.map av)) (.sl m (l.map av)):=
 .clo _ (Clo.sl _ _ fun x hx=>by obtain⟨a,_,rfl⟩:=M9.1 hx;exact hc a)
theorem vp(s:PS){H j:Heap}{n p v:Nat}(hn:n+9≤H.length)(hg:getRow (H++j) (H.length+p) v=some (49,9,(valsM It.z s.it).map It.av)):
  Fin (so H n s) (so (H++j) n s) (fun r h'=>r=s.tell.av∧h'=so H n s) (.agg [.int .i64 s.clock,.sl 3 ((valsM Fo.z s.fo).map Fo.av),.sl 4 ((valsM Fe.z s.fe).map Fe.av),.hs (H.length+p) v 0 (valsM It.z s.it).length true,.sl 3 ((valsM Se.z s.se).map Se.av),.int .i64 s.t1,.int .i64 s.t2,.int .i64 s.t3,.int .i64 s.t4]):=by
 have hl:H.length+p<(H++j).length:=ba hg;have hg':getRow (so (H++j) n s) (H.length+p) v=some (49,9,(valsM It.z s.it).map It.av):=by rw[bN (by simp;omega) v (by omega)];exact hg
 refine eB hn rfl (PS.clo hn s) (FrzL.agg (.cons (.clo _ (.int _ _)) (.cons (ax (Fo.clo _) _) (.cons (ax (Fe.clo _) _) (.cons (za3 (by omega) hg' (by simp) (fun r hr=>by obtain⟨a,_,rfl⟩:=M9.1 hr;exact zc2 _ a) (fun r hr=>by obtain⟨a,_,rfl⟩:=M9.1 hr;exact a.cells_sto)) (.cons (ax (Se.clo _) _) (.cons (.clo _ (.int _ _)) (.cons (.clo _ (.int _ _)) (.cons (.clo _ (.int _ _)) (.cons (.clo _ (.int _ _)) .nil))))))))) rfl) ⟨rfl,rfl⟩
def PS.tellH(s:PS)(p v:Nat):AVal:=.agg [.int .i64 s.clock,.sl 3 ((valsM Fo.z s.fo).map Fo.av),.sl 4 ((valsM Fe.z s.fe).map Fe.av),.hs p v 0 (valsM It.z s.it).length true,.sl 3 ((valsM Se.z s.se).map Se.av),.int .i64 s.t1,.int .i64 s.t2,.int .i64 s.t3,.int .i64 s.t4]
theorem iT(s:PS)(hs:s.Ok){H:Heap}{n:Nat}(hn:n+9≤H.length)(R:AVal→Heap→Prop)
  (hR:∀(j:Heap) (p v:Nat),getRow (H++j) (H.length+p) v=some (49,9,(valsM It.z s.it).map It.av)→Fin (so H n s) (so (H++j) n s) R (s.tellH (H.length+p) v)):Sat (CT G) 21 [.hp (n+8) 0 0 0] (so H n s) R:=by
 have hvl:(valsM It.z s.it).length≤100000:=by unfold valsM;rw[L8,cU,L8];exact hs.l3
 refine sb [.cell 2 36] Tryz.func21 ?_;intro Q hQ;refine wk trivial ?_;refine aC 46 [8,13,18,23,44,45] [true,true,true,true,true,true,true,true,false,true,true,true,true,false,true,true,true,true,false,true,true,true,true,false,true,true,true,true,true,true,true,true,true,true,true,true,true,true,true,true,true,true,true,true,false,false] (.two 8 [false,true,true,true,false,false,false,false,false,false,true,true,true,false,false,true,true,true,false,false,true,true,true,false,false,true,true,true,true,false,true,true,true,true,false,true,true,true,true,false,true,true,true,true] (.two 13 [false,true,true,true,false,false,false,false,false,false,false,false,false,false,false,true,true,true,false,false,true,true,true,false,false,true,true,true,true,false,true,true,true,true,false,true,true,true,true,false,true,true,true,true] (.two 18 [false,true,true,true,false,false,false,false,false,false,false,false,false,false,false,false,false,false,false,false,true,true,true,false,false,true,true,true,true,false,true,true,true,true,false,true,true,true,true,false,true,true,true,true] (.two 23 [false,true,true,true,false,false,false,false,false,false,false,false,false,false,false,false,false,false,false,false,false,false,false,false,false,true,true,true,true,false,true,true,true,true,false,true,true,true,true,false,true,true,true,true] (.two 44 [] (.one 45 [] .fin) 45 [false,true,true,true,false,false,false,false,false,false,false,false,false,false,false,false,false,false,false,false,false,false,false,false,false,true,true,true,true,false,true,true,true,true,false,true,true,true,true,false,true,true,true,true] (.one 44 [] .fin)) 45 [false,true,true,true,false,false,false,false,false,false,false,false,false,false,false,false,false,false,false,false,true,true,true,false,false,true,true,true,true,false,true,true,true,true,false,true,true,true,true,false,true,true,true,true] (.one 23 [false,true,true,true,false,false,false,false,false,false,false,false,false,false,false,false,false,false,false,false,false,false,false,false,false,true,true,true,true,false,true,true,true,true,false,true,true,true,true,false,true,true,true,true] (.one 44 [] .fin))) 45 [false,true,true,true,false,false,false,false,false,false,false,false,false,false,false,true,true,true,false,false,true,true,true,false,false,true,true,true,true,false,true,true,true,true,false,true,true,true,true,false,true,true,true,true] (.one 18 [false,true,true,true,false,false,false,false,false,false,false,false,false,false,false,false,false,false,false,false,true,true,true,false,false,true,true,true,true,false,true,true,true,true,false,true,true,true,true,false,true,true,true,true] (.one 23 [false,true,true,true,false,false,false,false,false,false,false,false,false,false,false,false,false,false,false,false,false,false,false,false,false,true,true,true,true,false,true,true,true,true,false,true,true,true,true,false,true,true,true,true] (.one 44 [] .fin)))) 45 [false,true,true,true,false,false,false,false,false,false,true,true,true,false,false,true,true,true,false,false,true,true,true,false,false,true,true,true,true,false,true,true,true,true,false,true,true,true,true,false,true,true,true,true] (.one 13 [false,true,true,true,false,false,false,false,false,false,false,false,false,false,false,true,true,true,false,false,true,true,true,false,false,true,true,true,true,false,true,true,true,true,false,true,true,true,true,false,true,true,true,true] (.one 18 [false,true,true,true,false,false,false,false,false,false,false,false,false,false,false,false,false,false,false,false,true,true,true,false,false,true,true,true,true,false,true,true,true,true,false,true,true,true,true,false,true,true,true,true] (.one 23 [false,true,true,true,false,false,false,false,false,false,false,false,false,false,false,false,false,false,false,false,false,false,false,false,false,true,true,true,true,false,true,true,true,true,false,true,true,true,true,false,true,true,true,true] (.one 44 [] .fin))))) 45 [false,true,true,true,false,true,true,true,false,false,true,true,true,false,false,true,true,true,false,false,true,true,true,false,false,true,true,true,true,false,true,true,true,true,false,true,true,true,true,false,true,true,true,true] (.one 8 [false,true,true,true,false,false,false,false,false,false,true,true,true,false,false,true,true,true,false,false,true,true,true,false,false,true,true,true,true,false,true,true,true,true,false,true,true,true,true,false,true,true,true,true] (.one 13 [false,true,true,true,false,false,false,false,false,false,false,false,false,false,false,true,true,true,false,false,true,true,true,false,false,true,true,true,true,false,true,true,true,true,false,true,true,true,true,false,true,true,true,true] (.one 18 [false,true,true,true,false,false,false,false,false,false,false,false,false,false,false,false,false,false,false,false,true,true,true,false,false,true,true,true,true,false,true,true,true,true,false,true,true,true,true,false,true,true,true,true] (.one 23 [false,true,true,true,false,false,false,false,false,false,false,false,false,false,false,false,false,false,false,false,false,false,false,false,false,true,true,true,true,false,true,true,true,true,false,true,true,true,true,false,true,true,true,true] (.one 44 [] .fin)))))) (by decide+kernel) (by kernel_rfl) (by decide+kernel) ?_;simp only[aG,aH,aD];try refine sq trivial ?_
 repeat' ((first|refine ai ?_|refine aj ?_|refine ak ?_ ?_)<;>try refine sq trivial ?_)
 all_goals try refine wk trivial ?_
 repeat' (first
  | (refine(kN G s hs.w1 hs.b1 hs.l1 (by first|omega| (simp;omega))).mono ?_;rintro r h' ⟨rfl,rfl⟩;try refine sq trivial ?_)
  | (refine(kO G s hs.w2 hs.b2 hs.l2 (by first|omega| (simp;omega))).mono ?_;rintro r h' ⟨rfl,rfl⟩;try refine sq trivial ?_)
  | (refine(kP G s hs.w4 hs.b4 hs.l4 (by first|omega| (simp;omega))).mono ?_;rintro r h' ⟨rfl,rfl⟩;try refine sq trivial ?_)
  | (refine(jP G s hs.w3 hs.b3 hs.l3 (by first|omega| (simp;omega))).mono ?_;rintro r h' ⟨v,rfl,rfl⟩;try refine sq trivial ?_)
  | (refine ai ?_;try refine sq trivial ?_)| (refine aj ?_;try refine sq trivial ?_)| (refine ak ?_ ?_<;>try refine sq trivial ?_))
 all_goals try refine wk trivial ?_
 all_goals first
  | (
   refine lm (fun nL tL hL=>∃(k:Nat) (hh:Heap),(valsM It.z s.it).length-k=nL∧so hh n s=hL∧tL 2=.hp H.length 0 0 0∧tL 3=.hp (H.length+3) 0 0 0∧tL 55=.hs (H.length+2) v 0 (valsM It.z s.it).length true∧tL 56=.int .i64 ((valsM It.z s.it).length:Int)∧tL 57=.int .i64 k∧k≤(valsM It.z s.it).length∧(FrN H.length H hh∧H.length+3<hh.length)∧getRow hh H.length 0=some (36,9,[.agg [.int .i64 0,.nil (.slice none 0 0),.nil (.slice none 0 0),.nil (.slice none 0 0),.nil (.slice none 0 0),.int .i64 0,.int .i64 0,.int .i64 0,.int .i64 0]])∧getRow hh (H.length+3) 0=some (36,9,[.agg [.int .i64 s.clock,.sl 3 ((valsM Fo.z s.fo).map Fo.av),.sl 4 ((valsM Fe.z s.fe).map Fe.av),.hs (H.length+2) v 0 (valsM It.z s.it).length true,.sl 3 ((valsM Se.z s.se).map Se.av),.int .i64 s.t1,.int .i64 s.t2,.int .i64 s.t3,.int .i64 s.t4]])∧getRow hh (H.length+2) v=some (49,9,(valsM It.z s.it).map It.av)) ((fun(k:Nat) (hh:Heap)=>((valsM It.z s.it).length-k:Nat)) (0) (H++[.row 36 9 0 [.agg [.int .i64 0,.nil (.slice none 0 0),.nil (.slice none 0 0),.nil (.slice none 0 0),.nil (.slice none 0 0),.int .i64 0,.int .i64 0,.int .i64 0,.int .i64 0]],.row 79 1 0 [.hm (n+2)],.row 49 9 v ((valsM It.z s.it).map It.av),.row 36 9 0 [.agg [.int .i64 s.clock,.sl 3 ((valsM Fo.z s.fo).map Fo.av),.sl 4 ((valsM Fe.z s.fe).map Fe.av),.hs (H.length+2) v 0 (valsM It.z s.it).length true,.sl 3 ((valsM Se.z s.se).map Se.av),.int .i64 s.t1,.int .i64 s.t2,.int .i64 s.t3,.int .i64 s.t4]]])) ?_ ?_
   ·refine M2 ⟨0,H++[.row 36 9 0 [.agg [.int .i64 0,.nil (.slice none 0 0),.nil (.slice none 0 0),.nil (.slice none 0 0),.nil (.slice none 0 0),.int .i64 0,.int .i64 0,.int .i64 0,.int .i64 0]],.row 79 1 0 [.hm (n+2)],.row 49 9 v ((valsM It.z s.it).map It.av),.row 36 9 0 [.agg [.int .i64 s.clock,.sl 3 ((valsM Fo.z s.fo).map Fo.av),.sl 4 ((valsM Fe.z s.fe).map Fe.av),.hs (H.length+2) v 0 (valsM It.z s.it).length true,.sl 3 ((valsM Se.z s.se).map Se.av),.int .i64 s.t1,.int .i64 s.t2,.int .i64 s.t3,.int .i64 s.t4]]],rfl,aB,?_,?_,?_,?_,?_,by omega,⟨X0 _ (by omega) (W7 _ _),by simp⟩,by rw[aJ _ rfl];rfl,by rw[bd _ rfl];rfl,by rw[bd _ rfl];simp[getRow]⟩;all_goals try exact zZz trivial
   rintro _ s2 h' ⟨k,hh,rfl,rfl,e2,e3,e55,e56,e57,hk,hfr,hg2,hgx,hgi⟩ K2 hK2;simp only[af,ao,Nat.reduceEqDiff, ↓reduceIte]at e2 e3 e55 e56 e57;have F:=F5 e2 e3 e55 e56 e57;refine wk F ?_;obtain⟨hfr,hfl⟩:=hfr;have hn1:n+9≤hh.length:=(by omega);refine cq F (fun c1=>?_) (fun c1=>?_)<;>(try exact c1.elim)<;>(refine wk F ?_)
   ·have c2:k<(valsM It.z s.it).length:=(by omega);obtain⟨y,hy,hym⟩:=ac c2;have hyt:=hs.tg y hym;have hset:((valsM It.z s.it).map It.av).set k (.agg [.int .i64 y.id,.int .i64 y.feed,.int .i64 y.date,.str y.guid,.str y.title,.str y.link,.bool y.read,.bool y.star,.sl 1 (y.tags.map .str)])=(valsM It.z s.it).map It.av:=by
     apply R8
     intro q;rw[Y6];split
     ·rename_i hq;subst hq;rw[N8,hy];simp[c2,It.av]
     ·rfl
    have F:=F7 F c2 hy @hset hgi hgx @aw;(try refine sq F ?_);refine wk F ?_;refine aE (gm G y hyt _) ?_;(try refine sq F ?_);refine wk F ?_;refine hK2 _ _ _ (M2 ⟨k+1,hh.set (H.length+2) (.row 49 9 v ((valsM It.z s.it).map It.av))++[.row 49 9 0 [y.av]],rfl,aB,?_,?_,?_,?_,?_,by omega,⟨X0 _ (by simp;omega) (Y0 _ (by omega) hfr),by simp;omega⟩,by rw[bo _ (by simp;omega),bi _ _ (by omega)];exact hg2,by rw[bo _ (by simp;omega),bi _ _ (by omega)];exact hgx,by rw[bo _ (by simp;omega),ca _ _ _ _ _ (by omega),M0 rfl]⟩) (by omega);all_goals try exact zZz F
   ·have F:=F5 F hg2 hgx hgi @aw;(try refine sq F ?_);refine wk F ?_;refine ye hQ F ?_;obtain⟨j,hj⟩:=hfr.behind (by omega);subst hj;have hgi2:∀b,getRow (H++j.set 0 b) (H.length+2) v=some (49,9,(valsM It.z s.it).map It.av):=fun b=>by rw[← cR b rfl,bi _ _ (by omega)];exact hgi
    rw[cR _ rfl];exact hR _ _ _ (by simpa using hgi2 _))
  | (
   refine lm (fun nL tL hL=>∃(k:Nat) (hh:Heap),(valsM It.z s.it).length-k=nL∧so hh n s=hL∧tL 2=.hp H.length 0 0 0∧tL 3=.hp (H.length+1) 0 0 0∧tL 55=.hs (H.length+3) v 0 (valsM It.z s.it).length true∧tL 56=.int .i64 ((valsM It.z s.it).length:Int)∧tL 57=.int .i64 k∧k≤(valsM It.z s.it).length∧(FrN H.length H hh∧H.length+3<hh.length)∧getRow hh H.length 0=some (36,9,[.agg [.int .i64 0,.nil (.slice none 0 0),.nil (.slice none 0 0),.nil (.slice none 0 0),.nil (.slice none 0 0),.int .i64 0,.int .i64 0,.int .i64 0,.int .i64 0]])∧getRow hh (H.length+1) 0=some (36,9,[.agg [.int .i64 s.clock,.sl 3 ((valsM Fo.z s.fo).map Fo.av),.sl 4 ((valsM Fe.z s.fe).map Fe.av),.hs (H.length+3) v 0 (valsM It.z s.it).length true,.sl 3 ((valsM Se.z s.se).map Se.av),.int .i64 s.t1,.int .i64 s.t2,.int .i64 s.t3,.int .i64 s.t4]])∧getRow hh (H.length+3) v=some (49,9,(valsM It.z s.it).map It.av)) ((fun(k:Nat) (hh:Heap)=>((valsM It.z s.it).length-k:Nat)) (0) (H++[.row 36 9 0 [.agg [.int .i64 0,.nil (.slice none 0 0),.nil (.slice none 0 0),.nil (.slice none 0 0),.nil (.slice none 0 0),.int .i64 0,.int .i64 0,.int .i64 0,.int .i64 0]],.row 36 9 0 [.agg [.int .i64 s.clock,.sl 3 ((valsM Fo.z s.fo).map Fo.av),.sl 4 ((valsM Fe.z s.fe).map Fe.av),.hs (H.length+3) v 0 (valsM It.z s.it).length true,.sl 3 ((valsM Se.z s.se).map Se.av),.int .i64 s.t1,.int .i64 s.t2,.int .i64 s.t3,.int .i64 s.t4]],.row 79 1 0 [.hm (n+2)],.row 49 9 v ((valsM It.z s.it).map It.av)])) ?_ ?_
   ·refine M2 ⟨0,H++[.row 36 9 0 [.agg [.int .i64 0,.nil (.slice none 0 0),.nil (.slice none 0 0),.nil (.slice none 0 0),.nil (.slice none 0 0),.int .i64 0,.int .i64 0,.int .i64 0,.int .i64 0]],.row 36 9 0 [.agg [.int .i64 s.clock,.sl 3 ((valsM Fo.z s.fo).map Fo.av),.sl 4 ((valsM Fe.z s.fe).map Fe.av),.hs (H.length+3) v 0 (valsM It.z s.it).length true,.sl 3 ((valsM Se.z s.se).map Se.av),.int .i64 s.t1,.int .i64 s.t2,.int .i64 s.t3,.int .i64 s.t4]],.row 79 1 0 [.hm (n+2)],.row 49 9 v ((valsM It.z s.it).map It.av)],rfl,aB,?_,?_,?_,?_,?_,by omega,⟨X0 _ (by omega) (W7 _ _),by simp⟩,by rw[aJ _ rfl];rfl,by rw[bd _ rfl];rfl,by rw[bd _ rfl];simp[getRow]⟩;all_goals try exact zZz trivial
   rintro _ s2 h' ⟨k,hh,rfl,rfl,e2,e3,e55,e56,e57,hk,hfr,hg2,hgx,hgi⟩ K2 hK2;simp only[af,ao,Nat.reduceEqDiff, ↓reduceIte]at e2 e3 e55 e56 e57;have F:=F5 e2 e3 e55 e56 e57;refine wk F ?_;obtain⟨hfr,hfl⟩:=hfr;have hn1:n+9≤hh.length:=(by omega);refine cq F (fun c1=>?_) (fun c1=>?_)<;>(try exact c1.elim)<;>(refine wk F ?_)
   ·have c2:k<(valsM It.z s.it).length:=(by omega);obtain⟨y,hy,hym⟩:=ac c2;have hyt:=hs.tg y hym;have hset:((valsM It.z s.it).map It.av).set k (.agg [.int .i64 y.id,.int .i64 y.feed,.int .i64 y.date,.str y.guid,.str y.title,.str y.link,.bool y.read,.bool y.star,.sl 1 (y.tags.map .str)])=(valsM It.z s.it).map It.av:=by
     apply R8
     intro q;rw[Y6];split
     ·rename_i hq;subst hq;rw[N8,hy];simp[c2,It.av]
     ·rfl
    have F:=F7 F c2 hy @hset hgi hgx @aw;(try refine sq F ?_);refine wk F ?_;refine aE (gm G y hyt _) ?_;(try refine sq F ?_);refine wk F ?_;refine hK2 _ _ _ (M2 ⟨k+1,hh.set (H.length+3) (.row 49 9 v ((valsM It.z s.it).map It.av))++[.row 49 9 0 [y.av]],rfl,aB,?_,?_,?_,?_,?_,by omega,⟨X0 _ (by simp;omega) (Y0 _ (by omega) hfr),by simp;omega⟩,by rw[bo _ (by simp;omega),bi _ _ (by omega)];exact hg2,by rw[bo _ (by simp;omega),bi _ _ (by omega)];exact hgx,by rw[bo _ (by simp;omega),ca _ _ _ _ _ (by omega),M0 rfl]⟩) (by omega);all_goals try exact zZz F
   ·have F:=F5 F hg2 hgx hgi @aw;(try refine sq F ?_);refine wk F ?_;refine ye hQ F ?_;obtain⟨j,hj⟩:=hfr.behind (by omega);subst hj;have hgi2:∀b,getRow (H++j.set 0 b) (H.length+3) v=some (49,9,(valsM It.z s.it).map It.av):=fun b=>by rw[← cR b rfl,bi _ _ (by omega)];exact hgi
    rw[cR _ rfl];exact hR _ _ _ (by simpa using hgi2 _))
theorem qC(s:PS)(hs:s.Ok){H:Heap}{n:Nat}(hn:n+9≤H.length):Sat (CT G) 21 [.hp (n+8) 0 0 0] (so H n s) (fun r h'=>r=s.tell.av∧h'=so H n s):=
 iT G s hs hn _ fun _ _ _ hg=>vp s hn hg
theorem o2(s:PS)(hs:s.Ok){H:Heap}{n:Nat}(hn:n+9≤H.length):Sat (CT G) 21 [.hp (n+8) 0 0 0] (so H n s) (fun r h'=>∃(j:Heap) (p v:Nat),r=s.tellH p v∧H.length≤p∧getRow (H++j) p v=some (49,9,(valsM It.z s.it).map It.av)∧h'=so (H++j) n s):=
 iT G s hs hn _ fun j p v hg=>Z2 (by rw[aQ hn,aQ (by simp;omega)];simp) (.agg _ fun x hx=>by
  have hl:=ba hg;simp only[M6,P7,or_false]at hx;rcases hx with rfl|rfl|rfl|rfl|rfl|rfl|rfl|rfl|rfl
  ·exact .int _ _
  ·exact Clo.sl _ _ fun x hx=>by obtain⟨a,_,rfl⟩:=M9.1 hx;exact Fo.clo _ a
  ·exact Clo.sl _ _ fun x hx=>by obtain⟨a,_,rfl⟩:=M9.1 hx;exact Fe.clo _ a
  ·exact .hs _ _ _ _ _ (by rw[aQ (by simp;omega)];exact hl)
  ·exact Clo.sl _ _ fun x hx=>by obtain⟨a,_,rfl⟩:=M9.1 hx;exact Se.clo _ a
  ·exact .int _ _
  ·exact .int _ _
  ·exact .int _ _
  ·exact .int _ _) ⟨j,_,v,rfl,by omega,hg,rfl⟩
section
variable {l:List Ky} {H:Heap} {n v:Nat}
end
end Go.Av
namespace Go.Av
open Go Go.Proofs Go.RowKit
attribute [local irreducible] WP WPl WPix Sat
inductive Qy where
 |mk (op num:Int) (s:Bs) (ks:List Qy)
namespace Qy
mutual
def av:Qy→AVal
 | .mk op num s ks=>.agg [.int .i64 op,.int .i64 num,.str s,.sl 4 (avL ks)]
def avL:List Qy→List AVal
 | []=>[]
 |k::ks=>k.av::avL ks
end
theorem tj:∀ks:List Qy,avL ks=ks.map av
 | []=>by simp[avL]
 |k::ks=>by simp[avL,tj ks]
@[go_sem] theorem av_eq(op num:Int)(s:Bs)(ks:List Qy):(Qy.mk op num s ks).av=.agg [.int .i64 op,.int .i64 num,.str s,.sl 4 (ks.map av)]:=by rw[av,tj]
theorem ind{P:Qy→Prop}(h:∀op num s ks,(∀k∈ks,P k)→P (.mk op num s ks)):∀q,P q:=fun q=>
 Qy.rec (motive_1:=P) (motive_2:=fun ks=>∀k∈ks,P k) (fun op num s ks ih=>h op num s ks ih) (fun k hk=>by simp at hk) (fun k ks ih1 ih2 x hx=>by
  rcases M6.1 hx with rfl|hx
  ·exact ih1
  ·exact ih2 x hx) q
mutual
def sz:Qy→Nat
 | .mk _ _ s ks=>1+s.length+szL ks
def szL:List Qy→Nat
 | []=>0
 |k::ks=>k.sz+szL ks
end
theorem szL_mem:∀{ks:List Qy} {k:Qy},k∈ks→k.sz≤szL ks
 |k'::ks,k,h=>by
  rw[szL];rcases M6.1 h with rfl|h
  ·omega
  ·have:=szL_mem h;omega
theorem szL_len:∀ks:List Qy,ks.length≤szL ks
 | []=>by simp
 | .mk op n s l::ks=>by rw[szL,sz,M8];have:=szL_len ks;omega
mutual
def mx:Qy→Nat
 | .mk _ _ s ks=>max (max s.length ks.length) (mxL ks)
def mxL:List Qy→Nat
 | []=>0
 |k::ks=>max k.mx (mxL ks)
end
theorem p6:∀{ks:List Qy} {k:Qy},k∈ks→k.mx≤mxL ks
 |k'::ks,k,h=>by
  rw[mxL];rcases M6.1 h with rfl|h
  ·omega
  ·have:=p6 h;omega
theorem mx_mk{op num:Int}{s:Bs}{ks:List Qy}{B:Nat}(h:(Qy.mk op num s ks).mx≤B):s.length≤B∧ks.length≤B∧∀k∈ks,k.mx≤B:=by
 rw[mx]at h;exact⟨by omega,by omega,fun k hk=>by have:=p6 hk;omega⟩
mutual
def left:Qy→Int→Int→Int
 | .mk _ _ s ks,d,n=>leftL ks d (n-1-s.length/20)
def leftL:List Qy→Int→Int→Int
 | [],_,n=>n
 |k::ks,d,n=>if n>0∧d<70 then leftL ks d (k.left (d+1) n)else n
end
mutual
theorem left_le:∀(q:Qy) (d n:Int),q.left d n≤n-1∧n-q.sz≤q.left d n
 | .mk op num s ks,d,n=>by
  rw[left,sz];have:=jg ks d (n-1-s.length/20);omega
theorem jg:∀(ks:List Qy) (d n:Int),leftL ks d n≤n∧n-szL ks≤leftL ks d n
 | [],d,n=>by simp[leftL,szL]
 |k::ks,d,n=>by
  rw[leftL,szL];split
  ·have h1:=left_le k (d+1) n;have h2:=jg ks d (k.left (d+1) n);have h3:1≤k.sz:=(by cases k;rw[sz];omega);omega
  ·omega
end
end Qy
end Go.Av
namespace Go.Av
open Go Go.Proofs Go.RowKit Go.ChangeShapes Go.WideShapes
section
variable {H:Type} {enc:TypeId×Value→H} {W:World}
theorem xC{P:Program}{n:Nat}{t:TypeId}(ht:P.underlying t=some .string):Rd H enc P W n t (fun s: {s:Bs//s.length≤9223372036854775807}=>[.str s.1]) (fun _=>0):=fun cs x h=>by
 obtain⟨s,rfl,rfl,hs⟩:=DataW.trod_string ht h;refine⟨⟨s.data.toList,by simpa [maxLen]using hs⟩,rfl,fun j c hj=>?_,X1 _⟩
 match j with
 |0=>simp at hj;subst hj;exact⟨rfl,.str _⟩
 |j+1=>simp at hj
theorem zn{ks:List Qy}{B:Nat}(h:∀k∈ks,k.mx≤B):Qy.mxL ks≤B:=by
 induction ks with
 |nil=>exact X1 _
 |cons k ks ih=>
  rw[Qy.mxL];have h1:=h k (by simp);have h2:=ih fun x hx=>h x (by simp[hx])
  omega
theorem xD{S:Addr→Prop}{μ:Map}{n:Nat}{es:List AVal}{v:Value}(h:Rep W S μ (.sl n es) v):es.length≤9223372036854775807:=by
 cases h with
 |sl _ _ b o cap vs h1 h2 h3=>exact Q7 h2 h3
 |sl0=>simp
theorem C7:∀n:Nat,Rd H enc Tryz.prog W n 25 (fun q: {q:Qy//q.mx≤9223372036854775807}=>q.1.av.cells) (fun _=>0):=by
 intro n;induction n using Nat.strongRecOn with
 |ind n ih=>
  intro cs x h;obtain⟨ds,n',rfl,hx,hcl,hdl,hf⟩:=lB (fs:=[3,3,9,23]) (by kernel_rfl) h;obtain⟨y0,d0,t0⟩:=hf 0 _ rfl;obtain⟨y1,d1,t1⟩:=hf 1 _ rfl;obtain⟨y2,d2,t2⟩:=hf 2 _ rfl;obtain⟨y3,d3,t3⟩:=hf 3 _ rfl;obtain⟨a0,s0,r0,_⟩:=bF (mk:=fun i: {i:Int//(Lit.int .i64 i).wf=true}=>.int .i64 i.1) (eS (by kernel_rfl)) t0;obtain⟨a1,s1,r1,_⟩:=bF (mk:=fun i: {i:Int//(Lit.int .i64 i).wf=true}=>.int .i64 i.1) (eS (by kernel_rfl)) t1;obtain⟨a2,s2,r2,_⟩:=bF (mk:=fun s: {s:Bs//s.length≤9223372036854775807}=>.str s.1) (xC (by kernel_rfl)) t2;obtain⟨a3,s3,r3,_⟩:=bF (mk:=fun l:List {q:Qy//q.mx≤9223372036854775807}=>.sl 4 (l.map fun q=>q.1.av)) (mG (m:=4) (e:=25) (fun q: {q:Qy//q.mx≤9223372036854775807}=>q.1.av) (by kernel_rfl) (by kernel_rfl) (by decide) (fun _=>rfl) (fun⟨⟨o,i,s,l⟩,_⟩=>by rw[Qy.av_eq];rfl) fun k hk=>ih k (by omega)) t3;have hl:=xD r3;rw[L8]at hl;have e3:(a3.map fun q=>q.1.av)=(a3.map (·.1)).map Qy.av:=by rw[W5];rfl
  rw[e3]at r3;have hmx:(Qy.mk a0.1 a1.1 a2.1 (a3.map (·.1))).mx≤9223372036854775807:=by
   rw[Qy.mx,L8];have h1:=a2.2;have h2:=zn (ks:=a3.map (·.1)) (B:=9223372036854775807) fun k hk=>by
    obtain⟨q,_,rfl⟩:=M9.1 hk;exact q.2
   omega
  have hc:(Qy.mk a0.1 a1.1 a2.1 (a3.map (·.1))).av.cells=[.int .i64 a0.1,.int .i64 a1.1,.str a2.1,.sl 4 ((a3.map (·.1)).map Qy.av)]:=by rw[Qy.av_eq];rfl
  refine⟨⟨.mk a0.1 a1.1 a2.1 (a3.map (·.1)),hmx⟩,by show(Qy.mk a0.1 a1.1 a2.1 (a3.map (·.1))).av.cells.length=_;rw[hc,hcl];rfl,fun j c hj=>?_,X1 _⟩
  change (Qy.mk a0.1 a1.1 a2.1 (a3.map (·.1))).av.cells[j]? =some c at hj
  rw[hc]at hj
  match j with
  |0=>simp at hj;subst hj;exact⟨s0,r0⟩
  |1=>simp at hj;subst hj;exact⟨s1,r1⟩
  |2=>simp at hj;subst hj;exact⟨s2,r2⟩
  |3=>
   simp only[U5,V7,N7]at hj;subst hj;exact⟨s3,r3⟩
  |j+4=>simp at hj
theorem qD{v:Value}{d:DataW H}{ps:List MemPlace}(h:DataW.Trod enc Tryz.prog W 0 (fun _=>true) true 25 v d ps):∃q:Qy,q.mx≤9223372036854775807∧Rep W (lies0 W) [] q.av v:=by
 obtain⟨n,hn⟩:=h;obtain⟨⟨q,hq⟩,h1,h2,_⟩:=C7 n _ _ hn
 change q.av.cells.length=_ at h1
 refine⟨q,hq,?_⟩;obtain⟨qo,qn,qs,qk⟩:=q;have hc:(Qy.mk qo qn qs qk).av.cells=[.int .i64 qo,.int .i64 qn,.str qs,.sl 4 (qk.map Qy.av)]:=by rw[Qy.av_eq];rfl
 have hl:v.cells.size=4:=by rw[hc]at h1;simpa using h1.symm
 obtain⟨a,rfl⟩:∃a,v=.agg a:=by
  cases v with
  |agg a=>exact⟨a,rfl⟩
  |_=>simp[Value.cells]at hl
 rw[Qy.av_eq];have:=Rep.agg (w:=W) (S:=lies0 W) (μ:=[]) [.int .i64 qo,.int .i64 qn,.str qs,.sl 4 (qk.map Qy.av)] a.toList (by simpa [Value.cells]using hl) (fun i x hx=>(h2 i x (by show(Qy.mk qo qn qs qk).av.cells[i]? =some x;rw[hc];exact hx)).1)
  (fun i x hx=>by
   have:=(h2 i x (by show(Qy.mk qo qn qs qk).av.cells[i]? =some x;rw[hc];exact hx)).2;simpa [Value.cells]using this)
 simpa using this
theorem o6{v:Value}{d:DataW H}{ps:List MemPlace}{r:Reach}{b0:Nat}(hval:Value.okWide Tryz.prog W r b0 3 v)(h:DataW.Trod enc Tryz.prog W 0 (fun _=>true) true 3 v d ps):∃i:Int,Rep W (lies0 W) [] (.int .i64 i) v:=by
 obtain⟨n,hn⟩:=h;have hcs:v.cells.toList=[v]:=by
  have hu:Tryz.prog.underlying 3=some (.int .i64):=by kernel_rfl
  cases v with
  |agg a=>simp[Value.okWide,hu,Cell.okWide,Cell.ok]at hval
  |_=>rfl
 rw[hcs]at hn;obtain⟨a,_,ra,_⟩:=bF (mk:=fun i: {i:Int//(Lit.int .i64 i).wf=true}=>.int .i64 i.1) (eS (by kernel_rfl)) hn;exact⟨a.1,ra⟩
end
end Go.Av
namespace Go.Av
open Go Go.Proofs Go.RowKit
variable (G:Nat→Option (List AVal))
theorem mR(x:AVal)(h:Heap):Sat (CT G) 266 [x] h (fun r h'=>r=x∧h'=h):=by
 refine Sat.of_extern (fn:=Tryz.f266) (ex:=Extern.AbiNoEscape.same) Tryz.func266 (by kernel_rfl) (by kernel_rfl) (by kernel_rfl) (by kernel_rfl) fun B S μ w vs f r=>?_
 obtain⟨hl,hr⟩:=r
 match vs,hl,hr with
 | [v],_,hr=>
  refine⟨v,w,Lib.run_noEscape w v,x,h,S,μ,⟨rfl,rfl⟩,Step.refl _ _ _ _,f,?_⟩;simpa using hr 0 x rfl
end Go.Av
namespace Go.Proofs
open Go.Shelf
def Tryz.lays145_ren:Go.Shelf.Ren:=⟨fun|145=>260|220=>269|219=>272|217=>276|225=>277|224=>278|267=>279|266=>288|314=>289|n=>n,fun|9=>9|4=>4|59=>263|3=>3|5=>5|46=>164|146=>283|51=>198|n=>n,fun|1=>0|n=>n⟩
theorem Tryz.lays145:Go.Proofs.Lays.n145 Tryz.prog Tryz.lays145_ren:= {
 mixed:=by kernel_rfl
 f145:=Tryz.func260.trans (P0 some (by kernel_rfl))
 f217:=Tryz.func276.trans (P0 some (by kernel_rfl))
 f219:=Tryz.func272.trans (P0 some (by kernel_rfl))
 f220:=Tryz.func269.trans (P0 some (by kernel_rfl))
 f224:=Tryz.func278.trans (P0 some (by kernel_rfl))
 f225:=Tryz.func277.trans (P0 some (by kernel_rfl))
 f266:=Tryz.func288.trans (P0 some (by kernel_rfl))
 f267:=Tryz.func279.trans (P0 some (by kernel_rfl))
 f314:=Tryz.func289.trans (P0 some (by kernel_rfl))
 t3:=Tryz.underlying3
 a3:=Tryz.isAgg3
 z3:=Tryz.sizeOf3
 v3:=Tryz.zeroValue3
 t4:=Tryz.underlying4
 a4:=Tryz.isAgg4
 z4:=Tryz.sizeOf4
 v4:=Tryz.zeroValue4
 t5:=Tryz.underlying5
 a5:=Tryz.isAgg5
 z5:=Tryz.sizeOf5
 v5:=Tryz.zeroValue5
 t9:=Tryz.underlying9
 a9:=Tryz.isAgg9
 z9:=Tryz.sizeOf9
 v9:=Tryz.zeroValue9
 t46:=Tryz.underlying164
 a46:=Tryz.isAgg164
 z46:=Tryz.sizeOf164
 v46:=Tryz.zeroValue164
 t51:=Tryz.underlying198
 a51:=Tryz.isAgg198
 z51:=Tryz.sizeOf198
 v51:=Tryz.zeroValue198
 t59:=Tryz.underlying263
 a59:=Tryz.isAgg263
 z59:=Tryz.sizeOf263
 v59:=Tryz.zeroValue263
 t146:=Tryz.underlying283
 a146:=Tryz.isAgg283
 z146:=Tryz.sizeOf283
 v146:=Tryz.zeroValue283
 g1:=by kernel_rfl}
open Go.RowKit Go.Lib in
theorem Tryz.strings_Cut(s sep:ByteArray)(m:Int)(w:World)(hs:s.size<4294967281)(hm:w.cell? ⟨0,0,none⟩=some (.int .i64 m)):
  Calls Tryz.prog 260 #[.string s,.string sep] w fun e w'=>e=.returned (.tuple #[.string ⟨(Lib.cut s.data.toList sep.data.toList).1.toArray⟩,.string ⟨(Lib.cut s.data.toList sep.data.toList).2.1.toArray⟩,.bool (Lib.cut s.data.toList sep.data.toList).2.2])∧∃n,w'=w.drewN n:=Any.strings_Cut Tryz.lays145 s sep m w hs hm
def Tryz.lays99_ren:Go.Shelf.Ren:=⟨fun|99=>127|206=>177|n=>n,fun|9=>9|4=>4|3=>3|n=>n,fun|n=>n⟩
theorem Tryz.lays99:Go.Proofs.Lays.n99 Tryz.prog Tryz.lays99_ren:= {
 mixed:=by kernel_rfl
 f99:=Tryz.func127.trans (P0 some (by kernel_rfl))
 f206:=Tryz.func177.trans (P0 some (by kernel_rfl))
 t3:=Tryz.underlying3
 a3:=Tryz.isAgg3
 z3:=Tryz.sizeOf3
 v3:=Tryz.zeroValue3
 t4:=Tryz.underlying4
 a4:=Tryz.isAgg4
 z4:=Tryz.sizeOf4
 v4:=Tryz.zeroValue4
 t9:=Tryz.underlying9
 a9:=Tryz.isAgg9
 z9:=Tryz.sizeOf9
 v9:=Tryz.zeroValue9}
open Go.RowKit Go.Lib in
theorem Tryz.strings_HasPrefix(s p:ByteArray)(w:World):
  Calls Tryz.prog 127 #[.string s,.string p] w fun e w'=>e=.returned (.bool (Lib.hasPrefix s.data.toList p.data.toList))∧w'=w:=Any.strings_HasPrefix Tryz.lays99 s p w
def Tryz.lays229_ren:Go.Shelf.Ren:=⟨fun|229=>212|n=>n,fun|9=>9|40=>208|31=>47|152=>244|3=>3|0=>0|4=>4|21=>21|154=>246|n=>n,fun|n=>n⟩
theorem Tryz.lays229:Go.Proofs.Lays.n229 Tryz.prog Tryz.lays229_ren:= {
 mixed:=by kernel_rfl
 f229:=Tryz.func212.trans (P0 some (by kernel_rfl))
 t0:=Tryz.underlying0
 a0:=Tryz.isAgg0
 z0:=Tryz.sizeOf0
 v0:=Tryz.zeroValue0
 t3:=Tryz.underlying3
 a3:=Tryz.isAgg3
 z3:=Tryz.sizeOf3
 v3:=Tryz.zeroValue3
 t4:=Tryz.underlying4
 a4:=Tryz.isAgg4
 z4:=Tryz.sizeOf4
 v4:=Tryz.zeroValue4
 t9:=Tryz.underlying9
 a9:=Tryz.isAgg9
 z9:=Tryz.sizeOf9
 v9:=Tryz.zeroValue9
 t21:=Tryz.underlying21
 a21:=Tryz.isAgg21
 z21:=Tryz.sizeOf21
 v21:=Tryz.zeroValue21
 t31:=Tryz.underlying47
 a31:=Tryz.isAgg47
 z31:=Tryz.sizeOf47
 v31:=Tryz.zeroValue47
 t40:=Tryz.underlying208
 a40:=Tryz.isAgg208
 z40:=Tryz.sizeOf208
 v40:=Tryz.zeroValue208
 t152:=Tryz.underlying244
 a152:=Tryz.isAgg244
 z152:=Tryz.sizeOf244
 v152:=Tryz.zeroValue244
 t154:=Tryz.underlying246
 a154:=Tryz.isAgg246
 z154:=Tryz.sizeOf246
 v154:=Tryz.zeroValue246}
open Go.RowKit Go.Lib in
theorem Tryz.strings_FieldsFunc(g:Nat)(lb:Array Value)(eg:∀args w,(callFunc g args).run Tryz.prog w=.ok (.enter g args) w)(p:Nat→Bool)(s:ByteArray)(w:World)(hs:s.size≤4294967296)(hp:PredAt Tryz.prog g lb encR p w):
  Calls Tryz.prog 212 #[.string s,.func (.func g) #[] lb] w fun e w'=>∃A,e=.returned (.slice (some ⟨A,0,none⟩) (Lib.goFieldsP p s).length (Lib.goFieldsP p s).length)∧w.heap.size≤A∧
   w'.ownsRow w.heap.size 9 1 (.slice (some ⟨A,0,none⟩) (Lib.goFieldsP p s).length (Lib.goFieldsP p s).length) (Lib.goFieldsP p s).length ((Lib.goFieldsP p s).map Value.string)∧Below w.heap.size w w':=Any.strings_FieldsFunc Tryz.lays229 g lb eg p s w hs hp (by kernel_rfl) (by kernel_rfl)
def Tryz.laysNm224_ren:Go.Shelf.Ren:=⟨fun|24=>102|n=>n,fun|24=>47|9=>9|3=>3|4=>4|0=>0|n=>n,fun|n=>n⟩
theorem Tryz.laysNm224:Go.Proofs.Lays2.n24 Tryz.prog Tryz.laysNm224_ren:= {
 mixed:=by kernel_rfl
 f24:=Tryz.func102.trans (P0 some (by kernel_rfl))
 t0:=Tryz.underlying0
 a0:=Tryz.isAgg0
 z0:=Tryz.sizeOf0
 v0:=Tryz.zeroValue0
 t3:=Tryz.underlying3
 a3:=Tryz.isAgg3
 z3:=Tryz.sizeOf3
 v3:=Tryz.zeroValue3
 t4:=Tryz.underlying4
 a4:=Tryz.isAgg4
 z4:=Tryz.sizeOf4
 v4:=Tryz.zeroValue4
 t9:=Tryz.underlying9
 a9:=Tryz.isAgg9
 z9:=Tryz.sizeOf9
 v9:=Tryz.zeroValue9
 t24:=Tryz.underlying47
 a24:=Tryz.isAgg47
 z24:=Tryz.sizeOf47
 v24:=Tryz.zeroValue47
 i9:=by kernel_rfl}
open Go.RowKit Go.Lib Go.Sort in
theorem Tryz.slices_Delete_string(blk off cap i j:Nat)(zs:List (List UInt8))(w:World)(hH:Holds encStr w blk off zs.toArray)(hcap:zs.length≤cap)(hm:cap≤9223372036854775807)(hij:i≤j)(hj:j≤zs.length):
  Calls Tryz.prog 102 #[.slice (some ⟨blk,off,none⟩) zs.length cap,.int .i64 i,.int .i64 j] w fun e w'=>e=.returned (.slice (some ⟨blk,off,none⟩) (zs.length-(j-i)) cap)∧∃q,w'=putRow encStr (Sort.ahead w q) blk off (zs.take i++zs.drop j++List.replicate (j-i) []).toArray:=Any.slices_Delete_string Tryz.laysNm224 blk off cap i j zs w hH hcap hm hij hj
end Go.Proofs
namespace Go.Av
open Go Go.Proofs Go.RowKit
variable (G:Nat→Option (List AVal))
theorem qE{w w':World}(e:w'=w):Below w.heap.size w w':=by rw[e];exact X6 _ _
theorem o7(w:World)(n:Nat):Below w.heap.size w (w.drewN n):=by
 induction n with
 |zero=>exact X6 _ _
 |succ n ih=>exact ih.trans (Below.drew (X6 _ _))
end Go.Av
namespace Go.Av
open Go Go.Proofs Go.RowKit
variable (G:Nat→Option (List AVal))
def GOk:Prop:=∃m,G 0=some [.int .i64 m]
theorem xE(s:Bs):(⟨s.toArray⟩:ByteArray).size=s.length:=by simp[ByteArray.size]
variable {G}
theorem GOk.cell(hG:GOk G){B:Nat}{S:Addr→Prop}{μ:Map}{h:Heap}{w:World}(f:Fits (CT G) B S μ h w):∃m,w.cell? ⟨0,0,none⟩=some (.int .i64 m):=by
 obtain⟨m,hm⟩:=hG;have r:=f.glob _ _ hm;cases r with
 |ad cs b o vs hne hc hr=>
  have h1:=(hc 0 _ rfl).2.1;have h2:=hr 0 _ rfl;refine⟨m,?_⟩;generalize vs 0=u at h1 h2;cases h2;exact h1
variable (G)
theorem o8{w w':World}(h:∃n,w'=w.drewN n):Below w.heap.size w w':=by obtain⟨n,rfl⟩:=h;exact o7 w n
theorem xF(hG:GOk G)(s p:Bs)(hs:s.length≤1073741824)(h:Heap):
  Sat (CT G) 260 [.str s,.str p] h (fun r h'=>r=.tup [.str (Lib.cut s p).1,.str (Lib.cut s p).2.1,.bool (Lib.cut s p).2.2]∧h'=h):=by
 refine Sat.of_calls (fn:=Tryz.f260) Tryz.func260 (by kernel_rfl) (by kernel_rfl) rfl rfl fun B S μ w f=>?_
 obtain⟨m,hm⟩:=hG.cell f;refine(Tryz.strings_Cut ⟨s.toArray⟩ ⟨p.toArray⟩ m w (by rw[xE];omega) hm).mono fun e w' ⟨h1,h2⟩=>⟨h1,o8 h2⟩
theorem gL(s p:Bs)(h:Heap):
  Sat (CT G) 127 [.str s,.str p] h (fun r h'=>r=.bool (Lib.hasPrefix s p)∧h'=h):=by
 refine Sat.of_calls (fn:=Tryz.f127) Tryz.func127 (by kernel_rfl) (by kernel_rfl) rfl rfl fun B S μ w f=>?_
 refine(Tryz.strings_HasPrefix ⟨s.toArray⟩ ⟨p.toArray⟩ w).mono fun e w' ⟨h1,h2⟩=>⟨h1,qE h2⟩
end Go.Av
namespace Go.Av
open Go.RowKit
section
variable (C:Ctx)
def loadX(T:TypeId)(x:AVal)(h:Heap):Option AVal:=match x with
 | .ad cs=>pickT C.P T cs
 | .hp p ver i off=>match getRow h p ver with
  |some (_,_,rows)=>match rows[i]? with
   |some r=>pickT C.P T (r.cells.drop off)
   |none=>none
  |none=>none
 |_=>none
def nilX(x:AVal)(h:Heap):Option AVal:=match x with
 | .hp p ver i off=>if (getRow h p ver).isSome=true then some (.hp p ver i off)else none
 | .ad cs=>some (.ad cs)
 | .fn (.func f) a b=>some (.fn (.func f) a b)
 | .ifc T v=>some (.ifc T v)
 |_=>none
def binX(h:Heap)(op:BinOp)(T:TypeId)(x y:AVal):Option AVal:=match x,y with
 | .sl _ [],.nil (.slice none 0 0)=>none
 |x,y=>abin C.P h op T x y
def convX(src dst:TypeId)(x:AVal)(h:Heap):Option AVal:=match x with
 | .hp p ver 0 0=>match getRow h p ver with
  |some (e,n,rows)=>match rows with
   | []=>none
   |_::_=>if ptrConv C.P src dst e n=true then some (.hp p ver 0 0)else none
  |none=>none
 | .hs p v o l r=>if bytesStr C.P src dst=true then match elemsOf h 1 (.hs p v o l r)with
  |some ys=>match bytesA ys with|some bs=>some (.str bs)|none=>none
  |none=>none else none
 | .int k n=>aconv C.P src dst (.int k n)
 | .str s=>aconv C.P src dst (.str s)
 |_=>none
def fieldAX(T:TypeId)(f:Nat)(x:AVal)(h:Heap):Option AVal:=match fOff C.P T f with
 |some (o,_,n)=>if n=0 then none else match x with
  | .hp p ver i off=>if (getRow h p ver).isSome=true then some (.hp p ver i (off+o))else none
  | .ad cs=>if o<cs.length then some (.ad (cs.drop o))else none
  |_=>none
 |none=>none
def fieldX(T:TypeId)(f:Nat)(x:AVal):Option AVal:=match fOff C.P T f with
 |some (o,fT,_)=>match x with
  | .agg cs=>pickT C.P fT (cs.drop o)
  |_=>none
 |none=>none
def indexAX(T:TypeId)(x i:AVal)(h:Heap):Option AVal:=match i with
 | .int _ n=>if 0≤n then match x with
  | .sl m es=>match elmT C.P T with
   |some e=>if szOf C.P e=some m∧0<m then match es[n.toNat]? with
    |some r=>some (.ad r.cells)
    |none=>none else none
   |none=>none
  | .hs p ver off len _=>match elmT C.P T,getRow h p ver with
   |some e,some (_,m,_)=>if szOf C.P e=some m∧n<len then some (.hp p ver (off+n.toNat) 0)else none
   |_,_=>none
  | .hp p ver j off=>match arrT C.P T with
   |some (k,e)=>match szOf C.P e with
    |some m=>if (getRow h p ver).isSome=true∧n<k then some (.hp p ver j (off+n.toNat*m))else none
    |none=>none
   |none=>none
  | .ad cs=>match arrT C.P T with
   |some (k,e)=>match szOf C.P e with
    |some m=>if n<k∧n.toNat*m<cs.length then some (.ad (cs.drop (n.toNat*m)))else none
    |none=>none
   |none=>none
  |_=>none else none
 |_=>none
def indexX(T:TypeId)(x i:AVal):Option AVal:=match i with
 | .int _ n=>if 0≤n then match x with
  | .str s=>if strT C.P T=true then match s[n.toNat]? with
   |some b=>some (.int .u8 b.toNat)
   |none=>none else none
  | .agg cs=>match arrT C.P T with
   |some (k,e)=>match szOf C.P e with
    |some m=>if n<k then pickT C.P e (cs.drop (n.toNat*m))else none
    |none=>none
   |none=>none
  |_=>none else none
 |_=>none
def buildX(T:TypeId)(parts:List (Nat×AVal)):Option AVal:=match zroT C.P T with
 |some z=>if z.cells.all AVal.sto=true then match nFld C.P T with
  |some _=>match fillA (fun i=>(fOff C.P T i).map fun q=>(q.1,q.2.2)) z.cells parts with
   |some cs=>some (.agg cs)
   |none=>none
  |none=>match arrT C.P T with
   |some (_,e)=>match szOf C.P e with
    |some n=>match fillA (fun i=>some (i*n,n)) z.cells parts with
     |some cs=>some (.agg cs)
     |none=>none
    |none=>none
   |none=>none else none
 |none=>none
def callPX(c:Call)(ρ:Operand→AVal)(h:Heap):Option AVal:=match c.callee with
 | .builtin .len=>match c.args.toList,c.argTypes.toList with
  | [x],[T]=>match alen C.P h T (ρ x)with|some n=>some (.int .i64 n)|none=>none
  |_,_=>none
 | .builtin .max=>match c.args.toList with
  | [x,y]=>match ρ x,ρ y with| .int kd a,.int _ b=>some (.int kd (if b>a then b else a))|_,_=>none
  |_=>none
 | .builtin .min=>match c.args.toList with
  | [x,y]=>match ρ x,ρ y with| .int kd a,.int _ b=>some (.int kd (if b<a then b else a))|_,_=>none
  |_=>none
 | .builtin .unsafeSliceData=>match c.args.toList with
  | [x]=>match ρ x with
   | .hs p ver 0 len true=>if (getRow h p ver).isSome=true then(if 0<len then some (.hp p ver 0 0)else some .pa)else none
   | .nil (.slice none 0 0)=>some .pa
   |_=>none
  |_=>none
 |_=>none
def pureX(o:Op)(t:Env)(h:Heap):Option AVal:=
 let ρ:=aev C.G t
 match o with
 | .move x=>some (ρ x)
 | .assign x=>some (ρ x)
 | .pick c a b=>match ρ c with| .bool true=>some (ρ a)| .bool false=>some (ρ b)|_=>none
 | .load T x=>loadX C T (ρ x) h
 | .nilCheck x=>nilX (ρ x) h
 | .binOp op T x y _=>binX C h op T (ρ x) (ρ y)
 | .unOp op _ x=>aun op (ρ x)
 | .convert s d x=>convX C s d (ρ x) h
 | .makeInterface T x=>if ifcT C.P T=some false then some (.ifc T (ρ x))else none
 | .makeFunc f first captured=>some (.fn f (first.toList.map ρ) (captured.toList.map ρ))
 | .slice T x lo hi mx=>aslice C.P h T (ρ x) (lo.map ρ) (hi.map ρ) (mx.map ρ)
 | .fieldAddr T x f=>fieldAX C T f (ρ x) h
 | .field T x f=>fieldX C T f (ρ x)
 | .indexAddr T x i=>indexAX C T (ρ x) (ρ i) h
 | .index T x i=>indexX C T (ρ x) (ρ i)
 | .extract x i=>match ρ x with| .tup vs=>vs[i]? |_=>none
 | .build T parts=>buildX C T (parts.toList.map fun q=>(q.1,ρ q.2))
 | .call c=>callPX C c ρ h
 |_=>none
variable {C} {t:Env} {h:Heap}
theorem aA{α:Type}{x:Option α}{a:α}{f:α→Prop}(e:x=some a)(h:f a):need x f:=by rw[e];exact h
theorem vr{T:TypeId}{x v:AVal}(g:loadX C T x h=some v){k:AVal→Prop}(hk:k v):loadK C T x h k:=by
 unfold loadX at g;unfold loadK;split at g
 ·exact aA g hk
 ·split at g
  ·rename_i hq;split at g
   ·rename_i hr;exact aA hq (aA hr (aA g hk))
   ·cases g
  ·cases g
 ·cases g
theorem xG{op:BinOp}{T:TypeId}{x y v:AVal}(g:binX C h op T x y=some v){k:AVal→Prop}(hk:k v):binK C.P h op T x y k:=by
 unfold binX at g;split at g
 ·cases g
 ·rename_i hne;rw[cO fun n e1 e2=>hne n e1 e2];exact aA g hk
theorem vt{s d:TypeId}{x v:AVal}(g:convX C s d x h=some v){k:AVal→Prop}(hk:k v):convK C.P s d x h k:=by
 unfold convX at g;split at g
 ·split at g
  ·rename_i hq;split at g
   ·cases g
   ·split at g
    ·rename_i hp;cases g;exact aA hq ⟨hp,by simp,hk⟩
    ·cases g
  ·cases g
 ·split at g
  ·rename_i hb;split at g
   ·rename_i hy;split at g
    ·rename_i hz;cases g;exact⟨hb,aA hy (aA hz hk)⟩
    ·cases g
   ·cases g
  ·cases g
 ·exact aA g hk
 ·exact aA g hk
 ·cases g
theorem mS{o:Op}{v:AVal}(g:pureX C o t h=some v){K:AVal→Heap→Prop}(hk:K v h):wpOp C o t h K:=by
 cases o with
 |move x=>simp only[pureX,N7]at g;subst g;exact hk
 |assign x=>simp only[pureX,N7]at g;subst g;exact hk
 |pick c a b=>
  simp only[pureX]at g;unfold wpOp;simp only[];split at g
  ·rename_i e;cases g;rw[e];exact And.intro (fun _=>hk) (fun e=>Bool.noConfusion e)
  ·rename_i e;cases g;rw[e];exact And.intro (fun e=>Bool.noConfusion e) (fun _=>hk)
  ·cases g
 |load T x=>
  have:=vr (k:=fun v=>K v h) g hk;unfold loadK at this;unfold wpOp;simp only[];exact this
 |nilCheck x=>
  simp only[pureX,nilX]at g;unfold wpOp;simp only[];split at g
  ·rename_i e;rw[e];split at g
   ·rename_i e2;cases g;exact⟨e2,hk⟩
   ·cases g
  ·rename_i e;rw[e];cases g;exact hk
  ·rename_i e;rw[e];cases g;exact hk
  ·rename_i e;rw[e];cases g;exact hk
  ·cases g
 |binOp op T x y _=>exact xG (k:=fun v=>K v h) g hk
 |unOp op _ x=>exact aA g hk
 |convert s d x=>exact vt (k:=fun v=>K v h) g hk
 |makeInterface T x=>
  simp only[pureX]at g;split at g
  ·rename_i e;cases g;exact⟨e,hk⟩
  ·cases g
 |makeFunc f a b=>simp only[pureX,N7]at g;subst g;exact hk
 |slice T x lo hi mx=>exact aA g hk
 |fieldAddr T x f=>
  simp only[pureX,fieldAX]at g;unfold wpOp;simp only[];split at g
  ·rename_i e;split at g
   ·cases g
   ·rename_i hn;refine aA e ⟨hn,?_⟩;split at g
    ·rename_i e;rw[e];split at g
     ·rename_i e2;cases g;exact⟨e2,hk⟩
     ·cases g
    ·rename_i e;rw[e];split at g
     ·rename_i e2;cases g;exact⟨e2,hk⟩
     ·cases g
    ·cases g
  ·cases g
 |field T x f=>
  simp only[pureX,fieldX]at g;unfold wpOp;simp only[];split at g
  ·rename_i e;refine aA e ?_;split at g
   ·rename_i e;rw[e];exact aA g hk
   ·cases g
  ·cases g
 |indexAddr T x i=>
  simp only[pureX,indexAX]at g;unfold wpOp;simp only[];split at g
  ·rename_i ei;rw[ei];simp only[];split at g
   ·rename_i h0;split at g
    ·rename_i e;rw[e];simp only[];split at g
     ·rename_i he;split at g
      ·rename_i hs;split at g
       ·rename_i hr;cases g;exact aA he ⟨hs.1,h0,hs.2,aA hr hk⟩
       ·cases g
      ·cases g
     ·cases g
    ·rename_i e;rw[e];simp only[];split at g
     ·rename_i he hr;split at g
      ·rename_i hs;cases g;exact aA he (aA hr ⟨hs.1,h0,hs.2,hk⟩)
      ·cases g
     ·cases g
    ·rename_i e;rw[e];simp only[];split at g
     ·rename_i he;split at g
      ·rename_i hs;split at g
       ·rename_i hc;cases g;exact aA he (aA hs ⟨hc.1,h0,hc.2,hk⟩)
       ·cases g
      ·cases g
     ·cases g
    ·rename_i e;rw[e];simp only[];split at g
     ·rename_i he;split at g
      ·rename_i hs;split at g
       ·rename_i hc;cases g;exact aA he (aA hs ⟨h0,hc.1,hc.2,hk⟩)
       ·cases g
      ·cases g
     ·cases g
    ·cases g
   ·cases g
  ·cases g
 |index T x i=>
  simp only[pureX,indexX]at g;unfold wpOp;simp only[];split at g
  ·rename_i ei;rw[ei];simp only[];split at g
   ·rename_i h0;split at g
    ·rename_i e;rw[e];simp only[];split at g
     ·rename_i he;split at g
      ·rename_i hr;cases g;exact⟨he,h0,aA hr hk⟩
      ·cases g
     ·cases g
    ·rename_i e;rw[e];simp only[];split at g
     ·rename_i he;split at g
      ·rename_i hs;split at g
       ·rename_i hc;exact aA he (aA hs ⟨h0,hc,aA g hk⟩)
       ·cases g
      ·cases g
     ·cases g
    ·cases g
   ·cases g
  ·cases g
 |extract x i=>
  simp only[pureX]at g;unfold wpOp;simp only[];split at g
  ·rename_i e;rw[e];exact aA g hk
  ·cases g
 |build T parts=>
  simp only[pureX,buildX]at g;unfold wpOp;simp only[];split at g
  ·rename_i hz;split at g
   ·rename_i ha;refine aA hz ⟨ha,?_⟩;split at g
    ·rename_i hn;rw[hn];simp only[];split at g
     ·rename_i hf;cases g;exact aA hf hk
     ·cases g
    ·rename_i hn;rw[hn];split at g
     ·rename_i hr;rw[hr];simp only[];split at g
      ·rename_i hs;split at g
       ·rename_i hf;cases g;exact aA hs (aA hf hk)
       ·cases g
      ·cases g
     ·cases g
   ·cases g
  ·cases g
 |call c=>
  simp only[pureX,callPX]at g;unfold wpOp;simp only[];unfold wpCall;simp only[];split at g
  ·rename_i hc;rw[hc];simp only[];split at g
   ·rename_i h1 h2;rw[h1,h2];simp only[];split at g
    ·rename_i hn;cases g;exact aA hn hk
    ·cases g
   ·cases g
  ·rename_i hc;rw[hc];simp only[];split at g
   ·rename_i h1;rw[h1];simp only[];split at g
    ·rename_i e1 e2;cases g;rw[e1,e2];unfold maxK;simp only[M1];exact hk
    ·cases g
   ·cases g
  ·rename_i hc;rw[hc];simp only[];split at g
   ·rename_i h1;rw[h1];simp only[];split at g
    ·rename_i e1 e2;cases g;rw[e1,e2];unfold maxK;simp only[M1];exact hk
    ·cases g
   ·cases g
  ·rename_i hc;rw[hc];simp only[];split at g
   ·rename_i h1;rw[h1];simp only[];split at g
    ·rename_i e1;rw[e1];unfold sdataK;simp only[];split at g
     ·rename_i hs;refine⟨hs,?_⟩;split at g
      ·rename_i hl;cases g;rw[M0 hl];exact hk
      ·rename_i hl;cases g;rw[L5 hl];exact hk
     ·cases g
    ·rename_i e1;rw[e1];cases g;exact hk
    ·cases g
   ·cases g
  ·cases g
 |_=>cases g
end
abbrev CallX:=FuncId→List AVal→Heap→Option (AVal×Heap)
section
variable (C:Ctx)
def roomyB(n bytes:Nat):Bool:=decide (n≤maxLen)&&decide (n*bytes≤140737488355328)
def appX(T:TypeId)(x y:AVal)(h:Heap):Option (AVal×Heap):=match elmT C.P T with
 |none=>none
 |some e=>match szOf C.P e with
  |none=>none
  |some n=>match byT C.P e with
   |none=>none
   |some by'=>match elemsOf h n y with
    |none=>none
    |some ys=>if 0<n∧(zroT C.P e).map (fun z=>z.cells.length)=some n then match x with
     | .nil (.slice none 0 0)=>if roomyB ys.length by'=true then some (.hs h.length 0 0 ys.length true,h++[.row e n 0 ys])else none
     | .hs p ver off len room=>match getRow h p ver with
      |some (e',m,rows)=>if e'=e∧m=n∧off=0∧roomyB (len+ys.length) by'=true then
        (if room=true then(if len=rows.length then some (.hs p (ver+1) 0 (len+ys.length) true,h.set p (.row e n (ver+1) (rows++ys)))else none)
        else(if 0<ys.length∧len≤rows.length then some (.hs h.length 0 0 (len+ys.length) true,h++[.row e n 0 (rows.take len++ys)])else none))else none
      |none=>none
     | .ez=>if ys=[]then some (.ez,h)else if roomyB ys.length by'=true then some (.hs h.length 0 0 ys.length true,h++[.row e n 0 ys])else none
     |_=>none else none
def ustrX(T:TypeId)(x n:AVal)(h:Heap):Option (AVal×Heap):=match n with
 | .int .i64 m=>if m=0 then(match x with| .pa=>some (.str [],h)|_=>none)
  else match x with
   | .hp p ver 0 0=>match getRow h p ver with
    |some (e,k,rows)=>if k=1∧bptr C.P T e=true∧0<m∧m.toNat≤rows.length then match bytesA (rows.take m.toNat)with
     |some bs=>some (.str bs,h.set p .dead)
     |none=>none else none
    |none=>none
   |_=>none
 |_=>none
def rowsX(T len:Nat)(idx:List Nat)(xs:List AVal)(h:Heap):Option (AVal×Heap):=match elmT C.P T with
 |none=>none
 |some e=>match szOf C.P e with
  |none=>none
  |some n=>if len=0 then(if idx.length=0 then some (.ez,h)else none)
   else if idx.length=len∧0<n∧len*n≤16777216∧idx=List.range len∧(zroT C.P e).map (fun z=>(z.cells.length,z.cells.all AVal.sto))=some (n,true)∧
    xs.all (fun x=>decide (x.cells.length=n)&&x.lies)=true then some (.hs h.length 0 0 len true,h++[.row e n 0 xs])else none
def storeX(T:TypeId)(x y:AVal)(h:Heap):Option (AVal×Heap):=match x with
 | .hp p ver i off=>match getRow h p ver with
  |some (e,n,rows)=>match rows[i]? with
   |some r=>if szOf C.P T=some y.cells.length∧y.lies=true∧off+y.cells.length≤n then some (undefA,h.set p (.row e n ver (rows.set i (putA r off y.cells))))else none
   |none=>none
  |none=>none
 |_=>none
def nextX(x:AVal)(isS:Bool)(h:Heap):Option (AVal×Heap):=match x with
 | .hp p 0 0 0=>if isS=true then match h[p]? with
  |some (.iter s pos)=>if pos<s.length then some (.tup [.bool true,.int .i64 pos,.int .i32 (Utf8.decode ⟨s.toArray⟩ pos).1],h.set p (.iter s (pos+(Utf8.decode ⟨s.toArray⟩ pos).2)))else some (.tup [.bool false],h)
  |_=>none else none
 |_=>none
def opX(call:CallX)(o:Op)(t:Env)(h:Heap):Option (AVal×Heap):=
 match pureX C o t h with
 |some v=>some (v,h)
 |none=>
 let ρ:=aev C.G t
 match o with
 | .alloc e=>match zroT C.P e with
  |some z=>if 0<z.cells.length∧z.cells.all AVal.sto=true∧z.lies=true then some (.hp h.length 0 0 0,h++[.row e z.cells.length 0 [z]])else none
  |none=>none
 | .box e x=>if 0<(ρ x).cells.length∧(ρ x).lies=true then some (.hp h.length 0 0 0,h++[.row e (ρ x).cells.length 0 [ρ x]])else none
 | .buildSlice T len parts=>rowsX C T len (parts.toList.map (·.1)) (parts.toList.map fun q=>ρ q.2) h
 | .store T x y=>storeX C T (ρ x) (ρ y) h
 | .range T x=>match ρ x with
  | .str s=>if strT C.P T=true then some (.hp h.length 0 0 0,h++[.iter s 0])else none
  |_=>none
 | .next x b=>nextX (ρ x) b h
 | .call c=>match c.callee with
  | .builtin .append=>match c.args.toList,c.argTypes.toList with
   | [x,y],[T,T']=>if T'=T∨strT C.P T'=true then appX C T (ρ x) (ρ y) h else none
   |_,_=>none
  | .builtin .unsafeString=>match c.args.toList,c.argTypes.toList with
   | [x,n],[T,_]=>ustrX C T (ρ x) (ρ n) h
   |_,_=>none
  | .value f=>match ρ f with
   | .fn (.func g) first captured=>call g (first++c.args.toList.map ρ++captured) h
   |_=>none
  |_=>none
 |_=>none
variable {C} {t:Env} {h h':Heap} {call:CallX}
theorem i6{n b:Nat}(g:roomyB n b=true):roomy n b:=by
 simpa [roomyB,roomy]using g
theorem xH{T:TypeId}{x y v:AVal}(g:appX C T x y h=some (v,h')){K:AVal→Heap→Prop}(hk:K v h'):wpAppend C.P T x y h K:=by
 unfold appX at g;unfold wpAppend;split at g
 ·cases g
 ·rename_i e he;refine aA he ?_;split at g
  ·cases g
  ·rename_i n hn;refine aA hn ?_;split at g
   ·cases g
   ·rename_i b hb;refine aA hb ?_;split at g
    ·cases g
    ·rename_i ys hy;refine aA hy ?_;split at g
     ·rename_i hc;refine⟨hc.1,hc.2,?_⟩;split at g
      ·simp only[];split at g
       ·rename_i hr;cases g;exact⟨i6 hr,hk⟩
       ·cases g
      ·simp only[];split at g
       ·rename_i hq;refine aA hq ?_;split at g
        ·rename_i hs;refine⟨hs.1,hs.2.1,hs.2.2.1,i6 hs.2.2.2,?_⟩;split at g
         ·rename_i hr;rw[M0 hr];split at g
          ·rename_i hl;cases g;exact⟨hl,hk⟩
          ·cases g
         ·rename_i hr;rw[L5 hr];split at g
          ·rename_i hl;cases g;exact⟨hl.1,hl.2,hk⟩
          ·cases g
        ·cases g
       ·cases g
      ·simp only[];split at g
       ·rename_i hz;rw[M0 hz];cases g;exact hk
       ·rename_i hz;rw[L5 hz];split at g
        ·rename_i hr;cases g;exact⟨i6 hr,hk⟩
        ·cases g
      ·cases g
     ·cases g
theorem vu{T:TypeId}{x y v:AVal}(g:ustrX C T x y h=some (v,h')){K:AVal→Heap→Prop}(hk:K v h'):ustrK C.P T x y h K:=by
 unfold ustrX at g;unfold ustrK;split at g
 ·simp only[];split at g
  ·rename_i hm;rw[M0 hm];split at g
   ·cases g;exact hk
   ·cases g
  ·rename_i hm;rw[L5 hm];split at g
   ·simp only[];split at g
    ·rename_i hq;refine aA hq ?_;split at g
     ·rename_i hs;split at g
      ·rename_i hb;cases g;exact⟨hs.1,hs.2.1,hs.2.2.1,hs.2.2.2,aA hb hk⟩
      ·cases g
     ·cases g
    ·cases g
   ·cases g
 ·cases g
theorem jQ(hcall:∀f args h r h',call f args h=some (r,h')→Sat C f args h fun r2 h2=>r2=r∧h2=h'){o:Op}{v:AVal}(g:opX C call o t h=some (v,h')){K:AVal→Heap→Prop}(hk:K v h'):wpOp C o t h K:=by
 unfold opX at g;split at g
 ·rename_i hp;cases g;exact mS hp hk
 ·rename_i hp;clear hp;cases o with
  |alloc e=>
   simp only[]at g;unfold wpOp;simp only[];split at g
   ·rename_i hz;split at g
    ·rename_i hs;cases g;exact aA hz ⟨hs.1,hs.2.1,hs.2.2,hk⟩
    ·cases g
   ·cases g
  |box e x=>
   simp only[]at g;unfold wpOp;simp only[];split at g
   ·rename_i hs;cases g;exact⟨hs.1,hs.2,hk⟩
   ·cases g
  |buildSlice T len parts=>
   simp only[rowsX]at g;unfold wpOp;simp only[];split at g
   ·cases g
   ·rename_i he;refine aA he ?_;split at g
    ·cases g
    ·rename_i hn;refine aA hn ?_;split at g
     ·rename_i h0;rw[M0 h0];split at g
      ·rename_i hp;cases g;exact⟨by simpa using hp,hk⟩
      ·cases g
     ·rename_i h0;rw[L5 h0];split at g
      ·rename_i hs;cases g;obtain⟨s1,s2,s3,s4,s5,s6⟩:=hs;refine⟨by simpa using s1,by omega,s2,s3,s4,s5,fun x hx=>?_,.inl hk⟩;simpa using O9.1 s6 x hx
      ·cases g
  |store T x y=>
   simp only[storeX]at g;unfold wpOp;simp only[];split at g
   ·rename_i e;rw[e];simp only[];split at g
    ·rename_i hq;refine aA hq ?_;split at g
     ·rename_i hr;refine aA hr ?_;split at g
      ·rename_i hs;cases g;exact⟨hs.1,hs.2.1,hs.2.2,hk⟩
      ·cases g
     ·cases g
    ·cases g
   ·cases g
  |range T x=>
   simp only[]at g;unfold wpOp;simp only[];split at g
   ·rename_i e;rw[e];simp only[];split at g
    ·rename_i hs;cases g;exact⟨hs,hk⟩
    ·cases g
   ·cases g
  |next x b=>
   simp only[nextX]at g;unfold wpOp;simp only[];split at g
   ·rename_i e;rw[e];simp only[];split at g
    ·rename_i hb;subst hb;simp only[];split at g
     ·rename_i hi;rw[hi];simp only[];split at g
      ·rename_i hl;cases g;exact⟨fun _=>hk,fun hn=>absurd hl hn⟩
      ·rename_i hl;cases g;exact⟨fun hn=>absurd hn hl,fun _=>hk⟩
     ·cases g
    ·cases g
   ·cases g
  |call c=>
   simp only[]at g;unfold wpOp;simp only[];unfold wpCall;simp only[];split at g
   ·rename_i hc;rw[hc];simp only[];split at g
    ·rename_i h1 h2;rw[h1,h2];simp only[];split at g
     ·rename_i hT;exact⟨hT,xH g hk⟩
     ·cases g
    ·cases g
   ·rename_i hc;rw[hc];simp only[];split at g
    ·rename_i h1 h2;rw[h1,h2];simp only[];exact vu g hk
    ·cases g
   ·rename_i hc;rw[hc];split at g
    ·rename_i e;show callK _ _ _ _ _;rw[e];exact(hcall _ _ _ _ _ g).mono fun r2 h2 ⟨e1,e2⟩=>by rw[e1,e2];exact hk
    ·cases g
   ·cases g
  |_=>cases g
end
def nilEq:Value→Value→Bool
 | .slice none 0 0,.slice none 0 0=>true
 | .pointer none,.pointer none=>true
 | .nilFunc,.nilFunc=>true
 | .nilIface,.nilIface=>true
 | .map none,.map none=>true
 | .tuple ⟨[]⟩,.tuple ⟨[]⟩=>true
 |_,_=>false
theorem vw{v w:Value}(h:nilEq v w=true):v=w:=by
 unfold nilEq at h;split at h<;>first|rfl|cases h
def fnEq:Fn→Fn→Bool
 | .func f,.func g=>decide (f=g)
 |_,_=>false
theorem xI{v w:Fn}(h:fnEq v w=true):v=w:=by
 unfold fnEq at h;split at h
 ·rw[T6 h]
 ·cases h
mutual
def beqA:AVal→AVal→Bool
 | .int k n,.int k' n'=>decide (k=k')&&decide (n=n')
 | .bool b,.bool b'=>b==b'
 | .str s,.str s'=>decide (s=s')
 | .nil v,.nil w=>nilEq v w
 | .agg cs,.agg ds=>beqAs cs ds
 | .tup cs,.tup ds=>beqAs cs ds
 | .sl n es,.sl m fs=>decide (n=m)&&beqAs es fs
 | .ad cs,.ad ds=>beqAs cs ds
 | .hp p v i o,.hp p' v' i' o'=>decide (p=p')&&decide (v=v')&&decide (i=i')&&decide (o=o')
 | .hs p v o l r,.hs p' v' o' l' r'=>decide (p=p')&&decide (v=v')&&decide (o=o')&&decide (l=l')&&(r==r')
 | .fn f xs cs,.fn g ys ds=>fnEq f g&&beqAs xs ys&&beqAs cs ds
 | .ifc t x,.ifc t' y=>decide (t=t')&&beqA x y
 | .pa,.pa=>true
 | .ez,.ez=>true
 |_,_=>false
def beqAs:List AVal→List AVal→Bool
 | [],[]=>true
 |x::l,y::m=>beqA x y&&beqAs l m
 |_,_=>false
end
mutual
theorem eD:∀(x y:AVal),beqA x y=true→x=y
 | .int k n,y,h=>by
  cases y<;>simp only[beqA,L6,M1,O5]at h
  rw[h.1,h.2]
 | .bool b,y,h=>by
  cases y<;>simp only[beqA,beq_iff_eq,O5]at h
  rw[h]
 | .str s,y,h=>by
  cases y<;>simp only[beqA,M1,O5]at h
  rw[h]
 | .nil v,y,h=>by
  cases y<;>simp only[beqA,O5]at h
  rw[vw h]
 | .agg cs,y,h=>by
  cases y<;>simp only[beqA,O5]at h
  rw[cg cs _ h]
 | .tup cs,y,h=>by
  cases y<;>simp only[beqA,O5]at h
  rw[cg cs _ h]
 | .sl n es,y,h=>by
  cases y<;>simp only[beqA,L6,M1,O5]at h
  rw[h.1,cg es _ h.2]
 | .ad cs,y,h=>by
  cases y<;>simp only[beqA,O5]at h
  rw[cg cs _ h]
 | .hp p v i o,y,h=>by
  cases y<;>simp only[beqA,L6,M1,O5]at h
  obtain⟨⟨⟨rfl,rfl⟩,rfl⟩,rfl⟩:=h;rfl
 | .hs p v o l r,y,h=>by
  cases y<;>simp only[beqA,L6,M1,beq_iff_eq,O5]at h
  obtain⟨⟨⟨⟨rfl,rfl⟩,rfl⟩,rfl⟩,rfl⟩:=h;rfl
 | .fn f xs cs,y,h=>by
  cases y<;>simp only[beqA,L6,O5]at h
  rw[xI h.1.1,cg xs _ h.1.2,cg cs _ h.2]
 | .ifc t x,y,h=>by
  cases y<;>simp only[beqA,L6,M1,O5]at h
  rw[h.1,eD x _ h.2]
 | .pa,y,h=>by cases y<;>first|rfl|simp[beqA]at h
 | .ez,y,h=>by cases y<;>first|rfl|simp[beqA]at h
theorem cg:∀(l m:List AVal),beqAs l m=true→l=m
 | [],m,h=>by cases m<;>first|rfl|simp[beqAs]at h
 |x::l,m,h=>by
  cases m with
  |nil=>simp[beqAs]at h
  |cons y m=>
   simp only[beqAs,L6]at h;rw[eD x y h.1,cg l m h.2]
end
def beqB:Blk→Blk→Bool
 | .row e n v rows,.row e' n' v' rows'=>decide (e=e')&&decide (n=n')&&decide (v=v')&&beqAs rows rows'
 | .iter s p,.iter s' p'=>decide (s=s')&&decide (p=p')
 | .dead,.dead=>true
 |_,_=>false
theorem p7{x y:Blk}(h:beqB x y=true):x=y:=by
 unfold beqB at h;split at h
 ·simp only[L6,M1]at h;obtain⟨⟨⟨rfl,rfl⟩,rfl⟩,h⟩:=h;rw[cg _ _ h]
 ·simp only[L6,M1]at h;rw[h.1,h.2]
 ·rfl
 ·cases h
def begH:Heap→Heap→Bool
 | [],_=>true
 |_::_,[]=>false
 |a::l,b::m=>beqB a b&&begH l m
theorem kQ:∀{h h1:Heap},begH h h1=true→h1.take h.length=h
 | [],_,_=>by simp
 |_::_,[],h=>by simp[begH]at h
 |a::l,b::m,h=>by
  simp only[begH,L6]at h;simp only[M8,P8,kQ h.2,p7 h.1]
mutual
def cloA(n:Nat):AVal→Bool
 | .agg cs=>cloAs n cs
 | .tup cs=>cloAs n cs
 | .sl _ es=>cloAs n es
 | .ad cs=>cloAs n cs
 | .hp p _ _ _=>decide (p<n)
 | .hs p _ _ _ _=>decide (p<n)
 | .fn _ xs cs=>cloAs n xs&&cloAs n cs
 | .ifc _ x=>cloA n x
 | .hm p=>decide (p<n)
 |_=>true
def cloAs(n:Nat):List AVal→Bool
 | []=>true
 |x::l=>cloA n x&&cloAs n l
end
mutual
theorem fN(n:Nat):∀x:AVal,cloA n x=true→Clo n x
 | .int _ _,_=>.int _ _
 | .bool _,_=>.bool _
 | .str _,_=>.str _
 | .nil _,_=>.nil _
 | .agg cs,h=>.agg _ (cL n cs (by simpa only[cloA]using h))
 | .tup cs,h=>.tup _ (cL n cs (by simpa only[cloA]using h))
 | .sl _ es,h=>.sl _ _ (cL n es (by simpa only[cloA]using h))
 | .ad cs,h=>.ad _ (cL n cs (by simpa only[cloA]using h))
 | .hp p _ _ _,h=>.hp _ _ _ _ (by simpa only[cloA,M1]using h)
 | .hs p _ _ _ _,h=>.hs _ _ _ _ _ (by simpa only[cloA,M1]using h)
 | .fn _ xs cs,h=>by
  simp only[cloA,L6]at h;exact .fn _ _ _ (cL n xs h.1) (cL n cs h.2)
 | .ifc _ x,h=>.ifc _ _ (fN n x (by simpa only[cloA]using h))
 | .pa,_=>.pa
 | .ez,_=>.ez
 | .hm p,h=>.hm _ (by simpa only[cloA,M1]using h)
theorem cL(n:Nat):∀l:List AVal,cloAs n l=true→∀x∈l,Clo n x
 | [],_=>by intro x hx;cases hx
 |y::l,h=>by
  simp only[cloAs,L6]at h;intro x hx;rcases M6.1 hx with e|hx
  ·rw[e];exact fN n y h.1
  ·exact cL n l h.2 x hx
end
def mapO{α β:Type}(f:α→Option β):List α→Option (List β)
 | []=>some []
 |x::l=>match f x with
  |some y=>match mapO f l with|some m=>some (y::m)|none=>none
  |none=>none
theorem fO{α β:Type}{f:α→Option β}:∀{l:List α} {m:List β},mapO f l=some m→l.length=m.length∧∀(i:Nat) (x:α) (y:β),l[i]? =some x→m[i]? =some y→f x=some y
 | [],m,h=>by simp only[mapO,N7]at h;subst h;exact⟨rfl,fun i x y hx=>by simp at hx⟩
 |x::l,m,h=>by
  simp only[mapO]at h;split at h
  ·rename_i y hy;split at h
   ·rename_i m1 hm;cases h;obtain⟨h1,h2⟩:=fO hm;refine⟨by simp[h1],fun i a b ha hb=>?_⟩;cases i with
    |zero=>simp at ha hb;subst ha;subst hb;exact hy
    |succ i=>exact h2 i a b (by simpa using ha) (by simpa using hb)
   ·cases h
  ·cases h
def frzX(h:Heap)(n:Nat):Nat→AVal→Option AVal
 |0,x=>if cloA n x=true then some x else none
 |f+1,x=>if cloA n x=true then some x else match x with
  | .agg cs=>match mapO (frzX h n f) cs with|some ds=>if ds.all AVal.sto=true then some (.agg ds)else none|none=>none
  | .tup cs=>match mapO (frzX h n f) cs with|some ds=>some (.tup ds)|none=>none
  | .ifc t x=>match frzX h n f x with|some y=>some (.ifc t y)|none=>none
  | .hs p ver off len room=>match getRow h p ver with
   |some (_,m,rows)=>if n≤p∧off+len≤rows.length then
     match mapO (fun r=>match mapO (frzX h n f) r.cells with|some ds=>if ds.all AVal.sto=true then some (match r with| .agg _=>AVal.agg ds|_=>(match ds with| [d]=>if d.sto=true then d else .pa|_=>.pa))else none|none=>none) rows with
     |some es=>some (.sl m ((es.drop off).take len))
     |none=>none else none
   |none=>none
  |_=>none
theorem p8(h:Heap)(n:Nat):∀(f:Nat) (x y:AVal),frzX h n f x=some y→Frz h n x y:=by
 intro f;induction f with
 |zero=>
  intro x y g;simp only[frzX]at g;split at g
  ·rename_i hc;cases g;exact .clo _ (fN n _ hc)
  ·cases g
 |succ f ih=>
  intro x y g;simp only[frzX]at g;split at g
  ·rename_i hc;cases g;exact .clo _ (fN n _ hc)
  ·split at g
   ·split at g
    ·rename_i ds hm;split at g
     ·rename_i hs;cases g;obtain⟨h1,h2⟩:=fO hm;exact .agg _ _ h1 (fun d hd=>O9.1 hs d hd) fun i c d hc hd=>ih _ _ (h2 i c d hc hd)
     ·cases g
    ·cases g
   ·split at g
    ·rename_i ds hm;cases g;obtain⟨h1,h2⟩:=fO hm;exact .tup _ _ h1 fun i c d hc hd=>ih _ _ (h2 i c d hc hd)
    ·cases g
   ·split at g
    ·rename_i hy;cases g;exact .ifc _ _ _ (ih _ _ hy)
    ·cases g
   ·split at g
    ·rename_i hq;split at g
     ·rename_i hb;split at g
      ·rename_i es hm;cases g;obtain⟨h1,h2⟩:=fO hm;have key:∀(i:Nat) (r s:AVal),_→es[i]? =some s→Frz h n r s∧r.cells.length=s.cells.length∧(∀(j:Nat) (c d:AVal),r.cells[j]? =some c→s.cells[j]? =some d→d.sto=true)∧
         ∀(j:Nat) (c d:AVal),r.cells[j]? =some c→s.cells[j]? =some d→Frz h n c d:=fun i r s hr hs=>by
        have e:=h2 i r s hr hs;split at e
        ·rename_i ds hd;obtain⟨k1,k2⟩:=fO hd;split at e
         ·rename_i hst;have hst':=O9.1 hst;split at e
          ·cases e;exact⟨.agg _ _ k1 (fun d hd=>hst' d hd) fun j c d hc hd=>ih _ _ (k2 j c d hc hd),k1,fun j c d hc hd=>hst' d (M7 hd),fun j c d hc hd=>ih _ _ (k2 j c d hc hd)⟩
          ·rename_i hna;have hc1:r.cells=[r]:=(by cases r<;>first|rfl|exact absurd rfl (hna _));rw[hc1]at k1 k2 ⊢
           match ds,k1 with
           | [d],_=>
            simp only at e;have hd1:=hst' d (by simp);rw[M0 hd1]at e;have e2:d=s:=(by simpa using e);subst e2;have hs1:d.cells=[d]:=(by cases d<;>first|rfl| (simp[AVal.sto]at hd1));have hf:=ih _ _ (k2 0 r d rfl rfl);rw[hs1];refine⟨hf,rfl,fun j c x hc hx=>?_,fun j c x hc hx=>?_⟩
            ·match j with
             |0=>simp at hx;subst hx;exact hd1
             |j+1=>simp at hx
            ·match j with
             |0=>simp at hx hc;subst hx;subst hc;exact hf
             |j+1=>simp at hx
         ·cases e
        ·cases e
       exact .hs _ _ _ _ _ _ _ _ es hb.1 hq hb.2 h1.symm (fun i r s hr hs=>(key i r s hr hs).1) (fun i r s hr hs=>⟨(key i r s hr hs).2.1,fun j c d hc hd=>(key i r s hr hs).2.2.1 j c d hc hd⟩)
        (fun i r s j c d hr hs hc hd=>(key i r s hr hs).2.2.2 j c d hc hd)
      ·cases g
     ·cases g
    ·cases g
   ·cases g
section
variable {C:Ctx} {h:Heap}
theorem Sat.letgo{f:FuncId}{args:List AVal}{r v:AVal}{h1:Heap}(hb:h1.take h.length=h)(hz:Frz h1 h.length r v)(s:Sat C f args h fun r2 h2=>r2=r∧h2=h1):Sat C f args h fun r2 h2=>r2=v∧h2=h:=by
 intro B S μ w vs fit rl;refine(s B S μ w vs fit rl).mono fun u w' hp=>?_
 obtain⟨r2,h',S',μ',⟨rfl,rfl⟩,st,fit',hrep⟩:=hp;obtain⟨fc,sc⟩:=Fits.cut fit st fit' (n:=h.length) (M4 _) (fun p k hp hk=>by
  refine .inl ⟨hp,?_⟩;rw[← hb,N4 hp];exact hk)
 rw[hb]at fc;exact⟨v,h,_,_,⟨rfl,rfl⟩,sc,fc,hz.rep fit' hrep⟩
end
end Go.Av
theorem zc3:type_of% @Go.Av.Fo.clo:=@Go.Av.Fo.clo
theorem zc4:type_of% @Go.Av.Se.clo:=@Go.Av.Se.clo
theorem zc5:type_of% @Go.Av.Fe.clo:=@Go.Av.Fe.clo
