/- Parts. -/
import Derived.Test.YtljohklbgahomaaGreatDoorMsDyh0
set_option linter.unusedSimpArgs false
set_option linter.unusedVariables false
set_option linter.unusedSectionVars false
set_option linter.unnecessarySimpa false
set_option maxRecDepth 100000
set_option maxHeartbeats 16000000
namespace Go.Av
open Go Go.Proofs Go.RowKit
attribute [local irreducible] WP WPl WPix Sat
variable (G:Nat→Option (List AVal))
theorem ga(s:Bs)(hs:s.length≤1048576)(h:Heap):Sat (CT G) 47 [.str s] h (fun r h'=>r=.str (short s)∧h'=h):=by
 obtain⟨h1,h2,h3⟩:=rS s;have hl:=dW G s 58 (by omega);generalize Lib.lastIndexByte ⟨s.toArray⟩ 58=n at h1 h2 h3 hl;refine sb [.tmp 2] Tryz.func47 ?_;intro Q hQ;refine ah trivial ?_;refine aF trivial (hl _) ?_;refine az hQ trivial ?_;refine fR (.str _) ?_;rw[h1]
theorem fe(e:Elem)(n:Bs)(hs:e.sz≤1048576)(h:Heap):Sat (CT G) 49 [e.av,.str n] h (fun r h'=>r=.sl 4 ((kidsF e n).map Elem.av)∧h'=h):=by
 have hkl:=e.kids_len;refine sb [.tmp 4] Tryz.func49 ?_;intro Q hQ;refine ah trivial ?_;refine lm (fun nL tL hL=>∃(k v:Nat) (acc:List Elem) (j:Heap),e.kids.length-k=nL∧h++ .row 35 4 0 [e.av]:: .row 35 4 v (acc.map Elem.av)::j=hL∧tL 5=.hs (h.length+1) v 0 acc.length true∧tL 11=.int .i64 k∧k≤e.kids.length∧acc.length≤k∧acc++(e.kids.drop k).filter (fun k=>decide (short k.name=n))=kidsF e n) ((fun(k v:Nat) (acc:List Elem) (j:Heap)=>(e.kids.length-k:Nat)) (0) (0) ([]) ([])) ?_ ?_
 ·refine⟨_,_,Weak.virt 5 35 4 (by simp) (by omega) (by exact aC trivial),⟨0,0,[],[],rfl,aw,?_,?_,?_,?_,?_⟩⟩;all_goals first|exact aC trivial|rfl|omega|trivial|skip
 rintro _ s2 h' ⟨k,v,acc,j,rfl,rfl,e5,e11,hk,hl,hp⟩ K2 hK2;simp only[am,ar,Nat.reduceEqDiff, ↓reduceIte]at e5 e11;have F:=F2 e5 e11;refine ah F ?_;refine aD F (fun hc=>?_) (fun hc=>?_)<;>(try exact hc.elim)
 ·obtain⟨y,hy,hym⟩:=aj hc;have:=Elem.kid_sz hym;have:=y.name_len;rw[bq hy,List.filter_cons]at hp;have F:=F2 F hy;refine ah F ?_;refine aF F (ga G y.name (by omega) _) ?_;refine aD F (fun hc=>?_) (fun hc=>?_)<;>(try exact hc.elim)<;>(refine ah F ?_)
  ·refine E2 F ?_;(try refine ai F ?_);refine ah F ?_;refine hK2 _ _ _ (H5 ⟨k+1,v+1,acc++[y],_,rfl,aw,?_,?_,by omega,by simp;omega,by rw[G5 (by simp[hc])]at hp;rw[← hp];simp⟩) (by omega);all_goals first|exact aC F|rfl|omega|trivial|skip
  ·refine hK2 _ _ _ (H5 ⟨k+1,v,acc,_,rfl,aw,?_,?_,by omega,by omega,by rw[G2 (by simp[hc])]at hp;exact hp⟩) (by omega);all_goals first|exact aC F|rfl|omega|trivial|skip
 ·refine ah F ?_;refine az hQ F ?_;rw[co hc,List.filter_nil,J3]at hp;subst hp;exact U9 (rJ (pre:=h++[.row 35 4 0 [e.av]]) (post:=j) _ (by simp;rfl) (by simp) (by omega)) ⟨rfl,rfl⟩
theorem gb(e:Elem)(n:Bs)(hs:e.sz≤1048576)(h:Heap):Sat (CT G) 46 [e.av,.str n] h (fun r h'=>r=.tup [(kidF e n).1.av,.bool (kidF e n).2]∧h'=h):=by
 refine sb [.cell 4 35,.tmp 5] Tryz.func46 ?_;intro Q hQ;refine ah trivial ?_;refine aF trivial (fe G e n hs _) ?_;refine aD trivial (fun hc=>?_) (fun hc=>?_)<;>(try exact hc.elim)<;>(refine ah trivial ?_)
 ·refine vr hQ trivial ?_;have hk:kidsF e n=[]:=L3.1 (by omega);simp only[kidF,hk];refine U9 ?_ ⟨rfl,rfl⟩;refine .tup _ _ rfl fun i c d hc hd=>?_
  match i with
  |0=>simp at hc hd;subst hc;subst hd;exact rO _ _
  |1=>simp at hc hd;subst hc;subst hd;exact .clo _ (.bool _)
  |i+2=>simp at hc
 ·obtain⟨y,l,hk⟩:∃y l,kidsF e n=y::l:=by
   cases hq:kidsF e n with
   |nil=>rw[hq]at hc;simp at hc
   |cons y l=>exact⟨y,l,rfl⟩
  rw[hk];have h0:(y::l)[0]? =some y:=rfl;have F:=h0;refine ah F ?_;simp only[h0];try refine ai F ?_
  refine ah F ?_;refine vr hQ F ?_;simp only[kidF,hk];exact I3 (.tup _ (by intro c hc;simp at hc;rcases hc with rfl|rfl;exact Elem.clo _ _;exact .bool _)) ⟨rfl,rfl⟩
def idxF{α:Type}(p:α→Bool):List α→Nat→Int
 | [],_=> -1
 |a::l,k=>if p a then(k:Int)else idxF p l (k+1)
theorem oY{α:Type}(p:α→Bool):∀(l:List α) (k:Nat), -1≤idxF p l k∧idxF p l k<l.length+k
 | [],k=>by simp[idxF];omega
 |a::l,k=>by
  have:=oY p l (k+1);rw[idxF];split<;>(simp;omega)
theorem li(p:At→Bool)(g:FuncId)(cap:List AVal)(l:List At)(hs:l.length≤1048576)(h:Heap)(hg:∀(a:At) (j:Heap),Sat (CT G) g (a.av::cap) (h++j) (fun r h'=>r=.bool (p a)∧h'=h++j)):
  Sat (CT G) 128 [.sl 2 (l.map At.av),.fn (.func g) [] cap] h (fun r h'=>r=.int .i64 (idxF p l 0)∧h'=h):=by
 refine sb [.tmp 4] Tryz.func128 ?_;intro Q hQ;refine ah trivial ?_;refine lm (fun nL tL hL=>∃(k:Nat),l.length-k=nL∧h=hL∧tL 8=.int .i64 k∧k≤l.length∧idxF p l 0=idxF p (l.drop k) k) ((fun(k:Nat)=>(l.length-k:Nat)) (0)) ?_ ?_
 ·refine H5 ⟨0,rfl,aw,?_,?_,?_⟩;all_goals first|exact aC trivial|rfl|omega|trivial|skip
 rintro _ s2 h' ⟨k,rfl,rfl,e8,hk,hp⟩ K2 hK2;simp only[am,ar,Nat.reduceEqDiff, ↓reduceIte]at e8;have F:=e8;refine ah F ?_;refine aD F (fun hc=>?_) (fun hc=>?_)<;>(try exact hc.elim)
 ·obtain⟨y,hy,hym⟩:=aj hc;rw[bq hy,idxF]at hp;have F:=F2 F hy;refine ah F ?_;have:=hg y [];rw[J3]at this;refine aF F (this) ?_;refine aD F (fun hc=>?_) (fun hc=>?_)<;>(try exact hc.elim)<;>(refine ah F ?_)
  ·refine az hQ F ?_;refine fR (.int _ _) ?_;rw[hp,G5 hc]
  ·refine hK2 _ _ _ (H5 ⟨k+1,rfl,aw,?_,by omega,by rw[hp,G2 (by simp[hc])]⟩) (by omega);all_goals first|exact aC F|rfl|omega|trivial|skip
 ·refine ah F ?_;refine az hQ F ?_;refine fR (.int _ _) ?_;rw[hp,co hc];rfl
theorem rU(a:At)(n:Bs)(h j:Heap)(X:Blk):Sat (CT G) 129 [a.av,.hp (h.length+1) 0 0 0] (h++X:: .row 9 1 0 [.str n]::j) (fun r h'=>r=.bool (decide (a.1=n))∧h'=h++X:: .row 9 1 0 [.str n]::j):=by
 refine sb [.tmp 3] Tryz.func129 ?_;intro Q hQ;refine ah trivial ?_;refine az hQ trivial ?_;refine fR (.bool _) ?_;congr 1;rw[N8];simp
theorem oZ{α:Type}(p:α→Bool):∀(l:List α) (k:Nat),idxF p l k= -1∨(k:Int)≤idxF p l k
 | [],k=>.inl rfl
 |a::l,k=>by
  have:=oZ p l (k+1);rw[idxF];split
  ·exact .inr (Int.le_refl _)
  ·omega
theorem kJ(n:Bs):∀(l:List At) (k:Nat),(idxF (fun a=>decide (a.1=n)) l k<0→attrF l n=([],false))∧(∀i:Nat,idxF (fun a=>decide (a.1=n)) l k=((k+i:Nat):Int)→∃a,l[i]? =some a∧attrF l n=(a.2,true))
 | [],k=>by refine⟨fun _=>rfl,fun i hi=>?_⟩;simp only[idxF]at hi;omega
 |a::l,k=>by
  obtain⟨h1,h2⟩:=kJ n l (k+1);have hg:=oZ (fun a:At=>decide (a.1=n)) l (k+1);by_cases hc:a.1=n
  ·simp only[idxF,hc,decide_true,if_true,attrF];refine⟨fun h=>by omega,fun i hi=>?_⟩;have:i=0:=(by omega);subst this;exact⟨a,rfl,rfl⟩
  ·simp only[idxF,hc,decide_false,I4,if_false,attrF];refine⟨h1,fun i hi=>?_⟩;cases i with
   |zero=>omega
   |succ i=>
    obtain⟨b,hb,hr⟩:=h2 i (by rw[hi];congr 1;omega);exact⟨b,by simpa using hb,hr⟩
theorem kK(e:Elem)(n:Bs)(hs:e.sz≤1048576)(h:Heap):Sat (CT G) 86 [e.av,.str n] h (fun r h'=>r=.tup [.str (attrF e.attrs n).1,.bool (attrF e.attrs n).2]∧h'=h):=by
 have hal:=e.attrs_len;have hb:=oY (fun a:At=>decide (a.1=n)) e.attrs 0;obtain⟨f1,f2⟩:=kJ n e.attrs 0;have hi:=li G (fun a=>decide (a.1=n)) 129 [.hp (h.length+1) 0 0 0] e.attrs (by omega) (h++[.row 35 4 0 [e.av],.row 9 1 0 [.str n]]) (fun a j=>by simpa using rU G a n h j _);generalize idxF (fun a:At=>decide (a.1=n)) e.attrs 0=x at hb f1 f2 hi;refine sb [.tmp 4,.tmp 5] Tryz.func86 ?_;intro Q hQ;refine ah trivial ?_;refine aF trivial (hi) ?_;refine aD trivial (fun hc=>?_) (fun hc=>?_)<;>(try exact hc.elim)
 ·refine ah trivial ?_;refine az hQ trivial ?_;refine fR (.tup _ (by simp[Clo.str,Clo.bool])) ?_;rw[f1 hc]
 ·obtain⟨i,rfl⟩:∃i:Nat,x=(i:Int):=⟨x.toNat,by omega⟩;obtain⟨a,ha,hr⟩:=f2 i (by simp);have F:=ha;refine ah F ?_;refine az hQ F ?_;refine fR (.tup _ (by simp[Clo.str,Clo.bool])) ?_;rw[hr]
def Elem.own(e:Elem):Nat:=1+e.name.length+szs At.sz e.attrs+e.text.length
section
variable {σ:Type} (A B:Elem→σ→σ)
end
section
end
section
end
end Go.Av
