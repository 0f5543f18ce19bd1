/- Parts. -/
import Derived.Test.YtjfjncmgclaokaaGreatDoorMqDr5
set_option linter.unusedSimpArgs false
set_option linter.unusedVariables false
set_option linter.unusedSectionVars false
set_option linter.unnecessarySimpa false
set_option maxRecDepth 100000
set_option maxHeartbeats 16000000
namespace Go.Av
open Go Go.Proofs Go.RowKit
variable (G:Nat→Option (List AVal))
theorem qs(s:Bs):∀k,k≤s.length→shortAt s k=s.drop (Lib.lastIdx ⟨s.toArray⟩ 58 k+1).toNat∧ -1≤Lib.lastIdx ⟨s.toArray⟩ 58 k∧Lib.lastIdx ⟨s.toArray⟩ 58 k<k:=by
 intro k;induction k with
 |zero=>intro _;simp[shortAt,Lib.lastIdx]
 |succ k ih=>
  intro hk;obtain⟨h1,h2,h3⟩:=ih (by omega);have hb:=G1 (show k<s.length by omega);have e:(⟨s.toArray⟩:ByteArray).data[k]! =s[k]:=by simp[hb]
  rw[shortAt,hb];have e2:Lib.lastIdx ⟨s.toArray⟩ 58 (k+1)=if (s[k].toNat:Int)=58 then(k:Int)else Lib.lastIdx ⟨s.toArray⟩ 58 k:=by
   rw[Lib.lastIdx,e]
  rw[e2];by_cases hc:s[k]=58
  ·rw[G3 (by rw[hc]),G3 (by rw[hc];rfl)];refine⟨J2 s.drop (by omega),by omega,by omega⟩
  ·have:¬(s[k].toNat:Int)=58:=fun h=>hc ((oP (k:=58) (by omega)).1 h)
   rw[G0 (by simpa using hc),G0 this];exact⟨h1,h2,by omega⟩
theorem sh(s:Bs):short s=s.drop (Lib.lastIndexByte ⟨s.toArray⟩ 58+1).toNat∧ -1≤Lib.lastIndexByte ⟨s.toArray⟩ 58∧Lib.lastIndexByte ⟨s.toArray⟩ 58<s.length:=by
 have h:(⟨s.toArray⟩:ByteArray).size=s.length:=by simp[ByteArray.size]
 have:=qs s s.length (H5 _);unfold Lib.lastIndexByte short;rw[h];exact this
end Go.Av
namespace Go.Av
open Go Go.Proofs Go.RowKit
attribute [local irreducible] WP WPl WPix Sat
variable (G:Nat→Option (List AVal))
theorem gz(s:Bs)(hs:s.length≤1048576)(h:Heap):Sat (CT G) 106 [.str s] h (fun r h'=>r=.str (short s)∧h'=h):=by
 obtain⟨h1,h2,h3⟩:=sh s;have hl:=er G s 58 (by omega);generalize Lib.lastIndexByte ⟨s.toArray⟩ 58=n at h1 h2 h3 hl;refine sb [.tmp 2] Tryz.func106 ?_;intro Q hQ;refine aj trivial ?_;refine aJ trivial (hl _) ?_;refine ay hQ trivial ?_;refine fR (.str _) ?_;rw[h1]
theorem fr(e:Elem)(n:Bs)(hs:e.sz≤1048576)(h:Heap):Sat (CT G) 108 [e.av,.str n] h (fun r h'=>r=.sl 4 ((kidsF e n).map Elem.av)∧h'=h):=by
 have hkl:=e.kids_len;refine sb [.tmp 4] Tryz.func108 ?_;intro Q hQ;refine aj trivial ?_;refine lm (fun nL tL hL=>∃(k v:Nat) (acc:List Elem) (j:Heap),e.kids.length-k=nL∧h++ .row 76 4 0 [e.av]:: .row 76 4 v (acc.map Elem.av)::j=hL∧tL 5=.hs (h.length+1) v 0 acc.length true∧tL 11=.int .i64 k∧k≤e.kids.length∧acc.length≤k∧acc++(e.kids.drop k).filter (fun k=>decide (short k.name=n))=kidsF e n) ((fun(k v:Nat) (acc:List Elem) (j:Heap)=>(e.kids.length-k:Nat)) (0) (0) ([]) ([])) ?_ ?_
 ·refine⟨_,_,V4 5 76 4 (by simp) (by omega) (by exact aE trivial),⟨0,0,[],[],rfl,ar,?_,?_,?_,?_,?_⟩⟩;all_goals first|exact aE trivial|rfl|omega|trivial|skip
 rintro _ s2 h' ⟨k,v,acc,j,rfl,rfl,e5,e11,hk,hl,hp⟩ K2 hK2;simp only[ai,ak,Nat.reduceEqDiff, ↓reduceIte]at e5 e11;have F:=F2 e5 e11;refine aj F ?_;refine aH F (fun hc=>?_) (fun hc=>?_)<;>(try exact hc.elim)
 ·obtain⟨y,hy,hym⟩:=ae hc;have:=Elem.kid_sz hym;have:=y.name_len;rw[aF hy,List.filter_cons]at hp;have F:=F2 F hy;refine aj F ?_;refine aJ F (gz G y.name (by omega) _) ?_;refine aH F (fun hc=>?_) (fun hc=>?_)<;>(try exact hc.elim)<;>(refine aj F ?_)
  ·refine AJ F ?_;(try refine am F ?_);refine aj F ?_;refine hK2 _ _ _ (G9 ⟨k+1,v+1,acc++[y],_,rfl,ar,?_,?_,by omega,by simp;omega,by rw[G3 (by simp[hc])]at hp;rw[← hp];simp⟩) (by omega);all_goals first|exact aE F|rfl|omega|trivial|skip
  ·refine hK2 _ _ _ (G9 ⟨k+1,v,acc,_,rfl,ar,?_,?_,by omega,by omega,by rw[G0 (by simp[hc])]at hp;exact hp⟩) (by omega);all_goals first|exact aE F|rfl|omega|trivial|skip
 ·refine aj F ?_;refine ay hQ F ?_;rw[aY hc,List.filter_nil,J3]at hp;subst hp;exact P3 (lk (pre:=h++[.row 76 4 0 [e.av]]) (post:=j) _ (by simp;rfl) (by simp) (by omega)) ⟨rfl,rfl⟩
theorem gA(e:Elem)(n:Bs)(hs:e.sz≤1048576)(h:Heap):Sat (CT G) 105 [e.av,.str n] h (fun r h'=>r=.tup [(kidF e n).1.av,.bool (kidF e n).2]∧h'=h):=by
 refine sb [.cell 4 76,.tmp 5] Tryz.func105 ?_;intro Q hQ;refine aj trivial ?_;refine aJ trivial (fr G e n hs _) ?_;refine aH trivial (fun hc=>?_) (fun hc=>?_)<;>(try exact hc.elim)<;>(refine aj trivial ?_)
 ·refine oI hQ trivial ?_;have hk:kidsF e n=[]:=K5.1 (by omega);simp only[kidF,hk];refine P3 ?_ ⟨rfl,rfl⟩;refine .tup _ _ rfl fun i c d hc hd=>?_
  match i with
  |0=>simp at hc hd;subst hc;subst hd;exact ln _ _
  |1=>simp at hc hd;subst hc;subst hd;exact .clo _ (.bool _)
  |i+2=>simp at hc
 ·obtain⟨y,l,hk⟩:∃y l,kidsF e n=y::l:=by
   cases hq:kidsF e n with
   |nil=>rw[hq]at hc;simp at hc
   |cons y l=>exact⟨y,l,rfl⟩
  rw[hk];have h0:(y::l)[0]? =some y:=rfl;have F:=h0;refine aj F ?_;simp only[h0];try refine am F ?_
  refine aj F ?_;refine oI hQ F ?_;simp only[kidF,hk];exact H3 (.tup _ (by intro c hc;simp at hc;rcases hc with rfl|rfl;exact Elem.clo _ _;exact .bool _)) ⟨rfl,rfl⟩
def idxF{α:Type}(p:α→Bool):List α→Nat→Int
 | [],_=> -1
 |a::l,k=>if p a then(k:Int)else idxF p l (k+1)
theorem oV{α:Type}(p:α→Bool):∀(l:List α) (k:Nat), -1≤idxF p l k∧idxF p l k<l.length+k
 | [],k=>by simp[idxF];omega
 |a::l,k=>by
  have:=oV p l (k+1);rw[idxF];split<;>(simp;omega)
theorem lT(p:At→Bool)(g:FuncId)(cap:List AVal)(l:List At)(hs:l.length≤1048576)(h:Heap)(hg:∀(a:At) (j:Heap),Sat (CT G) g (a.av::cap) (h++j) (fun r h'=>r=.bool (p a)∧h'=h++j)):
  Sat (CT G) 221 [.sl 2 (l.map At.av),.fn (.func g) [] cap] h (fun r h'=>r=.int .i64 (idxF p l 0)∧h'=h):=by
 refine sb [.tmp 4] Tryz.func221 ?_;intro Q hQ;refine aj trivial ?_;refine lm (fun nL tL hL=>∃(k:Nat),l.length-k=nL∧h=hL∧tL 8=.int .i64 k∧k≤l.length∧idxF p l 0=idxF p (l.drop k) k) ((fun(k:Nat)=>(l.length-k:Nat)) (0)) ?_ ?_
 ·refine G9 ⟨0,rfl,ar,?_,?_,?_⟩;all_goals first|exact aE trivial|rfl|omega|trivial|skip
 rintro _ s2 h' ⟨k,rfl,rfl,e8,hk,hp⟩ K2 hK2;simp only[ai,ak,Nat.reduceEqDiff, ↓reduceIte]at e8;have F:=e8;refine aj F ?_;refine aH F (fun hc=>?_) (fun hc=>?_)<;>(try exact hc.elim)
 ·obtain⟨y,hy,hym⟩:=ae hc;rw[aF hy,idxF]at hp;have F:=F2 F hy;refine aj F ?_;have:=hg y [];rw[J3]at this;refine aJ F (this) ?_;refine aH F (fun hc=>?_) (fun hc=>?_)<;>(try exact hc.elim)<;>(refine aj F ?_)
  ·refine ay hQ F ?_;refine fR (.int _ _) ?_;rw[hp,G3 hc]
  ·refine hK2 _ _ _ (G9 ⟨k+1,rfl,ar,?_,by omega,by rw[hp,G0 (by simp[hc])]⟩) (by omega);all_goals first|exact aE F|rfl|omega|trivial|skip
 ·refine aj F ?_;refine ay hQ F ?_;refine fR (.int _ _) ?_;rw[hp,aY hc];rfl
theorem si(a:At)(n:Bs)(h j:Heap)(X:Blk):Sat (CT G) 222 [a.av,.hp (h.length+1) 0 0 0] (h++X:: .row 9 1 0 [.str n]::j) (fun r h'=>r=.bool (decide (a.1=n))∧h'=h++X:: .row 9 1 0 [.str n]::j):=by
 refine sb [.tmp 3] Tryz.func222 ?_;intro Q hQ;refine aj trivial ?_;refine ay hQ trivial ?_;refine fR (.bool _) ?_;congr 1;rw[N8];simp
theorem oW{α:Type}(p:α→Bool):∀(l:List α) (k:Nat),idxF p l k= -1∨(k:Int)≤idxF p l k
 | [],k=>.inl rfl
 |a::l,k=>by
  have:=oW p l (k+1);rw[idxF];split
  ·exact .inr (Int.le_refl _)
  ·omega
theorem lu(n:Bs):∀(l:List At) (k:Nat),(idxF (fun a=>decide (a.1=n)) l k<0→attrF l n=([],false))∧(∀i:Nat,idxF (fun a=>decide (a.1=n)) l k=((k+i:Nat):Int)→∃a,l[i]? =some a∧attrF l n=(a.2,true))
 | [],k=>by refine⟨fun _=>rfl,fun i hi=>?_⟩;simp only[idxF]at hi;omega
 |a::l,k=>by
  obtain⟨h1,h2⟩:=lu n l (k+1);have hg:=oW (fun a:At=>decide (a.1=n)) l (k+1);by_cases hc:a.1=n
  ·simp only[idxF,hc,decide_true,if_true,attrF];refine⟨fun h=>by omega,fun i hi=>?_⟩;have:i=0:=(by omega);subst this;exact⟨a,rfl,rfl⟩
  ·simp only[idxF,hc,decide_false,I7,if_false,attrF];refine⟨h1,fun i hi=>?_⟩;cases i with
   |zero=>omega
   |succ i=>
    obtain⟨b,hb,hr⟩:=h2 i (by rw[hi];congr 1;omega);exact⟨b,by simpa using hb,hr⟩
theorem lw(e:Elem)(n:Bs)(hs:e.sz≤1048576)(h:Heap):Sat (CT G) 166 [e.av,.str n] h (fun r h'=>r=.tup [.str (attrF e.attrs n).1,.bool (attrF e.attrs n).2]∧h'=h):=by
 have hal:=e.attrs_len;have hb:=oV (fun a:At=>decide (a.1=n)) e.attrs 0;obtain⟨f1,f2⟩:=lu n e.attrs 0;have hi:=lT G (fun a=>decide (a.1=n)) 222 [.hp (h.length+1) 0 0 0] e.attrs (by omega) (h++[.row 76 4 0 [e.av],.row 9 1 0 [.str n]]) (fun a j=>by simpa using si G a n h j _);generalize idxF (fun a:At=>decide (a.1=n)) e.attrs 0=x at hb f1 f2 hi;refine sb [.tmp 4,.tmp 5] Tryz.func166 ?_;intro Q hQ;refine aj trivial ?_;refine aJ trivial (hi) ?_;refine aH trivial (fun hc=>?_) (fun hc=>?_)<;>(try exact hc.elim)
 ·refine aj trivial ?_;refine ay hQ trivial ?_;refine fR (.tup _ (by simp[Clo.str,Clo.bool])) ?_;rw[f1 hc]
 ·obtain⟨i,rfl⟩:∃i:Nat,x=(i:Int):=⟨x.toNat,by omega⟩;obtain⟨a,ha,hr⟩:=f2 i (by simp);have F:=ha;refine aj F ?_;refine ay hQ F ?_;refine fR (.tup _ (by simp[Clo.str,Clo.bool])) ?_;rw[hr]
def Elem.own(e:Elem):Nat:=1+e.name.length+szs At.sz e.attrs+e.text.length
section
variable {σ:Type} (A B:Elem→σ→σ)
end
section
end
section
end
end Go.Av
