/- Parts. -/
import Derived.Test.YtljohklbgahomaaGreatDoorMrIi
set_option linter.unusedSimpArgs false
set_option linter.unusedVariables false
set_option linter.unusedSectionVars false
set_option linter.unnecessarySimpa false
set_option maxRecDepth 100000
set_option maxHeartbeats 16000000
namespace Go.Av
open Go Go.Proofs Go.RowKit
section
variable (G:Nat→Option (List AVal))
theorem pz(s:Bs):∀k,k≤s.length→shortAt s k=s.drop (Lib.lastIdx ⟨s.toArray⟩ 58 k+1).toNat∧ -1≤Lib.lastIdx ⟨s.toArray⟩ 58 k∧Lib.lastIdx ⟨s.toArray⟩ 58 k<k:=by
 intro k;induction k with
 |zero=>intro _;simp[shortAt,Lib.lastIdx]
 |succ k ih=>
  intro hk;obtain⟨h1,h2,h3⟩:=ih (by omega);have hb:=E6 (show k<s.length by omega);have e:(⟨s.toArray⟩:ByteArray).data[k]! =s[k]:=by simp[hb]
  rw[shortAt,hb];have e2:Lib.lastIdx ⟨s.toArray⟩ 58 (k+1)=if (s[k].toNat:Int)=58 then(k:Int)else Lib.lastIdx ⟨s.toArray⟩ 58 k:=by
   rw[Lib.lastIdx,e]
  rw[e2];by_cases hc:s[k]=58
  ·rw[E8 (by rw[hc]),E8 (by rw[hc];rfl)];refine⟨H6 s.drop (by omega),by omega,by omega⟩
  ·have:¬(s[k].toNat:Int)=58:=fun h=>hc ((uM (k:=58) (by omega)).1 h)
   rw[E4 (by simpa using hc),E4 this];exact⟨h1,h2,by omega⟩
theorem qS(s:Bs):short s=s.drop (Lib.lastIndexByte ⟨s.toArray⟩ 58+1).toNat∧ -1≤Lib.lastIndexByte ⟨s.toArray⟩ 58∧Lib.lastIndexByte ⟨s.toArray⟩ 58<s.length:=by
 have h:(⟨s.toArray⟩:ByteArray).size=s.length:=by simp[ByteArray.size]
 have:=pz s s.length (G3 _);unfold Lib.lastIndexByte short;rw[h];exact this
end
section
attribute [local irreducible] WP WPl WPix Sat
variable (G:Nat→Option (List AVal))
theorem fM(s:Bs)(hs:s.length≤1048576)(h:Heap):Sat (CT G) 47 [.str s] h (fun r h'=>r=.str (short s)∧h'=h):=by
 obtain⟨h1,h2,h3⟩:=qS s;have hl:=dD G s 58 (by omega);generalize Lib.lastIndexByte ⟨s.toArray⟩ 58=n at h1 h2 h3 hl;refine sb [.tmp 2] Tryz.func47 ?_;intro Q hQ;refine ah trivial ?_;refine aE trivial (hl _) ?_;refine au hQ trivial ?_;refine fR (.str _) ?_;rw[h1]
theorem eF(e:Elem)(n:Bs)(hs:e.sz≤1048576)(h:Heap):Sat (CT G) 49 [e.av,.str n] h (fun r h'=>r=.sl 4 ((kidsF e n).map Elem.av)∧h'=h):=by
 have hkl:=e.kids_len;refine sb [.tmp 4] Tryz.func49 ?_;intro Q hQ;refine ah trivial ?_;refine lm (fun nL tL hL=>∃(k v:Nat) (acc:List Elem) (j:Heap),e.kids.length-k=nL∧h++ .row 35 4 0 [e.av]:: .row 35 4 v (acc.map Elem.av)::j=hL∧tL 5=.hs (h.length+1) v 0 acc.length true∧tL 11=.int .i64 k∧k≤e.kids.length∧acc.length≤k∧acc++(e.kids.drop k).filter (fun k=>decide (short k.name=n))=kidsF e n) ((fun(k v:Nat) (acc:List Elem) (j:Heap)=>(e.kids.length-k:Nat)) (0) (0) ([]) ([])) ?_ ?_
 ·refine⟨_,_,Weak.virt 5 35 4 (by simp) (by omega) (by exact az trivial),⟨0,0,[],[],rfl,aB,?_,?_,?_,?_,?_⟩⟩;all_goals first|exact az trivial|rfl|omega|trivial|skip
 rintro _ s2 h' ⟨k,v,acc,j,rfl,rfl,e5,e11,hk,hl,hp⟩ K2 hK2;simp only[ao,aw,Nat.reduceEqDiff, ↓reduceIte]at e5 e11;have F:=F2 e5 e11;refine ah F ?_;refine aC F (fun hc=>?_) (fun hc=>?_)<;>(try exact hc.elim)
 ·obtain⟨y,hy,hym⟩:=am hc;have:=Elem.kid_sz hym;have:=y.name_len;rw[c9 hy,List.filter_cons]at hp;have F:=F2 F hy;refine ah F ?_;refine aE F (fM G y.name (by omega) _) ?_;refine aC F (fun hc=>?_) (fun hc=>?_)<;>(try exact hc.elim)<;>(refine ah F ?_)
  ·refine CW F ?_;(try refine ai F ?_);refine ah F ?_;refine hK2 _ _ _ (H3 ⟨k+1,v+1,acc++[y],_,rfl,aB,?_,?_,by omega,by simp;omega,by rw[E8 (by simp[hc])]at hp;rw[← hp];simp⟩) (by omega);all_goals first|exact az F|rfl|omega|trivial|skip
  ·refine hK2 _ _ _ (H3 ⟨k+1,v,acc,_,rfl,aB,?_,?_,by omega,by omega,by rw[E4 (by simp[hc])]at hp;exact hp⟩) (by omega);all_goals first|exact az F|rfl|omega|trivial|skip
 ·refine ah F ?_;refine au hQ F ?_;rw[eJ hc,List.filter_nil,H8]at hp;subst hp;exact T6 (qI (pre:=h++[.row 35 4 0 [e.av]]) (post:=j) _ (by simp;rfl) (by simp) (by omega)) ⟨rfl,rfl⟩
theorem fN(e:Elem)(n:Bs)(hs:e.sz≤1048576)(h:Heap):Sat (CT G) 46 [e.av,.str n] h (fun r h'=>r=.tup [(kidF e n).1.av,.bool (kidF e n).2]∧h'=h):=by
 refine sb [.cell 4 35,.tmp 5] Tryz.func46 ?_;intro Q hQ;refine ah trivial ?_;refine aE trivial (eF G e n hs _) ?_;refine aC trivial (fun hc=>?_) (fun hc=>?_)<;>(try exact hc.elim)<;>(refine ah trivial ?_)
 ·refine uq hQ trivial ?_;have hk:kidsF e n=[]:=J5.1 (by omega);simp only[kidF,hk];refine T6 ?_ ⟨rfl,rfl⟩;refine .tup _ _ rfl fun i c d hc hd=>?_
  match i with
  |0=>simp at hc hd;subst hc;subst hd;exact qJ _ _
  |1=>simp at hc hd;subst hc;subst hd;exact .clo _ (.bool _)
  |i+2=>simp at hc
 ·obtain⟨y,l,hk⟩:∃y l,kidsF e n=y::l:=by
   cases hq:kidsF e n with
   |nil=>rw[hq]at hc;simp at hc
   |cons y l=>exact⟨y,l,rfl⟩
  rw[hk];have h0:(y::l)[0]? =some y:=rfl;have F:=h0;refine ah F ?_;simp only[h0];try refine ai F ?_
  refine ah F ?_;refine uq hQ F ?_;simp only[kidF,hk];exact H9 (.tup _ (by intro c hc;simp at hc;rcases hc with rfl|rfl;exact Elem.clo _ _;exact .bool _)) ⟨rfl,rfl⟩
def idxF{α:Type}(p:α→Bool):List α→Nat→Int
 | [],_=> -1
 |a::l,k=>if p a then(k:Int)else idxF p l (k+1)
theorem nU{α:Type}(p:α→Bool):∀(l:List α) (k:Nat), -1≤idxF p l k∧idxF p l k<l.length+k
 | [],k=>by simp[idxF];omega
 |a::l,k=>by
  have:=nU p l (k+1);rw[idxF];split<;>(simp;omega)
theorem kH(p:At→Bool)(g:FuncId)(cap:List AVal)(l:List At)(hs:l.length≤1048576)(h:Heap)(hg:∀(a:At) (j:Heap),Sat (CT G) g (a.av::cap) (h++j) (fun r h'=>r=.bool (p a)∧h'=h++j)):
  Sat (CT G) 128 [.sl 2 (l.map At.av),.fn (.func g) [] cap] h (fun r h'=>r=.int .i64 (idxF p l 0)∧h'=h):=by
 refine sb [.tmp 4] Tryz.func128 ?_;intro Q hQ;refine ah trivial ?_;refine lm (fun nL tL hL=>∃(k:Nat),l.length-k=nL∧h=hL∧tL 8=.int .i64 k∧k≤l.length∧idxF p l 0=idxF p (l.drop k) k) ((fun(k:Nat)=>(l.length-k:Nat)) (0)) ?_ ?_
 ·refine H3 ⟨0,rfl,aB,?_,?_,?_⟩;all_goals first|exact az trivial|rfl|omega|trivial|skip
 rintro _ s2 h' ⟨k,rfl,rfl,e8,hk,hp⟩ K2 hK2;simp only[ao,aw,Nat.reduceEqDiff, ↓reduceIte]at e8;have F:=e8;refine ah F ?_;refine aC F (fun hc=>?_) (fun hc=>?_)<;>(try exact hc.elim)
 ·obtain⟨y,hy,hym⟩:=am hc;rw[c9 hy,idxF]at hp;have F:=F2 F hy;refine ah F ?_;have:=hg y [];rw[H8]at this;refine aE F (this) ?_;refine aC F (fun hc=>?_) (fun hc=>?_)<;>(try exact hc.elim)<;>(refine ah F ?_)
  ·refine au hQ F ?_;refine fR (.int _ _) ?_;rw[hp,E8 hc]
  ·refine hK2 _ _ _ (H3 ⟨k+1,rfl,aB,?_,by omega,by rw[hp,E4 (by simp[hc])]⟩) (by omega);all_goals first|exact az F|rfl|omega|trivial|skip
 ·refine ah F ?_;refine au hQ F ?_;refine fR (.int _ _) ?_;rw[hp,eJ hc];rfl
theorem qT(a:At)(n:Bs)(h j:Heap)(X:Blk):Sat (CT G) 129 [a.av,.hp (h.length+1) 0 0 0] (h++X:: .row 9 1 0 [.str n]::j) (fun r h'=>r=.bool (decide (a.1=n))∧h'=h++X:: .row 9 1 0 [.str n]::j):=by
 refine sb [.tmp 3] Tryz.func129 ?_;intro Q hQ;refine ah trivial ?_;refine au hQ trivial ?_;refine fR (.bool _) ?_;congr 1;rw[O3];simp
theorem nV{α:Type}(p:α→Bool):∀(l:List α) (k:Nat),idxF p l k= -1∨(k:Int)≤idxF p l k
 | [],k=>.inl rfl
 |a::l,k=>by
  have:=nV p l (k+1);rw[idxF];split
  ·exact .inr (Int.le_refl _)
  ·omega
theorem kh(n:Bs):∀(l:List At) (k:Nat),(idxF (fun a=>decide (a.1=n)) l k<0→attrF l n=([],false))∧(∀i:Nat,idxF (fun a=>decide (a.1=n)) l k=((k+i:Nat):Int)→∃a,l[i]? =some a∧attrF l n=(a.2,true))
 | [],k=>by refine⟨fun _=>rfl,fun i hi=>?_⟩;simp only[idxF]at hi;omega
 |a::l,k=>by
  obtain⟨h1,h2⟩:=kh n l (k+1);have hg:=nV (fun a:At=>decide (a.1=n)) l (k+1);by_cases hc:a.1=n
  ·simp only[idxF,hc,decide_true,if_true,attrF];refine⟨fun h=>by omega,fun i hi=>?_⟩;have:i=0:=(by omega);subst this;exact⟨a,rfl,rfl⟩
  ·simp only[idxF,hc,decide_false,G9,if_false,attrF];refine⟨h1,fun i hi=>?_⟩;cases i with
   |zero=>omega
   |succ i=>
    obtain⟨b,hb,hr⟩:=h2 i (by rw[hi];congr 1;omega);exact⟨b,by simpa using hb,hr⟩
theorem ki(e:Elem)(n:Bs)(hs:e.sz≤1048576)(h:Heap):Sat (CT G) 86 [e.av,.str n] h (fun r h'=>r=.tup [.str (attrF e.attrs n).1,.bool (attrF e.attrs n).2]∧h'=h):=by
 have hal:=e.attrs_len;have hb:=nU (fun a:At=>decide (a.1=n)) e.attrs 0;obtain⟨f1,f2⟩:=kh n e.attrs 0;have hi:=kH G (fun a=>decide (a.1=n)) 129 [.hp (h.length+1) 0 0 0] e.attrs (by omega) (h++[.row 35 4 0 [e.av],.row 9 1 0 [.str n]]) (fun a j=>by simpa using qT G a n h j _);generalize idxF (fun a:At=>decide (a.1=n)) e.attrs 0=x at hb f1 f2 hi;refine sb [.tmp 4,.tmp 5] Tryz.func86 ?_;intro Q hQ;refine ah trivial ?_;refine aE trivial (hi) ?_;refine aC trivial (fun hc=>?_) (fun hc=>?_)<;>(try exact hc.elim)
 ·refine ah trivial ?_;refine au hQ trivial ?_;refine fR (.tup _ (by simp[Clo.str,Clo.bool])) ?_;rw[f1 hc]
 ·obtain⟨i,rfl⟩:∃i:Nat,x=(i:Int):=⟨x.toNat,by omega⟩;obtain⟨a,ha,hr⟩:=f2 i (by simp);have F:=ha;refine ah F ?_;refine au hQ F ?_;refine fR (.tup _ (by simp[Clo.str,Clo.bool])) ?_;rw[hr]
def Elem.own(e:Elem):Nat:=1+e.name.length+szs At.sz e.attrs+e.text.length
section
variable {σ:Type} (A B:Elem→σ→σ)
end
section
end
section
end
end
section
def orcX(f:FuncId)(args:List AVal):Option AVal:=match orcL f args with
 |some r=>some r
 |none=>match args with
  | [.int .i32 c]=>if f=167 then some (.bool (beginF c))else if f=166 then some (.bool (moreF c))else none
  |_=>none
variable {G:Nat→Option (List AVal)}
theorem jy(hG:GOk G):OrcOk (CT G) orcX:=by
 intro f args r g h;unfold orcX at g;split at g
 ·rename_i e;cases g;exact nF hG f args _ e h
 ·split at g
  ·rename_i c _;split at g
   ·rename_i e;subst e;cases g;exact fy G c h
   ·split at g
    ·rename_i e;subst e;cases g;exact lF G c h
    ·cases g
  ·cases g
end
end Go.Av
