/- The program's date.reader: digits, signs, a fraction, zones, by pointer. -/
import Derived.Test.YtljohklbgahomaaGreatDoorMoTa
set_option linter.unusedSimpArgs false
set_option linter.unusedVariables false
set_option linter.unusedSectionVars false
set_option linter.unnecessarySimpa false
set_option maxRecDepth 100000
set_option maxHeartbeats 16000000
namespace Go.Av
open Go Go.Proofs Go.RowKit
variable (G:Nat→Option (List AVal))
theorem m9(s:Bs):∀k,k≤s.length→shortAt s k=s.drop (Lib.lastIdx ⟨s.toArray⟩ 58 k+1).toNat∧ -1≤Lib.lastIdx ⟨s.toArray⟩ 58 k∧Lib.lastIdx ⟨s.toArray⟩ 58 k<k:=by
 intro k
 induction k with
 |zero=>intro _;simp[shortAt,Lib.lastIdx]
 |succ k ih=>
  intro hk
  obtain⟨h1,h2,h3⟩:=ih (by omega)
  have hb:=List.getElem?_eq_getElem (show k<s.length by omega)
  have e:(⟨s.toArray⟩:ByteArray).data[k]! =s[k]:=by simp[hb]
  rw[shortAt,hb]
  have e2:Lib.lastIdx ⟨s.toArray⟩ 58 (k+1)=if (s[k].toNat:Int)=58 then(k:Int)else Lib.lastIdx ⟨s.toArray⟩ 58 k:=by
   rw[Lib.lastIdx,e]
  rw[e2]
  by_cases hc:s[k]=58
  ·rw[if_pos (by rw[hc]),if_pos (by rw[hc];rfl)]
   refine⟨congrArg s.drop (by omega),by omega,by omega⟩
  ·have:¬(s[k].toNat:Int)=58:=fun h=>hc ((kX (k:=58) (by omega)).1 h)
   rw[if_neg (by simpa using hc),if_neg this]
   exact⟨h1,h2,by omega⟩
theorem nk(s:Bs):short s=s.drop (Lib.lastIndexByte ⟨s.toArray⟩ 58+1).toNat∧ -1≤Lib.lastIndexByte ⟨s.toArray⟩ 58∧Lib.lastIndexByte ⟨s.toArray⟩ 58<s.length:=by
 have h:(⟨s.toArray⟩:ByteArray).size=s.length:=by simp[ByteArray.size]
 have:=m9 s s.length (Nat.le_refl _)
 unfold Lib.lastIndexByte short
 rw[h];exact this
end Go.Av
namespace Go.Av
open Go Go.Proofs Go.RowKit
attribute [local irreducible] WP WPl WPix Sat
variable (G:Nat→Option (List AVal))
theorem dZ(s:Bs)(hs:s.length≤1048576)(h:Heap):Sat (CT G) 47 [.str s] h (fun r h'=>r=.str (short s)∧h'=h):=by
 obtain⟨h1,h2,h3⟩:=nk s
 have hl:=cN G s 58 (by omega)
 generalize Lib.lastIndexByte ⟨s.toArray⟩ 58=n at h1 h2 h3 hl
 refine sb [.tmp 2] (fn:=Tryz.f47) Tryz.func47 ?_
 intro Q hQ
 refine am trivial ?_
 refine eA trivial (hl _) ?_
 refine bi hQ trivial ?_
 refine fR (.str _) ?_
 rw[h1]
theorem dp(e:Elem)(n:Bs)(hs:e.sz≤1048576)(h:Heap):Sat (CT G) 49 [e.av,.str n] h (fun r h'=>r=.sl 4 ((kidsF e n).map Elem.av)∧h'=h):=by
 have hkl:=e.kids_len
 refine sb [.tmp 4] (fn:=Tryz.f49) Tryz.func49 ?_
 intro Q hQ
 refine am trivial ?_
 refine lm (fun nL tL hL=>∃(k v:Nat) (acc:List Elem) (j:Heap),e.kids.length-k=nL∧h++ .row 35 4 0 [e.av]:: .row 35 4 v (acc.map Elem.av)::j=hL∧tL 5=.hs (h.length+1) v 0 acc.length true∧tL 11=.int .i64 k∧k≤e.kids.length∧acc.length≤k∧acc++(e.kids.drop k).filter (fun k=>decide (short k.name=n))=kidsF e n) ((fun(k v:Nat) (acc:List Elem) (j:Heap)=>(e.kids.length-k:Nat)) (0) (0) ([]) ([])) ?_ ?_
 ·refine⟨_,_,Weak.virt 5 35 4 (by simp) (by omega) (by exact aZ trivial),⟨0,0,[],[],rfl,ay,?_,?_,?_,?_,?_⟩⟩
  all_goals first|exact aZ trivial|rfl|omega|trivial|skip
 rintro _ s2 h' ⟨k,v,acc,j,rfl,rfl,e5,e11,hk,hl,hp⟩ K2 hK2
 simp only[ak,ao,Nat.reduceEqDiff, ↓reduceIte]at e5 e11
 have F:=F2 e5 e11
 refine am F ?_
 refine bI F (fun hc=>?_) (fun hc=>?_)<;>(try exact hc.elim)
 ·obtain⟨y,hy,hym⟩:=af hc
  have:=Elem.kid_sz hym
  have:=y.name_len
  rw[aD hy,List.filter_cons]at hp
  have F:=F2 F hy
  refine am F ?_
  refine eA F (dZ G y.name (by omega) _) ?_
  refine bI F (fun hc=>?_) (fun hc=>?_)<;>(try exact hc.elim)<;>(refine am F ?_)
  ·refine uc F ?_
   try refine bB F ?_
   refine am F ?_
   refine hK2 _ _ _ (Wkn.refl ⟨k+1,v+1,acc++[y],_,rfl,ay,?_,?_,by omega,by simp;omega,by rw[if_pos (by simp[hc])]at hp;rw[← hp];simp⟩) (by omega)
   all_goals first|exact aZ F|rfl|omega|trivial|skip
  ·refine hK2 _ _ _ (Wkn.refl ⟨k+1,v,acc,_,rfl,ay,?_,?_,by omega,by omega,by rw[if_neg (by simp[hc])]at hp;exact hp⟩) (by omega)
   all_goals first|exact aZ F|rfl|omega|trivial|skip
 ·refine am F ?_
  refine bi hQ F ?_
  rw[aY hc,List.filter_nil,List.append_nil]at hp
  subst hp
  exact Fin.frz (iH (pre:=h++[.row 35 4 0 [e.av]]) (post:=j) _ (by simp;rfl) (by simp) (by omega)) ⟨rfl,rfl⟩
theorem ea(e:Elem)(n:Bs)(hs:e.sz≤1048576)(h:Heap):Sat (CT G) 46 [e.av,.str n] h (fun r h'=>r=.tup [(kidF e n).1.av,.bool (kidF e n).2]∧h'=h):=by
 refine sb [.cell 4 35,.tmp 5] (fn:=Tryz.f46) Tryz.func46 ?_
 intro Q hQ
 refine am trivial ?_
 refine eA trivial (dp G e n hs _) ?_
 refine bI trivial (fun hc=>?_) (fun hc=>?_)<;>(try exact hc.elim)<;>(refine am trivial ?_)
 ·refine pc hQ trivial ?_
  have hk:kidsF e n=[]:=List.length_eq_zero_iff.1 (by omega)
  simp only[kidF,hk]
  refine Fin.frz ?_ ⟨rfl,rfl⟩
  refine .tup _ _ rfl fun i c d hc hd=>?_
  match i with
  |0=>simp at hc hd;subst hc;subst hd;exact iI _ _
  |1=>simp at hc hd;subst hc;subst hd;exact .clo _ (.bool _)
  |i+2=>simp at hc
 ·obtain⟨y,l,hk⟩:∃y l,kidsF e n=y::l:=by
   cases hq:kidsF e n with
   |nil=>rw[hq]at hc;simp at hc
   |cons y l=>exact⟨y,l,rfl⟩
  rw[hk]
  have h0:(y::l)[0]? =some y:=rfl
  have F:=h0
  refine am F ?_
  simp only[h0]
  try refine bB F ?_
  refine am F ?_
  refine pc hQ F ?_
  simp only[kidF,hk]
  exact Fin.plain (.tup _ (by intro c hc;simp at hc;rcases hc with rfl|rfl;exact Elem.clo _ _;exact .bool _)) ⟨rfl,rfl⟩
def idxF{α:Type}(p:α→Bool):List α→Nat→Int
 | [],_=> -1
 |a::l,k=>if p a then(k:Int)else idxF p l (k+1)
theorem kY{α:Type}(p:α→Bool):∀(l:List α) (k:Nat), -1≤idxF p l k∧idxF p l k<l.length+k
 | [],k=>by simp[idxF];omega
 |a::l,k=>by
  have:=kY p l (k+1)
  rw[idxF];split<;>(simp;omega)
theorem j4(p:At→Bool)(g:FuncId)(cap:List AVal)(l:List At)(hs:l.length≤1048576)(h:Heap)(hg:∀(a:At) (j:Heap),Sat (CT G) g (a.av::cap) (h++j) (fun r h'=>r=.bool (p a)∧h'=h++j)):
  Sat (CT G) 128 [.sl 2 (l.map At.av),.fn (.func g) [] cap] h (fun r h'=>r=.int .i64 (idxF p l 0)∧h'=h):=by
 refine sb [.tmp 4] (fn:=Tryz.f128) Tryz.func128 ?_
 intro Q hQ
 refine am trivial ?_
 refine lm (fun nL tL hL=>∃(k:Nat),l.length-k=nL∧h=hL∧tL 8=.int .i64 k∧k≤l.length∧idxF p l 0=idxF p (l.drop k) k) ((fun(k:Nat)=>(l.length-k:Nat)) (0)) ?_ ?_
 ·refine Wkn.refl ⟨0,rfl,ay,?_,?_,?_⟩
  all_goals first|exact aZ trivial|rfl|omega|trivial|skip
 rintro _ s2 h' ⟨k,rfl,rfl,e8,hk,hp⟩ K2 hK2
 simp only[ak,ao,Nat.reduceEqDiff, ↓reduceIte]at e8
 have F:=e8
 refine am F ?_
 refine bI F (fun hc=>?_) (fun hc=>?_)<;>(try exact hc.elim)
 ·obtain⟨y,hy,hym⟩:=af hc
  rw[aD hy,idxF]at hp
  have F:=F2 F hy
  refine am F ?_
  have:=hg y []
  rw[List.append_nil]at this
  refine eA F (this) ?_
  refine bI F (fun hc=>?_) (fun hc=>?_)<;>(try exact hc.elim)<;>(refine am F ?_)
  ·refine bi hQ F ?_
   refine fR (.int _ _) ?_
   rw[hp,if_pos hc]
  ·refine hK2 _ _ _ (Wkn.refl ⟨k+1,rfl,ay,?_,by omega,by rw[hp,if_neg (by simp[hc])]⟩) (by omega)
   all_goals first|exact aZ F|rfl|omega|trivial|skip
 ·refine am F ?_
  refine bi hQ F ?_
  refine fR (.int _ _) ?_
  rw[hp,aY hc];rfl
end Go.Av
namespace Go.Av
open Go Go.Proofs Go.RowKit
attribute [local irreducible] WP WPl WPix Sat
variable (G:Nat→Option (List AVal))
theorem nl(a:At)(n:Bs)(h j:Heap)(X:Blk):Sat (CT G) 129 [a.av,.hp (h.length+1) 0 0 0] (h++X:: .row 9 1 0 [.str n]::j) (fun r h'=>r=.bool (decide (a.1=n))∧h'=h++X:: .row 9 1 0 [.str n]::j):=by
 refine sb [.tmp 3] (fn:=Tryz.f129) Tryz.func129 ?_
 intro Q hQ
 refine am trivial ?_
 refine bi hQ trivial ?_
 refine fR (.bool _) ?_
 congr 1;rw[Bool.eq_iff_iff];simp
theorem kZ{α:Type}(p:α→Bool):∀(l:List α) (k:Nat),idxF p l k= -1∨(k:Int)≤idxF p l k
 | [],k=>.inl rfl
 |a::l,k=>by
  have:=kZ p l (k+1)
  rw[idxF];split
  ·exact .inr (Int.le_refl _)
  ·omega
theorem iK(n:Bs):∀(l:List At) (k:Nat),(idxF (fun a=>decide (a.1=n)) l k<0→attrF l n=([],false))∧(∀i:Nat,idxF (fun a=>decide (a.1=n)) l k=((k+i:Nat):Int)→∃a,l[i]? =some a∧attrF l n=(a.2,true))
 | [],k=>by refine⟨fun _=>rfl,fun i hi=>?_⟩;simp only[idxF]at hi;omega
 |a::l,k=>by
  obtain⟨h1,h2⟩:=iK n l (k+1)
  have hg:=kZ (fun a:At=>decide (a.1=n)) l (k+1)
  by_cases hc:a.1=n
  ·simp only[idxF,hc,decide_true,if_true,attrF]
   refine⟨fun h=>by omega,fun i hi=>?_⟩
   have:i=0:=(by omega);subst this;exact⟨a,rfl,rfl⟩
  ·simp only[idxF,hc,decide_false,Bool.false_eq_true,if_false,attrF]
   refine⟨h1,fun i hi=>?_⟩
   cases i with
   |zero=>omega
   |succ i=>
    obtain⟨b,hb,hr⟩:=h2 i (by rw[hi];congr 1;omega)
    exact⟨b,by simpa using hb,hr⟩
theorem iL(e:Elem)(n:Bs)(hs:e.sz≤1048576)(h:Heap):Sat (CT G) 86 [e.av,.str n] h (fun r h'=>r=.tup [.str (attrF e.attrs n).1,.bool (attrF e.attrs n).2]∧h'=h):=by
 have hal:=e.attrs_len
 have hb:=kY (fun a:At=>decide (a.1=n)) e.attrs 0
 obtain⟨f1,f2⟩:=iK n e.attrs 0
 have hi:=j4 G (fun a=>decide (a.1=n)) 129 [.hp (h.length+1) 0 0 0] e.attrs (by omega) (h++[.row 35 4 0 [e.av],.row 9 1 0 [.str n]]) (fun a j=>by simpa using nl G a n h j _)
 generalize idxF (fun a:At=>decide (a.1=n)) e.attrs 0=x at hb f1 f2 hi
 refine sb [.tmp 4,.tmp 5] (fn:=Tryz.f86) Tryz.func86 ?_
 intro Q hQ
 refine am trivial ?_
 refine eA trivial (hi) ?_
 refine bI trivial (fun hc=>?_) (fun hc=>?_)<;>(try exact hc.elim)
 ·refine am trivial ?_
  refine bi hQ trivial ?_
  refine fR (.tup _ (by simp[Clo.str,Clo.bool])) ?_
  rw[f1 hc]
 ·obtain⟨i,rfl⟩:∃i:Nat,x=(i:Int):=⟨x.toNat,by omega⟩
  obtain⟨a,ha,hr⟩:=f2 i (by simp)
  have F:=ha
  refine am F ?_
  refine bi hQ F ?_
  refine fR (.tup _ (by simp[Clo.str,Clo.bool])) ?_
  rw[hr]
end Go.Av
namespace Go.Av
open Go Go.Proofs Go.RowKit
attribute [local irreducible] WP WPl WPix Sat
variable (G:Nat→Option (List AVal))
end Go.Av
namespace Go.Av
open Go Go.Proofs Go.RowKit
attribute [local irreducible] WP WPl WPix Sat
variable (G:Nat→Option (List AVal))
def Elem.own(e:Elem):Nat:=1+e.name.length+szs At.sz e.attrs+e.text.length
section
variable {σ:Type} (A B:Elem→σ→σ)
end
section
end
end Go.Av
namespace Go.Av
open Go Go.Proofs Go.RowKit
attribute [local irreducible] WP WPl WPix Sat
variable (G:Nat→Option (List AVal))
section
end
end Go.Av
namespace Go.Av
open Go Go.Proofs Go.RowKit
attribute [local irreducible] WP WPl WPix Sat
variable (G:Nat→Option (List AVal))
end Go.Av
namespace Go.Av
open Go Go.Proofs Go.RowKit
attribute [local irreducible] WP WPl WPix Sat
variable (G:Nat→Option (List AVal))
end Go.Av
namespace Go.Av
open Go Go.Proofs Go.RowKit
def orcX(f:FuncId)(args:List AVal):Option AVal:=match orcL f args with
 |some r=>some r
 |none=>match args with
  | [.int .i32 c]=>if f=167 then some (.bool (beginF c))else if f=166 then some (.bool (moreF c))else none
  |_=>none
variable {G:Nat→Option (List AVal)}
theorem ib(hG:GOk G):OrcOk (CT G) orcX:=by
 intro f args r g h
 unfold orcX at g
 split at g
 ·rename_i e;cases g;exact pB hG f args _ e h
 ·split at g
  ·rename_i c _
   split at g
   ·rename_i e;subst e;cases g;exact gF G c h
   ·split at g
    ·rename_i e;subst e;cases g;exact oQ G c h
    ·cases g
  ·cases g
end Go.Av
namespace Go.Av
open Go Go.Proofs Go.RowKit
attribute [local irreducible] WP WPl WPix Sat
variable (G:Nat→Option (List AVal))
abbrev dR(s:Bs)(b:Bool):Blk:=.row 188 2 0 [.agg [.str s,.bool b]]
theorem np(n:Nat)(s:Bs)(b:Bool):CloB n (dR s b):=by
 intro r hr
 simp only[List.mem_singleton]at hr;subst hr
 exact .agg _ (by intro c hc;simp at hc;rcases hc with rfl|rfl;exact .str _;exact .bool _)
theorem gG{H j:Heap}{p:Nat}{s:Bs}{b:Bool}{x:AVal}(hx:∀n,Clo n x):Fin H (H.set p (dR s b)++j) (fun r h'=>r=x∧h'=H.set p (dR s b)) x:=
 Fin.keep (List.length_set ..) (jo (np _ _ _)) (hx _) ⟨rfl,rfl⟩
theorem aM{H:Heap}{p:Nat}{s:Bs}{b:Bool}{x:AVal}(hx:∀n,Clo n x):Fin H (H.set p (dR s b)) (fun r h'=>r=x∧h'=H.set p (dR s b)) x:=
 Fin.keep0 (List.length_set ..) (jo (np _ _ _)) (hx _) ⟨rfl,rfl⟩
theorem lc{s:Bs}{k:Nat}{c:UInt8}(h:s[k]? =some c):(digB c=true→dec s k=(c.toNat,1)∧48≤c.toNat∧c.toNat≤57)∧(digB c=false→(dec s k).1<48∨57<(dec s k).1):=by
 unfold digB
 by_cases ha:c.toNat<128
 ·rw[eZ s k c h ha]
  constructor
  ·intro hd;simp only[Bool.and_eq_true,decide_eq_true_eq]at hd;exact⟨rfl,hd⟩
  ·intro hd
   simp only[Bool.and_eq_false_iff,decide_eq_false_iff_not]at hd
   show c.toNat<48∨57<c.toNat
   omega
 ·have hd:=jC s k c h (by omega)
  constructor
  ·intro hd;simp only[Bool.and_eq_true,decide_eq_true_eq]at hd;omega
  ·intro _;omega
theorem fh:∀(a:Bs) (n:Int) (c:UInt8),numA n (a++[c])=10*numA n a+((c.toNat:Int)-48)
 | [],n,c=>rfl
 |d::a,n,c=>fh a _ c
theorem fD:∀(a:Bs),a.all digB=true→0≤numA 0 a∧numA 0 a<(10:Int)^a.length:=by
 have key:∀(a:Bs) (n:Int),0≤n→a.all digB=true→0≤numA n a∧numA n a<(n+1)*(10:Int)^a.length:=by
  intro a
  induction a with
  |nil=>intro n hn _;simp[numA];omega
  |cons c a ih=>
   intro n hn h
   simp only[List.all_cons,Bool.and_eq_true,digB,decide_eq_true_eq]at h
   obtain⟨h1,h2⟩:=h
   obtain⟨i1,i2⟩:=ih (10*n+((c.toNat:Int)-48)) (by omega) (by simpa [digB]using h2)
   refine⟨i1,Int.lt_of_lt_of_le i2 ?_⟩
   rw[List.length_cons,Int.pow_succ,Int.mul_comm _ 10, ← Int.mul_assoc]
   exact Int.mul_le_mul_of_nonneg_right (by omega) (Int.le_of_lt (Int.pow_pos (by omega)))
 intro a h
 have:=key a 0 (by omega) h
 simpa using this
theorem aR{r r':Rdr}{w:Nat}{n:Int}(e:r.digits w=(n,r')):0≤n∧n<(10:Int)^w:=by
 have hp:(0:Int)<10^w:=Int.pow_pos (by omega)
 unfold Rdr.digits at e
 split at e
 ·cases e;omega
 ·rename_i hl
  split at e
  ·rename_i ha
   cases e
   have:=fD _ ha
   rw[List.length_take,Nat.min_eq_left (by omega)]at this
   exact this
  ·cases e;omega
theorem aL{s s':Bs}{b b':Bool}{w:Nat}{n:Int}(e:(Rdr.mk s b).digits w=(n,⟨s',b'⟩))(hw:w≤9)(hs:s.length≤1073741824){H:Heap}{p:Nat}(hg:getRow H p 0=some (188,2,[.agg [.str s,.bool b]])):
  Sat (CT G) 197 [.hp p 0 0 0,.int .i64 w] H (fun r h'=>r=.int .i64 n∧h'=H.set p (dR s' b')):=by
 have hp:=bK hg
 have hgj:∀j,getRow (H++j) p 0=some (188,2,[.agg [.str s,.bool b]]):=fun j=>by rw[fb _ hp];exact hg
 unfold Rdr.digits at e
 by_cases hl:s.length<w
 ·rw[if_pos hl]at e;cases e
  have d1:=decide_eq_true hl
  have F:=F2 hg d1
  refine sb [.tmp 4] (fn:=Tryz.f197) Tryz.func197 ?_
  intro Q hQ
  refine wk F ?_
  refine ee hQ F ?_
  exact aM (fun _=>.int _ _)
 ·rw[if_neg hl]at e
  have d1:=decide_eq_false hl
  have hwl:w≤s.length:=by omega
  have hp9:∀k,k≤w→(10:Int)^k≤1000000000:=fun k hk=>by
   have:(10:Nat)^k≤10^9:=Nat.pow_le_pow_right (by omega) (by omega)
   have:((10^k:Nat):Int)≤((10^9:Nat):Int):=by omega
   simpa using this
  have htl:(s.take w).length=w:=by rw[List.length_take];omega
  have F:=F8 hg hgj hp d1 hwl @oK @dj @nh
  refine sb [.tmp 4] (fn:=Tryz.f197) Tryz.func197 ?_
  intro Q hQ
  refine wk F ?_
  refine lm (fun nL tL hL=>∃(k:Nat) (m:Int),w-k=nL∧H++[.iter (s.take w) k]=hL∧tL 5=.int .i64 m∧k≤w∧m=numA 0 ((s.take w).take k)∧((s.take w).take k).all digB=true) ((fun(k:Nat) (m:Int)=>(w-k:Nat)) (0) (0)) ?_ ?_
  ·refine Wkn.refl ⟨0,0,rfl,ay,?_,by omega,rfl,rfl⟩
   all_goals first|exact zq F|rfl|omega|trivial|skip
  rintro _ s2 h' ⟨k,m,rfl,rfl,e5,hk,hm,ha⟩ K2 hK2
  simp only[ak,ao,Nat.reduceEqDiff, ↓reduceIte]at e5
  have F:=F2 F e5
  refine wk F ?_
  refine dN (i8 _ _ _ _) (fun hlt=>?_) (fun hge=>?_)
  ·obtain⟨c,hc,_⟩:=af hlt
   obtain⟨h1,h2⟩:=lc hc
   have htk:=List.take_add_one (l:=s.take w) (i:=k)
   rw[hc]at htk
   have htk:(s.take w).take (k+1)=(s.take w).take k++[c]:=htk
   have hbd:=fD _ ha
   rw[List.length_take,htl,Nat.min_eq_left hk]at hbd
   have h9:=hp9 k hk
   unfold dec at h1 h2
   cases hd:digB c with
   |true=>
    obtain⟨h1,h48,h57⟩:=h1 hd
    rw[h1]
    have q1:decide ((c.toNat:Int)<48)=false:=by simp;omega
    have q2:decide ((c.toNat:Int)>57)=false:=by simp;omega
    have hn:=fh ((s.take w).take k) 0 c
    rw[← htk, ← hm]at hn
    rw[← hm]at hbd
    have F:=F3 F q1 q2
    try refine sq F ?_
    refine wk F ?_
    refine hK2 _ _ _ (Wkn.refl ⟨k+1,10*m+((c.toNat:Int)-48),rfl,ay,?_,by omega,hn.symm,by rw[htk,List.all_append,ha];simp[hd]⟩) (by omega)
    all_goals first|exact zq F|rfl|omega|trivial|skip
   |false=>
    have h2:=h2 hd
    have hall:((s.take w).all digB)=false:=by
     cases hx:(s.take w).all digB with
     |false=>rfl
     |true=>rw[List.all_eq_true.1 hx c (List.mem_of_getElem? hc)]at hd;cases hd
    rw[if_neg (by rw[hall];simp)]at e
    cases e
    generalize (Utf8.decode ⟨(s.take w).toArray⟩ k).1=rn at*
    by_cases q:rn<48
    ·have q1:decide ((rn:Int)<48)=true:=by simp;omega
     have F:=F2 F q1
     try refine sq F ?_
     refine wk F ?_
     refine ee hQ F ?_
     exact gG (fun _=>.int _ _)
    ·have q1:decide ((rn:Int)<48)=false:=by simp;omega
     have q2:decide ((rn:Int)>57)=true:=by simp;omega
     have F:=F3 F q1 q2
     try refine sq F ?_
     refine wk F ?_
     refine ee hQ F ?_
     exact gG (fun _=>.int _ _)
  ·rw[List.take_of_length_le (by omega)]at hm ha
   rw[if_pos ha]at e
   cases e
   try refine sq F ?_
   refine wk F ?_
   refine ee hQ F ?_
   rw[hm]
   exact gG (fun _=>.int _ _)
theorem pQ(l:Bs)(c:UInt8):(Lib.indexByte l c<0↔c ∉ l)∧ -1≤Lib.indexByte l c:=by
 induction l with
 |nil=>simp[Lib.indexByte]
 |cons b l ih=>
  unfold Lib.indexByte
  by_cases h:b=c
  ·subst h;simp
  ·have h1:(b==c)=false:=by simpa using h
   have h2:¬c=b:=fun e=>h e.symm
   simp only[h1,Bool.false_eq_true,if_false,List.mem_cons,h2,false_or]
   by_cases k:Lib.indexByte l c= -1
   ·simp only[k,beq_self_eq_true,if_true]
    constructor
    ·constructor
     ·intro _;exact ih.1.1 (by omega)
     ·intro _;omega
    ·omega
   ·have k1:(Lib.indexByte l c== -1)=false:=by simpa using k
    simp only[k1,Bool.false_eq_true,if_false]
    constructor
    ·constructor
     ·intro hh;omega
     ·intro hh;have:=ih.1.2 hh;omega
    ·omega
theorem cH{s s':Bs}{b b':Bool}{l:Bs}{n:Int}(e:(Rdr.mk s b).sign l=(n,⟨s',b'⟩)){H:Heap}{p:Nat}(hg:getRow H p 0=some (188,2,[.agg [.str s,.bool b]])):
  Sat (CT G) 198 [.hp p 0 0 0,.str l] H (fun r h'=>r=.int .u8 n∧h'=H.set p (dR s' b')):=by
 have hp:=bK hg
 unfold Rdr.sign at e
 cases s with
 |nil=>
  cases e
  have z:(([]:Bs)==[])=true:=rfl
  have F:=F2 hg z
  refine sb [.tmp 4] (fn:=Tryz.f198) Tryz.func198 ?_
  intro Q hQ
  refine wk F ?_
  refine ee hQ F ?_
  exact aM (fun _=>.int _ _)
 |cons c t=>
  have hx:=pQ l c
  have z:((c::t)==([]:Bs))=false:=rfl
  simp only[]at e
  by_cases hm:c∈l
  ·rw[if_pos hm]at e
   cases e
   have q1:decide (Lib.indexByte l c<0)=false:=decide_eq_false fun k=>hx.1.1 k hm
   have F:=F3 hg z q1
   refine sb [.tmp 4] (fn:=Tryz.f198) Tryz.func198 ?_
   intro Q hQ
   refine wk F ?_
   refine kq F (cg G l c _) ?_
   refine ee hQ F ?_
   exact aM (fun _=>.int _ _)
  ·rw[if_neg hm]at e
   cases e
   have q1:decide (Lib.indexByte l c<0)=true:=decide_eq_true (hx.1.2 hm)
   have F:=F3 hg z q1
   refine sb [.tmp 4] (fn:=Tryz.f198) Tryz.func198 ?_
   intro Q hQ
   refine wk F ?_
   refine kq F (cg G l c _) ?_
   refine ee hQ F ?_
   exact aM (fun _=>.int _ _)
theorem bO(n a b:Int)(h:Heap):Sat (CT G) 125 [.int .i64 n,.int .i64 a,.int .i64 b] h (fun r h'=>r=.bool (decide (a≤n)&&decide (n≤b))∧h'=h):=by
 by_cases k:a≤n
 ·have k2:decide (n≥a)=true:=by simpa using k
  have F:=k2
  refine sb [.tmp 6] (fn:=Tryz.f125) Tryz.func125 ?_
  intro Q hQ
  refine wk F ?_
  refine ee hQ F ?_
  exact Fin.same (.bool _) ⟨by simp[k],rfl⟩
 ·have k2:decide (n≥a)=false:=by simpa using k
  have F:=k2
  refine sb [.tmp 6] (fn:=Tryz.f125) Tryz.func125 ?_
  intro Q hQ
  refine wk F ?_
  refine ee hQ F ?_
  exact Fin.same (.bool _) ⟨by simp[k],rfl⟩
theorem oS{s:Bs}{b:Bool}(hs:s.length≤1073741824){H:Heap}{p:Nat}(hg:getRow H p 0=some (188,2,[.agg [.str s,.bool b]])):
  Sat (CT G) 220 [.hp p 0 0 0] H (fun r h'=>r=.int .i64 (s.takeWhile digB).length∧h'=H):=by
 have hp:=bK hg
 have hgj:∀j,getRow (H++j) p 0=some (188,2,[.agg [.str s,.bool b]]):=fun j=>by rw[fb _ hp];exact hg
 have F:=F2 hg hgj
 refine sb [.tmp 2] (fn:=Tryz.f220) Tryz.func220 ?_
 intro Q hQ
 refine wk F ?_
 refine lm (fun nL tL hL=>∃(k:Nat),s.length-k=nL∧H++[.iter s k]=hL∧k≤s.length∧(∀i,i<k→∀c,s[i]? =some c→digB c=true)) ((fun(k:Nat)=>(s.length-k:Nat)) (0)) ?_ ?_
 ·refine Wkn.refl ⟨0,rfl,ay,by omega,fun i hi=>by omega⟩
  all_goals first|exact zq F|rfl|omega|trivial|skip
 rintro _ s2 h' ⟨k,rfl,rfl,hk,hq⟩ K2 hK2
 refine wk F ?_
 refine dN (i8 _ _ _ _) (fun hlt=>?_) (fun hge=>?_)
 ·obtain⟨c,hc,_⟩:=af hlt
  obtain⟨h1,h2⟩:=lc hc
  unfold dec at h1 h2
  cases hd:digB c with
  |true=>
   obtain⟨h1,h48,h57⟩:=h1 hd
   rw[h1]
   have q1:decide ((c.toNat:Int)<48)=false:=by simp;omega
   have q2:decide ((c.toNat:Int)>57)=false:=by simp;omega
   have hq1:∀i,i<k+1→∀c,s[i]? =some c→digB c=true:=fun i hi c' hc2=>by
    rcases Nat.lt_or_ge i k with h1|h1
    ·exact hq i h1 c' hc2
    ·obtain rfl:i=k:=by omega
     rw[hc]at hc2;cases hc2;exact hd
   have F:=F3 F q1 q2
   try refine sq F ?_
   refine wk F ?_
   refine hK2 _ _ _ (Wkn.refl ⟨k+1,rfl,ay,by omega,hq1⟩) (by omega)
   all_goals first|exact zq F|rfl|omega|trivial|skip
  |false=>
   have h2:=h2 hd
   obtain⟨e1,_⟩:=m8 digB s k hq hk (.inr ⟨_,hc,hd⟩)
   have el:(s.takeWhile digB).length=k:=by rw[e1,List.length_take];omega
   generalize (Utf8.decode ⟨s.toArray⟩ k).1=rn at*
   by_cases q:rn<48
   ·have q1:decide ((rn:Int)<48)=true:=by simp;omega
    have F:=F2 F q1
    try refine sq F ?_
    refine wk F ?_
    refine ee hQ F ?_
    rw[el]
    exact Fin.plain (.int _ _) ⟨rfl,rfl⟩
   ·have q1:decide ((rn:Int)<48)=false:=by simp;omega
    have q2:decide ((rn:Int)>57)=true:=by simp;omega
    have F:=F3 F q1 q2
    try refine sq F ?_
    refine wk F ?_
    refine ee hQ F ?_
    rw[el]
    exact Fin.plain (.int _ _) ⟨rfl,rfl⟩
 ·obtain⟨e1,_⟩:=m8 digB s s.length (fun i hi=>hq i (by omega)) (Nat.le_refl _) (.inl rfl)
  have el:(s.takeWhile digB).length=s.length:=by rw[e1,List.length_take];omega
  try refine sq F ?_
  refine wk F ?_
  refine ee hQ F ?_
  rw[el]
  exact Fin.plain (.int _ _) ⟨rfl,rfl⟩
theorem mc{s s':Bs}{b b':Bool}(e:(Rdr.mk s b).point=⟨s',b'⟩)(hs:s.length≤1073741824){H:Heap}{p:Nat}(hg:getRow H p 0=some (188,2,[.agg [.str s,.bool b]])):
  Sat (CT G) 199 [.hp p 0 0 0] H (fun r h'=>r=.tup []∧h'=H.set p (dR s' b')):=by
 have hp:=bK hg
 have hP:=eC G s [46]
 have hset:H.set p (dR s b)=H:=by
  refine List.ext_getElem? fun i=>?_
  by_cases k:p=i
  ·subst k;rw[List.getElem?_set_self hp];exact(cw hg).symm
  ·rw[List.getElem?_set_ne k]
 have same:(Rdr.mk s b).point=⟨s,b⟩→Lib.hasPrefix s [46]=false→Sat (CT G) 199 [.hp p 0 0 0] H (fun r h'=>r=.tup []∧h'=H.set p (dR s' b')):=fun e2 h46=>by
  rw[e2]at e
  cases e
  rw[h46]at hP
  have F:=hg
  refine sb [] (fn:=Tryz.f199) Tryz.func199 ?_
  intro Q hQ
  refine wk F ?_
  refine kq F (hP _) ?_
  refine ee hQ F ?_
  rw[hset]
  exact Fin.same (.tup _ (by simp)) ⟨rfl,rfl⟩
 cases s with
 |nil=>exact same rfl rfl
 |cons c t=>
  by_cases hc:c=46
  rotate_left
  ·refine same ?_ (by
   have k:(46==c)=false:=by simpa using fun e:(46:UInt8)=c=>hc e.symm
   simp[Lib.hasPrefix,List.isPrefixOf,k])
   unfold Rdr.point
   split
   ·rename_i h;simp only[List.cons.injEq]at h;exact absurd h.1 hc
   ·rfl
  subst hc
  have h46:Lib.hasPrefix (46::t) [46]=true:=by simp[Lib.hasPrefix]
  rw[h46]at hP
  have e2:(Rdr.mk (46::t) b).point=⟨t.drop (t.takeWhile digB).length,b|| !(decide (1≤(t.takeWhile digB).length)&&decide ((t.takeWhile digB).length≤9))⟩:=rfl
  rw[e2]at e
  cases e
  have htl:t.length≤1073741824:=by simp at hs;omega
  have hg1:getRow (H.set p (dR t b)) p 0=some (188,2,[.agg [.str t,.bool b]]):=by rw[j7 _ _ _ _ _ hp];rfl
  have hR:=oS G htl hg1
  have hW:=bO G ((t.takeWhile digB).length:Int) 1 9
  have hle:=qO t
  have eb:(decide ((1:Int)≤((t.takeWhile digB).length:Int))&&decide (((t.takeWhile digB).length:Int)≤9))=(decide (1≤(t.takeWhile digB).length)&&decide ((t.takeWhile digB).length≤9)):=by
   congr 1
   ·exact decide_eq_decide.2 (by omega)
   ·exact decide_eq_decide.2 (by omega)
  rw[eb]at hW
  generalize (t.takeWhile digB).length=n at*
  generalize (decide (1≤n)&&decide (n≤9))=v at*
  have h1l:1≤(46::t).length:=by simp
  have hd1:(46::t).drop 1=t:=rfl
  have F:=F7 hg @h1l hd1 hg1 hp hle @ai
  cases b with
  |true=>
   simp only[Bool.true_or]at*
   refine sb [] (fn:=Tryz.f199) Tryz.func199 ?_
   intro Q hQ
   refine wk F ?_
   refine kq F (hP _) ?_
   refine kq F (hR) ?_
   refine ee hQ F ?_
   exact aM (fun _=>.tup _ (by simp))
  |false=>
   simp only[Bool.false_or]at*
   refine sb [] (fn:=Tryz.f199) Tryz.func199 ?_
   intro Q hQ
   refine wk F ?_
   refine kq F (hP _) ?_
   refine kq F (hR) ?_
   refine kq F (hW _) ?_
   refine ee hQ F ?_
   exact aM (fun _=>.tup _ (by simp))
end Go.Av
