/- Parts. -/
import Derived.Test.YtnolelibaahimaaGreatDoorYSi
import Derived.Test.YtnolelibaahimaaGreatDoorYSc
import Derived.Test.YtnolelibaahimaaGreatDoorYEb
import Derived.Shelf.SlMaps.Clone
import Derived.Ground.SlmcProg
set_option linter.unusedSimpArgs false
set_option linter.unusedVariables false
set_option linter.unusedSectionVars false
set_option linter.unnecessarySimpa false
set_option maxRecDepth 100000
set_option maxHeartbeats 16000000
namespace Go.Av
open Go Go.Proofs Go.RowKit
attribute [local irreducible] WP WPl WPix Sat
variable (G:Nat→Option (List AVal))
theorem p9{h0:Heap}{R:AVal→Heap→Prop}{r0 r:AVal}(hz:Frz h0 h0.length r0 r)(hR:R r h0):Fin h0 h0 R r0:=by
 have:=Fin.frz (h0:=h0) (j:=[]) (R:=R) (r0:=r0) (r:=r) (by rwa [N8]) hR
 rwa [N8]at this
theorem tv(l:List Bs)(hl:l.length≤1048576)(h:Heap):Sat (CT G) 83 [.sl 1 (l.map .str)] h (fun r h'=>r=.sl 1 (l.map .str)∧h'=h):=by
 rcases l with _| ⟨a,l⟩
 ·refine sb [.tmp 2] Tryz.func83 ?_;intro Q hQ;refine wk trivial ?_;refine gQ _ (by exact zq trivial) (.inl rfl) fun b=>?_
  cases b
  ·(try refine sq trivial ?_);refine wk trivial ?_;refine fh (.inl rfl) (by simp(disch:=first|omega| (simp only[go_sem, ↓reduceIte,seval];first|done|omega)|fail) only[go_sem, ↓reduceIte,seval];rfl) (by simp(disch:=first|omega| (simp only[go_sem, ↓reduceIte,seval];first|done|omega)|fail) only[go_sem, ↓reduceIte,seval];rfl) (by simp(disch:=first|omega| (simp only[go_sem, ↓reduceIte,seval];first|done|omega)|fail) only[go_sem, ↓reduceIte,seval];rfl) (by simp(disch:=first|omega| (simp only[go_sem, ↓reduceIte,seval];first|done|omega)|fail) only[go_sem, ↓reduceIte,seval];try rfl) (by omega) (by simp only[elemsOf, ↓reduceIte];try rfl) (by simp) (fun _=>?_) (fun h=>absurd rfl h);(try refine sq trivial ?_);refine wk trivial ?_;refine ee hQ trivial ?_;exact p9 (.ezs _) ⟨rfl,rfl⟩
  ·(try refine sq trivial ?_);refine wk trivial ?_;refine ee hQ trivial ?_;exact p9 (.nils _) ⟨rfl,rfl⟩
 ·have hr:(List.map AVal.str (a::l))≠ []:=by simp
  refine sb [.tmp 2] Tryz.func83 ?_;intro Q hQ;refine wk trivial ?_;refine fh (.inl rfl) (by simp(disch:=first|omega| (simp only[go_sem, ↓reduceIte,seval];first|done|omega)|fail) only[go_sem, ↓reduceIte,seval];rfl) (by simp(disch:=first|omega| (simp only[go_sem, ↓reduceIte,seval];first|done|omega)|fail) only[go_sem, ↓reduceIte,seval];rfl) (by simp(disch:=first|omega| (simp only[go_sem, ↓reduceIte,seval];first|done|omega)|fail) only[go_sem, ↓reduceIte,seval];rfl) (by simp(disch:=first|omega| (simp only[go_sem, ↓reduceIte,seval];first|done|omega)|fail) only[go_sem, ↓reduceIte,seval];try rfl) (by omega) (by simp only[elemsOf, ↓reduceIte];try rfl) ?_ (fun h=>by simp at h) (fun _=>?_)
  ·simp[maxLen]at hl ⊢;omega
  try refine sq trivial ?_
  refine wk trivial ?_;refine ee hQ trivial ?_;have hg:getRow (h++[.row 9 1 0 ((a::l).map .str)]) h.length 0=some (9,1,(a::l).map .str):=by rw[bH _ rfl];simp[getRow]
  have:=Frz.data (n:=h.length) (len:=(a::l).length) (room:=true) (N3 _) hg (by simp) (fun r hr=>by obtain⟨a,_,rfl⟩:=N5.1 hr;exact .str _) (fun r hr c hc=>by obtain⟨a,_,rfl⟩:=N5.1 hr;simp[AVal.cells]at hc;subst hc;rfl);simp only[M6,O3]at this;exact Fin.frz (by simpa using this) ⟨rfl,rfl⟩
theorem ld(t:It)(ht:t.tags.length≤1048576)(h:Heap):Sat (CT G) 47 [t.av] h (fun r h'=>r=t.av∧h'=h):=by
 refine sb [.cell 2 86] Tryz.func47 ?_;intro Q hQ;refine wk trivial ?_;refine kq trivial (tv G t.tags ht _) ?_;refine ye hQ trivial ?_;exact N2 (It.clo _ t) ⟨rfl,rfl⟩
def shN:Nat→Bs→Nat→Nat
 |0,_,_=>0
 |f+1,s,n=>if s=[]then 0 else if n=32 then 0 else(dec s 0).2+shN f (s.drop (dec s 0).2) (n+1)
def shW(s:Bs):Bs:=s.take (shN s.length s 0)
theorem xI:∀(f:Nat) (s:Bs) (n:Nat),s.length≤f→shN f s n=shN s.length s n:=by
 intro f;induction f using Nat.strongRecOn with
 |ind f ih=>
  intro s n hs;cases s with
  |nil=>cases f<;>rfl
  |cons b t=>
   obtain⟨f,rfl⟩:∃g,f=g+1:=⟨f-1,by simp at hs;omega⟩;have hd:=aR (b::t) 0 (by simp);simp only[M6]at hs hd ⊢;have hl:((b::t).drop (dec (b::t) 0).2).length≤t.length:=(by simp only[Q5,M6];omega);rw[shN,shN,M1 (show ¬(b::t)=[] by simp),M1 (show ¬(b::t)=[] by simp),ih f (by omega) _ _ (by omega),ih t.length (by omega) _ _ hl]
def shA(s:Bs)(k n:Nat):Nat:=shN (s.drop k).length (s.drop k) n
theorem zK(s:Bs)(k n:Nat)(h:s.length≤k):shA s k n=0:=by unfold shA;rw[W8 h];rfl
theorem Bo(s:Bs)(k n:Nat)(h:k<s.length):shA s k n=if n=32 then 0 else(dec s k).2+shA s (k+(dec s k).2) (n+1):=by
 have hd:=aR s k h;have hl:(s.drop k).length=(s.length-k-1)+1:=by rw[Q5];omega
 unfold shA;rw[hl,shN,M1 (by intro e;rw[e]at hl;simp at hl), ← fw,Z2,xI (s.length-k-1) _ _ (by simp only[Q5];omega)]
theorem tw(s:Bs)(hs:s.length≤100000000)(h:Heap):Sat (CT G) 252 [.str s] h (fun r h'=>r=.str (shW s)∧h'=h):=by
 refine sb [.tmp 2] Tryz.func252 ?_;intro Q hQ;refine wk trivial ?_;refine lm (fun nL tL hL=>∃(k n:Nat),s.length-k=nL∧h++[.iter s k]=hL∧tL 3=.int .i64 n∧k≤s.length∧n≤32∧k+shA s k n=shN s.length s 0) ((fun(k n:Nat)=>(s.length-k:Nat)) (0) (0)) ?_ ?_
 ·refine N6 ⟨0,0,rfl,aw,?_,by omega,by omega,by simp[shA]⟩;all_goals try exact zZz trivial
 rintro _ s2 h' ⟨k,n,rfl,rfl,e3,hk,hn,hc⟩ K2 hK2;simp only[aj,am,Nat.reduceEqDiff, ↓reduceIte]at e3;have F:=e3;refine wk F ?_;refine cg (dN _ _ _ _) (fun hlt=>?_) (fun hge=>?_)
 ·have hp:=aR s k hlt;have hca:=Bo s k n hlt;rw[show Utf8.decode ⟨s.toArray⟩ k=dec s k from rfl];generalize dec s k=d at*;obtain⟨c,m⟩:=d;simp only[]at hp hca ⊢;try refine sq F ?_
  refine wk F ?_;refine cq F (fun c1=>?_) (fun c1=>?_)<;>(try exact c1.elim)<;>(refine wk F ?_)
  ·have c2:n=32:=(by omega);rw[M7 c2]at hca;refine ee hQ F ?_;refine fR (.str _) ?_;unfold shW;congr 2
   omega
  ·have c2:¬n=32:=(by omega);rw[M1 c2]at hca;refine hK2 _ _ _ (N6 ⟨k+m,n+1,rfl,aw,?_,by omega,by omega,by omega⟩) (by omega);all_goals try exact zZz F
 ·rw[zK s k n (by omega)]at hc;try refine sq F ?_
  refine wk F ?_;refine ee hQ F ?_;refine fR (.str _) ?_;unfold shW;rw[← hc,P5 (by omega)]
def wordsF(s:Bs):List Bs:=(fldsF (foldS s)).map shW
theorem xJ(s:Bs):∀w∈fldsF s,w.length≤s.length:=fun w hw=>by
 unfold fldsF Lib.goFieldsP at hw;rw[List.map_map]at hw;obtain⟨x,_,rfl⟩:=N5.1 hw;simp only[Function.comp,ByteArray.extract,ByteArray.copySlice,Array.toList_append,Array.toList_extract,M3];simp[List.extract];omega
theorem eE(p:Nat→Bool)(s:ByteArray):∀(f pos:Nat) (st:Option Nat) (acc:List (Nat×Nat)),(Lib.spansFromP p s f pos st acc).1.length≤acc.length+f
 |0,_,_,acc=>by simp[Lib.spansFromP]
 |f+1,pos,st,acc=>by
  unfold Lib.spansFromP;split
  ·split
   ·cases st with
    |some a=>have:=eE p s f (pos+(Utf8.decode s pos).2) none (acc++[(a,pos)]);simp only[M3,M6,N4]at this;simp only;omega
    |none=>have:=eE p s f (pos+(Utf8.decode s pos).2) none acc;simp only;omega
   ·cases st with
    |some a=>have:=eE p s f (pos+(Utf8.decode s pos).2) (some a) acc;simp only;omega
    |none=>have:=eE p s f (pos+(Utf8.decode s pos).2) (some pos) acc;simp only;omega
  ·simp only;omega
theorem xK(s:Bs):(fldsF s).length≤s.length+1:=by
 unfold fldsF Lib.goFieldsP Lib.spansOfP;rw[O0,O0];have:=eE (fun r=> !letF r) ⟨s.toArray⟩ (ByteArray.size ⟨s.toArray⟩) 0 none [];have hsz:ByteArray.size ⟨s.toArray⟩=s.length:=by simp[ByteArray.size]
 rw[hsz]at this ⊢;unfold Lib.closeSpans;simp only[N4]at this;split
 ·simp only[M3,M6,N4];omega
 ·omega
theorem tz(s:Bs)(hs:s.length≤100000)(h:Heap):Sat (CT G) 226 [.str s] h (fun r h'=>r=.sl 1 ((wordsF s).map .str)∧h'=h):=by
 have hfl:=vf s;have hwl:=xJ (foldS s);have hn:=xK (foldS s);refine sb [.tmp 2] Tryz.func226 ?_;intro Q hQ;refine wk trivial ?_;refine kq trivial (ve G s (by omega) _) ?_;refine(tj G (foldS s) (by omega) _).mono ?_;unfold wordsF at hQ;generalize fldsF (foldS s)=ws at*;rintro r h' (⟨hw0,rfl,he⟩| ⟨hw0,rfl,rfl⟩)
 ·subst hw0;rw[he];try refine sq trivial ?_
  refine wk trivial ?_;refine lm (fun nL tL hL=>0=nL∧[]++h=hL∧tL 3=.sl 1 []∧tL 10=.int .i64 0∧tL 11=.int .i64 0) (0) ?_ ?_
  ·refine N6 ⟨rfl,rfl,?_,?_,?_⟩;all_goals try exact zZz trivial
  rintro _ s2 h' ⟨rfl,rfl,e3,e10,e11⟩ K2 hK2;simp only[aj,am,Nat.reduceEqDiff, ↓reduceIte]at e3 e10 e11;have F:=F3 e3 e10 e11;refine wk F ?_;refine cq F (fun c1=>?_) (fun c1=>?_)<;>(try exact c1.elim)<;>(refine wk F ?_)
  refine ye hQ F ?_;exact S6 (Clo.sl 1 [] fun x hx=>by cases hx) ⟨rfl,rfl⟩
 ·try refine sq trivial ?_
  refine wk trivial ?_;refine lm (fun nL tL hL=>∃(k:Nat),ws.length-k=nL∧h++[.row 9 1 0 (((ws.take k).map shW++ws.drop k).map .str)]=hL∧tL 3=.hs h.length 0 0 ws.length true∧tL 9=.hs h.length 0 0 ws.length true∧tL 10=.int .i64 (ws.length:Int)∧tL 11=.int .i64 k∧k≤ws.length) ((fun(k:Nat)=>(ws.length-k:Nat)) (0)) ?_ ?_
  ·refine N6 ⟨0,rfl,aw,?_,?_,?_,?_,by omega⟩;all_goals try exact zZz trivial
  rintro _ s2 h' ⟨k,rfl,rfl,e3,e9,e10,e11,hk⟩ K2 hK2;simp only[aj,am,Nat.reduceEqDiff, ↓reduceIte]at e3 e9 e10 e11;have F:=F4 e3 e9 e10 e11;refine wk F ?_;refine cq F (fun c1=>?_) (fun c1=>?_)<;>(try exact c1.elim)<;>(refine wk F ?_)
  ·have c2:k<ws.length:=(by omega);obtain⟨y,hy,hym⟩:=ak c2;have hyl:=hwl y hym;have hget:((ws.take k).map shW++ws.drop k)[k]? =some y:=by
    rw[M9 (by simp;omega),O0,P6,Nat.min_eq_left (by omega),za0,Q8];simpa using hy
   have hset:(((ws.take k).map shW++ws.drop k).map AVal.str).set k (.str (shW y))=((ws.take (k+1)).map shW++ws.drop (k+1)).map .str:=by
    have h1:(AVal.str (shW y))=AVal.str (shW y):=rfl;rw[← List.map_set];congr 1
    rw[List.set_append_right _ _ (by simp;omega),O0,P6,Nat.min_eq_left (by omega),za0,aI hy,List.set_cons_zero,T9,hy];simp
   have hlen:(((ws.take k).map shW++ws.drop k).map AVal.str).length=ws.length:=(by simp;omega);generalize hrw:(ws.take k).map shW++ws.drop k=rw at*;have F:=F6 F c2 @hget @hset @hlen @aZ;(try refine sq F ?_);refine wk F ?_;refine kq F (tw G y (by omega) _) ?_;refine hK2 _ _ _ (N6 ⟨k+1,rfl,rfl,?_,?_,?_,?_,by omega⟩) (by omega);all_goals try exact zZz F
  ·have hk2:k=ws.length:=(by omega);subst hk2;have hfin:(ws.take ws.length).map shW++ws.drop ws.length=ws.map shW:=(by rw[Z9,List.drop_length,N8]);rw[hfin];have hg:getRow (h++[.row 9 1 0 ((ws.map shW).map .str)]) h.length 0=some (9,1,(ws.map shW).map .str):=(by rw[bH _ rfl];simp[getRow]);have hz:=Frz.data (n:=h.length) (len:=ws.length) (room:=true) (N3 _) hg (by simp) (fun r hr=>by obtain⟨a,_,rfl⟩:=N5.1 hr;exact .str _) (fun r hr c hc=>by obtain⟨a,_,rfl⟩:=N5.1 hr;simp[AVal.cells]at hc;subst hc;rfl);refine ye hQ F ?_;exact Fin.frz hz ⟨rfl,rfl⟩
def isF(s:Bs):Bool:=decide (wordsF s=[s])
theorem zL(s:Bs)(hs:s.length≤100000)(h:Heap):Sat (CT G) 188 [.str s] h (fun r h'=>r=.bool (isF s)∧h'=h):=by
 have hW:=tz G s hs;unfold isF;generalize wordsF s=ws at*
 match ws with
 | []=>
  refine sb [.tmp 2] Tryz.func188 ?_;intro Q hQ;refine wk trivial ?_;refine kq trivial (hW _) ?_;refine ee hQ trivial ?_;exact S6 (.bool _) ⟨by simp,rfl⟩
 | [w]=>
  refine sb [.tmp 2] Tryz.func188 ?_;intro Q hQ;refine wk trivial ?_;refine kq trivial (hW _) ?_;refine ee hQ trivial ?_;exact S6 (.bool _) ⟨by simp;rw[T5];simp,rfl⟩
 |w::v::l=>
  refine sb [.tmp 2] Tryz.func188 ?_;intro Q hQ;refine wk trivial ?_;refine kq trivial (hW _) ?_;(first|refine gq trivial (fun g=>?_) (fun g=>?_)|refine pq trivial (fun g=>?_) (fun g=>?_))<;>(try exact g.elim)<;>(try refine sq trivial ?_)<;>(refine wk trivial ?_)
  ·exfalso;first|omega| (simp at g;omega)
  ·refine ee hQ trivial ?_;exact S6 (.bool _) ⟨by simp,rfl⟩
end Go.Av
namespace Go.Av
open Go Go.Proofs Go.RowKit
theorem pg:∀t:Bs,Op.bytesLess t t=false
 | []=>rfl
 |a::t=>by simp[Op.bytesLess,pg t]
theorem jZ:∀{a b c:Bs},Op.bytesLess a b=true→Op.bytesLess b c=true→Op.bytesLess a c=true
 |_,_,[],_,h=>by cases h2:(‹Bs› :Bs)<;>simp[Op.bytesLess]at h
 | [],_,_::_,_,_=>rfl
 |_::_,[],_::_,h,_=>by simp[Op.bytesLess]at h
 |x::a,y::b,z::c,h,k=>by
  simp only[Op.bytesLess,Q9,M8,M2,beq_iff_eq]at h k ⊢;rcases h with h| ⟨rfl,h⟩
  ·rcases k with k| ⟨rfl,k⟩
   ·exact .inl (UInt8.lt_trans h k)
   ·exact .inl h
  ·rcases k with k| ⟨rfl,k⟩
   ·exact .inl k
   ·exact .inr ⟨rfl,jZ h k⟩
theorem vm:∀(a b:Bs),Op.bytesLess a b=false→Op.bytesLess b a=false→a=b
 | [],[],_,_=>rfl
 | [],_::_,h,_=>by simp[Op.bytesLess]at h
 |_::_,[],_,h=>by simp[Op.bytesLess]at h
 |x::a,y::b,h,k=>by
  simp only[Op.bytesLess,Bool.or_eq_false_iff,decide_eq_false_iff_not,Bool.and_eq_false_iff,beq_eq_false_iff_ne]at h k;have hxy:x=y:=by
   have h1:=UInt8.not_lt.1 h.1;have h2:=UInt8.not_lt.1 k.1;exact UInt8.le_antisymm h2 h1
  subst hxy;rw[vm a b (by rcases h.2 with h|h;exact absurd rfl h;exact h) (by rcases k.2 with h|h;exact absurd rfl h;exact h)]
def Srt(l:List Bs):Prop:=l.Pairwise fun a b=>Op.bytesLess a b=true
def lbF(l:List Bs)(t:Bs):Nat:=(l.takeWhile fun x=>Op.bytesLess x t).length
theorem ph(l:List Bs)(t:Bs):lbF l t≤l.length:=by
 unfold lbF;have:=(List.takeWhile_sublist (l:=l) fun x=>Op.bytesLess x t).length_le;exact this
theorem kc(a:Bs)(l:List Bs)(t:Bs):lbF (a::l) t=if Op.bytesLess a t=true then lbF l t+1 else 0:=by
 unfold lbF;rw[List.takeWhile_cons];split<;>simp
theorem vn{l:List Bs}{t:Bs}:∀j,j<lbF l t→∃x,l[j]? =some x∧Op.bytesLess x t=true:=by
 induction l with
 |nil=>intro j h;simp[lbF]at h
 |cons a l ih=>
  intro j h;rw[kc]at h;split at h
  ·rename_i ha;cases j with
   |zero=>exact⟨a,rfl,ha⟩
   |succ j=>exact ih j (by omega)
  ·omega
theorem vp{l:List Bs}{t:Bs}(hs:Srt l):∀j x,lbF l t≤j→l[j]? =some x→Op.bytesLess x t=false:=by
 induction l with
 |nil=>intro j x _ h;simp at h
 |cons a l ih=>
  intro j x h hx;rw[kc]at h;have hp:=List.pairwise_cons.1 hs;split at h
  ·rename_i ha;cases j with
   |zero=>omega
   |succ j=>exact ih hp.2 j x (by omega) (by simpa using hx)
  ·rename_i ha;cases j with
   |zero=>simp at hx;subst hx;simpa using ha
   |succ j=>
    have hm:=hp.1 x (N0 (by simpa using hx));cases hq:Op.bytesLess x t with
    |false=>rfl
    |true=>exact absurd (jZ hm hq) ha
theorem rA{l:List Bs}{t:Bs}(hs:Srt l)(hm:t∈l):l[lbF l t]? =some t:=by
 obtain⟨j,hj⟩:=S5 hm;rcases U5 j (lbF l t)with h|h|h
 ·obtain⟨x,hx,hl⟩:=vn j h;rw[hj]at hx;cases hx;rw[pg]at hl;cases hl
 ·rw[← h];exact hj
 ·have hlt:lbF l t<l.length:=by have:=(M0.1 hj).1;omega
  have h1:l[lbF l t]? =some l[lbF l t]:=M4 hlt;have h2:=vp hs _ _ (N3 _) h1;have h3:=(List.pairwise_iff_getElem.1 hs) (lbF l t) j hlt (M0.1 hj).1 h;rw[(M0.1 hj).2,h2]at h3;cases h3
variable (G:Nat→Option (List AVal))
theorem xX(w:World)(n:Nat):Below w.heap.size w (w.drewN n):=by
 induction n with
 |zero=>exact X8 _ _
 |succ n ih=>exact ih.trans (Below.drew (X8 _ _))
theorem nO(l:List Bs)(t:Bs)(hs:Srt l)(hl:l.length≤100000)(h:Heap):Sat (CT G) 116 [.sl 1 (l.map .str),.str t] h (fun r h'=>r=.tup [.int .i64 (lbF l t),.bool (decide (t∈l))]∧h'=h):=by
 intro B S μ w us fit rl;obtain⟨hul,hur⟩:=rl
 match us,hul,hur with
 | [v0,v1],_,hur=>
  have r0:Rep w S μ (.sl 1 (l.map .str)) v0:=hur 0 _ rfl;have r1:Rep w S μ (.str t) v1:=hur 1 _ rfl;obtain rfl:=r1.str_inv
  change OpOk Tryz.prog _ ((callFunc 116 #[v0,.string ⟨t.toArray⟩]).run Tryz.prog w)
  rw[cH (f:=116) Tryz.func116 rfl rfl];have fin:∀(w':World) (i:Nat) (b:Bool),Below w.heap.size w w'→i=lbF l t→b=decide (t∈l)→∃v,Value.tuple #[.int .i64 i,.bool b]=v∧OpPost (CT G) B S μ w (fun r h'=>r=.tup [.int .i64 (lbF l t),.bool (decide (t∈l))]∧h'=h) v w':=by
   rintro w' i b hb rfl rfl;obtain⟨f',st⟩:=fit.grown hb;exact⟨_,rfl,_,h,S,μ,⟨rfl,rfl⟩,st,f',jT (.int _ _) (.bool _)⟩
  by_cases hn:l=[]
  ·subst hn;obtain⟨a,cap,rfl⟩:∃a cap,v0=.slice a 0 cap:=by
    cases r0 with
    |sl0 _ a cap=>exact⟨a,cap,rfl⟩
    |sl _ _ b o cap vs h1=>exact absurd rfl h1
   refine(Any2.slices_BinarySearch_string_empty Tryz.lays2_26 a cap ⟨t.toArray⟩ w).mono fun e w' ⟨he,hw⟩=>?_
   obtain⟨v,hv,hp⟩:=fin w' 0 false (by rw[hw];exact X8 _ _) rfl (by simp);exact⟨v,by rw[he, ← hv];rfl,hp⟩
  ·obtain⟨b,o,cap,rfl,hc⟩:∃b o cap,v0=.slice (some ⟨b,o,none⟩) l.length cap∧∀j,j<l.length→w.cell? ⟨b,o+j,none⟩=some (.string ⟨(l.getD j t).toArray⟩):=by
    generalize hm:l.map AVal.str=m at r0;cases r0 with
    |sl0 _ a cap=>simp at hm;exact absurd hm hn
    |sl _ _ b o cap vs h1 h2 h3 h4 h5 h6=>
     subst hm;refine⟨b,o,cap,by simp,fun j hj=>?_⟩;have hx:(l.map AVal.str)[j]? =some (.str l[j]):=(by rw[O2,M4 hj];rfl);have h7:=h5 j _ 0 _ hx rfl;have h8:=h6 j _ 0 _ hx rfl;rw[h8.str_inv]at h7;have:l.getD j t=l[j]:=by simp[List.getD,hj]
     rw[this];have e:o+(j*1+0)=o+j:=(by omega);rw[e]at h7;exact h7.2.1
   refine(Any2.slices_BinarySearch_string Tryz.lays2_26 b o l.length cap (fun j=>⟨(l.getD j t).toArray⟩) ⟨t.toArray⟩ w (by omega) hc).mono fun e w' ⟨he,q,hw⟩=>?_
   have hk:Lib.bsGo (fun j=>Op.bytesLess (⟨(l.getD j t).toArray⟩:ByteArray).toList (⟨t.toArray⟩:ByteArray).toList) l.length 0 l.length=lbF l t:=by
    refine Lib.bsGo_spec _ (lbF l t) (fun j hj=>?_) (fun j hj=>?_) _ _ _ (by omega) (V8 _) (ph l t)
    ·obtain⟨x,hx,hlt⟩:=vn j hj;simp only[cy];rw[show l.getD j t=x by simp[List.getD,hx]];exact hlt
    ·simp only[cy];cases hx:l[j]? with
     |none=>rw[show l.getD j t=t by simp[List.getD,hx]];exact pg t
     |some x=>rw[show l.getD j t=x by simp[List.getD,hx]];exact vp hs j x hj hx
   rw[hk]at he;obtain⟨v,hv,hp⟩:=fin w' (lbF l t) (decide (lbF l t<l.length∧(⟨(l.getD (lbF l t) t).toArray⟩:ByteArray)=⟨t.toArray⟩)) (by rw[hw];exact xX w q) rfl (by
    rw[T5,M8,M8];constructor
    ·rintro⟨h1,h2⟩;have h3:l.getD (lbF l t) t=l[lbF l t]:=(by simp[List.getD,h1]);rw[h3]at h2;have:l[lbF l t]=t:=by simpa using h2
     rw[← this];exact za9 h1
    ·intro hm;have:=rA hs hm;exact⟨(M0.1 this).1,by simp[List.getD,this]⟩)
   exact⟨v,by rw[he, ← hv],hp⟩
end Go.Av
namespace Go.Av
open Go Go.Proofs Go.RowKit
def encS(t:Bs):Value:=.string ⟨t.toArray⟩
theorem Only.setCells(b:Nat):∀(vs:List Value) (o:Nat) (w:World),Only w (w.setCells b o vs) (some b)
 | [],_,_=>Only.refl _ _
 |v::r,o,w=>(Only.setCell w ⟨b,o,none⟩ v).trans (Only.setCells b r (o+1) _)
theorem Only.alloc(w:World)(o:Obj)(q:Option Nat):Only w (w.alloc o) q:=
 ⟨rfl,rfl,rfl,by simp,fun k hk _=>Below.heap_alloc w o k hk⟩
theorem Only.into{w w1 w2:World}{q:Option Nat}{g:Nat}(h:Only w w1 q)(k:Only w1 w2 (some g))(hg:w.heap.size≤g):Only w w2 q:=
 ⟨k.os.trans h.os,k.tape.trans h.tape,k.output.trans h.output,S4 h.size k.size,
  fun i hi hq=>(k.block i (W7 hi h.size) (fun e=>by cases e;omega)).trans (h.block i hi hq)⟩
theorem Only.putRow{α:Type}[Inhabited α](enc:α→Value)(w:World)(b off:Nat)(d:Array α):Only w (Go.Sort.putRow enc w b off d) (some b):=
 ⟨rfl,rfl,rfl,by simp,fun k _ hq=>by
  have:b≠k:=fun e=>hq (by rw[e])
  simp[Go.Sort.putRow,Go.Sort.mapBlock,Array.getElem?_modify,this]⟩
section
variable {C:Ctx} {B:Nat} {S:Addr→Prop} {μ:Map} {h:Heap} {w w':World}
theorem Fits.give(f:Fits C B S μ h w){p:Nat}{m:MB}(hm:μ[p]? =some m){g:Nat}(hg:∀q m',μ[q]? =some m'→m'.blk=some g→q=p)(hB:B≤g)(hgl:g<w.heap.size):
  Step B S μ w (fun a=>S a∨a.block=g) (μ.set p ⟨none,m.ver+1,m.size,m.cap⟩) w∧Fits C B (fun a=>S a∨a.block=g) (μ.set p ⟨none,m.ver+1,m.size,m.cap⟩) (h.set p .dead) w:=by
 have hlt:=(M0.1 hm).1;have st:Step B S μ w (fun a=>S a∨a.block=g) (μ.set p ⟨none,m.ver+1,m.size,m.cap⟩) w:=⟨fun a ha=>.inl ha,fun _ _=>rfl,X8 _ _,bJ hm (by simp) (fun e=>by simp at e),fun a ha=>by
  rcases ha with ha|ha
  ·exact .inl ha
  ·exact .inr (by omega)⟩
 have at_:∀q k,(μ.set p ⟨none,m.ver+1,m.size,m.cap⟩)[q]? =some k→(q=p∧k.blk=none)∨(q≠p∧μ[q]? =some k):=by
  intro q k hq;by_cases e:p=q
  ·subst e;rw[Q3 hlt]at hq;cases hq;exact .inl ⟨rfl,rfl⟩
  ·rw[Q4 e]at hq;exact .inr ⟨fun e'=>e e'.symm,hq⟩
 refine⟨st,⟨fun g cs hg=>(f.glob g cs hg).mono st,by simp[f.len],?_,?_,f.base,?_,?_⟩⟩
 ·intro p1 q1 m1 m2 b h1 h2 e1 e2;rcases at_ p1 m1 h1 with⟨_,k1⟩| ⟨_,k1⟩
  ·rw[k1]at e1;cases e1
  ·rcases at_ q1 m2 h2 with⟨_,k2⟩| ⟨_,k2⟩
   ·rw[k2]at e2;cases e2
   ·exact f.sep p1 q1 m1 m2 b k1 k2 e1 e2
 ·intro p1 m1 b h1 e1;rcases at_ p1 m1 h1 with⟨_,k1⟩| ⟨r1,k1⟩
  ·rw[k1]at e1;cases e1
  ·obtain⟨a1,a2,a3⟩:=f.own p1 m1 b k1 e1;refine⟨a1,a2,fun a ha=>?_⟩;rcases ha with ha|ha
   ·exact a3 a ha
   ·intro e;exact r1 (hg p1 m1 k1 (by rw[e1, ← e,ha]))
 ·intro a ha;rcases ha with ha|ha
  ·exact f.lie a ha
  ·omega
 ·intro p1 m1 k1 h1 h2;rcases at_ p1 m1 h1 with⟨rfl,_⟩| ⟨r1,h1⟩
  ·rw[Q3 (by rw[← f.len];exact hlt)]at h2;cases h2;trivial
  ·rw[Q4 (fun e=>r1 e.symm)]at h2;exact(f.blk p1 m1 k1 h1 h2).mono st fun b _=>rfl
theorem xY{g off cap:Nat}{ls:List Bs}(hS:∀a,a.block=g→S a)(hl:ls.length≤cap)(hm:cap≤maxLen)(hc:∀j x,ls[j]? =some x→w.cell? ⟨g,off+j,none⟩=some (encS x)):
  Rep w S μ (.sl 1 (ls.map .str)) (.slice (some ⟨g,off,none⟩) ls.length cap):=by
 by_cases hn:ls=[]
 ·subst hn;exact .sl0 1 _ cap
 have hlen:(ls.map AVal.str).length=ls.length:=O0 ..;rw[← hlen];refine .sl 1 (ls.map .str) g off cap (fun i _=>encS (ls.getD i [])) (by simpa using hn) (by omega) hm (fun i x hx=>?_) (fun i x j c hx hj=>?_) (fun i x j c hx hj=>?_)
 ·obtain⟨a,_,rfl⟩:=N5.1 (N0 hx);rfl
 ·rw[O2]at hx;obtain⟨a,ha,rfl⟩:=N9.1 hx
  match j with
  |0=>
   simp[AVal.cells]at hj;subst hj;refine⟨hS _ rfl,?_,rfl⟩;rw[show off+(i*1+0)=off+i by omega,hc i a ha];simp[List.getD,ha]
  |j+1=>simp[AVal.cells]at hj
 ·rw[O2]at hx;obtain⟨a,ha,rfl⟩:=N9.1 hx
  match j with
  |0=>
   simp[AVal.cells]at hj;subst hj;simp only[List.getD,ha,V6];exact .str a
  |j+1=>simp[AVal.cells]at hj
theorem ke(f:Fits C B S μ h w){p:Nat}{m:MB}(hm:μ[p]? =some m)(o:Only w w' m.blk){g off cap:Nat}{ls:List Bs}(hg:m.blk=some g∨(w.heap.size≤g∧g<w'.heap.size))
  (hl:ls.length≤cap)(hx:cap≤maxLen)(hc:∀j x,ls[j]? =some x→w'.cell? ⟨g,off+j,none⟩=some (encS x)):
  ∃S' μ',Step B S μ w S' μ' w'∧Fits C B S' μ' (h.set p .dead) w'∧Rep w' S' μ' (.sl 1 (ls.map .str)) (.slice (some ⟨g,off,none⟩) ls.length cap):=by
 obtain⟨f1,st1⟩:=f.update (m':=⟨m.blk,m.ver+1,m.size,m.cap⟩) (k':=.dead) hm o (by simp) (fun e=>by simp at e) (.inl rfl) trivial;have hlt:=(M0.1 hm).1;have hm1:(μ.set p ⟨m.blk,m.ver+1,m.size,m.cap⟩)[p]? =some ⟨m.blk,m.ver+1,m.size,m.cap⟩:=Q3 hlt;have hgg:(B≤g∧g<w'.heap.size)∧∀q m',(μ.set p ⟨m.blk,m.ver+1,m.size,m.cap⟩)[q]? =some m'→m'.blk=some g→q=p:=by
  rcases hg with hg| ⟨h1,h2⟩
  ·obtain⟨a1,a2,_⟩:=f.own p m g hm hg;exact⟨⟨a1,W7 a2 o.size⟩,fun q m' hq hb=>f1.sep q p m' _ g hq hm1 hb hg⟩
  ·refine⟨⟨S4 f.base h1,h2⟩,fun q m' hq hb=>?_⟩;by_cases e:p=q
   ·exact e.symm
   ·rw[Q4 e]at hq;have:=(f.own q m' g hq hb).2.1;omega
 obtain⟨st2,f2⟩:=f1.give hm1 hgg.2 hgg.1.1 hgg.1.2;refine⟨_,_,st1.trans st2,?_,xY (fun a ha=>.inr ha) hl hx hc⟩;simpa using f2
end
theorem ji{C:Ctx}{B:Nat}{S:Addr→Prop}{μ:Map}{h:Heap}{w:World}(f:Fits C B S μ h w){p ver len:Nat}{T:TypeId}{room:Bool}{l:List Bs}{v:Value}(hn:l≠ [])
  (hg:getRow h p ver=some (T,1,l.map .str))(hv:Rep w S μ (.hs p ver 0 len room) v):
  ∃m b cur,μ[p]? =some m∧m.blk=some b∧w.heap[b]? =some (.cells cur T (0,0))∧cur.size=m.cap∧l.length≤m.cap∧m.cap≤maxLen∧0<m.cap∧v=.slice (some ⟨b,0,none⟩) len (if room then m.cap else len)∧
   ∀j x,l[j]? =some x→w.cell? ⟨b,0+j,none⟩=some (encS x):=by
 obtain⟨m,hm,hf⟩:=f.row hg;rcases hf.lies with⟨_,h2⟩| ⟨b,cur,hb,hheap,hsz,⟨h0,hle⟩,hmax,hcell⟩
 ·exact absurd (List.map_eq_nil_iff.1 h2) hn
 rcases hv.hs_now hm hf.hver with⟨h1,_⟩| ⟨b',hb',_,hve⟩
 ·rw[hb]at h1;cases h1
 rw[hb]at hb';cases hb';have hs1:=hf.hsize;refine⟨m,b,cur,hm,hb,hheap,by omega,by simpa using hle,hmax,h0,by rw[hve];simp,fun j x hx=>?_⟩;have hx':(l.map AVal.str)[j]? =some (.str x):=by rw[O2,hx];rfl
 obtain⟨u,hu,hr⟩:=hcell j (.str x) 0 (.str x) hx' rfl;rw[hr.str_inv]at hu;have hlt:=(O8.1 hu).1;simp only[World.cell?,hheap];have e:j*1+0=0+j:=by omega
 rw[e]at hu;simpa [encS]using hu
theorem i5(w:World)(c:Array Value)(T:TypeId)(j:Nat):(w.alloc (.cells c T)).cell? ⟨w.heap.size,j,none⟩=c[j]? :=by
 simp only[World.cell?,cA];rfl
theorem dT(b:Nat):∀(vs:List Value) (o:Nat) (w:World) (k:Nat),(w.cell? ⟨b,k,none⟩).isSome=true→((w.setCells b o vs).cell? ⟨b,k,none⟩).isSome=true
 | [],_,_,_,h=>h
 |v::r,o,w,k,h=>dT b r (o+1) (w.setCell ⟨b,o,none⟩ v) k (by
  by_cases e:o=k
  ·subst e;obtain⟨u,hu⟩:=P7.1 h;rw[World.cell?_setCell_same _ _ _ hu];rfl
  ·rw[World.cell?_setCell_other _ _ _ _ (by simpa using e)];exact h)
theorem iS{w:World}{b o:Nat}{v:Value}(hs:(w.cell? ⟨b,o,none⟩).isSome=true):(w.setCells b o [v]).cell? ⟨b,o,none⟩=some v:=by
 have:=World.cell?_setCells_in b [v] o w (fun j hj=>by simp at hj;subst hj;exact hs) 0 (by simp);simpa using this
theorem jk(l:List Bs)(t:Bs)(i:Nat)(hi:i≤l.length)(j:Nat)(x:Bs)(hx:(l.take i++t::l.drop i)[j]? =some x):
  (j<i∧l[j]? =some x)∨(j=i∧x=t)∨(i<j∧l[j-1]? =some x):=by
 rcases U5 j i with h|h|h
 ·rw[M5 (by simp;omega),O1 h]at hx;exact .inl ⟨h,hx⟩
 ·subst h;rw[M9 (by rw[P6];omega)]at hx;have:j-(l.take j).length=0:=by rw[P6];omega
  rw[this]at hx;simp at hx;exact .inr (.inl ⟨rfl,hx.symm⟩)
 ·rw[M9 (by simp;omega)]at hx;have:j-(l.take i).length=(j-i-1)+1:=by rw[P6];omega
  rw[this,V3,Q8]at hx;refine .inr (.inr ⟨h,?_⟩);rw[← hx];congr 1;omega
variable (G:Nat→Option (List AVal))
theorem tC(l:List Bs)(t:Bs)(i v1 v2:Nat)(rm:Bool)(hi:i≤l.length)(hn:l≠ [])(hl:l.length≤100000)(h:Heap):
  Sat (CT G) 84 [.hs h.length v1 0 l.length true,.int .i64 i,.hs (h.length+1) v2 0 1 rm] (h++[Blk.row 9 1 v1 (l.map .str),.row 9 1 v2 [.str t]])
   (fun r h'=>r=.sl 1 ((l.take i++t::l.drop i).map .str)∧h'=h++[.dead,.row 9 1 v2 [.str t]]):=by
 intro B S μ w us fit rl;obtain⟨hul,hur⟩:=rl
 match us,hul,hur with
 | [u0,u1,u2],_,hur=>
  have r0:Rep w S μ (.hs h.length v1 0 l.length true) u0:=hur 0 _ rfl;have r1:Rep w S μ (.int .i64 i) u1:=hur 1 _ rfl;have r2:Rep w S μ (.hs (h.length+1) v2 0 1 rm) u2:=hur 2 _ rfl;obtain rfl:=r1.int_inv;have hg0:getRow (h++[Blk.row 9 1 v1 (l.map .str),.row 9 1 v2 [.str t]]) h.length v1=some (9,1,l.map .str):=by simp[getRow]
  have hg2:getRow (h++[Blk.row 9 1 v1 (l.map .str),.row 9 1 v2 [.str t]]) (h.length+1) v2=some (9,1,[t].map .str):=by simp[getRow]
  obtain⟨m,b,cur,hm,hb,hheap,hsz,hle,hmax,h0,rfl,hc⟩:=ji fit hn hg0 r0;obtain⟨m2,b2,cur2,hm2,hb2,hheap2,hsz2,hle2,hmax2,h02,rfl,hc2⟩:=ji fit (by simp) hg2 r2;simp only[↓reduceIte];have hne:b2≠b:=fun e=>by have:=fit.sep _ _ m2 m b hm2 hm (by rw[hb2,e]) hb;omega
  have hset:(h++[Blk.row 9 1 v1 (l.map .str),.row 9 1 v2 [.str t]]).set h.length .dead=h++[.dead,.row 9 1 v2 [.str t]]:=by simp[List.set_append]
  have hil:(l.take i++t::l.drop i).length=l.length+1:=by simp;omega
  change OpOk Tryz.prog _ ((callFunc 84 #[_,_,_]).run Tryz.prog w)
  rw[cH (f:=84) Tryz.func84 rfl rfl];have fin:∀(w':World) (g cap:Nat),Only w w' (some b)→(g=b∨(w.heap.size≤g∧g<w'.heap.size))→l.length+1≤cap→cap≤maxLen→
    (∀j x,(l.take i++t::l.drop i)[j]? =some x→w'.cell? ⟨g,0+j,none⟩=some (encS x))→
    OpPost (CT G) B S μ w (fun r h'=>r=.sl 1 ((l.take i++t::l.drop i).map .str)∧h'=h++[.dead,.row 9 1 v2 [.str t]]) (.slice (some ⟨g,0,none⟩) (l.length+1) cap) w':=by
   intro w' g cap ho hg hcap hmx hcell;obtain⟨S',μ',st,f',rp⟩:=ke fit hm (by rw[hb];exact ho) (g:=g) (by rcases hg with rfl|hg;exact .inl hb;exact .inr hg) (by rw[hil];exact hcap) hmx hcell;rw[hset]at f';rw[hil]at rp;exact⟨_,_,S',μ',⟨rfl,rfl⟩,st,f',rp⟩
  have hcs:∀j v,(l.map encS)[j]? =some v→w.cell? ⟨b,0+j,none⟩=some v:=by
   intro j v hv;rw[O2]at hv;obtain⟨x,hx,rfl⟩:=N9.1 hv;exact hc j x hx
  have hvs:∀j v,[encS t][j]? =some v→w.cell? ⟨b2,0+j,none⟩=some v:=by
   intro j v hv
   match j with
   |0=>simp at hv;subst hv;exact hc2 0 t rfl
   |j+1=>simp at hv
  have h1c:∀v∈l.map encS,v.oneCell'=true:=by intro v hv;obtain⟨x,_,rfl⟩:=N5.1 hv;rfl
  have h1v:∀v∈ [encS t],v.oneCell'=true:=by intro v hv;simp at hv;subst hv;rfl
  have there:∀k,k<m.cap→(w.cell? ⟨b,k,none⟩).isSome=true:=by
   intro k hk;have:k<cur.size:=by omega
   simp[World.cell?,hheap,this]
  have mx:maxLen≤9223372036854775807:=by decide
  have hdr:(l.map encS).drop i=(l.drop i).map encS:=by rw[List.map_drop]
  by_cases hroom:l.length+1≤m.cap
  ·by_cases hil2:i=l.length
   ·subst hil2;refine(Any2.slices_Insert_string_end_room Tryz.lays2_22 b 0 l.length m.cap b2 0 1 _ [encS t] w (by omega) hroom (by omega) rfl (fun j hj=>there _ (by omega)) (fun j hj=>by simp[World.frozen?,hheap]) hvs h1v).mono fun e w' ⟨he,hw⟩=>?_
    refine⟨_,he,fin w' b m.cap (by rw[hw];exact Only.setCells _ _ _ _) (.inl rfl) hroom hmax fun j x hx=>?_⟩;rw[hw];rcases jk l t l.length (N3 _) j x hx with⟨h1,h2⟩| ⟨rfl,rfl⟩| ⟨h1,h2⟩
    ·rw[W0 _ _ _ _ _ (fun _ _=>.inl (by simp;omega))];exact hc j x h2
    ·exact iS (there _ (by omega))
    ·have:=(M0.1 h2).1;omega
   ·refine(Any2.slices_Insert_string_shift Tryz.lays2_22 b 0 l.length m.cap i b2 0 1 _ (l.map encS) [encS t] w (by omega) (by omega) hroom (by omega) hne (by simp) rfl hcs (fun j hj=>there _ (by omega)) (fun j hj=>by simp[World.frozen?,hheap]) hvs h1c h1v
     9 9 cur2.size cur.size (by simp[World.shape?,hheap2]) (by simp[World.shape?,hheap]) (by omega) (by simp[World.frozen?,hheap2]) (by simp[World.frozen?,hheap2])).mono fun e w' ⟨he,hw⟩=>?_
    refine⟨_,he,fin w' b m.cap (by rw[hw];exact((Only.drew w _).trans (Only.setCells _ _ _ _)).trans (Only.setCells _ _ _ _)) (.inl rfl) hroom hmax fun j x hx=>?_⟩;rw[hw];have th2:∀k,k<m.cap→((w.drew.setCells b (0+(i+1)) ((l.map encS).drop i)).cell? ⟨b,k,none⟩).isSome=true:=fun k hk=>dT b _ _ _ _ (there k hk)
    rcases jk l t i hi j x hx with⟨h1,h2⟩| ⟨rfl,rfl⟩| ⟨h1,h2⟩
    ·rw[W0 _ _ _ _ _ (fun _ _=>.inl (by simp;omega)),W0 _ _ _ _ _ (fun _ _=>.inl (by simp;omega))];exact hc j x h2
    ·exact iS (th2 _ (by omega))
    ·have hjl:=(M0.1 h2).1;rw[W0 _ _ _ _ _ (fun _ _=>.inr (by simp;omega))];have:=World.cell?_setCells_in b ((l.map encS).drop i) (0+(i+1)) w.drew (fun k hk=>by
      have hk2:k<l.length-i:=(by simpa using hk);exact there _ (by omega)) (j-1-i) (by simp;omega)
     rw[show 0+(i+1)+(j-1-i)=0+j by omega]at this;rw[this];have e2:i+(j-1-i)=j-1:=(by omega);simp only[List.getElem_drop,List.getElem_map,e2];rw[(M0.1 h2).2]
  ·have hcl:m.cap=l.length:=(by omega);have hcg:=grownCap_ge w (l.length+1) m.cap 9;have hmx1:(100001:Nat)≤maxLen:=(by decide);have hcm:=grownCap_le_maxLen w (l.length+1) m.cap 9 (by omega);by_cases hil2:i=l.length
   ·subst hil2;refine(Any2.slices_Insert_string_end_grow Tryz.lays2_22 (some ⟨b,0,none⟩) l.length m.cap b2 0 1 _ (l.map encS) [encS t] w (by omega) (by omega) (by omega) (by omega) (by simp) rfl (by simp)
     (fun a ha j v hv=>by cases ha;rw[bx];exact hcs j v hv) hvs h1v).mono fun e w' ⟨he,hw⟩=>?_
    refine⟨_,he,fin w' w.heap.size _ (by rw[hw];exact(Only.drew w _).trans (Only.alloc _ _ _)) (.inr ⟨N3 _,by rw[hw];simp⟩) hcg hcm fun j x hx=>?_⟩;rw[hw];refine(i5 w.drew _ _ _).trans ?_;rw[Z8 (by simp;have:=(M0.1 hx).1;rw[hil]at this;omega)];rcases jk l t l.length (N3 _) j x hx with⟨h1,h2⟩| ⟨rfl,rfl⟩| ⟨h1,h2⟩
    ·rw[U3,M5 (by simpa using by omega),O2,R2,h2];rfl
    ·rw[U3,M9 (by simp)];simp
    ·have:=(M0.1 h2).1;omega
   ·refine(Any2.slices_Insert_string_grow Tryz.lays2_22 b 0 l.length m.cap i b2 0 1 _ (l.map encS) [encS t] w (by omega) (by omega) (by omega) (by omega) (by omega) (by simp) rfl hcs hvs h1c h1v).mono fun e w' ⟨he,hw⟩=>?_
    rw[show Tryz.lays2_22_ren.t 9=9 from rfl]at hw;generalize hw1:w.alloc (.cells (((l.map encS).take i).toArray++Builtin.zeroCells (Value.string ⟨#[]⟩).cells (l.length+1-i)++Builtin.zeroCells (Value.string ⟨#[]⟩).cells (grownCap w (l.length+1) m.cap 9-(l.length+1))) 9)=w1 at hw;have hsz1:w1.heap.size=w.heap.size+1:=(by rw[← hw1];simp);have ho1:Only w w1 (some b):=(by rw[← hw1];exact Only.alloc _ _ _);have hw':w'=((w1.drew.setCells w.heap.size i [encS t]).drew).setCells w.heap.size (i+1) ((l.map encS).drop i):=hw;have ho2:Only w1 w' (some w.heap.size):=(by rw[hw'];exact(((Only.drew _ _).trans (Only.setCells _ _ _ _)).trans (Only.drew _ _)).trans (Only.setCells _ _ _ _));have hc1:∀k,w1.cell? ⟨w.heap.size,k,none⟩=(((l.map encS).take i).toArray++Builtin.zeroCells (Value.string ⟨#[]⟩).cells (l.length+1-i)++Builtin.zeroCells (Value.string ⟨#[]⟩).cells (grownCap w (l.length+1) m.cap 9-(l.length+1)))[k]? :=by
     intro k;rw[← hw1];exact i5 _ _ _ _
    have th1:∀k,k<l.length+1→(w1.cell? ⟨w.heap.size,k,none⟩).isSome=true:=by
     intro k hk;rw[hc1,P1 (by simp[size_zeroCells,Value.cells];omega)];rfl
    have th2:∀k,k<l.length+1→((w1.drew.setCells w.heap.size i [encS t]).drew.cell? ⟨w.heap.size,k,none⟩).isSome=true:=fun k hk=>dT _ _ _ w1.drew _ (th1 k hk)
    refine⟨_,he,fin w' w.heap.size _ (Only.into ho1 ho2 (N3 _)) (.inr ⟨N3 _,by have:=ho2.size;omega⟩) hcg hcm fun j x hx=>?_⟩;rw[hw'];rcases jk l t i hi j x hx with⟨h1,h2⟩| ⟨rfl,rfl⟩| ⟨h1,h2⟩
    ·rw[W0 _ _ _ _ _ (fun _ _=>.inl (by simp;omega))];refine(W0 _ _ _ w1.drew _ (fun _ _=>.inl (by simp;omega))).trans ?_;refine(hc1 _).trans ?_;rw[Z8 (by simp;omega),Z8 (by simp;omega),U3,R2,O1 h1,O2,h2];rfl
    ·rw[W0 _ _ _ _ _ (fun _ _=>.inl (by simp))];have:=iS (w:=w1.drew) (b:=w.heap.size) (o:=j) (v:=encS x) (th1 j (by omega));simpa using this
    ·have hjl:=(M0.1 h2).1;have:=World.cell?_setCells_in w.heap.size ((l.map encS).drop i) (i+1) (w1.drew.setCells w.heap.size i [encS t]).drew (fun k hk=>by
      have hk2:k<l.length-i:=(by simpa using hk);exact th2 _ (by omega)) (j-1-i) (by simp;omega)
     rw[show i+1+(j-1-i)=0+j by omega]at this;rw[this];have e2:i+(j-1-i)=j-1:=(by omega);simp only[List.getElem_drop,List.getElem_map,e2];rw[(M0.1 h2).2]
theorem qD(a:AVal)(ha:a=.ez∨a=.nil (.slice none 0 0))(t:Bs)(v2:Nat)(rm:Bool)(h:Heap):
  Sat (CT G) 84 [a,.int .i64 0,.hs h.length v2 0 1 rm] (h++[Blk.row 9 1 v2 [.str t]]) (fun r h'=>r=.sl 1 [.str t]∧h'=h++[.dead]):=by
 intro B S μ w us fit rl;obtain⟨hul,hur⟩:=rl
 match us,hul,hur with
 | [u0,u1,u2],_,hur=>
  have r0:Rep w S μ a u0:=hur 0 _ rfl;have r1:Rep w S μ (.int .i64 0) u1:=hur 1 _ rfl;have r2:Rep w S μ (.hs h.length v2 0 1 rm) u2:=hur 2 _ rfl;obtain rfl:=r1.int_inv;have hg2:getRow (h++[Blk.row 9 1 v2 [.str t]]) h.length v2=some (9,1,[t].map .str):=by simp[getRow]
  obtain⟨m2,b2,cur2,hm2,hb2,hheap2,hsz2,hle2,hmax2,h02,rfl,hc2⟩:=ji fit (by simp) hg2 r2;have hset:(h++[Blk.row 9 1 v2 [.str t]]).set h.length .dead=h++[.dead]:=by simp[List.set_append]
  obtain⟨base,rfl⟩:∃base,u0=.slice base 0 0:=by
   rcases ha with rfl|rfl
   ·cases r0 with|ez a=>exact⟨_,rfl⟩
   ·exact⟨none,r0.nil_inv⟩
  change OpOk Tryz.prog _ ((callFunc 84 #[_,_,_]).run Tryz.prog w)
  rw[cH (f:=84) Tryz.func84 rfl rfl];have hvs:∀j v,[encS t][j]? =some v→w.cell? ⟨b2,0+j,none⟩=some v:=by
   intro j v hv
   match j with
   |0=>simp at hv;subst hv;exact hc2 0 t rfl
   |j+1=>simp at hv
  have h1v:∀v∈ [encS t],v.oneCell'=true:=by intro v hv;simp at hv;subst hv;rfl
  have hcg:=grownCap_ge w (0+1) 0 9;have hcm:=grownCap_le_maxLen w (0+1) 0 9 (by decide);refine(Any2.slices_Insert_string_end_grow Tryz.lays2_22 base 0 0 b2 0 1 _ [] [encS t] w (by omega) (by omega) (by omega) (by omega) rfl rfl (fun _=>rfl)
   (fun a ha j v hv=>by simp at hv) hvs h1v).mono fun e w' ⟨he,hw⟩=>?_
  obtain⟨S',μ',st,f',rp⟩:=ke (ls:=[t]) (off:=0) (cap:=grownCap w (0+1) 0 9) (w':=w') fit hm2 (by rw[hw];exact(Only.drew w _).trans (Only.alloc _ _ _)) (g:=w.heap.size) (.inr ⟨N3 _,by rw[hw];simp⟩) hcg hcm (fun j x hx=>by
   rw[hw];refine(i5 w.drew _ _ _).trans ?_
   match j with
   |0=>simp at hx;subst hx;rw[Z8 (by simp)];rfl
   |j+1=>simp at hx)
  rw[hset]at f';exact⟨_,he,_,_,S',μ',⟨rfl,rfl⟩,st,f',rp⟩
theorem tD(l:List Bs)(i v1:Nat)(hi:i<l.length)(hl:l.length≤100000)(h:Heap):
  Sat (CT G) 85 [.hs h.length v1 0 l.length true,.int .i64 i,.int .i64 (i+1)] (h++[Blk.row 9 1 v1 (l.map .str)])
   (fun r h'=>r=.sl 1 ((l.take i++l.drop (i+1)).map .str)∧h'=h++[.dead]):=by
 intro B S μ w us fit rl;obtain⟨hul,hur⟩:=rl
 match us,hul,hur with
 | [u0,u1,u2],_,hur=>
  have r0:Rep w S μ (.hs h.length v1 0 l.length true) u0:=hur 0 _ rfl;have r1:Rep w S μ (.int .i64 i) u1:=hur 1 _ rfl;have r2:Rep w S μ (.int .i64 (i+1)) u2:=hur 2 _ rfl;obtain rfl:=r1.int_inv;obtain rfl:=r2.int_inv;have hn:l≠ []:=by rintro rfl;simp at hi
  have hg0:getRow (h++[Blk.row 9 1 v1 (l.map .str)]) h.length v1=some (9,1,l.map .str):=by simp[getRow]
  obtain⟨m,b,cur,hm,hb,hheap,hsz,hle,hmax,h0,rfl,hc⟩:=ji fit hn hg0 r0;simp only[↓reduceIte];have hset:(h++[Blk.row 9 1 v1 (l.map .str)]).set h.length .dead=h++[.dead]:=by simp[List.set_append]
  have mx:maxLen≤9223372036854775807:=by decide
  change OpOk Tryz.prog _ ((callFunc 85 #[_,_,_]).run Tryz.prog w)
  rw[cH (f:=85) Tryz.func85 rfl rfl];have hH:Go.Sort.Holds Go.Proofs.encStr w b 0 l.toArray:=by
   intro j hj;have hj':j<l.length:=(by simpa using hj);refine⟨?_,by simp[World.frozen?,hheap]⟩;rw[hc j l[j] (M4 hj')];simp[encS,Go.Proofs.encStr,hj']
  have hlen:(l.take i++l.drop (i+1)++List.replicate (i+1-i) ([]:List UInt8)).length=l.length:=by simp;omega
  refine(Tryz.slices_Delete_string b 0 m.cap i (i+1) l w hH hle (by omega) (by omega) (by omega)).mono fun e w' ⟨he,q,hw⟩=>?_
  obtain⟨S',μ',st,f',rp⟩:=ke (ls:=l.take i++l.drop (i+1)) (off:=0) (cap:=m.cap) (w':=w') fit hm (by rw[hw,hb];exact Only.trans (b:=Go.Sort.ahead w q) ⟨rfl,rfl,rfl,N3 _,fun _ _ _=>rfl⟩ (Only.putRow _ _ _ _ _)) (g:=b) (.inl hb) (by simp;omega) hmax (fun j x hx=>by
   rw[hw];have hjl:=(M0.1 hx).1;have hH2:Go.Sort.Holds Go.Proofs.encStr (Go.Sort.ahead w q) b 0 l.toArray:=hH;rw[Go.Sort.cell?_putRow _ _ _ _ l.toArray _ hH2 (by simpa using hlen) j (by rw[Z3,M3];omega)];have hx2:(l.take i++l.drop (i+1)++List.replicate (i+1-i) ([]:List UInt8))[j]? =some x:=(by rw[M5 hjl];exact hx);have:(l.take i++l.drop (i+1)++List.replicate (i+1-i) ([]:List UInt8)).toArray[j]! =x:=by
    rw[getElem!_def,U3,hx2]
   rw[this];rfl)
  rw[hset]at f';have hl2:(l.take i++l.drop (i+1)).length=l.length-(i+1-i):=by simp;omega
  rw[hl2]at rp;exact⟨_,he,_,_,S',μ',⟨rfl,rfl⟩,st,f',rp⟩
end Go.Av
namespace Go.Av
open Go Go.Proofs Go.RowKit
attribute [local irreducible] WP WPl WPix Sat
variable (G:Nat→Option (List AVal))
theorem gb(h:Heap):Sat (CT G) 83 [.sl 1 []] h (fun r h'=>(r=.ez∨r=.nil (.slice none 0 0))∧h'=h):=by
 refine sb [.tmp 2] Tryz.func83 ?_;intro Q hQ;refine wk trivial ?_;refine gQ _ (by exact zq trivial) (.inl rfl) fun b=>?_
 cases b
 ·try refine sq trivial ?_
  refine wk trivial ?_;refine fh (.inl rfl) (by simp(disch:=first|omega| (simp only[go_sem, ↓reduceIte,seval];first|done|omega)|fail) only[go_sem, ↓reduceIte,seval];rfl) (by simp(disch:=first|omega| (simp only[go_sem, ↓reduceIte,seval];first|done|omega)|fail) only[go_sem, ↓reduceIte,seval];rfl) (by simp(disch:=first|omega| (simp only[go_sem, ↓reduceIte,seval];first|done|omega)|fail) only[go_sem, ↓reduceIte,seval];rfl) (by simp(disch:=first|omega| (simp only[go_sem, ↓reduceIte,seval];first|done|omega)|fail) only[go_sem, ↓reduceIte,seval];try rfl) (by omega) (by simp only[elemsOf, ↓reduceIte];try rfl) (by simp) (fun _=>?_) (fun h=>absurd rfl h);try refine sq trivial ?_
  refine wk trivial ?_;refine ee hQ trivial ?_;exact S6 .ez ⟨.inl rfl,rfl⟩
 ·try refine sq trivial ?_
  refine wk trivial ?_;refine ee hQ trivial ?_;exact S6 (.nil _) ⟨.inr rfl,rfl⟩
theorem tE(l:List Bs)(hn:l≠ [])(hl:l.length≤1048576)(h:Heap):Sat (CT G) 83 [.sl 1 (l.map .str)] h (fun r h'=>r=.hs h.length 0 0 l.length true∧h'=h++[Blk.row 9 1 0 (l.map .str)]):=by
 obtain⟨a,l,rfl⟩:∃a k,l=a::k:=by
  cases l with
  |nil=>exact absurd rfl hn
  |cons a k=>exact⟨a,k,rfl⟩
 have hr:(List.map AVal.str (a::l))≠ []:=by simp
 refine sb [.tmp 2] Tryz.func83 ?_;intro Q hQ;refine wk trivial ?_;refine fh (.inl rfl) (by simp(disch:=first|omega| (simp only[go_sem, ↓reduceIte,seval];first|done|omega)|fail) only[go_sem, ↓reduceIte,seval];rfl) (by simp(disch:=first|omega| (simp only[go_sem, ↓reduceIte,seval];first|done|omega)|fail) only[go_sem, ↓reduceIte,seval];rfl) (by simp(disch:=first|omega| (simp only[go_sem, ↓reduceIte,seval];first|done|omega)|fail) only[go_sem, ↓reduceIte,seval];rfl) (by simp(disch:=first|omega| (simp only[go_sem, ↓reduceIte,seval];first|done|omega)|fail) only[go_sem, ↓reduceIte,seval];try rfl) (by omega) (by simp only[elemsOf, ↓reduceIte];try rfl) ?_ (fun h=>by simp at h) (fun _=>?_)
 ·simp[maxLen]at hl ⊢;omega
 try refine sq trivial ?_
 refine wk trivial ?_;refine ee hQ trivial ?_;exact Y5 (by simp) (.hs _ _ _ _ _ (by simp)) ⟨rfl,rfl⟩
section
variable {H:Heap} {n:Nat} {s:PS}
theorem tF(hn:n+9≤H.length)(x:Blk)(a:AVal)(ha:a=.ez∨a=.nil (.slice none 0 0))(t:Bs):Sat (CT G) 84 [a,.int .i64 0,.hs (H.length+1) 0 0 1 true] (so (H++[x,Blk.row 9 1 0 [.str t]]) n s)
  (fun r h'=>r=.sl 1 [.str t]∧h'=so (H++[x,.dead]) n s):=by
 have c:=qD G a ha t 0 true (so (H++[x]) n s);have hn1:n+9≤(H++[x]).length:=by simp;omega
 rw[aB hn1,bF hn1,bF hn1]at c;simpa using c
theorem vr(hn:n+9≤H.length)(x:Blk)(l:List Bs)(t:Bs)(hl0:l≠ [])(hl:l.length≤100000):Sat (CT G) 84 [.hs (H.length+1) 0 0 l.length true,.int .i64 (lbF l t),.hs (H.length+2) 0 0 1 true] (so (H++[x,Blk.row 9 1 0 (l.map .str),Blk.row 9 1 0 [.str t]]) n s)
  (fun r h'=>r=.sl 1 ((l.take (lbF l t)++t::l.drop (lbF l t)).map .str)∧h'=so (H++[x,.dead,Blk.row 9 1 0 [.str t]]) n s):=by
 have c:=tC G l t (lbF l t) 0 0 true (ph l t) hl0 hl (so (H++[x]) n s);have hn1:n+9≤(H++[x]).length:=by simp;omega
 rw[aB hn1,bF hn1,bF hn1]at c;simpa using c
theorem vt(hn:n+9≤H.length)(x:Blk)(l:List Bs)(i:Nat)(hi:i<l.length)(hl:l.length≤100000):Sat (CT G) 85 [.hs (H.length+1) 0 0 l.length true,.int .i64 i,.int .i64 (i+1)] (so (H++[x,Blk.row 9 1 0 (l.map .str)]) n s)
  (fun r h'=>r=.sl 1 ((l.take i++l.drop (i+1)).map .str)∧h'=so (H++[x,.dead]) n s):=by
 have c:=tD G l i 0 hi hl (so (H++[x]) n s);have hn1:n+9≤(H++[x]).length:=by simp;omega
 rw[aB hn1,bF hn1,bF hn1]at c;simpa using c
theorem cu{s':PS}{j:Heap}{R:AVal→Heap→Prop}{r0 r:AVal}(hn:n+9≤H.length)(hz:Frz (so (H++j) n s') H.length r0 r)(hR:R r (so H n s')):Fin (so H n s) (so (H++j) n s') R r0:=gA hn rfl (PS.clo hn s') hz hR
theorem li(hn:n+9≤H.length)(x:Blk)(l:List Bs):Frz (so (H++[x,Blk.row 9 1 0 (l.map .str)]) n s) H.length (.hs (H.length+1) 0 0 l.length true) (.sl 1 (l.map .str)):=by
 have hg:getRow (so (H++[x,Blk.row 9 1 0 (l.map .str)]) n s) (H.length+1) 0=some (9,1,l.map .str):=by
  rw[cr (by simp;omega) 0 (by omega)];simp[getRow]
 have:=Frz.data (n:=H.length) (len:=l.length) (room:=true) (by omega) hg (by simp) (fun r hr=>by obtain⟨a,_,rfl⟩:=N5.1 hr;exact .str _) (fun r hr c hc=>by obtain⟨a,_,rfl⟩:=N5.1 hr;simp[AVal.cells]at hc;subst hc;rfl);simpa using this
theorem dm(hn:n+9≤H.length)(x:Blk)(l:List Bs)(hl0:l≠ [])(hl:l.length≤1048576):Sat (CT G) 83 [.sl 1 (l.map .str)] (so (H++[x]) n s)
  (fun r h'=>r=.hs (H.length+1) 0 0 l.length true∧h'=so (H++[x,Blk.row 9 1 0 (l.map .str)]) n s):=by
 have c:=tE G l hl0 hl (so (H++[x]) n s);have hn1:n+9≤(H++[x]).length:=by simp;omega
 rw[aB hn1,bF hn1]at c;simpa using c
end
theorem nq(s:PS)(id:Int)(t:Bs)(hs:Srt ((lkM s.it id).getD It.z).tags)(hl:((lkM s.it id).getD It.z).tags.length≤100000){H:Heap}{n:Nat}(hn:n+9≤H.length):Sat (CT G) 82 [.hp (n+8) 0 0 0,.int .i64 id,.str t] (so H n s) (fun r h'=>r=.tup [.int .i64 (lbF ((lkM s.it id).getD It.z).tags t),.bool (decide (t∈ ((lkM s.it id).getD It.z).tags))]∧h'=so H n s):=by
 refine sb [.tmp 6,.tmp 7] Tryz.func82 ?_;intro Q hQ;refine wk trivial ?_;refine kq trivial (nO G _ t hs hl _) ?_;refine ye hQ trivial ?_;exact bM hn (.tup _ (fun x hx=>by simp only[O5,W9,or_false]at hx;rcases hx with rfl|rfl;exact .int _ _;exact .bool _)) ⟨rfl,rfl⟩
def tgF(l:List Bs)(t:Bs)(n:Int):List Bs:=
 if n=1∧t ∉ l then l.take (lbF l t)++t::l.drop (lbF l t)else if n=0∧t∈l then l.take (lbF l t)++l.drop (lbF l t+1)else l
theorem pi(s:PS)(e:Ev)(hs:Srt ((lkM s.it e.a).getD It.z).tags)(hl:((lkM s.it e.a).getD It.z).tags.length≤100000){H:Heap}{n:Nat}(hn:n+9≤H.length):Sat (CT G) 41 [.hp (n+8) 0 0 0,e.av] (so H n s) (fun r h'=>r=.sl 1 ((tgF ((lkM s.it e.a).getD It.z).tags e.s e.n).map .str)∧h'=so H n s):=by
 have hT:=fun(H:Heap) (hn:n+9≤H.length)=>nq G s e.a e.s hs hl (n:=n) hn
 have hn1:∀x:Blk,n+9≤(H++[x]).length:=fun x=>by simp;omega
 generalize hg:((lkM s.it e.a).getD It.z).tags=l at hs hl hT ⊢;by_cases hn0:l=[]
 ·subst hn0;have ht:lbF [] e.s=0:=rfl;have hd:decide (e.s∈ ([]:List Bs))=false:=by simp
  rw[ht,hd]at hT;by_cases k1:e.n=1
  ·have F:=k1
   skip
   refine sb [.tmp 4] Tryz.func41 ?_;intro Q hQ;refine wn F ?_;refine bS 8 0 _ (by rfl) (by decide+kernel) (by kernel_rfl) (by decide+kernel) (by decide+kernel) (by decide+kernel) ?_;simp only[P9,R9];refine sq F ?_;refine wn F ?_;rw[hg];refine(gb G _).mono ?_;rintro r h' ⟨hr,rfl⟩;simp(disch:=first|omega| (simp only[go_sem, ↓reduceIte,seval];first|done|omega)|fail) only[go_sem, ↓reduceIte,seval,F]
   skip
   refine wk F ?_
   skip
   refine kx F (hT _ (by first|omega| (simp;omega))) ?_;refine kx F (tF G hn _ r hr e.s) ?_
   skip
   refine ee hQ F ?_;exact ar hn (.sl _ _ (by simp;exact .str _)) ⟨by simp[tgF,k1],rfl⟩
  ·by_cases k0:e.n=0
   ·have F:=k0
    skip
    refine sb [.tmp 4] Tryz.func41 ?_;intro Q hQ;refine wn F ?_;refine bS 8 0 _ (by rfl) (by decide+kernel) (by kernel_rfl) (by decide+kernel) (by decide+kernel) (by decide+kernel) ?_;simp only[P9,R9];refine sq F ?_;refine wn F ?_;rw[hg];refine(gb G _).mono ?_;rintro r h' ⟨hr,rfl⟩;simp(disch:=first|omega| (simp only[go_sem, ↓reduceIte,seval];first|done|omega)|fail) only[go_sem, ↓reduceIte,seval,F]
    skip
    refine wk F ?_;refine kq F (hT _ (by first|omega| (simp;omega))) ?_;refine ee hQ F ?_;refine cu (r:=.sl 1 []) hn ?_ ⟨by simp[tgF,k0,k1],rfl⟩;rcases hr with rfl|rfl
    ·exact .ezs _
    ·exact .nils _
   ·have n1:(e.n==1)=false:=(by simp[k1]);have n0:(e.n==0)=false:=(by simp[k0]);have F:=F2 n1 n0
    skip
    refine sb [.tmp 4] Tryz.func41 ?_;intro Q hQ;refine wn F ?_;refine bS 8 0 _ (by rfl) (by decide+kernel) (by kernel_rfl) (by decide+kernel) (by decide+kernel) (by decide+kernel) ?_;simp only[P9,R9];refine sq F ?_;refine wn F ?_;rw[hg];refine(gb G _).mono ?_;rintro r h' ⟨hr,rfl⟩;simp(disch:=first|omega| (simp only[go_sem, ↓reduceIte,seval];first|done|omega)|fail) only[go_sem, ↓reduceIte,seval,F]
    skip
    refine wk F ?_;refine kq F (hT _ (by first|omega| (simp;omega))) ?_;refine ee hQ F ?_;refine cu (r:=.sl 1 []) hn ?_ ⟨by simp[tgF,k0,k1],rfl⟩;rcases hr with rfl|rfl
    ·exact .ezs _
    ·exact .nils _
 ·by_cases km:e.s∈l
  ·have hd:decide (e.s∈l)=true:=(by simp[km]);rw[hd]at hT;have hlt:lbF l e.s<l.length:=(M0.1 (rA hs km)).1;by_cases k0:e.n=0
   ·have F:=k0
    skip
    refine sb [.tmp 4] Tryz.func41 ?_;intro Q hQ;refine wn F ?_;refine bS 8 0 _ (by rfl) (by decide+kernel) (by kernel_rfl) (by decide+kernel) (by decide+kernel) (by decide+kernel) ?_;simp only[P9,R9];refine sq F ?_;refine wn F ?_;rw[hg];refine(dm G hn _ l hn0 (by omega)).mono ?_;rintro r h' ⟨rfl,rfl⟩;try refine sq F ?_
    skip
    refine wk F ?_;refine kq F (hT _ (by first|omega| (simp;omega))) ?_;refine kq F (vt G hn _ l (lbF l e.s) hlt hl) ?_;refine ee hQ F ?_;exact ar hn (jY _ _) ⟨by simp[tgF,k0,km],rfl⟩
   ·by_cases k1:e.n=1
    ·have F:=k1
     skip
     refine sb [.tmp 4] Tryz.func41 ?_;intro Q hQ;refine wn F ?_;refine bS 8 0 _ (by rfl) (by decide+kernel) (by kernel_rfl) (by decide+kernel) (by decide+kernel) (by decide+kernel) ?_;simp only[P9,R9];refine sq F ?_;refine wn F ?_;rw[hg];refine(dm G hn _ l hn0 (by omega)).mono ?_;rintro r h' ⟨rfl,rfl⟩;try refine sq F ?_
     skip
     refine wk F ?_;refine kq F (hT _ (by first|omega| (simp;omega))) ?_;refine ee hQ F ?_;exact cu hn (li hn _ l) ⟨by simp[tgF,k1,km],rfl⟩
    ·have n1:(e.n==1)=false:=(by simp[k1]);have n0:(e.n==0)=false:=(by simp[k0]);have F:=F2 n1 n0
     skip
     refine sb [.tmp 4] Tryz.func41 ?_;intro Q hQ;refine wn F ?_;refine bS 8 0 _ (by rfl) (by decide+kernel) (by kernel_rfl) (by decide+kernel) (by decide+kernel) (by decide+kernel) ?_;simp only[P9,R9];refine sq F ?_;refine wn F ?_;rw[hg];refine(dm G hn _ l hn0 (by omega)).mono ?_;rintro r h' ⟨rfl,rfl⟩;try refine sq F ?_
     skip
     refine wk F ?_;refine kq F (hT _ (by first|omega| (simp;omega))) ?_;refine ee hQ F ?_;exact cu hn (li hn _ l) ⟨by simp[tgF,k1,k0,km],rfl⟩
  ·have hd:decide (e.s∈l)=false:=(by simp[km]);rw[hd]at hT;by_cases k1:e.n=1
   ·have F:=k1
    skip
    refine sb [.tmp 4] Tryz.func41 ?_;intro Q hQ;refine wn F ?_;refine bS 8 0 _ (by rfl) (by decide+kernel) (by kernel_rfl) (by decide+kernel) (by decide+kernel) (by decide+kernel) ?_;simp only[P9,R9];refine sq F ?_;refine wn F ?_;rw[hg];refine(dm G hn _ l hn0 (by omega)).mono ?_;rintro r h' ⟨rfl,rfl⟩;try refine sq F ?_
    skip
    refine wk F ?_
    skip
    refine kx F (hT _ (by first|omega| (simp;omega))) ?_;refine kx F (vr G hn _ l e.s hn0 hl) ?_
    skip
    refine ee hQ F ?_;exact ar hn (jY _ _) ⟨by simp[tgF,k1,km],rfl⟩
   ·by_cases k0:e.n=0
    ·have F:=k0
     skip
     refine sb [.tmp 4] Tryz.func41 ?_;intro Q hQ;refine wn F ?_;refine bS 8 0 _ (by rfl) (by decide+kernel) (by kernel_rfl) (by decide+kernel) (by decide+kernel) (by decide+kernel) ?_;simp only[P9,R9];refine sq F ?_;refine wn F ?_;rw[hg];refine(dm G hn _ l hn0 (by omega)).mono ?_;rintro r h' ⟨rfl,rfl⟩;try refine sq F ?_
     skip
     refine wk F ?_;refine kq F (hT _ (by first|omega| (simp;omega))) ?_;refine ee hQ F ?_;exact cu hn (li hn _ l) ⟨by simp[tgF,k0,km],rfl⟩
    ·have n1:(e.n==1)=false:=(by simp[k1]);have n0:(e.n==0)=false:=(by simp[k0]);have F:=F2 n1 n0
     skip
     refine sb [.tmp 4] Tryz.func41 ?_;intro Q hQ;refine wn F ?_;refine bS 8 0 _ (by rfl) (by decide+kernel) (by kernel_rfl) (by decide+kernel) (by decide+kernel) (by decide+kernel) ?_;simp only[P9,R9];refine sq F ?_;refine wn F ?_;rw[hg];refine(dm G hn _ l hn0 (by omega)).mono ?_;rintro r h' ⟨rfl,rfl⟩;try refine sq F ?_
     skip
     refine wk F ?_;refine kq F (hT _ (by first|omega| (simp;omega))) ?_;refine ee hQ F ?_;exact cu hn (li hn _ l) ⟨by simp[tgF,k1,k0,km],rfl⟩
theorem Bq(h:Heap)(s:PS):h++s.bl h.length=so (h++PS.z.bl h.length) h.length s:=by
 have:=uZ h (s.bl h.length) [];rw[N8]at this;rw[this];unfold so;have hz:ov (h++PS.z.bl h.length) h.length (PS.z.bl h.length)=h++PS.z.bl h.length:=by
  have:=uZ h (PS.z.bl h.length) [];rw[N8]at this;exact this.symm
 apply U0
 intro p;rw[bv (by simp),bv (by simp[PS.bl])];split
 ·rfl
 ·rename_i hp;rcases U7 p h.length with h1|h1
  ·rw[M5 h1,M5 h1]
  ·rw[M9 h1,M9 h1,R6 (by simp[PS.bl]at hp ⊢;omega),R6 (by simp[PS.bl]at hp ⊢;omega)]
@[go_sem] theorem HN(p:Nat):(AVal.hm p).cells=[.hm p]:=(rfl)
@[go_sem] theorem Ke(p:Nat):(AVal.hm p).lies=true:=(rfl)
theorem fW(h:Heap):Sat (CT G) 30 [] h (fun r h'=>r=.hp (h.length+8) 0 0 0∧h'=so (h++PS.z.bl h.length) h.length PS.z):=by
 rw[← Bq];refine sb [.tmp 0] Tryz.func30 ?_;intro Q hQ;refine wk trivial ?_;refine ee hQ trivial ?_;refine Y5 (by simp) (.hp _ _ _ _ (by simp)) ⟨rfl,?_⟩;simp[PS.bl,PS.z,encM,PS.row]
theorem tG(es:List Ev)(hl:es.length≤1048576)(I:PS→Prop)(okF:PS→Ev→Bool)(stp:PS→Ev→PS)(hI0:I PS.z)(hI:∀s e,e∈es→I s→I (stp s e))
  (hA:∀s e,e∈es→I s→∀(n:Nat) (H:Heap),n+9≤H.length→Sat (CT G) 13 [.hp (n+8) 0 0 0,e.av] (so H n s) (fun r h'=>r=.bool (okF s e)∧h'=so H n (stp s e)))(h:Heap):
  Sat (CT G) 11 [.sl 7 (es.map Ev.av)] h (fun r h'=>r=.hp (h.length+8) 0 0 0∧h'=so (h++PS.z.bl h.length) h.length (es.foldl stp PS.z)):=by
 have hIk:∀k,I ((es.take k).foldl stp PS.z):=by
  intro k;induction k with
  |zero=>exact hI0
  |succ k ih=>
   rw[T9,List.foldl_append];cases he:es[k]? with
   |none=>exact ih
   |some e=>exact hI _ _ (N0 he) ih
 have hz9:(PS.z.bl h.length).length=9:=rfl;generalize hH:h++PS.z.bl h.length=H0;have hl0:h.length+9≤H0.length:=by rw[← hH];simp[hz9]
 have hN:=fW G h;rw[hH]at hN;refine sb [.tmp 2] Tryz.func11 ?_;intro Q hQ;refine wk trivial ?_;refine kq trivial (hN) ?_;refine lm (fun nL tL hL=>∃(k:Nat) (j:Heap),es.length-k=nL∧so (H0++j) h.length ((es.take k).foldl stp PS.z)=hL∧tL 3=.hp (h.length+8) 0 0 0∧tL 7=.sl 7 (es.map Ev.av)∧tL 8=.int .i64 es.length∧tL 9=.int .i64 k∧k≤es.length) ((fun(k:Nat) (j:Heap)=>(es.length-k:Nat)) (0) ([])) ?_ ?_
 ·refine N6 ⟨0,[],rfl,aw,?_,?_,?_,?_,by omega⟩;all_goals try exact zZz trivial
 rintro _ s2 h' ⟨k,j,rfl,rfl,e3,e7,e8,e9,hk⟩ K2 hK2;simp only[aj,am,Nat.reduceEqDiff, ↓reduceIte]at e3 e7 e8 e9;have F:=F4 e3 e7 e8 e9;refine wk F ?_;have hn1:h.length+9≤(H0++j).length:=by simp;omega
 refine cq F (fun c1=>?_) (fun c1=>?_)<;>(try exact c1.elim)<;>(refine wk F ?_)
 ·have c2:k<es.length:=by omega
  obtain⟨e,he⟩:∃e,es[k]? =some e:=⟨es[k],M4 c2⟩;have hem:=N0 he;have F:=F3 F c2 he;try refine sq F ?_
  refine wk F ?_;refine kq F (hA _ e hem (hIk k) _ _ (by first|omega| (simp;omega))) ?_;have ht:(es.take (k+1)).foldl stp PS.z=stp ((es.take k).foldl stp PS.z) e:=by rw[T9,List.foldl_append,he];rfl
  refine hK2 _ _ _ (N6 ⟨k+1,j++[.row 34 7 0 [e.av]],rfl,by rw[ht];rfl,?_,?_,?_,?_,by omega⟩) (by omega);all_goals try exact zZz F
 ·have hk2:k=es.length:=by omega
  subst hk2;have htk:es.take es.length=es:=Z9;rw[htk];refine wk F ?_;refine ee hQ F ?_;rw[← bF hl0];refine Fin.upto (by rw[aB hl0];omega) ?_ (.hp _ _ _ _ (by rw[aB hl0];omega)) ⟨rfl,rfl⟩;rw[aB hl0];have:=Bq h (es.foldl stp PS.z);rw[hH]at this;rw[← this];exact(KeepC.refl h _).app (PS.clo hl0 _)
end Go.Av
namespace Go.Av
open Go Go.Proofs Go.RowKit
section
variable {κ α:Type} [DecidableEq κ]
def sumM(w:α→Int):ML κ α→Int
 | []=>0
 |e::l=>w e.2.1+sumM w l
def atM(w:α→Int):Option α→Int
 |none=>0
 |some a=>w a
theorem jl(w:α→Int)(l:ML κ α)(c:Nat)(x:κ)(a:α):sumM w (upM l c x a)=sumM w l+w a-atM w (lkM l x):=by
 induction l with
 |nil=>simp[upM,sumM,lkM,atM]
 |cons e l ih=>
  simp only[upM,lkM];split
  ·simp only[sumM,atM];omega
  ·simp only[sumM,ih];omega
theorem rB(w:α→Int)(l:ML κ α)(x:κ):sumM w (dlM l x)=sumM w l-atM w (lkM l x):=by
 induction l with
 |nil=>simp[dlM,sumM,lkM,atM]
 |cons e l ih=>
  simp only[dlM,lkM];split
  ·simp only[sumM,atM];omega
  ·simp only[sumM,ih];omega
omit [DecidableEq κ] in
theorem dU{w:α→Int}(h:∀a,0≤w a)(l:ML κ α):0≤sumM w l:=by
 induction l with
 |nil=>simp[sumM]
 |cons e l ih=>have:=h e.2.1;simp only[sumM];omega
omit [DecidableEq κ] in
theorem jm{w:α→Int}(h:∀a,w a≤1)(l:ML κ α):sumM w l≤l.length:=by
 induction l with
 |nil=>simp[sumM]
 |cons e l ih=>have:=h e.2.1;simp only[sumM,M6];omega
theorem xZ{w:α→Int}(h:∀a,0≤w a)(l:ML κ α)(x:κ):atM w (lkM l x)≤sumM w l:=by
 induction l with
 |nil=>simp[sumM,lkM,atM]
 |cons e l ih=>
  have h1:=h e.2.1;have h2:=dU h l;simp only[lkM];split
  ·simp only[sumM,atM];omega
  ·simp only[sumM];omega
theorem vu{w:α→Int}(h:∀a,0≤w a){l:ML κ α}(h0:sumM w l≤0){x:κ}{a:α}(hx:lkM l x=some a):w a=0:=by
 have:=xZ h l x;rw[hx]at this;have:=h a;simp only[atM]at *;omega
end
def inFo(id:Int)(f:Fo):Int:=if f.inn=id then 1 else 0
def inFe(id:Int)(f:Fe):Int:=if f.inn=id then 1 else 0
theorem jn(id:Int)(f:Fo):0≤inFo id f:=by unfold inFo;split<;>omega
theorem jo(id:Int)(f:Fe):0≤inFe id f:=by unfold inFe;split<;>omega
theorem rC(id:Int)(f:Fo):inFo id f≤1:=by unfold inFo;split<;>omega
theorem rD(id:Int)(f:Fe):inFe id f≤1:=by unfold inFe;split<;>omega
theorem eF{l:ML Int Fo}:∀{k:Nat} {id:Int} {d:Nat},deepO l k id=some d→∀{k':Nat},d≤k'→deepO l k' id=some d:=by
 intro k;induction k with
 |zero=>
  intro id d h k' hk;rw[deepO]at h;cases hl:lkM l id with
  |none=>
   rw[hl]at h;simp at h;subst h;cases k' with
   |zero=>rw[deepO,hl];simp
   |succ k'=>rw[deepO,hl]
  |some f=>rw[hl]at h;simp at h
 |succ k ih=>
  intro id d h k' hk;rw[deepO]at h;cases hl:lkM l id with
  |none=>
   rw[hl]at h;simp at h;subst h;cases k' with
   |zero=>rw[deepO,hl];simp
   |succ k'=>rw[deepO,hl]
  |some f=>
   rw[hl]at h;simp only[N9]at h;obtain⟨j,hj,rfl⟩:=h;obtain⟨k'',rfl⟩:∃k'',k'=k''+1:=⟨k'-1,by omega⟩;rw[deepO,hl];simp only[ih hj (k':=k'') (by omega),T3]
theorem jG{l l':ML Int Fo}(P:Int→Prop)(h:∀id,P id→lkM l' id=lkM l id)(hc:∀id f,P id→lkM l id=some f→P f.inn):∀(k:Nat) (id:Int),P id→deepO l' k id=deepO l k id:=by
 intro k;induction k with
 |zero=>intro id hp;rw[deepO,deepO,h id hp]
 |succ k ih=>
  intro id hp;rw[deepO,deepO,h id hp];cases hl:lkM l id with
  |none=>rfl
  |some f=>simp only[ih f.inn (hc id f hp hl)]
structure PS.Inv (s:PS):Prop where
 w1:WFM s.fo s.c1
 w2:WFM s.fe s.c2
 w3:WFM s.it s.c3
 w4:WFM s.se s.c4
 w7:WFM s.gu s.c7
 w8:WFM s.he s.c8
 i1:∀k f,lkM s.fo k=some f→f.id=k∧1≤k∧k≤1048576
 i2:∀k f,lkM s.fe k=some f→f.id=k∧1≤k∧k≤1048576
 i3:∀k t,lkM s.it k=some t→t.id=k∧1≤k∧k≤1048576
 i4:∀k q,lkM s.se k=some q→q.id=k∧1≤k∧k≤1048576
 u1:∀k f,lkM s.fo k=some f→f.inn=0∨(lkM s.fo f.inn).isSome=true
 u2:∀k f,lkM s.fe k=some f→f.inn=0∨(lkM s.fo f.inn).isSome=true
 u3:∀k t,lkM s.it k=some t→(lkM s.fe t.feed).isSome=true
 dp:∀id,∃d,d≤7∧deepO s.fo 7 id=some d
 hd:∀id,id≠0→(lkM s.he id).getD 0=sumM (inFo id) s.fo+sumM (inFe id) s.fe
 h0:lkM s.he 0=none
 tg:∀k t,lkM s.it k=some t→Srt t.tags∧t.tags.length≤8
 l1:s.fo.length≤64
 l2:s.fe.length≤64
 l3:s.it.length≤1024
 l4:s.se.length≤32
theorem PS.Inv.z:PS.z.Inv where
 w1:=.nil
 w2:=.nil
 w3:=.nil
 w4:=.nil
 w7:=.nil
 w8:=.nil
 i1:=fun _ _ h=>by cases h
 i2:=fun _ _ h=>by cases h
 i3:=fun _ _ h=>by cases h
 i4:=fun _ _ h=>by cases h
 u1:=fun _ _ h=>by cases h
 u2:=fun _ _ h=>by cases h
 u3:=fun _ _ h=>by cases h
 dp:=fun _=>⟨0,by omega,rfl⟩
 hd:=fun _ _=>rfl
 h0:=rfl
 tg:=fun _ _ h=>by cases h
 l1:=by simp[PS.z]
 l2:=by simp[PS.z]
 l3:=by simp[PS.z]
 l4:=by simp[PS.z]
theorem PS.Inv.few{s:PS}(h:s.Inv):s.few:=by
 intro id;by_cases h0:id=0
 ·subst h0;rw[h.h0];simp
 ·have h1:=h.hd id h0;have h2:=dU (jn id) s.fo;have h3:=dU (jo id) s.fe;have h4:=jm (rC id) s.fo;have h5:=jm (rD id) s.fe;have h6:=h.l1;have h7:=h.l2;omega
def heF(he:ML Int Int)(c:Nat)(id k:Int):ML Int Int:=if id=0 then he else upM he c id ((lkM he id).getD 0+k)
def chF(he:ML Int Int)(c:Nat)(id:Int):Nat:=if id=0 then c else ckM he c id
theorem bC(s:PS)(id k:Int):s.hold id k= {s with he:=heF s.he s.c8 id k,c8:=chF s.he s.c8 id}:=by
 unfold PS.hold heF chF;split<;>rfl
theorem fD(he:ML Int Int)(c:Nat)(id k x:Int):(lkM (heF he c id k) x).getD 0=(lkM he x).getD 0+(if x=id∧id≠0 then k else 0):=by
 unfold heF;by_cases h:id=0
 ·rw[M7 h,M1 (by omega)];omega
 ·rw[M1 h,aS];by_cases hx:x=id
  ·subst hx;rw[M7 rfl,M7 ⟨rfl,h⟩];rfl
  ·rw[M1 hx,M1 (by omega)];omega
theorem jp{he:ML Int Int}(c:Nat)(id k:Int)(h:lkM he 0=none):lkM (heF he c id k) 0=none:=by
 unfold heF;split
 ·exact h
 ·rename_i h1;rw[aS,M1 (fun e=>h1 e.symm)];exact h
theorem gB{he:ML Int Int}{c:Nat}(w:WFM he c)(id k:Int):WFM (heF he c id k) (chF he c id):=by
 unfold heF chF;split
 ·exact w
 ·exact w.up _ _
theorem y7{s:PS}(h:s.Inv)(id k:Int)(hk: -1≤k∧k≤1):(s.hold id k).few:=by
 intro x;have h1:=fD s.he s.c8 id k x;rw[bC];simp only;have h6:=h.l1;have h7:=h.l2;have h2:=dU (jn x) s.fo;have h3:=dU (jo x) s.fe;have h4:=jm (rC x) s.fo;have h5:=jm (rD x) s.fe;by_cases h0:x=0
 ·subst h0;rw[h1,h.h0];simp only[Option.getD_none];split<;>omega
 ·have:=h.hd x h0;rw[h1];split<;>omega
def PS.dpt(s:PS)(id:Int):Nat:=(deepO s.fo 7 id).getD 0
def PS.ok(L:Leaf)(s:PS)(e:Ev):Bool:=s.fits (L.ck e) (s.dpt e.b) e
def PS.aft(s:PS)(e:Ev):PS:=s.after (tgF ((lkM s.it e.a).getD It.z).tags e.s e.n) e
def PS.step(L:Leaf)(s:PS)(e:Ev):PS:=if s.ok L e then s.aft e else s
theorem i6{L:Leaf}{e:Ev}(h:L.right e=true)(hk:e.kind≠13):1≤e.a∧e.a≤1048576:=by
 have:idF e.a=true:=by
  unfold Leaf.right at h;repeat' (split at h)
  all_goals first| (simp only[M2]at h;exact h.1)|exact h|omega| (cases h)
 simpa [idF]using this
theorem zS{l:List Bs}{t:Bs}(hs:Srt l)(ht:t ∉ l):Srt (l.take (lbF l t)++t::l.drop (lbF l t)):=by
 induction l with
 |nil=>simp[lbF,Srt]
 |cons a l ih=>
  have hs':=hs;unfold Srt at hs;rw[List.pairwise_cons]at hs;rw[kc];split
  ·rename_i hat;simp only[P9,List.drop_succ_cons,Q2];unfold Srt;rw[List.pairwise_cons];refine⟨fun x hx=>?_,ih hs.2 (fun h=>ht (P3 _ h))⟩;rw[Q6,O5]at hx;rcases hx with h|rfl|h
   ·exact hs.1 x (Y0 h)
   ·exact hat
   ·exact hs.1 x (List.mem_of_mem_drop h)
  ·rename_i hat;simp only[R9,zb4,P2];have hat':Op.bytesLess a t=false:=(by simpa using hat);have hta:Op.bytesLess t a=true:=by
    cases h:Op.bytesLess t a with
    |true=>rfl
    |false=>exact(ht (by rw[vm t a h hat'];exact Q0 ..)).elim
   unfold Srt;rw[List.pairwise_cons];refine⟨fun x hx=>?_,hs'⟩;rcases O5.1 hx with rfl|h
   ·exact hta
   ·exact jZ hta (hs.1 x h)
theorem zT{l:List Bs}(hs:Srt l)(i:Nat):Srt (l.take i++l.drop (i+1)):=by
 rw[← List.eraseIdx_eq_take_drop_succ];exact hs.sublist (List.eraseIdx_sublist l i)
theorem zU{l:List Bs}(hs:Srt l)(t:Bs)(n:Int):Srt (tgF l t n):=by
 unfold tgF;split
 ·rename_i h;exact zS hs h.2
 ·split
  ·exact zT hs _
  ·exact hs
theorem zV{l:List Bs}(t:Bs)(n:Int)(hl:l.length≤8)(h:n=0∨t∈l∨l.length<8):(tgF l t n).length≤8:=by
 have:=ph l t;unfold tgF;split
 ·rename_i h1;simp only[M3,M6,P6,Q5];rcases h with h|h|h
  ·omega
  ·exact(h1.2 h).elim
  ·omega
 ·split
  ·simp only[M3,P6,Q5];omega
  ·exact hl
end Go.Av
namespace Go.Av
open Go Go.Proofs Go.RowKit
attribute [local irreducible] WP WPl WPix Sat
variable (G:Nat→Option (List AVal))
structure St where
 clock:Int
 fo:List Fo
 fe:List Fe
 it:List It
 se:List Se
 t1:Int
 t2:Int
 t3:Int
 t4:Int
def St.av(x:St):AVal:=.agg [.int .i64 x.clock,.sl 3 (x.fo.map Fo.av),.sl 4 (x.fe.map Fe.av),.sl 9 (x.it.map It.av),.sl 3 (x.se.map Se.av),.int .i64 x.t1,.int .i64 x.t2,.int .i64 x.t3,.int .i64 x.t4]
@[go_sem] theorem St.av_eq(x:St):x.av=.agg [.int .i64 x.clock,.sl 3 (x.fo.map Fo.av),.sl 4 (x.fe.map Fe.av),.sl 9 (x.it.map It.av),.sl 3 (x.se.map Se.av),.int .i64 x.t1,.int .i64 x.t2,.int .i64 x.t3,.int .i64 x.t4]:=(rfl)
def PS.tell(s:PS):St:=⟨s.clock,valsM Fo.z s.fo,valsM Fe.z s.fe,valsM It.z s.it,valsM Se.z s.se,s.t1,s.t2,s.t3,s.t4⟩
def inI(k:Int):Prop:= -9223372036854775808≤k∧k≤9223372036854775807
structure PS.Ok (s:PS):Prop where
 w1:WFM s.fo s.c1
 w2:WFM s.fe s.c2
 w3:WFM s.it s.c3
 w4:WFM s.se s.c4
 b1:∀e∈s.fo,inI e.1
 b2:∀e∈s.fe,inI e.1
 b3:∀e∈s.it,inI e.1
 b4:∀e∈s.se,inI e.1
 l1:s.fo.length≤100000
 l2:s.fe.length≤100000
 l3:s.it.length≤100000
 l4:s.se.length≤100000
 tg:∀t∈valsM It.z s.it,t.tags.length≤1048576
theorem ml{N:Nat}{h:Heap}{α:Type}{av:α→AVal}{m:Nat}(hc:∀a,Clo N (av a))(l:List α):Frz h N (.sl m (l.map av)) (.sl m (l.map av)):=
 .clo _ (Clo.sl _ _ fun x hx=>by obtain⟨a,_,rfl⟩:=N5.1 hx;exact hc a)
theorem y9(s:PS){H j:Heap}{n p v:Nat}(hn:n+9≤H.length)(hg:getRow (H++j) (H.length+p) v=some (86,9,(valsM It.z s.it).map It.av)):
  Fin (so H n s) (so (H++j) n s) (fun r h'=>r=s.tell.av∧h'=so H n s) (.agg [.int .i64 s.clock,.sl 3 ((valsM Fo.z s.fo).map Fo.av),.sl 4 ((valsM Fe.z s.fe).map Fe.av),.hs (H.length+p) v 0 (valsM It.z s.it).length true,.sl 3 ((valsM Se.z s.se).map Se.av),.int .i64 s.t1,.int .i64 s.t2,.int .i64 s.t3,.int .i64 s.t4]):=by
 have hl:H.length+p<(H++j).length:=aA hg;have hg':getRow (so (H++j) n s) (H.length+p) v=some (86,9,(valsM It.z s.it).map It.av):=by rw[cr (by simp;omega) v (by omega)];exact hg
 refine gA hn rfl (PS.clo hn s) (FrzL.agg (.cons (.clo _ (.int _ _)) (.cons (ml (Fo.clo _) _) (.cons (ml (Fe.clo _) _) (.cons (Frz.data (by omega) hg' (by simp) (fun r hr=>by obtain⟨a,_,rfl⟩:=N5.1 hr;exact It.clo _ a) (fun r hr=>by obtain⟨a,_,rfl⟩:=N5.1 hr;exact a.cells_sto)) (.cons (ml (Se.clo _) _) (.cons (.clo _ (.int _ _)) (.cons (.clo _ (.int _ _)) (.cons (.clo _ (.int _ _)) (.cons (.clo _ (.int _ _)) .nil))))))))) rfl) ⟨rfl,rfl⟩
def PS.tellH(s:PS)(p v:Nat):AVal:=.agg [.int .i64 s.clock,.sl 3 ((valsM Fo.z s.fo).map Fo.av),.sl 4 ((valsM Fe.z s.fe).map Fe.av),.hs p v 0 (valsM It.z s.it).length true,.sl 3 ((valsM Se.z s.se).map Se.av),.int .i64 s.t1,.int .i64 s.t2,.int .i64 s.t3,.int .i64 s.t4]
theorem qE(s:PS)(hs:s.Ok){H:Heap}{n:Nat}(hn:n+9≤H.length)(R:AVal→Heap→Prop)
  (hR:∀(j:Heap) (p v:Nat),getRow (H++j) (H.length+p) v=some (86,9,(valsM It.z s.it).map It.av)→Fin (so H n s) (so (H++j) n s) R (s.tellH (H.length+p) v)):Sat (CT G) 14 [.hp (n+8) 0 0 0] (so H n s) R:=by
 have hvl:(valsM It.z s.it).length≤100000:=by unfold valsM;rw[O0,dj,O0];exact hs.l3
 refine sb [.cell 2 41] Tryz.func14 ?_;intro Q hQ;refine wk trivial ?_;refine bj 46 [8,13,18,23,44,45] [true,true,true,true,true,true,true,true,false,true,true,true,true,false,true,true,true,true,false,true,true,true,true,false,true,true,true,true,true,true,true,true,true,true,true,true,true,true,true,true,true,true,true,true,false,false] (.two 8 [false,true,true,true,false,false,false,false,false,false,true,true,true,false,false,true,true,true,false,false,true,true,true,false,false,true,true,true,true,false,true,true,true,true,false,true,true,true,true,false,true,true,true,true] (.two 13 [false,true,true,true,false,false,false,false,false,false,false,false,false,false,false,true,true,true,false,false,true,true,true,false,false,true,true,true,true,false,true,true,true,true,false,true,true,true,true,false,true,true,true,true] (.two 18 [false,true,true,true,false,false,false,false,false,false,false,false,false,false,false,false,false,false,false,false,true,true,true,false,false,true,true,true,true,false,true,true,true,true,false,true,true,true,true,false,true,true,true,true] (.two 23 [false,true,true,true,false,false,false,false,false,false,false,false,false,false,false,false,false,false,false,false,false,false,false,false,false,true,true,true,true,false,true,true,true,true,false,true,true,true,true,false,true,true,true,true] (.two 44 [] (.one 45 [] .fin) 45 [false,true,true,true,false,false,false,false,false,false,false,false,false,false,false,false,false,false,false,false,false,false,false,false,false,true,true,true,true,false,true,true,true,true,false,true,true,true,true,false,true,true,true,true] (.one 44 [] .fin)) 45 [false,true,true,true,false,false,false,false,false,false,false,false,false,false,false,false,false,false,false,false,true,true,true,false,false,true,true,true,true,false,true,true,true,true,false,true,true,true,true,false,true,true,true,true] (.one 23 [false,true,true,true,false,false,false,false,false,false,false,false,false,false,false,false,false,false,false,false,false,false,false,false,false,true,true,true,true,false,true,true,true,true,false,true,true,true,true,false,true,true,true,true] (.one 44 [] .fin))) 45 [false,true,true,true,false,false,false,false,false,false,false,false,false,false,false,true,true,true,false,false,true,true,true,false,false,true,true,true,true,false,true,true,true,true,false,true,true,true,true,false,true,true,true,true] (.one 18 [false,true,true,true,false,false,false,false,false,false,false,false,false,false,false,false,false,false,false,false,true,true,true,false,false,true,true,true,true,false,true,true,true,true,false,true,true,true,true,false,true,true,true,true] (.one 23 [false,true,true,true,false,false,false,false,false,false,false,false,false,false,false,false,false,false,false,false,false,false,false,false,false,true,true,true,true,false,true,true,true,true,false,true,true,true,true,false,true,true,true,true] (.one 44 [] .fin)))) 45 [false,true,true,true,false,false,false,false,false,false,true,true,true,false,false,true,true,true,false,false,true,true,true,false,false,true,true,true,true,false,true,true,true,true,false,true,true,true,true,false,true,true,true,true] (.one 13 [false,true,true,true,false,false,false,false,false,false,false,false,false,false,false,true,true,true,false,false,true,true,true,false,false,true,true,true,true,false,true,true,true,true,false,true,true,true,true,false,true,true,true,true] (.one 18 [false,true,true,true,false,false,false,false,false,false,false,false,false,false,false,false,false,false,false,false,true,true,true,false,false,true,true,true,true,false,true,true,true,true,false,true,true,true,true,false,true,true,true,true] (.one 23 [false,true,true,true,false,false,false,false,false,false,false,false,false,false,false,false,false,false,false,false,false,false,false,false,false,true,true,true,true,false,true,true,true,true,false,true,true,true,true,false,true,true,true,true] (.one 44 [] .fin))))) 45 [false,true,true,true,false,true,true,true,false,false,true,true,true,false,false,true,true,true,false,false,true,true,true,false,false,true,true,true,true,false,true,true,true,true,false,true,true,true,true,false,true,true,true,true] (.one 8 [false,true,true,true,false,false,false,false,false,false,true,true,true,false,false,true,true,true,false,false,true,true,true,false,false,true,true,true,true,false,true,true,true,true,false,true,true,true,true,false,true,true,true,true] (.one 13 [false,true,true,true,false,false,false,false,false,false,false,false,false,false,false,true,true,true,false,false,true,true,true,false,false,true,true,true,true,false,true,true,true,true,false,true,true,true,true,false,true,true,true,true] (.one 18 [false,true,true,true,false,false,false,false,false,false,false,false,false,false,false,false,false,false,false,false,true,true,true,false,false,true,true,true,true,false,true,true,true,true,false,true,true,true,true,false,true,true,true,true] (.one 23 [false,true,true,true,false,false,false,false,false,false,false,false,false,false,false,false,false,false,false,false,false,false,false,false,false,true,true,true,true,false,true,true,true,true,false,true,true,true,true,false,true,true,true,true] (.one 44 [] .fin)))))) (by decide+kernel) (by kernel_rfl) (by decide+kernel) ?_;simp only[bA,bB,bg];try refine sq trivial ?_
 repeat' ((first|refine aN ?_|refine aO ?_|refine aV ?_ ?_)<;>try refine sq trivial ?_)
 all_goals try refine wk trivial ?_
 repeat' (first
  | (refine(mh G s hs.w1 hs.b1 hs.l1 (by first|omega| (simp;omega))).mono ?_;rintro r h' ⟨rfl,rfl⟩;try refine sq trivial ?_)
  | (refine(mi G s hs.w2 hs.b2 hs.l2 (by first|omega| (simp;omega))).mono ?_;rintro r h' ⟨rfl,rfl⟩;try refine sq trivial ?_)
  | (refine(mj G s hs.w4 hs.b4 hs.l4 (by first|omega| (simp;omega))).mono ?_;rintro r h' ⟨rfl,rfl⟩;try refine sq trivial ?_)
  | (refine(lc G s hs.w3 hs.b3 hs.l3 (by first|omega| (simp;omega))).mono ?_;rintro r h' ⟨v,rfl,rfl⟩;try refine sq trivial ?_)
  | (refine aN ?_;try refine sq trivial ?_)| (refine aO ?_;try refine sq trivial ?_)| (refine aV ?_ ?_<;>try refine sq trivial ?_))
 all_goals try refine wk trivial ?_
 all_goals first
  | (
   refine lm (fun nL tL hL=>∃(k:Nat) (hh:Heap),(valsM It.z s.it).length-k=nL∧so hh n s=hL∧tL 2=.hp H.length 0 0 0∧tL 3=.hp (H.length+3) 0 0 0∧tL 55=.hs (H.length+2) v 0 (valsM It.z s.it).length true∧tL 56=.int .i64 ((valsM It.z s.it).length:Int)∧tL 57=.int .i64 k∧k≤(valsM It.z s.it).length∧(FrN H.length H hh∧H.length+3<hh.length)∧getRow hh H.length 0=some (41,9,[.agg [.int .i64 0,.nil (.slice none 0 0),.nil (.slice none 0 0),.nil (.slice none 0 0),.nil (.slice none 0 0),.int .i64 0,.int .i64 0,.int .i64 0,.int .i64 0]])∧getRow hh (H.length+3) 0=some (41,9,[.agg [.int .i64 s.clock,.sl 3 ((valsM Fo.z s.fo).map Fo.av),.sl 4 ((valsM Fe.z s.fe).map Fe.av),.hs (H.length+2) v 0 (valsM It.z s.it).length true,.sl 3 ((valsM Se.z s.se).map Se.av),.int .i64 s.t1,.int .i64 s.t2,.int .i64 s.t3,.int .i64 s.t4]])∧getRow hh (H.length+2) v=some (86,9,(valsM It.z s.it).map It.av)) ((fun(k:Nat) (hh:Heap)=>((valsM It.z s.it).length-k:Nat)) (0) (H++[.row 41 9 0 [.agg [.int .i64 0,.nil (.slice none 0 0),.nil (.slice none 0 0),.nil (.slice none 0 0),.nil (.slice none 0 0),.int .i64 0,.int .i64 0,.int .i64 0,.int .i64 0]],.row 75 1 0 [.hm (n+2)],.row 86 9 v ((valsM It.z s.it).map It.av),.row 41 9 0 [.agg [.int .i64 s.clock,.sl 3 ((valsM Fo.z s.fo).map Fo.av),.sl 4 ((valsM Fe.z s.fe).map Fe.av),.hs (H.length+2) v 0 (valsM It.z s.it).length true,.sl 3 ((valsM Se.z s.se).map Se.av),.int .i64 s.t1,.int .i64 s.t2,.int .i64 s.t3,.int .i64 s.t4]]])) ?_ ?_
   ·refine N6 ⟨0,H++[.row 41 9 0 [.agg [.int .i64 0,.nil (.slice none 0 0),.nil (.slice none 0 0),.nil (.slice none 0 0),.nil (.slice none 0 0),.int .i64 0,.int .i64 0,.int .i64 0,.int .i64 0]],.row 75 1 0 [.hm (n+2)],.row 86 9 v ((valsM It.z s.it).map It.av),.row 41 9 0 [.agg [.int .i64 s.clock,.sl 3 ((valsM Fo.z s.fo).map Fo.av),.sl 4 ((valsM Fe.z s.fe).map Fe.av),.hs (H.length+2) v 0 (valsM It.z s.it).length true,.sl 3 ((valsM Se.z s.se).map Se.av),.int .i64 s.t1,.int .i64 s.t2,.int .i64 s.t3,.int .i64 s.t4]]],rfl,aw,?_,?_,?_,?_,?_,by omega,⟨zb7 _ (by omega) (zb6 _ _),by simp⟩,by rw[bH _ rfl];rfl,by rw[bZ _ rfl];rfl,by rw[bZ _ rfl];simp[getRow]⟩;all_goals try exact zZz trivial
   rintro _ s2 h' ⟨k,hh,rfl,rfl,e2,e3,e55,e56,e57,hk,hfr,hg2,hgx,hgi⟩ K2 hK2;simp only[aj,am,Nat.reduceEqDiff, ↓reduceIte]at e2 e3 e55 e56 e57;have F:=F5 e2 e3 e55 e56 e57;refine wk F ?_;obtain⟨hfr,hfl⟩:=hfr;have hn1:n+9≤hh.length:=(by omega);refine cq F (fun c1=>?_) (fun c1=>?_)<;>(try exact c1.elim)<;>(refine wk F ?_)
   ·have c2:k<(valsM It.z s.it).length:=(by omega);obtain⟨y,hy,hym⟩:=ak c2;have hyt:=hs.tg y hym;have hset:((valsM It.z s.it).map It.av).set k (.agg [.int .i64 y.id,.int .i64 y.feed,.int .i64 y.date,.str y.guid,.str y.title,.str y.link,.bool y.read,.bool y.star,.sl 1 (y.tags.map .str)])=(valsM It.z s.it).map It.av:=by
     apply U0
     intro q;rw[za5];split
     ·rename_i hq;subst hq;rw[O2,hy];simp[c2,It.av]
     ·rfl
    have F:=F7 F c2 hy @hset hgi hgx @aZ;(try refine sq F ?_);refine wk F ?_;refine aG (ld G y hyt _) ?_;(try refine sq F ?_);refine wk F ?_;refine hK2 _ _ _ (N6 ⟨k+1,hh.set (H.length+2) (.row 86 9 v ((valsM It.z s.it).map It.av))++[.row 86 9 0 [y.av]],rfl,aw,?_,?_,?_,?_,?_,by omega,⟨zb7 _ (by simp;omega) (zb8 _ (by omega) hfr),by simp;omega⟩,by rw[bq _ (by simp;omega),aJ _ _ (by omega)];exact hg2,by rw[bq _ (by simp;omega),aJ _ _ (by omega)];exact hgx,by rw[bq _ (by simp;omega),bV _ _ _ _ _ (by omega),M7 rfl]⟩) (by omega);all_goals try exact zZz F
   ·have F:=F5 F hg2 hgx hgi @aZ;(try refine sq F ?_);refine wk F ?_;refine ye hQ F ?_;obtain⟨j,hj⟩:=hfr.behind (by omega);subst hj;have hgi2:∀b,getRow (H++j.set 0 b) (H.length+2) v=some (86,9,(valsM It.z s.it).map It.av):=fun b=>by rw[← gy b rfl,aJ _ _ (by omega)];exact hgi
    rw[gy _ rfl];exact hR _ _ _ (by simpa using hgi2 _))
  | (
   refine lm (fun nL tL hL=>∃(k:Nat) (hh:Heap),(valsM It.z s.it).length-k=nL∧so hh n s=hL∧tL 2=.hp H.length 0 0 0∧tL 3=.hp (H.length+1) 0 0 0∧tL 55=.hs (H.length+3) v 0 (valsM It.z s.it).length true∧tL 56=.int .i64 ((valsM It.z s.it).length:Int)∧tL 57=.int .i64 k∧k≤(valsM It.z s.it).length∧(FrN H.length H hh∧H.length+3<hh.length)∧getRow hh H.length 0=some (41,9,[.agg [.int .i64 0,.nil (.slice none 0 0),.nil (.slice none 0 0),.nil (.slice none 0 0),.nil (.slice none 0 0),.int .i64 0,.int .i64 0,.int .i64 0,.int .i64 0]])∧getRow hh (H.length+1) 0=some (41,9,[.agg [.int .i64 s.clock,.sl 3 ((valsM Fo.z s.fo).map Fo.av),.sl 4 ((valsM Fe.z s.fe).map Fe.av),.hs (H.length+3) v 0 (valsM It.z s.it).length true,.sl 3 ((valsM Se.z s.se).map Se.av),.int .i64 s.t1,.int .i64 s.t2,.int .i64 s.t3,.int .i64 s.t4]])∧getRow hh (H.length+3) v=some (86,9,(valsM It.z s.it).map It.av)) ((fun(k:Nat) (hh:Heap)=>((valsM It.z s.it).length-k:Nat)) (0) (H++[.row 41 9 0 [.agg [.int .i64 0,.nil (.slice none 0 0),.nil (.slice none 0 0),.nil (.slice none 0 0),.nil (.slice none 0 0),.int .i64 0,.int .i64 0,.int .i64 0,.int .i64 0]],.row 41 9 0 [.agg [.int .i64 s.clock,.sl 3 ((valsM Fo.z s.fo).map Fo.av),.sl 4 ((valsM Fe.z s.fe).map Fe.av),.hs (H.length+3) v 0 (valsM It.z s.it).length true,.sl 3 ((valsM Se.z s.se).map Se.av),.int .i64 s.t1,.int .i64 s.t2,.int .i64 s.t3,.int .i64 s.t4]],.row 75 1 0 [.hm (n+2)],.row 86 9 v ((valsM It.z s.it).map It.av)])) ?_ ?_
   ·refine N6 ⟨0,H++[.row 41 9 0 [.agg [.int .i64 0,.nil (.slice none 0 0),.nil (.slice none 0 0),.nil (.slice none 0 0),.nil (.slice none 0 0),.int .i64 0,.int .i64 0,.int .i64 0,.int .i64 0]],.row 41 9 0 [.agg [.int .i64 s.clock,.sl 3 ((valsM Fo.z s.fo).map Fo.av),.sl 4 ((valsM Fe.z s.fe).map Fe.av),.hs (H.length+3) v 0 (valsM It.z s.it).length true,.sl 3 ((valsM Se.z s.se).map Se.av),.int .i64 s.t1,.int .i64 s.t2,.int .i64 s.t3,.int .i64 s.t4]],.row 75 1 0 [.hm (n+2)],.row 86 9 v ((valsM It.z s.it).map It.av)],rfl,aw,?_,?_,?_,?_,?_,by omega,⟨zb7 _ (by omega) (zb6 _ _),by simp⟩,by rw[bH _ rfl];rfl,by rw[bZ _ rfl];rfl,by rw[bZ _ rfl];simp[getRow]⟩;all_goals try exact zZz trivial
   rintro _ s2 h' ⟨k,hh,rfl,rfl,e2,e3,e55,e56,e57,hk,hfr,hg2,hgx,hgi⟩ K2 hK2;simp only[aj,am,Nat.reduceEqDiff, ↓reduceIte]at e2 e3 e55 e56 e57;have F:=F5 e2 e3 e55 e56 e57;refine wk F ?_;obtain⟨hfr,hfl⟩:=hfr;have hn1:n+9≤hh.length:=(by omega);refine cq F (fun c1=>?_) (fun c1=>?_)<;>(try exact c1.elim)<;>(refine wk F ?_)
   ·have c2:k<(valsM It.z s.it).length:=(by omega);obtain⟨y,hy,hym⟩:=ak c2;have hyt:=hs.tg y hym;have hset:((valsM It.z s.it).map It.av).set k (.agg [.int .i64 y.id,.int .i64 y.feed,.int .i64 y.date,.str y.guid,.str y.title,.str y.link,.bool y.read,.bool y.star,.sl 1 (y.tags.map .str)])=(valsM It.z s.it).map It.av:=by
     apply U0
     intro q;rw[za5];split
     ·rename_i hq;subst hq;rw[O2,hy];simp[c2,It.av]
     ·rfl
    have F:=F7 F c2 hy @hset hgi hgx @aZ;(try refine sq F ?_);refine wk F ?_;refine aG (ld G y hyt _) ?_;(try refine sq F ?_);refine wk F ?_;refine hK2 _ _ _ (N6 ⟨k+1,hh.set (H.length+3) (.row 86 9 v ((valsM It.z s.it).map It.av))++[.row 86 9 0 [y.av]],rfl,aw,?_,?_,?_,?_,?_,by omega,⟨zb7 _ (by simp;omega) (zb8 _ (by omega) hfr),by simp;omega⟩,by rw[bq _ (by simp;omega),aJ _ _ (by omega)];exact hg2,by rw[bq _ (by simp;omega),aJ _ _ (by omega)];exact hgx,by rw[bq _ (by simp;omega),bV _ _ _ _ _ (by omega),M7 rfl]⟩) (by omega);all_goals try exact zZz F
   ·have F:=F5 F hg2 hgx hgi @aZ;(try refine sq F ?_);refine wk F ?_;refine ye hQ F ?_;obtain⟨j,hj⟩:=hfr.behind (by omega);subst hj;have hgi2:∀b,getRow (H++j.set 0 b) (H.length+3) v=some (86,9,(valsM It.z s.it).map It.av):=fun b=>by rw[← gy b rfl,aJ _ _ (by omega)];exact hgi
    rw[gy _ rfl];exact hR _ _ _ (by simpa using hgi2 _))
theorem fb(s:PS)(hs:s.Ok){H:Heap}{n:Nat}(hn:n+9≤H.length):Sat (CT G) 14 [.hp (n+8) 0 0 0] (so H n s) (fun r h'=>r=s.tell.av∧h'=so H n s):=
 qE G s hs hn _ fun _ _ _ hg=>y9 s hn hg
end Go.Av
namespace Go.Av
open Go Go.Proofs Go.RowKit
theorem ed(r:Int)(x:Bs):dec (enc r++x) 0=(fix r,(enc r).length):=by
 have hl:=oF r;have hs:=r8 r;rw[fN,gx];generalize fix r=c at*;simp only[];by_cases h1:c<128
 ·rw[M7 h1];simp only[Q2,P2,V4,M6,N4];rw[ax _ (by omega)];simp[Lib.decodeN,h1]
 ·rw[M1 h1];by_cases h2:c<2048
  ·rw[M7 h2];simp only[Q2,P2,V4,X2,M6,N4,R2];rw[ax _ (by omega),ax _ (by omega)];unfold Lib.decodeN;rw[M1 (by omega),M7 (by omega),M7 (by omega)];congr 1;omega
  ·rw[M1 h2];by_cases h3:c<65536
   ·rw[M7 h3];simp only[Q2,P2,V4,X2,M6,N4,R2];rw[ax _ (by omega),ax _ (by omega),ax _ (by omega)];unfold Lib.decodeN;rw[M1 (by omega),M1 (by omega),M7 (by omega),M7 (by omega)];congr 1;omega
   ·rw[M1 h3];simp only[Q2,P2,V4,X2,M6,N4,R2];rw[ax _ (by omega),ax _ (by omega),ax _ (by omega),ax _ (by omega)];unfold Lib.decodeN;rw[M1 (by omega),M1 (by omega),M1 (by omega),M7 (by omega),M7 (by omega)];congr 1;omega
theorem i8{r:Int}(h:Rune r):fix r=r.toNat:=by
 unfold fix Utf8.valid;unfold Rune at h;rw[M7 (by simp;omega)]
theorem b8(c:Int)(l:List Int):encs (c::l)=enc c++encs l:=by simp[encs]
theorem yb(a b:List Int):encs (a++b)=encs a++encs b:=by simp[encs]
theorem yc(c:Int):encs [c]=enc c:=by simp[encs]
theorem jH:∀{l:List Int},(∀c∈l,Rune c)→runesF (encs l)=l
 | [],_=>rfl
 |c::l,h=>by
  have hc:=h c (by simp);have hp:=dQ c;rw[dZ _ (by rw[b8];intro e;have h2:=O6 List.length e;rw[M3]at h2;simp only[N4]at h2;omega),b8,ed,i8 hc,List.drop_left' rfl,jH fun x hx=>h x (by simp[hx])];unfold Rune at hc;congr 1
  simp only[];omega
end Go.Av
namespace Go.Proofs
open Go.Shelf
def Tryz.mcl71_ren:Go.Shelf.Ren:=⟨fun|5=>71|7=>113|n=>n,fun|23=>73|25=>3|3=>44|4=>4|20=>20|n=>n,fun|n=>n⟩
theorem Tryz.mcl71:Go.Proofs.SlLaysW.n5 Tryz.prog Tryz.mcl71_ren:= {
 mixed:=by kernel_rfl
 f5:=⟨Tryz.f71.name,by decide,Tryz.func71.trans (O6 some (by kernel_rfl))⟩
 f7:=Tryz.func113.trans (O6 some (by kernel_rfl))
 t4:=Tryz.underlying4
 a4:=Tryz.isAgg4
 z4:=Tryz.sizeOf4
 v4:=Tryz.zeroValue4
 t20:=Tryz.underlying20
 a20:=Tryz.isAgg20
 z20:=Tryz.sizeOf20
 v20:=Tryz.zeroValue20
 t23:=Tryz.underlying73
 a23:=Tryz.isAgg73
 z23:=Tryz.sizeOf73
 v23:=Tryz.zeroValue73}
def Tryz.mcl72_ren:Go.Shelf.Ren:=⟨fun|5=>72|7=>113|n=>n,fun|23=>74|25=>3|3=>48|4=>4|20=>20|n=>n,fun|n=>n⟩
theorem Tryz.mcl72:Go.Proofs.SlLaysW.n5 Tryz.prog Tryz.mcl72_ren:= {
 mixed:=by kernel_rfl
 f5:=⟨Tryz.f72.name,by decide,Tryz.func72.trans (O6 some (by kernel_rfl))⟩
 f7:=Tryz.func113.trans (O6 some (by kernel_rfl))
 t4:=Tryz.underlying4
 a4:=Tryz.isAgg4
 z4:=Tryz.sizeOf4
 v4:=Tryz.zeroValue4
 t20:=Tryz.underlying20
 a20:=Tryz.isAgg20
 z20:=Tryz.sizeOf20
 v20:=Tryz.zeroValue20
 t23:=Tryz.underlying74
 a23:=Tryz.isAgg74
 z23:=Tryz.sizeOf74
 v23:=Tryz.zeroValue74}
def Tryz.mcl73_ren:Go.Shelf.Ren:=⟨fun|5=>73|7=>113|n=>n,fun|23=>75|25=>3|3=>86|4=>4|20=>20|n=>n,fun|n=>n⟩
theorem Tryz.mcl73:Go.Proofs.SlLaysW.n5 Tryz.prog Tryz.mcl73_ren:= {
 mixed:=by kernel_rfl
 f5:=⟨Tryz.f73.name,by decide,Tryz.func73.trans (O6 some (by kernel_rfl))⟩
 f7:=Tryz.func113.trans (O6 some (by kernel_rfl))
 t4:=Tryz.underlying4
 a4:=Tryz.isAgg4
 z4:=Tryz.sizeOf4
 v4:=Tryz.zeroValue4
 t20:=Tryz.underlying20
 a20:=Tryz.isAgg20
 z20:=Tryz.sizeOf20
 v20:=Tryz.zeroValue20
 t23:=Tryz.underlying75
 a23:=Tryz.isAgg75
 z23:=Tryz.sizeOf75
 v23:=Tryz.zeroValue75}
def Tryz.mcl74_ren:Go.Shelf.Ren:=⟨fun|5=>74|7=>113|n=>n,fun|23=>76|25=>3|3=>98|4=>4|20=>20|n=>n,fun|n=>n⟩
theorem Tryz.mcl74:Go.Proofs.SlLaysW.n5 Tryz.prog Tryz.mcl74_ren:= {
 mixed:=by kernel_rfl
 f5:=⟨Tryz.f74.name,by decide,Tryz.func74.trans (O6 some (by kernel_rfl))⟩
 f7:=Tryz.func113.trans (O6 some (by kernel_rfl))
 t4:=Tryz.underlying4
 a4:=Tryz.isAgg4
 z4:=Tryz.sizeOf4
 v4:=Tryz.zeroValue4
 t20:=Tryz.underlying20
 a20:=Tryz.isAgg20
 z20:=Tryz.sizeOf20
 v20:=Tryz.zeroValue20
 t23:=Tryz.underlying76
 a23:=Tryz.isAgg76
 z23:=Tryz.sizeOf76
 v23:=Tryz.zeroValue76}
def Tryz.mcl75_ren:Go.Shelf.Ren:=⟨fun|5=>75|7=>113|n=>n,fun|23=>77|25=>88|3=>3|4=>4|20=>20|n=>n,fun|n=>n⟩
theorem Tryz.mcl75:Go.Proofs.SlLaysW.n5 Tryz.prog Tryz.mcl75_ren:= {
 mixed:=by kernel_rfl
 f5:=⟨Tryz.f75.name,by decide,Tryz.func75.trans (O6 some (by kernel_rfl))⟩
 f7:=Tryz.func113.trans (O6 some (by kernel_rfl))
 t4:=Tryz.underlying4
 a4:=Tryz.isAgg4
 z4:=Tryz.sizeOf4
 v4:=Tryz.zeroValue4
 t20:=Tryz.underlying20
 a20:=Tryz.isAgg20
 z20:=Tryz.sizeOf20
 v20:=Tryz.zeroValue20
 t23:=Tryz.underlying77
 a23:=Tryz.isAgg77
 z23:=Tryz.sizeOf77
 v23:=Tryz.zeroValue77}
def Tryz.mcl76_ren:Go.Shelf.Ren:=⟨fun|5=>76|7=>113|n=>n,fun|23=>78|25=>9|3=>3|4=>4|20=>20|n=>n,fun|n=>n⟩
theorem Tryz.mcl76:Go.Proofs.SlLaysW.n5 Tryz.prog Tryz.mcl76_ren:= {
 mixed:=by kernel_rfl
 f5:=⟨Tryz.f76.name,by decide,Tryz.func76.trans (O6 some (by kernel_rfl))⟩
 f7:=Tryz.func113.trans (O6 some (by kernel_rfl))
 t4:=Tryz.underlying4
 a4:=Tryz.isAgg4
 z4:=Tryz.sizeOf4
 v4:=Tryz.zeroValue4
 t20:=Tryz.underlying20
 a20:=Tryz.isAgg20
 z20:=Tryz.sizeOf20
 v20:=Tryz.zeroValue20
 t23:=Tryz.underlying78
 a23:=Tryz.isAgg78
 z23:=Tryz.sizeOf78
 v23:=Tryz.zeroValue78}
def Tryz.mcl77_ren:Go.Shelf.Ren:=⟨fun|5=>77|7=>113|n=>n,fun|23=>79|25=>131|3=>3|4=>4|20=>20|n=>n,fun|n=>n⟩
theorem Tryz.mcl77:Go.Proofs.SlLaysW.n5 Tryz.prog Tryz.mcl77_ren:= {
 mixed:=by kernel_rfl
 f5:=⟨Tryz.f77.name,by decide,Tryz.func77.trans (O6 some (by kernel_rfl))⟩
 f7:=Tryz.func113.trans (O6 some (by kernel_rfl))
 t4:=Tryz.underlying4
 a4:=Tryz.isAgg4
 z4:=Tryz.sizeOf4
 v4:=Tryz.zeroValue4
 t20:=Tryz.underlying20
 a20:=Tryz.isAgg20
 z20:=Tryz.sizeOf20
 v20:=Tryz.zeroValue20
 t23:=Tryz.underlying79
 a23:=Tryz.isAgg79
 z23:=Tryz.sizeOf79
 v23:=Tryz.zeroValue79}
def Tryz.mcl78_ren:Go.Shelf.Ren:=⟨fun|5=>78|7=>113|n=>n,fun|23=>80|25=>3|3=>3|4=>4|20=>20|n=>n,fun|n=>n⟩
theorem Tryz.mcl78:Go.Proofs.SlLaysW.n5 Tryz.prog Tryz.mcl78_ren:= {
 mixed:=by kernel_rfl
 f5:=⟨Tryz.f78.name,by decide,Tryz.func78.trans (O6 some (by kernel_rfl))⟩
 f7:=Tryz.func113.trans (O6 some (by kernel_rfl))
 t4:=Tryz.underlying4
 a4:=Tryz.isAgg4
 z4:=Tryz.sizeOf4
 v4:=Tryz.zeroValue4
 t20:=Tryz.underlying20
 a20:=Tryz.isAgg20
 z20:=Tryz.sizeOf20
 v20:=Tryz.zeroValue20
 t23:=Tryz.underlying80
 a23:=Tryz.isAgg80
 z23:=Tryz.sizeOf80
 v23:=Tryz.zeroValue80}
end Go.Proofs
namespace Go.Av
open Go Go.Proofs Go.RowKit
section
variable {C:Ctx} {B n:Nat} {S:Addr→Prop} {μ μ2:Map} {h:Heap} {w:World}
theorem BlkFits.turn{m:MB}{k:Blk}(hk:(∃(w0:World) (S0:Addr→Prop) (μ0:Map) (m0:MB),μ0.length≤n∧BlkFits w0 S0 μ0 m0 k)∨CloB n k)(hb:BlkFits w S μ m k)(st:Step B S (μ.take n) w S μ2 w):BlkFits w S μ2 m k:=by
 have go:∀{x:AVal} {v:Value},Clo n x→Rep w S μ x v→Rep w S μ2 x v:=fun c r=>(c.rep r fun _ h=>h).mono st
 cases k with
 |iter s pos=>exact hb
 |dead=>trivial
 |df=>exact hb
 |lp l m t ps ass body s pe=>
  obtain⟨g0,g1,fn,D,tmps,g2,g3,g4⟩:=hb;refine⟨g0,g1,fn,D,tmps,g2,g3,fun i hi=>?_⟩;rcases hk with⟨_,_,_,_,hle,hold⟩|hclo
  ·obtain⟨_,_,_,_,_,_,_,k4⟩:=hold;exact go ((k4 i hi).clo.mono hle) (g4 i hi)
  ·exact go (hclo i hi) (g4 i hi)
 |mp es clock=>
  obtain⟨g0,b,cur,g1,g2,g3,g4⟩:=hb;refine⟨g0,b,cur,g1,g2,g3,fun i e he=>?_⟩;obtain⟨x,hx,r1,r2,r3⟩:=g4 i e he;rcases hk with⟨_,_,_,_,hle,hold⟩|hclo
  ·obtain⟨_,_,_,_,_,_,k4⟩:=hold;obtain⟨_,_,s1,s2,_⟩:=k4 i e he;exact⟨x,hx,go (s1.clo.mono hle) r1,go (s2.clo.mono hle) r2,r3⟩
  ·have hc:=hclo e (N0 he);exact⟨x,hx,go hc.1 r1,go hc.2 r2,r3⟩
 |mit q since seen last=>
  obtain⟨g0,b,r,g1,g2,g3⟩:=hb;refine⟨g0,b,r,g1,?_,g3⟩;rcases hk with⟨_,_,_,_,hle,hold⟩|hclo
  ·obtain⟨_,_,_,_,s2,_⟩:=hold;exact go (s2.clo.mono hle) g2
  ·exact go (Clo.hm q hclo) g2
 |row e sz ver rows=>
  refine⟨hb.hver,hb.hsize,hb.pos,hb.lens,hb.sto,?_⟩;rcases hb.lies with hl| ⟨b,cur,g1,g2,g3,g4,g5,g6⟩
  ·exact .inl hl
  ·refine .inr ⟨b,cur,g1,g2,g3,g4,g5,fun i r j c hi hj=>?_⟩;obtain⟨x,hx,hr⟩:=g6 i r j c hi hj;refine⟨x,hx,?_⟩;rcases hk with⟨_,_,_,_,hle,hold⟩|hclo
   ·rcases RowFits.lies hold with⟨_,h0⟩| ⟨_,_,_,_,_,_,_,k6⟩
    ·rw[h0]at hi;cases hi
    ·obtain⟨_,_,hr0⟩:=k6 i r j c hi hj;exact go (hr0.clo.mono hle) hr
   ·exact go ((hclo r (N0 hi)).cells c (N0 hj)) hr
def trn(L:Nat):AVal→AVal
 | .hm p=>if p<L then .hm p else .hm (p-1)
 |x=>x
theorem zX(L:Nat)(c:AVal)(h:c.sto=true):(trn L c).sto=true:=by
 cases c<;>first|exact h| (show AVal.sto (if _<L then AVal.hm _ else AVal.hm (_-1))=true;split<;>rfl)
theorem Sat.turn{f:FuncId}{args:List AVal}{e size:Nat}{cs:List AVal}{ms:List Blk}(hcs:∀c∈cs,Clo h.length c∨∃p,c=.hm (h.length+1+p))(hcl:∀c∈cs,Clo h.length c→trn h.length c=c)(hms:∀k∈ms,CloB h.length k)
  (hs:Sat C f args h (fun r h'=>r=.hp h.length 0 0 0∧h'=h++ .row e size 0 [.agg cs]::ms)):
  Sat C f args h (fun r h'=>r=.hp (h.length+ms.length) 0 0 0∧h'=h++(ms++[.row e size 0 [.agg (cs.map (trn h.length))]])):=by
 unfold Sat at hs ⊢;intro B S μ w vs fit rl;refine(hs B S μ w vs fit rl).mono fun v w' hp=>?_
 obtain⟨r,h',S',μ',⟨e1,e2⟩,st,f',rep⟩:=hp;subst e1 e2;have hl:=f'.len;rw[M3,M6]at hl;obtain⟨A,m0,M,rfl,hA,hM⟩:∃A m0 M,μ'=A++m0::M∧A.length=h.length∧M.length=ms.length:=by
  have h1:=X3 h.length μ';have h2:(μ'.drop h.length).length=ms.length+1:=by rw[Q5];omega
  rcases hd:μ'.drop h.length with _| ⟨m0,M⟩
  ·rw[hd]at h2;simp at h2
  ·rw[hd]at h1 h2;exact⟨_,m0,M,h1.symm,by rw[P6];omega,by simpa using h2⟩
 have hA':(A++m0::M).take h.length=A:=by rw[← hA];exact Z4 rfl
 have p1:∀p,p<h.length→(A++(M++[m0]))[p]? =(A++m0::M)[p]? :=fun p hp=>by
  rw[M5 (by omega),M5 (by omega)]
 have p2:∀i,i<ms.length→(A++(M++[m0]))[h.length+i]? =(A++m0::M)[h.length+1+i]? :=fun i hi=>by
  rw[show(A++(M++[m0]))[h.length+i]? =M[i]? from by rw[M9 (by omega),hA,W3,M5 (by omega)],
   show(A++m0::M)[h.length+1+i]? =M[i]? from by rw[M9 (by omega),hA,show h.length+1+i-h.length=i+1 by omega,V3]]
 have p3:(A++(M++[m0]))[h.length+ms.length]? =(A++m0::M)[h.length]? :=by
  rw[show(A++(M++[m0]))[h.length+ms.length]? =some m0 from by rw[M9 (by omega),hA,W3,M9 (by omega),hM,za0];rfl,
   show(A++m0::M)[h.length]? =some m0 from by rw[M9 (by omega),hA,za0];rfl]
 have pA:∀p m,(A++(M++[m0]))[p]? =some m→∃q,(A++m0::M)[q]? =some m∧((p<h.length∧q=p)∨(∃i,i<ms.length∧p=h.length+i∧q=h.length+1+i)∨(p=h.length+ms.length∧q=h.length)):=fun p m hm=>by
  have hlt:=(M0.1 hm).1;simp only[M3,M6,N4]at hlt;rcases U7 p h.length with h1|h1
  ·exact⟨p,by rw[← p1 p h1];exact hm,.inl ⟨h1,rfl⟩⟩
  rcases U7 p (h.length+ms.length)with h2|h2
  ·refine⟨p+1,?_,.inr (.inl ⟨p-h.length,by omega,by omega,by omega⟩)⟩;have:=p2 (p-h.length) (by omega);rw[show h.length+(p-h.length)=p by omega,show h.length+1+(p-h.length)=p+1 by omega]at this;rw[← this];exact hm
  ·have:p=h.length+ms.length:=by omega
   subst this;exact⟨h.length,by rw[← p3];exact hm,.inr (.inr ⟨rfl,rfl⟩)⟩
 have hμ:μ.length=h.length:=fit.len;have st2:Step B S' ((A++m0::M).take h.length) w' S' (A++(M++[m0])) w':=⟨fun _ h=>h,fun _ _=>rfl,X8 _ _,fun p m hm=>by
  rw[hA']at hm;have:=(M0.1 hm).1;exact⟨m,by rw[M5 this];exact hm,N3 _,fun _=>rfl⟩,fun _ h=>.inl h⟩
 have st':Step B S μ w S' (A++(M++[m0])) w':=⟨st.sub,st.keep,st.below,fun p m hm=>by
  obtain⟨m',h1,h2⟩:=st.map p m hm;have:=(M0.1 hm).1;exact⟨m',by rw[p1 p (by omega)];exact h1,h2⟩,st.new⟩
 have go:∀{x:AVal} {v:Value},Clo h.length x→Rep w' S' (A++m0::M) x v→Rep w' S' (A++(M++[m0])) x v:=fun c r=>(c.rep r fun _ h=>h).mono st2
 refine⟨_,_,S',A++(M++[m0]),⟨rfl,rfl⟩,st',⟨fun g cs hg=>?_,?_,?_,?_,f'.base,f'.lie,?_⟩,?_⟩
 ·have:=(fit.glob g cs hg).clo;rw[hμ]at this;exact go this (f'.glob g cs hg)
 ·simp only[M3,M6,N4];omega
 ·intro p q m m' b h1 h2 e1 e2;obtain⟨p',a1,a2⟩:=pA p m h1;obtain⟨q',b1,b2⟩:=pA q m' h2;have:=f'.sep p' q' m m' b a1 b1 e1 e2;rcases a2 with⟨_,_⟩| ⟨_,_,_,_⟩| ⟨_,_⟩<;>rcases b2 with⟨_,_⟩| ⟨_,_,_,_⟩| ⟨_,_⟩<;>omega
 ·intro p m b h1 e1;obtain⟨p',a1,_⟩:=pA p m h1;exact f'.own p' m b a1 e1
 ·intro p m k h1 h2;obtain⟨q,a1,a2⟩:=pA p m h1;rcases a2 with⟨c1,rfl⟩| ⟨i,c1,rfl,rfl⟩| ⟨rfl,rfl⟩
  ·rw[M5 c1]at h2;have hq:q<μ.length:=(by omega);exact(f'.blk q m k a1 (by rw[M5 c1];exact h2)).turn (n:=h.length) (.inl ⟨w,S,μ,μ[q],by omega,fit.blk q _ k (M4 hq) h2⟩) st2
  ·rw[M9 (by omega),show h.length+i-h.length=i by omega,M5 c1]at h2;exact(f'.blk _ m k a1 (by rw[M9 (by omega),show h.length+1+i-h.length=i+1 by omega];exact h2)).turn (n:=h.length) (.inr (hms k (N0 h2))) st2
  ·rw[M9 (by omega),show h.length+ms.length-h.length=ms.length by omega,M9 (by omega),za0]at h2;cases h2;have hb:=f'.blk _ m _ a1 (by rw[M9 (by omega),za0];rfl);have hb:RowFits w' S' (A++m0::M) m e size 0 [.agg cs]:=hb;have cell:∀(i:Nat) (r:AVal) (j:Nat) (c:AVal),[AVal.agg (cs.map (trn h.length))][i]? =some r→r.cells[j]? =some c→i=0∧∃d,cs[j]? =some d∧c=trn h.length d:=fun i r j c hi hj=>by
    match i with
    |0=>
     cases hi;have hj:(cs.map (trn h.length))[j]? =some c:=hj;rw[O2]at hj;obtain⟨d,hd,rfl⟩:=N9.1 hj;exact⟨rfl,d,hd,rfl⟩
    |i+1=>simp at hi
   refine⟨hb.hver,hb.hsize,hb.pos,fun i r hi=>?_,fun i r j c hi hj=>?_,?_⟩
   ·match i with
    |0=>cases hi;rw[← hb.lens 0 _ rfl];simp[AVal.cells]
    |i+1=>simp at hi
   ·obtain⟨rfl,d,hd,rfl⟩:=cell i r j c hi hj;exact zX _ _ (hb.sto 0 _ j d rfl hd)
   ·rcases hb.lies with⟨_,h0⟩| ⟨b,cur,g1,g2,g3,g4,g5,g6⟩
    ·cases h0
    ·refine .inr ⟨b,cur,g1,g2,g3,g4,g5,fun i r j c hi hj=>?_⟩;obtain⟨rfl,d,hd,rfl⟩:=cell i r j c hi hj;obtain⟨x,hx,hr⟩:=g6 0 _ j d rfl hd;refine⟨x,hx,?_⟩;have hdm:=N0 hd;rcases hcs d hdm with hc| ⟨i,rfl⟩
     ·rw[hcl d hdm hc];exact go hc hr
     ·have et:trn h.length (.hm (h.length+1+i))=.hm (h.length+i):=by
       show(if h.length+1+i<h.length then AVal.hm (h.length+1+i)else .hm (h.length+1+i-1))=_;rw[M1 (by omega)];congr 1;omega
      rw[et];cases hr with
      |hm _ m v q1 q2 q3 q4=>
       have hi:i<ms.length:=by
        have:=(M0.1 q1).1;simp only[M3,M6]at this;omega
       exact .hm _ m _ (by rw[p2 i hi];exact q1) q2 q3 q4
 ·cases rep with
  |hp _ _ _ _ m v q1 q2 q3 q4 q5=>exact .hp _ _ _ _ m _ (by rw[p3];exact q1) q2 q3 q4 q5
end
theorem bO{C:Ctx}{f:FuncId}{fn:Func}{ρ:Go.Shelf.Ren}(L:SlLaysW.n5 C.P ρ)(hρ:ρ.f 5=f)(hf:C.P.funcs[f]? =some fn)(hb:fn.body.isNone=false)(hname:(fn.name== "runtime.NumGoroutine")=false){h:Heap}{p c:Nat}{es:List (AVal×AVal×Nat)}(hm:mapAt h p=some (es,c)):
  Sat C f [.hm p] h (fun r h'=>r=.hm h.length∧h'=h++[.mp es c]):=by
 have hk:h[p]? =some (.mp es c):=by
  unfold mapAt at hm;split at hm
  ·cases hm;assumption
  ·cases hm
 unfold Sat;intro B S μ w us fit rl;obtain⟨v,rfl⟩:∃v,us=[v]:=by
  have h1:=rl.1
  match us,h1 with
  | [v],_=>exact⟨v,rfl⟩
 have hr:Rep w S μ (.hm p) v:=rl.2 0 _ rfl;cases hr with
 |hm _ m _ h1 h2 h3 h4=>
  obtain⟨h0,b,cur,e1,e2,e3,e4⟩:=fit.blk p m _ h1 hk;obtain⟨b',e1',e5⟩:=h4 h0;rw[e1]at e1';cases e1';subst e5;rw[cH hf hb hname];have key:=AnyW.maps_Clone L b cur c w e2;rw[hρ]at key;refine key.mono fun e w' ⟨k1,k2⟩=>?_
  subst k2;have st:=bt fit (.map cur c) ⟨some w.heap.size,0,0,0⟩;refine⟨_,k1,_,_,S,_,⟨rfl,rfl⟩,st,fit.alloc (.map cur c) ⟨some w.heap.size,0,0,0⟩ (.mp es c) rfl ⟨rfl,w.heap.size,cur,rfl,(MapKept.heap_alloc w _).1,e3,fun i e he=>?_⟩,?_⟩
  ·obtain⟨x,hx,r1,r2,r3⟩:=e4 i e he;exact⟨x,hx,r1.mono st,r2.mono st,r3⟩
  ·refine .hm _ ⟨some w.heap.size,0,0,0⟩ _ (by rw[← fit.len];simp) (fun cs=>by simp) rfl fun _=>⟨w.heap.size,rfl,rfl⟩
end Go.Av
namespace Go.Av
open Go Go.Proofs Go.RowKit
attribute [local irreducible] WP WPl WPix Sat
variable (G:Nat→Option (List AVal))
theorem tS:∀(f d:Nat),f+d=9→∀(a b:List Outl) (_:szs Outl.sz a≤1048576) (_:szs Outl.sz b≤1048576) (h:Heap),Sat (CT G) 60 [.sl 3 (a.map Outl.av),.sl 3 (b.map Outl.av),.int .i64 d] h (fun r h'=>r=.bool (sameOL f a b)∧h'=h):=by
 intro f;induction f with
 |zero=>
  intro d hd a b ha hb h;have hal:=bR a;have hbl:=bR b;obtain rfl:d=9:=by omega
  refine sb [.tmp 6] Tryz.func60 ?_;intro Q hQ;refine af trivial ?_;(first|refine aX trivial (fun g1=>?_) (fun g1=>?_)|refine aY trivial (fun g1=>?_) (fun g1=>?_))<;>(try exact g1.elim)<;>(try refine ai trivial ?_)<;>(refine af trivial ?_)
  ·refine au hQ trivial ?_;refine fR (.bool _) ?_;have:a.length≠b.length:=by omega
   simp[sameOL,this]
  have g1':a.length=b.length:=by omega
  (first|refine aX trivial (fun g2=>?_) (fun g2=>?_)|refine aY trivial (fun g2=>?_) (fun g2=>?_))<;>(try exact g2.elim)<;>(try refine ai trivial ?_)<;>(refine af trivial ?_)
  ·refine aD trivial (fun hc=>?_) (fun hc=>?_)<;>(try exact hc.elim)<;>(refine af trivial ?_)
   ·refine au hQ trivial ?_;refine fR (.bool _) ?_;have:a.length≠0:=by omega
    simp[sameOL,this]
   ·exfalso;omega
  have g2':a.length=0:=by omega
  refine lm (fun nL tL hL=>0=nL∧h=hL∧tL 26=.int .i64 0) (0) ?_ ?_
  ·refine N6 ⟨rfl,aw,?_⟩;all_goals first|exact az trivial|rfl|omega|trivial|skip
  rintro _ s2 h' ⟨rfl,rfl,e26⟩ K2 hK2;simp only[aj,am,Nat.reduceEqDiff, ↓reduceIte]at e26;have F:=e26;refine af F ?_;refine aD F (fun hc=>?_) (fun hc=>?_)<;>(try exact hc.elim)
  ·exfalso;omega
  ·refine af F ?_;refine au hQ F ?_;refine fR (.bool _) ?_;simp[sameOL, ← g1',g2']
 |succ f ih=>
  intro d hd a b ha hb h;have hal:=bR a;have hbl:=bR b;have F:=F3 (F3 (@O9 Blk) (@O9 AVal) (@O9 UInt8)) (F3 (@Q2 Blk) (@Q2 AVal) (@Q2 UInt8)) (F3 (@P2 Blk) (@P2 AVal) (@P2 UInt8));refine sb [.tmp 6] Tryz.func60 ?_;intro Q hQ;refine af F ?_;have out:∀(j:Heap) (t':Env),t' 6=.bool false→sameOL (f+1) a b=false→Q .ret t' (h++j):=by
   intro j t' e6 hs;refine(hQ _ _ ?_).1;simp(disch:=first|omega| (simp only[go_sem, ↓reduceIte,Nat.reduceEqDiff];done)|fail) only[go_sem, ↓reduceIte,Int.reduceToNat,Int.reduceLE,Int.reduceLT,Int.reduceSub,Int.reduceAdd,Nat.reduceEqDiff,Nat.reduceAdd,Nat.reduceLeDiff,Nat.reduceLT,Nat.reduceMul,Nat.reduceSub,F,e6];exact N2 (.bool _) ⟨by rw[hs],rfl⟩
  (first|refine aX F (fun g1=>?_) (fun g1=>?_)|refine aY F (fun g1=>?_) (fun g1=>?_))<;>(try exact g1.elim)<;>(try refine ai F ?_)<;>(refine af F ?_)
  ·have:a.length≠b.length:=by omega
   refine au hQ F ?_;refine fR (.bool _) ?_;simp[sameOL,this]
  have hl:a.length=b.length:=by omega
  have hsame:sameOL (f+1) a b=(a.zip b).all fun p=>decide (p.1.title=p.2.title)&&(decide (p.1.url=p.2.url)&&sameOL f p.1.kids p.2.kids):=by simp[sameOL,hl]
  (first|refine aX F (fun g2=>?_) (fun g2=>?_)|refine aY F (fun g2=>?_) (fun g2=>?_))<;>(try exact g2.elim)<;>(try refine ai F ?_)<;>(refine af F ?_)
  ·refine aD F (fun hc=>?_) (fun hc=>?_)<;>(try exact hc.elim)<;>(refine af F ?_)
   ·exfalso;omega
   ·refine lm (fun nL tL hL=>∃(k:Nat) (j:Heap),a.length-k=nL∧h++j=hL∧tL 26=.int .i64 k∧k≤a.length∧sameOL (f+1) a b=((a.zip b).drop k).all fun p=>decide (p.1.title=p.2.title)&&(decide (p.1.url=p.2.url)&&sameOL f p.1.kids p.2.kids)) ((fun(k:Nat) (j:Heap)=>(a.length-k:Nat)) (0) ([])) ?_ ?_
    ·refine N6 ⟨0,[],rfl,aw,?_,V8 _,hsame⟩;all_goals first|exact az F|rfl|omega|trivial|skip
    rintro _ s2 h' ⟨k,j,rfl,rfl,e26,hk,hp⟩ K2 hK2;simp only[aj,am,Nat.reduceEqDiff, ↓reduceIte]at e26;have F:=F2 F e26;refine af F ?_;refine aD F (fun hc=>?_) (fun hc=>?_)<;>(try exact hc.elim)
    ·obtain⟨x,hx,hxm⟩:=ak hc;obtain⟨y,hy,hym⟩:=ak (show k<b.length by omega);have hxs:=bL Outl.sz hxm;have hys:=bL Outl.sz hym;have hxk:=x.kids_sz;have hyk:=y.kids_sz;rw[aI (uI hx hy),Z1]at hp;have F:=F3 F hx hy;refine af F ?_;(first|refine aX F (fun g3=>?_) (fun g3=>?_)|refine aY F (fun g3=>?_) (fun g3=>?_))<;>(try exact g3.elim)<;>(try refine ai F ?_)<;>(refine af F ?_)
     ·exact out _ _ (by exact az F) (by rw[hp];simp[g3])
     (first|refine aX F (fun g4=>?_) (fun g4=>?_)|refine aY F (fun g4=>?_) (fun g4=>?_))<;>(try exact g4.elim)<;>(try refine ai F ?_)<;>(refine af F ?_)
     ·exact out _ _ (by exact az F) (by rw[hp];simp[g4])
     refine aH F (ih (d+1) (by omega) x.kids y.kids (by omega) (by omega) _) ?_;refine aD F (fun hc=>?_) (fun hc=>?_)<;>(try exact hc.elim)<;>(refine af F ?_)
     ·exact out _ _ (by exact az F) (by rw[hp];simp[hc])
     ·refine hK2 _ _ _ (N6 ⟨k+1,_,rfl,aw,?_,by omega,by rw[hp];simp[g3,g4,hc]⟩) (by omega);all_goals first|exact az F|rfl|omega|trivial|skip
    ·refine af F ?_;refine au hQ F ?_;rw[hp,aL (by simp;omega)];exact N2 (.bool _) ⟨rfl,rfl⟩
  ·refine lm (fun nL tL hL=>∃(k:Nat) (j:Heap),a.length-k=nL∧h++j=hL∧tL 26=.int .i64 k∧k≤a.length∧sameOL (f+1) a b=((a.zip b).drop k).all fun p=>decide (p.1.title=p.2.title)&&(decide (p.1.url=p.2.url)&&sameOL f p.1.kids p.2.kids)) ((fun(k:Nat) (j:Heap)=>(a.length-k:Nat)) (0) ([])) ?_ ?_
   ·refine N6 ⟨0,[],rfl,aw,?_,V8 _,hsame⟩;all_goals first|exact az F|rfl|omega|trivial|skip
   rintro _ s2 h' ⟨k,j,rfl,rfl,e26,hk,hp⟩ K2 hK2;simp only[aj,am,Nat.reduceEqDiff, ↓reduceIte]at e26;have F:=F2 F e26;refine af F ?_;refine aD F (fun hc=>?_) (fun hc=>?_)<;>(try exact hc.elim)
   ·exfalso;omega
   ·refine af F ?_;refine au hQ F ?_;rw[hp,aL (by simp;omega)];exact N2 (.bool _) ⟨rfl,rfl⟩
theorem vB(a b:List Outl)(ha:szs Outl.sz a≤1048576)(hb:szs Outl.sz b≤1048576)(h:Heap):Sat (CT G) 32 [.sl 3 (a.map Outl.av),.sl 3 (b.map Outl.av)] h (fun r h'=>r=.bool (sameOL 8 a b)∧h'=h):=by
 refine sb [.tmp 4] Tryz.func32 ?_;intro Q hQ;refine af trivial ?_;refine aH trivial (tS G 8 1 (by omega) a b ha hb _) ?_;refine au hQ trivial ?_;refine fR (.bool _) ?_;rfl
end Go.Av
