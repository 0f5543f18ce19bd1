/- Parts. -/
import Derived.Test.YtljohklbgahomaaGreatDoorMrUd
import Derived.Test.YtljohklbgahomaaGreatDoorMrDo
set_option linter.unusedSimpArgs false
set_option linter.unusedVariables false
set_option linter.unusedSectionVars false
set_option linter.unnecessarySimpa false
set_option maxRecDepth 100000
set_option maxHeartbeats 16000000
namespace Go.Av
open Go Go.Proofs Go.RowKit
attribute [local irreducible] WP WPl WPix Sat
variable (G:Nat→Option (List AVal))
theorem rM(a b c:Bs)(h:Heap):Sat (CT G) 84 [.sl 1 [.str a,.str b,.str c]] h (fun r h'=>r=.str (orF a b c)∧h'=h):=by
 refine sb [.tmp 2] Tryz.func84 ?_;intro Q hQ;refine wk trivial ?_;refine lm (fun nL tL hL=>∃(k:Nat),3-k=nL∧h=hL∧tL 8=.int .i64 k∧k≤3∧(1≤k→a=[])∧(2≤k→b=[])∧(3≤k→c=[])) ((fun(k:Nat)=>(3-k:Nat)) (0)) ?_ ?_
 ·refine H3 ⟨0,rfl,aB,?_,by omega,fun h=>by omega,fun h=>by omega,fun h=>by omega⟩;all_goals try exact zZz trivial
 rintro _ s2 h' ⟨k,rfl,rfl,e8,hk,h0,h1,h2⟩ K2 hK2;simp only[ao,aw,Nat.reduceEqDiff, ↓reduceIte]at e8;have F:=e8;refine wk F ?_;refine cq F (fun c1=>?_) (fun c1=>?_)<;>(try exact c1.elim)<;>(refine wk F ?_)
 ·obtain⟨y,hy,hyv⟩:∃y:Bs,([.str a,.str b,.str c]:List AVal)[k]? =some (.str y)∧((k=0∧y=a)∨(k=1∧y=b)∨(k=2∧y=c)):=by
   match k,c1 with
   |0,_=>exact⟨a,rfl,.inl ⟨rfl,rfl⟩⟩
   |1,_=>exact⟨b,rfl,.inr (.inl ⟨rfl,rfl⟩)⟩
   |2,_=>exact⟨c,rfl,.inr (.inr ⟨rfl,rfl⟩)⟩
   |k+3,c1=>exfalso;omega
  have F:=F2 F hy;try refine sq F ?_
  refine wk F ?_;refine cq F (fun c2=>?_) (fun c2=>?_)<;>(try exact c2.elim)<;>(refine wk F ?_)
  ·refine ee hQ F ?_;refine fR (.str _) ?_;unfold orF;rcases hyv with⟨rfl,rfl⟩| ⟨rfl,rfl⟩| ⟨rfl,rfl⟩
   ·rw[E8 c2]
   ·rw[E4 (by simp[h0 (by omega)]),E8 c2]
   ·rw[E4 (by simp[h0 (by omega)]),E4 (by simp[h1 (by omega)])]
  ·have c3:y=[]:=(by simpa using c2);have n0:1≤k+1→a=[]:=fun hh=>by
    rcases hyv with⟨rfl,rfl⟩| ⟨rfl,rfl⟩| ⟨rfl,rfl⟩
    ·exact c3
    ·exact h0 (by omega)
    ·exact h0 (by omega)
   have n1:2≤k+1→b=[]:=fun hh=>by
    rcases hyv with⟨rfl,rfl⟩| ⟨rfl,rfl⟩| ⟨rfl,rfl⟩
    ·omega
    ·exact c3
    ·exact h1 (by omega)
   have n2:3≤k+1→c=[]:=fun hh=>by
    rcases hyv with⟨rfl,rfl⟩| ⟨rfl,rfl⟩| ⟨rfl,rfl⟩
    ·omega
    ·omega
    ·exact c3
   refine hK2 _ _ _ (H3 ⟨k+1,rfl,aB,?_,by omega,n0,n1,n2⟩) (by omega);all_goals try exact zZz F
 ·have h3:=h2 (by omega);subst h3;refine wk F ?_;refine ee hQ F ?_;refine fR (.str _) ?_;unfold orF;rw[h0 (by omega),h1 (by omega)];rfl
theorem cn(N:Nat)(a:Int)(c:Bool):Clo N (.tup [.int .i64 a,.bool c]):=.tup _ (fun x hx=>by simp only[I2,M5,or_false]at hx;rcases hx with rfl|rfl<;>first|exact .int _ _|exact .bool _)
theorem iB(e:Elem)(n:Bs)(hs:e.sz≤1048576):(kidF e n).1.text.length≤1048576:=by
 unfold kidF;split
 ·exact Nat.zero_le _
 ·rename_i k l hk;have hm:k∈e.kids:=by
   have:k∈kidsF e n:=by rw[hk];simp
   unfold kidsF at this;exact(List.mem_filter.1 this).1
  have h1:=Elem.kid_sz hm;have h3:=k.text_len;show k.text.length≤_;omega
theorem bj(e:Elem)(n:Bs)(m:Nat)(hs:e.sz≤1048576)(hm:m≤1000)(h:Heap):Sat (CT G) 48 [e.av,.str n,.int .i64 m] h (fun r h'=>r=.str (fieldF e n m)∧h'=h):=by
 have hKd:=fN G e n hs;have ht:=iB e n hs;obtain⟨k,hk⟩:∃k,k=kidF e n:=⟨_,rfl⟩;have hf:fieldF e n m=cleanF (cutF (cleanF k.1.text) m):=by unfold fieldF shortF;rw[hk]
 rw[← hk]at hKd ht;obtain⟨⟨k1,k2,k3,k4⟩,is⟩:=k;have ht:k3.length≤1048576:=ht;have hc:=fF k3;have hct:=m8 (cleanF k3) m;have h1:=cO G k3 (by omega);have h2:=tv G (cleanF k3) m (by omega) (by omega);have h3:=cO G (cutF (cleanF k3) m) (by omega);rw[hf];have F:= @ak;refine sb [.tmp 6] Tryz.func48 ?_;intro Q hQ;refine wk F ?_;refine kq F (hKd _) ?_;refine kq F (h1 _) ?_;refine kq F (h2 _) ?_;refine kq F (h3 _) ?_;refine ee hQ F ?_;exact H9 (.str _) ⟨rfl,rfl⟩
def DateC(F:FuncId)(f:Bs→Option Int):Prop:=∀s:Bs,s.length≤8388608→∀h,Sat (CT G) F [.str s] h (fun r h'=>r=.tup [.int .i64 ((f s).getD 0),.int .i64 (if (f s).isSome then 0 else 40)]∧h'=h)
theorem nk(hA:DateC G 156 anyF)(e:Elem)(n:Bs)(hs:e.sz≤1048576)(h:Heap):Sat (CT G) 127 [e.av,.str n] h (fun r h'=>r=.tup [.int .i64 ((momE anyF e n).getD 0),.bool (momE anyF e n).isSome]∧h'=h):=by
 have hKd:=fN G e n hs;have ht:=iB e n hs;have hm:momE anyF e n=if (kidF e n).2 then anyF (cleanF (kidF e n).1.text)else none:=rfl
 rw[hm];generalize kidF e n=k at*;obtain⟨⟨k1,k2,k3,k4⟩,is⟩:=k;have ht:k3.length≤1048576:=ht;have hc:=fF k3;have h1:=cO G k3 (by omega);have h2:=hA (cleanF k3) (by omega);clear hm;cases is with
 |false=>
  have F:= @ak;refine sb [.tmp 4,.tmp 5] Tryz.func127 ?_;intro Q hQ;refine wk F ?_;refine kq F (hKd _) ?_;refine ee hQ F ?_;exact H9 (cn _ _ _) ⟨rfl,rfl⟩
 |true=>
  cases ha:anyF (cleanF k3)with
  |none=>
   rw[ha]at h2;have h2:∀h,Sat (CT G) 156 [.str (cleanF k3)] h (fun r h'=>r=.tup [.int .i64 0,.int .i64 40]∧h'=h):=h2;have F:= @ak;refine sb [.tmp 4,.tmp 5] Tryz.func127 ?_;intro Q hQ;refine wk F ?_;refine kq F (hKd _) ?_;refine kq F (h1 _) ?_;refine kq F (h2 _) ?_;refine ee hQ F ?_;refine H9 (cn _ _ _) ⟨?_,rfl⟩;show _=AVal.tup [.int .i64 ((anyF (cleanF k3)).getD 0),.bool (anyF (cleanF k3)).isSome];rw[ha];rfl
  |some v=>
   rw[ha]at h2;have h2:∀h,Sat (CT G) 156 [.str (cleanF k3)] h (fun r h'=>r=.tup [.int .i64 v,.int .i64 0]∧h'=h):=h2;have F:= @ak;refine sb [.tmp 4,.tmp 5] Tryz.func127 ?_;intro Q hQ;refine wk F ?_;refine kq F (hKd _) ?_;refine kq F (h1 _) ?_;refine kq F (h2 _) ?_;refine ee hQ F ?_;refine H9 (cn _ _ _) ⟨?_,rfl⟩;show _=AVal.tup [.int .i64 ((anyF (cleanF k3)).getD 0),.bool (anyF (cleanF k3)).isSome];rw[ha];rfl
theorem kA(f:Bs→Option Int)(e:Elem){l:List Bs}{k:Nat}{x:Bs}(hx:l[k]? =some x):momL f e (l.drop k)=match momE f e x with|some v=>some v|none=>momL f e (l.drop (k+1)):=by
 obtain⟨hlt,he⟩:=E0.1 hx;rw[R3 hlt,he];rfl
theorem nl(hA:DateC G 156 anyF)(e:Elem)(l:List Bs)(hs:e.sz≤1048576)(hl:l.length≤1048576)(h:Heap):Sat (CT G) 85 [e.av,.sl 1 (l.map .str)] h (fun r h'=>r=.tup [.int .i64 ((momL anyF e l).getD 0),.bool (momL anyF e l).isSome]∧h'=h):=by
 have ml:(l.map AVal.str).length=l.length:=I5 ..;have F:=F2 ml @ak;refine sb [.tmp 4,.tmp 5] Tryz.func85 ?_;intro Q hQ;refine wk F ?_;refine lm (fun nL tL hL=>∃(k:Nat),l.length-k=nL∧h++[.row 35 4 0 [e.av]]=hL∧tL 12=.int .i64 k∧k≤l.length∧momL anyF e (l.drop k)=momL anyF e l) ((fun(k:Nat)=>(l.length-k:Nat)) (0)) ?_ ?_
 ·refine H3 ⟨0,rfl,aB,?_,by omega,rfl⟩;all_goals try exact zZz F
 rintro _ s2 h' ⟨k,rfl,rfl,e12,hk,hp⟩ K2 hK2;simp only[ao,aw,Nat.reduceEqDiff, ↓reduceIte]at e12;have F:=F2 F e12;by_cases c1:k<l.length
 ·obtain⟨x,hx,_⟩:=am c1;have d1:=G4 c1;have hM:=nk G hA e x hs;rw[kA anyF e hx]at hp;cases hv:momE anyF e x with
  |some v=>
   rw[hv]at hM hp;have hM:∀h,Sat (CT G) 127 [e.av,.str x] h (fun r h'=>r=.tup [.int .i64 v,.bool true]∧h'=h):=hM;have hp:some v=momL anyF e l:=hp;have F:=F3 F hx d1;(try refine sq F ?_);refine wk F ?_;refine kq F (hM _) ?_;refine ee hQ F ?_;exact H9 (cn _ _ _) ⟨by rw[← hp];rfl,rfl⟩
  |none=>
   rw[hv]at hM hp;have hM:∀h,Sat (CT G) 127 [e.av,.str x] h (fun r h'=>r=.tup [.int .i64 0,.bool false]∧h'=h):=hM;have hp:momL anyF e (l.drop (k+1))=momL anyF e l:=hp;have F:=F3 F hx d1;(try refine sq F ?_);refine wk F ?_;refine kq F (hM _) ?_;refine hK2 _ _ _ (H3 ⟨k+1,rfl,aB,?_,by omega,hp⟩) (by omega);all_goals try exact zZz F
 ·have d1:=H2 c1;have hp:momL anyF e l=none:=by
   rw[← hp,N3 (by omega)];rfl
  have F:=F2 F d1;try refine sq F ?_
  refine wk F ?_;refine ee hQ F ?_;exact H9 (cn _ _ _) ⟨by rw[hp];rfl,rfl⟩
theorem Bp:DateC G 183 webR:=fun s hs h=>by
 have:=o0 G s (by omega) h;rw[j0]at this;exact this
def updL:List Bs:=[bUpd,bPubl,bIss]
theorem mi(hA:DateC G 183 webR)(e:Elem)(n:Bs)(hs:e.sz≤1048576)(h:Heap):Sat (CT G) 157 [e.av,.str n] h (fun r h'=>r=.tup [.int .i64 ((momE webR e n).getD 0),.bool (momE webR e n).isSome]∧h'=h):=by
 have hKd:=fN G e n hs;have ht:=iB e n hs;have hm:momE webR e n=if (kidF e n).2 then webR (cleanF (kidF e n).1.text)else none:=rfl
 rw[hm];generalize kidF e n=k at*;obtain⟨⟨k1,k2,k3,k4⟩,is⟩:=k;have ht:k3.length≤1048576:=ht;have hc:=fF k3;have h1:=cO G k3 (by omega);have h2:=hA (cleanF k3) (by omega);clear hm;cases is with
 |false=>
  have F:= @ak;refine sb [.tmp 4,.tmp 5] Tryz.func157 ?_;intro Q hQ;refine wk F ?_;refine kq F (hKd _) ?_;refine ee hQ F ?_;exact H9 (cn _ _ _) ⟨rfl,rfl⟩
 |true=>
  cases ha:webR (cleanF k3)with
  |none=>
   rw[ha]at h2;have h2:∀h,Sat (CT G) 183 [.str (cleanF k3)] h (fun r h'=>r=.tup [.int .i64 0,.int .i64 40]∧h'=h):=h2;have F:= @ak;refine sb [.tmp 4,.tmp 5] Tryz.func157 ?_;intro Q hQ;refine wk F ?_;refine kq F (hKd _) ?_;refine kq F (h1 _) ?_;refine kq F (h2 _) ?_;refine ee hQ F ?_;refine H9 (cn _ _ _) ⟨?_,rfl⟩;show _=AVal.tup [.int .i64 ((webR (cleanF k3)).getD 0),.bool (webR (cleanF k3)).isSome];rw[ha];rfl
  |some v=>
   rw[ha]at h2;have h2:∀h,Sat (CT G) 183 [.str (cleanF k3)] h (fun r h'=>r=.tup [.int .i64 v,.int .i64 0]∧h'=h):=h2;have F:= @ak;refine sb [.tmp 4,.tmp 5] Tryz.func157 ?_;intro Q hQ;refine wk F ?_;refine kq F (hKd _) ?_;refine kq F (h1 _) ?_;refine kq F (h2 _) ?_;refine ee hQ F ?_;refine H9 (cn _ _ _) ⟨?_,rfl⟩;show _=AVal.tup [.int .i64 ((webR (cleanF k3)).getD 0),.bool (webR (cleanF k3)).isSome];rw[ha];rfl
theorem mj(hA:DateC G 183 webR)(e:Elem)(hs:e.sz≤1048576)(h:Heap):Sat (CT G) 130 [e.av] h (fun r h'=>r=.tup [.int .i64 ((momL webR e updL).getD 0),.bool (momL webR e updL).isSome]∧h'=h):=by
 obtain⟨l,hl⟩:∃l,l=updL:=⟨_,rfl⟩;have hll:l.length=3:=by rw[hl];rfl
 have hg:∀(k:Nat) (x:Bs),l[k]? =some x→([.str [117,112,100,97,116,101,100],.str [112,117,98,108,105,115,104,101,100],.str [105,115,115,117,101,100]]:List AVal)[k]? =some (.str x):=fun k x hx=>by
  have:(l.map AVal.str)[k]? =some (.str x):=by rw[K8,hx];rfl
  rw[hl]at this;exact this
 rw[← hl];have F:= @ak;refine sb [.tmp 2,.tmp 3] Tryz.func130 ?_;intro Q hQ;refine wk F ?_;refine lm (fun nL tL hL=>∃(k:Nat),l.length-k=nL∧h++[.row 35 4 0 [e.av]]=hL∧tL 10=.int .i64 k∧k≤l.length∧momL webR e (l.drop k)=momL webR e l) ((fun(k:Nat)=>(l.length-k:Nat)) (0)) ?_ ?_
 ·refine H3 ⟨0,rfl,aB,?_,by omega,rfl⟩;all_goals try exact zZz F
 rintro _ s2 h' ⟨k,rfl,rfl,e10,hk,hp⟩ K2 hK2;simp only[ao,aw,Nat.reduceEqDiff, ↓reduceIte]at e10;have F:=F2 F e10;by_cases c1:k<l.length
 ·obtain⟨x,hx,_⟩:=am c1;have d1:decide ((k:Int)<3)=true:=G4 (by omega);have hgx:=hg k x hx;have hM:=mi G hA e x hs;rw[kA webR e hx]at hp;cases hv:momE webR e x with
  |some v=>
   rw[hv]at hM hp;have hM:∀h,Sat (CT G) 157 [e.av,.str x] h (fun r h'=>r=.tup [.int .i64 v,.bool true]∧h'=h):=hM;have hp:some v=momL webR e l:=hp;have F:=F3 F hgx d1;(try refine sq F ?_);refine wk F ?_;refine kq F (hM _) ?_;refine ee hQ F ?_;exact H9 (cn _ _ _) ⟨by rw[← hp];rfl,rfl⟩
  |none=>
   rw[hv]at hM hp;have hM:∀h,Sat (CT G) 157 [e.av,.str x] h (fun r h'=>r=.tup [.int .i64 0,.bool false]∧h'=h):=hM;have hp:momL webR e (l.drop (k+1))=momL webR e l:=hp;have F:=F3 F hgx d1;(try refine sq F ?_);refine wk F ?_;refine kq F (hM _) ?_;refine hK2 _ _ _ (H3 ⟨k+1,rfl,aB,?_,by omega,hp⟩) (by omega);all_goals try exact zZz F
 ·have d1:decide ((k:Int)<3)=false:=H2 (by omega);have hp:momL webR e l=none:=by
   rw[← hp,N3 (by omega)];rfl
  have F:=F2 F d1;try refine sq F ?_
  refine wk F ?_;refine ee hQ F ?_;exact H9 (cn _ _ _) ⟨by rw[hp];rfl,rfl⟩
def En.z:En:=⟨[],[],[],0,false⟩
def oEn(o:Option En):AVal:=.tup [(o.getD En.z).av,.bool o.isSome]
theorem hJ(N:Nat)(x:En)(b:Bool):Clo N (.tup [x.av,.bool b]):=.tup _ (fun c hc=>by simp only[I2,M5,or_false]at hc;rcases hc with rfl|rfl<;>first|exact x.clo _|exact .bool _)
theorem pW(hA:DateC G 156 anyF)(e:Elem)(hs:e.sz≤1048576)(h:Heap):Sat (CT G) 50 [e.av] h (fun r h'=>r=oEn (entR e)∧h'=h):=by
 have fT:=bj G e bTitle 256 hs (by omega);have fL:=bj G e bLink 512 hs (by omega);have fG:=bj G e bGuid 512 hs (by omega);have hM:=nl G hA e [bPub,bDate] hs (by decide);have hE:entR e=mkE (orF (fieldF e bGuid 512) (fieldF e bLink 512) (fieldF e bTitle 256)) (fieldF e bTitle 256) (fieldF e bLink 512) (momL anyF e [bPub,bDate]):=rfl;rw[hE];generalize fieldF e bTitle 256=t at*;generalize fieldF e bLink 512=l at*;generalize fieldF e bGuid 512=g at*;generalize momL anyF e [bPub,bDate]=m at*;have hO:=rM G g l t;generalize orF g l t=u at*;clear hE;have hz:ofVal (.agg #[.string ⟨#[]⟩,.string ⟨#[]⟩,.string ⟨#[]⟩,.int .i64 0,.bool false])=.agg [.str [],.str [],.str [],.int .i64 0,.bool false]:=rfl;by_cases hu:u=[]
 ·have q:(u==([]:Bs))=true:=by simp[hu]
  have eo:oEn (mkE u t l m)=.tup [En.z.av,.bool false]:=by unfold mkE;rw[E8 hu];rfl
  rw[eo];have F:=F3 q hz @ak
  skip
  refine sb [.cell 2 48,.tmp 3] Tryz.func50 ?_;intro Q hQ;refine wn F ?_;refine cY 5 5 _ (by rfl) (by decide+kernel) (by kernel_rfl) (by decide+kernel) (by decide+kernel) (by decide+kernel) ?_;simp only[J3,L3];refine sq F ?_;refine wn F ?_;refine af (fT _) ?_;try refine sq F ?_
  refine wn F ?_;refine af (fL _) ?_;try refine sq F ?_
  refine wn F ?_;try refine⟨by decide+kernel,?_⟩
  try refine sq F ?_
  refine⟨?_,?_⟩
  ·refine af (fT _) ?_;(try refine sq F ?_);refine wn F ?_;refine af (fL _) ?_;(try refine sq F ?_);refine wn F ?_;all_goals first|exact zq F|trivial| (refine sq F ?_;trivial)
  skip
  try refine sq F ?_
  refine wk F ?_;refine af (fG _) ?_;try refine sq F ?_
  refine wk F ?_;refine af (hO _) ?_;try refine sq F ?_
  refine wk F ?_;refine ye hQ F ?_;exact H9 (hJ _ En.z _) ⟨rfl,rfl⟩
 ·have q:(u==([]:Bs))=false:=by simpa using hu
  have eo:oEn (mkE u t l m)=.tup [(⟨u,t,l,m.getD 0,m.isSome⟩:En).av,.bool true]:=by unfold mkE;rw[E4 hu];rfl
  rw[eo];have F:=F3 q hz @ak
  skip
  refine sb [.cell 2 48,.tmp 3] Tryz.func50 ?_;intro Q hQ;refine wn F ?_;refine cY 5 5 _ (by rfl) (by decide+kernel) (by kernel_rfl) (by decide+kernel) (by decide+kernel) (by decide+kernel) ?_;simp only[J3,L3];refine sq F ?_;refine wn F ?_;refine af (fT _) ?_;try refine sq F ?_
  refine wn F ?_;refine af (fL _) ?_;try refine sq F ?_
  refine wn F ?_;try refine⟨by decide+kernel,?_⟩
  try refine sq F ?_
  refine⟨?_,?_⟩
  ·refine af (fT _) ?_;(try refine sq F ?_);refine wn F ?_;refine af (fL _) ?_;(try refine sq F ?_);refine wn F ?_;all_goals first|exact zq F|trivial| (refine sq F ?_;trivial)
  skip
  try refine sq F ?_
  refine wk F ?_;refine af (fG _) ?_;try refine sq F ?_
  refine wk F ?_;refine af (hO _) ?_;try refine sq F ?_
  refine wk F ?_;refine kq F (hM _) ?_;refine ye hQ F ?_;exact H9 (hJ _ (⟨u,t,l,m.getD 0,m.isSome⟩:En) _) ⟨rfl,rfl⟩
def Fd.z:Fd:=⟨[],[],[]⟩
theorem Fd.clo(n:Nat)(d:Fd):Clo n d.av:=.agg _ fun c hc=>by
 simp only[I2,M5,or_false]at hc;rcases hc with rfl|rfl|rfl
 ·exact .str _
 ·exact .str _
 ·exact .sl _ _ (fun r hr=>by obtain⟨x,_,rfl⟩:=I9.1 hr;exact x.clo _)
def oFd(o:Option Fd):AVal:=.tup [(o.getD Fd.z).av,.bool o.isSome]
theorem vp(N:Nat)(x:Fd)(b:Bool):Clo N (.tup [x.av,.bool b]):=.tup _ (fun c hc=>by simp only[I2,M5,or_false]at hc;rcases hc with rfl|rfl<;>first|exact x.clo _|exact .bool _)
theorem mm(f:Elem→Option En){l:List Elem}{k:Nat}{x:Elem}(hx:l[k]? =some x):entsF f (l.take (k+1))=match f x with
 |none=>entsF f (l.take k)
 |some v=>if (entsF f (l.take k)).length<256 then entsF f (l.take k)++[v]else entsF f (l.take k):=by
 unfold entsF;rw[O0 (l:=l) (i:=k),hx,List.filterMap_append];cases hv:f x with
 |none=>simp[hv]
 |some v=>
  have:List.filterMap f (some x).toList=[v]:=by simp[hv]
  rw[this];generalize List.filterMap f (l.take k)=A;by_cases hl:A.length<256
  ·have h1:(A++[v]).take 256=A++[v]:=H4 (by simp;omega);have h2:A.take 256=A:=H4 (by omega);rw[h1,h2];exact(E8 hl).symm
  ·have h1:(A++[v]).take 256=A.take 256:=List.take_append_of_le_length (by omega);rw[h1];exact(E4 (by rw[I0];omega)).symm
theorem fW{e k:Elem}{n:Bs}(hs:e.sz≤1048576)(h:k∈kidsF e n):k.sz≤1048576:=by
 have:=Elem.kid_sz (List.mem_filter.1 h).1;omega
theorem gI(e:Elem)(n:Bs)(hs:e.sz≤1048576):(kidsF e n).length≤1048576:=by
 have h1:=e.kids_len;have h2:(kidsF e n).length≤e.kids.length:=List.length_filter_le ..;omega
theorem wE{Z:Heap}{n q v e:Nat}(t l:Bs)(es:List En)(b:Bool)(hq:n≤q)(hg:getRow Z q v=some (e,5,es.map En.av)):Frz Z n (.tup [.agg [.str t,.str l,.hs q v 0 es.length true],.bool b]) (.tup [Fd.av ⟨t,l,es⟩,.bool b]):=by
 have z:Frz Z n (.hs q v 0 es.length true) (.sl 5 (es.map En.av)):=Frz.data hq hg (by simp) (fun r hr=>by obtain⟨x,_,rfl⟩:=I9.1 hr;exact x.clo _) (fun r hr=>by obtain⟨x,_,rfl⟩:=I9.1 hr;exact x.sto);exact FrzL.tup (.cons (FrzL.agg (.cons (.clo _ (.str _)) (.cons (.clo _ (.str _)) (.cons z .nil))) rfl) (.cons (.clo _ (.bool _)) .nil))
theorem jz(Z:Heap)(n:Nat):Frz Z n (.tup [.agg [.str [],.str [],.nil (.slice none 0 0)],.bool false]) (oFd none):=
 FrzL.tup (.cons (FrzL.agg (.cons (.clo _ (.str _)) (.cons (.clo _ (.str _)) (.cons (.nils 5) .nil))) rfl) (.cons (.clo _ (.bool _)) .nil))
theorem rN(hA:DateC G 156 anyF)(e:Elem)(hs:e.sz≤1048576)(h:Heap):Sat (CT G) 27 [e.av] h (fun r h'=>r=oFd (rssF e)∧h'=h):=by
 have hKd:=fN G e bChan hs;have hSh:=fM G e.name (by have:=Elem.sz_eq e;omega);have hc:(kidF e bChan).1.sz≤1048576:=by
  unfold kidF;split
  ·show 1≤_;omega
  ·rename_i k l hk;exact fW hs (by rw[hk];simp)
 have hR:rssF e=if (kidF e bChan).2&&decide (short e.name=bRss)then some ⟨fieldF (kidF e bChan).1 bTitle 256,fieldF (kidF e bChan).1 bLink 512,entsF entR (kidsF (kidF e bChan).1 bItem)⟩else none:=rfl
 rw[hR];clear hR;generalize short e.name=sn at*;generalize kidF e bChan=kk at*;obtain⟨c,is⟩:=kk;simp only[]at hc;have fT:=bj G c bTitle 256 hc (by omega);have fL:=bj G c bLink 512 hc (by omega);have hKs:=eF G c bItem hc;have hsz:∀k∈kidsF c bItem,k.sz≤1048576:=fun k hk=>fW hc hk
 have hln:=gI c bItem hc;generalize fieldF c bTitle 256=t at*;generalize fieldF c bLink 512=l at*;generalize kidsF c bItem=ks at*;have mk:(ks.map Elem.av).length=ks.length:=I5 ..;obtain⟨e1,e2,e3,e4⟩:=e;cases is with
 |false=>
  have F:= @ak;refine sb [.cell 2 25,.tmp 3] Tryz.func27 ?_;intro Q hQ;refine wk F ?_;refine kq F (hKd _) ?_;refine ye hQ F ?_;exact T6 (jz _ _) ⟨rfl,rfl⟩
 |true=>
  by_cases hn:sn=bRss
  rotate_left
  ·have q:(sn==bRss)=false:=(by simpa using hn);unfold bRss at q;have d:(true&&decide (sn=bRss))=false:=(by simp[hn]);simp only[d];have F:=F2 q @ak;refine sb [.cell 2 25,.tmp 3] Tryz.func27 ?_;intro Q hQ;refine wk F ?_;refine kq F (hKd _) ?_;refine kq F (hSh _) ?_;refine ye hQ F ?_;exact T6 (jz _ _) ⟨rfl,rfl⟩
  have q:(sn==bRss)=true:=by simpa using hn
  unfold bRss at q;have d:(true&&decide (sn=bRss))=true:=by simp[hn]
  simp only[d];clear d;have hz:ofVal (.agg #[.string ⟨#[]⟩,.string ⟨#[]⟩,.slice none 0 0])=.agg [.str [],.str [],.nil (.slice none 0 0)]:=rfl;have F:=F4 q hz mk @ak
  skip
  refine sb [.cell 2 25,.tmp 3] Tryz.func27 ?_;intro Q hQ;refine wn F ?_;refine kn F (hKd _) ?_;refine kn F (hSh _) ?_;refine cY 5 5 _ (by rfl) (by decide+kernel) (by kernel_rfl) (by decide+kernel) (by decide+kernel) (by decide+kernel) ?_;simp only[J3,L3];refine sq F ?_;refine wn F ?_;refine af (fT _) ?_;try refine sq F ?_
  refine wn F ?_;refine af (fL _) ?_;try refine sq F ?_
  refine wn F ?_;try refine⟨by decide+kernel,?_⟩
  try refine sq F ?_
  refine⟨?_,?_⟩
  ·refine af (fT _) ?_;(try refine sq F ?_);refine wn F ?_;refine af (fL _) ?_;(try refine sq F ?_);refine wn F ?_;all_goals first|exact zq F|trivial| (refine sq F ?_;trivial)
  skip
  try refine sq F ?_
  refine wk F ?_;refine kq F (hKs _) ?_;refine lm (fun nL tL hL=>∃(k v:Nat) (es:List En) (j:Heap),ks.length-k=nL∧h++ .row 35 4 0 [Elem.av ⟨e1,e2,e3,e4⟩]:: .row 25 3 0 [.agg [.str [],.str [],.nil (.slice none 0 0)]]:: .row 35 4 0 [c.av]:: .row 25 3 0 [.agg [.str t,.str l,.hs (h.length+4) v 0 es.length true]]:: .row 48 5 v (es.map En.av)::j=hL∧tL 33=.int .i64 k∧k≤ks.length∧es=entsF entR (ks.take k)) ((fun(k v:Nat) (es:List En) (j:Heap)=>(ks.length-k:Nat)) (0) (0) ([]) ([])) ?_ ?_
  ·refine⟨_,_,S6 (p:=h.length+3) (v:=0) 48 5 (by omega) (by simp(disch:=first|omega| (simp only[go_sem, ↓reduceIte,seval];first|done|omega)|fail) only[go_sem, ↓reduceIte,seval,F];rfl) 2 rfl,⟨0,0,[],[],rfl,(by simp),?_,by omega,rfl⟩⟩;all_goals try exact zZz F
  rintro _ s2 h' ⟨k,v,es,j,rfl,rfl,e33,hk,ho⟩ K2 hK2;simp only[ao,aw,Nat.reduceEqDiff, ↓reduceIte]at e33;have F:=F2 F e33;have hel:es.length≤256:=by rw[ho];unfold entsF;rw[I0];omega
  have me:(es.map En.av).length=es.length:=I5 ..;by_cases c1:k<ks.length
  ·obtain⟨x,hx,hxm⟩:=am c1;have d1:=G4 c1;have hE:=pW G hA x (hsz x hxm);have hst:=mm entR hx;rw[← ho]at hst;cases hv:entR x with
   |none=>
    rw[hv]at hE hst;have hE:∀h,Sat (CT G) 50 [x.av] h (fun r h'=>r=.tup [En.z.av,.bool false]∧h'=h):=hE;have F:=F4 F hx d1 me;(try refine sq F ?_);refine wk F ?_;have hst:entsF entR (ks.take (k+1))=es:=hst;refine kq F (hE _) ?_;refine hK2 _ _ _ (H3 ⟨k+1,v,es,j++[.row 35 4 0 [x.av],.row 48 5 0 [En.z.av]],rfl,by simp[En.av,En.z],?_,by omega,hst.symm⟩) (by omega);all_goals try exact zZz F
   |some y=>
    rw[hv]at hE hst;have hE:∀h,Sat (CT G) 50 [x.av] h (fun r h'=>r=.tup [y.av,.bool true]∧h'=h):=hE;have hst:entsF entR (ks.take (k+1))=if es.length<256 then es++[y]else es:=hst
    by_cases c2:es.length<256
    ·have d2:decide ((es.length:Int)<256)=true:=G4 (by omega);rw[E8 c2]at hst;have F:=F5 F hx d1 d2 me;(try refine sq F ?_);refine wk F ?_;refine kq F (hE _) ?_;refine aq F ?_;(try refine sq F ?_);refine wk F ?_;refine hK2 _ _ _ (H3 ⟨k+1,v+1,es++[y],j++[.row 35 4 0 [x.av],.row 48 5 0 [y.av]],rfl,by simp[En.av],?_,by omega,hst.symm⟩) (by omega);all_goals try exact zZz F
    ·have d2:decide ((es.length:Int)<256)=false:=H2 (by omega);rw[E4 c2]at hst;have F:=F5 F hx d1 d2 me;(try refine sq F ?_);refine wk F ?_;refine kq F (hE _) ?_;refine hK2 _ _ _ (H3 ⟨k+1,v,es,j++[.row 35 4 0 [x.av],.row 48 5 0 [y.av]],rfl,by simp[En.av],?_,by omega,hst.symm⟩) (by omega);all_goals try exact zZz F
  ·have d1:=H2 c1;rw[H4 (by omega)]at ho;have F:=F3 F d1 me;(try refine sq F ?_);refine wk F ?_;refine ye hQ F ?_;rw[← ho];exact T6 (wE t l es true (by omega) (by rw[j3 _ rfl];show(if v=v then _ else _)=_;rw[E8 rfl])) ⟨rfl,rfl⟩
def LinkC(F:FuncId):Prop:=∀e:Elem,e.sz≤1048576→∀h,Sat (CT G) F [e.av] h (fun r h'=>r=.str (linkA e)∧h'=h)
theorem np(hL:LinkC G 51)(e:Elem)(hs:e.sz≤1048576)(h:Heap):Sat (CT G) 87 [e.av] h (fun r h'=>r=oEn (entA e)∧h'=h):=by
 have fT:=bj G e bTitle 256 hs (by omega);have fL:=hL e hs;have fG:=bj G e bId 512 hs (by omega);have hM:=mj G (Bp G) e hs;have hE:entA e=mkE (orF (fieldF e bId 512) (linkA e) (fieldF e bTitle 256)) (fieldF e bTitle 256) (linkA e) (momL webR e updL):=rfl;rw[hE];generalize fieldF e bTitle 256=t at*;generalize linkA e=l at*;generalize fieldF e bId 512=g at*;generalize momL webR e updL=m at*;have hO:=rM G g l t;generalize orF g l t=u at*;clear hE;have hz:ofVal (.agg #[.string ⟨#[]⟩,.string ⟨#[]⟩,.string ⟨#[]⟩,.int .i64 0,.bool false])=.agg [.str [],.str [],.str [],.int .i64 0,.bool false]:=rfl;by_cases hu:u=[]
 ·have q:(u==([]:Bs))=true:=by simp[hu]
  have eo:oEn (mkE u t l m)=.tup [En.z.av,.bool false]:=by unfold mkE;rw[E8 hu];rfl
  rw[eo];have F:=F3 q hz @ak
  skip
  refine sb [.cell 2 48,.tmp 3] Tryz.func87 ?_;intro Q hQ;refine wn F ?_;refine cY 5 5 _ (by rfl) (by decide+kernel) (by kernel_rfl) (by decide+kernel) (by decide+kernel) (by decide+kernel) ?_;simp only[J3,L3];refine sq F ?_;refine wn F ?_;refine af (fT _) ?_;try refine sq F ?_
  refine wn F ?_;refine af (fL _) ?_;try refine sq F ?_
  refine wn F ?_;refine⟨?_,?_⟩
  ·refine af (fT _) ?_;(try refine sq F ?_);refine wn F ?_;refine af (fL _) ?_;(try refine sq F ?_);refine wn F ?_;all_goals first|exact zq F|trivial| (refine sq F ?_;trivial)
  skip
  try refine sq F ?_
  refine wk F ?_;refine af (fG _) ?_;try refine sq F ?_
  refine wk F ?_;refine af (hO _) ?_;try refine sq F ?_
  refine wk F ?_;refine ye hQ F ?_;exact H9 (hJ _ En.z _) ⟨rfl,rfl⟩
 ·have q:(u==([]:Bs))=false:=by simpa using hu
  have eo:oEn (mkE u t l m)=.tup [(⟨u,t,l,m.getD 0,m.isSome⟩:En).av,.bool true]:=by unfold mkE;rw[E4 hu];rfl
  rw[eo];have F:=F3 q hz @ak
  skip
  refine sb [.cell 2 48,.tmp 3] Tryz.func87 ?_;intro Q hQ;refine wn F ?_;refine cY 5 5 _ (by rfl) (by decide+kernel) (by kernel_rfl) (by decide+kernel) (by decide+kernel) (by decide+kernel) ?_;simp only[J3,L3];refine sq F ?_;refine wn F ?_;refine af (fT _) ?_;try refine sq F ?_
  refine wn F ?_;refine af (fL _) ?_;try refine sq F ?_
  refine wn F ?_;refine⟨?_,?_⟩
  ·refine af (fT _) ?_;(try refine sq F ?_);refine wn F ?_;refine af (fL _) ?_;(try refine sq F ?_);refine wn F ?_;all_goals first|exact zq F|trivial| (refine sq F ?_;trivial)
  skip
  try refine sq F ?_
  refine wk F ?_;refine af (fG _) ?_;try refine sq F ?_
  refine wk F ?_;refine af (hO _) ?_;try refine sq F ?_
  refine wk F ?_;refine kq F (hM _) ?_;refine ye hQ F ?_;exact H9 (hJ _ (⟨u,t,l,m.getD 0,m.isSome⟩:En) _) ⟨rfl,rfl⟩
theorem uc{Z:Heap}{n q v e:Nat}(l:List En)(hq:n≤q)(hg:getRow Z q v=some (e,5,l.map En.av)):Frz Z n (.hs q v 0 l.length true) (.sl 5 (l.map En.av)):=
 Frz.data hq hg (by simp) (fun r hr=>by obtain⟨x,_,rfl⟩:=I9.1 hr;exact x.clo _) (fun r hr=>by obtain⟨x,_,rfl⟩:=I9.1 hr;exact x.sto)
theorem kJ(hL:LinkC G 51)(ks:List Elem)(hsz:∀k∈ks,k.sz≤1048576)(hln:ks.length≤1048576)(h:Heap):Sat (CT G) 52 [.sl 4 (ks.map Elem.av)] h (fun r h'=>r=.sl 5 ((entsF entA ks).map En.av)∧h'=h):=by
 have mk:(ks.map Elem.av).length=ks.length:=I5 ..;have F:=F2 mk @ak;refine sb [.tmp 2] Tryz.func52 ?_;intro Q hQ;refine wk F ?_;refine lm (fun nL tL hL=>∃(k v:Nat) (es:List En) (j:Heap),ks.length-k=nL∧h++ .row 48 5 v (es.map En.av)::j=hL∧tL 3=.hs h.length v 0 es.length true∧tL 10=.int .i64 k∧k≤ks.length∧es=entsF entA (ks.take k)) ((fun(k v:Nat) (es:List En) (j:Heap)=>(ks.length-k:Nat)) (0) (0) ([]) ([])) ?_ ?_
 ·refine⟨_,_,Weak.virt 3 48 5 (by simp) (by omega) (by exact zq F),⟨0,0,[],[],rfl,aB,?_,?_,by omega,rfl⟩⟩;all_goals try exact zZz F
 rintro _ s2 h' ⟨k,v,es,j,rfl,rfl,e3,e10,hk,ho⟩ K2 hK2;simp only[ao,aw,Nat.reduceEqDiff, ↓reduceIte]at e3 e10;have F:=F3 F e3 e10;have hel:es.length≤256:=by rw[ho];unfold entsF;rw[I0];omega
 have me:(es.map En.av).length=es.length:=I5 ..;by_cases c1:k<ks.length
 ·obtain⟨x,hx,hxm⟩:=am c1;have d1:=G4 c1;have hE:=np G hL x (hsz x hxm);have hst:=mm entA hx;rw[← ho]at hst;cases hv:entA x with
  |none=>
   rw[hv]at hE hst;have hE:∀h,Sat (CT G) 87 [x.av] h (fun r h'=>r=.tup [En.z.av,.bool false]∧h'=h):=hE;have hst:entsF entA (ks.take (k+1))=es:=hst;have F:=F4 F hx d1 me;(try refine sq F ?_);refine wk F ?_;refine kq F (hE _) ?_;refine hK2 _ _ _ (H3 ⟨k+1,v,es,j++[.row 35 4 0 [x.av],.row 48 5 0 [En.z.av]],rfl,by simp[En.av,En.z],?_,?_,by omega,hst.symm⟩) (by omega);all_goals try exact zZz F
  |some y=>
   rw[hv]at hE hst;have hE:∀h,Sat (CT G) 87 [x.av] h (fun r h'=>r=.tup [y.av,.bool true]∧h'=h):=hE;have hst:entsF entA (ks.take (k+1))=if es.length<256 then es++[y]else es:=hst
   by_cases c2:es.length<256
   ·have d2:decide ((es.length:Int)<256)=true:=G4 (by omega);rw[E8 c2]at hst;have F:=F5 F hx d1 d2 me;(try refine sq F ?_);refine wk F ?_;refine kq F (hE _) ?_;refine aq F ?_;(try refine sq F ?_);refine wk F ?_;refine hK2 _ _ _ (H3 ⟨k+1,v+1,es++[y],j++[.row 35 4 0 [x.av],.row 48 5 0 [y.av]],rfl,by simp[En.av],?_,?_,by omega,hst.symm⟩) (by omega);all_goals try exact zZz F
   ·have d2:decide ((es.length:Int)<256)=false:=H2 (by omega);rw[E4 c2]at hst;have F:=F5 F hx d1 d2 me;(try refine sq F ?_);refine wk F ?_;refine kq F (hE _) ?_;refine hK2 _ _ _ (H3 ⟨k+1,v,es,j++[.row 35 4 0 [x.av],.row 48 5 0 [y.av]],rfl,by simp[En.av],?_,?_,by omega,hst.symm⟩) (by omega);all_goals try exact zZz F
 ·have d1:=H2 c1;rw[H4 (by omega)]at ho;have F:=F3 F d1 me;try refine sq F ?_
  refine wk F ?_;refine ee hQ F ?_;rw[← ho];exact T6 (uc (e:=48) es (by omega) (by rw[ck _ rfl];show(if v=v then _ else _)=_;rw[E8 rfl])) ⟨rfl,rfl⟩
theorem pY(hL:LinkC G 51)(e:Elem)(hs:e.sz≤1048576)(h:Heap):Sat (CT G) 28 [e.av] h (fun r h'=>r=oFd (atomF e)∧h'=h):=by
 have hSh:=fM G e.name (by have:=Elem.sz_eq e;omega);have fT:=bj G e bTitle 256 hs (by omega);have fL:=hL e hs;have hKs:=eF G e bEntry hs;have hEs:=kJ G hL (kidsF e bEntry) (fun k hk=>fW hs hk) (gI e bEntry hs);have hR:atomF e=if short e.name=bFeed then some ⟨fieldF e bTitle 256,linkA e,entsF entA (kidsF e bEntry)⟩else none:=rfl
 rw[hR];clear hR;generalize fieldF e bTitle 256=t at*;generalize linkA e=l at*;generalize kidsF e bEntry=ks at*;generalize entsF entA ks=es at*;generalize short e.name=sn at*;obtain⟨e1,e2,e3,e4⟩:=e;by_cases hn:sn=bFeed
 rotate_left
 ·have q:(sn==bFeed)=false:=by simpa using hn
  unfold bFeed at q;rw[E4 hn];have F:=F2 q @ak;refine sb [.cell 2 25,.tmp 3] Tryz.func28 ?_;intro Q hQ;refine wk F ?_;refine kq F (hSh _) ?_;refine ye hQ F ?_;exact T6 (jz _ _) ⟨rfl,rfl⟩
 ·have q:(sn==bFeed)=true:=by simpa using hn
  unfold bFeed at q;rw[E8 hn];have F:=F2 q @ak;refine sb [.cell 2 25,.tmp 3] Tryz.func28 ?_;intro Q hQ;refine wk F ?_;refine kq F (hSh _) ?_;refine af (fT _) ?_;try refine sq F ?_
  refine wk F ?_;refine af (fL _) ?_;try refine sq F ?_
  refine wk F ?_;refine af (hKs _) ?_;try refine sq F ?_
  refine wk F ?_;refine af (hEs _) ?_;try refine sq F ?_
  refine wk F ?_;refine ye hQ F ?_;exact H9 (vp _ (⟨t,l,es⟩:Fd) _) ⟨rfl,rfl⟩
instance:DecidableEq En:=fun x y=>by
 cases x;cases y;simp only[En.mk.injEq];exact inferInstance
@[go_sem] theorem CN(h:Heap)(d e:En):abin Tryz.prog h .neq 48 (.agg [.str d.guid,.str d.title,.str d.link,.int .i64 d.date,.bool d.dated]) (.agg [.str e.guid,.str e.title,.str e.link,.int .i64 e.date,.bool e.dated])=some (.bool (!decide (d=e))):=by
 obtain⟨a1,a2,a3,a4,a5⟩:=d;obtain⟨b1,b2,b3,b4,b5⟩:=e;simp only[abin,go_sem,aeqL,aeq1, ↓reduceIte,M6,G5,AVal.bool.injEq,En.mk.injEq,Bool.not_inj_iff];rw[O3];simp
theorem je(a b:List En)(ha:a.length≤1048576)(hb:b.length≤1048576)(h:Heap):Sat (CT G) 15 [.sl 5 (a.map En.av),.sl 5 (b.map En.av)] h (fun r h'=>r=.bool (decide (a=b))∧h'=h):=by
 have ma:(a.map En.av).length=a.length:=I5 ..;have mb:(b.map En.av).length=b.length:=I5 ..;by_cases hl:a.length=b.length
 rotate_left
 ·have q:((a.length:Int) != (b.length:Int))=true:=by simp only[bne_iff_ne,ne_eq];omega
  have e:decide (a=b)=false:=H2 fun k=>hl (by rw[k])
  rw[e];have F:=F3 ma mb q;refine sb [.tmp 4] Tryz.func15 ?_;intro Q hQ;refine wk F ?_;refine ee hQ F ?_;exact J9 (.bool _) ⟨rfl,rfl⟩
 have q:((a.length:Int) != (b.length:Int))=false:=by rw[hl];simp
 have dt:∀i:Decidable True, @decide True i=true:=fun i=>by simp
 have F:=F4 ma mb q dt;refine sb [.tmp 4] Tryz.func15 ?_;intro Q hQ;refine wk F ?_;refine lm (fun nL tL hL=>∃(k:Nat),a.length-k=nL∧h=hL∧tL 5=.int .i64 k∧k≤a.length∧a.take k=b.take k) ((fun(k:Nat)=>(a.length-k:Nat)) (0)) ?_ ?_
 ·refine H3 ⟨0,rfl,aB,?_,by omega,rfl⟩;all_goals try exact zZz F
 rintro _ s2 h' ⟨k,rfl,rfl,e5,hk,hp⟩ K2 hK2;simp only[ao,aw,Nat.reduceEqDiff, ↓reduceIte]at e5;have F:=F2 F e5;by_cases c1:k<a.length
 ·have c2:k<b.length:=by omega
  obtain⟨x,hx,_⟩:=am c1;obtain⟨y,hy,_⟩:=am c2;by_cases e:x=y
  ·have w:(!decide (x=y))=false:=(by simp[e]);have hp1:a.take (k+1)=b.take (k+1):=(by rw[O0 (l:=a) (i:=k),O0 (l:=b) (i:=k),hx,hy,hp,e]);have F:=F6 F hx hy c1 c2 w;(try refine sq F ?_);refine wk F ?_;refine hK2 _ _ _ (H3 ⟨k+1,rfl,aB,?_,by omega,hp1⟩) (by omega);all_goals try exact zZz F
  ·have w:(!decide (x=y))=true:=(by simp[e]);have n:decide (a=b)=false:=H2 fun k=>by
    rw[k,hy]at hx;cases hx;exact e rfl
   have F:=F6 F hx hy c1 c2 w;(try refine sq F ?_);refine wk F ?_;refine ee hQ F ?_;exact J9 (.bool _) ⟨by rw[n],rfl⟩
 ·have d1:=H2 c1;rw[H4 (by omega),H4 (by omega)]at hp;have F:=F2 F d1;try refine sq F ?_
  refine wk F ?_;refine ee hQ F ?_;exact J9 (.bool _) ⟨by rw[G4 hp],rfl⟩
theorem kB(f:Elem→Option En)(l:List Elem):(entsF f l).length≤256:=by unfold entsF;rw[I0];omega
theorem ud{e:Elem}{d:Fd}(h:rssF e=some d):d.es.length≤256:=by
 unfold rssF at h;split at h
 ·cases h;exact kB _ _
 ·cases h
theorem rO{e:Elem}{d:Fd}(h:atomF e=some d):d.es.length≤256:=by
 unfold atomF at h;split at h
 ·cases h;exact kB _ _
 ·cases h
def ReadC(F:FuncId)(e:Elem)(f:Elem→Option Fd):Prop:=∀h,Sat (CT G) F [e.av] h (fun r h'=>r=oFd (f e)∧h'=h)
theorem mn(N:Nat)(x:Fd)(n:Int):Clo N (.tup [x.av,.int .i64 n]):=.tup _ (fun c hc=>by simp only[I2,M5,or_false]at hc;rcases hc with rfl|rfl<;>first|exact x.clo _|exact .int _ _)
theorem vr(Z:Heap)(n:Nat):Frz Z n (.tup [.agg [.str [],.str [],.nil (.slice none 0 0)],.int .i64 120]) (.tup [Fd.z.av,.int .i64 120]):=
 FrzL.tup (.cons (FrzL.agg (.cons (.clo _ (.str _)) (.cons (.clo _ (.str _)) (.cons (.nils 5) .nil))) rfl) (.cons (.clo _ (.int _ _)) .nil))
theorem rP(e:Elem)(hR:ReadC G 27 e rssF)(hB:ReadC G 28 e atomF)(h:Heap):Sat (CT G) 13 [e.av] h (fun r h'=>r=.tup [((ofE e).getD Fd.z).av,.int .i64 (if (ofE e).isSome then 0 else 120)]∧h'=h):=by
 have hE:ofE e=(match rssF e with
  |some d=>some d
  |none=>atomF e).map fun d:Fd=>⟨d.title,d.link,onceF d.es⟩:=rfl
 unfold ReadC at hR hB;have l1:= @ud e;have l2:= @rO e;rw[hE];clear hE;generalize rssF e=o1 at*;generalize atomF e=o2 at*;obtain⟨e1,e2,e3,e4⟩:=e;cases o1 with
 |some d=>
  obtain⟨t,l,es⟩:=d;have hO:=dr G es (by have:=l1 rfl;simp only[]at this;omega);have hR:∀h,Sat (CT G) 27 [(Elem.mk e1 e2 e3 e4).av] h (fun r h'=>r=.tup [.agg [.str t,.str l,.sl 5 (es.map En.av)],.bool true]∧h'=h):=hR;have F:= @ak;refine sb [.cell 2 25,.tmp 3] Tryz.func13 ?_;intro Q hQ;refine wk F ?_;refine kq F (hR _) ?_;refine kq F (hO _) ?_;refine ye hQ F ?_;exact H9 (mn _ (⟨t,l,onceF es⟩:Fd) _) ⟨rfl,rfl⟩
 |none=>
  have hR:∀h,Sat (CT G) 27 [(Elem.mk e1 e2 e3 e4).av] h (fun r h'=>r=.tup [.agg [.str [],.str [],.sl 5 []],.bool false]∧h'=h):=hR;cases o2 with
  |some d=>
   obtain⟨t,l,es⟩:=d;have hO:=dr G es (by have:=l2 rfl;simp only[]at this;omega);have hB:∀h,Sat (CT G) 28 [(Elem.mk e1 e2 e3 e4).av] h (fun r h'=>r=.tup [.agg [.str t,.str l,.sl 5 (es.map En.av)],.bool true]∧h'=h):=hB;have F:= @ak;refine sb [.cell 2 25,.tmp 3] Tryz.func13 ?_;intro Q hQ;refine wk F ?_;refine kq F (hR _) ?_;refine kq F (hB _) ?_;refine kq F (hO _) ?_;refine ye hQ F ?_;exact H9 (mn _ (⟨t,l,onceF es⟩:Fd) _) ⟨rfl,rfl⟩
  |none=>
   have hB:∀h,Sat (CT G) 28 [(Elem.mk e1 e2 e3 e4).av] h (fun r h'=>r=.tup [.agg [.str [],.str [],.sl 5 []],.bool false]∧h'=h):=hB;have F:= @ak;refine sb [.cell 2 25,.tmp 3] Tryz.func13 ?_;intro Q hQ;refine wk F ?_;refine kq F (hR _) ?_;refine kq F (hB _) ?_;refine ye hQ F ?_;exact T6 (vr _ _) ⟨rfl,rfl⟩
theorem pZ(a b:Fd)(ha:a.es.length≤1048576)(hb:b.es.length≤1048576)(h:Heap):Sat (CT G) 10 [a.av,b.av] h (fun r h'=>r=.bool (decide (a.title=b.title∧a.link=b.link∧a.es=b.es))∧h'=h):=by
 obtain⟨t1,l1,e1⟩:=a;obtain⟨t2,l2,e2⟩:=b;have hS:=je G e1 e2 ha hb;simp only[];have f1:(Fd.mk t1 l1 e1).av=.agg [.str t1,.str l1,.sl 5 (e1.map En.av)]:=rfl;have f2:(Fd.mk t2 l2 e2).av=.agg [.str t2,.str l2,.sl 5 (e2.map En.av)]:=rfl;rw[f1,f2];by_cases c1:t1=t2
 rotate_left
 ·have q:(t1==t2)=false:=by simpa using c1
  have n:decide (t1=t2∧l1=l2∧e1=e2)=false:=H2 fun k=>c1 k.1
  rw[n];have F:=F2 q @ak;refine sb [.tmp 4] Tryz.func10 ?_;intro Q hQ;refine wk F ?_;refine ee hQ F ?_;exact H9 (.bool _) ⟨rfl,rfl⟩
 have q1:(t1==t2)=true:=by simpa using c1
 by_cases c2:l1=l2
 rotate_left
 ·have q:(l1==l2)=false:=by simpa using c2
  have n:decide (t1=t2∧l1=l2∧e1=e2)=false:=H2 fun k=>c2 k.2.1
  rw[n];have F:=F3 q1 q @ak;refine sb [.tmp 4] Tryz.func10 ?_;intro Q hQ;refine wk F ?_;refine ee hQ F ?_;exact H9 (.bool _) ⟨rfl,rfl⟩
 have q2:(l1==l2)=true:=by simpa using c2
 have n:decide (t1=t2∧l1=l2∧e1=e2)=decide (e1=e2):=by simp[c1,c2]
 rw[n];have F:=F3 q1 q2 @ak;refine sb [.tmp 4] Tryz.func10 ?_;intro Q hQ;refine wk F ?_;refine kq F (hS _) ?_;refine ee hQ F ?_;exact H9 (.bool _) ⟨rfl,rfl⟩
theorem mr:∀(l:List At) (n:Bs),(attrF l n).2=true→(attrF l n).1.length+n.length+1≤szs At.sz l
 | [],n,h=>by rw[attrF]at h;cases h
 |a::l,n,h=>by
  rw[attrF]at h ⊢;have hz:szs At.sz (a::l)=At.sz a+szs At.sz l:=by rw[szs]
  have ha:At.sz a=1+a.1.length+a.2.length:=rfl;split at h
  ·rename_i e;rw[E8 e];have:a.1.length=n.length:=by rw[e]
   show a.2.length+n.length+1≤_;omega
  ·rename_i e;rw[E4 e];have:=mr l n h;omega
theorem Wk.slD{n:Nat}{xs ys:List AVal}(hl:xs.length=ys.length)(hw:∀(i:Nat) (r s:AVal),xs[i]? =some r→ys[i]? =some s→WkR r s):Wk (.sl n xs) (.sl n ys):=fun w S μ v rr=>by
 have at_:∀(i:Nat) (e:AVal),ys[i]? =some e→∃r,xs[i]? =some r∧WkR r e:=fun i e he=>by
  have hlt:=(E0.1 he).1;have hx:=E6 (show i<xs.length by omega);exact⟨_,hx,hw i _ e hx he⟩
 cases rr with
 |sl0 n a cap=>
  obtain rfl:ys=[]:=J5.1 (by simpa using hl.symm);exact .sl0 _ _ _
 |sl n es b o cap vs hne hm hm' hn hc hr=>
  rw[hl];refine .sl _ ys b o cap vs (fun e=>?_) (by omega) hm' (fun i e he=>?_) (fun i e j c he hj=>?_) (fun i e j c he hj=>?_)
  ·subst e;exact hne (J5.1 hl)
  ·obtain⟨r,hx,hq⟩:=at_ i e he;rw[← hq.1];exact hn i r hx
  ·obtain⟨r,hx,hq⟩:=at_ i e he;have hlt:=(E0.1 hj).1;have hd:=E6 (show j<r.cells.length by rw[hq.1];exact hlt);obtain⟨a1,a2,a3⟩:=hc i r j _ hx hd;exact⟨a1,a2,(hq.2 j _ c hd hj).2 a3⟩
  ·obtain⟨r,hx,hq⟩:=at_ i e he;have hlt:=(E0.1 hj).1;have hd:=E6 (show j<r.cells.length by rw[hq.1];exact hlt);exact(hq.2 j _ c hd hj).1 _ _ _ _ (hr i r j _ hx hd)
abbrev nl0:AVal:=.nil (.slice none 0 0)
theorem nq(v:Bs)(hv:v.length+6≤1048576)(h:Heap):Sat (CT G) 48 [.agg [.str [],nl0,.str [],.sl 4 [.agg [.str [104,114,101,102],nl0,.str v,nl0]]],.str [104,114,101,102],.int .i64 512] h (fun r h'=>r=.str (shortF v 512)∧h'=h):=by
 have hsz:(Elem.mk [] [] [] [Elem.mk bHref [] v []]).sz≤1048576:=by
  rw[Elem.sz_eq];have:(Elem.mk bHref [] v []).sz=6+v.length-1:=by rw[Elem.sz_eq];simp[szs,Elem.name,Elem.attrs,Elem.text,Elem.kids,bHref]
  simp[szs,Elem.name,Elem.attrs,Elem.text,Elem.kids,this];omega
 have hF:=bj G (Elem.mk [] [] [] [Elem.mk bHref [] v []]) bHref 512 hsz (by omega) h;have hk:fieldF (Elem.mk [] [] [] [Elem.mk bHref [] v []]) bHref 512=shortF v 512:=by
  have:kidF (Elem.mk [] [] [] [Elem.mk bHref [] v []]) bHref=(Elem.mk bHref [] v [],true):=rfl;unfold fieldF;rw[this];rfl
 rw[hk]at hF;have ha:(Elem.mk [] [] [] [Elem.mk bHref [] v []]).av=.agg [.str [],.sl 2 [],.str [],.sl 4 [.agg [.str bHref,.sl 2 [],.str v,.sl 4 []]]]:=rfl;rw[ha]at hF;refine Sat.wk (ys:=[.agg [.str [],.sl 2 [],.str [],.sl 4 [.agg [.str bHref,.sl 2 [],.str v,.sl 4 []]]],.str bHref,.int .i64 ((512:Nat):Int)]) rfl (fun i x y hx hy=>?_) hF
 match i with
 |0=>
  cases hx;cases hy;refine Wk.agg rfl (by intro y hy;simp at hy;rcases hy with rfl|rfl|rfl|rfl<;>rfl) (fun i x y hx hy=>?_)
  match i with
  |0=>cases hx;cases hy;exact Wk.refl _
  |1=>cases hx;cases hy;exact Wk.nils 2
  |2=>cases hx;cases hy;exact Wk.refl _
  |3=>
   cases hx;cases hy;refine Wk.slD rfl (fun i x y hx hy=>?_)
   match i with
   |0=>
    cases hx;cases hy;refine⟨rfl,fun j c d hc hd=>?_⟩
    match j with
    |0=>cases hc;cases hd;exact⟨Wk.refl _,id⟩
    |1=>cases hc;cases hd;exact⟨Wk.nils 2,fun _=>rfl⟩
    |2=>cases hc;cases hd;exact⟨Wk.refl _,id⟩
    |3=>cases hc;cases hd;exact⟨Wk.nils 4,fun _=>rfl⟩
    |k+4=>cases hc
   |k+1=>cases hx
  |k+4=>cases hx
 |1=>cases hx;cases hy;exact Wk.refl _
 |2=>cases hx;cases hy;exact Wk.refl _
 |k+3=>cases hx
theorem rQ(e:Elem)(hs:e.sz≤1048576)(h:Heap):Sat (CT G) 51 [e.av] h (fun r h'=>r=.str (linkA e)∧h'=h):=by
 have hKs:=eF G e bLink hs;have hsz:∀k∈kidsF e bLink,k.sz≤1048576:=fun k hk=>fW hs hk
 have hln:=gI e bLink hs;have hE:linkA e=match (kidsF e bLink).find? linkP with
  |some k=>shortF (attrF k.attrs bHref).1 512
  |none=>[]:=rfl
 rw[hE];clear hE;generalize kidsF e bLink=ks at*;have mk:(ks.map Elem.av).length=ks.length:=I5 ..;have F:=F2 mk @ak;refine sb [.tmp 2] Tryz.func51 ?_;intro Q hQ;refine wk F ?_;refine kq F (hKs _) ?_;refine lm (fun nL tL hL=>∃(k:Nat) (j:Heap),ks.length-k=nL∧h++ .row 35 4 0 [e.av]::j=hL∧tL 12=.int .i64 k∧k≤ks.length∧(ks.drop k).find? linkP=ks.find? linkP) ((fun(k:Nat) (j:Heap)=>(ks.length-k:Nat)) (0) ([])) ?_ ?_
 ·refine H3 ⟨0,[],rfl,aB,?_,by omega,rfl⟩;all_goals try exact zZz F
 rintro _ s2 h' ⟨k,j,rfl,rfl,e12,hk,hp⟩ K2 hK2;simp only[ao,aw,Nat.reduceEqDiff, ↓reduceIte]at e12;have F:=F2 F e12;by_cases c1:k<ks.length
 ·obtain⟨x,hx,hxm⟩:=am c1;have d1:=G4 c1;have hR:=ki G x bRel (hsz x hxm);have hH:=ki G x bHref (hsz x hxm);have hSh:=nq G (attrF x.attrs bHref).1;have hv:=mr x.attrs bHref;have hxs:=Elem.sz_eq x;have hx1:=hsz x hxm;rw[c9 hx,List.find?_cons]at hp;have hl:linkP x=((attrF x.attrs bHref).2&&(!(attrF x.attrs bRel).2||decide ((attrF x.attrs bRel).1=bAlt))):=rfl;have hyes:linkP x=true→(match ks.find? linkP with|some k=>shortF (attrF k.attrs bHref).1 512|none=>[])=shortF (attrF x.attrs bHref).1 512:=fun hy=>by
   rw[hy]at hp;rw[← hp]
  have hno:linkP x=false→(ks.drop (k+1)).find? linkP=ks.find? linkP:=fun hy=>by
   rw[hy]at hp;exact hp
  rw[hl]at hyes hno;clear hp hl;generalize attrF x.attrs bRel=ra at*;generalize attrF x.attrs bHref=ha at*;obtain⟨r1,r2⟩:=ra;obtain⟨a1,a2⟩:=ha;have h4:bHref.length=4:=rfl;have hvl:a2=true→a1.length+6≤1048576:=fun e=>by
   have:a1.length+bHref.length+1≤szs At.sz x.attrs:=hv e;omega
  have bA:bAlt=[97,108,116,101,114,110,97,116,101]:=rfl;cases a2 with
  |false=>
   have hno:=hno rfl;have F:=F3 F hx d1;(try refine sq F ?_);refine wk F ?_;refine kq F (hR _) ?_;refine kq F (hH _) ?_;refine hK2 _ _ _ (H3 ⟨k+1,j++[.row 35 4 0 [x.av]],rfl,by simp,?_,by omega,hno⟩) (by omega);all_goals try exact zZz F
  |true=>
   cases r2 with
   |false=>
    have hyes:=hyes rfl;have F:=F3 F hx d1;(try refine sq F ?_);refine wk F ?_;refine kq F (hR _) ?_;refine kq F (hH _) ?_;refine kq F (hSh (hvl rfl) _) ?_;refine ee hQ F ?_;exact H9 (.str _) ⟨by rw[hyes],rfl⟩
   |true=>
    by_cases hr:r1=bAlt
    ·have q:(r1==bAlt)=true:=(by simpa using hr);have hyes:=hyes (by simp[hr]);rw[bA]at q;have F:=F4 F hx d1 q;(try refine sq F ?_);refine wk F ?_;refine kq F (hR _) ?_;refine kq F (hH _) ?_;refine kq F (hSh (hvl rfl) _) ?_;refine ee hQ F ?_;exact H9 (.str _) ⟨by rw[hyes],rfl⟩
    ·have q:(r1==bAlt)=false:=(by simpa using hr);have hno:=hno (by simp[hr]);rw[bA]at q;have F:=F4 F hx d1 q;(try refine sq F ?_);refine wk F ?_;refine kq F (hR _) ?_;refine kq F (hH _) ?_;refine hK2 _ _ _ (H3 ⟨k+1,j++[.row 35 4 0 [x.av]],rfl,by simp,?_,by omega,hno⟩) (by omega);all_goals try exact zZz F
 ·have d1:=H2 c1;have hp:ks.find? linkP=none:=by
   rw[← hp,N3 (by omega)];rfl
  have F:=F2 F d1;try refine sq F ?_
  refine wk F ?_;refine ee hQ F ?_;exact H9 (.str _) ⟨by rw[hp],rfl⟩
end Go.Av
