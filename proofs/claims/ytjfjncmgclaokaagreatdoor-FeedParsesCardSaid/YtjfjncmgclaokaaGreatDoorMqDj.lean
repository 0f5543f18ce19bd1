/- Parts. -/
import Derived.Test.YtjfjncmgclaokaaGreatDoorMqDg
set_option linter.unusedSimpArgs false
set_option linter.unusedVariables false
set_option linter.unusedSectionVars false
set_option linter.unnecessarySimpa false
set_option maxRecDepth 100000
set_option maxHeartbeats 16000000
namespace Go.Av
open Go Go.Proofs Go.RowKit
attribute [local irreducible] WP WPl WPix Sat
variable (G:Nat→Option (List AVal))
theorem sE(g:FuncId){s w s':Bs}{b b':Bool}{n:Int}{H:Heap}{p:Nat}(hg:getRow H p 0=some (309,2,[.agg [.str s,.bool b]]))
  (hF:Sat (CT G) g [.hp H.length 0 0 0] (H++[dR w false]) (fun r h'=>r=.int .i64 n∧h'=H++[dR s' b'])):
  Sat (CT G) 329 [.hp p 0 0 0,.str w,.fn (.func g) [] []] H (fun r h'=>r=.int .i64 n∧h'=H.set p (dR s (b||(b'||decide (s'≠ []))))):=by
 have hp:=aw hg;have q:(s'==([]:Bs))=decide (s'=[]):=by rw[N8];simp
 have hx:decide (s'≠ [])= !decide (s'=[]):=by simp
 rw[hx];generalize decide (s'=[])=d at*;have hgo:∀l:Heap,getRow (H++l) p 0=some (309,2,[.agg [.str s,.bool b]]):=fun l=>by rw[bO _ hp];exact hg
 cases b<;>cases b'<;>cases d<;>(
  have F:=F4 hgo q hp @al;refine sb [.tmp 6] Tryz.func329 ?_;intro Q hQ;refine wk F ?_;refine kq F (hF) ?_;refine ee hQ F ?_;exact jL (fun _=>.int _ _))
theorem wd{s:Bs}{c:UInt8}{k:Nat}(hc:s[k]? =some c)(hd:digB c=false):num9 s= -1:=by
 unfold num9;split
 ·rfl
 ·rw[G0];intro h;rw[I1.1 h c (G4 hc)]at hd;cases hd
theorem aM(s:Bs)(hs:s.length≤1073741824)(h:Heap):Sat (CT G) 286 [.str s] h (fun r h'=>r=.int .i64 (num9 s)∧h'=h):=by
 by_cases c0:s.length<1
 ·have e:num9 s= -1:=by unfold num9;rw[G3 (.inl c0)]
  have q:decide ((s.length:Int)<1)=true:=by simp;omega
  have F:=q;refine sb [.tmp 2] Tryz.func286 ?_;intro Q hQ;refine wk F ?_;refine ee hQ F ?_;exact I8 (.int _ _) ⟨by rw[e],rfl⟩
 have q0:decide ((s.length:Int)<1)=false:=by simp;omega
 by_cases c9:s.length>9
 ·have e:num9 s= -1:=by unfold num9;rw[G3 (.inr c9)]
  have q:decide ((s.length:Int)>9)=true:=by simp;omega
  have F:=F2 q0 q;refine sb [.tmp 2] Tryz.func286 ?_;intro Q hQ;refine wk F ?_;refine ee hQ F ?_;exact I8 (.int _ _) ⟨by rw[e],rfl⟩
 have q9:decide ((s.length:Int)>9)=false:=by simp;omega
 have hp9:∀k,k≤s.length→(10:Int)^k≤1000000000:=fun k hk=>by
  have:(10:Nat)^k≤10^9:=Q8 (by omega) (by omega);have:((10^k:Nat):Int)≤((10^9:Nat):Int):=by omega
  simpa using this
 have F:=F2 q0 q9;refine sb [.tmp 2] Tryz.func286 ?_;intro Q hQ;refine wk F ?_;refine lm (fun nL tL hL=>∃(k:Nat) (m:Int),s.length-k=nL∧h=hL∧tL 3=.int .i64 m∧tL 4=.int .i64 k∧k≤s.length∧m=numA 0 (s.take k)∧(s.take k).all digB=true) ((fun(k:Nat) (m:Int)=>(s.length-k:Nat)) (0) (0)) ?_ ?_
 ·refine G9 ⟨0,0,rfl,ar,?_,?_,by omega,rfl,rfl⟩;all_goals try exact zZz F
 rintro _ s2 h' ⟨k,m,rfl,rfl,e3,e4,hk,hm,ha⟩ K2 hK2;simp only[ai,ak,Nat.reduceEqDiff, ↓reduceIte]at e3 e4;have F:=F3 F e3 e4;by_cases c1:k<s.length
 ·obtain⟨c,hc,_⟩:=ae c1;have d1:=G8 c1;have htk:=M2 (l:=s) (i:=k);rw[hc]at htk;have htk:s.take (k+1)=s.take k++[c]:=htk;have hbd:=iF _ ha;rw[I2,Nat.min_eq_left hk]at hbd;have h9:=hp9 k hk;cases hd:digB c with
  |true=>
   have hcc:=hd;simp only[digB,G2,H2]at hcc;have q1:decide ((c.toNat:Int)<48)=false:=(by simp;omega);have q2:decide ((c.toNat:Int)>57)=false:=(by simp;omega);have hn:=i8 (s.take k) 0 c;rw[← htk, ← hm]at hn;rw[← hm]at hbd;have hw8:IntKind.wrap .u8 ((c.toNat:Int)-48)=(c.toNat:Int)-48:=(by rw[wrap_u8];omega);have F:=F6 F q1 q2 hc d1 hw8;(try refine sq F ?_);refine wk F ?_;refine hK2 _ _ _ (G9 ⟨k+1,10*m+((c.toNat:Int)-48),rfl,ar,?_,?_,by omega,hn.symm,by rw[htk,List.all_append,ha];simp[hd]⟩) (by omega);all_goals try exact zZz F
  |false=>
   have e:=wd hc hd;by_cases q:(c.toNat:Int)<48
   ·have q1:=G8 q;have F:=F4 F q1 hc d1;(try refine sq F ?_);refine wk F ?_;refine ee hQ F ?_;exact I8 (.int _ _) ⟨by rw[e],rfl⟩
   ·have q1:=G7 q;have q2:decide ((c.toNat:Int)>57)=true:=by
     simp only[digB,U1,decide_eq_false_iff_not]at hd;simp;omega
    have F:=F5 F q1 q2 hc d1;(try refine sq F ?_);refine wk F ?_;refine ee hQ F ?_;exact I8 (.int _ _) ⟨by rw[e],rfl⟩
 ·have d1:=G7 c1;rw[H9 (by omega)]at hm ha;have e:num9 s=numA 0 s:=by rw[bK (by omega) (by omega),G3 ha]
  have F:=F2 F d1;try refine sq F ?_
  refine wk F ?_;refine ee hQ F ?_;exact I8 (.int _ _) ⟨by rw[e,hm],rfl⟩
theorem kD(s:Bs): -1≤num9 s∧num9 s≤1000000000:=by
 unfold num9;split
 ·omega
 ·rename_i hl;split
  ·rename_i ha;have h:=iF s ha;have:(10:Nat)^s.length≤10^9:=Q8 (by omega) (by omega);have h2:((10^s.length:Nat):Int)≤((10^9:Nat):Int):=(by omega);have h3:(10:Int)^s.length≤1000000000:=(by simpa using h2);omega
  ·omega
theorem cV{sg:UInt8}{a b:Bs}(h:(sg≠43∧sg≠45)∨a.length≠2∨b.length≠2∨num9 a<0∨23<num9 a∨num9 b<0∨59<num9 b):zoneR sg a b=none:=by unfold zoneR;rw[G3 h]
theorem ic(sg:UInt8)(a b:Bs)(ha:a.length≤1073741824)(hb:b.length≤1073741824)(h:Heap):Sat (CT G) 288 [.int .u8 sg.toNat,.str a,.str b] h (fun r h'=>r=.tup [.int .i64 ((zoneR sg a b).getD 0),.bool (zoneR sg a b).isSome]∧h'=h):=by
 have hA:=aM G a ha;have hB:=aM G b hb;have b1:=kD a;have b2:=kD b;have sk:∀k:Nat,k<256→(((sg.toNat:Int)=(k:Nat))↔sg=UInt8.ofNat k):=fun k hk=>by
  constructor
  ·intro h;apply N1.1;simp;omega
  ·intro h;rw[h];simp;omega
 by_cases c1:sg≠43∧sg≠45
 ·have q1:((sg.toNat:Int) !=43)=true:=by simpa using fun e=>c1.1 ((sk 43 (by omega)).1 e)
  have q2:((sg.toNat:Int) !=45)=true:=by simpa using fun e=>c1.2 ((sk 45 (by omega)).1 e)
  rw[cV (.inl c1)];have F:=F2 q1 q2;refine sb [.tmp 6,.tmp 7] Tryz.func288 ?_;intro Q hQ;refine wk F ?_;refine kq F (hA _) ?_;refine kq F (hB _) ?_;refine ee hQ F ?_;exact I8 (ao _ _ _) ⟨rfl,rfl⟩
 have hsg:((((sg.toNat:Int) !=43)=false)∧((sg.toNat:Int)==45)=false∧¬sg=45)∨((((sg.toNat:Int) !=43)=true∧((sg.toNat:Int) !=45)=false)∧((sg.toNat:Int)==45)=true∧sg=45):=by
  by_cases e:sg=43
  ·left;rw[e];exact⟨rfl,rfl,by decide⟩
  ·right;have e2:sg=45:=J8 fun k=>c1 ⟨e,k⟩
   rw[e2];exact⟨⟨rfl,rfl⟩,rfl,rfl⟩
 obtain⟨q1,q45,hs⟩| ⟨q1,q45,hs⟩:=hsg;all_goals (
  by_cases c2:a.length=2
  rotate_left
  ·have q:((a.length:Int) !=2)=true:=(by simp;omega);rw[cV (.inr (.inl c2))];have F:=F2 q1 q;refine sb [.tmp 6,.tmp 7] Tryz.func288 ?_;intro Q hQ;refine wk F ?_;refine kq F (hA _) ?_;refine kq F (hB _) ?_;refine ee hQ F ?_;exact I8 (ao _ _ _) ⟨rfl,rfl⟩
  have q2:((a.length:Int) !=2)=false:=by simp;omega
  by_cases c3:b.length=2
  rotate_left
  ·have q:((b.length:Int) !=2)=true:=(by simp;omega);rw[cV (.inr (.inr (.inl c3)))];have F:=F3 q1 q2 q;refine sb [.tmp 6,.tmp 7] Tryz.func288 ?_;intro Q hQ;refine wk F ?_;refine kq F (hA _) ?_;refine kq F (hB _) ?_;refine ee hQ F ?_;exact I8 (ao _ _ _) ⟨rfl,rfl⟩
  have q3:((b.length:Int) !=2)=false:=by simp;omega
  by_cases c4:num9 a<0
  ·have q:=G8 c4;rw[cV (.inr (.inr (.inr (.inl c4))))];have F:=F4 q1 q2 q3 q;refine sb [.tmp 6,.tmp 7] Tryz.func288 ?_;intro Q hQ;refine wk F ?_;refine kq F (hA _) ?_;refine kq F (hB _) ?_;refine ee hQ F ?_;exact I8 (ao _ _ _) ⟨rfl,rfl⟩
  have q4:=G7 c4;by_cases c5:num9 a>23
  ·have q:=G8 c5;rw[cV (.inr (.inr (.inr (.inr (.inl c5)))))];have F:=F5 q1 q2 q3 q4 q;refine sb [.tmp 6,.tmp 7] Tryz.func288 ?_;intro Q hQ;refine wk F ?_;refine kq F (hA _) ?_;refine kq F (hB _) ?_;refine ee hQ F ?_;exact I8 (ao _ _ _) ⟨rfl,rfl⟩
  have q5:=G7 c5;by_cases c6:num9 b<0
  ·have q:=G8 c6;rw[cV (.inr (.inr (.inr (.inr (.inr (.inl c6))))))];have F:=F6 q1 q2 q3 q4 q5 q;refine sb [.tmp 6,.tmp 7] Tryz.func288 ?_;intro Q hQ;refine wk F ?_;refine kq F (hA _) ?_;refine kq F (hB _) ?_;refine ee hQ F ?_;exact I8 (ao _ _ _) ⟨rfl,rfl⟩
  have q6:=G7 c6;by_cases c7:num9 b>59
  ·have q:=G8 c7;rw[cV (.inr (.inr (.inr (.inr (.inr (.inr c7))))))];have F:=F7 q1 q2 q3 q4 q5 q6 q;refine sb [.tmp 6,.tmp 7] Tryz.func288 ?_;intro Q hQ;refine wk F ?_;refine kq F (hA _) ?_;refine kq F (hB _) ?_;refine ee hQ F ?_;exact I8 (ao _ _ _) ⟨rfl,rfl⟩
  have q7:=G7 c7;have hz:zoneR sg a b=some (if sg=45 then -(3600*num9 a+60*num9 b)else 3600*num9 a+60*num9 b):=by
   unfold zoneR;rw[G0 (by rintro(k|k|k|k|k|k|k);exact c1 k;all_goals omega)]
  rw[hz];have F:=F8 q1 q2 q3 q4 q5 q6 q7 q45;refine sb [.tmp 6,.tmp 7] Tryz.func288 ?_;intro Q hQ;refine wk F ?_;refine kq F (hA _) ?_;refine kq F (hB _) ?_;refine ee hQ F ?_;exact I8 (ao _ _ _) ⟨by simp[hs],rfl⟩)
theorem ja{sg:UInt8}{a b:Bs}{z:Int}(h:zoneR sg a b=some z): -400000≤z∧z≤400000:=by
 unfold zoneR at h;split at h
 ·cases h
 ·rename_i hn;have h1:¬num9 a<0:=fun k=>hn (by simp[k])
  have h2:¬23<num9 a:=fun k=>hn (by simp[k])
  have h3:¬num9 b<0:=fun k=>hn (by simp[k])
  have h4:¬59<num9 b:=fun k=>hn (by simp[k])
  simp only[I0]at h;split at h<;>omega
theorem fO(b:UInt8):∀(s:Bs),∀x∈splF b s,x.length≤s.length
 | [],x,hx=>by rw[splF,M4]at hx;rw[hx];exact H5 _
 |c::s,x,hx=>by
  have ih:=fO b s;rw[splF]at hx;split at hx
  ·rcases J6.1 hx with rfl|hx
   ·simp
   ·have:=ih x hx;simp;omega
  ·split at hx
   ·rw[M4]at hx;rw[hx];simp
   ·rename_i w l e;rw[e]at ih;rcases J6.1 hx with rfl|hx
    ·have:=ih w (by simp);simp;omega
    ·have:=ih x (by simp[hx]);simp;omega
theorem sF(l:List Bs)(s:Bs): -1≤ixS l s∧ixS l s≤l.length:=by
 unfold ixS;split
 ·rename_i i e;obtain⟨h1,_⟩:=N7.1 e;omega
 ·omega
theorem wf{l:List Bs}{s:Bs}(h:s∈l):∃i:Nat,ixS l s=(i:Int):=by
 unfold ixS;split
 ·rename_i i e;exact⟨i,rfl⟩
 ·rename_i e;rw[R3]at e;exact absurd (e s h) (by simp)
theorem aU{w:List Bs}{k:Nat}(h:k<w.length):w[k]? =some (w.getD k []):=by
 rw[L9,G1 h];rfl
theorem jM{P:Program}{h:Heap}{T e n i:Nat}{es:List AVal}{k:IntKind}(he:elmT P T=some e)(hn:szOf P e=some n)(hi:i≤es.length):aslice P h T (.sl n es) (some (.int k (i:Int))) none none=some (.sl n (es.drop i)):=by
 simp only[aslice,he,hn,optInt,Option.isNone_none,if_true];rw[G3 ⟨by omega,by omega,by omega⟩];simp
theorem na(b:UInt8):∀s:Bs,(splF b s).length≤s.length+1
 | []=>by simp[splF]
 |c::s=>by
  have ih:=na b s;rw[splF];split
  ·simp;omega
  ·split
   ·simp
   ·rename_i w l e;rw[e]at ih;simp at ih ⊢;omega
theorem xD{l:List Bs}{s:Bs}{i:Nat}(hn:∀x∈l.take i,x≠s)(hx:l[i]? =some s):ixS l s=i:=by
 obtain⟨hlt,he⟩:=F1.1 hx;have:l.findIdx? (fun x=>decide (x=s))=some i:=by
  rw[N7];refine⟨hlt,by simpa using he,fun j hj=>?_⟩;have:=hn (l[j]'(by omega)) (List.mem_take_iff_getElem.2 ⟨j,by omega,rfl⟩);simpa using this
 unfold ixS;rw[this]
theorem jN{l:List Bs}{s:Bs}(hn:∀x∈l,x≠s):ixS l s= -1:=by
 have:l.findIdx? (fun x=>decide (x=s))=none:=by
  rw[R3];intro x hx;simpa using hn x hx
 unfold ixS;rw[this]
theorem eI(l:List Bs)(s:Bs)(hl:l.length≤1048576)(h:Heap):Sat (CT G) 311 [.sl 1 (l.map .str),.str s] h (fun r h'=>r=.int .i64 (ixS l s)∧h'=h):=by
 have ml:(l.map AVal.str).length=l.length:=I9 ..;have F:=ml;refine sb [.tmp 4] Tryz.func311 ?_;intro Q hQ;refine wk F ?_;refine lm (fun nL tL hL=>∃(i:Nat),l.length-i=nL∧h=hL∧tL 5=.int .i64 i∧i≤l.length∧(∀x∈l.take i,x≠s)) ((fun(i:Nat)=>(l.length-i:Nat)) (0)) ?_ ?_
 ·refine G9 ⟨0,rfl,ar,?_,by omega,by simp⟩;all_goals try exact zZz F
 rintro _ s2 h' ⟨i,rfl,rfl,e5,hi,hn⟩ K2 hK2;simp only[ai,ak,Nat.reduceEqDiff, ↓reduceIte]at e5;have F:=F2 F e5;by_cases c1:i<l.length
 ·obtain⟨x,hx,_⟩:=ae c1;have d1:=G8 c1;by_cases e:x=s
  ·have q:(x==s)=true:=(by simpa using e);rw[e]at hx;have q:(s==s)=true:=(by simp);have F:=F4 F hx d1 q;(try refine sq F ?_);refine wk F ?_;refine ee hQ F ?_;exact I8 (.int _ _) ⟨by rw[xD hn hx],rfl⟩
  ·have q:(x==s)=false:=(by simpa using e);have hn':∀y∈l.take (i+1),y≠s:=fun y hy=>by
    rw[M2,hx]at hy;rcases R6.1 hy with hy|hy
    ·exact hn y hy
    ·have:y=x:=by simpa using hy
     rw[this];exact e
   have F:=F4 F hx d1 q;(try refine sq F ?_);refine wk F ?_;refine hK2 _ _ _ (G9 ⟨i+1,rfl,ar,?_,by omega,hn'⟩) (by omega);all_goals try exact zZz F
 ·have d1:=G7 c1;rw[H9 (by omega)]at hn;have F:=F2 F d1;try refine sq F ?_
  refine wk F ?_;refine ee hQ F ?_;exact I8 (.int _ _) ⟨by rw[jN hn],rfl⟩
theorem uO{h0 Z:Heap}{q v e:Nat}(l:List Bs)(hq:h0.length≤q)(hg:getRow Z q v=some (e,1,l.map AVal.str)):Frz Z h0.length (.hs q v 0 l.length true) (.sl 1 (l.map AVal.str)):=
 Frz.data hq hg (by simp) (fun r hr=>by obtain⟨x,_,rfl⟩:=J9.1 hr;exact .str _) (fun r hr=>by obtain⟨x,_,rfl⟩:=J9.1 hr;intro c hc;simp[AVal.cells]at hc;subst hc;rfl)
theorem sG{s:Bs}{b c:UInt8}{i f:Nat}(hf:f≤i)(hc:s[i]? =some c)(hp:∀c∈ (s.take i).drop f,c≠b)(e:c=b):splF b (s.drop f)=(s.take i).drop f::splF b (s.drop (i+1)):=by
 obtain⟨hlt,he⟩:=F1.1 hc;have h1:s.drop f=(s.take i).drop f++s.drop i:=by
  conv=>lhs;rw[← R5 i s]
  rw[List.drop_append_of_le_length (by rw[I2];omega)]
 rw[h1,P9 hlt,he,e,eY b _ _ hp]
theorem gB(s:Bs)(b:UInt8)(hs:s.length≤1048576)(h:Heap):Sat (CT G) 310 [.str s,.int .u8 b.toNat] h (fun r h'=>r=.sl 1 ((splF b s).map .str)∧h'=h):=by
 have dt:∀i:Decidable True, @decide True i=true:=fun i=>by simp
 have F:=F2 hs dt;refine sb [.tmp 4] Tryz.func310 ?_;intro Q hQ;refine wk F ?_;refine lm (fun nL tL hL=>∃(i f v:Nat) (out:List Bs) (j:Heap),s.length+1-i=nL∧h++(.row 9 1 v (out.map AVal.str)::j)=hL∧tL 5=.hs h.length v 0 out.length true∧tL 6=.int .i64 f∧tL 7=.int .i64 i∧i≤s.length+1∧f≤i∧out.length≤i∧((i≤s.length∧splF b s=out++splF b (s.drop f)∧∀c∈ (s.take i).drop f,c≠b)∨(i=s.length+1∧out=splF b s))) ((fun(i f v:Nat) (out:List Bs) (j:Heap)=>(s.length+1-i:Nat)) (0) (0) (0) ([]) ([])) ?_ ?_
 ·refine⟨_,_,V4 5 9 1 (by simp) (by omega) (by exact zq F),⟨0,0,0,[],[],rfl,ar,?_,?_,?_,by omega,by omega,by simp,.inl ⟨by omega,by simp,by simp⟩⟩⟩;all_goals try exact zZz F
 rintro _ s2 h' ⟨i,f,v,out,j,rfl,rfl,e5,e6,e7,hi,hf,hol,ho⟩ K2 hK2;simp only[ai,ak,Nat.reduceEqDiff, ↓reduceIte]at e5 e6 e7;have F:=F4 F e5 e6 e7;have mo:(out.map AVal.str).length=out.length:=I9 ..;rcases ho with⟨hle,ho,hp⟩| ⟨hle,ho⟩
 ·have d1:=G8 hle;by_cases c1:i=s.length
  ·have hb:splF b s=out++[(s.take i).drop f]:=by
    have:(s.take i).drop f=s.drop f:=by rw[H9 (by omega)]
    rw[this]at hp ⊢;rw[ho,gr b _ hp]
   have q:((i:Int)==(s.length:Int))=true:=(by simp[c1]);have hfi:f≤s.length:=(by omega);have F:=F8 F d1 q mo hf hle hfi @al;(try refine sq F ?_);refine wk F ?_;refine aq F ?_;(try refine sq F ?_);refine wk F ?_;refine hK2 _ _ _ (G9 ⟨i+1,i+1,v+1,out++[(s.take i).drop f],j,rfl,by simp,?_,?_,?_,by omega,by omega,by simp;omega,.inr ⟨by omega,hb.symm⟩⟩) (by omega);all_goals try exact zZz F
  ·have hlt:i<s.length:=(by omega);obtain⟨c,hc,_⟩:=ae hlt;have q:((i:Int)==(s.length:Int))=false:=(by simp;omega);by_cases e:c=b
   ·have qe:((c.toNat:Int)==(b.toNat:Int))=true:=(by simp[e]);have hb:=sG hf hc hp e;rw[hb]at ho;have F:=xg F d1 q qe hc mo hf hle hlt @al;(try refine sq F ?_);refine wk F ?_;refine aq F ?_;(try refine sq F ?_);refine wk F ?_;refine hK2 _ _ _ (G9 ⟨i+1,i+1,v+1,out++[(s.take i).drop f],j,rfl,by simp,?_,?_,?_,by omega,by omega,by simp;omega,.inl ⟨by omega,by rw[ho];simp,by rw[M0 (by rw[I2];omega)];simp⟩⟩) (by omega);all_goals try exact zZz F
   ·have qe:((c.toNat:Int)==(b.toNat:Int))=false:=by
     have:¬c.toNat=b.toNat:=fun k=>e (N1.1 k)
     simp;omega
    have hp':∀x∈ (s.take (i+1)).drop f,x≠b:=fun x hx=>by
     rw[M2,hc,List.drop_append_of_le_length (by rw[I2];omega)]at hx;rcases R6.1 hx with hx|hx
     ·exact hp x hx
     ·have:x=c:=by simpa using hx
      rw[this];exact e
    have F:=xg F d1 q qe hc mo hf hle hlt @al;(try refine sq F ?_);refine wk F ?_;refine hK2 _ _ _ (G9 ⟨i+1,f,v,out,j,rfl,rfl,?_,?_,?_,by omega,by omega,by omega,.inl ⟨by omega,ho,hp'⟩⟩) (by omega);all_goals try exact zZz F
 ·have d1:decide (i≤s.length)=false:=G7 (by omega);have F:=F3 F d1 mo;try refine sq F ?_
  refine wk F ?_;refine ee hQ F ?_;rw[← ho];exact P3 (uO (e:=9) out (by omega) (by rw[bL _ rfl];show(if v=v then _ else _)=_;rw[G3 rfl])) ⟨rfl,rfl⟩
theorem sH:∀i,i<12→([AVal.int .i64 0,.int .i64 0,.int .i64 0,.int .i64 0,.int .i64 (-5),.int .i64 (-4),.int .i64 (-6),.int .i64 (-5),.int .i64 (-7),.int .i64 (-6),.int .i64 (-8),.int .i64 (-7)]:List AVal)[i]? =some (.int .i64 (hrsL.getD i 0))∧ -8≤hrsL.getD i 0∧hrsL.getD i 0≤0:=by
 intro i hi;have:i=0∨i=1∨i=2∨i=3∨i=4∨i=5∨i=6∨i=7∨i=8∨i=9∨i=10∨i=11:=by omega
 rcases this with rfl|rfl|rfl|rfl|rfl|rfl|rfl|rfl|rfl|rfl|rfl|rfl<;>exact⟨rfl,by decide,by decide⟩
theorem jO(s:Bs)(hs:s.length≤1048576)(h:Heap):Sat (CT G) 312 [.str s] h (fun r h'=>r=.tup [.int .i64 ((zonR s).getD 0),.bool (zonR s).isSome]∧h'=h):=by
 have hI:∀h,Sat (CT G) 311 [.sl 1 [.str [71,77,84],.str [85,84],.str [85,84,67],.str [90],.str [69,83,84],.str [69,68,84],.str [67,83,84],.str [67,68,84],.str [77,83,84],.str [77,68,84],.str [80,83,84],.str [80,68,84]],.str s] h (fun r h'=>r=.int .i64 (ixS zonL s)∧h'=h):=eI G zonL s (by decide);cases hf:zonL.findIdx? (fun x=>decide (x=s))with
 |some i=>
  have e:ixS zonL s=i:=by unfold ixS;rw[hf]
  have hi:i<12:=by
   obtain⟨h1,_⟩:=N7.1 hf;exact h1
  obtain⟨g,b1,b2⟩:=sH i hi;have ez:zonR s=some (3600*hrsL.getD i 0):=by unfold zonR namF;rw[hf]
  have dt:∀i:Decidable True, @decide True i=true:=fun i=>by simp
  have df:∀i:Decidable False, @decide False i=false:=fun i=>by simp
  rw[e]at hI;rw[ez];generalize hrsL.getD i 0=u at*;have F:=F4 g dt df hi;refine sb [.tmp 2,.tmp 3] Tryz.func312 ?_;intro Q hQ;refine wk F ?_;refine kq F (hI _) ?_;refine ee hQ F ?_;exact I8 (ao _ _ _) ⟨rfl,rfl⟩
 |none=>
  have e:ixS zonL s= -1:=by unfold ixS;rw[hf]
  have ez:zonR s=if s.length≠5 then none else zoneR (s.getD 0 0) ((s.drop 1).take 2) (s.drop 3):=by unfold zonR namF;rw[hf]
  have dt:∀i:Decidable True, @decide True i=true:=fun i=>by simp
  have df:∀i:Decidable False, @decide False i=false:=fun i=>by simp
  rw[e]at hI;by_cases l5:s.length=5
  ·have q5:((s.length:Int) !=5)=false:=(by rw[l5];rfl);rw[G0 (fun n=>n l5)]at ez;have j0:s[0]? =some (s.getD 0 0):=(by rw[L9,G1 (by omega)];rfl);have d13:(s.take 3).drop 1=(s.drop 1).take 2:=(by rw[P8]);have m3:3≤s.length:=(by omega);have m0:0<s.length:=(by omega);have hZ:=ic G (s.getD 0 0) ((s.drop 1).take 2) (s.drop 3) (by simp;omega) (by simp;omega);rw[← ez]at hZ;have F:=F7 dt df q5 j0 d13 m3 m0;refine sb [.tmp 2,.tmp 3] Tryz.func312 ?_;intro Q hQ;refine wk F ?_;refine kq F (hI _) ?_;refine aa (hZ _) ?_;(try refine sq F ?_);refine wk F ?_;refine ee hQ F ?_;exact I8 (ao _ _ _) ⟨rfl,rfl⟩
  ·have q5:((s.length:Int) !=5)=true:=(by simp only[bne_iff_ne,ne_eq];omega);rw[G3 l5]at ez;rw[ez];have F:=F3 dt df q5;refine sb [.tmp 2,.tmp 3] Tryz.func312 ?_;intro Q hQ;refine wk F ?_;refine kq F (hI _) ?_;refine ee hQ F ?_;exact I8 (ao _ _ _) ⟨rfl,rfl⟩
theorem p7{s:Bs}{z:Int}(h:zonR s=some z): -400000≤z∧z≤400000:=by
 unfold zonR at h;cases hn:namF s with
 |some u=>
  rw[hn]at h;obtain rfl:u=z:=by simpa using h
  unfold namF at hn;cases hf:zonL.findIdx? (fun x=>decide (x=s))with
  |none=>rw[hf]at hn;cases hn
  |some i=>
   rw[hf]at hn;obtain⟨h1,_⟩:=N7.1 hf;obtain⟨_,b1,b2⟩:=sH i h1;have:3600*hrsL.getD i 0=u:=by simpa using hn
   omega
 |none=>
  rw[hn]at h;by_cases l5:s.length≠5
  ·have:(if s.length≠5 then none else zoneR (s.getD 0 0) ((s.drop 1).take 2) (s.drop 3))=some z:=h;rw[G3 l5]at this;cases this
  ·have:(if s.length≠5 then none else zoneR (s.getD 0 0) ((s.drop 1).take 2) (s.drop 3))=some z:=h;rw[G0 l5]at this;exact ja this
theorem iU(b:UInt8):∀s:Bs,Lib.splitK [b] 0 (Lib.count s [b]) s=splF b s
 | []=>by
  have:Lib.count ([]:Bs) [b]=0:=Lib.count_miss (by simp[Lib.index]);rw[this];rfl
 |c::s=>by
  have ih:=iU b s;unfold splF;by_cases h:c=b
  ·subst h;have hix:Lib.index (c::s) [c]=((0:Nat):Int):=(by rw[Lib.index];simp[List.isPrefixOf]);have hne:¬(Lib.index (c::s) [c]== -1)=true:=(by rw[hix];decide);rw[G3 rfl,Lib.count_cons_eq,Nat.add_comm,Lib.splitK,G0 hne,hix, ← ih];rfl
  ·rw[G0 h,Lib.count_cons_ne c b s h, ← ih];have hp:([b]:Bs).isPrefixOf (c::s)=false:=(by simp[List.isPrefixOf,Ne.symm h]);have hix:Lib.index (c::s) [b]=if Lib.index s [b]== -1 then-1 else Lib.index s [b]+1:=by rw[Lib.index,hp];simp
   by_cases hm:Lib.index s [b]= -1
   ·rw[Lib.count_miss hm];rfl
   ·have hge:=Lib.index_ge s [b];obtain⟨j,hj⟩:∃j:Nat,Lib.index s [b]=j:=⟨(Lib.index s [b]).toNat,by omega⟩;have hn1:¬(Lib.index s [b]== -1)=true:=fun e=>hm (beq_iff_eq.1 e)
    have hn2:¬(Lib.index (c::s) [b]== -1)=true:=(by rw[hix,G0 hn1,hj];simp;omega);rw[Lib.count_hit (by simp) hj,Nat.add_comm,Lib.splitK,G0 hn2,Lib.splitK,G0 hn1,hix,G0 hn1,hj];have e1:((j:Int)+1).toNat=j+1:=(by omega);rw[e1];simp[Nat.add_right_comm]
theorem Sat.of_callsD{C:Ctx}{h:Heap}{f:FuncId}{fn:Func}{args:List AVal}{vs:List Value}{R:AVal→Heap→Prop}(hf:C.P.funcs[f]? =some fn)(hb:fn.body.isNone=false)(hname:(fn.name== "runtime.NumGoroutine")=false)
  (ha:plainL args=some vs)(hc:∀B S μ w,Fits C B S μ h w→Calls C.P f vs.toArray w fun e w'=>∃v,e=.returned v∧OpPost C B S μ w R v w'):Sat C f args h R:=by
 unfold Sat;intro B S μ w us fit rl;obtain rfl:=fZ ha rl;have e:(callFunc f us.toArray).run C.P w=.ok (.enter f us.toArray) w:=by
  have hne:fn.name≠ "runtime.NumGoroutine" :=by simpa using hname
  obtain⟨c,hbc⟩:∃c,fn.body=some c:=by cases hq:fn.body with|none=>simp[hq]at hb|some c=>exact⟨c,rfl⟩
  simp[callFunc,hf,hne,hbc]
 rw[e];exact hc B S μ w fit
theorem sI{C:Ctx}{B:Nat}{S:Addr→Prop}{μ:Map}{h:Heap}{w:World}(f:Fits C B S μ h w)(l:List Bs)(h0:l≠ [])(hm:l.length≤maxLen)(T:TypeId):
  ∃S',Step B S μ w S' μ (w.alloc (.cells ((l.map fun s=>Value.string ⟨s.toArray⟩).toArray) T))∧Fits C B S' μ h (w.alloc (.cells ((l.map fun s=>Value.string ⟨s.toArray⟩).toArray) T))∧
   Rep (w.alloc (.cells ((l.map fun s=>Value.string ⟨s.toArray⟩).toArray) T)) S' μ (.sl 1 (l.map .str)) (.slice (some ⟨w.heap.size,0,none⟩) l.length l.length):=by
 have hB:Below w.heap.size w (w.alloc (.cells ((l.map fun s=>Value.string ⟨s.toArray⟩).toArray) T)):=Below.alloc (U5 _ _) (H5 _) _;have hk:∀k,k<w.heap.size→(w.alloc (.cells ((l.map fun s=>Value.string ⟨s.toArray⟩).toArray) T)).heap[k]? =w.heap[k]? :=fun k hk=>hB.block k hk
 have hsz:(w.alloc (.cells ((l.map fun s=>Value.string ⟨s.toArray⟩).toArray) T)).heap.size=w.heap.size+1:=Array.size_push ..;have st:Step B S μ w (fun a=>S a∨a.block=w.heap.size) μ (w.alloc (.cells ((l.map fun s=>Value.string ⟨s.toArray⟩).toArray) T)):=
  ⟨fun _ ha=>.inl ha,fun a ha=>World.cell?_of_block (hk _ (f.lie a ha)),hB.mono f.base,MapLe.refl _,fun a ha=>ha.elim .inl fun e=>.inr (e▸f.base)⟩
 refine⟨_,st,⟨fun g cs hg=>(f.glob g cs hg).mono st,f.len,f.sep,fun p m b h1 e1=>?_,by rw[hsz];have:=f.base;omega,fun a ha=>?_,fun p m k h1 h2=>(f.blk p m k h1 h2).mono st fun q hq=>hk q (f.own p m q h1 hq).2.1⟩,?_⟩
 ·obtain⟨a1,a2,a3⟩:=f.own p m b h1 e1;refine⟨a1,by rw[hsz];omega,fun a ha=>ha.elim (a3 a) fun e=>by rw[e];omega⟩
 ·rw[hsz];rcases ha with ha|ha
  ·have:=f.lie a ha;omega
  ·rw[ha];omega
 ·have hl:(l.map AVal.str).length=l.length:=I9 ..;have hg:∀(i:Nat) (e:AVal),(l.map AVal.str)[i]? =some e→∃s,l[i]? =some s∧e=.str s:=fun i e he=>by
   rw[L4]at he;cases hs:l[i]? with
   |none=>rw[hs]at he;cases he
   |some s=>rw[hs]at he;exact⟨s,rfl,by cases he;rfl⟩
  have:=Rep.sl (w:=w.alloc (.cells ((l.map fun s=>Value.string ⟨s.toArray⟩).toArray) T)) (S:=fun a=>S a∨a.block=w.heap.size) (μ:=μ) 1 (l.map .str) w.heap.size 0 l.length (fun i _=>.string ⟨(l.getD i []).toArray⟩) (by simpa using h0) (by rw[hl];exact H5 _) hm
   (fun i e he=>by obtain⟨s,_,rfl⟩:=hg i e he;rfl)
   (fun i e j c he hj=>by
    obtain⟨s,hs,rfl⟩:=hg i e he;have hj0:j=0:=by
     have:=(F1.1 hj).1;simp[AVal.cells]at this;exact this
    subst hj0;cases hj;refine⟨.inr rfl,?_,rfl⟩;rw[World.cell?_alloc_mark];simp[hs])
   (fun i e j c he hj=>by
    obtain⟨s,hs,rfl⟩:=hg i e he;have hj0:j=0:=by
     have:=(F1.1 hj).1;simp[AVal.cells]at this;exact this
    subst hj0;cases hj;simp only[L9,hs];exact .str _)
  rw[hl]at this;exact this
theorem sJ(hG:GOk G)(s:Bs)(b:UInt8)(hs:s.length≤8388608)(h:Heap):Sat (CT G) 327 [.str s,.str [b]] h (fun r h'=>r=.sl 1 ((splF b s).map .str)∧h'=h):=by
 refine Sat.of_callsD (fn:=Tryz.f327) Tryz.func327 (by kernel_rfl) (by kernel_rfl) rfl fun B S μ w f=>?_
 obtain⟨m,hm⟩:=hG.cell f;refine(Tryz.strings_Split ⟨s.toArray⟩ ⟨#[b]⟩ m w (by rw[ir];omega) hm (H5 1)).mono fun e w' ⟨h1,h2⟩=>?_
 have hd:(Lib.splitB ⟨#[b]⟩ 0 (Lib.countB ⟨s.toArray⟩ ⟨#[b]⟩) ⟨s.toArray⟩).map (·.data.toList)=splF b s:=by
  rw[Lib.splitB_data];exact iU b s
 have hl:=Lib.splitB_all ⟨#[b]⟩ (H5 1) 0 _ (⟨s.toArray⟩:ByteArray) rfl;have hv:(Lib.splitB ⟨#[b]⟩ 0 (Lib.countB ⟨s.toArray⟩ ⟨#[b]⟩) ⟨s.toArray⟩).map Value.string=(splF b s).map fun s=>Value.string ⟨s.toArray⟩:=by
  rw[← hd,List.map_map];exact U6 fun x _=>by simp
 have hc:Lib.countB (⟨s.toArray⟩:ByteArray) ⟨#[b]⟩+1=(splF b s).length:=by rw[← hl, ← hd,I9]
 rw[hv]at h2;rw[hc]at h1;have hsl:=na b s;obtain⟨S',st,f',r⟩:=sI f (splF b s) (oN b s) (by unfold maxLen;omega) 9;rw[← h2]at st f' r;exact⟨_,h1,_,h,S',μ,⟨rfl,rfl⟩,st,f',r⟩
theorem sK(hG:GOk G)(s p:Bs)(hs:s.length≤1073741824)(h:Heap):
  Sat (CT G) 267 [.str s,.str p] h (fun r h'=>r=.int .i64 (Lib.index s p)∧h'=h):=by
 refine Sat.of_calls (fn:=Tryz.f267) Tryz.func267 (by kernel_rfl) (by kernel_rfl) rfl rfl fun B S μ w f=>?_
 obtain⟨m,hm⟩:=hG.cell f;refine(Tryz.strings_Index ⟨s.toArray⟩ ⟨p.toArray⟩ m w (by rw[ir];omega) hm).mono fun e w' ⟨h1,h2⟩=>⟨h1,cf h2⟩
def monB:Bs:=monL.flatten
theorem uP(w:Bs)(h3:w.length=3):(∃i:Nat,i<12∧Lib.index monB w=3*(i:Nat)∧ixS monL w=i)∨(ixS monL w= -1∧(Lib.index monB w<0∨(0≤Lib.index monB w∧Lib.index monB w<36∧Lib.index monB w%3≠0))):=by
 by_cases hm:w∈monL
 ·left;have:w=[74,97,110]∨w=[70,101,98]∨w=[77,97,114]∨w=[65,112,114]∨w=[77,97,121]∨w=[74,117,110]∨w=[74,117,108]∨w=[65,117,103]∨w=[83,101,112]∨w=[79,99,116]∨w=[78,111,118]∨w=[68,101,99]:=by simpa [monL]using hm
  rcases this with rfl|rfl|rfl|rfl|rfl|rfl|rfl|rfl|rfl|rfl|rfl|rfl
  ·exact⟨0,by decide,by decide,by decide⟩
  ·exact⟨1,by decide,by decide,by decide⟩
  ·exact⟨2,by decide,by decide,by decide⟩
  ·exact⟨3,by decide,by decide,by decide⟩
  ·exact⟨4,by decide,by decide,by decide⟩
  ·exact⟨5,by decide,by decide,by decide⟩
  ·exact⟨6,by decide,by decide,by decide⟩
  ·exact⟨7,by decide,by decide,by decide⟩
  ·exact⟨8,by decide,by decide,by decide⟩
  ·exact⟨9,by decide,by decide,by decide⟩
  ·exact⟨10,by decide,by decide,by decide⟩
  ·exact⟨11,by decide,by decide,by decide⟩
 ·right;refine⟨jN (fun x hx e=>hm (e▸hx)),?_⟩;rcases Lib.index_spec monB w with⟨h,_⟩| ⟨i,h,hi,ho,_⟩
  ·left;rw[h];decide
  ·right;rw[h];have hr:=Lib.occAt_room ho;have hb:monB.length=36:=(by decide);have hi:i+3≤36:=by
    rcases hr with hr|hr
    ·omega
    ·rw[hr]at h3;cases h3
   refine⟨by omega,by omega,fun hmod=>hm ?_⟩;obtain⟨k,rfl⟩:∃k,i=3*k:=⟨i/3,by omega⟩;have hk:k<12:=(by omega);rw[Lib.occAt_iff_take monB w (3*k) (by omega),h3]at ho;have ho:(monB.drop (3*k)).take 3=w:=(by simpa using ho);rw[← ho];have:k=0∨k=1∨k=2∨k=3∨k=4∨k=5∨k=6∨k=7∨k=8∨k=9∨k=10∨k=11:=by omega
   rcases this with rfl|rfl|rfl|rfl|rfl|rfl|rfl|rfl|rfl|rfl|rfl|rfl<;>decide
theorem wg{w:Bs}(h:w.length≠3):ixS monL w= -1:=jN fun x hx e=>h (by
 have:∀x∈monL,x.length=3:=by decide
 rw[← e];exact this x hx)
theorem qz(hG:GOk G)(w:Bs)(h:Heap):Sat (CT G) 331 [.str w] h (fun r h'=>r=.int .i64 (ixS monL w+1)∧h'=h):=by
 have hI:∀h,Sat (CT G) 267 [.str [74,97,110,70,101,98,77,97,114,65,112,114,77,97,121,74,117,110,74,117,108,65,117,103,83,101,112,79,99,116,78,111,118,68,101,99],.str w] h (fun r h'=>r=.int .i64 (Lib.index monB w)∧h'=h):=sK G hG monB w (by decide);by_cases h3:w.length=3
 rotate_left
 ·have q:((w.length:Int) !=3)=true:=by simp only[bne_iff_ne,ne_eq];omega
  have e:=wg h3;have F:=q;refine sb [.tmp 2] Tryz.func331 ?_;intro Q hQ;refine wk F ?_;refine kq F (hI _) ?_;refine ee hQ F ?_;exact I8 (.int _ _) ⟨by rw[e];rfl,rfl⟩
 have q:((w.length:Int) !=3)=false:=by rw[h3];rfl
 rcases uP w h3 with⟨i,h12,ei,e⟩| ⟨e,h0| ⟨h0,h36,h0m⟩⟩
 ·have q1:decide ((3*(i:Nat):Int)<0)=false:=G7 (by omega);have t1:((3*(i:Nat):Int)).tmod 3=0:=by rw[P5 (by omega)];omega
  have t2:((3*(i:Nat):Int)).tdiv 3=i:=by rw[R1 (by omega)];omega
  rw[ei]at hI;have F:=F4 q q1 t1 t2;refine sb [.tmp 2] Tryz.func331 ?_;intro Q hQ;refine wk F ?_;refine kq F (hI _) ?_;refine ee hQ F ?_;exact I8 (.int _ _) ⟨by rw[e];rfl,rfl⟩
 ·have q1:decide (Lib.index monB w<0)=true:=G8 h0;have F:=F2 q q1;refine sb [.tmp 2] Tryz.func331 ?_;intro Q hQ;refine wk F ?_;refine kq F (hI _) ?_;refine ee hQ F ?_;exact I8 (.int _ _) ⟨by rw[e];rfl,rfl⟩
 ·have q1:decide (Lib.index monB w<0)=false:=G7 (by omega);have t1:(Lib.index monB w).tmod 3=Lib.index monB w%3:=P5 h0;have q2:((Lib.index monB w%3) !=0)=true:=by simpa using h0m
  have F:=F4 q q1 t1 q2;refine sb [.tmp 2] Tryz.func331 ?_;intro Q hQ;refine wk F ?_;refine kq F (hI _) ?_;refine ee hQ F ?_;exact I8 (.int _ _) ⟨by rw[e];rfl,rfl⟩
theorem gC{c:UInt8}{k:Nat}(hk:k<256):((c.toNat:Int) != (k:Nat))=decide (c≠UInt8.ofNat k):=by
 have hk2:(UInt8.ofNat k).toNat=k:=by rw[UInt8.toNat_ofNat'];omega
 by_cases e:c=UInt8.ofNat k
 ·have h:(c.toNat:Int)=(k:Nat):=by rw[e,hk2]
  rw[h,G7 (fun n=>n e)];simp
 ·have h:¬(c.toNat:Int)=(k:Nat):=fun h=>e (N1.1 (by rw[hk2];omega))
  rw[G8 e];simpa using h
theorem dq{s:Bs}{k:Nat}(h:k<s.length):s[k]? =some (s.getD k 0):=by
 rw[L9,G1 h];rfl
theorem wh{s:Bs}{k:Nat}(hk:k≤s.length)(h1:∀i,i<k→∀c,s[i]? =some c→digB c=true)(h2:k=s.length∨∃c,s[k]? =some c∧digB c=false):(s.takeWhile digB).length=k:=by
 obtain⟨e,_⟩:=dJ digB s k h1 hk h2;rw[e,I2];omega
theorem nc{x:Dt}{r:Bs}(h1:r≠ [90])(h2:r≠ [122]):restR x r=if r.length≠6∨r.getD 3 0≠58 then none else match zoneR (r.getD 0 0) ((r.drop 1).take 2) (r.drop 4)with
 |none=>none
 |some z=>tellD x z:=by
 unfold restR;rw[G0 (fun k=>k.elim h1 h2)];rfl
theorem lD(s:Bs)(hs:s.length≤1048576)(h:Heap):Sat (CT G) 241 [.str s] h (fun r h'=>r=.tup [.int .i64 ((webR s).getD 0),.bool (webR s).isSome]∧h'=h):=by
 have no:∀{P:Prop},P→(P→webR s=none)→webR s=none:=fun p f=>f p
 by_cases hl:s.length<20
 ·have e:webR s=none:=by unfold webR;rw[G3 (.inl hl)]
  have q:decide ((s.length:Int)<20)=true:=G8 (by omega);rw[e];have F:=q;refine sb [.tmp 2,.tmp 3] Tryz.func241 ?_;intro Q hQ;refine wk F ?_;refine ee hQ F ?_;exact I8 (ao _ _ _) ⟨rfl,rfl⟩
 have q0:decide ((s.length:Int)<20)=false:=G7 (by omega);have hl19:19≤s.length:=by omega
 have hl20:20≤s.length:=by omega
 have g:=fun k (hk:k<20)=>dq (s:=s) (k:=k) (by omega)
 have g4:=g 4 (by omega);have g7:=g 7 (by omega);have g10:=g 10 (by omega);have g13:=g 13 (by omega);have g16:=g 16 (by omega);have l4:4<s.length:=by omega
 have l7:7<s.length:=by omega
 have l10:10<s.length:=by omega
 have l13:13<s.length:=by omega
 have l16:16<s.length:=by omega
 by_cases c4:s.getD 4 0=45
 rotate_left
 ·have e:webR s=none:=by unfold webR;rw[G3 (.inr (.inl c4))]
  have q:(((s.getD 4 0).toNat:Int) !=45)=true:=(gC (k:=45) (by omega)).trans (by simpa using c4);rw[e];have F:=F4 q0 g4 l4 q;refine sb [.tmp 2,.tmp 3] Tryz.func241 ?_;intro Q hQ;refine wk F ?_;refine ee hQ F ?_;exact I8 (ao _ _ _) ⟨rfl,rfl⟩
 have q4:(((s.getD 4 0).toNat:Int) !=45)=false:=by rw[c4];rfl
 by_cases c7:s.getD 7 0=45
 rotate_left
 ·have e:webR s=none:=by unfold webR;rw[G3 (.inr (.inr (.inl c7)))]
  have q:(((s.getD 7 0).toNat:Int) !=45)=true:=(gC (k:=45) (by omega)).trans (by simpa using c7);rw[e];have F:=F7 q0 g4 g7 l4 l7 q4 q;refine sb [.tmp 2,.tmp 3] Tryz.func241 ?_;intro Q hQ;refine wk F ?_;refine ee hQ F ?_;exact I8 (ao _ _ _) ⟨rfl,rfl⟩
 have q7:(((s.getD 7 0).toNat:Int) !=45)=false:=by rw[c7];rfl
 by_cases c10:s.getD 10 0=84∨s.getD 10 0=116
 rotate_left
 ·have c10':s.getD 10 0≠84∧s.getD 10 0≠116:=by simpa using c10
  have e:webR s=none:=by unfold webR;rw[G3 (.inr (.inr (.inr (.inl c10'))))]
  have q:(((s.getD 10 0).toNat:Int) !=84)=true:=(gC (k:=84) (by omega)).trans (by simpa using c10'.1);have qq:(((s.getD 10 0).toNat:Int) !=116)=true:=(gC (k:=116) (by omega)).trans (by simpa using c10'.2);rw[e];have F:=F2 (F9 q0 g4 g7 g10 l4 l7 l10 q4 q7) (F2 q qq);refine sb [.tmp 2,.tmp 3] Tryz.func241 ?_;intro Q hQ;refine wk F ?_;refine ee hQ F ?_;exact I8 (ao _ _ _) ⟨rfl,rfl⟩
 have q10:((((s.getD 10 0).toNat:Int) !=84)=false)∨((((s.getD 10 0).toNat:Int) !=84)=true∧(((s.getD 10 0).toNat:Int) !=116)=false):=by
  rcases c10 with e|e
  ·left;rw[e];rfl
  ·right;rw[e];exact⟨rfl,rfl⟩
 by_cases c13:s.getD 13 0=58
 rotate_left
 ·have e:webR s=none:=by unfold webR;rw[G3 (.inr (.inr (.inr (.inr (.inl c13)))))]
  have q:(((s.getD 13 0).toNat:Int) !=58)=true:=(gC (k:=58) (by omega)).trans (by simpa using c13);rw[e];rcases q10 with q10|q10;all_goals (
   have F:=F2 (F9 q0 g4 g7 g10 g13 l4 l7 l10 l13) (F4 q4 q7 q10 q);refine sb [.tmp 2,.tmp 3] Tryz.func241 ?_;intro Q hQ;refine wk F ?_;refine ee hQ F ?_;exact I8 (ao _ _ _) ⟨rfl,rfl⟩)
 have q13:(((s.getD 13 0).toNat:Int) !=58)=false:=by rw[c13];rfl
 by_cases c16:s.getD 16 0=58
 rotate_left
 ·have e:webR s=none:=by unfold webR;rw[G3 (.inr (.inr (.inr (.inr (.inr c16)))))]
  have q:(((s.getD 16 0).toNat:Int) !=58)=true:=(gC (k:=58) (by omega)).trans (by simpa using c16);rw[e];rcases q10 with q10|q10;all_goals (
   have F:=F2 (F9 q0 g4 g7 g10 g13 g16 l4 l7 l10) (F7 l13 l16 q4 q7 q10 q13 q);refine sb [.tmp 2,.tmp 3] Tryz.func241 ?_;intro Q hQ;refine wk F ?_;refine ee hQ F ?_;exact I8 (ao _ _ _) ⟨rfl,rfl⟩)
 have q16:(((s.getD 16 0).toNat:Int) !=58)=false:=by rw[c16];rfl
 have ew:webR s=pntR ⟨num9 (s.take 4),num9 ((s.drop 5).take 2),num9 ((s.drop 8).take 2),num9 ((s.drop 11).take 2),num9 ((s.drop 14).take 2),num9 ((s.drop 17).take 2)⟩ (s.drop 19):=by
  unfold webR;rw[G0];rintro(k|k|k|k|k|k)
  ·exact hl k
  ·exact k c4
  ·exact k c7
  ·exact c10.elim k.1 k.2
  ·exact k c13
  ·exact k c16
 rw[ew];clear ew hl c4 c7 c10 c13 c16;have n1:=aM G (s.take 4) (by simp;omega);have n2:=aM G ((s.drop 5).take 2) (by simp;omega);have n3:=aM G ((s.drop 8).take 2) (by simp;omega);have n4:=aM G ((s.drop 11).take 2) (by simp;omega);have n5:=aM G ((s.drop 14).take 2) (by simp;omega);have n6:=aM G ((s.drop 17).take 2) (by simp;omega);have d5:(s.take 7).drop 5=(s.drop 5).take 2:=by rw[P8]
 have d8:(s.take 10).drop 8=(s.drop 8).take 2:=by rw[P8]
 have d11:(s.take 13).drop 11=(s.drop 11).take 2:=by rw[P8]
 have d14:(s.take 16).drop 14=(s.drop 14).take 2:=by rw[P8]
 have d17:(s.take 19).drop 17=(s.drop 17).take 2:=by rw[P8]
 obtain⟨x,hx⟩:∃x:Dt,x=⟨num9 (s.take 4),num9 ((s.drop 5).take 2),num9 ((s.drop 8).take 2),num9 ((s.drop 11).take 2),num9 ((s.drop 14).take 2),num9 ((s.drop 17).take 2)⟩:=⟨_,rfl⟩;rw[← hx];have x1:num9 (s.take 4)=x.y:=by rw[hx]
 have x2:num9 ((s.drop 5).take 2)=x.m:=by rw[hx]
 have x3:num9 ((s.drop 8).take 2)=x.d:=by rw[hx]
 have x4:num9 ((s.drop 11).take 2)=x.h:=by rw[hx]
 have x5:num9 ((s.drop 14).take 2)=x.i:=by rw[hx]
 have x6:num9 ((s.drop 17).take 2)=x.s:=by rw[hx]
 rw[x1]at n1;rw[x2]at n2;rw[x3]at n3;rw[x4]at n4;rw[x5]at n5;rw[x6]at n6;clear hx x1 x2 x3 x4 x5 x6;have hT:=fun z (hz: -400000≤z∧z≤400000) h=>ib G x z hz h
 have hrl:(s.drop 19).length=s.length-19:=J7 ..;generalize hr:s.drop 19=r at*;have hr0:0<r.length:=by omega
 have gr0:=dq hr0;obtain⟨y,m,d,hh,i,c⟩:=x;simp only[Dt.av_eq]at*;have F:=F2 (F9 q0 g4 g7 g10 g13 g16 l4 l7 l10) (F2 (F9 l13 l16 q4 q7 q13 q16 d5 d8 d11) (F6 d14 d17 hl19 hr hr0 gr0));rcases q10 with q10|q10;all_goals (
  have F:=F2 F q10;by_cases dot:r.getD 0 0=46
  ·have qd:(((r.getD 0 0).toNat:Int)==46)=true:=(by rw[dot];rfl);have F:=F3 F qd @al
   skip
   refine sb [.tmp 2,.tmp 3] Tryz.func241 ?_;intro Q hQ;refine wn F ?_;refine aG 19 19 _ (by rfl) (by decide+kernel) (by kernel_rfl) (by decide+kernel) (by decide+kernel) (by decide+kernel) ?_;simp only[H8,J1];refine sq F ?_;refine wn F ?_;refine aa (n1 _) ?_;(try refine sq F ?_);refine wn F ?_;refine aa (n2 _) ?_;(try refine sq F ?_);refine wn F ?_;refine aa (n3 _) ?_;(try refine sq F ?_);refine wn F ?_;refine aa (n4 _) ?_;(try refine sq F ?_);refine wn F ?_;refine aa (n5 _) ?_;(try refine sq F ?_);refine wn F ?_;refine aa (n6 _) ?_;(try refine sq F ?_);refine wn F ?_;refine⟨?_,?_⟩
   ·refine aa (n1 _) ?_;(try refine sq F ?_);refine wn F ?_;refine aa (n2 _) ?_;(try refine sq F ?_);refine wn F ?_;refine aa (n3 _) ?_;(try refine sq F ?_);refine wn F ?_;refine aa (n4 _) ?_;(try refine sq F ?_);refine wn F ?_;refine aa (n5 _) ?_;(try refine sq F ?_);refine wn F ?_;refine aa (n6 _) ?_;(try refine sq F ?_);refine wn F ?_;all_goals first|exact zq F|trivial| (refine sq F ?_;trivial)
   skip
   (try refine sq F ?_);refine wk F ?_;refine lm (fun nL tL hL=>∃(k:Nat),r.length-k=nL∧h++[.row 197 6 0 [.agg [.int .i64 y,.int .i64 m,.int .i64 d,.int .i64 hh,.int .i64 i,.int .i64 c]]]=hL∧tL 6=.int .i64 k∧1≤k∧k≤r.length∧(∀i,1≤i→i<k→∀c,r[i]? =some c→digB c=true)) ((fun(k:Nat)=>(r.length-k:Nat)) (1)) ?_ ?_
   ·refine G9 ⟨1,rfl,ar,?_,by omega,by omega,fun i h1 h2=>by omega⟩;all_goals try exact zZz F
   rintro _ s2 h' ⟨k,rfl,rfl,e6,h1,hk,hi⟩ K2 hK2;simp only[ai,ak,Nat.reduceEqDiff, ↓reduceIte]at e6;have F:=F2 F e6;by_cases cont:k<r.length∧digB (r.getD k 0)=true
   ·have d1:=G8 cont.1;have hc:=dq cont.1;have hd:=cont.2;have hcc:=hd;simp only[digB,G2,H2]at hcc;have q1:decide (((r.getD k 0).toNat:Int)≥48)=true:=G8 (by omega);have q2:decide (((r.getD k 0).toNat:Int)≤57)=true:=G8 (by omega);have hi':∀i,1≤i→i<k+1→∀c,r[i]? =some c→digB c=true:=fun i a b c' hc'=>by
     rcases N9 i k with h2|h2
     ·exact hi i a h2 c' hc'
     ·obtain rfl:i=k:=by omega
      rw[hc]at hc';cases hc';exact hd
    have F:=F5 F d1 hc q1 q2;(try refine sq F ?_);refine wk F ?_;refine hK2 _ _ _ (G9 ⟨k+1,rfl,ar,?_,by omega,by omega,hi'⟩) (by omega);all_goals try exact zZz F
   ·have tw:((r.drop 1).takeWhile digB).length+1=k:=by
     have:=wh (s:=r.drop 1) (k:=k-1) (by simp;omega) (fun i a c hc=>by rw[K8]at hc;exact hi _ (by omega) (by omega) c hc) (by
      by_cases e:k=r.length
      ·left;simp;omega
      ·right;refine⟨r.getD k 0,by rw[K8,show 1+(k-1)=k by omega];exact dq (by omega),?_⟩;cases hd:digB (r.getD k 0)with
       |false=>rfl
       |true=>exact absurd ⟨by omega,hd⟩ cont)
     omega
    have alt:(decide (k<r.length)=false∧True)∨(decide (k<r.length)=true∧r[k]? =some (r.getD k 0)∧decide (((r.getD k 0).toNat:Int)≥48)=false)∨(decide (k<r.length)=true∧r[k]? =some (r.getD k 0)∧decide (((r.getD k 0).toNat:Int)≥48)=true∧decide (((r.getD k 0).toNat:Int)≤57)=false):=by
     by_cases e:k<r.length
     ·right;have hg:=dq e;by_cases a:((r.getD k 0).toNat:Int)≥48
      ·refine .inr ⟨G8 e,hg,G8 a,G7 fun b=>cont ⟨e,?_⟩⟩;simp only[digB,G2,H2];omega
      ·exact .inl ⟨G8 e,hg,G7 a⟩
     ·exact .inl ⟨G7 e,trivial⟩
    have ep:pntR ⟨y,m,d,hh,i,c⟩ r=if k<2∨10<k then none else restR ⟨y,m,d,hh,i,c⟩ (r.drop k):=by
     unfold pntR;rw[G3 dot,tw]
    rw[ep]at hQ;clear ep tw cont hi;rcases alt with alt|alt|alt;all_goals (
     have F:=F2 F @alt;by_cases k9:k<2
     ·have w1:decide ((k:Int)<2)=true:=G8 (by omega);rw[G3 (.inl k9)]at hQ;have F:=F2 F w1;(try refine sq F ?_);refine wk F ?_;refine ee hQ F ?_;exact H3 (ao _ _ _) ⟨rfl,rfl⟩
     have w1:decide ((k:Int)<2)=false:=G7 (by omega);by_cases k10:10<k
     ·have w2:decide ((k:Int)>10)=true:=G8 (by omega);rw[G3 (.inr k10)]at hQ;have F:=F3 F w1 w2;(try refine sq F ?_);refine wk F ?_;refine ee hQ F ?_;exact H3 (ao _ _ _) ⟨rfl,rfl⟩
     have w2:decide ((k:Int)>10)=false:=G7 (by omega);rw[G0 (fun n=>n.elim k9 k10)]at hQ;have dl:(r.drop k).length≤1048576:=(by simp;omega);have F:=F4 F w1 w2 hk;by_cases z1:(r.drop k)=[90]
     ·have k1:((r.drop k)==[90])=true:=(by simpa using z1);have e:restR ⟨y,m,d,hh,i,c⟩ ((r.drop k))=tellD ⟨y,m,d,hh,i,c⟩ 0:=(by unfold restR;rw[G3 (.inl z1)]);rw[e]at hQ;have F:=F2 F k1;(try refine sq F ?_);refine wk F ?_;refine kq F (hT 0 (by omega) _) ?_;refine ee hQ F ?_;exact H3 (ao _ _ _) ⟨rfl,rfl⟩
     by_cases z2:(r.drop k)=[122]
     ·have k1:((r.drop k)==[90])=false:=(by simpa using z1);have k2:((r.drop k)==[122])=true:=(by simpa using z2);have e:restR ⟨y,m,d,hh,i,c⟩ ((r.drop k))=tellD ⟨y,m,d,hh,i,c⟩ 0:=(by unfold restR;rw[G3 (.inr z2)]);rw[e]at hQ;have F:=F3 F k1 k2;(try refine sq F ?_);refine wk F ?_;refine kq F (hT 0 (by omega) _) ?_;refine ee hQ F ?_;exact H3 (ao _ _ _) ⟨rfl,rfl⟩
     have k1:((r.drop k)==[90])=false:=(by simpa using z1);have k2:((r.drop k)==[122])=false:=(by simpa using z2);have hr1:=nc (x:=⟨y,m,d,hh,i,c⟩) z1 z2;by_cases l6:((r.drop k)).length=6
     rotate_left
     ·have k3:((((r.drop k)).length:Int) !=6)=true:=(by simp only[bne_iff_ne,ne_eq];omega);rw[hr1,G3 (.inl l6)]at hQ;have F:=F4 F k1 k2 k3;(try refine sq F ?_);refine wk F ?_;refine ee hQ F ?_;exact H3 (ao _ _ _) ⟨rfl,rfl⟩
     have k3:((((r.drop k)).length:Int) !=6)=false:=(by rw[l6];rfl);have j0:=dq (s:=(r.drop k)) (k:=0) (by omega);have j3:=dq (s:=(r.drop k)) (k:=3) (by omega);have m0:0<((r.drop k)).length:=(by omega);have m3:3<((r.drop k)).length:=(by omega);by_cases c3:((r.drop k)).getD 3 0=58
     rotate_left
     ·have k4:(((((r.drop k)).getD 3 0).toNat:Int) !=58)=true:=(gC (k:=58) (by omega)).trans (by simpa using c3);rw[hr1,G3 (.inr c3)]at hQ;have F:=F7 F k1 k2 k3 k4 j3 m3;(try refine sq F ?_);refine wk F ?_;refine ee hQ F ?_;exact H3 (ao _ _ _) ⟨rfl,rfl⟩
     have k4:(((((r.drop k)).getD 3 0).toNat:Int) !=58)=false:=(by rw[c3];rfl);rw[G0 (fun k=>k.elim (· l6) (· c3))]at hr1;rw[hr1]at hQ;have d13:(((r.drop k)).take 3).drop 1=(((r.drop k)).drop 1).take 2:=(by rw[P8]);have m4:4≤((r.drop k)).length:=(by omega);have hZ:=ic G ((r.drop k).getD 0 0) (((r.drop k).drop 1).take 2) ((r.drop k).drop 4) (by simp;omega) (by simp;omega);cases hz:zoneR ((r.drop k).getD 0 0) (((r.drop k).drop 1).take 2) ((r.drop k).drop 4)with
     |none=>
      rw[hz]at hZ hQ;have hZ:∀h,Sat (CT G) 288 [.int .u8 (((r.drop k)).getD 0 0).toNat,.str ((((r.drop k)).drop 1).take 2),.str (((r.drop k)).drop 4)] h (fun r h'=>r=.tup [.int .i64 0,.bool false]∧h'=h):=hZ;have F:=F2 (F9 F k1 k2 k3 k4 j0 j3 m0 m3) (F2 m4 d13)
      skip
      (try refine sq F ?_);refine wn F ?_;refine cw 8 (.two 8 (.two 9 (.one 10 (.one 11 .nil)) 10 (.one 9 (.one 11 .nil))) 9 (.one 8 (.one 10 (.one 11 .nil)))) (by decide+kernel) (by kernel_rfl) (by decide+kernel) ?_;simp only[H8,J1];(try refine sq F ?_);repeat' (first|refine aR ?_| (refine aS rfl ?_;refine sq F ?_)| (refine aT rfl rfl ?_ ?_<;>refine sq F ?_))
      skip
      refine aa (hZ _) ?_;(try refine sq F ?_);refine wk F ?_;repeat' (first|refine aR ?_| (refine aS rfl ?_;refine sq F ?_)| (refine aT rfl rfl ?_ ?_<;>refine sq F ?_))
      all_goals (
       refine wk F ?_;refine ee hQ F ?_;exact H3 (ao _ _ _) ⟨rfl,rfl⟩)
     |some z=>
      have hb:=ja hz;rw[hz]at hZ hQ;have hZ:∀h,Sat (CT G) 288 [.int .u8 (((r.drop k)).getD 0 0).toNat,.str ((((r.drop k)).drop 1).take 2),.str (((r.drop k)).drop 4)] h (fun r h'=>r=.tup [.int .i64 z,.bool true]∧h'=h):=hZ;have F:=F2 (F9 F k1 k2 k3 k4 j0 j3 m0 m3) (F2 m4 d13)
      skip
      (try refine sq F ?_);refine wn F ?_;refine cw 8 (.two 8 (.two 9 (.one 10 (.one 11 .nil)) 10 (.one 9 (.one 11 .nil))) 9 (.one 8 (.one 10 (.one 11 .nil)))) (by decide+kernel) (by kernel_rfl) (by decide+kernel) ?_;simp only[H8,J1];(try refine sq F ?_);repeat' (first|refine aR ?_| (refine aS rfl ?_;refine sq F ?_)| (refine aT rfl rfl ?_ ?_<;>refine sq F ?_))
      skip
      refine aa (hZ _) ?_;(try refine sq F ?_);refine wk F ?_;repeat' (first|refine aR ?_| (refine aS rfl ?_;refine sq F ?_)| (refine aT rfl rfl ?_ ?_<;>refine sq F ?_))
      all_goals (
       refine wk F ?_;refine kq F (hT z hb _) ?_;refine ee hQ F ?_;exact H3 (ao _ _ _) ⟨rfl,rfl⟩))
  ·have qd:(((r.getD 0 0).toNat:Int)==46)=false:=by
    have:=(gC (c:=r.getD 0 0) (k:=46) (by omega)).trans (G8 (fun k=>dot k));simpa using this
   have F:=F3 F qd @al;have ep:pntR ⟨y,m,d,hh,i,c⟩ r=restR ⟨y,m,d,hh,i,c⟩ r:=(by unfold pntR;rw[G0 dot]);rw[ep];have dl:r.length≤1048576:=by omega
   skip
   refine sb [.tmp 2,.tmp 3] Tryz.func241 ?_;intro Q hQ;refine wn F ?_;refine aG 19 19 _ (by rfl) (by decide+kernel) (by kernel_rfl) (by decide+kernel) (by decide+kernel) (by decide+kernel) ?_;simp only[H8,J1];refine sq F ?_;refine wn F ?_;refine aa (n1 _) ?_;(try refine sq F ?_);refine wn F ?_;refine aa (n2 _) ?_;(try refine sq F ?_);refine wn F ?_;refine aa (n3 _) ?_;(try refine sq F ?_);refine wn F ?_;refine aa (n4 _) ?_;(try refine sq F ?_);refine wn F ?_;refine aa (n5 _) ?_;(try refine sq F ?_);refine wn F ?_;refine aa (n6 _) ?_;(try refine sq F ?_);refine wn F ?_;refine⟨?_,?_⟩
   ·refine aa (n1 _) ?_;(try refine sq F ?_);refine wn F ?_;refine aa (n2 _) ?_;(try refine sq F ?_);refine wn F ?_;refine aa (n3 _) ?_;(try refine sq F ?_);refine wn F ?_;refine aa (n4 _) ?_;(try refine sq F ?_);refine wn F ?_;refine aa (n5 _) ?_;(try refine sq F ?_);refine wn F ?_;refine aa (n6 _) ?_;(try refine sq F ?_);refine wn F ?_;all_goals first|exact zq F|trivial| (refine sq F ?_;trivial)
   skip
   (try refine sq F ?_);refine wk F ?_;by_cases z1:r=[90]
   ·have k1:(r==[90])=true:=(by simpa using z1);have e:restR ⟨y,m,d,hh,i,c⟩ (r)=tellD ⟨y,m,d,hh,i,c⟩ 0:=(by unfold restR;rw[G3 (.inl z1)]);rw[e]at hQ;have F:=F2 F k1;(try refine sq F ?_);refine wk F ?_;refine kq F (hT 0 (by omega) _) ?_;refine ee hQ F ?_;exact H3 (ao _ _ _) ⟨rfl,rfl⟩
   by_cases z2:r=[122]
   ·have k1:(r==[90])=false:=(by simpa using z1);have k2:(r==[122])=true:=(by simpa using z2);have e:restR ⟨y,m,d,hh,i,c⟩ (r)=tellD ⟨y,m,d,hh,i,c⟩ 0:=(by unfold restR;rw[G3 (.inr z2)]);rw[e]at hQ;have F:=F3 F k1 k2;(try refine sq F ?_);refine wk F ?_;refine kq F (hT 0 (by omega) _) ?_;refine ee hQ F ?_;exact H3 (ao _ _ _) ⟨rfl,rfl⟩
   have k1:(r==[90])=false:=(by simpa using z1);have k2:(r==[122])=false:=(by simpa using z2);have hr1:=nc (x:=⟨y,m,d,hh,i,c⟩) z1 z2;by_cases l6:(r).length=6
   rotate_left
   ·have k3:(((r).length:Int) !=6)=true:=(by simp only[bne_iff_ne,ne_eq];omega);rw[hr1,G3 (.inl l6)]at hQ;have F:=F4 F k1 k2 k3;(try refine sq F ?_);refine wk F ?_;refine ee hQ F ?_;exact H3 (ao _ _ _) ⟨rfl,rfl⟩
   have k3:(((r).length:Int) !=6)=false:=(by rw[l6];rfl);have j0:=dq (s:=r) (k:=0) (by omega);have j3:=dq (s:=r) (k:=3) (by omega);have m0:0<(r).length:=(by omega);have m3:3<(r).length:=(by omega);by_cases c3:(r).getD 3 0=58
   rotate_left
   ·have k4:((((r).getD 3 0).toNat:Int) !=58)=true:=(gC (k:=58) (by omega)).trans (by simpa using c3);rw[hr1,G3 (.inr c3)]at hQ;have F:=F7 F k1 k2 k3 k4 j3 m3;(try refine sq F ?_);refine wk F ?_;refine ee hQ F ?_;exact H3 (ao _ _ _) ⟨rfl,rfl⟩
   have k4:((((r).getD 3 0).toNat:Int) !=58)=false:=(by rw[c3];rfl);rw[G0 (fun k=>k.elim (· l6) (· c3))]at hr1;rw[hr1]at hQ;have d13:((r).take 3).drop 1=((r).drop 1).take 2:=(by rw[P8]);have m4:4≤(r).length:=(by omega);have hZ:=ic G (r.getD 0 0) ((r.drop 1).take 2) (r.drop 4) (by simp;omega) (by simp;omega);cases hz:zoneR (r.getD 0 0) ((r.drop 1).take 2) (r.drop 4)with
   |none=>
    rw[hz]at hZ hQ;have hZ:∀h,Sat (CT G) 288 [.int .u8 ((r).getD 0 0).toNat,.str (((r).drop 1).take 2),.str ((r).drop 4)] h (fun r h'=>r=.tup [.int .i64 0,.bool false]∧h'=h):=hZ;have F:=F2 (F9 F k1 k2 k3 k4 j0 j3 m0 m3) (F2 m4 d13)
    skip
    (try refine sq F ?_);refine wn F ?_;refine cw 8 (.two 8 (.two 9 (.one 10 (.one 11 .nil)) 10 (.one 9 (.one 11 .nil))) 9 (.one 8 (.one 10 (.one 11 .nil)))) (by decide+kernel) (by kernel_rfl) (by decide+kernel) ?_;simp only[H8,J1];(try refine sq F ?_);repeat' (first|refine aR ?_| (refine aS rfl ?_;refine sq F ?_)| (refine aT rfl rfl ?_ ?_<;>refine sq F ?_))
    skip
    refine aa (hZ _) ?_;(try refine sq F ?_);refine wk F ?_;repeat' (first|refine aR ?_| (refine aS rfl ?_;refine sq F ?_)| (refine aT rfl rfl ?_ ?_<;>refine sq F ?_))
    all_goals (
     refine wk F ?_;refine ee hQ F ?_;exact H3 (ao _ _ _) ⟨rfl,rfl⟩)
   |some z=>
    have hb:=ja hz;rw[hz]at hZ hQ;have hZ:∀h,Sat (CT G) 288 [.int .u8 ((r).getD 0 0).toNat,.str (((r).drop 1).take 2),.str ((r).drop 4)] h (fun r h'=>r=.tup [.int .i64 z,.bool true]∧h'=h):=hZ;have F:=F2 (F9 F k1 k2 k3 k4 j0 j3 m0 m3) (F2 m4 d13)
    skip
    (try refine sq F ?_);refine wn F ?_;refine cw 8 (.two 8 (.two 9 (.one 10 (.one 11 .nil)) 10 (.one 9 (.one 11 .nil))) 9 (.one 8 (.one 10 (.one 11 .nil)))) (by decide+kernel) (by kernel_rfl) (by decide+kernel) ?_;simp only[H8,J1];(try refine sq F ?_);repeat' (first|refine aR ?_| (refine aS rfl ?_;refine sq F ?_)| (refine aT rfl rfl ?_ ?_<;>refine sq F ?_))
    skip
    refine aa (hZ _) ?_;(try refine sq F ?_);refine wk F ?_;repeat' (first|refine aR ?_| (refine aS rfl ?_;refine sq F ?_)| (refine aT rfl rfl ?_ ?_<;>refine sq F ?_))
    all_goals (
     refine wk F ?_;refine kq F (hT z hb _) ?_;refine ee hQ F ?_;exact H3 (ao _ _ _) ⟨rfl,rfl⟩))
end Go.Av
