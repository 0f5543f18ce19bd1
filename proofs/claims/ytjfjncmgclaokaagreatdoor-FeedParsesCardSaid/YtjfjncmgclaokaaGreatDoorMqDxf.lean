/- Parts. -/
import Derived.Test.YtjfjncmgclaokaaGreatDoorMqDxt
set_option linter.unusedSimpArgs false
set_option linter.unusedVariables false
set_option linter.unusedSectionVars false
set_option linter.unnecessarySimpa false
set_option maxRecDepth 100000
set_option maxHeartbeats 16000000
namespace Go.Av
open Go Go.Proofs Go.RowKit
section
attribute [local irreducible] WP WPl WPix Sat
variable (G:Nat→Option (List AVal))
theorem tA{d:Fd}(h:fdOk d=true):FdS d:=by
 unfold fdOk at h;simp only[G2,H2]at h;obtain⟨h1,h2,h3,h4,h5⟩:=h;have tl:∀{s:Bs} {m:Nat},textO s m=true→s.length≤m:=fun {s m} h=>by
  unfold textO at h;simp only[G2,H2]at h;exact h.1.1
 have:=tl h2;have:=tl h3;refine⟨by omega,by omega,by omega,fun x hx=>?_⟩;have hx:=I1.1 h5 x hx;unfold enOk at hx;simp only[G2]at hx;have:=tl hx.2.1;have:=tl hx.2.2.1;have:=tl hx.2.2.2.1;exact⟨by omega,by omega,by omega⟩
theorem xT(s:Bs):((rdD s).2=0→fdOk (rdD s).1=true)∧(rdD s).1.es.length≤1048576:=by
 unfold rdD;by_cases c0:prsC s=0
 ·rw[G3 c0];obtain⟨y,hb⟩:=qZ c0;rw[hb];unfold fdE;simp only[];cases ho:ofE y with
  |none=>exact⟨fun h=>absurd h (by decide),by decide⟩
  |some d=>
   have hk:=zX ho;have hs:=tA hk;exact⟨fun _=>hk,hs.2.2.1⟩
 ·rw[G0 c0];exact⟨fun h=>absurd h c0,Nat.zero_le _⟩
theorem kH(hG:GOk G)(hC:GClo (CT G))(s:Bs)(h:Heap):Sat (CT G) 3 [.str s] h (fun r h'=>r=.bool true∧h'=h):=by
 have hL:=oD G hG hC;by_cases b2:5000<s.length
 ·have q2:decide ((s.length:Int)>5000)=true:=G8 (by omega);have F:=q2;refine sb [.tmp 2] Tryz.func3 ?_;intro Q hQ;refine wk F ?_;refine kq F (hL _) ?_;refine ee hQ F ?_;exact I8 (.bool _) ⟨rfl,rfl⟩
 have q2:decide ((s.length:Int)>5000)=false:=G7 (by omega);have hP:=oB G hG hC s (by omega);have hR:=oC G hG hC s (by omega);have hk:=xT s;unfold RdD at hP hR;generalize rdD s=x at*;obtain⟨⟨t,k,es⟩,c⟩:=x;obtain⟨hk1,hk2⟩:=hk;simp only[]at hk1 hk2 hP hR;have hP:∀h,Sat (CT G) 9 [.str s] h (fun r h'=>r=.tup [.agg [.str t,.str k,.sl 5 (es.map En.av)],.int .i64 c]∧h'=h):=hP;have hR:∀h,Sat (CT G) 10 [.str s] h (fun r h'=>r=.tup [.agg [.str t,.str k,.sl 5 (es.map En.av)],.int .i64 c]∧h'=h):=hR;have hD:∀h,Sat (CT G) 11 [.agg [.str t,.str k,.sl 5 (es.map En.av)],.agg [.str t,.str k,.sl 5 (es.map En.av)]] h (fun r h'=>r=.bool true∧h'=h):=fun h=>by
  have:=qR G ⟨t,k,es⟩ ⟨t,k,es⟩ hk2 hk2 h;rw[G8 ⟨rfl,rfl,rfl⟩]at this;exact this
 have qc:(c==c)=true:=by simp
 by_cases c0:c=0
 ·have ok:=hk1 c0;have hCk:=ot G _ (tA ok);rw[G3 ok]at hCk;have hCk:∀h,Sat (CT G) 12 [.agg [.str t,.str k,.sl 5 (es.map En.av)]] h (fun r h'=>r=.int .i64 0∧h'=h):=hCk;have q0:(c !=0)=false:=by simpa using c0
  have F:=F4 q2 qc q0 @al;refine sb [.tmp 2] Tryz.func3 ?_;intro Q hQ;refine wk F ?_;refine kq F (hP _) ?_;refine kq F (hR _) ?_;refine kq F (hL _) ?_;refine kq F (hD _) ?_;refine kq F (hCk _) ?_;refine ee hQ F ?_;exact H3 (.bool _) ⟨rfl,rfl⟩
 ·have q0:(c !=0)=true:=by simpa using c0
  have F:=F4 q2 qc q0 @al;refine sb [.tmp 2] Tryz.func3 ?_;intro Q hQ;refine wk F ?_;refine kq F (hP _) ?_;refine kq F (hR _) ?_;refine kq F (hL _) ?_;refine kq F (hD _) ?_;refine ee hQ F ?_;exact H3 (.bool _) ⟨rfl,rfl⟩
end
end Go.Av
