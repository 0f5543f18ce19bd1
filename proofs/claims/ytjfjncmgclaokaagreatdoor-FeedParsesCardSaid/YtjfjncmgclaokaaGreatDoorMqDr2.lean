/- Parts. -/
import Derived.Test.YtjfjncmgclaokaaGreatDoorMqHc
import Derived.Test.YtjfjncmgclaokaaGreatDoorMqEx2
set_option linter.unusedSimpArgs false
set_option linter.unusedVariables false
set_option linter.unusedSectionVars false
set_option linter.unnecessarySimpa false
set_option maxRecDepth 100000
set_option maxHeartbeats 16000000
namespace Go.Av
open Go Go.Proofs Go.RowKit
section
attribute [local irreducible] WP WPl WPix Sat
variable (G:Nat→Option (List AVal))
def digF(c base:Int):Int:=
 let n:=if 48≤c∧c≤57 then c-48 else if 97≤c∧c≤102 then c-87 else if 65≤c∧c≤70 then c-55 else-1
 if base≤n then-1 else n
def numGo(base:Int):Bs→Int→Int
 | [],n=>n
 |b::t,n=>if digF b.toNat base<0 then-1 else numGo base t (base*n+digF b.toNat base)
def numF(s:Bs)(base:Int)(most:Nat):Int:=if s=[]∨most<s.length then-1 else numGo base s 0
def rightF(n:Int):Bool:=decide (n=9)||decide (n=10)||decide (n=13)||(decide (32≤n)&& !decide (enc n=[239,191,189]))
theorem kw(c base:Int)(h:0≤base):digF c base<base∨digF c base= -1:=by unfold digF;simp only[];split<;>omega
theorem lg(c base:Int)(h:128≤c):digF c base= -1:=by
 unfold digF;simp only[];rw[G0 (c:=48≤c∧c≤57) (by omega),G0 (c:=97≤c∧c≤102) (by omega),G0 (c:=65≤c∧c≤70) (by omega)];split<;>rfl
theorem d7{x:Int}(h0: -2147483648≤x)(h1:x≤2147483647):IntKind.i32.wrap x=x:=by
 simp only[IntKind.wrap,IntKind.bits,IntKind.signed];simp;omega
theorem mE(k:IntKind)(n:Int)(h0: -9223372036854775808≤n)(h1:n≤9223372036854775807):aconv Tryz.prog 21 3 (.int k n)=some (.int .i64 n):=by simp only[aconv,go_sem,fh h0 h1]
theorem j1(k:IntKind)(n:Int)(h0: -2147483648≤n)(h1:n≤2147483647):aconv Tryz.prog 3 21 (.int k n)=some (.int .i32 n):=by simp only[aconv,go_sem,d7 h0 h1]
theorem lh(c base:Int)(hc:0≤c)(hc1:c≤1114111)(hb:0≤base)(hb1:base≤16)(h:Heap):
  Sat (CT G) 305 [.int .i32 c,.int .i64 base] h (fun r h'=>r=.int .i64 (digF c base)∧h'=h):=by
 have F:=F2 @mE @d7;refine sb [.tmp 4] Tryz.func305 ?_;intro Q hQ;(repeat (first|refine w1 (fun K hK=>?_)|refine w2 ?_|refine w3 ?_| ((first|refine w4 ?_|refine wD ?_|refine w5 ?_|refine w6 ?_|refine w7 ?_);try refine am F ?_)| (refine w8 ?_;refine am F ?_;refine w9 ?_)| ((first|refine hK _ _ (w0 ?_)| (clear hK K;refine hK _ _ (w0 ?_))| (clear hK K;clear hK K;refine hK _ _ (w0 ?_)));clear hK K)))
 rename_i K0 hK0;have tail:∀(n:Int) (t':Env),t' 5=.int .i64 n→t' 1=.int .i64 base→n=(if 48≤c∧c≤57 then c-48 else if 97≤c∧c≤102 then c-87 else if 65≤c∧c≤70 then c-55 else-1)→K0 t' h:=by
  intro n t' e5 e1 hn;have hd:digF c base=if base≤n then-1 else n:=by subst hn;rfl
  refine hK0 _ _ (G9 ?_);clear hK0 K0 hK K;have F:=F3 F e5 e1;(repeat (first|refine w1 (fun K hK=>?_)|refine w2 ?_|refine w3 ?_| ((first|refine w4 ?_|refine wD ?_|refine w5 ?_|refine w6 ?_|refine w7 ?_);try refine am F ?_)| (refine w8 ?_;refine am F ?_;refine w9 ?_)| ((first|refine hK _ _ (w0 ?_)| (clear hK K;refine hK _ _ (w0 ?_))| (clear hK K;clear hK K;refine hK _ _ (w0 ?_)));clear hK K)))
  refine aH F (fun hc=>?_) (fun hc=>?_)<;>(try exact hc.elim)<;>((repeat (first|refine w1 (fun K hK=>?_)|refine w2 ?_|refine w3 ?_| ((first|refine w4 ?_|refine wD ?_|refine w5 ?_|refine w6 ?_|refine w7 ?_);try refine am F ?_)| (refine w8 ?_;refine am F ?_;refine w9 ?_)| ((first|refine hK _ _ (w0 ?_)| (clear hK K;refine hK _ _ (w0 ?_))| (clear hK K;clear hK K;refine hK _ _ (w0 ?_)));clear hK K))))
  ·refine ay hQ F ?_;refine fR (.int _ _) ?_;rw[hd,G3 hc]
  ·refine ay hQ F ?_;refine fR (.int _ _) ?_;rw[hd,G0 (by omega)]
 (first|refine bD F (fun g1=>?_) (fun g1=>?_)|refine pqo F (fun g1=>?_) (fun g1=>?_))<;>(try exact g1.elim)<;>(try refine am F ?_)<;>((repeat (first|refine w1 (fun K hK=>?_)|refine w2 ?_|refine w3 ?_| ((first|refine w4 ?_|refine wD ?_|refine w5 ?_|refine w6 ?_|refine w7 ?_);try refine am F ?_)| (refine w8 ?_;refine am F ?_;refine w9 ?_)| ((first|refine hK _ _ (w0 ?_)| (clear hK K;refine hK _ _ (w0 ?_))| (clear hK K;clear hK K;refine hK _ _ (w0 ?_)));clear hK K))))
 ·refine aH F (fun hc=>?_) (fun hc=>?_)<;>(try exact hc.elim)<;>((repeat (first|refine w1 (fun K hK=>?_)|refine w2 ?_|refine w3 ?_| ((first|refine w4 ?_|refine wD ?_|refine w5 ?_|refine w6 ?_|refine w7 ?_);try refine am F ?_)| (refine w8 ?_;refine am F ?_;refine w9 ?_)| ((first|refine hK _ _ (w0 ?_)| (clear hK K;refine hK _ _ (w0 ?_))| (clear hK K;clear hK K;refine hK _ _ (w0 ?_)));clear hK K))))
  ·refine tail (c-48) _ ?_ ?_ ?_
   ·exact aE F
   ·exact aE F
   ·rw[G3 (by omega)]
  ·(first|refine bD F (fun g2=>?_) (fun g2=>?_)|refine pqo F (fun g2=>?_) (fun g2=>?_))<;>(try exact g2.elim)<;>(try refine am F ?_)<;>((repeat (first|refine w1 (fun K hK=>?_)|refine w2 ?_|refine w3 ?_| ((first|refine w4 ?_|refine wD ?_|refine w5 ?_|refine w6 ?_|refine w7 ?_);try refine am F ?_)| (refine w8 ?_;refine am F ?_;refine w9 ?_)| ((first|refine hK _ _ (w0 ?_)| (clear hK K;refine hK _ _ (w0 ?_))| (clear hK K;clear hK K;refine hK _ _ (w0 ?_)));clear hK K))))
   ·refine aH F (fun hc=>?_) (fun hc=>?_)<;>(try exact hc.elim)<;>((repeat (first|refine w1 (fun K hK=>?_)|refine w2 ?_|refine w3 ?_| ((first|refine w4 ?_|refine wD ?_|refine w5 ?_|refine w6 ?_|refine w7 ?_);try refine am F ?_)| (refine w8 ?_;refine am F ?_;refine w9 ?_)| ((first|refine hK _ _ (w0 ?_)| (clear hK K;refine hK _ _ (w0 ?_))| (clear hK K;clear hK K;refine hK _ _ (w0 ?_)));clear hK K))))
    ·refine tail (c-87) _ ?_ ?_ ?_
     ·simp(disch:=first|omega| (simp only[go_sem, ↓reduceIte,Nat.reduceEqDiff];done)|fail) only[go_sem, ↓reduceIte,Int.reduceToNat,Int.reduceLE,Int.reduceLT,Int.reduceSub,Int.reduceAdd,Nat.reduceEqDiff,Nat.reduceAdd,Nat.reduceLeDiff,Nat.reduceLT,Nat.reduceMul,Nat.reduceSub,F];congr 1;omega
     ·exact aE F
     ·rw[G0 (by omega),G3 (by omega)]
    ·(first|refine bD F (fun hg=>?_) (fun hg=>?_)|refine pqo F (fun hg=>?_) (fun hg=>?_))<;>(try exact hg.elim)<;>(try refine am F ?_)<;>((repeat (first|refine w1 (fun K hK=>?_)|refine w2 ?_|refine w3 ?_| ((first|refine w4 ?_|refine wD ?_|refine w5 ?_|refine w6 ?_|refine w7 ?_);try refine am F ?_)| (refine w8 ?_;refine am F ?_;refine w9 ?_)| ((first|refine hK _ _ (w0 ?_)| (clear hK K;refine hK _ _ (w0 ?_))| (clear hK K;clear hK K;refine hK _ _ (w0 ?_)));clear hK K))))
     ·refine aH F (fun hc=>?_) (fun hc=>?_)<;>(try exact hc.elim)<;>((repeat (first|refine w1 (fun K hK=>?_)|refine w2 ?_|refine w3 ?_| ((first|refine w4 ?_|refine wD ?_|refine w5 ?_|refine w6 ?_|refine w7 ?_);try refine am F ?_)| (refine w8 ?_;refine am F ?_;refine w9 ?_)| ((first|refine hK _ _ (w0 ?_)| (clear hK K;refine hK _ _ (w0 ?_))| (clear hK K;clear hK K;refine hK _ _ (w0 ?_)));clear hK K))))
      ·exfalso;omega
      ·refine tail (-1) _ ?_ ?_ ?_
       ·exact aE F
       ·exact aE F
       ·rw[G0 (by omega),G0 (by omega),G0 (by omega)]
     ·exfalso;omega
   ·(first|refine bD F (fun hg=>?_) (fun hg=>?_)|refine pqo F (fun hg=>?_) (fun hg=>?_))<;>(try exact hg.elim)<;>(try refine am F ?_)<;>((repeat (first|refine w1 (fun K hK=>?_)|refine w2 ?_|refine w3 ?_| ((first|refine w4 ?_|refine wD ?_|refine w5 ?_|refine w6 ?_|refine w7 ?_);try refine am F ?_)| (refine w8 ?_;refine am F ?_;refine w9 ?_)| ((first|refine hK _ _ (w0 ?_)| (clear hK K;refine hK _ _ (w0 ?_))| (clear hK K;clear hK K;refine hK _ _ (w0 ?_)));clear hK K))))
    ·refine aH F (fun hc=>?_) (fun hc=>?_)<;>(try exact hc.elim)<;>((repeat (first|refine w1 (fun K hK=>?_)|refine w2 ?_|refine w3 ?_| ((first|refine w4 ?_|refine wD ?_|refine w5 ?_|refine w6 ?_|refine w7 ?_);try refine am F ?_)| (refine w8 ?_;refine am F ?_;refine w9 ?_)| ((first|refine hK _ _ (w0 ?_)| (clear hK K;refine hK _ _ (w0 ?_))| (clear hK K;clear hK K;refine hK _ _ (w0 ?_)));clear hK K))))
     ·refine tail (c-55) _ ?_ ?_ ?_
      ·simp(disch:=first|omega| (simp only[go_sem, ↓reduceIte,Nat.reduceEqDiff];done)|fail) only[go_sem, ↓reduceIte,Int.reduceToNat,Int.reduceLE,Int.reduceLT,Int.reduceSub,Int.reduceAdd,Nat.reduceEqDiff,Nat.reduceAdd,Nat.reduceLeDiff,Nat.reduceLT,Nat.reduceMul,Nat.reduceSub,F];congr 1;omega
      ·exact aE F
      ·rw[G0 (by omega),G0 (by omega),G3 (by omega)]
     ·refine tail (-1) _ ?_ ?_ ?_
      ·exact aE F
      ·exact aE F
      ·rw[G0 (by omega),G0 (by omega),G0 (by omega)]
    ·refine tail (-1) _ ?_ ?_ ?_
     ·exact aE F
     ·exact aE F
     ·rw[G0 (by omega),G0 (by omega),G0 (by omega)]
 ·(first|refine bD F (fun hg=>?_) (fun hg=>?_)|refine pqo F (fun hg=>?_) (fun hg=>?_))<;>(try exact hg.elim)<;>(try refine am F ?_)<;>((repeat (first|refine w1 (fun K hK=>?_)|refine w2 ?_|refine w3 ?_| ((first|refine w4 ?_|refine wD ?_|refine w5 ?_|refine w6 ?_|refine w7 ?_);try refine am F ?_)| (refine w8 ?_;refine am F ?_;refine w9 ?_)| ((first|refine hK _ _ (w0 ?_)| (clear hK K;refine hK _ _ (w0 ?_))| (clear hK K;clear hK K;refine hK _ _ (w0 ?_)));clear hK K))))
  ·exfalso;omega
  ·(first|refine bD F (fun hg=>?_) (fun hg=>?_)|refine pqo F (fun hg=>?_) (fun hg=>?_))<;>(try exact hg.elim)<;>(try refine am F ?_)<;>((repeat (first|refine w1 (fun K hK=>?_)|refine w2 ?_|refine w3 ?_| ((first|refine w4 ?_|refine wD ?_|refine w5 ?_|refine w6 ?_|refine w7 ?_);try refine am F ?_)| (refine w8 ?_;refine am F ?_;refine w9 ?_)| ((first|refine hK _ _ (w0 ?_)| (clear hK K;refine hK _ _ (w0 ?_))| (clear hK K;clear hK K;refine hK _ _ (w0 ?_)));clear hK K))))
   ·exfalso;omega
   ·refine tail (-1) _ ?_ ?_ ?_
    ·exact aE F
    ·exact aE F
    ·rw[G0 (by omega),G0 (by omega),G0 (by omega)]
theorem d9(h j:Heap)(s:Bs)(q:Nat):(h++Blk.iter s q::j)[h.length]? =some (.iter s q):=by simp
theorem jD(s:Bs)(base:Int)(most:Nat)(hb0:1≤base)(hb1:base≤16)(hm:most≤7)(hs:s.length≤1073741824)(h:Heap):
  Sat (CT G) 275 [.str s,.int .i64 base,.int .i64 most] h (fun r h'=>r=.int .i64 (numF s base most)∧h'=h):=by
 refine sb [.tmp 6] Tryz.func275 ?_;intro Q hQ;refine aj trivial ?_;(first|refine bD trivial (fun hg=>?_) (fun hg=>?_)|refine pqo trivial (fun hg=>?_) (fun hg=>?_))<;>(try exact hg.elim)<;>(try refine am trivial ?_)<;>(refine aj trivial ?_)
 ·refine ay hQ trivial ?_;refine fR (.int _ _) ?_;unfold numF;rw[G3 (.inl hg)]
 ·refine aH trivial (fun hc=>?_) (fun hc=>?_)<;>(try exact hc.elim)<;>(refine aj trivial ?_)
  ·refine ay hQ trivial ?_;refine fR (.int _ _) ?_;unfold numF;rw[G3 (.inr hc)]
  ·have hn:numF s base most=numGo base s 0:=(by unfold numF;rw[G0 (by rintro(h1|h1);exact hg h1;omega)]);rw[hn]at hQ;have h16:(16:Int)^s.length≤268435456:=by
    have:(16:Nat)^s.length≤16^7:=Q8 (by omega) (by omega);have:((16^s.length:Nat):Int)≤((16^7:Nat):Int):=by omega
    simpa using this
   refine lm (fun nL tL hL=>∃(k:Nat) (n:Int),s.length-k=nL∧h++[.iter s k]=hL∧tL 7=.int .i64 n∧k≤s.length∧numGo base s 0=numGo base (s.drop k) n∧0≤n∧n<16^k) ((fun(k:Nat) (n:Int)=>(s.length-k:Nat)) (0) (0)) ?_ ?_
   ·refine G9 ⟨0,0,rfl,ar,?_,by omega,by simp,by omega,by simp⟩;all_goals first|exact aE trivial|rfl|omega|trivial|skip
   rintro _ s2 h' ⟨k,n,rfl,rfl,e7,hk,hv,h0,h1⟩ K2 hK2;simp only[ai,ak,Nat.reduceEqDiff, ↓reduceIte]at e7;have F:=e7;refine aj F ?_;refine cd (d9 _ _ _ _) (fun hlt=>?_) (fun hge=>?_)
   ·have hb:=G1 hlt;have hdrop:=P9 hlt;have hbn0:0≤base*n:=Int.mul_nonneg (by omega) h0;have hbn1:base*n≤16*n:=P6 hb1 h0;have hk16:(16:Int)^(k+1)≤268435456:=by
     have:(16:Nat)^(k+1)≤16^7:=Q8 (by omega) (by omega);have:((16^(k+1):Nat):Int)≤((16^7:Nat):Int):=by omega
     simpa using this
    have hk17:(16:Int)^(k+1)=16^k*16:=Int.pow_succ _ _;rw[hdrop,numGo]at hv;by_cases ha:s[k].toNat<128
    ·have hd:Utf8.decode ⟨s.toArray⟩ k=(s[k].toNat,1):=d6 s k _ hb ha;have hlt':=kw s[k].toNat base (by omega);rw[hd];(try refine am F ?_);refine aj F ?_;refine aJ F (lh G s[k].toNat base (by omega) (by omega) (by omega) hb1 _) ?_;refine aH F (fun hc=>?_) (fun hc=>?_)<;>(try exact hc.elim)
     ·refine aj F ?_;refine ay hQ F ?_;refine fR (.int _ _) ?_;rw[hv,G3 hc]
     ·rw[G0 (by omega)]at hv;refine aj F ?_;refine hK2 _ _ _ (G9 ⟨k+1,base*n+digF s[k].toNat base,rfl,ar,?_,by omega,hv,by omega,by omega⟩) (by omega);all_goals first|exact aE F|rfl|omega|trivial|skip
    ·have hd:=gg s k _ hb (by omega);unfold dec at hd;(try refine am F ?_);refine aj F ?_;refine aJ F (lh G (Utf8.decode ⟨s.toArray⟩ k).1 base (by omega) (by omega) (by omega) hb1 _) ?_;refine aH F (fun hc=>?_) (fun hc=>?_)<;>(try exact hc.elim)
     ·refine aj F ?_;refine ay hQ F ?_;refine fR (.int _ _) ?_;rw[hv,G3 (by rw[lg _ _ (by omega)];omega)]
     ·exfalso;rw[lg _ _ (by omega)]at hc;omega
   ·(try refine am F ?_);refine aj F ?_;refine ay hQ F ?_;refine fR (.int _ _) ?_;rw[hv,P7 (by omega)];rfl
theorem iy{r:Int}(h:fix r=65533):enc r=[239,191,189]:=by rw[fJ,h];rfl
theorem mF(r:Int)(h:Heap):Sat (CT G) 75 [.str (enc r)] h (fun x h'=>x=.bool true∧h'=h):=by
 have hl:=cZ r;have hd:Utf8.decode ⟨(enc r).toArray⟩ 0=(fix r,(enc r).length):=ku r;have hfl:=mD r;refine sb [.tmp 2] Tryz.func75 ?_;intro Q hQ;refine aj trivial ?_;refine lm (fun nL tL hL=>∃(k:Nat),(enc r).length-k=nL∧h++[.iter (enc r) k]=hL∧(k=0∨k=(enc r).length)) ((fun(k:Nat)=>((enc r).length-k:Nat)) (0)) ?_ ?_
 ·refine G9 ⟨0,rfl,ar,.inl rfl⟩;all_goals first|exact aE trivial|rfl|omega|trivial|skip
 rintro _ s2 h' ⟨k,rfl,rfl,hk⟩ K2 hK2;refine aj trivial ?_;refine cd (d9 _ _ _ _) (fun hlt=>?_) (fun hge=>?_)
 ·obtain rfl:k=0:=by omega
  rw[hd];try refine am trivial ?_
  refine aj trivial ?_;(first|refine bD trivial (fun hg=>?_) (fun hg=>?_)|refine pqo trivial (fun hg=>?_) (fun hg=>?_))<;>(try exact hg.elim)<;>(try refine am trivial ?_)<;>(refine aj trivial ?_)
  ·have hp:Lib.hasPrefix (enc r) [239,191,189]=true:=(by rw[iy (by omega)];rfl);have F:=F2 hp @Q2;refine aJ F (cP G (enc r) [239,191,189] _) ?_;refine hK2 _ _ _ (G9 ⟨(enc r).length,rfl,ar,.inr rfl⟩) (by omega);all_goals first|exact aE F|rfl|omega|trivial|skip
  ·refine hK2 _ _ _ (G9 ⟨(enc r).length,rfl,ar,.inr rfl⟩) (by omega);all_goals first|exact aE trivial|rfl|omega|trivial|skip
 ·try refine am trivial ?_
  refine aj trivial ?_;refine ay hQ trivial ?_;refine fR (.bool _) ?_;rfl
theorem rO(n:Int)(h0:0≤n)(h1:n≤2147483647)(h:Heap):Sat (CT G) 276 [.int .i64 n] h (fun x h'=>x=.bool (rightF n)∧h'=h):=by
 have ht:n=9∨n=10∨n=13∨(n≠9∧n≠10∧n≠13):=by omega
 rcases ht with e|e|e| ⟨h9,h10,h13⟩
 ·have b9:(n==9)=true:=by simpa using e
  have F:=b9;refine sb [.tmp 2] Tryz.func276 ?_;intro Q hQ;refine aj F ?_;refine ay hQ F ?_;refine fR (.bool _) ?_;simp[rightF,e]
 ·have b9:(n==9)=false:=by simp;omega
  have b10:(n==10)=true:=by simpa using e
  have F:=F2 b9 b10;refine sb [.tmp 2] Tryz.func276 ?_;intro Q hQ;refine aj F ?_;refine ay hQ F ?_;refine fR (.bool _) ?_;simp[rightF,e]
 ·have b9:(n==9)=false:=by simp;omega
  have b10:(n==10)=false:=by simp;omega
  have b13:(n==13)=true:=by simpa using e
  have F:=F3 b9 b10 b13;refine sb [.tmp 2] Tryz.func276 ?_;intro Q hQ;refine aj F ?_;refine ay hQ F ?_;refine fR (.bool _) ?_;simp[rightF,e]
 ·have b9:(n==9)=false:=by simpa using h9
  have b10:(n==10)=false:=by simpa using h10
  have b13:(n==13)=false:=by simpa using h13
  have F:=F5 b9 b10 b13 @j1 @eF;refine sb [.tmp 2] Tryz.func276 ?_;intro Q hQ;refine aj F ?_;(first|refine bD F (fun hg=>?_) (fun hg=>?_)|refine pqo F (fun hg=>?_) (fun hg=>?_))<;>(try exact hg.elim)<;>(try refine am F ?_)<;>(refine aj F ?_)
  ·refine aJ F (mF G n _) ?_;refine ay hQ F ?_;refine fR (.bool _) ?_;simp[rightF,h9,h10,h13,hg];rw[N8];simp
  ·refine ay hQ F ?_;refine fR (.bool _) ?_;simp[rightF,h9,h10,h13];omega
def signF(name:Bs):Int×Bool:=
 if name=[97,109,112]then(38,true)else if name=[108,116]then(60,true)else if name=[103,116]then(62,true)
 else if name=[113,117,111,116]then(34,true)else if name=[97,112,111,115]then(39,true)
 else
  let n:=if Lib.hasPrefix name [35,120]=true then numF (name.drop 2) 16 6 else if Lib.hasPrefix name [35]=true then numF (name.drop 1) 10 7 else-1
  if n<0 then(0,false)else if rightF n=true then(n,true)else(65533,true)
theorem ue(base:Int)(hb0:1≤base)(hb:base≤16):∀(s:Bs) (n:Int),0≤n→ -1≤numGo base s n∧numGo base s n<(n+1)*16^s.length:=by
 intro s;induction s with
 |nil=>intro n hn;simp[numGo];omega
 |cons b t ih=>
  intro n hn;rw[numGo];have hp:(0:Int)<16^t.length:=Int.pow_pos (by omega);split
  ·refine⟨by omega,?_⟩;have:0≤(n+1)*16^(b::t).length:=Int.mul_nonneg (by omega) (Int.le_of_lt (Int.pow_pos (by omega)));omega
  ·rename_i hd;have hlt:=kw b.toNat base (by omega);have hbn0:0≤base*n:=Int.mul_nonneg (by omega) hn;have hbn1:base*n≤16*n:=P6 hb hn;obtain⟨h1,h2⟩:=ih (base*n+digF b.toNat base) (by omega);refine⟨h1,Int.lt_of_lt_of_le h2 ?_⟩;rw[G5,Int.pow_succ,Int.mul_comm (16^t.length) 16, ← Int.mul_assoc];exact P6 (by omega) (Int.le_of_lt hp)
theorem iz(s:Bs)(base:Int)(most:Nat)(hb0:1≤base)(hb1:base≤16)(hm:most≤7): -1≤numF s base most∧numF s base most≤268435455:=by
 unfold numF;split
 ·omega
 ·rename_i h;have:=ue base hb0 hb1 s 0 (by omega);have h16:(16:Int)^s.length≤268435456:=by
   have:(16:Nat)^s.length≤16^7:=Q8 (by omega) (by omega);have:((16^s.length:Nat):Int)≤((16^7:Nat):Int):=by omega
   simpa using this
  omega
theorem dn(n:Nat)(k:IntKind)(a:Int)(b:Bool):Clo n (.tup [.int k a,.bool b]):=.tup _ (by intro c hc;simp at hc;rcases hc with rfl|rfl;exact .int _ _;exact .bool _)
theorem uf(name:Bs)(hs:name.length≤1048576)(h:Heap):Sat (CT G) 232 [.str name] h (fun x h'=>x=.tup [.int .i32 (signF name).1,.bool (signF name).2]∧h'=h):=by
 have F:= @j1;refine sb [.tmp 2,.tmp 3] Tryz.func232 ?_;intro Q hQ;(repeat (first|refine w1 (fun K hK=>?_)|refine w2 ?_|refine w3 ?_| ((first|refine w4 ?_|refine wD ?_|refine w5 ?_|refine w6 ?_|refine w7 ?_);try refine am F ?_)| (refine w8 ?_;refine am F ?_;refine w9 ?_)| ((first|refine hK _ _ (w0 ?_)| (clear hK K;refine hK _ _ (w0 ?_))| (clear hK K;clear hK K;refine hK _ _ (w0 ?_)));clear hK K)))
 refine aH F (fun c1=>?_) (fun c1=>?_)<;>(try exact c1.elim)<;>((repeat (first|refine w1 (fun K hK=>?_)|refine w2 ?_|refine w3 ?_| ((first|refine w4 ?_|refine wD ?_|refine w5 ?_|refine w6 ?_|refine w7 ?_);try refine am F ?_)| (refine w8 ?_;refine am F ?_;refine w9 ?_)| ((first|refine hK _ _ (w0 ?_)| (clear hK K;refine hK _ _ (w0 ?_))| (clear hK K;clear hK K;refine hK _ _ (w0 ?_)));clear hK K))))
 ·refine ay hQ F ?_;refine fR (dn _ _ _ _) ?_;simp[signF,c1]
 refine aH F (fun c2=>?_) (fun c2=>?_)<;>(try exact c2.elim)<;>((repeat (first|refine w1 (fun K hK=>?_)|refine w2 ?_|refine w3 ?_| ((first|refine w4 ?_|refine wD ?_|refine w5 ?_|refine w6 ?_|refine w7 ?_);try refine am F ?_)| (refine w8 ?_;refine am F ?_;refine w9 ?_)| ((first|refine hK _ _ (w0 ?_)| (clear hK K;refine hK _ _ (w0 ?_))| (clear hK K;clear hK K;refine hK _ _ (w0 ?_)));clear hK K))))
 ·refine ay hQ F ?_;refine fR (dn _ _ _ _) ?_;simp[signF,c2]
 refine aH F (fun c3=>?_) (fun c3=>?_)<;>(try exact c3.elim)<;>((repeat (first|refine w1 (fun K hK=>?_)|refine w2 ?_|refine w3 ?_| ((first|refine w4 ?_|refine wD ?_|refine w5 ?_|refine w6 ?_|refine w7 ?_);try refine am F ?_)| (refine w8 ?_;refine am F ?_;refine w9 ?_)| ((first|refine hK _ _ (w0 ?_)| (clear hK K;refine hK _ _ (w0 ?_))| (clear hK K;clear hK K;refine hK _ _ (w0 ?_)));clear hK K))))
 ·refine ay hQ F ?_;refine fR (dn _ _ _ _) ?_;simp[signF,c3]
 refine aH F (fun c4=>?_) (fun c4=>?_)<;>(try exact c4.elim)<;>((repeat (first|refine w1 (fun K hK=>?_)|refine w2 ?_|refine w3 ?_| ((first|refine w4 ?_|refine wD ?_|refine w5 ?_|refine w6 ?_|refine w7 ?_);try refine am F ?_)| (refine w8 ?_;refine am F ?_;refine w9 ?_)| ((first|refine hK _ _ (w0 ?_)| (clear hK K;refine hK _ _ (w0 ?_))| (clear hK K;clear hK K;refine hK _ _ (w0 ?_)));clear hK K))))
 ·refine ay hQ F ?_;refine fR (dn _ _ _ _) ?_;simp[signF,c4]
 refine aH F (fun c5=>?_) (fun c5=>?_)<;>(try exact c5.elim)<;>((repeat (first|refine w1 (fun K hK=>?_)|refine w2 ?_|refine w3 ?_| ((first|refine w4 ?_|refine wD ?_|refine w5 ?_|refine w6 ?_|refine w7 ?_);try refine am F ?_)| (refine w8 ?_;refine am F ?_;refine w9 ?_)| ((first|refine hK _ _ (w0 ?_)| (clear hK K;refine hK _ _ (w0 ?_))| (clear hK K;clear hK K;refine hK _ _ (w0 ?_)));clear hK K))))
 ·refine ay hQ F ?_;refine fR (dn _ _ _ _) ?_;simp[signF,c5]
 refine(cO G name [35,120] _).mono ?_;rintro r h' ⟨rfl,rfl⟩;try refine am F ?_
 (repeat (first|refine w1 (fun K hK=>?_)|refine w2 ?_|refine w3 ?_| ((first|refine w4 ?_|refine wD ?_|refine w5 ?_|refine w6 ?_|refine w7 ?_);try refine am F ?_)| (refine w8 ?_;refine am F ?_;refine w9 ?_)| ((first|refine hK _ _ (w0 ?_)| (clear hK K;refine hK _ _ (w0 ?_))| (clear hK K;clear hK K;refine hK _ _ (w0 ?_)));clear hK K)))
 have tail:∀(t':Env) (n:Int),t' 4=.int .i64 n→n=(if Lib.hasPrefix name [35,120]=true then numF (name.drop 2) 16 6 else if Lib.hasPrefix name [35]=true then numF (name.drop 1) 10 7 else-1)→K t' h':=by
  intro t' n e4 hn;have hS:signF name=if n<0 then(0,false)else if rightF n=true then(n,true)else(65533,true):=by
   unfold signF;rw[G0 c1,G0 c2,G0 c3,G0 c4,G0 c5, ← hn]
  have hb: -1≤n∧n≤268435455:=by
   rw[hn];split
   ·exact iz _ _ _ (by omega) (by omega) (by omega)
   ·split
    ·exact iz _ _ _ (by omega) (by omega) (by omega)
    ·omega
  refine hK _ _ (G9 ?_);clear hK K;have F:=F2 F e4;(repeat (first|refine w1 (fun K hK=>?_)|refine w2 ?_|refine w3 ?_| ((first|refine w4 ?_|refine wD ?_|refine w5 ?_|refine w6 ?_|refine w7 ?_);try refine am F ?_)| (refine w8 ?_;refine am F ?_;refine w9 ?_)| ((first|refine hK _ _ (w0 ?_)| (clear hK K;refine hK _ _ (w0 ?_))| (clear hK K;clear hK K;refine hK _ _ (w0 ?_)));clear hK K)))
  refine aH F (fun hc=>?_) (fun hc=>?_)<;>(try exact hc.elim)<;>((repeat (first|refine w1 (fun K hK=>?_)|refine w2 ?_|refine w3 ?_| ((first|refine w4 ?_|refine wD ?_|refine w5 ?_|refine w6 ?_|refine w7 ?_);try refine am F ?_)| (refine w8 ?_;refine am F ?_;refine w9 ?_)| ((first|refine hK _ _ (w0 ?_)| (clear hK K;refine hK _ _ (w0 ?_))| (clear hK K;clear hK K;refine hK _ _ (w0 ?_)));clear hK K))))
  ·refine ay hQ F ?_;refine fR (dn _ _ _ _) ?_;rw[hS,G3 hc]
  ·rw[G0 (by omega)]at hS;refine(rO G n (by omega) (by omega) _).mono ?_;rintro r h' ⟨rfl,rfl⟩;(try refine am F ?_);(repeat (first|refine w1 (fun K hK=>?_)|refine w2 ?_|refine w3 ?_| ((first|refine w4 ?_|refine wD ?_|refine w5 ?_|refine w6 ?_|refine w7 ?_);try refine am F ?_)| (refine w8 ?_;refine am F ?_;refine w9 ?_)| ((first|refine hK _ _ (w0 ?_)| (clear hK K;refine hK _ _ (w0 ?_))| (clear hK K;clear hK K;refine hK _ _ (w0 ?_)));clear hK K)))
   refine aH F (fun hr=>?_) (fun hr=>?_)<;>(try exact hr.elim)<;>((repeat (first|refine w1 (fun K hK=>?_)|refine w2 ?_|refine w3 ?_| ((first|refine w4 ?_|refine wD ?_|refine w5 ?_|refine w6 ?_|refine w7 ?_);try refine am F ?_)| (refine w8 ?_;refine am F ?_;refine w9 ?_)| ((first|refine hK _ _ (w0 ?_)| (clear hK K;refine hK _ _ (w0 ?_))| (clear hK K;clear hK K;refine hK _ _ (w0 ?_)));clear hK K))))
   ·refine ay hQ F ?_;refine fR (dn _ _ _ _) ?_;rw[hS,G0 (by simpa using hr)]
   ·refine ay hQ F ?_;refine fR (dn _ _ _ _) ?_;rw[hS,G3 (by simpa using hr)]
 have hd2:(name.drop 2).length≤1073741824:=by simp;omega
 have hd1:(name.drop 1).length≤1073741824:=by simp;omega
 refine aH F (fun hx=>?_) (fun hx=>?_)<;>(try exact hx.elim)<;>((repeat (first|refine w1 (fun K hK=>?_)|refine w2 ?_|refine w3 ?_| ((first|refine w4 ?_|refine wD ?_|refine w5 ?_|refine w6 ?_|refine w7 ?_);try refine am F ?_)| (refine w8 ?_;refine am F ?_;refine w9 ?_)| ((first|refine hK _ _ (w0 ?_)| (clear hK K;refine hK _ _ (w0 ?_))| (clear hK K;clear hK K;refine hK _ _ (w0 ?_)));clear hK K))))
 ·have e:Lib.trimPrefix name [35,120]=name.drop 2:=by unfold Lib.trimPrefix;rw[G3 hx];rfl
  rw[e];refine(jD G (name.drop 2) 16 6 (by omega) (by omega) (by omega) hd2 _).mono ?_;rintro r h' ⟨rfl,rfl⟩;try refine am F ?_
  (repeat (first|refine w1 (fun K hK=>?_)|refine w2 ?_|refine w3 ?_| ((first|refine w4 ?_|refine wD ?_|refine w5 ?_|refine w6 ?_|refine w7 ?_);try refine am F ?_)| (refine w8 ?_;refine am F ?_;refine w9 ?_)| ((first|refine hK _ _ (w0 ?_)| (clear hK K;refine hK _ _ (w0 ?_))| (clear hK K;clear hK K;refine hK _ _ (w0 ?_)));clear hK K)))
  refine tail _ (numF (name.drop 2) 16 6) ?_ (by rw[G3 hx]);simp(disch:=first|omega| (simp only[go_sem, ↓reduceIte,Nat.reduceEqDiff];done)|fail) only[go_sem, ↓reduceIte,Int.reduceToNat,Int.reduceLE,Int.reduceLT,Int.reduceSub,Int.reduceAdd,Nat.reduceEqDiff,Nat.reduceAdd,Nat.reduceLeDiff,Nat.reduceLT,Nat.reduceMul,Nat.reduceSub,F]
 ·refine(cO G name [35] _).mono ?_;rintro r h' ⟨rfl,rfl⟩;try refine am F ?_
  (repeat (first|refine w1 (fun K hK=>?_)|refine w2 ?_|refine w3 ?_| ((first|refine w4 ?_|refine wD ?_|refine w5 ?_|refine w6 ?_|refine w7 ?_);try refine am F ?_)| (refine w8 ?_;refine am F ?_;refine w9 ?_)| ((first|refine hK _ _ (w0 ?_)| (clear hK K;refine hK _ _ (w0 ?_))| (clear hK K;clear hK K;refine hK _ _ (w0 ?_)));clear hK K)))
  refine aH F (fun hy=>?_) (fun hy=>?_)<;>(try exact hy.elim)<;>((repeat (first|refine w1 (fun K hK=>?_)|refine w2 ?_|refine w3 ?_| ((first|refine w4 ?_|refine wD ?_|refine w5 ?_|refine w6 ?_|refine w7 ?_);try refine am F ?_)| (refine w8 ?_;refine am F ?_;refine w9 ?_)| ((first|refine hK _ _ (w0 ?_)| (clear hK K;refine hK _ _ (w0 ?_))| (clear hK K;clear hK K;refine hK _ _ (w0 ?_)));clear hK K))))
  ·have e:Lib.trimPrefix name [35]=name.drop 1:=(by unfold Lib.trimPrefix;rw[G3 hy];rfl);rw[e];refine(jD G (name.drop 1) 10 7 (by omega) (by omega) (by omega) hd1 _).mono ?_;rintro r h' ⟨rfl,rfl⟩;(try refine am F ?_);(repeat (first|refine w1 (fun K hK=>?_)|refine w2 ?_|refine w3 ?_| ((first|refine w4 ?_|refine wD ?_|refine w5 ?_|refine w6 ?_|refine w7 ?_);try refine am F ?_)| (refine w8 ?_;refine am F ?_;refine w9 ?_)| ((first|refine hK _ _ (w0 ?_)| (clear hK K;refine hK _ _ (w0 ?_))| (clear hK K;clear hK K;refine hK _ _ (w0 ?_)));clear hK K)))
   refine tail _ (numF (name.drop 1) 10 7) ?_ (by rw[G0 (by simpa using hx),G3 hy]);simp(disch:=first|omega| (simp only[go_sem, ↓reduceIte,Nat.reduceEqDiff];done)|fail) only[go_sem, ↓reduceIte,Int.reduceToNat,Int.reduceLE,Int.reduceLT,Int.reduceSub,Int.reduceAdd,Nat.reduceEqDiff,Nat.reduceAdd,Nat.reduceLeDiff,Nat.reduceLT,Nat.reduceMul,Nat.reduceSub,F]
  ·refine tail _ (-1) ?_ (by rw[G0 (by simpa using hx),G0 (by simpa using hy)]);simp(disch:=first|omega| (simp only[go_sem, ↓reduceIte,Nat.reduceEqDiff];done)|fail) only[go_sem, ↓reduceIte,Int.reduceToNat,Int.reduceLE,Int.reduceLT,Int.reduceSub,Int.reduceAdd,Nat.reduceEqDiff,Nat.reduceAdd,Nat.reduceLeDiff,Nat.reduceLT,Nat.reduceMul,Nat.reduceSub,F]
end
section
theorem dB(s:Bs)(k:Nat):dec s k=dec (s.drop k) 0:=by
 rw[eG,eG];simp only[L9,K8,J7,T5,L2,Nat.sub_zero,Nat.add_assoc]
theorem mG(s:Bs)(k:Nat)(h:k<s.length):Rune (dec s k).1:=by
 have hb:=G1 h;by_cases ha:s[k].toNat<128
 ·rw[d6 s k _ hb ha];exact⟨by simp,by simp;omega⟩
 ·obtain⟨h1,h2,_⟩:=gg s k _ hb (by omega);exact⟨by omega,by omega⟩
def runesN:Nat→Bs→List Int
 |0,_=>[]
 |f+1,s=>if s=[]then []else((dec s 0).1:Int)::runesN f (s.drop (dec s 0).2)
def runesF(s:Bs):List Int:=runesN s.length s
theorem nX:∀(f:Nat) (s:Bs),s.length≤f→runesN f s=runesN s.length s:=by
 intro f;induction f using Nat.strongRecOn with
 |ind f ih=>
  intro s hs;cases s with
  |nil=>cases f<;>rfl
  |cons b t=>
   obtain⟨f,rfl⟩:∃g,f=g+1:=⟨f-1,by simp at hs;omega⟩;have hd:=bg (b::t) 0 (by simp);simp only[G5]at hs hd ⊢;rw[runesN,runesN,G0 (by simp),G0 (by simp)];have hl:((b::t).drop (dec (b::t) 0).2).length≤t.length:=(by simp only[J7,G5];omega);rw[ih f (by omega) _ (by omega)];by_cases hf:t.length=f
   ·subst hf;rw[ih t.length (by omega) _ hl]
   ·rw[ih t.length (by omega) _ hl]
theorem eH:runesF []=[]:=rfl
theorem dI(s:Bs)(h:s≠ []):runesF s=((dec s 0).1:Int)::runesF (s.drop (dec s 0).2):=by
 have hl:0<s.length:=N2.2 h;have hd:=bg s 0 hl;unfold runesF;obtain⟨n,hn⟩:∃n,s.length=n+1:=⟨s.length-1,by omega⟩;rw[hn,runesN,G0 h,nX n _ (by simp only[J7];omega)]
theorem li(s:Bs)(k:Nat)(h:k<s.length):runesF (s.drop k)=((dec s k).1:Int)::runesF (s.drop (k+(dec s k).2)):=by
 rw[dI _ (by intro e;have:=J2 List.length e;simp at this;omega), ← dB,O3]
theorem jE(s:Bs)(k:Nat)(h:s.length≤k):runesF (s.drop k)=[]:=by
 rw[M0 h];rfl
theorem jF:∀(n:Nat) (s:Bs),s.length≤n→(runesF s).length≤s.length:=by
 intro n;induction n with
 |zero=>intro s h;have:s=[]:=K5.1 (by omega);subst this;simp[eH]
 |succ n ih=>
  intro s h;by_cases h0:s=[]
  ·subst h0;simp[eH]
  ·have hd:=bg s 0 (N2.2 h0);rw[dI s h0];have:=ih (s.drop (dec s 0).2) (by simp only[J7];omega);simp only[J7]at this;simp only[G5];omega
theorem iQ:∀(n:Nat) (s:Bs),s.length≤n→∀c∈runesF s,Rune c:=by
 intro n;induction n with
 |zero=>intro s h c hc;have:s=[]:=K5.1 (by omega);subst this;simp[eH]at hc
 |succ n ih=>
  intro s h c hc;by_cases h0:s=[]
  ·subst h0;simp[eH]at hc
  ·have hl:=N2.2 h0;have hd:=bg s 0 hl;rw[dI s h0]at hc;rcases J6.1 hc with rfl|hc
   ·exact mG s 0 hl
   ·exact ih _ (by simp only[J7];omega) c hc
def blankR(c:Int):Bool:=decide (c=9∨c=10∨c=13∨c=32∨c=160∨c=8232∨c=8233∨c=12288)
def ctlR(c:Int):Bool:=decide (c<32∨(127≤c∧c≤159))
def clnR:List Int→List Int→Bool→List Int
 | [],o,_=>o
 |c::t,o,w=>if blankR c then clnR t o (decide (0<o.length))else if ctlR c then clnR t o w else clnR t (o++(if w then [32,c]else [c])) false
def cleanR(s:Bs):List Int:=clnR (runesF s) [] false
def encs(l:List Int):Bs:=l.flatMap enc
def cleanF(s:Bs):Bs:=encs (cleanR s)
theorem fK(r:Int):1≤(enc r).length:=by
 rw[fJ];simp only[];repeat (first|split|simp)
theorem mH(l:List Int):(encs l).length≤4*l.length∧l.length≤(encs l).length:=by
 induction l with
 |nil=>simp[encs]
 |cons c t ih=>
  have h1:=cZ c;have h2:=fK c;simp only[encs,T7,H7,G5]at ih ⊢;omega
theorem gj:∀(l o:List Int) (w:Bool),(clnR l o w).length≤o.length+2*l.length
 | [],o,w=>by simp[clnR]
 |c::t,o,w=>by
  rw[clnR];by_cases hb:blankR c=true
  ·rw[G3 hb];have:=gj t o (decide (0<o.length));simp only[G5];omega
  ·rw[G0 hb];by_cases hk:ctlR c=true
   ·rw[G3 hk];have:=gj t o w;simp only[G5];omega
   ·rw[G0 hk];have:=gj t (o++(if w then [32,c]else [c])) false;have hw:(if w then [32,c]else [c]:List Int).length≤2:=(by split<;>simp);simp only[H7,G5]at this ⊢;omega
theorem dQ:∀(l o:List Int) (w:Bool),(∀c∈l,Rune c)→(∀c∈o,Rune c)→∀c∈clnR l o w,Rune c
 | [],o,w,_,h=>by simpa [clnR]using h
 |c::t,o,w,hl,ho=>by
  rw[clnR];have ht:∀x∈t,Rune x:=fun x hx=>hl x (by simp[hx])
  split
  ·exact dQ t o _ ht ho
  ·split
   ·exact dQ t o w ht ho
   ·refine dQ t _ false ht ?_;intro x hx;rcases R6.1 hx with hx|hx
    ·exact ho x hx
    ·have h32:Rune 32:=⟨by decide,by decide⟩
     split at hx
     ·simp at hx;rcases hx with rfl|rfl
      ·exact h32
      ·exact hl _ (by simp)
     ·simp at hx;subst hx;exact hl _ (by simp)
theorem pZ(s:Bs):(cleanR s).length≤2*s.length:=by
 have h1:=gj (runesF s) [] false;have h2:=jF s.length s (H5 _);simp only[H6]at h1;unfold cleanR;omega
theorem cI(s:Bs):(cleanF s).length≤8*s.length:=by
 have h1:=pZ s;have h2:=mH (cleanR s);unfold cleanF;omega
def cutN:Nat→Bs→Nat→Nat
 |0,_,_=>0
 |f+1,s,n=>if s=[]then 0 else if n<(dec s 0).2 then 0 else(dec s 0).2+cutN f (s.drop (dec s 0).2) (n-(dec s 0).2)
def cutF(s:Bs)(n:Nat):Bs:=s.take (cutN s.length s n)
def rightN:Nat→Bs→Bool
 |0,_=>true
 |f+1,s=>if s=[]then true else if (dec s 0).1=65533∧(dec s 0).2=1 then false else rightN f (s.drop (dec s 0).2)
def rightS(s:Bs):Bool:=rightN s.length s
theorem nZ:∀(f:Nat) (s:Bs),s.length≤f→rightN f s=rightN s.length s:=by
 intro f;induction f using Nat.strongRecOn with
 |ind f ih=>
  intro s hs;cases s with
  |nil=>cases f<;>rfl
  |cons b t=>
   obtain⟨f,rfl⟩:∃g,f=g+1:=⟨f-1,by simp at hs;omega⟩;have hd:=bg (b::t) 0 (by simp);simp only[G5]at hs hd ⊢;rw[rightN,rightN,G0 (show ¬(b::t)=[] by simp),G0 (show ¬(b::t)=[] by simp)];have hl:((b::t).drop (dec (b::t) 0).2).length≤t.length:=(by simp only[J7,G5];omega);rw[ih f (by omega) _ (by omega),ih t.length (by omega) _ hl]
theorem iR(s:Bs)(h:s≠ []):rightS s=if (dec s 0).1=65533∧(dec s 0).2=1 then false else rightS (s.drop (dec s 0).2):=by
 have hl:0<s.length:=N2.2 h;have hd:=bg s 0 hl;unfold rightS;obtain⟨n,hn⟩:∃n,s.length=n+1:=⟨s.length-1,by omega⟩;rw[hn,rightN,G0 h,nZ n _ (by simp only[J7];omega)]
theorem rP(s:Bs)(k:Nat)(h:k<s.length):rightS (s.drop k)=if (dec s k).1=65533∧(dec s k).2=1 then false else rightS (s.drop (k+(dec s k).2)):=by
 rw[iR _ (by intro e;have:=J2 List.length e;simp at this;omega), ← dB,O3]
theorem o0(n b0 b1 b2 b3:Nat)(h1:b1<256)(h2:b2<256)(h0:b0<256)(h:(Lib.decodeN n b0 b1 b2 b3).1=65533):(Lib.decodeN n b0 b1 b2 b3).2=1↔¬(3≤n∧b0=239∧b1=191∧b2=189):=by
 unfold Lib.decodeN at*;by_cases c1:b0<128
 ·rw[G3 c1]at *;simp only[]at *;omega
 rw[G0 c1]at*;by_cases c2:(b0/32=6∧(1<n∧b1/64=2))
 ·rw[G3 c2]at*;by_cases c3:b0%32*64+b1%64≥128
  ·rw[G3 c3]at *;simp only[]at *;omega
  ·rw[G0 c3]at *;exact⟨fun _ hc=>by omega,fun _=>rfl⟩
 rw[G0 c2]at*;by_cases c4:b0/16=14∧(1<n∧b1/64=2)∧(2<n∧b2/64=2)
 ·rw[G3 c4]at*;by_cases c5:(b0%16*4096+b1%64*64+b2%64≥2048∧(b0%16*4096+b1%64*64+b2%64<55296∨(57344≤b0%16*4096+b1%64*64+b2%64∧b0%16*4096+b1%64*64+b2%64≤1114111)))
  ·rw[G3 c5]at *;simp only[]at *;omega
  ·rw[G0 c5]at *;exact⟨fun _ hc=>by omega,fun _=>rfl⟩
 rw[G0 c4]at*;by_cases c6:b0/8=30∧(1<n∧b1/64=2)∧(2<n∧b2/64=2)∧(3<n∧b3/64=2)
 ·rw[G3 c6]at*;by_cases c7:(b0%8*262144+b1%64*4096+b2%64*64+b3%64≥65536∧(b0%8*262144+b1%64*4096+b2%64*64+b3%64<55296∨(57344≤b0%8*262144+b1%64*4096+b2%64*64+b3%64∧b0%8*262144+b1%64*4096+b2%64*64+b3%64≤1114111)))
  ·rw[G3 c7]at *;simp only[]at *;omega
  ·rw[G0 c7]at *;exact⟨fun _ hc=>by omega,fun _=>rfl⟩
 ·rw[G0 c6]at *;exact⟨fun _ hc=>by omega,fun _=>rfl⟩
theorem Cu(u:Bs):Lib.hasPrefix u [239,191,189]=true↔(3≤u.length∧(u.getD 0 0).toNat=239∧(u.getD 1 0).toNat=191∧(u.getD 2 0).toNat=189):=by
 have key:∀(x:UInt8) (n:Nat),n<256→(x.toNat=n↔x=UInt8.ofNat n):=fun x n h=>by rw[← N1,ax n h]
 match u with
 | []=>simp[Lib.hasPrefix]
 | [a]=>simp[Lib.hasPrefix]
 | [a,b]=>simp[Lib.hasPrefix]
 |a::b::c::t=>
  simp only[K9,N3,G5];rw[key a 239 (by omega),key b 191 (by omega),key c 189 (by omega)];unfold Lib.hasPrefix;simp only[List.isPrefixOf,G2,beq_iff_eq];constructor
  ·rintro⟨rfl,rfl,rfl,_⟩;exact⟨by omega,rfl,rfl,rfl⟩
  ·rintro⟨_,rfl,rfl,rfl⟩;exact⟨rfl,rfl,rfl,trivial⟩
theorem ug(s:Bs)(k:Nat)(hd:(dec s k).1=65533):(dec s k).2=1↔Lib.hasPrefix (s.drop k) [239,191,189]=false:=by
 rw[dB]at*;generalize s.drop k=u at*;rw[← Bool.not_eq_true,Cu];rw[eG]at*;exact o0 _ _ _ _ _ (UInt8.toNat_lt _) (UInt8.toNat_lt _) (UInt8.toNat_lt _) hd
theorem fA(r:Int)(x:Bs):dec (enc r++x) 0=(fix r,(enc r).length):=by
 have hl:=mD r;have hs:=oM r;rw[eG,fJ];generalize fix r=c at*;simp only[];by_cases h1:c<128
 ·rw[G3 h1];simp only[N5,L6,K9,G5,H6];rw[ax _ (by omega)];simp[Lib.decodeN,h1]
 ·rw[G0 h1];by_cases h2:c<2048
  ·rw[G3 h2];simp only[N5,L6,K9,N3,G5,H6,L2];rw[ax _ (by omega),ax _ (by omega)];unfold Lib.decodeN;rw[G0 (by omega),G3 (by omega),G3 (by omega)];congr 1;omega
  ·rw[G0 h2];by_cases h3:c<65536
   ·rw[G3 h3];simp only[N5,L6,K9,N3,G5,H6,L2];rw[ax _ (by omega),ax _ (by omega),ax _ (by omega)];unfold Lib.decodeN;rw[G0 (by omega),G0 (by omega),G3 (by omega),G3 (by omega)];congr 1;omega
   ·rw[G0 h3];simp only[N5,L6,K9,N3,G5,H6,L2];rw[ax _ (by omega),ax _ (by omega),ax _ (by omega),ax _ (by omega)];unfold Lib.decodeN;rw[G0 (by omega),G0 (by omega),G0 (by omega),G3 (by omega),G3 (by omega)];congr 1;omega
theorem j4{r:Int}(h:Rune r):fix r=r.toNat:=by
 unfold fix Utf8.valid;unfold Rune at h;rw[G3 (by simp;omega)]
theorem bE(c:Int)(l:List Int):encs (c::l)=enc c++encs l:=by simp[encs]
theorem uh(a b:List Int):encs (a++b)=encs a++encs b:=by simp[encs]
theorem iS:∀{l:List Int},(∀c∈l,Rune c)→runesF (encs l)=l
 | [],_=>rfl
 |c::l,h=>by
  have hc:=h c (by simp);have hp:=fK c;rw[dI _ (by rw[bE];intro e;have h2:=J2 List.length e;rw[H7]at h2;simp only[H6]at h2;omega),bE,fA,j4 hc,List.drop_left' rfl,iS fun x hx=>h x (by simp[hx])];unfold Rune at hc;congr 1
  simp only[];omega
end
section
attribute [local irreducible] WP WPl WPix Sat
variable (G:Nat→Option (List AVal))
theorem q8(c:Int)(h:Heap):Sat (CT G) 126 [.int .i32 c] h (fun r h'=>r=.bool (blankR c)∧h'=h):=by
 have yes:(c=9∨c=10∨c=13∨c=32∨c=160∨c=8232∨c=8233∨c=12288)→blankR c=true:=fun h=>G8 h
 have no:¬(c=9∨c=10∨c=13∨c=32∨c=160∨c=8232∨c=8233∨c=12288)→blankR c=false:=fun h=>G7 h
 refine sb [.tmp 2] Tryz.func126 ?_;intro Q hQ;refine wk trivial ?_;refine cq trivial (fun c0=>?_) (fun c0=>?_)<;>(try exact c0.elim)<;>(refine wk trivial ?_)
 ·refine cq trivial (fun d=>?_) (fun d=>?_)<;>(try exact d.elim)<;>(refine wk trivial ?_)
  ·refine ee hQ trivial ?_;refine fR (.bool _) ?_;rw[yes (by omega)]
  ·exfalso;omega
 refine cq trivial (fun c1=>?_) (fun c1=>?_)<;>(try exact c1.elim)<;>(refine wk trivial ?_)
 ·refine cq trivial (fun d=>?_) (fun d=>?_)<;>(try exact d.elim)<;>(refine wk trivial ?_)
  ·refine ee hQ trivial ?_;refine fR (.bool _) ?_;rw[yes (by omega)]
  ·exfalso;omega
 refine cq trivial (fun c2=>?_) (fun c2=>?_)<;>(try exact c2.elim)<;>(refine wk trivial ?_)
 ·refine cq trivial (fun d=>?_) (fun d=>?_)<;>(try exact d.elim)<;>(refine wk trivial ?_)
  ·refine ee hQ trivial ?_;refine fR (.bool _) ?_;rw[yes (by omega)]
  ·exfalso;omega
 refine cq trivial (fun c3=>?_) (fun c3=>?_)<;>(try exact c3.elim)<;>(refine wk trivial ?_)
 ·refine cq trivial (fun d=>?_) (fun d=>?_)<;>(try exact d.elim)<;>(refine wk trivial ?_)
  ·refine ee hQ trivial ?_;refine fR (.bool _) ?_;rw[yes (by omega)]
  ·exfalso;omega
 refine cq trivial (fun c4=>?_) (fun c4=>?_)<;>(try exact c4.elim)<;>(refine wk trivial ?_)
 ·refine cq trivial (fun d=>?_) (fun d=>?_)<;>(try exact d.elim)<;>(refine wk trivial ?_)
  ·refine ee hQ trivial ?_;refine fR (.bool _) ?_;rw[yes (by omega)]
  ·exfalso;omega
 refine cq trivial (fun c5=>?_) (fun c5=>?_)<;>(try exact c5.elim)<;>(refine wk trivial ?_)
 ·refine cq trivial (fun d=>?_) (fun d=>?_)<;>(try exact d.elim)<;>(refine wk trivial ?_)
  ·refine ee hQ trivial ?_;refine fR (.bool _) ?_;rw[yes (by omega)]
  ·exfalso;omega
 refine cq trivial (fun c6=>?_) (fun c6=>?_)<;>(try exact c6.elim)<;>(refine wk trivial ?_)
 ·refine cq trivial (fun d=>?_) (fun d=>?_)<;>(try exact d.elim)<;>(refine wk trivial ?_)
  ·refine ee hQ trivial ?_;refine fR (.bool _) ?_;rw[yes (by omega)]
  ·exfalso;omega
 refine cq trivial (fun d=>?_) (fun d=>?_)<;>(try exact d.elim)<;>(refine wk trivial ?_)
 ·refine ee hQ trivial ?_;refine fR (.bool _) ?_;rw[yes (by omega)]
 ·refine ee hQ trivial ?_;refine fR (.bool _) ?_;rw[no (by omega)]
theorem mI(c:Int)(h:Heap):Sat (CT G) 128 [.int .i32 c] h (fun r h'=>r=.bool (ctlR c)∧h'=h):=by
 refine sb [.tmp 2] Tryz.func128 ?_;intro Q hQ;refine wk trivial ?_;(first|refine gq trivial (fun g1=>?_) (fun g1=>?_)|refine pq trivial (fun g1=>?_) (fun g1=>?_))<;>(try exact g1.elim)<;>(try refine sq trivial ?_)<;>(refine wk trivial ?_)
 ·refine ee hQ trivial ?_;refine fR (.bool _) ?_;rw[show ctlR c=true from G8 (.inl g1)]
 ·(first|refine gq trivial (fun g2=>?_) (fun g2=>?_)|refine pq trivial (fun g2=>?_) (fun g2=>?_))<;>(try exact g2.elim)<;>(try refine sq trivial ?_)<;>(refine wk trivial ?_)
  ·refine ee hQ trivial ?_;refine fR (.bool _) ?_;unfold ctlR;congr 1
   rw[N8];simp;omega
  ·refine ee hQ trivial ?_;refine fR (.bool _) ?_;rw[show ctlR c=false from G7 (by omega)]
theorem ui(h j:Heap)(a:AVal)(v:Nat)(o s:Bs)(q:Nat):(bldH h (Blk.iter s q::j) a v o)[h.length+2]? =some (.iter s q):=by
 unfold bldH;rw[I3 (by omega),show h.length+2-h.length=2 by omega];rfl
theorem uj(h j:Heap)(a:AVal)(v:Nat)(o:Bs)(x y:Blk):(bldH h (x::j) a v o).set (h.length+2) y=bldH h (y::j) a v o:=by
 unfold bldH;rw[List.set_append_right _ _ (by omega),show h.length+2-h.length=2 by omega];rfl
theorem dp(s:Bs)(hs:s.length≤100000000)(h:Heap):Sat (CT G) 76 [.str s] h (fun r h'=>r=.str (cleanF s)∧h'=h):=by
 have F:= @uj;refine sb [.tmp 2] Tryz.func76 ?_;intro Q hQ;(repeat (first|refine w1 (fun K hK=>?_)|refine w2 ?_|refine w3 ?_| ((first|refine w4 ?_|refine wD ?_|refine w5 ?_|refine w6 ?_|refine w7 ?_);try refine sq F ?_)| (refine w8 ?_;refine sq F ?_;refine w9 ?_)))
 refine hK _ _ (G9 ?_);clear hK K;(repeat (first|refine w1 (fun K hK=>?_)|refine w2 ?_|refine w3 ?_| ((first|refine w4 ?_|refine wD ?_|refine w5 ?_|refine w6 ?_|refine w7 ?_);try refine sq F ?_)| (refine w8 ?_;refine sq F ?_;refine w9 ?_)))
 refine hK _ _ ⟨_,_,S7 (p:=h.length) (v:=0) 5 1 (by omega) (by simp(disch:=first|omega| (simp only[go_sem, ↓reduceIte,seval];first|done|omega)|fail) only[go_sem, ↓reduceIte,seval,F];rfl) 1 rfl,?_⟩;clear hK K;refine wk F ?_;refine lm (fun nL tL hL=>∃(a:AVal) (v k:Nat) (out:List Int) (w:Bool),s.length-k=nL∧bldH h [.iter s k] a v (encs out)=hL∧tL 4=.bool w∧bldA a h.length∧k≤s.length∧clnR (runesF (s.drop k)) out w=cleanR s∧(encs out).length+8*(s.length-k)≤8*s.length) ((fun(a:AVal) (v k:Nat) (out:List Int) (w:Bool)=>(s.length-k:Nat)) ((.nil (.pointer none))) (0) (0) ([]) (false)) ?_ ?_
 ·refine G9 ⟨(.nil (.pointer none)),0,0,[],false,rfl,by simp[bldH,bldR,bufR,encs],?_,.inl rfl,by omega,rfl,by simp[encs]⟩;all_goals try exact zZz F
 rintro _ s2 h' ⟨a,v,k,out,w,rfl,rfl,e4,ha,hk,hv,hl⟩ K2 hK2;simp only[ai,ak,Nat.reduceEqDiff, ↓reduceIte]at e4;have F:=F2 F e4;refine wk F ?_;refine cd (ui _ _ _ _ _ _ _) (fun hlt=>?_) (fun hge=>?_)
 ·have hR:=mG s k hlt;have hp:=bg s k hlt;rw[li s k hlt,clnR]at hv;rw[show Utf8.decode ⟨s.toArray⟩ k=dec s k from rfl];generalize dec s k=d at*;obtain⟨c,m⟩:=d;simp only[]at hR hp hv ⊢;try refine sq F ?_
  refine wk F ?_;refine kq F (q8 G c _) ?_;refine cq F (fun c1=>?_) (fun c1=>?_)<;>(try exact c1.elim)<;>(refine wk F ?_)
  ·rw[G3 c1]at hv;refine kq F (vP G a h [.iter s (k+m)] v (encs out)) ?_;have ho:decide (((encs out).length:Int)>0)=decide (0<out.length):=by
    have:=mH out;rw[N8];simp only[H2];omega
   have F:=F2 F ho;(try refine sq F ?_);refine hK2 _ _ _ (G9 ⟨a,v,k+m,out,decide (0<out.length),rfl,ar,?_,ha,by omega,hv,by omega⟩) (by omega);all_goals try exact zZz F
  ·rw[G0 (by simp[c1])]at hv;refine kq F (mI G c _) ?_;refine cq F (fun c2=>?_) (fun c2=>?_)<;>(try exact c2.elim)<;>(refine wk F ?_)
   ·rw[G3 c2]at hv;refine hK2 _ _ _ (G9 ⟨a,v,k+m,out,w,rfl,ar,?_,ha,by omega,hv,by omega⟩) (by omega);all_goals try exact zZz F
   ·rw[G0 (by simp[c2])]at hv;have he:=cZ c;have e1:encs (out++[32,(c:Int)])=encs out++[32]++enc c:=by
     simp only[encs,List.flatMap_append,T7,List.flatMap_nil,J3,M5];rfl
    have e2:encs (out++[(c:Int)])=encs out++enc c:=by
     simp only[encs,List.flatMap_append,T7,List.flatMap_nil,J3]
    refine cq F (fun c3=>?_) (fun c3=>?_)<;>(try exact c3.elim)<;>(refine wk F ?_)
    ·rw[G3 c3]at hv;refine kq F (cQ G a h [.iter s (k+m)] v (encs out) 32 ha (by omega)) ?_;refine kq F (dY G (.hp h.length 0 0 0) c hR h [.iter s (k+m)] (v+1) (encs out++[32]) (.inr rfl) (by simp only[H7,G5,H6];omega)) ?_;refine hK2 _ _ _ (G9 ⟨(.hp h.length 0 0 0),v+1+1,k+m,out++[32,(c:Int)],false,rfl,by rw[e1];simp,?_,.inr rfl,by omega,hv,by rw[e1];simp only[H7,G5,H6];omega⟩) (by omega);all_goals try exact zZz F
    ·rw[G0 (by simp[c3])]at hv;refine kq F (dY G a c hR h [.iter s (k+m)] v (encs out) ha (by omega)) ?_;refine hK2 _ _ _ (G9 ⟨(.hp h.length 0 0 0),v+1,k+m,out++[(c:Int)],false,rfl,by rw[e2],?_,.inr rfl,by omega,hv,by rw[e2];simp only[H7];omega⟩) (by omega);all_goals try exact zZz F
 ·rw[jE s k (by omega)]at hv;try refine sq F ?_
  refine wk F ?_;refine(jB G a h [.iter s k] v (encs out)).mono ?_;rintro r h' ⟨rfl,b2,rfl⟩;try refine sq F ?_
  refine wk F ?_;refine ee hQ F ?_;exact V3 (j:=[bldR a (h.length+1) v (encs out),b2,.iter s k]) (by simp) (.str _) ⟨J2 AVal.str (by unfold cleanF;rw[← hv];rfl),rfl⟩
theorem lj:∀(f:Nat) (s:Bs) (n:Nat),s.length≤f→cutN f s n=cutN s.length s n:=by
 intro f;induction f using Nat.strongRecOn with
 |ind f ih=>
  intro s n hs;cases s with
  |nil=>cases f<;>rfl
  |cons b t=>
   obtain⟨f,rfl⟩:∃g,f=g+1:=⟨f-1,by simp at hs;omega⟩;have hd:=bg (b::t) 0 (by simp);simp only[G5]at hs hd ⊢;have hl:((b::t).drop (dec (b::t) 0).2).length≤t.length:=(by simp only[J7,G5];omega);rw[cutN,cutN,G0 (show ¬(b::t)=[] by simp),G0 (show ¬(b::t)=[] by simp),ih f (by omega) _ _ (by omega),ih t.length (by omega) _ _ hl]
def cutA(s:Bs)(k n:Nat):Nat:=cutN (s.drop k).length (s.drop k) n
theorem eX(s:Bs)(k n:Nat)(h:s.length≤k):cutA s k n=0:=by unfold cutA;rw[M0 h];rfl
theorem iB(s:Bs)(k n:Nat)(h:k<s.length):cutA s k n=if n<(dec s k).2 then 0 else(dec s k).2+cutA s (k+(dec s k).2) (n-(dec s k).2):=by
 have hd:=bg s k h;have hl:(s.drop k).length=(s.length-k-1)+1:=by rw[J7];omega
 unfold cutA;rw[hl,cutN,G0 (by intro e;rw[e]at hl;simp at hl), ← dB,O3,lj (s.length-k-1) _ _ (by simp only[J7];omega)]
theorem vQ(s:Bs):∀(f k n:Nat),s.length≤k+f→cutA s k n≤n∧cutA s k n≤s.length-k:=by
 intro f;induction f with
 |zero=>intro k n h;rw[eX s k n (by omega)];omega
 |succ f ih=>
  intro k n h;rcases N9 k s.length with h1|h1
  ·have hd:=bg s k h1;rw[iB s k n h1];split
   ·omega
   ·have:=ih (k+(dec s k).2) (n-(dec s k).2) (by omega);omega
  ·rw[eX s k n h1];omega
theorem uk(s:Bs):∀(f k n:Nat),s.length≤k+f→s.length-k≤n→cutA s k n=s.length-k:=by
 intro f;induction f with
 |zero=>intro k n h _;rw[eX s k n (by omega)];omega
 |succ f ih=>
  intro k n h hn;rcases N9 k s.length with h1|h1
  ·have hd:=bg s k h1;rw[iB s k n h1,G0 (by omega),ih _ _ (by omega) (by omega)];omega
  ·rw[eX s k n h1];omega
theorem ul(s:Bs)(n:Nat)(hs:s.length≤1073741824)(hn:n≤1073741824)(h:Heap):Sat (CT G) 163 [.str s,.int .i64 n] h (fun r h'=>r=.str (cutF s n)∧h'=h):=by
 skip
 refine sb [.tmp 4] Tryz.func163 ?_;intro Q hQ;(repeat (first|refine w1 (fun K hK=>?_)|refine w2 ?_|refine w3 ?_| ((first|refine w4 ?_|refine wD ?_|refine w5 ?_|refine w6 ?_|refine w7 ?_);try refine sq trivial ?_)| (refine w8 ?_;refine sq trivial ?_;refine w9 ?_)| ((first|refine hK _ _ (w0 ?_)| (clear hK K;refine hK _ _ (w0 ?_))| (clear hK K;clear hK K;refine hK _ _ (w0 ?_)));clear hK K)))
 have tail:∀(t':Env) (e pos:Nat),t' 0=.str s→t' 1=.int .i64 n→t' 5=.int .i64 e→e≤s.length→(n<s.length→e=cutN s.length s n)→K t' (h++[.iter s pos]):=by
  intro t' e pos e0 e1 e5 he hx;refine hK _ _ (G9 ?_);clear hK K;have F:=F3 e0 e1 e5;(repeat (first|refine w1 (fun K hK=>?_)|refine w2 ?_|refine w3 ?_| ((first|refine w4 ?_|refine wD ?_|refine w5 ?_|refine w6 ?_|refine w7 ?_);try refine sq F ?_)| (refine w8 ?_;refine sq F ?_;refine w9 ?_)| ((first|refine hK _ _ (w0 ?_)| (clear hK K;refine hK _ _ (w0 ?_))| (clear hK K;clear hK K;refine hK _ _ (w0 ?_)));clear hK K)))
  refine cq F (fun c1=>?_) (fun c1=>?_)<;>(try exact c1.elim)<;>((repeat (first|refine w1 (fun K hK=>?_)|refine w2 ?_|refine w3 ?_| ((first|refine w4 ?_|refine wD ?_|refine w5 ?_|refine w6 ?_|refine w7 ?_);try refine sq F ?_)| (refine w8 ?_;refine sq F ?_;refine w9 ?_)| ((first|refine hK _ _ (w0 ?_)| (clear hK K;refine hK _ _ (w0 ?_))| (clear hK K;clear hK K;refine hK _ _ (w0 ?_)));clear hK K))))
  ·refine ee hQ F ?_;refine fR (.str _) ?_;have:=uk s s.length 0 n (by omega) (by omega);unfold cutA at this;simp only[P2]at this;unfold cutF;rw[this];simp
  ·refine ee hQ F ?_;refine fR (.str _) ?_;unfold cutF;rw[hx (by omega)]
 refine lm (fun nL tL hL=>∃(en k:Nat),s.length-k=nL∧h++[.iter s k]=hL∧tL 5=.int .i64 en∧k≤s.length∧en≤k∧(k≤n→k+cutA s k (n-k)=cutN s.length s n)∧(n<k→en=cutN s.length s n)) ((fun(en k:Nat)=>(s.length-k:Nat)) (0) (0)) ?_ ?_
 ·refine G9 ⟨0,0,rfl,ar,?_,by omega,by omega,fun _=>by unfold cutA;simp,fun h=>by omega⟩;all_goals try exact zZz trivial
 rintro _ s2 h' ⟨en,k,rfl,rfl,e5,hk,he,hc,hc2⟩ K2 hK2;simp only[ai,ak,Nat.reduceEqDiff, ↓reduceIte]at e5;have F:=e5;(repeat (first|refine w1 (fun K hK=>?_)|refine w2 ?_|refine w3 ?_| ((first|refine w4 ?_|refine wD ?_|refine w5 ?_|refine w6 ?_|refine w7 ?_);try refine sq F ?_)| (refine w8 ?_;refine sq F ?_;refine w9 ?_)| ((first|refine hK _ _ (w0 ?_)| (clear hK K;refine hK _ _ (w0 ?_))| (clear hK K;clear hK K;refine hK _ _ (w0 ?_)));clear hK K)))
 refine cd (d9 _ _ _ _) (fun hlt=>?_) (fun hge=>?_)
 ·have hp:=bg s k hlt;have hca:=iB s k (n-k) hlt;rw[show Utf8.decode ⟨s.toArray⟩ k=dec s k from rfl];generalize dec s k=d at*;obtain⟨c,m⟩:=d;simp only[]at hp hca ⊢;try refine sq F ?_
  (repeat (first|refine w1 (fun K hK=>?_)|refine w2 ?_|refine w3 ?_| ((first|refine w4 ?_|refine wD ?_|refine w5 ?_|refine w6 ?_|refine w7 ?_);try refine sq F ?_)| (refine w8 ?_;refine sq F ?_;refine w9 ?_)| ((first|refine hK _ _ (w0 ?_)| (clear hK K;refine hK _ _ (w0 ?_))| (clear hK K;clear hK K;refine hK _ _ (w0 ?_)));clear hK K)))
  refine cq F (fun c1=>?_) (fun c1=>?_)<;>(try exact c1.elim)<;>((repeat (first|refine w1 (fun K hK=>?_)|refine w2 ?_|refine w3 ?_| ((first|refine w4 ?_|refine wD ?_|refine w5 ?_|refine w6 ?_|refine w7 ?_);try refine sq F ?_)| (refine w8 ?_;refine sq F ?_;refine w9 ?_)| ((first|refine hK _ _ (w0 ?_)| (clear hK K;refine hK _ _ (w0 ?_))| (clear hK K;clear hK K;refine hK _ _ (w0 ?_)));clear hK K))))
  ·refine tail _ en (k+m) ?_ ?_ ?_ (by omega) (fun _=>hc2 (by omega))
   ·exact zq F
   ·exact zq F
   ·exact zq F
  ·have hc':=hc (by omega);rw[hca]at hc';refine hK2 _ _ _ (G9 ⟨k,k+m,rfl,ar,?_,by omega,by omega,fun hle=>by rw[G0 (by omega)]at hc';rw[← hc',show n-(k+m)=n-k-m by omega];omega,fun hgt=>by rw[G3 (by omega)]at hc';omega⟩) (by omega);all_goals try exact zZz F
 ·try refine sq F ?_
  (repeat (first|refine w1 (fun K hK=>?_)|refine w2 ?_|refine w3 ?_| ((first|refine w4 ?_|refine wD ?_|refine w5 ?_|refine w6 ?_|refine w7 ?_);try refine sq F ?_)| (refine w8 ?_;refine sq F ?_;refine w9 ?_)| ((first|refine hK _ _ (w0 ?_)| (clear hK K;refine hK _ _ (w0 ?_))| (clear hK K;clear hK K;refine hK _ _ (w0 ?_)));clear hK K)))
  refine tail _ en k ?_ ?_ ?_ (by omega) (fun _=>hc2 (by omega))
  ·exact zq F
  ·exact zq F
  ·exact zq F
theorem qa(s:Bs)(hs:s.length≤1073741824)(h:Heap):Sat (CT G) 75 [.str s] h (fun r h'=>r=.bool (rightS s)∧h'=h):=by
 refine sb [.tmp 2] Tryz.func75 ?_;intro Q hQ;refine wk trivial ?_;refine lm (fun nL tL hL=>∃(k:Nat),s.length-k=nL∧h++[.iter s k]=hL∧k≤s.length∧rightS (s.drop k)=rightS s) ((fun(k:Nat)=>(s.length-k:Nat)) (0)) ?_ ?_
 ·refine G9 ⟨0,rfl,ar,by omega,rfl⟩;all_goals try exact zZz trivial
 rintro _ s2 h' ⟨k,rfl,rfl,hk,hc⟩ K2 hK2;refine wk trivial ?_;refine cd (d9 _ _ _ _) (fun hlt=>?_) (fun hge=>?_)
 ·have hp:=bg s k hlt;have hca:=rP s k hlt;have h3:=ug s k;rw[hc]at hca;rw[show Utf8.decode ⟨s.toArray⟩ k=dec s k from rfl];generalize dec s k=d at*;obtain⟨c,m⟩:=d;simp only[]at hp hca h3 ⊢;try refine sq trivial ?_
  refine wk trivial ?_;(first|refine gq trivial (fun g1=>?_) (fun g1=>?_)|refine pq trivial (fun g1=>?_) (fun g1=>?_))<;>(try exact g1.elim)<;>(try refine sq trivial ?_)<;>(refine wk trivial ?_)
  ·have g0:c=65533:=(by omega);have h4:=h3 g0;refine kq trivial (cP G (s.drop k) [239,191,189] _) ?_;refine cq trivial (fun g2=>?_) (fun g2=>?_)<;>(try exact g2.elim)<;>(refine wk trivial ?_)
   ·refine ee hQ trivial ?_;refine fR (.bool _) ?_;rw[hca,G3 ⟨g0,h4.2 (by simpa using g2)⟩]
   ·refine hK2 _ _ _ (G9 ⟨k+m,rfl,ar,by omega,by rw[hca,G0];rintro⟨_,h5⟩;have:=h4.1 h5;rw[this]at g2;cases g2⟩) (by omega);all_goals try exact zZz trivial
  ·refine hK2 _ _ _ (G9 ⟨k+m,rfl,ar,by omega,by rw[hca,G0];rintro⟨h5,_⟩;exact g1 (by omega)⟩) (by omega);all_goals try exact zZz trivial
 ·rw[M0 (by omega)]at hc;try refine sq trivial ?_
  refine wk trivial ?_;refine ee hQ trivial ?_;refine fR (.bool _) ?_;rw[← hc];rfl
end
section
def digB(c:UInt8):Bool:=decide (48≤c.toNat)&&decide (c.toNat≤57)
def numA:Int→Bs→Int
 |n,[]=>n
 |n,c::s=>numA (10*n+((c.toNat:Int)-48)) s
structure Dt where
 y:Int
 m:Int
 d:Int
 h:Int
 i:Int
 s:Int
def leapF(y:Int):Bool:=decide (y%4=0)&&(decide (y%100≠0)||decide (y%400=0))
def daysF(y m:Int):Int:=if y<1∨9999<y∨m<1∨12<m then 0 else if m=2 then(if leapF y then 29 else 28)else if m=4∨m=6∨m=9∨m=11 then 30 else 31
def okD(x:Dt):Bool:=decide (1≤x.d)&&decide (x.d≤daysF x.y x.m)&&decide (0≤x.h)&&decide (x.h≤23)&&decide (0≤x.i)&&decide (x.i≤59)&&decide (0≤x.s)&&decide (x.s≤59)
def dayM(y m d:Int):Int:=146097*(y/400)+365*(y%400)+y%400/4-y%400/100+(153*m+2)/5+d-1-719468
def dayP(y m d:Int):Int:=if m<3 then dayM (y-1) (m+9) d else dayM y (m-3) d
def aheadF(y:Int):Int:=365*(y-1)+(y-1)/4-(y-1)/100+(y-1)/400
def sumD(y:Int):Nat→Int
 |0=>0
 |k+1=>sumD y k+daysF y (k+1:Nat)
theorem vR{y:Int}(h1:1≤y)(h2:y≤9999):∀k:Nat,k<12→∀d,dayP y (k+1:Nat) d=aheadF y+d-1+sumD y k-719162:=by
 intro k hk d;have hl:(leapF y=true∧y%4=0∧(y%100≠0∨y%400=0))∨(leapF y=false∧¬(y%4=0∧(y%100≠0∨y%400=0))):=by
  unfold leapF;by_cases a:y%4=0<;>by_cases b:y%100=0<;>by_cases c:y%400=0<;>simp[a,b,c]
 match k,hk with
 |0,_=>simp[dayP,dayM,aheadF,sumD];omega
 |1,_=>simp[dayP,dayM,aheadF,sumD,daysF,O5.2 h1,O5.2 h2];omega
 |2,_=>rcases hl with⟨l,hl⟩| ⟨l,hl⟩<;>simp[dayP,dayM,aheadF,sumD,daysF,l,O5.2 h1,O5.2 h2]<;>omega
 |3,_=>rcases hl with⟨l,hl⟩| ⟨l,hl⟩<;>simp[dayP,dayM,aheadF,sumD,daysF,l,O5.2 h1,O5.2 h2]<;>omega
 |4,_=>rcases hl with⟨l,hl⟩| ⟨l,hl⟩<;>simp[dayP,dayM,aheadF,sumD,daysF,l,O5.2 h1,O5.2 h2]<;>omega
 |5,_=>rcases hl with⟨l,hl⟩| ⟨l,hl⟩<;>simp[dayP,dayM,aheadF,sumD,daysF,l,O5.2 h1,O5.2 h2]<;>omega
 |6,_=>rcases hl with⟨l,hl⟩| ⟨l,hl⟩<;>simp[dayP,dayM,aheadF,sumD,daysF,l,O5.2 h1,O5.2 h2]<;>omega
 |7,_=>rcases hl with⟨l,hl⟩| ⟨l,hl⟩<;>simp[dayP,dayM,aheadF,sumD,daysF,l,O5.2 h1,O5.2 h2]<;>omega
 |8,_=>rcases hl with⟨l,hl⟩| ⟨l,hl⟩<;>simp[dayP,dayM,aheadF,sumD,daysF,l,O5.2 h1,O5.2 h2]<;>omega
 |9,_=>rcases hl with⟨l,hl⟩| ⟨l,hl⟩<;>simp[dayP,dayM,aheadF,sumD,daysF,l,O5.2 h1,O5.2 h2]<;>omega
 |10,_=>rcases hl with⟨l,hl⟩| ⟨l,hl⟩<;>simp[dayP,dayM,aheadF,sumD,daysF,l,O5.2 h1,O5.2 h2]<;>omega
 |11,_=>rcases hl with⟨l,hl⟩| ⟨l,hl⟩<;>simp[dayP,dayM,aheadF,sumD,daysF,l,O5.2 h1,O5.2 h2]<;>omega
def momD(x:Dt):Int:=86400*dayP x.y x.m x.d+3600*x.h+60*x.i+x.s
def inM(n:Int):Bool:=decide (-62135596800≤n)&&decide (n≤253402300799)
def tellD(x:Dt)(z:Int):Option Int:=if okD x&&inM (momD x-z)then some (momD x-z)else none
structure Rdr where
 s:Bs
 bad:Bool
namespace Rdr
def digits(r:Rdr)(w:Nat):Int×Rdr:=if r.s.length<w then(0,⟨r.s,true⟩)else if (r.s.take w).all digB then(numA 0 (r.s.take w),⟨r.s.drop w,r.bad⟩)else(0,⟨r.s,true⟩)
def sign(r:Rdr)(l:Bs):Int×Rdr:=match r.s with
 | []=>(0,⟨r.s,true⟩)
 |c::t=>if c∈l then((c.toNat:Int),⟨t,r.bad⟩)else(0,⟨r.s,true⟩)
def run(r:Rdr):Nat:=(r.s.takeWhile digB).length
def point(r:Rdr):Rdr:=match r.s with
 |46::t=>let n:=(t.takeWhile digB).length;⟨t.drop n,r.bad|| !(decide (1≤n)&&decide (n≤9))⟩
 |_=>r
def off(r:Rdr)(colon:Bool):Int×Rdr:=
 let (sg,r1):=r.sign [43,45]
 let (h,r2):=r1.digits 2
 let r3:=if colon then(r2.sign [58]).2 else r2
 let (m,r4):=r3.digits 2
 let n:=3600*h+60*m
 (if sg=45 then-n else n,⟨r4.s,r4.bad||(decide (h>23)||decide (m>59))⟩)
def zone(r:Rdr):Int×Rdr:=if r.s=[90]∨r.s=[122]then(0,⟨[],r.bad⟩)else r.off true
def told(r:Rdr)(x:Dt)(z:Int):Option Int:=if r.bad||decide (r.s≠ [])then none else tellD x z
end Rdr
def webP(s:Bs):Option Int:=
 let (y,r1):=(Rdr.mk s false).digits 4
 let r2:=(r1.sign [45]).2
 let (m,r3):=r2.digits 2
 let r4:=(r3.sign [45]).2
 let (d,r5):=r4.digits 2
 let r6:=(r5.sign [84,116]).2
 let (h,r7):=r6.digits 2
 let r8:=(r7.sign [58]).2
 let (i,r9):=r8.digits 2
 let r10:=(r9.sign [58]).2
 let (c,r11):=r10.digits 2
 let (z,r12):=r11.point.zone
 r12.told ⟨y,m,d,h,i,c⟩ z
def num9(s:Bs):Int:=if s.length<1∨9<s.length then-1 else if s.all digB then numA 0 s else-1
def zoneR(sg:UInt8)(h m:Bs):Option Int:=if (sg≠43∧sg≠45)∨h.length≠2∨m.length≠2∨num9 h<0∨23<num9 h∨num9 m<0∨59<num9 m then none else
 some (if sg=45 then -(3600*num9 h+60*num9 m)else 3600*num9 h+60*num9 m)
def restR(x:Dt)(r:Bs):Option Int:=if r=[90]∨r=[122]then tellD x 0 else if r.length≠6∨r.getD 3 0≠58 then none else match zoneR (r.getD 0 0) ((r.drop 1).take 2) (r.drop 4)with
 |none=>none
 |some z=>tellD x z
def pntR(x:Dt)(r:Bs):Option Int:=if r.getD 0 0=46 then(if ((r.drop 1).takeWhile digB).length+1<2∨10<((r.drop 1).takeWhile digB).length+1 then none else restR x (r.drop (((r.drop 1).takeWhile digB).length+1)))else restR x r
def webR(s:Bs):Option Int:=if s.length<20∨s.getD 4 0≠45∨s.getD 7 0≠45∨(s.getD 10 0≠84∧s.getD 10 0≠116)∨s.getD 13 0≠58∨s.getD 16 0≠58 then none else
 pntR ⟨num9 (s.take 4),num9 ((s.drop 5).take 2),num9 ((s.drop 8).take 2),num9 ((s.drop 11).take 2),num9 ((s.drop 14).take 2),num9 ((s.drop 17).take 2)⟩ (s.drop 19)
namespace Rdr
theorem digits_bad{r:Rdr}{w:Nat}(h:r.bad=true):(r.digits w).2.bad=true:=by
 unfold digits;split
 ·rfl
 ·split
  ·exact h
  ·rfl
theorem sign_bad{r:Rdr}{l:Bs}(h:r.bad=true):(r.sign l).2.bad=true:=by
 unfold sign;split
 ·rfl
 ·split
  ·exact h
  ·rfl
theorem point_bad{r:Rdr}(h:r.bad=true):r.point.bad=true:=by
 unfold point;split
 ·simp[h]
 ·exact h
theorem off_of{r:Rdr}{c:Bool}(h:(r.sign [43,45]).2.bad=true):(r.off c).2.bad=true:=by
 unfold off;cases c
 ·show((((r.sign [43,45]).2.digits 2).2.digits 2).2.bad||_)=true;rw[digits_bad (digits_bad h)];rfl
 ·show((((((r.sign [43,45]).2.digits 2).2.sign [58]).2).digits 2).2.bad||_)=true;rw[digits_bad (sign_bad (digits_bad h))];rfl
theorem vS{r:Rdr}{c:Bool}(h:r.bad=true):(r.off c).2.bad=true:=off_of (sign_bad h)
theorem zone_bad{r:Rdr}(h:r.bad=true):r.zone.2.bad=true:=by
 unfold zone;split
 ·exact h
 ·exact vS h
theorem told_bad{r:Rdr}{x:Dt}{z:Int}(h:r.bad=true):r.told x z=none:=by unfold told;simp[h]
theorem zone_nil{r:Rdr}(h:r.s=[]):r.zone.2.bad=true:=by
 unfold zone;rw[h];rw[G0 (by simp)];have:(r.sign [43,45]).2.bad=true:=by unfold sign;rw[h]
 exact off_of this
theorem digits_le{r:Rdr}{w:Nat}:(r.digits w).2.s.length≤r.s.length:=by
 unfold digits;split
 ·exact H5 _
 ·split
  ·simp
  ·exact H5 _
theorem digits_len{r:Rdr}{w:Nat}(h:(r.digits w).2.bad=false):r.bad=false∧r.s.length=(r.digits w).2.s.length+w:=by
 unfold digits at h ⊢;split at h
 ·cases h
 ·rename_i hl;rw[G0 hl];split at h
  ·rename_i ha;rw[G3 ha];exact⟨h,by simp;omega⟩
  ·cases h
theorem sign_le{r:Rdr}{l:Bs}:(r.sign l).2.s.length≤r.s.length:=by
 unfold sign;split
 ·rename_i e;rw[e];exact H5 _
 ·rename_i e;rw[e];split
  ·simp
  ·exact H5 _
theorem sign_len{r:Rdr}{l:Bs}(h:(r.sign l).2.bad=false):r.bad=false∧r.s.length=(r.sign l).2.s.length+1:=by
 unfold sign at h ⊢;split at h
 ·cases h
 ·rename_i c t e;rw[e];split at h
  ·rename_i hc;simp only[hc,if_true];exact⟨h,by simp⟩
  ·cases h
end Rdr
theorem j5{x:Dt}{z:Int}(h:okD x=false):tellD x z=none:=by unfold tellD;rw[h];rfl
theorem mJ{x:Dt}{r:Bs}(h:okD x=false):restR x r=none:=by
 unfold restR;split
 ·exact j5 h
 ·split
  ·rfl
  ·split
   ·rfl
   ·exact j5 h
theorem eN{x:Dt}{r:Bs}(h:okD x=false):pntR x r=none:=by
 unfold pntR;split
 ·split
  ·rfl
  ·exact mJ h
 ·exact mJ h
theorem bK{s:Bs}(h1:1≤s.length)(h9:s.length≤9):num9 s=if s.all digB then numA 0 s else-1:=by unfold num9;rw[G0 (by omega)]
theorem vx{x:Dt}(h:x.y= -1):okD x=false:=by unfold okD daysF;simp[h];omega
theorem zG{x:Dt}(h:x.m= -1):okD x=false:=by unfold okD daysF;simp[h];omega
theorem qb{x:Dt}(h:x.d= -1):okD x=false:=by unfold okD;simp[h]
theorem zH{x:Dt}(h:x.h= -1):okD x=false:=by unfold okD;simp[h]
theorem zI{x:Dt}(h:x.i= -1):okD x=false:=by unfold okD;simp[h]
theorem zJ{x:Dt}(h:x.s= -1):okD x=false:=by unfold okD;simp[h]
theorem xw(t:Bs):(t.takeWhile digB).length≤t.length:=by
 have:=J2 List.length (M3 (p:=digB) (l:=t));rw[H7]at this;omega
theorem xx{x:Dt}(r:Bs)(h1:¬(r=[90]∨r=[122])):((Rdr.mk r false).off true).2.told x ((Rdr.mk r false).off true).1=restR x r:=by
 unfold restR;rw[G0 h1];by_cases hl:r.length=6
 ·match r,hl with
  | [a,b,c,d,e,f],_=>
  have n2:∀u v:UInt8,num9 [u,v]=if digB u&&digB v then numA 0 [u,v]else-1:=fun u v=>by rw[bK (by simp) (by simp)];simp
  by_cases hd:d=58
  ·rw[G0 (by simp[hd])];simp only[K9,O6,P2,H8,J1];by_cases ha:a=43∨a=45
   ·by_cases hbc:(digB b&&digB c)=true
    ·by_cases hef:(digB e&&digB f)=true
     ·have q1:0≤numA 0 [b,c]:=by
       simp only[digB,G2,H2]at hbc;simp[numA];omega
      have q2:0≤numA 0 [e,f]:=by
       simp only[digB,G2,H2]at hef;simp[numA];omega
      have ht:((Rdr.mk [a,b,c,d,e,f] false).off true)=(if a=45 then -(3600*numA 0 [b,c]+60*numA 0 [e,f])else 3600*numA 0 [b,c]+60*numA 0 [e,f],⟨[],decide (numA 0 [b,c]>23)||decide (numA 0 [e,f]>59)⟩):=by
       have e45:((a.toNat:Int)=45)↔a=45:=⟨fun h=>N1.1 (by simpa using(by omega:a.toNat=45)),fun h=>by rw[h];rfl⟩
       rcases ha with rfl|rfl<;>simp[Rdr.off,Rdr.sign,Rdr.digits,hd,hbc,hef]
      rw[ht];unfold zoneR Rdr.told;rw[n2,n2,G3 hbc,G3 hef];by_cases h23:23<numA 0 [b,c]
      ·simp[h23]
      ·by_cases h59:59<numA 0 [e,f]
       ·simp[h59]
       ·have hz1:¬numA 0 [b,c]<0:=(by omega);have hz2:¬numA 0 [e,f]<0:=(by omega);rcases ha with rfl|rfl<;>simp[h23,h59,hz1,hz2]
     ·have hb:((Rdr.mk [a,b,c,d,e,f] false).off true).2.bad=true:=by
       unfold Rdr.off;rcases ha with rfl|rfl<;>simp[Rdr.sign,Rdr.digits,hd,hbc,hef]
      rw[Rdr.told_bad hb];unfold zoneR;rw[n2 e f,G0 hef,G3 (by simp)]
    ·have hb:((Rdr.mk [a,b,c,d,e,f] false).off true).2.bad=true:=by
      unfold Rdr.off;have:((Rdr.mk [a,b,c,d,e,f] false).sign [43,45]).2=⟨[b,c,d,e,f],false⟩:=by rcases ha with rfl|rfl<;>simp[Rdr.sign]
      have h2:((Rdr.mk [b,c,d,e,f] false).digits 2).2.bad=true:=(by simp[Rdr.digits,hbc]);simp only[this,if_true];rw[Rdr.digits_bad (Rdr.sign_bad h2)];rfl
     rw[Rdr.told_bad hb];unfold zoneR;rw[n2 b c,G0 hbc,G3 (by simp)]
   ·have hb:((Rdr.mk [a,b,c,d,e,f] false).off true).2.bad=true:=by
     exact Rdr.off_of (by simp[Rdr.sign,ha])
    rw[Rdr.told_bad hb];unfold zoneR;rw[G3 (.inl (by simpa using ha))]
  ·rw[G3 (.inr (by simpa using hd))];refine Rdr.told_bad ?_;cases hb:((Rdr.mk [a,b,c,d,e,f] false).off true).2.bad with
   |true=>rfl
   |false=>
    exfalso;unfold Rdr.off at hb;simp only[if_true,S6]at hb;obtain⟨g1,_⟩:=Rdr.digits_len hb.1;have g2:=g1;unfold Rdr.sign at g2;obtain⟨g3,_⟩:=Rdr.sign_len g1;obtain⟨g4,_⟩:=Rdr.digits_len g3;have s1:((Rdr.mk [a,b,c,d,e,f] false).sign [43,45]).2=⟨[b,c,d,e,f],false⟩:=by
     unfold Rdr.sign at g4 ⊢;simp only[]at g4 ⊢;split at g4
     ·rename_i h;rw[G3 h]
     ·cases g4
    rw[s1]at g1 g3;have s2:((Rdr.mk [b,c,d,e,f] false).digits 2).2=⟨[d,e,f],false⟩:=by
     unfold Rdr.digits at g3 ⊢;simp only[G5,H6]at g3 ⊢;rw[G0 (by omega)]at g3 ⊢;split at g3
     ·rename_i h;rw[G3 h];rfl
     ·cases g3
    rw[s2]at g1;simp[Rdr.sign,hd]at g1
 ·rw[G3 (.inl hl)];unfold Rdr.told;split
  ·rfl
  ·rename_i hb;exfalso;simp only[L3,not_or,Bool.not_eq_true,decide_eq_false_iff_not,U4]at hb;obtain⟨hb,he⟩:=hb;have he:((Rdr.mk r false).off true).2.s=[]:=(by simpa using he);unfold Rdr.off at hb he;simp only[if_true,S6]at hb he;obtain⟨g1,l1⟩:=Rdr.digits_len hb.1;obtain⟨g3,l3⟩:=Rdr.sign_len g1;obtain⟨g4,l4⟩:=Rdr.digits_len g3;obtain⟨g5,l5⟩:=Rdr.sign_len g4;have:=J2 List.length he;rw[H6]at this;have l5:r.length=_:=l5;omega
theorem kx{x:Dt}(r:Bs):((Rdr.mk r false).zone).2.told x ((Rdr.mk r false).zone).1=restR x r:=by
 unfold Rdr.zone;by_cases h:r=[90]∨r=[122]
 ·rw[G3 h];unfold restR;rw[G3 h];simp[Rdr.told]
 ·rw[G0 h];exact xx r h
theorem xy{x:Dt}(r:Bs):((Rdr.mk r false).point.zone).2.told x ((Rdr.mk r false).point.zone).1=pntR x r:=by
 unfold pntR;cases r with
 |nil=>exact kx []
 |cons c t=>
  by_cases hc:c=46
  ·subst hc;simp only[K9,if_true,O6,P2];have hp:(Rdr.mk (46::t) false).point=⟨t.drop (t.takeWhile digB).length, !(decide (1≤(t.takeWhile digB).length)&&decide ((t.takeWhile digB).length≤9))⟩:=(by simp[Rdr.point]);rw[hp];generalize (t.takeWhile digB).length=n;by_cases hn:1≤n∧n≤9
   ·rw[G0 (by omega)];have:(!(decide (1≤n)&&decide (n≤9)))=false:=by simp[hn.1,hn.2]
    rw[this];exact kx _
   ·rw[G3 (by omega)];refine Rdr.told_bad (Rdr.zone_bad ?_);show(!(decide (1≤n)&&decide (n≤9)))=true;by_cases a:1≤n<;>simp[a];omega
  ·have hp:(Rdr.mk (c::t) false).point=⟨c::t,false⟩:=by
    unfold Rdr.point;split
    ·rename_i e;simp only[R8]at e;exact absurd e.1 hc
    ·rfl
   rw[hp,G0 (by simpa using hc)];exact kx _
theorem rQ(a b:UInt8)(t:Bs)(k:Bool):(Rdr.mk (a::b::t) k).digits 2=if (digB a&&digB b)=true then(numA 0 [a,b],⟨t,k⟩)else(0,⟨a::b::t,true⟩):=by
 unfold Rdr.digits;rw[G0 (by simp)];simp only[H8,J1,O6,P2,S9,List.all_nil,Bool.and_true]
theorem E0(a b c d:UInt8)(t:Bs)(k:Bool):(Rdr.mk (a::b::c::d::t) k).digits 4=if (digB a&&(digB b&&(digB c&&digB d)))=true then(numA 0 [a,b,c,d],⟨t,k⟩)else(0,⟨a::b::c::d::t,true⟩):=by
 unfold Rdr.digits;rw[G0 (by simp)];simp only[H8,J1,O6,P2,S9,List.all_nil,Bool.and_true]
theorem gO(a:UInt8)(t l:Bs)(k:Bool):(Rdr.mk (a::t) k).sign l=if a∈l then((a.toNat:Int),⟨t,k⟩)else(0,⟨a::t,true⟩):=rfl
theorem gm{a b:UInt8}(h:¬(digB a&&digB b)=true):num9 [a,b]= -1:=by
 rw[bK (by simp) (by simp),G0 (by simpa using h)]
theorem gn{a b:UInt8}(h:(digB a&&digB b)=true):num9 [a,b]=numA 0 [a,b]:=by
 rw[bK (by simp) (by simp),G3 (by simpa using h)]
theorem zK{a b c d:UInt8}(h:¬(digB a&&(digB b&&(digB c&&digB d)))=true):num9 [a,b,c,d]= -1:=by
 rw[bK (by simp) (by simp),G0 (by simpa using h)]
theorem aN{s:Bs}{n:Nat}(h:n+1≤s.length):∃b t,s=b::t∧n≤t.length:=by
 cases s with
 |nil=>simp at h
 |cons b t=>exact⟨b,t,rfl,by simpa using h⟩
theorem mK(s:Bs):webP s=webR s:=by
 by_cases hl:20≤s.length
 ·obtain⟨b0,s,rfl,k0⟩:=aN hl;obtain⟨b1,s,rfl,k1⟩:=aN k0;obtain⟨b2,s,rfl,k2⟩:=aN k1;obtain⟨b3,s,rfl,k3⟩:=aN k2;obtain⟨b4,s,rfl,k4⟩:=aN k3;obtain⟨b5,s,rfl,k5⟩:=aN k4;obtain⟨b6,s,rfl,k6⟩:=aN k5;obtain⟨b7,s,rfl,k7⟩:=aN k6;obtain⟨b8,s,rfl,k8⟩:=aN k7;obtain⟨b9,s,rfl,k9⟩:=aN k8;obtain⟨b10,s,rfl,k10⟩:=aN k9;obtain⟨b11,s,rfl,k11⟩:=aN k10;obtain⟨b12,s,rfl,k12⟩:=aN k11;obtain⟨b13,s,rfl,k13⟩:=aN k12;obtain⟨b14,s,rfl,k14⟩:=aN k13;obtain⟨b15,s,rfl,k15⟩:=aN k14;obtain⟨b16,s,rfl,k16⟩:=aN k15;obtain⟨b17,s,rfl,k17⟩:=aN k16;obtain⟨b18,s,rfl,k18⟩:=aN k17;obtain⟨b19,t,rfl,k19⟩:=aN k18;have hr:webR (b0::b1::b2::b3::b4::b5::b6::b7::b8::b9::b10::b11::b12::b13::b14::b15::b16::b17::b18::b19::t)=
    if b4=45∧b7=45∧(b10=84∨b10=116)∧b13=58∧b16=58 then pntR ⟨num9 [b0,b1,b2,b3],num9 [b5,b6],num9 [b8,b9],num9 [b11,b12],num9 [b14,b15],num9 [b17,b18]⟩ (b19::t)else none:=by
   unfold webR;simp only[G5,K9,N3,O6,P2,H8,J1];by_cases c:b4=45∧b7=45∧(b10=84∨b10=116)∧b13=58∧b16=58
   ·rw[G3 c,G0];obtain⟨c1,c2,c3,c4,c5⟩:=c;subst c1;subst c2;subst c4;subst c5;rcases c3 with rfl|rfl<;>simp<;>omega
   ·rw[G0 c,G3];refine J8 fun hc=>c ?_
    simp only[not_or,U4,not_and]at hc;refine⟨hc.2.1,hc.2.2.1,?_,hc.2.2.2.2.1,hc.2.2.2.2.2⟩;by_cases hb:b10=84
    ·exact .inl hb
    ·exact .inr (hc.2.2.2.1 hb)
  rw[hr];generalize b19::t=r;clear hr;simp only[webP];rw[E0];by_cases g1:(digB b0&&(digB b1&&(digB b2&&digB b3)))=true
  rotate_left
  ·rw[G0 g1,Rdr.told_bad (by simp(maxDischargeDepth:=30) [Rdr.zone_bad,Rdr.point_bad,Rdr.digits_bad,Rdr.sign_bad])];split
   ·exact(eN (vx (zK g1))).symm
   ·rfl
  rw[G3 g1];simp only[gO];by_cases g2:b4=45
  rotate_left
  ·rw[G0 (by simpa using g2),G0 (by simp[g2]),Rdr.told_bad (by simp(maxDischargeDepth:=30) [Rdr.zone_bad,Rdr.point_bad,Rdr.digits_bad,Rdr.sign_bad])]
  rw[G3 (by simpa using g2)];simp only[rQ];by_cases g3:(digB b5&&digB b6)=true
  rotate_left
  ·rw[G0 g3,Rdr.told_bad (by simp(maxDischargeDepth:=30) [Rdr.zone_bad,Rdr.point_bad,Rdr.digits_bad,Rdr.sign_bad])];split
   ·exact(eN (zG (gm g3))).symm
   ·rfl
  rw[G3 g3];simp only[gO];by_cases g4:b7=45
  rotate_left
  ·rw[G0 (by simpa using g4),G0 (by simp[g4]),Rdr.told_bad (by simp(maxDischargeDepth:=30) [Rdr.zone_bad,Rdr.point_bad,Rdr.digits_bad,Rdr.sign_bad])]
  rw[G3 (by simpa using g4)];simp only[rQ];by_cases g5:(digB b8&&digB b9)=true
  rotate_left
  ·rw[G0 g5,Rdr.told_bad (by simp(maxDischargeDepth:=30) [Rdr.zone_bad,Rdr.point_bad,Rdr.digits_bad,Rdr.sign_bad])];split
   ·exact(eN (qb (gm g5))).symm
   ·rfl
  rw[G3 g5];simp only[gO];by_cases g6:b10=84∨b10=116
  rotate_left
  ·rw[G0 (by simpa using g6),G0 (by simp[g6]),Rdr.told_bad (by simp(maxDischargeDepth:=30) [Rdr.zone_bad,Rdr.point_bad,Rdr.digits_bad,Rdr.sign_bad])]
  rw[G3 (by simpa using g6)];simp only[rQ];by_cases g7:(digB b11&&digB b12)=true
  rotate_left
  ·rw[G0 g7,Rdr.told_bad (by simp(maxDischargeDepth:=30) [Rdr.zone_bad,Rdr.point_bad,Rdr.digits_bad,Rdr.sign_bad])];split
   ·exact(eN (zH (gm g7))).symm
   ·rfl
  rw[G3 g7];simp only[gO];by_cases g8:b13=58
  rotate_left
  ·rw[G0 (by simpa using g8),G0 (by simp[g8]),Rdr.told_bad (by simp(maxDischargeDepth:=30) [Rdr.zone_bad,Rdr.point_bad,Rdr.digits_bad,Rdr.sign_bad])]
  rw[G3 (by simpa using g8)];simp only[rQ];by_cases g9:(digB b14&&digB b15)=true
  rotate_left
  ·rw[G0 g9,Rdr.told_bad (by simp(maxDischargeDepth:=30) [Rdr.zone_bad,Rdr.point_bad,Rdr.digits_bad,Rdr.sign_bad])];split
   ·exact(eN (zI (gm g9))).symm
   ·rfl
  rw[G3 g9];simp only[gO];by_cases g10:b16=58
  rotate_left
  ·rw[G0 (by simpa using g10),G0 (by simp[g10]),Rdr.told_bad (by simp(maxDischargeDepth:=30) [Rdr.zone_bad,Rdr.point_bad,Rdr.digits_bad,Rdr.sign_bad])]
  rw[G3 (by simpa using g10)];simp only[rQ];by_cases g11:(digB b17&&digB b18)=true
  rotate_left
  ·rw[G0 g11,Rdr.told_bad (by simp(maxDischargeDepth:=30) [Rdr.zone_bad,Rdr.point_bad,Rdr.digits_bad,Rdr.sign_bad])];split
   ·exact(eN (zJ (gm g11))).symm
   ·rfl
  rw[G3 g11,G3 ⟨g2,g4,g6,g8,g10⟩,gn g3,gn g5,gn g7,gn g9,gn g11,bK (by simp) (by simp),G3 (by simpa using g1)];exact xy r
 ·have h2:webR s=none:=by unfold webR;rw[G3 (.inl (by omega))]
  rw[h2];simp only[webP];refine Rdr.told_bad (J8 fun hb=>?_);have nb:∀{b:Bool},b≠true→b=false:=fun {b}=>by cases b<;>simp
  have lst:∀{r:Rdr},r.point.zone.2.bad≠true→r.bad=false∧1≤r.s.length:=fun {r} hb=>by
   refine⟨nb fun h=>hb (Rdr.zone_bad (Rdr.point_bad h)),?_⟩;cases h:r.s with
   |nil=>
    refine absurd (Rdr.zone_nil ?_) hb;unfold Rdr.point;rw[h];exact h
   |cons a b=>simp
  obtain⟨f11,l11⟩:=lst hb;obtain⟨f10,k11⟩:=Rdr.digits_len f11;obtain⟨f9,k10⟩:=Rdr.sign_len f10;obtain⟨f8,k9⟩:=Rdr.digits_len f9;obtain⟨f7,k8⟩:=Rdr.sign_len f8;obtain⟨f6,k7⟩:=Rdr.digits_len f7;obtain⟨f5,k6⟩:=Rdr.sign_len f6;obtain⟨f4,k5⟩:=Rdr.digits_len f5;obtain⟨f3,k4⟩:=Rdr.sign_len f4;obtain⟨f2,k3⟩:=Rdr.digits_len f3;obtain⟨f1,k2⟩:=Rdr.sign_len f2;obtain⟨_,k1⟩:=Rdr.digits_len f1;have k0:(Rdr.mk s false).s.length=s.length:=rfl;omega
def splF(by':UInt8):Bs→List Bs
 | []=>[[]]
 |c::s=>if c=by' then []::splF by' s else match splF by' s with
  | []=>[[c]]
  |w::l=>(c::w)::l
theorem oN(b:UInt8)(s:Bs):splF b s≠ []:=by
 cases s with
 |nil=>simp[splF]
 |cons c s=>
  unfold splF;split
  ·simp
  ·split<;>simp
def joiB(b:UInt8):List Bs→Bs
 | []=>[]
 | [w]=>w
 |w::l=>w++b::joiB b l
theorem mL(b:UInt8):∀s:Bs,joiB b (splF b s)=s
 | []=>rfl
 |c::s=>by
  have ih:=mL b s;have hn:=oN b s;unfold splF;by_cases h:c=b
  ·rw[G3 h];cases hs:splF b s with
   |nil=>exact absurd hs hn
   |cons w l=>rw[hs]at ih;show []++b::joiB b (w::l)=_;rw[ih,h];rfl
  ·rw[G0 h];cases hs:splF b s with
   |nil=>exact absurd hs hn
   |cons w l=>
    rw[hs]at ih;cases l with
    |nil=>show c::w=_;rw[show w=s from ih]
    |cons v l=>show(c::w)++b::joiB b (v::l)=_;rw[← ih];rfl
theorem eY(b:UInt8):∀(a s:Bs),(∀c∈a,c≠b)→splF b (a++b::s)=a::splF b s
 | [],s,_=>by show splF b (b::s)=_;rw[splF,G3 rfl]
 |c::a,s,h=>by
  have ih:=eY b a s fun x hx=>h x (by simp[hx])
  show splF b (c::(a++b::s))=_;rw[splF,G0 (h c (by simp)),ih]
theorem gr(b:UInt8):∀a:Bs,(∀c∈a,c≠b)→splF b a=[a]
 | [],_=>rfl
 |c::a,h=>by rw[splF,G0 (h c (by simp)),gr b a fun x hx=>h x (by simp[hx])]
def monL:List Bs:=[[74,97,110],[70,101,98],[77,97,114],[65,112,114],[77,97,121],[74,117,110],[74,117,108],[65,117,103],[83,101,112],[79,99,116],[78,111,118],[68,101,99]]
def ixS(l:List Bs)(s:Bs):Int:=match l.findIdx? (fun x=>decide (x=s))with
 |some i=>i
 |none=> -1
def weekL:List Bs:=[[77,111,110,44],[84,117,101,44],[87,101,100,44],[84,104,117,44],[70,114,105,44],[83,97,116,44],[83,117,110,44]]
def zonL:List Bs:=[[71,77,84],[85,84],[85,84,67],[90],[69,83,84],[69,68,84],[67,83,84],[67,68,84],[77,83,84],[77,68,84],[80,83,84],[80,68,84]]
def hrsL:List Int:=[0,0,0,0, -5, -4, -6, -5, -7, -6, -8, -7]
def namF(s:Bs):Option Int:=match zonL.findIdx? (fun x=>decide (x=s))with
 |some i=>some (3600*hrsL.getD i 0)
 |none=>none
namespace Rdr
def part(s:Bs)(f:Rdr→Int×Rdr):Int×Bool:=((f ⟨s,false⟩).1,(f ⟨s,false⟩).2.bad||decide ((f ⟨s,false⟩).2.s≠ []))
def all(r:Rdr):Int×Rdr:=r.digits r.s.length
def year(r:Rdr):Int×Rdr:=if r.s.length=2 then(if 50≤(r.digits 2).1 then 1900+(r.digits 2).1 else 2000+(r.digits 2).1,(r.digits 2).2)else r.digits 4
def clock(r:Rdr):Int×Rdr:=
 let (h,r1):=r.digits 2
 let r2:=(r1.sign [58]).2
 let (m,r3):=r2.digits 2
 let (c,r4):=if r3.s=[]then(0,r3)else(r3.sign [58]).2.digits 2
 (3600*h+60*m+c,⟨r4.s,r4.bad||(decide (h>23)||(decide (m>59)||decide (c>59)))⟩)
end Rdr
def wrdP(w:List Bs):Option Int:=if w.length=5∧1≤(w.getD 0 []).length∧(w.getD 0 []).length≤2 then
  let (d,b1):=Rdr.part (w.getD 0 []) Rdr.all
  let (y,b2):=Rdr.part (w.getD 2 []) Rdr.year
  let (t,b3):=Rdr.part (w.getD 3 []) Rdr.clock
  let (z,b4):=match namF (w.getD 4 [])with
   |some z=>(z,false)
   |none=>Rdr.part (w.getD 4 []) fun r=>r.off false
  if b1||b2||b3||b4 then none else tellD ⟨y,ixS monL (w.getD 1 [])+1,d,t/3600,t/60%60,t%60⟩ z
 else none
def mailP(s:Bs):Option Int:=wrdP (if (splF 32 s).length=6∧(splF 32 s).getD 0 []∈weekL then(splF 32 s).drop 1 else splF 32 s)
def zonR(s:Bs):Option Int:=match namF s with
 |some z=>some z
 |none=>if s.length≠5 then none else zoneR (s.getD 0 0) ((s.drop 1).take 2) (s.drop 3)
def yearR(s:Bs):Int:=if s.length=2∧50≤num9 s then num9 s+1900 else if s.length=2∧0≤num9 s then num9 s+2000 else num9 s
def zonT(o:Option Int)(x:Dt):Option Int:=match o with
 |none=>none
 |some z=>tellD x z
def clkR(s:Bs):Option (Int×Int×Int):=let t:=splF 58 s
 if (t.length≠2∧t.length≠3)∨t.all (fun x=>decide (x.length=2))=false then none else some (num9 (t.getD 0 []),num9 (t.getD 1 []),if t.length=3 then num9 (t.getD 2 [])else 0)
def wrdR(w:List Bs):Option Int:=if w.length≠5∨2<(w.getD 0 []).length∨((w.getD 2 []).length≠4∧(w.getD 2 []).length≠2)then none else match clkR (w.getD 3 [])with
 |none=>none
 |some (h,m,c)=>zonT (zonR (w.getD 4 [])) ⟨yearR (w.getD 2 []),1+ixS monL (w.getD 1 []),num9 (w.getD 0 []),h,m,c⟩
def mailR(s:Bs):Option Int:=if (splF 32 s).length=6 then(if (splF 32 s).getD 0 []∈weekL then wrdR ((splF 32 s).drop 1)else none)else wrdR (splF 32 s)
theorem cJ:∀(s:Bs) (n:Int),0≤n→s.all digB=true→0≤numA n s
 | [],n,h,_=>h
 |c::s,n,h,ha=>by
  simp only[S9,G2]at ha;have:48≤c.toNat:=by have:=ha.1;simp only[digB,G2,H2]at this;omega
  exact cJ s _ (by omega) ha.2
namespace Rdr
theorem digits_of{r:Rdr}{w:Nat}(h:(r.digits w).2.bad=false):∃a:Bs,a.length=w∧a.all digB=true∧r.s=a++(r.digits w).2.s∧r.bad=false∧(r.digits w).1=numA 0 a:=by
 unfold digits at h ⊢;split at h
 ·cases h
 ·rename_i hl;rw[G0 hl];split at h
  ·rename_i ha;rw[G3 ha];exact⟨_,by rw[I2];omega,ha,(R5 w r.s).symm,h,rfl⟩
  ·cases h
theorem sign_of{r:Rdr}{l:Bs}(h:(r.sign l).2.bad=false):∃c,c∈l∧r.s=c::(r.sign l).2.s∧r.bad=false∧(r.sign l).1=(c.toNat:Int):=by
 unfold sign at h ⊢;split at h
 ·cases h
 ·rename_i c t e;rw[e];split at h
  ·rename_i hc;simp only[hc,if_true];exact⟨c,hc,rfl,h,rfl⟩
  ·cases h
theorem digits_app{a t:Bs}{k:Bool}{w:Nat}(hw:a.length=w)(ha:a.all digB=true):(Rdr.mk (a++t) k).digits w=(numA 0 a,⟨t,k⟩):=by
 subst hw;unfold digits;rw[G0 (by simp),List.take_left' rfl,G3 ha,List.drop_left' rfl]
theorem digits_no{a t:Bs}{k:Bool}{w:Nat}(hw:a.length=w)(ha:a.all digB=false):((Rdr.mk (a++t) k).digits w).2.bad=true:=by
 subst hw;unfold digits;rw[G0 (by simp),List.take_left' rfl,G0 (by simp[ha])]
theorem part_all(a:Bs):part a all=if a.all digB then(numA 0 a,false)else(0,true):=by
 have e:all ⟨a,false⟩=if a.all digB then(numA 0 a,⟨[],false⟩)else(0,⟨a,true⟩):=by
  unfold all digits;simp
 unfold part;rw[e];split<;>simp
theorem part_year(a:Bs):((a.length=2∨a.length=4)∧a.all digB=true∧part a year=(yearR a,false))∨(¬((a.length=2∨a.length=4)∧a.all digB=true)∧(part a year).2=true):=by
 by_cases h:(a.length=2∨a.length=4)∧a.all digB=true
 ·refine .inl ⟨h.1,h.2,?_⟩;have hn:=cJ a 0 (by omega) h.2;have h9:num9 a=numA 0 a:=by rw[bK (by omega) (by omega),G3 h.2]
  have hd:=digits_app (a:=a) (t:=[]) (k:=false) rfl h.2;rw[J3]at hd;unfold part year yearR;rw[h9];rcases h.1 with h2|h4
  ·rw[h2]at hd;simp only[h2,hd,if_true,true_and];by_cases c:50≤numA 0 a
   ·simp[c];omega
   ·simp[c,hn];omega
  ·rw[h4]at hd;have n2:¬a.length=2:=(by omega);simp[n2,hd]
 ·refine .inr ⟨h,?_⟩;cases hb:(part a year).2 with
  |true=>rfl
  |false=>
   exfalso;unfold part at hb;simp only[S6,decide_eq_false_iff_not,U4]at hb;obtain⟨hb,he⟩:=hb;unfold year at hb he;split at hb
   ·rename_i h2;rw[G3 h2]at he;obtain⟨b,hb1,hb2,hb3,_⟩:=digits_of hb;rw[he,J3]at hb3;have hb3:a=b:=hb3;subst hb3;exact h ⟨.inl hb1,hb2⟩
   ·rename_i h2;rw[G0 h2]at he;obtain⟨b,hb1,hb2,hb3,_⟩:=digits_of hb;rw[he,J3]at hb3;have hb3:a=b:=hb3;subst hb3;exact h ⟨.inr hb1,hb2⟩
theorem part_off(s:Bs):(s.length=5∧∃z,zoneR (s.getD 0 0) ((s.drop 1).take 2) (s.drop 3)=some z∧part s (fun r=>r.off false)=(z,false))∨
  ((s.length≠5∨zoneR (s.getD 0 0) ((s.drop 1).take 2) (s.drop 3)=none)∧(part s fun r=>r.off false).2=true):=by
 cases hb:(part s fun r=>r.off false).2 with
 |false=>
  left;have hp:part s (fun r=>r.off false)=((part s fun r=>r.off false).1,false):=Prod.ext rfl hb;unfold part off at hb;simp only[I7,if_false,S6,decide_eq_false_iff_not,U4]at hb;obtain⟨⟨g0,c1,c2⟩,he⟩:=hb;obtain⟨b,b1,b2,b3,g1,b5⟩:=digits_of g0;obtain⟨a,a1,a2,a3,g2,a5⟩:=digits_of g1;obtain⟨c,d1,d2,_,d4⟩:=sign_of g2;have d2:s=c::_:=d2;rw[he,J3]at b3;rw[b3]at a3;rw[a3]at d2;rw[b5]at c2;rw[a5]at c1;obtain⟨x,y,rfl⟩:∃x y,a=[x,y]:=by match a,a1 with| [x,y],_=>exact⟨x,y,rfl⟩
  obtain⟨u,v,rfl⟩:∃u v,b=[u,v]:=by match b,b1 with| [u,v],_=>exact⟨u,v,rfl⟩
  refine⟨by rw[d2];rfl,_,?_,hp⟩;have hs:(part s fun r=>r.off false).1=if c=45 then -(3600*numA 0 [x,y]+60*numA 0 [u,v])else 3600*numA 0 [x,y]+60*numA 0 [u,v]:=by
   unfold part off;simp only[I7,if_false];rw[b5,a5,d4];have e45:((c.toNat:Int)=45)↔c=45:=⟨fun h=>N1.1 (by simpa using(by omega:c.toNat=45)),fun h=>by rw[h];rfl⟩
   simp only[e45]
  rw[hs];have n1:num9 [x,y]=numA 0 [x,y]:=by rw[bK (by simp) (by simp),G3 a2]
  have n2:num9 [u,v]=numA 0 [u,v]:=by rw[bK (by simp) (by simp),G3 b2]
  have p1:=cJ _ 0 (by omega) a2;have p2:=cJ _ 0 (by omega) b2;have hc:c=43∨c=45:=by simpa using d1
  rw[d2];unfold zoneR;simp only[K9,O6,P2,N5,L6,H8,J1];rw[n1,n2,G0]
  ·rcases hc with rfl|rfl<;>simp<;>omega
 |true=>
  right;refine⟨?_,rfl⟩;by_cases hl:s.length=5
  rotate_left
  ·exact .inl hl
  right
  match s,hl with
  | [c,x,y,u,v],_=>
  cases hz:zoneR ([c,x,y,u,v].getD 0 0) (([c,x,y,u,v].drop 1).take 2) ([c,x,y,u,v].drop 3)with
  |none=>rfl
  |some z=>
   exfalso;simp only[K9,O6,P2,H8,J1]at hz;unfold zoneR at hz;split at hz
   ·cases hz
   ·rename_i hn;have a2:(digB x&&digB y)=true:=J8 fun k=>hn (by rw[gm k];simp)
    have b2:(digB u&&digB v)=true:=J8 fun k=>hn (by rw[gm k];simp)
    rw[gn a2,gn b2]at hn;have hc:c=43∨c=45:=by
     refine J8 fun k=>hn (.inl ?_)
     simpa using k
    have h1:¬numA 0 [x,y]>23:=fun k=>hn (by simp[k])
    have h2:¬numA 0 [u,v]>59:=fun k=>hn (by simp[k])
    unfold part off at hb;rcases hc with rfl|rfl<;>simp[sign,digits,a2,b2,h1,h2]at hb
end Rdr
theorem Rdr.part_bad{s:Bs}{f:Rdr→Int×Rdr}(h:(f ⟨s,false⟩).2.bad=true):(Rdr.part s f).2=true:=by
 show((f ⟨s,false⟩).2.bad||_)=true;rw[h];rfl
theorem Rdr.clock_bad{r:Rdr}(h:(((r.digits 2).2.sign [58]).2.digits 2).2.bad=true):r.clock.2.bad=true:=by
 unfold Rdr.clock;simp only[];rw[L3];left;split
 ·exact h
 ·exact Rdr.digits_bad (Rdr.sign_bad h)
theorem fM{a:Bs}(h:a.all digB=true):∀c∈a,c≠58:=fun c hc e=>by
 have:=I1.1 h c hc;rw[e]at this;exact absurd this (by decide)
theorem xz(s:Bs):match clkR s with
  |none=>(Rdr.part s Rdr.clock).2=true
  |some (h,m,c)=>if 0≤h∧h≤23∧0≤m∧m≤59∧0≤c∧c≤59 then Rdr.part s Rdr.clock=(3600*h+60*m+c,false)else(Rdr.part s Rdr.clock).2=true:=by
 cases hr:clkR s with
 |none=>
  cases hb:(Rdr.part s Rdr.clock).2 with
  |true=>rfl
  |false=>
   exfalso;unfold Rdr.part Rdr.clock at hb;simp only[S6,decide_eq_false_iff_not,U4]at hb;obtain⟨⟨g0,_⟩,he⟩:=hb;split at g0
   ·rename_i h0;rw[G3 h0]at he;obtain⟨b,b1,b2,b3,g1,_⟩:=Rdr.digits_of g0;obtain⟨x,d1,d2,g2,_⟩:=Rdr.sign_of g1;obtain⟨a,a1,a2,a3,_⟩:=Rdr.digits_of g2;have a3:s=a++_:=a3;rw[h0,J3]at b3;rw[d2,b3,M4.1 d1]at a3;unfold clkR at hr;rw[a3,eY 58 a b (fM a2),gr 58 b (fM b2)]at hr;simp[a1,b1]at hr
   ·rename_i h0;rw[G0 h0]at he;obtain⟨c,c1,c2,c3,g1,_⟩:=Rdr.digits_of g0;obtain⟨y,e1,e2,g2,_⟩:=Rdr.sign_of g1;obtain⟨b,b1,b2,b3,g3,_⟩:=Rdr.digits_of g2;obtain⟨x,d1,d2,g4,_⟩:=Rdr.sign_of g3;obtain⟨a,a1,a2,a3,_⟩:=Rdr.digits_of g4;have a3:s=a++_:=a3;rw[he,J3]at c3;rw[d2,b3,e2,c3,M4.1 d1,M4.1 e1]at a3;unfold clkR at hr;rw[a3,eY 58 a _ (fM a2),eY 58 b c (fM b2),gr 58 c (fM c2)]at hr;simp[a1,b1,c1]at hr
 |some v=>
  obtain⟨h,m,c⟩:=v;have hj:=mL 58 s;unfold clkR at hr;simp only[]at hr;split at hr
  ·cases hr
  rename_i hc;simp only[I0,Prod.mk.injEq]at hr;simp only[not_or,not_and,U4,Bool.not_eq_false,I1,H2]at hc;generalize splF 58 s=t at*;obtain⟨hc1,hc2⟩:=hc;obtain⟨r1,r2,r3⟩:=hr;have hl:t.length=2∨t.length=3:=by by_cases k:t.length=2;exact .inl k;exact .inr (hc1 k)
  simp only[];have n9:∀a:Bs,a.length=2→num9 a=if a.all digB then numA 0 a else-1:=fun a ha=>bK (by omega) (by omega)
  rcases hl with hl|hl
  ·match t,hl with
   | [a,b],_=>
   have la:=hc2 a (by simp);have lb:=hc2 b (by simp);have hj:a++58::b=s:=hj;subst hj;simp only[K9,N3,G5,H6]at r1 r2 r3;rw[n9 a la]at r1;rw[n9 b lb]at r2;have r3:c=0:=(by simpa using r3.symm);subst r3;cases ka:a.all digB with
   |false=>
    rw[ka]at r1;have r1:h= -1:=(by simpa using r1.symm);rw[G0 (by omega)];exact Rdr.part_bad (Rdr.clock_bad (Rdr.digits_bad (Rdr.sign_bad (Rdr.digits_no la ka))))
   |true=>
    rw[ka,G3 rfl]at r1;cases kb:b.all digB with
    |false=>
     rw[kb]at r2;have r2:m= -1:=(by simpa using r2.symm);rw[G0 (by omega)];have:=Rdr.digits_no (a:=b) (t:=[]) (k:=false) lb kb;rw[J3]at this;exact Rdr.part_bad (Rdr.clock_bad (by rw[Rdr.digits_app la ka];simp only[gO,M4,if_true];exact this))
    |true=>
     rw[kb,G3 rfl]at r2;have pa:=cJ a 0 (by omega) ka;have pb:=cJ b 0 (by omega) kb;have hd:=Rdr.digits_app (a:=b) (t:=[]) (k:=false) lb kb;rw[J3]at hd;have ht:Rdr.clock ⟨a++58::b,false⟩=(3600*h+60*m+0,⟨[],decide (h>23)||(decide (m>59)||decide ((0:Int)>59))⟩):=by
      unfold Rdr.clock;rw[Rdr.digits_app la ka];simp only[gO,M4,if_true];rw[hd];simp[r1,r2]
     unfold Rdr.part;rw[ht];subst r1;subst r2;by_cases k1:numA 0 a≤23
     ·by_cases k2:numA 0 b≤59
      ·rw[G3 ⟨pa,k1,pb,k2,by omega,by omega⟩];have:¬numA 0 a>23:=by omega
       have:¬numA 0 b>59:=by omega
       simp[*]
      ·rw[G0 (by omega)];simp[show numA 0 b>59 by omega]
     ·rw[G0 (by omega)];simp[show numA 0 a>23 by omega]
  ·match t,hl with
   | [a,b,d],_=>
   have la:=hc2 a (by simp);have lb:=hc2 b (by simp);have ld:=hc2 d (by simp);have hj:a++58::(b++58::d)=s:=hj;subst hj;simp only[K9,N3,G5,H6]at r1 r2 r3;rw[n9 a la]at r1;rw[n9 b lb]at r2;rw[n9 d ld]at r3;simp only[if_true]at r3;cases ka:a.all digB with
   |false=>
    rw[ka]at r1;have r1:h= -1:=(by simpa using r1.symm);rw[G0 (by omega)];exact Rdr.part_bad (Rdr.clock_bad (Rdr.digits_bad (Rdr.sign_bad (Rdr.digits_no la ka))))
   |true=>
    rw[ka,G3 rfl]at r1;cases kb:b.all digB with
    |false=>
     rw[kb]at r2;have r2:m= -1:=(by simpa using r2.symm);rw[G0 (by omega)];exact Rdr.part_bad (Rdr.clock_bad (by rw[Rdr.digits_app la ka];simp only[gO,M4,if_true];exact Rdr.digits_no lb kb))
    |true=>
     rw[kb,G3 rfl]at r2;have pa:=cJ a 0 (by omega) ka;have pb:=cJ b 0 (by omega) kb;cases kd:d.all digB with
     |false=>
      rw[kd]at r3;have r3:c= -1:=(by simpa using r3.symm);rw[G0 (by omega)];have:=Rdr.digits_no (a:=d) (t:=[]) (k:=false) ld kd;rw[J3]at this;refine Rdr.part_bad ?_;unfold Rdr.clock;rw[Rdr.digits_app la ka];simp only[gO,M4,if_true];rw[Rdr.digits_app lb kb];simp[gO,this]
     |true=>
      rw[kd,G3 rfl]at r3;have pd:=cJ d 0 (by omega) kd;have hd:=Rdr.digits_app (a:=d) (t:=[]) (k:=false) ld kd;rw[J3]at hd;have ht:Rdr.clock ⟨a++58::(b++58::d),false⟩=(3600*h+60*m+c,⟨[],decide (h>23)||(decide (m>59)||decide (c>59))⟩):=by
       unfold Rdr.clock;rw[Rdr.digits_app la ka];simp only[gO,M4,if_true];rw[Rdr.digits_app lb kb];simp[gO,hd,r1,r2,r3]
      unfold Rdr.part;rw[ht];subst r1;subst r2;subst r3;by_cases k1:numA 0 a≤23
      ·by_cases k2:numA 0 b≤59
       ·by_cases k3:numA 0 d≤59
        ·rw[G3 ⟨pa,k1,pb,k2,pd,k3⟩];have:¬numA 0 a>23:=by omega
         have:¬numA 0 b>59:=by omega
         have:¬numA 0 d>59:=by omega
         simp[*]
        ·rw[G0 (by omega)];simp[show numA 0 d>59 by omega]
       ·rw[G0 (by omega)];simp[show numA 0 b>59 by omega]
      ·rw[G0 (by omega)];simp[show numA 0 a>23 by omega]
theorem iC{o:Option Int}{x:Dt}(h:okD x=false):zonT o x=none:=by
 unfold zonT;split
 ·rfl
 ·exact j5 h
theorem zL{x:Dt}(h:¬(0≤x.h∧x.h≤23∧0≤x.i∧x.i≤59∧0≤x.s∧x.s≤59)):okD x=false:=by
 cases hk:okD x with
 |false=>rfl
 |true=>
  unfold okD at hk;simp only[G2,H2]at hk;exact absurd ⟨hk.1.1.1.1.1.2,hk.1.1.1.1.2,hk.1.1.1.2,hk.1.1.2,hk.1.2,hk.2⟩ h
theorem rR(w:List Bs):wrdP w=wrdR w:=by
 by_cases hl:w.length=5
 rotate_left
 ·unfold wrdP wrdR;rw[G0 (fun h=>hl h.1),G3 (.inl hl)]
 match w,hl with
 | [a,b,c,d,e],_=>
 unfold wrdP wrdR;simp only[K9,N3,G5,H6,L2,Nat.reduceAdd,true_and,ne_eq,not_true_eq_false,false_or];by_cases h2:2<a.length
 ·rw[G0 (by omega),G3 (.inl h2)]
 by_cases hy:c.length=2∨c.length=4
 rotate_left
 ·have hw:(Rdr.part c Rdr.year).2=true:=by
   obtain⟨k,_⟩| ⟨_,k⟩:=Rdr.part_year c
   ·exact absurd k hy
   ·exact k
  rw[G3 (show 2<a.length∨¬c.length=4∧¬c.length=2 from .inr (by omega))];by_cases h1:1≤a.length∧a.length≤2
  ·rw[G3 h1];simp[hw]
  ·rw[G0 h1]
 rw[G0 (show ¬(2<a.length∨¬c.length=4∧¬c.length=2) by omega)];have hck:=xz d;by_cases h1:1≤a.length
 rotate_left
 ·rw[G0 (by omega)];have:num9 a= -1:=by unfold num9;rw[G3 (.inl (by omega))]
  split
  ·rfl
  ·exact(iC (qb this)).symm
 rw[G3 ⟨h1,by omega⟩,Rdr.part_all];have n9:num9 a=if a.all digB then numA 0 a else-1:=bK h1 (by omega)
 cases ka:a.all digB with
 |false=>
  rw[ka]at n9;simp only[I7,if_false,L0,if_true]at n9 ⊢;split
  ·rfl
  ·exact(iC (qb n9)).symm
 |true=>
 rw[ka,G3 rfl]at n9;simp only[if_true,O0];obtain⟨_,hy2,hy3⟩| ⟨hy2,hy3⟩:=Rdr.part_year c
 rotate_left
 ·rw[hy3];simp only[L0,if_true];have hcd:¬c.all digB=true:=fun k=>hy2 ⟨hy,k⟩
  have:yearR c= -1:=by
   unfold yearR;rw[bK (by omega) (by omega),G0 hcd,G0 (by omega),G0 (by omega)]
  split
  ·rfl
  ·exact(iC (vx this)).symm
 rw[hy3];simp only[O0];cases hk:clkR d with
 |none=>
  rw[hk]at hck;simp only[]at hck;rw[hck];simp
 |some v=>
  obtain⟨h,m,s⟩:=v;rw[hk]at hck;simp only[]at hck ⊢;split at hck
  rotate_left
  ·rename_i hr;rw[hck];simp only[L0,if_true];exact(iC (zL hr)).symm
  rename_i hr;rw[hck,n9];simp only[O0];obtain⟨q1,q2,q3,q4,q5,q6⟩:=hr;have e0:(3600*h+60*m+s)/60=60*h+m:=by omega
  have e1:(3600*h+60*m+s)/3600=h:=by omega
  have e2:(3600*h+60*m+s)/60%60=m:=by rw[e0];omega
  have e3:(3600*h+60*m+s)%60=s:=by omega
  rw[e1,e2,e3,Int.add_comm 1];unfold zonR;cases hz:namF e with
  |some z=>rfl
  |none=>
   obtain⟨k1,z,k2,k3⟩| ⟨k1,k2⟩:=Rdr.part_off e
   ·simp only[];rw[k3,G0 (show ¬e.length≠5 by omega),k2];rfl
   ·simp only[];rw[k2,G3 rfl];by_cases hl5:e.length=5
    ·rw[G0 (show ¬e.length≠5 by omega),k1.resolve_left (by omega)];rfl
    ·rw[G3 hl5];rfl
theorem oO(s:Bs):mailP s=mailR s:=by
 unfold mailP mailR;by_cases h6:(splF 32 s).length=6
 ·rw[G3 h6];by_cases hw:(splF 32 s).getD 0 []∈weekL
  ·rw[G3 ⟨h6,hw⟩,G3 hw,rR]
  ·rw[G0 (fun h=>hw h.2),G0 hw];unfold wrdP;rw[G0 (by omega)]
 ·rw[G0 (fun h=>h6 h.1),G0 h6,rR]
end
section
attribute [local irreducible] WP WPl WPix Sat
variable (G:Nat→Option (List AVal))
def shortAt(s:List UInt8):Nat→List UInt8
 |0=>s
 |k+1=>if s[k]? =some 58 then s.drop (k+1)else shortAt s k
def short(s:List UInt8):List UInt8:=shortAt s s.length
theorem oP{b:UInt8}{k:Nat}(hk:k<256):((b.toNat:Int)=(k:Nat))↔b=UInt8.ofNat k:=by
 constructor
 ·intro h;have:b.toNat=k:=by omega
  rw[← this];simp
 ·rintro rfl;simp[Nat.mod_eq_of_lt hk]
theorem hU(s:List UInt8)(hs:s.length≤1048576)(h:Heap):Sat (CT G) 119 [.str s] h (fun r h'=>r=.str (short s)∧h'=h):=by
 refine sb [.tmp 2] Tryz.func119 ?_;intro Q hQ;refine aj trivial ?_;refine lm (fun nL tL hL=>∃(k:Nat),k=nL∧h=hL∧tL 3=.int .i64 ((k:Int)-1)∧k≤s.length∧short s=shortAt s k) ((fun(k:Nat)=>(k:Nat)) (s.length)) ?_ ?_
 ·refine G9 ⟨s.length,rfl,ar,?_,H5 _,rfl⟩;all_goals first|exact aE trivial|rfl|omega|trivial|skip
 rintro _ s2 h' ⟨k,rfl,rfl,e3,hk,hi⟩ K2 hK2;simp only[ai,ak,Nat.reduceEqDiff, ↓reduceIte]at e3;have F:=e3;refine aj F ?_;refine aH F (fun hc=>?_) (fun hc=>?_)<;>(try exact hc.elim)
 ·obtain⟨m,rfl⟩:∃m,k=m+1:=⟨k-1,by omega⟩;have e3:s2 3=.int .i64 (m:Int):=by rw[e3];congr;omega
  obtain⟨b,hb,_⟩:=ae (show m<s.length by omega);have F:=F2 e3 hb;refine aj F ?_;refine aH F (fun hc=>?_) (fun hc=>?_)<;>(try exact hc.elim)<;>(refine aj F ?_)
  ·refine ay hQ F ?_;refine fR (.str _) ?_;rw[hi,shortAt,G3]
   ·rw[hb,(oP (k:=58) (by omega)).1 hc];rfl
  ·refine hK2 _ _ _ (G9 ⟨m,rfl,ar,?_,by omega,?_⟩) (by omega);(all_goals first|exact aE F|rfl|omega|trivial|skip);rw[hi,shortAt,G0];rw[hb];intro e;cases e;exact hc rfl
 ·refine aj F ?_;refine ay hQ F ?_;refine fR (.str _) ?_;have:k=0:=(by omega);subst this;rw[hi];rfl
def attrF:List At→Bs→Bs×Bool
 | [],_=>([],false)
 |a::l,n=>if a.1=n then(a.2,true)else attrF l n
theorem mM(e:Elem)(n:Bs)(hs:e.sz≤1048576)(h:Heap):Sat (CT G) 189 [e.av,.str n] h (fun r h'=>r=.tup [.str (attrF e.attrs n).1,.bool (attrF e.attrs n).2]∧h'=h):=by
 have hal:=e.attrs_len;refine sb [.tmp 4,.tmp 5] Tryz.func189 ?_;intro Q hQ;refine aj trivial ?_;refine lm (fun nL tL hL=>∃(k:Nat),e.attrs.length-k=nL∧h++[.row 76 4 0 [e.av]]=hL∧tL 6=.int .i64 k∧k≤e.attrs.length∧attrF e.attrs n=attrF (e.attrs.drop k) n) ((fun(k:Nat)=>(e.attrs.length-k:Nat)) (0)) ?_ ?_
 ·refine G9 ⟨0,rfl,ar,?_,?_,?_⟩;all_goals first|exact aE trivial|rfl|omega|trivial|skip
 rintro _ s2 h' ⟨k,rfl,rfl,e6,hk,hp⟩ K2 hK2;simp only[ai,ak,Nat.reduceEqDiff, ↓reduceIte]at e6;have F:=e6;refine aj F ?_;refine aH F (fun hc=>?_) (fun hc=>?_)<;>(try exact hc.elim)
 ·obtain⟨x,hx,_⟩:=ae hc;rw[aF hx,attrF]at hp;have F:=F2 F hx;refine aj F ?_;refine aH F (fun hc=>?_) (fun hc=>?_)<;>(try exact hc.elim)<;>(refine aj F ?_)
  ·refine ay hQ F ?_;refine fR (.tup _ (by simp[Clo.str,Clo.bool])) ?_;rw[hp,G3 hc]
  ·refine hK2 _ _ _ (G9 ⟨k+1,rfl,ar,?_,by omega,?_⟩) (by omega);(all_goals first|exact aE F|rfl|omega|trivial|skip);rw[hp,G0 hc]
 ·refine aj F ?_;refine ay hQ F ?_;refine fR (.tup _ (by simp[Clo.str,Clo.bool])) ?_;rw[hp,aY hc];rfl
mutual
def deep:Elem→Nat→Nat
 | .mk _ _ _ k,d=>if 40≤d then 40 else deepL k d d
def deepL:List Elem→Nat→Nat→Nat
 | [],_,n=>n
 |k::l,d,n=>deepL l d (if n<deep k (d+1)then deep k (d+1)else n)
end
theorem mN{h0 h1 pre post:Heap}{e n v q:Nat}{rows:List AVal}(hh:h1=pre++ .row e n v rows::post)(hq:q=pre.length)(hp:h0.length≤q)(hc:∀r∈rows,Clo h0.length r)(hs:∀r∈rows,∀c∈r.cells,c.sto=true):
  Frz h1 h0.length (.hs q v 0 rows.length true) (.sl n rows):=by
 subst hh;subst hq;have:=Frz.hs (h:=pre++ .row e n v rows::post) (n:=h0.length) pre.length v 0 rows.length true e n rows rows hp (by simp[getRow]) (by simp) rfl
   (fun i r s hr hs'=>by rw[hr]at hs';cases hs';exact .clo _ (hc r (G4 hr)))
   (fun i r s hr hs'=>by rw[hr]at hs';cases hs';exact⟨rfl,fun j c d hj hd=>hs r (G4 hr) d (G4 hd)⟩)
   (fun i r s j c d hr hs' hj hd=>by rw[hr]at hs';cases hs';rw[hj]at hd;cases hd;exact .clo _ ((hc r (G4 hr)).cells c (G4 hj)))
 simpa using this
theorem Elem.av_sto(e:Elem):∀c∈e.av.cells,c.sto=true:=by
 rw[Elem.av_cells];intro c hc;simp only[J6,Q9,or_false]at hc;rcases hc with rfl|rfl|rfl|rfl<;>rfl
theorem Tok.av_sto(e:Tok):∀c∈e.av.cells,c.sto=true:=by
 rw[Tok.av_cells];intro c hc;simp only[J6,Q9,or_false]at hc;rcases hc with rfl|rfl|rfl|rfl<;>rfl
theorem lk{h0 h1 pre post:Heap}{e v q:Nat}(l:List Elem)(hh:h1=pre++ .row e 4 v (l.map Elem.av)::post)(hq:q=pre.length)(hp:h0.length≤q):Frz h1 h0.length (.hs q v 0 l.length true) (.sl 4 (l.map Elem.av)):=by
 have:=mN (h0:=h0) hh hq hp (fun r hr=>by obtain⟨a,_,rfl⟩:=J9.1 hr;exact Elem.clo _ a) (fun r hr=>by obtain⟨a,_,rfl⟩:=J9.1 hr;exact a.av_sto);simpa using this
def kidsF(e:Elem)(n:Bs):List Elem:=e.kids.filter fun k=>decide (short k.name=n)
theorem gu(e:Elem)(n:Bs)(hs:e.sz≤1048576)(h:Heap):Sat (CT G) 121 [e.av,.str n] h (fun r h'=>r=.sl 4 ((kidsF e n).map Elem.av)∧h'=h):=by
 have hkl:=e.kids_len;refine sb [.tmp 4] Tryz.func121 ?_;intro Q hQ;refine aj trivial ?_;refine lm (fun nL tL hL=>∃(k v:Nat) (acc:List Elem),e.kids.length-k=nL∧h++[.row 76 4 0 [e.av],.row 76 4 v (acc.map Elem.av)]=hL∧tL 5=.hs (h.length+1) v 0 acc.length true∧tL 6=.int .i64 k∧k≤e.kids.length∧acc.length≤k∧acc++(e.kids.drop k).filter (fun k=>decide (short k.name=n))=kidsF e n) ((fun(k v:Nat) (acc:List Elem)=>(e.kids.length-k:Nat)) (0) (0) ([])) ?_ ?_
 ·refine⟨_,_,V4 5 76 4 (by simp) (by omega) (by exact aE trivial),⟨0,0,[],rfl,ar,?_,?_,?_,?_,?_⟩⟩;all_goals first|exact aE trivial|rfl|omega|trivial|skip
 rintro _ s2 h' ⟨k,v,acc,rfl,rfl,e5,e6,hk,hl,hp⟩ K2 hK2;simp only[ai,ak,Nat.reduceEqDiff, ↓reduceIte]at e5 e6;have F:=F2 e5 e6;refine aj F ?_;refine aH F (fun hc=>?_) (fun hc=>?_)<;>(try exact hc.elim)
 ·obtain⟨y,hy,hym⟩:=ae hc;have:=Elem.kid_sz hym;have:=y.name_len;rw[aF hy,List.filter_cons]at hp;have F:=F2 F hy;refine aj F ?_;refine aJ F (hU G y.name (by omega) _) ?_;refine aH F (fun hc=>?_) (fun hc=>?_)<;>(try exact hc.elim)<;>(refine aj F ?_)
  ·refine AJ F ?_;(try refine am F ?_);refine aj F ?_;refine hK2 _ _ _ (G9 ⟨k+1,v+1,acc++[y],rfl,ar,?_,?_,by omega,by simp;omega,by rw[G3 (by simp[hc])]at hp;rw[← hp];simp⟩) (by omega);all_goals first|exact aE F|rfl|omega|trivial|skip
  ·refine hK2 _ _ _ (G9 ⟨k+1,v,acc,rfl,ar,?_,?_,by omega,by omega,by rw[G0 (by simp[hc])]at hp;exact hp⟩) (by omega);all_goals first|exact aE F|rfl|omega|trivial|skip
 ·refine aj F ?_;refine ay hQ F ?_;rw[aY hc,List.filter_nil,J3]at hp;subst hp;exact P3 (lk (pre:=h++[.row 76 4 0 [e.av]]) (post:=[]) _ (by simp;rfl) (by simp) (by omega)) ⟨rfl,rfl⟩
end
section
inductive Outl where
 |mk (title url:Bs) (kids:List Outl)
 deriving Inhabited
namespace Outl
def title:Outl→Bs| .mk t _ _=>t
def kids:Outl→List Outl| .mk _ _ k=>k
end Outl
mutual
def Outl.av:Outl→AVal
 | .mk t u k=>.agg [.str t,.str u,.sl 3 (ovs k)]
def ovs:List Outl→List AVal
 | []=>[]
 |e::l=>e.av::ovs l
end
mutual
def Outl.sz:Outl→Nat
 | .mk t u k=>1+t.length+u.length+okidsz k
def okidsz:List Outl→Nat
 | []=>0
 |e::l=>e.sz+okidsz l
end
end
section
attribute [local irreducible] WP WPl WPix Sat
variable (G:Nat→Option (List AVal))
end
end Go.Av
namespace Go.Av
open Go.RowKit
section
variable {C:Ctx} {t:Env} {h:Heap}
def detGo(md:Region.Mode)(ops:Array Oper):Nat→Array Bool→Option (List Nat)
 |0,_=>some []
 |f+1,L=>match Region.ready md ops L with
  | [i]=>(detGo md ops f (L.setIfInBounds i true)).map (i:: ·)
  |_=>none
theorem mO{ops:Array Oper}{Q:Exit→Env→Heap→Prop}{md:Region.Mode}:∀(f:Nat) (L:Array Bool) (idx:List Nat) (sub:List Oper) (t:Env) (h:Heap),detGo md ops f L=some idx→idx.map (fun i=>ops[i]?)=sub.map some→
  WPl C ops Q sub t h→RestM C ops Q md f L t h:=by
 intro f;induction f with
 |zero=>
  intro L idx sub t h hd hs g n;simp only[detGo,I0]at hd;subst hd;have:sub=[]:=by simpa using hs.symm
  subst this;simp only[Region.linearise.go,List.reverse_nil,WPix];exact g
 |succ f ih=>
  intro L idx sub t h hd hs g n;simp only[detGo]at hd;split at hd
  ·rename_i i hr;obtain⟨idx',hd',rfl⟩:=J4.1 hd;cases sub with
   |nil=>simp at hs
   |cons o sub=>
    simp only[K4,R8]at hs;have hi:(Region.ready md ops L)[n%(Region.ready md ops L).length]? =some i:=by
     rw[hr,List.length_singleton,Nat.mod_one];rfl
    rw[cF md ops f n L hi];simp only[WPix,hs.1];simp only[WPl]at g;exact dG g fun t' h' g'=>ih _ idx' sub t' h' hd' hs.2 g' _
  ·cases hd
theorem mP{l:List Oper}{k n:Nat}(h:k+n≤l.length):(List.range' k n).map (fun i=>l.toArray[i]?)=((l.drop k).take n).map some:=by
 refine List.ext_getElem? fun i=>?_
 simp only[L4];by_cases hi:i<n
 ·rw[I4 hi,K8,List.getElem?_range' (by omega)];simp only[O2,R7];have:k+i<l.length:=by omega
  simp[G1 this]
 ·rw[O4 (by simp;omega),O4 (by simp;omega)];rfl
inductive OT where
 |nil
 |one (i:Nat) (s:OT)
 |two (i:Nat) (s:OT) (j:Nat) (u:OT)
def OT.ok(ops:Array Oper):Nat→Array Bool→OT→Bool
 |0,_,.nil=>true
 |f+1,L,.one i s=>Region.ready .any ops L==[i]&&OT.ok ops f (L.setIfInBounds i true) s
 |f+1,L,.two i s j u=>Region.ready .any ops L==[i,j]&&(OT.ok ops f (L.setIfInBounds i true) s&&OT.ok ops f (L.setIfInBounds j true) u)
 |_,_,_=>false
def WPt(C:Ctx)(ops:Array Oper)(Q:Exit→Env→Heap→Prop):OT→Env→Heap→Prop
 | .nil,t,h=>Q .normal t h
 | .one i s,t,h=>WPl C ops (fun _ t' h'=>WPt C ops Q s t' h') (ops[i]?).toList t h
 | .two i s j u,t,h=>WPl C ops (fun _ t' h'=>WPt C ops Q s t' h') (ops[i]?).toList t h∧WPl C ops (fun _ t' h'=>WPt C ops Q u t' h') (ops[j]?).toList t h
theorem OT.sound{ops:Array Oper}{Q:Exit→Env→Heap→Prop}:∀(f:Nat) (L:Array Bool) (tr:OT) (t:Env) (h:Heap),OT.ok ops f L tr=true→WPt C ops Q tr t h→RestM C ops Q .any f L t h:=by
 intro f;induction f with
 |zero=>
  intro L tr t h ho g n;cases tr with
  |nil=>simp only[Region.linearise.go,List.reverse_nil,WPix];exact g
  |_=>simp[OT.ok]at ho
 |succ f ih=>
  intro L tr t h ho g n;have step:∀(i:Nat) (s:OT),(Region.ready .any ops L)[n%(Region.ready .any ops L).length]? =some i→OT.ok ops f (L.setIfInBounds i true) s=true→WPl C ops (fun _ t' h'=>WPt C ops Q s t' h') (ops[i]?).toList t h→
    WPix C ops Q (Region.linearise.go .any ops (f+1) n L []) t h:=fun i s hi hs hg=>by
   rw[cF .any ops f n L hi];simp only[WPix];have hmem:=G4 hi;obtain⟨_,o,ho,_⟩:=mem_ready.1 hmem;simp only[ho,Option.toList]at hg ⊢;simp only[WPl]at hg;exact dG hg fun t' h' g'=>ih _ s t' h' hs g' _
  cases tr with
  |nil=>simp[OT.ok]at ho
  |one i s=>
   simp only[OT.ok,G2,beq_iff_eq]at ho;exact step i s (by rw[ho.1,List.length_singleton,Nat.mod_one];rfl) ho.2 g
  |two i s j u=>
   simp only[OT.ok,G2,beq_iff_eq]at ho;have hn:n%2=0∨n%2=1:=(by omega);rcases hn with hn|hn
   ·exact step i s (by rw[ho.1];show [i,j][n%2]? =_;rw[hn];rfl) ho.2.1 g.1
   ·exact step j u (by rw[ho.1];show [i,j][n%2]? =_;rw[hn];rfl) ho.2.2 g.2
theorem cw{id:Nat}{l:List Oper}{Q:Exit→Env→Heap→Prop}(k:Nat)(tr:OT)(hok:(preOk l.toArray k&&decide (k≤l.length))=true)(hm:C.P.follows .mixedOrders=true)
  (hT:OT.ok l.toArray (l.length-k) (listK l.length k) tr=true)
  (hh:WPp C l.toArray (l.take k) t h fun t'=>WPt C l.toArray Q tr t' h):WP C (.region id l.toArray true) Q t h:=by
 simp only[G2,H2]at hok;have D:=eD hok.1;obtain⟨V,hv,hK⟩:=bH _ _ hh;have hlen:(l.take k).length=k:=by simp;omega
 rw[hlen]at hK;have rT:=OT.sound (ops:=l.toArray) (Q:=Q) _ _ tr _ h hT hK;have main:∀n,WPix C l.toArray Q (Region.linearise .any l.toArray n) t h:=fun n=>by
  unfold Region.linearise;refine cH D .any D.less (by simp;omega) (V:=V) (t0:=t) (fun _=>True) (fun i o hi _=>hv i o hi) (by simpa using rT) _ _ _ _ (by simp) ?_ (fun j oj hj hl=>?_) (fun j hj hl=>?_) (fun _ _ _=>trivial) (Ag.start _ _ _ _ fun j hj=>?_)
  ·unfold left;have:(List.range l.toArray.size).filter (fun i=> !(Array.replicate l.toArray.size false).getD i true)=List.range l.toArray.size:=by
    rw[Q3];intro i hi;have:=L1.1 hi;simp at this ⊢;simp[this]
   rw[this,R2]
  ·have h8:=(J0.1 hj).1;simp at h8 hl;simp[h8]at hl
  ·simp at hj hl;simp[hj]at hl
  ·have:j<l.length:=by omega
   simp[this]
 show ∀tp,WPix C l.toArray Q (Region.schedule (C.P.follows .mixedOrders) l.toArray tp) t h;intro tp;unfold Region.schedule;rw[hm];simp only[L0,if_true];exact main _
def agrL:List Nat→Env→Env→Prop
 | [],_,_=>True
 |d::ds,s,t=>s d=t d∧agrL ds s t
theorem gv:∀{ds:List Nat} {s t:Env},agrL ds s t→∀d∈ds,s d=t d
 | [],_,_,_,d,h=>by cases h
 |e::ds,s,t,g,d,h=>by
  rcases J6.1 h with rfl|h
  ·exact g.1
  ·exact gv g.2 d h
theorem iD{d:Nat}:∀{l:List Oper} {i:Nat} {o:Oper},l[i]? =some o→o.dst=some d→d∈wrOps l
 | [],i,o,h,_=>by simp at h
 |a::l,0,o,h,hd=>by simp at h;subst h;unfold wrOps;rw[hd];simp
 |a::l,i+1,o,h,hd=>by
  have:=iD (l:=l) (i:=i) (o:=o) (by simpa using h) hd;unfold wrOps;split<;>simp[this]
theorem aG{id:Nat}{l:List Oper}{Q:Exit→Env→Heap→Prop}(k u:Nat)(oe:Oper)(hoe:l[k]? =some oe)(hok:(preOk l.toArray (k+1)&&decide (u≤k))=true)(hm:C.P.follows .mixedOrders=true)
  (hu:((List.range k).all fun i=>decide (i<u)||((Region.before l.toArray).getD k 0).testBit i)=true)(hdst:((l.take u).all fun o=>o.dst.isSome)=true)
  (hA:detGo .any l.toArray (l.length-(k+1)) (listK l.length (k+1))=some (List.range' (k+1) (l.length-(k+1))))
  (hh:WPp C l.toArray (l.take k) t h fun t'=>wpOperV C l.toArray oe t' h fun v h'=>
   (WPp C l.toArray (l.take u) t h' fun t''=>agrL (wrOps (l.take u)) t'' t')∧WPl C l.toArray Q (l.drop (k+1)) (put t' oe.dst v) h'):WP C (.region id l.toArray true) Q t h:=by
 simp only[G2,H2]at hok;have D:=eD hok.1;have hkl:=(F1.1 hoe).1;obtain⟨V,hv,hK⟩:=bH _ _ hh;have hlen:(l.take k).length=k:=by simp;omega
 rw[hlen]at hK;have hTT:∀i,i≤k→Av.T V (l.take k) t i=Av.T V l t i:=fun i hi=>fH V V k (fun _ _=>rfl) _ _ _ _ hi (by rw[V1];congr 1;omega) (by rw[hlen];exact hi) (by omega)
 rw[hTT k (H5 _)]at hK;have main:∀n,WPix C l.toArray Q (Region.linearise .any l.toArray n) t h:=fun n=>by
  unfold Region.linearise;refine jy D .any D.less (by simp;omega) (V:=V) (t0:=t) (oe:=oe) (by simpa using hoe) (fun i o hi ho=>?_) ?_ _ _ _ _ (by simp) ?_ (fun j oj hj hl=>?_) (fun j hj hl=>?_) (Ag.start _ _ _ _ fun j hj=>?_)
  ·have:=hv i o (by rw[M1,G3 hi];simpa using ho);rw[hTT i (by omega)]at this;exact this
  ·refine bv hK fun v h' ⟨h1,h2⟩=>⟨fun i o hi ho hc=>?_,?_⟩
   ·have hiu:i<u:=by
     have:=I1.1 hu i (L1.2 hi);rw[hc]at this;simpa using this
    obtain⟨V2,hv2,hK2⟩:=bH _ _ h1;have hlu:(l.take u).length=u:=(by simp;omega);rw[hlu]at hK2;have hVV:∀j,j<u→V2 j=V j:=fun j hj=>by
     have hoj:l[j]? =some (l[j]'(by omega)):=G1 _;have hoj':(l.take u)[j]? =some (l[j]'(by omega)):=(by rw[M1,G3 hj];exact hoj);obtain⟨d,hdd⟩:=J5.1 (I1.1 hdst _ (G4 hoj'));have e:=gv hK2 d (iD hoj' hdd);have a1:=D.ag_T V2 t (by simp;omega) u (by omega);have a2:=D.ag_T V t (by simp;omega) k (by omega);have hoa:l.toArray[j]? =some (l[j]'(by omega)):=(by simp);have b1:=a1.1 j _ d (by omega) hoa (by simpa using hj) hdd;have b2:=a2.1 j _ d (by omega) hoa (by simp;omega) hdd;have c1:Av.T V2 (l.toArray.toList.take (k+1)) t u=Av.T V2 (l.take u) t u:=fH V2 V2 u (fun _ _=>rfl) _ _ _ _ (H5 _) (by simp[V1];try omega) (by simp;omega) (by omega);have c2:Av.T V (l.toArray.toList.take (k+1)) t k=Av.T V l t k:=fH V V k (fun _ _=>rfl) _ _ _ _ (H5 _) (by simp[V1]) (by simp;omega) (by omega);rw[c1]at b1;rw[c2]at b2;rw[← b1, ← b2,e]
    have:=hv2 i o (by rw[M1,G3 hiu];simpa using ho);rw[hVV i hiu]at this;have c3:Av.T V2 (l.take u) t i=Av.T V l t i:=fH V V2 u hVV _ _ _ _ (by omega) (by rw[V1];congr 1;omega) (by omega) (by omega);rw[c3]at this;exact this
   ·have:=mO (ops:=l.toArray) (Q:=Q) _ _ _ (l.drop (k+1)) _ h' hA (by rw[mP (by omega),H9 (by simp)]) h2;simpa using this
  ·unfold left;have:(List.range l.toArray.size).filter (fun i=> !(Array.replicate l.toArray.size false).getD i true)=List.range l.toArray.size:=by
    rw[Q3];intro i hi;have:=L1.1 hi;simp at this ⊢;simp[this]
   rw[this,R2]
  ·have h8:=(J0.1 hj).1;simp at h8 hl;simp[h8]at hl
  ·simp at hj hl;simp[hj]at hl
  ·have:j<l.length:=by omega
   simp[this]
 show ∀tp,WPix C l.toArray Q (Region.schedule (C.P.follows .mixedOrders) l.toArray tp) t h;intro tp;unfold Region.schedule;rw[hm];simp only[L0,if_true];exact main _
attribute [go_sem] agrL
theorem aR{ops:Array Oper}{Q:Exit→Env→Heap→Prop}(g:Q .normal t h):WPt C ops Q .nil t h:=g
theorem aS{ops:Array Oper}{Q:Exit→Env→Heap→Prop}{i:Nat}{s:OT}{o:Oper}(ho:ops[i]? =some o)(g:WPl C ops (fun _ t' h'=>WPt C ops Q s t' h') [o] t h):WPt C ops Q (.one i s) t h:=by
 simp only[WPt,ho];exact g
theorem aT{ops:Array Oper}{Q:Exit→Env→Heap→Prop}{i j:Nat}{s u:OT}{o p:Oper}(ho:ops[i]? =some o)(hp:ops[j]? =some p)(g:WPl C ops (fun _ t' h'=>WPt C ops Q s t' h') [o] t h)
  (g':WPl C ops (fun _ t' h'=>WPt C ops Q u t' h') [p] t h):WPt C ops Q (.two i s j u) t h:=by
 simp only[WPt,ho,hp];exact⟨g,g'⟩
end
end Go.Av
