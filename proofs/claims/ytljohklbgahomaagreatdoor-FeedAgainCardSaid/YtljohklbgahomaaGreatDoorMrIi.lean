/- Parts. -/
import Derived.Test.YtljohklbgahomaaGreatDoorMrHb
import Derived.Lib.TrimUEq
import Derived.Test.YtljohklbgahomaaGreatDoorMrEx2
set_option linter.unusedSimpArgs false
set_option linter.unusedVariables false
set_option linter.unusedSectionVars false
set_option linter.unnecessarySimpa false
set_option maxRecDepth 100000
set_option maxHeartbeats 16000000
namespace Go.Av
open Go Go.Proofs Go.RowKit
def dec(s:Bs)(k:Nat):Nat×Nat:=Utf8.decode ⟨s.toArray⟩ k
theorem eA(s:Bs)(k:Nat):dec s k=Lib.decodeN (s.length-k) (s.getD k 0).toNat (s.getD (k+1) 0).toNat (s.getD (k+2) 0).toNat (s.getD (k+3) 0).toNat:=by
 unfold dec;rw[Lib.decode_N]
theorem ar(n:Nat)(h:n<256):(UInt8.ofNat n).toNat=n:=by simp;omega
def fix(r:Int):Nat:=if Utf8.valid r=true then r.toNat else Utf8.runeError
theorem lz(r:Int):fix r≤1114111:=by
 unfold fix Utf8.valid Utf8.runeError;split
 ·rename_i h;simp at h;omega
 ·omega
theorem nH(r:Int):fix r<55296∨57344≤fix r:=by
 unfold fix Utf8.valid Utf8.runeError;split
 ·rename_i h;simp at h;omega
 ·omega
theorem dN(r:Int):enc r=let c:=fix r
  if c<0x80 then [UInt8.ofNat c]
  else if c<0x800 then [UInt8.ofNat (0xC0+c/64),UInt8.ofNat (0x80+c%64)]
  else if c<0x10000 then [UInt8.ofNat (0xE0+c/4096),UInt8.ofNat (0x80+c/64%64),UInt8.ofNat (0x80+c%64)]
  else [UInt8.ofNat (0xF0+c/262144),UInt8.ofNat (0x80+c/4096%64),UInt8.ofNat (0x80+c/64%64),UInt8.ofNat (0x80+c%64)]:=by
 unfold enc Utf8.encode fix;simp only[];split
 ·split
  ·rfl
  ·split
   ·rfl
   ·split<;>rfl
 ·rfl
theorem uJ(r:Int):dec (enc r) 0=(fix r,(enc r).length):=by
 have hl:=lz r;have hs:=nH r;rw[eA,dN];generalize fix r=c at*;simp only[];by_cases h1:c<128
 ·rw[E8 h1];simp only[J7,E2,E9];rw[ar _ (by omega)];simp[Lib.decodeN,h1]
 ·rw[E4 h1];by_cases h2:c<2048
  ·rw[E8 h2];simp only[J7,M3,E2,E9,J6];rw[ar _ (by omega),ar _ (by omega)];unfold Lib.decodeN;rw[E4 (by omega),E8 (by omega),E8 (by omega)];congr 1;omega
  ·rw[E4 h2];by_cases h3:c<65536
   ·rw[E8 h3];simp only[J7,M3,E2,E9,J6];rw[ar _ (by omega),ar _ (by omega),ar _ (by omega)];unfold Lib.decodeN;rw[E4 (by omega),E4 (by omega),E8 (by omega),E8 (by omega)];congr 1;omega
   ·rw[E4 h3];simp only[J7,M3,E2,E9,J6];rw[ar _ (by omega),ar _ (by omega),ar _ (by omega),ar _ (by omega)];unfold Lib.decodeN;rw[E4 (by omega),E4 (by omega),E4 (by omega),E8 (by omega),E8 (by omega)];congr 1;omega
theorem aW(s:Bs)(k:Nat)(h:k<s.length):1≤(dec s k).2∧k+(dec s k).2≤s.length:=by
 rw[eA];refine⟨Lib.decodeN_ge1 _ _ _ _ _,?_⟩;unfold Lib.decodeN;repeat (first|split| (simp only[];omega))
theorem dm(s:Bs)(k:Nat)(b:UInt8)(h:s[k]? =some b)(ha:b.toNat<128):dec s k=(b.toNat,1):=by
 rw[eA,N0,h];exact Lib.decodeN_ascii _ _ _ _ _ ha
theorem fw(s:Bs)(k:Nat)(b:UInt8)(h:s[k]? =some b)(ha:128≤b.toNat):
  128≤(dec s k).1∧((dec s k).1<55296∨57343<(dec s k).1∧(dec s k).1≤1114111)∧∀i,i<(dec s k).2→∀c,s[k+i]? =some c→128≤c.toNat:=by
 have hb:s.getD k 0=b:=by rw[N0,h];rfl
 have at_:∀i c,s[k+i]? =some c→s.getD (k+i) 0=c:=fun i c hc=>by rw[N0,hc];rfl
 have l0:∀i,(s.getD i 0).toNat<256:=fun i=>(s.getD i 0).toNat_lt
 have e1:=l0 (k+1);have e2:=l0 (k+2);have e3:=l0 (k+3);have e0:=b.toNat_lt
 rw[eA,hb];generalize h1:(s.getD (k+1) 0).toNat=b1 at*;generalize h2:(s.getD (k+2) 0).toNat=b2 at*;generalize h3:(s.getD (k+3) 0).toNat=b3 at*;have key:∀i c,s[k+i]? =some c→(i=0→c.toNat=b.toNat)∧(i=1→c.toNat=b1)∧(i=2→c.toNat=b2)∧(i=3→c.toNat=b3):=fun i c hc=>by
  have:=at_ i c hc;refine⟨fun e=>?_,fun e=>?_,fun e=>?_,fun e=>?_⟩<;>subst e
  ·rw[← this];simp only[Q2];rw[hb]
  ·rw[← h1,this]
  ·rw[← h2,this]
  ·rw[← h3,this]
 generalize s.length-k=n;have fin:∀x m:Nat,(128≤x∧(x<55296∨57343<x∧x≤1114111))→(∀i,i<m→(i=0∧128≤b.toNat)∨(i=1∧128≤b1)∨(i=2∧128≤b2)∨(i=3∧128≤b3))→
   128≤(x,m).1∧((x,m).1<55296∨57343<(x,m).1∧(x,m).1≤1114111)∧∀i,i<(x,m).2→∀c,s[k+i]? =some c→128≤c.toNat:=fun x m hx hm=>
  ⟨hx.1,hx.2,fun i hi c hc=>by
   obtain⟨k0,k1,k2,k3⟩:=key i c hc;rcases hm i hi with⟨e,h⟩| ⟨e,h⟩| ⟨e,h⟩| ⟨e,h⟩
   ·rw[k0 e];exact h
   ·rw[k1 e];exact h
   ·rw[k2 e];exact h
   ·rw[k3 e];exact h⟩
 unfold Lib.decodeN;rw[E4 (by omega)];split
 ·split
  ·exact fin _ _ (by omega) (fun i hi=>by omega)
  ·exact fin _ _ (by omega) (fun i hi=>by omega)
 ·split
  ·split
   ·exact fin _ _ (by omega) (fun i hi=>by omega)
   ·exact fin _ _ (by omega) (fun i hi=>by omega)
  ·split
   ·split
    ·exact fin _ _ (by omega) (fun i hi=>by omega)
    ·exact fin _ _ (by omega) (fun i hi=>by omega)
   ·exact fin _ _ (by omega) (fun i hi=>by omega)
end Go.Av
namespace Go.Av
open Go Go.Proofs Go.RowKit
attribute [local irreducible] WP WPl WPix Sat
variable (G:Nat→Option (List AVal))
def digF(c base:Int):Int:=
 let n:=if 48≤c∧c≤57 then c-48 else if 97≤c∧c≤102 then c-87 else if 65≤c∧c≤70 then c-55 else-1
 if base≤n then-1 else n
def numGo(base:Int):Bs→Int→Int
 | [],n=>n
 |b::t,n=>if digF b.toNat base<0 then-1 else numGo base t (base*n+digF b.toNat base)
def numF(s:Bs)(base:Int)(most:Nat):Int:=if s=[]∨most<s.length then-1 else numGo base s 0
def rightF(n:Int):Bool:=decide (n=9)||decide (n=10)||decide (n=13)||(decide (32≤n)&& !decide (enc n=[239,191,189]))
theorem nI(c base:Int)(h:0≤base):digF c base<base∨digF c base= -1:=by unfold digF;simp only[];split<;>omega
theorem jX(c base:Int)(h:128≤c):digF c base= -1:=by
 unfold digF;simp only[];rw[E4 (c:=48≤c∧c≤57) (by omega),E4 (c:=97≤c∧c≤102) (by omega),E4 (c:=65≤c∧c≤70) (by omega)];split<;>rfl
theorem gy{x:Int}(h0: -2147483648≤x)(h1:x≤2147483647):IntKind.i32.wrap x=x:=by
 simp only[IntKind.wrap,IntKind.bits,IntKind.signed];simp;omega
theorem lC(k:IntKind)(n:Int)(h0: -9223372036854775808≤n)(h1:n≤9223372036854775807):aconv Tryz.prog 21 3 (.int k n)=some (.int .i64 n):=by simp only[aconv,go_sem,gv h0 h1]
theorem lD(k:IntKind)(n:Int)(h0: -2147483648≤n)(h1:n≤2147483647):aconv Tryz.prog 3 21 (.int k n)=some (.int .i32 n):=by simp only[aconv,go_sem,gy h0 h1]
theorem jY(c base:Int)(hc:0≤c)(hc1:c≤1114111)(hb:0≤base)(hb1:base≤16)(h:Heap):
  Sat (CT G) 192 [.int .i32 c,.int .i64 base] h (fun r h'=>r=.int .i64 (digF c base)∧h'=h):=by
 have F:=F2 @lC @gy;refine sb [.tmp 4] Tryz.func192 ?_;intro Q hQ;(repeat (first|refine w1 (fun K hK=>?_)|refine w2 ?_|refine w3 ?_| ((first|refine w4 ?_|refine wD ?_|refine w5 ?_|refine w6 ?_|refine w7 ?_);try refine ai F ?_)| (refine w8 ?_;refine ai F ?_;refine w9 ?_)| ((first|refine hK _ _ (w0 ?_)| (clear hK K;refine hK _ _ (w0 ?_))| (clear hK K;clear hK K;refine hK _ _ (w0 ?_)));clear hK K)))
 rename_i K0 hK0;have tail:∀(n:Int) (t':Env),t' 5=.int .i64 n→t' 1=.int .i64 base→n=(if 48≤c∧c≤57 then c-48 else if 97≤c∧c≤102 then c-87 else if 65≤c∧c≤70 then c-55 else-1)→K0 t' h:=by
  intro n t' e5 e1 hn;have hd:digF c base=if base≤n then-1 else n:=by subst hn;rfl
  refine hK0 _ _ (H3 ?_);clear hK0 K0 hK K;have F:=F3 F e5 e1;(repeat (first|refine w1 (fun K hK=>?_)|refine w2 ?_|refine w3 ?_| ((first|refine w4 ?_|refine wD ?_|refine w5 ?_|refine w6 ?_|refine w7 ?_);try refine ai F ?_)| (refine w8 ?_;refine ai F ?_;refine w9 ?_)| ((first|refine hK _ _ (w0 ?_)| (clear hK K;refine hK _ _ (w0 ?_))| (clear hK K;clear hK K;refine hK _ _ (w0 ?_)));clear hK K)))
  refine aC F (fun hc=>?_) (fun hc=>?_)<;>(try exact hc.elim)<;>((repeat (first|refine w1 (fun K hK=>?_)|refine w2 ?_|refine w3 ?_| ((first|refine w4 ?_|refine wD ?_|refine w5 ?_|refine w6 ?_|refine w7 ?_);try refine ai F ?_)| (refine w8 ?_;refine ai F ?_;refine w9 ?_)| ((first|refine hK _ _ (w0 ?_)| (clear hK K;refine hK _ _ (w0 ?_))| (clear hK K;clear hK K;refine hK _ _ (w0 ?_)));clear hK K))))
  ·refine au hQ F ?_;refine fR (.int _ _) ?_;rw[hd,E8 hc]
  ·refine au hQ F ?_;refine fR (.int _ _) ?_;rw[hd,E4 (by omega)]
 (first|refine bl F (fun g1=>?_) (fun g1=>?_)|refine pqo F (fun g1=>?_) (fun g1=>?_))<;>(try exact g1.elim)<;>(try refine ai F ?_)<;>((repeat (first|refine w1 (fun K hK=>?_)|refine w2 ?_|refine w3 ?_| ((first|refine w4 ?_|refine wD ?_|refine w5 ?_|refine w6 ?_|refine w7 ?_);try refine ai F ?_)| (refine w8 ?_;refine ai F ?_;refine w9 ?_)| ((first|refine hK _ _ (w0 ?_)| (clear hK K;refine hK _ _ (w0 ?_))| (clear hK K;clear hK K;refine hK _ _ (w0 ?_)));clear hK K))))
 ·refine aC F (fun hc=>?_) (fun hc=>?_)<;>(try exact hc.elim)<;>((repeat (first|refine w1 (fun K hK=>?_)|refine w2 ?_|refine w3 ?_| ((first|refine w4 ?_|refine wD ?_|refine w5 ?_|refine w6 ?_|refine w7 ?_);try refine ai F ?_)| (refine w8 ?_;refine ai F ?_;refine w9 ?_)| ((first|refine hK _ _ (w0 ?_)| (clear hK K;refine hK _ _ (w0 ?_))| (clear hK K;clear hK K;refine hK _ _ (w0 ?_)));clear hK K))))
  ·refine tail (c-48) _ ?_ ?_ ?_
   ·exact az F
   ·exact az F
   ·rw[E8 (by omega)]
  ·(first|refine bl F (fun g2=>?_) (fun g2=>?_)|refine pqo F (fun g2=>?_) (fun g2=>?_))<;>(try exact g2.elim)<;>(try refine ai F ?_)<;>((repeat (first|refine w1 (fun K hK=>?_)|refine w2 ?_|refine w3 ?_| ((first|refine w4 ?_|refine wD ?_|refine w5 ?_|refine w6 ?_|refine w7 ?_);try refine ai F ?_)| (refine w8 ?_;refine ai F ?_;refine w9 ?_)| ((first|refine hK _ _ (w0 ?_)| (clear hK K;refine hK _ _ (w0 ?_))| (clear hK K;clear hK K;refine hK _ _ (w0 ?_)));clear hK K))))
   ·refine aC F (fun hc=>?_) (fun hc=>?_)<;>(try exact hc.elim)<;>((repeat (first|refine w1 (fun K hK=>?_)|refine w2 ?_|refine w3 ?_| ((first|refine w4 ?_|refine wD ?_|refine w5 ?_|refine w6 ?_|refine w7 ?_);try refine ai F ?_)| (refine w8 ?_;refine ai F ?_;refine w9 ?_)| ((first|refine hK _ _ (w0 ?_)| (clear hK K;refine hK _ _ (w0 ?_))| (clear hK K;clear hK K;refine hK _ _ (w0 ?_)));clear hK K))))
    ·refine tail (c-87) _ ?_ ?_ ?_
     ·simp(disch:=first|omega| (simp only[go_sem, ↓reduceIte,Nat.reduceEqDiff];done)|fail) only[go_sem, ↓reduceIte,Int.reduceToNat,Int.reduceLE,Int.reduceLT,Int.reduceSub,Int.reduceAdd,Nat.reduceEqDiff,Nat.reduceAdd,Nat.reduceLeDiff,Nat.reduceLT,Nat.reduceMul,Nat.reduceSub,F];congr 1;omega
     ·exact az F
     ·rw[E4 (by omega),E8 (by omega)]
    ·(first|refine bl F (fun hg=>?_) (fun hg=>?_)|refine pqo F (fun hg=>?_) (fun hg=>?_))<;>(try exact hg.elim)<;>(try refine ai F ?_)<;>((repeat (first|refine w1 (fun K hK=>?_)|refine w2 ?_|refine w3 ?_| ((first|refine w4 ?_|refine wD ?_|refine w5 ?_|refine w6 ?_|refine w7 ?_);try refine ai F ?_)| (refine w8 ?_;refine ai F ?_;refine w9 ?_)| ((first|refine hK _ _ (w0 ?_)| (clear hK K;refine hK _ _ (w0 ?_))| (clear hK K;clear hK K;refine hK _ _ (w0 ?_)));clear hK K))))
     ·refine aC F (fun hc=>?_) (fun hc=>?_)<;>(try exact hc.elim)<;>((repeat (first|refine w1 (fun K hK=>?_)|refine w2 ?_|refine w3 ?_| ((first|refine w4 ?_|refine wD ?_|refine w5 ?_|refine w6 ?_|refine w7 ?_);try refine ai F ?_)| (refine w8 ?_;refine ai F ?_;refine w9 ?_)| ((first|refine hK _ _ (w0 ?_)| (clear hK K;refine hK _ _ (w0 ?_))| (clear hK K;clear hK K;refine hK _ _ (w0 ?_)));clear hK K))))
      ·exfalso;omega
      ·refine tail (-1) _ ?_ ?_ ?_
       ·exact az F
       ·exact az F
       ·rw[E4 (by omega),E4 (by omega),E4 (by omega)]
     ·exfalso;omega
   ·(first|refine bl F (fun hg=>?_) (fun hg=>?_)|refine pqo F (fun hg=>?_) (fun hg=>?_))<;>(try exact hg.elim)<;>(try refine ai F ?_)<;>((repeat (first|refine w1 (fun K hK=>?_)|refine w2 ?_|refine w3 ?_| ((first|refine w4 ?_|refine wD ?_|refine w5 ?_|refine w6 ?_|refine w7 ?_);try refine ai F ?_)| (refine w8 ?_;refine ai F ?_;refine w9 ?_)| ((first|refine hK _ _ (w0 ?_)| (clear hK K;refine hK _ _ (w0 ?_))| (clear hK K;clear hK K;refine hK _ _ (w0 ?_)));clear hK K))))
    ·refine aC F (fun hc=>?_) (fun hc=>?_)<;>(try exact hc.elim)<;>((repeat (first|refine w1 (fun K hK=>?_)|refine w2 ?_|refine w3 ?_| ((first|refine w4 ?_|refine wD ?_|refine w5 ?_|refine w6 ?_|refine w7 ?_);try refine ai F ?_)| (refine w8 ?_;refine ai F ?_;refine w9 ?_)| ((first|refine hK _ _ (w0 ?_)| (clear hK K;refine hK _ _ (w0 ?_))| (clear hK K;clear hK K;refine hK _ _ (w0 ?_)));clear hK K))))
     ·refine tail (c-55) _ ?_ ?_ ?_
      ·simp(disch:=first|omega| (simp only[go_sem, ↓reduceIte,Nat.reduceEqDiff];done)|fail) only[go_sem, ↓reduceIte,Int.reduceToNat,Int.reduceLE,Int.reduceLT,Int.reduceSub,Int.reduceAdd,Nat.reduceEqDiff,Nat.reduceAdd,Nat.reduceLeDiff,Nat.reduceLT,Nat.reduceMul,Nat.reduceSub,F];congr 1;omega
      ·exact az F
      ·rw[E4 (by omega),E4 (by omega),E8 (by omega)]
     ·refine tail (-1) _ ?_ ?_ ?_
      ·exact az F
      ·exact az F
      ·rw[E4 (by omega),E4 (by omega),E4 (by omega)]
    ·refine tail (-1) _ ?_ ?_ ?_
     ·exact az F
     ·exact az F
     ·rw[E4 (by omega),E4 (by omega),E4 (by omega)]
 ·(first|refine bl F (fun hg=>?_) (fun hg=>?_)|refine pqo F (fun hg=>?_) (fun hg=>?_))<;>(try exact hg.elim)<;>(try refine ai F ?_)<;>((repeat (first|refine w1 (fun K hK=>?_)|refine w2 ?_|refine w3 ?_| ((first|refine w4 ?_|refine wD ?_|refine w5 ?_|refine w6 ?_|refine w7 ?_);try refine ai F ?_)| (refine w8 ?_;refine ai F ?_;refine w9 ?_)| ((first|refine hK _ _ (w0 ?_)| (clear hK K;refine hK _ _ (w0 ?_))| (clear hK K;clear hK K;refine hK _ _ (w0 ?_)));clear hK K))))
  ·exfalso;omega
  ·(first|refine bl F (fun hg=>?_) (fun hg=>?_)|refine pqo F (fun hg=>?_) (fun hg=>?_))<;>(try exact hg.elim)<;>(try refine ai F ?_)<;>((repeat (first|refine w1 (fun K hK=>?_)|refine w2 ?_|refine w3 ?_| ((first|refine w4 ?_|refine wD ?_|refine w5 ?_|refine w6 ?_|refine w7 ?_);try refine ai F ?_)| (refine w8 ?_;refine ai F ?_;refine w9 ?_)| ((first|refine hK _ _ (w0 ?_)| (clear hK K;refine hK _ _ (w0 ?_))| (clear hK K;clear hK K;refine hK _ _ (w0 ?_)));clear hK K))))
   ·exfalso;omega
   ·refine tail (-1) _ ?_ ?_ ?_
    ·exact az F
    ·exact az F
    ·rw[E4 (by omega),E4 (by omega),E4 (by omega)]
theorem cD(h j:Heap)(s:Bs)(q:Nat):(h++Blk.iter s q::j)[h.length]? =some (.iter s q):=by simp
theorem iV(s:Bs)(base:Int)(most:Nat)(hb0:1≤base)(hb1:base≤16)(hm:most≤7)(hs:s.length≤1073741824)(h:Heap):
  Sat (CT G) 173 [.str s,.int .i64 base,.int .i64 most] h (fun r h'=>r=.int .i64 (numF s base most)∧h'=h):=by
 refine sb [.tmp 6] Tryz.func173 ?_;intro Q hQ;refine ah trivial ?_;(first|refine bl trivial (fun hg=>?_) (fun hg=>?_)|refine pqo trivial (fun hg=>?_) (fun hg=>?_))<;>(try exact hg.elim)<;>(try refine ai trivial ?_)<;>(refine ah trivial ?_)
 ·refine au hQ trivial ?_;refine fR (.int _ _) ?_;unfold numF;rw[E8 (.inl hg)]
 ·refine aC trivial (fun hc=>?_) (fun hc=>?_)<;>(try exact hc.elim)<;>(refine ah trivial ?_)
  ·refine au hQ trivial ?_;refine fR (.int _ _) ?_;unfold numF;rw[E8 (.inr hc)]
  ·have hn:numF s base most=numGo base s 0:=(by unfold numF;rw[E4 (by rintro(h1|h1);exact hg h1;omega)]);rw[hn]at hQ;have h16:(16:Int)^s.length≤268435456:=by
    have:(16:Nat)^s.length≤16^7:=Nat.pow_le_pow_right (by omega) (by omega);have:((16^s.length:Nat):Int)≤((16^7:Nat):Int):=by omega
    simpa using this
   refine lm (fun nL tL hL=>∃(k:Nat) (n:Int),s.length-k=nL∧h++[.iter s k]=hL∧tL 7=.int .i64 n∧k≤s.length∧numGo base s 0=numGo base (s.drop k) n∧0≤n∧n<16^k) ((fun(k:Nat) (n:Int)=>(s.length-k:Nat)) (0) (0)) ?_ ?_
   ·refine H3 ⟨0,0,rfl,aB,?_,by omega,by simp,by omega,by simp⟩;all_goals first|exact az trivial|rfl|omega|trivial|skip
   rintro _ s2 h' ⟨k,n,rfl,rfl,e7,hk,hv,h0,h1⟩ K2 hK2;simp only[ao,aw,Nat.reduceEqDiff, ↓reduceIte]at e7;have F:=e7;refine ah F ?_;refine bR (cD _ _ _ _) (fun hlt=>?_) (fun hge=>?_)
   ·have hb:=E6 hlt;have hdrop:=R3 hlt;have hbn0:0≤base*n:=Int.mul_nonneg (by omega) h0;have hbn1:base*n≤16*n:=P7 hb1 h0;have hk16:(16:Int)^(k+1)≤268435456:=by
     have:(16:Nat)^(k+1)≤16^7:=Nat.pow_le_pow_right (by omega) (by omega);have:((16^(k+1):Nat):Int)≤((16^7:Nat):Int):=by omega
     simpa using this
    have hk17:(16:Int)^(k+1)=16^k*16:=Int.pow_succ _ _;rw[hdrop,numGo]at hv;by_cases ha:s[k].toNat<128
    ·have hd:Utf8.decode ⟨s.toArray⟩ k=(s[k].toNat,1):=dm s k _ hb ha;have hlt':=nI s[k].toNat base (by omega);rw[hd];(try refine ai F ?_);refine ah F ?_;refine aE F (jY G s[k].toNat base (by omega) (by omega) (by omega) hb1 _) ?_;refine aC F (fun hc=>?_) (fun hc=>?_)<;>(try exact hc.elim)
     ·refine ah F ?_;refine au hQ F ?_;refine fR (.int _ _) ?_;rw[hv,E8 hc]
     ·rw[E4 (by omega)]at hv;refine ah F ?_;refine hK2 _ _ _ (H3 ⟨k+1,base*n+digF s[k].toNat base,rfl,aB,?_,by omega,hv,by omega,by omega⟩) (by omega);all_goals first|exact az F|rfl|omega|trivial|skip
    ·have hd:=fw s k _ hb (by omega);unfold dec at hd;(try refine ai F ?_);refine ah F ?_;refine aE F (jY G (Utf8.decode ⟨s.toArray⟩ k).1 base (by omega) (by omega) (by omega) hb1 _) ?_;refine aC F (fun hc=>?_) (fun hc=>?_)<;>(try exact hc.elim)
     ·refine ah F ?_;refine au hQ F ?_;refine fR (.int _ _) ?_;rw[hv,E8 (by rw[jX _ _ (by omega)];omega)]
     ·exfalso;rw[jX _ _ (by omega)]at hc;omega
   ·(try refine ai F ?_);refine ah F ?_;refine au hQ F ?_;refine fR (.int _ _) ?_;rw[hv,List.drop_eq_nil_of_le (by omega)];rfl
theorem nJ{r:Int}(h:fix r=65533):enc r=[239,191,189]:=by rw[dN,h];rfl
theorem lE(r:Int)(h:Heap):Sat (CT G) 43 [.str (enc r)] h (fun x h'=>x=.bool true∧h'=h):=by
 have hl:=dM r;have hd:Utf8.decode ⟨(enc r).toArray⟩ 0=(fix r,(enc r).length):=uJ r;have hfl:=lz r;refine sb [.tmp 2] Tryz.func43 ?_;intro Q hQ;refine ah trivial ?_;refine lm (fun nL tL hL=>∃(k:Nat),(enc r).length-k=nL∧h++[.iter (enc r) k]=hL∧(k=0∨k=(enc r).length)) ((fun(k:Nat)=>((enc r).length-k:Nat)) (0)) ?_ ?_
 ·refine H3 ⟨0,rfl,aB,.inl rfl⟩;all_goals first|exact az trivial|rfl|omega|trivial|skip
 rintro _ s2 h' ⟨k,rfl,rfl,hk⟩ K2 hK2;refine ah trivial ?_;refine bR (cD _ _ _ _) (fun hlt=>?_) (fun hge=>?_)
 ·obtain rfl:k=0:=by omega
  rw[hd];try refine ai trivial ?_
  refine ah trivial ?_;(first|refine bl trivial (fun hg=>?_) (fun hg=>?_)|refine pqo trivial (fun hg=>?_) (fun hg=>?_))<;>(try exact hg.elim)<;>(try refine ai trivial ?_)<;>(refine ah trivial ?_)
  ·have hp:Lib.hasPrefix (enc r) [239,191,189]=true:=(by rw[nJ (by omega)];rfl);have F:=F2 hp @N4;refine aE F (ct G (enc r) [239,191,189] _) ?_;refine hK2 _ _ _ (H3 ⟨(enc r).length,rfl,aB,.inr rfl⟩) (by omega);all_goals first|exact az F|rfl|omega|trivial|skip
  ·refine hK2 _ _ _ (H3 ⟨(enc r).length,rfl,aB,.inr rfl⟩) (by omega);all_goals first|exact az trivial|rfl|omega|trivial|skip
 ·try refine ai trivial ?_
  refine ah trivial ?_;refine au hQ trivial ?_;refine fR (.bool _) ?_;rfl
theorem qE(n:Int)(h0:0≤n)(h1:n≤2147483647)(h:Heap):Sat (CT G) 174 [.int .i64 n] h (fun x h'=>x=.bool (rightF n)∧h'=h):=by
 have ht:n=9∨n=10∨n=13∨(n≠9∧n≠10∧n≠13):=by omega
 rcases ht with e|e|e| ⟨h9,h10,h13⟩
 ·have b9:(n==9)=true:=by simpa using e
  have F:=b9;refine sb [.tmp 2] Tryz.func174 ?_;intro Q hQ;refine ah F ?_;refine au hQ F ?_;refine fR (.bool _) ?_;simp[rightF,e]
 ·have b9:(n==9)=false:=by simp;omega
  have b10:(n==10)=true:=by simpa using e
  have F:=F2 b9 b10;refine sb [.tmp 2] Tryz.func174 ?_;intro Q hQ;refine ah F ?_;refine au hQ F ?_;refine fR (.bool _) ?_;simp[rightF,e]
 ·have b9:(n==9)=false:=by simp;omega
  have b10:(n==10)=false:=by simp;omega
  have b13:(n==13)=true:=by simpa using e
  have F:=F3 b9 b10 b13;refine sb [.tmp 2] Tryz.func174 ?_;intro Q hQ;refine ah F ?_;refine au hQ F ?_;refine fR (.bool _) ?_;simp[rightF,e]
 ·have b9:(n==9)=false:=by simpa using h9
  have b10:(n==10)=false:=by simpa using h10
  have b13:(n==13)=false:=by simpa using h13
  have F:=F5 b9 b10 b13 @lD @dJ;refine sb [.tmp 2] Tryz.func174 ?_;intro Q hQ;refine ah F ?_;(first|refine bl F (fun hg=>?_) (fun hg=>?_)|refine pqo F (fun hg=>?_) (fun hg=>?_))<;>(try exact hg.elim)<;>(try refine ai F ?_)<;>(refine ah F ?_)
  ·refine aE F (lE G n _) ?_;refine au hQ F ?_;refine fR (.bool _) ?_;simp[rightF,h9,h10,h13,hg];rw[O3];simp
  ·refine au hQ F ?_;refine fR (.bool _) ?_;simp[rightF,h9,h10,h13];omega
def signF(name:Bs):Int×Bool:=
 if name=[97,109,112]then(38,true)else if name=[108,116]then(60,true)else if name=[103,116]then(62,true)
 else if name=[113,117,111,116]then(34,true)else if name=[97,112,111,115]then(39,true)
 else
  let n:=if Lib.hasPrefix name [35,120]=true then numF (name.drop 2) 16 6 else if Lib.hasPrefix name [35]=true then numF (name.drop 1) 10 7 else-1
  if n<0 then(0,false)else if rightF n=true then(n,true)else(65533,true)
theorem sP(base:Int)(hb0:1≤base)(hb:base≤16):∀(s:Bs) (n:Int),0≤n→ -1≤numGo base s n∧numGo base s n<(n+1)*16^s.length:=by
 intro s;induction s with
 |nil=>intro n hn;simp[numGo];omega
 |cons b t ih=>
  intro n hn;rw[numGo];have hp:(0:Int)<16^t.length:=Int.pow_pos (by omega);split
  ·refine⟨by omega,?_⟩;have:0≤(n+1)*16^(b::t).length:=Int.mul_nonneg (by omega) (Int.le_of_lt (Int.pow_pos (by omega)));omega
  ·rename_i hd;have hlt:=nI b.toNat base (by omega);have hbn0:0≤base*n:=Int.mul_nonneg (by omega) hn;have hbn1:base*n≤16*n:=P7 hb hn;obtain⟨h1,h2⟩:=ih (base*n+digF b.toNat base) (by omega);refine⟨h1,Int.lt_of_lt_of_le h2 ?_⟩;rw[E2,Int.pow_succ,Int.mul_comm (16^t.length) 16, ← Int.mul_assoc];exact P7 (by omega) (Int.le_of_lt hp)
theorem nK(s:Bs)(base:Int)(most:Nat)(hb0:1≤base)(hb1:base≤16)(hm:most≤7): -1≤numF s base most∧numF s base most≤268435455:=by
 unfold numF;split
 ·omega
 ·rename_i h;have:=sP base hb0 hb1 s 0 (by omega);have h16:(16:Int)^s.length≤268435456:=by
   have:(16:Nat)^s.length≤16^7:=Nat.pow_le_pow_right (by omega) (by omega);have:((16^s.length:Nat):Int)≤((16^7:Nat):Int):=by omega
   simpa using this
  omega
theorem dn(n:Nat)(k:IntKind)(a:Int)(b:Bool):Clo n (.tup [.int k a,.bool b]):=.tup _ (by intro c hc;simp at hc;rcases hc with rfl|rfl;exact .int _ _;exact .bool _)
theorem sQ(name:Bs)(hs:name.length≤1048576)(h:Heap):Sat (CT G) 148 [.str name] h (fun x h'=>x=.tup [.int .i32 (signF name).1,.bool (signF name).2]∧h'=h):=by
 have F:= @lD;refine sb [.tmp 2,.tmp 3] Tryz.func148 ?_;intro Q hQ;(repeat (first|refine w1 (fun K hK=>?_)|refine w2 ?_|refine w3 ?_| ((first|refine w4 ?_|refine wD ?_|refine w5 ?_|refine w6 ?_|refine w7 ?_);try refine ai F ?_)| (refine w8 ?_;refine ai F ?_;refine w9 ?_)| ((first|refine hK _ _ (w0 ?_)| (clear hK K;refine hK _ _ (w0 ?_))| (clear hK K;clear hK K;refine hK _ _ (w0 ?_)));clear hK K)))
 refine aC F (fun c1=>?_) (fun c1=>?_)<;>(try exact c1.elim)<;>((repeat (first|refine w1 (fun K hK=>?_)|refine w2 ?_|refine w3 ?_| ((first|refine w4 ?_|refine wD ?_|refine w5 ?_|refine w6 ?_|refine w7 ?_);try refine ai F ?_)| (refine w8 ?_;refine ai F ?_;refine w9 ?_)| ((first|refine hK _ _ (w0 ?_)| (clear hK K;refine hK _ _ (w0 ?_))| (clear hK K;clear hK K;refine hK _ _ (w0 ?_)));clear hK K))))
 ·refine au hQ F ?_;refine fR (dn _ _ _ _) ?_;simp[signF,c1]
 refine aC F (fun c2=>?_) (fun c2=>?_)<;>(try exact c2.elim)<;>((repeat (first|refine w1 (fun K hK=>?_)|refine w2 ?_|refine w3 ?_| ((first|refine w4 ?_|refine wD ?_|refine w5 ?_|refine w6 ?_|refine w7 ?_);try refine ai F ?_)| (refine w8 ?_;refine ai F ?_;refine w9 ?_)| ((first|refine hK _ _ (w0 ?_)| (clear hK K;refine hK _ _ (w0 ?_))| (clear hK K;clear hK K;refine hK _ _ (w0 ?_)));clear hK K))))
 ·refine au hQ F ?_;refine fR (dn _ _ _ _) ?_;simp[signF,c2]
 refine aC F (fun c3=>?_) (fun c3=>?_)<;>(try exact c3.elim)<;>((repeat (first|refine w1 (fun K hK=>?_)|refine w2 ?_|refine w3 ?_| ((first|refine w4 ?_|refine wD ?_|refine w5 ?_|refine w6 ?_|refine w7 ?_);try refine ai F ?_)| (refine w8 ?_;refine ai F ?_;refine w9 ?_)| ((first|refine hK _ _ (w0 ?_)| (clear hK K;refine hK _ _ (w0 ?_))| (clear hK K;clear hK K;refine hK _ _ (w0 ?_)));clear hK K))))
 ·refine au hQ F ?_;refine fR (dn _ _ _ _) ?_;simp[signF,c3]
 refine aC F (fun c4=>?_) (fun c4=>?_)<;>(try exact c4.elim)<;>((repeat (first|refine w1 (fun K hK=>?_)|refine w2 ?_|refine w3 ?_| ((first|refine w4 ?_|refine wD ?_|refine w5 ?_|refine w6 ?_|refine w7 ?_);try refine ai F ?_)| (refine w8 ?_;refine ai F ?_;refine w9 ?_)| ((first|refine hK _ _ (w0 ?_)| (clear hK K;refine hK _ _ (w0 ?_))| (clear hK K;clear hK K;refine hK _ _ (w0 ?_)));clear hK K))))
 ·refine au hQ F ?_;refine fR (dn _ _ _ _) ?_;simp[signF,c4]
 refine aC F (fun c5=>?_) (fun c5=>?_)<;>(try exact c5.elim)<;>((repeat (first|refine w1 (fun K hK=>?_)|refine w2 ?_|refine w3 ?_| ((first|refine w4 ?_|refine wD ?_|refine w5 ?_|refine w6 ?_|refine w7 ?_);try refine ai F ?_)| (refine w8 ?_;refine ai F ?_;refine w9 ?_)| ((first|refine hK _ _ (w0 ?_)| (clear hK K;refine hK _ _ (w0 ?_))| (clear hK K;clear hK K;refine hK _ _ (w0 ?_)));clear hK K))))
 ·refine au hQ F ?_;refine fR (dn _ _ _ _) ?_;simp[signF,c5]
 refine(cr G name [35,120] _).mono ?_;rintro r h' ⟨rfl,rfl⟩;try refine ai F ?_
 (repeat (first|refine w1 (fun K hK=>?_)|refine w2 ?_|refine w3 ?_| ((first|refine w4 ?_|refine wD ?_|refine w5 ?_|refine w6 ?_|refine w7 ?_);try refine ai F ?_)| (refine w8 ?_;refine ai F ?_;refine w9 ?_)| ((first|refine hK _ _ (w0 ?_)| (clear hK K;refine hK _ _ (w0 ?_))| (clear hK K;clear hK K;refine hK _ _ (w0 ?_)));clear hK K)))
 have tail:∀(t':Env) (n:Int),t' 4=.int .i64 n→n=(if Lib.hasPrefix name [35,120]=true then numF (name.drop 2) 16 6 else if Lib.hasPrefix name [35]=true then numF (name.drop 1) 10 7 else-1)→K t' h':=by
  intro t' n e4 hn;have hS:signF name=if n<0 then(0,false)else if rightF n=true then(n,true)else(65533,true):=by
   unfold signF;rw[E4 c1,E4 c2,E4 c3,E4 c4,E4 c5, ← hn]
  have hb: -1≤n∧n≤268435455:=by
   rw[hn];split
   ·exact nK _ _ _ (by omega) (by omega) (by omega)
   ·split
    ·exact nK _ _ _ (by omega) (by omega) (by omega)
    ·omega
  refine hK _ _ (H3 ?_);clear hK K;have F:=F2 F e4;(repeat (first|refine w1 (fun K hK=>?_)|refine w2 ?_|refine w3 ?_| ((first|refine w4 ?_|refine wD ?_|refine w5 ?_|refine w6 ?_|refine w7 ?_);try refine ai F ?_)| (refine w8 ?_;refine ai F ?_;refine w9 ?_)| ((first|refine hK _ _ (w0 ?_)| (clear hK K;refine hK _ _ (w0 ?_))| (clear hK K;clear hK K;refine hK _ _ (w0 ?_)));clear hK K)))
  refine aC F (fun hc=>?_) (fun hc=>?_)<;>(try exact hc.elim)<;>((repeat (first|refine w1 (fun K hK=>?_)|refine w2 ?_|refine w3 ?_| ((first|refine w4 ?_|refine wD ?_|refine w5 ?_|refine w6 ?_|refine w7 ?_);try refine ai F ?_)| (refine w8 ?_;refine ai F ?_;refine w9 ?_)| ((first|refine hK _ _ (w0 ?_)| (clear hK K;refine hK _ _ (w0 ?_))| (clear hK K;clear hK K;refine hK _ _ (w0 ?_)));clear hK K))))
  ·refine au hQ F ?_;refine fR (dn _ _ _ _) ?_;rw[hS,E8 hc]
  ·rw[E4 (by omega)]at hS;refine(qE G n (by omega) (by omega) _).mono ?_;rintro r h' ⟨rfl,rfl⟩;(try refine ai F ?_);(repeat (first|refine w1 (fun K hK=>?_)|refine w2 ?_|refine w3 ?_| ((first|refine w4 ?_|refine wD ?_|refine w5 ?_|refine w6 ?_|refine w7 ?_);try refine ai F ?_)| (refine w8 ?_;refine ai F ?_;refine w9 ?_)| ((first|refine hK _ _ (w0 ?_)| (clear hK K;refine hK _ _ (w0 ?_))| (clear hK K;clear hK K;refine hK _ _ (w0 ?_)));clear hK K)))
   refine aC F (fun hr=>?_) (fun hr=>?_)<;>(try exact hr.elim)<;>((repeat (first|refine w1 (fun K hK=>?_)|refine w2 ?_|refine w3 ?_| ((first|refine w4 ?_|refine wD ?_|refine w5 ?_|refine w6 ?_|refine w7 ?_);try refine ai F ?_)| (refine w8 ?_;refine ai F ?_;refine w9 ?_)| ((first|refine hK _ _ (w0 ?_)| (clear hK K;refine hK _ _ (w0 ?_))| (clear hK K;clear hK K;refine hK _ _ (w0 ?_)));clear hK K))))
   ·refine au hQ F ?_;refine fR (dn _ _ _ _) ?_;rw[hS,E4 (by simpa using hr)]
   ·refine au hQ F ?_;refine fR (dn _ _ _ _) ?_;rw[hS,E8 (by simpa using hr)]
 have hd2:(name.drop 2).length≤1073741824:=by simp;omega
 have hd1:(name.drop 1).length≤1073741824:=by simp;omega
 refine aC F (fun hx=>?_) (fun hx=>?_)<;>(try exact hx.elim)<;>((repeat (first|refine w1 (fun K hK=>?_)|refine w2 ?_|refine w3 ?_| ((first|refine w4 ?_|refine wD ?_|refine w5 ?_|refine w6 ?_|refine w7 ?_);try refine ai F ?_)| (refine w8 ?_;refine ai F ?_;refine w9 ?_)| ((first|refine hK _ _ (w0 ?_)| (clear hK K;refine hK _ _ (w0 ?_))| (clear hK K;clear hK K;refine hK _ _ (w0 ?_)));clear hK K))))
 ·have e:Lib.trimPrefix name [35,120]=name.drop 2:=by unfold Lib.trimPrefix;rw[E8 hx];rfl
  rw[e];refine(iV G (name.drop 2) 16 6 (by omega) (by omega) (by omega) hd2 _).mono ?_;rintro r h' ⟨rfl,rfl⟩;try refine ai F ?_
  (repeat (first|refine w1 (fun K hK=>?_)|refine w2 ?_|refine w3 ?_| ((first|refine w4 ?_|refine wD ?_|refine w5 ?_|refine w6 ?_|refine w7 ?_);try refine ai F ?_)| (refine w8 ?_;refine ai F ?_;refine w9 ?_)| ((first|refine hK _ _ (w0 ?_)| (clear hK K;refine hK _ _ (w0 ?_))| (clear hK K;clear hK K;refine hK _ _ (w0 ?_)));clear hK K)))
  refine tail _ (numF (name.drop 2) 16 6) ?_ (by rw[E8 hx]);simp(disch:=first|omega| (simp only[go_sem, ↓reduceIte,Nat.reduceEqDiff];done)|fail) only[go_sem, ↓reduceIte,Int.reduceToNat,Int.reduceLE,Int.reduceLT,Int.reduceSub,Int.reduceAdd,Nat.reduceEqDiff,Nat.reduceAdd,Nat.reduceLeDiff,Nat.reduceLT,Nat.reduceMul,Nat.reduceSub,F]
 ·refine(cr G name [35] _).mono ?_;rintro r h' ⟨rfl,rfl⟩;try refine ai F ?_
  (repeat (first|refine w1 (fun K hK=>?_)|refine w2 ?_|refine w3 ?_| ((first|refine w4 ?_|refine wD ?_|refine w5 ?_|refine w6 ?_|refine w7 ?_);try refine ai F ?_)| (refine w8 ?_;refine ai F ?_;refine w9 ?_)| ((first|refine hK _ _ (w0 ?_)| (clear hK K;refine hK _ _ (w0 ?_))| (clear hK K;clear hK K;refine hK _ _ (w0 ?_)));clear hK K)))
  refine aC F (fun hy=>?_) (fun hy=>?_)<;>(try exact hy.elim)<;>((repeat (first|refine w1 (fun K hK=>?_)|refine w2 ?_|refine w3 ?_| ((first|refine w4 ?_|refine wD ?_|refine w5 ?_|refine w6 ?_|refine w7 ?_);try refine ai F ?_)| (refine w8 ?_;refine ai F ?_;refine w9 ?_)| ((first|refine hK _ _ (w0 ?_)| (clear hK K;refine hK _ _ (w0 ?_))| (clear hK K;clear hK K;refine hK _ _ (w0 ?_)));clear hK K))))
  ·have e:Lib.trimPrefix name [35]=name.drop 1:=(by unfold Lib.trimPrefix;rw[E8 hy];rfl);rw[e];refine(iV G (name.drop 1) 10 7 (by omega) (by omega) (by omega) hd1 _).mono ?_;rintro r h' ⟨rfl,rfl⟩;(try refine ai F ?_);(repeat (first|refine w1 (fun K hK=>?_)|refine w2 ?_|refine w3 ?_| ((first|refine w4 ?_|refine wD ?_|refine w5 ?_|refine w6 ?_|refine w7 ?_);try refine ai F ?_)| (refine w8 ?_;refine ai F ?_;refine w9 ?_)| ((first|refine hK _ _ (w0 ?_)| (clear hK K;refine hK _ _ (w0 ?_))| (clear hK K;clear hK K;refine hK _ _ (w0 ?_)));clear hK K)))
   refine tail _ (numF (name.drop 1) 10 7) ?_ (by rw[E4 (by simpa using hx),E8 hy]);simp(disch:=first|omega| (simp only[go_sem, ↓reduceIte,Nat.reduceEqDiff];done)|fail) only[go_sem, ↓reduceIte,Int.reduceToNat,Int.reduceLE,Int.reduceLT,Int.reduceSub,Int.reduceAdd,Nat.reduceEqDiff,Nat.reduceAdd,Nat.reduceLeDiff,Nat.reduceLT,Nat.reduceMul,Nat.reduceSub,F]
  ·refine tail _ (-1) ?_ (by rw[E4 (by simpa using hx),E4 (by simpa using hy)]);simp(disch:=first|omega| (simp only[go_sem, ↓reduceIte,Nat.reduceEqDiff];done)|fail) only[go_sem, ↓reduceIte,Int.reduceToNat,Int.reduceLE,Int.reduceLT,Int.reduceSub,Int.reduceAdd,Nat.reduceEqDiff,Nat.reduceAdd,Nat.reduceLeDiff,Nat.reduceLT,Nat.reduceMul,Nat.reduceSub,F]
theorem uK(s p:Bs)(h:(Lib.cut s p).2.2=true):s=(Lib.cut s p).1++p++(Lib.cut s p).2.1∧(Lib.cut s p).1.length=(Lib.index s p).toNat:=by
 unfold Lib.cut at*;by_cases h0:0≤Lib.index s p
 ·rw[E8 h0];have hr:=Lib.index_room s p h0;rcases Lib.index_spec s p with⟨e,_⟩| ⟨i,e,hi,ho,_⟩
  ·omega
  ·rw[e];simp only[Int.toNat_natCast];have hp:(s.drop i).take p.length=p:=by
    have:=Lib.occAt_iff_take s p i (by omega);rw[ho]at this;exact eq_of_beq this.symm
   refine⟨?_,by simp;omega⟩
   conv=>lhs;rw[← Q8 i s]
   rw[I6];congr 1
   conv=>lhs;rw[← Q8 p.length (s.drop i)]
   rw[hp,R4]
 ·rw[E4 h0]at h;cases h
theorem iW(s p:Bs)(h:(Lib.cut s p).2.2=false):Lib.cut s p=(s,[],false):=by
 unfold Lib.cut at*;by_cases h0:0≤Lib.index s p
 ·rw[E8 h0]at h;cases h
 ·rw[E4 h0]
theorem bH(s p:Bs)(h:(Lib.cut s p).2.2=true):(Lib.cut s p).1.length+p.length+(Lib.cut s p).2.1.length=s.length:=by
 have:=H6 List.length (uK s p h).1;simp only[E5]at this;omega
def readP:Nat→Bs→Bs
 |0,_=>[]
 |f+1,s=>
  if (Lib.cut s [38]).2.2=true then
   if ((Lib.cut (Lib.cut s [38]).2.1 [59]).2.2&&decide ((Lib.cut (Lib.cut s [38]).2.1 [59]).1.length≤10)&&(signF (Lib.cut (Lib.cut s [38]).2.1 [59]).1).2)=true
   then(Lib.cut s [38]).1++(enc (signF (Lib.cut (Lib.cut s [38]).2.1 [59]).1).1++readP f (Lib.cut (Lib.cut s [38]).2.1 [59]).2.1)
   else(Lib.cut s [38]).1++(38::readP f (Lib.cut s [38]).2.1)
  else(Lib.cut s [38]).1
theorem mS(n:Int)(h:rightF n=true):Rune n:=by
 unfold rightF at h;simp only[K1,F1,E3,L7,decide_eq_false_iff_not]at h;rcases h with((h|h)|h)| ⟨h0,h1⟩
 ·exact⟨by omega,by omega⟩
 ·exact⟨by omega,by omega⟩
 ·exact⟨by omega,by omega⟩
 ·refine⟨by omega,I8 fun hn=>h1 (nJ ?_)⟩;unfold fix Utf8.valid Utf8.runeError;rw[E4];simp;omega
theorem qF(n:Bs)(h:(signF n).2=true):Rune (signF n).1:=by
 have hc:∀k:Int,0≤k→k<55296→Rune k:=fun k a b=>⟨a,.inl b⟩
 unfold signF at*;by_cases c1:n=[97,109,112]
 ·rw[E8 c1];exact hc _ (by decide) (by decide)
 rw[E4 c1]at h ⊢;by_cases c2:n=[108,116]
 ·rw[E8 c2];exact hc _ (by decide) (by decide)
 rw[E4 c2]at h ⊢;by_cases c3:n=[103,116]
 ·rw[E8 c3];exact hc _ (by decide) (by decide)
 rw[E4 c3]at h ⊢;by_cases c4:n=[113,117,111,116]
 ·rw[E8 c4];exact hc _ (by decide) (by decide)
 rw[E4 c4]at h ⊢;by_cases c5:n=[97,112,111,115]
 ·rw[E8 c5];exact hc _ (by decide) (by decide)
 rw[E4 c5]at h ⊢;have key:∀m:Int,(if m<0 then((0:Int),false)else if rightF m=true then(m,true)else(65533,true)).2=true→Rune (if m<0 then((0:Int),false)else if rightF m=true then(m,true)else(65533,true)).1:=by
  intro m h;by_cases hm:m<0
  ·rw[E8 hm]at h;cases h
  ·rw[E4 hm];by_cases hr:rightF m=true
   ·rw[E8 hr];exact mS _ hr
   ·rw[E4 hr];exact⟨by decide,.inr ⟨by decide,by decide⟩⟩
 exact key _ h
variable {G}
theorem dY(hG:GOk G)(s0:Bs)(hs:s0.length≤1048576)(h:Heap):Sat (CT G) 110 [.str s0] h (fun x h'=>x=.str (readP (s0.length+1) s0)∧h'=h):=by
 refine sb [.tmp 2] Tryz.func110 ?_;intro Q hQ;refine ah trivial ?_;refine lm (fun nL tL hL=>∃(a:AVal) (v f:Nat) (s out:Bs),f=nL∧bldH h [] a v out=hL∧tL 0=.str s∧bldA a h.length∧s.length<f∧out++readP f s=readP (s0.length+1) s0∧out.length+5*s.length≤5*s0.length) ((fun(a:AVal) (v f:Nat) (s out:Bs)=>(f:Nat)) ((.nil (.pointer none))) (0) ((s0.length+1)) (s0) ([])) ?_ ?_
 ·refine⟨_,_,S6 (p:=h.length) (v:=0) 5 1 (by omega) (by simp(disch:=first|omega| (simp only[go_sem, ↓reduceIte,Nat.reduceEqDiff];done)|fail) only[go_sem, ↓reduceIte,Int.reduceToNat,Int.reduceLE,Int.reduceLT,Int.reduceSub,Int.reduceAdd,Nat.reduceEqDiff,Nat.reduceAdd,Nat.reduceLeDiff,Nat.reduceLT,Nat.reduceMul,Nat.reduceSub];rfl) 1 rfl,⟨(.nil (.pointer none)),0,(s0.length+1),s0,[],rfl,aB,?_,.inl rfl,by omega,rfl,by simp⟩⟩;all_goals first|exact az trivial|rfl|omega|trivial|skip
 rintro _ s2 h' ⟨a,v,f,s,out,rfl,rfl,e0,ha,hf,hv,hl⟩ K2 hK2;simp only[ao,aw,Nat.reduceEqDiff, ↓reduceIte]at e0;have F:=e0;refine ah F ?_;refine aE F (gP G hG s [38] (by omega) _) ?_;have hcl:(Lib.cut s [38]).1.length≤s.length:=by
  cases hq:(Lib.cut s [38]).2.2 with
  |true=>have:=bH s [38] hq;omega
  |false=>rw[iW s [38] hq];exact G3 _
 refine aE F (bc G a h [] v out (Lib.cut s [38]).1 ha (by omega)) ?_;refine aC F (fun hc=>?_) (fun hc=>?_)<;>(try exact hc.elim)<;>(refine ah F ?_)
 ·obtain⟨g,rfl⟩:∃g,f=g+1:=⟨f-1,by omega⟩;rw[readP,E4 (by simp[hc])]at hv;refine(fu G (.hp h.length 0 0 0) h [] (v+1) (out++(Lib.cut s [38]).1)).mono ?_;rintro r h' ⟨rfl,b2,rfl⟩;try refine ai F ?_
  refine ah F ?_;refine au hQ F ?_;exact T5 (j:=[bldR (.hp h.length 0 0 0) (h.length+1) (v+1) (out++(Lib.cut s [38]).1),b2]) (by simp) (.str _) ⟨H6 AVal.str hv,rfl⟩
 ·have hc':(Lib.cut s [38]).2.2=true:=by simpa using hc
  have hl2:=bH s [38] hc';have hl4:(Lib.cut (Lib.cut s [38]).2.1 [59]).1.length≤(Lib.cut s [38]).2.1.length:=by
   cases hq:(Lib.cut (Lib.cut s [38]).2.1 [59]).2.2 with
   |true=>have:=bH _ [59] hq;omega
   |false=>rw[iW _ [59] hq];exact G3 _
  obtain⟨g,rfl⟩:∃g,f=g+1:=⟨f-1,by omega⟩;rw[readP,E8 hc']at hv;simp only[E2,E9]at hl2;refine aE F (gP G hG (Lib.cut s [38]).2.1 [59] (by omega) _) ?_;refine aE F (sQ G (Lib.cut (Lib.cut s [38]).2.1 [59]).1 (by omega) _) ?_;(first|refine bl F (fun g1=>?_) (fun g1=>?_)|refine pqo F (fun g1=>?_) (fun g1=>?_))<;>(try exact g1.elim)<;>(try refine ai F ?_)<;>(refine ah F ?_)
  ·(first|refine bl F (fun g2=>?_) (fun g2=>?_)|refine pqo F (fun g2=>?_) (fun g2=>?_))<;>(try exact g2.elim)<;>(try refine ai F ?_)<;>(refine ah F ?_)
   ·refine aC F (fun g3=>?_) (fun g3=>?_)<;>(try exact g3.elim)<;>(refine ah F ?_)
    ·rw[E8 (by simp[g1,g3];omega)]at hv;have hl3:=bH _ [59] g1;simp only[E2,E9]at hl3;have he:=dM (signF (Lib.cut (Lib.cut s [38]).2.1 [59]).1).1;refine aE F (dz G (.hp h.length 0 0 0) (signF (Lib.cut (Lib.cut s [38]).2.1 [59]).1).1 (qF _ g3) h [] (v+1) (out++(Lib.cut s [38]).1) (.inr rfl) (by simp only[E5];omega)) ?_;refine hK2 _ _ _ (H3 ⟨(.hp h.length 0 0 0),v+1+1,g,(Lib.cut (Lib.cut s [38]).2.1 [59]).2.1,out++(Lib.cut s [38]).1++enc (signF (Lib.cut (Lib.cut s [38]).2.1 [59]).1).1,rfl,aB,?_,.inr rfl,by omega,by rw[← hv];simp,by simp only[E5];omega⟩) (by omega);all_goals first|exact az F|rfl|omega|trivial|skip
    ·rw[E4 (by simp[g3])]at hv;refine aE F (bW G (.hp h.length 0 0 0) h [] (v+1) (out++(Lib.cut s [38]).1) 38 (.inr rfl) (by simp only[E5];omega)) ?_;refine hK2 _ _ _ (H3 ⟨(.hp h.length 0 0 0),v+1+1,g,(Lib.cut s [38]).2.1,out++(Lib.cut s [38]).1++[38],rfl,aB,?_,.inr rfl,by omega,by rw[← hv];simp,by simp only[E5,E2,E9];omega⟩) (by omega);all_goals first|exact az F|rfl|omega|trivial|skip
   ·rw[E4 (by simp[show ¬(Lib.cut (Lib.cut s [38]).2.1 [59]).1.length≤10 by omega])]at hv;refine aE F (bW G (.hp h.length 0 0 0) h [] (v+1) (out++(Lib.cut s [38]).1) 38 (.inr rfl) (by simp only[E5];omega)) ?_;refine hK2 _ _ _ (H3 ⟨(.hp h.length 0 0 0),v+1+1,g,(Lib.cut s [38]).2.1,out++(Lib.cut s [38]).1++[38],rfl,aB,?_,.inr rfl,by omega,by rw[← hv];simp,by simp only[E5,E2,E9];omega⟩) (by omega);all_goals first|exact az F|rfl|omega|trivial|skip
  ·rw[E4 (by simp[g1])]at hv;refine aE F (bW G (.hp h.length 0 0 0) h [] (v+1) (out++(Lib.cut s [38]).1) 38 (.inr rfl) (by simp only[E5];omega)) ?_;refine hK2 _ _ _ (H3 ⟨(.hp h.length 0 0 0),v+1+1,g,(Lib.cut s [38]).2.1,out++(Lib.cut s [38]).1++[38],rfl,aB,?_,.inr rfl,by omega,by rw[← hv];simp,by simp only[E5,E2,E9];omega⟩) (by omega);all_goals first|exact az F|rfl|omega|trivial|skip
end Go.Av
namespace Go.Av
open Go Go.Proofs Go.RowKit
attribute [local irreducible] WP WPl WPix Sat
variable (G:Nat→Option (List AVal))
def rdrR(s:Bs)(b:Bool):Blk:=.row 95 2 0 [.agg [.str s,.bool b]]
def rdH(h j:Heap)(s:Bs)(b:Bool):Heap:=h++rdrR s b::j
theorem cE(h j:Heap)(s:Bs)(b:Bool):(rdH h j s b).length=h.length+(1+j.length):=by simp[rdH];omega
theorem wo(n:Nat)(s:Bs)(b:Bool):CloB n (rdrR s b):=by
 intro r hr;simp only[K4]at hr;subst hr;exact .agg _ (by intro c hc;simp at hc;rcases hc with rfl|rfl;exact .str _;exact .bool _)
theorem nM(h j:Heap)(s s0:Bs)(b b0:Bool)(n:Nat):∀(p:Nat) (k:Blk),(rdH h j s b)[p]? =some k→(rdH h j s0 b0)[p]? =some k∨CloB n k:=by
 intro p k hk;unfold rdH at*;rcases O5 p h.length with h1|h1
 ·rw[G0 h1]at hk ⊢;exact .inl hk
 ·rw[G6 h1]at hk ⊢
  match p-h.length,hk with
  |0,hk=>simp at hk;subst hk;exact .inr (wo _ _ _)
  |i+1,hk=>exact .inl hk
theorem cd(h j jj:Heap)(s s0:Bs)(b b0:Bool){h2:Heap}{x:AVal}(hh:h2=rdH h j s b++jj)(hx:∀n,Clo n x):Fin (rdH h j s0 b0) h2 (fun r h'=>r=x∧h'=rdH h j s b) x:=
 Fin.keepE (h1:=rdH h j s b) hh (by simp only[cE]) (fun p k hk=>nM _ _ _ _ _ _ _ p k hk) (hx _) ⟨rfl,rfl⟩
@[go_sem] theorem zY(s:Bs)(b:Bool)(l:Heap):getRow (rdrR s b::l) 0 0=some (95,2,[.agg [.str s,.bool b]]):=rfl
@[go_sem] theorem yt(h j:Heap)(s:Bs)(b:Bool):getRow (rdH h j s b) h.length 0=some (95,2,[.agg [.str s,.bool b]]):=by simp[rdH,getRow,rdrR]
@[go_sem] theorem xp(h j jj:Heap)(s:Bs)(b:Bool):getRow (rdH h j s b++jj) h.length 0=some (95,2,[.agg [.str s,.bool b]]):=by simp[rdH,getRow,rdrR]
@[go_sem] theorem CL(h j:Heap)(s s':Bs)(b b':Bool):List.set (rdH h j s b) h.length (.row 95 2 0 [.agg [.str s',.bool b']])=rdH h j s' b':=by simp[rdH,rdrR]
@[go_sem] theorem Bk(h j jj:Heap)(s s':Bs)(b b':Bool):List.set (rdH h j s b++jj) h.length (.row 95 2 0 [.agg [.str s',.bool b']])=rdH h j s' b'++jj:=by simp[rdH,rdrR]
theorem bz(w s:Bs)(b:Bool)(h j:Heap):Sat (CT G) 104 [.hp h.length 0 0 0,.str w] (rdH h j s b)
  (fun r h'=>r=.bool (Lib.hasPrefix s w)∧h'=rdH h j (Lib.trimPrefix s w) b):=by
 have end_:=cd h j [] (Lib.trimPrefix s w) s b b (x:=.bool (Lib.hasPrefix s w)) (H8 _).symm (fun _=>.bool _);refine sb [.tmp 4] Tryz.func104 ?_;intro Q hQ;refine ah trivial ?_;refine aE trivial (cr G s w _) ?_;refine au hQ trivial ?_;exact end_
theorem iq(w s:Bs)(b:Bool)(h j:Heap):Sat (CT G) 145 [.hp h.length 0 0 0,.str w] (rdH h j s b)
  (fun r h'=>r=.tup []∧h'=rdH h j (Lib.trimPrefix s w) (b|| !Lib.hasPrefix s w)):=by
 have end_:=fun b1=>cd h j [] (Lib.trimPrefix s w) s b1 b (x:=.tup []) (H8 _).symm (fun _=>.tup _ (by simp))
 refine sb [] Tryz.func145 ?_;intro Q hQ;refine ah trivial ?_;refine aE trivial (bz G w s b h j) ?_;refine aC trivial (fun hc=>?_) (fun hc=>?_)<;>(try exact hc.elim)<;>(refine ah trivial ?_)
 ·refine au hQ trivial ?_;simp only[hc,O9,Bool.or_true];exact end_ _
 ·refine au hQ trivial ?_;simp only[hc,N4,R1];exact end_ _
def uptoF(w s:Bs)(b:Bool):Bs×Bs×Bool:=if (Lib.cut s w).2.2=true then((Lib.cut s w).1,(Lib.cut s w).2.1,b)else([],s,true)
theorem cX(hG:GOk G)(w s:Bs)(b:Bool)(hs:s.length≤1073741824)(h j:Heap):Sat (CT G) 105 [.hp h.length 0 0 0,.str w] (rdH h j s b)
  (fun r h'=>r=.str (uptoF w s b).1∧h'=rdH h j (uptoF w s b).2.1 (uptoF w s b).2.2):=by
 refine sb [.tmp 4] Tryz.func105 ?_;intro Q hQ;refine ah trivial ?_;refine aE trivial (gP G hG s w hs _) ?_;refine aC trivial (fun hc=>?_) (fun hc=>?_)<;>(try exact hc.elim)<;>(refine ah trivial ?_)
 ·have e:uptoF w s b=([],s,true):=by unfold uptoF;rw[E4 (by simp[hc])]
  refine au hQ trivial ?_;rw[e];exact cd h j [] s s true b (x:=.str []) (H8 _).symm (fun _=>.str _)
 ·have e:uptoF w s b=((Lib.cut s w).1,(Lib.cut s w).2.1,b):=by unfold uptoF;rw[E8 (by simpa using hc)]
  refine au hQ trivial ?_;rw[e];exact cd h j [] (Lib.cut s w).2.1 s b b (x:=.str (Lib.cut s w).1) (H8 _).symm (fun _=>.str _)
structure ByByte (P:Int→Bool) (q:UInt8→Bool) (hi:Bool):Prop where
 low:∀b:UInt8,b.toNat<128→P b.toNat=q b
 high:∀c:Int,128≤c→Rune c→P c=hi
 bytes:∀b:UInt8,128≤b.toNat→q b=hi
theorem iX(q:UInt8→Bool):∀(s:Bs) (k:Nat),(∀i,i<k→∀c,s[i]? =some c→q c=true)→k≤s.length→(k=s.length∨∃c,s[k]? =some c∧q c=false)→
  s.takeWhile q=s.take k∧s.dropWhile q=s.drop k:=by
 intro s;induction s with
 |nil=>intro k _ hk _;simp at hk;subst hk;simp
 |cons a t ih=>
  intro k h hk he;cases k with
  |zero=>
   rcases he with he| ⟨c,hc,hq⟩
   ·simp at he
   ·simp at hc;subst hc;simp[hq]
  |succ k=>
   have ha:q a=true:=h 0 (by omega) a rfl;have:=ih k (fun i hi c hc=>h (i+1) (by omega) c (by simpa using hc)) (by simpa using hk) (by
    rcases he with he| ⟨c,hc,hq⟩
    ·exact .inl (by simpa using he)
    ·exact .inr ⟨c,by simpa using hc,hq⟩)
   simp[List.takeWhile,List.dropWhile,ha,this]
theorem js(P:Int→Bool)(q:UInt8→Bool)(hi:Bool)(hP:ByByte P q hi)(g:FuncId)(s:Bs)(b:Bool)(hs:s.length≤1073741824)(h j:Heap)
  (hg:∀(c:Int) (k:Heap),Rune c→Sat (CT G) g [.int .i32 c] k (fun r h'=>r=.bool (P c)∧h'=k)):
  Sat (CT G) 111 [.hp h.length 0 0 0,.fn (.func g) [] []] (rdH h j s b)
   (fun r h'=>r=.str (s.takeWhile q)∧h'=rdH h j (s.dropWhile q) b):=by
 refine sb [.tmp 4] Tryz.func111 ?_;intro Q hQ;(repeat (first|refine w1 (fun K hK=>?_)|refine w2 ?_|refine w3 ?_| ((first|refine w4 ?_|refine wD ?_|refine w5 ?_|refine w6 ?_|refine w7 ?_);try refine ai trivial ?_)| (refine w8 ?_;refine ai trivial ?_;refine w9 ?_)| ((first|refine hK _ _ (w0 ?_)| (clear hK K;refine hK _ _ (w0 ?_))| (clear hK K;clear hK K;refine hK _ _ (w0 ?_)));clear hK K)))
 have tail:∀(t':Env) (k pos:Nat),t' 0=.hp h.length 0 0 0→t' 5=.int .i64 k→k≤s.length→s.takeWhile q=s.take k→s.dropWhile q=s.drop k→K t' (rdH h j s b++[.iter s pos]):=by
  intro t' k pos e0 e5 hk h1 h2;refine hK _ _ (H3 ?_);clear hK K;have F:=F2 e0 e5;(repeat (first|refine w1 (fun K hK=>?_)|refine w2 ?_|refine w3 ?_| ((first|refine w4 ?_|refine wD ?_|refine w5 ?_|refine w6 ?_|refine w7 ?_);try refine ai F ?_)| (refine w8 ?_;refine ai F ?_;refine w9 ?_)| ((first|refine hK _ _ (w0 ?_)| (clear hK K;refine hK _ _ (w0 ?_))| (clear hK K;clear hK K;refine hK _ _ (w0 ?_)));clear hK K)))
  rw[h1,h2]at hQ;refine au hQ F ?_;exact cd h j [.iter s pos] (s.drop k) s b b (x:=.str (s.take k)) rfl (fun _=>.str _)
 refine lm (fun nL tL hL=>∃(k:Nat),s.length-k=nL∧rdH h j s b++[.iter s k]=hL∧tL 5=.int .i64 s.length∧k≤s.length∧∀i,i<k→∀c,s[i]? =some c→q c=true) ((fun(k:Nat)=>(s.length-k:Nat)) (0)) ?_ ?_
 ·refine H3 ⟨0,rfl,aB,?_,by omega,fun i hi=>by omega⟩;all_goals first|exact az trivial|rfl|omega|trivial|skip
 rintro _ s2 h' ⟨k,rfl,rfl,e5,hk,hq⟩ K2 hK2;simp only[ao,aw,Nat.reduceEqDiff, ↓reduceIte]at e5;have F:=e5;(repeat (first|refine w1 (fun K hK=>?_)|refine w2 ?_|refine w3 ?_| ((first|refine w4 ?_|refine wD ?_|refine w5 ?_|refine w6 ?_|refine w7 ?_);try refine ai F ?_)| (refine w8 ?_;refine ai F ?_;refine w9 ?_)| ((first|refine hK _ _ (w0 ?_)| (clear hK K;refine hK _ _ (w0 ?_))| (clear hK K;clear hK K;refine hK _ _ (w0 ?_)));clear hK K)))
 refine bR (cD _ _ _ _) (fun hlt=>?_) (fun hge=>?_)
 ·have hb:=E6 hlt;by_cases ha:s[k].toNat<128
  ·have hd:Utf8.decode ⟨s.toArray⟩ k=(s[k].toNat,1):=dm s k _ hb ha;have hPq:=hP.low s[k] ha;rw[hd];(try refine ai F ?_);(repeat (first|refine w1 (fun K hK=>?_)|refine w2 ?_|refine w3 ?_| ((first|refine w4 ?_|refine wD ?_|refine w5 ?_|refine w6 ?_|refine w7 ?_);try refine ai F ?_)| (refine w8 ?_;refine ai F ?_;refine w9 ?_)| ((first|refine hK _ _ (w0 ?_)| (clear hK K;refine hK _ _ (w0 ?_))| (clear hK K;clear hK K;refine hK _ _ (w0 ?_)));clear hK K)))
   refine(hg s[k].toNat _ ⟨by omega,by omega⟩).mono ?_;rintro r h' ⟨rfl,rfl⟩;(try refine ai F ?_);(repeat (first|refine w1 (fun K hK=>?_)|refine w2 ?_|refine w3 ?_| ((first|refine w4 ?_|refine wD ?_|refine w5 ?_|refine w6 ?_|refine w7 ?_);try refine ai F ?_)| (refine w8 ?_;refine ai F ?_;refine w9 ?_)| ((first|refine hK _ _ (w0 ?_)| (clear hK K;refine hK _ _ (w0 ?_))| (clear hK K;clear hK K;refine hK _ _ (w0 ?_)));clear hK K)))
   refine aC F (fun hc=>?_) (fun hc=>?_)<;>(try exact hc.elim)<;>((repeat (first|refine w1 (fun K hK=>?_)|refine w2 ?_|refine w3 ?_| ((first|refine w4 ?_|refine wD ?_|refine w5 ?_|refine w6 ?_|refine w7 ?_);try refine ai F ?_)| (refine w8 ?_;refine ai F ?_;refine w9 ?_)| ((first|refine hK _ _ (w0 ?_)| (clear hK K;refine hK _ _ (w0 ?_))| (clear hK K;clear hK K;refine hK _ _ (w0 ?_)));clear hK K))))
   ·have hqf:q s[k]=false:=(by rw[← hPq];exact hc);obtain⟨h1,h2⟩:=iX q s k hq hk (.inr ⟨_,hb,hqf⟩);refine tail _ k _ ?_ ?_ hk h1 h2
    ·exact az F
    ·exact az F
   ·have hqt:q s[k]=true:=(by rw[← hPq];exact hc);have hq1:∀i,i<k+1→∀c,s[i]? =some c→q c=true:=fun i hi c hc2=>by
     rcases O5 i k with h1|h1
     ·exact hq i h1 c hc2
     ·obtain rfl:i=k:=by omega
      rw[hb]at hc2;cases hc2;exact hqt
    refine hK2 _ _ _ (H3 ⟨k+1,rfl,aB,?_,by omega,hq1⟩) (by omega);all_goals first|exact az F|rfl|omega|trivial|skip
  ·obtain⟨hd1,hd2,hd3⟩:=fw s k _ hb (by omega);obtain⟨hd4,hd5⟩:=aW s k hlt;have hR:Rune (dec s k).1:=⟨by omega,by omega⟩
   have hPq:=hP.high (dec s k).1 (by omega) hR;unfold dec at*;(try refine ai F ?_);(repeat (first|refine w1 (fun K hK=>?_)|refine w2 ?_|refine w3 ?_| ((first|refine w4 ?_|refine wD ?_|refine w5 ?_|refine w6 ?_|refine w7 ?_);try refine ai F ?_)| (refine w8 ?_;refine ai F ?_;refine w9 ?_)| ((first|refine hK _ _ (w0 ?_)| (clear hK K;refine hK _ _ (w0 ?_))| (clear hK K;clear hK K;refine hK _ _ (w0 ?_)));clear hK K)))
   refine(hg (Utf8.decode ⟨s.toArray⟩ k).1 _ hR).mono ?_;rintro r h' ⟨rfl,rfl⟩;(try refine ai F ?_);(repeat (first|refine w1 (fun K hK=>?_)|refine w2 ?_|refine w3 ?_| ((first|refine w4 ?_|refine wD ?_|refine w5 ?_|refine w6 ?_|refine w7 ?_);try refine ai F ?_)| (refine w8 ?_;refine ai F ?_;refine w9 ?_)| ((first|refine hK _ _ (w0 ?_)| (clear hK K;refine hK _ _ (w0 ?_))| (clear hK K;clear hK K;refine hK _ _ (w0 ?_)));clear hK K)))
   refine aC F (fun hc=>?_) (fun hc=>?_)<;>(try exact hc.elim)<;>((repeat (first|refine w1 (fun K hK=>?_)|refine w2 ?_|refine w3 ?_| ((first|refine w4 ?_|refine wD ?_|refine w5 ?_|refine w6 ?_|refine w7 ?_);try refine ai F ?_)| (refine w8 ?_;refine ai F ?_;refine w9 ?_)| ((first|refine hK _ _ (w0 ?_)| (clear hK K;refine hK _ _ (w0 ?_))| (clear hK K;clear hK K;refine hK _ _ (w0 ?_)));clear hK K))))
   ·have hqf:q s[k]=false:=(by rw[hP.bytes _ (by omega), ← hPq];exact hc);obtain⟨h1,h2⟩:=iX q s k hq hk (.inr ⟨_,hb,hqf⟩);refine tail _ k _ ?_ ?_ hk h1 h2
    ·exact az F
    ·exact az F
   ·have hit:hi=true:=(by rw[← hPq];exact hc);have hq1:∀i,i<k+(Utf8.decode ⟨s.toArray⟩ k).2→∀c,s[i]? =some c→q c=true:=fun i hi2 c hc2=>by
     rcases O5 i k with h1|h1
     ·exact hq i h1 c hc2
     ·rw[hP.bytes c (hd3 (i-k) (by omega) c (by rw[show k+(i-k)=i by omega];exact hc2)),hit]
    refine hK2 _ _ _ (H3 ⟨k+(Utf8.decode ⟨s.toArray⟩ k).2,rfl,aB,?_,by omega,hq1⟩) (by omega);all_goals first|exact az F|rfl|omega|trivial|skip
 ·obtain⟨h1,h2⟩:=iX q s s.length (fun i hi=>hq i (by omega)) (G3 _) (.inl rfl);try refine ai F ?_
  (repeat (first|refine w1 (fun K hK=>?_)|refine w2 ?_|refine w3 ?_| ((first|refine w4 ?_|refine wD ?_|refine w5 ?_|refine w6 ?_|refine w7 ?_);try refine ai F ?_)| (refine w8 ?_;refine ai F ?_;refine w9 ?_)| ((first|refine hK _ _ (w0 ?_)| (clear hK K;refine hK _ _ (w0 ?_))| (clear hK K;clear hK K;refine hK _ _ (w0 ?_)));clear hK K)))
  refine tail _ s.length _ ?_ ?_ (G3 _) h1 h2
  ·exact az F
  ·exact az F
def beginF(c:Int):Bool:=decide (65≤c∧c≤90∨97≤c∧c≤122∨c=95)
def moreF(c:Int):Bool:=decide (65≤c∧c≤90∨97≤c∧c≤122∨c=95∨48≤c∧c≤57∨c=58∨c=45∨c=46)
theorem fy(c:Int)(h:Heap):Sat (CT G) 167 [.int .i32 c] h (fun r h'=>r=.bool (beginF c)∧h'=h):=by
 refine sb [.tmp 2] Tryz.func167 ?_;intro Q hQ;refine ah trivial ?_;(first|refine bl trivial (fun g1=>?_) (fun g1=>?_)|refine pqo trivial (fun g1=>?_) (fun g1=>?_))<;>(try exact g1.elim)<;>(try refine ai trivial ?_)<;>(refine ah trivial ?_)
 all_goals try ((first|refine bl trivial (fun g2=>?_) (fun g2=>?_)|refine pqo trivial (fun g2=>?_) (fun g2=>?_))<;>(try exact g2.elim)<;>(try refine ai trivial ?_)<;>(refine ah trivial ?_))
 all_goals try ((first|refine bl trivial (fun g3=>?_) (fun g3=>?_)|refine pqo trivial (fun g3=>?_) (fun g3=>?_))<;>(try exact g3.elim)<;>(try refine ai trivial ?_)<;>(refine ah trivial ?_))
 all_goals try ((first|refine bl trivial (fun g4=>?_) (fun g4=>?_)|refine pqo trivial (fun g4=>?_) (fun g4=>?_))<;>(try exact g4.elim)<;>(try refine ai trivial ?_)<;>(refine ah trivial ?_))
 all_goals try ((first|refine bl trivial (fun g5=>?_) (fun g5=>?_)|refine pqo trivial (fun g5=>?_) (fun g5=>?_))<;>(try exact g5.elim)<;>(try refine ai trivial ?_)<;>(refine ah trivial ?_))
 all_goals try (exfalso;omega)
 all_goals
  refine au hQ trivial ?_;refine fR (.bool _) ?_;unfold beginF;congr 1
  rw[O3];simp only[F1,beq_iff_eq,true_iff,G9,false_iff];omega
theorem lF(c:Int)(h:Heap):Sat (CT G) 166 [.int .i32 c] h (fun r h'=>r=.bool (moreF c)∧h'=h):=by
 refine sb [.tmp 2] Tryz.func166 ?_;intro Q hQ;refine ah trivial ?_;refine aE trivial (fy G c _) ?_;(first|refine bl trivial (fun g1=>?_) (fun g1=>?_)|refine pqo trivial (fun g1=>?_) (fun g1=>?_))<;>(try exact g1.elim)<;>(try refine ai trivial ?_)<;>(refine ah trivial ?_)
 all_goals try ((first|refine bl trivial (fun g2=>?_) (fun g2=>?_)|refine pqo trivial (fun g2=>?_) (fun g2=>?_))<;>(try exact g2.elim)<;>(try refine ai trivial ?_)<;>(refine ah trivial ?_))
 all_goals try ((first|refine bl trivial (fun g3=>?_) (fun g3=>?_)|refine pqo trivial (fun g3=>?_) (fun g3=>?_))<;>(try exact g3.elim)<;>(try refine ai trivial ?_)<;>(refine ah trivial ?_))
 all_goals try ((first|refine bl trivial (fun g4=>?_) (fun g4=>?_)|refine pqo trivial (fun g4=>?_) (fun g4=>?_))<;>(try exact g4.elim)<;>(try refine ai trivial ?_)<;>(refine ah trivial ?_))
 all_goals try ((first|refine bl trivial (fun g5=>?_) (fun g5=>?_)|refine pqo trivial (fun g5=>?_) (fun g5=>?_))<;>(try exact g5.elim)<;>(try refine ai trivial ?_)<;>(refine ah trivial ?_))
 all_goals try ((first|refine bl trivial (fun g6=>?_) (fun g6=>?_)|refine pqo trivial (fun g6=>?_) (fun g6=>?_))<;>(try exact g6.elim)<;>(try refine ai trivial ?_)<;>(refine ah trivial ?_))
 all_goals try ((first|refine bl trivial (fun g7=>?_) (fun g7=>?_)|refine pqo trivial (fun g7=>?_) (fun g7=>?_))<;>(try exact g7.elim)<;>(try refine ai trivial ?_)<;>(refine ah trivial ?_))
 all_goals try simp only[beginF,F1,decide_eq_false_iff_not]at g1
 all_goals try (exfalso;omega)
 all_goals
  refine au hQ trivial ?_;refine fR (.bool _) ?_;unfold moreF;try unfold beginF
  congr 1
  rw[O3];simp only[F1,beq_iff_eq,true_iff,G9,false_iff];omega
end Go.Av

namespace Go.Av
open Go Go.Proofs Go.RowKit
attribute [local irreducible] WP WPl WPix Sat
variable (G:Nat→Option (List AVal))
theorem dA(r:Int)(hr:Rune r)(h:Heap):Sat (CT G) 217 [.int .i32 r] h (fun x h'=>x=.bool true∧h'=h):=by
 obtain⟨h0,h1⟩:=hr;refine sb [.tmp 2] Tryz.func217 ?_;intro Q hQ;refine ah trivial ?_;(first|refine bl trivial (fun g1=>?_) (fun g1=>?_)|refine pqo trivial (fun g1=>?_) (fun g1=>?_))<;>(try exact g1.elim)<;>(try refine ai trivial ?_)<;>(refine ah trivial ?_)
 ·refine aC trivial (fun c1=>?_) (fun c1=>?_)<;>(try exact c1.elim)<;>(refine ah trivial ?_)
  ·refine au hQ trivial ?_;refine fR (.bool _) ?_;rfl
  ·(first|refine bl trivial (fun g2=>?_) (fun g2=>?_)|refine pqo trivial (fun g2=>?_) (fun g2=>?_))<;>(try exact g2.elim)<;>(try refine ai trivial ?_)<;>(refine ah trivial ?_)
   ·refine aC trivial (fun c2=>?_) (fun c2=>?_)<;>(try exact c2.elim)<;>(refine ah trivial ?_)
    ·refine au hQ trivial ?_;refine fR (.bool _) ?_;rfl
    ·exfalso;omega
   ·exfalso;omega
 ·exfalso;omega
theorem qG(r:Int)(hr:Rune r)(h1:128≤r):∃b:UInt8,128≤b.toNat∧((∃a,enc r=[a,b])∨(∃a c,enc r=[a,c,b])∨(∃a c d,enc r=[a,c,d,b])):=by
 have hf:fix r=r.toNat:=by unfold fix;rw[E8 hr.valid]
 rw[dN,hf];simp only[];have hlt:∀n,(128≤n∧n<256)→128≤(UInt8.ofNat n).toNat:=fun n h=>by rw[ar n h.2];exact h.1
 rw[E4 (by omega)];by_cases h2:r.toNat<2048
 ·rw[E8 h2];exact⟨_,hlt (128+r.toNat%64) (by omega),.inl ⟨_,rfl⟩⟩
 ·rw[E4 h2];by_cases h3:r.toNat<65536
  ·rw[E8 h3];exact⟨_,hlt (128+r.toNat%64) (by omega),.inr (.inl ⟨_,_,rfl⟩)⟩
  ·rw[E4 h3];exact⟨_,hlt (128+r.toNat%64) (by omega),.inr (.inr ⟨_,_,_,rfl⟩)⟩
theorem ch(b:UInt8)(hb:128≤b.toNat):∀l:Bs,(∀c∈l,c.toNat<128)→Lib.indexByte l b= -1
 | [],_=>rfl
 |c::l,h=>by
  have h1:=h c (by simp);have hne:¬c=b:=fun e=>by subst e;omega
  have ih:=ch b hb l fun x hx=>h x (by simp[hx])
  rw[Lib.indexByte,E4 (by simpa using hne),ih];rfl
def blk4:Bs:=[32,9,13,10]
theorem jt(r:Int)(hr:Rune r)(h1:128≤r)(h:Heap):Sat (CT G) 191 [.str blk4,.int .i32 r] h (fun x h'=>x=.int .i64 (-1)∧h'=h):=by
 refine sb [.tmp 4] Tryz.func191 ?_;intro Q hQ;refine ah trivial ?_;have hr':=hr;obtain⟨h2,h3⟩:=hr;(first|refine bl trivial (fun g1=>?_) (fun g1=>?_)|refine pqo trivial (fun g1=>?_) (fun g1=>?_))<;>(try exact g1.elim)<;>(try refine ai trivial ?_)<;>(refine ah trivial ?_)
 ·refine aC trivial (fun c1=>?_) (fun c1=>?_)<;>(try exact c1.elim)<;>(refine ah trivial ?_)
  ·exfalso;omega
  ·refine aC trivial (fun c2=>?_) (fun c2=>?_)<;>(try exact c2.elim)<;>(refine ah trivial ?_)
   ·refine lm (fun nL tL hL=>∃(k:Nat),4-k=nL∧h++[.iter blk4 k]=hL∧k≤4) ((fun(k:Nat)=>(4-k:Nat)) (0)) ?_ ?_
    ·refine H3 ⟨0,rfl,aB,by omega⟩;all_goals first|exact az trivial|rfl|omega|trivial|skip
    rintro _ s2 h' ⟨k,rfl,rfl,hk⟩ K2 hK2;refine ah trivial ?_;refine bR (cD _ _ _ _) (fun hlt=>?_) (fun hge=>?_)
    ·have hd:Utf8.decode ⟨blk4.toArray⟩ k=(blk4[k].toNat,1):=dm blk4 k _ (E6 hlt) (by
      have:∀b∈blk4,b.toNat<128:=by decide
      exact this _ (List.getElem_mem hlt))
     have hb:blk4[k].toNat<128:=by
      have:∀b∈blk4,b.toNat<128:=by decide
      exact this _ (List.getElem_mem hlt)
     have hl4:blk4.length=4:=rfl;rw[hd];(try refine ai trivial ?_);refine ah trivial ?_;refine aC trivial (fun c3=>?_) (fun c3=>?_)<;>(try exact c3.elim)<;>(refine ah trivial ?_)
     ·exfalso;omega
     ·refine hK2 _ _ _ (H3 ⟨k+1,rfl,aB,by omega⟩) (by omega);all_goals first|exact az trivial|rfl|omega|trivial|skip
    ·(try refine ai trivial ?_);refine ah trivial ?_;refine au hQ trivial ?_;refine fR (.int _ _) ?_;rfl
   ·obtain⟨b,hb,he⟩:=qG r hr' h1;rcases he with⟨a,he⟩| ⟨a,c,he⟩| ⟨a,c,d,he⟩
    ·have F:=F5 @dJ he @N4 @Int.cast_ofNat_Int @Int.toNat_one;refine aE F (dA G r hr' _) ?_;refine lm (fun nL tL hL=>0=nL∧h=hL∧tL 9=.int .i64 1) (0) ?_ ?_
     ·refine H3 ⟨rfl,aB,?_⟩;all_goals first|exact az F|rfl|omega|trivial|skip
     rintro _ s3 h' ⟨rfl,rfl,e9⟩ K3 hK3;simp only[ao,aw,Nat.reduceEqDiff, ↓reduceIte]at e9;have F:=F2 F e9;have hl4:blk4.length=4:=rfl;have hb1:blk4[1]? =some 9:=rfl;have hab:([a,b]:Bs)[1]? =some b:=rfl;have hib:Lib.indexByte (blk4.drop 2) b= -1:=ch b hb _ (by decide);have h9:(9:UInt8).toNat=9:=rfl;have F:=F4 F hb1 hab hib;refine ah F ?_;refine aC F (fun c4=>?_) (fun c4=>?_)<;>(try exact c4.elim)<;>(refine ah F ?_)
     ·refine aC F (fun c5=>?_) (fun c5=>?_)<;>(try exact c5.elim)<;>(refine ah F ?_)
      ·refine af (aT G (blk4.drop 2) b _) ?_;(try refine ai F ?_);refine ah F ?_;refine aC F (fun c6=>?_) (fun c6=>?_)<;>(try exact c6.elim)<;>(refine ah F ?_)
       ·refine au hQ F ?_;refine fR (.int _ _) ?_;rfl
       ·exact absurd c6 (by decide)
      ·exfalso;omega
     ·exfalso;omega
    ·have F:=F5 @dJ he @N4 @Int.cast_ofNat_Int @Int.toNat_one;refine aE F (dA G r hr' _) ?_;refine lm (fun nL tL hL=>0=nL∧h=hL∧tL 9=.int .i64 2) (0) ?_ ?_
     ·refine H3 ⟨rfl,aB,?_⟩;all_goals first|exact az F|rfl|omega|trivial|skip
     rintro _ s3 h' ⟨rfl,rfl,e9⟩ K3 hK3;simp only[ao,aw,Nat.reduceEqDiff, ↓reduceIte]at e9;have F:=F2 F e9;have hl4:blk4.length=4:=rfl;have hb1:blk4[2]? =some 13:=rfl;have hab:([a,c,b]:Bs)[2]? =some b:=rfl;have hib:Lib.indexByte (blk4.drop 3) b= -1:=ch b hb _ (by decide);have h9:(13:UInt8).toNat=13:=rfl;have F:=F4 F hb1 hab hib;refine ah F ?_;refine aC F (fun c4=>?_) (fun c4=>?_)<;>(try exact c4.elim)<;>(refine ah F ?_)
     ·refine aC F (fun c5=>?_) (fun c5=>?_)<;>(try exact c5.elim)<;>(refine ah F ?_)
      ·refine af (aT G (blk4.drop 3) b _) ?_;(try refine ai F ?_);refine ah F ?_;refine aC F (fun c6=>?_) (fun c6=>?_)<;>(try exact c6.elim)<;>(refine ah F ?_)
       ·refine au hQ F ?_;refine fR (.int _ _) ?_;rfl
       ·exact absurd c6 (by decide)
      ·exfalso;omega
     ·exfalso;omega
    ·have F:=F5 @dJ he @N4 @Int.cast_ofNat_Int @Int.toNat_one;refine aE F (dA G r hr' _) ?_;refine lm (fun nL tL hL=>0=nL∧h=hL∧tL 9=.int .i64 3) (0) ?_ ?_
     ·refine H3 ⟨rfl,aB,?_⟩;all_goals first|exact az F|rfl|omega|trivial|skip
     rintro _ s3 h' ⟨rfl,rfl,e9⟩ K3 hK3;simp only[ao,aw,Nat.reduceEqDiff, ↓reduceIte]at e9;have F:=F2 F e9;have hl4:blk4.length=4:=rfl;have hb1:blk4[3]? =some 10:=rfl;have hab:([a,c,d,b]:Bs)[3]? =some b:=rfl;have hib:Lib.indexByte (blk4.drop 4) b= -1:=ch b hb _ (by decide);have h9:(10:UInt8).toNat=10:=rfl;have F:=F4 F hb1 hab hib;refine ah F ?_;refine aC F (fun c4=>?_) (fun c4=>?_)<;>(try exact c4.elim)<;>(refine ah F ?_)
     ·refine aC F (fun c5=>?_) (fun c5=>?_)<;>(try exact c5.elim)<;>(refine ah F ?_)
      ·refine af (aT G (blk4.drop 4) b _) ?_;(try refine ai F ?_);refine ah F ?_;refine aC F (fun c6=>?_) (fun c6=>?_)<;>(try exact c6.elim)<;>(refine ah F ?_)
       ·refine au hQ F ?_;refine fR (.int _ _) ?_;rfl
       ·exact absurd c6 (by decide)
      ·exfalso;omega
     ·exfalso;omega
 ·exfalso;omega
theorem hY(r:Int)(hr:Rune r)(h1:128≤r)(h:Heap):Sat (CT G) 169 [.str blk4,.int .i32 r] h (fun x h'=>x=.bool false∧h'=h):=by
 refine sb [.tmp 4] Tryz.func169 ?_;intro Q hQ;refine ah trivial ?_;refine aE trivial (jt G r hr h1 _) ?_;refine au hQ trivial ?_;refine fR (.bool _) ?_;rfl
end Go.Av
namespace Go.Av
open Go Go.Proofs Go.RowKit
attribute [local irreducible] WP WPl WPix Sat
variable (G:Nat→Option (List AVal))
def blankP(c:Int):Bool:=decide (c=32∨c=9∨c=13∨c=10)
def blankB(b:UInt8):Bool:=blankP b.toNat
def moreB(b:UInt8):Bool:=moreF b.toNat
theorem lG:∀x:_root_.Fin 128,decide (0≤Lib.indexByte blk4 x.val.toUInt8)=blankP x.val:=by decide+kernel
theorem pg(c:Int)(hc:Rune c)(h:Heap):Sat (CT G) 168 [.int .i32 c] h (fun r h'=>r=.bool (blankP c)∧h'=h):=by
 have hR:=hc;obtain⟨h0,h1⟩:=hc;by_cases hlt:c<128
 ·have e:decide (0≤Lib.indexByte blk4 c.toNat.toUInt8)=blankP c:=by
   have:=lG ⟨c.toNat,by omega⟩;rw[show(c.toNat:Int)=c by omega]at this;exact this
  have hs:=dh G blk4 c h0 hlt h;rw[e]at hs;refine sb [.tmp 2] Tryz.func168 ?_;intro Q hQ;refine ah trivial ?_;refine aE trivial (hs) ?_;refine au hQ trivial ?_;refine fR (.bool _) ?_;rfl
 ·have hs:=hY G c hR (by omega) h;have e:blankP c=false:=by unfold blankP;simp;omega
  refine sb [.tmp 2] Tryz.func168 ?_;intro Q hQ;refine ah trivial ?_;refine aE trivial (hs) ?_;refine au hQ trivial ?_;refine fR (.bool _) ?_;rw[e]
theorem sR:ByByte blankP blankB false:=⟨fun _ _=>rfl,fun c hc _=>by unfold blankP;simp;omega,fun b hb=>by unfold blankB blankP;simp;omega⟩
theorem uL:ByByte moreF moreB false:=⟨fun _ _=>rfl,fun c hc _=>by unfold moreF;simp;omega,fun b hb=>by unfold moreB moreF;simp;omega⟩
theorem eB(s:Bs)(b:Bool)(hs:s.length≤1073741824)(h j:Heap):Sat (CT G) 144 [.hp h.length 0 0 0] (rdH h j s b)
  (fun r h'=>r=.bool (!(s.takeWhile blankB==[]))∧h'=rdH h j (s.dropWhile blankB) b):=by
 have end_:=cd h j [] (s.dropWhile blankB) s b b (x:=.bool (!(s.takeWhile blankB==[]))) (H8 _).symm (fun _=>.bool _);refine sb [.tmp 2] Tryz.func144 ?_;intro Q hQ;refine ah trivial ?_;refine aE trivial (js G blankP blankB false sR 168 s b hs h j (fun c k hc=>pg G c hc k)) ?_;refine au hQ trivial ?_;exact end_
theorem sS(k:IntKind)(b:UInt8):aconv Tryz.prog 5 21 (.int k b.toNat)=some (.int .i32 b.toNat):=by
 have hw:IntKind.wrap .i32 (b.toNat:Int)=b.toNat:=by have:=b.toNat_lt;rw[IntKind.wrap_i32];omega
 simp only[aconv,go_sem,hw]
def badN(n:Bs):Bool:=match n with
 | []=>true
 |c::_=> !(beginF c.toNat)||decide (64<n.length)
def nameW(s:Bs):Bs:=s.takeWhile moreB
def nameR(s:Bs):Bs:=s.dropWhile moreB
theorem fA(s:Bs)(b:Bool)(hs:s.length≤1073741824)(h j:Heap):Sat (CT G) 143 [.hp h.length 0 0 0] (rdH h j s b)
  (fun r h'=>r=.str (nameW s)∧h'=rdH h j (nameR s) (b||badN (nameW s))):=by
 have hl:(nameW s).length≤s.length:=(List.takeWhile_sublist _).length_le;have end_:=fun b1=>cd h j [] (nameR s) s b1 b (x:=.str (nameW s)) (H8 _).symm (fun _=>.str _)
 have hr:=js G moreF moreB false uL 166 s b hs h j (fun c k _=>lF G c k)
 change Sat _ _ _ _ (fun r h'=>r=.str (nameW s)∧h'=rdH h j (nameR s) b)at hr
 cases hn:nameW s with
 |nil=>
  rw[hn]at hr end_;have hnn:(([]:Bs)==[])=true:=rfl;have F:=hnn;refine sb [.tmp 2] Tryz.func143 ?_;intro Q hQ;refine ah F ?_;refine aE F (hr) ?_;refine au hQ F ?_;simp only[badN,Bool.or_true];exact end_ _
 |cons c t=>
  rw[hn]at hr end_ hl;have hg:(c::t)[0]? =some c:=rfl;have hw:IntKind.wrap .i32 c.toNat=c.toNat:=by have:=c.toNat_lt;rw[IntKind.wrap_i32];omega
  have hnn:((c::t)==([]:Bs))=false:=rfl;have hbd:badN (c::t)=(!(beginF c.toNat)||decide (64<(c::t).length)):=rfl;have F:=F3 hg @sS hnn;refine sb [.tmp 2] Tryz.func143 ?_;intro Q hQ;refine ah F ?_;refine aE F (hr) ?_;refine aE F (fy G c.toNat _) ?_;(first|refine bl F (fun hb=>?_) (fun hb=>?_)|refine pqo F (fun hb=>?_) (fun hb=>?_))<;>(try exact hb.elim)<;>(try refine ai F ?_)<;>(refine ah F ?_)
  ·refine au hQ F ?_;have e:badN (c::t)=true:=(by rw[hbd];simp[hb]);rw[e,Bool.or_true]at*;exact end_ _
  ·refine aC F (fun hc=>?_) (fun hc=>?_)<;>(try exact hc.elim)<;>(refine ah F ?_)
   ·refine au hQ F ?_;have e:badN (c::t)=true:=by
     rw[hbd];have:64<(c::t).length:=by simp only[E2];omega
     rw[G4 this,Bool.or_true]
    rw[e,Bool.or_true]at*;exact end_ _
   ·refine au hQ F ?_;have e:badN (c::t)=false:=by
     rw[hbd];have:¬64<(c::t).length:=by simp only[E2];omega
     rw[hb,H2 this];rfl
    rw[e,R1]at*;exact end_ _
def valueF(s:Bs)(b:Bool):Bs×Bs×Bool:=
 let q:Bs:=if Lib.hasPrefix s [34]=true then [34]else [39]
 let s1:=Lib.trimPrefix s q
 let u:=uptoF q s1 (b|| !Lib.hasPrefix s q)
 (readP (u.1.length+1) u.1,u.2.1,u.2.2||Lib.contains u.1 [60])
theorem eC(w s:Bs)(b:Bool):(uptoF w s b).1.length≤s.length∧(uptoF w s b).2.1.length≤s.length:=by
 unfold uptoF;split
 ·rename_i h;have:=bH s w h;exact⟨by simp only[];omega,by simp only[];omega⟩
 ·exact⟨by simp,by simp⟩
theorem aH(s w:Bs):(Lib.trimPrefix s w).length≤s.length:=by
 unfold Lib.trimPrefix;split
 ·simp
 ·exact G3 _
theorem qH(hG:GOk G)(s:Bs)(b:Bool)(hs:s.length≤1048576)(h j:Heap):Sat (CT G) 170 [.hp h.length 0 0 0] (rdH h j s b)
  (fun r h'=>r=.str (valueF s b).1∧h'=rdH h j (valueF s b).2.1 (valueF s b).2.2):=by
 cases hp:Lib.hasPrefix s [34]with
 |true=>
  have hl:=aH s [34];have hu:=eC [34] (Lib.trimPrefix s [34]) b;have hv:valueF s b=(readP ((uptoF [34] (Lib.trimPrefix s [34]) b).1.length+1) (uptoF [34] (Lib.trimPrefix s [34]) b).1,(uptoF [34] (Lib.trimPrefix s [34]) b).2.1,(uptoF [34] (Lib.trimPrefix s [34]) b).2.2||Lib.contains (uptoF [34] (Lib.trimPrefix s [34]) b).1 [60]):=by
   simp[valueF,hp]
  have hus:=cX G hG [34] (Lib.trimPrefix s [34]) b (by omega) h j;rw[hv];generalize uptoF [34] (Lib.trimPrefix s [34]) b=u at hu hus ⊢;have end_:=fun b1=>cd h j [] u.2.1 s b1 b (x:=.str (readP (u.1.length+1) u.1)) (H8 _).symm (fun _=>.str _)
  have ht:=bz G [34] s b h j;rw[hp]at ht;have F:= @N4;refine sb [.tmp 2] Tryz.func170 ?_;intro Q hQ;refine ah F ?_;refine aE F (ht) ?_;refine aE F (hus) ?_;(first|refine bl F (fun g=>?_) (fun g=>?_)|refine pqo F (fun g=>?_) (fun g=>?_))<;>(try exact g.elim)<;>(try refine ai F ?_)<;>(refine ah F ?_)
  ·refine aE F (dY hG u.1 (by omega) _) ?_;refine au hQ F ?_;rw[g,L2]at*;exact end_ _
  ·refine aE F (cM G hG u.1 [60] (by omega) _) ?_;refine aE F (dY hG u.1 (by omega) _) ?_;refine au hQ F ?_;rw[g,N1]at*;exact end_ _
 |false=>
  have hl:=aH s [39];have hu:=eC [39] (Lib.trimPrefix s [39]) (b|| !Lib.hasPrefix s [39]);have hv:valueF s b=(readP ((uptoF [39] (Lib.trimPrefix s [39]) (b|| !Lib.hasPrefix s [39])).1.length+1) (uptoF [39] (Lib.trimPrefix s [39]) (b|| !Lib.hasPrefix s [39])).1,(uptoF [39] (Lib.trimPrefix s [39]) (b|| !Lib.hasPrefix s [39])).2.1,(uptoF [39] (Lib.trimPrefix s [39]) (b|| !Lib.hasPrefix s [39])).2.2||Lib.contains (uptoF [39] (Lib.trimPrefix s [39]) (b|| !Lib.hasPrefix s [39])).1 [60]):=by
   simp[valueF,hp]
  have hus:=cX G hG [39] (Lib.trimPrefix s [39]) (b|| !Lib.hasPrefix s [39]) (by omega) h j;rw[hv];generalize uptoF [39] (Lib.trimPrefix s [39]) (b|| !Lib.hasPrefix s [39])=u at hu hus ⊢;have end_:=fun b1=>cd h j [] u.2.1 s b1 b (x:=.str (readP (u.1.length+1) u.1)) (H8 _).symm (fun _=>.str _)
  have htp:Lib.trimPrefix s [34]=s:=by unfold Lib.trimPrefix;rw[E4 (by simp[hp])]
  have ht:=bz G [34] s b h j;rw[hp,htp]at ht;have F:= @O9;refine sb [.tmp 2] Tryz.func170 ?_;intro Q hQ;refine ah F ?_;refine aE F (ht) ?_;refine aE F (iq G [39] s b h j) ?_;refine aE F (hus) ?_;(first|refine bl F (fun g=>?_) (fun g=>?_)|refine pqo F (fun g=>?_) (fun g=>?_))<;>(try exact g.elim)<;>(try refine ai F ?_)<;>(refine ah F ?_)
  ·refine aE F (dY hG u.1 (by omega) _) ?_;refine au hQ F ?_;rw[g,L2]at*;exact end_ _
  ·refine aE F (cM G hG u.1 [60] (by omega) _) ?_;refine aE F (dY hG u.1 (by omega) _) ?_;refine au hQ F ?_;rw[g,N1]at*;exact end_ _
attribute [go_sem] cE
@[go_sem] theorem mT(h j l:Heap)(s:Bs)(b:Bool)(k v:Nat):getRow (rdH h j s b++l) (h.length+(1+(j.length+k))) v=getRow l k v:=by
 rw[show h.length+(1+(j.length+k))=(rdH h j s b).length+k by rw[cE];omega];exact fp _ l k v
@[go_sem] theorem mU(h j l:Heap)(s:Bs)(b:Bool)(v:Nat):getRow (rdH h j s b++l) (h.length+(1+j.length)) v=getRow l 0 v:=mT h j l s b 0 v
@[go_sem] theorem sT(h j l:Heap)(s:Bs)(b:Bool)(k:Nat)(x:Blk):(rdH h j s b++l).set (h.length+(1+(j.length+k))) x=rdH h j s b++l.set k x:=by
 rw[show h.length+(1+(j.length+k))=(rdH h j s b).length+k by rw[cE];omega];exact jo _ l k x
@[go_sem] theorem lH(h j l:Heap)(s:Bs)(b:Bool)(x:Blk):(rdH h j s b++l).set (h.length+(1+j.length)) x=rdH h j s b++l.set 0 x:=sT h j l s b 0 x
theorem nN(h j l:Heap)(s:Bs)(b:Bool):rdH h j s b++l=rdH h (j++l) s b:=by simp[rdH]
theorem bI{f:FuncId}{args:List AVal}{h j l:Heap}{s:Bs}{b:Bool}{x:AVal}{s1:Bs}{b1:Bool}(g:∀j,Sat (CT G) f args (rdH h j s b) (fun r h'=>r=x∧h'=rdH h j s1 b1)):
  Sat (CT G) f args (rdH h j s b++l) (fun r h'=>r=x∧h'=rdH h j s1 b1++l):=by
 rw[nN];refine(g (j++l)).mono fun r h' ⟨e1,e2⟩=>⟨e1,by rw[e2,nN]⟩
def attrX(s:Bs)(b:Bool):At×Bs×Bool:=
 let n:=nameW s
 let b1:=b||badN n
 let s2:=(nameR s).dropWhile blankB
 let b3:=b1|| !Lib.hasPrefix s2 [61]
 let s4:=(Lib.trimPrefix s2 [61]).dropWhile blankB
 if b3=true then((n,[]),s4,b3)else((n,(valueF s4 b3).1),(valueF s4 b3).2.1,(valueF s4 b3).2.2)
theorem aF(p:UInt8→Bool)(s:Bs):(s.dropWhile p).length≤s.length:=(List.dropWhile_sublist p).length_le
theorem sU(hG:GOk G)(s:Bs)(b:Bool)(hs:s.length≤1048576)(h j:Heap):Sat (CT G) 146 [.hp h.length 0 0 0] (rdH h j s b)
  (fun r h'=>r=(attrX s b).1.av∧h'=rdH h j (attrX s b).2.1 (attrX s b).2.2):=by
 have h1:(nameR s).length≤s.length:=aF _ _;have h2:=aF blankB (nameR s);have h3:=aH ((nameR s).dropWhile blankB) [61];have h4:=aF blankB (Lib.trimPrefix ((nameR s).dropWhile blankB) [61]);have c1:∀l,Sat (CT G) 143 [.hp h.length 0 0 0] (rdH h j s b++l) _:=fun l=>bI G (l:=l) fun j=>fA G s b (by omega) h j
 have c2:∀l b1,Sat (CT G) 144 [.hp h.length 0 0 0] (rdH h j (nameR s) b1++l) _:=fun l b1=>bI G (l:=l) fun j=>eB G (nameR s) b1 (by omega) h j
 have c3:∀l b1,Sat (CT G) 145 [.hp h.length 0 0 0,.str [61]] (rdH h j ((nameR s).dropWhile blankB) b1++l) _:=fun l b1=>bI G (l:=l) fun j=>iq G [61] ((nameR s).dropWhile blankB) b1 h j
 have c4:∀l b1,Sat (CT G) 144 [.hp h.length 0 0 0] (rdH h j (Lib.trimPrefix ((nameR s).dropWhile blankB) [61]) b1++l) _:=fun l b1=>bI G (l:=l) fun j=>eB G _ b1 (by omega) h j
 have c5:∀l b1,Sat (CT G) 170 [.hp h.length 0 0 0] (rdH h j ((Lib.trimPrefix ((nameR s).dropWhile blankB) [61]).dropWhile blankB) b1++l) _:=fun l b1=>bI G (l:=l) fun j=>qH G hG _ b1 (by omega) h j
 refine sb [.cell 2 79] Tryz.func146 ?_;intro Q hQ;refine ah trivial ?_;refine aE trivial (c1 _) ?_;refine aE trivial (c2 _ _) ?_;refine aE trivial (c3 _ _) ?_;refine aE trivial (c4 _ _) ?_;refine aC trivial (fun hc=>?_) (fun hc=>?_)<;>(try exact hc.elim)<;>(refine ah trivial ?_)
 ·refine aE trivial (c5 _ _) ?_;refine uq hQ trivial ?_;have e:attrX s b=((nameW s,(valueF _ _).1),(valueF _ _).2.1,(valueF _ _).2.2):=E4 (by simp[hc]);rw[e];exact cd h j _ _ s _ b rfl (fun n=>.agg _ (by intro c hc;simp at hc;rcases hc with rfl|rfl<;>exact .str _))
 ·refine uq hQ trivial ?_;have e:attrX s b=((nameW s,[]),_,_):=E8 (by simpa using hc);rw[e];exact cd h j _ _ s _ b rfl (fun n=>.agg _ (by intro c hc;simp at hc;rcases hc with rfl|rfl<;>exact .str _))
theorem ph(a:At)(w:Bs)(h:Heap):Sat (CT G) 172 [a.av,.hp h.length 0 0 0] (h++[.row 9 1 0 [.str w]])
  (fun r h'=>r=.bool (a.1==w)∧h'=h++[.row 9 1 0 [.str w]]):=by
 obtain⟨n,v⟩:=a;show Sat _ _ [.agg [.str n,.str v],_] _ _;refine sb [.tmp 3] Tryz.func172 ?_;intro Q hQ;refine ah trivial ?_;refine ah trivial ?_;refine au hQ trivial ?_;exact T5 (j:=_) (I6 h [_] [_]).symm (.bool _) ⟨rfl,rfl⟩
def idxG(p:At→Bool)(l:List At):Int:=match l.findIdx? p with
 |some i=>i
 |none=> -1
theorem sV(p:At→Bool)(l:List At):decide (0≤idxG p l)=l.any p:=by
 unfold idxG;cases h:l.findIdx? p with
 |some i=>
  rw[List.findIdx?_eq_some_iff_getElem]at h;obtain⟨hi,h1,_⟩:=h;have:l.any p=true:=P8.2 ⟨l[i],List.getElem_mem hi,h1⟩;rw[this];simp
 |none=>
  rw[R2]at h;have:l.any p=false:=by rw[List.any_eq_false];intro a ha;simp[h a ha]
  rw[this];rfl
def shortAt(s:List UInt8):Nat→List UInt8
 |0=>s
 |k+1=>if s[k]? =some 58 then s.drop (k+1)else shortAt s k
def short(s:List UInt8):List UInt8:=shortAt s s.length
theorem uM{b:UInt8}{k:Nat}(hk:k<256):((b.toNat:Int)=(k:Nat))↔b=UInt8.ofNat k:=by
 constructor
 ·intro h;have:b.toNat=k:=by omega
  rw[← this];simp
 ·rintro rfl;simp[Nat.mod_eq_of_lt hk]
def attrF:List At→Bs→Bs×Bool
 | [],_=>([],false)
 |a::l,n=>if a.1=n then(a.2,true)else attrF l n
mutual
def deep:Elem→Nat→Nat
 | .mk _ _ _ k,d=>if 40≤d then 40 else deepL k d d
def deepL:List Elem→Nat→Nat→Nat
 | [],_,n=>n
 |k::l,d,n=>deepL l d (if n<deep k (d+1)then deep k (d+1)else n)
end
theorem lI{h0 h1 pre post:Heap}{e n v q:Nat}{rows:List AVal}(hh:h1=pre++ .row e n v rows::post)(hq:q=pre.length)(hp:h0.length≤q)(hc:∀r∈rows,Clo h0.length r)(hs:∀r∈rows,∀c∈r.cells,c.sto=true):
  Frz h1 h0.length (.hs q v 0 rows.length true) (.sl n rows):=by
 subst hh;subst hq;have:=Frz.hs (h:=pre++ .row e n v rows::post) (n:=h0.length) pre.length v 0 rows.length true e n rows rows hp (by simp[getRow]) (by simp) rfl
   (fun i r s hr hs'=>by rw[hr]at hs';cases hs';exact .clo _ (hc r (G1 hr)))
   (fun i r s hr hs'=>by rw[hr]at hs';cases hs';exact⟨rfl,fun j c d hj hd=>hs r (G1 hr) d (G1 hd)⟩)
   (fun i r s j c d hr hs' hj hd=>by rw[hr]at hs';cases hs';rw[hj]at hd;cases hd;exact .clo _ ((hc r (G1 hr)).cells c (G1 hj)))
 simpa using this
theorem Elem.av_sto(e:Elem):∀c∈e.av.cells,c.sto=true:=by
 rw[Elem.av_cells];intro c hc;simp only[I2,N7,or_false]at hc;rcases hc with rfl|rfl|rfl|rfl<;>rfl
theorem Tok.av_sto(e:Tok):∀c∈e.av.cells,c.sto=true:=by
 rw[Tok.av_cells];intro c hc;simp only[I2,N7,or_false]at hc;rcases hc with rfl|rfl|rfl|rfl<;>rfl
theorem qI{h0 h1 pre post:Heap}{e v q:Nat}(l:List Elem)(hh:h1=pre++ .row e 4 v (l.map Elem.av)::post)(hq:q=pre.length)(hp:h0.length≤q):Frz h1 h0.length (.hs q v 0 l.length true) (.sl 4 (l.map Elem.av)):=by
 have:=lI (h0:=h0) hh hq hp (fun r hr=>by obtain⟨a,_,rfl⟩:=I9.1 hr;exact Elem.clo _ a) (fun r hr=>by obtain⟨a,_,rfl⟩:=I9.1 hr;exact a.av_sto);simpa using this
def kidsF(e:Elem)(n:Bs):List Elem:=e.kids.filter fun k=>decide (short k.name=n)
theorem qJ(h:Heap)(n:Nat):Frz h n (.agg [.str [],.nil (.slice none 0 0),.str [],.nil (.slice none 0 0)]) (Elem.av ⟨[],[],[],[]⟩):=by
 rw[Elem.av_eq];refine .agg _ _ rfl (by simp[AVal.sto]) fun i c d hc hd=>?_
 match i with
 |0=>simp at hc hd;subst hc;subst hd;exact .clo _ (.str _)
 |1=>simp[Elem.attrs]at hc hd;subst hc;subst hd;exact .nils _
 |2=>simp at hc hd;subst hc;subst hd;exact .clo _ (.str _)
 |3=>simp[Elem.kids]at hc hd;subst hc;subst hd;exact .nils _
 |i+4=>simp at hc
def kidF(e:Elem)(n:Bs):Elem×Bool:=match kidsF e n with| []=>(⟨[],[],[],[]⟩,false)|k::_=>(k,true)
instance tokEq:DecidableEq Tok:=fun a b=>inferInstanceAs (Decidable ((a:Int×List UInt8×List (List UInt8×List UInt8)×List UInt8)=b))
theorem sW(h:Heap)(m:Nat)(k:Int)(n t:Bs):Frz h m (.agg [.int .i64 k,.str n,.nil (.slice none 0 0),.str t]) (Tok.av (k,n,[],t)):=by
 refine .agg _ _ rfl (by intro d hd;simp at hd;rcases hd with rfl|rfl|rfl|rfl<;>rfl) fun i c d hc hd=>?_
 match i with
 |0=>simp at hc hd;subst hc;subst hd;exact .clo _ (.int _ _)
 |1=>simp at hc hd;subst hc;subst hd;exact .clo _ (.str _)
 |2=>simp at hc hd;subst hc;subst hd;exact .nils _
 |3=>simp at hc hd;subst hc;subst hd;exact .clo _ (.str _)
 |i+4=>simp at hc
theorem jZ{h0 h1 pre post:Heap}{e v q:Nat}(l:List Tok)(k:Int)(n t:Bs)(hh:h1=pre++ .row e 4 v (l.map Tok.av++[.agg [.int .i64 k,.str n,.nil (.slice none 0 0),.str t]])::post)(hq:q=pre.length)(hp:h0.length≤q):
  Frz h1 h0.length (.hs q v 0 (l.length+1) true) (.sl 4 ((l++[(k,n,[],t)]).map Tok.av)):=by
 subst hh;subst hq;have at_:∀(i:Nat) (r s:AVal),(l.map Tok.av++[AVal.agg [.int .i64 k,.str n,.nil (.slice none 0 0),.str t]])[i]? =some r→((l++[(k,n,[],t)]).map Tok.av)[i]? =some s→
   (∃a,r=Tok.av a∧s=r)∨(r=.agg [.int .i64 k,.str n,.nil (.slice none 0 0),.str t]∧s=Tok.av (k,n,[],t)):=by
  intro i r s hr hs;rw[K7]at hs;rcases N9 i (l.map Tok.av).length with h1|h1|h1
  ·rw[G0 h1]at hr hs;rw[hr]at hs;cases hs;obtain⟨a,_,rfl⟩:=I9.1 (G1 hr);exact .inl ⟨a,rfl,rfl⟩
  ·subst h1;simp only[G6 (G3 _),Nat.sub_self,I4,L9,P0,G5]at hr hs;exact .inr ⟨hr.symm,hs.symm⟩
  ·rw[G6 (by omega),M9 (by simp at h1 ⊢;omega)]at hr;cases hr
 have:=Frz.hs (h:=pre++ .row e 4 v (l.map Tok.av++[.agg [.int .i64 k,.str n,.nil (.slice none 0 0),.str t]])::post) (n:=h0.length) pre.length v 0 (l.length+1) true e 4 _ ((l++[(k,n,[],t)]).map Tok.av) hp (by simp[getRow];rfl) (by simp) (by simp)
   (fun i r s hr hs=>by rcases at_ i r s hr hs with⟨a,rfl,rfl⟩| ⟨rfl,rfl⟩;exact .clo _ (Tok.clo _ _);exact sW _ _ _ _ _)
   (fun i r s hr hs=>by
    rcases at_ i r s hr hs with⟨a,rfl,rfl⟩| ⟨rfl,rfl⟩
    ·exact⟨rfl,fun j c d _ hd=>Tok.av_sto _ d (G1 hd)⟩
    ·exact⟨rfl,fun j c d _ hd=>Tok.av_sto _ d (G1 hd)⟩)
   (fun i r s j c d hr hs hc hd=>by
    rcases at_ i r s hr hs with⟨a,rfl,rfl⟩| ⟨rfl,rfl⟩
    ·rw[hc]at hd;cases hd;exact .clo _ ((Tok.clo _ _).cells c (G1 hc))
    ·match j with
     |0=>simp[Tok.av,AVal.cells]at hc hd;subst hc;subst hd;exact .clo _ (.int _ _)
     |1=>simp[Tok.av,AVal.cells]at hc hd;subst hc;subst hd;exact .clo _ (.str _)
     |2=>simp[Tok.av,AVal.cells]at hc hd;subst hc;subst hd;exact .nils _
     |3=>simp[Tok.av,AVal.cells]at hc hd;subst hc;subst hd;exact .clo _ (.str _)
     |j+4=>simp[AVal.cells]at hc)
 rw[N8,H4 (by simp)]at this;exact this
theorem lJ(s:Bs)(h:Heap):Sat (CT G) 107 [.str s] h (fun r h'=>r=.sl 4 ([(3,[],[],s)].map Tok.av)∧h'=h):=by
 skip
 refine sb [.tmp 2] Tryz.func107 ?_;intro Q hQ;refine qt trivial ?_;refine qt trivial ?_;refine au hQ trivial ?_;have fz:=jZ (h0:=h) (h1:=h++[.row 98 4 0 [.agg [.int .i64 3,.str [],.nil (.slice none 0 0),.str s]]]) (pre:=h) (post:=[]) [] 3 [] s rfl rfl (G3 _);exact T6 fz ⟨rfl,rfl⟩
theorem cF(h j jj:Heap)(s s0:Bs)(b b0:Bool){h2:Heap}{x y:AVal}(hh:h2=rdH h j s b++jj)(hx:Frz h2 (rdH h j s0 b0).length x y):Fin (rdH h j s0 b0) h2 (fun r h'=>r=y∧h'=rdH h j s b) x:=by
 subst hh;exact Fin.keepF (by simp only[cE]) (fun p k hk=>nM _ _ _ _ _ _ _ p k hk) hx ⟨rfl,rfl⟩
def kindF(s:Bs)(b:Bool):Bs×Bool:=
 let u:=uptoF [62] s b
 (u.2.1,Lib.contains u.1 [91]||u.2.2)
theorem sX(hG:GOk G)(s:Bs)(b:Bool)(hs:s.length≤1048576)(h j:Heap):Sat (CT G) 106 [.hp h.length 0 0 0] (rdH h j s b)
  (fun r h'=>r=.sl 4 []∧h'=rdH h j (kindF s b).1 (kindF s b).2):=by
 have hu:=eC [62] s b;have hus:=cX G hG [62] s b (by omega) h j;have hv:kindF s b=((uptoF [62] s b).2.1,Lib.contains (uptoF [62] s b).1 [91]||(uptoF [62] s b).2.2):=rfl;rw[hv];generalize uptoF [62] s b=u at hu hus ⊢;refine sb [.tmp 2] Tryz.func106 ?_;intro Q hQ;refine qt trivial ?_;refine qu trivial (hus) ?_;refine qu trivial (cM G hG u.1 [91] (by omega) _) ?_;have end_:=fun b1=>cF h j [] u.2.1 s b1 b (x:=.nil (.slice none 0 0)) (y:=.sl 4 []) (H8 _).symm (Frz.nils 4)
 (first|refine bl trivial (fun g=>?_) (fun g=>?_)|refine pqo trivial (fun g=>?_) (fun g=>?_))<;>(try exact g.elim)<;>(try refine ai trivial ?_)<;>(refine qt trivial ?_)
 ·refine au hQ trivial ?_;rw[g,L2]at*;exact end_ _
 ·refine au hQ trivial ?_;rw[g,N1]at*;exact end_ _
def closeF(s:Bs)(b:Bool):Bs×Bool:=
 let s2:=(nameR s).dropWhile blankB
 (Lib.trimPrefix s2 [62],(b||badN (nameW s))|| !Lib.hasPrefix s2 [62])
theorem qK(s:Bs)(b:Bool)(hs:s.length≤1048576)(h j:Heap):Sat (CT G) 108 [.hp h.length 0 0 0] (rdH h j s b)
  (fun r h'=>r=.sl 4 ([(2,nameW s,[],[])].map Tok.av)∧h'=rdH h j (closeF s b).1 (closeF s b).2):=by
 have h1:(nameR s).length≤s.length:=aF _ _;have c1:∀l,Sat (CT G) 143 [.hp h.length 0 0 0] (rdH h j s b++l) _:=fun l=>bI G (l:=l) fun j=>fA G s b (by omega) h j
 have c2:∀l b1,Sat (CT G) 144 [.hp h.length 0 0 0] (rdH h j (nameR s) b1++l) _:=fun l b1=>bI G (l:=l) fun j=>eB G (nameR s) b1 (by omega) h j
 have c3:∀l b1,Sat (CT G) 145 [.hp h.length 0 0 0,.str [62]] (rdH h j ((nameR s).dropWhile blankB) b1++l) _:=fun l b1=>bI G (l:=l) fun j=>iq G [62] ((nameR s).dropWhile blankB) b1 h j
 refine sb [.tmp 2] Tryz.func108 ?_;intro Q hQ;refine qt trivial ?_;refine qu trivial (fA G s b (by omega) h j) ?_;refine qu trivial (c2 _ _) ?_;refine qu trivial (c3 _ _) ?_;refine au hQ trivial ?_;refine cF h j _ _ s _ b rfl ?_;exact jZ (pre:=rdH h j _ _++[_]) (post:=[]) [] 2 (nameW s) [] (I6 _ [_] [_]).symm (by simp[cE];try omega) (by simp[cE];try omega)
end Go.Av
namespace Go.Av
open Go.RowKit
section
variable {C:Ctx} {B n:Nat} {S:Addr→Prop} {μ:Map} {h:Heap} {w:World} {t:Env} {a:Act}
def LetP(S:Addr→Prop)(μ:Map)(w:World)(p:Nat):Addr→Prop:=fun a=>S a∨∃m,μ[p]? =some m∧m.blk=some a.block∧(w.cell? a).isSome=true
theorem Rep.letgo(f:Fits C B S μ h w){p v e m:Nat}{rows:List AVal}(hg:getRow h p v=some (e,m,rows)){μ':Map}(st:Step B S μ w (LetP S μ w p) μ' w)
  {off len:Nat}{room:Bool}{val:Value}(hlen:off+len≤rows.length)(r:Rep w S μ (.hs p v off len room) val):Rep w (LetP S μ w p) μ' (.sl m ((rows.drop off).take len)) val:=by
 obtain⟨mb,hm,hf⟩:=f.row hg;have hms:=hf.hsize;rcases r.hs_now hm hf.hver with⟨hb,rfl,rfl,rfl⟩| ⟨b,hb,hcap,rfl⟩
 ·simpa using Rep.sl0 (w:=w) (S:=LetP S μ w p) (μ:=μ') m none 0
 ·by_cases hl0:len=0
  ·subst hl0;simpa using Rep.sl0 (w:=w) (S:=LetP S μ w p) (μ:=μ') m _ _
  ·obtain⟨cur,hheap,hcs,hle,hmax,fl⟩:=hf.flat hb;have hes:((rows.drop off).take len).length=len:=(by simp;omega);have hget:∀(i:Nat) (s:AVal),((rows.drop off).take len)[i]? =some s→rows[off+i]? =some s:=by
    intro i s hi;have hlt:=(E0.1 hi).1;rw[hes]at hlt;rw[G7 hlt,K5]at hi;exact hi
   have e1:∀i j,(off+i)*m+j=off*m+(i*m+j):=fun i j=>by rw[M1];omega
   have key:=Rep.sl (w:=w) (S:=LetP S μ w p) (μ:=μ') m ((rows.drop off).take len) b (off*mb.size) (if room then mb.cap-off else len)
    (fun i j=>cur.getD (off*m+(i*m+j)) undef) (by intro e;rw[e]at hes;simp at hes;omega) (by rw[hes];split<;>omega) (by split<;>omega)
    (fun i s hi=>hf.lens _ _ (hget i s hi))
    (fun i s j d hi hj=>by
     have h1:=hget i s hi;obtain⟨u,hu,_⟩:=fl.rep _ _ _ _ h1 hj;have hu:=aD hu;rw[e1]at hu;have hu2:cur[off*m+(i*m+j)]? =some u:=(by simpa using hu);have hcell:w.cell? ⟨b,off*m+(i*m+j),none⟩=some u:=(by simp[World.cell?,hheap,hu2]);rw[hms];refine⟨.inr ⟨mb,hm,hb,by rw[hcell];rfl⟩,?_,hf.sto _ _ _ _ h1 hj⟩;rw[hcell];simp[J4,hu2])
    (fun i s j d hi hj=>by
     have h1:=hget i s hi;obtain⟨u,hu,hrep⟩:=fl.rep _ _ _ _ h1 hj;have hu:=aD hu;rw[e1]at hu;have hu2:cur[off*m+(i*m+j)]? =some u:=(by simpa using hu);have:=hrep.mono st;simpa [J4,hu2]using this)
   rw[hes]at key;exact key
theorem Fits.letgo(f:Fits C B S μ h w){p v e m:Nat}{rows:List AVal}(hg:getRow h p v=some (e,m,rows)):
  ∃μ',Step B S μ w (LetP S μ w p) μ' w∧Fits C B (LetP S μ w p) μ' (h.set p .dead) w:=by
 obtain⟨mb,hm,hf⟩:=f.row hg;have hlt:=(E0.1 hm).1;have st:Step B S μ w (LetP S μ w p) (μ.set p ⟨none,mb.ver+1,mb.size,mb.cap⟩) w:=⟨fun a ha=>.inl ha,fun _ _=>rfl,Q4 _ _,bt hm (by simp) (fun e=>by simp at e),fun a ha=>by
  rcases ha with ha| ⟨m',hm',hb,_⟩
  ·exact .inl ha
  ·exact .inr (f.own p m' _ hm' hb).1⟩
 have at_:∀q k,(μ.set p ⟨none,mb.ver+1,mb.size,mb.cap⟩)[q]? =some k→(q=p∧k.blk=none)∨(q≠p∧μ[q]? =some k):=by
  intro q k hq;by_cases e:p=q
  ·subst e;rw[L0 hlt]at hq;cases hq;exact .inl ⟨rfl,rfl⟩
  ·rw[J0 e]at hq;exact .inr ⟨fun e'=>e e'.symm,hq⟩
 refine⟨_,st,⟨fun g cs hg=>(f.glob g cs hg).mono st,by simp[f.len],?_,?_,f.base,?_,?_⟩⟩
 ·intro p1 q1 m1 m2 b h1 h2 e1 e2;rcases at_ p1 m1 h1 with⟨_,k1⟩| ⟨_,k1⟩
  ·rw[k1]at e1;cases e1
  ·rcases at_ q1 m2 h2 with⟨_,k2⟩| ⟨_,k2⟩
   ·rw[k2]at e2;cases e2
   ·exact f.sep p1 q1 m1 m2 b k1 k2 e1 e2
 ·intro p1 m1 b h1 e1;rcases at_ p1 m1 h1 with⟨_,k1⟩| ⟨r1,k1⟩
  ·rw[k1]at e1;cases e1
  ·obtain⟨a1,a2,a3⟩:=f.own p1 m1 b k1 e1;refine⟨a1,a2,fun a ha=>?_⟩;rcases ha with ha| ⟨m',hm',hb,_⟩
   ·exact a3 a ha
   ·intro e;exact r1 (f.sep p1 p m1 m' b k1 hm' e1 (by rw[hb,e]))
 ·intro a ha;rcases ha with ha| ⟨m',hm',hb,_⟩
  ·exact f.lie a ha
  ·exact(f.own p m' _ hm' hb).2.1
 ·intro p1 m1 k1 h1 h2;rcases at_ p1 m1 h1 with⟨rfl,_⟩| ⟨r1,h1⟩
  ·rw[L0 (by rw[← f.len];exact hlt)]at h2;cases h2;trivial
  ·rw[J0 (fun e=>r1 e.symm)]at h2;exact(f.blk p1 m1 k1 h1 h2).mono st fun b _=>rfl
inductive Fz (h:Heap) (p v:Nat):AVal→AVal→Prop
 |same (x:AVal):Fz h p v x x
 |hs (off len:Nat) (room:Bool) (e m:Nat) (rows es:List AVal):getRow h p v=some (e,m,rows)→off+len≤rows.length→es=(rows.drop off).take len→Fz h p v (.hs p v off len room) (.sl m es)
 |agg (cs ds:List AVal):cs.length=ds.length→(∀d∈ds,d.sto=true)→(∀(i:Nat) (c d:AVal),cs[i]? =some c→ds[i]? =some d→Fz h p v c d)→Fz h p v (.agg cs) (.agg ds)
 |tup (cs ds:List AVal):cs.length=ds.length→(∀(i:Nat) (c d:AVal),cs[i]? =some c→ds[i]? =some d→Fz h p v c d)→Fz h p v (.tup cs) (.tup ds)
 |wk (x y z:AVal):Fz h p v x y→Wk y z→Fz h p v x z
theorem Fz.all(h:Heap)(p v:Nat){off len e m:Nat}{room:Bool}{rows:List AVal}(hg:getRow h p v=some (e,m,rows))(h0:off=0)(hl:len=rows.length):Fz h p v (.hs p v off len room) (.sl m rows):=
 .hs off len room e m rows rows hg (by omega) (by subst h0;subst hl;simp)
theorem Fz.rep(f:Fits C B S μ h w){p v:Nat}{μ':Map}(st:Step B S μ w (LetP S μ w p) μ' w){x y:AVal}{u:Value}(z:Fz h p v x y)(r:Rep w S μ x u):Rep w (LetP S μ w p) μ' y u:=by
 induction z generalizing u with
 |same x=>exact r.mono st
 |hs off len room e m rows es hg hl he=>subst he;exact r.letgo f hg st hl
 |agg cs ds hl hst _ ih=>
  obtain⟨vs,rfl,hvl,_,hr⟩:=r.agg_inv;refine .agg ds vs (by omega) (fun i d hd=>hst d (G1 hd)) (fun i d hd=>?_);have hlt:=(E0.1 hd).1;have hc:=E6 (show i<cs.length by omega);exact ih i _ d hc hd (hr i _ hc)
 |tup cs ds hl _ ih=>
  obtain⟨vs,rfl,hvl,hr⟩:=r.tup_inv;refine .tup ds vs (by omega) (fun i d hd=>?_);have hlt:=(E0.1 hd).1;have hc:=E6 (show i<cs.length by omega);exact ih i _ d hc hd (hr i _ hc)
 |wk x y z _ hw ih=>exact hw _ _ _ _ (ih r)
theorem Weak.fzIn{ms:List Nat}{t1:Env}(p v q v':Nat){e m e' m':Nat}{rows xs:List AVal}(ys:List AVal)(hg:getRow h p v=some (e,m,rows))(hne:p≠q)(hq:getRow h q v'=some (e',m',xs))
  (hl:ys.length≤xs.length)(hc:∀(i:Nat) (x y:AVal),xs[i]? =some x→ys[i]? =some y→x.cells.length=y.cells.length∧
   ∀(j:Nat) (c d:AVal),x.cells[j]? =some c→y.cells[j]? =some d→Fz h p v c d∧d.sto=true)
  (ht:∀i,t1 i=t i∨(i∈ms∧Fz h p v (t i) (t1 i))):Weak C ms t h t1 ((h.set p .dead).set q (.row e' m' v' ys)):=by
 refine⟨fun i hi=>(ht i).elim id fun⟨h1,_⟩=>absurd h1 hi,fun B k S μ w a f r=>?_⟩;obtain⟨μ',st,f1⟩:=f.letgo hg;obtain⟨mq,hmq,rq⟩:=f.row hq;have hq1:getRow (h.set p .dead) q v'=some (e',m',xs):=by
  have:=bv hq;unfold getRow;rw[J0 hne,this];simp
 obtain⟨mb,hm,rf⟩:=f1.row hq1;have hset:List.set μ' q mb=μ':=by
  obtain⟨hlt,he⟩:=E0.1 hm;rw[← he,List.set_getElem_self]
 have at_:∀(i:Nat) (y:AVal),ys[i]? =some y→∃x,xs[i]? =some x:=by
  intro i y hi;have hlt:=(E0.1 hi).1;exact⟨_,E6 (by omega)⟩
 have cat:∀(i:Nat) (y:AVal) (j:Nat) (d:AVal),ys[i]? =some y→y.cells[j]? =some d→∃x c,xs[i]? =some x∧x.cells[j]? =some c∧Fz h p v c d∧d.sto=true:=by
  intro i y j d hi hj;obtain⟨x,hx⟩:=at_ i y hi;obtain⟨h1,h2⟩:=hc i x y hx hi;have hlt:=(E0.1 hj).1;have hxj:=E6 (show j<x.cells.length by omega);exact⟨x,_,hx,hxj,h2 j _ d hxj hj⟩
 have hmm:mb=mq:=by
  obtain⟨m2,h2,h3,h4⟩:=st.map q mq hmq;rw[hm]at h2;cases h2;exact h4 (by rw[rf.hver,rq.hver])
 subst hmm;have key:BlkFits w (LetP S μ w p) (List.set μ' q mb) mb (.row e' m' v' ys):=by
  rw[hset];refine⟨rf.hver,rf.hsize,rf.pos,fun i y hi=>?_,fun i y j d hi hj=>?_,?_⟩
  ·obtain⟨x,hx⟩:=at_ i y hi;rw[← (hc i x y hx hi).1];exact rf.lens i x hx
  ·obtain⟨x,c,_,_,_,h4⟩:=cat i y j d hi hj;exact h4
  ·rcases rq.lies with⟨h1,h2⟩| ⟨b,cur,h1,h2,h3,h4,h5,h6⟩
   ·subst h2;exact .inl ⟨h1,J5.1 (by simpa using hl)⟩
   ·refine .inr ⟨b,cur,h1,h2,h3,by omega,h5,fun i y j d hi hj=>?_⟩;obtain⟨x,c,hx,hxj,hz,_⟩:=cat i y j d hi hj;obtain⟨u,hu,hr⟩:=h6 i x j c hx hxj;exact⟨u,hu,hz.rep f st hr⟩
 obtain⟨f2,st2⟩:=f1.update (m':=mb) (k':=.row e' m' v' ys) hm (Only.refl w _) (G3 _) (fun _=>rfl) (.inl rfl) key;refine⟨_,_,st.trans st2,f2,r.1,r.2.1,fun i hi=>?_⟩;rcases ht i with h1| ⟨_,h1⟩
 ·rw[h1];exact(r.2.2 i hi).mono (st.trans st2)
 ·exact(h1.rep f st (r.2.2 i hi)).mono st2
theorem Weak.rowTake{ms:List Nat}(p v k:Nat){e m:Nat}{rows:List AVal}(hg:getRow h p v=some (e,m,rows)):Weak C ms t h t (h.set p (.row e m v (rows.take k))):=by
 refine⟨fun _ _=>rfl,fun B n S μ w a f r=>?_⟩;obtain⟨mb,hm,rf⟩:=f.row hg;have hset:List.set μ p mb=μ:=by
  obtain⟨hlt,he⟩:=E0.1 hm;rw[← he,List.set_getElem_self]
 have at_:∀(i:Nat) (y:AVal),(rows.take k)[i]? =some y→rows[i]? =some y:=fun i y hi=>aD hi
 have key:BlkFits w S (List.set μ p mb) mb (.row e m v (rows.take k)):=by
  rw[hset];refine⟨rf.hver,rf.hsize,rf.pos,fun i y hi=>rf.lens i y (at_ i y hi),fun i y j d hi hj=>rf.sto i y j d (at_ i y hi) hj,?_⟩;rcases rf.lies with⟨h1,h2⟩| ⟨b,cur,h1,h2,h3,h4,h5,h6⟩
  ·subst h2;exact .inl ⟨h1,by simp⟩
  ·exact .inr ⟨b,cur,h1,h2,h3,⟨h4.1,by simp;omega⟩,h5,fun i y j d hi hj=>h6 i y j d (at_ i y hi) hj⟩
 obtain⟨f2,st2⟩:=f.update (m':=mb) (k':=.row e m v (rows.take k)) hm (Only.refl w _) (G3 _) (fun _=>rfl) (.inl rfl) key;exact⟨S,_,st2,f2,r.mono st2⟩
end
end Go.Av
namespace Go.Av
open Go Go.RowKit
attribute [local irreducible] WP WPl WPix Sat
structure FrzR (h:Heap) (n:Nat) (r s:AVal):Prop where
 all:Frz h n r s
 len:r.cells.length=s.cells.length
 sto:∀d∈s.cells,d.sto=true
 cell:∀(j:Nat) (c d:AVal),r.cells[j]? =some c→s.cells[j]? =some d→Frz h n c d
theorem Frz.rows{h:Heap}{n q v e m:Nat}{rows es:List AVal}{len:Nat}{room:Bool}(hq:n≤q)(hg:getRow h q v=some (e,m,rows))(hlen:len=rows.length)(hl:es.length=rows.length)
  (hp:∀(i:Nat) (r s:AVal),rows[i]? =some r→es[i]? =some s→FrzR h n r s):Frz h n (.hs q v 0 len room) (.sl m es):=by
 subst hlen;have:=Frz.hs (h:=h) (n:=n) q v 0 rows.length room e m rows es hq hg (by omega) hl (fun i r s hr hs=>(hp i r s hr hs).all)
  (fun i r s hr hs=>⟨(hp i r s hr hs).len,fun j c d _ hd=>(hp i r s hr hs).sto d (G1 hd)⟩) (fun i r s j c d hr hs hc hd=>(hp i r s hr hs).cell j c d hc hd)
 rw[N8, ← hl,List.take_length]at this;rw[← hl];exact this
theorem FrzR.clo{h:Heap}{n:Nat}{r:AVal}(hc:Clo n r)(hs:∀d∈r.cells,d.sto=true):FrzR h n r r:=
 ⟨.clo _ hc,rfl,hs,fun j c d h1 h2=>by rw[h1]at h2;cases h2;exact .clo _ (hc.cells c (G1 h1))⟩
theorem FrzR.agg{h:Heap}{n:Nat}{cs ds:List AVal}(hl:cs.length=ds.length)(hs:∀d∈ds,d.sto=true)(hc:∀(i:Nat) (c d:AVal),cs[i]? =some c→ds[i]? =some d→Frz h n c d):FrzR h n (.agg cs) (.agg ds):=
 ⟨.agg _ _ hl hs hc,hl,hs,hc⟩
inductive FrzL (h:Heap) (n:Nat):List AVal→List AVal→Prop
 |nil:FrzL h n [] []
 |cons {c d:AVal} {cs ds:List AVal}:Frz h n c d→FrzL h n cs ds→FrzL h n (c::cs) (d::ds)
theorem FrzL.len{h:Heap}{n:Nat}{cs ds:List AVal}(z:FrzL h n cs ds):cs.length=ds.length:=by induction z with|nil=>rfl|cons _ _ ih=>simp[ih]
theorem FrzL.at_{h:Heap}{n:Nat}{cs ds:List AVal}(z:FrzL h n cs ds):∀(i:Nat) (c d:AVal),cs[i]? =some c→ds[i]? =some d→Frz h n c d:=by
 induction z with
 |nil=>intro i c d h1;simp at h1
 |cons z _ ih=>
  intro i c d h1 h2
  match i with
  |0=>simp at h1 h2;subst h1;subst h2;exact z
  |i+1=>exact ih i c d (by simpa using h1) (by simpa using h2)
theorem FrzL.agg{h:Heap}{n:Nat}{cs ds:List AVal}(z:FrzL h n cs ds)(hs:ds.all AVal.sto=true):Frz h n (.agg cs) (.agg ds):=.agg _ _ z.len (G8.1 hs) z.at_
theorem FrzL.tup{h:Heap}{n:Nat}{cs ds:List AVal}(z:FrzL h n cs ds):Frz h n (.tup cs) (.tup ds):=.tup _ _ z.len z.at_
theorem FrzL.row{h:Heap}{n:Nat}{cs ds:List AVal}(z:FrzL h n cs ds)(hs:ds.all AVal.sto=true):FrzR h n (.agg cs) (.agg ds):=.agg z.len (G8.1 hs) z.at_
inductive FrzRs (h:Heap) (n:Nat):List AVal→List AVal→Prop
 |nil:FrzRs h n [] []
 |cons {c d:AVal} {cs ds:List AVal}:FrzR h n c d→FrzRs h n cs ds→FrzRs h n (c::cs) (d::ds)
theorem FrzRs.len{h:Heap}{n:Nat}{cs ds:List AVal}(z:FrzRs h n cs ds):cs.length=ds.length:=by induction z with|nil=>rfl|cons _ _ ih=>simp[ih]
theorem FrzRs.at_{h:Heap}{n:Nat}{cs ds:List AVal}(z:FrzRs h n cs ds):∀(i:Nat) (c d:AVal),cs[i]? =some c→ds[i]? =some d→FrzR h n c d:=by
 induction z with
 |nil=>intro i c d h1;simp at h1
 |cons z _ ih=>
  intro i c d h1 h2
  match i with
  |0=>simp at h1 h2;subst h1;subst h2;exact z
  |i+1=>exact ih i c d (by simpa using h1) (by simpa using h2)
theorem FrzRs.hs{h:Heap}{n q v e m:Nat}{rows es:List AVal}{len:Nat}{room:Bool}(hg:getRow h q v=some (e,m,rows))(hlen:len=rows.length)(hq:n≤q)(z:FrzRs h n rows es):Frz h n (.hs q v 0 len room) (.sl m es):=
 Frz.rows hq hg hlen z.len.symm z.at_
theorem Frz.data{h:Heap}{n q v e m:Nat}{rows:List AVal}{len:Nat}{room:Bool}(hq:n≤q)(hg:getRow h q v=some (e,m,rows))(hlen:len=rows.length)(hc:∀r∈rows,Clo n r)(hs:∀r∈rows,∀c∈r.cells,c.sto=true):Frz h n (.hs q v 0 len room) (.sl m rows):=
 Frz.rows hq hg hlen rfl fun i r s hr hs'=>by rw[hr]at hs';cases hs';exact FrzR.clo (hc r (G1 hr)) (hs r (G1 hr))
end Go.Av
namespace Go.Av
open Go Go.Proofs Go.RowKit
attribute [local irreducible] WP WPl WPix Sat
theorem At.cells_sto(e:At):∀c∈e.av.cells,c.sto=true:=by
 rw[At.av_cells];intro c hc;simp only[I2,N7,or_false]at hc;rcases hc with rfl|rfl<;>rfl
theorem Frz.ats{h:Heap}{n q v e:Nat}{l:List At}{len:Nat}{room:Bool}(hq:n≤q)(hg:getRow h q v=some (e,2,l.map At.av))(hlen:len=l.length):Frz h n (.hs q v 0 len room) (.sl 2 (l.map At.av)):=
 Frz.data hq hg (by simpa using hlen) (fun r hr=>by obtain⟨a,_,rfl⟩:=I9.1 hr;exact At.clo _ a) (fun r hr=>by obtain⟨a,_,rfl⟩:=I9.1 hr;exact At.cells_sto a)
variable (G:Nat→Option (List AVal))
theorem ju(p:At→Bool)(g:FuncId)(cap:List AVal)(h:Heap)(hg:∀a:At,Sat (CT G) g ([]++[a.av]++cap) h (fun r h'=>r=.bool (p a)∧h'=h))(l:List At)(q v:Nat)(hrow:getRow h q v=some (79,2,l.map At.av))(hl:l.length≤1073741824):
  Sat (CT G) 128 [.hs q v 0 l.length true,.fn (.func g) [] cap] h
   (fun r h'=>r=.int .i64 (idxG p l)∧h'=h):=by
 have F:= @hrow;refine sb [.tmp 4] Tryz.func128 ?_;intro Q hQ;refine ah F ?_;refine lm (fun nL tL hL=>∃(k:Nat),l.length-k=nL∧h=hL∧tL 8=.int .i64 k∧k≤l.length∧∀a∈l.take k,p a=false) ((fun(k:Nat)=>(l.length-k:Nat)) (0)) ?_ ?_
 ·refine H3 ⟨0,rfl,aB,?_,Nat.zero_le _,by simp⟩;all_goals first|exact az F|rfl|omega|trivial|skip
 rintro _ s2 h' ⟨k,rfl,rfl,e8,hk,hp⟩ K2 hK2;simp only[ao,aw,Nat.reduceEqDiff, ↓reduceIte]at e8;have F:=F2 F e8;refine ah F ?_;refine aC F (fun hc=>?_) (fun hc=>?_)<;>(try exact hc.elim)
 ·obtain⟨y,hy,hym⟩:=am hc;have F:=F2 F hy;refine ah F ?_;refine⟨hc,?_⟩;refine aE F (hg y) ?_;refine aC F (fun hq=>?_) (fun hq=>?_)<;>(try exact hq.elim)<;>(refine ah F ?_)
  ·refine au hQ F ?_;have e:idxG p l=k:=by
    unfold idxG;have:l.findIdx? p=some k:=by
     rw[List.findIdx?_eq_some_iff_getElem];refine⟨hc,?_,?_⟩
     ·rw[E6 hc]at hy;cases hy;exact hq
     ·intro i hi;rw[hp _ (by rw[List.mem_take_iff_getElem];exact⟨i,by omega,rfl⟩)];simp
    rw[this]
   rw[e];exact T5 (j:=[]) (H8 _).symm (.int _ _) ⟨rfl,rfl⟩
  ·have hp1:∀a∈l.take (k+1),p a=false:=by
    rw[O0,hy];intro a ha;simp at ha;rcases ha with ha|rfl
    ·exact hp a ha
    ·exact hq
   refine hK2 _ _ _ (H3 ⟨k+1,rfl,aB,?_,by omega,hp1⟩) (by omega);all_goals first|exact az F|rfl|omega|trivial|skip
 ·refine ah F ?_;refine au hQ F ?_;have e:idxG p l= -1:=by
   unfold idxG;have:l.findIdx? p=none:=by
    rw[R2];intro a ha;exact hp a (by rwa [H4 hc])
   rw[this]
  rw[e];exact T5 (j:=[]) (H8 _).symm (.int _ _) ⟨rfl,rfl⟩
theorem i5(p:At→Bool)(g:FuncId)(cap:List AVal)(h:Heap)(hg:∀a:At,Sat (CT G) g ([]++[a.av]++cap) h (fun r h'=>r=.bool (p a)∧h'=h))(l:List At)(q v:Nat)(hrow:getRow h q v=some (79,2,l.map At.av))(hl:l.length≤1073741824):
  Sat (CT G) 171 [.hs q v 0 l.length true,.fn (.func g) [] cap] h
   (fun r h'=>r=.bool (l.any p)∧h'=h):=by
 refine sb [.tmp 4] Tryz.func171 ?_;intro Q hQ;refine ah trivial ?_;refine aE trivial (ju G p g cap h hg l q v hrow hl) ?_;refine au hQ trivial ?_;rw[sV]at*;exact T5 (j:=[]) (H8 _).symm (.bool _) ⟨rfl,rfl⟩
theorem pi(l:List At)(w:Bs)(h:Heap)(q v:Nat)(hrow:getRow h q v=some (79,2,l.map At.av))(hl:l.length≤1073741824):Sat (CT G) 147 [.hs q v 0 l.length true,.str w] h
  (fun r h'=>r=.bool (l.any fun a=>a.1==w)∧h'=h):=by
 refine sb [.tmp 4] Tryz.func147 ?_;intro Q hQ;refine ah trivial ?_;refine aE trivial (i5 G (fun a=>a.1==w) 172 [.hp h.length 0 0 0] _ (fun a=>ph G a w h) l q v (dH hrow) hl) ?_;refine au hQ trivial ?_;exact T5 (j:=_) rfl (.bool _) ⟨rfl,rfl⟩
end Go.Av
namespace Go.Av
open Go Go.Proofs Go.RowKit
attribute [local irreducible] WP WPl WPix Sat
variable (G:Nat→Option (List AVal))
def textP(c:Int):Bool:= !(decide (c=60))
def textB(b:UInt8):Bool:=textP b.toNat
theorem uN:ByByte textP textB true:=⟨fun _ _=>rfl,fun c hc _=>by unfold textP;simp;omega,fun b hb=>by unfold textB textP;simp;omega⟩
theorem qL(c:Int)(h:Heap):Sat (CT G) 112 [.int .i32 c] h (fun r h'=>r=.bool (textP c)∧h'=h):=by
 refine sb [.tmp 2] Tryz.func112 ?_;intro Q hQ;refine ah trivial ?_;refine au hQ trivial ?_;exact T5 (j:=[]) (H8 _).symm (.bool _) ⟨by unfold textP;rfl,rfl⟩
def openL:Nat→Bs→List At→Bs→Bool→List Tok×Bs×Bool
 |0,_,_,s,_=>([],s,true)
 |f+1,n,at_,s,b=>
  if b=true then([],s,true)else
  if Lib.hasPrefix (s.dropWhile blankB) [62]=true then([(1,n,at_,[])],Lib.trimPrefix (s.dropWhile blankB) [62],false)else
  if Lib.hasPrefix (s.dropWhile blankB) [47,62]=true then([(1,n,at_,[]),(2,n,[],[])],Lib.trimPrefix (s.dropWhile blankB) [47,62],false)else
  openL f n (at_++[(attrX (s.dropWhile blankB) false).1]) (attrX (s.dropWhile blankB) false).2.1
   ((((attrX (s.dropWhile blankB) false).2.2||s.takeWhile blankB==[])||at_.any fun a=>a.1==(attrX (s.dropWhile blankB) false).1.1)||decide (32≤at_.length))
theorem bu(w s:Bs)(b:Bool):(uptoF w s b).2.1.length≤s.length:=(eC w s b).2
theorem qM(s:Bs)(b:Bool):(valueF s b).2.1.length≤s.length:=by
 have h1:=aH s (if Lib.hasPrefix s [34]=true then [34]else [39]);have h2:=bu (if Lib.hasPrefix s [34]=true then [34]else [39]) (Lib.trimPrefix s (if Lib.hasPrefix s [34]=true then [34]else [39])) (b|| !Lib.hasPrefix s (if Lib.hasPrefix s [34]=true then [34]else [39]));show(uptoF _ _ _).2.1.length≤_;omega
theorem eU(s:Bs)(h:badN (nameW s)=false):(nameR s).length<s.length:=by
 have h1:(nameW s).length+(nameR s).length=s.length:=by
  have:=H6 List.length (M8 (p:=moreB) (l:=s));rw[E5]at this;exact this
 cases hn:nameW s with
 |nil=>rw[hn]at h;cases h
 |cons c t=>rw[hn]at h1;simp at h1;omega
theorem eD(s:Bs)(b:Bool):(attrX s b).2.1.length≤(nameR s).length:=by
 have h2:=aF blankB (nameR s);have h3:=aH ((nameR s).dropWhile blankB) [61];have h4:=aF blankB (Lib.trimPrefix ((nameR s).dropWhile blankB) [61]);unfold attrX;simp only[];split
 ·simp only[];omega
 ·have:=qM ((Lib.trimPrefix ((nameR s).dropWhile blankB) [61]).dropWhile blankB) (b||badN (nameW s)|| !Lib.hasPrefix ((nameR s).dropWhile blankB) [61]);simp only[];omega
theorem iY(s:Bs)(h:(attrX s false).2.2=false):badN (nameW s)=false:=by
 cases hb:badN (nameW s)with
 |false=>rfl
 |true=>
  exfalso;unfold attrX at h;simp only[hb,Bool.or_true,L2,if_true]at h;cases h
theorem pj(s:Bs)(h:(attrX s false).2.2=false):(attrX s false).2.1.length<s.length:=by
 have h1:=eD s false;have h2:=eU s (iY s h);omega
def openF(s:Bs):List Tok×Bs×Bool:=openL (s.length+3) (nameW s) [] (nameR s) (badN (nameW s))
def tkR(n:Bs)(q v len:Nat):Blk:=.row 98 4 0 [.agg [.int .i64 1,.str n,.hs q v 0 len true,.str []]]
def atR(v:Nat)(l:List At):Blk:=.row 79 2 v (l.map At.av)
@[go_sem] theorem yu(n:Bs)(q v len:Nat)(l:Heap):getRow (tkR n q v len::l) 0 0=some (98,4,[.agg [.int .i64 1,.str n,.hs q v 0 len true,.str []]]):=rfl
@[go_sem] theorem xt(n:Bs)(q v len:Nat)(l:Heap)(k u:Nat):getRow (tkR n q v len::l) (k+1) u=getRow l k u:=rfl
@[go_sem] theorem yv(v:Nat)(l:List At)(j:Heap):getRow (atR v l::j) 0 v=some (79,2,l.map At.av):=by simp[getRow,atR]
@[go_sem] theorem xu(v:Nat)(l:List At)(j:Heap)(k u:Nat):getRow (atR v l::j) (k+1) u=getRow j k u:=rfl
theorem nO{H:Heap}{n q v e:Nat}(k:Int)(nm:Bs)(l:List At)(hg:getRow H q v=some (e,2,l.map At.av))(hq:n≤q):FrzR H n (.agg [.int .i64 k,.str nm,.hs q v 0 l.length true,.str []]) (Tok.av (k,nm,l,[])):=
 FrzL.row (.cons (.clo _ (.int _ _)) (.cons (.clo _ (.str _)) (.cons (Frz.ats hq hg rfl) (.cons (.clo _ (.str _)) .nil)))) rfl
theorem sY{H:Heap}{n:Nat}(k:Int)(nm:Bs):FrzR H n (.agg [.int .i64 k,.str nm,.nil (.slice none 0 0),.str []]) (Tok.av (k,nm,[],[])):=
 FrzL.row (.cons (.clo _ (.int _ _)) (.cons (.clo _ (.str _)) (.cons (.nils _) (.cons (.clo _ (.str _)) .nil)))) rfl
theorem sZ(hG:GOk G)(s:Bs)(hs:s.length≤1048576)(h j:Heap):Sat (CT G) 109 [.hp h.length 0 0 0] (rdH h j s false)
  (fun r h'=>r=.sl 4 ((openF s).1.map Tok.av)∧h'=rdH h j (openF s).2.1 (openF s).2.2):=by
 have h1:(nameR s).length≤s.length:=aF _ _;have c1:∀s b l,s.length≤1048576→Sat (CT G) 144 [.hp h.length 0 0 0] (rdH h j s b++l) _:=fun s b l hs=>bI G (l:=l) fun j=>eB G s b (by omega) h j
 have c2:∀w s b l,Sat (CT G) 104 [.hp h.length 0 0 0,.str w] (rdH h j s b++l) _:=fun w s b l=>bI G (l:=l) fun j=>bz G w s b h j
 have c3:∀s b l,s.length≤1048576→Sat (CT G) 146 [.hp h.length 0 0 0] (rdH h j s b++l) _:=fun s b l hs=>bI G (l:=l) fun j=>sU G hG s b hs h j
 have end_:=fun(jj:Heap) (x:AVal)=>cF h j jj (openF s).2.1 s (openF s).2.2 false (x:=x) (y:=.sl 4 ((openF s).1.map Tok.av)) rfl
 skip
 refine sb [.tmp 2] Tryz.func109 ?_;intro Q hQ;(repeat (first|refine w1 (fun K hK=>?_)|refine w2 ?_|refine w3 ?_| ((first|refine w4 ?_|refine wD ?_|refine w5 ?_|refine w6 ?_|refine w7 ?_);try refine sq trivial ?_)| (refine w8 ?_;refine sq trivial ?_;refine w9 ?_)| (refine xq trivial ?_;try refine sq trivial ?_)| ((first|refine hK _ _ (w0 ?_)| (clear hK K;refine hK _ _ (w0 ?_))| (clear hK K;clear hK K;refine hK _ _ (w0 ?_)));clear hK K)))
 refine(fA G s false (by omega) h j).mono ?_;rintro r h' ⟨rfl,rfl⟩;try refine sq trivial ?_
 (repeat (first|refine w1 (fun K hK=>?_)|refine w2 ?_|refine w3 ?_| ((first|refine w4 ?_|refine wD ?_|refine w5 ?_|refine w6 ?_|refine w7 ?_);try refine sq trivial ?_)| (refine w8 ?_;refine sq trivial ?_;refine w9 ?_)| (refine xq trivial ?_;try refine sq trivial ?_)| ((first|refine hK _ _ (w0 ?_)| (clear hK K;refine hK _ _ (w0 ?_))| (clear hK K;clear hK K;refine hK _ _ (w0 ?_)));clear hK K)))
 refine lm (fun nL tL hL=>∃(f v:Nat) (s1:Bs) (b:Bool) (at_:List At) (jj:Heap),f=nL∧rdH h j s1 b++tkR (nameW s) (h.length+(1+(j.length+1))) v at_.length::atR v at_::jj=hL∧tL 0=.hp h.length 0 0 0∧tL 3=.hp (h.length+(1+j.length)) 0 0 0∧s1.length≤s.length∧(1≤f∧(b=false→s1.length+2≤f))∧openL f (nameW s) at_ s1 b=openF s∧((b=false→at_.length≤32))) ((fun(f v:Nat) (s1:Bs) (b:Bool) (at_:List At) (jj:Heap)=>(f:Nat)) ((s.length+3)) (0) ((nameR s)) (badN (nameW s)) ([]) ([])) ?_ ?_
 ·refine⟨_,_,S6 (p:=h.length+(1+j.length)) (v:=0) 79 2 (by omega) (by simp(disch:=first|omega| (simp only[go_sem, ↓reduceIte,seval];first|done|omega)|fail) only[go_sem, ↓reduceIte,seval];rfl) 2 rfl,⟨(s.length+3),0,(nameR s),badN (nameW s),[],[],rfl,(by rw[lH];simp[cE,tkR,atR,Nat.add_assoc]),?_,?_,h1,⟨by omega,fun _=>by omega⟩,rfl,fun _=>by simp⟩⟩;all_goals try exact zZz trivial
 rintro _ s2 h' ⟨f,v,s1,b,at_,jj,rfl,rfl,e0,e3,hs1,hf,hp,ha⟩ K2 hK2;simp only[ao,aw,Nat.reduceEqDiff, ↓reduceIte]at e0 e3;have F:=F2 e0 e3;(repeat (first|refine w1 (fun K hK=>?_)|refine w2 ?_|refine w3 ?_| ((first|refine w4 ?_|refine wD ?_|refine w5 ?_|refine w6 ?_|refine w7 ?_);try refine sq F ?_)| (refine w8 ?_;refine sq F ?_;refine w9 ?_)| (refine xq F ?_;try refine sq F ?_)| ((first|refine hK _ _ (w0 ?_)| (clear hK K;refine hK _ _ (w0 ?_))| (clear hK K;clear hK K;refine hK _ _ (w0 ?_)));clear hK K)))
 refine cq F (fun hc=>?_) (fun hc=>?_)<;>(try exact hc.elim)<;>((repeat (first|refine w1 (fun K hK=>?_)|refine w2 ?_|refine w3 ?_| ((first|refine w4 ?_|refine wD ?_|refine w5 ?_|refine w6 ?_|refine w7 ?_);try refine sq F ?_)| (refine w8 ?_;refine sq F ?_;refine w9 ?_)| (refine xq F ?_;try refine sq F ?_)| ((first|refine hK _ _ (w0 ?_)| (clear hK K;refine hK _ _ (w0 ?_))| (clear hK K;clear hK K;refine hK _ _ (w0 ?_)));clear hK K))))
 ·subst hc;obtain⟨g,rfl⟩:∃g,f=g+1:=⟨f-1,by omega⟩;have hd:=aF blankB s1;rw[openL,E4 (by simp)]at hp;have hf2:=hf.2 rfl;have ha2:=ha rfl;(repeat (first|refine w1 (fun K hK=>?_)|refine w2 ?_|refine w3 ?_| ((first|refine w4 ?_|refine wD ?_|refine w5 ?_|refine w6 ?_|refine w7 ?_);try refine sq F ?_)| (refine w8 ?_;refine sq F ?_;refine w9 ?_)| (refine xq F ?_;try refine sq F ?_)| ((first|refine hK _ _ (w0 ?_)| (clear hK K;refine hK _ _ (w0 ?_))| (clear hK K;clear hK K;refine hK _ _ (w0 ?_)));clear hK K)))
  refine(c1 _ _ _ (by omega)).mono ?_;rintro r h' ⟨rfl,rfl⟩;try refine sq F ?_
  (repeat (first|refine w1 (fun K hK=>?_)|refine w2 ?_|refine w3 ?_| ((first|refine w4 ?_|refine wD ?_|refine w5 ?_|refine w6 ?_|refine w7 ?_);try refine sq F ?_)| (refine w8 ?_;refine sq F ?_;refine w9 ?_)| (refine xq F ?_;try refine sq F ?_)| ((first|refine hK _ _ (w0 ?_)| (clear hK K;refine hK _ _ (w0 ?_))| (clear hK K;clear hK K;refine hK _ _ (w0 ?_)));clear hK K)))
  refine(c2 [62] _ _ _).mono ?_;rintro r h' ⟨rfl,rfl⟩;try refine sq F ?_
  (repeat (first|refine w1 (fun K hK=>?_)|refine w2 ?_|refine w3 ?_| ((first|refine w4 ?_|refine wD ?_|refine w5 ?_|refine w6 ?_|refine w7 ?_);try refine sq F ?_)| (refine w8 ?_;refine sq F ?_;refine w9 ?_)| (refine xq F ?_;try refine sq F ?_)| ((first|refine hK _ _ (w0 ?_)| (clear hK K;refine hK _ _ (w0 ?_))| (clear hK K;clear hK K;refine hK _ _ (w0 ?_)));clear hK K)))
  refine cq F (fun hc1=>?_) (fun hc1=>?_)<;>(try exact hc1.elim)<;>((repeat (first|refine w1 (fun K hK=>?_)|refine w2 ?_|refine w3 ?_| ((first|refine w4 ?_|refine wD ?_|refine w5 ?_|refine w6 ?_|refine w7 ?_);try refine sq F ?_)| (refine w8 ?_;refine sq F ?_;refine w9 ?_)| (refine xq F ?_;try refine sq F ?_)| ((first|refine hK _ _ (w0 ?_)| (clear hK K;refine hK _ _ (w0 ?_))| (clear hK K;clear hK K;refine hK _ _ (w0 ?_)));clear hK K))))
  ·rw[E8 hc1]at hp;refine ee hQ F ?_;rw[← hp];refine cF h j _ _ s _ false rfl ?_;exact FrzRs.hs (by simp(disch:=first|omega| (simp only[go_sem, ↓reduceIte,seval];first|done|omega)|fail) only[go_sem, ↓reduceIte,seval,F];rfl) rfl (by simp(disch:=first|omega| (simp only[go_sem, ↓reduceIte,seval];first|done|omega)|fail) only[go_sem, ↓reduceIte,seval,F];omega) (.cons (nO 1 _ at_ (by simp(disch:=first|omega| (simp only[go_sem, ↓reduceIte,seval];first|done|omega)|fail) only[go_sem, ↓reduceIte,seval,F];rfl) (by simp(disch:=first|omega| (simp only[go_sem, ↓reduceIte,seval];first|done|omega)|fail) only[go_sem, ↓reduceIte,seval,F];omega)) .nil)
  ·rw[E4 (by simp[hc1])]at hp;have htp:Lib.trimPrefix (s1.dropWhile blankB) [62]=s1.dropWhile blankB:=(by unfold Lib.trimPrefix;rw[E4 (by simp[hc1])]);rw[htp];refine(c2 [47,62] _ _ _).mono ?_;rintro r h' ⟨rfl,rfl⟩;(try refine sq F ?_);(repeat (first|refine w1 (fun K hK=>?_)|refine w2 ?_|refine w3 ?_| ((first|refine w4 ?_|refine wD ?_|refine w5 ?_|refine w6 ?_|refine w7 ?_);try refine sq F ?_)| (refine w8 ?_;refine sq F ?_;refine w9 ?_)| (refine xq F ?_;try refine sq F ?_)| ((first|refine hK _ _ (w0 ?_)| (clear hK K;refine hK _ _ (w0 ?_))| (clear hK K;clear hK K;refine hK _ _ (w0 ?_)));clear hK K)))
   refine cq F (fun hc2=>?_) (fun hc2=>?_)<;>(try exact hc2.elim)<;>((repeat (first|refine w1 (fun K hK=>?_)|refine w2 ?_|refine w3 ?_| ((first|refine w4 ?_|refine wD ?_|refine w5 ?_|refine w6 ?_|refine w7 ?_);try refine sq F ?_)| (refine w8 ?_;refine sq F ?_;refine w9 ?_)| (refine xq F ?_;try refine sq F ?_)| ((first|refine hK _ _ (w0 ?_)| (clear hK K;refine hK _ _ (w0 ?_))| (clear hK K;clear hK K;refine hK _ _ (w0 ?_)));clear hK K))))
   ·rw[E8 hc2]at hp;refine ee hQ F ?_;rw[← hp];refine cF h j _ _ s _ false rfl ?_;exact FrzRs.hs (by simp(disch:=first|omega| (simp only[go_sem, ↓reduceIte,seval];first|done|omega)|fail) only[go_sem, ↓reduceIte,seval,F];rfl) rfl (by simp(disch:=first|omega| (simp only[go_sem, ↓reduceIte,seval];first|done|omega)|fail) only[go_sem, ↓reduceIte,seval,F];omega) (.cons (nO 1 _ at_ (by simp(disch:=first|omega| (simp only[go_sem, ↓reduceIte,seval];first|done|omega)|fail) only[go_sem, ↓reduceIte,seval,F];rfl) (by simp(disch:=first|omega| (simp only[go_sem, ↓reduceIte,seval];first|done|omega)|fail) only[go_sem, ↓reduceIte,seval,F];omega)) (.cons (sY 2 _) .nil))
   ·rw[E4 (by simp[hc2])]at hp;have htp2:Lib.trimPrefix (s1.dropWhile blankB) [47,62]=s1.dropWhile blankB:=(by unfold Lib.trimPrefix;rw[E4 (by simp[hc2])]);rw[htp2];refine(c3 _ _ _ (by omega)).mono ?_;rintro r h' ⟨rfl,rfl⟩;(try refine sq F ?_);(repeat (first|refine w1 (fun K hK=>?_)|refine w2 ?_|refine w3 ?_| ((first|refine w4 ?_|refine wD ?_|refine w5 ?_|refine w6 ?_|refine w7 ?_);try refine sq F ?_)| (refine w8 ?_;refine sq F ?_;refine w9 ?_)| (refine xq F ?_;try refine sq F ?_)| ((first|refine hK _ _ (w0 ?_)| (clear hK K;refine hK _ _ (w0 ?_))| (clear hK K;clear hK K;refine hK _ _ (w0 ?_)));clear hK K)))
    have hl:=pj (s1.dropWhile blankB);have hl2:=eD (s1.dropWhile blankB) false;have hl3:=aF moreB (s1.dropWhile blankB)
    change (nameR (s1.dropWhile blankB)).length≤_ at hl3
    generalize attrX (s1.dropWhile blankB) false=x at hp hl hl2 ⊢;obtain⟨a,r,bb⟩:=x;simp only[]at hp hl hl2 ⊢
    skip
    (first|refine gq F (fun g1=>?_) (fun g1=>?_)|refine pq F (fun g1=>?_) (fun g1=>?_))<;>(try exact g1.elim)<;>(try refine sq F ?_)<;>((repeat (first|refine w1 (fun K hK=>?_)|refine w2 ?_|refine w3 ?_| ((first|refine w4 ?_|refine wD ?_|refine w5 ?_|refine w6 ?_|refine w7 ?_);try refine sq F ?_)| (refine w8 ?_;refine sq F ?_;refine w9 ?_)| (refine rq F ?_;try refine sq F ?_)| (refine vq F ?_;try refine sq F ?_)| ((first|refine hK _ _ (w0 ?_)| (clear hK K;refine hK _ _ (w0 ?_))| (clear hK K;clear hK K;refine hK _ _ (w0 ?_)));clear hK K))))
    ·refine aq F ?_;(try refine sq F ?_);(repeat (first|refine w1 (fun K hK=>?_)|refine w2 ?_|refine w3 ?_| ((first|refine w4 ?_|refine wD ?_|refine w5 ?_|refine w6 ?_|refine w7 ?_);try refine sq F ?_)| (refine w8 ?_;refine sq F ?_;refine w9 ?_)| (refine rq F ?_;try refine sq F ?_)| (refine vq F ?_;try refine sq F ?_)| ((first|refine hK _ _ (w0 ?_)| (clear hK K;refine hK _ _ (w0 ?_))| (clear hK K;clear hK K;refine hK _ _ (w0 ?_)));clear hK K)))
     rw[g1,L2,L2,L2]at hp;refine hK2 _ _ _ (H3 ⟨g,v+1,r,true,at_++[a],jj++[.row 79 2 0 [a.av]],rfl,by simp[tkR,atR],?_,?_,by omega,⟨by omega,fun h=>by cases h⟩,hp,fun h=>by cases h⟩) (by omega);all_goals try exact zZz F
    ·rw[g1,N1]at hp;(first|refine gq F (fun g2=>?_) (fun g2=>?_)|refine pq F (fun g2=>?_) (fun g2=>?_))<;>(try exact g2.elim)<;>(try refine sq F ?_)<;>((repeat (first|refine w1 (fun K hK=>?_)|refine w2 ?_|refine w3 ?_| ((first|refine w4 ?_|refine wD ?_|refine w5 ?_|refine w6 ?_|refine w7 ?_);try refine sq F ?_)| (refine w8 ?_;refine sq F ?_;refine w9 ?_)| (refine rq F ?_;try refine sq F ?_)| (refine vq F ?_;try refine sq F ?_)| ((first|refine hK _ _ (w0 ?_)| (clear hK K;refine hK _ _ (w0 ?_))| (clear hK K;clear hK K;refine hK _ _ (w0 ?_)));clear hK K))))
     ·refine aq F ?_;(try refine sq F ?_);(repeat (first|refine w1 (fun K hK=>?_)|refine w2 ?_|refine w3 ?_| ((first|refine w4 ?_|refine wD ?_|refine w5 ?_|refine w6 ?_|refine w7 ?_);try refine sq F ?_)| (refine w8 ?_;refine sq F ?_;refine w9 ?_)| (refine rq F ?_;try refine sq F ?_)| (refine vq F ?_;try refine sq F ?_)| ((first|refine hK _ _ (w0 ?_)| (clear hK K;refine hK _ _ (w0 ?_))| (clear hK K;clear hK K;refine hK _ _ (w0 ?_)));clear hK K)))
      have e:(s1.takeWhile blankB==[])=true:=(by rw[g2];rfl);rw[e,L2,L2]at hp;refine hK2 _ _ _ (H3 ⟨g,v+1,r,true,at_++[a],jj++[.row 79 2 0 [a.av]],rfl,by simp[tkR,atR],?_,?_,by omega,⟨by omega,fun h=>by cases h⟩,hp,fun h=>by cases h⟩) (by omega);all_goals try exact zZz F
     ·have e:(s1.takeWhile blankB==[])=false:=(by simpa using g2);rw[e,N1]at hp;refine(pi G at_ a.1 _ (h.length+(1+(j.length+1))) v (by simp(disch:=first|omega| (simp only[go_sem, ↓reduceIte,seval];first|done|omega)|fail) only[go_sem, ↓reduceIte,seval,F]) (by omega)).mono ?_;rintro r h' ⟨rfl,rfl⟩;(try refine sq F ?_);(repeat (first|refine w1 (fun K hK=>?_)|refine w2 ?_|refine w3 ?_| ((first|refine w4 ?_|refine wD ?_|refine w5 ?_|refine w6 ?_|refine w7 ?_);try refine sq F ?_)| (refine w8 ?_;refine sq F ?_;refine w9 ?_)| (refine rq F ?_;try refine sq F ?_)| (refine vq F ?_;try refine sq F ?_)| ((first|refine hK _ _ (w0 ?_)| (clear hK K;refine hK _ _ (w0 ?_))| (clear hK K;clear hK K;refine hK _ _ (w0 ?_)));clear hK K)))
      (first|refine gq F (fun g3=>?_) (fun g3=>?_)|refine pq F (fun g3=>?_) (fun g3=>?_))<;>(try exact g3.elim)<;>(try refine sq F ?_)<;>((repeat (first|refine w1 (fun K hK=>?_)|refine w2 ?_|refine w3 ?_| ((first|refine w4 ?_|refine wD ?_|refine w5 ?_|refine w6 ?_|refine w7 ?_);try refine sq F ?_)| (refine w8 ?_;refine sq F ?_;refine w9 ?_)| (refine rq F ?_;try refine sq F ?_)| (refine vq F ?_;try refine sq F ?_)| ((first|refine hK _ _ (w0 ?_)| (clear hK K;refine hK _ _ (w0 ?_))| (clear hK K;clear hK K;refine hK _ _ (w0 ?_)));clear hK K))))
      ·refine aq F ?_;(try refine sq F ?_);(repeat (first|refine w1 (fun K hK=>?_)|refine w2 ?_|refine w3 ?_| ((first|refine w4 ?_|refine wD ?_|refine w5 ?_|refine w6 ?_|refine w7 ?_);try refine sq F ?_)| (refine w8 ?_;refine sq F ?_;refine w9 ?_)| (refine rq F ?_;try refine sq F ?_)| (refine vq F ?_;try refine sq F ?_)| ((first|refine hK _ _ (w0 ?_)| (clear hK K;refine hK _ _ (w0 ?_))| (clear hK K;clear hK K;refine hK _ _ (w0 ?_)));clear hK K)))
       rw[g3,L2]at hp;refine hK2 _ _ _ (H3 ⟨g,v+1,r,true,at_++[a],jj++[.row 79 2 0 [a.av]],rfl,by simp[tkR,atR],?_,?_,by omega,⟨by omega,fun h=>by cases h⟩,hp,fun h=>by cases h⟩) (by omega);all_goals try exact zZz F
      ·refine aq F ?_;(try refine sq F ?_);(repeat (first|refine w1 (fun K hK=>?_)|refine w2 ?_|refine w3 ?_| ((first|refine w4 ?_|refine wD ?_|refine w5 ?_|refine w6 ?_|refine w7 ?_);try refine sq F ?_)| (refine w8 ?_;refine sq F ?_;refine w9 ?_)| (refine rq F ?_;try refine sq F ?_)| (refine vq F ?_;try refine sq F ?_)| ((first|refine hK _ _ (w0 ?_)| (clear hK K;refine hK _ _ (w0 ?_))| (clear hK K;clear hK K;refine hK _ _ (w0 ?_)));clear hK K)))
       rw[g3,N1]at hp;refine hK2 _ _ _ (H3 ⟨g,v+1,r,decide (32≤at_.length),at_++[a],jj++[.row 79 2 0 [a.av]],rfl,by simp[tkR,atR,show((32:Int)≤at_.length)↔32≤at_.length from by omega],?_,?_,by omega,⟨by omega,fun h=>by have:=hl g1;omega⟩,hp,fun h=>by simp only[decide_eq_false_iff_not]at h;simp;omega⟩) (by omega);all_goals try exact zZz F
 ·refine ee hQ F ?_;subst hc;obtain⟨g,rfl⟩:∃g,f=g+1:=⟨f-1,by omega⟩;rw[openL,E8 rfl]at hp;rw[← hp];exact cF h j _ _ s _ false rfl (.nils _)
end Go.Av
