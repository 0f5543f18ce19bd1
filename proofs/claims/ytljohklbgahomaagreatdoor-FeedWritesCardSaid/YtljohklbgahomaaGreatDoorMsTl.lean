/- Parts. -/
import Derived.Test.YtljohklbgahomaaGreatDoorMsDz
import Derived.Test.YtljohklbgahomaaGreatDoorMsDj
set_option linter.unusedSimpArgs false
set_option linter.unusedVariables false
set_option linter.unusedSectionVars false
set_option linter.unnecessarySimpa false
set_option maxRecDepth 100000
set_option maxHeartbeats 16000000
namespace Go.Av
open Go Go.Proofs Go.RowKit
attribute [local irreducible] WP WPl WPix Sat
variable {G:Nat→Option (List AVal)}
def prsC(s:Bs):Int:=if (toksF s).2=0 then(if (bldF (toksF s).1).isSome then 0 else 90)else(toksF s).2
def PrsR(h:Heap)(s:Bs)(r:AVal)(h':Heap):Prop:=
 ∃e:Elem,r=.tup [e.av,.int .i64 (prsC s)]∧(∀x,prsC s=0→bldF (toksF s).1=some x→e=x)∧(prsC s≠0→e=⟨[],[],[],[]⟩)∧h'=h
theorem PrsR.bad{h:Heap}{s:Bs}(j:Heap)(c:Int)(e:prsC s=c)(hc:c≠0):Fin h (h++j) (PrsR h s) (.tup [.agg [.str [],.nil (.slice none 0 0),.str [],.nil (.slice none 0 0)],.int .i64 c]):=by
 have z:Frz (h++j) h.length (.agg [.str [],.nil (.slice none 0 0),.str [],.nil (.slice none 0 0)]) (Elem.av ⟨[],[],[],[]⟩):=by
  rw[Elem.av_eq];exact FrzL.agg (.cons (.clo _ (.str _)) (.cons (.nils 2) (.cons (.clo _ (.str _)) (.cons (.nils 4) .nil)))) rfl
 exact U9 (FrzL.tup (.cons z (.cons (.clo _ (.int _ _)) .nil))) ⟨_,by rw[e],(fun x hx=>by rw[e]at hx;exact absurd hx hc),fun _=>rfl,rfl⟩
theorem v7(s:Bs):szs Tok.sz (toksF s).1≤10*s.length:=by
 unfold toksF;split
 ·simp[szs]
 ·have:=vX (s.length+1) s [];simpa [szs]using this
theorem kT(s:Bs):szs Tok.sz (toksF s).1≤655360:=by
 have h:=v7 s;by_cases hs:65536<s.length
 ·unfold toksF;rw[G5 hs];simp[szs]
 ·omega
end Go.Av
namespace Go.Av
open Go Go.Proofs Go.RowKit
attribute [local irreducible] WP WPl WPix Sat
variable (G:Nat→Option (List AVal))
def bA(s:Bs)(i:Nat):Nat:=(s.getD i 0).toNat
theorem vy(s:Bs)(i:Nat):bA s i<256:=UInt8.toNat_lt _
theorem vz{s:Bs}{i:Nat}{c:UInt8}(h:s[i]? =some c):bA s i=c.toNat:=by unfold bA;rw[O2,h];rfl
def Cls(b:Nat)(n:Nat)(r l:Int):Prop:=
 (192≤b∧b<224∧n=2∧r=b-192∧l=128)∨(224≤b∧b<240∧n=3∧r=b-224∧l=2048)∨(240≤b∧b<248∧n=4∧r=b-240∧l=65536)
def accI(s:Bs)(r:Int):Nat→Int
 |0=>r
 |i+1=>accI s r i*64+(bA s (i+1)-128)
theorem lr(s:Bs):dec s 0=Lib.decodeN s.length (bA s 0) (bA s 1) (bA s 2) (bA s 3):=by rw[eg];rfl
theorem jt(s:Bs)(h:(128≤bA s 0∧bA s 0<192)∨248≤bA s 0):dec s 0=(65533,1):=by
 rw[lr];have:=vy s 0;unfold Lib.decodeN;rw[G2 (by omega),G2 (by omega),G2 (by omega),G2 (by omega)]
theorem nU(s:Bs){n:Nat}{r l:Int}(hc:Cls (bA s 0) n r l)(h:s.length<n):dec s 0=(65533,1):=by
 rw[lr];unfold Cls at hc;unfold Lib.decodeN;rw[G2 (by omega),G2 (by omega),G2 (by omega),G2 (by omega)]
theorem qG(s:Bs){n:Nat}{r l:Int}(hc:Cls (bA s 0) n r l)(i:Nat)(h1:1≤i)(h2:i<n)(h:¬(128≤bA s i∧bA s i<192)):dec s 0=(65533,1):=by
 rw[lr];unfold Cls at hc;have:=vy s i;unfold Lib.decodeN;have hi:i=1∨i=2∨i=3:=by omega
 rcases hi with rfl|rfl|rfl<;>rw[G2 (by omega),G2 (by omega),G2 (by omega),G2 (by omega)]
theorem sQ(s:Bs){n:Nat}{r l:Int}(hc:Cls (bA s 0) n r l)(hn:n≤s.length)(ht:∀i,1≤i→i<n→128≤bA s i∧bA s i<192):
  ((accI s r (n-1)<l∨1114111<accI s r (n-1)∨(55296≤accI s r (n-1)∧accI s r (n-1)≤57343))→dec s 0=(65533,1))∧
  (¬(accI s r (n-1)<l∨1114111<accI s r (n-1)∨(55296≤accI s r (n-1)∧accI s r (n-1)≤57343))→((dec s 0).1:Int)=accI s r (n-1)∧(dec s 0).2=n):=by
 rw[lr];unfold Cls at hc;rcases hc with⟨h1,h2,rfl,rfl,rfl⟩| ⟨h1,h2,rfl,rfl,rfl⟩| ⟨h1,h2,rfl,rfl,rfl⟩
 ·have t1:=ht 1 (by omega) (by omega);simp only[accI,Nat.reduceSub,Nat.reduceAdd];unfold Lib.decodeN;rw[G2 (by omega),G5 (by omega)];constructor
  ·intro h;rw[G2 (by omega)]
  ·intro h;rw[G5 (by omega)];dsimp only;refine⟨?_,rfl⟩;omega
 ·have t1:=ht 1 (by omega) (by omega);have t2:=ht 2 (by omega) (by omega);simp only[accI,Nat.reduceSub,Nat.reduceAdd];unfold Lib.decodeN;rw[G2 (by omega),G2 (by omega),G5 (by omega)];constructor
  ·intro h;rw[G2 (by omega)]
  ·intro h;rw[G5 (by omega)];dsimp only;refine⟨?_,rfl⟩;omega
 ·have t1:=ht 1 (by omega) (by omega);have t2:=ht 2 (by omega) (by omega);have t3:=ht 3 (by omega) (by omega);simp only[accI,Nat.reduceSub,Nat.reduceAdd];unfold Lib.decodeN;rw[G2 (by omega),G2 (by omega),G2 (by omega),G5 (by omega)];constructor
  ·intro h;rw[G2 (by omega)]
  ·intro h;rw[G5 (by omega)];dsimp only;refine⟨?_,rfl⟩;omega
theorem sR(b:UInt8)(h:Heap):Sat (CT G) 135 [.int .u8 b.toNat] h (fun r h'=>r=.bool (decide (128≤b.toNat∧b.toNat<192))∧h'=h):=by
 refine sb [.tmp 2] Tryz.func135 ?_;intro Q hQ;refine wk trivial ?_;(first|refine gq trivial (fun g1=>?_) (fun g1=>?_)|refine pq trivial (fun g1=>?_) (fun g1=>?_))<;>(try exact g1.elim)<;>(try refine sq trivial ?_)<;>(refine wk trivial ?_)
 ·refine ee hQ trivial ?_;refine fR (.bool _) ?_;congr 1
  rw[N8];simp;omega
 ·refine ee hQ trivial ?_;refine fR (.bool _) ?_;rw[H3 (by omega)]
theorem v8(k:IntKind)(n:Int)(h0:0≤n)(h1:n<256):aconv Tryz.prog 5 21 (.int k n)=some (.int .i32 n):=by simp only[aconv,go_sem,cJ (x:=n) (by omega) (by omega)]
theorem kU(s:Bs)(hne:s≠ [])(hs:s.length≤1073741824)(h:Heap):Sat (CT G) 95 [.str s] h (fun r h'=>r=.tup [.int .i32 (dec s 0).1,.int .i64 (dec s 0).2]∧h'=h):=by
 have hpos:0<s.length:=N6.2 hne;obtain⟨b,hb,_⟩:=aj hpos;have hbA:=vz hb;have hb256:=b.toNat_lt;have fin:∀c w:Int,((dec s 0).1:Int)=c→((dec s 0).2:Int)=w→Fin h h (fun r h'=>r=.tup [.int .i32 (dec s 0).1,.int .i64 (dec s 0).2]∧h'=h) (.tup [.int .i32 c,.int .i64 w]):=fun c w e1 e2=>by
  rw[e1,e2];exact J9 (.tup _ (by intro c hc;simp at hc;rcases hc with rfl|rfl<;>exact .int _ _)) ⟨rfl,rfl⟩
 have bad:dec s 0=(65533,1)→Fin h h (fun r h'=>r=.tup [.int .i32 (dec s 0).1,.int .i64 (dec s 0).2]∧h'=h) (.tup [.int .i32 65533,.int .i64 1]):=fun e=>fin _ _ (by rw[e];rfl) (by rw[e];rfl)
 have F:=F4 @v8 @kI @cJ hb;refine sb [.tmp 2,.tmp 3] Tryz.func95 ?_;intro Q hQ;(repeat (first|refine w1 (fun K hK=>?_)|refine w2 ?_|refine w3 ?_| ((first|refine w4 ?_|refine wD ?_|refine w5 ?_|refine w6 ?_|refine w7 ?_);try refine sq F ?_)| (refine w8 ?_;refine sq F ?_;refine w9 ?_)| ((first|refine hK _ _ (w0 ?_)| (clear hK K;refine hK _ _ (w0 ?_))| (clear hK K;clear hK K;refine hK _ _ (w0 ?_)));clear hK K)))
 refine cq F (fun c1=>?_) (fun c1=>?_)<;>(try exact c1.elim)<;>((repeat (first|refine w1 (fun K hK=>?_)|refine w2 ?_|refine w3 ?_| ((first|refine w4 ?_|refine wD ?_|refine w5 ?_|refine w6 ?_|refine w7 ?_);try refine sq F ?_)| (refine w8 ?_;refine sq F ?_;refine w9 ?_)| ((first|refine hK _ _ (w0 ?_)| (clear hK K;refine hK _ _ (w0 ?_))| (clear hK K;clear hK K;refine hK _ _ (w0 ?_)));clear hK K))))
 ·refine ee hQ F ?_;have e:=cI s 0 b hb (by omega);exact fin _ _ (by rw[e]) (by rw[e];rfl)
 rename_i K0 hK0;have tail:∀(t':Env) (n:Nat) (r l:Int),Cls (bA s 0) n r l→t' 0=.str s→t' 5=.int .i64 n→t' 6=.int .i32 r→t' 7=.int .i32 l→K0 t' h:=by
  intro t' n r l hc e0 e5 e6 e7;refine hK0 _ _ (H5 ?_);clear hK0 K0 hK K;have F:=F5 F e0 e5 e6 e7;(repeat (first|refine w1 (fun K hK=>?_)|refine w2 ?_|refine w3 ?_| ((first|refine w4 ?_|refine wD ?_|refine w5 ?_|refine w6 ?_|refine w7 ?_);try refine sq F ?_)| (refine w8 ?_;refine sq F ?_;refine w9 ?_)| ((first|refine hK _ _ (w0 ?_)| (clear hK K;refine hK _ _ (w0 ?_))| (clear hK K;clear hK K;refine hK _ _ (w0 ?_)));clear hK K)))
  refine cq F (fun c2=>?_) (fun c2=>?_)<;>(try exact c2.elim)<;>((repeat (first|refine w1 (fun K hK=>?_)|refine w2 ?_|refine w3 ?_| ((first|refine w4 ?_|refine wD ?_|refine w5 ?_|refine w6 ?_|refine w7 ?_);try refine sq F ?_)| (refine w8 ?_;refine sq F ?_;refine w9 ?_)| ((first|refine hK _ _ (w0 ?_)| (clear hK K;refine hK _ _ (w0 ?_))| (clear hK K;clear hK K;refine hK _ _ (w0 ?_)));clear hK K))))
  ·refine ee hQ F ?_;exact bad (nU s hc (by omega))
  have hc':=hc;unfold Cls at hc';refine lm (fun nL tL hL=>∃(i:Nat) (q:Int),n-i=nL∧h=hL∧tL 6=.int .i32 q∧tL 8=.int .i64 i∧(1≤i∧i≤n)∧q=accI s r (i-1)∧(0≤q∧(i=1→q<32)∧(i=2→q<2048)∧(i=3→q<131072)∧(i=4→q<8388608))∧(∀j,1≤j→j<i→128≤bA s j∧bA s j<192)) ((fun(i:Nat) (q:Int)=>(n-i:Nat)) (1) (r)) ?_ ?_
  ·refine H5 ⟨1,r,rfl,aw,?_,?_,⟨by omega,by omega⟩,rfl,⟨by omega,by omega,by omega,by omega,by omega⟩,fun j h1 h2=>by omega⟩;all_goals try exact zZz F
  rintro _ s1 h' ⟨i,q,rfl,rfl,e6,e8,hi,hq,hb,ht⟩ K1 hK1;simp only[am,ar,Nat.reduceEqDiff, ↓reduceIte]at e6 e8;have F:=F3 F e6 e8;(repeat (first|refine w1 (fun K hK=>?_)|refine w2 ?_|refine w3 ?_| ((first|refine w4 ?_|refine wD ?_|refine w5 ?_|refine w6 ?_|refine w7 ?_);try refine sq F ?_)| (refine w8 ?_;refine sq F ?_;refine w9 ?_)| ((first|refine hK _ _ (w0 ?_)| (clear hK K;refine hK _ _ (w0 ?_))| (clear hK K;clear hK K;refine hK _ _ (w0 ?_)));clear hK K)))
  refine cq F (fun c3=>?_) (fun c3=>?_)<;>(try exact c3.elim)<;>((repeat (first|refine w1 (fun K hK=>?_)|refine w2 ?_|refine w3 ?_| ((first|refine w4 ?_|refine wD ?_|refine w5 ?_|refine w6 ?_|refine w7 ?_);try refine sq F ?_)| (refine w8 ?_;refine sq F ?_;refine w9 ?_)| ((first|refine hK _ _ (w0 ?_)| (clear hK K;refine hK _ _ (w0 ?_))| (clear hK K;clear hK K;refine hK _ _ (w0 ?_)));clear hK K))))
  ·obtain⟨y,hy,_⟩:=aj (show i<s.length by omega);have hyA:=vz hy;have hy256:=y.toNat_lt;have F:=F2 F hy;(try refine sq F ?_);(repeat (first|refine w1 (fun K hK=>?_)|refine w2 ?_|refine w3 ?_| ((first|refine w4 ?_|refine wD ?_|refine w5 ?_|refine w6 ?_|refine w7 ?_);try refine sq F ?_)| (refine w8 ?_;refine sq F ?_;refine w9 ?_)| ((first|refine hK _ _ (w0 ?_)| (clear hK K;refine hK _ _ (w0 ?_))| (clear hK K;clear hK K;refine hK _ _ (w0 ?_)));clear hK K)))
   refine(sR G y _).mono ?_;rintro r h' ⟨rfl,rfl⟩;(try refine sq F ?_);(repeat (first|refine w1 (fun K hK=>?_)|refine w2 ?_|refine w3 ?_| ((first|refine w4 ?_|refine wD ?_|refine w5 ?_|refine w6 ?_|refine w7 ?_);try refine sq F ?_)| (refine w8 ?_;refine sq F ?_;refine w9 ?_)| ((first|refine hK _ _ (w0 ?_)| (clear hK K;refine hK _ _ (w0 ?_))| (clear hK K;clear hK K;refine hK _ _ (w0 ?_)));clear hK K)))
   refine cq F (fun c4=>?_) (fun c4=>?_)<;>(try exact c4.elim)<;>((repeat (first|refine w1 (fun K hK=>?_)|refine w2 ?_|refine w3 ?_| ((first|refine w4 ?_|refine wD ?_|refine w5 ?_|refine w6 ?_|refine w7 ?_);try refine sq F ?_)| (refine w8 ?_;refine sq F ?_;refine w9 ?_)| ((first|refine hK _ _ (w0 ?_)| (clear hK K;refine hK _ _ (w0 ?_))| (clear hK K;clear hK K;refine hK _ _ (w0 ?_)));clear hK K))))
   ·refine ee hQ F ?_;exact bad (qG s hc i hi.1 c3 (by rw[hyA];omega))
   ·have hacc:accI s r i=accI s r (i-1)*64+(bA s i-128):=by
     obtain⟨k,rfl⟩:∃k,i=k+1:=⟨i-1,by omega⟩;rfl
    have hi4:i=1∨i=2∨i=3:=(by omega);have ht':∀j,1≤j→j<i+1→128≤bA s j∧bA s j<192:=fun j h1 h2=>by
     rcases P6 j i with h3|h3
     ·exact ht j h1 h3
     ·obtain rfl:j=i:=by omega
      rw[hyA];omega
    have hq':q*64+((y.toNat:Int)-128)=accI s r (i+1-1):=(by rw[Nat.add_sub_cancel,hacc, ← hq,hyA]);(try refine sq F ?_);(repeat (first|refine w1 (fun K hK=>?_)|refine w2 ?_|refine w3 ?_| ((first|refine w4 ?_|refine wD ?_|refine w5 ?_|refine w6 ?_|refine w7 ?_);try refine sq F ?_)| (refine w8 ?_;refine sq F ?_;refine w9 ?_)| ((first|refine hK _ _ (w0 ?_)| (clear hK K;refine hK _ _ (w0 ?_))| (clear hK K;clear hK K;refine hK _ _ (w0 ?_)));clear hK K)))
    refine hK1 _ _ _ (H5 ⟨i+1,q*64+(y.toNat-128),rfl,aw,?_,?_,⟨by omega,by omega⟩,hq',by omega,ht'⟩) (by omega);all_goals try exact zZz F
  ·have hin:i=n:=(by omega);subst hin;obtain⟨f1,f2⟩:=sQ s hc (by omega) ht;rw[← hq]at f1 f2;(try refine sq F ?_);(repeat (first|refine w1 (fun K hK=>?_)|refine w2 ?_|refine w3 ?_| ((first|refine w4 ?_|refine wD ?_|refine w5 ?_|refine w6 ?_|refine w7 ?_);try refine sq F ?_)| (refine w8 ?_;refine sq F ?_;refine w9 ?_)| ((first|refine hK _ _ (w0 ?_)| (clear hK K;refine hK _ _ (w0 ?_))| (clear hK K;clear hK K;refine hK _ _ (w0 ?_)));clear hK K)))
   (first|refine gq F (fun g1=>?_) (fun g1=>?_)|refine pq F (fun g1=>?_) (fun g1=>?_))<;>(try exact g1.elim)<;>(try refine sq F ?_)<;>((repeat (first|refine w1 (fun K hK=>?_)|refine w2 ?_|refine w3 ?_| ((first|refine w4 ?_|refine wD ?_|refine w5 ?_|refine w6 ?_|refine w7 ?_);try refine sq F ?_)| (refine w8 ?_;refine sq F ?_;refine w9 ?_)| ((first|refine hK _ _ (w0 ?_)| (clear hK K;refine hK _ _ (w0 ?_))| (clear hK K;clear hK K;refine hK _ _ (w0 ?_)));clear hK K))))
   ·refine ee hQ F ?_;exact bad (f1 (by omega))
   ·(first|refine gq F (fun g2=>?_) (fun g2=>?_)|refine pq F (fun g2=>?_) (fun g2=>?_))<;>(try exact g2.elim)<;>(try refine sq F ?_)<;>((repeat (first|refine w1 (fun K hK=>?_)|refine w2 ?_|refine w3 ?_| ((first|refine w4 ?_|refine wD ?_|refine w5 ?_|refine w6 ?_|refine w7 ?_);try refine sq F ?_)| (refine w8 ?_;refine sq F ?_;refine w9 ?_)| ((first|refine hK _ _ (w0 ?_)| (clear hK K;refine hK _ _ (w0 ?_))| (clear hK K;clear hK K;refine hK _ _ (w0 ?_)));clear hK K))))
    ·refine ee hQ F ?_;exact bad (f1 (by omega))
    ·(first|refine gq F (fun g3=>?_) (fun g3=>?_)|refine pq F (fun g3=>?_) (fun g3=>?_))<;>(try exact g3.elim)<;>(try refine sq F ?_)<;>((repeat (first|refine w1 (fun K hK=>?_)|refine w2 ?_|refine w3 ?_| ((first|refine w4 ?_|refine wD ?_|refine w5 ?_|refine w6 ?_|refine w7 ?_);try refine sq F ?_)| (refine w8 ?_;refine sq F ?_;refine w9 ?_)| ((first|refine hK _ _ (w0 ?_)| (clear hK K;refine hK _ _ (w0 ?_))| (clear hK K;clear hK K;refine hK _ _ (w0 ?_)));clear hK K))))
     ·refine cq F (fun g4=>?_) (fun g4=>?_)<;>(try exact g4.elim)<;>((repeat (first|refine w1 (fun K hK=>?_)|refine w2 ?_|refine w3 ?_| ((first|refine w4 ?_|refine wD ?_|refine w5 ?_|refine w6 ?_|refine w7 ?_);try refine sq F ?_)| (refine w8 ?_;refine sq F ?_;refine w9 ?_)| ((first|refine hK _ _ (w0 ?_)| (clear hK K;refine hK _ _ (w0 ?_))| (clear hK K;clear hK K;refine hK _ _ (w0 ?_)));clear hK K))))
      ·refine ee hQ F ?_;exact bad (f1 (by omega))
      ·refine ee hQ F ?_;exact fin _ _ (f2 (by omega)).1 (by rw[(f2 (by omega)).2])
     ·refine ee hQ F ?_;exact fin _ _ (f2 (by omega)).1 (by rw[(f2 (by omega)).2])
 (first|refine gq F (fun g1=>?_) (fun g1=>?_)|refine pq F (fun g1=>?_) (fun g1=>?_))<;>(try exact g1.elim)<;>(try refine sq F ?_)<;>((repeat (first|refine w1 (fun K hK=>?_)|refine w2 ?_|refine w3 ?_| ((first|refine w4 ?_|refine wD ?_|refine w5 ?_|refine w6 ?_|refine w7 ?_);try refine sq F ?_)| (refine w8 ?_;refine sq F ?_;refine w9 ?_)| ((first|refine hK _ _ (w0 ?_)| (clear hK K;refine hK _ _ (w0 ?_))| (clear hK K;clear hK K;refine hK _ _ (w0 ?_)));clear hK K))))
 ·refine cq F (fun g2=>?_) (fun g2=>?_)<;>(try exact g2.elim)<;>((repeat (first|refine w1 (fun K hK=>?_)|refine w2 ?_|refine w3 ?_| ((first|refine w4 ?_|refine wD ?_|refine w5 ?_|refine w6 ?_|refine w7 ?_);try refine sq F ?_)| (refine w8 ?_;refine sq F ?_;refine w9 ?_)| ((first|refine hK _ _ (w0 ?_)| (clear hK K;refine hK _ _ (w0 ?_))| (clear hK K;clear hK K;refine hK _ _ (w0 ?_)));clear hK K))))
  ·refine tail _ 2 (b.toNat-192) 128 ?_ ?_ ?_ ?_ ?_
   ·unfold Cls;omega
   ·exact zq F
   ·exact zq F
   ·exact zq F
   ·exact zq F
  ·(first|refine gq F (fun g3=>?_) (fun g3=>?_)|refine pq F (fun g3=>?_) (fun g3=>?_))<;>(try exact g3.elim)<;>(try refine sq F ?_)<;>((repeat (first|refine w1 (fun K hK=>?_)|refine w2 ?_|refine w3 ?_| ((first|refine w4 ?_|refine wD ?_|refine w5 ?_|refine w6 ?_|refine w7 ?_);try refine sq F ?_)| (refine w8 ?_;refine sq F ?_;refine w9 ?_)| ((first|refine hK _ _ (w0 ?_)| (clear hK K;refine hK _ _ (w0 ?_))| (clear hK K;clear hK K;refine hK _ _ (w0 ?_)));clear hK K))))
   ·refine cq F (fun g4=>?_) (fun g4=>?_)<;>(try exact g4.elim)<;>((repeat (first|refine w1 (fun K hK=>?_)|refine w2 ?_|refine w3 ?_| ((first|refine w4 ?_|refine wD ?_|refine w5 ?_|refine w6 ?_|refine w7 ?_);try refine sq F ?_)| (refine w8 ?_;refine sq F ?_;refine w9 ?_)| ((first|refine hK _ _ (w0 ?_)| (clear hK K;refine hK _ _ (w0 ?_))| (clear hK K;clear hK K;refine hK _ _ (w0 ?_)));clear hK K))))
    ·refine tail _ 3 (b.toNat-224) 2048 ?_ ?_ ?_ ?_ ?_
     ·unfold Cls;omega
     ·exact zq F
     ·exact zq F
     ·exact zq F
     ·exact zq F
    ·(first|refine gq F (fun g5=>?_) (fun g5=>?_)|refine pq F (fun g5=>?_) (fun g5=>?_))<;>(try exact g5.elim)<;>(try refine sq F ?_)<;>((repeat (first|refine w1 (fun K hK=>?_)|refine w2 ?_|refine w3 ?_| ((first|refine w4 ?_|refine wD ?_|refine w5 ?_|refine w6 ?_|refine w7 ?_);try refine sq F ?_)| (refine w8 ?_;refine sq F ?_;refine w9 ?_)| ((first|refine hK _ _ (w0 ?_)| (clear hK K;refine hK _ _ (w0 ?_))| (clear hK K;clear hK K;refine hK _ _ (w0 ?_)));clear hK K))))
     ·refine cq F (fun g6=>?_) (fun g6=>?_)<;>(try exact g6.elim)<;>((repeat (first|refine w1 (fun K hK=>?_)|refine w2 ?_|refine w3 ?_| ((first|refine w4 ?_|refine wD ?_|refine w5 ?_|refine w6 ?_|refine w7 ?_);try refine sq F ?_)| (refine w8 ?_;refine sq F ?_;refine w9 ?_)| ((first|refine hK _ _ (w0 ?_)| (clear hK K;refine hK _ _ (w0 ?_))| (clear hK K;clear hK K;refine hK _ _ (w0 ?_)));clear hK K))))
      ·refine tail _ 4 (b.toNat-240) 65536 ?_ ?_ ?_ ?_ ?_
       ·unfold Cls;omega
       ·exact zq F
       ·exact zq F
       ·exact zq F
       ·exact zq F
      ·refine ee hQ F ?_;exact bad (jt s (by omega))
     ·exfalso;omega
   ·exfalso;omega
 ·(first|refine gq F (fun g3=>?_) (fun g3=>?_)|refine pq F (fun g3=>?_) (fun g3=>?_))<;>(try exact g3.elim)<;>(try refine sq F ?_)<;>((repeat (first|refine w1 (fun K hK=>?_)|refine w2 ?_|refine w3 ?_| ((first|refine w4 ?_|refine wD ?_|refine w5 ?_|refine w6 ?_|refine w7 ?_);try refine sq F ?_)| (refine w8 ?_;refine sq F ?_;refine w9 ?_)| ((first|refine hK _ _ (w0 ?_)| (clear hK K;refine hK _ _ (w0 ?_))| (clear hK K;clear hK K;refine hK _ _ (w0 ?_)));clear hK K))))
  ·exfalso;omega
  ·(first|refine gq F (fun g5=>?_) (fun g5=>?_)|refine pq F (fun g5=>?_) (fun g5=>?_))<;>(try exact g5.elim)<;>(try refine sq F ?_)<;>((repeat (first|refine w1 (fun K hK=>?_)|refine w2 ?_|refine w3 ?_| ((first|refine w4 ?_|refine wD ?_|refine w5 ?_|refine w6 ?_|refine w7 ?_);try refine sq F ?_)| (refine w8 ?_;refine sq F ?_;refine w9 ?_)| ((first|refine hK _ _ (w0 ?_)| (clear hK K;refine hK _ _ (w0 ?_))| (clear hK K;clear hK K;refine hK _ _ (w0 ?_)));clear hK K))))
   ·exfalso;omega
   ·refine ee hQ F ?_;exact bad (jt s (by omega))
theorem va:∀(l:List Int),∀r∈l.map runA,∀c∈r.cells,c.sto=true:=fun l r hr c hc=>by
 obtain⟨a,_,rfl⟩:=K6.1 hr;simp[runA,AVal.cells]at hc;subst hc;rfl
theorem vb:∀(n:Nat) (l:List Int),∀r∈l.map runA,Clo n r:=fun n l r hr=>by
 obtain⟨a,_,rfl⟩:=K6.1 hr;exact .int _ _
theorem Frz.runes{h:Heap}{n q v e:Nat}{l:List Int}{len:Nat}{room:Bool}(hq:n≤q)(hg:getRow h q v=some (e,1,l.map runA))(hlen:len=l.length):Frz h n (.hs q v 0 len room) (.sl 1 (l.map runA)):=
 Frz.data hq hg (by simpa using hlen) (fun r hr=>vb _ l r hr) (fun r hr=>va l r hr)
theorem sS(s:Bs)(hs:s.length≤1048576)(h:Heap):Sat (CT G) 96 [.str s] h (fun r h'=>r=.sl 1 ((runesF s).map runA)∧h'=h):=by
 refine sb [.tmp 2] Tryz.func96 ?_;intro Q hQ;refine wk trivial ?_;refine lm (fun nL tL hL=>∃(k v:Nat) (acc:List Int),s.length-k=nL∧h++[.row 21 1 v (acc.map runA)]=hL∧tL 0=.str (s.drop k)∧tL 3=.hs h.length v 0 acc.length true∧k≤s.length∧acc.length≤k∧acc++runesF (s.drop k)=runesF s) ((fun(k v:Nat) (acc:List Int)=>(s.length-k:Nat)) (0) (0) ([])) ?_ ?_
 ·refine⟨_,_,Weak.virt 3 21 1 (by simp) (by omega) (by exact zq trivial),⟨0,0,[],rfl,aw,?_,?_,?_,?_,?_⟩⟩;all_goals try exact zZz trivial
 rintro _ s2 h' ⟨k,v,acc,rfl,rfl,e0,e3,hk,hl,hp⟩ K2 hK2;simp only[am,ar,Nat.reduceEqDiff, ↓reduceIte]at e0 e3;have F:=F2 e0 e3;refine wk F ?_;refine cq F (fun c1=>?_) (fun c1=>?_)<;>(try exact c1.elim)<;>(refine wk F ?_)
 ·simp only[L4]at c1;have hlt:k<s.length:=by omega
  have hp2:=aQ s k hlt;rw[kC s k hlt]at hp;have hne:s.drop k≠ []:=by intro e;have:=I8 List.length e;simp at this;omega
  refine(kU G (s.drop k) hne (by simp;omega) _).mono ?_;rintro r h' ⟨rfl,rfl⟩;rw[← de];generalize dec s k=d at*;obtain⟨c,m⟩:=d;simp only[]at hp hp2 ⊢;have hsl:m≤(s.drop k).length:=by simp;omega
  have hdd:(s.drop k).drop m=s.drop (k+m):=Q8 ..;have F:=F3 F hsl hdd;try refine sq F ?_
  refine wk F ?_;refine aq F ?_;try refine sq F ?_
  refine wk F ?_;refine hK2 _ _ _ (H5 ⟨k+m,v+1,acc++[(c:Int)],rfl,aw,?_,?_,by omega,by simp;omega,by rw[← hp];simp⟩) (by omega);all_goals try exact zZz F
 ·simp only[L4]at c1;rw[jb s k (by omega),J3]at hp;refine wk F ?_;refine ee hQ F ?_;rw[← hp];exact U9 (Frz.runes (H6 _) (by simp[getRow];rfl) rfl) ⟨rfl,rfl⟩
theorem qH(c:Int)(h:Heap):Sat (CT G) 97 [.int .i32 c] h (fun r h'=>r=.bool (blankR c)∧h'=h):=by
 have yes:(c=9∨c=10∨c=13∨c=32∨c=160∨c=8232∨c=8233∨c=12288)→blankR c=true:=fun h=>H0 h
 have no:¬(c=9∨c=10∨c=13∨c=32∨c=160∨c=8232∨c=8233∨c=12288)→blankR c=false:=fun h=>H3 h
 refine sb [.tmp 2] Tryz.func97 ?_;intro Q hQ;refine wk trivial ?_;(first|refine gq trivial (fun g0=>?_) (fun g0=>?_)|refine pq trivial (fun g0=>?_) (fun g0=>?_))<;>(try exact g0.elim)<;>(try refine sq trivial ?_)<;>(refine wk trivial ?_)
 ·refine ee hQ trivial ?_;refine fR (.bool _) ?_;rw[yes (by omega)]
 ·(first|refine gq trivial (fun g1=>?_) (fun g1=>?_)|refine pq trivial (fun g1=>?_) (fun g1=>?_))<;>(try exact g1.elim)<;>(try refine sq trivial ?_)<;>(refine wk trivial ?_)
  ·refine ee hQ trivial ?_;refine fR (.bool _) ?_;rw[yes (by omega)]
  ·(first|refine gq trivial (fun g2=>?_) (fun g2=>?_)|refine pq trivial (fun g2=>?_) (fun g2=>?_))<;>(try exact g2.elim)<;>(try refine sq trivial ?_)<;>(refine wk trivial ?_)
   ·refine ee hQ trivial ?_;refine fR (.bool _) ?_;rw[yes (by omega)]
   ·(first|refine gq trivial (fun g3=>?_) (fun g3=>?_)|refine pq trivial (fun g3=>?_) (fun g3=>?_))<;>(try exact g3.elim)<;>(try refine sq trivial ?_)<;>(refine wk trivial ?_)
    ·refine ee hQ trivial ?_;refine fR (.bool _) ?_;rw[yes (by omega)]
    ·(first|refine gq trivial (fun g4=>?_) (fun g4=>?_)|refine pq trivial (fun g4=>?_) (fun g4=>?_))<;>(try exact g4.elim)<;>(try refine sq trivial ?_)<;>(refine wk trivial ?_)
     ·refine ee hQ trivial ?_;refine fR (.bool _) ?_;rw[yes (by omega)]
     ·(first|refine gq trivial (fun g5=>?_) (fun g5=>?_)|refine pq trivial (fun g5=>?_) (fun g5=>?_))<;>(try exact g5.elim)<;>(try refine sq trivial ?_)<;>(refine wk trivial ?_)
      ·refine ee hQ trivial ?_;refine fR (.bool _) ?_;rw[yes (by omega)]
      ·(first|refine gq trivial (fun g6=>?_) (fun g6=>?_)|refine pq trivial (fun g6=>?_) (fun g6=>?_))<;>(try exact g6.elim)<;>(try refine sq trivial ?_)<;>(refine wk trivial ?_)
       ·refine ee hQ trivial ?_;refine fR (.bool _) ?_;rw[yes (by omega)]
       ·refine ee hQ trivial ?_;refine fR (.bool _) ?_;congr 1
        rw[N8];by_cases h8:c=12288
        ·rw[yes (by omega)];simp[h8]
        ·rw[no (by omega)];simp[h8]
theorem qI(s:Bs)(hs:s.length≤1048576)(h:Heap):Sat (CT G) 63 [.str s] h (fun r h'=>r=.bool (rightS s)∧h'=h):=by
 refine sb [.tmp 2] Tryz.func63 ?_;intro Q hQ;refine wk trivial ?_;refine lm (fun nL tL hL=>∃(k:Nat),s.length-k=nL∧h=hL∧tL 0=.str (s.drop k)∧k≤s.length∧rightS (s.drop k)=rightS s) ((fun(k:Nat)=>(s.length-k:Nat)) (0)) ?_ ?_
 ·refine H5 ⟨0,rfl,aw,?_,by omega,rfl⟩;all_goals try exact zZz trivial
 rintro _ s2 h' ⟨k,rfl,rfl,e0,hk,hc⟩ K2 hK2;simp only[am,ar,Nat.reduceEqDiff, ↓reduceIte]at e0;have F:=e0;refine wk F ?_;refine cq F (fun c1=>?_) (fun c1=>?_)<;>(try exact c1.elim)<;>(refine wk F ?_)
 ·simp only[L4]at c1;have hlt:k<s.length:=by omega
  have hp2:=aQ s k hlt;have hca:=kD s k hlt;have hne:s.drop k≠ []:=by intro e;have:=I8 List.length e;simp at this;omega
  rw[hc]at hca;refine(kU G (s.drop k) hne (by simp;omega) _).mono ?_;rintro r h' ⟨rfl,rfl⟩;rw[← de];generalize dec s k=d at*;obtain⟨c,m⟩:=d;simp only[]at hp2 hca ⊢;have hsl:m≤(s.drop k).length:=by simp;omega
  have hdd:(s.drop k).drop m=s.drop (k+m):=Q8 ..;have F:=F3 F hsl hdd;try refine sq F ?_
  refine wk F ?_;(first|refine gq F (fun g1=>?_) (fun g1=>?_)|refine pq F (fun g1=>?_) (fun g1=>?_))<;>(try exact g1.elim)<;>(try refine sq F ?_)<;>(refine wk F ?_)
  ·refine cq F (fun g2=>?_) (fun g2=>?_)<;>(try exact g2.elim)<;>(refine wk F ?_)
   ·refine ee hQ F ?_;refine fR (.bool _) ?_;rw[hca,G5 (by omega)]
   ·refine hK2 _ _ _ (H5 ⟨k+m,rfl,aw,?_,by omega,by rw[hca,G2 (by omega)]⟩) (by omega);all_goals try exact zZz F
  ·refine hK2 _ _ _ (H5 ⟨k+m,rfl,aw,?_,by omega,by rw[hca,G2 (by omega)]⟩) (by omega);all_goals try exact zZz F
 ·simp only[L4]at c1;rw[O5 (by omega)]at hc;refine wk F ?_;refine ee hQ F ?_;refine fR (.bool _) ?_;rw[← hc];rfl
theorem qJ(s:Bs)(hs:s.length≤100000)(h:Heap):Sat (CT G) 64 [.str s] h (fun r h'=>r=.str (cleanF s)∧h'=h):=by
 have hll:=jc s.length s (H6 _);have hrl:=nB s.length s (H6 _);have hcl:=eY (runesF s) [] false hrl (by simp);have hdef:clnR (runesF s) [] false=cleanR s:=rfl;have hcf:encs (cleanR s)=cleanF s:=rfl;refine sb [.tmp 2] Tryz.func64 ?_;intro Q hQ;(repeat (first|refine w1 (fun K hK=>?_)|refine w2 ?_|refine w3 ?_| ((first|refine w4 ?_|refine wD ?_|refine w5 ?_|refine w6 ?_|refine w7 ?_);try refine sq trivial ?_)| (refine w8 ?_;refine sq trivial ?_;refine w9 ?_)| (refine rq trivial ?_;try refine sq trivial ?_)| (refine vq trivial ?_;try refine sq trivial ?_)| ((first|refine hK _ _ (w0 ?_)| (clear hK K;refine hK _ _ (w0 ?_))| (clear hK K;clear hK K;refine hK _ _ (w0 ?_)));clear hK K)))
 refine(sS G s (by omega) _).mono ?_;rintro r h' ⟨rfl,hk_⟩;replace hk_:=hk_.symm;subst hk_;try refine sq trivial ?_
 (repeat (first|refine w1 (fun K hK=>?_)|refine w2 ?_|refine w3 ?_| ((first|refine w4 ?_|refine wD ?_|refine w5 ?_|refine w6 ?_|refine w7 ?_);try refine sq trivial ?_)| (refine w8 ?_;refine sq trivial ?_;refine w9 ?_)| (refine rq trivial ?_;try refine sq trivial ?_)| (refine vq trivial ?_;try refine sq trivial ?_)| ((first|refine hK _ _ (w0 ?_)| (clear hK K;refine hK _ _ (w0 ?_))| (clear hK K;clear hK K;refine hK _ _ (w0 ?_)));clear hK K)))
 generalize runesF s=l at*;have hlm:(l.map runA).length=l.length:=I7 ..;have F:=hlm;refine lm (fun nL tL hL=>∃(k v:Nat) (acc:List Int) (w:Bool),l.length-k=nL∧h++[.row 21 1 v (acc.map runA)]=hL∧tL 4=.hs h.length v 0 acc.length true∧tL 5=.bool w∧tL 6=.int .i64 k∧k≤l.length∧clnR (l.drop k) acc w=cleanR s∧acc.length≤2*k) ((fun(k v:Nat) (acc:List Int) (w:Bool)=>(l.length-k:Nat)) (0) (0) ([]) (false)) ?_ ?_
 ·refine⟨_,_,Weak.virt 4 21 1 (by simp) (by omega) (by exact zq F),⟨0,0,[],false,rfl,aw,?_,?_,?_,by omega,hdef,by simp⟩⟩;all_goals try exact zZz F
 rintro _ s2 h' ⟨k,v,acc,w,rfl,rfl,e4,e5,e6,hk,hv,hl⟩ K2 hK2;simp only[am,ar,Nat.reduceEqDiff, ↓reduceIte]at e4 e5 e6;have F:=F4 F e4 e5 e6;(repeat (first|refine w1 (fun K hK=>?_)|refine w2 ?_|refine w3 ?_| ((first|refine w4 ?_|refine wD ?_|refine w5 ?_|refine w6 ?_|refine w7 ?_);try refine sq F ?_)| (refine w8 ?_;refine sq F ?_;refine w9 ?_)| (refine rq F ?_;try refine sq F ?_)| (refine vq F ?_;try refine sq F ?_)| ((first|refine hK _ _ (w0 ?_)| (clear hK K;refine hK _ _ (w0 ?_))| (clear hK K;clear hK K;refine hK _ _ (w0 ?_)));clear hK K)))
 refine cq F (fun c1=>?_) (fun c1=>?_)<;>(try exact c1.elim)
 ·obtain⟨y,hy,hym⟩:=aj c1;have hyl:(l.map runA)[k]? =some (.int .i32 y):=by rw[K9,hy];rfl
  rw[bq hy,clnR]at hv;have F:=F2 F hyl;(repeat (first|refine w1 (fun K hK=>?_)|refine w2 ?_|refine w3 ?_| ((first|refine w4 ?_|refine wD ?_|refine w5 ?_|refine w6 ?_|refine w7 ?_);try refine sq F ?_)| (refine w8 ?_;refine sq F ?_;refine w9 ?_)| (refine rq F ?_;try refine sq F ?_)| (refine vq F ?_;try refine sq F ?_)| ((first|refine hK _ _ (w0 ?_)| (clear hK K;refine hK _ _ (w0 ?_))| (clear hK K;clear hK K;refine hK _ _ (w0 ?_)));clear hK K)))
  refine(qH G y _).mono ?_;rintro r h' ⟨rfl,rfl⟩;try refine sq F ?_
  (repeat (first|refine w1 (fun K hK=>?_)|refine w2 ?_|refine w3 ?_| ((first|refine w4 ?_|refine wD ?_|refine w5 ?_|refine w6 ?_|refine w7 ?_);try refine sq F ?_)| (refine w8 ?_;refine sq F ?_;refine w9 ?_)| (refine rq F ?_;try refine sq F ?_)| (refine vq F ?_;try refine sq F ?_)| ((first|refine hK _ _ (w0 ?_)| (clear hK K;refine hK _ _ (w0 ?_))| (clear hK K;clear hK K;refine hK _ _ (w0 ?_)));clear hK K)))
  have ho:decide ((acc.length:Int)>0)=decide (0<acc.length):=by
   rw[N8];simp only[G6];omega
  refine cq F (fun c2=>?_) (fun c2=>?_)<;>(try exact c2.elim)<;>((repeat (first|refine w1 (fun K hK=>?_)|refine w2 ?_|refine w3 ?_| ((first|refine w4 ?_|refine wD ?_|refine w5 ?_|refine w6 ?_|refine w7 ?_);try refine sq F ?_)| (refine w8 ?_;refine sq F ?_;refine w9 ?_)| (refine rq F ?_;try refine sq F ?_)| (refine vq F ?_;try refine sq F ?_)| ((first|refine hK _ _ (w0 ?_)| (clear hK K;refine hK _ _ (w0 ?_))| (clear hK K;clear hK K;refine hK _ _ (w0 ?_)));clear hK K))))
  ·rw[G5 c2]at hv;have F:=F2 F ho;(try refine sq F ?_);refine hK2 _ _ _ (H5 ⟨k+1,v,acc,decide (0<acc.length),rfl,aw,?_,?_,?_,by omega,hv,by omega⟩) (by omega);all_goals try exact zZz F
  ·rw[G2 (by simp[c2])]at hv;have yes:(y<32∨(127≤y∧y≤159))→ctlR y=true:=fun h=>H0 h
   have no:¬(y<32∨(127≤y∧y≤159))→ctlR y=false:=fun h=>H3 h
   (first|refine gq F (fun g1=>?_) (fun g1=>?_)|refine pq F (fun g1=>?_) (fun g1=>?_))<;>(try exact g1.elim)<;>(try refine sq F ?_)<;>((repeat (first|refine w1 (fun K hK=>?_)|refine w2 ?_|refine w3 ?_| ((first|refine w4 ?_|refine wD ?_|refine w5 ?_|refine w6 ?_|refine w7 ?_);try refine sq F ?_)| (refine w8 ?_;refine sq F ?_;refine w9 ?_)| (refine rq F ?_;try refine sq F ?_)| (refine vq F ?_;try refine sq F ?_)| ((first|refine hK _ _ (w0 ?_)| (clear hK K;refine hK _ _ (w0 ?_))| (clear hK K;clear hK K;refine hK _ _ (w0 ?_)));clear hK K))))
   ·rw[G5 (yes (by omega))]at hv;refine hK2 _ _ _ (H5 ⟨k+1,v,acc,w,rfl,aw,?_,?_,?_,by omega,hv,by omega⟩) (by omega);all_goals try exact zZz F
   ·(first|refine gq F (fun g2=>?_) (fun g2=>?_)|refine pq F (fun g2=>?_) (fun g2=>?_))<;>(try exact g2.elim)<;>(try refine sq F ?_)<;>((repeat (first|refine w1 (fun K hK=>?_)|refine w2 ?_|refine w3 ?_| ((first|refine w4 ?_|refine wD ?_|refine w5 ?_|refine w6 ?_|refine w7 ?_);try refine sq F ?_)| (refine w8 ?_;refine sq F ?_;refine w9 ?_)| (refine rq F ?_;try refine sq F ?_)| (refine vq F ?_;try refine sq F ?_)| ((first|refine hK _ _ (w0 ?_)| (clear hK K;refine hK _ _ (w0 ?_))| (clear hK K;clear hK K;refine hK _ _ (w0 ?_)));clear hK K))))
    ·refine cq F (fun g3=>?_) (fun g3=>?_)<;>(try exact g3.elim)<;>((repeat (first|refine w1 (fun K hK=>?_)|refine w2 ?_|refine w3 ?_| ((first|refine w4 ?_|refine wD ?_|refine w5 ?_|refine w6 ?_|refine w7 ?_);try refine sq F ?_)| (refine w8 ?_;refine sq F ?_;refine w9 ?_)| (refine rq F ?_;try refine sq F ?_)| (refine vq F ?_;try refine sq F ?_)| ((first|refine hK _ _ (w0 ?_)| (clear hK K;refine hK _ _ (w0 ?_))| (clear hK K;clear hK K;refine hK _ _ (w0 ?_)));clear hK K))))
     ·rw[G5 (yes (by omega))]at hv;refine hK2 _ _ _ (H5 ⟨k+1,v,acc,w,rfl,aw,?_,?_,?_,by omega,hv,by omega⟩) (by omega);all_goals try exact zZz F
     ·rw[G2 (by rw[no (by omega)];simp)]at hv;refine cq F (fun c3=>?_) (fun c3=>?_)<;>(try exact c3.elim)<;>((repeat (first|refine w1 (fun K hK=>?_)|refine w2 ?_|refine w3 ?_| ((first|refine w4 ?_|refine wD ?_|refine w5 ?_|refine w6 ?_|refine w7 ?_);try refine sq F ?_)| (refine w8 ?_;refine sq F ?_;refine w9 ?_)| (refine rq F ?_;try refine sq F ?_)| (refine vq F ?_;try refine sq F ?_)| ((first|refine hK _ _ (w0 ?_)| (clear hK K;refine hK _ _ (w0 ?_))| (clear hK K;clear hK K;refine hK _ _ (w0 ?_)));clear hK K))))
      ·rw[G5 c3]at hv;refine aq F ?_;(try refine sq F ?_);(repeat (first|refine w1 (fun K hK=>?_)|refine w2 ?_|refine w3 ?_| ((first|refine w4 ?_|refine wD ?_|refine w5 ?_|refine w6 ?_|refine w7 ?_);try refine sq F ?_)| (refine w8 ?_;refine sq F ?_;refine w9 ?_)| (refine rq F ?_;try refine sq F ?_)| (refine vq F ?_;try refine sq F ?_)| ((first|refine hK _ _ (w0 ?_)| (clear hK K;refine hK _ _ (w0 ?_))| (clear hK K;clear hK K;refine hK _ _ (w0 ?_)));clear hK K)))
       refine aq F ?_;(try refine sq F ?_);(repeat (first|refine w1 (fun K hK=>?_)|refine w2 ?_|refine w3 ?_| ((first|refine w4 ?_|refine wD ?_|refine w5 ?_|refine w6 ?_|refine w7 ?_);try refine sq F ?_)| (refine w8 ?_;refine sq F ?_;refine w9 ?_)| (refine rq F ?_;try refine sq F ?_)| (refine vq F ?_;try refine sq F ?_)| ((first|refine hK _ _ (w0 ?_)| (clear hK K;refine hK _ _ (w0 ?_))| (clear hK K;clear hK K;refine hK _ _ (w0 ?_)));clear hK K)))
       refine hK2 _ _ _ (H5 ⟨k+1,v+1+1,acc++[32,y],false,rfl,by simp[runA],?_,?_,?_,by omega,hv,by simp;omega⟩) (by omega);all_goals try exact zZz F
      ·rw[G2 (by simp[c3])]at hv;refine aq F ?_;(try refine sq F ?_);(repeat (first|refine w1 (fun K hK=>?_)|refine w2 ?_|refine w3 ?_| ((first|refine w4 ?_|refine wD ?_|refine w5 ?_|refine w6 ?_|refine w7 ?_);try refine sq F ?_)| (refine w8 ?_;refine sq F ?_;refine w9 ?_)| (refine rq F ?_;try refine sq F ?_)| (refine vq F ?_;try refine sq F ?_)| ((first|refine hK _ _ (w0 ?_)| (clear hK K;refine hK _ _ (w0 ?_))| (clear hK K;clear hK K;refine hK _ _ (w0 ?_)));clear hK K)))
       refine hK2 _ _ _ (H5 ⟨k+1,v+1,acc++[y],w,rfl,by simp[runA],?_,?_,?_,by omega,by rw[c3];exact hv,by simp;omega⟩) (by omega);all_goals try exact zZz F
    ·rw[G2 (by rw[no (by omega)];simp)]at hv;refine cq F (fun c3=>?_) (fun c3=>?_)<;>(try exact c3.elim)<;>((repeat (first|refine w1 (fun K hK=>?_)|refine w2 ?_|refine w3 ?_| ((first|refine w4 ?_|refine wD ?_|refine w5 ?_|refine w6 ?_|refine w7 ?_);try refine sq F ?_)| (refine w8 ?_;refine sq F ?_;refine w9 ?_)| (refine rq F ?_;try refine sq F ?_)| (refine vq F ?_;try refine sq F ?_)| ((first|refine hK _ _ (w0 ?_)| (clear hK K;refine hK _ _ (w0 ?_))| (clear hK K;clear hK K;refine hK _ _ (w0 ?_)));clear hK K))))
     ·rw[G5 c3]at hv;refine aq F ?_;(try refine sq F ?_);(repeat (first|refine w1 (fun K hK=>?_)|refine w2 ?_|refine w3 ?_| ((first|refine w4 ?_|refine wD ?_|refine w5 ?_|refine w6 ?_|refine w7 ?_);try refine sq F ?_)| (refine w8 ?_;refine sq F ?_;refine w9 ?_)| (refine rq F ?_;try refine sq F ?_)| (refine vq F ?_;try refine sq F ?_)| ((first|refine hK _ _ (w0 ?_)| (clear hK K;refine hK _ _ (w0 ?_))| (clear hK K;clear hK K;refine hK _ _ (w0 ?_)));clear hK K)))
      refine aq F ?_;(try refine sq F ?_);(repeat (first|refine w1 (fun K hK=>?_)|refine w2 ?_|refine w3 ?_| ((first|refine w4 ?_|refine wD ?_|refine w5 ?_|refine w6 ?_|refine w7 ?_);try refine sq F ?_)| (refine w8 ?_;refine sq F ?_;refine w9 ?_)| (refine rq F ?_;try refine sq F ?_)| (refine vq F ?_;try refine sq F ?_)| ((first|refine hK _ _ (w0 ?_)| (clear hK K;refine hK _ _ (w0 ?_))| (clear hK K;clear hK K;refine hK _ _ (w0 ?_)));clear hK K)))
      refine hK2 _ _ _ (H5 ⟨k+1,v+1+1,acc++[32,y],false,rfl,by simp[runA],?_,?_,?_,by omega,hv,by simp;omega⟩) (by omega);all_goals try exact zZz F
     ·rw[G2 (by simp[c3])]at hv;refine aq F ?_;(try refine sq F ?_);(repeat (first|refine w1 (fun K hK=>?_)|refine w2 ?_|refine w3 ?_| ((first|refine w4 ?_|refine wD ?_|refine w5 ?_|refine w6 ?_|refine w7 ?_);try refine sq F ?_)| (refine w8 ?_;refine sq F ?_;refine w9 ?_)| (refine rq F ?_;try refine sq F ?_)| (refine vq F ?_;try refine sq F ?_)| ((first|refine hK _ _ (w0 ?_)| (clear hK K;refine hK _ _ (w0 ?_))| (clear hK K;clear hK K;refine hK _ _ (w0 ?_)));clear hK K)))
      refine hK2 _ _ _ (H5 ⟨k+1,v+1,acc++[y],w,rfl,by simp[runA],?_,?_,?_,by omega,by rw[c3];exact hv,by simp;omega⟩) (by omega);all_goals try exact zZz F
 ·rw[co c1,clnR]at hv;(repeat (first|refine w1 (fun K hK=>?_)|refine w2 ?_|refine w3 ?_| ((first|refine w4 ?_|refine wD ?_|refine w5 ?_|refine w6 ?_|refine w7 ?_);try refine sq F ?_)| (refine w8 ?_;refine sq F ?_;refine w9 ?_)| (refine rq F ?_;try refine sq F ?_)| (refine vq F ?_;try refine sq F ?_)))
  have hg:getRow (h++[.row 21 1 v (acc.map runA)]) h.length v=some (21,1,acc.map runA):=by simp[getRow]
  have ht:∀(ms:List Nat) (t:Env),4∈ms→t 4=.hs h.length v 0 acc.length true→∀i,upd t 4 (.sl 1 (acc.map runA)) i=t i∨(i∈ms∧Fz (h++[.row 21 1 v (acc.map runA)]) h.length v (t i) (upd t 4 (.sl 1 (acc.map runA)) i)):=fun ms t hm ht i=>by
   by_cases hi:i=4
   ·subst hi;right;refine⟨hm,?_⟩;rw[ht];simp only[upd, ↓reduceIte];exact Fz.all _ _ _ hg rfl (by simp)
   ·left;simp only[upd];rw[G2 hi]
  clear hK K;refine hK _ _ ⟨_,_,Weak.fz h.length v hg (ht _ _ (by decide+kernel) (by exact zq F)),?_⟩;clear hK K;have hset:(h++[Blk.row 21 1 v (acc.map runA)]).set h.length Blk.dead=h++[Blk.dead]:=by simp
  rw[hset];(repeat (first|refine w1 (fun K hK=>?_)|refine w2 ?_|refine w3 ?_| ((first|refine w4 ?_|refine wD ?_|refine w5 ?_|refine w6 ?_|refine w7 ?_);try refine sq F ?_)| (refine w8 ?_;refine sq F ?_;refine w9 ?_)| (refine rq F ?_;try refine sq F ?_)| (refine vq F ?_;try refine sq F ?_)| ((first|refine hK _ _ (w0 ?_)| (clear hK K;refine hK _ _ (w0 ?_))| (clear hK K;clear hK K;refine hK _ _ (w0 ?_)));clear hK K)))
  refine(wb G acc (fun r hr=>hcl r (by rw[hdef, ← hv];exact hr)) (by omega) _).mono ?_;rintro r h' ⟨rfl,rfl⟩;try refine sq F ?_
  (repeat (first|refine w1 (fun K hK=>?_)|refine w2 ?_|refine w3 ?_| ((first|refine w4 ?_|refine wD ?_|refine w5 ?_|refine w6 ?_|refine w7 ?_);try refine sq F ?_)| (refine w8 ?_;refine sq F ?_;refine w9 ?_)| (refine rq F ?_;try refine sq F ?_)| (refine vq F ?_;try refine sq F ?_)| ((first|refine hK _ _ (w0 ?_)| (clear hK K;refine hK _ _ (w0 ?_))| (clear hK K;clear hK K;refine hK _ _ (w0 ?_)));clear hK K)))
  refine ee hQ F ?_;refine fR (.str _) ?_;rw[hv];exact I8 AVal.str hcf
theorem sT(a b c:Bs)(h:Heap):Sat (CT G) 84 [.sl 1 [.str a,.str b,.str c]] h (fun r h'=>r=.str (orF a b c)∧h'=h):=by
 refine sb [.tmp 2] Tryz.func84 ?_;intro Q hQ;refine wk trivial ?_;refine lm (fun nL tL hL=>∃(k:Nat),3-k=nL∧h=hL∧tL 8=.int .i64 k∧k≤3∧(1≤k→a=[])∧(2≤k→b=[])∧(3≤k→c=[])) ((fun(k:Nat)=>(3-k:Nat)) (0)) ?_ ?_
 ·refine H5 ⟨0,rfl,aw,?_,by omega,fun h=>by omega,fun h=>by omega,fun h=>by omega⟩;all_goals try exact zZz trivial
 rintro _ s2 h' ⟨k,rfl,rfl,e8,hk,h0,h1,h2⟩ K2 hK2;simp only[am,ar,Nat.reduceEqDiff, ↓reduceIte]at e8;have F:=e8;refine wk F ?_;refine cq F (fun c1=>?_) (fun c1=>?_)<;>(try exact c1.elim)<;>(refine wk F ?_)
 ·obtain⟨y,hy,hyv⟩:∃y:Bs,([.str a,.str b,.str c]:List AVal)[k]? =some (.str y)∧((k=0∧y=a)∨(k=1∧y=b)∨(k=2∧y=c)):=by
   match k,c1 with
   |0,_=>exact⟨a,rfl,.inl ⟨rfl,rfl⟩⟩
   |1,_=>exact⟨b,rfl,.inr (.inl ⟨rfl,rfl⟩)⟩
   |2,_=>exact⟨c,rfl,.inr (.inr ⟨rfl,rfl⟩)⟩
   |k+3,c1=>exfalso;omega
  have F:=F2 F hy;try refine sq F ?_
  refine wk F ?_;refine cq F (fun c2=>?_) (fun c2=>?_)<;>(try exact c2.elim)<;>(refine wk F ?_)
  ·refine ee hQ F ?_;refine fR (.str _) ?_;unfold orF;rcases hyv with⟨rfl,rfl⟩| ⟨rfl,rfl⟩| ⟨rfl,rfl⟩
   ·rw[G5 c2]
   ·rw[G2 (by simp[h0 (by omega)]),G5 c2]
   ·rw[G2 (by simp[h0 (by omega)]),G2 (by simp[h1 (by omega)])]
  ·have c3:y=[]:=(by simpa using c2);have n0:1≤k+1→a=[]:=fun hh=>by
    rcases hyv with⟨rfl,rfl⟩| ⟨rfl,rfl⟩| ⟨rfl,rfl⟩
    ·exact c3
    ·exact h0 (by omega)
    ·exact h0 (by omega)
   have n1:2≤k+1→b=[]:=fun hh=>by
    rcases hyv with⟨rfl,rfl⟩| ⟨rfl,rfl⟩| ⟨rfl,rfl⟩
    ·omega
    ·exact c3
    ·exact h1 (by omega)
   have n2:3≤k+1→c=[]:=fun hh=>by
    rcases hyv with⟨rfl,rfl⟩| ⟨rfl,rfl⟩| ⟨rfl,rfl⟩
    ·omega
    ·omega
    ·exact c3
   refine hK2 _ _ _ (H5 ⟨k+1,rfl,aw,?_,by omega,n0,n1,n2⟩) (by omega);all_goals try exact zZz F
 ·have h3:=h2 (by omega);subst h3;refine wk F ?_;refine ee hQ F ?_;refine fR (.str _) ?_;unfold orF;rw[h0 (by omega),h1 (by omega)];rfl
theorem cr(N:Nat)(a:Int)(c:Bool):Clo N (.tup [.int .i64 a,.bool c]):=.tup _ (fun x hx=>by simp only[J5,O3,or_false]at hx;rcases hx with rfl|rfl<;>first|exact .int _ _|exact .bool _)
theorem iQ(e:Elem)(n:Bs)(hs:e.sz≤1048576):(kidF e n).1.text.length≤1048576:=by
 unfold kidF;split
 ·exact Nat.zero_le _
 ·rename_i k l hk;have hm:k∈e.kids:=by
   have:k∈kidsF e n:=by rw[hk];simp
   unfold kidsF at this;exact(List.mem_filter.1 this).1
  have h1:=Elem.kid_sz hm;have h3:=k.text_len;show k.text.length≤_;omega
theorem bm(e:Elem)(n:Bs)(m:Nat)(hs:e.sz≤1048576)(hm:m≤1000)(h:Heap):Sat (CT G) 48 [e.av,.str n,.int .i64 m] h (fun r h'=>r=.str (fieldF e n m)∧h'=h):=by
 have hKd:=gb G e n hs;have ht:=iQ e n hs;obtain⟨k,hk⟩:∃k,k=kidF e n:=⟨_,rfl⟩;have hf:fieldF e n m=cleanF (cutF (cleanF k.1.text) m):=by unfold fieldF shortF;rw[hk]
 rw[← hk]at hKd ht;obtain⟨⟨k1,k2,k3,k4⟩,is⟩:=k;have ht:k3.length≤1048576:=ht;have hc:=fV k3;have hct:=uN (cleanF k3) m;have h1:=cW G k3 (by omega);have h2:=uc G (cleanF k3) m (by omega) (by omega);have h3:=cW G (cutF (cleanF k3) m) (by omega);rw[hf];have F:= @ak;refine sb [.tmp 6] Tryz.func48 ?_;intro Q hQ;refine wk F ?_;refine kq F (hKd _) ?_;refine kq F (h1 _) ?_;refine kq F (h2 _) ?_;refine kq F (h3 _) ?_;refine ee hQ F ?_;exact I3 (.str _) ⟨rfl,rfl⟩
def DateC(F:FuncId)(f:Bs→Option Int):Prop:=∀s:Bs,s.length≤8388608→∀h,Sat (CT G) F [.str s] h (fun r h'=>r=.tup [.int .i64 ((f s).getD 0),.int .i64 (if (f s).isSome then 0 else 40)]∧h'=h)
theorem nV(hA:DateC G 156 anyF)(e:Elem)(n:Bs)(hs:e.sz≤1048576)(h:Heap):Sat (CT G) 127 [e.av,.str n] h (fun r h'=>r=.tup [.int .i64 ((momE anyF e n).getD 0),.bool (momE anyF e n).isSome]∧h'=h):=by
 have hKd:=gb G e n hs;have ht:=iQ e n hs;have hm:momE anyF e n=if (kidF e n).2 then anyF (cleanF (kidF e n).1.text)else none:=rfl
 rw[hm];generalize kidF e n=k at*;obtain⟨⟨k1,k2,k3,k4⟩,is⟩:=k;have ht:k3.length≤1048576:=ht;have hc:=fV k3;have h1:=cW G k3 (by omega);have h2:=hA (cleanF k3) (by omega);clear hm;cases is with
 |false=>
  have F:= @ak;refine sb [.tmp 4,.tmp 5] Tryz.func127 ?_;intro Q hQ;refine wk F ?_;refine kq F (hKd _) ?_;refine ee hQ F ?_;exact I3 (cr _ _ _) ⟨rfl,rfl⟩
 |true=>
  cases ha:anyF (cleanF k3)with
  |none=>
   rw[ha]at h2;have h2:∀h,Sat (CT G) 156 [.str (cleanF k3)] h (fun r h'=>r=.tup [.int .i64 0,.int .i64 40]∧h'=h):=h2;have F:= @ak;refine sb [.tmp 4,.tmp 5] Tryz.func127 ?_;intro Q hQ;refine wk F ?_;refine kq F (hKd _) ?_;refine kq F (h1 _) ?_;refine kq F (h2 _) ?_;refine ee hQ F ?_;refine I3 (cr _ _ _) ⟨?_,rfl⟩;show _=AVal.tup [.int .i64 ((anyF (cleanF k3)).getD 0),.bool (anyF (cleanF k3)).isSome];rw[ha];rfl
  |some v=>
   rw[ha]at h2;have h2:∀h,Sat (CT G) 156 [.str (cleanF k3)] h (fun r h'=>r=.tup [.int .i64 v,.int .i64 0]∧h'=h):=h2;have F:= @ak;refine sb [.tmp 4,.tmp 5] Tryz.func127 ?_;intro Q hQ;refine wk F ?_;refine kq F (hKd _) ?_;refine kq F (h1 _) ?_;refine kq F (h2 _) ?_;refine ee hQ F ?_;refine I3 (cr _ _ _) ⟨?_,rfl⟩;show _=AVal.tup [.int .i64 ((anyF (cleanF k3)).getD 0),.bool (anyF (cleanF k3)).isSome];rw[ha];rfl
theorem kV(f:Bs→Option Int)(e:Elem){l:List Bs}{k:Nat}{x:Bs}(hx:l[k]? =some x):momL f e (l.drop k)=match momE f e x with|some v=>some v|none=>momL f e (l.drop (k+1)):=by
 obtain⟨hlt,he⟩:=F1.1 hx;rw[Q7 hlt,he];rfl
theorem nW(hA:DateC G 156 anyF)(e:Elem)(l:List Bs)(hs:e.sz≤1048576)(hl:l.length≤1048576)(h:Heap):Sat (CT G) 85 [e.av,.sl 1 (l.map .str)] h (fun r h'=>r=.tup [.int .i64 ((momL anyF e l).getD 0),.bool (momL anyF e l).isSome]∧h'=h):=by
 have ml:(l.map AVal.str).length=l.length:=I7 ..;have F:=F2 ml @ak;refine sb [.tmp 4,.tmp 5] Tryz.func85 ?_;intro Q hQ;refine wk F ?_;refine lm (fun nL tL hL=>∃(k:Nat),l.length-k=nL∧h++[.row 35 4 0 [e.av]]=hL∧tL 12=.int .i64 k∧k≤l.length∧momL anyF e (l.drop k)=momL anyF e l) ((fun(k:Nat)=>(l.length-k:Nat)) (0)) ?_ ?_
 ·refine H5 ⟨0,rfl,aw,?_,by omega,rfl⟩;all_goals try exact zZz F
 rintro _ s2 h' ⟨k,rfl,rfl,e12,hk,hp⟩ K2 hK2;simp only[am,ar,Nat.reduceEqDiff, ↓reduceIte]at e12;have F:=F2 F e12;by_cases c1:k<l.length
 ·obtain⟨x,hx,_⟩:=aj c1;have d1:=H0 c1;have hM:=nV G hA e x hs;rw[kV anyF e hx]at hp;cases hv:momE anyF e x with
  |some v=>
   rw[hv]at hM hp;have hM:∀h,Sat (CT G) 127 [e.av,.str x] h (fun r h'=>r=.tup [.int .i64 v,.bool true]∧h'=h):=hM;have hp:some v=momL anyF e l:=hp;have F:=F3 F hx d1;(try refine sq F ?_);refine wk F ?_;refine kq F (hM _) ?_;refine ee hQ F ?_;exact I3 (cr _ _ _) ⟨by rw[← hp];rfl,rfl⟩
  |none=>
   rw[hv]at hM hp;have hM:∀h,Sat (CT G) 127 [e.av,.str x] h (fun r h'=>r=.tup [.int .i64 0,.bool false]∧h'=h):=hM;have hp:momL anyF e (l.drop (k+1))=momL anyF e l:=hp;have F:=F3 F hx d1;(try refine sq F ?_);refine wk F ?_;refine kq F (hM _) ?_;refine hK2 _ _ _ (H5 ⟨k+1,rfl,aw,?_,by omega,hp⟩) (by omega);all_goals try exact zZz F
 ·have d1:=H3 c1;have hp:momL anyF e l=none:=by
   rw[← hp,O5 (by omega)];rfl
  have F:=F2 F d1;try refine sq F ?_
  refine wk F ?_;refine ee hQ F ?_;exact I3 (cr _ _ _) ⟨by rw[hp];rfl,rfl⟩
theorem Co:DateC G 183 webR:=fun s hs h=>by
 have:=pf G s (by omega) h;rw[m4]at this;exact this
def updL:List Bs:=[bUpd,bPubl,bIss]
theorem mP(hA:DateC G 183 webR)(e:Elem)(n:Bs)(hs:e.sz≤1048576)(h:Heap):Sat (CT G) 157 [e.av,.str n] h (fun r h'=>r=.tup [.int .i64 ((momE webR e n).getD 0),.bool (momE webR e n).isSome]∧h'=h):=by
 have hKd:=gb G e n hs;have ht:=iQ e n hs;have hm:momE webR e n=if (kidF e n).2 then webR (cleanF (kidF e n).1.text)else none:=rfl
 rw[hm];generalize kidF e n=k at*;obtain⟨⟨k1,k2,k3,k4⟩,is⟩:=k;have ht:k3.length≤1048576:=ht;have hc:=fV k3;have h1:=cW G k3 (by omega);have h2:=hA (cleanF k3) (by omega);clear hm;cases is with
 |false=>
  have F:= @ak;refine sb [.tmp 4,.tmp 5] Tryz.func157 ?_;intro Q hQ;refine wk F ?_;refine kq F (hKd _) ?_;refine ee hQ F ?_;exact I3 (cr _ _ _) ⟨rfl,rfl⟩
 |true=>
  cases ha:webR (cleanF k3)with
  |none=>
   rw[ha]at h2;have h2:∀h,Sat (CT G) 183 [.str (cleanF k3)] h (fun r h'=>r=.tup [.int .i64 0,.int .i64 40]∧h'=h):=h2;have F:= @ak;refine sb [.tmp 4,.tmp 5] Tryz.func157 ?_;intro Q hQ;refine wk F ?_;refine kq F (hKd _) ?_;refine kq F (h1 _) ?_;refine kq F (h2 _) ?_;refine ee hQ F ?_;refine I3 (cr _ _ _) ⟨?_,rfl⟩;show _=AVal.tup [.int .i64 ((webR (cleanF k3)).getD 0),.bool (webR (cleanF k3)).isSome];rw[ha];rfl
  |some v=>
   rw[ha]at h2;have h2:∀h,Sat (CT G) 183 [.str (cleanF k3)] h (fun r h'=>r=.tup [.int .i64 v,.int .i64 0]∧h'=h):=h2;have F:= @ak;refine sb [.tmp 4,.tmp 5] Tryz.func157 ?_;intro Q hQ;refine wk F ?_;refine kq F (hKd _) ?_;refine kq F (h1 _) ?_;refine kq F (h2 _) ?_;refine ee hQ F ?_;refine I3 (cr _ _ _) ⟨?_,rfl⟩;show _=AVal.tup [.int .i64 ((webR (cleanF k3)).getD 0),.bool (webR (cleanF k3)).isSome];rw[ha];rfl
theorem mQ(hA:DateC G 183 webR)(e:Elem)(hs:e.sz≤1048576)(h:Heap):Sat (CT G) 130 [e.av] h (fun r h'=>r=.tup [.int .i64 ((momL webR e updL).getD 0),.bool (momL webR e updL).isSome]∧h'=h):=by
 obtain⟨l,hl⟩:∃l,l=updL:=⟨_,rfl⟩;have hll:l.length=3:=by rw[hl];rfl
 have hg:∀(k:Nat) (x:Bs),l[k]? =some x→([.str [117,112,100,97,116,101,100],.str [112,117,98,108,105,115,104,101,100],.str [105,115,115,117,101,100]]:List AVal)[k]? =some (.str x):=fun k x hx=>by
  have:(l.map AVal.str)[k]? =some (.str x):=by rw[K9,hx];rfl
  rw[hl]at this;exact this
 rw[← hl];have F:= @ak;refine sb [.tmp 2,.tmp 3] Tryz.func130 ?_;intro Q hQ;refine wk F ?_;refine lm (fun nL tL hL=>∃(k:Nat),l.length-k=nL∧h++[.row 35 4 0 [e.av]]=hL∧tL 10=.int .i64 k∧k≤l.length∧momL webR e (l.drop k)=momL webR e l) ((fun(k:Nat)=>(l.length-k:Nat)) (0)) ?_ ?_
 ·refine H5 ⟨0,rfl,aw,?_,by omega,rfl⟩;all_goals try exact zZz F
 rintro _ s2 h' ⟨k,rfl,rfl,e10,hk,hp⟩ K2 hK2;simp only[am,ar,Nat.reduceEqDiff, ↓reduceIte]at e10;have F:=F2 F e10;by_cases c1:k<l.length
 ·obtain⟨x,hx,_⟩:=aj c1;have d1:decide ((k:Int)<3)=true:=H0 (by omega);have hgx:=hg k x hx;have hM:=mP G hA e x hs;rw[kV webR e hx]at hp;cases hv:momE webR e x with
  |some v=>
   rw[hv]at hM hp;have hM:∀h,Sat (CT G) 157 [e.av,.str x] h (fun r h'=>r=.tup [.int .i64 v,.bool true]∧h'=h):=hM;have hp:some v=momL webR e l:=hp;have F:=F3 F hgx d1;(try refine sq F ?_);refine wk F ?_;refine kq F (hM _) ?_;refine ee hQ F ?_;exact I3 (cr _ _ _) ⟨by rw[← hp];rfl,rfl⟩
  |none=>
   rw[hv]at hM hp;have hM:∀h,Sat (CT G) 157 [e.av,.str x] h (fun r h'=>r=.tup [.int .i64 0,.bool false]∧h'=h):=hM;have hp:momL webR e (l.drop (k+1))=momL webR e l:=hp;have F:=F3 F hgx d1;(try refine sq F ?_);refine wk F ?_;refine kq F (hM _) ?_;refine hK2 _ _ _ (H5 ⟨k+1,rfl,aw,?_,by omega,hp⟩) (by omega);all_goals try exact zZz F
 ·have d1:decide ((k:Int)<3)=false:=H3 (by omega);have hp:momL webR e l=none:=by
   rw[← hp,O5 (by omega)];rfl
  have F:=F2 F d1;try refine sq F ?_
  refine wk F ?_;refine ee hQ F ?_;exact I3 (cr _ _ _) ⟨by rw[hp];rfl,rfl⟩
def En.z:En:=⟨[],[],[],0,false⟩
def oEn(o:Option En):AVal:=.tup [(o.getD En.z).av,.bool o.isSome]
theorem io(N:Nat)(x:En)(b:Bool):Clo N (.tup [x.av,.bool b]):=.tup _ (fun c hc=>by simp only[J5,O3,or_false]at hc;rcases hc with rfl|rfl<;>first|exact x.clo _|exact .bool _)
theorem qK(hA:DateC G 156 anyF)(e:Elem)(hs:e.sz≤1048576)(h:Heap):Sat (CT G) 50 [e.av] h (fun r h'=>r=oEn (entR e)∧h'=h):=by
 have fT:=bm G e bTitle 256 hs (by omega);have fL:=bm G e bLink 512 hs (by omega);have fG:=bm G e bGuid 512 hs (by omega);have hM:=nW G hA e [bPub,bDate] hs (by decide);have hE:entR e=mkE (orF (fieldF e bGuid 512) (fieldF e bLink 512) (fieldF e bTitle 256)) (fieldF e bTitle 256) (fieldF e bLink 512) (momL anyF e [bPub,bDate]):=rfl;rw[hE];generalize fieldF e bTitle 256=t at*;generalize fieldF e bLink 512=l at*;generalize fieldF e bGuid 512=g at*;generalize momL anyF e [bPub,bDate]=m at*;have hO:=sT G g l t;generalize orF g l t=u at*;clear hE;have hz:ofVal (.agg #[.string ⟨#[]⟩,.string ⟨#[]⟩,.string ⟨#[]⟩,.int .i64 0,.bool false])=.agg [.str [],.str [],.str [],.int .i64 0,.bool false]:=rfl;by_cases hu:u=[]
 ·have q:(u==([]:Bs))=true:=by simp[hu]
  have eo:oEn (mkE u t l m)=.tup [En.z.av,.bool false]:=by unfold mkE;rw[G5 hu];rfl
  rw[eo];have F:=F3 q hz @ak
  skip
  refine sb [.cell 2 48,.tmp 3] Tryz.func50 ?_;intro Q hQ;refine wn F ?_;refine dg 5 5 _ (by rfl) (by decide+kernel) (by kernel_rfl) (by decide+kernel) (by decide+kernel) (by decide+kernel) ?_;simp only[L2,M5];refine sq F ?_;refine wn F ?_;refine ab (fT _) ?_;try refine sq F ?_
  refine wn F ?_;refine ab (fL _) ?_;try refine sq F ?_
  refine wn F ?_;try refine⟨by decide+kernel,?_⟩
  try refine sq F ?_
  refine⟨?_,?_⟩
  ·refine ab (fT _) ?_;(try refine sq F ?_);refine wn F ?_;refine ab (fL _) ?_;(try refine sq F ?_);refine wn F ?_;all_goals first|exact zq F|trivial| (refine sq F ?_;trivial)
  skip
  try refine sq F ?_
  refine wk F ?_;refine ab (fG _) ?_;try refine sq F ?_
  refine wk F ?_;refine ab (hO _) ?_;try refine sq F ?_
  refine wk F ?_;refine ye hQ F ?_;exact I3 (io _ En.z _) ⟨rfl,rfl⟩
 ·have q:(u==([]:Bs))=false:=by simpa using hu
  have eo:oEn (mkE u t l m)=.tup [(⟨u,t,l,m.getD 0,m.isSome⟩:En).av,.bool true]:=by unfold mkE;rw[G2 hu];rfl
  rw[eo];have F:=F3 q hz @ak
  skip
  refine sb [.cell 2 48,.tmp 3] Tryz.func50 ?_;intro Q hQ;refine wn F ?_;refine dg 5 5 _ (by rfl) (by decide+kernel) (by kernel_rfl) (by decide+kernel) (by decide+kernel) (by decide+kernel) ?_;simp only[L2,M5];refine sq F ?_;refine wn F ?_;refine ab (fT _) ?_;try refine sq F ?_
  refine wn F ?_;refine ab (fL _) ?_;try refine sq F ?_
  refine wn F ?_;try refine⟨by decide+kernel,?_⟩
  try refine sq F ?_
  refine⟨?_,?_⟩
  ·refine ab (fT _) ?_;(try refine sq F ?_);refine wn F ?_;refine ab (fL _) ?_;(try refine sq F ?_);refine wn F ?_;all_goals first|exact zq F|trivial| (refine sq F ?_;trivial)
  skip
  try refine sq F ?_
  refine wk F ?_;refine ab (fG _) ?_;try refine sq F ?_
  refine wk F ?_;refine ab (hO _) ?_;try refine sq F ?_
  refine wk F ?_;refine kq F (hM _) ?_;refine ye hQ F ?_;exact I3 (io _ (⟨u,t,l,m.getD 0,m.isSome⟩:En) _) ⟨rfl,rfl⟩
def Fd.z:Fd:=⟨[],[],[]⟩
theorem Fd.clo(n:Nat)(d:Fd):Clo n d.av:=.agg _ fun c hc=>by
 simp only[J5,O3,or_false]at hc;rcases hc with rfl|rfl|rfl
 ·exact .str _
 ·exact .str _
 ·exact .sl _ _ (fun r hr=>by obtain⟨x,_,rfl⟩:=K6.1 hr;exact x.clo _)
def oFd(o:Option Fd):AVal:=.tup [(o.getD Fd.z).av,.bool o.isSome]
theorem wz(N:Nat)(x:Fd)(b:Bool):Clo N (.tup [x.av,.bool b]):=.tup _ (fun c hc=>by simp only[J5,O3,or_false]at hc;rcases hc with rfl|rfl<;>first|exact x.clo _|exact .bool _)
theorem mR(f:Elem→Option En){l:List Elem}{k:Nat}{x:Elem}(hx:l[k]? =some x):entsF f (l.take (k+1))=match f x with
 |none=>entsF f (l.take k)
 |some v=>if (entsF f (l.take k)).length<256 then entsF f (l.take k)++[v]else entsF f (l.take k):=by
 unfold entsF;rw[M8 (l:=l) (i:=k),hx,List.filterMap_append];cases hv:f x with
 |none=>simp[hv]
 |some v=>
  have:List.filterMap f (some x).toList=[v]:=by simp[hv]
  rw[this];generalize List.filterMap f (l.take k)=A;by_cases hl:A.length<256
  ·have h1:(A++[v]).take 256=A++[v]:=H9 (by simp;omega);have h2:A.take 256=A:=H9 (by omega);rw[h1,h2];exact(G5 hl).symm
  ·have h1:(A++[v]).take 256=A.take 256:=List.take_append_of_le_length (by omega);rw[h1];exact(G2 (by rw[I6];omega)).symm
theorem gv{e k:Elem}{n:Bs}(hs:e.sz≤1048576)(h:k∈kidsF e n):k.sz≤1048576:=by
 have:=Elem.kid_sz (List.mem_filter.1 h).1;omega
theorem hJ(e:Elem)(n:Bs)(hs:e.sz≤1048576):(kidsF e n).length≤1048576:=by
 have h1:=e.kids_len;have h2:(kidsF e n).length≤e.kids.length:=List.length_filter_le ..;omega
theorem xK{Z:Heap}{n q v e:Nat}(t l:Bs)(es:List En)(b:Bool)(hq:n≤q)(hg:getRow Z q v=some (e,5,es.map En.av)):Frz Z n (.tup [.agg [.str t,.str l,.hs q v 0 es.length true],.bool b]) (.tup [Fd.av ⟨t,l,es⟩,.bool b]):=by
 have z:Frz Z n (.hs q v 0 es.length true) (.sl 5 (es.map En.av)):=Frz.data hq hg (by simp) (fun r hr=>by obtain⟨x,_,rfl⟩:=K6.1 hr;exact x.clo _) (fun r hr=>by obtain⟨x,_,rfl⟩:=K6.1 hr;exact x.sto);exact FrzL.tup (.cons (FrzL.agg (.cons (.clo _ (.str _)) (.cons (.clo _ (.str _)) (.cons z .nil))) rfl) (.cons (.clo _ (.bool _)) .nil))
theorem jP(Z:Heap)(n:Nat):Frz Z n (.tup [.agg [.str [],.str [],.nil (.slice none 0 0)],.bool false]) (oFd none):=
 FrzL.tup (.cons (FrzL.agg (.cons (.clo _ (.str _)) (.cons (.clo _ (.str _)) (.cons (.nils 5) .nil))) rfl) (.cons (.clo _ (.bool _)) .nil))
theorem sU(hA:DateC G 156 anyF)(e:Elem)(hs:e.sz≤1048576)(h:Heap):Sat (CT G) 27 [e.av] h (fun r h'=>r=oFd (rssF e)∧h'=h):=by
 have hKd:=gb G e bChan hs;have hSh:=ga G e.name (by have:=Elem.sz_eq e;omega);have hc:(kidF e bChan).1.sz≤1048576:=by
  unfold kidF;split
  ·show 1≤_;omega
  ·rename_i k l hk;exact gv hs (by rw[hk];simp)
 have hR:rssF e=if (kidF e bChan).2&&decide (short e.name=bRss)then some ⟨fieldF (kidF e bChan).1 bTitle 256,fieldF (kidF e bChan).1 bLink 512,entsF entR (kidsF (kidF e bChan).1 bItem)⟩else none:=rfl
 rw[hR];clear hR;generalize short e.name=sn at*;generalize kidF e bChan=kk at*;obtain⟨c,is⟩:=kk;simp only[]at hc;have fT:=bm G c bTitle 256 hc (by omega);have fL:=bm G c bLink 512 hc (by omega);have hKs:=fe G c bItem hc;have hsz:∀k∈kidsF c bItem,k.sz≤1048576:=fun k hk=>gv hc hk
 have hln:=hJ c bItem hc;generalize fieldF c bTitle 256=t at*;generalize fieldF c bLink 512=l at*;generalize kidsF c bItem=ks at*;have mk:(ks.map Elem.av).length=ks.length:=I7 ..;obtain⟨e1,e2,e3,e4⟩:=e;cases is with
 |false=>
  have F:= @ak;refine sb [.cell 2 25,.tmp 3] Tryz.func27 ?_;intro Q hQ;refine wk F ?_;refine kq F (hKd _) ?_;refine ye hQ F ?_;exact U9 (jP _ _) ⟨rfl,rfl⟩
 |true=>
  by_cases hn:sn=bRss
  rotate_left
  ·have q:(sn==bRss)=false:=(by simpa using hn);unfold bRss at q;have d:(true&&decide (sn=bRss))=false:=(by simp[hn]);simp only[d];have F:=F2 q @ak;refine sb [.cell 2 25,.tmp 3] Tryz.func27 ?_;intro Q hQ;refine wk F ?_;refine kq F (hKd _) ?_;refine kq F (hSh _) ?_;refine ye hQ F ?_;exact U9 (jP _ _) ⟨rfl,rfl⟩
  have q:(sn==bRss)=true:=by simpa using hn
  unfold bRss at q;have d:(true&&decide (sn=bRss))=true:=by simp[hn]
  simp only[d];clear d;have hz:ofVal (.agg #[.string ⟨#[]⟩,.string ⟨#[]⟩,.slice none 0 0])=.agg [.str [],.str [],.nil (.slice none 0 0)]:=rfl;have F:=F4 q hz mk @ak
  skip
  refine sb [.cell 2 25,.tmp 3] Tryz.func27 ?_;intro Q hQ;refine wn F ?_;refine kn F (hKd _) ?_;refine kn F (hSh _) ?_;refine dg 5 5 _ (by rfl) (by decide+kernel) (by kernel_rfl) (by decide+kernel) (by decide+kernel) (by decide+kernel) ?_;simp only[L2,M5];refine sq F ?_;refine wn F ?_;refine ab (fT _) ?_;try refine sq F ?_
  refine wn F ?_;refine ab (fL _) ?_;try refine sq F ?_
  refine wn F ?_;try refine⟨by decide+kernel,?_⟩
  try refine sq F ?_
  refine⟨?_,?_⟩
  ·refine ab (fT _) ?_;(try refine sq F ?_);refine wn F ?_;refine ab (fL _) ?_;(try refine sq F ?_);refine wn F ?_;all_goals first|exact zq F|trivial| (refine sq F ?_;trivial)
  skip
  try refine sq F ?_
  refine wk F ?_;refine kq F (hKs _) ?_;refine lm (fun nL tL hL=>∃(k v:Nat) (es:List En) (j:Heap),ks.length-k=nL∧h++ .row 35 4 0 [Elem.av ⟨e1,e2,e3,e4⟩]:: .row 25 3 0 [.agg [.str [],.str [],.nil (.slice none 0 0)]]:: .row 35 4 0 [c.av]:: .row 25 3 0 [.agg [.str t,.str l,.hs (h.length+4) v 0 es.length true]]:: .row 48 5 v (es.map En.av)::j=hL∧tL 33=.int .i64 k∧k≤ks.length∧es=entsF entR (ks.take k)) ((fun(k v:Nat) (es:List En) (j:Heap)=>(ks.length-k:Nat)) (0) (0) ([]) ([])) ?_ ?_
  ·refine⟨_,_,U3 (p:=h.length+3) (v:=0) 48 5 (by omega) (by simp(disch:=first|omega| (simp only[go_sem, ↓reduceIte,seval];first|done|omega)|fail) only[go_sem, ↓reduceIte,seval,F];rfl) 2 rfl,⟨0,0,[],[],rfl,(by simp),?_,by omega,rfl⟩⟩;all_goals try exact zZz F
  rintro _ s2 h' ⟨k,v,es,j,rfl,rfl,e33,hk,ho⟩ K2 hK2;simp only[am,ar,Nat.reduceEqDiff, ↓reduceIte]at e33;have F:=F2 F e33;have hel:es.length≤256:=by rw[ho];unfold entsF;rw[I6];omega
  have me:(es.map En.av).length=es.length:=I7 ..;by_cases c1:k<ks.length
  ·obtain⟨x,hx,hxm⟩:=aj c1;have d1:=H0 c1;have hE:=qK G hA x (hsz x hxm);have hst:=mR entR hx;rw[← ho]at hst;cases hv:entR x with
   |none=>
    rw[hv]at hE hst;have hE:∀h,Sat (CT G) 50 [x.av] h (fun r h'=>r=.tup [En.z.av,.bool false]∧h'=h):=hE;have F:=F4 F hx d1 me;(try refine sq F ?_);refine wk F ?_;have hst:entsF entR (ks.take (k+1))=es:=hst;refine kq F (hE _) ?_;refine hK2 _ _ _ (H5 ⟨k+1,v,es,j++[.row 35 4 0 [x.av],.row 48 5 0 [En.z.av]],rfl,by simp[En.av,En.z],?_,by omega,hst.symm⟩) (by omega);all_goals try exact zZz F
   |some y=>
    rw[hv]at hE hst;have hE:∀h,Sat (CT G) 50 [x.av] h (fun r h'=>r=.tup [y.av,.bool true]∧h'=h):=hE;have hst:entsF entR (ks.take (k+1))=if es.length<256 then es++[y]else es:=hst
    by_cases c2:es.length<256
    ·have d2:decide ((es.length:Int)<256)=true:=H0 (by omega);rw[G5 c2]at hst;have F:=F5 F hx d1 d2 me;(try refine sq F ?_);refine wk F ?_;refine kq F (hE _) ?_;refine aq F ?_;(try refine sq F ?_);refine wk F ?_;refine hK2 _ _ _ (H5 ⟨k+1,v+1,es++[y],j++[.row 35 4 0 [x.av],.row 48 5 0 [y.av]],rfl,by simp[En.av],?_,by omega,hst.symm⟩) (by omega);all_goals try exact zZz F
    ·have d2:decide ((es.length:Int)<256)=false:=H3 (by omega);rw[G2 c2]at hst;have F:=F5 F hx d1 d2 me;(try refine sq F ?_);refine wk F ?_;refine kq F (hE _) ?_;refine hK2 _ _ _ (H5 ⟨k+1,v,es,j++[.row 35 4 0 [x.av],.row 48 5 0 [y.av]],rfl,by simp[En.av],?_,by omega,hst.symm⟩) (by omega);all_goals try exact zZz F
  ·have d1:=H3 c1;rw[H9 (by omega)]at ho;have F:=F3 F d1 me;(try refine sq F ?_);refine wk F ?_;refine ye hQ F ?_;rw[← ho];exact U9 (xK t l es true (by omega) (by rw[jd _ rfl];show(if v=v then _ else _)=_;rw[G5 rfl])) ⟨rfl,rfl⟩
theorem FrN.split{h H:Heap}(g:FrN h.length h H)(hl:h.length≤H.length):∃j,H=h++j:=by
 refine⟨H.drop h.length,List.ext_getElem? fun i=>?_⟩;by_cases hi:i<h.length
 ·rw[G9 hi];exact g i hi
 ·rw[H8 (by omega),L9];congr 1;omega
def PBldR(h:Heap)(l:List Tok)(r:AVal)(h':Heap):Prop:=
 ∃e:Elem,r=.tup [e.av,.int .i64 (if (bldF l).isSome then 0 else 90)]∧(∀x,bldF l=some x→e=x)∧(bldF l=none→e=⟨[],[],[],[]⟩)∧h'=h
theorem PBldR.bad{h H:Heap}{l:List Tok}(g:FrN h.length h H)(hl:h.length≤H.length)(e:bldF l=none):Fin h H (PBldR h l) (.tup [.agg [.str [],.nil (.slice none 0 0),.str [],.nil (.slice none 0 0)],.int .i64 90]):=by
 obtain⟨j,rfl⟩:=g.split hl;have z:Frz (h++j) h.length (.agg [.str [],.nil (.slice none 0 0),.str [],.nil (.slice none 0 0)]) (Elem.av ⟨[],[],[],[]⟩):=by
  rw[Elem.av_eq];exact FrzL.agg (.cons (.clo _ (.str _)) (.cons (.nils 2) (.cons (.clo _ (.str _)) (.cons (.nils 4) .nil)))) rfl
 exact U9 (FrzL.tup (.cons z (.cons (.clo _ (.int _ _)) .nil))) ⟨_,by rw[e];rfl,(fun x hx=>by rw[e]at hx;cases hx),fun _=>rfl,rfl⟩
theorem vf(l:List OE):∀o∈l,o.k.length≤szs Elem.sz (l.map OE.el)∧o.t.length≤szs Elem.sz (l.map OE.el):=by
 intro o ho;have h1:=i5 Elem.sz (List.mem_map_of_mem (f:=OE.el) ho);have h2:=er o.n o.a o.t o.k;have h3:=cF Elem.sz Elem.sz_pos o.k;have h4:(OE.el o).sz=(Elem.mk o.n o.a o.t o.k).sz:=rfl;omega
theorem qN{l:List Tok}{k:Nat}{t:Tok}{q:List Elem×List Elem}(hy:l[k]? =some t)(hq:foldB [] [] (l.take k)=some q):foldB [] [] (l.take (k+1))=stepB q.1 q.2 t:=by
 have e:l.take (k+1)=l.take k++[t]:=by rw[M8,hy];rfl
 rw[e,gV,hq,M7];show(stepB q.1 q.2 t).bind _=_;cases stepB q.1 q.2 t<;>rfl
theorem qO{l:List Tok}{k:Nat}(h:foldB [] [] (l.take k)=none):bldF l=none:=by
 rw[← gj];have:l=l.take k++l.drop k:=(S9 k l).symm;rw[this,gV,h];rfl
theorem qP(hG:GOk G)(hC:GClo (CT G))(l:List Tok)(hs:szs Tok.sz l≤1048576)(h:Heap):Sat (CT G) 40 [.sl 4 (l.map Tok.av)] h (PBldR h l):=by
 have hll:=cF Tok.sz Tok.sz_pos l;refine sb [.cell 2 35,.tmp 3] Tryz.func40 ?_;intro Q hQ;refine wk trivial ?_;have g0:getRow (h++[.row 35 4 0 [.agg [.str [],.nil (.slice none 0 0),.str [],.nil (.slice none 0 0)]],.row 102 2 0 [.agg [.nil (.slice none 0 0),.nil (.slice none 0 0)]]]) (h.length+1) 0=some (102,2,[.agg [.nil (.slice none 0 0),.nil (.slice none 0 0)]]):=by
  rw[jd _ rfl];rfl
 obtain⟨H1,hw,hfr,po,pd,hb⟩:=BH.start (C:=CT G) (n0:=h.length+1) g0 (H6 _);have keep:∀hh:Heap,FrN (h.length+1) (h++[.row 35 4 0 [.agg [.str [],.nil (.slice none 0 0),.str [],.nil (.slice none 0 0)]]]) hh→getRow hh h.length 0=some (35,4,[.agg [.str [],.nil (.slice none 0 0),.str [],.nil (.slice none 0 0)]]):=fun hh g=>by
  unfold getRow;rw[g h.length (by omega)];simp
 have hf0:FrN (h.length+1) (h++[.row 35 4 0 [.agg [.str [],.nil (.slice none 0 0),.str [],.nil (.slice none 0 0)]]]) H1∧h.length+1<H1.length:=by
  refine⟨fun p hp=>?_,by have:=hfr.2;simp at this;omega⟩;rw[hfr.1 p hp];rw[show ∀A B:Blk,h++[A,B]=(h++[A])++[B]from fun A B=>by simp,G9 (by simp;omega)]
 have base:∀H:Heap,FrN (h.length+1) (h++[.row 35 4 0 [.agg [.str [],.nil (.slice none 0 0),.str [],.nil (.slice none 0 0)]]]) H→FrN h.length h H:=fun H g p hp=>by
  rw[g p (by omega),G9 hp]
 refine lm (fun nL tL hL=>∃(k:Nat) (hh:Heap) (os:List OE) (ds:List Elem),l.length-k=nL∧hh=hL∧tL 11=.int .i64 k∧k≤l.length∧foldB [] [] (l.take k)=some (os.map OE.el,ds)∧(FrN (h.length+1) (h++[.row 35 4 0 [.agg [.str [],.nil (.slice none 0 0),.str [],.nil (.slice none 0 0)]]]) hh∧h.length+1<hh.length)∧(∃po vo room pd vd,BH hh (h.length+1) (h.length+1) po vo room os pd vd ds)) ((fun(k:Nat) (hh:Heap) (os:List OE) (ds:List Elem)=>(l.length-k:Nat)) (0) (H1) ([]) ([])) ?_ ?_
 ·refine⟨_,_,(hw _ _),⟨0,H1,[],[],rfl,aw,?_,by omega,rfl,hf0,⟨po,0,true,pd,0,hb⟩⟩⟩;all_goals try exact zZz trivial
 rintro _ s2 h' ⟨k,hh,os,ds,rfl,rfl,e11,hk,hq,hf,hb⟩ K2 hK2;simp only[am,ar,Nat.reduceEqDiff, ↓reduceIte]at e11;have F:=e11;refine wk F ?_;obtain⟨po,vo,room,pd,vd,hb⟩:=hb;obtain⟨hf,hfl⟩:=hf;have hcell:=keep hh hf;have hsz:=iP _ _ _ _ hq;have hkd:=vf os;have hln:=hsz.2 (by simp);have htk:szs Tok.sz (l.take k)≤szs Tok.sz l:=by
  conv=>rhs;rw[← S9 k l,ca]
  omega
 have hdl:=cF Elem.sz Elem.sz_pos ds;simp only[szs,I7]at hsz hln;refine cq F (fun c2=>?_) (fun c2=>?_)<;>(try exact c2.elim)<;>(refine wk F ?_)
 ·obtain⟨y,hy,hym⟩:=aj c2;have hys:=i5 Tok.sz hym;have F:=F2 F hy;try refine sq F ?_
  refine wk F ?_;refine(uJ G hG hC y (by omega) (hb.app _) (by omega) (by omega) (fun o ho=>by have:=(hkd o ho).1;omega) (fun o ho=>by have:=(hkd o ho).2;omega)).mono ?_;intro r h' gp;have hs:=qN hy hq;simp only[]at hs;rw[← hs]at gp;obtain⟨⟨gf,gl⟩,gp⟩:=gp;have hf2:FrN (h.length+1) (h++[.row 35 4 0 [.agg [.str [],.nil (.slice none 0 0),.str [],.nil (.slice none 0 0)]]]) h':=hf.trans (fun p hp=>by rw[gf p hp,G9 (by omega)]);rw[G4]at gl;have hcell2:=keep h' hf2;cases hc:foldB [] [] (l.take (k+1))with
  |none=>
   rw[hc]at gp;subst gp;have F:=F2 F @hcell2;(try refine sq F ?_);refine wk F ?_;refine ye hQ (F3 F @bE (ax hcell2)) ?_;exact PBldR.bad ((base _ hf2).trans (fun p hp=>K8 (by omega))) (by simp;omega) (qO hc)
  |some q=>
   rw[hc]at gp;obtain⟨rfl,po2,vo2,room2,os2,pd2,vd2,hb2,ho2⟩:=gp;obtain⟨q1,q2⟩:=q;simp only[]at hb2 ho2;subst ho2;(try refine sq F ?_);refine wk F ?_;refine hK2 _ _ _ (H5 ⟨k+1,h',os2,q2,rfl,aw,?_,by omega,hc,⟨hf2,by omega⟩,⟨po2,vo2,room2,pd2,vd2,hb2⟩⟩) (by omega);all_goals try exact zZz F
 ·rw[H9 (by omega)]at hq;have hB:=gj l;rw[hq]at hB;have hbb:=hb.b;have hbd:=hb.d;have hbo:=hb.o;have F:=F6 F hbb hbd hbo @hcell (@Option.isSome_some (TypeId×Nat×List AVal));try refine sq F ?_
  have hfin:∀x:Elem,ds=[x]→bldF l=some x→Fin h (hh.set h.length (.row 35 4 0 [x.av])) (PBldR h l) (.tup [x.av,.int .i64 0]):=fun x e1 e2=>by
   obtain⟨j,hj⟩:=FrN.split (H:=hh.set h.length (.row 35 4 0 [x.av])) ((base _ hf).trans (fun p hp=>K8 (by omega))) (by simp;omega);rw[hj];exact I3 (.tup _ (by intro c hc;simp at hc;rcases hc with rfl|rfl;exact Elem.clo _ _;exact .int _ _)) ⟨x,by rw[e2];rfl,(fun y hy=>by rw[e2]at hy;exact Option.some.inj hy),(fun hn=>by rw[e2]at hn;cases hn),rfl⟩
  have hbad:bldF l=none→Fin h (hh.set h.length (.row 35 4 0 [.agg [.str [],.nil (.slice none 0 0),.str [],.nil (.slice none 0 0)]])) (PBldR h l) (.tup [.agg [.str [],.nil (.slice none 0 0),.str [],.nil (.slice none 0 0)],.int .i64 90]):=fun e=>PBldR.bad ((base _ hf).trans (fun p hp=>K8 (by omega))) (by simp;omega) e
  (first|refine gq F (fun g1=>?_) (fun g1=>?_)|refine pq F (fun g1=>?_) (fun g1=>?_))<;>(try exact g1.elim)<;>(try refine sq F ?_)<;>(refine wk F ?_)
  ·refine ye hQ (F3 F @bE (ax hcell)) ?_;refine hbad ?_;rw[← hB]
   match os,ds,g1 with
   | [],[],_=>rfl
   | [],[x],g1=>exact absurd rfl g1
   | [],x::y::z,_=>rfl
   |o::z,_,_=>rfl
  ·obtain⟨x,rfl⟩:∃x,ds=[x]:=List.length_eq_one_iff.1 (by omega);have hdx:([x].map Elem.av)[0]? =some x.av:=rfl;have F:=F2 F hdx;(try refine sq F ?_);refine cq F (fun g2=>?_) (fun g2=>?_)<;>(try exact g2.elim)<;>(refine wk F ?_)
   ·refine ye hQ (F3 F @bE (ax hcell)) ?_;refine hbad ?_;rw[← hB]
    match os,g2 with
    | [],g2=>simp at g2
    |o::z,_=>rfl
   ·refine ye hQ (F3 F @bE (ax hcell)) ?_;have ho:os=[]:=L3.1 (by omega);subst ho;exact hfin x rfl hB.symm
theorem qQ(hG:GOk G)(hC:GClo (CT G))(s:Bs)(hs:s.length≤4194304)(h:Heap):Sat (CT G) 22 [.str s] h (PrsR h s):=by
 have hsz:szs Tok.sz (toksF s).1≤1048576:=by have:=kT s;omega
 refine sb [.cell 2 35,.tmp 3] Tryz.func22 ?_;intro Q hQ;refine wk trivial ?_;refine(nJ G hG s (by omega) _).mono ?_;rintro r h' ⟨a,rfl,rfl⟩;try refine sq trivial ?_
 refine wk trivial ?_;by_cases c0:(toksF s).2=0
 ·have b0:((toksF s).2 !=0)=false:=by simpa using c0
  have F:=b0;try refine sq F ?_
  refine wk F ?_;refine(qP G hG hC (toksF s).1 hsz _).mono ?_;rintro r h' ⟨e,rfl,he,hz,rfl⟩;try refine sq F ?_
  refine wk F ?_;refine ye hQ F ?_;have hp:prsC s=if (bldF (toksF s).1).isSome then 0 else 90:=by unfold prsC;rw[G5 c0]
  exact I3 (.tup _ (by intro c hc;simp at hc;rcases hc with rfl|rfl;exact Elem.clo _ _;exact .int _ _)) ⟨e,by rw[hp],(fun y _ hy=>he y hy),(fun hne=>hz (by cases hb:bldF (toksF s).1 with|none=>rfl|some x=>rw[hp,hb]at hne;exact absurd rfl hne)),rfl⟩
 ·have b0:((toksF s).2 !=0)=true:=by simpa using c0
  have F:=b0;try refine sq F ?_
  refine wk F ?_;refine ye hQ F ?_;exact PrsR.bad _ _ (by unfold prsC;rw[G2 c0]) c0
end Go.Av
