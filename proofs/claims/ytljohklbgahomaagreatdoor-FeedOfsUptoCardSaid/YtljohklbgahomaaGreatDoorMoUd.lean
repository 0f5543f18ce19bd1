/- The document's answers for texts of runes. -/
import Derived.Test.YtljohklbgahomaaGreatDoorMoRn
set_option linter.unusedSimpArgs false
set_option linter.unusedVariables false
set_option linter.unusedSectionVars false
set_option linter.unnecessarySimpa false
set_option maxRecDepth 100000
set_option maxHeartbeats 16000000
namespace Go.Av
open Go Go.Proofs Go.RowKit
attribute [local irreducible] WP WPl WPix Sat
variable {G:Nat→Option (List AVal)}
end Go.Av
namespace Go.Av
open Go Go.Proofs Go.RowKit
attribute [local irreducible] WP WPl WPix Sat
variable (G:Nat→Option (List AVal))
def bA(s:Bs)(i:Nat):Nat:=(s.getD i 0).toNat
theorem ph(s:Bs)(i:Nat):bA s i<256:=UInt8.toNat_lt _
theorem pi{s:Bs}{i:Nat}{c:UInt8}(h:s[i]? =some c):bA s i=c.toNat:=by unfold bA;rw[List.getD_eq_getElem?_getD,h];rfl
def Cls(b:Nat)(n:Nat)(r l:Int):Prop:=
 (192≤b∧b<224∧n=2∧r=b-192∧l=128)∨(224≤b∧b<240∧n=3∧r=b-224∧l=2048)∨(240≤b∧b<248∧n=4∧r=b-240∧l=65536)
def accI(s:Bs)(r:Int):Nat→Int
 |0=>r
 |i+1=>accI s r i*64+(bA s (i+1)-128)
theorem j8(s:Bs):dec s 0=Lib.decodeN s.length (bA s 0) (bA s 1) (bA s 2) (bA s 3):=by rw[fA];rfl
theorem gL(s:Bs)(h:(128≤bA s 0∧bA s 0<192)∨248≤bA s 0):dec s 0=(65533,1):=by
 rw[j8]
 have:=ph s 0
 unfold Lib.decodeN
 rw[if_neg (by omega),if_neg (by omega),if_neg (by omega),if_neg (by omega)]
theorem kE(s:Bs){n:Nat}{r l:Int}(hc:Cls (bA s 0) n r l)(h:s.length<n):dec s 0=(65533,1):=by
 rw[j8]
 unfold Cls at hc
 unfold Lib.decodeN
 rw[if_neg (by omega),if_neg (by omega),if_neg (by omega),if_neg (by omega)]
theorem mn(s:Bs){n:Nat}{r l:Int}(hc:Cls (bA s 0) n r l)(i:Nat)(h1:1≤i)(h2:i<n)(h:¬(128≤bA s i∧bA s i<192)):dec s 0=(65533,1):=by
 rw[j8]
 unfold Cls at hc
 have:=ph s i
 unfold Lib.decodeN
 have hi:i=1∨i=2∨i=3:=by omega
 rcases hi with rfl|rfl|rfl<;>rw[if_neg (by omega),if_neg (by omega),if_neg (by omega),if_neg (by omega)]
theorem nJ(s:Bs){n:Nat}{r l:Int}(hc:Cls (bA s 0) n r l)(hn:n≤s.length)(ht:∀i,1≤i→i<n→128≤bA s i∧bA s i<192):
  ((accI s r (n-1)<l∨1114111<accI s r (n-1)∨(55296≤accI s r (n-1)∧accI s r (n-1)≤57343))→dec s 0=(65533,1))∧
  (¬(accI s r (n-1)<l∨1114111<accI s r (n-1)∨(55296≤accI s r (n-1)∧accI s r (n-1)≤57343))→((dec s 0).1:Int)=accI s r (n-1)∧(dec s 0).2=n):=by
 rw[j8]
 unfold Cls at hc
 rcases hc with⟨h1,h2,rfl,rfl,rfl⟩| ⟨h1,h2,rfl,rfl,rfl⟩| ⟨h1,h2,rfl,rfl,rfl⟩
 ·have t1:=ht 1 (by omega) (by omega)
  simp only[accI,Nat.reduceSub,Nat.reduceAdd]
  unfold Lib.decodeN
  rw[if_neg (by omega),if_pos (by omega)]
  constructor
  ·intro h;rw[if_neg (by omega)]
  ·intro h;rw[if_pos (by omega)];dsimp only;refine⟨?_,rfl⟩;omega
 ·have t1:=ht 1 (by omega) (by omega)
  have t2:=ht 2 (by omega) (by omega)
  simp only[accI,Nat.reduceSub,Nat.reduceAdd]
  unfold Lib.decodeN
  rw[if_neg (by omega),if_neg (by omega),if_pos (by omega)]
  constructor
  ·intro h;rw[if_neg (by omega)]
  ·intro h;rw[if_pos (by omega)];dsimp only;refine⟨?_,rfl⟩;omega
 ·have t1:=ht 1 (by omega) (by omega)
  have t2:=ht 2 (by omega) (by omega)
  have t3:=ht 3 (by omega) (by omega)
  simp only[accI,Nat.reduceSub,Nat.reduceAdd]
  unfold Lib.decodeN
  rw[if_neg (by omega),if_neg (by omega),if_neg (by omega),if_pos (by omega)]
  constructor
  ·intro h;rw[if_neg (by omega)]
  ·intro h;rw[if_pos (by omega)];dsimp only;refine⟨?_,rfl⟩;omega
theorem nK(b:UInt8)(h:Heap):Sat (CT G) 135 [.int .u8 b.toNat] h (fun r h'=>r=.bool (decide (128≤b.toNat∧b.toNat<192))∧h'=h):=by
 refine sb [.tmp 2] (fn:=Tryz.f135) Tryz.func135 ?_
 intro Q hQ
 refine wk trivial ?_
 (first|refine gq trivial (fun g1=>?_) (fun g1=>?_)|refine pq trivial (fun g1=>?_) (fun g1=>?_))<;>(try exact g1.elim)<;>(try refine sq trivial ?_)<;>(refine wk trivial ?_)
 ·refine ee hQ trivial ?_
  refine fR (.bool _) ?_
  congr 1
  rw[Bool.eq_iff_iff];simp;omega
 ·refine ee hQ trivial ?_
  refine fR (.bool _) ?_
  rw[decide_eq_false (by omega)]
theorem p3(k:IntKind)(n:Int)(h0:0≤n)(h1:n<256):aconv Tryz.prog 5 21 (.int k n)=some (.int .i32 n):=by simp only[aconv,go_sem,dj (x:=n) (by omega) (by omega)]
theorem iR(s:Bs)(hne:s≠ [])(hs:s.length≤1073741824)(h:Heap):Sat (CT G) 95 [.str s] h (fun r h'=>r=.tup [.int .i32 (dec s 0).1,.int .i64 (dec s 0).2]∧h'=h):=by
 have hpos:0<s.length:=List.length_pos_iff.2 hne
 obtain⟨b,hb,_⟩:=af hpos
 have hbA:=pi hb
 have hb256:=b.toNat_lt
 have fin:∀c w:Int,((dec s 0).1:Int)=c→((dec s 0).2:Int)=w→Fin h h (fun r h'=>r=.tup [.int .i32 (dec s 0).1,.int .i64 (dec s 0).2]∧h'=h) (.tup [.int .i32 c,.int .i64 w]):=fun c w e1 e2=>by
  rw[e1,e2]
  exact Fin.same (.tup _ (by intro c hc;simp at hc;rcases hc with rfl|rfl<;>exact .int _ _)) ⟨rfl,rfl⟩
 have bad:dec s 0=(65533,1)→Fin h h (fun r h'=>r=.tup [.int .i32 (dec s 0).1,.int .i64 (dec s 0).2]∧h'=h) (.tup [.int .i32 65533,.int .i64 1]):=fun e=>fin _ _ (by rw[e];rfl) (by rw[e];rfl)
 have F:=F4 @p3 @iJ @dj hb
 refine sb [.tmp 2,.tmp 3] (fn:=Tryz.f95) Tryz.func95 ?_
 intro Q hQ
 (repeat (first|refine w1 (fun K hK=>?_)|refine w2 ?_|refine w3 ?_| ((first|refine w4 ?_|refine wD ?_|refine w5 ?_|refine w6 ?_|refine w7 ?_);try refine sq F ?_)| (refine w8 ?_;refine sq F ?_;refine w9 ?_)| ((first|refine hK _ _ (w0 ?_)| (clear hK K;refine hK _ _ (w0 ?_))| (clear hK K;clear hK K;refine hK _ _ (w0 ?_)));clear hK K)))
 refine cq F (fun c1=>?_) (fun c1=>?_)<;>(try exact c1.elim)<;>((repeat (first|refine w1 (fun K hK=>?_)|refine w2 ?_|refine w3 ?_| ((first|refine w4 ?_|refine wD ?_|refine w5 ?_|refine w6 ?_|refine w7 ?_);try refine sq F ?_)| (refine w8 ?_;refine sq F ?_;refine w9 ?_)| ((first|refine hK _ _ (w0 ?_)| (clear hK K;refine hK _ _ (w0 ?_))| (clear hK K;clear hK K;refine hK _ _ (w0 ?_)));clear hK K))))
 ·refine ee hQ F ?_
  have e:=eZ s 0 b hb (by omega)
  exact fin _ _ (by rw[e]) (by rw[e];rfl)
 rename_i K0 hK0
 have tail:∀(t':Env) (n:Nat) (r l:Int),Cls (bA s 0) n r l→t' 0=.str s→t' 5=.int .i64 n→t' 6=.int .i32 r→t' 7=.int .i32 l→K0 t' h:=by
  intro t' n r l hc e0 e5 e6 e7
  refine hK0 _ _ (Wkn.refl ?_)
  clear hK0 K0 hK K
  have F:=F5 F e0 e5 e6 e7
  (repeat (first|refine w1 (fun K hK=>?_)|refine w2 ?_|refine w3 ?_| ((first|refine w4 ?_|refine wD ?_|refine w5 ?_|refine w6 ?_|refine w7 ?_);try refine sq F ?_)| (refine w8 ?_;refine sq F ?_;refine w9 ?_)| ((first|refine hK _ _ (w0 ?_)| (clear hK K;refine hK _ _ (w0 ?_))| (clear hK K;clear hK K;refine hK _ _ (w0 ?_)));clear hK K)))
  refine cq F (fun c2=>?_) (fun c2=>?_)<;>(try exact c2.elim)<;>((repeat (first|refine w1 (fun K hK=>?_)|refine w2 ?_|refine w3 ?_| ((first|refine w4 ?_|refine wD ?_|refine w5 ?_|refine w6 ?_|refine w7 ?_);try refine sq F ?_)| (refine w8 ?_;refine sq F ?_;refine w9 ?_)| ((first|refine hK _ _ (w0 ?_)| (clear hK K;refine hK _ _ (w0 ?_))| (clear hK K;clear hK K;refine hK _ _ (w0 ?_)));clear hK K))))
  ·refine ee hQ F ?_
   exact bad (kE s hc (by omega))
  have hc':=hc
  unfold Cls at hc'
  refine lm (fun nL tL hL=>∃(i:Nat) (q:Int),n-i=nL∧h=hL∧tL 6=.int .i32 q∧tL 8=.int .i64 i∧(1≤i∧i≤n)∧q=accI s r (i-1)∧(0≤q∧(i=1→q<32)∧(i=2→q<2048)∧(i=3→q<131072)∧(i=4→q<8388608))∧(∀j,1≤j→j<i→128≤bA s j∧bA s j<192)) ((fun(i:Nat) (q:Int)=>(n-i:Nat)) (1) (r)) ?_ ?_
  ·refine Wkn.refl ⟨1,r,rfl,ay,?_,?_,⟨by omega,by omega⟩,rfl,⟨by omega,by omega,by omega,by omega,by omega⟩,fun j h1 h2=>by omega⟩
   all_goals first|exact zq F|rfl|omega|trivial|skip
  rintro _ s1 h' ⟨i,q,rfl,rfl,e6,e8,hi,hq,hb,ht⟩ K1 hK1
  simp only[ak,ao,Nat.reduceEqDiff, ↓reduceIte]at e6 e8
  have F:=F3 F e6 e8
  (repeat (first|refine w1 (fun K hK=>?_)|refine w2 ?_|refine w3 ?_| ((first|refine w4 ?_|refine wD ?_|refine w5 ?_|refine w6 ?_|refine w7 ?_);try refine sq F ?_)| (refine w8 ?_;refine sq F ?_;refine w9 ?_)| ((first|refine hK _ _ (w0 ?_)| (clear hK K;refine hK _ _ (w0 ?_))| (clear hK K;clear hK K;refine hK _ _ (w0 ?_)));clear hK K)))
  refine cq F (fun c3=>?_) (fun c3=>?_)<;>(try exact c3.elim)<;>((repeat (first|refine w1 (fun K hK=>?_)|refine w2 ?_|refine w3 ?_| ((first|refine w4 ?_|refine wD ?_|refine w5 ?_|refine w6 ?_|refine w7 ?_);try refine sq F ?_)| (refine w8 ?_;refine sq F ?_;refine w9 ?_)| ((first|refine hK _ _ (w0 ?_)| (clear hK K;refine hK _ _ (w0 ?_))| (clear hK K;clear hK K;refine hK _ _ (w0 ?_)));clear hK K))))
  ·obtain⟨y,hy,_⟩:=af (show i<s.length by omega)
   have hyA:=pi hy
   have hy256:=y.toNat_lt
   have F:=F2 F hy
   try refine sq F ?_
   (repeat (first|refine w1 (fun K hK=>?_)|refine w2 ?_|refine w3 ?_| ((first|refine w4 ?_|refine wD ?_|refine w5 ?_|refine w6 ?_|refine w7 ?_);try refine sq F ?_)| (refine w8 ?_;refine sq F ?_;refine w9 ?_)| ((first|refine hK _ _ (w0 ?_)| (clear hK K;refine hK _ _ (w0 ?_))| (clear hK K;clear hK K;refine hK _ _ (w0 ?_)));clear hK K)))
   refine(nK G y _).mono ?_
   rintro r h' ⟨rfl,rfl⟩
   try refine sq F ?_
   (repeat (first|refine w1 (fun K hK=>?_)|refine w2 ?_|refine w3 ?_| ((first|refine w4 ?_|refine wD ?_|refine w5 ?_|refine w6 ?_|refine w7 ?_);try refine sq F ?_)| (refine w8 ?_;refine sq F ?_;refine w9 ?_)| ((first|refine hK _ _ (w0 ?_)| (clear hK K;refine hK _ _ (w0 ?_))| (clear hK K;clear hK K;refine hK _ _ (w0 ?_)));clear hK K)))
   refine cq F (fun c4=>?_) (fun c4=>?_)<;>(try exact c4.elim)<;>((repeat (first|refine w1 (fun K hK=>?_)|refine w2 ?_|refine w3 ?_| ((first|refine w4 ?_|refine wD ?_|refine w5 ?_|refine w6 ?_|refine w7 ?_);try refine sq F ?_)| (refine w8 ?_;refine sq F ?_;refine w9 ?_)| ((first|refine hK _ _ (w0 ?_)| (clear hK K;refine hK _ _ (w0 ?_))| (clear hK K;clear hK K;refine hK _ _ (w0 ?_)));clear hK K))))
   ·refine ee hQ F ?_
    exact bad (mn s hc i hi.1 c3 (by rw[hyA];omega))
   ·have hacc:accI s r i=accI s r (i-1)*64+(bA s i-128):=by
     obtain⟨k,rfl⟩:∃k,i=k+1:=⟨i-1,by omega⟩
     rfl
    have hi4:i=1∨i=2∨i=3:=by omega
    have ht':∀j,1≤j→j<i+1→128≤bA s j∧bA s j<192:=fun j h1 h2=>by
     rcases Nat.lt_or_ge j i with h3|h3
     ·exact ht j h1 h3
     ·obtain rfl:j=i:=by omega
      rw[hyA];omega
    have hq':q*64+((y.toNat:Int)-128)=accI s r (i+1-1):=by rw[Nat.add_sub_cancel,hacc, ← hq,hyA]
    try refine sq F ?_
    (repeat (first|refine w1 (fun K hK=>?_)|refine w2 ?_|refine w3 ?_| ((first|refine w4 ?_|refine wD ?_|refine w5 ?_|refine w6 ?_|refine w7 ?_);try refine sq F ?_)| (refine w8 ?_;refine sq F ?_;refine w9 ?_)| ((first|refine hK _ _ (w0 ?_)| (clear hK K;refine hK _ _ (w0 ?_))| (clear hK K;clear hK K;refine hK _ _ (w0 ?_)));clear hK K)))
    refine hK1 _ _ _ (Wkn.refl ⟨i+1,q*64+(y.toNat-128),rfl,ay,?_,?_,⟨by omega,by omega⟩,hq',by omega,ht'⟩) (by omega)
    all_goals first|exact zq F|rfl|omega|trivial|skip
  ·have hin:i=n:=by omega
   subst hin
   obtain⟨f1,f2⟩:=nJ s hc (by omega) ht
   rw[← hq]at f1 f2
   try refine sq F ?_
   (repeat (first|refine w1 (fun K hK=>?_)|refine w2 ?_|refine w3 ?_| ((first|refine w4 ?_|refine wD ?_|refine w5 ?_|refine w6 ?_|refine w7 ?_);try refine sq F ?_)| (refine w8 ?_;refine sq F ?_;refine w9 ?_)| ((first|refine hK _ _ (w0 ?_)| (clear hK K;refine hK _ _ (w0 ?_))| (clear hK K;clear hK K;refine hK _ _ (w0 ?_)));clear hK K)))
   (first|refine gq F (fun g1=>?_) (fun g1=>?_)|refine pq F (fun g1=>?_) (fun g1=>?_))<;>(try exact g1.elim)<;>(try refine sq F ?_)<;>((repeat (first|refine w1 (fun K hK=>?_)|refine w2 ?_|refine w3 ?_| ((first|refine w4 ?_|refine wD ?_|refine w5 ?_|refine w6 ?_|refine w7 ?_);try refine sq F ?_)| (refine w8 ?_;refine sq F ?_;refine w9 ?_)| ((first|refine hK _ _ (w0 ?_)| (clear hK K;refine hK _ _ (w0 ?_))| (clear hK K;clear hK K;refine hK _ _ (w0 ?_)));clear hK K))))
   ·refine ee hQ F ?_
    exact bad (f1 (by omega))
   ·(first|refine gq F (fun g2=>?_) (fun g2=>?_)|refine pq F (fun g2=>?_) (fun g2=>?_))<;>(try exact g2.elim)<;>(try refine sq F ?_)<;>((repeat (first|refine w1 (fun K hK=>?_)|refine w2 ?_|refine w3 ?_| ((first|refine w4 ?_|refine wD ?_|refine w5 ?_|refine w6 ?_|refine w7 ?_);try refine sq F ?_)| (refine w8 ?_;refine sq F ?_;refine w9 ?_)| ((first|refine hK _ _ (w0 ?_)| (clear hK K;refine hK _ _ (w0 ?_))| (clear hK K;clear hK K;refine hK _ _ (w0 ?_)));clear hK K))))
    ·refine ee hQ F ?_
     exact bad (f1 (by omega))
    ·(first|refine gq F (fun g3=>?_) (fun g3=>?_)|refine pq F (fun g3=>?_) (fun g3=>?_))<;>(try exact g3.elim)<;>(try refine sq F ?_)<;>((repeat (first|refine w1 (fun K hK=>?_)|refine w2 ?_|refine w3 ?_| ((first|refine w4 ?_|refine wD ?_|refine w5 ?_|refine w6 ?_|refine w7 ?_);try refine sq F ?_)| (refine w8 ?_;refine sq F ?_;refine w9 ?_)| ((first|refine hK _ _ (w0 ?_)| (clear hK K;refine hK _ _ (w0 ?_))| (clear hK K;clear hK K;refine hK _ _ (w0 ?_)));clear hK K))))
     ·refine cq F (fun g4=>?_) (fun g4=>?_)<;>(try exact g4.elim)<;>((repeat (first|refine w1 (fun K hK=>?_)|refine w2 ?_|refine w3 ?_| ((first|refine w4 ?_|refine wD ?_|refine w5 ?_|refine w6 ?_|refine w7 ?_);try refine sq F ?_)| (refine w8 ?_;refine sq F ?_;refine w9 ?_)| ((first|refine hK _ _ (w0 ?_)| (clear hK K;refine hK _ _ (w0 ?_))| (clear hK K;clear hK K;refine hK _ _ (w0 ?_)));clear hK K))))
      ·refine ee hQ F ?_
       exact bad (f1 (by omega))
      ·refine ee hQ F ?_
       exact fin _ _ (f2 (by omega)).1 (by rw[(f2 (by omega)).2])
     ·refine ee hQ F ?_
      exact fin _ _ (f2 (by omega)).1 (by rw[(f2 (by omega)).2])
 (first|refine gq F (fun g1=>?_) (fun g1=>?_)|refine pq F (fun g1=>?_) (fun g1=>?_))<;>(try exact g1.elim)<;>(try refine sq F ?_)<;>((repeat (first|refine w1 (fun K hK=>?_)|refine w2 ?_|refine w3 ?_| ((first|refine w4 ?_|refine wD ?_|refine w5 ?_|refine w6 ?_|refine w7 ?_);try refine sq F ?_)| (refine w8 ?_;refine sq F ?_;refine w9 ?_)| ((first|refine hK _ _ (w0 ?_)| (clear hK K;refine hK _ _ (w0 ?_))| (clear hK K;clear hK K;refine hK _ _ (w0 ?_)));clear hK K))))
 ·refine cq F (fun g2=>?_) (fun g2=>?_)<;>(try exact g2.elim)<;>((repeat (first|refine w1 (fun K hK=>?_)|refine w2 ?_|refine w3 ?_| ((first|refine w4 ?_|refine wD ?_|refine w5 ?_|refine w6 ?_|refine w7 ?_);try refine sq F ?_)| (refine w8 ?_;refine sq F ?_;refine w9 ?_)| ((first|refine hK _ _ (w0 ?_)| (clear hK K;refine hK _ _ (w0 ?_))| (clear hK K;clear hK K;refine hK _ _ (w0 ?_)));clear hK K))))
  ·refine tail _ 2 (b.toNat-192) 128 ?_ ?_ ?_ ?_ ?_
   ·unfold Cls;omega
   ·exact zq F
   ·exact zq F
   ·exact zq F
   ·exact zq F
  ·(first|refine gq F (fun g3=>?_) (fun g3=>?_)|refine pq F (fun g3=>?_) (fun g3=>?_))<;>(try exact g3.elim)<;>(try refine sq F ?_)<;>((repeat (first|refine w1 (fun K hK=>?_)|refine w2 ?_|refine w3 ?_| ((first|refine w4 ?_|refine wD ?_|refine w5 ?_|refine w6 ?_|refine w7 ?_);try refine sq F ?_)| (refine w8 ?_;refine sq F ?_;refine w9 ?_)| ((first|refine hK _ _ (w0 ?_)| (clear hK K;refine hK _ _ (w0 ?_))| (clear hK K;clear hK K;refine hK _ _ (w0 ?_)));clear hK K))))
   ·refine cq F (fun g4=>?_) (fun g4=>?_)<;>(try exact g4.elim)<;>((repeat (first|refine w1 (fun K hK=>?_)|refine w2 ?_|refine w3 ?_| ((first|refine w4 ?_|refine wD ?_|refine w5 ?_|refine w6 ?_|refine w7 ?_);try refine sq F ?_)| (refine w8 ?_;refine sq F ?_;refine w9 ?_)| ((first|refine hK _ _ (w0 ?_)| (clear hK K;refine hK _ _ (w0 ?_))| (clear hK K;clear hK K;refine hK _ _ (w0 ?_)));clear hK K))))
    ·refine tail _ 3 (b.toNat-224) 2048 ?_ ?_ ?_ ?_ ?_
     ·unfold Cls;omega
     ·exact zq F
     ·exact zq F
     ·exact zq F
     ·exact zq F
    ·(first|refine gq F (fun g5=>?_) (fun g5=>?_)|refine pq F (fun g5=>?_) (fun g5=>?_))<;>(try exact g5.elim)<;>(try refine sq F ?_)<;>((repeat (first|refine w1 (fun K hK=>?_)|refine w2 ?_|refine w3 ?_| ((first|refine w4 ?_|refine wD ?_|refine w5 ?_|refine w6 ?_|refine w7 ?_);try refine sq F ?_)| (refine w8 ?_;refine sq F ?_;refine w9 ?_)| ((first|refine hK _ _ (w0 ?_)| (clear hK K;refine hK _ _ (w0 ?_))| (clear hK K;clear hK K;refine hK _ _ (w0 ?_)));clear hK K))))
     ·refine cq F (fun g6=>?_) (fun g6=>?_)<;>(try exact g6.elim)<;>((repeat (first|refine w1 (fun K hK=>?_)|refine w2 ?_|refine w3 ?_| ((first|refine w4 ?_|refine wD ?_|refine w5 ?_|refine w6 ?_|refine w7 ?_);try refine sq F ?_)| (refine w8 ?_;refine sq F ?_;refine w9 ?_)| ((first|refine hK _ _ (w0 ?_)| (clear hK K;refine hK _ _ (w0 ?_))| (clear hK K;clear hK K;refine hK _ _ (w0 ?_)));clear hK K))))
      ·refine tail _ 4 (b.toNat-240) 65536 ?_ ?_ ?_ ?_ ?_
       ·unfold Cls;omega
       ·exact zq F
       ·exact zq F
       ·exact zq F
       ·exact zq F
      ·refine ee hQ F ?_
       exact bad (gL s (by omega))
     ·exfalso;omega
   ·exfalso;omega
 ·(first|refine gq F (fun g3=>?_) (fun g3=>?_)|refine pq F (fun g3=>?_) (fun g3=>?_))<;>(try exact g3.elim)<;>(try refine sq F ?_)<;>((repeat (first|refine w1 (fun K hK=>?_)|refine w2 ?_|refine w3 ?_| ((first|refine w4 ?_|refine wD ?_|refine w5 ?_|refine w6 ?_|refine w7 ?_);try refine sq F ?_)| (refine w8 ?_;refine sq F ?_;refine w9 ?_)| ((first|refine hK _ _ (w0 ?_)| (clear hK K;refine hK _ _ (w0 ?_))| (clear hK K;clear hK K;refine hK _ _ (w0 ?_)));clear hK K))))
  ·exfalso;omega
  ·(first|refine gq F (fun g5=>?_) (fun g5=>?_)|refine pq F (fun g5=>?_) (fun g5=>?_))<;>(try exact g5.elim)<;>(try refine sq F ?_)<;>((repeat (first|refine w1 (fun K hK=>?_)|refine w2 ?_|refine w3 ?_| ((first|refine w4 ?_|refine wD ?_|refine w5 ?_|refine w6 ?_|refine w7 ?_);try refine sq F ?_)| (refine w8 ?_;refine sq F ?_;refine w9 ?_)| ((first|refine hK _ _ (w0 ?_)| (clear hK K;refine hK _ _ (w0 ?_))| (clear hK K;clear hK K;refine hK _ _ (w0 ?_)));clear hK K))))
   ·exfalso;omega
   ·refine ee hQ F ?_
    exact bad (gL s (by omega))
end Go.Av
namespace Go.Av
open Go Go.Proofs Go.RowKit
attribute [local irreducible] WP WPl WPix Sat
variable (G:Nat→Option (List AVal))
theorem p4:∀(l:List Int),∀r∈l.map runA,∀c∈r.cells,c.sto=true:=fun l r hr c hc=>by
 obtain⟨a,_,rfl⟩:=List.mem_map.1 hr
 simp[runA,AVal.cells]at hc;subst hc;rfl
theorem p5:∀(n:Nat) (l:List Int),∀r∈l.map runA,Clo n r:=fun n l r hr=>by
 obtain⟨a,_,rfl⟩:=List.mem_map.1 hr;exact .int _ _
theorem Frz.runes{h:Heap}{n q v e:Nat}{l:List Int}{len:Nat}{room:Bool}(hq:n≤q)(hg:getRow h q v=some (e,1,l.map runA))(hlen:len=l.length):Frz h n (.hs q v 0 len room) (.sl 1 (l.map runA)):=
 Frz.data hq hg (by simpa using hlen) (fun r hr=>p5 _ l r hr) (fun r hr=>p4 l r hr)
theorem nM(s:Bs)(hs:s.length≤1048576)(h:Heap):Sat (CT G) 96 [.str s] h (fun r h'=>r=.sl 1 ((runesF s).map runA)∧h'=h):=by
 refine sb [.tmp 2] (fn:=Tryz.f96) Tryz.func96 ?_
 intro Q hQ
 refine wk trivial ?_
 refine lm (fun nL tL hL=>∃(k v:Nat) (acc:List Int),s.length-k=nL∧h++[.row 21 1 v (acc.map runA)]=hL∧tL 0=.str (s.drop k)∧tL 3=.hs h.length v 0 acc.length true∧k≤s.length∧acc.length≤k∧acc++runesF (s.drop k)=runesF s) ((fun(k v:Nat) (acc:List Int)=>(s.length-k:Nat)) (0) (0) ([])) ?_ ?_
 ·refine⟨_,_,Weak.virt 3 21 1 (by simp) (by omega) (by exact zq trivial),⟨0,0,[],rfl,ay,?_,?_,?_,?_,?_⟩⟩
  all_goals first|exact zq trivial|rfl|omega|trivial|skip
 rintro _ s2 h' ⟨k,v,acc,rfl,rfl,e0,e3,hk,hl,hp⟩ K2 hK2
 simp only[ak,ao,Nat.reduceEqDiff, ↓reduceIte]at e0 e3
 have F:=F2 e0 e3
 refine wk F ?_
 refine cq F (fun c1=>?_) (fun c1=>?_)<;>(try exact c1.elim)<;>(refine wk F ?_)
 ·simp only[List.length_drop]at c1
  have hlt:k<s.length:=by omega
  have hp2:=bc s k hlt
  rw[iG s k hlt]at hp
  have hne:s.drop k≠ []:=by intro e;have:=congrArg List.length e;simp at this;omega
  refine(iR G (s.drop k) hne (by simp;omega) _).mono ?_
  rintro r h' ⟨rfl,rfl⟩
  rw[← dV]
  generalize dec s k=d at*
  obtain⟨c,m⟩:=d
  simp only[]at hp hp2 ⊢
  have hsl:m≤(s.drop k).length:=by simp;omega
  have hdd:(s.drop k).drop m=s.drop (k+m):=List.drop_drop ..
  have F:=F3 F hsl hdd
  try refine sq F ?_
  refine wk F ?_
  refine aq F ?_
  try refine sq F ?_
  refine wk F ?_
  refine hK2 _ _ _ (Wkn.refl ⟨k+m,v+1,acc++[(c:Int)],rfl,ay,?_,?_,by omega,by simp;omega,by rw[← hp];simp⟩) (by omega)
  all_goals first|exact zq F|rfl|omega|trivial|skip
 ·simp only[List.length_drop]at c1
  rw[gD s k (by omega),List.append_nil]at hp
  refine wk F ?_
  refine ee hQ F ?_
  rw[← hp]
  exact Fin.frz (Frz.runes (Nat.le_refl _) (by simp[getRow];rfl) rfl) ⟨rfl,rfl⟩
theorem mq(c:Int)(h:Heap):Sat (CT G) 97 [.int .i32 c] h (fun r h'=>r=.bool (blankR c)∧h'=h):=by
 have yes:(c=9∨c=10∨c=13∨c=32∨c=160∨c=8232∨c=8233∨c=12288)→blankR c=true:=fun h=>decide_eq_true h
 have no:¬(c=9∨c=10∨c=13∨c=32∨c=160∨c=8232∨c=8233∨c=12288)→blankR c=false:=fun h=>decide_eq_false h
 refine sb [.tmp 2] (fn:=Tryz.f97) Tryz.func97 ?_
 intro Q hQ
 refine wk trivial ?_
 (first|refine gq trivial (fun g0=>?_) (fun g0=>?_)|refine pq trivial (fun g0=>?_) (fun g0=>?_))<;>(try exact g0.elim)<;>(try refine sq trivial ?_)<;>(refine wk trivial ?_)
 ·refine ee hQ trivial ?_
  refine fR (.bool _) ?_
  rw[yes (by omega)]
 ·(first|refine gq trivial (fun g1=>?_) (fun g1=>?_)|refine pq trivial (fun g1=>?_) (fun g1=>?_))<;>(try exact g1.elim)<;>(try refine sq trivial ?_)<;>(refine wk trivial ?_)
  ·refine ee hQ trivial ?_
   refine fR (.bool _) ?_
   rw[yes (by omega)]
  ·(first|refine gq trivial (fun g2=>?_) (fun g2=>?_)|refine pq trivial (fun g2=>?_) (fun g2=>?_))<;>(try exact g2.elim)<;>(try refine sq trivial ?_)<;>(refine wk trivial ?_)
   ·refine ee hQ trivial ?_
    refine fR (.bool _) ?_
    rw[yes (by omega)]
   ·(first|refine gq trivial (fun g3=>?_) (fun g3=>?_)|refine pq trivial (fun g3=>?_) (fun g3=>?_))<;>(try exact g3.elim)<;>(try refine sq trivial ?_)<;>(refine wk trivial ?_)
    ·refine ee hQ trivial ?_
     refine fR (.bool _) ?_
     rw[yes (by omega)]
    ·(first|refine gq trivial (fun g4=>?_) (fun g4=>?_)|refine pq trivial (fun g4=>?_) (fun g4=>?_))<;>(try exact g4.elim)<;>(try refine sq trivial ?_)<;>(refine wk trivial ?_)
     ·refine ee hQ trivial ?_
      refine fR (.bool _) ?_
      rw[yes (by omega)]
     ·(first|refine gq trivial (fun g5=>?_) (fun g5=>?_)|refine pq trivial (fun g5=>?_) (fun g5=>?_))<;>(try exact g5.elim)<;>(try refine sq trivial ?_)<;>(refine wk trivial ?_)
      ·refine ee hQ trivial ?_
       refine fR (.bool _) ?_
       rw[yes (by omega)]
      ·(first|refine gq trivial (fun g6=>?_) (fun g6=>?_)|refine pq trivial (fun g6=>?_) (fun g6=>?_))<;>(try exact g6.elim)<;>(try refine sq trivial ?_)<;>(refine wk trivial ?_)
       ·refine ee hQ trivial ?_
        refine fR (.bool _) ?_
        rw[yes (by omega)]
       ·refine ee hQ trivial ?_
        refine fR (.bool _) ?_
        congr 1
        rw[Bool.eq_iff_iff]
        by_cases h8:c=12288
        ·rw[yes (by omega)];simp[h8]
        ·rw[no (by omega)];simp[h8]
theorem p6(s:Bs)(n:Nat)(hs:s.length≤1048576)(hn:n≤1048576)(h:Heap):Sat (CT G) 131 [.str s,.int .i64 n] h (fun r h'=>r=.str (cutF s n)∧h'=h):=by
 refine sb [.tmp 4] (fn:=Tryz.f131) Tryz.func131 ?_
 intro Q hQ
 (repeat (first|refine w1 (fun K hK=>?_)|refine w2 ?_|refine w3 ?_| ((first|refine w4 ?_|refine wD ?_|refine w5 ?_|refine w6 ?_|refine w7 ?_);try refine sq trivial ?_)| (refine w8 ?_;refine sq trivial ?_;refine w9 ?_)| ((first|refine hK _ _ (w0 ?_)| (clear hK K;refine hK _ _ (w0 ?_))| (clear hK K;clear hK K;refine hK _ _ (w0 ?_)));clear hK K)))
 have tail:∀(t':Env) (k:Nat),t' 0=.str s→t' 5=.int .i64 k→k≤s.length→k=cutN s.length s n→K t' h:=by
  intro t' k e0 e5 hk hx
  refine hK _ _ (Wkn.refl ?_)
  clear hK K
  have F:=F2 e0 e5
  (repeat (first|refine w1 (fun K hK=>?_)|refine w2 ?_|refine w3 ?_| ((first|refine w4 ?_|refine wD ?_|refine w5 ?_|refine w6 ?_|refine w7 ?_);try refine sq F ?_)| (refine w8 ?_;refine sq F ?_;refine w9 ?_)| ((first|refine hK _ _ (w0 ?_)| (clear hK K;refine hK _ _ (w0 ?_))| (clear hK K;clear hK K;refine hK _ _ (w0 ?_)));clear hK K)))
  refine ee hQ F ?_
  refine fR (.str _) ?_
  unfold cutF;rw[← hx]
 refine lm (fun nL tL hL=>∃(k:Nat),s.length-k=nL∧h=hL∧tL 5=.int .i64 k∧(k≤s.length∧k≤n)∧k+cutA s k (n-k)=cutN s.length s n) ((fun(k:Nat)=>(s.length-k:Nat)) (0)) ?_ ?_
 ·refine Wkn.refl ⟨0,rfl,ay,?_,⟨by omega,by omega⟩,by unfold cutA;simp⟩
  all_goals first|exact zq trivial|rfl|omega|trivial|skip
 rintro _ s2 h' ⟨k,rfl,rfl,e5,hk,hc⟩ K2 hK2
 simp only[ak,ao,Nat.reduceEqDiff, ↓reduceIte]at e5
 have F:=e5
 (repeat (first|refine w1 (fun K hK=>?_)|refine w2 ?_|refine w3 ?_| ((first|refine w4 ?_|refine wD ?_|refine w5 ?_|refine w6 ?_|refine w7 ?_);try refine sq F ?_)| (refine w8 ?_;refine sq F ?_;refine w9 ?_)| ((first|refine hK _ _ (w0 ?_)| (clear hK K;refine hK _ _ (w0 ?_))| (clear hK K;clear hK K;refine hK _ _ (w0 ?_)));clear hK K)))
 refine cq F (fun c1=>?_) (fun c1=>?_)<;>(try exact c1.elim)<;>((repeat (first|refine w1 (fun K hK=>?_)|refine w2 ?_|refine w3 ?_| ((first|refine w4 ?_|refine wD ?_|refine w5 ?_|refine w6 ?_|refine w7 ?_);try refine sq F ?_)| (refine w8 ?_;refine sq F ?_;refine w9 ?_)| ((first|refine hK _ _ (w0 ?_)| (clear hK K;refine hK _ _ (w0 ?_))| (clear hK K;clear hK K;refine hK _ _ (w0 ?_)));clear hK K))))
 ·have hp2:=bc s k c1
  have hca:=fB s k (n-k) c1
  have hne:s.drop k≠ []:=by intro e;have:=congrArg List.length e;simp at this;omega
  refine(iR G (s.drop k) hne (by simp;omega) _).mono ?_
  rintro r h' ⟨rfl,rfl⟩
  rw[← dV]
  generalize dec s k=d at*
  obtain⟨c,m⟩:=d
  simp only[]at hp2 hca ⊢
  rw[hca]at hc
  try refine sq F ?_
  (repeat (first|refine w1 (fun K hK=>?_)|refine w2 ?_|refine w3 ?_| ((first|refine w4 ?_|refine wD ?_|refine w5 ?_|refine w6 ?_|refine w7 ?_);try refine sq F ?_)| (refine w8 ?_;refine sq F ?_;refine w9 ?_)| ((first|refine hK _ _ (w0 ?_)| (clear hK K;refine hK _ _ (w0 ?_))| (clear hK K;clear hK K;refine hK _ _ (w0 ?_)));clear hK K)))
  refine cq F (fun c2=>?_) (fun c2=>?_)<;>(try exact c2.elim)<;>((repeat (first|refine w1 (fun K hK=>?_)|refine w2 ?_|refine w3 ?_| ((first|refine w4 ?_|refine wD ?_|refine w5 ?_|refine w6 ?_|refine w7 ?_);try refine sq F ?_)| (refine w8 ?_;refine sq F ?_;refine w9 ?_)| ((first|refine hK _ _ (w0 ?_)| (clear hK K;refine hK _ _ (w0 ?_))| (clear hK K;clear hK K;refine hK _ _ (w0 ?_)));clear hK K))))
  ·rw[if_pos (by omega)]at hc
   refine tail _ k ?_ ?_ hk.1 (by omega)
   ·exact zq F
   ·exact zq F
  ·rw[if_neg (by omega)]at hc
   refine hK2 _ _ _ (Wkn.refl ⟨k+m,rfl,ay,?_,⟨by omega,by omega⟩,by rw[← hc,show n-(k+m)=n-k-m by omega];omega⟩) (by omega)
   all_goals first|exact zq F|rfl|omega|trivial|skip
 ·rw[dc s k (n-k) (by omega)]at hc
  refine tail _ k ?_ ?_ hk.1 (by omega)
  ·exact zq F
  ·exact zq F
end Go.Av
