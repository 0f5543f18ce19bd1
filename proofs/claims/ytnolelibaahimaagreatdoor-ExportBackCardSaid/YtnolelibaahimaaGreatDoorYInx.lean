/- Parts. -/
import Derived.Test.YtnolelibaahimaaGreatDoorYHe
set_option linter.unusedSimpArgs false
set_option linter.unusedVariables false
set_option linter.unusedSectionVars false
set_option linter.unnecessarySimpa false
set_option maxRecDepth 100000
set_option maxHeartbeats 16000000
namespace Go.Av
open Go Go.Proofs Go.RowKit
attribute [local irreducible] WP WPl WPix Sat
variable (G:Nat→Option (List AVal))
def rdrR(s:Bs)(b:Bool):Blk:=.row 218 2 0 [.agg [.str s,.bool b]]
def rdH(h j:Heap)(s:Bs)(b:Bool):Heap:=h++rdrR s b::j
theorem dg(h j:Heap)(s:Bs)(b:Bool):(rdH h j s b).length=h.length+(1+j.length):=by simp[rdH];omega
theorem Bk(n:Nat)(s:Bs)(b:Bool):CloB n (rdrR s b):=by
 intro r hr;simp only[Q7]at hr;subst hr;exact .agg _ (by intro c hc;simp at hc;rcases hc with rfl|rfl;exact .str _;exact .bool _)
theorem re(h j:Heap)(s s0:Bs)(b b0:Bool)(n:Nat):∀(p:Nat) (k:Blk),(rdH h j s b)[p]? =some k→(rdH h j s0 b0)[p]? =some k∨CloB n k:=by
 intro p k hk;unfold rdH at*;rcases U7 p h.length with h1|h1
 ·rw[M5 h1]at hk ⊢;exact .inl hk
 ·rw[M9 h1]at hk ⊢
  match p-h.length,hk with
  |0,hk=>simp at hk;subst hk;exact .inr (Bk _ _ _)
  |i+1,hk=>exact .inl hk
theorem cE(h j jj:Heap)(s s0:Bs)(b b0:Bool){h2:Heap}{x:AVal}(hh:h2=rdH h j s b++jj)(hx:∀n,Clo n x):Fin (rdH h j s0 b0) h2 (fun r h'=>r=x∧h'=rdH h j s b) x:=
 Fin.keepE (h1:=rdH h j s b) hh (by simp only[dg]) (fun p k hk=>re _ _ _ _ _ _ _ p k hk) (hx _) ⟨rfl,rfl⟩
@[go_sem] theorem FJ(s:Bs)(b:Bool)(l:Heap):getRow (rdrR s b::l) 0 0=some (218,2,[.agg [.str s,.bool b]]):=rfl
@[go_sem] theorem DE(h j:Heap)(s:Bs)(b:Bool):getRow (rdH h j s b) h.length 0=some (218,2,[.agg [.str s,.bool b]]):=by simp[rdH,getRow,rdrR]
@[go_sem] theorem Cm(h j jj:Heap)(s:Bs)(b:Bool):getRow (rdH h j s b++jj) h.length 0=some (218,2,[.agg [.str s,.bool b]]):=by simp[rdH,getRow,rdrR]
@[go_sem] theorem K9(h j:Heap)(s s':Bs)(b b':Bool):List.set (rdH h j s b) h.length (.row 218 2 0 [.agg [.str s',.bool b']])=rdH h j s' b':=by simp[rdH,rdrR]
@[go_sem] theorem HJ(h j jj:Heap)(s s':Bs)(b b':Bool):List.set (rdH h j s b++jj) h.length (.row 218 2 0 [.agg [.str s',.bool b']])=rdH h j s' b'++jj:=by simp[rdH,rdrR]
theorem bT(w s:Bs)(b:Bool)(h j:Heap):Sat (CT G) 209 [.hp h.length 0 0 0,.str w] (rdH h j s b)
  (fun r h'=>r=.bool (Lib.hasPrefix s w)∧h'=rdH h j (Lib.trimPrefix s w) b):=by
 have end_:=cE h j [] (Lib.trimPrefix s w) s b b (x:=.bool (Lib.hasPrefix s w)) (N8 _).symm (fun _=>.bool _);refine sb [.tmp 4] Tryz.func209 ?_;intro Q hQ;refine af trivial ?_;refine aH trivial (cY G s w _) ?_;refine au hQ trivial ?_;exact end_
theorem jX(w s:Bs)(b:Bool)(h j:Heap):Sat (CT G) 242 [.hp h.length 0 0 0,.str w] (rdH h j s b)
  (fun r h'=>r=.tup []∧h'=rdH h j (Lib.trimPrefix s w) (b|| !Lib.hasPrefix s w)):=by
 have end_:=fun b1=>cE h j [] (Lib.trimPrefix s w) s b1 b (x:=.tup []) (N8 _).symm (fun _=>.tup _ (by simp))
 refine sb [] Tryz.func242 ?_;intro Q hQ;refine af trivial ?_;refine aH trivial (bT G w s b h j) ?_;refine aD trivial (fun hc=>?_) (fun hc=>?_)<;>(try exact hc.elim)<;>(refine af trivial ?_)
 ·refine au hQ trivial ?_;simp only[hc,Bool.not_false,Bool.or_true];exact end_ _
 ·refine au hQ trivial ?_;simp only[hc,X1,Y8];exact end_ _
def uptoF(w s:Bs)(b:Bool):Bs×Bs×Bool:=if (Lib.cut s w).2.2=true then((Lib.cut s w).1,(Lib.cut s w).2.1,b)else([],s,true)
theorem dS(hG:GOk G)(w s:Bs)(b:Bool)(hs:s.length≤1073741824)(h j:Heap):Sat (CT G) 210 [.hp h.length 0 0 0,.str w] (rdH h j s b)
  (fun r h'=>r=.str (uptoF w s b).1∧h'=rdH h j (uptoF w s b).2.1 (uptoF w s b).2.2):=by
 refine sb [.tmp 4] Tryz.func210 ?_;intro Q hQ;refine af trivial ?_;refine aH trivial (jf G hG s w hs _) ?_;refine aD trivial (fun hc=>?_) (fun hc=>?_)<;>(try exact hc.elim)<;>(refine af trivial ?_)
 ·have e:uptoF w s b=([],s,true):=by unfold uptoF;rw[M1 (by simp[hc])]
  refine au hQ trivial ?_;rw[e];exact cE h j [] s s true b (x:=.str []) (N8 _).symm (fun _=>.str _)
 ·have e:uptoF w s b=((Lib.cut s w).1,(Lib.cut s w).2.1,b):=by unfold uptoF;rw[M7 (by simpa using hc)]
  refine au hQ trivial ?_;rw[e];exact cE h j [] (Lib.cut s w).2.1 s b b (x:=.str (Lib.cut s w).1) (N8 _).symm (fun _=>.str _)
structure ByByte (P:Int→Bool) (q:UInt8→Bool) (hi:Bool):Prop where
 low:∀b:UInt8,b.toNat<128→P b.toNat=q b
 high:∀c:Int,128≤c→Rune c→P c=hi
 bytes:∀b:UInt8,128≤b.toNat→q b=hi
theorem sV(q:UInt8→Bool):∀(s:Bs) (k:Nat),(∀i,i<k→∀c,s[i]? =some c→q c=true)→k≤s.length→(k=s.length∨∃c,s[k]? =some c∧q c=false)→
  s.takeWhile q=s.take k∧s.dropWhile q=s.drop k:=by
 intro s;induction s with
 |nil=>intro k _ hk _;simp at hk;subst hk;simp
 |cons a t ih=>
  intro k h hk he;cases k with
  |zero=>
   rcases he with he| ⟨c,hc,hq⟩
   ·simp at he
   ·simp at hc;subst hc;simp[hq]
  |succ k=>
   have ha:q a=true:=h 0 (by omega) a rfl;have:=ih k (fun i hi c hc=>h (i+1) (by omega) c (by simpa using hc)) (by simpa using hk) (by
    rcases he with he| ⟨c,hc,hq⟩
    ·exact .inl (by simpa using he)
    ·exact .inr ⟨c,by simpa using hc,hq⟩)
   simp[List.takeWhile,List.dropWhile,ha,this]
theorem mc(P:Int→Bool)(q:UInt8→Bool)(hi:Bool)(hP:ByByte P q hi)(g:FuncId)(s:Bs)(b:Bool)(hs:s.length≤1073741824)(h j:Heap)
  (hg:∀(c:Int) (k:Heap),Rune c→Sat (CT G) g [.int .i32 c] k (fun r h'=>r=.bool (P c)∧h'=k)):
  Sat (CT G) 216 [.hp h.length 0 0 0,.fn (.func g) [] []] (rdH h j s b)
   (fun r h'=>r=.str (s.takeWhile q)∧h'=rdH h j (s.dropWhile q) b):=by
 refine sb [.tmp 4] Tryz.func216 ?_;intro Q hQ;(repeat (first|refine w1 (fun K hK=>?_)|refine w2 ?_|refine w3 ?_| ((first|refine w4 ?_|refine wD ?_|refine w5 ?_|refine w6 ?_|refine w7 ?_);try refine ai trivial ?_)| (refine w8 ?_;refine ai trivial ?_;refine w9 ?_)| ((first|refine hK _ _ (w0 ?_)| (clear hK K;refine hK _ _ (w0 ?_))| (clear hK K;clear hK K;refine hK _ _ (w0 ?_)));clear hK K)))
 have tail:∀(t':Env) (k pos:Nat),t' 0=.hp h.length 0 0 0→t' 5=.int .i64 k→k≤s.length→s.takeWhile q=s.take k→s.dropWhile q=s.drop k→K t' (rdH h j s b++[.iter s pos]):=by
  intro t' k pos e0 e5 hk h1 h2;refine hK _ _ (N6 ?_);clear hK K;have F:=F2 e0 e5;(repeat (first|refine w1 (fun K hK=>?_)|refine w2 ?_|refine w3 ?_| ((first|refine w4 ?_|refine wD ?_|refine w5 ?_|refine w6 ?_|refine w7 ?_);try refine ai F ?_)| (refine w8 ?_;refine ai F ?_;refine w9 ?_)| ((first|refine hK _ _ (w0 ?_)| (clear hK K;refine hK _ _ (w0 ?_))| (clear hK K;clear hK K;refine hK _ _ (w0 ?_)));clear hK K)))
  rw[h1,h2]at hQ;refine au hQ F ?_;exact cE h j [.iter s pos] (s.drop k) s b b (x:=.str (s.take k)) rfl (fun _=>.str _)
 refine lm (fun nL tL hL=>∃(k:Nat),s.length-k=nL∧rdH h j s b++[.iter s k]=hL∧tL 5=.int .i64 s.length∧k≤s.length∧∀i,i<k→∀c,s[i]? =some c→q c=true) ((fun(k:Nat)=>(s.length-k:Nat)) (0)) ?_ ?_
 ·refine N6 ⟨0,rfl,aw,?_,by omega,fun i hi=>by omega⟩;all_goals first|exact az trivial|rfl|omega|trivial|skip
 rintro _ s2 h' ⟨k,rfl,rfl,e5,hk,hq⟩ K2 hK2;simp only[aj,am,Nat.reduceEqDiff, ↓reduceIte]at e5;have F:=e5;(repeat (first|refine w1 (fun K hK=>?_)|refine w2 ?_|refine w3 ?_| ((first|refine w4 ?_|refine wD ?_|refine w5 ?_|refine w6 ?_|refine w7 ?_);try refine ai F ?_)| (refine w8 ?_;refine ai F ?_;refine w9 ?_)| ((first|refine hK _ _ (w0 ?_)| (clear hK K;refine hK _ _ (w0 ?_))| (clear hK K;clear hK K;refine hK _ _ (w0 ?_)));clear hK K)))
 refine cg (dN _ _ _ _) (fun hlt=>?_) (fun hge=>?_)
 ·have hb:=M4 hlt;by_cases ha:s[k].toNat<128
  ·have hd:Utf8.decode ⟨s.toArray⟩ k=(s[k].toNat,1):=fO s k _ hb ha;have hPq:=hP.low s[k] ha;rw[hd];(try refine ai F ?_);(repeat (first|refine w1 (fun K hK=>?_)|refine w2 ?_|refine w3 ?_| ((first|refine w4 ?_|refine wD ?_|refine w5 ?_|refine w6 ?_|refine w7 ?_);try refine ai F ?_)| (refine w8 ?_;refine ai F ?_;refine w9 ?_)| ((first|refine hK _ _ (w0 ?_)| (clear hK K;refine hK _ _ (w0 ?_))| (clear hK K;clear hK K;refine hK _ _ (w0 ?_)));clear hK K)))
   refine(hg s[k].toNat _ ⟨by omega,by omega⟩).mono ?_;rintro r h' ⟨rfl,rfl⟩;(try refine ai F ?_);(repeat (first|refine w1 (fun K hK=>?_)|refine w2 ?_|refine w3 ?_| ((first|refine w4 ?_|refine wD ?_|refine w5 ?_|refine w6 ?_|refine w7 ?_);try refine ai F ?_)| (refine w8 ?_;refine ai F ?_;refine w9 ?_)| ((first|refine hK _ _ (w0 ?_)| (clear hK K;refine hK _ _ (w0 ?_))| (clear hK K;clear hK K;refine hK _ _ (w0 ?_)));clear hK K)))
   refine aD F (fun hc=>?_) (fun hc=>?_)<;>(try exact hc.elim)<;>((repeat (first|refine w1 (fun K hK=>?_)|refine w2 ?_|refine w3 ?_| ((first|refine w4 ?_|refine wD ?_|refine w5 ?_|refine w6 ?_|refine w7 ?_);try refine ai F ?_)| (refine w8 ?_;refine ai F ?_;refine w9 ?_)| ((first|refine hK _ _ (w0 ?_)| (clear hK K;refine hK _ _ (w0 ?_))| (clear hK K;clear hK K;refine hK _ _ (w0 ?_)));clear hK K))))
   ·have hqf:q s[k]=false:=(by rw[← hPq];exact hc);obtain⟨h1,h2⟩:=sV q s k hq hk (.inr ⟨_,hb,hqf⟩);refine tail _ k _ ?_ ?_ hk h1 h2
    ·exact az F
    ·exact az F
   ·have hqt:q s[k]=true:=(by rw[← hPq];exact hc);have hq1:∀i,i<k+1→∀c,s[i]? =some c→q c=true:=fun i hi c hc2=>by
     rcases U7 i k with h1|h1
     ·exact hq i h1 c hc2
     ·obtain rfl:i=k:=by omega
      rw[hb]at hc2;cases hc2;exact hqt
    refine hK2 _ _ _ (N6 ⟨k+1,rfl,aw,?_,by omega,hq1⟩) (by omega);all_goals first|exact az F|rfl|omega|trivial|skip
  ·obtain⟨hd1,hd2,hd3⟩:=jU s k _ hb (by omega);obtain⟨hd4,hd5⟩:=aR s k hlt;have hR:Rune (dec s k).1:=⟨by omega,by omega⟩
   have hPq:=hP.high (dec s k).1 (by omega) hR;unfold dec at*;(try refine ai F ?_);(repeat (first|refine w1 (fun K hK=>?_)|refine w2 ?_|refine w3 ?_| ((first|refine w4 ?_|refine wD ?_|refine w5 ?_|refine w6 ?_|refine w7 ?_);try refine ai F ?_)| (refine w8 ?_;refine ai F ?_;refine w9 ?_)| ((first|refine hK _ _ (w0 ?_)| (clear hK K;refine hK _ _ (w0 ?_))| (clear hK K;clear hK K;refine hK _ _ (w0 ?_)));clear hK K)))
   refine(hg (Utf8.decode ⟨s.toArray⟩ k).1 _ hR).mono ?_;rintro r h' ⟨rfl,rfl⟩;(try refine ai F ?_);(repeat (first|refine w1 (fun K hK=>?_)|refine w2 ?_|refine w3 ?_| ((first|refine w4 ?_|refine wD ?_|refine w5 ?_|refine w6 ?_|refine w7 ?_);try refine ai F ?_)| (refine w8 ?_;refine ai F ?_;refine w9 ?_)| ((first|refine hK _ _ (w0 ?_)| (clear hK K;refine hK _ _ (w0 ?_))| (clear hK K;clear hK K;refine hK _ _ (w0 ?_)));clear hK K)))
   refine aD F (fun hc=>?_) (fun hc=>?_)<;>(try exact hc.elim)<;>((repeat (first|refine w1 (fun K hK=>?_)|refine w2 ?_|refine w3 ?_| ((first|refine w4 ?_|refine wD ?_|refine w5 ?_|refine w6 ?_|refine w7 ?_);try refine ai F ?_)| (refine w8 ?_;refine ai F ?_;refine w9 ?_)| ((first|refine hK _ _ (w0 ?_)| (clear hK K;refine hK _ _ (w0 ?_))| (clear hK K;clear hK K;refine hK _ _ (w0 ?_)));clear hK K))))
   ·have hqf:q s[k]=false:=(by rw[hP.bytes _ (by omega), ← hPq];exact hc);obtain⟨h1,h2⟩:=sV q s k hq hk (.inr ⟨_,hb,hqf⟩);refine tail _ k _ ?_ ?_ hk h1 h2
    ·exact az F
    ·exact az F
   ·have hit:hi=true:=(by rw[← hPq];exact hc);have hq1:∀i,i<k+(Utf8.decode ⟨s.toArray⟩ k).2→∀c,s[i]? =some c→q c=true:=fun i hi2 c hc2=>by
     rcases U7 i k with h1|h1
     ·exact hq i h1 c hc2
     ·rw[hP.bytes c (hd3 (i-k) (by omega) c (by rw[show k+(i-k)=i by omega];exact hc2)),hit]
    refine hK2 _ _ _ (N6 ⟨k+(Utf8.decode ⟨s.toArray⟩ k).2,rfl,aw,?_,by omega,hq1⟩) (by omega);all_goals first|exact az F|rfl|omega|trivial|skip
 ·obtain⟨h1,h2⟩:=sV q s s.length (fun i hi=>hq i (by omega)) (N3 _) (.inl rfl);try refine ai F ?_
  (repeat (first|refine w1 (fun K hK=>?_)|refine w2 ?_|refine w3 ?_| ((first|refine w4 ?_|refine wD ?_|refine w5 ?_|refine w6 ?_|refine w7 ?_);try refine ai F ?_)| (refine w8 ?_;refine ai F ?_;refine w9 ?_)| ((first|refine hK _ _ (w0 ?_)| (clear hK K;refine hK _ _ (w0 ?_))| (clear hK K;clear hK K;refine hK _ _ (w0 ?_)));clear hK K)))
  refine tail _ s.length _ ?_ ?_ (N3 _) h1 h2
  ·exact az F
  ·exact az F
def beginF(c:Int):Bool:=decide (65≤c∧c≤90∨97≤c∧c≤122∨c=95)
def moreF(c:Int):Bool:=decide (65≤c∧c≤90∨97≤c∧c≤122∨c=95∨48≤c∧c≤57∨c=58∨c=45∨c=46)
theorem hD(c:Int)(h:Heap):Sat (CT G) 260 [.int .i32 c] h (fun r h'=>r=.bool (beginF c)∧h'=h):=by
 refine sb [.tmp 2] Tryz.func260 ?_;intro Q hQ;refine af trivial ?_;(first|refine aX trivial (fun g1=>?_) (fun g1=>?_)|refine aY trivial (fun g1=>?_) (fun g1=>?_))<;>(try exact g1.elim)<;>(try refine ai trivial ?_)<;>(refine af trivial ?_)
 all_goals try ((first|refine aX trivial (fun g2=>?_) (fun g2=>?_)|refine aY trivial (fun g2=>?_) (fun g2=>?_))<;>(try exact g2.elim)<;>(try refine ai trivial ?_)<;>(refine af trivial ?_))
 all_goals try ((first|refine aX trivial (fun g3=>?_) (fun g3=>?_)|refine aY trivial (fun g3=>?_) (fun g3=>?_))<;>(try exact g3.elim)<;>(try refine ai trivial ?_)<;>(refine af trivial ?_))
 all_goals try ((first|refine aX trivial (fun g4=>?_) (fun g4=>?_)|refine aY trivial (fun g4=>?_) (fun g4=>?_))<;>(try exact g4.elim)<;>(try refine ai trivial ?_)<;>(refine af trivial ?_))
 all_goals try ((first|refine aX trivial (fun g5=>?_) (fun g5=>?_)|refine aY trivial (fun g5=>?_) (fun g5=>?_))<;>(try exact g5.elim)<;>(try refine ai trivial ?_)<;>(refine af trivial ?_))
 all_goals try (exfalso;omega)
 all_goals
  refine au hQ trivial ?_;refine fR (.bool _) ?_;unfold beginF;congr 1
  rw[T5];simp only[M8,beq_iff_eq,true_iff,P0,false_iff];omega
theorem oQ(c:Int)(h:Heap):Sat (CT G) 259 [.int .i32 c] h (fun r h'=>r=.bool (moreF c)∧h'=h):=by
 refine sb [.tmp 2] Tryz.func259 ?_;intro Q hQ;refine af trivial ?_;refine aH trivial (hD G c _) ?_;(first|refine aX trivial (fun g1=>?_) (fun g1=>?_)|refine aY trivial (fun g1=>?_) (fun g1=>?_))<;>(try exact g1.elim)<;>(try refine ai trivial ?_)<;>(refine af trivial ?_)
 all_goals try ((first|refine aX trivial (fun g2=>?_) (fun g2=>?_)|refine aY trivial (fun g2=>?_) (fun g2=>?_))<;>(try exact g2.elim)<;>(try refine ai trivial ?_)<;>(refine af trivial ?_))
 all_goals try ((first|refine aX trivial (fun g3=>?_) (fun g3=>?_)|refine aY trivial (fun g3=>?_) (fun g3=>?_))<;>(try exact g3.elim)<;>(try refine ai trivial ?_)<;>(refine af trivial ?_))
 all_goals try ((first|refine aX trivial (fun g4=>?_) (fun g4=>?_)|refine aY trivial (fun g4=>?_) (fun g4=>?_))<;>(try exact g4.elim)<;>(try refine ai trivial ?_)<;>(refine af trivial ?_))
 all_goals try ((first|refine aX trivial (fun g5=>?_) (fun g5=>?_)|refine aY trivial (fun g5=>?_) (fun g5=>?_))<;>(try exact g5.elim)<;>(try refine ai trivial ?_)<;>(refine af trivial ?_))
 all_goals try ((first|refine aX trivial (fun g6=>?_) (fun g6=>?_)|refine aY trivial (fun g6=>?_) (fun g6=>?_))<;>(try exact g6.elim)<;>(try refine ai trivial ?_)<;>(refine af trivial ?_))
 all_goals try ((first|refine aX trivial (fun g7=>?_) (fun g7=>?_)|refine aY trivial (fun g7=>?_) (fun g7=>?_))<;>(try exact g7.elim)<;>(try refine ai trivial ?_)<;>(refine af trivial ?_))
 all_goals try simp only[beginF,M8,decide_eq_false_iff_not]at g1
 all_goals try (exfalso;omega)
 all_goals
  refine au hQ trivial ?_;refine fR (.bool _) ?_;unfold moreF;try unfold beginF
  congr 1
  rw[T5];simp only[M8,beq_iff_eq,true_iff,P0,false_iff];omega
end Go.Av

namespace Go.Av
open Go Go.Proofs Go.RowKit
attribute [local irreducible] WP WPl WPix Sat
variable (G:Nat→Option (List AVal))
theorem eP(r:Int)(hr:Rune r)(h:Heap):Sat (CT G) 291 [.int .i32 r] h (fun x h'=>x=.bool true∧h'=h):=by
 obtain⟨h0,h1⟩:=hr;refine sb [.tmp 2] Tryz.func291 ?_;intro Q hQ;refine af trivial ?_;(first|refine aX trivial (fun g1=>?_) (fun g1=>?_)|refine aY trivial (fun g1=>?_) (fun g1=>?_))<;>(try exact g1.elim)<;>(try refine ai trivial ?_)<;>(refine af trivial ?_)
 ·refine aD trivial (fun c1=>?_) (fun c1=>?_)<;>(try exact c1.elim)<;>(refine af trivial ?_)
  ·refine au hQ trivial ?_;refine fR (.bool _) ?_;rfl
  ·(first|refine aX trivial (fun g2=>?_) (fun g2=>?_)|refine aY trivial (fun g2=>?_) (fun g2=>?_))<;>(try exact g2.elim)<;>(try refine ai trivial ?_)<;>(refine af trivial ?_)
   ·refine aD trivial (fun c2=>?_) (fun c2=>?_)<;>(try exact c2.elim)<;>(refine af trivial ?_)
    ·refine au hQ trivial ?_;refine fR (.bool _) ?_;rfl
    ·exfalso;omega
   ·exfalso;omega
 ·exfalso;omega
theorem uP(r:Int)(hr:Rune r)(h1:128≤r):∃b:UInt8,128≤b.toNat∧((∃a,enc r=[a,b])∨(∃a c,enc r=[a,c,b])∨(∃a c d,enc r=[a,c,d,b])):=by
 have hf:fix r=r.toNat:=by unfold fix;rw[M7 hr.valid]
 rw[gx,hf];simp only[];have hlt:∀n,(128≤n∧n<256)→128≤(UInt8.ofNat n).toNat:=fun n h=>by rw[ax n h.2];exact h.1
 rw[M1 (by omega)];by_cases h2:r.toNat<2048
 ·rw[M7 h2];exact⟨_,hlt (128+r.toNat%64) (by omega),.inl ⟨_,rfl⟩⟩
 ·rw[M1 h2];by_cases h3:r.toNat<65536
  ·rw[M7 h3];exact⟨_,hlt (128+r.toNat%64) (by omega),.inr (.inl ⟨_,_,rfl⟩)⟩
  ·rw[M1 h3];exact⟨_,hlt (128+r.toNat%64) (by omega),.inr (.inr ⟨_,_,_,rfl⟩)⟩
theorem cR(b:UInt8)(hb:128≤b.toNat):∀l:Bs,(∀c∈l,c.toNat<128)→Lib.indexByte l b= -1
 | [],_=>rfl
 |c::l,h=>by
  have h1:=h c (by simp);have hne:¬c=b:=fun e=>by subst e;omega
  have ih:=cR b hb l fun x hx=>h x (by simp[hx])
  rw[Lib.indexByte,M1 (by simpa using hne),ih];rfl
def blk4:Bs:=[32,9,13,10]
theorem mf(r:Int)(hr:Rune r)(h1:128≤r)(h:Heap):Sat (CT G) 279 [.str blk4,.int .i32 r] h (fun x h'=>x=.int .i64 (-1)∧h'=h):=by
 refine sb [.tmp 4] Tryz.func279 ?_;intro Q hQ;refine af trivial ?_;have hr':=hr;obtain⟨h2,h3⟩:=hr;(first|refine aX trivial (fun g1=>?_) (fun g1=>?_)|refine aY trivial (fun g1=>?_) (fun g1=>?_))<;>(try exact g1.elim)<;>(try refine ai trivial ?_)<;>(refine af trivial ?_)
 ·refine aD trivial (fun c1=>?_) (fun c1=>?_)<;>(try exact c1.elim)<;>(refine af trivial ?_)
  ·exfalso;omega
  ·refine aD trivial (fun c2=>?_) (fun c2=>?_)<;>(try exact c2.elim)<;>(refine af trivial ?_)
   ·refine lm (fun nL tL hL=>∃(k:Nat),4-k=nL∧h++[.iter blk4 k]=hL∧k≤4) ((fun(k:Nat)=>(4-k:Nat)) (0)) ?_ ?_
    ·refine N6 ⟨0,rfl,aw,by omega⟩;all_goals first|exact az trivial|rfl|omega|trivial|skip
    rintro _ s2 h' ⟨k,rfl,rfl,hk⟩ K2 hK2;refine af trivial ?_;refine cg (dN _ _ _ _) (fun hlt=>?_) (fun hge=>?_)
    ·have hd:Utf8.decode ⟨blk4.toArray⟩ k=(blk4[k].toNat,1):=fO blk4 k _ (M4 hlt) (by
      have:∀b∈blk4,b.toNat<128:=by decide
      exact this _ (za9 hlt))
     have hb:blk4[k].toNat<128:=by
      have:∀b∈blk4,b.toNat<128:=by decide
      exact this _ (za9 hlt)
     have hl4:blk4.length=4:=rfl;rw[hd];(try refine ai trivial ?_);refine af trivial ?_;refine aD trivial (fun c3=>?_) (fun c3=>?_)<;>(try exact c3.elim)<;>(refine af trivial ?_)
     ·exfalso;omega
     ·refine hK2 _ _ _ (N6 ⟨k+1,rfl,aw,by omega⟩) (by omega);all_goals first|exact az trivial|rfl|omega|trivial|skip
    ·(try refine ai trivial ?_);refine af trivial ?_;refine au hQ trivial ?_;refine fR (.int _ _) ?_;rfl
   ·obtain⟨b,hb,he⟩:=uP r hr' h1;rcases he with⟨a,he⟩| ⟨a,c,he⟩| ⟨a,c,d,he⟩
    ·have F:=F5 @f4 he @X1 @Int.cast_ofNat_Int @Int.toNat_one;refine aH F (eP G r hr' _) ?_;refine lm (fun nL tL hL=>0=nL∧h=hL∧tL 9=.int .i64 1) (0) ?_ ?_
     ·refine N6 ⟨rfl,aw,?_⟩;all_goals first|exact az F|rfl|omega|trivial|skip
     rintro _ s3 h' ⟨rfl,rfl,e9⟩ K3 hK3;simp only[aj,am,Nat.reduceEqDiff, ↓reduceIte]at e9;have F:=F2 F e9;have hl4:blk4.length=4:=rfl;have hb1:blk4[1]? =some 9:=rfl;have hab:([a,b]:Bs)[1]? =some b:=rfl;have hib:Lib.indexByte (blk4.drop 2) b= -1:=cR b hb _ (by decide);have h9:(9:UInt8).toNat=9:=rfl;have F:=F4 F hb1 hab hib;refine af F ?_;refine aD F (fun c4=>?_) (fun c4=>?_)<;>(try exact c4.elim)<;>(refine af F ?_)
     ·refine aD F (fun c5=>?_) (fun c5=>?_)<;>(try exact c5.elim)<;>(refine af F ?_)
      ·refine aG (cw G (blk4.drop 2) b _) ?_;(try refine ai F ?_);refine af F ?_;refine aD F (fun c6=>?_) (fun c6=>?_)<;>(try exact c6.elim)<;>(refine af F ?_)
       ·refine au hQ F ?_;refine fR (.int _ _) ?_;rfl
       ·exact absurd c6 (by decide)
      ·exfalso;omega
     ·exfalso;omega
    ·have F:=F5 @f4 he @X1 @Int.cast_ofNat_Int @Int.toNat_one;refine aH F (eP G r hr' _) ?_;refine lm (fun nL tL hL=>0=nL∧h=hL∧tL 9=.int .i64 2) (0) ?_ ?_
     ·refine N6 ⟨rfl,aw,?_⟩;all_goals first|exact az F|rfl|omega|trivial|skip
     rintro _ s3 h' ⟨rfl,rfl,e9⟩ K3 hK3;simp only[aj,am,Nat.reduceEqDiff, ↓reduceIte]at e9;have F:=F2 F e9;have hl4:blk4.length=4:=rfl;have hb1:blk4[2]? =some 13:=rfl;have hab:([a,c,b]:Bs)[2]? =some b:=rfl;have hib:Lib.indexByte (blk4.drop 3) b= -1:=cR b hb _ (by decide);have h9:(13:UInt8).toNat=13:=rfl;have F:=F4 F hb1 hab hib;refine af F ?_;refine aD F (fun c4=>?_) (fun c4=>?_)<;>(try exact c4.elim)<;>(refine af F ?_)
     ·refine aD F (fun c5=>?_) (fun c5=>?_)<;>(try exact c5.elim)<;>(refine af F ?_)
      ·refine aG (cw G (blk4.drop 3) b _) ?_;(try refine ai F ?_);refine af F ?_;refine aD F (fun c6=>?_) (fun c6=>?_)<;>(try exact c6.elim)<;>(refine af F ?_)
       ·refine au hQ F ?_;refine fR (.int _ _) ?_;rfl
       ·exact absurd c6 (by decide)
      ·exfalso;omega
     ·exfalso;omega
    ·have F:=F5 @f4 he @X1 @Int.cast_ofNat_Int @Int.toNat_one;refine aH F (eP G r hr' _) ?_;refine lm (fun nL tL hL=>0=nL∧h=hL∧tL 9=.int .i64 3) (0) ?_ ?_
     ·refine N6 ⟨rfl,aw,?_⟩;all_goals first|exact az F|rfl|omega|trivial|skip
     rintro _ s3 h' ⟨rfl,rfl,e9⟩ K3 hK3;simp only[aj,am,Nat.reduceEqDiff, ↓reduceIte]at e9;have F:=F2 F e9;have hl4:blk4.length=4:=rfl;have hb1:blk4[3]? =some 10:=rfl;have hab:([a,c,d,b]:Bs)[3]? =some b:=rfl;have hib:Lib.indexByte (blk4.drop 4) b= -1:=cR b hb _ (by decide);have h9:(10:UInt8).toNat=10:=rfl;have F:=F4 F hb1 hab hib;refine af F ?_;refine aD F (fun c4=>?_) (fun c4=>?_)<;>(try exact c4.elim)<;>(refine af F ?_)
     ·refine aD F (fun c5=>?_) (fun c5=>?_)<;>(try exact c5.elim)<;>(refine af F ?_)
      ·refine aG (cw G (blk4.drop 4) b _) ?_;(try refine ai F ?_);refine af F ?_;refine aD F (fun c6=>?_) (fun c6=>?_)<;>(try exact c6.elim)<;>(refine af F ?_)
       ·refine au hQ F ?_;refine fR (.int _ _) ?_;rfl
       ·exact absurd c6 (by decide)
      ·exfalso;omega
     ·exfalso;omega
 ·exfalso;omega
theorem jw(r:Int)(hr:Rune r)(h1:128≤r)(h:Heap):Sat (CT G) 262 [.str blk4,.int .i32 r] h (fun x h'=>x=.bool false∧h'=h):=by
 refine sb [.tmp 4] Tryz.func262 ?_;intro Q hQ;refine af trivial ?_;refine aH trivial (mf G r hr h1 _) ?_;refine au hQ trivial ?_;refine fR (.bool _) ?_;rfl
end Go.Av
namespace Go.Av
open Go Go.Proofs Go.RowKit
attribute [local irreducible] WP WPl WPix Sat
variable (G:Nat→Option (List AVal))
def blankP(c:Int):Bool:=decide (c=32∨c=9∨c=13∨c=10)
def blankB(b:UInt8):Bool:=blankP b.toNat
def moreB(b:UInt8):Bool:=moreF b.toNat
theorem oR:∀x:_root_.Fin 128,decide (0≤Lib.indexByte blk4 x.val.toUInt8)=blankP x.val:=by decide+kernel
theorem sW(c:Int)(hc:Rune c)(h:Heap):Sat (CT G) 261 [.int .i32 c] h (fun r h'=>r=.bool (blankP c)∧h'=h):=by
 have hR:=hc;obtain⟨h0,h1⟩:=hc;by_cases hlt:c<128
 ·have e:decide (0≤Lib.indexByte blk4 c.toNat.toUInt8)=blankP c:=by
   have:=oR ⟨c.toNat,by omega⟩;rw[show(c.toNat:Int)=c by omega]at this;exact this
  have hs:=ew G blk4 c h0 hlt h;rw[e]at hs;refine sb [.tmp 2] Tryz.func261 ?_;intro Q hQ;refine af trivial ?_;refine aH trivial (hs) ?_;refine au hQ trivial ?_;refine fR (.bool _) ?_;rfl
 ·have hs:=jw G c hR (by omega) h;have e:blankP c=false:=by unfold blankP;simp;omega
  refine sb [.tmp 2] Tryz.func261 ?_;intro Q hQ;refine af trivial ?_;refine aH trivial (hs) ?_;refine au hQ trivial ?_;refine fR (.bool _) ?_;rw[e]
theorem xi:ByByte blankP blankB false:=⟨fun _ _=>rfl,fun c hc _=>by unfold blankP;simp;omega,fun b hb=>by unfold blankB blankP;simp;omega⟩
theorem zy:ByByte moreF moreB false:=⟨fun _ _=>rfl,fun c hc _=>by unfold moreF;simp;omega,fun b hb=>by unfold moreB moreF;simp;omega⟩
theorem fS(s:Bs)(b:Bool)(hs:s.length≤1073741824)(h j:Heap):Sat (CT G) 241 [.hp h.length 0 0 0] (rdH h j s b)
  (fun r h'=>r=.bool (!(s.takeWhile blankB==[]))∧h'=rdH h j (s.dropWhile blankB) b):=by
 have end_:=cE h j [] (s.dropWhile blankB) s b b (x:=.bool (!(s.takeWhile blankB==[]))) (N8 _).symm (fun _=>.bool _);refine sb [.tmp 2] Tryz.func241 ?_;intro Q hQ;refine af trivial ?_;refine aH trivial (mc G blankP blankB false xi 261 s b hs h j (fun c k hc=>sW G c hc k)) ?_;refine au hQ trivial ?_;exact end_
theorem xj(k:IntKind)(b:UInt8):aconv Tryz.prog 5 21 (.int k b.toNat)=some (.int .i32 b.toNat):=by
 have hw:IntKind.wrap .i32 (b.toNat:Int)=b.toNat:=by have:=b.toNat_lt;rw[IntKind.wrap_i32];omega
 simp only[aconv,go_sem,hw]
def badN(n:Bs):Bool:=match n with
 | []=>true
 |c::_=> !(beginF c.toNat)||decide (64<n.length)
def nameW(s:Bs):Bs:=s.takeWhile moreB
def nameR(s:Bs):Bs:=s.dropWhile moreB
theorem hU(s:Bs)(b:Bool)(hs:s.length≤1073741824)(h j:Heap):Sat (CT G) 240 [.hp h.length 0 0 0] (rdH h j s b)
  (fun r h'=>r=.str (nameW s)∧h'=rdH h j (nameR s) (b||badN (nameW s))):=by
 have hl:(nameW s).length≤s.length:=(List.takeWhile_sublist _).length_le;have end_:=fun b1=>cE h j [] (nameR s) s b1 b (x:=.str (nameW s)) (N8 _).symm (fun _=>.str _)
 have hr:=mc G moreF moreB false zy 259 s b hs h j (fun c k _=>oQ G c k)
 change Sat _ _ _ _ (fun r h'=>r=.str (nameW s)∧h'=rdH h j (nameR s) b)at hr
 cases hn:nameW s with
 |nil=>
  rw[hn]at hr end_;have hnn:(([]:Bs)==[])=true:=rfl;have F:=hnn;refine sb [.tmp 2] Tryz.func240 ?_;intro Q hQ;refine af F ?_;refine aH F (hr) ?_;refine au hQ F ?_;simp only[badN,Bool.or_true];exact end_ _
 |cons c t=>
  rw[hn]at hr end_ hl;have hg:(c::t)[0]? =some c:=rfl;have hw:IntKind.wrap .i32 c.toNat=c.toNat:=by have:=c.toNat_lt;rw[IntKind.wrap_i32];omega
  have hnn:((c::t)==([]:Bs))=false:=rfl;have hbd:badN (c::t)=(!(beginF c.toNat)||decide (64<(c::t).length)):=rfl;have F:=F3 hg @xj hnn;refine sb [.tmp 2] Tryz.func240 ?_;intro Q hQ;refine af F ?_;refine aH F (hr) ?_;refine aH F (hD G c.toNat _) ?_;(first|refine aX F (fun hb=>?_) (fun hb=>?_)|refine aY F (fun hb=>?_) (fun hb=>?_))<;>(try exact hb.elim)<;>(try refine ai F ?_)<;>(refine af F ?_)
  ·refine au hQ F ?_;have e:badN (c::t)=true:=(by rw[hbd];simp[hb]);rw[e,Bool.or_true]at*;exact end_ _
  ·refine aD F (fun hc=>?_) (fun hc=>?_)<;>(try exact hc.elim)<;>(refine af F ?_)
   ·refine au hQ F ?_;have e:badN (c::t)=true:=by
     rw[hbd];have:64<(c::t).length:=by simp only[M6];omega
     rw[R4 this,Bool.or_true]
    rw[e,Bool.or_true]at*;exact end_ _
   ·refine au hQ F ?_;have e:badN (c::t)=false:=by
     rw[hbd];have:¬64<(c::t).length:=by simp only[M6];omega
     rw[hb,S7 this];rfl
    rw[e,Y8]at*;exact end_ _
def valueF(s:Bs)(b:Bool):Bs×Bs×Bool:=
 let q:Bs:=if Lib.hasPrefix s [34]=true then [34]else [39]
 let s1:=Lib.trimPrefix s q
 let u:=uptoF q s1 (b|| !Lib.hasPrefix s q)
 (readP (u.1.length+1) u.1,u.2.1,u.2.2||Lib.contains u.1 [60])
theorem fU(w s:Bs)(b:Bool):(uptoF w s b).1.length≤s.length∧(uptoF w s b).2.1.length≤s.length:=by
 unfold uptoF;split
 ·rename_i h;have:=c9 s w h;exact⟨by simp only[];omega,by simp only[];omega⟩
 ·exact⟨by simp,by simp⟩
theorem aP(s w:Bs):(Lib.trimPrefix s w).length≤s.length:=by
 unfold Lib.trimPrefix;split
 ·simp
 ·exact N3 _
theorem uQ(hG:GOk G)(s:Bs)(b:Bool)(hs:s.length≤1048576)(h j:Heap):Sat (CT G) 263 [.hp h.length 0 0 0] (rdH h j s b)
  (fun r h'=>r=.str (valueF s b).1∧h'=rdH h j (valueF s b).2.1 (valueF s b).2.2):=by
 cases hp:Lib.hasPrefix s [34]with
 |true=>
  have hl:=aP s [34];have hu:=fU [34] (Lib.trimPrefix s [34]) b;have hv:valueF s b=(readP ((uptoF [34] (Lib.trimPrefix s [34]) b).1.length+1) (uptoF [34] (Lib.trimPrefix s [34]) b).1,(uptoF [34] (Lib.trimPrefix s [34]) b).2.1,(uptoF [34] (Lib.trimPrefix s [34]) b).2.2||Lib.contains (uptoF [34] (Lib.trimPrefix s [34]) b).1 [60]):=by
   simp[valueF,hp]
  have hus:=dS G hG [34] (Lib.trimPrefix s [34]) b (by omega) h j;rw[hv];generalize uptoF [34] (Lib.trimPrefix s [34]) b=u at hu hus ⊢;have end_:=fun b1=>cE h j [] u.2.1 s b1 b (x:=.str (readP (u.1.length+1) u.1)) (N8 _).symm (fun _=>.str _)
  have ht:=bT G [34] s b h j;rw[hp]at ht;have F:= @X1;refine sb [.tmp 2] Tryz.func263 ?_;intro Q hQ;refine af F ?_;refine aH F (ht) ?_;refine aH F (hus) ?_;(first|refine aX F (fun g=>?_) (fun g=>?_)|refine aY F (fun g=>?_) (fun g=>?_))<;>(try exact g.elim)<;>(try refine ai F ?_)<;>(refine af F ?_)
  ·refine aH F (fy hG u.1 (by omega) _) ?_;refine au hQ F ?_;rw[g,U9]at*;exact end_ _
  ·refine aH F (dz G hG u.1 [60] (by omega) _) ?_;refine aH F (fy hG u.1 (by omega) _) ?_;refine au hQ F ?_;rw[g,za3]at*;exact end_ _
 |false=>
  have hl:=aP s [39];have hu:=fU [39] (Lib.trimPrefix s [39]) (b|| !Lib.hasPrefix s [39]);have hv:valueF s b=(readP ((uptoF [39] (Lib.trimPrefix s [39]) (b|| !Lib.hasPrefix s [39])).1.length+1) (uptoF [39] (Lib.trimPrefix s [39]) (b|| !Lib.hasPrefix s [39])).1,(uptoF [39] (Lib.trimPrefix s [39]) (b|| !Lib.hasPrefix s [39])).2.1,(uptoF [39] (Lib.trimPrefix s [39]) (b|| !Lib.hasPrefix s [39])).2.2||Lib.contains (uptoF [39] (Lib.trimPrefix s [39]) (b|| !Lib.hasPrefix s [39])).1 [60]):=by
   simp[valueF,hp]
  have hus:=dS G hG [39] (Lib.trimPrefix s [39]) (b|| !Lib.hasPrefix s [39]) (by omega) h j;rw[hv];generalize uptoF [39] (Lib.trimPrefix s [39]) (b|| !Lib.hasPrefix s [39])=u at hu hus ⊢;have end_:=fun b1=>cE h j [] u.2.1 s b1 b (x:=.str (readP (u.1.length+1) u.1)) (N8 _).symm (fun _=>.str _)
  have htp:Lib.trimPrefix s [34]=s:=by unfold Lib.trimPrefix;rw[M1 (by simp[hp])]
  have ht:=bT G [34] s b h j;rw[hp,htp]at ht;have F:= @Bool.not_false;refine sb [.tmp 2] Tryz.func263 ?_;intro Q hQ;refine af F ?_;refine aH F (ht) ?_;refine aH F (jX G [39] s b h j) ?_;refine aH F (hus) ?_;(first|refine aX F (fun g=>?_) (fun g=>?_)|refine aY F (fun g=>?_) (fun g=>?_))<;>(try exact g.elim)<;>(try refine ai F ?_)<;>(refine af F ?_)
  ·refine aH F (fy hG u.1 (by omega) _) ?_;refine au hQ F ?_;rw[g,U9]at*;exact end_ _
  ·refine aH F (dz G hG u.1 [60] (by omega) _) ?_;refine aH F (fy hG u.1 (by omega) _) ?_;refine au hQ F ?_;rw[g,za3]at*;exact end_ _
attribute [go_sem] dg
@[go_sem] theorem qq(h j l:Heap)(s:Bs)(b:Bool)(k v:Nat):getRow (rdH h j s b++l) (h.length+(1+(j.length+k))) v=getRow l k v:=by
 rw[show h.length+(1+(j.length+k))=(rdH h j s b).length+k by rw[dg];omega];exact gR _ l k v
@[go_sem] theorem qr(h j l:Heap)(s:Bs)(b:Bool)(v:Nat):getRow (rdH h j s b++l) (h.length+(1+j.length)) v=getRow l 0 v:=qq h j l s b 0 v
@[go_sem] theorem xk(h j l:Heap)(s:Bs)(b:Bool)(k:Nat)(x:Blk):(rdH h j s b++l).set (h.length+(1+(j.length+k))) x=rdH h j s b++l.set k x:=by
 rw[show h.length+(1+(j.length+k))=(rdH h j s b).length+k by rw[dg];omega];exact lQ _ l k x
@[go_sem] theorem oS(h j l:Heap)(s:Bs)(b:Bool)(x:Blk):(rdH h j s b++l).set (h.length+(1+j.length)) x=rdH h j s b++l.set 0 x:=xk h j l s b 0 x
theorem rj(h j l:Heap)(s:Bs)(b:Bool):rdH h j s b++l=rdH h (j++l) s b:=by simp[rdH]
theorem cc{f:FuncId}{args:List AVal}{h j l:Heap}{s:Bs}{b:Bool}{x:AVal}{s1:Bs}{b1:Bool}(g:∀j,Sat (CT G) f args (rdH h j s b) (fun r h'=>r=x∧h'=rdH h j s1 b1)):
  Sat (CT G) f args (rdH h j s b++l) (fun r h'=>r=x∧h'=rdH h j s1 b1++l):=by
 rw[rj];refine(g (j++l)).mono fun r h' ⟨e1,e2⟩=>⟨e1,by rw[e2,rj]⟩
def attrX(s:Bs)(b:Bool):At×Bs×Bool:=
 let n:=nameW s
 let b1:=b||badN n
 let s2:=(nameR s).dropWhile blankB
 let b3:=b1|| !Lib.hasPrefix s2 [61]
 let s4:=(Lib.trimPrefix s2 [61]).dropWhile blankB
 if b3=true then((n,[]),s4,b3)else((n,(valueF s4 b3).1),(valueF s4 b3).2.1,(valueF s4 b3).2.2)
theorem aM(p:UInt8→Bool)(s:Bs):(s.dropWhile p).length≤s.length:=(List.dropWhile_sublist p).length_le
theorem xm(hG:GOk G)(s:Bs)(b:Bool)(hs:s.length≤1048576)(h j:Heap):Sat (CT G) 243 [.hp h.length 0 0 0] (rdH h j s b)
  (fun r h'=>r=(attrX s b).1.av∧h'=rdH h j (attrX s b).2.1 (attrX s b).2.2):=by
 have h1:(nameR s).length≤s.length:=aM _ _;have h2:=aM blankB (nameR s);have h3:=aP ((nameR s).dropWhile blankB) [61];have h4:=aM blankB (Lib.trimPrefix ((nameR s).dropWhile blankB) [61]);have c1:∀l,Sat (CT G) 240 [.hp h.length 0 0 0] (rdH h j s b++l) _:=fun l=>cc G (l:=l) fun j=>hU G s b (by omega) h j
 have c2:∀l b1,Sat (CT G) 241 [.hp h.length 0 0 0] (rdH h j (nameR s) b1++l) _:=fun l b1=>cc G (l:=l) fun j=>fS G (nameR s) b1 (by omega) h j
 have c3:∀l b1,Sat (CT G) 242 [.hp h.length 0 0 0,.str [61]] (rdH h j ((nameR s).dropWhile blankB) b1++l) _:=fun l b1=>cc G (l:=l) fun j=>jX G [61] ((nameR s).dropWhile blankB) b1 h j
 have c4:∀l b1,Sat (CT G) 241 [.hp h.length 0 0 0] (rdH h j (Lib.trimPrefix ((nameR s).dropWhile blankB) [61]) b1++l) _:=fun l b1=>cc G (l:=l) fun j=>fS G _ b1 (by omega) h j
 have c5:∀l b1,Sat (CT G) 263 [.hp h.length 0 0 0] (rdH h j ((Lib.trimPrefix ((nameR s).dropWhile blankB) [61]).dropWhile blankB) b1++l) _:=fun l b1=>cc G (l:=l) fun j=>uQ G hG _ b1 (by omega) h j
 refine sb [.cell 2 254] Tryz.func243 ?_;intro Q hQ;refine af trivial ?_;refine aH trivial (c1 _) ?_;refine aH trivial (c2 _ _) ?_;refine aH trivial (c3 _ _) ?_;refine aH trivial (c4 _ _) ?_;refine aD trivial (fun hc=>?_) (fun hc=>?_)<;>(try exact hc.elim)<;>(refine af trivial ?_)
 ·refine aH trivial (c5 _ _) ?_;refine yV hQ trivial ?_;have e:attrX s b=((nameW s,(valueF _ _).1),(valueF _ _).2.1,(valueF _ _).2.2):=M1 (by simp[hc]);rw[e];exact cE h j _ _ s _ b rfl (fun n=>.agg _ (by intro c hc;simp at hc;rcases hc with rfl|rfl<;>exact .str _))
 ·refine yV hQ trivial ?_;have e:attrX s b=((nameW s,[]),_,_):=M7 (by simpa using hc);rw[e];exact cE h j _ _ s _ b rfl (fun n=>.agg _ (by intro c hc;simp at hc;rcases hc with rfl|rfl<;>exact .str _))
theorem sX(a:At)(w:Bs)(h:Heap):Sat (CT G) 265 [a.av,.hp h.length 0 0 0] (h++[.row 9 1 0 [.str w]])
  (fun r h'=>r=.bool (a.1==w)∧h'=h++[.row 9 1 0 [.str w]]):=by
 obtain⟨n,v⟩:=a;show Sat _ _ [.agg [.str n,.str v],_] _ _;refine sb [.tmp 3] Tryz.func265 ?_;intro Q hQ;refine af trivial ?_;refine af trivial ?_;refine au hQ trivial ?_;exact Y9 (j:=_) (O9 h [_] [_]).symm (.bool _) ⟨rfl,rfl⟩
def idxG(p:At→Bool)(l:List At):Int:=match l.findIdx? p with
 |some i=>i
 |none=> -1
theorem xn(p:At→Bool)(l:List At):decide (0≤idxG p l)=l.any p:=by
 unfold idxG;cases h:l.findIdx? p with
 |some i=>
  rw[List.findIdx?_eq_some_iff_getElem]at h;obtain⟨hi,h1,_⟩:=h;have:l.any p=true:=zb1.2 ⟨l[i],za9 hi,h1⟩;rw[this];simp
 |none=>
  rw[List.findIdx?_eq_none_iff]at h;have:l.any p=false:=by rw[za6];intro a ha;simp[h a ha]
  rw[this];rfl
theorem uR(h:Heap)(n:Nat):Frz h n (.agg [.str [],.nil (.slice none 0 0),.str [],.nil (.slice none 0 0)]) (Elem.av ⟨[],[],[],[]⟩):=by
 rw[Elem.av_eq];refine .agg _ _ rfl (by simp[AVal.sto]) fun i c d hc hd=>?_
 match i with
 |0=>simp at hc hd;subst hc;subst hd;exact .clo _ (.str _)
 |1=>simp[Elem.attrs]at hc hd;subst hc;subst hd;exact .nils _
 |2=>simp at hc hd;subst hc;subst hd;exact .clo _ (.str _)
 |3=>simp[Elem.kids]at hc hd;subst hc;subst hd;exact .nils _
 |i+4=>simp at hc
def kidF(e:Elem)(n:Bs):Elem×Bool:=match kidsF e n with| []=>(⟨[],[],[],[]⟩,false)|k::_=>(k,true)
instance tokEq:DecidableEq Tok:=fun a b=>inferInstanceAs (Decidable ((a:Int×List UInt8×List (List UInt8×List UInt8)×List UInt8)=b))
theorem xp(h:Heap)(m:Nat)(k:Int)(n t:Bs):Frz h m (.agg [.int .i64 k,.str n,.nil (.slice none 0 0),.str t]) (Tok.av (k,n,[],t)):=by
 refine .agg _ _ rfl (by intro d hd;simp at hd;rcases hd with rfl|rfl|rfl|rfl<;>rfl) fun i c d hc hd=>?_
 match i with
 |0=>simp at hc hd;subst hc;subst hd;exact .clo _ (.int _ _)
 |1=>simp at hc hd;subst hc;subst hd;exact .clo _ (.str _)
 |2=>simp at hc hd;subst hc;subst hd;exact .nils _
 |3=>simp at hc hd;subst hc;subst hd;exact .clo _ (.str _)
 |i+4=>simp at hc
theorem ng{h0 h1 pre post:Heap}{e v q:Nat}(l:List Tok)(k:Int)(n t:Bs)(hh:h1=pre++ .row e 4 v (l.map Tok.av++[.agg [.int .i64 k,.str n,.nil (.slice none 0 0),.str t]])::post)(hq:q=pre.length)(hp:h0.length≤q):
  Frz h1 h0.length (.hs q v 0 (l.length+1) true) (.sl 4 ((l++[(k,n,[],t)]).map Tok.av)):=by
 subst hh;subst hq;have at_:∀(i:Nat) (r s:AVal),(l.map Tok.av++[AVal.agg [.int .i64 k,.str n,.nil (.slice none 0 0),.str t]])[i]? =some r→((l++[(k,n,[],t)]).map Tok.av)[i]? =some s→
   (∃a,r=Tok.av a∧s=r)∨(r=.agg [.int .i64 k,.str n,.nil (.slice none 0 0),.str t]∧s=Tok.av (k,n,[],t)):=by
  intro i r s hr hs;rw[R3]at hs;rcases U5 i (l.map Tok.av).length with h1|h1|h1
  ·rw[M5 h1]at hr hs;rw[hr]at hs;cases hs;obtain⟨a,_,rfl⟩:=N5.1 (N0 hr);exact .inl ⟨a,rfl,rfl⟩
  ·subst h1;simp only[M9 (N3 _),za0,O3,R5,W5,O4]at hr hs;exact .inr ⟨hr.symm,hs.symm⟩
  ·rw[M9 (by omega),R6 (by simp at h1 ⊢;omega)]at hr;cases hr
 have:=Frz.hs (h:=pre++ .row e 4 v (l.map Tok.av++[.agg [.int .i64 k,.str n,.nil (.slice none 0 0),.str t]])::post) (n:=h0.length) pre.length v 0 (l.length+1) true e 4 _ ((l++[(k,n,[],t)]).map Tok.av) hp (by simp[getRow];rfl) (by simp) (by simp)
   (fun i r s hr hs=>by rcases at_ i r s hr hs with⟨a,rfl,rfl⟩| ⟨rfl,rfl⟩;exact .clo _ (Tok.clo _ _);exact xp _ _ _ _ _)
   (fun i r s hr hs=>by
    rcases at_ i r s hr hs with⟨a,rfl,rfl⟩| ⟨rfl,rfl⟩
    ·exact⟨rfl,fun j c d _ hd=>Tok.av_sto _ d (N0 hd)⟩
    ·exact⟨rfl,fun j c d _ hd=>Tok.av_sto _ d (N0 hd)⟩)
   (fun i r s j c d hr hs hc hd=>by
    rcases at_ i r s hr hs with⟨a,rfl,rfl⟩| ⟨rfl,rfl⟩
    ·rw[hc]at hd;cases hd;exact .clo _ ((Tok.clo _ _).cells c (N0 hc))
    ·match j with
     |0=>simp[Tok.av,AVal.cells]at hc hd;subst hc;subst hd;exact .clo _ (.int _ _)
     |1=>simp[Tok.av,AVal.cells]at hc hd;subst hc;subst hd;exact .clo _ (.str _)
     |2=>simp[Tok.av,AVal.cells]at hc hd;subst hc;subst hd;exact .nils _
     |3=>simp[Tok.av,AVal.cells]at hc hd;subst hc;subst hd;exact .clo _ (.str _)
     |j+4=>simp[AVal.cells]at hc)
 rw[zb4,P5 (by simp)]at this;exact this
theorem oT(s:Bs)(h:Heap):Sat (CT G) 212 [.str s] h (fun r h'=>r=.sl 4 ([(3,[],[],s)].map Tok.av)∧h'=h):=by
 skip
 refine sb [.tmp 2] Tryz.func212 ?_;intro Q hQ;refine uw trivial ?_;refine uw trivial ?_;refine au hQ trivial ?_;have fz:=ng (h0:=h) (h1:=h++[.row 221 4 0 [.agg [.int .i64 3,.str [],.nil (.slice none 0 0),.str s]]]) (pre:=h) (post:=[]) [] 3 [] s rfl rfl (N3 _);exact Fin.frz fz ⟨rfl,rfl⟩
theorem dh(h j jj:Heap)(s s0:Bs)(b b0:Bool){h2:Heap}{x y:AVal}(hh:h2=rdH h j s b++jj)(hx:Frz h2 (rdH h j s0 b0).length x y):Fin (rdH h j s0 b0) h2 (fun r h'=>r=y∧h'=rdH h j s b) x:=by
 subst hh;exact Fin.keepF (by simp only[dg]) (fun p k hk=>re _ _ _ _ _ _ _ p k hk) hx ⟨rfl,rfl⟩
def kindF(s:Bs)(b:Bool):Bs×Bool:=
 let u:=uptoF [62] s b
 (u.2.1,Lib.contains u.1 [91]||u.2.2)
theorem xt(hG:GOk G)(s:Bs)(b:Bool)(hs:s.length≤1048576)(h j:Heap):Sat (CT G) 211 [.hp h.length 0 0 0] (rdH h j s b)
  (fun r h'=>r=.sl 4 []∧h'=rdH h j (kindF s b).1 (kindF s b).2):=by
 have hu:=fU [62] s b;have hus:=dS G hG [62] s b (by omega) h j;have hv:kindF s b=((uptoF [62] s b).2.1,Lib.contains (uptoF [62] s b).1 [91]||(uptoF [62] s b).2.2):=rfl;rw[hv];generalize uptoF [62] s b=u at hu hus ⊢;refine sb [.tmp 2] Tryz.func211 ?_;intro Q hQ;refine uw trivial ?_;refine ux trivial (hus) ?_;refine ux trivial (dz G hG u.1 [91] (by omega) _) ?_;have end_:=fun b1=>dh h j [] u.2.1 s b1 b (x:=.nil (.slice none 0 0)) (y:=.sl 4 []) (N8 _).symm (Frz.nils 4)
 (first|refine aX trivial (fun g=>?_) (fun g=>?_)|refine aY trivial (fun g=>?_) (fun g=>?_))<;>(try exact g.elim)<;>(try refine ai trivial ?_)<;>(refine uw trivial ?_)
 ·refine au hQ trivial ?_;rw[g,U9]at*;exact end_ _
 ·refine au hQ trivial ?_;rw[g,za3]at*;exact end_ _
def closeF(s:Bs)(b:Bool):Bs×Bool:=
 let s2:=(nameR s).dropWhile blankB
 (Lib.trimPrefix s2 [62],(b||badN (nameW s))|| !Lib.hasPrefix s2 [62])
theorem uS(s:Bs)(b:Bool)(hs:s.length≤1048576)(h j:Heap):Sat (CT G) 213 [.hp h.length 0 0 0] (rdH h j s b)
  (fun r h'=>r=.sl 4 ([(2,nameW s,[],[])].map Tok.av)∧h'=rdH h j (closeF s b).1 (closeF s b).2):=by
 have h1:(nameR s).length≤s.length:=aM _ _;have c1:∀l,Sat (CT G) 240 [.hp h.length 0 0 0] (rdH h j s b++l) _:=fun l=>cc G (l:=l) fun j=>hU G s b (by omega) h j
 have c2:∀l b1,Sat (CT G) 241 [.hp h.length 0 0 0] (rdH h j (nameR s) b1++l) _:=fun l b1=>cc G (l:=l) fun j=>fS G (nameR s) b1 (by omega) h j
 have c3:∀l b1,Sat (CT G) 242 [.hp h.length 0 0 0,.str [62]] (rdH h j ((nameR s).dropWhile blankB) b1++l) _:=fun l b1=>cc G (l:=l) fun j=>jX G [62] ((nameR s).dropWhile blankB) b1 h j
 refine sb [.tmp 2] Tryz.func213 ?_;intro Q hQ;refine uw trivial ?_;refine ux trivial (hU G s b (by omega) h j) ?_;refine ux trivial (c2 _ _) ?_;refine ux trivial (c3 _ _) ?_;refine au hQ trivial ?_;refine dh h j _ _ s _ b rfl ?_;exact ng (pre:=rdH h j _ _++[_]) (post:=[]) [] 2 (nameW s) [] (O9 _ [_] [_]).symm (by simp[dg];try omega) (by simp[dg];try omega)
end Go.Av
namespace Go.Av
open Go Go.RowKit
attribute [local irreducible] WP WPl WPix Sat
structure FrzR (h:Heap) (n:Nat) (r s:AVal):Prop where
 all:Frz h n r s
 len:r.cells.length=s.cells.length
 sto:∀d∈s.cells,d.sto=true
 cell:∀(j:Nat) (c d:AVal),r.cells[j]? =some c→s.cells[j]? =some d→Frz h n c d
theorem Frz.rows{h:Heap}{n q v e m:Nat}{rows es:List AVal}{len:Nat}{room:Bool}(hq:n≤q)(hg:getRow h q v=some (e,m,rows))(hlen:len=rows.length)(hl:es.length=rows.length)
  (hp:∀(i:Nat) (r s:AVal),rows[i]? =some r→es[i]? =some s→FrzR h n r s):Frz h n (.hs q v 0 len room) (.sl m es):=by
 subst hlen;have:=Frz.hs (h:=h) (n:=n) q v 0 rows.length room e m rows es hq hg (by omega) hl (fun i r s hr hs=>(hp i r s hr hs).all)
  (fun i r s hr hs=>⟨(hp i r s hr hs).len,fun j c d _ hd=>(hp i r s hr hs).sto d (N0 hd)⟩) (fun i r s j c d hr hs hc hd=>(hp i r s hr hs).cell j c d hc hd)
 rw[zb4, ← hl,Z9]at this;rw[← hl];exact this
theorem FrzR.clo{h:Heap}{n:Nat}{r:AVal}(hc:Clo n r)(hs:∀d∈r.cells,d.sto=true):FrzR h n r r:=
 ⟨.clo _ hc,rfl,hs,fun j c d h1 h2=>by rw[h1]at h2;cases h2;exact .clo _ (hc.cells c (N0 h1))⟩
theorem FrzR.agg{h:Heap}{n:Nat}{cs ds:List AVal}(hl:cs.length=ds.length)(hs:∀d∈ds,d.sto=true)(hc:∀(i:Nat) (c d:AVal),cs[i]? =some c→ds[i]? =some d→Frz h n c d):FrzR h n (.agg cs) (.agg ds):=
 ⟨.agg _ _ hl hs hc,hl,hs,hc⟩
inductive FrzL (h:Heap) (n:Nat):List AVal→List AVal→Prop
 |nil:FrzL h n [] []
 |cons {c d:AVal} {cs ds:List AVal}:Frz h n c d→FrzL h n cs ds→FrzL h n (c::cs) (d::ds)
theorem FrzL.len{h:Heap}{n:Nat}{cs ds:List AVal}(z:FrzL h n cs ds):cs.length=ds.length:=by induction z with|nil=>rfl|cons _ _ ih=>simp[ih]
theorem FrzL.at_{h:Heap}{n:Nat}{cs ds:List AVal}(z:FrzL h n cs ds):∀(i:Nat) (c d:AVal),cs[i]? =some c→ds[i]? =some d→Frz h n c d:=by
 induction z with
 |nil=>intro i c d h1;simp at h1
 |cons z _ ih=>
  intro i c d h1 h2
  match i with
  |0=>simp at h1 h2;subst h1;subst h2;exact z
  |i+1=>exact ih i c d (by simpa using h1) (by simpa using h2)
theorem FrzL.agg{h:Heap}{n:Nat}{cs ds:List AVal}(z:FrzL h n cs ds)(hs:ds.all AVal.sto=true):Frz h n (.agg cs) (.agg ds):=.agg _ _ z.len (P4.1 hs) z.at_
theorem FrzL.tup{h:Heap}{n:Nat}{cs ds:List AVal}(z:FrzL h n cs ds):Frz h n (.tup cs) (.tup ds):=.tup _ _ z.len z.at_
theorem FrzL.row{h:Heap}{n:Nat}{cs ds:List AVal}(z:FrzL h n cs ds)(hs:ds.all AVal.sto=true):FrzR h n (.agg cs) (.agg ds):=.agg z.len (P4.1 hs) z.at_
inductive FrzRs (h:Heap) (n:Nat):List AVal→List AVal→Prop
 |nil:FrzRs h n [] []
 |cons {c d:AVal} {cs ds:List AVal}:FrzR h n c d→FrzRs h n cs ds→FrzRs h n (c::cs) (d::ds)
theorem FrzRs.len{h:Heap}{n:Nat}{cs ds:List AVal}(z:FrzRs h n cs ds):cs.length=ds.length:=by induction z with|nil=>rfl|cons _ _ ih=>simp[ih]
theorem FrzRs.at_{h:Heap}{n:Nat}{cs ds:List AVal}(z:FrzRs h n cs ds):∀(i:Nat) (c d:AVal),cs[i]? =some c→ds[i]? =some d→FrzR h n c d:=by
 induction z with
 |nil=>intro i c d h1;simp at h1
 |cons z _ ih=>
  intro i c d h1 h2
  match i with
  |0=>simp at h1 h2;subst h1;subst h2;exact z
  |i+1=>exact ih i c d (by simpa using h1) (by simpa using h2)
theorem FrzRs.hs{h:Heap}{n q v e m:Nat}{rows es:List AVal}{len:Nat}{room:Bool}(hg:getRow h q v=some (e,m,rows))(hlen:len=rows.length)(hq:n≤q)(z:FrzRs h n rows es):Frz h n (.hs q v 0 len room) (.sl m es):=
 Frz.rows hq hg hlen z.len.symm z.at_
theorem Frz.data{h:Heap}{n q v e m:Nat}{rows:List AVal}{len:Nat}{room:Bool}(hq:n≤q)(hg:getRow h q v=some (e,m,rows))(hlen:len=rows.length)(hc:∀r∈rows,Clo n r)(hs:∀r∈rows,∀c∈r.cells,c.sto=true):Frz h n (.hs q v 0 len room) (.sl m rows):=
 Frz.rows hq hg hlen rfl fun i r s hr hs'=>by rw[hr]at hs';cases hs';exact FrzR.clo (hc r (N0 hr)) (hs r (N0 hr))
end Go.Av
namespace Go.Av
open Go Go.Proofs Go.RowKit
attribute [local irreducible] WP WPl WPix Sat
theorem At.cells_sto(e:At):∀c∈e.av.cells,c.sto=true:=by
 rw[At.av_cells];intro c hc;simp only[O5,S8,or_false]at hc;rcases hc with rfl|rfl<;>rfl
theorem Frz.ats{h:Heap}{n q v e:Nat}{l:List At}{len:Nat}{room:Bool}(hq:n≤q)(hg:getRow h q v=some (e,2,l.map At.av))(hlen:len=l.length):Frz h n (.hs q v 0 len room) (.sl 2 (l.map At.av)):=
 Frz.data hq hg (by simpa using hlen) (fun r hr=>by obtain⟨a,_,rfl⟩:=N5.1 hr;exact At.clo _ a) (fun r hr=>by obtain⟨a,_,rfl⟩:=N5.1 hr;exact At.cells_sto a)
variable (G:Nat→Option (List AVal))
theorem mg(p:At→Bool)(g:FuncId)(cap:List AVal)(h:Heap)(hg:∀a:At,Sat (CT G) g ([]++[a.av]++cap) h (fun r h'=>r=.bool (p a)∧h'=h))(l:List At)(q v:Nat)(hrow:getRow h q v=some (254,2,l.map At.av))(hl:l.length≤1073741824):
  Sat (CT G) 221 [.hs q v 0 l.length true,.fn (.func g) [] cap] h
   (fun r h'=>r=.int .i64 (idxG p l)∧h'=h):=by
 have F:= @hrow;refine sb [.tmp 4] Tryz.func221 ?_;intro Q hQ;refine af F ?_;refine lm (fun nL tL hL=>∃(k:Nat),l.length-k=nL∧h=hL∧tL 8=.int .i64 k∧k≤l.length∧∀a∈l.take k,p a=false) ((fun(k:Nat)=>(l.length-k:Nat)) (0)) ?_ ?_
 ·refine N6 ⟨0,rfl,aw,?_,V8 _,by simp⟩;all_goals first|exact az F|rfl|omega|trivial|skip
 rintro _ s2 h' ⟨k,rfl,rfl,e8,hk,hp⟩ K2 hK2;simp only[aj,am,Nat.reduceEqDiff, ↓reduceIte]at e8;have F:=F2 F e8;refine af F ?_;refine aD F (fun hc=>?_) (fun hc=>?_)<;>(try exact hc.elim)
 ·obtain⟨y,hy,hym⟩:=ak hc;have F:=F2 F hy;refine af F ?_;refine⟨hc,?_⟩;refine aH F (hg y) ?_;refine aD F (fun hq=>?_) (fun hq=>?_)<;>(try exact hq.elim)<;>(refine af F ?_)
  ·refine au hQ F ?_;have e:idxG p l=k:=by
    unfold idxG;have:l.findIdx? p=some k:=by
     rw[List.findIdx?_eq_some_iff_getElem];refine⟨hc,?_,?_⟩
     ·rw[M4 hc]at hy;cases hy;exact hq
     ·intro i hi;rw[hp _ (by rw[List.mem_take_iff_getElem];exact⟨i,by omega,rfl⟩)];simp
    rw[this]
   rw[e];exact Y9 (j:=[]) (N8 _).symm (.int _ _) ⟨rfl,rfl⟩
  ·have hp1:∀a∈l.take (k+1),p a=false:=by
    rw[T9,hy];intro a ha;simp at ha;rcases ha with ha|rfl
    ·exact hp a ha
    ·exact hq
   refine hK2 _ _ _ (N6 ⟨k+1,rfl,aw,?_,by omega,hp1⟩) (by omega);all_goals first|exact az F|rfl|omega|trivial|skip
 ·refine af F ?_;refine au hQ F ?_;have e:idxG p l= -1:=by
   unfold idxG;have:l.findIdx? p=none:=by
    rw[List.findIdx?_eq_none_iff];intro a ha;exact hp a (by rwa [P5 hc])
   rw[this]
  rw[e];exact Y9 (j:=[]) (N8 _).symm (.int _ _) ⟨rfl,rfl⟩
theorem jx(p:At→Bool)(g:FuncId)(cap:List AVal)(h:Heap)(hg:∀a:At,Sat (CT G) g ([]++[a.av]++cap) h (fun r h'=>r=.bool (p a)∧h'=h))(l:List At)(q v:Nat)(hrow:getRow h q v=some (254,2,l.map At.av))(hl:l.length≤1073741824):
  Sat (CT G) 264 [.hs q v 0 l.length true,.fn (.func g) [] cap] h
   (fun r h'=>r=.bool (l.any p)∧h'=h):=by
 refine sb [.tmp 4] Tryz.func264 ?_;intro Q hQ;refine af trivial ?_;refine aH trivial (mg G p g cap h hg l q v hrow hl) ?_;refine au hQ trivial ?_;rw[xn]at*;exact Y9 (j:=[]) (N8 _).symm (.bool _) ⟨rfl,rfl⟩
theorem sY(l:List At)(w:Bs)(h:Heap)(q v:Nat)(hrow:getRow h q v=some (254,2,l.map At.av))(hl:l.length≤1073741824):Sat (CT G) 244 [.hs q v 0 l.length true,.str w] h
  (fun r h'=>r=.bool (l.any fun a=>a.1==w)∧h'=h):=by
 refine sb [.tmp 4] Tryz.func244 ?_;intro Q hQ;refine af trivial ?_;refine aH trivial (jx G (fun a=>a.1==w) 265 [.hp h.length 0 0 0] _ (fun a=>sX G a w h) l q v (eW hrow) hl) ?_;refine au hQ trivial ?_;exact Y9 (j:=_) rfl (.bool _) ⟨rfl,rfl⟩
end Go.Av
namespace Go.Av
open Go Go.Proofs Go.RowKit
attribute [local irreducible] WP WPl WPix Sat
variable (G:Nat→Option (List AVal))
def textP(c:Int):Bool:= !(decide (c=60))
def textB(b:UInt8):Bool:=textP b.toNat
theorem zz:ByByte textP textB true:=⟨fun _ _=>rfl,fun c hc _=>by unfold textP;simp;omega,fun b hb=>by unfold textB textP;simp;omega⟩
theorem uT(c:Int)(h:Heap):Sat (CT G) 217 [.int .i32 c] h (fun r h'=>r=.bool (textP c)∧h'=h):=by
 refine sb [.tmp 2] Tryz.func217 ?_;intro Q hQ;refine af trivial ?_;refine au hQ trivial ?_;exact Y9 (j:=[]) (N8 _).symm (.bool _) ⟨by unfold textP;rfl,rfl⟩
def openL:Nat→Bs→List At→Bs→Bool→List Tok×Bs×Bool
 |0,_,_,s,_=>([],s,true)
 |f+1,n,at_,s,b=>
  if b=true then([],s,true)else
  if Lib.hasPrefix (s.dropWhile blankB) [62]=true then([(1,n,at_,[])],Lib.trimPrefix (s.dropWhile blankB) [62],false)else
  if Lib.hasPrefix (s.dropWhile blankB) [47,62]=true then([(1,n,at_,[]),(2,n,[],[])],Lib.trimPrefix (s.dropWhile blankB) [47,62],false)else
  openL f n (at_++[(attrX (s.dropWhile blankB) false).1]) (attrX (s.dropWhile blankB) false).2.1
   ((((attrX (s.dropWhile blankB) false).2.2||s.takeWhile blankB==[])||at_.any fun a=>a.1==(attrX (s.dropWhile blankB) false).1.1)||decide (32≤at_.length))
theorem bN(w s:Bs)(b:Bool):(uptoF w s b).2.1.length≤s.length:=(fU w s b).2
theorem uU(s:Bs)(b:Bool):(valueF s b).2.1.length≤s.length:=by
 have h1:=aP s (if Lib.hasPrefix s [34]=true then [34]else [39]);have h2:=bN (if Lib.hasPrefix s [34]=true then [34]else [39]) (Lib.trimPrefix s (if Lib.hasPrefix s [34]=true then [34]else [39])) (b|| !Lib.hasPrefix s (if Lib.hasPrefix s [34]=true then [34]else [39]));show(uptoF _ _ _).2.1.length≤_;omega
theorem gz(s:Bs)(h:badN (nameW s)=false):(nameR s).length<s.length:=by
 have h1:(nameW s).length+(nameR s).length=s.length:=by
  have:=O6 List.length (W4 (p:=moreB) (l:=s));rw[M3]at this;exact this
 cases hn:nameW s with
 |nil=>rw[hn]at h;cases h
 |cons c t=>rw[hn]at h1;simp at h1;omega
theorem fV(s:Bs)(b:Bool):(attrX s b).2.1.length≤(nameR s).length:=by
 have h2:=aM blankB (nameR s);have h3:=aP ((nameR s).dropWhile blankB) [61];have h4:=aM blankB (Lib.trimPrefix ((nameR s).dropWhile blankB) [61]);unfold attrX;simp only[];split
 ·simp only[];omega
 ·have:=uU ((Lib.trimPrefix ((nameR s).dropWhile blankB) [61]).dropWhile blankB) (b||badN (nameW s)|| !Lib.hasPrefix ((nameR s).dropWhile blankB) [61]);simp only[];omega
theorem l7(s:Bs)(h:(attrX s false).2.2=false):badN (nameW s)=false:=by
 cases hb:badN (nameW s)with
 |false=>rfl
 |true=>
  exfalso;unfold attrX at h;simp only[hb,Bool.or_true,U9,if_true]at h;cases h
theorem sZ(s:Bs)(h:(attrX s false).2.2=false):(attrX s false).2.1.length<s.length:=by
 have h1:=fV s false;have h2:=gz s (l7 s h);omega
def openF(s:Bs):List Tok×Bs×Bool:=openL (s.length+3) (nameW s) [] (nameR s) (badN (nameW s))
def tkR(n:Bs)(q v len:Nat):Blk:=.row 221 4 0 [.agg [.int .i64 1,.str n,.hs q v 0 len true,.str []]]
def atR(v:Nat)(l:List At):Blk:=.row 254 2 v (l.map At.av)
@[go_sem] theorem DF(n:Bs)(q v len:Nat)(l:Heap):getRow (tkR n q v len::l) 0 0=some (221,4,[.agg [.int .i64 1,.str n,.hs q v 0 len true,.str []]]):=rfl
@[go_sem] theorem Cn(n:Bs)(q v len:Nat)(l:Heap)(k u:Nat):getRow (tkR n q v len::l) (k+1) u=getRow l k u:=rfl
@[go_sem] theorem DG(v:Nat)(l:List At)(j:Heap):getRow (atR v l::j) 0 v=some (254,2,l.map At.av):=by simp[getRow,atR]
@[go_sem] theorem Co(v:Nat)(l:List At)(j:Heap)(k u:Nat):getRow (atR v l::j) (k+1) u=getRow j k u:=rfl
theorem rk{H:Heap}{n q v e:Nat}(k:Int)(nm:Bs)(l:List At)(hg:getRow H q v=some (e,2,l.map At.av))(hq:n≤q):FrzR H n (.agg [.int .i64 k,.str nm,.hs q v 0 l.length true,.str []]) (Tok.av (k,nm,l,[])):=
 FrzL.row (.cons (.clo _ (.int _ _)) (.cons (.clo _ (.str _)) (.cons (Frz.ats hq hg rfl) (.cons (.clo _ (.str _)) .nil)))) rfl
theorem xu{H:Heap}{n:Nat}(k:Int)(nm:Bs):FrzR H n (.agg [.int .i64 k,.str nm,.nil (.slice none 0 0),.str []]) (Tok.av (k,nm,[],[])):=
 FrzL.row (.cons (.clo _ (.int _ _)) (.cons (.clo _ (.str _)) (.cons (.nils _) (.cons (.clo _ (.str _)) .nil)))) rfl
theorem xw(hG:GOk G)(s:Bs)(hs:s.length≤1048576)(h j:Heap):Sat (CT G) 214 [.hp h.length 0 0 0] (rdH h j s false)
  (fun r h'=>r=.sl 4 ((openF s).1.map Tok.av)∧h'=rdH h j (openF s).2.1 (openF s).2.2):=by
 have h1:(nameR s).length≤s.length:=aM _ _;have c1:∀s b l,s.length≤1048576→Sat (CT G) 241 [.hp h.length 0 0 0] (rdH h j s b++l) _:=fun s b l hs=>cc G (l:=l) fun j=>fS G s b (by omega) h j
 have c2:∀w s b l,Sat (CT G) 209 [.hp h.length 0 0 0,.str w] (rdH h j s b++l) _:=fun w s b l=>cc G (l:=l) fun j=>bT G w s b h j
 have c3:∀s b l,s.length≤1048576→Sat (CT G) 243 [.hp h.length 0 0 0] (rdH h j s b++l) _:=fun s b l hs=>cc G (l:=l) fun j=>xm G hG s b hs h j
 have end_:=fun(jj:Heap) (x:AVal)=>dh h j jj (openF s).2.1 s (openF s).2.2 false (x:=x) (y:=.sl 4 ((openF s).1.map Tok.av)) rfl
 skip
 refine sb [.tmp 2] Tryz.func214 ?_;intro Q hQ;(repeat (first|refine w1 (fun K hK=>?_)|refine w2 ?_|refine w3 ?_| ((first|refine w4 ?_|refine wD ?_|refine w5 ?_|refine w6 ?_|refine w7 ?_);try refine sq trivial ?_)| (refine w8 ?_;refine sq trivial ?_;refine w9 ?_)| (refine xq trivial ?_;try refine sq trivial ?_)| ((first|refine hK _ _ (w0 ?_)| (clear hK K;refine hK _ _ (w0 ?_))| (clear hK K;clear hK K;refine hK _ _ (w0 ?_)));clear hK K)))
 refine(hU G s false (by omega) h j).mono ?_;rintro r h' ⟨rfl,rfl⟩;try refine sq trivial ?_
 (repeat (first|refine w1 (fun K hK=>?_)|refine w2 ?_|refine w3 ?_| ((first|refine w4 ?_|refine wD ?_|refine w5 ?_|refine w6 ?_|refine w7 ?_);try refine sq trivial ?_)| (refine w8 ?_;refine sq trivial ?_;refine w9 ?_)| (refine xq trivial ?_;try refine sq trivial ?_)| ((first|refine hK _ _ (w0 ?_)| (clear hK K;refine hK _ _ (w0 ?_))| (clear hK K;clear hK K;refine hK _ _ (w0 ?_)));clear hK K)))
 refine lm (fun nL tL hL=>∃(f v:Nat) (s1:Bs) (b:Bool) (at_:List At) (jj:Heap),f=nL∧rdH h j s1 b++tkR (nameW s) (h.length+(1+(j.length+1))) v at_.length::atR v at_::jj=hL∧tL 0=.hp h.length 0 0 0∧tL 3=.hp (h.length+(1+j.length)) 0 0 0∧s1.length≤s.length∧(1≤f∧(b=false→s1.length+2≤f))∧openL f (nameW s) at_ s1 b=openF s∧((b=false→at_.length≤32))) ((fun(f v:Nat) (s1:Bs) (b:Bool) (at_:List At) (jj:Heap)=>(f:Nat)) ((s.length+3)) (0) ((nameR s)) (badN (nameW s)) ([]) ([])) ?_ ?_
 ·refine⟨_,_,za7 (p:=h.length+(1+j.length)) (v:=0) 254 2 (by omega) (by simp(disch:=first|omega| (simp only[go_sem, ↓reduceIte,seval];first|done|omega)|fail) only[go_sem, ↓reduceIte,seval];rfl) 2 rfl,⟨(s.length+3),0,(nameR s),badN (nameW s),[],[],rfl,(by rw[oS];simp[dg,tkR,atR,Nat.add_assoc]),?_,?_,h1,⟨by omega,fun _=>by omega⟩,rfl,fun _=>by simp⟩⟩;all_goals try exact zZz trivial
 rintro _ s2 h' ⟨f,v,s1,b,at_,jj,rfl,rfl,e0,e3,hs1,hf,hp,ha⟩ K2 hK2;simp only[aj,am,Nat.reduceEqDiff, ↓reduceIte]at e0 e3;have F:=F2 e0 e3;(repeat (first|refine w1 (fun K hK=>?_)|refine w2 ?_|refine w3 ?_| ((first|refine w4 ?_|refine wD ?_|refine w5 ?_|refine w6 ?_|refine w7 ?_);try refine sq F ?_)| (refine w8 ?_;refine sq F ?_;refine w9 ?_)| (refine xq F ?_;try refine sq F ?_)| ((first|refine hK _ _ (w0 ?_)| (clear hK K;refine hK _ _ (w0 ?_))| (clear hK K;clear hK K;refine hK _ _ (w0 ?_)));clear hK K)))
 refine cq F (fun hc=>?_) (fun hc=>?_)<;>(try exact hc.elim)<;>((repeat (first|refine w1 (fun K hK=>?_)|refine w2 ?_|refine w3 ?_| ((first|refine w4 ?_|refine wD ?_|refine w5 ?_|refine w6 ?_|refine w7 ?_);try refine sq F ?_)| (refine w8 ?_;refine sq F ?_;refine w9 ?_)| (refine xq F ?_;try refine sq F ?_)| ((first|refine hK _ _ (w0 ?_)| (clear hK K;refine hK _ _ (w0 ?_))| (clear hK K;clear hK K;refine hK _ _ (w0 ?_)));clear hK K))))
 ·subst hc;obtain⟨g,rfl⟩:∃g,f=g+1:=⟨f-1,by omega⟩;have hd:=aM blankB s1;rw[openL,M1 (by simp)]at hp;have hf2:=hf.2 rfl;have ha2:=ha rfl;(repeat (first|refine w1 (fun K hK=>?_)|refine w2 ?_|refine w3 ?_| ((first|refine w4 ?_|refine wD ?_|refine w5 ?_|refine w6 ?_|refine w7 ?_);try refine sq F ?_)| (refine w8 ?_;refine sq F ?_;refine w9 ?_)| (refine xq F ?_;try refine sq F ?_)| ((first|refine hK _ _ (w0 ?_)| (clear hK K;refine hK _ _ (w0 ?_))| (clear hK K;clear hK K;refine hK _ _ (w0 ?_)));clear hK K)))
  refine(c1 _ _ _ (by omega)).mono ?_;rintro r h' ⟨rfl,rfl⟩;try refine sq F ?_
  (repeat (first|refine w1 (fun K hK=>?_)|refine w2 ?_|refine w3 ?_| ((first|refine w4 ?_|refine wD ?_|refine w5 ?_|refine w6 ?_|refine w7 ?_);try refine sq F ?_)| (refine w8 ?_;refine sq F ?_;refine w9 ?_)| (refine xq F ?_;try refine sq F ?_)| ((first|refine hK _ _ (w0 ?_)| (clear hK K;refine hK _ _ (w0 ?_))| (clear hK K;clear hK K;refine hK _ _ (w0 ?_)));clear hK K)))
  refine(c2 [62] _ _ _).mono ?_;rintro r h' ⟨rfl,rfl⟩;try refine sq F ?_
  (repeat (first|refine w1 (fun K hK=>?_)|refine w2 ?_|refine w3 ?_| ((first|refine w4 ?_|refine wD ?_|refine w5 ?_|refine w6 ?_|refine w7 ?_);try refine sq F ?_)| (refine w8 ?_;refine sq F ?_;refine w9 ?_)| (refine xq F ?_;try refine sq F ?_)| ((first|refine hK _ _ (w0 ?_)| (clear hK K;refine hK _ _ (w0 ?_))| (clear hK K;clear hK K;refine hK _ _ (w0 ?_)));clear hK K)))
  refine cq F (fun hc1=>?_) (fun hc1=>?_)<;>(try exact hc1.elim)<;>((repeat (first|refine w1 (fun K hK=>?_)|refine w2 ?_|refine w3 ?_| ((first|refine w4 ?_|refine wD ?_|refine w5 ?_|refine w6 ?_|refine w7 ?_);try refine sq F ?_)| (refine w8 ?_;refine sq F ?_;refine w9 ?_)| (refine xq F ?_;try refine sq F ?_)| ((first|refine hK _ _ (w0 ?_)| (clear hK K;refine hK _ _ (w0 ?_))| (clear hK K;clear hK K;refine hK _ _ (w0 ?_)));clear hK K))))
  ·rw[M7 hc1]at hp;refine ee hQ F ?_;rw[← hp];refine dh h j _ _ s _ false rfl ?_;exact FrzRs.hs (by simp(disch:=first|omega| (simp only[go_sem, ↓reduceIte,seval];first|done|omega)|fail) only[go_sem, ↓reduceIte,seval,F];rfl) rfl (by simp(disch:=first|omega| (simp only[go_sem, ↓reduceIte,seval];first|done|omega)|fail) only[go_sem, ↓reduceIte,seval,F];omega) (.cons (rk 1 _ at_ (by simp(disch:=first|omega| (simp only[go_sem, ↓reduceIte,seval];first|done|omega)|fail) only[go_sem, ↓reduceIte,seval,F];rfl) (by simp(disch:=first|omega| (simp only[go_sem, ↓reduceIte,seval];first|done|omega)|fail) only[go_sem, ↓reduceIte,seval,F];omega)) .nil)
  ·rw[M1 (by simp[hc1])]at hp;have htp:Lib.trimPrefix (s1.dropWhile blankB) [62]=s1.dropWhile blankB:=(by unfold Lib.trimPrefix;rw[M1 (by simp[hc1])]);rw[htp];refine(c2 [47,62] _ _ _).mono ?_;rintro r h' ⟨rfl,rfl⟩;(try refine sq F ?_);(repeat (first|refine w1 (fun K hK=>?_)|refine w2 ?_|refine w3 ?_| ((first|refine w4 ?_|refine wD ?_|refine w5 ?_|refine w6 ?_|refine w7 ?_);try refine sq F ?_)| (refine w8 ?_;refine sq F ?_;refine w9 ?_)| (refine xq F ?_;try refine sq F ?_)| ((first|refine hK _ _ (w0 ?_)| (clear hK K;refine hK _ _ (w0 ?_))| (clear hK K;clear hK K;refine hK _ _ (w0 ?_)));clear hK K)))
   refine cq F (fun hc2=>?_) (fun hc2=>?_)<;>(try exact hc2.elim)<;>((repeat (first|refine w1 (fun K hK=>?_)|refine w2 ?_|refine w3 ?_| ((first|refine w4 ?_|refine wD ?_|refine w5 ?_|refine w6 ?_|refine w7 ?_);try refine sq F ?_)| (refine w8 ?_;refine sq F ?_;refine w9 ?_)| (refine xq F ?_;try refine sq F ?_)| ((first|refine hK _ _ (w0 ?_)| (clear hK K;refine hK _ _ (w0 ?_))| (clear hK K;clear hK K;refine hK _ _ (w0 ?_)));clear hK K))))
   ·rw[M7 hc2]at hp;refine ee hQ F ?_;rw[← hp];refine dh h j _ _ s _ false rfl ?_;exact FrzRs.hs (by simp(disch:=first|omega| (simp only[go_sem, ↓reduceIte,seval];first|done|omega)|fail) only[go_sem, ↓reduceIte,seval,F];rfl) rfl (by simp(disch:=first|omega| (simp only[go_sem, ↓reduceIte,seval];first|done|omega)|fail) only[go_sem, ↓reduceIte,seval,F];omega) (.cons (rk 1 _ at_ (by simp(disch:=first|omega| (simp only[go_sem, ↓reduceIte,seval];first|done|omega)|fail) only[go_sem, ↓reduceIte,seval,F];rfl) (by simp(disch:=first|omega| (simp only[go_sem, ↓reduceIte,seval];first|done|omega)|fail) only[go_sem, ↓reduceIte,seval,F];omega)) (.cons (xu 2 _) .nil))
   ·rw[M1 (by simp[hc2])]at hp;have htp2:Lib.trimPrefix (s1.dropWhile blankB) [47,62]=s1.dropWhile blankB:=(by unfold Lib.trimPrefix;rw[M1 (by simp[hc2])]);rw[htp2];refine(c3 _ _ _ (by omega)).mono ?_;rintro r h' ⟨rfl,rfl⟩;(try refine sq F ?_);(repeat (first|refine w1 (fun K hK=>?_)|refine w2 ?_|refine w3 ?_| ((first|refine w4 ?_|refine wD ?_|refine w5 ?_|refine w6 ?_|refine w7 ?_);try refine sq F ?_)| (refine w8 ?_;refine sq F ?_;refine w9 ?_)| (refine xq F ?_;try refine sq F ?_)| ((first|refine hK _ _ (w0 ?_)| (clear hK K;refine hK _ _ (w0 ?_))| (clear hK K;clear hK K;refine hK _ _ (w0 ?_)));clear hK K)))
    have hl:=sZ (s1.dropWhile blankB);have hl2:=fV (s1.dropWhile blankB) false;have hl3:=aM moreB (s1.dropWhile blankB)
    change (nameR (s1.dropWhile blankB)).length≤_ at hl3
    generalize attrX (s1.dropWhile blankB) false=x at hp hl hl2 ⊢;obtain⟨a,r,bb⟩:=x;simp only[]at hp hl hl2 ⊢
    skip
    (first|refine gq F (fun g1=>?_) (fun g1=>?_)|refine pq F (fun g1=>?_) (fun g1=>?_))<;>(try exact g1.elim)<;>(try refine sq F ?_)<;>((repeat (first|refine w1 (fun K hK=>?_)|refine w2 ?_|refine w3 ?_| ((first|refine w4 ?_|refine wD ?_|refine w5 ?_|refine w6 ?_|refine w7 ?_);try refine sq F ?_)| (refine w8 ?_;refine sq F ?_;refine w9 ?_)| (refine rq F ?_;try refine sq F ?_)| (refine vq F ?_;try refine sq F ?_)| ((first|refine hK _ _ (w0 ?_)| (clear hK K;refine hK _ _ (w0 ?_))| (clear hK K;clear hK K;refine hK _ _ (w0 ?_)));clear hK K))))
    ·refine aq F ?_;(try refine sq F ?_);(repeat (first|refine w1 (fun K hK=>?_)|refine w2 ?_|refine w3 ?_| ((first|refine w4 ?_|refine wD ?_|refine w5 ?_|refine w6 ?_|refine w7 ?_);try refine sq F ?_)| (refine w8 ?_;refine sq F ?_;refine w9 ?_)| (refine rq F ?_;try refine sq F ?_)| (refine vq F ?_;try refine sq F ?_)| ((first|refine hK _ _ (w0 ?_)| (clear hK K;refine hK _ _ (w0 ?_))| (clear hK K;clear hK K;refine hK _ _ (w0 ?_)));clear hK K)))
     rw[g1,U9,U9,U9]at hp;refine hK2 _ _ _ (N6 ⟨g,v+1,r,true,at_++[a],jj++[.row 254 2 0 [a.av]],rfl,by simp[tkR,atR],?_,?_,by omega,⟨by omega,fun h=>by cases h⟩,hp,fun h=>by cases h⟩) (by omega);all_goals try exact zZz F
    ·rw[g1,za3]at hp;(first|refine gq F (fun g2=>?_) (fun g2=>?_)|refine pq F (fun g2=>?_) (fun g2=>?_))<;>(try exact g2.elim)<;>(try refine sq F ?_)<;>((repeat (first|refine w1 (fun K hK=>?_)|refine w2 ?_|refine w3 ?_| ((first|refine w4 ?_|refine wD ?_|refine w5 ?_|refine w6 ?_|refine w7 ?_);try refine sq F ?_)| (refine w8 ?_;refine sq F ?_;refine w9 ?_)| (refine rq F ?_;try refine sq F ?_)| (refine vq F ?_;try refine sq F ?_)| ((first|refine hK _ _ (w0 ?_)| (clear hK K;refine hK _ _ (w0 ?_))| (clear hK K;clear hK K;refine hK _ _ (w0 ?_)));clear hK K))))
     ·refine aq F ?_;(try refine sq F ?_);(repeat (first|refine w1 (fun K hK=>?_)|refine w2 ?_|refine w3 ?_| ((first|refine w4 ?_|refine wD ?_|refine w5 ?_|refine w6 ?_|refine w7 ?_);try refine sq F ?_)| (refine w8 ?_;refine sq F ?_;refine w9 ?_)| (refine rq F ?_;try refine sq F ?_)| (refine vq F ?_;try refine sq F ?_)| ((first|refine hK _ _ (w0 ?_)| (clear hK K;refine hK _ _ (w0 ?_))| (clear hK K;clear hK K;refine hK _ _ (w0 ?_)));clear hK K)))
      have e:(s1.takeWhile blankB==[])=true:=(by rw[g2];rfl);rw[e,U9,U9]at hp;refine hK2 _ _ _ (N6 ⟨g,v+1,r,true,at_++[a],jj++[.row 254 2 0 [a.av]],rfl,by simp[tkR,atR],?_,?_,by omega,⟨by omega,fun h=>by cases h⟩,hp,fun h=>by cases h⟩) (by omega);all_goals try exact zZz F
     ·have e:(s1.takeWhile blankB==[])=false:=(by simpa using g2);rw[e,za3]at hp;refine(sY G at_ a.1 _ (h.length+(1+(j.length+1))) v (by simp(disch:=first|omega| (simp only[go_sem, ↓reduceIte,seval];first|done|omega)|fail) only[go_sem, ↓reduceIte,seval,F]) (by omega)).mono ?_;rintro r h' ⟨rfl,rfl⟩;(try refine sq F ?_);(repeat (first|refine w1 (fun K hK=>?_)|refine w2 ?_|refine w3 ?_| ((first|refine w4 ?_|refine wD ?_|refine w5 ?_|refine w6 ?_|refine w7 ?_);try refine sq F ?_)| (refine w8 ?_;refine sq F ?_;refine w9 ?_)| (refine rq F ?_;try refine sq F ?_)| (refine vq F ?_;try refine sq F ?_)| ((first|refine hK _ _ (w0 ?_)| (clear hK K;refine hK _ _ (w0 ?_))| (clear hK K;clear hK K;refine hK _ _ (w0 ?_)));clear hK K)))
      (first|refine gq F (fun g3=>?_) (fun g3=>?_)|refine pq F (fun g3=>?_) (fun g3=>?_))<;>(try exact g3.elim)<;>(try refine sq F ?_)<;>((repeat (first|refine w1 (fun K hK=>?_)|refine w2 ?_|refine w3 ?_| ((first|refine w4 ?_|refine wD ?_|refine w5 ?_|refine w6 ?_|refine w7 ?_);try refine sq F ?_)| (refine w8 ?_;refine sq F ?_;refine w9 ?_)| (refine rq F ?_;try refine sq F ?_)| (refine vq F ?_;try refine sq F ?_)| ((first|refine hK _ _ (w0 ?_)| (clear hK K;refine hK _ _ (w0 ?_))| (clear hK K;clear hK K;refine hK _ _ (w0 ?_)));clear hK K))))
      ·refine aq F ?_;(try refine sq F ?_);(repeat (first|refine w1 (fun K hK=>?_)|refine w2 ?_|refine w3 ?_| ((first|refine w4 ?_|refine wD ?_|refine w5 ?_|refine w6 ?_|refine w7 ?_);try refine sq F ?_)| (refine w8 ?_;refine sq F ?_;refine w9 ?_)| (refine rq F ?_;try refine sq F ?_)| (refine vq F ?_;try refine sq F ?_)| ((first|refine hK _ _ (w0 ?_)| (clear hK K;refine hK _ _ (w0 ?_))| (clear hK K;clear hK K;refine hK _ _ (w0 ?_)));clear hK K)))
       rw[g3,U9]at hp;refine hK2 _ _ _ (N6 ⟨g,v+1,r,true,at_++[a],jj++[.row 254 2 0 [a.av]],rfl,by simp[tkR,atR],?_,?_,by omega,⟨by omega,fun h=>by cases h⟩,hp,fun h=>by cases h⟩) (by omega);all_goals try exact zZz F
      ·refine aq F ?_;(try refine sq F ?_);(repeat (first|refine w1 (fun K hK=>?_)|refine w2 ?_|refine w3 ?_| ((first|refine w4 ?_|refine wD ?_|refine w5 ?_|refine w6 ?_|refine w7 ?_);try refine sq F ?_)| (refine w8 ?_;refine sq F ?_;refine w9 ?_)| (refine rq F ?_;try refine sq F ?_)| (refine vq F ?_;try refine sq F ?_)| ((first|refine hK _ _ (w0 ?_)| (clear hK K;refine hK _ _ (w0 ?_))| (clear hK K;clear hK K;refine hK _ _ (w0 ?_)));clear hK K)))
       rw[g3,za3]at hp;refine hK2 _ _ _ (N6 ⟨g,v+1,r,decide (32≤at_.length),at_++[a],jj++[.row 254 2 0 [a.av]],rfl,by simp[tkR,atR,show((32:Int)≤at_.length)↔32≤at_.length from by omega],?_,?_,by omega,⟨by omega,fun h=>by have:=hl g1;omega⟩,hp,fun h=>by simp only[decide_eq_false_iff_not]at h;simp;omega⟩) (by omega);all_goals try exact zZz F
 ·refine ee hQ F ?_;subst hc;obtain⟨g,rfl⟩:∃g,f=g+1:=⟨f-1,by omega⟩;rw[openL,M7 rfl]at hp;rw[← hp];exact dh h j _ _ s _ false rfl (.nils _)
def p1:Bs:=[60,33,45,45]
def p2:Bs:=[60,63]
def p3:Bs:=[60,33,68,79,67,84,89,80,69]
def p4:Bs:=[60,33,91,67,68,65,84,65,91]
def p5:Bs:=[60,47]
def p6:Bs:=[60]
def partF(s:Bs):List Tok×Bs×Bool:=
 if Lib.hasPrefix s p1=true then([],(uptoF [45,45,62] (Lib.trimPrefix s p1) false).2)
 else if Lib.hasPrefix s p2=true then([],(uptoF [63,62] (Lib.trimPrefix s p2) false).2)
 else if Lib.hasPrefix s p3=true then([],kindF (Lib.trimPrefix s p3) false)
 else if Lib.hasPrefix s p4=true then([(3,[],[],(uptoF [93,93,62] (Lib.trimPrefix s p4) false).1)],(uptoF [93,93,62] (Lib.trimPrefix s p4) false).2)
 else if Lib.hasPrefix s p5=true then([(2,nameW (Lib.trimPrefix s p5),[],[])],closeF (Lib.trimPrefix s p5) false)
 else if Lib.hasPrefix s p6=true then openF (Lib.trimPrefix s p6)
 else([(3,[],[],readP ((s.takeWhile textB).length+1) (s.takeWhile textB))],s.dropWhile textB,false)
theorem fj(s w:Bs)(h:Lib.hasPrefix s w=false):Lib.trimPrefix s w=s:=by unfold Lib.trimPrefix;rw[M1 (by simp[h])]
theorem xx(hG:GOk G)(s:Bs)(hs:s.length≤1048576)(h j:Heap):Sat (CT G) 179 [.hp h.length 0 0 0] (rdH h j s false)
  (fun r h'=>r=.sl 4 ((partF s).1.map Tok.av)∧h'=rdH h j (partF s).2.1 (partF s).2.2):=by
 have ht:=fun w=>aP s w
 have nils:=fun s1 b=>dh h j [] s1 s b false (x:=.nil (.slice none 0 0)) (y:=.sl 4 []) (N8 _).symm (.nils _)
 have toks:=fun s1 b (l:List Tok)=>dh h j [] s1 s b false (x:=.sl 4 (l.map Tok.av)) (y:=.sl 4 (l.map Tok.av)) (N8 _).symm (.clo _ (Toks.clo _ _ _))
 refine sb [.tmp 2] Tryz.func179 ?_;intro Q hQ;refine wk trivial ?_;refine kq trivial (bT G p1 s false h j) ?_;refine cq trivial (fun c1=>?_) (fun c1=>?_)<;>(try exact c1.elim)<;>(refine wk trivial ?_)
 ·refine kq trivial (dS G hG [45,45,62] (Lib.trimPrefix s p1) false (by have:=ht p1;omega) h j) ?_;have e:partF s=([],(uptoF [45,45,62] (Lib.trimPrefix s p1) false).2):=by unfold partF;rw[M7 c1]
  refine ee hQ trivial ?_;rw[e];exact nils _ _
 rw[fj _ _ c1];refine kq trivial (bT G p2 s false h j) ?_;refine cq trivial (fun c2=>?_) (fun c2=>?_)<;>(try exact c2.elim)<;>(refine wk trivial ?_)
 ·refine kq trivial (dS G hG [63,62] (Lib.trimPrefix s p2) false (by have:=ht p2;omega) h j) ?_;have e:partF s=([],(uptoF [63,62] (Lib.trimPrefix s p2) false).2):=by unfold partF;rw[M1 (by simp[c1]),M7 c2]
  refine ee hQ trivial ?_;rw[e];exact nils _ _
 rw[fj _ _ c2];refine kq trivial (bT G p3 s false h j) ?_;refine cq trivial (fun c3=>?_) (fun c3=>?_)<;>(try exact c3.elim)<;>(refine wk trivial ?_)
 ·refine kq trivial (xt G hG (Lib.trimPrefix s p3) false (by have:=ht p3;omega) h j) ?_;have e:partF s=([],kindF (Lib.trimPrefix s p3) false):=by unfold partF;rw[M1 (by simp[c1]),M1 (by simp[c2]),M7 c3]
  refine ee hQ trivial ?_;rw[e];exact toks _ _ []
 rw[fj _ _ c3];refine kq trivial (bT G p4 s false h j) ?_;refine cq trivial (fun c4=>?_) (fun c4=>?_)<;>(try exact c4.elim)<;>(refine wk trivial ?_)
 ·refine kq trivial (dS G hG [93,93,62] (Lib.trimPrefix s p4) false (by have:=ht p4;omega) h j) ?_;refine kq trivial (oT G _ _) ?_;have e:partF s=([(3,[],[],(uptoF [93,93,62] (Lib.trimPrefix s p4) false).1)],(uptoF [93,93,62] (Lib.trimPrefix s p4) false).2):=by unfold partF;rw[M1 (by simp[c1]),M1 (by simp[c2]),M1 (by simp[c3]),M7 c4]
  refine ee hQ trivial ?_;rw[e];exact toks _ _ [_]
 rw[fj _ _ c4];refine kq trivial (bT G p5 s false h j) ?_;refine cq trivial (fun c5=>?_) (fun c5=>?_)<;>(try exact c5.elim)<;>(refine wk trivial ?_)
 ·refine kq trivial (uS G (Lib.trimPrefix s p5) false (by have:=ht p5;omega) h j) ?_;have e:partF s=([(2,nameW (Lib.trimPrefix s p5),[],[])],closeF (Lib.trimPrefix s p5) false):=by unfold partF;rw[M1 (by simp[c1]),M1 (by simp[c2]),M1 (by simp[c3]),M1 (by simp[c4]),M7 c5]
  refine ee hQ trivial ?_;rw[e];exact toks _ _ [_]
 rw[fj _ _ c5];refine kq trivial (bT G p6 s false h j) ?_;refine cq trivial (fun c6=>?_) (fun c6=>?_)<;>(try exact c6.elim)<;>(refine wk trivial ?_)
 ·refine kq trivial (xw G hG (Lib.trimPrefix s p6) (by have:=ht p6;omega) h j) ?_;have e:partF s=openF (Lib.trimPrefix s p6):=by unfold partF;rw[M1 (by simp[c1]),M1 (by simp[c2]),M1 (by simp[c3]),M1 (by simp[c4]),M1 (by simp[c5]),M7 c6]
  refine ee hQ trivial ?_;rw[e];exact toks _ _ _
 rw[fj _ _ c6];have hw:(s.takeWhile textB).length≤s.length:=(List.takeWhile_sublist _).length_le;refine kq trivial (mc G textP textB true zz 217 s false (by omega) h j (fun c k _=>uT G c k)) ?_;refine kq trivial (fy hG (s.takeWhile textB) (by omega) _) ?_;refine kq trivial (oT G _ _) ?_;have e:partF s=([(3,[],[],readP ((s.takeWhile textB).length+1) (s.takeWhile textB))],s.dropWhile textB,false):=by unfold partF;rw[M1 (by simp[c1]),M1 (by simp[c2]),M1 (by simp[c3]),M1 (by simp[c4]),M1 (by simp[c5]),M1 (by simp[c6])]
 refine ee hQ trivial ?_;rw[e];exact toks _ _ [_]
def addT(l:List Tok)(t:Tok):List Tok:=
 if t.1=3 then
  if t.2.2.2=[]then l else
  match l.getLast? with
  |some u=>if u.1=3 then l.dropLast++[(u.1,u.2.1,u.2.2.1,u.2.2.2++t.2.2.2)]else l++[t]
  |none=>l++[t]
 else l++[t]
theorem nh(l:List Tok)(u t:Tok)(ht:t.1=3)(hn:t.2.2.2≠ []):addT (l++[u]) t=if u.1=3 then l++[(u.1,u.2.1,u.2.2.1,u.2.2.2++t.2.2.2)]else l++[u]++[t]:=by
 unfold addT;rw[M7 ht,M1 hn];simp
theorem oU(t:Tok)(hn:t.1=3→t.2.2.2≠ []):addT [] t=[t]:=by
 unfold addT;split
 ·rename_i h;rw[M1 (hn h)];rfl
 ·rfl
def tksR(v:Nat)(l:List Tok):Blk:=.row 221 4 v (l.map Tok.av)
theorem xy(n v:Nat)(l:List Tok):CloB n (tksR v l):=by
 intro r hr;obtain⟨a,_,rfl⟩:=N5.1 hr;exact Tok.clo _ _
theorem zA(P j jj:Heap)(v v0:Nat)(l l0:List Tok){h2:Heap}{x:AVal}{R:AVal→Heap→Prop}(hh:h2=P++tksR v l::j++jj)(hx:Clo (P++tksR v0 l0::j).length x)(hR:R x (P++tksR v l::j)):
  Fin (P++tksR v0 l0::j) h2 R x:=by
 refine Fin.keepE (h1:=P++tksR v l::j) hh (by simp) (fun p k hk=>?_) hx hR;rcases U7 p P.length with h1|h1
 ·rw[M5 h1]at hk ⊢;exact .inl hk
 ·rw[M9 h1]at hk ⊢
  match p-P.length,hk with
  |0,hk=>simp at hk;subst hk;exact .inr (xy _ _ _)
  |i+1,hk=>exact .inl (by simpa using hk)
@[go_sem] theorem DH(v:Nat)(l:List Tok)(j:Heap):getRow (tksR v l::j) 0 v=some (221,4,l.map Tok.av):=by simp[getRow,tksR]
@[go_sem] theorem Cp(v:Nat)(l:List Tok)(j:Heap)(k u:Nat):getRow (tksR v l::j) (k+1) u=getRow j k u:=rfl
theorem zB(P j:Heap)(v:Nat)(l:List Tok)(t:Tok)(hl:l.length≤1048576)(ht:∀u∈l,u.2.2.2.length+t.2.2.2.length≤140737488355328):
  Sat (CT G) 180 [.hs P.length v 0 l.length true,t.av] (P++tksR v l::j) (fun r h'=>∃v',r=.hs P.length v' 0 (addT l t).length true∧h'=P++tksR v' (addT l t)::j):=by
 have end_:=fun(jj:Heap) (v1:Nat) (l1:List Tok) (h2:Heap) (hh:h2=P++tksR v1 l1::j++jj) (hl1:l1=addT l t)=>zA P j jj v1 v l1 l (x:=.hs P.length v1 0 l1.length true)
  (R:=fun r h'=>∃v',r=.hs P.length v' 0 (addT l t).length true∧h'=P++tksR v' (addT l t)::j) hh (.hs _ _ _ _ _ (by simp)) ⟨v1,by rw[hl1],by rw[hl1]⟩
 refine sb [.tmp 4] Tryz.func180 ?_;intro Q hQ;(repeat (first|refine w1 (fun K hK=>?_)|refine w2 ?_|refine w3 ?_| ((first|refine w4 ?_|refine wD ?_|refine w5 ?_|refine w6 ?_|refine w7 ?_);try refine sq trivial ?_)| (refine w8 ?_;refine sq trivial ?_;refine w9 ?_)| (refine rq trivial ?_;try refine sq trivial ?_)| (refine vq trivial ?_;try refine sq trivial ?_)| ((first|refine hK _ _ (w0 ?_)| (clear hK K;refine hK _ _ (w0 ?_))| (clear hK K;clear hK K;refine hK _ _ (w0 ?_)));clear hK K)))
 have tail:∀(t':Env),t' 0=.hs P.length v 0 l.length true→t' 3=.hp (P.length+(j.length+1)) 0 0 0→addT l t=l++[t]→K t' (P++tksR v l::(j++[.row 221 4 0 [t.av]])):=by
  intro t' e0 e3 he;refine hK _ _ (N6 ?_);clear hK K;have F:=F2 e0 e3;(repeat (first|refine w1 (fun K hK=>?_)|refine w2 ?_|refine w3 ?_| ((first|refine w4 ?_|refine wD ?_|refine w5 ?_|refine w6 ?_|refine w7 ?_);try refine sq F ?_)| (refine w8 ?_;refine sq F ?_;refine w9 ?_)| (refine rq F ?_;try refine sq F ?_)| (refine vq F ?_;try refine sq F ?_)| ((first|refine hK _ _ (w0 ?_)| (clear hK K;refine hK _ _ (w0 ?_))| (clear hK K;clear hK K;refine hK _ _ (w0 ?_)));clear hK K)))
  refine aq F ?_;try refine sq F ?_
  (repeat (first|refine w1 (fun K hK=>?_)|refine w2 ?_|refine w3 ?_| ((first|refine w4 ?_|refine wD ?_|refine w5 ?_|refine w6 ?_|refine w7 ?_);try refine sq F ?_)| (refine w8 ?_;refine sq F ?_;refine w9 ?_)| (refine rq F ?_;try refine sq F ?_)| (refine vq F ?_;try refine sq F ?_)| ((first|refine hK _ _ (w0 ?_)| (clear hK K;refine hK _ _ (w0 ?_))| (clear hK K;clear hK K;refine hK _ _ (w0 ?_)));clear hK K)))
  refine ee hQ F ?_;have:=end_ [.row 221 4 0 [t.av]] (v+1) (l++[t]) (P++ .row 221 4 (v+1) (l.map Tok.av++[t.av])::(j++[.row 221 4 0 [t.av]])) (by simp[tksR]) he.symm;rw[M3]at this;exact this
 refine cq trivial (fun c1=>?_) (fun c1=>?_)<;>(try exact c1.elim)<;>((repeat (first|refine w1 (fun K hK=>?_)|refine w2 ?_|refine w3 ?_| ((first|refine w4 ?_|refine wD ?_|refine w5 ?_|refine w6 ?_|refine w7 ?_);try refine sq trivial ?_)| (refine w8 ?_;refine sq trivial ?_;refine w9 ?_)| (refine rq trivial ?_;try refine sq trivial ?_)| (refine vq trivial ?_;try refine sq trivial ?_)| ((first|refine hK _ _ (w0 ?_)| (clear hK K;refine hK _ _ (w0 ?_))| (clear hK K;clear hK K;refine hK _ _ (w0 ?_)));clear hK K))))
 ·refine tail _ ?_ ?_ (by unfold addT;rw[M1 c1])
  ·exact zq trivial
  ·exact zq trivial
 ·refine cq trivial (fun c2=>?_) (fun c2=>?_)<;>(try exact c2.elim)<;>((repeat (first|refine w1 (fun K hK=>?_)|refine w2 ?_|refine w3 ?_| ((first|refine w4 ?_|refine wD ?_|refine w5 ?_|refine w6 ?_|refine w7 ?_);try refine sq trivial ?_)| (refine w8 ?_;refine sq trivial ?_;refine w9 ?_)| (refine rq trivial ?_;try refine sq trivial ?_)| (refine vq trivial ?_;try refine sq trivial ?_)| ((first|refine hK _ _ (w0 ?_)| (clear hK K;refine hK _ _ (w0 ?_))| (clear hK K;clear hK K;refine hK _ _ (w0 ?_)));clear hK K))))
  ·refine ee hQ trivial ?_;exact end_ _ v l _ (by simp;rfl) (by unfold addT;rw[M7 c1,M7 c2])
  ·have c2':t.2.2.2≠ []:=c2;rcases X5 l with rfl| ⟨l,u,rfl⟩
   ·(first|refine gq trivial (fun g=>?_) (fun g=>?_)|refine pq trivial (fun g=>?_) (fun g=>?_))<;>(try exact g.elim)<;>(try refine sq trivial ?_)<;>((repeat (first|refine w1 (fun K hK=>?_)|refine w2 ?_|refine w3 ?_| ((first|refine w4 ?_|refine wD ?_|refine w5 ?_|refine w6 ?_|refine w7 ?_);try refine sq trivial ?_)| (refine w8 ?_;refine sq trivial ?_;refine w9 ?_)| (refine rq trivial ?_;try refine sq trivial ?_)| (refine vq trivial ?_;try refine sq trivial ?_)| ((first|refine hK _ _ (w0 ?_)| (clear hK K;refine hK _ _ (w0 ?_))| (clear hK K;clear hK K;refine hK _ _ (w0 ?_)));clear hK K))))
    ·refine tail _ ?_ ?_ (oU t fun _=>c2')
     ·exact zq trivial
     ·exact zq trivial
   ·rw[X7]at*;have hl2:l.length+1≤1048576:=(by simpa using hl);have e1:((l.length+1:Nat):Int)-1=l.length:=(by omega);have e2:(l++[u])[l.length]? =some u:=(by simp);have F:=F2 e1 e2;(first|refine gq F (fun g=>?_) (fun g=>?_)|refine pq F (fun g=>?_) (fun g=>?_))<;>(try exact g.elim)<;>(try refine sq F ?_)<;>((repeat (first|refine w1 (fun K hK=>?_)|refine w2 ?_|refine w3 ?_| ((first|refine w4 ?_|refine wD ?_|refine w5 ?_|refine w6 ?_|refine w7 ?_);try refine sq F ?_)| (refine w8 ?_;refine sq F ?_;refine w9 ?_)| (refine rq F ?_;try refine sq F ?_)| (refine vq F ?_;try refine sq F ?_)| ((first|refine hK _ _ (w0 ?_)| (clear hK K;refine hK _ _ (w0 ?_))| (clear hK K;clear hK K;refine hK _ _ (w0 ?_)));clear hK K))))
    ·have:=ht u (by simp);have hsn:=nh l u t c1 c2';have e3:l.length<l.length+1:=(by omega);refine⟨e3,?_⟩;by_cases c3:u.1=3
     ·refine hK _ _ (N6 ?_);clear tail hK K;have e4:(u.1==3)=true:=(by simpa using c3);rw[M7 c3]at hsn;have F:=F3 F e3 e4;(repeat (first|refine w1 (fun K hK=>?_)|refine w2 ?_|refine w3 ?_| ((first|refine w4 ?_|refine wD ?_|refine w5 ?_|refine w6 ?_|refine w7 ?_);try refine sq F ?_)| (refine w8 ?_;refine sq F ?_;refine w9 ?_)| (refine rq F ?_;try refine sq F ?_)| (refine vq F ?_;try refine sq F ?_)| ((first|refine hK _ _ (w0 ?_)| (clear hK K;refine hK _ _ (w0 ?_))| (clear hK K;clear hK K;refine hK _ _ (w0 ?_)));clear hK K)))
      refine ee hQ F ?_;have:=end_ [.row 221 4 0 [t.av]] v _ _ rfl hsn.symm;simp[tksR,Tok.av,ofCells]at this ⊢;exact this
     ·have e4:(u.1==3)=false:=(by simpa using c3);rw[M1 c3]at hsn;have F:=F2 F e4;refine hK _ _ (N6 ?_);clear hK;(repeat (first|refine w1 (fun K hK=>?_)|refine w2 ?_|refine w3 ?_| ((first|refine w4 ?_|refine wD ?_|refine w5 ?_|refine w6 ?_|refine w7 ?_);try refine sq F ?_)| (refine w8 ?_;refine sq F ?_;refine w9 ?_)| (refine rq F ?_;try refine sq F ?_)| (refine vq F ?_;try refine sq F ?_)| ((first|refine hK _ _ (w0 ?_)| (clear hK K;refine hK _ _ (w0 ?_))| (clear hK K;clear hK K;refine hK _ _ (w0 ?_)));clear hK K)))
      refine aq F ?_;(try refine sq F ?_);(repeat (first|refine w1 (fun K hK=>?_)|refine w2 ?_|refine w3 ?_| ((first|refine w4 ?_|refine wD ?_|refine w5 ?_|refine w6 ?_|refine w7 ?_);try refine sq F ?_)| (refine w8 ?_;refine sq F ?_;refine w9 ?_)| (refine rq F ?_;try refine sq F ?_)| (refine vq F ?_;try refine sq F ?_)| ((first|refine hK _ _ (w0 ?_)| (clear hK K;refine hK _ _ (w0 ?_))| (clear hK K;clear hK K;refine hK _ _ (w0 ?_)));clear hK K)))
      refine ee hQ F ?_;have:=end_ [.row 221 4 0 [t.av]] (v+1) _ _ rfl hsn.symm;simp[tksR]at this ⊢;exact this
    ·exfalso;simp at g
end Go.Av
namespace Go.Av
open Go Go.Proofs Go.RowKit
theorem co{α:Type}(f:α→Nat)(a b:List α):szs f (a++b)=szs f a+szs f b:=by
 induction a with
 |nil=>simp[szs]
 |cons x l ih=>simp only[Q2,szs,ih];omega
theorem ni(w s:Bs)(b:Bool):(uptoF w s b).1.length+(uptoF w s b).2.1.length≤s.length:=by
 unfold uptoF;split
 ·rename_i h;have:=c9 s w h;simp only[];omega
 ·simp
theorem fA(s:Bs):(nameW s).length+(nameR s).length=s.length:=by
 have:=O6 List.length (W4 (p:=moreB) (l:=s));rw[M3]at this;exact this
theorem nj:∀(f:Nat) (s:Bs),(readP f s).length≤5*s.length:=by
 intro f;induction f with
 |zero=>intro s;simp[readP]
 |succ f ih=>
  intro s;rw[readP];split
  ·rename_i h;have h1:=c9 s [38] h;simp only[M6,N4]at h1;split
   ·rename_i h2;simp only[M2]at h2;have h3:=c9 _ [59] h2.1.1;simp only[M6,N4]at h3;have h4:=dM (signF (Lib.cut (Lib.cut s [38]).2.1 [59]).1).1;have h5:=ih (Lib.cut (Lib.cut s [38]).2.1 [59]).2.1;simp only[M3];omega
   ·have h5:=ih (Lib.cut s [38]).2.1;simp only[M3,M6];omega
  ·rename_i h;rw[l6 s [38] (by simpa using h)];simp only[];omega
theorem xz(s:Bs)(b:Bool):(valueF s b).1.length+5*(valueF s b).2.1.length≤5*s.length:=by
 have h1:=aP s (if Lib.hasPrefix s [34]=true then [34]else [39]);have h2:=ni (if Lib.hasPrefix s [34]=true then [34]else [39]) (Lib.trimPrefix s (if Lib.hasPrefix s [34]=true then [34]else [39])) (b|| !Lib.hasPrefix s (if Lib.hasPrefix s [34]=true then [34]else [39]));show(readP _ _).length+5*(uptoF _ _ _).2.1.length≤_;have h3:=nj ((uptoF (if Lib.hasPrefix s [34]=true then [34]else [39]) (Lib.trimPrefix s (if Lib.hasPrefix s [34]=true then [34]else [39])) (b|| !Lib.hasPrefix s (if Lib.hasPrefix s [34]=true then [34]else [39]))).1.length+1)
  (uptoF (if Lib.hasPrefix s [34]=true then [34]else [39]) (Lib.trimPrefix s (if Lib.hasPrefix s [34]=true then [34]else [39])) (b|| !Lib.hasPrefix s (if Lib.hasPrefix s [34]=true then [34]else [39]))).1
 omega
theorem xA(s:Bs)(h:(attrX s false).2.2=false):At.sz (attrX s false).1+10*(attrX s false).2.1.length≤10*s.length:=by
 have h0:=gz s (l7 s h);have h1:=fA s;have h2:=aM blankB (nameR s);have h3:=aP ((nameR s).dropWhile blankB) [61];have h4:=aM blankB (Lib.trimPrefix ((nameR s).dropWhile blankB) [61]);unfold attrX at h ⊢;simp only[]at h ⊢;split at h
 ·rename_i hb;simp only[]at h;rw[h]at hb;cases hb
 ·rename_i hb;rw[M1 hb];have:=xz ((Lib.trimPrefix ((nameR s).dropWhile blankB) [61]).dropWhile blankB) (false||badN (nameW s)|| !Lib.hasPrefix ((nameR s).dropWhile blankB) [61]);simp only[At.sz];omega
theorem cS(s w:Bs)(h:Lib.hasPrefix s w=true):(Lib.trimPrefix s w).length+w.length≤s.length:=by
 have h1:w.length≤s.length:=(List.isPrefixOf_iff_prefix.1 h).length_le;unfold Lib.trimPrefix;rw[M7 h,Q5];omega
theorem xB:∀(f:Nat) (n:Bs) (at_:List At) (s:Bs) (b:Bool),szs Tok.sz (openL f n at_ s b).1+10*(openL f n at_ s b).2.1.length≤2+2*n.length+szs At.sz at_+10*s.length:=by
 intro f;induction f with
 |zero=>intro n at_ s b;simp only[openL,szs];omega
 |succ f ih=>
  intro n at_ s b;have h1:=aM blankB s;rw[openL];split
  ·simp only[szs];omega
  ·split
   ·have:=aP (s.dropWhile blankB) [62];simp only[szs,Tok.sz,N4];omega
   ·split
    ·have:=aP (s.dropWhile blankB) [47,62];simp only[szs,Tok.sz,N4];omega
    ·have h2:=xA (s.dropWhile blankB);cases hb:(attrX (s.dropWhile blankB) false).2.2 with
     |true=>
      rw[U9,U9,U9];have h3:=fV (s.dropWhile blankB) false;have h4:=aM moreB (s.dropWhile blankB)
      change (nameR (s.dropWhile blankB)).length≤_ at h4
      have e:∀at_ s,openL f n at_ s true=([],s,true):=fun at_ s=>by cases f<;>simp[openL]
      rw[e];simp only[szs];omega
     |false=>
      have h3:=ih n (at_++[(attrX (s.dropWhile blankB) false).1]) (attrX (s.dropWhile blankB) false).2.1 (((false||s.takeWhile blankB==[])||at_.any fun a=>a.1==(attrX (s.dropWhile blankB) false).1.1)||decide (32≤at_.length));have h4:=h2 hb;rw[co]at h3;simp only[szs]at h3;omega
theorem t7(f:Nat)(n:Bs)(s:Bs):openL f n [] s true=([],s,true):=by cases f<;>simp[openL]
theorem xC(s:Bs):szs Tok.sz (openF s).1+10*(openF s).2.1.length≤2+10*s.length:=by
 unfold openF;have h1:=fA s;cases hb:badN (nameW s)with
 |true=>rw[t7];simp only[szs];omega
 |false=>
  have:=xB (s.length+3) (nameW s) [] (nameR s) false;simp only[szs]at this;omega
theorem l8(s:Bs)(h:Lib.hasPrefix s [60]=false)(hs:s≠ []):1≤(s.takeWhile textB).length:=by
 cases s with
 |nil=>exact absurd rfl hs
 |cons c t=>
  have:textB c=true:=by
   unfold textB textP;simp only[P8,decide_eq_false_iff_not];intro e;have:c=60:=UInt8.toNat_inj.1 (by have:=Int.ofNat.inj e;simpa using this);subst this;simp[Lib.hasPrefix]at h
  simp[List.takeWhile,this]
theorem oV(s:Bs)(hs:s≠ []):szs Tok.sz (partF s).1+10*(partF s).2.1.length≤10*s.length:=by
 unfold partF;split
 ·have:=aP s p1;have:=bN [45,45,62] (Lib.trimPrefix s p1) false
  simp only[szs];omega
 split
 ·have:=aP s p2;have:=bN [63,62] (Lib.trimPrefix s p2) false
  simp only[szs];omega
 split
 ·have:=aP s p3;have:=bN [62] (Lib.trimPrefix s p3) false
  simp only[szs,kindF];omega
 split
 ·rename_i h;have:=cS s p4 h;have:=ni [93,93,62] (Lib.trimPrefix s p4) false;simp only[szs,Tok.sz,p4,M6,N4]at *;omega
 split
 ·rename_i h;have:=cS s p5 h;have:=fA (Lib.trimPrefix s p5);have:=aM blankB (nameR (Lib.trimPrefix s p5));have:=aP ((nameR (Lib.trimPrefix s p5)).dropWhile blankB) [62];simp only[szs,Tok.sz,closeF,p5,M6,N4]at *;omega
 split
 ·rename_i h;have:=cS s p6 h;have:=xC (Lib.trimPrefix s p6);simp only[p6,M6,N4]at *;omega
 ·rename_i h;have h1:=l8 s (by simpa [p6]using h) hs;have h2:=nj ((s.takeWhile textB).length+1) (s.takeWhile textB);have h3:=O6 List.length (W4 (p:=textB) (l:=s));rw[M3]at h3;simp only[szs,Tok.sz,N4];omega
theorem rn(l:List Tok)(t:Tok):szs Tok.sz (addT l t)≤szs Tok.sz l+Tok.sz t:=by
 by_cases h3:t.1=3
 ·by_cases ht:t.2.2.2=[]
  ·unfold addT;rw[M7 h3,M7 ht];omega
  ·rcases X5 l with rfl| ⟨l,u,rfl⟩
   ·rw[oU t fun _=>ht];simp[szs]
   ·rw[X7,nh l u t h3 ht];split
    ·simp only[co,szs,Tok.sz,M3];omega
    ·simp only[co,szs];omega
 ·unfold addT;rw[M1 h3,co];simp[szs]
theorem t8:∀(f:Nat) (n:Bs) (at_:List At) (s:Bs) (b:Bool),(openL f n at_ s b).2.1.length≤s.length:=by
 intro f;induction f with
 |zero=>intro n at_ s b;simp[openL]
 |succ f ih=>
  intro n at_ s b;have h1:=aM blankB s;rw[openL];split
  ·simp
  ·split
   ·have:=aP (s.dropWhile blankB) [62];simp only[];omega
   ·split
    ·have:=aP (s.dropWhile blankB) [47,62];simp only[];omega
    ·refine S4 (ih _ _ _ _) ?_;have h3:=fV (s.dropWhile blankB) false;have h4:=aM moreB (s.dropWhile blankB)
     change (nameR (s.dropWhile blankB)).length≤_ at h4
     omega
theorem ta(s:Bs)(hs:s≠ []):(partF s).2.1.length<s.length:=by
 unfold partF;split
 ·rename_i h;have:=cS s p1 h;have:=bN [45,45,62] (Lib.trimPrefix s p1) false;simp only[p1,M6,N4]at *;omega
 split
 ·rename_i h;have:=cS s p2 h;have:=bN [63,62] (Lib.trimPrefix s p2) false;simp only[p2,M6,N4]at *;omega
 split
 ·rename_i h;have:=cS s p3 h;have:=bN [62] (Lib.trimPrefix s p3) false;simp only[p3,kindF,M6,N4]at *;omega
 split
 ·rename_i h;have:=cS s p4 h;have:=bN [93,93,62] (Lib.trimPrefix s p4) false;simp only[p4,M6,N4]at *;omega
 split
 ·rename_i h;have:=cS s p5 h;have:=fA (Lib.trimPrefix s p5);have:=aM blankB (nameR (Lib.trimPrefix s p5));have:=aP ((nameR (Lib.trimPrefix s p5)).dropWhile blankB) [62];simp only[closeF,p5,M6,N4]at *;omega
 split
 ·rename_i h;have:=cS s p6 h;have:=t8 ((Lib.trimPrefix s p6).length+3) (nameW (Lib.trimPrefix s p6)) [] (nameR (Lib.trimPrefix s p6)) (badN (nameW (Lib.trimPrefix s p6)));have hns:=fA (Lib.trimPrefix s p6);unfold openF;simp only[p6,M6,N4]at*;omega
 ·rename_i h;have h1:=l8 s (by simpa [p6]using h) hs;have h3:=O6 List.length (W4 (p:=textB) (l:=s));rw[M3]at h3;simp only[];omega
def tksF:Nat→Bs→List Tok→List Tok×Int
 |0,_,_=>([],80)
 |f+1,s,l=>if s=[]then(l,0)else
  if (partF s).2.2=true then([],80)else
  if 8192<((partF s).1.foldl addT l).length then([],3)else tksF f (partF s).2.1 ((partF s).1.foldl addT l)
theorem zC:∀(l:List Tok) (a:List Tok),szs Tok.sz (l.foldl addT a)≤szs Tok.sz a+szs Tok.sz l:=by
 intro l;induction l with
 |nil=>intro a;simp[szs]
 |cons t l ih=>intro a;have:=ih (addT a t);have:=rn a t;simp only[List.foldl_cons,szs];omega
theorem zD:∀(f:Nat) (s:Bs) (l:List Tok),szs Tok.sz (tksF f s l).1≤szs Tok.sz l+10*s.length:=by
 intro f;induction f with
 |zero=>intro s l;simp[tksF,szs]
 |succ f ih=>
  intro s l;rw[tksF];split
  ·simp only[];omega
  ·rename_i hs;split
   ·simp[szs]
   ·split
    ·simp[szs]
    ·have h1:=ih (partF s).2.1 ((partF s).1.foldl addT l);have h2:=oV s hs;have h3:=zC (partF s).1 l;omega
def toksF(s:Bs):List Tok×Int:=if 65536<s.length then([],3)else tksF (s.length+1) s []
end Go.Av
namespace Go.Av
open Go Go.Proofs Go.RowKit
attribute [local irreducible] WP WPl WPix Sat
variable (G:Nat→Option (List AVal))
@[go_sem] theorem DI(h j:Heap)(s:Bs)(b:Bool)(v:Nat)(l:List Tok):getRow (rdH h (tksR v l::j) s b) (h.length+1) v=some (221,4,l.map Tok.av):=by
 simp[rdH,getRow,tksR]
@[go_sem] theorem Cq(h j l:Heap)(x:Blk)(s:Bs)(b:Bool)(v:Nat):getRow (rdH h (x::j) s b++l) (h.length+(1+(j.length+1))) v=getRow l 0 v:=qr h (x::j) l s b v
@[go_sem] theorem HK(h j l:Heap)(x y:Blk)(s:Bs)(b:Bool):(rdH h (x::j) s b++l).set (h.length+(1+(j.length+1))) y=rdH h (x::j) s b++l.set 0 y:=oS h (x::j) l s b y
theorem xD(h j jj:Heap)(s:Bs)(b:Bool)(v:Nat)(l:List Tok)(t:Tok)(hl:l.length≤1048576)(ht:∀u∈l,u.2.2.2.length+t.2.2.2.length≤140737488355328):
  Sat (CT G) 180 [.hs (h.length+1) v 0 l.length true,t.av] (rdH h (tksR v l::j) s b++jj)
   (fun r h'=>∃v',r=.hs (h.length+1) v' 0 (addT l t).length true∧h'=rdH h (tksR v' (addT l t)::(j++jj)) s b):=by
 have:=zB G (h++[rdrR s b]) (j++jj) v l t hl ht;have e:rdH h (tksR v l::j) s b++jj=(h++[rdrR s b])++tksR v l::(j++jj):=by simp[rdH]
 rw[e];have e2:(h++[rdrR s b]).length=h.length+1:=by simp
 rw[e2]at this;exact this.mono fun r h' ⟨v',h1,h2⟩=>⟨v',h1,by rw[h2];simp[rdH]⟩
theorem rt{l:List Tok}{u:Tok}(h:u∈l):u.2.2.2.length≤szs Tok.sz l:=by
 have h1:=bL Tok.sz h;have h2:Tok.sz u=1+u.2.1.length+szs At.sz u.2.2.1+u.2.2.2.length:=rfl;omega
theorem Fin.frzS{h0:Heap}{R:AVal→Heap→Prop}{r0 r:AVal}(hz:Frz h0 h0.length r0 r)(hR:R r h0):Fin h0 h0 R r0:=by
 have:=Fin.frz (h0:=h0) (j:=[]) (R:=R) (r0:=r0) (r:=r) (by simpa using hz) hR;simpa using this
theorem Frz.toksD{h:Heap}{n q v e:Nat}{l:List Tok}{len:Nat}{room:Bool}(hq:n≤q)(hg:getRow h q v=some (e,4,l.map Tok.av))(hlen:len=l.length):Frz h n (.hs q v 0 len room) (.sl 4 (l.map Tok.av)):=
 Frz.data hq hg (by simpa using hlen) (fun r hr=>by obtain⟨a,_,rfl⟩:=N5.1 hr;exact Tok.clo _ a) (fun r hr=>by obtain⟨a,_,rfl⟩:=N5.1 hr;exact a.av_sto)
theorem qs(hG:GOk G)(s:Bs)(hs:s.length≤4194304)(h:Heap):Sat (CT G) 139 [.str s] h
  (fun r h'=>∃a,r=.tup [.sl 4 ((toksF s).1.map Tok.av),.int .i64 a,.int .i64 (toksF s).2]∧h'=h):=by
 refine sb [.tmp 2,.tmp 3,.tmp 4] Tryz.func139 ?_;intro Q hQ;refine wk trivial ?_;refine cq trivial (fun c0=>?_) (fun c0=>?_)<;>(try exact c0.elim)<;>(refine wk trivial ?_)
 ·have e:toksF s=([],3):=by unfold toksF;rw[M7 (by omega)]
  refine ye hQ trivial ?_;rw[e];exact Fin.frzS (FrzL.tup (.cons (.nils 4) (.cons (.clo _ (.int _ _)) (.cons (.clo _ (.int _ _)) .nil)))) ⟨0,rfl,rfl⟩
 have e:toksF s=tksF (s.length+1) s []:=by unfold toksF;rw[M1 (by omega)]
 have bad:∀(jj:Heap) (a:Int) (c:Int),toksF s=([],c)→Fin h (h++jj) (fun r h'=>∃a,r=.tup [.sl 4 ((toksF s).1.map Tok.av),.int .i64 a,.int .i64 (toksF s).2]∧h'=h) (.tup [.nil (.slice none 0 0),.int .i64 a,.int .i64 c]):=fun jj a c hb=>by
  rw[hb];exact Fin.frz (FrzL.tup (.cons (.nils 4) (.cons (.clo _ (.int _ _)) (.cons (.clo _ (.int _ _)) .nil)))) ⟨a,rfl,rfl⟩
 refine lm (fun nL tL hL=>∃(f v:Nat) (s1:Bs) (l:List Tok) (jj:Heap),f=nL∧rdH h (tksR v l::jj) s1 false=hL∧tL 5=.hs (h.length+1) v 0 l.length true∧tL 6=.hp h.length 0 0 0∧s1.length<f∧tksF f s1 l=toksF s∧szs Tok.sz l+10*s1.length≤10*s.length∧l.length≤8192) ((fun(f v:Nat) (s1:Bs) (l:List Tok) (jj:Heap)=>(f:Nat)) (s.length+1) (0) (s) ([]) ([])) ?_ ?_
 ·refine⟨_,_,Weak.virt 5 221 4 (by simp) (by omega) (by exact zq trivial),⟨s.length+1,0,s,[],[],rfl,by simp[rdH,rdrR,tksR],?_,?_,by omega,e.symm,by simp[szs],by simp⟩⟩;all_goals try exact zZz trivial
 rintro _ s2 h' ⟨f,v,s1,l,jj,rfl,rfl,e5,e6,hf,hp,hz,hl⟩ K2 hK2;simp only[aj,am,Nat.reduceEqDiff, ↓reduceIte]at e5 e6;have F:=F2 e5 e6;refine wk F ?_;obtain⟨g,rfl⟩:∃g,f=g+1:=⟨f-1,by omega⟩;rw[tksF]at hp;refine cq F (fun c1=>?_) (fun c1=>?_)<;>(try exact c1.elim)<;>(refine wk F ?_)
 ·have hps:=oV s1 c1;have hpl:=ta s1 c1;have hz0:=bY Tok.sz Tok.sz_pos (partF s1).1;rw[M1 c1]at hp;refine kq F (xx G hG s1 (by omega) h (tksR v l::jj)) ?_;generalize partF s1=x at hp hps hpl hz0 ⊢;obtain⟨tk,r1,bb⟩:=x;simp only[]at hp hps hpl hz0 ⊢;refine lm (fun nL tL hL=>∃(k v2:Nat) (l2:List Tok) (j2:Heap),tk.length-k=nL∧rdH h (tksR v2 l2::j2) r1 bb=hL∧tL 5=.hs (h.length+1) v2 0 l2.length true∧tL 32=.int .i64 k∧k≤tk.length∧(tk.drop k).foldl addT l2=tk.foldl addT l∧szs Tok.sz l2+szs Tok.sz (tk.drop k)≤szs Tok.sz l+szs Tok.sz tk) ((fun(k v2:Nat) (l2:List Tok) (j2:Heap)=>(tk.length-k:Nat)) (0) (v) (l) (jj)) ?_ ?_
  ·refine N6 ⟨0,v,l,jj,rfl,aw,?_,?_,?_,?_,?_⟩;all_goals try exact zZz F
  rintro _ s3 h' ⟨k,v2,l2,j2,rfl,rfl,e5,e32,hk,hq,hz2⟩ K3 hK3;simp only[aj,am,Nat.reduceEqDiff, ↓reduceIte]at e5 e32;have F:=F3 F e5 e32;refine wk F ?_;refine cq F (fun c2=>?_) (fun c2=>?_)<;>(try exact c2.elim)<;>(refine wk F ?_)
  ·obtain⟨y,hy,hym⟩:=ak c2;rw[aI hy]at hq hz2;simp only[szs,List.foldl_cons]at hq hz2;have hz3:=bY Tok.sz Tok.sz_pos l2;have hz4:=rn l2 y;have F:=F2 F hy;(try refine sq F ?_);refine wk F ?_;refine(xD G h j2 _ r1 bb v2 l2 y (by omega) (fun u hu=>by have:=rt hu;have:=rt hym;omega)).mono ?_;rintro r h' ⟨v3,rfl,rfl⟩;(try refine sq F ?_);refine wk F ?_;refine hK3 _ _ _ (N6 ⟨k+1,v3,addT l2 y,j2++[.row 221 4 0 [y.av]],rfl,by simp,?_,?_,by omega,hq,by omega⟩) (by omega);all_goals try exact zZz F
  ·rw[aL c2]at hq hz2;simp only[szs,List.foldl_nil]at hq hz2;subst hq;refine wk F ?_;refine cq F (fun c3=>?_) (fun c3=>?_)<;>(try exact c3.elim)<;>(refine wk F ?_)
   ·rw[M7 c3]at hp;refine ye hQ F ?_;unfold rdH;exact bad _ _ _ hp.symm
   ·rw[M1 (by simp[c3])]at hp;refine cq F (fun c4=>?_) (fun c4=>?_)<;>(try exact c4.elim)<;>(refine wk F ?_)
    ·rw[M7 (by omega)]at hp;refine ye hQ F ?_;unfold rdH;exact bad _ _ _ hp.symm
    ·rw[M1 (by omega)]at hp;subst c3;refine hK2 _ _ _ (N6 ⟨g,v2,r1,tk.foldl addT l,j2,rfl,aw,?_,?_,by omega,hp,by omega,by omega⟩) (by omega);all_goals try exact zZz F
 ·rw[M7 (by simpa using c1)]at hp;refine ye hQ F ?_;rw[← hp];unfold rdH;exact Fin.frz (FrzL.tup (.cons (Frz.toksD (by omega) (by simp[getRow,tksR];rfl) rfl) (.cons (.clo _ (.int _ _)) (.cons (.clo _ (.int _ _)) .nil)))) ⟨_,rfl,rfl⟩
end Go.Av
namespace Go.Av
open Go Go.Proofs Go.RowKit
variable (G:Nat→Option (List AVal))
theorem td(s:Bs):∀k,k≤s.length→shortAt s k=s.drop (Lib.lastIdx ⟨s.toArray⟩ 58 k+1).toNat∧ -1≤Lib.lastIdx ⟨s.toArray⟩ 58 k∧Lib.lastIdx ⟨s.toArray⟩ 58 k<k:=by
 intro k;induction k with
 |zero=>intro _;simp[shortAt,Lib.lastIdx]
 |succ k ih=>
  intro hk;obtain⟨h1,h2,h3⟩:=ih (by omega);have hb:=M4 (show k<s.length by omega);have e:(⟨s.toArray⟩:ByteArray).data[k]! =s[k]:=by simp[hb]
  rw[shortAt,hb];have e2:Lib.lastIdx ⟨s.toArray⟩ 58 (k+1)=if (s[k].toNat:Int)=58 then(k:Int)else Lib.lastIdx ⟨s.toArray⟩ 58 k:=by
   rw[Lib.lastIdx,e]
  rw[e2];by_cases hc:s[k]=58
  ·rw[M7 (by rw[hc]),M7 (by rw[hc];rfl)];refine⟨O6 s.drop (by omega),by omega,by omega⟩
  ·have:¬(s[k].toNat:Int)=58:=fun h=>hc ((zw (k:=58) (by omega)).1 h)
   rw[M1 (by simpa using hc),M1 this];exact⟨h1,h2,by omega⟩
theorem uV(s:Bs):short s=s.drop (Lib.lastIndexByte ⟨s.toArray⟩ 58+1).toNat∧ -1≤Lib.lastIndexByte ⟨s.toArray⟩ 58∧Lib.lastIndexByte ⟨s.toArray⟩ 58<s.length:=by
 have h:(⟨s.toArray⟩:ByteArray).size=s.length:=by simp[ByteArray.size]
 have:=td s s.length (N3 _);unfold Lib.lastIndexByte short;rw[h];exact this
end Go.Av
namespace Go.Av
open Go Go.Proofs Go.RowKit
attribute [local irreducible] WP WPl WPix Sat
variable (G:Nat→Option (List AVal))
theorem l9(s:Bs)(hs:s.length≤1048576)(h:Heap):Sat (CT G) 106 [.str s] h (fun r h'=>r=.str (short s)∧h'=h):=by
 obtain⟨h1,h2,h3⟩:=uV s;have hl:=eS G s 58 (by omega);generalize Lib.lastIndexByte ⟨s.toArray⟩ 58=n at h1 h2 h3 hl;refine sb [.tmp 2] Tryz.func106 ?_;intro Q hQ;refine af trivial ?_;refine aH trivial (hl _) ?_;refine au hQ trivial ?_;refine fR (.str _) ?_;rw[h1]
theorem nk(e:Elem)(n:Bs)(hs:e.sz≤1048576)(h:Heap):Sat (CT G) 141 [e.av,.str n] h (fun r h'=>r=.sl 4 ((kidsF e n).map Elem.av)∧h'=h):=by
 have hkl:=e.kids_len;refine sb [.tmp 4] Tryz.func141 ?_;intro Q hQ;refine af trivial ?_;refine lm (fun nL tL hL=>∃(k v:Nat) (acc:List Elem) (j:Heap),e.kids.length-k=nL∧h++ .row 171 4 0 [e.av]:: .row 171 4 v (acc.map Elem.av)::j=hL∧tL 5=.hs (h.length+1) v 0 acc.length true∧tL 11=.int .i64 k∧k≤e.kids.length∧acc.length≤k∧acc++(e.kids.drop k).filter (fun k=>decide (short k.name=n))=kidsF e n) ((fun(k v:Nat) (acc:List Elem) (j:Heap)=>(e.kids.length-k:Nat)) (0) (0) ([]) ([])) ?_ ?_
 ·refine⟨_,_,Weak.virt 5 171 4 (by simp) (by omega) (by exact az trivial),⟨0,0,[],[],rfl,aw,?_,?_,?_,?_,?_⟩⟩;all_goals first|exact az trivial|rfl|omega|trivial|skip
 rintro _ s2 h' ⟨k,v,acc,j,rfl,rfl,e5,e11,hk,hl,hp⟩ K2 hK2;simp only[aj,am,Nat.reduceEqDiff, ↓reduceIte]at e5 e11;have F:=F2 e5 e11;refine af F ?_;refine aD F (fun hc=>?_) (fun hc=>?_)<;>(try exact hc.elim)
 ·obtain⟨y,hy,hym⟩:=ak hc;have:=Elem.kid_sz hym;have:=y.name_len;rw[aI hy,X0]at hp;have F:=F2 F hy;refine af F ?_;refine aH F (l9 G y.name (by omega) _) ?_;refine aD F (fun hc=>?_) (fun hc=>?_)<;>(try exact hc.elim)<;>(refine af F ?_)
  ·refine Kq F ?_;(try refine ai F ?_);refine af F ?_;refine hK2 _ _ _ (N6 ⟨k+1,v+1,acc++[y],_,rfl,aw,?_,?_,by omega,by simp;omega,by rw[M7 (by simp[hc])]at hp;rw[← hp];simp⟩) (by omega);all_goals first|exact az F|rfl|omega|trivial|skip
  ·refine hK2 _ _ _ (N6 ⟨k+1,v,acc,_,rfl,aw,?_,?_,by omega,by omega,by rw[M1 (by simp[hc])]at hp;exact hp⟩) (by omega);all_goals first|exact az F|rfl|omega|trivial|skip
 ·refine af F ?_;refine au hQ F ?_;rw[aL hc,List.filter_nil,N8]at hp;subst hp;exact Fin.frz (uJ (pre:=h++[.row 171 4 0 [e.av]]) (post:=j) _ (by simp;rfl) (by simp) (by omega)) ⟨rfl,rfl⟩
theorem xE(e:Elem)(n:Bs)(hs:e.sz≤1048576)(h:Heap):Sat (CT G) 105 [e.av,.str n] h (fun r h'=>r=.tup [(kidF e n).1.av,.bool (kidF e n).2]∧h'=h):=by
 refine sb [.cell 4 171,.tmp 5] Tryz.func105 ?_;intro Q hQ;refine af trivial ?_;refine aH trivial (nk G e n hs _) ?_;refine aD trivial (fun hc=>?_) (fun hc=>?_)<;>(try exact hc.elim)<;>(refine af trivial ?_)
 ·refine yV hQ trivial ?_;have hk:kidsF e n=[]:=Q1.1 (by omega);simp only[kidF,hk];refine Fin.frz ?_ ⟨rfl,rfl⟩;refine .tup _ _ rfl fun i c d hc hd=>?_
  match i with
  |0=>simp at hc hd;subst hc;subst hd;exact uR _ _
  |1=>simp at hc hd;subst hc;subst hd;exact .clo _ (.bool _)
  |i+2=>simp at hc
 ·obtain⟨y,l,hk⟩:∃y l,kidsF e n=y::l:=by
   cases hq:kidsF e n with
   |nil=>rw[hq]at hc;simp at hc
   |cons y l=>exact⟨y,l,rfl⟩
  rw[hk];have h0:(y::l)[0]? =some y:=rfl;have F:=h0;refine af F ?_;simp only[h0];try refine ai F ?_
  refine af F ?_;refine yV hQ F ?_;simp only[kidF,hk];exact N2 (.tup _ (by intro c hc;simp at hc;rcases hc with rfl|rfl;exact Elem.clo _ _;exact .bool _)) ⟨rfl,rfl⟩
def idxF{α:Type}(p:α→Bool):List α→Nat→Int
 | [],_=> -1
 |a::l,k=>if p a then(k:Int)else idxF p l (k+1)
theorem ru{α:Type}(p:α→Bool):∀(l:List α) (k:Nat), -1≤idxF p l k∧idxF p l k<l.length+k
 | [],k=>by simp[idxF];omega
 |a::l,k=>by
  have:=ru p l (k+1);rw[idxF];split<;>(simp;omega)
theorem nN(p:At→Bool)(g:FuncId)(cap:List AVal)(l:List At)(hs:l.length≤1048576)(h:Heap)(hg:∀(a:At) (j:Heap),Sat (CT G) g (a.av::cap) (h++j) (fun r h'=>r=.bool (p a)∧h'=h++j)):
  Sat (CT G) 221 [.sl 2 (l.map At.av),.fn (.func g) [] cap] h (fun r h'=>r=.int .i64 (idxF p l 0)∧h'=h):=by
 refine sb [.tmp 4] Tryz.func221 ?_;intro Q hQ;refine af trivial ?_;refine lm (fun nL tL hL=>∃(k:Nat),l.length-k=nL∧h=hL∧tL 8=.int .i64 k∧k≤l.length∧idxF p l 0=idxF p (l.drop k) k) ((fun(k:Nat)=>(l.length-k:Nat)) (0)) ?_ ?_
 ·refine N6 ⟨0,rfl,aw,?_,?_,?_⟩;all_goals first|exact az trivial|rfl|omega|trivial|skip
 rintro _ s2 h' ⟨k,rfl,rfl,e8,hk,hp⟩ K2 hK2;simp only[aj,am,Nat.reduceEqDiff, ↓reduceIte]at e8;have F:=e8;refine af F ?_;refine aD F (fun hc=>?_) (fun hc=>?_)<;>(try exact hc.elim)
 ·obtain⟨y,hy,hym⟩:=ak hc;rw[aI hy,idxF]at hp;have F:=F2 F hy;refine af F ?_;have:=hg y [];rw[N8]at this;refine aH F (this) ?_;refine aD F (fun hc=>?_) (fun hc=>?_)<;>(try exact hc.elim)<;>(refine af F ?_)
  ·refine au hQ F ?_;refine fR (.int _ _) ?_;rw[hp,M7 hc]
  ·refine hK2 _ _ _ (N6 ⟨k+1,rfl,aw,?_,by omega,by rw[hp,M1 (by simp[hc])]⟩) (by omega);all_goals first|exact az F|rfl|omega|trivial|skip
 ·refine af F ?_;refine au hQ F ?_;refine fR (.int _ _) ?_;rw[hp,aL hc];rfl
end Go.Av
namespace Go.Av
open Go Go.Proofs Go.RowKit
def orcX(f:FuncId)(args:List AVal):Option AVal:=match orcL f args with
 |some r=>some r
 |none=>match args with
  | [.int .i32 c]=>if f=260 then some (.bool (beginF c))else if f=259 then some (.bool (moreF c))else none
  |_=>none
variable {G:Nat→Option (List AVal)}
theorem zY(hG:GOk G):OrcOk (CT G) orcX:=by
 intro f args r g h;unfold orcX at g;split at g
 ·rename_i e;cases g;exact qZ hG f args _ e h
 ·split at g
  ·rename_i c _;split at g
   ·rename_i e;subst e;cases g;exact hD G c h
   ·split at g
    ·rename_i e;subst e;cases g;exact oQ G c h
    ·cases g
  ·cases g
end Go.Av
namespace Go.Av
open Go Go.Proofs Go.RowKit
attribute [local irreducible] WP WPl WPix Sat
theorem Wk.slD{n:Nat}{xs ys:List AVal}(hl:xs.length=ys.length)(hw:∀(i:Nat) (r s:AVal),xs[i]? =some r→ys[i]? =some s→WkR r s):Wk (.sl n xs) (.sl n ys):=fun w S μ v rr=>by
 have at_:∀(i:Nat) (e:AVal),ys[i]? =some e→∃r,xs[i]? =some r∧WkR r e:=fun i e he=>by
  have hlt:=(M0.1 he).1;have hx:=M4 (show i<xs.length by omega);exact⟨_,hx,hw i _ e hx he⟩
 cases rr with
 |sl0 n a cap=>
  obtain rfl:ys=[]:=Q1.1 (by simpa using hl.symm);exact .sl0 _ _ _
 |sl n es b o cap vs hne hm hm' hn hc hr=>
  rw[hl];refine .sl _ ys b o cap vs (fun e=>?_) (by omega) hm' (fun i e he=>?_) (fun i e j c he hj=>?_) (fun i e j c he hj=>?_)
  ·subst e;exact hne (Q1.1 hl)
  ·obtain⟨r,hx,hq⟩:=at_ i e he;rw[← hq.1];exact hn i r hx
  ·obtain⟨r,hx,hq⟩:=at_ i e he;have hlt:=(M0.1 hj).1;have hd:=M4 (show j<r.cells.length by rw[hq.1];exact hlt);obtain⟨a1,a2,a3⟩:=hc i r j _ hx hd;exact⟨a1,a2,(hq.2 j _ c hd hj).2 a3⟩
  ·obtain⟨r,hx,hq⟩:=at_ i e he;have hlt:=(M0.1 hj).1;have hd:=M4 (show j<r.cells.length by rw[hq.1];exact hlt);exact(hq.2 j _ c hd hj).1 _ _ _ _ (hr i r j _ hx hd)
theorem Sat.closedD{C:Ctx}(hG:GClo C){orc:FuncId→List AVal→Option AVal}(horc:OrcOk C orc)(lf n:Nat){f:FuncId}{args:List AVal}{v:AVal}(ha:args.all (cloA 0)=true)(hv:cloA 0 v=true)
  (hrun:isV v (callX C orc lf n f args [])=true)(h:Heap):Sat C f args h fun r2 h2=>r2=v∧h2=h:=by
 unfold isV at hrun;split at hrun
 ·rename_i r h1 e;split at hrun
  ·rename_i y hy;have ey:=cP _ _ hrun;subst ey;have s:=(oB horc lf n f args [] r h1 e).letgo (v:=y) (by simp) (lU _ _ _ _ _ hy);refine(s.frame hG (fun x hx=>dI 0 _ (P4.1 ha x hx)) (fun r h' ⟨e1,e2⟩=>⟨by rw[e1];exact dI 0 _ hv,e2⟩) h).mono fun r2 h2 ⟨⟨e1,_⟩,e2⟩=>⟨e1,e2⟩
  ·cases hrun
 ·cases hrun
theorem Wk.tupD{xs ys:List AVal}(hl:xs.length=ys.length)(hw:∀(i:Nat) (x y:AVal),xs[i]? =some x→ys[i]? =some y→Wk x y):Wk (.tup xs) (.tup ys):=fun w S μ v r=>by
 cases r with
 |tup _ vs hvl hr=>
  refine .tup ys vs (by omega) (fun i d hd=>?_);have hlt:=(M0.1 hd).1;have hc:=M4 (show i<xs.length by omega);exact hw i _ d hc hd w S μ _ (hr i _ hc)
def wkL(f:AVal→AVal→Bool):List AVal→List AVal→Bool
 | [],[]=>true
 |x::xs,y::ys=>f x y&&wkL f xs ys
 |_,_=>false
def wkB:Nat→AVal→AVal→Bool
 |0,x,y=>beqA x y
 |f+1,x,y=>beqA x y||match x,y with
  | .nil (.slice none 0 0),.sl _ []=>true
  | .agg xs,.agg ys=>wkL (wkB f) xs ys&&ys.all AVal.sto
  | .tup xs,.tup ys=>wkL (wkB f) xs ys
  | .sl n xs,.sl m ys=>(n==m)&&wkL (fun r s=>wkL (wkB f) r.cells s.cells&&s.cells.all AVal.sto) xs ys
  |_,_=>false
theorem iW{f:AVal→AVal→Bool}{R:AVal→AVal→Prop}(hf:∀x y,f x y=true→R x y):∀{xs ys:List AVal},wkL f xs ys=true→xs.length=ys.length∧∀(i:Nat) (x y:AVal),xs[i]? =some x→ys[i]? =some y→R x y
 | [],[],_=>⟨rfl,fun i x y hx=>by simp at hx⟩
 |x::xs,y::ys,h=>by
  unfold wkL at h;rw[M2]at h;obtain⟨h1,h2⟩:=iW hf h.2;refine⟨by simp[h1],fun i a b ha hb=>?_⟩;cases i with
  |zero=>cases ha;cases hb;exact hf _ _ h.1
  |succ i=>exact h2 i a b ha hb
 | [],_::_,h=>by cases h
 |_::_,[],h=>by cases h
theorem iX:∀(f:Nat) (x y:AVal),wkB f x y=true→Wk x y:=by
 intro f;induction f with
 |zero=>intro x y h;rw[cP _ _ h];exact Wk.refl _
 |succ f ih=>
  intro x y h;unfold wkB at h;rw[Q9]at h;rcases h with h|h
  ·rw[cP _ _ h];exact Wk.refl _
  ·split at h
   ·exact Wk.nils _
   ·rw[M2,P4]at h;obtain⟨h1,h2⟩:=iW ih h.1;exact Wk.agg h1 h.2 h2
   ·obtain⟨h1,h2⟩:=iW ih h;exact Wk.tupD h1 h2
   ·rw[M2,beq_iff_eq]at h;obtain⟨rfl,h⟩:=h;obtain⟨h1,h2⟩:=iW (R:=fun r s=>WkR r s) (fun r s hh=>by
     rw[M2,P4]at hh;obtain⟨k1,k2⟩:=iW ih hh.1;exact⟨k1,fun j c d hc hd=>⟨k2 j c d hc hd,fun _=>hh.2 d (N0 hd)⟩⟩) h
    exact Wk.slD h1 h2
   ·cases h
end Go.Av
