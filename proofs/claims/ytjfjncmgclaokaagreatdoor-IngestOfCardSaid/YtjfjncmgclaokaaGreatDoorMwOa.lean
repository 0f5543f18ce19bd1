/- Parts. -/
import Derived.Test.YtjfjncmgclaokaaGreatDoorMwHa
import Derived.Test.YtjfjncmgclaokaaGreatDoorMwBl
import Derived.Lib.TrimUEq
set_option linter.unusedSimpArgs false
set_option linter.unusedVariables false
set_option linter.unusedSectionVars false
set_option linter.unnecessarySimpa false
set_option maxRecDepth 100000
set_option maxHeartbeats 16000000
namespace Go.Av
open Go Go.Proofs Go.RowKit
attribute [local irreducible] WP WPl WPix Sat
variable (G:Nat→Option (List AVal))
def enc(r:Int):Bs:=(Utf8.encode r).data.toList
def Rune(r:Int):Prop:=0≤r∧(r<55296∨57343<r∧r≤1114111)
theorem Rune.valid{r:Int}(h:Rune r):Utf8.valid r=true:=by
 unfold Utf8.valid;obtain⟨h0,h1⟩:=h;simp;omega
theorem bk(n:Nat)(h:n<256):bytA (UInt8.ofNat n)=.int .u8 n:=by
 simp[bytA];omega
theorem wX{r:Int}(h0:0≤r)(h1:r<128):(enc r).map bytA=[.int .u8 r]:=by
 have hv:=Rune.valid (r:=r) ⟨h0,by omega⟩;unfold enc Utf8.encode;simp only[hv,if_true];rw[I6 (by omega)];simp only[L5,P4];rw[bk _ (by omega)];simp only[X0,AVal.int.injEq,and_true,true_and];omega
theorem wY{r:Int}(h0:128≤r)(h1:r<2048):(enc r).map bytA=[.int .u8 (192+r/64),.int .u8 (128+r%64)]:=by
 have hv:=Rune.valid (r:=r) ⟨by omega,by omega⟩;unfold enc Utf8.encode;simp only[hv,if_true];rw[I0 (by omega),I6 (by omega)];simp only[L5,P4];rw[bk _ (by omega),bk _ (by omega)];simp only[X0,AVal.int.injEq,and_true,true_and];omega
theorem tQ{r:Int}(h:Rune r)(h0:2048≤r)(h1:r<65536):(enc r).map bytA=[.int .u8 (224+r/4096),.int .u8 (128+r/64%64),.int .u8 (128+r%64)]:=by
 have hv:=h.valid;unfold enc Utf8.encode;simp only[hv,if_true];rw[I0 (by omega),I0 (by omega),I6 (by omega)];simp only[L5,P4];rw[bk _ (by omega),bk _ (by omega),bk _ (by omega)];simp only[X0,AVal.int.injEq,and_true,true_and];omega
theorem wZ{r:Int}(h0:65536≤r)(h1:r≤1114111):(enc r).map bytA=[.int .u8 (240+r/262144),.int .u8 (128+r/4096%64),.int .u8 (128+r/64%64),.int .u8 (128+r%64)]:=by
 have hv:=Rune.valid (r:=r) ⟨by omega,by omega⟩;unfold enc Utf8.encode;simp only[hv,if_true];rw[I0 (by omega),I0 (by omega),I0 (by omega)];simp only[L5,P4];rw[bk _ (by omega),bk _ (by omega),bk _ (by omega),bk _ (by omega)];simp only[X0,AVal.int.injEq,and_true,true_and];omega
theorem eJ(r:Int):1≤(enc r).length∧(enc r).length≤4:=by
 unfold enc Utf8.encode;simp only[];generalize (if Utf8.valid r=true then r.toNat else Utf8.runeError)=c;by_cases h1:c<128
 ·rw[I6 h1];exact⟨by simp,by simp⟩
 ·rw[I0 h1];by_cases h2:c<2048
  ·rw[I6 h2];exact⟨by simp,by simp⟩
  ·rw[I0 h2];by_cases h3:c<65536
   ·rw[I6 h3];exact⟨by simp,by simp⟩
   ·rw[I0 h3];exact⟨by simp,by simp⟩
theorem kC(P:Program)(h:Heap)(T:TypeId)(a b:Int)(k:IntKind)(hb:0≤b)(hb2:b<32):abin P h .shr T (.int .i32 a) (.int k b)=some (.int .i32 (a/2^b.toNat)):=by
 simp only[abin];rw[I0 (by omega)];have:min b.toNat (IntKind.bits .i32)=b.toNat:=by simp[IntKind.bits];omega
 rw[this,Int.fdiv_eq_ediv_of_nonneg _ (by exact Int.le_of_lt (Int.pow_pos (by omega)))]
theorem wrap_u8(x:Int):IntKind.wrap .u8 x=x%256:=IntKind.wrap_u8 x
theorem wrap_u32(x:Int)(h0:0≤x)(h1:x<4294967296):IntKind.wrap .u32 x=x:=by rw[IntKind.wrap_u32];omega
theorem iJ(n m:Nat)(h:n+m<256)(hh:∀x:_root_.Fin 256,x.val≤m→(BitVec.ofInt 8 n|||BitVec.ofInt 8 (x.val:Int)).toNat=n+x.val)(x:Int)(h0:0≤x)(h1:x≤m):aint .or .u8 n x=some (.int .u8 (n+x)):=by
 have e:(BitVec.ofInt 8 n|||BitVec.ofInt 8 ((x.toNat:Nat):Int)).toNat=n+x.toNat:=hh ⟨x.toNat,by omega⟩ (by simp;omega);rw[show x=((x.toNat:Nat):Int)from by omega];show some (AVal.int .u8 (IntKind.wrap .u8 (BitVec.ofInt 8 n|||BitVec.ofInt 8 ((x.toNat:Nat):Int)).toNat))=_;rw[e,wrap_u8];congr 2;omega
theorem zJ(x:Int)(h0:0≤x)(h1:x≤31):aint .or .u8 192 x=some (.int .u8 (192+x)):=iJ 192 31 (by omega) (by decide+kernel) x h0 h1
theorem zK(x:Int)(h0:0≤x)(h1:x≤15):aint .or .u8 224 x=some (.int .u8 (224+x)):=iJ 224 15 (by omega) (by decide+kernel) x h0 h1
theorem zL(x:Int)(h0:0≤x)(h1:x≤7):aint .or .u8 240 x=some (.int .u8 (240+x)):=iJ 240 7 (by omega) (by decide+kernel) x h0 h1
theorem zM(x:Int)(h0:0≤x)(h1:x≤63):aint .or .u8 128 x=some (.int .u8 (128+x)):=iJ 128 63 (by omega) (by decide+kernel) x h0 h1
theorem zN(x:Int)(h0:0≤x)(h1:x<256):aint .and .u8 x 63=some (.int .u8 (x%64)):=by
 have hh:∀x:_root_.Fin 256,(BitVec.ofInt 8 (x.val:Int)&&&BitVec.ofInt 8 63).toNat=x.val%64:=by decide+kernel
 have e:(BitVec.ofInt 8 ((x.toNat:Nat):Int)&&&BitVec.ofInt 8 63).toNat=x.toNat%64:=hh ⟨x.toNat,by omega⟩;rw[show x=((x.toNat:Nat):Int)from by omega];show some (AVal.int .u8 (IntKind.wrap .u8 (BitVec.ofInt 8 ((x.toNat:Nat):Int)&&&BitVec.ofInt 8 63).toNat))=_;rw[e,wrap_u8];congr 2;omega
theorem pE(P:Program)(h:Heap)(T:TypeId)(x:Int)(h0:0≤x)(h1:x≤31):abin P h .or T (.int .u8 192) (.int .u8 x)=some (.int .u8 (192+x)):=by simpa only[abin,if_true]using zJ x h0 h1
theorem pF(P:Program)(h:Heap)(T:TypeId)(x:Int)(h0:0≤x)(h1:x≤15):abin P h .or T (.int .u8 224) (.int .u8 x)=some (.int .u8 (224+x)):=by simpa only[abin,if_true]using zK x h0 h1
theorem pG(P:Program)(h:Heap)(T:TypeId)(x:Int)(h0:0≤x)(h1:x≤7):abin P h .or T (.int .u8 240) (.int .u8 x)=some (.int .u8 (240+x)):=by simpa only[abin,if_true]using zL x h0 h1
theorem pH(P:Program)(h:Heap)(T:TypeId)(x:Int)(h0:0≤x)(h1:x≤63):abin P h .or T (.int .u8 128) (.int .u8 x)=some (.int .u8 (128+x)):=by simpa only[abin,if_true]using zM x h0 h1
theorem pI(P:Program)(h:Heap)(T:TypeId)(x:Int)(h0:0≤x)(h1:x<256):abin P h .and T (.int .u8 x) (.int .u8 63)=some (.int .u8 (x%64)):=by simpa only[abin,if_true]using zN x h0 h1
theorem E2(P:Program)(h:Heap)(T:TypeId)(a:Int):abin P h .shr T (.int .i32 a) (.int .u64 6)=some (.int .i32 (a/64)):=by rw[kC _ _ _ _ _ _ (by omega) (by omega)];rfl
theorem zO(P:Program)(h:Heap)(T:TypeId)(a:Int):abin P h .shr T (.int .i32 a) (.int .u64 12)=some (.int .i32 (a/4096)):=by rw[kC _ _ _ _ _ _ (by omega) (by omega)];rfl
theorem zP(P:Program)(h:Heap)(T:TypeId)(a:Int):abin P h .shr T (.int .i32 a) (.int .u64 18)=some (.int .i32 (a/262144)):=by rw[kC _ _ _ _ _ _ (by omega) (by omega)];rfl
theorem ln(k:IntKind)(n:Int):aconv Tryz.prog 21 5 (.int k n)=some (.int .u8 (n%256)):=by simp only[aconv,go_sem,wrap_u8]
theorem jL(k:IntKind)(n:Int)(h0:0≤n)(h1:n<4294967296):aconv Tryz.prog 21 259 (.int k n)=some (.int .u32 n):=by simp only[aconv,go_sem,wrap_u32 n h0 h1]
theorem fJ(r:Int)(hr:Rune r)(h1:128≤r)(h j:Heap)(X:Blk)(v:Nat)(s:Bs)(hs:s.length≤1073741824):
  Sat (CT G) 242 [.hs (h.length+1) v 0 s.length true,.int .i32 r] (h++X::bufR v s::j)
   (fun x h'=>x=.hs (h.length+1) (v+1) 0 (s.length+(enc r).length) true∧h'=h++X::bufR (v+1) (s++enc r)::j):=by
 have end_:∀l,l=enc r→Fin (h++X::bufR v s::j) (h++X::bufR (v+1) (s++l)::j) (fun x h'=>x=.hs (h.length+1) (v+1) 0 (s.length+(enc r).length) true∧h'=h++X::bufR (v+1) (s++enc r)::j) (.hs (h.length+1) (v+1) 0 (s.length+l.length) true):=fun l hl=>by
  subst hl;refine Fin.keep0 (by simp) (fun p k hk=>?_) (.hs _ _ _ _ _ (by simp)) ⟨rfl,rfl⟩;rcases T9 p h.length with h1|h1
  ·rw[J0 h1]at hk ⊢;exact .inl hk
  ·rw[J4 h1]at hk ⊢
   match p-h.length,hk with
   |0,hk=>exact .inl hk
   |1,hk=>simp at hk;subst hk;exact .inr (kB _ _ _)
   |i+2,hk=>exact .inl hk
 have F:=F2 (F9 @ln @jL @E2 @zO @zP @pE @pF @pG @pH) (F3 @pI @wrap_u8 @wrap_u32);obtain⟨hr0,hr1⟩:=hr;refine sb [.tmp 4] Tryz.func242 ?_;intro Q hQ;refine aI F ?_;refine jE F (fun hc=>?_) (fun hc=>?_)<;>(try exact hc.elim)<;>(refine aI F ?_)
 ·refine bK (.inl rfl) (by exact dV F) (by exact dV F) dj fY (by omega) (cM _ _) (by simp(disch:=first|omega| (simp only[go_sem, ↓reduceIte,Nat.reduceEqDiff];done)|fail) only[go_sem, ↓reduceIte,Int.reduceToNat,Int.reduceLE,Int.reduceLT,Int.reduceSub,Int.reduceAdd,Nat.reduceEqDiff,Nat.reduceAdd,Nat.reduceLeDiff,Nat.reduceLT,Nat.reduceMul,Nat.reduceSub,F,bp];rfl) (by simp) ?_ ?_
  ·simp[maxLen];omega
  simp(disch:=first|omega| (simp only[go_sem, ↓reduceIte,Nat.reduceEqDiff];done)|fail) only[go_sem, ↓reduceIte,Int.reduceToNat,Int.reduceLE,Int.reduceLT,Int.reduceSub,Int.reduceAdd,Nat.reduceEqDiff,Nat.reduceAdd,Nat.reduceLeDiff,Nat.reduceLT,Nat.reduceMul,Nat.reduceSub,F];refine aI F ?_;refine fw hQ F ?_;have e:=wY h1 (by omega);have le:(enc r).length=2:=by simpa using L9 List.length e
  have:=end_ _ rfl;simp only[bufR,O0,e,le]at this;have m0:r/64%256=r/64:=by omega
  have m1:r%256%64=r%64:=by omega
  simp only[bufR,O0,e,le,m0,m1,I7,M0,N7,Nat.reduceAdd];exact this
 ·refine jE F (fun hc=>?_) (fun hc=>?_)<;>(try exact hc.elim)<;>(refine aI F ?_)
  ·refine jE F (fun hc=>?_) (fun hc=>?_)<;>(try exact hc.elim)<;>(refine aI F ?_)
   ·refine bK (.inl rfl) (by exact dV F) (by exact dV F) dj fY (by omega) (cM _ _) (by simp(disch:=first|omega| (simp only[go_sem, ↓reduceIte,Nat.reduceEqDiff];done)|fail) only[go_sem, ↓reduceIte,Int.reduceToNat,Int.reduceLE,Int.reduceLT,Int.reduceSub,Int.reduceAdd,Nat.reduceEqDiff,Nat.reduceAdd,Nat.reduceLeDiff,Nat.reduceLT,Nat.reduceMul,Nat.reduceSub,F,bp];rfl) (by simp) ?_ ?_
    ·simp[maxLen];omega
    simp(disch:=first|omega| (simp only[go_sem, ↓reduceIte,Nat.reduceEqDiff];done)|fail) only[go_sem, ↓reduceIte,Int.reduceToNat,Int.reduceLE,Int.reduceLT,Int.reduceSub,Int.reduceAdd,Nat.reduceEqDiff,Nat.reduceAdd,Nat.reduceLeDiff,Nat.reduceLT,Nat.reduceMul,Nat.reduceSub,F];refine aI F ?_;refine fw hQ F ?_;have e:=tQ ⟨hr0,hr1⟩ (by omega) (by omega);have le:(enc r).length=3:=(by simpa using L9 List.length e);have:=end_ _ rfl;simp only[bufR,O0,e,le]at this;have m0:r/4096%256=r/4096:=(by omega);have m1:r/64%256%64=r/64%64:=(by omega);have m2:r%256%64=r%64:=(by omega);simp only[bufR,O0,e,le,m0,m1,m2,I7,M0,N7,Nat.reduceAdd];exact this
   ·exfalso;omega
  ·(first|refine fq F (fun hg=>?_) (fun hg=>?_)|refine pqo F (fun hg=>?_) (fun hg=>?_))<;>(try exact hg.elim)<;>(try refine cV F ?_)<;>(refine aI F ?_)
   ·refine jE F (fun hc=>?_) (fun hc=>?_)<;>(try exact hc.elim)<;>(refine aI F ?_)
    ·refine bK (.inl rfl) (by exact dV F) (by exact dV F) dj fY (by omega) (cM _ _) (by simp(disch:=first|omega| (simp only[go_sem, ↓reduceIte,Nat.reduceEqDiff];done)|fail) only[go_sem, ↓reduceIte,Int.reduceToNat,Int.reduceLE,Int.reduceLT,Int.reduceSub,Int.reduceAdd,Nat.reduceEqDiff,Nat.reduceAdd,Nat.reduceLeDiff,Nat.reduceLT,Nat.reduceMul,Nat.reduceSub,F,bp];rfl) (by simp) ?_ ?_
     ·simp[maxLen];omega
     simp(disch:=first|omega| (simp only[go_sem, ↓reduceIte,Nat.reduceEqDiff];done)|fail) only[go_sem, ↓reduceIte,Int.reduceToNat,Int.reduceLE,Int.reduceLT,Int.reduceSub,Int.reduceAdd,Nat.reduceEqDiff,Nat.reduceAdd,Nat.reduceLeDiff,Nat.reduceLT,Nat.reduceMul,Nat.reduceSub,F];refine aI F ?_;refine fw hQ F ?_;have e:=tQ ⟨hr0,hr1⟩ (by omega) (by omega);have le:(enc r).length=3:=(by simpa using L9 List.length e);have:=end_ _ rfl;simp only[bufR,O0,e,le]at this;have m0:r/4096%256=r/4096:=(by omega);have m1:r/64%256%64=r/64%64:=(by omega);have m2:r%256%64=r%64:=(by omega);simp only[bufR,O0,e,le,m0,m1,m2,I7,M0,N7,Nat.reduceAdd];exact this
    ·(first|refine fq F (fun hg=>?_) (fun hg=>?_)|refine pqo F (fun hg=>?_) (fun hg=>?_))<;>(try exact hg.elim)<;>(try refine cV F ?_)<;>(refine aI F ?_)
     ·refine jE F (fun hc=>?_) (fun hc=>?_)<;>(try exact hc.elim)<;>(refine aI F ?_)
      ·refine bK (.inl rfl) (by exact dV F) (by exact dV F) dj fY (by omega) (cM _ _) (by simp(disch:=first|omega| (simp only[go_sem, ↓reduceIte,Nat.reduceEqDiff];done)|fail) only[go_sem, ↓reduceIte,Int.reduceToNat,Int.reduceLE,Int.reduceLT,Int.reduceSub,Int.reduceAdd,Nat.reduceEqDiff,Nat.reduceAdd,Nat.reduceLeDiff,Nat.reduceLT,Nat.reduceMul,Nat.reduceSub,F,bp];rfl) (by simp) ?_ ?_
       ·simp[maxLen];omega
       simp(disch:=first|omega| (simp only[go_sem, ↓reduceIte,Nat.reduceEqDiff];done)|fail) only[go_sem, ↓reduceIte,Int.reduceToNat,Int.reduceLE,Int.reduceLT,Int.reduceSub,Int.reduceAdd,Nat.reduceEqDiff,Nat.reduceAdd,Nat.reduceLeDiff,Nat.reduceLT,Nat.reduceMul,Nat.reduceSub,F];refine aI F ?_;refine fw hQ F ?_;have e:=wZ (r:=r) (by omega) (by omega);have le:(enc r).length=4:=(by simpa using L9 List.length e);have:=end_ _ rfl;simp only[bufR,O0,e,le]at this;have m0:r/262144%256=r/262144:=(by omega);have m1:r/4096%256%64=r/4096%64:=(by omega);have m2:r/64%256%64=r/64%64:=(by omega);have m3:r%256%64=r%64:=(by omega);simp only[bufR,O0,e,le,m0,m1,m2,m3,I7,M0,N7,Nat.reduceAdd];exact this
      ·exfalso;omega
     ·exfalso;omega
   ·exfalso;omega
theorem kD(r:Int)(hr:Rune r)(h j:Heap)(X:Blk)(v:Nat)(s:Bs)(hs:s.length≤1073741824):
  Sat (CT G) 192 [.hs (h.length+1) v 0 s.length true,.int .i32 r] (h++X::bufR v s::j)
   (fun x h'=>x=.hs (h.length+1) (v+1) 0 (s.length+(enc r).length) true∧h'=h++X::bufR (v+1) (s++enc r)::j):=by
 have end_:∀l,l=enc r→Fin (h++X::bufR v s::j) (h++X::bufR (v+1) (s++l)::j) (fun x h'=>x=.hs (h.length+1) (v+1) 0 (s.length+(enc r).length) true∧h'=h++X::bufR (v+1) (s++enc r)::j) (.hs (h.length+1) (v+1) 0 (s.length+l.length) true):=fun l hl=>by
  subst hl;refine Fin.keep0 (by simp) (fun p k hk=>?_) (.hs _ _ _ _ _ (by simp)) ⟨rfl,rfl⟩;rcases T9 p h.length with h1|h1
  ·rw[J0 h1]at hk ⊢;exact .inl hk
  ·rw[J4 h1]at hk ⊢
   match p-h.length,hk with
   |0,hk=>exact .inl hk
   |1,hk=>simp at hk;subst hk;exact .inr (kB _ _ _)
   |i+2,hk=>exact .inl hk
 have hr':=hr;obtain⟨hr0,hr1⟩:=hr;have F:=F2 @ln @jL;refine sb [.tmp 4] Tryz.func192 ?_;intro Q hQ;refine aI F ?_;refine jE F (fun hc=>?_) (fun hc=>?_)<;>(try exact hc.elim)<;>(refine aI F ?_)
 ·refine bK (.inl rfl) (by exact dV F) (by exact dV F) dj fY (by omega) (cM _ _) (by simp(disch:=first|omega| (simp only[go_sem, ↓reduceIte,Nat.reduceEqDiff];done)|fail) only[go_sem, ↓reduceIte,Int.reduceToNat,Int.reduceLE,Int.reduceLT,Int.reduceSub,Int.reduceAdd,Nat.reduceEqDiff,Nat.reduceAdd,Nat.reduceLeDiff,Nat.reduceLT,Nat.reduceMul,Nat.reduceSub,F,bp];rfl) (by simp) ?_ ?_
  ·simp[maxLen];omega
  simp(disch:=first|omega| (simp only[go_sem, ↓reduceIte,Nat.reduceEqDiff];done)|fail) only[go_sem, ↓reduceIte,Int.reduceToNat,Int.reduceLE,Int.reduceLT,Int.reduceSub,Int.reduceAdd,Nat.reduceEqDiff,Nat.reduceAdd,Nat.reduceLeDiff,Nat.reduceLT,Nat.reduceMul,Nat.reduceSub,F];refine aI F ?_;refine fw hQ F ?_;have e:=wX (r:=r) (by omega) (by omega);have le:(enc r).length=1:=by simpa using L9 List.length e
  have:=end_ _ rfl;simp only[bufR,O0,e,le]at this;have m0:r%256=r:=by omega
  simp only[bufR,O0,e,le,m0,I7,M0,N7,Nat.reduceAdd];exact this
 ·refine oE F (fJ G r hr' (by omega) h j X v s hs) ?_;refine fw hQ F ?_;exact end_ _ rfl
theorem ef(a:AVal)(r:Int)(hr:Rune r)(h j:Heap)(v:Nat)(s:Bs)(ha:bldA a h.length)(hs:s.length≤1073741824):
  Sat (CT G) 130 [.hp h.length 0 0 0,.int .i32 r] (bldH h j a v s) (fun x h'=>x=.tup [.int .i64 (enc r).length,.nil .nilIface]∧h'=bldH h j (.hp h.length 0 0 0) (v+1) (s++enc r)):=by
 have end_:Fin (bldH h j a v s) (bldH h j (.hp h.length 0 0 0) (v+1) (s++enc r)) (fun x h'=>x=.tup [.int .i64 (enc r).length,.nil .nilIface]∧h'=bldH h j (.hp h.length 0 0 0) (v+1) (s++enc r)) (.tup [.int .i64 (enc r).length,.nil .nilIface]):=
  Fin.keep0 ((cG ..).trans (cG ..).symm) (iq _ _ _ _ _ _ _) (.tup _ (by intro c hc;simp at hc;rcases hc with rfl|rfl;exact .int _ _;exact .nil _)) ⟨rfl,rfl⟩
 have F:= @bp;refine sb [.tmp 4,.tmp 5] Tryz.func130 ?_;intro Q hQ;refine aI F ?_;refine(gY G a h j v s ha).mono ?_;rintro x h' ⟨rfl,rfl⟩;unfold bldH at*;try refine cV F ?_
 refine aI F ?_;refine oE F (kD G r hr h j _ v s hs) ?_;refine(hQ _ _ ?_).1;simp(disch:=first|omega| (simp only[go_sem, ↓reduceIte,Nat.reduceEqDiff];done)|fail) only[go_sem, ↓reduceIte,Int.reduceToNat,Int.reduceLE,Int.reduceLT,Int.reduceSub,Int.reduceAdd,Nat.reduceEqDiff,Nat.reduceAdd,Nat.reduceLeDiff,Nat.reduceLT,Nat.reduceMul,Nat.reduceSub,F];have hl:=eJ r;simp only[bldR,bufR,J5,O0]at end_ ⊢;rw[show IntKind.wrap .i64 (((s.length+(enc r).length:Nat):Int)-(s.length:Nat))=((enc r).length:Nat)from by rw[ie (by omega) (by omega)];omega];exact end_
end Go.Av
namespace Go.Av
open Go Go.Proofs Go.RowKit
def dec(s:Bs)(k:Nat):Nat×Nat:=Utf8.decode ⟨s.toArray⟩ k
theorem fB(s:Bs)(k:Nat):dec s k=Lib.decodeN (s.length-k) (s.getD k 0).toNat (s.getD (k+1) 0).toNat (s.getD (k+2) 0).toNat (s.getD (k+3) 0).toNat:=by
 unfold dec;rw[Lib.decode_N]
theorem aW(n:Nat)(h:n<256):(UInt8.ofNat n).toNat=n:=by simp;omega
def fix(r:Int):Nat:=if Utf8.valid r=true then r.toNat else Utf8.runeError
theorem x5(r:Int):fix r≤1114111:=by
 unfold fix Utf8.valid Utf8.runeError;split
 ·rename_i h;simp at h;omega
 ·omega
theorem vt(r:Int):fix r<55296∨57344≤fix r:=by
 unfold fix Utf8.valid Utf8.runeError;split
 ·rename_i h;simp at h;omega
 ·omega
theorem oJ(r:Int):enc r=let c:=fix r
  if c<0x80 then [UInt8.ofNat c]
  else if c<0x800 then [UInt8.ofNat (0xC0+c/64),UInt8.ofNat (0x80+c%64)]
  else if c<0x10000 then [UInt8.ofNat (0xE0+c/4096),UInt8.ofNat (0x80+c/64%64),UInt8.ofNat (0x80+c%64)]
  else [UInt8.ofNat (0xF0+c/262144),UInt8.ofNat (0x80+c/4096%64),UInt8.ofNat (0x80+c/64%64),UInt8.ofNat (0x80+c%64)]:=by
 unfold enc Utf8.encode fix;simp only[];split
 ·split
  ·rfl
  ·split
   ·rfl
   ·split<;>rfl
 ·rfl
theorem aO(s:Bs)(k:Nat)(h:k<s.length):1≤(dec s k).2∧k+(dec s k).2≤s.length:=by
 rw[fB];refine⟨Lib.decodeN_ge1 _ _ _ _ _,?_⟩;unfold Lib.decodeN;repeat (first|split| (simp only[];omega))
theorem lq(s:Bs)(k:Nat)(b:UInt8)(h:s[k]? =some b)(ha:b.toNat<128):dec s k=(b.toNat,1):=by
 rw[fB,Q9,h];exact Lib.decodeN_ascii _ _ _ _ _ ha
theorem tR(s:Bs)(k:Nat)(b:UInt8)(h:s[k]? =some b)(ha:128≤b.toNat):
  128≤(dec s k).1∧((dec s k).1<55296∨57343<(dec s k).1∧(dec s k).1≤1114111)∧∀i,i<(dec s k).2→∀c,s[k+i]? =some c→128≤c.toNat:=by
 have hb:s.getD k 0=b:=by rw[Q9,h];rfl
 have at_:∀i c,s[k+i]? =some c→s.getD (k+i) 0=c:=fun i c hc=>by rw[Q9,hc];rfl
 have l0:∀i,(s.getD i 0).toNat<256:=fun i=>(s.getD i 0).toNat_lt
 have e1:=l0 (k+1);have e2:=l0 (k+2);have e3:=l0 (k+3);have e0:=b.toNat_lt
 rw[fB,hb];generalize h1:(s.getD (k+1) 0).toNat=b1 at*;generalize h2:(s.getD (k+2) 0).toNat=b2 at*;generalize h3:(s.getD (k+3) 0).toNat=b3 at*;have key:∀i c,s[k+i]? =some c→(i=0→c.toNat=b.toNat)∧(i=1→c.toNat=b1)∧(i=2→c.toNat=b2)∧(i=3→c.toNat=b3):=fun i c hc=>by
  have:=at_ i c hc;refine⟨fun e=>?_,fun e=>?_,fun e=>?_,fun e=>?_⟩<;>subst e
  ·rw[← this];simp only[U7];rw[hb]
  ·rw[← h1,this]
  ·rw[← h2,this]
  ·rw[← h3,this]
 generalize s.length-k=n;have fin:∀x m:Nat,(128≤x∧(x<55296∨57343<x∧x≤1114111))→(∀i,i<m→(i=0∧128≤b.toNat)∨(i=1∧128≤b1)∨(i=2∧128≤b2)∨(i=3∧128≤b3))→
   128≤(x,m).1∧((x,m).1<55296∨57343<(x,m).1∧(x,m).1≤1114111)∧∀i,i<(x,m).2→∀c,s[k+i]? =some c→128≤c.toNat:=fun x m hx hm=>
  ⟨hx.1,hx.2,fun i hi c hc=>by
   obtain⟨k0,k1,k2,k3⟩:=key i c hc;rcases hm i hi with⟨e,h⟩| ⟨e,h⟩| ⟨e,h⟩| ⟨e,h⟩
   ·rw[k0 e];exact h
   ·rw[k1 e];exact h
   ·rw[k2 e];exact h
   ·rw[k3 e];exact h⟩
 unfold Lib.decodeN;rw[I0 (by omega)];split
 ·split
  ·exact fin _ _ (by omega) (fun i hi=>by omega)
  ·exact fin _ _ (by omega) (fun i hi=>by omega)
 ·split
  ·split
   ·exact fin _ _ (by omega) (fun i hi=>by omega)
   ·exact fin _ _ (by omega) (fun i hi=>by omega)
  ·split
   ·split
    ·exact fin _ _ (by omega) (fun i hi=>by omega)
    ·exact fin _ _ (by omega) (fun i hi=>by omega)
   ·exact fin _ _ (by omega) (fun i hi=>by omega)
end Go.Av
namespace Go.Av
open Go Go.Proofs Go.RowKit
attribute [local irreducible] WP WPl WPix Sat
variable (G:Nat→Option (List AVal))
theorem c9{x:Int}(h0: -2147483648≤x)(h1:x≤2147483647):IntKind.i32.wrap x=x:=by
 simp only[IntKind.wrap,IntKind.bits,IntKind.signed];simp;omega
theorem kE(h j:Heap)(s:Bs)(q:Nat):(h++Blk.iter s q::j)[h.length]? =some (.iter s q):=by simp
end Go.Av
namespace Go.Av
open Go Go.Proofs Go.RowKit
theorem bM(s:Bs)(k:Nat):dec s k=dec (s.drop k) 0:=by
 rw[fB,fB];simp only[Q9,N4,N2,U7,N7,Nat.sub_zero,Nat.add_assoc]
theorem jd(s:Bs)(k:Nat)(h:k<s.length):Rune (dec s k).1:=by
 have hb:=I3 h;by_cases ha:s[k].toNat<128
 ·rw[lq s k _ hb ha];exact⟨by simp,by simp;omega⟩
 ·obtain⟨h1,h2,_⟩:=tR s k _ hb (by omega);exact⟨by omega,by omega⟩
def runesN:Nat→Bs→List Int
 |0,_=>[]
 |f+1,s=>if s=[]then []else((dec s 0).1:Int)::runesN f (s.drop (dec s 0).2)
def runesF(s:Bs):List Int:=runesN s.length s
theorem nI:∀(f:Nat) (s:Bs),s.length≤f→runesN f s=runesN s.length s:=by
 intro f;induction f using Nat.strongRecOn with
 |ind f ih=>
  intro s hs;cases s with
  |nil=>cases f<;>rfl
  |cons b t=>
   obtain⟨f,rfl⟩:∃g,f=g+1:=⟨f-1,by simp at hs;omega⟩;have hd:=aO (b::t) 0 (by simp);simp only[I7]at hs hd ⊢;rw[runesN,runesN,I0 (by simp),I0 (by simp)];have hl:((b::t).drop (dec (b::t) 0).2).length≤t.length:=(by simp only[N2,I7];omega);rw[ih f (by omega) _ (by omega)];by_cases hf:t.length=f
   ·subst hf;rw[ih t.length (by omega) _ hl]
   ·rw[ih t.length (by omega) _ hl]
theorem eB:runesF []=[]:=rfl
theorem dH(s:Bs)(h:s≠ []):runesF s=((dec s 0).1:Int)::runesF (s.drop (dec s 0).2):=by
 have hl:0<s.length:=U4.2 h;have hd:=aO s 0 hl;unfold runesF;obtain⟨n,hn⟩:∃n,s.length=n+1:=⟨s.length-1,by omega⟩;rw[hn,runesN,I0 h,nI n _ (by simp only[N2];omega)]
theorem fC(s:Bs)(k:Nat)(h:k<s.length):runesF (s.drop k)=((dec s k).1:Int)::runesF (s.drop (k+(dec s k).2)):=by
 rw[dH _ (by intro e;have:=L9 List.length e;simp at this;omega), ← bM,T4]
theorem eC(s:Bs)(k:Nat)(h:s.length≤k):runesF (s.drop k)=[]:=by
 rw[P3 h];rfl
theorem cu:∀(n:Nat) (s:Bs),s.length≤n→(runesF s).length≤s.length:=by
 intro n;induction n with
 |zero=>intro s h;have:s=[]:=O7.1 (by omega);subst this;simp[eB]
 |succ n ih=>
  intro s h;by_cases h0:s=[]
  ·subst h0;simp[eB]
  ·have hd:=aO s 0 (U4.2 h0);rw[dH s h0];have:=ih (s.drop (dec s 0).2) (by simp only[N2];omega);simp only[N2]at this;simp only[I7];omega
theorem dI:∀(n:Nat) (s:Bs),s.length≤n→∀c∈runesF s,Rune c:=by
 intro n;induction n with
 |zero=>intro s h c hc;have:s=[]:=O7.1 (by omega);subst this;simp[eB]at hc
 |succ n ih=>
  intro s h c hc;by_cases h0:s=[]
  ·subst h0;simp[eB]at hc
  ·have hl:=U4.2 h0;have hd:=aO s 0 hl;rw[dH s h0]at hc;rcases J9.1 hc with rfl|hc
   ·exact jd s 0 hl
   ·exact ih _ (by simp only[N2];omega) c hc
def blankR(c:Int):Bool:=decide (c=9∨c=10∨c=13∨c=32∨c=160∨c=8232∨c=8233∨c=12288)
def ctlR(c:Int):Bool:=decide (c<32∨(127≤c∧c≤159))
def clnR:List Int→List Int→Bool→List Int
 | [],o,_=>o
 |c::t,o,w=>if blankR c then clnR t o (decide (0<o.length))else if ctlR c then clnR t o w else clnR t (o++(if w then [32,c]else [c])) false
def cleanR(s:Bs):List Int:=clnR (runesF s) [] false
def encs(l:List Int):Bs:=l.flatMap enc
def cleanF(s:Bs):Bs:=encs (cleanR s)
theorem iK(r:Int):1≤(enc r).length:=by
 rw[oJ];simp only[];repeat (first|split|simp)
theorem gH(l:List Int):(encs l).length≤4*l.length∧l.length≤(encs l).length:=by
 induction l with
 |nil=>simp[encs]
 |cons c t ih=>
  have h1:=eJ c;have h2:=iK c;simp only[encs,S8,J5,I7]at ih ⊢;omega
theorem gI:∀(l o:List Int) (w:Bool),(clnR l o w).length≤o.length+2*l.length
 | [],o,w=>by simp[clnR]
 |c::t,o,w=>by
  rw[clnR];by_cases hb:blankR c=true
  ·rw[I6 hb];have:=gI t o (decide (0<o.length));simp only[I7];omega
  ·rw[I0 hb];by_cases hk:ctlR c=true
   ·rw[I6 hk];have:=gI t o w;simp only[I7];omega
   ·rw[I0 hk];have:=gI t (o++(if w then [32,c]else [c])) false;have hw:(if w then [32,c]else [c]:List Int).length≤2:=(by split<;>simp);simp only[J5,I7]at this ⊢;omega
theorem fD:∀(l o:List Int) (w:Bool),(∀c∈l,Rune c)→(∀c∈o,Rune c)→∀c∈clnR l o w,Rune c
 | [],o,w,_,h=>by simpa [clnR]using h
 |c::t,o,w,hl,ho=>by
  rw[clnR];have ht:∀x∈t,Rune x:=fun x hx=>hl x (by simp[hx])
  split
  ·exact fD t o _ ht ho
  ·split
   ·exact fD t o w ht ho
   ·refine fD t _ false ht ?_;intro x hx;rcases P6.1 hx with hx|hx
    ·exact ho x hx
    ·have h32:Rune 32:=⟨by decide,by decide⟩
     split at hx
     ·simp at hx;rcases hx with rfl|rfl
      ·exact h32
      ·exact hl _ (by simp)
     ·simp at hx;subst hx;exact hl _ (by simp)
theorem pJ(s:Bs):(cleanR s).length≤2*s.length:=by
 have h1:=gI (runesF s) [] false;have h2:=cu s.length s (J1 _);simp only[M0]at h1;unfold cleanR;omega
theorem pK(s:Bs):(cleanF s).length≤8*s.length:=by
 have h1:=pJ s;have h2:=gH (cleanR s);unfold cleanF;omega
def cutN:Nat→Bs→Nat→Nat
 |0,_,_=>0
 |f+1,s,n=>if s=[]then 0 else if n<(dec s 0).2 then 0 else(dec s 0).2+cutN f (s.drop (dec s 0).2) (n-(dec s 0).2)
def cutF(s:Bs)(n:Nat):Bs:=s.take (cutN s.length s n)
def rightN:Nat→Bs→Bool
 |0,_=>true
 |f+1,s=>if s=[]then true else if (dec s 0).1=65533∧(dec s 0).2=1 then false else rightN f (s.drop (dec s 0).2)
def rightS(s:Bs):Bool:=rightN s.length s
theorem nJ:∀(f:Nat) (s:Bs),s.length≤f→rightN f s=rightN s.length s:=by
 intro f;induction f using Nat.strongRecOn with
 |ind f ih=>
  intro s hs;cases s with
  |nil=>cases f<;>rfl
  |cons b t=>
   obtain⟨f,rfl⟩:∃g,f=g+1:=⟨f-1,by simp at hs;omega⟩;have hd:=aO (b::t) 0 (by simp);simp only[I7]at hs hd ⊢;rw[rightN,rightN,I0 (show ¬(b::t)=[] by simp),I0 (show ¬(b::t)=[] by simp)];have hl:((b::t).drop (dec (b::t) 0).2).length≤t.length:=(by simp only[N2,I7];omega);rw[ih f (by omega) _ (by omega),ih t.length (by omega) _ hl]
theorem nK(s:Bs)(h:s≠ []):rightS s=if (dec s 0).1=65533∧(dec s 0).2=1 then false else rightS (s.drop (dec s 0).2):=by
 have hl:0<s.length:=U4.2 h;have hd:=aO s 0 hl;unfold rightS;obtain⟨n,hn⟩:∃n,s.length=n+1:=⟨s.length-1,by omega⟩;rw[hn,rightN,I0 h,nJ n _ (by simp only[N2];omega)]
theorem lr(s:Bs)(k:Nat)(h:k<s.length):rightS (s.drop k)=if (dec s k).1=65533∧(dec s k).2=1 then false else rightS (s.drop (k+(dec s k).2)):=by
 rw[nK _ (by intro e;have:=L9 List.length e;simp at this;omega), ← bM,T4]
theorem nM(n b0 b1 b2 b3:Nat)(h1:b1<256)(h2:b2<256)(h0:b0<256)(h:(Lib.decodeN n b0 b1 b2 b3).1=65533):(Lib.decodeN n b0 b1 b2 b3).2=1↔¬(3≤n∧b0=239∧b1=191∧b2=189):=by
 unfold Lib.decodeN at*;by_cases c1:b0<128
 ·rw[I6 c1]at *;simp only[]at *;omega
 rw[I0 c1]at*;by_cases c2:(b0/32=6∧(1<n∧b1/64=2))
 ·rw[I6 c2]at*;by_cases c3:b0%32*64+b1%64≥128
  ·rw[I6 c3]at *;simp only[]at *;omega
  ·rw[I0 c3]at *;exact⟨fun _ hc=>by omega,fun _=>rfl⟩
 rw[I0 c2]at*;by_cases c4:b0/16=14∧(1<n∧b1/64=2)∧(2<n∧b2/64=2)
 ·rw[I6 c4]at*;by_cases c5:(b0%16*4096+b1%64*64+b2%64≥2048∧(b0%16*4096+b1%64*64+b2%64<55296∨(57344≤b0%16*4096+b1%64*64+b2%64∧b0%16*4096+b1%64*64+b2%64≤1114111)))
  ·rw[I6 c5]at *;simp only[]at *;omega
  ·rw[I0 c5]at *;exact⟨fun _ hc=>by omega,fun _=>rfl⟩
 rw[I0 c4]at*;by_cases c6:b0/8=30∧(1<n∧b1/64=2)∧(2<n∧b2/64=2)∧(3<n∧b3/64=2)
 ·rw[I6 c6]at*;by_cases c7:(b0%8*262144+b1%64*4096+b2%64*64+b3%64≥65536∧(b0%8*262144+b1%64*4096+b2%64*64+b3%64<55296∨(57344≤b0%8*262144+b1%64*4096+b2%64*64+b3%64∧b0%8*262144+b1%64*4096+b2%64*64+b3%64≤1114111)))
  ·rw[I6 c7]at *;simp only[]at *;omega
  ·rw[I0 c7]at *;exact⟨fun _ hc=>by omega,fun _=>rfl⟩
 ·rw[I0 c6]at *;exact⟨fun _ hc=>by omega,fun _=>rfl⟩
theorem E3(u:Bs):Lib.hasPrefix u [239,191,189]=true↔(3≤u.length∧(u.getD 0 0).toNat=239∧(u.getD 1 0).toNat=191∧(u.getD 2 0).toNat=189):=by
 have key:∀(x:UInt8) (n:Nat),n<256→(x.toNat=n↔x=UInt8.ofNat n):=fun x n h=>by rw[← UInt8.toNat_inj,aW n h]
 match u with
 | []=>simp[Lib.hasPrefix]
 | [a]=>simp[Lib.hasPrefix]
 | [a,b]=>simp[Lib.hasPrefix]
 |a::b::c::t=>
  simp only[V9,X5,I7];rw[key a 239 (by omega),key b 191 (by omega),key c 189 (by omega)];unfold Lib.hasPrefix;simp only[List.isPrefixOf,I1,beq_iff_eq];constructor
  ·rintro⟨rfl,rfl,rfl,_⟩;exact⟨by omega,rfl,rfl,rfl⟩
  ·rintro⟨_,rfl,rfl,rfl⟩;exact⟨rfl,rfl,rfl,trivial⟩
theorem tS(s:Bs)(k:Nat)(hd:(dec s k).1=65533):(dec s k).2=1↔Lib.hasPrefix (s.drop k) [239,191,189]=false:=by
 rw[bM]at*;generalize s.drop k=u at*;rw[← Bool.not_eq_true,E3];rw[fB]at*;exact nM _ _ _ _ _ (UInt8.toNat_lt _) (UInt8.toNat_lt _) (UInt8.toNat_lt _) hd
end Go.Av
namespace Go.Av
open Go Go.Proofs Go.RowKit
attribute [local irreducible] WP WPl WPix Sat
variable (G:Nat→Option (List AVal))
theorem pL(c:Int)(h:Heap):Sat (CT G) 126 [.int .i32 c] h (fun r h'=>r=.bool (blankR c)∧h'=h):=by
 have yes:(c=9∨c=10∨c=13∨c=32∨c=160∨c=8232∨c=8233∨c=12288)→blankR c=true:=fun h=>J7 h
 have no:¬(c=9∨c=10∨c=13∨c=32∨c=160∨c=8232∨c=8233∨c=12288)→blankR c=false:=fun h=>J3 h
 refine sb [.tmp 2] Tryz.func126 ?_;intro Q hQ;refine wk trivial ?_;refine cq trivial (fun c0=>?_) (fun c0=>?_)<;>(try exact c0.elim)<;>(refine wk trivial ?_)
 ·refine cq trivial (fun d=>?_) (fun d=>?_)<;>(try exact d.elim)<;>(refine wk trivial ?_)
  ·refine ee hQ trivial ?_;refine fR (.bool _) ?_;rw[yes (by omega)]
  ·exfalso;omega
 refine cq trivial (fun c1=>?_) (fun c1=>?_)<;>(try exact c1.elim)<;>(refine wk trivial ?_)
 ·refine cq trivial (fun d=>?_) (fun d=>?_)<;>(try exact d.elim)<;>(refine wk trivial ?_)
  ·refine ee hQ trivial ?_;refine fR (.bool _) ?_;rw[yes (by omega)]
  ·exfalso;omega
 refine cq trivial (fun c2=>?_) (fun c2=>?_)<;>(try exact c2.elim)<;>(refine wk trivial ?_)
 ·refine cq trivial (fun d=>?_) (fun d=>?_)<;>(try exact d.elim)<;>(refine wk trivial ?_)
  ·refine ee hQ trivial ?_;refine fR (.bool _) ?_;rw[yes (by omega)]
  ·exfalso;omega
 refine cq trivial (fun c3=>?_) (fun c3=>?_)<;>(try exact c3.elim)<;>(refine wk trivial ?_)
 ·refine cq trivial (fun d=>?_) (fun d=>?_)<;>(try exact d.elim)<;>(refine wk trivial ?_)
  ·refine ee hQ trivial ?_;refine fR (.bool _) ?_;rw[yes (by omega)]
  ·exfalso;omega
 refine cq trivial (fun c4=>?_) (fun c4=>?_)<;>(try exact c4.elim)<;>(refine wk trivial ?_)
 ·refine cq trivial (fun d=>?_) (fun d=>?_)<;>(try exact d.elim)<;>(refine wk trivial ?_)
  ·refine ee hQ trivial ?_;refine fR (.bool _) ?_;rw[yes (by omega)]
  ·exfalso;omega
 refine cq trivial (fun c5=>?_) (fun c5=>?_)<;>(try exact c5.elim)<;>(refine wk trivial ?_)
 ·refine cq trivial (fun d=>?_) (fun d=>?_)<;>(try exact d.elim)<;>(refine wk trivial ?_)
  ·refine ee hQ trivial ?_;refine fR (.bool _) ?_;rw[yes (by omega)]
  ·exfalso;omega
 refine cq trivial (fun c6=>?_) (fun c6=>?_)<;>(try exact c6.elim)<;>(refine wk trivial ?_)
 ·refine cq trivial (fun d=>?_) (fun d=>?_)<;>(try exact d.elim)<;>(refine wk trivial ?_)
  ·refine ee hQ trivial ?_;refine fR (.bool _) ?_;rw[yes (by omega)]
  ·exfalso;omega
 refine cq trivial (fun d=>?_) (fun d=>?_)<;>(try exact d.elim)<;>(refine wk trivial ?_)
 ·refine ee hQ trivial ?_;refine fR (.bool _) ?_;rw[yes (by omega)]
 ·refine ee hQ trivial ?_;refine fR (.bool _) ?_;rw[no (by omega)]
theorem mD(c:Int)(h:Heap):Sat (CT G) 128 [.int .i32 c] h (fun r h'=>r=.bool (ctlR c)∧h'=h):=by
 refine sb [.tmp 2] Tryz.func128 ?_;intro Q hQ;refine wk trivial ?_;(first|refine gq trivial (fun g1=>?_) (fun g1=>?_)|refine pq trivial (fun g1=>?_) (fun g1=>?_))<;>(try exact g1.elim)<;>(try refine sq trivial ?_)<;>(refine wk trivial ?_)
 ·refine ee hQ trivial ?_;refine fR (.bool _) ?_;rw[show ctlR c=true from J7 (.inl g1)]
 ·(first|refine gq trivial (fun g2=>?_) (fun g2=>?_)|refine pq trivial (fun g2=>?_) (fun g2=>?_))<;>(try exact g2.elim)<;>(try refine sq trivial ?_)<;>(refine wk trivial ?_)
  ·refine ee hQ trivial ?_;refine fR (.bool _) ?_;unfold ctlR;congr 1
   rw[N8];simp;omega
  ·refine ee hQ trivial ?_;refine fR (.bool _) ?_;rw[show ctlR c=false from J3 (by omega)]
theorem mE(h j:Heap)(a:AVal)(v:Nat)(o s:Bs)(q:Nat):(bldH h (Blk.iter s q::j) a v o)[h.length+2]? =some (.iter s q):=by
 unfold bldH;rw[J4 (by omega),show h.length+2-h.length=2 by omega];rfl
theorem mF(h j:Heap)(a:AVal)(v:Nat)(o:Bs)(x y:Blk):(bldH h (x::j) a v o).set (h.length+2) y=bldH h (y::j) a v o:=by
 unfold bldH;rw[List.set_append_right _ _ (by omega),show h.length+2-h.length=2 by omega];rfl
theorem eD(s:Bs)(hs:s.length≤100000000)(h:Heap):Sat (CT G) 76 [.str s] h (fun r h'=>r=.str (cleanF s)∧h'=h):=by
 have F:= @mF;refine sb [.tmp 2] Tryz.func76 ?_;intro Q hQ;(repeat (first|refine w1 (fun K hK=>?_)|refine w2 ?_|refine w3 ?_| ((first|refine w4 ?_|refine wD ?_|refine w5 ?_|refine w6 ?_|refine w7 ?_);try refine sq F ?_)| (refine w8 ?_;refine sq F ?_;refine w9 ?_)))
 refine hK _ _ (I9 ?_);clear hK K;(repeat (first|refine w1 (fun K hK=>?_)|refine w2 ?_|refine w3 ?_| ((first|refine w4 ?_|refine wD ?_|refine w5 ?_|refine w6 ?_|refine w7 ?_);try refine sq F ?_)| (refine w8 ?_;refine sq F ?_;refine w9 ?_)))
 refine hK _ _ ⟨_,_,Weak.virtCell (p:=h.length) (v:=0) 5 1 (by omega) (by simp(disch:=first|omega| (simp only[go_sem, ↓reduceIte,seval];first|done|omega)|fail) only[go_sem, ↓reduceIte,seval,F];rfl) 1 rfl,?_⟩;clear hK K;refine wk F ?_;refine lm (fun nL tL hL=>∃(a:AVal) (v k:Nat) (out:List Int) (w:Bool),s.length-k=nL∧bldH h [.iter s k] a v (encs out)=hL∧tL 4=.bool w∧bldA a h.length∧k≤s.length∧clnR (runesF (s.drop k)) out w=cleanR s∧(encs out).length+8*(s.length-k)≤8*s.length) ((fun(a:AVal) (v k:Nat) (out:List Int) (w:Bool)=>(s.length-k:Nat)) ((.nil (.pointer none))) (0) (0) ([]) (false)) ?_ ?_
 ·refine I9 ⟨(.nil (.pointer none)),0,0,[],false,rfl,by simp[bldH,bldR,bufR,encs],?_,.inl rfl,by omega,rfl,by simp[encs]⟩;all_goals try exact zZz F
 rintro _ s2 h' ⟨a,v,k,out,w,rfl,rfl,e4,ha,hk,hv,hl⟩ K2 hK2;simp only[ah,ar,Nat.reduceEqDiff, ↓reduceIte]at e4;have F:=F2 F e4;refine wk F ?_;refine eV (mE _ _ _ _ _ _ _) (fun hlt=>?_) (fun hge=>?_)
 ·have hR:=jd s k hlt;have hp:=aO s k hlt;rw[fC s k hlt,clnR]at hv;rw[show Utf8.decode ⟨s.toArray⟩ k=dec s k from rfl];generalize dec s k=d at*;obtain⟨c,m⟩:=d;simp only[]at hR hp hv ⊢;try refine sq F ?_
  refine wk F ?_;refine kq F (pL G c _) ?_;refine cq F (fun c1=>?_) (fun c1=>?_)<;>(try exact c1.elim)<;>(refine wk F ?_)
  ·rw[I6 c1]at hv;refine kq F (vr G a h [.iter s (k+m)] v (encs out)) ?_;have ho:decide (((encs out).length:Int)>0)=decide (0<out.length):=by
    have:=gH out;rw[N8];simp only[I8];omega
   have F:=F2 F ho;(try refine sq F ?_);refine hK2 _ _ _ (I9 ⟨a,v,k+m,out,decide (0<out.length),rfl,az,?_,ha,by omega,hv,by omega⟩) (by omega);all_goals try exact zZz F
  ·rw[I0 (by simp[c1])]at hv;refine kq F (mD G c _) ?_;refine cq F (fun c2=>?_) (fun c2=>?_)<;>(try exact c2.elim)<;>(refine wk F ?_)
   ·rw[I6 c2]at hv;refine hK2 _ _ _ (I9 ⟨a,v,k+m,out,w,rfl,az,?_,ha,by omega,hv,by omega⟩) (by omega);all_goals try exact zZz F
   ·rw[I0 (by simp[c2])]at hv;have he:=eJ c;have e1:encs (out++[32,(c:Int)])=encs out++[32]++enc c:=by
     simp only[encs,List.flatMap_append,S8,List.flatMap_nil,M6,N0];rfl
    have e2:encs (out++[(c:Int)])=encs out++enc c:=by
     simp only[encs,List.flatMap_append,S8,List.flatMap_nil,M6]
    refine cq F (fun c3=>?_) (fun c3=>?_)<;>(try exact c3.elim)<;>(refine wk F ?_)
    ·rw[I6 c3]at hv;refine kq F (lM G a h [.iter s (k+m)] v (encs out) 32 ha (by omega)) ?_;refine kq F (ef G (.hp h.length 0 0 0) c hR h [.iter s (k+m)] (v+1) (encs out++[32]) (.inr rfl) (by simp only[J5,I7,M0];omega)) ?_;refine hK2 _ _ _ (I9 ⟨(.hp h.length 0 0 0),v+1+1,k+m,out++[32,(c:Int)],false,rfl,by rw[e1];simp,?_,.inr rfl,by omega,hv,by rw[e1];simp only[J5,I7,M0];omega⟩) (by omega);all_goals try exact zZz F
    ·rw[I0 (by simp[c3])]at hv;refine kq F (ef G a c hR h [.iter s (k+m)] v (encs out) ha (by omega)) ?_;refine hK2 _ _ _ (I9 ⟨(.hp h.length 0 0 0),v+1,k+m,out++[(c:Int)],false,rfl,by rw[e2],?_,.inr rfl,by omega,hv,by rw[e2];simp only[J5];omega⟩) (by omega);all_goals try exact zZz F
 ·rw[eC s k (by omega)]at hv;try refine sq F ?_
  refine wk F ?_;refine(jK G a h [.iter s k] v (encs out)).mono ?_;rintro r h' ⟨rfl,b2,rfl⟩;try refine sq F ?_
  refine wk F ?_;refine ee hQ F ?_;exact Fin.plainE (j:=[bldR a (h.length+1) v (encs out),b2,.iter s k]) (by simp) (.str _) ⟨L9 AVal.str (by unfold cleanF;rw[← hv];rfl),rfl⟩
theorem ru:∀(f:Nat) (s:Bs) (n:Nat),s.length≤f→cutN f s n=cutN s.length s n:=by
 intro f;induction f using Nat.strongRecOn with
 |ind f ih=>
  intro s n hs;cases s with
  |nil=>cases f<;>rfl
  |cons b t=>
   obtain⟨f,rfl⟩:∃g,f=g+1:=⟨f-1,by simp at hs;omega⟩;have hd:=aO (b::t) 0 (by simp);simp only[I7]at hs hd ⊢;have hl:((b::t).drop (dec (b::t) 0).2).length≤t.length:=(by simp only[N2,I7];omega);rw[cutN,cutN,I0 (show ¬(b::t)=[] by simp),I0 (show ¬(b::t)=[] by simp),ih f (by omega) _ _ (by omega),ih t.length (by omega) _ _ hl]
def cutA(s:Bs)(k n:Nat):Nat:=cutN (s.drop k).length (s.drop k) n
theorem gK(s:Bs)(k n:Nat)(h:s.length≤k):cutA s k n=0:=by unfold cutA;rw[P3 h];rfl
theorem kG(s:Bs)(k n:Nat)(h:k<s.length):cutA s k n=if n<(dec s k).2 then 0 else(dec s k).2+cutA s (k+(dec s k).2) (n-(dec s k).2):=by
 have hd:=aO s k h;have hl:(s.drop k).length=(s.length-k-1)+1:=by rw[N2];omega
 unfold cutA;rw[hl,cutN,I0 (by intro e;rw[e]at hl;simp at hl), ← bM,T4,ru (s.length-k-1) _ _ (by simp only[N2];omega)]
theorem vu(s:Bs):∀(f k n:Nat),s.length≤k+f→cutA s k n≤n∧cutA s k n≤s.length-k:=by
 intro f;induction f with
 |zero=>intro k n h;rw[gK s k n (by omega)];omega
 |succ f ih=>
  intro k n h;rcases T9 k s.length with h1|h1
  ·have hd:=aO s k h1;rw[kG s k n h1];split
   ·omega
   ·have:=ih (k+(dec s k).2) (n-(dec s k).2) (by omega);omega
  ·rw[gK s k n h1];omega
theorem tT(s:Bs):∀(f k n:Nat),s.length≤k+f→s.length-k≤n→cutA s k n=s.length-k:=by
 intro f;induction f with
 |zero=>intro k n h _;rw[gK s k n (by omega)];omega
 |succ f ih=>
  intro k n h hn;rcases T9 k s.length with h1|h1
  ·have hd:=aO s k h1;rw[kG s k n h1,I0 (by omega),ih _ _ (by omega) (by omega)];omega
  ·rw[gK s k n h1];omega
theorem tU(s:Bs)(n:Nat)(hs:s.length≤1073741824)(hn:n≤1073741824)(h:Heap):Sat (CT G) 163 [.str s,.int .i64 n] h (fun r h'=>r=.str (cutF s n)∧h'=h):=by
 skip
 refine sb [.tmp 4] Tryz.func163 ?_;intro Q hQ;(repeat (first|refine w1 (fun K hK=>?_)|refine w2 ?_|refine w3 ?_| ((first|refine w4 ?_|refine wD ?_|refine w5 ?_|refine w6 ?_|refine w7 ?_);try refine sq trivial ?_)| (refine w8 ?_;refine sq trivial ?_;refine w9 ?_)| ((first|refine hK _ _ (w0 ?_)| (clear hK K;refine hK _ _ (w0 ?_))| (clear hK K;clear hK K;refine hK _ _ (w0 ?_)));clear hK K)))
 have tail:∀(t':Env) (e pos:Nat),t' 0=.str s→t' 1=.int .i64 n→t' 5=.int .i64 e→e≤s.length→(n<s.length→e=cutN s.length s n)→K t' (h++[.iter s pos]):=by
  intro t' e pos e0 e1 e5 he hx;refine hK _ _ (I9 ?_);clear hK K;have F:=F3 e0 e1 e5;(repeat (first|refine w1 (fun K hK=>?_)|refine w2 ?_|refine w3 ?_| ((first|refine w4 ?_|refine wD ?_|refine w5 ?_|refine w6 ?_|refine w7 ?_);try refine sq F ?_)| (refine w8 ?_;refine sq F ?_;refine w9 ?_)| ((first|refine hK _ _ (w0 ?_)| (clear hK K;refine hK _ _ (w0 ?_))| (clear hK K;clear hK K;refine hK _ _ (w0 ?_)));clear hK K)))
  refine cq F (fun c1=>?_) (fun c1=>?_)<;>(try exact c1.elim)<;>((repeat (first|refine w1 (fun K hK=>?_)|refine w2 ?_|refine w3 ?_| ((first|refine w4 ?_|refine wD ?_|refine w5 ?_|refine w6 ?_|refine w7 ?_);try refine sq F ?_)| (refine w8 ?_;refine sq F ?_;refine w9 ?_)| ((first|refine hK _ _ (w0 ?_)| (clear hK K;refine hK _ _ (w0 ?_))| (clear hK K;clear hK K;refine hK _ _ (w0 ?_)));clear hK K))))
  ·refine ee hQ F ?_;refine fR (.str _) ?_;have:=tT s s.length 0 n (by omega) (by omega);unfold cutA at this;simp only[U6]at this;unfold cutF;rw[this];simp
  ·refine ee hQ F ?_;refine fR (.str _) ?_;unfold cutF;rw[hx (by omega)]
 refine lm (fun nL tL hL=>∃(en k:Nat),s.length-k=nL∧h++[.iter s k]=hL∧tL 5=.int .i64 en∧k≤s.length∧en≤k∧(k≤n→k+cutA s k (n-k)=cutN s.length s n)∧(n<k→en=cutN s.length s n)) ((fun(en k:Nat)=>(s.length-k:Nat)) (0) (0)) ?_ ?_
 ·refine I9 ⟨0,0,rfl,az,?_,by omega,by omega,fun _=>by unfold cutA;simp,fun h=>by omega⟩;all_goals try exact zZz trivial
 rintro _ s2 h' ⟨en,k,rfl,rfl,e5,hk,he,hc,hc2⟩ K2 hK2;simp only[ah,ar,Nat.reduceEqDiff, ↓reduceIte]at e5;have F:=e5;(repeat (first|refine w1 (fun K hK=>?_)|refine w2 ?_|refine w3 ?_| ((first|refine w4 ?_|refine wD ?_|refine w5 ?_|refine w6 ?_|refine w7 ?_);try refine sq F ?_)| (refine w8 ?_;refine sq F ?_;refine w9 ?_)| ((first|refine hK _ _ (w0 ?_)| (clear hK K;refine hK _ _ (w0 ?_))| (clear hK K;clear hK K;refine hK _ _ (w0 ?_)));clear hK K)))
 refine eV (kE _ _ _ _) (fun hlt=>?_) (fun hge=>?_)
 ·have hp:=aO s k hlt;have hca:=kG s k (n-k) hlt;rw[show Utf8.decode ⟨s.toArray⟩ k=dec s k from rfl];generalize dec s k=d at*;obtain⟨c,m⟩:=d;simp only[]at hp hca ⊢;try refine sq F ?_
  (repeat (first|refine w1 (fun K hK=>?_)|refine w2 ?_|refine w3 ?_| ((first|refine w4 ?_|refine wD ?_|refine w5 ?_|refine w6 ?_|refine w7 ?_);try refine sq F ?_)| (refine w8 ?_;refine sq F ?_;refine w9 ?_)| ((first|refine hK _ _ (w0 ?_)| (clear hK K;refine hK _ _ (w0 ?_))| (clear hK K;clear hK K;refine hK _ _ (w0 ?_)));clear hK K)))
  refine cq F (fun c1=>?_) (fun c1=>?_)<;>(try exact c1.elim)<;>((repeat (first|refine w1 (fun K hK=>?_)|refine w2 ?_|refine w3 ?_| ((first|refine w4 ?_|refine wD ?_|refine w5 ?_|refine w6 ?_|refine w7 ?_);try refine sq F ?_)| (refine w8 ?_;refine sq F ?_;refine w9 ?_)| ((first|refine hK _ _ (w0 ?_)| (clear hK K;refine hK _ _ (w0 ?_))| (clear hK K;clear hK K;refine hK _ _ (w0 ?_)));clear hK K))))
  ·refine tail _ en (k+m) ?_ ?_ ?_ (by omega) (fun _=>hc2 (by omega))
   ·exact zq F
   ·exact zq F
   ·exact zq F
  ·have hc':=hc (by omega);rw[hca]at hc';refine hK2 _ _ _ (I9 ⟨k,k+m,rfl,az,?_,by omega,by omega,fun hle=>by rw[I0 (by omega)]at hc';rw[← hc',show n-(k+m)=n-k-m by omega];omega,fun hgt=>by rw[I6 (by omega)]at hc';omega⟩) (by omega);all_goals try exact zZz F
 ·try refine sq F ?_
  (repeat (first|refine w1 (fun K hK=>?_)|refine w2 ?_|refine w3 ?_| ((first|refine w4 ?_|refine wD ?_|refine w5 ?_|refine w6 ?_|refine w7 ?_);try refine sq F ?_)| (refine w8 ?_;refine sq F ?_;refine w9 ?_)| ((first|refine hK _ _ (w0 ?_)| (clear hK K;refine hK _ _ (w0 ?_))| (clear hK K;clear hK K;refine hK _ _ (w0 ?_)));clear hK K)))
  refine tail _ en k ?_ ?_ ?_ (by omega) (fun _=>hc2 (by omega))
  ·exact zq F
  ·exact zq F
  ·exact zq F
theorem jM(s:Bs)(hs:s.length≤1073741824)(h:Heap):Sat (CT G) 75 [.str s] h (fun r h'=>r=.bool (rightS s)∧h'=h):=by
 refine sb [.tmp 2] Tryz.func75 ?_;intro Q hQ;refine wk trivial ?_;refine lm (fun nL tL hL=>∃(k:Nat),s.length-k=nL∧h++[.iter s k]=hL∧k≤s.length∧rightS (s.drop k)=rightS s) ((fun(k:Nat)=>(s.length-k:Nat)) (0)) ?_ ?_
 ·refine I9 ⟨0,rfl,az,by omega,rfl⟩;all_goals try exact zZz trivial
 rintro _ s2 h' ⟨k,rfl,rfl,hk,hc⟩ K2 hK2;refine wk trivial ?_;refine eV (kE _ _ _ _) (fun hlt=>?_) (fun hge=>?_)
 ·have hp:=aO s k hlt;have hca:=lr s k hlt;have h3:=tS s k;rw[hc]at hca;rw[show Utf8.decode ⟨s.toArray⟩ k=dec s k from rfl];generalize dec s k=d at*;obtain⟨c,m⟩:=d;simp only[]at hp hca h3 ⊢;try refine sq trivial ?_
  refine wk trivial ?_;(first|refine gq trivial (fun g1=>?_) (fun g1=>?_)|refine pq trivial (fun g1=>?_) (fun g1=>?_))<;>(try exact g1.elim)<;>(try refine sq trivial ?_)<;>(refine wk trivial ?_)
  ·have g0:c=65533:=(by omega);have h4:=h3 g0;refine kq trivial (gX G (s.drop k) [239,191,189] _) ?_;refine cq trivial (fun g2=>?_) (fun g2=>?_)<;>(try exact g2.elim)<;>(refine wk trivial ?_)
   ·refine ee hQ trivial ?_;refine fR (.bool _) ?_;rw[hca,I6 ⟨g0,h4.2 (by simpa using g2)⟩]
   ·refine hK2 _ _ _ (I9 ⟨k+m,rfl,az,by omega,by rw[hca,I0];rintro⟨_,h5⟩;have:=h4.1 h5;rw[this]at g2;cases g2⟩) (by omega);all_goals try exact zZz trivial
  ·refine hK2 _ _ _ (I9 ⟨k+m,rfl,az,by omega,by rw[hca,I0];rintro⟨h5,_⟩;exact g1 (by omega)⟩) (by omega);all_goals try exact zZz trivial
 ·rw[P3 (by omega)]at hc;try refine sq trivial ?_
  refine wk trivial ?_;refine ee hQ trivial ?_;refine fR (.bool _) ?_;rw[← hc];rfl
def shortAt(s:List UInt8):Nat→List UInt8
 |0=>s
 |k+1=>if s[k]? =some 58 then s.drop (k+1)else shortAt s k
def short(s:List UInt8):List UInt8:=shortAt s s.length
theorem vw{b:UInt8}{k:Nat}(hk:k<256):((b.toNat:Int)=(k:Nat))↔b=UInt8.ofNat k:=by
 constructor
 ·intro h;have:b.toNat=k:=by omega
  rw[← this];simp
 ·rintro rfl;simp[Nat.mod_eq_of_lt hk]
def attrF:List At→Bs→Bs×Bool
 | [],_=>([],false)
 |a::l,n=>if a.1=n then(a.2,true)else attrF l n
mutual
def deep:Elem→Nat→Nat
 | .mk _ _ _ k,d=>if 40≤d then 40 else deepL k d d
def deepL:List Elem→Nat→Nat→Nat
 | [],_,n=>n
 |k::l,d,n=>deepL l d (if n<deep k (d+1)then deep k (d+1)else n)
end
theorem tV{h0 h1 pre post:Heap}{e n v q:Nat}{rows:List AVal}(hh:h1=pre++ .row e n v rows::post)(hq:q=pre.length)(hp:h0.length≤q)(hc:∀r∈rows,Clo h0.length r)(hs:∀r∈rows,∀c∈r.cells,c.sto=true):
  Frz h1 h0.length (.hs q v 0 rows.length true) (.sl n rows):=by
 subst hh;subst hq;have:=Frz.hs (h:=pre++ .row e n v rows::post) (n:=h0.length) pre.length v 0 rows.length true e n rows rows hp (by simp[getRow]) (by simp) rfl
   (fun i r s hr hs'=>by rw[hr]at hs';cases hs';exact .clo _ (hc r (J2 hr)))
   (fun i r s hr hs'=>by rw[hr]at hs';cases hs';exact⟨rfl,fun j c d hj hd=>hs r (J2 hr) d (J2 hd)⟩)
   (fun i r s j c d hr hs' hj hd=>by rw[hr]at hs';cases hs';rw[hj]at hd;cases hd;exact .clo _ ((hc r (J2 hr)).cells c (J2 hj)))
 simpa using this
theorem Elem.av_sto(e:Elem):∀c∈e.av.cells,c.sto=true:=by
 rw[Elem.av_cells];intro c hc;simp only[J9,Q7,or_false]at hc;rcases hc with rfl|rfl|rfl|rfl<;>rfl
theorem rz{h0 h1 pre post:Heap}{e v q:Nat}(l:List Elem)(hh:h1=pre++ .row e 4 v (l.map Elem.av)::post)(hq:q=pre.length)(hp:h0.length≤q):Frz h1 h0.length (.hs q v 0 l.length true) (.sl 4 (l.map Elem.av)):=by
 have:=tV (h0:=h0) hh hq hp (fun r hr=>by obtain⟨a,_,rfl⟩:=J8.1 hr;exact Elem.clo _ a) (fun r hr=>by obtain⟨a,_,rfl⟩:=J8.1 hr;exact a.av_sto);simpa using this
def kidsF(e:Elem)(n:Bs):List Elem:=e.kids.filter fun k=>decide (short k.name=n)
end Go.Av
namespace Go.Av
open Go Go.Proofs Go.RowKit
inductive Outl where
 |mk (title url:Bs) (kids:List Outl)
 deriving Inhabited
namespace Outl
def title:Outl→Bs| .mk t _ _=>t
def url:Outl→Bs| .mk _ u _=>u
def kids:Outl→List Outl| .mk _ _ k=>k
end Outl
mutual
def Outl.av:Outl→AVal
 | .mk t u k=>.agg [.str t,.str u,.sl 3 (ovs k)]
def ovs:List Outl→List AVal
 | []=>[]
 |e::l=>e.av::ovs l
end
mutual
def Outl.sz:Outl→Nat
 | .mk t u k=>1+t.length+u.length+okidsz k
def okidsz:List Outl→Nat
 | []=>0
 |e::l=>e.sz+okidsz l
end
end Go.Av
namespace Go.Av
open Go Go.Proofs Go.RowKit
attribute [local irreducible] WP WPl WPix Sat
variable (G:Nat→Option (List AVal))
end Go.Av
namespace Go.Av
open Go.RowKit
section
variable {C:Ctx} {t:Env} {h:Heap}
def detGo(md:Region.Mode)(ops:Array Oper):Nat→Array Bool→Option (List Nat)
 |0,_=>some []
 |f+1,L=>match Region.ready md ops L with
  | [i]=>(detGo md ops f (L.setIfInBounds i true)).map (i:: ·)
  |_=>none
theorem mG{ops:Array Oper}{Q:Exit→Env→Heap→Prop}{md:Region.Mode}:∀(f:Nat) (L:Array Bool) (idx:List Nat) (sub:List Oper) (t:Env) (h:Heap),detGo md ops f L=some idx→idx.map (fun i=>ops[i]?)=sub.map some→
  WPl C ops Q sub t h→RestM C ops Q md f L t h:=by
 intro f;induction f with
 |zero=>
  intro L idx sub t h hd hs g n;simp only[detGo,K8]at hd;subst hd;have:sub=[]:=by simpa using hs.symm
  subst this;simp only[Region.linearise.go,List.reverse_nil,WPix];exact g
 |succ f ih=>
  intro L idx sub t h hd hs g n;simp only[detGo]at hd;split at hd
  ·rename_i i hr;obtain⟨idx',hd',rfl⟩:=K9.1 hd;cases sub with
   |nil=>simp at hs
   |cons o sub=>
    simp only[L5,X0]at hs;have hi:(Region.ready md ops L)[n%(Region.ready md ops L).length]? =some i:=by
     rw[hr,List.length_singleton,Nat.mod_one];rfl
    rw[cK md ops f n L hi];simp only[WPix,hs.1];simp only[WPl]at g;exact dG g fun t' h' g'=>ih _ idx' sub t' h' hd' hs.2 g' _
  ·cases hd
theorem mH{l:List Oper}{k n:Nat}(h:k+n≤l.length):(List.range' k n).map (fun i=>l.toArray[i]?)=((l.drop k).take n).map some:=by
 refine Q5 fun i=>?_
 simp only[K5];by_cases hi:i<n
 ·rw[K7 hi,N4,List.getElem?_range' (by omega)];simp only[O6,Q6];have:k+i<l.length:=by omega
  simp[I3 this]
 ·rw[N5 (by simp;omega),N5 (by simp;omega)];rfl
inductive OT where
 |nil
 |one (i:Nat) (s:OT)
 |two (i:Nat) (s:OT) (j:Nat) (u:OT)
def OT.ok(ops:Array Oper):Nat→Array Bool→OT→Bool
 |0,_,.nil=>true
 |f+1,L,.one i s=>Region.ready .any ops L==[i]&&OT.ok ops f (L.setIfInBounds i true) s
 |f+1,L,.two i s j u=>Region.ready .any ops L==[i,j]&&(OT.ok ops f (L.setIfInBounds i true) s&&OT.ok ops f (L.setIfInBounds j true) u)
 |_,_,_=>false
def WPt(C:Ctx)(ops:Array Oper)(Q:Exit→Env→Heap→Prop):OT→Env→Heap→Prop
 | .nil,t,h=>Q .normal t h
 | .one i s,t,h=>WPl C ops (fun _ t' h'=>WPt C ops Q s t' h') (ops[i]?).toList t h
 | .two i s j u,t,h=>WPl C ops (fun _ t' h'=>WPt C ops Q s t' h') (ops[i]?).toList t h∧WPl C ops (fun _ t' h'=>WPt C ops Q u t' h') (ops[j]?).toList t h
theorem OT.sound{ops:Array Oper}{Q:Exit→Env→Heap→Prop}:∀(f:Nat) (L:Array Bool) (tr:OT) (t:Env) (h:Heap),OT.ok ops f L tr=true→WPt C ops Q tr t h→RestM C ops Q .any f L t h:=by
 intro f;induction f with
 |zero=>
  intro L tr t h ho g n;cases tr with
  |nil=>simp only[Region.linearise.go,List.reverse_nil,WPix];exact g
  |_=>simp[OT.ok]at ho
 |succ f ih=>
  intro L tr t h ho g n;have step:∀(i:Nat) (s:OT),(Region.ready .any ops L)[n%(Region.ready .any ops L).length]? =some i→OT.ok ops f (L.setIfInBounds i true) s=true→WPl C ops (fun _ t' h'=>WPt C ops Q s t' h') (ops[i]?).toList t h→
    WPix C ops Q (Region.linearise.go .any ops (f+1) n L []) t h:=fun i s hi hs hg=>by
   rw[cK .any ops f n L hi];simp only[WPix];have hmem:=J2 hi;obtain⟨_,o,ho,_⟩:=mem_ready.1 hmem;simp only[ho,Option.toList]at hg ⊢;simp only[WPl]at hg;exact dG hg fun t' h' g'=>ih _ s t' h' hs g' _
  cases tr with
  |nil=>simp[OT.ok]at ho
  |one i s=>
   simp only[OT.ok,I1,beq_iff_eq]at ho;exact step i s (by rw[ho.1,List.length_singleton,Nat.mod_one];rfl) ho.2 g
  |two i s j u=>
   simp only[OT.ok,I1,beq_iff_eq]at ho;have hn:n%2=0∨n%2=1:=(by omega);rcases hn with hn|hn
   ·exact step i s (by rw[ho.1];show [i,j][n%2]? =_;rw[hn];rfl) ho.2.1 g.1
   ·exact step j u (by rw[ho.1];show [i,j][n%2]? =_;rw[hn];rfl) ho.2.2 g.2
theorem dn{id:Nat}{l:List Oper}{Q:Exit→Env→Heap→Prop}(k:Nat)(tr:OT)(hok:(preOk l.toArray k&&decide (k≤l.length))=true)(hm:C.P.follows .mixedOrders=true)
  (hT:OT.ok l.toArray (l.length-k) (listK l.length k) tr=true)
  (hh:WPp C l.toArray (l.take k) t h fun t'=>WPt C l.toArray Q tr t' h):WP C (.region id l.toArray true) Q t h:=by
 simp only[I1,I8]at hok;have D:=eA hok.1;obtain⟨V,hv,hK⟩:=bL _ _ hh;have hlen:(l.take k).length=k:=by simp;omega
 rw[hlen]at hK;have rT:=OT.sound (ops:=l.toArray) (Q:=Q) _ _ tr _ h hT hK;have main:∀n,WPix C l.toArray Q (Region.linearise .any l.toArray n) t h:=fun n=>by
  unfold Region.linearise;refine cX D .any D.less (by simp;omega) (V:=V) (t0:=t) (fun _=>True) (fun i o hi _=>hv i o hi) (by simpa using rT) _ _ _ _ (by simp) ?_ (fun j oj hj hl=>?_) (fun j hj hl=>?_) (fun _ _ _=>trivial) (Ag.start _ _ _ _ fun j hj=>?_)
  ·unfold left;have:(List.range l.toArray.size).filter (fun i=> !(Array.replicate l.toArray.size false).getD i true)=List.range l.toArray.size:=by
    rw[R1];intro i hi;have:=P0.1 hi;simp at this ⊢;simp[this]
   rw[this,V5]
  ·have h8:=(L6.1 hj).1;simp at h8 hl;simp[h8]at hl
  ·simp at hj hl;simp[hj]at hl
  ·have:j<l.length:=by omega
   simp[this]
 show ∀tp,WPix C l.toArray Q (Region.schedule (C.P.follows .mixedOrders) l.toArray tp) t h;intro tp;unfold Region.schedule;rw[hm];simp only[Bool.true_or,if_true];exact main _
def agrL:List Nat→Env→Env→Prop
 | [],_,_=>True
 |d::ds,s,t=>s d=t d∧agrL ds s t
theorem je:∀{ds:List Nat} {s t:Env},agrL ds s t→∀d∈ds,s d=t d
 | [],_,_,_,d,h=>by cases h
 |e::ds,s,t,g,d,h=>by
  rcases J9.1 h with rfl|h
  ·exact g.1
  ·exact je g.2 d h
theorem kH{d:Nat}:∀{l:List Oper} {i:Nat} {o:Oper},l[i]? =some o→o.dst=some d→d∈wrOps l
 | [],i,o,h,_=>by simp at h
 |a::l,0,o,h,hd=>by simp at h;subst h;unfold wrOps;rw[hd];simp
 |a::l,i+1,o,h,hd=>by
  have:=kH (l:=l) (i:=i) (o:=o) (by simpa using h) hd;unfold wrOps;split<;>simp[this]
theorem bn{id:Nat}{l:List Oper}{Q:Exit→Env→Heap→Prop}(k u:Nat)(oe:Oper)(hoe:l[k]? =some oe)(hok:(preOk l.toArray (k+1)&&decide (u≤k))=true)(hm:C.P.follows .mixedOrders=true)
  (hu:((List.range k).all fun i=>decide (i<u)||((Region.before l.toArray).getD k 0).testBit i)=true)(hdst:((l.take u).all fun o=>o.dst.isSome)=true)
  (hA:detGo .any l.toArray (l.length-(k+1)) (listK l.length (k+1))=some (List.range' (k+1) (l.length-(k+1))))
  (hh:WPp C l.toArray (l.take k) t h fun t'=>wpOperV C l.toArray oe t' h fun v h'=>
   (WPp C l.toArray (l.take u) t h' fun t''=>agrL (wrOps (l.take u)) t'' t')∧WPl C l.toArray Q (l.drop (k+1)) (put t' oe.dst v) h'):WP C (.region id l.toArray true) Q t h:=by
 simp only[I1,I8]at hok;have D:=eA hok.1;have hkl:=(f9.1 hoe).1;obtain⟨V,hv,hK⟩:=bL _ _ hh;have hlen:(l.take k).length=k:=by simp;omega
 rw[hlen]at hK;have hTT:∀i,i≤k→Av.T V (l.take k) t i=Av.T V l t i:=fun i hi=>fX V V k (fun _ _=>rfl) _ _ _ _ hi (by rw[X7];congr 1;omega) (by rw[hlen];exact hi) (by omega)
 rw[hTT k (J1 _)]at hK;have main:∀n,WPix C l.toArray Q (Region.linearise .any l.toArray n) t h:=fun n=>by
  unfold Region.linearise;refine jI D .any D.less (by simp;omega) (V:=V) (t0:=t) (oe:=oe) (by simpa using hoe) (fun i o hi ho=>?_) ?_ _ _ _ _ (by simp) ?_ (fun j oj hj hl=>?_) (fun j hj hl=>?_) (Ag.start _ _ _ _ fun j hj=>?_)
  ·have:=hv i o (by rw[P9,I6 hi];simpa using ho);rw[hTT i (by omega)]at this;exact this
  ·refine bD hK fun v h' ⟨h1,h2⟩=>⟨fun i o hi ho hc=>?_,?_⟩
   ·have hiu:i<u:=by
     have:=M3.1 hu i (P0.2 hi);rw[hc]at this;simpa using this
    obtain⟨V2,hv2,hK2⟩:=bL _ _ h1;have hlu:(l.take u).length=u:=(by simp;omega);rw[hlu]at hK2;have hVV:∀j,j<u→V2 j=V j:=fun j hj=>by
     have hoj:l[j]? =some (l[j]'(by omega)):=I3 _;have hoj':(l.take u)[j]? =some (l[j]'(by omega)):=(by rw[P9,I6 hj];exact hoj);obtain⟨d,hdd⟩:=K6.1 (M3.1 hdst _ (J2 hoj'));have e:=je hK2 d (kH hoj' hdd);have a1:=D.ag_T V2 t (by simp;omega) u (by omega);have a2:=D.ag_T V t (by simp;omega) k (by omega);have hoa:l.toArray[j]? =some (l[j]'(by omega)):=(by simp);have b1:=a1.1 j _ d (by omega) hoa (by simpa using hj) hdd;have b2:=a2.1 j _ d (by omega) hoa (by simp;omega) hdd;have c1:Av.T V2 (l.toArray.toList.take (k+1)) t u=Av.T V2 (l.take u) t u:=fX V2 V2 u (fun _ _=>rfl) _ _ _ _ (J1 _) (by simp[X7];try omega) (by simp;omega) (by omega);have c2:Av.T V (l.toArray.toList.take (k+1)) t k=Av.T V l t k:=fX V V k (fun _ _=>rfl) _ _ _ _ (J1 _) (by simp[X7]) (by simp;omega) (by omega);rw[c1]at b1;rw[c2]at b2;rw[← b1, ← b2,e]
    have:=hv2 i o (by rw[P9,I6 hiu];simpa using ho);rw[hVV i hiu]at this;have c3:Av.T V2 (l.take u) t i=Av.T V l t i:=fX V V2 u hVV _ _ _ _ (by omega) (by rw[X7];congr 1;omega) (by omega) (by omega);rw[c3]at this;exact this
   ·have:=mG (ops:=l.toArray) (Q:=Q) _ _ _ (l.drop (k+1)) _ h' hA (by rw[mH (by omega),J6 (by simp)]) h2;simpa using this
  ·unfold left;have:(List.range l.toArray.size).filter (fun i=> !(Array.replicate l.toArray.size false).getD i true)=List.range l.toArray.size:=by
    rw[R1];intro i hi;have:=P0.1 hi;simp at this ⊢;simp[this]
   rw[this,V5]
  ·have h8:=(L6.1 hj).1;simp at h8 hl;simp[h8]at hl
  ·simp at hj hl;simp[hj]at hl
  ·have:j<l.length:=by omega
   simp[this]
 show ∀tp,WPix C l.toArray Q (Region.schedule (C.P.follows .mixedOrders) l.toArray tp) t h;intro tp;unfold Region.schedule;rw[hm];simp only[Bool.true_or,if_true];exact main _
attribute [go_sem] agrL
theorem bR{ops:Array Oper}{Q:Exit→Env→Heap→Prop}(g:Q .normal t h):WPt C ops Q .nil t h:=g
theorem bS{ops:Array Oper}{Q:Exit→Env→Heap→Prop}{i:Nat}{s:OT}{o:Oper}(ho:ops[i]? =some o)(g:WPl C ops (fun _ t' h'=>WPt C ops Q s t' h') [o] t h):WPt C ops Q (.one i s) t h:=by
 simp only[WPt,ho];exact g
theorem bT{ops:Array Oper}{Q:Exit→Env→Heap→Prop}{i j:Nat}{s u:OT}{o p:Oper}(ho:ops[i]? =some o)(hp:ops[j]? =some p)(g:WPl C ops (fun _ t' h'=>WPt C ops Q s t' h') [o] t h)
  (g':WPl C ops (fun _ t' h'=>WPt C ops Q u t' h') [p] t h):WPt C ops Q (.two i s j u) t h:=by
 simp only[WPt,ho,hp];exact⟨g,g'⟩
end
section
variable {C:Ctx} {B n:Nat} {S:Addr→Prop} {μ:Map} {h:Heap} {w:World} {t:Env} {a:Act}
def LetP(S:Addr→Prop)(μ:Map)(w:World)(p:Nat):Addr→Prop:=fun a=>S a∨∃m,μ[p]? =some m∧m.blk=some a.block∧(w.cell? a).isSome=true
theorem Rep.letgo(f:Fits C B S μ h w){p v e m:Nat}{rows:List AVal}(hg:getRow h p v=some (e,m,rows)){μ':Map}(st:Step B S μ w (LetP S μ w p) μ' w)
  {off len:Nat}{room:Bool}{val:Value}(hlen:off+len≤rows.length)(r:Rep w S μ (.hs p v off len room) val):Rep w (LetP S μ w p) μ' (.sl m ((rows.drop off).take len)) val:=by
 obtain⟨mb,hm,hf⟩:=f.row hg;have hms:=hf.hsize;rcases r.hs_now hm hf.hver with⟨hb,rfl,rfl,rfl⟩| ⟨b,hb,hcap,rfl⟩
 ·simpa using Rep.sl0 (w:=w) (S:=LetP S μ w p) (μ:=μ') m none 0
 ·by_cases hl0:len=0
  ·subst hl0;simpa using Rep.sl0 (w:=w) (S:=LetP S μ w p) (μ:=μ') m _ _
  ·obtain⟨cur,hheap,hcs,hle,hmax,fl⟩:=hf.flat hb;have hes:((rows.drop off).take len).length=len:=(by simp;omega);have hget:∀(i:Nat) (s:AVal),((rows.drop off).take len)[i]? =some s→rows[off+i]? =some s:=by
    intro i s hi;have hlt:=(f9.1 hi).1;rw[hes]at hlt;rw[K7 hlt,N4]at hi;exact hi
   have e1:∀i j,(off+i)*m+j=off*m+(i*m+j):=fun i j=>by rw[P8];omega
   have key:=Rep.sl (w:=w) (S:=LetP S μ w p) (μ:=μ') m ((rows.drop off).take len) b (off*mb.size) (if room then mb.cap-off else len)
    (fun i j=>cur.getD (off*m+(i*m+j)) undef) (by intro e;rw[e]at hes;simp at hes;omega) (by rw[hes];split<;>omega) (by split<;>omega)
    (fun i s hi=>hf.lens _ _ (hget i s hi))
    (fun i s j d hi hj=>by
     have h1:=hget i s hi;obtain⟨u,hu,_⟩:=fl.rep _ _ _ _ h1 hj;have hu:=aJ hu;rw[e1]at hu;have hu2:cur[off*m+(i*m+j)]? =some u:=(by simpa using hu);have hcell:w.cell? ⟨b,off*m+(i*m+j),none⟩=some u:=(by simp[World.cell?,hheap,hu2]);rw[hms];refine⟨.inr ⟨mb,hm,hb,by rw[hcell];rfl⟩,?_,hf.sto _ _ _ _ h1 hj⟩;rw[hcell];simp[N1,hu2])
    (fun i s j d hi hj=>by
     have h1:=hget i s hi;obtain⟨u,hu,hrep⟩:=fl.rep _ _ _ _ h1 hj;have hu:=aJ hu;rw[e1]at hu;have hu2:cur[off*m+(i*m+j)]? =some u:=(by simpa using hu);have:=hrep.mono st;simpa [N1,hu2]using this)
   rw[hes]at key;exact key
theorem Fits.letgo(f:Fits C B S μ h w){p v e m:Nat}{rows:List AVal}(hg:getRow h p v=some (e,m,rows)):
  ∃μ',Step B S μ w (LetP S μ w p) μ' w∧Fits C B (LetP S μ w p) μ' (h.set p .dead) w:=by
 obtain⟨mb,hm,hf⟩:=f.row hg;have hlt:=(f9.1 hm).1;have st:Step B S μ w (LetP S μ w p) (μ.set p ⟨none,mb.ver+1,mb.size,mb.cap⟩) w:=⟨fun a ha=>.inl ha,fun _ _=>rfl,T8 _ _,bq hm (by simp) (fun e=>by simp at e),fun a ha=>by
  rcases ha with ha| ⟨m',hm',hb,_⟩
  ·exact .inl ha
  ·exact .inr (f.own p m' _ hm' hb).1⟩
 have at_:∀q k,(μ.set p ⟨none,mb.ver+1,mb.size,mb.cap⟩)[q]? =some k→(q=p∧k.blk=none)∨(q≠p∧μ[q]? =some k):=by
  intro q k hq;by_cases e:p=q
  ·subst e;rw[N3 hlt]at hq;cases hq;exact .inl ⟨rfl,rfl⟩
  ·rw[P7 e]at hq;exact .inr ⟨fun e'=>e e'.symm,hq⟩
 refine⟨_,st,⟨fun g cs hg=>(f.glob g cs hg).mono st,by simp[f.len],?_,?_,f.base,?_,?_⟩⟩
 ·intro p1 q1 m1 m2 b h1 h2 e1 e2;rcases at_ p1 m1 h1 with⟨_,k1⟩| ⟨_,k1⟩
  ·rw[k1]at e1;cases e1
  ·rcases at_ q1 m2 h2 with⟨_,k2⟩| ⟨_,k2⟩
   ·rw[k2]at e2;cases e2
   ·exact f.sep p1 q1 m1 m2 b k1 k2 e1 e2
 ·intro p1 m1 b h1 e1;rcases at_ p1 m1 h1 with⟨_,k1⟩| ⟨r1,k1⟩
  ·rw[k1]at e1;cases e1
  ·obtain⟨a1,a2,a3⟩:=f.own p1 m1 b k1 e1;refine⟨a1,a2,fun a ha=>?_⟩;rcases ha with ha| ⟨m',hm',hb,_⟩
   ·exact a3 a ha
   ·intro e;exact r1 (f.sep p1 p m1 m' b k1 hm' e1 (by rw[hb,e]))
 ·intro a ha;rcases ha with ha| ⟨m',hm',hb,_⟩
  ·exact f.lie a ha
  ·exact(f.own p m' _ hm' hb).2.1
 ·intro p1 m1 k1 h1 h2;rcases at_ p1 m1 h1 with⟨rfl,_⟩| ⟨r1,h1⟩
  ·rw[N3 (by rw[← f.len];exact hlt)]at h2;cases h2;trivial
  ·rw[P7 (fun e=>r1 e.symm)]at h2;exact(f.blk p1 m1 k1 h1 h2).mono st fun b _=>rfl
inductive Fz (h:Heap) (p v:Nat):AVal→AVal→Prop
 |same (x:AVal):Fz h p v x x
 |hs (off len:Nat) (room:Bool) (e m:Nat) (rows es:List AVal):getRow h p v=some (e,m,rows)→off+len≤rows.length→es=(rows.drop off).take len→Fz h p v (.hs p v off len room) (.sl m es)
 |agg (cs ds:List AVal):cs.length=ds.length→(∀d∈ds,d.sto=true)→(∀(i:Nat) (c d:AVal),cs[i]? =some c→ds[i]? =some d→Fz h p v c d)→Fz h p v (.agg cs) (.agg ds)
 |tup (cs ds:List AVal):cs.length=ds.length→(∀(i:Nat) (c d:AVal),cs[i]? =some c→ds[i]? =some d→Fz h p v c d)→Fz h p v (.tup cs) (.tup ds)
 |wk (x y z:AVal):Fz h p v x y→Wk y z→Fz h p v x z
theorem Fz.all(h:Heap)(p v:Nat){off len e m:Nat}{room:Bool}{rows:List AVal}(hg:getRow h p v=some (e,m,rows))(h0:off=0)(hl:len=rows.length):Fz h p v (.hs p v off len room) (.sl m rows):=
 .hs off len room e m rows rows hg (by omega) (by subst h0;subst hl;simp)
theorem Fz.rep(f:Fits C B S μ h w){p v:Nat}{μ':Map}(st:Step B S μ w (LetP S μ w p) μ' w){x y:AVal}{u:Value}(z:Fz h p v x y)(r:Rep w S μ x u):Rep w (LetP S μ w p) μ' y u:=by
 induction z generalizing u with
 |same x=>exact r.mono st
 |hs off len room e m rows es hg hl he=>subst he;exact r.letgo f hg st hl
 |agg cs ds hl hst _ ih=>
  obtain⟨vs,rfl,hvl,_,hr⟩:=r.agg_inv;refine .agg ds vs (by omega) (fun i d hd=>hst d (J2 hd)) (fun i d hd=>?_);have hlt:=(f9.1 hd).1;have hc:=I3 (show i<cs.length by omega);exact ih i _ d hc hd (hr i _ hc)
 |tup cs ds hl _ ih=>
  obtain⟨vs,rfl,hvl,hr⟩:=r.tup_inv;refine .tup ds vs (by omega) (fun i d hd=>?_);have hlt:=(f9.1 hd).1;have hc:=I3 (show i<cs.length by omega);exact ih i _ d hc hd (hr i _ hc)
 |wk x y z _ hw ih=>exact hw _ _ _ _ (ih r)
theorem Weak.fz{ms:List Nat}{t1:Env}(p v:Nat){e m:Nat}{rows:List AVal}(hg:getRow h p v=some (e,m,rows))(ht:∀i,t1 i=t i∨(i∈ms∧Fz h p v (t i) (t1 i))):Weak C ms t h t1 (h.set p .dead):=by
 refine⟨fun i hi=>(ht i).elim id fun⟨h1,_⟩=>absurd h1 hi,fun B k S μ w a f r=>?_⟩;obtain⟨μ',st,f1⟩:=f.letgo hg;refine⟨_,μ',st,f1,r.1,r.2.1,fun i hi=>?_⟩;rcases ht i with h1| ⟨_,h1⟩
 ·rw[h1];exact(r.2.2 i hi).mono st
 ·exact h1.rep f st (r.2.2 i hi)
end
end Go.Av
namespace Go.Av
open Go Go.RowKit
theorem b9{H:Heap}{p q:Nat}(b:Blk)(v:Nat)(hne:p≠q):getRow (H.set p b) q v=getRow H q v:=by
 unfold getRow;rw[P7 hne]
theorem bW{H:Heap}{p:Nat}(e n u v:Nat)(rows:List AVal)(hp:p<H.length):getRow (H.set p (.row e n u rows)) p v=if v=u then some (e,n,rows)else none:=by
 unfold getRow;rw[N3 hp]
theorem bu{A l:Heap}{p:Nat}(v:Nat)(hp:p<A.length):getRow (A++l) p v=getRow A p v:=by
 unfold getRow;rw[J0 hp]
theorem bm{A l:Heap}{n k:Nat}(v:Nat)(hn:A.length=n):getRow (A++l) (n+k) v=getRow l k v:=by subst hn;exact jz A l k v
theorem aR{A l:Heap}{n:Nat}(v:Nat)(hn:A.length=n):getRow (A++l) n v=getRow l 0 v:=by subst hn;exact nC A l v
theorem x6{A l:Heap}{p:Nat}(b:Blk)(hp:p<A.length):(A++l).set p b=A.set p b++l:=List.set_append_left p b hp
theorem dY{A l:Heap}{n k:Nat}(b:Blk)(hn:A.length=n):(A++l).set (n+k) b=A++l.set k b:=by subst hn;exact oC A l k b
theorem fZ{A l:Heap}{n:Nat}(b:Blk)(hn:A.length=n):(A++l).set n b=A++l.set 0 b:=by subst hn;exact th A l b
theorem ao:(∀{H:Heap} {p q:Nat} (b:Blk) (v:Nat) (_:p≠q),getRow (H.set p b) q v=getRow H q v)∧
  (∀{H:Heap} {p:Nat} (e n u v:Nat) (rows:List AVal) (_:p<H.length),getRow (H.set p (.row e n u rows)) p v=if v=u then some (e,n,rows)else none)∧
  (∀{A l:Heap} {p:Nat} (v:Nat) (_:p<A.length),getRow (A++l) p v=getRow A p v)∧
  (∀{A l:Heap} {n k:Nat} (v:Nat) (_:A.length=n),getRow (A++l) (n+k) v=getRow l k v)∧
  (∀{A l:Heap} {n:Nat} (v:Nat) (_:A.length=n),getRow (A++l) n v=getRow l 0 v)∧
  (∀{A l:Heap} {p:Nat} (b:Blk) (_:p<A.length),(A++l).set p b=A.set p b++l)∧
  (∀{A l:Heap} {n k:Nat} (b:Blk) (_:A.length=n),(A++l).set (n+k) b=A++l.set k b)∧
  (∀{A l:Heap} {n:Nat} (b:Blk) (_:A.length=n),(A++l).set n b=A++l.set 0 b)∧
  (∀(H:Heap) (i:Nat) (b:Blk),(H.set i b).length=H.length)∧(∀(H:Heap) (i:Nat) (a b:Blk),(H.set i a).set i b=H.set i b):=
 ⟨b9,bW,bu,bm,aR,x6,dY,fZ,fun _ _ _=>U8 ..,fun _ _ _ _=>List.set_set ..⟩
theorem bB{H:Heap}{p v:Nat}{x:TypeId×Nat×List AVal}(h:getRow H p v=some x):p<H.length:=by
 obtain⟨e,n,r⟩:=x;exact(f9.1 (dw h)).1
attribute [go_sem] List.length_set
def KeepC(h0 h1:Heap)(N:Nat):Prop:=∀(p:Nat) (k:Blk),h1[p]? =some k→h0[p]? =some k∨CloB N k
theorem KeepC.refl(h:Heap)(N:Nat):KeepC h h N:=fun _ _ h=>.inl h
theorem KeepC.app{h0 h1:Heap}{N:Nat}(g:KeepC h0 h1 N){l:Heap}(hb:∀b∈l,CloB N b):KeepC h0 (h1++l) N:=by
 intro p k hk;rcases T9 p h1.length with h2|h2
 ·rw[J0 h2]at hk;exact g p k hk
 ·rw[J4 h2]at hk;exact .inr (hb k (J2 hk))
def FrN(n0:Nat)(H H':Heap):Prop:=∀p,p<n0→H'[p]? =H[p]?
theorem FrN.refl(n0:Nat)(H:Heap):FrN n0 H H:=fun _ _=>rfl
theorem FrN.set{n0:Nat}{H H':Heap}{q:Nat}(b:Blk)(hq:n0≤q)(g:FrN n0 H H'):FrN n0 H (H'.set q b):=fun p hp=>by rw[P7 (by omega)];exact g p hp
theorem FrN.app{n0:Nat}{H H':Heap}(l:Heap)(hn:n0≤H'.length)(g:FrN n0 H H'):FrN n0 H (H'++l):=fun p hp=>by rw[J0 (by omega)];exact g p hp
theorem FrN.trans{n0:Nat}{H H' H'':Heap}(g:FrN n0 H H')(k:FrN n0 H' H''):FrN n0 H H'':=fun p hp=>(k p hp).trans (g p hp)
theorem FrN.less{n0 n1:Nat}{H H':Heap}(g:FrN n1 H H')(h:n0≤n1):FrN n0 H H':=fun p hp=>g p (by omega)
theorem Fin.whole{h0 h1:Heap}{R:AVal→Heap→Prop}{r:AVal}(hl:h0.length≤h1.length)(hc:Clo h1.length r)(hR:R r h1):Fin h0 h1 R r:=
 ⟨h1.length,r,hl,.clo _ hc,.inl (J1 _),by rw[W2];exact hR⟩
theorem Fin.upto{h0 h1 j:Heap}{R:AVal→Heap→Prop}{r:AVal}(hl:h0.length≤h1.length)(hk:KeepC h0 h1 h1.length)(hc:Clo h1.length r)(hR:R r h1):Fin h0 (h1++j) R r:=by
 refine⟨h1.length,r,hl,.clo _ hc,.inr fun p k hp h2=>?_,by rw[T6 rfl];exact hR⟩;rw[J0 hp]at h2;rcases hk p k h2 with h3|h3
 ·exact .inl ⟨(f9.1 h3).1,h3⟩
 ·exact .inr h3
theorem CloB.row{N e n v:Nat}{rows:List AVal}(h:∀r∈rows,Clo N r):CloB N (.row e n v rows):=h
section
variable {C:Ctx}
end
end Go.Av
namespace Go.Av
open Go Go.Proofs Go.RowKit
attribute [local irreducible] WP WPl WPix Sat
variable (G:Nat→Option (List AVal))
variable {G}
end Go.Av
namespace Go.Av
open Go Go.Proofs Go.RowKit
attribute [local irreducible] WP WPl WPix Sat
variable (G:Nat→Option (List AVal))
def rdrR(s:Bs)(b:Bool):Blk:=.row 179 2 0 [.agg [.str s,.bool b]]
def rdH(h j:Heap)(s:Bs)(b:Bool):Heap:=h++rdrR s b::j
theorem vx(h j:Heap)(s:Bs)(b:Bool):(rdH h j s b).length=h.length+(1+j.length):=by simp[rdH];omega
@[go_sem] theorem Cd(s:Bs)(b:Bool)(l:Heap):getRow (rdrR s b::l) 0 0=some (179,2,[.agg [.str s,.bool b]]):=rfl
def beginF(c:Int):Bool:=decide (65≤c∧c≤90∨97≤c∧c≤122∨c=95)
def moreF(c:Int):Bool:=decide (65≤c∧c≤90∨97≤c∧c≤122∨c=95∨48≤c∧c≤57∨c=58∨c=45∨c=46)
theorem jN(c:Int)(h:Heap):Sat (CT G) 269 [.int .i32 c] h (fun r h'=>r=.bool (beginF c)∧h'=h):=by
 refine sb [.tmp 2] Tryz.func269 ?_;intro Q hQ;refine aI trivial ?_;(first|refine fq trivial (fun g1=>?_) (fun g1=>?_)|refine pqo trivial (fun g1=>?_) (fun g1=>?_))<;>(try exact g1.elim)<;>(try refine cV trivial ?_)<;>(refine aI trivial ?_)
 all_goals try ((first|refine fq trivial (fun g2=>?_) (fun g2=>?_)|refine pqo trivial (fun g2=>?_) (fun g2=>?_))<;>(try exact g2.elim)<;>(try refine cV trivial ?_)<;>(refine aI trivial ?_))
 all_goals try ((first|refine fq trivial (fun g3=>?_) (fun g3=>?_)|refine pqo trivial (fun g3=>?_) (fun g3=>?_))<;>(try exact g3.elim)<;>(try refine cV trivial ?_)<;>(refine aI trivial ?_))
 all_goals try ((first|refine fq trivial (fun g4=>?_) (fun g4=>?_)|refine pqo trivial (fun g4=>?_) (fun g4=>?_))<;>(try exact g4.elim)<;>(try refine cV trivial ?_)<;>(refine aI trivial ?_))
 all_goals try ((first|refine fq trivial (fun g5=>?_) (fun g5=>?_)|refine pqo trivial (fun g5=>?_) (fun g5=>?_))<;>(try exact g5.elim)<;>(try refine cV trivial ?_)<;>(refine aI trivial ?_))
 all_goals try (exfalso;omega)
 all_goals
  refine fw hQ trivial ?_;refine fR (.bool _) ?_;unfold beginF;congr 1
  rw[N8];simp only[I8,beq_iff_eq,true_iff,L8,false_iff];omega
theorem tW(c:Int)(h:Heap):Sat (CT G) 268 [.int .i32 c] h (fun r h'=>r=.bool (moreF c)∧h'=h):=by
 refine sb [.tmp 2] Tryz.func268 ?_;intro Q hQ;refine aI trivial ?_;refine oE trivial (jN G c _) ?_;(first|refine fq trivial (fun g1=>?_) (fun g1=>?_)|refine pqo trivial (fun g1=>?_) (fun g1=>?_))<;>(try exact g1.elim)<;>(try refine cV trivial ?_)<;>(refine aI trivial ?_)
 all_goals try ((first|refine fq trivial (fun g2=>?_) (fun g2=>?_)|refine pqo trivial (fun g2=>?_) (fun g2=>?_))<;>(try exact g2.elim)<;>(try refine cV trivial ?_)<;>(refine aI trivial ?_))
 all_goals try ((first|refine fq trivial (fun g3=>?_) (fun g3=>?_)|refine pqo trivial (fun g3=>?_) (fun g3=>?_))<;>(try exact g3.elim)<;>(try refine cV trivial ?_)<;>(refine aI trivial ?_))
 all_goals try ((first|refine fq trivial (fun g4=>?_) (fun g4=>?_)|refine pqo trivial (fun g4=>?_) (fun g4=>?_))<;>(try exact g4.elim)<;>(try refine cV trivial ?_)<;>(refine aI trivial ?_))
 all_goals try ((first|refine fq trivial (fun g5=>?_) (fun g5=>?_)|refine pqo trivial (fun g5=>?_) (fun g5=>?_))<;>(try exact g5.elim)<;>(try refine cV trivial ?_)<;>(refine aI trivial ?_))
 all_goals try ((first|refine fq trivial (fun g6=>?_) (fun g6=>?_)|refine pqo trivial (fun g6=>?_) (fun g6=>?_))<;>(try exact g6.elim)<;>(try refine cV trivial ?_)<;>(refine aI trivial ?_))
 all_goals try ((first|refine fq trivial (fun g7=>?_) (fun g7=>?_)|refine pqo trivial (fun g7=>?_) (fun g7=>?_))<;>(try exact g7.elim)<;>(try refine cV trivial ?_)<;>(refine aI trivial ?_))
 all_goals try simp only[beginF,I8,decide_eq_false_iff_not]at g1
 all_goals try (exfalso;omega)
 all_goals
  refine fw hQ trivial ?_;refine fR (.bool _) ?_;unfold moreF;try unfold beginF
  congr 1
  rw[N8];simp only[I8,beq_iff_eq,true_iff,L8,false_iff];omega
end Go.Av

namespace Go.Av
open Go Go.Proofs Go.RowKit
attribute [local irreducible] WP WPl WPix Sat
variable (G:Nat→Option (List AVal))
end Go.Av
namespace Go.Av
open Go Go.Proofs Go.RowKit
attribute [local irreducible] WP WPl WPix Sat
variable (G:Nat→Option (List AVal))
attribute [go_sem] vx
theorem rA(h:Heap)(n:Nat):Frz h n (.agg [.str [],.nil (.slice none 0 0),.str [],.nil (.slice none 0 0)]) (Elem.av ⟨[],[],[],[]⟩):=by
 rw[Elem.av_eq];refine .agg _ _ rfl (by simp[AVal.sto]) fun i c d hc hd=>?_
 match i with
 |0=>simp at hc hd;subst hc;subst hd;exact .clo _ (.str _)
 |1=>simp[Elem.attrs]at hc hd;subst hc;subst hd;exact .nils _
 |2=>simp at hc hd;subst hc;subst hd;exact .clo _ (.str _)
 |3=>simp[Elem.kids]at hc hd;subst hc;subst hd;exact .nils _
 |i+4=>simp at hc
def kidF(e:Elem)(n:Bs):Elem×Bool:=match kidsF e n with| []=>(⟨[],[],[],[]⟩,false)|k::_=>(k,true)
instance tokEq:DecidableEq Tok:=fun a b=>inferInstanceAs (Decidable ((a:Int×List UInt8×List (List UInt8×List UInt8)×List UInt8)=b))
end Go.Av
namespace Go.Av
open Go Go.RowKit
attribute [local irreducible] WP WPl WPix Sat
structure FrzR (h:Heap) (n:Nat) (r s:AVal):Prop where
 all:Frz h n r s
 len:r.cells.length=s.cells.length
 sto:∀d∈s.cells,d.sto=true
 cell:∀(j:Nat) (c d:AVal),r.cells[j]? =some c→s.cells[j]? =some d→Frz h n c d
theorem Frz.rows{h:Heap}{n q v e m:Nat}{rows es:List AVal}{len:Nat}{room:Bool}(hq:n≤q)(hg:getRow h q v=some (e,m,rows))(hlen:len=rows.length)(hl:es.length=rows.length)
  (hp:∀(i:Nat) (r s:AVal),rows[i]? =some r→es[i]? =some s→FrzR h n r s):Frz h n (.hs q v 0 len room) (.sl m es):=by
 subst hlen;have:=Frz.hs (h:=h) (n:=n) q v 0 rows.length room e m rows es hq hg (by omega) hl (fun i r s hr hs=>(hp i r s hr hs).all)
  (fun i r s hr hs=>⟨(hp i r s hr hs).len,fun j c d _ hd=>(hp i r s hr hs).sto d (J2 hd)⟩) (fun i r s j c d hr hs hc hd=>(hp i r s hr hs).cell j c d hc hd)
 rw[U6, ← hl,W2]at this;rw[← hl];exact this
theorem FrzR.clo{h:Heap}{n:Nat}{r:AVal}(hc:Clo n r)(hs:∀d∈r.cells,d.sto=true):FrzR h n r r:=
 ⟨.clo _ hc,rfl,hs,fun j c d h1 h2=>by rw[h1]at h2;cases h2;exact .clo _ (hc.cells c (J2 h1))⟩
theorem FrzR.agg{h:Heap}{n:Nat}{cs ds:List AVal}(hl:cs.length=ds.length)(hs:∀d∈ds,d.sto=true)(hc:∀(i:Nat) (c d:AVal),cs[i]? =some c→ds[i]? =some d→Frz h n c d):FrzR h n (.agg cs) (.agg ds):=
 ⟨.agg _ _ hl hs hc,hl,hs,hc⟩
inductive FrzL (h:Heap) (n:Nat):List AVal→List AVal→Prop
 |nil:FrzL h n [] []
 |cons {c d:AVal} {cs ds:List AVal}:Frz h n c d→FrzL h n cs ds→FrzL h n (c::cs) (d::ds)
theorem FrzL.len{h:Heap}{n:Nat}{cs ds:List AVal}(z:FrzL h n cs ds):cs.length=ds.length:=by induction z with|nil=>rfl|cons _ _ ih=>simp[ih]
theorem FrzL.at_{h:Heap}{n:Nat}{cs ds:List AVal}(z:FrzL h n cs ds):∀(i:Nat) (c d:AVal),cs[i]? =some c→ds[i]? =some d→Frz h n c d:=by
 induction z with
 |nil=>intro i c d h1;simp at h1
 |cons z _ ih=>
  intro i c d h1 h2
  match i with
  |0=>simp at h1 h2;subst h1;subst h2;exact z
  |i+1=>exact ih i c d (by simpa using h1) (by simpa using h2)
theorem FrzL.agg{h:Heap}{n:Nat}{cs ds:List AVal}(z:FrzL h n cs ds)(hs:ds.all AVal.sto=true):Frz h n (.agg cs) (.agg ds):=.agg _ _ z.len (M3.1 hs) z.at_
theorem FrzL.tup{h:Heap}{n:Nat}{cs ds:List AVal}(z:FrzL h n cs ds):Frz h n (.tup cs) (.tup ds):=.tup _ _ z.len z.at_
theorem FrzL.row{h:Heap}{n:Nat}{cs ds:List AVal}(z:FrzL h n cs ds)(hs:ds.all AVal.sto=true):FrzR h n (.agg cs) (.agg ds):=.agg z.len (M3.1 hs) z.at_
inductive FrzRs (h:Heap) (n:Nat):List AVal→List AVal→Prop
 |nil:FrzRs h n [] []
 |cons {c d:AVal} {cs ds:List AVal}:FrzR h n c d→FrzRs h n cs ds→FrzRs h n (c::cs) (d::ds)
theorem FrzRs.len{h:Heap}{n:Nat}{cs ds:List AVal}(z:FrzRs h n cs ds):cs.length=ds.length:=by induction z with|nil=>rfl|cons _ _ ih=>simp[ih]
theorem FrzRs.at_{h:Heap}{n:Nat}{cs ds:List AVal}(z:FrzRs h n cs ds):∀(i:Nat) (c d:AVal),cs[i]? =some c→ds[i]? =some d→FrzR h n c d:=by
 induction z with
 |nil=>intro i c d h1;simp at h1
 |cons z _ ih=>
  intro i c d h1 h2
  match i with
  |0=>simp at h1 h2;subst h1;subst h2;exact z
  |i+1=>exact ih i c d (by simpa using h1) (by simpa using h2)
theorem FrzRs.hs{h:Heap}{n q v e m:Nat}{rows es:List AVal}{len:Nat}{room:Bool}(hg:getRow h q v=some (e,m,rows))(hlen:len=rows.length)(hq:n≤q)(z:FrzRs h n rows es):Frz h n (.hs q v 0 len room) (.sl m es):=
 Frz.rows hq hg hlen z.len.symm z.at_
theorem Frz.data{h:Heap}{n q v e m:Nat}{rows:List AVal}{len:Nat}{room:Bool}(hq:n≤q)(hg:getRow h q v=some (e,m,rows))(hlen:len=rows.length)(hc:∀r∈rows,Clo n r)(hs:∀r∈rows,∀c∈r.cells,c.sto=true):Frz h n (.hs q v 0 len room) (.sl m rows):=
 Frz.rows hq hg hlen rfl fun i r s hr hs'=>by rw[hr]at hs';cases hs';exact FrzR.clo (hc r (J2 hr)) (hs r (J2 hr))
end Go.Av
namespace Go.Av
open Go Go.Proofs Go.RowKit
attribute [local irreducible] WP WPl WPix Sat
variable (G:Nat→Option (List AVal))
def tkR(n:Bs)(q v len:Nat):Blk:=.row 182 4 0 [.agg [.int .i64 1,.str n,.hs q v 0 len true,.str []]]
def atR(v:Nat)(l:List At):Blk:=.row 228 2 v (l.map At.av)
@[go_sem] theorem zQ(n:Bs)(q v len:Nat)(l:Heap):getRow (tkR n q v len::l) 0 0=some (182,4,[.agg [.int .i64 1,.str n,.hs q v 0 len true,.str []]]):=rfl
@[go_sem] theorem yv(n:Bs)(q v len:Nat)(l:Heap)(k u:Nat):getRow (tkR n q v len::l) (k+1) u=getRow l k u:=rfl
@[go_sem] theorem yw(v:Nat)(l:List At)(j:Heap)(k u:Nat):getRow (atR v l::j) (k+1) u=getRow j k u:=rfl
def p1:Bs:=[60,33,45,45]
def p2:Bs:=[60,63]
def p3:Bs:=[60,33,68,79,67,84,89,80,69]
def tksR(v:Nat)(l:List Tok):Blk:=.row 182 4 v (l.map Tok.av)
@[go_sem] theorem yx(v:Nat)(l:List Tok)(j:Heap)(k u:Nat):getRow (tksR v l::j) (k+1) u=getRow j k u:=rfl
end Go.Av
namespace Go.Av
open Go Go.Proofs Go.RowKit
end Go.Av
namespace Go.Av
open Go Go.Proofs Go.RowKit
attribute [local irreducible] WP WPl WPix Sat
variable (G:Nat→Option (List AVal))
structure OE where
 n:Bs
 a:List At
 t:Bs
 k:List Elem
 q:Nat
 v:Nat
def OE.av(o:OE):AVal:=.agg [.str o.n,.sl 2 (o.a.map At.av),.str o.t,.hs o.q o.v 0 o.k.length true]
variable {H:Heap} {n0 pb po vo pd vd:Nat} {room:Bool} {os:List OE} {ds:List Elem}
end Go.Av
namespace Go.Av
open Go Go.Proofs Go.RowKit
attribute [local irreducible] WP WPl WPix Sat
variable (G:Nat→Option (List AVal))
variable {G}
end Go.Av
namespace Go.Av
open Go Go.Proofs Go.RowKit
attribute [local irreducible] WP WPl WPix Sat
variable {G:Nat→Option (List AVal)}
end Go.Av
namespace Go.Av
open Go.RowKit
section
variable {C:Ctx} {t:Env} {h:Heap}
def nopO:Oper:= {dst:=none,op:=.move (.const (.bool false)),type:=0,pos:= "",after:= #[],guard:=none}
end
end Go.Av
namespace Go.Av
open Go Go.Proofs Go.RowKit
variable (G:Nat→Option (List AVal))
theorem pM(s:Bs):∀k,k≤s.length→shortAt s k=s.drop (Lib.lastIdx ⟨s.toArray⟩ 58 k+1).toNat∧ -1≤Lib.lastIdx ⟨s.toArray⟩ 58 k∧Lib.lastIdx ⟨s.toArray⟩ 58 k<k:=by
 intro k;induction k with
 |zero=>intro _;simp[shortAt,Lib.lastIdx]
 |succ k ih=>
  intro hk;obtain⟨h1,h2,h3⟩:=ih (by omega);have hb:=I3 (show k<s.length by omega);have e:(⟨s.toArray⟩:ByteArray).data[k]! =s[k]:=by simp[hb]
  rw[shortAt,hb];have e2:Lib.lastIdx ⟨s.toArray⟩ 58 (k+1)=if (s[k].toNat:Int)=58 then(k:Int)else Lib.lastIdx ⟨s.toArray⟩ 58 k:=by
   rw[Lib.lastIdx,e]
  rw[e2];by_cases hc:s[k]=58
  ·rw[I6 (by rw[hc]),I6 (by rw[hc];rfl)];refine⟨L9 s.drop (by omega),by omega,by omega⟩
  ·have:¬(s[k].toNat:Int)=58:=fun h=>hc ((vw (k:=58) (by omega)).1 h)
   rw[I0 (by simpa using hc),I0 this];exact⟨h1,h2,by omega⟩
theorem rB(s:Bs):short s=s.drop (Lib.lastIndexByte ⟨s.toArray⟩ 58+1).toNat∧ -1≤Lib.lastIndexByte ⟨s.toArray⟩ 58∧Lib.lastIndexByte ⟨s.toArray⟩ 58<s.length:=by
 have h:(⟨s.toArray⟩:ByteArray).size=s.length:=by simp[ByteArray.size]
 have:=pM s s.length (J1 _);unfold Lib.lastIndexByte short;rw[h];exact this
end Go.Av
namespace Go.Av
open Go Go.Proofs Go.RowKit
attribute [local irreducible] WP WPl WPix Sat
variable (G:Nat→Option (List AVal))
theorem jO(s:Bs)(hs:s.length≤1048576)(h:Heap):Sat (CT G) 106 [.str s] h (fun r h'=>r=.str (short s)∧h'=h):=by
 obtain⟨h1,h2,h3⟩:=rB s;have hl:=ep G s 58 (by omega);generalize Lib.lastIndexByte ⟨s.toArray⟩ 58=n at h1 h2 h3 hl;refine sb [.tmp 2] Tryz.func106 ?_;intro Q hQ;refine aI trivial ?_;refine oE trivial (hl _) ?_;refine fw hQ trivial ?_;refine fR (.str _) ?_;rw[h1]
theorem lu(e:Elem)(n:Bs)(hs:e.sz≤1048576)(h:Heap):Sat (CT G) 108 [e.av,.str n] h (fun r h'=>r=.sl 4 ((kidsF e n).map Elem.av)∧h'=h):=by
 have hkl:=e.kids_len;refine sb [.tmp 4] Tryz.func108 ?_;intro Q hQ;refine aI trivial ?_;refine lm (fun nL tL hL=>∃(k v:Nat) (acc:List Elem) (j:Heap),e.kids.length-k=nL∧h++ .row 76 4 0 [e.av]:: .row 76 4 v (acc.map Elem.av)::j=hL∧tL 5=.hs (h.length+1) v 0 acc.length true∧tL 11=.int .i64 k∧k≤e.kids.length∧acc.length≤k∧acc++(e.kids.drop k).filter (fun k=>decide (short k.name=n))=kidsF e n) ((fun(k v:Nat) (acc:List Elem) (j:Heap)=>(e.kids.length-k:Nat)) (0) (0) ([]) ([])) ?_ ?_
 ·refine⟨_,_,V3 5 76 4 (by simp) (by omega) (by exact dV trivial),⟨0,0,[],[],rfl,az,?_,?_,?_,?_,?_⟩⟩;all_goals first|exact dV trivial|rfl|omega|trivial|skip
 rintro _ s2 h' ⟨k,v,acc,j,rfl,rfl,e5,e11,hk,hl,hp⟩ K2 hK2;simp only[ah,ar,Nat.reduceEqDiff, ↓reduceIte]at e5 e11;have F:=F2 e5 e11;refine aI F ?_;refine jE F (fun hc=>?_) (fun hc=>?_)<;>(try exact hc.elim)
 ·obtain⟨y,hy,hym⟩:=ac hc;have:=Elem.kid_sz hym;have:=y.name_len;rw[aE hy,S6]at hp;have F:=F2 F hy;refine aI F ?_;refine oE F (jO G y.name (by omega) _) ?_;refine jE F (fun hc=>?_) (fun hc=>?_)<;>(try exact hc.elim)<;>(refine aI F ?_)
  ·refine GM F ?_;(try refine cV F ?_);refine aI F ?_;refine hK2 _ _ _ (I9 ⟨k+1,v+1,acc++[y],_,rfl,az,?_,?_,by omega,by simp;omega,by rw[I6 (by simp[hc])]at hp;rw[← hp];simp⟩) (by omega);all_goals first|exact dV F|rfl|omega|trivial|skip
  ·refine hK2 _ _ _ (I9 ⟨k+1,v,acc,_,rfl,az,?_,?_,by omega,by omega,by rw[I0 (by simp[hc])]at hp;exact hp⟩) (by omega);all_goals first|exact dV F|rfl|omega|trivial|skip
 ·refine aI F ?_;refine fw hQ F ?_;rw[aK hc,List.filter_nil,M6]at hp;subst hp;exact X1 (rz (pre:=h++[.row 76 4 0 [e.av]]) (post:=j) _ (by simp;rfl) (by simp) (by omega)) ⟨rfl,rfl⟩
theorem mI(e:Elem)(n:Bs)(hs:e.sz≤1048576)(h:Heap):Sat (CT G) 105 [e.av,.str n] h (fun r h'=>r=.tup [(kidF e n).1.av,.bool (kidF e n).2]∧h'=h):=by
 refine sb [.cell 4 76,.tmp 5] Tryz.func105 ?_;intro Q hQ;refine aI trivial ?_;refine oE trivial (lu G e n hs _) ?_;refine jE trivial (fun hc=>?_) (fun hc=>?_)<;>(try exact hc.elim)<;>(refine aI trivial ?_)
 ·refine Bi hQ trivial ?_;have hk:kidsF e n=[]:=O7.1 (by omega);simp only[kidF,hk];refine X1 ?_ ⟨rfl,rfl⟩;refine .tup _ _ rfl fun i c d hc hd=>?_
  match i with
  |0=>simp at hc hd;subst hc;subst hd;exact rA _ _
  |1=>simp at hc hd;subst hc;subst hd;exact .clo _ (.bool _)
  |i+2=>simp at hc
 ·obtain⟨y,l,hk⟩:∃y l,kidsF e n=y::l:=by
   cases hq:kidsF e n with
   |nil=>rw[hq]at hc;simp at hc
   |cons y l=>exact⟨y,l,rfl⟩
  rw[hk];have h0:(y::l)[0]? =some y:=rfl;have F:=h0;refine aI F ?_;simp only[h0];try refine cV F ?_
  refine aI F ?_;refine Bi hQ F ?_;simp only[kidF,hk];exact I2 (.tup _ (by intro c hc;simp at hc;rcases hc with rfl|rfl;exact Elem.clo _ _;exact .bool _)) ⟨rfl,rfl⟩
def Elem.own(e:Elem):Nat:=1+e.name.length+szs At.sz e.attrs+e.text.length
section
variable {σ:Type} (A B:Elem→σ→σ)
end
section
end
section
end
end Go.Av
namespace Go.Av
open Go Go.RowKit
def ov(H:Heap)(n:Nat)(bs:List Blk):Heap:=H.take n++bs++H.drop (n+bs.length)
theorem bx{H:Heap}{n:Nat}{bs:List Blk}(hn:n+bs.length≤H.length):(ov H n bs).length=H.length:=by
 simp only[ov,J5,M2,N2];omega
theorem bz{H:Heap}{n:Nat}{bs:List Blk}(hn:n+bs.length≤H.length)(p:Nat):(ov H n bs)[p]? =if n≤p∧p<n+bs.length then bs[p-n]? else H[p]? :=by
 have h1:(H.take n).length=n:=by rw[M2];omega
 unfold ov;by_cases h:n≤p∧p<n+bs.length
 ·rw[I6 h,J0 (by rw[J5,h1];omega),J4 (by omega),h1]
 ·rw[I0 h];by_cases h2:p<n
  ·rw[J0 (by rw[J5,h1];omega),J0 (by omega),K7 h2]
  ·rw[J4 (by rw[J5,h1];omega),N4,J5,h1];congr 1;omega
theorem uW{H:Heap}{n k:Nat}{bs:List Blk}(hn:n+bs.length≤H.length)(hk:k<bs.length):(ov H n bs)[n+k]? =bs[k]? :=by
 rw[bz hn,I6 (by omega)];congr 1;omega
theorem ir{H:Heap}{n p:Nat}{bs:List Blk}(hn:n+bs.length≤H.length)(hp:p<n∨n+bs.length≤p):(ov H n bs)[p]? =H[p]? :=by
 rw[bz hn,I0 (by omega)]
theorem cY{H:Heap}{n k:Nat}{bs:List Blk}(b:Blk)(hn:n+bs.length≤H.length)(hk:k<bs.length):(ov H n bs).set (n+k) b=ov H n (bs.set k b):=by
 apply Q5
 intro p;have hl:(bs.set k b).length=bs.length:=U8 ..;rw[V6,bx hn,bz hn,bz (by rw[hl];exact hn),hl,V6];by_cases h:n+k=p
 ·subst h;rw[I6 rfl,I6 (by omega),I6 (by omega),I6 (by omega),I6 (by omega)]
 ·rw[I0 h];split
  ·rw[I0 (by omega)]
  ·rfl
theorem vy{H:Heap}{n:Nat}{bs:List Blk}(b:Blk)(hn:n+bs.length≤H.length)(hk:0<bs.length):(ov H n bs).set n b=ov H n (bs.set 0 b):=cY (k:=0) b hn hk
theorem rC{H:Heap}{n p:Nat}{bs:List Blk}(b:Blk)(hn:n+bs.length≤H.length)(hp:p<n∨n+bs.length≤p):(ov H n bs).set p b=ov (H.set p b) n bs:=by
 apply Q5
 intro q;rw[V6,bx hn,bz hn,bz (by rw[U8];exact hn),V6];by_cases h:p=q
 ·subst h;have:¬(n≤p∧p<n+bs.length):=by omega
  simp[this]
 ·rw[I0 h,I0 h]
theorem mJ{H j:Heap}{n:Nat}{bs:List Blk}(hn:n+bs.length≤H.length):ov H n bs++j=ov (H++j) n bs:=by
 apply Q5
 intro q;rw[bz (by rw[J5];omega)];rcases T9 q H.length with h|h
 ·rw[J0 (by rw[bx hn];exact h),bz hn,J0 h]
 ·rw[J4 (by rw[bx hn];exact h),bx hn,I0 (by omega),J4 h]
theorem rE(H:Heap)(bs:List Blk)(j:Heap):H++(bs++j)=ov (H++(bs++j)) H.length bs:=by
 unfold ov;rw[T6 rfl,List.drop_append,P3 (by omega),M5,T5,List.drop_left' rfl,N0]
theorem x7{H:Heap}{n k:Nat}{bs:List Blk}(v:Nat)(hn:n+bs.length≤H.length)(hk:k<bs.length):getRow (ov H n bs) (n+k) v=getRow bs k v:=by unfold getRow;rw[uW hn hk]
theorem vz{H:Heap}{n p:Nat}{bs:List Blk}(v:Nat)(hn:n+bs.length≤H.length)(hp:p<n∨n+bs.length≤p):getRow (ov H n bs) p v=getRow H p v:=by unfold getRow;rw[ir hn hp]
theorem dZ{H:Heap}{n k:Nat}{bs:List Blk}(hn:n+bs.length≤H.length)(hk:k<bs.length):mapAt (ov H n bs) (n+k)=mapAt bs k:=by unfold mapAt;rw[uW hn hk]
theorem vA{H:Heap}{n:Nat}{bs:List Blk}(hn:n+bs.length≤H.length)(hk:0<bs.length):mapAt (ov H n bs) n=mapAt bs 0:=dZ (k:=0) hn hk
theorem FrN.behind{H H':Heap}(g:FrN H.length H H')(hl:H.length≤H'.length):∃j,H'=H++j:=by
 refine⟨H'.drop H.length,?_⟩
 apply Q5
 intro p;by_cases h:p<H.length
 ·rw[J0 h,g p h]
 ·rw[J4 (by omega),N4];congr 1;omega
theorem rF{H j:Heap}{n:Nat}{bs cs:List Blk}{R:AVal→Heap→Prop}{r:AVal}(hn:n+bs.length≤H.length)(hl:cs.length=bs.length)(hb:∀b∈cs,CloB H.length b)(hc:Clo H.length r)(hR:R r (ov H n cs)):Fin (ov H n bs) (ov (H++j) n cs) R r:=by
 rw[← mJ (by omega)];refine Fin.keep (by rw[bx hn,bx (by omega)]) (fun p k hk=>?_) (by rw[bx hn];exact hc) hR;rw[bz (by omega)]at hk;rw[bx hn,bz hn];by_cases h:n≤p∧p<n+cs.length
 ·rw[I6 h]at hk;exact .inr (hb k (J2 hk))
 ·rw[I0 h]at hk;left;rw[I0 (by omega)];exact hk
theorem vB{H:Heap}{n:Nat}{bs cs:List Blk}{R:AVal→Heap→Prop}{r:AVal}(hn:n+bs.length≤H.length)(hl:cs.length=bs.length)(hb:∀b∈cs,CloB H.length b)(hc:Clo H.length r)(hR:R r (ov H n cs)):Fin (ov H n bs) (ov H n cs) R r:=by
 have:=rF (j:=[]) hn hl hb hc hR
 rwa [M6]at this
theorem g9{H j:Heap}{n:Nat}{bs cs:List Blk}{R:AVal→Heap→Prop}{r0 r:AVal}(hn:n+bs.length≤H.length)(hl:cs.length=bs.length)(hb:∀b∈cs,CloB H.length b)(hc:Frz (ov (H++j) n cs) H.length r0 r)(hR:R r (ov H n cs)):Fin (ov H n bs) (ov (H++j) n cs) R r0:=by
 rw[← mJ (by omega)]at hc ⊢;refine Fin.keepF (by rw[bx hn,bx (by omega)]) (fun p k hk=>?_) (by rw[bx hn];exact hc) hR;rw[bz (by omega)]at hk;rw[bx hn,bz hn];by_cases h:n≤p∧p<n+cs.length
 ·rw[I6 h]at hk;exact .inr (hb k (J2 hk))
 ·rw[I0 h]at hk;left;rw[I0 (by omega)];exact hk
end Go.Av
theorem U1:type_of% @Go.Av.FrN.set:=@Go.Av.FrN.set
theorem U2:type_of% @Go.Av.FrN.refl:=@Go.Av.FrN.refl
theorem U9:type_of% @Go.Av.Frz.data:=@Go.Av.Frz.data
theorem V1:type_of% @Go.Av.FrN.app:=@Go.Av.FrN.app
theorem W6:type_of% @Go.Av.FrN.trans:=@Go.Av.FrN.trans
theorem Y5:type_of% @Go.Av.Fin.whole:=@Go.Av.Fin.whole
