/- Parts. -/
import Derived.Test.YtnolelibaahimaaGreatDoorYBl
import Derived.Lib.TrimUEq
import Derived.Test.YtnolelibaahimaaGreatDoorYLa
set_option linter.unusedSimpArgs false
set_option linter.unusedVariables false
set_option linter.unusedSectionVars false
set_option linter.unnecessarySimpa false
set_option maxRecDepth 100000
set_option maxHeartbeats 16000000
namespace Go.Av
open Go Go.Proofs Go.RowKit
attribute [local irreducible] WP WPl WPix Sat
variable (G:Nat→Option (List AVal))
def enc(r:Int):Bs:=(Utf8.encode r).data.toList
def Rune(r:Int):Prop:=0≤r∧(r<55296∨57343<r∧r≤1114111)
theorem Rune.valid{r:Int}(h:Rune r):Utf8.valid r=true:=by
 unfold Utf8.valid;obtain⟨h0,h1⟩:=h;simp;omega
theorem bE(n:Nat)(h:n<256):bytA (UInt8.ofNat n)=.int .u8 n:=by
 simp[bytA];omega
theorem HE{r:Int}(h0:0≤r)(h1:r<128):(enc r).map bytA=[.int .u8 r]:=by
 have hv:=Rune.valid (r:=r) ⟨h0,by omega⟩;unfold enc Utf8.encode;simp only[hv,if_true];rw[M7 (by omega)];simp only[O3,R5];rw[bE _ (by omega)];simp only[List.cons.injEq,AVal.int.injEq,and_true,true_and];omega
theorem HF{r:Int}(h0:128≤r)(h1:r<2048):(enc r).map bytA=[.int .u8 (192+r/64),.int .u8 (128+r%64)]:=by
 have hv:=Rune.valid (r:=r) ⟨by omega,by omega⟩;unfold enc Utf8.encode;simp only[hv,if_true];rw[M1 (by omega),M7 (by omega)];simp only[O3,R5];rw[bE _ (by omega),bE _ (by omega)];simp only[List.cons.injEq,AVal.int.injEq,and_true,true_and];omega
theorem Bi{r:Int}(h:Rune r)(h0:2048≤r)(h1:r<65536):(enc r).map bytA=[.int .u8 (224+r/4096),.int .u8 (128+r/64%64),.int .u8 (128+r%64)]:=by
 have hv:=h.valid;unfold enc Utf8.encode;simp only[hv,if_true];rw[M1 (by omega),M1 (by omega),M7 (by omega)];simp only[O3,R5];rw[bE _ (by omega),bE _ (by omega),bE _ (by omega)];simp only[List.cons.injEq,AVal.int.injEq,and_true,true_and];omega
theorem HG{r:Int}(h0:65536≤r)(h1:r≤1114111):(enc r).map bytA=[.int .u8 (240+r/262144),.int .u8 (128+r/4096%64),.int .u8 (128+r/64%64),.int .u8 (128+r%64)]:=by
 have hv:=Rune.valid (r:=r) ⟨by omega,by omega⟩;unfold enc Utf8.encode;simp only[hv,if_true];rw[M1 (by omega),M1 (by omega),M1 (by omega)];simp only[O3,R5];rw[bE _ (by omega),bE _ (by omega),bE _ (by omega),bE _ (by omega)];simp only[List.cons.injEq,AVal.int.injEq,and_true,true_and];omega
theorem dM(r:Int):1≤(enc r).length∧(enc r).length≤4:=by
 unfold enc Utf8.encode;simp only[];generalize (if Utf8.valid r=true then r.toNat else Utf8.runeError)=c;by_cases h1:c<128
 ·rw[M7 h1];exact⟨by simp,by simp⟩
 ·rw[M1 h1];by_cases h2:c<2048
  ·rw[M7 h2];exact⟨by simp,by simp⟩
  ·rw[M1 h2];by_cases h3:c<65536
   ·rw[M7 h3];exact⟨by simp,by simp⟩
   ·rw[M1 h3];exact⟨by simp,by simp⟩
theorem lV(P:Program)(h:Heap)(T:TypeId)(a b:Int)(k:IntKind)(hb:0≤b)(hb2:b<32):abin P h .shr T (.int .i32 a) (.int k b)=some (.int .i32 (a/2^b.toNat)):=by
 simp only[abin];rw[M1 (by omega)];have:min b.toNat (IntKind.bits .i32)=b.toNat:=by simp[IntKind.bits];omega
 rw[this,Int.fdiv_eq_ediv_of_nonneg _ (by exact Int.le_of_lt (Int.pow_pos (by omega)))]
theorem wrap_u8(x:Int):IntKind.wrap .u8 x=x%256:=IntKind.wrap_u8 x
theorem wrap_u32(x:Int)(h0:0≤x)(h1:x<4294967296):IntKind.wrap .u32 x=x:=by rw[IntKind.wrap_u32];omega
theorem jh(n m:Nat)(h:n+m<256)(hh:∀x:_root_.Fin 256,x.val≤m→(BitVec.ofInt 8 n|||BitVec.ofInt 8 (x.val:Int)).toNat=n+x.val)(x:Int)(h0:0≤x)(h1:x≤m):aint .or .u8 n x=some (.int .u8 (n+x)):=by
 have e:(BitVec.ofInt 8 n|||BitVec.ofInt 8 ((x.toNat:Nat):Int)).toNat=n+x.toNat:=hh ⟨x.toNat,by omega⟩ (by simp;omega);rw[show x=((x.toNat:Nat):Int)from by omega];show some (AVal.int .u8 (IntKind.wrap .u8 (BitVec.ofInt 8 n|||BitVec.ofInt 8 ((x.toNat:Nat):Int)).toNat))=_;rw[e,wrap_u8];congr 2;omega
theorem Dx(x:Int)(h0:0≤x)(h1:x≤31):aint .or .u8 192 x=some (.int .u8 (192+x)):=jh 192 31 (by omega) (by decide+kernel) x h0 h1
theorem Dy(x:Int)(h0:0≤x)(h1:x≤15):aint .or .u8 224 x=some (.int .u8 (224+x)):=jh 224 15 (by omega) (by decide+kernel) x h0 h1
theorem Dz(x:Int)(h0:0≤x)(h1:x≤7):aint .or .u8 240 x=some (.int .u8 (240+x)):=jh 240 7 (by omega) (by decide+kernel) x h0 h1
theorem DA(x:Int)(h0:0≤x)(h1:x≤63):aint .or .u8 128 x=some (.int .u8 (128+x)):=jh 128 63 (by omega) (by decide+kernel) x h0 h1
theorem DB(x:Int)(h0:0≤x)(h1:x<256):aint .and .u8 x 63=some (.int .u8 (x%64)):=by
 have hh:∀x:_root_.Fin 256,(BitVec.ofInt 8 (x.val:Int)&&&BitVec.ofInt 8 63).toNat=x.val%64:=by decide+kernel
 have e:(BitVec.ofInt 8 ((x.toNat:Nat):Int)&&&BitVec.ofInt 8 63).toNat=x.toNat%64:=hh ⟨x.toNat,by omega⟩;rw[show x=((x.toNat:Nat):Int)from by omega];show some (AVal.int .u8 (IntKind.wrap .u8 (BitVec.ofInt 8 ((x.toNat:Nat):Int)&&&BitVec.ofInt 8 63).toNat))=_;rw[e,wrap_u8];congr 2;omega
theorem sO(P:Program)(h:Heap)(T:TypeId)(x:Int)(h0:0≤x)(h1:x≤31):abin P h .or T (.int .u8 192) (.int .u8 x)=some (.int .u8 (192+x)):=by simpa only[abin,if_true]using Dx x h0 h1
theorem sP(P:Program)(h:Heap)(T:TypeId)(x:Int)(h0:0≤x)(h1:x≤15):abin P h .or T (.int .u8 224) (.int .u8 x)=some (.int .u8 (224+x)):=by simpa only[abin,if_true]using Dy x h0 h1
theorem sQ(P:Program)(h:Heap)(T:TypeId)(x:Int)(h0:0≤x)(h1:x≤7):abin P h .or T (.int .u8 240) (.int .u8 x)=some (.int .u8 (240+x)):=by simpa only[abin,if_true]using Dz x h0 h1
theorem sR(P:Program)(h:Heap)(T:TypeId)(x:Int)(h0:0≤x)(h1:x≤63):abin P h .or T (.int .u8 128) (.int .u8 x)=some (.int .u8 (128+x)):=by simpa only[abin,if_true]using DA x h0 h1
theorem sS(P:Program)(h:Heap)(T:TypeId)(x:Int)(h0:0≤x)(h1:x<256):abin P h .and T (.int .u8 x) (.int .u8 63)=some (.int .u8 (x%64)):=by simpa only[abin,if_true]using DB x h0 h1
theorem HH(P:Program)(h:Heap)(T:TypeId)(a:Int):abin P h .shr T (.int .i32 a) (.int .u64 6)=some (.int .i32 (a/64)):=by rw[lV _ _ _ _ _ _ (by omega) (by omega)];rfl
theorem DC(P:Program)(h:Heap)(T:TypeId)(a:Int):abin P h .shr T (.int .i32 a) (.int .u64 12)=some (.int .i32 (a/4096)):=by rw[lV _ _ _ _ _ _ (by omega) (by omega)];rfl
theorem DD(P:Program)(h:Heap)(T:TypeId)(a:Int):abin P h .shr T (.int .i32 a) (.int .u64 18)=some (.int .i32 (a/262144)):=by rw[lV _ _ _ _ _ _ (by omega) (by omega)];rfl
theorem mY(k:IntKind)(n:Int):aconv Tryz.prog 21 5 (.int k n)=some (.int .u8 (n%256)):=by simp only[aconv,go_sem,wrap_u8]
theorem kU(k:IntKind)(n:Int)(h0:0≤n)(h1:n<4294967296):aconv Tryz.prog 21 244 (.int k n)=some (.int .u32 n):=by simp only[aconv,go_sem,wrap_u32 n h0 h1]
theorem f4(k:IntKind)(n:Int):aconv Tryz.prog 21 9 (.int k n)=some (.str (enc n)):=by simp only[aconv,go_sem,enc]
theorem ga(r:Int)(hr:Rune r)(h1:128≤r)(h j:Heap)(X:Blk)(v:Nat)(s:Bs)(hs:s.length≤1073741824):
  Sat (CT G) 224 [.hs (h.length+1) v 0 s.length true,.int .i32 r] (h++X::bufR v s::j)
   (fun x h'=>x=.hs (h.length+1) (v+1) 0 (s.length+(enc r).length) true∧h'=h++X::bufR (v+1) (s++enc r)::j):=by
 have end_:∀l,l=enc r→Fin (h++X::bufR v s::j) (h++X::bufR (v+1) (s++l)::j) (fun x h'=>x=.hs (h.length+1) (v+1) 0 (s.length+(enc r).length) true∧h'=h++X::bufR (v+1) (s++enc r)::j) (.hs (h.length+1) (v+1) 0 (s.length+l.length) true):=fun l hl=>by
  subst hl;refine Fin.keep0 (by simp) (fun p k hk=>?_) (.hs _ _ _ _ _ (by simp)) ⟨rfl,rfl⟩;rcases U7 p h.length with h1|h1
  ·rw[M5 h1]at hk ⊢;exact .inl hk
  ·rw[M9 h1]at hk ⊢
   match p-h.length,hk with
   |0,hk=>exact .inl hk
   |1,hk=>simp at hk;subst hk;exact .inr (jg _ _ _)
   |i+2,hk=>exact .inl hk
 have F:=F2 (F9 @mY @kU @HH @DC @DD @sO @sP @sQ @sR) (F3 @sS @wrap_u8 @wrap_u32);obtain⟨hr0,hr1⟩:=hr;refine sb [.tmp 4] Tryz.func224 ?_;intro Q hQ;refine af F ?_;refine aD F (fun hc=>?_) (fun hc=>?_)<;>(try exact hc.elim)<;>(refine af F ?_)
 ·refine bQ (.inl rfl) (by exact az F) (by exact az F) cD eB (by omega) (de _ _) (by simp(disch:=first|omega| (simp only[go_sem, ↓reduceIte,Nat.reduceEqDiff];done)|fail) only[go_sem, ↓reduceIte,Int.reduceToNat,Int.reduceLE,Int.reduceLT,Int.reduceSub,Int.reduceAdd,Nat.reduceEqDiff,Nat.reduceAdd,Nat.reduceLeDiff,Nat.reduceLT,Nat.reduceMul,Nat.reduceSub,F,bi];rfl) (by simp) ?_ ?_
  ·simp[maxLen];omega
  simp(disch:=first|omega| (simp only[go_sem, ↓reduceIte,Nat.reduceEqDiff];done)|fail) only[go_sem, ↓reduceIte,Int.reduceToNat,Int.reduceLE,Int.reduceLT,Int.reduceSub,Int.reduceAdd,Nat.reduceEqDiff,Nat.reduceAdd,Nat.reduceLeDiff,Nat.reduceLT,Nat.reduceMul,Nat.reduceSub,F];refine af F ?_;refine au hQ F ?_;have e:=HF h1 (by omega);have le:(enc r).length=2:=by simpa using O6 List.length e
  have:=end_ _ rfl;simp only[bufR,R3,e,le]at this;have m0:r/64%256=r/64:=by omega
  have m1:r%256%64=r%64:=by omega
  simp only[bufR,R3,e,le,m0,m1,M6,N4,R2,Nat.reduceAdd];exact this
 ·refine aD F (fun hc=>?_) (fun hc=>?_)<;>(try exact hc.elim)<;>(refine af F ?_)
  ·refine aD F (fun hc=>?_) (fun hc=>?_)<;>(try exact hc.elim)<;>(refine af F ?_)
   ·refine bQ (.inl rfl) (by exact az F) (by exact az F) cD eB (by omega) (de _ _) (by simp(disch:=first|omega| (simp only[go_sem, ↓reduceIte,Nat.reduceEqDiff];done)|fail) only[go_sem, ↓reduceIte,Int.reduceToNat,Int.reduceLE,Int.reduceLT,Int.reduceSub,Int.reduceAdd,Nat.reduceEqDiff,Nat.reduceAdd,Nat.reduceLeDiff,Nat.reduceLT,Nat.reduceMul,Nat.reduceSub,F,bi];rfl) (by simp) ?_ ?_
    ·simp[maxLen];omega
    simp(disch:=first|omega| (simp only[go_sem, ↓reduceIte,Nat.reduceEqDiff];done)|fail) only[go_sem, ↓reduceIte,Int.reduceToNat,Int.reduceLE,Int.reduceLT,Int.reduceSub,Int.reduceAdd,Nat.reduceEqDiff,Nat.reduceAdd,Nat.reduceLeDiff,Nat.reduceLT,Nat.reduceMul,Nat.reduceSub,F];refine af F ?_;refine au hQ F ?_;have e:=Bi ⟨hr0,hr1⟩ (by omega) (by omega);have le:(enc r).length=3:=(by simpa using O6 List.length e);have:=end_ _ rfl;simp only[bufR,R3,e,le]at this;have m0:r/4096%256=r/4096:=(by omega);have m1:r/64%256%64=r/64%64:=(by omega);have m2:r%256%64=r%64:=(by omega);simp only[bufR,R3,e,le,m0,m1,m2,M6,N4,R2,Nat.reduceAdd];exact this
   ·exfalso;omega
  ·(first|refine aX F (fun hg=>?_) (fun hg=>?_)|refine aY F (fun hg=>?_) (fun hg=>?_))<;>(try exact hg.elim)<;>(try refine ai F ?_)<;>(refine af F ?_)
   ·refine aD F (fun hc=>?_) (fun hc=>?_)<;>(try exact hc.elim)<;>(refine af F ?_)
    ·refine bQ (.inl rfl) (by exact az F) (by exact az F) cD eB (by omega) (de _ _) (by simp(disch:=first|omega| (simp only[go_sem, ↓reduceIte,Nat.reduceEqDiff];done)|fail) only[go_sem, ↓reduceIte,Int.reduceToNat,Int.reduceLE,Int.reduceLT,Int.reduceSub,Int.reduceAdd,Nat.reduceEqDiff,Nat.reduceAdd,Nat.reduceLeDiff,Nat.reduceLT,Nat.reduceMul,Nat.reduceSub,F,bi];rfl) (by simp) ?_ ?_
     ·simp[maxLen];omega
     simp(disch:=first|omega| (simp only[go_sem, ↓reduceIte,Nat.reduceEqDiff];done)|fail) only[go_sem, ↓reduceIte,Int.reduceToNat,Int.reduceLE,Int.reduceLT,Int.reduceSub,Int.reduceAdd,Nat.reduceEqDiff,Nat.reduceAdd,Nat.reduceLeDiff,Nat.reduceLT,Nat.reduceMul,Nat.reduceSub,F];refine af F ?_;refine au hQ F ?_;have e:=Bi ⟨hr0,hr1⟩ (by omega) (by omega);have le:(enc r).length=3:=(by simpa using O6 List.length e);have:=end_ _ rfl;simp only[bufR,R3,e,le]at this;have m0:r/4096%256=r/4096:=(by omega);have m1:r/64%256%64=r/64%64:=(by omega);have m2:r%256%64=r%64:=(by omega);simp only[bufR,R3,e,le,m0,m1,m2,M6,N4,R2,Nat.reduceAdd];exact this
    ·(first|refine aX F (fun hg=>?_) (fun hg=>?_)|refine aY F (fun hg=>?_) (fun hg=>?_))<;>(try exact hg.elim)<;>(try refine ai F ?_)<;>(refine af F ?_)
     ·refine aD F (fun hc=>?_) (fun hc=>?_)<;>(try exact hc.elim)<;>(refine af F ?_)
      ·refine bQ (.inl rfl) (by exact az F) (by exact az F) cD eB (by omega) (de _ _) (by simp(disch:=first|omega| (simp only[go_sem, ↓reduceIte,Nat.reduceEqDiff];done)|fail) only[go_sem, ↓reduceIte,Int.reduceToNat,Int.reduceLE,Int.reduceLT,Int.reduceSub,Int.reduceAdd,Nat.reduceEqDiff,Nat.reduceAdd,Nat.reduceLeDiff,Nat.reduceLT,Nat.reduceMul,Nat.reduceSub,F,bi];rfl) (by simp) ?_ ?_
       ·simp[maxLen];omega
       simp(disch:=first|omega| (simp only[go_sem, ↓reduceIte,Nat.reduceEqDiff];done)|fail) only[go_sem, ↓reduceIte,Int.reduceToNat,Int.reduceLE,Int.reduceLT,Int.reduceSub,Int.reduceAdd,Nat.reduceEqDiff,Nat.reduceAdd,Nat.reduceLeDiff,Nat.reduceLT,Nat.reduceMul,Nat.reduceSub,F];refine af F ?_;refine au hQ F ?_;have e:=HG (r:=r) (by omega) (by omega);have le:(enc r).length=4:=(by simpa using O6 List.length e);have:=end_ _ rfl;simp only[bufR,R3,e,le]at this;have m0:r/262144%256=r/262144:=(by omega);have m1:r/4096%256%64=r/4096%64:=(by omega);have m2:r/64%256%64=r/64%64:=(by omega);have m3:r%256%64=r%64:=(by omega);simp only[bufR,R3,e,le,m0,m1,m2,m3,M6,N4,R2,Nat.reduceAdd];exact this
      ·exfalso;omega
     ·exfalso;omega
   ·exfalso;omega
theorem lY(r:Int)(hr:Rune r)(h j:Heap)(X:Blk)(v:Nat)(s:Bs)(hs:s.length≤1073741824):
  Sat (CT G) 185 [.hs (h.length+1) v 0 s.length true,.int .i32 r] (h++X::bufR v s::j)
   (fun x h'=>x=.hs (h.length+1) (v+1) 0 (s.length+(enc r).length) true∧h'=h++X::bufR (v+1) (s++enc r)::j):=by
 have end_:∀l,l=enc r→Fin (h++X::bufR v s::j) (h++X::bufR (v+1) (s++l)::j) (fun x h'=>x=.hs (h.length+1) (v+1) 0 (s.length+(enc r).length) true∧h'=h++X::bufR (v+1) (s++enc r)::j) (.hs (h.length+1) (v+1) 0 (s.length+l.length) true):=fun l hl=>by
  subst hl;refine Fin.keep0 (by simp) (fun p k hk=>?_) (.hs _ _ _ _ _ (by simp)) ⟨rfl,rfl⟩;rcases U7 p h.length with h1|h1
  ·rw[M5 h1]at hk ⊢;exact .inl hk
  ·rw[M9 h1]at hk ⊢
   match p-h.length,hk with
   |0,hk=>exact .inl hk
   |1,hk=>simp at hk;subst hk;exact .inr (jg _ _ _)
   |i+2,hk=>exact .inl hk
 have hr':=hr;obtain⟨hr0,hr1⟩:=hr;have F:=F2 @mY @kU;refine sb [.tmp 4] Tryz.func185 ?_;intro Q hQ;refine af F ?_;refine aD F (fun hc=>?_) (fun hc=>?_)<;>(try exact hc.elim)<;>(refine af F ?_)
 ·refine bQ (.inl rfl) (by exact az F) (by exact az F) cD eB (by omega) (de _ _) (by simp(disch:=first|omega| (simp only[go_sem, ↓reduceIte,Nat.reduceEqDiff];done)|fail) only[go_sem, ↓reduceIte,Int.reduceToNat,Int.reduceLE,Int.reduceLT,Int.reduceSub,Int.reduceAdd,Nat.reduceEqDiff,Nat.reduceAdd,Nat.reduceLeDiff,Nat.reduceLT,Nat.reduceMul,Nat.reduceSub,F,bi];rfl) (by simp) ?_ ?_
  ·simp[maxLen];omega
  simp(disch:=first|omega| (simp only[go_sem, ↓reduceIte,Nat.reduceEqDiff];done)|fail) only[go_sem, ↓reduceIte,Int.reduceToNat,Int.reduceLE,Int.reduceLT,Int.reduceSub,Int.reduceAdd,Nat.reduceEqDiff,Nat.reduceAdd,Nat.reduceLeDiff,Nat.reduceLT,Nat.reduceMul,Nat.reduceSub,F];refine af F ?_;refine au hQ F ?_;have e:=HE (r:=r) (by omega) (by omega);have le:(enc r).length=1:=by simpa using O6 List.length e
  have:=end_ _ rfl;simp only[bufR,R3,e,le]at this;have m0:r%256=r:=by omega
  simp only[bufR,R3,e,le,m0,M6,N4,R2,Nat.reduceAdd];exact this
 ·refine aH F (ga G r hr' (by omega) h j X v s hs) ?_;refine au hQ F ?_;exact end_ _ rfl
theorem cZ(a:AVal)(r:Int)(hr:Rune r)(h j:Heap)(v:Nat)(s:Bs)(ha:bldA a h.length)(hs:s.length≤1073741824):
  Sat (CT G) 152 [.hp h.length 0 0 0,.int .i32 r] (bldH h j a v s) (fun x h'=>x=.tup [.int .i64 (enc r).length,.nil .nilIface]∧h'=bldH h j (.hp h.length 0 0 0) (v+1) (s++enc r)):=by
 have end_:Fin (bldH h j a v s) (bldH h j (.hp h.length 0 0 0) (v+1) (s++enc r)) (fun x h'=>x=.tup [.int .i64 (enc r).length,.nil .nilIface]∧h'=bldH h j (.hp h.length 0 0 0) (v+1) (s++enc r)) (.tup [.int .i64 (enc r).length,.nil .nilIface]):=
  Fin.keep0 ((ch ..).trans (ch ..).symm) (fM _ _ _ _ _ _ _) (.tup _ (by intro c hc;simp at hc;rcases hc with rfl|rfl;exact .int _ _;exact .nil _)) ⟨rfl,rfl⟩
 have F:= @bi;refine sb [.tmp 4,.tmp 5] Tryz.func152 ?_;intro Q hQ;refine af F ?_;refine(eO G a h j v s ha).mono ?_;rintro x h' ⟨rfl,rfl⟩;unfold bldH at*;try refine ai F ?_
 refine af F ?_;refine aH F (lY G r hr h j _ v s hs) ?_;refine(hQ _ _ ?_).1;simp(disch:=first|omega| (simp only[go_sem, ↓reduceIte,Nat.reduceEqDiff];done)|fail) only[go_sem, ↓reduceIte,Int.reduceToNat,Int.reduceLE,Int.reduceLT,Int.reduceSub,Int.reduceAdd,Nat.reduceEqDiff,Nat.reduceAdd,Nat.reduceLeDiff,Nat.reduceLT,Nat.reduceMul,Nat.reduceSub,F];have hl:=dM r;simp only[bldR,bufR,M3,R3]at end_ ⊢;rw[show IntKind.wrap .i64 (((s.length+(enc r).length:Nat):Int)-(s.length:Nat))=((enc r).length:Nat)from by rw[iL (by omega) (by omega)];omega];exact end_
end Go.Av
namespace Go.Av
open Go Go.Proofs Go.RowKit
def dec(s:Bs)(k:Nat):Nat×Nat:=Utf8.decode ⟨s.toArray⟩ k
theorem fN(s:Bs)(k:Nat):dec s k=Lib.decodeN (s.length-k) (s.getD k 0).toNat (s.getD (k+1) 0).toNat (s.getD (k+2) 0).toNat (s.getD (k+3) 0).toNat:=by
 unfold dec;rw[Lib.decode_N]
theorem ax(n:Nat)(h:n<256):(UInt8.ofNat n).toNat=n:=by simp;omega
def fix(r:Int):Nat:=if Utf8.valid r=true then r.toNat else Utf8.runeError
theorem oF(r:Int):fix r≤1114111:=by
 unfold fix Utf8.valid Utf8.runeError;split
 ·rename_i h;simp at h;omega
 ·omega
theorem r8(r:Int):fix r<55296∨57344≤fix r:=by
 unfold fix Utf8.valid Utf8.runeError;split
 ·rename_i h;simp at h;omega
 ·omega
theorem gx(r:Int):enc r=let c:=fix r
  if c<0x80 then [UInt8.ofNat c]
  else if c<0x800 then [UInt8.ofNat (0xC0+c/64),UInt8.ofNat (0x80+c%64)]
  else if c<0x10000 then [UInt8.ofNat (0xE0+c/4096),UInt8.ofNat (0x80+c/64%64),UInt8.ofNat (0x80+c%64)]
  else [UInt8.ofNat (0xF0+c/262144),UInt8.ofNat (0x80+c/4096%64),UInt8.ofNat (0x80+c/64%64),UInt8.ofNat (0x80+c%64)]:=by
 unfold enc Utf8.encode fix;simp only[];split
 ·split
  ·rfl
  ·split
   ·rfl
   ·split<;>rfl
 ·rfl
theorem zt(r:Int):dec (enc r) 0=(fix r,(enc r).length):=by
 have hl:=oF r;have hs:=r8 r;rw[fN,gx];generalize fix r=c at*;simp only[];by_cases h1:c<128
 ·rw[M7 h1];simp only[V4,M6,N4];rw[ax _ (by omega)];simp[Lib.decodeN,h1]
 ·rw[M1 h1];by_cases h2:c<2048
  ·rw[M7 h2];simp only[V4,X2,M6,N4,R2];rw[ax _ (by omega),ax _ (by omega)];unfold Lib.decodeN;rw[M1 (by omega),M7 (by omega),M7 (by omega)];congr 1;omega
  ·rw[M1 h2];by_cases h3:c<65536
   ·rw[M7 h3];simp only[V4,X2,M6,N4,R2];rw[ax _ (by omega),ax _ (by omega),ax _ (by omega)];unfold Lib.decodeN;rw[M1 (by omega),M1 (by omega),M7 (by omega),M7 (by omega)];congr 1;omega
   ·rw[M1 h3];simp only[V4,X2,M6,N4,R2];rw[ax _ (by omega),ax _ (by omega),ax _ (by omega),ax _ (by omega)];unfold Lib.decodeN;rw[M1 (by omega),M1 (by omega),M1 (by omega),M7 (by omega),M7 (by omega)];congr 1;omega
theorem aR(s:Bs)(k:Nat)(h:k<s.length):1≤(dec s k).2∧k+(dec s k).2≤s.length:=by
 rw[fN];refine⟨Lib.decodeN_ge1 _ _ _ _ _,?_⟩;unfold Lib.decodeN;repeat (first|split| (simp only[];omega))
theorem fO(s:Bs)(k:Nat)(b:UInt8)(h:s[k]? =some b)(ha:b.toNat<128):dec s k=(b.toNat,1):=by
 rw[fN,Z7,h];exact Lib.decodeN_ascii _ _ _ _ _ ha
theorem jU(s:Bs)(k:Nat)(b:UInt8)(h:s[k]? =some b)(ha:128≤b.toNat):
  128≤(dec s k).1∧((dec s k).1<55296∨57343<(dec s k).1∧(dec s k).1≤1114111)∧∀i,i<(dec s k).2→∀c,s[k+i]? =some c→128≤c.toNat:=by
 have hb:s.getD k 0=b:=by rw[Z7,h];rfl
 have at_:∀i c,s[k+i]? =some c→s.getD (k+i) 0=c:=fun i c hc=>by rw[Z7,hc];rfl
 have l0:∀i,(s.getD i 0).toNat<256:=fun i=>(s.getD i 0).toNat_lt
 have e1:=l0 (k+1);have e2:=l0 (k+2);have e3:=l0 (k+3);have e0:=b.toNat_lt
 rw[fN,hb];generalize h1:(s.getD (k+1) 0).toNat=b1 at*;generalize h2:(s.getD (k+2) 0).toNat=b2 at*;generalize h3:(s.getD (k+3) 0).toNat=b3 at*;have key:∀i c,s[k+i]? =some c→(i=0→c.toNat=b.toNat)∧(i=1→c.toNat=b1)∧(i=2→c.toNat=b2)∧(i=3→c.toNat=b3):=fun i c hc=>by
  have:=at_ i c hc;refine⟨fun e=>?_,fun e=>?_,fun e=>?_,fun e=>?_⟩<;>subst e
  ·rw[← this];simp only[W1];rw[hb]
  ·rw[← h1,this]
  ·rw[← h2,this]
  ·rw[← h3,this]
 generalize s.length-k=n;have fin:∀x m:Nat,(128≤x∧(x<55296∨57343<x∧x≤1114111))→(∀i,i<m→(i=0∧128≤b.toNat)∨(i=1∧128≤b1)∨(i=2∧128≤b2)∨(i=3∧128≤b3))→
   128≤(x,m).1∧((x,m).1<55296∨57343<(x,m).1∧(x,m).1≤1114111)∧∀i,i<(x,m).2→∀c,s[k+i]? =some c→128≤c.toNat:=fun x m hx hm=>
  ⟨hx.1,hx.2,fun i hi c hc=>by
   obtain⟨k0,k1,k2,k3⟩:=key i c hc;rcases hm i hi with⟨e,h⟩| ⟨e,h⟩| ⟨e,h⟩| ⟨e,h⟩
   ·rw[k0 e];exact h
   ·rw[k1 e];exact h
   ·rw[k2 e];exact h
   ·rw[k3 e];exact h⟩
 unfold Lib.decodeN;rw[M1 (by omega)];split
 ·split
  ·exact fin _ _ (by omega) (fun i hi=>by omega)
  ·exact fin _ _ (by omega) (fun i hi=>by omega)
 ·split
  ·split
   ·exact fin _ _ (by omega) (fun i hi=>by omega)
   ·exact fin _ _ (by omega) (fun i hi=>by omega)
  ·split
   ·split
    ·exact fin _ _ (by omega) (fun i hi=>by omega)
    ·exact fin _ _ (by omega) (fun i hi=>by omega)
   ·exact fin _ _ (by omega) (fun i hi=>by omega)
end Go.Av
namespace Go.Av
open Go Go.Proofs Go.RowKit
attribute [local irreducible] WP WPl WPix Sat
variable (G:Nat→Option (List AVal))
def digF(c base:Int):Int:=
 let n:=if 48≤c∧c≤57 then c-48 else if 97≤c∧c≤102 then c-87 else if 65≤c∧c≤70 then c-55 else-1
 if base≤n then-1 else n
def numGo(base:Int):Bs→Int→Int
 | [],n=>n
 |b::t,n=>if digF b.toNat base<0 then-1 else numGo base t (base*n+digF b.toNat base)
def numF(s:Bs)(base:Int)(most:Nat):Int:=if s=[]∨most<s.length then-1 else numGo base s 0
def rightF(n:Int):Bool:=decide (n=9)||decide (n=10)||decide (n=13)||(decide (32≤n)&& !decide (enc n=[239,191,189]))
theorem r9(c base:Int)(h:0≤base):digF c base<base∨digF c base= -1:=by unfold digF;simp only[];split<;>omega
theorem mZ(c base:Int)(h:128≤c):digF c base= -1:=by
 unfold digF;simp only[];rw[M1 (c:=48≤c∧c≤57) (by omega),M1 (c:=97≤c∧c≤102) (by omega),M1 (c:=65≤c∧c≤70) (by omega)];split<;>rfl
theorem fP{x:Int}(h0: -2147483648≤x)(h1:x≤2147483647):IntKind.i32.wrap x=x:=by
 simp only[IntKind.wrap,IntKind.bits,IntKind.signed];simp;omega
theorem xc(k:IntKind)(n:Int)(h0: -9223372036854775808≤n)(h1:n≤9223372036854775807):aconv Tryz.prog 21 3 (.int k n)=some (.int .i64 n):=by simp only[aconv,go_sem,iL h0 h1]
theorem oG(k:IntKind)(n:Int)(h0: -2147483648≤n)(h1:n≤2147483647):aconv Tryz.prog 3 21 (.int k n)=some (.int .i32 n):=by simp only[aconv,go_sem,fP h0 h1]
theorem na(c base:Int)(hc:0≤c)(hc1:c≤1114111)(hb:0≤base)(hb1:base≤16)(h:Heap):
  Sat (CT G) 280 [.int .i32 c,.int .i64 base] h (fun r h'=>r=.int .i64 (digF c base)∧h'=h):=by
 have F:=F2 @xc @fP;refine sb [.tmp 4] Tryz.func280 ?_;intro Q hQ;(repeat (first|refine w1 (fun K hK=>?_)|refine w2 ?_|refine w3 ?_| ((first|refine w4 ?_|refine wD ?_|refine w5 ?_|refine w6 ?_|refine w7 ?_);try refine ai F ?_)| (refine w8 ?_;refine ai F ?_;refine w9 ?_)| ((first|refine hK _ _ (w0 ?_)| (clear hK K;refine hK _ _ (w0 ?_))| (clear hK K;clear hK K;refine hK _ _ (w0 ?_)));clear hK K)))
 rename_i K0 hK0;have tail:∀(n:Int) (t':Env),t' 5=.int .i64 n→t' 1=.int .i64 base→n=(if 48≤c∧c≤57 then c-48 else if 97≤c∧c≤102 then c-87 else if 65≤c∧c≤70 then c-55 else-1)→K0 t' h:=by
  intro n t' e5 e1 hn;have hd:digF c base=if base≤n then-1 else n:=by subst hn;rfl
  refine hK0 _ _ (N6 ?_);clear hK0 K0 hK K;have F:=F3 F e5 e1;(repeat (first|refine w1 (fun K hK=>?_)|refine w2 ?_|refine w3 ?_| ((first|refine w4 ?_|refine wD ?_|refine w5 ?_|refine w6 ?_|refine w7 ?_);try refine ai F ?_)| (refine w8 ?_;refine ai F ?_;refine w9 ?_)| ((first|refine hK _ _ (w0 ?_)| (clear hK K;refine hK _ _ (w0 ?_))| (clear hK K;clear hK K;refine hK _ _ (w0 ?_)));clear hK K)))
  refine aD F (fun hc=>?_) (fun hc=>?_)<;>(try exact hc.elim)<;>((repeat (first|refine w1 (fun K hK=>?_)|refine w2 ?_|refine w3 ?_| ((first|refine w4 ?_|refine wD ?_|refine w5 ?_|refine w6 ?_|refine w7 ?_);try refine ai F ?_)| (refine w8 ?_;refine ai F ?_;refine w9 ?_)| ((first|refine hK _ _ (w0 ?_)| (clear hK K;refine hK _ _ (w0 ?_))| (clear hK K;clear hK K;refine hK _ _ (w0 ?_)));clear hK K))))
  ·refine au hQ F ?_;refine fR (.int _ _) ?_;rw[hd,M7 hc]
  ·refine au hQ F ?_;refine fR (.int _ _) ?_;rw[hd,M1 (by omega)]
 (first|refine aX F (fun g1=>?_) (fun g1=>?_)|refine aY F (fun g1=>?_) (fun g1=>?_))<;>(try exact g1.elim)<;>(try refine ai F ?_)<;>((repeat (first|refine w1 (fun K hK=>?_)|refine w2 ?_|refine w3 ?_| ((first|refine w4 ?_|refine wD ?_|refine w5 ?_|refine w6 ?_|refine w7 ?_);try refine ai F ?_)| (refine w8 ?_;refine ai F ?_;refine w9 ?_)| ((first|refine hK _ _ (w0 ?_)| (clear hK K;refine hK _ _ (w0 ?_))| (clear hK K;clear hK K;refine hK _ _ (w0 ?_)));clear hK K))))
 ·refine aD F (fun hc=>?_) (fun hc=>?_)<;>(try exact hc.elim)<;>((repeat (first|refine w1 (fun K hK=>?_)|refine w2 ?_|refine w3 ?_| ((first|refine w4 ?_|refine wD ?_|refine w5 ?_|refine w6 ?_|refine w7 ?_);try refine ai F ?_)| (refine w8 ?_;refine ai F ?_;refine w9 ?_)| ((first|refine hK _ _ (w0 ?_)| (clear hK K;refine hK _ _ (w0 ?_))| (clear hK K;clear hK K;refine hK _ _ (w0 ?_)));clear hK K))))
  ·refine tail (c-48) _ ?_ ?_ ?_
   ·exact az F
   ·exact az F
   ·rw[M7 (by omega)]
  ·(first|refine aX F (fun g2=>?_) (fun g2=>?_)|refine aY F (fun g2=>?_) (fun g2=>?_))<;>(try exact g2.elim)<;>(try refine ai F ?_)<;>((repeat (first|refine w1 (fun K hK=>?_)|refine w2 ?_|refine w3 ?_| ((first|refine w4 ?_|refine wD ?_|refine w5 ?_|refine w6 ?_|refine w7 ?_);try refine ai F ?_)| (refine w8 ?_;refine ai F ?_;refine w9 ?_)| ((first|refine hK _ _ (w0 ?_)| (clear hK K;refine hK _ _ (w0 ?_))| (clear hK K;clear hK K;refine hK _ _ (w0 ?_)));clear hK K))))
   ·refine aD F (fun hc=>?_) (fun hc=>?_)<;>(try exact hc.elim)<;>((repeat (first|refine w1 (fun K hK=>?_)|refine w2 ?_|refine w3 ?_| ((first|refine w4 ?_|refine wD ?_|refine w5 ?_|refine w6 ?_|refine w7 ?_);try refine ai F ?_)| (refine w8 ?_;refine ai F ?_;refine w9 ?_)| ((first|refine hK _ _ (w0 ?_)| (clear hK K;refine hK _ _ (w0 ?_))| (clear hK K;clear hK K;refine hK _ _ (w0 ?_)));clear hK K))))
    ·refine tail (c-87) _ ?_ ?_ ?_
     ·simp(disch:=first|omega| (simp only[go_sem, ↓reduceIte,Nat.reduceEqDiff];done)|fail) only[go_sem, ↓reduceIte,Int.reduceToNat,Int.reduceLE,Int.reduceLT,Int.reduceSub,Int.reduceAdd,Nat.reduceEqDiff,Nat.reduceAdd,Nat.reduceLeDiff,Nat.reduceLT,Nat.reduceMul,Nat.reduceSub,F];congr 1;omega
     ·exact az F
     ·rw[M1 (by omega),M7 (by omega)]
    ·(first|refine aX F (fun hg=>?_) (fun hg=>?_)|refine aY F (fun hg=>?_) (fun hg=>?_))<;>(try exact hg.elim)<;>(try refine ai F ?_)<;>((repeat (first|refine w1 (fun K hK=>?_)|refine w2 ?_|refine w3 ?_| ((first|refine w4 ?_|refine wD ?_|refine w5 ?_|refine w6 ?_|refine w7 ?_);try refine ai F ?_)| (refine w8 ?_;refine ai F ?_;refine w9 ?_)| ((first|refine hK _ _ (w0 ?_)| (clear hK K;refine hK _ _ (w0 ?_))| (clear hK K;clear hK K;refine hK _ _ (w0 ?_)));clear hK K))))
     ·refine aD F (fun hc=>?_) (fun hc=>?_)<;>(try exact hc.elim)<;>((repeat (first|refine w1 (fun K hK=>?_)|refine w2 ?_|refine w3 ?_| ((first|refine w4 ?_|refine wD ?_|refine w5 ?_|refine w6 ?_|refine w7 ?_);try refine ai F ?_)| (refine w8 ?_;refine ai F ?_;refine w9 ?_)| ((first|refine hK _ _ (w0 ?_)| (clear hK K;refine hK _ _ (w0 ?_))| (clear hK K;clear hK K;refine hK _ _ (w0 ?_)));clear hK K))))
      ·exfalso;omega
      ·refine tail (-1) _ ?_ ?_ ?_
       ·exact az F
       ·exact az F
       ·rw[M1 (by omega),M1 (by omega),M1 (by omega)]
     ·exfalso;omega
   ·(first|refine aX F (fun hg=>?_) (fun hg=>?_)|refine aY F (fun hg=>?_) (fun hg=>?_))<;>(try exact hg.elim)<;>(try refine ai F ?_)<;>((repeat (first|refine w1 (fun K hK=>?_)|refine w2 ?_|refine w3 ?_| ((first|refine w4 ?_|refine wD ?_|refine w5 ?_|refine w6 ?_|refine w7 ?_);try refine ai F ?_)| (refine w8 ?_;refine ai F ?_;refine w9 ?_)| ((first|refine hK _ _ (w0 ?_)| (clear hK K;refine hK _ _ (w0 ?_))| (clear hK K;clear hK K;refine hK _ _ (w0 ?_)));clear hK K))))
    ·refine aD F (fun hc=>?_) (fun hc=>?_)<;>(try exact hc.elim)<;>((repeat (first|refine w1 (fun K hK=>?_)|refine w2 ?_|refine w3 ?_| ((first|refine w4 ?_|refine wD ?_|refine w5 ?_|refine w6 ?_|refine w7 ?_);try refine ai F ?_)| (refine w8 ?_;refine ai F ?_;refine w9 ?_)| ((first|refine hK _ _ (w0 ?_)| (clear hK K;refine hK _ _ (w0 ?_))| (clear hK K;clear hK K;refine hK _ _ (w0 ?_)));clear hK K))))
     ·refine tail (c-55) _ ?_ ?_ ?_
      ·simp(disch:=first|omega| (simp only[go_sem, ↓reduceIte,Nat.reduceEqDiff];done)|fail) only[go_sem, ↓reduceIte,Int.reduceToNat,Int.reduceLE,Int.reduceLT,Int.reduceSub,Int.reduceAdd,Nat.reduceEqDiff,Nat.reduceAdd,Nat.reduceLeDiff,Nat.reduceLT,Nat.reduceMul,Nat.reduceSub,F];congr 1;omega
      ·exact az F
      ·rw[M1 (by omega),M1 (by omega),M7 (by omega)]
     ·refine tail (-1) _ ?_ ?_ ?_
      ·exact az F
      ·exact az F
      ·rw[M1 (by omega),M1 (by omega),M1 (by omega)]
    ·refine tail (-1) _ ?_ ?_ ?_
     ·exact az F
     ·exact az F
     ·rw[M1 (by omega),M1 (by omega),M1 (by omega)]
 ·(first|refine aX F (fun hg=>?_) (fun hg=>?_)|refine aY F (fun hg=>?_) (fun hg=>?_))<;>(try exact hg.elim)<;>(try refine ai F ?_)<;>((repeat (first|refine w1 (fun K hK=>?_)|refine w2 ?_|refine w3 ?_| ((first|refine w4 ?_|refine wD ?_|refine w5 ?_|refine w6 ?_|refine w7 ?_);try refine ai F ?_)| (refine w8 ?_;refine ai F ?_;refine w9 ?_)| ((first|refine hK _ _ (w0 ?_)| (clear hK K;refine hK _ _ (w0 ?_))| (clear hK K;clear hK K;refine hK _ _ (w0 ?_)));clear hK K))))
  ·exfalso;omega
  ·(first|refine aX F (fun hg=>?_) (fun hg=>?_)|refine aY F (fun hg=>?_) (fun hg=>?_))<;>(try exact hg.elim)<;>(try refine ai F ?_)<;>((repeat (first|refine w1 (fun K hK=>?_)|refine w2 ?_|refine w3 ?_| ((first|refine w4 ?_|refine wD ?_|refine w5 ?_|refine w6 ?_|refine w7 ?_);try refine ai F ?_)| (refine w8 ?_;refine ai F ?_;refine w9 ?_)| ((first|refine hK _ _ (w0 ?_)| (clear hK K;refine hK _ _ (w0 ?_))| (clear hK K;clear hK K;refine hK _ _ (w0 ?_)));clear hK K))))
   ·exfalso;omega
   ·refine tail (-1) _ ?_ ?_ ?_
    ·exact az F
    ·exact az F
    ·rw[M1 (by omega),M1 (by omega),M1 (by omega)]
theorem dN(h j:Heap)(s:Bs)(q:Nat):(h++Blk.iter s q::j)[h.length]? =some (.iter s q):=by simp
theorem kV(s:Bs)(base:Int)(most:Nat)(hb0:1≤base)(hb1:base≤16)(hm:most≤7)(hs:s.length≤1073741824)(h:Heap):
  Sat (CT G) 266 [.str s,.int .i64 base,.int .i64 most] h (fun r h'=>r=.int .i64 (numF s base most)∧h'=h):=by
 refine sb [.tmp 6] Tryz.func266 ?_;intro Q hQ;refine af trivial ?_;(first|refine aX trivial (fun hg=>?_) (fun hg=>?_)|refine aY trivial (fun hg=>?_) (fun hg=>?_))<;>(try exact hg.elim)<;>(try refine ai trivial ?_)<;>(refine af trivial ?_)
 ·refine au hQ trivial ?_;refine fR (.int _ _) ?_;unfold numF;rw[M7 (.inl hg)]
 ·refine aD trivial (fun hc=>?_) (fun hc=>?_)<;>(try exact hc.elim)<;>(refine af trivial ?_)
  ·refine au hQ trivial ?_;refine fR (.int _ _) ?_;unfold numF;rw[M7 (.inr hc)]
  ·have hn:numF s base most=numGo base s 0:=(by unfold numF;rw[M1 (by rintro(h1|h1);exact hg h1;omega)]);rw[hn]at hQ;have h16:(16:Int)^s.length≤268435456:=by
    have:(16:Nat)^s.length≤16^7:=Nat.pow_le_pow_right (by omega) (by omega);have:((16^s.length:Nat):Int)≤((16^7:Nat):Int):=by omega
    simpa using this
   refine lm (fun nL tL hL=>∃(k:Nat) (n:Int),s.length-k=nL∧h++[.iter s k]=hL∧tL 7=.int .i64 n∧k≤s.length∧numGo base s 0=numGo base (s.drop k) n∧0≤n∧n<16^k) ((fun(k:Nat) (n:Int)=>(s.length-k:Nat)) (0) (0)) ?_ ?_
   ·refine N6 ⟨0,0,rfl,aw,?_,by omega,by simp,by omega,by simp⟩;all_goals first|exact az trivial|rfl|omega|trivial|skip
   rintro _ s2 h' ⟨k,n,rfl,rfl,e7,hk,hv,h0,h1⟩ K2 hK2;simp only[aj,am,Nat.reduceEqDiff, ↓reduceIte]at e7;have F:=e7;refine af F ?_;refine cg (dN _ _ _ _) (fun hlt=>?_) (fun hge=>?_)
   ·have hb:=M4 hlt;have hdrop:=Y7 hlt;have hbn0:0≤base*n:=Int.mul_nonneg (by omega) h0;have hbn1:base*n≤16*n:=Int.mul_le_mul_of_nonneg_right hb1 h0;have hk16:(16:Int)^(k+1)≤268435456:=by
     have:(16:Nat)^(k+1)≤16^7:=Nat.pow_le_pow_right (by omega) (by omega);have:((16^(k+1):Nat):Int)≤((16^7:Nat):Int):=by omega
     simpa using this
    have hk17:(16:Int)^(k+1)=16^k*16:=Int.pow_succ _ _;rw[hdrop,numGo]at hv;by_cases ha:s[k].toNat<128
    ·have hd:Utf8.decode ⟨s.toArray⟩ k=(s[k].toNat,1):=fO s k _ hb ha;have hlt':=r9 s[k].toNat base (by omega);rw[hd];(try refine ai F ?_);refine af F ?_;refine aH F (na G s[k].toNat base (by omega) (by omega) (by omega) hb1 _) ?_;refine aD F (fun hc=>?_) (fun hc=>?_)<;>(try exact hc.elim)
     ·refine af F ?_;refine au hQ F ?_;refine fR (.int _ _) ?_;rw[hv,M7 hc]
     ·rw[M1 (by omega)]at hv;refine af F ?_;refine hK2 _ _ _ (N6 ⟨k+1,base*n+digF s[k].toNat base,rfl,aw,?_,by omega,hv,by omega,by omega⟩) (by omega);all_goals first|exact az F|rfl|omega|trivial|skip
    ·have hd:=jU s k _ hb (by omega);unfold dec at hd;(try refine ai F ?_);refine af F ?_;refine aH F (na G (Utf8.decode ⟨s.toArray⟩ k).1 base (by omega) (by omega) (by omega) hb1 _) ?_;refine aD F (fun hc=>?_) (fun hc=>?_)<;>(try exact hc.elim)
     ·refine af F ?_;refine au hQ F ?_;refine fR (.int _ _) ?_;rw[hv,M7 (by rw[mZ _ _ (by omega)];omega)]
     ·exfalso;rw[mZ _ _ (by omega)]at hc;omega
   ·(try refine ai F ?_);refine af F ?_;refine au hQ F ?_;refine fR (.int _ _) ?_;rw[hv,Y4 (by omega)];rfl
theorem ra{r:Int}(h:fix r=65533):enc r=[239,191,189]:=by rw[gx,h];rfl
theorem oH(r:Int)(h:Heap):Sat (CT G) 184 [.str (enc r)] h (fun x h'=>x=.bool true∧h'=h):=by
 have hl:=dM r;have hd:Utf8.decode ⟨(enc r).toArray⟩ 0=(fix r,(enc r).length):=zt r;have hfl:=oF r;refine sb [.tmp 2] Tryz.func184 ?_;intro Q hQ;refine af trivial ?_;refine lm (fun nL tL hL=>∃(k:Nat),(enc r).length-k=nL∧h++[.iter (enc r) k]=hL∧(k=0∨k=(enc r).length)) ((fun(k:Nat)=>((enc r).length-k:Nat)) (0)) ?_ ?_
 ·refine N6 ⟨0,rfl,aw,.inl rfl⟩;all_goals first|exact az trivial|rfl|omega|trivial|skip
 rintro _ s2 h' ⟨k,rfl,rfl,hk⟩ K2 hK2;refine af trivial ?_;refine cg (dN _ _ _ _) (fun hlt=>?_) (fun hge=>?_)
 ·obtain rfl:k=0:=by omega
  rw[hd];try refine ai trivial ?_
  refine af trivial ?_;(first|refine aX trivial (fun hg=>?_) (fun hg=>?_)|refine aY trivial (fun hg=>?_) (fun hg=>?_))<;>(try exact hg.elim)<;>(try refine ai trivial ?_)<;>(refine af trivial ?_)
  ·have hp:Lib.hasPrefix (enc r) [239,191,189]=true:=(by rw[ra (by omega)];rfl);have F:=F2 hp @X1;refine aH F (eN G (enc r) [239,191,189] _) ?_;refine hK2 _ _ _ (N6 ⟨(enc r).length,rfl,aw,.inr rfl⟩) (by omega);all_goals first|exact az F|rfl|omega|trivial|skip
  ·refine hK2 _ _ _ (N6 ⟨(enc r).length,rfl,aw,.inr rfl⟩) (by omega);all_goals first|exact az trivial|rfl|omega|trivial|skip
 ·try refine ai trivial ?_
  refine af trivial ?_;refine au hQ trivial ?_;refine fR (.bool _) ?_;rfl
theorem uG(n:Int)(h0:0≤n)(h1:n≤2147483647)(h:Heap):Sat (CT G) 267 [.int .i64 n] h (fun x h'=>x=.bool (rightF n)∧h'=h):=by
 have ht:n=9∨n=10∨n=13∨(n≠9∧n≠10∧n≠13):=by omega
 rcases ht with e|e|e| ⟨h9,h10,h13⟩
 ·have b9:(n==9)=true:=by simpa using e
  have F:=b9;refine sb [.tmp 2] Tryz.func267 ?_;intro Q hQ;refine af F ?_;refine au hQ F ?_;refine fR (.bool _) ?_;simp[rightF,e]
 ·have b9:(n==9)=false:=by simp;omega
  have b10:(n==10)=true:=by simpa using e
  have F:=F2 b9 b10;refine sb [.tmp 2] Tryz.func267 ?_;intro Q hQ;refine af F ?_;refine au hQ F ?_;refine fR (.bool _) ?_;simp[rightF,e]
 ·have b9:(n==9)=false:=by simp;omega
  have b10:(n==10)=false:=by simp;omega
  have b13:(n==13)=true:=by simpa using e
  have F:=F3 b9 b10 b13;refine sb [.tmp 2] Tryz.func267 ?_;intro Q hQ;refine af F ?_;refine au hQ F ?_;refine fR (.bool _) ?_;simp[rightF,e]
 ·have b9:(n==9)=false:=by simpa using h9
  have b10:(n==10)=false:=by simpa using h10
  have b13:(n==13)=false:=by simpa using h13
  have F:=F5 b9 b10 b13 @oG @f4;refine sb [.tmp 2] Tryz.func267 ?_;intro Q hQ;refine af F ?_;(first|refine aX F (fun hg=>?_) (fun hg=>?_)|refine aY F (fun hg=>?_) (fun hg=>?_))<;>(try exact hg.elim)<;>(try refine ai F ?_)<;>(refine af F ?_)
  ·refine aH F (oH G n _) ?_;refine au hQ F ?_;refine fR (.bool _) ?_;simp[rightF,h9,h10,h13,hg];rw[T5];simp
  ·refine au hQ F ?_;refine fR (.bool _) ?_;simp[rightF,h9,h10,h13];omega
def signF(name:Bs):Int×Bool:=
 if name=[97,109,112]then(38,true)else if name=[108,116]then(60,true)else if name=[103,116]then(62,true)
 else if name=[113,117,111,116]then(34,true)else if name=[97,112,111,115]then(39,true)
 else
  let n:=if Lib.hasPrefix name [35,120]=true then numF (name.drop 2) 16 6 else if Lib.hasPrefix name [35]=true then numF (name.drop 1) 10 7 else-1
  if n<0 then(0,false)else if rightF n=true then(n,true)else(65533,true)
theorem xd(base:Int)(hb0:1≤base)(hb:base≤16):∀(s:Bs) (n:Int),0≤n→ -1≤numGo base s n∧numGo base s n<(n+1)*16^s.length:=by
 intro s;induction s with
 |nil=>intro n hn;simp[numGo];omega
 |cons b t ih=>
  intro n hn;rw[numGo];have hp:(0:Int)<16^t.length:=Int.pow_pos (by omega);split
  ·refine⟨by omega,?_⟩;have:0≤(n+1)*16^(b::t).length:=Int.mul_nonneg (by omega) (Int.le_of_lt (Int.pow_pos (by omega)));omega
  ·rename_i hd;have hlt:=r9 b.toNat base (by omega);have hbn0:0≤base*n:=Int.mul_nonneg (by omega) hn;have hbn1:base*n≤16*n:=Int.mul_le_mul_of_nonneg_right hb hn;obtain⟨h1,h2⟩:=ih (base*n+digF b.toNat base) (by omega);refine⟨h1,Int.lt_of_lt_of_le h2 ?_⟩;rw[M6,Int.pow_succ,Int.mul_comm (16^t.length) 16, ← Int.mul_assoc];exact Int.mul_le_mul_of_nonneg_right (by omega) (Int.le_of_lt hp)
theorem rb(s:Bs)(base:Int)(most:Nat)(hb0:1≤base)(hb1:base≤16)(hm:most≤7): -1≤numF s base most∧numF s base most≤268435455:=by
 unfold numF;split
 ·omega
 ·rename_i h;have:=xd base hb0 hb1 s 0 (by omega);have h16:(16:Int)^s.length≤268435456:=by
   have:(16:Nat)^s.length≤16^7:=Nat.pow_le_pow_right (by omega) (by omega);have:((16^s.length:Nat):Int)≤((16^7:Nat):Int):=by omega
   simpa using this
  omega
theorem eC(n:Nat)(k:IntKind)(a:Int)(b:Bool):Clo n (.tup [.int k a,.bool b]):=.tup _ (by intro c hc;simp at hc;rcases hc with rfl|rfl;exact .int _ _;exact .bool _)
theorem xe(name:Bs)(hs:name.length≤1048576)(h:Heap):Sat (CT G) 245 [.str name] h (fun x h'=>x=.tup [.int .i32 (signF name).1,.bool (signF name).2]∧h'=h):=by
 have F:= @oG;refine sb [.tmp 2,.tmp 3] Tryz.func245 ?_;intro Q hQ;(repeat (first|refine w1 (fun K hK=>?_)|refine w2 ?_|refine w3 ?_| ((first|refine w4 ?_|refine wD ?_|refine w5 ?_|refine w6 ?_|refine w7 ?_);try refine ai F ?_)| (refine w8 ?_;refine ai F ?_;refine w9 ?_)| ((first|refine hK _ _ (w0 ?_)| (clear hK K;refine hK _ _ (w0 ?_))| (clear hK K;clear hK K;refine hK _ _ (w0 ?_)));clear hK K)))
 refine aD F (fun c1=>?_) (fun c1=>?_)<;>(try exact c1.elim)<;>((repeat (first|refine w1 (fun K hK=>?_)|refine w2 ?_|refine w3 ?_| ((first|refine w4 ?_|refine wD ?_|refine w5 ?_|refine w6 ?_|refine w7 ?_);try refine ai F ?_)| (refine w8 ?_;refine ai F ?_;refine w9 ?_)| ((first|refine hK _ _ (w0 ?_)| (clear hK K;refine hK _ _ (w0 ?_))| (clear hK K;clear hK K;refine hK _ _ (w0 ?_)));clear hK K))))
 ·refine au hQ F ?_;refine fR (eC _ _ _ _) ?_;simp[signF,c1]
 refine aD F (fun c2=>?_) (fun c2=>?_)<;>(try exact c2.elim)<;>((repeat (first|refine w1 (fun K hK=>?_)|refine w2 ?_|refine w3 ?_| ((first|refine w4 ?_|refine wD ?_|refine w5 ?_|refine w6 ?_|refine w7 ?_);try refine ai F ?_)| (refine w8 ?_;refine ai F ?_;refine w9 ?_)| ((first|refine hK _ _ (w0 ?_)| (clear hK K;refine hK _ _ (w0 ?_))| (clear hK K;clear hK K;refine hK _ _ (w0 ?_)));clear hK K))))
 ·refine au hQ F ?_;refine fR (eC _ _ _ _) ?_;simp[signF,c2]
 refine aD F (fun c3=>?_) (fun c3=>?_)<;>(try exact c3.elim)<;>((repeat (first|refine w1 (fun K hK=>?_)|refine w2 ?_|refine w3 ?_| ((first|refine w4 ?_|refine wD ?_|refine w5 ?_|refine w6 ?_|refine w7 ?_);try refine ai F ?_)| (refine w8 ?_;refine ai F ?_;refine w9 ?_)| ((first|refine hK _ _ (w0 ?_)| (clear hK K;refine hK _ _ (w0 ?_))| (clear hK K;clear hK K;refine hK _ _ (w0 ?_)));clear hK K))))
 ·refine au hQ F ?_;refine fR (eC _ _ _ _) ?_;simp[signF,c3]
 refine aD F (fun c4=>?_) (fun c4=>?_)<;>(try exact c4.elim)<;>((repeat (first|refine w1 (fun K hK=>?_)|refine w2 ?_|refine w3 ?_| ((first|refine w4 ?_|refine wD ?_|refine w5 ?_|refine w6 ?_|refine w7 ?_);try refine ai F ?_)| (refine w8 ?_;refine ai F ?_;refine w9 ?_)| ((first|refine hK _ _ (w0 ?_)| (clear hK K;refine hK _ _ (w0 ?_))| (clear hK K;clear hK K;refine hK _ _ (w0 ?_)));clear hK K))))
 ·refine au hQ F ?_;refine fR (eC _ _ _ _) ?_;simp[signF,c4]
 refine aD F (fun c5=>?_) (fun c5=>?_)<;>(try exact c5.elim)<;>((repeat (first|refine w1 (fun K hK=>?_)|refine w2 ?_|refine w3 ?_| ((first|refine w4 ?_|refine wD ?_|refine w5 ?_|refine w6 ?_|refine w7 ?_);try refine ai F ?_)| (refine w8 ?_;refine ai F ?_;refine w9 ?_)| ((first|refine hK _ _ (w0 ?_)| (clear hK K;refine hK _ _ (w0 ?_))| (clear hK K;clear hK K;refine hK _ _ (w0 ?_)));clear hK K))))
 ·refine au hQ F ?_;refine fR (eC _ _ _ _) ?_;simp[signF,c5]
 refine(cY G name [35,120] _).mono ?_;rintro r h' ⟨rfl,rfl⟩;try refine ai F ?_
 (repeat (first|refine w1 (fun K hK=>?_)|refine w2 ?_|refine w3 ?_| ((first|refine w4 ?_|refine wD ?_|refine w5 ?_|refine w6 ?_|refine w7 ?_);try refine ai F ?_)| (refine w8 ?_;refine ai F ?_;refine w9 ?_)| ((first|refine hK _ _ (w0 ?_)| (clear hK K;refine hK _ _ (w0 ?_))| (clear hK K;clear hK K;refine hK _ _ (w0 ?_)));clear hK K)))
 have tail:∀(t':Env) (n:Int),t' 4=.int .i64 n→n=(if Lib.hasPrefix name [35,120]=true then numF (name.drop 2) 16 6 else if Lib.hasPrefix name [35]=true then numF (name.drop 1) 10 7 else-1)→K t' h':=by
  intro t' n e4 hn;have hS:signF name=if n<0 then(0,false)else if rightF n=true then(n,true)else(65533,true):=by
   unfold signF;rw[M1 c1,M1 c2,M1 c3,M1 c4,M1 c5, ← hn]
  have hb: -1≤n∧n≤268435455:=by
   rw[hn];split
   ·exact rb _ _ _ (by omega) (by omega) (by omega)
   ·split
    ·exact rb _ _ _ (by omega) (by omega) (by omega)
    ·omega
  refine hK _ _ (N6 ?_);clear hK K;have F:=F2 F e4;(repeat (first|refine w1 (fun K hK=>?_)|refine w2 ?_|refine w3 ?_| ((first|refine w4 ?_|refine wD ?_|refine w5 ?_|refine w6 ?_|refine w7 ?_);try refine ai F ?_)| (refine w8 ?_;refine ai F ?_;refine w9 ?_)| ((first|refine hK _ _ (w0 ?_)| (clear hK K;refine hK _ _ (w0 ?_))| (clear hK K;clear hK K;refine hK _ _ (w0 ?_)));clear hK K)))
  refine aD F (fun hc=>?_) (fun hc=>?_)<;>(try exact hc.elim)<;>((repeat (first|refine w1 (fun K hK=>?_)|refine w2 ?_|refine w3 ?_| ((first|refine w4 ?_|refine wD ?_|refine w5 ?_|refine w6 ?_|refine w7 ?_);try refine ai F ?_)| (refine w8 ?_;refine ai F ?_;refine w9 ?_)| ((first|refine hK _ _ (w0 ?_)| (clear hK K;refine hK _ _ (w0 ?_))| (clear hK K;clear hK K;refine hK _ _ (w0 ?_)));clear hK K))))
  ·refine au hQ F ?_;refine fR (eC _ _ _ _) ?_;rw[hS,M7 hc]
  ·rw[M1 (by omega)]at hS;refine(uG G n (by omega) (by omega) _).mono ?_;rintro r h' ⟨rfl,rfl⟩;(try refine ai F ?_);(repeat (first|refine w1 (fun K hK=>?_)|refine w2 ?_|refine w3 ?_| ((first|refine w4 ?_|refine wD ?_|refine w5 ?_|refine w6 ?_|refine w7 ?_);try refine ai F ?_)| (refine w8 ?_;refine ai F ?_;refine w9 ?_)| ((first|refine hK _ _ (w0 ?_)| (clear hK K;refine hK _ _ (w0 ?_))| (clear hK K;clear hK K;refine hK _ _ (w0 ?_)));clear hK K)))
   refine aD F (fun hr=>?_) (fun hr=>?_)<;>(try exact hr.elim)<;>((repeat (first|refine w1 (fun K hK=>?_)|refine w2 ?_|refine w3 ?_| ((first|refine w4 ?_|refine wD ?_|refine w5 ?_|refine w6 ?_|refine w7 ?_);try refine ai F ?_)| (refine w8 ?_;refine ai F ?_;refine w9 ?_)| ((first|refine hK _ _ (w0 ?_)| (clear hK K;refine hK _ _ (w0 ?_))| (clear hK K;clear hK K;refine hK _ _ (w0 ?_)));clear hK K))))
   ·refine au hQ F ?_;refine fR (eC _ _ _ _) ?_;rw[hS,M1 (by simpa using hr)]
   ·refine au hQ F ?_;refine fR (eC _ _ _ _) ?_;rw[hS,M7 (by simpa using hr)]
 have hd2:(name.drop 2).length≤1073741824:=by simp;omega
 have hd1:(name.drop 1).length≤1073741824:=by simp;omega
 refine aD F (fun hx=>?_) (fun hx=>?_)<;>(try exact hx.elim)<;>((repeat (first|refine w1 (fun K hK=>?_)|refine w2 ?_|refine w3 ?_| ((first|refine w4 ?_|refine wD ?_|refine w5 ?_|refine w6 ?_|refine w7 ?_);try refine ai F ?_)| (refine w8 ?_;refine ai F ?_;refine w9 ?_)| ((first|refine hK _ _ (w0 ?_)| (clear hK K;refine hK _ _ (w0 ?_))| (clear hK K;clear hK K;refine hK _ _ (w0 ?_)));clear hK K))))
 ·have e:Lib.trimPrefix name [35,120]=name.drop 2:=by unfold Lib.trimPrefix;rw[M7 hx];rfl
  rw[e];refine(kV G (name.drop 2) 16 6 (by omega) (by omega) (by omega) hd2 _).mono ?_;rintro r h' ⟨rfl,rfl⟩;try refine ai F ?_
  (repeat (first|refine w1 (fun K hK=>?_)|refine w2 ?_|refine w3 ?_| ((first|refine w4 ?_|refine wD ?_|refine w5 ?_|refine w6 ?_|refine w7 ?_);try refine ai F ?_)| (refine w8 ?_;refine ai F ?_;refine w9 ?_)| ((first|refine hK _ _ (w0 ?_)| (clear hK K;refine hK _ _ (w0 ?_))| (clear hK K;clear hK K;refine hK _ _ (w0 ?_)));clear hK K)))
  refine tail _ (numF (name.drop 2) 16 6) ?_ (by rw[M7 hx]);simp(disch:=first|omega| (simp only[go_sem, ↓reduceIte,Nat.reduceEqDiff];done)|fail) only[go_sem, ↓reduceIte,Int.reduceToNat,Int.reduceLE,Int.reduceLT,Int.reduceSub,Int.reduceAdd,Nat.reduceEqDiff,Nat.reduceAdd,Nat.reduceLeDiff,Nat.reduceLT,Nat.reduceMul,Nat.reduceSub,F]
 ·refine(cY G name [35] _).mono ?_;rintro r h' ⟨rfl,rfl⟩;try refine ai F ?_
  (repeat (first|refine w1 (fun K hK=>?_)|refine w2 ?_|refine w3 ?_| ((first|refine w4 ?_|refine wD ?_|refine w5 ?_|refine w6 ?_|refine w7 ?_);try refine ai F ?_)| (refine w8 ?_;refine ai F ?_;refine w9 ?_)| ((first|refine hK _ _ (w0 ?_)| (clear hK K;refine hK _ _ (w0 ?_))| (clear hK K;clear hK K;refine hK _ _ (w0 ?_)));clear hK K)))
  refine aD F (fun hy=>?_) (fun hy=>?_)<;>(try exact hy.elim)<;>((repeat (first|refine w1 (fun K hK=>?_)|refine w2 ?_|refine w3 ?_| ((first|refine w4 ?_|refine wD ?_|refine w5 ?_|refine w6 ?_|refine w7 ?_);try refine ai F ?_)| (refine w8 ?_;refine ai F ?_;refine w9 ?_)| ((first|refine hK _ _ (w0 ?_)| (clear hK K;refine hK _ _ (w0 ?_))| (clear hK K;clear hK K;refine hK _ _ (w0 ?_)));clear hK K))))
  ·have e:Lib.trimPrefix name [35]=name.drop 1:=(by unfold Lib.trimPrefix;rw[M7 hy];rfl);rw[e];refine(kV G (name.drop 1) 10 7 (by omega) (by omega) (by omega) hd1 _).mono ?_;rintro r h' ⟨rfl,rfl⟩;(try refine ai F ?_);(repeat (first|refine w1 (fun K hK=>?_)|refine w2 ?_|refine w3 ?_| ((first|refine w4 ?_|refine wD ?_|refine w5 ?_|refine w6 ?_|refine w7 ?_);try refine ai F ?_)| (refine w8 ?_;refine ai F ?_;refine w9 ?_)| ((first|refine hK _ _ (w0 ?_)| (clear hK K;refine hK _ _ (w0 ?_))| (clear hK K;clear hK K;refine hK _ _ (w0 ?_)));clear hK K)))
   refine tail _ (numF (name.drop 1) 10 7) ?_ (by rw[M1 (by simpa using hx),M7 hy]);simp(disch:=first|omega| (simp only[go_sem, ↓reduceIte,Nat.reduceEqDiff];done)|fail) only[go_sem, ↓reduceIte,Int.reduceToNat,Int.reduceLE,Int.reduceLT,Int.reduceSub,Int.reduceAdd,Nat.reduceEqDiff,Nat.reduceAdd,Nat.reduceLeDiff,Nat.reduceLT,Nat.reduceMul,Nat.reduceSub,F]
  ·refine tail _ (-1) ?_ (by rw[M1 (by simpa using hx),M1 (by simpa using hy)]);simp(disch:=first|omega| (simp only[go_sem, ↓reduceIte,Nat.reduceEqDiff];done)|fail) only[go_sem, ↓reduceIte,Int.reduceToNat,Int.reduceLE,Int.reduceLT,Int.reduceSub,Int.reduceAdd,Nat.reduceEqDiff,Nat.reduceAdd,Nat.reduceLeDiff,Nat.reduceLT,Nat.reduceMul,Nat.reduceSub,F]
end Go.Av
namespace Go.Av
open Go Go.Proofs Go.RowKit
theorem fw(s:Bs)(k:Nat):dec s k=dec (s.drop k) 0:=by
 rw[fN,fN];simp only[Z7,Q8,Q5,W1,R2,Nat.sub_zero,Nat.add_assoc]
theorem jV(s:Bs)(k:Nat)(h:k<s.length):Rune (dec s k).1:=by
 have hb:=M4 h;by_cases ha:s[k].toNat<128
 ·rw[fO s k _ hb ha];exact⟨by simp,by simp;omega⟩
 ·obtain⟨h1,h2,_⟩:=jU s k _ hb (by omega);exact⟨by omega,by omega⟩
def runesN:Nat→Bs→List Int
 |0,_=>[]
 |f+1,s=>if s=[]then []else((dec s 0).1:Int)::runesN f (s.drop (dec s 0).2)
def runesF(s:Bs):List Int:=runesN s.length s
theorem qj:∀(f:Nat) (s:Bs),s.length≤f→runesN f s=runesN s.length s:=by
 intro f;induction f using Nat.strongRecOn with
 |ind f ih=>
  intro s hs;cases s with
  |nil=>cases f<;>rfl
  |cons b t=>
   obtain⟨f,rfl⟩:∃g,f=g+1:=⟨f-1,by simp at hs;omega⟩;have hd:=aR (b::t) 0 (by simp);simp only[M6]at hs hd ⊢;rw[runesN,runesN,M1 (by simp),M1 (by simp)];have hl:((b::t).drop (dec (b::t) 0).2).length≤t.length:=(by simp only[Q5,M6];omega);rw[ih f (by omega) _ (by omega)];by_cases hf:t.length=f
   ·subst hf;rw[ih t.length (by omega) _ hl]
   ·rw[ih t.length (by omega) _ hl]
theorem f9:runesF []=[]:=rfl
theorem dZ(s:Bs)(h:s≠ []):runesF s=((dec s 0).1:Int)::runesF (s.drop (dec s 0).2):=by
 have hl:0<s.length:=U4.2 h;have hd:=aR s 0 hl;unfold runesF;obtain⟨n,hn⟩:∃n,s.length=n+1:=⟨s.length-1,by omega⟩;rw[hn,runesN,M1 h,qj n _ (by simp only[Q5];omega)]
theorem nb(s:Bs)(k:Nat)(h:k<s.length):runesF (s.drop k)=((dec s k).1:Int)::runesF (s.drop (k+(dec s k).2)):=by
 rw[dZ _ (by intro e;have:=O6 List.length e;simp at this;omega), ← fw,Z2]
theorem kW(s:Bs)(k:Nat)(h:s.length≤k):runesF (s.drop k)=[]:=by
 rw[W8 h];rfl
theorem kX:∀(n:Nat) (s:Bs),s.length≤n→(runesF s).length≤s.length:=by
 intro n;induction n with
 |zero=>intro s h;have:s=[]:=Q1.1 (by omega);subst this;simp[f9]
 |succ n ih=>
  intro s h;by_cases h0:s=[]
  ·subst h0;simp[f9]
  ·have hd:=aR s 0 (U4.2 h0);rw[dZ s h0];have:=ih (s.drop (dec s 0).2) (by simp only[Q5];omega);simp only[Q5]at this;simp only[M6];omega
theorem qk:∀(n:Nat) (s:Bs),s.length≤n→∀c∈runesF s,Rune c:=by
 intro n;induction n with
 |zero=>intro s h c hc;have:s=[]:=Q1.1 (by omega);subst this;simp[f9]at hc
 |succ n ih=>
  intro s h c hc;by_cases h0:s=[]
  ·subst h0;simp[f9]at hc
  ·have hl:=U4.2 h0;have hd:=aR s 0 hl;rw[dZ s h0]at hc;rcases O5.1 hc with rfl|hc
   ·exact jV s 0 hl
   ·exact ih _ (by simp only[Q5];omega) c hc
def blankR(c:Int):Bool:=decide (c=9∨c=10∨c=13∨c=32∨c=160∨c=8232∨c=8233∨c=12288)
def ctlR(c:Int):Bool:=decide (c<32∨(127≤c∧c≤159))
def clnR:List Int→List Int→Bool→List Int
 | [],o,_=>o
 |c::t,o,w=>if blankR c then clnR t o (decide (0<o.length))else if ctlR c then clnR t o w else clnR t (o++(if w then [32,c]else [c])) false
def cleanR(s:Bs):List Int:=clnR (runesF s) [] false
def encs(l:List Int):Bs:=l.flatMap enc
def cleanF(s:Bs):Bs:=encs (cleanR s)
theorem dQ(r:Int):1≤(enc r).length:=by
 rw[gx];simp only[];repeat (first|split|simp)
theorem gW(l:List Int):(encs l).length≤4*l.length∧l.length≤(encs l).length:=by
 induction l with
 |nil=>simp[encs]
 |cons c t ih=>
  have h1:=dM c;have h2:=dQ c;simp only[encs,R8,M3,M6]at ih ⊢;omega
theorem gX:∀(l o:List Int) (w:Bool),(clnR l o w).length≤o.length+2*l.length
 | [],o,w=>by simp[clnR]
 |c::t,o,w=>by
  rw[clnR];by_cases hb:blankR c=true
  ·rw[M7 hb];have:=gX t o (decide (0<o.length));simp only[M6];omega
  ·rw[M1 hb];by_cases hk:ctlR c=true
   ·rw[M7 hk];have:=gX t o w;simp only[M6];omega
   ·rw[M1 hk];have:=gX t (o++(if w then [32,c]else [c])) false;have hw:(if w then [32,c]else [c]:List Int).length≤2:=(by split<;>simp);simp only[M3,M6]at this ⊢;omega
theorem fQ:∀(l o:List Int) (w:Bool),(∀c∈l,Rune c)→(∀c∈o,Rune c)→∀c∈clnR l o w,Rune c
 | [],o,w,_,h=>by simpa [clnR]using h
 |c::t,o,w,hl,ho=>by
  rw[clnR];have ht:∀x∈t,Rune x:=fun x hx=>hl x (by simp[hx])
  split
  ·exact fQ t o _ ht ho
  ·split
   ·exact fQ t o w ht ho
   ·refine fQ t _ false ht ?_;intro x hx;rcases Q6.1 hx with hx|hx
    ·exact ho x hx
    ·have h32:Rune 32:=⟨by decide,by decide⟩
     split at hx
     ·simp at hx;rcases hx with rfl|rfl
      ·exact h32
      ·exact hl _ (by simp)
     ·simp at hx;subst hx;exact hl _ (by simp)
theorem sT(s:Bs):(cleanR s).length≤2*s.length:=by
 have h1:=gX (runesF s) [] false;have h2:=kX s.length s (N3 _);simp only[N4]at h1;unfold cleanR;omega
theorem gY(s:Bs):(cleanF s).length≤8*s.length:=by
 have h1:=sT s;have h2:=gW (cleanR s);unfold cleanF;omega
def cutN:Nat→Bs→Nat→Nat
 |0,_,_=>0
 |f+1,s,n=>if s=[]then 0 else if n<(dec s 0).2 then 0 else(dec s 0).2+cutN f (s.drop (dec s 0).2) (n-(dec s 0).2)
def cutF(s:Bs)(n:Nat):Bs:=s.take (cutN s.length s n)
def rightN:Nat→Bs→Bool
 |0,_=>true
 |f+1,s=>if s=[]then true else if (dec s 0).1=65533∧(dec s 0).2=1 then false else rightN f (s.drop (dec s 0).2)
def rightS(s:Bs):Bool:=rightN s.length s
theorem qm:∀(f:Nat) (s:Bs),s.length≤f→rightN f s=rightN s.length s:=by
 intro f;induction f using Nat.strongRecOn with
 |ind f ih=>
  intro s hs;cases s with
  |nil=>cases f<;>rfl
  |cons b t=>
   obtain⟨f,rfl⟩:∃g,f=g+1:=⟨f-1,by simp at hs;omega⟩;have hd:=aR (b::t) 0 (by simp);simp only[M6]at hs hd ⊢;rw[rightN,rightN,M1 (show ¬(b::t)=[] by simp),M1 (show ¬(b::t)=[] by simp)];have hl:((b::t).drop (dec (b::t) 0).2).length≤t.length:=(by simp only[Q5,M6];omega);rw[ih f (by omega) _ (by omega),ih t.length (by omega) _ hl]
theorem jD(s:Bs)(h:s≠ []):rightS s=if (dec s 0).1=65533∧(dec s 0).2=1 then false else rightS (s.drop (dec s 0).2):=by
 have hl:0<s.length:=U4.2 h;have hd:=aR s 0 hl;unfold rightS;obtain⟨n,hn⟩:∃n,s.length=n+1:=⟨s.length-1,by omega⟩;rw[hn,rightN,M1 h,qm n _ (by simp only[Q5];omega)]
theorem uH(s:Bs)(k:Nat)(h:k<s.length):rightS (s.drop k)=if (dec s k).1=65533∧(dec s k).2=1 then false else rightS (s.drop (k+(dec s k).2)):=by
 rw[jD _ (by intro e;have:=O6 List.length e;simp at this;omega), ← fw,Z2]
theorem qn(n b0 b1 b2 b3:Nat)(h1:b1<256)(h2:b2<256)(h0:b0<256)(h:(Lib.decodeN n b0 b1 b2 b3).1=65533):(Lib.decodeN n b0 b1 b2 b3).2=1↔¬(3≤n∧b0=239∧b1=191∧b2=189):=by
 unfold Lib.decodeN at*;by_cases c1:b0<128
 ·rw[M7 c1]at *;simp only[]at *;omega
 rw[M1 c1]at*;by_cases c2:(b0/32=6∧(1<n∧b1/64=2))
 ·rw[M7 c2]at*;by_cases c3:b0%32*64+b1%64≥128
  ·rw[M7 c3]at *;simp only[]at *;omega
  ·rw[M1 c3]at *;exact⟨fun _ hc=>by omega,fun _=>rfl⟩
 rw[M1 c2]at*;by_cases c4:b0/16=14∧(1<n∧b1/64=2)∧(2<n∧b2/64=2)
 ·rw[M7 c4]at*;by_cases c5:(b0%16*4096+b1%64*64+b2%64≥2048∧(b0%16*4096+b1%64*64+b2%64<55296∨(57344≤b0%16*4096+b1%64*64+b2%64∧b0%16*4096+b1%64*64+b2%64≤1114111)))
  ·rw[M7 c5]at *;simp only[]at *;omega
  ·rw[M1 c5]at *;exact⟨fun _ hc=>by omega,fun _=>rfl⟩
 rw[M1 c4]at*;by_cases c6:b0/8=30∧(1<n∧b1/64=2)∧(2<n∧b2/64=2)∧(3<n∧b3/64=2)
 ·rw[M7 c6]at*;by_cases c7:(b0%8*262144+b1%64*4096+b2%64*64+b3%64≥65536∧(b0%8*262144+b1%64*4096+b2%64*64+b3%64<55296∨(57344≤b0%8*262144+b1%64*4096+b2%64*64+b3%64∧b0%8*262144+b1%64*4096+b2%64*64+b3%64≤1114111)))
  ·rw[M7 c7]at *;simp only[]at *;omega
  ·rw[M1 c7]at *;exact⟨fun _ hc=>by omega,fun _=>rfl⟩
 ·rw[M1 c6]at *;exact⟨fun _ hc=>by omega,fun _=>rfl⟩
theorem HI(u:Bs):Lib.hasPrefix u [239,191,189]=true↔(3≤u.length∧(u.getD 0 0).toNat=239∧(u.getD 1 0).toNat=191∧(u.getD 2 0).toNat=189):=by
 have key:∀(x:UInt8) (n:Nat),n<256→(x.toNat=n↔x=UInt8.ofNat n):=fun x n h=>by rw[← UInt8.toNat_inj,ax n h]
 match u with
 | []=>simp[Lib.hasPrefix]
 | [a]=>simp[Lib.hasPrefix]
 | [a,b]=>simp[Lib.hasPrefix]
 |a::b::c::t=>
  simp only[V4,X2,M6];rw[key a 239 (by omega),key b 191 (by omega),key c 189 (by omega)];unfold Lib.hasPrefix;simp only[List.isPrefixOf,M2,beq_iff_eq];constructor
  ·rintro⟨rfl,rfl,rfl,_⟩;exact⟨by omega,rfl,rfl,rfl⟩
  ·rintro⟨_,rfl,rfl,rfl⟩;exact⟨rfl,rfl,rfl,trivial⟩
theorem xf(s:Bs)(k:Nat)(hd:(dec s k).1=65533):(dec s k).2=1↔Lib.hasPrefix (s.drop k) [239,191,189]=false:=by
 rw[fw]at*;generalize s.drop k=u at*;rw[← Bool.not_eq_true,HI];rw[fN]at*;exact qn _ _ _ _ _ (UInt8.toNat_lt _) (UInt8.toNat_lt _) (UInt8.toNat_lt _) hd
end Go.Av
namespace Go.Av
open Go Go.Proofs Go.RowKit
attribute [local irreducible] WP WPl WPix Sat
variable (G:Nat→Option (List AVal))
theorem sU(c:Int)(h:Heap):Sat (CT G) 148 [.int .i32 c] h (fun r h'=>r=.bool (blankR c)∧h'=h):=by
 have yes:(c=9∨c=10∨c=13∨c=32∨c=160∨c=8232∨c=8233∨c=12288)→blankR c=true:=fun h=>R4 h
 have no:¬(c=9∨c=10∨c=13∨c=32∨c=160∨c=8232∨c=8233∨c=12288)→blankR c=false:=fun h=>S7 h
 refine sb [.tmp 2] Tryz.func148 ?_;intro Q hQ;refine wk trivial ?_;refine cq trivial (fun c0=>?_) (fun c0=>?_)<;>(try exact c0.elim)<;>(refine wk trivial ?_)
 ·refine cq trivial (fun d=>?_) (fun d=>?_)<;>(try exact d.elim)<;>(refine wk trivial ?_)
  ·refine ee hQ trivial ?_;refine fR (.bool _) ?_;rw[yes (by omega)]
  ·exfalso;omega
 refine cq trivial (fun c1=>?_) (fun c1=>?_)<;>(try exact c1.elim)<;>(refine wk trivial ?_)
 ·refine cq trivial (fun d=>?_) (fun d=>?_)<;>(try exact d.elim)<;>(refine wk trivial ?_)
  ·refine ee hQ trivial ?_;refine fR (.bool _) ?_;rw[yes (by omega)]
  ·exfalso;omega
 refine cq trivial (fun c2=>?_) (fun c2=>?_)<;>(try exact c2.elim)<;>(refine wk trivial ?_)
 ·refine cq trivial (fun d=>?_) (fun d=>?_)<;>(try exact d.elim)<;>(refine wk trivial ?_)
  ·refine ee hQ trivial ?_;refine fR (.bool _) ?_;rw[yes (by omega)]
  ·exfalso;omega
 refine cq trivial (fun c3=>?_) (fun c3=>?_)<;>(try exact c3.elim)<;>(refine wk trivial ?_)
 ·refine cq trivial (fun d=>?_) (fun d=>?_)<;>(try exact d.elim)<;>(refine wk trivial ?_)
  ·refine ee hQ trivial ?_;refine fR (.bool _) ?_;rw[yes (by omega)]
  ·exfalso;omega
 refine cq trivial (fun c4=>?_) (fun c4=>?_)<;>(try exact c4.elim)<;>(refine wk trivial ?_)
 ·refine cq trivial (fun d=>?_) (fun d=>?_)<;>(try exact d.elim)<;>(refine wk trivial ?_)
  ·refine ee hQ trivial ?_;refine fR (.bool _) ?_;rw[yes (by omega)]
  ·exfalso;omega
 refine cq trivial (fun c5=>?_) (fun c5=>?_)<;>(try exact c5.elim)<;>(refine wk trivial ?_)
 ·refine cq trivial (fun d=>?_) (fun d=>?_)<;>(try exact d.elim)<;>(refine wk trivial ?_)
  ·refine ee hQ trivial ?_;refine fR (.bool _) ?_;rw[yes (by omega)]
  ·exfalso;omega
 refine cq trivial (fun c6=>?_) (fun c6=>?_)<;>(try exact c6.elim)<;>(refine wk trivial ?_)
 ·refine cq trivial (fun d=>?_) (fun d=>?_)<;>(try exact d.elim)<;>(refine wk trivial ?_)
  ·refine ee hQ trivial ?_;refine fR (.bool _) ?_;rw[yes (by omega)]
  ·exfalso;omega
 refine cq trivial (fun d=>?_) (fun d=>?_)<;>(try exact d.elim)<;>(refine wk trivial ?_)
 ·refine ee hQ trivial ?_;refine fR (.bool _) ?_;rw[yes (by omega)]
 ·refine ee hQ trivial ?_;refine fR (.bool _) ?_;rw[no (by omega)]
theorem oI(c:Int)(h:Heap):Sat (CT G) 150 [.int .i32 c] h (fun r h'=>r=.bool (ctlR c)∧h'=h):=by
 refine sb [.tmp 2] Tryz.func150 ?_;intro Q hQ;refine wk trivial ?_;(first|refine gq trivial (fun g1=>?_) (fun g1=>?_)|refine pq trivial (fun g1=>?_) (fun g1=>?_))<;>(try exact g1.elim)<;>(try refine sq trivial ?_)<;>(refine wk trivial ?_)
 ·refine ee hQ trivial ?_;refine fR (.bool _) ?_;rw[show ctlR c=true from R4 (.inl g1)]
 ·(first|refine gq trivial (fun g2=>?_) (fun g2=>?_)|refine pq trivial (fun g2=>?_) (fun g2=>?_))<;>(try exact g2.elim)<;>(try refine sq trivial ?_)<;>(refine wk trivial ?_)
  ·refine ee hQ trivial ?_;refine fR (.bool _) ?_;unfold ctlR;congr 1
   rw[T5];simp;omega
  ·refine ee hQ trivial ?_;refine fR (.bool _) ?_;rw[show ctlR c=false from S7 (by omega)]
theorem oJ(h j:Heap)(a:AVal)(v:Nat)(o s:Bs)(q:Nat):(bldH h (Blk.iter s q::j) a v o)[h.length+2]? =some (.iter s q):=by
 unfold bldH;rw[M9 (by omega),show h.length+2-h.length=2 by omega];rfl
theorem oK(h j:Heap)(a:AVal)(v:Nat)(o:Bs)(x y:Blk):(bldH h (x::j) a v o).set (h.length+2) y=bldH h (y::j) a v o:=by
 unfold bldH;rw[List.set_append_right _ _ (by omega),show h.length+2-h.length=2 by omega];rfl
theorem cQ(s:Bs)(hs:s.length≤100000000)(h:Heap):Sat (CT G) 111 [.str s] h (fun r h'=>r=.str (cleanF s)∧h'=h):=by
 have F:= @oK;refine sb [.tmp 2] Tryz.func111 ?_;intro Q hQ;(repeat (first|refine w1 (fun K hK=>?_)|refine w2 ?_|refine w3 ?_| ((first|refine w4 ?_|refine wD ?_|refine w5 ?_|refine w6 ?_|refine w7 ?_);try refine sq F ?_)| (refine w8 ?_;refine sq F ?_;refine w9 ?_)))
 refine hK _ _ (N6 ?_);clear hK K;(repeat (first|refine w1 (fun K hK=>?_)|refine w2 ?_|refine w3 ?_| ((first|refine w4 ?_|refine wD ?_|refine w5 ?_|refine w6 ?_|refine w7 ?_);try refine sq F ?_)| (refine w8 ?_;refine sq F ?_;refine w9 ?_)))
 refine hK _ _ ⟨_,_,za7 (p:=h.length) (v:=0) 5 1 (by omega) (by simp(disch:=first|omega| (simp only[go_sem, ↓reduceIte,seval];first|done|omega)|fail) only[go_sem, ↓reduceIte,seval,F];rfl) 1 rfl,?_⟩;clear hK K;refine wk F ?_;refine lm (fun nL tL hL=>∃(a:AVal) (v k:Nat) (out:List Int) (w:Bool),s.length-k=nL∧bldH h [.iter s k] a v (encs out)=hL∧tL 4=.bool w∧bldA a h.length∧k≤s.length∧clnR (runesF (s.drop k)) out w=cleanR s∧(encs out).length+8*(s.length-k)≤8*s.length) ((fun(a:AVal) (v k:Nat) (out:List Int) (w:Bool)=>(s.length-k:Nat)) ((.nil (.pointer none))) (0) (0) ([]) (false)) ?_ ?_
 ·refine N6 ⟨(.nil (.pointer none)),0,0,[],false,rfl,by simp[bldH,bldR,bufR,encs],?_,.inl rfl,by omega,rfl,by simp[encs]⟩;all_goals try exact zZz F
 rintro _ s2 h' ⟨a,v,k,out,w,rfl,rfl,e4,ha,hk,hv,hl⟩ K2 hK2;simp only[aj,am,Nat.reduceEqDiff, ↓reduceIte]at e4;have F:=F2 F e4;refine wk F ?_;refine cg (oJ _ _ _ _ _ _ _) (fun hlt=>?_) (fun hge=>?_)
 ·have hR:=jV s k hlt;have hp:=aR s k hlt;rw[nb s k hlt,clnR]at hv;rw[show Utf8.decode ⟨s.toArray⟩ k=dec s k from rfl];generalize dec s k=d at*;obtain⟨c,m⟩:=d;simp only[]at hR hp hv ⊢;try refine sq F ?_
  refine wk F ?_;refine kq F (sU G c _) ?_;refine cq F (fun c1=>?_) (fun c1=>?_)<;>(try exact c1.elim)<;>(refine wk F ?_)
  ·rw[M7 c1]at hv;refine kq F (zr G a h [.iter s (k+m)] v (encs out)) ?_;have ho:decide (((encs out).length:Int)>0)=decide (0<out.length):=by
    have:=gW out;rw[T5];simp only[M8];omega
   have F:=F2 F ho;(try refine sq F ?_);refine hK2 _ _ _ (N6 ⟨a,v,k+m,out,decide (0<out.length),rfl,aw,?_,ha,by omega,hv,by omega⟩) (by omega);all_goals try exact zZz F
  ·rw[M1 (by simp[c1])]at hv;refine kq F (oI G c _) ?_;refine cq F (fun c2=>?_) (fun c2=>?_)<;>(try exact c2.elim)<;>(refine wk F ?_)
   ·rw[M7 c2]at hv;refine hK2 _ _ _ (N6 ⟨a,v,k+m,out,w,rfl,aw,?_,ha,by omega,hv,by omega⟩) (by omega);all_goals try exact zZz F
   ·rw[M1 (by simp[c2])]at hv;have he:=dM c;have e1:encs (out++[32,(c:Int)])=encs out++[32]++enc c:=by
     simp only[encs,Z5,R8,zb0,N8,O9];rfl
    have e2:encs (out++[(c:Int)])=encs out++enc c:=by
     simp only[encs,Z5,R8,zb0,N8]
    refine cq F (fun c3=>?_) (fun c3=>?_)<;>(try exact c3.elim)<;>(refine wk F ?_)
    ·rw[M7 c3]at hv;refine kq F (cj G a h [.iter s (k+m)] v (encs out) 32 ha (by omega)) ?_;refine kq F (cZ G (.hp h.length 0 0 0) c hR h [.iter s (k+m)] (v+1) (encs out++[32]) (.inr rfl) (by simp only[M3,M6,N4];omega)) ?_;refine hK2 _ _ _ (N6 ⟨(.hp h.length 0 0 0),v+1+1,k+m,out++[32,(c:Int)],false,rfl,by rw[e1];simp,?_,.inr rfl,by omega,hv,by rw[e1];simp only[M3,M6,N4];omega⟩) (by omega);all_goals try exact zZz F
    ·rw[M1 (by simp[c3])]at hv;refine kq F (cZ G a c hR h [.iter s (k+m)] v (encs out) ha (by omega)) ?_;refine hK2 _ _ _ (N6 ⟨(.hp h.length 0 0 0),v+1,k+m,out++[(c:Int)],false,rfl,by rw[e2],?_,.inr rfl,by omega,hv,by rw[e2];simp only[M3];omega⟩) (by omega);all_goals try exact zZz F
 ·rw[kW s k (by omega)]at hv;try refine sq F ?_
  refine wk F ?_;refine(eZ G a h [.iter s k] v (encs out)).mono ?_;rintro r h' ⟨rfl,b2,rfl⟩;try refine sq F ?_
  refine wk F ?_;refine ee hQ F ?_;exact Y9 (j:=[bldR a (h.length+1) v (encs out),b2,.iter s k]) (by simp) (.str _) ⟨O6 AVal.str (by unfold cleanF;rw[← hv];rfl),rfl⟩
theorem iQ:∀(f:Nat) (s:Bs) (n:Nat),s.length≤f→cutN f s n=cutN s.length s n:=by
 intro f;induction f using Nat.strongRecOn with
 |ind f ih=>
  intro s n hs;cases s with
  |nil=>cases f<;>rfl
  |cons b t=>
   obtain⟨f,rfl⟩:∃g,f=g+1:=⟨f-1,by simp at hs;omega⟩;have hd:=aR (b::t) 0 (by simp);simp only[M6]at hs hd ⊢;have hl:((b::t).drop (dec (b::t) 0).2).length≤t.length:=(by simp only[Q5,M6];omega);rw[cutN,cutN,M1 (show ¬(b::t)=[] by simp),M1 (show ¬(b::t)=[] by simp),ih f (by omega) _ _ (by omega),ih t.length (by omega) _ _ hl]
def cutA(s:Bs)(k n:Nat):Nat:=cutN (s.drop k).length (s.drop k) n
theorem gZ(s:Bs)(k n:Nat)(h:s.length≤k):cutA s k n=0:=by unfold cutA;rw[W8 h];rfl
theorem lZ(s:Bs)(k n:Nat)(h:k<s.length):cutA s k n=if n<(dec s k).2 then 0 else(dec s k).2+cutA s (k+(dec s k).2) (n-(dec s k).2):=by
 have hd:=aR s k h;have hl:(s.drop k).length=(s.length-k-1)+1:=by rw[Q5];omega
 unfold cutA;rw[hl,cutN,M1 (by intro e;rw[e]at hl;simp at hl), ← fw,Z2,iQ (s.length-k-1) _ _ (by simp only[Q5];omega)]
theorem zu(s:Bs):∀(f k n:Nat),s.length≤k+f→cutA s k n≤n∧cutA s k n≤s.length-k:=by
 intro f;induction f with
 |zero=>intro k n h;rw[gZ s k n (by omega)];omega
 |succ f ih=>
  intro k n h;rcases U7 k s.length with h1|h1
  ·have hd:=aR s k h1;rw[lZ s k n h1];split
   ·omega
   ·have:=ih (k+(dec s k).2) (n-(dec s k).2) (by omega);omega
  ·rw[gZ s k n h1];omega
theorem xg(s:Bs):∀(f k n:Nat),s.length≤k+f→s.length-k≤n→cutA s k n=s.length-k:=by
 intro f;induction f with
 |zero=>intro k n h _;rw[gZ s k n (by omega)];omega
 |succ f ih=>
  intro k n h hn;rcases U7 k s.length with h1|h1
  ·have hd:=aR s k h1;rw[lZ s k n h1,M1 (by omega),ih _ _ (by omega) (by omega)];omega
  ·rw[gZ s k n h1];omega
theorem oL(s:Bs)(n:Nat)(hs:s.length≤1073741824)(hn:n≤1073741824)(h:Heap):Sat (CT G) 112 [.str s,.int .i64 n] h (fun r h'=>r=.str (cutF s n)∧h'=h):=by
 skip
 refine sb [.tmp 4] Tryz.func112 ?_;intro Q hQ;(repeat (first|refine w1 (fun K hK=>?_)|refine w2 ?_|refine w3 ?_| ((first|refine w4 ?_|refine wD ?_|refine w5 ?_|refine w6 ?_|refine w7 ?_);try refine sq trivial ?_)| (refine w8 ?_;refine sq trivial ?_;refine w9 ?_)| ((first|refine hK _ _ (w0 ?_)| (clear hK K;refine hK _ _ (w0 ?_))| (clear hK K;clear hK K;refine hK _ _ (w0 ?_)));clear hK K)))
 have tail:∀(t':Env) (e pos:Nat),t' 0=.str s→t' 1=.int .i64 n→t' 5=.int .i64 e→e≤s.length→(n<s.length→e=cutN s.length s n)→K t' (h++[.iter s pos]):=by
  intro t' e pos e0 e1 e5 he hx;refine hK _ _ (N6 ?_);clear hK K;have F:=F3 e0 e1 e5;(repeat (first|refine w1 (fun K hK=>?_)|refine w2 ?_|refine w3 ?_| ((first|refine w4 ?_|refine wD ?_|refine w5 ?_|refine w6 ?_|refine w7 ?_);try refine sq F ?_)| (refine w8 ?_;refine sq F ?_;refine w9 ?_)| ((first|refine hK _ _ (w0 ?_)| (clear hK K;refine hK _ _ (w0 ?_))| (clear hK K;clear hK K;refine hK _ _ (w0 ?_)));clear hK K)))
  refine cq F (fun c1=>?_) (fun c1=>?_)<;>(try exact c1.elim)<;>((repeat (first|refine w1 (fun K hK=>?_)|refine w2 ?_|refine w3 ?_| ((first|refine w4 ?_|refine wD ?_|refine w5 ?_|refine w6 ?_|refine w7 ?_);try refine sq F ?_)| (refine w8 ?_;refine sq F ?_;refine w9 ?_)| ((first|refine hK _ _ (w0 ?_)| (clear hK K;refine hK _ _ (w0 ?_))| (clear hK K;clear hK K;refine hK _ _ (w0 ?_)));clear hK K))))
  ·refine ee hQ F ?_;refine fR (.str _) ?_;have:=xg s s.length 0 n (by omega) (by omega);unfold cutA at this;simp only[zb4]at this;unfold cutF;rw[this];simp
  ·refine ee hQ F ?_;refine fR (.str _) ?_;unfold cutF;rw[hx (by omega)]
 refine lm (fun nL tL hL=>∃(en k:Nat),s.length-k=nL∧h++[.iter s k]=hL∧tL 5=.int .i64 en∧k≤s.length∧en≤k∧(k≤n→k+cutA s k (n-k)=cutN s.length s n)∧(n<k→en=cutN s.length s n)) ((fun(en k:Nat)=>(s.length-k:Nat)) (0) (0)) ?_ ?_
 ·refine N6 ⟨0,0,rfl,aw,?_,by omega,by omega,fun _=>by unfold cutA;simp,fun h=>by omega⟩;all_goals try exact zZz trivial
 rintro _ s2 h' ⟨en,k,rfl,rfl,e5,hk,he,hc,hc2⟩ K2 hK2;simp only[aj,am,Nat.reduceEqDiff, ↓reduceIte]at e5;have F:=e5;(repeat (first|refine w1 (fun K hK=>?_)|refine w2 ?_|refine w3 ?_| ((first|refine w4 ?_|refine wD ?_|refine w5 ?_|refine w6 ?_|refine w7 ?_);try refine sq F ?_)| (refine w8 ?_;refine sq F ?_;refine w9 ?_)| ((first|refine hK _ _ (w0 ?_)| (clear hK K;refine hK _ _ (w0 ?_))| (clear hK K;clear hK K;refine hK _ _ (w0 ?_)));clear hK K)))
 refine cg (dN _ _ _ _) (fun hlt=>?_) (fun hge=>?_)
 ·have hp:=aR s k hlt;have hca:=lZ s k (n-k) hlt;rw[show Utf8.decode ⟨s.toArray⟩ k=dec s k from rfl];generalize dec s k=d at*;obtain⟨c,m⟩:=d;simp only[]at hp hca ⊢;try refine sq F ?_
  (repeat (first|refine w1 (fun K hK=>?_)|refine w2 ?_|refine w3 ?_| ((first|refine w4 ?_|refine wD ?_|refine w5 ?_|refine w6 ?_|refine w7 ?_);try refine sq F ?_)| (refine w8 ?_;refine sq F ?_;refine w9 ?_)| ((first|refine hK _ _ (w0 ?_)| (clear hK K;refine hK _ _ (w0 ?_))| (clear hK K;clear hK K;refine hK _ _ (w0 ?_)));clear hK K)))
  refine cq F (fun c1=>?_) (fun c1=>?_)<;>(try exact c1.elim)<;>((repeat (first|refine w1 (fun K hK=>?_)|refine w2 ?_|refine w3 ?_| ((first|refine w4 ?_|refine wD ?_|refine w5 ?_|refine w6 ?_|refine w7 ?_);try refine sq F ?_)| (refine w8 ?_;refine sq F ?_;refine w9 ?_)| ((first|refine hK _ _ (w0 ?_)| (clear hK K;refine hK _ _ (w0 ?_))| (clear hK K;clear hK K;refine hK _ _ (w0 ?_)));clear hK K))))
  ·refine tail _ en (k+m) ?_ ?_ ?_ (by omega) (fun _=>hc2 (by omega))
   ·exact zq F
   ·exact zq F
   ·exact zq F
  ·have hc':=hc (by omega);rw[hca]at hc';refine hK2 _ _ _ (N6 ⟨k,k+m,rfl,aw,?_,by omega,by omega,fun hle=>by rw[M1 (by omega)]at hc';rw[← hc',show n-(k+m)=n-k-m by omega];omega,fun hgt=>by rw[M7 (by omega)]at hc';omega⟩) (by omega);all_goals try exact zZz F
 ·try refine sq F ?_
  (repeat (first|refine w1 (fun K hK=>?_)|refine w2 ?_|refine w3 ?_| ((first|refine w4 ?_|refine wD ?_|refine w5 ?_|refine w6 ?_|refine w7 ?_);try refine sq F ?_)| (refine w8 ?_;refine sq F ?_;refine w9 ?_)| ((first|refine hK _ _ (w0 ?_)| (clear hK K;refine hK _ _ (w0 ?_))| (clear hK K;clear hK K;refine hK _ _ (w0 ?_)));clear hK K)))
  refine tail _ en k ?_ ?_ ?_ (by omega) (fun _=>hc2 (by omega))
  ·exact zq F
  ·exact zq F
  ·exact zq F
theorem kY(s:Bs)(hs:s.length≤1073741824)(h:Heap):Sat (CT G) 184 [.str s] h (fun r h'=>r=.bool (rightS s)∧h'=h):=by
 refine sb [.tmp 2] Tryz.func184 ?_;intro Q hQ;refine wk trivial ?_;refine lm (fun nL tL hL=>∃(k:Nat),s.length-k=nL∧h++[.iter s k]=hL∧k≤s.length∧rightS (s.drop k)=rightS s) ((fun(k:Nat)=>(s.length-k:Nat)) (0)) ?_ ?_
 ·refine N6 ⟨0,rfl,aw,by omega,rfl⟩;all_goals try exact zZz trivial
 rintro _ s2 h' ⟨k,rfl,rfl,hk,hc⟩ K2 hK2;refine wk trivial ?_;refine cg (dN _ _ _ _) (fun hlt=>?_) (fun hge=>?_)
 ·have hp:=aR s k hlt;have hca:=uH s k hlt;have h3:=xf s k;rw[hc]at hca;rw[show Utf8.decode ⟨s.toArray⟩ k=dec s k from rfl];generalize dec s k=d at*;obtain⟨c,m⟩:=d;simp only[]at hp hca h3 ⊢;try refine sq trivial ?_
  refine wk trivial ?_;(first|refine gq trivial (fun g1=>?_) (fun g1=>?_)|refine pq trivial (fun g1=>?_) (fun g1=>?_))<;>(try exact g1.elim)<;>(try refine sq trivial ?_)<;>(refine wk trivial ?_)
  ·have g0:c=65533:=(by omega);have h4:=h3 g0;refine kq trivial (eN G (s.drop k) [239,191,189] _) ?_;refine cq trivial (fun g2=>?_) (fun g2=>?_)<;>(try exact g2.elim)<;>(refine wk trivial ?_)
   ·refine ee hQ trivial ?_;refine fR (.bool _) ?_;rw[hca,M7 ⟨g0,h4.2 (by simpa using g2)⟩]
   ·refine hK2 _ _ _ (N6 ⟨k+m,rfl,aw,by omega,by rw[hca,M1];rintro⟨_,h5⟩;have:=h4.1 h5;rw[this]at g2;cases g2⟩) (by omega);all_goals try exact zZz trivial
  ·refine hK2 _ _ _ (N6 ⟨k+m,rfl,aw,by omega,by rw[hca,M1];rintro⟨h5,_⟩;exact g1 (by omega)⟩) (by omega);all_goals try exact zZz trivial
 ·rw[W8 (by omega)]at hc;try refine sq trivial ?_
  refine wk trivial ?_;refine ee hQ trivial ?_;refine fR (.bool _) ?_;rw[← hc];rfl
def shortAt(s:List UInt8):Nat→List UInt8
 |0=>s
 |k+1=>if s[k]? =some 58 then s.drop (k+1)else shortAt s k
def short(s:List UInt8):List UInt8:=shortAt s s.length
theorem zw{b:UInt8}{k:Nat}(hk:k<256):((b.toNat:Int)=(k:Nat))↔b=UInt8.ofNat k:=by
 constructor
 ·intro h;have:b.toNat=k:=by omega
  rw[← this];simp
 ·rintro rfl;simp[Nat.mod_eq_of_lt hk]
def attrF:List At→Bs→Bs×Bool
 | [],_=>([],false)
 |a::l,n=>if a.1=n then(a.2,true)else attrF l n
mutual
def deep:Elem→Nat→Nat
 | .mk _ _ _ k,d=>if 40≤d then 40 else deepL k d d
def deepL:List Elem→Nat→Nat→Nat
 | [],_,n=>n
 |k::l,d,n=>deepL l d (if n<deep k (d+1)then deep k (d+1)else n)
end
theorem dR(e:Elem)(d:Nat):deep e d=if 40≤d then 40 else deepL e.kids d d:=by cases e;rw[deep];rfl
theorem uI{α β:Type}{a:List α}{b:List β}{k:Nat}{x:α}{y:β}(ha:a[k]? =some x)(hb:b[k]? =some y):(a.zip b)[k]? =some (x,y):=by
 rw[List.getElem?_zip_eq_some];exact⟨ha,hb⟩
theorem oM{h0 h1 pre post:Heap}{e n v q:Nat}{rows:List AVal}(hh:h1=pre++ .row e n v rows::post)(hq:q=pre.length)(hp:h0.length≤q)(hc:∀r∈rows,Clo h0.length r)(hs:∀r∈rows,∀c∈r.cells,c.sto=true):
  Frz h1 h0.length (.hs q v 0 rows.length true) (.sl n rows):=by
 subst hh;subst hq;have:=Frz.hs (h:=pre++ .row e n v rows::post) (n:=h0.length) pre.length v 0 rows.length true e n rows rows hp (by simp[getRow]) (by simp) rfl
   (fun i r s hr hs'=>by rw[hr]at hs';cases hs';exact .clo _ (hc r (N0 hr)))
   (fun i r s hr hs'=>by rw[hr]at hs';cases hs';exact⟨rfl,fun j c d hj hd=>hs r (N0 hr) d (N0 hd)⟩)
   (fun i r s j c d hr hs' hj hd=>by rw[hr]at hs';cases hs';rw[hj]at hd;cases hd;exact .clo _ ((hc r (N0 hr)).cells c (N0 hj)))
 simpa using this
theorem Elem.av_sto(e:Elem):∀c∈e.av.cells,c.sto=true:=by
 rw[Elem.av_cells];intro c hc;simp only[O5,S8,or_false]at hc;rcases hc with rfl|rfl|rfl|rfl<;>rfl
theorem Tok.av_sto(e:Tok):∀c∈e.av.cells,c.sto=true:=by
 rw[Tok.av_cells];intro c hc;simp only[O5,S8,or_false]at hc;rcases hc with rfl|rfl|rfl|rfl<;>rfl
theorem uJ{h0 h1 pre post:Heap}{e v q:Nat}(l:List Elem)(hh:h1=pre++ .row e 4 v (l.map Elem.av)::post)(hq:q=pre.length)(hp:h0.length≤q):Frz h1 h0.length (.hs q v 0 l.length true) (.sl 4 (l.map Elem.av)):=by
 have:=oM (h0:=h0) hh hq hp (fun r hr=>by obtain⟨a,_,rfl⟩:=N5.1 hr;exact Elem.clo _ a) (fun r hr=>by obtain⟨a,_,rfl⟩:=N5.1 hr;exact a.av_sto);simpa using this
def kidsF(e:Elem)(n:Bs):List Elem:=e.kids.filter fun k=>decide (short k.name=n)
end Go.Av
namespace Go.Av
open Go Go.Proofs Go.RowKit
inductive Outl where
 |mk (title url:Bs) (kids:List Outl)
 deriving Inhabited
namespace Outl
def title:Outl→Bs| .mk t _ _=>t
def url:Outl→Bs| .mk _ u _=>u
def kids:Outl→List Outl| .mk _ _ k=>k
end Outl
mutual
def Outl.av:Outl→AVal
 | .mk t u k=>.agg [.str t,.str u,.sl 3 (ovs k)]
def ovs:List Outl→List AVal
 | []=>[]
 |e::l=>e.av::ovs l
end
theorem Bj(l:List Outl):ovs l=l.map Outl.av:=by
 induction l with
 |nil=>rfl
 |cons e l ih=>rw[ovs,ih];rfl
theorem Outl.av_eq(e:Outl):e.av=.agg [.str e.title,.str e.url,.sl 3 (e.kids.map Outl.av)]:=by
 cases e with
 |mk t u k=>simp only[Outl.av,Bj,Outl.title,Outl.url,Outl.kids]
mutual
def Outl.sz:Outl→Nat
 | .mk t u k=>1+t.length+u.length+okidsz k
def okidsz:List Outl→Nat
 | []=>0
 |e::l=>e.sz+okidsz l
end
theorem uK(l:List Outl):okidsz l=szs Outl.sz l:=by
 induction l with
 |nil=>rfl
 |cons e l ih=>rw[okidsz,ih];rfl
theorem Outl.sz_eq(e:Outl):e.sz=1+e.title.length+e.url.length+szs Outl.sz e.kids:=by
 cases e with
 |mk t u k=>simp only[Outl.sz,uK,Outl.title,Outl.url,Outl.kids]
theorem Outl.sz_pos(e:Outl):1≤e.sz:=by rw[Outl.sz_eq];omega
theorem Outl.kids_sz(e:Outl):szs Outl.sz e.kids+1≤e.sz:=by rw[Outl.sz_eq e];omega
theorem bR(l:List Outl):l.length≤szs Outl.sz l:=bY Outl.sz Outl.sz_pos l
@[go_sem] theorem Outl.av_cells(e:Outl):AVal.cells (Outl.av e)=[.str e.title,.str e.url,.sl 3 (e.kids.map Outl.av)]:=by rw[Outl.av_eq];rfl
@[go_sem] theorem Outl.av_fold(e:Outl):AVal.agg [.str e.title,.str e.url,.sl 3 (e.kids.map Outl.av)]=Outl.av e:=(Outl.av_eq e).symm
@[go_sem] theorem Outl.av_box(t:TypeId)(e:Outl)(h:Heap)(k:Heap→Prop):boxK t (Outl.av e) h k=k (h++[.row t 3 0 [Outl.av e]]):=by simp[Outl.av_eq,gP]
@[go_sem] theorem Outl.av_lies(e:Outl):AVal.lies (Outl.av e)=true:=by rw[Outl.av_eq];rfl
theorem Outl.av_sto(e:Outl):∀c∈e.av.cells,c.sto=true:=by
 rw[Outl.av_cells];intro c hc;simp only[O5,S8,or_false]at hc;rcases hc with rfl|rfl|rfl<;>rfl
mutual
theorem Outl.clo(n:Nat):∀e:Outl,Clo n e.av
 | .mk t u k=>by
  rw[Outl.av];refine .agg _ fun c hc=>?_
  simp only[O5,S8,or_false]at hc;rcases hc with rfl|rfl|rfl
  ·exact .str _
  ·exact .str _
  ·exact .sl _ _ (nc n k)
theorem nc(n:Nat):∀(l:List Outl),∀e∈ovs l,Clo n e
 | []=>by intro e he;cases he
 |x::l=>by
  intro e he;rw[ovs]at he;rcases O5.1 he with rfl|he
  ·exact Outl.clo n x
  ·exact nc n l e he
end
theorem Outls.clo(n m:Nat)(l:List Outl):Clo n (.sl m (l.map Outl.av)):=.sl _ _ fun e he=>by
 obtain⟨a,_,rfl⟩:=N5.1 he;exact Outl.clo n a
mutual
def feedsO:Outl→Nat→List Outl
 | .mk t u k,d=>(if u=[]then []else [.mk t u k])++(if 8<d+1 then []else feedsL k (d+1))
def feedsL:List Outl→Nat→List Outl
 | [],_=>[]
 |o::l,d=>feedsO o d++feedsL l d
end
def feedsF(l:List Outl)(d:Nat):List Outl:=if 8<d then []else feedsL l d
theorem uL(o:Outl)(d:Nat):feedsO o d=(if o.url=[]then []else [o])++feedsF o.kids (d+1):=by cases o;rw[feedsO];rfl
def sameOL:Nat→List Outl→List Outl→Bool
 |0,a,b=>decide (a.length=b.length)&&decide (a.length=0)
 |f+1,a,b=>decide (a.length=b.length)&&(a.zip b).all fun p=>decide (p.1.title=p.2.title)&&(decide (p.1.url=p.2.url)&&sameOL f p.1.kids p.2.kids)
end Go.Av
namespace Go.Av
open Go Go.Proofs Go.RowKit
attribute [local irreducible] WP WPl WPix Sat
variable (G:Nat→Option (List AVal))
theorem uM:∀(f d:Nat),f+d=9→∀(a b:List Outl) (_:szs Outl.sz a≤1048576) (_:szs Outl.sz b≤1048576) (h:Heap),Sat (CT G) 53 [.sl 3 (a.map Outl.av),.sl 3 (b.map Outl.av),.int .i64 d] h (fun r h'=>r=.bool (sameOL f a b)∧h'=h):=by
 intro f;induction f with
 |zero=>
  intro d hd a b ha hb h;have hal:=bR a;have hbl:=bR b;obtain rfl:d=9:=by omega
  refine sb [.tmp 6] Tryz.func53 ?_;intro Q hQ;refine af trivial ?_;(first|refine aX trivial (fun g1=>?_) (fun g1=>?_)|refine aY trivial (fun g1=>?_) (fun g1=>?_))<;>(try exact g1.elim)<;>(try refine ai trivial ?_)<;>(refine af trivial ?_)
  ·refine au hQ trivial ?_;refine fR (.bool _) ?_;have:a.length≠b.length:=by omega
   simp[sameOL,this]
  have g1':a.length=b.length:=by omega
  (first|refine aX trivial (fun g2=>?_) (fun g2=>?_)|refine aY trivial (fun g2=>?_) (fun g2=>?_))<;>(try exact g2.elim)<;>(try refine ai trivial ?_)<;>(refine af trivial ?_)
  ·refine aD trivial (fun hc=>?_) (fun hc=>?_)<;>(try exact hc.elim)<;>(refine af trivial ?_)
   ·refine au hQ trivial ?_;refine fR (.bool _) ?_;have:a.length≠0:=by omega
    simp[sameOL,this]
   ·exfalso;omega
  have g2':a.length=0:=by omega
  refine lm (fun nL tL hL=>0=nL∧h=hL∧tL 7=.int .i64 0) (0) ?_ ?_
  ·refine N6 ⟨rfl,aw,?_⟩;all_goals first|exact az trivial|rfl|omega|trivial|skip
  rintro _ s2 h' ⟨rfl,rfl,e7⟩ K2 hK2;simp only[aj,am,Nat.reduceEqDiff, ↓reduceIte]at e7;have F:=e7;refine af F ?_;refine aD F (fun hc=>?_) (fun hc=>?_)<;>(try exact hc.elim)
  ·exfalso;omega
  ·refine af F ?_;refine au hQ F ?_;refine fR (.bool _) ?_;simp[sameOL, ← g1',g2']
 |succ f ih=>
  intro d hd a b ha hb h;have hal:=bR a;have hbl:=bR b;refine sb [.tmp 6] Tryz.func53 ?_;intro Q hQ;refine af trivial ?_;have out:∀(t':Env),t' 6=.bool false→sameOL (f+1) a b=false→Q .ret t' h:=by
   intro t' e6 hs;refine(hQ _ _ ?_).1;simp(disch:=first|omega| (simp only[go_sem, ↓reduceIte,Nat.reduceEqDiff];done)|fail) only[go_sem, ↓reduceIte,Int.reduceToNat,Int.reduceLE,Int.reduceLT,Int.reduceSub,Int.reduceAdd,Nat.reduceEqDiff,Nat.reduceAdd,Nat.reduceLeDiff,Nat.reduceLT,Nat.reduceMul,Nat.reduceSub,e6];exact S6 (.bool _) ⟨by rw[hs],rfl⟩
  (first|refine aX trivial (fun g1=>?_) (fun g1=>?_)|refine aY trivial (fun g1=>?_) (fun g1=>?_))<;>(try exact g1.elim)<;>(try refine ai trivial ?_)<;>(refine af trivial ?_)
  ·have:a.length≠b.length:=by omega
   exact out _ (by exact az trivial) (by simp[sameOL,this])
  have hl:a.length=b.length:=by omega
  have hsame:sameOL (f+1) a b=(a.zip b).all fun p=>decide (p.1.title=p.2.title)&&(decide (p.1.url=p.2.url)&&sameOL f p.1.kids p.2.kids):=by simp[sameOL,hl]
  (first|refine aX trivial (fun g2=>?_) (fun g2=>?_)|refine aY trivial (fun g2=>?_) (fun g2=>?_))<;>(try exact g2.elim)<;>(try refine ai trivial ?_)<;>(refine af trivial ?_)
  ·refine aD trivial (fun hc=>?_) (fun hc=>?_)<;>(try exact hc.elim)<;>(refine af trivial ?_)
   ·exfalso;omega
   ·refine lm (fun nL tL hL=>∃(k:Nat),a.length-k=nL∧h=hL∧tL 7=.int .i64 k∧k≤a.length∧sameOL (f+1) a b=((a.zip b).drop k).all fun p=>decide (p.1.title=p.2.title)&&(decide (p.1.url=p.2.url)&&sameOL f p.1.kids p.2.kids)) ((fun(k:Nat)=>(a.length-k:Nat)) (0)) ?_ ?_
    ·refine N6 ⟨0,rfl,aw,?_,V8 _,hsame⟩;all_goals first|exact az trivial|rfl|omega|trivial|skip
    rintro _ s2 h' ⟨k,rfl,rfl,e7,hk,hp⟩ K2 hK2;simp only[aj,am,Nat.reduceEqDiff, ↓reduceIte]at e7;have F:=e7;refine af F ?_;refine aD F (fun hc=>?_) (fun hc=>?_)<;>(try exact hc.elim)
    ·obtain⟨x,hx,hxm⟩:=ak hc;obtain⟨y,hy,hym⟩:=ak (show k<b.length by omega);have hxs:=bL Outl.sz hxm;have hys:=bL Outl.sz hym;have hxk:=x.kids_sz;have hyk:=y.kids_sz;rw[aI (uI hx hy),Z1]at hp;have F:=F3 F hx hy;refine af F ?_;(first|refine aX F (fun g3=>?_) (fun g3=>?_)|refine aY F (fun g3=>?_) (fun g3=>?_))<;>(try exact g3.elim)<;>(try refine ai F ?_)<;>(refine af F ?_)
     ·exact out _ (by exact az F) (by rw[hp];simp[g3])
     (first|refine aX F (fun g4=>?_) (fun g4=>?_)|refine aY F (fun g4=>?_) (fun g4=>?_))<;>(try exact g4.elim)<;>(try refine ai F ?_)<;>(refine af F ?_)
     ·exact out _ (by exact az F) (by rw[hp];simp[g4])
     refine aG (ih (d+1) (by omega) x.kids y.kids (by omega) (by omega) _) ?_;(try refine ai F ?_);refine af F ?_;refine aD F (fun hc=>?_) (fun hc=>?_)<;>(try exact hc.elim)<;>(refine af F ?_)
     ·exact out _ (by exact az F) (by rw[hp];simp[hc])
     ·refine hK2 _ _ _ (N6 ⟨k+1,rfl,aw,?_,by omega,by rw[hp];simp[g3,g4,hc]⟩) (by omega);all_goals first|exact az F|rfl|omega|trivial|skip
    ·refine af F ?_;refine au hQ F ?_;refine fR (.bool _) ?_;rw[hp,aL (by simp;omega)];rfl
  ·refine lm (fun nL tL hL=>∃(k:Nat),a.length-k=nL∧h=hL∧tL 7=.int .i64 k∧k≤a.length∧sameOL (f+1) a b=((a.zip b).drop k).all fun p=>decide (p.1.title=p.2.title)&&(decide (p.1.url=p.2.url)&&sameOL f p.1.kids p.2.kids)) ((fun(k:Nat)=>(a.length-k:Nat)) (0)) ?_ ?_
   ·refine N6 ⟨0,rfl,aw,?_,V8 _,hsame⟩;all_goals first|exact az trivial|rfl|omega|trivial|skip
   rintro _ s2 h' ⟨k,rfl,rfl,e7,hk,hp⟩ K2 hK2;simp only[aj,am,Nat.reduceEqDiff, ↓reduceIte]at e7;have F:=e7;refine af F ?_;refine aD F (fun hc=>?_) (fun hc=>?_)<;>(try exact hc.elim)
   ·exfalso;omega
   ·refine af F ?_;refine au hQ F ?_;refine fR (.bool _) ?_;rw[hp,aL (by simp;omega)];rfl
theorem uN(a b:List Outl)(ha:szs Outl.sz a≤1048576)(hb:szs Outl.sz b≤1048576)(h:Heap):Sat (CT G) 23 [.sl 3 (a.map Outl.av),.sl 3 (b.map Outl.av)] h (fun r h'=>r=.bool (sameOL 8 a b)∧h'=h):=by
 refine sb [.tmp 4] Tryz.func23 ?_;intro Q hQ;refine af trivial ?_;refine aH trivial (uM G 8 1 (by omega) a b ha hb _) ?_;refine au hQ trivial ?_;refine fR (.bool _) ?_;rfl
end Go.Av
namespace Go.Av
open Go.RowKit
section
variable {C:Ctx} {t:Env} {h:Heap}
def detGo(md:Region.Mode)(ops:Array Oper):Nat→Array Bool→Option (List Nat)
 |0,_=>some []
 |f+1,L=>match Region.ready md ops L with
  | [i]=>(detGo md ops f (L.setIfInBounds i true)).map (i:: ·)
  |_=>none
theorem oN{ops:Array Oper}{Q:Exit→Env→Heap→Prop}{md:Region.Mode}:∀(f:Nat) (L:Array Bool) (idx:List Nat) (sub:List Oper) (t:Env) (h:Heap),detGo md ops f L=some idx→idx.map (fun i=>ops[i]?)=sub.map some→
  WPl C ops Q sub t h→RestM C ops Q md f L t h:=by
 intro f;induction f with
 |zero=>
  intro L idx sub t h hd hs g n;simp only[detGo,O4]at hd;subst hd;have:sub=[]:=by simpa using hs.symm
  subst this;simp only[Region.linearise.go,List.reverse_nil,WPix];exact g
 |succ f ih=>
  intro L idx sub t h hd hs g n;simp only[detGo]at hd;split at hd
  ·rename_i i hr;obtain⟨idx',hd',rfl⟩:=N9.1 hd;cases sub with
   |nil=>simp at hs
   |cons o sub=>
    simp only[O3,List.cons.injEq]at hs;have hi:(Region.ready md ops L)[n%(Region.ready md ops L).length]? =some i:=by
     rw[hr,U8,Nat.mod_one];rfl
    rw[dc md ops f n L hi];simp only[WPix,hs.1];simp only[WPl]at g;exact dY g fun t' h' g'=>ih _ idx' sub t' h' hd' hs.2 g' _
  ·cases hd
theorem oO{l:List Oper}{k n:Nat}(h:k+n≤l.length):(List.range' k n).map (fun i=>l.toArray[i]?)=((l.drop k).take n).map some:=by
 refine U0 fun i=>?_
 simp only[O2];by_cases hi:i<n
 ·rw[O1 hi,Q8,List.getElem?_range' (by omega)];simp only[T3,U3];have:k+i<l.length:=by omega
  simp[M4 this]
 ·rw[R6 (by simp;omega),R6 (by simp;omega)];rfl
inductive OT where
 |nil
 |one (i:Nat) (s:OT)
 |two (i:Nat) (s:OT) (j:Nat) (u:OT)
def OT.ok(ops:Array Oper):Nat→Array Bool→OT→Bool
 |0,_,.nil=>true
 |f+1,L,.one i s=>Region.ready .any ops L==[i]&&OT.ok ops f (L.setIfInBounds i true) s
 |f+1,L,.two i s j u=>Region.ready .any ops L==[i,j]&&(OT.ok ops f (L.setIfInBounds i true) s&&OT.ok ops f (L.setIfInBounds j true) u)
 |_,_,_=>false
def WPt(C:Ctx)(ops:Array Oper)(Q:Exit→Env→Heap→Prop):OT→Env→Heap→Prop
 | .nil,t,h=>Q .normal t h
 | .one i s,t,h=>WPl C ops (fun _ t' h'=>WPt C ops Q s t' h') (ops[i]?).toList t h
 | .two i s j u,t,h=>WPl C ops (fun _ t' h'=>WPt C ops Q s t' h') (ops[i]?).toList t h∧WPl C ops (fun _ t' h'=>WPt C ops Q u t' h') (ops[j]?).toList t h
theorem OT.sound{ops:Array Oper}{Q:Exit→Env→Heap→Prop}:∀(f:Nat) (L:Array Bool) (tr:OT) (t:Env) (h:Heap),OT.ok ops f L tr=true→WPt C ops Q tr t h→RestM C ops Q .any f L t h:=by
 intro f;induction f with
 |zero=>
  intro L tr t h ho g n;cases tr with
  |nil=>simp only[Region.linearise.go,List.reverse_nil,WPix];exact g
  |_=>simp[OT.ok]at ho
 |succ f ih=>
  intro L tr t h ho g n;have step:∀(i:Nat) (s:OT),(Region.ready .any ops L)[n%(Region.ready .any ops L).length]? =some i→OT.ok ops f (L.setIfInBounds i true) s=true→WPl C ops (fun _ t' h'=>WPt C ops Q s t' h') (ops[i]?).toList t h→
    WPix C ops Q (Region.linearise.go .any ops (f+1) n L []) t h:=fun i s hi hs hg=>by
   rw[dc .any ops f n L hi];simp only[WPix];have hmem:=N0 hi;obtain⟨_,o,ho,_⟩:=mem_ready.1 hmem;simp only[ho,Option.toList]at hg ⊢;simp only[WPl]at hg;exact dY hg fun t' h' g'=>ih _ s t' h' hs g' _
  cases tr with
  |nil=>simp[OT.ok]at ho
  |one i s=>
   simp only[OT.ok,M2,beq_iff_eq]at ho;exact step i s (by rw[ho.1,U8,Nat.mod_one];rfl) ho.2 g
  |two i s j u=>
   simp only[OT.ok,M2,beq_iff_eq]at ho;have hn:n%2=0∨n%2=1:=(by omega);rcases hn with hn|hn
   ·exact step i s (by rw[ho.1];show [i,j][n%2]? =_;rw[hn];rfl) ho.2.1 g.1
   ·exact step j u (by rw[ho.1];show [i,j][n%2]? =_;rw[hn];rfl) ho.2.2 g.2
theorem d9{id:Nat}{l:List Oper}{Q:Exit→Env→Heap→Prop}(k:Nat)(tr:OT)(hok:(preOk l.toArray k&&decide (k≤l.length))=true)(hm:C.P.follows .mixedOrders=true)
  (hT:OT.ok l.toArray (l.length-k) (listK l.length k) tr=true)
  (hh:WPp C l.toArray (l.take k) t h fun t'=>WPt C l.toArray Q tr t' h):WP C (.region id l.toArray true) Q t h:=by
 simp only[M2,M8]at hok;have D:=eX hok.1;obtain⟨V,hv,hK⟩:=cB _ _ hh;have hlen:(l.take k).length=k:=by simp;omega
 rw[hlen]at hK;have rT:=OT.sound (ops:=l.toArray) (Q:=Q) _ _ tr _ h hT hK;have main:∀n,WPix C l.toArray Q (Region.linearise .any l.toArray n) t h:=fun n=>by
  unfold Region.linearise;refine eY D .any D.less (by simp;omega) (V:=V) (t0:=t) (fun _=>True) (fun i o hi _=>hv i o hi) (by simpa using rT) _ _ _ _ (by simp) ?_ (fun j oj hj hl=>?_) (fun j hj hl=>?_) (fun _ _ _=>trivial) (Ag.start _ _ _ _ fun j hj=>?_)
  ·unfold left;have:(List.range l.toArray.size).filter (fun i=> !(Array.replicate l.toArray.size false).getD i true)=List.range l.toArray.size:=by
    rw[V5];intro i hi;have:=S9.1 hi;simp at this ⊢;simp[this]
   rw[this,za4]
  ·have h8:=(O8.1 hj).1;simp at h8 hl;simp[h8]at hl
  ·simp at hj hl;simp[hj]at hl
  ·have:j<l.length:=by omega
   simp[this]
 show ∀tp,WPix C l.toArray Q (Region.schedule (C.P.follows .mixedOrders) l.toArray tp) t h;intro tp;unfold Region.schedule;rw[hm];simp only[U9,if_true];exact main _
def agrL:List Nat→Env→Env→Prop
 | [],_,_=>True
 |d::ds,s,t=>s d=t d∧agrL ds s t
theorem jW:∀{ds:List Nat} {s t:Env},agrL ds s t→∀d∈ds,s d=t d
 | [],_,_,_,d,h=>by cases h
 |e::ds,s,t,g,d,h=>by
  rcases O5.1 h with rfl|h
  ·exact g.1
  ·exact jW g.2 d h
theorem ma{d:Nat}:∀{l:List Oper} {i:Nat} {o:Oper},l[i]? =some o→o.dst=some d→d∈wrOps l
 | [],i,o,h,_=>by simp at h
 |a::l,0,o,h,hd=>by simp at h;subst h;unfold wrOps;rw[hd];simp
 |a::l,i+1,o,h,hd=>by
  have:=ma (l:=l) (i:=i) (o:=o) (by simpa using h) hd;unfold wrOps;split<;>simp[this]
theorem bS{id:Nat}{l:List Oper}{Q:Exit→Env→Heap→Prop}(k u:Nat)(oe:Oper)(hoe:l[k]? =some oe)(hok:(preOk l.toArray (k+1)&&decide (u≤k))=true)(hm:C.P.follows .mixedOrders=true)
  (hu:((List.range k).all fun i=>decide (i<u)||((Region.before l.toArray).getD k 0).testBit i)=true)(hdst:((l.take u).all fun o=>o.dst.isSome)=true)
  (hA:detGo .any l.toArray (l.length-(k+1)) (listK l.length (k+1))=some (List.range' (k+1) (l.length-(k+1))))
  (hh:WPp C l.toArray (l.take k) t h fun t'=>wpOperV C l.toArray oe t' h fun v h'=>
   (WPp C l.toArray (l.take u) t h' fun t''=>agrL (wrOps (l.take u)) t'' t')∧WPl C l.toArray Q (l.drop (k+1)) (put t' oe.dst v) h'):WP C (.region id l.toArray true) Q t h:=by
 simp only[M2,M8]at hok;have D:=eX hok.1;have hkl:=(M0.1 hoe).1;obtain⟨V,hv,hK⟩:=cB _ _ hh;have hlen:(l.take k).length=k:=by simp;omega
 rw[hlen]at hK;have hTT:∀i,i≤k→Av.T V (l.take k) t i=Av.T V l t i:=fun i hi=>gw V V k (fun _ _=>rfl) _ _ _ _ hi (by rw[zb3];congr 1;omega) (by rw[hlen];exact hi) (by omega)
 rw[hTT k (N3 _)]at hK;have main:∀n,WPix C l.toArray Q (Region.linearise .any l.toArray n) t h:=fun n=>by
  unfold Region.linearise;refine kR D .any D.less (by simp;omega) (V:=V) (t0:=t) (oe:=oe) (by simpa using hoe) (fun i o hi ho=>?_) ?_ _ _ _ _ (by simp) ?_ (fun j oj hj hl=>?_) (fun j hj hl=>?_) (Ag.start _ _ _ _ fun j hj=>?_)
  ·have:=hv i o (by rw[U2,M7 hi];simpa using ho);rw[hTT i (by omega)]at this;exact this
  ·refine bX hK fun v h' ⟨h1,h2⟩=>⟨fun i o hi ho hc=>?_,?_⟩
   ·have hiu:i<u:=by
     have:=P4.1 hu i (S9.2 hi);rw[hc]at this;simpa using this
    obtain⟨V2,hv2,hK2⟩:=cB _ _ h1;have hlu:(l.take u).length=u:=(by simp;omega);rw[hlu]at hK2;have hVV:∀j,j<u→V2 j=V j:=fun j hj=>by
     have hoj:l[j]? =some (l[j]'(by omega)):=M4 _;have hoj':(l.take u)[j]? =some (l[j]'(by omega)):=(by rw[U2,M7 hj];exact hoj);obtain⟨d,hdd⟩:=P7.1 (P4.1 hdst _ (N0 hoj'));have e:=jW hK2 d (ma hoj' hdd);have a1:=D.ag_T V2 t (by simp;omega) u (by omega);have a2:=D.ag_T V t (by simp;omega) k (by omega);have hoa:l.toArray[j]? =some (l[j]'(by omega)):=(by simp);have b1:=a1.1 j _ d (by omega) hoa (by simpa using hj) hdd;have b2:=a2.1 j _ d (by omega) hoa (by simp;omega) hdd;have c1:Av.T V2 (l.toArray.toList.take (k+1)) t u=Av.T V2 (l.take u) t u:=gw V2 V2 u (fun _ _=>rfl) _ _ _ _ (N3 _) (by simp[zb3];try omega) (by simp;omega) (by omega);have c2:Av.T V (l.toArray.toList.take (k+1)) t k=Av.T V l t k:=gw V V k (fun _ _=>rfl) _ _ _ _ (N3 _) (by simp[zb3]) (by simp;omega) (by omega);rw[c1]at b1;rw[c2]at b2;rw[← b1, ← b2,e]
    have:=hv2 i o (by rw[U2,M7 hiu];simpa using ho);rw[hVV i hiu]at this;have c3:Av.T V2 (l.take u) t i=Av.T V l t i:=gw V V2 u hVV _ _ _ _ (by omega) (by rw[zb3];congr 1;omega) (by omega) (by omega);rw[c3]at this;exact this
   ·have:=oN (ops:=l.toArray) (Q:=Q) _ _ _ (l.drop (k+1)) _ h' hA (by rw[oO (by omega),P5 (by simp)]) h2;simpa using this
  ·unfold left;have:(List.range l.toArray.size).filter (fun i=> !(Array.replicate l.toArray.size false).getD i true)=List.range l.toArray.size:=by
    rw[V5];intro i hi;have:=S9.1 hi;simp at this ⊢;simp[this]
   rw[this,za4]
  ·have h8:=(O8.1 hj).1;simp at h8 hl;simp[h8]at hl
  ·simp at hj hl;simp[hj]at hl
  ·have:j<l.length:=by omega
   simp[this]
 show ∀tp,WPix C l.toArray Q (Region.schedule (C.P.follows .mixedOrders) l.toArray tp) t h;intro tp;unfold Region.schedule;rw[hm];simp only[U9,if_true];exact main _
attribute [go_sem] agrL
theorem ba{ops:Array Oper}{Q:Exit→Env→Heap→Prop}(g:Q .normal t h):WPt C ops Q .nil t h:=g
theorem bc{ops:Array Oper}{Q:Exit→Env→Heap→Prop}{i:Nat}{s:OT}{o:Oper}(ho:ops[i]? =some o)(g:WPl C ops (fun _ t' h'=>WPt C ops Q s t' h') [o] t h):WPt C ops Q (.one i s) t h:=by
 simp only[WPt,ho];exact g
theorem bf{ops:Array Oper}{Q:Exit→Env→Heap→Prop}{i j:Nat}{s u:OT}{o p:Oper}(ho:ops[i]? =some o)(hp:ops[j]? =some p)(g:WPl C ops (fun _ t' h'=>WPt C ops Q s t' h') [o] t h)
  (g':WPl C ops (fun _ t' h'=>WPt C ops Q u t' h') [p] t h):WPt C ops Q (.two i s j u) t h:=by
 simp only[WPt,ho,hp];exact⟨g,g'⟩
end
section
variable {C:Ctx} {B n:Nat} {S:Addr→Prop} {μ:Map} {h:Heap} {w:World} {t:Env} {a:Act}
def LetP(S:Addr→Prop)(μ:Map)(w:World)(p:Nat):Addr→Prop:=fun a=>S a∨∃m,μ[p]? =some m∧m.blk=some a.block∧(w.cell? a).isSome=true
theorem Rep.letgo(f:Fits C B S μ h w){p v e m:Nat}{rows:List AVal}(hg:getRow h p v=some (e,m,rows)){μ':Map}(st:Step B S μ w (LetP S μ w p) μ' w)
  {off len:Nat}{room:Bool}{val:Value}(hlen:off+len≤rows.length)(r:Rep w S μ (.hs p v off len room) val):Rep w (LetP S μ w p) μ' (.sl m ((rows.drop off).take len)) val:=by
 obtain⟨mb,hm,hf⟩:=f.row hg;have hms:=hf.hsize;rcases r.hs_now hm hf.hver with⟨hb,rfl,rfl,rfl⟩| ⟨b,hb,hcap,rfl⟩
 ·simpa using Rep.sl0 (w:=w) (S:=LetP S μ w p) (μ:=μ') m none 0
 ·by_cases hl0:len=0
  ·subst hl0;simpa using Rep.sl0 (w:=w) (S:=LetP S μ w p) (μ:=μ') m _ _
  ·obtain⟨cur,hheap,hcs,hle,hmax,fl⟩:=hf.flat hb;have hes:((rows.drop off).take len).length=len:=(by simp;omega);have hget:∀(i:Nat) (s:AVal),((rows.drop off).take len)[i]? =some s→rows[off+i]? =some s:=by
    intro i s hi;have hlt:=(M0.1 hi).1;rw[hes]at hlt;rw[O1 hlt,Q8]at hi;exact hi
   have e1:∀i j,(off+i)*m+j=off*m+(i*m+j):=fun i j=>by rw[T8];omega
   have key:=Rep.sl (w:=w) (S:=LetP S μ w p) (μ:=μ') m ((rows.drop off).take len) b (off*mb.size) (if room then mb.cap-off else len)
    (fun i j=>cur.getD (off*m+(i*m+j)) undef) (by intro e;rw[e]at hes;simp at hes;omega) (by rw[hes];split<;>omega) (by split<;>omega)
    (fun i s hi=>hf.lens _ _ (hget i s hi))
    (fun i s j d hi hj=>by
     have h1:=hget i s hi;obtain⟨u,hu,_⟩:=fl.rep _ _ _ _ h1 hj;have hu:=aK hu;rw[e1]at hu;have hu2:cur[off*m+(i*m+j)]? =some u:=(by simpa using hu);have hcell:w.cell? ⟨b,off*m+(i*m+j),none⟩=some u:=(by simp[World.cell?,hheap,hu2]);rw[hms];refine⟨.inr ⟨mb,hm,hb,by rw[hcell];rfl⟩,?_,hf.sto _ _ _ _ h1 hj⟩;rw[hcell];simp[R1,hu2])
    (fun i s j d hi hj=>by
     have h1:=hget i s hi;obtain⟨u,hu,hrep⟩:=fl.rep _ _ _ _ h1 hj;have hu:=aK hu;rw[e1]at hu;have hu2:cur[off*m+(i*m+j)]? =some u:=(by simpa using hu);have:=hrep.mono st;simpa [R1,hu2]using this)
   rw[hes]at key;exact key
theorem Fits.letgo(f:Fits C B S μ h w){p v e m:Nat}{rows:List AVal}(hg:getRow h p v=some (e,m,rows)):
  ∃μ',Step B S μ w (LetP S μ w p) μ' w∧Fits C B (LetP S μ w p) μ' (h.set p .dead) w:=by
 obtain⟨mb,hm,hf⟩:=f.row hg;have hlt:=(M0.1 hm).1;have st:Step B S μ w (LetP S μ w p) (μ.set p ⟨none,mb.ver+1,mb.size,mb.cap⟩) w:=⟨fun a ha=>.inl ha,fun _ _=>rfl,X8 _ _,bJ hm (by simp) (fun e=>by simp at e),fun a ha=>by
  rcases ha with ha| ⟨m',hm',hb,_⟩
  ·exact .inl ha
  ·exact .inr (f.own p m' _ hm' hb).1⟩
 have at_:∀q k,(μ.set p ⟨none,mb.ver+1,mb.size,mb.cap⟩)[q]? =some k→(q=p∧k.blk=none)∨(q≠p∧μ[q]? =some k):=by
  intro q k hq;by_cases e:p=q
  ·subst e;rw[Q3 hlt]at hq;cases hq;exact .inl ⟨rfl,rfl⟩
  ·rw[Q4 e]at hq;exact .inr ⟨fun e'=>e e'.symm,hq⟩
 refine⟨_,st,⟨fun g cs hg=>(f.glob g cs hg).mono st,by simp[f.len],?_,?_,f.base,?_,?_⟩⟩
 ·intro p1 q1 m1 m2 b h1 h2 e1 e2;rcases at_ p1 m1 h1 with⟨_,k1⟩| ⟨_,k1⟩
  ·rw[k1]at e1;cases e1
  ·rcases at_ q1 m2 h2 with⟨_,k2⟩| ⟨_,k2⟩
   ·rw[k2]at e2;cases e2
   ·exact f.sep p1 q1 m1 m2 b k1 k2 e1 e2
 ·intro p1 m1 b h1 e1;rcases at_ p1 m1 h1 with⟨_,k1⟩| ⟨r1,k1⟩
  ·rw[k1]at e1;cases e1
  ·obtain⟨a1,a2,a3⟩:=f.own p1 m1 b k1 e1;refine⟨a1,a2,fun a ha=>?_⟩;rcases ha with ha| ⟨m',hm',hb,_⟩
   ·exact a3 a ha
   ·intro e;exact r1 (f.sep p1 p m1 m' b k1 hm' e1 (by rw[hb,e]))
 ·intro a ha;rcases ha with ha| ⟨m',hm',hb,_⟩
  ·exact f.lie a ha
  ·exact(f.own p m' _ hm' hb).2.1
 ·intro p1 m1 k1 h1 h2;rcases at_ p1 m1 h1 with⟨rfl,_⟩| ⟨r1,h1⟩
  ·rw[Q3 (by rw[← f.len];exact hlt)]at h2;cases h2;trivial
  ·rw[Q4 (fun e=>r1 e.symm)]at h2;exact(f.blk p1 m1 k1 h1 h2).mono st fun b _=>rfl
inductive Fz (h:Heap) (p v:Nat):AVal→AVal→Prop
 |same (x:AVal):Fz h p v x x
 |hs (off len:Nat) (room:Bool) (e m:Nat) (rows es:List AVal):getRow h p v=some (e,m,rows)→off+len≤rows.length→es=(rows.drop off).take len→Fz h p v (.hs p v off len room) (.sl m es)
 |agg (cs ds:List AVal):cs.length=ds.length→(∀d∈ds,d.sto=true)→(∀(i:Nat) (c d:AVal),cs[i]? =some c→ds[i]? =some d→Fz h p v c d)→Fz h p v (.agg cs) (.agg ds)
 |tup (cs ds:List AVal):cs.length=ds.length→(∀(i:Nat) (c d:AVal),cs[i]? =some c→ds[i]? =some d→Fz h p v c d)→Fz h p v (.tup cs) (.tup ds)
 |wk (x y z:AVal):Fz h p v x y→Wk y z→Fz h p v x z
theorem Fz.all(h:Heap)(p v:Nat){off len e m:Nat}{room:Bool}{rows:List AVal}(hg:getRow h p v=some (e,m,rows))(h0:off=0)(hl:len=rows.length):Fz h p v (.hs p v off len room) (.sl m rows):=
 .hs off len room e m rows rows hg (by omega) (by subst h0;subst hl;simp)
theorem Fz.rep(f:Fits C B S μ h w){p v:Nat}{μ':Map}(st:Step B S μ w (LetP S μ w p) μ' w){x y:AVal}{u:Value}(z:Fz h p v x y)(r:Rep w S μ x u):Rep w (LetP S μ w p) μ' y u:=by
 induction z generalizing u with
 |same x=>exact r.mono st
 |hs off len room e m rows es hg hl he=>subst he;exact r.letgo f hg st hl
 |agg cs ds hl hst _ ih=>
  obtain⟨vs,rfl,hvl,_,hr⟩:=r.agg_inv;refine .agg ds vs (by omega) (fun i d hd=>hst d (N0 hd)) (fun i d hd=>?_);have hlt:=(M0.1 hd).1;have hc:=M4 (show i<cs.length by omega);exact ih i _ d hc hd (hr i _ hc)
 |tup cs ds hl _ ih=>
  obtain⟨vs,rfl,hvl,hr⟩:=r.tup_inv;refine .tup ds vs (by omega) (fun i d hd=>?_);have hlt:=(M0.1 hd).1;have hc:=M4 (show i<cs.length by omega);exact ih i _ d hc hd (hr i _ hc)
 |wk x y z _ hw ih=>exact hw _ _ _ _ (ih r)
theorem Weak.fzIn{ms:List Nat}{t1:Env}(p v q v':Nat){e m e' m':Nat}{rows xs:List AVal}(ys:List AVal)(hg:getRow h p v=some (e,m,rows))(hne:p≠q)(hq:getRow h q v'=some (e',m',xs))
  (hl:ys.length≤xs.length)(hc:∀(i:Nat) (x y:AVal),xs[i]? =some x→ys[i]? =some y→x.cells.length=y.cells.length∧
   ∀(j:Nat) (c d:AVal),x.cells[j]? =some c→y.cells[j]? =some d→Fz h p v c d∧d.sto=true)
  (ht:∀i,t1 i=t i∨(i∈ms∧Fz h p v (t i) (t1 i))):Weak C ms t h t1 ((h.set p .dead).set q (.row e' m' v' ys)):=by
 refine⟨fun i hi=>(ht i).elim id fun⟨h1,_⟩=>absurd h1 hi,fun B k S μ w a f r=>?_⟩;obtain⟨μ',st,f1⟩:=f.letgo hg;obtain⟨mq,hmq,rq⟩:=f.row hq;have hq1:getRow (h.set p .dead) q v'=some (e',m',xs):=by
  have:=bP hq;unfold getRow;rw[Q4 hne,this];simp
 obtain⟨mb,hm,rf⟩:=f1.row hq1;have hset:List.set μ' q mb=μ':=by
  obtain⟨hlt,he⟩:=M0.1 hm;rw[← he,za1]
 have at_:∀(i:Nat) (y:AVal),ys[i]? =some y→∃x,xs[i]? =some x:=by
  intro i y hi;have hlt:=(M0.1 hi).1;exact⟨_,M4 (by omega)⟩
 have cat:∀(i:Nat) (y:AVal) (j:Nat) (d:AVal),ys[i]? =some y→y.cells[j]? =some d→∃x c,xs[i]? =some x∧x.cells[j]? =some c∧Fz h p v c d∧d.sto=true:=by
  intro i y j d hi hj;obtain⟨x,hx⟩:=at_ i y hi;obtain⟨h1,h2⟩:=hc i x y hx hi;have hlt:=(M0.1 hj).1;have hxj:=M4 (show j<x.cells.length by omega);exact⟨x,_,hx,hxj,h2 j _ d hxj hj⟩
 have hmm:mb=mq:=by
  obtain⟨m2,h2,h3,h4⟩:=st.map q mq hmq;rw[hm]at h2;cases h2;exact h4 (by rw[rf.hver,rq.hver])
 subst hmm;have key:BlkFits w (LetP S μ w p) (List.set μ' q mb) mb (.row e' m' v' ys):=by
  rw[hset];refine⟨rf.hver,rf.hsize,rf.pos,fun i y hi=>?_,fun i y j d hi hj=>?_,?_⟩
  ·obtain⟨x,hx⟩:=at_ i y hi;rw[← (hc i x y hx hi).1];exact rf.lens i x hx
  ·obtain⟨x,c,_,_,_,h4⟩:=cat i y j d hi hj;exact h4
  ·rcases rq.lies with⟨h1,h2⟩| ⟨b,cur,h1,h2,h3,h4,h5,h6⟩
   ·subst h2;exact .inl ⟨h1,Q1.1 (by simpa using hl)⟩
   ·refine .inr ⟨b,cur,h1,h2,h3,by omega,h5,fun i y j d hi hj=>?_⟩;obtain⟨x,c,hx,hxj,hz,_⟩:=cat i y j d hi hj;obtain⟨u,hu,hr⟩:=h6 i x j c hx hxj;exact⟨u,hu,hz.rep f st hr⟩
 obtain⟨f2,st2⟩:=f1.update (m':=mb) (k':=.row e' m' v' ys) hm (Only.refl w _) (N3 _) (fun _=>rfl) (.inl rfl) key;refine⟨_,_,st.trans st2,f2,r.1,r.2.1,fun i hi=>?_⟩;rcases ht i with h1| ⟨_,h1⟩
 ·rw[h1];exact(r.2.2 i hi).mono (st.trans st2)
 ·exact(h1.rep f st (r.2.2 i hi)).mono st2
theorem Weak.rowTake{ms:List Nat}(p v k:Nat){e m:Nat}{rows:List AVal}(hg:getRow h p v=some (e,m,rows)):Weak C ms t h t (h.set p (.row e m v (rows.take k))):=by
 refine⟨fun _ _=>rfl,fun B n S μ w a f r=>?_⟩;obtain⟨mb,hm,rf⟩:=f.row hg;have hset:List.set μ p mb=μ:=by
  obtain⟨hlt,he⟩:=M0.1 hm;rw[← he,za1]
 have at_:∀(i:Nat) (y:AVal),(rows.take k)[i]? =some y→rows[i]? =some y:=fun i y hi=>aK hi
 have key:BlkFits w S (List.set μ p mb) mb (.row e m v (rows.take k)):=by
  rw[hset];refine⟨rf.hver,rf.hsize,rf.pos,fun i y hi=>rf.lens i y (at_ i y hi),fun i y j d hi hj=>rf.sto i y j d (at_ i y hi) hj,?_⟩;rcases rf.lies with⟨h1,h2⟩| ⟨b,cur,h1,h2,h3,h4,h5,h6⟩
  ·subst h2;exact .inl ⟨h1,by simp⟩
  ·exact .inr ⟨b,cur,h1,h2,h3,⟨h4.1,by simp;omega⟩,h5,fun i y j d hi hj=>h6 i y j d (at_ i y hi) hj⟩
 obtain⟨f2,st2⟩:=f.update (m':=mb) (k':=.row e m v (rows.take k)) hm (Only.refl w _) (N3 _) (fun _=>rfl) (.inl rfl) key;exact⟨S,_,st2,f2,r.mono st2⟩
end
end Go.Av
namespace Go.Av
open Go Go.RowKit
theorem aJ{H:Heap}{p q:Nat}(b:Blk)(v:Nat)(hne:p≠q):getRow (H.set p b) q v=getRow H q v:=by
 unfold getRow;rw[Q4 hne]
theorem bV{H:Heap}{p:Nat}(e n u v:Nat)(rows:List AVal)(hp:p<H.length):getRow (H.set p (.row e n u rows)) p v=if v=u then some (e,n,rows)else none:=by
 unfold getRow;rw[Q3 hp]
theorem bq{A l:Heap}{p:Nat}(v:Nat)(hp:p<A.length):getRow (A++l) p v=getRow A p v:=by
 unfold getRow;rw[M5 hp]
theorem bZ{A l:Heap}{n k:Nat}(v:Nat)(hn:A.length=n):getRow (A++l) (n+k) v=getRow l k v:=by subst hn;exact gR A l k v
theorem bH{A l:Heap}{n:Nat}(v:Nat)(hn:A.length=n):getRow (A++l) n v=getRow l 0 v:=by subst hn;exact g9 A l v
theorem oP{A l:Heap}{p:Nat}(b:Blk)(hp:p<A.length):(A++l).set p b=A.set p b++l:=List.set_append_left p b hp
theorem kZ{A l:Heap}{n k:Nat}(b:Blk)(hn:A.length=n):(A++l).set (n+k) b=A++l.set k b:=by subst hn;exact lQ A l k b
theorem gy{A l:Heap}{n:Nat}(b:Blk)(hn:A.length=n):(A++l).set n b=A++l.set 0 b:=by subst hn;exact oc A l b
theorem aZ:(∀{H:Heap} {p q:Nat} (b:Blk) (v:Nat) (_:p≠q),getRow (H.set p b) q v=getRow H q v)∧
  (∀{H:Heap} {p:Nat} (e n u v:Nat) (rows:List AVal) (_:p<H.length),getRow (H.set p (.row e n u rows)) p v=if v=u then some (e,n,rows)else none)∧
  (∀{A l:Heap} {p:Nat} (v:Nat) (_:p<A.length),getRow (A++l) p v=getRow A p v)∧
  (∀{A l:Heap} {n k:Nat} (v:Nat) (_:A.length=n),getRow (A++l) (n+k) v=getRow l k v)∧
  (∀{A l:Heap} {n:Nat} (v:Nat) (_:A.length=n),getRow (A++l) n v=getRow l 0 v)∧
  (∀{A l:Heap} {p:Nat} (b:Blk) (_:p<A.length),(A++l).set p b=A.set p b++l)∧
  (∀{A l:Heap} {n k:Nat} (b:Blk) (_:A.length=n),(A++l).set (n+k) b=A++l.set k b)∧
  (∀{A l:Heap} {n:Nat} (b:Blk) (_:A.length=n),(A++l).set n b=A++l.set 0 b)∧
  (∀(H:Heap) (i:Nat) (b:Blk),(H.set i b).length=H.length)∧(∀(H:Heap) (i:Nat) (a b:Blk),(H.set i a).set i b=H.set i b):=
 ⟨aJ,bV,bq,bZ,bH,oP,kZ,gy,fun _ _ _=>List.length_set ..,fun _ _ _ _=>List.set_set ..⟩
theorem aA{H:Heap}{p v:Nat}{x:TypeId×Nat×List AVal}(h:getRow H p v=some x):p<H.length:=by
 obtain⟨e,n,r⟩:=x;exact(M0.1 (bP h)).1
attribute [go_sem] List.length_set
def KeepC(h0 h1:Heap)(N:Nat):Prop:=∀(p:Nat) (k:Blk),h1[p]? =some k→h0[p]? =some k∨CloB N k
theorem KeepC.refl(h:Heap)(N:Nat):KeepC h h N:=fun _ _ h=>.inl h
theorem KeepC.app{h0 h1:Heap}{N:Nat}(g:KeepC h0 h1 N){l:Heap}(hb:∀b∈l,CloB N b):KeepC h0 (h1++l) N:=by
 intro p k hk;rcases U7 p h1.length with h2|h2
 ·rw[M5 h2]at hk;exact g p k hk
 ·rw[M9 h2]at hk;exact .inr (hb k (N0 hk))
def FrN(n0:Nat)(H H':Heap):Prop:=∀p,p<n0→H'[p]? =H[p]?
theorem FrN.refl(n0:Nat)(H:Heap):FrN n0 H H:=fun _ _=>rfl
theorem FrN.set{n0:Nat}{H H':Heap}{q:Nat}(b:Blk)(hq:n0≤q)(g:FrN n0 H H'):FrN n0 H (H'.set q b):=fun p hp=>by rw[Q4 (by omega)];exact g p hp
theorem FrN.app{n0:Nat}{H H':Heap}(l:Heap)(hn:n0≤H'.length)(g:FrN n0 H H'):FrN n0 H (H'++l):=fun p hp=>by rw[M5 (by omega)];exact g p hp
theorem FrN.trans{n0:Nat}{H H' H'':Heap}(g:FrN n0 H H')(k:FrN n0 H' H''):FrN n0 H H'':=fun p hp=>(k p hp).trans (g p hp)
theorem Fin.whole{h0 h1:Heap}{R:AVal→Heap→Prop}{r:AVal}(hl:h0.length≤h1.length)(hc:Clo h1.length r)(hR:R r h1):Fin h0 h1 R r:=
 ⟨h1.length,r,hl,.clo _ hc,.inl (N3 _),by rw[Z9];exact hR⟩
theorem Fin.upto{h0 h1 j:Heap}{R:AVal→Heap→Prop}{r:AVal}(hl:h0.length≤h1.length)(hk:KeepC h0 h1 h1.length)(hc:Clo h1.length r)(hR:R r h1):Fin h0 (h1++j) R r:=by
 refine⟨h1.length,r,hl,.clo _ hc,.inr fun p k hp h2=>?_,by rw[Z4 rfl];exact hR⟩;rw[M5 hp]at h2;rcases hk p k h2 with h3|h3
 ·exact .inl ⟨(M0.1 h3).1,h3⟩
 ·exact .inr h3
theorem CloB.row{N e n v:Nat}{rows:List AVal}(h:∀r∈rows,Clo N r):CloB N (.row e n v rows):=h
section
variable {C:Ctx}
theorem Sat.postw{f:FuncId}{args:List AVal}{h:Heap}{R R':AVal→Heap→Prop}(s:Sat C f args h R)(k:∀r h',R r h'→∃h'',(∀t,Weak C [] t h' t h'')∧R' r h''):Sat C f args h R':=by
 unfold Sat at*;intro B S μ w vs f0 rl;refine(s B S μ w vs f0 rl).mono fun v w' ⟨r,h',S',μ',hR,st,f1,hr⟩=>?_
 obtain⟨h'',hw,hR'⟩:=k r h' hR;obtain⟨S2,μ2,st2,f2,_⟩:=(hw fun _=>undefA).2 B 0 S' μ' w' {tmps:= #[],defers:=[]} f1 ⟨rfl,rfl,fun i hi=>by omega⟩;exact⟨r,h'',S2,μ2,hR',st.trans st2,f2,hr.mono st2⟩
theorem qo{ops:Array Oper}{x y:Operand}{T T':TypeId}{ty:TypeId}{pos:String}{aft:Array Edge}{dst:Option Tmp}{t:Env}{h:Heap}{K:AVal→Heap→Prop}:
  wpOperV C ops ⟨dst,.call ⟨.builtin .append, #[x,y], #[T,T']⟩,ty,pos,aft,none⟩ t h K=appK C T T' (aev C.G t x) (aev C.G t y) h K:=rfl
theorem xh{T T' e n by' p ver len:Nat}{y:AVal}{rows ys:List AVal}{h:Heap}{k:AVal→Heap→Prop}(hT:T'=T∨strT C.P T'=true)(he:elmT C.P T=some e)(hn:szOf C.P e=some n)(hb:byT C.P e=some by')
  (hz:(zroT C.P e).map (fun z=>z.cells.length)=some n)(h0:0<n)(hy:elemsOf h n y=some ys)(hrow:getRow h p ver=some (e,n,rows))(hl:len≤rows.length)(hys:0<ys.length)
  (hr:len+ys.length≤maxLen∧(len+ys.length)*by'≤140737488355328)
  (hk:k (.hs h.length 0 0 (len+ys.length) true) (h++[.row e n 0 (rows.take len++ys)])):appK C T T' (.hs p ver 0 len false) y h k:=by
 refine⟨hT,?_⟩;simp only[wpAppend,he,hn,hb,hy,hrow,bn];exact⟨h0,hz,trivial,trivial,trivial,hr,by rw[M1 (by simp)];exact⟨hys,hl,hk⟩⟩
theorem l5{P:Program}{h:Heap}{T e p v off len n m r:Nat}{room:Bool}{rows:List AVal}{k k':IntKind}(he:elmT P T=some e)(hg:getRow h p v=some (m,n,rows))(hn:szOf P e=some n)(hr:r≤len):
  aslice P h T (.hs p v off len room) none (some (.int k (r:Int))) (some (.int k' (r:Int)))=some (.hs p v off r false):=by
 simp only[aslice,he,hg,hn,if_true,optInt];rw[M7 ⟨Z6 _,by omega,by omega,.inl trivial⟩];simp
end
end Go.Av
namespace Go.Av
open Go Go.Proofs Go.RowKit
attribute [local irreducible] WP WPl WPix Sat
variable (G:Nat→Option (List AVal))
theorem zx(s p:Bs)(h:(Lib.cut s p).2.2=true):s=(Lib.cut s p).1++p++(Lib.cut s p).2.1∧(Lib.cut s p).1.length=(Lib.index s p).toNat:=by
 unfold Lib.cut at*;by_cases h0:0≤Lib.index s p
 ·rw[M7 h0];have hr:=Lib.index_room s p h0;rcases Lib.index_spec s p with⟨e,_⟩| ⟨i,e,hi,ho,_⟩
  ·omega
  ·rw[e];simp only[Int.toNat_natCast];have hp:(s.drop i).take p.length=p:=by
    have:=Lib.occAt_iff_take s p i (by omega);rw[ho]at this;exact eq_of_beq this.symm
   refine⟨?_,by simp;omega⟩
   conv=>lhs;rw[← X3 i s]
   rw[O9];congr 1
   conv=>lhs;rw[← X3 p.length (s.drop i)]
   rw[hp,Z2]
 ·rw[M1 h0]at h;cases h
theorem l6(s p:Bs)(h:(Lib.cut s p).2.2=false):Lib.cut s p=(s,[],false):=by
 unfold Lib.cut at*;by_cases h0:0≤Lib.index s p
 ·rw[M7 h0]at h;cases h
 ·rw[M1 h0]
theorem c9(s p:Bs)(h:(Lib.cut s p).2.2=true):(Lib.cut s p).1.length+p.length+(Lib.cut s p).2.1.length=s.length:=by
 have:=O6 List.length (zx s p h).1;simp only[M3]at this;omega
def readP:Nat→Bs→Bs
 |0,_=>[]
 |f+1,s=>
  if (Lib.cut s [38]).2.2=true then
   if ((Lib.cut (Lib.cut s [38]).2.1 [59]).2.2&&decide ((Lib.cut (Lib.cut s [38]).2.1 [59]).1.length≤10)&&(signF (Lib.cut (Lib.cut s [38]).2.1 [59]).1).2)=true
   then(Lib.cut s [38]).1++(enc (signF (Lib.cut (Lib.cut s [38]).2.1 [59]).1).1++readP f (Lib.cut (Lib.cut s [38]).2.1 [59]).2.1)
   else(Lib.cut s [38]).1++(38::readP f (Lib.cut s [38]).2.1)
  else(Lib.cut s [38]).1
theorem qp(n:Int)(h:rightF n=true):Rune n:=by
 unfold rightF at h;simp only[Q9,M8,M2,P8,decide_eq_false_iff_not]at h;rcases h with((h|h)|h)| ⟨h0,h1⟩
 ·exact⟨by omega,by omega⟩
 ·exact⟨by omega,by omega⟩
 ·exact⟨by omega,by omega⟩
 ·refine⟨by omega,S3 fun hn=>h1 (ra ?_)⟩;unfold fix Utf8.valid Utf8.runeError;rw[M1];simp;omega
theorem uO(n:Bs)(h:(signF n).2=true):Rune (signF n).1:=by
 have hc:∀k:Int,0≤k→k<55296→Rune k:=fun k a b=>⟨a,.inl b⟩
 unfold signF at*;by_cases c1:n=[97,109,112]
 ·rw[M7 c1];exact hc _ (by decide) (by decide)
 rw[M1 c1]at h ⊢;by_cases c2:n=[108,116]
 ·rw[M7 c2];exact hc _ (by decide) (by decide)
 rw[M1 c2]at h ⊢;by_cases c3:n=[103,116]
 ·rw[M7 c3];exact hc _ (by decide) (by decide)
 rw[M1 c3]at h ⊢;by_cases c4:n=[113,117,111,116]
 ·rw[M7 c4];exact hc _ (by decide) (by decide)
 rw[M1 c4]at h ⊢;by_cases c5:n=[97,112,111,115]
 ·rw[M7 c5];exact hc _ (by decide) (by decide)
 rw[M1 c5]at h ⊢;have key:∀m:Int,(if m<0 then((0:Int),false)else if rightF m=true then(m,true)else(65533,true)).2=true→Rune (if m<0 then((0:Int),false)else if rightF m=true then(m,true)else(65533,true)).1:=by
  intro m h;by_cases hm:m<0
  ·rw[M7 hm]at h;cases h
  ·rw[M1 hm];by_cases hr:rightF m=true
   ·rw[M7 hr];exact qp _ hr
   ·rw[M1 hr];exact⟨by decide,.inr ⟨by decide,by decide⟩⟩
 exact key _ h
variable {G}
theorem fy(hG:GOk G)(s0:Bs)(hs:s0.length≤1048576)(h:Heap):Sat (CT G) 215 [.str s0] h (fun x h'=>x=.str (readP (s0.length+1) s0)∧h'=h):=by
 refine sb [.tmp 2] Tryz.func215 ?_;intro Q hQ;refine af trivial ?_;refine lm (fun nL tL hL=>∃(a:AVal) (v f:Nat) (s out:Bs),f=nL∧bldH h [] a v out=hL∧tL 0=.str s∧bldA a h.length∧s.length<f∧out++readP f s=readP (s0.length+1) s0∧out.length+5*s.length≤5*s0.length) ((fun(a:AVal) (v f:Nat) (s out:Bs)=>(f:Nat)) ((.nil (.pointer none))) (0) ((s0.length+1)) (s0) ([])) ?_ ?_
 ·refine⟨_,_,za7 (p:=h.length) (v:=0) 5 1 (by omega) (by simp(disch:=first|omega| (simp only[go_sem, ↓reduceIte,Nat.reduceEqDiff];done)|fail) only[go_sem, ↓reduceIte,Int.reduceToNat,Int.reduceLE,Int.reduceLT,Int.reduceSub,Int.reduceAdd,Nat.reduceEqDiff,Nat.reduceAdd,Nat.reduceLeDiff,Nat.reduceLT,Nat.reduceMul,Nat.reduceSub];rfl) 1 rfl,⟨(.nil (.pointer none)),0,(s0.length+1),s0,[],rfl,aw,?_,.inl rfl,by omega,rfl,by simp⟩⟩;all_goals first|exact az trivial|rfl|omega|trivial|skip
 rintro _ s2 h' ⟨a,v,f,s,out,rfl,rfl,e0,ha,hf,hv,hl⟩ K2 hK2;simp only[aj,am,Nat.reduceEqDiff, ↓reduceIte]at e0;have F:=e0;refine af F ?_;refine aH F (jf G hG s [38] (by omega) _) ?_;have hcl:(Lib.cut s [38]).1.length≤s.length:=by
  cases hq:(Lib.cut s [38]).2.2 with
  |true=>have:=c9 s [38] hq;omega
  |false=>rw[l6 s [38] hq];exact N3 _
 refine aH F (bG G a h [] v out (Lib.cut s [38]).1 ha (by omega)) ?_;refine aD F (fun hc=>?_) (fun hc=>?_)<;>(try exact hc.elim)<;>(refine af F ?_)
 ·obtain⟨g,rfl⟩:∃g,f=g+1:=⟨f-1,by omega⟩;rw[readP,M1 (by simp[hc])]at hv;refine(eZ G (.hp h.length 0 0 0) h [] (v+1) (out++(Lib.cut s [38]).1)).mono ?_;rintro r h' ⟨rfl,b2,rfl⟩;try refine ai F ?_
  refine af F ?_;refine au hQ F ?_;exact Y9 (j:=[bldR (.hp h.length 0 0 0) (h.length+1) (v+1) (out++(Lib.cut s [38]).1),b2]) (by simp) (.str _) ⟨O6 AVal.str hv,rfl⟩
 ·have hc':(Lib.cut s [38]).2.2=true:=by simpa using hc
  have hl2:=c9 s [38] hc';have hl4:(Lib.cut (Lib.cut s [38]).2.1 [59]).1.length≤(Lib.cut s [38]).2.1.length:=by
   cases hq:(Lib.cut (Lib.cut s [38]).2.1 [59]).2.2 with
   |true=>have:=c9 _ [59] hq;omega
   |false=>rw[l6 _ [59] hq];exact N3 _
  obtain⟨g,rfl⟩:∃g,f=g+1:=⟨f-1,by omega⟩;rw[readP,M7 hc']at hv;simp only[M6,N4]at hl2;refine aH F (jf G hG (Lib.cut s [38]).2.1 [59] (by omega) _) ?_;refine aH F (xe G (Lib.cut (Lib.cut s [38]).2.1 [59]).1 (by omega) _) ?_;(first|refine aX F (fun g1=>?_) (fun g1=>?_)|refine aY F (fun g1=>?_) (fun g1=>?_))<;>(try exact g1.elim)<;>(try refine ai F ?_)<;>(refine af F ?_)
  ·(first|refine aX F (fun g2=>?_) (fun g2=>?_)|refine aY F (fun g2=>?_) (fun g2=>?_))<;>(try exact g2.elim)<;>(try refine ai F ?_)<;>(refine af F ?_)
   ·refine aD F (fun g3=>?_) (fun g3=>?_)<;>(try exact g3.elim)<;>(refine af F ?_)
    ·rw[M7 (by simp[g1,g3];omega)]at hv;have hl3:=c9 _ [59] g1;simp only[M6,N4]at hl3;have he:=dM (signF (Lib.cut (Lib.cut s [38]).2.1 [59]).1).1;refine aH F (cZ G (.hp h.length 0 0 0) (signF (Lib.cut (Lib.cut s [38]).2.1 [59]).1).1 (uO _ g3) h [] (v+1) (out++(Lib.cut s [38]).1) (.inr rfl) (by simp only[M3];omega)) ?_;refine hK2 _ _ _ (N6 ⟨(.hp h.length 0 0 0),v+1+1,g,(Lib.cut (Lib.cut s [38]).2.1 [59]).2.1,out++(Lib.cut s [38]).1++enc (signF (Lib.cut (Lib.cut s [38]).2.1 [59]).1).1,rfl,aw,?_,.inr rfl,by omega,by rw[← hv];simp,by simp only[M3];omega⟩) (by omega);all_goals first|exact az F|rfl|omega|trivial|skip
    ·rw[M1 (by simp[g3])]at hv;refine aH F (cj G (.hp h.length 0 0 0) h [] (v+1) (out++(Lib.cut s [38]).1) 38 (.inr rfl) (by simp only[M3];omega)) ?_;refine hK2 _ _ _ (N6 ⟨(.hp h.length 0 0 0),v+1+1,g,(Lib.cut s [38]).2.1,out++(Lib.cut s [38]).1++[38],rfl,aw,?_,.inr rfl,by omega,by rw[← hv];simp,by simp only[M3,M6,N4];omega⟩) (by omega);all_goals first|exact az F|rfl|omega|trivial|skip
   ·rw[M1 (by simp[show ¬(Lib.cut (Lib.cut s [38]).2.1 [59]).1.length≤10 by omega])]at hv;refine aH F (cj G (.hp h.length 0 0 0) h [] (v+1) (out++(Lib.cut s [38]).1) 38 (.inr rfl) (by simp only[M3];omega)) ?_;refine hK2 _ _ _ (N6 ⟨(.hp h.length 0 0 0),v+1+1,g,(Lib.cut s [38]).2.1,out++(Lib.cut s [38]).1++[38],rfl,aw,?_,.inr rfl,by omega,by rw[← hv];simp,by simp only[M3,M6,N4];omega⟩) (by omega);all_goals first|exact az F|rfl|omega|trivial|skip
  ·rw[M1 (by simp[g1])]at hv;refine aH F (cj G (.hp h.length 0 0 0) h [] (v+1) (out++(Lib.cut s [38]).1) 38 (.inr rfl) (by simp only[M3];omega)) ?_;refine hK2 _ _ _ (N6 ⟨(.hp h.length 0 0 0),v+1+1,g,(Lib.cut s [38]).2.1,out++(Lib.cut s [38]).1++[38],rfl,aw,?_,.inr rfl,by omega,by rw[← hv];simp,by simp only[M3,M6,N4];omega⟩) (by omega);all_goals first|exact az F|rfl|omega|trivial|skip
end Go.Av
theorem Y5:type_of% @Go.Av.Fin.whole:=@Go.Av.Fin.whole
theorem zb6:type_of% @Go.Av.FrN.refl:=@Go.Av.FrN.refl
theorem zb7:type_of% @Go.Av.FrN.app:=@Go.Av.FrN.app
theorem zb8:type_of% @Go.Av.FrN.set:=@Go.Av.FrN.set
