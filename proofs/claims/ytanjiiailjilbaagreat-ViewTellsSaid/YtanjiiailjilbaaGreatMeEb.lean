/- Events: may one be? (the program's side: event.Check, over what the texts' checks reckon) -/
import Derived.Test.YtanjiiailjilbaaGreatMeBl
import Derived.Lib.TrimUEq
set_option linter.unusedSimpArgs false
set_option linter.unusedVariables false
set_option linter.unusedSectionVars false
set_option linter.unnecessarySimpa false
set_option maxRecDepth 100000
set_option maxHeartbeats 4000000
namespace Go.Av
open Go Go.Proofs Go.RowKit
attribute [local irreducible] WP WPl WPix Sat
variable (G:Nat→Option (List AVal))
def enc(r:Int):Bs:=(Utf8.encode r).data.toList
def Rune(r:Int):Prop:=0≤r∧(r<55296∨57343<r∧r≤1114111)
theorem Rune.valid{r:Int}(h:Rune r):Utf8.valid r=true:=by
 unfold Utf8.valid;obtain⟨h0,h1⟩:=h;simp;omega
theorem bm(n:Nat)(h:n<256):bytA (UInt8.ofNat n)=.int .u8 n:=by
 simp[bytA];omega
theorem x3{r:Int}(h0:0≤r)(h1:r<128):(enc r).map bytA=[.int .u8 r]:=by
 have hv:=Rune.valid (r:=r) ⟨h0,by omega⟩
 unfold enc Utf8.encode
 simp only[hv,if_true]
 rw[if_pos (by omega)]
 simp only[List.map_cons,List.map_nil]
 rw[bm _ (by omega)]
 simp only[List.cons.injEq,AVal.int.injEq,and_true,true_and]
 omega
theorem x4{r:Int}(h0:128≤r)(h1:r<2048):(enc r).map bytA=[.int .u8 (192+r/64),.int .u8 (128+r%64)]:=by
 have hv:=Rune.valid (r:=r) ⟨by omega,by omega⟩
 unfold enc Utf8.encode
 simp only[hv,if_true]
 rw[if_neg (by omega),if_pos (by omega)]
 simp only[List.map_cons,List.map_nil]
 rw[bm _ (by omega),bm _ (by omega)]
 simp only[List.cons.injEq,AVal.int.injEq,and_true,true_and]
 omega
theorem tz{r:Int}(h:Rune r)(h0:2048≤r)(h1:r<65536):(enc r).map bytA=[.int .u8 (224+r/4096),.int .u8 (128+r/64%64),.int .u8 (128+r%64)]:=by
 have hv:=h.valid
 unfold enc Utf8.encode
 simp only[hv,if_true]
 rw[if_neg (by omega),if_neg (by omega),if_pos (by omega)]
 simp only[List.map_cons,List.map_nil]
 rw[bm _ (by omega),bm _ (by omega),bm _ (by omega)]
 simp only[List.cons.injEq,AVal.int.injEq,and_true,true_and]
 omega
theorem x5{r:Int}(h0:65536≤r)(h1:r≤1114111):(enc r).map bytA=[.int .u8 (240+r/262144),.int .u8 (128+r/4096%64),.int .u8 (128+r/64%64),.int .u8 (128+r%64)]:=by
 have hv:=Rune.valid (r:=r) ⟨by omega,by omega⟩
 unfold enc Utf8.encode
 simp only[hv,if_true]
 rw[if_neg (by omega),if_neg (by omega),if_neg (by omega)]
 simp only[List.map_cons,List.map_nil]
 rw[bm _ (by omega),bm _ (by omega),bm _ (by omega),bm _ (by omega)]
 simp only[List.cons.injEq,AVal.int.injEq,and_true,true_and]
 omega
theorem ed(r:Int):1≤(enc r).length∧(enc r).length≤4:=by
 unfold enc Utf8.encode
 simp only[]
 generalize (if Utf8.valid r=true then r.toNat else Utf8.runeError)=c
 by_cases h1:c<128
 ·rw[if_pos h1];exact⟨by simp,by simp⟩
 ·rw[if_neg h1]
  by_cases h2:c<2048
  ·rw[if_pos h2];exact⟨by simp,by simp⟩
  ·rw[if_neg h2]
   by_cases h3:c<65536
   ·rw[if_pos h3];exact⟨by simp,by simp⟩
   ·rw[if_neg h3];exact⟨by simp,by simp⟩
theorem kj(P:Program)(h:Heap)(T:TypeId)(a b:Int)(k:IntKind)(hb:0≤b)(hb2:b<32):abin P h .shr T (.int .i32 a) (.int k b)=some (.int .i32 (a/2^b.toNat)):=by
 simp only[abin]
 rw[if_neg (by omega)]
 have:min b.toNat (IntKind.bits .i32)=b.toNat:=by simp[IntKind.bits];omega
 rw[this,Int.fdiv_eq_ediv_of_nonneg _ (by exact Int.le_of_lt (Int.pow_pos (by omega)))]
theorem wrap_u8(x:Int):IntKind.wrap .u8 x=x%256:=IntKind.wrap_u8 x
theorem wrap_u32(x:Int)(h0:0≤x)(h1:x<4294967296):IntKind.wrap .u32 x=x:=by rw[IntKind.wrap_u32];omega
theorem i5(n m:Nat)(h:n+m<256)(hh:∀x:_root_.Fin 256,x.val≤m→(BitVec.ofInt 8 n|||BitVec.ofInt 8 (x.val:Int)).toNat=n+x.val)(x:Int)(h0:0≤x)(h1:x≤m):aint .or .u8 n x=some (.int .u8 (n+x)):=by
 have e:(BitVec.ofInt 8 n|||BitVec.ofInt 8 ((x.toNat:Nat):Int)).toNat=n+x.toNat:=hh ⟨x.toNat,by omega⟩ (by simp;omega)
 rw[show x=((x.toNat:Nat):Int)from by omega]
 show some (AVal.int .u8 (IntKind.wrap .u8 (BitVec.ofInt 8 n|||BitVec.ofInt 8 ((x.toNat:Nat):Int)).toNat))=_
 rw[e,wrap_u8]
 congr 2;omega
theorem zQ(x:Int)(h0:0≤x)(h1:x≤31):aint .or .u8 192 x=some (.int .u8 (192+x)):=i5 192 31 (by omega) (by decide+kernel) x h0 h1
theorem zR(x:Int)(h0:0≤x)(h1:x≤15):aint .or .u8 224 x=some (.int .u8 (224+x)):=i5 224 15 (by omega) (by decide+kernel) x h0 h1
theorem zS(x:Int)(h0:0≤x)(h1:x≤7):aint .or .u8 240 x=some (.int .u8 (240+x)):=i5 240 7 (by omega) (by decide+kernel) x h0 h1
theorem zT(x:Int)(h0:0≤x)(h1:x≤63):aint .or .u8 128 x=some (.int .u8 (128+x)):=i5 128 63 (by omega) (by decide+kernel) x h0 h1
theorem zU(x:Int)(h0:0≤x)(h1:x<256):aint .and .u8 x 63=some (.int .u8 (x%64)):=by
 have hh:∀x:_root_.Fin 256,(BitVec.ofInt 8 (x.val:Int)&&&BitVec.ofInt 8 63).toNat=x.val%64:=by decide+kernel
 have e:(BitVec.ofInt 8 ((x.toNat:Nat):Int)&&&BitVec.ofInt 8 63).toNat=x.toNat%64:=hh ⟨x.toNat,by omega⟩
 rw[show x=((x.toNat:Nat):Int)from by omega]
 show some (AVal.int .u8 (IntKind.wrap .u8 (BitVec.ofInt 8 ((x.toNat:Nat):Int)&&&BitVec.ofInt 8 63).toNat))=_
 rw[e,wrap_u8]
 congr 2;omega
theorem pB(P:Program)(h:Heap)(T:TypeId)(x:Int)(h0:0≤x)(h1:x≤31):abin P h .or T (.int .u8 192) (.int .u8 x)=some (.int .u8 (192+x)):=by simpa only[abin,if_true]using zQ x h0 h1
theorem pC(P:Program)(h:Heap)(T:TypeId)(x:Int)(h0:0≤x)(h1:x≤15):abin P h .or T (.int .u8 224) (.int .u8 x)=some (.int .u8 (224+x)):=by simpa only[abin,if_true]using zR x h0 h1
theorem pD(P:Program)(h:Heap)(T:TypeId)(x:Int)(h0:0≤x)(h1:x≤7):abin P h .or T (.int .u8 240) (.int .u8 x)=some (.int .u8 (240+x)):=by simpa only[abin,if_true]using zS x h0 h1
theorem pE(P:Program)(h:Heap)(T:TypeId)(x:Int)(h0:0≤x)(h1:x≤63):abin P h .or T (.int .u8 128) (.int .u8 x)=some (.int .u8 (128+x)):=by simpa only[abin,if_true]using zT x h0 h1
theorem pF(P:Program)(h:Heap)(T:TypeId)(x:Int)(h0:0≤x)(h1:x<256):abin P h .and T (.int .u8 x) (.int .u8 63)=some (.int .u8 (x%64)):=by simpa only[abin,if_true]using zU x h0 h1
theorem E6(P:Program)(h:Heap)(T:TypeId)(a:Int):abin P h .shr T (.int .i32 a) (.int .u64 6)=some (.int .i32 (a/64)):=by rw[kj _ _ _ _ _ _ (by omega) (by omega)];rfl
theorem zV(P:Program)(h:Heap)(T:TypeId)(a:Int):abin P h .shr T (.int .i32 a) (.int .u64 12)=some (.int .i32 (a/4096)):=by rw[kj _ _ _ _ _ _ (by omega) (by omega)];rfl
theorem zW(P:Program)(h:Heap)(T:TypeId)(a:Int):abin P h .shr T (.int .i32 a) (.int .u64 18)=some (.int .i32 (a/262144)):=by rw[kj _ _ _ _ _ _ (by omega) (by omega)];rfl
theorem kW(k:IntKind)(n:Int):aconv Tryz.prog 21 5 (.int k n)=some (.int .u8 (n%256)):=by simp only[aconv,go_sem,wrap_u8]
theorem js(k:IntKind)(n:Int)(h0:0≤n)(h1:n<4294967296):aconv Tryz.prog 21 232 (.int k n)=some (.int .u32 n):=by simp only[aconv,go_sem,wrap_u32 n h0 h1]
theorem fg(r:Int)(hr:Rune r)(h1:128≤r)(h j:Heap)(X:Blk)(v:Nat)(s:Bs)(hs:s.length≤1073741824):
  Sat (CT G) 289 [.hs (h.length+1) v 0 s.length true,.int .i32 r] (h++X::bufR v s::j)
   (fun x h'=>x=.hs (h.length+1) (v+1) 0 (s.length+(enc r).length) true∧h'=h++X::bufR (v+1) (s++enc r)::j):=by
 have end_:∀l,l=enc r→Fin (h++X::bufR v s::j) (h++X::bufR (v+1) (s++l)::j) (fun x h'=>x=.hs (h.length+1) (v+1) 0 (s.length+(enc r).length) true∧h'=h++X::bufR (v+1) (s++enc r)::j) (.hs (h.length+1) (v+1) 0 (s.length+l.length) true):=fun l hl=>by
  subst hl
  refine Fin.keep0 (by simp) (fun p k hk=>?_) (.hs _ _ _ _ _ (by simp)) ⟨rfl,rfl⟩
  rcases Nat.lt_or_ge p h.length with h1|h1
  ·rw[List.getElem?_append_left h1]at hk ⊢;exact .inl hk
  ·rw[List.getElem?_append_right h1]at hk ⊢
   match p-h.length,hk with
   |0,hk=>exact .inl hk
   |1,hk=>simp at hk;subst hk;exact .inr (ki _ _ _)
   |i+2,hk=>exact .inl hk
 have F:=F2 (F9 @kW @js @E6 @zV @zW @pB @pC @pD @pE) (F3 @pF @wrap_u8 @wrap_u32)
 obtain⟨hr0,hr1⟩:=hr
 refine sb [.tmp 4] (fn:=Tryz.f289) Tryz.func289 ?_
 intro Q hQ
 refine bN F ?_
 refine o9 F (fun hc=>?_) (fun hc=>?_)<;>(try exact hc.elim)<;>(refine bN F ?_)
 ·refine br (.inl rfl) (by exact fu F) (by exact fu F) d9 fC (by omega) (cI _ _) (by simp(disch:=first|omega| (simp only[go_sem, ↓reduceIte,Nat.reduceEqDiff];done)|fail) only[go_sem, ↓reduceIte,Int.reduceToNat,Int.reduceLE,Int.reduceLT,Int.reduceSub,Int.reduceAdd,Nat.reduceEqDiff,Nat.reduceAdd,Nat.reduceLeDiff,Nat.reduceLT,Nat.reduceMul,Nat.reduceSub,F,bt];rfl) (by simp) ?_ ?_
  ·simp[maxLen];omega
  simp(disch:=first|omega| (simp only[go_sem, ↓reduceIte,Nat.reduceEqDiff];done)|fail) only[go_sem, ↓reduceIte,Int.reduceToNat,Int.reduceLE,Int.reduceLT,Int.reduceSub,Int.reduceAdd,Nat.reduceEqDiff,Nat.reduceAdd,Nat.reduceLeDiff,Nat.reduceLT,Nat.reduceMul,Nat.reduceSub,F]
  refine bN F ?_
  refine iv hQ F ?_
  have e:=x4 h1 (by omega)
  have le:(enc r).length=2:=by simpa using congrArg List.length e
  have:=end_ _ rfl
  simp only[bufR,List.map_append,e,le]at this
  have m0:r/64%256=r/64:=by omega
  have m1:r%256%64=r%64:=by omega
  simp only[bufR,List.map_append,e,le,m0,m1,List.length_cons,List.length_nil,Nat.zero_add,Nat.reduceAdd]
  exact this
 ·refine o9 F (fun hc=>?_) (fun hc=>?_)<;>(try exact hc.elim)<;>(refine bN F ?_)
  ·refine o9 F (fun hc=>?_) (fun hc=>?_)<;>(try exact hc.elim)<;>(refine bN F ?_)
   ·refine br (.inl rfl) (by exact fu F) (by exact fu F) d9 fC (by omega) (cI _ _) (by simp(disch:=first|omega| (simp only[go_sem, ↓reduceIte,Nat.reduceEqDiff];done)|fail) only[go_sem, ↓reduceIte,Int.reduceToNat,Int.reduceLE,Int.reduceLT,Int.reduceSub,Int.reduceAdd,Nat.reduceEqDiff,Nat.reduceAdd,Nat.reduceLeDiff,Nat.reduceLT,Nat.reduceMul,Nat.reduceSub,F,bt];rfl) (by simp) ?_ ?_
    ·simp[maxLen];omega
    simp(disch:=first|omega| (simp only[go_sem, ↓reduceIte,Nat.reduceEqDiff];done)|fail) only[go_sem, ↓reduceIte,Int.reduceToNat,Int.reduceLE,Int.reduceLT,Int.reduceSub,Int.reduceAdd,Nat.reduceEqDiff,Nat.reduceAdd,Nat.reduceLeDiff,Nat.reduceLT,Nat.reduceMul,Nat.reduceSub,F]
    refine bN F ?_
    refine iv hQ F ?_
    have e:=tz ⟨hr0,hr1⟩ (by omega) (by omega)
    have le:(enc r).length=3:=by simpa using congrArg List.length e
    have:=end_ _ rfl
    simp only[bufR,List.map_append,e,le]at this
    have m0:r/4096%256=r/4096:=by omega
    have m1:r/64%256%64=r/64%64:=by omega
    have m2:r%256%64=r%64:=by omega
    simp only[bufR,List.map_append,e,le,m0,m1,m2,List.length_cons,List.length_nil,Nat.zero_add,Nat.reduceAdd]
    exact this
   ·exfalso;omega
  ·(first|refine Bb F (fun hg=>?_) (fun hg=>?_)|refine pqo F (fun hg=>?_) (fun hg=>?_))<;>(try exact hg.elim)<;>(try refine ft F ?_)<;>(refine bN F ?_)
   ·refine o9 F (fun hc=>?_) (fun hc=>?_)<;>(try exact hc.elim)<;>(refine bN F ?_)
    ·refine br (.inl rfl) (by exact fu F) (by exact fu F) d9 fC (by omega) (cI _ _) (by simp(disch:=first|omega| (simp only[go_sem, ↓reduceIte,Nat.reduceEqDiff];done)|fail) only[go_sem, ↓reduceIte,Int.reduceToNat,Int.reduceLE,Int.reduceLT,Int.reduceSub,Int.reduceAdd,Nat.reduceEqDiff,Nat.reduceAdd,Nat.reduceLeDiff,Nat.reduceLT,Nat.reduceMul,Nat.reduceSub,F,bt];rfl) (by simp) ?_ ?_
     ·simp[maxLen];omega
     simp(disch:=first|omega| (simp only[go_sem, ↓reduceIte,Nat.reduceEqDiff];done)|fail) only[go_sem, ↓reduceIte,Int.reduceToNat,Int.reduceLE,Int.reduceLT,Int.reduceSub,Int.reduceAdd,Nat.reduceEqDiff,Nat.reduceAdd,Nat.reduceLeDiff,Nat.reduceLT,Nat.reduceMul,Nat.reduceSub,F]
     refine bN F ?_
     refine iv hQ F ?_
     have e:=tz ⟨hr0,hr1⟩ (by omega) (by omega)
     have le:(enc r).length=3:=by simpa using congrArg List.length e
     have:=end_ _ rfl
     simp only[bufR,List.map_append,e,le]at this
     have m0:r/4096%256=r/4096:=by omega
     have m1:r/64%256%64=r/64%64:=by omega
     have m2:r%256%64=r%64:=by omega
     simp only[bufR,List.map_append,e,le,m0,m1,m2,List.length_cons,List.length_nil,Nat.zero_add,Nat.reduceAdd]
     exact this
    ·(first|refine Bb F (fun hg=>?_) (fun hg=>?_)|refine pqo F (fun hg=>?_) (fun hg=>?_))<;>(try exact hg.elim)<;>(try refine ft F ?_)<;>(refine bN F ?_)
     ·refine o9 F (fun hc=>?_) (fun hc=>?_)<;>(try exact hc.elim)<;>(refine bN F ?_)
      ·refine br (.inl rfl) (by exact fu F) (by exact fu F) d9 fC (by omega) (cI _ _) (by simp(disch:=first|omega| (simp only[go_sem, ↓reduceIte,Nat.reduceEqDiff];done)|fail) only[go_sem, ↓reduceIte,Int.reduceToNat,Int.reduceLE,Int.reduceLT,Int.reduceSub,Int.reduceAdd,Nat.reduceEqDiff,Nat.reduceAdd,Nat.reduceLeDiff,Nat.reduceLT,Nat.reduceMul,Nat.reduceSub,F,bt];rfl) (by simp) ?_ ?_
       ·simp[maxLen];omega
       simp(disch:=first|omega| (simp only[go_sem, ↓reduceIte,Nat.reduceEqDiff];done)|fail) only[go_sem, ↓reduceIte,Int.reduceToNat,Int.reduceLE,Int.reduceLT,Int.reduceSub,Int.reduceAdd,Nat.reduceEqDiff,Nat.reduceAdd,Nat.reduceLeDiff,Nat.reduceLT,Nat.reduceMul,Nat.reduceSub,F]
       refine bN F ?_
       refine iv hQ F ?_
       have e:=x5 (r:=r) (by omega) (by omega)
       have le:(enc r).length=4:=by simpa using congrArg List.length e
       have:=end_ _ rfl
       simp only[bufR,List.map_append,e,le]at this
       have m0:r/262144%256=r/262144:=by omega
       have m1:r/4096%256%64=r/4096%64:=by omega
       have m2:r/64%256%64=r/64%64:=by omega
       have m3:r%256%64=r%64:=by omega
       simp only[bufR,List.map_append,e,le,m0,m1,m2,m3,List.length_cons,List.length_nil,Nat.zero_add,Nat.reduceAdd]
       exact this
      ·exfalso;omega
     ·exfalso;omega
   ·exfalso;omega
theorem kl(r:Int)(hr:Rune r)(h j:Heap)(X:Blk)(v:Nat)(s:Bs)(hs:s.length≤1073741824):
  Sat (CT G) 285 [.hs (h.length+1) v 0 s.length true,.int .i32 r] (h++X::bufR v s::j)
   (fun x h'=>x=.hs (h.length+1) (v+1) 0 (s.length+(enc r).length) true∧h'=h++X::bufR (v+1) (s++enc r)::j):=by
 have end_:∀l,l=enc r→Fin (h++X::bufR v s::j) (h++X::bufR (v+1) (s++l)::j) (fun x h'=>x=.hs (h.length+1) (v+1) 0 (s.length+(enc r).length) true∧h'=h++X::bufR (v+1) (s++enc r)::j) (.hs (h.length+1) (v+1) 0 (s.length+l.length) true):=fun l hl=>by
  subst hl
  refine Fin.keep0 (by simp) (fun p k hk=>?_) (.hs _ _ _ _ _ (by simp)) ⟨rfl,rfl⟩
  rcases Nat.lt_or_ge p h.length with h1|h1
  ·rw[List.getElem?_append_left h1]at hk ⊢;exact .inl hk
  ·rw[List.getElem?_append_right h1]at hk ⊢
   match p-h.length,hk with
   |0,hk=>exact .inl hk
   |1,hk=>simp at hk;subst hk;exact .inr (ki _ _ _)
   |i+2,hk=>exact .inl hk
 have hr':=hr
 obtain⟨hr0,hr1⟩:=hr
 have F:=F2 @kW @js
 refine sb [.tmp 4] (fn:=Tryz.f285) Tryz.func285 ?_
 intro Q hQ
 refine bN F ?_
 refine o9 F (fun hc=>?_) (fun hc=>?_)<;>(try exact hc.elim)<;>(refine bN F ?_)
 ·refine br (.inl rfl) (by exact fu F) (by exact fu F) d9 fC (by omega) (cI _ _) (by simp(disch:=first|omega| (simp only[go_sem, ↓reduceIte,Nat.reduceEqDiff];done)|fail) only[go_sem, ↓reduceIte,Int.reduceToNat,Int.reduceLE,Int.reduceLT,Int.reduceSub,Int.reduceAdd,Nat.reduceEqDiff,Nat.reduceAdd,Nat.reduceLeDiff,Nat.reduceLT,Nat.reduceMul,Nat.reduceSub,F,bt];rfl) (by simp) ?_ ?_
  ·simp[maxLen];omega
  simp(disch:=first|omega| (simp only[go_sem, ↓reduceIte,Nat.reduceEqDiff];done)|fail) only[go_sem, ↓reduceIte,Int.reduceToNat,Int.reduceLE,Int.reduceLT,Int.reduceSub,Int.reduceAdd,Nat.reduceEqDiff,Nat.reduceAdd,Nat.reduceLeDiff,Nat.reduceLT,Nat.reduceMul,Nat.reduceSub,F]
  refine bN F ?_
  refine iv hQ F ?_
  have e:=x3 (r:=r) (by omega) (by omega)
  have le:(enc r).length=1:=by simpa using congrArg List.length e
  have:=end_ _ rfl
  simp only[bufR,List.map_append,e,le]at this
  have m0:r%256=r:=by omega
  simp only[bufR,List.map_append,e,le,m0,List.length_cons,List.length_nil,Nat.zero_add,Nat.reduceAdd]
  exact this
 ·refine Bd F (fg G r hr' (by omega) h j X v s hs) ?_
  refine iv hQ F ?_
  exact end_ _ rfl
theorem dM(a:AVal)(r:Int)(hr:Rune r)(h j:Heap)(v:Nat)(s:Bs)(ha:bldA a h.length)(hs:s.length≤1073741824):
  Sat (CT G) 272 [.hp h.length 0 0 0,.int .i32 r] (bldH h j a v s) (fun x h'=>x=.tup [.int .i64 (enc r).length,.nil .nilIface]∧h'=bldH h j (.hp h.length 0 0 0) (v+1) (s++enc r)):=by
 have end_:Fin (bldH h j a v s) (bldH h j (.hp h.length 0 0 0) (v+1) (s++enc r)) (fun x h'=>x=.tup [.int .i64 (enc r).length,.nil .nilIface]∧h'=bldH h j (.hp h.length 0 0 0) (v+1) (s++enc r)) (.tup [.int .i64 (enc r).length,.nil .nilIface]):=
  Fin.keep0 ((cD ..).trans (cD ..).symm) (gP _ _ _ _ _ _ _) (.tup _ (by intro c hc;simp at hc;rcases hc with rfl|rfl;exact .int _ _;exact .nil _)) ⟨rfl,rfl⟩
 have F:= @bt
 refine sb [.tmp 4,.tmp 5] (fn:=Tryz.f272) Tryz.func272 ?_
 intro Q hQ
 refine bN F ?_
 refine(gx G a h j v s ha).mono ?_
 rintro x h' ⟨rfl,rfl⟩
 unfold bldH at*
 try refine ft F ?_
 refine bN F ?_
 refine Bd F (kl G r hr h j _ v s hs) ?_
 refine(hQ _ _ ?_).1
 simp(disch:=first|omega| (simp only[go_sem, ↓reduceIte,Nat.reduceEqDiff];done)|fail) only[go_sem, ↓reduceIte,Int.reduceToNat,Int.reduceLE,Int.reduceLT,Int.reduceSub,Int.reduceAdd,Nat.reduceEqDiff,Nat.reduceAdd,Nat.reduceLeDiff,Nat.reduceLT,Nat.reduceMul,Nat.reduceSub,F]
 have hl:=ed r
 simp only[bldR,bufR,List.length_append,List.map_append]at end_ ⊢
 rw[show IntKind.wrap .i64 (((s.length+(enc r).length:Nat):Int)-(s.length:Nat))=((enc r).length:Nat)from by rw[kL (by omega) (by omega)];omega]
 exact end_
end Go.Av
namespace Go.Av
open Go Go.Proofs Go.RowKit
def dec(s:Bs)(k:Nat):Nat×Nat:=Utf8.decode ⟨s.toArray⟩ k
theorem eV(s:Bs)(k:Nat):dec s k=Lib.decodeN (s.length-k) (s.getD k 0).toNat (s.getD (k+1) 0).toNat (s.getD (k+2) 0).toNat (s.getD (k+3) 0).toNat:=by
 unfold dec;rw[Lib.decode_N]
theorem aX(n:Nat)(h:n<256):(UInt8.ofNat n).toNat=n:=by simp;omega
def fix(r:Int):Nat:=if Utf8.valid r=true then r.toNat else Utf8.runeError
theorem x6(r:Int):fix r≤1114111:=by
 unfold fix Utf8.valid Utf8.runeError;split
 ·rename_i h;simp at h;omega
 ·omega
theorem vt(r:Int):fix r<55296∨57344≤fix r:=by
 unfold fix Utf8.valid Utf8.runeError;split
 ·rename_i h;simp at h;omega
 ·omega
theorem ot(r:Int):enc r=let c:=fix r
  if c<0x80 then [UInt8.ofNat c]
  else if c<0x800 then [UInt8.ofNat (0xC0+c/64),UInt8.ofNat (0x80+c%64)]
  else if c<0x10000 then [UInt8.ofNat (0xE0+c/4096),UInt8.ofNat (0x80+c/64%64),UInt8.ofNat (0x80+c%64)]
  else [UInt8.ofNat (0xF0+c/262144),UInt8.ofNat (0x80+c/4096%64),UInt8.ofNat (0x80+c/64%64),UInt8.ofNat (0x80+c%64)]:=by
 unfold enc Utf8.encode fix
 simp only[]
 split
 ·split
  ·rfl
  ·split
   ·rfl
   ·split<;>rfl
 ·rfl
theorem bj(s:Bs)(k:Nat)(h:k<s.length):1≤(dec s k).2∧k+(dec s k).2≤s.length:=by
 rw[eV]
 refine⟨Lib.decodeN_ge1 _ _ _ _ _,?_⟩
 unfold Lib.decodeN
 repeat (first|split| (simp only[];omega))
theorem kX(s:Bs)(k:Nat)(b:UInt8)(h:s[k]? =some b)(ha:b.toNat<128):dec s k=(b.toNat,1):=by
 rw[eV,List.getD_eq_getElem?_getD,h]
 exact Lib.decodeN_ascii _ _ _ _ _ ha
theorem tB(s:Bs)(k:Nat)(b:UInt8)(h:s[k]? =some b)(ha:128≤b.toNat):
  128≤(dec s k).1∧((dec s k).1<55296∨57343<(dec s k).1∧(dec s k).1≤1114111)∧∀i,i<(dec s k).2→∀c,s[k+i]? =some c→128≤c.toNat:=by
 have hb:s.getD k 0=b:=by rw[List.getD_eq_getElem?_getD,h];rfl
 have at_:∀i c,s[k+i]? =some c→s.getD (k+i) 0=c:=fun i c hc=>by rw[List.getD_eq_getElem?_getD,hc];rfl
 have l0:∀i,(s.getD i 0).toNat<256:=fun i=>(s.getD i 0).toNat_lt
 have e1:=l0 (k+1);have e2:=l0 (k+2);have e3:=l0 (k+3);have e0:=b.toNat_lt
 rw[eV,hb]
 generalize h1:(s.getD (k+1) 0).toNat=b1 at*
 generalize h2:(s.getD (k+2) 0).toNat=b2 at*
 generalize h3:(s.getD (k+3) 0).toNat=b3 at*
 have key:∀i c,s[k+i]? =some c→(i=0→c.toNat=b.toNat)∧(i=1→c.toNat=b1)∧(i=2→c.toNat=b2)∧(i=3→c.toNat=b3):=fun i c hc=>by
  have:=at_ i c hc
  refine⟨fun e=>?_,fun e=>?_,fun e=>?_,fun e=>?_⟩<;>subst e
  ·rw[← this];simp only[Nat.add_zero];rw[hb]
  ·rw[← h1,this]
  ·rw[← h2,this]
  ·rw[← h3,this]
 generalize s.length-k=n
 have fin:∀x m:Nat,(128≤x∧(x<55296∨57343<x∧x≤1114111))→(∀i,i<m→(i=0∧128≤b.toNat)∨(i=1∧128≤b1)∨(i=2∧128≤b2)∨(i=3∧128≤b3))→
   128≤(x,m).1∧((x,m).1<55296∨57343<(x,m).1∧(x,m).1≤1114111)∧∀i,i<(x,m).2→∀c,s[k+i]? =some c→128≤c.toNat:=fun x m hx hm=>
  ⟨hx.1,hx.2,fun i hi c hc=>by
   obtain⟨k0,k1,k2,k3⟩:=key i c hc
   rcases hm i hi with⟨e,h⟩| ⟨e,h⟩| ⟨e,h⟩| ⟨e,h⟩
   ·rw[k0 e];exact h
   ·rw[k1 e];exact h
   ·rw[k2 e];exact h
   ·rw[k3 e];exact h⟩
 unfold Lib.decodeN
 rw[if_neg (by omega)]
 split
 ·split
  ·exact fin _ _ (by omega) (fun i hi=>by omega)
  ·exact fin _ _ (by omega) (fun i hi=>by omega)
 ·split
  ·split
   ·exact fin _ _ (by omega) (fun i hi=>by omega)
   ·exact fin _ _ (by omega) (fun i hi=>by omega)
  ·split
   ·split
    ·exact fin _ _ (by omega) (fun i hi=>by omega)
    ·exact fin _ _ (by omega) (fun i hi=>by omega)
   ·exact fin _ _ (by omega) (fun i hi=>by omega)
end Go.Av
namespace Go.Av
open Go Go.Proofs Go.RowKit
attribute [local irreducible] WP WPl WPix Sat
variable (G:Nat→Option (List AVal))
theorem bY{x:Int}(h0: -2147483648≤x)(h1:x≤2147483647):IntKind.i32.wrap x=x:=by
 simp only[IntKind.wrap,IntKind.bits,IntKind.signed];simp;omega
theorem ou(h j:Heap)(s:Bs)(q:Nat):(h++Blk.iter s q::j)[h.length]? =some (.iter s q):=by simp
end Go.Av
namespace Go.Av
open Go Go.Proofs Go.RowKit Go.Lib
section
variable {C:Ctx} {B:Nat} {S:Addr→Prop} {μ:Map} {h:Heap} {w w':World}
theorem tC(f:Fits C B S μ h w)(hb:Below w.heap.size w w'){g cap:Nat}{cur:Array Value}{e:TypeId}{ls:List Bs}(hg:w.heap.size≤g)(hheap:w'.heap[g]? =some (.cells cur e (0,0)))
  (hn:ls.length≤cap)(h0:0<cap)(hm:cap≤maxLen)(hsz:cur.size=cap)(hget:∀(i:Nat) (a:Bs),ls[i]? =some a→cur[i]? =some (.string ⟨a.toArray⟩)):
  Fits C B S (μ++[⟨some g,0,1,cap⟩]) (h++[.row e 1 0 (ls.map .str)]) w'∧Step B S μ w S (μ++[⟨some g,0,1,cap⟩]) w':=by
 obtain⟨f',st⟩:=f.grown hb
 have hgl:g<w'.heap.size:=(Array.getElem?_eq_some_iff.1 hheap).1
 have st2:Step B S μ w' S (μ++[⟨some g,0,1,cap⟩]) w':=⟨fun a ha=>ha,fun _ _=>rfl,Below.refl _ _,eA _ _,fun a ha=>.inl ha⟩
 refine⟨⟨fun g' cs hg'=>(f'.glob g' cs hg').mono st2,by simp[f'.len],?_,?_,f'.base,f'.lie,?_⟩,st.trans st2⟩
 ·intro p q m1 m2 b h1 h2 e1 e2
  rcases aH h1 with k1| ⟨k1,rfl⟩<;>rcases aH h2 with k2| ⟨k2,rfl⟩
  ·exact f'.sep p q m1 m2 b k1 k2 e1 e2
  ·have:=(f.own p m1 b k1 e1).2.1;cases e2;omega
  ·have:=(f.own q m2 b k2 e2).2.1;cases e1;omega
  ·rw[k1,k2]
 ·intro p m1 b h1 e1
  rcases aH h1 with k1| ⟨k1,rfl⟩
  ·exact f'.own p m1 b k1 e1
  ·cases e1
   exact⟨Nat.le_trans f.base hg,hgl,fun a ha=>by have:=f.lie a ha;omega⟩
 ·intro p m1 k1 h1 h2
  rcases aH h1 with a1| ⟨a1,rfl⟩
  ·have hp:p<h.length:=by have:=(List.getElem?_eq_some_iff.1 a1).1;rw[f.len]at this;exact this
   rw[List.getElem?_append_left hp]at h2
   exact(f'.blk p m1 k1 a1 h2).mono st2 fun _ _=>rfl
  ·rw[a1,f.len,List.getElem?_append_right (Nat.le_refl _)]at h2
   simp at h2
   subst h2
   refine⟨rfl,rfl,by omega,fun i r hr=>?_,fun i r j c hr hc=>?_,.inr ⟨g,cur,rfl,hheap,by simp[hsz],⟨h0,by simpa using hn⟩,hm,fun i r j c hr hc=>?_⟩⟩
   ·obtain⟨a,_,rfl⟩:=List.mem_map.1 (List.mem_of_getElem? hr);rfl
   ·obtain⟨a,_,rfl⟩:=List.mem_map.1 (List.mem_of_getElem? hr)
    match j with
    |0=>simp[AVal.cells]at hc;subst hc;rfl
    |j+1=>simp[AVal.cells]at hc
   ·rw[List.getElem?_map]at hr
    obtain⟨a,ha,rfl⟩:=Option.map_eq_some_iff.1 hr
    match j with
    |0=>
     simp[AVal.cells]at hc;subst hc
     exact⟨_,by simpa using hget i a ha,.str _⟩
    |j+1=>simp[AVal.cells]at hc
end
variable (G:Nat→Option (List AVal))
def fldsF(s:Bs):List Bs:=(goFieldsP (fun r=> !letF r) ⟨s.toArray⟩).map fun b=>b.data.toList
theorem pG(s:Bs)(hs:s.length≤1000000)(h:Heap):Sat (CT G) 251 [.str s,.fn (.func 253) [] []] h
  (fun r h'=>(fldsF s=[]∧r=.sl 1 []∧h'=h)∨(fldsF s≠ []∧r=.hs h.length 0 0 (fldsF s).length true∧h'=h++[.row 9 1 0 ((fldsF s).map .str)])):=by
 intro B S μ w us fit rl
 obtain⟨hul,hur⟩:=rl
 match us,hul,hur with
 | [v0,v1],_,hur=>
  have r0:Rep w S μ (.str s) v0:=hur 0 _ rfl
  have r1:Rep w S μ (.fn (.func 253) [] []) v1:=hur 1 _ rfl
  obtain rfl:=r0.str_inv
  obtain rfl:v1=.func (.func 253) #[] #[]:=by
   cases r1 with
   |fn _ _ _ xv cv h1 h2 h3 h4=>
    match xv,cv,h1,h2 with
    | [],[],_,_=>rfl
  change OpOk Tryz.prog _ ((callFunc 251 #[Value.string ⟨s.toArray⟩,Value.func (Fn.func 253) #[] #[]]).run Tryz.prog w)
  rw[bX (f:=251) Tryz.func251 rfl rfl]
  refine(Tryz.strings_FieldsFunc 253 #[] (enters_of Tryz.func253 (by kernel_rfl) rfl) _ ⟨s.toArray⟩ w (by simp[ByteArray.size];omega) (r7 w)).mono fun e w' ⟨A,he,hA,hrow,hbel⟩=>?_
  refine⟨_,he,?_⟩
  have hlen:(fldsF s).length=(goFieldsP (fun r=> !letF r) ⟨s.toArray⟩).length:=by unfold fldsF;rw[List.length_map]
  have hmap:(goFieldsP (fun r=> !letF r) ⟨s.toArray⟩).map Value.string=(fldsF s).map fun a=>Value.string ⟨a.toArray⟩:=by
   unfold fldsF
   rw[List.map_map]
   exact List.map_congr_left fun b _=>by simp
  rw[hmap]at hrow
  rw[← hlen]at hrow he ⊢
  obtain⟨_,ho⟩:=hrow
  rcases ho with⟨h1,_⟩| ⟨g,cap,cur,h1,hg,hheap,hn,hm,hsz,htk⟩
  ·cases h1
  ·cases h1
   by_cases hl:fldsF s=[]
   ·obtain⟨f',st⟩:=fit.grown hbel
    rw[hl]
    exact⟨.sl 1 [],h,S,μ,.inl ⟨rfl,rfl,rfl⟩,st,f',.sl0 1 _ _⟩
   ·have hp:=List.length_pos_iff.2 hl
    have hget:∀(i:Nat) (a:Bs),(fldsF s)[i]? =some a→cur[i]? =some (.string ⟨a.toArray⟩):=fun i a ha=>by
     have hi:i<(fldsF s).length:=(List.getElem?_eq_some_iff.1 ha).1
     have h2:(cur.toList.take ((fldsF s).length*1))[i]? =some (.string ⟨a.toArray⟩):=by rw[htk,List.getElem?_map,ha];rfl
     rw[List.getElem?_take_of_lt (by omega)]at h2
     simpa using h2
    obtain⟨f',st⟩:=tC fit hbel hg hheap hn (by omega) hm (by simpa using hsz) hget
    refine⟨.hs h.length 0 0 (fldsF s).length true,_,S,_,.inr ⟨hl,rfl,rfl⟩,st,f',?_⟩
    refine .hs _ _ _ _ _ ⟨some A,0,1,(fldsF s).length⟩ _ (by rw[← fit.len];simp) (Nat.le_refl _) (fun cs h=>by cases h) rfl (fun _=>.inr ⟨A,rfl,by simp,by simp⟩)
end Go.Av
namespace Go.Av
open Go Go.Proofs Go.RowKit
theorem bZ(s:Bs)(k:Nat):dec s k=dec (s.drop k) 0:=by
 rw[eV,eV]
 simp only[List.getD_eq_getElem?_getD,List.getElem?_drop,List.length_drop,Nat.add_zero,Nat.zero_add,Nat.sub_zero,Nat.add_assoc]
theorem iT(s:Bs)(k:Nat)(h:k<s.length):Rune (dec s k).1:=by
 have hb:=List.getElem?_eq_getElem h
 by_cases ha:s[k].toNat<128
 ·rw[kX s k _ hb ha];exact⟨by simp,by simp;omega⟩
 ·obtain⟨h1,h2,_⟩:=tB s k _ hb (by omega)
  exact⟨by omega,by omega⟩
def runesN:Nat→Bs→List Int
 |0,_=>[]
 |f+1,s=>if s=[]then []else((dec s 0).1:Int)::runesN f (s.drop (dec s 0).2)
def runesF(s:Bs):List Int:=runesN s.length s
theorem nC:∀(f:Nat) (s:Bs),s.length≤f→runesN f s=runesN s.length s:=by
 intro f
 induction f using Nat.strongRecOn with
 |ind f ih=>
  intro s hs
  cases s with
  |nil=>cases f<;>rfl
  |cons b t=>
   obtain⟨f,rfl⟩:∃g,f=g+1:=⟨f-1,by simp at hs;omega⟩
   have hd:=bj (b::t) 0 (by simp)
   simp only[List.length_cons]at hs hd ⊢
   rw[runesN,runesN,if_neg (by simp),if_neg (by simp)]
   have hl:((b::t).drop (dec (b::t) 0).2).length≤t.length:=by simp only[List.length_drop,List.length_cons];omega
   rw[ih f (by omega) _ (by omega)]
   by_cases hf:t.length=f
   ·subst hf;rw[ih t.length (by omega) _ hl]
   ·rw[ih t.length (by omega) _ hl]
theorem dU:runesF []=[]:=rfl
theorem du(s:Bs)(h:s≠ []):runesF s=((dec s 0).1:Int)::runesF (s.drop (dec s 0).2):=by
 have hl:0<s.length:=List.length_pos_iff.2 h
 have hd:=bj s 0 hl
 unfold runesF
 obtain⟨n,hn⟩:∃n,s.length=n+1:=⟨s.length-1,by omega⟩
 rw[hn,runesN,if_neg h,nC n _ (by simp only[List.length_drop];omega)]
theorem eW(s:Bs)(k:Nat)(h:k<s.length):runesF (s.drop k)=((dec s k).1:Int)::runesF (s.drop (k+(dec s k).2)):=by
 rw[du _ (by intro e;have:=congrArg List.length e;simp at this;omega), ← bZ,List.drop_drop]
theorem dV(s:Bs)(k:Nat)(h:s.length≤k):runesF (s.drop k)=[]:=by
 rw[List.drop_of_length_le h];rfl
theorem cP:∀(n:Nat) (s:Bs),s.length≤n→(runesF s).length≤s.length:=by
 intro n
 induction n with
 |zero=>intro s h;have:s=[]:=List.length_eq_zero_iff.1 (by omega);subst this;simp[dU]
 |succ n ih=>
  intro s h
  by_cases h0:s=[]
  ·subst h0;simp[dU]
  ·have hd:=bj s 0 (List.length_pos_iff.2 h0)
   rw[du s h0]
   have:=ih (s.drop (dec s 0).2) (by simp only[List.length_drop];omega)
   simp only[List.length_drop]at this
   simp only[List.length_cons];omega
theorem dv:∀(n:Nat) (s:Bs),s.length≤n→∀c∈runesF s,Rune c:=by
 intro n
 induction n with
 |zero=>intro s h c hc;have:s=[]:=List.length_eq_zero_iff.1 (by omega);subst this;simp[dU]at hc
 |succ n ih=>
  intro s h c hc
  by_cases h0:s=[]
  ·subst h0;simp[dU]at hc
  ·have hl:=List.length_pos_iff.2 h0
   have hd:=bj s 0 hl
   rw[du s h0]at hc
   rcases List.mem_cons.1 hc with rfl|hc
   ·exact iT s 0 hl
   ·exact ih _ (by simp only[List.length_drop];omega) c hc
def blankR(c:Int):Bool:=decide (c=9∨c=10∨c=13∨c=32∨c=160∨c=8232∨c=8233∨c=12288)
def ctlR(c:Int):Bool:=decide (c<32∨(127≤c∧c≤159))
def clnR:List Int→List Int→Bool→List Int
 | [],o,_=>o
 |c::t,o,w=>if blankR c then clnR t o (decide (0<o.length))else if ctlR c then clnR t o w else clnR t (o++(if w then [32,c]else [c])) false
def cleanR(s:Bs):List Int:=clnR (runesF s) [] false
def encs(l:List Int):Bs:=l.flatMap enc
def cleanF(s:Bs):Bs:=encs (cleanR s)
theorem i6(r:Int):1≤(enc r).length:=by
 rw[ot];simp only[];repeat (first|split|simp)
theorem iU(l:List Int):(encs l).length≤4*l.length∧l.length≤(encs l).length:=by
 induction l with
 |nil=>simp[encs]
 |cons c t ih=>
  have h1:=ed c
  have h2:=i6 c
  simp only[encs,List.flatMap_cons,List.length_append,List.length_cons]at ih ⊢;omega
theorem eX:∀(l o:List Int) (w:Bool),(∀c∈l,Rune c)→(∀c∈o,Rune c)→∀c∈clnR l o w,Rune c
 | [],o,w,_,h=>by simpa [clnR]using h
 |c::t,o,w,hl,ho=>by
  rw[clnR]
  have ht:∀x∈t,Rune x:=fun x hx=>hl x (by simp[hx])
  split
  ·exact eX t o _ ht ho
  ·split
   ·exact eX t o w ht ho
   ·refine eX t _ false ht ?_
    intro x hx
    rcases List.mem_append.1 hx with hx|hx
    ·exact ho x hx
    ·have h32:Rune 32:=⟨by decide,by decide⟩
     split at hx
     ·simp at hx;rcases hx with rfl|rfl
      ·exact h32
      ·exact hl _ (by simp)
     ·simp at hx;subst hx;exact hl _ (by simp)
def rightN:Nat→Bs→Bool
 |0,_=>true
 |f+1,s=>if s=[]then true else if (dec s 0).1=65533∧(dec s 0).2=1 then false else rightN f (s.drop (dec s 0).2)
def rightS(s:Bs):Bool:=rightN s.length s
theorem nD:∀(f:Nat) (s:Bs),s.length≤f→rightN f s=rightN s.length s:=by
 intro f
 induction f using Nat.strongRecOn with
 |ind f ih=>
  intro s hs
  cases s with
  |nil=>cases f<;>rfl
  |cons b t=>
   obtain⟨f,rfl⟩:∃g,f=g+1:=⟨f-1,by simp at hs;omega⟩
   have hd:=bj (b::t) 0 (by simp)
   simp only[List.length_cons]at hs hd ⊢
   rw[rightN,rightN,if_neg (show ¬(b::t)=[] by simp),if_neg (show ¬(b::t)=[] by simp)]
   have hl:((b::t).drop (dec (b::t) 0).2).length≤t.length:=by simp only[List.length_drop,List.length_cons];omega
   rw[ih f (by omega) _ (by omega),ih t.length (by omega) _ hl]
theorem nE(s:Bs)(h:s≠ []):rightS s=if (dec s 0).1=65533∧(dec s 0).2=1 then false else rightS (s.drop (dec s 0).2):=by
 have hl:0<s.length:=List.length_pos_iff.2 h
 have hd:=bj s 0 hl
 unfold rightS
 obtain⟨n,hn⟩:∃n,s.length=n+1:=⟨s.length-1,by omega⟩
 rw[hn,rightN,if_neg h,nD n _ (by simp only[List.length_drop];omega)]
theorem kY(s:Bs)(k:Nat)(h:k<s.length):rightS (s.drop k)=if (dec s k).1=65533∧(dec s k).2=1 then false else rightS (s.drop (k+(dec s k).2)):=by
 rw[nE _ (by intro e;have:=congrArg List.length e;simp at this;omega), ← bZ,List.drop_drop]
theorem nF(n b0 b1 b2 b3:Nat)(h1:b1<256)(h2:b2<256)(h0:b0<256)(h:(Lib.decodeN n b0 b1 b2 b3).1=65533):(Lib.decodeN n b0 b1 b2 b3).2=1↔¬(3≤n∧b0=239∧b1=191∧b2=189):=by
 unfold Lib.decodeN at*
 by_cases c1:b0<128
 ·rw[if_pos c1]at *;simp only[]at *;omega
 rw[if_neg c1]at*
 by_cases c2:(b0/32=6∧(1<n∧b1/64=2))
 ·rw[if_pos c2]at*
  by_cases c3:b0%32*64+b1%64≥128
  ·rw[if_pos c3]at *;simp only[]at *;omega
  ·rw[if_neg c3]at *;exact⟨fun _ hc=>by omega,fun _=>rfl⟩
 rw[if_neg c2]at*
 by_cases c4:b0/16=14∧(1<n∧b1/64=2)∧(2<n∧b2/64=2)
 ·rw[if_pos c4]at*
  by_cases c5:(b0%16*4096+b1%64*64+b2%64≥2048∧(b0%16*4096+b1%64*64+b2%64<55296∨(57344≤b0%16*4096+b1%64*64+b2%64∧b0%16*4096+b1%64*64+b2%64≤1114111)))
  ·rw[if_pos c5]at *;simp only[]at *;omega
  ·rw[if_neg c5]at *;exact⟨fun _ hc=>by omega,fun _=>rfl⟩
 rw[if_neg c4]at*
 by_cases c6:b0/8=30∧(1<n∧b1/64=2)∧(2<n∧b2/64=2)∧(3<n∧b3/64=2)
 ·rw[if_pos c6]at*
  by_cases c7:(b0%8*262144+b1%64*4096+b2%64*64+b3%64≥65536∧(b0%8*262144+b1%64*4096+b2%64*64+b3%64<55296∨(57344≤b0%8*262144+b1%64*4096+b2%64*64+b3%64∧b0%8*262144+b1%64*4096+b2%64*64+b3%64≤1114111)))
  ·rw[if_pos c7]at *;simp only[]at *;omega
  ·rw[if_neg c7]at *;exact⟨fun _ hc=>by omega,fun _=>rfl⟩
 ·rw[if_neg c6]at *;exact⟨fun _ hc=>by omega,fun _=>rfl⟩
theorem E7(u:Bs):Lib.hasPrefix u [239,191,189]=true↔(3≤u.length∧(u.getD 0 0).toNat=239∧(u.getD 1 0).toNat=191∧(u.getD 2 0).toNat=189):=by
 have key:∀(x:UInt8) (n:Nat),n<256→(x.toNat=n↔x=UInt8.ofNat n):=fun x n h=>by rw[← UInt8.toNat_inj,aX n h]
 match u with
 | []=>simp[Lib.hasPrefix]
 | [a]=>simp[Lib.hasPrefix]
 | [a,b]=>simp[Lib.hasPrefix]
 |a::b::c::t=>
  simp only[List.getD_cons_zero,List.getD_cons_succ,List.length_cons]
  rw[key a 239 (by omega),key b 191 (by omega),key c 189 (by omega)]
  unfold Lib.hasPrefix
  simp only[List.isPrefixOf,Bool.and_eq_true,beq_iff_eq]
  constructor
  ·rintro⟨rfl,rfl,rfl,_⟩;exact⟨by omega,rfl,rfl,rfl⟩
  ·rintro⟨_,rfl,rfl,rfl⟩;exact⟨rfl,rfl,rfl,trivial⟩
theorem tD(s:Bs)(k:Nat)(hd:(dec s k).1=65533):(dec s k).2=1↔Lib.hasPrefix (s.drop k) [239,191,189]=false:=by
 rw[bZ]at*
 generalize s.drop k=u at*
 rw[← Bool.not_eq_true,E7]
 rw[eV]at*
 exact nF _ _ _ _ _ (UInt8.toNat_lt _) (UInt8.toNat_lt _) (UInt8.toNat_lt _) hd
end Go.Av
namespace Go.Av
open Go Go.Proofs Go.RowKit
attribute [local irreducible] WP WPl WPix Sat
variable (G:Nat→Option (List AVal))
theorem pH(c:Int)(h:Heap):Sat (CT G) 277 [.int .i32 c] h (fun r h'=>r=.bool (blankR c)∧h'=h):=by
 have yes:(c=9∨c=10∨c=13∨c=32∨c=160∨c=8232∨c=8233∨c=12288)→blankR c=true:=fun h=>decide_eq_true h
 have no:¬(c=9∨c=10∨c=13∨c=32∨c=160∨c=8232∨c=8233∨c=12288)→blankR c=false:=fun h=>decide_eq_false h
 refine sb [.tmp 2] (fn:=Tryz.f277) Tryz.func277 ?_
 intro Q hQ
 refine wk trivial ?_
 refine cq trivial (fun c0=>?_) (fun c0=>?_)<;>(try exact c0.elim)<;>(refine wk trivial ?_)
 ·refine cq trivial (fun d=>?_) (fun d=>?_)<;>(try exact d.elim)<;>(refine wk trivial ?_)
  ·refine ee hQ trivial ?_
   refine fR (.bool _) ?_
   rw[yes (by omega)]
  ·exfalso;omega
 refine cq trivial (fun c1=>?_) (fun c1=>?_)<;>(try exact c1.elim)<;>(refine wk trivial ?_)
 ·refine cq trivial (fun d=>?_) (fun d=>?_)<;>(try exact d.elim)<;>(refine wk trivial ?_)
  ·refine ee hQ trivial ?_
   refine fR (.bool _) ?_
   rw[yes (by omega)]
  ·exfalso;omega
 refine cq trivial (fun c2=>?_) (fun c2=>?_)<;>(try exact c2.elim)<;>(refine wk trivial ?_)
 ·refine cq trivial (fun d=>?_) (fun d=>?_)<;>(try exact d.elim)<;>(refine wk trivial ?_)
  ·refine ee hQ trivial ?_
   refine fR (.bool _) ?_
   rw[yes (by omega)]
  ·exfalso;omega
 refine cq trivial (fun c3=>?_) (fun c3=>?_)<;>(try exact c3.elim)<;>(refine wk trivial ?_)
 ·refine cq trivial (fun d=>?_) (fun d=>?_)<;>(try exact d.elim)<;>(refine wk trivial ?_)
  ·refine ee hQ trivial ?_
   refine fR (.bool _) ?_
   rw[yes (by omega)]
  ·exfalso;omega
 refine cq trivial (fun c4=>?_) (fun c4=>?_)<;>(try exact c4.elim)<;>(refine wk trivial ?_)
 ·refine cq trivial (fun d=>?_) (fun d=>?_)<;>(try exact d.elim)<;>(refine wk trivial ?_)
  ·refine ee hQ trivial ?_
   refine fR (.bool _) ?_
   rw[yes (by omega)]
  ·exfalso;omega
 refine cq trivial (fun c5=>?_) (fun c5=>?_)<;>(try exact c5.elim)<;>(refine wk trivial ?_)
 ·refine cq trivial (fun d=>?_) (fun d=>?_)<;>(try exact d.elim)<;>(refine wk trivial ?_)
  ·refine ee hQ trivial ?_
   refine fR (.bool _) ?_
   rw[yes (by omega)]
  ·exfalso;omega
 refine cq trivial (fun c6=>?_) (fun c6=>?_)<;>(try exact c6.elim)<;>(refine wk trivial ?_)
 ·refine cq trivial (fun d=>?_) (fun d=>?_)<;>(try exact d.elim)<;>(refine wk trivial ?_)
  ·refine ee hQ trivial ?_
   refine fR (.bool _) ?_
   rw[yes (by omega)]
  ·exfalso;omega
 refine cq trivial (fun d=>?_) (fun d=>?_)<;>(try exact d.elim)<;>(refine wk trivial ?_)
 ·refine ee hQ trivial ?_
  refine fR (.bool _) ?_
  rw[yes (by omega)]
 ·refine ee hQ trivial ?_
  refine fR (.bool _) ?_
  rw[no (by omega)]
theorem my(c:Int)(h:Heap):Sat (CT G) 279 [.int .i32 c] h (fun r h'=>r=.bool (ctlR c)∧h'=h):=by
 refine sb [.tmp 2] (fn:=Tryz.f279) Tryz.func279 ?_
 intro Q hQ
 refine wk trivial ?_
 (first|refine gq trivial (fun g1=>?_) (fun g1=>?_)|refine pq trivial (fun g1=>?_) (fun g1=>?_))<;>(try exact g1.elim)<;>(try refine sq trivial ?_)<;>(refine wk trivial ?_)
 ·refine ee hQ trivial ?_
  refine fR (.bool _) ?_
  rw[show ctlR c=true from decide_eq_true (.inl g1)]
 ·(first|refine gq trivial (fun g2=>?_) (fun g2=>?_)|refine pq trivial (fun g2=>?_) (fun g2=>?_))<;>(try exact g2.elim)<;>(try refine sq trivial ?_)<;>(refine wk trivial ?_)
  ·refine ee hQ trivial ?_
   refine fR (.bool _) ?_
   unfold ctlR
   congr 1
   rw[Bool.eq_iff_iff];simp;omega
  ·refine ee hQ trivial ?_
   refine fR (.bool _) ?_
   rw[show ctlR c=false from decide_eq_false (by omega)]
theorem mz(h j:Heap)(a:AVal)(v:Nat)(o s:Bs)(q:Nat):(bldH h (Blk.iter s q::j) a v o)[h.length+2]? =some (.iter s q):=by
 unfold bldH;rw[List.getElem?_append_right (by omega),show h.length+2-h.length=2 by omega];rfl
theorem mA(h j:Heap)(a:AVal)(v:Nat)(o:Bs)(x y:Blk):(bldH h (x::j) a v o).set (h.length+2) y=bldH h (y::j) a v o:=by
 unfold bldH;rw[List.set_append_right _ _ (by omega),show h.length+2-h.length=2 by omega];rfl
theorem pI(s:Bs)(hs:s.length≤100000000)(h:Heap):Sat (CT G) 264 [.str s] h (fun r h'=>r=.str (cleanF s)∧h'=h):=by
 have F:= @mA
 refine sb [.tmp 2] (fn:=Tryz.f264) Tryz.func264 ?_
 intro Q hQ
 (repeat (first|refine w1 (fun K hK=>?_)|refine w2 ?_|refine w3 ?_| ((first|refine w4 ?_|refine wD ?_|refine w5 ?_|refine w6 ?_|refine w7 ?_);try refine sq F ?_)| (refine w8 ?_;refine sq F ?_;refine w9 ?_)))
 refine hK _ _ (Wkn.refl ?_)
 clear hK K
 (repeat (first|refine w1 (fun K hK=>?_)|refine w2 ?_|refine w3 ?_| ((first|refine w4 ?_|refine wD ?_|refine w5 ?_|refine w6 ?_|refine w7 ?_);try refine sq F ?_)| (refine w8 ?_;refine sq F ?_;refine w9 ?_)))
 refine hK _ _ ⟨_,_,Weak.virtCell (p:=h.length) (v:=0) 5 1 (by omega) (by simp(disch:=first|omega| (simp only[go_sem, ↓reduceIte,seval];first|done|omega)|fail) only[go_sem, ↓reduceIte,seval,F];rfl) 1 rfl,?_⟩
 clear hK K
 (repeat (first|refine w1 (fun K hK=>?_)|refine w2 ?_|refine w3 ?_| ((first|refine w4 ?_|refine wD ?_|refine w5 ?_|refine w6 ?_|refine w7 ?_);try refine sq F ?_)| (refine w8 ?_;refine sq F ?_;refine w9 ?_)| ((first|refine hK _ _ (w0 ?_)| (clear hK K;refine hK _ _ (w0 ?_))| (clear hK K;clear hK K;refine hK _ _ (w0 ?_)));clear hK K)))
 refine lm (fun nL tL hL=>∃(a:AVal) (v k:Nat) (out:List Int) (w:Bool),s.length-k=nL∧bldH h [.iter s k] a v (encs out)=hL∧tL 4=.bool w∧bldA a h.length∧k≤s.length∧clnR (runesF (s.drop k)) out w=cleanR s∧(encs out).length+8*(s.length-k)≤8*s.length) ((fun(a:AVal) (v k:Nat) (out:List Int) (w:Bool)=>(s.length-k:Nat)) ((.nil (.pointer none))) (0) (0) ([]) (false)) ?_ ?_
 ·refine Wkn.refl ⟨(.nil (.pointer none)),0,0,[],false,rfl,by simp[bldH,bldR,bufR,encs],?_,.inl rfl,by omega,rfl,by simp[encs]⟩
  all_goals first|exact zq F|rfl|omega|trivial|skip
 rintro _ s2 h' ⟨a,v,k,out,w,rfl,rfl,e4,ha,hk,hv,hl⟩ K2 hK2
 simp only[ak,ao,Nat.reduceEqDiff, ↓reduceIte]at e4
 have F:=F2 F e4
 (repeat (first|refine w1 (fun K hK=>?_)|refine w2 ?_|refine w3 ?_| ((first|refine w4 ?_|refine wD ?_|refine w5 ?_|refine w6 ?_|refine w7 ?_);try refine sq F ?_)| (refine w8 ?_;refine sq F ?_;refine w9 ?_)| ((first|refine hK _ _ (w0 ?_)| (clear hK K;refine hK _ _ (w0 ?_))| (clear hK K;clear hK K;refine hK _ _ (w0 ?_)));clear hK K)))
 refine fU (mz _ _ _ _ _ _ _) (fun hlt=>?_) (fun hge=>?_)
 ·have hR:=iT s k hlt
  have hp:=bj s k hlt
  rw[eW s k hlt,clnR]at hv
  rw[show Utf8.decode ⟨s.toArray⟩ k=dec s k from rfl]
  generalize dec s k=d at*
  obtain⟨c,m⟩:=d
  simp only[]at hR hp hv ⊢
  try refine sq F ?_
  (repeat (first|refine w1 (fun K hK=>?_)|refine w2 ?_|refine w3 ?_| ((first|refine w4 ?_|refine wD ?_|refine w5 ?_|refine w6 ?_|refine w7 ?_);try refine sq F ?_)| (refine w8 ?_;refine sq F ?_;refine w9 ?_)| ((first|refine hK _ _ (w0 ?_)| (clear hK K;refine hK _ _ (w0 ?_))| (clear hK K;clear hK K;refine hK _ _ (w0 ?_)));clear hK K)))
  refine(pH G c _).mono ?_
  rintro r h' ⟨rfl,rfl⟩
  try refine sq F ?_
  (repeat (first|refine w1 (fun K hK=>?_)|refine w2 ?_|refine w3 ?_| ((first|refine w4 ?_|refine wD ?_|refine w5 ?_|refine w6 ?_|refine w7 ?_);try refine sq F ?_)| (refine w8 ?_;refine sq F ?_;refine w9 ?_)| ((first|refine hK _ _ (w0 ?_)| (clear hK K;refine hK _ _ (w0 ?_))| (clear hK K;clear hK K;refine hK _ _ (w0 ?_)));clear hK K)))
  refine cq F (fun c1=>?_) (fun c1=>?_)<;>(try exact c1.elim)<;>((repeat (first|refine w1 (fun K hK=>?_)|refine w2 ?_|refine w3 ?_| ((first|refine w4 ?_|refine wD ?_|refine w5 ?_|refine w6 ?_|refine w7 ?_);try refine sq F ?_)| (refine w8 ?_;refine sq F ?_;refine w9 ?_)| ((first|refine hK _ _ (w0 ?_)| (clear hK K;refine hK _ _ (w0 ?_))| (clear hK K;clear hK K;refine hK _ _ (w0 ?_)));clear hK K))))
  ·rw[if_pos c1]at hv
   refine(vr G a h [.iter s (k+m)] v (encs out)).mono ?_
   rintro r h' ⟨rfl,rfl⟩
   try refine sq F ?_
   (repeat (first|refine w1 (fun K hK=>?_)|refine w2 ?_|refine w3 ?_| ((first|refine w4 ?_|refine wD ?_|refine w5 ?_|refine w6 ?_|refine w7 ?_);try refine sq F ?_)| (refine w8 ?_;refine sq F ?_;refine w9 ?_)| ((first|refine hK _ _ (w0 ?_)| (clear hK K;refine hK _ _ (w0 ?_))| (clear hK K;clear hK K;refine hK _ _ (w0 ?_)));clear hK K)))
   have ho:decide (((encs out).length:Int)>0)=decide (0<out.length):=by
    have:=iU out
    rw[Bool.eq_iff_iff];simp only[decide_eq_true_eq];omega
   have F:=F2 F ho
   try refine sq F ?_
   refine hK2 _ _ _ (Wkn.refl ⟨a,v,k+m,out,decide (0<out.length),rfl,ay,?_,ha,by omega,hv,by omega⟩) (by omega)
   all_goals first|exact zq F|rfl|omega|trivial|skip
  ·rw[if_neg (by simp[c1])]at hv
   refine(my G c _).mono ?_
   rintro r h' ⟨rfl,rfl⟩
   try refine sq F ?_
   (repeat (first|refine w1 (fun K hK=>?_)|refine w2 ?_|refine w3 ?_| ((first|refine w4 ?_|refine wD ?_|refine w5 ?_|refine w6 ?_|refine w7 ?_);try refine sq F ?_)| (refine w8 ?_;refine sq F ?_;refine w9 ?_)| ((first|refine hK _ _ (w0 ?_)| (clear hK K;refine hK _ _ (w0 ?_))| (clear hK K;clear hK K;refine hK _ _ (w0 ?_)));clear hK K)))
   refine cq F (fun c2=>?_) (fun c2=>?_)<;>(try exact c2.elim)<;>((repeat (first|refine w1 (fun K hK=>?_)|refine w2 ?_|refine w3 ?_| ((first|refine w4 ?_|refine wD ?_|refine w5 ?_|refine w6 ?_|refine w7 ?_);try refine sq F ?_)| (refine w8 ?_;refine sq F ?_;refine w9 ?_)| ((first|refine hK _ _ (w0 ?_)| (clear hK K;refine hK _ _ (w0 ?_))| (clear hK K;clear hK K;refine hK _ _ (w0 ?_)));clear hK K))))
   ·rw[if_pos c2]at hv
    refine hK2 _ _ _ (Wkn.refl ⟨a,v,k+m,out,w,rfl,ay,?_,ha,by omega,hv,by omega⟩) (by omega)
    all_goals first|exact zq F|rfl|omega|trivial|skip
   ·rw[if_neg (by simp[c2])]at hv
    have he:=ed c
    have e1:encs (out++[32,(c:Int)])=encs out++[32]++enc c:=by
     simp only[encs,List.flatMap_append,List.flatMap_cons,List.flatMap_nil,List.append_nil,List.append_assoc];rfl
    have e2:encs (out++[(c:Int)])=encs out++enc c:=by
     simp only[encs,List.flatMap_append,List.flatMap_cons,List.flatMap_nil,List.append_nil]
    refine cq F (fun c3=>?_) (fun c3=>?_)<;>(try exact c3.elim)<;>((repeat (first|refine w1 (fun K hK=>?_)|refine w2 ?_|refine w3 ?_| ((first|refine w4 ?_|refine wD ?_|refine w5 ?_|refine w6 ?_|refine w7 ?_);try refine sq F ?_)| (refine w8 ?_;refine sq F ?_;refine w9 ?_)| ((first|refine hK _ _ (w0 ?_)| (clear hK K;refine hK _ _ (w0 ?_))| (clear hK K;clear hK K;refine hK _ _ (w0 ?_)));clear hK K))))
    ·rw[if_pos c3]at hv
     refine(lu G a h [.iter s (k+m)] v (encs out) 32 ha (by omega)).mono ?_
     rintro r h' ⟨rfl,rfl⟩
     try refine sq F ?_
     (repeat (first|refine w1 (fun K hK=>?_)|refine w2 ?_|refine w3 ?_| ((first|refine w4 ?_|refine wD ?_|refine w5 ?_|refine w6 ?_|refine w7 ?_);try refine sq F ?_)| (refine w8 ?_;refine sq F ?_;refine w9 ?_)| ((first|refine hK _ _ (w0 ?_)| (clear hK K;refine hK _ _ (w0 ?_))| (clear hK K;clear hK K;refine hK _ _ (w0 ?_)));clear hK K)))
     refine(dM G (.hp h.length 0 0 0) c hR h [.iter s (k+m)] (v+1) (encs out++[32]) (.inr rfl) (by simp only[List.length_append,List.length_cons,List.length_nil];omega)).mono ?_
     rintro r h' ⟨rfl,rfl⟩
     try refine sq F ?_
     (repeat (first|refine w1 (fun K hK=>?_)|refine w2 ?_|refine w3 ?_| ((first|refine w4 ?_|refine wD ?_|refine w5 ?_|refine w6 ?_|refine w7 ?_);try refine sq F ?_)| (refine w8 ?_;refine sq F ?_;refine w9 ?_)| ((first|refine hK _ _ (w0 ?_)| (clear hK K;refine hK _ _ (w0 ?_))| (clear hK K;clear hK K;refine hK _ _ (w0 ?_)));clear hK K)))
     refine hK2 _ _ _ (Wkn.refl ⟨(.hp h.length 0 0 0),v+1+1,k+m,out++[32,(c:Int)],false,rfl,by rw[e1];simp,?_,.inr rfl,by omega,hv,by rw[e1];simp only[List.length_append,List.length_cons,List.length_nil];omega⟩) (by omega)
     all_goals first|exact zq F|rfl|omega|trivial|skip
    ·rw[if_neg (by simp[c3])]at hv
     refine(dM G a c hR h [.iter s (k+m)] v (encs out) ha (by omega)).mono ?_
     rintro r h' ⟨rfl,rfl⟩
     try refine sq F ?_
     (repeat (first|refine w1 (fun K hK=>?_)|refine w2 ?_|refine w3 ?_| ((first|refine w4 ?_|refine wD ?_|refine w5 ?_|refine w6 ?_|refine w7 ?_);try refine sq F ?_)| (refine w8 ?_;refine sq F ?_;refine w9 ?_)| ((first|refine hK _ _ (w0 ?_)| (clear hK K;refine hK _ _ (w0 ?_))| (clear hK K;clear hK K;refine hK _ _ (w0 ?_)));clear hK K)))
     refine hK2 _ _ _ (Wkn.refl ⟨(.hp h.length 0 0 0),v+1,k+m,out++[(c:Int)],false,rfl,by rw[e2],?_,.inr rfl,by omega,hv,by rw[e2];simp only[List.length_append];omega⟩) (by omega)
     all_goals first|exact zq F|rfl|omega|trivial|skip
 ·rw[dV s k (by omega)]at hv
  try refine sq F ?_
  (repeat (first|refine w1 (fun K hK=>?_)|refine w2 ?_|refine w3 ?_| ((first|refine w4 ?_|refine wD ?_|refine w5 ?_|refine w6 ?_|refine w7 ?_);try refine sq F ?_)| (refine w8 ?_;refine sq F ?_;refine w9 ?_)| ((first|refine hK _ _ (w0 ?_)| (clear hK K;refine hK _ _ (w0 ?_))| (clear hK K;clear hK K;refine hK _ _ (w0 ?_)));clear hK K)))
  refine(jr G a h [.iter s k] v (encs out)).mono ?_
  rintro r h' ⟨rfl,b2,rfl⟩
  try refine sq F ?_
  (repeat (first|refine w1 (fun K hK=>?_)|refine w2 ?_|refine w3 ?_| ((first|refine w4 ?_|refine wD ?_|refine w5 ?_|refine w6 ?_|refine w7 ?_);try refine sq F ?_)| (refine w8 ?_;refine sq F ?_;refine w9 ?_)| ((first|refine hK _ _ (w0 ?_)| (clear hK K;refine hK _ _ (w0 ?_))| (clear hK K;clear hK K;refine hK _ _ (w0 ?_)));clear hK K)))
  refine ee hQ F ?_
  exact Fin.plainE (j:=[bldR a (h.length+1) v (encs out),b2,.iter s k]) (by simp) (.str _) ⟨congrArg AVal.str (by unfold cleanF;rw[← hv];rfl),rfl⟩
theorem pJ(s:Bs)(hs:s.length≤1073741824)(h:Heap):Sat (CT G) 263 [.str s] h (fun r h'=>r=.bool (rightS s)∧h'=h):=by
 refine sb [.tmp 2] (fn:=Tryz.f263) Tryz.func263 ?_
 intro Q hQ
 refine wk trivial ?_
 refine lm (fun nL tL hL=>∃(k:Nat),s.length-k=nL∧h++[.iter s k]=hL∧k≤s.length∧rightS (s.drop k)=rightS s) ((fun(k:Nat)=>(s.length-k:Nat)) (0)) ?_ ?_
 ·refine Wkn.refl ⟨0,rfl,ay,by omega,rfl⟩
  all_goals first|exact zq trivial|rfl|omega|trivial|skip
 rintro _ s2 h' ⟨k,rfl,rfl,hk,hc⟩ K2 hK2
 refine wk trivial ?_
 refine fU (ou _ _ _ _) (fun hlt=>?_) (fun hge=>?_)
 ·have hp:=bj s k hlt
  have hca:=kY s k hlt
  have h3:=tD s k
  rw[hc]at hca
  rw[show Utf8.decode ⟨s.toArray⟩ k=dec s k from rfl]
  generalize dec s k=d at*
  obtain⟨c,m⟩:=d
  simp only[]at hp hca h3 ⊢
  try refine sq trivial ?_
  refine wk trivial ?_
  (first|refine gq trivial (fun g1=>?_) (fun g1=>?_)|refine pq trivial (fun g1=>?_) (fun g1=>?_))<;>(try exact g1.elim)<;>(try refine sq trivial ?_)<;>(refine wk trivial ?_)
  ·have g0:c=65533:=by omega
   have h4:=h3 g0
   refine kq trivial (lr G (s.drop k) [239,191,189] _) ?_
   refine cq trivial (fun g2=>?_) (fun g2=>?_)<;>(try exact g2.elim)<;>(refine wk trivial ?_)
   ·refine ee hQ trivial ?_
    refine fR (.bool _) ?_
    rw[hca,if_pos ⟨g0,h4.2 (by simpa using g2)⟩]
   ·refine hK2 _ _ _ (Wkn.refl ⟨k+m,rfl,ay,by omega,by rw[hca,if_neg];rintro⟨_,h5⟩;have:=h4.1 h5;rw[this]at g2;cases g2⟩) (by omega)
    all_goals first|exact zq trivial|rfl|omega|trivial|skip
  ·refine hK2 _ _ _ (Wkn.refl ⟨k+m,rfl,ay,by omega,by rw[hca,if_neg];rintro⟨h5,_⟩;exact g1 (by omega)⟩) (by omega)
   all_goals first|exact zq trivial|rfl|omega|trivial|skip
 ·rw[List.drop_of_length_le (by omega)]at hc
  try refine sq trivial ?_
  refine wk trivial ?_
  refine ee hQ trivial ?_
  refine fR (.bool _) ?_
  rw[← hc];rfl
end Go.Av
namespace Go.Av
open Go Go.Proofs Go.RowKit
attribute [local irreducible] WP WPl WPix Sat
variable (G:Nat→Option (List AVal))
def PS.upFo(s:PS)(k:Int)(f:Fo):PS:= {s with fo:=upM s.fo s.c1 k f,c1:=ckM s.fo s.c1 k}
def PS.upFe(s:PS)(k:Int)(f:Fe):PS:= {s with fe:=upM s.fe s.c2 k f,c2:=ckM s.fe s.c2 k}
def PS.upIt(s:PS)(k:Int)(f:It):PS:= {s with it:=upM s.it s.c3 k f,c3:=ckM s.it s.c3 k}
def PS.upSe(s:PS)(k:Int)(f:Se):PS:= {s with se:=upM s.se s.c4 k f,c4:=ckM s.se s.c4 k}
def PS.upNm(s:PS)(k:Int×Bs)(f:Int):PS:= {s with nm:=upM s.nm s.c5 k f,c5:=ckM s.nm s.c5 k}
def PS.upPl(s:PS)(k:Bs)(f:Int):PS:= {s with pl:=upM s.pl s.c6 k f,c6:=ckM s.pl s.c6 k}
def PS.upGu(s:PS)(k:Int×Bs)(f:Int):PS:= {s with gu:=upM s.gu s.c7 k f,c7:=ckM s.gu s.c7 k}
def PS.few(s:PS):Prop:=∀id, -100000≤(lkM s.he id).getD 0∧(lkM s.he id).getD 0≤100000
theorem PS.few1{s:PS}(h:s.few)(id:Int): -1000000≤(lkM s.he id).getD 0∧(lkM s.he id).getD 0≤1000000:=by have:=h id;omega
def PS.make(s:PS)(e:Ev):PS:=
 if e.kind=1 then(((s.upFo e.a ⟨e.a,e.b,e.s⟩).upNm (e.b,e.s) e.a).hold e.b 1).raise 0 e.a
 else if e.kind=3 then(((s.upFe e.a ⟨e.a,e.b,e.s,e.t⟩).upPl e.s e.a).hold e.b 1).raise 1 e.a
 else if e.kind=7 then((s.upIt e.a ⟨e.a,e.b,e.n,e.s,e.t,e.u,false,false,[]⟩).upGu (e.b,e.s) e.a).raise 2 e.a
 else if e.kind=11 then(s.upSe e.a ⟨e.a,e.s,e.t⟩).raise 3 e.a
 else s
theorem pM(s:PS)(e:Ev)(hf:s.few){H:Heap}{n:Nat}(hn:n+9≤H.length):Sat (CT G) 55 [.hp (n+8) 0 0 0,e.av] (so H n s) (fun r h'=>r=.tup []∧h'=so H n (s.make e)):=by
 refine sb [] (fn:=Tryz.f55) Tryz.func55 ?_
 intro Q hQ
 refine wk trivial ?_
 by_cases k1:e.kind=1
 ·have F:=k1
  try refine sq F ?_
  refine wk F ?_
  refine kq F (cr G _ e.b 1 (PS.few1 (s:=((s.upFo e.a ⟨e.a,e.b,e.s⟩).upNm (e.b,e.s) e.a)) hf e.b) (by omega) (by first|omega| (simp;omega))) ?_
  refine kq F (dr G _ 0 e.a (by omega) (by first|omega| (simp;omega))) ?_
  refine ee hQ F ?_
  exact au hn (.tup _ (by simp)) ⟨rfl,by rw[PS.make,if_pos k1]⟩
 by_cases k3:e.kind=3
 ·have F:=k3
  try refine sq F ?_
  refine wk F ?_
  refine kq F (cr G _ e.b 1 (PS.few1 (s:=((s.upFe e.a ⟨e.a,e.b,e.s,e.t⟩).upPl e.s e.a)) hf e.b) (by omega) (by first|omega| (simp;omega))) ?_
  refine kq F (dr G _ 1 e.a (by omega) (by first|omega| (simp;omega))) ?_
  refine ee hQ F ?_
  exact au hn (.tup _ (by simp)) ⟨rfl,by rw[PS.make,if_neg k1,if_pos k3]⟩
 by_cases k7:e.kind=7
 ·have F:=k7
  try refine sq F ?_
  refine wk F ?_
  refine kq F (dr G _ 2 e.a (by omega) (by first|omega| (simp;omega))) ?_
  refine ee hQ F ?_
  exact au hn (.tup _ (by simp)) ⟨rfl,by rw[PS.make,if_neg k1,if_neg k3,if_pos k7];rfl⟩
 by_cases k11:e.kind=11
 ·have F:=k11
  try refine sq F ?_
  refine wk F ?_
  refine kq F (dr G _ 3 e.a (by omega) (by first|omega| (simp;omega))) ?_
  refine ee hQ F ?_
  exact au hn (.tup _ (by simp)) ⟨rfl,by rw[PS.make,if_neg k1,if_neg k3,if_neg k7,if_pos k11];rfl⟩
 have n1:(e.kind==1)=false:=by simp[k1]
 have n3:(e.kind==3)=false:=by simp[k3]
 have n7:(e.kind==7)=false:=by simp[k7]
 have n11:(e.kind==11)=false:=by simp[k11]
 have F:=F4 n1 n3 n7 n11
 try refine sq F ?_
 refine wk F ?_
 refine ee hQ F ?_
 exact au hn (.tup _ (by simp)) ⟨rfl,by rw[PS.make,if_neg k1,if_neg k3,if_neg k7,if_neg k11]⟩
end Go.Av
namespace Go.Av
open Go Go.Proofs Go.RowKit
attribute [local irreducible] WP WPl WPix Sat
section
variable {κ α:Type} [DecidableEq κ]
theorem jt{l:ML κ α}(hn:(l.map (·.1)).Nodup)(x:κ):dlM l x=l.filter fun e=> !decide (e.1=x):=by
 induction l with
 |nil=>rfl
 |cons e l ih=>
  rw[List.map_cons,List.nodup_cons]at hn
  rw[dlM]
  by_cases h:x=e.1
  ·subst h
   rw[if_pos rfl,List.filter_cons_of_neg (by simp),List.filter_eq_self.2]
   intro d hd
   have:d.1≠e.1:=fun q=>hn.1 (List.mem_map.2 ⟨d,hd,q⟩)
   simp[this]
  ·rw[if_neg h,List.filter_cons_of_pos (by simp;exact fun q=>h q.symm),ih hn.2]
omit [DecidableEq κ] in
theorem WFM.filter{l:ML κ α}{c:Nat}(w:WFM l c)(p:κ×α×Nat→Bool):WFM (l.filter p) c:=
 ⟨(List.filter_sublist.map _).nodup w.keys,(List.filter_sublist.map _).nodup w.borns,fun e he=>w.lt e (List.mem_filter.1 he).1⟩
omit [DecidableEq κ] in
theorem WFM.born_inj{l:ML κ α}{c:Nat}(w:WFM l c){d e:κ×α×Nat}(hd:d∈l)(he:e∈l)(h:d.2.2=e.2.2):d=e:=by
 have hb:=w.borns
 clear w
 induction l with
 |nil=>cases hd
 |cons a l ih=>
  rw[List.map_cons,List.nodup_cons]at hb
  rcases List.mem_cons.1 hd with rfl|hd2
  ·rcases List.mem_cons.1 he with rfl|he2
   ·rfl
   ·exact(hb.1 (List.mem_map.2 ⟨e,he2,h.symm⟩)).elim
  ·rcases List.mem_cons.1 he with rfl|he2
   ·exact(hb.1 (List.mem_map.2 ⟨d,hd2,h⟩)).elim
   ·exact ih hd2 he2 hb.2
omit [DecidableEq κ] in
theorem WFM.key_inj{l:ML κ α}{c:Nat}(w:WFM l c){d e:κ×α×Nat}(hd:d∈l)(he:e∈l)(h:d.1=e.1):d=e:=by
 have hb:=w.keys
 clear w
 induction l with
 |nil=>cases hd
 |cons a l ih=>
  rw[List.map_cons,List.nodup_cons]at hb
  rcases List.mem_cons.1 hd with rfl|hd2
  ·rcases List.mem_cons.1 he with rfl|he2
   ·rfl
   ·exact(hb.1 (List.mem_map.2 ⟨e,he2,h.symm⟩)).elim
  ·rcases List.mem_cons.1 he with rfl|he2
   ·exact(hb.1 (List.mem_map.2 ⟨d,hd2,h⟩)).elim
   ·exact ih hd2 he2 hb.2
end
def itS(l:ML Int It)(fid:Int)(seen:List Nat):ML Int It:=l.filter fun e=> !(decide (e.2.1.feed=fid)&&decide (e.2.2∈seen))
def guS(l:ML Int It)(g:ML (Int×Bs) Int)(fid:Int)(seen:List Nat):ML (Int×Bs) Int:=g.filter fun e=> !(l.any fun d=>decide (d.2.1.feed=fid)&&decide (d.2.2∈seen)&&decide (e.1=(d.2.1.feed,d.2.1.guid)))
theorem re{l:ML Int It}{c:Nat}(w:WFM l c){fid:Int}{seen:List Nat}{e:Int×It×Nat}(he:e∈l)(hf:e.2.1.feed=fid):dlM (itS l fid seen) e.1=itS l fid (seen++[e.2.2]):=by
 unfold itS
 rw[jt (w.filter _).keys]
 rw[List.filter_filter]
 refine List.filter_congr fun d hd=>?_
 by_cases h:d=e
 ·subst h;simp[hf]
 ·have h1:d.1≠e.1:=fun q=>h (w.key_inj hd he q)
  have h2:d.2.2≠e.2.2:=fun q=>h (w.born_inj hd he q)
  simp[h1,h2]
theorem x8{l:ML Int It}{c c':Nat}{g:ML (Int×Bs) Int}(w:WFM l c)(wg:WFM g c'){fid:Int}{seen:List Nat}{e:Int×It×Nat}(he:e∈l)(hf:e.2.1.feed=fid):dlM (guS l g fid seen) (e.2.1.feed,e.2.1.guid)=guS l g fid (seen++[e.2.2]):=by
 unfold guS
 rw[jt (wg.filter _).keys]
 rw[List.filter_filter]
 refine List.filter_congr fun d hd=>?_
 rw[Bool.eq_iff_iff]
 simp only[Bool.and_eq_true,Bool.not_eq_true',decide_eq_false_iff_not,List.any_eq_false,Bool.and_eq_true,decide_eq_true_eq,not_and,List.mem_append,List.mem_singleton]
 constructor
 ·rintro⟨h1,h2⟩ x hx ⟨h3,h4⟩ h5
  rcases h4 with h4|h4
  ·exact h2 x hx ⟨h3,h4⟩ h5
  ·rw[w.born_inj hx he h4]at h5;exact h1 h5
 ·intro h
  exact⟨fun h1=>h e he ⟨hf,.inr rfl⟩ h1,fun x hx h3 h5=>h x hx ⟨h3.1,.inl h3.2⟩ h5⟩
theorem mC{l:ML Int It}{c:Nat}(w:WFM l c){fid:Int}{seen:List Nat}{e:Int×It×Nat}(he:e∈l)(hf:e.2.1.feed≠fid):itS l fid (seen++[e.2.2])=itS l fid seen:=by
 unfold itS
 refine List.filter_congr fun d hd=>?_
 by_cases h:d=e
 ·subst h;simp[hf]
 ·have h2:d.2.2≠e.2.2:=fun q=>h (w.born_inj hd he q)
  simp[h2]
theorem tH{l:ML Int It}{c:Nat}{g:ML (Int×Bs) Int}(w:WFM l c){fid:Int}{seen:List Nat}{e:Int×It×Nat}(he:e∈l)(hf:e.2.1.feed≠fid):guS l g fid (seen++[e.2.2])=guS l g fid seen:=by
 unfold guS
 refine List.filter_congr fun d hd=>?_
 rw[Bool.eq_iff_iff]
 simp only[Bool.not_eq_true',List.any_eq_false,Bool.and_eq_true,decide_eq_true_eq,not_and,List.mem_append,List.mem_singleton]
 constructor
 ·intro h x hx h3 h5
  exact h x hx ⟨h3.1,.inl h3.2⟩ h5
 ·rintro h x hx ⟨h3,h4⟩ h5
  rcases h4 with h4|h4
  ·exact h x hx ⟨h3,h4⟩ h5
  ·rw[w.born_inj hx he h4]at h3;exact hf h3
theorem vy{l:ML Int It}{fid:Int}{seen:List Nat}(h:∀e∈itS l fid seen,e.2.2∈seen):∀e∈l,e.2.1.feed=fid→e.2.2∈seen:=by
 intro e he hf
 apply Classical.byContradiction
 intro hs
 exact hs (h e (List.mem_filter.2 ⟨he,by simp[hs]⟩))
theorem vz(l:ML Int It)(fid:Int):itS l fid []=l:=by unfold itS;simp
theorem vA(l:ML Int It)(g:ML (Int×Bs) Int)(fid:Int):guS l g fid []=g:=by unfold guS;simp
def itF(l:ML Int It)(fid:Int):ML Int It:=l.filter fun e=> !decide (e.2.1.feed=fid)
def guF(l:ML Int It)(g:ML (Int×Bs) Int)(fid:Int):ML (Int×Bs) Int:=g.filter fun e=> !(l.any fun d=>decide (d.2.1.feed=fid)&&decide (e.1=(d.2.1.feed,d.2.1.guid)))
theorem vB{l:ML Int It}{fid:Int}{seen:List Nat}(h:∀e∈l,e.2.1.feed=fid→e.2.2∈seen):itS l fid seen=itF l fid:=by
 unfold itS itF
 refine List.filter_congr fun d hd=>?_
 by_cases hf:d.2.1.feed=fid
 ·simp[hf,h d hd hf]
 ·simp[hf]
theorem vC{l:ML Int It}{g:ML (Int×Bs) Int}{fid:Int}{seen:List Nat}(h:∀e∈l,e.2.1.feed=fid→e.2.2∈seen):guS l g fid seen=guF l g fid:=by
 unfold guS guF
 refine List.filter_congr fun d hd=>?_
 rw[Bool.eq_iff_iff]
 simp only[Bool.not_eq_true',List.any_eq_false,Bool.and_eq_true,decide_eq_true_eq,not_and]
 constructor
 ·intro h1 x hx h3;exact h1 x hx ⟨h3,h x hx h3⟩
 ·intro h1 x hx h3;exact h1 x hx h3.1
variable (G:Nat→Option (List AVal))
def PS.dlFe(s:PS)(k:Int):PS:= {s with fe:=dlM s.fe k}
def PS.dlPl(s:PS)(k:Bs):PS:= {s with pl:=dlM s.pl k}
def PS.unfeed(s:PS)(f:Fe):PS:=((({s with it:=itF s.it f.id,gu:=guF s.it s.gu f.id}:PS).dlPl f.url).dlFe f.id).hold f.inn (-1)
theorem mD(s:PS)(f:Fe)(hw:WFM s.it s.c3)(hg:WFM s.gu s.c7)(hf:s.few){H:Heap}{n:Nat}(hn:n+9≤H.length):Sat (CT G) 53 [.hp (n+8) 0 0 0,f.av] (so H n s) (fun r h'=>r=.tup []∧h'=so H n (s.unfeed f)):=by
 refine sb [] (fn:=Tryz.f53) Tryz.func53 ?_
 intro Q hQ
 refine wk trivial ?_
 refine lm (fun nL tL hL=>∃(hh:Heap) (seen:List Nat),leftM (itS s.it f.id seen) seen=nL∧so hh n {s with it:=itS s.it f.id seen,gu:=guS s.it s.gu f.id seen}=hL∧tL 0=.hp (n+8) 0 0 0∧tL 3=.hp H.length 0 0 0∧tL 10=.hp (H.length+1) 0 0 0∧(FrN H.length H hh∧H.length+1<hh.length)∧getRow hh H.length 0=some (51,4,[.agg [.int .i64 f.id,.int .i64 f.inn,.str f.url,.str f.title]])∧hh[H.length+1]? =some (.mit (n+2) s.c3 seen s.c3)) ((fun(hh:Heap) (seen:List Nat)=>(leftM (itS s.it f.id seen) seen:Nat)) (H++[.row 51 4 0 [.agg [.int .i64 f.id,.int .i64 f.inn,.str f.url,.str f.title]],.mit (n+2) s.c3 [] s.c3]) ([])) ?_ ?_
 ·refine Wkn.refl ⟨H++[.row 51 4 0 [.agg [.int .i64 f.id,.int .i64 f.inn,.str f.url,.str f.title]],.mit (n+2) s.c3 [] s.c3],[],rfl,by rw[vz,vA],?_,?_,?_,⟨FrN.app _ (by omega) (FrN.refl _ _),by simp⟩,by rw[aE _ rfl];rfl,by simp⟩
  all_goals first|exact zq trivial|rfl|omega|trivial|skip
 rintro _ s2 h' ⟨hh,seen,rfl,rfl,e0,e3,e10,hfr,hgr,hi⟩ K2 hK2
 simp only[ak,ao,Nat.reduceEqDiff, ↓reduceIte]at e0 e3 e10
 have F:=F3 e0 e3 e10
 refine wk F ?_
 obtain⟨hfr,hfl⟩:=hfr
 have hn1:n+9≤hh.length:=by omega
 refine ta (q:=n+2) (c:=s.c3) (seen:=seen) (l:=itS s.it f.id seen) (by rw[qO hn1 (by omega)];exact hi) (pg hn1) (hw.filter _).lt (fun e he hs=>?_) (fun hall=>?_)
 ·have F:=F3 F hgr @ax
  try refine sq F ?_
  refine wk F ?_
  have hel:=(List.mem_filter.1 he).1
  refine td (q:=n+2) (l:=itS s.it f.id seen) (by rw[qO (by simpa using hn1) (by omega),List.getElem?_set_self hfl]) (pg (by simpa using hn1)) (hw.filter _) he ?_
  try refine sq F ?_
  refine wk F ?_
  refine cq F (fun c1=>?_) (fun c1=>?_)<;>(try exact c1.elim)<;>(refine wk F ?_)
  ·have hlt:leftM (itS s.it f.id (seen++[e.2.2])) (seen++[e.2.2])<leftM (itS s.it f.id seen) seen:=by rw[← re hw hel c1];exact lV he hs (hO _ _)
   refine hK2 _ _ _ (Wkn.refl ⟨hh.set (H.length+1) (.mit (n+2) s.c3 (seen++[e.2.2]) s.c3)++[.row 82 9 0 [e.2.1.av]],seen++[e.2.2],rfl,by rw[← re hw hel c1, ← x8 hw hg hel c1];rfl,?_,?_,?_,⟨FrN.app _ (by simp;omega) (FrN.set _ (by omega) hfr),by simp;omega⟩,by rw[aN _ (by simp;omega),aZ _ _ (by omega)];exact hgr,by rw[List.getElem?_append_left (by simp;omega),List.getElem?_set_self hfl]⟩) (by omega)
   all_goals first|exact zq F|rfl|omega|trivial|skip
  ·have hlt:leftM (itS s.it f.id (seen++[e.2.2])) (seen++[e.2.2])<leftM (itS s.it f.id seen) seen:=by rw[mC hw hel c1];exact lV he hs (List.Sublist.refl _)
   refine hK2 _ _ _ (Wkn.refl ⟨hh.set (H.length+1) (.mit (n+2) s.c3 (seen++[e.2.2]) s.c3)++[.row 82 9 0 [e.2.1.av]],seen++[e.2.2],rfl,by rw[mC hw hel c1,tH hw hel c1];rfl,?_,?_,?_,⟨FrN.app _ (by simp;omega) (FrN.set _ (by omega) hfr),by simp;omega⟩,by rw[aN _ (by simp;omega),aZ _ _ (by omega)];exact hgr,by rw[List.getElem?_append_left (by simp;omega),List.getElem?_set_self hfl]⟩) (by omega)
   all_goals first|exact zq F|rfl|omega|trivial|skip
 ·have hx:=vy hall
  rw[vB hx,vC hx]
  have F:=F2 F hgr
  try refine sq F ?_
  refine wk F ?_
  refine kq F (cr G _ f.inn (-1) (PS.few1 (s:=(({s with it:=itF s.it f.id,gu:=guF s.it s.gu f.id}:PS).dlPl f.url).dlFe f.id) hf f.inn) (by omega) hn1) ?_
  obtain⟨j,hj⟩:=hfr.behind (by omega)
  subst hj
  refine ee hQ F ?_
  exact au hn (.tup _ (by simp)) ⟨rfl,rfl⟩
end Go.Av
namespace Go.Av
open Go Go.Proofs Go.RowKit
attribute [local irreducible] WP WPl WPix Sat
variable (G:Nat→Option (List AVal))
def PS.dlNm(s:PS)(k:Int×Bs):PS:= {s with nm:=dlM s.nm k}
def PS.dlFo(s:PS)(k:Int):PS:= {s with fo:=dlM s.fo k}
def PS.dlSe(s:PS)(k:Int):PS:= {s with se:=dlM s.se k}
def PS.after(s:PS)(tg:List Bs)(e:Ev):PS:=
 if e.kind=2 then(((s.dlNm (((lkM s.fo e.a).getD Fo.z).inn,((lkM s.fo e.a).getD Fo.z).name)).dlFo e.a).hold ((lkM s.fo e.a).getD Fo.z).inn (-1))
 else if e.kind=4 then s.unfeed ((lkM s.fe e.a).getD Fe.z)
 else if e.kind=5 then s.upFe e.a {(lkM s.fe e.a).getD Fe.z with title:=e.t}
 else if e.kind=6 then((s.hold ((lkM s.fe e.a).getD Fe.z).inn (-1)).hold e.b 1).upFe e.a {(lkM s.fe e.a).getD Fe.z with inn:=e.b}
 else if e.kind=8 then s.upIt e.a {(lkM s.it e.a).getD It.z with read:=e.n==1}
 else if e.kind=9 then s.upIt e.a {(lkM s.it e.a).getD It.z with star:=e.n==1}
 else if e.kind=10 then s.upIt e.a {(lkM s.it e.a).getD It.z with tags:=tg}
 else if e.kind=12 then s.dlSe e.a
 else if e.kind=13 then {s with clock:=e.n}
 else s.make e
theorem nG(s:PS)(e:Ev)(b:Bool)(tg:List Bs)(hw:WFM s.it s.c3)(hg:WFM s.gu s.c7)(hf:s.few)(hf2:(s.hold ((lkM s.fe e.a).getD Fe.z).inn (-1)).few)
  (hF:∀(n:Nat) (H:Heap),n+9≤H.length→Sat (CT G) 51 [.hp (n+8) 0 0 0,e.av] (so H n s) (fun r h'=>r=.bool b∧h'=so H n s))
  (hT:∀(n:Nat) (H:Heap),n+9≤H.length→Sat (CT G) 54 [.hp (n+8) 0 0 0,e.av] (so H n s) (fun r h'=>r=.sl 1 (tg.map .str)∧h'=so H n s))
  {H:Heap}{n:Nat}(hn:n+9≤H.length):Sat (CT G) 21 [.hp (n+8) 0 0 0,e.av] (so H n s) (fun r h'=>r=.bool b∧h'=so H n (if b then s.after tg e else s)):=by
 cases b with
 |false=>
  refine sb [.tmp 4] (fn:=Tryz.f21) Tryz.func21 ?_
  intro Q hQ
  refine wk trivial ?_
  refine kq trivial (hF n _ (by first|omega| (simp;omega))) ?_
  refine ee hQ trivial ?_
  exact au hn (.bool _) ⟨rfl,rfl⟩
 |true=>
  refine sb [.tmp 4] (fn:=Tryz.f21) Tryz.func21 ?_
  intro Q hQ
  refine wk trivial ?_
  refine kq trivial (hF n _ (by first|omega| (simp;omega))) ?_
  refine aw 17 [14,15,16] [true,true,true,true,true,true,true,true,true,true,true,true,true,true,false,false,false] (.two 14 [false,true,true,true,true,true,true,false,true,true,true,true,true,true] (.one 15 [false,true,true,true,true,true,true,false,true,true,true,true,true,true] (.one 16 [false,false,false,false,false,false,false,false,true,true,true,true,true,true] .fin)) 15 [false,true,true,true,true,true,true,false,true,true,true,true,true,true] (.one 14 [false,true,true,true,true,true,true,false,true,true,true,true,true,true] (.one 16 [false,false,false,false,false,false,false,false,true,true,true,true,true,true] .fin))) (by decide+kernel) (by kernel_rfl) (by decide+kernel) ?_
  simp only[aB,aC,az]
  try refine sq trivial ?_
  repeat' (first| (refine ah ?_;try refine sq trivial ?_)| (refine ai ?_;try refine sq trivial ?_)| (refine aj ?_ ?_<;>try refine sq trivial ?_))
  all_goals try refine wk trivial ?_
  all_goals (
   by_cases k2:e.kind=2
   ·have F:=k2
    try refine sq F ?_
    refine wk F ?_
    refine aw 8 [7] [true,true,true,true,true,true,true,false] (.one 7 [false,true,true,true,true,true,true] .fin) (by decide+kernel) (by kernel_rfl) (by decide+kernel) ?_
    simp only[aB,aC,az]
    try refine sq F ?_
    repeat' (first| (refine ah ?_;try refine sq F ?_)| (refine ai ?_;try refine sq F ?_)| (refine aj ?_ ?_<;>try refine sq F ?_))
    all_goals try refine wk F ?_
    refine kq F (cr G _ _ (-1) (PS.few1 (s:=((s.dlNm (((lkM s.fo e.a).getD Fo.z).inn,((lkM s.fo e.a).getD Fo.z).name)).dlFo e.a)) hf _) (by omega) (by first|omega| (simp;omega))) ?_
    refine ee hQ F ?_
    exact au hn (.bool _) ⟨rfl,by rw[PS.after,if_pos k2];try rfl⟩
   by_cases k4:e.kind=4
   ·have F:=k4
    try refine sq F ?_
    refine wk F ?_
    refine kq F (mD G s ((lkM s.fe e.a).getD Fe.z) hw hg hf (by first|omega| (simp;omega))) ?_
    refine ee hQ F ?_
    exact au hn (.bool _) ⟨rfl,by rw[PS.after,if_neg (by omega),if_pos k4];try rfl⟩
   by_cases k5:e.kind=5
   ·have F:=k5
    try refine sq F ?_
    refine wk F ?_
    refine ee hQ F ?_
    exact au hn (.bool _) ⟨rfl,by rw[PS.after,if_neg (by omega),if_neg (by omega),if_pos k5];try rfl⟩
   by_cases k6:e.kind=6
   ·have F:=k6
    try refine sq F ?_
    refine wk F ?_
    refine kq F (cr G s _ (-1) (PS.few1 hf _) (by omega) (by first|omega| (simp;omega))) ?_
    refine kq F (cr G _ e.b 1 (PS.few1 hf2 _) (by omega) (by first|omega| (simp;omega))) ?_
    refine ee hQ F ?_
    exact au hn (.bool _) ⟨rfl,by rw[PS.after,if_neg (by omega),if_neg (by omega),if_neg (by omega),if_pos k6];try rfl⟩
   by_cases k8:e.kind=8
   ·have F:=k8
    try refine sq F ?_
    refine wk F ?_
    refine ee hQ F ?_
    exact au hn (.bool _) ⟨rfl,by rw[PS.after,if_neg (by omega),if_neg (by omega),if_neg (by omega),if_neg (by omega),if_pos k8];try rfl⟩
   by_cases k9:e.kind=9
   ·have F:=k9
    try refine sq F ?_
    refine wk F ?_
    refine ee hQ F ?_
    exact au hn (.bool _) ⟨rfl,by rw[PS.after,if_neg (by omega),if_neg (by omega),if_neg (by omega),if_neg (by omega),if_neg (by omega),if_pos k9];try rfl⟩
   by_cases k10:e.kind=10
   ·have F:=k10
    try refine sq F ?_
    refine wk F ?_
    have hT2:=hT
    simp only[Ev.av_eq,k10]at hT2
    refine kq F (hT2 n _ (by first|omega| (simp;omega))) ?_
    refine ee hQ F ?_
    exact au hn (.bool _) ⟨rfl,by rw[PS.after,if_neg (by omega),if_neg (by omega),if_neg (by omega),if_neg (by omega),if_neg (by omega),if_neg (by omega),if_pos k10];try rfl⟩
   by_cases k12:e.kind=12
   ·have F:=k12
    try refine sq F ?_
    refine wk F ?_
    refine ee hQ F ?_
    exact au hn (.bool _) ⟨rfl,by rw[PS.after,if_neg (by omega),if_neg (by omega),if_neg (by omega),if_neg (by omega),if_neg (by omega),if_neg (by omega),if_neg (by omega),if_pos k12];try rfl⟩
   by_cases k13:e.kind=13
   ·have F:=k13
    try refine sq F ?_
    refine wk F ?_
    refine ee hQ F ?_
    exact au hn (.bool _) ⟨rfl,by rw[PS.after,if_neg (by omega),if_neg (by omega),if_neg (by omega),if_neg (by omega),if_neg (by omega),if_neg (by omega),if_neg (by omega),if_neg (by omega),if_pos k13];try rfl⟩
   have n2:(e.kind==2)=false:=by simp[k2]
   have n4:(e.kind==4)=false:=by simp[k4]
   have n5:(e.kind==5)=false:=by simp[k5]
   have n6:(e.kind==6)=false:=by simp[k6]
   have n8:(e.kind==8)=false:=by simp[k8]
   have n9:(e.kind==9)=false:=by simp[k9]
   have n10:(e.kind==10)=false:=by simp[k10]
   have n12:(e.kind==12)=false:=by simp[k12]
   have n13:(e.kind==13)=false:=by simp[k13]
   have F:=F9 n2 n4 n5 n6 n8 n9 n10 n12 n13
   try refine sq F ?_
   refine wk F ?_
   refine kq F (pM G s e hf (by first|omega| (simp;omega))) ?_
   refine ee hQ F ?_
   exact au hn (.bool _) ⟨rfl,by rw[PS.after,if_neg k2,if_neg k4,if_neg k5,if_neg k6,if_neg k8,if_neg k9,if_neg k10,if_neg k12,if_neg k13]⟩)
end Go.Av
namespace Go.Av
open Go Go.Proofs Go.RowKit
attribute [local irreducible] WP WPl WPix Sat
def idF(n:Int):Bool:=decide (1≤n)&&decide (n≤1048576)
structure Leaf where
 label:Bs→Bool
 title:Bs→Bool
 link:Bs→Bool
 tag:Bs→Bool
 query:Bs→Bool
 moment:Int→Bool
def Leaf.place(L:Leaf)(t:Bs):Bool:= !(t==[])&&L.link t
def Leaf.right(L:Leaf)(e:Ev):Bool:=
 if e.kind=1 then idF e.a&&((e.b==0||idF e.b)&&L.label e.s)
 else if e.kind=2∨e.kind=4∨e.kind=12 then idF e.a
 else if e.kind=3 then idF e.a&&((e.b==0||idF e.b)&&(L.place e.s&&L.title e.t))
 else if e.kind=5 then idF e.a&&L.title e.t
 else if e.kind=6 then idF e.a&&(e.b==0||idF e.b)
 else if e.kind=7 then idF e.a&&(idF e.b&&(L.moment e.n&&(L.place e.s&&(L.title e.t&&L.link e.u))))
 else if e.kind=8∨e.kind=9 then idF e.a&&(e.n==0||e.n==1)
 else if e.kind=10 then idF e.a&&((e.n==0||e.n==1)&&L.tag e.s)
 else if e.kind=11 then idF e.a&&(L.label e.s&&L.query e.t)
 else if e.kind=13 then L.moment e.n
 else false
def usedE(e:Ev):Ev:=
 if e.kind=1 then⟨e.kind,e.a,e.b,0,e.s,[],[]⟩
 else if e.kind=3 then⟨e.kind,e.a,e.b,0,e.s,e.t,[]⟩
 else if e.kind=5 then⟨e.kind,e.a,0,0,[],e.t,[]⟩
 else if e.kind=6 then⟨e.kind,e.a,e.b,0,[],[],[]⟩
 else if e.kind=7 then e
 else if e.kind=8∨e.kind=9 then⟨e.kind,e.a,0,e.n,[],[],[]⟩
 else if e.kind=10 then⟨e.kind,e.a,0,e.n,e.s,[],[]⟩
 else if e.kind=11 then⟨e.kind,e.a,0,0,e.s,e.t,[]⟩
 else if e.kind=13 then⟨e.kind,0,0,e.n,[],[],[]⟩
 else⟨e.kind,e.a,0,0,[],[],[]⟩
instance:DecidableEq Ev:=fun x y=>by
 cases x;cases y;simp only[Ev.mk.injEq];exact inferInstance
def Leaf.ck(L:Leaf)(e:Ev):Bool:=L.right e&&decide (usedE e=e)
@[go_sem] theorem Gt(h:Heap)(d e:Ev):abin Tryz.prog h .neq 45 (.agg [.int .i64 d.kind,.int .i64 d.a,.int .i64 d.b,.int .i64 d.n,.str d.s,.str d.t,.str d.u]) (.agg [.int .i64 e.kind,.int .i64 e.a,.int .i64 e.b,.int .i64 e.n,.str e.s,.str e.t,.str e.u])=some (.bool (!decide (d=e))):=by
 obtain⟨a1,a2,a3,a4,a5,a6,a7⟩:=d
 obtain⟨b1,b2,b3,b4,b5,b6,b7⟩:=e
 simp only[abin,go_sem,aeqL,aeq1, ↓reduceIte,Option.map_some,Option.some.injEq,AVal.bool.injEq,Ev.mk.injEq,Bool.not_inj_iff]
 rw[Bool.eq_iff_iff]
 simp
theorem Ev.clo(N:Nat)(e:Ev):Clo N e.av:=.agg _ fun x hx=>by
 simp only[List.mem_cons,List.not_mem_nil,or_false]at hx
 rcases hx with rfl|rfl|rfl|rfl|rfl|rfl|rfl<;>first|exact .int _ _|exact .str _
theorem eH(N:Nat)(a b c d:Int)(s t u:Bs):Clo N (.agg [.int .i64 a,.int .i64 b,.int .i64 c,.int .i64 d,.str s,.str t,.str u]):=Ev.clo N ⟨a,b,c,d,s,t,u⟩
variable (G:Nat→Option (List AVal))
theorem am(n:Int)(h:Heap):Sat (CT G) 192 [.int .i64 n] h (fun r h'=>r=.bool (idF n)∧h'=h):=by
 by_cases k:1≤n
 ·have k2:decide (n≥1)=true:=by simpa using k
  have F:=k2
  refine sb [.tmp 2] (fn:=Tryz.f192) Tryz.func192 ?_
  intro Q hQ
  refine wk F ?_
  refine ee hQ F ?_
  exact Fin.same (.bool _) ⟨by simp[idF,k],rfl⟩
 ·have k2:decide (n≥1)=false:=by simpa using k
  have F:=k2
  refine sb [.tmp 2] (fn:=Tryz.f192) Tryz.func192 ?_
  intro Q hQ
  refine wk F ?_
  refine ee hQ F ?_
  exact Fin.same (.bool _) ⟨by simp[idF,k],rfl⟩
theorem pN(e:Ev)(h:Heap):Sat (CT G) 147 [e.av] h (fun r h'=>r=(usedE e).av∧h'=h):=by
 by_cases k1:e.kind=1
 ·have F:=k1
  skip
  refine sb [.cell 2 45] (fn:=Tryz.f147) Tryz.func147 ?_
  intro Q hQ
  refine wn F ?_
  refine aw 6 [5] [true,true,true,true,true,false] (.one 5 [false,false,true,true] .fin) (by decide+kernel) (by kernel_rfl) (by decide+kernel) ?_
  simp only[aB,aC,az]
  try refine sq F ?_
  repeat' (first| (refine ah ?_;try refine sq F ?_)| (refine ai ?_;try refine sq F ?_)| (refine aj ?_ ?_<;>try refine sq F ?_))
  all_goals try refine wn F ?_
  skip
  all_goals (
   refine ye hQ F ?_
   exact Fin.plain (eH ..) ⟨by simp[usedE,Ev.av,k1],rfl⟩)
 by_cases k3:e.kind=3
 ·have F:=k3
  skip
  refine sb [.cell 2 45] (fn:=Tryz.f147) Tryz.func147 ?_
  intro Q hQ
  refine wn F ?_
  refine aw 10 [7,9] [true,true,true,true,true,true,true,false,true,false] (.one 7 [false,false,true,true,true,true,false,false,true] (.one 9 [false,false,false,false,true,true] .fin)) (by decide+kernel) (by kernel_rfl) (by decide+kernel) ?_
  simp only[aB,aC,az]
  try refine sq F ?_
  repeat' (first| (refine ah ?_;try refine sq F ?_)| (refine ai ?_;try refine sq F ?_)| (refine aj ?_ ?_<;>try refine sq F ?_))
  all_goals try refine wn F ?_
  skip
  all_goals (
   refine ye hQ F ?_
   exact Fin.plain (eH ..) ⟨by simp[usedE,Ev.av,k3],rfl⟩)
 by_cases k5:e.kind=5
 ·have F:=k5
  skip
  refine sb [.cell 2 45] (fn:=Tryz.f147) Tryz.func147 ?_
  intro Q hQ
  refine wn F ?_
  skip
  all_goals (
   refine ye hQ F ?_
   exact Fin.plain (eH ..) ⟨by simp[usedE,Ev.av,k5],rfl⟩)
 by_cases k6:e.kind=6
 ·have F:=k6
  skip
  refine sb [.cell 2 45] (fn:=Tryz.f147) Tryz.func147 ?_
  intro Q hQ
  refine wn F ?_
  skip
  all_goals (
   refine ye hQ F ?_
   exact Fin.plain (eH ..) ⟨by simp[usedE,Ev.av,k6],rfl⟩)
 by_cases k7:e.kind=7
 ·have F:=k7
  skip
  refine sb [.cell 2 45] (fn:=Tryz.f147) Tryz.func147 ?_
  intro Q hQ
  refine wn F ?_
  skip
  all_goals (
   refine ye hQ F ?_
   exact Fin.plain (eH ..) ⟨by simp[usedE,Ev.av,k7],rfl⟩)
 by_cases k8:e.kind=8
 ·have F:=k8
  skip
  refine sb [.cell 2 45] (fn:=Tryz.f147) Tryz.func147 ?_
  intro Q hQ
  refine wn F ?_
  skip
  all_goals (
   refine ye hQ F ?_
   exact Fin.plain (eH ..) ⟨by simp[usedE,Ev.av,k8],rfl⟩)
 by_cases k9:e.kind=9
 ·have F:=k9
  skip
  refine sb [.cell 2 45] (fn:=Tryz.f147) Tryz.func147 ?_
  intro Q hQ
  refine wn F ?_
  skip
  all_goals (
   refine ye hQ F ?_
   exact Fin.plain (eH ..) ⟨by simp[usedE,Ev.av,k9],rfl⟩)
 by_cases k10:e.kind=10
 ·have F:=k10
  skip
  refine sb [.cell 2 45] (fn:=Tryz.f147) Tryz.func147 ?_
  intro Q hQ
  refine wn F ?_
  refine aw 6 [5] [true,true,true,true,true,false] (.one 5 [false,false,true,true] .fin) (by decide+kernel) (by kernel_rfl) (by decide+kernel) ?_
  simp only[aB,aC,az]
  try refine sq F ?_
  repeat' (first| (refine ah ?_;try refine sq F ?_)| (refine ai ?_;try refine sq F ?_)| (refine aj ?_ ?_<;>try refine sq F ?_))
  all_goals try refine wn F ?_
  skip
  all_goals (
   refine ye hQ F ?_
   exact Fin.plain (eH ..) ⟨by simp[usedE,Ev.av,k10],rfl⟩)
 by_cases k11:e.kind=11
 ·have F:=k11
  skip
  refine sb [.cell 2 45] (fn:=Tryz.f147) Tryz.func147 ?_
  intro Q hQ
  refine wn F ?_
  refine aw 6 [5] [true,true,true,true,true,false] (.one 5 [false,false,true,true] .fin) (by decide+kernel) (by kernel_rfl) (by decide+kernel) ?_
  simp only[aB,aC,az]
  try refine sq F ?_
  repeat' (first| (refine ah ?_;try refine sq F ?_)| (refine ai ?_;try refine sq F ?_)| (refine aj ?_ ?_<;>try refine sq F ?_))
  all_goals try refine wn F ?_
  skip
  all_goals (
   refine ye hQ F ?_
   exact Fin.plain (eH ..) ⟨by simp[usedE,Ev.av,k11],rfl⟩)
 by_cases k13:e.kind=13
 ·have F:=k13
  skip
  refine sb [.cell 2 45] (fn:=Tryz.f147) Tryz.func147 ?_
  intro Q hQ
  refine wn F ?_
  refine aw 4 [3] [true,true,true,false] (.one 3 [true,true] .fin) (by decide+kernel) (by kernel_rfl) (by decide+kernel) ?_
  simp only[aB,aC,az]
  try refine sq F ?_
  repeat' (first| (refine ah ?_;try refine sq F ?_)| (refine ai ?_;try refine sq F ?_)| (refine aj ?_ ?_<;>try refine sq F ?_))
  all_goals try refine wn F ?_
  skip
  all_goals (
   refine ye hQ F ?_
   exact Fin.plain (eH ..) ⟨by simp[usedE,Ev.av,k13],rfl⟩)
 have n1:(e.kind==1)=false:=by simp[k1]
 have n3:(e.kind==3)=false:=by simp[k3]
 have n5:(e.kind==5)=false:=by simp[k5]
 have n6:(e.kind==6)=false:=by simp[k6]
 have n7:(e.kind==7)=false:=by simp[k7]
 have n8:(e.kind==8)=false:=by simp[k8]
 have n9:(e.kind==9)=false:=by simp[k9]
 have n10:(e.kind==10)=false:=by simp[k10]
 have n11:(e.kind==11)=false:=by simp[k11]
 have n13:(e.kind==13)=false:=by simp[k13]
 have F:=jg n1 n3 n5 n6 n7 n8 n9 n10 n11 n13
 refine sb [.cell 2 45] (fn:=Tryz.f147) Tryz.func147 ?_
 intro Q hQ
 refine wk F ?_
 refine ye hQ F ?_
 exact Fin.plain (eH ..) ⟨by simp[usedE,Ev.av,k1,k3,k5,k6,k7,k8,k9,k10,k11,k13],rfl⟩
theorem nH(L:Leaf)(e:Ev)(hR:∀h,Sat (CT G) 146 [e.av] h (fun r h'=>r=.bool (L.right e)∧h'=h))(h:Heap):Sat (CT G) 92 [e.av] h (fun r h'=>r=.int .i64 (if L.ck e then 0 else 140)∧h'=h):=by
 cases hr:L.right e with
 |false=>
  rw[hr]at hR
  skip
  refine sb [.tmp 2] (fn:=Tryz.f92) Tryz.func92 ?_
  intro Q hQ
  refine wn trivial ?_
  refine iM 4 (.two 4 (.two 5 (.one 6 (.one 7 (.one 8 .nil))) 6 (.one 5 (.one 7 (.one 8 .nil)))) 6 (.one 4 (.one 5 (.one 7 (.one 8 .nil))))) (by decide+kernel) (by kernel_rfl) (by decide+kernel) ?_
  simp only[List.take_succ_cons,List.take_zero]
  try refine sq trivial ?_
  repeat' (first|refine cW ?_| (refine cX rfl ?_;refine sq trivial ?_)| (refine cY rfl rfl ?_ ?_<;>refine sq trivial ?_))
  skip
  refine aA (hR _) ?_
  try refine sq trivial ?_
  refine wk trivial ?_
  repeat' (first|refine cW ?_| (refine cX rfl ?_;refine sq trivial ?_)| (refine cY rfl rfl ?_ ?_<;>refine sq trivial ?_))
  all_goals (
   refine wk trivial ?_
   refine ee hQ trivial ?_
   exact Fin.plain (.int _ _) ⟨by simp[Leaf.ck,hr],rfl⟩)
 |true=>
  rw[hr]at hR
  skip
  refine sb [.tmp 2] (fn:=Tryz.f92) Tryz.func92 ?_
  intro Q hQ
  refine wn trivial ?_
  refine iM 4 (.two 4 (.two 5 (.one 6 (.one 7 (.one 8 .nil))) 6 (.one 5 (.one 7 (.one 8 .nil)))) 6 (.one 4 (.one 5 (.one 7 (.one 8 .nil))))) (by decide+kernel) (by kernel_rfl) (by decide+kernel) ?_
  simp only[List.take_succ_cons,List.take_zero]
  try refine sq trivial ?_
  repeat' (first|refine cW ?_| (refine cX rfl ?_;refine sq trivial ?_)| (refine cY rfl rfl ?_ ?_<;>refine sq trivial ?_))
  skip
  refine aA (hR _) ?_
  try refine sq trivial ?_
  refine wk trivial ?_
  repeat' (first|refine cW ?_| (refine cX rfl ?_;refine sq trivial ?_)| (refine cY rfl rfl ?_ ?_<;>refine sq trivial ?_))
  all_goals (
   refine(pN G e _).mono ?_
   rintro r h' ⟨rfl,rfl⟩
   try refine sq trivial ?_
   repeat' (first|refine cW ?_| (refine cX rfl ?_;refine sq trivial ?_)| (refine cY rfl rfl ?_ ?_<;>refine sq trivial ?_)))
  all_goals (
   try repeat' (first|refine cW ?_| (refine cX rfl ?_;refine sq trivial ?_)| (refine cY rfl rfl ?_ ?_<;>refine sq trivial ?_))
   by_cases hu:usedE e=e
   ·have hd:decide (usedE e=e)=true:=by simp[hu]
    have F:=hd
    try refine sq F ?_
    refine wk F ?_
    refine ee hQ F ?_
    exact Fin.plain (.int _ _) ⟨by simp[Leaf.ck,hr,hu],rfl⟩
   ·have hd:decide (usedE e=e)=false:=by simp[hu]
    have F:=hd
    try refine sq F ?_
    refine wk F ?_
    refine ee hQ F ?_
    exact Fin.plain (.int _ _) ⟨by simp[Leaf.ck,hr,hu],rfl⟩)
end Go.Av
