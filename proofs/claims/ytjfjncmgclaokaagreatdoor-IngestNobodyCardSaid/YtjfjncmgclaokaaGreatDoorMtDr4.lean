/- A region that draws its order, with several operations in it that change memory: a tree of the orders in which these may come. -/
import Derived.Test.YtjfjncmgclaokaaGreatDoorMtHa
import Derived.Test.YtjfjncmgclaokaaGreatDoorMtBl
import Derived.Lib.TrimUEq
set_option linter.unusedSimpArgs false
set_option linter.unusedVariables false
set_option linter.unusedSectionVars false
set_option linter.unnecessarySimpa false
set_option maxRecDepth 100000
set_option maxHeartbeats 16000000
namespace Go.Av
open Go Go.Proofs Go.RowKit
attribute [local irreducible] WP WPl WPix Sat
variable (G:Nat→Option (List AVal))
def enc(r:Int):Bs:=(Utf8.encode r).data.toList
def Rune(r:Int):Prop:=0≤r∧(r<55296∨57343<r∧r≤1114111)
theorem Rune.valid{r:Int}(h:Rune r):Utf8.valid r=true:=by
 unfold Utf8.valid;obtain⟨h0,h1⟩:=h;simp;omega
theorem aU(n:Nat)(h:n<256):bytA (UInt8.ofNat n)=.int .u8 n:=by
 simp[bytA];omega
theorem Ab{r:Int}(h0:0≤r)(h1:r<128):(enc r).map bytA=[.int .u8 r]:=by
 have hv:=Rune.valid (r:=r) ⟨h0,by omega⟩
 unfold enc Utf8.encode
 simp only[hv,if_true]
 rw[if_pos (by omega)]
 simp only[List.map_cons,List.map_nil]
 rw[aU _ (by omega)]
 simp only[List.cons.injEq,AVal.int.injEq,and_true,true_and]
 omega
theorem Ac{r:Int}(h0:128≤r)(h1:r<2048):(enc r).map bytA=[.int .u8 (192+r/64),.int .u8 (128+r%64)]:=by
 have hv:=Rune.valid (r:=r) ⟨by omega,by omega⟩
 unfold enc Utf8.encode
 simp only[hv,if_true]
 rw[if_neg (by omega),if_pos (by omega)]
 simp only[List.map_cons,List.map_nil]
 rw[aU _ (by omega),aU _ (by omega)]
 simp only[List.cons.injEq,AVal.int.injEq,and_true,true_and]
 omega
theorem tv{r:Int}(h:Rune r)(h0:2048≤r)(h1:r<65536):(enc r).map bytA=[.int .u8 (224+r/4096),.int .u8 (128+r/64%64),.int .u8 (128+r%64)]:=by
 have hv:=h.valid
 unfold enc Utf8.encode
 simp only[hv,if_true]
 rw[if_neg (by omega),if_neg (by omega),if_pos (by omega)]
 simp only[List.map_cons,List.map_nil]
 rw[aU _ (by omega),aU _ (by omega),aU _ (by omega)]
 simp only[List.cons.injEq,AVal.int.injEq,and_true,true_and]
 omega
theorem Ad{r:Int}(h0:65536≤r)(h1:r≤1114111):(enc r).map bytA=[.int .u8 (240+r/262144),.int .u8 (128+r/4096%64),.int .u8 (128+r/64%64),.int .u8 (128+r%64)]:=by
 have hv:=Rune.valid (r:=r) ⟨by omega,by omega⟩
 unfold enc Utf8.encode
 simp only[hv,if_true]
 rw[if_neg (by omega),if_neg (by omega),if_neg (by omega)]
 simp only[List.map_cons,List.map_nil]
 rw[aU _ (by omega),aU _ (by omega),aU _ (by omega),aU _ (by omega)]
 simp only[List.cons.injEq,AVal.int.injEq,and_true,true_and]
 omega
theorem fX(r:Int):1≤(enc r).length∧(enc r).length≤4:=by
 unfold enc Utf8.encode
 simp only[]
 generalize (if Utf8.valid r=true then r.toNat else Utf8.runeError)=c
 by_cases h1:c<128
 ·rw[if_pos h1];exact⟨by simp,by simp⟩
 ·rw[if_neg h1]
  by_cases h2:c<2048
  ·rw[if_pos h2];exact⟨by simp,by simp⟩
  ·rw[if_neg h2]
   by_cases h3:c<65536
   ·rw[if_pos h3];exact⟨by simp,by simp⟩
   ·rw[if_neg h3];exact⟨by simp,by simp⟩
theorem j9(P:Program)(h:Heap)(T:TypeId)(a b:Int)(k:IntKind)(hb:0≤b)(hb2:b<32):abin P h .shr T (.int .i32 a) (.int k b)=some (.int .i32 (a/2^b.toNat)):=by
 simp only[abin]
 rw[if_neg (by omega)]
 have:min b.toNat (IntKind.bits .i32)=b.toNat:=by simp[IntKind.bits];omega
 rw[this,Int.fdiv_eq_ediv_of_nonneg _ (by exact Int.le_of_lt (Int.pow_pos (by omega)))]
theorem wrap_u8(x:Int):IntKind.wrap .u8 x=x%256:=IntKind.wrap_u8 x
theorem wrap_u32(x:Int)(h0:0≤x)(h1:x<4294967296):IntKind.wrap .u32 x=x:=by rw[IntKind.wrap_u32];omega
theorem fY(n m:Nat)(h:n+m<256)(hh:∀x:_root_.Fin 256,x.val≤m→(BitVec.ofInt 8 n|||BitVec.ofInt 8 (x.val:Int)).toNat=n+x.val)(x:Int)(h0:0≤x)(h1:x≤m):aint .or .u8 n x=some (.int .u8 (n+x)):=by
 have e:(BitVec.ofInt 8 n|||BitVec.ofInt 8 ((x.toNat:Nat):Int)).toNat=n+x.toNat:=hh ⟨x.toNat,by omega⟩ (by simp;omega)
 rw[show x=((x.toNat:Nat):Int)from by omega]
 show some (AVal.int .u8 (IntKind.wrap .u8 (BitVec.ofInt 8 n|||BitVec.ofInt 8 ((x.toNat:Nat):Int)).toNat))=_
 rw[e,wrap_u8]
 congr 2;omega
theorem vz(x:Int)(h0:0≤x)(h1:x≤31):aint .or .u8 192 x=some (.int .u8 (192+x)):=fY 192 31 (by omega) (by decide+kernel) x h0 h1
theorem vA(x:Int)(h0:0≤x)(h1:x≤15):aint .or .u8 224 x=some (.int .u8 (224+x)):=fY 224 15 (by omega) (by decide+kernel) x h0 h1
theorem vB(x:Int)(h0:0≤x)(h1:x≤7):aint .or .u8 240 x=some (.int .u8 (240+x)):=fY 240 7 (by omega) (by decide+kernel) x h0 h1
theorem vC(x:Int)(h0:0≤x)(h1:x≤63):aint .or .u8 128 x=some (.int .u8 (128+x)):=fY 128 63 (by omega) (by decide+kernel) x h0 h1
theorem vD(x:Int)(h0:0≤x)(h1:x<256):aint .and .u8 x 63=some (.int .u8 (x%64)):=by
 have hh:∀x:_root_.Fin 256,(BitVec.ofInt 8 (x.val:Int)&&&BitVec.ofInt 8 63).toNat=x.val%64:=by decide+kernel
 have e:(BitVec.ofInt 8 ((x.toNat:Nat):Int)&&&BitVec.ofInt 8 63).toNat=x.toNat%64:=hh ⟨x.toNat,by omega⟩
 rw[show x=((x.toNat:Nat):Int)from by omega]
 show some (AVal.int .u8 (IntKind.wrap .u8 (BitVec.ofInt 8 ((x.toNat:Nat):Int)&&&BitVec.ofInt 8 63).toNat))=_
 rw[e,wrap_u8]
 congr 2;omega
theorem nl(P:Program)(h:Heap)(T:TypeId)(x:Int)(h0:0≤x)(h1:x≤31):abin P h .or T (.int .u8 192) (.int .u8 x)=some (.int .u8 (192+x)):=by simpa only[abin,if_true]using vz x h0 h1
theorem np(P:Program)(h:Heap)(T:TypeId)(x:Int)(h0:0≤x)(h1:x≤15):abin P h .or T (.int .u8 224) (.int .u8 x)=some (.int .u8 (224+x)):=by simpa only[abin,if_true]using vA x h0 h1
theorem nq(P:Program)(h:Heap)(T:TypeId)(x:Int)(h0:0≤x)(h1:x≤7):abin P h .or T (.int .u8 240) (.int .u8 x)=some (.int .u8 (240+x)):=by simpa only[abin,if_true]using vB x h0 h1
theorem nr(P:Program)(h:Heap)(T:TypeId)(x:Int)(h0:0≤x)(h1:x≤63):abin P h .or T (.int .u8 128) (.int .u8 x)=some (.int .u8 (128+x)):=by simpa only[abin,if_true]using vC x h0 h1
theorem ns(P:Program)(h:Heap)(T:TypeId)(x:Int)(h0:0≤x)(h1:x<256):abin P h .and T (.int .u8 x) (.int .u8 63)=some (.int .u8 (x%64)):=by simpa only[abin,if_true]using vD x h0 h1
theorem Ae(P:Program)(h:Heap)(T:TypeId)(a:Int):abin P h .shr T (.int .i32 a) (.int .u64 6)=some (.int .i32 (a/64)):=by rw[j9 _ _ _ _ _ _ (by omega) (by omega)];rfl
theorem vE(P:Program)(h:Heap)(T:TypeId)(a:Int):abin P h .shr T (.int .i32 a) (.int .u64 12)=some (.int .i32 (a/4096)):=by rw[j9 _ _ _ _ _ _ (by omega) (by omega)];rfl
theorem vG(P:Program)(h:Heap)(T:TypeId)(a:Int):abin P h .shr T (.int .i32 a) (.int .u64 18)=some (.int .i32 (a/262144)):=by rw[j9 _ _ _ _ _ _ (by omega) (by omega)];rfl
theorem jE(k:IntKind)(n:Int):aconv Tryz.prog 21 5 (.int k n)=some (.int .u8 (n%256)):=by simp only[aconv,go_sem,wrap_u8]
theorem iG(k:IntKind)(n:Int)(h0:0≤n)(h1:n<4294967296):aconv Tryz.prog 21 259 (.int k n)=some (.int .u32 n):=by simp only[aconv,go_sem,wrap_u32 n h0 h1]
theorem dW(r:Int)(hr:Rune r)(h1:128≤r)(h j:Heap)(X:Blk)(v:Nat)(s:Bs)(hs:s.length≤1073741824):
  Sat (CT G) 242 [.hs (h.length+1) v 0 s.length true,.int .i32 r] (h++X::bufR v s::j)
   (fun x h'=>x=.hs (h.length+1) (v+1) 0 (s.length+(enc r).length) true∧h'=h++X::bufR (v+1) (s++enc r)::j):=by
 have end_:∀l,l=enc r→Fin (h++X::bufR v s::j) (h++X::bufR (v+1) (s++l)::j) (fun x h'=>x=.hs (h.length+1) (v+1) 0 (s.length+(enc r).length) true∧h'=h++X::bufR (v+1) (s++enc r)::j) (.hs (h.length+1) (v+1) 0 (s.length+l.length) true):=fun l hl=>by
  subst hl
  refine Fin.keep0 (by simp) (fun p k hk=>?_) (.hs _ _ _ _ _ (by simp)) ⟨rfl,rfl⟩
  rcases Nat.lt_or_ge p h.length with h1|h1
  ·rw[List.getElem?_append_left h1]at hk ⊢;exact .inl hk
  ·rw[List.getElem?_append_right h1]at hk ⊢
   match p-h.length,hk with
   |0,hk=>exact .inl hk
   |1,hk=>simp at hk;subst hk;exact .inr (j8 _ _ _)
   |i+2,hk=>exact .inl hk
 have F:=F2 (F9 @jE @iG @Ae @vE @vG @nl @np @nq @nr) (F3 @ns @wrap_u8 @wrap_u32)
 obtain⟨hr0,hr1⟩:=hr
 refine sb [.tmp 4] (fn:=Tryz.f242) Tryz.func242 ?_
 intro Q hQ
 refine az F ?_
 refine iz F (fun hc=>?_) (fun hc=>?_)<;>(try exact hc.elim)<;>(refine az F ?_)
 ·refine bz (.inl rfl) (by exact cO F) (by exact cO F) cn ep (by omega) (bP _ _) (by simp(disch:=first|omega| (simp only[go_sem, ↓reduceIte,Nat.reduceEqDiff];done)|fail) only[go_sem, ↓reduceIte,Int.reduceToNat,Int.reduceLE,Int.reduceLT,Int.reduceSub,Int.reduceAdd,Nat.reduceEqDiff,Nat.reduceAdd,Nat.reduceLeDiff,Nat.reduceLT,Nat.reduceMul,Nat.reduceSub,F,aZ];rfl) (by simp) ?_ ?_
  ·simp[maxLen];omega
  simp(disch:=first|omega| (simp only[go_sem, ↓reduceIte,Nat.reduceEqDiff];done)|fail) only[go_sem, ↓reduceIte,Int.reduceToNat,Int.reduceLE,Int.reduceLT,Int.reduceSub,Int.reduceAdd,Nat.reduceEqDiff,Nat.reduceAdd,Nat.reduceLeDiff,Nat.reduceLT,Nat.reduceMul,Nat.reduceSub,F]
  refine az F ?_
  refine dQ hQ F ?_
  have e:=Ac h1 (by omega)
  have le:(enc r).length=2:=by simpa using congrArg List.length e
  have:=end_ _ rfl
  simp only[bufR,List.map_append,e,le]at this
  have m0:r/64%256=r/64:=by omega
  have m1:r%256%64=r%64:=by omega
  simp only[bufR,List.map_append,e,le,m0,m1,List.length_cons,List.length_nil,Nat.zero_add,Nat.reduceAdd]
  exact this
 ·refine iz F (fun hc=>?_) (fun hc=>?_)<;>(try exact hc.elim)<;>(refine az F ?_)
  ·refine iz F (fun hc=>?_) (fun hc=>?_)<;>(try exact hc.elim)<;>(refine az F ?_)
   ·refine bz (.inl rfl) (by exact cO F) (by exact cO F) cn ep (by omega) (bP _ _) (by simp(disch:=first|omega| (simp only[go_sem, ↓reduceIte,Nat.reduceEqDiff];done)|fail) only[go_sem, ↓reduceIte,Int.reduceToNat,Int.reduceLE,Int.reduceLT,Int.reduceSub,Int.reduceAdd,Nat.reduceEqDiff,Nat.reduceAdd,Nat.reduceLeDiff,Nat.reduceLT,Nat.reduceMul,Nat.reduceSub,F,aZ];rfl) (by simp) ?_ ?_
    ·simp[maxLen];omega
    simp(disch:=first|omega| (simp only[go_sem, ↓reduceIte,Nat.reduceEqDiff];done)|fail) only[go_sem, ↓reduceIte,Int.reduceToNat,Int.reduceLE,Int.reduceLT,Int.reduceSub,Int.reduceAdd,Nat.reduceEqDiff,Nat.reduceAdd,Nat.reduceLeDiff,Nat.reduceLT,Nat.reduceMul,Nat.reduceSub,F]
    refine az F ?_
    refine dQ hQ F ?_
    have e:=tv ⟨hr0,hr1⟩ (by omega) (by omega)
    have le:(enc r).length=3:=by simpa using congrArg List.length e
    have:=end_ _ rfl
    simp only[bufR,List.map_append,e,le]at this
    have m0:r/4096%256=r/4096:=by omega
    have m1:r/64%256%64=r/64%64:=by omega
    have m2:r%256%64=r%64:=by omega
    simp only[bufR,List.map_append,e,le,m0,m1,m2,List.length_cons,List.length_nil,Nat.zero_add,Nat.reduceAdd]
    exact this
   ·exfalso;omega
  ·(first|refine dP F (fun hg=>?_) (fun hg=>?_)|refine pqo F (fun hg=>?_) (fun hg=>?_))<;>(try exact hg.elim)<;>(try refine bY F ?_)<;>(refine az F ?_)
   ·refine iz F (fun hc=>?_) (fun hc=>?_)<;>(try exact hc.elim)<;>(refine az F ?_)
    ·refine bz (.inl rfl) (by exact cO F) (by exact cO F) cn ep (by omega) (bP _ _) (by simp(disch:=first|omega| (simp only[go_sem, ↓reduceIte,Nat.reduceEqDiff];done)|fail) only[go_sem, ↓reduceIte,Int.reduceToNat,Int.reduceLE,Int.reduceLT,Int.reduceSub,Int.reduceAdd,Nat.reduceEqDiff,Nat.reduceAdd,Nat.reduceLeDiff,Nat.reduceLT,Nat.reduceMul,Nat.reduceSub,F,aZ];rfl) (by simp) ?_ ?_
     ·simp[maxLen];omega
     simp(disch:=first|omega| (simp only[go_sem, ↓reduceIte,Nat.reduceEqDiff];done)|fail) only[go_sem, ↓reduceIte,Int.reduceToNat,Int.reduceLE,Int.reduceLT,Int.reduceSub,Int.reduceAdd,Nat.reduceEqDiff,Nat.reduceAdd,Nat.reduceLeDiff,Nat.reduceLT,Nat.reduceMul,Nat.reduceSub,F]
     refine az F ?_
     refine dQ hQ F ?_
     have e:=tv ⟨hr0,hr1⟩ (by omega) (by omega)
     have le:(enc r).length=3:=by simpa using congrArg List.length e
     have:=end_ _ rfl
     simp only[bufR,List.map_append,e,le]at this
     have m0:r/4096%256=r/4096:=by omega
     have m1:r/64%256%64=r/64%64:=by omega
     have m2:r%256%64=r%64:=by omega
     simp only[bufR,List.map_append,e,le,m0,m1,m2,List.length_cons,List.length_nil,Nat.zero_add,Nat.reduceAdd]
     exact this
    ·(first|refine dP F (fun hg=>?_) (fun hg=>?_)|refine pqo F (fun hg=>?_) (fun hg=>?_))<;>(try exact hg.elim)<;>(try refine bY F ?_)<;>(refine az F ?_)
     ·refine iz F (fun hc=>?_) (fun hc=>?_)<;>(try exact hc.elim)<;>(refine az F ?_)
      ·refine bz (.inl rfl) (by exact cO F) (by exact cO F) cn ep (by omega) (bP _ _) (by simp(disch:=first|omega| (simp only[go_sem, ↓reduceIte,Nat.reduceEqDiff];done)|fail) only[go_sem, ↓reduceIte,Int.reduceToNat,Int.reduceLE,Int.reduceLT,Int.reduceSub,Int.reduceAdd,Nat.reduceEqDiff,Nat.reduceAdd,Nat.reduceLeDiff,Nat.reduceLT,Nat.reduceMul,Nat.reduceSub,F,aZ];rfl) (by simp) ?_ ?_
       ·simp[maxLen];omega
       simp(disch:=first|omega| (simp only[go_sem, ↓reduceIte,Nat.reduceEqDiff];done)|fail) only[go_sem, ↓reduceIte,Int.reduceToNat,Int.reduceLE,Int.reduceLT,Int.reduceSub,Int.reduceAdd,Nat.reduceEqDiff,Nat.reduceAdd,Nat.reduceLeDiff,Nat.reduceLT,Nat.reduceMul,Nat.reduceSub,F]
       refine az F ?_
       refine dQ hQ F ?_
       have e:=Ad (r:=r) (by omega) (by omega)
       have le:(enc r).length=4:=by simpa using congrArg List.length e
       have:=end_ _ rfl
       simp only[bufR,List.map_append,e,le]at this
       have m0:r/262144%256=r/262144:=by omega
       have m1:r/4096%256%64=r/4096%64:=by omega
       have m2:r/64%256%64=r/64%64:=by omega
       have m3:r%256%64=r%64:=by omega
       simp only[bufR,List.map_append,e,le,m0,m1,m2,m3,List.length_cons,List.length_nil,Nat.zero_add,Nat.reduceAdd]
       exact this
      ·exfalso;omega
     ·exfalso;omega
   ·exfalso;omega
theorem ja(r:Int)(hr:Rune r)(h j:Heap)(X:Blk)(v:Nat)(s:Bs)(hs:s.length≤1073741824):
  Sat (CT G) 192 [.hs (h.length+1) v 0 s.length true,.int .i32 r] (h++X::bufR v s::j)
   (fun x h'=>x=.hs (h.length+1) (v+1) 0 (s.length+(enc r).length) true∧h'=h++X::bufR (v+1) (s++enc r)::j):=by
 have end_:∀l,l=enc r→Fin (h++X::bufR v s::j) (h++X::bufR (v+1) (s++l)::j) (fun x h'=>x=.hs (h.length+1) (v+1) 0 (s.length+(enc r).length) true∧h'=h++X::bufR (v+1) (s++enc r)::j) (.hs (h.length+1) (v+1) 0 (s.length+l.length) true):=fun l hl=>by
  subst hl
  refine Fin.keep0 (by simp) (fun p k hk=>?_) (.hs _ _ _ _ _ (by simp)) ⟨rfl,rfl⟩
  rcases Nat.lt_or_ge p h.length with h1|h1
  ·rw[List.getElem?_append_left h1]at hk ⊢;exact .inl hk
  ·rw[List.getElem?_append_right h1]at hk ⊢
   match p-h.length,hk with
   |0,hk=>exact .inl hk
   |1,hk=>simp at hk;subst hk;exact .inr (j8 _ _ _)
   |i+2,hk=>exact .inl hk
 have hr':=hr
 obtain⟨hr0,hr1⟩:=hr
 have F:=F2 @jE @iG
 refine sb [.tmp 4] (fn:=Tryz.f192) Tryz.func192 ?_
 intro Q hQ
 refine az F ?_
 refine iz F (fun hc=>?_) (fun hc=>?_)<;>(try exact hc.elim)<;>(refine az F ?_)
 ·refine bz (.inl rfl) (by exact cO F) (by exact cO F) cn ep (by omega) (bP _ _) (by simp(disch:=first|omega| (simp only[go_sem, ↓reduceIte,Nat.reduceEqDiff];done)|fail) only[go_sem, ↓reduceIte,Int.reduceToNat,Int.reduceLE,Int.reduceLT,Int.reduceSub,Int.reduceAdd,Nat.reduceEqDiff,Nat.reduceAdd,Nat.reduceLeDiff,Nat.reduceLT,Nat.reduceMul,Nat.reduceSub,F,aZ];rfl) (by simp) ?_ ?_
  ·simp[maxLen];omega
  simp(disch:=first|omega| (simp only[go_sem, ↓reduceIte,Nat.reduceEqDiff];done)|fail) only[go_sem, ↓reduceIte,Int.reduceToNat,Int.reduceLE,Int.reduceLT,Int.reduceSub,Int.reduceAdd,Nat.reduceEqDiff,Nat.reduceAdd,Nat.reduceLeDiff,Nat.reduceLT,Nat.reduceMul,Nat.reduceSub,F]
  refine az F ?_
  refine dQ hQ F ?_
  have e:=Ab (r:=r) (by omega) (by omega)
  have le:(enc r).length=1:=by simpa using congrArg List.length e
  have:=end_ _ rfl
  simp only[bufR,List.map_append,e,le]at this
  have m0:r%256=r:=by omega
  simp only[bufR,List.map_append,e,le,m0,List.length_cons,List.length_nil,Nat.zero_add,Nat.reduceAdd]
  exact this
 ·refine mj F (dW G r hr' (by omega) h j X v s hs) ?_
  refine dQ hQ F ?_
  exact end_ _ rfl
theorem cV(a:AVal)(r:Int)(hr:Rune r)(h j:Heap)(v:Nat)(s:Bs)(ha:bldA a h.length)(hs:s.length≤1073741824):
  Sat (CT G) 130 [.hp h.length 0 0 0,.int .i32 r] (bldH h j a v s) (fun x h'=>x=.tup [.int .i64 (enc r).length,.nil .nilIface]∧h'=bldH h j (.hp h.length 0 0 0) (v+1) (s++enc r)):=by
 have end_:Fin (bldH h j a v s) (bldH h j (.hp h.length 0 0 0) (v+1) (s++enc r)) (fun x h'=>x=.tup [.int .i64 (enc r).length,.nil .nilIface]∧h'=bldH h j (.hp h.length 0 0 0) (v+1) (s++enc r)) (.tup [.int .i64 (enc r).length,.nil .nilIface]):=
  Fin.keep0 ((bM ..).trans (bM ..).symm) (fD _ _ _ _ _ _ _) (.tup _ (by intro c hc;simp at hc;rcases hc with rfl|rfl;exact .int _ _;exact .nil _)) ⟨rfl,rfl⟩
 have F:= @aZ
 refine sb [.tmp 4,.tmp 5] (fn:=Tryz.f130) Tryz.func130 ?_
 intro Q hQ
 refine az F ?_
 refine(eX G a h j v s ha).mono ?_
 rintro x h' ⟨rfl,rfl⟩
 unfold bldH at*
 try refine bY F ?_
 refine az F ?_
 refine mj F (ja G r hr h j _ v s hs) ?_
 refine(hQ _ _ ?_).1
 simp(disch:=first|omega| (simp only[go_sem, ↓reduceIte,Nat.reduceEqDiff];done)|fail) only[go_sem, ↓reduceIte,Int.reduceToNat,Int.reduceLE,Int.reduceLT,Int.reduceSub,Int.reduceAdd,Nat.reduceEqDiff,Nat.reduceAdd,Nat.reduceLeDiff,Nat.reduceLT,Nat.reduceMul,Nat.reduceSub,F]
 have hl:=fX r
 simp only[bldR,bufR,List.length_append,List.map_append]at end_ ⊢
 rw[show IntKind.wrap .i64 (((s.length+(enc r).length:Nat):Int)-(s.length:Nat))=((enc r).length:Nat)from by rw[fk (by omega) (by omega)];omega]
 exact end_
end Go.Av
namespace Go.Av
open Go Go.Proofs Go.RowKit
def dec(s:Bs)(k:Nat):Nat×Nat:=Utf8.decode ⟨s.toArray⟩ k
theorem fZ(s:Bs)(k:Nat):dec s k=Lib.decodeN (s.length-k) (s.getD k 0).toNat (s.getD (k+1) 0).toNat (s.getD (k+2) 0).toNat (s.getD (k+3) 0).toNat:=by
 unfold dec;rw[Lib.decode_N]
theorem lE(n:Nat)(h:n<256):(UInt8.ofNat n).toNat=n:=by simp;omega
def fix(r:Int):Nat:=if Utf8.valid r=true then r.toNat else Utf8.runeError
theorem rJ(r:Int):enc r=let c:=fix r
  if c<0x80 then [UInt8.ofNat c]
  else if c<0x800 then [UInt8.ofNat (0xC0+c/64),UInt8.ofNat (0x80+c%64)]
  else if c<0x10000 then [UInt8.ofNat (0xE0+c/4096),UInt8.ofNat (0x80+c/64%64),UInt8.ofNat (0x80+c%64)]
  else [UInt8.ofNat (0xF0+c/262144),UInt8.ofNat (0x80+c/4096%64),UInt8.ofNat (0x80+c/64%64),UInt8.ofNat (0x80+c%64)]:=by
 unfold enc Utf8.encode fix
 simp only[]
 split
 ·split
  ·rfl
  ·split
   ·rfl
   ·split<;>rfl
 ·rfl
theorem aM(s:Bs)(k:Nat)(h:k<s.length):1≤(dec s k).2∧k+(dec s k).2≤s.length:=by
 rw[fZ]
 refine⟨Lib.decodeN_ge1 _ _ _ _ _,?_⟩
 unfold Lib.decodeN
 repeat (first|split| (simp only[];omega))
theorem oD(s:Bs)(k:Nat)(b:UInt8)(h:s[k]? =some b)(ha:b.toNat<128):dec s k=(b.toNat,1):=by
 rw[fZ,List.getD_eq_getElem?_getD,h]
 exact Lib.decodeN_ascii _ _ _ _ _ ha
theorem q6(s:Bs)(k:Nat)(b:UInt8)(h:s[k]? =some b)(ha:128≤b.toNat):
  128≤(dec s k).1∧((dec s k).1<55296∨57343<(dec s k).1∧(dec s k).1≤1114111)∧∀i,i<(dec s k).2→∀c,s[k+i]? =some c→128≤c.toNat:=by
 have hb:s.getD k 0=b:=by rw[List.getD_eq_getElem?_getD,h];rfl
 have at_:∀i c,s[k+i]? =some c→s.getD (k+i) 0=c:=fun i c hc=>by rw[List.getD_eq_getElem?_getD,hc];rfl
 have l0:∀i,(s.getD i 0).toNat<256:=fun i=>(s.getD i 0).toNat_lt
 have e1:=l0 (k+1);have e2:=l0 (k+2);have e3:=l0 (k+3);have e0:=b.toNat_lt
 rw[fZ,hb]
 generalize h1:(s.getD (k+1) 0).toNat=b1 at*
 generalize h2:(s.getD (k+2) 0).toNat=b2 at*
 generalize h3:(s.getD (k+3) 0).toNat=b3 at*
 have key:∀i c,s[k+i]? =some c→(i=0→c.toNat=b.toNat)∧(i=1→c.toNat=b1)∧(i=2→c.toNat=b2)∧(i=3→c.toNat=b3):=fun i c hc=>by
  have:=at_ i c hc
  refine⟨fun e=>?_,fun e=>?_,fun e=>?_,fun e=>?_⟩<;>subst e
  ·rw[← this];simp only[Nat.add_zero];rw[hb]
  ·rw[← h1,this]
  ·rw[← h2,this]
  ·rw[← h3,this]
 generalize s.length-k=n
 have fin:∀x m:Nat,(128≤x∧(x<55296∨57343<x∧x≤1114111))→(∀i,i<m→(i=0∧128≤b.toNat)∨(i=1∧128≤b1)∨(i=2∧128≤b2)∨(i=3∧128≤b3))→
   128≤(x,m).1∧((x,m).1<55296∨57343<(x,m).1∧(x,m).1≤1114111)∧∀i,i<(x,m).2→∀c,s[k+i]? =some c→128≤c.toNat:=fun x m hx hm=>
  ⟨hx.1,hx.2,fun i hi c hc=>by
   obtain⟨k0,k1,k2,k3⟩:=key i c hc
   rcases hm i hi with⟨e,h⟩| ⟨e,h⟩| ⟨e,h⟩| ⟨e,h⟩
   ·rw[k0 e];exact h
   ·rw[k1 e];exact h
   ·rw[k2 e];exact h
   ·rw[k3 e];exact h⟩
 unfold Lib.decodeN
 rw[if_neg (by omega)]
 split
 ·split
  ·exact fin _ _ (by omega) (fun i hi=>by omega)
  ·exact fin _ _ (by omega) (fun i hi=>by omega)
 ·split
  ·split
   ·exact fin _ _ (by omega) (fun i hi=>by omega)
   ·exact fin _ _ (by omega) (fun i hi=>by omega)
  ·split
   ·split
    ·exact fin _ _ (by omega) (fun i hi=>by omega)
    ·exact fin _ _ (by omega) (fun i hi=>by omega)
   ·exact fin _ _ (by omega) (fun i hi=>by omega)
end Go.Av
namespace Go.Av
open Go Go.Proofs Go.RowKit
attribute [local irreducible] WP WPl WPix Sat
variable (G:Nat→Option (List AVal))
theorem jF{x:Int}(h0: -2147483648≤x)(h1:x≤2147483647):IntKind.i32.wrap x=x:=by
 simp only[IntKind.wrap,IntKind.bits,IntKind.signed];simp;omega
theorem jb(h j:Heap)(s:Bs)(q:Nat):(h++Blk.iter s q::j)[h.length]? =some (.iter s q):=by simp
end Go.Av
namespace Go.Av
open Go Go.Proofs Go.RowKit
theorem dG(s:Bs)(k:Nat):dec s k=dec (s.drop k) 0:=by
 rw[fZ,fZ]
 simp only[List.getD_eq_getElem?_getD,List.getElem?_drop,List.length_drop,Nat.add_zero,Nat.zero_add,Nat.sub_zero,Nat.add_assoc]
theorem kH(s:Bs)(k:Nat)(h:k<s.length):Rune (dec s k).1:=by
 have hb:=List.getElem?_eq_getElem h
 by_cases ha:s[k].toNat<128
 ·rw[oD s k _ hb ha];exact⟨by simp,by simp;omega⟩
 ·obtain⟨h1,h2,_⟩:=q6 s k _ hb (by omega)
  exact⟨by omega,by omega⟩
def runesN:Nat→Bs→List Int
 |0,_=>[]
 |f+1,s=>if s=[]then []else((dec s 0).1:Int)::runesN f (s.drop (dec s 0).2)
def runesF(s:Bs):List Int:=runesN s.length s
theorem lF:∀(f:Nat) (s:Bs),s.length≤f→runesN f s=runesN s.length s:=by
 intro f
 induction f using Nat.strongRecOn with
 |ind f ih=>
  intro s hs
  cases s with
  |nil=>cases f<;>rfl
  |cons b t=>
   obtain⟨f,rfl⟩:∃g,f=g+1:=⟨f-1,by simp at hs;omega⟩
   have hd:=aM (b::t) 0 (by simp)
   simp only[List.length_cons]at hs hd ⊢
   rw[runesN,runesN,if_neg (by simp),if_neg (by simp)]
   have hl:((b::t).drop (dec (b::t) 0).2).length≤t.length:=by simp only[List.length_drop,List.length_cons];omega
   rw[ih f (by omega) _ (by omega)]
   by_cases hf:t.length=f
   ·subst hf;rw[ih t.length (by omega) _ hl]
   ·rw[ih t.length (by omega) _ hl]
theorem iH:runesF []=[]:=rfl
theorem gF(s:Bs)(h:s≠ []):runesF s=((dec s 0).1:Int)::runesF (s.drop (dec s 0).2):=by
 have hl:0<s.length:=List.length_pos_iff.2 h
 have hd:=aM s 0 hl
 unfold runesF
 obtain⟨n,hn⟩:∃n,s.length=n+1:=⟨s.length-1,by omega⟩
 rw[hn,runesN,if_neg h,lF n _ (by simp only[List.length_drop];omega)]
theorem jG(s:Bs)(k:Nat)(h:k<s.length):runesF (s.drop k)=((dec s k).1:Int)::runesF (s.drop (k+(dec s k).2)):=by
 rw[gF _ (by intro e;have:=congrArg List.length e;simp at this;omega), ← dG,List.drop_drop]
theorem iI(s:Bs)(k:Nat)(h:s.length≤k):runesF (s.drop k)=[]:=by
 rw[List.drop_of_length_le h];rfl
theorem iJ:∀(n:Nat) (s:Bs),s.length≤n→(runesF s).length≤s.length:=by
 intro n
 induction n with
 |zero=>intro s h;have:s=[]:=List.length_eq_zero_iff.1 (by omega);subst this;simp[iH]
 |succ n ih=>
  intro s h
  by_cases h0:s=[]
  ·subst h0;simp[iH]
  ·have hd:=aM s 0 (List.length_pos_iff.2 h0)
   rw[gF s h0]
   have:=ih (s.drop (dec s 0).2) (by simp only[List.length_drop];omega)
   simp only[List.length_drop]at this
   simp only[List.length_cons];omega
def blankR(c:Int):Bool:=decide (c=9∨c=10∨c=13∨c=32∨c=160∨c=8232∨c=8233∨c=12288)
def ctlR(c:Int):Bool:=decide (c<32∨(127≤c∧c≤159))
def clnR:List Int→List Int→Bool→List Int
 | [],o,_=>o
 |c::t,o,w=>if blankR c then clnR t o (decide (0<o.length))else if ctlR c then clnR t o w else clnR t (o++(if w then [32,c]else [c])) false
def cleanR(s:Bs):List Int:=clnR (runesF s) [] false
def encs(l:List Int):Bs:=l.flatMap enc
def cleanF(s:Bs):Bs:=encs (cleanR s)
theorem rK(r:Int):1≤(enc r).length:=by
 rw[rJ];simp only[];repeat (first|split|simp)
theorem gW(l:List Int):(encs l).length≤4*l.length∧l.length≤(encs l).length:=by
 induction l with
 |nil=>simp[encs]
 |cons c t ih=>
  have h1:=fX c
  have h2:=rK c
  simp only[encs,List.flatMap_cons,List.length_append,List.length_cons]at ih ⊢;omega
theorem eN:∀(l o:List Int) (w:Bool),(clnR l o w).length≤o.length+2*l.length
 | [],o,w=>by simp[clnR]
 |c::t,o,w=>by
  rw[clnR]
  by_cases hb:blankR c=true
  ·rw[if_pos hb];have:=eN t o (decide (0<o.length));simp only[List.length_cons];omega
  ·rw[if_neg hb]
   by_cases hk:ctlR c=true
   ·rw[if_pos hk];have:=eN t o w;simp only[List.length_cons];omega
   ·rw[if_neg hk]
    have:=eN t (o++(if w then [32,c]else [c])) false
    have hw:(if w then [32,c]else [c]:List Int).length≤2:=by split<;>simp
    simp only[List.length_append,List.length_cons]at this ⊢
    omega
theorem nt(s:Bs):(cleanR s).length≤2*s.length:=by
 have h1:=eN (runesF s) [] false
 have h2:=iJ s.length s (Nat.le_refl _)
 simp only[List.length_nil]at h1
 unfold cleanR;omega
theorem nu(s:Bs):(cleanF s).length≤8*s.length:=by
 have h1:=nt s
 have h2:=gW (cleanR s)
 unfold cleanF;omega
def cutN:Nat→Bs→Nat→Nat
 |0,_,_=>0
 |f+1,s,n=>if s=[]then 0 else if n<(dec s 0).2 then 0 else(dec s 0).2+cutN f (s.drop (dec s 0).2) (n-(dec s 0).2)
def cutF(s:Bs)(n:Nat):Bs:=s.take (cutN s.length s n)
def rightN:Nat→Bs→Bool
 |0,_=>true
 |f+1,s=>if s=[]then true else if (dec s 0).1=65533∧(dec s 0).2=1 then false else rightN f (s.drop (dec s 0).2)
def rightS(s:Bs):Bool:=rightN s.length s
theorem lG:∀(f:Nat) (s:Bs),s.length≤f→rightN f s=rightN s.length s:=by
 intro f
 induction f using Nat.strongRecOn with
 |ind f ih=>
  intro s hs
  cases s with
  |nil=>cases f<;>rfl
  |cons b t=>
   obtain⟨f,rfl⟩:∃g,f=g+1:=⟨f-1,by simp at hs;omega⟩
   have hd:=aM (b::t) 0 (by simp)
   simp only[List.length_cons]at hs hd ⊢
   rw[rightN,rightN,if_neg (show ¬(b::t)=[] by simp),if_neg (show ¬(b::t)=[] by simp)]
   have hl:((b::t).drop (dec (b::t) 0).2).length≤t.length:=by simp only[List.length_drop,List.length_cons];omega
   rw[ih f (by omega) _ (by omega),ih t.length (by omega) _ hl]
theorem lH(s:Bs)(h:s≠ []):rightS s=if (dec s 0).1=65533∧(dec s 0).2=1 then false else rightS (s.drop (dec s 0).2):=by
 have hl:0<s.length:=List.length_pos_iff.2 h
 have hd:=aM s 0 hl
 unfold rightS
 obtain⟨n,hn⟩:∃n,s.length=n+1:=⟨s.length-1,by omega⟩
 rw[hn,rightN,if_neg h,lG n _ (by simp only[List.length_drop];omega)]
theorem oE(s:Bs)(k:Nat)(h:k<s.length):rightS (s.drop k)=if (dec s k).1=65533∧(dec s k).2=1 then false else rightS (s.drop (k+(dec s k).2)):=by
 rw[lH _ (by intro e;have:=congrArg List.length e;simp at this;omega), ← dG,List.drop_drop]
theorem lI(n b0 b1 b2 b3:Nat)(h1:b1<256)(h2:b2<256)(h0:b0<256)(h:(Lib.decodeN n b0 b1 b2 b3).1=65533):(Lib.decodeN n b0 b1 b2 b3).2=1↔¬(3≤n∧b0=239∧b1=191∧b2=189):=by
 unfold Lib.decodeN at*
 by_cases c1:b0<128
 ·rw[if_pos c1]at *;simp only[]at *;omega
 rw[if_neg c1]at*
 by_cases c2:(b0/32=6∧(1<n∧b1/64=2))
 ·rw[if_pos c2]at*
  by_cases c3:b0%32*64+b1%64≥128
  ·rw[if_pos c3]at *;simp only[]at *;omega
  ·rw[if_neg c3]at *;exact⟨fun _ hc=>by omega,fun _=>rfl⟩
 rw[if_neg c2]at*
 by_cases c4:b0/16=14∧(1<n∧b1/64=2)∧(2<n∧b2/64=2)
 ·rw[if_pos c4]at*
  by_cases c5:(b0%16*4096+b1%64*64+b2%64≥2048∧(b0%16*4096+b1%64*64+b2%64<55296∨(57344≤b0%16*4096+b1%64*64+b2%64∧b0%16*4096+b1%64*64+b2%64≤1114111)))
  ·rw[if_pos c5]at *;simp only[]at *;omega
  ·rw[if_neg c5]at *;exact⟨fun _ hc=>by omega,fun _=>rfl⟩
 rw[if_neg c4]at*
 by_cases c6:b0/8=30∧(1<n∧b1/64=2)∧(2<n∧b2/64=2)∧(3<n∧b3/64=2)
 ·rw[if_pos c6]at*
  by_cases c7:(b0%8*262144+b1%64*4096+b2%64*64+b3%64≥65536∧(b0%8*262144+b1%64*4096+b2%64*64+b3%64<55296∨(57344≤b0%8*262144+b1%64*4096+b2%64*64+b3%64∧b0%8*262144+b1%64*4096+b2%64*64+b3%64≤1114111)))
  ·rw[if_pos c7]at *;simp only[]at *;omega
  ·rw[if_neg c7]at *;exact⟨fun _ hc=>by omega,fun _=>rfl⟩
 ·rw[if_neg c6]at *;exact⟨fun _ hc=>by omega,fun _=>rfl⟩
theorem Af(u:Bs):Lib.hasPrefix u [239,191,189]=true↔(3≤u.length∧(u.getD 0 0).toNat=239∧(u.getD 1 0).toNat=191∧(u.getD 2 0).toNat=189):=by
 have key:∀(x:UInt8) (n:Nat),n<256→(x.toNat=n↔x=UInt8.ofNat n):=fun x n h=>by rw[← UInt8.toNat_inj,lE n h]
 match u with
 | []=>simp[Lib.hasPrefix]
 | [a]=>simp[Lib.hasPrefix]
 | [a,b]=>simp[Lib.hasPrefix]
 |a::b::c::t=>
  simp only[List.getD_cons_zero,List.getD_cons_succ,List.length_cons]
  rw[key a 239 (by omega),key b 191 (by omega),key c 189 (by omega)]
  unfold Lib.hasPrefix
  simp only[List.isPrefixOf,Bool.and_eq_true,beq_iff_eq]
  constructor
  ·rintro⟨rfl,rfl,rfl,_⟩;exact⟨by omega,rfl,rfl,rfl⟩
  ·rintro⟨_,rfl,rfl,rfl⟩;exact⟨rfl,rfl,rfl,trivial⟩
theorem q7(s:Bs)(k:Nat)(hd:(dec s k).1=65533):(dec s k).2=1↔Lib.hasPrefix (s.drop k) [239,191,189]=false:=by
 rw[dG]at*
 generalize s.drop k=u at*
 rw[← Bool.not_eq_true,Af]
 rw[fZ]at*
 exact lI _ _ _ _ _ (UInt8.toNat_lt _) (UInt8.toNat_lt _) (UInt8.toNat_lt _) hd
end Go.Av
namespace Go.Av
open Go Go.Proofs Go.RowKit
attribute [local irreducible] WP WPl WPix Sat
variable (G:Nat→Option (List AVal))
theorem nv(c:Int)(h:Heap):Sat (CT G) 126 [.int .i32 c] h (fun r h'=>r=.bool (blankR c)∧h'=h):=by
 have yes:(c=9∨c=10∨c=13∨c=32∨c=160∨c=8232∨c=8233∨c=12288)→blankR c=true:=fun h=>decide_eq_true h
 have no:¬(c=9∨c=10∨c=13∨c=32∨c=160∨c=8232∨c=8233∨c=12288)→blankR c=false:=fun h=>decide_eq_false h
 refine sb [.tmp 2] (fn:=Tryz.f126) Tryz.func126 ?_
 intro Q hQ
 refine wk trivial ?_
 refine cq trivial (fun c0=>?_) (fun c0=>?_)<;>(try exact c0.elim)<;>(refine wk trivial ?_)
 ·refine cq trivial (fun d=>?_) (fun d=>?_)<;>(try exact d.elim)<;>(refine wk trivial ?_)
  ·refine ee hQ trivial ?_
   refine fR (.bool _) ?_
   rw[yes (by omega)]
  ·exfalso;omega
 refine cq trivial (fun c1=>?_) (fun c1=>?_)<;>(try exact c1.elim)<;>(refine wk trivial ?_)
 ·refine cq trivial (fun d=>?_) (fun d=>?_)<;>(try exact d.elim)<;>(refine wk trivial ?_)
  ·refine ee hQ trivial ?_
   refine fR (.bool _) ?_
   rw[yes (by omega)]
  ·exfalso;omega
 refine cq trivial (fun c2=>?_) (fun c2=>?_)<;>(try exact c2.elim)<;>(refine wk trivial ?_)
 ·refine cq trivial (fun d=>?_) (fun d=>?_)<;>(try exact d.elim)<;>(refine wk trivial ?_)
  ·refine ee hQ trivial ?_
   refine fR (.bool _) ?_
   rw[yes (by omega)]
  ·exfalso;omega
 refine cq trivial (fun c3=>?_) (fun c3=>?_)<;>(try exact c3.elim)<;>(refine wk trivial ?_)
 ·refine cq trivial (fun d=>?_) (fun d=>?_)<;>(try exact d.elim)<;>(refine wk trivial ?_)
  ·refine ee hQ trivial ?_
   refine fR (.bool _) ?_
   rw[yes (by omega)]
  ·exfalso;omega
 refine cq trivial (fun c4=>?_) (fun c4=>?_)<;>(try exact c4.elim)<;>(refine wk trivial ?_)
 ·refine cq trivial (fun d=>?_) (fun d=>?_)<;>(try exact d.elim)<;>(refine wk trivial ?_)
  ·refine ee hQ trivial ?_
   refine fR (.bool _) ?_
   rw[yes (by omega)]
  ·exfalso;omega
 refine cq trivial (fun c5=>?_) (fun c5=>?_)<;>(try exact c5.elim)<;>(refine wk trivial ?_)
 ·refine cq trivial (fun d=>?_) (fun d=>?_)<;>(try exact d.elim)<;>(refine wk trivial ?_)
  ·refine ee hQ trivial ?_
   refine fR (.bool _) ?_
   rw[yes (by omega)]
  ·exfalso;omega
 refine cq trivial (fun c6=>?_) (fun c6=>?_)<;>(try exact c6.elim)<;>(refine wk trivial ?_)
 ·refine cq trivial (fun d=>?_) (fun d=>?_)<;>(try exact d.elim)<;>(refine wk trivial ?_)
  ·refine ee hQ trivial ?_
   refine fR (.bool _) ?_
   rw[yes (by omega)]
  ·exfalso;omega
 refine cq trivial (fun d=>?_) (fun d=>?_)<;>(try exact d.elim)<;>(refine wk trivial ?_)
 ·refine ee hQ trivial ?_
  refine fR (.bool _) ?_
  rw[yes (by omega)]
 ·refine ee hQ trivial ?_
  refine fR (.bool _) ?_
  rw[no (by omega)]
theorem kL(c:Int)(h:Heap):Sat (CT G) 128 [.int .i32 c] h (fun r h'=>r=.bool (ctlR c)∧h'=h):=by
 refine sb [.tmp 2] (fn:=Tryz.f128) Tryz.func128 ?_
 intro Q hQ
 refine wk trivial ?_
 (first|refine gq trivial (fun g1=>?_) (fun g1=>?_)|refine pq trivial (fun g1=>?_) (fun g1=>?_))<;>(try exact g1.elim)<;>(try refine sq trivial ?_)<;>(refine wk trivial ?_)
 ·refine ee hQ trivial ?_
  refine fR (.bool _) ?_
  rw[show ctlR c=true from decide_eq_true (.inl g1)]
 ·(first|refine gq trivial (fun g2=>?_) (fun g2=>?_)|refine pq trivial (fun g2=>?_) (fun g2=>?_))<;>(try exact g2.elim)<;>(try refine sq trivial ?_)<;>(refine wk trivial ?_)
  ·refine ee hQ trivial ?_
   refine fR (.bool _) ?_
   unfold ctlR
   congr 1
   rw[Bool.eq_iff_iff];simp;omega
  ·refine ee hQ trivial ?_
   refine fR (.bool _) ?_
   rw[show ctlR c=false from decide_eq_false (by omega)]
theorem kM(h j:Heap)(a:AVal)(v:Nat)(o s:Bs)(q:Nat):(bldH h (Blk.iter s q::j) a v o)[h.length+2]? =some (.iter s q):=by
 unfold bldH;rw[List.getElem?_append_right (by omega),show h.length+2-h.length=2 by omega];rfl
theorem kN(h j:Heap)(a:AVal)(v:Nat)(o:Bs)(x y:Blk):(bldH h (x::j) a v o).set (h.length+2) y=bldH h (y::j) a v o:=by
 unfold bldH;rw[List.set_append_right _ _ (by omega),show h.length+2-h.length=2 by omega];rfl
theorem db(s:Bs)(hs:s.length≤100000000)(h:Heap):Sat (CT G) 76 [.str s] h (fun r h'=>r=.str (cleanF s)∧h'=h):=by
 have F:= @kN
 refine sb [.tmp 2] (fn:=Tryz.f76) Tryz.func76 ?_
 intro Q hQ
 (repeat (first|refine w1 (fun K hK=>?_)|refine w2 ?_|refine w3 ?_| ((first|refine w4 ?_|refine wD ?_|refine w5 ?_|refine w6 ?_|refine w7 ?_);try refine sq F ?_)| (refine w8 ?_;refine sq F ?_;refine w9 ?_)))
 refine hK _ _ (Wkn.refl ?_)
 clear hK K
 (repeat (first|refine w1 (fun K hK=>?_)|refine w2 ?_|refine w3 ?_| ((first|refine w4 ?_|refine wD ?_|refine w5 ?_|refine w6 ?_|refine w7 ?_);try refine sq F ?_)| (refine w8 ?_;refine sq F ?_;refine w9 ?_)))
 refine hK _ _ ⟨_,_,Weak.virtCell (p:=h.length) (v:=0) 5 1 (by omega) (by simp(disch:=first|omega| (simp only[go_sem, ↓reduceIte,seval];first|done|omega)|fail) only[go_sem, ↓reduceIte,seval,F];rfl) 1 rfl,?_⟩
 clear hK K
 refine wk F ?_
 refine lm (fun nL tL hL=>∃(a:AVal) (v k:Nat) (out:List Int) (w:Bool),s.length-k=nL∧bldH h [.iter s k] a v (encs out)=hL∧tL 4=.bool w∧bldA a h.length∧k≤s.length∧clnR (runesF (s.drop k)) out w=cleanR s∧(encs out).length+8*(s.length-k)≤8*s.length) ((fun(a:AVal) (v k:Nat) (out:List Int) (w:Bool)=>(s.length-k:Nat)) ((.nil (.pointer none))) (0) (0) ([]) (false)) ?_ ?_
 ·refine Wkn.refl ⟨(.nil (.pointer none)),0,0,[],false,rfl,by simp[bldH,bldR,bufR,encs],?_,.inl rfl,by omega,rfl,by simp[encs]⟩
  all_goals first|exact zq F|rfl|omega|trivial|skip
 rintro _ s2 h' ⟨a,v,k,out,w,rfl,rfl,e4,ha,hk,hv,hl⟩ K2 hK2
 simp only[am,ao,Nat.reduceEqDiff, ↓reduceIte]at e4
 have F:=F2 F e4
 refine wk F ?_
 refine du (kM _ _ _ _ _ _ _) (fun hlt=>?_) (fun hge=>?_)
 ·have hR:=kH s k hlt
  have hp:=aM s k hlt
  rw[jG s k hlt,clnR]at hv
  rw[show Utf8.decode ⟨s.toArray⟩ k=dec s k from rfl]
  generalize dec s k=d at*
  obtain⟨c,m⟩:=d
  simp only[]at hR hp hv ⊢
  try refine sq F ?_
  refine wk F ?_
  refine kq F (nv G c _) ?_
  refine cq F (fun c1=>?_) (fun c1=>?_)<;>(try exact c1.elim)<;>(refine wk F ?_)
  ·rw[if_pos c1]at hv
   refine kq F (rI G a h [.iter s (k+m)] v (encs out)) ?_
   have ho:decide (((encs out).length:Int)>0)=decide (0<out.length):=by
    have:=gW out
    rw[Bool.eq_iff_iff];simp only[decide_eq_true_eq];omega
   have F:=F2 F ho
   try refine sq F ?_
   refine hK2 _ _ _ (Wkn.refl ⟨a,v,k+m,out,decide (0<out.length),rfl,aY,?_,ha,by omega,hv,by omega⟩) (by omega)
   all_goals first|exact zq F|rfl|omega|trivial|skip
  ·rw[if_neg (by simp[c1])]at hv
   refine kq F (kL G c _) ?_
   refine cq F (fun c2=>?_) (fun c2=>?_)<;>(try exact c2.elim)<;>(refine wk F ?_)
   ·rw[if_pos c2]at hv
    refine hK2 _ _ _ (Wkn.refl ⟨a,v,k+m,out,w,rfl,aY,?_,ha,by omega,hv,by omega⟩) (by omega)
    all_goals first|exact zq F|rfl|omega|trivial|skip
   ·rw[if_neg (by simp[c2])]at hv
    have he:=fX c
    have e1:encs (out++[32,(c:Int)])=encs out++[32]++enc c:=by
     simp only[encs,List.flatMap_append,List.flatMap_cons,List.flatMap_nil,List.append_nil,List.append_assoc];rfl
    have e2:encs (out++[(c:Int)])=encs out++enc c:=by
     simp only[encs,List.flatMap_append,List.flatMap_cons,List.flatMap_nil,List.append_nil]
    refine cq F (fun c3=>?_) (fun c3=>?_)<;>(try exact c3.elim)<;>(refine wk F ?_)
    ·rw[if_pos c3]at hv
     refine kq F (jT G a h [.iter s (k+m)] v (encs out) 32 ha (by omega)) ?_
     refine kq F (cV G (.hp h.length 0 0 0) c hR h [.iter s (k+m)] (v+1) (encs out++[32]) (.inr rfl) (by simp only[List.length_append,List.length_cons,List.length_nil];omega)) ?_
     refine hK2 _ _ _ (Wkn.refl ⟨(.hp h.length 0 0 0),v+1+1,k+m,out++[32,(c:Int)],false,rfl,by rw[e1];simp,?_,.inr rfl,by omega,hv,by rw[e1];simp only[List.length_append,List.length_cons,List.length_nil];omega⟩) (by omega)
     all_goals first|exact zq F|rfl|omega|trivial|skip
    ·rw[if_neg (by simp[c3])]at hv
     refine kq F (cV G a c hR h [.iter s (k+m)] v (encs out) ha (by omega)) ?_
     refine hK2 _ _ _ (Wkn.refl ⟨(.hp h.length 0 0 0),v+1,k+m,out++[(c:Int)],false,rfl,by rw[e2],?_,.inr rfl,by omega,hv,by rw[e2];simp only[List.length_append];omega⟩) (by omega)
     all_goals first|exact zq F|rfl|omega|trivial|skip
 ·rw[iI s k (by omega)]at hv
  try refine sq F ?_
  refine wk F ?_
  refine(iF G a h [.iter s k] v (encs out)).mono ?_
  rintro r h' ⟨rfl,b2,rfl⟩
  try refine sq F ?_
  refine wk F ?_
  refine ee hQ F ?_
  exact Fin.plainE (j:=[bldR a (h.length+1) v (encs out),b2,.iter s k]) (by simp) (.str _) ⟨congrArg AVal.str (by unfold cleanF;rw[← hv];rfl),rfl⟩
theorem oF:∀(f:Nat) (s:Bs) (n:Nat),s.length≤f→cutN f s n=cutN s.length s n:=by
 intro f
 induction f using Nat.strongRecOn with
 |ind f ih=>
  intro s n hs
  cases s with
  |nil=>cases f<;>rfl
  |cons b t=>
   obtain⟨f,rfl⟩:∃g,f=g+1:=⟨f-1,by simp at hs;omega⟩
   have hd:=aM (b::t) 0 (by simp)
   simp only[List.length_cons]at hs hd ⊢
   have hl:((b::t).drop (dec (b::t) 0).2).length≤t.length:=by simp only[List.length_drop,List.length_cons];omega
   rw[cutN,cutN,if_neg (show ¬(b::t)=[] by simp),if_neg (show ¬(b::t)=[] by simp),ih f (by omega) _ _ (by omega),ih t.length (by omega) _ _ hl]
def cutA(s:Bs)(k n:Nat):Nat:=cutN (s.drop k).length (s.drop k) n
theorem eO(s:Bs)(k n:Nat)(h:s.length≤k):cutA s k n=0:=by unfold cutA;rw[List.drop_of_length_le h];rfl
theorem jc(s:Bs)(k n:Nat)(h:k<s.length):cutA s k n=if n<(dec s k).2 then 0 else(dec s k).2+cutA s (k+(dec s k).2) (n-(dec s k).2):=by
 have hd:=aM s k h
 have hl:(s.drop k).length=(s.length-k-1)+1:=by rw[List.length_drop];omega
 unfold cutA
 rw[hl,cutN,if_neg (by intro e;rw[e]at hl;simp at hl), ← dG,List.drop_drop,oF (s.length-k-1) _ _ (by simp only[List.length_drop];omega)]
theorem rL(s:Bs):∀(f k n:Nat),s.length≤k+f→cutA s k n≤n∧cutA s k n≤s.length-k:=by
 intro f
 induction f with
 |zero=>intro k n h;rw[eO s k n (by omega)];omega
 |succ f ih=>
  intro k n h
  rcases Nat.lt_or_ge k s.length with h1|h1
  ·have hd:=aM s k h1
   rw[jc s k n h1]
   split
   ·omega
   ·have:=ih (k+(dec s k).2) (n-(dec s k).2) (by omega)
    omega
  ·rw[eO s k n h1];omega
theorem q8(s:Bs):∀(f k n:Nat),s.length≤k+f→s.length-k≤n→cutA s k n=s.length-k:=by
 intro f
 induction f with
 |zero=>intro k n h _;rw[eO s k n (by omega)];omega
 |succ f ih=>
  intro k n h hn
  rcases Nat.lt_or_ge k s.length with h1|h1
  ·have hd:=aM s k h1
   rw[jc s k n h1,if_neg (by omega),ih _ _ (by omega) (by omega)];omega
  ·rw[eO s k n h1];omega
theorem q9(s:Bs)(n:Nat)(hs:s.length≤1073741824)(hn:n≤1073741824)(h:Heap):Sat (CT G) 163 [.str s,.int .i64 n] h (fun r h'=>r=.str (cutF s n)∧h'=h):=by
 skip
 refine sb [.tmp 4] (fn:=Tryz.f163) Tryz.func163 ?_
 intro Q hQ
 (repeat (first|refine w1 (fun K hK=>?_)|refine w2 ?_|refine w3 ?_| ((first|refine w4 ?_|refine wD ?_|refine w5 ?_|refine w6 ?_|refine w7 ?_);try refine sq trivial ?_)| (refine w8 ?_;refine sq trivial ?_;refine w9 ?_)| ((first|refine hK _ _ (w0 ?_)| (clear hK K;refine hK _ _ (w0 ?_))| (clear hK K;clear hK K;refine hK _ _ (w0 ?_)));clear hK K)))
 have tail:∀(t':Env) (e pos:Nat),t' 0=.str s→t' 1=.int .i64 n→t' 5=.int .i64 e→e≤s.length→(n<s.length→e=cutN s.length s n)→K t' (h++[.iter s pos]):=by
  intro t' e pos e0 e1 e5 he hx
  refine hK _ _ (Wkn.refl ?_)
  clear hK K
  have F:=F3 e0 e1 e5
  (repeat (first|refine w1 (fun K hK=>?_)|refine w2 ?_|refine w3 ?_| ((first|refine w4 ?_|refine wD ?_|refine w5 ?_|refine w6 ?_|refine w7 ?_);try refine sq F ?_)| (refine w8 ?_;refine sq F ?_;refine w9 ?_)| ((first|refine hK _ _ (w0 ?_)| (clear hK K;refine hK _ _ (w0 ?_))| (clear hK K;clear hK K;refine hK _ _ (w0 ?_)));clear hK K)))
  refine cq F (fun c1=>?_) (fun c1=>?_)<;>(try exact c1.elim)<;>((repeat (first|refine w1 (fun K hK=>?_)|refine w2 ?_|refine w3 ?_| ((first|refine w4 ?_|refine wD ?_|refine w5 ?_|refine w6 ?_|refine w7 ?_);try refine sq F ?_)| (refine w8 ?_;refine sq F ?_;refine w9 ?_)| ((first|refine hK _ _ (w0 ?_)| (clear hK K;refine hK _ _ (w0 ?_))| (clear hK K;clear hK K;refine hK _ _ (w0 ?_)));clear hK K))))
  ·refine ee hQ F ?_
   refine fR (.str _) ?_
   have:=q8 s s.length 0 n (by omega) (by omega)
   unfold cutA at this;simp only[List.drop_zero]at this
   unfold cutF;rw[this];simp
  ·refine ee hQ F ?_
   refine fR (.str _) ?_
   unfold cutF;rw[hx (by omega)]
 refine lm (fun nL tL hL=>∃(en k:Nat),s.length-k=nL∧h++[.iter s k]=hL∧tL 5=.int .i64 en∧k≤s.length∧en≤k∧(k≤n→k+cutA s k (n-k)=cutN s.length s n)∧(n<k→en=cutN s.length s n)) ((fun(en k:Nat)=>(s.length-k:Nat)) (0) (0)) ?_ ?_
 ·refine Wkn.refl ⟨0,0,rfl,aY,?_,by omega,by omega,fun _=>by unfold cutA;simp,fun h=>by omega⟩
  all_goals first|exact zq trivial|rfl|omega|trivial|skip
 rintro _ s2 h' ⟨en,k,rfl,rfl,e5,hk,he,hc,hc2⟩ K2 hK2
 simp only[am,ao,Nat.reduceEqDiff, ↓reduceIte]at e5
 have F:=e5
 (repeat (first|refine w1 (fun K hK=>?_)|refine w2 ?_|refine w3 ?_| ((first|refine w4 ?_|refine wD ?_|refine w5 ?_|refine w6 ?_|refine w7 ?_);try refine sq F ?_)| (refine w8 ?_;refine sq F ?_;refine w9 ?_)| ((first|refine hK _ _ (w0 ?_)| (clear hK K;refine hK _ _ (w0 ?_))| (clear hK K;clear hK K;refine hK _ _ (w0 ?_)));clear hK K)))
 refine du (jb _ _ _ _) (fun hlt=>?_) (fun hge=>?_)
 ·have hp:=aM s k hlt
  have hca:=jc s k (n-k) hlt
  rw[show Utf8.decode ⟨s.toArray⟩ k=dec s k from rfl]
  generalize dec s k=d at*
  obtain⟨c,m⟩:=d
  simp only[]at hp hca ⊢
  try refine sq F ?_
  (repeat (first|refine w1 (fun K hK=>?_)|refine w2 ?_|refine w3 ?_| ((first|refine w4 ?_|refine wD ?_|refine w5 ?_|refine w6 ?_|refine w7 ?_);try refine sq F ?_)| (refine w8 ?_;refine sq F ?_;refine w9 ?_)| ((first|refine hK _ _ (w0 ?_)| (clear hK K;refine hK _ _ (w0 ?_))| (clear hK K;clear hK K;refine hK _ _ (w0 ?_)));clear hK K)))
  refine cq F (fun c1=>?_) (fun c1=>?_)<;>(try exact c1.elim)<;>((repeat (first|refine w1 (fun K hK=>?_)|refine w2 ?_|refine w3 ?_| ((first|refine w4 ?_|refine wD ?_|refine w5 ?_|refine w6 ?_|refine w7 ?_);try refine sq F ?_)| (refine w8 ?_;refine sq F ?_;refine w9 ?_)| ((first|refine hK _ _ (w0 ?_)| (clear hK K;refine hK _ _ (w0 ?_))| (clear hK K;clear hK K;refine hK _ _ (w0 ?_)));clear hK K))))
  ·refine tail _ en (k+m) ?_ ?_ ?_ (by omega) (fun _=>hc2 (by omega))
   ·exact zq F
   ·exact zq F
   ·exact zq F
  ·have hc':=hc (by omega)
   rw[hca]at hc'
   refine hK2 _ _ _ (Wkn.refl ⟨k,k+m,rfl,aY,?_,by omega,by omega,fun hle=>by rw[if_neg (by omega)]at hc';rw[← hc',show n-(k+m)=n-k-m by omega];omega,fun hgt=>by rw[if_pos (by omega)]at hc';omega⟩) (by omega)
   all_goals first|exact zq F|rfl|omega|trivial|skip
 ·try refine sq F ?_
  (repeat (first|refine w1 (fun K hK=>?_)|refine w2 ?_|refine w3 ?_| ((first|refine w4 ?_|refine wD ?_|refine w5 ?_|refine w6 ?_|refine w7 ?_);try refine sq F ?_)| (refine w8 ?_;refine sq F ?_;refine w9 ?_)| ((first|refine hK _ _ (w0 ?_)| (clear hK K;refine hK _ _ (w0 ?_))| (clear hK K;clear hK K;refine hK _ _ (w0 ?_)));clear hK K)))
  refine tail _ en k ?_ ?_ ?_ (by omega) (fun _=>hc2 (by omega))
  ·exact zq F
  ·exact zq F
  ·exact zq F
theorem iK(s:Bs)(hs:s.length≤1073741824)(h:Heap):Sat (CT G) 75 [.str s] h (fun r h'=>r=.bool (rightS s)∧h'=h):=by
 refine sb [.tmp 2] (fn:=Tryz.f75) Tryz.func75 ?_
 intro Q hQ
 refine wk trivial ?_
 refine lm (fun nL tL hL=>∃(k:Nat),s.length-k=nL∧h++[.iter s k]=hL∧k≤s.length∧rightS (s.drop k)=rightS s) ((fun(k:Nat)=>(s.length-k:Nat)) (0)) ?_ ?_
 ·refine Wkn.refl ⟨0,rfl,aY,by omega,rfl⟩
  all_goals first|exact zq trivial|rfl|omega|trivial|skip
 rintro _ s2 h' ⟨k,rfl,rfl,hk,hc⟩ K2 hK2
 refine wk trivial ?_
 refine du (jb _ _ _ _) (fun hlt=>?_) (fun hge=>?_)
 ·have hp:=aM s k hlt
  have hca:=oE s k hlt
  have h3:=q7 s k
  rw[hc]at hca
  rw[show Utf8.decode ⟨s.toArray⟩ k=dec s k from rfl]
  generalize dec s k=d at*
  obtain⟨c,m⟩:=d
  simp only[]at hp hca h3 ⊢
  try refine sq trivial ?_
  refine wk trivial ?_
  (first|refine gq trivial (fun g1=>?_) (fun g1=>?_)|refine pq trivial (fun g1=>?_) (fun g1=>?_))<;>(try exact g1.elim)<;>(try refine sq trivial ?_)<;>(refine wk trivial ?_)
  ·have g0:c=65533:=by omega
   have h4:=h3 g0
   refine kq trivial (eW G (s.drop k) [239,191,189] _) ?_
   refine cq trivial (fun g2=>?_) (fun g2=>?_)<;>(try exact g2.elim)<;>(refine wk trivial ?_)
   ·refine ee hQ trivial ?_
    refine fR (.bool _) ?_
    rw[hca,if_pos ⟨g0,h4.2 (by simpa using g2)⟩]
   ·refine hK2 _ _ _ (Wkn.refl ⟨k+m,rfl,aY,by omega,by rw[hca,if_neg];rintro⟨_,h5⟩;have:=h4.1 h5;rw[this]at g2;cases g2⟩) (by omega)
    all_goals first|exact zq trivial|rfl|omega|trivial|skip
  ·refine hK2 _ _ _ (Wkn.refl ⟨k+m,rfl,aY,by omega,by rw[hca,if_neg];rintro⟨h5,_⟩;exact g1 (by omega)⟩) (by omega)
   all_goals first|exact zq trivial|rfl|omega|trivial|skip
 ·rw[List.drop_of_length_le (by omega)]at hc
  try refine sq trivial ?_
  refine wk trivial ?_
  refine ee hQ trivial ?_
  refine fR (.bool _) ?_
  rw[← hc];rfl
end Go.Av
namespace Go.Av
open Go Go.Proofs Go.RowKit
attribute [local irreducible] WP WPl WPix Sat
variable (G:Nat→Option (List AVal))
def shortAt(s:List UInt8):Nat→List UInt8
 |0=>s
 |k+1=>if s[k]? =some 58 then s.drop (k+1)else shortAt s k
def short(s:List UInt8):List UInt8:=shortAt s s.length
theorem rM{b:UInt8}{k:Nat}(hk:k<256):((b.toNat:Int)=(k:Nat))↔b=UInt8.ofNat k:=by
 constructor
 ·intro h
  have:b.toNat=k:=by omega
  rw[← this];simp
 ·rintro rfl;simp[Nat.mod_eq_of_lt hk]
end Go.Av
namespace Go.Av
open Go Go.Proofs Go.RowKit
attribute [local irreducible] WP WPl WPix Sat
variable (G:Nat→Option (List AVal))
def attrF:List At→Bs→Bs×Bool
 | [],_=>([],false)
 |a::l,n=>if a.1=n then(a.2,true)else attrF l n
end Go.Av
namespace Go.Av
open Go Go.Proofs Go.RowKit
attribute [local irreducible] WP WPl WPix Sat
variable (G:Nat→Option (List AVal))
mutual
def deep:Elem→Nat→Nat
 | .mk _ _ _ k,d=>if 40≤d then 40 else deepL k d d
def deepL:List Elem→Nat→Nat→Nat
 | [],_,n=>n
 |k::l,d,n=>deepL l d (if n<deep k (d+1)then deep k (d+1)else n)
end
end Go.Av
namespace Go.Av
open Go Go.Proofs Go.RowKit
attribute [local irreducible] WP WPl WPix Sat
variable (G:Nat→Option (List AVal))
theorem qe{h0 h1 pre post:Heap}{e n v q:Nat}{rows:List AVal}(hh:h1=pre++ .row e n v rows::post)(hq:q=pre.length)(hp:h0.length≤q)(hc:∀r∈rows,Clo h0.length r)(hs:∀r∈rows,∀c∈r.cells,c.sto=true):
  Frz h1 h0.length (.hs q v 0 rows.length true) (.sl n rows):=by
 subst hh;subst hq
 have:=Frz.hs (h:=pre++ .row e n v rows::post) (n:=h0.length) pre.length v 0 rows.length true e n rows rows hp (by simp[getRow]) (by simp) rfl
   (fun i r s hr hs'=>by rw[hr]at hs';cases hs';exact .clo _ (hc r (List.mem_of_getElem? hr)))
   (fun i r s hr hs'=>by rw[hr]at hs';cases hs';exact⟨rfl,fun j c d hj hd=>hs r (List.mem_of_getElem? hr) d (List.mem_of_getElem? hd)⟩)
   (fun i r s j c d hr hs' hj hd=>by rw[hr]at hs';cases hs';rw[hj]at hd;cases hd;exact .clo _ ((hc r (List.mem_of_getElem? hr)).cells c (List.mem_of_getElem? hj)))
 simpa using this
theorem Elem.av_sto(e:Elem):∀c∈e.av.cells,c.sto=true:=by
 rw[Elem.av_cells];intro c hc;simp only[List.mem_cons,List.mem_nil_iff,or_false]at hc;rcases hc with rfl|rfl|rfl|rfl<;>rfl
theorem oG{h0 h1 pre post:Heap}{e v q:Nat}(l:List Elem)(hh:h1=pre++ .row e 4 v (l.map Elem.av)::post)(hq:q=pre.length)(hp:h0.length≤q):Frz h1 h0.length (.hs q v 0 l.length true) (.sl 4 (l.map Elem.av)):=by
 have:=qe (h0:=h0) hh hq hp (fun r hr=>by obtain⟨a,_,rfl⟩:=List.mem_map.1 hr;exact Elem.clo _ a) (fun r hr=>by obtain⟨a,_,rfl⟩:=List.mem_map.1 hr;exact a.av_sto)
 simpa using this
def kidsF(e:Elem)(n:Bs):List Elem:=e.kids.filter fun k=>decide (short k.name=n)
end Go.Av
namespace Go.Av
open Go Go.Proofs Go.RowKit
inductive Outl where
 |mk (title url:Bs) (kids:List Outl)
 deriving Inhabited
namespace Outl
def title:Outl→Bs| .mk t _ _=>t
def url:Outl→Bs| .mk _ u _=>u
def kids:Outl→List Outl| .mk _ _ k=>k
end Outl
mutual
def Outl.av:Outl→AVal
 | .mk t u k=>.agg [.str t,.str u,.sl 3 (ovs k)]
def ovs:List Outl→List AVal
 | []=>[]
 |e::l=>e.av::ovs l
end
mutual
def Outl.sz:Outl→Nat
 | .mk t u k=>1+t.length+u.length+okidsz k
def okidsz:List Outl→Nat
 | []=>0
 |e::l=>e.sz+okidsz l
end
end Go.Av
namespace Go.Av
open Go Go.Proofs Go.RowKit
attribute [local irreducible] WP WPl WPix Sat
variable (G:Nat→Option (List AVal))
end Go.Av
namespace Go.Av
open Go.RowKit
section
variable {C:Ctx} {t:Env} {h:Heap}
def detGo(md:Region.Mode)(ops:Array Oper):Nat→Array Bool→Option (List Nat)
 |0,_=>some []
 |f+1,L=>match Region.ready md ops L with
  | [i]=>(detGo md ops f (L.setIfInBounds i true)).map (i:: ·)
  |_=>none
theorem kO{ops:Array Oper}{Q:Exit→Env→Heap→Prop}{md:Region.Mode}:∀(f:Nat) (L:Array Bool) (idx:List Nat) (sub:List Oper) (t:Env) (h:Heap),detGo md ops f L=some idx→idx.map (fun i=>ops[i]?)=sub.map some→
  WPl C ops Q sub t h→RestM C ops Q md f L t h:=by
 intro f
 induction f with
 |zero=>
  intro L idx sub t h hd hs g n
  simp only[detGo,Option.some.injEq]at hd
  subst hd
  have:sub=[]:=by simpa using hs.symm
  subst this
  simp only[Region.linearise.go,List.reverse_nil,WPix]
  exact g
 |succ f ih=>
  intro L idx sub t h hd hs g n
  simp only[detGo]at hd
  split at hd
  ·rename_i i hr
   obtain⟨idx',hd',rfl⟩:=Option.map_eq_some_iff.1 hd
   cases sub with
   |nil=>simp at hs
   |cons o sub=>
    simp only[List.map_cons,List.cons.injEq]at hs
    have hi:(Region.ready md ops L)[n%(Region.ready md ops L).length]? =some i:=by
     rw[hr,List.length_singleton,Nat.mod_one];rfl
    rw[bN md ops f n L hi]
    simp only[WPix,hs.1]
    simp only[WPl]at g
    exact cD g fun t' h' g'=>ih _ idx' sub t' h' hd' hs.2 g' _
  ·cases hd
theorem kP{l:List Oper}{k n:Nat}(h:k+n≤l.length):(List.range' k n).map (fun i=>l.toArray[i]?)=((l.drop k).take n).map some:=by
 refine List.ext_getElem? fun i=>?_
 simp only[List.getElem?_map]
 by_cases hi:i<n
 ·rw[List.getElem?_take_of_lt hi,List.getElem?_drop,List.getElem?_range' (by omega)]
  simp only[Option.map_some,List.getElem?_toArray]
  have:k+i<l.length:=by omega
  simp[List.getElem?_eq_getElem this]
 ·rw[List.getElem?_eq_none (by simp;omega),List.getElem?_eq_none (by simp;omega)];rfl
inductive OT where
 |nil
 |one (i:Nat) (s:OT)
 |two (i:Nat) (s:OT) (j:Nat) (u:OT)
def OT.ok(ops:Array Oper):Nat→Array Bool→OT→Bool
 |0,_,.nil=>true
 |f+1,L,.one i s=>Region.ready .any ops L==[i]&&OT.ok ops f (L.setIfInBounds i true) s
 |f+1,L,.two i s j u=>Region.ready .any ops L==[i,j]&&(OT.ok ops f (L.setIfInBounds i true) s&&OT.ok ops f (L.setIfInBounds j true) u)
 |_,_,_=>false
def WPt(C:Ctx)(ops:Array Oper)(Q:Exit→Env→Heap→Prop):OT→Env→Heap→Prop
 | .nil,t,h=>Q .normal t h
 | .one i s,t,h=>WPl C ops (fun _ t' h'=>WPt C ops Q s t' h') (ops[i]?).toList t h
 | .two i s j u,t,h=>WPl C ops (fun _ t' h'=>WPt C ops Q s t' h') (ops[i]?).toList t h∧WPl C ops (fun _ t' h'=>WPt C ops Q u t' h') (ops[j]?).toList t h
theorem OT.sound{ops:Array Oper}{Q:Exit→Env→Heap→Prop}:∀(f:Nat) (L:Array Bool) (tr:OT) (t:Env) (h:Heap),OT.ok ops f L tr=true→WPt C ops Q tr t h→RestM C ops Q .any f L t h:=by
 intro f
 induction f with
 |zero=>
  intro L tr t h ho g n
  cases tr with
  |nil=>simp only[Region.linearise.go,List.reverse_nil,WPix];exact g
  |_=>simp[OT.ok]at ho
 |succ f ih=>
  intro L tr t h ho g n
  have step:∀(i:Nat) (s:OT),(Region.ready .any ops L)[n%(Region.ready .any ops L).length]? =some i→OT.ok ops f (L.setIfInBounds i true) s=true→WPl C ops (fun _ t' h'=>WPt C ops Q s t' h') (ops[i]?).toList t h→
    WPix C ops Q (Region.linearise.go .any ops (f+1) n L []) t h:=fun i s hi hs hg=>by
   rw[bN .any ops f n L hi]
   simp only[WPix]
   have hmem:=List.mem_of_getElem? hi
   obtain⟨_,o,ho,_⟩:=mem_ready.1 hmem
   simp only[ho,Option.toList]at hg ⊢
   simp only[WPl]at hg
   exact cD hg fun t' h' g'=>ih _ s t' h' hs g' _
  cases tr with
  |nil=>simp[OT.ok]at ho
  |one i s=>
   simp only[OT.ok,Bool.and_eq_true,beq_iff_eq]at ho
   exact step i s (by rw[ho.1,List.length_singleton,Nat.mod_one];rfl) ho.2 g
  |two i s j u=>
   simp only[OT.ok,Bool.and_eq_true,beq_iff_eq]at ho
   have hn:n%2=0∨n%2=1:=by omega
   rcases hn with hn|hn
   ·exact step i s (by rw[ho.1];show [i,j][n%2]? =_;rw[hn];rfl) ho.2.1 g.1
   ·exact step j u (by rw[ho.1];show [i,j][n%2]? =_;rw[hn];rfl) ho.2.2 g.2
theorem gX{id:Nat}{l:List Oper}{Q:Exit→Env→Heap→Prop}(k:Nat)(tr:OT)(hok:(preOk l.toArray k&&decide (k≤l.length))=true)(hm:C.P.follows .mixedOrders=true)
  (hT:OT.ok l.toArray (l.length-k) (listK l.length k) tr=true)
  (hh:WPp C l.toArray (l.take k) t h fun t'=>WPt C l.toArray Q tr t' h):WP C (.region id l.toArray true) Q t h:=by
 simp only[Bool.and_eq_true,decide_eq_true_eq]at hok
 have D:=d9 hok.1
 obtain⟨V,hv,hK⟩:=bA _ _ hh
 have hlen:(l.take k).length=k:=by simp;omega
 rw[hlen]at hK
 have rT:=OT.sound (ops:=l.toArray) (Q:=Q) _ _ tr _ h hT hK
 have main:∀n,WPix C l.toArray Q (Region.linearise .any l.toArray n) t h:=fun n=>by
  unfold Region.linearise
  refine da D .any D.less (by simp;omega) (V:=V) (t0:=t) (fun _=>True) (fun i o hi _=>hv i o hi) (by simpa using rT) _ _ _ _ (by simp) ?_ (fun j oj hj hl=>?_) (fun j hj hl=>?_) (fun _ _ _=>trivial) (Ag.start _ _ _ _ fun j hj=>?_)
  ·unfold left
   have:(List.range l.toArray.size).filter (fun i=> !(Array.replicate l.toArray.size false).getD i true)=List.range l.toArray.size:=by
    rw[List.filter_eq_self]
    intro i hi
    have:=List.mem_range.1 hi
    simp at this ⊢
    simp[this]
   rw[this,List.length_range]
  ·have h8:=(Array.getElem?_eq_some_iff.1 hj).1
   simp at h8 hl
   simp[h8]at hl
  ·simp at hj hl
   simp[hj]at hl
  ·have:j<l.length:=by omega
   simp[this]
 show ∀tp,WPix C l.toArray Q (Region.schedule (C.P.follows .mixedOrders) l.toArray tp) t h
 intro tp
 unfold Region.schedule
 rw[hm]
 simp only[Bool.true_or,if_true]
 exact main _
def agrL:List Nat→Env→Env→Prop
 | [],_,_=>True
 |d::ds,s,t=>s d=t d∧agrL ds s t
theorem gY:∀{ds:List Nat} {s t:Env},agrL ds s t→∀d∈ds,s d=t d
 | [],_,_,_,d,h=>by cases h
 |e::ds,s,t,g,d,h=>by
  rcases List.mem_cons.1 h with rfl|h
  ·exact g.1
  ·exact gY g.2 d h
theorem jd{d:Nat}:∀{l:List Oper} {i:Nat} {o:Oper},l[i]? =some o→o.dst=some d→d∈wrOps l
 | [],i,o,h,_=>by simp at h
 |a::l,0,o,h,hd=>by simp at h;subst h;unfold wrOps;rw[hd];simp
 |a::l,i+1,o,h,hd=>by
  have:=jd (l:=l) (i:=i) (o:=o) (by simpa using h) hd
  unfold wrOps;split<;>simp[this]
theorem aX{id:Nat}{l:List Oper}{Q:Exit→Env→Heap→Prop}(k u:Nat)(oe:Oper)(hoe:l[k]? =some oe)(hok:(preOk l.toArray (k+1)&&decide (u≤k))=true)(hm:C.P.follows .mixedOrders=true)
  (hu:((List.range k).all fun i=>decide (i<u)||((Region.before l.toArray).getD k 0).testBit i)=true)(hdst:((l.take u).all fun o=>o.dst.isSome)=true)
  (hA:detGo .any l.toArray (l.length-(k+1)) (listK l.length (k+1))=some (List.range' (k+1) (l.length-(k+1))))
  (hh:WPp C l.toArray (l.take k) t h fun t'=>wpOperV C l.toArray oe t' h fun v h'=>
   (WPp C l.toArray (l.take u) t h' fun t''=>agrL (wrOps (l.take u)) t'' t')∧WPl C l.toArray Q (l.drop (k+1)) (put t' oe.dst v) h'):WP C (.region id l.toArray true) Q t h:=by
 simp only[Bool.and_eq_true,decide_eq_true_eq]at hok
 have D:=d9 hok.1
 have hkl:=(List.getElem?_eq_some_iff.1 hoe).1
 obtain⟨V,hv,hK⟩:=bA _ _ hh
 have hlen:(l.take k).length=k:=by simp;omega
 rw[hlen]at hK
 have hTT:∀i,i≤k→Av.T V (l.take k) t i=Av.T V l t i:=fun i hi=>ej V V k (fun _ _=>rfl) _ _ _ _ hi (by rw[List.take_take];congr 1;omega) (by rw[hlen];exact hi) (by omega)
 rw[hTT k (Nat.le_refl _)]at hK
 have main:∀n,WPix C l.toArray Q (Region.linearise .any l.toArray n) t h:=fun n=>by
  unfold Region.linearise
  refine iD D .any D.less (by simp;omega) (V:=V) (t0:=t) (oe:=oe) (by simpa using hoe) (fun i o hi ho=>?_) ?_ _ _ _ _ (by simp) ?_ (fun j oj hj hl=>?_) (fun j hj hl=>?_) (Ag.start _ _ _ _ fun j hj=>?_)
  ·have:=hv i o (by rw[List.getElem?_take,if_pos hi];simpa using ho)
   rw[hTT i (by omega)]at this
   exact this
  ·refine bg hK fun v h' ⟨h1,h2⟩=>⟨fun i o hi ho hc=>?_,?_⟩
   ·have hiu:i<u:=by
     have:=List.all_eq_true.1 hu i (List.mem_range.2 hi)
     rw[hc]at this
     simpa using this
    obtain⟨V2,hv2,hK2⟩:=bA _ _ h1
    have hlu:(l.take u).length=u:=by simp;omega
    rw[hlu]at hK2
    have hVV:∀j,j<u→V2 j=V j:=fun j hj=>by
     have hoj:l[j]? =some (l[j]'(by omega)):=List.getElem?_eq_getElem _
     have hoj':(l.take u)[j]? =some (l[j]'(by omega)):=by rw[List.getElem?_take,if_pos hj];exact hoj
     obtain⟨d,hdd⟩:=Option.isSome_iff_exists.1 (List.all_eq_true.1 hdst _ (List.mem_of_getElem? hoj'))
     have e:=gY hK2 d (jd hoj' hdd)
     have a1:=D.ag_T V2 t (by simp;omega) u (by omega)
     have a2:=D.ag_T V t (by simp;omega) k (by omega)
     have hoa:l.toArray[j]? =some (l[j]'(by omega)):=by simp
     have b1:=a1.1 j _ d (by omega) hoa (by simpa using hj) hdd
     have b2:=a2.1 j _ d (by omega) hoa (by simp;omega) hdd
     have c1:Av.T V2 (l.toArray.toList.take (k+1)) t u=Av.T V2 (l.take u) t u:=ej V2 V2 u (fun _ _=>rfl) _ _ _ _ (Nat.le_refl _) (by simp[List.take_take];try omega) (by simp;omega) (by omega)
     have c2:Av.T V (l.toArray.toList.take (k+1)) t k=Av.T V l t k:=ej V V k (fun _ _=>rfl) _ _ _ _ (Nat.le_refl _) (by simp[List.take_take]) (by simp;omega) (by omega)
     rw[c1]at b1
     rw[c2]at b2
     rw[← b1, ← b2,e]
    have:=hv2 i o (by rw[List.getElem?_take,if_pos hiu];simpa using ho)
    rw[hVV i hiu]at this
    have c3:Av.T V2 (l.take u) t i=Av.T V l t i:=ej V V2 u hVV _ _ _ _ (by omega) (by rw[List.take_take];congr 1;omega) (by omega) (by omega)
    rw[c3]at this
    exact this
   ·have:=kO (ops:=l.toArray) (Q:=Q) _ _ _ (l.drop (k+1)) _ h' hA (by rw[kP (by omega),List.take_of_length_le (by simp)]) h2
    simpa using this
  ·unfold left
   have:(List.range l.toArray.size).filter (fun i=> !(Array.replicate l.toArray.size false).getD i true)=List.range l.toArray.size:=by
    rw[List.filter_eq_self]
    intro i hi
    have:=List.mem_range.1 hi
    simp at this ⊢
    simp[this]
   rw[this,List.length_range]
  ·have h8:=(Array.getElem?_eq_some_iff.1 hj).1
   simp at h8 hl
   simp[h8]at hl
  ·simp at hj hl
   simp[hj]at hl
  ·have:j<l.length:=by omega
   simp[this]
 show ∀tp,WPix C l.toArray Q (Region.schedule (C.P.follows .mixedOrders) l.toArray tp) t h
 intro tp
 unfold Region.schedule
 rw[hm]
 simp only[Bool.true_or,if_true]
 exact main _
attribute [go_sem] agrL
theorem co{ops:Array Oper}{Q:Exit→Env→Heap→Prop}(g:Q .normal t h):WPt C ops Q .nil t h:=g
theorem cr{ops:Array Oper}{Q:Exit→Env→Heap→Prop}{i:Nat}{s:OT}{o:Oper}(ho:ops[i]? =some o)(g:WPl C ops (fun _ t' h'=>WPt C ops Q s t' h') [o] t h):WPt C ops Q (.one i s) t h:=by
 simp only[WPt,ho];exact g
theorem cu{ops:Array Oper}{Q:Exit→Env→Heap→Prop}{i j:Nat}{s u:OT}{o p:Oper}(ho:ops[i]? =some o)(hp:ops[j]? =some p)(g:WPl C ops (fun _ t' h'=>WPt C ops Q s t' h') [o] t h)
  (g':WPl C ops (fun _ t' h'=>WPt C ops Q u t' h') [p] t h):WPt C ops Q (.two i s j u) t h:=by
 simp only[WPt,ho,hp];exact⟨g,g'⟩
end
end Go.Av
namespace Go.Av
open Go.RowKit
section
variable {C:Ctx} {B n:Nat} {S:Addr→Prop} {μ:Map} {h:Heap} {w:World} {t:Env} {a:Act}
end
end Go.Av
namespace Go.Av
open Go Go.RowKit
theorem cE{H:Heap}{p q:Nat}(b:Blk)(v:Nat)(hne:p≠q):getRow (H.set p b) q v=getRow H q v:=by
 unfold getRow;rw[List.getElem?_set_ne hne]
theorem nw{H:Heap}{p:Nat}(e n u v:Nat)(rows:List AVal)(hp:p<H.length):getRow (H.set p (.row e n u rows)) p v=if v=u then some (e,n,rows)else none:=by
 unfold getRow;rw[List.getElem?_set_self hp]
theorem bq{A l:Heap}{p:Nat}(v:Nat)(hp:p<A.length):getRow (A++l) p v=getRow A p v:=by
 unfold getRow;rw[List.getElem?_append_left hp]
theorem br{A l:Heap}{n k:Nat}(v:Nat)(hn:A.length=n):getRow (A++l) (n+k) v=getRow l k v:=by subst hn;exact ir A l k v
theorem aW{A l:Heap}{n:Nat}(v:Nat)(hn:A.length=n):getRow (A++l) n v=getRow l 0 v:=by subst hn;exact lu A l v
theorem tw{A l:Heap}{p:Nat}(b:Blk)(hp:p<A.length):(A++l).set p b=A.set p b++l:=List.set_append_left p b hp
theorem dH{A l:Heap}{n k:Nat}(b:Blk)(hn:A.length=n):(A++l).set (n+k) b=A++l.set k b:=by subst hn;exact mg A l k b
theorem er{A l:Heap}{n:Nat}(b:Blk)(hn:A.length=n):(A++l).set n b=A++l.set 0 b:=by subst hn;exact pE A l b
theorem ai:(∀{H:Heap} {p q:Nat} (b:Blk) (v:Nat) (_:p≠q),getRow (H.set p b) q v=getRow H q v)∧
  (∀{H:Heap} {p:Nat} (e n u v:Nat) (rows:List AVal) (_:p<H.length),getRow (H.set p (.row e n u rows)) p v=if v=u then some (e,n,rows)else none)∧
  (∀{A l:Heap} {p:Nat} (v:Nat) (_:p<A.length),getRow (A++l) p v=getRow A p v)∧
  (∀{A l:Heap} {n k:Nat} (v:Nat) (_:A.length=n),getRow (A++l) (n+k) v=getRow l k v)∧
  (∀{A l:Heap} {n:Nat} (v:Nat) (_:A.length=n),getRow (A++l) n v=getRow l 0 v)∧
  (∀{A l:Heap} {p:Nat} (b:Blk) (_:p<A.length),(A++l).set p b=A.set p b++l)∧
  (∀{A l:Heap} {n k:Nat} (b:Blk) (_:A.length=n),(A++l).set (n+k) b=A++l.set k b)∧
  (∀{A l:Heap} {n:Nat} (b:Blk) (_:A.length=n),(A++l).set n b=A++l.set 0 b)∧
  (∀(H:Heap) (i:Nat) (b:Blk),(H.set i b).length=H.length)∧(∀(H:Heap) (i:Nat) (a b:Blk),(H.set i a).set i b=H.set i b):=
 ⟨cE,nw,bq,br,aW,tw,dH,er,fun _ _ _=>List.length_set ..,fun _ _ _ _=>List.set_set ..⟩
theorem vH{H:Heap}{p v:Nat}{x:TypeId×Nat×List AVal}(h:getRow H p v=some x):p<H.length:=by
 obtain⟨e,n,r⟩:=x
 exact(List.getElem?_eq_some_iff.1 (dU h)).1
attribute [go_sem] List.length_set
def KeepC(h0 h1:Heap)(N:Nat):Prop:=∀(p:Nat) (k:Blk),h1[p]? =some k→h0[p]? =some k∨CloB N k
theorem KeepC.refl(h:Heap)(N:Nat):KeepC h h N:=fun _ _ h=>.inl h
theorem KeepC.app{h0 h1:Heap}{N:Nat}(g:KeepC h0 h1 N){l:Heap}(hb:∀b∈l,CloB N b):KeepC h0 (h1++l) N:=by
 intro p k hk
 rcases Nat.lt_or_ge p h1.length with h2|h2
 ·rw[List.getElem?_append_left h2]at hk;exact g p k hk
 ·rw[List.getElem?_append_right h2]at hk;exact .inr (hb k (List.mem_of_getElem? hk))
def FrN(n0:Nat)(H H':Heap):Prop:=∀p,p<n0→H'[p]? =H[p]?
theorem FrN.refl(n0:Nat)(H:Heap):FrN n0 H H:=fun _ _=>rfl
theorem FrN.set{n0:Nat}{H H':Heap}{q:Nat}(b:Blk)(hq:n0≤q)(g:FrN n0 H H'):FrN n0 H (H'.set q b):=fun p hp=>by rw[List.getElem?_set_ne (by omega)];exact g p hp
theorem FrN.app{n0:Nat}{H H':Heap}(l:Heap)(hn:n0≤H'.length)(g:FrN n0 H H'):FrN n0 H (H'++l):=fun p hp=>by rw[List.getElem?_append_left (by omega)];exact g p hp
theorem Fin.whole{h0 h1:Heap}{R:AVal→Heap→Prop}{r:AVal}(hl:h0.length≤h1.length)(hc:Clo h1.length r)(hR:R r h1):Fin h0 h1 R r:=
 ⟨h1.length,r,hl,.clo _ hc,.inl (Nat.le_refl _),by rw[List.take_length];exact hR⟩
theorem Fin.upto{h0 h1 j:Heap}{R:AVal→Heap→Prop}{r:AVal}(hl:h0.length≤h1.length)(hk:KeepC h0 h1 h1.length)(hc:Clo h1.length r)(hR:R r h1):Fin h0 (h1++j) R r:=by
 refine⟨h1.length,r,hl,.clo _ hc,.inr fun p k hp h2=>?_,by rw[List.take_left' rfl];exact hR⟩
 rw[List.getElem?_append_left hp]at h2
 rcases hk p k h2 with h3|h3
 ·exact .inl ⟨(List.getElem?_eq_some_iff.1 h3).1,h3⟩
 ·exact .inr h3
theorem CloB.row{N e n v:Nat}{rows:List AVal}(h:∀r∈rows,Clo N r):CloB N (.row e n v rows):=h
section
variable {C:Ctx}
end
end Go.Av
namespace Go.Av
open Go Go.Proofs Go.RowKit
attribute [local irreducible] WP WPl WPix Sat
variable (G:Nat→Option (List AVal))
variable {G}
end Go.Av
namespace Go.Av
open Go Go.Proofs Go.RowKit
attribute [local irreducible] WP WPl WPix Sat
variable (G:Nat→Option (List AVal))
def rdrR(s:Bs)(b:Bool):Blk:=.row 179 2 0 [.agg [.str s,.bool b]]
def rdH(h j:Heap)(s:Bs)(b:Bool):Heap:=h++rdrR s b::j
theorem rN(h j:Heap)(s:Bs)(b:Bool):(rdH h j s b).length=h.length+(1+j.length):=by simp[rdH];omega
@[go_sem] theorem xW(s:Bs)(b:Bool)(l:Heap):getRow (rdrR s b::l) 0 0=some (179,2,[.agg [.str s,.bool b]]):=rfl
end Go.Av
namespace Go.Av
open Go Go.Proofs Go.RowKit
attribute [local irreducible] WP WPl WPix Sat
variable (G:Nat→Option (List AVal))
def beginF(c:Int):Bool:=decide (65≤c∧c≤90∨97≤c∧c≤122∨c=95)
def moreF(c:Int):Bool:=decide (65≤c∧c≤90∨97≤c∧c≤122∨c=95∨48≤c∧c≤57∨c=58∨c=45∨c=46)
theorem iL(c:Int)(h:Heap):Sat (CT G) 269 [.int .i32 c] h (fun r h'=>r=.bool (beginF c)∧h'=h):=by
 refine sb [.tmp 2] (fn:=Tryz.f269) Tryz.func269 ?_
 intro Q hQ
 refine az trivial ?_
 (first|refine dP trivial (fun g1=>?_) (fun g1=>?_)|refine pqo trivial (fun g1=>?_) (fun g1=>?_))<;>(try exact g1.elim)<;>(try refine bY trivial ?_)<;>(refine az trivial ?_)
 all_goals try ((first|refine dP trivial (fun g2=>?_) (fun g2=>?_)|refine pqo trivial (fun g2=>?_) (fun g2=>?_))<;>(try exact g2.elim)<;>(try refine bY trivial ?_)<;>(refine az trivial ?_))
 all_goals try ((first|refine dP trivial (fun g3=>?_) (fun g3=>?_)|refine pqo trivial (fun g3=>?_) (fun g3=>?_))<;>(try exact g3.elim)<;>(try refine bY trivial ?_)<;>(refine az trivial ?_))
 all_goals try ((first|refine dP trivial (fun g4=>?_) (fun g4=>?_)|refine pqo trivial (fun g4=>?_) (fun g4=>?_))<;>(try exact g4.elim)<;>(try refine bY trivial ?_)<;>(refine az trivial ?_))
 all_goals try ((first|refine dP trivial (fun g5=>?_) (fun g5=>?_)|refine pqo trivial (fun g5=>?_) (fun g5=>?_))<;>(try exact g5.elim)<;>(try refine bY trivial ?_)<;>(refine az trivial ?_))
 all_goals try (exfalso;omega)
 all_goals
  refine dQ hQ trivial ?_
  refine fR (.bool _) ?_
  unfold beginF
  congr 1
  rw[Bool.eq_iff_iff]
  simp only[decide_eq_true_eq,beq_iff_eq,true_iff,Bool.false_eq_true,false_iff]
  omega
theorem qf(c:Int)(h:Heap):Sat (CT G) 268 [.int .i32 c] h (fun r h'=>r=.bool (moreF c)∧h'=h):=by
 refine sb [.tmp 2] (fn:=Tryz.f268) Tryz.func268 ?_
 intro Q hQ
 refine az trivial ?_
 refine mj trivial (iL G c _) ?_
 (first|refine dP trivial (fun g1=>?_) (fun g1=>?_)|refine pqo trivial (fun g1=>?_) (fun g1=>?_))<;>(try exact g1.elim)<;>(try refine bY trivial ?_)<;>(refine az trivial ?_)
 all_goals try ((first|refine dP trivial (fun g2=>?_) (fun g2=>?_)|refine pqo trivial (fun g2=>?_) (fun g2=>?_))<;>(try exact g2.elim)<;>(try refine bY trivial ?_)<;>(refine az trivial ?_))
 all_goals try ((first|refine dP trivial (fun g3=>?_) (fun g3=>?_)|refine pqo trivial (fun g3=>?_) (fun g3=>?_))<;>(try exact g3.elim)<;>(try refine bY trivial ?_)<;>(refine az trivial ?_))
 all_goals try ((first|refine dP trivial (fun g4=>?_) (fun g4=>?_)|refine pqo trivial (fun g4=>?_) (fun g4=>?_))<;>(try exact g4.elim)<;>(try refine bY trivial ?_)<;>(refine az trivial ?_))
 all_goals try ((first|refine dP trivial (fun g5=>?_) (fun g5=>?_)|refine pqo trivial (fun g5=>?_) (fun g5=>?_))<;>(try exact g5.elim)<;>(try refine bY trivial ?_)<;>(refine az trivial ?_))
 all_goals try ((first|refine dP trivial (fun g6=>?_) (fun g6=>?_)|refine pqo trivial (fun g6=>?_) (fun g6=>?_))<;>(try exact g6.elim)<;>(try refine bY trivial ?_)<;>(refine az trivial ?_))
 all_goals try ((first|refine dP trivial (fun g7=>?_) (fun g7=>?_)|refine pqo trivial (fun g7=>?_) (fun g7=>?_))<;>(try exact g7.elim)<;>(try refine bY trivial ?_)<;>(refine az trivial ?_))
 all_goals try simp only[beginF,decide_eq_true_eq,decide_eq_false_iff_not]at g1
 all_goals try (exfalso;omega)
 all_goals
  refine dQ hQ trivial ?_
  refine fR (.bool _) ?_
  unfold moreF
  try unfold beginF
  congr 1
  rw[Bool.eq_iff_iff]
  simp only[decide_eq_true_eq,beq_iff_eq,true_iff,Bool.false_eq_true,false_iff]
  omega
end Go.Av

namespace Go.Av
open Go Go.Proofs Go.RowKit
attribute [local irreducible] WP WPl WPix Sat
variable (G:Nat→Option (List AVal))
end Go.Av
namespace Go.Av
open Go Go.Proofs Go.RowKit
attribute [local irreducible] WP WPl WPix Sat
variable (G:Nat→Option (List AVal))
end Go.Av
namespace Go.Av
open Go Go.Proofs Go.RowKit
attribute [local irreducible] WP WPl WPix Sat
variable (G:Nat→Option (List AVal))
attribute [go_sem] rN
end Go.Av
namespace Go.Av
open Go Go.Proofs Go.RowKit
attribute [local irreducible] WP WPl WPix Sat
variable (G:Nat→Option (List AVal))
end Go.Av
namespace Go.Av
open Go Go.Proofs Go.RowKit
attribute [local irreducible] WP WPl WPix Sat
variable (G:Nat→Option (List AVal))
theorem oH(h:Heap)(n:Nat):Frz h n (.agg [.str [],.nil (.slice none 0 0),.str [],.nil (.slice none 0 0)]) (Elem.av ⟨[],[],[],[]⟩):=by
 rw[Elem.av_eq]
 refine .agg _ _ rfl (by simp[AVal.sto]) fun i c d hc hd=>?_
 match i with
 |0=>simp at hc hd;subst hc;subst hd;exact .clo _ (.str _)
 |1=>simp[Elem.attrs]at hc hd;subst hc;subst hd;exact .nils _
 |2=>simp at hc hd;subst hc;subst hd;exact .clo _ (.str _)
 |3=>simp[Elem.kids]at hc hd;subst hc;subst hd;exact .nils _
 |i+4=>simp at hc
def kidF(e:Elem)(n:Bs):Elem×Bool:=match kidsF e n with| []=>(⟨[],[],[],[]⟩,false)|k::_=>(k,true)
instance tokEq:DecidableEq Tok:=fun a b=>inferInstanceAs (Decidable ((a:Int×List UInt8×List (List UInt8×List UInt8)×List UInt8)=b))
end Go.Av
namespace Go.Av
open Go Go.Proofs Go.RowKit
attribute [local irreducible] WP WPl WPix Sat
variable (G:Nat→Option (List AVal))
end Go.Av
namespace Go.Av
open Go Go.Proofs Go.RowKit
attribute [local irreducible] WP WPl WPix Sat
variable (G:Nat→Option (List AVal))
end Go.Av
namespace Go.Av
open Go Go.RowKit
attribute [local irreducible] WP WPl WPix Sat
structure FrzR (h:Heap) (n:Nat) (r s:AVal):Prop where
 all:Frz h n r s
 len:r.cells.length=s.cells.length
 sto:∀d∈s.cells,d.sto=true
 cell:∀(j:Nat) (c d:AVal),r.cells[j]? =some c→s.cells[j]? =some d→Frz h n c d
theorem Frz.rows{h:Heap}{n q v e m:Nat}{rows es:List AVal}{len:Nat}{room:Bool}(hq:n≤q)(hg:getRow h q v=some (e,m,rows))(hlen:len=rows.length)(hl:es.length=rows.length)
  (hp:∀(i:Nat) (r s:AVal),rows[i]? =some r→es[i]? =some s→FrzR h n r s):Frz h n (.hs q v 0 len room) (.sl m es):=by
 subst hlen
 have:=Frz.hs (h:=h) (n:=n) q v 0 rows.length room e m rows es hq hg (by omega) hl (fun i r s hr hs=>(hp i r s hr hs).all)
  (fun i r s hr hs=>⟨(hp i r s hr hs).len,fun j c d _ hd=>(hp i r s hr hs).sto d (List.mem_of_getElem? hd)⟩) (fun i r s j c d hr hs hc hd=>(hp i r s hr hs).cell j c d hc hd)
 rw[List.drop_zero, ← hl,List.take_length]at this
 rw[← hl];exact this
theorem FrzR.clo{h:Heap}{n:Nat}{r:AVal}(hc:Clo n r)(hs:∀d∈r.cells,d.sto=true):FrzR h n r r:=
 ⟨.clo _ hc,rfl,hs,fun j c d h1 h2=>by rw[h1]at h2;cases h2;exact .clo _ (hc.cells c (List.mem_of_getElem? h1))⟩
inductive FrzL (h:Heap) (n:Nat):List AVal→List AVal→Prop
 |nil:FrzL h n [] []
 |cons {c d:AVal} {cs ds:List AVal}:Frz h n c d→FrzL h n cs ds→FrzL h n (c::cs) (d::ds)
theorem FrzL.len{h:Heap}{n:Nat}{cs ds:List AVal}(z:FrzL h n cs ds):cs.length=ds.length:=by induction z with|nil=>rfl|cons _ _ ih=>simp[ih]
theorem FrzL.at_{h:Heap}{n:Nat}{cs ds:List AVal}(z:FrzL h n cs ds):∀(i:Nat) (c d:AVal),cs[i]? =some c→ds[i]? =some d→Frz h n c d:=by
 induction z with
 |nil=>intro i c d h1;simp at h1
 |cons z _ ih=>
  intro i c d h1 h2
  match i with
  |0=>simp at h1 h2;subst h1;subst h2;exact z
  |i+1=>exact ih i c d (by simpa using h1) (by simpa using h2)
theorem FrzL.agg{h:Heap}{n:Nat}{cs ds:List AVal}(z:FrzL h n cs ds)(hs:ds.all AVal.sto=true):Frz h n (.agg cs) (.agg ds):=.agg _ _ z.len (List.all_eq_true.1 hs) z.at_
theorem FrzL.tup{h:Heap}{n:Nat}{cs ds:List AVal}(z:FrzL h n cs ds):Frz h n (.tup cs) (.tup ds):=.tup _ _ z.len z.at_
theorem Frz.data{h:Heap}{n q v e m:Nat}{rows:List AVal}{len:Nat}{room:Bool}(hq:n≤q)(hg:getRow h q v=some (e,m,rows))(hlen:len=rows.length)(hc:∀r∈rows,Clo n r)(hs:∀r∈rows,∀c∈r.cells,c.sto=true):Frz h n (.hs q v 0 len room) (.sl m rows):=
 Frz.rows hq hg hlen rfl fun i r s hr hs'=>by rw[hr]at hs';cases hs';exact FrzR.clo (hc r (List.mem_of_getElem? hr)) (hs r (List.mem_of_getElem? hr))
end Go.Av
namespace Go.Av
open Go Go.Proofs Go.RowKit
attribute [local irreducible] WP WPl WPix Sat
variable (G:Nat→Option (List AVal))
end Go.Av
namespace Go.Av
open Go Go.Proofs Go.RowKit
attribute [local irreducible] WP WPl WPix Sat
variable (G:Nat→Option (List AVal))
end Go.Av
namespace Go.Av
open Go Go.Proofs Go.RowKit
attribute [local irreducible] WP WPl WPix Sat
variable (G:Nat→Option (List AVal))
def tkR(n:Bs)(q v len:Nat):Blk:=.row 182 4 0 [.agg [.int .i64 1,.str n,.hs q v 0 len true,.str []]]
def atR(v:Nat)(l:List At):Blk:=.row 228 2 v (l.map At.av)
@[go_sem] theorem vI(n:Bs)(q v len:Nat)(l:Heap):getRow (tkR n q v len::l) 0 0=some (182,4,[.agg [.int .i64 1,.str n,.hs q v 0 len true,.str []]]):=rfl
@[go_sem] theorem uk(n:Bs)(q v len:Nat)(l:Heap)(k u:Nat):getRow (tkR n q v len::l) (k+1) u=getRow l k u:=rfl
@[go_sem] theorem ul(v:Nat)(l:List At)(j:Heap)(k u:Nat):getRow (atR v l::j) (k+1) u=getRow j k u:=rfl
end Go.Av
namespace Go.Av
open Go Go.Proofs Go.RowKit
attribute [local irreducible] WP WPl WPix Sat
variable (G:Nat→Option (List AVal))
def p1:Bs:=[60,33,45,45]
def p2:Bs:=[60,63]
end Go.Av
namespace Go.Av
open Go Go.Proofs Go.RowKit
attribute [local irreducible] WP WPl WPix Sat
variable (G:Nat→Option (List AVal))
def tksR(v:Nat)(l:List Tok):Blk:=.row 182 4 v (l.map Tok.av)
@[go_sem] theorem um(v:Nat)(l:List Tok)(j:Heap)(k u:Nat):getRow (tksR v l::j) (k+1) u=getRow j k u:=rfl
end Go.Av
namespace Go.Av
open Go Go.Proofs Go.RowKit
end Go.Av
namespace Go.Av
open Go Go.Proofs Go.RowKit
attribute [local irreducible] WP WPl WPix Sat
variable (G:Nat→Option (List AVal))
end Go.Av
namespace Go.Av
open Go Go.Proofs Go.RowKit
attribute [local irreducible] WP WPl WPix Sat
variable (G:Nat→Option (List AVal))
structure OE where
 n:Bs
 a:List At
 t:Bs
 k:List Elem
 q:Nat
 v:Nat
def OE.av(o:OE):AVal:=.agg [.str o.n,.sl 2 (o.a.map At.av),.str o.t,.hs o.q o.v 0 o.k.length true]
variable {H:Heap} {n0 pb po vo pd vd:Nat} {room:Bool} {os:List OE} {ds:List Elem}
end Go.Av
namespace Go.Av
open Go Go.Proofs Go.RowKit
attribute [local irreducible] WP WPl WPix Sat
variable (G:Nat→Option (List AVal))
end Go.Av
namespace Go.Av
open Go Go.Proofs Go.RowKit
attribute [local irreducible] WP WPl WPix Sat
variable (G:Nat→Option (List AVal))
variable {G}
end Go.Av
namespace Go.Av
open Go Go.Proofs Go.RowKit
attribute [local irreducible] WP WPl WPix Sat
variable {G:Nat→Option (List AVal)}
end Go.Av
namespace Go.Av
open Go.RowKit
section
variable {C:Ctx} {t:Env} {h:Heap}
def nopO:Oper:= {dst:=none,op:=.move (.const (.bool false)),type:=0,pos:= "",after:= #[],guard:=none}
end
end Go.Av
namespace Go.Av
open Go Go.Proofs Go.RowKit
variable (G:Nat→Option (List AVal))
theorem nx(s:Bs):∀k,k≤s.length→shortAt s k=s.drop (Lib.lastIdx ⟨s.toArray⟩ 58 k+1).toNat∧ -1≤Lib.lastIdx ⟨s.toArray⟩ 58 k∧Lib.lastIdx ⟨s.toArray⟩ 58 k<k:=by
 intro k
 induction k with
 |zero=>intro _;simp[shortAt,Lib.lastIdx]
 |succ k ih=>
  intro hk
  obtain⟨h1,h2,h3⟩:=ih (by omega)
  have hb:=List.getElem?_eq_getElem (show k<s.length by omega)
  have e:(⟨s.toArray⟩:ByteArray).data[k]! =s[k]:=by simp[hb]
  rw[shortAt,hb]
  have e2:Lib.lastIdx ⟨s.toArray⟩ 58 (k+1)=if (s[k].toNat:Int)=58 then(k:Int)else Lib.lastIdx ⟨s.toArray⟩ 58 k:=by
   rw[Lib.lastIdx,e]
  rw[e2]
  by_cases hc:s[k]=58
  ·rw[if_pos (by rw[hc]),if_pos (by rw[hc];rfl)]
   refine⟨congrArg s.drop (by omega),by omega,by omega⟩
  ·have:¬(s[k].toNat:Int)=58:=fun h=>hc ((rM (k:=58) (by omega)).1 h)
   rw[if_neg (by simpa using hc),if_neg this]
   exact⟨h1,h2,by omega⟩
theorem oI(s:Bs):short s=s.drop (Lib.lastIndexByte ⟨s.toArray⟩ 58+1).toNat∧ -1≤Lib.lastIndexByte ⟨s.toArray⟩ 58∧Lib.lastIndexByte ⟨s.toArray⟩ 58<s.length:=by
 have h:(⟨s.toArray⟩:ByteArray).size=s.length:=by simp[ByteArray.size]
 have:=nx s s.length (Nat.le_refl _)
 unfold Lib.lastIndexByte short
 rw[h];exact this
end Go.Av
namespace Go.Av
open Go Go.Proofs Go.RowKit
attribute [local irreducible] WP WPl WPix Sat
variable (G:Nat→Option (List AVal))
theorem iM(s:Bs)(hs:s.length≤1048576)(h:Heap):Sat (CT G) 106 [.str s] h (fun r h'=>r=.str (short s)∧h'=h):=by
 obtain⟨h1,h2,h3⟩:=oI s
 have hl:=cY G s 58 (by omega)
 generalize Lib.lastIndexByte ⟨s.toArray⟩ 58=n at h1 h2 h3 hl
 refine sb [.tmp 2] (fn:=Tryz.f106) Tryz.func106 ?_
 intro Q hQ
 refine az trivial ?_
 refine mj trivial (hl _) ?_
 refine dQ hQ trivial ?_
 refine fR (.str _) ?_
 rw[h1]
theorem jH(e:Elem)(n:Bs)(hs:e.sz≤1048576)(h:Heap):Sat (CT G) 108 [e.av,.str n] h (fun r h'=>r=.sl 4 ((kidsF e n).map Elem.av)∧h'=h):=by
 have hkl:=e.kids_len
 refine sb [.tmp 4] (fn:=Tryz.f108) Tryz.func108 ?_
 intro Q hQ
 refine az trivial ?_
 refine lm (fun nL tL hL=>∃(k v:Nat) (acc:List Elem) (j:Heap),e.kids.length-k=nL∧h++ .row 76 4 0 [e.av]:: .row 76 4 v (acc.map Elem.av)::j=hL∧tL 5=.hs (h.length+1) v 0 acc.length true∧tL 11=.int .i64 k∧k≤e.kids.length∧acc.length≤k∧acc++(e.kids.drop k).filter (fun k=>decide (short k.name=n))=kidsF e n) ((fun(k v:Nat) (acc:List Elem) (j:Heap)=>(e.kids.length-k:Nat)) (0) (0) ([]) ([])) ?_ ?_
 ·refine⟨_,_,Weak.virt 5 76 4 (by simp) (by omega) (by exact cO trivial),⟨0,0,[],[],rfl,aY,?_,?_,?_,?_,?_⟩⟩
  all_goals first|exact cO trivial|rfl|omega|trivial|skip
 rintro _ s2 h' ⟨k,v,acc,j,rfl,rfl,e5,e11,hk,hl,hp⟩ K2 hK2
 simp only[am,ao,Nat.reduceEqDiff, ↓reduceIte]at e5 e11
 have F:=F2 e5 e11
 refine az F ?_
 refine iz F (fun hc=>?_) (fun hc=>?_)<;>(try exact hc.elim)
 ·obtain⟨y,hy,hym⟩:=ak hc
  have:=Elem.kid_sz hym
  have:=y.name_len
  rw[bh hy,List.filter_cons]at hp
  have F:=F2 F hy
  refine az F ?_
  refine mj F (iM G y.name (by omega) _) ?_
  refine iz F (fun hc=>?_) (fun hc=>?_)<;>(try exact hc.elim)<;>(refine az F ?_)
  ·refine Ct F ?_
   try refine bY F ?_
   refine az F ?_
   refine hK2 _ _ _ (Wkn.refl ⟨k+1,v+1,acc++[y],_,rfl,aY,?_,?_,by omega,by simp;omega,by rw[if_pos (by simp[hc])]at hp;rw[← hp];simp⟩) (by omega)
   all_goals first|exact cO F|rfl|omega|trivial|skip
  ·refine hK2 _ _ _ (Wkn.refl ⟨k+1,v,acc,_,rfl,aY,?_,?_,by omega,by omega,by rw[if_neg (by simp[hc])]at hp;exact hp⟩) (by omega)
   all_goals first|exact cO F|rfl|omega|trivial|skip
 ·refine az F ?_
  refine dQ hQ F ?_
  rw[bJ hc,List.filter_nil,List.append_nil]at hp
  subst hp
  exact Fin.frz (oG (pre:=h++[.row 76 4 0 [e.av]]) (post:=j) _ (by simp;rfl) (by simp) (by omega)) ⟨rfl,rfl⟩
theorem kQ(e:Elem)(n:Bs)(hs:e.sz≤1048576)(h:Heap):Sat (CT G) 105 [e.av,.str n] h (fun r h'=>r=.tup [(kidF e n).1.av,.bool (kidF e n).2]∧h'=h):=by
 refine sb [.cell 4 76,.tmp 5] (fn:=Tryz.f105) Tryz.func105 ?_
 intro Q hQ
 refine az trivial ?_
 refine mj trivial (jH G e n hs _) ?_
 refine iz trivial (fun hc=>?_) (fun hc=>?_)<;>(try exact hc.elim)<;>(refine az trivial ?_)
 ·refine wZ hQ trivial ?_
  have hk:kidsF e n=[]:=List.length_eq_zero_iff.1 (by omega)
  simp only[kidF,hk]
  refine Fin.frz ?_ ⟨rfl,rfl⟩
  refine .tup _ _ rfl fun i c d hc hd=>?_
  match i with
  |0=>simp at hc hd;subst hc;subst hd;exact oH _ _
  |1=>simp at hc hd;subst hc;subst hd;exact .clo _ (.bool _)
  |i+2=>simp at hc
 ·obtain⟨y,l,hk⟩:∃y l,kidsF e n=y::l:=by
   cases hq:kidsF e n with
   |nil=>rw[hq]at hc;simp at hc
   |cons y l=>exact⟨y,l,rfl⟩
  rw[hk]
  have h0:(y::l)[0]? =some y:=rfl
  have F:=h0
  refine az F ?_
  simp only[h0]
  try refine bY F ?_
  refine az F ?_
  refine wZ hQ F ?_
  simp only[kidF,hk]
  exact Fin.plain (.tup _ (by intro c hc;simp at hc;rcases hc with rfl|rfl;exact Elem.clo _ _;exact .bool _)) ⟨rfl,rfl⟩
end Go.Av
namespace Go.Av
open Go Go.Proofs Go.RowKit
attribute [local irreducible] WP WPl WPix Sat
variable (G:Nat→Option (List AVal))
end Go.Av
namespace Go.Av
open Go Go.Proofs Go.RowKit
attribute [local irreducible] WP WPl WPix Sat
variable (G:Nat→Option (List AVal))
end Go.Av
namespace Go.Av
open Go Go.Proofs Go.RowKit
attribute [local irreducible] WP WPl WPix Sat
variable (G:Nat→Option (List AVal))
def Elem.own(e:Elem):Nat:=1+e.name.length+szs At.sz e.attrs+e.text.length
section
variable {σ:Type} (A B:Elem→σ→σ)
end
section
end
end Go.Av
namespace Go.Av
open Go Go.Proofs Go.RowKit
attribute [local irreducible] WP WPl WPix Sat
variable (G:Nat→Option (List AVal))
section
end
end Go.Av
namespace Go.Av
open Go Go.Proofs Go.RowKit
attribute [local irreducible] WP WPl WPix Sat
variable (G:Nat→Option (List AVal))
end Go.Av
namespace Go.Av
open Go Go.Proofs Go.RowKit
attribute [local irreducible] WP WPl WPix Sat
variable (G:Nat→Option (List AVal))
end Go.Av
namespace Go.Av
open Go Go.RowKit
def ov(H:Heap)(n:Nat)(bs:List Blk):Heap:=H.take n++bs++H.drop (n+bs.length)
theorem bc{H:Heap}{n:Nat}{bs:List Blk}(hn:n+bs.length≤H.length):(ov H n bs).length=H.length:=by
 simp only[ov,List.length_append,List.length_take,List.length_drop];omega
theorem bd{H:Heap}{n:Nat}{bs:List Blk}(hn:n+bs.length≤H.length)(p:Nat):(ov H n bs)[p]? =if n≤p∧p<n+bs.length then bs[p-n]? else H[p]? :=by
 have h1:(H.take n).length=n:=by rw[List.length_take];omega
 unfold ov
 by_cases h:n≤p∧p<n+bs.length
 ·rw[if_pos h,List.getElem?_append_left (by rw[List.length_append,h1];omega),List.getElem?_append_right (by omega),h1]
 ·rw[if_neg h]
  by_cases h2:p<n
  ·rw[List.getElem?_append_left (by rw[List.length_append,h1];omega),List.getElem?_append_left (by omega),List.getElem?_take_of_lt h2]
  ·rw[List.getElem?_append_right (by rw[List.length_append,h1];omega),List.getElem?_drop,List.length_append,h1]
   congr 1;omega
theorem r7{H:Heap}{n k:Nat}{bs:List Blk}(hn:n+bs.length≤H.length)(hk:k<bs.length):(ov H n bs)[n+k]? =bs[k]? :=by
 rw[bd hn,if_pos (by omega)];congr 1;omega
theorem fE{H:Heap}{n p:Nat}{bs:List Blk}(hn:n+bs.length≤H.length)(hp:p<n∨n+bs.length≤p):(ov H n bs)[p]? =H[p]? :=by
 rw[bd hn,if_neg (by omega)]
theorem ca{H:Heap}{n k:Nat}{bs:List Blk}(b:Blk)(hn:n+bs.length≤H.length)(hk:k<bs.length):(ov H n bs).set (n+k) b=ov H n (bs.set k b):=by
 apply List.ext_getElem?
 intro p
 have hl:(bs.set k b).length=bs.length:=List.length_set ..
 rw[List.getElem?_set,bc hn,bd hn,bd (by rw[hl];exact hn),hl,List.getElem?_set]
 by_cases h:n+k=p
 ·subst h
  rw[if_pos rfl,if_pos (by omega),if_pos (by omega),if_pos (by omega),if_pos (by omega)]
 ·rw[if_neg h]
  split
  ·rw[if_neg (by omega)]
  ·rfl
theorem rO{H:Heap}{n:Nat}{bs:List Blk}(b:Blk)(hn:n+bs.length≤H.length)(hk:0<bs.length):(ov H n bs).set n b=ov H n (bs.set 0 b):=ca (k:=0) b hn hk
theorem oJ{H:Heap}{n p:Nat}{bs:List Blk}(b:Blk)(hn:n+bs.length≤H.length)(hp:p<n∨n+bs.length≤p):(ov H n bs).set p b=ov (H.set p b) n bs:=by
 apply List.ext_getElem?
 intro q
 rw[List.getElem?_set,bc hn,bd hn,bd (by rw[List.length_set];exact hn),List.getElem?_set]
 by_cases h:p=q
 ·subst h;have:¬(n≤p∧p<n+bs.length):=by omega
  simp[this]
 ·rw[if_neg h,if_neg h]
theorem kR{H j:Heap}{n:Nat}{bs:List Blk}(hn:n+bs.length≤H.length):ov H n bs++j=ov (H++j) n bs:=by
 apply List.ext_getElem?
 intro q
 rw[bd (by rw[List.length_append];omega)]
 rcases Nat.lt_or_ge q H.length with h|h
 ·rw[List.getElem?_append_left (by rw[bc hn];exact h),bd hn,List.getElem?_append_left h]
 ·rw[List.getElem?_append_right (by rw[bc hn];exact h),bc hn,if_neg (by omega),List.getElem?_append_right h]
theorem oK(H:Heap)(bs:List Blk)(j:Heap):H++(bs++j)=ov (H++(bs++j)) H.length bs:=by
 unfold ov
 rw[List.take_left' rfl,List.drop_append,List.drop_of_length_le (by omega),List.nil_append,Nat.add_sub_cancel_left,List.drop_left' rfl,List.append_assoc]
theorem tz{H:Heap}{n k:Nat}{bs:List Blk}(v:Nat)(hn:n+bs.length≤H.length)(hk:k<bs.length):getRow (ov H n bs) (n+k) v=getRow bs k v:=by unfold getRow;rw[r7 hn hk]
theorem rP{H:Heap}{n p:Nat}{bs:List Blk}(v:Nat)(hn:n+bs.length≤H.length)(hp:p<n∨n+bs.length≤p):getRow (ov H n bs) p v=getRow H p v:=by unfold getRow;rw[fE hn hp]
theorem cR{H:Heap}{n k:Nat}{bs:List Blk}(hn:n+bs.length≤H.length)(hk:k<bs.length):mapAt (ov H n bs) (n+k)=mapAt bs k:=by unfold mapAt;rw[r7 hn hk]
theorem rQ{H:Heap}{n:Nat}{bs:List Blk}(hn:n+bs.length≤H.length)(hk:0<bs.length):mapAt (ov H n bs) n=mapAt bs 0:=cR (k:=0) hn hk
theorem FrN.behind{H H':Heap}(g:FrN H.length H H')(hl:H.length≤H'.length):∃j,H'=H++j:=by
 refine⟨H'.drop H.length,?_⟩
 apply List.ext_getElem?
 intro p
 by_cases h:p<H.length
 ·rw[List.getElem?_append_left h,g p h]
 ·rw[List.getElem?_append_right (by omega),List.getElem?_drop];congr 1;omega
theorem oL{H j:Heap}{n:Nat}{bs cs:List Blk}{R:AVal→Heap→Prop}{r:AVal}(hn:n+bs.length≤H.length)(hl:cs.length=bs.length)(hb:∀b∈cs,CloB H.length b)(hc:Clo H.length r)(hR:R r (ov H n cs)):Fin (ov H n bs) (ov (H++j) n cs) R r:=by
 rw[← kR (by omega)]
 refine Fin.keep (by rw[bc hn,bc (by omega)]) (fun p k hk=>?_) (by rw[bc hn];exact hc) hR
 rw[bd (by omega)]at hk
 rw[bc hn,bd hn]
 by_cases h:n≤p∧p<n+cs.length
 ·rw[if_pos h]at hk;exact .inr (hb k (List.mem_of_getElem? hk))
 ·rw[if_neg h]at hk;left;rw[if_neg (by omega)];exact hk
theorem rR{H:Heap}{n:Nat}{bs cs:List Blk}{R:AVal→Heap→Prop}{r:AVal}(hn:n+bs.length≤H.length)(hl:cs.length=bs.length)(hb:∀b∈cs,CloB H.length b)(hc:Clo H.length r)(hR:R r (ov H n cs)):Fin (ov H n bs) (ov H n cs) R r:=by
 have:=oL (j:=[]) hn hl hb hc hR
 rwa [List.append_nil]at this
theorem eu{H j:Heap}{n:Nat}{bs cs:List Blk}{R:AVal→Heap→Prop}{r0 r:AVal}(hn:n+bs.length≤H.length)(hl:cs.length=bs.length)(hb:∀b∈cs,CloB H.length b)(hc:Frz (ov (H++j) n cs) H.length r0 r)(hR:R r (ov H n cs)):Fin (ov H n bs) (ov (H++j) n cs) R r0:=by
 rw[← kR (by omega)]at hc ⊢
 refine Fin.keepF (by rw[bc hn,bc (by omega)]) (fun p k hk=>?_) (by rw[bc hn];exact hc) hR
 rw[bd (by omega)]at hk
 rw[bc hn,bd hn]
 by_cases h:n≤p∧p<n+cs.length
 ·rw[if_pos h]at hk;exact .inr (hb k (List.mem_of_getElem? hk))
 ·rw[if_neg h]at hk;left;rw[if_neg (by omega)];exact hk
end Go.Av
namespace Go.Av
open Go.RowKit
inductive ET where
 |fin
 |one (i:Nat) (m:List Bool) (s:ET)
 |two (i:Nat) (m:List Bool) (s:ET) (j:Nat) (m':List Bool) (u:ET)
def maskL:List Bool→List Oper→List Oper
 |true::m,o::l=>o::maskL m l
 |false::m,_::l=>nopO::maskL m l
 |_,_=>[]
@[go_sem] theorem aR(m:List Bool)(o:Oper)(l:List Oper):maskL (true::m) (o::l)=o::maskL m l:=(rfl)
@[go_sem] theorem aS(m:List Bool)(o:Oper)(l:List Oper):maskL (false::m) (o::l)=nopO::maskL m l:=(rfl)
@[go_sem] theorem aF(l:List Oper):maskL [] l=[]:=by cases l<;>rfl
theorem bQ:∀(m:List Bool) (l:List Oper) (i:Nat),(maskL m l)[i]? =match m[i]?,l[i]? with|some true,some o=>some o|some false,some _=>some nopO|_,_=>none
 | [],l,i=>by rw[aF];simp
 |b::m,[],i=>by cases b<;>simp[maskL]
 |true::m,o::l,0=>by simp[maskL]
 |false::m,o::l,0=>by simp[maskL]
 |true::m,o::l,i+1=>by simp only[maskL,List.getElem?_cons_succ];exact bQ m l i
 |false::m,o::l,i+1=>by simp only[maskL,List.getElem?_cons_succ];exact bQ m l i
theorem fF:∀(m:List Bool) (l:List Oper),m.length≤l.length→(maskL m l).length=m.length
 | [],l,_=>by rw[aF];rfl
 |b::m,[],h=>by simp at h
 |true::m,o::l,h=>by simp only[maskL,List.length_cons];rw[fF m l (by simpa using h)]
 |false::m,o::l,h=>by simp only[maskL,List.length_cons];rw[fF m l (by simpa using h)]
def wrM:List Bool→List Oper→List Nat
 |true::m,o::l=>match o.dst with|some d=>d::wrM m l|none=>wrM m l
 |false::m,_::l=>wrM m l
 |_,_=>[]
@[go_sem] theorem CW(m:List Bool)(o:Oper)(l:List Oper):wrM (true::m) (o::l)=match o.dst with|some d=>d::wrM m l|none=>wrM m l:=(rfl)
@[go_sem] theorem CX(m:List Bool)(o:Oper)(l:List Oper):wrM (false::m) (o::l)=wrM m l:=(rfl)
@[go_sem] theorem vJ(l:List Oper):wrM [] l=[]:=by cases l<;>rfl
theorem kS:∀(m:List Bool) (l:List Oper),wrM m l=wrOps (maskL m l)
 | [],l=>by rw[vJ,aF];rfl
 |b::m,[]=>by cases b<;>rfl
 |true::m,o::l=>by
  show(match o.dst with|some d=>d::wrM m l|none=>wrM m l)=(match o.dst with|some d=>d::wrOps (maskL m l)|none=>wrOps (maskL m l))
  rw[kS m l]
 |false::m,o::l=>by simp only[wrM,maskL,wrOps,nopO];rw[kS m l]
def freeO(o:Oper):Bool:=match o.op with
 | .move _| .assign _| .pick _ _ _| .extract _ _| .field _ _ _| .build _ _| .unOp _ _ _=>true
 |_=>false
def okI(ops:Array Oper)(b:Array Nat)(k:Nat)(es:List Nat)(i:Nat)(m:List Bool)(X:List Nat):Bool:=
 es.contains i&& !X.contains i&&(es.all fun x=> !(b.getD i 0).testBit x||X.contains x)&&
 ((List.range k).all fun p=>es.contains p||m.getD p false||(decide (p<i)&&(b.getD i 0).testBit p)||(es.any fun x=>X.contains x&&decide (p<x)&&(b.getD x 0).testBit p)||(ops[p]?.any freeO))&&
 ((List.range m.length).all fun p=> !m.getD p false||(decide (p<k)&& !es.contains p))&&decide (m.length≤k)
def okO(b:Array Nat)(es X is:List Nat):Bool:=
 es.all fun x=>X.contains x||is.contains x||es.any fun y=> !X.contains y&&decide (y<x)&&(b.getD x 0).testBit y
def okE(ops:Array Oper)(b:Array Nat)(k:Nat)(es:List Nat):ET→List Nat→Bool
 | .fin,X=>es.all X.contains
 | .one i m s,X=>okI ops b k es i m X&&okO b es X [i]&&okE ops b k es s (i::X)
 | .two i m s j m' u,X=>okI ops b k es i m X&&okI ops b k es j m' X&&okO b es X [i,j]&&okE ops b k es s (i::X)&&okE ops b k es u (j::X)
def chkE(l:List Oper)(k:Nat)(es:List Nat)(m0:List Bool)(tr:ET):Bool:=
 let ops:=l.toArray
 let b:=Region.before ops
 preOkG false ops k&&decide (k≤l.length)&&
 ((List.range k).all fun i=>(List.range k).all fun j=>match ops[i]?,ops[j]? with
  |some oi,some oj=>match oj.dst with
   |some d=> !(oi.looksAt ops).contains d||(decide (j<i)&&(b.getD i 0).testBit j&&(es.contains i|| !es.contains j))
   |none=>true
  |_,_=>true)&&
 ((List.range k).all fun i=>es.contains i||(ops[i]?.any fun o=>o.dst.isSome))&&
 (es.all fun e=>decide (e<k))&&m0==(List.range k).map (fun i=> !es.contains i)&&okE ops b k es tr []
section
variable {C:Ctx} {t:Env} {h:Heap}
def stepE(C:Ctx)(l:List Oper)(t0:Env)(i:Nat)(m:List Bool)(P:Env→Heap→Prop)(tc:Env)(h:Heap):Prop:=
 need (l[i]?) fun o=>wpOperV C l.toArray o tc h fun v h'=>(WPp C l.toArray (maskL m l) t0 h' fun t''=>agrL (wrM m l) t'' t0)∧P (put tc o.dst v) h'
def WPe(C:Ctx)(Q:Exit→Env→Heap→Prop)(l:List Oper)(k:Nat)(t0:Env):ET→Env→Heap→Prop
 | .fin,tc,h=>WPl C l.toArray Q (l.drop k) tc h
 | .one i m s,tc,h=>stepE C l t0 i m (WPe C Q l k t0 s) tc h
 | .two i m s j m' u,tc,h=>stepE C l t0 i m (WPe C Q l k t0 s) tc h∧stepE C l t0 j m' (WPe C Q l k t0 u) tc h
theorem oM{ops:Array Oper}{o:Oper}{s:Env}(hf:freeO o=true){v:AVal}(g:∀KK:AVal→Heap→Prop,KK v h→wpOperV C ops o s h KK)(h':Heap):∀KK:AVal→Heap→Prop,KK v h'→wpOperV C ops o s h' KK:=by
 intro KK hk
 have g:=g (fun v' _=>KK v' h') hk
 have key:∀K:AVal→Heap→Prop,wpOp C o.op s h (fun v' _=>K v' h')=wpOp C o.op s h' K:=by
  intro K
  unfold freeO at hf
  cases ho:o.op<;>rw[ho]at hf<;>first| (cases hf;done)|rfl
 unfold wpOperV at g ⊢
 cases hg:o.guard with
 |none=>rw[hg]at g;simp only at g ⊢;rw[← key];exact g
 |some q=>
  obtain⟨j,w⟩:=q
  rw[hg]at g
  simp only at g ⊢
  cases hq:guardA ops s j with
  |none=>rw[hq]at g;exact g
  |some b=>rw[hq]at g;simp only at g ⊢;rw[← key];exact g
theorem kU{V:Nat→AVal}(l:List Oper)(t:Env)(hu:∀(i j:Nat) (oi oj:Oper) (d:Nat),l[i]? =some oi→l[j]? =some oj→oi.dst=some d→oj.dst=some d→i=j):
  ∀i,i≤l.length→(∀(j:Nat) (o:Oper) (d:Nat),j<i→l[j]? =some o→o.dst=some d→Av.T V l t i d=V j)∧(∀d,(∀(j:Nat) (o:Oper),j<i→l[j]? =some o→o.dst≠some d)→Av.T V l t i d=t d)
 |0,_=>⟨fun j o d hj=>by omega,fun d _=>by rw[fm]⟩
 |i+1,hi=>by
  obtain⟨h1,h2⟩:=kU l t hu i (by omega)
  have ho:l[i]? =some (l[i]'(by omega)):=List.getElem?_eq_getElem _
  rw[dw V l t i _ ho]
  generalize l[i]=o at ho
  refine⟨fun j oj d hj hoj hd=>?_,fun d hn=>?_⟩
  ·by_cases hji:j=i
   ·subst hji
    rw[ho]at hoj;cases hoj
    simp[put,hd,upd]
   ·have hne:o.dst≠some d:=fun e=>hji (hu j i oj o d hoj ho hd e)
    have:put (Av.T V l t i) o.dst (V i) d=Av.T V l t i d:=by
     cases hdo:o.dst with
     |none=>rfl
     |some x=>simp only[put,upd];rw[if_neg];intro e;subst e;exact hne hdo
    rw[this];exact h1 j oj d (by omega) hoj hd
  ·have hne:o.dst≠some d:=hn i o (by omega) ho
   have:put (Av.T V l t i) o.dst (V i) d=Av.T V l t i d:=by
    cases hdo:o.dst with
    |none=>rfl
    |some x=>simp only[put,upd];rw[if_neg];intro e;subst e;exact hne hdo
   rw[this];exact h2 d fun j oj hj hoj=>hn j oj (by omega) hoj
theorem Ag.upd'{ops:Array Oper}{k:Nat}{V:Nat→AVal}{t s:Env}{p:Nat→Bool}(g:Ag ops k V t p s){i:Nat}(hp:p i=false)(v:AVal):Ag ops k (fun j=>if j=i then v else V j) t p s:=
 ⟨fun j o x hj ho hpj hd=>by
  have:j≠i:=fun e=>by subst e;rw[hp]at hpj;cases hpj
  simp only[if_neg this];exact g.1 j o x hj ho hpj hd,g.2⟩
theorem Ag.congr'{ops:Array Oper}{k:Nat}{V:Nat→AVal}{t s:Env}{p p':Nat→Bool}(g:Ag ops k V t p s)(hp:∀j,j<k→p' j=p j):Ag ops k V t p' s:=
 ⟨fun j o x hj ho hpj hd=>g.1 j o x hj ho (by rw[← hp j hj];exact hpj) hd,fun x hn=>g.2 x fun j o hj ho hpj=>hn j o hj ho (by rw[hp j hj];exact hpj)⟩
theorem ny{l:List Oper}{Q:Exit→Env→Heap→Prop}{k:Nat}{es:List Nat}{t0 t:Env}(D:PreOk l.toArray k fun i j=>((Region.before l.toArray).getD j 0).testBit i)(hkn:k≤l.length)
  (c4:∀(i j:Nat) (oi oj:Oper) (d:Nat),i<k→j<k→l[i]? =some oi→l[j]? =some oj→oj.dst=some d→d∈oi.looksAt l.toArray→j<i∧((Region.before l.toArray).getD i 0).testBit j=true∧(es.contains i=true∨es.contains j=false))
  (c7:∀(i:Nat) (o:Oper),i<k→es.contains i=false→l[i]? =some o→o.dst.isSome=true)(hes:∀e,es.contains e=true→e<k)
  (hA:detGo .any l.toArray (l.length-k) (listK l.length k)=some (List.range' k (l.length-k))):
  ∀(fuel n:Nat) (L:Array Bool) (s:Env) (tr:ET) (V:Nat→AVal) (tc:Env) (h:Heap) (X:List Nat),L.size=l.length→left l.toArray L=fuel→Closed l.toArray L→(∀j,j<l.length→L.getD j false=true→j<k)→
   (∀j,es.contains j=true→(L.getD j false=X.contains j))→okE l.toArray (Region.before l.toArray) k es tr X=true→
   Ag l.toArray k V t (fun j=>L.getD j false) s→Ag l.toArray k V t (fun j=> !es.contains j) t0→Ag l.toArray k V t (fun j=> !es.contains j||X.contains j) tc→
   (∀(i:Nat) (o:Oper),i<k→es.contains i=false→L.getD i false=false→l[i]? =some o→∀KK:AVal→Heap→Prop,KK (V i) h→wpOperV C l.toArray o t0 h KK)→WPe C Q l k t0 tr tc h→
   WPix C l.toArray Q (Region.linearise.go .any l.toArray fuel n L []) s h:=by
 have hsee:∀{V:Nat→AVal} {s s':Env} {p p':Nat→Bool} {i:Nat} {o:Oper},Ag l.toArray k V t p s→Ag l.toArray k V t p' s'→i<k→l[i]? =some o→
   (∀j,j<i→((Region.before l.toArray).getD i 0).testBit j=true→(es.contains i=true∨es.contains j=false)→p j=true∧p' j=true)→∀d∈o.looksAt l.toArray,s d=s' d:=by
  intro V s s' p p' i o g g' hi ho hp d hd
  by_cases hx:∃(j:Nat) (oj:Oper),j<k∧l[j]? =some oj∧oj.dst=some d
  ·obtain⟨j,oj,h1,h2,h3⟩:=hx
   obtain⟨h4,h5,h6⟩:=c4 i j o oj d hi h1 ho h2 h3 hd
   obtain⟨h7,h8⟩:=hp j h4 h5 h6
   rw[g.1 j oj d h1 (by simpa using h2) h7 h3,g'.1 j oj d h1 (by simpa using h2) h8 h3]
  ·have hn:∀(j:Nat) (oj:Oper),j<k→l.toArray[j]? =some oj→oj.dst≠some d:=fun j oj h1 h2 h3=>hx ⟨j,oj,h1,by simpa using h2,h3⟩
   rw[g.2 d fun j oj h1 h2 _=>hn j oj h1 h2,g'.2 d fun j oj h1 h2 _=>hn j oj h1 h2]
 intro fuel
 induction fuel with
 |zero=>
  intro n L s tr V tc h X hs hl cl hlt hX hok ag ag0 agc hv hw
  have hall:=cN (by simpa using hs) hl
  cases tr with
  |fin=>
   have hk:k=l.length:=by
    apply Classical.byContradiction
    intro hne
    have:=hlt k (by omega) (hall k (by simp;omega))
    omega
   subst hk
   simp only[Region.linearise.go,List.reverse_nil,WPix]
   simp only[WPe,List.drop_length,WPl]at hw
   have e:s=tc:=by
    refine Ag.eq (p:=fun _=>true) (ag.congr' fun j hj=>?_) (agc.congr' fun j hj=>?_)
    ·exact(hall j (by simpa using hj)).symm
    ·cases hc:es.contains j with
     |false=>rfl
     |true=>rw[← hX j hc,hall j (by simpa using hj)];rfl
   rw[e];exact hw
  |one i m u=>
   simp only[okE,okI,Bool.and_eq_true,Bool.not_eq_true']at hok
   have h1:=hok.1.1.1.1.1.1.1
   have h2:=hok.1.1.1.1.1.1.2
   have:=hall i (by have:=hes i h1;simp;omega)
   rw[hX i h1,h2]at this;cases this
  |two i m u j m' u'=>
   simp only[okE,okI,Bool.and_eq_true,Bool.not_eq_true']at hok
   have h1:=hok.1.1.1.1.1.1.1.1.1
   have h2:=hok.1.1.1.1.1.1.1.1.2
   have:=hall i (by have:=hes i h1;simp;omega)
   rw[hX i h1,h2]at this;cases this
 |succ fuel ih=>
  intro n L s tr V tc h X hs hl cl hlt hX hok ag ag0 agc hv hw
  have bef:∀(i:Nat) (o:Oper),i<k→l[i]? =some o→(∀e∈o.after,Region.binds .any e=true→L.getD e.on false=true)→∀j,j<i→((Region.before l.toArray).getD i 0).testBit j=true→L.getD j false=true:=
   fun i o hi ho hrd j hj hc=>D.bef cl i o (by simpa using ho) hi j hj hc hrd
  by_cases hfin:tr=.fin
  ·subst hfin
   simp only[okE,List.all_eq_true]at hok
   have hXe:∀j,es.contains j=true→L.getD j false=true:=fun j hj=>by rw[hX j hj];exact hok j (by simpa using hj)
   have hTT:=D.ag_T V t (by simpa using hkn) k (Nat.le_refl _)
   refine da D .any D.less (by simpa using hkn) (V:=V) (t0:=t) (fun j=>es.contains j=false∧L.getD j false=false) (fun i o ho hoi KK hkk=>?_) ?_ _ _ _ _ (by simpa using hs) hl cl (by simpa using hlt) (fun j hj hlj=>?_) ag
   ·have hik:i<k:=by
     refine Nat.lt_of_not_le fun hle=>?_
     rw[List.getElem?_take,if_neg (by omega)]at ho;cases ho
    have hoi':l[i]? =some o:=by rw[List.getElem?_take,if_pos hik]at ho;simpa using ho
    have:=hv i o hik hoi.1 hoi.2 hoi' KK hkk
    rw[← aN (hsee ag0 (D.ag_T V t (by simpa using hkn) i (by omega)) hik hoi' fun j hj hb he=>?_)]
    ·exact this
    ·rcases he with he|he
     ·rw[hoi.1]at he;cases he
     ·exact⟨by simp only[he];rfl,by simpa using hj⟩
   ·have:=kO (ops:=l.toArray) (Q:=Q) (md:=.any) _ _ _ (l.drop k) tc h hA (by rw[kP (by omega),List.take_of_length_le (by simp)]) hw
    have e:Av.T V (l.toArray.toList.take k) t k=tc:=by
     refine Ag.eq (p:=fun _=>true) (hTT.congr' fun j hj=>?_) (agc.congr' fun j hj=>?_)
     ·simpa using hj
     ·cases hc:es.contains j with
      |false=>rfl
      |true=>have:=hok j (by simpa using hc);simp only[this];rfl
    rw[e]
    simpa using this
   ·refine⟨?_,hlj⟩
    cases hc:es.contains j with
    |false=>rfl
    |true=>rw[hXe j hc]at hlj;cases hlj
  ·
   obtain⟨e0,he0,hX0⟩:∃e0,es.contains e0=true∧X.contains e0=false:=by
    cases tr with
    |fin=>exact absurd rfl hfin
    |one i m u=>
     simp only[okE,okI,Bool.and_eq_true,Bool.not_eq_true']at hok
     exact⟨i,hok.1.1.1.1.1.1.1,hok.1.1.1.1.1.1.2⟩
    |two i m u j m' u'=>
     simp only[okE,okI,Bool.and_eq_true,Bool.not_eq_true']at hok
     exact⟨i,hok.1.1.1.1.1.1.1.1.1,hok.1.1.1.1.1.1.1.1.2⟩
   have hek:=hes e0 he0
   have heun:L.getD e0 false=false:=by rw[hX e0 he0];exact hX0
   have hne:Region.ready .any l.toArray L≠ []:=by
    have hmin:∃i,i<k∧L.getD i false=false∧∀j,j<i→L.getD j false=true:=by
     obtain⟨i,hi,hl⟩:∃i,i<k∧L.getD i false=false:=⟨e0,hek,heun⟩
     induction i using Nat.strongRecOn with
     |ind i ih=>
      by_cases hall:∀j,j<i→L.getD j false=true
      ·exact⟨i,hi,hl,hall⟩
      ·have:∃j,j<i∧L.getD j false=false:=Classical.byContradiction fun hno=>hall fun j hj=>by
        cases hlj:L.getD j false with
        |true=>rfl
        |false=>exact absurd ⟨j,hj,hlj⟩ hno
       obtain⟨j,hj,hlj⟩:=this
       exact ih j hj (by omega) hlj
    obtain⟨i,hi,hl,hall⟩:=hmin
    have hin:i<l.toArray.size:=by simp;omega
    have h3:i<L.size:=by omega
    intro e
    have:i∈Region.ready .any l.toArray L:=mem_ready.2 ⟨by simp[h3]at hl ⊢;exact hl,l.toArray[i],Array.getElem?_eq_getElem hin,fun e he hb=>hall _ (D.less i _ (Array.getElem?_eq_getElem hin) hi e he hb)⟩
    rw[e]at this;cases this
   obtain⟨i,hi,hmem⟩:=bf hne n
   obtain⟨hun,o,ho,hrd⟩:=mem_ready.1 hmem
   have hin:=(Array.getElem?_eq_some_iff.1 ho).1
   have hin':i<l.length:=by simpa using hin
   have h3:i<L.size:=by omega
   have ho':l[i]? =some o:=by simpa using ho
   have hun':L.getD i false=false:=by simp[h3]at hun ⊢;exact hun
   have hik:i<k:=by
    refine Nat.lt_of_not_le fun hle=>?_
    obtain⟨e1,he1,hb,h1⟩:=D.sfx e0 i o ho hek hle
    have h2:=hrd e1 he1 hb
    have hkl:L.getD e0 false=true:=by
     rcases h1 with rfl| ⟨h4,h5,h6⟩
     ·exact h2
     ·have hoe:l.toArray[e1.on]? =some (l.toArray[e1.on]'(by simp;omega)):=Array.getElem?_eq_getElem (by simp;omega)
      exact D.bef cl e1.on _ hoe h4 e0 h5 h6 fun e' he' hb'=>cl e1.on _ hoe h2 e' he' hb'
    rw[heun]at hkl;cases hkl
   rw[bN .any l.toArray fuel n L hi]
   simp only[WPix,ho]
   rw[cg]
   have hb:=bef i o hik ho' hrd
   have agn:∀{V:Nat→AVal},Ag l.toArray k V t (fun j=>L.getD j false) s→Ag l.toArray k V t (fun j=>(L.setIfInBounds i true).getD j false) (put s o.dst (V i)):=fun ag=>by
    refine D.ag_put ag ho hik fun j hj=>?_
    by_cases hji:i=j
    ·subst hji;simp[h3]
    ·rw[getD_set_ne false hji]
     have:(j==i)=false:=by simp;exact fun e=>hji e.symm
     rw[this,Bool.or_false]
   have hlt':∀j,j<l.length→(L.setIfInBounds i true).getD j false=true→j<k:=fun j hj hlj=>by
    by_cases hji:i=j
    ·subst hji;exact hik
    ·rw[getD_set_ne false hji]at hlj;exact hlt j hj hlj
   have hls:left l.toArray (L.setIfInBounds i true)=fuel:=by have:=ch (by simpa using hs) hin hun';omega
   cases hic:es.contains i with
   |false=>
    have h9:=hv i o hik hic hun' ho'
    rw[← aN (hsee ag0 ag hik ho' fun j hj hbt he=>?_)]
    ·refine h9 _ ?_
     refine ih _ _ _ tr V tc h X (by simpa using hs) hls (cl.set ho hrd) hlt' (fun j hj=>?_) hok (agn ag) ag0 agc (fun j oj hj hjc hjl hoj=>?_) hw
     ·have:i≠j:=fun e=>by subst e;rw[hic]at hj;cases hj
      rw[getD_set_ne false this];exact hX j hj
     ·have:i≠j:=fun e=>by subst e;simp[h3]at hjl
      rw[getD_set_ne false this]at hjl
      exact hv j oj hj hjc hjl hoj
    ·rcases he with he|he
     ·rw[hic]at he;cases he
     ·exact⟨by simp only[he];rfl,hb j hj hbt⟩
   |true=>
    have hiX:X.contains i=false:=by rw[← hX i hic];exact hun'
    have eff:∀(m:List Bool) (u:ET),okI l.toArray (Region.before l.toArray) k es i m X=true→okE l.toArray (Region.before l.toArray) k es u (i::X)=true→stepE C l t0 i m (WPe C Q l k t0 u) tc h→
      wpOperV C l.toArray o s h fun v h'=>WPix C l.toArray Q (Region.linearise.go .any l.toArray fuel (n/(Region.ready .any l.toArray L).length) (L.setIfInBounds i true) []) (put s o.dst v) h':=by
     intro m u hoI hoE hst
     simp only[stepE,ho',aK]at hst
     rw[← aN (hsee agc ag hik ho' fun j hj hbt _=>?_)]
     ·refine bg hst fun v h' ⟨hre,hnx⟩=>?_
      have agV:=ag.upd' (i:=i) (by simpa using hun') v
      have ag0V:=ag0.upd' (i:=i) (by simp only[hic];rfl) v
      have agcV:=agc.upd' (i:=i) (by simp only[hic,hiX];rfl) v
      have e1:=agn agV
      simp only[if_true]at e1
      refine ih _ _ _ u (fun j=>if j=i then v else V j) (put tc o.dst v) h' (i::X) (by simpa using hs) hls (cl.set ho hrd) hlt' (fun j hj=>?_) hoE e1 ag0V ?_ (fun p op hp hpc hpl hop=>?_) hnx
      ·by_cases hji:i=j
       ·subst hji;simp[h3]
       ·rw[getD_set_ne false hji,hX j hj]
        rw[List.contains_cons]
        have:(j==i)=false:=by simp;exact fun e=>hji e.symm
        rw[this,Bool.false_or]
      ·have:=D.ag_put (V:=fun j=>if j=i then v else V j) (p':=fun j=> !es.contains j||(i::X).contains j) agcV ho hik fun j hj=>by
        rw[List.contains_cons,Bool.or_comm (j==i),Bool.or_assoc]
       simpa using this
      ·have hpi:i≠p:=fun e=>by subst e;rw[hic]at hpc;cases hpc
       rw[getD_set_ne false hpi]at hpl
       simp only[if_neg (fun e=>hpi e.symm:¬p=i)]
       simp only[okI,Bool.and_eq_true,List.all_eq_true,List.mem_range,Bool.or_eq_true,Bool.not_eq_true',decide_eq_true_eq]at hoI
       obtain⟨⟨⟨⟨⟨_,_⟩,_⟩,hms⟩,hml⟩,hmk⟩:=hoI
       rcases hms p hp with(((h4|h4)|h4)|h4)|h4
       ·rw[hpc]at h4;cases h4
       ·
        obtain⟨V2,hv2,hK2⟩:=bA _ _ hre
        rw[kS]at hK2
        have hmlen:m.length≤l.length:=by omega
        have hget:∀q oq,(maskL m l)[q]? =some oq→oq=nopO∨(m.getD q false=true∧l[q]? =some oq):=fun q oq hq=>by
         rw[bQ]at hq
         split at hq
         ·rename_i h5 h6;cases hq;exact .inr ⟨by simp[List.getD,h5],h6⟩
         ·cases hq;exact .inl rfl
         ·cases hq
        have hgm:∀q oq,m.getD q false=true→l[q]? =some oq→(maskL m l)[q]? =some oq:=fun q oq h5 h6=>by
         rw[bQ]
         have:m[q]? =some true:=by
          cases hm:m[q]? with
          |none=>simp[List.getD,hm]at h5
          |some b=>simp[List.getD,hm]at h5;subst h5;rfl
         rw[this,h6]
        have hmP:∀q,m.getD q false=true→q<k∧es.contains q=false:=fun q h5=>by
         have hq:q<m.length:=by
          apply Classical.byContradiction
          intro hn
          rw[List.getD,List.getElem?_eq_none (by omega)]at h5;cases h5
         rcases hml q hq with h6|h6
         ·rw[h5]at h6;cases h6
         ·exact h6
        have hu:∀(a b:Nat) (oa ob:Oper) (d:Nat),(maskL m l)[a]? =some oa→(maskL m l)[b]? =some ob→oa.dst=some d→ob.dst=some d→a=b:=fun a b oa ob d h5 h6 h7 h8=>by
         rcases hget a oa h5 with rfl| ⟨ha,hoa⟩
         ·cases h7
         rcases hget b ob h6 with rfl| ⟨hb',hob⟩
         ·cases h8
         rcases Nat.lt_trichotomy a b with h9|h9|h9
         ·exact absurd h8 ((D.pre a b oa ob (by simpa using hoa) (by simpa using hob) h9 (hmP b hb').1).2 d h7)
         ·exact h9
         ·exact absurd h7 ((D.pre b a ob oa (by simpa using hob) (by simpa using hoa) h9 (hmP a ha).1).2 d h8)
        have hT:=fun q (hq:q≤(maskL m l).length)=>kU (V:=V2) (maskL m l) t0 hu q hq
        have hV2:∀q oq d,(maskL m l)[q]? =some oq→oq.dst=some d→V2 q=t0 d:=fun q oq d h5 h6=>by
         have h7:=gY hK2 d (jd h5 h6)
         rw[(hT _ (Nat.le_refl _)).1 q oq d (List.getElem?_eq_some_iff.1 h5).1 h5 h6]at h7
         exact h7
        have hTt:∀q,q≤(maskL m l).length→Av.T V2 (maskL m l) t0 q=t0:=fun q hq=>by
         funext d
         by_cases hx:∃(a:Nat) (oa:Oper),a<q∧(maskL m l)[a]? =some oa∧oa.dst=some d
         ·obtain⟨a,oa,h5,h6,h7⟩:=hx
          rw[(hT q hq).1 a oa d h5 h6 h7,hV2 a oa d h6 h7]
         ·exact(hT q hq).2 d fun a oa h5 h6 h7=>hx ⟨a,oa,h5,h6,h7⟩
        have hg:=hgm p op h4 hop
        have:=hv2 p op hg
        rw[hTt p (Nat.le_of_lt (List.getElem?_eq_some_iff.1 hg).1)]at this
        obtain⟨d,hd⟩:=Option.isSome_iff_exists.1 (c7 p op hp hpc hop)
        have h5:V2 p=V p:=by
         rw[hV2 p op d hg hd]
         exact ag0.1 p op d hp (by simpa using hop) (by simp only[hpc];rfl) hd
        rw[h5]at this
        exact this
       ·
        rw[hb p h4.1 h4.2]at hpl;cases hpl
       ·
        obtain⟨x,hxe,hx⟩:=List.any_eq_true.1 h4
        simp only[Bool.and_eq_true,decide_eq_true_eq]at hx
        have hxe':es.contains x=true:=by simpa using hxe
        have hxk:=hes x hxe'
        have hxl:L.getD x false=true:=by rw[hX x hxe'];exact hx.1.1
        have hox:l.toArray[x]? =some (l.toArray[x]'(by simp;omega)):=Array.getElem?_eq_getElem (by simp;omega)
        have:=D.bef cl x _ hox hxk p hx.1.2 hx.2 (fun e he hbd=>cl x _ hox hxl e he hbd)
        rw[this]at hpl;cases hpl
       ·rw[List.getElem?_toArray,hop]at h4
        exact oM (by simpa using h4) (hv p op hp hpc hpl hop) h'
     ·have hLj:=hb j hj hbt
      refine⟨?_,hLj⟩
      cases hc:es.contains j with
      |false=>rfl
      |true=>rw[← hX j hc,hLj];rfl
    have other:∀is:List Nat,okO (Region.before l.toArray) es X is=true→is.contains i=true:=fun is ho=>by
     simp only[okO,List.all_eq_true,Bool.or_eq_true]at ho
     rcases ho i (by simpa using hic)with(h4|h4)|h4
     ·rw[hiX]at h4;cases h4
     ·exact h4
     ·obtain⟨y,hy,h5⟩:=List.any_eq_true.1 h4
      simp only[Bool.and_eq_true,Bool.not_eq_true',decide_eq_true_eq]at h5
      have:=hb y h5.1.2 h5.2
      rw[hX y (by simpa using hy),h5.1.1]at this;cases this
    cases tr with
    |fin=>exact absurd rfl hfin
    |one i' m u=>
     simp only[okE,Bool.and_eq_true]at hok
     have:i=i':=by simpa using other [i'] hok.1.2
     subst this
     exact eff m u hok.1.1 hok.2 hw
    |two i' m u j' m' u'=>
     simp only[okE,Bool.and_eq_true]at hok
     have:i=i'∨i=j':=by simpa using other [i',j'] hok.1.1.2
     rcases this with rfl|rfl
     ·exact eff m u hok.1.1.1.1 hok.1.2 hw.1
     ·exact eff m' u' hok.1.1.1.2 hok.2 hw.2
theorem aH{id:Nat}{l:List Oper}{Q:Exit→Env→Heap→Prop}(k:Nat)(es:List Nat)(m0:List Bool)(tr:ET)(hok:chkE l k es m0 tr=true)(hm:C.P.follows .mixedOrders=true)
  (hA:detGo .any l.toArray (l.length-k) (listK l.length k)=some (List.range' k (l.length-k)))
  (hh:WPp C l.toArray (maskL m0 l) t h fun t0=>WPe C Q l k t0 tr t0 h):WP C (.region id l.toArray true) Q t h:=by
 unfold chkE at hok
 simp only[Bool.and_eq_true,decide_eq_true_eq,beq_iff_eq]at hok
 obtain⟨⟨⟨⟨⟨⟨hpre,hkn⟩,hc4⟩,hc7⟩,hes⟩,hm0⟩,hE⟩:=hok
 have D:=gE hpre
 simp only[List.all_eq_true,List.mem_range]at hc4 hc7
 have c4:∀(i j:Nat) (oi oj:Oper) (d:Nat),i<k→j<k→l[i]? =some oi→l[j]? =some oj→oj.dst=some d→d∈oi.looksAt l.toArray→j<i∧((Region.before l.toArray).getD i 0).testBit j=true∧(es.contains i=true∨es.contains j=false):=by
  intro i j oi oj d hi hj hoi hoj hd hl
  have:=hc4 i hi j hj
  rw[List.getElem?_toArray,List.getElem?_toArray,hoi,hoj]at this
  simp only[hd,Bool.or_eq_true,Bool.and_eq_true,Bool.not_eq_true',decide_eq_true_eq]at this
  rcases this with h1|h1
  ·have:(oi.looksAt l.toArray).contains d=true:=by simpa using hl
   rw[h1]at this;cases this
  ·exact⟨h1.1.1,h1.1.2,h1.2⟩
 have c7:∀(i:Nat) (o:Oper),i<k→es.contains i=false→l[i]? =some o→o.dst.isSome=true:=by
  intro i o hi he ho
  have:=hc7 i hi
  rw[List.getElem?_toArray,ho,he]at this
  simpa using this
 have hes':∀e,es.contains e=true→e<k:=fun e he=>by
  have:=List.all_eq_true.1 hes e (by simpa using he)
  simpa using this
 obtain⟨V,hv,hK⟩:=bA _ _ hh
 have hm0l:m0.length=k:=by rw[hm0];simp
 have hml:=fF m0 l (by omega)
 have hm0g:∀q,q<k→m0[q]? =some (!es.contains q):=fun q hq=>by rw[hm0];simp[hq]
 have hget:∀q oq,(maskL m0 l)[q]? =some oq→oq=nopO∨(q<k∧es.contains q=false∧l[q]? =some oq):=fun q oq hq=>by
  have hqk:q<k:=by have:=(List.getElem?_eq_some_iff.1 hq).1;omega
  rw[bQ,hm0g q hqk]at hq
  cases hc:es.contains q with
  |true=>rw[hc]at hq;cases hl:l[q]? with
   |none=>rw[hl]at hq;cases hq
   |some o=>rw[hl]at hq;cases hq;exact .inl rfl
  |false=>rw[hc]at hq;cases hl:l[q]? with
   |none=>rw[hl]at hq;cases hq
   |some o=>rw[hl]at hq;cases hq;exact .inr ⟨hqk,rfl,rfl⟩
 have hgm:∀q oq,q<k→es.contains q=false→l[q]? =some oq→(maskL m0 l)[q]? =some oq:=fun q oq hq hc h6=>by
  rw[bQ,hm0g q hq,hc,h6];rfl
 have hu:∀(a b:Nat) (oa ob:Oper) (d:Nat),(maskL m0 l)[a]? =some oa→(maskL m0 l)[b]? =some ob→oa.dst=some d→ob.dst=some d→a=b:=fun a b oa ob d h5 h6 h7 h8=>by
  rcases hget a oa h5 with rfl| ⟨ha,_,hoa⟩
  ·cases h7
  rcases hget b ob h6 with rfl| ⟨hb',_,hob⟩
  ·cases h8
  rcases Nat.lt_trichotomy a b with h9|h9|h9
  ·exact absurd h8 ((D.pre a b oa ob (by simpa using hoa) (by simpa using hob) h9 hb').2 d h7)
  ·exact h9
  ·exact absurd h7 ((D.pre b a ob oa (by simpa using hob) (by simpa using hoa) h9 ha).2 d h8)
 have hT:=fun q (hq:q≤(maskL m0 l).length)=>kU (V:=V) (maskL m0 l) t hu q hq
 generalize ht0:Av.T V (maskL m0 l) t (maskL m0 l).length=t0 at hK
 have ag0:Ag l.toArray k V t (fun j=> !es.contains j) t0:=by
  rw[← ht0]
  refine⟨fun j o x hj ho hp hd=>?_,fun x hn=>?_⟩
  ·have hc:es.contains j=false:=by simpa using hp
   exact(hT _ (Nat.le_refl _)).1 j o x (by omega) (hgm j o hj hc (by simpa using ho)) hd
  ·refine(hT _ (Nat.le_refl _)).2 x fun j o hj ho hd=>?_
   rcases hget j o ho with rfl| ⟨h1,h2,h3⟩
   ·cases hd
   ·exact hn j o h1 (by simpa using h3) (by simp only[h2];rfl) hd
 have main:∀n,WPix C l.toArray Q (Region.linearise .any l.toArray n) t h:=fun n=>by
  unfold Region.linearise
  refine ny D hkn c4 c7 hes' hA _ n _ t tr V t0 h [] (by simp) ?_ (fun j oj hj hl=>?_) (fun j hj hl=>?_) (fun j hj=>?_) hE (Ag.start _ _ _ _ fun j hj=>?_) ag0 (ag0.congr' fun j hj=>by simp) (fun i o hi hc _ ho KK hkk=>?_) hK
  ·unfold left
   have:(List.range l.toArray.size).filter (fun i=> !(Array.replicate l.toArray.size false).getD i true)=List.range l.toArray.size:=by
    rw[List.filter_eq_self]
    intro i hi
    have:=List.mem_range.1 hi
    simp at this ⊢
    simp[this]
   rw[this,List.length_range]
  ·have h8:=(Array.getElem?_eq_some_iff.1 hj).1
   simp at h8 hl
   simp[h8]at hl
  ·simp at hl
   simp[hj]at hl
  ·have:=hes' j hj
   have:j<l.length:=by omega
   simp[this]
  ·have:j<l.length:=by omega
   simp[this]
  ·have hg:=hgm i o hi hc ho
   have:=hv i o hg KK hkk
   have hil:i≤(maskL m0 l).length:=by omega
   rw[aN (t2:=t0) fun d hd=>?_]at this
   ·exact this
   ·by_cases hx:∃(j:Nat) (oj:Oper),j<k∧l[j]? =some oj∧oj.dst=some d
    ·obtain⟨j,oj,h1,h2,h3⟩:=hx
     obtain⟨h4,_,h5⟩:=c4 i j o oj d hi h1 ho h2 h3 hd
     have hcj:es.contains j=false:=by
      rcases h5 with h5|h5
      ·rw[hc]at h5;cases h5
      ·exact h5
     rw[(hT i hil).1 j oj d h4 (hgm j oj h1 hcj h2) h3,ag0.1 j oj d h1 (by simpa using h2) (by simp only[hcj];rfl) h3]
    ·rw[(hT i hil).2 d fun j oj h1 h2 h3=>?_,ag0.2 d fun j oj h1 h2 _ h3=>hx ⟨j,oj,h1,by simpa using h2,h3⟩]
     rcases hget j oj h2 with rfl| ⟨h5,_,h6⟩
     ·cases h3
     ·exact hx ⟨j,oj,h5,h6,h3⟩
 show ∀tp,WPix C l.toArray Q (Region.schedule (C.P.follows .mixedOrders) l.toArray tp) t h
 intro tp
 unfold Region.schedule
 rw[hm]
 simp only[Bool.true_or,if_true]
 exact main _
variable {l:List Oper} {Q:Exit→Env→Heap→Prop} {k:Nat} {t0 tc:Env} {ops:Array Oper} {dst:Option Tmp} {ty:TypeId} {pos:String} {aft:Array Edge} {K:AVal→Heap→Prop}
@[congr] theorem un(i:Nat)(m:List Bool)(P:Env→Heap→Prop){h h':Heap}(e:h=h'):stepE C l t0 i m P tc h=stepE C l t0 i m P tc h':=by rw[e]
@[congr] theorem xX(tr:ET){h h':Heap}(e:h=h'):WPe C Q l k t0 tr tc h=WPe C Q l k t0 tr tc h':=by rw[e]
@[go_sem] theorem Ah(i:Nat)(m:List Bool)(P:Env→Heap→Prop):stepE C l t0 i m P tc h=need (l[i]?) fun o=>wpOperV C l.toArray o tc h fun v h'=>(WPp C l.toArray (maskL m l) t0 h' fun t''=>agrL (wrM m l) t'' t0)∧P (put tc o.dst v) h':=(rfl)
attribute [go_sem] List.drop_succ_cons List.drop_zero
variable {t:Env} {e:TypeId} {T:TypeId}
@[go_sem] theorem xY:wpOperV C ops ⟨dst,.alloc e,ty,pos,aft,none⟩ t h K=
  need (zroT C.P e) fun z=>0<z.cells.length∧z.cells.all AVal.sto=true∧z.lies=true∧K (.hp h.length 0 0 0) (h++[.row e z.cells.length 0 [z]]):=(rfl)
@[go_sem] theorem xZ(x y:Operand):wpOperV C ops ⟨dst,.store T x y,ty,pos,aft,none⟩ t h K=storeK C T (aev C.G t x) (aev C.G t y) h (fun h'=>K undefA h'):=(rfl)
@[go_sem] theorem Ce(rest:List Oper)(K:Env→Prop):WPp C ops (nopO::rest) t h K=WPp C ops rest t h K:=pF (dst:=none) (.const (.bool false))
@[congr] theorem vK{l l':List Oper}{t t':Env}{h h':Heap}{K:Env→Prop}(e1:l=l')(e2:t=t')(e3:h=h'):WPp C ops l t h K=WPp C ops l' t' h' K:=by rw[e1,e2,e3]
@[go_sem] theorem y7(T:TypeId)(x:Operand)(f:Nat)(rest:List Oper)(K:Env→Prop):WPp C ops (⟨dst,.field T x f,ty,pos,aft,none⟩::rest) t h K=
  need (fOff C.P T f) fun q=>need (match aev C.G t x with| .agg cs=>pickT C.P q.2.1 (cs.drop q.1)|_=>none) fun v=>WPp C ops rest (put t dst v) h K:=
 aQ (E:=fun k=>need (fOff C.P T f) fun q=>need (match aev C.G t x with| .agg cs=>pickT C.P q.2.1 (cs.drop q.1)|_=>none) k) (Det.need _ fun q=>Det.need' _) fun KK=>by
  simp only[wpOp];congr;funext ⟨o,a,b⟩;simp only[];generalize aev C.G t x=v;cases v<;>rfl
@[go_sem] theorem Ai(f:Operand)(args:Array Operand)(Ts:Array TypeId):wpOperV C ops ⟨dst,.call ⟨.value f,args,Ts⟩,ty,pos,aft,none⟩ t h K=callK C (aev C.G t f) (args.toList.map (aev C.G t)) h K:=by
 show wpCall C ⟨.value f,args,Ts⟩ t h K=_
 rfl
@[go_sem] theorem y8(parts:Array (Nat×Operand)):wpOperV C ops ⟨dst,.build T parts,ty,pos,aft,none⟩ t h K=need (buildA C T (parts.toList.map fun q=>(q.1,aev C.G t q.2))) fun v=>K v h:=by
 show wpOp C (.build T parts) t h K=_
 have:=ju (C:=C) (ops:= #[]) (Q:=fun _ t h=>K (t 0) h) (rest:=[]) (t:=t) (h:=h) (dst:=some 0) (ty:=0) (pos:= "") (aft:= #[]) T parts
 simpa [WPl,wpOper,put,upd]using this
theorem aw(g:WPl C l.toArray Q (l.drop k) tc h):WPe C Q l k t0 .fin tc h:=g
theorem ax{i:Nat}{m:List Bool}{s:ET}(g:stepE C l t0 i m (WPe C Q l k t0 s) tc h):WPe C Q l k t0 (.one i m s) tc h:=g
theorem ay{i j:Nat}{m m':List Bool}{s u:ET}(g:stepE C l t0 i m (WPe C Q l k t0 s) tc h)(g':stepE C l t0 j m' (WPe C Q l k t0 u) tc h):WPe C Q l k t0 (.two i m s j m' u) tc h:=⟨g,g'⟩
end
end Go.Av
