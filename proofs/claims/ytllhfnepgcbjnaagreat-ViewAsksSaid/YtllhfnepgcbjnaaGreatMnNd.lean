/- Parts. -/
import Derived.Test.YtllhfnepgcbjnaaGreatMnHa
import Derived.Lib.TrimUEq
set_option linter.unusedSimpArgs false
set_option linter.unusedVariables false
set_option linter.unusedSectionVars false
set_option linter.unnecessarySimpa false
set_option maxRecDepth 100000
set_option maxHeartbeats 16000000
namespace Go.Av
open Go Go.Proofs Go.RowKit
attribute [local irreducible] WP WPl WPix Sat
variable (G:Nat→Option (List AVal))
def bytA(b:UInt8):AVal:=.int .u8 b.toNat
def bldR(a:AVal)(q v:Nat)(s:Bs):Blk:=.row 237 2 0 [.agg [a,.hs q v 0 s.length true]]
def bufR(v:Nat)(s:Bs):Blk:=.row 5 1 v (s.map bytA)
def bldA(a:AVal)(p:Nat):Prop:=a=.nil (.pointer none)∨a=.hp p 0 0 0
theorem gB(s:Bs):bytesA (s.map bytA)=some s:=by
 induction s with
 |nil=>rfl
 |cons b s ih=>
  have hb:(UInt8.ofNat (b.toNat:Int).toNat)=b:=by simp
  simp only[N7,bytA,bytesA,hb,if_true];show(bytesA (s.map bytA)).map _=_;rw[ih];rfl
@[go_sem] theorem BU(a:AVal)(q v:Nat)(s:Bs)(l:Heap):getRow (bldR a q v s::l) 0 0=some (237,2,[.agg [a,.hs q v 0 s.length true]]):=rfl
theorem bE(v:Nat)(s:Bs)(l:Heap):getRow (bufR v s::l) 0 v=some (5,1,s.map bytA):=by simp[getRow,bufR]
theorem qG:ptrConv Tryz.prog 235 251 237 2=true:=by kernel_rfl
theorem ng:ptrConv Tryz.prog 251 235 237 2=true:=by kernel_rfl
theorem zi:ptrT Tryz.prog 235=true:=by kernel_rfl
attribute [go_sem] qG ng
theorem xA(n p q v:Nat)(s:Bs)(hp:p<n)(hq:q<n):CloB n (bldR (.hp p 0 0 0) q v s):=by
 intro r hr;simp only[Y6]at hr;subst hr;refine .agg _ fun c hc=>?_
 simp only[N2,X0,or_false]at hc;rcases hc with rfl|rfl
 ·exact .hp _ _ _ _ hp
 ·exact .hs _ _ _ _ _ hq
theorem la(n v:Nat)(s:Bs):CloB n (bufR v s):=by
 intro r hr;obtain⟨b,_,rfl⟩:=N0.1 hr;exact .int _ _
theorem vA(h:Heap)(p:Nat)(hr:(getRow h p 0).isSome=true):abin Tryz.prog h .neq 235 (.hp p 0 0 0) (.hp p 0 0 0)=some (.bool false):=by
 simp[abin,hr,zi]
theorem t7(h:Heap)(p:Nat)(x:TypeId×Nat×List AVal)(hr:getRow h p 0=some x):abin Tryz.prog h .eql 235 (.hp p 0 0 0) (.nil (.pointer none))=some (.bool false):=by
 have hk:nilKind Tryz.prog 235 (.pointer none)=true:=by kernel_rfl
 simp[abin,hk,aeqNil,hr]
theorem xB(h:Heap):abin Tryz.prog h .eql 235 (.nil (.pointer none)) (.nil (.pointer none))=some (.bool true):=by
 have hk:nilKind Tryz.prog 235 (.pointer none)=true:=by kernel_rfl
 simp[abin,hk,aeqNil]
theorem BV{h j:Heap}{x y x' y':Blk}{n:Nat}(hx:CloB n x')(hy:CloB n y'):∀(p:Nat) (k:Blk),(h++x'::y'::j)[p]? =some k→(h++x::y::j)[p]? =some k∨CloB n k:=by
 intro p k hk;rcases Z6 p h.length with h1|h1
 ·rw[M6 h1]at hk ⊢;exact .inl hk
 ·rw[M9 h1]at hk ⊢
  match p-h.length,hk with
  |0,hk=>simp at hk;subst hk;exact .inr hx
  |1,hk=>simp at hk;subst hk;exact .inr hy
  |i+2,hk=>exact .inl (by simpa using hk)
def bldH(h j:Heap)(a:AVal)(v:Nat)(s:Bs):Heap:=h++bldR a (h.length+1) v s::bufR v s::j
theorem cM(h j:Heap)(a:AVal)(v:Nat)(s:Bs):(bldH h j a v s).length=h.length+(2+j.length):=by simp[bldH];omega
theorem iq(h j:Heap)(a:AVal)(v v':Nat)(s s':Bs):∀(p:Nat) (k:Blk),(bldH h j (.hp h.length 0 0 0) v' s')[p]? =some k→(bldH h j a v s)[p]? =some k∨CloB (bldH h j a v s).length k:=by
 rw[cM];exact BV (xA _ _ _ _ _ (by omega) (by omega)) (la _ _ _)
theorem gR(a:AVal)(h j:Heap)(v:Nat)(s:Bs)(ha:bldA a h.length):
  Sat (CT G) 232 [.hp h.length 0 0 0] (bldH h j a v s) (fun r h'=>r=.tup []∧h'=bldH h j (.hp h.length 0 0 0) v s):=by
 have hK:=iq h j a v v s s;have hl:=(cM h j (.hp h.length 0 0 0) v s).trans (cM h j a v s).symm;have hfin:∀t',Fin (bldH h j a v s) (bldH h j (.hp h.length 0 0 0) v s) (fun r h'=>r=.tup []∧h'=bldH h j (.hp h.length 0 0 0) v s) t'∨True:=fun _=>.inr trivial
 have end_:Fin (bldH h j a v s) (bldH h j (.hp h.length 0 0 0) v s) (fun r h'=>r=.tup []∧h'=bldH h j (.hp h.length 0 0 0) v s) (.tup []):=Fin.keep0 hl hK (.tup _ (by simp)) ⟨rfl,rfl⟩;clear hfin hK hl;unfold bldH at*;refine sb [] Tryz.func232 ?_;intro Q hQ;refine bJ trivial ?_;rcases ha with rfl|rfl
 ·rw[sD,xB];simp(disch:=first|omega| (simp only[go_sem, ↓reduceIte,Nat.reduceEqDiff];done)|fail) only[go_sem, ↓reduceIte,Int.reduceToNat,Int.reduceLE,Int.reduceLT,Int.reduceSub,Int.reduceAdd,Nat.reduceEqDiff,Nat.reduceAdd,Nat.reduceLeDiff,Nat.reduceLT,Nat.reduceMul,Nat.reduceSub];refine bJ trivial ?_;refine⟨by simp,?_⟩;refine(nf G _ _).mono ?_;rintro r h' ⟨rfl,rfl⟩;simp(disch:=first|omega| (simp only[go_sem, ↓reduceIte,Nat.reduceEqDiff];done)|fail) only[go_sem, ↓reduceIte,Int.reduceToNat,Int.reduceLE,Int.reduceLT,Int.reduceSub,Int.reduceAdd,Nat.reduceEqDiff,Nat.reduceAdd,Nat.reduceLeDiff,Nat.reduceLT,Nat.reduceMul,Nat.reduceSub,List.cons_ne_nil];refine(hQ _ _ ?_).2;simp(disch:=first|omega| (simp only[go_sem, ↓reduceIte,Nat.reduceEqDiff];done)|fail) only[go_sem, ↓reduceIte,Int.reduceToNat,Int.reduceLE,Int.reduceLT,Int.reduceSub,Int.reduceAdd,Nat.reduceEqDiff,Nat.reduceAdd,Nat.reduceLeDiff,Nat.reduceLT,Nat.reduceMul,Nat.reduceSub];exact end_
 ·rw[uX,t7 _ _ _ (by simp(disch:=first|omega| (simp only[go_sem, ↓reduceIte,Nat.reduceEqDiff];done)|fail) only[go_sem, ↓reduceIte,Int.reduceToNat,Int.reduceLE,Int.reduceLT,Int.reduceSub,Int.reduceAdd,Nat.reduceEqDiff,Nat.reduceAdd,Nat.reduceLeDiff,Nat.reduceLT,Nat.reduceMul,Nat.reduceSub];rfl)];simp(disch:=first|omega| (simp only[go_sem, ↓reduceIte,Nat.reduceEqDiff];done)|fail) only[go_sem, ↓reduceIte,Int.reduceToNat,Int.reduceLE,Int.reduceLT,Int.reduceSub,Int.reduceAdd,Nat.reduceEqDiff,Nat.reduceAdd,Nat.reduceLeDiff,Nat.reduceLT,Nat.reduceMul,Nat.reduceSub];refine bJ trivial ?_;rw[vA _ _ (by exact fO trivial)];simp(disch:=first|omega| (simp only[go_sem, ↓reduceIte,Nat.reduceEqDiff];done)|fail) only[go_sem, ↓reduceIte,Int.reduceToNat,Int.reduceLE,Int.reduceLT,Int.reduceSub,Int.reduceAdd,Nat.reduceEqDiff,Nat.reduceAdd,Nat.reduceLeDiff,Nat.reduceLT,Nat.reduceMul,Nat.reduceSub];refine bJ trivial ?_;refine(hQ _ _ ?_).2;simp(disch:=first|omega| (simp only[go_sem, ↓reduceIte,Nat.reduceEqDiff];done)|fail) only[go_sem, ↓reduceIte,Int.reduceToNat,Int.reduceLE,Int.reduceLT,Int.reduceSub,Int.reduceAdd,Nat.reduceEqDiff,Nat.reduceAdd,Nat.reduceLeDiff,Nat.reduceLT,Nat.reduceMul,Nat.reduceSub];exact end_
theorem du:byT Tryz.prog 5=some 1:=by kernel_rfl
theorem cV(h:Heap)(es:List AVal):elemsOf h 1 (.sl 1 es)=some es:=by simp[elemsOf]
theorem fW:(zroT Tryz.prog 5).map (fun z=>z.cells.length)=some 1:=by simp only[go_sem]
theorem mh(a:AVal)(h j:Heap)(v:Nat)(s:Bs)(b:UInt8)(ha:bldA a h.length)(hs:s.length+1≤1073741824):
  Sat (CT G) 230 [.hp h.length 0 0 0,.int .u8 b.toNat] (bldH h j a v s) (fun r h'=>r=.nil .nilIface∧h'=bldH h j (.hp h.length 0 0 0) (v+1) (s++[b])):=by
 have end_:Fin (bldH h j a v s) (bldH h j (.hp h.length 0 0 0) (v+1) (s++[b])) (fun r h'=>r=.nil .nilIface∧h'=bldH h j (.hp h.length 0 0 0) (v+1) (s++[b])) (.nil .nilIface):=
  Fin.keep0 ((cM ..).trans (cM ..).symm) (iq _ _ _ _ _ _ _) (.nil _) ⟨rfl,rfl⟩
 refine sb [.tmp 4] Tryz.func230 ?_;intro Q hQ;refine bJ trivial ?_;refine(gR G a h j v s ha).mono ?_;rintro r h' ⟨rfl,rfl⟩;unfold bldH at*;try refine sJ trivial ?_
 refine bJ trivial ?_;refine bB (.inl rfl) (by exact fO trivial) (by exact fO trivial) du fW (by omega) (cV _ _) (by simp(disch:=first|omega| (simp only[go_sem, ↓reduceIte,Nat.reduceEqDiff];done)|fail) only[go_sem, ↓reduceIte,Int.reduceToNat,Int.reduceLE,Int.reduceLT,Int.reduceSub,Int.reduceAdd,Nat.reduceEqDiff,Nat.reduceAdd,Nat.reduceLeDiff,Nat.reduceLT,Nat.reduceMul,Nat.reduceSub,bE];rfl) (by simp) ?_ ?_
 ·simp[maxLen];omega
 simp(disch:=first|omega| (simp only[go_sem, ↓reduceIte,Nat.reduceEqDiff];done)|fail) only[go_sem, ↓reduceIte,Int.reduceToNat,Int.reduceLE,Int.reduceLT,Int.reduceSub,Int.reduceAdd,Nat.reduceEqDiff,Nat.reduceAdd,Nat.reduceLeDiff,Nat.reduceLT,Nat.reduceMul,Nat.reduceSub];refine bJ trivial ?_;refine j1 hQ trivial ?_;simp only[bldR,bufR,M5,Q5,M8,O7,N7,R9,bytA,Q9]at end_ ⊢;exact end_
theorem xC(a:AVal)(h j:Heap)(v:Nat)(s:Bs):Sat (CT G) 228 [.hp h.length 0 0 0] (bldH h j a v s) (fun r h'=>r=.int .i64 s.length∧h'=bldH h j a v s):=by
 have end_:Fin (bldH h j a v s) (bldH h j a v s) (fun r h'=>r=.int .i64 s.length∧h'=bldH h j a v s) (.int .i64 s.length):=O5 (.int _ _) ⟨rfl,rfl⟩;unfold bldH at*;have F:= @bE;refine sb [.tmp 2] Tryz.func228 ?_;intro Q hQ;refine bJ F ?_;refine bJ F ?_;refine j1 hQ F ?_;exact end_
theorem zj:bptr Tryz.prog 250 5=true:=by kernel_rfl
theorem jZ(a:AVal)(h j:Heap)(v:Nat)(s:Bs):Sat (CT G) 222 [.hp h.length 0 0 0] (bldH h j a v s) (fun r h'=>r=.str s∧∃b,h'=h++bldR a (h.length+1) v s::b::j):=by
 unfold bldH;have F:= @bE;refine sb [.tmp 2] Tryz.func222 ?_;intro Q hQ;refine bJ F ?_;have fin:∀b,Fin (h++bldR a (h.length+1) v s::bufR v s::j) (h++bldR a (h.length+1) v s::b::j) (fun r h'=>r=.str s∧∃b,h'=h++bldR a (h.length+1) v s::b::j) (.str s)∨¬(b=bufR v s∨b=.dead):=fun b=>by
  by_cases hb:b=bufR v s∨b=.dead
  ·refine .inl (Fin.keep0 (by simp) (fun p k hk=>?_) (.str _) ⟨rfl,b,rfl⟩);rcases Z6 p h.length with h1|h1
   ·rw[M6 h1]at hk ⊢;exact .inl hk
   ·rw[M9 h1]at hk ⊢
    match p-h.length,hk with
    |0,hk=>exact .inl (by simpa using hk)
    |1,hk=>
     simp at hk;subst hk;rcases hb with rfl|rfl
     ·exact .inl (by simp)
     ·exact .inr trivial
    |i+2,hk=>exact .inl (by simpa using hk)
  ·exact .inr hb
 rcases Nat.eq_zero_or_pos s.length with h0|h0
 ·have hs:s=[]:=U4.1 h0;subst hs;simp(disch:=first|omega| (simp only[go_sem, ↓reduceIte,Nat.reduceEqDiff];done)|fail) only[go_sem, ↓reduceIte,Int.reduceToNat,Int.reduceLE,Int.reduceLT,Int.reduceSub,Int.reduceAdd,Nat.reduceEqDiff,Nat.reduceAdd,Nat.reduceLeDiff,Nat.reduceLT,Nat.reduceMul,Nat.reduceSub,F,O7,Nat.lt_irrefl,Int.natCast_zero];refine bJ F ?_;refine j1 hQ F ?_;rcases fin (bufR v [])with f|f
  ·exact f
  ·exact absurd (.inl rfl) f
 ·simp(disch:=first|omega| (simp only[go_sem, ↓reduceIte,Nat.reduceEqDiff];done)|fail) only[go_sem, ↓reduceIte,Int.reduceToNat,Int.reduceLE,Int.reduceLT,Int.reduceSub,Int.reduceAdd,Nat.reduceEqDiff,Nat.reduceAdd,Nat.reduceLeDiff,Nat.reduceLT,Nat.reduceMul,Nat.reduceSub,F,h0];refine uY h0 (by simp(disch:=first|omega| (simp only[go_sem, ↓reduceIte,Nat.reduceEqDiff];done)|fail) only[go_sem, ↓reduceIte,Int.reduceToNat,Int.reduceLE,Int.reduceLT,Int.reduceSub,Int.reduceAdd,Nat.reduceEqDiff,Nat.reduceAdd,Nat.reduceLeDiff,Nat.reduceLT,Nat.reduceMul,Nat.reduceSub,F];rfl) zj (by simp) (by rw[M4 (by simp)];exact gB s) ?_;try refine sJ F ?_
  refine bJ F ?_;refine j1 hQ F ?_;rcases fin .dead with f|f
  ·exact f
  ·exact absurd (.inr rfl) f
def enc(r:Int):Bs:=(Utf8.encode r).data.toList
def Rune(r:Int):Prop:=0≤r∧(r<55296∨57343<r∧r≤1114111)
theorem Rune.valid{r:Int}(h:Rune r):Utf8.valid r=true:=by
 unfold Utf8.valid;obtain⟨h0,h1⟩:=h;simp;omega
theorem bv(n:Nat)(h:n<256):bytA (UInt8.ofNat n)=.int .u8 n:=by
 simp[bytA];omega
theorem zk{r:Int}(h0:0≤r)(h1:r<128):(enc r).map bytA=[.int .u8 r]:=by
 have hv:=Rune.valid (r:=r) ⟨h0,by omega⟩;unfold enc Utf8.encode;simp only[hv,if_true];rw[M1 (by omega)];simp only[N7,R9];rw[bv _ (by omega)];simp only[zc1,AVal.int.injEq,and_true,true_and];omega
theorem zl{r:Int}(h0:128≤r)(h1:r<2048):(enc r).map bytA=[.int .u8 (192+r/64),.int .u8 (128+r%64)]:=by
 have hv:=Rune.valid (r:=r) ⟨by omega,by omega⟩;unfold enc Utf8.encode;simp only[hv,if_true];rw[L5 (by omega),M1 (by omega)];simp only[N7,R9];rw[bv _ (by omega),bv _ (by omega)];simp only[zc1,AVal.int.injEq,and_true,true_and];omega
theorem vB{r:Int}(h:Rune r)(h0:2048≤r)(h1:r<65536):(enc r).map bytA=[.int .u8 (224+r/4096),.int .u8 (128+r/64%64),.int .u8 (128+r%64)]:=by
 have hv:=h.valid;unfold enc Utf8.encode;simp only[hv,if_true];rw[L5 (by omega),L5 (by omega),M1 (by omega)];simp only[N7,R9];rw[bv _ (by omega),bv _ (by omega),bv _ (by omega)];simp only[zc1,AVal.int.injEq,and_true,true_and];omega
theorem zm{r:Int}(h0:65536≤r)(h1:r≤1114111):(enc r).map bytA=[.int .u8 (240+r/262144),.int .u8 (128+r/4096%64),.int .u8 (128+r/64%64),.int .u8 (128+r%64)]:=by
 have hv:=Rune.valid (r:=r) ⟨by omega,by omega⟩;unfold enc Utf8.encode;simp only[hv,if_true];rw[L5 (by omega),L5 (by omega),L5 (by omega)];simp only[N7,R9];rw[bv _ (by omega),bv _ (by omega),bv _ (by omega),bv _ (by omega)];simp only[zc1,AVal.int.injEq,and_true,true_and];omega
theorem eF(r:Int):1≤(enc r).length∧(enc r).length≤4:=by
 unfold enc Utf8.encode;simp only[];generalize (if Utf8.valid r=true then r.toNat else Utf8.runeError)=c;by_cases h1:c<128
 ·rw[M1 h1];exact⟨by simp,by simp⟩
 ·rw[L5 h1];by_cases h2:c<2048
  ·rw[M1 h2];exact⟨by simp,by simp⟩
  ·rw[L5 h2];by_cases h3:c<65536
   ·rw[M1 h3];exact⟨by simp,by simp⟩
   ·rw[L5 h3];exact⟨by simp,by simp⟩
theorem ld(P:Program)(h:Heap)(T:TypeId)(a b:Int)(k:IntKind)(hb:0≤b)(hb2:b<32):abin P h .shr T (.int .i32 a) (.int k b)=some (.int .i32 (a/2^b.toNat)):=by
 simp only[abin];rw[L5 (by omega)];have:min b.toNat (IntKind.bits .i32)=b.toNat:=by simp[IntKind.bits];omega
 rw[this,Int.fdiv_eq_ediv_of_nonneg _ (by exact Int.le_of_lt (Int.pow_pos (by omega)))]
theorem wrap_u8(x:Int):IntKind.wrap .u8 x=x%256:=IntKind.wrap_u8 x
theorem wrap_u32(x:Int)(h0:0≤x)(h1:x<4294967296):IntKind.wrap .u32 x=x:=by rw[IntKind.wrap_u32];omega
theorem iF(n m:Nat)(h:n+m<256)(hh:∀x:_root_.Fin 256,x.val≤m→(BitVec.ofInt 8 n|||BitVec.ofInt 8 (x.val:Int)).toNat=n+x.val)(x:Int)(h0:0≤x)(h1:x≤m):aint .or .u8 n x=some (.int .u8 (n+x)):=by
 have e:(BitVec.ofInt 8 n|||BitVec.ofInt 8 ((x.toNat:Nat):Int)).toNat=n+x.toNat:=hh ⟨x.toNat,by omega⟩ (by simp;omega);rw[show x=((x.toNat:Nat):Int)from by omega];show some (AVal.int .u8 (IntKind.wrap .u8 (BitVec.ofInt 8 n|||BitVec.ofInt 8 ((x.toNat:Nat):Int)).toNat))=_;rw[e,wrap_u8];congr 2;omega
theorem BW(x:Int)(h0:0≤x)(h1:x≤31):aint .or .u8 192 x=some (.int .u8 (192+x)):=iF 192 31 (by omega) (by decide+kernel) x h0 h1
theorem BX(x:Int)(h0:0≤x)(h1:x≤15):aint .or .u8 224 x=some (.int .u8 (224+x)):=iF 224 15 (by omega) (by decide+kernel) x h0 h1
theorem BY(x:Int)(h0:0≤x)(h1:x≤7):aint .or .u8 240 x=some (.int .u8 (240+x)):=iF 240 7 (by omega) (by decide+kernel) x h0 h1
theorem BZ(x:Int)(h0:0≤x)(h1:x≤63):aint .or .u8 128 x=some (.int .u8 (128+x)):=iF 128 63 (by omega) (by decide+kernel) x h0 h1
theorem C1(x:Int)(h0:0≤x)(h1:x<256):aint .and .u8 x 63=some (.int .u8 (x%64)):=by
 have hh:∀x:_root_.Fin 256,(BitVec.ofInt 8 (x.val:Int)&&&BitVec.ofInt 8 63).toNat=x.val%64:=by decide+kernel
 have e:(BitVec.ofInt 8 ((x.toNat:Nat):Int)&&&BitVec.ofInt 8 63).toNat=x.toNat%64:=hh ⟨x.toNat,by omega⟩;rw[show x=((x.toNat:Nat):Int)from by omega];show some (AVal.int .u8 (IntKind.wrap .u8 (BitVec.ofInt 8 ((x.toNat:Nat):Int)&&&BitVec.ofInt 8 63).toNat))=_;rw[e,wrap_u8];congr 2;omega
theorem qH(P:Program)(h:Heap)(T:TypeId)(x:Int)(h0:0≤x)(h1:x≤31):abin P h .or T (.int .u8 192) (.int .u8 x)=some (.int .u8 (192+x)):=by simpa only[abin,if_true]using BW x h0 h1
theorem qI(P:Program)(h:Heap)(T:TypeId)(x:Int)(h0:0≤x)(h1:x≤15):abin P h .or T (.int .u8 224) (.int .u8 x)=some (.int .u8 (224+x)):=by simpa only[abin,if_true]using BX x h0 h1
theorem qJ(P:Program)(h:Heap)(T:TypeId)(x:Int)(h0:0≤x)(h1:x≤7):abin P h .or T (.int .u8 240) (.int .u8 x)=some (.int .u8 (240+x)):=by simpa only[abin,if_true]using BY x h0 h1
theorem qK(P:Program)(h:Heap)(T:TypeId)(x:Int)(h0:0≤x)(h1:x≤63):abin P h .or T (.int .u8 128) (.int .u8 x)=some (.int .u8 (128+x)):=by simpa only[abin,if_true]using BZ x h0 h1
theorem qM(P:Program)(h:Heap)(T:TypeId)(x:Int)(h0:0≤x)(h1:x<256):abin P h .and T (.int .u8 x) (.int .u8 63)=some (.int .u8 (x%64)):=by simpa only[abin,if_true]using C1 x h0 h1
theorem G6(P:Program)(h:Heap)(T:TypeId)(a:Int):abin P h .shr T (.int .i32 a) (.int .u64 6)=some (.int .i32 (a/64)):=by rw[ld _ _ _ _ _ _ (by omega) (by omega)];rfl
theorem C2(P:Program)(h:Heap)(T:TypeId)(a:Int):abin P h .shr T (.int .i32 a) (.int .u64 12)=some (.int .i32 (a/4096)):=by rw[ld _ _ _ _ _ _ (by omega) (by omega)];rfl
theorem C3(P:Program)(h:Heap)(T:TypeId)(a:Int):abin P h .shr T (.int .i32 a) (.int .u64 18)=some (.int .i32 (a/262144)):=by rw[ld _ _ _ _ _ _ (by omega) (by omega)];rfl
theorem lK(k:IntKind)(n:Int):aconv Tryz.prog 21 5 (.int k n)=some (.int .u8 (n%256)):=by simp only[aconv,go_sem,wrap_u8]
theorem ka(k:IntKind)(n:Int)(h0:0≤n)(h1:n<4294967296):aconv Tryz.prog 21 212 (.int k n)=some (.int .u32 n):=by simp only[aconv,go_sem,wrap_u32 n h0 h1]
theorem fH(r:Int)(hr:Rune r)(h1:128≤r)(h j:Heap)(X:Blk)(v:Nat)(s:Bs)(hs:s.length≤1073741824):
  Sat (CT G) 237 [.hs (h.length+1) v 0 s.length true,.int .i32 r] (h++X::bufR v s::j)
   (fun x h'=>x=.hs (h.length+1) (v+1) 0 (s.length+(enc r).length) true∧h'=h++X::bufR (v+1) (s++enc r)::j):=by
 have end_:∀l,l=enc r→Fin (h++X::bufR v s::j) (h++X::bufR (v+1) (s++l)::j) (fun x h'=>x=.hs (h.length+1) (v+1) 0 (s.length+(enc r).length) true∧h'=h++X::bufR (v+1) (s++enc r)::j) (.hs (h.length+1) (v+1) 0 (s.length+l.length) true):=fun l hl=>by
  subst hl;refine Fin.keep0 (by simp) (fun p k hk=>?_) (.hs _ _ _ _ _ (by simp)) ⟨rfl,rfl⟩;rcases Z6 p h.length with h1|h1
  ·rw[M6 h1]at hk ⊢;exact .inl hk
  ·rw[M9 h1]at hk ⊢
   match p-h.length,hk with
   |0,hk=>exact .inl hk
   |1,hk=>simp at hk;subst hk;exact .inr (la _ _ _)
   |i+2,hk=>exact .inl hk
 have F:=F2 (F9 @lK @ka @G6 @C2 @C3 @qH @qI @qJ @qK) (F3 @qM @wrap_u8 @wrap_u32);obtain⟨hr0,hr1⟩:=hr;refine sb [.tmp 4] Tryz.func237 ?_;intro Q hQ;refine bJ F ?_;refine p7 F (fun hc=>?_) (fun hc=>?_)<;>(try exact hc.elim)<;>(refine bJ F ?_)
 ·refine bB (.inl rfl) (by exact fO F) (by exact fO F) du fW (by omega) (cV _ _) (by simp(disch:=first|omega| (simp only[go_sem, ↓reduceIte,Nat.reduceEqDiff];done)|fail) only[go_sem, ↓reduceIte,Int.reduceToNat,Int.reduceLE,Int.reduceLT,Int.reduceSub,Int.reduceAdd,Nat.reduceEqDiff,Nat.reduceAdd,Nat.reduceLeDiff,Nat.reduceLT,Nat.reduceMul,Nat.reduceSub,F,bE];rfl) (by simp) ?_ ?_
  ·simp[maxLen];omega
  simp(disch:=first|omega| (simp only[go_sem, ↓reduceIte,Nat.reduceEqDiff];done)|fail) only[go_sem, ↓reduceIte,Int.reduceToNat,Int.reduceLE,Int.reduceLT,Int.reduceSub,Int.reduceAdd,Nat.reduceEqDiff,Nat.reduceAdd,Nat.reduceLeDiff,Nat.reduceLT,Nat.reduceMul,Nat.reduceSub,F];refine bJ F ?_;refine j1 hQ F ?_;have e:=zl h1 (by omega);have le:(enc r).length=2:=by simpa using P9 List.length e
  have:=end_ _ rfl;simp only[bufR,Q5,e,le]at this;have m0:r/64%256=r/64:=by omega
  have m1:r%256%64=r%64:=by omega
  simp only[bufR,Q5,e,le,m0,m1,M8,O7,Q9,Nat.reduceAdd];exact this
 ·refine p7 F (fun hc=>?_) (fun hc=>?_)<;>(try exact hc.elim)<;>(refine bJ F ?_)
  ·refine p7 F (fun hc=>?_) (fun hc=>?_)<;>(try exact hc.elim)<;>(refine bJ F ?_)
   ·refine bB (.inl rfl) (by exact fO F) (by exact fO F) du fW (by omega) (cV _ _) (by simp(disch:=first|omega| (simp only[go_sem, ↓reduceIte,Nat.reduceEqDiff];done)|fail) only[go_sem, ↓reduceIte,Int.reduceToNat,Int.reduceLE,Int.reduceLT,Int.reduceSub,Int.reduceAdd,Nat.reduceEqDiff,Nat.reduceAdd,Nat.reduceLeDiff,Nat.reduceLT,Nat.reduceMul,Nat.reduceSub,F,bE];rfl) (by simp) ?_ ?_
    ·simp[maxLen];omega
    simp(disch:=first|omega| (simp only[go_sem, ↓reduceIte,Nat.reduceEqDiff];done)|fail) only[go_sem, ↓reduceIte,Int.reduceToNat,Int.reduceLE,Int.reduceLT,Int.reduceSub,Int.reduceAdd,Nat.reduceEqDiff,Nat.reduceAdd,Nat.reduceLeDiff,Nat.reduceLT,Nat.reduceMul,Nat.reduceSub,F];refine bJ F ?_;refine j1 hQ F ?_;have e:=vB ⟨hr0,hr1⟩ (by omega) (by omega);have le:(enc r).length=3:=(by simpa using P9 List.length e);have:=end_ _ rfl;simp only[bufR,Q5,e,le]at this;have m0:r/4096%256=r/4096:=(by omega);have m1:r/64%256%64=r/64%64:=(by omega);have m2:r%256%64=r%64:=(by omega);simp only[bufR,Q5,e,le,m0,m1,m2,M8,O7,Q9,Nat.reduceAdd];exact this
   ·exfalso;omega
  ·(first|refine Dg F (fun hg=>?_) (fun hg=>?_)|refine pqo F (fun hg=>?_) (fun hg=>?_))<;>(try exact hg.elim)<;>(try refine sJ F ?_)<;>(refine bJ F ?_)
   ·refine p7 F (fun hc=>?_) (fun hc=>?_)<;>(try exact hc.elim)<;>(refine bJ F ?_)
    ·refine bB (.inl rfl) (by exact fO F) (by exact fO F) du fW (by omega) (cV _ _) (by simp(disch:=first|omega| (simp only[go_sem, ↓reduceIte,Nat.reduceEqDiff];done)|fail) only[go_sem, ↓reduceIte,Int.reduceToNat,Int.reduceLE,Int.reduceLT,Int.reduceSub,Int.reduceAdd,Nat.reduceEqDiff,Nat.reduceAdd,Nat.reduceLeDiff,Nat.reduceLT,Nat.reduceMul,Nat.reduceSub,F,bE];rfl) (by simp) ?_ ?_
     ·simp[maxLen];omega
     simp(disch:=first|omega| (simp only[go_sem, ↓reduceIte,Nat.reduceEqDiff];done)|fail) only[go_sem, ↓reduceIte,Int.reduceToNat,Int.reduceLE,Int.reduceLT,Int.reduceSub,Int.reduceAdd,Nat.reduceEqDiff,Nat.reduceAdd,Nat.reduceLeDiff,Nat.reduceLT,Nat.reduceMul,Nat.reduceSub,F];refine bJ F ?_;refine j1 hQ F ?_;have e:=vB ⟨hr0,hr1⟩ (by omega) (by omega);have le:(enc r).length=3:=(by simpa using P9 List.length e);have:=end_ _ rfl;simp only[bufR,Q5,e,le]at this;have m0:r/4096%256=r/4096:=(by omega);have m1:r/64%256%64=r/64%64:=(by omega);have m2:r%256%64=r%64:=(by omega);simp only[bufR,Q5,e,le,m0,m1,m2,M8,O7,Q9,Nat.reduceAdd];exact this
    ·(first|refine Dg F (fun hg=>?_) (fun hg=>?_)|refine pqo F (fun hg=>?_) (fun hg=>?_))<;>(try exact hg.elim)<;>(try refine sJ F ?_)<;>(refine bJ F ?_)
     ·refine p7 F (fun hc=>?_) (fun hc=>?_)<;>(try exact hc.elim)<;>(refine bJ F ?_)
      ·refine bB (.inl rfl) (by exact fO F) (by exact fO F) du fW (by omega) (cV _ _) (by simp(disch:=first|omega| (simp only[go_sem, ↓reduceIte,Nat.reduceEqDiff];done)|fail) only[go_sem, ↓reduceIte,Int.reduceToNat,Int.reduceLE,Int.reduceLT,Int.reduceSub,Int.reduceAdd,Nat.reduceEqDiff,Nat.reduceAdd,Nat.reduceLeDiff,Nat.reduceLT,Nat.reduceMul,Nat.reduceSub,F,bE];rfl) (by simp) ?_ ?_
       ·simp[maxLen];omega
       simp(disch:=first|omega| (simp only[go_sem, ↓reduceIte,Nat.reduceEqDiff];done)|fail) only[go_sem, ↓reduceIte,Int.reduceToNat,Int.reduceLE,Int.reduceLT,Int.reduceSub,Int.reduceAdd,Nat.reduceEqDiff,Nat.reduceAdd,Nat.reduceLeDiff,Nat.reduceLT,Nat.reduceMul,Nat.reduceSub,F];refine bJ F ?_;refine j1 hQ F ?_;have e:=zm (r:=r) (by omega) (by omega);have le:(enc r).length=4:=(by simpa using P9 List.length e);have:=end_ _ rfl;simp only[bufR,Q5,e,le]at this;have m0:r/262144%256=r/262144:=(by omega);have m1:r/4096%256%64=r/4096%64:=(by omega);have m2:r/64%256%64=r/64%64:=(by omega);have m3:r%256%64=r%64:=(by omega);simp only[bufR,Q5,e,le,m0,m1,m2,m3,M8,O7,Q9,Nat.reduceAdd];exact this
      ·exfalso;omega
     ·exfalso;omega
   ·exfalso;omega
theorem lf(r:Int)(hr:Rune r)(h j:Heap)(X:Blk)(v:Nat)(s:Bs)(hs:s.length≤1073741824):
  Sat (CT G) 233 [.hs (h.length+1) v 0 s.length true,.int .i32 r] (h++X::bufR v s::j)
   (fun x h'=>x=.hs (h.length+1) (v+1) 0 (s.length+(enc r).length) true∧h'=h++X::bufR (v+1) (s++enc r)::j):=by
 have end_:∀l,l=enc r→Fin (h++X::bufR v s::j) (h++X::bufR (v+1) (s++l)::j) (fun x h'=>x=.hs (h.length+1) (v+1) 0 (s.length+(enc r).length) true∧h'=h++X::bufR (v+1) (s++enc r)::j) (.hs (h.length+1) (v+1) 0 (s.length+l.length) true):=fun l hl=>by
  subst hl;refine Fin.keep0 (by simp) (fun p k hk=>?_) (.hs _ _ _ _ _ (by simp)) ⟨rfl,rfl⟩;rcases Z6 p h.length with h1|h1
  ·rw[M6 h1]at hk ⊢;exact .inl hk
  ·rw[M9 h1]at hk ⊢
   match p-h.length,hk with
   |0,hk=>exact .inl hk
   |1,hk=>simp at hk;subst hk;exact .inr (la _ _ _)
   |i+2,hk=>exact .inl hk
 have hr':=hr;obtain⟨hr0,hr1⟩:=hr;have F:=F2 @lK @ka;refine sb [.tmp 4] Tryz.func233 ?_;intro Q hQ;refine bJ F ?_;refine p7 F (fun hc=>?_) (fun hc=>?_)<;>(try exact hc.elim)<;>(refine bJ F ?_)
 ·refine bB (.inl rfl) (by exact fO F) (by exact fO F) du fW (by omega) (cV _ _) (by simp(disch:=first|omega| (simp only[go_sem, ↓reduceIte,Nat.reduceEqDiff];done)|fail) only[go_sem, ↓reduceIte,Int.reduceToNat,Int.reduceLE,Int.reduceLT,Int.reduceSub,Int.reduceAdd,Nat.reduceEqDiff,Nat.reduceAdd,Nat.reduceLeDiff,Nat.reduceLT,Nat.reduceMul,Nat.reduceSub,F,bE];rfl) (by simp) ?_ ?_
  ·simp[maxLen];omega
  simp(disch:=first|omega| (simp only[go_sem, ↓reduceIte,Nat.reduceEqDiff];done)|fail) only[go_sem, ↓reduceIte,Int.reduceToNat,Int.reduceLE,Int.reduceLT,Int.reduceSub,Int.reduceAdd,Nat.reduceEqDiff,Nat.reduceAdd,Nat.reduceLeDiff,Nat.reduceLT,Nat.reduceMul,Nat.reduceSub,F];refine bJ F ?_;refine j1 hQ F ?_;have e:=zk (r:=r) (by omega) (by omega);have le:(enc r).length=1:=by simpa using P9 List.length e
  have:=end_ _ rfl;simp only[bufR,Q5,e,le]at this;have m0:r%256=r:=by omega
  simp only[bufR,Q5,e,le,m0,M8,O7,Q9,Nat.reduceAdd];exact this
 ·refine Dj F (fH G r hr' (by omega) h j X v s hs) ?_;refine j1 hQ F ?_;exact end_ _ rfl
theorem dY(a:AVal)(r:Int)(hr:Rune r)(h j:Heap)(v:Nat)(s:Bs)(ha:bldA a h.length)(hs:s.length≤1073741824):
  Sat (CT G) 220 [.hp h.length 0 0 0,.int .i32 r] (bldH h j a v s) (fun x h'=>x=.tup [.int .i64 (enc r).length,.nil .nilIface]∧h'=bldH h j (.hp h.length 0 0 0) (v+1) (s++enc r)):=by
 have end_:Fin (bldH h j a v s) (bldH h j (.hp h.length 0 0 0) (v+1) (s++enc r)) (fun x h'=>x=.tup [.int .i64 (enc r).length,.nil .nilIface]∧h'=bldH h j (.hp h.length 0 0 0) (v+1) (s++enc r)) (.tup [.int .i64 (enc r).length,.nil .nilIface]):=
  Fin.keep0 ((cM ..).trans (cM ..).symm) (iq _ _ _ _ _ _ _) (.tup _ (by intro c hc;simp at hc;rcases hc with rfl|rfl;exact .int _ _;exact .nil _)) ⟨rfl,rfl⟩
 have F:= @bE;refine sb [.tmp 4,.tmp 5] Tryz.func220 ?_;intro Q hQ;refine bJ F ?_;refine(gR G a h j v s ha).mono ?_;rintro x h' ⟨rfl,rfl⟩;unfold bldH at*;try refine sJ F ?_
 refine bJ F ?_;refine Dj F (lf G r hr h j _ v s hs) ?_;refine(hQ _ _ ?_).1;simp(disch:=first|omega| (simp only[go_sem, ↓reduceIte,Nat.reduceEqDiff];done)|fail) only[go_sem, ↓reduceIte,Int.reduceToNat,Int.reduceLE,Int.reduceLT,Int.reduceSub,Int.reduceAdd,Nat.reduceEqDiff,Nat.reduceAdd,Nat.reduceLeDiff,Nat.reduceLT,Nat.reduceMul,Nat.reduceSub,F];have hl:=eF r;simp only[bldR,bufR,M5,Q5]at end_ ⊢;rw[show IntKind.wrap .i64 (((s.length+(enc r).length:Nat):Int)-(s.length:Nat))=((enc r).length:Nat)from by rw[lD (by omega) (by omega)];omega];exact end_
end Go.Av
namespace Go.Av
open Go Go.Proofs Go.RowKit
def dec(s:Bs)(k:Nat):Nat×Nat:=Utf8.decode ⟨s.toArray⟩ k
theorem ft(s:Bs)(k:Nat):dec s k=Lib.decodeN (s.length-k) (s.getD k 0).toNat (s.getD (k+1) 0).toNat (s.getD (k+2) 0).toNat (s.getD (k+3) 0).toNat:=by
 unfold dec;rw[Lib.decode_N]
theorem bf(n:Nat)(h:n<256):(UInt8.ofNat n).toNat=n:=by simp;omega
def fix(r:Int):Nat:=if Utf8.valid r=true then r.toNat else Utf8.runeError
theorem zn(r:Int):fix r≤1114111:=by
 unfold fix Utf8.valid Utf8.runeError;split
 ·rename_i h;simp at h;omega
 ·omega
theorem xD(r:Int):fix r<55296∨57344≤fix r:=by
 unfold fix Utf8.valid Utf8.runeError;split
 ·rename_i h;simp at h;omega
 ·omega
theorem pj(r:Int):enc r=let c:=fix r
  if c<0x80 then [UInt8.ofNat c]
  else if c<0x800 then [UInt8.ofNat (0xC0+c/64),UInt8.ofNat (0x80+c%64)]
  else if c<0x10000 then [UInt8.ofNat (0xE0+c/4096),UInt8.ofNat (0x80+c/64%64),UInt8.ofNat (0x80+c%64)]
  else [UInt8.ofNat (0xF0+c/262144),UInt8.ofNat (0x80+c/4096%64),UInt8.ofNat (0x80+c/64%64),UInt8.ofNat (0x80+c%64)]:=by
 unfold enc Utf8.encode fix;simp only[];split
 ·split
  ·rfl
  ·split
   ·rfl
   ·split<;>rfl
 ·rfl
theorem br(s:Bs)(k:Nat)(h:k<s.length):1≤(dec s k).2∧k+(dec s k).2≤s.length:=by
 rw[ft];refine⟨Lib.decodeN_ge1 _ _ _ _ _,?_⟩;unfold Lib.decodeN;repeat (first|split| (simp only[];omega))
theorem lL(s:Bs)(k:Nat)(b:UInt8)(h:s[k]? =some b)(ha:b.toNat<128):dec s k=(b.toNat,1):=by
 rw[ft,V1,h];exact Lib.decodeN_ascii _ _ _ _ _ ha
theorem vC(s:Bs)(k:Nat)(b:UInt8)(h:s[k]? =some b)(ha:128≤b.toNat):
  128≤(dec s k).1∧((dec s k).1<55296∨57343<(dec s k).1∧(dec s k).1≤1114111)∧∀i,i<(dec s k).2→∀c,s[k+i]? =some c→128≤c.toNat:=by
 have hb:s.getD k 0=b:=by rw[V1,h];rfl
 have at_:∀i c,s[k+i]? =some c→s.getD (k+i) 0=c:=fun i c hc=>by rw[V1,hc];rfl
 have l0:∀i,(s.getD i 0).toNat<256:=fun i=>(s.getD i 0).toNat_lt
 have e1:=l0 (k+1);have e2:=l0 (k+2);have e3:=l0 (k+3);have e0:=b.toNat_lt
 rw[ft,hb];generalize h1:(s.getD (k+1) 0).toNat=b1 at*;generalize h2:(s.getD (k+2) 0).toNat=b2 at*;generalize h3:(s.getD (k+3) 0).toNat=b3 at*;have key:∀i c,s[k+i]? =some c→(i=0→c.toNat=b.toNat)∧(i=1→c.toNat=b1)∧(i=2→c.toNat=b2)∧(i=3→c.toNat=b3):=fun i c hc=>by
  have:=at_ i c hc;refine⟨fun e=>?_,fun e=>?_,fun e=>?_,fun e=>?_⟩<;>subst e
  ·rw[← this];simp only[Y9];rw[hb]
  ·rw[← h1,this]
  ·rw[← h2,this]
  ·rw[← h3,this]
 generalize s.length-k=n;have fin:∀x m:Nat,(128≤x∧(x<55296∨57343<x∧x≤1114111))→(∀i,i<m→(i=0∧128≤b.toNat)∨(i=1∧128≤b1)∨(i=2∧128≤b2)∨(i=3∧128≤b3))→
   128≤(x,m).1∧((x,m).1<55296∨57343<(x,m).1∧(x,m).1≤1114111)∧∀i,i<(x,m).2→∀c,s[k+i]? =some c→128≤c.toNat:=fun x m hx hm=>
  ⟨hx.1,hx.2,fun i hi c hc=>by
   obtain⟨k0,k1,k2,k3⟩:=key i c hc;rcases hm i hi with⟨e,h⟩| ⟨e,h⟩| ⟨e,h⟩| ⟨e,h⟩
   ·rw[k0 e];exact h
   ·rw[k1 e];exact h
   ·rw[k2 e];exact h
   ·rw[k3 e];exact h⟩
 unfold Lib.decodeN;rw[L5 (by omega)];split
 ·split
  ·exact fin _ _ (by omega) (fun i hi=>by omega)
  ·exact fin _ _ (by omega) (fun i hi=>by omega)
 ·split
  ·split
   ·exact fin _ _ (by omega) (fun i hi=>by omega)
   ·exact fin _ _ (by omega) (fun i hi=>by omega)
  ·split
   ·split
    ·exact fin _ _ (by omega) (fun i hi=>by omega)
    ·exact fin _ _ (by omega) (fun i hi=>by omega)
   ·exact fin _ _ (by omega) (fun i hi=>by omega)
end Go.Av
namespace Go.Av
open Go Go.Proofs Go.RowKit
attribute [local irreducible] WP WPl WPix Sat
variable (G:Nat→Option (List AVal))
theorem cm{x:Int}(h0: -2147483648≤x)(h1:x≤2147483647):IntKind.i32.wrap x=x:=by
 simp only[IntKind.wrap,IntKind.bits,IntKind.signed];simp;omega
theorem pk(h j:Heap)(s:Bs)(q:Nat):(h++Blk.iter s q::j)[h.length]? =some (.iter s q):=by simp
end Go.Av
namespace Go.Av
open Go Go.Proofs Go.RowKit Go.Lib
section
variable {C:Ctx} {B:Nat} {S:Addr→Prop} {μ:Map} {h:Heap} {w w':World}
theorem vD(f:Fits C B S μ h w)(hb:Below w.heap.size w w'){g cap:Nat}{cur:Array Value}{e:TypeId}{ls:List Bs}(hg:w.heap.size≤g)(hheap:w'.heap[g]? =some (.cells cur e (0,0)))
  (hn:ls.length≤cap)(h0:0<cap)(hm:cap≤maxLen)(hsz:cur.size=cap)(hget:∀(i:Nat) (a:Bs),ls[i]? =some a→cur[i]? =some (.string ⟨a.toArray⟩)):
  Fits C B S (μ++[⟨some g,0,1,cap⟩]) (h++[.row e 1 0 (ls.map .str)]) w'∧Step B S μ w S (μ++[⟨some g,0,1,cap⟩]) w':=by
 obtain⟨f',st⟩:=f.grown hb;have hgl:g<w'.heap.size:=(O6.1 hheap).1;have st2:Step B S μ w' S (μ++[⟨some g,0,1,cap⟩]) w':=⟨fun a ha=>ha,fun _ _=>rfl,za5 _ _,eP _ _,fun a ha=>.inl ha⟩
 refine⟨⟨fun g' cs hg'=>(f'.glob g' cs hg').mono st2,by simp[f'.len],?_,?_,f'.base,f'.lie,?_⟩,st.trans st2⟩
 ·intro p q m1 m2 b h1 h2 e1 e2;rcases aO h1 with k1| ⟨k1,rfl⟩<;>rcases aO h2 with k2| ⟨k2,rfl⟩
  ·exact f'.sep p q m1 m2 b k1 k2 e1 e2
  ·have:=(f.own p m1 b k1 e1).2.1;cases e2;omega
  ·have:=(f.own q m2 b k2 e2).2.1;cases e1;omega
  ·rw[k1,k2]
 ·intro p m1 b h1 e1;rcases aO h1 with k1| ⟨k1,rfl⟩
  ·exact f'.own p m1 b k1 e1
  ·cases e1;exact⟨R1 f.base hg,hgl,fun a ha=>by have:=f.lie a ha;omega⟩
 ·intro p m1 k1 h1 h2;rcases aO h1 with a1| ⟨a1,rfl⟩
  ·have hp:p<h.length:=(by have:=(f9.1 a1).1;rw[f.len]at this;exact this);rw[M6 hp]at h2;exact(f'.blk p m1 k1 a1 h2).mono st2 fun _ _=>rfl
  ·rw[a1,f.len,M9 (M2 _)]at h2;simp at h2;subst h2;refine⟨rfl,rfl,by omega,fun i r hr=>?_,fun i r j c hr hc=>?_,.inr ⟨g,cur,rfl,hheap,by simp[hsz],⟨h0,by simpa using hn⟩,hm,fun i r j c hr hc=>?_⟩⟩
   ·obtain⟨a,_,rfl⟩:=N0.1 (N4 hr);rfl
   ·obtain⟨a,_,rfl⟩:=N0.1 (N4 hr)
    match j with
    |0=>simp[AVal.cells]at hc;subst hc;rfl
    |j+1=>simp[AVal.cells]at hc
   ·rw[N8]at hr;obtain⟨a,ha,rfl⟩:=N1.1 hr
    match j with
    |0=>
     simp[AVal.cells]at hc;subst hc;exact⟨_,by simpa using hget i a ha,.str _⟩
    |j+1=>simp[AVal.cells]at hc
end
variable (G:Nat→Option (List AVal))
def fldsF(s:Bs):List Bs:=(goFieldsP (fun r=> !letF r) ⟨s.toArray⟩).map fun b=>b.data.toList
theorem qO(s:Bs)(hs:s.length≤1000000)(h:Heap):Sat (CT G) 199 [.str s,.fn (.func 201) [] []] h
  (fun r h'=>(fldsF s=[]∧r=.sl 1 []∧h'=h)∨(fldsF s≠ []∧r=.hs h.length 0 0 (fldsF s).length true∧h'=h++[.row 9 1 0 ((fldsF s).map .str)])):=by
 intro B S μ w us fit rl;obtain⟨hul,hur⟩:=rl
 match us,hul,hur with
 | [v0,v1],_,hur=>
  have r0:Rep w S μ (.str s) v0:=hur 0 _ rfl;have r1:Rep w S μ (.fn (.func 201) [] []) v1:=hur 1 _ rfl;obtain rfl:=r0.str_inv;obtain rfl:v1=.func (.func 201) #[] #[]:=by
   cases r1 with
   |fn _ _ _ xv cv h1 h2 h3 h4=>
    match xv,cv,h1,h2 with
    | [],[],_,_=>rfl
  change OpOk Tryz.prog _ ((callFunc 199 #[Value.string ⟨s.toArray⟩,Value.func (Fn.func 201) #[] #[]]).run Tryz.prog w)
  rw[ci (f:=199) Tryz.func199 rfl rfl];refine(Tryz.strings_FieldsFunc 201 #[] (enters_of Tryz.func201 (by kernel_rfl) rfl) _ ⟨s.toArray⟩ w (by simp[ByteArray.size];omega) (sZ w)).mono fun e w' ⟨A,he,hA,hrow,hbel⟩=>?_
  refine⟨_,he,?_⟩;have hlen:(fldsF s).length=(goFieldsP (fun r=> !letF r) ⟨s.toArray⟩).length:=by unfold fldsF;rw[L8]
  have hmap:(goFieldsP (fun r=> !letF r) ⟨s.toArray⟩).map Value.string=(fldsF s).map fun a=>Value.string ⟨a.toArray⟩:=by
   unfold fldsF;rw[V0];exact V9 fun b _=>by simp
  rw[hmap]at hrow;rw[← hlen]at hrow he ⊢;obtain⟨_,ho⟩:=hrow;rcases ho with⟨h1,_⟩| ⟨g,cap,cur,h1,hg,hheap,hn,hm,hsz,htk⟩
  ·cases h1
  ·cases h1;by_cases hl:fldsF s=[]
   ·obtain⟨f',st⟩:=fit.grown hbel;rw[hl];exact⟨.sl 1 [],h,S,μ,.inl ⟨rfl,rfl,rfl⟩,st,f',.sl0 1 _ _⟩
   ·have hp:=X5.2 hl;have hget:∀(i:Nat) (a:Bs),(fldsF s)[i]? =some a→cur[i]? =some (.string ⟨a.toArray⟩):=fun i a ha=>by
     have hi:i<(fldsF s).length:=(f9.1 ha).1;have h2:(cur.toList.take ((fldsF s).length*1))[i]? =some (.string ⟨a.toArray⟩):=(by rw[htk,N8,ha];rfl);rw[N5 (by omega)]at h2;simpa using h2
    obtain⟨f',st⟩:=vD fit hbel hg hheap hn (by omega) hm (by simpa using hsz) hget;refine⟨.hs h.length 0 0 (fldsF s).length true,_,S,_,.inr ⟨hl,rfl,rfl⟩,st,f',?_⟩;refine .hs _ _ _ _ _ ⟨some A,0,1,(fldsF s).length⟩ _ (by rw[← fit.len];simp) (M2 _) (fun cs h=>by cases h) rfl (fun _=>.inr ⟨A,rfl,by simp,by simp⟩)
end Go.Av
namespace Go.Av
open Go Go.Proofs Go.RowKit
theorem cn(s:Bs)(k:Nat):dec s k=dec (s.drop k) 0:=by
 rw[ft,ft];simp only[V1,P4,P5,Y9,Q9,Nat.sub_zero,Nat.add_assoc]
theorem jr(s:Bs)(k:Nat)(h:k<s.length):Rune (dec s k).1:=by
 have hb:=L9 h;by_cases ha:s[k].toNat<128
 ·rw[lL s k _ hb ha];exact⟨by simp,by simp;omega⟩
 ·obtain⟨h1,h2,_⟩:=vC s k _ hb (by omega);exact⟨by omega,by omega⟩
def runesN:Nat→Bs→List Int
 |0,_=>[]
 |f+1,s=>if s=[]then []else((dec s 0).1:Int)::runesN f (s.drop (dec s 0).2)
def runesF(s:Bs):List Int:=runesN s.length s
theorem og:∀(f:Nat) (s:Bs),s.length≤f→runesN f s=runesN s.length s:=by
 intro f;induction f using Nat.strongRecOn with
 |ind f ih=>
  intro s hs;cases s with
  |nil=>cases f<;>rfl
  |cons b t=>
   obtain⟨f,rfl⟩:∃g,f=g+1:=⟨f-1,by simp at hs;omega⟩;have hd:=br (b::t) 0 (by simp);simp only[M8]at hs hd ⊢;rw[runesN,runesN,L5 (by simp),L5 (by simp)];have hl:((b::t).drop (dec (b::t) 0).2).length≤t.length:=(by simp only[P5,M8];omega);rw[ih f (by omega) _ (by omega)];by_cases hf:t.length=f
   ·subst hf;rw[ih t.length (by omega) _ hl]
   ·rw[ih t.length (by omega) _ hl]
theorem ei:runesF []=[]:=rfl
theorem dG(s:Bs)(h:s≠ []):runesF s=((dec s 0).1:Int)::runesF (s.drop (dec s 0).2):=by
 have hl:0<s.length:=X5.2 h;have hd:=br s 0 hl;unfold runesF;obtain⟨n,hn⟩:∃n,s.length=n+1:=⟨s.length-1,by omega⟩;rw[hn,runesN,L5 h,og n _ (by simp only[P5];omega)]
theorem fu(s:Bs)(k:Nat)(h:k<s.length):runesF (s.drop k)=((dec s k).1:Int)::runesF (s.drop (k+(dec s k).2)):=by
 rw[dG _ (by intro e;have:=P9 List.length e;simp at this;omega), ← cn,W3]
theorem en(s:Bs)(k:Nat)(h:s.length≤k):runesF (s.drop k)=[]:=by
 rw[R3 h];rfl
theorem cE:∀(n:Nat) (s:Bs),s.length≤n→(runesF s).length≤s.length:=by
 intro n;induction n with
 |zero=>intro s h;have:s=[]:=U4.1 (by omega);subst this;simp[ei]
 |succ n ih=>
  intro s h;by_cases h0:s=[]
  ·subst h0;simp[ei]
  ·have hd:=br s 0 (X5.2 h0);rw[dG s h0];have:=ih (s.drop (dec s 0).2) (by simp only[P5];omega);simp only[P5]at this;simp only[M8];omega
theorem dH:∀(n:Nat) (s:Bs),s.length≤n→∀c∈runesF s,Rune c:=by
 intro n;induction n with
 |zero=>intro s h c hc;have:s=[]:=U4.1 (by omega);subst this;simp[ei]at hc
 |succ n ih=>
  intro s h c hc;by_cases h0:s=[]
  ·subst h0;simp[ei]at hc
  ·have hl:=X5.2 h0;have hd:=br s 0 hl;rw[dG s h0]at hc;rcases N2.1 hc with rfl|hc
   ·exact jr s 0 hl
   ·exact ih _ (by simp only[P5];omega) c hc
def blankR(c:Int):Bool:=decide (c=9∨c=10∨c=13∨c=32∨c=160∨c=8232∨c=8233∨c=12288)
def ctlR(c:Int):Bool:=decide (c<32∨(127≤c∧c≤159))
def clnR:List Int→List Int→Bool→List Int
 | [],o,_=>o
 |c::t,o,w=>if blankR c then clnR t o (decide (0<o.length))else if ctlR c then clnR t o w else clnR t (o++(if w then [32,c]else [c])) false
def cleanR(s:Bs):List Int:=clnR (runesF s) [] false
def encs(l:List Int):Bs:=l.flatMap enc
def cleanF(s:Bs):Bs:=encs (cleanR s)
theorem iG(r:Int):1≤(enc r).length:=by
 rw[pj];simp only[];repeat (first|split|simp)
theorem js(l:List Int):(encs l).length≤4*l.length∧l.length≤(encs l).length:=by
 induction l with
 |nil=>simp[encs]
 |cons c t ih=>
  have h1:=eF c;have h2:=iG c;simp only[encs,X9,M5,M8]at ih ⊢;omega
theorem fw:∀(l o:List Int) (w:Bool),(∀c∈l,Rune c)→(∀c∈o,Rune c)→∀c∈clnR l o w,Rune c
 | [],o,w,_,h=>by simpa [clnR]using h
 |c::t,o,w,hl,ho=>by
  rw[clnR];have ht:∀x∈t,Rune x:=fun x hx=>hl x (by simp[hx])
  split
  ·exact fw t o _ ht ho
  ·split
   ·exact fw t o w ht ho
   ·refine fw t _ false ht ?_;intro x hx;rcases T4.1 hx with hx|hx
    ·exact ho x hx
    ·have h32:Rune 32:=⟨by decide,by decide⟩
     split at hx
     ·simp at hx;rcases hx with rfl|rfl
      ·exact h32
      ·exact hl _ (by simp)
     ·simp at hx;subst hx;exact hl _ (by simp)
def rightN:Nat→Bs→Bool
 |0,_=>true
 |f+1,s=>if s=[]then true else if (dec s 0).1=65533∧(dec s 0).2=1 then false else rightN f (s.drop (dec s 0).2)
def rightS(s:Bs):Bool:=rightN s.length s
theorem oh:∀(f:Nat) (s:Bs),s.length≤f→rightN f s=rightN s.length s:=by
 intro f;induction f using Nat.strongRecOn with
 |ind f ih=>
  intro s hs;cases s with
  |nil=>cases f<;>rfl
  |cons b t=>
   obtain⟨f,rfl⟩:∃g,f=g+1:=⟨f-1,by simp at hs;omega⟩;have hd:=br (b::t) 0 (by simp);simp only[M8]at hs hd ⊢;rw[rightN,rightN,L5 (show ¬(b::t)=[] by simp),L5 (show ¬(b::t)=[] by simp)];have hl:((b::t).drop (dec (b::t) 0).2).length≤t.length:=(by simp only[P5,M8];omega);rw[ih f (by omega) _ (by omega),ih t.length (by omega) _ hl]
theorem ol(s:Bs)(h:s≠ []):rightS s=if (dec s 0).1=65533∧(dec s 0).2=1 then false else rightS (s.drop (dec s 0).2):=by
 have hl:0<s.length:=X5.2 h;have hd:=br s 0 hl;unfold rightS;obtain⟨n,hn⟩:∃n,s.length=n+1:=⟨s.length-1,by omega⟩;rw[hn,rightN,L5 h,oh n _ (by simp only[P5];omega)]
theorem lM(s:Bs)(k:Nat)(h:k<s.length):rightS (s.drop k)=if (dec s k).1=65533∧(dec s k).2=1 then false else rightS (s.drop (k+(dec s k).2)):=by
 rw[ol _ (by intro e;have:=P9 List.length e;simp at this;omega), ← cn,W3]
theorem om(n b0 b1 b2 b3:Nat)(h1:b1<256)(h2:b2<256)(h0:b0<256)(h:(Lib.decodeN n b0 b1 b2 b3).1=65533):(Lib.decodeN n b0 b1 b2 b3).2=1↔¬(3≤n∧b0=239∧b1=191∧b2=189):=by
 unfold Lib.decodeN at*;by_cases c1:b0<128
 ·rw[M1 c1]at *;simp only[]at *;omega
 rw[L5 c1]at*;by_cases c2:(b0/32=6∧(1<n∧b1/64=2))
 ·rw[M1 c2]at*;by_cases c3:b0%32*64+b1%64≥128
  ·rw[M1 c3]at *;simp only[]at *;omega
  ·rw[L5 c3]at *;exact⟨fun _ hc=>by omega,fun _=>rfl⟩
 rw[L5 c2]at*;by_cases c4:b0/16=14∧(1<n∧b1/64=2)∧(2<n∧b2/64=2)
 ·rw[M1 c4]at*;by_cases c5:(b0%16*4096+b1%64*64+b2%64≥2048∧(b0%16*4096+b1%64*64+b2%64<55296∨(57344≤b0%16*4096+b1%64*64+b2%64∧b0%16*4096+b1%64*64+b2%64≤1114111)))
  ·rw[M1 c5]at *;simp only[]at *;omega
  ·rw[L5 c5]at *;exact⟨fun _ hc=>by omega,fun _=>rfl⟩
 rw[L5 c4]at*;by_cases c6:b0/8=30∧(1<n∧b1/64=2)∧(2<n∧b2/64=2)∧(3<n∧b3/64=2)
 ·rw[M1 c6]at*;by_cases c7:(b0%8*262144+b1%64*4096+b2%64*64+b3%64≥65536∧(b0%8*262144+b1%64*4096+b2%64*64+b3%64<55296∨(57344≤b0%8*262144+b1%64*4096+b2%64*64+b3%64∧b0%8*262144+b1%64*4096+b2%64*64+b3%64≤1114111)))
  ·rw[M1 c7]at *;simp only[]at *;omega
  ·rw[L5 c7]at *;exact⟨fun _ hc=>by omega,fun _=>rfl⟩
 ·rw[L5 c6]at *;exact⟨fun _ hc=>by omega,fun _=>rfl⟩
theorem G7(u:Bs):Lib.hasPrefix u [239,191,189]=true↔(3≤u.length∧(u.getD 0 0).toNat=239∧(u.getD 1 0).toNat=191∧(u.getD 2 0).toNat=189):=by
 have key:∀(x:UInt8) (n:Nat),n<256→(x.toNat=n↔x=UInt8.ofNat n):=fun x n h=>by rw[← UInt8.toNat_inj,bf n h]
 match u with
 | []=>simp[Lib.hasPrefix]
 | [a]=>simp[Lib.hasPrefix]
 | [a,b]=>simp[Lib.hasPrefix]
 |a::b::c::t=>
  simp only[za7,zc5,M8];rw[key a 239 (by omega),key b 191 (by omega),key c 189 (by omega)];unfold Lib.hasPrefix;simp only[List.isPrefixOf,L7,beq_iff_eq];constructor
  ·rintro⟨rfl,rfl,rfl,_⟩;exact⟨by omega,rfl,rfl,rfl⟩
  ·rintro⟨_,rfl,rfl,rfl⟩;exact⟨rfl,rfl,rfl,trivial⟩
theorem vE(s:Bs)(k:Nat)(hd:(dec s k).1=65533):(dec s k).2=1↔Lib.hasPrefix (s.drop k) [239,191,189]=false:=by
 rw[cn]at*;generalize s.drop k=u at*;rw[← Bool.not_eq_true,G7];rw[ft]at*;exact om _ _ _ _ _ (UInt8.toNat_lt _) (UInt8.toNat_lt _) (UInt8.toNat_lt _) hd
end Go.Av
namespace Go.Av
open Go Go.Proofs Go.RowKit
attribute [local irreducible] WP WPl WPix Sat
variable (G:Nat→Option (List AVal))
theorem qP(c:Int)(h:Heap):Sat (CT G) 227 [.int .i32 c] h (fun r h'=>r=.bool (blankR c)∧h'=h):=by
 have yes:(c=9∨c=10∨c=13∨c=32∨c=160∨c=8232∨c=8233∨c=12288)→blankR c=true:=fun h=>O4 h
 have no:¬(c=9∨c=10∨c=13∨c=32∨c=160∨c=8232∨c=8233∨c=12288)→blankR c=false:=fun h=>O0 h
 refine sb [.tmp 2] Tryz.func227 ?_;intro Q hQ;refine wk trivial ?_;refine cq trivial (fun c0=>?_) (fun c0=>?_)<;>(try exact c0.elim)<;>(refine wk trivial ?_)
 ·refine cq trivial (fun d=>?_) (fun d=>?_)<;>(try exact d.elim)<;>(refine wk trivial ?_)
  ·refine ee hQ trivial ?_;refine fR (.bool _) ?_;rw[yes (by omega)]
  ·exfalso;omega
 refine cq trivial (fun c1=>?_) (fun c1=>?_)<;>(try exact c1.elim)<;>(refine wk trivial ?_)
 ·refine cq trivial (fun d=>?_) (fun d=>?_)<;>(try exact d.elim)<;>(refine wk trivial ?_)
  ·refine ee hQ trivial ?_;refine fR (.bool _) ?_;rw[yes (by omega)]
  ·exfalso;omega
 refine cq trivial (fun c2=>?_) (fun c2=>?_)<;>(try exact c2.elim)<;>(refine wk trivial ?_)
 ·refine cq trivial (fun d=>?_) (fun d=>?_)<;>(try exact d.elim)<;>(refine wk trivial ?_)
  ·refine ee hQ trivial ?_;refine fR (.bool _) ?_;rw[yes (by omega)]
  ·exfalso;omega
 refine cq trivial (fun c3=>?_) (fun c3=>?_)<;>(try exact c3.elim)<;>(refine wk trivial ?_)
 ·refine cq trivial (fun d=>?_) (fun d=>?_)<;>(try exact d.elim)<;>(refine wk trivial ?_)
  ·refine ee hQ trivial ?_;refine fR (.bool _) ?_;rw[yes (by omega)]
  ·exfalso;omega
 refine cq trivial (fun c4=>?_) (fun c4=>?_)<;>(try exact c4.elim)<;>(refine wk trivial ?_)
 ·refine cq trivial (fun d=>?_) (fun d=>?_)<;>(try exact d.elim)<;>(refine wk trivial ?_)
  ·refine ee hQ trivial ?_;refine fR (.bool _) ?_;rw[yes (by omega)]
  ·exfalso;omega
 refine cq trivial (fun c5=>?_) (fun c5=>?_)<;>(try exact c5.elim)<;>(refine wk trivial ?_)
 ·refine cq trivial (fun d=>?_) (fun d=>?_)<;>(try exact d.elim)<;>(refine wk trivial ?_)
  ·refine ee hQ trivial ?_;refine fR (.bool _) ?_;rw[yes (by omega)]
  ·exfalso;omega
 refine cq trivial (fun c6=>?_) (fun c6=>?_)<;>(try exact c6.elim)<;>(refine wk trivial ?_)
 ·refine cq trivial (fun d=>?_) (fun d=>?_)<;>(try exact d.elim)<;>(refine wk trivial ?_)
  ·refine ee hQ trivial ?_;refine fR (.bool _) ?_;rw[yes (by omega)]
  ·exfalso;omega
 refine cq trivial (fun d=>?_) (fun d=>?_)<;>(try exact d.elim)<;>(refine wk trivial ?_)
 ·refine ee hQ trivial ?_;refine fR (.bool _) ?_;rw[yes (by omega)]
 ·refine ee hQ trivial ?_;refine fR (.bool _) ?_;rw[no (by omega)]
theorem nh(c:Int)(h:Heap):Sat (CT G) 229 [.int .i32 c] h (fun r h'=>r=.bool (ctlR c)∧h'=h):=by
 refine sb [.tmp 2] Tryz.func229 ?_;intro Q hQ;refine wk trivial ?_;(first|refine gq trivial (fun g1=>?_) (fun g1=>?_)|refine pq trivial (fun g1=>?_) (fun g1=>?_))<;>(try exact g1.elim)<;>(try refine sq trivial ?_)<;>(refine wk trivial ?_)
 ·refine ee hQ trivial ?_;refine fR (.bool _) ?_;rw[show ctlR c=true from O4 (.inl g1)]
 ·(first|refine gq trivial (fun g2=>?_) (fun g2=>?_)|refine pq trivial (fun g2=>?_) (fun g2=>?_))<;>(try exact g2.elim)<;>(try refine sq trivial ?_)<;>(refine wk trivial ?_)
  ·refine ee hQ trivial ?_;refine fR (.bool _) ?_;unfold ctlR;congr 1
   rw[O9];simp;omega
  ·refine ee hQ trivial ?_;refine fR (.bool _) ?_;rw[show ctlR c=false from O0 (by omega)]
theorem ni(h j:Heap)(a:AVal)(v:Nat)(o s:Bs)(q:Nat):(bldH h (Blk.iter s q::j) a v o)[h.length+2]? =some (.iter s q):=by
 unfold bldH;rw[M9 (by omega),show h.length+2-h.length=2 by omega];rfl
theorem nj(h j:Heap)(a:AVal)(v:Nat)(o:Bs)(x y:Blk):(bldH h (x::j) a v o).set (h.length+2) y=bldH h (y::j) a v o:=by
 unfold bldH;rw[List.set_append_right _ _ (by omega),show h.length+2-h.length=2 by omega];rfl
theorem qQ(s:Bs)(hs:s.length≤100000000)(h:Heap):Sat (CT G) 212 [.str s] h (fun r h'=>r=.str (cleanF s)∧h'=h):=by
 have F:= @nj;refine sb [.tmp 2] Tryz.func212 ?_;intro Q hQ;(repeat (first|refine w1 (fun K hK=>?_)|refine w2 ?_|refine w3 ?_| ((first|refine w4 ?_|refine wD ?_|refine w5 ?_|refine w6 ?_|refine w7 ?_);try refine sq F ?_)| (refine w8 ?_;refine sq F ?_;refine w9 ?_)))
 refine hK _ _ (M0 ?_);clear hK K;(repeat (first|refine w1 (fun K hK=>?_)|refine w2 ?_|refine w3 ?_| ((first|refine w4 ?_|refine wD ?_|refine w5 ?_|refine w6 ?_|refine w7 ?_);try refine sq F ?_)| (refine w8 ?_;refine sq F ?_;refine w9 ?_)))
 refine hK _ _ ⟨_,_,Weak.virtCell (p:=h.length) (v:=0) 5 1 (by omega) (by simp(disch:=first|omega| (simp only[go_sem, ↓reduceIte,seval];first|done|omega)|fail) only[go_sem, ↓reduceIte,seval,F];rfl) 1 rfl,?_⟩;clear hK K;refine wk F ?_;refine lm (fun nL tL hL=>∃(a:AVal) (v k:Nat) (out:List Int) (w:Bool),s.length-k=nL∧bldH h [.iter s k] a v (encs out)=hL∧tL 4=.bool w∧bldA a h.length∧k≤s.length∧clnR (runesF (s.drop k)) out w=cleanR s∧(encs out).length+8*(s.length-k)≤8*s.length) ((fun(a:AVal) (v k:Nat) (out:List Int) (w:Bool)=>(s.length-k:Nat)) ((.nil (.pointer none))) (0) (0) ([]) (false)) ?_ ?_
 ·refine M0 ⟨(.nil (.pointer none)),0,0,[],false,rfl,by simp[bldH,bldR,bufR,encs],?_,.inl rfl,by omega,rfl,by simp[encs]⟩;all_goals try exact zZz F
 rintro _ s2 h' ⟨a,v,k,out,w,rfl,rfl,e4,ha,hk,hv,hl⟩ K2 hK2;simp only[ai,ak,Nat.reduceEqDiff, ↓reduceIte]at e4;have F:=F2 F e4;refine wk F ?_;refine gp (ni _ _ _ _ _ _ _) (fun hlt=>?_) (fun hge=>?_)
 ·have hR:=jr s k hlt;have hp:=br s k hlt;rw[fu s k hlt,clnR]at hv;rw[show Utf8.decode ⟨s.toArray⟩ k=dec s k from rfl];generalize dec s k=d at*;obtain⟨c,m⟩:=d;simp only[]at hR hp hv ⊢;try refine sq F ?_
  refine wk F ?_;refine kq F (qP G c _) ?_;refine cq F (fun c1=>?_) (fun c1=>?_)<;>(try exact c1.elim)<;>(refine wk F ?_)
  ·rw[M1 c1]at hv;refine kq F (xC G a h [.iter s (k+m)] v (encs out)) ?_;have ho:decide (((encs out).length:Int)>0)=decide (0<out.length):=by
    have:=js out;rw[O9];simp only[M7];omega
   have F:=F2 F ho;(try refine sq F ?_);refine hK2 _ _ _ (M0 ⟨a,v,k+m,out,decide (0<out.length),rfl,aw,?_,ha,by omega,hv,by omega⟩) (by omega);all_goals try exact zZz F
  ·rw[L5 (by simp[c1])]at hv;refine kq F (nh G c _) ?_;refine cq F (fun c2=>?_) (fun c2=>?_)<;>(try exact c2.elim)<;>(refine wk F ?_)
   ·rw[M1 c2]at hv;refine hK2 _ _ _ (M0 ⟨a,v,k+m,out,w,rfl,aw,?_,ha,by omega,hv,by omega⟩) (by omega);all_goals try exact zZz F
   ·rw[L5 (by simp[c2])]at hv;have he:=eF c;have e1:encs (out++[32,(c:Int)])=encs out++[32]++enc c:=by
     simp only[encs,List.flatMap_append,X9,List.flatMap_nil,O2,P2];rfl
    have e2:encs (out++[(c:Int)])=encs out++enc c:=by
     simp only[encs,List.flatMap_append,X9,List.flatMap_nil,O2]
    refine cq F (fun c3=>?_) (fun c3=>?_)<;>(try exact c3.elim)<;>(refine wk F ?_)
    ·rw[M1 c3]at hv;refine kq F (mh G a h [.iter s (k+m)] v (encs out) 32 ha (by omega)) ?_;refine kq F (dY G (.hp h.length 0 0 0) c hR h [.iter s (k+m)] (v+1) (encs out++[32]) (.inr rfl) (by simp only[M5,M8,O7];omega)) ?_;refine hK2 _ _ _ (M0 ⟨(.hp h.length 0 0 0),v+1+1,k+m,out++[32,(c:Int)],false,rfl,by rw[e1];simp,?_,.inr rfl,by omega,hv,by rw[e1];simp only[M5,M8,O7];omega⟩) (by omega);all_goals try exact zZz F
    ·rw[L5 (by simp[c3])]at hv;refine kq F (dY G a c hR h [.iter s (k+m)] v (encs out) ha (by omega)) ?_;refine hK2 _ _ _ (M0 ⟨(.hp h.length 0 0 0),v+1,k+m,out++[(c:Int)],false,rfl,by rw[e2],?_,.inr rfl,by omega,hv,by rw[e2];simp only[M5];omega⟩) (by omega);all_goals try exact zZz F
 ·rw[en s k (by omega)]at hv;try refine sq F ?_
  refine wk F ?_;refine(jZ G a h [.iter s k] v (encs out)).mono ?_;rintro r h' ⟨rfl,b2,rfl⟩;try refine sq F ?_
  refine wk F ?_;refine ee hQ F ?_;exact Fin.plainE (j:=[bldR a (h.length+1) v (encs out),b2,.iter s k]) (by simp) (.str _) ⟨P9 AVal.str (by unfold cleanF;rw[← hv];rfl),rfl⟩
theorem qR(s:Bs)(hs:s.length≤1073741824)(h:Heap):Sat (CT G) 211 [.str s] h (fun r h'=>r=.bool (rightS s)∧h'=h):=by
 refine sb [.tmp 2] Tryz.func211 ?_;intro Q hQ;refine wk trivial ?_;refine lm (fun nL tL hL=>∃(k:Nat),s.length-k=nL∧h++[.iter s k]=hL∧k≤s.length∧rightS (s.drop k)=rightS s) ((fun(k:Nat)=>(s.length-k:Nat)) (0)) ?_ ?_
 ·refine M0 ⟨0,rfl,aw,by omega,rfl⟩;all_goals try exact zZz trivial
 rintro _ s2 h' ⟨k,rfl,rfl,hk,hc⟩ K2 hK2;refine wk trivial ?_;refine gp (pk _ _ _ _) (fun hlt=>?_) (fun hge=>?_)
 ·have hp:=br s k hlt;have hca:=lM s k hlt;have h3:=vE s k;rw[hc]at hca;rw[show Utf8.decode ⟨s.toArray⟩ k=dec s k from rfl];generalize dec s k=d at*;obtain⟨c,m⟩:=d;simp only[]at hp hca h3 ⊢;try refine sq trivial ?_
  refine wk trivial ?_;(first|refine gq trivial (fun g1=>?_) (fun g1=>?_)|refine pq trivial (fun g1=>?_) (fun g1=>?_))<;>(try exact g1.elim)<;>(try refine sq trivial ?_)<;>(refine wk trivial ?_)
  ·have g0:c=65533:=(by omega);have h4:=h3 g0;refine kq trivial (gQ G (s.drop k) [239,191,189] _) ?_;refine cq trivial (fun g2=>?_) (fun g2=>?_)<;>(try exact g2.elim)<;>(refine wk trivial ?_)
   ·refine ee hQ trivial ?_;refine fR (.bool _) ?_;rw[hca,M1 ⟨g0,h4.2 (by simpa using g2)⟩]
   ·refine hK2 _ _ _ (M0 ⟨k+m,rfl,aw,by omega,by rw[hca,L5];rintro⟨_,h5⟩;have:=h4.1 h5;rw[this]at g2;cases g2⟩) (by omega);all_goals try exact zZz trivial
  ·refine hK2 _ _ _ (M0 ⟨k+m,rfl,aw,by omega,by rw[hca,L5];rintro⟨h5,_⟩;exact g1 (by omega)⟩) (by omega);all_goals try exact zZz trivial
 ·rw[R3 (by omega)]at hc;try refine sq trivial ?_
  refine wk trivial ?_;refine ee hQ trivial ?_;refine fR (.bool _) ?_;rw[← hc];rfl
end Go.Av
namespace Go.Av
open Go Go.Proofs Go.RowKit
theorem lg(G:Nat→Option (List AVal)):(CT G).P.follows .mixedOrders=true:=by kernel_rfl
theorem dw{C:Ctx}{t:Env}{h:Heap}{id:Nat}{l:List Oper}{Q:Exit→Env→Heap→Prop}(hok:preOkG false l.toArray l.length=true)(hm:C.P.follows .mixedOrders=true)
  (hh:WPp C l.toArray l t h fun t'=>Q .normal t' h):WP C (.region id l.toArray true) Q t h:=by
 have D:=fF hok;obtain⟨V,hv,hK⟩:=ce _ _ hh;have htk:l.toArray.toList.take l.length=l:=by simp
 have main:∀n,WPix C l.toArray Q (Region.linearise .any l.toArray n) t h:=fun n=>by
  unfold Region.linearise;refine eh D .any D.less (by simp) (V:=V) (t0:=t) (fun _=>True) (fun i o hi _=>by rw[htk]at hi ⊢;exact hv i o hi) (fun n=>?_) _ _ _ _ (by simp) ?_ (fun j oj hj hl=>?_) (fun j hj hl=>?_) (fun _ _ _=>trivial) (Ag.start _ _ _ _ fun j hj=>?_)
  ·rw[htk];have e1:l.toArray.size-l.length=0:=(by simp);rw[e1];exact Rest.nil hK .any n
  ·unfold left;have:(List.range l.toArray.size).filter (fun i=> !(Array.replicate l.toArray.size false).getD i true)=List.range l.toArray.size:=by
    rw[R8];intro i hi;have:=T9.1 hi;simp at this ⊢;simp[this]
   rw[this,List.length_range]
  ·have h8:=(O6.1 hj).1;simp at h8 hl;simp[h8]at hl
  ·simp at hj hl;simp[hj]at hl
  ·have:j<l.length:=by omega
   simp[this]
 show ∀tp,WPix C l.toArray Q (Region.schedule (C.P.follows .mixedOrders) l.toArray tp) t h;intro tp;unfold Region.schedule;rw[hm];simp only[Bool.true_or,if_true];exact main _
end Go.Av
namespace Go.Av
open Go Go.Proofs Go.RowKit
attribute [local irreducible] WP WPl WPix Sat
variable (G:Nat→Option (List AVal))
def btw(c a b:Int):Bool:=decide (a≤c)&&decide (c≤b)
theorem cr(c a b:Int)(h:Heap):Sat (CT G) 234 [.int .i32 c,.int .i32 a,.int .i32 b] h (fun r h'=>r=.bool (btw c a b)∧h'=h):=by
 by_cases k:a≤c
 ·have k2:decide (c≥a)=true:=by simpa using k
  have F:=k2;refine sb [.tmp 6] Tryz.func234 ?_;intro Q hQ;refine wk F ?_;refine ee hQ F ?_;exact O5 (.bool _) ⟨by simp[btw,k],rfl⟩
 ·have k2:decide (c≥a)=false:=by simpa using k
  have F:=k2;refine sb [.tmp 6] Tryz.func234 ?_;intro Q hQ;refine wk F ?_;refine ee hQ F ?_;exact O5 (.bool _) ⟨by simp[btw,k],rfl⟩
def foldR(c:Int):Int:=
 if c=215∨c=930 then c else if btw c 65 90∨btw c 192 222∨btw c 913 937∨btw c 1040 1071 then c+32 else if btw c 1024 1039 then c+80 else c
theorem gC{c:Int}(h:Rune c):Rune (foldR c):=by
 unfold foldR btw;simp only[L7,M7];unfold Rune at*;split
 ·exact h
 ·split
  ·omega
  ·split<;>omega
theorem t8(c:Int)(hc:Rune c)(h:Heap):Sat (CT G) 221 [.int .i32 c] h (fun r h'=>r=.int .i32 (foldR c)∧h'=h):=by
 have c0:0≤c∧c≤1114111:=by unfold Rune at hc;omega
 obtain⟨c1,c2⟩:=c0;by_cases k1:c=215
 ·subst k1;refine sb [.tmp 2] Tryz.func221 ?_;intro Q hQ;refine wk trivial ?_;refine ee hQ trivial ?_;exact O5 (.int _ _) ⟨rfl,rfl⟩
 by_cases k2:c=930
 ·subst k2;refine sb [.tmp 2] Tryz.func221 ?_;intro Q hQ;refine wk trivial ?_;refine ee hQ trivial ?_;exact O5 (.int _ _) ⟨rfl,rfl⟩
 have w32:IntKind.i32.wrap (c+32)=c+32:=cm (by omega) (by omega);have w80:IntKind.i32.wrap (c+80)=c+80:=cm (by omega) (by omega);have n1:(c==215)=false:=by simp[k1]
 have n2:(c==930)=false:=by simp[k2]
 have b1:=cr G c 65 90;have b2:=cr G c 192 222;have b3:=cr G c 913 937;have b4:=cr G c 1040 1071;have b5:=cr G c 1024 1039;cases h1:btw c 65 90
 ·cases h2:btw c 192 222
  ·cases h3:btw c 913 937
   ·cases h4:btw c 1040 1071
    ·cases h5:btw c 1024 1039
     ·rw[h1]at b1;rw[h2]at b2;rw[h3]at b3;rw[h4]at b4;rw[h5]at b5;have F:=F2 n1 n2;refine sb [.tmp 2] Tryz.func221 ?_;intro Q hQ;refine wk F ?_;refine kq F (b1 _) ?_;refine kq F (b2 _) ?_;refine kq F (b3 _) ?_;refine kq F (b4 _) ?_;refine kq F (b5 _) ?_;refine ee hQ F ?_;exact O5 (.int _ _) ⟨by simp[foldR,k1,k2,h1,h2,h3,h4,h5,w32,w80],rfl⟩
     ·rw[h1]at b1;rw[h2]at b2;rw[h3]at b3;rw[h4]at b4;rw[h5]at b5;have F:=F2 n1 n2;refine sb [.tmp 2] Tryz.func221 ?_;intro Q hQ;refine wk F ?_;refine kq F (b1 _) ?_;refine kq F (b2 _) ?_;refine kq F (b3 _) ?_;refine kq F (b4 _) ?_;refine kq F (b5 _) ?_;refine ee hQ F ?_;exact O5 (.int _ _) ⟨by simp[foldR,k1,k2,h1,h2,h3,h4,h5,w32,w80],rfl⟩
    ·rw[h1]at b1;rw[h2]at b2;rw[h3]at b3;rw[h4]at b4;have F:=F2 n1 n2;refine sb [.tmp 2] Tryz.func221 ?_;intro Q hQ;refine wk F ?_;refine kq F (b1 _) ?_;refine kq F (b2 _) ?_;refine kq F (b3 _) ?_;refine kq F (b4 _) ?_;refine ee hQ F ?_;exact O5 (.int _ _) ⟨by simp[foldR,k1,k2,h1,h2,h3,h4,w32],rfl⟩
   ·rw[h1]at b1;rw[h2]at b2;rw[h3]at b3;have F:=F2 n1 n2;refine sb [.tmp 2] Tryz.func221 ?_;intro Q hQ;refine wk F ?_;refine kq F (b1 _) ?_;refine kq F (b2 _) ?_;refine kq F (b3 _) ?_;refine ee hQ F ?_;exact O5 (.int _ _) ⟨by simp[foldR,k1,k2,h1,h2,h3,w32],rfl⟩
  ·rw[h1]at b1;rw[h2]at b2;have F:=F2 n1 n2;refine sb [.tmp 2] Tryz.func221 ?_;intro Q hQ;refine wk F ?_;refine kq F (b1 _) ?_;refine kq F (b2 _) ?_;refine ee hQ F ?_;exact O5 (.int _ _) ⟨by simp[foldR,k1,k2,h1,h2,w32],rfl⟩
 ·rw[h1]at b1;have F:=F2 n1 n2;refine sb [.tmp 2] Tryz.func221 ?_;intro Q hQ;refine wk F ?_;refine kq F (b1 _) ?_;refine ee hQ F ?_;exact O5 (.int _ _) ⟨by simp[foldR,k1,k2,h1,w32],rfl⟩
def foldS(s:Bs):Bs:=encs ((runesF s).map foldR)
theorem ta(s:Bs)(hs:s.length≤1000000)(h:Heap):Sat (CT G) 200 [.str s] h (fun r h'=>r=.str (foldS s)∧h'=h):=by
 have F:= @nj;refine sb [.tmp 2] Tryz.func200 ?_;intro Q hQ;(repeat (first|refine w1 (fun K hK=>?_)|refine w2 ?_|refine w3 ?_| ((first|refine w4 ?_|refine wD ?_|refine w5 ?_|refine w6 ?_|refine w7 ?_);try refine sq F ?_)| (refine w8 ?_;refine sq F ?_;refine w9 ?_)))
 refine hK _ _ (M0 ?_);clear hK K;(repeat (first|refine w1 (fun K hK=>?_)|refine w2 ?_|refine w3 ?_| ((first|refine w4 ?_|refine wD ?_|refine w5 ?_|refine w6 ?_|refine w7 ?_);try refine sq F ?_)| (refine w8 ?_;refine sq F ?_;refine w9 ?_)))
 refine hK _ _ ⟨_,_,Weak.virtCell (p:=h.length) (v:=0) 5 1 (by omega) (by simp(disch:=first|omega| (simp only[go_sem, ↓reduceIte,seval];first|done|omega)|fail) only[go_sem, ↓reduceIte,seval,F];rfl) 1 rfl,?_⟩;clear hK K;refine wk F ?_;refine lm (fun nL tL hL=>∃(a:AVal) (v k:Nat) (out:List Int),s.length-k=nL∧bldH h [.iter s k] a v (encs out)=hL∧bldA a h.length∧k≤s.length∧out++(runesF (s.drop k)).map foldR=(runesF s).map foldR∧(encs out).length+4*(s.length-k)≤4*s.length) ((fun(a:AVal) (v k:Nat) (out:List Int)=>(s.length-k:Nat)) ((.nil (.pointer none))) (0) (0) ([])) ?_ ?_
 ·refine M0 ⟨(.nil (.pointer none)),0,0,[],rfl,by simp[bldH,bldR,bufR,encs],.inl rfl,by omega,by simp,by simp[encs]⟩;all_goals try exact zZz F
 rintro _ s2 h' ⟨a,v,k,out,rfl,rfl,ha,hk,hv,hl⟩ K2 hK2;refine wk F ?_;refine gp (ni _ _ _ _ _ _ _) (fun hlt=>?_) (fun hge=>?_)
 ·have hR:=jr s k hlt;have hp:=br s k hlt;rw[fu s k hlt,N7]at hv;rw[show Utf8.decode ⟨s.toArray⟩ k=dec s k from rfl];generalize dec s k=d at*;obtain⟨c,m⟩:=d;simp only[]at hR hp hv ⊢;have hR2:=gC hR;have he:=eF (foldR c);have e2:encs (out++[foldR c])=encs out++enc (foldR c):=by
   simp only[encs,List.flatMap_append,X9,List.flatMap_nil,O2]
  try refine sq F ?_
  refine wk F ?_;refine kq F (t8 G c hR _) ?_;refine kq F (dY G a (foldR c) hR2 h [.iter s (k+m)] v (encs out) ha (by omega)) ?_;refine hK2 _ _ _ (M0 ⟨(.hp h.length 0 0 0),v+1,k+m,out++[foldR c],rfl,by rw[e2],.inr rfl,by omega,by rw[← hv];simp,by rw[e2];simp only[M5];omega⟩) (by omega);all_goals try exact zZz F
 ·rw[en s k (by omega)]at hv;try refine sq F ?_
  refine wk F ?_;refine(jZ G a h [.iter s k] v (encs out)).mono ?_;rintro r h' ⟨rfl,b2,rfl⟩;try refine sq F ?_
  refine wk F ?_;refine ee hQ F ?_;exact Fin.plainE (j:=[bldR a (h.length+1) v (encs out),b2,.iter s k]) (by simp) (.str _) ⟨P9 AVal.str (by unfold foldS;rw[← hv];simp),rfl⟩
theorem cW(s:Bs):(foldS s).length≤4*s.length:=by
 unfold foldS;have h1:=(js ((runesF s).map foldR)).1;have h2:=cE s.length s (M2 _);rw[L8]at h1;omega
def shN:Nat→Bs→Nat→Nat
 |0,_,_=>0
 |f+1,s,n=>if s=[]then 0 else if n=32 then 0 else(dec s 0).2+shN f (s.drop (dec s 0).2) (n+1)
def shW(s:Bs):Bs:=s.take (shN s.length s 0)
theorem vF:∀(f:Nat) (s:Bs) (n:Nat),s.length≤f→shN f s n=shN s.length s n:=by
 intro f;induction f using Nat.strongRecOn with
 |ind f ih=>
  intro s n hs;cases s with
  |nil=>cases f<;>rfl
  |cons b t=>
   obtain⟨f,rfl⟩:∃g,f=g+1:=⟨f-1,by simp at hs;omega⟩;have hd:=br (b::t) 0 (by simp);simp only[M8]at hs hd ⊢;have hl:((b::t).drop (dec (b::t) 0).2).length≤t.length:=(by simp only[P5,M8];omega);rw[shN,shN,L5 (show ¬(b::t)=[] by simp),L5 (show ¬(b::t)=[] by simp),ih f (by omega) _ _ (by omega),ih t.length (by omega) _ _ hl]
def shA(s:Bs)(k n:Nat):Nat:=shN (s.drop k).length (s.drop k) n
theorem xE(s:Bs)(k n:Nat)(h:s.length≤k):shA s k n=0:=by unfold shA;rw[R3 h];rfl
theorem zo(s:Bs)(k n:Nat)(h:k<s.length):shA s k n=if n=32 then 0 else(dec s k).2+shA s (k+(dec s k).2) (n+1):=by
 have hd:=br s k h;have hl:(s.drop k).length=(s.length-k-1)+1:=by rw[P5];omega
 unfold shA;rw[hl,shN,L5 (by intro e;rw[e]at hl;simp at hl), ← cn,W3,vF (s.length-k-1) _ _ (by simp only[P5];omega)]
theorem qS(s:Bs)(hs:s.length≤100000000)(h:Heap):Sat (CT G) 203 [.str s] h (fun r h'=>r=.str (shW s)∧h'=h):=by
 refine sb [.tmp 2] Tryz.func203 ?_;intro Q hQ;refine wk trivial ?_;refine lm (fun nL tL hL=>∃(k n:Nat),s.length-k=nL∧h++[.iter s k]=hL∧tL 3=.int .i64 n∧k≤s.length∧n≤32∧k+shA s k n=shN s.length s 0) ((fun(k n:Nat)=>(s.length-k:Nat)) (0) (0)) ?_ ?_
 ·refine M0 ⟨0,0,rfl,aw,?_,by omega,by omega,by simp[shA]⟩;all_goals try exact zZz trivial
 rintro _ s2 h' ⟨k,n,rfl,rfl,e3,hk,hn,hc⟩ K2 hK2;simp only[ai,ak,Nat.reduceEqDiff, ↓reduceIte]at e3;have F:=e3;refine wk F ?_;refine gp (pk _ _ _ _) (fun hlt=>?_) (fun hge=>?_)
 ·have hp:=br s k hlt;have hca:=zo s k n hlt;rw[show Utf8.decode ⟨s.toArray⟩ k=dec s k from rfl];generalize dec s k=d at*;obtain⟨c,m⟩:=d;simp only[]at hp hca ⊢;try refine sq F ?_
  refine wk F ?_;refine cq F (fun c1=>?_) (fun c1=>?_)<;>(try exact c1.elim)<;>(refine wk F ?_)
  ·have c2:n=32:=(by omega);rw[M1 c2]at hca;refine ee hQ F ?_;refine fR (.str _) ?_;unfold shW;congr 2
   omega
  ·have c2:¬n=32:=(by omega);rw[L5 c2]at hca;refine hK2 _ _ _ (M0 ⟨k+m,n+1,rfl,aw,?_,by omega,by omega,by omega⟩) (by omega);all_goals try exact zZz F
 ·rw[xE s k n (by omega)]at hc;try refine sq F ?_
  refine wk F ?_;refine ee hQ F ?_;refine fR (.str _) ?_;unfold shW;rw[← hc,M4 (by omega)]
def wordsF(s:Bs):List Bs:=(fldsF (foldS s)).map shW
theorem vG(s:Bs):∀w∈fldsF s,w.length≤s.length:=fun w hw=>by
 unfold fldsF Lib.goFieldsP at hw;rw[V0]at hw;obtain⟨x,_,rfl⟩:=N0.1 hw;simp only[Function.comp,ByteArray.extract,ByteArray.copySlice,Array.toList_append,Array.toList_extract,M5];simp[List.extract];omega
theorem dU(p:Nat→Bool)(s:ByteArray):∀(f pos:Nat) (st:Option Nat) (acc:List (Nat×Nat)),(Lib.spansFromP p s f pos st acc).1.length≤acc.length+f
 |0,_,_,acc=>by simp[Lib.spansFromP]
 |f+1,pos,st,acc=>by
  unfold Lib.spansFromP;split
  ·split
   ·cases st with
    |some a=>have:=dU p s f (pos+(Utf8.decode s pos).2) none (acc++[(a,pos)]);simp only[M5,M8,O7]at this;simp only;omega
    |none=>have:=dU p s f (pos+(Utf8.decode s pos).2) none acc;simp only;omega
   ·cases st with
    |some a=>have:=dU p s f (pos+(Utf8.decode s pos).2) (some a) acc;simp only;omega
    |none=>have:=dU p s f (pos+(Utf8.decode s pos).2) (some pos) acc;simp only;omega
  ·simp only;omega
theorem jt(s:Bs):(fldsF s).length≤s.length+1:=by
 unfold fldsF Lib.goFieldsP Lib.spansOfP;rw[L8,L8];have:=dU (fun r=> !letF r) ⟨s.toArray⟩ (ByteArray.size ⟨s.toArray⟩) 0 none [];have hsz:ByteArray.size ⟨s.toArray⟩=s.length:=by simp[ByteArray.size]
 rw[hsz]at this ⊢;unfold Lib.closeSpans;simp only[O7]at this;split
 ·simp only[M5,M8,O7];omega
 ·omega
theorem gD(s:Bs)(hs:s.length≤100000)(h:Heap):Sat (CT G) 166 [.str s] h (fun r h'=>r=.sl 1 ((wordsF s).map .str)∧h'=h):=by
 have hfl:=cW s;have hwl:=vG (foldS s);have hn:=jt (foldS s);refine sb [.tmp 2] Tryz.func166 ?_;intro Q hQ;refine wk trivial ?_;refine kq trivial (ta G s (by omega) _) ?_;refine(qO G (foldS s) (by omega) _).mono ?_;unfold wordsF at hQ;generalize fldsF (foldS s)=ws at*;rintro r h' (⟨hw0,rfl,he⟩| ⟨hw0,rfl,rfl⟩)
 ·subst hw0;rw[he];try refine sq trivial ?_
  refine wk trivial ?_;refine lm (fun nL tL hL=>0=nL∧[]++h=hL∧tL 3=.sl 1 []∧tL 10=.int .i64 0∧tL 11=.int .i64 0) (0) ?_ ?_
  ·refine M0 ⟨rfl,rfl,?_,?_,?_⟩;all_goals try exact zZz trivial
  rintro _ s2 h' ⟨rfl,rfl,e3,e10,e11⟩ K2 hK2;simp only[ai,ak,Nat.reduceEqDiff, ↓reduceIte]at e3 e10 e11;have F:=F3 e3 e10 e11;refine wk F ?_;refine cq F (fun c1=>?_) (fun c1=>?_)<;>(try exact c1.elim)<;>(refine wk F ?_)
  refine ye hQ F ?_;exact O5 (Clo.sl 1 [] fun x hx=>by cases hx) ⟨rfl,rfl⟩
 ·try refine sq trivial ?_
  refine wk trivial ?_;refine lm (fun nL tL hL=>∃(k:Nat),ws.length-k=nL∧h++[.row 9 1 0 (((ws.take k).map shW++ws.drop k).map .str)]=hL∧tL 3=.hs h.length 0 0 ws.length true∧tL 9=.hs h.length 0 0 ws.length true∧tL 10=.int .i64 (ws.length:Int)∧tL 11=.int .i64 k∧k≤ws.length) ((fun(k:Nat)=>(ws.length-k:Nat)) (0)) ?_ ?_
  ·refine M0 ⟨0,rfl,aw,?_,?_,?_,?_,by omega⟩;all_goals try exact zZz trivial
  rintro _ s2 h' ⟨k,rfl,rfl,e3,e9,e10,e11,hk⟩ K2 hK2;simp only[ai,ak,Nat.reduceEqDiff, ↓reduceIte]at e3 e9 e10 e11;have F:=F4 e3 e9 e10 e11;refine wk F ?_;refine cq F (fun c1=>?_) (fun c1=>?_)<;>(try exact c1.elim)<;>(refine wk F ?_)
  ·have c2:k<ws.length:=(by omega);obtain⟨y,hy,hym⟩:=ac c2;have hyl:=hwl y hym;have hget:((ws.take k).map shW++ws.drop k)[k]? =some y:=by
    rw[M9 (by simp;omega),L8,N9,zb9 (by omega),Nat.sub_self,P4];simpa using hy
   have hset:(((ws.take k).map shW++ws.drop k).map AVal.str).set k (.str (shW y))=((ws.take (k+1)).map shW++ws.drop (k+1)).map .str:=by
    have h1:(AVal.str (shW y))=AVal.str (shW y):=rfl;rw[← zc3];congr 1
    rw[List.set_append_right _ _ (by simp;omega),L8,N9,zb9 (by omega),Nat.sub_self,aF hy,List.set_cons_zero,O3,hy];simp
   have hlen:(((ws.take k).map shW++ws.drop k).map AVal.str).length=ws.length:=(by simp;omega);generalize hrw:(ws.take k).map shW++ws.drop k=rw at*;have F:=F6 F c2 @hget @hset @hlen @ax;(try refine sq F ?_);refine wk F ?_;refine kq F (qS G y (by omega) _) ?_;refine hK2 _ _ _ (M0 ⟨k+1,rfl,rfl,?_,?_,?_,?_,by omega⟩) (by omega);all_goals try exact zZz F
  ·have hk2:k=ws.length:=(by omega);subst hk2;have hfin:(ws.take ws.length).map shW++ws.drop ws.length=ws.map shW:=(by rw[W9,List.drop_length,O2]);rw[hfin];have hg:getRow (h++[.row 9 1 0 ((ws.map shW).map .str)]) h.length 0=some (9,1,(ws.map shW).map .str):=(by rw[aH _ rfl];simp[getRow]);have hz:=za1 (n:=h.length) (len:=ws.length) (room:=true) (M2 _) hg (by simp) (fun r hr=>by obtain⟨a,_,rfl⟩:=N0.1 hr;exact .str _) (fun r hr c hc=>by obtain⟨a,_,rfl⟩:=N0.1 hr;simp[AVal.cells]at hc;subst hc;rfl);refine ye hQ F ?_;exact Fin.frz hz ⟨rfl,rfl⟩
def isF(s:Bs):Bool:=decide (wordsF s=[s])
theorem pm(s:Bs)(hs:s.length≤100000)(h:Heap):Sat (CT G) 134 [.str s] h (fun r h'=>r=.bool (isF s)∧h'=h):=by
 have hW:=gD G s hs;unfold isF;generalize wordsF s=ws at*
 match ws with
 | []=>
  refine sb [.tmp 2] Tryz.func134 ?_;intro Q hQ;refine wk trivial ?_;refine kq trivial (hW _) ?_;refine ee hQ trivial ?_;exact O5 (.bool _) ⟨by simp,rfl⟩
 | [w]=>
  refine sb [.tmp 2] Tryz.func134 ?_;intro Q hQ;refine wk trivial ?_;refine kq trivial (hW _) ?_;refine ee hQ trivial ?_;exact O5 (.bool _) ⟨by simp;rw[O9];simp,rfl⟩
 |w::v::l=>
  refine sb [.tmp 2] Tryz.func134 ?_;intro Q hQ;refine wk trivial ?_;refine kq trivial (hW _) ?_;(first|refine gq trivial (fun g=>?_) (fun g=>?_)|refine pq trivial (fun g=>?_) (fun g=>?_))<;>(try exact g.elim)<;>(try refine sq trivial ?_)<;>(refine wk trivial ?_)
  ·exfalso;first|omega| (simp at g;omega)
  ·refine ee hQ trivial ?_;exact O5 (.bool _) ⟨by simp,rfl⟩
theorem lR{x:Int}(h0:0≤x)(h1:x<256):IntKind.u8.wrap x=x:=by
 simp only[IntKind.wrap,IntKind.bits,IntKind.signed];simp;omega
theorem wj(k:IntKind)(n:Int)(h0:0≤n)(h1:n<256):aconv Tryz.prog 21 5 (.int k n)=some (.int .u8 n):=by simp only[aconv,go_sem,lR h0 h1]
theorem xT{a b:Int}(h0:0≤a):a.tdiv b=a/b:=Int.tdiv_eq_ediv_of_nonneg h0
theorem xU{a b:Int}(h0:0≤a):a.tmod b=a%b:=Int.tmod_eq_emod_of_nonneg h0
theorem Bytes.clo(n m:Nat)(l:Bs):Clo n (.sl m (l.map bytA)):=.sl _ _ fun e he=>by obtain⟨a,_,rfl⟩:=N0.1 he;exact .int _ _
theorem pC(r:Int)(hr:Rune r)(h:Heap):Sat (CT G) 209 [.int .i32 r] h (fun x h'=>x=.sl 1 ((enc r).map bytA)∧h'=h):=by
 obtain⟨h0,h1⟩:=id hr;have n64:((64:Int)=0)=False:=by decide
 have F:=F4 @wj @cm @xT @xU;refine sb [.tmp 2] Tryz.func209 ?_;intro Q hQ;(repeat (first|refine w1 (fun K hK=>?_)|refine w2 ?_|refine w3 ?_| ((first|refine w4 ?_|refine wD ?_|refine w5 ?_|refine w6 ?_|refine w7 ?_);try refine sq F ?_)| (refine w8 ?_;refine sq F ?_;refine w9 ?_)| (refine rq F ?_;try refine sq F ?_)| (refine vq F ?_;try refine sq F ?_)| ((first|refine hK _ _ (w0 ?_)| (clear hK K;refine hK _ _ (w0 ?_))| (clear hK K;clear hK K;refine hK _ _ (w0 ?_)));clear hK K)))
 (first|refine gq F (fun g1=>?_) (fun g1=>?_)|refine pq F (fun g1=>?_) (fun g1=>?_))<;>(try exact g1.elim)<;>(try refine sq F ?_)<;>((repeat (first|refine w1 (fun K hK=>?_)|refine w2 ?_|refine w3 ?_| ((first|refine w4 ?_|refine wD ?_|refine w5 ?_|refine w6 ?_|refine w7 ?_);try refine sq F ?_)| (refine w8 ?_;refine sq F ?_;refine w9 ?_)| (refine rq F ?_;try refine sq F ?_)| (refine vq F ?_;try refine sq F ?_)| ((first|refine hK _ _ (w0 ?_)| (clear hK K;refine hK _ _ (w0 ?_))| (clear hK K;clear hK K;refine hK _ _ (w0 ?_)));clear hK K))))
 ·exfalso;omega
 ·have big:∀(t':Env),t' 0=.int .i32 r→t' 16=.bool false→K t' h:=by
   intro t' e0 e16;refine hK _ _ (M0 ?_);clear hK K;have F:=F3 F e0 e16;(repeat (first|refine w1 (fun K hK=>?_)|refine w2 ?_|refine w3 ?_| ((first|refine w4 ?_|refine wD ?_|refine w5 ?_|refine w6 ?_|refine w7 ?_);try refine sq F ?_)| (refine w8 ?_;refine sq F ?_;refine w9 ?_)| (refine rq F ?_;try refine sq F ?_)| (refine vq F ?_;try refine sq F ?_)| ((first|refine hK _ _ (w0 ?_)| (clear hK K;refine hK _ _ (w0 ?_))| (clear hK K;clear hK K;refine hK _ _ (w0 ?_)));clear hK K)))
   have fin:∀l:List AVal,(enc r).map bytA=l→Fin h h (fun x h'=>x=.sl 1 ((enc r).map bytA)∧h'=h) (.sl 1 l):=fun l e=>by
    rw[← e];exact jp (.clo _ (Bytes.clo _ _ _)) ⟨rfl,rfl⟩
   refine cq F (fun c1=>?_) (fun c1=>?_)<;>(try exact c1.elim)<;>((repeat (first|refine w1 (fun K hK=>?_)|refine w2 ?_|refine w3 ?_| ((first|refine w4 ?_|refine wD ?_|refine w5 ?_|refine w6 ?_|refine w7 ?_);try refine sq F ?_)| (refine w8 ?_;refine sq F ?_;refine w9 ?_)| (refine rq F ?_;try refine sq F ?_)| (refine vq F ?_;try refine sq F ?_)| ((first|refine hK _ _ (w0 ?_)| (clear hK K;refine hK _ _ (w0 ?_))| (clear hK K;clear hK K;refine hK _ _ (w0 ?_)));clear hK K))))
   ·refine ee hQ F ?_;exact fin _ (zk h0 c1)
   ·refine cq F (fun c2=>?_) (fun c2=>?_)<;>(try exact c2.elim)<;>((repeat (first|refine w1 (fun K hK=>?_)|refine w2 ?_|refine w3 ?_| ((first|refine w4 ?_|refine wD ?_|refine w5 ?_|refine w6 ?_|refine w7 ?_);try refine sq F ?_)| (refine w8 ?_;refine sq F ?_;refine w9 ?_)| (refine rq F ?_;try refine sq F ?_)| (refine vq F ?_;try refine sq F ?_)| ((first|refine hK _ _ (w0 ?_)| (clear hK K;refine hK _ _ (w0 ?_))| (clear hK K;clear hK K;refine hK _ _ (w0 ?_)));clear hK K))))
    ·refine ee hQ F ?_;exact fin _ (by rw[zl c1 c2])
    ·refine cq F (fun c3=>?_) (fun c3=>?_)<;>(try exact c3.elim)<;>((repeat (first|refine w1 (fun K hK=>?_)|refine w2 ?_|refine w3 ?_| ((first|refine w4 ?_|refine wD ?_|refine w5 ?_|refine w6 ?_|refine w7 ?_);try refine sq F ?_)| (refine w8 ?_;refine sq F ?_;refine w9 ?_)| (refine rq F ?_;try refine sq F ?_)| (refine vq F ?_;try refine sq F ?_)| ((first|refine hK _ _ (w0 ?_)| (clear hK K;refine hK _ _ (w0 ?_))| (clear hK K;clear hK K;refine hK _ _ (w0 ?_)));clear hK K))))
     ·refine ee hQ F ?_;exact fin _ (by rw[vB hr c2 c3])
     ·refine ee hQ F ?_;exact fin _ (by rw[zm c3 (by omega)])
  (first|refine gq F (fun g2=>?_) (fun g2=>?_)|refine pq F (fun g2=>?_) (fun g2=>?_))<;>(try exact g2.elim)<;>(try refine sq F ?_)<;>((repeat (first|refine w1 (fun K hK=>?_)|refine w2 ?_|refine w3 ?_| ((first|refine w4 ?_|refine wD ?_|refine w5 ?_|refine w6 ?_|refine w7 ?_);try refine sq F ?_)| (refine w8 ?_;refine sq F ?_;refine w9 ?_)| (refine rq F ?_;try refine sq F ?_)| (refine vq F ?_;try refine sq F ?_)| ((first|refine hK _ _ (w0 ?_)| (clear hK K;refine hK _ _ (w0 ?_))| (clear hK K;clear hK K;refine hK _ _ (w0 ?_)));clear hK K))))
  ·exfalso;omega
  ·(first|refine gq F (fun g3=>?_) (fun g3=>?_)|refine pq F (fun g3=>?_) (fun g3=>?_))<;>(try exact g3.elim)<;>(try refine sq F ?_)<;>((repeat (first|refine w1 (fun K hK=>?_)|refine w2 ?_|refine w3 ?_| ((first|refine w4 ?_|refine wD ?_|refine w5 ?_|refine w6 ?_|refine w7 ?_);try refine sq F ?_)| (refine w8 ?_;refine sq F ?_;refine w9 ?_)| (refine rq F ?_;try refine sq F ?_)| (refine vq F ?_;try refine sq F ?_)| ((first|refine hK _ _ (w0 ?_)| (clear hK K;refine hK _ _ (w0 ?_))| (clear hK K;clear hK K;refine hK _ _ (w0 ?_)));clear hK K))))
   ·have e:decide (r≤57343)=false:=(by rw[decide_eq_false_iff_not];omega);refine big _ ?_ ?_
    ·exact zq F
    ·exact zq (F2 F e)
   ·refine big _ ?_ ?_
    ·exact zq F
    ·exact zq F
theorem j8:bytesStr Tryz.prog 223 9=true:=by kernel_rfl
def runA(r:Int):AVal:=.int .i32 r
@[go_sem] theorem C6(r:Int):(runA r).cells=[.int .i32 r]:=(rfl)
theorem xV(l:List Int)(hr:∀r∈l,Rune r)(hl:l.length≤1048576)(h:Heap):Sat (CT G) 176 [.sl 1 (l.map runA)] h (fun x h'=>x=.str (l.flatMap enc)∧h'=h):=by
 have hll:(l.map runA).length=l.length:=L8 ..;have F:=hll;refine sb [.tmp 2] Tryz.func176 ?_;intro Q hQ;refine wk F ?_;refine lm (fun nL tL hL=>∃(k v:Nat) (acc:Bs),l.length-k=nL∧h++[.row 5 1 v (acc.map bytA)]=hL∧tL 3=.hs h.length v 0 acc.length true∧tL 4=.int .i64 k∧k≤l.length∧acc++(l.drop k).flatMap enc=l.flatMap enc∧acc.length≤4*k) ((fun(k v:Nat) (acc:Bs)=>(l.length-k:Nat)) (0) (0) ([])) ?_ ?_
 ·refine⟨_,_,Z2 3 5 1 (by simp) (by omega) (by exact zq F),⟨0,0,[],rfl,aw,?_,?_,?_,?_,?_⟩⟩;all_goals try exact zZz F
 rintro _ s2 h' ⟨k,v,acc,rfl,rfl,e3,e4,hk,hp,hz⟩ K2 hK2;simp only[ai,ak,Nat.reduceEqDiff, ↓reduceIte]at e3 e4;have F:=F3 F e3 e4;refine wk F ?_;refine cq F (fun hc=>?_) (fun hc=>?_)<;>(try exact hc.elim)
 ·obtain⟨y,hy,hym⟩:=ac hc;rw[aF hy,X9]at hp;have he:=eF y;have hel:((enc y).map bytA).length=(enc y).length:=L8 ..;have F:=F2 F hy;refine wk F ?_;refine kq F (pC G y (hr y hym) _) ?_;refine aq F ?_;try refine sq F ?_
  refine wk F ?_;refine hK2 _ _ _ (M0 ⟨k+1,v+1,acc++enc y,rfl,aw,?_,?_,by omega,by rw[← hp];simp,by simp;omega⟩) (by omega);all_goals try exact zZz F
 ·rw[aG hc,List.flatMap_nil,O2]at hp;have hb:=gB acc;have hel:elemsOf (h++[.row 5 1 v (acc.map bytA)]) 1 (.hs h.length v 0 acc.length true)=some (acc.map bytA):=by
   simp[elemsOf,getRow,M4]
  have F:=F4 F hb hel @j8;refine wk F ?_;refine ee hQ F ?_;rw[← hp];exact Fin.plainE (j:=_) rfl (.str _) ⟨rfl,rfl⟩
def bA(s:Bs)(i:Nat):Nat:=(s.getD i 0).toNat
theorem x6(s:Bs)(i:Nat):bA s i<256:=UInt8.toNat_lt _
theorem x7{s:Bs}{i:Nat}{c:UInt8}(h:s[i]? =some c):bA s i=c.toNat:=by unfold bA;rw[V1,h];rfl
def Cls(b:Nat)(n:Nat)(r l:Int):Prop:=
 (192≤b∧b<224∧n=2∧r=b-192∧l=128)∨(224≤b∧b<240∧n=3∧r=b-224∧l=2048)∨(240≤b∧b<248∧n=4∧r=b-240∧l=65536)
def accI(s:Bs)(r:Int):Nat→Int
 |0=>r
 |i+1=>accI s r i*64+(bA s (i+1)-128)
theorem mm(s:Bs):dec s 0=Lib.decodeN s.length (bA s 0) (bA s 1) (bA s 2) (bA s 3):=by rw[ft];rfl
theorem kp(s:Bs)(h:(128≤bA s 0∧bA s 0<192)∨248≤bA s 0):dec s 0=(65533,1):=by
 rw[mm];have:=x6 s 0;unfold Lib.decodeN;rw[L5 (by omega),L5 (by omega),L5 (by omega),L5 (by omega)]
theorem oE(s:Bs){n:Nat}{r l:Int}(hc:Cls (bA s 0) n r l)(h:s.length<n):dec s 0=(65533,1):=by
 rw[mm];unfold Cls at hc;unfold Lib.decodeN;rw[L5 (by omega),L5 (by omega),L5 (by omega),L5 (by omega)]
theorem re(s:Bs){n:Nat}{r l:Int}(hc:Cls (bA s 0) n r l)(i:Nat)(h1:1≤i)(h2:i<n)(h:¬(128≤bA s i∧bA s i<192)):dec s 0=(65533,1):=by
 rw[mm];unfold Cls at hc;have:=x6 s i;unfold Lib.decodeN;have hi:i=1∨i=2∨i=3:=by omega
 rcases hi with rfl|rfl|rfl<;>rw[L5 (by omega),L5 (by omega),L5 (by omega),L5 (by omega)]
theorem tG(s:Bs){n:Nat}{r l:Int}(hc:Cls (bA s 0) n r l)(hn:n≤s.length)(ht:∀i,1≤i→i<n→128≤bA s i∧bA s i<192):
  ((accI s r (n-1)<l∨1114111<accI s r (n-1)∨(55296≤accI s r (n-1)∧accI s r (n-1)≤57343))→dec s 0=(65533,1))∧
  (¬(accI s r (n-1)<l∨1114111<accI s r (n-1)∨(55296≤accI s r (n-1)∧accI s r (n-1)≤57343))→((dec s 0).1:Int)=accI s r (n-1)∧(dec s 0).2=n):=by
 rw[mm];unfold Cls at hc;rcases hc with⟨h1,h2,rfl,rfl,rfl⟩| ⟨h1,h2,rfl,rfl,rfl⟩| ⟨h1,h2,rfl,rfl,rfl⟩
 ·have t1:=ht 1 (by omega) (by omega);simp only[accI,Nat.reduceSub,Nat.reduceAdd];unfold Lib.decodeN;rw[L5 (by omega),M1 (by omega)];constructor
  ·intro h;rw[L5 (by omega)]
  ·intro h;rw[M1 (by omega)];dsimp only;refine⟨?_,rfl⟩;omega
 ·have t1:=ht 1 (by omega) (by omega);have t2:=ht 2 (by omega) (by omega);simp only[accI,Nat.reduceSub,Nat.reduceAdd];unfold Lib.decodeN;rw[L5 (by omega),L5 (by omega),M1 (by omega)];constructor
  ·intro h;rw[L5 (by omega)]
  ·intro h;rw[M1 (by omega)];dsimp only;refine⟨?_,rfl⟩;omega
 ·have t1:=ht 1 (by omega) (by omega);have t2:=ht 2 (by omega) (by omega);have t3:=ht 3 (by omega) (by omega);simp only[accI,Nat.reduceSub,Nat.reduceAdd];unfold Lib.decodeN;rw[L5 (by omega),L5 (by omega),L5 (by omega),M1 (by omega)];constructor
  ·intro h;rw[L5 (by omega)]
  ·intro h;rw[M1 (by omega)];dsimp only;refine⟨?_,rfl⟩;omega
theorem tH(b:UInt8)(h:Heap):Sat (CT G) 224 [.int .u8 b.toNat] h (fun r h'=>r=.bool (decide (128≤b.toNat∧b.toNat<192))∧h'=h):=by
 refine sb [.tmp 2] Tryz.func224 ?_;intro Q hQ;refine wk trivial ?_;(first|refine gq trivial (fun g1=>?_) (fun g1=>?_)|refine pq trivial (fun g1=>?_) (fun g1=>?_))<;>(try exact g1.elim)<;>(try refine sq trivial ?_)<;>(refine wk trivial ?_)
 ·refine ee hQ trivial ?_;refine fR (.bool _) ?_;congr 1
  rw[O9];simp;omega
 ·refine ee hQ trivial ?_;refine fR (.bool _) ?_;rw[O0 (by omega)]
theorem wl(k:IntKind)(n:Int)(h0:0≤n)(h1:n<256):aconv Tryz.prog 5 21 (.int k n)=some (.int .i32 n):=by simp only[aconv,go_sem,cm (x:=n) (by omega) (by omega)]
theorem iv(s:Bs)(hne:s≠ [])(hs:s.length≤1073741824)(h:Heap):Sat (CT G) 207 [.str s] h (fun r h'=>r=.tup [.int .i32 (dec s 0).1,.int .i64 (dec s 0).2]∧h'=h):=by
 have hpos:0<s.length:=X5.2 hne;obtain⟨b,hb,_⟩:=ac hpos;have hbA:=x7 hb;have hb256:=b.toNat_lt;have fin:∀c w:Int,((dec s 0).1:Int)=c→((dec s 0).2:Int)=w→Fin h h (fun r h'=>r=.tup [.int .i32 (dec s 0).1,.int .i64 (dec s 0).2]∧h'=h) (.tup [.int .i32 c,.int .i64 w]):=fun c w e1 e2=>by
  rw[e1,e2];exact O5 (.tup _ (by intro c hc;simp at hc;rcases hc with rfl|rfl<;>exact .int _ _)) ⟨rfl,rfl⟩
 have bad:dec s 0=(65533,1)→Fin h h (fun r h'=>r=.tup [.int .i32 (dec s 0).1,.int .i64 (dec s 0).2]∧h'=h) (.tup [.int .i32 65533,.int .i64 1]):=fun e=>fin _ _ (by rw[e];rfl) (by rw[e];rfl)
 have F:=F4 @wl @lR @cm hb;refine sb [.tmp 2,.tmp 3] Tryz.func207 ?_;intro Q hQ;(repeat (first|refine w1 (fun K hK=>?_)|refine w2 ?_|refine w3 ?_| ((first|refine w4 ?_|refine wD ?_|refine w5 ?_|refine w6 ?_|refine w7 ?_);try refine sq F ?_)| (refine w8 ?_;refine sq F ?_;refine w9 ?_)| ((first|refine hK _ _ (w0 ?_)| (clear hK K;refine hK _ _ (w0 ?_))| (clear hK K;clear hK K;refine hK _ _ (w0 ?_)));clear hK K)))
 refine cq F (fun c1=>?_) (fun c1=>?_)<;>(try exact c1.elim)<;>((repeat (first|refine w1 (fun K hK=>?_)|refine w2 ?_|refine w3 ?_| ((first|refine w4 ?_|refine wD ?_|refine w5 ?_|refine w6 ?_|refine w7 ?_);try refine sq F ?_)| (refine w8 ?_;refine sq F ?_;refine w9 ?_)| ((first|refine hK _ _ (w0 ?_)| (clear hK K;refine hK _ _ (w0 ?_))| (clear hK K;clear hK K;refine hK _ _ (w0 ?_)));clear hK K))))
 ·refine ee hQ F ?_;have e:=lL s 0 b hb (by omega);exact fin _ _ (by rw[e]) (by rw[e];rfl)
 rename_i K0 hK0;have tail:∀(t':Env) (n:Nat) (r l:Int),Cls (bA s 0) n r l→t' 0=.str s→t' 5=.int .i64 n→t' 6=.int .i32 r→t' 7=.int .i32 l→K0 t' h:=by
  intro t' n r l hc e0 e5 e6 e7;refine hK0 _ _ (M0 ?_);clear hK0 K0 hK K;have F:=F5 F e0 e5 e6 e7;(repeat (first|refine w1 (fun K hK=>?_)|refine w2 ?_|refine w3 ?_| ((first|refine w4 ?_|refine wD ?_|refine w5 ?_|refine w6 ?_|refine w7 ?_);try refine sq F ?_)| (refine w8 ?_;refine sq F ?_;refine w9 ?_)| ((first|refine hK _ _ (w0 ?_)| (clear hK K;refine hK _ _ (w0 ?_))| (clear hK K;clear hK K;refine hK _ _ (w0 ?_)));clear hK K)))
  refine cq F (fun c2=>?_) (fun c2=>?_)<;>(try exact c2.elim)<;>((repeat (first|refine w1 (fun K hK=>?_)|refine w2 ?_|refine w3 ?_| ((first|refine w4 ?_|refine wD ?_|refine w5 ?_|refine w6 ?_|refine w7 ?_);try refine sq F ?_)| (refine w8 ?_;refine sq F ?_;refine w9 ?_)| ((first|refine hK _ _ (w0 ?_)| (clear hK K;refine hK _ _ (w0 ?_))| (clear hK K;clear hK K;refine hK _ _ (w0 ?_)));clear hK K))))
  ·refine ee hQ F ?_;exact bad (oE s hc (by omega))
  have hc':=hc;unfold Cls at hc';refine lm (fun nL tL hL=>∃(i:Nat) (q:Int),n-i=nL∧h=hL∧tL 6=.int .i32 q∧tL 8=.int .i64 i∧(1≤i∧i≤n)∧q=accI s r (i-1)∧(0≤q∧(i=1→q<32)∧(i=2→q<2048)∧(i=3→q<131072)∧(i=4→q<8388608))∧(∀j,1≤j→j<i→128≤bA s j∧bA s j<192)) ((fun(i:Nat) (q:Int)=>(n-i:Nat)) (1) (r)) ?_ ?_
  ·refine M0 ⟨1,r,rfl,aw,?_,?_,⟨by omega,by omega⟩,rfl,⟨by omega,by omega,by omega,by omega,by omega⟩,fun j h1 h2=>by omega⟩;all_goals try exact zZz F
  rintro _ s1 h' ⟨i,q,rfl,rfl,e6,e8,hi,hq,hb,ht⟩ K1 hK1;simp only[ai,ak,Nat.reduceEqDiff, ↓reduceIte]at e6 e8;have F:=F3 F e6 e8;(repeat (first|refine w1 (fun K hK=>?_)|refine w2 ?_|refine w3 ?_| ((first|refine w4 ?_|refine wD ?_|refine w5 ?_|refine w6 ?_|refine w7 ?_);try refine sq F ?_)| (refine w8 ?_;refine sq F ?_;refine w9 ?_)| ((first|refine hK _ _ (w0 ?_)| (clear hK K;refine hK _ _ (w0 ?_))| (clear hK K;clear hK K;refine hK _ _ (w0 ?_)));clear hK K)))
  refine cq F (fun c3=>?_) (fun c3=>?_)<;>(try exact c3.elim)<;>((repeat (first|refine w1 (fun K hK=>?_)|refine w2 ?_|refine w3 ?_| ((first|refine w4 ?_|refine wD ?_|refine w5 ?_|refine w6 ?_|refine w7 ?_);try refine sq F ?_)| (refine w8 ?_;refine sq F ?_;refine w9 ?_)| ((first|refine hK _ _ (w0 ?_)| (clear hK K;refine hK _ _ (w0 ?_))| (clear hK K;clear hK K;refine hK _ _ (w0 ?_)));clear hK K))))
  ·obtain⟨y,hy,_⟩:=ac (show i<s.length by omega);have hyA:=x7 hy;have hy256:=y.toNat_lt;have F:=F2 F hy;(try refine sq F ?_);(repeat (first|refine w1 (fun K hK=>?_)|refine w2 ?_|refine w3 ?_| ((first|refine w4 ?_|refine wD ?_|refine w5 ?_|refine w6 ?_|refine w7 ?_);try refine sq F ?_)| (refine w8 ?_;refine sq F ?_;refine w9 ?_)| ((first|refine hK _ _ (w0 ?_)| (clear hK K;refine hK _ _ (w0 ?_))| (clear hK K;clear hK K;refine hK _ _ (w0 ?_)));clear hK K)))
   refine(tH G y _).mono ?_;rintro r h' ⟨rfl,rfl⟩;(try refine sq F ?_);(repeat (first|refine w1 (fun K hK=>?_)|refine w2 ?_|refine w3 ?_| ((first|refine w4 ?_|refine wD ?_|refine w5 ?_|refine w6 ?_|refine w7 ?_);try refine sq F ?_)| (refine w8 ?_;refine sq F ?_;refine w9 ?_)| ((first|refine hK _ _ (w0 ?_)| (clear hK K;refine hK _ _ (w0 ?_))| (clear hK K;clear hK K;refine hK _ _ (w0 ?_)));clear hK K)))
   refine cq F (fun c4=>?_) (fun c4=>?_)<;>(try exact c4.elim)<;>((repeat (first|refine w1 (fun K hK=>?_)|refine w2 ?_|refine w3 ?_| ((first|refine w4 ?_|refine wD ?_|refine w5 ?_|refine w6 ?_|refine w7 ?_);try refine sq F ?_)| (refine w8 ?_;refine sq F ?_;refine w9 ?_)| ((first|refine hK _ _ (w0 ?_)| (clear hK K;refine hK _ _ (w0 ?_))| (clear hK K;clear hK K;refine hK _ _ (w0 ?_)));clear hK K))))
   ·refine ee hQ F ?_;exact bad (re s hc i hi.1 c3 (by rw[hyA];omega))
   ·have hacc:accI s r i=accI s r (i-1)*64+(bA s i-128):=by
     obtain⟨k,rfl⟩:∃k,i=k+1:=⟨i-1,by omega⟩;rfl
    have hi4:i=1∨i=2∨i=3:=(by omega);have ht':∀j,1≤j→j<i+1→128≤bA s j∧bA s j<192:=fun j h1 h2=>by
     rcases Z6 j i with h3|h3
     ·exact ht j h1 h3
     ·obtain rfl:j=i:=by omega
      rw[hyA];omega
    have hq':q*64+((y.toNat:Int)-128)=accI s r (i+1-1):=(by rw[Nat.add_sub_cancel,hacc, ← hq,hyA]);(try refine sq F ?_);(repeat (first|refine w1 (fun K hK=>?_)|refine w2 ?_|refine w3 ?_| ((first|refine w4 ?_|refine wD ?_|refine w5 ?_|refine w6 ?_|refine w7 ?_);try refine sq F ?_)| (refine w8 ?_;refine sq F ?_;refine w9 ?_)| ((first|refine hK _ _ (w0 ?_)| (clear hK K;refine hK _ _ (w0 ?_))| (clear hK K;clear hK K;refine hK _ _ (w0 ?_)));clear hK K)))
    refine hK1 _ _ _ (M0 ⟨i+1,q*64+(y.toNat-128),rfl,aw,?_,?_,⟨by omega,by omega⟩,hq',by omega,ht'⟩) (by omega);all_goals try exact zZz F
  ·have hin:i=n:=(by omega);subst hin;obtain⟨f1,f2⟩:=tG s hc (by omega) ht;rw[← hq]at f1 f2;(try refine sq F ?_);(repeat (first|refine w1 (fun K hK=>?_)|refine w2 ?_|refine w3 ?_| ((first|refine w4 ?_|refine wD ?_|refine w5 ?_|refine w6 ?_|refine w7 ?_);try refine sq F ?_)| (refine w8 ?_;refine sq F ?_;refine w9 ?_)| ((first|refine hK _ _ (w0 ?_)| (clear hK K;refine hK _ _ (w0 ?_))| (clear hK K;clear hK K;refine hK _ _ (w0 ?_)));clear hK K)))
   (first|refine gq F (fun g1=>?_) (fun g1=>?_)|refine pq F (fun g1=>?_) (fun g1=>?_))<;>(try exact g1.elim)<;>(try refine sq F ?_)<;>((repeat (first|refine w1 (fun K hK=>?_)|refine w2 ?_|refine w3 ?_| ((first|refine w4 ?_|refine wD ?_|refine w5 ?_|refine w6 ?_|refine w7 ?_);try refine sq F ?_)| (refine w8 ?_;refine sq F ?_;refine w9 ?_)| ((first|refine hK _ _ (w0 ?_)| (clear hK K;refine hK _ _ (w0 ?_))| (clear hK K;clear hK K;refine hK _ _ (w0 ?_)));clear hK K))))
   ·refine ee hQ F ?_;exact bad (f1 (by omega))
   ·(first|refine gq F (fun g2=>?_) (fun g2=>?_)|refine pq F (fun g2=>?_) (fun g2=>?_))<;>(try exact g2.elim)<;>(try refine sq F ?_)<;>((repeat (first|refine w1 (fun K hK=>?_)|refine w2 ?_|refine w3 ?_| ((first|refine w4 ?_|refine wD ?_|refine w5 ?_|refine w6 ?_|refine w7 ?_);try refine sq F ?_)| (refine w8 ?_;refine sq F ?_;refine w9 ?_)| ((first|refine hK _ _ (w0 ?_)| (clear hK K;refine hK _ _ (w0 ?_))| (clear hK K;clear hK K;refine hK _ _ (w0 ?_)));clear hK K))))
    ·refine ee hQ F ?_;exact bad (f1 (by omega))
    ·(first|refine gq F (fun g3=>?_) (fun g3=>?_)|refine pq F (fun g3=>?_) (fun g3=>?_))<;>(try exact g3.elim)<;>(try refine sq F ?_)<;>((repeat (first|refine w1 (fun K hK=>?_)|refine w2 ?_|refine w3 ?_| ((first|refine w4 ?_|refine wD ?_|refine w5 ?_|refine w6 ?_|refine w7 ?_);try refine sq F ?_)| (refine w8 ?_;refine sq F ?_;refine w9 ?_)| ((first|refine hK _ _ (w0 ?_)| (clear hK K;refine hK _ _ (w0 ?_))| (clear hK K;clear hK K;refine hK _ _ (w0 ?_)));clear hK K))))
     ·refine cq F (fun g4=>?_) (fun g4=>?_)<;>(try exact g4.elim)<;>((repeat (first|refine w1 (fun K hK=>?_)|refine w2 ?_|refine w3 ?_| ((first|refine w4 ?_|refine wD ?_|refine w5 ?_|refine w6 ?_|refine w7 ?_);try refine sq F ?_)| (refine w8 ?_;refine sq F ?_;refine w9 ?_)| ((first|refine hK _ _ (w0 ?_)| (clear hK K;refine hK _ _ (w0 ?_))| (clear hK K;clear hK K;refine hK _ _ (w0 ?_)));clear hK K))))
      ·refine ee hQ F ?_;exact bad (f1 (by omega))
      ·refine ee hQ F ?_;exact fin _ _ (f2 (by omega)).1 (by rw[(f2 (by omega)).2])
     ·refine ee hQ F ?_;exact fin _ _ (f2 (by omega)).1 (by rw[(f2 (by omega)).2])
 (first|refine gq F (fun g1=>?_) (fun g1=>?_)|refine pq F (fun g1=>?_) (fun g1=>?_))<;>(try exact g1.elim)<;>(try refine sq F ?_)<;>((repeat (first|refine w1 (fun K hK=>?_)|refine w2 ?_|refine w3 ?_| ((first|refine w4 ?_|refine wD ?_|refine w5 ?_|refine w6 ?_|refine w7 ?_);try refine sq F ?_)| (refine w8 ?_;refine sq F ?_;refine w9 ?_)| ((first|refine hK _ _ (w0 ?_)| (clear hK K;refine hK _ _ (w0 ?_))| (clear hK K;clear hK K;refine hK _ _ (w0 ?_)));clear hK K))))
 ·refine cq F (fun g2=>?_) (fun g2=>?_)<;>(try exact g2.elim)<;>((repeat (first|refine w1 (fun K hK=>?_)|refine w2 ?_|refine w3 ?_| ((first|refine w4 ?_|refine wD ?_|refine w5 ?_|refine w6 ?_|refine w7 ?_);try refine sq F ?_)| (refine w8 ?_;refine sq F ?_;refine w9 ?_)| ((first|refine hK _ _ (w0 ?_)| (clear hK K;refine hK _ _ (w0 ?_))| (clear hK K;clear hK K;refine hK _ _ (w0 ?_)));clear hK K))))
  ·refine tail _ 2 (b.toNat-192) 128 ?_ ?_ ?_ ?_ ?_
   ·unfold Cls;omega
   ·exact zq F
   ·exact zq F
   ·exact zq F
   ·exact zq F
  ·(first|refine gq F (fun g3=>?_) (fun g3=>?_)|refine pq F (fun g3=>?_) (fun g3=>?_))<;>(try exact g3.elim)<;>(try refine sq F ?_)<;>((repeat (first|refine w1 (fun K hK=>?_)|refine w2 ?_|refine w3 ?_| ((first|refine w4 ?_|refine wD ?_|refine w5 ?_|refine w6 ?_|refine w7 ?_);try refine sq F ?_)| (refine w8 ?_;refine sq F ?_;refine w9 ?_)| ((first|refine hK _ _ (w0 ?_)| (clear hK K;refine hK _ _ (w0 ?_))| (clear hK K;clear hK K;refine hK _ _ (w0 ?_)));clear hK K))))
   ·refine cq F (fun g4=>?_) (fun g4=>?_)<;>(try exact g4.elim)<;>((repeat (first|refine w1 (fun K hK=>?_)|refine w2 ?_|refine w3 ?_| ((first|refine w4 ?_|refine wD ?_|refine w5 ?_|refine w6 ?_|refine w7 ?_);try refine sq F ?_)| (refine w8 ?_;refine sq F ?_;refine w9 ?_)| ((first|refine hK _ _ (w0 ?_)| (clear hK K;refine hK _ _ (w0 ?_))| (clear hK K;clear hK K;refine hK _ _ (w0 ?_)));clear hK K))))
    ·refine tail _ 3 (b.toNat-224) 2048 ?_ ?_ ?_ ?_ ?_
     ·unfold Cls;omega
     ·exact zq F
     ·exact zq F
     ·exact zq F
     ·exact zq F
    ·(first|refine gq F (fun g5=>?_) (fun g5=>?_)|refine pq F (fun g5=>?_) (fun g5=>?_))<;>(try exact g5.elim)<;>(try refine sq F ?_)<;>((repeat (first|refine w1 (fun K hK=>?_)|refine w2 ?_|refine w3 ?_| ((first|refine w4 ?_|refine wD ?_|refine w5 ?_|refine w6 ?_|refine w7 ?_);try refine sq F ?_)| (refine w8 ?_;refine sq F ?_;refine w9 ?_)| ((first|refine hK _ _ (w0 ?_)| (clear hK K;refine hK _ _ (w0 ?_))| (clear hK K;clear hK K;refine hK _ _ (w0 ?_)));clear hK K))))
     ·refine cq F (fun g6=>?_) (fun g6=>?_)<;>(try exact g6.elim)<;>((repeat (first|refine w1 (fun K hK=>?_)|refine w2 ?_|refine w3 ?_| ((first|refine w4 ?_|refine wD ?_|refine w5 ?_|refine w6 ?_|refine w7 ?_);try refine sq F ?_)| (refine w8 ?_;refine sq F ?_;refine w9 ?_)| ((first|refine hK _ _ (w0 ?_)| (clear hK K;refine hK _ _ (w0 ?_))| (clear hK K;clear hK K;refine hK _ _ (w0 ?_)));clear hK K))))
      ·refine tail _ 4 (b.toNat-240) 65536 ?_ ?_ ?_ ?_ ?_
       ·unfold Cls;omega
       ·exact zq F
       ·exact zq F
       ·exact zq F
       ·exact zq F
      ·refine ee hQ F ?_;exact bad (kp s (by omega))
     ·exfalso;omega
   ·exfalso;omega
 ·(first|refine gq F (fun g3=>?_) (fun g3=>?_)|refine pq F (fun g3=>?_) (fun g3=>?_))<;>(try exact g3.elim)<;>(try refine sq F ?_)<;>((repeat (first|refine w1 (fun K hK=>?_)|refine w2 ?_|refine w3 ?_| ((first|refine w4 ?_|refine wD ?_|refine w5 ?_|refine w6 ?_|refine w7 ?_);try refine sq F ?_)| (refine w8 ?_;refine sq F ?_;refine w9 ?_)| ((first|refine hK _ _ (w0 ?_)| (clear hK K;refine hK _ _ (w0 ?_))| (clear hK K;clear hK K;refine hK _ _ (w0 ?_)));clear hK K))))
  ·exfalso;omega
  ·(first|refine gq F (fun g5=>?_) (fun g5=>?_)|refine pq F (fun g5=>?_) (fun g5=>?_))<;>(try exact g5.elim)<;>(try refine sq F ?_)<;>((repeat (first|refine w1 (fun K hK=>?_)|refine w2 ?_|refine w3 ?_| ((first|refine w4 ?_|refine wD ?_|refine w5 ?_|refine w6 ?_|refine w7 ?_);try refine sq F ?_)| (refine w8 ?_;refine sq F ?_;refine w9 ?_)| ((first|refine hK _ _ (w0 ?_)| (clear hK K;refine hK _ _ (w0 ?_))| (clear hK K;clear hK K;refine hK _ _ (w0 ?_)));clear hK K))))
   ·exfalso;omega
   ·refine ee hQ F ?_;exact bad (kp s (by omega))
theorem wo:∀(l:List Int),∀r∈l.map runA,∀c∈r.cells,c.sto=true:=fun l r hr c hc=>by
 obtain⟨a,_,rfl⟩:=N0.1 hr;simp[runA,AVal.cells]at hc;subst hc;rfl
theorem wq:∀(n:Nat) (l:List Int),∀r∈l.map runA,Clo n r:=fun n l r hr=>by
 obtain⟨a,_,rfl⟩:=N0.1 hr;exact .int _ _
theorem Frz.runes{h:Heap}{n q v e:Nat}{l:List Int}{len:Nat}{room:Bool}(hq:n≤q)(hg:getRow h q v=some (e,1,l.map runA))(hlen:len=l.length):Frz h n (.hs q v 0 len room) (.sl 1 (l.map runA)):=
 za1 hq hg (by simpa using hlen) (fun r hr=>wq _ l r hr) (fun r hr=>wo l r hr)
theorem lS(s:Bs)(hs:s.length≤1048576)(h:Heap):Sat (CT G) 173 [.str s] h (fun r h'=>r=.sl 1 ((runesF s).map runA)∧h'=h):=by
 refine sb [.tmp 2] Tryz.func173 ?_;intro Q hQ;refine wk trivial ?_;refine lm (fun nL tL hL=>∃(k v:Nat) (acc:List Int),s.length-k=nL∧h++[.row 21 1 v (acc.map runA)]=hL∧tL 0=.str (s.drop k)∧tL 3=.hs h.length v 0 acc.length true∧k≤s.length∧acc.length≤k∧acc++runesF (s.drop k)=runesF s) ((fun(k v:Nat) (acc:List Int)=>(s.length-k:Nat)) (0) (0) ([])) ?_ ?_
 ·refine⟨_,_,Z2 3 21 1 (by simp) (by omega) (by exact zq trivial),⟨0,0,[],rfl,aw,?_,?_,?_,?_,?_⟩⟩;all_goals try exact zZz trivial
 rintro _ s2 h' ⟨k,v,acc,rfl,rfl,e0,e3,hk,hl,hp⟩ K2 hK2;simp only[ai,ak,Nat.reduceEqDiff, ↓reduceIte]at e0 e3;have F:=F2 e0 e3;refine wk F ?_;refine cq F (fun c1=>?_) (fun c1=>?_)<;>(try exact c1.elim)<;>(refine wk F ?_)
 ·simp only[P5]at c1;have hlt:k<s.length:=by omega
  have hp2:=br s k hlt;rw[fu s k hlt]at hp;have hne:s.drop k≠ []:=by intro e;have:=P9 List.length e;simp at this;omega
  refine(iv G (s.drop k) hne (by simp;omega) _).mono ?_;rintro r h' ⟨rfl,rfl⟩;rw[← cn];generalize dec s k=d at*;obtain⟨c,m⟩:=d;simp only[]at hp hp2 ⊢;have hsl:m≤(s.drop k).length:=by simp;omega
  have hdd:(s.drop k).drop m=s.drop (k+m):=W3 ..;have F:=F3 F hsl hdd;try refine sq F ?_
  refine wk F ?_;refine aq F ?_;try refine sq F ?_
  refine wk F ?_;refine hK2 _ _ _ (M0 ⟨k+m,v+1,acc++[(c:Int)],rfl,aw,?_,?_,by omega,by simp;omega,by rw[← hp];simp⟩) (by omega);all_goals try exact zZz F
 ·simp only[P5]at c1;rw[en s k (by omega),O2]at hp;refine wk F ?_;refine ee hQ F ?_;rw[← hp];exact Fin.frz (Frz.runes (M2 _) (by simp[getRow];rfl) rfl) ⟨rfl,rfl⟩
theorem rj(c:Int)(h:Heap):Sat (CT G) 219 [.int .i32 c] h (fun r h'=>r=.bool (blankR c)∧h'=h):=by
 have yes:(c=9∨c=10∨c=13∨c=32∨c=160∨c=8232∨c=8233∨c=12288)→blankR c=true:=fun h=>O4 h
 have no:¬(c=9∨c=10∨c=13∨c=32∨c=160∨c=8232∨c=8233∨c=12288)→blankR c=false:=fun h=>O0 h
 refine sb [.tmp 2] Tryz.func219 ?_;intro Q hQ;refine wk trivial ?_;(first|refine gq trivial (fun g0=>?_) (fun g0=>?_)|refine pq trivial (fun g0=>?_) (fun g0=>?_))<;>(try exact g0.elim)<;>(try refine sq trivial ?_)<;>(refine wk trivial ?_)
 ·refine ee hQ trivial ?_;refine fR (.bool _) ?_;rw[yes (by omega)]
 ·(first|refine gq trivial (fun g1=>?_) (fun g1=>?_)|refine pq trivial (fun g1=>?_) (fun g1=>?_))<;>(try exact g1.elim)<;>(try refine sq trivial ?_)<;>(refine wk trivial ?_)
  ·refine ee hQ trivial ?_;refine fR (.bool _) ?_;rw[yes (by omega)]
  ·(first|refine gq trivial (fun g2=>?_) (fun g2=>?_)|refine pq trivial (fun g2=>?_) (fun g2=>?_))<;>(try exact g2.elim)<;>(try refine sq trivial ?_)<;>(refine wk trivial ?_)
   ·refine ee hQ trivial ?_;refine fR (.bool _) ?_;rw[yes (by omega)]
   ·(first|refine gq trivial (fun g3=>?_) (fun g3=>?_)|refine pq trivial (fun g3=>?_) (fun g3=>?_))<;>(try exact g3.elim)<;>(try refine sq trivial ?_)<;>(refine wk trivial ?_)
    ·refine ee hQ trivial ?_;refine fR (.bool _) ?_;rw[yes (by omega)]
    ·(first|refine gq trivial (fun g4=>?_) (fun g4=>?_)|refine pq trivial (fun g4=>?_) (fun g4=>?_))<;>(try exact g4.elim)<;>(try refine sq trivial ?_)<;>(refine wk trivial ?_)
     ·refine ee hQ trivial ?_;refine fR (.bool _) ?_;rw[yes (by omega)]
     ·(first|refine gq trivial (fun g5=>?_) (fun g5=>?_)|refine pq trivial (fun g5=>?_) (fun g5=>?_))<;>(try exact g5.elim)<;>(try refine sq trivial ?_)<;>(refine wk trivial ?_)
      ·refine ee hQ trivial ?_;refine fR (.bool _) ?_;rw[yes (by omega)]
      ·(first|refine gq trivial (fun g6=>?_) (fun g6=>?_)|refine pq trivial (fun g6=>?_) (fun g6=>?_))<;>(try exact g6.elim)<;>(try refine sq trivial ?_)<;>(refine wk trivial ?_)
       ·refine ee hQ trivial ?_;refine fR (.bool _) ?_;rw[yes (by omega)]
       ·refine ee hQ trivial ?_;refine fR (.bool _) ?_;congr 1
        rw[O9];by_cases h8:c=12288
        ·rw[yes (by omega)];simp[h8]
        ·rw[no (by omega)];simp[h8]
theorem kr(s:Bs)(hs:s.length≤1048576)(h:Heap):Sat (CT G) 197 [.str s] h (fun r h'=>r=.bool (rightS s)∧h'=h):=by
 refine sb [.tmp 2] Tryz.func197 ?_;intro Q hQ;refine wk trivial ?_;refine lm (fun nL tL hL=>∃(k:Nat),s.length-k=nL∧h=hL∧tL 0=.str (s.drop k)∧k≤s.length∧rightS (s.drop k)=rightS s) ((fun(k:Nat)=>(s.length-k:Nat)) (0)) ?_ ?_
 ·refine M0 ⟨0,rfl,aw,?_,by omega,rfl⟩;all_goals try exact zZz trivial
 rintro _ s2 h' ⟨k,rfl,rfl,e0,hk,hc⟩ K2 hK2;simp only[ai,ak,Nat.reduceEqDiff, ↓reduceIte]at e0;have F:=e0;refine wk F ?_;refine cq F (fun c1=>?_) (fun c1=>?_)<;>(try exact c1.elim)<;>(refine wk F ?_)
 ·simp only[P5]at c1;have hlt:k<s.length:=by omega
  have hp2:=br s k hlt;have hca:=lM s k hlt;have hne:s.drop k≠ []:=by intro e;have:=P9 List.length e;simp at this;omega
  rw[hc]at hca;refine(iv G (s.drop k) hne (by simp;omega) _).mono ?_;rintro r h' ⟨rfl,rfl⟩;rw[← cn];generalize dec s k=d at*;obtain⟨c,m⟩:=d;simp only[]at hp2 hca ⊢;have hsl:m≤(s.drop k).length:=by simp;omega
  have hdd:(s.drop k).drop m=s.drop (k+m):=W3 ..;have F:=F3 F hsl hdd;try refine sq F ?_
  refine wk F ?_;(first|refine gq F (fun g1=>?_) (fun g1=>?_)|refine pq F (fun g1=>?_) (fun g1=>?_))<;>(try exact g1.elim)<;>(try refine sq F ?_)<;>(refine wk F ?_)
  ·refine cq F (fun g2=>?_) (fun g2=>?_)<;>(try exact g2.elim)<;>(refine wk F ?_)
   ·refine ee hQ F ?_;refine fR (.bool _) ?_;rw[hca,M1 (by omega)]
   ·refine hK2 _ _ _ (M0 ⟨k+m,rfl,aw,?_,by omega,by rw[hca,L5 (by omega)]⟩) (by omega);all_goals try exact zZz F
  ·refine hK2 _ _ _ (M0 ⟨k+m,rfl,aw,?_,by omega,by rw[hca,L5 (by omega)]⟩) (by omega);all_goals try exact zZz F
 ·simp only[P5]at c1;rw[R3 (by omega)]at hc;refine wk F ?_;refine ee hQ F ?_;refine fR (.bool _) ?_;rw[← hc];rfl
theorem ku(s:Bs)(hs:s.length≤100000)(h:Heap):Sat (CT G) 198 [.str s] h (fun r h'=>r=.str (cleanF s)∧h'=h):=by
 have hll:=cE s.length s (M2 _);have hrl:=dH s.length s (M2 _);have hcl:=fw (runesF s) [] false hrl (by simp);have hdef:clnR (runesF s) [] false=cleanR s:=rfl;have hcf:encs (cleanR s)=cleanF s:=rfl;refine sb [.tmp 2] Tryz.func198 ?_;intro Q hQ;refine wk trivial ?_;refine(lS G s (by omega) _).mono ?_;rintro r h' ⟨rfl,hk_⟩;replace hk_:=hk_.symm;subst hk_;try refine sq trivial ?_
 refine wk trivial ?_;generalize runesF s=l at*;have hlm:(l.map runA).length=l.length:=L8 ..;have F:=hlm;refine lm (fun nL tL hL=>∃(k v:Nat) (acc:List Int) (w:Bool),l.length-k=nL∧h++[.row 21 1 v (acc.map runA)]=hL∧tL 4=.hs h.length v 0 acc.length true∧tL 5=.bool w∧tL 6=.int .i64 k∧k≤l.length∧clnR (l.drop k) acc w=cleanR s∧acc.length≤2*k) ((fun(k v:Nat) (acc:List Int) (w:Bool)=>(l.length-k:Nat)) (0) (0) ([]) (false)) ?_ ?_
 ·refine⟨_,_,Z2 4 21 1 (by simp) (by omega) (by exact zq F),⟨0,0,[],false,rfl,aw,?_,?_,?_,by omega,hdef,by simp⟩⟩;all_goals try exact zZz F
 rintro _ s2 h' ⟨k,v,acc,w,rfl,rfl,e4,e5,e6,hk,hv,hl⟩ K2 hK2;simp only[ai,ak,Nat.reduceEqDiff, ↓reduceIte]at e4 e5 e6;have F:=F4 F e4 e5 e6;refine wk F ?_;refine cq F (fun c1=>?_) (fun c1=>?_)<;>(try exact c1.elim)
 ·obtain⟨y,hy,hym⟩:=ac c1;have hyl:(l.map runA)[k]? =some (.int .i32 y):=by rw[N8,hy];rfl
  rw[aF hy,clnR]at hv;have F:=F2 F hyl;refine wk F ?_;refine kq F (rj G y _) ?_;have ho:decide ((acc.length:Int)>0)=decide (0<acc.length):=by
   rw[O9];simp only[M7];omega
  refine cq F (fun c2=>?_) (fun c2=>?_)<;>(try exact c2.elim)<;>(refine wk F ?_)
  ·rw[M1 c2]at hv;have F:=F2 F ho;(try refine sq F ?_);refine hK2 _ _ _ (M0 ⟨k+1,v,acc,decide (0<acc.length),rfl,aw,?_,?_,?_,by omega,hv,by omega⟩) (by omega);all_goals try exact zZz F
  ·rw[L5 (by simp[c2])]at hv;have yes:(y<32∨(127≤y∧y≤159))→ctlR y=true:=fun h=>O4 h
   have no:¬(y<32∨(127≤y∧y≤159))→ctlR y=false:=fun h=>O0 h
   (first|refine gq F (fun g1=>?_) (fun g1=>?_)|refine pq F (fun g1=>?_) (fun g1=>?_))<;>(try exact g1.elim)<;>(try refine sq F ?_)<;>(refine wk F ?_)
   ·rw[M1 (yes (by omega))]at hv;refine hK2 _ _ _ (M0 ⟨k+1,v,acc,w,rfl,aw,?_,?_,?_,by omega,hv,by omega⟩) (by omega);all_goals try exact zZz F
   ·(first|refine gq F (fun g2=>?_) (fun g2=>?_)|refine pq F (fun g2=>?_) (fun g2=>?_))<;>(try exact g2.elim)<;>(try refine sq F ?_)<;>(refine wk F ?_)
    ·refine cq F (fun g3=>?_) (fun g3=>?_)<;>(try exact g3.elim)<;>(refine wk F ?_)
     ·rw[M1 (yes (by omega))]at hv;refine hK2 _ _ _ (M0 ⟨k+1,v,acc,w,rfl,aw,?_,?_,?_,by omega,hv,by omega⟩) (by omega);all_goals try exact zZz F
     ·rw[L5 (by rw[no (by omega)];simp)]at hv;refine cq F (fun c3=>?_) (fun c3=>?_)<;>(try exact c3.elim)<;>(refine wk F ?_)
      ·rw[M1 c3]at hv;refine aq F ?_;(try refine sq F ?_);refine wk F ?_;refine aq F ?_;(try refine sq F ?_);refine wk F ?_;refine hK2 _ _ _ (M0 ⟨k+1,v+1+1,acc++[32,y],false,rfl,by simp[runA],?_,?_,?_,by omega,hv,by simp;omega⟩) (by omega);all_goals try exact zZz F
      ·rw[L5 (by simp[c3])]at hv;refine aq F ?_;(try refine sq F ?_);refine wk F ?_;refine hK2 _ _ _ (M0 ⟨k+1,v+1,acc++[y],w,rfl,by simp[runA],?_,?_,?_,by omega,by rw[c3];exact hv,by simp;omega⟩) (by omega);all_goals try exact zZz F
    ·rw[L5 (by rw[no (by omega)];simp)]at hv;refine cq F (fun c3=>?_) (fun c3=>?_)<;>(try exact c3.elim)<;>(refine wk F ?_)
     ·rw[M1 c3]at hv;refine aq F ?_;(try refine sq F ?_);refine wk F ?_;refine aq F ?_;(try refine sq F ?_);refine wk F ?_;refine hK2 _ _ _ (M0 ⟨k+1,v+1+1,acc++[32,y],false,rfl,by simp[runA],?_,?_,?_,by omega,hv,by simp;omega⟩) (by omega);all_goals try exact zZz F
     ·rw[L5 (by simp[c3])]at hv;refine aq F ?_;(try refine sq F ?_);refine wk F ?_;refine hK2 _ _ _ (M0 ⟨k+1,v+1,acc++[y],w,rfl,by simp[runA],?_,?_,?_,by omega,by rw[c3];exact hv,by simp;omega⟩) (by omega);all_goals try exact zZz F
 ·rw[aG c1,clnR]at hv;(repeat (first|refine w1 (fun K hK=>?_)|refine w2 ?_|refine w3 ?_| ((first|refine w4 ?_|refine wD ?_|refine w5 ?_|refine w6 ?_|refine w7 ?_);try refine sq F ?_)| (refine w8 ?_;refine sq F ?_;refine w9 ?_)| (refine rq F ?_;try refine sq F ?_)| (refine vq F ?_;try refine sq F ?_)))
  have hg:getRow (h++[.row 21 1 v (acc.map runA)]) h.length v=some (21,1,acc.map runA):=by simp[getRow]
  have ht:∀(ms:List Nat) (t:Env),4∈ms→t 4=.hs h.length v 0 acc.length true→∀i,upd t 4 (.sl 1 (acc.map runA)) i=t i∨(i∈ms∧Fz (h++[.row 21 1 v (acc.map runA)]) h.length v (t i) (upd t 4 (.sl 1 (acc.map runA)) i)):=fun ms t hm ht i=>by
   by_cases hi:i=4
   ·subst hi;right;refine⟨hm,?_⟩;rw[ht];simp only[upd, ↓reduceIte];exact Fz.all _ _ _ hg rfl (by simp)
   ·left;simp only[upd];rw[L5 hi]
  refine Di (Weak.fz h.length v hg (ht _ _ (by decide+kernel) (by exact zq F))) ?_;have hset:(h++[Blk.row 21 1 v (acc.map runA)]).set h.length Blk.dead=h++[Blk.dead]:=by simp
  rw[hset];refine wk F ?_;refine kq F (xV G acc (fun r hr=>hcl r (by rw[hdef, ← hv];exact hr)) (by omega) _) ?_;refine ee hQ F ?_;refine fR (.str _) ?_;rw[hv];exact P9 AVal.str hcf
end Go.Av
