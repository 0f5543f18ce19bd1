/- The document's answer: where the thing of an ID stands. Written by gen/pos21.py. -/
import Derived.Test.YtmfhelaoeaifeaaGreatDoorMlEx2b
import Derived.Lib.TrimUEq
set_option linter.unusedSimpArgs false
set_option linter.unusedVariables false
set_option linter.unusedSectionVars false
set_option linter.unnecessarySimpa false
set_option maxRecDepth 100000
set_option maxHeartbeats 16000000
namespace Go.Av
open Go Go.Proofs Go.RowKit Go.Shelf Go.Lib
def letF(r:Nat):Bool:=
 if r<192 then(decide (97≤r)&&decide (r≤122))||(decide (48≤r)&&decide (r≤57))
 else !(decide (r=215)||decide (r=247)||decide (r=65533))&& !((decide (8192≤r)&&decide (r≤8303))||(decide (12288≤r)&&decide (r≤12351)))
set_option maxHeartbeats 4000000 in
theorem lK(W:World)(r:Nat):Calls Tryz.prog 215 #[encR r] W fun e w'=>e=.returned (.bool (letF r))∧∃q,w'=W.drewN q:=by
 by_cases h0:r<192
 ·by_cases h1:97≤r<;>by_cases h2:r≤122<;>by_cases h3:48≤r<;>by_cases h4:r≤57
  all_goals first| (exfalso;omega)|skip
  all_goals
   have z0:(r:Int)<192↔r<192:=by omega
   have z1:(97:Int)≤(r:Int)↔97≤r:=by omega
   have z2:(r:Int)≤122↔r≤122:=by omega
   have z3:(48:Int)≤(r:Int)↔48≤r:=by omega
   have z4:(r:Int)≤57↔r≤57:=by omega
   go_enter Tryz.func215,Tryz.ntmps215
   go_wp2
   all_goals first| (exfalso;omega)| (go_ret;exact⟨by simp[letF,h0,h1,h2,h3,h4],0,rfl⟩)
 ·by_cases h1:r=215
  ·subst h1
   go_enter Tryz.func215,Tryz.ntmps215
   go_wp2
   all_goals first| (exfalso;omega)| (go_ret;exact⟨by simp[letF],0,rfl⟩)
  by_cases h2:r=247
  ·subst h2
   go_enter Tryz.func215,Tryz.ntmps215
   go_wp2
   all_goals first| (exfalso;omega)| (go_ret;exact⟨by simp[letF],0,rfl⟩)
  by_cases h3:r=65533
  ·subst h3
   go_enter Tryz.func215,Tryz.ntmps215
   go_wp2
   all_goals first| (exfalso;omega)| (go_ret;exact⟨by simp[letF],0,rfl⟩)
  by_cases h4:8192≤r<;>by_cases h5:r≤8303<;>by_cases h6:12288≤r<;>by_cases h7:r≤12351
  all_goals first| (exfalso;omega)|skip
  all_goals
   have z0:(r:Int)<192↔r<192:=by omega
   have z1:(r:Int)=215↔r=215:=by omega
   have z2:(r:Int)=247↔r=247:=by omega
   have z3:(r:Int)=65533↔r=65533:=by omega
   have z4:(8192:Int)≤(r:Int)↔8192≤r:=by omega
   have z5:(r:Int)≤8303↔r≤8303:=by omega
   have z6:(12288:Int)≤(r:Int)↔12288≤r:=by omega
   have z7:(r:Int)≤12351↔r≤12351:=by omega
   go_enter Tryz.func215,Tryz.ntmps215
   go_wp2
   all_goals first| (exfalso;omega)| (exfalso;simp only[beq_iff_eq]at *;omega)| (go_ret;exact⟨by simp[letF,h0,h1,h2,h3,h4,h5,h6,h7],0,rfl⟩)
set_option maxHeartbeats 4000000 in
theorem qW(w:World):PredAt Tryz.prog 214 #[] encR (fun r=> !letF r) w:=fun W r _=>by
 unfold FnGives
 have hL:=lK
 go_enter Tryz.func214,Tryz.ntmps214
 go_wp2_with (go_at_call 215;refine(hL _ _).mono ?_;rintro e w' ⟨rfl,q,rfl⟩)
 go_ret
 exact⟨rfl,_,rfl⟩
end Go.Av
namespace Go.Av
open Go Go.Proofs Go.RowKit
attribute [local irreducible] WP WPl WPix Sat
variable (G:Nat→Option (List AVal))
def bytA(b:UInt8):AVal:=.int .u8 b.toNat
def bldR(a:AVal)(q v:Nat)(s:Bs):Blk:=.row 249 2 0 [.agg [a,.hs q v 0 s.length true]]
def bufR(v:Nat)(s:Bs):Blk:=.row 5 1 v (s.map bytA)
def bldA(a:AVal)(p:Nat):Prop:=a=.nil (.pointer none)∨a=.hp p 0 0 0
theorem ft(s:Bs):bytesA (s.map bytA)=some s:=by
 induction s with
 |nil=>rfl
 |cons b s ih=>
  have hb:(UInt8.ofNat (b.toNat:Int).toNat)=b:=by simp
  simp only[List.map_cons,bytA,bytesA,hb,if_true]
  show(bytesA (s.map bytA)).map _=_
  rw[ih];rfl
@[go_sem] theorem zQ(a:AVal)(q v:Nat)(s:Bs)(l:Heap):getRow (bldR a q v s::l) 0 0=some (249,2,[.agg [a,.hs q v 0 s.length true]]):=rfl
theorem bp(v:Nat)(s:Bs)(l:Heap):getRow (bufR v s::l) 0 v=some (5,1,s.map bytA):=by simp[getRow,bufR]
theorem pd:ptrConv Tryz.prog 247 267 249 2=true:=by kernel_rfl
theorem lL:ptrConv Tryz.prog 267 247 249 2=true:=by kernel_rfl
theorem xf:ptrT Tryz.prog 247=true:=by kernel_rfl
attribute [go_sem] pd lL
theorem vx(n p q v:Nat)(s:Bs)(hp:p<n)(hq:q<n):CloB n (bldR (.hp p 0 0 0) q v s):=by
 intro r hr
 simp only[List.mem_singleton]at hr
 subst hr
 refine .agg _ fun c hc=>?_
 simp only[List.mem_cons,List.mem_nil_iff,or_false]at hc
 rcases hc with rfl|rfl
 ·exact .hp _ _ _ _ hp
 ·exact .hs _ _ _ _ _ hq
theorem jG(n v:Nat)(s:Bs):CloB n (bufR v s):=by
 intro r hr
 obtain⟨b,_,rfl⟩:=List.mem_map.1 hr
 exact .int _ _
theorem tE(h:Heap)(p:Nat)(hr:(getRow h p 0).isSome=true):abin Tryz.prog h .neq 247 (.hp p 0 0 0) (.hp p 0 0 0)=some (.bool false):=by
 simp[abin,hr,xf]
theorem qX(h:Heap)(p:Nat)(x:TypeId×Nat×List AVal)(hr:getRow h p 0=some x):abin Tryz.prog h .eql 247 (.hp p 0 0 0) (.nil (.pointer none))=some (.bool false):=by
 have hk:nilKind Tryz.prog 247 (.pointer none)=true:=by kernel_rfl
 simp[abin,hk,aeqNil,hr]
theorem vy(h:Heap):abin Tryz.prog h .eql 247 (.nil (.pointer none)) (.nil (.pointer none))=some (.bool true):=by
 have hk:nilKind Tryz.prog 247 (.pointer none)=true:=by kernel_rfl
 simp[abin,hk,aeqNil]
theorem zR{h j:Heap}{x y x' y':Blk}{n:Nat}(hx:CloB n x')(hy:CloB n y'):∀(p:Nat) (k:Blk),(h++x'::y'::j)[p]? =some k→(h++x::y::j)[p]? =some k∨CloB n k:=by
 intro p k hk
 rcases Nat.lt_or_ge p h.length with h1|h1
 ·rw[List.getElem?_append_left h1]at hk ⊢;exact .inl hk
 ·rw[List.getElem?_append_right h1]at hk ⊢
  match p-h.length,hk with
  |0,hk=>simp at hk;subst hk;exact .inr hx
  |1,hk=>simp at hk;subst hk;exact .inr hy
  |i+2,hk=>exact .inl (by simpa using hk)
def bldH(h j:Heap)(a:AVal)(v:Nat)(s:Bs):Heap:=h++bldR a (h.length+1) v s::bufR v s::j
theorem ce(h j:Heap)(a:AVal)(v:Nat)(s:Bs):(bldH h j a v s).length=h.length+(2+j.length):=by simp[bldH];omega
theorem gb(h j:Heap)(a:AVal)(v v':Nat)(s s':Bs):∀(p:Nat) (k:Blk),(bldH h j (.hp h.length 0 0 0) v' s')[p]? =some k→(bldH h j a v s)[p]? =some k∨CloB (bldH h j a v s).length k:=by
 rw[ce]
 exact zR (vx _ _ _ _ _ (by omega) (by omega)) (jG _ _ _)
theorem fG(a:AVal)(h j:Heap)(v:Nat)(s:Bs)(ha:bldA a h.length):
  Sat (CT G) 254 [.hp h.length 0 0 0] (bldH h j a v s) (fun r h'=>r=.tup []∧h'=bldH h j (.hp h.length 0 0 0) v s):=by
 have hK:=gb h j a v v s s
 have hl:=(ce h j (.hp h.length 0 0 0) v s).trans (ce h j a v s).symm
 have hfin:∀t',Fin (bldH h j a v s) (bldH h j (.hp h.length 0 0 0) v s) (fun r h'=>r=.tup []∧h'=bldH h j (.hp h.length 0 0 0) v s) t'∨True:=fun _=>.inr trivial
 have end_:Fin (bldH h j a v s) (bldH h j (.hp h.length 0 0 0) v s) (fun r h'=>r=.tup []∧h'=bldH h j (.hp h.length 0 0 0) v s) (.tup []):=Fin.keep0 hl hK (.tup _ (by simp)) ⟨rfl,rfl⟩
 clear hfin hK hl
 unfold bldH at*
 refine sb [] (fn:=Tryz.f254) Tryz.func254 ?_
 intro Q hQ
 (repeat (first|refine w1 (fun K hK=>?_)|refine w2 ?_|refine w3 ?_| ((first|refine w4 ?_|refine wD ?_|refine w5 ?_|refine w6 ?_|refine w7 ?_);try refine eI trivial ?_)| (refine w8 ?_;refine eI trivial ?_;refine w9 ?_)| ((first|refine hK _ _ (w0 ?_)| (clear hK K;refine hK _ _ (w0 ?_))| (clear hK K;clear hK K;refine hK _ _ (w0 ?_)));clear hK K)))
 rcases ha with rfl|rfl
 ·rw[qp,vy]
  simp(disch:=first|omega| (simp only[go_sem, ↓reduceIte,Nat.reduceEqDiff];done)|fail) only[go_sem, ↓reduceIte,Int.reduceToNat,Int.reduceLE,Int.reduceLT,Int.reduceSub,Int.reduceAdd,Nat.reduceEqDiff,Nat.reduceAdd,Nat.reduceLeDiff,Nat.reduceLT,Nat.reduceMul,Nat.reduceSub]
  (repeat (first|refine w1 (fun K hK=>?_)|refine w2 ?_|refine w3 ?_| ((first|refine w4 ?_|refine wD ?_|refine w5 ?_|refine w6 ?_|refine w7 ?_);try refine eI trivial ?_)| (refine w8 ?_;refine eI trivial ?_;refine w9 ?_)| ((first|refine hK _ _ (w0 ?_)| (clear hK K;refine hK _ _ (w0 ?_))| (clear hK K;clear hK K;refine hK _ _ (w0 ?_)));clear hK K)))
  refine⟨by simp,?_⟩
  refine(lw G _ _).mono ?_
  rintro r h' ⟨rfl,rfl⟩
  simp(disch:=first|omega| (simp only[go_sem, ↓reduceIte,Nat.reduceEqDiff];done)|fail) only[go_sem, ↓reduceIte,Int.reduceToNat,Int.reduceLE,Int.reduceLT,Int.reduceSub,Int.reduceAdd,Nat.reduceEqDiff,Nat.reduceAdd,Nat.reduceLeDiff,Nat.reduceLT,Nat.reduceMul,Nat.reduceSub,List.cons_ne_nil]
  refine(hQ _ _ ?_).2
  simp(disch:=first|omega| (simp only[go_sem, ↓reduceIte,Nat.reduceEqDiff];done)|fail) only[go_sem, ↓reduceIte,Int.reduceToNat,Int.reduceLE,Int.reduceLT,Int.reduceSub,Int.reduceAdd,Nat.reduceEqDiff,Nat.reduceAdd,Nat.reduceLeDiff,Nat.reduceLT,Nat.reduceMul,Nat.reduceSub]
  exact end_
 ·rw[sy,qX _ _ _ (by simp(disch:=first|omega| (simp only[go_sem, ↓reduceIte,Nat.reduceEqDiff];done)|fail) only[go_sem, ↓reduceIte,Int.reduceToNat,Int.reduceLE,Int.reduceLT,Int.reduceSub,Int.reduceAdd,Nat.reduceEqDiff,Nat.reduceAdd,Nat.reduceLeDiff,Nat.reduceLT,Nat.reduceMul,Nat.reduceSub];rfl)]
  simp(disch:=first|omega| (simp only[go_sem, ↓reduceIte,Nat.reduceEqDiff];done)|fail) only[go_sem, ↓reduceIte,Int.reduceToNat,Int.reduceLE,Int.reduceLT,Int.reduceSub,Int.reduceAdd,Nat.reduceEqDiff,Nat.reduceAdd,Nat.reduceLeDiff,Nat.reduceLT,Nat.reduceMul,Nat.reduceSub]
  (repeat (first|refine w1 (fun K hK=>?_)|refine w2 ?_|refine w3 ?_| ((first|refine w4 ?_|refine wD ?_|refine w5 ?_|refine w6 ?_|refine w7 ?_);try refine eI trivial ?_)| (refine w8 ?_;refine eI trivial ?_;refine w9 ?_)| ((first|refine hK _ _ (w0 ?_)| (clear hK K;refine hK _ _ (w0 ?_))| (clear hK K;clear hK K;refine hK _ _ (w0 ?_)));clear hK K)))
  rw[tE _ _ (by exact eJ trivial)]
  simp(disch:=first|omega| (simp only[go_sem, ↓reduceIte,Nat.reduceEqDiff];done)|fail) only[go_sem, ↓reduceIte,Int.reduceToNat,Int.reduceLE,Int.reduceLT,Int.reduceSub,Int.reduceAdd,Nat.reduceEqDiff,Nat.reduceAdd,Nat.reduceLeDiff,Nat.reduceLT,Nat.reduceMul,Nat.reduceSub]
  (repeat (first|refine w1 (fun K hK=>?_)|refine w2 ?_|refine w3 ?_| ((first|refine w4 ?_|refine wD ?_|refine w5 ?_|refine w6 ?_|refine w7 ?_);try refine eI trivial ?_)| (refine w8 ?_;refine eI trivial ?_;refine w9 ?_)| ((first|refine hK _ _ (w0 ?_)| (clear hK K;refine hK _ _ (w0 ?_))| (clear hK K;clear hK K;refine hK _ _ (w0 ?_)));clear hK K)))
  refine(hQ _ _ ?_).2
  simp(disch:=first|omega| (simp only[go_sem, ↓reduceIte,Nat.reduceEqDiff];done)|fail) only[go_sem, ↓reduceIte,Int.reduceToNat,Int.reduceLE,Int.reduceLT,Int.reduceSub,Int.reduceAdd,Nat.reduceEqDiff,Nat.reduceAdd,Nat.reduceLeDiff,Nat.reduceLT,Nat.reduceMul,Nat.reduceSub]
  exact end_
theorem cS:byT Tryz.prog 5=some 1:=by kernel_rfl
theorem cA(h:Heap)(es:List AVal):elemsOf h 1 (.sl 1 es)=some es:=by simp[elemsOf]
theorem eW:(zroT Tryz.prog 5).map (fun z=>z.cells.length)=some 1:=by simp only[go_sem]
theorem kP(a:AVal)(h j:Heap)(v:Nat)(s:Bs)(b:UInt8)(ha:bldA a h.length)(hs:s.length+1≤1073741824):
  Sat (CT G) 265 [.hp h.length 0 0 0,.int .u8 b.toNat] (bldH h j a v s) (fun r h'=>r=.nil .nilIface∧h'=bldH h j (.hp h.length 0 0 0) (v+1) (s++[b])):=by
 have end_:Fin (bldH h j a v s) (bldH h j (.hp h.length 0 0 0) (v+1) (s++[b])) (fun r h'=>r=.nil .nilIface∧h'=bldH h j (.hp h.length 0 0 0) (v+1) (s++[b])) (.nil .nilIface):=
  Fin.keep0 ((ce ..).trans (ce ..).symm) (gb _ _ _ _ _ _ _) (.nil _) ⟨rfl,rfl⟩
 refine sb [.tmp 4] (fn:=Tryz.f265) Tryz.func265 ?_
 intro Q hQ
 refine bI trivial ?_
 refine(fG G a h j v s ha).mono ?_
 rintro r h' ⟨rfl,rfl⟩
 unfold bldH at*
 try refine eI trivial ?_
 refine bI trivial ?_
 refine cc (.inl rfl) (by exact eJ trivial) (by exact eJ trivial) cS eW (by omega) (cA _ _) (by simp(disch:=first|omega| (simp only[go_sem, ↓reduceIte,Nat.reduceEqDiff];done)|fail) only[go_sem, ↓reduceIte,Int.reduceToNat,Int.reduceLE,Int.reduceLT,Int.reduceSub,Int.reduceAdd,Nat.reduceEqDiff,Nat.reduceAdd,Nat.reduceLeDiff,Nat.reduceLT,Nat.reduceMul,Nat.reduceSub,bp];rfl) (by simp) ?_ ?_
 ·simp[maxLen];omega
 simp(disch:=first|omega| (simp only[go_sem, ↓reduceIte,Nat.reduceEqDiff];done)|fail) only[go_sem, ↓reduceIte,Int.reduceToNat,Int.reduceLE,Int.reduceLT,Int.reduceSub,Int.reduceAdd,Nat.reduceEqDiff,Nat.reduceAdd,Nat.reduceLeDiff,Nat.reduceLT,Nat.reduceMul,Nat.reduceSub]
 refine bI trivial ?_
 refine gZ hQ trivial ?_
 simp only[bldR,bufR,List.length_append,List.map_append,List.length_cons,List.length_nil,List.map_cons,List.map_nil,bytA,Nat.zero_add]at end_ ⊢
 exact end_
theorem vz(a:AVal)(h j:Heap)(v:Nat)(s:Bs):Sat (CT G) 263 [.hp h.length 0 0 0] (bldH h j a v s) (fun r h'=>r=.int .i64 s.length∧h'=bldH h j a v s):=by
 have end_:Fin (bldH h j a v s) (bldH h j a v s) (fun r h'=>r=.int .i64 s.length∧h'=bldH h j a v s) (.int .i64 s.length):=Fin.same (.int _ _) ⟨rfl,rfl⟩
 unfold bldH at*
 have F:= @bp
 refine sb [.tmp 2] (fn:=Tryz.f263) Tryz.func263 ?_
 intro Q hQ
 refine bI F ?_
 refine bI F ?_
 refine gZ hQ F ?_
 exact end_
theorem xg:bptr Tryz.prog 261 5=true:=by kernel_rfl
theorem jb(a:AVal)(h j:Heap)(v:Nat)(s:Bs):Sat (CT G) 244 [.hp h.length 0 0 0] (bldH h j a v s) (fun r h'=>r=.str s∧∃b,h'=h++bldR a (h.length+1) v s::b::j):=by
 unfold bldH
 have F:= @bp
 refine sb [.tmp 2] (fn:=Tryz.f244) Tryz.func244 ?_
 intro Q hQ
 refine bI F ?_
 have fin:∀b,Fin (h++bldR a (h.length+1) v s::bufR v s::j) (h++bldR a (h.length+1) v s::b::j) (fun r h'=>r=.str s∧∃b,h'=h++bldR a (h.length+1) v s::b::j) (.str s)∨¬(b=bufR v s∨b=.dead):=fun b=>by
  by_cases hb:b=bufR v s∨b=.dead
  ·refine .inl (Fin.keep0 (by simp) (fun p k hk=>?_) (.str _) ⟨rfl,b,rfl⟩)
   rcases Nat.lt_or_ge p h.length with h1|h1
   ·rw[List.getElem?_append_left h1]at hk ⊢;exact .inl hk
   ·rw[List.getElem?_append_right h1]at hk ⊢
    match p-h.length,hk with
    |0,hk=>exact .inl (by simpa using hk)
    |1,hk=>
     simp at hk;subst hk
     rcases hb with rfl|rfl
     ·exact .inl (by simp)
     ·exact .inr trivial
    |i+2,hk=>exact .inl (by simpa using hk)
  ·exact .inr hb
 rcases Nat.eq_zero_or_pos s.length with h0|h0
 ·have hs:s=[]:=List.length_eq_zero_iff.1 h0
  subst hs
  simp(disch:=first|omega| (simp only[go_sem, ↓reduceIte,Nat.reduceEqDiff];done)|fail) only[go_sem, ↓reduceIte,Int.reduceToNat,Int.reduceLE,Int.reduceLT,Int.reduceSub,Int.reduceAdd,Nat.reduceEqDiff,Nat.reduceAdd,Nat.reduceLeDiff,Nat.reduceLT,Nat.reduceMul,Nat.reduceSub,F,List.length_nil,Nat.lt_irrefl,Int.natCast_zero]
  refine bI F ?_
  refine gZ hQ F ?_
  rcases fin (bufR v [])with f|f
  ·exact f
  ·exact absurd (.inl rfl) f
 ·simp(disch:=first|omega| (simp only[go_sem, ↓reduceIte,Nat.reduceEqDiff];done)|fail) only[go_sem, ↓reduceIte,Int.reduceToNat,Int.reduceLE,Int.reduceLT,Int.reduceSub,Int.reduceAdd,Nat.reduceEqDiff,Nat.reduceAdd,Nat.reduceLeDiff,Nat.reduceLT,Nat.reduceMul,Nat.reduceSub,F,h0]
  refine sA h0 (by simp(disch:=first|omega| (simp only[go_sem, ↓reduceIte,Nat.reduceEqDiff];done)|fail) only[go_sem, ↓reduceIte,Int.reduceToNat,Int.reduceLE,Int.reduceLT,Int.reduceSub,Int.reduceAdd,Nat.reduceEqDiff,Nat.reduceAdd,Nat.reduceLeDiff,Nat.reduceLT,Nat.reduceMul,Nat.reduceSub,F];rfl) xg (by simp) (by rw[List.take_of_length_le (by simp)];exact ft s) ?_
  try refine eI F ?_
  refine bI F ?_
  refine gZ hQ F ?_
  rcases fin .dead with f|f
  ·exact f
  ·exact absurd (.inr rfl) f
end Go.Av
namespace Go.Av
open Go Go.Proofs Go.RowKit
attribute [local irreducible] WP WPl WPix Sat
variable (G:Nat→Option (List AVal))
def enc(r:Int):Bs:=(Utf8.encode r).data.toList
def Rune(r:Int):Prop:=0≤r∧(r<55296∨57343<r∧r≤1114111)
theorem Rune.valid{r:Int}(h:Rune r):Utf8.valid r=true:=by
 unfold Utf8.valid;obtain⟨h0,h1⟩:=h;simp;omega
theorem bj(n:Nat)(h:n<256):bytA (UInt8.ofNat n)=.int .u8 n:=by
 simp[bytA];omega
theorem xh{r:Int}(h0:0≤r)(h1:r<128):(enc r).map bytA=[.int .u8 r]:=by
 have hv:=Rune.valid (r:=r) ⟨h0,by omega⟩
 unfold enc Utf8.encode
 simp only[hv,if_true]
 rw[if_pos (by omega)]
 simp only[List.map_cons,List.map_nil]
 rw[bj _ (by omega)]
 simp only[List.cons.injEq,AVal.int.injEq,and_true,true_and]
 omega
theorem xi{r:Int}(h0:128≤r)(h1:r<2048):(enc r).map bytA=[.int .u8 (192+r/64),.int .u8 (128+r%64)]:=by
 have hv:=Rune.valid (r:=r) ⟨by omega,by omega⟩
 unfold enc Utf8.encode
 simp only[hv,if_true]
 rw[if_neg (by omega),if_pos (by omega)]
 simp only[List.map_cons,List.map_nil]
 rw[bj _ (by omega),bj _ (by omega)]
 simp only[List.cons.injEq,AVal.int.injEq,and_true,true_and]
 omega
theorem tF{r:Int}(h:Rune r)(h0:2048≤r)(h1:r<65536):(enc r).map bytA=[.int .u8 (224+r/4096),.int .u8 (128+r/64%64),.int .u8 (128+r%64)]:=by
 have hv:=h.valid
 unfold enc Utf8.encode
 simp only[hv,if_true]
 rw[if_neg (by omega),if_neg (by omega),if_pos (by omega)]
 simp only[List.map_cons,List.map_nil]
 rw[bj _ (by omega),bj _ (by omega),bj _ (by omega)]
 simp only[List.cons.injEq,AVal.int.injEq,and_true,true_and]
 omega
theorem xj{r:Int}(h0:65536≤r)(h1:r≤1114111):(enc r).map bytA=[.int .u8 (240+r/262144),.int .u8 (128+r/4096%64),.int .u8 (128+r/64%64),.int .u8 (128+r%64)]:=by
 have hv:=Rune.valid (r:=r) ⟨by omega,by omega⟩
 unfold enc Utf8.encode
 simp only[hv,if_true]
 rw[if_neg (by omega),if_neg (by omega),if_neg (by omega)]
 simp only[List.map_cons,List.map_nil]
 rw[bj _ (by omega),bj _ (by omega),bj _ (by omega),bj _ (by omega)]
 simp only[List.cons.injEq,AVal.int.injEq,and_true,true_and]
 omega
theorem dL(r:Int):1≤(enc r).length∧(enc r).length≤4:=by
 unfold enc Utf8.encode
 simp only[]
 generalize (if Utf8.valid r=true then r.toNat else Utf8.runeError)=c
 by_cases h1:c<128
 ·rw[if_pos h1];exact⟨by simp,by simp⟩
 ·rw[if_neg h1]
  by_cases h2:c<2048
  ·rw[if_pos h2];exact⟨by simp,by simp⟩
  ·rw[if_neg h2]
   by_cases h3:c<65536
   ·rw[if_pos h3];exact⟨by simp,by simp⟩
   ·rw[if_neg h3];exact⟨by simp,by simp⟩
theorem jH(P:Program)(h:Heap)(T:TypeId)(a b:Int)(k:IntKind)(hb:0≤b)(hb2:b<32):abin P h .shr T (.int .i32 a) (.int k b)=some (.int .i32 (a/2^b.toNat)):=by
 simp only[abin]
 rw[if_neg (by omega)]
 have:min b.toNat (IntKind.bits .i32)=b.toNat:=by simp[IntKind.bits];omega
 rw[this,Int.fdiv_eq_ediv_of_nonneg _ (by exact Int.le_of_lt (Int.pow_pos (by omega)))]
theorem wrap_u8(x:Int):IntKind.wrap .u8 x=x%256:=IntKind.wrap_u8 x
theorem wrap_u32(x:Int)(h0:0≤x)(h1:x<4294967296):IntKind.wrap .u32 x=x:=by rw[IntKind.wrap_u32];omega
theorem gI(n m:Nat)(h:n+m<256)(hh:∀x:_root_.Fin 256,x.val≤m→(BitVec.ofInt 8 n|||BitVec.ofInt 8 (x.val:Int)).toNat=n+x.val)(x:Int)(h0:0≤x)(h1:x≤m):aint .or .u8 n x=some (.int .u8 (n+x)):=by
 have e:(BitVec.ofInt 8 n|||BitVec.ofInt 8 ((x.toNat:Nat):Int)).toNat=n+x.toNat:=hh ⟨x.toNat,by omega⟩ (by simp;omega)
 rw[show x=((x.toNat:Nat):Int)from by omega]
 show some (AVal.int .u8 (IntKind.wrap .u8 (BitVec.ofInt 8 n|||BitVec.ofInt 8 ((x.toNat:Nat):Int)).toNat))=_
 rw[e,wrap_u8]
 congr 2;omega
theorem zS(x:Int)(h0:0≤x)(h1:x≤31):aint .or .u8 192 x=some (.int .u8 (192+x)):=gI 192 31 (by omega) (by decide+kernel) x h0 h1
theorem zT(x:Int)(h0:0≤x)(h1:x≤15):aint .or .u8 224 x=some (.int .u8 (224+x)):=gI 224 15 (by omega) (by decide+kernel) x h0 h1
theorem zU(x:Int)(h0:0≤x)(h1:x≤7):aint .or .u8 240 x=some (.int .u8 (240+x)):=gI 240 7 (by omega) (by decide+kernel) x h0 h1
theorem zV(x:Int)(h0:0≤x)(h1:x≤63):aint .or .u8 128 x=some (.int .u8 (128+x)):=gI 128 63 (by omega) (by decide+kernel) x h0 h1
theorem zW(x:Int)(h0:0≤x)(h1:x<256):aint .and .u8 x 63=some (.int .u8 (x%64)):=by
 have hh:∀x:_root_.Fin 256,(BitVec.ofInt 8 (x.val:Int)&&&BitVec.ofInt 8 63).toNat=x.val%64:=by decide+kernel
 have e:(BitVec.ofInt 8 ((x.toNat:Nat):Int)&&&BitVec.ofInt 8 63).toNat=x.toNat%64:=hh ⟨x.toNat,by omega⟩
 rw[show x=((x.toNat:Nat):Int)from by omega]
 show some (AVal.int .u8 (IntKind.wrap .u8 (BitVec.ofInt 8 ((x.toNat:Nat):Int)&&&BitVec.ofInt 8 63).toNat))=_
 rw[e,wrap_u8]
 congr 2;omega
theorem pg(P:Program)(h:Heap)(T:TypeId)(x:Int)(h0:0≤x)(h1:x≤31):abin P h .or T (.int .u8 192) (.int .u8 x)=some (.int .u8 (192+x)):=by simpa only[abin,if_true]using zS x h0 h1
theorem ph(P:Program)(h:Heap)(T:TypeId)(x:Int)(h0:0≤x)(h1:x≤15):abin P h .or T (.int .u8 224) (.int .u8 x)=some (.int .u8 (224+x)):=by simpa only[abin,if_true]using zT x h0 h1
theorem pi(P:Program)(h:Heap)(T:TypeId)(x:Int)(h0:0≤x)(h1:x≤7):abin P h .or T (.int .u8 240) (.int .u8 x)=some (.int .u8 (240+x)):=by simpa only[abin,if_true]using zU x h0 h1
theorem pj(P:Program)(h:Heap)(T:TypeId)(x:Int)(h0:0≤x)(h1:x≤63):abin P h .or T (.int .u8 128) (.int .u8 x)=some (.int .u8 (128+x)):=by simpa only[abin,if_true]using zV x h0 h1
theorem pk(P:Program)(h:Heap)(T:TypeId)(x:Int)(h0:0≤x)(h1:x<256):abin P h .and T (.int .u8 x) (.int .u8 63)=some (.int .u8 (x%64)):=by simpa only[abin,if_true]using zW x h0 h1
theorem DB(P:Program)(h:Heap)(T:TypeId)(a:Int):abin P h .shr T (.int .i32 a) (.int .u64 6)=some (.int .i32 (a/64)):=by rw[jH _ _ _ _ _ _ (by omega) (by omega)];rfl
theorem zX(P:Program)(h:Heap)(T:TypeId)(a:Int):abin P h .shr T (.int .i32 a) (.int .u64 12)=some (.int .i32 (a/4096)):=by rw[jH _ _ _ _ _ _ (by omega) (by omega)];rfl
theorem zY(P:Program)(h:Heap)(T:TypeId)(a:Int):abin P h .shr T (.int .i32 a) (.int .u64 18)=some (.int .i32 (a/262144)):=by rw[jH _ _ _ _ _ _ (by omega) (by omega)];rfl
theorem ki(k:IntKind)(n:Int):aconv Tryz.prog 21 5 (.int k n)=some (.int .u8 (n%256)):=by simp only[aconv,go_sem,wrap_u8]
theorem jc(k:IntKind)(n:Int)(h0:0≤n)(h1:n<4294967296):aconv Tryz.prog 21 198 (.int k n)=some (.int .u32 n):=by simp only[aconv,go_sem,wrap_u32 n h0 h1]
theorem eC(r:Int)(hr:Rune r)(h1:128≤r)(h j:Heap)(X:Blk)(v:Nat)(s:Bs)(hs:s.length≤1073741824):
  Sat (CT G) 267 [.hs (h.length+1) v 0 s.length true,.int .i32 r] (h++X::bufR v s::j)
   (fun x h'=>x=.hs (h.length+1) (v+1) 0 (s.length+(enc r).length) true∧h'=h++X::bufR (v+1) (s++enc r)::j):=by
 have end_:∀l,l=enc r→Fin (h++X::bufR v s::j) (h++X::bufR (v+1) (s++l)::j) (fun x h'=>x=.hs (h.length+1) (v+1) 0 (s.length+(enc r).length) true∧h'=h++X::bufR (v+1) (s++enc r)::j) (.hs (h.length+1) (v+1) 0 (s.length+l.length) true):=fun l hl=>by
  subst hl
  refine Fin.keep0 (by simp) (fun p k hk=>?_) (.hs _ _ _ _ _ (by simp)) ⟨rfl,rfl⟩
  rcases Nat.lt_or_ge p h.length with h1|h1
  ·rw[List.getElem?_append_left h1]at hk ⊢;exact .inl hk
  ·rw[List.getElem?_append_right h1]at hk ⊢
   match p-h.length,hk with
   |0,hk=>exact .inl hk
   |1,hk=>simp at hk;subst hk;exact .inr (jG _ _ _)
   |i+2,hk=>exact .inl hk
 have F:=F2 (F9 @ki @jc @DB @zX @zY @pg @ph @pi @pj) (F3 @pk @wrap_u8 @wrap_u32)
 obtain⟨hr0,hr1⟩:=hr
 refine sb [.tmp 4] (fn:=Tryz.f267) Tryz.func267 ?_
 intro Q hQ
 refine bI F ?_
 refine ns F (fun hc=>?_) (fun hc=>?_)<;>(try exact hc.elim)<;>(refine bI F ?_)
 ·refine cc (.inl rfl) (by exact eJ F) (by exact eJ F) cS eW (by omega) (cA _ _) (by simp(disch:=first|omega| (simp only[go_sem, ↓reduceIte,Nat.reduceEqDiff];done)|fail) only[go_sem, ↓reduceIte,Int.reduceToNat,Int.reduceLE,Int.reduceLT,Int.reduceSub,Int.reduceAdd,Nat.reduceEqDiff,Nat.reduceAdd,Nat.reduceLeDiff,Nat.reduceLT,Nat.reduceMul,Nat.reduceSub,F,bp];rfl) (by simp) ?_ ?_
  ·simp[maxLen];omega
  simp(disch:=first|omega| (simp only[go_sem, ↓reduceIte,Nat.reduceEqDiff];done)|fail) only[go_sem, ↓reduceIte,Int.reduceToNat,Int.reduceLE,Int.reduceLT,Int.reduceSub,Int.reduceAdd,Nat.reduceEqDiff,Nat.reduceAdd,Nat.reduceLeDiff,Nat.reduceLT,Nat.reduceMul,Nat.reduceSub,F]
  refine bI F ?_
  refine gZ hQ F ?_
  have e:=xi h1 (by omega)
  have le:(enc r).length=2:=by simpa using congrArg List.length e
  have:=end_ _ rfl
  simp only[bufR,List.map_append,e,le]at this
  have m0:r/64%256=r/64:=by omega
  have m1:r%256%64=r%64:=by omega
  simp only[bufR,List.map_append,e,le,m0,m1,List.length_cons,List.length_nil,Nat.zero_add,Nat.reduceAdd]
  exact this
 ·refine ns F (fun hc=>?_) (fun hc=>?_)<;>(try exact hc.elim)<;>(refine bI F ?_)
  ·refine ns F (fun hc=>?_) (fun hc=>?_)<;>(try exact hc.elim)<;>(refine bI F ?_)
   ·refine cc (.inl rfl) (by exact eJ F) (by exact eJ F) cS eW (by omega) (cA _ _) (by simp(disch:=first|omega| (simp only[go_sem, ↓reduceIte,Nat.reduceEqDiff];done)|fail) only[go_sem, ↓reduceIte,Int.reduceToNat,Int.reduceLE,Int.reduceLT,Int.reduceSub,Int.reduceAdd,Nat.reduceEqDiff,Nat.reduceAdd,Nat.reduceLeDiff,Nat.reduceLT,Nat.reduceMul,Nat.reduceSub,F,bp];rfl) (by simp) ?_ ?_
    ·simp[maxLen];omega
    simp(disch:=first|omega| (simp only[go_sem, ↓reduceIte,Nat.reduceEqDiff];done)|fail) only[go_sem, ↓reduceIte,Int.reduceToNat,Int.reduceLE,Int.reduceLT,Int.reduceSub,Int.reduceAdd,Nat.reduceEqDiff,Nat.reduceAdd,Nat.reduceLeDiff,Nat.reduceLT,Nat.reduceMul,Nat.reduceSub,F]
    refine bI F ?_
    refine gZ hQ F ?_
    have e:=tF ⟨hr0,hr1⟩ (by omega) (by omega)
    have le:(enc r).length=3:=by simpa using congrArg List.length e
    have:=end_ _ rfl
    simp only[bufR,List.map_append,e,le]at this
    have m0:r/4096%256=r/4096:=by omega
    have m1:r/64%256%64=r/64%64:=by omega
    have m2:r%256%64=r%64:=by omega
    simp only[bufR,List.map_append,e,le,m0,m1,m2,List.length_cons,List.length_nil,Nat.zero_add,Nat.reduceAdd]
    exact this
   ·exfalso;omega
  ·(first|refine AY F (fun hg=>?_) (fun hg=>?_)|refine pqo F (fun hg=>?_) (fun hg=>?_))<;>(try exact hg.elim)<;>(try refine eI F ?_)<;>(refine bI F ?_)
   ·refine ns F (fun hc=>?_) (fun hc=>?_)<;>(try exact hc.elim)<;>(refine bI F ?_)
    ·refine cc (.inl rfl) (by exact eJ F) (by exact eJ F) cS eW (by omega) (cA _ _) (by simp(disch:=first|omega| (simp only[go_sem, ↓reduceIte,Nat.reduceEqDiff];done)|fail) only[go_sem, ↓reduceIte,Int.reduceToNat,Int.reduceLE,Int.reduceLT,Int.reduceSub,Int.reduceAdd,Nat.reduceEqDiff,Nat.reduceAdd,Nat.reduceLeDiff,Nat.reduceLT,Nat.reduceMul,Nat.reduceSub,F,bp];rfl) (by simp) ?_ ?_
     ·simp[maxLen];omega
     simp(disch:=first|omega| (simp only[go_sem, ↓reduceIte,Nat.reduceEqDiff];done)|fail) only[go_sem, ↓reduceIte,Int.reduceToNat,Int.reduceLE,Int.reduceLT,Int.reduceSub,Int.reduceAdd,Nat.reduceEqDiff,Nat.reduceAdd,Nat.reduceLeDiff,Nat.reduceLT,Nat.reduceMul,Nat.reduceSub,F]
     refine bI F ?_
     refine gZ hQ F ?_
     have e:=tF ⟨hr0,hr1⟩ (by omega) (by omega)
     have le:(enc r).length=3:=by simpa using congrArg List.length e
     have:=end_ _ rfl
     simp only[bufR,List.map_append,e,le]at this
     have m0:r/4096%256=r/4096:=by omega
     have m1:r/64%256%64=r/64%64:=by omega
     have m2:r%256%64=r%64:=by omega
     simp only[bufR,List.map_append,e,le,m0,m1,m2,List.length_cons,List.length_nil,Nat.zero_add,Nat.reduceAdd]
     exact this
    ·(first|refine AY F (fun hg=>?_) (fun hg=>?_)|refine pqo F (fun hg=>?_) (fun hg=>?_))<;>(try exact hg.elim)<;>(try refine eI F ?_)<;>(refine bI F ?_)
     ·refine ns F (fun hc=>?_) (fun hc=>?_)<;>(try exact hc.elim)<;>(refine bI F ?_)
      ·refine cc (.inl rfl) (by exact eJ F) (by exact eJ F) cS eW (by omega) (cA _ _) (by simp(disch:=first|omega| (simp only[go_sem, ↓reduceIte,Nat.reduceEqDiff];done)|fail) only[go_sem, ↓reduceIte,Int.reduceToNat,Int.reduceLE,Int.reduceLT,Int.reduceSub,Int.reduceAdd,Nat.reduceEqDiff,Nat.reduceAdd,Nat.reduceLeDiff,Nat.reduceLT,Nat.reduceMul,Nat.reduceSub,F,bp];rfl) (by simp) ?_ ?_
       ·simp[maxLen];omega
       simp(disch:=first|omega| (simp only[go_sem, ↓reduceIte,Nat.reduceEqDiff];done)|fail) only[go_sem, ↓reduceIte,Int.reduceToNat,Int.reduceLE,Int.reduceLT,Int.reduceSub,Int.reduceAdd,Nat.reduceEqDiff,Nat.reduceAdd,Nat.reduceLeDiff,Nat.reduceLT,Nat.reduceMul,Nat.reduceSub,F]
       refine bI F ?_
       refine gZ hQ F ?_
       have e:=xj (r:=r) (by omega) (by omega)
       have le:(enc r).length=4:=by simpa using congrArg List.length e
       have:=end_ _ rfl
       simp only[bufR,List.map_append,e,le]at this
       have m0:r/262144%256=r/262144:=by omega
       have m1:r/4096%256%64=r/4096%64:=by omega
       have m2:r/64%256%64=r/64%64:=by omega
       have m3:r%256%64=r%64:=by omega
       simp only[bufR,List.map_append,e,le,m0,m1,m2,m3,List.length_cons,List.length_nil,Nat.zero_add,Nat.reduceAdd]
       exact this
      ·exfalso;omega
     ·exfalso;omega
   ·exfalso;omega
theorem jI(r:Int)(hr:Rune r)(h j:Heap)(X:Blk)(v:Nat)(s:Bs)(hs:s.length≤1073741824):
  Sat (CT G) 255 [.hs (h.length+1) v 0 s.length true,.int .i32 r] (h++X::bufR v s::j)
   (fun x h'=>x=.hs (h.length+1) (v+1) 0 (s.length+(enc r).length) true∧h'=h++X::bufR (v+1) (s++enc r)::j):=by
 have end_:∀l,l=enc r→Fin (h++X::bufR v s::j) (h++X::bufR (v+1) (s++l)::j) (fun x h'=>x=.hs (h.length+1) (v+1) 0 (s.length+(enc r).length) true∧h'=h++X::bufR (v+1) (s++enc r)::j) (.hs (h.length+1) (v+1) 0 (s.length+l.length) true):=fun l hl=>by
  subst hl
  refine Fin.keep0 (by simp) (fun p k hk=>?_) (.hs _ _ _ _ _ (by simp)) ⟨rfl,rfl⟩
  rcases Nat.lt_or_ge p h.length with h1|h1
  ·rw[List.getElem?_append_left h1]at hk ⊢;exact .inl hk
  ·rw[List.getElem?_append_right h1]at hk ⊢
   match p-h.length,hk with
   |0,hk=>exact .inl hk
   |1,hk=>simp at hk;subst hk;exact .inr (jG _ _ _)
   |i+2,hk=>exact .inl hk
 have hr':=hr
 obtain⟨hr0,hr1⟩:=hr
 have F:=F2 @ki @jc
 refine sb [.tmp 4] (fn:=Tryz.f255) Tryz.func255 ?_
 intro Q hQ
 refine bI F ?_
 refine ns F (fun hc=>?_) (fun hc=>?_)<;>(try exact hc.elim)<;>(refine bI F ?_)
 ·refine cc (.inl rfl) (by exact eJ F) (by exact eJ F) cS eW (by omega) (cA _ _) (by simp(disch:=first|omega| (simp only[go_sem, ↓reduceIte,Nat.reduceEqDiff];done)|fail) only[go_sem, ↓reduceIte,Int.reduceToNat,Int.reduceLE,Int.reduceLT,Int.reduceSub,Int.reduceAdd,Nat.reduceEqDiff,Nat.reduceAdd,Nat.reduceLeDiff,Nat.reduceLT,Nat.reduceMul,Nat.reduceSub,F,bp];rfl) (by simp) ?_ ?_
  ·simp[maxLen];omega
  simp(disch:=first|omega| (simp only[go_sem, ↓reduceIte,Nat.reduceEqDiff];done)|fail) only[go_sem, ↓reduceIte,Int.reduceToNat,Int.reduceLE,Int.reduceLT,Int.reduceSub,Int.reduceAdd,Nat.reduceEqDiff,Nat.reduceAdd,Nat.reduceLeDiff,Nat.reduceLT,Nat.reduceMul,Nat.reduceSub,F]
  refine bI F ?_
  refine gZ hQ F ?_
  have e:=xh (r:=r) (by omega) (by omega)
  have le:(enc r).length=1:=by simpa using congrArg List.length e
  have:=end_ _ rfl
  simp only[bufR,List.map_append,e,le]at this
  have m0:r%256=r:=by omega
  simp only[bufR,List.map_append,e,le,m0,List.length_cons,List.length_nil,Nat.zero_add,Nat.reduceAdd]
  exact this
 ·refine B0 F (eC G r hr' (by omega) h j X v s hs) ?_
  refine gZ hQ F ?_
  exact end_ _ rfl
theorem dn(a:AVal)(r:Int)(hr:Rune r)(h j:Heap)(v:Nat)(s:Bs)(ha:bldA a h.length)(hs:s.length≤1073741824):
  Sat (CT G) 242 [.hp h.length 0 0 0,.int .i32 r] (bldH h j a v s) (fun x h'=>x=.tup [.int .i64 (enc r).length,.nil .nilIface]∧h'=bldH h j (.hp h.length 0 0 0) (v+1) (s++enc r)):=by
 have end_:Fin (bldH h j a v s) (bldH h j (.hp h.length 0 0 0) (v+1) (s++enc r)) (fun x h'=>x=.tup [.int .i64 (enc r).length,.nil .nilIface]∧h'=bldH h j (.hp h.length 0 0 0) (v+1) (s++enc r)) (.tup [.int .i64 (enc r).length,.nil .nilIface]):=
  Fin.keep0 ((ce ..).trans (ce ..).symm) (gb _ _ _ _ _ _ _) (.tup _ (by intro c hc;simp at hc;rcases hc with rfl|rfl;exact .int _ _;exact .nil _)) ⟨rfl,rfl⟩
 have F:= @bp
 refine sb [.tmp 4,.tmp 5] (fn:=Tryz.f242) Tryz.func242 ?_
 intro Q hQ
 refine bI F ?_
 refine(fG G a h j v s ha).mono ?_
 rintro x h' ⟨rfl,rfl⟩
 unfold bldH at*
 try refine eI F ?_
 refine bI F ?_
 refine B0 F (jI G r hr h j _ v s hs) ?_
 refine(hQ _ _ ?_).1
 simp(disch:=first|omega| (simp only[go_sem, ↓reduceIte,Nat.reduceEqDiff];done)|fail) only[go_sem, ↓reduceIte,Int.reduceToNat,Int.reduceLE,Int.reduceLT,Int.reduceSub,Int.reduceAdd,Nat.reduceEqDiff,Nat.reduceAdd,Nat.reduceLeDiff,Nat.reduceLT,Nat.reduceMul,Nat.reduceSub,F]
 have hl:=dL r
 simp only[bldR,bufR,List.length_append,List.map_append]at end_ ⊢
 rw[show IntKind.wrap .i64 (((s.length+(enc r).length:Nat):Int)-(s.length:Nat))=((enc r).length:Nat)from by rw[jV (by omega) (by omega)];omega]
 exact end_
end Go.Av
namespace Go.Av
open Go Go.Proofs Go.RowKit
def dec(s:Bs)(k:Nat):Nat×Nat:=Utf8.decode ⟨s.toArray⟩ k
theorem ep(s:Bs)(k:Nat):dec s k=Lib.decodeN (s.length-k) (s.getD k 0).toNat (s.getD (k+1) 0).toNat (s.getD (k+2) 0).toNat (s.getD (k+3) 0).toNat:=by
 unfold dec;rw[Lib.decode_N]
theorem aU(n:Nat)(h:n<256):(UInt8.ofNat n).toNat=n:=by simp;omega
def fix(r:Int):Nat:=if Utf8.valid r=true then r.toNat else Utf8.runeError
theorem xm(r:Int):fix r≤1114111:=by
 unfold fix Utf8.valid Utf8.runeError;split
 ·rename_i h;simp at h;omega
 ·omega
theorem vA(r:Int):fix r<55296∨57344≤fix r:=by
 unfold fix Utf8.valid Utf8.runeError;split
 ·rename_i h;simp at h;omega
 ·omega
theorem nJ(r:Int):enc r=let c:=fix r
  if c<0x80 then [UInt8.ofNat c]
  else if c<0x800 then [UInt8.ofNat (0xC0+c/64),UInt8.ofNat (0x80+c%64)]
  else if c<0x10000 then [UInt8.ofNat (0xE0+c/4096),UInt8.ofNat (0x80+c/64%64),UInt8.ofNat (0x80+c%64)]
  else [UInt8.ofNat (0xF0+c/262144),UInt8.ofNat (0x80+c/4096%64),UInt8.ofNat (0x80+c/64%64),UInt8.ofNat (0x80+c%64)]:=by
 unfold enc Utf8.encode fix
 simp only[]
 split
 ·split
  ·rfl
  ·split
   ·rfl
   ·split<;>rfl
 ·rfl
theorem bg(s:Bs)(k:Nat)(h:k<s.length):1≤(dec s k).2∧k+(dec s k).2≤s.length:=by
 rw[ep]
 refine⟨Lib.decodeN_ge1 _ _ _ _ _,?_⟩
 unfold Lib.decodeN
 repeat (first|split| (simp only[];omega))
theorem kj(s:Bs)(k:Nat)(b:UInt8)(h:s[k]? =some b)(ha:b.toNat<128):dec s k=(b.toNat,1):=by
 rw[ep,List.getD_eq_getElem?_getD,h]
 exact Lib.decodeN_ascii _ _ _ _ _ ha
theorem tG(s:Bs)(k:Nat)(b:UInt8)(h:s[k]? =some b)(ha:128≤b.toNat):
  128≤(dec s k).1∧((dec s k).1<55296∨57343<(dec s k).1∧(dec s k).1≤1114111)∧∀i,i<(dec s k).2→∀c,s[k+i]? =some c→128≤c.toNat:=by
 have hb:s.getD k 0=b:=by rw[List.getD_eq_getElem?_getD,h];rfl
 have at_:∀i c,s[k+i]? =some c→s.getD (k+i) 0=c:=fun i c hc=>by rw[List.getD_eq_getElem?_getD,hc];rfl
 have l0:∀i,(s.getD i 0).toNat<256:=fun i=>(s.getD i 0).toNat_lt
 have e1:=l0 (k+1);have e2:=l0 (k+2);have e3:=l0 (k+3);have e0:=b.toNat_lt
 rw[ep,hb]
 generalize h1:(s.getD (k+1) 0).toNat=b1 at*
 generalize h2:(s.getD (k+2) 0).toNat=b2 at*
 generalize h3:(s.getD (k+3) 0).toNat=b3 at*
 have key:∀i c,s[k+i]? =some c→(i=0→c.toNat=b.toNat)∧(i=1→c.toNat=b1)∧(i=2→c.toNat=b2)∧(i=3→c.toNat=b3):=fun i c hc=>by
  have:=at_ i c hc
  refine⟨fun e=>?_,fun e=>?_,fun e=>?_,fun e=>?_⟩<;>subst e
  ·rw[← this];simp only[Nat.add_zero];rw[hb]
  ·rw[← h1,this]
  ·rw[← h2,this]
  ·rw[← h3,this]
 generalize s.length-k=n
 have fin:∀x m:Nat,(128≤x∧(x<55296∨57343<x∧x≤1114111))→(∀i,i<m→(i=0∧128≤b.toNat)∨(i=1∧128≤b1)∨(i=2∧128≤b2)∨(i=3∧128≤b3))→
   128≤(x,m).1∧((x,m).1<55296∨57343<(x,m).1∧(x,m).1≤1114111)∧∀i,i<(x,m).2→∀c,s[k+i]? =some c→128≤c.toNat:=fun x m hx hm=>
  ⟨hx.1,hx.2,fun i hi c hc=>by
   obtain⟨k0,k1,k2,k3⟩:=key i c hc
   rcases hm i hi with⟨e,h⟩| ⟨e,h⟩| ⟨e,h⟩| ⟨e,h⟩
   ·rw[k0 e];exact h
   ·rw[k1 e];exact h
   ·rw[k2 e];exact h
   ·rw[k3 e];exact h⟩
 unfold Lib.decodeN
 rw[if_neg (by omega)]
 split
 ·split
  ·exact fin _ _ (by omega) (fun i hi=>by omega)
  ·exact fin _ _ (by omega) (fun i hi=>by omega)
 ·split
  ·split
   ·exact fin _ _ (by omega) (fun i hi=>by omega)
   ·exact fin _ _ (by omega) (fun i hi=>by omega)
  ·split
   ·split
    ·exact fin _ _ (by omega) (fun i hi=>by omega)
    ·exact fin _ _ (by omega) (fun i hi=>by omega)
   ·exact fin _ _ (by omega) (fun i hi=>by omega)
end Go.Av
namespace Go.Av
open Go Go.Proofs Go.RowKit
attribute [local irreducible] WP WPl WPix Sat
variable (G:Nat→Option (List AVal))
theorem bQ{x:Int}(h0: -2147483648≤x)(h1:x≤2147483647):IntKind.i32.wrap x=x:=by
 simp only[IntKind.wrap,IntKind.bits,IntKind.signed];simp;omega
theorem nK(h j:Heap)(s:Bs)(q:Nat):(h++Blk.iter s q::j)[h.length]? =some (.iter s q):=by simp
end Go.Av
namespace Go.Av
open Go Go.Proofs Go.RowKit Go.Lib
section
variable {C:Ctx} {B:Nat} {S:Addr→Prop} {μ:Map} {h:Heap} {w w':World}
theorem tH(f:Fits C B S μ h w)(hb:Below w.heap.size w w'){g cap:Nat}{cur:Array Value}{e:TypeId}{ls:List Bs}(hg:w.heap.size≤g)(hheap:w'.heap[g]? =some (.cells cur e (0,0)))
  (hn:ls.length≤cap)(h0:0<cap)(hm:cap≤maxLen)(hsz:cur.size=cap)(hget:∀(i:Nat) (a:Bs),ls[i]? =some a→cur[i]? =some (.string ⟨a.toArray⟩)):
  Fits C B S (μ++[⟨some g,0,1,cap⟩]) (h++[.row e 1 0 (ls.map .str)]) w'∧Step B S μ w S (μ++[⟨some g,0,1,cap⟩]) w':=by
 obtain⟨f',st⟩:=f.grown hb
 have hgl:g<w'.heap.size:=(Array.getElem?_eq_some_iff.1 hheap).1
 have st2:Step B S μ w' S (μ++[⟨some g,0,1,cap⟩]) w':=⟨fun a ha=>ha,fun _ _=>rfl,Below.refl _ _,dN _ _,fun a ha=>.inl ha⟩
 refine⟨⟨fun g' cs hg'=>(f'.glob g' cs hg').mono st2,by simp[f'.len],?_,?_,f'.base,f'.lie,?_⟩,st.trans st2⟩
 ·intro p q m1 m2 b h1 h2 e1 e2
  rcases aH h1 with k1| ⟨k1,rfl⟩<;>rcases aH h2 with k2| ⟨k2,rfl⟩
  ·exact f'.sep p q m1 m2 b k1 k2 e1 e2
  ·have:=(f.own p m1 b k1 e1).2.1;cases e2;omega
  ·have:=(f.own q m2 b k2 e2).2.1;cases e1;omega
  ·rw[k1,k2]
 ·intro p m1 b h1 e1
  rcases aH h1 with k1| ⟨k1,rfl⟩
  ·exact f'.own p m1 b k1 e1
  ·cases e1
   exact⟨Nat.le_trans f.base hg,hgl,fun a ha=>by have:=f.lie a ha;omega⟩
 ·intro p m1 k1 h1 h2
  rcases aH h1 with a1| ⟨a1,rfl⟩
  ·have hp:p<h.length:=by have:=(List.getElem?_eq_some_iff.1 a1).1;rw[f.len]at this;exact this
   rw[List.getElem?_append_left hp]at h2
   exact(f'.blk p m1 k1 a1 h2).mono st2 fun _ _=>rfl
  ·rw[a1,f.len,List.getElem?_append_right (Nat.le_refl _)]at h2
   simp at h2
   subst h2
   refine⟨rfl,rfl,by omega,fun i r hr=>?_,fun i r j c hr hc=>?_,.inr ⟨g,cur,rfl,hheap,by simp[hsz],⟨h0,by simpa using hn⟩,hm,fun i r j c hr hc=>?_⟩⟩
   ·obtain⟨a,_,rfl⟩:=List.mem_map.1 (List.mem_of_getElem? hr);rfl
   ·obtain⟨a,_,rfl⟩:=List.mem_map.1 (List.mem_of_getElem? hr)
    match j with
    |0=>simp[AVal.cells]at hc;subst hc;rfl
    |j+1=>simp[AVal.cells]at hc
   ·rw[List.getElem?_map]at hr
    obtain⟨a,ha,rfl⟩:=Option.map_eq_some_iff.1 hr
    match j with
    |0=>
     simp[AVal.cells]at hc;subst hc
     exact⟨_,by simpa using hget i a ha,.str _⟩
    |j+1=>simp[AVal.cells]at hc
end
variable (G:Nat→Option (List AVal))
def fldsF(s:Bs):List Bs:=(goFieldsP (fun r=> !letF r) ⟨s.toArray⟩).map fun b=>b.data.toList
theorem pm(s:Bs)(hs:s.length≤1000000)(h:Heap):Sat (CT G) 212 [.str s,.fn (.func 214) [] []] h
  (fun r h'=>(fldsF s=[]∧r=.sl 1 []∧h'=h)∨(fldsF s≠ []∧r=.hs h.length 0 0 (fldsF s).length true∧h'=h++[.row 9 1 0 ((fldsF s).map .str)])):=by
 intro B S μ w us fit rl
 obtain⟨hul,hur⟩:=rl
 match us,hul,hur with
 | [v0,v1],_,hur=>
  have r0:Rep w S μ (.str s) v0:=hur 0 _ rfl
  have r1:Rep w S μ (.fn (.func 214) [] []) v1:=hur 1 _ rfl
  obtain rfl:=r0.str_inv
  obtain rfl:v1=.func (.func 214) #[] #[]:=by
   cases r1 with
   |fn _ _ _ xv cv h1 h2 h3 h4=>
    match xv,cv,h1,h2 with
    | [],[],_,_=>rfl
  change OpOk Tryz.prog _ ((callFunc 212 #[Value.string ⟨s.toArray⟩,Value.func (Fn.func 214) #[] #[]]).run Tryz.prog w)
  rw[bO (f:=212) Tryz.func212 rfl rfl]
  refine(Tryz.strings_FieldsFunc 214 #[] (enters_of Tryz.func214 (by kernel_rfl) rfl) _ ⟨s.toArray⟩ w (by simp[ByteArray.size];omega) (qW w)).mono fun e w' ⟨A,he,hA,hrow,hbel⟩=>?_
  refine⟨_,he,?_⟩
  have hlen:(fldsF s).length=(goFieldsP (fun r=> !letF r) ⟨s.toArray⟩).length:=by unfold fldsF;rw[List.length_map]
  have hmap:(goFieldsP (fun r=> !letF r) ⟨s.toArray⟩).map Value.string=(fldsF s).map fun a=>Value.string ⟨a.toArray⟩:=by
   unfold fldsF
   rw[List.map_map]
   exact List.map_congr_left fun b _=>by simp
  rw[hmap]at hrow
  rw[← hlen]at hrow he ⊢
  obtain⟨_,ho⟩:=hrow
  rcases ho with⟨h1,_⟩| ⟨g,cap,cur,h1,hg,hheap,hn,hm,hsz,htk⟩
  ·cases h1
  ·cases h1
   by_cases hl:fldsF s=[]
   ·obtain⟨f',st⟩:=fit.grown hbel
    rw[hl]
    exact⟨.sl 1 [],h,S,μ,.inl ⟨rfl,rfl,rfl⟩,st,f',.sl0 1 _ _⟩
   ·have hp:=List.length_pos_iff.2 hl
    have hget:∀(i:Nat) (a:Bs),(fldsF s)[i]? =some a→cur[i]? =some (.string ⟨a.toArray⟩):=fun i a ha=>by
     have hi:i<(fldsF s).length:=(List.getElem?_eq_some_iff.1 ha).1
     have h2:(cur.toList.take ((fldsF s).length*1))[i]? =some (.string ⟨a.toArray⟩):=by rw[htk,List.getElem?_map,ha];rfl
     rw[List.getElem?_take_of_lt (by omega)]at h2
     simpa using h2
    obtain⟨f',st⟩:=tH fit hbel hg hheap hn (by omega) hm (by simpa using hsz) hget
    refine⟨.hs h.length 0 0 (fldsF s).length true,_,S,_,.inr ⟨hl,rfl,rfl⟩,st,f',?_⟩
    refine .hs _ _ _ _ _ ⟨some A,0,1,(fldsF s).length⟩ _ (by rw[← fit.len];simp) (Nat.le_refl _) (fun cs h=>by cases h) rfl (fun _=>.inr ⟨A,rfl,by simp,by simp⟩)
end Go.Av
namespace Go.Av
open Go Go.Proofs Go.RowKit
theorem bR(s:Bs)(k:Nat):dec s k=dec (s.drop k) 0:=by
 rw[ep,ep]
 simp only[List.getD_eq_getElem?_getD,List.getElem?_drop,List.length_drop,Nat.add_zero,Nat.zero_add,Nat.sub_zero,Nat.add_assoc]
theorem iB(s:Bs)(k:Nat)(h:k<s.length):Rune (dec s k).1:=by
 have hb:=List.getElem?_eq_getElem h
 by_cases ha:s[k].toNat<128
 ·rw[kj s k _ hb ha];exact⟨by simp,by simp;omega⟩
 ·obtain⟨h1,h2,_⟩:=tG s k _ hb (by omega)
  exact⟨by omega,by omega⟩
def runesN:Nat→Bs→List Int
 |0,_=>[]
 |f+1,s=>if s=[]then []else((dec s 0).1:Int)::runesN f (s.drop (dec s 0).2)
def runesF(s:Bs):List Int:=runesN s.length s
theorem mO:∀(f:Nat) (s:Bs),s.length≤f→runesN f s=runesN s.length s:=by
 intro f
 induction f using Nat.strongRecOn with
 |ind f ih=>
  intro s hs
  cases s with
  |nil=>cases f<;>rfl
  |cons b t=>
   obtain⟨f,rfl⟩:∃g,f=g+1:=⟨f-1,by simp at hs;omega⟩
   have hd:=bg (b::t) 0 (by simp)
   simp only[List.length_cons]at hs hd ⊢
   rw[runesN,runesN,if_neg (by simp),if_neg (by simp)]
   have hl:((b::t).drop (dec (b::t) 0).2).length≤t.length:=by simp only[List.length_drop,List.length_cons];omega
   rw[ih f (by omega) _ (by omega)]
   by_cases hf:t.length=f
   ·subst hf;rw[ih t.length (by omega) _ hl]
   ·rw[ih t.length (by omega) _ hl]
theorem dB:runesF []=[]:=rfl
theorem cZ(s:Bs)(h:s≠ []):runesF s=((dec s 0).1:Int)::runesF (s.drop (dec s 0).2):=by
 have hl:0<s.length:=List.length_pos_iff.2 h
 have hd:=bg s 0 hl
 unfold runesF
 obtain⟨n,hn⟩:∃n,s.length=n+1:=⟨s.length-1,by omega⟩
 rw[hn,runesN,if_neg h,mO n _ (by simp only[List.length_drop];omega)]
theorem er(s:Bs)(k:Nat)(h:k<s.length):runesF (s.drop k)=((dec s k).1:Int)::runesF (s.drop (k+(dec s k).2)):=by
 rw[cZ _ (by intro e;have:=congrArg List.length e;simp at this;omega), ← bR,List.drop_drop]
theorem dC(s:Bs)(k:Nat)(h:s.length≤k):runesF (s.drop k)=[]:=by
 rw[List.drop_of_length_le h];rfl
theorem bX:∀(n:Nat) (s:Bs),s.length≤n→(runesF s).length≤s.length:=by
 intro n
 induction n with
 |zero=>intro s h;have:s=[]:=List.length_eq_zero_iff.1 (by omega);subst this;simp[dB]
 |succ n ih=>
  intro s h
  by_cases h0:s=[]
  ·subst h0;simp[dB]
  ·have hd:=bg s 0 (List.length_pos_iff.2 h0)
   rw[cZ s h0]
   have:=ih (s.drop (dec s 0).2) (by simp only[List.length_drop];omega)
   simp only[List.length_drop]at this
   simp only[List.length_cons];omega
theorem d7:∀(n:Nat) (s:Bs),s.length≤n→∀c∈runesF s,Rune c:=by
 intro n
 induction n with
 |zero=>intro s h c hc;have:s=[]:=List.length_eq_zero_iff.1 (by omega);subst this;simp[dB]at hc
 |succ n ih=>
  intro s h c hc
  by_cases h0:s=[]
  ·subst h0;simp[dB]at hc
  ·have hl:=List.length_pos_iff.2 h0
   have hd:=bg s 0 hl
   rw[cZ s h0]at hc
   rcases List.mem_cons.1 hc with rfl|hc
   ·exact iB s 0 hl
   ·exact ih _ (by simp only[List.length_drop];omega) c hc
def blankR(c:Int):Bool:=decide (c=9∨c=10∨c=13∨c=32∨c=160∨c=8232∨c=8233∨c=12288)
def ctlR(c:Int):Bool:=decide (c<32∨(127≤c∧c≤159))
def clnR:List Int→List Int→Bool→List Int
 | [],o,_=>o
 |c::t,o,w=>if blankR c then clnR t o (decide (0<o.length))else if ctlR c then clnR t o w else clnR t (o++(if w then [32,c]else [c])) false
def cleanR(s:Bs):List Int:=clnR (runesF s) [] false
def encs(l:List Int):Bs:=l.flatMap enc
def cleanF(s:Bs):Bs:=encs (cleanR s)
theorem gJ(r:Int):1≤(enc r).length:=by
 rw[nJ];simp only[];repeat (first|split|simp)
theorem iC(l:List Int):(encs l).length≤4*l.length∧l.length≤(encs l).length:=by
 induction l with
 |nil=>simp[encs]
 |cons c t ih=>
  have h1:=dL c
  have h2:=gJ c
  simp only[encs,List.flatMap_cons,List.length_append,List.length_cons]at ih ⊢;omega
theorem eu:∀(l o:List Int) (w:Bool),(∀c∈l,Rune c)→(∀c∈o,Rune c)→∀c∈clnR l o w,Rune c
 | [],o,w,_,h=>by simpa [clnR]using h
 |c::t,o,w,hl,ho=>by
  rw[clnR]
  have ht:∀x∈t,Rune x:=fun x hx=>hl x (by simp[hx])
  split
  ·exact eu t o _ ht ho
  ·split
   ·exact eu t o w ht ho
   ·refine eu t _ false ht ?_
    intro x hx
    rcases List.mem_append.1 hx with hx|hx
    ·exact ho x hx
    ·have h32:Rune 32:=⟨by decide,by decide⟩
     split at hx
     ·simp at hx;rcases hx with rfl|rfl
      ·exact h32
      ·exact hl _ (by simp)
     ·simp at hx;subst hx;exact hl _ (by simp)
def rightN:Nat→Bs→Bool
 |0,_=>true
 |f+1,s=>if s=[]then true else if (dec s 0).1=65533∧(dec s 0).2=1 then false else rightN f (s.drop (dec s 0).2)
def rightS(s:Bs):Bool:=rightN s.length s
theorem mP:∀(f:Nat) (s:Bs),s.length≤f→rightN f s=rightN s.length s:=by
 intro f
 induction f using Nat.strongRecOn with
 |ind f ih=>
  intro s hs
  cases s with
  |nil=>cases f<;>rfl
  |cons b t=>
   obtain⟨f,rfl⟩:∃g,f=g+1:=⟨f-1,by simp at hs;omega⟩
   have hd:=bg (b::t) 0 (by simp)
   simp only[List.length_cons]at hs hd ⊢
   rw[rightN,rightN,if_neg (show ¬(b::t)=[] by simp),if_neg (show ¬(b::t)=[] by simp)]
   have hl:((b::t).drop (dec (b::t) 0).2).length≤t.length:=by simp only[List.length_drop,List.length_cons];omega
   rw[ih f (by omega) _ (by omega),ih t.length (by omega) _ hl]
theorem mQ(s:Bs)(h:s≠ []):rightS s=if (dec s 0).1=65533∧(dec s 0).2=1 then false else rightS (s.drop (dec s 0).2):=by
 have hl:0<s.length:=List.length_pos_iff.2 h
 have hd:=bg s 0 hl
 unfold rightS
 obtain⟨n,hn⟩:∃n,s.length=n+1:=⟨s.length-1,by omega⟩
 rw[hn,rightN,if_neg h,mP n _ (by simp only[List.length_drop];omega)]
theorem kp(s:Bs)(k:Nat)(h:k<s.length):rightS (s.drop k)=if (dec s k).1=65533∧(dec s k).2=1 then false else rightS (s.drop (k+(dec s k).2)):=by
 rw[mQ _ (by intro e;have:=congrArg List.length e;simp at this;omega), ← bR,List.drop_drop]
theorem mR(n b0 b1 b2 b3:Nat)(h1:b1<256)(h2:b2<256)(h0:b0<256)(h:(Lib.decodeN n b0 b1 b2 b3).1=65533):(Lib.decodeN n b0 b1 b2 b3).2=1↔¬(3≤n∧b0=239∧b1=191∧b2=189):=by
 unfold Lib.decodeN at*
 by_cases c1:b0<128
 ·rw[if_pos c1]at *;simp only[]at *;omega
 rw[if_neg c1]at*
 by_cases c2:(b0/32=6∧(1<n∧b1/64=2))
 ·rw[if_pos c2]at*
  by_cases c3:b0%32*64+b1%64≥128
  ·rw[if_pos c3]at *;simp only[]at *;omega
  ·rw[if_neg c3]at *;exact⟨fun _ hc=>by omega,fun _=>rfl⟩
 rw[if_neg c2]at*
 by_cases c4:b0/16=14∧(1<n∧b1/64=2)∧(2<n∧b2/64=2)
 ·rw[if_pos c4]at*
  by_cases c5:(b0%16*4096+b1%64*64+b2%64≥2048∧(b0%16*4096+b1%64*64+b2%64<55296∨(57344≤b0%16*4096+b1%64*64+b2%64∧b0%16*4096+b1%64*64+b2%64≤1114111)))
  ·rw[if_pos c5]at *;simp only[]at *;omega
  ·rw[if_neg c5]at *;exact⟨fun _ hc=>by omega,fun _=>rfl⟩
 rw[if_neg c4]at*
 by_cases c6:b0/8=30∧(1<n∧b1/64=2)∧(2<n∧b2/64=2)∧(3<n∧b3/64=2)
 ·rw[if_pos c6]at*
  by_cases c7:(b0%8*262144+b1%64*4096+b2%64*64+b3%64≥65536∧(b0%8*262144+b1%64*4096+b2%64*64+b3%64<55296∨(57344≤b0%8*262144+b1%64*4096+b2%64*64+b3%64∧b0%8*262144+b1%64*4096+b2%64*64+b3%64≤1114111)))
  ·rw[if_pos c7]at *;simp only[]at *;omega
  ·rw[if_neg c7]at *;exact⟨fun _ hc=>by omega,fun _=>rfl⟩
 ·rw[if_neg c6]at *;exact⟨fun _ hc=>by omega,fun _=>rfl⟩
theorem DC(u:Bs):Lib.hasPrefix u [239,191,189]=true↔(3≤u.length∧(u.getD 0 0).toNat=239∧(u.getD 1 0).toNat=191∧(u.getD 2 0).toNat=189):=by
 have key:∀(x:UInt8) (n:Nat),n<256→(x.toNat=n↔x=UInt8.ofNat n):=fun x n h=>by rw[← UInt8.toNat_inj,aU n h]
 match u with
 | []=>simp[Lib.hasPrefix]
 | [a]=>simp[Lib.hasPrefix]
 | [a,b]=>simp[Lib.hasPrefix]
 |a::b::c::t=>
  simp only[List.getD_cons_zero,List.getD_cons_succ,List.length_cons]
  rw[key a 239 (by omega),key b 191 (by omega),key c 189 (by omega)]
  unfold Lib.hasPrefix
  simp only[List.isPrefixOf,Bool.and_eq_true,beq_iff_eq]
  constructor
  ·rintro⟨rfl,rfl,rfl,_⟩;exact⟨by omega,rfl,rfl,rfl⟩
  ·rintro⟨_,rfl,rfl,rfl⟩;exact⟨rfl,rfl,rfl,trivial⟩
theorem tI(s:Bs)(k:Nat)(hd:(dec s k).1=65533):(dec s k).2=1↔Lib.hasPrefix (s.drop k) [239,191,189]=false:=by
 rw[bR]at*
 generalize s.drop k=u at*
 rw[← Bool.not_eq_true,DC]
 rw[ep]at*
 exact mR _ _ _ _ _ (UInt8.toNat_lt _) (UInt8.toNat_lt _) (UInt8.toNat_lt _) hd
end Go.Av
namespace Go.Av
open Go Go.Proofs Go.RowKit
attribute [local irreducible] WP WPl WPix Sat
variable (G:Nat→Option (List AVal))
theorem pn(c:Int)(h:Heap):Sat (CT G) 262 [.int .i32 c] h (fun r h'=>r=.bool (blankR c)∧h'=h):=by
 have yes:(c=9∨c=10∨c=13∨c=32∨c=160∨c=8232∨c=8233∨c=12288)→blankR c=true:=fun h=>decide_eq_true h
 have no:¬(c=9∨c=10∨c=13∨c=32∨c=160∨c=8232∨c=8233∨c=12288)→blankR c=false:=fun h=>decide_eq_false h
 refine sb [.tmp 2] (fn:=Tryz.f262) Tryz.func262 ?_
 intro Q hQ
 refine wk trivial ?_
 refine cq trivial (fun c0=>?_) (fun c0=>?_)<;>(try exact c0.elim)<;>(refine wk trivial ?_)
 ·refine cq trivial (fun d=>?_) (fun d=>?_)<;>(try exact d.elim)<;>(refine wk trivial ?_)
  ·refine ee hQ trivial ?_
   refine fR (.bool _) ?_
   rw[yes (by omega)]
  ·exfalso;omega
 refine cq trivial (fun c1=>?_) (fun c1=>?_)<;>(try exact c1.elim)<;>(refine wk trivial ?_)
 ·refine cq trivial (fun d=>?_) (fun d=>?_)<;>(try exact d.elim)<;>(refine wk trivial ?_)
  ·refine ee hQ trivial ?_
   refine fR (.bool _) ?_
   rw[yes (by omega)]
  ·exfalso;omega
 refine cq trivial (fun c2=>?_) (fun c2=>?_)<;>(try exact c2.elim)<;>(refine wk trivial ?_)
 ·refine cq trivial (fun d=>?_) (fun d=>?_)<;>(try exact d.elim)<;>(refine wk trivial ?_)
  ·refine ee hQ trivial ?_
   refine fR (.bool _) ?_
   rw[yes (by omega)]
  ·exfalso;omega
 refine cq trivial (fun c3=>?_) (fun c3=>?_)<;>(try exact c3.elim)<;>(refine wk trivial ?_)
 ·refine cq trivial (fun d=>?_) (fun d=>?_)<;>(try exact d.elim)<;>(refine wk trivial ?_)
  ·refine ee hQ trivial ?_
   refine fR (.bool _) ?_
   rw[yes (by omega)]
  ·exfalso;omega
 refine cq trivial (fun c4=>?_) (fun c4=>?_)<;>(try exact c4.elim)<;>(refine wk trivial ?_)
 ·refine cq trivial (fun d=>?_) (fun d=>?_)<;>(try exact d.elim)<;>(refine wk trivial ?_)
  ·refine ee hQ trivial ?_
   refine fR (.bool _) ?_
   rw[yes (by omega)]
  ·exfalso;omega
 refine cq trivial (fun c5=>?_) (fun c5=>?_)<;>(try exact c5.elim)<;>(refine wk trivial ?_)
 ·refine cq trivial (fun d=>?_) (fun d=>?_)<;>(try exact d.elim)<;>(refine wk trivial ?_)
  ·refine ee hQ trivial ?_
   refine fR (.bool _) ?_
   rw[yes (by omega)]
  ·exfalso;omega
 refine cq trivial (fun c6=>?_) (fun c6=>?_)<;>(try exact c6.elim)<;>(refine wk trivial ?_)
 ·refine cq trivial (fun d=>?_) (fun d=>?_)<;>(try exact d.elim)<;>(refine wk trivial ?_)
  ·refine ee hQ trivial ?_
   refine fR (.bool _) ?_
   rw[yes (by omega)]
  ·exfalso;omega
 refine cq trivial (fun d=>?_) (fun d=>?_)<;>(try exact d.elim)<;>(refine wk trivial ?_)
 ·refine ee hQ trivial ?_
  refine fR (.bool _) ?_
  rw[yes (by omega)]
 ·refine ee hQ trivial ?_
  refine fR (.bool _) ?_
  rw[no (by omega)]
theorem lM(c:Int)(h:Heap):Sat (CT G) 264 [.int .i32 c] h (fun r h'=>r=.bool (ctlR c)∧h'=h):=by
 refine sb [.tmp 2] (fn:=Tryz.f264) Tryz.func264 ?_
 intro Q hQ
 refine wk trivial ?_
 (first|refine gq trivial (fun g1=>?_) (fun g1=>?_)|refine pq trivial (fun g1=>?_) (fun g1=>?_))<;>(try exact g1.elim)<;>(try refine sq trivial ?_)<;>(refine wk trivial ?_)
 ·refine ee hQ trivial ?_
  refine fR (.bool _) ?_
  rw[show ctlR c=true from decide_eq_true (.inl g1)]
 ·(first|refine gq trivial (fun g2=>?_) (fun g2=>?_)|refine pq trivial (fun g2=>?_) (fun g2=>?_))<;>(try exact g2.elim)<;>(try refine sq trivial ?_)<;>(refine wk trivial ?_)
  ·refine ee hQ trivial ?_
   refine fR (.bool _) ?_
   unfold ctlR
   congr 1
   rw[Bool.eq_iff_iff];simp;omega
  ·refine ee hQ trivial ?_
   refine fR (.bool _) ?_
   rw[show ctlR c=false from decide_eq_false (by omega)]
theorem lN(h j:Heap)(a:AVal)(v:Nat)(o s:Bs)(q:Nat):(bldH h (Blk.iter s q::j) a v o)[h.length+2]? =some (.iter s q):=by
 unfold bldH;rw[List.getElem?_append_right (by omega),show h.length+2-h.length=2 by omega];rfl
theorem lO(h j:Heap)(a:AVal)(v:Nat)(o:Bs)(x y:Blk):(bldH h (x::j) a v o).set (h.length+2) y=bldH h (y::j) a v o:=by
 unfold bldH;rw[List.set_append_right _ _ (by omega),show h.length+2-h.length=2 by omega];rfl
theorem pr(s:Bs)(hs:s.length≤100000000)(h:Heap):Sat (CT G) 252 [.str s] h (fun r h'=>r=.str (cleanF s)∧h'=h):=by
 have F:= @lO
 refine sb [.tmp 2] (fn:=Tryz.f252) Tryz.func252 ?_
 intro Q hQ
 (repeat (first|refine w1 (fun K hK=>?_)|refine w2 ?_|refine w3 ?_| ((first|refine w4 ?_|refine wD ?_|refine w5 ?_|refine w6 ?_|refine w7 ?_);try refine sq F ?_)| (refine w8 ?_;refine sq F ?_;refine w9 ?_)))
 refine hK _ _ (Wkn.refl ?_)
 clear hK K
 (repeat (first|refine w1 (fun K hK=>?_)|refine w2 ?_|refine w3 ?_| ((first|refine w4 ?_|refine wD ?_|refine w5 ?_|refine w6 ?_|refine w7 ?_);try refine sq F ?_)| (refine w8 ?_;refine sq F ?_;refine w9 ?_)))
 refine hK _ _ ⟨_,_,Weak.virtCell (p:=h.length) (v:=0) 5 1 (by omega) (by simp(disch:=first|omega| (simp only[go_sem, ↓reduceIte,seval];first|done|omega)|fail) only[go_sem, ↓reduceIte,seval,F];rfl) 1 rfl,?_⟩
 clear hK K
 (repeat (first|refine w1 (fun K hK=>?_)|refine w2 ?_|refine w3 ?_| ((first|refine w4 ?_|refine wD ?_|refine w5 ?_|refine w6 ?_|refine w7 ?_);try refine sq F ?_)| (refine w8 ?_;refine sq F ?_;refine w9 ?_)| ((first|refine hK _ _ (w0 ?_)| (clear hK K;refine hK _ _ (w0 ?_))| (clear hK K;clear hK K;refine hK _ _ (w0 ?_)));clear hK K)))
 refine lm (fun nL tL hL=>∃(a:AVal) (v k:Nat) (out:List Int) (w:Bool),s.length-k=nL∧bldH h [.iter s k] a v (encs out)=hL∧tL 4=.bool w∧bldA a h.length∧k≤s.length∧clnR (runesF (s.drop k)) out w=cleanR s∧(encs out).length+8*(s.length-k)≤8*s.length) ((fun(a:AVal) (v k:Nat) (out:List Int) (w:Bool)=>(s.length-k:Nat)) ((.nil (.pointer none))) (0) (0) ([]) (false)) ?_ ?_
 ·refine Wkn.refl ⟨(.nil (.pointer none)),0,0,[],false,rfl,by simp[bldH,bldR,bufR,encs],?_,.inl rfl,by omega,rfl,by simp[encs]⟩
  all_goals first|exact zq F|rfl|omega|trivial|skip
 rintro _ s2 h' ⟨a,v,k,out,w,rfl,rfl,e4,ha,hk,hv,hl⟩ K2 hK2
 simp only[ai,ap,Nat.reduceEqDiff, ↓reduceIte]at e4
 have F:=F2 F e4
 (repeat (first|refine w1 (fun K hK=>?_)|refine w2 ?_|refine w3 ?_| ((first|refine w4 ?_|refine wD ?_|refine w5 ?_|refine w6 ?_|refine w7 ?_);try refine sq F ?_)| (refine w8 ?_;refine sq F ?_;refine w9 ?_)| ((first|refine hK _ _ (w0 ?_)| (clear hK K;refine hK _ _ (w0 ?_))| (clear hK K;clear hK K;refine hK _ _ (w0 ?_)));clear hK K)))
 refine ff (lN _ _ _ _ _ _ _) (fun hlt=>?_) (fun hge=>?_)
 ·have hR:=iB s k hlt
  have hp:=bg s k hlt
  rw[er s k hlt,clnR]at hv
  rw[show Utf8.decode ⟨s.toArray⟩ k=dec s k from rfl]
  generalize dec s k=d at*
  obtain⟨c,m⟩:=d
  simp only[]at hR hp hv ⊢
  try refine sq F ?_
  (repeat (first|refine w1 (fun K hK=>?_)|refine w2 ?_|refine w3 ?_| ((first|refine w4 ?_|refine wD ?_|refine w5 ?_|refine w6 ?_|refine w7 ?_);try refine sq F ?_)| (refine w8 ?_;refine sq F ?_;refine w9 ?_)| ((first|refine hK _ _ (w0 ?_)| (clear hK K;refine hK _ _ (w0 ?_))| (clear hK K;clear hK K;refine hK _ _ (w0 ?_)));clear hK K)))
  refine(pn G c _).mono ?_
  rintro r h' ⟨rfl,rfl⟩
  try refine sq F ?_
  (repeat (first|refine w1 (fun K hK=>?_)|refine w2 ?_|refine w3 ?_| ((first|refine w4 ?_|refine wD ?_|refine w5 ?_|refine w6 ?_|refine w7 ?_);try refine sq F ?_)| (refine w8 ?_;refine sq F ?_;refine w9 ?_)| ((first|refine hK _ _ (w0 ?_)| (clear hK K;refine hK _ _ (w0 ?_))| (clear hK K;clear hK K;refine hK _ _ (w0 ?_)));clear hK K)))
  refine cq F (fun c1=>?_) (fun c1=>?_)<;>(try exact c1.elim)<;>((repeat (first|refine w1 (fun K hK=>?_)|refine w2 ?_|refine w3 ?_| ((first|refine w4 ?_|refine wD ?_|refine w5 ?_|refine w6 ?_|refine w7 ?_);try refine sq F ?_)| (refine w8 ?_;refine sq F ?_;refine w9 ?_)| ((first|refine hK _ _ (w0 ?_)| (clear hK K;refine hK _ _ (w0 ?_))| (clear hK K;clear hK K;refine hK _ _ (w0 ?_)));clear hK K))))
  ·rw[if_pos c1]at hv
   refine(vz G a h [.iter s (k+m)] v (encs out)).mono ?_
   rintro r h' ⟨rfl,rfl⟩
   try refine sq F ?_
   (repeat (first|refine w1 (fun K hK=>?_)|refine w2 ?_|refine w3 ?_| ((first|refine w4 ?_|refine wD ?_|refine w5 ?_|refine w6 ?_|refine w7 ?_);try refine sq F ?_)| (refine w8 ?_;refine sq F ?_;refine w9 ?_)| ((first|refine hK _ _ (w0 ?_)| (clear hK K;refine hK _ _ (w0 ?_))| (clear hK K;clear hK K;refine hK _ _ (w0 ?_)));clear hK K)))
   have ho:decide (((encs out).length:Int)>0)=decide (0<out.length):=by
    have:=iC out
    rw[Bool.eq_iff_iff];simp only[decide_eq_true_eq];omega
   have F:=F2 F ho
   try refine sq F ?_
   refine hK2 _ _ _ (Wkn.refl ⟨a,v,k+m,out,decide (0<out.length),rfl,aC,?_,ha,by omega,hv,by omega⟩) (by omega)
   all_goals first|exact zq F|rfl|omega|trivial|skip
  ·rw[if_neg (by simp[c1])]at hv
   refine(lM G c _).mono ?_
   rintro r h' ⟨rfl,rfl⟩
   try refine sq F ?_
   (repeat (first|refine w1 (fun K hK=>?_)|refine w2 ?_|refine w3 ?_| ((first|refine w4 ?_|refine wD ?_|refine w5 ?_|refine w6 ?_|refine w7 ?_);try refine sq F ?_)| (refine w8 ?_;refine sq F ?_;refine w9 ?_)| ((first|refine hK _ _ (w0 ?_)| (clear hK K;refine hK _ _ (w0 ?_))| (clear hK K;clear hK K;refine hK _ _ (w0 ?_)));clear hK K)))
   refine cq F (fun c2=>?_) (fun c2=>?_)<;>(try exact c2.elim)<;>((repeat (first|refine w1 (fun K hK=>?_)|refine w2 ?_|refine w3 ?_| ((first|refine w4 ?_|refine wD ?_|refine w5 ?_|refine w6 ?_|refine w7 ?_);try refine sq F ?_)| (refine w8 ?_;refine sq F ?_;refine w9 ?_)| ((first|refine hK _ _ (w0 ?_)| (clear hK K;refine hK _ _ (w0 ?_))| (clear hK K;clear hK K;refine hK _ _ (w0 ?_)));clear hK K))))
   ·rw[if_pos c2]at hv
    refine hK2 _ _ _ (Wkn.refl ⟨a,v,k+m,out,w,rfl,aC,?_,ha,by omega,hv,by omega⟩) (by omega)
    all_goals first|exact zq F|rfl|omega|trivial|skip
   ·rw[if_neg (by simp[c2])]at hv
    have he:=dL c
    have e1:encs (out++[32,(c:Int)])=encs out++[32]++enc c:=by
     simp only[encs,List.flatMap_append,List.flatMap_cons,List.flatMap_nil,List.append_nil,List.append_assoc];rfl
    have e2:encs (out++[(c:Int)])=encs out++enc c:=by
     simp only[encs,List.flatMap_append,List.flatMap_cons,List.flatMap_nil,List.append_nil]
    refine cq F (fun c3=>?_) (fun c3=>?_)<;>(try exact c3.elim)<;>((repeat (first|refine w1 (fun K hK=>?_)|refine w2 ?_|refine w3 ?_| ((first|refine w4 ?_|refine wD ?_|refine w5 ?_|refine w6 ?_|refine w7 ?_);try refine sq F ?_)| (refine w8 ?_;refine sq F ?_;refine w9 ?_)| ((first|refine hK _ _ (w0 ?_)| (clear hK K;refine hK _ _ (w0 ?_))| (clear hK K;clear hK K;refine hK _ _ (w0 ?_)));clear hK K))))
    ·rw[if_pos c3]at hv
     refine(kP G a h [.iter s (k+m)] v (encs out) 32 ha (by omega)).mono ?_
     rintro r h' ⟨rfl,rfl⟩
     try refine sq F ?_
     (repeat (first|refine w1 (fun K hK=>?_)|refine w2 ?_|refine w3 ?_| ((first|refine w4 ?_|refine wD ?_|refine w5 ?_|refine w6 ?_|refine w7 ?_);try refine sq F ?_)| (refine w8 ?_;refine sq F ?_;refine w9 ?_)| ((first|refine hK _ _ (w0 ?_)| (clear hK K;refine hK _ _ (w0 ?_))| (clear hK K;clear hK K;refine hK _ _ (w0 ?_)));clear hK K)))
     refine(dn G (.hp h.length 0 0 0) c hR h [.iter s (k+m)] (v+1) (encs out++[32]) (.inr rfl) (by simp only[List.length_append,List.length_cons,List.length_nil];omega)).mono ?_
     rintro r h' ⟨rfl,rfl⟩
     try refine sq F ?_
     (repeat (first|refine w1 (fun K hK=>?_)|refine w2 ?_|refine w3 ?_| ((first|refine w4 ?_|refine wD ?_|refine w5 ?_|refine w6 ?_|refine w7 ?_);try refine sq F ?_)| (refine w8 ?_;refine sq F ?_;refine w9 ?_)| ((first|refine hK _ _ (w0 ?_)| (clear hK K;refine hK _ _ (w0 ?_))| (clear hK K;clear hK K;refine hK _ _ (w0 ?_)));clear hK K)))
     refine hK2 _ _ _ (Wkn.refl ⟨(.hp h.length 0 0 0),v+1+1,k+m,out++[32,(c:Int)],false,rfl,by rw[e1];simp,?_,.inr rfl,by omega,hv,by rw[e1];simp only[List.length_append,List.length_cons,List.length_nil];omega⟩) (by omega)
     all_goals first|exact zq F|rfl|omega|trivial|skip
    ·rw[if_neg (by simp[c3])]at hv
     refine(dn G a c hR h [.iter s (k+m)] v (encs out) ha (by omega)).mono ?_
     rintro r h' ⟨rfl,rfl⟩
     try refine sq F ?_
     (repeat (first|refine w1 (fun K hK=>?_)|refine w2 ?_|refine w3 ?_| ((first|refine w4 ?_|refine wD ?_|refine w5 ?_|refine w6 ?_|refine w7 ?_);try refine sq F ?_)| (refine w8 ?_;refine sq F ?_;refine w9 ?_)| ((first|refine hK _ _ (w0 ?_)| (clear hK K;refine hK _ _ (w0 ?_))| (clear hK K;clear hK K;refine hK _ _ (w0 ?_)));clear hK K)))
     refine hK2 _ _ _ (Wkn.refl ⟨(.hp h.length 0 0 0),v+1,k+m,out++[(c:Int)],false,rfl,by rw[e2],?_,.inr rfl,by omega,hv,by rw[e2];simp only[List.length_append];omega⟩) (by omega)
     all_goals first|exact zq F|rfl|omega|trivial|skip
 ·rw[dC s k (by omega)]at hv
  try refine sq F ?_
  (repeat (first|refine w1 (fun K hK=>?_)|refine w2 ?_|refine w3 ?_| ((first|refine w4 ?_|refine wD ?_|refine w5 ?_|refine w6 ?_|refine w7 ?_);try refine sq F ?_)| (refine w8 ?_;refine sq F ?_;refine w9 ?_)| ((first|refine hK _ _ (w0 ?_)| (clear hK K;refine hK _ _ (w0 ?_))| (clear hK K;clear hK K;refine hK _ _ (w0 ?_)));clear hK K)))
  refine(jb G a h [.iter s k] v (encs out)).mono ?_
  rintro r h' ⟨rfl,b2,rfl⟩
  try refine sq F ?_
  (repeat (first|refine w1 (fun K hK=>?_)|refine w2 ?_|refine w3 ?_| ((first|refine w4 ?_|refine wD ?_|refine w5 ?_|refine w6 ?_|refine w7 ?_);try refine sq F ?_)| (refine w8 ?_;refine sq F ?_;refine w9 ?_)| ((first|refine hK _ _ (w0 ?_)| (clear hK K;refine hK _ _ (w0 ?_))| (clear hK K;clear hK K;refine hK _ _ (w0 ?_)));clear hK K)))
  refine ee hQ F ?_
  exact Fin.plainE (j:=[bldR a (h.length+1) v (encs out),b2,.iter s k]) (by simp) (.str _) ⟨congrArg AVal.str (by unfold cleanF;rw[← hv];rfl),rfl⟩
theorem pt(s:Bs)(hs:s.length≤1073741824)(h:Heap):Sat (CT G) 251 [.str s] h (fun r h'=>r=.bool (rightS s)∧h'=h):=by
 refine sb [.tmp 2] (fn:=Tryz.f251) Tryz.func251 ?_
 intro Q hQ
 refine wk trivial ?_
 refine lm (fun nL tL hL=>∃(k:Nat),s.length-k=nL∧h++[.iter s k]=hL∧k≤s.length∧rightS (s.drop k)=rightS s) ((fun(k:Nat)=>(s.length-k:Nat)) (0)) ?_ ?_
 ·refine Wkn.refl ⟨0,rfl,aC,by omega,rfl⟩
  all_goals first|exact zq trivial|rfl|omega|trivial|skip
 rintro _ s2 h' ⟨k,rfl,rfl,hk,hc⟩ K2 hK2
 refine wk trivial ?_
 refine ff (nK _ _ _ _) (fun hlt=>?_) (fun hge=>?_)
 ·have hp:=bg s k hlt
  have hca:=kp s k hlt
  have h3:=tI s k
  rw[hc]at hca
  rw[show Utf8.decode ⟨s.toArray⟩ k=dec s k from rfl]
  generalize dec s k=d at*
  obtain⟨c,m⟩:=d
  simp only[]at hp hca h3 ⊢
  try refine sq trivial ?_
  refine wk trivial ?_
  (first|refine gq trivial (fun g1=>?_) (fun g1=>?_)|refine pq trivial (fun g1=>?_) (fun g1=>?_))<;>(try exact g1.elim)<;>(try refine sq trivial ?_)<;>(refine wk trivial ?_)
  ·have g0:c=65533:=by omega
   have h4:=h3 g0
   refine kq trivial (fF G (s.drop k) [239,191,189] _) ?_
   refine cq trivial (fun g2=>?_) (fun g2=>?_)<;>(try exact g2.elim)<;>(refine wk trivial ?_)
   ·refine ee hQ trivial ?_
    refine fR (.bool _) ?_
    rw[hca,if_pos ⟨g0,h4.2 (by simpa using g2)⟩]
   ·refine hK2 _ _ _ (Wkn.refl ⟨k+m,rfl,aC,by omega,by rw[hca,if_neg];rintro⟨_,h5⟩;have:=h4.1 h5;rw[this]at g2;cases g2⟩) (by omega)
    all_goals first|exact zq trivial|rfl|omega|trivial|skip
  ·refine hK2 _ _ _ (Wkn.refl ⟨k+m,rfl,aC,by omega,by rw[hca,if_neg];rintro⟨h5,_⟩;exact g1 (by omega)⟩) (by omega)
   all_goals first|exact zq trivial|rfl|omega|trivial|skip
 ·rw[List.drop_of_length_le (by omega)]at hc
  try refine sq trivial ?_
  refine wk trivial ?_
  refine ee hQ trivial ?_
  refine fR (.bool _) ?_
  rw[← hc];rfl
end Go.Av
namespace Go.Av
open Go Go.Proofs Go.RowKit
attribute [local irreducible] WP WPl WPix Sat
section
variable {α:Type}
def fnd(key:α→Int)(l:List α)(id:Int):Option α:=l.find? fun a=>decide (key a=id)
end
variable (G:Nat→Option (List AVal))
end Go.Av
