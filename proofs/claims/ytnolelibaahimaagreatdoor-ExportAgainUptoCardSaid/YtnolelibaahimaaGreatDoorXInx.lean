/- Parts. -/
import Derived.Test.YtnolelibaahimaaGreatDoorXHp
set_option linter.unusedSimpArgs false
set_option linter.unusedVariables false
set_option linter.unusedSectionVars false
set_option linter.unnecessarySimpa false
set_option maxRecDepth 100000
set_option maxHeartbeats 16000000
namespace Go.Av
open Go Go.Proofs Go.RowKit
attribute [local irreducible] WP WPl WPix Sat
variable (G:Nat→Option (List AVal))
theorem yT(s p:Bs)(h:(Lib.cut s p).2.2=true):s=(Lib.cut s p).1++p++(Lib.cut s p).2.1∧(Lib.cut s p).1.length=(Lib.index s p).toNat:=by
 unfold Lib.cut at*;by_cases h0:0≤Lib.index s p
 ·rw[L7 h0];have hr:=Lib.index_room s p h0;rcases Lib.index_spec s p with⟨e,_⟩| ⟨i,e,hi,ho,_⟩
  ·omega
  ·rw[e];simp only[Int.toNat_natCast];have hp:(s.drop i).take p.length=p:=by
    have:=Lib.occAt_iff_take s p i (by omega);rw[ho]at this;exact eq_of_beq this.symm
   refine⟨?_,by simp;omega⟩
   conv=>lhs;rw[← V8 i s]
   rw[O4];congr 1
   conv=>lhs;rw[← V8 p.length (s.drop i)]
   rw[hp,X1]
 ·rw[L1 h0]at h;cases h
theorem kW(s p:Bs)(h:(Lib.cut s p).2.2=false):Lib.cut s p=(s,[],false):=by
 unfold Lib.cut at*;by_cases h0:0≤Lib.index s p
 ·rw[L7 h0]at h;cases h
 ·rw[L1 h0]
theorem bZ(s p:Bs)(h:(Lib.cut s p).2.2=true):(Lib.cut s p).1.length+p.length+(Lib.cut s p).2.1.length=s.length:=by
 have:=N5 List.length (yT s p h).1;simp only[L4]at this;omega
def readP:Nat→Bs→Bs
 |0,_=>[]
 |f+1,s=>
  if (Lib.cut s [38]).2.2=true then
   if ((Lib.cut (Lib.cut s [38]).2.1 [59]).2.2&&decide ((Lib.cut (Lib.cut s [38]).2.1 [59]).1.length≤10)&&(signF (Lib.cut (Lib.cut s [38]).2.1 [59]).1).2)=true
   then(Lib.cut s [38]).1++(enc (signF (Lib.cut (Lib.cut s [38]).2.1 [59]).1).1++readP f (Lib.cut (Lib.cut s [38]).2.1 [59]).2.1)
   else(Lib.cut s [38]).1++(38::readP f (Lib.cut s [38]).2.1)
  else(Lib.cut s [38]).1
theorem qm(n:Int)(h:rightF n=true):Rune n:=by
 unfold rightF at h;simp only[P8,L8,L2,O6,decide_eq_false_iff_not]at h;rcases h with((h|h)|h)| ⟨h0,h1⟩
 ·exact⟨by omega,by omega⟩
 ·exact⟨by omega,by omega⟩
 ·exact⟨by omega,by omega⟩
 ·refine⟨by omega,Q4 fun hn=>h1 (qZ ?_)⟩;unfold fix Utf8.valid Utf8.runeError;rw[L1];simp;omega
theorem uC(n:Bs)(h:(signF n).2=true):Rune (signF n).1:=by
 have hc:∀k:Int,0≤k→k<55296→Rune k:=fun k a b=>⟨a,.inl b⟩
 unfold signF at*;by_cases c1:n=[97,109,112]
 ·rw[L7 c1];exact hc _ (by decide) (by decide)
 rw[L1 c1]at h ⊢;by_cases c2:n=[108,116]
 ·rw[L7 c2];exact hc _ (by decide) (by decide)
 rw[L1 c2]at h ⊢;by_cases c3:n=[103,116]
 ·rw[L7 c3];exact hc _ (by decide) (by decide)
 rw[L1 c3]at h ⊢;by_cases c4:n=[113,117,111,116]
 ·rw[L7 c4];exact hc _ (by decide) (by decide)
 rw[L1 c4]at h ⊢;by_cases c5:n=[97,112,111,115]
 ·rw[L7 c5];exact hc _ (by decide) (by decide)
 rw[L1 c5]at h ⊢;have key:∀m:Int,(if m<0 then((0:Int),false)else if rightF m=true then(m,true)else(65533,true)).2=true→Rune (if m<0 then((0:Int),false)else if rightF m=true then(m,true)else(65533,true)).1:=by
  intro m h;by_cases hm:m<0
  ·rw[L7 hm]at h;cases h
  ·rw[L1 hm];by_cases hr:rightF m=true
   ·rw[L7 hr];exact qm _ hr
   ·rw[L1 hr];exact⟨by decide,.inr ⟨by decide,by decide⟩⟩
 exact key _ h
variable {G}
theorem fu(hG:GOk G)(s0:Bs)(hs:s0.length≤1048576)(h:Heap):Sat (CT G) 215 [.str s0] h (fun x h'=>x=.str (readP (s0.length+1) s0)∧h'=h):=by
 refine sb [.tmp 2] Tryz.func215 ?_;intro Q hQ;refine af trivial ?_;refine lm (fun nL tL hL=>∃(a:AVal) (v f:Nat) (s out:Bs),f=nL∧bldH h [] a v out=hL∧tL 0=.str s∧bldA a h.length∧s.length<f∧out++readP f s=readP (s0.length+1) s0∧out.length+5*s.length≤5*s0.length) ((fun(a:AVal) (v f:Nat) (s out:Bs)=>(f:Nat)) ((.nil (.pointer none))) (0) ((s0.length+1)) (s0) ([])) ?_ ?_
 ·refine⟨_,_,Z1 (p:=h.length) (v:=0) 5 1 (by omega) (by simp(disch:=first|omega| (simp only[go_sem, ↓reduceIte,Nat.reduceEqDiff];done)|fail) only[go_sem, ↓reduceIte,Int.reduceToNat,Int.reduceLE,Int.reduceLT,Int.reduceSub,Int.reduceAdd,Nat.reduceEqDiff,Nat.reduceAdd,Nat.reduceLeDiff,Nat.reduceLT,Nat.reduceMul,Nat.reduceSub];rfl) 1 rfl,⟨(.nil (.pointer none)),0,(s0.length+1),s0,[],rfl,aw,?_,.inl rfl,by omega,rfl,by simp⟩⟩;all_goals first|exact az trivial|rfl|omega|trivial|skip
 rintro _ s2 h' ⟨a,v,f,s,out,rfl,rfl,e0,ha,hf,hv,hl⟩ K2 hK2;simp only[ak,am,Nat.reduceEqDiff, ↓reduceIte]at e0;have F:=e0;refine af F ?_;refine aF F (jb G hG s [38] (by omega) _) ?_;have hcl:(Lib.cut s [38]).1.length≤s.length:=by
  cases hq:(Lib.cut s [38]).2.2 with
  |true=>have:=bZ s [38] hq;omega
  |false=>rw[kW s [38] hq];exact M3 _
 refine aF F (bF G a h [] v out (Lib.cut s [38]).1 ha (by omega)) ?_;refine aC F (fun hc=>?_) (fun hc=>?_)<;>(try exact hc.elim)<;>(refine af F ?_)
 ·obtain⟨g,rfl⟩:∃g,f=g+1:=⟨f-1,by omega⟩;rw[readP,L1 (by simp[hc])]at hv;refine(eT G (.hp h.length 0 0 0) h [] (v+1) (out++(Lib.cut s [38]).1)).mono ?_;rintro r h' ⟨rfl,b2,rfl⟩;try refine ai F ?_
  refine af F ?_;refine au hQ F ?_;exact Y0 (j:=[bldR (.hp h.length 0 0 0) (h.length+1) (v+1) (out++(Lib.cut s [38]).1),b2]) (by simp) (.str _) ⟨N5 AVal.str hv,rfl⟩
 ·have hc':(Lib.cut s [38]).2.2=true:=by simpa using hc
  have hl2:=bZ s [38] hc';have hl4:(Lib.cut (Lib.cut s [38]).2.1 [59]).1.length≤(Lib.cut s [38]).2.1.length:=by
   cases hq:(Lib.cut (Lib.cut s [38]).2.1 [59]).2.2 with
   |true=>have:=bZ _ [59] hq;omega
   |false=>rw[kW _ [59] hq];exact M3 _
  obtain⟨g,rfl⟩:∃g,f=g+1:=⟨f-1,by omega⟩;rw[readP,L7 hc']at hv;simp only[L6,M4]at hl2;refine aF F (jb G hG (Lib.cut s [38]).2.1 [59] (by omega) _) ?_;refine aF F (wK G (Lib.cut (Lib.cut s [38]).2.1 [59]).1 (by omega) _) ?_;(first|refine bn F (fun g1=>?_) (fun g1=>?_)|refine bp F (fun g1=>?_) (fun g1=>?_))<;>(try exact g1.elim)<;>(try refine ai F ?_)<;>(refine af F ?_)
  ·(first|refine bn F (fun g2=>?_) (fun g2=>?_)|refine bp F (fun g2=>?_) (fun g2=>?_))<;>(try exact g2.elim)<;>(try refine ai F ?_)<;>(refine af F ?_)
   ·refine aC F (fun g3=>?_) (fun g3=>?_)<;>(try exact g3.elim)<;>(refine af F ?_)
    ·rw[L7 (by simp[g1,g3];omega)]at hv;have hl3:=bZ _ [59] g1;simp only[L6,M4]at hl3;have he:=dH (signF (Lib.cut (Lib.cut s [38]).2.1 [59]).1).1;refine aF F (cY G (.hp h.length 0 0 0) (signF (Lib.cut (Lib.cut s [38]).2.1 [59]).1).1 (uC _ g3) h [] (v+1) (out++(Lib.cut s [38]).1) (.inr rfl) (by simp only[L4];omega)) ?_;refine hK2 _ _ _ (M5 ⟨(.hp h.length 0 0 0),v+1+1,g,(Lib.cut (Lib.cut s [38]).2.1 [59]).2.1,out++(Lib.cut s [38]).1++enc (signF (Lib.cut (Lib.cut s [38]).2.1 [59]).1).1,rfl,aw,?_,.inr rfl,by omega,by rw[← hv];simp,by simp only[L4];omega⟩) (by omega);all_goals first|exact az F|rfl|omega|trivial|skip
    ·rw[L1 (by simp[g3])]at hv;refine aF F (cj G (.hp h.length 0 0 0) h [] (v+1) (out++(Lib.cut s [38]).1) 38 (.inr rfl) (by simp only[L4];omega)) ?_;refine hK2 _ _ _ (M5 ⟨(.hp h.length 0 0 0),v+1+1,g,(Lib.cut s [38]).2.1,out++(Lib.cut s [38]).1++[38],rfl,aw,?_,.inr rfl,by omega,by rw[← hv];simp,by simp only[L4,L6,M4];omega⟩) (by omega);all_goals first|exact az F|rfl|omega|trivial|skip
   ·rw[L1 (by simp[show ¬(Lib.cut (Lib.cut s [38]).2.1 [59]).1.length≤10 by omega])]at hv;refine aF F (cj G (.hp h.length 0 0 0) h [] (v+1) (out++(Lib.cut s [38]).1) 38 (.inr rfl) (by simp only[L4];omega)) ?_;refine hK2 _ _ _ (M5 ⟨(.hp h.length 0 0 0),v+1+1,g,(Lib.cut s [38]).2.1,out++(Lib.cut s [38]).1++[38],rfl,aw,?_,.inr rfl,by omega,by rw[← hv];simp,by simp only[L4,L6,M4];omega⟩) (by omega);all_goals first|exact az F|rfl|omega|trivial|skip
  ·rw[L1 (by simp[g1])]at hv;refine aF F (cj G (.hp h.length 0 0 0) h [] (v+1) (out++(Lib.cut s [38]).1) 38 (.inr rfl) (by simp only[L4];omega)) ?_;refine hK2 _ _ _ (M5 ⟨(.hp h.length 0 0 0),v+1+1,g,(Lib.cut s [38]).2.1,out++(Lib.cut s [38]).1++[38],rfl,aw,?_,.inr rfl,by omega,by rw[← hv];simp,by simp only[L4,L6,M4];omega⟩) (by omega);all_goals first|exact az F|rfl|omega|trivial|skip
end Go.Av
namespace Go.Av
open Go Go.Proofs Go.RowKit
attribute [local irreducible] WP WPl WPix Sat
variable (G:Nat→Option (List AVal))
def rdrR(s:Bs)(b:Bool):Blk:=.row 218 2 0 [.agg [.str s,.bool b]]
def rdH(h j:Heap)(s:Bs)(b:Bool):Heap:=h++rdrR s b::j
theorem dc(h j:Heap)(s:Bs)(b:Bool):(rdH h j s b).length=h.length+(1+j.length):=by simp[rdH];omega
theorem AV(n:Nat)(s:Bs)(b:Bool):CloB n (rdrR s b):=by
 intro r hr;simp only[S7]at hr;subst hr;exact .agg _ (by intro c hc;simp at hc;rcases hc with rfl|rfl;exact .str _;exact .bool _)
theorem r9(h j:Heap)(s s0:Bs)(b b0:Bool)(n:Nat):∀(p:Nat) (k:Blk),(rdH h j s b)[p]? =some k→(rdH h j s0 b0)[p]? =some k∨CloB n k:=by
 intro p k hk;unfold rdH at*;rcases T3 p h.length with h1|h1
 ·rw[L5 h1]at hk ⊢;exact .inl hk
 ·rw[L9 h1]at hk ⊢
  match p-h.length,hk with
  |0,hk=>simp at hk;subst hk;exact .inr (AV _ _ _)
  |i+1,hk=>exact .inl hk
theorem cF(h j jj:Heap)(s s0:Bs)(b b0:Bool){h2:Heap}{x:AVal}(hh:h2=rdH h j s b++jj)(hx:∀n,Clo n x):Fin (rdH h j s0 b0) h2 (fun r h'=>r=x∧h'=rdH h j s b) x:=
 Fin.keepE (h1:=rdH h j s b) hh (by simp only[dc]) (fun p k hk=>r9 _ _ _ _ _ _ _ p k hk) (hx _) ⟨rfl,rfl⟩
@[go_sem] theorem EZ(s:Bs)(b:Bool)(l:Heap):getRow (rdrR s b::l) 0 0=some (218,2,[.agg [.str s,.bool b]]):=rfl
@[go_sem] theorem Da(h j:Heap)(s:Bs)(b:Bool):getRow (rdH h j s b) h.length 0=some (218,2,[.agg [.str s,.bool b]]):=by simp[rdH,getRow,rdrR]
@[go_sem] theorem BS(h j jj:Heap)(s:Bs)(b:Bool):getRow (rdH h j s b++jj) h.length 0=some (218,2,[.agg [.str s,.bool b]]):=by simp[rdH,getRow,rdrR]
@[go_sem] theorem Js(h j:Heap)(s s':Bs)(b b':Bool):List.set (rdH h j s b) h.length (.row 218 2 0 [.agg [.str s',.bool b']])=rdH h j s' b':=by simp[rdH,rdrR]
@[go_sem] theorem Hb(h j jj:Heap)(s s':Bs)(b b':Bool):List.set (rdH h j s b++jj) h.length (.row 218 2 0 [.agg [.str s',.bool b']])=rdH h j s' b'++jj:=by simp[rdH,rdrR]
theorem bS(w s:Bs)(b:Bool)(h j:Heap):Sat (CT G) 209 [.hp h.length 0 0 0,.str w] (rdH h j s b)
  (fun r h'=>r=.bool (Lib.hasPrefix s w)∧h'=rdH h j (Lib.trimPrefix s w) b):=by
 have end_:=cF h j [] (Lib.trimPrefix s w) s b b (x:=.bool (Lib.hasPrefix s w)) (N3 _).symm (fun _=>.bool _);refine sb [.tmp 4] Tryz.func209 ?_;intro Q hQ;refine af trivial ?_;refine aF trivial (cX G s w _) ?_;refine au hQ trivial ?_;exact end_
theorem jW(w s:Bs)(b:Bool)(h j:Heap):Sat (CT G) 242 [.hp h.length 0 0 0,.str w] (rdH h j s b)
  (fun r h'=>r=.tup []∧h'=rdH h j (Lib.trimPrefix s w) (b|| !Lib.hasPrefix s w)):=by
 have end_:=fun b1=>cF h j [] (Lib.trimPrefix s w) s b1 b (x:=.tup []) (N3 _).symm (fun _=>.tup _ (by simp))
 refine sb [] Tryz.func242 ?_;intro Q hQ;refine af trivial ?_;refine aF trivial (bS G w s b h j) ?_;refine aC trivial (fun hc=>?_) (fun hc=>?_)<;>(try exact hc.elim)<;>(refine af trivial ?_)
 ·refine au hQ trivial ?_;simp only[hc,Bool.not_false,Bool.or_true];exact end_ _
 ·refine au hQ trivial ?_;simp only[hc,V5,W8];exact end_ _
def uptoF(w s:Bs)(b:Bool):Bs×Bs×Bool:=if (Lib.cut s w).2.2=true then((Lib.cut s w).1,(Lib.cut s w).2.1,b)else([],s,true)
theorem dL(hG:GOk G)(w s:Bs)(b:Bool)(hs:s.length≤1073741824)(h j:Heap):Sat (CT G) 210 [.hp h.length 0 0 0,.str w] (rdH h j s b)
  (fun r h'=>r=.str (uptoF w s b).1∧h'=rdH h j (uptoF w s b).2.1 (uptoF w s b).2.2):=by
 refine sb [.tmp 4] Tryz.func210 ?_;intro Q hQ;refine af trivial ?_;refine aF trivial (jb G hG s w hs _) ?_;refine aC trivial (fun hc=>?_) (fun hc=>?_)<;>(try exact hc.elim)<;>(refine af trivial ?_)
 ·have e:uptoF w s b=([],s,true):=by unfold uptoF;rw[L1 (by simp[hc])]
  refine au hQ trivial ?_;rw[e];exact cF h j [] s s true b (x:=.str []) (N3 _).symm (fun _=>.str _)
 ·have e:uptoF w s b=((Lib.cut s w).1,(Lib.cut s w).2.1,b):=by unfold uptoF;rw[L7 (by simpa using hc)]
  refine au hQ trivial ?_;rw[e];exact cF h j [] (Lib.cut s w).2.1 s b b (x:=.str (Lib.cut s w).1) (N3 _).symm (fun _=>.str _)
structure ByByte (P:Int→Bool) (q:UInt8→Bool) (hi:Bool):Prop where
 low:∀b:UInt8,b.toNat<128→P b.toNat=q b
 high:∀c:Int,128≤c→Rune c→P c=hi
 bytes:∀b:UInt8,128≤b.toNat→q b=hi
theorem sP(q:UInt8→Bool):∀(s:Bs) (k:Nat),(∀i,i<k→∀c,s[i]? =some c→q c=true)→k≤s.length→(k=s.length∨∃c,s[k]? =some c∧q c=false)→
  s.takeWhile q=s.take k∧s.dropWhile q=s.drop k:=by
 intro s;induction s with
 |nil=>intro k _ hk _;simp at hk;subst hk;simp
 |cons a t ih=>
  intro k h hk he;cases k with
  |zero=>
   rcases he with he| ⟨c,hc,hq⟩
   ·simp at he
   ·simp at hc;subst hc;simp[hq]
  |succ k=>
   have ha:q a=true:=h 0 (by omega) a rfl;have:=ih k (fun i hi c hc=>h (i+1) (by omega) c (by simpa using hc)) (by simpa using hk) (by
    rcases he with he| ⟨c,hc,hq⟩
    ·exact .inl (by simpa using he)
    ·exact .inr ⟨c,by simpa using hc,hq⟩)
   simp[List.takeWhile,List.dropWhile,ha,this]
theorem lT(P:Int→Bool)(q:UInt8→Bool)(hi:Bool)(hP:ByByte P q hi)(g:FuncId)(s:Bs)(b:Bool)(hs:s.length≤1073741824)(h j:Heap)
  (hg:∀(c:Int) (k:Heap),Rune c→Sat (CT G) g [.int .i32 c] k (fun r h'=>r=.bool (P c)∧h'=k)):
  Sat (CT G) 216 [.hp h.length 0 0 0,.fn (.func g) [] []] (rdH h j s b)
   (fun r h'=>r=.str (s.takeWhile q)∧h'=rdH h j (s.dropWhile q) b):=by
 refine sb [.tmp 4] Tryz.func216 ?_;intro Q hQ;(repeat (first|refine w1 (fun K hK=>?_)|refine w2 ?_|refine w3 ?_| ((first|refine w4 ?_|refine wD ?_|refine w5 ?_|refine w6 ?_|refine w7 ?_);try refine ai trivial ?_)| (refine w8 ?_;refine ai trivial ?_;refine w9 ?_)| ((first|refine hK _ _ (w0 ?_)| (clear hK K;refine hK _ _ (w0 ?_))| (clear hK K;clear hK K;refine hK _ _ (w0 ?_)));clear hK K)))
 have tail:∀(t':Env) (k pos:Nat),t' 0=.hp h.length 0 0 0→t' 5=.int .i64 k→k≤s.length→s.takeWhile q=s.take k→s.dropWhile q=s.drop k→K t' (rdH h j s b++[.iter s pos]):=by
  intro t' k pos e0 e5 hk h1 h2;refine hK _ _ (M5 ?_);clear hK K;have F:=F2 e0 e5;(repeat (first|refine w1 (fun K hK=>?_)|refine w2 ?_|refine w3 ?_| ((first|refine w4 ?_|refine wD ?_|refine w5 ?_|refine w6 ?_|refine w7 ?_);try refine ai F ?_)| (refine w8 ?_;refine ai F ?_;refine w9 ?_)| ((first|refine hK _ _ (w0 ?_)| (clear hK K;refine hK _ _ (w0 ?_))| (clear hK K;clear hK K;refine hK _ _ (w0 ?_)));clear hK K)))
  rw[h1,h2]at hQ;refine au hQ F ?_;exact cF h j [.iter s pos] (s.drop k) s b b (x:=.str (s.take k)) rfl (fun _=>.str _)
 refine lm (fun nL tL hL=>∃(k:Nat),s.length-k=nL∧rdH h j s b++[.iter s k]=hL∧tL 5=.int .i64 s.length∧k≤s.length∧∀i,i<k→∀c,s[i]? =some c→q c=true) ((fun(k:Nat)=>(s.length-k:Nat)) (0)) ?_ ?_
 ·refine M5 ⟨0,rfl,aw,?_,by omega,fun i hi=>by omega⟩;all_goals first|exact az trivial|rfl|omega|trivial|skip
 rintro _ s2 h' ⟨k,rfl,rfl,e5,hk,hq⟩ K2 hK2;simp only[ak,am,Nat.reduceEqDiff, ↓reduceIte]at e5;have F:=e5;(repeat (first|refine w1 (fun K hK=>?_)|refine w2 ?_|refine w3 ?_| ((first|refine w4 ?_|refine wD ?_|refine w5 ?_|refine w6 ?_|refine w7 ?_);try refine ai F ?_)| (refine w8 ?_;refine ai F ?_;refine w9 ?_)| ((first|refine hK _ _ (w0 ?_)| (clear hK K;refine hK _ _ (w0 ?_))| (clear hK K;clear hK K;refine hK _ _ (w0 ?_)));clear hK K)))
 refine cg (dI _ _ _ _) (fun hlt=>?_) (fun hge=>?_)
 ·have hb:=L3 hlt;by_cases ha:s[k].toNat<128
  ·have hd:Utf8.decode ⟨s.toArray⟩ k=(s[k].toNat,1):=fO s k _ hb ha;have hPq:=hP.low s[k] ha;rw[hd];(try refine ai F ?_);(repeat (first|refine w1 (fun K hK=>?_)|refine w2 ?_|refine w3 ?_| ((first|refine w4 ?_|refine wD ?_|refine w5 ?_|refine w6 ?_|refine w7 ?_);try refine ai F ?_)| (refine w8 ?_;refine ai F ?_;refine w9 ?_)| ((first|refine hK _ _ (w0 ?_)| (clear hK K;refine hK _ _ (w0 ?_))| (clear hK K;clear hK K;refine hK _ _ (w0 ?_)));clear hK K)))
   refine(hg s[k].toNat _ ⟨by omega,by omega⟩).mono ?_;rintro r h' ⟨rfl,rfl⟩;(try refine ai F ?_);(repeat (first|refine w1 (fun K hK=>?_)|refine w2 ?_|refine w3 ?_| ((first|refine w4 ?_|refine wD ?_|refine w5 ?_|refine w6 ?_|refine w7 ?_);try refine ai F ?_)| (refine w8 ?_;refine ai F ?_;refine w9 ?_)| ((first|refine hK _ _ (w0 ?_)| (clear hK K;refine hK _ _ (w0 ?_))| (clear hK K;clear hK K;refine hK _ _ (w0 ?_)));clear hK K)))
   refine aC F (fun hc=>?_) (fun hc=>?_)<;>(try exact hc.elim)<;>((repeat (first|refine w1 (fun K hK=>?_)|refine w2 ?_|refine w3 ?_| ((first|refine w4 ?_|refine wD ?_|refine w5 ?_|refine w6 ?_|refine w7 ?_);try refine ai F ?_)| (refine w8 ?_;refine ai F ?_;refine w9 ?_)| ((first|refine hK _ _ (w0 ?_)| (clear hK K;refine hK _ _ (w0 ?_))| (clear hK K;clear hK K;refine hK _ _ (w0 ?_)));clear hK K))))
   ·have hqf:q s[k]=false:=(by rw[← hPq];exact hc);obtain⟨h1,h2⟩:=sP q s k hq hk (.inr ⟨_,hb,hqf⟩);refine tail _ k _ ?_ ?_ hk h1 h2
    ·exact az F
    ·exact az F
   ·have hqt:q s[k]=true:=(by rw[← hPq];exact hc);have hq1:∀i,i<k+1→∀c,s[i]? =some c→q c=true:=fun i hi c hc2=>by
     rcases T3 i k with h1|h1
     ·exact hq i h1 c hc2
     ·obtain rfl:i=k:=by omega
      rw[hb]at hc2;cases hc2;exact hqt
    refine hK2 _ _ _ (M5 ⟨k+1,rfl,aw,?_,by omega,hq1⟩) (by omega);all_goals first|exact az F|rfl|omega|trivial|skip
  ·obtain⟨hd1,hd2,hd3⟩:=jR s k _ hb (by omega);obtain⟨hd4,hd5⟩:=aR s k hlt;have hR:Rune (dec s k).1:=⟨by omega,by omega⟩
   have hPq:=hP.high (dec s k).1 (by omega) hR;unfold dec at*;(try refine ai F ?_);(repeat (first|refine w1 (fun K hK=>?_)|refine w2 ?_|refine w3 ?_| ((first|refine w4 ?_|refine wD ?_|refine w5 ?_|refine w6 ?_|refine w7 ?_);try refine ai F ?_)| (refine w8 ?_;refine ai F ?_;refine w9 ?_)| ((first|refine hK _ _ (w0 ?_)| (clear hK K;refine hK _ _ (w0 ?_))| (clear hK K;clear hK K;refine hK _ _ (w0 ?_)));clear hK K)))
   refine(hg (Utf8.decode ⟨s.toArray⟩ k).1 _ hR).mono ?_;rintro r h' ⟨rfl,rfl⟩;(try refine ai F ?_);(repeat (first|refine w1 (fun K hK=>?_)|refine w2 ?_|refine w3 ?_| ((first|refine w4 ?_|refine wD ?_|refine w5 ?_|refine w6 ?_|refine w7 ?_);try refine ai F ?_)| (refine w8 ?_;refine ai F ?_;refine w9 ?_)| ((first|refine hK _ _ (w0 ?_)| (clear hK K;refine hK _ _ (w0 ?_))| (clear hK K;clear hK K;refine hK _ _ (w0 ?_)));clear hK K)))
   refine aC F (fun hc=>?_) (fun hc=>?_)<;>(try exact hc.elim)<;>((repeat (first|refine w1 (fun K hK=>?_)|refine w2 ?_|refine w3 ?_| ((first|refine w4 ?_|refine wD ?_|refine w5 ?_|refine w6 ?_|refine w7 ?_);try refine ai F ?_)| (refine w8 ?_;refine ai F ?_;refine w9 ?_)| ((first|refine hK _ _ (w0 ?_)| (clear hK K;refine hK _ _ (w0 ?_))| (clear hK K;clear hK K;refine hK _ _ (w0 ?_)));clear hK K))))
   ·have hqf:q s[k]=false:=(by rw[hP.bytes _ (by omega), ← hPq];exact hc);obtain⟨h1,h2⟩:=sP q s k hq hk (.inr ⟨_,hb,hqf⟩);refine tail _ k _ ?_ ?_ hk h1 h2
    ·exact az F
    ·exact az F
   ·have hit:hi=true:=(by rw[← hPq];exact hc);have hq1:∀i,i<k+(Utf8.decode ⟨s.toArray⟩ k).2→∀c,s[i]? =some c→q c=true:=fun i hi2 c hc2=>by
     rcases T3 i k with h1|h1
     ·exact hq i h1 c hc2
     ·rw[hP.bytes c (hd3 (i-k) (by omega) c (by rw[show k+(i-k)=i by omega];exact hc2)),hit]
    refine hK2 _ _ _ (M5 ⟨k+(Utf8.decode ⟨s.toArray⟩ k).2,rfl,aw,?_,by omega,hq1⟩) (by omega);all_goals first|exact az F|rfl|omega|trivial|skip
 ·obtain⟨h1,h2⟩:=sP q s s.length (fun i hi=>hq i (by omega)) (M3 _) (.inl rfl);try refine ai F ?_
  (repeat (first|refine w1 (fun K hK=>?_)|refine w2 ?_|refine w3 ?_| ((first|refine w4 ?_|refine wD ?_|refine w5 ?_|refine w6 ?_|refine w7 ?_);try refine ai F ?_)| (refine w8 ?_;refine ai F ?_;refine w9 ?_)| ((first|refine hK _ _ (w0 ?_)| (clear hK K;refine hK _ _ (w0 ?_))| (clear hK K;clear hK K;refine hK _ _ (w0 ?_)));clear hK K)))
  refine tail _ s.length _ ?_ ?_ (M3 _) h1 h2
  ·exact az F
  ·exact az F
def beginF(c:Int):Bool:=decide (65≤c∧c≤90∨97≤c∧c≤122∨c=95)
def moreF(c:Int):Bool:=decide (65≤c∧c≤90∨97≤c∧c≤122∨c=95∨48≤c∧c≤57∨c=58∨c=45∨c=46)
theorem hU(c:Int)(h:Heap):Sat (CT G) 260 [.int .i32 c] h (fun r h'=>r=.bool (beginF c)∧h'=h):=by
 refine sb [.tmp 2] Tryz.func260 ?_;intro Q hQ;refine af trivial ?_;(first|refine bn trivial (fun g1=>?_) (fun g1=>?_)|refine bp trivial (fun g1=>?_) (fun g1=>?_))<;>(try exact g1.elim)<;>(try refine ai trivial ?_)<;>(refine af trivial ?_)
 all_goals try ((first|refine bn trivial (fun g2=>?_) (fun g2=>?_)|refine bp trivial (fun g2=>?_) (fun g2=>?_))<;>(try exact g2.elim)<;>(try refine ai trivial ?_)<;>(refine af trivial ?_))
 all_goals try ((first|refine bn trivial (fun g3=>?_) (fun g3=>?_)|refine bp trivial (fun g3=>?_) (fun g3=>?_))<;>(try exact g3.elim)<;>(try refine ai trivial ?_)<;>(refine af trivial ?_))
 all_goals try ((first|refine bn trivial (fun g4=>?_) (fun g4=>?_)|refine bp trivial (fun g4=>?_) (fun g4=>?_))<;>(try exact g4.elim)<;>(try refine ai trivial ?_)<;>(refine af trivial ?_))
 all_goals try ((first|refine bn trivial (fun g5=>?_) (fun g5=>?_)|refine bp trivial (fun g5=>?_) (fun g5=>?_))<;>(try exact g5.elim)<;>(try refine ai trivial ?_)<;>(refine af trivial ?_))
 all_goals try (exfalso;omega)
 all_goals
  refine au hQ trivial ?_;refine fR (.bool _) ?_;unfold beginF;congr 1
  rw[R5];simp only[L8,beq_iff_eq,true_iff,N9,false_iff];omega
theorem oL(c:Int)(h:Heap):Sat (CT G) 259 [.int .i32 c] h (fun r h'=>r=.bool (moreF c)∧h'=h):=by
 refine sb [.tmp 2] Tryz.func259 ?_;intro Q hQ;refine af trivial ?_;refine aF trivial (hU G c _) ?_;(first|refine bn trivial (fun g1=>?_) (fun g1=>?_)|refine bp trivial (fun g1=>?_) (fun g1=>?_))<;>(try exact g1.elim)<;>(try refine ai trivial ?_)<;>(refine af trivial ?_)
 all_goals try ((first|refine bn trivial (fun g2=>?_) (fun g2=>?_)|refine bp trivial (fun g2=>?_) (fun g2=>?_))<;>(try exact g2.elim)<;>(try refine ai trivial ?_)<;>(refine af trivial ?_))
 all_goals try ((first|refine bn trivial (fun g3=>?_) (fun g3=>?_)|refine bp trivial (fun g3=>?_) (fun g3=>?_))<;>(try exact g3.elim)<;>(try refine ai trivial ?_)<;>(refine af trivial ?_))
 all_goals try ((first|refine bn trivial (fun g4=>?_) (fun g4=>?_)|refine bp trivial (fun g4=>?_) (fun g4=>?_))<;>(try exact g4.elim)<;>(try refine ai trivial ?_)<;>(refine af trivial ?_))
 all_goals try ((first|refine bn trivial (fun g5=>?_) (fun g5=>?_)|refine bp trivial (fun g5=>?_) (fun g5=>?_))<;>(try exact g5.elim)<;>(try refine ai trivial ?_)<;>(refine af trivial ?_))
 all_goals try ((first|refine bn trivial (fun g6=>?_) (fun g6=>?_)|refine bp trivial (fun g6=>?_) (fun g6=>?_))<;>(try exact g6.elim)<;>(try refine ai trivial ?_)<;>(refine af trivial ?_))
 all_goals try ((first|refine bn trivial (fun g7=>?_) (fun g7=>?_)|refine bp trivial (fun g7=>?_) (fun g7=>?_))<;>(try exact g7.elim)<;>(try refine ai trivial ?_)<;>(refine af trivial ?_))
 all_goals try simp only[beginF,L8,decide_eq_false_iff_not]at g1
 all_goals try (exfalso;omega)
 all_goals
  refine au hQ trivial ?_;refine fR (.bool _) ?_;unfold moreF;try unfold beginF
  congr 1
  rw[R5];simp only[L8,beq_iff_eq,true_iff,N9,false_iff];omega
end Go.Av

namespace Go.Av
open Go Go.Proofs Go.RowKit
attribute [local irreducible] WP WPl WPix Sat
variable (G:Nat→Option (List AVal))
theorem eI(r:Int)(hr:Rune r)(h:Heap):Sat (CT G) 291 [.int .i32 r] h (fun x h'=>x=.bool true∧h'=h):=by
 obtain⟨h0,h1⟩:=hr;refine sb [.tmp 2] Tryz.func291 ?_;intro Q hQ;refine af trivial ?_;(first|refine bn trivial (fun g1=>?_) (fun g1=>?_)|refine bp trivial (fun g1=>?_) (fun g1=>?_))<;>(try exact g1.elim)<;>(try refine ai trivial ?_)<;>(refine af trivial ?_)
 ·refine aC trivial (fun c1=>?_) (fun c1=>?_)<;>(try exact c1.elim)<;>(refine af trivial ?_)
  ·refine au hQ trivial ?_;refine fR (.bool _) ?_;rfl
  ·(first|refine bn trivial (fun g2=>?_) (fun g2=>?_)|refine bp trivial (fun g2=>?_) (fun g2=>?_))<;>(try exact g2.elim)<;>(try refine ai trivial ?_)<;>(refine af trivial ?_)
   ·refine aC trivial (fun c2=>?_) (fun c2=>?_)<;>(try exact c2.elim)<;>(refine af trivial ?_)
    ·refine au hQ trivial ?_;refine fR (.bool _) ?_;rfl
    ·exfalso;omega
   ·exfalso;omega
 ·exfalso;omega
theorem uD(r:Int)(hr:Rune r)(h1:128≤r):∃b:UInt8,128≤b.toNat∧((∃a,enc r=[a,b])∨(∃a c,enc r=[a,c,b])∨(∃a c d,enc r=[a,c,d,b])):=by
 have hf:fix r=r.toNat:=by unfold fix;rw[L7 hr.valid]
 rw[gx,hf];simp only[];have hlt:∀n,(128≤n∧n<256)→128≤(UInt8.ofNat n).toNat:=fun n h=>by rw[ax n h.2];exact h.1
 rw[L1 (by omega)];by_cases h2:r.toNat<2048
 ·rw[L7 h2];exact⟨_,hlt (128+r.toNat%64) (by omega),.inl ⟨_,rfl⟩⟩
 ·rw[L1 h2];by_cases h3:r.toNat<65536
  ·rw[L7 h3];exact⟨_,hlt (128+r.toNat%64) (by omega),.inr (.inl ⟨_,_,rfl⟩)⟩
  ·rw[L1 h3];exact⟨_,hlt (128+r.toNat%64) (by omega),.inr (.inr ⟨_,_,_,rfl⟩)⟩
theorem cQ(b:UInt8)(hb:128≤b.toNat):∀l:Bs,(∀c∈l,c.toNat<128)→Lib.indexByte l b= -1
 | [],_=>rfl
 |c::l,h=>by
  have h1:=h c (by simp);have hne:¬c=b:=fun e=>by subst e;omega
  have ih:=cQ b hb l fun x hx=>h x (by simp[hx])
  rw[Lib.indexByte,L1 (by simpa using hne),ih];rfl
def blk4:Bs:=[32,9,13,10]
theorem lU(r:Int)(hr:Rune r)(h1:128≤r)(h:Heap):Sat (CT G) 279 [.str blk4,.int .i32 r] h (fun x h'=>x=.int .i64 (-1)∧h'=h):=by
 refine sb [.tmp 4] Tryz.func279 ?_;intro Q hQ;refine af trivial ?_;have hr':=hr;obtain⟨h2,h3⟩:=hr;(first|refine bn trivial (fun g1=>?_) (fun g1=>?_)|refine bp trivial (fun g1=>?_) (fun g1=>?_))<;>(try exact g1.elim)<;>(try refine ai trivial ?_)<;>(refine af trivial ?_)
 ·refine aC trivial (fun c1=>?_) (fun c1=>?_)<;>(try exact c1.elim)<;>(refine af trivial ?_)
  ·exfalso;omega
  ·refine aC trivial (fun c2=>?_) (fun c2=>?_)<;>(try exact c2.elim)<;>(refine af trivial ?_)
   ·refine lm (fun nL tL hL=>∃(k:Nat),4-k=nL∧h++[.iter blk4 k]=hL∧k≤4) ((fun(k:Nat)=>(4-k:Nat)) (0)) ?_ ?_
    ·refine M5 ⟨0,rfl,aw,by omega⟩;all_goals first|exact az trivial|rfl|omega|trivial|skip
    rintro _ s2 h' ⟨k,rfl,rfl,hk⟩ K2 hK2;refine af trivial ?_;refine cg (dI _ _ _ _) (fun hlt=>?_) (fun hge=>?_)
    ·have hd:Utf8.decode ⟨blk4.toArray⟩ k=(blk4[k].toNat,1):=fO blk4 k _ (L3 hlt) (by
      have:∀b∈blk4,b.toNat<128:=by decide
      exact this _ (Z4 hlt))
     have hb:blk4[k].toNat<128:=by
      have:∀b∈blk4,b.toNat<128:=by decide
      exact this _ (Z4 hlt)
     have hl4:blk4.length=4:=rfl;rw[hd];(try refine ai trivial ?_);refine af trivial ?_;refine aC trivial (fun c3=>?_) (fun c3=>?_)<;>(try exact c3.elim)<;>(refine af trivial ?_)
     ·exfalso;omega
     ·refine hK2 _ _ _ (M5 ⟨k+1,rfl,aw,by omega⟩) (by omega);all_goals first|exact az trivial|rfl|omega|trivial|skip
    ·(try refine ai trivial ?_);refine af trivial ?_;refine au hQ trivial ?_;refine fR (.int _ _) ?_;rfl
   ·obtain⟨b,hb,he⟩:=uD r hr' h1;rcases he with⟨a,he⟩| ⟨a,c,he⟩| ⟨a,c,d,he⟩
    ·have F:=F5 @eU he @V5 @Int.cast_ofNat_Int @Int.toNat_one;refine aF F (eI G r hr' _) ?_;refine lm (fun nL tL hL=>0=nL∧h=hL∧tL 9=.int .i64 1) (0) ?_ ?_
     ·refine M5 ⟨rfl,aw,?_⟩;all_goals first|exact az F|rfl|omega|trivial|skip
     rintro _ s3 h' ⟨rfl,rfl,e9⟩ K3 hK3;simp only[ak,am,Nat.reduceEqDiff, ↓reduceIte]at e9;have F:=F2 F e9;have hl4:blk4.length=4:=rfl;have hb1:blk4[1]? =some 9:=rfl;have hab:([a,b]:Bs)[1]? =some b:=rfl;have hib:Lib.indexByte (blk4.drop 2) b= -1:=cQ b hb _ (by decide);have h9:(9:UInt8).toNat=9:=rfl;have F:=F4 F hb1 hab hib;refine af F ?_;refine aC F (fun c4=>?_) (fun c4=>?_)<;>(try exact c4.elim)<;>(refine af F ?_)
     ·refine aC F (fun c5=>?_) (fun c5=>?_)<;>(try exact c5.elim)<;>(refine af F ?_)
      ·refine aE (cw G (blk4.drop 2) b _) ?_;(try refine ai F ?_);refine af F ?_;refine aC F (fun c6=>?_) (fun c6=>?_)<;>(try exact c6.elim)<;>(refine af F ?_)
       ·refine au hQ F ?_;refine fR (.int _ _) ?_;rfl
       ·exact absurd c6 (by decide)
      ·exfalso;omega
     ·exfalso;omega
    ·have F:=F5 @eU he @V5 @Int.cast_ofNat_Int @Int.toNat_one;refine aF F (eI G r hr' _) ?_;refine lm (fun nL tL hL=>0=nL∧h=hL∧tL 9=.int .i64 2) (0) ?_ ?_
     ·refine M5 ⟨rfl,aw,?_⟩;all_goals first|exact az F|rfl|omega|trivial|skip
     rintro _ s3 h' ⟨rfl,rfl,e9⟩ K3 hK3;simp only[ak,am,Nat.reduceEqDiff, ↓reduceIte]at e9;have F:=F2 F e9;have hl4:blk4.length=4:=rfl;have hb1:blk4[2]? =some 13:=rfl;have hab:([a,c,b]:Bs)[2]? =some b:=rfl;have hib:Lib.indexByte (blk4.drop 3) b= -1:=cQ b hb _ (by decide);have h9:(13:UInt8).toNat=13:=rfl;have F:=F4 F hb1 hab hib;refine af F ?_;refine aC F (fun c4=>?_) (fun c4=>?_)<;>(try exact c4.elim)<;>(refine af F ?_)
     ·refine aC F (fun c5=>?_) (fun c5=>?_)<;>(try exact c5.elim)<;>(refine af F ?_)
      ·refine aE (cw G (blk4.drop 3) b _) ?_;(try refine ai F ?_);refine af F ?_;refine aC F (fun c6=>?_) (fun c6=>?_)<;>(try exact c6.elim)<;>(refine af F ?_)
       ·refine au hQ F ?_;refine fR (.int _ _) ?_;rfl
       ·exact absurd c6 (by decide)
      ·exfalso;omega
     ·exfalso;omega
    ·have F:=F5 @eU he @V5 @Int.cast_ofNat_Int @Int.toNat_one;refine aF F (eI G r hr' _) ?_;refine lm (fun nL tL hL=>0=nL∧h=hL∧tL 9=.int .i64 3) (0) ?_ ?_
     ·refine M5 ⟨rfl,aw,?_⟩;all_goals first|exact az F|rfl|omega|trivial|skip
     rintro _ s3 h' ⟨rfl,rfl,e9⟩ K3 hK3;simp only[ak,am,Nat.reduceEqDiff, ↓reduceIte]at e9;have F:=F2 F e9;have hl4:blk4.length=4:=rfl;have hb1:blk4[3]? =some 10:=rfl;have hab:([a,c,d,b]:Bs)[3]? =some b:=rfl;have hib:Lib.indexByte (blk4.drop 4) b= -1:=cQ b hb _ (by decide);have h9:(10:UInt8).toNat=10:=rfl;have F:=F4 F hb1 hab hib;refine af F ?_;refine aC F (fun c4=>?_) (fun c4=>?_)<;>(try exact c4.elim)<;>(refine af F ?_)
     ·refine aC F (fun c5=>?_) (fun c5=>?_)<;>(try exact c5.elim)<;>(refine af F ?_)
      ·refine aE (cw G (blk4.drop 4) b _) ?_;(try refine ai F ?_);refine af F ?_;refine aC F (fun c6=>?_) (fun c6=>?_)<;>(try exact c6.elim)<;>(refine af F ?_)
       ·refine au hQ F ?_;refine fR (.int _ _) ?_;rfl
       ·exact absurd c6 (by decide)
      ·exfalso;omega
     ·exfalso;omega
 ·exfalso;omega
theorem jr(r:Int)(hr:Rune r)(h1:128≤r)(h:Heap):Sat (CT G) 262 [.str blk4,.int .i32 r] h (fun x h'=>x=.bool false∧h'=h):=by
 refine sb [.tmp 4] Tryz.func262 ?_;intro Q hQ;refine af trivial ?_;refine aF trivial (lU G r hr h1 _) ?_;refine au hQ trivial ?_;refine fR (.bool _) ?_;rfl
end Go.Av
namespace Go.Av
open Go Go.Proofs Go.RowKit
attribute [local irreducible] WP WPl WPix Sat
variable (G:Nat→Option (List AVal))
def blankP(c:Int):Bool:=decide (c=32∨c=9∨c=13∨c=10)
def blankB(b:UInt8):Bool:=blankP b.toNat
def moreB(b:UInt8):Bool:=moreF b.toNat
theorem oM:∀x:_root_.Fin 128,decide (0≤Lib.indexByte blk4 x.val.toUInt8)=blankP x.val:=by decide+kernel
theorem sQ(c:Int)(hc:Rune c)(h:Heap):Sat (CT G) 261 [.int .i32 c] h (fun r h'=>r=.bool (blankP c)∧h'=h):=by
 have hR:=hc;obtain⟨h0,h1⟩:=hc;by_cases hlt:c<128
 ·have e:decide (0≤Lib.indexByte blk4 c.toNat.toUInt8)=blankP c:=by
   have:=oM ⟨c.toNat,by omega⟩;rw[show(c.toNat:Int)=c by omega]at this;exact this
  have hs:=eo G blk4 c h0 hlt h;rw[e]at hs;refine sb [.tmp 2] Tryz.func261 ?_;intro Q hQ;refine af trivial ?_;refine aF trivial (hs) ?_;refine au hQ trivial ?_;refine fR (.bool _) ?_;rfl
 ·have hs:=jr G c hR (by omega) h;have e:blankP c=false:=by unfold blankP;simp;omega
  refine sb [.tmp 2] Tryz.func261 ?_;intro Q hQ;refine af trivial ?_;refine aF trivial (hs) ?_;refine au hQ trivial ?_;refine fR (.bool _) ?_;rw[e]
theorem wO:ByByte blankP blankB false:=⟨fun _ _=>rfl,fun c hc _=>by unfold blankP;simp;omega,fun b hb=>by unfold blankB blankP;simp;omega⟩
theorem yU:ByByte moreF moreB false:=⟨fun _ _=>rfl,fun c hc _=>by unfold moreF;simp;omega,fun b hb=>by unfold moreB moreF;simp;omega⟩
theorem fS(s:Bs)(b:Bool)(hs:s.length≤1073741824)(h j:Heap):Sat (CT G) 241 [.hp h.length 0 0 0] (rdH h j s b)
  (fun r h'=>r=.bool (!(s.takeWhile blankB==[]))∧h'=rdH h j (s.dropWhile blankB) b):=by
 have end_:=cF h j [] (s.dropWhile blankB) s b b (x:=.bool (!(s.takeWhile blankB==[]))) (N3 _).symm (fun _=>.bool _);refine sb [.tmp 2] Tryz.func241 ?_;intro Q hQ;refine af trivial ?_;refine aF trivial (lT G blankP blankB false wO 261 s b hs h j (fun c k hc=>sQ G c hc k)) ?_;refine au hQ trivial ?_;exact end_
theorem wP(k:IntKind)(b:UInt8):aconv Tryz.prog 5 21 (.int k b.toNat)=some (.int .i32 b.toNat):=by
 have hw:IntKind.wrap .i32 (b.toNat:Int)=b.toNat:=by have:=b.toNat_lt;rw[IntKind.wrap_i32];omega
 simp only[aconv,go_sem,hw]
def badN(n:Bs):Bool:=match n with
 | []=>true
 |c::_=> !(beginF c.toNat)||decide (64<n.length)
def nameW(s:Bs):Bs:=s.takeWhile moreB
def nameR(s:Bs):Bs:=s.dropWhile moreB
theorem hZ(s:Bs)(b:Bool)(hs:s.length≤1073741824)(h j:Heap):Sat (CT G) 240 [.hp h.length 0 0 0] (rdH h j s b)
  (fun r h'=>r=.str (nameW s)∧h'=rdH h j (nameR s) (b||badN (nameW s))):=by
 have hl:(nameW s).length≤s.length:=(List.takeWhile_sublist _).length_le;have end_:=fun b1=>cF h j [] (nameR s) s b1 b (x:=.str (nameW s)) (N3 _).symm (fun _=>.str _)
 have hr:=lT G moreF moreB false yU 259 s b hs h j (fun c k _=>oL G c k)
 change Sat _ _ _ _ (fun r h'=>r=.str (nameW s)∧h'=rdH h j (nameR s) b)at hr
 cases hn:nameW s with
 |nil=>
  rw[hn]at hr end_;have hnn:(([]:Bs)==[])=true:=rfl;have F:=hnn;refine sb [.tmp 2] Tryz.func240 ?_;intro Q hQ;refine af F ?_;refine aF F (hr) ?_;refine au hQ F ?_;simp only[badN,Bool.or_true];exact end_ _
 |cons c t=>
  rw[hn]at hr end_ hl;have hg:(c::t)[0]? =some c:=rfl;have hw:IntKind.wrap .i32 c.toNat=c.toNat:=by have:=c.toNat_lt;rw[IntKind.wrap_i32];omega
  have hnn:((c::t)==([]:Bs))=false:=rfl;have hbd:badN (c::t)=(!(beginF c.toNat)||decide (64<(c::t).length)):=rfl;have F:=F3 hg @wP hnn;refine sb [.tmp 2] Tryz.func240 ?_;intro Q hQ;refine af F ?_;refine aF F (hr) ?_;refine aF F (hU G c.toNat _) ?_;(first|refine bn F (fun hb=>?_) (fun hb=>?_)|refine bp F (fun hb=>?_) (fun hb=>?_))<;>(try exact hb.elim)<;>(try refine ai F ?_)<;>(refine af F ?_)
  ·refine au hQ F ?_;have e:badN (c::t)=true:=(by rw[hbd];simp[hb]);rw[e,Bool.or_true]at*;exact end_ _
  ·refine aC F (fun hc=>?_) (fun hc=>?_)<;>(try exact hc.elim)<;>(refine af F ?_)
   ·refine au hQ F ?_;have e:badN (c::t)=true:=by
     rw[hbd];have:64<(c::t).length:=by simp only[L6];omega
     rw[P4 this,Bool.or_true]
    rw[e,Bool.or_true]at*;exact end_ _
   ·refine au hQ F ?_;have e:badN (c::t)=false:=by
     rw[hbd];have:¬64<(c::t).length:=by simp only[L6];omega
     rw[hb,Q1 this];rfl
    rw[e,W8]at*;exact end_ _
def valueF(s:Bs)(b:Bool):Bs×Bs×Bool:=
 let q:Bs:=if Lib.hasPrefix s [34]=true then [34]else [39]
 let s1:=Lib.trimPrefix s q
 let u:=uptoF q s1 (b|| !Lib.hasPrefix s q)
 (readP (u.1.length+1) u.1,u.2.1,u.2.2||Lib.contains u.1 [60])
theorem fU(w s:Bs)(b:Bool):(uptoF w s b).1.length≤s.length∧(uptoF w s b).2.1.length≤s.length:=by
 unfold uptoF;split
 ·rename_i h;have:=bZ s w h;exact⟨by simp only[];omega,by simp only[];omega⟩
 ·exact⟨by simp,by simp⟩
theorem aO(s w:Bs):(Lib.trimPrefix s w).length≤s.length:=by
 unfold Lib.trimPrefix;split
 ·simp
 ·exact M3 _
theorem uE(hG:GOk G)(s:Bs)(b:Bool)(hs:s.length≤1048576)(h j:Heap):Sat (CT G) 263 [.hp h.length 0 0 0] (rdH h j s b)
  (fun r h'=>r=.str (valueF s b).1∧h'=rdH h j (valueF s b).2.1 (valueF s b).2.2):=by
 cases hp:Lib.hasPrefix s [34]with
 |true=>
  have hl:=aO s [34];have hu:=fU [34] (Lib.trimPrefix s [34]) b;have hv:valueF s b=(readP ((uptoF [34] (Lib.trimPrefix s [34]) b).1.length+1) (uptoF [34] (Lib.trimPrefix s [34]) b).1,(uptoF [34] (Lib.trimPrefix s [34]) b).2.1,(uptoF [34] (Lib.trimPrefix s [34]) b).2.2||Lib.contains (uptoF [34] (Lib.trimPrefix s [34]) b).1 [60]):=by
   simp[valueF,hp]
  have hus:=dL G hG [34] (Lib.trimPrefix s [34]) b (by omega) h j;rw[hv];generalize uptoF [34] (Lib.trimPrefix s [34]) b=u at hu hus ⊢;have end_:=fun b1=>cF h j [] u.2.1 s b1 b (x:=.str (readP (u.1.length+1) u.1)) (N3 _).symm (fun _=>.str _)
  have ht:=bS G [34] s b h j;rw[hp]at ht;have F:= @V5;refine sb [.tmp 2] Tryz.func263 ?_;intro Q hQ;refine af F ?_;refine aF F (ht) ?_;refine aF F (hus) ?_;(first|refine bn F (fun g=>?_) (fun g=>?_)|refine bp F (fun g=>?_) (fun g=>?_))<;>(try exact g.elim)<;>(try refine ai F ?_)<;>(refine af F ?_)
  ·refine aF F (fu hG u.1 (by omega) _) ?_;refine au hQ F ?_;rw[g,T6]at*;exact end_ _
  ·refine aF F (du G hG u.1 [60] (by omega) _) ?_;refine aF F (fu hG u.1 (by omega) _) ?_;refine au hQ F ?_;rw[g,Y7]at*;exact end_ _
 |false=>
  have hl:=aO s [39];have hu:=fU [39] (Lib.trimPrefix s [39]) (b|| !Lib.hasPrefix s [39]);have hv:valueF s b=(readP ((uptoF [39] (Lib.trimPrefix s [39]) (b|| !Lib.hasPrefix s [39])).1.length+1) (uptoF [39] (Lib.trimPrefix s [39]) (b|| !Lib.hasPrefix s [39])).1,(uptoF [39] (Lib.trimPrefix s [39]) (b|| !Lib.hasPrefix s [39])).2.1,(uptoF [39] (Lib.trimPrefix s [39]) (b|| !Lib.hasPrefix s [39])).2.2||Lib.contains (uptoF [39] (Lib.trimPrefix s [39]) (b|| !Lib.hasPrefix s [39])).1 [60]):=by
   simp[valueF,hp]
  have hus:=dL G hG [39] (Lib.trimPrefix s [39]) (b|| !Lib.hasPrefix s [39]) (by omega) h j;rw[hv];generalize uptoF [39] (Lib.trimPrefix s [39]) (b|| !Lib.hasPrefix s [39])=u at hu hus ⊢;have end_:=fun b1=>cF h j [] u.2.1 s b1 b (x:=.str (readP (u.1.length+1) u.1)) (N3 _).symm (fun _=>.str _)
  have htp:Lib.trimPrefix s [34]=s:=by unfold Lib.trimPrefix;rw[L1 (by simp[hp])]
  have ht:=bS G [34] s b h j;rw[hp,htp]at ht;have F:= @Bool.not_false;refine sb [.tmp 2] Tryz.func263 ?_;intro Q hQ;refine af F ?_;refine aF F (ht) ?_;refine aF F (jW G [39] s b h j) ?_;refine aF F (hus) ?_;(first|refine bn F (fun g=>?_) (fun g=>?_)|refine bp F (fun g=>?_) (fun g=>?_))<;>(try exact g.elim)<;>(try refine ai F ?_)<;>(refine af F ?_)
  ·refine aF F (fu hG u.1 (by omega) _) ?_;refine au hQ F ?_;rw[g,T6]at*;exact end_ _
  ·refine aF F (du G hG u.1 [60] (by omega) _) ?_;refine aF F (fu hG u.1 (by omega) _) ?_;refine au hQ F ?_;rw[g,Y7]at*;exact end_ _
theorem uF(h:Heap)(n:Nat):Frz h n (.agg [.str [],.nil (.slice none 0 0),.str [],.nil (.slice none 0 0)]) (Elem.av ⟨[],[],[],[]⟩):=by
 rw[Elem.av_eq];refine .agg _ _ rfl (by simp[AVal.sto]) fun i c d hc hd=>?_
 match i with
 |0=>simp at hc hd;subst hc;subst hd;exact .clo _ (.str _)
 |1=>simp[Elem.attrs]at hc hd;subst hc;subst hd;exact .nils _
 |2=>simp at hc hd;subst hc;subst hd;exact .clo _ (.str _)
 |3=>simp[Elem.kids]at hc hd;subst hc;subst hd;exact .nils _
 |i+4=>simp at hc
def kidF(e:Elem)(n:Bs):Elem×Bool:=match kidsF e n with| []=>(⟨[],[],[],[]⟩,false)|k::_=>(k,true)
instance tokEq:DecidableEq Tok:=fun a b=>inferInstanceAs (Decidable ((a:Int×List UInt8×List (List UInt8×List UInt8)×List UInt8)=b))
theorem wU(h:Heap)(m:Nat)(k:Int)(n t:Bs):Frz h m (.agg [.int .i64 k,.str n,.nil (.slice none 0 0),.str t]) (Tok.av (k,n,[],t)):=by
 refine .agg _ _ rfl (by intro d hd;simp at hd;rcases hd with rfl|rfl|rfl|rfl<;>rfl) fun i c d hc hd=>?_
 match i with
 |0=>simp at hc hd;subst hc;subst hd;exact .clo _ (.int _ _)
 |1=>simp at hc hd;subst hc;subst hd;exact .clo _ (.str _)
 |2=>simp at hc hd;subst hc;subst hd;exact .nils _
 |3=>simp at hc hd;subst hc;subst hd;exact .clo _ (.str _)
 |i+4=>simp at hc
theorem mX{h0 h1 pre post:Heap}{e v q:Nat}(l:List Tok)(k:Int)(n t:Bs)(hh:h1=pre++ .row e 4 v (l.map Tok.av++[.agg [.int .i64 k,.str n,.nil (.slice none 0 0),.str t]])::post)(hq:q=pre.length)(hp:h0.length≤q):
  Frz h1 h0.length (.hs q v 0 (l.length+1) true) (.sl 4 ((l++[(k,n,[],t)]).map Tok.av)):=by
 subst hh;subst hq;have at_:∀(i:Nat) (r s:AVal),(l.map Tok.av++[AVal.agg [.int .i64 k,.str n,.nil (.slice none 0 0),.str t]])[i]? =some r→((l++[(k,n,[],t)]).map Tok.av)[i]? =some s→
   (∃a,r=Tok.av a∧s=r)∨(r=.agg [.int .i64 k,.str n,.nil (.slice none 0 0),.str t]∧s=Tok.av (k,n,[],t)):=by
  intro i r s hr hs;rw[Q7]at hs;rcases T5 i (l.map Tok.av).length with h1|h1|h1
  ·rw[L5 h1]at hr hs;rw[hr]at hs;cases hs;obtain⟨a,_,rfl⟩:=M7.1 (M0 hr);exact .inl ⟨a,rfl,rfl⟩
  ·subst h1;simp only[L9 (M3 _),Y4,N6,Q6,U8,N1]at hr hs;exact .inr ⟨hr.symm,hs.symm⟩
  ·rw[L9 (by omega),Q2 (by simp at h1 ⊢;omega)]at hr;cases hr
 have:=Frz.hs (h:=pre++ .row e 4 v (l.map Tok.av++[.agg [.int .i64 k,.str n,.nil (.slice none 0 0),.str t]])::post) (n:=h0.length) pre.length v 0 (l.length+1) true e 4 _ ((l++[(k,n,[],t)]).map Tok.av) hp (by simp[getRow];rfl) (by simp) (by simp)
   (fun i r s hr hs=>by rcases at_ i r s hr hs with⟨a,rfl,rfl⟩| ⟨rfl,rfl⟩;exact .clo _ (Tok.clo _ _);exact wU _ _ _ _ _)
   (fun i r s hr hs=>by
    rcases at_ i r s hr hs with⟨a,rfl,rfl⟩| ⟨rfl,rfl⟩
    ·exact⟨rfl,fun j c d _ hd=>Tok.av_sto _ d (M0 hd)⟩
    ·exact⟨rfl,fun j c d _ hd=>Tok.av_sto _ d (M0 hd)⟩)
   (fun i r s j c d hr hs hc hd=>by
    rcases at_ i r s hr hs with⟨a,rfl,rfl⟩| ⟨rfl,rfl⟩
    ·rw[hc]at hd;cases hd;exact .clo _ ((Tok.clo _ _).cells c (M0 hc))
    ·match j with
     |0=>simp[Tok.av,AVal.cells]at hc hd;subst hc;subst hd;exact .clo _ (.int _ _)
     |1=>simp[Tok.av,AVal.cells]at hc hd;subst hc;subst hd;exact .clo _ (.str _)
     |2=>simp[Tok.av,AVal.cells]at hc hd;subst hc;subst hd;exact .nils _
     |3=>simp[Tok.av,AVal.cells]at hc hd;subst hc;subst hd;exact .clo _ (.str _)
     |j+4=>simp[AVal.cells]at hc)
 rw[Z9,O1 (by simp)]at this;exact this
end Go.Av
namespace Go.Av
open Go Go.RowKit
attribute [local irreducible] WP WPl WPix Sat
structure FrzR (h:Heap) (n:Nat) (r s:AVal):Prop where
 all:Frz h n r s
 len:r.cells.length=s.cells.length
 sto:∀d∈s.cells,d.sto=true
 cell:∀(j:Nat) (c d:AVal),r.cells[j]? =some c→s.cells[j]? =some d→Frz h n c d
theorem Frz.rows{h:Heap}{n q v e m:Nat}{rows es:List AVal}{len:Nat}{room:Bool}(hq:n≤q)(hg:getRow h q v=some (e,m,rows))(hlen:len=rows.length)(hl:es.length=rows.length)
  (hp:∀(i:Nat) (r s:AVal),rows[i]? =some r→es[i]? =some s→FrzR h n r s):Frz h n (.hs q v 0 len room) (.sl m es):=by
 subst hlen;have:=Frz.hs (h:=h) (n:=n) q v 0 rows.length room e m rows es hq hg (by omega) hl (fun i r s hr hs=>(hp i r s hr hs).all)
  (fun i r s hr hs=>⟨(hp i r s hr hs).len,fun j c d _ hd=>(hp i r s hr hs).sto d (M0 hd)⟩) (fun i r s j c d hr hs hc hd=>(hp i r s hr hs).cell j c d hc hd)
 rw[Z9, ← hl,X9]at this;rw[← hl];exact this
theorem FrzR.clo{h:Heap}{n:Nat}{r:AVal}(hc:Clo n r)(hs:∀d∈r.cells,d.sto=true):FrzR h n r r:=
 ⟨.clo _ hc,rfl,hs,fun j c d h1 h2=>by rw[h1]at h2;cases h2;exact .clo _ (hc.cells c (M0 h1))⟩
theorem FrzR.agg{h:Heap}{n:Nat}{cs ds:List AVal}(hl:cs.length=ds.length)(hs:∀d∈ds,d.sto=true)(hc:∀(i:Nat) (c d:AVal),cs[i]? =some c→ds[i]? =some d→Frz h n c d):FrzR h n (.agg cs) (.agg ds):=
 ⟨.agg _ _ hl hs hc,hl,hs,hc⟩
inductive FrzL (h:Heap) (n:Nat):List AVal→List AVal→Prop
 |nil:FrzL h n [] []
 |cons {c d:AVal} {cs ds:List AVal}:Frz h n c d→FrzL h n cs ds→FrzL h n (c::cs) (d::ds)
theorem FrzL.len{h:Heap}{n:Nat}{cs ds:List AVal}(z:FrzL h n cs ds):cs.length=ds.length:=by induction z with|nil=>rfl|cons _ _ ih=>simp[ih]
theorem FrzL.at_{h:Heap}{n:Nat}{cs ds:List AVal}(z:FrzL h n cs ds):∀(i:Nat) (c d:AVal),cs[i]? =some c→ds[i]? =some d→Frz h n c d:=by
 induction z with
 |nil=>intro i c d h1;simp at h1
 |cons z _ ih=>
  intro i c d h1 h2
  match i with
  |0=>simp at h1 h2;subst h1;subst h2;exact z
  |i+1=>exact ih i c d (by simpa using h1) (by simpa using h2)
theorem FrzL.agg{h:Heap}{n:Nat}{cs ds:List AVal}(z:FrzL h n cs ds)(hs:ds.all AVal.sto=true):Frz h n (.agg cs) (.agg ds):=.agg _ _ z.len (O2.1 hs) z.at_
theorem FrzL.tup{h:Heap}{n:Nat}{cs ds:List AVal}(z:FrzL h n cs ds):Frz h n (.tup cs) (.tup ds):=.tup _ _ z.len z.at_
theorem FrzL.row{h:Heap}{n:Nat}{cs ds:List AVal}(z:FrzL h n cs ds)(hs:ds.all AVal.sto=true):FrzR h n (.agg cs) (.agg ds):=.agg z.len (O2.1 hs) z.at_
inductive FrzRs (h:Heap) (n:Nat):List AVal→List AVal→Prop
 |nil:FrzRs h n [] []
 |cons {c d:AVal} {cs ds:List AVal}:FrzR h n c d→FrzRs h n cs ds→FrzRs h n (c::cs) (d::ds)
theorem FrzRs.len{h:Heap}{n:Nat}{cs ds:List AVal}(z:FrzRs h n cs ds):cs.length=ds.length:=by induction z with|nil=>rfl|cons _ _ ih=>simp[ih]
theorem FrzRs.at_{h:Heap}{n:Nat}{cs ds:List AVal}(z:FrzRs h n cs ds):∀(i:Nat) (c d:AVal),cs[i]? =some c→ds[i]? =some d→FrzR h n c d:=by
 induction z with
 |nil=>intro i c d h1;simp at h1
 |cons z _ ih=>
  intro i c d h1 h2
  match i with
  |0=>simp at h1 h2;subst h1;subst h2;exact z
  |i+1=>exact ih i c d (by simpa using h1) (by simpa using h2)
theorem FrzRs.hs{h:Heap}{n q v e m:Nat}{rows es:List AVal}{len:Nat}{room:Bool}(hg:getRow h q v=some (e,m,rows))(hlen:len=rows.length)(hq:n≤q)(z:FrzRs h n rows es):Frz h n (.hs q v 0 len room) (.sl m es):=
 Frz.rows hq hg hlen z.len.symm z.at_
theorem Frz.data{h:Heap}{n q v e m:Nat}{rows:List AVal}{len:Nat}{room:Bool}(hq:n≤q)(hg:getRow h q v=some (e,m,rows))(hlen:len=rows.length)(hc:∀r∈rows,Clo n r)(hs:∀r∈rows,∀c∈r.cells,c.sto=true):Frz h n (.hs q v 0 len room) (.sl m rows):=
 Frz.rows hq hg hlen rfl fun i r s hr hs'=>by rw[hr]at hs';cases hs';exact FrzR.clo (hc r (M0 hr)) (hs r (M0 hr))
end Go.Av
namespace Go.Av
open Go Go.Proofs Go.RowKit
variable (G:Nat→Option (List AVal))
theorem sX(s:Bs):∀k,k≤s.length→shortAt s k=s.drop (Lib.lastIdx ⟨s.toArray⟩ 58 k+1).toNat∧ -1≤Lib.lastIdx ⟨s.toArray⟩ 58 k∧Lib.lastIdx ⟨s.toArray⟩ 58 k<k:=by
 intro k;induction k with
 |zero=>intro _;simp[shortAt,Lib.lastIdx]
 |succ k ih=>
  intro hk;obtain⟨h1,h2,h3⟩:=ih (by omega);have hb:=L3 (show k<s.length by omega);have e:(⟨s.toArray⟩:ByteArray).data[k]! =s[k]:=by simp[hb]
  rw[shortAt,hb];have e2:Lib.lastIdx ⟨s.toArray⟩ 58 (k+1)=if (s[k].toNat:Int)=58 then(k:Int)else Lib.lastIdx ⟨s.toArray⟩ 58 k:=by
   rw[Lib.lastIdx,e]
  rw[e2];by_cases hc:s[k]=58
  ·rw[L7 (by rw[hc]),L7 (by rw[hc];rfl)];refine⟨N5 s.drop (by omega),by omega,by omega⟩
  ·have:¬(s[k].toNat:Int)=58:=fun h=>hc ((yS (k:=58) (by omega)).1 h)
   rw[L1 (by simpa using hc),L1 this];exact⟨h1,h2,by omega⟩
theorem uJ(s:Bs):short s=s.drop (Lib.lastIndexByte ⟨s.toArray⟩ 58+1).toNat∧ -1≤Lib.lastIndexByte ⟨s.toArray⟩ 58∧Lib.lastIndexByte ⟨s.toArray⟩ 58<s.length:=by
 have h:(⟨s.toArray⟩:ByteArray).size=s.length:=by simp[ByteArray.size]
 have:=sX s s.length (M3 _);unfold Lib.lastIndexByte short;rw[h];exact this
end Go.Av
namespace Go.Av
open Go Go.Proofs Go.RowKit
attribute [local irreducible] WP WPl WPix Sat
variable (G:Nat→Option (List AVal))
theorem kZ(s:Bs)(hs:s.length≤1048576)(h:Heap):Sat (CT G) 106 [.str s] h (fun r h'=>r=.str (short s)∧h'=h):=by
 obtain⟨h1,h2,h3⟩:=uJ s;have hl:=eM G s 58 (by omega);generalize Lib.lastIndexByte ⟨s.toArray⟩ 58=n at h1 h2 h3 hl;refine sb [.tmp 2] Tryz.func106 ?_;intro Q hQ;refine af trivial ?_;refine aF trivial (hl _) ?_;refine au hQ trivial ?_;refine fR (.str _) ?_;rw[h1]
theorem nb(e:Elem)(n:Bs)(hs:e.sz≤1048576)(h:Heap):Sat (CT G) 141 [e.av,.str n] h (fun r h'=>r=.sl 4 ((kidsF e n).map Elem.av)∧h'=h):=by
 have hkl:=e.kids_len;refine sb [.tmp 4] Tryz.func141 ?_;intro Q hQ;refine af trivial ?_;refine lm (fun nL tL hL=>∃(k v:Nat) (acc:List Elem) (j:Heap),e.kids.length-k=nL∧h++ .row 171 4 0 [e.av]:: .row 171 4 v (acc.map Elem.av)::j=hL∧tL 5=.hs (h.length+1) v 0 acc.length true∧tL 11=.int .i64 k∧k≤e.kids.length∧acc.length≤k∧acc++(e.kids.drop k).filter (fun k=>decide (short k.name=n))=kidsF e n) ((fun(k v:Nat) (acc:List Elem) (j:Heap)=>(e.kids.length-k:Nat)) (0) (0) ([]) ([])) ?_ ?_
 ·refine⟨_,_,Weak.virt 5 171 4 (by simp) (by omega) (by exact az trivial),⟨0,0,[],[],rfl,aw,?_,?_,?_,?_,?_⟩⟩;all_goals first|exact az trivial|rfl|omega|trivial|skip
 rintro _ s2 h' ⟨k,v,acc,j,rfl,rfl,e5,e11,hk,hl,hp⟩ K2 hK2;simp only[ak,am,Nat.reduceEqDiff, ↓reduceIte]at e5 e11;have F:=F2 e5 e11;refine af F ?_;refine aC F (fun hc=>?_) (fun hc=>?_)<;>(try exact hc.elim)
 ·obtain⟨y,hy,hym⟩:=aj hc;have:=Elem.kid_sz hym;have:=y.name_len;rw[aD hy,X0]at hp;have F:=F2 F hy;refine af F ?_;refine aF F (kZ G y.name (by omega) _) ?_;refine aC F (fun hc=>?_) (fun hc=>?_)<;>(try exact hc.elim)<;>(refine af F ?_)
  ·refine yu F ?_;(try refine ai F ?_);refine af F ?_;refine hK2 _ _ _ (M5 ⟨k+1,v+1,acc++[y],_,rfl,aw,?_,?_,by omega,by simp;omega,by rw[L7 (by simp[hc])]at hp;rw[← hp];simp⟩) (by omega);all_goals first|exact az F|rfl|omega|trivial|skip
  ·refine hK2 _ _ _ (M5 ⟨k+1,v,acc,_,rfl,aw,?_,?_,by omega,by omega,by rw[L1 (by simp[hc])]at hp;exact hp⟩) (by omega);all_goals first|exact az F|rfl|omega|trivial|skip
 ·refine af F ?_;refine au hQ F ?_;rw[aJ hc,List.filter_nil,N3]at hp;subst hp;exact za2 (uy (pre:=h++[.row 171 4 0 [e.av]]) (post:=j) _ (by simp;rfl) (by simp) (by omega)) ⟨rfl,rfl⟩
theorem xa(e:Elem)(n:Bs)(hs:e.sz≤1048576)(h:Heap):Sat (CT G) 105 [e.av,.str n] h (fun r h'=>r=.tup [(kidF e n).1.av,.bool (kidF e n).2]∧h'=h):=by
 refine sb [.cell 4 171,.tmp 5] Tryz.func105 ?_;intro Q hQ;refine af trivial ?_;refine aF trivial (nb G e n hs _) ?_;refine aC trivial (fun hc=>?_) (fun hc=>?_)<;>(try exact hc.elim)<;>(refine af trivial ?_)
 ·refine yv hQ trivial ?_;have hk:kidsF e n=[]:=O9.1 (by omega);simp only[kidF,hk];refine za2 ?_ ⟨rfl,rfl⟩;refine .tup _ _ rfl fun i c d hc hd=>?_
  match i with
  |0=>simp at hc hd;subst hc;subst hd;exact uF _ _
  |1=>simp at hc hd;subst hc;subst hd;exact .clo _ (.bool _)
  |i+2=>simp at hc
 ·obtain⟨y,l,hk⟩:∃y l,kidsF e n=y::l:=by
   cases hq:kidsF e n with
   |nil=>rw[hq]at hc;simp at hc
   |cons y l=>exact⟨y,l,rfl⟩
  rw[hk];have h0:(y::l)[0]? =some y:=rfl;have F:=h0;refine af F ?_;simp only[h0];try refine ai F ?_
  refine af F ?_;refine yv hQ F ?_;simp only[kidF,hk];exact M2 (.tup _ (by intro c hc;simp at hc;rcases hc with rfl|rfl;exact Elem.clo _ _;exact .bool _)) ⟨rfl,rfl⟩
def idxF{α:Type}(p:α→Bool):List α→Nat→Int
 | [],_=> -1
 |a::l,k=>if p a then(k:Int)else idxF p l (k+1)
theorem rk{α:Type}(p:α→Bool):∀(l:List α) (k:Nat), -1≤idxF p l k∧idxF p l k<l.length+k
 | [],k=>by simp[idxF];omega
 |a::l,k=>by
  have:=rk p l (k+1);rw[idxF];split<;>(simp;omega)
theorem nK(p:At→Bool)(g:FuncId)(cap:List AVal)(l:List At)(hs:l.length≤1048576)(h:Heap)(hg:∀(a:At) (j:Heap),Sat (CT G) g (a.av::cap) (h++j) (fun r h'=>r=.bool (p a)∧h'=h++j)):
  Sat (CT G) 221 [.sl 2 (l.map At.av),.fn (.func g) [] cap] h (fun r h'=>r=.int .i64 (idxF p l 0)∧h'=h):=by
 refine sb [.tmp 4] Tryz.func221 ?_;intro Q hQ;refine af trivial ?_;refine lm (fun nL tL hL=>∃(k:Nat),l.length-k=nL∧h=hL∧tL 8=.int .i64 k∧k≤l.length∧idxF p l 0=idxF p (l.drop k) k) ((fun(k:Nat)=>(l.length-k:Nat)) (0)) ?_ ?_
 ·refine M5 ⟨0,rfl,aw,?_,?_,?_⟩;all_goals first|exact az trivial|rfl|omega|trivial|skip
 rintro _ s2 h' ⟨k,rfl,rfl,e8,hk,hp⟩ K2 hK2;simp only[ak,am,Nat.reduceEqDiff, ↓reduceIte]at e8;have F:=e8;refine af F ?_;refine aC F (fun hc=>?_) (fun hc=>?_)<;>(try exact hc.elim)
 ·obtain⟨y,hy,hym⟩:=aj hc;rw[aD hy,idxF]at hp;have F:=F2 F hy;refine af F ?_;have:=hg y [];rw[N3]at this;refine aF F (this) ?_;refine aC F (fun hc=>?_) (fun hc=>?_)<;>(try exact hc.elim)<;>(refine af F ?_)
  ·refine au hQ F ?_;refine fR (.int _ _) ?_;rw[hp,L7 hc]
  ·refine hK2 _ _ _ (M5 ⟨k+1,rfl,aw,?_,by omega,by rw[hp,L1 (by simp[hc])]⟩) (by omega);all_goals first|exact az F|rfl|omega|trivial|skip
 ·refine af F ?_;refine au hQ F ?_;refine fR (.int _ _) ?_;rw[hp,aJ hc];rfl
theorem uK(a:At)(n:Bs)(h j:Heap)(X:Blk):Sat (CT G) 222 [a.av,.hp (h.length+1) 0 0 0] (h++X:: .row 9 1 0 [.str n]::j) (fun r h'=>r=.bool (decide (a.1=n))∧h'=h++X:: .row 9 1 0 [.str n]::j):=by
 refine sb [.tmp 3] Tryz.func222 ?_;intro Q hQ;refine af trivial ?_;refine au hQ trivial ?_;refine fR (.bool _) ?_;congr 1;rw[R5];simp
theorem rn{α:Type}(p:α→Bool):∀(l:List α) (k:Nat),idxF p l k= -1∨(k:Int)≤idxF p l k
 | [],k=>.inl rfl
 |a::l,k=>by
  have:=rn p l (k+1);rw[idxF];split
  ·exact .inr (X6 _)
  ·omega
theorem nc(n:Bs):∀(l:List At) (k:Nat),(idxF (fun a=>decide (a.1=n)) l k<0→attrF l n=([],false))∧(∀i:Nat,idxF (fun a=>decide (a.1=n)) l k=((k+i:Nat):Int)→∃a,l[i]? =some a∧attrF l n=(a.2,true))
 | [],k=>by refine⟨fun _=>rfl,fun i hi=>?_⟩;simp only[idxF]at hi;omega
 |a::l,k=>by
  obtain⟨h1,h2⟩:=nc n l (k+1);have hg:=rn (fun a:At=>decide (a.1=n)) l (k+1);by_cases hc:a.1=n
  ·simp only[idxF,hc,decide_true,if_true,attrF];refine⟨fun h=>by omega,fun i hi=>?_⟩;have:i=0:=(by omega);subst this;exact⟨a,rfl,rfl⟩
  ·simp only[idxF,hc,decide_false,N9,if_false,attrF];refine⟨h1,fun i hi=>?_⟩;cases i with
   |zero=>omega
   |succ i=>
    obtain⟨b,hb,hr⟩:=h2 i (by rw[hi];congr 1;omega);exact⟨b,by simpa using hb,hr⟩
theorem uL(e:Elem)(n:Bs)(hs:e.sz≤1048576)(h:Heap):Sat (CT G) 183 [e.av,.str n] h (fun r h'=>r=.tup [.str (attrF e.attrs n).1,.bool (attrF e.attrs n).2]∧h'=h):=by
 have hal:=e.attrs_len;have hb:=rk (fun a:At=>decide (a.1=n)) e.attrs 0;obtain⟨f1,f2⟩:=nc n e.attrs 0;have hi:=nK G (fun a=>decide (a.1=n)) 222 [.hp (h.length+1) 0 0 0] e.attrs (by omega) (h++[.row 171 4 0 [e.av],.row 9 1 0 [.str n]]) (fun a j=>by simpa using uK G a n h j _);generalize idxF (fun a:At=>decide (a.1=n)) e.attrs 0=x at hb f1 f2 hi;refine sb [.tmp 4,.tmp 5] Tryz.func183 ?_;intro Q hQ;refine af trivial ?_;refine aF trivial (hi) ?_;refine aC trivial (fun hc=>?_) (fun hc=>?_)<;>(try exact hc.elim)
 ·refine af trivial ?_;refine au hQ trivial ?_;refine fR (.tup _ (by simp[Clo.str,Clo.bool])) ?_;rw[f1 hc]
 ·obtain⟨i,rfl⟩:∃i:Nat,x=(i:Int):=⟨x.toNat,by omega⟩;obtain⟨a,ha,hr⟩:=f2 i (by simp);have F:=ha;refine af F ?_;refine au hQ F ?_;refine fR (.tup _ (by simp[Clo.str,Clo.bool])) ?_;rw[hr]
def Elem.own(e:Elem):Nat:=1+e.name.length+szs At.sz e.attrs+e.text.length
section
variable {σ:Type} (A B:Elem→σ→σ)
end
section
end
section
end
theorem i5:∀(l:List Elem) (d n:Nat),n≤deepL l d n∧∀k∈l,deep k (d+1)≤deepL l d n
 | [],d,n=>by rw[deepL];exact⟨M3 _,fun k hk=>by cases hk⟩
 |e::l,d,n=>by
  rw[deepL];by_cases hc:n<deep e (d+1)
  ·rw[L7 hc];obtain⟨h1,h2⟩:=i5 l d (deep e (d+1));refine⟨by omega,fun k hk=>?_⟩;rcases N0.1 hk with rfl|hk
   ·omega
   ·exact h2 k hk
  ·rw[L1 hc];obtain⟨h1,h2⟩:=i5 l d n;refine⟨by omega,fun k hk=>?_⟩;rcases N0.1 hk with rfl|hk
   ·omega
   ·exact h2 k hk
theorem xb(e:Elem)(n:Bs)(h:(kidF e n).2=true):(kidF e n).1∈e.kids:=by
 unfold kidF at*;cases hq:kidsF e n with
 |nil=>rw[hq]at h;cases h
 |cons k l=>
  have:k∈kidsF e n:=by rw[hq];simp
  unfold kidsF at this;exact(U1.1 this).1
end Go.Av
namespace Go.Av
open Go Go.Proofs Go.RowKit
def orcX(f:FuncId)(args:List AVal):Option AVal:=match orcL f args with
 |some r=>some r
 |none=>match args with
  | [.int .i32 c]=>if f=260 then some (.bool (beginF c))else if f=259 then some (.bool (moreF c))else none
  |_=>none
variable {G:Nat→Option (List AVal)}
theorem zy(hG:GOk G):OrcOk (CT G) orcX:=by
 intro f args r g h;unfold orcX at g;split at g
 ·rename_i e;cases g;exact qV hG f args _ e h
 ·split at g
  ·rename_i c _;split at g
   ·rename_i e;subst e;cases g;exact hU G c h
   ·split at g
    ·rename_i e;subst e;cases g;exact oL G c h
    ·cases g
  ·cases g
end Go.Av
namespace Go.Av
open Go Go.Proofs Go.RowKit
attribute [local irreducible] WP WPl WPix Sat
theorem Wk.slD{n:Nat}{xs ys:List AVal}(hl:xs.length=ys.length)(hw:∀(i:Nat) (r s:AVal),xs[i]? =some r→ys[i]? =some s→WkR r s):Wk (.sl n xs) (.sl n ys):=fun w S μ v rr=>by
 have at_:∀(i:Nat) (e:AVal),ys[i]? =some e→∃r,xs[i]? =some r∧WkR r e:=fun i e he=>by
  have hlt:=(f9.1 he).1;have hx:=L3 (show i<xs.length by omega);exact⟨_,hx,hw i _ e hx he⟩
 cases rr with
 |sl0 n a cap=>
  obtain rfl:ys=[]:=O9.1 (by simpa using hl.symm);exact .sl0 _ _ _
 |sl n es b o cap vs hne hm hm' hn hc hr=>
  rw[hl];refine .sl _ ys b o cap vs (fun e=>?_) (by omega) hm' (fun i e he=>?_) (fun i e j c he hj=>?_) (fun i e j c he hj=>?_)
  ·subst e;exact hne (O9.1 hl)
  ·obtain⟨r,hx,hq⟩:=at_ i e he;rw[← hq.1];exact hn i r hx
  ·obtain⟨r,hx,hq⟩:=at_ i e he;have hlt:=(f9.1 hj).1;have hd:=L3 (show j<r.cells.length by rw[hq.1];exact hlt);obtain⟨a1,a2,a3⟩:=hc i r j _ hx hd;exact⟨a1,a2,(hq.2 j _ c hd hj).2 a3⟩
  ·obtain⟨r,hx,hq⟩:=at_ i e he;have hlt:=(f9.1 hj).1;have hd:=L3 (show j<r.cells.length by rw[hq.1];exact hlt);exact(hq.2 j _ c hd hj).1 _ _ _ _ (hr i r j _ hx hd)
theorem Sat.closedD{C:Ctx}(hG:GClo C){orc:FuncId→List AVal→Option AVal}(horc:OrcOk C orc)(lf n:Nat){f:FuncId}{args:List AVal}{v:AVal}(ha:args.all (cloA 0)=true)(hv:cloA 0 v=true)
  (hrun:isV v (callX C orc lf n f args [])=true)(h:Heap):Sat C f args h fun r2 h2=>r2=v∧h2=h:=by
 unfold isV at hrun;split at hrun
 ·rename_i r h1 e;split at hrun
  ·rename_i y hy;have ey:=cO _ _ hrun;subst ey;have s:=(ox horc lf n f args [] r h1 e).letgo (v:=y) (by simp) (lO _ _ _ _ _ hy);refine(s.frame hG (fun x hx=>dC 0 _ (O2.1 ha x hx)) (fun r h' ⟨e1,e2⟩=>⟨by rw[e1];exact dC 0 _ hv,e2⟩) h).mono fun r2 h2 ⟨⟨e1,_⟩,e2⟩=>⟨e1,e2⟩
  ·cases hrun
 ·cases hrun
theorem Wk.tupD{xs ys:List AVal}(hl:xs.length=ys.length)(hw:∀(i:Nat) (x y:AVal),xs[i]? =some x→ys[i]? =some y→Wk x y):Wk (.tup xs) (.tup ys):=fun w S μ v r=>by
 cases r with
 |tup _ vs hvl hr=>
  refine .tup ys vs (by omega) (fun i d hd=>?_);have hlt:=(f9.1 hd).1;have hc:=L3 (show i<xs.length by omega);exact hw i _ d hc hd w S μ _ (hr i _ hc)
def wkL(f:AVal→AVal→Bool):List AVal→List AVal→Bool
 | [],[]=>true
 |x::xs,y::ys=>f x y&&wkL f xs ys
 |_,_=>false
def wkB:Nat→AVal→AVal→Bool
 |0,x,y=>beqA x y
 |f+1,x,y=>beqA x y||match x,y with
  | .nil (.slice none 0 0),.sl _ []=>true
  | .agg xs,.agg ys=>wkL (wkB f) xs ys&&ys.all AVal.sto
  | .tup xs,.tup ys=>wkL (wkB f) xs ys
  | .sl n xs,.sl m ys=>(n==m)&&wkL (fun r s=>wkL (wkB f) r.cells s.cells&&s.cells.all AVal.sto) xs ys
  |_,_=>false
theorem iW{f:AVal→AVal→Bool}{R:AVal→AVal→Prop}(hf:∀x y,f x y=true→R x y):∀{xs ys:List AVal},wkL f xs ys=true→xs.length=ys.length∧∀(i:Nat) (x y:AVal),xs[i]? =some x→ys[i]? =some y→R x y
 | [],[],_=>⟨rfl,fun i x y hx=>by simp at hx⟩
 |x::xs,y::ys,h=>by
  unfold wkL at h;rw[L2]at h;obtain⟨h1,h2⟩:=iW hf h.2;refine⟨by simp[h1],fun i a b ha hb=>?_⟩;cases i with
  |zero=>cases ha;cases hb;exact hf _ _ h.1
  |succ i=>exact h2 i a b ha hb
 | [],_::_,h=>by cases h
 |_::_,[],h=>by cases h
theorem iX:∀(f:Nat) (x y:AVal),wkB f x y=true→Wk x y:=by
 intro f;induction f with
 |zero=>intro x y h;rw[cO _ _ h];exact Wk.refl _
 |succ f ih=>
  intro x y h;unfold wkB at h;rw[P8]at h;rcases h with h|h
  ·rw[cO _ _ h];exact Wk.refl _
  ·split at h
   ·exact Wk.nils _
   ·rw[L2,O2]at h;obtain⟨h1,h2⟩:=iW ih h.1;exact Wk.agg h1 h.2 h2
   ·obtain⟨h1,h2⟩:=iW ih h;exact Wk.tupD h1 h2
   ·rw[L2,beq_iff_eq]at h;obtain⟨rfl,h⟩:=h;obtain⟨h1,h2⟩:=iW (R:=fun r s=>WkR r s) (fun r s hh=>by
     rw[L2,O2]at hh;obtain⟨k1,k2⟩:=iW ih hh.1;exact⟨k1,fun j c d hc hd=>⟨k2 j c d hc hd,fun _=>hh.2 d (M0 hd)⟩⟩) h
    exact Wk.slD h1 h2
   ·cases h
end Go.Av
