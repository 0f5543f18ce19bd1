/- Parts. -/
import Derived.Test.YtjfjncmgclaokaaGreatDoorMwCj
set_option linter.unusedSimpArgs false
set_option linter.unusedVariables false
set_option linter.unusedSectionVars false
set_option linter.unnecessarySimpa false
set_option maxRecDepth 100000
set_option maxHeartbeats 16000000
namespace Go.Av
open Go Go.Proofs Go.RowKit Go.Shelf Go.Lib
def letF(r:Nat):Bool:=
 if r<192 then(decide (97≤r)&&decide (r≤122))||(decide (48≤r)&&decide (r≤57))
 else !(decide (r=215)||decide (r=247)||decide (r=65533))&& !((decide (8192≤r)&&decide (r≤8303))||(decide (12288≤r)&&decide (r≤12351)))
set_option maxHeartbeats 4000000 in
theorem mM(W:World)(r:Nat):Calls Tryz.prog 320 #[encR r] W fun e w'=>e=.returned (.bool (letF r))∧∃q,w'=W.drewN q:=by
 by_cases h0:r<192
 ·by_cases h1:97≤r<;>by_cases h2:r≤122<;>by_cases h3:48≤r<;>by_cases h4:r≤57
  all_goals first| (exfalso;omega)|skip
  all_goals
   have z0:(r:Int)<192↔r<192:=(by omega);have z1:(97:Int)≤(r:Int)↔97≤r:=(by omega);have z2:(r:Int)≤122↔r≤122:=(by omega);have z3:(48:Int)≤(r:Int)↔48≤r:=(by omega);have z4:(r:Int)≤57↔r≤57:=by omega
   go_enter Tryz.func320,Tryz.ntmps320
   go_wp2
   all_goals first| (exfalso;omega)| (go_ret;exact⟨by simp[letF,h0,h1,h2,h3,h4],0,rfl⟩)
 ·by_cases h1:r=215
  ·subst h1
   go_enter Tryz.func320,Tryz.ntmps320
   go_wp2
   all_goals first| (exfalso;omega)| (go_ret;exact⟨by simp[letF],0,rfl⟩)
  by_cases h2:r=247
  ·subst h2
   go_enter Tryz.func320,Tryz.ntmps320
   go_wp2
   all_goals first| (exfalso;omega)| (go_ret;exact⟨by simp[letF],0,rfl⟩)
  by_cases h3:r=65533
  ·subst h3
   go_enter Tryz.func320,Tryz.ntmps320
   go_wp2
   all_goals first| (exfalso;omega)| (go_ret;exact⟨by simp[letF],0,rfl⟩)
  by_cases h4:8192≤r<;>by_cases h5:r≤8303<;>by_cases h6:12288≤r<;>by_cases h7:r≤12351
  all_goals first| (exfalso;omega)|skip
  all_goals
   have z0:(r:Int)<192↔r<192:=(by omega);have z1:(r:Int)=215↔r=215:=(by omega);have z2:(r:Int)=247↔r=247:=(by omega);have z3:(r:Int)=65533↔r=65533:=(by omega);have z4:(8192:Int)≤(r:Int)↔8192≤r:=(by omega);have z5:(r:Int)≤8303↔r≤8303:=(by omega);have z6:(12288:Int)≤(r:Int)↔12288≤r:=(by omega);have z7:(r:Int)≤12351↔r≤12351:=by omega
   go_enter Tryz.func320,Tryz.ntmps320
   go_wp2
   all_goals first| (exfalso;omega)| (exfalso;simp only[beq_iff_eq]at *;omega)| (go_ret;exact⟨by simp[letF,h0,h1,h2,h3,h4,h5,h6,h7],0,rfl⟩)
set_option maxHeartbeats 4000000 in
theorem rJ(w:World):PredAt Tryz.prog 319 #[] encR (fun r=> !letF r) w:=fun W r _=>by
 unfold FnGives;have hL:=mM
 go_enter Tryz.func319,Tryz.ntmps319
 go_wp2_with (go_at_call 320;refine(hL _ _).mono ?_;rintro e w' ⟨rfl,q,rfl⟩)
 go_ret
 exact⟨rfl,_,rfl⟩
end Go.Av
namespace Go.Av
open Go Go.Proofs Go.RowKit Go.Lib
section
variable {C:Ctx} {B:Nat} {S:Addr→Prop} {μ:Map} {h:Heap} {w w':World}
theorem tY(f:Fits C B S μ h w)(hb:Below w.heap.size w w'){g cap:Nat}{cur:Array Value}{e:TypeId}{ls:List Bs}(hg:w.heap.size≤g)(hheap:w'.heap[g]? =some (.cells cur e (0,0)))
  (hn:ls.length≤cap)(h0:0<cap)(hm:cap≤maxLen)(hsz:cur.size=cap)(hget:∀(i:Nat) (a:Bs),ls[i]? =some a→cur[i]? =some (.string ⟨a.toArray⟩)):
  Fits C B S (μ++[⟨some g,0,1,cap⟩]) (h++[.row e 1 0 (ls.map .str)]) w'∧Step B S μ w S (μ++[⟨some g,0,1,cap⟩]) w':=by
 obtain⟨f',st⟩:=f.grown hb;have hgl:g<w'.heap.size:=(L6.1 hheap).1;have st2:Step B S μ w' S (μ++[⟨some g,0,1,cap⟩]) w':=⟨fun a ha=>ha,fun _ _=>rfl,T8 _ _,eS _ _,fun a ha=>.inl ha⟩
 refine⟨⟨fun g' cs hg'=>(f'.glob g' cs hg').mono st2,by simp[f'.len],?_,?_,f'.base,f'.lie,?_⟩,st.trans st2⟩
 ·intro p q m1 m2 b h1 h2 e1 e2;rcases aG h1 with k1| ⟨k1,rfl⟩<;>rcases aG h2 with k2| ⟨k2,rfl⟩
  ·exact f'.sep p q m1 m2 b k1 k2 e1 e2
  ·have:=(f.own p m1 b k1 e1).2.1;cases e2;omega
  ·have:=(f.own q m2 b k2 e2).2.1;cases e1;omega
  ·rw[k1,k2]
 ·intro p m1 b h1 e1;rcases aG h1 with k1| ⟨k1,rfl⟩
  ·exact f'.own p m1 b k1 e1
  ·cases e1;exact⟨P2 f.base hg,hgl,fun a ha=>by have:=f.lie a ha;omega⟩
 ·intro p m1 k1 h1 h2;rcases aG h1 with a1| ⟨a1,rfl⟩
  ·have hp:p<h.length:=(by have:=(f9.1 a1).1;rw[f.len]at this;exact this);rw[J0 hp]at h2;exact(f'.blk p m1 k1 a1 h2).mono st2 fun _ _=>rfl
  ·rw[a1,f.len,J4 (J1 _)]at h2;simp at h2;subst h2;refine⟨rfl,rfl,by omega,fun i r hr=>?_,fun i r j c hr hc=>?_,.inr ⟨g,cur,rfl,hheap,by simp[hsz],⟨h0,by simpa using hn⟩,hm,fun i r j c hr hc=>?_⟩⟩
   ·obtain⟨a,_,rfl⟩:=J8.1 (J2 hr);rfl
   ·obtain⟨a,_,rfl⟩:=J8.1 (J2 hr)
    match j with
    |0=>simp[AVal.cells]at hc;subst hc;rfl
    |j+1=>simp[AVal.cells]at hc
   ·rw[K5]at hr;obtain⟨a,ha,rfl⟩:=K9.1 hr
    match j with
    |0=>
     simp[AVal.cells]at hc;subst hc;exact⟨_,by simpa using hget i a ha,.str _⟩
    |j+1=>simp[AVal.cells]at hc
end
variable (G:Nat→Option (List AVal))
def fldsF(s:Bs):List Bs:=(goFieldsP (fun r=> !letF r) ⟨s.toArray⟩).map fun b=>b.data.toList
theorem pP(s:Bs)(hs:s.length≤1000000)(h:Heap):Sat (CT G) 317 [.str s,.fn (.func 319) [] []] h
  (fun r h'=>(fldsF s=[]∧r=.sl 1 []∧h'=h)∨(fldsF s≠ []∧r=.hs h.length 0 0 (fldsF s).length true∧h'=h++[.row 9 1 0 ((fldsF s).map .str)])):=by
 intro B S μ w us fit rl;obtain⟨hul,hur⟩:=rl
 match us,hul,hur with
 | [v0,v1],_,hur=>
  have r0:Rep w S μ (.str s) v0:=hur 0 _ rfl;have r1:Rep w S μ (.fn (.func 319) [] []) v1:=hur 1 _ rfl;obtain rfl:=r0.str_inv;obtain rfl:v1=.func (.func 319) #[] #[]:=by
   cases r1 with
   |fn _ _ _ xv cv h1 h2 h3 h4=>
    match xv,cv,h1,h2 with
    | [],[],_,_=>rfl
  change OpOk Tryz.prog _ ((callFunc 317 #[Value.string ⟨s.toArray⟩,Value.func (Fn.func 319) #[] #[]]).run Tryz.prog w)
  rw[cO (f:=317) Tryz.func317 rfl rfl];refine(Tryz.strings_FieldsFunc 319 #[] (enters_of Tryz.func319 (by kernel_rfl) rfl) _ ⟨s.toArray⟩ w (by simp[ByteArray.size];omega) (rJ w)).mono fun e w' ⟨A,he,hA,hrow,hbel⟩=>?_
  refine⟨_,he,?_⟩;have hlen:(fldsF s).length=(goFieldsP (fun r=> !letF r) ⟨s.toArray⟩).length:=by unfold fldsF;rw[I4]
  have hmap:(goFieldsP (fun r=> !letF r) ⟨s.toArray⟩).map Value.string=(fldsF s).map fun a=>Value.string ⟨a.toArray⟩:=by
   unfold fldsF;rw[X2];exact S7 fun b _=>by simp
  rw[hmap]at hrow;rw[← hlen]at hrow he ⊢;obtain⟨_,ho⟩:=hrow;rcases ho with⟨h1,_⟩| ⟨g,cap,cur,h1,hg,hheap,hn,hm,hsz,htk⟩
  ·cases h1
  ·cases h1;by_cases hl:fldsF s=[]
   ·obtain⟨f',st⟩:=fit.grown hbel;rw[hl];exact⟨.sl 1 [],h,S,μ,.inl ⟨rfl,rfl,rfl⟩,st,f',.sl0 1 _ _⟩
   ·have hp:=U4.2 hl;have hget:∀(i:Nat) (a:Bs),(fldsF s)[i]? =some a→cur[i]? =some (.string ⟨a.toArray⟩):=fun i a ha=>by
     have hi:i<(fldsF s).length:=(f9.1 ha).1;have h2:(cur.toList.take ((fldsF s).length*1))[i]? =some (.string ⟨a.toArray⟩):=(by rw[htk,K5,ha];rfl);rw[K7 (by omega)]at h2;simpa using h2
    obtain⟨f',st⟩:=tY fit hbel hg hheap hn (by omega) hm (by simpa using hsz) hget;refine⟨.hs h.length 0 0 (fldsF s).length true,_,S,_,.inr ⟨hl,rfl,rfl⟩,st,f',?_⟩;refine .hs _ _ _ _ _ ⟨some A,0,1,(fldsF s).length⟩ _ (by rw[← fit.len];simp) (J1 _) (fun cs h=>by cases h) rfl (fun _=>.inr ⟨A,rfl,by simp,by simp⟩)
end Go.Av
namespace Go.Av
open Go Go.Proofs Go.RowKit
attribute [local irreducible] WP WPl WPix Sat
variable (G:Nat→Option (List AVal))
def btw(c a b:Int):Bool:=decide (a≤c)&&decide (c≤b)
theorem cc(c a b:Int)(h:Heap):Sat (CT G) 351 [.int .i32 c,.int .i32 a,.int .i32 b] h (fun r h'=>r=.bool (btw c a b)∧h'=h):=by
 by_cases k:a≤c
 ·have k2:decide (c≥a)=true:=by simpa using k
  have F:=k2;refine sb [.tmp 6] Tryz.func351 ?_;intro Q hQ;refine wk F ?_;refine ee hQ F ?_;exact M9 (.bool _) ⟨by simp[btw,k],rfl⟩
 ·have k2:decide (c≥a)=false:=by simpa using k
  have F:=k2;refine sb [.tmp 6] Tryz.func351 ?_;intro Q hQ;refine wk F ?_;refine ee hQ F ?_;exact M9 (.bool _) ⟨by simp[btw,k],rfl⟩
def foldR(c:Int):Int:=
 if c=215∨c=930 then c else if btw c 65 90∨btw c 192 222∨btw c 913 937∨btw c 1040 1071 then c+32 else if btw c 1024 1039 then c+80 else c
theorem gL{c:Int}(h:Rune c):Rune (foldR c):=by
 unfold foldR btw;simp only[I1,I8];unfold Rune at*;split
 ·exact h
 ·split
  ·omega
  ·split<;>omega
theorem rK(c:Int)(hc:Rune c)(h:Heap):Sat (CT G) 345 [.int .i32 c] h (fun r h'=>r=.int .i32 (foldR c)∧h'=h):=by
 have c0:0≤c∧c≤1114111:=by unfold Rune at hc;omega
 obtain⟨c1,c2⟩:=c0;by_cases k1:c=215
 ·subst k1;refine sb [.tmp 2] Tryz.func345 ?_;intro Q hQ;refine wk trivial ?_;refine ee hQ trivial ?_;exact M9 (.int _ _) ⟨rfl,rfl⟩
 by_cases k2:c=930
 ·subst k2;refine sb [.tmp 2] Tryz.func345 ?_;intro Q hQ;refine wk trivial ?_;refine ee hQ trivial ?_;exact M9 (.int _ _) ⟨rfl,rfl⟩
 have w32:IntKind.i32.wrap (c+32)=c+32:=c9 (by omega) (by omega);have w80:IntKind.i32.wrap (c+80)=c+80:=c9 (by omega) (by omega);have n1:(c==215)=false:=by simp[k1]
 have n2:(c==930)=false:=by simp[k2]
 have b1:=cc G c 65 90;have b2:=cc G c 192 222;have b3:=cc G c 913 937;have b4:=cc G c 1040 1071;have b5:=cc G c 1024 1039;cases h1:btw c 65 90
 ·cases h2:btw c 192 222
  ·cases h3:btw c 913 937
   ·cases h4:btw c 1040 1071
    ·cases h5:btw c 1024 1039
     ·rw[h1]at b1;rw[h2]at b2;rw[h3]at b3;rw[h4]at b4;rw[h5]at b5;have F:=F2 n1 n2;refine sb [.tmp 2] Tryz.func345 ?_;intro Q hQ;refine wk F ?_;refine kq F (b1 _) ?_;refine kq F (b2 _) ?_;refine kq F (b3 _) ?_;refine kq F (b4 _) ?_;refine kq F (b5 _) ?_;refine ee hQ F ?_;exact M9 (.int _ _) ⟨by simp[foldR,k1,k2,h1,h2,h3,h4,h5,w32,w80],rfl⟩
     ·rw[h1]at b1;rw[h2]at b2;rw[h3]at b3;rw[h4]at b4;rw[h5]at b5;have F:=F2 n1 n2;refine sb [.tmp 2] Tryz.func345 ?_;intro Q hQ;refine wk F ?_;refine kq F (b1 _) ?_;refine kq F (b2 _) ?_;refine kq F (b3 _) ?_;refine kq F (b4 _) ?_;refine kq F (b5 _) ?_;refine ee hQ F ?_;exact M9 (.int _ _) ⟨by simp[foldR,k1,k2,h1,h2,h3,h4,h5,w32,w80],rfl⟩
    ·rw[h1]at b1;rw[h2]at b2;rw[h3]at b3;rw[h4]at b4;have F:=F2 n1 n2;refine sb [.tmp 2] Tryz.func345 ?_;intro Q hQ;refine wk F ?_;refine kq F (b1 _) ?_;refine kq F (b2 _) ?_;refine kq F (b3 _) ?_;refine kq F (b4 _) ?_;refine ee hQ F ?_;exact M9 (.int _ _) ⟨by simp[foldR,k1,k2,h1,h2,h3,h4,w32],rfl⟩
   ·rw[h1]at b1;rw[h2]at b2;rw[h3]at b3;have F:=F2 n1 n2;refine sb [.tmp 2] Tryz.func345 ?_;intro Q hQ;refine wk F ?_;refine kq F (b1 _) ?_;refine kq F (b2 _) ?_;refine kq F (b3 _) ?_;refine ee hQ F ?_;exact M9 (.int _ _) ⟨by simp[foldR,k1,k2,h1,h2,h3,w32],rfl⟩
  ·rw[h1]at b1;rw[h2]at b2;have F:=F2 n1 n2;refine sb [.tmp 2] Tryz.func345 ?_;intro Q hQ;refine wk F ?_;refine kq F (b1 _) ?_;refine kq F (b2 _) ?_;refine ee hQ F ?_;exact M9 (.int _ _) ⟨by simp[foldR,k1,k2,h1,h2,w32],rfl⟩
 ·rw[h1]at b1;have F:=F2 n1 n2;refine sb [.tmp 2] Tryz.func345 ?_;intro Q hQ;refine wk F ?_;refine kq F (b1 _) ?_;refine ee hQ F ?_;exact M9 (.int _ _) ⟨by simp[foldR,k1,k2,h1,w32],rfl⟩
def foldS(s:Bs):Bs:=encs ((runesF s).map foldR)
theorem rL(s:Bs)(hs:s.length≤1000000)(h:Heap):Sat (CT G) 318 [.str s] h (fun r h'=>r=.str (foldS s)∧h'=h):=by
 have F:= @mF;refine sb [.tmp 2] Tryz.func318 ?_;intro Q hQ;(repeat (first|refine w1 (fun K hK=>?_)|refine w2 ?_|refine w3 ?_| ((first|refine w4 ?_|refine wD ?_|refine w5 ?_|refine w6 ?_|refine w7 ?_);try refine sq F ?_)| (refine w8 ?_;refine sq F ?_;refine w9 ?_)))
 refine hK _ _ (I9 ?_);clear hK K;(repeat (first|refine w1 (fun K hK=>?_)|refine w2 ?_|refine w3 ?_| ((first|refine w4 ?_|refine wD ?_|refine w5 ?_|refine w6 ?_|refine w7 ?_);try refine sq F ?_)| (refine w8 ?_;refine sq F ?_;refine w9 ?_)))
 refine hK _ _ ⟨_,_,Weak.virtCell (p:=h.length) (v:=0) 5 1 (by omega) (by simp(disch:=first|omega| (simp only[go_sem, ↓reduceIte,seval];first|done|omega)|fail) only[go_sem, ↓reduceIte,seval,F];rfl) 1 rfl,?_⟩;clear hK K;refine wk F ?_;refine lm (fun nL tL hL=>∃(a:AVal) (v k:Nat) (out:List Int),s.length-k=nL∧bldH h [.iter s k] a v (encs out)=hL∧bldA a h.length∧k≤s.length∧out++(runesF (s.drop k)).map foldR=(runesF s).map foldR∧(encs out).length+4*(s.length-k)≤4*s.length) ((fun(a:AVal) (v k:Nat) (out:List Int)=>(s.length-k:Nat)) ((.nil (.pointer none))) (0) (0) ([])) ?_ ?_
 ·refine I9 ⟨(.nil (.pointer none)),0,0,[],rfl,by simp[bldH,bldR,bufR,encs],.inl rfl,by omega,by simp,by simp[encs]⟩;all_goals try exact zZz F
 rintro _ s2 h' ⟨a,v,k,out,rfl,rfl,ha,hk,hv,hl⟩ K2 hK2;refine wk F ?_;refine eV (mE _ _ _ _ _ _ _) (fun hlt=>?_) (fun hge=>?_)
 ·have hR:=jd s k hlt;have hp:=aO s k hlt;rw[fC s k hlt,L5]at hv;rw[show Utf8.decode ⟨s.toArray⟩ k=dec s k from rfl];generalize dec s k=d at*;obtain⟨c,m⟩:=d;simp only[]at hR hp hv ⊢;have hR2:=gL hR;have he:=eJ (foldR c);have e2:encs (out++[foldR c])=encs out++enc (foldR c):=by
   simp only[encs,List.flatMap_append,S8,List.flatMap_nil,M6]
  try refine sq F ?_
  refine wk F ?_;refine kq F (rK G c hR _) ?_;refine kq F (ef G a (foldR c) hR2 h [.iter s (k+m)] v (encs out) ha (by omega)) ?_;refine hK2 _ _ _ (I9 ⟨(.hp h.length 0 0 0),v+1,k+m,out++[foldR c],rfl,by rw[e2],.inr rfl,by omega,by rw[← hv];simp,by rw[e2];simp only[J5];omega⟩) (by omega);all_goals try exact zZz F
 ·rw[eC s k (by omega)]at hv;try refine sq F ?_
  refine wk F ?_;refine(jK G a h [.iter s k] v (encs out)).mono ?_;rintro r h' ⟨rfl,b2,rfl⟩;try refine sq F ?_
  refine wk F ?_;refine ee hQ F ?_;exact Fin.plainE (j:=[bldR a (h.length+1) v (encs out),b2,.iter s k]) (by simp) (.str _) ⟨L9 AVal.str (by unfold foldS;rw[← hv];simp),rfl⟩
theorem iv(s:Bs):(foldS s).length≤4*s.length:=by
 unfold foldS;have h1:=(gH ((runesF s).map foldR)).1;have h2:=cu s.length s (J1 _);rw[I4]at h1;omega
def shN:Nat→Bs→Nat→Nat
 |0,_,_=>0
 |f+1,s,n=>if s=[]then 0 else if n=32 then 0 else(dec s 0).2+shN f (s.drop (dec s 0).2) (n+1)
def shW(s:Bs):Bs:=s.take (shN s.length s 0)
theorem u4:∀(f:Nat) (s:Bs) (n:Nat),s.length≤f→shN f s n=shN s.length s n:=by
 intro f;induction f using Nat.strongRecOn with
 |ind f ih=>
  intro s n hs;cases s with
  |nil=>cases f<;>rfl
  |cons b t=>
   obtain⟨f,rfl⟩:∃g,f=g+1:=⟨f-1,by simp at hs;omega⟩;have hd:=aO (b::t) 0 (by simp);simp only[I7]at hs hd ⊢;have hl:((b::t).drop (dec (b::t) 0).2).length≤t.length:=(by simp only[N2,I7];omega);rw[shN,shN,I0 (show ¬(b::t)=[] by simp),I0 (show ¬(b::t)=[] by simp),ih f (by omega) _ _ (by omega),ih t.length (by omega) _ _ hl]
def shA(s:Bs)(k n:Nat):Nat:=shN (s.drop k).length (s.drop k) n
theorem vD(s:Bs)(k n:Nat)(h:s.length≤k):shA s k n=0:=by unfold shA;rw[P3 h];rfl
theorem x9(s:Bs)(k n:Nat)(h:k<s.length):shA s k n=if n=32 then 0 else(dec s k).2+shA s (k+(dec s k).2) (n+1):=by
 have hd:=aO s k h;have hl:(s.drop k).length=(s.length-k-1)+1:=by rw[N2];omega
 unfold shA;rw[hl,shN,I0 (by intro e;rw[e]at hl;simp at hl), ← bM,T4,u4 (s.length-k-1) _ _ (by simp only[N2];omega)]
theorem pW(s:Bs)(hs:s.length≤100000000)(h:Heap):Sat (CT G) 321 [.str s] h (fun r h'=>r=.str (shW s)∧h'=h):=by
 refine sb [.tmp 2] Tryz.func321 ?_;intro Q hQ;refine wk trivial ?_;refine lm (fun nL tL hL=>∃(k n:Nat),s.length-k=nL∧h++[.iter s k]=hL∧tL 3=.int .i64 n∧k≤s.length∧n≤32∧k+shA s k n=shN s.length s 0) ((fun(k n:Nat)=>(s.length-k:Nat)) (0) (0)) ?_ ?_
 ·refine I9 ⟨0,0,rfl,az,?_,by omega,by omega,by simp[shA]⟩;all_goals try exact zZz trivial
 rintro _ s2 h' ⟨k,n,rfl,rfl,e3,hk,hn,hc⟩ K2 hK2;simp only[ah,ar,Nat.reduceEqDiff, ↓reduceIte]at e3;have F:=e3;refine wk F ?_;refine eV (kE _ _ _ _) (fun hlt=>?_) (fun hge=>?_)
 ·have hp:=aO s k hlt;have hca:=x9 s k n hlt;rw[show Utf8.decode ⟨s.toArray⟩ k=dec s k from rfl];generalize dec s k=d at*;obtain⟨c,m⟩:=d;simp only[]at hp hca ⊢;try refine sq F ?_
  refine wk F ?_;refine cq F (fun c1=>?_) (fun c1=>?_)<;>(try exact c1.elim)<;>(refine wk F ?_)
  ·have c2:n=32:=(by omega);rw[I6 c2]at hca;refine ee hQ F ?_;refine fR (.str _) ?_;unfold shW;congr 2
   omega
  ·have c2:¬n=32:=(by omega);rw[I0 c2]at hca;refine hK2 _ _ _ (I9 ⟨k+m,n+1,rfl,az,?_,by omega,by omega,by omega⟩) (by omega);all_goals try exact zZz F
 ·rw[vD s k n (by omega)]at hc;try refine sq F ?_
  refine wk F ?_;refine ee hQ F ?_;refine fR (.str _) ?_;unfold shW;rw[← hc,J6 (by omega)]
def wordsF(s:Bs):List Bs:=(fldsF (foldS s)).map shW
theorem u5(s:Bs):∀w∈fldsF s,w.length≤s.length:=fun w hw=>by
 unfold fldsF Lib.goFieldsP at hw;rw[X2]at hw;obtain⟨x,_,rfl⟩:=J8.1 hw;simp only[Function.comp,ByteArray.extract,ByteArray.copySlice,Array.toList_append,Array.toList_extract,J5];simp[List.extract];omega
theorem ea(p:Nat→Bool)(s:ByteArray):∀(f pos:Nat) (st:Option Nat) (acc:List (Nat×Nat)),(Lib.spansFromP p s f pos st acc).1.length≤acc.length+f
 |0,_,_,acc=>by simp[Lib.spansFromP]
 |f+1,pos,st,acc=>by
  unfold Lib.spansFromP;split
  ·split
   ·cases st with
    |some a=>have:=ea p s f (pos+(Utf8.decode s pos).2) none (acc++[(a,pos)]);simp only[J5,I7,M0]at this;simp only;omega
    |none=>have:=ea p s f (pos+(Utf8.decode s pos).2) none acc;simp only;omega
   ·cases st with
    |some a=>have:=ea p s f (pos+(Utf8.decode s pos).2) (some a) acc;simp only;omega
    |none=>have:=ea p s f (pos+(Utf8.decode s pos).2) (some pos) acc;simp only;omega
  ·simp only;omega
theorem u6(s:Bs):(fldsF s).length≤s.length+1:=by
 unfold fldsF Lib.goFieldsP Lib.spansOfP;rw[I4,I4];have:=ea (fun r=> !letF r) ⟨s.toArray⟩ (ByteArray.size ⟨s.toArray⟩) 0 none [];have hsz:ByteArray.size ⟨s.toArray⟩=s.length:=by simp[ByteArray.size]
 rw[hsz]at this ⊢;unfold Lib.closeSpans;simp only[M0]at this;split
 ·simp only[J5,I7,M0];omega
 ·omega
theorem pY(s:Bs)(hs:s.length≤100000)(h:Heap):Sat (CT G) 299 [.str s] h (fun r h'=>r=.sl 1 ((wordsF s).map .str)∧h'=h):=by
 have hfl:=iv s;have hwl:=u5 (foldS s);have hn:=u6 (foldS s);refine sb [.tmp 2] Tryz.func299 ?_;intro Q hQ;refine wk trivial ?_;refine kq trivial (rL G s (by omega) _) ?_;refine(pP G (foldS s) (by omega) _).mono ?_;unfold wordsF at hQ;generalize fldsF (foldS s)=ws at*;rintro r h' (⟨hw0,rfl,he⟩| ⟨hw0,rfl,rfl⟩)
 ·subst hw0;rw[he];try refine sq trivial ?_
  refine wk trivial ?_;refine lm (fun nL tL hL=>0=nL∧[]++h=hL∧tL 3=.sl 1 []∧tL 10=.int .i64 0∧tL 11=.int .i64 0) (0) ?_ ?_
  ·refine I9 ⟨rfl,rfl,?_,?_,?_⟩;all_goals try exact zZz trivial
  rintro _ s2 h' ⟨rfl,rfl,e3,e10,e11⟩ K2 hK2;simp only[ah,ar,Nat.reduceEqDiff, ↓reduceIte]at e3 e10 e11;have F:=F3 e3 e10 e11;refine wk F ?_;refine cq F (fun c1=>?_) (fun c1=>?_)<;>(try exact c1.elim)<;>(refine wk F ?_)
  refine ye hQ F ?_;exact M9 (Clo.sl 1 [] fun x hx=>by cases hx) ⟨rfl,rfl⟩
 ·try refine sq trivial ?_
  refine wk trivial ?_;refine lm (fun nL tL hL=>∃(k:Nat),ws.length-k=nL∧h++[.row 9 1 0 (((ws.take k).map shW++ws.drop k).map .str)]=hL∧tL 3=.hs h.length 0 0 ws.length true∧tL 9=.hs h.length 0 0 ws.length true∧tL 10=.int .i64 (ws.length:Int)∧tL 11=.int .i64 k∧k≤ws.length) ((fun(k:Nat)=>(ws.length-k:Nat)) (0)) ?_ ?_
  ·refine I9 ⟨0,rfl,az,?_,?_,?_,?_,by omega⟩;all_goals try exact zZz trivial
  rintro _ s2 h' ⟨k,rfl,rfl,e3,e9,e10,e11,hk⟩ K2 hK2;simp only[ah,ar,Nat.reduceEqDiff, ↓reduceIte]at e3 e9 e10 e11;have F:=F4 e3 e9 e10 e11;refine wk F ?_;refine cq F (fun c1=>?_) (fun c1=>?_)<;>(try exact c1.elim)<;>(refine wk F ?_)
  ·have c2:k<ws.length:=(by omega);obtain⟨y,hy,hym⟩:=ac c2;have hyl:=hwl y hym;have hget:((ws.take k).map shW++ws.drop k)[k]? =some y:=by
    rw[J4 (by simp;omega),I4,M2,W8 (by omega),Nat.sub_self,N4];simpa using hy
   have hset:(((ws.take k).map shW++ws.drop k).map AVal.str).set k (.str (shW y))=((ws.take (k+1)).map shW++ws.drop (k+1)).map .str:=by
    have h1:(AVal.str (shW y))=AVal.str (shW y):=rfl;rw[← List.map_set];congr 1
    rw[List.set_append_right _ _ (by simp;omega),I4,M2,W8 (by omega),Nat.sub_self,aE hy,List.set_cons_zero,M8,hy];simp
   have hlen:(((ws.take k).map shW++ws.drop k).map AVal.str).length=ws.length:=(by simp;omega);generalize hrw:(ws.take k).map shW++ws.drop k=rw at*;have F:=F6 F c2 @hget @hset @hlen @ao;(try refine sq F ?_);refine wk F ?_;refine kq F (pW G y (by omega) _) ?_;refine hK2 _ _ _ (I9 ⟨k+1,rfl,rfl,?_,?_,?_,?_,by omega⟩) (by omega);all_goals try exact zZz F
  ·have hk2:k=ws.length:=(by omega);subst hk2;have hfin:(ws.take ws.length).map shW++ws.drop ws.length=ws.map shW:=(by rw[W2,List.drop_length,M6]);rw[hfin];have hg:getRow (h++[.row 9 1 0 ((ws.map shW).map .str)]) h.length 0=some (9,1,(ws.map shW).map .str):=(by rw[aR _ rfl];simp[getRow]);have hz:=U9 (n:=h.length) (len:=ws.length) (room:=true) (J1 _) hg (by simp) (fun r hr=>by obtain⟨a,_,rfl⟩:=J8.1 hr;exact .str _) (fun r hr c hc=>by obtain⟨a,_,rfl⟩:=J8.1 hr;simp[AVal.cells]at hc;subst hc;rfl);refine ye hQ F ?_;exact X1 hz ⟨rfl,rfl⟩
def isF(s:Bs):Bool:=decide (wordsF s=[s])
theorem vE(s:Bs)(hs:s.length≤100000)(h:Heap):Sat (CT G) 259 [.str s] h (fun r h'=>r=.bool (isF s)∧h'=h):=by
 have hW:=pY G s hs;unfold isF;generalize wordsF s=ws at*
 match ws with
 | []=>
  refine sb [.tmp 2] Tryz.func259 ?_;intro Q hQ;refine wk trivial ?_;refine kq trivial (hW _) ?_;refine ee hQ trivial ?_;exact M9 (.bool _) ⟨by simp,rfl⟩
 | [w]=>
  refine sb [.tmp 2] Tryz.func259 ?_;intro Q hQ;refine wk trivial ?_;refine kq trivial (hW _) ?_;refine ee hQ trivial ?_;exact M9 (.bool _) ⟨by simp;rw[N8];simp,rfl⟩
 |w::v::l=>
  refine sb [.tmp 2] Tryz.func259 ?_;intro Q hQ;refine wk trivial ?_;refine kq trivial (hW _) ?_;(first|refine gq trivial (fun g=>?_) (fun g=>?_)|refine pq trivial (fun g=>?_) (fun g=>?_))<;>(try exact g.elim)<;>(try refine sq trivial ?_)<;>(refine wk trivial ?_)
  ·exfalso;first|omega| (simp at g;omega)
  ·refine ee hQ trivial ?_;exact M9 (.bool _) ⟨by simp,rfl⟩
theorem jZ{x:Int}(h0:0≤x)(h1:x<256):IntKind.u8.wrap x=x:=by
 simp only[IntKind.wrap,IntKind.bits,IntKind.signed];simp;omega
theorem s7(k:IntKind)(n:Int)(h0:0≤n)(h1:n<256):aconv Tryz.prog 21 5 (.int k n)=some (.int .u8 n):=by simp only[aconv,go_sem,jZ h0 h1]
theorem uw{a b:Int}(h0:0≤a):a.tdiv b=a/b:=Int.tdiv_eq_ediv_of_nonneg h0
theorem ux{a b:Int}(h0:0≤a):a.tmod b=a%b:=Int.tmod_eq_emod_of_nonneg h0
theorem Bytes.cloN(n m:Nat)(l:Bs):Clo n (.sl m (l.map bytA)):=.sl _ _ fun e he=>by obtain⟨a,_,rfl⟩:=J8.1 he;exact .int _ _
theorem mZ(r:Int)(hr:Rune r)(h:Heap):Sat (CT G) 201 [.int .i32 r] h (fun x h'=>x=.sl 1 ((enc r).map bytA)∧h'=h):=by
 obtain⟨h0,h1⟩:=id hr;have n64:((64:Int)=0)=False:=by decide
 have F:=F4 @s7 @c9 @uw @ux;refine sb [.tmp 2] Tryz.func201 ?_;intro Q hQ;(repeat (first|refine w1 (fun K hK=>?_)|refine w2 ?_|refine w3 ?_| ((first|refine w4 ?_|refine wD ?_|refine w5 ?_|refine w6 ?_|refine w7 ?_);try refine sq F ?_)| (refine w8 ?_;refine sq F ?_;refine w9 ?_)| (refine rq F ?_;try refine sq F ?_)| (refine vq F ?_;try refine sq F ?_)| ((first|refine hK _ _ (w0 ?_)| (clear hK K;refine hK _ _ (w0 ?_))| (clear hK K;clear hK K;refine hK _ _ (w0 ?_)));clear hK K)))
 (first|refine gq F (fun g1=>?_) (fun g1=>?_)|refine pq F (fun g1=>?_) (fun g1=>?_))<;>(try exact g1.elim)<;>(try refine sq F ?_)<;>((repeat (first|refine w1 (fun K hK=>?_)|refine w2 ?_|refine w3 ?_| ((first|refine w4 ?_|refine wD ?_|refine w5 ?_|refine w6 ?_|refine w7 ?_);try refine sq F ?_)| (refine w8 ?_;refine sq F ?_;refine w9 ?_)| (refine rq F ?_;try refine sq F ?_)| (refine vq F ?_;try refine sq F ?_)| ((first|refine hK _ _ (w0 ?_)| (clear hK K;refine hK _ _ (w0 ?_))| (clear hK K;clear hK K;refine hK _ _ (w0 ?_)));clear hK K))))
 ·exfalso;omega
 ·have big:∀(t':Env),t' 0=.int .i32 r→t' 16=.bool false→K t' h:=by
   intro t' e0 e16;refine hK _ _ (I9 ?_);clear hK K;have F:=F3 F e0 e16;(repeat (first|refine w1 (fun K hK=>?_)|refine w2 ?_|refine w3 ?_| ((first|refine w4 ?_|refine wD ?_|refine w5 ?_|refine w6 ?_|refine w7 ?_);try refine sq F ?_)| (refine w8 ?_;refine sq F ?_;refine w9 ?_)| (refine rq F ?_;try refine sq F ?_)| (refine vq F ?_;try refine sq F ?_)| ((first|refine hK _ _ (w0 ?_)| (clear hK K;refine hK _ _ (w0 ?_))| (clear hK K;clear hK K;refine hK _ _ (w0 ?_)));clear hK K)))
   have fin:∀l:List AVal,(enc r).map bytA=l→Fin h h (fun x h'=>x=.sl 1 ((enc r).map bytA)∧h'=h) (.sl 1 l):=fun l e=>by
    rw[← e];exact jg (.clo _ (Bytes.cloN _ _ _)) ⟨rfl,rfl⟩
   refine cq F (fun c1=>?_) (fun c1=>?_)<;>(try exact c1.elim)<;>((repeat (first|refine w1 (fun K hK=>?_)|refine w2 ?_|refine w3 ?_| ((first|refine w4 ?_|refine wD ?_|refine w5 ?_|refine w6 ?_|refine w7 ?_);try refine sq F ?_)| (refine w8 ?_;refine sq F ?_;refine w9 ?_)| (refine rq F ?_;try refine sq F ?_)| (refine vq F ?_;try refine sq F ?_)| ((first|refine hK _ _ (w0 ?_)| (clear hK K;refine hK _ _ (w0 ?_))| (clear hK K;clear hK K;refine hK _ _ (w0 ?_)));clear hK K))))
   ·refine ee hQ F ?_;exact fin _ (wX h0 c1)
   ·refine cq F (fun c2=>?_) (fun c2=>?_)<;>(try exact c2.elim)<;>((repeat (first|refine w1 (fun K hK=>?_)|refine w2 ?_|refine w3 ?_| ((first|refine w4 ?_|refine wD ?_|refine w5 ?_|refine w6 ?_|refine w7 ?_);try refine sq F ?_)| (refine w8 ?_;refine sq F ?_;refine w9 ?_)| (refine rq F ?_;try refine sq F ?_)| (refine vq F ?_;try refine sq F ?_)| ((first|refine hK _ _ (w0 ?_)| (clear hK K;refine hK _ _ (w0 ?_))| (clear hK K;clear hK K;refine hK _ _ (w0 ?_)));clear hK K))))
    ·refine ee hQ F ?_;exact fin _ (by rw[wY c1 c2])
    ·refine cq F (fun c3=>?_) (fun c3=>?_)<;>(try exact c3.elim)<;>((repeat (first|refine w1 (fun K hK=>?_)|refine w2 ?_|refine w3 ?_| ((first|refine w4 ?_|refine wD ?_|refine w5 ?_|refine w6 ?_|refine w7 ?_);try refine sq F ?_)| (refine w8 ?_;refine sq F ?_;refine w9 ?_)| (refine rq F ?_;try refine sq F ?_)| (refine vq F ?_;try refine sq F ?_)| ((first|refine hK _ _ (w0 ?_)| (clear hK K;refine hK _ _ (w0 ?_))| (clear hK K;clear hK K;refine hK _ _ (w0 ?_)));clear hK K))))
     ·refine ee hQ F ?_;exact fin _ (by rw[tQ hr c2 c3])
     ·refine ee hQ F ?_;exact fin _ (by rw[wZ c3 (by omega)])
  (first|refine gq F (fun g2=>?_) (fun g2=>?_)|refine pq F (fun g2=>?_) (fun g2=>?_))<;>(try exact g2.elim)<;>(try refine sq F ?_)<;>((repeat (first|refine w1 (fun K hK=>?_)|refine w2 ?_|refine w3 ?_| ((first|refine w4 ?_|refine wD ?_|refine w5 ?_|refine w6 ?_|refine w7 ?_);try refine sq F ?_)| (refine w8 ?_;refine sq F ?_;refine w9 ?_)| (refine rq F ?_;try refine sq F ?_)| (refine vq F ?_;try refine sq F ?_)| ((first|refine hK _ _ (w0 ?_)| (clear hK K;refine hK _ _ (w0 ?_))| (clear hK K;clear hK K;refine hK _ _ (w0 ?_)));clear hK K))))
  ·exfalso;omega
  ·(first|refine gq F (fun g3=>?_) (fun g3=>?_)|refine pq F (fun g3=>?_) (fun g3=>?_))<;>(try exact g3.elim)<;>(try refine sq F ?_)<;>((repeat (first|refine w1 (fun K hK=>?_)|refine w2 ?_|refine w3 ?_| ((first|refine w4 ?_|refine wD ?_|refine w5 ?_|refine w6 ?_|refine w7 ?_);try refine sq F ?_)| (refine w8 ?_;refine sq F ?_;refine w9 ?_)| (refine rq F ?_;try refine sq F ?_)| (refine vq F ?_;try refine sq F ?_)| ((first|refine hK _ _ (w0 ?_)| (clear hK K;refine hK _ _ (w0 ?_))| (clear hK K;clear hK K;refine hK _ _ (w0 ?_)));clear hK K))))
   ·have e:decide (r≤57343)=false:=(by rw[decide_eq_false_iff_not];omega);refine big _ ?_ ?_
    ·exact zq F
    ·exact zq (F2 F e)
   ·refine big _ ?_ ?_
    ·exact zq F
    ·exact zq F
theorem iz:bytesStr Tryz.prog 125 9=true:=by kernel_rfl
def runAN(r:Int):AVal:=.int .i32 r
@[go_sem] theorem yz(r:Int):(runAN r).cells=[.int .i32 r]:=(rfl)
theorem uy(l:List Int)(hr:∀r∈l,Rune r)(hl:l.length≤1048576)(h:Heap):Sat (CT G) 145 [.sl 1 (l.map runAN)] h (fun x h'=>x=.str (l.flatMap enc)∧h'=h):=by
 have hll:(l.map runAN).length=l.length:=I4 ..;have F:=hll;refine sb [.tmp 2] Tryz.func145 ?_;intro Q hQ;refine wk F ?_;refine lm (fun nL tL hL=>∃(k v:Nat) (acc:Bs),l.length-k=nL∧h++[.row 5 1 v (acc.map bytA)]=hL∧tL 3=.hs h.length v 0 acc.length true∧tL 4=.int .i64 k∧k≤l.length∧acc++(l.drop k).flatMap enc=l.flatMap enc∧acc.length≤4*k) ((fun(k v:Nat) (acc:Bs)=>(l.length-k:Nat)) (0) (0) ([])) ?_ ?_
 ·refine⟨_,_,V3 3 5 1 (by simp) (by omega) (by exact zq F),⟨0,0,[],rfl,az,?_,?_,?_,?_,?_⟩⟩;all_goals try exact zZz F
 rintro _ s2 h' ⟨k,v,acc,rfl,rfl,e3,e4,hk,hp,hz⟩ K2 hK2;simp only[ah,ar,Nat.reduceEqDiff, ↓reduceIte]at e3 e4;have F:=F3 F e3 e4;refine wk F ?_;refine cq F (fun hc=>?_) (fun hc=>?_)<;>(try exact hc.elim)
 ·obtain⟨y,hy,hym⟩:=ac hc;rw[aE hy,S8]at hp;have he:=eJ y;have hel:((enc y).map bytA).length=(enc y).length:=I4 ..;have F:=F2 F hy;refine wk F ?_;refine kq F (mZ G y (hr y hym) _) ?_;refine aq F ?_;try refine sq F ?_
  refine wk F ?_;refine hK2 _ _ _ (I9 ⟨k+1,v+1,acc++enc y,rfl,az,?_,?_,by omega,by rw[← hp];simp,by simp;omega⟩) (by omega);all_goals try exact zZz F
 ·rw[aK hc,List.flatMap_nil,M6]at hp;have hb:=gG acc;have hel:elemsOf (h++[.row 5 1 v (acc.map bytA)]) 1 (.hs h.length v 0 acc.length true)=some (acc.map bytA):=by
   simp[elemsOf,getRow,J6]
  have F:=F4 F hb hel @iz;refine wk F ?_;refine ee hQ F ?_;rw[← hp];exact Fin.plainE (j:=_) rfl (.str _) ⟨rfl,rfl⟩
def bAN(s:Bs)(i:Nat):Nat:=(s.getD i 0).toNat
theorem s8(s:Bs)(i:Nat):bAN s i<256:=UInt8.toNat_lt _
theorem s9{s:Bs}{i:Nat}{c:UInt8}(h:s[i]? =some c):bAN s i=c.toNat:=by unfold bAN;rw[Q9,h];rfl
def ClsN(b:Nat)(n:Nat)(r l:Int):Prop:=
 (192≤b∧b<224∧n=2∧r=b-192∧l=128)∨(224≤b∧b<240∧n=3∧r=b-224∧l=2048)∨(240≤b∧b<248∧n=4∧r=b-240∧l=65536)
def accIN(s:Bs)(r:Int):Nat→Int
 |0=>r
 |i+1=>accIN s r i*64+(bAN s (i+1)-128)
theorem ka(s:Bs):dec s 0=Lib.decodeN s.length (bAN s 0) (bAN s 1) (bAN s 2) (bAN s 3):=by rw[fB];rfl
theorem j6(s:Bs)(h:(128≤bAN s 0∧bAN s 0<192)∨248≤bAN s 0):dec s 0=(65533,1):=by
 rw[ka];have:=s8 s 0;unfold Lib.decodeN;rw[I0 (by omega),I0 (by omega),I0 (by omega),I0 (by omega)]
theorem na(s:Bs){n:Nat}{r l:Int}(hc:ClsN (bAN s 0) n r l)(h:s.length<n):dec s 0=(65533,1):=by
 rw[ka];unfold ClsN at hc;unfold Lib.decodeN;rw[I0 (by omega),I0 (by omega),I0 (by omega),I0 (by omega)]
theorem o3(s:Bs){n:Nat}{r l:Int}(hc:ClsN (bAN s 0) n r l)(i:Nat)(h1:1≤i)(h2:i<n)(h:¬(128≤bAN s i∧bAN s i<192)):dec s 0=(65533,1):=by
 rw[ka];unfold ClsN at hc;have:=s8 s i;unfold Lib.decodeN;have hi:i=1∨i=2∨i=3:=by omega
 rcases hi with rfl|rfl|rfl<;>rw[I0 (by omega),I0 (by omega),I0 (by omega),I0 (by omega)]
theorem qh(s:Bs){n:Nat}{r l:Int}(hc:ClsN (bAN s 0) n r l)(hn:n≤s.length)(ht:∀i,1≤i→i<n→128≤bAN s i∧bAN s i<192):
  ((accIN s r (n-1)<l∨1114111<accIN s r (n-1)∨(55296≤accIN s r (n-1)∧accIN s r (n-1)≤57343))→dec s 0=(65533,1))∧
  (¬(accIN s r (n-1)<l∨1114111<accIN s r (n-1)∨(55296≤accIN s r (n-1)∧accIN s r (n-1)≤57343))→((dec s 0).1:Int)=accIN s r (n-1)∧(dec s 0).2=n):=by
 rw[ka];unfold ClsN at hc;rcases hc with⟨h1,h2,rfl,rfl,rfl⟩| ⟨h1,h2,rfl,rfl,rfl⟩| ⟨h1,h2,rfl,rfl,rfl⟩
 ·have t1:=ht 1 (by omega) (by omega);simp only[accIN,Nat.reduceSub,Nat.reduceAdd];unfold Lib.decodeN;rw[I0 (by omega),I6 (by omega)];constructor
  ·intro h;rw[I0 (by omega)]
  ·intro h;rw[I6 (by omega)];dsimp only;refine⟨?_,rfl⟩;omega
 ·have t1:=ht 1 (by omega) (by omega);have t2:=ht 2 (by omega) (by omega);simp only[accIN,Nat.reduceSub,Nat.reduceAdd];unfold Lib.decodeN;rw[I0 (by omega),I0 (by omega),I6 (by omega)];constructor
  ·intro h;rw[I0 (by omega)]
  ·intro h;rw[I6 (by omega)];dsimp only;refine⟨?_,rfl⟩;omega
 ·have t1:=ht 1 (by omega) (by omega);have t2:=ht 2 (by omega) (by omega);have t3:=ht 3 (by omega) (by omega);simp only[accIN,Nat.reduceSub,Nat.reduceAdd];unfold Lib.decodeN;rw[I0 (by omega),I0 (by omega),I0 (by omega),I6 (by omega)];constructor
  ·intro h;rw[I0 (by omega)]
  ·intro h;rw[I6 (by omega)];dsimp only;refine⟨?_,rfl⟩;omega
theorem qj(b:UInt8)(h:Heap):Sat (CT G) 200 [.int .u8 b.toNat] h (fun r h'=>r=.bool (decide (128≤b.toNat∧b.toNat<192))∧h'=h):=by
 refine sb [.tmp 2] Tryz.func200 ?_;intro Q hQ;refine wk trivial ?_;(first|refine gq trivial (fun g1=>?_) (fun g1=>?_)|refine pq trivial (fun g1=>?_) (fun g1=>?_))<;>(try exact g1.elim)<;>(try refine sq trivial ?_)<;>(refine wk trivial ?_)
 ·refine ee hQ trivial ?_;refine fR (.bool _) ?_;congr 1
  rw[N8];simp;omega
 ·refine ee hQ trivial ?_;refine fR (.bool _) ?_;rw[J3 (by omega)]
theorem sa(k:IntKind)(n:Int)(h0:0≤n)(h1:n<256):aconv Tryz.prog 5 21 (.int k n)=some (.int .i32 n):=by simp only[aconv,go_sem,c9 (x:=n) (by omega) (by omega)]
theorem gP(s:Bs)(hne:s≠ [])(hs:s.length≤1073741824)(h:Heap):Sat (CT G) 142 [.str s] h (fun r h'=>r=.tup [.int .i32 (dec s 0).1,.int .i64 (dec s 0).2]∧h'=h):=by
 have hpos:0<s.length:=U4.2 hne;obtain⟨b,hb,_⟩:=ac hpos;have hbA:=s9 hb;have hb256:=b.toNat_lt;have fin:∀c w:Int,((dec s 0).1:Int)=c→((dec s 0).2:Int)=w→Fin h h (fun r h'=>r=.tup [.int .i32 (dec s 0).1,.int .i64 (dec s 0).2]∧h'=h) (.tup [.int .i32 c,.int .i64 w]):=fun c w e1 e2=>by
  rw[e1,e2];exact M9 (.tup _ (by intro c hc;simp at hc;rcases hc with rfl|rfl<;>exact .int _ _)) ⟨rfl,rfl⟩
 have bad:dec s 0=(65533,1)→Fin h h (fun r h'=>r=.tup [.int .i32 (dec s 0).1,.int .i64 (dec s 0).2]∧h'=h) (.tup [.int .i32 65533,.int .i64 1]):=fun e=>fin _ _ (by rw[e];rfl) (by rw[e];rfl)
 have F:=F4 @sa @jZ @c9 hb;refine sb [.tmp 2,.tmp 3] Tryz.func142 ?_;intro Q hQ;(repeat (first|refine w1 (fun K hK=>?_)|refine w2 ?_|refine w3 ?_| ((first|refine w4 ?_|refine wD ?_|refine w5 ?_|refine w6 ?_|refine w7 ?_);try refine sq F ?_)| (refine w8 ?_;refine sq F ?_;refine w9 ?_)| ((first|refine hK _ _ (w0 ?_)| (clear hK K;refine hK _ _ (w0 ?_))| (clear hK K;clear hK K;refine hK _ _ (w0 ?_)));clear hK K)))
 refine cq F (fun c1=>?_) (fun c1=>?_)<;>(try exact c1.elim)<;>((repeat (first|refine w1 (fun K hK=>?_)|refine w2 ?_|refine w3 ?_| ((first|refine w4 ?_|refine wD ?_|refine w5 ?_|refine w6 ?_|refine w7 ?_);try refine sq F ?_)| (refine w8 ?_;refine sq F ?_;refine w9 ?_)| ((first|refine hK _ _ (w0 ?_)| (clear hK K;refine hK _ _ (w0 ?_))| (clear hK K;clear hK K;refine hK _ _ (w0 ?_)));clear hK K))))
 ·refine ee hQ F ?_;have e:=lq s 0 b hb (by omega);exact fin _ _ (by rw[e]) (by rw[e];rfl)
 rename_i K0 hK0;have tail:∀(t':Env) (n:Nat) (r l:Int),ClsN (bAN s 0) n r l→t' 0=.str s→t' 5=.int .i64 n→t' 6=.int .i32 r→t' 7=.int .i32 l→K0 t' h:=by
  intro t' n r l hc e0 e5 e6 e7;refine hK0 _ _ (I9 ?_);clear hK0 K0 hK K;have F:=F5 F e0 e5 e6 e7;(repeat (first|refine w1 (fun K hK=>?_)|refine w2 ?_|refine w3 ?_| ((first|refine w4 ?_|refine wD ?_|refine w5 ?_|refine w6 ?_|refine w7 ?_);try refine sq F ?_)| (refine w8 ?_;refine sq F ?_;refine w9 ?_)| ((first|refine hK _ _ (w0 ?_)| (clear hK K;refine hK _ _ (w0 ?_))| (clear hK K;clear hK K;refine hK _ _ (w0 ?_)));clear hK K)))
  refine cq F (fun c2=>?_) (fun c2=>?_)<;>(try exact c2.elim)<;>((repeat (first|refine w1 (fun K hK=>?_)|refine w2 ?_|refine w3 ?_| ((first|refine w4 ?_|refine wD ?_|refine w5 ?_|refine w6 ?_|refine w7 ?_);try refine sq F ?_)| (refine w8 ?_;refine sq F ?_;refine w9 ?_)| ((first|refine hK _ _ (w0 ?_)| (clear hK K;refine hK _ _ (w0 ?_))| (clear hK K;clear hK K;refine hK _ _ (w0 ?_)));clear hK K))))
  ·refine ee hQ F ?_;exact bad (na s hc (by omega))
  have hc':=hc;unfold ClsN at hc';refine lm (fun nL tL hL=>∃(i:Nat) (q:Int),n-i=nL∧h=hL∧tL 6=.int .i32 q∧tL 8=.int .i64 i∧(1≤i∧i≤n)∧q=accIN s r (i-1)∧(0≤q∧(i=1→q<32)∧(i=2→q<2048)∧(i=3→q<131072)∧(i=4→q<8388608))∧(∀j,1≤j→j<i→128≤bAN s j∧bAN s j<192)) ((fun(i:Nat) (q:Int)=>(n-i:Nat)) (1) (r)) ?_ ?_
  ·refine I9 ⟨1,r,rfl,az,?_,?_,⟨by omega,by omega⟩,rfl,⟨by omega,by omega,by omega,by omega,by omega⟩,fun j h1 h2=>by omega⟩;all_goals try exact zZz F
  rintro _ s1 h' ⟨i,q,rfl,rfl,e6,e8,hi,hq,hb,ht⟩ K1 hK1;simp only[ah,ar,Nat.reduceEqDiff, ↓reduceIte]at e6 e8;have F:=F3 F e6 e8;(repeat (first|refine w1 (fun K hK=>?_)|refine w2 ?_|refine w3 ?_| ((first|refine w4 ?_|refine wD ?_|refine w5 ?_|refine w6 ?_|refine w7 ?_);try refine sq F ?_)| (refine w8 ?_;refine sq F ?_;refine w9 ?_)| ((first|refine hK _ _ (w0 ?_)| (clear hK K;refine hK _ _ (w0 ?_))| (clear hK K;clear hK K;refine hK _ _ (w0 ?_)));clear hK K)))
  refine cq F (fun c3=>?_) (fun c3=>?_)<;>(try exact c3.elim)<;>((repeat (first|refine w1 (fun K hK=>?_)|refine w2 ?_|refine w3 ?_| ((first|refine w4 ?_|refine wD ?_|refine w5 ?_|refine w6 ?_|refine w7 ?_);try refine sq F ?_)| (refine w8 ?_;refine sq F ?_;refine w9 ?_)| ((first|refine hK _ _ (w0 ?_)| (clear hK K;refine hK _ _ (w0 ?_))| (clear hK K;clear hK K;refine hK _ _ (w0 ?_)));clear hK K))))
  ·obtain⟨y,hy,_⟩:=ac (show i<s.length by omega);have hyA:=s9 hy;have hy256:=y.toNat_lt;have F:=F2 F hy;(try refine sq F ?_);(repeat (first|refine w1 (fun K hK=>?_)|refine w2 ?_|refine w3 ?_| ((first|refine w4 ?_|refine wD ?_|refine w5 ?_|refine w6 ?_|refine w7 ?_);try refine sq F ?_)| (refine w8 ?_;refine sq F ?_;refine w9 ?_)| ((first|refine hK _ _ (w0 ?_)| (clear hK K;refine hK _ _ (w0 ?_))| (clear hK K;clear hK K;refine hK _ _ (w0 ?_)));clear hK K)))
   refine(qj G y _).mono ?_;rintro r h' ⟨rfl,rfl⟩;(try refine sq F ?_);(repeat (first|refine w1 (fun K hK=>?_)|refine w2 ?_|refine w3 ?_| ((first|refine w4 ?_|refine wD ?_|refine w5 ?_|refine w6 ?_|refine w7 ?_);try refine sq F ?_)| (refine w8 ?_;refine sq F ?_;refine w9 ?_)| ((first|refine hK _ _ (w0 ?_)| (clear hK K;refine hK _ _ (w0 ?_))| (clear hK K;clear hK K;refine hK _ _ (w0 ?_)));clear hK K)))
   refine cq F (fun c4=>?_) (fun c4=>?_)<;>(try exact c4.elim)<;>((repeat (first|refine w1 (fun K hK=>?_)|refine w2 ?_|refine w3 ?_| ((first|refine w4 ?_|refine wD ?_|refine w5 ?_|refine w6 ?_|refine w7 ?_);try refine sq F ?_)| (refine w8 ?_;refine sq F ?_;refine w9 ?_)| ((first|refine hK _ _ (w0 ?_)| (clear hK K;refine hK _ _ (w0 ?_))| (clear hK K;clear hK K;refine hK _ _ (w0 ?_)));clear hK K))))
   ·refine ee hQ F ?_;exact bad (o3 s hc i hi.1 c3 (by rw[hyA];omega))
   ·have hacc:accIN s r i=accIN s r (i-1)*64+(bAN s i-128):=by
     obtain⟨k,rfl⟩:∃k,i=k+1:=⟨i-1,by omega⟩;rfl
    have hi4:i=1∨i=2∨i=3:=(by omega);have ht':∀j,1≤j→j<i+1→128≤bAN s j∧bAN s j<192:=fun j h1 h2=>by
     rcases T9 j i with h3|h3
     ·exact ht j h1 h3
     ·obtain rfl:j=i:=by omega
      rw[hyA];omega
    have hq':q*64+((y.toNat:Int)-128)=accIN s r (i+1-1):=(by rw[Nat.add_sub_cancel,hacc, ← hq,hyA]);(try refine sq F ?_);(repeat (first|refine w1 (fun K hK=>?_)|refine w2 ?_|refine w3 ?_| ((first|refine w4 ?_|refine wD ?_|refine w5 ?_|refine w6 ?_|refine w7 ?_);try refine sq F ?_)| (refine w8 ?_;refine sq F ?_;refine w9 ?_)| ((first|refine hK _ _ (w0 ?_)| (clear hK K;refine hK _ _ (w0 ?_))| (clear hK K;clear hK K;refine hK _ _ (w0 ?_)));clear hK K)))
    refine hK1 _ _ _ (I9 ⟨i+1,q*64+(y.toNat-128),rfl,az,?_,?_,⟨by omega,by omega⟩,hq',by omega,ht'⟩) (by omega);all_goals try exact zZz F
  ·have hin:i=n:=(by omega);subst hin;obtain⟨f1,f2⟩:=qh s hc (by omega) ht;rw[← hq]at f1 f2;(try refine sq F ?_);(repeat (first|refine w1 (fun K hK=>?_)|refine w2 ?_|refine w3 ?_| ((first|refine w4 ?_|refine wD ?_|refine w5 ?_|refine w6 ?_|refine w7 ?_);try refine sq F ?_)| (refine w8 ?_;refine sq F ?_;refine w9 ?_)| ((first|refine hK _ _ (w0 ?_)| (clear hK K;refine hK _ _ (w0 ?_))| (clear hK K;clear hK K;refine hK _ _ (w0 ?_)));clear hK K)))
   (first|refine gq F (fun g1=>?_) (fun g1=>?_)|refine pq F (fun g1=>?_) (fun g1=>?_))<;>(try exact g1.elim)<;>(try refine sq F ?_)<;>((repeat (first|refine w1 (fun K hK=>?_)|refine w2 ?_|refine w3 ?_| ((first|refine w4 ?_|refine wD ?_|refine w5 ?_|refine w6 ?_|refine w7 ?_);try refine sq F ?_)| (refine w8 ?_;refine sq F ?_;refine w9 ?_)| ((first|refine hK _ _ (w0 ?_)| (clear hK K;refine hK _ _ (w0 ?_))| (clear hK K;clear hK K;refine hK _ _ (w0 ?_)));clear hK K))))
   ·refine ee hQ F ?_;exact bad (f1 (by omega))
   ·(first|refine gq F (fun g2=>?_) (fun g2=>?_)|refine pq F (fun g2=>?_) (fun g2=>?_))<;>(try exact g2.elim)<;>(try refine sq F ?_)<;>((repeat (first|refine w1 (fun K hK=>?_)|refine w2 ?_|refine w3 ?_| ((first|refine w4 ?_|refine wD ?_|refine w5 ?_|refine w6 ?_|refine w7 ?_);try refine sq F ?_)| (refine w8 ?_;refine sq F ?_;refine w9 ?_)| ((first|refine hK _ _ (w0 ?_)| (clear hK K;refine hK _ _ (w0 ?_))| (clear hK K;clear hK K;refine hK _ _ (w0 ?_)));clear hK K))))
    ·refine ee hQ F ?_;exact bad (f1 (by omega))
    ·(first|refine gq F (fun g3=>?_) (fun g3=>?_)|refine pq F (fun g3=>?_) (fun g3=>?_))<;>(try exact g3.elim)<;>(try refine sq F ?_)<;>((repeat (first|refine w1 (fun K hK=>?_)|refine w2 ?_|refine w3 ?_| ((first|refine w4 ?_|refine wD ?_|refine w5 ?_|refine w6 ?_|refine w7 ?_);try refine sq F ?_)| (refine w8 ?_;refine sq F ?_;refine w9 ?_)| ((first|refine hK _ _ (w0 ?_)| (clear hK K;refine hK _ _ (w0 ?_))| (clear hK K;clear hK K;refine hK _ _ (w0 ?_)));clear hK K))))
     ·refine cq F (fun g4=>?_) (fun g4=>?_)<;>(try exact g4.elim)<;>((repeat (first|refine w1 (fun K hK=>?_)|refine w2 ?_|refine w3 ?_| ((first|refine w4 ?_|refine wD ?_|refine w5 ?_|refine w6 ?_|refine w7 ?_);try refine sq F ?_)| (refine w8 ?_;refine sq F ?_;refine w9 ?_)| ((first|refine hK _ _ (w0 ?_)| (clear hK K;refine hK _ _ (w0 ?_))| (clear hK K;clear hK K;refine hK _ _ (w0 ?_)));clear hK K))))
      ·refine ee hQ F ?_;exact bad (f1 (by omega))
      ·refine ee hQ F ?_;exact fin _ _ (f2 (by omega)).1 (by rw[(f2 (by omega)).2])
     ·refine ee hQ F ?_;exact fin _ _ (f2 (by omega)).1 (by rw[(f2 (by omega)).2])
 (first|refine gq F (fun g1=>?_) (fun g1=>?_)|refine pq F (fun g1=>?_) (fun g1=>?_))<;>(try exact g1.elim)<;>(try refine sq F ?_)<;>((repeat (first|refine w1 (fun K hK=>?_)|refine w2 ?_|refine w3 ?_| ((first|refine w4 ?_|refine wD ?_|refine w5 ?_|refine w6 ?_|refine w7 ?_);try refine sq F ?_)| (refine w8 ?_;refine sq F ?_;refine w9 ?_)| ((first|refine hK _ _ (w0 ?_)| (clear hK K;refine hK _ _ (w0 ?_))| (clear hK K;clear hK K;refine hK _ _ (w0 ?_)));clear hK K))))
 ·refine cq F (fun g2=>?_) (fun g2=>?_)<;>(try exact g2.elim)<;>((repeat (first|refine w1 (fun K hK=>?_)|refine w2 ?_|refine w3 ?_| ((first|refine w4 ?_|refine wD ?_|refine w5 ?_|refine w6 ?_|refine w7 ?_);try refine sq F ?_)| (refine w8 ?_;refine sq F ?_;refine w9 ?_)| ((first|refine hK _ _ (w0 ?_)| (clear hK K;refine hK _ _ (w0 ?_))| (clear hK K;clear hK K;refine hK _ _ (w0 ?_)));clear hK K))))
  ·refine tail _ 2 (b.toNat-192) 128 ?_ ?_ ?_ ?_ ?_
   ·unfold ClsN;omega
   ·exact zq F
   ·exact zq F
   ·exact zq F
   ·exact zq F
  ·(first|refine gq F (fun g3=>?_) (fun g3=>?_)|refine pq F (fun g3=>?_) (fun g3=>?_))<;>(try exact g3.elim)<;>(try refine sq F ?_)<;>((repeat (first|refine w1 (fun K hK=>?_)|refine w2 ?_|refine w3 ?_| ((first|refine w4 ?_|refine wD ?_|refine w5 ?_|refine w6 ?_|refine w7 ?_);try refine sq F ?_)| (refine w8 ?_;refine sq F ?_;refine w9 ?_)| ((first|refine hK _ _ (w0 ?_)| (clear hK K;refine hK _ _ (w0 ?_))| (clear hK K;clear hK K;refine hK _ _ (w0 ?_)));clear hK K))))
   ·refine cq F (fun g4=>?_) (fun g4=>?_)<;>(try exact g4.elim)<;>((repeat (first|refine w1 (fun K hK=>?_)|refine w2 ?_|refine w3 ?_| ((first|refine w4 ?_|refine wD ?_|refine w5 ?_|refine w6 ?_|refine w7 ?_);try refine sq F ?_)| (refine w8 ?_;refine sq F ?_;refine w9 ?_)| ((first|refine hK _ _ (w0 ?_)| (clear hK K;refine hK _ _ (w0 ?_))| (clear hK K;clear hK K;refine hK _ _ (w0 ?_)));clear hK K))))
    ·refine tail _ 3 (b.toNat-224) 2048 ?_ ?_ ?_ ?_ ?_
     ·unfold ClsN;omega
     ·exact zq F
     ·exact zq F
     ·exact zq F
     ·exact zq F
    ·(first|refine gq F (fun g5=>?_) (fun g5=>?_)|refine pq F (fun g5=>?_) (fun g5=>?_))<;>(try exact g5.elim)<;>(try refine sq F ?_)<;>((repeat (first|refine w1 (fun K hK=>?_)|refine w2 ?_|refine w3 ?_| ((first|refine w4 ?_|refine wD ?_|refine w5 ?_|refine w6 ?_|refine w7 ?_);try refine sq F ?_)| (refine w8 ?_;refine sq F ?_;refine w9 ?_)| ((first|refine hK _ _ (w0 ?_)| (clear hK K;refine hK _ _ (w0 ?_))| (clear hK K;clear hK K;refine hK _ _ (w0 ?_)));clear hK K))))
     ·refine cq F (fun g6=>?_) (fun g6=>?_)<;>(try exact g6.elim)<;>((repeat (first|refine w1 (fun K hK=>?_)|refine w2 ?_|refine w3 ?_| ((first|refine w4 ?_|refine wD ?_|refine w5 ?_|refine w6 ?_|refine w7 ?_);try refine sq F ?_)| (refine w8 ?_;refine sq F ?_;refine w9 ?_)| ((first|refine hK _ _ (w0 ?_)| (clear hK K;refine hK _ _ (w0 ?_))| (clear hK K;clear hK K;refine hK _ _ (w0 ?_)));clear hK K))))
      ·refine tail _ 4 (b.toNat-240) 65536 ?_ ?_ ?_ ?_ ?_
       ·unfold ClsN;omega
       ·exact zq F
       ·exact zq F
       ·exact zq F
       ·exact zq F
      ·refine ee hQ F ?_;exact bad (j6 s (by omega))
     ·exfalso;omega
   ·exfalso;omega
 ·(first|refine gq F (fun g3=>?_) (fun g3=>?_)|refine pq F (fun g3=>?_) (fun g3=>?_))<;>(try exact g3.elim)<;>(try refine sq F ?_)<;>((repeat (first|refine w1 (fun K hK=>?_)|refine w2 ?_|refine w3 ?_| ((first|refine w4 ?_|refine wD ?_|refine w5 ?_|refine w6 ?_|refine w7 ?_);try refine sq F ?_)| (refine w8 ?_;refine sq F ?_;refine w9 ?_)| ((first|refine hK _ _ (w0 ?_)| (clear hK K;refine hK _ _ (w0 ?_))| (clear hK K;clear hK K;refine hK _ _ (w0 ?_)));clear hK K))))
  ·exfalso;omega
  ·(first|refine gq F (fun g5=>?_) (fun g5=>?_)|refine pq F (fun g5=>?_) (fun g5=>?_))<;>(try exact g5.elim)<;>(try refine sq F ?_)<;>((repeat (first|refine w1 (fun K hK=>?_)|refine w2 ?_|refine w3 ?_| ((first|refine w4 ?_|refine wD ?_|refine w5 ?_|refine w6 ?_|refine w7 ?_);try refine sq F ?_)| (refine w8 ?_;refine sq F ?_;refine w9 ?_)| ((first|refine hK _ _ (w0 ?_)| (clear hK K;refine hK _ _ (w0 ?_))| (clear hK K;clear hK K;refine hK _ _ (w0 ?_)));clear hK K))))
   ·exfalso;omega
   ·refine ee hQ F ?_;exact bad (j6 s (by omega))
theorem sf:∀(l:List Int),∀r∈l.map runAN,∀c∈r.cells,c.sto=true:=fun l r hr c hc=>by
 obtain⟨a,_,rfl⟩:=J8.1 hr;simp[runAN,AVal.cells]at hc;subst hc;rfl
theorem sh:∀(n:Nat) (l:List Int),∀r∈l.map runAN,Clo n r:=fun n l r hr=>by
 obtain⟨a,_,rfl⟩:=J8.1 hr;exact .int _ _
theorem Frz.runesN{h:Heap}{n q v e:Nat}{l:List Int}{len:Nat}{room:Bool}(hq:n≤q)(hg:getRow h q v=some (e,1,l.map runAN))(hlen:len=l.length):Frz h n (.hs q v 0 len room) (.sl 1 (l.map runAN)):=
 U9 hq hg (by simpa using hlen) (fun r hr=>sh _ l r hr) (fun r hr=>sf l r hr)
theorem kb(s:Bs)(hs:s.length≤1048576)(h:Heap):Sat (CT G) 143 [.str s] h (fun r h'=>r=.sl 1 ((runesF s).map runAN)∧h'=h):=by
 refine sb [.tmp 2] Tryz.func143 ?_;intro Q hQ;refine wk trivial ?_;refine lm (fun nL tL hL=>∃(k v:Nat) (acc:List Int),s.length-k=nL∧h++[.row 21 1 v (acc.map runAN)]=hL∧tL 0=.str (s.drop k)∧tL 3=.hs h.length v 0 acc.length true∧k≤s.length∧acc.length≤k∧acc++runesF (s.drop k)=runesF s) ((fun(k v:Nat) (acc:List Int)=>(s.length-k:Nat)) (0) (0) ([])) ?_ ?_
 ·refine⟨_,_,V3 3 21 1 (by simp) (by omega) (by exact zq trivial),⟨0,0,[],rfl,az,?_,?_,?_,?_,?_⟩⟩;all_goals try exact zZz trivial
 rintro _ s2 h' ⟨k,v,acc,rfl,rfl,e0,e3,hk,hl,hp⟩ K2 hK2;simp only[ah,ar,Nat.reduceEqDiff, ↓reduceIte]at e0 e3;have F:=F2 e0 e3;refine wk F ?_;refine cq F (fun c1=>?_) (fun c1=>?_)<;>(try exact c1.elim)<;>(refine wk F ?_)
 ·simp only[N2]at c1;have hlt:k<s.length:=by omega
  have hp2:=aO s k hlt;rw[fC s k hlt]at hp;have hne:s.drop k≠ []:=by intro e;have:=L9 List.length e;simp at this;omega
  refine(gP G (s.drop k) hne (by simp;omega) _).mono ?_;rintro r h' ⟨rfl,rfl⟩;rw[← bM];generalize dec s k=d at*;obtain⟨c,m⟩:=d;simp only[]at hp hp2 ⊢;have hsl:m≤(s.drop k).length:=by simp;omega
  have hdd:(s.drop k).drop m=s.drop (k+m):=T4 ..;have F:=F3 F hsl hdd;try refine sq F ?_
  refine wk F ?_;refine aq F ?_;try refine sq F ?_
  refine wk F ?_;refine hK2 _ _ _ (I9 ⟨k+m,v+1,acc++[(c:Int)],rfl,az,?_,?_,by omega,by simp;omega,by rw[← hp];simp⟩) (by omega);all_goals try exact zZz F
 ·simp only[N2]at c1;rw[eC s k (by omega),M6]at hp;refine wk F ?_;refine ee hQ F ?_;rw[← hp];exact X1 (Frz.runesN (J1 _) (by simp[getRow];rfl) rfl) ⟨rfl,rfl⟩
theorem o4(c:Int)(h:Heap):Sat (CT G) 144 [.int .i32 c] h (fun r h'=>r=.bool (blankR c)∧h'=h):=by
 have yes:(c=9∨c=10∨c=13∨c=32∨c=160∨c=8232∨c=8233∨c=12288)→blankR c=true:=fun h=>J7 h
 have no:¬(c=9∨c=10∨c=13∨c=32∨c=160∨c=8232∨c=8233∨c=12288)→blankR c=false:=fun h=>J3 h
 refine sb [.tmp 2] Tryz.func144 ?_;intro Q hQ;refine wk trivial ?_;(first|refine gq trivial (fun g0=>?_) (fun g0=>?_)|refine pq trivial (fun g0=>?_) (fun g0=>?_))<;>(try exact g0.elim)<;>(try refine sq trivial ?_)<;>(refine wk trivial ?_)
 ·refine ee hQ trivial ?_;refine fR (.bool _) ?_;rw[yes (by omega)]
 ·(first|refine gq trivial (fun g1=>?_) (fun g1=>?_)|refine pq trivial (fun g1=>?_) (fun g1=>?_))<;>(try exact g1.elim)<;>(try refine sq trivial ?_)<;>(refine wk trivial ?_)
  ·refine ee hQ trivial ?_;refine fR (.bool _) ?_;rw[yes (by omega)]
  ·(first|refine gq trivial (fun g2=>?_) (fun g2=>?_)|refine pq trivial (fun g2=>?_) (fun g2=>?_))<;>(try exact g2.elim)<;>(try refine sq trivial ?_)<;>(refine wk trivial ?_)
   ·refine ee hQ trivial ?_;refine fR (.bool _) ?_;rw[yes (by omega)]
   ·(first|refine gq trivial (fun g3=>?_) (fun g3=>?_)|refine pq trivial (fun g3=>?_) (fun g3=>?_))<;>(try exact g3.elim)<;>(try refine sq trivial ?_)<;>(refine wk trivial ?_)
    ·refine ee hQ trivial ?_;refine fR (.bool _) ?_;rw[yes (by omega)]
    ·(first|refine gq trivial (fun g4=>?_) (fun g4=>?_)|refine pq trivial (fun g4=>?_) (fun g4=>?_))<;>(try exact g4.elim)<;>(try refine sq trivial ?_)<;>(refine wk trivial ?_)
     ·refine ee hQ trivial ?_;refine fR (.bool _) ?_;rw[yes (by omega)]
     ·(first|refine gq trivial (fun g5=>?_) (fun g5=>?_)|refine pq trivial (fun g5=>?_) (fun g5=>?_))<;>(try exact g5.elim)<;>(try refine sq trivial ?_)<;>(refine wk trivial ?_)
      ·refine ee hQ trivial ?_;refine fR (.bool _) ?_;rw[yes (by omega)]
      ·(first|refine gq trivial (fun g6=>?_) (fun g6=>?_)|refine pq trivial (fun g6=>?_) (fun g6=>?_))<;>(try exact g6.elim)<;>(try refine sq trivial ?_)<;>(refine wk trivial ?_)
       ·refine ee hQ trivial ?_;refine fR (.bool _) ?_;rw[yes (by omega)]
       ·refine ee hQ trivial ?_;refine fR (.bool _) ?_;congr 1
        rw[N8];by_cases h8:c=12288
        ·rw[yes (by omega)];simp[h8]
        ·rw[no (by omega)];simp[h8]
theorem fO(s:Bs)(hs:s.length≤1048576)(h:Heap):Sat (CT G) 86 [.str s] h (fun r h'=>r=.bool (rightS s)∧h'=h):=by
 refine sb [.tmp 2] Tryz.func86 ?_;intro Q hQ;refine wk trivial ?_;refine lm (fun nL tL hL=>∃(k:Nat),s.length-k=nL∧h=hL∧tL 0=.str (s.drop k)∧k≤s.length∧rightS (s.drop k)=rightS s) ((fun(k:Nat)=>(s.length-k:Nat)) (0)) ?_ ?_
 ·refine I9 ⟨0,rfl,az,?_,by omega,rfl⟩;all_goals try exact zZz trivial
 rintro _ s2 h' ⟨k,rfl,rfl,e0,hk,hc⟩ K2 hK2;simp only[ah,ar,Nat.reduceEqDiff, ↓reduceIte]at e0;have F:=e0;refine wk F ?_;refine cq F (fun c1=>?_) (fun c1=>?_)<;>(try exact c1.elim)<;>(refine wk F ?_)
 ·simp only[N2]at c1;have hlt:k<s.length:=by omega
  have hp2:=aO s k hlt;have hca:=lr s k hlt;have hne:s.drop k≠ []:=by intro e;have:=L9 List.length e;simp at this;omega
  rw[hc]at hca;refine(gP G (s.drop k) hne (by simp;omega) _).mono ?_;rintro r h' ⟨rfl,rfl⟩;rw[← bM];generalize dec s k=d at*;obtain⟨c,m⟩:=d;simp only[]at hp2 hca ⊢;have hsl:m≤(s.drop k).length:=by simp;omega
  have hdd:(s.drop k).drop m=s.drop (k+m):=T4 ..;have F:=F3 F hsl hdd;try refine sq F ?_
  refine wk F ?_;(first|refine gq F (fun g1=>?_) (fun g1=>?_)|refine pq F (fun g1=>?_) (fun g1=>?_))<;>(try exact g1.elim)<;>(try refine sq F ?_)<;>(refine wk F ?_)
  ·refine cq F (fun g2=>?_) (fun g2=>?_)<;>(try exact g2.elim)<;>(refine wk F ?_)
   ·refine ee hQ F ?_;refine fR (.bool _) ?_;rw[hca,I6 (by omega)]
   ·refine hK2 _ _ _ (I9 ⟨k+m,rfl,az,?_,by omega,by rw[hca,I0 (by omega)]⟩) (by omega);all_goals try exact zZz F
  ·refine hK2 _ _ _ (I9 ⟨k+m,rfl,az,?_,by omega,by rw[hca,I0 (by omega)]⟩) (by omega);all_goals try exact zZz F
 ·simp only[N2]at c1;rw[P3 (by omega)]at hc;refine wk F ?_;refine ee hQ F ?_;refine fR (.bool _) ?_;rw[← hc];rfl
theorem fP(s:Bs)(hs:s.length≤100000)(h:Heap):Sat (CT G) 87 [.str s] h (fun r h'=>r=.str (cleanF s)∧h'=h):=by
 have hll:=cu s.length s (J1 _);have hrl:=dI s.length s (J1 _);have hcl:=fD (runesF s) [] false hrl (by simp);have hdef:clnR (runesF s) [] false=cleanR s:=rfl;have hcf:encs (cleanR s)=cleanF s:=rfl;refine sb [.tmp 2] Tryz.func87 ?_;intro Q hQ;refine wk trivial ?_;refine(kb G s (by omega) _).mono ?_;rintro r h' ⟨rfl,hk_⟩;replace hk_:=hk_.symm;subst hk_;try refine sq trivial ?_
 refine wk trivial ?_;generalize runesF s=l at*;have hlm:(l.map runAN).length=l.length:=I4 ..;have F:=hlm;refine lm (fun nL tL hL=>∃(k v:Nat) (acc:List Int) (w:Bool),l.length-k=nL∧h++[.row 21 1 v (acc.map runAN)]=hL∧tL 4=.hs h.length v 0 acc.length true∧tL 5=.bool w∧tL 6=.int .i64 k∧k≤l.length∧clnR (l.drop k) acc w=cleanR s∧acc.length≤2*k) ((fun(k v:Nat) (acc:List Int) (w:Bool)=>(l.length-k:Nat)) (0) (0) ([]) (false)) ?_ ?_
 ·refine⟨_,_,V3 4 21 1 (by simp) (by omega) (by exact zq F),⟨0,0,[],false,rfl,az,?_,?_,?_,by omega,hdef,by simp⟩⟩;all_goals try exact zZz F
 rintro _ s2 h' ⟨k,v,acc,w,rfl,rfl,e4,e5,e6,hk,hv,hl⟩ K2 hK2;simp only[ah,ar,Nat.reduceEqDiff, ↓reduceIte]at e4 e5 e6;have F:=F4 F e4 e5 e6;refine wk F ?_;refine cq F (fun c1=>?_) (fun c1=>?_)<;>(try exact c1.elim)
 ·obtain⟨y,hy,hym⟩:=ac c1;have hyl:(l.map runAN)[k]? =some (.int .i32 y):=by rw[K5,hy];rfl
  rw[aE hy,clnR]at hv;have F:=F2 F hyl;refine wk F ?_;refine kq F (o4 G y _) ?_;have ho:decide ((acc.length:Int)>0)=decide (0<acc.length):=by
   rw[N8];simp only[I8];omega
  refine cq F (fun c2=>?_) (fun c2=>?_)<;>(try exact c2.elim)<;>(refine wk F ?_)
  ·rw[I6 c2]at hv;have F:=F2 F ho;(try refine sq F ?_);refine hK2 _ _ _ (I9 ⟨k+1,v,acc,decide (0<acc.length),rfl,az,?_,?_,?_,by omega,hv,by omega⟩) (by omega);all_goals try exact zZz F
  ·rw[I0 (by simp[c2])]at hv;have yes:(y<32∨(127≤y∧y≤159))→ctlR y=true:=fun h=>J7 h
   have no:¬(y<32∨(127≤y∧y≤159))→ctlR y=false:=fun h=>J3 h
   (first|refine gq F (fun g1=>?_) (fun g1=>?_)|refine pq F (fun g1=>?_) (fun g1=>?_))<;>(try exact g1.elim)<;>(try refine sq F ?_)<;>(refine wk F ?_)
   ·rw[I6 (yes (by omega))]at hv;refine hK2 _ _ _ (I9 ⟨k+1,v,acc,w,rfl,az,?_,?_,?_,by omega,hv,by omega⟩) (by omega);all_goals try exact zZz F
   ·(first|refine gq F (fun g2=>?_) (fun g2=>?_)|refine pq F (fun g2=>?_) (fun g2=>?_))<;>(try exact g2.elim)<;>(try refine sq F ?_)<;>(refine wk F ?_)
    ·refine cq F (fun g3=>?_) (fun g3=>?_)<;>(try exact g3.elim)<;>(refine wk F ?_)
     ·rw[I6 (yes (by omega))]at hv;refine hK2 _ _ _ (I9 ⟨k+1,v,acc,w,rfl,az,?_,?_,?_,by omega,hv,by omega⟩) (by omega);all_goals try exact zZz F
     ·rw[I0 (by rw[no (by omega)];simp)]at hv;refine cq F (fun c3=>?_) (fun c3=>?_)<;>(try exact c3.elim)<;>(refine wk F ?_)
      ·rw[I6 c3]at hv;refine aq F ?_;(try refine sq F ?_);refine wk F ?_;refine aq F ?_;(try refine sq F ?_);refine wk F ?_;refine hK2 _ _ _ (I9 ⟨k+1,v+1+1,acc++[32,y],false,rfl,by simp[runAN],?_,?_,?_,by omega,hv,by simp;omega⟩) (by omega);all_goals try exact zZz F
      ·rw[I0 (by simp[c3])]at hv;refine aq F ?_;(try refine sq F ?_);refine wk F ?_;refine hK2 _ _ _ (I9 ⟨k+1,v+1,acc++[y],w,rfl,by simp[runAN],?_,?_,?_,by omega,by rw[c3];exact hv,by simp;omega⟩) (by omega);all_goals try exact zZz F
    ·rw[I0 (by rw[no (by omega)];simp)]at hv;refine cq F (fun c3=>?_) (fun c3=>?_)<;>(try exact c3.elim)<;>(refine wk F ?_)
     ·rw[I6 c3]at hv;refine aq F ?_;(try refine sq F ?_);refine wk F ?_;refine aq F ?_;(try refine sq F ?_);refine wk F ?_;refine hK2 _ _ _ (I9 ⟨k+1,v+1+1,acc++[32,y],false,rfl,by simp[runAN],?_,?_,?_,by omega,hv,by simp;omega⟩) (by omega);all_goals try exact zZz F
     ·rw[I0 (by simp[c3])]at hv;refine aq F ?_;(try refine sq F ?_);refine wk F ?_;refine hK2 _ _ _ (I9 ⟨k+1,v+1,acc++[y],w,rfl,by simp[runAN],?_,?_,?_,by omega,by rw[c3];exact hv,by simp;omega⟩) (by omega);all_goals try exact zZz F
 ·rw[aK c1,clnR]at hv;(repeat (first|refine w1 (fun K hK=>?_)|refine w2 ?_|refine w3 ?_| ((first|refine w4 ?_|refine wD ?_|refine w5 ?_|refine w6 ?_|refine w7 ?_);try refine sq F ?_)| (refine w8 ?_;refine sq F ?_;refine w9 ?_)| (refine rq F ?_;try refine sq F ?_)| (refine vq F ?_;try refine sq F ?_)))
  have hg:getRow (h++[.row 21 1 v (acc.map runAN)]) h.length v=some (21,1,acc.map runAN):=by simp[getRow]
  have ht:∀(ms:List Nat) (t:Env),4∈ms→t 4=.hs h.length v 0 acc.length true→∀i,upd t 4 (.sl 1 (acc.map runAN)) i=t i∨(i∈ms∧Fz (h++[.row 21 1 v (acc.map runAN)]) h.length v (t i) (upd t 4 (.sl 1 (acc.map runAN)) i)):=fun ms t hm ht i=>by
   by_cases hi:i=4
   ·subst hi;right;refine⟨hm,?_⟩;rw[ht];simp only[upd, ↓reduceIte];exact Fz.all _ _ _ hg rfl (by simp)
   ·left;simp only[upd];rw[I0 hi]
  refine GN (Weak.fz h.length v hg (ht _ _ (by decide+kernel) (by exact zq F))) ?_;have hset:(h++[Blk.row 21 1 v (acc.map runAN)]).set h.length Blk.dead=h++[Blk.dead]:=by simp
  rw[hset];refine wk F ?_;refine kq F (uy G acc (fun r hr=>hcl r (by rw[hdef, ← hv];exact hr)) (by omega) _) ?_;refine ee hQ F ?_;refine fR (.str _) ?_;rw[hv];exact L9 AVal.str hcf
end Go.Av
