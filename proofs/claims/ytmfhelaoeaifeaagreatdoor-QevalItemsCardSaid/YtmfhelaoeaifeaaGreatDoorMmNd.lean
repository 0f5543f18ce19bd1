/- Parts. -/
import Derived.Test.YtmfhelaoeaifeaaGreatDoorMmDr5
set_option linter.unusedSimpArgs false
set_option linter.unusedVariables false
set_option linter.unusedSectionVars false
set_option linter.unnecessarySimpa false
set_option maxRecDepth 100000
set_option maxHeartbeats 16000000
namespace Go.Av
open Go Go.Proofs Go.RowKit Go.Shelf Go.Lib
def letF(r:Nat):Bool:=
 if r<192 then(decide (97≤r)&&decide (r≤122))||(decide (48≤r)&&decide (r≤57))
 else !(decide (r=215)||decide (r=247)||decide (r=65533))&& !((decide (8192≤r)&&decide (r≤8303))||(decide (12288≤r)&&decide (r≤12351)))
set_option maxHeartbeats 4000000 in
theorem mV(W:World)(r:Nat):Calls Tryz.prog 215 #[encR r] W fun e w'=>e=.returned (.bool (letF r))∧∃q,w'=W.drewN q:=by
 by_cases h0:r<192
 ·by_cases h1:97≤r<;>by_cases h2:r≤122<;>by_cases h3:48≤r<;>by_cases h4:r≤57
  all_goals first| (exfalso;omega)|skip
  all_goals
   have z0:(r:Int)<192↔r<192:=(by omega);have z1:(97:Int)≤(r:Int)↔97≤r:=(by omega);have z2:(r:Int)≤122↔r≤122:=(by omega);have z3:(48:Int)≤(r:Int)↔48≤r:=(by omega);have z4:(r:Int)≤57↔r≤57:=by omega
   go_enter Tryz.func215,Tryz.ntmps215
   go_wp2
   all_goals first| (exfalso;omega)| (go_ret;exact⟨by simp[letF,h0,h1,h2,h3,h4],0,rfl⟩)
 ·by_cases h1:r=215
  ·subst h1
   go_enter Tryz.func215,Tryz.ntmps215
   go_wp2
   all_goals first| (exfalso;omega)| (go_ret;exact⟨by simp[letF],0,rfl⟩)
  by_cases h2:r=247
  ·subst h2
   go_enter Tryz.func215,Tryz.ntmps215
   go_wp2
   all_goals first| (exfalso;omega)| (go_ret;exact⟨by simp[letF],0,rfl⟩)
  by_cases h3:r=65533
  ·subst h3
   go_enter Tryz.func215,Tryz.ntmps215
   go_wp2
   all_goals first| (exfalso;omega)| (go_ret;exact⟨by simp[letF],0,rfl⟩)
  by_cases h4:8192≤r<;>by_cases h5:r≤8303<;>by_cases h6:12288≤r<;>by_cases h7:r≤12351
  all_goals first| (exfalso;omega)|skip
  all_goals
   have z0:(r:Int)<192↔r<192:=(by omega);have z1:(r:Int)=215↔r=215:=(by omega);have z2:(r:Int)=247↔r=247:=(by omega);have z3:(r:Int)=65533↔r=65533:=(by omega);have z4:(8192:Int)≤(r:Int)↔8192≤r:=(by omega);have z5:(r:Int)≤8303↔r≤8303:=(by omega);have z6:(12288:Int)≤(r:Int)↔12288≤r:=(by omega);have z7:(r:Int)≤12351↔r≤12351:=by omega
   go_enter Tryz.func215,Tryz.ntmps215
   go_wp2
   all_goals first| (exfalso;omega)| (exfalso;simp only[beq_iff_eq]at *;omega)| (go_ret;exact⟨by simp[letF,h0,h1,h2,h3,h4,h5,h6,h7],0,rfl⟩)
set_option maxHeartbeats 4000000 in
theorem tC(w:World):PredAt Tryz.prog 214 #[] encR (fun r=> !letF r) w:=fun W r _=>by
 unfold FnGives;have hL:=mV
 go_enter Tryz.func214,Tryz.ntmps214
 go_wp2_with (go_at_call 215;refine(hL _ _).mono ?_;rintro e w' ⟨rfl,q,rfl⟩)
 go_ret
 exact⟨rfl,_,rfl⟩
end Go.Av
namespace Go.Av
open Go Go.Proofs Go.RowKit Go.Lib
section
variable {C:Ctx} {B:Nat} {S:Addr→Prop} {μ:Map} {h:Heap} {w w':World}
theorem vQ(f:Fits C B S μ h w)(hb:Below w.heap.size w w'){g cap:Nat}{cur:Array Value}{e:TypeId}{ls:List Bs}(hg:w.heap.size≤g)(hheap:w'.heap[g]? =some (.cells cur e (0,0)))
  (hn:ls.length≤cap)(h0:0<cap)(hm:cap≤maxLen)(hsz:cur.size=cap)(hget:∀(i:Nat) (a:Bs),ls[i]? =some a→cur[i]? =some (.string ⟨a.toArray⟩)):
  Fits C B S (μ++[⟨some g,0,1,cap⟩]) (h++[.row e 1 0 (ls.map .str)]) w'∧Step B S μ w S (μ++[⟨some g,0,1,cap⟩]) w':=by
 obtain⟨f',st⟩:=f.grown hb;have hgl:g<w'.heap.size:=(O0.1 hheap).1;have st2:Step B S μ w' S (μ++[⟨some g,0,1,cap⟩]) w':=⟨fun a ha=>ha,fun _ _=>rfl,X6 _ _,eK _ _,fun a ha=>.inl ha⟩
 refine⟨⟨fun g' cs hg'=>(f'.glob g' cs hg').mono st2,by simp[f'.len],?_,?_,f'.base,f'.lie,?_⟩,st.trans st2⟩
 ·intro p q m1 m2 b h1 h2 e1 e2;rcases aO h1 with k1| ⟨k1,rfl⟩<;>rcases aO h2 with k2| ⟨k2,rfl⟩
  ·exact f'.sep p q m1 m2 b k1 k2 e1 e2
  ·have:=(f.own p m1 b k1 e1).2.1;cases e2;omega
  ·have:=(f.own q m2 b k2 e2).2.1;cases e1;omega
  ·rw[k1,k2]
 ·intro p m1 b h1 e1;rcases aO h1 with k1| ⟨k1,rfl⟩
  ·exact f'.own p m1 b k1 e1
  ·cases e1;exact⟨Q7 f.base hg,hgl,fun a ha=>by have:=f.lie a ha;omega⟩
 ·intro p m1 k1 h1 h2;rcases aO h1 with a1| ⟨a1,rfl⟩
  ·have hp:p<h.length:=(by have:=(f9.1 a1).1;rw[f.len]at this;exact this);rw[M5 hp]at h2;exact(f'.blk p m1 k1 a1 h2).mono st2 fun _ _=>rfl
  ·rw[a1,f.len,N1 (M4 _)]at h2;simp at h2;subst h2;refine⟨rfl,rfl,by omega,fun i r hr=>?_,fun i r j c hr hc=>?_,.inr ⟨g,cur,rfl,hheap,by simp[hsz],⟨h0,by simpa using hn⟩,hm,fun i r j c hr hc=>?_⟩⟩
   ·obtain⟨a,_,rfl⟩:=M9.1 (M7 hr);rfl
   ·obtain⟨a,_,rfl⟩:=M9.1 (M7 hr)
    match j with
    |0=>simp[AVal.cells]at hc;subst hc;rfl
    |j+1=>simp[AVal.cells]at hc
   ·rw[N8]at hr;obtain⟨a,ha,rfl⟩:=N2.1 hr
    match j with
    |0=>
     simp[AVal.cells]at hc;subst hc;exact⟨_,by simpa using hget i a ha,.str _⟩
    |j+1=>simp[AVal.cells]at hc
end
variable (G:Nat→Option (List AVal))
def fldsF(s:Bs):List Bs:=(goFieldsP (fun r=> !letF r) ⟨s.toArray⟩).map fun b=>b.data.toList
theorem qT(s:Bs)(hs:s.length≤1000000)(h:Heap):Sat (CT G) 212 [.str s,.fn (.func 214) [] []] h
  (fun r h'=>(fldsF s=[]∧r=.sl 1 []∧h'=h)∨(fldsF s≠ []∧r=.hs h.length 0 0 (fldsF s).length true∧h'=h++[.row 9 1 0 ((fldsF s).map .str)])):=by
 intro B S μ w us fit rl;obtain⟨hul,hur⟩:=rl
 match us,hul,hur with
 | [v0,v1],_,hur=>
  have r0:Rep w S μ (.str s) v0:=hur 0 _ rfl;have r1:Rep w S μ (.fn (.func 214) [] []) v1:=hur 1 _ rfl;obtain rfl:=r0.str_inv;obtain rfl:v1=.func (.func 214) #[] #[]:=by
   cases r1 with
   |fn _ _ _ xv cv h1 h2 h3 h4=>
    match xv,cv,h1,h2 with
    | [],[],_,_=>rfl
  change OpOk Tryz.prog _ ((callFunc 212 #[Value.string ⟨s.toArray⟩,Value.func (Fn.func 214) #[] #[]]).run Tryz.prog w)
  rw[ce (f:=212) Tryz.func212 rfl rfl];refine(Tryz.strings_FieldsFunc 214 #[] (enters_of Tryz.func214 (by kernel_rfl) rfl) _ ⟨s.toArray⟩ w (by simp[ByteArray.size];omega) (tC w)).mono fun e w' ⟨A,he,hA,hrow,hbel⟩=>?_
  refine⟨_,he,?_⟩;have hlen:(fldsF s).length=(goFieldsP (fun r=> !letF r) ⟨s.toArray⟩).length:=by unfold fldsF;rw[L8]
  have hmap:(goFieldsP (fun r=> !letF r) ⟨s.toArray⟩).map Value.string=(fldsF s).map fun a=>Value.string ⟨a.toArray⟩:=by
   unfold fldsF;rw[W5];exact V4 fun b _=>by simp
  rw[hmap]at hrow;rw[← hlen]at hrow he ⊢;obtain⟨_,ho⟩:=hrow;rcases ho with⟨h1,_⟩| ⟨g,cap,cur,h1,hg,hheap,hn,hm,hsz,htk⟩
  ·cases h1
  ·cases h1;by_cases hl:fldsF s=[]
   ·obtain⟨f',st⟩:=fit.grown hbel;rw[hl];exact⟨.sl 1 [],h,S,μ,.inl ⟨rfl,rfl,rfl⟩,st,f',.sl0 1 _ _⟩
   ·have hp:=Y5.2 hl;have hget:∀(i:Nat) (a:Bs),(fldsF s)[i]? =some a→cur[i]? =some (.string ⟨a.toArray⟩):=fun i a ha=>by
     have hi:i<(fldsF s).length:=(f9.1 ha).1;have h2:(cur.toList.take ((fldsF s).length*1))[i]? =some (.string ⟨a.toArray⟩):=(by rw[htk,N8,ha];rfl);rw[N4 (by omega)]at h2;simpa using h2
    obtain⟨f',st⟩:=vQ fit hbel hg hheap hn (by omega) hm (by simpa using hsz) hget;refine⟨.hs h.length 0 0 (fldsF s).length true,_,S,_,.inr ⟨hl,rfl,rfl⟩,st,f',?_⟩;refine .hs _ _ _ _ _ ⟨some A,0,1,(fldsF s).length⟩ _ (by rw[← fit.len];simp) (M4 _) (fun cs h=>by cases h) rfl (fun _=>.inr ⟨A,rfl,by simp,by simp⟩)
end Go.Av
namespace Go.Av
open Go Go.Proofs Go.RowKit
attribute [local irreducible] WP WPl WPix Sat
variable (G:Nat→Option (List AVal))
theorem qU(c:Int)(h:Heap):Sat (CT G) 262 [.int .i32 c] h (fun r h'=>r=.bool (blankR c)∧h'=h):=by
 have yes:(c=9∨c=10∨c=13∨c=32∨c=160∨c=8232∨c=8233∨c=12288)→blankR c=true:=fun h=>P1 h
 have no:¬(c=9∨c=10∨c=13∨c=32∨c=160∨c=8232∨c=8233∨c=12288)→blankR c=false:=fun h=>O4 h
 refine sb [.tmp 2] Tryz.func262 ?_;intro Q hQ;refine wk trivial ?_;refine cq trivial (fun c0=>?_) (fun c0=>?_)<;>(try exact c0.elim)<;>(refine wk trivial ?_)
 ·refine cq trivial (fun d=>?_) (fun d=>?_)<;>(try exact d.elim)<;>(refine wk trivial ?_)
  ·refine ee hQ trivial ?_;refine fR (.bool _) ?_;rw[yes (by omega)]
  ·exfalso;omega
 refine cq trivial (fun c1=>?_) (fun c1=>?_)<;>(try exact c1.elim)<;>(refine wk trivial ?_)
 ·refine cq trivial (fun d=>?_) (fun d=>?_)<;>(try exact d.elim)<;>(refine wk trivial ?_)
  ·refine ee hQ trivial ?_;refine fR (.bool _) ?_;rw[yes (by omega)]
  ·exfalso;omega
 refine cq trivial (fun c2=>?_) (fun c2=>?_)<;>(try exact c2.elim)<;>(refine wk trivial ?_)
 ·refine cq trivial (fun d=>?_) (fun d=>?_)<;>(try exact d.elim)<;>(refine wk trivial ?_)
  ·refine ee hQ trivial ?_;refine fR (.bool _) ?_;rw[yes (by omega)]
  ·exfalso;omega
 refine cq trivial (fun c3=>?_) (fun c3=>?_)<;>(try exact c3.elim)<;>(refine wk trivial ?_)
 ·refine cq trivial (fun d=>?_) (fun d=>?_)<;>(try exact d.elim)<;>(refine wk trivial ?_)
  ·refine ee hQ trivial ?_;refine fR (.bool _) ?_;rw[yes (by omega)]
  ·exfalso;omega
 refine cq trivial (fun c4=>?_) (fun c4=>?_)<;>(try exact c4.elim)<;>(refine wk trivial ?_)
 ·refine cq trivial (fun d=>?_) (fun d=>?_)<;>(try exact d.elim)<;>(refine wk trivial ?_)
  ·refine ee hQ trivial ?_;refine fR (.bool _) ?_;rw[yes (by omega)]
  ·exfalso;omega
 refine cq trivial (fun c5=>?_) (fun c5=>?_)<;>(try exact c5.elim)<;>(refine wk trivial ?_)
 ·refine cq trivial (fun d=>?_) (fun d=>?_)<;>(try exact d.elim)<;>(refine wk trivial ?_)
  ·refine ee hQ trivial ?_;refine fR (.bool _) ?_;rw[yes (by omega)]
  ·exfalso;omega
 refine cq trivial (fun c6=>?_) (fun c6=>?_)<;>(try exact c6.elim)<;>(refine wk trivial ?_)
 ·refine cq trivial (fun d=>?_) (fun d=>?_)<;>(try exact d.elim)<;>(refine wk trivial ?_)
  ·refine ee hQ trivial ?_;refine fR (.bool _) ?_;rw[yes (by omega)]
  ·exfalso;omega
 refine cq trivial (fun d=>?_) (fun d=>?_)<;>(try exact d.elim)<;>(refine wk trivial ?_)
 ·refine ee hQ trivial ?_;refine fR (.bool _) ?_;rw[yes (by omega)]
 ·refine ee hQ trivial ?_;refine fR (.bool _) ?_;rw[no (by omega)]
theorem mX(c:Int)(h:Heap):Sat (CT G) 264 [.int .i32 c] h (fun r h'=>r=.bool (ctlR c)∧h'=h):=by
 refine sb [.tmp 2] Tryz.func264 ?_;intro Q hQ;refine wk trivial ?_;(first|refine gq trivial (fun g1=>?_) (fun g1=>?_)|refine pq trivial (fun g1=>?_) (fun g1=>?_))<;>(try exact g1.elim)<;>(try refine sq trivial ?_)<;>(refine wk trivial ?_)
 ·refine ee hQ trivial ?_;refine fR (.bool _) ?_;rw[show ctlR c=true from P1 (.inl g1)]
 ·(first|refine gq trivial (fun g2=>?_) (fun g2=>?_)|refine pq trivial (fun g2=>?_) (fun g2=>?_))<;>(try exact g2.elim)<;>(try refine sq trivial ?_)<;>(refine wk trivial ?_)
  ·refine ee hQ trivial ?_;refine fR (.bool _) ?_;unfold ctlR;congr 1
   rw[P5];simp;omega
  ·refine ee hQ trivial ?_;refine fR (.bool _) ?_;rw[show ctlR c=false from O4 (by omega)]
theorem mY(h j:Heap)(a:AVal)(v:Nat)(o s:Bs)(q:Nat):(bldH h (Blk.iter s q::j) a v o)[h.length+2]? =some (.iter s q):=by
 unfold bldH;rw[N1 (by omega),show h.length+2-h.length=2 by omega];rfl
theorem mZ(h j:Heap)(a:AVal)(v:Nat)(o:Bs)(x y:Blk):(bldH h (x::j) a v o).set (h.length+2) y=bldH h (y::j) a v o:=by
 unfold bldH;rw[List.set_append_right _ _ (by omega),show h.length+2-h.length=2 by omega];rfl
theorem qV(s:Bs)(hs:s.length≤100000000)(h:Heap):Sat (CT G) 252 [.str s] h (fun r h'=>r=.str (cleanF s)∧h'=h):=by
 have F:= @mZ;refine sb [.tmp 2] Tryz.func252 ?_;intro Q hQ;(repeat (first|refine w1 (fun K hK=>?_)|refine w2 ?_|refine w3 ?_| ((first|refine w4 ?_|refine wD ?_|refine w5 ?_|refine w6 ?_|refine w7 ?_);try refine sq F ?_)| (refine w8 ?_;refine sq F ?_;refine w9 ?_)))
 refine hK _ _ (M2 ?_);clear hK K;(repeat (first|refine w1 (fun K hK=>?_)|refine w2 ?_|refine w3 ?_| ((first|refine w4 ?_|refine wD ?_|refine w5 ?_|refine w6 ?_|refine w7 ?_);try refine sq F ?_)| (refine w8 ?_;refine sq F ?_;refine w9 ?_)))
 refine hK _ _ ⟨_,_,Weak.virtCell (p:=h.length) (v:=0) 5 1 (by omega) (by simp(disch:=first|omega| (simp only[go_sem, ↓reduceIte,seval];first|done|omega)|fail) only[go_sem, ↓reduceIte,seval,F];rfl) 1 rfl,?_⟩;clear hK K;refine wk F ?_;refine lm (fun nL tL hL=>∃(a:AVal) (v k:Nat) (out:List Int) (w:Bool),s.length-k=nL∧bldH h [.iter s k] a v (encs out)=hL∧tL 4=.bool w∧bldA a h.length∧k≤s.length∧clnR (runesF (s.drop k)) out w=cleanR s∧(encs out).length+8*(s.length-k)≤8*s.length) ((fun(a:AVal) (v k:Nat) (out:List Int) (w:Bool)=>(s.length-k:Nat)) ((.nil (.pointer none))) (0) (0) ([]) (false)) ?_ ?_
 ·refine M2 ⟨(.nil (.pointer none)),0,0,[],false,rfl,by simp[bldH,bldR,bufR,encs],?_,.inl rfl,by omega,rfl,by simp[encs]⟩;all_goals try exact zZz F
 rintro _ s2 h' ⟨a,v,k,out,w,rfl,rfl,e4,ha,hk,hv,hl⟩ K2 hK2;simp only[af,ao,Nat.reduceEqDiff, ↓reduceIte]at e4;have F:=F2 F e4;refine wk F ?_;refine gf (mY _ _ _ _ _ _ _) (fun hlt=>?_) (fun hge=>?_)
 ·have hR:=ji s k hlt;have hp:=br s k hlt;rw[fu s k hlt,clnR]at hv;rw[show Utf8.decode ⟨s.toArray⟩ k=dec s k from rfl];generalize dec s k=d at*;obtain⟨c,m⟩:=d;simp only[]at hR hp hv ⊢;try refine sq F ?_
  refine wk F ?_;refine kq F (qU G c _) ?_;refine cq F (fun c1=>?_) (fun c1=>?_)<;>(try exact c1.elim)<;>(refine wk F ?_)
  ·rw[M0 c1]at hv;refine kq F (xO G a h [.iter s (k+m)] v (encs out)) ?_;have ho:decide (((encs out).length:Int)>0)=decide (0<out.length):=by
    have:=jk out;rw[P5];simp only[M1];omega
   have F:=F2 F ho;(try refine sq F ?_);refine hK2 _ _ _ (M2 ⟨a,v,k+m,out,decide (0<out.length),rfl,aB,?_,ha,by omega,hv,by omega⟩) (by omega);all_goals try exact zZz F
  ·rw[L5 (by simp[c1])]at hv;refine kq F (mX G c _) ?_;refine cq F (fun c2=>?_) (fun c2=>?_)<;>(try exact c2.elim)<;>(refine wk F ?_)
   ·rw[M0 c2]at hv;refine hK2 _ _ _ (M2 ⟨a,v,k+m,out,w,rfl,aB,?_,ha,by omega,hv,by omega⟩) (by omega);all_goals try exact zZz F
   ·rw[L5 (by simp[c2])]at hv;have he:=eF c;have e1:encs (out++[32,(c:Int)])=encs out++[32]++enc c:=by
     simp only[encs,List.flatMap_append,W8,List.flatMap_nil,O8,O1];rfl
    have e2:encs (out++[(c:Int)])=encs out++enc c:=by
     simp only[encs,List.flatMap_append,W8,List.flatMap_nil,O8]
    refine cq F (fun c3=>?_) (fun c3=>?_)<;>(try exact c3.elim)<;>(refine wk F ?_)
    ·rw[M0 c3]at hv;refine kq F (me G a h [.iter s (k+m)] v (encs out) 32 ha (by omega)) ?_;refine kq F (dY G (.hp h.length 0 0 0) c hR h [.iter s (k+m)] (v+1) (encs out++[32]) (.inr rfl) (by simp only[N3,M8,O7];omega)) ?_;refine hK2 _ _ _ (M2 ⟨(.hp h.length 0 0 0),v+1+1,k+m,out++[32,(c:Int)],false,rfl,by rw[e1];simp,?_,.inr rfl,by omega,hv,by rw[e1];simp only[N3,M8,O7];omega⟩) (by omega);all_goals try exact zZz F
    ·rw[L5 (by simp[c3])]at hv;refine kq F (dY G a c hR h [.iter s (k+m)] v (encs out) ha (by omega)) ?_;refine hK2 _ _ _ (M2 ⟨(.hp h.length 0 0 0),v+1,k+m,out++[(c:Int)],false,rfl,by rw[e2],?_,.inr rfl,by omega,hv,by rw[e2];simp only[N3];omega⟩) (by omega);all_goals try exact zZz F
 ·rw[ep s k (by omega)]at hv;try refine sq F ?_
  refine wk F ?_;refine(jS G a h [.iter s k] v (encs out)).mono ?_;rintro r h' ⟨rfl,b2,rfl⟩;try refine sq F ?_
  refine wk F ?_;refine ee hQ F ?_;exact Fin.plainE (j:=[bldR a (h.length+1) v (encs out),b2,.iter s k]) (by simp) (.str _) ⟨P0 AVal.str (by unfold cleanF;rw[← hv];rfl),rfl⟩
theorem qW(s:Bs)(hs:s.length≤1073741824)(h:Heap):Sat (CT G) 251 [.str s] h (fun r h'=>r=.bool (rightS s)∧h'=h):=by
 refine sb [.tmp 2] Tryz.func251 ?_;intro Q hQ;refine wk trivial ?_;refine lm (fun nL tL hL=>∃(k:Nat),s.length-k=nL∧h++[.iter s k]=hL∧k≤s.length∧rightS (s.drop k)=rightS s) ((fun(k:Nat)=>(s.length-k:Nat)) (0)) ?_ ?_
 ·refine M2 ⟨0,rfl,aB,by omega,rfl⟩;all_goals try exact zZz trivial
 rintro _ s2 h' ⟨k,rfl,rfl,hk,hc⟩ K2 hK2;refine wk trivial ?_;refine gf (pg _ _ _ _) (fun hlt=>?_) (fun hge=>?_)
 ·have hp:=br s k hlt;have hca:=lH s k hlt;have h3:=vR s k;rw[hc]at hca;rw[show Utf8.decode ⟨s.toArray⟩ k=dec s k from rfl];generalize dec s k=d at*;obtain⟨c,m⟩:=d;simp only[]at hp hca h3 ⊢;try refine sq trivial ?_
  refine wk trivial ?_;(first|refine gq trivial (fun g1=>?_) (fun g1=>?_)|refine pq trivial (fun g1=>?_) (fun g1=>?_))<;>(try exact g1.elim)<;>(try refine sq trivial ?_)<;>(refine wk trivial ?_)
  ·have g0:c=65533:=(by omega);have h4:=h3 g0;refine kq trivial (gL G (s.drop k) [239,191,189] _) ?_;refine cq trivial (fun g2=>?_) (fun g2=>?_)<;>(try exact g2.elim)<;>(refine wk trivial ?_)
   ·refine ee hQ trivial ?_;refine fR (.bool _) ?_;rw[hca,M0 ⟨g0,h4.2 (by simpa using g2)⟩]
   ·refine hK2 _ _ _ (M2 ⟨k+m,rfl,aB,by omega,by rw[hca,L5];rintro⟨_,h5⟩;have:=h4.1 h5;rw[this]at g2;cases g2⟩) (by omega);all_goals try exact zZz trivial
  ·refine hK2 _ _ _ (M2 ⟨k+m,rfl,aB,by omega,by rw[hca,L5];rintro⟨h5,_⟩;exact g1 (by omega)⟩) (by omega);all_goals try exact zZz trivial
 ·rw[T9 (by omega)]at hc;try refine sq trivial ?_
  refine wk trivial ?_;refine ee hQ trivial ?_;refine fR (.bool _) ?_;rw[← hc];rfl
def btw(c a b:Int):Bool:=decide (a≤c)&&decide (c≤b)
theorem cm(c a b:Int)(h:Heap):Sat (CT G) 256 [.int .i32 c,.int .i32 a,.int .i32 b] h (fun r h'=>r=.bool (btw c a b)∧h'=h):=by
 by_cases k:a≤c
 ·have k2:decide (c≥a)=true:=by simpa using k
  have F:=k2;refine sb [.tmp 6] Tryz.func256 ?_;intro Q hQ;refine wk F ?_;refine ee hQ F ?_;exact P2 (.bool _) ⟨by simp[btw,k],rfl⟩
 ·have k2:decide (c≥a)=false:=by simpa using k
  have F:=k2;refine sb [.tmp 6] Tryz.func256 ?_;intro Q hQ;refine wk F ?_;refine ee hQ F ?_;exact P2 (.bool _) ⟨by simp[btw,k],rfl⟩
def foldR(c:Int):Int:=
 if c=215∨c=930 then c else if btw c 65 90∨btw c 192 222∨btw c 913 937∨btw c 1040 1071 then c+32 else if btw c 1024 1039 then c+80 else c
theorem gv{c:Int}(h:Rune c):Rune (foldR c):=by
 unfold foldR btw;simp only[L6,M1];unfold Rune at*;split
 ·exact h
 ·split
  ·omega
  ·split<;>omega
theorem tE(c:Int)(hc:Rune c)(h:Heap):Sat (CT G) 243 [.int .i32 c] h (fun r h'=>r=.int .i32 (foldR c)∧h'=h):=by
 have c0:0≤c∧c≤1114111:=by unfold Rune at hc;omega
 obtain⟨c1,c2⟩:=c0;by_cases k1:c=215
 ·subst k1;refine sb [.tmp 2] Tryz.func243 ?_;intro Q hQ;refine wk trivial ?_;refine ee hQ trivial ?_;exact P2 (.int _ _) ⟨rfl,rfl⟩
 by_cases k2:c=930
 ·subst k2;refine sb [.tmp 2] Tryz.func243 ?_;intro Q hQ;refine wk trivial ?_;refine ee hQ trivial ?_;exact P2 (.int _ _) ⟨rfl,rfl⟩
 have w32:IntKind.i32.wrap (c+32)=c+32:=ci (by omega) (by omega);have w80:IntKind.i32.wrap (c+80)=c+80:=ci (by omega) (by omega);have n1:(c==215)=false:=by simp[k1]
 have n2:(c==930)=false:=by simp[k2]
 have b1:=cm G c 65 90;have b2:=cm G c 192 222;have b3:=cm G c 913 937;have b4:=cm G c 1040 1071;have b5:=cm G c 1024 1039;cases h1:btw c 65 90
 ·cases h2:btw c 192 222
  ·cases h3:btw c 913 937
   ·cases h4:btw c 1040 1071
    ·cases h5:btw c 1024 1039
     ·rw[h1]at b1;rw[h2]at b2;rw[h3]at b3;rw[h4]at b4;rw[h5]at b5;have F:=F2 n1 n2;refine sb [.tmp 2] Tryz.func243 ?_;intro Q hQ;refine wk F ?_;refine kq F (b1 _) ?_;refine kq F (b2 _) ?_;refine kq F (b3 _) ?_;refine kq F (b4 _) ?_;refine kq F (b5 _) ?_;refine ee hQ F ?_;exact P2 (.int _ _) ⟨by simp[foldR,k1,k2,h1,h2,h3,h4,h5,w32,w80],rfl⟩
     ·rw[h1]at b1;rw[h2]at b2;rw[h3]at b3;rw[h4]at b4;rw[h5]at b5;have F:=F2 n1 n2;refine sb [.tmp 2] Tryz.func243 ?_;intro Q hQ;refine wk F ?_;refine kq F (b1 _) ?_;refine kq F (b2 _) ?_;refine kq F (b3 _) ?_;refine kq F (b4 _) ?_;refine kq F (b5 _) ?_;refine ee hQ F ?_;exact P2 (.int _ _) ⟨by simp[foldR,k1,k2,h1,h2,h3,h4,h5,w32,w80],rfl⟩
    ·rw[h1]at b1;rw[h2]at b2;rw[h3]at b3;rw[h4]at b4;have F:=F2 n1 n2;refine sb [.tmp 2] Tryz.func243 ?_;intro Q hQ;refine wk F ?_;refine kq F (b1 _) ?_;refine kq F (b2 _) ?_;refine kq F (b3 _) ?_;refine kq F (b4 _) ?_;refine ee hQ F ?_;exact P2 (.int _ _) ⟨by simp[foldR,k1,k2,h1,h2,h3,h4,w32],rfl⟩
   ·rw[h1]at b1;rw[h2]at b2;rw[h3]at b3;have F:=F2 n1 n2;refine sb [.tmp 2] Tryz.func243 ?_;intro Q hQ;refine wk F ?_;refine kq F (b1 _) ?_;refine kq F (b2 _) ?_;refine kq F (b3 _) ?_;refine ee hQ F ?_;exact P2 (.int _ _) ⟨by simp[foldR,k1,k2,h1,h2,h3,w32],rfl⟩
  ·rw[h1]at b1;rw[h2]at b2;have F:=F2 n1 n2;refine sb [.tmp 2] Tryz.func243 ?_;intro Q hQ;refine wk F ?_;refine kq F (b1 _) ?_;refine kq F (b2 _) ?_;refine ee hQ F ?_;exact P2 (.int _ _) ⟨by simp[foldR,k1,k2,h1,h2,w32],rfl⟩
 ·rw[h1]at b1;have F:=F2 n1 n2;refine sb [.tmp 2] Tryz.func243 ?_;intro Q hQ;refine wk F ?_;refine kq F (b1 _) ?_;refine ee hQ F ?_;exact P2 (.int _ _) ⟨by simp[foldR,k1,k2,h1,w32],rfl⟩
def foldS(s:Bs):Bs:=encs ((runesF s).map foldR)
theorem tF(s:Bs)(hs:s.length≤1000000)(h:Heap):Sat (CT G) 213 [.str s] h (fun r h'=>r=.str (foldS s)∧h'=h):=by
 have F:= @mZ;refine sb [.tmp 2] Tryz.func213 ?_;intro Q hQ;(repeat (first|refine w1 (fun K hK=>?_)|refine w2 ?_|refine w3 ?_| ((first|refine w4 ?_|refine wD ?_|refine w5 ?_|refine w6 ?_|refine w7 ?_);try refine sq F ?_)| (refine w8 ?_;refine sq F ?_;refine w9 ?_)))
 refine hK _ _ (M2 ?_);clear hK K;(repeat (first|refine w1 (fun K hK=>?_)|refine w2 ?_|refine w3 ?_| ((first|refine w4 ?_|refine wD ?_|refine w5 ?_|refine w6 ?_|refine w7 ?_);try refine sq F ?_)| (refine w8 ?_;refine sq F ?_;refine w9 ?_)))
 refine hK _ _ ⟨_,_,Weak.virtCell (p:=h.length) (v:=0) 5 1 (by omega) (by simp(disch:=first|omega| (simp only[go_sem, ↓reduceIte,seval];first|done|omega)|fail) only[go_sem, ↓reduceIte,seval,F];rfl) 1 rfl,?_⟩;clear hK K;refine wk F ?_;refine lm (fun nL tL hL=>∃(a:AVal) (v k:Nat) (out:List Int),s.length-k=nL∧bldH h [.iter s k] a v (encs out)=hL∧bldA a h.length∧k≤s.length∧out++(runesF (s.drop k)).map foldR=(runesF s).map foldR∧(encs out).length+4*(s.length-k)≤4*s.length) ((fun(a:AVal) (v k:Nat) (out:List Int)=>(s.length-k:Nat)) ((.nil (.pointer none))) (0) (0) ([])) ?_ ?_
 ·refine M2 ⟨(.nil (.pointer none)),0,0,[],rfl,by simp[bldH,bldR,bufR,encs],.inl rfl,by omega,by simp,by simp[encs]⟩;all_goals try exact zZz F
 rintro _ s2 h' ⟨a,v,k,out,rfl,rfl,ha,hk,hv,hl⟩ K2 hK2;refine wk F ?_;refine gf (mY _ _ _ _ _ _ _) (fun hlt=>?_) (fun hge=>?_)
 ·have hR:=ji s k hlt;have hp:=br s k hlt;rw[fu s k hlt,N9]at hv;rw[show Utf8.decode ⟨s.toArray⟩ k=dec s k from rfl];generalize dec s k=d at*;obtain⟨c,m⟩:=d;simp only[]at hR hp hv ⊢;have hR2:=gv hR;have he:=eF (foldR c);have e2:encs (out++[foldR c])=encs out++enc (foldR c):=by
   simp only[encs,List.flatMap_append,W8,List.flatMap_nil,O8]
  try refine sq F ?_
  refine wk F ?_;refine kq F (tE G c hR _) ?_;refine kq F (dY G a (foldR c) hR2 h [.iter s (k+m)] v (encs out) ha (by omega)) ?_;refine hK2 _ _ _ (M2 ⟨(.hp h.length 0 0 0),v+1,k+m,out++[foldR c],rfl,by rw[e2],.inr rfl,by omega,by rw[← hv];simp,by rw[e2];simp only[N3];omega⟩) (by omega);all_goals try exact zZz F
 ·rw[ep s k (by omega)]at hv;try refine sq F ?_
  refine wk F ?_;refine(jS G a h [.iter s k] v (encs out)).mono ?_;rintro r h' ⟨rfl,b2,rfl⟩;try refine sq F ?_
  refine wk F ?_;refine ee hQ F ?_;exact Fin.plainE (j:=[bldR a (h.length+1) v (encs out),b2,.iter s k]) (by simp) (.str _) ⟨P0 AVal.str (by unfold foldS;rw[← hv];simp),rfl⟩
theorem cW(s:Bs):(foldS s).length≤4*s.length:=by
 unfold foldS;have h1:=(jk ((runesF s).map foldR)).1;have h2:=cB s.length s (M4 _);rw[L8]at h1;omega
def shN:Nat→Bs→Nat→Nat
 |0,_,_=>0
 |f+1,s,n=>if s=[]then 0 else if n=32 then 0 else(dec s 0).2+shN f (s.drop (dec s 0).2) (n+1)
def shW(s:Bs):Bs:=s.take (shN s.length s 0)
theorem vT:∀(f:Nat) (s:Bs) (n:Nat),s.length≤f→shN f s n=shN s.length s n:=by
 intro f;induction f using Nat.strongRecOn with
 |ind f ih=>
  intro s n hs;cases s with
  |nil=>cases f<;>rfl
  |cons b t=>
   obtain⟨f,rfl⟩:∃g,f=g+1:=⟨f-1,by simp at hs;omega⟩;have hd:=br (b::t) 0 (by simp);simp only[M8]at hs hd ⊢;have hl:((b::t).drop (dec (b::t) 0).2).length≤t.length:=(by simp only[Q6,M8];omega);rw[shN,shN,L5 (show ¬(b::t)=[] by simp),L5 (show ¬(b::t)=[] by simp),ih f (by omega) _ _ (by omega),ih t.length (by omega) _ _ hl]
def shA(s:Bs)(k n:Nat):Nat:=shN (s.drop k).length (s.drop k) n
theorem xQ(s:Bs)(k n:Nat)(h:s.length≤k):shA s k n=0:=by unfold shA;rw[T9 h];rfl
theorem zB(s:Bs)(k n:Nat)(h:k<s.length):shA s k n=if n=32 then 0 else(dec s k).2+shA s (k+(dec s k).2) (n+1):=by
 have hd:=br s k h;have hl:(s.drop k).length=(s.length-k-1)+1:=by rw[Q6];omega
 unfold shA;rw[hl,shN,L5 (by intro e;rw[e]at hl;simp at hl), ← cj,W6,vT (s.length-k-1) _ _ (by simp only[Q6];omega)]
theorem qX(s:Bs)(hs:s.length≤100000000)(h:Heap):Sat (CT G) 216 [.str s] h (fun r h'=>r=.str (shW s)∧h'=h):=by
 refine sb [.tmp 2] Tryz.func216 ?_;intro Q hQ;refine wk trivial ?_;refine lm (fun nL tL hL=>∃(k n:Nat),s.length-k=nL∧h++[.iter s k]=hL∧tL 3=.int .i64 n∧k≤s.length∧n≤32∧k+shA s k n=shN s.length s 0) ((fun(k n:Nat)=>(s.length-k:Nat)) (0) (0)) ?_ ?_
 ·refine M2 ⟨0,0,rfl,aB,?_,by omega,by omega,by simp[shA]⟩;all_goals try exact zZz trivial
 rintro _ s2 h' ⟨k,n,rfl,rfl,e3,hk,hn,hc⟩ K2 hK2;simp only[af,ao,Nat.reduceEqDiff, ↓reduceIte]at e3;have F:=e3;refine wk F ?_;refine gf (pg _ _ _ _) (fun hlt=>?_) (fun hge=>?_)
 ·have hp:=br s k hlt;have hca:=zB s k n hlt;rw[show Utf8.decode ⟨s.toArray⟩ k=dec s k from rfl];generalize dec s k=d at*;obtain⟨c,m⟩:=d;simp only[]at hp hca ⊢;try refine sq F ?_
  refine wk F ?_;refine cq F (fun c1=>?_) (fun c1=>?_)<;>(try exact c1.elim)<;>(refine wk F ?_)
  ·have c2:n=32:=(by omega);rw[M0 c2]at hca;refine ee hQ F ?_;refine fR (.str _) ?_;unfold shW;congr 2
   omega
  ·have c2:¬n=32:=(by omega);rw[L5 c2]at hca;refine hK2 _ _ _ (M2 ⟨k+m,n+1,rfl,aB,?_,by omega,by omega,by omega⟩) (by omega);all_goals try exact zZz F
 ·rw[xQ s k n (by omega)]at hc;try refine sq F ?_
  refine wk F ?_;refine ee hQ F ?_;refine fR (.str _) ?_;unfold shW;rw[← hc,N0 (by omega)]
def wordsF(s:Bs):List Bs:=(fldsF (foldS s)).map shW
theorem vU(s:Bs):∀w∈fldsF s,w.length≤s.length:=fun w hw=>by
 unfold fldsF Lib.goFieldsP at hw;rw[W5]at hw;obtain⟨x,_,rfl⟩:=M9.1 hw;simp only[Function.comp,ByteArray.extract,ByteArray.copySlice,Array.toList_append,Array.toList_extract,N3];simp[List.extract];omega
theorem dU(p:Nat→Bool)(s:ByteArray):∀(f pos:Nat) (st:Option Nat) (acc:List (Nat×Nat)),(Lib.spansFromP p s f pos st acc).1.length≤acc.length+f
 |0,_,_,acc=>by simp[Lib.spansFromP]
 |f+1,pos,st,acc=>by
  unfold Lib.spansFromP;split
  ·split
   ·cases st with
    |some a=>have:=dU p s f (pos+(Utf8.decode s pos).2) none (acc++[(a,pos)]);simp only[N3,M8,O7]at this;simp only;omega
    |none=>have:=dU p s f (pos+(Utf8.decode s pos).2) none acc;simp only;omega
   ·cases st with
    |some a=>have:=dU p s f (pos+(Utf8.decode s pos).2) (some a) acc;simp only;omega
    |none=>have:=dU p s f (pos+(Utf8.decode s pos).2) (some pos) acc;simp only;omega
  ·simp only;omega
theorem jm(s:Bs):(fldsF s).length≤s.length+1:=by
 unfold fldsF Lib.goFieldsP Lib.spansOfP;rw[L8,L8];have:=dU (fun r=> !letF r) ⟨s.toArray⟩ (ByteArray.size ⟨s.toArray⟩) 0 none [];have hsz:ByteArray.size ⟨s.toArray⟩=s.length:=by simp[ByteArray.size]
 rw[hsz]at this ⊢;unfold Lib.closeSpans;simp only[O7]at this;split
 ·simp only[N3,M8,O7];omega
 ·omega
theorem gw(s:Bs)(hs:s.length≤100000)(h:Heap):Sat (CT G) 175 [.str s] h (fun r h'=>r=.sl 1 ((wordsF s).map .str)∧h'=h):=by
 have hfl:=cW s;have hwl:=vU (foldS s);have hn:=jm (foldS s);refine sb [.tmp 2] Tryz.func175 ?_;intro Q hQ;refine wk trivial ?_;refine kq trivial (tF G s (by omega) _) ?_;refine(qT G (foldS s) (by omega) _).mono ?_;unfold wordsF at hQ;generalize fldsF (foldS s)=ws at*;rintro r h' (⟨hw0,rfl,he⟩| ⟨hw0,rfl,rfl⟩)
 ·subst hw0;rw[he];try refine sq trivial ?_
  refine wk trivial ?_;refine lm (fun nL tL hL=>0=nL∧[]++h=hL∧tL 3=.sl 1 []∧tL 10=.int .i64 0∧tL 11=.int .i64 0) (0) ?_ ?_
  ·refine M2 ⟨rfl,rfl,?_,?_,?_⟩;all_goals try exact zZz trivial
  rintro _ s2 h' ⟨rfl,rfl,e3,e10,e11⟩ K2 hK2;simp only[af,ao,Nat.reduceEqDiff, ↓reduceIte]at e3 e10 e11;have F:=F3 e3 e10 e11;refine wk F ?_;refine cq F (fun c1=>?_) (fun c1=>?_)<;>(try exact c1.elim)<;>(refine wk F ?_)
  refine ye hQ F ?_;exact P2 (Clo.sl 1 [] fun x hx=>by cases hx) ⟨rfl,rfl⟩
 ·try refine sq trivial ?_
  refine wk trivial ?_;refine lm (fun nL tL hL=>∃(k:Nat),ws.length-k=nL∧h++[.row 9 1 0 (((ws.take k).map shW++ws.drop k).map .str)]=hL∧tL 3=.hs h.length 0 0 ws.length true∧tL 9=.hs h.length 0 0 ws.length true∧tL 10=.int .i64 (ws.length:Int)∧tL 11=.int .i64 k∧k≤ws.length) ((fun(k:Nat)=>(ws.length-k:Nat)) (0)) ?_ ?_
  ·refine M2 ⟨0,rfl,aB,?_,?_,?_,?_,by omega⟩;all_goals try exact zZz trivial
  rintro _ s2 h' ⟨k,rfl,rfl,e3,e9,e10,e11,hk⟩ K2 hK2;simp only[af,ao,Nat.reduceEqDiff, ↓reduceIte]at e3 e9 e10 e11;have F:=F4 e3 e9 e10 e11;refine wk F ?_;refine cq F (fun c1=>?_) (fun c1=>?_)<;>(try exact c1.elim)<;>(refine wk F ?_)
  ·have c2:k<ws.length:=(by omega);obtain⟨y,hy,hym⟩:=ac c2;have hyl:=hwl y hym;have hget:((ws.take k).map shW++ws.drop k)[k]? =some y:=by
    rw[N1 (by simp;omega),L8,O6,za9 (by omega),Nat.sub_self,P9];simpa using hy
   have hset:(((ws.take k).map shW++ws.drop k).map AVal.str).set k (.str (shW y))=((ws.take (k+1)).map shW++ws.drop (k+1)).map .str:=by
    have h1:(AVal.str (shW y))=AVal.str (shW y):=rfl;rw[← zb5];congr 1
    rw[List.set_append_right _ _ (by simp;omega),L8,O6,za9 (by omega),Nat.sub_self,aF hy,List.set_cons_zero,P3,hy];simp
   have hlen:(((ws.take k).map shW++ws.drop k).map AVal.str).length=ws.length:=(by simp;omega);generalize hrw:(ws.take k).map shW++ws.drop k=rw at*;have F:=F6 F c2 @hget @hset @hlen @aw;(try refine sq F ?_);refine wk F ?_;refine kq F (qX G y (by omega) _) ?_;refine hK2 _ _ _ (M2 ⟨k+1,rfl,rfl,?_,?_,?_,?_,by omega⟩) (by omega);all_goals try exact zZz F
  ·have hk2:k=ws.length:=(by omega);subst hk2;have hfin:(ws.take ws.length).map shW++ws.drop ws.length=ws.map shW:=(by rw[X8,List.drop_length,O8]);rw[hfin];have hg:getRow (h++[.row 9 1 0 ((ws.map shW).map .str)]) h.length 0=some (9,1,(ws.map shW).map .str):=(by rw[aJ _ rfl];simp[getRow]);have hz:=za3 (n:=h.length) (len:=ws.length) (room:=true) (M4 _) hg (by simp) (fun r hr=>by obtain⟨a,_,rfl⟩:=M9.1 hr;exact .str _) (fun r hr c hc=>by obtain⟨a,_,rfl⟩:=M9.1 hr;simp[AVal.cells]at hc;subst hc;rfl);refine ye hQ F ?_;exact Fin.frz hz ⟨rfl,rfl⟩
def isF(s:Bs):Bool:=decide (wordsF s=[s])
theorem ph(s:Bs)(hs:s.length≤100000)(h:Heap):Sat (CT G) 160 [.str s] h (fun r h'=>r=.bool (isF s)∧h'=h):=by
 have hW:=gw G s hs;unfold isF;generalize wordsF s=ws at*
 match ws with
 | []=>
  refine sb [.tmp 2] Tryz.func160 ?_;intro Q hQ;refine wk trivial ?_;refine kq trivial (hW _) ?_;refine ee hQ trivial ?_;exact P2 (.bool _) ⟨by simp,rfl⟩
 | [w]=>
  refine sb [.tmp 2] Tryz.func160 ?_;intro Q hQ;refine wk trivial ?_;refine kq trivial (hW _) ?_;refine ee hQ trivial ?_;exact P2 (.bool _) ⟨by simp;rw[P5];simp,rfl⟩
 |w::v::l=>
  refine sb [.tmp 2] Tryz.func160 ?_;intro Q hQ;refine wk trivial ?_;refine kq trivial (hW _) ?_;(first|refine gq trivial (fun g=>?_) (fun g=>?_)|refine pq trivial (fun g=>?_) (fun g=>?_))<;>(try exact g.elim)<;>(try refine sq trivial ?_)<;>(refine wk trivial ?_)
  ·exfalso;first|omega| (simp at g;omega)
  ·refine ee hQ trivial ?_;exact P2 (.bool _) ⟨by simp,rfl⟩
theorem lK{x:Int}(h0:0≤x)(h1:x<256):IntKind.u8.wrap x=x:=by
 simp only[IntKind.wrap,IntKind.bits,IntKind.signed];simp;omega
theorem wx(k:IntKind)(n:Int)(h0:0≤n)(h1:n<256):aconv Tryz.prog 21 5 (.int k n)=some (.int .u8 n):=by simp only[aconv,go_sem,lK h0 h1]
theorem y7{a b:Int}(h0:0≤a):a.tdiv b=a/b:=Int.tdiv_eq_ediv_of_nonneg h0
theorem y8{a b:Int}(h0:0≤a):a.tmod b=a%b:=Int.tmod_eq_emod_of_nonneg h0
theorem Bytes.clo(n m:Nat)(l:Bs):Clo n (.sl m (l.map bytA)):=.sl _ _ fun e he=>by obtain⟨a,_,rfl⟩:=M9.1 he;exact .int _ _
theorem pr(r:Int)(hr:Rune r)(h:Heap):Sat (CT G) 219 [.int .i32 r] h (fun x h'=>x=.sl 1 ((enc r).map bytA)∧h'=h):=by
 obtain⟨h0,h1⟩:=id hr;have n64:((64:Int)=0)=False:=by decide
 have F:=F4 @wx @ci @y7 @y8;refine sb [.tmp 2] Tryz.func219 ?_;intro Q hQ;(repeat (first|refine w1 (fun K hK=>?_)|refine w2 ?_|refine w3 ?_| ((first|refine w4 ?_|refine wD ?_|refine w5 ?_|refine w6 ?_|refine w7 ?_);try refine sq F ?_)| (refine w8 ?_;refine sq F ?_;refine w9 ?_)| (refine rq F ?_;try refine sq F ?_)| (refine vq F ?_;try refine sq F ?_)| ((first|refine hK _ _ (w0 ?_)| (clear hK K;refine hK _ _ (w0 ?_))| (clear hK K;clear hK K;refine hK _ _ (w0 ?_)));clear hK K)))
 (first|refine gq F (fun g1=>?_) (fun g1=>?_)|refine pq F (fun g1=>?_) (fun g1=>?_))<;>(try exact g1.elim)<;>(try refine sq F ?_)<;>((repeat (first|refine w1 (fun K hK=>?_)|refine w2 ?_|refine w3 ?_| ((first|refine w4 ?_|refine wD ?_|refine w5 ?_|refine w6 ?_|refine w7 ?_);try refine sq F ?_)| (refine w8 ?_;refine sq F ?_;refine w9 ?_)| (refine rq F ?_;try refine sq F ?_)| (refine vq F ?_;try refine sq F ?_)| ((first|refine hK _ _ (w0 ?_)| (clear hK K;refine hK _ _ (w0 ?_))| (clear hK K;clear hK K;refine hK _ _ (w0 ?_)));clear hK K))))
 ·exfalso;omega
 ·have big:∀(t':Env),t' 0=.int .i32 r→t' 16=.bool false→K t' h:=by
   intro t' e0 e16;refine hK _ _ (M2 ?_);clear hK K;have F:=F3 F e0 e16;(repeat (first|refine w1 (fun K hK=>?_)|refine w2 ?_|refine w3 ?_| ((first|refine w4 ?_|refine wD ?_|refine w5 ?_|refine w6 ?_|refine w7 ?_);try refine sq F ?_)| (refine w8 ?_;refine sq F ?_;refine w9 ?_)| (refine rq F ?_;try refine sq F ?_)| (refine vq F ?_;try refine sq F ?_)| ((first|refine hK _ _ (w0 ?_)| (clear hK K;refine hK _ _ (w0 ?_))| (clear hK K;clear hK K;refine hK _ _ (w0 ?_)));clear hK K)))
   have fin:∀l:List AVal,(enc r).map bytA=l→Fin h h (fun x h'=>x=.sl 1 ((enc r).map bytA)∧h'=h) (.sl 1 l):=fun l e=>by
    rw[← e];exact jf (.clo _ (Bytes.clo _ _ _)) ⟨rfl,rfl⟩
   refine cq F (fun c1=>?_) (fun c1=>?_)<;>(try exact c1.elim)<;>((repeat (first|refine w1 (fun K hK=>?_)|refine w2 ?_|refine w3 ?_| ((first|refine w4 ?_|refine wD ?_|refine w5 ?_|refine w6 ?_|refine w7 ?_);try refine sq F ?_)| (refine w8 ?_;refine sq F ?_;refine w9 ?_)| (refine rq F ?_;try refine sq F ?_)| (refine vq F ?_;try refine sq F ?_)| ((first|refine hK _ _ (w0 ?_)| (clear hK K;refine hK _ _ (w0 ?_))| (clear hK K;clear hK K;refine hK _ _ (w0 ?_)));clear hK K))))
   ·refine ee hQ F ?_;exact fin _ (zx h0 c1)
   ·refine cq F (fun c2=>?_) (fun c2=>?_)<;>(try exact c2.elim)<;>((repeat (first|refine w1 (fun K hK=>?_)|refine w2 ?_|refine w3 ?_| ((first|refine w4 ?_|refine wD ?_|refine w5 ?_|refine w6 ?_|refine w7 ?_);try refine sq F ?_)| (refine w8 ?_;refine sq F ?_;refine w9 ?_)| (refine rq F ?_;try refine sq F ?_)| (refine vq F ?_;try refine sq F ?_)| ((first|refine hK _ _ (w0 ?_)| (clear hK K;refine hK _ _ (w0 ?_))| (clear hK K;clear hK K;refine hK _ _ (w0 ?_)));clear hK K))))
    ·refine ee hQ F ?_;exact fin _ (by rw[zy c1 c2])
    ·refine cq F (fun c3=>?_) (fun c3=>?_)<;>(try exact c3.elim)<;>((repeat (first|refine w1 (fun K hK=>?_)|refine w2 ?_|refine w3 ?_| ((first|refine w4 ?_|refine wD ?_|refine w5 ?_|refine w6 ?_|refine w7 ?_);try refine sq F ?_)| (refine w8 ?_;refine sq F ?_;refine w9 ?_)| (refine rq F ?_;try refine sq F ?_)| (refine vq F ?_;try refine sq F ?_)| ((first|refine hK _ _ (w0 ?_)| (clear hK K;refine hK _ _ (w0 ?_))| (clear hK K;clear hK K;refine hK _ _ (w0 ?_)));clear hK K))))
     ·refine ee hQ F ?_;exact fin _ (by rw[vO hr c2 c3])
     ·refine ee hQ F ?_;exact fin _ (by rw[zz c3 (by omega)])
  (first|refine gq F (fun g2=>?_) (fun g2=>?_)|refine pq F (fun g2=>?_) (fun g2=>?_))<;>(try exact g2.elim)<;>(try refine sq F ?_)<;>((repeat (first|refine w1 (fun K hK=>?_)|refine w2 ?_|refine w3 ?_| ((first|refine w4 ?_|refine wD ?_|refine w5 ?_|refine w6 ?_|refine w7 ?_);try refine sq F ?_)| (refine w8 ?_;refine sq F ?_;refine w9 ?_)| (refine rq F ?_;try refine sq F ?_)| (refine vq F ?_;try refine sq F ?_)| ((first|refine hK _ _ (w0 ?_)| (clear hK K;refine hK _ _ (w0 ?_))| (clear hK K;clear hK K;refine hK _ _ (w0 ?_)));clear hK K))))
  ·exfalso;omega
  ·(first|refine gq F (fun g3=>?_) (fun g3=>?_)|refine pq F (fun g3=>?_) (fun g3=>?_))<;>(try exact g3.elim)<;>(try refine sq F ?_)<;>((repeat (first|refine w1 (fun K hK=>?_)|refine w2 ?_|refine w3 ?_| ((first|refine w4 ?_|refine wD ?_|refine w5 ?_|refine w6 ?_|refine w7 ?_);try refine sq F ?_)| (refine w8 ?_;refine sq F ?_;refine w9 ?_)| (refine rq F ?_;try refine sq F ?_)| (refine vq F ?_;try refine sq F ?_)| ((first|refine hK _ _ (w0 ?_)| (clear hK K;refine hK _ _ (w0 ?_))| (clear hK K;clear hK K;refine hK _ _ (w0 ?_)));clear hK K))))
   ·have e:decide (r≤57343)=false:=(by rw[decide_eq_false_iff_not];omega);refine big _ ?_ ?_
    ·exact zq F
    ·exact zq (F2 F e)
   ·refine big _ ?_ ?_
    ·exact zq F
    ·exact zq F
theorem iZ:bytesStr Tryz.prog 228 9=true:=by kernel_rfl
def runA(r:Int):AVal:=.int .i32 r
@[go_sem] theorem Cj(r:Int):(runA r).cells=[.int .i32 r]:=(rfl)
theorem y9(l:List Int)(hr:∀r∈l,Rune r)(hl:l.length≤1048576)(h:Heap):Sat (CT G) 181 [.sl 1 (l.map runA)] h (fun x h'=>x=.str (l.flatMap enc)∧h'=h):=by
 have hll:(l.map runA).length=l.length:=L8 ..;have F:=hll;refine sb [.tmp 2] Tryz.func181 ?_;intro Q hQ;refine wk F ?_;refine lm (fun nL tL hL=>∃(k v:Nat) (acc:Bs),l.length-k=nL∧h++[.row 5 1 v (acc.map bytA)]=hL∧tL 3=.hs h.length v 0 acc.length true∧tL 4=.int .i64 k∧k≤l.length∧acc++(l.drop k).flatMap enc=l.flatMap enc∧acc.length≤4*k) ((fun(k v:Nat) (acc:Bs)=>(l.length-k:Nat)) (0) (0) ([])) ?_ ?_
 ·refine⟨_,_,Y3 3 5 1 (by simp) (by omega) (by exact zq F),⟨0,0,[],rfl,aB,?_,?_,?_,?_,?_⟩⟩;all_goals try exact zZz F
 rintro _ s2 h' ⟨k,v,acc,rfl,rfl,e3,e4,hk,hp,hz⟩ K2 hK2;simp only[af,ao,Nat.reduceEqDiff, ↓reduceIte]at e3 e4;have F:=F3 F e3 e4;refine wk F ?_;refine cq F (fun hc=>?_) (fun hc=>?_)<;>(try exact hc.elim)
 ·obtain⟨y,hy,hym⟩:=ac hc;rw[aF hy,W8]at hp;have he:=eF y;have hel:((enc y).map bytA).length=(enc y).length:=L8 ..;have F:=F2 F hy;refine wk F ?_;refine kq F (pr G y (hr y hym) _) ?_;refine aq F ?_;try refine sq F ?_
  refine wk F ?_;refine hK2 _ _ _ (M2 ⟨k+1,v+1,acc++enc y,rfl,aB,?_,?_,by omega,by rw[← hp];simp,by simp;omega⟩) (by omega);all_goals try exact zZz F
 ·rw[aI hc,List.flatMap_nil,O8]at hp;have hb:=gr acc;have hel:elemsOf (h++[.row 5 1 v (acc.map bytA)]) 1 (.hs h.length v 0 acc.length true)=some (acc.map bytA):=by
   simp[elemsOf,getRow,N0]
  have F:=F4 F hb hel @iZ;refine wk F ?_;refine ee hQ F ?_;rw[← hp];exact Fin.plainE (j:=_) rfl (.str _) ⟨rfl,rfl⟩
def bA(s:Bs)(i:Nat):Nat:=(s.getD i 0).toNat
theorem xf(s:Bs)(i:Nat):bA s i<256:=UInt8.toNat_lt _
theorem xg{s:Bs}{i:Nat}{c:UInt8}(h:s[i]? =some c):bA s i=c.toNat:=by unfold bA;rw[U1,h];rfl
def Cls(b:Nat)(n:Nat)(r l:Int):Prop:=
 (192≤b∧b<224∧n=2∧r=b-192∧l=128)∨(224≤b∧b<240∧n=3∧r=b-224∧l=2048)∨(240≤b∧b<248∧n=4∧r=b-240∧l=65536)
def accI(s:Bs)(r:Int):Nat→Int
 |0=>r
 |i+1=>accI s r i*64+(bA s (i+1)-128)
theorem mh(s:Bs):dec s 0=Lib.decodeN s.length (bA s 0) (bA s 1) (bA s 2) (bA s 3):=by rw[ft];rfl
theorem jY(s:Bs)(h:(128≤bA s 0∧bA s 0<192)∨248≤bA s 0):dec s 0=(65533,1):=by
 rw[mh];have:=xf s 0;unfold Lib.decodeN;rw[L5 (by omega),L5 (by omega),L5 (by omega),L5 (by omega)]
theorem oC(s:Bs){n:Nat}{r l:Int}(hc:Cls (bA s 0) n r l)(h:s.length<n):dec s 0=(65533,1):=by
 rw[mh];unfold Cls at hc;unfold Lib.decodeN;rw[L5 (by omega),L5 (by omega),L5 (by omega),L5 (by omega)]
theorem rC(s:Bs){n:Nat}{r l:Int}(hc:Cls (bA s 0) n r l)(i:Nat)(h1:1≤i)(h2:i<n)(h:¬(128≤bA s i∧bA s i<192)):dec s 0=(65533,1):=by
 rw[mh];unfold Cls at hc;have:=xf s i;unfold Lib.decodeN;have hi:i=1∨i=2∨i=3:=by omega
 rcases hi with rfl|rfl|rfl<;>rw[L5 (by omega),L5 (by omega),L5 (by omega),L5 (by omega)]
theorem tU(s:Bs){n:Nat}{r l:Int}(hc:Cls (bA s 0) n r l)(hn:n≤s.length)(ht:∀i,1≤i→i<n→128≤bA s i∧bA s i<192):
  ((accI s r (n-1)<l∨1114111<accI s r (n-1)∨(55296≤accI s r (n-1)∧accI s r (n-1)≤57343))→dec s 0=(65533,1))∧
  (¬(accI s r (n-1)<l∨1114111<accI s r (n-1)∨(55296≤accI s r (n-1)∧accI s r (n-1)≤57343))→((dec s 0).1:Int)=accI s r (n-1)∧(dec s 0).2=n):=by
 rw[mh];unfold Cls at hc;rcases hc with⟨h1,h2,rfl,rfl,rfl⟩| ⟨h1,h2,rfl,rfl,rfl⟩| ⟨h1,h2,rfl,rfl,rfl⟩
 ·have t1:=ht 1 (by omega) (by omega);simp only[accI,Nat.reduceSub,Nat.reduceAdd];unfold Lib.decodeN;rw[L5 (by omega),M0 (by omega)];constructor
  ·intro h;rw[L5 (by omega)]
  ·intro h;rw[M0 (by omega)];dsimp only;refine⟨?_,rfl⟩;omega
 ·have t1:=ht 1 (by omega) (by omega);have t2:=ht 2 (by omega) (by omega);simp only[accI,Nat.reduceSub,Nat.reduceAdd];unfold Lib.decodeN;rw[L5 (by omega),L5 (by omega),M0 (by omega)];constructor
  ·intro h;rw[L5 (by omega)]
  ·intro h;rw[M0 (by omega)];dsimp only;refine⟨?_,rfl⟩;omega
 ·have t1:=ht 1 (by omega) (by omega);have t2:=ht 2 (by omega) (by omega);have t3:=ht 3 (by omega) (by omega);simp only[accI,Nat.reduceSub,Nat.reduceAdd];unfold Lib.decodeN;rw[L5 (by omega),L5 (by omega),L5 (by omega),M0 (by omega)];constructor
  ·intro h;rw[L5 (by omega)]
  ·intro h;rw[M0 (by omega)];dsimp only;refine⟨?_,rfl⟩;omega
theorem tV(b:UInt8)(h:Heap):Sat (CT G) 245 [.int .u8 b.toNat] h (fun r h'=>r=.bool (decide (128≤b.toNat∧b.toNat<192))∧h'=h):=by
 refine sb [.tmp 2] Tryz.func245 ?_;intro Q hQ;refine wk trivial ?_;(first|refine gq trivial (fun g1=>?_) (fun g1=>?_)|refine pq trivial (fun g1=>?_) (fun g1=>?_))<;>(try exact g1.elim)<;>(try refine sq trivial ?_)<;>(refine wk trivial ?_)
 ·refine ee hQ trivial ?_;refine fR (.bool _) ?_;congr 1
  rw[P5];simp;omega
 ·refine ee hQ trivial ?_;refine fR (.bool _) ?_;rw[O4 (by omega)]
theorem wy(k:IntKind)(n:Int)(h0:0≤n)(h1:n<256):aconv Tryz.prog 5 21 (.int k n)=some (.int .i32 n):=by simp only[aconv,go_sem,ci (x:=n) (by omega) (by omega)]
theorem ii(s:Bs)(hne:s≠ [])(hs:s.length≤1073741824)(h:Heap):Sat (CT G) 217 [.str s] h (fun r h'=>r=.tup [.int .i32 (dec s 0).1,.int .i64 (dec s 0).2]∧h'=h):=by
 have hpos:0<s.length:=Y5.2 hne;obtain⟨b,hb,_⟩:=ac hpos;have hbA:=xg hb;have hb256:=b.toNat_lt;have fin:∀c w:Int,((dec s 0).1:Int)=c→((dec s 0).2:Int)=w→Fin h h (fun r h'=>r=.tup [.int .i32 (dec s 0).1,.int .i64 (dec s 0).2]∧h'=h) (.tup [.int .i32 c,.int .i64 w]):=fun c w e1 e2=>by
  rw[e1,e2];exact P2 (.tup _ (by intro c hc;simp at hc;rcases hc with rfl|rfl<;>exact .int _ _)) ⟨rfl,rfl⟩
 have bad:dec s 0=(65533,1)→Fin h h (fun r h'=>r=.tup [.int .i32 (dec s 0).1,.int .i64 (dec s 0).2]∧h'=h) (.tup [.int .i32 65533,.int .i64 1]):=fun e=>fin _ _ (by rw[e];rfl) (by rw[e];rfl)
 have F:=F4 @wy @lK @ci hb;refine sb [.tmp 2,.tmp 3] Tryz.func217 ?_;intro Q hQ;(repeat (first|refine w1 (fun K hK=>?_)|refine w2 ?_|refine w3 ?_| ((first|refine w4 ?_|refine wD ?_|refine w5 ?_|refine w6 ?_|refine w7 ?_);try refine sq F ?_)| (refine w8 ?_;refine sq F ?_;refine w9 ?_)| ((first|refine hK _ _ (w0 ?_)| (clear hK K;refine hK _ _ (w0 ?_))| (clear hK K;clear hK K;refine hK _ _ (w0 ?_)));clear hK K)))
 refine cq F (fun c1=>?_) (fun c1=>?_)<;>(try exact c1.elim)<;>((repeat (first|refine w1 (fun K hK=>?_)|refine w2 ?_|refine w3 ?_| ((first|refine w4 ?_|refine wD ?_|refine w5 ?_|refine w6 ?_|refine w7 ?_);try refine sq F ?_)| (refine w8 ?_;refine sq F ?_;refine w9 ?_)| ((first|refine hK _ _ (w0 ?_)| (clear hK K;refine hK _ _ (w0 ?_))| (clear hK K;clear hK K;refine hK _ _ (w0 ?_)));clear hK K))))
 ·refine ee hQ F ?_;have e:=lG s 0 b hb (by omega);exact fin _ _ (by rw[e]) (by rw[e];rfl)
 rename_i K0 hK0;have tail:∀(t':Env) (n:Nat) (r l:Int),Cls (bA s 0) n r l→t' 0=.str s→t' 5=.int .i64 n→t' 6=.int .i32 r→t' 7=.int .i32 l→K0 t' h:=by
  intro t' n r l hc e0 e5 e6 e7;refine hK0 _ _ (M2 ?_);clear hK0 K0 hK K;have F:=F5 F e0 e5 e6 e7;(repeat (first|refine w1 (fun K hK=>?_)|refine w2 ?_|refine w3 ?_| ((first|refine w4 ?_|refine wD ?_|refine w5 ?_|refine w6 ?_|refine w7 ?_);try refine sq F ?_)| (refine w8 ?_;refine sq F ?_;refine w9 ?_)| ((first|refine hK _ _ (w0 ?_)| (clear hK K;refine hK _ _ (w0 ?_))| (clear hK K;clear hK K;refine hK _ _ (w0 ?_)));clear hK K)))
  refine cq F (fun c2=>?_) (fun c2=>?_)<;>(try exact c2.elim)<;>((repeat (first|refine w1 (fun K hK=>?_)|refine w2 ?_|refine w3 ?_| ((first|refine w4 ?_|refine wD ?_|refine w5 ?_|refine w6 ?_|refine w7 ?_);try refine sq F ?_)| (refine w8 ?_;refine sq F ?_;refine w9 ?_)| ((first|refine hK _ _ (w0 ?_)| (clear hK K;refine hK _ _ (w0 ?_))| (clear hK K;clear hK K;refine hK _ _ (w0 ?_)));clear hK K))))
  ·refine ee hQ F ?_;exact bad (oC s hc (by omega))
  have hc':=hc;unfold Cls at hc';refine lm (fun nL tL hL=>∃(i:Nat) (q:Int),n-i=nL∧h=hL∧tL 6=.int .i32 q∧tL 8=.int .i64 i∧(1≤i∧i≤n)∧q=accI s r (i-1)∧(0≤q∧(i=1→q<32)∧(i=2→q<2048)∧(i=3→q<131072)∧(i=4→q<8388608))∧(∀j,1≤j→j<i→128≤bA s j∧bA s j<192)) ((fun(i:Nat) (q:Int)=>(n-i:Nat)) (1) (r)) ?_ ?_
  ·refine M2 ⟨1,r,rfl,aB,?_,?_,⟨by omega,by omega⟩,rfl,⟨by omega,by omega,by omega,by omega,by omega⟩,fun j h1 h2=>by omega⟩;all_goals try exact zZz F
  rintro _ s1 h' ⟨i,q,rfl,rfl,e6,e8,hi,hq,hb,ht⟩ K1 hK1;simp only[af,ao,Nat.reduceEqDiff, ↓reduceIte]at e6 e8;have F:=F3 F e6 e8;(repeat (first|refine w1 (fun K hK=>?_)|refine w2 ?_|refine w3 ?_| ((first|refine w4 ?_|refine wD ?_|refine w5 ?_|refine w6 ?_|refine w7 ?_);try refine sq F ?_)| (refine w8 ?_;refine sq F ?_;refine w9 ?_)| ((first|refine hK _ _ (w0 ?_)| (clear hK K;refine hK _ _ (w0 ?_))| (clear hK K;clear hK K;refine hK _ _ (w0 ?_)));clear hK K)))
  refine cq F (fun c3=>?_) (fun c3=>?_)<;>(try exact c3.elim)<;>((repeat (first|refine w1 (fun K hK=>?_)|refine w2 ?_|refine w3 ?_| ((first|refine w4 ?_|refine wD ?_|refine w5 ?_|refine w6 ?_|refine w7 ?_);try refine sq F ?_)| (refine w8 ?_;refine sq F ?_;refine w9 ?_)| ((first|refine hK _ _ (w0 ?_)| (clear hK K;refine hK _ _ (w0 ?_))| (clear hK K;clear hK K;refine hK _ _ (w0 ?_)));clear hK K))))
  ·obtain⟨y,hy,_⟩:=ac (show i<s.length by omega);have hyA:=xg hy;have hy256:=y.toNat_lt;have F:=F2 F hy;(try refine sq F ?_);(repeat (first|refine w1 (fun K hK=>?_)|refine w2 ?_|refine w3 ?_| ((first|refine w4 ?_|refine wD ?_|refine w5 ?_|refine w6 ?_|refine w7 ?_);try refine sq F ?_)| (refine w8 ?_;refine sq F ?_;refine w9 ?_)| ((first|refine hK _ _ (w0 ?_)| (clear hK K;refine hK _ _ (w0 ?_))| (clear hK K;clear hK K;refine hK _ _ (w0 ?_)));clear hK K)))
   refine(tV G y _).mono ?_;rintro r h' ⟨rfl,rfl⟩;(try refine sq F ?_);(repeat (first|refine w1 (fun K hK=>?_)|refine w2 ?_|refine w3 ?_| ((first|refine w4 ?_|refine wD ?_|refine w5 ?_|refine w6 ?_|refine w7 ?_);try refine sq F ?_)| (refine w8 ?_;refine sq F ?_;refine w9 ?_)| ((first|refine hK _ _ (w0 ?_)| (clear hK K;refine hK _ _ (w0 ?_))| (clear hK K;clear hK K;refine hK _ _ (w0 ?_)));clear hK K)))
   refine cq F (fun c4=>?_) (fun c4=>?_)<;>(try exact c4.elim)<;>((repeat (first|refine w1 (fun K hK=>?_)|refine w2 ?_|refine w3 ?_| ((first|refine w4 ?_|refine wD ?_|refine w5 ?_|refine w6 ?_|refine w7 ?_);try refine sq F ?_)| (refine w8 ?_;refine sq F ?_;refine w9 ?_)| ((first|refine hK _ _ (w0 ?_)| (clear hK K;refine hK _ _ (w0 ?_))| (clear hK K;clear hK K;refine hK _ _ (w0 ?_)));clear hK K))))
   ·refine ee hQ F ?_;exact bad (rC s hc i hi.1 c3 (by rw[hyA];omega))
   ·have hacc:accI s r i=accI s r (i-1)*64+(bA s i-128):=by
     obtain⟨k,rfl⟩:∃k,i=k+1:=⟨i-1,by omega⟩;rfl
    have hi4:i=1∨i=2∨i=3:=(by omega);have ht':∀j,1≤j→j<i+1→128≤bA s j∧bA s j<192:=fun j h1 h2=>by
     rcases Z6 j i with h3|h3
     ·exact ht j h1 h3
     ·obtain rfl:j=i:=by omega
      rw[hyA];omega
    have hq':q*64+((y.toNat:Int)-128)=accI s r (i+1-1):=(by rw[Nat.add_sub_cancel,hacc, ← hq,hyA]);(try refine sq F ?_);(repeat (first|refine w1 (fun K hK=>?_)|refine w2 ?_|refine w3 ?_| ((first|refine w4 ?_|refine wD ?_|refine w5 ?_|refine w6 ?_|refine w7 ?_);try refine sq F ?_)| (refine w8 ?_;refine sq F ?_;refine w9 ?_)| ((first|refine hK _ _ (w0 ?_)| (clear hK K;refine hK _ _ (w0 ?_))| (clear hK K;clear hK K;refine hK _ _ (w0 ?_)));clear hK K)))
    refine hK1 _ _ _ (M2 ⟨i+1,q*64+(y.toNat-128),rfl,aB,?_,?_,⟨by omega,by omega⟩,hq',by omega,ht'⟩) (by omega);all_goals try exact zZz F
  ·have hin:i=n:=(by omega);subst hin;obtain⟨f1,f2⟩:=tU s hc (by omega) ht;rw[← hq]at f1 f2;(try refine sq F ?_);(repeat (first|refine w1 (fun K hK=>?_)|refine w2 ?_|refine w3 ?_| ((first|refine w4 ?_|refine wD ?_|refine w5 ?_|refine w6 ?_|refine w7 ?_);try refine sq F ?_)| (refine w8 ?_;refine sq F ?_;refine w9 ?_)| ((first|refine hK _ _ (w0 ?_)| (clear hK K;refine hK _ _ (w0 ?_))| (clear hK K;clear hK K;refine hK _ _ (w0 ?_)));clear hK K)))
   (first|refine gq F (fun g1=>?_) (fun g1=>?_)|refine pq F (fun g1=>?_) (fun g1=>?_))<;>(try exact g1.elim)<;>(try refine sq F ?_)<;>((repeat (first|refine w1 (fun K hK=>?_)|refine w2 ?_|refine w3 ?_| ((first|refine w4 ?_|refine wD ?_|refine w5 ?_|refine w6 ?_|refine w7 ?_);try refine sq F ?_)| (refine w8 ?_;refine sq F ?_;refine w9 ?_)| ((first|refine hK _ _ (w0 ?_)| (clear hK K;refine hK _ _ (w0 ?_))| (clear hK K;clear hK K;refine hK _ _ (w0 ?_)));clear hK K))))
   ·refine ee hQ F ?_;exact bad (f1 (by omega))
   ·(first|refine gq F (fun g2=>?_) (fun g2=>?_)|refine pq F (fun g2=>?_) (fun g2=>?_))<;>(try exact g2.elim)<;>(try refine sq F ?_)<;>((repeat (first|refine w1 (fun K hK=>?_)|refine w2 ?_|refine w3 ?_| ((first|refine w4 ?_|refine wD ?_|refine w5 ?_|refine w6 ?_|refine w7 ?_);try refine sq F ?_)| (refine w8 ?_;refine sq F ?_;refine w9 ?_)| ((first|refine hK _ _ (w0 ?_)| (clear hK K;refine hK _ _ (w0 ?_))| (clear hK K;clear hK K;refine hK _ _ (w0 ?_)));clear hK K))))
    ·refine ee hQ F ?_;exact bad (f1 (by omega))
    ·(first|refine gq F (fun g3=>?_) (fun g3=>?_)|refine pq F (fun g3=>?_) (fun g3=>?_))<;>(try exact g3.elim)<;>(try refine sq F ?_)<;>((repeat (first|refine w1 (fun K hK=>?_)|refine w2 ?_|refine w3 ?_| ((first|refine w4 ?_|refine wD ?_|refine w5 ?_|refine w6 ?_|refine w7 ?_);try refine sq F ?_)| (refine w8 ?_;refine sq F ?_;refine w9 ?_)| ((first|refine hK _ _ (w0 ?_)| (clear hK K;refine hK _ _ (w0 ?_))| (clear hK K;clear hK K;refine hK _ _ (w0 ?_)));clear hK K))))
     ·refine cq F (fun g4=>?_) (fun g4=>?_)<;>(try exact g4.elim)<;>((repeat (first|refine w1 (fun K hK=>?_)|refine w2 ?_|refine w3 ?_| ((first|refine w4 ?_|refine wD ?_|refine w5 ?_|refine w6 ?_|refine w7 ?_);try refine sq F ?_)| (refine w8 ?_;refine sq F ?_;refine w9 ?_)| ((first|refine hK _ _ (w0 ?_)| (clear hK K;refine hK _ _ (w0 ?_))| (clear hK K;clear hK K;refine hK _ _ (w0 ?_)));clear hK K))))
      ·refine ee hQ F ?_;exact bad (f1 (by omega))
      ·refine ee hQ F ?_;exact fin _ _ (f2 (by omega)).1 (by rw[(f2 (by omega)).2])
     ·refine ee hQ F ?_;exact fin _ _ (f2 (by omega)).1 (by rw[(f2 (by omega)).2])
 (first|refine gq F (fun g1=>?_) (fun g1=>?_)|refine pq F (fun g1=>?_) (fun g1=>?_))<;>(try exact g1.elim)<;>(try refine sq F ?_)<;>((repeat (first|refine w1 (fun K hK=>?_)|refine w2 ?_|refine w3 ?_| ((first|refine w4 ?_|refine wD ?_|refine w5 ?_|refine w6 ?_|refine w7 ?_);try refine sq F ?_)| (refine w8 ?_;refine sq F ?_;refine w9 ?_)| ((first|refine hK _ _ (w0 ?_)| (clear hK K;refine hK _ _ (w0 ?_))| (clear hK K;clear hK K;refine hK _ _ (w0 ?_)));clear hK K))))
 ·refine cq F (fun g2=>?_) (fun g2=>?_)<;>(try exact g2.elim)<;>((repeat (first|refine w1 (fun K hK=>?_)|refine w2 ?_|refine w3 ?_| ((first|refine w4 ?_|refine wD ?_|refine w5 ?_|refine w6 ?_|refine w7 ?_);try refine sq F ?_)| (refine w8 ?_;refine sq F ?_;refine w9 ?_)| ((first|refine hK _ _ (w0 ?_)| (clear hK K;refine hK _ _ (w0 ?_))| (clear hK K;clear hK K;refine hK _ _ (w0 ?_)));clear hK K))))
  ·refine tail _ 2 (b.toNat-192) 128 ?_ ?_ ?_ ?_ ?_
   ·unfold Cls;omega
   ·exact zq F
   ·exact zq F
   ·exact zq F
   ·exact zq F
  ·(first|refine gq F (fun g3=>?_) (fun g3=>?_)|refine pq F (fun g3=>?_) (fun g3=>?_))<;>(try exact g3.elim)<;>(try refine sq F ?_)<;>((repeat (first|refine w1 (fun K hK=>?_)|refine w2 ?_|refine w3 ?_| ((first|refine w4 ?_|refine wD ?_|refine w5 ?_|refine w6 ?_|refine w7 ?_);try refine sq F ?_)| (refine w8 ?_;refine sq F ?_;refine w9 ?_)| ((first|refine hK _ _ (w0 ?_)| (clear hK K;refine hK _ _ (w0 ?_))| (clear hK K;clear hK K;refine hK _ _ (w0 ?_)));clear hK K))))
   ·refine cq F (fun g4=>?_) (fun g4=>?_)<;>(try exact g4.elim)<;>((repeat (first|refine w1 (fun K hK=>?_)|refine w2 ?_|refine w3 ?_| ((first|refine w4 ?_|refine wD ?_|refine w5 ?_|refine w6 ?_|refine w7 ?_);try refine sq F ?_)| (refine w8 ?_;refine sq F ?_;refine w9 ?_)| ((first|refine hK _ _ (w0 ?_)| (clear hK K;refine hK _ _ (w0 ?_))| (clear hK K;clear hK K;refine hK _ _ (w0 ?_)));clear hK K))))
    ·refine tail _ 3 (b.toNat-224) 2048 ?_ ?_ ?_ ?_ ?_
     ·unfold Cls;omega
     ·exact zq F
     ·exact zq F
     ·exact zq F
     ·exact zq F
    ·(first|refine gq F (fun g5=>?_) (fun g5=>?_)|refine pq F (fun g5=>?_) (fun g5=>?_))<;>(try exact g5.elim)<;>(try refine sq F ?_)<;>((repeat (first|refine w1 (fun K hK=>?_)|refine w2 ?_|refine w3 ?_| ((first|refine w4 ?_|refine wD ?_|refine w5 ?_|refine w6 ?_|refine w7 ?_);try refine sq F ?_)| (refine w8 ?_;refine sq F ?_;refine w9 ?_)| ((first|refine hK _ _ (w0 ?_)| (clear hK K;refine hK _ _ (w0 ?_))| (clear hK K;clear hK K;refine hK _ _ (w0 ?_)));clear hK K))))
     ·refine cq F (fun g6=>?_) (fun g6=>?_)<;>(try exact g6.elim)<;>((repeat (first|refine w1 (fun K hK=>?_)|refine w2 ?_|refine w3 ?_| ((first|refine w4 ?_|refine wD ?_|refine w5 ?_|refine w6 ?_|refine w7 ?_);try refine sq F ?_)| (refine w8 ?_;refine sq F ?_;refine w9 ?_)| ((first|refine hK _ _ (w0 ?_)| (clear hK K;refine hK _ _ (w0 ?_))| (clear hK K;clear hK K;refine hK _ _ (w0 ?_)));clear hK K))))
      ·refine tail _ 4 (b.toNat-240) 65536 ?_ ?_ ?_ ?_ ?_
       ·unfold Cls;omega
       ·exact zq F
       ·exact zq F
       ·exact zq F
       ·exact zq F
      ·refine ee hQ F ?_;exact bad (jY s (by omega))
     ·exfalso;omega
   ·exfalso;omega
 ·(first|refine gq F (fun g3=>?_) (fun g3=>?_)|refine pq F (fun g3=>?_) (fun g3=>?_))<;>(try exact g3.elim)<;>(try refine sq F ?_)<;>((repeat (first|refine w1 (fun K hK=>?_)|refine w2 ?_|refine w3 ?_| ((first|refine w4 ?_|refine wD ?_|refine w5 ?_|refine w6 ?_|refine w7 ?_);try refine sq F ?_)| (refine w8 ?_;refine sq F ?_;refine w9 ?_)| ((first|refine hK _ _ (w0 ?_)| (clear hK K;refine hK _ _ (w0 ?_))| (clear hK K;clear hK K;refine hK _ _ (w0 ?_)));clear hK K))))
  ·exfalso;omega
  ·(first|refine gq F (fun g5=>?_) (fun g5=>?_)|refine pq F (fun g5=>?_) (fun g5=>?_))<;>(try exact g5.elim)<;>(try refine sq F ?_)<;>((repeat (first|refine w1 (fun K hK=>?_)|refine w2 ?_|refine w3 ?_| ((first|refine w4 ?_|refine wD ?_|refine w5 ?_|refine w6 ?_|refine w7 ?_);try refine sq F ?_)| (refine w8 ?_;refine sq F ?_;refine w9 ?_)| ((first|refine hK _ _ (w0 ?_)| (clear hK K;refine hK _ _ (w0 ?_))| (clear hK K;clear hK K;refine hK _ _ (w0 ?_)));clear hK K))))
   ·exfalso;omega
   ·refine ee hQ F ?_;exact bad (jY s (by omega))
theorem wz:∀(l:List Int),∀r∈l.map runA,∀c∈r.cells,c.sto=true:=fun l r hr c hc=>by
 obtain⟨a,_,rfl⟩:=M9.1 hr;simp[runA,AVal.cells]at hc;subst hc;rfl
theorem wA:∀(n:Nat) (l:List Int),∀r∈l.map runA,Clo n r:=fun n l r hr=>by
 obtain⟨a,_,rfl⟩:=M9.1 hr;exact .int _ _
theorem Frz.runes{h:Heap}{n q v e:Nat}{l:List Int}{len:Nat}{room:Bool}(hq:n≤q)(hg:getRow h q v=some (e,1,l.map runA))(hlen:len=l.length):Frz h n (.hs q v 0 len room) (.sl 1 (l.map runA)):=
 za3 hq hg (by simpa using hlen) (fun r hr=>wA _ l r hr) (fun r hr=>wz l r hr)
theorem lL(s:Bs)(hs:s.length≤1048576)(h:Heap):Sat (CT G) 178 [.str s] h (fun r h'=>r=.sl 1 ((runesF s).map runA)∧h'=h):=by
 refine sb [.tmp 2] Tryz.func178 ?_;intro Q hQ;refine wk trivial ?_;refine lm (fun nL tL hL=>∃(k v:Nat) (acc:List Int),s.length-k=nL∧h++[.row 21 1 v (acc.map runA)]=hL∧tL 0=.str (s.drop k)∧tL 3=.hs h.length v 0 acc.length true∧k≤s.length∧acc.length≤k∧acc++runesF (s.drop k)=runesF s) ((fun(k v:Nat) (acc:List Int)=>(s.length-k:Nat)) (0) (0) ([])) ?_ ?_
 ·refine⟨_,_,Y3 3 21 1 (by simp) (by omega) (by exact zq trivial),⟨0,0,[],rfl,aB,?_,?_,?_,?_,?_⟩⟩;all_goals try exact zZz trivial
 rintro _ s2 h' ⟨k,v,acc,rfl,rfl,e0,e3,hk,hl,hp⟩ K2 hK2;simp only[af,ao,Nat.reduceEqDiff, ↓reduceIte]at e0 e3;have F:=F2 e0 e3;refine wk F ?_;refine cq F (fun c1=>?_) (fun c1=>?_)<;>(try exact c1.elim)<;>(refine wk F ?_)
 ·simp only[Q6]at c1;have hlt:k<s.length:=by omega
  have hp2:=br s k hlt;rw[fu s k hlt]at hp;have hne:s.drop k≠ []:=by intro e;have:=P0 List.length e;simp at this;omega
  refine(ii G (s.drop k) hne (by simp;omega) _).mono ?_;rintro r h' ⟨rfl,rfl⟩;rw[← cj];generalize dec s k=d at*;obtain⟨c,m⟩:=d;simp only[]at hp hp2 ⊢;have hsl:m≤(s.drop k).length:=by simp;omega
  have hdd:(s.drop k).drop m=s.drop (k+m):=W6 ..;have F:=F3 F hsl hdd;try refine sq F ?_
  refine wk F ?_;refine aq F ?_;try refine sq F ?_
  refine wk F ?_;refine hK2 _ _ _ (M2 ⟨k+m,v+1,acc++[(c:Int)],rfl,aB,?_,?_,by omega,by simp;omega,by rw[← hp];simp⟩) (by omega);all_goals try exact zZz F
 ·simp only[Q6]at c1;rw[ep s k (by omega),O8]at hp;refine wk F ?_;refine ee hQ F ?_;rw[← hp];exact Fin.frz (Frz.runes (M4 _) (by simp[getRow];rfl) rfl) ⟨rfl,rfl⟩
theorem rD(c:Int)(h:Heap):Sat (CT G) 253 [.int .i32 c] h (fun r h'=>r=.bool (blankR c)∧h'=h):=by
 have yes:(c=9∨c=10∨c=13∨c=32∨c=160∨c=8232∨c=8233∨c=12288)→blankR c=true:=fun h=>P1 h
 have no:¬(c=9∨c=10∨c=13∨c=32∨c=160∨c=8232∨c=8233∨c=12288)→blankR c=false:=fun h=>O4 h
 refine sb [.tmp 2] Tryz.func253 ?_;intro Q hQ;refine wk trivial ?_;(first|refine gq trivial (fun g0=>?_) (fun g0=>?_)|refine pq trivial (fun g0=>?_) (fun g0=>?_))<;>(try exact g0.elim)<;>(try refine sq trivial ?_)<;>(refine wk trivial ?_)
 ·refine ee hQ trivial ?_;refine fR (.bool _) ?_;rw[yes (by omega)]
 ·(first|refine gq trivial (fun g1=>?_) (fun g1=>?_)|refine pq trivial (fun g1=>?_) (fun g1=>?_))<;>(try exact g1.elim)<;>(try refine sq trivial ?_)<;>(refine wk trivial ?_)
  ·refine ee hQ trivial ?_;refine fR (.bool _) ?_;rw[yes (by omega)]
  ·(first|refine gq trivial (fun g2=>?_) (fun g2=>?_)|refine pq trivial (fun g2=>?_) (fun g2=>?_))<;>(try exact g2.elim)<;>(try refine sq trivial ?_)<;>(refine wk trivial ?_)
   ·refine ee hQ trivial ?_;refine fR (.bool _) ?_;rw[yes (by omega)]
   ·(first|refine gq trivial (fun g3=>?_) (fun g3=>?_)|refine pq trivial (fun g3=>?_) (fun g3=>?_))<;>(try exact g3.elim)<;>(try refine sq trivial ?_)<;>(refine wk trivial ?_)
    ·refine ee hQ trivial ?_;refine fR (.bool _) ?_;rw[yes (by omega)]
    ·(first|refine gq trivial (fun g4=>?_) (fun g4=>?_)|refine pq trivial (fun g4=>?_) (fun g4=>?_))<;>(try exact g4.elim)<;>(try refine sq trivial ?_)<;>(refine wk trivial ?_)
     ·refine ee hQ trivial ?_;refine fR (.bool _) ?_;rw[yes (by omega)]
     ·(first|refine gq trivial (fun g5=>?_) (fun g5=>?_)|refine pq trivial (fun g5=>?_) (fun g5=>?_))<;>(try exact g5.elim)<;>(try refine sq trivial ?_)<;>(refine wk trivial ?_)
      ·refine ee hQ trivial ?_;refine fR (.bool _) ?_;rw[yes (by omega)]
      ·(first|refine gq trivial (fun g6=>?_) (fun g6=>?_)|refine pq trivial (fun g6=>?_) (fun g6=>?_))<;>(try exact g6.elim)<;>(try refine sq trivial ?_)<;>(refine wk trivial ?_)
       ·refine ee hQ trivial ?_;refine fR (.bool _) ?_;rw[yes (by omega)]
       ·refine ee hQ trivial ?_;refine fR (.bool _) ?_;congr 1
        rw[P5];by_cases h8:c=12288
        ·rw[yes (by omega)];simp[h8]
        ·rw[no (by omega)];simp[h8]
theorem jZ(s:Bs)(hs:s.length≤1048576)(h:Heap):Sat (CT G) 238 [.str s] h (fun r h'=>r=.bool (rightS s)∧h'=h):=by
 refine sb [.tmp 2] Tryz.func238 ?_;intro Q hQ;refine wk trivial ?_;refine lm (fun nL tL hL=>∃(k:Nat),s.length-k=nL∧h=hL∧tL 0=.str (s.drop k)∧k≤s.length∧rightS (s.drop k)=rightS s) ((fun(k:Nat)=>(s.length-k:Nat)) (0)) ?_ ?_
 ·refine M2 ⟨0,rfl,aB,?_,by omega,rfl⟩;all_goals try exact zZz trivial
 rintro _ s2 h' ⟨k,rfl,rfl,e0,hk,hc⟩ K2 hK2;simp only[af,ao,Nat.reduceEqDiff, ↓reduceIte]at e0;have F:=e0;refine wk F ?_;refine cq F (fun c1=>?_) (fun c1=>?_)<;>(try exact c1.elim)<;>(refine wk F ?_)
 ·simp only[Q6]at c1;have hlt:k<s.length:=by omega
  have hp2:=br s k hlt;have hca:=lH s k hlt;have hne:s.drop k≠ []:=by intro e;have:=P0 List.length e;simp at this;omega
  rw[hc]at hca;refine(ii G (s.drop k) hne (by simp;omega) _).mono ?_;rintro r h' ⟨rfl,rfl⟩;rw[← cj];generalize dec s k=d at*;obtain⟨c,m⟩:=d;simp only[]at hp2 hca ⊢;have hsl:m≤(s.drop k).length:=by simp;omega
  have hdd:(s.drop k).drop m=s.drop (k+m):=W6 ..;have F:=F3 F hsl hdd;try refine sq F ?_
  refine wk F ?_;(first|refine gq F (fun g1=>?_) (fun g1=>?_)|refine pq F (fun g1=>?_) (fun g1=>?_))<;>(try exact g1.elim)<;>(try refine sq F ?_)<;>(refine wk F ?_)
  ·refine cq F (fun g2=>?_) (fun g2=>?_)<;>(try exact g2.elim)<;>(refine wk F ?_)
   ·refine ee hQ F ?_;refine fR (.bool _) ?_;rw[hca,M0 (by omega)]
   ·refine hK2 _ _ _ (M2 ⟨k+m,rfl,aB,?_,by omega,by rw[hca,L5 (by omega)]⟩) (by omega);all_goals try exact zZz F
  ·refine hK2 _ _ _ (M2 ⟨k+m,rfl,aB,?_,by omega,by rw[hca,L5 (by omega)]⟩) (by omega);all_goals try exact zZz F
 ·simp only[Q6]at c1;rw[T9 (by omega)]at hc;refine wk F ?_;refine ee hQ F ?_;refine fR (.bool _) ?_;rw[← hc];rfl
theorem ka(s:Bs)(hs:s.length≤100000)(h:Heap):Sat (CT G) 239 [.str s] h (fun r h'=>r=.str (cleanF s)∧h'=h):=by
 have hll:=cB s.length s (M4 _);have hrl:=dJ s.length s (M4 _);have hcl:=fw (runesF s) [] false hrl (by simp);have hdef:clnR (runesF s) [] false=cleanR s:=rfl;have hcf:encs (cleanR s)=cleanF s:=rfl;refine sb [.tmp 2] Tryz.func239 ?_;intro Q hQ;refine wk trivial ?_;refine(lL G s (by omega) _).mono ?_;rintro r h' ⟨rfl,hk_⟩;replace hk_:=hk_.symm;subst hk_;try refine sq trivial ?_
 refine wk trivial ?_;generalize runesF s=l at*;have hlm:(l.map runA).length=l.length:=L8 ..;have F:=hlm;refine lm (fun nL tL hL=>∃(k v:Nat) (acc:List Int) (w:Bool),l.length-k=nL∧h++[.row 21 1 v (acc.map runA)]=hL∧tL 4=.hs h.length v 0 acc.length true∧tL 5=.bool w∧tL 6=.int .i64 k∧k≤l.length∧clnR (l.drop k) acc w=cleanR s∧acc.length≤2*k) ((fun(k v:Nat) (acc:List Int) (w:Bool)=>(l.length-k:Nat)) (0) (0) ([]) (false)) ?_ ?_
 ·refine⟨_,_,Y3 4 21 1 (by simp) (by omega) (by exact zq F),⟨0,0,[],false,rfl,aB,?_,?_,?_,by omega,hdef,by simp⟩⟩;all_goals try exact zZz F
 rintro _ s2 h' ⟨k,v,acc,w,rfl,rfl,e4,e5,e6,hk,hv,hl⟩ K2 hK2;simp only[af,ao,Nat.reduceEqDiff, ↓reduceIte]at e4 e5 e6;have F:=F4 F e4 e5 e6;refine wk F ?_;refine cq F (fun c1=>?_) (fun c1=>?_)<;>(try exact c1.elim)
 ·obtain⟨y,hy,hym⟩:=ac c1;have hyl:(l.map runA)[k]? =some (.int .i32 y):=by rw[N8,hy];rfl
  rw[aF hy,clnR]at hv;have F:=F2 F hyl;refine wk F ?_;refine kq F (rD G y _) ?_;have ho:decide ((acc.length:Int)>0)=decide (0<acc.length):=by
   rw[P5];simp only[M1];omega
  refine cq F (fun c2=>?_) (fun c2=>?_)<;>(try exact c2.elim)<;>(refine wk F ?_)
  ·rw[M0 c2]at hv;have F:=F2 F ho;(try refine sq F ?_);refine hK2 _ _ _ (M2 ⟨k+1,v,acc,decide (0<acc.length),rfl,aB,?_,?_,?_,by omega,hv,by omega⟩) (by omega);all_goals try exact zZz F
  ·rw[L5 (by simp[c2])]at hv;have yes:(y<32∨(127≤y∧y≤159))→ctlR y=true:=fun h=>P1 h
   have no:¬(y<32∨(127≤y∧y≤159))→ctlR y=false:=fun h=>O4 h
   (first|refine gq F (fun g1=>?_) (fun g1=>?_)|refine pq F (fun g1=>?_) (fun g1=>?_))<;>(try exact g1.elim)<;>(try refine sq F ?_)<;>(refine wk F ?_)
   ·rw[M0 (yes (by omega))]at hv;refine hK2 _ _ _ (M2 ⟨k+1,v,acc,w,rfl,aB,?_,?_,?_,by omega,hv,by omega⟩) (by omega);all_goals try exact zZz F
   ·(first|refine gq F (fun g2=>?_) (fun g2=>?_)|refine pq F (fun g2=>?_) (fun g2=>?_))<;>(try exact g2.elim)<;>(try refine sq F ?_)<;>(refine wk F ?_)
    ·refine cq F (fun g3=>?_) (fun g3=>?_)<;>(try exact g3.elim)<;>(refine wk F ?_)
     ·rw[M0 (yes (by omega))]at hv;refine hK2 _ _ _ (M2 ⟨k+1,v,acc,w,rfl,aB,?_,?_,?_,by omega,hv,by omega⟩) (by omega);all_goals try exact zZz F
     ·rw[L5 (by rw[no (by omega)];simp)]at hv;refine cq F (fun c3=>?_) (fun c3=>?_)<;>(try exact c3.elim)<;>(refine wk F ?_)
      ·rw[M0 c3]at hv;refine aq F ?_;(try refine sq F ?_);refine wk F ?_;refine aq F ?_;(try refine sq F ?_);refine wk F ?_;refine hK2 _ _ _ (M2 ⟨k+1,v+1+1,acc++[32,y],false,rfl,by simp[runA],?_,?_,?_,by omega,hv,by simp;omega⟩) (by omega);all_goals try exact zZz F
      ·rw[L5 (by simp[c3])]at hv;refine aq F ?_;(try refine sq F ?_);refine wk F ?_;refine hK2 _ _ _ (M2 ⟨k+1,v+1,acc++[y],w,rfl,by simp[runA],?_,?_,?_,by omega,by rw[c3];exact hv,by simp;omega⟩) (by omega);all_goals try exact zZz F
    ·rw[L5 (by rw[no (by omega)];simp)]at hv;refine cq F (fun c3=>?_) (fun c3=>?_)<;>(try exact c3.elim)<;>(refine wk F ?_)
     ·rw[M0 c3]at hv;refine aq F ?_;(try refine sq F ?_);refine wk F ?_;refine aq F ?_;(try refine sq F ?_);refine wk F ?_;refine hK2 _ _ _ (M2 ⟨k+1,v+1+1,acc++[32,y],false,rfl,by simp[runA],?_,?_,?_,by omega,hv,by simp;omega⟩) (by omega);all_goals try exact zZz F
     ·rw[L5 (by simp[c3])]at hv;refine aq F ?_;(try refine sq F ?_);refine wk F ?_;refine hK2 _ _ _ (M2 ⟨k+1,v+1,acc++[y],w,rfl,by simp[runA],?_,?_,?_,by omega,by rw[c3];exact hv,by simp;omega⟩) (by omega);all_goals try exact zZz F
 ·rw[aI c1,clnR]at hv;(repeat (first|refine w1 (fun K hK=>?_)|refine w2 ?_|refine w3 ?_| ((first|refine w4 ?_|refine wD ?_|refine w5 ?_|refine w6 ?_|refine w7 ?_);try refine sq F ?_)| (refine w8 ?_;refine sq F ?_;refine w9 ?_)| (refine rq F ?_;try refine sq F ?_)| (refine vq F ?_;try refine sq F ?_)))
  have hg:getRow (h++[.row 21 1 v (acc.map runA)]) h.length v=some (21,1,acc.map runA):=by simp[getRow]
  have ht:∀(ms:List Nat) (t:Env),4∈ms→t 4=.hs h.length v 0 acc.length true→∀i,upd t 4 (.sl 1 (acc.map runA)) i=t i∨(i∈ms∧Fz (h++[.row 21 1 v (acc.map runA)]) h.length v (t i) (upd t 4 (.sl 1 (acc.map runA)) i)):=fun ms t hm ht i=>by
   by_cases hi:i=4
   ·subst hi;right;refine⟨hm,?_⟩;rw[ht];simp only[upd, ↓reduceIte];exact Fz.all _ _ _ hg rfl (by simp)
   ·left;simp only[upd];rw[L5 hi]
  refine Dx (Weak.fz h.length v hg (ht _ _ (by decide+kernel) (by exact zq F))) ?_;have hset:(h++[Blk.row 21 1 v (acc.map runA)]).set h.length Blk.dead=h++[Blk.dead]:=by simp
  rw[hset];refine wk F ?_;refine kq F (y9 G acc (fun r hr=>hcl r (by rw[hdef, ← hv];exact hr)) (by omega) _) ?_;refine ee hQ F ?_;refine fR (.str _) ?_;rw[hv];exact P0 AVal.str hcf
end Go.Av
