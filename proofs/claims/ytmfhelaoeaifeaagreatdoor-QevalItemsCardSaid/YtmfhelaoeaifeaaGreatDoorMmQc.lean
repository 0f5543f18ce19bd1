/- Parts. -/
import Derived.Test.YtmfhelaoeaifeaaGreatDoorMmNd
import Derived.Test.YtmfhelaoeaifeaaGreatDoorMmEc
import Derived.Test.YtmfhelaoeaifeaaGreatDoorMmCm
set_option linter.unusedSimpArgs false
set_option linter.unusedVariables false
set_option linter.unusedSectionVars false
set_option linter.unnecessarySimpa false
set_option maxRecDepth 100000
set_option maxHeartbeats 16000000
namespace Go.Av
open Go Go.Proofs Go.RowKit
section
attribute [local irreducible] WP WPl WPix Sat
variable (G:Nat→Option (List AVal))
theorem vW(N:Nat)(a b c d e f k:Int):Clo N (.tup [.agg [.int .i64 a,.int .i64 b,.int .i64 c,.int .i64 d,.int .i64 e,.int .i64 f],.int .i64 k]):=.tup _ fun x hx=>by
 simp only[M6,P7,or_false]at hx;rcases hx with rfl|rfl
 ·exact bT fun c hc=>by simp at hc;rcases hc with rfl|rfl|rfl|rfl|rfl|rfl<;>simp
 ·exact .int _ _
def momF(n:Int):Bool:=decide (-62135596800≤n)&&decide (n≤253402300799)
theorem iV(n a b:Int)(h:Heap):Sat (CT G) 203 [.int .i64 n,.int .i64 a,.int .i64 b] h (fun r h'=>r=.bool (decide (a≤n)&&decide (n≤b))∧h'=h):=by
 by_cases k:a≤n
 ·have k2:decide (n≥a)=true:=by simpa using k
  have F:=k2;refine sb [.tmp 6] Tryz.func203 ?_;intro Q hQ;refine wk F ?_;refine ee hQ F ?_;exact P2 (.bool _) ⟨by simp[k],rfl⟩
 ·have k2:decide (n≥a)=false:=by simpa using k
  have F:=k2;refine sb [.tmp 6] Tryz.func203 ?_;intro Q hQ;refine wk F ?_;refine ee hQ F ?_;exact P2 (.bool _) ⟨by simp[k],rfl⟩
theorem pi(n:Int)(h:Heap):Sat (CT G) 158 [.int .i64 n] h (fun r h'=>(∃a b c d e f:Int,r=.tup [.agg [.int .i64 a,.int .i64 b,.int .i64 c,.int .i64 d,.int .i64 e,.int .i64 f],.int .i64 (if momF n then 0 else 40)])∧h'=h):=by
 cases hm:momF n with
 |false=>
  unfold momF at hm;have hW:=iV G n (-62135596800) 253402300799;rw[hm]at hW;refine sb [.cell 2 187,.tmp 3] Tryz.func158 ?_;intro Q hQ;refine wk trivial ?_;refine kq trivial (hW _) ?_;refine ye hQ trivial ?_;exact L7 (vW ..) ⟨⟨_,_,_,_,_,_,rfl⟩,rfl⟩
 |true=>
  have hm2:=hm;unfold momF at hm2;have hW:=iV G n (-62135596800) 253402300799;rw[hm2]at hW;simp only[L6,M1]at hm2;obtain⟨m1,m2⟩:=hm2;refine sb [.cell 2 187,.tmp 3] Tryz.func158 ?_;intro Q hQ;refine wk trivial ?_;refine kq trivial (hW _) ?_;refine cq trivial (fun c1=>?_) (fun c1=>?_)<;>(try exact c1.elim)<;>(refine wk trivial ?_)
  ·refine ye hQ trivial ?_;exact L7 (vW ..) ⟨⟨_,_,_,_,_,_,rfl⟩,rfl⟩
  ·refine ye hQ trivial ?_;exact L7 (vW ..) ⟨⟨_,_,_,_,_,_,rfl⟩,rfl⟩
theorem oo(n:Int)(h:Heap):Sat (CT G) 196 [.int .i64 n] h (fun r h'=>r=.bool (momF n)∧h'=h):=by
 refine sb [.tmp 2] Tryz.func196 ?_;intro Q hQ;refine wk trivial ?_;refine(pi G n _).mono ?_;rintro r h' ⟨⟨_,_,_,_,_,_,rfl⟩,rfl⟩;cases hm:momF n
 ·have F:=hm;try refine sq F ?_
  refine wk F ?_;refine ee hQ F ?_;exact L7 (.bool _) ⟨rfl,rfl⟩
 ·have F:=hm;try refine sq F ?_
  refine wk F ?_;refine ee hQ F ?_;exact L7 (.bool _) ⟨rfl,rfl⟩
end
section
attribute [local irreducible] WP WPl WPix Sat
def textF(ri:Bs→Bool)(cl:Bs→Bs)(t:Bs)(n:Int):Bool:=decide ((t.length:Int)≤n)&&(ri t&&cl t==t)
variable (G:Nat→Option (List AVal))
theorem er(ri:Bs→Bool)(cl:Bs→Bs)(hR:∀t,t.length≤1000→∀h,Sat (CT G) 251 [.str t] h (fun r h'=>r=.bool (ri t)∧h'=h))(hC:∀t,t.length≤1000→∀h,Sat (CT G) 252 [.str t] h (fun r h'=>r=.str (cl t)∧h'=h))(t:Bs)(n:Int)(hn:n≤1000)(h:Heap):Sat (CT G) 235 [.str t,.int .i64 n] h (fun r h'=>r=.bool (textF ri cl t n)∧h'=h):=by
 cases hl:decide ((t.length:Int)≤n)with
 |false=>
  have F:=hl;refine sb [.tmp 4] Tryz.func235 ?_;intro Q hQ;refine wk F ?_;refine ee hQ F ?_;exact P2 (.bool _) ⟨by simp[textF,hl],rfl⟩
 |true=>
  have hlt:t.length≤1000:=by have:=T6 hl;omega
  cases hr:ri t with
  |false=>
   have hR1:=hR t hlt;rw[hr]at hR1;have F:=hl;refine sb [.tmp 4] Tryz.func235 ?_;intro Q hQ;refine wk F ?_;refine kq F (hR1 _) ?_;refine ee hQ F ?_;exact P2 (.bool _) ⟨by simp[textF,hl,hr],rfl⟩
  |true=>
   have hR1:=hR t hlt;rw[hr]at hR1;have F:=hl;refine sb [.tmp 4] Tryz.func235 ?_;intro Q hQ;refine wk F ?_;refine kq F (hR1 _) ?_;refine kq F (hC t hlt _) ?_;refine ee hQ F ?_;exact P2 (.bool _) ⟨by simp[textF,hl,hr],rfl⟩
theorem iW(ri:Bs→Bool)(cl:Bs→Bs)(hR:∀t,t.length≤1000→∀h,Sat (CT G) 251 [.str t] h (fun r h'=>r=.bool (ri t)∧h'=h))(hC:∀t,t.length≤1000→∀h,Sat (CT G) 252 [.str t] h (fun r h'=>r=.str (cl t)∧h'=h))(t:Bs)(h:Heap):Sat (CT G) 193 [.str t] h (fun r h'=>r=.bool (!(t==[])&&textF ri cl t 64)∧h'=h):=by
 cases k1:(t==[])with
 |true=>
  have k2:(t != [])=false:=by simpa using k1
  have F:=F2 k1 k2;refine sb [.tmp 2] Tryz.func193 ?_;intro Q hQ;refine wk F ?_;refine ee hQ F ?_;exact P2 (.bool _) ⟨by simp,rfl⟩
 |false=>
  have k2:(t != [])=true:=by simpa using k1
  have F:=F2 k1 k2;refine sb [.tmp 2] Tryz.func193 ?_;intro Q hQ;refine wk F ?_;refine kq F (er G ri cl hR hC t 64 (by omega) _) ?_;refine ee hQ F ?_;exact P2 (.bool _) ⟨by simp,rfl⟩
theorem ow(ri:Bs→Bool)(cl:Bs→Bs)(hR:∀t,t.length≤1000→∀h,Sat (CT G) 251 [.str t] h (fun r h'=>r=.bool (ri t)∧h'=h))(hC:∀t,t.length≤1000→∀h,Sat (CT G) 252 [.str t] h (fun r h'=>r=.str (cl t)∧h'=h))(t:Bs)(h:Heap):Sat (CT G) 195 [.str t] h (fun r h'=>r=.bool (textF ri cl t 256)∧h'=h):=by
 refine sb [.tmp 2] Tryz.func195 ?_;intro Q hQ;refine wk trivial ?_;refine kq trivial (er G ri cl hR hC t 256 (by omega) _) ?_;refine ee hQ trivial ?_;exact P2 (.bool _) ⟨rfl,rfl⟩
theorem jV(ri:Bs→Bool)(cl:Bs→Bs)(hR:∀t,t.length≤1000→∀h,Sat (CT G) 251 [.str t] h (fun r h'=>r=.bool (ri t)∧h'=h))(hC:∀t,t.length≤1000→∀h,Sat (CT G) 252 [.str t] h (fun r h'=>r=.str (cl t)∧h'=h))(t:Bs)(h:Heap):Sat (CT G) 197 [.str t] h (fun r h'=>r=.bool (textF ri cl t 512)∧h'=h):=by
 refine sb [.tmp 2] Tryz.func197 ?_;intro Q hQ;refine wk trivial ?_;refine kq trivial (er G ri cl hR hC t 512 (by omega) _) ?_;refine ee hQ trivial ?_;exact P2 (.bool _) ⟨rfl,rfl⟩
theorem ox(ri:Bs→Bool)(cl:Bs→Bs)(hR:∀t,t.length≤1000→∀h,Sat (CT G) 251 [.str t] h (fun r h'=>r=.bool (ri t)∧h'=h))(hC:∀t,t.length≤1000→∀h,Sat (CT G) 252 [.str t] h (fun r h'=>r=.str (cl t)∧h'=h))(t:Bs)(h:Heap):Sat (CT G) 198 [.str t] h (fun r h'=>r=.bool (!(t==[])&&textF ri cl t 512)∧h'=h):=by
 cases k1:(t==[])with
 |true=>
  have k2:(t != [])=false:=by simpa using k1
  have F:=F2 k1 k2;refine sb [.tmp 2] Tryz.func198 ?_;intro Q hQ;refine wk F ?_;refine ee hQ F ?_;exact P2 (.bool _) ⟨by simp,rfl⟩
 |false=>
  have k2:(t != [])=true:=by simpa using k1
  have F:=F2 k1 k2;refine sb [.tmp 2] Tryz.func198 ?_;intro Q hQ;refine wk F ?_;refine kq F (er G ri cl hR hC t 512 (by omega) _) ?_;refine ee hQ F ?_;exact P2 (.bool _) ⟨by simp,rfl⟩
theorem eu(ri:Bs→Bool)(cl:Bs→Bs)(hR:∀t,t.length≤1000→∀h,Sat (CT G) 238 [.str t] h (fun r h'=>r=.bool (ri t)∧h'=h))(hC:∀t,t.length≤1000→∀h,Sat (CT G) 239 [.str t] h (fun r h'=>r=.str (cl t)∧h'=h))(t:Bs)(n:Int)(hn:n≤1000)(h:Heap):Sat (CT G) 202 [.str t,.int .i64 n] h (fun r h'=>r=.bool (textF ri cl t n)∧h'=h):=by
 cases hl:decide ((t.length:Int)≤n)with
 |false=>
  have F:=hl;refine sb [.tmp 4] Tryz.func202 ?_;intro Q hQ;refine wk F ?_;refine ee hQ F ?_;exact P2 (.bool _) ⟨by simp[textF,hl],rfl⟩
 |true=>
  have hlt:t.length≤1000:=by have:=T6 hl;omega
  cases hr:ri t with
  |false=>
   have hR1:=hR t hlt;rw[hr]at hR1;have F:=hl;refine sb [.tmp 4] Tryz.func202 ?_;intro Q hQ;refine wk F ?_;refine kq F (hR1 _) ?_;refine ee hQ F ?_;exact P2 (.bool _) ⟨by simp[textF,hl,hr],rfl⟩
  |true=>
   have hR1:=hR t hlt;rw[hr]at hR1;have F:=hl;refine sb [.tmp 4] Tryz.func202 ?_;intro Q hQ;refine wk F ?_;refine kq F (hR1 _) ?_;refine kq F (hC t hlt _) ?_;refine ee hQ F ?_;exact P2 (.bool _) ⟨by simp[textF,hl,hr],rfl⟩
theorem iX(ri:Bs→Bool)(cl:Bs→Bs)(hR:∀t,t.length≤1000→∀h,Sat (CT G) 238 [.str t] h (fun r h'=>r=.bool (ri t)∧h'=h))(hC:∀t,t.length≤1000→∀h,Sat (CT G) 239 [.str t] h (fun r h'=>r=.str (cl t)∧h'=h))(t:Bs)(h:Heap):Sat (CT G) 154 [.str t] h (fun r h'=>r=.bool (!(t==[])&&textF ri cl t 64)∧h'=h):=by
 cases k1:(t==[])with
 |true=>
  have k2:(t != [])=false:=by simpa using k1
  have F:=F2 k1 k2;refine sb [.tmp 2] Tryz.func154 ?_;intro Q hQ;refine wk F ?_;refine ee hQ F ?_;exact P2 (.bool _) ⟨by simp,rfl⟩
 |false=>
  have k2:(t != [])=true:=by simpa using k1
  have F:=F2 k1 k2;refine sb [.tmp 2] Tryz.func154 ?_;intro Q hQ;refine wk F ?_;refine kq F (eu G ri cl hR hC t 64 (by omega) _) ?_;refine ee hQ F ?_;exact P2 (.bool _) ⟨by simp,rfl⟩
theorem oy(ri:Bs→Bool)(cl:Bs→Bs)(hR:∀t,t.length≤1000→∀h,Sat (CT G) 238 [.str t] h (fun r h'=>r=.bool (ri t)∧h'=h))(hC:∀t,t.length≤1000→∀h,Sat (CT G) 239 [.str t] h (fun r h'=>r=.str (cl t)∧h'=h))(t:Bs)(h:Heap):Sat (CT G) 156 [.str t] h (fun r h'=>r=.bool (textF ri cl t 256)∧h'=h):=by
 refine sb [.tmp 2] Tryz.func156 ?_;intro Q hQ;refine wk trivial ?_;refine kq trivial (eu G ri cl hR hC t 256 (by omega) _) ?_;refine ee hQ trivial ?_;exact P2 (.bool _) ⟨rfl,rfl⟩
theorem r8(ri:Bs→Bool)(cl:Bs→Bs)(hR:∀t,t.length≤1000→∀h,Sat (CT G) 238 [.str t] h (fun r h'=>r=.bool (ri t)∧h'=h))(hC:∀t,t.length≤1000→∀h,Sat (CT G) 239 [.str t] h (fun r h'=>r=.str (cl t)∧h'=h))(t:Bs)(h:Heap):Sat (CT G) 155 [.str t] h (fun r h'=>r=.bool (textF ri cl t 512)∧h'=h):=by
 refine sb [.tmp 2] Tryz.func155 ?_;intro Q hQ;refine wk trivial ?_;refine kq trivial (eu G ri cl hR hC t 512 (by omega) _) ?_;refine ee hQ trivial ?_;exact P2 (.bool _) ⟨rfl,rfl⟩
theorem oz(ri:Bs→Bool)(cl:Bs→Bs)(hR:∀t,t.length≤1000→∀h,Sat (CT G) 238 [.str t] h (fun r h'=>r=.bool (ri t)∧h'=h))(hC:∀t,t.length≤1000→∀h,Sat (CT G) 239 [.str t] h (fun r h'=>r=.str (cl t)∧h'=h))(t:Bs)(h:Heap):Sat (CT G) 157 [.str t] h (fun r h'=>r=.bool (!(t==[])&&textF ri cl t 512)∧h'=h):=by
 cases k1:(t==[])with
 |true=>
  have k2:(t != [])=false:=by simpa using k1
  have F:=F2 k1 k2;refine sb [.tmp 2] Tryz.func157 ?_;intro Q hQ;refine wk F ?_;refine ee hQ F ?_;exact P2 (.bool _) ⟨by simp,rfl⟩
 |false=>
  have k2:(t != [])=true:=by simpa using k1
  have F:=F2 k1 k2;refine sb [.tmp 2] Tryz.func157 ?_;intro Q hQ;refine wk F ?_;refine kq F (eu G ri cl hR hC t 512 (by omega) _) ?_;refine ee hQ F ?_;exact P2 (.bool _) ⟨by simp,rfl⟩
end
section
attribute [local irreducible] WP WPl WPix Sat
variable (G:Nat→Option (List AVal))
def L0:Leaf where
 label:=fun t=> !(t==[])&&textF rightS cleanF t 64
 title:=fun t=>textF rightS cleanF t 256
 link:=fun t=>textF rightS cleanF t 512
 tag:=fun t=>(!(t==[])&&textF rightS cleanF t 64)&&isF t
 query:=fun t=> !(t==[])&&textF rightS cleanF t 512
 moment:=momF
theorem R0(t:Bs)(ht:t.length≤1000)(h:Heap):Sat (CT G) 251 [.str t] h (fun r h'=>r=.bool (rightS t)∧h'=h):=qW G t (by omega) h
theorem C0(t:Bs)(ht:t.length≤1000)(h:Heap):Sat (CT G) 252 [.str t] h (fun r h'=>r=.str (cleanF t)∧h'=h):=qV G t (by omega) h
theorem nk(t:Bs)(h:Heap):Sat (CT G) 159 [.str t] h (fun r h'=>r=.bool (L0.tag t)∧h'=h):=by
 have hL:=iW G rightS cleanF (R0 G) (C0 G) t;have hu:L0.tag t=((!(t==[])&&textF rightS cleanF t 64)&&isF t):=rfl;rw[hu];cases hl:(!(t==[])&&textF rightS cleanF t 64)with
 |false=>
  rw[hl]at hL;refine sb [.tmp 2] Tryz.func159 ?_;intro Q hQ;refine wk trivial ?_;refine kq trivial (hL _) ?_;refine ee hQ trivial ?_;exact P2 (.bool _) ⟨by simp,rfl⟩
 |true=>
  rw[hl]at hL;have hlen:t.length≤64:=by
   rw[L6]at hl;have:=hl.2;unfold textF at this;rw[L6,M1]at this;omega
  refine sb [.tmp 2] Tryz.func159 ?_;intro Q hQ;refine wk trivial ?_;refine kq trivial (hL _) ?_;refine kq trivial (ph G t (by omega) _) ?_;refine ee hQ trivial ?_;exact P2 (.bool _) ⟨by simp,rfl⟩
theorem rz(e:Ev)(h:Heap):Sat (CT G) 97 [e.av] h (fun r h'=>r=.int .i64 (if L0.ck e then 0 else 140)∧h'=h):=
 om G L0 e (ou G L0 (iW G rightS cleanF (R0 G) (C0 G)) (ow G rightS cleanF (R0 G) (C0 G)) (jV G rightS cleanF (R0 G) (C0 G)) (ot G L0 (jV G rightS cleanF (R0 G) (C0 G))) (nk G) (ox G rightS cleanF (R0 G) (C0 G)) (oo G) e) h
theorem rB(s:PS)(h:s.Inv)(e:Ev){H:Heap}{n:Nat}(hn:n+9≤H.length):Sat (CT G) 31 [.hp (n+8) 0 0 0,e.av] (so H n s) (fun r h'=>r=.bool (s.ok L0 e)∧h'=so H n (s.step L0 e)):=by
 obtain⟨d1,d2⟩:=h.deep e.b;obtain⟨g1,g2⟩:=h.tags e.a;have hl:=(⟨Q7 h.l1 (by omega),Q7 h.l2 (by omega),Q7 h.l3 (by omega),Q7 h.l4 (by omega)⟩:s.fo.length≤100∧s.fe.length≤100∧s.it.length≤2000∧s.se.length≤100)
 exact ol G s e (s.ok L0 e) (tgF ((lkM s.it e.a).getD It.z).tags e.s e.n) h.w3 h.w7 h.few (ww h _ _ (by omega))
  (fun n H hn=>rt G s e (L0.ck e) 7 (s.dpt e.b) d1 (by omega) hl (rz G e) (fun n H hn=>(lI G s e.a e.s g1 (by omega) hn).mono fun r h' ⟨hr,hh⟩=>⟨⟨_,hr⟩,hh⟩) hn)
  (fun n H hn=>ng G s e g1 (by omega) hn) hn
theorem lJ(es:List Ev)(hl:es.length≤1048576)(h:Heap):Sat (CT G) 10 [.sl 7 (es.map Ev.av)] h (fun r h'=>r=.hp (h.length+8) 0 0 0∧h'=so (h++PS.z.bl h.length) h.length (es.foldl (PS.step L0) PS.z)):=
 rn G es hl PS.Inv (PS.ok L0) (PS.step L0) .z (fun s e _ h=>h.step e) (fun s e _ h n H hn=>rB G s h e hn) h
theorem tW(c:Int)(hc:Rune c)(h:Heap):Sat (CT G) 218 [.int .i32 c] h (fun r h'=>r=.int .i32 (foldR c)∧h'=h):=by
 have c0:0≤c∧c≤1114111:=by unfold Rune at hc;omega
 obtain⟨c1,c2⟩:=c0;have w32:c≤2000→IntKind.i32.wrap (c+32)=c+32:=fun _=>ci (by omega) (by omega)
 have w80:c≤2000→IntKind.i32.wrap (c+80)=c+80:=fun _=>ci (by omega) (by omega)
 refine sb [.tmp 2] Tryz.func218 ?_;intro Q hQ;refine wk trivial ?_;repeat' (first
  | (exfalso;omega)
  | (refine cq trivial (fun hx=>?_) (fun hx=>?_)<;>(try exact hx.elim)<;>(refine wk trivial ?_))
  | ((first|refine gq trivial (fun hx=>?_) (fun hx=>?_)|refine pq trivial (fun hx=>?_) (fun hx=>?_))<;>(try exact hx.elim)<;>(try refine sq trivial ?_)<;>(refine wk trivial ?_)))
 all_goals (
  refine ee hQ trivial ?_;exact P2 (.int _ _) ⟨by
   unfold foldR btw;simp only[L6,M1];first
    |rw[M0 (by omega)]
    | (rw[L5 (by omega),M0 (by omega)];first|rfl|rw[w32 (by omega)])
    | (rw[L5 (by omega),L5 (by omega),M0 (by omega)];first|rfl|rw[w80 (by omega)])
    |rw[L5 (by omega),L5 (by omega),L5 (by omega)],rfl⟩)
def letR(c:Int):Bool:=letF c.toNat
theorem oD(c:Int)(hc:Rune c)(h:Heap):Sat (CT G) 180 [.int .i32 c] h (fun r h'=>r=.bool (letR c)∧h'=h):=by
 have c0:0≤c∧c≤1114111:=by unfold Rune at hc;omega
 obtain⟨c1,c2⟩:=c0;refine sb [.tmp 2] Tryz.func180 ?_;intro Q hQ;refine wk trivial ?_;repeat' (first
  | (exfalso;omega)
  | (refine cq trivial (fun hx=>?_) (fun hx=>?_)<;>(try exact hx.elim)<;>(refine wk trivial ?_))
  | ((first|refine gq trivial (fun hx=>?_) (fun hx=>?_)|refine pq trivial (fun hx=>?_) (fun hx=>?_))<;>(try exact hx.elim)<;>(try refine sq trivial ?_)<;>(refine wk trivial ?_)))
 all_goals (
  refine ee hQ trivial ?_;exact P2 (.bool _) ⟨by
    unfold letR letF;congr 1
    symm
    first
     |rw[M0 (by omega)]
     |rw[L5 (by omega)]
    rw[P5];simp only[L6,R6,P6,za8,Bool.and_eq_false_iff,M1,decide_eq_false_iff_not,O5,iff_true,iff_false];omega,rfl⟩)
end
section
theorem fF(r:Int)(x:Bs):dec (enc r++x) 0=(fix r,(enc r).length):=by
 have hl:=zA r;have hs:=xP r;rw[ft,pf];generalize fix r=c at*;simp only[];by_cases h1:c<128
 ·rw[M0 h1];simp only[U8,P4,za0,M8,O7];rw[bf _ (by omega)];simp[Lib.decodeN,h1]
 ·rw[L5 h1];by_cases h2:c<2048
  ·rw[M0 h2];simp only[U8,P4,za0,zb7,M8,O7,R1];rw[bf _ (by omega),bf _ (by omega)];unfold Lib.decodeN;rw[L5 (by omega),M0 (by omega),M0 (by omega)];congr 1;omega
  ·rw[L5 h2];by_cases h3:c<65536
   ·rw[M0 h3];simp only[U8,P4,za0,zb7,M8,O7,R1];rw[bf _ (by omega),bf _ (by omega),bf _ (by omega)];unfold Lib.decodeN;rw[L5 (by omega),L5 (by omega),M0 (by omega),M0 (by omega)];congr 1;omega
   ·rw[L5 h3];simp only[U8,P4,za0,zb7,M8,O7,R1];rw[bf _ (by omega),bf _ (by omega),bf _ (by omega),bf _ (by omega)];unfold Lib.decodeN;rw[L5 (by omega),L5 (by omega),L5 (by omega),M0 (by omega),M0 (by omega)];congr 1;omega
theorem np{r:Int}(h:Rune r):fix r=r.toNat:=by
 unfold fix Utf8.valid;unfold Rune at h;rw[M0 (by simp;omega)]
theorem bC(c:Int)(l:List Int):encs (c::l)=enc c++encs l:=by simp[encs]
theorem cn(a b:List Int):encs (a++b)=encs a++encs b:=by simp[encs]
theorem fa(c:Int):encs [c]=enc c:=by simp[encs]
theorem zE{a b:List Int}{c:Int}(hc:Rune c):dec (encs a++encs (c::b)) (encs a).length=(c.toNat,(enc c).length):=by
 rw[cj,List.drop_left' rfl,bC,fF,np hc]
theorem j1:∀{l:List Int},(∀c∈l,Rune c)→runesF (encs l)=l
 | [],_=>rfl
 |c::l,h=>by
  have hc:=h c (by simp);have hp:=ix c;rw[dI _ (by rw[bC];intro e;have h2:=P0 List.length e;rw[N3]at h2;simp only[O7]at h2;omega),bC,fF,np hc,List.drop_left' rfl,j1 fun x hx=>h x (by simp[hx])];unfold Rune at hc;congr 1
  simp only[];omega
def segR:List Int→List Int→List (List Int)→List (List Int)
 | [],w,acc=>if w=[]then acc else acc++[w]
 |c::b,w,acc=>if letR c then segR b (w++[c]) acc else segR b [] (if w=[]then acc else acc++[w])
theorem wB(t:Bs)(x y:Nat):((⟨t.toArray⟩:ByteArray).extract x y).data.toList=(t.take y).drop x:=by
 have hext:(⟨t.toArray⟩:ByteArray).extract x y=⟨((t.take y).drop x).toArray⟩:=by
  apply ByteArray.ext
  simp[List.extract_eq_take_drop,List.drop_take]
 rw[hext]
def AtS(t:Bs)(w:List Int)(x:Nat×Nat):Prop:=(t.take x.2).drop x.1=encs w
def AtSL(t:Bs):List (List Int)→List (Nat×Nat)→Prop
 | [],[]=>True
 |w::l,x::m=>AtS t w x∧AtSL t l m
 |_,_=>False
theorem AtSL.snoc{t:Bs}:∀{l:List (List Int)} {m:List (Nat×Nat)} {w:List Int} {x:Nat×Nat},AtSL t l m→AtS t w x→AtSL t (l++[w]) (m++[x])
 | [],[],_,_,_,h=>⟨h,trivial⟩
 |_::_,_::_,_,_,h,h2=>⟨h.1,AtSL.snoc h.2 h2⟩
 | [],_::_,_,_,h,_=>h.elim
 |_::_,[],_,_,h,_=>h.elim
theorem AtSL.map{t:Bs}:∀{l:List (List Int)} {m:List (Nat×Nat)},AtSL t l m→m.map (fun x=>((⟨t.toArray⟩:ByteArray).extract x.1 x.2).data.toList)=l.map encs
 | [],[],_=>rfl
 |w::l,x::m,h=>by rw[N9,N9,AtSL.map h.2,wB,h.1]
 | [],_::_,h=>h.elim
 |_::_,[],h=>h.elim
theorem tX(t:Bs):∀(b a w:List Int) (acc:List (List Int)) (m:List (Nat×Nat)) (f:Nat),(∀c∈b,Rune c)→t=encs (a++w)++encs b→b.length≤f→AtSL t acc m→
  AtSL t (segR b w acc) (Lib.closeSpans ⟨t.toArray⟩ (Lib.spansFromP (fun r=> !letF r) ⟨t.toArray⟩ f (encs (a++w)).length (if w=[]then none else some (encs a).length) m)):=by
 intro b;induction b with
 |nil=>
  intro a w acc m f _ ht _ hm;have hsz:(⟨t.toArray⟩:ByteArray).size=(encs (a++w)).length:=by rw[ht];simp[ByteArray.size,encs]
  have hst:Lib.spansFromP (fun r=> !letF r) ⟨t.toArray⟩ f (encs (a++w)).length (if w=[]then none else some (encs a).length) m=(m,if w=[]then none else some (encs a).length):=by
   cases f with
   |zero=>rfl
   |succ f=>unfold Lib.spansFromP;rw[L5 (by rw[hsz];omega)]
  rw[hst,segR];by_cases hw:w=[]
  ·rw[M0 hw,M0 hw];exact hm
  ·rw[L5 hw,L5 hw];unfold Lib.closeSpans;refine hm.snoc ?_;unfold AtS;simp only[hsz];rw[ht,X2 rfl,cn,List.drop_left' rfl]
 |cons c b ih=>
  intro a w acc m f hb ht hf hm;have hc:=hb c (by simp);have hp:=ix c;have hb':∀x∈b,Rune x:=fun x hx=>hb x (by simp[hx])
  obtain⟨f,rfl⟩:∃g,f=g+1:=⟨f-1,by simp at hf;omega⟩;have hlt:(encs (a++w)).length<(⟨t.toArray⟩:ByteArray).size:=by rw[ht,bC];simp[ByteArray.size];omega
  have hd:Utf8.decode ⟨t.toArray⟩ (encs (a++w)).length=(c.toNat,(enc c).length):=by
   show dec t _=_;rw[ht];exact zE hc
  unfold Lib.spansFromP;rw[M0 hlt,hd,segR];have hfl:b.length≤f:=by simp at hf;omega
  cases hl:letR c with
  |true=>
   have hl2:letF c.toNat=true:=hl;have h1:=ih a (w++[c]) acc m f hb' (by rw[ht,bC, ← O1, ← O1,cn (a++w),fa]) hfl hm;have hne:¬w++[c]=[]:=(by simp);have hlen:(encs (a++(w++[c]))).length=(encs (a++w)).length+(enc c).length:=(by rw[← O1,cn,N3,fa]);rw[L5 hne,hlen]at h1;simp only[hl2,Bool.not_true,O5,if_false,if_true];by_cases hw:w=[]
   ·subst hw;rw[M0 rfl];simpa using h1
   ·rw[L5 hw];exact h1
  |false=>
   have hl2:letF c.toNat=false:=hl;have hlen:(encs ((a++w++[c])++[])).length=(encs (a++w)).length+(enc c).length:=(by rw[O8,cn,N3,fa]);simp only[hl2,Bool.not_false,if_true,O5,if_false];by_cases hw:w=[]
   ·have h1:=ih (a++w++[c]) [] acc m f hb' (by rw[O8,ht,bC,cn (a++w),fa,O1]) hfl hm;rw[hlen,M0 rfl]at h1;rw[M0 hw,M0 hw];exact h1
   ·have hat:AtS t w ((encs a).length,(encs (a++w)).length):=by
     unfold AtS;simp only[];rw[ht,X2 rfl,cn,List.drop_left' rfl]
    have h1:=ih (a++w++[c]) [] (acc++[w]) (m++[((encs a).length,(encs (a++w)).length)]) f hb' (by rw[O8,ht,bC,cn (a++w),fa,O1]) hfl (hm.snoc hat);rw[hlen,M0 rfl]at h1;rw[L5 hw,L5 hw];exact h1
theorem rE{l:List Int}(h:∀c∈l,Rune c):fldsF (encs l)=(segR l [] []).map encs:=by
 have h1:=tX (encs l) l [] [] [] [] (⟨(encs l).toArray⟩:ByteArray).size h (by simp[encs]) (by have:=(jk l).2;simp[ByteArray.size];omega) trivial;unfold fldsF Lib.goFieldsP Lib.spansOfP;rw[W5];exact h1.map
theorem nq:∀(l:List Int) (f n:Nat),(∀c∈l,Rune c)→(encs l).length≤f→n≤32→shN f (encs l) n=(encs (l.take (32-n))).length
 | [],f,n,_,_,_=>by cases f<;>simp[shN,encs]
 |c::l,f,n,h,hf,hn=>by
  have hc:=h c (by simp);have hp:=ix c;have hl:(encs (c::l)).length=(enc c).length+(encs l).length:=by rw[bC,N3]
  obtain⟨f,rfl⟩:∃g,f=g+1:=⟨f-1,by omega⟩;rw[shN,L5 (by intro e;rw[e]at hl;simp at hl;omega)];by_cases h32:n=32
  ·subst h32;simp[encs]
  ·rw[L5 h32,bC,fF,List.drop_left' rfl];simp only[];rw[nq l f (n+1) (fun x hx=>h x (by simp[hx])) (by omega) (by omega)];obtain⟨k,hk⟩:∃k,32-n=k+1:=⟨31-n,by omega⟩;rw[hk,show 32-(n+1)=k by omega,P8,bC,N3]
theorem wC{l:List Int}(h:∀c∈l,Rune c):shW (encs l)=encs (l.take 32):=by
 unfold shW;rw[nq l _ 0 h (M4 _) (by omega)];have h1:encs l=encs (l.take 32)++encs (l.drop 32):=by rw[← cn,za5]
 rw[show 32-0=32 from rfl]
 conv=>lhs;rw[h1]
 rw[X2 rfl]
def wdsR:List Int→List Int→List Bs→List Bs
 | [],w,out=>if w=[]then out else out++[encs w]
 |c::b,w,out=>if letR c then wdsR b (if w.length<32 then w++[c]else w) out else wdsR b [] (if w=[]then out else out++[encs w])
theorem ij:∀(b w:List Int) (acc:List (List Int)),(∀c∈b,Rune c)→(∀c∈w,Rune c)→(∀v∈acc,∀c∈v,Rune c)→∀v∈segR b w acc,∀c∈v,Rune c
 | [],w,acc,_,hw,ha=>by
  rw[segR];split
  ·exact ha
  ·intro v hv;rcases S5.1 hv with hv|hv
   ·exact ha v hv
   ·simp at hv;subst hv;exact hw
 |c::b,w,acc,hb,hw,ha=>by
  have hb':∀x∈b,Rune x:=fun x hx=>hb x (by simp[hx])
  rw[segR];split
  ·exact ij b _ acc hb' (fun x hx=>by
    rcases S5.1 hx with hx|hx
    ·exact hw x hx
    ·simp at hx;subst hx;exact hb _ (by simp)) ha
  ·refine ij b [] _ hb' (fun x hx=>by cases hx) ?_;split
   ·exact ha
   ·intro v hv;rcases S5.1 hv with hv|hv
    ·exact ha v hv
    ·simp at hv;subst hv;exact hw
theorem iE:∀(b w:List Int) (acc:List (List Int)),wdsR b (w.take 32) (acc.map fun v=>encs (v.take 32))=(segR b w acc).map fun v=>encs (v.take 32)
 | [],w,acc=>by
  rw[wdsR,segR];by_cases hw:w=[]
  ·rw[M0 hw,M0 (by rw[hw];rfl)]
  ·rw[L5 hw,L5 (by intro e;rw[List.take_eq_nil_iff]at e;rcases e with e|e;omega;exact hw e)];simp
 |c::b,w,acc=>by
  rw[wdsR,segR];split
  ·rw[← iE b (w++[c]) acc];congr 1
   split
   ·rename_i h;rw[O6]at h;rw[N0 (by omega),N0 (by simp;omega)]
   ·rename_i h;rw[O6]at h;rw[List.take_append_of_le_length (by omega)]
  ·by_cases hw:w=[]
   ·rw[M0 hw,M0 (by rw[hw];rfl), ← iE b [] acc];rfl
   ·rw[L5 hw,L5 (by intro e;rw[List.take_eq_nil_iff]at e;rcases e with e|e;omega;exact hw e), ← iE b [] (acc++[w])];simp
theorem gy(s:Bs):wordsF s=wdsR (runesF (foldS s)) [] []:=by
 have hr:∀c∈ (runesF s).map foldR,Rune c:=fun c hc=>by
  obtain⟨x,hx,rfl⟩:=M9.1 hc;exact gv (dJ s.length s (M4 _) x hx)
 unfold wordsF foldS;rw[rE hr,j1 hr,W5];have h1:=iE ((runesF s).map foldR) [] [];simp only[List.take_nil,S6]at h1;rw[h1];refine V4 fun v hv=>?_
 exact wC (ij _ [] [] hr (fun _ h=>by cases h) (fun _ h=>by cases h) v hv)
end
section
attribute [local irreducible] WP WPl WPix Sat
variable (G:Nat→Option (List AVal))
theorem rF(s:Bs)(hs:s.length≤1048576)(h:Heap):Sat (CT G) 178 [.str s] h (fun r h'=>∃v,r=.hs h.length v 0 (runesF s).length true∧h'=h++[.row 21 1 v ((runesF s).map runA)]):=by
 refine sb [.tmp 2] Tryz.func178 ?_;intro Q hQ;refine wk trivial ?_;refine lm (fun nL tL hL=>∃(k v:Nat) (acc:List Int),s.length-k=nL∧h++[.row 21 1 v (acc.map runA)]=hL∧tL 0=.str (s.drop k)∧tL 3=.hs h.length v 0 acc.length true∧k≤s.length∧acc.length≤k∧acc++runesF (s.drop k)=runesF s) ((fun(k v:Nat) (acc:List Int)=>(s.length-k:Nat)) (0) (0) ([])) ?_ ?_
 ·refine⟨_,_,Y3 3 21 1 (by simp) (by omega) (by exact zq trivial),⟨0,0,[],rfl,aB,?_,?_,?_,?_,?_⟩⟩;all_goals try exact zZz trivial
 rintro _ s2 h' ⟨k,v,acc,rfl,rfl,e0,e3,hk,hl,hp⟩ K2 hK2;simp only[af,ao,Nat.reduceEqDiff, ↓reduceIte]at e0 e3;have F:=F2 e0 e3;refine wk F ?_;refine cq F (fun c1=>?_) (fun c1=>?_)<;>(try exact c1.elim)<;>(refine wk F ?_)
 ·simp only[Q6]at c1;have hlt:k<s.length:=by omega
  have hp2:=br s k hlt;rw[fu s k hlt]at hp;have hne:s.drop k≠ []:=by intro e;have:=P0 List.length e;simp at this;omega
  refine(ii G (s.drop k) hne (by simp;omega) _).mono ?_;rintro r h' ⟨rfl,rfl⟩;rw[← cj];generalize dec s k=d at*;obtain⟨c,m⟩:=d;simp only[]at hp hp2 ⊢;have hsl:m≤(s.drop k).length:=by simp;omega
  have hdd:(s.drop k).drop m=s.drop (k+m):=W6 ..;have F:=F3 F hsl hdd;try refine sq F ?_
  refine wk F ?_;refine aq F ?_;try refine sq F ?_
  refine wk F ?_;refine hK2 _ _ _ (M2 ⟨k+m,v+1,acc++[(c:Int)],rfl,aB,?_,?_,by omega,by simp;omega,by rw[← hp];simp⟩) (by omega);all_goals try exact zZz F
 ·simp only[Q6]at c1;rw[ep s k (by omega),O8]at hp;refine wk F ?_;refine ee hQ F ?_;subst hp;exact Z2 (by simp) (.hs _ _ _ _ _ (by simp)) ⟨v,rfl,rfl⟩
theorem jo(l:List Int)(hr:∀r∈l,Rune r)(hl:l.length≤1048576){h:Heap}{p v0:Nat}(hg:getRow h p v0=some (21,1,l.map runA)):Sat (CT G) 181 [.hs p v0 0 l.length true] h (fun x h'=>x=.str (l.flatMap enc)∧h'=h):=by
 have hll:(l.map runA).length=l.length:=L8 ..;have hpl:=ba hg;have hgj:∀j,getRow (h++j) p v0=some (21,1,l.map runA):=fun j=>by rw[bo _ hpl];exact hg
 have hra:∀x,runA x=.int .i32 x:=fun _=>rfl
 have F:=F4 hll hg hgj hra;refine sb [.tmp 2] Tryz.func181 ?_;intro Q hQ;refine wk F ?_;refine lm (fun nL tL hL=>∃(k v:Nat) (acc:Bs),l.length-k=nL∧h++[.row 5 1 v (acc.map bytA)]=hL∧tL 3=.hs h.length v 0 acc.length true∧tL 4=.int .i64 k∧k≤l.length∧acc++(l.drop k).flatMap enc=l.flatMap enc∧acc.length≤4*k) ((fun(k v:Nat) (acc:Bs)=>(l.length-k:Nat)) (0) (0) ([])) ?_ ?_
 ·refine⟨_,_,Y3 3 5 1 (by simp) (by omega) (by exact zq F),⟨0,0,[],rfl,aB,?_,?_,?_,?_,?_⟩⟩;all_goals try exact zZz F
 rintro _ s2 h' ⟨k,v,acc,rfl,rfl,e3,e4,hk,hp,hz⟩ K2 hK2;simp only[af,ao,Nat.reduceEqDiff, ↓reduceIte]at e3 e4;have F:=F3 F e3 e4;refine wk F ?_;refine cq F (fun hc=>?_) (fun hc=>?_)<;>(try exact hc.elim)
 ·obtain⟨y,hy,hym⟩:=ac hc;rw[aF hy,W8]at hp;have he:=eF y;have hel:((enc y).map bytA).length=(enc y).length:=L8 ..;have c2:k<l.length:=by omega
  have F:=F3 F c2 hy;refine wk F ?_;refine kq F (pr G y (hr y hym) _) ?_;refine aq F ?_;try refine sq F ?_
  refine wk F ?_;refine hK2 _ _ _ (M2 ⟨k+1,v+1,acc++enc y,rfl,aB,?_,?_,by omega,by rw[← hp];simp,by simp;omega⟩) (by omega);all_goals try exact zZz F
 ·rw[aI hc,List.flatMap_nil,O8]at hp;have hb:=gr acc;have hel:elemsOf (h++[.row 5 1 v (acc.map bytA)]) 1 (.hs h.length v 0 acc.length true)=some (acc.map bytA):=by
   simp[elemsOf,getRow,N0]
  have F:=F4 F hb hel @iZ;refine wk F ?_;refine ee hQ F ?_;rw[← hp];exact Fin.plainE (j:=_) rfl (.str _) ⟨rfl,rfl⟩
theorem tY(s:Bs)(hs:s.length≤100000)(h:Heap):Sat (CT G) 179 [.str s] h (fun r h'=>r=.str (foldS s)∧h'=h):=by
 have hll:=cB s.length s (M4 _);have hrl:=dJ s.length s (M4 _);have hR:=rF G s (by omega);have hfo:foldS s=((runesF s).map foldR).flatMap enc:=rfl;rw[hfo];generalize runesF s=l at*;refine sb [.tmp 2] Tryz.func179 ?_;intro Q hQ;refine wk trivial ?_;refine(hR _).mono ?_;rintro r h' ⟨v,rfl,rfl⟩;try refine sq trivial ?_
 refine wk trivial ?_;refine lm (fun nL tL hL=>∃(k:Nat),l.length-k=nL∧h++[.row 21 1 v (((l.take k).map foldR++l.drop k).map runA)]=hL∧tL 3=.hs h.length v 0 l.length true∧tL 4=.int .i64 k∧k≤l.length) ((fun(k:Nat)=>(l.length-k:Nat)) (0)) ?_ ?_
 ·refine M2 ⟨0,rfl,by simp,?_,?_,by omega⟩;all_goals try exact zZz trivial
 rintro _ s2 h' ⟨k,rfl,rfl,e3,e4,hk⟩ K2 hK2;simp only[af,ao,Nat.reduceEqDiff, ↓reduceIte]at e3 e4;have F:=F2 e3 e4;refine wk F ?_;refine cq F (fun c1=>?_) (fun c1=>?_)<;>(try exact c1.elim)
 ·have c2:k<l.length:=by omega
  obtain⟨y,hy,hym⟩:=ac c2;have hget:((l.take k).map foldR++l.drop k)[k]? =some y:=by
   rw[N1 (by simp;omega),L8,O6,za9 (by omega),Nat.sub_self,P9];simpa using hy
  have hset:(((l.take k).map foldR++l.drop k).map runA).set k (.int .i32 (foldR y))=((l.take (k+1)).map foldR++l.drop (k+1)).map runA:=by
   have h1:(AVal.int .i32 (foldR y))=runA (foldR y):=rfl;rw[h1, ← zb5];congr 1
   rw[List.set_append_right _ _ (by simp;omega),L8,O6,za9 (by omega),Nat.sub_self,aF hy,List.set_cons_zero,P3,hy];simp
  have hlen:(((l.take k).map foldR++l.drop k).map runA).length=l.length:=by simp;omega
  have hra:∀x,runA x=.int .i32 x:=fun _=>rfl
  generalize (l.take k).map foldR++l.drop k=rw_ at*;have F:=F7 F c2 @hget @hset @hlen hra @aw;try refine sq F ?_
  refine wk F ?_;refine kq F (tW G y (hrl y hym) _) ?_;refine hK2 _ _ _ (M2 ⟨k+1,rfl,rfl,?_,?_,by omega⟩) (by omega);all_goals try exact zZz F
 ·have hk2:k=l.length:=by omega
  subst hk2;have hfin:(l.take l.length).map foldR++l.drop l.length=l.map foldR:=by rw[X8,List.drop_length,O8]
  rw[hfin];have hg:getRow (h++[.row 21 1 v ((l.map foldR).map runA)]) h.length v=some (21,1,(l.map foldR).map runA):=by simp[getRow]
  have hP:=jo G (l.map foldR) (fun r hr=>by obtain⟨x,hx,rfl⟩:=M9.1 hr;exact gv (hrl x hx)) (by simp;omega) hg;rw[L8]at hP;refine wk F ?_;refine kq F (hP) ?_;refine ee hQ F ?_;exact L7 (.str _) ⟨rfl,rfl⟩
theorem lM(a b:List Bs)(ha:a.length≤1000000)(hb:b.length≤1000000)(h:Heap):Sat (CT G) 182 [.sl 1 (a.map .str),.sl 1 (b.map .str)] h (fun r h'=>r=.bool (decide (a=b))∧h'=h):=by
 have ela:(a.map AVal.str).length=a.length:=L8 ..;have elb:(b.map AVal.str).length=b.length:=L8 ..;have F:=F2 @ela @elb;refine sb [.tmp 4] Tryz.func182 ?_;intro Q hQ;refine wk F ?_;refine cq F (fun c0=>?_) (fun c0=>?_)<;>(try exact c0.elim)<;>(refine wk F ?_)
 ·refine ee hQ F ?_;exact P2 (.bool _) ⟨by simp;rintro rfl;omega,rfl⟩
 ·refine lm (fun nL tL hL=>∃(k:Nat),a.length-k=nL∧[]++h=hL∧tL 0=.sl 1 (a.map .str)∧tL 1=.sl 1 (b.map .str)∧tL 5=.int .i64 k∧k≤a.length∧a.take k=b.take k) ((fun(k:Nat)=>(a.length-k:Nat)) (0)) ?_ ?_
  ·refine M2 ⟨0,rfl,rfl,?_,?_,?_,by omega,by simp⟩;all_goals try exact zZz F
  rintro _ s2 h' ⟨k,rfl,rfl,e0,e1,e5,hk,hp⟩ K2 hK2;simp only[af,ao,Nat.reduceEqDiff, ↓reduceIte]at e0 e1 e5;have F:=F4 F e0 e1 e5;refine wk F ?_;refine cq F (fun c1=>?_) (fun c1=>?_)<;>(try exact c1.elim)<;>(refine wk F ?_)
  ·have c2:k<a.length:=(by omega);have c2b:k<b.length:=(by omega);obtain⟨x,hx,_⟩:=ac c2;obtain⟨y,hy,_⟩:=ac c2b;have F:=F5 F c2 @c2b hx hy;(try refine sq F ?_);refine wk F ?_;refine cq F (fun c3=>?_) (fun c3=>?_)<;>(try exact c3.elim)<;>(refine wk F ?_)
   ·refine ee hQ F ?_;exact P2 (.bool _) ⟨by
     simp;rintro rfl;rw[hx]at hy;cases hy;simp at c3,rfl⟩
   ·have c4:x=y:=(by simpa using c3);have hp1:a.take (k+1)=b.take (k+1):=(by rw[P3,P3,hx,hy,hp,c4]);refine hK2 _ _ _ (M2 ⟨k+1,rfl,rfl,?_,?_,?_,by omega,hp1⟩) (by omega);all_goals try exact zZz F
  ·rw[N0 (by omega),N0 (by omega)]at hp;refine ee hQ F ?_;exact P2 (.bool _) ⟨by simp[hp],rfl⟩
theorem kW(n:Int)(h:Heap):Sat (CT G) 153 [.int .i64 n] h (fun r h'=>r=.bool (idF n)∧h'=h):=by
 by_cases k:1≤n
 ·have k2:decide (n≥1)=true:=by simpa using k
  have F:=k2;refine sb [.tmp 2] Tryz.func153 ?_;intro Q hQ;refine wk F ?_;refine ee hQ F ?_;exact P2 (.bool _) ⟨by simp[idF,k],rfl⟩
 ·have k2:decide (n≥1)=false:=by simpa using k
  have F:=k2;refine sb [.tmp 2] Tryz.func153 ?_;intro Q hQ;refine wk F ?_;refine ee hQ F ?_;exact P2 (.bool _) ⟨by simp[idF,k],rfl⟩
theorem xh(C:Ctx):OrcOk C (fun _ _=>none):=fun f args r g h=>by cases g
theorem ya:isV (.int .i64 (-62135596800)) (callX (CT G) (fun _ _=>none) 1000 100 183 [] [])=true:=by kernel_rfl
theorem zF:isV (.int .i64 253402300799) (callX (CT G) (fun _ _=>none) 1000 100 184 [] [])=true:=by kernel_rfl
theorem nr(hc:GClo (CT G))(n:Int)(h:Heap):Sat (CT G) 133 [.int .i64 n] h (fun r h'=>r=.bool (momF n)∧h'=h):=by
 have h1:=fun h=>Sat.closedV hc (xh _) 1000 100 rfl rfl (ya G) h
 have h2:=fun h=>Sat.closedV hc (xh _) 1000 100 rfl rfl (zF G) h
 by_cases k: -62135596800≤n
 ·have k2:decide (n≥ -62135596800)=true:=by simpa using k
  have F:=k2;refine sb [.tmp 2] Tryz.func133 ?_;intro Q hQ;refine wk F ?_;refine kq F (h1 _) ?_;refine kq F (h2 _) ?_;refine ee hQ F ?_;exact P2 (.bool _) ⟨by simp[momF,k],rfl⟩
 ·have k2:decide (n≥ -62135596800)=false:=by simpa using k
  have F:=k2;refine sb [.tmp 2] Tryz.func133 ?_;intro Q hQ;refine wk F ?_;refine kq F (h1 _) ?_;refine ee hQ F ?_;exact P2 (.bool _) ⟨by simp[momF,k],rfl⟩
end
section
attribute [local irreducible] WP WPl WPix Sat
def sc(Y:Heap)(n:Nat)(s:PS)(m:Nat)(c:CS):Heap:=so (co Y m c) n s
section
variable {Y:Heap} {n m:Nat} {s:PS} {c:CS}
end
variable (G:Nat→Option (List AVal))
section
variable {Y:Heap} {n m:Nat} {s:PS} {c:CS}
end
def lgE(e:Ev):Bool:=decide ((e.s.length:Int)>1000)||(decide ((e.t.length:Int)>1000)||decide ((e.u.length:Int)>1000))
theorem ua(e:Ev)(h:Heap):Sat (CT G) 25 [e.av] h (fun r h'=>r=.bool (lgE e)∧h'=h):=by
 refine sb [.tmp 2] Tryz.func25 ?_;intro Q hQ;refine wk trivial ?_;cases k1:decide ((e.s.length:Int)>1000)with
 |true=>
  have F:=k1;try refine sq F ?_
  refine wk F ?_;refine ee hQ F ?_;exact L7 (.bool _) ⟨by simp[lgE,k1],rfl⟩
 |false=>
  cases k2:decide ((e.t.length:Int)>1000)with
  |true=>
   have F:=F2 k1 k2;(try refine sq F ?_);refine wk F ?_;refine ee hQ F ?_;exact L7 (.bool _) ⟨by simp[lgE,k1,k2],rfl⟩
  |false=>
   have F:=F2 k1 k2;(try refine sq F ?_);refine wk F ?_;refine ee hQ F ?_;exact L7 (.bool _) ⟨by simp[lgE,k1,k2],rfl⟩
def lgF(es:List Ev):Bool:=decide ((es.length:Int)>150)||es.any lgE
theorem kb(es:List Ev)(h:Heap):Sat (CT G) 7 [.sl 7 (es.map Ev.av)] h (fun r h'=>r=.bool (lgF es)∧h'=h):=by
 refine sb [.tmp 2] Tryz.func7 ?_;intro Q hQ;refine wk trivial ?_;have hel:(es.map Ev.av).length=es.length:=L8 ..;have F:=hel;try refine sq F ?_
 refine cq F (fun c0=>?_) (fun c0=>?_)<;>(try exact c0.elim)<;>(refine wk F ?_)
 ·refine ee hQ F ?_;exact P2 (.bool _) ⟨by simp[lgF];omega,rfl⟩
 ·refine lm (fun nL tL hL=>∃(k:Nat),es.length-k=nL∧[]++h=hL∧tL 0=.sl 7 (es.map Ev.av)∧tL 3=.int .i64 k∧k≤es.length∧(∀e∈es.take k,lgE e=false)) ((fun(k:Nat)=>(es.length-k:Nat)) (0)) ?_ ?_
  ·refine M2 ⟨0,rfl,rfl,?_,?_,by omega,by simp⟩;all_goals try exact zZz F
  rintro _ s2 h' ⟨k,rfl,rfl,e0,e3,hk,hp⟩ K2 hK2;simp only[af,ao,Nat.reduceEqDiff, ↓reduceIte]at e0 e3;have F:=F3 F e0 e3;refine wk F ?_;refine cq F (fun c1=>?_) (fun c1=>?_)<;>(try exact c1.elim)<;>(refine wk F ?_)
  ·have c2:k<es.length:=(by omega);obtain⟨e,he,_⟩:=ac c2;have F:=F3 F c2 he;(try refine sq F ?_);refine wk F ?_;refine kq F (ua G e _) ?_;refine cq F (fun c3=>?_) (fun c3=>?_)<;>(try exact c3.elim)<;>(refine wk F ?_)
   ·refine ee hQ F ?_;exact P2 (.bool _) ⟨by
     have:es.any lgE=true:=X9.2 ⟨e,M7 he,c3⟩;simp[lgF,this],rfl⟩
   ·have hp1:∀x∈es.take (k+1),lgE x=false:=by
     rw[P3,he];intro x hx;simp at hx;rcases hx with hx|rfl
     ·exact hp x hx
     ·exact c3
    refine hK2 _ _ _ (M2 ⟨k+1,rfl,rfl,?_,?_,by omega,hp1⟩) (by omega);all_goals try exact zZz F
  ·rw[N0 (by omega)]at hp;refine ee hQ F ?_;exact P2 (.bool _) ⟨by
    have:es.any lgE=false:=by rw[V8];intro x hx;rw[hp x hx];simp
    simp[lgF,this];omega,rfl⟩
instance:DecidableEq Ct:=fun x y=>by
 cases x;cases y;simp only[Ct.mk.injEq];exact inferInstance
end
section
attribute [local irreducible] WP WPl WPix Sat
variable (G:Nat→Option (List AVal))
def St.inn(x:St)(id:Int):Int:=((fnd (·.id) x.fo id).map (·.inn)).getD 0
def St.upW(x:St)(u:Int):Nat→Int→Int
 |0,id=>id
 |k+1,id=>if id=u∨id=0 then id else St.upW x u k (x.inn id)
def St.within(x:St)(id u:Int):Bool:=decide (x.upW u 10 id=u)||decide (u=0)
def St.has(x:St)(id:Int):Prop:=id=0∨∃f,fnd (·.id) x.fo id=some f
structure St.Up (x:St):Prop where
 fo:∀f∈x.fo,x.has f.inn
 fe:∀f∈x.fe,x.has f.inn
 it:∀t∈x.it,∃f,fnd (·.id) x.fe t.feed=some f
 l1:x.fo.length≤64
 l2:x.fe.length≤64
 l3:x.it.length≤1024
 tg:∀t∈x.it,t.tags.length≤8
theorem oE(x:St)(hx:x.Up)(id u:Int)(hid:x.has id)(h:Heap):Sat (CT G) 129 [x.av,.int .i64 id,.int .i64 u] h (fun r h'=>r=.bool (x.within id u)∧h'=h):=by
 have hel:(x.fo.map Fo.av).length=x.fo.length:=L8 ..;have hl1:=hx.l1;have hup0:∀i:Int,(i=u∨i=0)→∀k,x.upW u k i=i:=fun i hi k=>by
  cases k with
  |zero=>rfl
  |succ k=>rw[St.upW,M0 hi]
 have F:=hel;refine sb [.tmp 6] Tryz.func129 ?_;intro Q hQ;refine wk F ?_;refine lm (fun nL tL hL=>∃(n:Nat) (i:Int),10-n=nL∧h++[.row 36 9 0 [x.av]]=hL∧tL 1=.int .i64 i∧tL 2=.int .i64 u∧tL 3=.hp h.length 0 0 0∧tL 7=.int .i64 n∧n≤10∧x.has i∧x.upW u (10-n) i=x.upW u 10 id) ((fun(n:Nat) (i:Int)=>(10-n:Nat)) (0) (id)) ?_ ?_
 ·refine M2 ⟨0,id,rfl,aB,?_,?_,?_,?_,by omega,hid,rfl⟩;all_goals try exact zZz F
 rintro _ s2 h' ⟨n,i,rfl,rfl,e1,e2,e3,e7,hk,hi,hu⟩ K2 hK2;simp only[af,ao,Nat.reduceEqDiff, ↓reduceIte]at e1 e2 e3 e7;have F:=F5 F e1 e2 e3 e7;refine wk F ?_;have fin:∀b:Bool,b=x.within id u→Fin h (h++[.row 36 9 0 [x.av]]) (fun r h'=>r=.bool (x.within id u)∧h'=h) (.bool b):=fun b hb=>L7 (.bool _) ⟨by rw[hb],rfl⟩
 have fin2:x.upW u 10 id=i→x.within id u=(decide (i=u)||decide (u=0)):=fun e=>by rw[St.within,e]
 by_cases c1:(n:Int)<10
 ·have d1:decide ((n:Int)<10)=true:=by simp[c1]
  have F:=F2 F d1;try refine sq F ?_
  refine wk F ?_;by_cases c2:i=u
  ·have y2:=fin2 (by rw[← hu,hup0 i (.inl c2)]);have d2:(i==u)=true:=(by simp[c2]);have d3:(i !=u)=false:=(by simp[c2]);have F:=F3 F d2 d3;(try refine sq F ?_);refine wk F ?_;refine ee hQ F ?_;exact fin _ (by rw[y2];simp[c2])
  ·have d2:(i==u)=false:=(by simp[c2]);have d3:(i !=u)=true:=(by simp[c2]);have F:=F3 F d2 d3;(try refine sq F ?_);refine wk F ?_;refine cq F (fun c3=>?_) (fun c3=>?_)<;>(try exact c3.elim)<;>(refine wk F ?_)
   ·obtain⟨f,hf⟩:∃f,fnd (·.id) x.fo i=some f:=by
     rcases hi with hi|hi
     ·exact(c3 hi).elim
     ·exact hi
    obtain⟨k,hk1,hk2,hk3⟩:=bh hf;have hin:x.inn i=f.inn:=(by unfold St.inn;rw[hf];rfl);have hkl:k<x.fo.length:=(f9.1 hk1).1;have hn:n≤9:=(by omega);have hst:x.upW u (10-(n+1)) f.inn=x.upW u 10 id:=by
     rw[← hu,show 10-n=(10-(n+1))+1 by omega,St.upW,L5 (by rintro(q|q);exact c2 q;exact c3 q),hin]
    have hF:=bK G x i (by omega);rw[hk2]at hF;have F:=F3 F hk1 hkl;refine aE (hF _) ?_;(try refine sq F ?_);refine wk F ?_;refine hK2 _ _ _ (M2 ⟨n+1,f.inn,rfl,aB,?_,?_,?_,?_,by omega,hx.fo f (M7 hk1),hst⟩) (by omega);all_goals try exact zZz F
   ·have c4:i=0:=(by simpa using c3);have y2:=fin2 (by rw[← hu,hup0 i (.inr c4)]);refine ee hQ F ?_;exact fin _ (by rw[y2];simp[c2];try rw[P5];try simp)
 ·have d1:decide ((n:Int)<10)=false:=by simp[c1]
  have hn:10-n=0:=by omega
  have y2:=fin2 (by rw[← hu,hn];rfl);have F:=F2 F d1;try refine sq F ?_
  refine wk F ?_;by_cases c2:i=u
  ·have d2:(i==u)=true:=(by simp[c2]);have F:=F2 F d2;(try refine sq F ?_);refine wk F ?_;refine ee hQ F ?_;exact fin _ (by rw[y2];simp[c2])
  ·have d2:(i==u)=false:=(by simp[c2]);have F:=F2 F d2;(try refine sq F ?_);refine wk F ?_;refine ee hQ F ?_;exact fin _ (by rw[y2];simp[c2];try rw[P5];try simp)
end
section
variable {c:CS} {s:PS}
def chS(fo:ML Int Fo):Nat→Int→Option (List Int)
 |0,id=>if id=0 then some []else none
 |k+1,id=>if id=0 then some []else(chS fo k (((lkM fo id).map (·.inn)).getD 0)).map (id:: ·)
theorem yh{ab:ML Int Int}{fo:ML Int Fo}(h:∀id,lkM ab id=(lkM fo id).map (·.inn)):∀(k:Nat) (id:Int),chO ab k id=chS fo k id:=by
 intro k;induction k with
 |zero=>intro id;rfl
 |succ k ih=>intro id;rw[chO,chS,h,ih]
def PS.chn(s:PS)(feed:Int):List Int:=(chS s.fo 7 (((lkM s.fe feed).map (·.inn)).getD 0)).getD []
theorem wM{κ α:Type}[DecidableEq κ]{l:ML κ α}{x:κ}:x∈l.map (·.1)↔(lkM l x).isSome=true:=by
 constructor
 ·intro hm;cases hq:(lkM l x).isSome with
  |true=>rfl
  |false=>exact(iq hq hm).elim
 ·intro hq;obtain⟨a,ha⟩:=N5.1 hq;obtain⟨n,hn⟩:=cQ ha;exact M9.2 ⟨_,hn,rfl⟩
def PS.its(s:PS):List It:=s.it.map (·.2.1)
end
section
attribute [local irreducible] WP WPl WPix Sat
variable (G:Nat→Option (List AVal))
theorem jp{h0 H:Heap}{p v e:Nat}{l:List Bs}(hp:h0.length≤p)(hg:getRow H p v=some (e,1,l.map .str)):Frz H h0.length (.hs p v 0 l.length true) (.sl 1 (l.map .str)):=by
 have:=za3 (n:=h0.length) (len:=l.length) (room:=true) hp hg (by simp) (fun r hr=>by obtain⟨a,_,rfl⟩:=M9.1 hr;exact .str _) (fun r hr c hc=>by obtain⟨a,_,rfl⟩:=M9.1 hr;simp[AVal.cells]at hc;subst hc;rfl);simpa using this
end
section
attribute [local irreducible] WP WPl WPix Sat
set_option pp.deepTerms true
set_option pp.maxSteps 200000
variable (G:Nat→Option (List AVal))
theorem gA:∀(b w:List Int) (out:List Bs),(wdsR b w out).length≤out.length+b.length+1
 | [],w,out=>by rw[wdsR];split<;>simp
 |c::b,w,out=>by
  rw[wdsR];split
  ·have:=gA b (if w.length<32 then w++[c]else w) out;simp only[M8];omega
  ·have:=gA b [] (if w=[]then out else out++[encs w]);have h2:(if w=[]then out else out++[encs w]).length≤out.length+1:=(by split<;>simp);simp only[M8];omega
theorem cE(s:Bs)(hs:s.length≤20000)(h:Heap):Sat (CT G) 130 [.str s] h (fun r h'=>r=.sl 1 ((wordsF s).map .str)∧h'=h):=by
 have hfl:=cW s;have hR:=lL G (foldS s) (by omega);have hrn:=dJ (foldS s).length (foldS s) (M4 _);have hrl:=cB (foldS s).length (foldS s) (M4 _);rw[gy];generalize runesF (foldS s)=rs at*;have hel:(rs.map runA).length=rs.length:=L8 ..;have hra:∀x,runA x=.int .i32 x:=fun _=>rfl
 have F:=F2 hel hra;refine sb [.tmp 2] Tryz.func130 ?_;intro Q hQ;refine wk F ?_;refine kq F (tY G s (by omega) _) ?_;refine kq F (hR _) ?_;refine lm (fun nL tL hL=>∃(i po vo:Nat) (hh:Heap) (out:List Bs) (w:List Int) (x:AVal),rs.length+1-i=nL∧hh=hL∧tL 3=.sl 1 (rs.map runA)∧tL 4=.hs po vo 0 out.length true∧tL 5=x∧tL 6=.int .i64 i∧i≤rs.length+1∧((w=[]∧x=.nil (.slice none 0 0))∨(∃p v,x=.hs p v 0 w.length true∧getRow hh p v=some (21,1,w.map runA)∧h.length≤p∧p≠po))∧getRow hh po vo=some (9,1,out.map .str)∧(FrN h.length h hh∧h.length≤po)∧wdsR (rs.drop i) w out=wdsR rs [] []∧(w.length≤32∧out.length≤i∧(∀c∈w,Rune c)∧(i=rs.length+1→w=[]))) ((fun(i po vo:Nat) (hh:Heap) (out:List Bs) (w:List Int) (x:AVal)=>(rs.length+1-i:Nat)) (0) (h.length) (0) (h++[.row 9 1 0 []]) ([]) ([]) (.nil (.slice none 0 0))) ?_ ?_
 ·refine⟨_,_,Y3 4 9 1 (by simp) (by omega) (by exact zq F),⟨0,h.length,0,h++[.row 9 1 0 []],[],[],.nil (.slice none 0 0),rfl,aB,?_,?_,?_,?_,by omega,.inl ⟨rfl,rfl⟩,by rw[aJ _ rfl];rfl,⟨X0 _ (by omega) (W7 _ _),by omega⟩,by simp,⟨by simp,by simp,by simp,by simp⟩⟩⟩;all_goals try exact zZz F
 rintro _ s2 h' ⟨i,po,vo,hh,out,w,x,rfl,rfl,e3,e4,e5,e6,hi,hx,hg,hfr,hv,hwl⟩ K2 hK2;simp only[af,ao,Nat.reduceEqDiff, ↓reduceIte]at e3 e4 e5 e6;have F:=F5 F e3 e4 e5 e6;have hgl:=ba hg;obtain⟨hw1,hw2,hw3,hw4⟩:=hwl;obtain⟨hfr,hpo⟩:=hfr;have hol:(out.map AVal.str).length=out.length:=L8 ..;have hwm:(w.map runA).length=w.length:=L8 ..;have dt:∀i:Decidable True, @decide True i=true:=fun i=>P1 trivial
 have done0:∀(q:Nat),letR (rs.getD i 0)=false∨rs.length≤i→i≤rs.length→wdsR (rs.drop (i+1)) [] (if w=[]then out else out++[encs w])=wdsR rs [] []:=fun _ hl hle=>by
  rw[← hv];rcases Z6 i rs.length with hlt|hge
  ·obtain⟨y,hy,_⟩:=ac hlt;have hly:letR y=false:=by
    rcases hl with hl|hl
    ·rw[U1,hy]at hl;exact hl
    ·omega
   rw[aF hy,wdsR];simp only[hly,O5,if_false]
  ·rw[aI hge,aI (by omega),wdsR,wdsR];simp
 have F:=F4 F hg hol hwm;try refine sq F ?_
 refine wk F ?_;refine cq F (fun c1=>?_) (fun c1=>?_)<;>(try exact c1.elim)<;>(refine wk F ?_)
 ·have c2:i≤rs.length:=by omega
  have fin0:True:=trivial;by_cases c3:i<rs.length
  ·obtain⟨y,hy,hym⟩:=ac c3;have d3:decide (i<rs.length)=true:=(by simp;omega);have hl:=oD G y (hrn y hym);have hv2:=hv;rw[aF hy,wdsR]at hv2;have hgd:rs.getD i 0=y:=(by rw[U1,hy];rfl);rw[hgd]at done0;cases hlt:letR y with
   |true=>
    rw[hlt]at hl hv2;rw[M0 rfl]at hv2;have F:=F4 F hy c3 dt;(try refine sq F ?_);refine wk F ?_;refine kq F (hl _) ?_;rcases hx with⟨rfl,rfl⟩| ⟨p,v,rfl,hgw,hp1,hp2⟩
    ·(try refine sq F ?_);refine wk F ?_;refine uT (.inl rfl) (by simp(disch:=first|omega| (simp only[go_sem, ↓reduceIte,seval];first|done|omega)|fail) only[go_sem, ↓reduceIte,seval,F];try rfl) (by simp(disch:=first|omega| (simp only[go_sem, ↓reduceIte,seval];first|done|omega)|fail) only[go_sem, ↓reduceIte,seval,F];try rfl) (by simp(disch:=first|omega| (simp only[go_sem, ↓reduceIte,seval];first|done|omega)|fail) only[go_sem, ↓reduceIte,seval,F];try rfl) (by simp(disch:=first|omega| (simp only[go_sem, ↓reduceIte,seval];first|done|omega)|fail) only[go_sem, ↓reduceIte,seval,F];try rfl) (by omega) (by simp only[elemsOf, ↓reduceIte];rfl) ⟨by simp[maxLen],by simp⟩ ?_;(try refine sq F ?_);refine wk F ?_;refine hK2 _ _ _ (M2 ⟨i+1,po,vo,hh++[.row 21 1 0 [runA y]],out,[y],.hs hh.length 0 0 1 true,rfl,aB,?_,?_,?_,?_,by omega,.inr ⟨hh.length,0,rfl,by rw[aJ _ rfl];rfl,(by omega),by omega⟩,by rw[bo _ hgl];exact hg,⟨X0 _ ((by omega)) hfr,hpo⟩,by simpa using hv2,⟨by simp,by omega,fun c hc=>by simp at hc;subst hc;exact hrn _ hym,by omega⟩⟩) (by omega);all_goals try exact zZz F
    ·have hpl:=ba hgw;have F:=F3 F hgw @aw;(try refine sq F ?_);refine wk F ?_;refine cq F (fun c4=>?_) (fun c4=>?_)<;>(try exact c4.elim)<;>(refine wk F ?_)
     ·rw[M0 (by omega)]at hv2;refine aq F ?_;(try refine sq F ?_);refine wk F ?_;refine hK2 _ _ _ (M2 ⟨i+1,po,vo,hh.set p (.row 21 1 (v+1) ((w++[y]).map runA)),out,w++[y],.hs p (v+1) 0 (w++[y]).length true,rfl,by simp[runA],?_,?_,?_,?_,by omega,.inr ⟨p,v+1,rfl,by rw[ca _ _ _ _ _ hpl,M0 rfl],hp1,hp2⟩,by rw[bi _ _ hp2];exact hg,⟨Y0 _ hp1 hfr,hpo⟩,hv2,⟨by simp;omega,by omega,fun c hc=>by rcases S5.1 hc with hc|hc;exact hw3 c hc;simp at hc;subst hc;exact hrn _ hym,by omega⟩⟩) (by omega);all_goals try exact zZz F
     ·rw[L5 (by omega)]at hv2;refine hK2 _ _ _ (M2 ⟨i+1,po,vo,hh,out,w,.hs p v 0 w.length true,rfl,rfl,?_,?_,?_,?_,by omega,.inr ⟨p,v,rfl,hgw,hp1,hp2⟩,hg,⟨hfr,hpo⟩,hv2,⟨hw1,by omega,hw3,by omega⟩⟩) (by omega);all_goals try exact zZz F
   |false=>
    have hd:=done0 0 (.inl hlt) c2;rw[hlt]at hl;have F:=F4 F hy c3 dt;(try refine sq F ?_);refine wk F ?_;refine kq F (hl _) ?_;rcases hx with⟨rfl,rfl⟩| ⟨p,v,rfl,hgw,hp1,hp2⟩
    ·rw[M0 rfl]at hd;(try refine sq F ?_);refine wk F ?_;refine cq F (fun c5=>?_) (fun c5=>?_)<;>(try exact c5.elim)<;>(refine wk F ?_)
     refine hK2 _ _ _ (M2 ⟨i+1,po,vo,hh,out,[],.nil (.slice none 0 0),rfl,rfl,?_,?_,?_,?_,by omega,.inl ⟨rfl,rfl⟩,hg,⟨hfr,hpo⟩,hd,⟨by simp,by omega,by simp,fun _=>rfl⟩⟩) (by omega);all_goals try exact zZz F
    ·have hpl:=ba hgw;have hP:=jo G w hw3 (by omega) hgw;have F:=F3 F hgw @aw;(try refine sq F ?_);refine wk F ?_;refine cq F (fun c5=>?_) (fun c5=>?_)<;>(try exact c5.elim)<;>(refine wk F ?_)
     ·have hw0:¬w=[]:=(by rintro rfl;simp at c5);rw[L5 hw0]at hd;refine kq F (hP) ?_;refine aq F ?_;(try refine sq F ?_);refine wk F ?_;refine hK2 _ _ _ (M2 ⟨i+1,po,vo+1,hh.set po (.row 9 1 (vo+1) ((out++[encs w]).map .str)),out++[encs w],[],.nil (.slice none 0 0),rfl,by simp[encs],?_,?_,?_,?_,by omega,.inl ⟨rfl,rfl⟩,by rw[ca _ _ _ _ _ hgl,M0 rfl],⟨Y0 _ hpo hfr,hpo⟩,hd,⟨by simp,by simp;omega,by simp,fun _=>rfl⟩⟩) (by omega);all_goals try exact zZz F
     ·have hw0:w=[]:=(by cases w with|nil=>rfl|cons a l=>exfalso;simp only[M8]at c5;omega);rw[M0 hw0]at hd;subst hw0;refine hK2 _ _ _ (M2 ⟨i+1,po,vo,hh,out,[],.hs p v 0 0 true,rfl,rfl,?_,?_,?_,?_,by omega,.inr ⟨p,v,rfl,hgw,hp1,hp2⟩,hg,⟨hfr,hpo⟩,hd,⟨by simp,by omega,by simp,fun _=>rfl⟩⟩) (by omega);all_goals try exact zZz F
  ·have d3:decide (i<rs.length)=false:=(by simp;omega);have hd:=done0 0 (.inr (by omega)) c2;have F:=F2 F d3;(try refine sq F ?_);refine wk F ?_;rcases hx with⟨rfl,rfl⟩| ⟨p,v,rfl,hgw,hp1,hp2⟩
   ·rw[M0 rfl]at hd;(try refine sq F ?_);refine wk F ?_;refine cq F (fun c5=>?_) (fun c5=>?_)<;>(try exact c5.elim)<;>(refine wk F ?_)
    refine hK2 _ _ _ (M2 ⟨i+1,po,vo,hh,out,[],.nil (.slice none 0 0),rfl,rfl,?_,?_,?_,?_,by omega,.inl ⟨rfl,rfl⟩,hg,⟨hfr,hpo⟩,hd,⟨by simp,by omega,by simp,fun _=>rfl⟩⟩) (by omega);all_goals try exact zZz F
   ·have hpl:=ba hgw;have hP:=jo G w hw3 (by omega) hgw;have F:=F3 F hgw @aw;(try refine sq F ?_);refine wk F ?_;refine cq F (fun c5=>?_) (fun c5=>?_)<;>(try exact c5.elim)<;>(refine wk F ?_)
    ·have hw0:¬w=[]:=(by rintro rfl;simp at c5);rw[L5 hw0]at hd;refine kq F (hP) ?_;refine aq F ?_;(try refine sq F ?_);refine wk F ?_;refine hK2 _ _ _ (M2 ⟨i+1,po,vo+1,hh.set po (.row 9 1 (vo+1) ((out++[encs w]).map .str)),out++[encs w],[],.nil (.slice none 0 0),rfl,by simp[encs],?_,?_,?_,?_,by omega,.inl ⟨rfl,rfl⟩,by rw[ca _ _ _ _ _ hgl,M0 rfl],⟨Y0 _ hpo hfr,hpo⟩,hd,⟨by simp,by simp;omega,by simp,fun _=>rfl⟩⟩) (by omega);all_goals try exact zZz F
    ·have hw0:w=[]:=(by cases w with|nil=>rfl|cons a l=>exfalso;simp only[M8]at c5;omega);rw[M0 hw0]at hd;subst hw0;refine hK2 _ _ _ (M2 ⟨i+1,po,vo,hh,out,[],.hs p v 0 0 true,rfl,rfl,?_,?_,?_,?_,by omega,.inr ⟨p,v,rfl,hgw,hp1,hp2⟩,hg,⟨hfr,hpo⟩,hd,⟨by simp,by omega,by simp,fun _=>rfl⟩⟩) (by omega);all_goals try exact zZz F
 ·have hie:i=rs.length+1:=by omega
  have hwe:=hw4 hie;subst hwe;rw[aI (by omega),wdsR,M0 rfl]at hv;obtain⟨j,rfl⟩:=hfr.behind (by omega);refine ee hQ F ?_;rw[← hv];exact Fin.frz (jp hpo hg) ⟨rfl,rfl⟩
theorem nu(t:Bs)(h:Heap):Sat (CT G) 131 [.str t] h (fun r h'=>r=.bool (L0.tag t)∧h'=h):=by
 have hL:=iX G rightS cleanF (fun t ht h=>jZ G t (by omega) h) (fun t ht h=>ka G t (by omega) h) t;have hu:L0.tag t=((!(t==[])&&textF rightS cleanF t 64)&&isF t):=rfl;rw[hu];cases hl:(!(t==[])&&textF rightS cleanF t 64)with
 |false=>
  rw[hl]at hL;refine sb [.tmp 2] Tryz.func131 ?_;intro Q hQ;refine wk trivial ?_;refine kq trivial (hL _) ?_;refine ee hQ trivial ?_;exact P2 (.bool _) ⟨by simp,rfl⟩
 |true=>
  rw[hl]at hL;have hlen:t.length≤64:=by
   rw[L6]at hl;have:=hl.2;unfold textF at this;rw[L6,M1]at this;omega
  have hwl:(wordsF t).length≤1000000:=by
   have h1:=gA (runesF (foldS t)) [] [];have h2:=cB (foldS t).length (foldS t) (M4 _);have h3:=cW t;rw[← gy]at h1;simp only[O7]at h1;omega
  have hS:=lM G (wordsF t) [t] hwl (by simp);refine sb [.tmp 2] Tryz.func131 ?_;intro Q hQ;refine wk trivial ?_;refine kq trivial (hL _) ?_;refine kq trivial (cE G t (by omega) _) ?_;refine kq trivial (hS _) ?_;refine ee hQ trivial ?_;exact P2 (.bool _) ⟨by simp[isF],rfl⟩
end
section
theorem eI(s:PS)(id k:Int):(s.hold id k).it=s.it:=by rw[aU]
theorem zU(s:PS)(e:Ev):(s.aft e).it=
  if e.kind=4 then itF s.it ((lkM s.fe e.a).getD Fe.z).id
  else if e.kind=7 then upM s.it s.c3 e.a ⟨e.a,e.b,e.n,e.s,e.t,e.u,false,false,[]⟩
  else if e.kind=8 then upM s.it s.c3 e.a {(lkM s.it e.a).getD It.z with read:=e.n==1}
  else if e.kind=9 then upM s.it s.c3 e.a {(lkM s.it e.a).getD It.z with star:=e.n==1}
  else if e.kind=10 then upM s.it s.c3 e.a {(lkM s.it e.a).getD It.z with tags:=tgF ((lkM s.it e.a).getD It.z).tags e.s e.n}
  else s.it:=by
 unfold PS.aft PS.after;by_cases k2:e.kind=2
 ·rw[M0 k2,eI,L5 (by omega),L5 (by omega),L5 (by omega),L5 (by omega),L5 (by omega)];rfl
 by_cases k4:e.kind=4
 ·rw[L5 k2,M0 k4,M0 k4,PS.unfeed,eI];rfl
 rw[L5 k2,L5 k4,L5 k4];by_cases k5:e.kind=5
 ·rw[M0 k5,L5 (by omega),L5 (by omega),L5 (by omega),L5 (by omega)];rfl
 rw[L5 k5];by_cases k6:e.kind=6
 ·rw[M0 k6,L5 (by omega),L5 (by omega),L5 (by omega),L5 (by omega)];show((s.hold _ _).hold _ _).it=_;rw[eI,eI]
 rw[L5 k6];by_cases k7:e.kind=7
 ·rw[L5 (by omega),L5 (by omega),L5 (by omega),L5 (by omega),L5 (by omega),PS.make,L5 (by omega),L5 (by omega),M0 k7,M0 k7];rfl
 rw[L5 k7];by_cases k8:e.kind=8
 ·rw[M0 k8,M0 k8];rfl
 rw[L5 k8,L5 k8];by_cases k9:e.kind=9
 ·rw[M0 k9,M0 k9];rfl
 rw[L5 k9,L5 k9];by_cases k10:e.kind=10
 ·rw[M0 k10,M0 k10];rfl
 rw[L5 k10,L5 k10];by_cases k12:e.kind=12
 ·rw[M0 k12];rfl
 rw[L5 k12];by_cases k13:e.kind=13
 ·rw[M0 k13]
 rw[L5 k13,PS.make];by_cases k1:e.kind=1
 ·rw[M0 k1];show((((s.upFo e.a _).upNm _ _).hold _ _)).it=_;rw[eI];rfl
 rw[L5 k1];by_cases k3:e.kind=3
 ·rw[M0 k3];show((((s.upFe e.a _).upPl _ _).hold _ _)).it=_;rw[eI];rfl
 rw[L5 k3,L5 k7];split<;>rfl
variable {s:PS} {e:Ev}
structure PS.Nam (s:PS):Prop where
 w5:WFM s.nm s.c5
 w6:WFM s.pl s.c6
 n1:∀key k,lkM s.nm key=some k→∃f,lkM s.fo k=some f∧(f.inn,f.name)=key
 n2:∀k f,lkM s.fo k=some f→lkM s.nm (f.inn,f.name)=some k
 p1:∀u k,lkM s.pl u=some k→∃f,lkM s.fe k=some f∧f.url=u
 p2:∀k f,lkM s.fe k=some f→lkM s.pl f.url=some k
 g1:∀key k,lkM s.gu key=some k→∃t,lkM s.it k=some t∧(t.feed,t.guid)=key
 g2:∀k t,lkM s.it k=some t→lkM s.gu (t.feed,t.guid)=some k
theorem PS.Nam.z:PS.z.Nam where
 w5:=.nil
 w6:=.nil
 n1:=fun _ _ h=>by cases h
 n2:=fun _ _ h=>by cases h
 p1:=fun _ _ h=>by cases h
 p2:=fun _ _ h=>by cases h
 g1:=fun _ _ h=>by cases h
 g2:=fun _ _ h=>by cases h
theorem l5{κ α:Type}[DecidableEq κ]{m:ML κ Int}{l:ML Int α}{c c':Nat}{key:κ}{a:α}{k:Int}(kf:α→κ)
  (h1:∀q j,lkM m q=some j→∃f,lkM l j=some f∧kf f=q)(h2:∀j f,lkM l j=some f→lkM m (kf f)=some j)(hk:lkM l k=none)(hm:lkM m key=none)(ha:kf a=key):
  (∀q j,lkM (upM m c key k) q=some j→∃f,lkM (upM l c' k a) j=some f∧kf f=q)∧(∀j f,lkM (upM l c' k a) j=some f→lkM (upM m c key k) (kf f)=some j):=by
 refine⟨fun q j hq=>?_,fun j f hf=>?_⟩
 ·rcases aR hq with⟨rfl,rfl⟩| ⟨hne,hq⟩
  ·exact⟨a,by rw[aN,M0 rfl],ha⟩
  ·obtain⟨f,hf,hkf⟩:=h1 q j hq;refine⟨f,?_,hkf⟩;rw[aN,L5 (by rintro rfl;rw[hk]at hf;cases hf)];exact hf
 ·rcases aR hf with⟨rfl,rfl⟩| ⟨hne,hf⟩
  ·rw[ha,aN,M0 rfl]
  ·have:=h2 j f hf;rw[aN,L5 (by intro e;rw[e,hm]at this;cases this)];exact this
theorem pF{κ α:Type}[DecidableEq κ]{m:ML κ Int}{l:ML Int α}{k:Int}{a:α}(kf:α→κ)(nm:(m.map (·.1)).Nodup)(nl:(l.map (·.1)).Nodup)
  (h1:∀q j,lkM m q=some j→∃f,lkM l j=some f∧kf f=q)(h2:∀j f,lkM l j=some f→lkM m (kf f)=some j)(hk:lkM l k=some a):
  (∀q j,lkM (dlM m (kf a)) q=some j→∃f,lkM (dlM l k) j=some f∧kf f=q)∧(∀j f,lkM (dlM l k) j=some f→lkM (dlM m (kf a)) (kf f)=some j):=by
 refine⟨fun q j hq=>?_,fun j f hf=>?_⟩
 ·obtain⟨hne,hq⟩:=db nm hq;obtain⟨f,hf,hkf⟩:=h1 q j hq;refine⟨f,?_,hkf⟩;rw[cH nl,L5 (by rintro rfl;rw[hk]at hf;cases hf;exact hne hkf.symm)];exact hf
 ·obtain⟨hne,hf⟩:=db nl hf;have:=h2 j f hf;rw[cH nm,L5 (by intro e;rw[e,h2 k a hk]at this;cases this;exact hne rfl)];exact this
theorem fX{κ α:Type}[DecidableEq κ]{m:ML κ Int}{l:ML Int α}{c:Nat}{k:Int}{a a':α}(kf:α→κ)
  (h1:∀q j,lkM m q=some j→∃f,lkM l j=some f∧kf f=q)(h2:∀j f,lkM l j=some f→lkM m (kf f)=some j)(hk:lkM l k=some a)(ha:kf a'=kf a):
  (∀q j,lkM m q=some j→∃f,lkM (upM l c k a') j=some f∧kf f=q)∧(∀j f,lkM (upM l c k a') j=some f→lkM m (kf f)=some j):=by
 refine⟨fun q j hq=>?_,fun j f hf=>?_⟩
 ·obtain⟨f,hf,hkf⟩:=h1 q j hq;by_cases hj:j=k
  ·subst hj;rw[hk]at hf;cases hf;exact⟨a',by rw[aN,M0 rfl],by rw[ha,hkf]⟩
  ·exact⟨f,by rw[aN,L5 hj];exact hf,hkf⟩
 ·rcases aR hf with⟨rfl,rfl⟩| ⟨hne,hf⟩
  ·rw[ha];exact h2 _ _ hk
  ·exact h2 j f hf
theorem nD{κ α:Type}[DecidableEq κ]{l:ML κ α}(hn:(l.map (·.1)).Nodup){p:κ×α×Nat→Bool}{y:κ}{b:α}(h:lkM l y=some b)(hp:∀n,p (y,b,n)=true):lkM (l.filter p) y=some b:=by
 obtain⟨n,hm⟩:=cQ h;exact bH (hn.sublist (List.filter_sublist.map _)) (V3.2 ⟨hm,hp n⟩)
theorem l6{κ α:Type}[DecidableEq κ]{l:ML κ α}(hn:(l.map (·.1)).Nodup){p:κ×α×Nat→Bool}{y:κ}{b:α}(h:lkM (l.filter p) y=some b):lkM l y=some b∧∃n,(y,b,n)∈l∧p (y,b,n)=true:=by
 obtain⟨n,hm⟩:=cQ h;have:=V3.1 hm;exact⟨bH hn this.1,n,this.1,this.2⟩
theorem nE{κ:Type}[DecidableEq κ]{m:ML κ Int}{key:κ}(h:∀j,lkM m key=some j→1≤j)(h0:(lkM m key).getD 0=0):lkM m key=none:=by
 cases hl:lkM m key with
 |none=>rfl
 |some j=>rw[hl]at h0;have:=h j hl;simp at h0;omega
theorem PS.Nam.nm1(h:s.Nam)(hI:s.Inv){key:Int×Bs}{j:Int}(hj:lkM s.nm key=some j):1≤j:=by
 obtain⟨f,hf,_⟩:=h.n1 key j hj;exact(hI.i1 _ _ hf).2.1
theorem PS.Nam.pl1(h:s.Nam)(hI:s.Inv){key:Bs}{j:Int}(hj:lkM s.pl key=some j):1≤j:=by
 obtain⟨f,hf,_⟩:=h.p1 key j hj;exact(hI.i2 _ _ hf).2.1
theorem PS.Nam.gu1(h:s.Nam)(hI:s.Inv){key:Int×Bs}{j:Int}(hj:lkM s.gu key=some j):1≤j:=by
 obtain⟨f,hf,_⟩:=h.g1 key j hj;exact(hI.i3 _ _ hf).2.1
theorem PS.Nam.unFe(h:s.Nam)(hI:s.Inv){k:Int}{f:Fe}(hk:lkM s.fe k=some f):PS.Nam (s.unfeed f):=by
 have hfk:=(hI.i2 _ _ hk).1;obtain⟨q1,q2⟩:=pF (·.url) h.w6.keys hI.w2.keys h.p1 h.p2 hk;unfold PS.unfeed;rw[aU];have hkey:∀j t,lkM s.it j=some t→t.feed=f.id→∀n,(fun e:(Int×Bs)×Int×Nat=> !(s.it.any fun d=>decide (d.2.1.feed=f.id)&&decide (e.1=(d.2.1.feed,d.2.1.guid)))) ((t.feed,t.guid),j,n)=false:=fun j t ht hf n=>by
  obtain⟨m,hm⟩:=cQ ht;simp only[Bool.not_eq_false',X9];exact⟨_,hm,by simp[hf]⟩
 exact {h with
  w6:=h.w6.dl _
  p1:=by rw[hfk];exact q1
  p2:=by rw[hfk];exact q2
  g1:=fun key j hj=>by
   obtain⟨h1,n,h2,h3⟩:=l6 hI.w7.keys hj;obtain⟨t,ht,hkf⟩:=h.g1 key j h1;refine⟨t,nD hI.w3.keys ht fun n'=>?_,hkf⟩;simp only[P6,decide_eq_false_iff_not];intro hfe;have:=hkey j t ht hfe n;rw[hkf]at this;exact absurd (h3.symm.trans this) (by decide)
  g2:=fun j t ht=>by
   obtain⟨h1,n,h2,h3⟩:=l6 hI.w3.keys ht;refine nD hI.w7.keys (h.g2 j t h1) fun n'=>?_
   simp only[P6,decide_eq_false_iff_not]at h3;simp only[P6,V8,L6,M1,not_and];intro d hd hdf hq;have:t.feed=d.2.1.feed:=P0 Prod.fst hq;exact h3 (this.trans hdf)}
theorem PS.Nam.step{L:Leaf}(h:s.Nam)(hI:s.Inv)(e:Ev):(s.step L e).Nam:=by
 unfold PS.step;split
 ·rename_i hok;unfold PS.ok PS.fits at hok;rw[L6]at hok;obtain⟨hck,hf⟩:=hok;unfold PS.aft PS.after;by_cases k1:e.kind=1
  ·rw[M0 k1]at hf;simp only[L6,P6,M1,beq_iff_eq]at hf;rw[L5 (by omega),L5 (by omega),L5 (by omega),L5 (by omega),L5 (by omega),L5 (by omega),L5 (by omega),L5 (by omega),L5 (by omega),PS.make,M0 k1,aU];have hn:=nE (fun j hj=>h.nm1 hI hj) hf.2;obtain⟨q1,q2⟩:=l5 (c:=s.c5) (c':=s.c1) (a:=(⟨e.a,e.b,e.s⟩:Fo)) (fun f:Fo=>(f.inn,f.name)) h.n1 h.n2 (cD hf.1.1.1.1) hn rfl;exact {h with w5:=h.w5.up _ _,n1:=q1,n2:=q2}
  rw[L5 k1]at hf;by_cases k2:e.kind=2
  ·rw[M0 k2]at hf ⊢;simp only[L6,beq_iff_eq]at hf;obtain⟨f,hfo⟩:=bw hf.1;rw[hfo,aU];obtain⟨q1,q2⟩:=pF (fun f:Fo=>(f.inn,f.name)) h.w5.keys hI.w1.keys h.n1 h.n2 hfo;exact {h with w5:=h.w5.dl _,n1:=q1,n2:=q2}
  rw[L5 k2]at hf ⊢;by_cases k3:e.kind=3
  ·rw[M0 k3]at hf;simp only[L6,P6,M1,beq_iff_eq]at hf;rw[L5 (by omega),L5 (by omega),L5 (by omega),L5 (by omega),L5 (by omega),L5 (by omega),L5 (by omega),L5 (by omega),PS.make,L5 (by omega),M0 k3,aU];have hn:=nE (fun j hj=>h.pl1 hI hj) hf.2;obtain⟨q1,q2⟩:=l5 (c:=s.c6) (c':=s.c2) (a:=(⟨e.a,e.b,e.s,e.t⟩:Fe)) (fun f:Fe=>f.url) h.p1 h.p2 (cD hf.1.1.1) hn rfl;exact {h with w6:=h.w6.up _ _,p1:=q1,p2:=q2}
  rw[L5 k3]at hf;by_cases k4:e.kind=4
  ·rw[M0 (.inl k4)]at hf;rw[M0 k4];obtain⟨f,hfo⟩:=bw hf;rw[hfo];exact h.unFe hI hfo
  rw[L5 k4];by_cases k5:e.kind=5
  ·rw[M0 (.inr k5)]at hf;rw[M0 k5];obtain⟨f,hfo⟩:=bw hf;rw[hfo];obtain⟨q1,q2⟩:=fX (c:=s.c2) (a':= {f with title:=e.t}) (fun f:Fe=>f.url) h.p1 h.p2 hfo rfl;exact {h with p1:=q1,p2:=q2}
  rw[L5 (by omega)]at hf;rw[L5 k5];by_cases k6:e.kind=6
  ·rw[M0 k6]at hf ⊢;simp only[L6]at hf;obtain⟨f,hfo⟩:=bw hf.1;rw[hfo,aU,aU];obtain⟨q1,q2⟩:=fX (c:=s.c2) (a':= {f with inn:=e.b}) (fun f:Fe=>f.url) h.p1 h.p2 hfo rfl;exact {h with p1:=q1,p2:=q2}
  rw[L5 k6]at hf ⊢;by_cases k7:e.kind=7
  ·rw[M0 k7]at hf;simp only[L6,P6,M1,beq_iff_eq]at hf;rw[L5 (by omega),L5 (by omega),L5 (by omega),L5 (by omega),L5 (by omega),PS.make,L5 (by omega),L5 (by omega),M0 k7];have hn:=nE (fun j hj=>h.gu1 hI hj) hf.2;obtain⟨q1,q2⟩:=l5 (c:=s.c7) (c':=s.c3) (a:=(⟨e.a,e.b,e.n,e.s,e.t,e.u,false,false,[]⟩:It)) (fun t:It=>(t.feed,t.guid)) h.g1 h.g2 (cD hf.1.1.1) hn rfl;exact {h with g1:=q1,g2:=q2}
  rw[L5 k7]at hf;by_cases k8:e.kind=8
  ·rw[M0 (.inl k8)]at hf;rw[M0 k8];obtain⟨f,hfo⟩:=bw hf;rw[hfo];obtain⟨q1,q2⟩:=fX (c:=s.c3) (a':= {f with read:=e.n==1}) (fun t:It=>(t.feed,t.guid)) h.g1 h.g2 hfo rfl;exact {h with g1:=q1,g2:=q2}
  rw[L5 k8];by_cases k9:e.kind=9
  ·rw[M0 (.inr k9)]at hf;rw[M0 k9];obtain⟨f,hfo⟩:=bw hf;rw[hfo];obtain⟨q1,q2⟩:=fX (c:=s.c3) (a':= {f with star:=e.n==1}) (fun t:It=>(t.feed,t.guid)) h.g1 h.g2 hfo rfl;exact {h with g1:=q1,g2:=q2}
  rw[L5 (by omega)]at hf;rw[L5 k9];by_cases k10:e.kind=10
  ·rw[M0 k10]at hf ⊢;simp only[L6,R6,M1]at hf;obtain⟨f,hfo⟩:=bw hf.1;rw[hfo];obtain⟨q1,q2⟩:=fX (c:=s.c3) (a':= {f with tags:=tgF f.tags e.s e.n}) (fun t:It=>(t.feed,t.guid)) h.g1 h.g2 hfo rfl;exact {h with g1:=q1,g2:=q2}
  rw[L5 k10];by_cases k12:e.kind=12
  ·rw[M0 k12];exact {h with}
  rw[L5 k12];by_cases k13:e.kind=13
  ·rw[M0 k13];exact {h with}
  rw[L5 k13,PS.make,L5 k1,L5 k3,L5 k7];split
  ·exact {h with}
  ·exact h
 ·exact h
theorem PS.Nam.fold{L:Leaf}(h:s.Nam)(hI:s.Inv)(l:List Ev):(l.foldl (PS.step L) s).Nam:=by
 induction l generalizing s with
 |nil=>exact h
 |cons e l ih=>exact ih (h.step hI e) (hI.step e)
end
section
def sumZ:List Int→Int
 | []=>0
 |a::l=>a+sumZ l
def S2{α:Type}(F:List α)(L:List It)(P:α→It→Bool):Int:=sumZ (F.map fun g=>(L.countP (P g):Int))
variable {s:PS}
def PS.inn(s:PS)(id:Int):Int:=((lkM s.fo id).map (·.inn)).getD 0
theorem PS.Inv.chs(h:s.Inv){p:Int}(hp:p=0∨(lkM s.fo p).isSome=true):∃l,chS s.fo 7 p=some l∧l.Nodup∧∀x∈l,(lkM s.fo x).isSome=true:=by
 obtain⟨l,h1,h2,_,h4⟩:=(Kp.new h).chain h hp;exact⟨l,by rw[← yh (Kp.new h).ab];exact h1,h2,h4⟩
end
section
attribute [local irreducible] WP WPl WPix Sat
variable (G:Nat→Option (List AVal))
def PS.step1(s:PS)(e:Ev):PS:=if s.fits true (s.dpt e.b) e then s.aft e else s
theorem dC{s:PS}{e:Ev}(h:L0.ck e=true):s.step L0 e=s.step1 e:=by unfold PS.step PS.step1 PS.ok;rw[h]
theorem gG{e:Ev}(h1:L0.right e=true)(h2:usedE e=e):L0.ck e=true:=by unfold Leaf.ck;rw[h1,h2];simp
section
variable {Y:Heap} {n m:Nat} {s:PS} {c:CS}
end
end
end Go.Av
