/- Laws of counts: what must come of every program (lives). -/
import Derived.Test.YtmfhelaoeaifeaaGreatDoorMlEc
import Derived.Test.YtmfhelaoeaifeaaGreatDoorMlQf
set_option linter.unusedSimpArgs false
set_option linter.unusedVariables false
set_option linter.unusedSectionVars false
set_option linter.unnecessarySimpa false
set_option maxRecDepth 100000
set_option maxHeartbeats 16000000
namespace Go.Av
open Go Go.Proofs Go.RowKit
attribute [local irreducible] WP WPl WPix Sat
def textF(ri:Bs→Bool)(cl:Bs→Bs)(t:Bs)(n:Int):Bool:=decide ((t.length:Int)≤n)&&(ri t&&cl t==t)
variable (G:Nat→Option (List AVal))
theorem dD(ri:Bs→Bool)(cl:Bs→Bs)(hR:∀t,t.length≤1000→∀h,Sat (CT G) 251 [.str t] h (fun r h'=>r=.bool (ri t)∧h'=h))(hC:∀t,t.length≤1000→∀h,Sat (CT G) 252 [.str t] h (fun r h'=>r=.str (cl t)∧h'=h))(t:Bs)(n:Int)(hn:n≤1000)(h:Heap):Sat (CT G) 235 [.str t,.int .i64 n] h (fun r h'=>r=.bool (textF ri cl t n)∧h'=h):=by
 cases hl:decide ((t.length:Int)≤n)with
 |false=>
  have F:=hl
  refine sb [.tmp 4] (fn:=Tryz.f235) Tryz.func235 ?_
  intro Q hQ
  refine wk F ?_
  refine ee hQ F ?_
  exact Fin.same (.bool _) ⟨by simp[textF,hl],rfl⟩
 |true=>
  have hlt:t.length≤1000:=by have:=of_decide_eq_true hl;omega
  cases hr:ri t with
  |false=>
   have hR1:=hR t hlt
   rw[hr]at hR1
   have F:=hl
   refine sb [.tmp 4] (fn:=Tryz.f235) Tryz.func235 ?_
   intro Q hQ
   refine wk F ?_
   refine kq F (hR1 _) ?_
   refine ee hQ F ?_
   exact Fin.same (.bool _) ⟨by simp[textF,hl,hr],rfl⟩
  |true=>
   have hR1:=hR t hlt
   rw[hr]at hR1
   have F:=hl
   refine sb [.tmp 4] (fn:=Tryz.f235) Tryz.func235 ?_
   intro Q hQ
   refine wk F ?_
   refine kq F (hR1 _) ?_
   refine kq F (hC t hlt _) ?_
   refine ee hQ F ?_
   exact Fin.same (.bool _) ⟨by simp[textF,hl,hr],rfl⟩
theorem i7(ri:Bs→Bool)(cl:Bs→Bs)(hR:∀t,t.length≤1000→∀h,Sat (CT G) 251 [.str t] h (fun r h'=>r=.bool (ri t)∧h'=h))(hC:∀t,t.length≤1000→∀h,Sat (CT G) 252 [.str t] h (fun r h'=>r=.str (cl t)∧h'=h))(t:Bs)(h:Heap):Sat (CT G) 193 [.str t] h (fun r h'=>r=.bool (!(t==[])&&textF ri cl t 64)∧h'=h):=by
 cases k1:(t==[])with
 |true=>
  have k2:(t != [])=false:=by simpa using k1
  have F:=F2 k1 k2
  refine sb [.tmp 2] (fn:=Tryz.f193) Tryz.func193 ?_
  intro Q hQ
  refine wk F ?_
  refine ee hQ F ?_
  exact Fin.same (.bool _) ⟨by simp,rfl⟩
 |false=>
  have k2:(t != [])=true:=by simpa using k1
  have F:=F2 k1 k2
  refine sb [.tmp 2] (fn:=Tryz.f193) Tryz.func193 ?_
  intro Q hQ
  refine wk F ?_
  refine kq F (dD G ri cl hR hC t 64 (by omega) _) ?_
  refine ee hQ F ?_
  exact Fin.same (.bool _) ⟨by simp,rfl⟩
theorem mV(ri:Bs→Bool)(cl:Bs→Bs)(hR:∀t,t.length≤1000→∀h,Sat (CT G) 251 [.str t] h (fun r h'=>r=.bool (ri t)∧h'=h))(hC:∀t,t.length≤1000→∀h,Sat (CT G) 252 [.str t] h (fun r h'=>r=.str (cl t)∧h'=h))(t:Bs)(h:Heap):Sat (CT G) 195 [.str t] h (fun r h'=>r=.bool (textF ri cl t 256)∧h'=h):=by
 refine sb [.tmp 2] (fn:=Tryz.f195) Tryz.func195 ?_
 intro Q hQ
 refine wk trivial ?_
 refine kq trivial (dD G ri cl hR hC t 256 (by omega) _) ?_
 refine ee hQ trivial ?_
 exact Fin.same (.bool _) ⟨rfl,rfl⟩
theorem jd(ri:Bs→Bool)(cl:Bs→Bs)(hR:∀t,t.length≤1000→∀h,Sat (CT G) 251 [.str t] h (fun r h'=>r=.bool (ri t)∧h'=h))(hC:∀t,t.length≤1000→∀h,Sat (CT G) 252 [.str t] h (fun r h'=>r=.str (cl t)∧h'=h))(t:Bs)(h:Heap):Sat (CT G) 197 [.str t] h (fun r h'=>r=.bool (textF ri cl t 512)∧h'=h):=by
 refine sb [.tmp 2] (fn:=Tryz.f197) Tryz.func197 ?_
 intro Q hQ
 refine wk trivial ?_
 refine kq trivial (dD G ri cl hR hC t 512 (by omega) _) ?_
 refine ee hQ trivial ?_
 exact Fin.same (.bool _) ⟨rfl,rfl⟩
theorem mW(ri:Bs→Bool)(cl:Bs→Bs)(hR:∀t,t.length≤1000→∀h,Sat (CT G) 251 [.str t] h (fun r h'=>r=.bool (ri t)∧h'=h))(hC:∀t,t.length≤1000→∀h,Sat (CT G) 252 [.str t] h (fun r h'=>r=.str (cl t)∧h'=h))(t:Bs)(h:Heap):Sat (CT G) 198 [.str t] h (fun r h'=>r=.bool (!(t==[])&&textF ri cl t 512)∧h'=h):=by
 cases k1:(t==[])with
 |true=>
  have k2:(t != [])=false:=by simpa using k1
  have F:=F2 k1 k2
  refine sb [.tmp 2] (fn:=Tryz.f198) Tryz.func198 ?_
  intro Q hQ
  refine wk F ?_
  refine ee hQ F ?_
  exact Fin.same (.bool _) ⟨by simp,rfl⟩
 |false=>
  have k2:(t != [])=true:=by simpa using k1
  have F:=F2 k1 k2
  refine sb [.tmp 2] (fn:=Tryz.f198) Tryz.func198 ?_
  intro Q hQ
  refine wk F ?_
  refine kq F (dD G ri cl hR hC t 512 (by omega) _) ?_
  refine ee hQ F ?_
  exact Fin.same (.bool _) ⟨by simp,rfl⟩
theorem pv(ri:Bs→Bool)(cl:Bs→Bs)(hR:∀t,t.length≤1000→∀h,Sat (CT G) 238 [.str t] h (fun r h'=>r=.bool (ri t)∧h'=h))(hC:∀t,t.length≤1000→∀h,Sat (CT G) 239 [.str t] h (fun r h'=>r=.str (cl t)∧h'=h))(t:Bs)(n:Int)(hn:n≤1000)(h:Heap):Sat (CT G) 202 [.str t,.int .i64 n] h (fun r h'=>r=.bool (textF ri cl t n)∧h'=h):=by
 cases hl:decide ((t.length:Int)≤n)with
 |false=>
  have F:=hl
  refine sb [.tmp 4] (fn:=Tryz.f202) Tryz.func202 ?_
  intro Q hQ
  refine wk F ?_
  refine ee hQ F ?_
  exact Fin.same (.bool _) ⟨by simp[textF,hl],rfl⟩
 |true=>
  have hlt:t.length≤1000:=by have:=of_decide_eq_true hl;omega
  cases hr:ri t with
  |false=>
   have hR1:=hR t hlt
   rw[hr]at hR1
   have F:=hl
   refine sb [.tmp 4] (fn:=Tryz.f202) Tryz.func202 ?_
   intro Q hQ
   refine wk F ?_
   refine kq F (hR1 _) ?_
   refine ee hQ F ?_
   exact Fin.same (.bool _) ⟨by simp[textF,hl,hr],rfl⟩
  |true=>
   have hR1:=hR t hlt
   rw[hr]at hR1
   have F:=hl
   refine sb [.tmp 4] (fn:=Tryz.f202) Tryz.func202 ?_
   intro Q hQ
   refine wk F ?_
   refine kq F (hR1 _) ?_
   refine kq F (hC t hlt _) ?_
   refine ee hQ F ?_
   exact Fin.same (.bool _) ⟨by simp[textF,hl,hr],rfl⟩
theorem mX(ri:Bs→Bool)(cl:Bs→Bs)(hR:∀t,t.length≤1000→∀h,Sat (CT G) 238 [.str t] h (fun r h'=>r=.bool (ri t)∧h'=h))(hC:∀t,t.length≤1000→∀h,Sat (CT G) 239 [.str t] h (fun r h'=>r=.str (cl t)∧h'=h))(t:Bs)(h:Heap):Sat (CT G) 154 [.str t] h (fun r h'=>r=.bool (!(t==[])&&textF ri cl t 64)∧h'=h):=by
 cases k1:(t==[])with
 |true=>
  have k2:(t != [])=false:=by simpa using k1
  have F:=F2 k1 k2
  refine sb [.tmp 2] (fn:=Tryz.f154) Tryz.func154 ?_
  intro Q hQ
  refine wk F ?_
  refine ee hQ F ?_
  exact Fin.same (.bool _) ⟨by simp,rfl⟩
 |false=>
  have k2:(t != [])=true:=by simpa using k1
  have F:=F2 k1 k2
  refine sb [.tmp 2] (fn:=Tryz.f154) Tryz.func154 ?_
  intro Q hQ
  refine wk F ?_
  refine kq F (pv G ri cl hR hC t 64 (by omega) _) ?_
  refine ee hQ F ?_
  exact Fin.same (.bool _) ⟨by simp,rfl⟩
end Go.Av
namespace Go.Av
open Go Go.Proofs Go.RowKit
attribute [local irreducible] WP WPl WPix Sat
variable (G:Nat→Option (List AVal))
def L0:Leaf where
 label:=fun t=> !(t==[])&&textF rightS cleanF t 64
 title:=fun t=>textF rightS cleanF t 256
 link:=fun t=>textF rightS cleanF t 512
 tag:=fun t=>(!(t==[])&&textF rightS cleanF t 64)&&isF t
 query:=fun t=> !(t==[])&&textF rightS cleanF t 512
 moment:=momF
theorem R0(t:Bs)(ht:t.length≤1000)(h:Heap):Sat (CT G) 251 [.str t] h (fun r h'=>r=.bool (rightS t)∧h'=h):=pt G t (by omega) h
theorem C0(t:Bs)(ht:t.length≤1000)(h:Heap):Sat (CT G) 252 [.str t] h (fun r h'=>r=.str (cleanF t)∧h'=h):=pr G t (by omega) h
theorem lQ(t:Bs)(h:Heap):Sat (CT G) 159 [.str t] h (fun r h'=>r=.bool (L0.tag t)∧h'=h):=by
 have hL:=i7 G rightS cleanF (R0 G) (C0 G) t
 have hu:L0.tag t=((!(t==[])&&textF rightS cleanF t 64)&&isF t):=rfl
 rw[hu]
 cases hl:(!(t==[])&&textF rightS cleanF t 64)with
 |false=>
  rw[hl]at hL
  refine sb [.tmp 2] (fn:=Tryz.f159) Tryz.func159 ?_
  intro Q hQ
  refine wk trivial ?_
  refine kq trivial (hL _) ?_
  refine ee hQ trivial ?_
  exact Fin.same (.bool _) ⟨by simp,rfl⟩
 |true=>
  rw[hl]at hL
  have hlen:t.length≤64:=by
   rw[Bool.and_eq_true]at hl
   have:=hl.2
   unfold textF at this
   rw[Bool.and_eq_true,decide_eq_true_eq]at this
   omega
  refine sb [.tmp 2] (fn:=Tryz.f159) Tryz.func159 ?_
  intro Q hQ
  refine wk trivial ?_
  refine kq trivial (hL _) ?_
  refine kq trivial (nM G t (by omega) _) ?_
  refine ee hQ trivial ?_
  exact Fin.same (.bool _) ⟨by simp,rfl⟩
theorem pw(e:Ev)(h:Heap):Sat (CT G) 97 [e.av] h (fun r h'=>r=.int .i64 (if L0.ck e then 0 else 140)∧h'=h):=
 mM G L0 e (mU G L0 (i7 G rightS cleanF (R0 G) (C0 G)) (mV G rightS cleanF (R0 G) (C0 G)) (jd G rightS cleanF (R0 G) (C0 G)) (mT G L0 (jd G rightS cleanF (R0 G) (C0 G))) (lQ G) (mW G rightS cleanF (R0 G) (C0 G)) (mS G) e) h
theorem pz(s:PS)(h:s.Inv)(e:Ev){H:Heap}{n:Nat}(hn:n+9≤H.length):Sat (CT G) 31 [.hp (n+8) 0 0 0,e.av] (so H n s) (fun r h'=>r=.bool (s.ok L0 e)∧h'=so H n (s.step L0 e)):=by
 obtain⟨d1,d2⟩:=h.deep e.b
 obtain⟨g1,g2⟩:=h.tags e.a
 have hl:=(⟨Nat.le_trans h.l1 (by omega),Nat.le_trans h.l2 (by omega),Nat.le_trans h.l3 (by omega),Nat.le_trans h.l4 (by omega)⟩:s.fo.length≤100∧s.fe.length≤100∧s.it.length≤2000∧s.se.length≤100)
 exact mL G s e (s.ok L0 e) (tgF ((lkM s.it e.a).getD It.z).tags e.s e.n) h.w3 h.w7 h.few (tw h _ _ (by omega))
  (fun n H hn=>pb G s e (L0.ck e) 7 (s.dpt e.b) d1 (by omega) hl (pw G e) (fun n H hn=>(kh G s e.a e.s g1 (by omega) hn).mono fun r h' ⟨hr,hh⟩=>⟨⟨_,hr⟩,hh⟩) hn)
  (fun n H hn=>lI G s e g1 (by omega) hn) hn
theorem kr(es:List Ev)(hl:es.length≤1048576)(h:Heap):Sat (CT G) 10 [.sl 7 (es.map Ev.av)] h (fun r h'=>r=.hp (h.length+8) 0 0 0∧h'=so (h++PS.z.bl h.length) h.length (es.foldl (PS.step L0) PS.z)):=
 p9 G es hl PS.Inv (PS.ok L0) (PS.step L0) .z (fun s e _ h=>h.step e) (fun s e _ h n H hn=>pz G s h e hn) h
end Go.Av
namespace Go.Av
open Go Go.Proofs Go.RowKit
attribute [local irreducible] WP WPl WPix Sat
variable (G:Nat→Option (List AVal))
theorem rF(c:Int)(hc:Rune c)(h:Heap):Sat (CT G) 218 [.int .i32 c] h (fun r h'=>r=.int .i32 (foldR c)∧h'=h):=by
 have c0:0≤c∧c≤1114111:=by unfold Rune at hc;omega
 obtain⟨c1,c2⟩:=c0
 have w32:c≤2000→IntKind.i32.wrap (c+32)=c+32:=fun _=>bQ (by omega) (by omega)
 have w80:c≤2000→IntKind.i32.wrap (c+80)=c+80:=fun _=>bQ (by omega) (by omega)
 refine sb [.tmp 2] (fn:=Tryz.f218) Tryz.func218 ?_
 intro Q hQ
 refine wk trivial ?_
 repeat' (first
  | (exfalso;omega)
  | (refine cq trivial (fun hx=>?_) (fun hx=>?_)<;>(try exact hx.elim)<;>(refine wk trivial ?_))
  | ((first|refine gq trivial (fun hx=>?_) (fun hx=>?_)|refine pq trivial (fun hx=>?_) (fun hx=>?_))<;>(try exact hx.elim)<;>(try refine sq trivial ?_)<;>(refine wk trivial ?_)))
 all_goals (
  refine ee hQ trivial ?_
  exact Fin.same (.int _ _) ⟨by
   unfold foldR btw
   simp only[Bool.and_eq_true,decide_eq_true_eq]
   first
    |rw[if_pos (by omega)]
    | (rw[if_neg (by omega),if_pos (by omega)];first|rfl|rw[w32 (by omega)])
    | (rw[if_neg (by omega),if_neg (by omega),if_pos (by omega)];first|rfl|rw[w80 (by omega)])
    |rw[if_neg (by omega),if_neg (by omega),if_neg (by omega)],rfl⟩)
def letR(c:Int):Bool:=letF c.toNat
theorem nh(c:Int)(hc:Rune c)(h:Heap):Sat (CT G) 180 [.int .i32 c] h (fun r h'=>r=.bool (letR c)∧h'=h):=by
 have c0:0≤c∧c≤1114111:=by unfold Rune at hc;omega
 obtain⟨c1,c2⟩:=c0
 refine sb [.tmp 2] (fn:=Tryz.f180) Tryz.func180 ?_
 intro Q hQ
 refine wk trivial ?_
 repeat' (first
  | (exfalso;omega)
  | (refine cq trivial (fun hx=>?_) (fun hx=>?_)<;>(try exact hx.elim)<;>(refine wk trivial ?_))
  | ((first|refine gq trivial (fun hx=>?_) (fun hx=>?_)|refine pq trivial (fun hx=>?_) (fun hx=>?_))<;>(try exact hx.elim)<;>(try refine sq trivial ?_)<;>(refine wk trivial ?_)))
 all_goals (
  refine ee hQ trivial ?_
  exact Fin.same (.bool _) ⟨by
    unfold letR letF
    congr 1
    symm
    first
     |rw[if_pos (by omega)]
     |rw[if_neg (by omega)]
    rw[Bool.eq_iff_iff]
    simp only[Bool.and_eq_true,Bool.or_eq_true,Bool.not_eq_true',Bool.or_eq_false_iff,Bool.and_eq_false_iff,decide_eq_true_eq,decide_eq_false_iff_not,Bool.false_eq_true,iff_true,iff_false]
    omega,rfl⟩)
end Go.Av
namespace Go.Av
open Go Go.Proofs Go.RowKit
theorem eD(r:Int)(x:Bs):dec (enc r++x) 0=(fix r,(enc r).length):=by
 have hl:=xm r
 have hs:=vA r
 rw[ep,nJ]
 generalize fix r=c at*
 simp only[]
 by_cases h1:c<128
 ·rw[if_pos h1]
  simp only[List.cons_append,List.nil_append,List.getD_cons_zero,List.length_cons,List.length_nil]
  rw[aU _ (by omega)]
  simp[Lib.decodeN,h1]
 ·rw[if_neg h1]
  by_cases h2:c<2048
  ·rw[if_pos h2]
   simp only[List.cons_append,List.nil_append,List.getD_cons_zero,List.getD_cons_succ,List.length_cons,List.length_nil,Nat.zero_add]
   rw[aU _ (by omega),aU _ (by omega)]
   unfold Lib.decodeN
   rw[if_neg (by omega),if_pos (by omega),if_pos (by omega)]
   congr 1;omega
  ·rw[if_neg h2]
   by_cases h3:c<65536
   ·rw[if_pos h3]
    simp only[List.cons_append,List.nil_append,List.getD_cons_zero,List.getD_cons_succ,List.length_cons,List.length_nil,Nat.zero_add]
    rw[aU _ (by omega),aU _ (by omega),aU _ (by omega)]
    unfold Lib.decodeN
    rw[if_neg (by omega),if_neg (by omega),if_pos (by omega),if_pos (by omega)]
    congr 1;omega
   ·rw[if_neg h3]
    simp only[List.cons_append,List.nil_append,List.getD_cons_zero,List.getD_cons_succ,List.length_cons,List.length_nil,Nat.zero_add]
    rw[aU _ (by omega),aU _ (by omega),aU _ (by omega),aU _ (by omega)]
    unfold Lib.decodeN
    rw[if_neg (by omega),if_neg (by omega),if_neg (by omega),if_pos (by omega),if_pos (by omega)]
    congr 1;omega
theorem lS{r:Int}(h:Rune r):fix r=r.toNat:=by
 unfold fix Utf8.valid
 unfold Rune at h
 rw[if_pos (by simp;omega)]
theorem br(c:Int)(l:List Int):encs (c::l)=enc c++encs l:=by simp[encs]
theorem bT(a b:List Int):encs (a++b)=encs a++encs b:=by simp[encs]
theorem dX(c:Int):encs [c]=enc c:=by simp[encs]
theorem xA{a b:List Int}{c:Int}(hc:Rune c):dec (encs a++encs (c::b)) (encs a).length=(c.toNat,(enc c).length):=by
 rw[bR,List.drop_left' rfl,br,eD,lS hc]
theorem ia:∀{l:List Int},(∀c∈l,Rune c)→runesF (encs l)=l
 | [],_=>rfl
 |c::l,h=>by
  have hc:=h c (by simp)
  have hp:=gJ c
  rw[cZ _ (by rw[br];intro e;have h2:=congrArg List.length e;rw[List.length_append]at h2;simp only[List.length_nil]at h2;omega),br,eD,lS hc,List.drop_left' rfl,ia fun x hx=>h x (by simp[hx])]
  unfold Rune at hc
  congr 1
  simp only[]
  omega
def segR:List Int→List Int→List (List Int)→List (List Int)
 | [],w,acc=>if w=[]then acc else acc++[w]
 |c::b,w,acc=>if letR c then segR b (w++[c]) acc else segR b [] (if w=[]then acc else acc++[w])
theorem u9(t:Bs)(x y:Nat):((⟨t.toArray⟩:ByteArray).extract x y).data.toList=(t.take y).drop x:=by
 have hext:(⟨t.toArray⟩:ByteArray).extract x y=⟨((t.take y).drop x).toArray⟩:=by
  apply ByteArray.ext
  simp[List.extract_eq_take_drop,List.drop_take]
 rw[hext]
def AtS(t:Bs)(w:List Int)(x:Nat×Nat):Prop:=(t.take x.2).drop x.1=encs w
def AtSL(t:Bs):List (List Int)→List (Nat×Nat)→Prop
 | [],[]=>True
 |w::l,x::m=>AtS t w x∧AtSL t l m
 |_,_=>False
theorem AtSL.snoc{t:Bs}:∀{l:List (List Int)} {m:List (Nat×Nat)} {w:List Int} {x:Nat×Nat},AtSL t l m→AtS t w x→AtSL t (l++[w]) (m++[x])
 | [],[],_,_,_,h=>⟨h,trivial⟩
 |_::_,_::_,_,_,h,h2=>⟨h.1,AtSL.snoc h.2 h2⟩
 | [],_::_,_,_,h,_=>h.elim
 |_::_,[],_,_,h,_=>h.elim
theorem AtSL.map{t:Bs}:∀{l:List (List Int)} {m:List (Nat×Nat)},AtSL t l m→m.map (fun x=>((⟨t.toArray⟩:ByteArray).extract x.1 x.2).data.toList)=l.map encs
 | [],[],_=>rfl
 |w::l,x::m,h=>by rw[List.map_cons,List.map_cons,AtSL.map h.2,u9,h.1]
 | [],_::_,h=>h.elim
 |_::_,[],h=>h.elim
theorem rG(t:Bs):∀(b a w:List Int) (acc:List (List Int)) (m:List (Nat×Nat)) (f:Nat),(∀c∈b,Rune c)→t=encs (a++w)++encs b→b.length≤f→AtSL t acc m→
  AtSL t (segR b w acc) (Lib.closeSpans ⟨t.toArray⟩ (Lib.spansFromP (fun r=> !letF r) ⟨t.toArray⟩ f (encs (a++w)).length (if w=[]then none else some (encs a).length) m)):=by
 intro b
 induction b with
 |nil=>
  intro a w acc m f _ ht _ hm
  have hsz:(⟨t.toArray⟩:ByteArray).size=(encs (a++w)).length:=by rw[ht];simp[ByteArray.size,encs]
  have hst:Lib.spansFromP (fun r=> !letF r) ⟨t.toArray⟩ f (encs (a++w)).length (if w=[]then none else some (encs a).length) m=(m,if w=[]then none else some (encs a).length):=by
   cases f with
   |zero=>rfl
   |succ f=>unfold Lib.spansFromP;rw[if_neg (by rw[hsz];omega)]
  rw[hst,segR]
  by_cases hw:w=[]
  ·rw[if_pos hw,if_pos hw];exact hm
  ·rw[if_neg hw,if_neg hw]
   unfold Lib.closeSpans
   refine hm.snoc ?_
   unfold AtS
   simp only[hsz]
   rw[ht,List.take_left' rfl,bT,List.drop_left' rfl]
 |cons c b ih=>
  intro a w acc m f hb ht hf hm
  have hc:=hb c (by simp)
  have hp:=gJ c
  have hb':∀x∈b,Rune x:=fun x hx=>hb x (by simp[hx])
  obtain⟨f,rfl⟩:∃g,f=g+1:=⟨f-1,by simp at hf;omega⟩
  have hlt:(encs (a++w)).length<(⟨t.toArray⟩:ByteArray).size:=by rw[ht,br];simp[ByteArray.size];omega
  have hd:Utf8.decode ⟨t.toArray⟩ (encs (a++w)).length=(c.toNat,(enc c).length):=by
   show dec t _=_
   rw[ht];exact xA hc
  unfold Lib.spansFromP
  rw[if_pos hlt,hd,segR]
  have hfl:b.length≤f:=by simp at hf;omega
  cases hl:letR c with
  |true=>
   have hl2:letF c.toNat=true:=hl
   have h1:=ih a (w++[c]) acc m f hb' (by rw[ht,br, ← List.append_assoc, ← List.append_assoc,bT (a++w),dX]) hfl hm
   have hne:¬w++[c]=[]:=by simp
   have hlen:(encs (a++(w++[c]))).length=(encs (a++w)).length+(enc c).length:=by rw[← List.append_assoc,bT,List.length_append,dX]
   rw[if_neg hne,hlen]at h1
   simp only[hl2,Bool.not_true,Bool.false_eq_true,if_false,if_true]
   by_cases hw:w=[]
   ·subst hw;rw[if_pos rfl];simpa using h1
   ·rw[if_neg hw];exact h1
  |false=>
   have hl2:letF c.toNat=false:=hl
   have hlen:(encs ((a++w++[c])++[])).length=(encs (a++w)).length+(enc c).length:=by rw[List.append_nil,bT,List.length_append,dX]
   simp only[hl2,Bool.not_false,if_true,Bool.false_eq_true,if_false]
   by_cases hw:w=[]
   ·have h1:=ih (a++w++[c]) [] acc m f hb' (by rw[List.append_nil,ht,br,bT (a++w),dX,List.append_assoc]) hfl hm
    rw[hlen,if_pos rfl]at h1
    rw[if_pos hw,if_pos hw];exact h1
   ·have hat:AtS t w ((encs a).length,(encs (a++w)).length):=by
     unfold AtS
     simp only[]
     rw[ht,List.take_left' rfl,bT,List.drop_left' rfl]
    have h1:=ih (a++w++[c]) [] (acc++[w]) (m++[((encs a).length,(encs (a++w)).length)]) f hb' (by rw[List.append_nil,ht,br,bT (a++w),dX,List.append_assoc]) hfl (hm.snoc hat)
    rw[hlen,if_pos rfl]at h1
    rw[if_neg hw,if_neg hw];exact h1
theorem pI{l:List Int}(h:∀c∈l,Rune c):fldsF (encs l)=(segR l [] []).map encs:=by
 have h1:=rG (encs l) l [] [] [] [] (⟨(encs l).toArray⟩:ByteArray).size h (by simp[encs]) (by have:=(iC l).2;simp[ByteArray.size];omega) trivial
 unfold fldsF Lib.goFieldsP Lib.spansOfP
 rw[List.map_map]
 exact h1.map
theorem lT:∀(l:List Int) (f n:Nat),(∀c∈l,Rune c)→(encs l).length≤f→n≤32→shN f (encs l) n=(encs (l.take (32-n))).length
 | [],f,n,_,_,_=>by cases f<;>simp[shN,encs]
 |c::l,f,n,h,hf,hn=>by
  have hc:=h c (by simp)
  have hp:=gJ c
  have hl:(encs (c::l)).length=(enc c).length+(encs l).length:=by rw[br,List.length_append]
  obtain⟨f,rfl⟩:∃g,f=g+1:=⟨f-1,by omega⟩
  rw[shN,if_neg (by intro e;rw[e]at hl;simp at hl;omega)]
  by_cases h32:n=32
  ·subst h32;simp[encs]
  ·rw[if_neg h32,br,eD,List.drop_left' rfl]
   simp only[]
   rw[lT l f (n+1) (fun x hx=>h x (by simp[hx])) (by omega) (by omega)]
   obtain⟨k,hk⟩:∃k,32-n=k+1:=⟨31-n,by omega⟩
   rw[hk,show 32-(n+1)=k by omega,List.take_succ_cons,br,List.length_append]
theorem ua{l:List Int}(h:∀c∈l,Rune c):shW (encs l)=encs (l.take 32):=by
 unfold shW
 rw[lT l _ 0 h (Nat.le_refl _) (by omega)]
 have h1:encs l=encs (l.take 32)++encs (l.drop 32):=by rw[← bT,List.take_append_drop]
 rw[show 32-0=32 from rfl]
 conv=>lhs;rw[h1]
 rw[List.take_left' rfl]
def wdsR:List Int→List Int→List Bs→List Bs
 | [],w,out=>if w=[]then out else out++[encs w]
 |c::b,w,out=>if letR c then wdsR b (if w.length<32 then w++[c]else w) out else wdsR b [] (if w=[]then out else out++[encs w])
theorem gg:∀(b w:List Int) (acc:List (List Int)),(∀c∈b,Rune c)→(∀c∈w,Rune c)→(∀v∈acc,∀c∈v,Rune c)→∀v∈segR b w acc,∀c∈v,Rune c
 | [],w,acc,_,hw,ha=>by
  rw[segR];split
  ·exact ha
  ·intro v hv
   rcases List.mem_append.1 hv with hv|hv
   ·exact ha v hv
   ·simp at hv;subst hv;exact hw
 |c::b,w,acc,hb,hw,ha=>by
  have hb':∀x∈b,Rune x:=fun x hx=>hb x (by simp[hx])
  rw[segR];split
  ·exact gg b _ acc hb' (fun x hx=>by
    rcases List.mem_append.1 hx with hx|hx
    ·exact hw x hx
    ·simp at hx;subst hx;exact hb _ (by simp)) ha
  ·refine gg b [] _ hb' (fun x hx=>by cases hx) ?_
   split
   ·exact ha
   ·intro v hv
    rcases List.mem_append.1 hv with hv|hv
    ·exact ha v hv
    ·simp at hv;subst hv;exact hw
theorem gL:∀(b w:List Int) (acc:List (List Int)),wdsR b (w.take 32) (acc.map fun v=>encs (v.take 32))=(segR b w acc).map fun v=>encs (v.take 32)
 | [],w,acc=>by
  rw[wdsR,segR]
  by_cases hw:w=[]
  ·rw[if_pos hw,if_pos (by rw[hw];rfl)]
  ·rw[if_neg hw,if_neg (by intro e;rw[List.take_eq_nil_iff]at e;rcases e with e|e;omega;exact hw e)];simp
 |c::b,w,acc=>by
  rw[wdsR,segR]
  split
  ·rw[← gL b (w++[c]) acc]
   congr 1
   split
   ·rename_i h;rw[List.length_take]at h;rw[List.take_of_length_le (by omega),List.take_of_length_le (by simp;omega)]
   ·rename_i h;rw[List.length_take]at h;rw[List.take_append_of_le_length (by omega)]
  ·by_cases hw:w=[]
   ·rw[if_pos hw,if_pos (by rw[hw];rfl), ← gL b [] acc];rfl
   ·rw[if_neg hw,if_neg (by intro e;rw[List.take_eq_nil_iff]at e;rcases e with e|e;omega;exact hw e), ← gL b [] (acc++[w])]
    simp
theorem fy(s:Bs):wordsF s=wdsR (runesF (foldS s)) [] []:=by
 have hr:∀c∈ (runesF s).map foldR,Rune c:=fun c hc=>by
  obtain⟨x,hx,rfl⟩:=List.mem_map.1 hc
  exact fu (d7 s.length s (Nat.le_refl _) x hx)
 unfold wordsF foldS
 rw[pI hr,ia hr,List.map_map]
 have h1:=gL ((runesF s).map foldR) [] []
 simp only[List.take_nil,List.map_nil]at h1
 rw[h1]
 refine List.map_congr_left fun v hv=>?_
 exact ua (gg _ [] [] hr (fun _ h=>by cases h) (fun _ h=>by cases h) v hv)
end Go.Av
namespace Go.Av
open Go Go.Proofs Go.RowKit
attribute [local irreducible] WP WPl WPix Sat
variable (G:Nat→Option (List AVal))
theorem pJ(s:Bs)(hs:s.length≤1048576)(h:Heap):Sat (CT G) 178 [.str s] h (fun r h'=>∃v,r=.hs h.length v 0 (runesF s).length true∧h'=h++[.row 21 1 v ((runesF s).map runA)]):=by
 refine sb [.tmp 2] (fn:=Tryz.f178) Tryz.func178 ?_
 intro Q hQ
 refine wk trivial ?_
 refine lm (fun nL tL hL=>∃(k v:Nat) (acc:List Int),s.length-k=nL∧h++[.row 21 1 v (acc.map runA)]=hL∧tL 0=.str (s.drop k)∧tL 3=.hs h.length v 0 acc.length true∧k≤s.length∧acc.length≤k∧acc++runesF (s.drop k)=runesF s) ((fun(k v:Nat) (acc:List Int)=>(s.length-k:Nat)) (0) (0) ([])) ?_ ?_
 ·refine⟨_,_,Weak.virt 3 21 1 (by simp) (by omega) (by exact zq trivial),⟨0,0,[],rfl,aC,?_,?_,?_,?_,?_⟩⟩
  all_goals first|exact zq trivial|rfl|omega|trivial|skip
 rintro _ s2 h' ⟨k,v,acc,rfl,rfl,e0,e3,hk,hl,hp⟩ K2 hK2
 simp only[ai,ap,Nat.reduceEqDiff, ↓reduceIte]at e0 e3
 have F:=F2 e0 e3
 refine wk F ?_
 refine cq F (fun c1=>?_) (fun c1=>?_)<;>(try exact c1.elim)<;>(refine wk F ?_)
 ·simp only[List.length_drop]at c1
  have hlt:k<s.length:=by omega
  have hp2:=bg s k hlt
  rw[er s k hlt]at hp
  have hne:s.drop k≠ []:=by intro e;have:=congrArg List.length e;simp at this;omega
  refine(gf G (s.drop k) hne (by simp;omega) _).mono ?_
  rintro r h' ⟨rfl,rfl⟩
  rw[← bR]
  generalize dec s k=d at*
  obtain⟨c,m⟩:=d
  simp only[]at hp hp2 ⊢
  have hsl:m≤(s.drop k).length:=by simp;omega
  have hdd:(s.drop k).drop m=s.drop (k+m):=List.drop_drop ..
  have F:=F3 F hsl hdd
  try refine sq F ?_
  refine wk F ?_
  refine aq F ?_
  try refine sq F ?_
  refine wk F ?_
  refine hK2 _ _ _ (Wkn.refl ⟨k+m,v+1,acc++[(c:Int)],rfl,aC,?_,?_,by omega,by simp;omega,by rw[← hp];simp⟩) (by omega)
  all_goals first|exact zq F|rfl|omega|trivial|skip
 ·simp only[List.length_drop]at c1
  rw[dC s k (by omega),List.append_nil]at hp
  refine wk F ?_
  refine ee hQ F ?_
  subst hp
  exact Fin.whole (by simp) (.hs _ _ _ _ _ (by simp)) ⟨v,rfl,rfl⟩
theorem iD(l:List Int)(hr:∀r∈l,Rune r)(hl:l.length≤1048576){h:Heap}{p v0:Nat}(hg:getRow h p v0=some (21,1,l.map runA)):Sat (CT G) 181 [.hs p v0 0 l.length true] h (fun x h'=>x=.str (l.flatMap enc)∧h'=h):=by
 have hll:(l.map runA).length=l.length:=List.length_map ..
 have hpl:=bu hg
 have hgj:∀j,getRow (h++j) p v0=some (21,1,l.map runA):=fun j=>by rw[bm _ hpl];exact hg
 have hra:∀x,runA x=.int .i32 x:=fun _=>rfl
 have F:=F4 hll hg hgj hra
 refine sb [.tmp 2] (fn:=Tryz.f181) Tryz.func181 ?_
 intro Q hQ
 refine wk F ?_
 refine lm (fun nL tL hL=>∃(k v:Nat) (acc:Bs),l.length-k=nL∧h++[.row 5 1 v (acc.map bytA)]=hL∧tL 3=.hs h.length v 0 acc.length true∧tL 4=.int .i64 k∧k≤l.length∧acc++(l.drop k).flatMap enc=l.flatMap enc∧acc.length≤4*k) ((fun(k v:Nat) (acc:Bs)=>(l.length-k:Nat)) (0) (0) ([])) ?_ ?_
 ·refine⟨_,_,Weak.virt 3 5 1 (by simp) (by omega) (by exact zq F),⟨0,0,[],rfl,aC,?_,?_,?_,?_,?_⟩⟩
  all_goals first|exact zq F|rfl|omega|trivial|skip
 rintro _ s2 h' ⟨k,v,acc,rfl,rfl,e3,e4,hk,hp,hz⟩ K2 hK2
 simp only[ai,ap,Nat.reduceEqDiff, ↓reduceIte]at e3 e4
 have F:=F3 F e3 e4
 refine wk F ?_
 refine cq F (fun hc=>?_) (fun hc=>?_)<;>(try exact hc.elim)
 ·obtain⟨y,hy,hym⟩:=af hc
  rw[aA hy,List.flatMap_cons]at hp
  have he:=dL y
  have hel:((enc y).map bytA).length=(enc y).length:=List.length_map ..
  have c2:k<l.length:=by omega
  have F:=F3 F c2 hy
  refine wk F ?_
  refine kq F (nP G y (hr y hym) _) ?_
  refine aq F ?_
  try refine sq F ?_
  refine wk F ?_
  refine hK2 _ _ _ (Wkn.refl ⟨k+1,v+1,acc++enc y,rfl,aC,?_,?_,by omega,by rw[← hp];simp,by simp;omega⟩) (by omega)
  all_goals first|exact zq F|rfl|omega|trivial|skip
 ·rw[aB hc,List.flatMap_nil,List.append_nil]at hp
  have hb:=ft acc
  have hel:elemsOf (h++[.row 5 1 v (acc.map bytA)]) 1 (.hs h.length v 0 acc.length true)=some (acc.map bytA):=by
   simp[elemsOf,getRow,List.take_of_length_le]
  have F:=F4 F hb hel @i8
  refine wk F ?_
  refine ee hQ F ?_
  rw[← hp]
  exact Fin.plainE (j:=_) rfl (.str _) ⟨rfl,rfl⟩
theorem rH(s:Bs)(hs:s.length≤100000)(h:Heap):Sat (CT G) 179 [.str s] h (fun r h'=>r=.str (foldS s)∧h'=h):=by
 have hll:=bX s.length s (Nat.le_refl _)
 have hrl:=d7 s.length s (Nat.le_refl _)
 have hR:=pJ G s (by omega)
 have hfo:foldS s=((runesF s).map foldR).flatMap enc:=rfl
 rw[hfo]
 generalize runesF s=l at*
 refine sb [.tmp 2] (fn:=Tryz.f179) Tryz.func179 ?_
 intro Q hQ
 refine wk trivial ?_
 refine(hR _).mono ?_
 rintro r h' ⟨v,rfl,rfl⟩
 try refine sq trivial ?_
 refine wk trivial ?_
 refine lm (fun nL tL hL=>∃(k:Nat),l.length-k=nL∧h++[.row 21 1 v (((l.take k).map foldR++l.drop k).map runA)]=hL∧tL 3=.hs h.length v 0 l.length true∧tL 4=.int .i64 k∧k≤l.length) ((fun(k:Nat)=>(l.length-k:Nat)) (0)) ?_ ?_
 ·refine Wkn.refl ⟨0,rfl,by simp,?_,?_,by omega⟩
  all_goals first|exact zq trivial|rfl|omega|trivial|skip
 rintro _ s2 h' ⟨k,rfl,rfl,e3,e4,hk⟩ K2 hK2
 simp only[ai,ap,Nat.reduceEqDiff, ↓reduceIte]at e3 e4
 have F:=F2 e3 e4
 refine wk F ?_
 refine cq F (fun c1=>?_) (fun c1=>?_)<;>(try exact c1.elim)
 ·have c2:k<l.length:=by omega
  obtain⟨y,hy,hym⟩:=af c2
  have hget:((l.take k).map foldR++l.drop k)[k]? =some y:=by
   rw[List.getElem?_append_right (by simp;omega),List.length_map,List.length_take,Nat.min_eq_left (by omega),Nat.sub_self,List.getElem?_drop];simpa using hy
  have hset:(((l.take k).map foldR++l.drop k).map runA).set k (.int .i32 (foldR y))=((l.take (k+1)).map foldR++l.drop (k+1)).map runA:=by
   have h1:(AVal.int .i32 (foldR y))=runA (foldR y):=rfl
   rw[h1, ← List.map_set]
   congr 1
   rw[List.set_append_right _ _ (by simp;omega),List.length_map,List.length_take,Nat.min_eq_left (by omega),Nat.sub_self,aA hy,List.set_cons_zero,List.take_add_one,hy]
   simp
  have hlen:(((l.take k).map foldR++l.drop k).map runA).length=l.length:=by simp;omega
  have hra:∀x,runA x=.int .i32 x:=fun _=>rfl
  generalize (l.take k).map foldR++l.drop k=rw_ at*
  have F:=F7 F c2 @hget @hset @hlen hra @aw
  try refine sq F ?_
  refine wk F ?_
  refine kq F (rF G y (hrl y hym) _) ?_
  refine hK2 _ _ _ (Wkn.refl ⟨k+1,rfl,rfl,?_,?_,by omega⟩) (by omega)
  all_goals first|exact zq F|rfl|omega|trivial|skip
 ·have hk2:k=l.length:=by omega
  subst hk2
  have hfin:(l.take l.length).map foldR++l.drop l.length=l.map foldR:=by rw[List.take_length,List.drop_length,List.append_nil]
  rw[hfin]
  have hg:getRow (h++[.row 21 1 v ((l.map foldR).map runA)]) h.length v=some (21,1,(l.map foldR).map runA):=by simp[getRow]
  have hP:=iD G (l.map foldR) (fun r hr=>by obtain⟨x,hx,rfl⟩:=List.mem_map.1 hr;exact fu (hrl x hx)) (by simp;omega) hg
  rw[List.length_map]at hP
  refine wk F ?_
  refine kq F (hP) ?_
  refine ee hQ F ?_
  exact Fin.plain (.str _) ⟨rfl,rfl⟩
theorem kB(a b:List Bs)(ha:a.length≤1000000)(hb:b.length≤1000000)(h:Heap):Sat (CT G) 182 [.sl 1 (a.map .str),.sl 1 (b.map .str)] h (fun r h'=>r=.bool (decide (a=b))∧h'=h):=by
 have ela:(a.map AVal.str).length=a.length:=List.length_map ..
 have elb:(b.map AVal.str).length=b.length:=List.length_map ..
 have F:=F2 @ela @elb
 refine sb [.tmp 4] (fn:=Tryz.f182) Tryz.func182 ?_
 intro Q hQ
 refine wk F ?_
 refine cq F (fun c0=>?_) (fun c0=>?_)<;>(try exact c0.elim)<;>(refine wk F ?_)
 ·refine ee hQ F ?_
  exact Fin.same (.bool _) ⟨by simp;rintro rfl;omega,rfl⟩
 ·refine lm (fun nL tL hL=>∃(k:Nat),a.length-k=nL∧[]++h=hL∧tL 0=.sl 1 (a.map .str)∧tL 1=.sl 1 (b.map .str)∧tL 5=.int .i64 k∧k≤a.length∧a.take k=b.take k) ((fun(k:Nat)=>(a.length-k:Nat)) (0)) ?_ ?_
  ·refine Wkn.refl ⟨0,rfl,rfl,?_,?_,?_,by omega,by simp⟩
   all_goals first|exact zq F|rfl|omega|trivial|skip
  rintro _ s2 h' ⟨k,rfl,rfl,e0,e1,e5,hk,hp⟩ K2 hK2
  simp only[ai,ap,Nat.reduceEqDiff, ↓reduceIte]at e0 e1 e5
  have F:=F4 F e0 e1 e5
  refine wk F ?_
  refine cq F (fun c1=>?_) (fun c1=>?_)<;>(try exact c1.elim)<;>(refine wk F ?_)
  ·have c2:k<a.length:=by omega
   have c2b:k<b.length:=by omega
   obtain⟨x,hx,_⟩:=af c2
   obtain⟨y,hy,_⟩:=af c2b
   have F:=F5 F c2 @c2b hx hy
   try refine sq F ?_
   refine wk F ?_
   refine cq F (fun c3=>?_) (fun c3=>?_)<;>(try exact c3.elim)<;>(refine wk F ?_)
   ·refine ee hQ F ?_
    exact Fin.same (.bool _) ⟨by
     simp
     rintro rfl
     rw[hx]at hy;cases hy
     simp at c3,rfl⟩
   ·have c4:x=y:=by simpa using c3
    have hp1:a.take (k+1)=b.take (k+1):=by rw[List.take_add_one,List.take_add_one,hx,hy,hp,c4]
    refine hK2 _ _ _ (Wkn.refl ⟨k+1,rfl,rfl,?_,?_,?_,by omega,hp1⟩) (by omega)
    all_goals first|exact zq F|rfl|omega|trivial|skip
  ·rw[List.take_of_length_le (by omega),List.take_of_length_le (by omega)]at hp
   refine ee hQ F ?_
   exact Fin.same (.bool _) ⟨by simp[hp],rfl⟩
theorem uJ(C:Ctx):OrcOk C (fun _ _=>none):=fun f args r g h=>by cases g
theorem vG:isV (.int .i64 (-62135596800)) (callX (CT G) (fun _ _=>none) 1000 100 183 [] [])=true:=by kernel_rfl
theorem xB:isV (.int .i64 253402300799) (callX (CT G) (fun _ _=>none) 1000 100 184 [] [])=true:=by kernel_rfl
theorem ub(hc:GClo (CT G))(n:Int)(h:Heap):Sat (CT G) 133 [.int .i64 n] h (fun r h'=>r=.bool (momF n)∧h'=h):=by
 have h1:=fun h=>Sat.closedV hc (uJ _) 1000 100 rfl rfl (vG G) h
 have h2:=fun h=>Sat.closedV hc (uJ _) 1000 100 rfl rfl (xB G) h
 by_cases k: -62135596800≤n
 ·have k2:decide (n≥ -62135596800)=true:=by simpa using k
  have F:=k2
  refine sb [.tmp 2] (fn:=Tryz.f133) Tryz.func133 ?_
  intro Q hQ
  refine wk F ?_
  refine kq F (h1 _) ?_
  refine kq F (h2 _) ?_
  refine ee hQ F ?_
  exact Fin.same (.bool _) ⟨by simp[momF,k],rfl⟩
 ·have k2:decide (n≥ -62135596800)=false:=by simpa using k
  have F:=k2
  refine sb [.tmp 2] (fn:=Tryz.f133) Tryz.func133 ?_
  intro Q hQ
  refine wk F ?_
  refine kq F (h1 _) ?_
  refine ee hQ F ?_
  exact Fin.same (.bool _) ⟨by simp[momF,k],rfl⟩
end Go.Av
namespace Go.Av
open Go Go.Proofs Go.RowKit
attribute [local irreducible] WP WPl WPix Sat
def sc(Y:Heap)(n:Nat)(s:PS)(m:Nat)(c:CS):Heap:=so (co Y m c) n s
section
variable {Y:Heap} {n m:Nat} {s:PS} {c:CS}
end
variable (G:Nat→Option (List AVal))
section
variable {Y:Heap} {n m:Nat} {s:PS} {c:CS}
end
def lgE(e:Ev):Bool:=decide ((e.s.length:Int)>1000)||(decide ((e.t.length:Int)>1000)||decide ((e.u.length:Int)>1000))
theorem rJ(e:Ev)(h:Heap):Sat (CT G) 25 [e.av] h (fun r h'=>r=.bool (lgE e)∧h'=h):=by
 refine sb [.tmp 2] (fn:=Tryz.f25) Tryz.func25 ?_
 intro Q hQ
 refine wk trivial ?_
 cases k1:decide ((e.s.length:Int)>1000)with
 |true=>
  have F:=k1
  try refine sq F ?_
  refine wk F ?_
  refine ee hQ F ?_
  exact Fin.plain (.bool _) ⟨by simp[lgE,k1],rfl⟩
 |false=>
  cases k2:decide ((e.t.length:Int)>1000)with
  |true=>
   have F:=F2 k1 k2
   try refine sq F ?_
   refine wk F ?_
   refine ee hQ F ?_
   exact Fin.plain (.bool _) ⟨by simp[lgE,k1,k2],rfl⟩
  |false=>
   have F:=F2 k1 k2
   try refine sq F ?_
   refine wk F ?_
   refine ee hQ F ?_
   exact Fin.plain (.bool _) ⟨by simp[lgE,k1,k2],rfl⟩
def lgF(es:List Ev):Bool:=decide ((es.length:Int)>150)||es.any lgE
theorem ji(es:List Ev)(h:Heap):Sat (CT G) 7 [.sl 7 (es.map Ev.av)] h (fun r h'=>r=.bool (lgF es)∧h'=h):=by
 refine sb [.tmp 2] (fn:=Tryz.f7) Tryz.func7 ?_
 intro Q hQ
 refine wk trivial ?_
 have hel:(es.map Ev.av).length=es.length:=List.length_map ..
 have F:=hel
 try refine sq F ?_
 refine cq F (fun c0=>?_) (fun c0=>?_)<;>(try exact c0.elim)<;>(refine wk F ?_)
 ·refine ee hQ F ?_
  exact Fin.same (.bool _) ⟨by simp[lgF];omega,rfl⟩
 ·refine lm (fun nL tL hL=>∃(k:Nat),es.length-k=nL∧[]++h=hL∧tL 0=.sl 7 (es.map Ev.av)∧tL 3=.int .i64 k∧k≤es.length∧(∀e∈es.take k,lgE e=false)) ((fun(k:Nat)=>(es.length-k:Nat)) (0)) ?_ ?_
  ·refine Wkn.refl ⟨0,rfl,rfl,?_,?_,by omega,by simp⟩
   all_goals first|exact zq F|rfl|omega|trivial|skip
  rintro _ s2 h' ⟨k,rfl,rfl,e0,e3,hk,hp⟩ K2 hK2
  simp only[ai,ap,Nat.reduceEqDiff, ↓reduceIte]at e0 e3
  have F:=F3 F e0 e3
  refine wk F ?_
  refine cq F (fun c1=>?_) (fun c1=>?_)<;>(try exact c1.elim)<;>(refine wk F ?_)
  ·have c2:k<es.length:=by omega
   obtain⟨e,he,_⟩:=af c2
   have F:=F3 F c2 he
   try refine sq F ?_
   refine wk F ?_
   refine kq F (rJ G e _) ?_
   refine cq F (fun c3=>?_) (fun c3=>?_)<;>(try exact c3.elim)<;>(refine wk F ?_)
   ·refine ee hQ F ?_
    exact Fin.same (.bool _) ⟨by
     have:es.any lgE=true:=List.any_eq_true.2 ⟨e,List.mem_of_getElem? he,c3⟩
     simp[lgF,this],rfl⟩
   ·have hp1:∀x∈es.take (k+1),lgE x=false:=by
     rw[List.take_add_one,he]
     intro x hx
     simp at hx
     rcases hx with hx|rfl
     ·exact hp x hx
     ·exact c3
    refine hK2 _ _ _ (Wkn.refl ⟨k+1,rfl,rfl,?_,?_,by omega,hp1⟩) (by omega)
    all_goals first|exact zq F|rfl|omega|trivial|skip
  ·rw[List.take_of_length_le (by omega)]at hp
   refine ee hQ F ?_
   exact Fin.same (.bool _) ⟨by
    have:es.any lgE=false:=by rw[List.any_eq_false];intro x hx;rw[hp x hx];simp
    simp[lgF,this];omega,rfl⟩
instance:DecidableEq Ct:=fun x y=>by
 cases x;cases y;simp only[Ct.mk.injEq];exact inferInstance
end Go.Av
namespace Go.Av
open Go Go.Proofs Go.RowKit
attribute [local irreducible] WP WPl WPix Sat
variable (G:Nat→Option (List AVal))
def St.inn(x:St)(id:Int):Int:=((fnd (·.id) x.fo id).map (·.inn)).getD 0
def St.upW(x:St)(u:Int):Nat→Int→Int
 |0,id=>id
 |k+1,id=>if id=u∨id=0 then id else St.upW x u k (x.inn id)
def St.within(x:St)(id u:Int):Bool:=decide (x.upW u 10 id=u)||decide (u=0)
end Go.Av
namespace Go.Av
open Go Go.Proofs Go.RowKit
variable {c:CS} {s:PS}
def chS(fo:ML Int Fo):Nat→Int→Option (List Int)
 |0,id=>if id=0 then some []else none
 |k+1,id=>if id=0 then some []else(chS fo k (((lkM fo id).map (·.inn)).getD 0)).map (id:: ·)
def PS.chn(s:PS)(feed:Int):List Int:=(chS s.fo 7 (((lkM s.fe feed).map (·.inn)).getD 0)).getD []
theorem uc{κ α:Type}[DecidableEq κ]{l:ML κ α}{x:κ}:x∈l.map (·.1)↔(lkM l x).isSome=true:=by
 constructor
 ·intro hm
  cases hq:(lkM l x).isSome with
  |true=>rfl
  |false=>exact(jy hq hm).elim
 ·intro hq
  obtain⟨a,ha⟩:=Option.isSome_iff_exists.1 hq
  obtain⟨n,hn⟩:=gv ha
  exact List.mem_map.2 ⟨_,hn,rfl⟩
def PS.its(s:PS):List It:=s.it.map (·.2.1)
end Go.Av
namespace Go.Av
open Go Go.Proofs Go.RowKit
attribute [local irreducible] WP WPl WPix Sat
variable (G:Nat→Option (List AVal))
theorem ud{h0 H:Heap}{p v e:Nat}{l:List Bs}(hp:h0.length≤p)(hg:getRow H p v=some (e,1,l.map .str)):Frz H h0.length (.hs p v 0 l.length true) (.sl 1 (l.map .str)):=by
 have:=Frz.data (n:=h0.length) (len:=l.length) (room:=true) hp hg (by simp) (fun r hr=>by obtain⟨a,_,rfl⟩:=List.mem_map.1 hr;exact .str _) (fun r hr c hc=>by obtain⟨a,_,rfl⟩:=List.mem_map.1 hr;simp[AVal.cells]at hc;subst hc;rfl)
 simpa using this
end Go.Av
namespace Go.Av
open Go Go.Proofs Go.RowKit
attribute [local irreducible] WP WPl WPix Sat
set_option pp.deepTerms true
set_option pp.maxSteps 200000
variable (G:Nat→Option (List AVal))
theorem fA:∀(b w:List Int) (out:List Bs),(wdsR b w out).length≤out.length+b.length+1
 | [],w,out=>by rw[wdsR];split<;>simp
 |c::b,w,out=>by
  rw[wdsR]
  split
  ·have:=fA b (if w.length<32 then w++[c]else w) out;simp only[List.length_cons];omega
  ·have:=fA b [] (if w=[]then out else out++[encs w])
   have h2:(if w=[]then out else out++[encs w]).length≤out.length+1:=by split<;>simp
   simp only[List.length_cons];omega
theorem jk(s:Bs)(hs:s.length≤20000)(h:Heap):Sat (CT G) 130 [.str s] h (fun r h'=>r=.sl 1 ((wordsF s).map .str)∧h'=h):=by
 have hfl:=di s
 have hR:=kA G (foldS s) (by omega)
 have hrn:=d7 (foldS s).length (foldS s) (Nat.le_refl _)
 have hrl:=bX (foldS s).length (foldS s) (Nat.le_refl _)
 rw[fy]
 generalize runesF (foldS s)=rs at*
 have hel:(rs.map runA).length=rs.length:=List.length_map ..
 have hra:∀x,runA x=.int .i32 x:=fun _=>rfl
 have F:=F2 hel hra
 refine sb [.tmp 2] (fn:=Tryz.f130) Tryz.func130 ?_
 intro Q hQ
 refine wk F ?_
 refine kq F (rH G s (by omega) _) ?_
 refine kq F (hR _) ?_
 refine lm (fun nL tL hL=>∃(i po vo:Nat) (hh:Heap) (out:List Bs) (w:List Int) (x:AVal),rs.length+1-i=nL∧hh=hL∧tL 3=.sl 1 (rs.map runA)∧tL 4=.hs po vo 0 out.length true∧tL 5=x∧tL 6=.int .i64 i∧i≤rs.length+1∧((w=[]∧x=.nil (.slice none 0 0))∨(∃p v,x=.hs p v 0 w.length true∧getRow hh p v=some (21,1,w.map runA)∧h.length≤p∧p≠po))∧getRow hh po vo=some (9,1,out.map .str)∧(FrN h.length h hh∧h.length≤po)∧wdsR (rs.drop i) w out=wdsR rs [] []∧(w.length≤32∧out.length≤i∧(∀c∈w,Rune c)∧(i=rs.length+1→w=[]))) ((fun(i po vo:Nat) (hh:Heap) (out:List Bs) (w:List Int) (x:AVal)=>(rs.length+1-i:Nat)) (0) (h.length) (0) (h++[.row 9 1 0 []]) ([]) ([]) (.nil (.slice none 0 0))) ?_ ?_
 ·refine⟨_,_,Weak.virt 4 9 1 (by simp) (by omega) (by exact zq F),⟨0,h.length,0,h++[.row 9 1 0 []],[],[],.nil (.slice none 0 0),rfl,aC,?_,?_,?_,?_,by omega,.inl ⟨rfl,rfl⟩,by rw[aI _ rfl];rfl,⟨FrN.app _ (by omega) (FrN.refl _ _),by omega⟩,by simp,⟨by simp,by simp,by simp,by simp⟩⟩⟩
  all_goals first|exact zq F|rfl|omega|trivial|skip
 rintro _ s2 h' ⟨i,po,vo,hh,out,w,x,rfl,rfl,e3,e4,e5,e6,hi,hx,hg,hfr,hv,hwl⟩ K2 hK2
 simp only[ai,ap,Nat.reduceEqDiff, ↓reduceIte]at e3 e4 e5 e6
 have F:=F5 F e3 e4 e5 e6
 have hgl:=bu hg
 obtain⟨hw1,hw2,hw3,hw4⟩:=hwl
 obtain⟨hfr,hpo⟩:=hfr
 have hol:(out.map AVal.str).length=out.length:=List.length_map ..
 have hwm:(w.map runA).length=w.length:=List.length_map ..
 have dt:∀i:Decidable True, @decide True i=true:=fun i=>decide_eq_true trivial
 have done0:∀(q:Nat),letR (rs.getD i 0)=false∨rs.length≤i→i≤rs.length→wdsR (rs.drop (i+1)) [] (if w=[]then out else out++[encs w])=wdsR rs [] []:=fun _ hl hle=>by
  rw[← hv]
  rcases Nat.lt_or_ge i rs.length with hlt|hge
  ·obtain⟨y,hy,_⟩:=af hlt
   have hly:letR y=false:=by
    rcases hl with hl|hl
    ·rw[List.getD_eq_getElem?_getD,hy]at hl;exact hl
    ·omega
   rw[aA hy,wdsR]
   simp only[hly,Bool.false_eq_true,if_false]
  ·rw[aB hge,aB (by omega),wdsR,wdsR];simp
 have F:=F4 F hg hol hwm
 try refine sq F ?_
 refine wk F ?_
 refine cq F (fun c1=>?_) (fun c1=>?_)<;>(try exact c1.elim)<;>(refine wk F ?_)
 ·have c2:i≤rs.length:=by omega
  have fin0:True:=trivial
  by_cases c3:i<rs.length
  ·obtain⟨y,hy,hym⟩:=af c3
   have d3:decide (i<rs.length)=true:=by simp;omega
   have hl:=nh G y (hrn y hym)
   have hv2:=hv
   rw[aA hy,wdsR]at hv2
   have hgd:rs.getD i 0=y:=by rw[List.getD_eq_getElem?_getD,hy];rfl
   rw[hgd]at done0
   cases hlt:letR y with
   |true=>
    rw[hlt]at hl hv2
    rw[if_pos rfl]at hv2
    have F:=F4 F hy c3 dt
    try refine sq F ?_
    refine wk F ?_
    refine kq F (hl _) ?_
    rcases hx with⟨rfl,rfl⟩| ⟨p,v,rfl,hgw,hp1,hp2⟩
    ·try refine sq F ?_
     refine wk F ?_
     refine sB (.inl rfl) (by simp(disch:=first|omega| (simp only[go_sem, ↓reduceIte,seval];first|done|omega)|fail) only[go_sem, ↓reduceIte,seval,F];try rfl) (by simp(disch:=first|omega| (simp only[go_sem, ↓reduceIte,seval];first|done|omega)|fail) only[go_sem, ↓reduceIte,seval,F];try rfl) (by simp(disch:=first|omega| (simp only[go_sem, ↓reduceIte,seval];first|done|omega)|fail) only[go_sem, ↓reduceIte,seval,F];try rfl) (by simp(disch:=first|omega| (simp only[go_sem, ↓reduceIte,seval];first|done|omega)|fail) only[go_sem, ↓reduceIte,seval,F];try rfl) (by omega) (by simp only[elemsOf, ↓reduceIte];rfl) ⟨by simp[maxLen],by simp⟩ ?_
     try refine sq F ?_
     refine wk F ?_
     refine hK2 _ _ _ (Wkn.refl ⟨i+1,po,vo,hh++[.row 21 1 0 [runA y]],out,[y],.hs hh.length 0 0 1 true,rfl,aC,?_,?_,?_,?_,by omega,.inr ⟨hh.length,0,rfl,by rw[aI _ rfl];rfl,(by omega),by omega⟩,by rw[bm _ hgl];exact hg,⟨FrN.app _ ((by omega)) hfr,hpo⟩,by simpa using hv2,⟨by simp,by omega,fun c hc=>by simp at hc;subst hc;exact hrn _ hym,by omega⟩⟩) (by omega)
     all_goals first|exact zq F|rfl|omega|trivial|skip
    ·have hpl:=bu hgw
     have F:=F3 F hgw @aw
     try refine sq F ?_
     refine wk F ?_
     refine cq F (fun c4=>?_) (fun c4=>?_)<;>(try exact c4.elim)<;>(refine wk F ?_)
     ·rw[if_pos (by omega)]at hv2
      refine aq F ?_
      try refine sq F ?_
      refine wk F ?_
      refine hK2 _ _ _ (Wkn.refl ⟨i+1,po,vo,hh.set p (.row 21 1 (v+1) ((w++[y]).map runA)),out,w++[y],.hs p (v+1) 0 (w++[y]).length true,rfl,by simp[runA],?_,?_,?_,?_,by omega,.inr ⟨p,v+1,rfl,by rw[gx _ _ _ _ _ hpl,if_pos rfl],hp1,hp2⟩,by rw[cW _ _ hp2];exact hg,⟨FrN.set _ hp1 hfr,hpo⟩,hv2,⟨by simp;omega,by omega,fun c hc=>by rcases List.mem_append.1 hc with hc|hc;exact hw3 c hc;simp at hc;subst hc;exact hrn _ hym,by omega⟩⟩) (by omega)
      all_goals first|exact zq F|rfl|omega|trivial|skip
     ·rw[if_neg (by omega)]at hv2
      refine hK2 _ _ _ (Wkn.refl ⟨i+1,po,vo,hh,out,w,.hs p v 0 w.length true,rfl,rfl,?_,?_,?_,?_,by omega,.inr ⟨p,v,rfl,hgw,hp1,hp2⟩,hg,⟨hfr,hpo⟩,hv2,⟨hw1,by omega,hw3,by omega⟩⟩) (by omega)
      all_goals first|exact zq F|rfl|omega|trivial|skip
   |false=>
    have hd:=done0 0 (.inl hlt) c2
    rw[hlt]at hl
    have F:=F4 F hy c3 dt
    try refine sq F ?_
    refine wk F ?_
    refine kq F (hl _) ?_
    rcases hx with⟨rfl,rfl⟩| ⟨p,v,rfl,hgw,hp1,hp2⟩
    ·rw[if_pos rfl]at hd
     try refine sq F ?_
     refine wk F ?_
     refine cq F (fun c5=>?_) (fun c5=>?_)<;>(try exact c5.elim)<;>(refine wk F ?_)
     refine hK2 _ _ _ (Wkn.refl ⟨i+1,po,vo,hh,out,[],.nil (.slice none 0 0),rfl,rfl,?_,?_,?_,?_,by omega,.inl ⟨rfl,rfl⟩,hg,⟨hfr,hpo⟩,hd,⟨by simp,by omega,by simp,fun _=>rfl⟩⟩) (by omega)
     all_goals first|exact zq F|rfl|omega|trivial|skip
    ·have hpl:=bu hgw
     have hP:=iD G w hw3 (by omega) hgw
     have F:=F3 F hgw @aw
     try refine sq F ?_
     refine wk F ?_
     refine cq F (fun c5=>?_) (fun c5=>?_)<;>(try exact c5.elim)<;>(refine wk F ?_)
     ·have hw0:¬w=[]:=by rintro rfl;simp at c5
      rw[if_neg hw0]at hd
      refine kq F (hP) ?_
      refine aq F ?_
      try refine sq F ?_
      refine wk F ?_
      refine hK2 _ _ _ (Wkn.refl ⟨i+1,po,vo+1,hh.set po (.row 9 1 (vo+1) ((out++[encs w]).map .str)),out++[encs w],[],.nil (.slice none 0 0),rfl,by simp[encs],?_,?_,?_,?_,by omega,.inl ⟨rfl,rfl⟩,by rw[gx _ _ _ _ _ hgl,if_pos rfl],⟨FrN.set _ hpo hfr,hpo⟩,hd,⟨by simp,by simp;omega,by simp,fun _=>rfl⟩⟩) (by omega)
      all_goals first|exact zq F|rfl|omega|trivial|skip
     ·have hw0:w=[]:=by cases w with|nil=>rfl|cons a l=>exfalso;simp only[List.length_cons]at c5;omega
      rw[if_pos hw0]at hd
      subst hw0
      refine hK2 _ _ _ (Wkn.refl ⟨i+1,po,vo,hh,out,[],.hs p v 0 0 true,rfl,rfl,?_,?_,?_,?_,by omega,.inr ⟨p,v,rfl,hgw,hp1,hp2⟩,hg,⟨hfr,hpo⟩,hd,⟨by simp,by omega,by simp,fun _=>rfl⟩⟩) (by omega)
      all_goals first|exact zq F|rfl|omega|trivial|skip
  ·have d3:decide (i<rs.length)=false:=by simp;omega
   have hd:=done0 0 (.inr (by omega)) c2
   have F:=F2 F d3
   try refine sq F ?_
   refine wk F ?_
   rcases hx with⟨rfl,rfl⟩| ⟨p,v,rfl,hgw,hp1,hp2⟩
   ·rw[if_pos rfl]at hd
    try refine sq F ?_
    refine wk F ?_
    refine cq F (fun c5=>?_) (fun c5=>?_)<;>(try exact c5.elim)<;>(refine wk F ?_)
    refine hK2 _ _ _ (Wkn.refl ⟨i+1,po,vo,hh,out,[],.nil (.slice none 0 0),rfl,rfl,?_,?_,?_,?_,by omega,.inl ⟨rfl,rfl⟩,hg,⟨hfr,hpo⟩,hd,⟨by simp,by omega,by simp,fun _=>rfl⟩⟩) (by omega)
    all_goals first|exact zq F|rfl|omega|trivial|skip
   ·have hpl:=bu hgw
    have hP:=iD G w hw3 (by omega) hgw
    have F:=F3 F hgw @aw
    try refine sq F ?_
    refine wk F ?_
    refine cq F (fun c5=>?_) (fun c5=>?_)<;>(try exact c5.elim)<;>(refine wk F ?_)
    ·have hw0:¬w=[]:=by rintro rfl;simp at c5
     rw[if_neg hw0]at hd
     refine kq F (hP) ?_
     refine aq F ?_
     try refine sq F ?_
     refine wk F ?_
     refine hK2 _ _ _ (Wkn.refl ⟨i+1,po,vo+1,hh.set po (.row 9 1 (vo+1) ((out++[encs w]).map .str)),out++[encs w],[],.nil (.slice none 0 0),rfl,by simp[encs],?_,?_,?_,?_,by omega,.inl ⟨rfl,rfl⟩,by rw[gx _ _ _ _ _ hgl,if_pos rfl],⟨FrN.set _ hpo hfr,hpo⟩,hd,⟨by simp,by simp;omega,by simp,fun _=>rfl⟩⟩) (by omega)
     all_goals first|exact zq F|rfl|omega|trivial|skip
    ·have hw0:w=[]:=by cases w with|nil=>rfl|cons a l=>exfalso;simp only[List.length_cons]at c5;omega
     rw[if_pos hw0]at hd
     subst hw0
     refine hK2 _ _ _ (Wkn.refl ⟨i+1,po,vo,hh,out,[],.hs p v 0 0 true,rfl,rfl,?_,?_,?_,?_,by omega,.inr ⟨p,v,rfl,hgw,hp1,hp2⟩,hg,⟨hfr,hpo⟩,hd,⟨by simp,by omega,by simp,fun _=>rfl⟩⟩) (by omega)
     all_goals first|exact zq F|rfl|omega|trivial|skip
 ·have hie:i=rs.length+1:=by omega
  have hwe:=hw4 hie
  subst hwe
  rw[aB (by omega),wdsR,if_pos rfl]at hv
  obtain⟨j,rfl⟩:=hfr.behind (by omega)
  refine ee hQ F ?_
  rw[← hv]
  exact Fin.frz (ud hpo hg) ⟨rfl,rfl⟩
theorem ue(t:Bs)(h:Heap):Sat (CT G) 131 [.str t] h (fun r h'=>r=.bool (L0.tag t)∧h'=h):=by
 have hL:=mX G rightS cleanF (fun t ht h=>pG G t (by omega) h) (fun t ht h=>pH G t (by omega) h) t
 have hu:L0.tag t=((!(t==[])&&textF rightS cleanF t 64)&&isF t):=rfl
 rw[hu]
 cases hl:(!(t==[])&&textF rightS cleanF t 64)with
 |false=>
  rw[hl]at hL
  refine sb [.tmp 2] (fn:=Tryz.f131) Tryz.func131 ?_
  intro Q hQ
  refine wk trivial ?_
  refine kq trivial (hL _) ?_
  refine ee hQ trivial ?_
  exact Fin.same (.bool _) ⟨by simp,rfl⟩
 |true=>
  rw[hl]at hL
  have hlen:t.length≤64:=by
   rw[Bool.and_eq_true]at hl
   have:=hl.2
   unfold textF at this
   rw[Bool.and_eq_true,decide_eq_true_eq]at this
   omega
  have hwl:(wordsF t).length≤1000000:=by
   have h1:=fA (runesF (foldS t)) [] []
   have h2:=bX (foldS t).length (foldS t) (Nat.le_refl _)
   have h3:=di t
   rw[← fy]at h1
   simp only[List.length_nil]at h1
   omega
  have hS:=kB G (wordsF t) [t] hwl (by simp)
  refine sb [.tmp 2] (fn:=Tryz.f131) Tryz.func131 ?_
  intro Q hQ
  refine wk trivial ?_
  refine kq trivial (hL _) ?_
  refine kq trivial (jk G t (by omega) _) ?_
  refine kq trivial (hS _) ?_
  refine ee hQ trivial ?_
  exact Fin.same (.bool _) ⟨by simp[isF],rfl⟩
end Go.Av
namespace Go.Av
open Go Go.Proofs Go.RowKit
theorem dM(s:PS)(id k:Int):(s.hold id k).it=s.it:=by rw[cy]
theorem xF(s:PS)(e:Ev):(s.aft e).it=
  if e.kind=4 then itF s.it ((lkM s.fe e.a).getD Fe.z).id
  else if e.kind=7 then upM s.it s.c3 e.a ⟨e.a,e.b,e.n,e.s,e.t,e.u,false,false,[]⟩
  else if e.kind=8 then upM s.it s.c3 e.a {(lkM s.it e.a).getD It.z with read:=e.n==1}
  else if e.kind=9 then upM s.it s.c3 e.a {(lkM s.it e.a).getD It.z with star:=e.n==1}
  else if e.kind=10 then upM s.it s.c3 e.a {(lkM s.it e.a).getD It.z with tags:=tgF ((lkM s.it e.a).getD It.z).tags e.s e.n}
  else s.it:=by
 unfold PS.aft PS.after
 by_cases k2:e.kind=2
 ·rw[if_pos k2,dM,if_neg (by omega),if_neg (by omega),if_neg (by omega),if_neg (by omega),if_neg (by omega)];rfl
 by_cases k4:e.kind=4
 ·rw[if_neg k2,if_pos k4,if_pos k4,PS.unfeed,dM];rfl
 rw[if_neg k2,if_neg k4,if_neg k4]
 by_cases k5:e.kind=5
 ·rw[if_pos k5,if_neg (by omega),if_neg (by omega),if_neg (by omega),if_neg (by omega)];rfl
 rw[if_neg k5]
 by_cases k6:e.kind=6
 ·rw[if_pos k6,if_neg (by omega),if_neg (by omega),if_neg (by omega),if_neg (by omega)]
  show((s.hold _ _).hold _ _).it=_
  rw[dM,dM]
 rw[if_neg k6]
 by_cases k7:e.kind=7
 ·rw[if_neg (by omega),if_neg (by omega),if_neg (by omega),if_neg (by omega),if_neg (by omega),PS.make,if_neg (by omega),if_neg (by omega),if_pos k7,if_pos k7];rfl
 rw[if_neg k7]
 by_cases k8:e.kind=8
 ·rw[if_pos k8,if_pos k8];rfl
 rw[if_neg k8,if_neg k8]
 by_cases k9:e.kind=9
 ·rw[if_pos k9,if_pos k9];rfl
 rw[if_neg k9,if_neg k9]
 by_cases k10:e.kind=10
 ·rw[if_pos k10,if_pos k10];rfl
 rw[if_neg k10,if_neg k10]
 by_cases k12:e.kind=12
 ·rw[if_pos k12];rfl
 rw[if_neg k12]
 by_cases k13:e.kind=13
 ·rw[if_pos k13]
 rw[if_neg k13,PS.make]
 by_cases k1:e.kind=1
 ·rw[if_pos k1]
  show((((s.upFo e.a _).upNm _ _).hold _ _)).it=_
  rw[dM];rfl
 rw[if_neg k1]
 by_cases k3:e.kind=3
 ·rw[if_pos k3]
  show((((s.upFe e.a _).upPl _ _).hold _ _)).it=_
  rw[dM];rfl
 rw[if_neg k3,if_neg k7]
 split<;>rfl
end Go.Av
namespace Go.Av
open Go Go.Proofs Go.RowKit
variable {s:PS} {e:Ev}
end Go.Av
namespace Go.Av
open Go Go.Proofs Go.RowKit
def sumZ:List Int→Int
 | []=>0
 |a::l=>a+sumZ l
def S2{α:Type}(F:List α)(L:List It)(P:α→It→Bool):Int:=sumZ (F.map fun g=>(L.countP (P g):Int))
variable {s:PS}
def PS.inn(s:PS)(id:Int):Int:=((lkM s.fo id).map (·.inn)).getD 0
end Go.Av
namespace Go.Av
open Go Go.Proofs Go.RowKit
attribute [local irreducible] WP WPl WPix Sat
variable (G:Nat→Option (List AVal))
def PS.step1(s:PS)(e:Ev):PS:=if s.fits true (s.dpt e.b) e then s.aft e else s
theorem cT{s:PS}{e:Ev}(h:L0.ck e=true):s.step L0 e=s.step1 e:=by unfold PS.step PS.step1 PS.ok;rw[h]
theorem fC{e:Ev}(h1:L0.right e=true)(h2:usedE e=e):L0.ck e=true:=by unfold Leaf.ck;rw[h1,h2];simp
section
variable {Y:Heap} {n m:Nat} {s:PS} {c:CS}
end
end Go.Av
