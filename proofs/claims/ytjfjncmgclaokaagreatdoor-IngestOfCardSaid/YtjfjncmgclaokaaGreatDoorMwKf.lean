/- Parts. -/
import Derived.Test.YtjfjncmgclaokaaGreatDoorMwNd
import Derived.Test.YtjfjncmgclaokaaGreatDoorMwEc
import Derived.Test.YtjfjncmgclaokaaGreatDoorMwCm
set_option linter.unusedSimpArgs false
set_option linter.unusedVariables false
set_option linter.unusedSectionVars false
set_option linter.unnecessarySimpa false
set_option maxRecDepth 100000
set_option maxHeartbeats 16000000
namespace Go.Av
open Go Go.Proofs Go.RowKit
section
attribute [local irreducible] WP WPl WPix Sat
variable (G:Nat→Option (List AVal))
def L0:Leaf where
 label:=fun t=> !(t==[])&&textF rightS cleanF t 64
 title:=fun t=>textF rightS cleanF t 256
 link:=fun t=>textF rightS cleanF t 512
 tag:=fun t=>(!(t==[])&&textF rightS cleanF t 64)&&isF t
 query:=fun t=> !(t==[])&&textF rightS cleanF t 512
 moment:=momF
theorem R0(t:Bs)(ht:t.length≤1000)(h:Heap):Sat (CT G) 75 [.str t] h (fun r h'=>r=.bool (rightS t)∧h'=h):=jM G t (by omega) h
theorem C0(t:Bs)(ht:t.length≤1000)(h:Heap):Sat (CT G) 76 [.str t] h (fun r h'=>r=.str (cleanF t)∧h'=h):=eD G t (by omega) h
theorem ur(t:Bs)(h:Heap):Sat (CT G) 213 [.str t] h (fun r h'=>r=.bool (L0.tag t)∧h'=h):=by
 have hL:=j2 G rightS cleanF (R0 G) (C0 G) t;have hu:L0.tag t=((!(t==[])&&textF rightS cleanF t 64)&&isF t):=rfl;rw[hu];cases hl:(!(t==[])&&textF rightS cleanF t 64)with
 |false=>
  rw[hl]at hL;refine sb [.tmp 2] Tryz.func213 ?_;intro Q hQ;refine wk trivial ?_;refine kq trivial (hL _) ?_;refine ee hQ trivial ?_;exact M9 (.bool _) ⟨by simp,rfl⟩
 |true=>
  rw[hl]at hL;have hlen:t.length≤64:=by
   rw[I1]at hl;have:=hl.2;unfold textF at this;rw[I1,I8]at this;omega
  refine sb [.tmp 2] Tryz.func213 ?_;intro Q hQ;refine wk trivial ?_;refine kq trivial (hL _) ?_;refine kq trivial (vE G t (by omega) _) ?_;refine ee hQ trivial ?_;exact M9 (.bool _) ⟨by simp,rfl⟩
theorem qg(e:Ev)(h:Heap):Sat (CT G) 95 [e.av] h (fun r h'=>r=.int .i64 (if L0.ck e then 0 else 140)∧h'=h):=
 nP G L0 e (nS G L0 (j2 G rightS cleanF (R0 G) (C0 G)) (nT G rightS cleanF (R0 G) (C0 G)) (jT G rightS cleanF (R0 G) (C0 G)) (nR G L0 (jT G rightS cleanF (R0 G) (C0 G))) (ur G) (nU G rightS cleanF (R0 G) (C0 G)) (nQ G) e) h
theorem jX(s:PS)(h:s.Inv)(e:Ev){H:Heap}{n:Nat}(hn:n+9≤H.length):Sat (CT G) 28 [.hp (n+8) 0 0 0,e.av] (so H n s) (fun r h'=>r=.bool (s.ok L0 e)∧h'=so H n (s.step L0 e)):=by
 obtain⟨d1,d2⟩:=h.deep e.b;obtain⟨g1,g2⟩:=h.tags e.a;have hl:=(⟨P2 h.l1 (by omega),P2 h.l2 (by omega),P2 h.l3 (by omega),P2 h.l4 (by omega)⟩:s.fo.length≤100∧s.fe.length≤100∧s.it.length≤2000∧s.se.length≤100)
 exact nO G s e (s.ok L0 e) (tgF ((lkM s.it e.a).getD It.z).tags e.s e.n) h.w3 h.w7 h.few (uo h _ _ (by omega))
  (fun n H hn=>qf G s e (L0.ck e) 7 (s.dpt e.b) d1 (by omega) hl (qg G e) (fun n H hn=>(lw G s e.a e.s g1 (by omega) hn).mono fun r h' ⟨hr,hh⟩=>⟨⟨_,hr⟩,hh⟩) hn)
  (fun n H hn=>mR G s e g1 (by omega) hn) hn
theorem lz(es:List Ev)(hl:es.length≤1048576)(h:Heap):Sat (CT G) 20 [.sl 7 (es.map Ev.av)] h (fun r h'=>r=.hp (h.length+8) 0 0 0∧h'=so (h++PS.z.bl h.length) h.length (es.foldl (PS.step L0) PS.z)):=
 qd G es hl PS.Inv (PS.ok L0) (PS.step L0) .z (fun s e _ h=>h.step e) (fun s e _ h n H hn=>jX G s h e hn) h
end
section
theorem eN(s:PS)(id k:Int):(s.hold id k).it=s.it:=by rw[aM]
theorem xc(s:PS)(e:Ev):(s.aft e).it=
  if e.kind=4 then itF s.it ((lkM s.fe e.a).getD Fe.z).id
  else if e.kind=7 then upM s.it s.c3 e.a ⟨e.a,e.b,e.n,e.s,e.t,e.u,false,false,[]⟩
  else if e.kind=8 then upM s.it s.c3 e.a {(lkM s.it e.a).getD It.z with read:=e.n==1}
  else if e.kind=9 then upM s.it s.c3 e.a {(lkM s.it e.a).getD It.z with star:=e.n==1}
  else if e.kind=10 then upM s.it s.c3 e.a {(lkM s.it e.a).getD It.z with tags:=tgF ((lkM s.it e.a).getD It.z).tags e.s e.n}
  else s.it:=by
 unfold PS.aft PS.after;by_cases k2:e.kind=2
 ·rw[I6 k2,eN,I0 (by omega),I0 (by omega),I0 (by omega),I0 (by omega),I0 (by omega)];rfl
 by_cases k4:e.kind=4
 ·rw[I0 k2,I6 k4,I6 k4,PS.unfeed,eN];rfl
 rw[I0 k2,I0 k4,I0 k4];by_cases k5:e.kind=5
 ·rw[I6 k5,I0 (by omega),I0 (by omega),I0 (by omega),I0 (by omega)];rfl
 rw[I0 k5];by_cases k6:e.kind=6
 ·rw[I6 k6,I0 (by omega),I0 (by omega),I0 (by omega),I0 (by omega)];show((s.hold _ _).hold _ _).it=_;rw[eN,eN]
 rw[I0 k6];by_cases k7:e.kind=7
 ·rw[I0 (by omega),I0 (by omega),I0 (by omega),I0 (by omega),I0 (by omega),PS.make,I0 (by omega),I0 (by omega),I6 k7,I6 k7];rfl
 rw[I0 k7];by_cases k8:e.kind=8
 ·rw[I6 k8,I6 k8];rfl
 rw[I0 k8,I0 k8];by_cases k9:e.kind=9
 ·rw[I6 k9,I6 k9];rfl
 rw[I0 k9,I0 k9];by_cases k10:e.kind=10
 ·rw[I6 k10,I6 k10];rfl
 rw[I0 k10,I0 k10];by_cases k12:e.kind=12
 ·rw[I6 k12];rfl
 rw[I0 k12];by_cases k13:e.kind=13
 ·rw[I6 k13]
 rw[I0 k13,PS.make];by_cases k1:e.kind=1
 ·rw[I6 k1];show((((s.upFo e.a _).upNm _ _).hold _ _)).it=_;rw[eN];rfl
 rw[I0 k1];by_cases k3:e.kind=3
 ·rw[I6 k3];show((((s.upFe e.a _).upPl _ _).hold _ _)).it=_;rw[eN];rfl
 rw[I0 k3,I0 k7];split<;>rfl
end
section
attribute [local irreducible] WP WPl WPix Sat
variable (G:Nat→Option (List AVal))
def lgE(e:Ev):Bool:=decide ((e.s.length:Int)>1000)||(decide ((e.t.length:Int)>1000)||decide ((e.u.length:Int)>1000))
theorem nZ(e:Ev)(h:Heap):Sat (CT G) 44 [e.av] h (fun r h'=>r=.bool (lgE e)∧h'=h):=by
 refine sb [.tmp 2] Tryz.func44 ?_;intro Q hQ;refine wk trivial ?_;cases k1:decide ((e.s.length:Int)>1000)with
 |true=>
  have F:=k1;try refine sq F ?_
  refine wk F ?_;refine ee hQ F ?_;exact I2 (.bool _) ⟨by simp[lgE,k1],rfl⟩
 |false=>
  cases k2:decide ((e.t.length:Int)>1000)with
  |true=>
   have F:=F2 k1 k2;(try refine sq F ?_);refine wk F ?_;refine ee hQ F ?_;exact I2 (.bool _) ⟨by simp[lgE,k1,k2],rfl⟩
  |false=>
   have F:=F2 k1 k2;(try refine sq F ?_);refine wk F ?_;refine ee hQ F ?_;exact I2 (.bool _) ⟨by simp[lgE,k1,k2],rfl⟩
def lgF(es:List Ev):Bool:=decide ((es.length:Int)>150)||es.any lgE
theorem jY(es:List Ev)(h:Heap):Sat (CT G) 19 [.sl 7 (es.map Ev.av)] h (fun r h'=>r=.bool (lgF es)∧h'=h):=by
 refine sb [.tmp 2] Tryz.func19 ?_;intro Q hQ;refine wk trivial ?_;have hel:(es.map Ev.av).length=es.length:=I4 ..;have F:=hel;try refine sq F ?_
 refine cq F (fun c0=>?_) (fun c0=>?_)<;>(try exact c0.elim)<;>(refine wk F ?_)
 ·refine ee hQ F ?_;exact M9 (.bool _) ⟨by simp[lgF];omega,rfl⟩
 ·refine lm (fun nL tL hL=>∃(k:Nat),es.length-k=nL∧[]++h=hL∧tL 0=.sl 7 (es.map Ev.av)∧tL 3=.int .i64 k∧k≤es.length∧(∀e∈es.take k,lgE e=false)) ((fun(k:Nat)=>(es.length-k:Nat)) (0)) ?_ ?_
  ·refine I9 ⟨0,rfl,rfl,?_,?_,by omega,by simp⟩;all_goals try exact zZz F
  rintro _ s2 h' ⟨k,rfl,rfl,e0,e3,hk,hp⟩ K2 hK2;simp only[ah,ar,Nat.reduceEqDiff, ↓reduceIte]at e0 e3;have F:=F3 F e0 e3;refine wk F ?_;refine cq F (fun c1=>?_) (fun c1=>?_)<;>(try exact c1.elim)<;>(refine wk F ?_)
  ·have c2:k<es.length:=(by omega);obtain⟨e,he,_⟩:=ac c2;have F:=F3 F c2 he;(try refine sq F ?_);refine wk F ?_;refine kq F (nZ G e _) ?_;refine cq F (fun c3=>?_) (fun c3=>?_)<;>(try exact c3.elim)<;>(refine wk F ?_)
   ·refine ee hQ F ?_;exact M9 (.bool _) ⟨by
     have:es.any lgE=true:=U0.2 ⟨e,J2 he,c3⟩;simp[lgF,this],rfl⟩
   ·have hp1:∀x∈es.take (k+1),lgE x=false:=by
     rw[M8,he];intro x hx;simp at hx;rcases hx with hx|rfl
     ·exact hp x hx
     ·exact c3
    refine hK2 _ _ _ (I9 ⟨k+1,rfl,rfl,?_,?_,by omega,hp1⟩) (by omega);all_goals try exact zZz F
  ·rw[J6 (by omega)]at hp;refine ee hQ F ?_;exact M9 (.bool _) ⟨by
    have:es.any lgE=false:=by rw[U5];intro x hx;rw[hp x hx];simp
    simp[lgF,this];omega,rfl⟩
end
section
attribute [local irreducible] WP WPl WPix Sat
def sc(Y:Heap)(n:Nat)(s:PS)(m:Nat)(c:CS):Heap:=so (co Y m c) n s
section
variable {Y:Heap} {n m:Nat} {s:PS} {c:CS}
end
variable (G:Nat→Option (List AVal))
section
variable {Y:Heap} {n m:Nat} {s:PS} {c:CS}
end
instance:DecidableEq Ct:=fun x y=>by
 cases x;cases y;simp only[Ct.mk.injEq];exact inferInstance
end
section
attribute [local irreducible] WP WPl WPix Sat
variable (G:Nat→Option (List AVal))
def St.inn(x:St)(id:Int):Int:=((fnd (·.id) x.fo id).map (·.inn)).getD 0
def St.upW(x:St)(u:Int):Nat→Int→Int
 |0,id=>id
 |k+1,id=>if id=u∨id=0 then id else St.upW x u k (x.inn id)
def St.within(x:St)(id u:Int):Bool:=decide (x.upW u 10 id=u)||decide (u=0)
def St.has(x:St)(id:Int):Prop:=id=0∨∃f,fnd (·.id) x.fo id=some f
structure St.Up (x:St):Prop where
 fo:∀f∈x.fo,x.has f.inn
 fe:∀f∈x.fe,x.has f.inn
 it:∀t∈x.it,∃f,fnd (·.id) x.fe t.feed=some f
 l1:x.fo.length≤64
 l2:x.fe.length≤64
 l3:x.it.length≤1024
 tg:∀t∈x.it,t.tags.length≤8
end
section
variable {c:CS} {s:PS}
def chS(fo:ML Int Fo):Nat→Int→Option (List Int)
 |0,id=>if id=0 then some []else none
 |k+1,id=>if id=0 then some []else(chS fo k (((lkM fo id).map (·.inn)).getD 0)).map (id:: ·)
def PS.chn(s:PS)(feed:Int):List Int:=(chS s.fo 7 (((lkM s.fe feed).map (·.inn)).getD 0)).getD []
end
section
attribute [local irreducible] WP WPl WPix Sat
variable (G:Nat→Option (List AVal))
theorem jk{h0 H:Heap}{p v e:Nat}{l:List Bs}(hp:h0.length≤p)(hg:getRow H p v=some (e,1,l.map .str)):Frz H h0.length (.hs p v 0 l.length true) (.sl 1 (l.map .str)):=by
 have:=U9 (n:=h0.length) (len:=l.length) (room:=true) hp hg (by simp) (fun r hr=>by obtain⟨a,_,rfl⟩:=J8.1 hr;exact .str _) (fun r hr c hc=>by obtain⟨a,_,rfl⟩:=J8.1 hr;simp[AVal.cells]at hc;subst hc;rfl);simpa using this
theorem si(c:Int)(hc:Rune c)(h:Heap):Sat (CT G) 314 [.int .i32 c] h (fun r h'=>r=.int .i32 (foldR c)∧h'=h):=by
 have c0:0≤c∧c≤1114111:=by unfold Rune at hc;omega
 obtain⟨c1,c2⟩:=c0;have w32:c≤2000→IntKind.i32.wrap (c+32)=c+32:=fun _=>c9 (by omega) (by omega)
 have w80:c≤2000→IntKind.i32.wrap (c+80)=c+80:=fun _=>c9 (by omega) (by omega)
 refine sb [.tmp 2] Tryz.func314 ?_;intro Q hQ;refine wk trivial ?_;repeat' (first
  | (exfalso;omega)
  | (refine cq trivial (fun hx=>?_) (fun hx=>?_)<;>(try exact hx.elim)<;>(refine wk trivial ?_))
  | ((first|refine gq trivial (fun hx=>?_) (fun hx=>?_)|refine pq trivial (fun hx=>?_) (fun hx=>?_))<;>(try exact hx.elim)<;>(try refine sq trivial ?_)<;>(refine wk trivial ?_)))
 all_goals (
  refine ee hQ trivial ?_;exact M9 (.int _ _) ⟨by
   unfold foldR btw;simp only[I1,I8];first
    |rw[I6 (by omega)]
    | (rw[I0 (by omega),I6 (by omega)];first|rfl|rw[w32 (by omega)])
    | (rw[I0 (by omega),I0 (by omega),I6 (by omega)];first|rfl|rw[w80 (by omega)])
    |rw[I0 (by omega),I0 (by omega),I0 (by omega)],rfl⟩)
def letR(c:Int):Bool:=letF c.toNat
theorem o5(c:Int)(hc:Rune c)(h:Heap):Sat (CT G) 290 [.int .i32 c] h (fun r h'=>r=.bool (letR c)∧h'=h):=by
 have c0:0≤c∧c≤1114111:=by unfold Rune at hc;omega
 obtain⟨c1,c2⟩:=c0;refine sb [.tmp 2] Tryz.func290 ?_;intro Q hQ;refine wk trivial ?_;repeat' (first
  | (exfalso;omega)
  | (refine cq trivial (fun hx=>?_) (fun hx=>?_)<;>(try exact hx.elim)<;>(refine wk trivial ?_))
  | ((first|refine gq trivial (fun hx=>?_) (fun hx=>?_)|refine pq trivial (fun hx=>?_) (fun hx=>?_))<;>(try exact hx.elim)<;>(try refine sq trivial ?_)<;>(refine wk trivial ?_)))
 all_goals (
  refine ee hQ trivial ?_;exact M9 (.bool _) ⟨by
    unfold letR letF;congr 1
    symm
    first
     |rw[I6 (by omega)]
     |rw[I0 (by omega)]
    rw[N8];simp only[I1,O2,M4,Bool.or_eq_false_iff,Bool.and_eq_false_iff,I8,decide_eq_false_iff_not,L8,iff_true,iff_false];omega,rfl⟩)
end
section
def segR:List Int→List Int→List (List Int)→List (List Int)
 | [],w,acc=>if w=[]then acc else acc++[w]
 |c::b,w,acc=>if letR c then segR b (w++[c]) acc else segR b [] (if w=[]then acc else acc++[w])
theorem uz(t:Bs)(x y:Nat):((⟨t.toArray⟩:ByteArray).extract x y).data.toList=(t.take y).drop x:=by
 have hext:(⟨t.toArray⟩:ByteArray).extract x y=⟨((t.take y).drop x).toArray⟩:=by
  apply ByteArray.ext
  simp[List.extract_eq_take_drop,List.drop_take]
 rw[hext]
def AtS(t:Bs)(w:List Int)(x:Nat×Nat):Prop:=(t.take x.2).drop x.1=encs w
def AtSL(t:Bs):List (List Int)→List (Nat×Nat)→Prop
 | [],[]=>True
 |w::l,x::m=>AtS t w x∧AtSL t l m
 |_,_=>False
theorem AtSL.snoc{t:Bs}:∀{l:List (List Int)} {m:List (Nat×Nat)} {w:List Int} {x:Nat×Nat},AtSL t l m→AtS t w x→AtSL t (l++[w]) (m++[x])
 | [],[],_,_,_,h=>⟨h,trivial⟩
 |_::_,_::_,_,_,h,h2=>⟨h.1,AtSL.snoc h.2 h2⟩
 | [],_::_,_,_,h,_=>h.elim
 |_::_,[],_,_,h,_=>h.elim
theorem AtSL.map{t:Bs}:∀{l:List (List Int)} {m:List (Nat×Nat)},AtSL t l m→m.map (fun x=>((⟨t.toArray⟩:ByteArray).extract x.1 x.2).data.toList)=l.map encs
 | [],[],_=>rfl
 |w::l,x::m,h=>by rw[L5,L5,AtSL.map h.2,uz,h.1]
 | [],_::_,h=>h.elim
 |_::_,[],h=>h.elim
theorem sj(t:Bs):∀(b a w:List Int) (acc:List (List Int)) (m:List (Nat×Nat)) (f:Nat),(∀c∈b,Rune c)→t=encs (a++w)++encs b→b.length≤f→AtSL t acc m→
  AtSL t (segR b w acc) (Lib.closeSpans ⟨t.toArray⟩ (Lib.spansFromP (fun r=> !letF r) ⟨t.toArray⟩ f (encs (a++w)).length (if w=[]then none else some (encs a).length) m)):=by
 intro b;induction b with
 |nil=>
  intro a w acc m f _ ht _ hm;have hsz:(⟨t.toArray⟩:ByteArray).size=(encs (a++w)).length:=by rw[ht];simp[ByteArray.size,encs]
  have hst:Lib.spansFromP (fun r=> !letF r) ⟨t.toArray⟩ f (encs (a++w)).length (if w=[]then none else some (encs a).length) m=(m,if w=[]then none else some (encs a).length):=by
   cases f with
   |zero=>rfl
   |succ f=>unfold Lib.spansFromP;rw[I0 (by rw[hsz];omega)]
  rw[hst,segR];by_cases hw:w=[]
  ·rw[I6 hw,I6 hw];exact hm
  ·rw[I0 hw,I0 hw];unfold Lib.closeSpans;refine hm.snoc ?_;unfold AtS;simp only[hsz];rw[ht,T6 rfl,cf,List.drop_left' rfl]
 |cons c b ih=>
  intro a w acc m f hb ht hf hm;have hc:=hb c (by simp);have hp:=iK c;have hb':∀x∈b,Rune x:=fun x hx=>hb x (by simp[hx])
  obtain⟨f,rfl⟩:∃g,f=g+1:=⟨f-1,by simp at hf;omega⟩;have hlt:(encs (a++w)).length<(⟨t.toArray⟩:ByteArray).size:=by rw[ht,br];simp[ByteArray.size];omega
  have hd:Utf8.decode ⟨t.toArray⟩ (encs (a++w)).length=(c.toNat,(enc c).length):=by
   show dec t _=_;rw[ht];exact xe hc
  unfold Lib.spansFromP;rw[I6 hlt,hd,segR];have hfl:b.length≤f:=by simp at hf;omega
  cases hl:letR c with
  |true=>
   have hl2:letF c.toNat=true:=hl;have h1:=ih a (w++[c]) acc m f hb' (by rw[ht,br, ← N0, ← N0,cf (a++w),fg]) hfl hm;have hne:¬w++[c]=[]:=(by simp);have hlen:(encs (a++(w++[c]))).length=(encs (a++w)).length+(enc c).length:=(by rw[← N0,cf,J5,fg]);rw[I0 hne,hlen]at h1;simp only[hl2,P1,L8,if_false,if_true];by_cases hw:w=[]
   ·subst hw;rw[I6 rfl];simpa using h1
   ·rw[I0 hw];exact h1
  |false=>
   have hl2:letF c.toNat=false:=hl;have hlen:(encs ((a++w++[c])++[])).length=(encs (a++w)).length+(enc c).length:=(by rw[M6,cf,J5,fg]);simp only[hl2,O5,if_true,L8,if_false];by_cases hw:w=[]
   ·have h1:=ih (a++w++[c]) [] acc m f hb' (by rw[M6,ht,br,cf (a++w),fg,N0]) hfl hm;rw[hlen,I6 rfl]at h1;rw[I6 hw,I6 hw];exact h1
   ·have hat:AtS t w ((encs a).length,(encs (a++w)).length):=by
     unfold AtS;simp only[];rw[ht,T6 rfl,cf,List.drop_left' rfl]
    have h1:=ih (a++w++[c]) [] (acc++[w]) (m++[((encs a).length,(encs (a++w)).length)]) f hb' (by rw[M6,ht,br,cf (a++w),fg,N0]) hfl (hm.snoc hat);rw[hlen,I6 rfl]at h1;rw[I0 hw,I0 hw];exact h1
theorem qk{l:List Int}(h:∀c∈l,Rune c):fldsF (encs l)=(segR l [] []).map encs:=by
 have h1:=sj (encs l) l [] [] [] [] (⟨(encs l).toArray⟩:ByteArray).size h (by simp[encs]) (by have:=(gH l).2;simp[ByteArray.size];omega) trivial;unfold fldsF Lib.goFieldsP Lib.spansOfP;rw[X2];exact h1.map
theorem nb:∀(l:List Int) (f n:Nat),(∀c∈l,Rune c)→(encs l).length≤f→n≤32→shN f (encs l) n=(encs (l.take (32-n))).length
 | [],f,n,_,_,_=>by cases f<;>simp[shN,encs]
 |c::l,f,n,h,hf,hn=>by
  have hc:=h c (by simp);have hp:=iK c;have hl:(encs (c::l)).length=(enc c).length+(encs l).length:=by rw[br,J5]
  obtain⟨f,rfl⟩:∃g,f=g+1:=⟨f-1,by omega⟩;rw[shN,I0 (by intro e;rw[e]at hl;simp at hl;omega)];by_cases h32:n=32
  ·subst h32;simp[encs]
  ·rw[I0 h32,br,fM,List.drop_left' rfl];simp only[];rw[nb l f (n+1) (fun x hx=>h x (by simp[hx])) (by omega) (by omega)];obtain⟨k,hk⟩:∃k,32-n=k+1:=⟨31-n,by omega⟩;rw[hk,show 32-(n+1)=k by omega,M7,br,J5]
theorem uA{l:List Int}(h:∀c∈l,Rune c):shW (encs l)=encs (l.take 32):=by
 unfold shW;rw[nb l _ 0 h (J1 _) (by omega)];have h1:encs l=encs (l.take 32)++encs (l.drop 32):=by rw[← cf,List.take_append_drop]
 rw[show 32-0=32 from rfl]
 conv=>lhs;rw[h1]
 rw[T6 rfl]
def wdsR:List Int→List Int→List Bs→List Bs
 | [],w,out=>if w=[]then out else out++[encs w]
 |c::b,w,out=>if letR c then wdsR b (if w.length<32 then w++[c]else w) out else wdsR b [] (if w=[]then out else out++[encs w])
theorem iB:∀(b w:List Int) (acc:List (List Int)),(∀c∈b,Rune c)→(∀c∈w,Rune c)→(∀v∈acc,∀c∈v,Rune c)→∀v∈segR b w acc,∀c∈v,Rune c
 | [],w,acc,_,hw,ha=>by
  rw[segR];split
  ·exact ha
  ·intro v hv;rcases P6.1 hv with hv|hv
   ·exact ha v hv
   ·simp at hv;subst hv;exact hw
 |c::b,w,acc,hb,hw,ha=>by
  have hb':∀x∈b,Rune x:=fun x hx=>hb x (by simp[hx])
  rw[segR];split
  ·exact iB b _ acc hb' (fun x hx=>by
    rcases P6.1 hx with hx|hx
    ·exact hw x hx
    ·simp at hx;subst hx;exact hb _ (by simp)) ha
  ·refine iB b [] _ hb' (fun x hx=>by cases hx) ?_;split
   ·exact ha
   ·intro v hv;rcases P6.1 hv with hv|hv
    ·exact ha v hv
    ·simp at hv;subst hv;exact hw
theorem iR:∀(b w:List Int) (acc:List (List Int)),wdsR b (w.take 32) (acc.map fun v=>encs (v.take 32))=(segR b w acc).map fun v=>encs (v.take 32)
 | [],w,acc=>by
  rw[wdsR,segR];by_cases hw:w=[]
  ·rw[I6 hw,I6 (by rw[hw];rfl)]
  ·rw[I0 hw,I0 (by intro e;rw[List.take_eq_nil_iff]at e;rcases e with e|e;omega;exact hw e)];simp
 |c::b,w,acc=>by
  rw[wdsR,segR];split
  ·rw[← iR b (w++[c]) acc];congr 1
   split
   ·rename_i h;rw[M2]at h;rw[J6 (by omega),J6 (by simp;omega)]
   ·rename_i h;rw[M2]at h;rw[V0 (by omega)]
  ·by_cases hw:w=[]
   ·rw[I6 hw,I6 (by rw[hw];rfl), ← iR b [] acc];rfl
   ·rw[I0 hw,I0 (by intro e;rw[List.take_eq_nil_iff]at e;rcases e with e|e;omega;exact hw e), ← iR b [] (acc++[w])];simp
theorem kc(s:Bs):wordsF s=wdsR (runesF (foldS s)) [] []:=by
 have hr:∀c∈ (runesF s).map foldR,Rune c:=fun c hc=>by
  obtain⟨x,hx,rfl⟩:=J8.1 hc;exact gL (dI s.length s (J1 _) x hx)
 unfold wordsF foldS;rw[qk hr,j5 hr,X2];have h1:=iR ((runesF s).map foldR) [] [];simp only[List.take_nil,P4]at h1;rw[h1];refine S7 fun v hv=>?_
 exact uA (iB _ [] [] hr (fun _ h=>by cases h) (fun _ h=>by cases h) v hv)
end
section
attribute [local irreducible] WP WPl WPix Sat
variable (G:Nat→Option (List AVal))
theorem ql(s:Bs)(hs:s.length≤1048576)(h:Heap):Sat (CT G) 143 [.str s] h (fun r h'=>∃v,r=.hs h.length v 0 (runesF s).length true∧h'=h++[.row 21 1 v ((runesF s).map runAN)]):=by
 refine sb [.tmp 2] Tryz.func143 ?_;intro Q hQ;refine wk trivial ?_;refine lm (fun nL tL hL=>∃(k v:Nat) (acc:List Int),s.length-k=nL∧h++[.row 21 1 v (acc.map runAN)]=hL∧tL 0=.str (s.drop k)∧tL 3=.hs h.length v 0 acc.length true∧k≤s.length∧acc.length≤k∧acc++runesF (s.drop k)=runesF s) ((fun(k v:Nat) (acc:List Int)=>(s.length-k:Nat)) (0) (0) ([])) ?_ ?_
 ·refine⟨_,_,V3 3 21 1 (by simp) (by omega) (by exact zq trivial),⟨0,0,[],rfl,az,?_,?_,?_,?_,?_⟩⟩;all_goals try exact zZz trivial
 rintro _ s2 h' ⟨k,v,acc,rfl,rfl,e0,e3,hk,hl,hp⟩ K2 hK2;simp only[ah,ar,Nat.reduceEqDiff, ↓reduceIte]at e0 e3;have F:=F2 e0 e3;refine wk F ?_;refine cq F (fun c1=>?_) (fun c1=>?_)<;>(try exact c1.elim)<;>(refine wk F ?_)
 ·simp only[N2]at c1;have hlt:k<s.length:=by omega
  have hp2:=aO s k hlt;rw[fC s k hlt]at hp;have hne:s.drop k≠ []:=by intro e;have:=L9 List.length e;simp at this;omega
  refine(gP G (s.drop k) hne (by simp;omega) _).mono ?_;rintro r h' ⟨rfl,rfl⟩;rw[← bM];generalize dec s k=d at*;obtain⟨c,m⟩:=d;simp only[]at hp hp2 ⊢;have hsl:m≤(s.drop k).length:=by simp;omega
  have hdd:(s.drop k).drop m=s.drop (k+m):=T4 ..;have F:=F3 F hsl hdd;try refine sq F ?_
  refine wk F ?_;refine aq F ?_;try refine sq F ?_
  refine wk F ?_;refine hK2 _ _ _ (I9 ⟨k+m,v+1,acc++[(c:Int)],rfl,az,?_,?_,by omega,by simp;omega,by rw[← hp];simp⟩) (by omega);all_goals try exact zZz F
 ·simp only[N2]at c1;rw[eC s k (by omega),M6]at hp;refine wk F ?_;refine ee hQ F ?_;subst hp;exact Y5 (by simp) (.hs _ _ _ _ _ (by simp)) ⟨v,rfl,rfl⟩
theorem jl(l:List Int)(hr:∀r∈l,Rune r)(hl:l.length≤1048576){h:Heap}{p v0:Nat}(hg:getRow h p v0=some (21,1,l.map runAN)):Sat (CT G) 145 [.hs p v0 0 l.length true] h (fun x h'=>x=.str (l.flatMap enc)∧h'=h):=by
 have hll:(l.map runAN).length=l.length:=I4 ..;have hpl:=bB hg;have hgj:∀j,getRow (h++j) p v0=some (21,1,l.map runAN):=fun j=>by rw[bu _ hpl];exact hg
 have hra:∀x,runAN x=.int .i32 x:=fun _=>rfl
 have F:=F4 hll hg hgj hra;refine sb [.tmp 2] Tryz.func145 ?_;intro Q hQ;refine wk F ?_;refine lm (fun nL tL hL=>∃(k v:Nat) (acc:Bs),l.length-k=nL∧h++[.row 5 1 v (acc.map bytA)]=hL∧tL 3=.hs h.length v 0 acc.length true∧tL 4=.int .i64 k∧k≤l.length∧acc++(l.drop k).flatMap enc=l.flatMap enc∧acc.length≤4*k) ((fun(k v:Nat) (acc:Bs)=>(l.length-k:Nat)) (0) (0) ([])) ?_ ?_
 ·refine⟨_,_,V3 3 5 1 (by simp) (by omega) (by exact zq F),⟨0,0,[],rfl,az,?_,?_,?_,?_,?_⟩⟩;all_goals try exact zZz F
 rintro _ s2 h' ⟨k,v,acc,rfl,rfl,e3,e4,hk,hp,hz⟩ K2 hK2;simp only[ah,ar,Nat.reduceEqDiff, ↓reduceIte]at e3 e4;have F:=F3 F e3 e4;refine wk F ?_;refine cq F (fun hc=>?_) (fun hc=>?_)<;>(try exact hc.elim)
 ·obtain⟨y,hy,hym⟩:=ac hc;rw[aE hy,S8]at hp;have he:=eJ y;have hel:((enc y).map bytA).length=(enc y).length:=I4 ..;have c2:k<l.length:=by omega
  have F:=F3 F c2 hy;refine wk F ?_;refine kq F (mZ G y (hr y hym) _) ?_;refine aq F ?_;try refine sq F ?_
  refine wk F ?_;refine hK2 _ _ _ (I9 ⟨k+1,v+1,acc++enc y,rfl,az,?_,?_,by omega,by rw[← hp];simp,by simp;omega⟩) (by omega);all_goals try exact zZz F
 ·rw[aK hc,List.flatMap_nil,M6]at hp;have hb:=gG acc;have hel:elemsOf (h++[.row 5 1 v (acc.map bytA)]) 1 (.hs h.length v 0 acc.length true)=some (acc.map bytA):=by
   simp[elemsOf,getRow,J6]
  have F:=F4 F hb hel @iz;refine wk F ?_;refine ee hQ F ?_;rw[← hp];exact Fin.plainE (j:=_) rfl (.str _) ⟨rfl,rfl⟩
theorem sk(s:Bs)(hs:s.length≤100000)(h:Heap):Sat (CT G) 289 [.str s] h (fun r h'=>r=.str (foldS s)∧h'=h):=by
 have hll:=cu s.length s (J1 _);have hrl:=dI s.length s (J1 _);have hR:=ql G s (by omega);have hfo:foldS s=((runesF s).map foldR).flatMap enc:=rfl;rw[hfo];generalize runesF s=l at*;refine sb [.tmp 2] Tryz.func289 ?_;intro Q hQ;refine wk trivial ?_;refine(hR _).mono ?_;rintro r h' ⟨v,rfl,rfl⟩;try refine sq trivial ?_
 refine wk trivial ?_;refine lm (fun nL tL hL=>∃(k:Nat),l.length-k=nL∧h++[.row 21 1 v (((l.take k).map foldR++l.drop k).map runAN)]=hL∧tL 3=.hs h.length v 0 l.length true∧tL 4=.int .i64 k∧k≤l.length) ((fun(k:Nat)=>(l.length-k:Nat)) (0)) ?_ ?_
 ·refine I9 ⟨0,rfl,by simp,?_,?_,by omega⟩;all_goals try exact zZz trivial
 rintro _ s2 h' ⟨k,rfl,rfl,e3,e4,hk⟩ K2 hK2;simp only[ah,ar,Nat.reduceEqDiff, ↓reduceIte]at e3 e4;have F:=F2 e3 e4;refine wk F ?_;refine cq F (fun c1=>?_) (fun c1=>?_)<;>(try exact c1.elim)
 ·have c2:k<l.length:=by omega
  obtain⟨y,hy,hym⟩:=ac c2;have hget:((l.take k).map foldR++l.drop k)[k]? =some y:=by
   rw[J4 (by simp;omega),I4,M2,W8 (by omega),Nat.sub_self,N4];simpa using hy
  have hset:(((l.take k).map foldR++l.drop k).map runAN).set k (.int .i32 (foldR y))=((l.take (k+1)).map foldR++l.drop (k+1)).map runAN:=by
   have h1:(AVal.int .i32 (foldR y))=runAN (foldR y):=rfl;rw[h1, ← List.map_set];congr 1
   rw[List.set_append_right _ _ (by simp;omega),I4,M2,W8 (by omega),Nat.sub_self,aE hy,List.set_cons_zero,M8,hy];simp
  have hlen:(((l.take k).map foldR++l.drop k).map runAN).length=l.length:=by simp;omega
  have hra:∀x,runAN x=.int .i32 x:=fun _=>rfl
  generalize (l.take k).map foldR++l.drop k=rw_ at*;have F:=F7 F c2 @hget @hset @hlen hra @ao;try refine sq F ?_
  refine wk F ?_;refine kq F (si G y (hrl y hym) _) ?_;refine hK2 _ _ _ (I9 ⟨k+1,rfl,rfl,?_,?_,by omega⟩) (by omega);all_goals try exact zZz F
 ·have hk2:k=l.length:=by omega
  subst hk2;have hfin:(l.take l.length).map foldR++l.drop l.length=l.map foldR:=by rw[W2,List.drop_length,M6]
  rw[hfin];have hg:getRow (h++[.row 21 1 v ((l.map foldR).map runAN)]) h.length v=some (21,1,(l.map foldR).map runAN):=by simp[getRow]
  have hP:=jl G (l.map foldR) (fun r hr=>by obtain⟨x,hx,rfl⟩:=J8.1 hr;exact gL (hrl x hx)) (by simp;omega) hg;rw[I4]at hP;refine wk F ?_;refine kq F (hP) ?_;refine ee hQ F ?_;exact I2 (.str _) ⟨rfl,rfl⟩
theorem qm(a b:List Bs)(ha:a.length≤1000000)(hb:b.length≤1000000)(h:Heap):Sat (CT G) 244 [.sl 1 (a.map .str),.sl 1 (b.map .str)] h (fun r h'=>r=.bool (decide (a=b))∧h'=h):=by
 have ela:(a.map AVal.str).length=a.length:=I4 ..;have elb:(b.map AVal.str).length=b.length:=I4 ..;have F:=F2 @ela @elb;refine sb [.tmp 4] Tryz.func244 ?_;intro Q hQ;refine wk F ?_;refine cq F (fun c0=>?_) (fun c0=>?_)<;>(try exact c0.elim)<;>(refine wk F ?_)
 ·refine ee hQ F ?_;exact M9 (.bool _) ⟨by simp;rintro rfl;omega,rfl⟩
 ·refine lm (fun nL tL hL=>∃(k:Nat),a.length-k=nL∧[]++h=hL∧tL 0=.sl 1 (a.map .str)∧tL 1=.sl 1 (b.map .str)∧tL 5=.int .i64 k∧k≤a.length∧a.take k=b.take k) ((fun(k:Nat)=>(a.length-k:Nat)) (0)) ?_ ?_
  ·refine I9 ⟨0,rfl,rfl,?_,?_,?_,by omega,by simp⟩;all_goals try exact zZz F
  rintro _ s2 h' ⟨k,rfl,rfl,e0,e1,e5,hk,hp⟩ K2 hK2;simp only[ah,ar,Nat.reduceEqDiff, ↓reduceIte]at e0 e1 e5;have F:=F4 F e0 e1 e5;refine wk F ?_;refine cq F (fun c1=>?_) (fun c1=>?_)<;>(try exact c1.elim)<;>(refine wk F ?_)
  ·have c2:k<a.length:=(by omega);have c2b:k<b.length:=(by omega);obtain⟨x,hx,_⟩:=ac c2;obtain⟨y,hy,_⟩:=ac c2b;have F:=F5 F c2 @c2b hx hy;(try refine sq F ?_);refine wk F ?_;refine cq F (fun c3=>?_) (fun c3=>?_)<;>(try exact c3.elim)<;>(refine wk F ?_)
   ·refine ee hQ F ?_;exact M9 (.bool _) ⟨by
     simp;rintro rfl;rw[hx]at hy;cases hy;simp at c3,rfl⟩
   ·have c4:x=y:=(by simpa using c3);have hp1:a.take (k+1)=b.take (k+1):=(by rw[M8,M8,hx,hy,hp,c4]);refine hK2 _ _ _ (I9 ⟨k+1,rfl,rfl,?_,?_,?_,by omega,hp1⟩) (by omega);all_goals try exact zZz F
  ·rw[J6 (by omega),J6 (by omega)]at hp;refine ee hQ F ?_;exact M9 (.bool _) ⟨by simp[hp],rfl⟩
theorem kQ(n:Int)(h:Heap):Sat (CT G) 194 [.int .i64 n] h (fun r h'=>r=.bool (idF n)∧h'=h):=by
 by_cases k:1≤n
 ·have k2:decide (n≥1)=true:=by simpa using k
  have F:=k2;refine sb [.tmp 2] Tryz.func194 ?_;intro Q hQ;refine wk F ?_;refine ee hQ F ?_;exact M9 (.bool _) ⟨by simp[idF,k],rfl⟩
 ·have k2:decide (n≥1)=false:=by simpa using k
  have F:=k2;refine sb [.tmp 2] Tryz.func194 ?_;intro Q hQ;refine wk F ?_;refine ee hQ F ?_;exact M9 (.bool _) ⟨by simp[idF,k],rfl⟩
theorem nc(y a d:Int)(ds:List Int)(ha:0≤a∧a≤4000000)(hd:1≤d∧d≤31)(hl:ds.length≤11)(hA:∀h,Sat (CT G) 291 [.int .i64 y] h (fun r h'=>r=.int .i64 a∧h'=h))
  (hD:∀(j:Nat) (x:Int),ds[j]? =some x→(0≤x∧x≤31)∧∀h,Sat (CT G) 292 [.int .i64 y,.int .i64 ((j+1:Nat):Int)] h (fun r h'=>r=.int .i64 x∧h'=h))(h:Heap):
  Sat (CT G) 246 [.int .i64 y,.int .i64 ((ds.length+1:Nat):Int),.int .i64 d] h (fun r h'=>r=.int .i64 (a+d-1+ds.sum)∧h'=h):=by
 refine sb [.tmp 6] Tryz.func246 ?_;intro Q hQ;refine wk trivial ?_;refine kq trivial (hA _) ?_;refine lm (fun nL tL hL=>∃(j:Nat) (v:Int),ds.length-j=nL∧h=hL∧tL 7=.int .i64 v∧tL 8=.int .i64 ((j+1:Nat):Int)∧j≤ds.length∧v=a+d-1+(ds.take j).sum∧0≤v∧v≤5000000+31*j) ((fun(j:Nat) (v:Int)=>(ds.length-j:Nat)) (0) (a+d-1)) ?_ ?_
 ·refine I9 ⟨0,a+d-1,rfl,az,?_,?_,by omega,by simp,by omega,by omega⟩;all_goals try exact zZz trivial
 rintro _ s2 h' ⟨j,v,rfl,rfl,e7,e8,hj,hv,h0,h1⟩ K2 hK2;simp only[ah,ar,Nat.reduceEqDiff, ↓reduceIte]at e7 e8;have F:=F2 e7 e8;by_cases c1:j<ds.length
 ·obtain⟨x,hx,_⟩:=ac c1;obtain⟨hb,hD1⟩:=hD j x hx;have q:decide (j+1<ds.length+1)=true:=by simp;omega
  have hs:a+d-1+(ds.take (j+1)).sum=v+x:=by rw[M8,hx,hv];simp;omega
  have F:=F2 F q;try refine sq F ?_
  refine wk F ?_;refine kq F (hD1 _) ?_;refine hK2 _ _ _ (I9 ⟨j+1,v+x,rfl,az,?_,?_,by omega,hs.symm,by omega,by omega⟩) (by omega);all_goals try exact zZz F
 ·have q:decide (j+1<ds.length+1)=false:=by simp;omega
  rw[J6 (by omega)]at hv;have F:=F2 F q;try refine sq F ?_
  refine wk F ?_;refine ee hQ F ?_;rw[hv];exact M9 (.int _ _) ⟨rfl,rfl⟩
theorem ke(y a:Int)(q4 q100 q400:Int)(h4:(y-1).tdiv 4=q4)(h100:(y-1).tdiv 100=q100)(h400:(y-1).tdiv 400=q400)(hy:1≤y∧y≤9999)(hb:0≤q4∧q4≤9999∧0≤q100∧q100≤9999∧0≤q400∧q400≤9999)(e:365*(y-1)+q4-q100+q400=a)(h:Heap):
  Sat (CT G) 291 [.int .i64 y] h (fun r h'=>r=.int .i64 a∧h'=h):=by
 have F:=F3 h4 h100 h400;refine sb [.tmp 2] Tryz.func291 ?_;intro Q hQ;refine wk F ?_;refine ee hQ F ?_;rw[e];exact M9 (.int _ _) ⟨rfl,rfl⟩
theorem qn(h:Heap):Sat (CT G) 315 [.int .i64 9999] h (fun r h'=>r=.bool false∧h'=h):=by
 have h4:(9999:Int).tmod 4=3:=rfl;have h400:(9999:Int).tmod 400=399:=rfl;have F:=F2 h4 h400;refine sb [.tmp 2] Tryz.func315 ?_;intro Q hQ;refine wk F ?_;refine ee hQ F ?_;exact M9 (.bool _) ⟨rfl,rfl⟩
theorem qo(j:Nat)(x:Int)(hx:[31,28,31,30,31,30,31,31,30,31,30][j]? =some x):(0≤x∧x≤31)∧∀h,Sat (CT G) 292 [.int .i64 9999,.int .i64 ((j+1:Nat):Int)] h (fun r h'=>r=.int .i64 x∧h'=h):=by
 have hj:j<11:=(f9.1 hx).1;have dt:∀i:Decidable True, @decide True i=true:=fun i=>by simp
 have df:∀i:Decidable False, @decide False i=false:=fun i=>by simp
 have hm:j=0∨j=1∨j=2∨j=3∨j=4∨j=5∨j=6∨j=7∨j=8∨j=9∨j=10:=by omega
 rcases hm with rfl|rfl|rfl|rfl|rfl|rfl|rfl|rfl|rfl|rfl|rfl;all_goals (
  cases hx;refine⟨by omega,fun h=>?_⟩;have F:=F2 dt df;refine sb [.tmp 4] Tryz.func292 ?_;intro Q hQ;refine wk F ?_;try refine kq F (qn G _) ?_
  refine ee hQ F ?_;exact M9 (.int _ _) ⟨rfl,rfl⟩)
theorem lA(h:Heap):Sat (CT G) 202 [] h (fun r h'=>r=.int .i64 62135596800∧h'=h):=by
 have hd:=nc G 1970 719162 1 [] (by omega) (by omega) (by simp) (ke G 1970 719162 492 19 4 rfl rfl rfl (by omega) (by omega) rfl) (fun j x hx=>by simp at hx);simp only[M0,List.sum_nil]at hd;refine sb [.tmp 0] Tryz.func202 ?_;intro Q hQ;refine wk trivial ?_;refine kq trivial (hd _) ?_;refine ee hQ trivial ?_;exact M9 (.int _ _) ⟨rfl,rfl⟩
theorem qp(h:Heap):Sat (CT G) 146 [] h (fun r h'=>r=.int .i64 (-62135596800)∧h'=h):=by
 refine sb [.tmp 0] Tryz.func146 ?_;intro Q hQ;refine wk trivial ?_;refine kq trivial (lA G _) ?_;refine ee hQ trivial ?_;exact M9 (.int _ _) ⟨rfl,rfl⟩
theorem sm(h:Heap):Sat (CT G) 147 [] h (fun r h'=>r=.int .i64 253402300799∧h'=h):=by
 have hd:=nc G 9999 3651694 31 [31,28,31,30,31,30,31,31,30,31,30] (by omega) (by omega) (by simp) (ke G 9999 3651694 2499 99 24 rfl rfl rfl (by omega) (by omega) rfl) (qo G);have es:([31,28,31,30,31,30,31,31,30,31,30]:List Int).sum=334:=by decide
 simp only[es,I7,M0]at hd;have hM:∀h,Sat (CT G) 203 [.agg [.int .i64 9999,.int .i64 12,.int .i64 31,.int .i64 23,.int .i64 59,.int .i64 59]] h (fun r h'=>r=.int .i64 253402300799∧h'=h):=fun h=>by
  refine sb [.tmp 2] Tryz.func203 ?_;intro Q hQ;refine wk trivial ?_;refine au (hd _) ?_;try refine sq trivial ?_
  refine wk trivial ?_;refine au (lA G _) ?_;try refine sq trivial ?_
  refine wk trivial ?_;refine ee hQ trivial ?_;exact I2 (.int _ _) ⟨rfl,rfl⟩
 refine sb [.tmp 0] Tryz.func147 ?_;intro Q hQ;refine wk trivial ?_;refine kq trivial (hM _) ?_;refine ee hQ trivial ?_;exact M9 (.int _ _) ⟨rfl,rfl⟩
theorem nf(hc:GClo (CT G))(n:Int)(h:Heap):Sat (CT G) 88 [.int .i64 n] h (fun r h'=>r=.bool (momF n)∧h'=h):=by
 have h1:=qp G;have h2:=sm G;by_cases k: -62135596800≤n
 ·have k2:decide (n≥ -62135596800)=true:=by simpa using k
  have F:=k2;refine sb [.tmp 2] Tryz.func88 ?_;intro Q hQ;refine wk F ?_;refine kq F (h1 _) ?_;refine kq F (h2 _) ?_;refine ee hQ F ?_;exact M9 (.bool _) ⟨by simp[momF,k],rfl⟩
 ·have k2:decide (n≥ -62135596800)=false:=by simpa using k
  have F:=k2;refine sb [.tmp 2] Tryz.func88 ?_;intro Q hQ;refine wk F ?_;refine kq F (h1 _) ?_;refine ee hQ F ?_;exact M9 (.bool _) ⟨by simp[momF,k],rfl⟩
end
section
attribute [local irreducible] WP WPl WPix Sat
set_option pp.deepTerms true
set_option pp.maxSteps 200000
variable (G:Nat→Option (List AVal))
theorem jm:∀(b w:List Int) (out:List Bs),(wdsR b w out).length≤out.length+b.length+1
 | [],w,out=>by rw[wdsR];split<;>simp
 |c::b,w,out=>by
  rw[wdsR];split
  ·have:=jm b (if w.length<32 then w++[c]else w) out;simp only[I7];omega
  ·have:=jm b [] (if w=[]then out else out++[encs w]);have h2:(if w=[]then out else out++[encs w]).length≤out.length+1:=(by split<;>simp);simp only[I7];omega
theorem qq(s:Bs)(hs:s.length≤20000)(h:Heap):Sat (CT G) 245 [.str s] h (fun r h'=>r=.sl 1 ((wordsF s).map .str)∧h'=h):=by
 have hfl:=iv s;have hR:=kb G (foldS s) (by omega);have hrn:=dI (foldS s).length (foldS s) (J1 _);have hrl:=cu (foldS s).length (foldS s) (J1 _);rw[kc];generalize runesF (foldS s)=rs at*;have hel:(rs.map runAN).length=rs.length:=I4 ..;have hra:∀x,runAN x=.int .i32 x:=fun _=>rfl
 have F:=F2 hel hra;refine sb [.tmp 2] Tryz.func245 ?_;intro Q hQ;refine wk F ?_;refine kq F (sk G s (by omega) _) ?_;refine kq F (hR _) ?_;refine lm (fun nL tL hL=>∃(i po vo:Nat) (hh:Heap) (out:List Bs) (w:List Int) (x:AVal),rs.length+1-i=nL∧hh=hL∧tL 3=.sl 1 (rs.map runAN)∧tL 4=.hs po vo 0 out.length true∧tL 5=x∧tL 6=.int .i64 i∧i≤rs.length+1∧((w=[]∧x=.nil (.slice none 0 0))∨(∃p v,x=.hs p v 0 w.length true∧getRow hh p v=some (21,1,w.map runAN)∧h.length≤p∧p≠po))∧getRow hh po vo=some (9,1,out.map .str)∧(FrN h.length h hh∧h.length≤po)∧wdsR (rs.drop i) w out=wdsR rs [] []∧(w.length≤32∧out.length≤i∧(∀c∈w,Rune c)∧(i=rs.length+1→w=[]))) ((fun(i po vo:Nat) (hh:Heap) (out:List Bs) (w:List Int) (x:AVal)=>(rs.length+1-i:Nat)) (0) (h.length) (0) (h++[.row 9 1 0 []]) ([]) ([]) (.nil (.slice none 0 0))) ?_ ?_
 ·refine⟨_,_,V3 4 9 1 (by simp) (by omega) (by exact zq F),⟨0,h.length,0,h++[.row 9 1 0 []],[],[],.nil (.slice none 0 0),rfl,az,?_,?_,?_,?_,by omega,.inl ⟨rfl,rfl⟩,by rw[aR _ rfl];rfl,⟨V1 _ (by omega) (U2 _ _),by omega⟩,by simp,⟨by simp,by simp,by simp,by simp⟩⟩⟩;all_goals try exact zZz F
 rintro _ s2 h' ⟨i,po,vo,hh,out,w,x,rfl,rfl,e3,e4,e5,e6,hi,hx,hg,hfr,hv,hwl⟩ K2 hK2;simp only[ah,ar,Nat.reduceEqDiff, ↓reduceIte]at e3 e4 e5 e6;have F:=F5 F e3 e4 e5 e6;have hgl:=bB hg;obtain⟨hw1,hw2,hw3,hw4⟩:=hwl;obtain⟨hfr,hpo⟩:=hfr;have hol:(out.map AVal.str).length=out.length:=I4 ..;have hwm:(w.map runAN).length=w.length:=I4 ..;have dt:∀i:Decidable True, @decide True i=true:=fun i=>J7 trivial
 have done0:∀(q:Nat),letR (rs.getD i 0)=false∨rs.length≤i→i≤rs.length→wdsR (rs.drop (i+1)) [] (if w=[]then out else out++[encs w])=wdsR rs [] []:=fun _ hl hle=>by
  rw[← hv];rcases T9 i rs.length with hlt|hge
  ·obtain⟨y,hy,_⟩:=ac hlt;have hly:letR y=false:=by
    rcases hl with hl|hl
    ·rw[Q9,hy]at hl;exact hl
    ·omega
   rw[aE hy,wdsR];simp only[hly,L8,if_false]
  ·rw[aK hge,aK (by omega),wdsR,wdsR];simp
 have F:=F4 F hg hol hwm;try refine sq F ?_
 refine wk F ?_;refine cq F (fun c1=>?_) (fun c1=>?_)<;>(try exact c1.elim)<;>(refine wk F ?_)
 ·have c2:i≤rs.length:=by omega
  have fin0:True:=trivial;by_cases c3:i<rs.length
  ·obtain⟨y,hy,hym⟩:=ac c3;have d3:decide (i<rs.length)=true:=(by simp;omega);have hl:=o5 G y (hrn y hym);have hv2:=hv;rw[aE hy,wdsR]at hv2;have hgd:rs.getD i 0=y:=(by rw[Q9,hy];rfl);rw[hgd]at done0;cases hlt:letR y with
   |true=>
    rw[hlt]at hl hv2;rw[I6 rfl]at hv2;have F:=F4 F hy c3 dt;(try refine sq F ?_);refine wk F ?_;refine kq F (hl _) ?_;rcases hx with⟨rfl,rfl⟩| ⟨p,v,rfl,hgw,hp1,hp2⟩
    ·(try refine sq F ?_);refine wk F ?_;refine mg (.inl rfl) (by simp(disch:=first|omega| (simp only[go_sem, ↓reduceIte,seval];first|done|omega)|fail) only[go_sem, ↓reduceIte,seval,F];try rfl) (by simp(disch:=first|omega| (simp only[go_sem, ↓reduceIte,seval];first|done|omega)|fail) only[go_sem, ↓reduceIte,seval,F];try rfl) (by simp(disch:=first|omega| (simp only[go_sem, ↓reduceIte,seval];first|done|omega)|fail) only[go_sem, ↓reduceIte,seval,F];try rfl) (by simp(disch:=first|omega| (simp only[go_sem, ↓reduceIte,seval];first|done|omega)|fail) only[go_sem, ↓reduceIte,seval,F];try rfl) (by omega) (by simp only[elemsOf, ↓reduceIte];rfl) ⟨by simp[maxLen],by simp⟩ ?_;(try refine sq F ?_);refine wk F ?_;refine hK2 _ _ _ (I9 ⟨i+1,po,vo,hh++[.row 21 1 0 [runAN y]],out,[y],.hs hh.length 0 0 1 true,rfl,az,?_,?_,?_,?_,by omega,.inr ⟨hh.length,0,rfl,by rw[aR _ rfl];rfl,(by omega),by omega⟩,by rw[bu _ hgl];exact hg,⟨V1 _ ((by omega)) hfr,hpo⟩,by simpa using hv2,⟨by simp,by omega,fun c hc=>by simp at hc;subst hc;exact hrn _ hym,by omega⟩⟩) (by omega);all_goals try exact zZz F
    ·have hpl:=bB hgw;have F:=F3 F hgw @ao;(try refine sq F ?_);refine wk F ?_;refine cq F (fun c4=>?_) (fun c4=>?_)<;>(try exact c4.elim)<;>(refine wk F ?_)
     ·rw[I6 (by omega)]at hv2;refine aq F ?_;(try refine sq F ?_);refine wk F ?_;refine hK2 _ _ _ (I9 ⟨i+1,po,vo,hh.set p (.row 21 1 (v+1) ((w++[y]).map runAN)),out,w++[y],.hs p (v+1) 0 (w++[y]).length true,rfl,by simp[runAN],?_,?_,?_,?_,by omega,.inr ⟨p,v+1,rfl,by rw[bW _ _ _ _ _ hpl,I6 rfl],hp1,hp2⟩,by rw[b9 _ _ hp2];exact hg,⟨U1 _ hp1 hfr,hpo⟩,hv2,⟨by simp;omega,by omega,fun c hc=>by rcases P6.1 hc with hc|hc;exact hw3 c hc;simp at hc;subst hc;exact hrn _ hym,by omega⟩⟩) (by omega);all_goals try exact zZz F
     ·rw[I0 (by omega)]at hv2;refine hK2 _ _ _ (I9 ⟨i+1,po,vo,hh,out,w,.hs p v 0 w.length true,rfl,rfl,?_,?_,?_,?_,by omega,.inr ⟨p,v,rfl,hgw,hp1,hp2⟩,hg,⟨hfr,hpo⟩,hv2,⟨hw1,by omega,hw3,by omega⟩⟩) (by omega);all_goals try exact zZz F
   |false=>
    have hd:=done0 0 (.inl hlt) c2;rw[hlt]at hl;have F:=F4 F hy c3 dt;(try refine sq F ?_);refine wk F ?_;refine kq F (hl _) ?_;rcases hx with⟨rfl,rfl⟩| ⟨p,v,rfl,hgw,hp1,hp2⟩
    ·rw[I6 rfl]at hd;(try refine sq F ?_);refine wk F ?_;refine cq F (fun c5=>?_) (fun c5=>?_)<;>(try exact c5.elim)<;>(refine wk F ?_)
     refine hK2 _ _ _ (I9 ⟨i+1,po,vo,hh,out,[],.nil (.slice none 0 0),rfl,rfl,?_,?_,?_,?_,by omega,.inl ⟨rfl,rfl⟩,hg,⟨hfr,hpo⟩,hd,⟨by simp,by omega,by simp,fun _=>rfl⟩⟩) (by omega);all_goals try exact zZz F
    ·have hpl:=bB hgw;have hP:=jl G w hw3 (by omega) hgw;have F:=F3 F hgw @ao;(try refine sq F ?_);refine wk F ?_;refine cq F (fun c5=>?_) (fun c5=>?_)<;>(try exact c5.elim)<;>(refine wk F ?_)
     ·have hw0:¬w=[]:=(by rintro rfl;simp at c5);rw[I0 hw0]at hd;refine kq F (hP) ?_;refine aq F ?_;(try refine sq F ?_);refine wk F ?_;refine hK2 _ _ _ (I9 ⟨i+1,po,vo+1,hh.set po (.row 9 1 (vo+1) ((out++[encs w]).map .str)),out++[encs w],[],.nil (.slice none 0 0),rfl,by simp[encs],?_,?_,?_,?_,by omega,.inl ⟨rfl,rfl⟩,by rw[bW _ _ _ _ _ hgl,I6 rfl],⟨U1 _ hpo hfr,hpo⟩,hd,⟨by simp,by simp;omega,by simp,fun _=>rfl⟩⟩) (by omega);all_goals try exact zZz F
     ·have hw0:w=[]:=(by cases w with|nil=>rfl|cons a l=>exfalso;simp only[I7]at c5;omega);rw[I6 hw0]at hd;subst hw0;refine hK2 _ _ _ (I9 ⟨i+1,po,vo,hh,out,[],.hs p v 0 0 true,rfl,rfl,?_,?_,?_,?_,by omega,.inr ⟨p,v,rfl,hgw,hp1,hp2⟩,hg,⟨hfr,hpo⟩,hd,⟨by simp,by omega,by simp,fun _=>rfl⟩⟩) (by omega);all_goals try exact zZz F
  ·have d3:decide (i<rs.length)=false:=(by simp;omega);have hd:=done0 0 (.inr (by omega)) c2;have F:=F2 F d3;(try refine sq F ?_);refine wk F ?_;rcases hx with⟨rfl,rfl⟩| ⟨p,v,rfl,hgw,hp1,hp2⟩
   ·rw[I6 rfl]at hd;(try refine sq F ?_);refine wk F ?_;refine cq F (fun c5=>?_) (fun c5=>?_)<;>(try exact c5.elim)<;>(refine wk F ?_)
    refine hK2 _ _ _ (I9 ⟨i+1,po,vo,hh,out,[],.nil (.slice none 0 0),rfl,rfl,?_,?_,?_,?_,by omega,.inl ⟨rfl,rfl⟩,hg,⟨hfr,hpo⟩,hd,⟨by simp,by omega,by simp,fun _=>rfl⟩⟩) (by omega);all_goals try exact zZz F
   ·have hpl:=bB hgw;have hP:=jl G w hw3 (by omega) hgw;have F:=F3 F hgw @ao;(try refine sq F ?_);refine wk F ?_;refine cq F (fun c5=>?_) (fun c5=>?_)<;>(try exact c5.elim)<;>(refine wk F ?_)
    ·have hw0:¬w=[]:=(by rintro rfl;simp at c5);rw[I0 hw0]at hd;refine kq F (hP) ?_;refine aq F ?_;(try refine sq F ?_);refine wk F ?_;refine hK2 _ _ _ (I9 ⟨i+1,po,vo+1,hh.set po (.row 9 1 (vo+1) ((out++[encs w]).map .str)),out++[encs w],[],.nil (.slice none 0 0),rfl,by simp[encs],?_,?_,?_,?_,by omega,.inl ⟨rfl,rfl⟩,by rw[bW _ _ _ _ _ hgl,I6 rfl],⟨U1 _ hpo hfr,hpo⟩,hd,⟨by simp,by simp;omega,by simp,fun _=>rfl⟩⟩) (by omega);all_goals try exact zZz F
    ·have hw0:w=[]:=(by cases w with|nil=>rfl|cons a l=>exfalso;simp only[I7]at c5;omega);rw[I6 hw0]at hd;subst hw0;refine hK2 _ _ _ (I9 ⟨i+1,po,vo,hh,out,[],.hs p v 0 0 true,rfl,rfl,?_,?_,?_,?_,by omega,.inr ⟨p,v,rfl,hgw,hp1,hp2⟩,hg,⟨hfr,hpo⟩,hd,⟨by simp,by omega,by simp,fun _=>rfl⟩⟩) (by omega);all_goals try exact zZz F
 ·have hie:i=rs.length+1:=by omega
  have hwe:=hw4 hie;subst hwe;rw[aK (by omega),wdsR,I6 rfl]at hv;obtain⟨j,rfl⟩:=hfr.behind (by omega);refine ee hQ F ?_;rw[← hv];exact X1 (jk hpo hg) ⟨rfl,rfl⟩
theorem uB(t:Bs)(h:Heap):Sat (CT G) 198 [.str t] h (fun r h'=>r=.bool (L0.tag t)∧h'=h):=by
 have hL:=j3 G rightS cleanF (fun t ht h=>fO G t (by omega) h) (fun t ht h=>fP G t (by omega) h) t;have hu:L0.tag t=((!(t==[])&&textF rightS cleanF t 64)&&isF t):=rfl;rw[hu];cases hl:(!(t==[])&&textF rightS cleanF t 64)with
 |false=>
  rw[hl]at hL;refine sb [.tmp 2] Tryz.func198 ?_;intro Q hQ;refine wk trivial ?_;refine kq trivial (hL _) ?_;refine ee hQ trivial ?_;exact M9 (.bool _) ⟨by simp,rfl⟩
 |true=>
  rw[hl]at hL;have hlen:t.length≤64:=by
   rw[I1]at hl;have:=hl.2;unfold textF at this;rw[I1,I8]at this;omega
  have hwl:(wordsF t).length≤1000000:=by
   have h1:=jm (runesF (foldS t)) [] [];have h2:=cu (foldS t).length (foldS t) (J1 _);have h3:=iv t;rw[← kc]at h1;simp only[M0]at h1;omega
  have hS:=qm G (wordsF t) [t] hwl (by simp);refine sb [.tmp 2] Tryz.func198 ?_;intro Q hQ;refine wk trivial ?_;refine kq trivial (hL _) ?_;refine kq trivial (qq G t (by omega) _) ?_;refine kq trivial (hS _) ?_;refine ee hQ trivial ?_;exact M9 (.bool _) ⟨by simp[isF],rfl⟩
end
section
attribute [local irreducible] WP WPl WPix Sat
@[go_sem] theorem Cj(h:Heap)(k a b n k' a' b' n':Int)(s t u s' t' u':Bs):abin Tryz.prog h .eql 57 (.agg [.int .i64 k,.int .i64 a,.int .i64 b,.int .i64 n,.str s,.str t,.str u]) (.agg [.int .i64 k',.int .i64 a',.int .i64 b',.int .i64 n',.str s',.str t',.str u'])=
  some (.bool (decide (Ev.mk k a b n s t u=Ev.mk k' a' b' n' s' t' u'))):=by
 simp only[abin,go_sem,aeqL,aeq1, ↓reduceIte,O6,K8,AVal.bool.injEq,Ev.mk.injEq];rw[N8];simp
variable (G:Nat→Option (List AVal))
section
theorem R5(t:Bs)(ht:t.length≤1000)(h:Heap):Sat (CT G) 86 [.str t] h (fun r h'=>r=.bool (rightS t)∧h'=h):=fO G t (by omega) h
theorem C5(t:Bs)(ht:t.length≤1000)(h:Heap):Sat (CT G) 87 [.str t] h (fun r h'=>r=.str (cleanF t)∧h'=h):=fP G t (by omega) h
theorem xf(t:Bs)(h:Heap):Sat (CT G) 195 [.str t] h (fun r h'=>r=.bool (L0.label t)∧h'=h):=j3 G rightS cleanF (R5 G) (C5 G) t h
theorem uC(t:Bs)(h:Heap):Sat (CT G) 197 [.str t] h (fun r h'=>r=.bool (L0.title t)∧h'=h):=nV G rightS cleanF (R5 G) (C5 G) t h
theorem uD(t:Bs)(h:Heap):Sat (CT G) 196 [.str t] h (fun r h'=>r=.bool (L0.link t)∧h'=h):=q6 G rightS cleanF (R5 G) (C5 G) t h
theorem E8(t:Bs)(h:Heap):Sat (CT G) 199 [.str t] h (fun r h'=>r=.bool (L0.query t)∧h'=h):=nW G rightS cleanF (R5 G) (C5 G) t h
theorem xg(hc:GClo (CT G))(n:Int)(h:Heap):Sat (CT G) 88 [.int .i64 n] h (fun r h'=>r=.bool (L0.moment n)∧h'=h):=nf G hc n h
end
theorem Hb(a b c d e:Bool):a=false∨(a=true∧b=false)∨(a=true∧b=true∧c=false)∨(a=true∧b=true∧c=true∧d=false)∨(a=true∧b=true∧c=true∧d=true∧e=false)∨(a=true∧b=true∧c=true∧d=true∧e=true):=by cases a<;>cases b<;>cases c<;>cases d<;>cases e<;>simp
theorem two(x:Bool):x=true∨x=false:=by cases x<;>simp
theorem HJ(x y:Bool):x=true∨(x=false∧y=true)∨(x=false∧y=false):=by cases x<;>cases y<;>simp
theorem ng(a:Bool):a=false∨a=true:=by cases a<;>simp
theorem uX(a b:Bool):a=false∨(a=true∧b=false)∨(a=true∧b=true):=by cases a<;>cases b<;>simp
theorem su(a b c:Bool):a=false∨(a=true∧b=false)∨(a=true∧b=true∧c=false)∨(a=true∧b=true∧c=true):=by cases a<;>cases b<;>cases c<;>simp
theorem Hc(a b c d:Bool):a=false∨(a=true∧b=false)∨(a=true∧b=true∧c=false)∨(a=true∧b=true∧c=true∧d=false)∨(a=true∧b=true∧c=true∧d=true):=by cases a<;>cases b<;>cases c<;>cases d<;>simp
theorem Hd(a b c d e f g:Bool):a=false∨(a=true∧b=false)∨(a=true∧b=true∧c=false)∨(a=true∧b=true∧c=true∧d=false)∨(a=true∧b=true∧c=true∧d=true∧e=false)∨(a=true∧b=true∧c=true∧d=true∧e=true∧f=false)∨
  (a=true∧b=true∧c=true∧d=true∧e=true∧f=true∧g=false)∨(a=true∧b=true∧c=true∧d=true∧e=true∧f=true∧g=true):=by cases a<;>cases b<;>cases c<;>cases d<;>cases e<;>cases f<;>cases g<;>simp
theorem qr(hc:GClo (CT G))(e:Ev)(h:Heap):Sat (CT G) 133 [e.av] h (fun r h'=>r=.bool (L0.ck e)∧h'=h):=by
 obtain⟨k,a,b,n,s,t,u⟩:=e;refine sb [.tmp 2] Tryz.func133 ?_;intro Q hQ;(repeat (first|refine w1 (fun K hK=>?_)|refine w2 ?_|refine w3 ?_| ((first|refine w4 ?_|refine wD ?_|refine w5 ?_|refine w6 ?_|refine w7 ?_);try refine sq trivial ?_)| (refine w8 ?_;refine sq trivial ?_;refine w9 ?_)))
 refine hK _ _ (I9 ?_);clear hK K;(repeat (first|refine w1 (fun K hK=>?_)|refine w2 ?_|refine w3 ?_| ((first|refine w4 ?_|refine wD ?_|refine w5 ?_|refine w6 ?_|refine w7 ?_);try refine sq trivial ?_)| (refine w8 ?_;refine sq trivial ?_;refine w9 ?_)))
 refine hK _ _ (I9 ?_);clear hK K;(repeat (first|refine w1 (fun K hK=>?_)|refine w2 ?_|refine w3 ?_| ((first|refine w4 ?_|refine wD ?_|refine w5 ?_|refine w6 ?_|refine w7 ?_);try refine sq trivial ?_)| (refine w8 ?_;refine sq trivial ?_;refine w9 ?_)))
 refine(kQ G a _).mono ?_;rintro r h' ⟨rfl,rfl⟩;try refine sq trivial ?_
 (repeat (first|refine w1 (fun K hK=>?_)|refine w2 ?_|refine w3 ?_| ((first|refine w4 ?_|refine wD ?_|refine w5 ?_|refine w6 ?_|refine w7 ?_);try refine sq trivial ?_)| (refine w8 ?_;refine sq trivial ?_;refine w9 ?_)| ((first|refine hK _ _ (w0 ?_)| (clear hK K;refine hK _ _ (w0 ?_))| (clear hK K;clear hK K;refine hK _ _ (w0 ?_)));clear hK K)))
 generalize hH:h++[.row 57 7 0 [.agg [.int .i64 k,.int .i64 a,.int .i64 b,.int .i64 n,.str s,.str t,.str u]],.row 57 7 0 [.agg [.int .i64 k,.int .i64 a,.int .i64 0,.int .i64 0,.str [],.str [],.str []]]]=H;have key:∀(T:Env) (x:Bool),T 1=.hp h.length 0 0 0→T 3=.hp (h.length+1) 0 0 0→T 4=.bool (idF a)→T 5=.bool x→x=(n==0||n==1)→K T H:=by
  subst hH;intro T x e1 e3 e4 e5 hx;subst hx;have F:=F4 e1 e3 e4 e5;refine hK _ _ (I9 ?_);clear hK K;(repeat (first|refine w1 (fun K hK=>?_)|refine w2 ?_|refine w3 ?_| ((first|refine w4 ?_|refine wD ?_|refine w5 ?_|refine w6 ?_|refine w7 ?_);try refine sq F ?_)| (refine w8 ?_;refine sq F ?_;refine w9 ?_)))
  generalize hH:h++[.row 57 7 0 [.agg [.int .i64 k,.int .i64 a,.int .i64 b,.int .i64 n,.str s,.str t,.str u]],.row 57 7 0 [.agg [.int .i64 k,.int .i64 a,.int .i64 0,.int .i64 0,.str [],.str [],.str []]]]=H;have key:∀(T:Env) (x:Bool),T 1=.hp h.length 0 0 0→T 3=.hp (h.length+1) 0 0 0→T 4=.bool (idF a)→T 5=.bool (n==0||n==1)→T 6=.bool x→x=(b==0||idF b)→K T H:=by
   subst hH;intro T x e1 e3 e4 e5 e6 hx;subst hx;by_cases k1:k=1
   ·subst k1;have ht:=su (idF a) (b==0||idF b) (L0.label s);rcases ht with ht|ht|ht|ht;all_goals (
     have F:=F7 F e1 e3 e4 e5 e6 ht;refine hK _ _ (I9 ?_);clear hK K;refine wn F ?_
     skip
     refine aA 6 [5] [true,true,true,true,true,false] (.one 5 [false,false,true,true] .fin) (by decide+kernel) (by kernel_rfl) (by decide+kernel) ?_;simp only[aC,aD,aB];(try refine sq F ?_);repeat' ((first|refine ai ?_|refine aj ?_|refine ak ?_ ?_)<;>try refine sq F ?_)
     all_goals try (repeat (first|refine w1 (fun K hK=>?_)|refine w2 ?_|refine w3 ?_| ((first|refine w4 ?_|refine w5 ?_|refine w6 ?_|refine w7 ?_);try refine sq F ?_)| (refine w8 ?_;refine sq F ?_;refine w9 ?_)| ((first|refine hK _ _ (w0 ?_)| (clear hK K;refine hK _ _ (w0 ?_))| (clear hK K;clear hK K;refine hK _ _ (w0 ?_)));clear hK K)))
     skip
     (try refine wk F ?_);repeat (first|refine kq F (xf G s _) ?_)
     refine ee hQ F ?_;refine I2 (.bool _) ⟨?_,rfl⟩;simp[Leaf.ck,Leaf.right,Leaf.place,usedE,ht])
   by_cases k2:k=2
   ·subst k2;have ht:=ng (idF a);rcases ht with ht|ht;all_goals (
     have F:=F7 F e1 e3 e4 e5 e6 ht;refine hK _ _ (I9 ?_);clear hK K;refine wk F ?_;refine ee hQ F ?_;refine I2 (.bool _) ⟨?_,rfl⟩;simp[Leaf.ck,Leaf.right,Leaf.place,usedE,ht])
   by_cases k3:k=3
   ·subst k3;have ht:=Hb (idF a) (b==0||idF b) (!(s==[])) (L0.link s) (L0.title t);rcases ht with ht|ht|ht|ht|ht|ht;all_goals (
     have F:=F7 F e1 e3 e4 e5 e6 ht;refine hK _ _ (I9 ?_);clear hK K;refine wn F ?_
     skip
     refine aA 10 [7,9] [true,true,true,true,true,true,true,false,true,false] (.one 7 [false,false,true,true,true,true,false,false,true] (.one 9 [false,false,false,false,true,true] .fin)) (by decide+kernel) (by kernel_rfl) (by decide+kernel) ?_;simp only[aC,aD,aB];(try refine sq F ?_);repeat' ((first|refine ai ?_|refine aj ?_|refine ak ?_ ?_)<;>try refine sq F ?_)
     all_goals try (repeat (first|refine w1 (fun K hK=>?_)|refine w2 ?_|refine w3 ?_| ((first|refine w4 ?_|refine w5 ?_|refine w6 ?_|refine w7 ?_);try refine sq F ?_)| (refine w8 ?_;refine sq F ?_;refine w9 ?_)| ((first|refine hK _ _ (w0 ?_)| (clear hK K;refine hK _ _ (w0 ?_))| (clear hK K;clear hK K;refine hK _ _ (w0 ?_)));clear hK K)))
     skip
     (try refine wk F ?_);repeat (first|refine kq F (uD G s _) ?_|refine kq F (uC G t _) ?_)
     refine ee hQ F ?_;refine I2 (.bool _) ⟨?_,rfl⟩;first| (simp[Leaf.ck,Leaf.right,Leaf.place,usedE,ht];done)| (simp at ht;simp[Leaf.ck,Leaf.right,Leaf.place,usedE,ht]))
   by_cases k4:k=4
   ·subst k4;have ht:=ng (idF a);rcases ht with ht|ht;all_goals (
     have F:=F7 F e1 e3 e4 e5 e6 ht;refine hK _ _ (I9 ?_);clear hK K;refine wk F ?_;refine ee hQ F ?_;refine I2 (.bool _) ⟨?_,rfl⟩;simp[Leaf.ck,Leaf.right,Leaf.place,usedE,ht])
   by_cases k5:k=5
   ·subst k5;have ht:=uX (idF a) (L0.title t);rcases ht with ht|ht|ht;all_goals (
     have F:=F7 F e1 e3 e4 e5 e6 ht;refine hK _ _ (I9 ?_);clear hK K;refine wk F ?_;repeat (first|refine kq F (uC G t _) ?_)
     refine ee hQ F ?_;refine I2 (.bool _) ⟨?_,rfl⟩;simp[Leaf.ck,Leaf.right,Leaf.place,usedE,ht])
   by_cases k6:k=6
   ·subst k6;have ht:=uX (idF a) (b==0||idF b);rcases ht with ht|ht|ht;all_goals (
     have F:=F7 F e1 e3 e4 e5 e6 ht;refine hK _ _ (I9 ?_);clear hK K;refine wk F ?_;refine ee hQ F ?_;refine I2 (.bool _) ⟨?_,rfl⟩;simp[Leaf.ck,Leaf.right,Leaf.place,usedE,ht])
   by_cases k7:k=7
   ·subst k7;have ht:=Hd (idF a) (idF b) (L0.moment n) (!(s==[])) (L0.link s) (L0.title t) (L0.link u);rcases ht with ht|ht|ht|ht|ht|ht|ht|ht;all_goals (
     have F:=F7 F e1 e3 e4 e5 e6 ht;refine hK _ _ (I9 ?_);clear hK K;refine wk F ?_;repeat (first|refine kq F (kQ G b _) ?_|refine kq F (xg G hc n _) ?_|refine kq F (uD G s _) ?_|refine kq F (uC G t _) ?_|refine kq F (uD G u _) ?_)
     refine ee hQ F ?_;refine I2 (.bool _) ⟨?_,rfl⟩;first| (simp[Leaf.ck,Leaf.right,Leaf.place,usedE,ht];done)| (simp at ht;simp[Leaf.ck,Leaf.right,Leaf.place,usedE,ht]))
   by_cases k8:k=8
   ·subst k8;have ht:=uX (idF a) (n==0||n==1);rcases ht with ht|ht|ht;all_goals (
     have F:=F7 F e1 e3 e4 e5 e6 ht;refine hK _ _ (I9 ?_);clear hK K;refine wk F ?_;refine ee hQ F ?_;refine I2 (.bool _) ⟨?_,rfl⟩;simp[Leaf.ck,Leaf.right,Leaf.place,usedE,ht])
   by_cases k9:k=9
   ·subst k9;have ht:=uX (idF a) (n==0||n==1);rcases ht with ht|ht|ht;all_goals (
     have F:=F7 F e1 e3 e4 e5 e6 ht;refine hK _ _ (I9 ?_);clear hK K;refine wk F ?_;refine ee hQ F ?_;refine I2 (.bool _) ⟨?_,rfl⟩;simp[Leaf.ck,Leaf.right,Leaf.place,usedE,ht])
   by_cases k10:k=10
   ·subst k10;have ht:=su (idF a) (n==0||n==1) (L0.tag s);rcases ht with ht|ht|ht|ht;all_goals (
     have F:=F7 F e1 e3 e4 e5 e6 ht;refine hK _ _ (I9 ?_);clear hK K;refine wn F ?_
     skip
     refine aA 6 [5] [true,true,true,true,true,false] (.one 5 [false,false,true,true] .fin) (by decide+kernel) (by kernel_rfl) (by decide+kernel) ?_;simp only[aC,aD,aB];(try refine sq F ?_);repeat' ((first|refine ai ?_|refine aj ?_|refine ak ?_ ?_)<;>try refine sq F ?_)
     all_goals try (repeat (first|refine w1 (fun K hK=>?_)|refine w2 ?_|refine w3 ?_| ((first|refine w4 ?_|refine w5 ?_|refine w6 ?_|refine w7 ?_);try refine sq F ?_)| (refine w8 ?_;refine sq F ?_;refine w9 ?_)| ((first|refine hK _ _ (w0 ?_)| (clear hK K;refine hK _ _ (w0 ?_))| (clear hK K;clear hK K;refine hK _ _ (w0 ?_)));clear hK K)))
     skip
     (try refine wk F ?_);repeat (first|refine kq F (uB G s _) ?_)
     refine ee hQ F ?_;refine I2 (.bool _) ⟨?_,rfl⟩;simp[Leaf.ck,Leaf.right,Leaf.place,usedE,ht])
   by_cases k11:k=11
   ·subst k11;have ht:=su (idF a) (L0.label s) (L0.query t);rcases ht with ht|ht|ht|ht;all_goals (
     have F:=F7 F e1 e3 e4 e5 e6 ht;refine hK _ _ (I9 ?_);clear hK K;refine wn F ?_
     skip
     refine aA 6 [5] [true,true,true,true,true,false] (.one 5 [false,false,true,true] .fin) (by decide+kernel) (by kernel_rfl) (by decide+kernel) ?_;simp only[aC,aD,aB];(try refine sq F ?_);repeat' ((first|refine ai ?_|refine aj ?_|refine ak ?_ ?_)<;>try refine sq F ?_)
     all_goals try (repeat (first|refine w1 (fun K hK=>?_)|refine w2 ?_|refine w3 ?_| ((first|refine w4 ?_|refine w5 ?_|refine w6 ?_|refine w7 ?_);try refine sq F ?_)| (refine w8 ?_;refine sq F ?_;refine w9 ?_)| ((first|refine hK _ _ (w0 ?_)| (clear hK K;refine hK _ _ (w0 ?_))| (clear hK K;clear hK K;refine hK _ _ (w0 ?_)));clear hK K)))
     skip
     (try refine wk F ?_);repeat (first|refine kq F (xf G s _) ?_|refine kq F (E8 G t _) ?_)
     refine ee hQ F ?_;refine I2 (.bool _) ⟨?_,rfl⟩;simp[Leaf.ck,Leaf.right,Leaf.place,usedE,ht])
   by_cases k12:k=12
   ·subst k12;have ht:=ng (idF a);rcases ht with ht|ht;all_goals (
     have F:=F7 F e1 e3 e4 e5 e6 ht;refine hK _ _ (I9 ?_);clear hK K;refine wk F ?_;refine ee hQ F ?_;refine I2 (.bool _) ⟨?_,rfl⟩;simp[Leaf.ck,Leaf.right,Leaf.place,usedE,ht])
   by_cases k13:k=13
   ·subst k13;have ht:=ng (L0.moment n);rcases ht with ht|ht;all_goals (
     have F:=F7 F e1 e3 e4 e5 e6 ht;refine hK _ _ (I9 ?_);clear hK K;refine wn F ?_
     skip
     refine aA 4 [3] [true,true,true,false] (.one 3 [true,true] .fin) (by decide+kernel) (by kernel_rfl) (by decide+kernel) ?_;simp only[aC,aD,aB];(try refine sq F ?_);repeat' ((first|refine ai ?_|refine aj ?_|refine ak ?_ ?_)<;>try refine sq F ?_)
     all_goals try (repeat (first|refine w1 (fun K hK=>?_)|refine w2 ?_|refine w3 ?_| ((first|refine w4 ?_|refine w5 ?_|refine w6 ?_|refine w7 ?_);try refine sq F ?_)| (refine w8 ?_;refine sq F ?_;refine w9 ?_)| ((first|refine hK _ _ (w0 ?_)| (clear hK K;refine hK _ _ (w0 ?_))| (clear hK K;clear hK K;refine hK _ _ (w0 ?_)));clear hK K)))
     skip
     (try refine wk F ?_);repeat (first|refine kq F (xg G hc n _) ?_)
     refine ee hQ F ?_;refine I2 (.bool _) ⟨?_,rfl⟩;simp[Leaf.ck,Leaf.right,Leaf.place,usedE,ht])
   have n1:(k==1)=false:=(by simp[k1]);have n2:(k==2)=false:=(by simp[k2]);have n3:(k==3)=false:=(by simp[k3]);have n4:(k==4)=false:=(by simp[k4]);have n5:(k==5)=false:=(by simp[k5]);have n6:(k==6)=false:=(by simp[k6]);have n7:(k==7)=false:=(by simp[k7]);have n8:(k==8)=false:=(by simp[k8]);have n9:(k==9)=false:=(by simp[k9]);have n10:(k==10)=false:=(by simp[k10]);have n11:(k==11)=false:=(by simp[k11]);have n12:(k==12)=false:=(by simp[k12]);have n13:(k==13)=false:=(by simp[k13]);have F:=F2 (F9 F e1 e3 e4 e5 e6 n1 n2 n3) (iZ n4 n5 n6 n7 n8 n9 n10 n11 n12 n13);refine hK _ _ (I9 ?_);clear hK K;refine wk F ?_;refine ee hQ F ?_;refine I2 (.bool _) ⟨?_,rfl⟩;simp[Leaf.ck,Leaf.right,k1,k2,k3,k4,k5,k6,k7,k8,k9,k10,k11,k12,k13]
  subst hH;(first|refine gq F (fun g=>?_) (fun g=>?_)|refine pq F (fun g=>?_) (fun g=>?_))<;>(try exact g.elim)<;>(try refine sq F ?_)<;>((repeat (first|refine w1 (fun K hK=>?_)|refine w2 ?_|refine w3 ?_| ((first|refine w4 ?_|refine wD ?_|refine w5 ?_|refine w6 ?_|refine w7 ?_);try refine sq F ?_)| (refine w8 ?_;refine sq F ?_;refine w9 ?_)| ((first|refine hK _ _ (w0 ?_)| (clear hK K;refine hK _ _ (w0 ?_))| (clear hK K;clear hK K;refine hK _ _ (w0 ?_)));clear hK K))))
  ·exact key _ true (by exact zq F) (by exact zq F) (by exact zq F) (by exact zq F) rfl (by simp[g])
  ·refine(kQ G b _).mono ?_;rintro r h' ⟨rfl,rfl⟩;(try refine sq F ?_);(repeat (first|refine w1 (fun K hK=>?_)|refine w2 ?_|refine w3 ?_| ((first|refine w4 ?_|refine wD ?_|refine w5 ?_|refine w6 ?_|refine w7 ?_);try refine sq F ?_)| (refine w8 ?_;refine sq F ?_;refine w9 ?_)| ((first|refine hK _ _ (w0 ?_)| (clear hK K;refine hK _ _ (w0 ?_))| (clear hK K;clear hK K;refine hK _ _ (w0 ?_)));clear hK K)))
   exact key _ (idF b) (by exact zq F) (by exact zq F) (by exact zq F) (by exact zq F) rfl (by simp[g])
 subst hH;(first|refine gq trivial (fun g=>?_) (fun g=>?_)|refine pq trivial (fun g=>?_) (fun g=>?_))<;>(try exact g.elim)<;>(try refine sq trivial ?_)<;>((repeat (first|refine w1 (fun K hK=>?_)|refine w2 ?_|refine w3 ?_| ((first|refine w4 ?_|refine wD ?_|refine w5 ?_|refine w6 ?_|refine w7 ?_);try refine sq trivial ?_)| (refine w8 ?_;refine sq trivial ?_;refine w9 ?_)| ((first|refine hK _ _ (w0 ?_)| (clear hK K;refine hK _ _ (w0 ?_))| (clear hK K;clear hK K;refine hK _ _ (w0 ?_)));clear hK K))))
 ·exact key _ true (by exact zq trivial) (by exact zq trivial) (by exact zq trivial) rfl (by simp[g])
 ·exact key _ (n==1) (by exact zq trivial) (by exact zq trivial) (by exact zq trivial) rfl (by simp[g])
end
section
attribute [local irreducible] WP WPl WPix Sat
variable (G:Nat→Option (List AVal))
section
variable {α:Type}
theorem oP{p:α→Bool}{l:List α}{k:Nat}{a:α}(h:l[k]? =some a)(ha:p a=true)(hf:∀b∈l.take k,p b=false):l.find? p=some a:=by
 induction l generalizing k with
 |nil=>simp at h
 |cons b l ih=>
  cases k with
  |zero=>simp at h;subst h;rw[List.find?_cons,ha]
  |succ k=>
   rw[List.find?_cons,hf b (by simp)];exact ih (by simpa using h) fun c hc=>hf c (by simp[hc])
theorem oQ{p:α→Bool}{l:List α}(hf:∀b∈l,p b=false):l.find? p=none:=List.find?_eq_none.2 fun b hb=>by rw[hf b hb];simp
theorem nh{p:α→Bool}{l:List α}{k:Nat}{a:α}(h:l[k]? =some a)(ha:p a=true):l.any p=true:=U0.2 ⟨a,J2 h,ha⟩
theorem ni{p:α→Bool}{l:List α}(hf:∀b∈l,p b=false):l.any p=false:=by rw[U5];intro b hb;rw[hf b hb];simp
theorem dr{p:α→Bool}{l:List α}{k:Nat}{a:α}(h:l[k]? =some a)(ha:p a=false)(hf:∀b∈l.take k,p b=false):∀b∈l.take (k+1),p b=false:=by
 rw[M8,h];intro b hb;simp at hb;rcases hb with hb|rfl
 ·exact hf b hb
 ·exact ha
end
def St.plc(x:St)(u:Bs):Int:=((x.fe.find? fun f=>decide (f.url=u)).map (·.id)).getD 0
theorem qt(x:St)(u:Bs)(hl:x.fe.length≤100000)(h:Heap):Sat (CT G) 138 [x.av,.str u] h (fun r h'=>r=.int .i64 (x.plc u)∧h'=h):=by
 have hel:(x.fe.map Fe.av).length=x.fe.length:=I4 ..;have F:=hel;refine sb [.tmp 4] Tryz.func138 ?_;intro Q hQ;refine wk F ?_;refine lm (fun nL tL hL=>∃(k:Nat),x.fe.length-k=nL∧h++[.row 47 9 0 [x.av]]=hL∧tL 1=.str u∧tL 2=.hp h.length 0 0 0∧tL 5=.int .i64 k∧k≤x.fe.length∧(∀f∈x.fe.take k,decide (f.url=u)=false)) ((fun(k:Nat)=>(x.fe.length-k:Nat)) (0)) ?_ ?_
 ·refine I9 ⟨0,rfl,az,?_,?_,?_,by omega,by simp⟩;all_goals try exact zZz F
 rintro _ s2 h' ⟨k,rfl,rfl,e1,e2,e5,hk,hp⟩ K2 hK2;simp only[ah,ar,Nat.reduceEqDiff, ↓reduceIte]at e1 e2 e5;have F:=F4 F e1 e2 e5;refine wk F ?_;refine cq F (fun c1=>?_) (fun c1=>?_)<;>(try exact c1.elim)<;>(refine wk F ?_)
 ·have c2:k<x.fe.length:=by omega
  obtain⟨f,hf,hfm⟩:=ac c2;have F:=F3 F c2 hf;try refine sq F ?_
  refine wk F ?_;refine cq F (fun c3=>?_) (fun c3=>?_)<;>(try exact c3.elim)<;>(refine wk F ?_)
  ·refine ee hQ F ?_;exact I2 (.int _ _) ⟨by rw[St.plc,oP hf (J7 c3) hp];rfl,rfl⟩
  ·refine hK2 _ _ _ (I9 ⟨k+1,rfl,az,?_,?_,?_,by omega,dr hf (J3 c3) hp⟩) (by omega);all_goals try exact zZz F
 ·rw[J6 (by omega)]at hp;refine ee hQ F ?_;exact I2 (.int _ _) ⟨by rw[St.plc,oQ hp];rfl,rfl⟩
def St.gid(x:St)(feed:Int)(g:Bs):Int:=((x.it.find? fun t=>decide (t.feed=feed∧t.guid=g)).map (·.id)).getD 0
theorem lB(x:St)(feed:Int)(g:Bs)(hl:x.it.length≤100000)(h:Heap):Sat (CT G) 51 [x.av,.int .i64 feed,.str g] h (fun r h'=>r=.int .i64 (x.gid feed g)∧h'=h):=by
 have hel:(x.it.map It.av).length=x.it.length:=I4 ..;have F:=hel;refine sb [.tmp 6] Tryz.func51 ?_;intro Q hQ;refine wk F ?_;refine lm (fun nL tL hL=>∃(k:Nat),x.it.length-k=nL∧h++[.row 47 9 0 [x.av]]=hL∧tL 1=.int .i64 feed∧tL 2=.str g∧tL 3=.hp h.length 0 0 0∧tL 7=.int .i64 k∧k≤x.it.length∧(∀f∈x.it.take k,decide (f.feed=feed∧f.guid=g)=false)) ((fun(k:Nat)=>(x.it.length-k:Nat)) (0)) ?_ ?_
 ·refine I9 ⟨0,rfl,az,?_,?_,?_,?_,by omega,by simp⟩;all_goals try exact zZz F
 rintro _ s2 h' ⟨k,rfl,rfl,e1,e2,e3,e7,hk,hp⟩ K2 hK2;simp only[ah,ar,Nat.reduceEqDiff, ↓reduceIte]at e1 e2 e3 e7;have F:=F5 F e1 e2 e3 e7;refine wk F ?_;refine cq F (fun c1=>?_) (fun c1=>?_)<;>(try exact c1.elim)<;>(refine wk F ?_)
 ·have c2:k<x.it.length:=by omega
  obtain⟨f,hf,hfm⟩:=ac c2;have F:=F3 F c2 hf;try refine sq F ?_
  refine wk F ?_;(first|refine gq F (fun g1=>?_) (fun g1=>?_)|refine pq F (fun g1=>?_) (fun g1=>?_))<;>(try exact g1.elim)<;>(try refine sq F ?_)<;>(refine wk F ?_)
  ·refine cq F (fun c3=>?_) (fun c3=>?_)<;>(try exact c3.elim)<;>(refine wk F ?_)
   ·refine ee hQ F ?_;exact I2 (.int _ _) ⟨by rw[St.gid,oP hf (J7 ⟨g1,c3⟩) hp];rfl,rfl⟩
   ·refine hK2 _ _ _ (I9 ⟨k+1,rfl,az,?_,?_,?_,?_,by omega,dr hf (J3 fun q=>c3 q.2) hp⟩) (by omega);all_goals try exact zZz F
  ·refine hK2 _ _ _ (I9 ⟨k+1,rfl,az,?_,?_,?_,?_,by omega,dr hf (J3 fun q=>g1 q.1) hp⟩) (by omega);all_goals try exact zZz F
 ·rw[J6 (by omega)]at hp;refine ee hQ F ?_;exact I2 (.int _ _) ⟨by rw[St.gid,oQ hp];rfl,rfl⟩
def St.nmd(x:St)(i:Int)(g:Bs):Bool:=x.fo.any fun f=>decide (f.inn=i∧f.name=g)
theorem qu(x:St)(i:Int)(g:Bs)(hl:x.fo.length≤100000)(h:Heap):Sat (CT G) 136 [x.av,.int .i64 i,.str g] h (fun r h'=>r=.bool (x.nmd i g)∧h'=h):=by
 have hel:(x.fo.map Fo.av).length=x.fo.length:=I4 ..;have F:=hel;refine sb [.tmp 6] Tryz.func136 ?_;intro Q hQ;refine wk F ?_;refine lm (fun nL tL hL=>∃(k:Nat),x.fo.length-k=nL∧h++[.row 47 9 0 [x.av]]=hL∧tL 1=.int .i64 i∧tL 2=.str g∧tL 3=.hp h.length 0 0 0∧tL 7=.int .i64 k∧k≤x.fo.length∧(∀f∈x.fo.take k,decide (f.inn=i∧f.name=g)=false)) ((fun(k:Nat)=>(x.fo.length-k:Nat)) (0)) ?_ ?_
 ·refine I9 ⟨0,rfl,az,?_,?_,?_,?_,by omega,by simp⟩;all_goals try exact zZz F
 rintro _ s2 h' ⟨k,rfl,rfl,e1,e2,e3,e7,hk,hp⟩ K2 hK2;simp only[ah,ar,Nat.reduceEqDiff, ↓reduceIte]at e1 e2 e3 e7;have F:=F5 F e1 e2 e3 e7;refine wk F ?_;refine cq F (fun c1=>?_) (fun c1=>?_)<;>(try exact c1.elim)<;>(refine wk F ?_)
 ·have c2:k<x.fo.length:=by omega
  obtain⟨f,hf,hfm⟩:=ac c2;have F:=F3 F c2 hf;try refine sq F ?_
  refine wk F ?_;(first|refine gq F (fun g1=>?_) (fun g1=>?_)|refine pq F (fun g1=>?_) (fun g1=>?_))<;>(try exact g1.elim)<;>(try refine sq F ?_)<;>(refine wk F ?_)
  ·refine cq F (fun c3=>?_) (fun c3=>?_)<;>(try exact c3.elim)<;>(refine wk F ?_)
   ·refine ee hQ F ?_;exact I2 (.bool _) ⟨by rw[St.nmd,nh hf (J7 ⟨g1,c3⟩)],rfl⟩
   ·refine hK2 _ _ _ (I9 ⟨k+1,rfl,az,?_,?_,?_,?_,by omega,dr hf (J3 fun q=>c3 q.2) hp⟩) (by omega);all_goals try exact zZz F
  ·refine hK2 _ _ _ (I9 ⟨k+1,rfl,az,?_,?_,?_,?_,by omega,dr hf (J3 fun q=>g1 q.1) hp⟩) (by omega);all_goals try exact zZz F
 ·rw[J6 (by omega)]at hp;refine ee hQ F ?_;exact I2 (.bool _) ⟨by rw[St.nmd,ni hp],rfl⟩
def St.emp(x:St)(i:Int):Bool:= !(x.fo.any fun f=>decide (f.inn=i))&& !(x.fe.any fun f=>decide (f.inn=i))
theorem qv(x:St)(i:Int)(hl:x.fo.length≤100000)(hl2:x.fe.length≤100000)(h:Heap):Sat (CT G) 137 [x.av,.int .i64 i] h (fun r h'=>r=.bool (x.emp i)∧h'=h):=by
 have hel:(x.fo.map Fo.av).length=x.fo.length:=I4 ..;have hel2:(x.fe.map Fe.av).length=x.fe.length:=I4 ..;have F:=F2 hel hel2;refine sb [.tmp 4] Tryz.func137 ?_;intro Q hQ;refine wk F ?_;refine lm (fun nL tL hL=>∃(k:Nat),x.fo.length-k=nL∧h++[.row 47 9 0 [x.av]]=hL∧tL 1=.int .i64 i∧tL 2=.hp h.length 0 0 0∧tL 5=.int .i64 k∧k≤x.fo.length∧(∀f∈x.fo.take k,decide (f.inn=i)=false)) ((fun(k:Nat)=>(x.fo.length-k:Nat)) (0)) ?_ ?_
 ·refine I9 ⟨0,rfl,az,?_,?_,?_,by omega,by simp⟩;all_goals try exact zZz F
 rintro _ s2 h' ⟨k,rfl,rfl,e1,e2,e5,hk,hp⟩ K2 hK2;simp only[ah,ar,Nat.reduceEqDiff, ↓reduceIte]at e1 e2 e5;have F:=F4 F e1 e2 e5;refine wk F ?_;refine cq F (fun c1=>?_) (fun c1=>?_)<;>(try exact c1.elim)<;>(refine wk F ?_)
 ·have c2:k<x.fo.length:=by omega
  obtain⟨f,hf,hfm⟩:=ac c2;have F:=F3 F c2 hf;try refine sq F ?_
  refine wk F ?_;refine cq F (fun c3=>?_) (fun c3=>?_)<;>(try exact c3.elim)<;>(refine wk F ?_)
  ·refine ee hQ F ?_;exact I2 (.bool _) ⟨by rw[St.emp,nh hf (J7 c3)];rfl,rfl⟩
  ·refine hK2 _ _ _ (I9 ⟨k+1,rfl,az,?_,?_,?_,by omega,dr hf (J3 c3) hp⟩) (by omega);all_goals try exact zZz F
 rw[J6 (by omega)]at hp;try refine sq F ?_
 refine wk F ?_;refine lm (fun nL tL hL=>∃(k:Nat),x.fe.length-k=nL∧h++[.row 47 9 0 [x.av]]=hL∧tL 1=.int .i64 i∧tL 2=.hp h.length 0 0 0∧tL 6=.int .i64 k∧k≤x.fe.length∧(∀f∈x.fe.take k,decide (f.inn=i)=false)) ((fun(k:Nat)=>(x.fe.length-k:Nat)) (0)) ?_ ?_
 ·refine I9 ⟨0,rfl,az,?_,?_,?_,by omega,by simp⟩;all_goals try exact zZz F
 rintro _ s3 h' ⟨k,rfl,rfl,e1,e2,e6,hk,hp2⟩ K3 hK3;simp only[ah,ar,Nat.reduceEqDiff, ↓reduceIte]at e1 e2 e6;have F:=F4 F e1 e2 e6;refine wk F ?_;refine cq F (fun c2=>?_) (fun c2=>?_)<;>(try exact c2.elim)<;>(refine wk F ?_)
 ·have c3:k<x.fe.length:=by omega
  obtain⟨f,hf,hfm⟩:=ac c3;have F:=F3 F c3 hf;try refine sq F ?_
  refine wk F ?_;refine cq F (fun c4=>?_) (fun c4=>?_)<;>(try exact c4.elim)<;>(refine wk F ?_)
  ·refine ee hQ F ?_;exact I2 (.bool _) ⟨by rw[St.emp,nh hf (J7 c4)];simp,rfl⟩
  ·refine hK3 _ _ _ (I9 ⟨k+1,rfl,az,?_,?_,?_,by omega,dr hf (J3 c4) hp2⟩) (by omega);all_goals try exact zZz F
 rw[J6 (by omega)]at hp2;refine ee hQ F ?_;exact I2 (.bool _) ⟨by rw[St.emp,ni hp,ni hp2];rfl,rfl⟩
theorem sv(l:List Bs)(g:Bs)(hl:l.length≤100000)(h:Heap):Sat (CT G) 139 [.sl 1 (l.map .str),.str g] h (fun r h'=>r=.bool (decide (g∈l))∧h'=h):=by
 have hel:(l.map AVal.str).length=l.length:=I4 ..;have F:=hel;refine sb [.tmp 4] Tryz.func139 ?_;intro Q hQ;refine wk F ?_;refine lm (fun nL tL hL=>∃(k:Nat),l.length-k=nL∧[]++h=hL∧tL 0=.sl 1 (l.map .str)∧tL 1=.str g∧tL 5=.int .i64 k∧k≤l.length∧g ∉ l.take k) ((fun(k:Nat)=>(l.length-k:Nat)) (0)) ?_ ?_
 ·refine I9 ⟨0,rfl,rfl,?_,?_,?_,by omega,by simp⟩;all_goals try exact zZz F
 rintro _ s2 h' ⟨k,rfl,rfl,e0,e1,e5,hk,hp⟩ K2 hK2;simp only[ah,ar,Nat.reduceEqDiff, ↓reduceIte]at e0 e1 e5;have F:=F4 F e0 e1 e5;refine wk F ?_;refine cq F (fun c1=>?_) (fun c1=>?_)<;>(try exact c1.elim)<;>(refine wk F ?_)
 ·have c2:k<l.length:=by omega
  obtain⟨f,hf,hfm⟩:=ac c2;have F:=F3 F c2 hf;try refine sq F ?_
  refine wk F ?_;refine cq F (fun c3=>?_) (fun c3=>?_)<;>(try exact c3.elim)<;>(refine wk F ?_)
  ·refine ee hQ F ?_;exact M9 (.bool _) ⟨by rw[J7 (by rw[← c3];exact hfm)],rfl⟩
  ·have hp1:g ∉ l.take (k+1):=by
    rw[M8,hf];intro q;simp at q;rcases q with q|q
    ·exact hp q
    ·exact c3 q.symm
   refine hK2 _ _ _ (I9 ⟨k+1,rfl,rfl,?_,?_,?_,by omega,hp1⟩) (by omega);all_goals try exact zZz F
 ·rw[J6 (by omega)]at hp;refine ee hQ F ?_;exact M9 (.bool _) ⟨by rw[J3 hp],rfl⟩
def topI(a b:Int):Int:=if a>b then a else b
theorem ci(a b:Int)(h:Heap):Sat (CT G) 141 [.int .i64 a,.int .i64 b] h (fun r h'=>r=.int .i64 (topI a b)∧h'=h):=by
 refine sb [.tmp 4] Tryz.func141 ?_;intro Q hQ;refine wk trivial ?_;refine cq trivial (fun c=>?_) (fun c=>?_)<;>(try exact c.elim)<;>(refine wk trivial ?_)
 ·refine ee hQ trivial ?_;exact M9 (.int _ _) ⟨by rw[topI,I6 (by omega)],rfl⟩
 ·refine ee hQ trivial ?_;exact M9 (.int _ _) ⟨by rw[topI,I0 (by omega)],rfl⟩
def St.dpW(x:St):Nat→Int→Nat→Nat
 |0,id,n=>if id=0 then n else 8
 |k+1,id,n=>if id=0 then n else match fnd (·.id) x.fo id with
  |none=>8
  |some f=>x.dpW k f.inn (n+1)
def St.deep(x:St)(id:Int):Nat:=match fnd (·.id) x.fo id with
 |none=>0
 |some _=>x.dpW 7 id 0
theorem sx(x:St)(id:Int)(hl:x.fo.length≤100000)(h:Heap):Sat (CT G) 135 [x.av,.int .i64 id] h (fun r h'=>r=.int .i64 (x.deep id)∧h'=h):=by
 have hel:(x.fo.map Fo.av).length=x.fo.length:=I4 ..;have hF:=fun i=>cD G x i hl
 cases hf0:fnd (·.id) x.fo id with
 |none=>
  have h0:=hF id;rw[eO hf0]at h0;have dm:∀i:Decidable True, @decide True i=true:=fun i=>J7 trivial
  have F:=dm;refine sb [.tmp 4] Tryz.func135 ?_;intro Q hQ;refine wk F ?_;refine kq F (h0 _) ?_;refine ee hQ F ?_;exact I2 (.int _ _) ⟨by rw[St.deep,hf0];rfl,rfl⟩
 |some f0=>
  obtain⟨k0,q1,q2,q3⟩:=bi hf0;have h0:=hF id;rw[q2]at h0;have hdp:x.deep id=x.dpW 7 id 0:=by rw[St.deep,hf0]
  rw[hdp];have F:=hel;refine sb [.tmp 4] Tryz.func135 ?_;intro Q hQ;refine wk F ?_;refine kq F (h0 _) ?_;have ck:decide ((k0:Int)<0)=false:=by simp
  have F:=F2 F ck;try refine sq F ?_
  refine wk F ?_;refine lm (fun nL tL hL=>∃(n:Nat) (i:Int),8-n=nL∧h++[.row 47 9 0 [x.av]]=hL∧tL 1=.int .i64 i∧tL 2=.hp h.length 0 0 0∧tL 5=.int .i64 n∧n≤7∧x.dpW (7-n) i n=x.dpW 7 id 0) ((fun(n:Nat) (i:Int)=>(8-n:Nat)) (0) (id)) ?_ ?_
  ·refine I9 ⟨0,id,rfl,az,?_,?_,?_,by omega,rfl⟩;all_goals try exact zZz F
  rintro _ s2 h' ⟨n,i,rfl,rfl,e1,e2,e5,hn,hv⟩ K2 hK2;simp only[ah,ar,Nat.reduceEqDiff, ↓reduceIte]at e1 e2 e5;have F:=F4 F e1 e2 e5;refine wk F ?_;refine cq F (fun c1=>?_) (fun c1=>?_)<;>(try exact c1.elim)<;>(refine wk F ?_)
  ·have hi0:¬i=0:=(by first|exact c1|omega);cases hf:fnd (·.id) x.fo i with
   |none=>
    have h1:=hF i;rw[eO hf]at h1;have h8:x.dpW (7-n) i n=8:=by
     cases hk:7-n with
     |zero=>rw[St.dpW,I0 hi0]
     |succ k=>rw[St.dpW,I0 hi0,hf]
    have dm:∀i:Decidable True, @decide True i=true:=fun i=>J7 trivial
    have F:=F2 F dm;(try refine sq F ?_);refine wk F ?_;refine kq F (h1 _) ?_;refine ee hQ F ?_;exact I2 (.int _ _) ⟨by rw[← hv,h8];rfl,rfl⟩
   |some f=>
    obtain⟨k1,p1,p2,p3⟩:=bi hf;have h1:=hF i;rw[p2]at h1;have hkl:k1<x.fo.length:=(f9.1 p1).1;have d1:decide ((k1:Int)<0)=false:=(by simp);by_cases c7:n=7
    ·have d7:((n:Int)==7)=true:=(by simp;omega);have h8:x.dpW (7-n) i n=8:=by
      rw[c7];rw[St.dpW,I0 hi0]
     have F:=F3 F d1 d7;(try refine sq F ?_);refine wk F ?_;refine kq F (h1 _) ?_;refine ee hQ F ?_;exact I2 (.int _ _) ⟨by rw[← hv,h8];rfl,rfl⟩
    ·have d7:((n:Int)==7)=false:=(by simp;omega);have hst:x.dpW (7-(n+1)) f.inn (n+1)=x.dpW 7 id 0:=by
      rw[← hv,show 7-n=(7-(n+1))+1 by omega,St.dpW,I0 hi0,hf]
     have F:=F5 F d1 d7 p1 hkl;(try refine sq F ?_);refine wk F ?_;refine kq F (h1 _) ?_;refine hK2 _ _ _ (I9 ⟨n+1,f.inn,rfl,az,?_,?_,?_,by omega,hst⟩) (by omega);all_goals try exact zZz F
  ·have hi0:i=0:=(by first|exact c1|omega);have h8:x.dpW (7-n) i n=n:=by
    cases hk:7-n with
    |zero=>rw[St.dpW,I6 hi0]
    |succ k=>rw[St.dpW,I6 hi0]
   refine ee hQ F ?_;exact I2 (.int _ _) ⟨by rw[← hv,h8],rfl⟩
end
section
attribute [local irreducible] WP WPl WPix Sat
def tgR(g:Bs):List Bs→Bool→List Bs
 | [],d=>if d then []else [g]
 |a::l,d=>if !d&&Op.bytesLess g a then g::((if a=g then []else [a])++tgR g l true)else(if a=g then []else [a])++tgR g l d
theorem lQ(g:Bs)(l:List Bs):tgR g l true=l.filter fun a=>decide (a≠g):=by
 induction l with
 |nil=>rfl
 |cons a l ih=>
  rw[tgR,ih,S6];by_cases h:a=g<;>simp[h]
theorem xh{g:Bs}{l:List Bs}(h:∀b∈l,Op.bytesLess g b=true):tgR g l false=g::l:=by
 cases l with
 |nil=>rfl
 |cons b l=>
  have hb:=h b (by simp);have hne:¬b=g:=fun e=>by rw[e,ce]at hb;cases hb
  rw[tgR,hb,lQ];simp only[O5,Bool.and_self,if_true,hne,if_false,W3,X0,true_and];rw[R1];intro c hc;have hc2:=h c (by simp[hc]);simp only[I8];intro e;rw[e,ce]at hc2;cases hc2
theorem kR{g:Bs}{l:List Bs}(h:g ∉ l):(l.filter fun a=>decide (a≠g))=l:=by
 rw[R1];intro c hc;simp only[I8];rintro rfl;exact h hc
theorem sy{g:Bs}:∀{l:List Bs},Srt l→tgR g l false=if g∈l then l else l.take (lbF l g)++g::l.drop (lbF l g)
 | [],_=>by simp[tgR]
 |a::l,hs=>by
  have hs':=hs;unfold Srt at hs';rw[S5]at hs';rw[fa];cases hag:Op.bytesLess a g with
  |true=>
   have hne:¬a=g:=fun e=>by rw[e,ce]at hag;cases hag
   have hga:Op.bytesLess g a=false:=by
    cases hq:Op.bytesLess g a with
    |false=>rfl
    |true=>have:=eZ hag hq;rw[ce]at this;cases this
   have hm:(g∈a::l)=(g∈l):=(by rw[J9];exact propext ⟨fun q=>q.resolve_left fun e=>hne e.symm,.inr⟩);rw[tgR,hga,sy hs'.2];simp only[Bool.and_false,L8,if_false,hne,if_true,hm,W3];split<;>simp
  |false=>
   simp only[L8,if_false,N6,U6,M5];by_cases he:a=g
   ·subst he;rw[tgR,hag,xh hs'.1];simp
   ·have hga:Op.bytesLess g a=true:=by
     cases hq:Op.bytesLess g a with
     |true=>rfl
     |false=>exact(he (mP a g hag hq)).elim
    have hgl:g ∉ a::l:=by
     intro q;rcases J9.1 q with q|q
     ·exact he q.symm
     ·have:=eZ hga (hs'.1 g q);rw[ce]at this;cases this
    rw[I0 hgl,tgR,hga,lQ,kR (fun q=>hgl (R4 _ q))];simp[he]
theorem oR{g:Bs}:∀{l:List Bs},Srt l→tgR g l true=if g∈l then l.take (lbF l g)++l.drop (lbF l g+1)else l
 | [],_=>by simp[tgR]
 |a::l,hs=>by
  have hs':=hs;unfold Srt at hs';rw[S5]at hs';by_cases hm:g∈a::l
  ·rw[I6 hm,fa];cases hag:Op.bytesLess a g with
   |true=>
    have hne:¬a=g:=fun e=>by rw[e,ce]at hag;cases hag
    have hl:g∈l:=(J9.1 hm).resolve_left fun e=>hne e.symm
    have ih:=oR (g:=g) hs'.2;rw[I6 hl]at ih;rw[tgR,ih];simp[hne]
   |false=>
    have he:a=g:=by
     rcases J9.1 hm with q|q
     ·exact q.symm
     ·have:=hs'.1 g q;rw[hag]at this;cases this
    subst he;have hl:a ∉ l:=fun q=>by have:=hs'.1 a q;rw[ce]at this;cases this
    rw[lQ,S6,kR hl];simp
  ·rw[I0 hm,lQ,kR hm]
theorem xi{l:List Bs}(hs:Srt l)(g:Bs){n:Int}(hn:n=0∨n=1):tgR g l (!(n==1))=tgF l g n:=by
 unfold tgF;rcases hn with rfl|rfl
 ·rw[show(!((0:Int)==1))=true from rfl,oR hs];by_cases h:g∈l
  ·rw[I6 h,I0 (fun q=>absurd q.1 (by decide)),I6 ⟨rfl,h⟩]
  ·rw[I0 h,I0 (fun q=>absurd q.1 (by decide)),I0 (fun q=>h q.2)]
 ·rw[show(!((1:Int)==1))=false from rfl,sy hs];by_cases h:g∈l
  ·rw[I6 h,I0 (fun q=>q.2 h),I0 (fun q=>absurd q.1 (by decide))]
  ·rw[I0 h,I6 ⟨rfl,h⟩]
variable (G:Nat→Option (List AVal))
theorem sA(l:List Bs)(g:Bs)(w:Bool)(hl:l.length≤100000)(h:Heap):Sat (CT G) 85 [.sl 1 (l.map .str),.str g,.bool w] h (fun r h'=>r=.sl 1 ((tgR g l (!w)).map .str)∧h'=h):=by
 have hel:(l.map AVal.str).length=l.length:=I4 ..;have F:=hel;refine sb [.tmp 6] Tryz.func85 ?_;intro Q hQ;refine wk F ?_;refine lm (fun nL tL hL=>∃(i v:Nat) (acc:List Bs) (d:Bool),l.length-i=nL∧h++[.row 9 1 v (acc.map .str)]=hL∧tL 0=.sl 1 (l.map .str)∧tL 1=.str g∧tL 7=.hs h.length v 0 acc.length true∧tL 8=.bool d∧tL 9=.int .i64 i∧i≤l.length∧acc.length≤2*i∧acc++tgR g (l.drop i) d=tgR g l (!w)) ((fun(i v:Nat) (acc:List Bs) (d:Bool)=>(l.length-i:Nat)) (0) (0) ([]) (!w)) ?_ ?_
 ·refine⟨_,_,V3 7 9 1 (by simp) (by omega) (by exact zq F),⟨0,0,[], !w,rfl,az,?_,?_,?_,?_,?_,by omega,by simp,rfl⟩⟩;all_goals try exact zZz F
 rintro _ s2 h' ⟨i,v,acc,d,rfl,rfl,e0,e1,e7,e8,e9,hi,hac,hp⟩ K2 hK2;simp only[ah,ar,Nat.reduceEqDiff, ↓reduceIte]at e0 e1 e7 e8 e9;have F:=F6 F e0 e1 e7 e8 e9;refine wk F ?_;refine cq F (fun c1=>?_) (fun c1=>?_)<;>(try exact c1.elim)<;>(refine wk F ?_)
 ·have c2:i<l.length:=by omega
  obtain⟨y,hy,_⟩:=ac c2;rw[aE hy,tgR]at hp;have hd:=two d;have he:=two (y==g);rcases hd with hd|hd<;>subst hd
  ·simp only[P1,Bool.false_and,L8,if_false]at hp;rcases he with he|he
   ·have he2:y=g:=(by simpa using he);rw[I6 he2,M5]at hp;have F:=F4 F c2 hy he;(try refine sq F ?_);refine wk F ?_;refine hK2 _ _ _ (I9 ⟨i+1,v,acc,true,rfl,rfl,?_,?_,?_,?_,?_,by omega,by omega,hp⟩) (by omega);all_goals try exact zZz F
   ·have he2:¬y=g:=(by simpa using he);rw[I0 he2,W3]at hp;have F:=F4 F c2 hy he;(try refine sq F ?_);refine wk F ?_;refine aq F ?_;(try refine sq F ?_);refine wk F ?_;refine hK2 _ _ _ (I9 ⟨i+1,v+1,acc++[y],true,rfl,by simp,?_,?_,?_,?_,?_,by omega,by simp;omega,by rw[← hp];simp⟩) (by omega);all_goals try exact zZz F
  ·have hb:=two (Op.bytesLess g y);rcases hb with hb|hb<;>rcases he with he|he
   ·have he2:y=g:=(by simpa using he);rw[he2,ce]at hb;cases hb
   ·have he2:¬y=g:=(by simpa using he);rw[hb,I6 (by simp),I0 he2,W3]at hp;have F:=F5 F c2 hy hb he;(try refine sq F ?_);refine wk F ?_;refine aq F ?_;(try refine sq F ?_);refine wk F ?_;refine aq F ?_;(try refine sq F ?_);refine wk F ?_;refine hK2 _ _ _ (I9 ⟨i+1,v+1+1,acc++[g]++[y],true,rfl,by simp,?_,?_,?_,?_,?_,by omega,by simp;omega,by rw[← hp];simp⟩) (by omega);all_goals try exact zZz F
   ·have he2:y=g:=(by simpa using he);rw[hb,I0 (by simp),I6 he2,M5]at hp;have F:=F5 F c2 hy hb he;(try refine sq F ?_);refine wk F ?_;refine hK2 _ _ _ (I9 ⟨i+1,v,acc,false,rfl,rfl,?_,?_,?_,?_,?_,by omega,by omega,hp⟩) (by omega);all_goals try exact zZz F
   ·have he2:¬y=g:=(by simpa using he);rw[hb,I0 (by simp),I0 he2,W3]at hp;have F:=F5 F c2 hy hb he;(try refine sq F ?_);refine wk F ?_;refine aq F ?_;(try refine sq F ?_);refine wk F ?_;refine hK2 _ _ _ (I9 ⟨i+1,v+1,acc++[y],false,rfl,by simp,?_,?_,?_,?_,?_,by omega,by simp;omega,by rw[← hp];simp⟩) (by omega);all_goals try exact zZz F
 ·rw[aK (by omega),tgR]at hp;have hd:=two d;rcases hd with hd|hd
  ·subst hd;(try refine sq F ?_);refine wk F ?_;refine ee hQ F ?_;simp only[if_true,M6]at hp;rw[← hp];have hg:getRow (h++[.row 9 1 v (acc.map .str)]) h.length v=some (9,1,acc.map .str):=(by rw[aR _ rfl];simp[getRow]);exact X1 (jk (J1 _) hg) ⟨rfl,rfl⟩
  ·subst hd;(try refine sq F ?_);refine wk F ?_;refine aq F ?_;(try refine sq F ?_);refine wk F ?_;refine ee hQ F ?_;simp only[L8,if_false]at hp;rw[← hp];have hg:getRow (h++[.row 9 1 (v+1) ((acc++[g]).map .str)]) h.length (v+1)=some (9,1,(acc++[g]).map .str):=(by rw[aR _ rfl];simp[getRow]);have hz:=X1 (R:=fun r h'=>r=.sl 1 ((acc++[g]).map AVal.str)∧h'=h) (jk (J1 _) hg) ⟨rfl,rfl⟩;simpa using hz
end
section
attribute [local irreducible] WP WPl WPix Sat
set_option pp.deepTerms true
set_option pp.maxSteps 200000
theorem o6{h:Heap}{p v len n m:Nat}{b:Bool}{rows:List AVal}(hg:getRow h p v=some (m,n,rows))(hl:rows.length=len):elemsOf h n (.hs p v 0 len b)=some rows:=by
 simp only[elemsOf,hg,true_and];rw[I6 (by omega),U6,J6 (by omega)]
variable (G:Nat→Option (List AVal))
end
section
attribute [local irreducible] WP WPl WPix Sat
variable (G:Nat→Option (List AVal))
end
section
def sumZ:List Int→Int
 | []=>0
 |a::l=>a+sumZ l
def S2{α:Type}(F:List α)(L:List It)(P:α→It→Bool):Int:=sumZ (F.map fun g=>(L.countP (P g):Int))
variable {s:PS}
def PS.inn(s:PS)(id:Int):Int:=((lkM s.fo id).map (·.inn)).getD 0
end
section
variable {s:PS}
theorem gQ{α:Type}{z:α}{l:ML Int α}{key:α→Int}(hid:∀k a,lkM l k=some a→key a=k)(id:Int):fnd key (valsM z l) id=lkM l id:=rZ key hid id
theorem PS.Inv.fndFo(h:s.Inv)(id:Int):fnd (·.id) s.tell.fo id=lkM s.fo id:=gQ (fun k a hk=>(h.i1 k a hk).1) id
theorem PS.Inv.fndFe(h:s.Inv)(id:Int):fnd (·.id) s.tell.fe id=lkM s.fe id:=gQ (fun k a hk=>(h.i2 k a hk).1) id
theorem PS.Inv.fndIt(h:s.Inv)(id:Int):fnd (·.id) s.tell.it id=lkM s.it id:=gQ (fun k a hk=>(h.i3 k a hk).1) id
theorem PS.Inv.fndSe(h:s.Inv)(id:Int):fnd (·.id) s.tell.se id=lkM s.se id:=gQ (fun k a hk=>(h.i4 k a hk).1) id
theorem PS.Inv.hasT(h:s.Inv){id:Int}(hi:id=0∨(lkM s.fo id).isSome=true):s.tell.has id:=by
 rcases hi with hi|hi
 ·exact .inl hi
 ·obtain⟨f,hf⟩:=K6.1 hi;exact .inr ⟨f,by rw[h.fndFo,hf]⟩
theorem PS.Inv.up(h:s.Inv):s.tell.Up where
 fo:=fun f hf=>by
  obtain⟨k,hk⟩:=aN hf;exact h.hasT (h.u1 k f hk)
 fe:=fun f hf=>by
  obtain⟨k,hk⟩:=aN hf;exact h.hasT (h.u2 k f hk)
 it:=fun t ht=>by
  obtain⟨k,hk⟩:=aN ht;obtain⟨f,hf⟩:=K6.1 (h.u3 k t hk);exact⟨f,by rw[h.fndFe,hf]⟩
 l1:=by have:=aH (z:=Fo.z) s.fo;have:=h.l1;show(valsM Fo.z s.fo).length≤_;omega
 l2:=by have:=aH (z:=Fe.z) s.fe;have:=h.l2;show(valsM Fe.z s.fe).length≤_;omega
 l3:=by have:=aH (z:=It.z) s.it;have:=h.l3;show(valsM It.z s.it).length≤_;omega
 tg:=fun t ht=>by
  obtain⟨k,hk⟩:=aN ht;exact(h.tg k t hk).2
end
end Go.Av
