/- Parts. -/
import Derived.Test.YtjfjncmgclaokaaGreatDoorMqUd
import Derived.Test.YtjfjncmgclaokaaGreatDoorMqDg
set_option linter.unusedSimpArgs false
set_option linter.unusedVariables false
set_option linter.unusedSectionVars false
set_option linter.unnecessarySimpa false
set_option maxRecDepth 100000
set_option maxHeartbeats 16000000
namespace Go.Av
open Go Go.Proofs Go.RowKit
attribute [local irreducible] WP WPl WPix Sat
variable (G:Nat→Option (List AVal))
theorem eK(s:Bs)(hs:s.length≤100000)(h:Heap):Sat (CT G) 87 [.str s] h (fun r h'=>r=.str (cleanF s)∧h'=h):=by
 have hll:=jF s.length s (H5 _);have hrl:=iQ s.length s (H5 _);have hcl:=dQ (runesF s) [] false hrl (by simp);have hdef:clnR (runesF s) [] false=cleanR s:=rfl;have hcf:encs (cleanR s)=cleanF s:=rfl;refine sb [.tmp 2] Tryz.func87 ?_;intro Q hQ;(repeat (first|refine w1 (fun K hK=>?_)|refine w2 ?_|refine w3 ?_| ((first|refine w4 ?_|refine wD ?_|refine w5 ?_|refine w6 ?_|refine w7 ?_);try refine sq trivial ?_)| (refine w8 ?_;refine sq trivial ?_;refine w9 ?_)| (refine rq trivial ?_;try refine sq trivial ?_)| (refine vq trivial ?_;try refine sq trivial ?_)| ((first|refine hK _ _ (w0 ?_)| (clear hK K;refine hK _ _ (w0 ?_))| (clear hK K;clear hK K;refine hK _ _ (w0 ?_)));clear hK K)))
 refine(ta G s (by omega) _).mono ?_;rintro r h' ⟨rfl,hk_⟩;replace hk_:=hk_.symm;subst hk_;try refine sq trivial ?_
 (repeat (first|refine w1 (fun K hK=>?_)|refine w2 ?_|refine w3 ?_| ((first|refine w4 ?_|refine wD ?_|refine w5 ?_|refine w6 ?_|refine w7 ?_);try refine sq trivial ?_)| (refine w8 ?_;refine sq trivial ?_;refine w9 ?_)| (refine rq trivial ?_;try refine sq trivial ?_)| (refine vq trivial ?_;try refine sq trivial ?_)| ((first|refine hK _ _ (w0 ?_)| (clear hK K;refine hK _ _ (w0 ?_))| (clear hK K;clear hK K;refine hK _ _ (w0 ?_)));clear hK K)))
 generalize runesF s=l at*;have hlm:(l.map runA).length=l.length:=I9 ..;have F:=hlm;refine lm (fun nL tL hL=>∃(k v:Nat) (acc:List Int) (w:Bool),l.length-k=nL∧h++[.row 21 1 v (acc.map runA)]=hL∧tL 4=.hs h.length v 0 acc.length true∧tL 5=.bool w∧tL 6=.int .i64 k∧k≤l.length∧clnR (l.drop k) acc w=cleanR s∧acc.length≤2*k) ((fun(k v:Nat) (acc:List Int) (w:Bool)=>(l.length-k:Nat)) (0) (0) ([]) (false)) ?_ ?_
 ·refine⟨_,_,V4 4 21 1 (by simp) (by omega) (by exact zq F),⟨0,0,[],false,rfl,ar,?_,?_,?_,by omega,hdef,by simp⟩⟩;all_goals try exact zZz F
 rintro _ s2 h' ⟨k,v,acc,w,rfl,rfl,e4,e5,e6,hk,hv,hl⟩ K2 hK2;simp only[ai,ak,Nat.reduceEqDiff, ↓reduceIte]at e4 e5 e6;have F:=F4 F e4 e5 e6;(repeat (first|refine w1 (fun K hK=>?_)|refine w2 ?_|refine w3 ?_| ((first|refine w4 ?_|refine wD ?_|refine w5 ?_|refine w6 ?_|refine w7 ?_);try refine sq F ?_)| (refine w8 ?_;refine sq F ?_;refine w9 ?_)| (refine rq F ?_;try refine sq F ?_)| (refine vq F ?_;try refine sq F ?_)| ((first|refine hK _ _ (w0 ?_)| (clear hK K;refine hK _ _ (w0 ?_))| (clear hK K;clear hK K;refine hK _ _ (w0 ?_)));clear hK K)))
 refine cq F (fun c1=>?_) (fun c1=>?_)<;>(try exact c1.elim)
 ·obtain⟨y,hy,hym⟩:=ae c1;have hyl:(l.map runA)[k]? =some (.int .i32 y):=by rw[L4,hy];rfl
  rw[aF hy,clnR]at hv;have F:=F2 F hyl;(repeat (first|refine w1 (fun K hK=>?_)|refine w2 ?_|refine w3 ?_| ((first|refine w4 ?_|refine wD ?_|refine w5 ?_|refine w6 ?_|refine w7 ?_);try refine sq F ?_)| (refine w8 ?_;refine sq F ?_;refine w9 ?_)| (refine rq F ?_;try refine sq F ?_)| (refine vq F ?_;try refine sq F ?_)| ((first|refine hK _ _ (w0 ?_)| (clear hK K;refine hK _ _ (w0 ?_))| (clear hK K;clear hK K;refine hK _ _ (w0 ?_)));clear hK K)))
  refine(qO G y _).mono ?_;rintro r h' ⟨rfl,rfl⟩;try refine sq F ?_
  (repeat (first|refine w1 (fun K hK=>?_)|refine w2 ?_|refine w3 ?_| ((first|refine w4 ?_|refine wD ?_|refine w5 ?_|refine w6 ?_|refine w7 ?_);try refine sq F ?_)| (refine w8 ?_;refine sq F ?_;refine w9 ?_)| (refine rq F ?_;try refine sq F ?_)| (refine vq F ?_;try refine sq F ?_)| ((first|refine hK _ _ (w0 ?_)| (clear hK K;refine hK _ _ (w0 ?_))| (clear hK K;clear hK K;refine hK _ _ (w0 ?_)));clear hK K)))
  have ho:decide ((acc.length:Int)>0)=decide (0<acc.length):=by
   rw[N8];simp only[H2];omega
  refine cq F (fun c2=>?_) (fun c2=>?_)<;>(try exact c2.elim)<;>((repeat (first|refine w1 (fun K hK=>?_)|refine w2 ?_|refine w3 ?_| ((first|refine w4 ?_|refine wD ?_|refine w5 ?_|refine w6 ?_|refine w7 ?_);try refine sq F ?_)| (refine w8 ?_;refine sq F ?_;refine w9 ?_)| (refine rq F ?_;try refine sq F ?_)| (refine vq F ?_;try refine sq F ?_)| ((first|refine hK _ _ (w0 ?_)| (clear hK K;refine hK _ _ (w0 ?_))| (clear hK K;clear hK K;refine hK _ _ (w0 ?_)));clear hK K))))
  ·rw[G3 c2]at hv;have F:=F2 F ho;(try refine sq F ?_);refine hK2 _ _ _ (G9 ⟨k+1,v,acc,decide (0<acc.length),rfl,ar,?_,?_,?_,by omega,hv,by omega⟩) (by omega);all_goals try exact zZz F
  ·rw[G0 (by simp[c2])]at hv;have yes:(y<32∨(127≤y∧y≤159))→ctlR y=true:=fun h=>G8 h
   have no:¬(y<32∨(127≤y∧y≤159))→ctlR y=false:=fun h=>G7 h
   (first|refine gq F (fun g1=>?_) (fun g1=>?_)|refine pq F (fun g1=>?_) (fun g1=>?_))<;>(try exact g1.elim)<;>(try refine sq F ?_)<;>((repeat (first|refine w1 (fun K hK=>?_)|refine w2 ?_|refine w3 ?_| ((first|refine w4 ?_|refine wD ?_|refine w5 ?_|refine w6 ?_|refine w7 ?_);try refine sq F ?_)| (refine w8 ?_;refine sq F ?_;refine w9 ?_)| (refine rq F ?_;try refine sq F ?_)| (refine vq F ?_;try refine sq F ?_)| ((first|refine hK _ _ (w0 ?_)| (clear hK K;refine hK _ _ (w0 ?_))| (clear hK K;clear hK K;refine hK _ _ (w0 ?_)));clear hK K))))
   ·rw[G3 (yes (by omega))]at hv;refine hK2 _ _ _ (G9 ⟨k+1,v,acc,w,rfl,ar,?_,?_,?_,by omega,hv,by omega⟩) (by omega);all_goals try exact zZz F
   ·(first|refine gq F (fun g2=>?_) (fun g2=>?_)|refine pq F (fun g2=>?_) (fun g2=>?_))<;>(try exact g2.elim)<;>(try refine sq F ?_)<;>((repeat (first|refine w1 (fun K hK=>?_)|refine w2 ?_|refine w3 ?_| ((first|refine w4 ?_|refine wD ?_|refine w5 ?_|refine w6 ?_|refine w7 ?_);try refine sq F ?_)| (refine w8 ?_;refine sq F ?_;refine w9 ?_)| (refine rq F ?_;try refine sq F ?_)| (refine vq F ?_;try refine sq F ?_)| ((first|refine hK _ _ (w0 ?_)| (clear hK K;refine hK _ _ (w0 ?_))| (clear hK K;clear hK K;refine hK _ _ (w0 ?_)));clear hK K))))
    ·refine cq F (fun g3=>?_) (fun g3=>?_)<;>(try exact g3.elim)<;>((repeat (first|refine w1 (fun K hK=>?_)|refine w2 ?_|refine w3 ?_| ((first|refine w4 ?_|refine wD ?_|refine w5 ?_|refine w6 ?_|refine w7 ?_);try refine sq F ?_)| (refine w8 ?_;refine sq F ?_;refine w9 ?_)| (refine rq F ?_;try refine sq F ?_)| (refine vq F ?_;try refine sq F ?_)| ((first|refine hK _ _ (w0 ?_)| (clear hK K;refine hK _ _ (w0 ?_))| (clear hK K;clear hK K;refine hK _ _ (w0 ?_)));clear hK K))))
     ·rw[G3 (yes (by omega))]at hv;refine hK2 _ _ _ (G9 ⟨k+1,v,acc,w,rfl,ar,?_,?_,?_,by omega,hv,by omega⟩) (by omega);all_goals try exact zZz F
     ·rw[G0 (by rw[no (by omega)];simp)]at hv;refine cq F (fun c3=>?_) (fun c3=>?_)<;>(try exact c3.elim)<;>((repeat (first|refine w1 (fun K hK=>?_)|refine w2 ?_|refine w3 ?_| ((first|refine w4 ?_|refine wD ?_|refine w5 ?_|refine w6 ?_|refine w7 ?_);try refine sq F ?_)| (refine w8 ?_;refine sq F ?_;refine w9 ?_)| (refine rq F ?_;try refine sq F ?_)| (refine vq F ?_;try refine sq F ?_)| ((first|refine hK _ _ (w0 ?_)| (clear hK K;refine hK _ _ (w0 ?_))| (clear hK K;clear hK K;refine hK _ _ (w0 ?_)));clear hK K))))
      ·rw[G3 c3]at hv;refine aq F ?_;(try refine sq F ?_);(repeat (first|refine w1 (fun K hK=>?_)|refine w2 ?_|refine w3 ?_| ((first|refine w4 ?_|refine wD ?_|refine w5 ?_|refine w6 ?_|refine w7 ?_);try refine sq F ?_)| (refine w8 ?_;refine sq F ?_;refine w9 ?_)| (refine rq F ?_;try refine sq F ?_)| (refine vq F ?_;try refine sq F ?_)| ((first|refine hK _ _ (w0 ?_)| (clear hK K;refine hK _ _ (w0 ?_))| (clear hK K;clear hK K;refine hK _ _ (w0 ?_)));clear hK K)))
       refine aq F ?_;(try refine sq F ?_);(repeat (first|refine w1 (fun K hK=>?_)|refine w2 ?_|refine w3 ?_| ((first|refine w4 ?_|refine wD ?_|refine w5 ?_|refine w6 ?_|refine w7 ?_);try refine sq F ?_)| (refine w8 ?_;refine sq F ?_;refine w9 ?_)| (refine rq F ?_;try refine sq F ?_)| (refine vq F ?_;try refine sq F ?_)| ((first|refine hK _ _ (w0 ?_)| (clear hK K;refine hK _ _ (w0 ?_))| (clear hK K;clear hK K;refine hK _ _ (w0 ?_)));clear hK K)))
       refine hK2 _ _ _ (G9 ⟨k+1,v+1+1,acc++[32,y],false,rfl,by simp[runA],?_,?_,?_,by omega,hv,by simp;omega⟩) (by omega);all_goals try exact zZz F
      ·rw[G0 (by simp[c3])]at hv;refine aq F ?_;(try refine sq F ?_);(repeat (first|refine w1 (fun K hK=>?_)|refine w2 ?_|refine w3 ?_| ((first|refine w4 ?_|refine wD ?_|refine w5 ?_|refine w6 ?_|refine w7 ?_);try refine sq F ?_)| (refine w8 ?_;refine sq F ?_;refine w9 ?_)| (refine rq F ?_;try refine sq F ?_)| (refine vq F ?_;try refine sq F ?_)| ((first|refine hK _ _ (w0 ?_)| (clear hK K;refine hK _ _ (w0 ?_))| (clear hK K;clear hK K;refine hK _ _ (w0 ?_)));clear hK K)))
       refine hK2 _ _ _ (G9 ⟨k+1,v+1,acc++[y],w,rfl,by simp[runA],?_,?_,?_,by omega,by rw[c3];exact hv,by simp;omega⟩) (by omega);all_goals try exact zZz F
    ·rw[G0 (by rw[no (by omega)];simp)]at hv;refine cq F (fun c3=>?_) (fun c3=>?_)<;>(try exact c3.elim)<;>((repeat (first|refine w1 (fun K hK=>?_)|refine w2 ?_|refine w3 ?_| ((first|refine w4 ?_|refine wD ?_|refine w5 ?_|refine w6 ?_|refine w7 ?_);try refine sq F ?_)| (refine w8 ?_;refine sq F ?_;refine w9 ?_)| (refine rq F ?_;try refine sq F ?_)| (refine vq F ?_;try refine sq F ?_)| ((first|refine hK _ _ (w0 ?_)| (clear hK K;refine hK _ _ (w0 ?_))| (clear hK K;clear hK K;refine hK _ _ (w0 ?_)));clear hK K))))
     ·rw[G3 c3]at hv;refine aq F ?_;(try refine sq F ?_);(repeat (first|refine w1 (fun K hK=>?_)|refine w2 ?_|refine w3 ?_| ((first|refine w4 ?_|refine wD ?_|refine w5 ?_|refine w6 ?_|refine w7 ?_);try refine sq F ?_)| (refine w8 ?_;refine sq F ?_;refine w9 ?_)| (refine rq F ?_;try refine sq F ?_)| (refine vq F ?_;try refine sq F ?_)| ((first|refine hK _ _ (w0 ?_)| (clear hK K;refine hK _ _ (w0 ?_))| (clear hK K;clear hK K;refine hK _ _ (w0 ?_)));clear hK K)))
      refine aq F ?_;(try refine sq F ?_);(repeat (first|refine w1 (fun K hK=>?_)|refine w2 ?_|refine w3 ?_| ((first|refine w4 ?_|refine wD ?_|refine w5 ?_|refine w6 ?_|refine w7 ?_);try refine sq F ?_)| (refine w8 ?_;refine sq F ?_;refine w9 ?_)| (refine rq F ?_;try refine sq F ?_)| (refine vq F ?_;try refine sq F ?_)| ((first|refine hK _ _ (w0 ?_)| (clear hK K;refine hK _ _ (w0 ?_))| (clear hK K;clear hK K;refine hK _ _ (w0 ?_)));clear hK K)))
      refine hK2 _ _ _ (G9 ⟨k+1,v+1+1,acc++[32,y],false,rfl,by simp[runA],?_,?_,?_,by omega,hv,by simp;omega⟩) (by omega);all_goals try exact zZz F
     ·rw[G0 (by simp[c3])]at hv;refine aq F ?_;(try refine sq F ?_);(repeat (first|refine w1 (fun K hK=>?_)|refine w2 ?_|refine w3 ?_| ((first|refine w4 ?_|refine wD ?_|refine w5 ?_|refine w6 ?_|refine w7 ?_);try refine sq F ?_)| (refine w8 ?_;refine sq F ?_;refine w9 ?_)| (refine rq F ?_;try refine sq F ?_)| (refine vq F ?_;try refine sq F ?_)| ((first|refine hK _ _ (w0 ?_)| (clear hK K;refine hK _ _ (w0 ?_))| (clear hK K;clear hK K;refine hK _ _ (w0 ?_)));clear hK K)))
      refine hK2 _ _ _ (G9 ⟨k+1,v+1,acc++[y],w,rfl,by simp[runA],?_,?_,?_,by omega,by rw[c3];exact hv,by simp;omega⟩) (by omega);all_goals try exact zZz F
 ·rw[aY c1,clnR]at hv;(repeat (first|refine w1 (fun K hK=>?_)|refine w2 ?_|refine w3 ?_| ((first|refine w4 ?_|refine wD ?_|refine w5 ?_|refine w6 ?_|refine w7 ?_);try refine sq F ?_)| (refine w8 ?_;refine sq F ?_;refine w9 ?_)| (refine rq F ?_;try refine sq F ?_)| (refine vq F ?_;try refine sq F ?_)))
  have hg:getRow (h++[.row 21 1 v (acc.map runA)]) h.length v=some (21,1,acc.map runA):=by simp[getRow]
  have ht:∀(ms:List Nat) (t:Env),4∈ms→t 4=.hs h.length v 0 acc.length true→∀i,upd t 4 (.sl 1 (acc.map runA)) i=t i∨(i∈ms∧Fz (h++[.row 21 1 v (acc.map runA)]) h.length v (t i) (upd t 4 (.sl 1 (acc.map runA)) i)):=fun ms t hm ht i=>by
   by_cases hi:i=4
   ·subst hi;right;refine⟨hm,?_⟩;rw[ht];simp only[upd, ↓reduceIte];exact Fz.all _ _ _ hg rfl (by simp)
   ·left;simp only[upd];rw[G0 hi]
  clear hK K;refine hK _ _ ⟨_,_,Weak.fz h.length v hg (ht _ _ (by decide+kernel) (by exact zq F)),?_⟩;clear hK K;have hset:(h++[Blk.row 21 1 v (acc.map runA)]).set h.length Blk.dead=h++[Blk.dead]:=by simp
  rw[hset];(repeat (first|refine w1 (fun K hK=>?_)|refine w2 ?_|refine w3 ?_| ((first|refine w4 ?_|refine wD ?_|refine w5 ?_|refine w6 ?_|refine w7 ?_);try refine sq F ?_)| (refine w8 ?_;refine sq F ?_;refine w9 ?_)| (refine rq F ?_;try refine sq F ?_)| (refine vq F ?_;try refine sq F ?_)| ((first|refine hK _ _ (w0 ?_)| (clear hK K;refine hK _ _ (w0 ?_))| (clear hK K;clear hK K;refine hK _ _ (w0 ?_)));clear hK K)))
  refine(oU G acc (fun r hr=>hcl r (by rw[hdef, ← hv];exact hr)) (by omega) _).mono ?_;rintro r h' ⟨rfl,rfl⟩;try refine sq F ?_
  (repeat (first|refine w1 (fun K hK=>?_)|refine w2 ?_|refine w3 ?_| ((first|refine w4 ?_|refine wD ?_|refine w5 ?_|refine w6 ?_|refine w7 ?_);try refine sq F ?_)| (refine w8 ?_;refine sq F ?_;refine w9 ?_)| (refine rq F ?_;try refine sq F ?_)| (refine vq F ?_;try refine sq F ?_)| ((first|refine hK _ _ (w0 ?_)| (clear hK K;refine hK _ _ (w0 ?_))| (clear hK K;clear hK K;refine hK _ _ (w0 ?_)));clear hK K)))
  refine ee hQ F ?_;refine fR (.str _) ?_;rw[hv];exact J2 AVal.str hcf
theorem ij(s:Bs)(n:Nat)(hs:s.length≤100000)(hn:n≤1000)(h:Heap):Sat (CT G) 187 [.str s,.int .i64 n] h (fun r h'=>r=.str (shortF s n)∧h'=h):=by
 have h1:=cI s;have h2:=(jg (cleanF s) n).1;refine sb [.tmp 4] Tryz.func187 ?_;intro Q hQ;refine wk trivial ?_;refine kq trivial (eK G s (by omega) _) ?_;refine kq trivial (vk G (cleanF s) n (by omega) (by omega) _) ?_;refine kq trivial (eK G (cutF (cleanF s) n) (by omega) _) ?_;refine ee hQ trivial ?_;refine fR (.str _) ?_;rfl
theorem td(a b c:Bs)(h:Heap):Sat (CT G) 164 [.sl 1 [.str a,.str b,.str c]] h (fun r h'=>r=.str (orF a b c)∧h'=h):=by
 refine sb [.tmp 2] Tryz.func164 ?_;intro Q hQ;refine wk trivial ?_;refine lm (fun nL tL hL=>∃(k:Nat),3-k=nL∧h=hL∧tL 8=.int .i64 k∧k≤3∧(1≤k→a=[])∧(2≤k→b=[])∧(3≤k→c=[])) ((fun(k:Nat)=>(3-k:Nat)) (0)) ?_ ?_
 ·refine G9 ⟨0,rfl,ar,?_,by omega,fun h=>by omega,fun h=>by omega,fun h=>by omega⟩;all_goals try exact zZz trivial
 rintro _ s2 h' ⟨k,rfl,rfl,e8,hk,h0,h1,h2⟩ K2 hK2;simp only[ai,ak,Nat.reduceEqDiff, ↓reduceIte]at e8;have F:=e8;refine wk F ?_;refine cq F (fun c1=>?_) (fun c1=>?_)<;>(try exact c1.elim)<;>(refine wk F ?_)
 ·obtain⟨y,hy,hyv⟩:∃y:Bs,([.str a,.str b,.str c]:List AVal)[k]? =some (.str y)∧((k=0∧y=a)∨(k=1∧y=b)∨(k=2∧y=c)):=by
   match k,c1 with
   |0,_=>exact⟨a,rfl,.inl ⟨rfl,rfl⟩⟩
   |1,_=>exact⟨b,rfl,.inr (.inl ⟨rfl,rfl⟩)⟩
   |2,_=>exact⟨c,rfl,.inr (.inr ⟨rfl,rfl⟩)⟩
   |k+3,c1=>exfalso;omega
  have F:=F2 F hy;try refine sq F ?_
  refine wk F ?_;refine cq F (fun c2=>?_) (fun c2=>?_)<;>(try exact c2.elim)<;>(refine wk F ?_)
  ·refine ee hQ F ?_;refine fR (.str _) ?_;unfold orF;rcases hyv with⟨rfl,rfl⟩| ⟨rfl,rfl⟩| ⟨rfl,rfl⟩
   ·rw[G3 c2]
   ·rw[G0 (by simp[h0 (by omega)]),G3 c2]
   ·rw[G0 (by simp[h0 (by omega)]),G0 (by simp[h1 (by omega)])]
  ·have c3:y=[]:=(by simpa using c2);have n0:1≤k+1→a=[]:=fun hh=>by
    rcases hyv with⟨rfl,rfl⟩| ⟨rfl,rfl⟩| ⟨rfl,rfl⟩
    ·exact c3
    ·exact h0 (by omega)
    ·exact h0 (by omega)
   have n1:2≤k+1→b=[]:=fun hh=>by
    rcases hyv with⟨rfl,rfl⟩| ⟨rfl,rfl⟩| ⟨rfl,rfl⟩
    ·omega
    ·exact c3
    ·exact h1 (by omega)
   have n2:3≤k+1→c=[]:=fun hh=>by
    rcases hyv with⟨rfl,rfl⟩| ⟨rfl,rfl⟩| ⟨rfl,rfl⟩
    ·omega
    ·omega
    ·exact c3
   refine hK2 _ _ _ (G9 ⟨k+1,rfl,ar,?_,by omega,n0,n1,n2⟩) (by omega);all_goals try exact zZz F
 ·have h3:=h2 (by omega);subst h3;refine wk F ?_;refine ee hQ F ?_;refine fR (.str _) ?_;unfold orF;rw[h0 (by omega),h1 (by omega)];rfl
theorem bQ(N:Nat)(a:Int)(c:Bool):Clo N (.tup [.int .i64 a,.bool c]):=.tup _ (fun x hx=>by simp only[J6,O7,or_false]at hx;rcases hx with rfl|rfl<;>first|exact .int _ _|exact .bool _)
theorem ji(e:Elem)(n:Bs)(hs:e.sz≤1048576):(kidF e n).1.text.length≤1048576:=by
 unfold kidF;split
 ·exact Nat.zero_le _
 ·rename_i k l hk;have hm:k∈e.kids:=by
   have:k∈kidsF e n:=by rw[hk];simp
   unfold kidsF at this;exact(List.mem_filter.1 this).1
  have h1:=Elem.kid_sz hm;have h3:=k.text_len;show k.text.length≤_;omega
theorem bC(e:Elem)(n:Bs)(m:Nat)(hs:e.sz≤1048576)(hm:m≤1000)(h:Heap):Sat (CT G) 107 [e.av,.str n,.int .i64 m] h (fun r h'=>r=.str (fieldF e n m)∧h'=h):=by
 have hKd:=gA G e n hs;have ht:=ji e n hs;obtain⟨k,hk⟩:∃k,k=kidF e n:=⟨_,rfl⟩;have hf:fieldF e n m=cleanF (cutF (cleanF k.1.text) m):=by unfold fieldF shortF;rw[hk]
 rw[← hk]at hKd ht;obtain⟨⟨k1,k2,k3,k4⟩,is⟩:=k;have ht:k3.length≤1048576:=ht;have hc:=cI k3;have hct:=jg (cleanF k3) m;have h1:=dp G k3 (by omega);have h2:=ul G (cleanF k3) m (by omega) (by omega);have h3:=dp G (cutF (cleanF k3) m) (by omega);rw[hf];have F:= @al;refine sb [.tmp 6] Tryz.func107 ?_;intro Q hQ;refine wk F ?_;refine kq F (hKd _) ?_;refine kq F (h1 _) ?_;refine kq F (h2 _) ?_;refine kq F (h3 _) ?_;refine ee hQ F ?_;exact H3 (.str _) ⟨rfl,rfl⟩
theorem bR(e:Elem)(n:Bs)(m:Nat)(hs:e.sz≤1048576)(ht:(kidF e n).1.text.length≤100000)(hm:m≤1000)(h:Heap):Sat (CT G) 120 [e.av,.str n,.int .i64 m] h (fun r h'=>r=.str (fieldF e n m)∧h'=h):=by
 have hKd:=iE G e n hs;have h1:=ij G (kidF e n).1.text m ht hm;have hf:fieldF e n m=shortF (kidF e n).1.text m:=rfl;rw[hf];generalize kidF e n=k at*;obtain⟨⟨k1,k2,k3,k4⟩,is⟩:=k;have F:= @al;refine sb [.tmp 6] Tryz.func120 ?_;intro Q hQ;refine wk F ?_;refine kq F (hKd _) ?_;refine kq F (h1 _) ?_;refine ee hQ F ?_;exact H3 (.str _) ⟨rfl,rfl⟩
def DateC(F:FuncId)(f:Bs→Option Int):Prop:=∀s:Bs,s.length≤8388608→∀h,Sat (CT G) F [.str s] h (fun r h'=>r=.tup [.int .i64 ((f s).getD 0),.int .i64 (if (f s).isSome then 0 else 40)]∧h'=h)
theorem ov(hA:DateC G 263 anyF)(e:Elem)(n:Bs)(hs:e.sz≤1048576)(h:Heap):Sat (CT G) 220 [e.av,.str n] h (fun r h'=>r=.tup [.int .i64 ((momE anyF e n).getD 0),.bool (momE anyF e n).isSome]∧h'=h):=by
 have hKd:=gA G e n hs;have ht:=ji e n hs;have hm:momE anyF e n=if (kidF e n).2 then anyF (cleanF (kidF e n).1.text)else none:=rfl
 rw[hm];generalize kidF e n=k at*;obtain⟨⟨k1,k2,k3,k4⟩,is⟩:=k;have ht:k3.length≤1048576:=ht;have hc:=cI k3;have h1:=dp G k3 (by omega);have h2:=hA (cleanF k3) (by omega);clear hm;cases is with
 |false=>
  have F:= @al;refine sb [.tmp 4,.tmp 5] Tryz.func220 ?_;intro Q hQ;refine wk F ?_;refine kq F (hKd _) ?_;refine ee hQ F ?_;exact H3 (bQ _ _ _) ⟨rfl,rfl⟩
 |true=>
  cases ha:anyF (cleanF k3)with
  |none=>
   rw[ha]at h2;have h2:∀h,Sat (CT G) 263 [.str (cleanF k3)] h (fun r h'=>r=.tup [.int .i64 0,.int .i64 40]∧h'=h):=h2;have F:= @al;refine sb [.tmp 4,.tmp 5] Tryz.func220 ?_;intro Q hQ;refine wk F ?_;refine kq F (hKd _) ?_;refine kq F (h1 _) ?_;refine kq F (h2 _) ?_;refine ee hQ F ?_;refine H3 (bQ _ _ _) ⟨?_,rfl⟩;show _=AVal.tup [.int .i64 ((anyF (cleanF k3)).getD 0),.bool (anyF (cleanF k3)).isSome];rw[ha];rfl
  |some v=>
   rw[ha]at h2;have h2:∀h,Sat (CT G) 263 [.str (cleanF k3)] h (fun r h'=>r=.tup [.int .i64 v,.int .i64 0]∧h'=h):=h2;have F:= @al;refine sb [.tmp 4,.tmp 5] Tryz.func220 ?_;intro Q hQ;refine wk F ?_;refine kq F (hKd _) ?_;refine kq F (h1 _) ?_;refine kq F (h2 _) ?_;refine ee hQ F ?_;refine H3 (bQ _ _ _) ⟨?_,rfl⟩;show _=AVal.tup [.int .i64 ((anyF (cleanF k3)).getD 0),.bool (anyF (cleanF k3)).isSome];rw[ha];rfl
theorem fu(f:Bs→Option Int)(e:Elem){l:List Bs}{k:Nat}{x:Bs}(hx:l[k]? =some x):momL f e (l.drop k)=match momE f e x with|some v=>some v|none=>momL f e (l.drop (k+1)):=by
 obtain⟨hlt,he⟩:=F1.1 hx;rw[P9 hlt,he];rfl
theorem ow(hA:DateC G 263 anyF)(e:Elem)(l:List Bs)(hs:e.sz≤1048576)(hl:l.length≤1048576)(h:Heap):Sat (CT G) 165 [e.av,.sl 1 (l.map .str)] h (fun r h'=>r=.tup [.int .i64 ((momL anyF e l).getD 0),.bool (momL anyF e l).isSome]∧h'=h):=by
 have ml:(l.map AVal.str).length=l.length:=I9 ..;have F:=F2 ml @al;refine sb [.tmp 4,.tmp 5] Tryz.func165 ?_;intro Q hQ;refine wk F ?_;refine lm (fun nL tL hL=>∃(k:Nat),l.length-k=nL∧h++[.row 76 4 0 [e.av]]=hL∧tL 12=.int .i64 k∧k≤l.length∧momL anyF e (l.drop k)=momL anyF e l) ((fun(k:Nat)=>(l.length-k:Nat)) (0)) ?_ ?_
 ·refine G9 ⟨0,rfl,ar,?_,by omega,rfl⟩;all_goals try exact zZz F
 rintro _ s2 h' ⟨k,rfl,rfl,e12,hk,hp⟩ K2 hK2;simp only[ai,ak,Nat.reduceEqDiff, ↓reduceIte]at e12;have F:=F2 F e12;by_cases c1:k<l.length
 ·obtain⟨x,hx,_⟩:=ae c1;have d1:=G8 c1;have hM:=ov G hA e x hs;rw[fu anyF e hx]at hp;cases hv:momE anyF e x with
  |some v=>
   rw[hv]at hM hp;have hM:∀h,Sat (CT G) 220 [e.av,.str x] h (fun r h'=>r=.tup [.int .i64 v,.bool true]∧h'=h):=hM;have hp:some v=momL anyF e l:=hp;have F:=F3 F hx d1;(try refine sq F ?_);refine wk F ?_;refine kq F (hM _) ?_;refine ee hQ F ?_;exact H3 (bQ _ _ _) ⟨by rw[← hp];rfl,rfl⟩
  |none=>
   rw[hv]at hM hp;have hM:∀h,Sat (CT G) 220 [e.av,.str x] h (fun r h'=>r=.tup [.int .i64 0,.bool false]∧h'=h):=hM;have hp:momL anyF e (l.drop (k+1))=momL anyF e l:=hp;have F:=F3 F hx d1;(try refine sq F ?_);refine wk F ?_;refine kq F (hM _) ?_;refine hK2 _ _ _ (G9 ⟨k+1,rfl,ar,?_,by omega,hp⟩) (by omega);all_goals try exact zZz F
 ·have d1:=G7 c1;have hp:momL anyF e l=none:=by
   rw[← hp,M0 (by omega)];rfl
  have F:=F2 F d1;try refine sq F ?_
  refine wk F ?_;refine ee hQ F ?_;exact H3 (bQ _ _ _) ⟨by rw[hp];rfl,rfl⟩
theorem Cz:DateC G 301 webR:=fun s hs h=>by
 have:=p8 G s (by omega) h;rw[mK]at this;exact this
def updL:List Bs:=[bUpd,bPubl,bIss]
theorem ns(hA:DateC G 301 webR)(e:Elem)(n:Bs)(hs:e.sz≤1048576)(h:Heap):Sat (CT G) 264 [e.av,.str n] h (fun r h'=>r=.tup [.int .i64 ((momE webR e n).getD 0),.bool (momE webR e n).isSome]∧h'=h):=by
 have hKd:=gA G e n hs;have ht:=ji e n hs;have hm:momE webR e n=if (kidF e n).2 then webR (cleanF (kidF e n).1.text)else none:=rfl
 rw[hm];generalize kidF e n=k at*;obtain⟨⟨k1,k2,k3,k4⟩,is⟩:=k;have ht:k3.length≤1048576:=ht;have hc:=cI k3;have h1:=dp G k3 (by omega);have h2:=hA (cleanF k3) (by omega);clear hm;cases is with
 |false=>
  have F:= @al;refine sb [.tmp 4,.tmp 5] Tryz.func264 ?_;intro Q hQ;refine wk F ?_;refine kq F (hKd _) ?_;refine ee hQ F ?_;exact H3 (bQ _ _ _) ⟨rfl,rfl⟩
 |true=>
  cases ha:webR (cleanF k3)with
  |none=>
   rw[ha]at h2;have h2:∀h,Sat (CT G) 301 [.str (cleanF k3)] h (fun r h'=>r=.tup [.int .i64 0,.int .i64 40]∧h'=h):=h2;have F:= @al;refine sb [.tmp 4,.tmp 5] Tryz.func264 ?_;intro Q hQ;refine wk F ?_;refine kq F (hKd _) ?_;refine kq F (h1 _) ?_;refine kq F (h2 _) ?_;refine ee hQ F ?_;refine H3 (bQ _ _ _) ⟨?_,rfl⟩;show _=AVal.tup [.int .i64 ((webR (cleanF k3)).getD 0),.bool (webR (cleanF k3)).isSome];rw[ha];rfl
  |some v=>
   rw[ha]at h2;have h2:∀h,Sat (CT G) 301 [.str (cleanF k3)] h (fun r h'=>r=.tup [.int .i64 v,.int .i64 0]∧h'=h):=h2;have F:= @al;refine sb [.tmp 4,.tmp 5] Tryz.func264 ?_;intro Q hQ;refine wk F ?_;refine kq F (hKd _) ?_;refine kq F (h1 _) ?_;refine kq F (h2 _) ?_;refine ee hQ F ?_;refine H3 (bQ _ _ _) ⟨?_,rfl⟩;show _=AVal.tup [.int .i64 ((webR (cleanF k3)).getD 0),.bool (webR (cleanF k3)).isSome];rw[ha];rfl
theorem nt(hA:DateC G 301 webR)(e:Elem)(hs:e.sz≤1048576)(h:Heap):Sat (CT G) 223 [e.av] h (fun r h'=>r=.tup [.int .i64 ((momL webR e updL).getD 0),.bool (momL webR e updL).isSome]∧h'=h):=by
 obtain⟨l,hl⟩:∃l,l=updL:=⟨_,rfl⟩;have hll:l.length=3:=by rw[hl];rfl
 have hg:∀(k:Nat) (x:Bs),l[k]? =some x→([.str [117,112,100,97,116,101,100],.str [112,117,98,108,105,115,104,101,100],.str [105,115,115,117,101,100]]:List AVal)[k]? =some (.str x):=fun k x hx=>by
  have:(l.map AVal.str)[k]? =some (.str x):=by rw[L4,hx];rfl
  rw[hl]at this;exact this
 rw[← hl];have F:= @al;refine sb [.tmp 2,.tmp 3] Tryz.func223 ?_;intro Q hQ;refine wk F ?_;refine lm (fun nL tL hL=>∃(k:Nat),l.length-k=nL∧h++[.row 76 4 0 [e.av]]=hL∧tL 10=.int .i64 k∧k≤l.length∧momL webR e (l.drop k)=momL webR e l) ((fun(k:Nat)=>(l.length-k:Nat)) (0)) ?_ ?_
 ·refine G9 ⟨0,rfl,ar,?_,by omega,rfl⟩;all_goals try exact zZz F
 rintro _ s2 h' ⟨k,rfl,rfl,e10,hk,hp⟩ K2 hK2;simp only[ai,ak,Nat.reduceEqDiff, ↓reduceIte]at e10;have F:=F2 F e10;by_cases c1:k<l.length
 ·obtain⟨x,hx,_⟩:=ae c1;have d1:decide ((k:Int)<3)=true:=G8 (by omega);have hgx:=hg k x hx;have hM:=ns G hA e x hs;rw[fu webR e hx]at hp;cases hv:momE webR e x with
  |some v=>
   rw[hv]at hM hp;have hM:∀h,Sat (CT G) 264 [e.av,.str x] h (fun r h'=>r=.tup [.int .i64 v,.bool true]∧h'=h):=hM;have hp:some v=momL webR e l:=hp;have F:=F3 F hgx d1;(try refine sq F ?_);refine wk F ?_;refine kq F (hM _) ?_;refine ee hQ F ?_;exact H3 (bQ _ _ _) ⟨by rw[← hp];rfl,rfl⟩
  |none=>
   rw[hv]at hM hp;have hM:∀h,Sat (CT G) 264 [e.av,.str x] h (fun r h'=>r=.tup [.int .i64 0,.bool false]∧h'=h):=hM;have hp:momL webR e (l.drop (k+1))=momL webR e l:=hp;have F:=F3 F hgx d1;(try refine sq F ?_);refine wk F ?_;refine kq F (hM _) ?_;refine hK2 _ _ _ (G9 ⟨k+1,rfl,ar,?_,by omega,hp⟩) (by omega);all_goals try exact zZz F
 ·have d1:decide ((k:Int)<3)=false:=G7 (by omega);have hp:momL webR e l=none:=by
   rw[← hp,M0 (by omega)];rfl
  have F:=F2 F d1;try refine sq F ?_
  refine wk F ?_;refine ee hQ F ?_;exact H3 (bQ _ _ _) ⟨by rw[hp];rfl,rfl⟩
def En.z:En:=⟨[],[],[],0,false⟩
def oEn(o:Option En):AVal:=.tup [(o.getD En.z).av,.bool o.isSome]
theorem bM(N:Nat)(x:En)(b:Bool):Clo N (.tup [x.av,.bool b]):=.tup _ (fun c hc=>by simp only[J6,O7,or_false]at hc;rcases hc with rfl|rfl<;>first|exact x.clo _|exact .bool _)
theorem qP(hA:DateC G 263 anyF)(e:Elem)(hs:e.sz≤1048576)(h:Heap):Sat (CT G) 109 [e.av] h (fun r h'=>r=oEn (entR e)∧h'=h):=by
 have fT:=bC G e bTitle 256 hs (by omega);have fL:=bC G e bLink 512 hs (by omega);have fG:=bC G e bGuid 512 hs (by omega);have hM:=ow G hA e [bPub,bDate] hs (by decide);have hE:entR e=mkE (orF (fieldF e bGuid 512) (fieldF e bLink 512) (fieldF e bTitle 256)) (fieldF e bTitle 256) (fieldF e bLink 512) (momL anyF e [bPub,bDate]):=rfl;rw[hE];generalize fieldF e bTitle 256=t at*;generalize fieldF e bLink 512=l at*;generalize fieldF e bGuid 512=g at*;generalize momL anyF e [bPub,bDate]=m at*;have hO:=td G g l t;generalize orF g l t=u at*;clear hE;have hz:ofVal (.agg #[.string ⟨#[]⟩,.string ⟨#[]⟩,.string ⟨#[]⟩,.int .i64 0,.bool false])=.agg [.str [],.str [],.str [],.int .i64 0,.bool false]:=rfl;by_cases hu:u=[]
 ·have q:(u==([]:Bs))=true:=by simp[hu]
  have eo:oEn (mkE u t l m)=.tup [En.z.av,.bool false]:=by unfold mkE;rw[G3 hu];rfl
  rw[eo];have F:=F3 q hz @al
  skip
  refine sb [.cell 2 61,.tmp 3] Tryz.func109 ?_;intro Q hQ;refine wn F ?_;refine aG 5 5 _ (by rfl) (by decide+kernel) (by kernel_rfl) (by decide+kernel) (by decide+kernel) (by decide+kernel) ?_;simp only[H8,J1];refine sq F ?_;refine wn F ?_;refine aa (fT _) ?_;try refine sq F ?_
  refine wn F ?_;refine aa (fL _) ?_;try refine sq F ?_
  refine wn F ?_;try refine⟨by decide+kernel,?_⟩
  try refine sq F ?_
  refine⟨?_,?_⟩
  ·refine aa (fT _) ?_;(try refine sq F ?_);refine wn F ?_;refine aa (fL _) ?_;(try refine sq F ?_);refine wn F ?_;all_goals first|exact zq F|trivial| (refine sq F ?_;trivial)
  skip
  try refine sq F ?_
  refine wk F ?_;refine aa (fG _) ?_;try refine sq F ?_
  refine wk F ?_;refine aa (hO _) ?_;try refine sq F ?_
  refine wk F ?_;refine ye hQ F ?_;exact H3 (bM _ En.z _) ⟨rfl,rfl⟩
 ·have q:(u==([]:Bs))=false:=by simpa using hu
  have eo:oEn (mkE u t l m)=.tup [(⟨u,t,l,m.getD 0,m.isSome⟩:En).av,.bool true]:=by unfold mkE;rw[G0 hu];rfl
  rw[eo];have F:=F3 q hz @al
  skip
  refine sb [.cell 2 61,.tmp 3] Tryz.func109 ?_;intro Q hQ;refine wn F ?_;refine aG 5 5 _ (by rfl) (by decide+kernel) (by kernel_rfl) (by decide+kernel) (by decide+kernel) (by decide+kernel) ?_;simp only[H8,J1];refine sq F ?_;refine wn F ?_;refine aa (fT _) ?_;try refine sq F ?_
  refine wn F ?_;refine aa (fL _) ?_;try refine sq F ?_
  refine wn F ?_;try refine⟨by decide+kernel,?_⟩
  try refine sq F ?_
  refine⟨?_,?_⟩
  ·refine aa (fT _) ?_;(try refine sq F ?_);refine wn F ?_;refine aa (fL _) ?_;(try refine sq F ?_);refine wn F ?_;all_goals first|exact zq F|trivial| (refine sq F ?_;trivial)
  skip
  try refine sq F ?_
  refine wk F ?_;refine aa (fG _) ?_;try refine sq F ?_
  refine wk F ?_;refine aa (hO _) ?_;try refine sq F ?_
  refine wk F ?_;refine kq F (hM _) ?_;refine ye hQ F ?_;exact H3 (bM _ (⟨u,t,l,m.getD 0,m.isSome⟩:En) _) ⟨rfl,rfl⟩
def Fd.z:Fd:=⟨[],[],[]⟩
theorem Fd.clo(n:Nat)(d:Fd):Clo n d.av:=.agg _ fun c hc=>by
 simp only[J6,O7,or_false]at hc;rcases hc with rfl|rfl|rfl
 ·exact .str _
 ·exact .str _
 ·exact .sl _ _ (fun r hr=>by obtain⟨x,_,rfl⟩:=J9.1 hr;exact x.clo _)
def oFd(o:Option Fd):AVal:=.tup [(o.getD Fd.z).av,.bool o.isSome]
theorem iI(N:Nat)(x:Fd)(b:Bool):Clo N (.tup [x.av,.bool b]):=.tup _ (fun c hc=>by simp only[J6,O7,or_false]at hc;rcases hc with rfl|rfl<;>first|exact x.clo _|exact .bool _)
theorem gK(f:Elem→Option En){l:List Elem}{k:Nat}{x:Elem}(hx:l[k]? =some x):entsF f (l.take (k+1))=match f x with
 |none=>entsF f (l.take k)
 |some v=>if (entsF f (l.take k)).length<256 then entsF f (l.take k)++[v]else entsF f (l.take k):=by
 unfold entsF;rw[M2 (l:=l) (i:=k),hx,List.filterMap_append];cases hv:f x with
 |none=>simp[hv]
 |some v=>
  have:List.filterMap f (some x).toList=[v]:=by simp[hv]
  rw[this];generalize List.filterMap f (l.take k)=A;by_cases hl:A.length<256
  ·have h1:(A++[v]).take 256=A++[v]:=H9 (by simp;omega);have h2:A.take 256=A:=H9 (by omega);rw[h1,h2];exact(G3 hl).symm
  ·have h1:(A++[v]).take 256=A.take 256:=List.take_append_of_le_length (by omega);rw[h1];exact(G0 (by rw[I2];omega)).symm
theorem cD{e k:Elem}{n:Bs}(hs:e.sz≤1048576)(h:k∈kidsF e n):k.sz≤1048576:=by
 have:=Elem.kid_sz (List.mem_filter.1 h).1;omega
theorem dg(e:Elem)(n:Bs)(hs:e.sz≤1048576):(kidsF e n).length≤1048576:=by
 have h1:=e.kids_len;have h2:(kidsF e n).length≤e.kids.length:=List.length_filter_le ..;omega
theorem nu{Z:Heap}{n q v e:Nat}(t l:Bs)(es:List En)(b:Bool)(hq:n≤q)(hg:getRow Z q v=some (e,5,es.map En.av)):Frz Z n (.tup [.agg [.str t,.str l,.hs q v 0 es.length true],.bool b]) (.tup [Fd.av ⟨t,l,es⟩,.bool b]):=by
 have z:Frz Z n (.hs q v 0 es.length true) (.sl 5 (es.map En.av)):=Frz.data hq hg (by simp) (fun r hr=>by obtain⟨x,_,rfl⟩:=J9.1 hr;exact x.clo _) (fun r hr=>by obtain⟨x,_,rfl⟩:=J9.1 hr;exact x.sto);exact U0 (.cons (FrzL.agg (.cons (.clo _ (.str _)) (.cons (.clo _ (.str _)) (.cons z .nil))) rfl) (.cons (.clo _ (.bool _)) .nil))
theorem dF(Z:Heap)(n:Nat):Frz Z n (.tup [.agg [.str [],.str [],.nil (.slice none 0 0)],.bool false]) (oFd none):=
 U0 (.cons (FrzL.agg (.cons (.clo _ (.str _)) (.cons (.clo _ (.str _)) (.cons (.nils 5) .nil))) rfl) (.cons (.clo _ (.bool _)) .nil))
theorem tf(hA:DateC G 263 anyF)(e:Elem)(hs:e.sz≤1048576)(h:Heap):Sat (CT G) 67 [e.av] h (fun r h'=>r=oFd (rssF e)∧h'=h):=by
 have hKd:=gA G e bChan hs;have hSh:=gz G e.name (by have:=V5 e;omega);have hc:(kidF e bChan).1.sz≤1048576:=by
  unfold kidF;split
  ·show 1≤_;omega
  ·rename_i k l hk;exact cD hs (by rw[hk];simp)
 have hR:rssF e=if (kidF e bChan).2&&decide (short e.name=bRss)then some ⟨fieldF (kidF e bChan).1 bTitle 256,fieldF (kidF e bChan).1 bLink 512,entsF entR (kidsF (kidF e bChan).1 bItem)⟩else none:=rfl
 rw[hR];clear hR;generalize short e.name=sn at*;generalize kidF e bChan=kk at*;obtain⟨c,is⟩:=kk;simp only[]at hc;have fT:=bC G c bTitle 256 hc (by omega);have fL:=bC G c bLink 512 hc (by omega);have hKs:=fr G c bItem hc;have hsz:∀k∈kidsF c bItem,k.sz≤1048576:=fun k hk=>cD hc hk
 have hln:=dg c bItem hc;generalize fieldF c bTitle 256=t at*;generalize fieldF c bLink 512=l at*;generalize kidsF c bItem=ks at*;have mk:(ks.map Elem.av).length=ks.length:=I9 ..;obtain⟨e1,e2,e3,e4⟩:=e;cases is with
 |false=>
  have F:= @al;refine sb [.cell 2 25,.tmp 3] Tryz.func67 ?_;intro Q hQ;refine wk F ?_;refine kq F (hKd _) ?_;refine ye hQ F ?_;exact P3 (dF _ _) ⟨rfl,rfl⟩
 |true=>
  by_cases hn:sn=bRss
  rotate_left
  ·have q:(sn==bRss)=false:=(by simpa using hn);unfold bRss at q;have d:(true&&decide (sn=bRss))=false:=(by simp[hn]);simp only[d];have F:=F2 q @al;refine sb [.cell 2 25,.tmp 3] Tryz.func67 ?_;intro Q hQ;refine wk F ?_;refine kq F (hKd _) ?_;refine kq F (hSh _) ?_;refine ye hQ F ?_;exact P3 (dF _ _) ⟨rfl,rfl⟩
  have q:(sn==bRss)=true:=by simpa using hn
  unfold bRss at q;have d:(true&&decide (sn=bRss))=true:=by simp[hn]
  simp only[d];clear d;have hz:ofVal (.agg #[.string ⟨#[]⟩,.string ⟨#[]⟩,.slice none 0 0])=.agg [.str [],.str [],.nil (.slice none 0 0)]:=rfl;have F:=F4 q hz mk @al
  skip
  refine sb [.cell 2 25,.tmp 3] Tryz.func67 ?_;intro Q hQ;refine wn F ?_;refine kn F (hKd _) ?_;refine kn F (hSh _) ?_;refine aG 5 5 _ (by rfl) (by decide+kernel) (by kernel_rfl) (by decide+kernel) (by decide+kernel) (by decide+kernel) ?_;simp only[H8,J1];refine sq F ?_;refine wn F ?_;refine aa (fT _) ?_;try refine sq F ?_
  refine wn F ?_;refine aa (fL _) ?_;try refine sq F ?_
  refine wn F ?_;try refine⟨by decide+kernel,?_⟩
  try refine sq F ?_
  refine⟨?_,?_⟩
  ·refine aa (fT _) ?_;(try refine sq F ?_);refine wn F ?_;refine aa (fL _) ?_;(try refine sq F ?_);refine wn F ?_;all_goals first|exact zq F|trivial| (refine sq F ?_;trivial)
  skip
  try refine sq F ?_
  refine wk F ?_;refine kq F (hKs _) ?_;refine lm (fun nL tL hL=>∃(k v:Nat) (es:List En) (j:Heap),ks.length-k=nL∧h++ .row 76 4 0 [Elem.av ⟨e1,e2,e3,e4⟩]:: .row 25 3 0 [.agg [.str [],.str [],.nil (.slice none 0 0)]]:: .row 76 4 0 [c.av]:: .row 25 3 0 [.agg [.str t,.str l,.hs (h.length+4) v 0 es.length true]]:: .row 61 5 v (es.map En.av)::j=hL∧tL 33=.int .i64 k∧k≤ks.length∧es=entsF entR (ks.take k)) ((fun(k v:Nat) (es:List En) (j:Heap)=>(ks.length-k:Nat)) (0) (0) ([]) ([])) ?_ ?_
  ·refine⟨_,_,S7 (p:=h.length+3) (v:=0) 61 5 (by omega) (by simp(disch:=first|omega| (simp only[go_sem, ↓reduceIte,seval];first|done|omega)|fail) only[go_sem, ↓reduceIte,seval,F];rfl) 2 rfl,⟨0,0,[],[],rfl,(by simp),?_,by omega,rfl⟩⟩;all_goals try exact zZz F
  rintro _ s2 h' ⟨k,v,es,j,rfl,rfl,e33,hk,ho⟩ K2 hK2;simp only[ai,ak,Nat.reduceEqDiff, ↓reduceIte]at e33;have F:=F2 F e33;have hel:es.length≤256:=by rw[ho];unfold entsF;rw[I2];omega
  have me:(es.map En.av).length=es.length:=I9 ..;by_cases c1:k<ks.length
  ·obtain⟨x,hx,hxm⟩:=ae c1;have d1:=G8 c1;have hE:=qP G hA x (hsz x hxm);have hst:=gK entR hx;rw[← ho]at hst;cases hv:entR x with
   |none=>
    rw[hv]at hE hst;have hE:∀h,Sat (CT G) 109 [x.av] h (fun r h'=>r=.tup [En.z.av,.bool false]∧h'=h):=hE;have F:=F4 F hx d1 me;(try refine sq F ?_);refine wk F ?_;have hst:entsF entR (ks.take (k+1))=es:=hst;refine kq F (hE _) ?_;refine hK2 _ _ _ (G9 ⟨k+1,v,es,j++[.row 76 4 0 [x.av],.row 61 5 0 [En.z.av]],rfl,by simp[En.av,En.z],?_,by omega,hst.symm⟩) (by omega);all_goals try exact zZz F
   |some y=>
    rw[hv]at hE hst;have hE:∀h,Sat (CT G) 109 [x.av] h (fun r h'=>r=.tup [y.av,.bool true]∧h'=h):=hE;have hst:entsF entR (ks.take (k+1))=if es.length<256 then es++[y]else es:=hst
    by_cases c2:es.length<256
    ·have d2:decide ((es.length:Int)<256)=true:=G8 (by omega);rw[G3 c2]at hst;have F:=F5 F hx d1 d2 me;(try refine sq F ?_);refine wk F ?_;refine kq F (hE _) ?_;refine aq F ?_;(try refine sq F ?_);refine wk F ?_;refine hK2 _ _ _ (G9 ⟨k+1,v+1,es++[y],j++[.row 76 4 0 [x.av],.row 61 5 0 [y.av]],rfl,by simp[En.av],?_,by omega,hst.symm⟩) (by omega);all_goals try exact zZz F
    ·have d2:decide ((es.length:Int)<256)=false:=G7 (by omega);rw[G0 c2]at hst;have F:=F5 F hx d1 d2 me;(try refine sq F ?_);refine wk F ?_;refine kq F (hE _) ?_;refine hK2 _ _ _ (G9 ⟨k+1,v,es,j++[.row 76 4 0 [x.av],.row 61 5 0 [y.av]],rfl,by simp[En.av],?_,by omega,hst.symm⟩) (by omega);all_goals try exact zZz F
  ·have d1:=G7 c1;rw[H9 (by omega)]at ho;have F:=F3 F d1 me;(try refine sq F ?_);refine wk F ?_;refine ye hQ F ?_;rw[← ho];exact P3 (nu t l es true (by omega) (by rw[eZ _ rfl];show(if v=v then _ else _)=_;rw[G3 rfl])) ⟨rfl,rfl⟩
def LinkC(F:FuncId):Prop:=∀e:Elem,e.sz≤1048576→∀h,Sat (CT G) F [e.av] h (fun r h'=>r=.str (linkA e)∧h'=h)
theorem ox(hL:LinkC G 110)(e:Elem)(hs:e.sz≤1048576)(h:Heap):Sat (CT G) 167 [e.av] h (fun r h'=>r=oEn (entA e)∧h'=h):=by
 have fT:=bC G e bTitle 256 hs (by omega);have fL:=hL e hs;have fG:=bC G e bId 512 hs (by omega);have hM:=nt G (Cz G) e hs;have hE:entA e=mkE (orF (fieldF e bId 512) (linkA e) (fieldF e bTitle 256)) (fieldF e bTitle 256) (linkA e) (momL webR e updL):=rfl;rw[hE];generalize fieldF e bTitle 256=t at*;generalize linkA e=l at*;generalize fieldF e bId 512=g at*;generalize momL webR e updL=m at*;have hO:=td G g l t;generalize orF g l t=u at*;clear hE;have hz:ofVal (.agg #[.string ⟨#[]⟩,.string ⟨#[]⟩,.string ⟨#[]⟩,.int .i64 0,.bool false])=.agg [.str [],.str [],.str [],.int .i64 0,.bool false]:=rfl;by_cases hu:u=[]
 ·have q:(u==([]:Bs))=true:=by simp[hu]
  have eo:oEn (mkE u t l m)=.tup [En.z.av,.bool false]:=by unfold mkE;rw[G3 hu];rfl
  rw[eo];have F:=F3 q hz @al
  skip
  refine sb [.cell 2 61,.tmp 3] Tryz.func167 ?_;intro Q hQ;refine wn F ?_;refine aG 5 5 _ (by rfl) (by decide+kernel) (by kernel_rfl) (by decide+kernel) (by decide+kernel) (by decide+kernel) ?_;simp only[H8,J1];refine sq F ?_;refine wn F ?_;refine aa (fT _) ?_;try refine sq F ?_
  refine wn F ?_;refine aa (fL _) ?_;try refine sq F ?_
  refine wn F ?_;refine⟨?_,?_⟩
  ·refine aa (fT _) ?_;(try refine sq F ?_);refine wn F ?_;refine aa (fL _) ?_;(try refine sq F ?_);refine wn F ?_;all_goals first|exact zq F|trivial| (refine sq F ?_;trivial)
  skip
  try refine sq F ?_
  refine wk F ?_;refine aa (fG _) ?_;try refine sq F ?_
  refine wk F ?_;refine aa (hO _) ?_;try refine sq F ?_
  refine wk F ?_;refine ye hQ F ?_;exact H3 (bM _ En.z _) ⟨rfl,rfl⟩
 ·have q:(u==([]:Bs))=false:=by simpa using hu
  have eo:oEn (mkE u t l m)=.tup [(⟨u,t,l,m.getD 0,m.isSome⟩:En).av,.bool true]:=by unfold mkE;rw[G0 hu];rfl
  rw[eo];have F:=F3 q hz @al
  skip
  refine sb [.cell 2 61,.tmp 3] Tryz.func167 ?_;intro Q hQ;refine wn F ?_;refine aG 5 5 _ (by rfl) (by decide+kernel) (by kernel_rfl) (by decide+kernel) (by decide+kernel) (by decide+kernel) ?_;simp only[H8,J1];refine sq F ?_;refine wn F ?_;refine aa (fT _) ?_;try refine sq F ?_
  refine wn F ?_;refine aa (fL _) ?_;try refine sq F ?_
  refine wn F ?_;refine⟨?_,?_⟩
  ·refine aa (fT _) ?_;(try refine sq F ?_);refine wn F ?_;refine aa (fL _) ?_;(try refine sq F ?_);refine wn F ?_;all_goals first|exact zq F|trivial| (refine sq F ?_;trivial)
  skip
  try refine sq F ?_
  refine wk F ?_;refine aa (fG _) ?_;try refine sq F ?_
  refine wk F ?_;refine aa (hO _) ?_;try refine sq F ?_
  refine wk F ?_;refine kq F (hM _) ?_;refine ye hQ F ?_;exact H3 (bM _ (⟨u,t,l,m.getD 0,m.isSome⟩:En) _) ⟨rfl,rfl⟩
theorem vl{Z:Heap}{n q v e:Nat}(l:List En)(hq:n≤q)(hg:getRow Z q v=some (e,5,l.map En.av)):Frz Z n (.hs q v 0 l.length true) (.sl 5 (l.map En.av)):=
 Frz.data hq hg (by simp) (fun r hr=>by obtain⟨x,_,rfl⟩:=J9.1 hr;exact x.clo _) (fun r hr=>by obtain⟨x,_,rfl⟩:=J9.1 hr;exact x.sto)
theorem lW(hL:LinkC G 110)(ks:List Elem)(hsz:∀k∈ks,k.sz≤1048576)(hln:ks.length≤1048576)(h:Heap):Sat (CT G) 111 [.sl 4 (ks.map Elem.av)] h (fun r h'=>r=.sl 5 ((entsF entA ks).map En.av)∧h'=h):=by
 have mk:(ks.map Elem.av).length=ks.length:=I9 ..;have F:=F2 mk @al;refine sb [.tmp 2] Tryz.func111 ?_;intro Q hQ;refine wk F ?_;refine lm (fun nL tL hL=>∃(k v:Nat) (es:List En) (j:Heap),ks.length-k=nL∧h++ .row 61 5 v (es.map En.av)::j=hL∧tL 3=.hs h.length v 0 es.length true∧tL 10=.int .i64 k∧k≤ks.length∧es=entsF entA (ks.take k)) ((fun(k v:Nat) (es:List En) (j:Heap)=>(ks.length-k:Nat)) (0) (0) ([]) ([])) ?_ ?_
 ·refine⟨_,_,V4 3 61 5 (by simp) (by omega) (by exact zq F),⟨0,0,[],[],rfl,ar,?_,?_,by omega,rfl⟩⟩;all_goals try exact zZz F
 rintro _ s2 h' ⟨k,v,es,j,rfl,rfl,e3,e10,hk,ho⟩ K2 hK2;simp only[ai,ak,Nat.reduceEqDiff, ↓reduceIte]at e3 e10;have F:=F3 F e3 e10;have hel:es.length≤256:=by rw[ho];unfold entsF;rw[I2];omega
 have me:(es.map En.av).length=es.length:=I9 ..;by_cases c1:k<ks.length
 ·obtain⟨x,hx,hxm⟩:=ae c1;have d1:=G8 c1;have hE:=ox G hL x (hsz x hxm);have hst:=gK entA hx;rw[← ho]at hst;cases hv:entA x with
  |none=>
   rw[hv]at hE hst;have hE:∀h,Sat (CT G) 167 [x.av] h (fun r h'=>r=.tup [En.z.av,.bool false]∧h'=h):=hE;have hst:entsF entA (ks.take (k+1))=es:=hst;have F:=F4 F hx d1 me;(try refine sq F ?_);refine wk F ?_;refine kq F (hE _) ?_;refine hK2 _ _ _ (G9 ⟨k+1,v,es,j++[.row 76 4 0 [x.av],.row 61 5 0 [En.z.av]],rfl,by simp[En.av,En.z],?_,?_,by omega,hst.symm⟩) (by omega);all_goals try exact zZz F
  |some y=>
   rw[hv]at hE hst;have hE:∀h,Sat (CT G) 167 [x.av] h (fun r h'=>r=.tup [y.av,.bool true]∧h'=h):=hE;have hst:entsF entA (ks.take (k+1))=if es.length<256 then es++[y]else es:=hst
   by_cases c2:es.length<256
   ·have d2:decide ((es.length:Int)<256)=true:=G8 (by omega);rw[G3 c2]at hst;have F:=F5 F hx d1 d2 me;(try refine sq F ?_);refine wk F ?_;refine kq F (hE _) ?_;refine aq F ?_;(try refine sq F ?_);refine wk F ?_;refine hK2 _ _ _ (G9 ⟨k+1,v+1,es++[y],j++[.row 76 4 0 [x.av],.row 61 5 0 [y.av]],rfl,by simp[En.av],?_,?_,by omega,hst.symm⟩) (by omega);all_goals try exact zZz F
   ·have d2:decide ((es.length:Int)<256)=false:=G7 (by omega);rw[G0 c2]at hst;have F:=F5 F hx d1 d2 me;(try refine sq F ?_);refine wk F ?_;refine kq F (hE _) ?_;refine hK2 _ _ _ (G9 ⟨k+1,v,es,j++[.row 76 4 0 [x.av],.row 61 5 0 [y.av]],rfl,by simp[En.av],?_,?_,by omega,hst.symm⟩) (by omega);all_goals try exact zZz F
 ·have d1:=G7 c1;rw[H9 (by omega)]at ho;have F:=F3 F d1 me;try refine sq F ?_
  refine wk F ?_;refine ee hQ F ?_;rw[← ho];exact P3 (vl (e:=61) es (by omega) (by rw[bL _ rfl];show(if v=v then _ else _)=_;rw[G3 rfl])) ⟨rfl,rfl⟩
theorem qQ(hL:LinkC G 110)(e:Elem)(hs:e.sz≤1048576)(h:Heap):Sat (CT G) 68 [e.av] h (fun r h'=>r=oFd (atomF e)∧h'=h):=by
 have hSh:=gz G e.name (by have:=V5 e;omega);have fT:=bC G e bTitle 256 hs (by omega);have fL:=hL e hs;have hKs:=fr G e bEntry hs;have hEs:=lW G hL (kidsF e bEntry) (fun k hk=>cD hs hk) (dg e bEntry hs);have hR:atomF e=if short e.name=bFeed then some ⟨fieldF e bTitle 256,linkA e,entsF entA (kidsF e bEntry)⟩else none:=rfl
 rw[hR];clear hR;generalize fieldF e bTitle 256=t at*;generalize linkA e=l at*;generalize kidsF e bEntry=ks at*;generalize entsF entA ks=es at*;generalize short e.name=sn at*;obtain⟨e1,e2,e3,e4⟩:=e;by_cases hn:sn=bFeed
 rotate_left
 ·have q:(sn==bFeed)=false:=by simpa using hn
  unfold bFeed at q;rw[G0 hn];have F:=F2 q @al;refine sb [.cell 2 25,.tmp 3] Tryz.func68 ?_;intro Q hQ;refine wk F ?_;refine kq F (hSh _) ?_;refine ye hQ F ?_;exact P3 (dF _ _) ⟨rfl,rfl⟩
 ·have q:(sn==bFeed)=true:=by simpa using hn
  unfold bFeed at q;rw[G3 hn];have F:=F2 q @al;refine sb [.cell 2 25,.tmp 3] Tryz.func68 ?_;intro Q hQ;refine wk F ?_;refine kq F (hSh _) ?_;refine aa (fT _) ?_;try refine sq F ?_
  refine wk F ?_;refine aa (fL _) ?_;try refine sq F ?_
  refine wk F ?_;refine aa (hKs _) ?_;try refine sq F ?_
  refine wk F ?_;refine aa (hEs _) ?_;try refine sq F ?_
  refine wk F ?_;refine ye hQ F ?_;exact H3 (iI _ (⟨t,l,es⟩:Fd) _) ⟨rfl,rfl⟩
theorem im(l:List En)(hl:l.length≤1048576)(h:Heap):Sat (CT G) 49 [.sl 5 (l.map En.av)] h (fun r h'=>r=.sl 5 ((onceF l).map En.av)∧h'=h):=by
 have ml:(l.map En.av).length=l.length:=I9 ..;have dt:∀i:Decidable True, @decide True i=true:=fun i=>by simp
 have F:=F2 ml dt;refine sb [.tmp 2] Tryz.func49 ?_;intro Q hQ;refine wk F ?_;refine lm (fun nL tL hL=>∃(i v:Nat) (out:List En) (j:Heap),l.length-i=nL∧h++ .row 61 5 v (out.map En.av)::j=hL∧tL 3=.hs h.length v 0 out.length true∧tL 4=.int .i64 i∧i≤l.length∧out=onceF (l.take i)) ((fun(i v:Nat) (out:List En) (j:Heap)=>(l.length-i:Nat)) (0) (0) ([]) ([])) ?_ ?_
 ·refine⟨_,_,V4 3 61 5 (by simp) (by omega) (by exact zq F),⟨0,0,[],[],rfl,ar,?_,?_,by omega,rfl⟩⟩;all_goals try exact zZz F
 rintro _ s2 h' ⟨i,v,out,j,rfl,rfl,e3,e4,hi,ho⟩ K2 hK2;simp only[ai,ak,Nat.reduceEqDiff, ↓reduceIte]at e3 e4;have F:=F3 F e3 e4;have hol:=ft (l.take i);rw[← ho,I2]at hol;have mo:(out.map En.av).length=out.length:=I9 ..;by_cases c1:i<l.length
 ·obtain⟨x,hx,_⟩:=ae c1;have d1:=G8 c1;have hst:=nq hx;rw[← ho]at hst;have F:=F5 F hx d1 mo @al;try refine sq F ?_
  refine wk F ?_;refine lm (fun nL tL hL=>∃(k:Nat) (b:Bool),out.length-k=nL∧h++ .row 61 5 v (out.map En.av)::j=hL∧tL 5=.bool b∧tL 6=.int .i64 k∧k≤out.length∧b=(out.take k).any (fun y=>decide (y.guid=x.guid))) ((fun(k:Nat) (b:Bool)=>(out.length-k:Nat)) (0) (false)) ?_ ?_
  ·refine G9 ⟨0,false,rfl,ar,?_,?_,by omega,rfl⟩;all_goals try exact zZz F
  rintro _ s3 h' ⟨k,b,rfl,rfl,e5,e6,hk,hb⟩ K3 hK3;simp only[ai,ak,Nat.reduceEqDiff, ↓reduceIte]at e5 e6;have F:=F3 F e5 e6;by_cases c2:k<out.length
  ·obtain⟨y,hy,_⟩:=ae c2;have d2:=G8 c2;have hb2:(b||decide (y.guid=x.guid))=(out.take (k+1)).any (fun y=>decide (y.guid=x.guid)):=by
    rw[M2 (l:=out) (i:=k),hy,List.any_append, ← hb];simp
   cases b with
   |true=>
    have F:=F3 F hy d2;(try refine sq F ?_);refine wk F ?_;refine hK3 _ _ _ (G9 ⟨k+1,true,rfl,rfl,?_,?_,by omega,by rw[← hb2];rfl⟩) (by omega);all_goals try exact zZz F
   |false=>
    have q:(y.guid==x.guid)=decide (y.guid=x.guid):=(by rw[N8];simp);have F:=F4 F hy c2 q;(try refine sq F ?_);refine wk F ?_;refine hK3 _ _ _ (G9 ⟨k+1,decide (y.guid=x.guid),rfl,rfl,?_,?_,by omega,by rw[← hb2];simp⟩) (by omega);all_goals try exact zZz F
  ·have d2:=G7 c2;rw[H9 (by omega)]at hb;unfold onceS at hst;cases b with
   |true=>
    rw[G3 hb.symm]at hst;have F:=F2 F d2;(try refine sq F ?_);refine wk F ?_;refine hK2 _ _ _ (G9 ⟨i+1,v,out,j,rfl,rfl,?_,?_,by omega,hst.symm⟩) (by omega);all_goals try exact zZz F
   |false=>
    rw[G0 (by rw[← hb];simp)]at hst;have F:=F2 F d2;(try refine sq F ?_);refine wk F ?_;refine aq F ?_;(try refine sq F ?_);refine wk F ?_;refine hK2 _ _ _ (G9 ⟨i+1,v+1,out++[x],j,rfl,by simp[En.av],?_,?_,by omega,hst.symm⟩) (by omega);all_goals try exact zZz F
 ·have d1:=G7 c1;rw[H9 (by omega)]at ho;have F:=F4 F d1 mo @al;try refine sq F ?_
  refine wk F ?_;refine ee hQ F ?_;rw[← ho];exact P3 (pg out (by omega) (by rw[bL _ rfl];show(if v=v then _ else _)=_;rw[G3 rfl])) ⟨rfl,rfl⟩
instance:DecidableEq En:=fun x y=>by
 cases x;cases y;simp only[En.mk.injEq];exact inferInstance
@[go_sem] theorem DD(h:Heap)(d e:En):abin Tryz.prog h .neq 61 (.agg [.str d.guid,.str d.title,.str d.link,.int .i64 d.date,.bool d.dated]) (.agg [.str e.guid,.str e.title,.str e.link,.int .i64 e.date,.bool e.dated])=some (.bool (!decide (d=e))):=by
 obtain⟨a1,a2,a3,a4,a5⟩:=d;obtain⟨b1,b2,b3,b4,b5⟩:=e;simp only[abin,go_sem,aeqL,aeq1, ↓reduceIte,O2,I0,AVal.bool.injEq,En.mk.injEq,Bool.not_inj_iff];rw[N8];simp
theorem jW(a b:List En)(ha:a.length≤1048576)(hb:b.length≤1048576)(h:Heap):Sat (CT G) 34 [.sl 5 (a.map En.av),.sl 5 (b.map En.av)] h (fun r h'=>r=.bool (decide (a=b))∧h'=h):=by
 have ma:(a.map En.av).length=a.length:=I9 ..;have mb:(b.map En.av).length=b.length:=I9 ..;by_cases hl:a.length=b.length
 rotate_left
 ·have q:((a.length:Int) != (b.length:Int))=true:=by simp only[bne_iff_ne,ne_eq];omega
  have e:decide (a=b)=false:=G7 fun k=>hl (by rw[k])
  rw[e];have F:=F3 ma mb q;refine sb [.tmp 4] Tryz.func34 ?_;intro Q hQ;refine wk F ?_;refine ee hQ F ?_;exact I8 (.bool _) ⟨rfl,rfl⟩
 have q:((a.length:Int) != (b.length:Int))=false:=by rw[hl];simp
 have dt:∀i:Decidable True, @decide True i=true:=fun i=>by simp
 have F:=F4 ma mb q dt;refine sb [.tmp 4] Tryz.func34 ?_;intro Q hQ;refine wk F ?_;refine lm (fun nL tL hL=>∃(k:Nat),a.length-k=nL∧h=hL∧tL 5=.int .i64 k∧k≤a.length∧a.take k=b.take k) ((fun(k:Nat)=>(a.length-k:Nat)) (0)) ?_ ?_
 ·refine G9 ⟨0,rfl,ar,?_,by omega,rfl⟩;all_goals try exact zZz F
 rintro _ s2 h' ⟨k,rfl,rfl,e5,hk,hp⟩ K2 hK2;simp only[ai,ak,Nat.reduceEqDiff, ↓reduceIte]at e5;have F:=F2 F e5;by_cases c1:k<a.length
 ·have c2:k<b.length:=by omega
  obtain⟨x,hx,_⟩:=ae c1;obtain⟨y,hy,_⟩:=ae c2;by_cases e:x=y
  ·have w:(!decide (x=y))=false:=(by simp[e]);have hp1:a.take (k+1)=b.take (k+1):=(by rw[M2 (l:=a) (i:=k),M2 (l:=b) (i:=k),hx,hy,hp,e]);have F:=F6 F hx hy c1 c2 w;(try refine sq F ?_);refine wk F ?_;refine hK2 _ _ _ (G9 ⟨k+1,rfl,ar,?_,by omega,hp1⟩) (by omega);all_goals try exact zZz F
  ·have w:(!decide (x=y))=true:=(by simp[e]);have n:decide (a=b)=false:=G7 fun k=>by
    rw[k,hy]at hx;cases hx;exact e rfl
   have F:=F6 F hx hy c1 c2 w;(try refine sq F ?_);refine wk F ?_;refine ee hQ F ?_;exact I8 (.bool _) ⟨by rw[n],rfl⟩
 ·have d1:=G7 c1;rw[H9 (by omega),H9 (by omega)]at hp;have F:=F2 F d1;try refine sq F ?_
  refine wk F ?_;refine ee hQ F ?_;exact I8 (.bool _) ⟨by rw[G8 hp],rfl⟩
def DateR(F:FuncId)(f:Bs→Option Int):Prop:=∀s:Bs,s.length≤1048576→∀h,Sat (CT G) F [.str s] h (fun r h'=>r=.tup [.int .i64 ((f s).getD 0),.bool (f s).isSome]∧h'=h)
theorem qS(e:Elem)(hs:e.sz≤1048576)(ht:∀n,(kidF e n).1.text.length≤100000)
  (hM:∀h,Sat (CT G) 188 [e.av,.sl 1 [.str bPub,.str bDate]] h (fun r h'=>r=.tup [.int .i64 ((momL anyF e [bPub,bDate]).getD 0),.bool (momL anyF e [bPub,bDate]).isSome]∧h'=h))(h:Heap):Sat (CT G) 122 [e.av] h (fun r h'=>r=oEn (entR e)∧h'=h):=by
 have fT:=bR G e bTitle 256 hs (ht _) (by omega);have fL:=bR G e bLink 512 hs (ht _) (by omega);have fG:=bR G e bGuid 512 hs (ht _) (by omega);have hE:entR e=mkE (orF (fieldF e bGuid 512) (fieldF e bLink 512) (fieldF e bTitle 256)) (fieldF e bTitle 256) (fieldF e bLink 512) (momL anyF e [bPub,bDate]):=rfl;rw[hE];generalize fieldF e bTitle 256=t at*;generalize fieldF e bLink 512=l at*;generalize fieldF e bGuid 512=g at*;generalize momL anyF e [bPub,bDate]=m at*;clear hE;have hz:ofVal (.agg #[.string ⟨#[]⟩,.string ⟨#[]⟩,.string ⟨#[]⟩,.int .i64 0,.bool false])=.agg [.str [],.str [],.str [],.int .i64 0,.bool false]:=rfl;have alt:(((g==([]:Bs))=false∧True)∨((g==([]:Bs))=true∧(l==([]:Bs))=false)∨((g==([]:Bs))=true∧(l==([]:Bs))=true∧(t==([]:Bs))=false))∨((g==([]:Bs))=true∧(l==([]:Bs))=true∧(t==([]:Bs))=true):=by
  by_cases a:g=[]<;>by_cases b:l=[]<;>by_cases c:t=[]<;>simp[a,b,c]
 rcases alt with alt|alt
 rotate_left
 ·have eo:oEn (mkE (orF g l t) t l m)=.tup [En.z.av,.bool false]:=by
   have a:g=[]:=(by simpa using alt.1);have b:l=[]:=(by simpa using alt.2.1);have c:t=[]:=(by simpa using alt.2.2);subst a b c;rfl
  rw[eo];have nn:(([]:Bs)==([]:Bs))=true:=rfl;have F:=F4 @alt nn hz @al
  skip
  refine sb [.cell 2 61,.tmp 3] Tryz.func122 ?_;intro Q hQ;refine wn F ?_;refine aG 7 7 _ (by rfl) (by decide+kernel) (by kernel_rfl) (by decide+kernel) (by decide+kernel) (by decide+kernel) ?_;simp only[H8,J1];refine sq F ?_;refine wn F ?_;refine aa (fG _) ?_;try refine sq F ?_
  refine wn F ?_;refine aa (fT _) ?_;try refine sq F ?_
  refine wn F ?_;refine aa (fL _) ?_;try refine sq F ?_
  refine wn F ?_;try refine⟨by decide+kernel,?_⟩
  try refine sq F ?_
  refine⟨?_,?_⟩
  ·refine aa (fG _) ?_;(try refine sq F ?_);refine wn F ?_;refine aa (fT _) ?_;(try refine sq F ?_);refine wn F ?_;refine aa (fL _) ?_;(try refine sq F ?_);refine wn F ?_;all_goals first|exact zq F|trivial| (refine sq F ?_;trivial)
  skip
  try refine sq F ?_
  refine wk F ?_;refine ye hQ F ?_;exact H3 (bM _ En.z _) ⟨rfl,rfl⟩
 ·obtain⟨u,hu⟩:∃u,u=orF g l t:=⟨_,rfl⟩;rw[← hu];have un:u≠ []∧(((g==([]:Bs))=false∧u=g)∨((g==([]:Bs))=true∧(l==([]:Bs))=false∧u=l)∨((g==([]:Bs))=true∧(l==([]:Bs))=true∧(t==([]:Bs))=false∧u=t)):=by
   rw[hu];unfold orF;rcases alt with⟨a,_⟩| ⟨a,b⟩| ⟨a,b,c⟩
   ·have a':g≠ []:=(by simpa using a);simp[a']
   ·have a':g=[]:=(by simpa using a);have b':l≠ []:=(by simpa using b);simp[a',b']
   ·have a':g=[]:=(by simpa using a);have b':l=[]:=(by simpa using b);have c':t≠ []:=(by simpa using c);simp[a',b',c']
  obtain⟨hu0,un⟩:=un;have eo:oEn (mkE u t l m)=.tup [(⟨u,t,l,m.getD 0,m.isSome⟩:En).av,.bool true]:=by unfold mkE;rw[G0 hu0];rfl
  rw[eo];clear hu alt eo;rcases un with⟨a,rfl⟩| ⟨a,b,rfl⟩| ⟨a,b,c,rfl⟩
  ·have F:=F3 a hz @al
   skip
   refine sb [.cell 2 61,.tmp 3] Tryz.func122 ?_;intro Q hQ;refine wn F ?_;refine aG 7 7 _ (by rfl) (by decide+kernel) (by kernel_rfl) (by decide+kernel) (by decide+kernel) (by decide+kernel) ?_;simp only[H8,J1];refine sq F ?_;refine wn F ?_;refine aa (fG _) ?_;(try refine sq F ?_);refine wn F ?_;refine aa (fT _) ?_;(try refine sq F ?_);refine wn F ?_;refine aa (fL _) ?_;(try refine sq F ?_);refine wn F ?_;(try refine⟨by decide+kernel,?_⟩);(try refine sq F ?_);refine⟨?_,?_⟩
   ·refine aa (fG _) ?_;(try refine sq F ?_);refine wn F ?_;refine aa (fT _) ?_;(try refine sq F ?_);refine wn F ?_;refine aa (fL _) ?_;(try refine sq F ?_);refine wn F ?_;all_goals first|exact zq F|trivial| (refine sq F ?_;trivial)
   skip
   (try refine sq F ?_);refine wk F ?_;refine kq F (hM _) ?_;refine ye hQ F ?_;exact H3 (bM _ (⟨_,_,_,m.getD 0,m.isSome⟩:En) _) ⟨rfl,rfl⟩
  ·have F:=F4 a b hz @al
   skip
   refine sb [.cell 2 61,.tmp 3] Tryz.func122 ?_;intro Q hQ;refine wn F ?_;refine aG 7 7 _ (by rfl) (by decide+kernel) (by kernel_rfl) (by decide+kernel) (by decide+kernel) (by decide+kernel) ?_;simp only[H8,J1];refine sq F ?_;refine wn F ?_;refine aa (fG _) ?_;(try refine sq F ?_);refine wn F ?_;refine aa (fT _) ?_;(try refine sq F ?_);refine wn F ?_;refine aa (fL _) ?_;(try refine sq F ?_);refine wn F ?_;(try refine⟨by decide+kernel,?_⟩);(try refine sq F ?_);refine⟨?_,?_⟩
   ·refine aa (fG _) ?_;(try refine sq F ?_);refine wn F ?_;refine aa (fT _) ?_;(try refine sq F ?_);refine wn F ?_;refine aa (fL _) ?_;(try refine sq F ?_);refine wn F ?_;all_goals first|exact zq F|trivial| (refine sq F ?_;trivial)
   skip
   (try refine sq F ?_);refine wk F ?_;refine kq F (hM _) ?_;refine ye hQ F ?_;exact H3 (bM _ (⟨_,_,_,m.getD 0,m.isSome⟩:En) _) ⟨rfl,rfl⟩
  ·have F:=F5 a b c hz @al
   skip
   refine sb [.cell 2 61,.tmp 3] Tryz.func122 ?_;intro Q hQ;refine wn F ?_;refine aG 7 7 _ (by rfl) (by decide+kernel) (by kernel_rfl) (by decide+kernel) (by decide+kernel) (by decide+kernel) ?_;simp only[H8,J1];refine sq F ?_;refine wn F ?_;refine aa (fG _) ?_;(try refine sq F ?_);refine wn F ?_;refine aa (fT _) ?_;(try refine sq F ?_);refine wn F ?_;refine aa (fL _) ?_;(try refine sq F ?_);refine wn F ?_;(try refine⟨by decide+kernel,?_⟩);(try refine sq F ?_);refine⟨?_,?_⟩
   ·refine aa (fG _) ?_;(try refine sq F ?_);refine wn F ?_;refine aa (fT _) ?_;(try refine sq F ?_);refine wn F ?_;refine aa (fL _) ?_;(try refine sq F ?_);refine wn F ?_;all_goals first|exact zq F|trivial| (refine sq F ?_;trivial)
   skip
   (try refine sq F ?_);refine wk F ?_;refine kq F (hM _) ?_;refine ye hQ F ?_;exact H3 (bM _ (⟨_,_,_,m.getD 0,m.isSome⟩:En) _) ⟨rfl,rfl⟩
theorem oy(hA:DateR G 240 anyF)(e:Elem)(l:List Bs)(hs:e.sz≤1048576)(hl:l.length≤1048576)(ht:∀n,(kidF e n).1.text.length≤100000)(h:Heap):Sat (CT G) 188 [e.av,.sl 1 (l.map .str)] h (fun r h'=>r=.tup [.int .i64 ((momL anyF e l).getD 0),.bool (momL anyF e l).isSome]∧h'=h):=by
 have ml:(l.map AVal.str).length=l.length:=I9 ..;have F:=F2 ml @al;refine sb [.tmp 4,.tmp 5] Tryz.func188 ?_;intro Q hQ;refine wk F ?_;refine lm (fun nL tL hL=>∃(k:Nat) (j:Heap),l.length-k=nL∧h++ .row 76 4 0 [e.av]::j=hL∧tL 6=.int .i64 k∧k≤l.length∧momL anyF e (l.drop k)=momL anyF e l) ((fun(k:Nat) (j:Heap)=>(l.length-k:Nat)) (0) ([])) ?_ ?_
 ·refine G9 ⟨0,[],rfl,ar,?_,by omega,rfl⟩;all_goals try exact zZz F
 rintro _ s2 h' ⟨k,j,rfl,rfl,e6,hk,hp⟩ K2 hK2;simp only[ai,ak,Nat.reduceEqDiff, ↓reduceIte]at e6;have F:=F2 F e6;by_cases c1:k<l.length
 ·obtain⟨x,hx,_⟩:=ae c1;have d1:=G8 c1;have hKd:=iE G e x hs;have htx:=ht x;rw[fu anyF e hx]at hp;have hm:momE anyF e x=if (kidF e x).2 then anyF (cleanF (kidF e x).1.text)else none:=rfl
  rw[hm]at hp;generalize kidF e x=kk at*;obtain⟨⟨k1,k2,k3,k4⟩,is⟩:=kk;have htx:k3.length≤100000:=htx;have hC:=eK G k3 htx;have hcl:=cI k3;have hD:=hA (cleanF k3) (by omega);have hp:(match (if is then anyF (cleanF k3)else none)with|some v=>some v|none=>momL anyF e (l.drop (k+1)))=momL anyF e l:=hp;generalize anyF (cleanF k3)=o at hp hD;have alt:(∃v,is=true∧o=some v)∨(is=false∧True)∨(is=true∧o=none):=by
   cases is<;>cases o<;>simp
  rcases alt with⟨v,rfl,rfl⟩| ⟨rfl,_⟩| ⟨rfl,rfl⟩
  ·have hp:some v=momL anyF e l:=hp;have hD:∀h,Sat (CT G) 240 [.str (cleanF k3)] h (fun r h'=>r=.tup [.int .i64 v,.bool true]∧h'=h):=hD;have F:=F3 F hx d1
   skip
   (try refine sq F ?_);refine wn F ?_;refine bJ 11 [9,10] [true,true,true,true,true,true,true,true,true,false,false] (.one 9 [true,false,false,true,true,true] (.one 10 [] .fin)) (by decide+kernel) (by kernel_rfl) (by decide+kernel) ?_;simp only[bX,bY,bz];(try refine sq F ?_);repeat' ((first|refine az ?_|refine aA ?_|refine aB ?_ ?_)<;>try refine sq F ?_)
   (all_goals try refine wn F ?_);refine aa (hKd _) ?_;(try refine sq F ?_);refine wn F ?_;repeat' ((first|refine az ?_|refine aA ?_|refine aB ?_ ?_)<;>try refine sq F ?_)
   (all_goals try refine wn F ?_);refine⟨aa (hKd _) ?_,?_⟩
   ·first|exact zq F|trivial| (refine sq F ?_;trivial)
   repeat' ((first|refine az ?_|refine aA ?_|refine aB ?_ ?_)<;>try refine sq F ?_)
   all_goals try refine wn F ?_
   skip
   refine kq F (hC _) ?_;refine kq F (hD _) ?_;refine ee hQ F ?_;exact H3 (bQ _ _ _) ⟨by rw[← hp];rfl,rfl⟩
  ·have hp:momL anyF e (l.drop (k+1))=momL anyF e l:=hp;have F:=F3 F hx d1
   skip
   (try refine sq F ?_);refine wn F ?_;refine bJ 11 [9,10] [true,true,true,true,true,true,true,true,true,false,false] (.one 9 [true,false,false,true,true,true] (.one 10 [] .fin)) (by decide+kernel) (by kernel_rfl) (by decide+kernel) ?_;simp only[bX,bY,bz];(try refine sq F ?_);repeat' ((first|refine az ?_|refine aA ?_|refine aB ?_ ?_)<;>try refine sq F ?_)
   (all_goals try refine wn F ?_);refine aa (hKd _) ?_;(try refine sq F ?_);refine wn F ?_;repeat' ((first|refine az ?_|refine aA ?_|refine aB ?_ ?_)<;>try refine sq F ?_)
   (all_goals try refine wn F ?_);refine⟨aa (hKd _) ?_,?_⟩
   ·first|exact zq F|trivial| (refine sq F ?_;trivial)
   repeat' ((first|refine az ?_|refine aA ?_|refine aB ?_ ?_)<;>try refine sq F ?_)
   all_goals try refine wn F ?_
   skip
   refine kq F (hC _) ?_;refine kq F (hD _) ?_;refine hK2 _ _ _ (G9 ⟨k+1,j++[.row 76 4 0 [Elem.av ⟨k1,k2,k3,k4⟩]],rfl,by simp,?_,by omega,hp⟩) (by omega);all_goals try exact zZz F
  ·have hp:momL anyF e (l.drop (k+1))=momL anyF e l:=hp;have hD:∀h,Sat (CT G) 240 [.str (cleanF k3)] h (fun r h'=>r=.tup [.int .i64 0,.bool false]∧h'=h):=hD;have F:=F3 F hx d1
   skip
   (try refine sq F ?_);refine wn F ?_;refine bJ 11 [9,10] [true,true,true,true,true,true,true,true,true,false,false] (.one 9 [true,false,false,true,true,true] (.one 10 [] .fin)) (by decide+kernel) (by kernel_rfl) (by decide+kernel) ?_;simp only[bX,bY,bz];(try refine sq F ?_);repeat' ((first|refine az ?_|refine aA ?_|refine aB ?_ ?_)<;>try refine sq F ?_)
   (all_goals try refine wn F ?_);refine aa (hKd _) ?_;(try refine sq F ?_);refine wn F ?_;repeat' ((first|refine az ?_|refine aA ?_|refine aB ?_ ?_)<;>try refine sq F ?_)
   (all_goals try refine wn F ?_);refine⟨aa (hKd _) ?_,?_⟩
   ·first|exact zq F|trivial| (refine sq F ?_;trivial)
   repeat' ((first|refine az ?_|refine aA ?_|refine aB ?_ ?_)<;>try refine sq F ?_)
   all_goals try refine wn F ?_
   skip
   refine kq F (hC _) ?_;refine kq F (hD _) ?_;refine hK2 _ _ _ (G9 ⟨k+1,j++[.row 76 4 0 [Elem.av ⟨k1,k2,k3,k4⟩]],rfl,by simp,?_,by omega,hp⟩) (by omega);all_goals try exact zZz F
 ·have d1:=G7 c1;have hp:momL anyF e l=none:=by
   rw[← hp,M0 (by omega)];rfl
  have F:=F2 F d1;try refine sq F ?_
  refine wk F ?_;refine ee hQ F ?_;exact H3 (bQ _ _ _) ⟨by rw[hp];rfl,rfl⟩
theorem nz:∀(l:List At) (n:Bs),(attrF l n).2=true→(attrF l n).1.length+n.length+1≤szs At.sz l
 | [],n,h=>by rw[attrF]at h;cases h
 |a::l,n,h=>by
  rw[attrF]at h ⊢;have hz:szs At.sz (a::l)=At.sz a+szs At.sz l:=by rw[szs]
  have ha:At.sz a=1+a.1.length+a.2.length:=rfl;split at h
  ·rename_i e;rw[G3 e];have:a.1.length=n.length:=by rw[e]
   show a.2.length+n.length+1≤_;omega
  ·rename_i e;rw[G0 e];have:=nz l n h;omega
theorem Wk.slD{n:Nat}{xs ys:List AVal}(hl:xs.length=ys.length)(hw:∀(i:Nat) (r s:AVal),xs[i]? =some r→ys[i]? =some s→WkR r s):Wk (.sl n xs) (.sl n ys):=fun w S μ v rr=>by
 have at_:∀(i:Nat) (e:AVal),ys[i]? =some e→∃r,xs[i]? =some r∧WkR r e:=fun i e he=>by
  have hlt:=(F1.1 he).1;have hx:=G1 (show i<xs.length by omega);exact⟨_,hx,hw i _ e hx he⟩
 cases rr with
 |sl0 n a cap=>
  obtain rfl:ys=[]:=K5.1 (by simpa using hl.symm);exact .sl0 _ _ _
 |sl n es b o cap vs hne hm hm' hn hc hr=>
  rw[hl];refine .sl _ ys b o cap vs (fun e=>?_) (by omega) hm' (fun i e he=>?_) (fun i e j c he hj=>?_) (fun i e j c he hj=>?_)
  ·subst e;exact hne (K5.1 hl)
  ·obtain⟨r,hx,hq⟩:=at_ i e he;rw[← hq.1];exact hn i r hx
  ·obtain⟨r,hx,hq⟩:=at_ i e he;have hlt:=(F1.1 hj).1;have hd:=G1 (show j<r.cells.length by rw[hq.1];exact hlt);obtain⟨a1,a2,a3⟩:=hc i r j _ hx hd;exact⟨a1,a2,(hq.2 j _ c hd hj).2 a3⟩
  ·obtain⟨r,hx,hq⟩:=at_ i e he;have hlt:=(F1.1 hj).1;have hd:=G1 (show j<r.cells.length by rw[hq.1];exact hlt);exact(hq.2 j _ c hd hj).1 _ _ _ _ (hr i r j _ hx hd)
abbrev nl0:AVal:=.nil (.slice none 0 0)
theorem oA(v:Bs)(hv:v.length+6≤1048576)(h:Heap):Sat (CT G) 107 [.agg [.str [],nl0,.str [],.sl 4 [.agg [.str [104,114,101,102],nl0,.str v,nl0]]],.str [104,114,101,102],.int .i64 512] h (fun r h'=>r=.str (shortF v 512)∧h'=h):=by
 have hsz:(Elem.mk [] [] [] [Elem.mk bHref [] v []]).sz≤1048576:=by
  rw[V5];have:(Elem.mk bHref [] v []).sz=6+v.length-1:=by rw[V5];simp[szs,Elem.name,Elem.attrs,Elem.text,Elem.kids,bHref]
  simp[szs,Elem.name,Elem.attrs,Elem.text,Elem.kids,this];omega
 have hF:=bC G (Elem.mk [] [] [] [Elem.mk bHref [] v []]) bHref 512 hsz (by omega) h;have hk:fieldF (Elem.mk [] [] [] [Elem.mk bHref [] v []]) bHref 512=shortF v 512:=by
  have:kidF (Elem.mk [] [] [] [Elem.mk bHref [] v []]) bHref=(Elem.mk bHref [] v [],true):=rfl;unfold fieldF;rw[this];rfl
 rw[hk]at hF;have ha:(Elem.mk [] [] [] [Elem.mk bHref [] v []]).av=.agg [.str [],.sl 2 [],.str [],.sl 4 [.agg [.str bHref,.sl 2 [],.str v,.sl 4 []]]]:=rfl;rw[ha]at hF;refine Sat.wk (ys:=[.agg [.str [],.sl 2 [],.str [],.sl 4 [.agg [.str bHref,.sl 2 [],.str v,.sl 4 []]]],.str bHref,.int .i64 ((512:Nat):Int)]) rfl (fun i x y hx hy=>?_) hF
 match i with
 |0=>
  cases hx;cases hy;refine Wk.agg rfl (by intro y hy;simp at hy;rcases hy with rfl|rfl|rfl|rfl<;>rfl) (fun i x y hx hy=>?_)
  match i with
  |0=>cases hx;cases hy;exact Wk.refl _
  |1=>cases hx;cases hy;exact Wk.nils 2
  |2=>cases hx;cases hy;exact Wk.refl _
  |3=>
   cases hx;cases hy;refine Wk.slD rfl (fun i x y hx hy=>?_)
   match i with
   |0=>
    cases hx;cases hy;refine⟨rfl,fun j c d hc hd=>?_⟩
    match j with
    |0=>cases hc;cases hd;exact⟨Wk.refl _,id⟩
    |1=>cases hc;cases hd;exact⟨Wk.nils 2,fun _=>rfl⟩
    |2=>cases hc;cases hd;exact⟨Wk.refl _,id⟩
    |3=>cases hc;cases hd;exact⟨Wk.nils 4,fun _=>rfl⟩
    |k+4=>cases hc
   |k+1=>cases hx
  |k+4=>cases hx
 |1=>cases hx;cases hy;exact Wk.refl _
 |2=>cases hx;cases hy;exact Wk.refl _
 |k+3=>cases hx
theorem tq(e:Elem)(hs:e.sz≤1048576)(h:Heap):Sat (CT G) 110 [e.av] h (fun r h'=>r=.str (linkA e)∧h'=h):=by
 have hKs:=fr G e bLink hs;have hsz:∀k∈kidsF e bLink,k.sz≤1048576:=fun k hk=>cD hs hk
 have hln:=dg e bLink hs;have hE:linkA e=match (kidsF e bLink).find? linkP with
  |some k=>shortF (attrF k.attrs bHref).1 512
  |none=>[]:=rfl
 rw[hE];clear hE;generalize kidsF e bLink=ks at*;have mk:(ks.map Elem.av).length=ks.length:=I9 ..;have F:=F2 mk @al;refine sb [.tmp 2] Tryz.func110 ?_;intro Q hQ;refine wk F ?_;refine kq F (hKs _) ?_;refine lm (fun nL tL hL=>∃(k:Nat) (j:Heap),ks.length-k=nL∧h++ .row 76 4 0 [e.av]::j=hL∧tL 12=.int .i64 k∧k≤ks.length∧(ks.drop k).find? linkP=ks.find? linkP) ((fun(k:Nat) (j:Heap)=>(ks.length-k:Nat)) (0) ([])) ?_ ?_
 ·refine G9 ⟨0,[],rfl,ar,?_,by omega,rfl⟩;all_goals try exact zZz F
 rintro _ s2 h' ⟨k,j,rfl,rfl,e12,hk,hp⟩ K2 hK2;simp only[ai,ak,Nat.reduceEqDiff, ↓reduceIte]at e12;have F:=F2 F e12;by_cases c1:k<ks.length
 ·obtain⟨x,hx,hxm⟩:=ae c1;have d1:=G8 c1;have hR:=lw G x bRel (hsz x hxm);have hH:=lw G x bHref (hsz x hxm);have hSh:=oA G (attrF x.attrs bHref).1;have hv:=nz x.attrs bHref;have hxs:=V5 x;have hx1:=hsz x hxm;rw[aF hx,List.find?_cons]at hp;have hl:linkP x=((attrF x.attrs bHref).2&&(!(attrF x.attrs bRel).2||decide ((attrF x.attrs bRel).1=bAlt))):=rfl;have hyes:linkP x=true→(match ks.find? linkP with|some k=>shortF (attrF k.attrs bHref).1 512|none=>[])=shortF (attrF x.attrs bHref).1 512:=fun hy=>by
   rw[hy]at hp;rw[← hp]
  have hno:linkP x=false→(ks.drop (k+1)).find? linkP=ks.find? linkP:=fun hy=>by
   rw[hy]at hp;exact hp
  rw[hl]at hyes hno;clear hp hl;generalize attrF x.attrs bRel=ra at*;generalize attrF x.attrs bHref=ha at*;obtain⟨r1,r2⟩:=ra;obtain⟨a1,a2⟩:=ha;have h4:bHref.length=4:=rfl;have hvl:a2=true→a1.length+6≤1048576:=fun e=>by
   have:a1.length+bHref.length+1≤szs At.sz x.attrs:=hv e;omega
  have bA:bAlt=[97,108,116,101,114,110,97,116,101]:=rfl;cases a2 with
  |false=>
   have hno:=hno rfl;have F:=F3 F hx d1;(try refine sq F ?_);refine wk F ?_;refine kq F (hR _) ?_;refine kq F (hH _) ?_;refine hK2 _ _ _ (G9 ⟨k+1,j++[.row 76 4 0 [x.av]],rfl,by simp,?_,by omega,hno⟩) (by omega);all_goals try exact zZz F
  |true=>
   cases r2 with
   |false=>
    have hyes:=hyes rfl;have F:=F3 F hx d1;(try refine sq F ?_);refine wk F ?_;refine kq F (hR _) ?_;refine kq F (hH _) ?_;refine kq F (hSh (hvl rfl) _) ?_;refine ee hQ F ?_;exact H3 (.str _) ⟨by rw[hyes],rfl⟩
   |true=>
    by_cases hr:r1=bAlt
    ·have q:(r1==bAlt)=true:=(by simpa using hr);have hyes:=hyes (by simp[hr]);rw[bA]at q;have F:=F4 F hx d1 q;(try refine sq F ?_);refine wk F ?_;refine kq F (hR _) ?_;refine kq F (hH _) ?_;refine kq F (hSh (hvl rfl) _) ?_;refine ee hQ F ?_;exact H3 (.str _) ⟨by rw[hyes],rfl⟩
    ·have q:(r1==bAlt)=false:=(by simpa using hr);have hno:=hno (by simp[hr]);rw[bA]at q;have F:=F4 F hx d1 q;(try refine sq F ?_);refine wk F ?_;refine kq F (hR _) ?_;refine kq F (hH _) ?_;refine hK2 _ _ _ (G9 ⟨k+1,j++[.row 76 4 0 [x.av]],rfl,by simp,?_,by omega,hno⟩) (by omega);all_goals try exact zZz F
 ·have d1:=G7 c1;have hp:ks.find? linkP=none:=by
   rw[← hp,M0 (by omega)];rfl
  have F:=F2 F d1;try refine sq F ?_
  refine wk F ?_;refine ee hQ F ?_;exact H3 (.str _) ⟨by rw[hp],rfl⟩
end Go.Av
