/- The document's entries of unlike Guids; the same entries; the same feeds. -/
import Derived.Test.YtljohklbgahomaaGreatDoorMoUd
import Derived.Test.YtljohklbgahomaaGreatDoorMoDz
set_option linter.unusedSimpArgs false
set_option linter.unusedVariables false
set_option linter.unusedSectionVars false
set_option linter.unnecessarySimpa false
set_option maxRecDepth 100000
set_option maxHeartbeats 16000000
namespace Go.Av
open Go Go.Proofs Go.RowKit
attribute [local irreducible] WP WPl WPix Sat
variable (G:Nat→Option (List AVal))
theorem cV(s:Bs)(hs:s.length≤100000)(h:Heap):Sat (CT G) 64 [.str s] h (fun r h'=>r=.str (cleanF s)∧h'=h):=by
 have hll:=gE s.length s (Nat.le_refl _)
 have hrl:=kA s.length s (Nat.le_refl _)
 have hcl:=dm (runesF s) [] false hrl (by simp)
 have hdef:clnR (runesF s) [] false=cleanR s:=rfl
 have hcf:encs (cleanR s)=cleanF s:=rfl
 refine sb [.tmp 2] (fn:=Tryz.f64) Tryz.func64 ?_
 intro Q hQ
 (repeat (first|refine w1 (fun K hK=>?_)|refine w2 ?_|refine w3 ?_| ((first|refine w4 ?_|refine wD ?_|refine w5 ?_|refine w6 ?_|refine w7 ?_);try refine sq trivial ?_)| (refine w8 ?_;refine sq trivial ?_;refine w9 ?_)| (refine rq trivial ?_;try refine sq trivial ?_)| (refine vq trivial ?_;try refine sq trivial ?_)| ((first|refine hK _ _ (w0 ?_)| (clear hK K;refine hK _ _ (w0 ?_))| (clear hK K;clear hK K;refine hK _ _ (w0 ?_)));clear hK K)))
 refine(nM G s (by omega) _).mono ?_
 rintro r h' ⟨rfl,hk_⟩
 replace hk_:=hk_.symm
 subst hk_
 try refine sq trivial ?_
 (repeat (first|refine w1 (fun K hK=>?_)|refine w2 ?_|refine w3 ?_| ((first|refine w4 ?_|refine wD ?_|refine w5 ?_|refine w6 ?_|refine w7 ?_);try refine sq trivial ?_)| (refine w8 ?_;refine sq trivial ?_;refine w9 ?_)| (refine rq trivial ?_;try refine sq trivial ?_)| (refine vq trivial ?_;try refine sq trivial ?_)| ((first|refine hK _ _ (w0 ?_)| (clear hK K;refine hK _ _ (w0 ?_))| (clear hK K;clear hK K;refine hK _ _ (w0 ?_)));clear hK K)))
 generalize runesF s=l at*
 have hlm:(l.map runA).length=l.length:=List.length_map ..
 have F:=hlm
 refine lm (fun nL tL hL=>∃(k v:Nat) (acc:List Int) (w:Bool),l.length-k=nL∧h++[.row 21 1 v (acc.map runA)]=hL∧tL 4=.hs h.length v 0 acc.length true∧tL 5=.bool w∧tL 6=.int .i64 k∧k≤l.length∧clnR (l.drop k) acc w=cleanR s∧acc.length≤2*k) ((fun(k v:Nat) (acc:List Int) (w:Bool)=>(l.length-k:Nat)) (0) (0) ([]) (false)) ?_ ?_
 ·refine⟨_,_,Weak.virt 4 21 1 (by simp) (by omega) (by exact zq F),⟨0,0,[],false,rfl,ay,?_,?_,?_,by omega,hdef,by simp⟩⟩
  all_goals first|exact zq F|rfl|omega|trivial|skip
 rintro _ s2 h' ⟨k,v,acc,w,rfl,rfl,e4,e5,e6,hk,hv,hl⟩ K2 hK2
 simp only[ak,ao,Nat.reduceEqDiff, ↓reduceIte]at e4 e5 e6
 have F:=F4 F e4 e5 e6
 (repeat (first|refine w1 (fun K hK=>?_)|refine w2 ?_|refine w3 ?_| ((first|refine w4 ?_|refine wD ?_|refine w5 ?_|refine w6 ?_|refine w7 ?_);try refine sq F ?_)| (refine w8 ?_;refine sq F ?_;refine w9 ?_)| (refine rq F ?_;try refine sq F ?_)| (refine vq F ?_;try refine sq F ?_)| ((first|refine hK _ _ (w0 ?_)| (clear hK K;refine hK _ _ (w0 ?_))| (clear hK K;clear hK K;refine hK _ _ (w0 ?_)));clear hK K)))
 refine cq F (fun c1=>?_) (fun c1=>?_)<;>(try exact c1.elim)
 ·obtain⟨y,hy,hym⟩:=af c1
  have hyl:(l.map runA)[k]? =some (.int .i32 y):=by rw[List.getElem?_map,hy];rfl
  rw[aD hy,clnR]at hv
  have F:=F2 F hyl
  (repeat (first|refine w1 (fun K hK=>?_)|refine w2 ?_|refine w3 ?_| ((first|refine w4 ?_|refine wD ?_|refine w5 ?_|refine w6 ?_|refine w7 ?_);try refine sq F ?_)| (refine w8 ?_;refine sq F ?_;refine w9 ?_)| (refine rq F ?_;try refine sq F ?_)| (refine vq F ?_;try refine sq F ?_)| ((first|refine hK _ _ (w0 ?_)| (clear hK K;refine hK _ _ (w0 ?_))| (clear hK K;clear hK K;refine hK _ _ (w0 ?_)));clear hK K)))
  refine(mq G y _).mono ?_
  rintro r h' ⟨rfl,rfl⟩
  try refine sq F ?_
  (repeat (first|refine w1 (fun K hK=>?_)|refine w2 ?_|refine w3 ?_| ((first|refine w4 ?_|refine wD ?_|refine w5 ?_|refine w6 ?_|refine w7 ?_);try refine sq F ?_)| (refine w8 ?_;refine sq F ?_;refine w9 ?_)| (refine rq F ?_;try refine sq F ?_)| (refine vq F ?_;try refine sq F ?_)| ((first|refine hK _ _ (w0 ?_)| (clear hK K;refine hK _ _ (w0 ?_))| (clear hK K;clear hK K;refine hK _ _ (w0 ?_)));clear hK K)))
  have ho:decide ((acc.length:Int)>0)=decide (0<acc.length):=by
   rw[Bool.eq_iff_iff];simp only[decide_eq_true_eq];omega
  refine cq F (fun c2=>?_) (fun c2=>?_)<;>(try exact c2.elim)<;>((repeat (first|refine w1 (fun K hK=>?_)|refine w2 ?_|refine w3 ?_| ((first|refine w4 ?_|refine wD ?_|refine w5 ?_|refine w6 ?_|refine w7 ?_);try refine sq F ?_)| (refine w8 ?_;refine sq F ?_;refine w9 ?_)| (refine rq F ?_;try refine sq F ?_)| (refine vq F ?_;try refine sq F ?_)| ((first|refine hK _ _ (w0 ?_)| (clear hK K;refine hK _ _ (w0 ?_))| (clear hK K;clear hK K;refine hK _ _ (w0 ?_)));clear hK K))))
  ·rw[if_pos c2]at hv
   have F:=F2 F ho
   try refine sq F ?_
   refine hK2 _ _ _ (Wkn.refl ⟨k+1,v,acc,decide (0<acc.length),rfl,ay,?_,?_,?_,by omega,hv,by omega⟩) (by omega)
   all_goals first|exact zq F|rfl|omega|trivial|skip
  ·rw[if_neg (by simp[c2])]at hv
   have yes:(y<32∨(127≤y∧y≤159))→ctlR y=true:=fun h=>decide_eq_true h
   have no:¬(y<32∨(127≤y∧y≤159))→ctlR y=false:=fun h=>decide_eq_false h
   (first|refine gq F (fun g1=>?_) (fun g1=>?_)|refine pq F (fun g1=>?_) (fun g1=>?_))<;>(try exact g1.elim)<;>(try refine sq F ?_)<;>((repeat (first|refine w1 (fun K hK=>?_)|refine w2 ?_|refine w3 ?_| ((first|refine w4 ?_|refine wD ?_|refine w5 ?_|refine w6 ?_|refine w7 ?_);try refine sq F ?_)| (refine w8 ?_;refine sq F ?_;refine w9 ?_)| (refine rq F ?_;try refine sq F ?_)| (refine vq F ?_;try refine sq F ?_)| ((first|refine hK _ _ (w0 ?_)| (clear hK K;refine hK _ _ (w0 ?_))| (clear hK K;clear hK K;refine hK _ _ (w0 ?_)));clear hK K))))
   ·rw[if_pos (yes (by omega))]at hv
    refine hK2 _ _ _ (Wkn.refl ⟨k+1,v,acc,w,rfl,ay,?_,?_,?_,by omega,hv,by omega⟩) (by omega)
    all_goals first|exact zq F|rfl|omega|trivial|skip
   ·(first|refine gq F (fun g2=>?_) (fun g2=>?_)|refine pq F (fun g2=>?_) (fun g2=>?_))<;>(try exact g2.elim)<;>(try refine sq F ?_)<;>((repeat (first|refine w1 (fun K hK=>?_)|refine w2 ?_|refine w3 ?_| ((first|refine w4 ?_|refine wD ?_|refine w5 ?_|refine w6 ?_|refine w7 ?_);try refine sq F ?_)| (refine w8 ?_;refine sq F ?_;refine w9 ?_)| (refine rq F ?_;try refine sq F ?_)| (refine vq F ?_;try refine sq F ?_)| ((first|refine hK _ _ (w0 ?_)| (clear hK K;refine hK _ _ (w0 ?_))| (clear hK K;clear hK K;refine hK _ _ (w0 ?_)));clear hK K))))
    ·refine cq F (fun g3=>?_) (fun g3=>?_)<;>(try exact g3.elim)<;>((repeat (first|refine w1 (fun K hK=>?_)|refine w2 ?_|refine w3 ?_| ((first|refine w4 ?_|refine wD ?_|refine w5 ?_|refine w6 ?_|refine w7 ?_);try refine sq F ?_)| (refine w8 ?_;refine sq F ?_;refine w9 ?_)| (refine rq F ?_;try refine sq F ?_)| (refine vq F ?_;try refine sq F ?_)| ((first|refine hK _ _ (w0 ?_)| (clear hK K;refine hK _ _ (w0 ?_))| (clear hK K;clear hK K;refine hK _ _ (w0 ?_)));clear hK K))))
     ·rw[if_pos (yes (by omega))]at hv
      refine hK2 _ _ _ (Wkn.refl ⟨k+1,v,acc,w,rfl,ay,?_,?_,?_,by omega,hv,by omega⟩) (by omega)
      all_goals first|exact zq F|rfl|omega|trivial|skip
     ·rw[if_neg (by rw[no (by omega)];simp)]at hv
      refine cq F (fun c3=>?_) (fun c3=>?_)<;>(try exact c3.elim)<;>((repeat (first|refine w1 (fun K hK=>?_)|refine w2 ?_|refine w3 ?_| ((first|refine w4 ?_|refine wD ?_|refine w5 ?_|refine w6 ?_|refine w7 ?_);try refine sq F ?_)| (refine w8 ?_;refine sq F ?_;refine w9 ?_)| (refine rq F ?_;try refine sq F ?_)| (refine vq F ?_;try refine sq F ?_)| ((first|refine hK _ _ (w0 ?_)| (clear hK K;refine hK _ _ (w0 ?_))| (clear hK K;clear hK K;refine hK _ _ (w0 ?_)));clear hK K))))
      ·rw[if_pos c3]at hv
       refine aq F ?_
       try refine sq F ?_
       (repeat (first|refine w1 (fun K hK=>?_)|refine w2 ?_|refine w3 ?_| ((first|refine w4 ?_|refine wD ?_|refine w5 ?_|refine w6 ?_|refine w7 ?_);try refine sq F ?_)| (refine w8 ?_;refine sq F ?_;refine w9 ?_)| (refine rq F ?_;try refine sq F ?_)| (refine vq F ?_;try refine sq F ?_)| ((first|refine hK _ _ (w0 ?_)| (clear hK K;refine hK _ _ (w0 ?_))| (clear hK K;clear hK K;refine hK _ _ (w0 ?_)));clear hK K)))
       refine aq F ?_
       try refine sq F ?_
       (repeat (first|refine w1 (fun K hK=>?_)|refine w2 ?_|refine w3 ?_| ((first|refine w4 ?_|refine wD ?_|refine w5 ?_|refine w6 ?_|refine w7 ?_);try refine sq F ?_)| (refine w8 ?_;refine sq F ?_;refine w9 ?_)| (refine rq F ?_;try refine sq F ?_)| (refine vq F ?_;try refine sq F ?_)| ((first|refine hK _ _ (w0 ?_)| (clear hK K;refine hK _ _ (w0 ?_))| (clear hK K;clear hK K;refine hK _ _ (w0 ?_)));clear hK K)))
       refine hK2 _ _ _ (Wkn.refl ⟨k+1,v+1+1,acc++[32,y],false,rfl,by simp[runA],?_,?_,?_,by omega,hv,by simp;omega⟩) (by omega)
       all_goals first|exact zq F|rfl|omega|trivial|skip
      ·rw[if_neg (by simp[c3])]at hv
       refine aq F ?_
       try refine sq F ?_
       (repeat (first|refine w1 (fun K hK=>?_)|refine w2 ?_|refine w3 ?_| ((first|refine w4 ?_|refine wD ?_|refine w5 ?_|refine w6 ?_|refine w7 ?_);try refine sq F ?_)| (refine w8 ?_;refine sq F ?_;refine w9 ?_)| (refine rq F ?_;try refine sq F ?_)| (refine vq F ?_;try refine sq F ?_)| ((first|refine hK _ _ (w0 ?_)| (clear hK K;refine hK _ _ (w0 ?_))| (clear hK K;clear hK K;refine hK _ _ (w0 ?_)));clear hK K)))
       refine hK2 _ _ _ (Wkn.refl ⟨k+1,v+1,acc++[y],w,rfl,by simp[runA],?_,?_,?_,by omega,by rw[c3];exact hv,by simp;omega⟩) (by omega)
       all_goals first|exact zq F|rfl|omega|trivial|skip
    ·rw[if_neg (by rw[no (by omega)];simp)]at hv
     refine cq F (fun c3=>?_) (fun c3=>?_)<;>(try exact c3.elim)<;>((repeat (first|refine w1 (fun K hK=>?_)|refine w2 ?_|refine w3 ?_| ((first|refine w4 ?_|refine wD ?_|refine w5 ?_|refine w6 ?_|refine w7 ?_);try refine sq F ?_)| (refine w8 ?_;refine sq F ?_;refine w9 ?_)| (refine rq F ?_;try refine sq F ?_)| (refine vq F ?_;try refine sq F ?_)| ((first|refine hK _ _ (w0 ?_)| (clear hK K;refine hK _ _ (w0 ?_))| (clear hK K;clear hK K;refine hK _ _ (w0 ?_)));clear hK K))))
     ·rw[if_pos c3]at hv
      refine aq F ?_
      try refine sq F ?_
      (repeat (first|refine w1 (fun K hK=>?_)|refine w2 ?_|refine w3 ?_| ((first|refine w4 ?_|refine wD ?_|refine w5 ?_|refine w6 ?_|refine w7 ?_);try refine sq F ?_)| (refine w8 ?_;refine sq F ?_;refine w9 ?_)| (refine rq F ?_;try refine sq F ?_)| (refine vq F ?_;try refine sq F ?_)| ((first|refine hK _ _ (w0 ?_)| (clear hK K;refine hK _ _ (w0 ?_))| (clear hK K;clear hK K;refine hK _ _ (w0 ?_)));clear hK K)))
      refine aq F ?_
      try refine sq F ?_
      (repeat (first|refine w1 (fun K hK=>?_)|refine w2 ?_|refine w3 ?_| ((first|refine w4 ?_|refine wD ?_|refine w5 ?_|refine w6 ?_|refine w7 ?_);try refine sq F ?_)| (refine w8 ?_;refine sq F ?_;refine w9 ?_)| (refine rq F ?_;try refine sq F ?_)| (refine vq F ?_;try refine sq F ?_)| ((first|refine hK _ _ (w0 ?_)| (clear hK K;refine hK _ _ (w0 ?_))| (clear hK K;clear hK K;refine hK _ _ (w0 ?_)));clear hK K)))
      refine hK2 _ _ _ (Wkn.refl ⟨k+1,v+1+1,acc++[32,y],false,rfl,by simp[runA],?_,?_,?_,by omega,hv,by simp;omega⟩) (by omega)
      all_goals first|exact zq F|rfl|omega|trivial|skip
     ·rw[if_neg (by simp[c3])]at hv
      refine aq F ?_
      try refine sq F ?_
      (repeat (first|refine w1 (fun K hK=>?_)|refine w2 ?_|refine w3 ?_| ((first|refine w4 ?_|refine wD ?_|refine w5 ?_|refine w6 ?_|refine w7 ?_);try refine sq F ?_)| (refine w8 ?_;refine sq F ?_;refine w9 ?_)| (refine rq F ?_;try refine sq F ?_)| (refine vq F ?_;try refine sq F ?_)| ((first|refine hK _ _ (w0 ?_)| (clear hK K;refine hK _ _ (w0 ?_))| (clear hK K;clear hK K;refine hK _ _ (w0 ?_)));clear hK K)))
      refine hK2 _ _ _ (Wkn.refl ⟨k+1,v+1,acc++[y],w,rfl,by simp[runA],?_,?_,?_,by omega,by rw[c3];exact hv,by simp;omega⟩) (by omega)
      all_goals first|exact zq F|rfl|omega|trivial|skip
 ·rw[aY c1,clnR]at hv
  (repeat (first|refine w1 (fun K hK=>?_)|refine w2 ?_|refine w3 ?_| ((first|refine w4 ?_|refine wD ?_|refine w5 ?_|refine w6 ?_|refine w7 ?_);try refine sq F ?_)| (refine w8 ?_;refine sq F ?_;refine w9 ?_)| (refine rq F ?_;try refine sq F ?_)| (refine vq F ?_;try refine sq F ?_)))
  have hg:getRow (h++[.row 21 1 v (acc.map runA)]) h.length v=some (21,1,acc.map runA):=by simp[getRow]
  have ht:∀(ms:List Nat) (t:Env),4∈ms→t 4=.hs h.length v 0 acc.length true→∀i,upd t 4 (.sl 1 (acc.map runA)) i=t i∨(i∈ms∧Fz (h++[.row 21 1 v (acc.map runA)]) h.length v (t i) (upd t 4 (.sl 1 (acc.map runA)) i)):=fun ms t hm ht i=>by
   by_cases hi:i=4
   ·subst hi
    right
    refine⟨hm,?_⟩
    rw[ht]
    simp only[upd, ↓reduceIte]
    exact Fz.all _ _ _ hg rfl (by simp)
   ·left;simp only[upd];rw[if_neg hi]
  clear hK K
  refine hK _ _ ⟨_,_,Weak.fz h.length v hg (ht _ _ (by decide+kernel) (by exact zq F)),?_⟩
  clear hK K
  have hset:(h++[Blk.row 21 1 v (acc.map runA)]).set h.length Blk.dead=h++[Blk.dead]:=by simp
  rw[hset]
  (repeat (first|refine w1 (fun K hK=>?_)|refine w2 ?_|refine w3 ?_| ((first|refine w4 ?_|refine wD ?_|refine w5 ?_|refine w6 ?_|refine w7 ?_);try refine sq F ?_)| (refine w8 ?_;refine sq F ?_;refine w9 ?_)| (refine rq F ?_;try refine sq F ?_)| (refine vq F ?_;try refine sq F ?_)| ((first|refine hK _ _ (w0 ?_)| (clear hK K;refine hK _ _ (w0 ?_))| (clear hK K;clear hK K;refine hK _ _ (w0 ?_)));clear hK K)))
  refine(pP G acc (fun r hr=>hcl r (by rw[hdef, ← hv];exact hr)) (by omega) _).mono ?_
  rintro r h' ⟨rfl,rfl⟩
  try refine sq F ?_
  (repeat (first|refine w1 (fun K hK=>?_)|refine w2 ?_|refine w3 ?_| ((first|refine w4 ?_|refine wD ?_|refine w5 ?_|refine w6 ?_|refine w7 ?_);try refine sq F ?_)| (refine w8 ?_;refine sq F ?_;refine w9 ?_)| (refine rq F ?_;try refine sq F ?_)| (refine vq F ?_;try refine sq F ?_)| ((first|refine hK _ _ (w0 ?_)| (clear hK K;refine hK _ _ (w0 ?_))| (clear hK K;clear hK K;refine hK _ _ (w0 ?_)));clear hK K)))
  refine ee hQ F ?_
  refine fR (.str _) ?_
  rw[hv];exact congrArg AVal.str hcf
end Go.Av
namespace Go.Av
open Go Go.Proofs Go.RowKit
attribute [local irreducible] WP WPl WPix Sat
variable (G:Nat→Option (List AVal))
theorem fp(s:Bs)(n:Nat)(hs:s.length≤100000)(hn:n≤1000)(h:Heap):Sat (CT G) 88 [.str s,.int .i64 n] h (fun r h'=>r=.str (shortF s n)∧h'=h):=by
 have h1:=bH s
 have h2:=(jS (cleanF s) n).1
 refine sb [.tmp 4] (fn:=Tryz.f88) Tryz.func88 ?_
 intro Q hQ
 refine wk trivial ?_
 refine kq trivial (cV G s (by omega) _) ?_
 refine kq trivial (p6 G (cleanF s) n (by omega) (by omega) _) ?_
 refine kq trivial (cV G (cutF (cleanF s) n) (by omega) _) ?_
 refine ee hQ trivial ?_
 refine fR (.str _) ?_
 rfl
theorem nN(a b c:Bs)(h:Heap):Sat (CT G) 84 [.sl 1 [.str a,.str b,.str c]] h (fun r h'=>r=.str (orF a b c)∧h'=h):=by
 refine sb [.tmp 2] (fn:=Tryz.f84) Tryz.func84 ?_
 intro Q hQ
 refine wk trivial ?_
 refine lm (fun nL tL hL=>∃(k:Nat),3-k=nL∧h=hL∧tL 8=.int .i64 k∧k≤3∧(1≤k→a=[])∧(2≤k→b=[])∧(3≤k→c=[])) ((fun(k:Nat)=>(3-k:Nat)) (0)) ?_ ?_
 ·refine Wkn.refl ⟨0,rfl,ay,?_,by omega,fun h=>by omega,fun h=>by omega,fun h=>by omega⟩
  all_goals first|exact zq trivial|rfl|omega|trivial|skip
 rintro _ s2 h' ⟨k,rfl,rfl,e8,hk,h0,h1,h2⟩ K2 hK2
 simp only[ak,ao,Nat.reduceEqDiff, ↓reduceIte]at e8
 have F:=e8
 refine wk F ?_
 refine cq F (fun c1=>?_) (fun c1=>?_)<;>(try exact c1.elim)<;>(refine wk F ?_)
 ·obtain⟨y,hy,hyv⟩:∃y:Bs,([.str a,.str b,.str c]:List AVal)[k]? =some (.str y)∧((k=0∧y=a)∨(k=1∧y=b)∨(k=2∧y=c)):=by
   match k,c1 with
   |0,_=>exact⟨a,rfl,.inl ⟨rfl,rfl⟩⟩
   |1,_=>exact⟨b,rfl,.inr (.inl ⟨rfl,rfl⟩)⟩
   |2,_=>exact⟨c,rfl,.inr (.inr ⟨rfl,rfl⟩)⟩
   |k+3,c1=>exfalso;omega
  have F:=F2 F hy
  try refine sq F ?_
  refine wk F ?_
  refine cq F (fun c2=>?_) (fun c2=>?_)<;>(try exact c2.elim)<;>(refine wk F ?_)
  ·refine ee hQ F ?_
   refine fR (.str _) ?_
   unfold orF
   rcases hyv with⟨rfl,rfl⟩| ⟨rfl,rfl⟩| ⟨rfl,rfl⟩
   ·rw[if_pos c2]
   ·rw[if_neg (by simp[h0 (by omega)]),if_pos c2]
   ·rw[if_neg (by simp[h0 (by omega)]),if_neg (by simp[h1 (by omega)])]
  ·have c3:y=[]:=by simpa using c2
   have n0:1≤k+1→a=[]:=fun hh=>by
    rcases hyv with⟨rfl,rfl⟩| ⟨rfl,rfl⟩| ⟨rfl,rfl⟩
    ·exact c3
    ·exact h0 (by omega)
    ·exact h0 (by omega)
   have n1:2≤k+1→b=[]:=fun hh=>by
    rcases hyv with⟨rfl,rfl⟩| ⟨rfl,rfl⟩| ⟨rfl,rfl⟩
    ·omega
    ·exact c3
    ·exact h1 (by omega)
   have n2:3≤k+1→c=[]:=fun hh=>by
    rcases hyv with⟨rfl,rfl⟩| ⟨rfl,rfl⟩| ⟨rfl,rfl⟩
    ·omega
    ·omega
    ·exact c3
   refine hK2 _ _ _ (Wkn.refl ⟨k+1,rfl,ay,?_,by omega,n0,n1,n2⟩) (by omega)
   all_goals first|exact zq F|rfl|omega|trivial|skip
 ·have h3:=h2 (by omega)
  subst h3
  refine wk F ?_
  refine ee hQ F ?_
  refine fR (.str _) ?_
  unfold orF
  rw[h0 (by omega),h1 (by omega)];rfl
end Go.Av
namespace Go.Av
open Go Go.Proofs Go.RowKit
attribute [local irreducible] WP WPl WPix Sat
variable (G:Nat→Option (List AVal))
theorem bg(N:Nat)(a:Int)(c:Bool):Clo N (.tup [.int .i64 a,.bool c]):=.tup _ (fun x hx=>by simp only[List.mem_cons,List.not_mem_nil,or_false]at hx;rcases hx with rfl|rfl<;>first|exact .int _ _|exact .bool _)
theorem fY(e:Elem)(n:Bs)(hs:e.sz≤1048576):(kidF e n).1.text.length≤1048576:=by
 unfold kidF
 split
 ·exact Nat.zero_le _
 ·rename_i k l hk
  have hm:k∈e.kids:=by
   have:k∈kidsF e n:=by rw[hk];simp
   unfold kidsF at this
   exact(List.mem_filter.1 this).1
  have h1:=Elem.kid_sz hm
  have h3:=k.text_len
  show k.text.length≤_
  omega
theorem aX(e:Elem)(n:Bs)(m:Nat)(hs:e.sz≤1048576)(hm:m≤1000)(h:Heap):Sat (CT G) 48 [e.av,.str n,.int .i64 m] h (fun r h'=>r=.str (fieldF e n m)∧h'=h):=by
 have hKd:=ea G e n hs
 have ht:=fY e n hs
 obtain⟨k,hk⟩:∃k,k=kidF e n:=⟨_,rfl⟩
 have hf:fieldF e n m=cleanF (cutF (cleanF k.1.text) m):=by unfold fieldF shortF;rw[hk]
 rw[← hk]at hKd ht
 obtain⟨⟨k1,k2,k3,k4⟩,is⟩:=k
 have ht:k3.length≤1048576:=ht
 have hc:=bH k3
 have hct:=jS (cleanF k3) m
 have h1:=cT G k3 (by omega)
 have h2:=oO G (cleanF k3) m (by omega) (by omega)
 have h3:=cT G (cutF (cleanF k3) m) (by omega)
 rw[hf]
 have F:= @ai
 refine sb [.tmp 6] (fn:=Tryz.f48) Tryz.func48 ?_
 intro Q hQ
 refine wk F ?_
 refine kq F (hKd _) ?_
 refine kq F (h1 _) ?_
 refine kq F (h2 _) ?_
 refine kq F (h3 _) ?_
 refine ee hQ F ?_
 exact Fin.plain (.str _) ⟨rfl,rfl⟩
theorem bh(e:Elem)(n:Bs)(m:Nat)(hs:e.sz≤1048576)(ht:(kidF e n).1.text.length≤100000)(hm:m≤1000)(h:Heap):Sat (CT G) 55 [e.av,.str n,.int .i64 m] h (fun r h'=>r=.str (fieldF e n m)∧h'=h):=by
 have hKd:=fC G e n hs
 have h1:=fp G (kidF e n).1.text m ht hm
 have hf:fieldF e n m=shortF (kidF e n).1.text m:=rfl
 rw[hf]
 generalize kidF e n=k at*
 obtain⟨⟨k1,k2,k3,k4⟩,is⟩:=k
 have F:= @ai
 refine sb [.tmp 6] (fn:=Tryz.f55) Tryz.func55 ?_
 intro Q hQ
 refine wk F ?_
 refine kq F (hKd _) ?_
 refine kq F (h1 _) ?_
 refine ee hQ F ?_
 exact Fin.plain (.str _) ⟨rfl,rfl⟩
end Go.Av
namespace Go.Av
open Go Go.Proofs Go.RowKit
attribute [local irreducible] WP WPl WPix Sat
variable (G:Nat→Option (List AVal))
def DateC(F:FuncId)(f:Bs→Option Int):Prop:=∀s:Bs,s.length≤8388608→∀h,Sat (CT G) F [.str s] h (fun r h'=>r=.tup [.int .i64 ((f s).getD 0),.int .i64 (if (f s).isSome then 0 else 40)]∧h'=h)
theorem kF(hA:DateC G 156 anyF)(e:Elem)(n:Bs)(hs:e.sz≤1048576)(h:Heap):Sat (CT G) 127 [e.av,.str n] h (fun r h'=>r=.tup [.int .i64 ((momE anyF e n).getD 0),.bool (momE anyF e n).isSome]∧h'=h):=by
 have hKd:=ea G e n hs
 have ht:=fY e n hs
 have hm:momE anyF e n=if (kidF e n).2 then anyF (cleanF (kidF e n).1.text)else none:=rfl
 rw[hm]
 generalize kidF e n=k at*
 obtain⟨⟨k1,k2,k3,k4⟩,is⟩:=k
 have ht:k3.length≤1048576:=ht
 have hc:=bH k3
 have h1:=cT G k3 (by omega)
 have h2:=hA (cleanF k3) (by omega)
 clear hm
 cases is with
 |false=>
  have F:= @ai
  refine sb [.tmp 4,.tmp 5] (fn:=Tryz.f127) Tryz.func127 ?_
  intro Q hQ
  refine wk F ?_
  refine kq F (hKd _) ?_
  refine ee hQ F ?_
  exact Fin.plain (bg _ _ _) ⟨rfl,rfl⟩
 |true=>
  cases ha:anyF (cleanF k3)with
  |none=>
   rw[ha]at h2
   have h2:∀h,Sat (CT G) 156 [.str (cleanF k3)] h (fun r h'=>r=.tup [.int .i64 0,.int .i64 40]∧h'=h):=h2
   have F:= @ai
   refine sb [.tmp 4,.tmp 5] (fn:=Tryz.f127) Tryz.func127 ?_
   intro Q hQ
   refine wk F ?_
   refine kq F (hKd _) ?_
   refine kq F (h1 _) ?_
   refine kq F (h2 _) ?_
   refine ee hQ F ?_
   refine Fin.plain (bg _ _ _) ⟨?_,rfl⟩
   show _=AVal.tup [.int .i64 ((anyF (cleanF k3)).getD 0),.bool (anyF (cleanF k3)).isSome]
   rw[ha];rfl
  |some v=>
   rw[ha]at h2
   have h2:∀h,Sat (CT G) 156 [.str (cleanF k3)] h (fun r h'=>r=.tup [.int .i64 v,.int .i64 0]∧h'=h):=h2
   have F:= @ai
   refine sb [.tmp 4,.tmp 5] (fn:=Tryz.f127) Tryz.func127 ?_
   intro Q hQ
   refine wk F ?_
   refine kq F (hKd _) ?_
   refine kq F (h1 _) ?_
   refine kq F (h2 _) ?_
   refine ee hQ F ?_
   refine Fin.plain (bg _ _ _) ⟨?_,rfl⟩
   show _=AVal.tup [.int .i64 ((anyF (cleanF k3)).getD 0),.bool (anyF (cleanF k3)).isSome]
   rw[ha];rfl
theorem dr(f:Bs→Option Int)(e:Elem){l:List Bs}{k:Nat}{x:Bs}(hx:l[k]? =some x):momL f e (l.drop k)=match momE f e x with|some v=>some v|none=>momL f e (l.drop (k+1)):=by
 obtain⟨hlt,he⟩:=List.getElem?_eq_some_iff.1 hx
 rw[List.drop_eq_getElem_cons hlt,he]
 rfl
theorem kG(hA:DateC G 156 anyF)(e:Elem)(l:List Bs)(hs:e.sz≤1048576)(hl:l.length≤1048576)(h:Heap):Sat (CT G) 85 [e.av,.sl 1 (l.map .str)] h (fun r h'=>r=.tup [.int .i64 ((momL anyF e l).getD 0),.bool (momL anyF e l).isSome]∧h'=h):=by
 have ml:(l.map AVal.str).length=l.length:=List.length_map ..
 have F:=F2 ml @ai
 refine sb [.tmp 4,.tmp 5] (fn:=Tryz.f85) Tryz.func85 ?_
 intro Q hQ
 refine wk F ?_
 refine lm (fun nL tL hL=>∃(k:Nat),l.length-k=nL∧h++[.row 35 4 0 [e.av]]=hL∧tL 12=.int .i64 k∧k≤l.length∧momL anyF e (l.drop k)=momL anyF e l) ((fun(k:Nat)=>(l.length-k:Nat)) (0)) ?_ ?_
 ·refine Wkn.refl ⟨0,rfl,ay,?_,by omega,rfl⟩
  all_goals first|exact zq F|rfl|omega|trivial|skip
 rintro _ s2 h' ⟨k,rfl,rfl,e12,hk,hp⟩ K2 hK2
 simp only[ak,ao,Nat.reduceEqDiff, ↓reduceIte]at e12
 have F:=F2 F e12
 by_cases c1:k<l.length
 ·obtain⟨x,hx,_⟩:=af c1
  have d1:=decide_eq_true c1
  have hM:=kF G hA e x hs
  rw[dr anyF e hx]at hp
  cases hv:momE anyF e x with
  |some v=>
   rw[hv]at hM hp
   have hM:∀h,Sat (CT G) 127 [e.av,.str x] h (fun r h'=>r=.tup [.int .i64 v,.bool true]∧h'=h):=hM
   have hp:some v=momL anyF e l:=hp
   have F:=F3 F hx d1
   try refine sq F ?_
   refine wk F ?_
   refine kq F (hM _) ?_
   refine ee hQ F ?_
   exact Fin.plain (bg _ _ _) ⟨by rw[← hp];rfl,rfl⟩
  |none=>
   rw[hv]at hM hp
   have hM:∀h,Sat (CT G) 127 [e.av,.str x] h (fun r h'=>r=.tup [.int .i64 0,.bool false]∧h'=h):=hM
   have hp:momL anyF e (l.drop (k+1))=momL anyF e l:=hp
   have F:=F3 F hx d1
   try refine sq F ?_
   refine wk F ?_
   refine kq F (hM _) ?_
   refine hK2 _ _ _ (Wkn.refl ⟨k+1,rfl,ay,?_,by omega,hp⟩) (by omega)
   all_goals first|exact zq F|rfl|omega|trivial|skip
 ·have d1:=decide_eq_false c1
  have hp:momL anyF e l=none:=by
   rw[← hp,List.drop_of_length_le (by omega)];rfl
  have F:=F2 F d1
  try refine sq F ?_
  refine wk F ?_
  refine ee hQ F ?_
  exact Fin.plain (bg _ _ _) ⟨by rw[hp];rfl,rfl⟩
end Go.Av
namespace Go.Av
open Go Go.Proofs Go.RowKit
attribute [local irreducible] WP WPl WPix Sat
variable (G:Nat→Option (List AVal))
def En.z:En:=⟨[],[],[],0,false⟩
def oEn(o:Option En):AVal:=.tup [(o.getD En.z).av,.bool o.isSome]
theorem bd(N:Nat)(x:En)(b:Bool):Clo N (.tup [x.av,.bool b]):=.tup _ (fun c hc=>by simp only[List.mem_cons,List.not_mem_nil,or_false]at hc;rcases hc with rfl|rfl<;>first|exact x.clo _|exact .bool _)
theorem mr(hA:DateC G 156 anyF)(e:Elem)(hs:e.sz≤1048576)(h:Heap):Sat (CT G) 50 [e.av] h (fun r h'=>r=oEn (entR e)∧h'=h):=by
 have fT:=aX G e bTitle 256 hs (by omega)
 have fL:=aX G e bLink 512 hs (by omega)
 have fG:=aX G e bGuid 512 hs (by omega)
 have hM:=kG G hA e [bPub,bDate] hs (by decide)
 have hE:entR e=mkE (orF (fieldF e bGuid 512) (fieldF e bLink 512) (fieldF e bTitle 256)) (fieldF e bTitle 256) (fieldF e bLink 512) (momL anyF e [bPub,bDate]):=rfl
 rw[hE]
 generalize fieldF e bTitle 256=t at*
 generalize fieldF e bLink 512=l at*
 generalize fieldF e bGuid 512=g at*
 generalize momL anyF e [bPub,bDate]=m at*
 have hO:=nN G g l t
 generalize orF g l t=u at*
 clear hE
 have hz:ofVal (.agg #[.string ⟨#[]⟩,.string ⟨#[]⟩,.string ⟨#[]⟩,.int .i64 0,.bool false])=.agg [.str [],.str [],.str [],.int .i64 0,.bool false]:=rfl
 by_cases hu:u=[]
 ·have q:(u==([]:Bs))=true:=by simp[hu]
  have eo:oEn (mkE u t l m)=.tup [En.z.av,.bool false]:=by unfold mkE;rw[if_pos hu];rfl
  rw[eo]
  have F:=F3 q hz @ai
  skip
  refine sb [.cell 2 48,.tmp 3] (fn:=Tryz.f50) Tryz.func50 ?_
  intro Q hQ
  refine wn F ?_
  refine az 5 5 _ (by rfl) (by decide+kernel) (by kernel_rfl) (by decide+kernel) (by decide+kernel) (by decide+kernel) ?_
  simp only[List.take_succ_cons,List.take_zero]
  refine sq F ?_
  refine wn F ?_
  refine aa (fT _) ?_
  try refine sq F ?_
  refine wn F ?_
  refine aa (fL _) ?_
  try refine sq F ?_
  refine wn F ?_
  try refine⟨by decide+kernel,?_⟩
  try refine sq F ?_
  refine⟨?_,?_⟩
  ·refine aa (fT _) ?_
   try refine sq F ?_
   refine wn F ?_
   refine aa (fL _) ?_
   try refine sq F ?_
   refine wn F ?_
   all_goals first|exact zq F|trivial| (refine sq F ?_;trivial)
  skip
  try refine sq F ?_
  refine wk F ?_
  refine aa (fG _) ?_
  try refine sq F ?_
  refine wk F ?_
  refine aa (hO _) ?_
  try refine sq F ?_
  refine wk F ?_
  refine ye hQ F ?_
  exact Fin.plain (bd _ En.z _) ⟨rfl,rfl⟩
 ·have q:(u==([]:Bs))=false:=by simpa using hu
  have eo:oEn (mkE u t l m)=.tup [(⟨u,t,l,m.getD 0,m.isSome⟩:En).av,.bool true]:=by unfold mkE;rw[if_neg hu];rfl
  rw[eo]
  have F:=F3 q hz @ai
  skip
  refine sb [.cell 2 48,.tmp 3] (fn:=Tryz.f50) Tryz.func50 ?_
  intro Q hQ
  refine wn F ?_
  refine az 5 5 _ (by rfl) (by decide+kernel) (by kernel_rfl) (by decide+kernel) (by decide+kernel) (by decide+kernel) ?_
  simp only[List.take_succ_cons,List.take_zero]
  refine sq F ?_
  refine wn F ?_
  refine aa (fT _) ?_
  try refine sq F ?_
  refine wn F ?_
  refine aa (fL _) ?_
  try refine sq F ?_
  refine wn F ?_
  try refine⟨by decide+kernel,?_⟩
  try refine sq F ?_
  refine⟨?_,?_⟩
  ·refine aa (fT _) ?_
   try refine sq F ?_
   refine wn F ?_
   refine aa (fL _) ?_
   try refine sq F ?_
   refine wn F ?_
   all_goals first|exact zq F|trivial| (refine sq F ?_;trivial)
  skip
  try refine sq F ?_
  refine wk F ?_
  refine aa (fG _) ?_
  try refine sq F ?_
  refine wk F ?_
  refine aa (hO _) ?_
  try refine sq F ?_
  refine wk F ?_
  refine kq F (hM _) ?_
  refine ye hQ F ?_
  exact Fin.plain (bd _ (⟨u,t,l,m.getD 0,m.isSome⟩:En) _) ⟨rfl,rfl⟩
end Go.Av
namespace Go.Av
open Go Go.Proofs Go.RowKit
attribute [local irreducible] WP WPl WPix Sat
variable (G:Nat→Option (List AVal))
def Fd.z:Fd:=⟨[],[],[]⟩
theorem Fd.clo(n:Nat)(d:Fd):Clo n d.av:=.agg _ fun c hc=>by
 simp only[List.mem_cons,List.not_mem_nil,or_false]at hc
 rcases hc with rfl|rfl|rfl
 ·exact .str _
 ·exact .str _
 ·exact .sl _ _ (fun r hr=>by obtain⟨x,_,rfl⟩:=List.mem_map.1 hr;exact x.clo _)
def oFd(o:Option Fd):AVal:=.tup [(o.getD Fd.z).av,.bool o.isSome]
theorem fF(N:Nat)(x:Fd)(b:Bool):Clo N (.tup [x.av,.bool b]):=.tup _ (fun c hc=>by simp only[List.mem_cons,List.not_mem_nil,or_false]at hc;rcases hc with rfl|rfl<;>first|exact x.clo _|exact .bool _)
theorem eh(f:Elem→Option En){l:List Elem}{k:Nat}{x:Elem}(hx:l[k]? =some x):entsF f (l.take (k+1))=match f x with
 |none=>entsF f (l.take k)
 |some v=>if (entsF f (l.take k)).length<256 then entsF f (l.take k)++[v]else entsF f (l.take k):=by
 unfold entsF
 rw[List.take_add_one (l:=l) (i:=k),hx,List.filterMap_append]
 cases hv:f x with
 |none=>simp[hv]
 |some v=>
  have:List.filterMap f (some x).toList=[v]:=by simp[hv]
  rw[this]
  generalize List.filterMap f (l.take k)=A
  by_cases hl:A.length<256
  ·have h1:(A++[v]).take 256=A++[v]:=List.take_of_length_le (by simp;omega)
   have h2:A.take 256=A:=List.take_of_length_le (by omega)
   rw[h1,h2]
   exact(if_pos hl).symm
  ·have h1:(A++[v]).take 256=A.take 256:=List.take_append_of_le_length (by omega)
   rw[h1]
   exact(if_neg (by rw[List.length_take];omega)).symm
theorem bD{e k:Elem}{n:Bs}(hs:e.sz≤1048576)(h:k∈kidsF e n):k.sz≤1048576:=by
 have:=Elem.kid_sz (List.mem_filter.1 h).1
 omega
theorem bZ(e:Elem)(n:Bs)(hs:e.sz≤1048576):(kidsF e n).length≤1048576:=by
 have h1:=e.kids_len
 have h2:(kidsF e n).length≤e.kids.length:=List.length_filter_le ..
 omega
theorem jW{Z:Heap}{n q v e:Nat}(t l:Bs)(es:List En)(b:Bool)(hq:n≤q)(hg:getRow Z q v=some (e,5,es.map En.av)):Frz Z n (.tup [.agg [.str t,.str l,.hs q v 0 es.length true],.bool b]) (.tup [Fd.av ⟨t,l,es⟩,.bool b]):=by
 have z:Frz Z n (.hs q v 0 es.length true) (.sl 5 (es.map En.av)):=Frz.data hq hg (by simp) (fun r hr=>by obtain⟨x,_,rfl⟩:=List.mem_map.1 hr;exact x.clo _) (fun r hr=>by obtain⟨x,_,rfl⟩:=List.mem_map.1 hr;exact x.sto)
 exact FrzL.tup (.cons (FrzL.agg (.cons (.clo _ (.str _)) (.cons (.clo _ (.str _)) (.cons z .nil))) rfl) (.cons (.clo _ (.bool _)) .nil))
theorem cu(Z:Heap)(n:Nat):Frz Z n (.tup [.agg [.str [],.str [],.nil (.slice none 0 0)],.bool false]) (oFd none):=
 FrzL.tup (.cons (FrzL.agg (.cons (.clo _ (.str _)) (.cons (.clo _ (.str _)) (.cons (.nils 5) .nil))) rfl) (.cons (.clo _ (.bool _)) .nil))
theorem nO(hA:DateC G 156 anyF)(e:Elem)(hs:e.sz≤1048576)(h:Heap):Sat (CT G) 27 [e.av] h (fun r h'=>r=oFd (rssF e)∧h'=h):=by
 have hKd:=ea G e bChan hs
 have hSh:=dZ G e.name (by have:=Elem.sz_eq e;omega)
 have hc:(kidF e bChan).1.sz≤1048576:=by
  unfold kidF
  split
  ·show 1≤_;omega
  ·rename_i k l hk
   exact bD hs (by rw[hk];simp)
 have hR:rssF e=if (kidF e bChan).2&&decide (short e.name=bRss)then some ⟨fieldF (kidF e bChan).1 bTitle 256,fieldF (kidF e bChan).1 bLink 512,entsF entR (kidsF (kidF e bChan).1 bItem)⟩else none:=rfl
 rw[hR]
 clear hR
 generalize short e.name=sn at*
 generalize kidF e bChan=kk at*
 obtain⟨c,is⟩:=kk
 simp only[]at hc
 have fT:=aX G c bTitle 256 hc (by omega)
 have fL:=aX G c bLink 512 hc (by omega)
 have hKs:=dp G c bItem hc
 have hsz:∀k∈kidsF c bItem,k.sz≤1048576:=fun k hk=>bD hc hk
 have hln:=bZ c bItem hc
 generalize fieldF c bTitle 256=t at*
 generalize fieldF c bLink 512=l at*
 generalize kidsF c bItem=ks at*
 have mk:(ks.map Elem.av).length=ks.length:=List.length_map ..
 obtain⟨e1,e2,e3,e4⟩:=e
 cases is with
 |false=>
  have F:= @ai
  refine sb [.cell 2 25,.tmp 3] (fn:=Tryz.f27) Tryz.func27 ?_
  intro Q hQ
  refine wk F ?_
  refine kq F (hKd _) ?_
  refine ye hQ F ?_
  exact Fin.frz (cu _ _) ⟨rfl,rfl⟩
 |true=>
  by_cases hn:sn=bRss
  rotate_left
  ·have q:(sn==bRss)=false:=by simpa using hn
   unfold bRss at q
   have d:(true&&decide (sn=bRss))=false:=by simp[hn]
   simp only[d]
   have F:=F2 q @ai
   refine sb [.cell 2 25,.tmp 3] (fn:=Tryz.f27) Tryz.func27 ?_
   intro Q hQ
   refine wk F ?_
   refine kq F (hKd _) ?_
   refine kq F (hSh _) ?_
   refine ye hQ F ?_
   exact Fin.frz (cu _ _) ⟨rfl,rfl⟩
  have q:(sn==bRss)=true:=by simpa using hn
  unfold bRss at q
  have d:(true&&decide (sn=bRss))=true:=by simp[hn]
  simp only[d]
  clear d
  have hz:ofVal (.agg #[.string ⟨#[]⟩,.string ⟨#[]⟩,.slice none 0 0])=.agg [.str [],.str [],.nil (.slice none 0 0)]:=rfl
  have F:=F4 q hz mk @ai
  skip
  refine sb [.cell 2 25,.tmp 3] (fn:=Tryz.f27) Tryz.func27 ?_
  intro Q hQ
  refine wn F ?_
  refine kn F (hKd _) ?_
  refine kn F (hSh _) ?_
  refine az 5 5 _ (by rfl) (by decide+kernel) (by kernel_rfl) (by decide+kernel) (by decide+kernel) (by decide+kernel) ?_
  simp only[List.take_succ_cons,List.take_zero]
  refine sq F ?_
  refine wn F ?_
  refine aa (fT _) ?_
  try refine sq F ?_
  refine wn F ?_
  refine aa (fL _) ?_
  try refine sq F ?_
  refine wn F ?_
  try refine⟨by decide+kernel,?_⟩
  try refine sq F ?_
  refine⟨?_,?_⟩
  ·refine aa (fT _) ?_
   try refine sq F ?_
   refine wn F ?_
   refine aa (fL _) ?_
   try refine sq F ?_
   refine wn F ?_
   all_goals first|exact zq F|trivial| (refine sq F ?_;trivial)
  skip
  try refine sq F ?_
  refine wk F ?_
  refine kq F (hKs _) ?_
  refine lm (fun nL tL hL=>∃(k v:Nat) (es:List En) (j:Heap),ks.length-k=nL∧h++ .row 35 4 0 [Elem.av ⟨e1,e2,e3,e4⟩]:: .row 25 3 0 [.agg [.str [],.str [],.nil (.slice none 0 0)]]:: .row 35 4 0 [c.av]:: .row 25 3 0 [.agg [.str t,.str l,.hs (h.length+4) v 0 es.length true]]:: .row 48 5 v (es.map En.av)::j=hL∧tL 33=.int .i64 k∧k≤ks.length∧es=entsF entR (ks.take k)) ((fun(k v:Nat) (es:List En) (j:Heap)=>(ks.length-k:Nat)) (0) (0) ([]) ([])) ?_ ?_
  ·refine⟨_,_,Weak.virtCell (p:=h.length+3) (v:=0) 48 5 (by omega) (by simp(disch:=first|omega| (simp only[go_sem, ↓reduceIte,seval];first|done|omega)|fail) only[go_sem, ↓reduceIte,seval,F];rfl) 2 rfl,⟨0,0,[],[],rfl,(by simp),?_,by omega,rfl⟩⟩
   all_goals first|exact zq F|rfl|omega|trivial|skip
  rintro _ s2 h' ⟨k,v,es,j,rfl,rfl,e33,hk,ho⟩ K2 hK2
  simp only[ak,ao,Nat.reduceEqDiff, ↓reduceIte]at e33
  have F:=F2 F e33
  have hel:es.length≤256:=by rw[ho];unfold entsF;rw[List.length_take];omega
  have me:(es.map En.av).length=es.length:=List.length_map ..
  by_cases c1:k<ks.length
  ·obtain⟨x,hx,hxm⟩:=af c1
   have d1:=decide_eq_true c1
   have hE:=mr G hA x (hsz x hxm)
   have hst:=eh entR hx
   rw[← ho]at hst
   cases hv:entR x with
   |none=>
    rw[hv]at hE hst
    have hE:∀h,Sat (CT G) 50 [x.av] h (fun r h'=>r=.tup [En.z.av,.bool false]∧h'=h):=hE
    have F:=F4 F hx d1 me
    try refine sq F ?_
    refine wk F ?_
    have hst:entsF entR (ks.take (k+1))=es:=hst
    refine kq F (hE _) ?_
    refine hK2 _ _ _ (Wkn.refl ⟨k+1,v,es,j++[.row 35 4 0 [x.av],.row 48 5 0 [En.z.av]],rfl,by simp[En.av,En.z],?_,by omega,hst.symm⟩) (by omega)
    all_goals first|exact zq F|rfl|omega|trivial|skip
   |some y=>
    rw[hv]at hE hst
    have hE:∀h,Sat (CT G) 50 [x.av] h (fun r h'=>r=.tup [y.av,.bool true]∧h'=h):=hE
    have hst:entsF entR (ks.take (k+1))=if es.length<256 then es++[y]else es:=hst
    by_cases c2:es.length<256
    ·have d2:decide ((es.length:Int)<256)=true:=decide_eq_true (by omega)
     rw[if_pos c2]at hst
     have F:=F5 F hx d1 d2 me
     try refine sq F ?_
     refine wk F ?_
     refine kq F (hE _) ?_
     refine aq F ?_
     try refine sq F ?_
     refine wk F ?_
     refine hK2 _ _ _ (Wkn.refl ⟨k+1,v+1,es++[y],j++[.row 35 4 0 [x.av],.row 48 5 0 [y.av]],rfl,by simp[En.av],?_,by omega,hst.symm⟩) (by omega)
     all_goals first|exact zq F|rfl|omega|trivial|skip
    ·have d2:decide ((es.length:Int)<256)=false:=decide_eq_false (by omega)
     rw[if_neg c2]at hst
     have F:=F5 F hx d1 d2 me
     try refine sq F ?_
     refine wk F ?_
     refine kq F (hE _) ?_
     refine hK2 _ _ _ (Wkn.refl ⟨k+1,v,es,j++[.row 35 4 0 [x.av],.row 48 5 0 [y.av]],rfl,by simp[En.av],?_,by omega,hst.symm⟩) (by omega)
     all_goals first|exact zq F|rfl|omega|trivial|skip
  ·have d1:=decide_eq_false c1
   rw[List.take_of_length_le (by omega)]at ho
   have F:=F3 F d1 me
   try refine sq F ?_
   refine wk F ?_
   refine ye hQ F ?_
   rw[← ho]
   exact Fin.frz (jW t l es true (by omega) (by rw[fe _ rfl];show(if v=v then _ else _)=_;rw[if_pos rfl])) ⟨rfl,rfl⟩
end Go.Av
namespace Go.Av
open Go Go.Proofs Go.RowKit
attribute [local irreducible] WP WPl WPix Sat
variable (G:Nat→Option (List AVal))
theorem du(l:List En)(hl:l.length≤1048576)(h:Heap):Sat (CT G) 17 [.sl 5 (l.map En.av)] h (fun r h'=>r=.sl 5 ((onceF l).map En.av)∧h'=h):=by
 have ml:(l.map En.av).length=l.length:=List.length_map ..
 have dt:∀i:Decidable True, @decide True i=true:=fun i=>by simp
 have F:=F2 ml dt
 refine sb [.tmp 2] (fn:=Tryz.f17) Tryz.func17 ?_
 intro Q hQ
 refine wk F ?_
 refine lm (fun nL tL hL=>∃(i v:Nat) (out:List En) (j:Heap),l.length-i=nL∧h++ .row 48 5 v (out.map En.av)::j=hL∧tL 3=.hs h.length v 0 out.length true∧tL 4=.int .i64 i∧i≤l.length∧out=onceF (l.take i)) ((fun(i v:Nat) (out:List En) (j:Heap)=>(l.length-i:Nat)) (0) (0) ([]) ([])) ?_ ?_
 ·refine⟨_,_,Weak.virt 3 48 5 (by simp) (by omega) (by exact zq F),⟨0,0,[],[],rfl,ay,?_,?_,by omega,rfl⟩⟩
  all_goals first|exact zq F|rfl|omega|trivial|skip
 rintro _ s2 h' ⟨i,v,out,j,rfl,rfl,e3,e4,hi,ho⟩ K2 hK2
 simp only[ak,ao,Nat.reduceEqDiff, ↓reduceIte]at e3 e4
 have F:=F3 F e3 e4
 have hol:=dq (l.take i)
 rw[← ho,List.length_take]at hol
 have mo:(out.map En.av).length=out.length:=List.length_map ..
 by_cases c1:i<l.length
 ·obtain⟨x,hx,_⟩:=af c1
  have d1:=decide_eq_true c1
  have hst:=jT hx
  rw[← ho]at hst
  have F:=F5 F hx d1 mo @ai
  try refine sq F ?_
  refine wk F ?_
  refine lm (fun nL tL hL=>∃(k:Nat) (b:Bool),out.length-k=nL∧h++ .row 48 5 v (out.map En.av)::j=hL∧tL 5=.bool b∧tL 6=.int .i64 k∧k≤out.length∧b=(out.take k).any (fun y=>decide (y.guid=x.guid))) ((fun(k:Nat) (b:Bool)=>(out.length-k:Nat)) (0) (false)) ?_ ?_
  ·refine Wkn.refl ⟨0,false,rfl,ay,?_,?_,by omega,rfl⟩
   all_goals first|exact zq F|rfl|omega|trivial|skip
  rintro _ s3 h' ⟨k,b,rfl,rfl,e5,e6,hk,hb⟩ K3 hK3
  simp only[ak,ao,Nat.reduceEqDiff, ↓reduceIte]at e5 e6
  have F:=F3 F e5 e6
  by_cases c2:k<out.length
  ·obtain⟨y,hy,_⟩:=af c2
   have d2:=decide_eq_true c2
   have hb2:(b||decide (y.guid=x.guid))=(out.take (k+1)).any (fun y=>decide (y.guid=x.guid)):=by
    rw[List.take_add_one (l:=out) (i:=k),hy,List.any_append, ← hb];simp
   cases b with
   |true=>
    have F:=F3 F hy d2
    try refine sq F ?_
    refine wk F ?_
    refine hK3 _ _ _ (Wkn.refl ⟨k+1,true,rfl,rfl,?_,?_,by omega,by rw[← hb2];rfl⟩) (by omega)
    all_goals first|exact zq F|rfl|omega|trivial|skip
   |false=>
    have q:(y.guid==x.guid)=decide (y.guid=x.guid):=by rw[Bool.eq_iff_iff];simp
    have F:=F4 F hy c2 q
    try refine sq F ?_
    refine wk F ?_
    refine hK3 _ _ _ (Wkn.refl ⟨k+1,decide (y.guid=x.guid),rfl,rfl,?_,?_,by omega,by rw[← hb2];simp⟩) (by omega)
    all_goals first|exact zq F|rfl|omega|trivial|skip
  ·have d2:=decide_eq_false c2
   rw[List.take_of_length_le (by omega)]at hb
   unfold onceS at hst
   cases b with
   |true=>
    rw[if_pos hb.symm]at hst
    have F:=F2 F d2
    try refine sq F ?_
    refine wk F ?_
    refine hK2 _ _ _ (Wkn.refl ⟨i+1,v,out,j,rfl,rfl,?_,?_,by omega,hst.symm⟩) (by omega)
    all_goals first|exact zq F|rfl|omega|trivial|skip
   |false=>
    rw[if_neg (by rw[← hb];simp)]at hst
    have F:=F2 F d2
    try refine sq F ?_
    refine wk F ?_
    refine aq F ?_
    try refine sq F ?_
    refine wk F ?_
    refine hK2 _ _ _ (Wkn.refl ⟨i+1,v+1,out++[x],j,rfl,by simp[En.av],?_,?_,by omega,hst.symm⟩) (by omega)
    all_goals first|exact zq F|rfl|omega|trivial|skip
 ·have d1:=decide_eq_false c1
  rw[List.take_of_length_le (by omega)]at ho
  have F:=F4 F d1 mo @ai
  try refine sq F ?_
  refine wk F ?_
  refine ee hQ F ?_
  rw[← ho]
  exact Fin.frz (ll out (by omega) (by rw[bW _ rfl];show(if v=v then _ else _)=_;rw[if_pos rfl])) ⟨rfl,rfl⟩
instance:DecidableEq En:=fun x y=>by
 cases x;cases y;simp only[En.mk.injEq];exact inferInstance
@[go_sem] theorem xA(h:Heap)(d e:En):abin Tryz.prog h .neq 48 (.agg [.str d.guid,.str d.title,.str d.link,.int .i64 d.date,.bool d.dated]) (.agg [.str e.guid,.str e.title,.str e.link,.int .i64 e.date,.bool e.dated])=some (.bool (!decide (d=e))):=by
 obtain⟨a1,a2,a3,a4,a5⟩:=d
 obtain⟨b1,b2,b3,b4,b5⟩:=e
 simp only[abin,go_sem,aeqL,aeq1, ↓reduceIte,Option.map_some,Option.some.injEq,AVal.bool.injEq,En.mk.injEq,Bool.not_inj_iff]
 rw[Bool.eq_iff_iff]
 simp
theorem er(a b:List En)(ha:a.length≤1048576)(hb:b.length≤1048576)(h:Heap):Sat (CT G) 15 [.sl 5 (a.map En.av),.sl 5 (b.map En.av)] h (fun r h'=>r=.bool (decide (a=b))∧h'=h):=by
 have ma:(a.map En.av).length=a.length:=List.length_map ..
 have mb:(b.map En.av).length=b.length:=List.length_map ..
 by_cases hl:a.length=b.length
 rotate_left
 ·have q:((a.length:Int) != (b.length:Int))=true:=by simp only[bne_iff_ne,ne_eq];omega
  have e:decide (a=b)=false:=decide_eq_false fun k=>hl (by rw[k])
  rw[e]
  have F:=F3 ma mb q
  refine sb [.tmp 4] (fn:=Tryz.f15) Tryz.func15 ?_
  intro Q hQ
  refine wk F ?_
  refine ee hQ F ?_
  exact Fin.same (.bool _) ⟨rfl,rfl⟩
 have q:((a.length:Int) != (b.length:Int))=false:=by rw[hl];simp
 have dt:∀i:Decidable True, @decide True i=true:=fun i=>by simp
 have F:=F4 ma mb q dt
 refine sb [.tmp 4] (fn:=Tryz.f15) Tryz.func15 ?_
 intro Q hQ
 refine wk F ?_
 refine lm (fun nL tL hL=>∃(k:Nat),a.length-k=nL∧h=hL∧tL 5=.int .i64 k∧k≤a.length∧a.take k=b.take k) ((fun(k:Nat)=>(a.length-k:Nat)) (0)) ?_ ?_
 ·refine Wkn.refl ⟨0,rfl,ay,?_,by omega,rfl⟩
  all_goals first|exact zq F|rfl|omega|trivial|skip
 rintro _ s2 h' ⟨k,rfl,rfl,e5,hk,hp⟩ K2 hK2
 simp only[ak,ao,Nat.reduceEqDiff, ↓reduceIte]at e5
 have F:=F2 F e5
 by_cases c1:k<a.length
 ·have c2:k<b.length:=by omega
  obtain⟨x,hx,_⟩:=af c1
  obtain⟨y,hy,_⟩:=af c2
  by_cases e:x=y
  ·have w:(!decide (x=y))=false:=by simp[e]
   have hp1:a.take (k+1)=b.take (k+1):=by rw[List.take_add_one (l:=a) (i:=k),List.take_add_one (l:=b) (i:=k),hx,hy,hp,e]
   have F:=F6 F hx hy c1 c2 w
   try refine sq F ?_
   refine wk F ?_
   refine hK2 _ _ _ (Wkn.refl ⟨k+1,rfl,ay,?_,by omega,hp1⟩) (by omega)
   all_goals first|exact zq F|rfl|omega|trivial|skip
  ·have w:(!decide (x=y))=true:=by simp[e]
   have n:decide (a=b)=false:=decide_eq_false fun k=>by
    rw[k,hy]at hx;cases hx;exact e rfl
   have F:=F6 F hx hy c1 c2 w
   try refine sq F ?_
   refine wk F ?_
   refine ee hQ F ?_
   exact Fin.same (.bool _) ⟨by rw[n],rfl⟩
 ·have d1:=decide_eq_false c1
  rw[List.take_of_length_le (by omega),List.take_of_length_le (by omega)]at hp
  have F:=F2 F d1
  try refine sq F ?_
  refine wk F ?_
  refine ee hQ F ?_
  exact Fin.same (.bool _) ⟨by rw[decide_eq_true hp],rfl⟩
end Go.Av
