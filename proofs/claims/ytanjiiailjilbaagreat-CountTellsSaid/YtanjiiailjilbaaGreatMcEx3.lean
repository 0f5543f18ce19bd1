/- Closed runs: code, calls; a contract at no memory holds at any. -/
import Derived.Test.YtanjiiailjilbaaGreatMcEx2b
set_option linter.unusedSimpArgs false
set_option linter.unusedVariables false
set_option linter.unusedSectionVars false
set_option linter.unnecessarySimpa false
set_option maxRecDepth 100000
set_option maxHeartbeats 4000000
namespace Go.Av
open Go Go.Proofs Go.RowKit
attribute [local irreducible] WP WPl WPix Sat
variable (G:Nat→Option (List AVal))
def shN:Nat→Bs→Nat→Nat
 |0,_,_=>0
 |f+1,s,n=>if s=[]then 0 else if n=32 then 0 else(dec s 0).2+shN f (s.drop (dec s 0).2) (n+1)
def shW(s:Bs):Bs:=s.take (shN s.length s 0)
theorem sR:∀(f:Nat) (s:Bs) (n:Nat),s.length≤f→shN f s n=shN s.length s n:=by
 intro f
 induction f using Nat.strongRecOn with
 |ind f ih=>
  intro s n hs
  cases s with
  |nil=>cases f<;>rfl
  |cons b t=>
   obtain⟨f,rfl⟩:∃g,f=g+1:=⟨f-1,by simp at hs;omega⟩
   have hd:=bu (b::t) 0 (by simp)
   simp only[List.length_cons]at hs hd ⊢
   have hl:((b::t).drop (dec (b::t) 0).2).length≤t.length:=by simp only[List.length_drop,List.length_cons];omega
   rw[shN,shN,if_neg (show ¬(b::t)=[] by simp),if_neg (show ¬(b::t)=[] by simp),ih f (by omega) _ _ (by omega),ih t.length (by omega) _ _ hl]
def shA(s:Bs)(k n:Nat):Nat:=shN (s.drop k).length (s.drop k) n
theorem uz(s:Bs)(k n:Nat)(h:s.length≤k):shA s k n=0:=by unfold shA;rw[List.drop_of_length_le h];rfl
theorem vW(s:Bs)(k n:Nat)(h:k<s.length):shA s k n=if n=32 then 0 else(dec s k).2+shA s (k+(dec s k).2) (n+1):=by
 have hd:=bu s k h
 have hl:(s.drop k).length=(s.length-k-1)+1:=by rw[List.length_drop];omega
 unfold shA
 rw[hl,shN,if_neg (by intro e;rw[e]at hl;simp at hl), ← ct,List.drop_drop,sR (s.length-k-1) _ _ (by simp only[List.length_drop];omega)]
theorem pu(s:Bs)(hs:s.length≤100000000)(h:Heap):Sat (CT G) 255 [.str s] h (fun r h'=>r=.str (shW s)∧h'=h):=by
 refine sb [.tmp 2] (fn:=Tryz.f255) Tryz.func255 ?_
 intro Q hQ
 refine wk trivial ?_
 refine lm (fun nL tL hL=>∃(k n:Nat),s.length-k=nL∧h++[.iter s k]=hL∧tL 3=.int .i64 n∧k≤s.length∧n≤32∧k+shA s k n=shN s.length s 0) ((fun(k n:Nat)=>(s.length-k:Nat)) (0) (0)) ?_ ?_
 ·refine Wkn.refl ⟨0,0,rfl,aB,?_,by omega,by omega,by simp[shA]⟩
  all_goals first|exact zq trivial|rfl|omega|trivial|skip
 rintro _ s2 h' ⟨k,n,rfl,rfl,e3,hk,hn,hc⟩ K2 hK2
 simp only[ai,ao,Nat.reduceEqDiff, ↓reduceIte]at e3
 have F:=e3
 refine wk F ?_
 refine g9 (nZ _ _ _ _) (fun hlt=>?_) (fun hge=>?_)
 ·have hp:=bu s k hlt
  have hca:=vW s k n hlt
  rw[show Utf8.decode ⟨s.toArray⟩ k=dec s k from rfl]
  generalize dec s k=d at*
  obtain⟨c,m⟩:=d
  simp only[]at hp hca ⊢
  try refine sq F ?_
  refine wk F ?_
  refine cq F (fun c1=>?_) (fun c1=>?_)<;>(try exact c1.elim)<;>(refine wk F ?_)
  ·have c2:n=32:=by omega
   rw[if_pos c2]at hca
   refine ee hQ F ?_
   refine fR (.str _) ?_
   unfold shW
   congr 2
   omega
  ·have c2:¬n=32:=by omega
   rw[if_neg c2]at hca
   refine hK2 _ _ _ (Wkn.refl ⟨k+m,n+1,rfl,aB,?_,by omega,by omega,by omega⟩) (by omega)
   all_goals first|exact zq F|rfl|omega|trivial|skip
 ·rw[uz s k n (by omega)]at hc
  try refine sq F ?_
  refine wk F ?_
  refine ee hQ F ?_
  refine fR (.str _) ?_
  unfold shW
  rw[← hc,List.take_of_length_le (by omega)]
def wordsF(s:Bs):List Bs:=(fldsF (foldS s)).map shW
theorem sS(s:Bs):∀w∈fldsF s,w.length≤s.length:=fun w hw=>by
 unfold fldsF Lib.goFieldsP at hw
 rw[List.map_map]at hw
 obtain⟨x,_,rfl⟩:=List.mem_map.1 hw
 simp only[Function.comp,ByteArray.extract,ByteArray.copySlice,Array.toList_append,Array.toList_extract,List.length_append]
 simp[List.extract]
 omega
theorem dP(p:Nat→Bool)(s:ByteArray):∀(f pos:Nat) (st:Option Nat) (acc:List (Nat×Nat)),(Lib.spansFromP p s f pos st acc).1.length≤acc.length+f
 |0,_,_,acc=>by simp[Lib.spansFromP]
 |f+1,pos,st,acc=>by
  unfold Lib.spansFromP
  split
  ·split
   ·cases st with
    |some a=>have:=dP p s f (pos+(Utf8.decode s pos).2) none (acc++[(a,pos)]);simp only[List.length_append,List.length_cons,List.length_nil]at this;simp only;omega
    |none=>have:=dP p s f (pos+(Utf8.decode s pos).2) none acc;simp only;omega
   ·cases st with
    |some a=>have:=dP p s f (pos+(Utf8.decode s pos).2) (some a) acc;simp only;omega
    |none=>have:=dP p s f (pos+(Utf8.decode s pos).2) (some pos) acc;simp only;omega
  ·simp only;omega
theorem sT(s:Bs):(fldsF s).length≤s.length+1:=by
 unfold fldsF Lib.goFieldsP Lib.spansOfP
 rw[List.length_map,List.length_map]
 have:=dP (fun r=> !letF r) ⟨s.toArray⟩ (ByteArray.size ⟨s.toArray⟩) 0 none []
 have hsz:ByteArray.size ⟨s.toArray⟩=s.length:=by simp[ByteArray.size]
 rw[hsz]at this ⊢
 unfold Lib.closeSpans
 simp only[List.length_nil]at this
 split
 ·simp only[List.length_append,List.length_cons,List.length_nil];omega
 ·omega
theorem pv(s:Bs)(hs:s.length≤100000)(h:Heap):Sat (CT G) 217 [.str s] h (fun r h'=>r=.sl 1 ((wordsF s).map .str)∧h'=h):=by
 have hfl:=gW s
 have hwl:=sS (foldS s)
 have hn:=sT (foldS s)
 refine sb [.tmp 2] (fn:=Tryz.f217) Tryz.func217 ?_
 intro Q hQ
 refine wk trivial ?_
 refine kq trivial (qJ G s (by omega) _) ?_
 refine(pk G (foldS s) (by omega) _).mono ?_
 unfold wordsF at hQ
 generalize fldsF (foldS s)=ws at*
 rintro r h' (⟨hw0,rfl,he⟩| ⟨hw0,rfl,rfl⟩)
 ·subst hw0
  rw[he]
  try refine sq trivial ?_
  refine wk trivial ?_
  refine lm (fun nL tL hL=>0=nL∧[]++h=hL∧tL 3=.sl 1 []∧tL 10=.int .i64 0∧tL 11=.int .i64 0) (0) ?_ ?_
  ·refine Wkn.refl ⟨rfl,rfl,?_,?_,?_⟩
   all_goals first|exact zq trivial|rfl|omega|trivial|skip
  rintro _ s2 h' ⟨rfl,rfl,e3,e10,e11⟩ K2 hK2
  simp only[ai,ao,Nat.reduceEqDiff, ↓reduceIte]at e3 e10 e11
  have F:=F3 e3 e10 e11
  refine wk F ?_
  refine cq F (fun c1=>?_) (fun c1=>?_)<;>(try exact c1.elim)<;>(refine wk F ?_)
  refine ye hQ F ?_
  exact Fin.same (Clo.sl 1 [] fun x hx=>by cases hx) ⟨rfl,rfl⟩
 ·try refine sq trivial ?_
  refine wk trivial ?_
  refine lm (fun nL tL hL=>∃(k:Nat),ws.length-k=nL∧h++[.row 9 1 0 (((ws.take k).map shW++ws.drop k).map .str)]=hL∧tL 3=.hs h.length 0 0 ws.length true∧tL 9=.hs h.length 0 0 ws.length true∧tL 10=.int .i64 (ws.length:Int)∧tL 11=.int .i64 k∧k≤ws.length) ((fun(k:Nat)=>(ws.length-k:Nat)) (0)) ?_ ?_
  ·refine Wkn.refl ⟨0,rfl,aB,?_,?_,?_,?_,by omega⟩
   all_goals first|exact zq trivial|rfl|omega|trivial|skip
  rintro _ s2 h' ⟨k,rfl,rfl,e3,e9,e10,e11,hk⟩ K2 hK2
  simp only[ai,ao,Nat.reduceEqDiff, ↓reduceIte]at e3 e9 e10 e11
  have F:=F4 e3 e9 e10 e11
  refine wk F ?_
  refine cq F (fun c1=>?_) (fun c1=>?_)<;>(try exact c1.elim)<;>(refine wk F ?_)
  ·have c2:k<ws.length:=by omega
   obtain⟨y,hy,hym⟩:=ac c2
   have hyl:=hwl y hym
   have hget:((ws.take k).map shW++ws.drop k)[k]? =some y:=by
    rw[List.getElem?_append_right (by simp;omega),List.length_map,List.length_take,Nat.min_eq_left (by omega),Nat.sub_self,List.getElem?_drop];simpa using hy
   have hset:(((ws.take k).map shW++ws.drop k).map AVal.str).set k (.str (shW y))=((ws.take (k+1)).map shW++ws.drop (k+1)).map .str:=by
    have h1:(AVal.str (shW y))=AVal.str (shW y):=rfl
    rw[← List.map_set]
    congr 1
    rw[List.set_append_right _ _ (by simp;omega),List.length_map,List.length_take,Nat.min_eq_left (by omega),Nat.sub_self,aH hy,List.set_cons_zero,List.take_add_one,hy]
    simp
   have hlen:(((ws.take k).map shW++ws.drop k).map AVal.str).length=ws.length:=by simp;omega
   generalize hrw:(ws.take k).map shW++ws.drop k=rw at*
   have F:=F6 F c2 @hget @hset @hlen @aJ
   try refine sq F ?_
   refine wk F ?_
   refine kq F (pu G y (by omega) _) ?_
   refine hK2 _ _ _ (Wkn.refl ⟨k+1,rfl,rfl,?_,?_,?_,?_,by omega⟩) (by omega)
   all_goals first|exact zq F|rfl|omega|trivial|skip
  ·have hk2:k=ws.length:=by omega
   subst hk2
   have hfin:(ws.take ws.length).map shW++ws.drop ws.length=ws.map shW:=by rw[List.take_length,List.drop_length,List.append_nil]
   rw[hfin]
   have hg:getRow (h++[.row 9 1 0 ((ws.map shW).map .str)]) h.length 0=some (9,1,(ws.map shW).map .str):=by rw[aG _ rfl];simp[getRow]
   have hz:=Frz.data (n:=h.length) (len:=ws.length) (room:=true) (Nat.le_refl _) hg (by simp) (fun r hr=>by obtain⟨a,_,rfl⟩:=List.mem_map.1 hr;exact .str _) (fun r hr c hc=>by obtain⟨a,_,rfl⟩:=List.mem_map.1 hr;simp[AVal.cells]at hc;subst hc;rfl)
   refine ye hQ F ?_
   exact Fin.frz hz ⟨rfl,rfl⟩
def isF(s:Bs):Bool:=decide (wordsF s=[s])
theorem uA(s:Bs)(hs:s.length≤100000)(h:Heap):Sat (CT G) 205 [.str s] h (fun r h'=>r=.bool (isF s)∧h'=h):=by
 have hW:=pv G s hs
 unfold isF
 generalize wordsF s=ws at*
 match ws with
 | []=>
  refine sb [.tmp 2] (fn:=Tryz.f205) Tryz.func205 ?_
  intro Q hQ
  refine wk trivial ?_
  refine kq trivial (hW _) ?_
  refine ee hQ trivial ?_
  exact Fin.same (.bool _) ⟨by simp,rfl⟩
 | [w]=>
  refine sb [.tmp 2] (fn:=Tryz.f205) Tryz.func205 ?_
  intro Q hQ
  refine wk trivial ?_
  refine kq trivial (hW _) ?_
  refine ee hQ trivial ?_
  exact Fin.same (.bool _) ⟨by simp;rw[Bool.eq_iff_iff];simp,rfl⟩
 |w::v::l=>
  refine sb [.tmp 2] (fn:=Tryz.f205) Tryz.func205 ?_
  intro Q hQ
  refine wk trivial ?_
  refine kq trivial (hW _) ?_
  (first|refine gq trivial (fun g=>?_) (fun g=>?_)|refine pq trivial (fun g=>?_) (fun g=>?_))<;>(try exact g.elim)<;>(try refine sq trivial ?_)<;>(refine wk trivial ?_)
  ·exfalso;first|omega| (simp at g;omega)
  ·refine ee hQ trivial ?_
   exact Fin.same (.bool _) ⟨by simp,rfl⟩
end Go.Av
namespace Go.Av
open Go Go.Proofs Go.RowKit
attribute [local irreducible] WP WPl WPix Sat
variable (G:Nat→Option (List AVal))
theorem jC(s:Bs)(hs:s.length≤100000)(h:Heap):Sat (CT G) 257 [.str s] h (fun r h'=>r=.str (cleanF s)∧h'=h):=by
 have hll:=d9 s.length s (Nat.le_refl _)
 have hrl:=dH s.length s (Nat.le_refl _)
 have hcl:=fa (runesF s) [] false hrl (by simp)
 have hdef:clnR (runesF s) [] false=cleanR s:=rfl
 have hcf:encs (cleanR s)=cleanF s:=rfl
 refine sb [.tmp 2] (fn:=Tryz.f257) Tryz.func257 ?_
 intro Q hQ
 (repeat (first|refine w1 (fun K hK=>?_)|refine w2 ?_|refine w3 ?_| ((first|refine w4 ?_|refine wD ?_|refine w5 ?_|refine w6 ?_|refine w7 ?_);try refine sq trivial ?_)| (refine w8 ?_;refine sq trivial ?_;refine w9 ?_)| (refine rq trivial ?_;try refine sq trivial ?_)| (refine vq trivial ?_;try refine sq trivial ?_)| ((first|refine hK _ _ (w0 ?_)| (clear hK K;refine hK _ _ (w0 ?_))| (clear hK K;clear hK K;refine hK _ _ (w0 ?_)));clear hK K)))
 refine(kZ G s (by omega) _).mono ?_
 rintro r h' ⟨rfl,hk_⟩
 replace hk_:=hk_.symm
 subst hk_
 try refine sq trivial ?_
 (repeat (first|refine w1 (fun K hK=>?_)|refine w2 ?_|refine w3 ?_| ((first|refine w4 ?_|refine wD ?_|refine w5 ?_|refine w6 ?_|refine w7 ?_);try refine sq trivial ?_)| (refine w8 ?_;refine sq trivial ?_;refine w9 ?_)| (refine rq trivial ?_;try refine sq trivial ?_)| (refine vq trivial ?_;try refine sq trivial ?_)| ((first|refine hK _ _ (w0 ?_)| (clear hK K;refine hK _ _ (w0 ?_))| (clear hK K;clear hK K;refine hK _ _ (w0 ?_)));clear hK K)))
 generalize runesF s=l at*
 have hlm:(l.map runA).length=l.length:=List.length_map ..
 have F:=hlm
 refine lm (fun nL tL hL=>∃(k v:Nat) (acc:List Int) (w:Bool),l.length-k=nL∧h++[.row 21 1 v (acc.map runA)]=hL∧tL 4=.hs h.length v 0 acc.length true∧tL 5=.bool w∧tL 6=.int .i64 k∧k≤l.length∧clnR (l.drop k) acc w=cleanR s∧acc.length≤2*k) ((fun(k v:Nat) (acc:List Int) (w:Bool)=>(l.length-k:Nat)) (0) (0) ([]) (false)) ?_ ?_
 ·refine⟨_,_,Weak.virt 4 21 1 (by simp) (by omega) (by exact zq F),⟨0,0,[],false,rfl,aB,?_,?_,?_,by omega,hdef,by simp⟩⟩
  all_goals first|exact zq F|rfl|omega|trivial|skip
 rintro _ s2 h' ⟨k,v,acc,w,rfl,rfl,e4,e5,e6,hk,hv,hl⟩ K2 hK2
 simp only[ai,ao,Nat.reduceEqDiff, ↓reduceIte]at e4 e5 e6
 have F:=F4 F e4 e5 e6
 (repeat (first|refine w1 (fun K hK=>?_)|refine w2 ?_|refine w3 ?_| ((first|refine w4 ?_|refine wD ?_|refine w5 ?_|refine w6 ?_|refine w7 ?_);try refine sq F ?_)| (refine w8 ?_;refine sq F ?_;refine w9 ?_)| (refine rq F ?_;try refine sq F ?_)| (refine vq F ?_;try refine sq F ?_)| ((first|refine hK _ _ (w0 ?_)| (clear hK K;refine hK _ _ (w0 ?_))| (clear hK K;clear hK K;refine hK _ _ (w0 ?_)));clear hK K)))
 refine cq F (fun c1=>?_) (fun c1=>?_)<;>(try exact c1.elim)
 ·obtain⟨y,hy,hym⟩:=ac c1
  have hyl:(l.map runA)[k]? =some (.int .i32 y):=by rw[List.getElem?_map,hy];rfl
  rw[aH hy,clnR]at hv
  have F:=F2 F hyl
  (repeat (first|refine w1 (fun K hK=>?_)|refine w2 ?_|refine w3 ?_| ((first|refine w4 ?_|refine wD ?_|refine w5 ?_|refine w6 ?_|refine w7 ?_);try refine sq F ?_)| (refine w8 ?_;refine sq F ?_;refine w9 ?_)| (refine rq F ?_;try refine sq F ?_)| (refine vq F ?_;try refine sq F ?_)| ((first|refine hK _ _ (w0 ?_)| (clear hK K;refine hK _ _ (w0 ?_))| (clear hK K;clear hK K;refine hK _ _ (w0 ?_)));clear hK K)))
  refine(pN G y _).mono ?_
  rintro r h' ⟨rfl,rfl⟩
  try refine sq F ?_
  (repeat (first|refine w1 (fun K hK=>?_)|refine w2 ?_|refine w3 ?_| ((first|refine w4 ?_|refine wD ?_|refine w5 ?_|refine w6 ?_|refine w7 ?_);try refine sq F ?_)| (refine w8 ?_;refine sq F ?_;refine w9 ?_)| (refine rq F ?_;try refine sq F ?_)| (refine vq F ?_;try refine sq F ?_)| ((first|refine hK _ _ (w0 ?_)| (clear hK K;refine hK _ _ (w0 ?_))| (clear hK K;clear hK K;refine hK _ _ (w0 ?_)));clear hK K)))
  have ho:decide ((acc.length:Int)>0)=decide (0<acc.length):=by
   rw[Bool.eq_iff_iff];simp only[decide_eq_true_eq];omega
  refine cq F (fun c2=>?_) (fun c2=>?_)<;>(try exact c2.elim)<;>((repeat (first|refine w1 (fun K hK=>?_)|refine w2 ?_|refine w3 ?_| ((first|refine w4 ?_|refine wD ?_|refine w5 ?_|refine w6 ?_|refine w7 ?_);try refine sq F ?_)| (refine w8 ?_;refine sq F ?_;refine w9 ?_)| (refine rq F ?_;try refine sq F ?_)| (refine vq F ?_;try refine sq F ?_)| ((first|refine hK _ _ (w0 ?_)| (clear hK K;refine hK _ _ (w0 ?_))| (clear hK K;clear hK K;refine hK _ _ (w0 ?_)));clear hK K))))
  ·rw[if_pos c2]at hv
   have F:=F2 F ho
   try refine sq F ?_
   refine hK2 _ _ _ (Wkn.refl ⟨k+1,v,acc,decide (0<acc.length),rfl,aB,?_,?_,?_,by omega,hv,by omega⟩) (by omega)
   all_goals first|exact zq F|rfl|omega|trivial|skip
  ·rw[if_neg (by simp[c2])]at hv
   have yes:(y<32∨(127≤y∧y≤159))→ctlR y=true:=fun h=>decide_eq_true h
   have no:¬(y<32∨(127≤y∧y≤159))→ctlR y=false:=fun h=>decide_eq_false h
   (first|refine gq F (fun g1=>?_) (fun g1=>?_)|refine pq F (fun g1=>?_) (fun g1=>?_))<;>(try exact g1.elim)<;>(try refine sq F ?_)<;>((repeat (first|refine w1 (fun K hK=>?_)|refine w2 ?_|refine w3 ?_| ((first|refine w4 ?_|refine wD ?_|refine w5 ?_|refine w6 ?_|refine w7 ?_);try refine sq F ?_)| (refine w8 ?_;refine sq F ?_;refine w9 ?_)| (refine rq F ?_;try refine sq F ?_)| (refine vq F ?_;try refine sq F ?_)| ((first|refine hK _ _ (w0 ?_)| (clear hK K;refine hK _ _ (w0 ?_))| (clear hK K;clear hK K;refine hK _ _ (w0 ?_)));clear hK K))))
   ·rw[if_pos (yes (by omega))]at hv
    refine hK2 _ _ _ (Wkn.refl ⟨k+1,v,acc,w,rfl,aB,?_,?_,?_,by omega,hv,by omega⟩) (by omega)
    all_goals first|exact zq F|rfl|omega|trivial|skip
   ·(first|refine gq F (fun g2=>?_) (fun g2=>?_)|refine pq F (fun g2=>?_) (fun g2=>?_))<;>(try exact g2.elim)<;>(try refine sq F ?_)<;>((repeat (first|refine w1 (fun K hK=>?_)|refine w2 ?_|refine w3 ?_| ((first|refine w4 ?_|refine wD ?_|refine w5 ?_|refine w6 ?_|refine w7 ?_);try refine sq F ?_)| (refine w8 ?_;refine sq F ?_;refine w9 ?_)| (refine rq F ?_;try refine sq F ?_)| (refine vq F ?_;try refine sq F ?_)| ((first|refine hK _ _ (w0 ?_)| (clear hK K;refine hK _ _ (w0 ?_))| (clear hK K;clear hK K;refine hK _ _ (w0 ?_)));clear hK K))))
    ·refine cq F (fun g3=>?_) (fun g3=>?_)<;>(try exact g3.elim)<;>((repeat (first|refine w1 (fun K hK=>?_)|refine w2 ?_|refine w3 ?_| ((first|refine w4 ?_|refine wD ?_|refine w5 ?_|refine w6 ?_|refine w7 ?_);try refine sq F ?_)| (refine w8 ?_;refine sq F ?_;refine w9 ?_)| (refine rq F ?_;try refine sq F ?_)| (refine vq F ?_;try refine sq F ?_)| ((first|refine hK _ _ (w0 ?_)| (clear hK K;refine hK _ _ (w0 ?_))| (clear hK K;clear hK K;refine hK _ _ (w0 ?_)));clear hK K))))
     ·rw[if_pos (yes (by omega))]at hv
      refine hK2 _ _ _ (Wkn.refl ⟨k+1,v,acc,w,rfl,aB,?_,?_,?_,by omega,hv,by omega⟩) (by omega)
      all_goals first|exact zq F|rfl|omega|trivial|skip
     ·rw[if_neg (by rw[no (by omega)];simp)]at hv
      refine cq F (fun c3=>?_) (fun c3=>?_)<;>(try exact c3.elim)<;>((repeat (first|refine w1 (fun K hK=>?_)|refine w2 ?_|refine w3 ?_| ((first|refine w4 ?_|refine wD ?_|refine w5 ?_|refine w6 ?_|refine w7 ?_);try refine sq F ?_)| (refine w8 ?_;refine sq F ?_;refine w9 ?_)| (refine rq F ?_;try refine sq F ?_)| (refine vq F ?_;try refine sq F ?_)| ((first|refine hK _ _ (w0 ?_)| (clear hK K;refine hK _ _ (w0 ?_))| (clear hK K;clear hK K;refine hK _ _ (w0 ?_)));clear hK K))))
      ·rw[if_pos c3]at hv
       refine aq F ?_
       try refine sq F ?_
       (repeat (first|refine w1 (fun K hK=>?_)|refine w2 ?_|refine w3 ?_| ((first|refine w4 ?_|refine wD ?_|refine w5 ?_|refine w6 ?_|refine w7 ?_);try refine sq F ?_)| (refine w8 ?_;refine sq F ?_;refine w9 ?_)| (refine rq F ?_;try refine sq F ?_)| (refine vq F ?_;try refine sq F ?_)| ((first|refine hK _ _ (w0 ?_)| (clear hK K;refine hK _ _ (w0 ?_))| (clear hK K;clear hK K;refine hK _ _ (w0 ?_)));clear hK K)))
       refine aq F ?_
       try refine sq F ?_
       (repeat (first|refine w1 (fun K hK=>?_)|refine w2 ?_|refine w3 ?_| ((first|refine w4 ?_|refine wD ?_|refine w5 ?_|refine w6 ?_|refine w7 ?_);try refine sq F ?_)| (refine w8 ?_;refine sq F ?_;refine w9 ?_)| (refine rq F ?_;try refine sq F ?_)| (refine vq F ?_;try refine sq F ?_)| ((first|refine hK _ _ (w0 ?_)| (clear hK K;refine hK _ _ (w0 ?_))| (clear hK K;clear hK K;refine hK _ _ (w0 ?_)));clear hK K)))
       refine hK2 _ _ _ (Wkn.refl ⟨k+1,v+1+1,acc++[32,y],false,rfl,by simp[runA],?_,?_,?_,by omega,hv,by simp;omega⟩) (by omega)
       all_goals first|exact zq F|rfl|omega|trivial|skip
      ·rw[if_neg (by simp[c3])]at hv
       refine aq F ?_
       try refine sq F ?_
       (repeat (first|refine w1 (fun K hK=>?_)|refine w2 ?_|refine w3 ?_| ((first|refine w4 ?_|refine wD ?_|refine w5 ?_|refine w6 ?_|refine w7 ?_);try refine sq F ?_)| (refine w8 ?_;refine sq F ?_;refine w9 ?_)| (refine rq F ?_;try refine sq F ?_)| (refine vq F ?_;try refine sq F ?_)| ((first|refine hK _ _ (w0 ?_)| (clear hK K;refine hK _ _ (w0 ?_))| (clear hK K;clear hK K;refine hK _ _ (w0 ?_)));clear hK K)))
       refine hK2 _ _ _ (Wkn.refl ⟨k+1,v+1,acc++[y],w,rfl,by simp[runA],?_,?_,?_,by omega,by rw[c3];exact hv,by simp;omega⟩) (by omega)
       all_goals first|exact zq F|rfl|omega|trivial|skip
    ·rw[if_neg (by rw[no (by omega)];simp)]at hv
     refine cq F (fun c3=>?_) (fun c3=>?_)<;>(try exact c3.elim)<;>((repeat (first|refine w1 (fun K hK=>?_)|refine w2 ?_|refine w3 ?_| ((first|refine w4 ?_|refine wD ?_|refine w5 ?_|refine w6 ?_|refine w7 ?_);try refine sq F ?_)| (refine w8 ?_;refine sq F ?_;refine w9 ?_)| (refine rq F ?_;try refine sq F ?_)| (refine vq F ?_;try refine sq F ?_)| ((first|refine hK _ _ (w0 ?_)| (clear hK K;refine hK _ _ (w0 ?_))| (clear hK K;clear hK K;refine hK _ _ (w0 ?_)));clear hK K))))
     ·rw[if_pos c3]at hv
      refine aq F ?_
      try refine sq F ?_
      (repeat (first|refine w1 (fun K hK=>?_)|refine w2 ?_|refine w3 ?_| ((first|refine w4 ?_|refine wD ?_|refine w5 ?_|refine w6 ?_|refine w7 ?_);try refine sq F ?_)| (refine w8 ?_;refine sq F ?_;refine w9 ?_)| (refine rq F ?_;try refine sq F ?_)| (refine vq F ?_;try refine sq F ?_)| ((first|refine hK _ _ (w0 ?_)| (clear hK K;refine hK _ _ (w0 ?_))| (clear hK K;clear hK K;refine hK _ _ (w0 ?_)));clear hK K)))
      refine aq F ?_
      try refine sq F ?_
      (repeat (first|refine w1 (fun K hK=>?_)|refine w2 ?_|refine w3 ?_| ((first|refine w4 ?_|refine wD ?_|refine w5 ?_|refine w6 ?_|refine w7 ?_);try refine sq F ?_)| (refine w8 ?_;refine sq F ?_;refine w9 ?_)| (refine rq F ?_;try refine sq F ?_)| (refine vq F ?_;try refine sq F ?_)| ((first|refine hK _ _ (w0 ?_)| (clear hK K;refine hK _ _ (w0 ?_))| (clear hK K;clear hK K;refine hK _ _ (w0 ?_)));clear hK K)))
      refine hK2 _ _ _ (Wkn.refl ⟨k+1,v+1+1,acc++[32,y],false,rfl,by simp[runA],?_,?_,?_,by omega,hv,by simp;omega⟩) (by omega)
      all_goals first|exact zq F|rfl|omega|trivial|skip
     ·rw[if_neg (by simp[c3])]at hv
      refine aq F ?_
      try refine sq F ?_
      (repeat (first|refine w1 (fun K hK=>?_)|refine w2 ?_|refine w3 ?_| ((first|refine w4 ?_|refine wD ?_|refine w5 ?_|refine w6 ?_|refine w7 ?_);try refine sq F ?_)| (refine w8 ?_;refine sq F ?_;refine w9 ?_)| (refine rq F ?_;try refine sq F ?_)| (refine vq F ?_;try refine sq F ?_)| ((first|refine hK _ _ (w0 ?_)| (clear hK K;refine hK _ _ (w0 ?_))| (clear hK K;clear hK K;refine hK _ _ (w0 ?_)));clear hK K)))
      refine hK2 _ _ _ (Wkn.refl ⟨k+1,v+1,acc++[y],w,rfl,by simp[runA],?_,?_,?_,by omega,by rw[c3];exact hv,by simp;omega⟩) (by omega)
      all_goals first|exact zq F|rfl|omega|trivial|skip
 ·rw[aN c1,clnR]at hv
  (repeat (first|refine w1 (fun K hK=>?_)|refine w2 ?_|refine w3 ?_| ((first|refine w4 ?_|refine wD ?_|refine w5 ?_|refine w6 ?_|refine w7 ?_);try refine sq F ?_)| (refine w8 ?_;refine sq F ?_;refine w9 ?_)| (refine rq F ?_;try refine sq F ?_)| (refine vq F ?_;try refine sq F ?_)))
  have hg:getRow (h++[.row 21 1 v (acc.map runA)]) h.length v=some (21,1,acc.map runA):=by simp[getRow]
  have ht:∀(ms:List Nat) (t:Env),4∈ms→t 4=.hs h.length v 0 acc.length true→∀i,upd t 4 (.sl 1 (acc.map runA)) i=t i∨(i∈ms∧Fz (h++[.row 21 1 v (acc.map runA)]) h.length v (t i) (upd t 4 (.sl 1 (acc.map runA)) i)):=fun ms t hm ht i=>by
   by_cases hi:i=4
   ·subst hi
    right
    refine⟨hm,?_⟩
    rw[ht]
    simp only[upd, ↓reduceIte]
    exact Fz.all _ _ _ hg rfl (by simp)
   ·left;simp only[upd];rw[if_neg hi]
  clear hK K
  refine hK _ _ ⟨_,_,Weak.fz h.length v hg (ht _ _ (by decide+kernel) (by exact zq F)),?_⟩
  clear hK K
  have hset:(h++[Blk.row 21 1 v (acc.map runA)]).set h.length Blk.dead=h++[Blk.dead]:=by simp
  rw[hset]
  (repeat (first|refine w1 (fun K hK=>?_)|refine w2 ?_|refine w3 ?_| ((first|refine w4 ?_|refine wD ?_|refine w5 ?_|refine w6 ?_|refine w7 ?_);try refine sq F ?_)| (refine w8 ?_;refine sq F ?_;refine w9 ?_)| (refine rq F ?_;try refine sq F ?_)| (refine vq F ?_;try refine sq F ?_)| ((first|refine hK _ _ (w0 ?_)| (clear hK K;refine hK _ _ (w0 ?_))| (clear hK K;clear hK K;refine hK _ _ (w0 ?_)));clear hK K)))
  refine(uT G acc (fun r hr=>hcl r (by rw[hdef, ← hv];exact hr)) (by omega) _).mono ?_
  rintro r h' ⟨rfl,rfl⟩
  try refine sq F ?_
  (repeat (first|refine w1 (fun K hK=>?_)|refine w2 ?_|refine w3 ?_| ((first|refine w4 ?_|refine wD ?_|refine w5 ?_|refine w6 ?_|refine w7 ?_);try refine sq F ?_)| (refine w8 ?_;refine sq F ?_;refine w9 ?_)| (refine rq F ?_;try refine sq F ?_)| (refine vq F ?_;try refine sq F ?_)| ((first|refine hK _ _ (w0 ?_)| (clear hK K;refine hK _ _ (w0 ?_))| (clear hK K;clear hK K;refine hK _ _ (w0 ?_)));clear hK K)))
  refine ee hQ F ?_
  refine fR (.str _) ?_
  rw[hv];exact congrArg AVal.str hcf
end Go.Av
namespace Go.Av
open Go Go.Proofs Go.RowKit
attribute [local irreducible] WP WPl WPix Sat
variable (G:Nat→Option (List AVal))
theorem rC(c:Int)(hc:Rune c)(h:Heap):Sat (CT G) 268 [.int .i32 c] h (fun r h'=>r=.int .i32 (foldR c)∧h'=h):=by
 have c0:0≤c∧c≤1114111:=by unfold Rune at hc;omega
 obtain⟨c1,c2⟩:=c0
 have w32:c≤2000→IntKind.i32.wrap (c+32)=c+32:=fun _=>cr (by omega) (by omega)
 have w80:c≤2000→IntKind.i32.wrap (c+80)=c+80:=fun _=>cr (by omega) (by omega)
 by_cases k0:c≤64
 ·have a0:decide (c≥65)=false:=by simp;omega
  have a1:decide (c≥192)=false:=by simp;omega
  have a2:decide (c≥913)=false:=by simp;omega
  have a3:decide (c≥1040)=false:=by simp;omega
  have a4:decide (c≥1024)=false:=by simp;omega
  have a5:decide (c≤90)=true:=by simp;omega
  have a6:decide (c≤222)=true:=by simp;omega
  have a7:decide (c≤937)=true:=by simp;omega
  have a8:decide (c≤1071)=true:=by simp;omega
  have a9:decide (c≤1039)=true:=by simp;omega
  have a10:(c !=215)=true:=by simp;omega
  have a11:(c !=930)=true:=by simp;omega
  have F:=F2 (F9 a0 a1 a2 a3 a4 a5 a6 a7 a8) (F3 a9 a10 a11)
  refine sb [.tmp 2] (fn:=Tryz.f268) Tryz.func268 ?_
  intro Q hQ
  refine wk F ?_
  refine ee hQ F ?_
  exact Fin.same (.int _ _) ⟨by
   unfold foldR btw
   simp only[Bool.and_eq_true,decide_eq_true_eq]
   first
    |rw[if_pos (by omega)]
    | (rw[if_neg (by omega),if_pos (by omega)];first|rfl|rw[w32 (by omega)])
    | (rw[if_neg (by omega),if_neg (by omega),if_pos (by omega)];first|rfl|rw[w80 (by omega)])
    |rw[if_neg (by omega),if_neg (by omega),if_neg (by omega)],rfl⟩
 by_cases k1:c≤90
 ·have a0:decide (c≥65)=true:=by simp;omega
  have a1:decide (c≥192)=false:=by simp;omega
  have a2:decide (c≥913)=false:=by simp;omega
  have a3:decide (c≥1040)=false:=by simp;omega
  have a4:decide (c≥1024)=false:=by simp;omega
  have a5:decide (c≤90)=true:=by simp;omega
  have a6:decide (c≤222)=true:=by simp;omega
  have a7:decide (c≤937)=true:=by simp;omega
  have a8:decide (c≤1071)=true:=by simp;omega
  have a9:decide (c≤1039)=true:=by simp;omega
  have a10:(c !=215)=true:=by simp;omega
  have a11:(c !=930)=true:=by simp;omega
  have F:=F2 (F9 a0 a1 a2 a3 a4 a5 a6 a7 a8) (F3 a9 a10 a11)
  refine sb [.tmp 2] (fn:=Tryz.f268) Tryz.func268 ?_
  intro Q hQ
  refine wk F ?_
  refine ee hQ F ?_
  exact Fin.same (.int _ _) ⟨by
   unfold foldR btw
   simp only[Bool.and_eq_true,decide_eq_true_eq]
   first
    |rw[if_pos (by omega)]
    | (rw[if_neg (by omega),if_pos (by omega)];first|rfl|rw[w32 (by omega)])
    | (rw[if_neg (by omega),if_neg (by omega),if_pos (by omega)];first|rfl|rw[w80 (by omega)])
    |rw[if_neg (by omega),if_neg (by omega),if_neg (by omega)],rfl⟩
 by_cases k2:c≤191
 ·have a0:decide (c≥65)=true:=by simp;omega
  have a1:decide (c≥192)=false:=by simp;omega
  have a2:decide (c≥913)=false:=by simp;omega
  have a3:decide (c≥1040)=false:=by simp;omega
  have a4:decide (c≥1024)=false:=by simp;omega
  have a5:decide (c≤90)=false:=by simp;omega
  have a6:decide (c≤222)=true:=by simp;omega
  have a7:decide (c≤937)=true:=by simp;omega
  have a8:decide (c≤1071)=true:=by simp;omega
  have a9:decide (c≤1039)=true:=by simp;omega
  have a10:(c !=215)=true:=by simp;omega
  have a11:(c !=930)=true:=by simp;omega
  have F:=F2 (F9 a0 a1 a2 a3 a4 a5 a6 a7 a8) (F3 a9 a10 a11)
  refine sb [.tmp 2] (fn:=Tryz.f268) Tryz.func268 ?_
  intro Q hQ
  refine wk F ?_
  refine ee hQ F ?_
  exact Fin.same (.int _ _) ⟨by
   unfold foldR btw
   simp only[Bool.and_eq_true,decide_eq_true_eq]
   first
    |rw[if_pos (by omega)]
    | (rw[if_neg (by omega),if_pos (by omega)];first|rfl|rw[w32 (by omega)])
    | (rw[if_neg (by omega),if_neg (by omega),if_pos (by omega)];first|rfl|rw[w80 (by omega)])
    |rw[if_neg (by omega),if_neg (by omega),if_neg (by omega)],rfl⟩
 by_cases k3:c≤214
 ·have a0:decide (c≥65)=true:=by simp;omega
  have a1:decide (c≥192)=true:=by simp;omega
  have a2:decide (c≥913)=false:=by simp;omega
  have a3:decide (c≥1040)=false:=by simp;omega
  have a4:decide (c≥1024)=false:=by simp;omega
  have a5:decide (c≤90)=false:=by simp;omega
  have a6:decide (c≤222)=true:=by simp;omega
  have a7:decide (c≤937)=true:=by simp;omega
  have a8:decide (c≤1071)=true:=by simp;omega
  have a9:decide (c≤1039)=true:=by simp;omega
  have a10:(c !=215)=true:=by simp;omega
  have a11:(c !=930)=true:=by simp;omega
  have F:=F2 (F9 a0 a1 a2 a3 a4 a5 a6 a7 a8) (F3 a9 a10 a11)
  refine sb [.tmp 2] (fn:=Tryz.f268) Tryz.func268 ?_
  intro Q hQ
  refine wk F ?_
  refine ee hQ F ?_
  exact Fin.same (.int _ _) ⟨by
   unfold foldR btw
   simp only[Bool.and_eq_true,decide_eq_true_eq]
   first
    |rw[if_pos (by omega)]
    | (rw[if_neg (by omega),if_pos (by omega)];first|rfl|rw[w32 (by omega)])
    | (rw[if_neg (by omega),if_neg (by omega),if_pos (by omega)];first|rfl|rw[w80 (by omega)])
    |rw[if_neg (by omega),if_neg (by omega),if_neg (by omega)],rfl⟩
 by_cases k4:c≤215
 ·have a0:decide (c≥65)=true:=by simp;omega
  have a1:decide (c≥192)=true:=by simp;omega
  have a2:decide (c≥913)=false:=by simp;omega
  have a3:decide (c≥1040)=false:=by simp;omega
  have a4:decide (c≥1024)=false:=by simp;omega
  have a5:decide (c≤90)=false:=by simp;omega
  have a6:decide (c≤222)=true:=by simp;omega
  have a7:decide (c≤937)=true:=by simp;omega
  have a8:decide (c≤1071)=true:=by simp;omega
  have a9:decide (c≤1039)=true:=by simp;omega
  have a10:(c !=215)=false:=by simp;omega
  have a11:(c !=930)=true:=by simp;omega
  have F:=F2 (F9 a0 a1 a2 a3 a4 a5 a6 a7 a8) (F3 a9 a10 a11)
  refine sb [.tmp 2] (fn:=Tryz.f268) Tryz.func268 ?_
  intro Q hQ
  refine wk F ?_
  refine ee hQ F ?_
  exact Fin.same (.int _ _) ⟨by
   unfold foldR btw
   simp only[Bool.and_eq_true,decide_eq_true_eq]
   first
    |rw[if_pos (by omega)]
    | (rw[if_neg (by omega),if_pos (by omega)];first|rfl|rw[w32 (by omega)])
    | (rw[if_neg (by omega),if_neg (by omega),if_pos (by omega)];first|rfl|rw[w80 (by omega)])
    |rw[if_neg (by omega),if_neg (by omega),if_neg (by omega)],rfl⟩
 by_cases k5:c≤222
 ·have a0:decide (c≥65)=true:=by simp;omega
  have a1:decide (c≥192)=true:=by simp;omega
  have a2:decide (c≥913)=false:=by simp;omega
  have a3:decide (c≥1040)=false:=by simp;omega
  have a4:decide (c≥1024)=false:=by simp;omega
  have a5:decide (c≤90)=false:=by simp;omega
  have a6:decide (c≤222)=true:=by simp;omega
  have a7:decide (c≤937)=true:=by simp;omega
  have a8:decide (c≤1071)=true:=by simp;omega
  have a9:decide (c≤1039)=true:=by simp;omega
  have a10:(c !=215)=true:=by simp;omega
  have a11:(c !=930)=true:=by simp;omega
  have F:=F2 (F9 a0 a1 a2 a3 a4 a5 a6 a7 a8) (F3 a9 a10 a11)
  refine sb [.tmp 2] (fn:=Tryz.f268) Tryz.func268 ?_
  intro Q hQ
  refine wk F ?_
  refine ee hQ F ?_
  exact Fin.same (.int _ _) ⟨by
   unfold foldR btw
   simp only[Bool.and_eq_true,decide_eq_true_eq]
   first
    |rw[if_pos (by omega)]
    | (rw[if_neg (by omega),if_pos (by omega)];first|rfl|rw[w32 (by omega)])
    | (rw[if_neg (by omega),if_neg (by omega),if_pos (by omega)];first|rfl|rw[w80 (by omega)])
    |rw[if_neg (by omega),if_neg (by omega),if_neg (by omega)],rfl⟩
 by_cases k6:c≤912
 ·have a0:decide (c≥65)=true:=by simp;omega
  have a1:decide (c≥192)=true:=by simp;omega
  have a2:decide (c≥913)=false:=by simp;omega
  have a3:decide (c≥1040)=false:=by simp;omega
  have a4:decide (c≥1024)=false:=by simp;omega
  have a5:decide (c≤90)=false:=by simp;omega
  have a6:decide (c≤222)=false:=by simp;omega
  have a7:decide (c≤937)=true:=by simp;omega
  have a8:decide (c≤1071)=true:=by simp;omega
  have a9:decide (c≤1039)=true:=by simp;omega
  have a10:(c !=215)=true:=by simp;omega
  have a11:(c !=930)=true:=by simp;omega
  have F:=F2 (F9 a0 a1 a2 a3 a4 a5 a6 a7 a8) (F3 a9 a10 a11)
  refine sb [.tmp 2] (fn:=Tryz.f268) Tryz.func268 ?_
  intro Q hQ
  refine wk F ?_
  refine ee hQ F ?_
  exact Fin.same (.int _ _) ⟨by
   unfold foldR btw
   simp only[Bool.and_eq_true,decide_eq_true_eq]
   first
    |rw[if_pos (by omega)]
    | (rw[if_neg (by omega),if_pos (by omega)];first|rfl|rw[w32 (by omega)])
    | (rw[if_neg (by omega),if_neg (by omega),if_pos (by omega)];first|rfl|rw[w80 (by omega)])
    |rw[if_neg (by omega),if_neg (by omega),if_neg (by omega)],rfl⟩
 by_cases k7:c≤929
 ·have a0:decide (c≥65)=true:=by simp;omega
  have a1:decide (c≥192)=true:=by simp;omega
  have a2:decide (c≥913)=true:=by simp;omega
  have a3:decide (c≥1040)=false:=by simp;omega
  have a4:decide (c≥1024)=false:=by simp;omega
  have a5:decide (c≤90)=false:=by simp;omega
  have a6:decide (c≤222)=false:=by simp;omega
  have a7:decide (c≤937)=true:=by simp;omega
  have a8:decide (c≤1071)=true:=by simp;omega
  have a9:decide (c≤1039)=true:=by simp;omega
  have a10:(c !=215)=true:=by simp;omega
  have a11:(c !=930)=true:=by simp;omega
  have F:=F2 (F9 a0 a1 a2 a3 a4 a5 a6 a7 a8) (F3 a9 a10 a11)
  refine sb [.tmp 2] (fn:=Tryz.f268) Tryz.func268 ?_
  intro Q hQ
  refine wk F ?_
  refine ee hQ F ?_
  exact Fin.same (.int _ _) ⟨by
   unfold foldR btw
   simp only[Bool.and_eq_true,decide_eq_true_eq]
   first
    |rw[if_pos (by omega)]
    | (rw[if_neg (by omega),if_pos (by omega)];first|rfl|rw[w32 (by omega)])
    | (rw[if_neg (by omega),if_neg (by omega),if_pos (by omega)];first|rfl|rw[w80 (by omega)])
    |rw[if_neg (by omega),if_neg (by omega),if_neg (by omega)],rfl⟩
 by_cases k8:c≤930
 ·have a0:decide (c≥65)=true:=by simp;omega
  have a1:decide (c≥192)=true:=by simp;omega
  have a2:decide (c≥913)=true:=by simp;omega
  have a3:decide (c≥1040)=false:=by simp;omega
  have a4:decide (c≥1024)=false:=by simp;omega
  have a5:decide (c≤90)=false:=by simp;omega
  have a6:decide (c≤222)=false:=by simp;omega
  have a7:decide (c≤937)=true:=by simp;omega
  have a8:decide (c≤1071)=true:=by simp;omega
  have a9:decide (c≤1039)=true:=by simp;omega
  have a10:(c !=215)=true:=by simp;omega
  have a11:(c !=930)=false:=by simp;omega
  have F:=F2 (F9 a0 a1 a2 a3 a4 a5 a6 a7 a8) (F3 a9 a10 a11)
  refine sb [.tmp 2] (fn:=Tryz.f268) Tryz.func268 ?_
  intro Q hQ
  refine wk F ?_
  refine ee hQ F ?_
  exact Fin.same (.int _ _) ⟨by
   unfold foldR btw
   simp only[Bool.and_eq_true,decide_eq_true_eq]
   first
    |rw[if_pos (by omega)]
    | (rw[if_neg (by omega),if_pos (by omega)];first|rfl|rw[w32 (by omega)])
    | (rw[if_neg (by omega),if_neg (by omega),if_pos (by omega)];first|rfl|rw[w80 (by omega)])
    |rw[if_neg (by omega),if_neg (by omega),if_neg (by omega)],rfl⟩
 by_cases k9:c≤937
 ·have a0:decide (c≥65)=true:=by simp;omega
  have a1:decide (c≥192)=true:=by simp;omega
  have a2:decide (c≥913)=true:=by simp;omega
  have a3:decide (c≥1040)=false:=by simp;omega
  have a4:decide (c≥1024)=false:=by simp;omega
  have a5:decide (c≤90)=false:=by simp;omega
  have a6:decide (c≤222)=false:=by simp;omega
  have a7:decide (c≤937)=true:=by simp;omega
  have a8:decide (c≤1071)=true:=by simp;omega
  have a9:decide (c≤1039)=true:=by simp;omega
  have a10:(c !=215)=true:=by simp;omega
  have a11:(c !=930)=true:=by simp;omega
  have F:=F2 (F9 a0 a1 a2 a3 a4 a5 a6 a7 a8) (F3 a9 a10 a11)
  refine sb [.tmp 2] (fn:=Tryz.f268) Tryz.func268 ?_
  intro Q hQ
  refine wk F ?_
  refine ee hQ F ?_
  exact Fin.same (.int _ _) ⟨by
   unfold foldR btw
   simp only[Bool.and_eq_true,decide_eq_true_eq]
   first
    |rw[if_pos (by omega)]
    | (rw[if_neg (by omega),if_pos (by omega)];first|rfl|rw[w32 (by omega)])
    | (rw[if_neg (by omega),if_neg (by omega),if_pos (by omega)];first|rfl|rw[w80 (by omega)])
    |rw[if_neg (by omega),if_neg (by omega),if_neg (by omega)],rfl⟩
 by_cases k10:c≤1023
 ·have a0:decide (c≥65)=true:=by simp;omega
  have a1:decide (c≥192)=true:=by simp;omega
  have a2:decide (c≥913)=true:=by simp;omega
  have a3:decide (c≥1040)=false:=by simp;omega
  have a4:decide (c≥1024)=false:=by simp;omega
  have a5:decide (c≤90)=false:=by simp;omega
  have a6:decide (c≤222)=false:=by simp;omega
  have a7:decide (c≤937)=false:=by simp;omega
  have a8:decide (c≤1071)=true:=by simp;omega
  have a9:decide (c≤1039)=true:=by simp;omega
  have a10:(c !=215)=true:=by simp;omega
  have a11:(c !=930)=true:=by simp;omega
  have F:=F2 (F9 a0 a1 a2 a3 a4 a5 a6 a7 a8) (F3 a9 a10 a11)
  refine sb [.tmp 2] (fn:=Tryz.f268) Tryz.func268 ?_
  intro Q hQ
  refine wk F ?_
  refine ee hQ F ?_
  exact Fin.same (.int _ _) ⟨by
   unfold foldR btw
   simp only[Bool.and_eq_true,decide_eq_true_eq]
   first
    |rw[if_pos (by omega)]
    | (rw[if_neg (by omega),if_pos (by omega)];first|rfl|rw[w32 (by omega)])
    | (rw[if_neg (by omega),if_neg (by omega),if_pos (by omega)];first|rfl|rw[w80 (by omega)])
    |rw[if_neg (by omega),if_neg (by omega),if_neg (by omega)],rfl⟩
 by_cases k11:c≤1039
 ·have a0:decide (c≥65)=true:=by simp;omega
  have a1:decide (c≥192)=true:=by simp;omega
  have a2:decide (c≥913)=true:=by simp;omega
  have a3:decide (c≥1040)=false:=by simp;omega
  have a4:decide (c≥1024)=true:=by simp;omega
  have a5:decide (c≤90)=false:=by simp;omega
  have a6:decide (c≤222)=false:=by simp;omega
  have a7:decide (c≤937)=false:=by simp;omega
  have a8:decide (c≤1071)=true:=by simp;omega
  have a9:decide (c≤1039)=true:=by simp;omega
  have a10:(c !=215)=true:=by simp;omega
  have a11:(c !=930)=true:=by simp;omega
  have F:=F2 (F9 a0 a1 a2 a3 a4 a5 a6 a7 a8) (F3 a9 a10 a11)
  refine sb [.tmp 2] (fn:=Tryz.f268) Tryz.func268 ?_
  intro Q hQ
  refine wk F ?_
  refine ee hQ F ?_
  exact Fin.same (.int _ _) ⟨by
   unfold foldR btw
   simp only[Bool.and_eq_true,decide_eq_true_eq]
   first
    |rw[if_pos (by omega)]
    | (rw[if_neg (by omega),if_pos (by omega)];first|rfl|rw[w32 (by omega)])
    | (rw[if_neg (by omega),if_neg (by omega),if_pos (by omega)];first|rfl|rw[w80 (by omega)])
    |rw[if_neg (by omega),if_neg (by omega),if_neg (by omega)],rfl⟩
 by_cases k12:c≤1071
 ·have a0:decide (c≥65)=true:=by simp;omega
  have a1:decide (c≥192)=true:=by simp;omega
  have a2:decide (c≥913)=true:=by simp;omega
  have a3:decide (c≥1040)=true:=by simp;omega
  have a4:decide (c≥1024)=true:=by simp;omega
  have a5:decide (c≤90)=false:=by simp;omega
  have a6:decide (c≤222)=false:=by simp;omega
  have a7:decide (c≤937)=false:=by simp;omega
  have a8:decide (c≤1071)=true:=by simp;omega
  have a9:decide (c≤1039)=false:=by simp;omega
  have a10:(c !=215)=true:=by simp;omega
  have a11:(c !=930)=true:=by simp;omega
  have F:=F2 (F9 a0 a1 a2 a3 a4 a5 a6 a7 a8) (F3 a9 a10 a11)
  refine sb [.tmp 2] (fn:=Tryz.f268) Tryz.func268 ?_
  intro Q hQ
  refine wk F ?_
  refine ee hQ F ?_
  exact Fin.same (.int _ _) ⟨by
   unfold foldR btw
   simp only[Bool.and_eq_true,decide_eq_true_eq]
   first
    |rw[if_pos (by omega)]
    | (rw[if_neg (by omega),if_pos (by omega)];first|rfl|rw[w32 (by omega)])
    | (rw[if_neg (by omega),if_neg (by omega),if_pos (by omega)];first|rfl|rw[w80 (by omega)])
    |rw[if_neg (by omega),if_neg (by omega),if_neg (by omega)],rfl⟩
 have a0:decide (c≥65)=true:=by simp;omega
 have a1:decide (c≥192)=true:=by simp;omega
 have a2:decide (c≥913)=true:=by simp;omega
 have a3:decide (c≥1040)=true:=by simp;omega
 have a4:decide (c≥1024)=true:=by simp;omega
 have a5:decide (c≤90)=false:=by simp;omega
 have a6:decide (c≤222)=false:=by simp;omega
 have a7:decide (c≤937)=false:=by simp;omega
 have a8:decide (c≤1071)=false:=by simp;omega
 have a9:decide (c≤1039)=false:=by simp;omega
 have a10:(c !=215)=true:=by simp;omega
 have a11:(c !=930)=true:=by simp;omega
 have F:=F2 (F9 a0 a1 a2 a3 a4 a5 a6 a7 a8) (F3 a9 a10 a11)
 refine sb [.tmp 2] (fn:=Tryz.f268) Tryz.func268 ?_
 intro Q hQ
 refine wk F ?_
 refine ee hQ F ?_
 exact Fin.same (.int _ _) ⟨by
   unfold foldR btw
   simp only[Bool.and_eq_true,decide_eq_true_eq]
   first
    |rw[if_pos (by omega)]
    | (rw[if_neg (by omega),if_pos (by omega)];first|rfl|rw[w32 (by omega)])
    | (rw[if_neg (by omega),if_neg (by omega),if_pos (by omega)];first|rfl|rw[w80 (by omega)])
    |rw[if_neg (by omega),if_neg (by omega),if_neg (by omega)],rfl⟩
def letR(c:Int):Bool:=letF c.toNat
theorem nG(c:Int)(hc:Rune c)(h:Heap):Sat (CT G) 243 [.int .i32 c] h (fun r h'=>r=.bool (letR c)∧h'=h):=by
 have c0:0≤c∧c≤1114111:=by unfold Rune at hc;omega
 obtain⟨c1,c2⟩:=c0
 by_cases k0:c≤47
 ·have a0:decide (c≥97)=false:=by simp;omega
  have a1:decide (c≥48)=false:=by simp;omega
  have a2:decide (c≥8192)=false:=by simp;omega
  have a3:decide (c≥12288)=false:=by simp;omega
  have a4:decide (c≤122)=true:=by simp;omega
  have a5:decide (c≤57)=true:=by simp;omega
  have a6:decide (c≤8303)=true:=by simp;omega
  have a7:decide (c≤12351)=true:=by simp;omega
  have a8:decide (c<192)=true:=by simp;omega
  have a9:(c==215)=false:=by simp;omega
  have a10:(c==247)=false:=by simp;omega
  have a11:(c==65533)=false:=by simp;omega
  have F:=F2 (F9 a0 a1 a2 a3 a4 a5 a6 a7 a8) (F3 a9 a10 a11)
  refine sb [.tmp 2] (fn:=Tryz.f243) Tryz.func243 ?_
  intro Q hQ
  refine wk F ?_
  refine ee hQ F ?_
  exact Fin.same (.bool _) ⟨by
   unfold letR letF
   congr 1
   symm
   first
    |rw[if_pos (by omega)]
    |rw[if_neg (by omega)]
   rw[Bool.eq_iff_iff]
   simp only[Bool.and_eq_true,Bool.or_eq_true,Bool.not_eq_true',Bool.or_eq_false_iff,Bool.and_eq_false_iff,decide_eq_true_eq,decide_eq_false_iff_not,Bool.false_eq_true,iff_true,iff_false]
   omega,rfl⟩
 by_cases k1:c≤57
 ·have a0:decide (c≥97)=false:=by simp;omega
  have a1:decide (c≥48)=true:=by simp;omega
  have a2:decide (c≥8192)=false:=by simp;omega
  have a3:decide (c≥12288)=false:=by simp;omega
  have a4:decide (c≤122)=true:=by simp;omega
  have a5:decide (c≤57)=true:=by simp;omega
  have a6:decide (c≤8303)=true:=by simp;omega
  have a7:decide (c≤12351)=true:=by simp;omega
  have a8:decide (c<192)=true:=by simp;omega
  have a9:(c==215)=false:=by simp;omega
  have a10:(c==247)=false:=by simp;omega
  have a11:(c==65533)=false:=by simp;omega
  have F:=F2 (F9 a0 a1 a2 a3 a4 a5 a6 a7 a8) (F3 a9 a10 a11)
  refine sb [.tmp 2] (fn:=Tryz.f243) Tryz.func243 ?_
  intro Q hQ
  refine wk F ?_
  refine ee hQ F ?_
  exact Fin.same (.bool _) ⟨by
   unfold letR letF
   congr 1
   symm
   first
    |rw[if_pos (by omega)]
    |rw[if_neg (by omega)]
   rw[Bool.eq_iff_iff]
   simp only[Bool.and_eq_true,Bool.or_eq_true,Bool.not_eq_true',Bool.or_eq_false_iff,Bool.and_eq_false_iff,decide_eq_true_eq,decide_eq_false_iff_not,Bool.false_eq_true,iff_true,iff_false]
   omega,rfl⟩
 by_cases k2:c≤96
 ·have a0:decide (c≥97)=false:=by simp;omega
  have a1:decide (c≥48)=true:=by simp;omega
  have a2:decide (c≥8192)=false:=by simp;omega
  have a3:decide (c≥12288)=false:=by simp;omega
  have a4:decide (c≤122)=true:=by simp;omega
  have a5:decide (c≤57)=false:=by simp;omega
  have a6:decide (c≤8303)=true:=by simp;omega
  have a7:decide (c≤12351)=true:=by simp;omega
  have a8:decide (c<192)=true:=by simp;omega
  have a9:(c==215)=false:=by simp;omega
  have a10:(c==247)=false:=by simp;omega
  have a11:(c==65533)=false:=by simp;omega
  have F:=F2 (F9 a0 a1 a2 a3 a4 a5 a6 a7 a8) (F3 a9 a10 a11)
  refine sb [.tmp 2] (fn:=Tryz.f243) Tryz.func243 ?_
  intro Q hQ
  refine wk F ?_
  refine ee hQ F ?_
  exact Fin.same (.bool _) ⟨by
   unfold letR letF
   congr 1
   symm
   first
    |rw[if_pos (by omega)]
    |rw[if_neg (by omega)]
   rw[Bool.eq_iff_iff]
   simp only[Bool.and_eq_true,Bool.or_eq_true,Bool.not_eq_true',Bool.or_eq_false_iff,Bool.and_eq_false_iff,decide_eq_true_eq,decide_eq_false_iff_not,Bool.false_eq_true,iff_true,iff_false]
   omega,rfl⟩
 by_cases k3:c≤122
 ·have a0:decide (c≥97)=true:=by simp;omega
  have a1:decide (c≥48)=true:=by simp;omega
  have a2:decide (c≥8192)=false:=by simp;omega
  have a3:decide (c≥12288)=false:=by simp;omega
  have a4:decide (c≤122)=true:=by simp;omega
  have a5:decide (c≤57)=false:=by simp;omega
  have a6:decide (c≤8303)=true:=by simp;omega
  have a7:decide (c≤12351)=true:=by simp;omega
  have a8:decide (c<192)=true:=by simp;omega
  have a9:(c==215)=false:=by simp;omega
  have a10:(c==247)=false:=by simp;omega
  have a11:(c==65533)=false:=by simp;omega
  have F:=F2 (F9 a0 a1 a2 a3 a4 a5 a6 a7 a8) (F3 a9 a10 a11)
  refine sb [.tmp 2] (fn:=Tryz.f243) Tryz.func243 ?_
  intro Q hQ
  refine wk F ?_
  refine ee hQ F ?_
  exact Fin.same (.bool _) ⟨by
   unfold letR letF
   congr 1
   symm
   first
    |rw[if_pos (by omega)]
    |rw[if_neg (by omega)]
   rw[Bool.eq_iff_iff]
   simp only[Bool.and_eq_true,Bool.or_eq_true,Bool.not_eq_true',Bool.or_eq_false_iff,Bool.and_eq_false_iff,decide_eq_true_eq,decide_eq_false_iff_not,Bool.false_eq_true,iff_true,iff_false]
   omega,rfl⟩
 by_cases k4:c≤191
 ·have a0:decide (c≥97)=true:=by simp;omega
  have a1:decide (c≥48)=true:=by simp;omega
  have a2:decide (c≥8192)=false:=by simp;omega
  have a3:decide (c≥12288)=false:=by simp;omega
  have a4:decide (c≤122)=false:=by simp;omega
  have a5:decide (c≤57)=false:=by simp;omega
  have a6:decide (c≤8303)=true:=by simp;omega
  have a7:decide (c≤12351)=true:=by simp;omega
  have a8:decide (c<192)=true:=by simp;omega
  have a9:(c==215)=false:=by simp;omega
  have a10:(c==247)=false:=by simp;omega
  have a11:(c==65533)=false:=by simp;omega
  have F:=F2 (F9 a0 a1 a2 a3 a4 a5 a6 a7 a8) (F3 a9 a10 a11)
  refine sb [.tmp 2] (fn:=Tryz.f243) Tryz.func243 ?_
  intro Q hQ
  refine wk F ?_
  refine ee hQ F ?_
  exact Fin.same (.bool _) ⟨by
   unfold letR letF
   congr 1
   symm
   first
    |rw[if_pos (by omega)]
    |rw[if_neg (by omega)]
   rw[Bool.eq_iff_iff]
   simp only[Bool.and_eq_true,Bool.or_eq_true,Bool.not_eq_true',Bool.or_eq_false_iff,Bool.and_eq_false_iff,decide_eq_true_eq,decide_eq_false_iff_not,Bool.false_eq_true,iff_true,iff_false]
   omega,rfl⟩
 by_cases k5:c≤214
 ·have a0:decide (c≥97)=true:=by simp;omega
  have a1:decide (c≥48)=true:=by simp;omega
  have a2:decide (c≥8192)=false:=by simp;omega
  have a3:decide (c≥12288)=false:=by simp;omega
  have a4:decide (c≤122)=false:=by simp;omega
  have a5:decide (c≤57)=false:=by simp;omega
  have a6:decide (c≤8303)=true:=by simp;omega
  have a7:decide (c≤12351)=true:=by simp;omega
  have a8:decide (c<192)=false:=by simp;omega
  have a9:(c==215)=false:=by simp;omega
  have a10:(c==247)=false:=by simp;omega
  have a11:(c==65533)=false:=by simp;omega
  have F:=F2 (F9 a0 a1 a2 a3 a4 a5 a6 a7 a8) (F3 a9 a10 a11)
  refine sb [.tmp 2] (fn:=Tryz.f243) Tryz.func243 ?_
  intro Q hQ
  refine wk F ?_
  refine ee hQ F ?_
  exact Fin.same (.bool _) ⟨by
   unfold letR letF
   congr 1
   symm
   first
    |rw[if_pos (by omega)]
    |rw[if_neg (by omega)]
   rw[Bool.eq_iff_iff]
   simp only[Bool.and_eq_true,Bool.or_eq_true,Bool.not_eq_true',Bool.or_eq_false_iff,Bool.and_eq_false_iff,decide_eq_true_eq,decide_eq_false_iff_not,Bool.false_eq_true,iff_true,iff_false]
   omega,rfl⟩
 by_cases k6:c≤215
 ·have a0:decide (c≥97)=true:=by simp;omega
  have a1:decide (c≥48)=true:=by simp;omega
  have a2:decide (c≥8192)=false:=by simp;omega
  have a3:decide (c≥12288)=false:=by simp;omega
  have a4:decide (c≤122)=false:=by simp;omega
  have a5:decide (c≤57)=false:=by simp;omega
  have a6:decide (c≤8303)=true:=by simp;omega
  have a7:decide (c≤12351)=true:=by simp;omega
  have a8:decide (c<192)=false:=by simp;omega
  have a9:(c==215)=true:=by simp;omega
  have a10:(c==247)=false:=by simp;omega
  have a11:(c==65533)=false:=by simp;omega
  have F:=F2 (F9 a0 a1 a2 a3 a4 a5 a6 a7 a8) (F3 a9 a10 a11)
  refine sb [.tmp 2] (fn:=Tryz.f243) Tryz.func243 ?_
  intro Q hQ
  refine wk F ?_
  refine ee hQ F ?_
  exact Fin.same (.bool _) ⟨by
   unfold letR letF
   congr 1
   symm
   first
    |rw[if_pos (by omega)]
    |rw[if_neg (by omega)]
   rw[Bool.eq_iff_iff]
   simp only[Bool.and_eq_true,Bool.or_eq_true,Bool.not_eq_true',Bool.or_eq_false_iff,Bool.and_eq_false_iff,decide_eq_true_eq,decide_eq_false_iff_not,Bool.false_eq_true,iff_true,iff_false]
   omega,rfl⟩
 by_cases k7:c≤246
 ·have a0:decide (c≥97)=true:=by simp;omega
  have a1:decide (c≥48)=true:=by simp;omega
  have a2:decide (c≥8192)=false:=by simp;omega
  have a3:decide (c≥12288)=false:=by simp;omega
  have a4:decide (c≤122)=false:=by simp;omega
  have a5:decide (c≤57)=false:=by simp;omega
  have a6:decide (c≤8303)=true:=by simp;omega
  have a7:decide (c≤12351)=true:=by simp;omega
  have a8:decide (c<192)=false:=by simp;omega
  have a9:(c==215)=false:=by simp;omega
  have a10:(c==247)=false:=by simp;omega
  have a11:(c==65533)=false:=by simp;omega
  have F:=F2 (F9 a0 a1 a2 a3 a4 a5 a6 a7 a8) (F3 a9 a10 a11)
  refine sb [.tmp 2] (fn:=Tryz.f243) Tryz.func243 ?_
  intro Q hQ
  refine wk F ?_
  refine ee hQ F ?_
  exact Fin.same (.bool _) ⟨by
   unfold letR letF
   congr 1
   symm
   first
    |rw[if_pos (by omega)]
    |rw[if_neg (by omega)]
   rw[Bool.eq_iff_iff]
   simp only[Bool.and_eq_true,Bool.or_eq_true,Bool.not_eq_true',Bool.or_eq_false_iff,Bool.and_eq_false_iff,decide_eq_true_eq,decide_eq_false_iff_not,Bool.false_eq_true,iff_true,iff_false]
   omega,rfl⟩
 by_cases k8:c≤247
 ·have a0:decide (c≥97)=true:=by simp;omega
  have a1:decide (c≥48)=true:=by simp;omega
  have a2:decide (c≥8192)=false:=by simp;omega
  have a3:decide (c≥12288)=false:=by simp;omega
  have a4:decide (c≤122)=false:=by simp;omega
  have a5:decide (c≤57)=false:=by simp;omega
  have a6:decide (c≤8303)=true:=by simp;omega
  have a7:decide (c≤12351)=true:=by simp;omega
  have a8:decide (c<192)=false:=by simp;omega
  have a9:(c==215)=false:=by simp;omega
  have a10:(c==247)=true:=by simp;omega
  have a11:(c==65533)=false:=by simp;omega
  have F:=F2 (F9 a0 a1 a2 a3 a4 a5 a6 a7 a8) (F3 a9 a10 a11)
  refine sb [.tmp 2] (fn:=Tryz.f243) Tryz.func243 ?_
  intro Q hQ
  refine wk F ?_
  refine ee hQ F ?_
  exact Fin.same (.bool _) ⟨by
   unfold letR letF
   congr 1
   symm
   first
    |rw[if_pos (by omega)]
    |rw[if_neg (by omega)]
   rw[Bool.eq_iff_iff]
   simp only[Bool.and_eq_true,Bool.or_eq_true,Bool.not_eq_true',Bool.or_eq_false_iff,Bool.and_eq_false_iff,decide_eq_true_eq,decide_eq_false_iff_not,Bool.false_eq_true,iff_true,iff_false]
   omega,rfl⟩
 by_cases k9:c≤8191
 ·have a0:decide (c≥97)=true:=by simp;omega
  have a1:decide (c≥48)=true:=by simp;omega
  have a2:decide (c≥8192)=false:=by simp;omega
  have a3:decide (c≥12288)=false:=by simp;omega
  have a4:decide (c≤122)=false:=by simp;omega
  have a5:decide (c≤57)=false:=by simp;omega
  have a6:decide (c≤8303)=true:=by simp;omega
  have a7:decide (c≤12351)=true:=by simp;omega
  have a8:decide (c<192)=false:=by simp;omega
  have a9:(c==215)=false:=by simp;omega
  have a10:(c==247)=false:=by simp;omega
  have a11:(c==65533)=false:=by simp;omega
  have F:=F2 (F9 a0 a1 a2 a3 a4 a5 a6 a7 a8) (F3 a9 a10 a11)
  refine sb [.tmp 2] (fn:=Tryz.f243) Tryz.func243 ?_
  intro Q hQ
  refine wk F ?_
  refine ee hQ F ?_
  exact Fin.same (.bool _) ⟨by
   unfold letR letF
   congr 1
   symm
   first
    |rw[if_pos (by omega)]
    |rw[if_neg (by omega)]
   rw[Bool.eq_iff_iff]
   simp only[Bool.and_eq_true,Bool.or_eq_true,Bool.not_eq_true',Bool.or_eq_false_iff,Bool.and_eq_false_iff,decide_eq_true_eq,decide_eq_false_iff_not,Bool.false_eq_true,iff_true,iff_false]
   omega,rfl⟩
 by_cases k10:c≤8303
 ·have a0:decide (c≥97)=true:=by simp;omega
  have a1:decide (c≥48)=true:=by simp;omega
  have a2:decide (c≥8192)=true:=by simp;omega
  have a3:decide (c≥12288)=false:=by simp;omega
  have a4:decide (c≤122)=false:=by simp;omega
  have a5:decide (c≤57)=false:=by simp;omega
  have a6:decide (c≤8303)=true:=by simp;omega
  have a7:decide (c≤12351)=true:=by simp;omega
  have a8:decide (c<192)=false:=by simp;omega
  have a9:(c==215)=false:=by simp;omega
  have a10:(c==247)=false:=by simp;omega
  have a11:(c==65533)=false:=by simp;omega
  have F:=F2 (F9 a0 a1 a2 a3 a4 a5 a6 a7 a8) (F3 a9 a10 a11)
  refine sb [.tmp 2] (fn:=Tryz.f243) Tryz.func243 ?_
  intro Q hQ
  refine wk F ?_
  refine ee hQ F ?_
  exact Fin.same (.bool _) ⟨by
   unfold letR letF
   congr 1
   symm
   first
    |rw[if_pos (by omega)]
    |rw[if_neg (by omega)]
   rw[Bool.eq_iff_iff]
   simp only[Bool.and_eq_true,Bool.or_eq_true,Bool.not_eq_true',Bool.or_eq_false_iff,Bool.and_eq_false_iff,decide_eq_true_eq,decide_eq_false_iff_not,Bool.false_eq_true,iff_true,iff_false]
   omega,rfl⟩
 by_cases k11:c≤12287
 ·have a0:decide (c≥97)=true:=by simp;omega
  have a1:decide (c≥48)=true:=by simp;omega
  have a2:decide (c≥8192)=true:=by simp;omega
  have a3:decide (c≥12288)=false:=by simp;omega
  have a4:decide (c≤122)=false:=by simp;omega
  have a5:decide (c≤57)=false:=by simp;omega
  have a6:decide (c≤8303)=false:=by simp;omega
  have a7:decide (c≤12351)=true:=by simp;omega
  have a8:decide (c<192)=false:=by simp;omega
  have a9:(c==215)=false:=by simp;omega
  have a10:(c==247)=false:=by simp;omega
  have a11:(c==65533)=false:=by simp;omega
  have F:=F2 (F9 a0 a1 a2 a3 a4 a5 a6 a7 a8) (F3 a9 a10 a11)
  refine sb [.tmp 2] (fn:=Tryz.f243) Tryz.func243 ?_
  intro Q hQ
  refine wk F ?_
  refine ee hQ F ?_
  exact Fin.same (.bool _) ⟨by
   unfold letR letF
   congr 1
   symm
   first
    |rw[if_pos (by omega)]
    |rw[if_neg (by omega)]
   rw[Bool.eq_iff_iff]
   simp only[Bool.and_eq_true,Bool.or_eq_true,Bool.not_eq_true',Bool.or_eq_false_iff,Bool.and_eq_false_iff,decide_eq_true_eq,decide_eq_false_iff_not,Bool.false_eq_true,iff_true,iff_false]
   omega,rfl⟩
 by_cases k12:c≤12351
 ·have a0:decide (c≥97)=true:=by simp;omega
  have a1:decide (c≥48)=true:=by simp;omega
  have a2:decide (c≥8192)=true:=by simp;omega
  have a3:decide (c≥12288)=true:=by simp;omega
  have a4:decide (c≤122)=false:=by simp;omega
  have a5:decide (c≤57)=false:=by simp;omega
  have a6:decide (c≤8303)=false:=by simp;omega
  have a7:decide (c≤12351)=true:=by simp;omega
  have a8:decide (c<192)=false:=by simp;omega
  have a9:(c==215)=false:=by simp;omega
  have a10:(c==247)=false:=by simp;omega
  have a11:(c==65533)=false:=by simp;omega
  have F:=F2 (F9 a0 a1 a2 a3 a4 a5 a6 a7 a8) (F3 a9 a10 a11)
  refine sb [.tmp 2] (fn:=Tryz.f243) Tryz.func243 ?_
  intro Q hQ
  refine wk F ?_
  refine ee hQ F ?_
  exact Fin.same (.bool _) ⟨by
   unfold letR letF
   congr 1
   symm
   first
    |rw[if_pos (by omega)]
    |rw[if_neg (by omega)]
   rw[Bool.eq_iff_iff]
   simp only[Bool.and_eq_true,Bool.or_eq_true,Bool.not_eq_true',Bool.or_eq_false_iff,Bool.and_eq_false_iff,decide_eq_true_eq,decide_eq_false_iff_not,Bool.false_eq_true,iff_true,iff_false]
   omega,rfl⟩
 by_cases k13:c≤65532
 ·have a0:decide (c≥97)=true:=by simp;omega
  have a1:decide (c≥48)=true:=by simp;omega
  have a2:decide (c≥8192)=true:=by simp;omega
  have a3:decide (c≥12288)=true:=by simp;omega
  have a4:decide (c≤122)=false:=by simp;omega
  have a5:decide (c≤57)=false:=by simp;omega
  have a6:decide (c≤8303)=false:=by simp;omega
  have a7:decide (c≤12351)=false:=by simp;omega
  have a8:decide (c<192)=false:=by simp;omega
  have a9:(c==215)=false:=by simp;omega
  have a10:(c==247)=false:=by simp;omega
  have a11:(c==65533)=false:=by simp;omega
  have F:=F2 (F9 a0 a1 a2 a3 a4 a5 a6 a7 a8) (F3 a9 a10 a11)
  refine sb [.tmp 2] (fn:=Tryz.f243) Tryz.func243 ?_
  intro Q hQ
  refine wk F ?_
  refine ee hQ F ?_
  exact Fin.same (.bool _) ⟨by
   unfold letR letF
   congr 1
   symm
   first
    |rw[if_pos (by omega)]
    |rw[if_neg (by omega)]
   rw[Bool.eq_iff_iff]
   simp only[Bool.and_eq_true,Bool.or_eq_true,Bool.not_eq_true',Bool.or_eq_false_iff,Bool.and_eq_false_iff,decide_eq_true_eq,decide_eq_false_iff_not,Bool.false_eq_true,iff_true,iff_false]
   omega,rfl⟩
 by_cases k14:c≤65533
 ·have a0:decide (c≥97)=true:=by simp;omega
  have a1:decide (c≥48)=true:=by simp;omega
  have a2:decide (c≥8192)=true:=by simp;omega
  have a3:decide (c≥12288)=true:=by simp;omega
  have a4:decide (c≤122)=false:=by simp;omega
  have a5:decide (c≤57)=false:=by simp;omega
  have a6:decide (c≤8303)=false:=by simp;omega
  have a7:decide (c≤12351)=false:=by simp;omega
  have a8:decide (c<192)=false:=by simp;omega
  have a9:(c==215)=false:=by simp;omega
  have a10:(c==247)=false:=by simp;omega
  have a11:(c==65533)=true:=by simp;omega
  have F:=F2 (F9 a0 a1 a2 a3 a4 a5 a6 a7 a8) (F3 a9 a10 a11)
  refine sb [.tmp 2] (fn:=Tryz.f243) Tryz.func243 ?_
  intro Q hQ
  refine wk F ?_
  refine ee hQ F ?_
  exact Fin.same (.bool _) ⟨by
   unfold letR letF
   congr 1
   symm
   first
    |rw[if_pos (by omega)]
    |rw[if_neg (by omega)]
   rw[Bool.eq_iff_iff]
   simp only[Bool.and_eq_true,Bool.or_eq_true,Bool.not_eq_true',Bool.or_eq_false_iff,Bool.and_eq_false_iff,decide_eq_true_eq,decide_eq_false_iff_not,Bool.false_eq_true,iff_true,iff_false]
   omega,rfl⟩
 have a0:decide (c≥97)=true:=by simp;omega
 have a1:decide (c≥48)=true:=by simp;omega
 have a2:decide (c≥8192)=true:=by simp;omega
 have a3:decide (c≥12288)=true:=by simp;omega
 have a4:decide (c≤122)=false:=by simp;omega
 have a5:decide (c≤57)=false:=by simp;omega
 have a6:decide (c≤8303)=false:=by simp;omega
 have a7:decide (c≤12351)=false:=by simp;omega
 have a8:decide (c<192)=false:=by simp;omega
 have a9:(c==215)=false:=by simp;omega
 have a10:(c==247)=false:=by simp;omega
 have a11:(c==65533)=false:=by simp;omega
 have F:=F2 (F9 a0 a1 a2 a3 a4 a5 a6 a7 a8) (F3 a9 a10 a11)
 refine sb [.tmp 2] (fn:=Tryz.f243) Tryz.func243 ?_
 intro Q hQ
 refine wk F ?_
 refine ee hQ F ?_
 exact Fin.same (.bool _) ⟨by
   unfold letR letF
   congr 1
   symm
   first
    |rw[if_pos (by omega)]
    |rw[if_neg (by omega)]
   rw[Bool.eq_iff_iff]
   simp only[Bool.and_eq_true,Bool.or_eq_true,Bool.not_eq_true',Bool.or_eq_false_iff,Bool.and_eq_false_iff,decide_eq_true_eq,decide_eq_false_iff_not,Bool.false_eq_true,iff_true,iff_false]
   omega,rfl⟩
end Go.Av
namespace Go.Av
open Go Go.Proofs Go.RowKit
theorem fA(r:Int)(x:Bs):dec (enc r++x) 0=(fix r,(enc r).length):=by
 have hl:=vV r
 have hs:=uy r
 rw[eZ,nY]
 generalize fix r=c at*
 simp only[]
 by_cases h1:c<128
 ·rw[if_pos h1]
  simp only[List.cons_append,List.nil_append,List.getD_cons_zero,List.length_cons,List.length_nil]
  rw[ba _ (by omega)]
  simp[Lib.decodeN,h1]
 ·rw[if_neg h1]
  by_cases h2:c<2048
  ·rw[if_pos h2]
   simp only[List.cons_append,List.nil_append,List.getD_cons_zero,List.getD_cons_succ,List.length_cons,List.length_nil,Nat.zero_add]
   rw[ba _ (by omega),ba _ (by omega)]
   unfold Lib.decodeN
   rw[if_neg (by omega),if_pos (by omega),if_pos (by omega)]
   congr 1;omega
  ·rw[if_neg h2]
   by_cases h3:c<65536
   ·rw[if_pos h3]
    simp only[List.cons_append,List.nil_append,List.getD_cons_zero,List.getD_cons_succ,List.length_cons,List.length_nil,Nat.zero_add]
    rw[ba _ (by omega),ba _ (by omega),ba _ (by omega)]
    unfold Lib.decodeN
    rw[if_neg (by omega),if_neg (by omega),if_pos (by omega),if_pos (by omega)]
    congr 1;omega
   ·rw[if_neg h3]
    simp only[List.cons_append,List.nil_append,List.getD_cons_zero,List.getD_cons_succ,List.length_cons,List.length_nil,Nat.zero_add]
    rw[ba _ (by omega),ba _ (by omega),ba _ (by omega),ba _ (by omega)]
    unfold Lib.decodeN
    rw[if_neg (by omega),if_neg (by omega),if_neg (by omega),if_pos (by omega),if_pos (by omega)]
    congr 1;omega
theorem mC{r:Int}(h:Rune r):fix r=r.toNat:=by
 unfold fix Utf8.valid
 unfold Rune at h
 rw[if_pos (by simp;omega)]
theorem bE(c:Int)(l:List Int):encs (c::l)=enc c++encs l:=by simp[encs]
theorem cy(a b:List Int):encs (a++b)=encs a++encs b:=by simp[encs]
theorem eS(c:Int):encs [c]=enc c:=by simp[encs]
theorem wo{a b:List Int}{c:Int}(hc:Rune c):dec (encs a++encs (c::b)) (encs a).length=(c.toNat,(enc c).length):=by
 rw[ct,List.drop_left' rfl,bE,fA,mC hc]
theorem iH:∀{l:List Int},(∀c∈l,Rune c)→runesF (encs l)=l
 | [],_=>rfl
 |c::l,h=>by
  have hc:=h c (by simp)
  have hp:=ie c
  rw[dG _ (by rw[bE];intro e;have h2:=congrArg List.length e;rw[List.length_append]at h2;simp only[List.length_nil]at h2;omega),bE,fA,mC hc,List.drop_left' rfl,iH fun x hx=>h x (by simp[hx])]
  unfold Rune at hc
  congr 1
  simp only[]
  omega
def segR:List Int→List Int→List (List Int)→List (List Int)
 | [],w,acc=>if w=[]then acc else acc++[w]
 |c::b,w,acc=>if letR c then segR b (w++[c]) acc else segR b [] (if w=[]then acc else acc++[w])
theorem tM(t:Bs)(x y:Nat):((⟨t.toArray⟩:ByteArray).extract x y).data.toList=(t.take y).drop x:=by
 have hext:(⟨t.toArray⟩:ByteArray).extract x y=⟨((t.take y).drop x).toArray⟩:=by
  apply ByteArray.ext
  simp[List.extract_eq_take_drop,List.drop_take]
 rw[hext]
def AtS(t:Bs)(w:List Int)(x:Nat×Nat):Prop:=(t.take x.2).drop x.1=encs w
def AtSL(t:Bs):List (List Int)→List (Nat×Nat)→Prop
 | [],[]=>True
 |w::l,x::m=>AtS t w x∧AtSL t l m
 |_,_=>False
theorem AtSL.snoc{t:Bs}:∀{l:List (List Int)} {m:List (Nat×Nat)} {w:List Int} {x:Nat×Nat},AtSL t l m→AtS t w x→AtSL t (l++[w]) (m++[x])
 | [],[],_,_,_,h=>⟨h,trivial⟩
 |_::_,_::_,_,_,h,h2=>⟨h.1,AtSL.snoc h.2 h2⟩
 | [],_::_,_,_,h,_=>h.elim
 |_::_,[],_,_,h,_=>h.elim
theorem AtSL.map{t:Bs}:∀{l:List (List Int)} {m:List (Nat×Nat)},AtSL t l m→m.map (fun x=>((⟨t.toArray⟩:ByteArray).extract x.1 x.2).data.toList)=l.map encs
 | [],[],_=>rfl
 |w::l,x::m,h=>by rw[List.map_cons,List.map_cons,AtSL.map h.2,tM,h.1]
 | [],_::_,h=>h.elim
 |_::_,[],h=>h.elim
theorem rD(t:Bs):∀(b a w:List Int) (acc:List (List Int)) (m:List (Nat×Nat)) (f:Nat),(∀c∈b,Rune c)→t=encs (a++w)++encs b→b.length≤f→AtSL t acc m→
  AtSL t (segR b w acc) (Lib.closeSpans ⟨t.toArray⟩ (Lib.spansFromP (fun r=> !letF r) ⟨t.toArray⟩ f (encs (a++w)).length (if w=[]then none else some (encs a).length) m)):=by
 intro b
 induction b with
 |nil=>
  intro a w acc m f _ ht _ hm
  have hsz:(⟨t.toArray⟩:ByteArray).size=(encs (a++w)).length:=by rw[ht];simp[ByteArray.size,encs]
  have hst:Lib.spansFromP (fun r=> !letF r) ⟨t.toArray⟩ f (encs (a++w)).length (if w=[]then none else some (encs a).length) m=(m,if w=[]then none else some (encs a).length):=by
   cases f with
   |zero=>rfl
   |succ f=>unfold Lib.spansFromP;rw[if_neg (by rw[hsz];omega)]
  rw[hst,segR]
  by_cases hw:w=[]
  ·rw[if_pos hw,if_pos hw];exact hm
  ·rw[if_neg hw,if_neg hw]
   unfold Lib.closeSpans
   refine hm.snoc ?_
   unfold AtS
   simp only[hsz]
   rw[ht,List.take_left' rfl,cy,List.drop_left' rfl]
 |cons c b ih=>
  intro a w acc m f hb ht hf hm
  have hc:=hb c (by simp)
  have hp:=ie c
  have hb':∀x∈b,Rune x:=fun x hx=>hb x (by simp[hx])
  obtain⟨f,rfl⟩:∃g,f=g+1:=⟨f-1,by simp at hf;omega⟩
  have hlt:(encs (a++w)).length<(⟨t.toArray⟩:ByteArray).size:=by rw[ht,bE];simp[ByteArray.size];omega
  have hd:Utf8.decode ⟨t.toArray⟩ (encs (a++w)).length=(c.toNat,(enc c).length):=by
   show dec t _=_
   rw[ht];exact wo hc
  unfold Lib.spansFromP
  rw[if_pos hlt,hd,segR]
  have hfl:b.length≤f:=by simp at hf;omega
  cases hl:letR c with
  |true=>
   have hl2:letF c.toNat=true:=hl
   have h1:=ih a (w++[c]) acc m f hb' (by rw[ht,bE, ← List.append_assoc, ← List.append_assoc,cy (a++w),eS]) hfl hm
   have hne:¬w++[c]=[]:=by simp
   have hlen:(encs (a++(w++[c]))).length=(encs (a++w)).length+(enc c).length:=by rw[← List.append_assoc,cy,List.length_append,eS]
   rw[if_neg hne,hlen]at h1
   simp only[hl2,Bool.not_true,Bool.false_eq_true,if_false,if_true]
   by_cases hw:w=[]
   ·subst hw;rw[if_pos rfl];simpa using h1
   ·rw[if_neg hw];exact h1
  |false=>
   have hl2:letF c.toNat=false:=hl
   have hlen:(encs ((a++w++[c])++[])).length=(encs (a++w)).length+(enc c).length:=by rw[List.append_nil,cy,List.length_append,eS]
   simp only[hl2,Bool.not_false,if_true,Bool.false_eq_true,if_false]
   by_cases hw:w=[]
   ·have h1:=ih (a++w++[c]) [] acc m f hb' (by rw[List.append_nil,ht,bE,cy (a++w),eS,List.append_assoc]) hfl hm
    rw[hlen,if_pos rfl]at h1
    rw[if_pos hw,if_pos hw];exact h1
   ·have hat:AtS t w ((encs a).length,(encs (a++w)).length):=by
     unfold AtS
     simp only[]
     rw[ht,List.take_left' rfl,cy,List.drop_left' rfl]
    have h1:=ih (a++w++[c]) [] (acc++[w]) (m++[((encs a).length,(encs (a++w)).length)]) f hb' (by rw[List.append_nil,ht,bE,cy (a++w),eS,List.append_assoc]) hfl (hm.snoc hat)
    rw[hlen,if_pos rfl]at h1
    rw[if_neg hw,if_neg hw];exact h1
theorem pO{l:List Int}(h:∀c∈l,Rune c):fldsF (encs l)=(segR l [] []).map encs:=by
 have h1:=rD (encs l) l [] [] [] [] (⟨(encs l).toArray⟩:ByteArray).size h (by simp[encs]) (by have:=(iT l).2;simp[ByteArray.size];omega) trivial
 unfold fldsF Lib.goFieldsP Lib.spansOfP
 rw[List.map_map]
 exact h1.map
theorem mD:∀(l:List Int) (f n:Nat),(∀c∈l,Rune c)→(encs l).length≤f→n≤32→shN f (encs l) n=(encs (l.take (32-n))).length
 | [],f,n,_,_,_=>by cases f<;>simp[shN,encs]
 |c::l,f,n,h,hf,hn=>by
  have hc:=h c (by simp)
  have hp:=ie c
  have hl:(encs (c::l)).length=(enc c).length+(encs l).length:=by rw[bE,List.length_append]
  obtain⟨f,rfl⟩:∃g,f=g+1:=⟨f-1,by omega⟩
  rw[shN,if_neg (by intro e;rw[e]at hl;simp at hl;omega)]
  by_cases h32:n=32
  ·subst h32;simp[encs]
  ·rw[if_neg h32,bE,fA,List.drop_left' rfl]
   simp only[]
   rw[mD l f (n+1) (fun x hx=>h x (by simp[hx])) (by omega) (by omega)]
   obtain⟨k,hk⟩:∃k,32-n=k+1:=⟨31-n,by omega⟩
   rw[hk,show 32-(n+1)=k by omega,List.take_succ_cons,bE,List.length_append]
theorem tN{l:List Int}(h:∀c∈l,Rune c):shW (encs l)=encs (l.take 32):=by
 unfold shW
 rw[mD l _ 0 h (Nat.le_refl _) (by omega)]
 have h1:encs l=encs (l.take 32)++encs (l.drop 32):=by rw[← cy,List.take_append_drop]
 rw[show 32-0=32 from rfl]
 conv=>lhs;rw[h1]
 rw[List.take_left' rfl]
def wdsR:List Int→List Int→List Bs→List Bs
 | [],w,out=>if w=[]then out else out++[encs w]
 |c::b,w,out=>if letR c then wdsR b (if w.length<32 then w++[c]else w) out else wdsR b [] (if w=[]then out else out++[encs w])
theorem i5:∀(b w:List Int) (acc:List (List Int)),(∀c∈b,Rune c)→(∀c∈w,Rune c)→(∀v∈acc,∀c∈v,Rune c)→∀v∈segR b w acc,∀c∈v,Rune c
 | [],w,acc,_,hw,ha=>by
  rw[segR];split
  ·exact ha
  ·intro v hv
   rcases List.mem_append.1 hv with hv|hv
   ·exact ha v hv
   ·simp at hv;subst hv;exact hw
 |c::b,w,acc,hb,hw,ha=>by
  have hb':∀x∈b,Rune x:=fun x hx=>hb x (by simp[hx])
  rw[segR];split
  ·exact i5 b _ acc hb' (fun x hx=>by
    rcases List.mem_append.1 hx with hx|hx
    ·exact hw x hx
    ·simp at hx;subst hx;exact hb _ (by simp)) ha
  ·refine i5 b [] _ hb' (fun x hx=>by cases hx) ?_
   split
   ·exact ha
   ·intro v hv
    rcases List.mem_append.1 hv with hv|hv
    ·exact ha v hv
    ·simp at hv;subst hv;exact hw
theorem iq:∀(b w:List Int) (acc:List (List Int)),wdsR b (w.take 32) (acc.map fun v=>encs (v.take 32))=(segR b w acc).map fun v=>encs (v.take 32)
 | [],w,acc=>by
  rw[wdsR,segR]
  by_cases hw:w=[]
  ·rw[if_pos hw,if_pos (by rw[hw];rfl)]
  ·rw[if_neg hw,if_neg (by intro e;rw[List.take_eq_nil_iff]at e;rcases e with e|e;omega;exact hw e)];simp
 |c::b,w,acc=>by
  rw[wdsR,segR]
  split
  ·rw[← iq b (w++[c]) acc]
   congr 1
   split
   ·rename_i h;rw[List.length_take]at h;rw[List.take_of_length_le (by omega),List.take_of_length_le (by simp;omega)]
   ·rename_i h;rw[List.length_take]at h;rw[List.take_append_of_le_length (by omega)]
  ·by_cases hw:w=[]
   ·rw[if_pos hw,if_pos (by rw[hw];rfl), ← iq b [] acc];rfl
   ·rw[if_neg hw,if_neg (by intro e;rw[List.take_eq_nil_iff]at e;rcases e with e|e;omega;exact hw e), ← iq b [] (acc++[w])]
    simp
theorem jD(s:Bs):wordsF s=wdsR (runesF (foldS s)) [] []:=by
 have hr:∀c∈ (runesF s).map foldR,Rune c:=fun c hc=>by
  obtain⟨x,hx,rfl⟩:=List.mem_map.1 hc
  exact gm (dH s.length s (Nat.le_refl _) x hx)
 unfold wordsF foldS
 rw[pO hr,iH hr,List.map_map]
 have h1:=iq ((runesF s).map foldR) [] []
 simp only[List.take_nil,List.map_nil]at h1
 rw[h1]
 refine List.map_congr_left fun v hv=>?_
 exact tN (i5 _ [] [] hr (fun _ h=>by cases h) (fun _ h=>by cases h) v hv)
end Go.Av
namespace Go.Av
open Go.RowKit
inductive Tr where
 |lf
 |nd (l:Tr) (v:AVal) (r:Tr)
namespace Tr
def get:Tr→Nat→AVal
 | .lf,_=>undefA
 | .nd _ v _,0=>v
 | .nd l _ r,i+1=>match i%2 with
  |0=>l.get (i/2)
  |_=>r.get (i/2)
def set:Tr→Nat→AVal→Tr
 | .lf,_,_=>.lf
 | .nd l _ r,0,x=>.nd l x r
 | .nd l v r,i+1,x=>match i%2 with
  |0=>.nd (l.set (i/2) x) v r
  |_=>.nd l v (r.set (i/2) x)
def mk:Nat→Tr
 |0=>.lf
 |d+1=>.nd (mk d) undefA (mk d)
def Full:Nat→Tr→Prop
 |0,_=>True
 |k+1,.nd l _ r=>Full k l∧Full k r
 |_+1,.lf=>False
theorem full_mk:∀k,Full k (mk k)
 |0=>trivial
 |k+1=>⟨full_mk k,full_mk k⟩
theorem full_set:∀(k:Nat) (t:Tr) (i:Nat) (x:AVal),Full k t→Full k (t.set i x)
 |0,_,_,_,_=>trivial
 |k+1,.nd l v r,0,x,h=>h
 |k+1,.nd l v r,i+1,x,h=>by
  simp only[set]
  split
  ·exact⟨full_set k l _ x h.1,h.2⟩
  ·exact⟨h.1,full_set k r _ x h.2⟩
theorem get_mk:∀(k i:Nat),(mk k).get i=undefA
 |0,i=>rfl
 |k+1,0=>rfl
 |k+1,i+1=>by
  simp only[mk,get]
  split<;>exact get_mk k _
theorem get_set:∀(k:Nat) (t:Tr) (i j:Nat) (x:AVal),Full k t→i+1<2^k→(t.set i x).get j=if j=i then x else t.get j
 |0,t,i,j,x,_,h=>by simp at h
 |k+1,.nd l v r,0,0,x,_,_=>rfl
 |k+1,.nd l v r,0,j+1,x,_,_=>rfl
 |k+1,.nd l v r,i+1,0,x,_,_=>by simp only[set];split<;>rfl
 |k+1,.nd l v r,i+1,j+1,x,hf,h=>by
  have hp:2^(k+1)=2*2^k:=by rw[Nat.pow_succ,Nat.mul_comm]
  rw[hp]at h
  have hk:i/2+1<2^k:=by omega
  simp only[set]
  split
  ·rename_i hi
   simp only[get]
   split
   ·rename_i hj
    rw[get_set k l (i/2) (j/2) x hf.1 hk]
    by_cases e:j=i
    ·subst e;simp
    ·rw[if_neg (by omega),if_neg (by omega)]
   ·rename_i hj
    rw[if_neg (by intro e;have:j=i:=(by omega);subst this;exact hj hi)]
  ·rename_i hi
   simp only[get]
   split
   ·rename_i hj
    rw[if_neg (by intro e;have:j=i:=(by omega);subst this;exact hi hj)]
   ·rename_i hj
    have hi':i%2=1:=(Nat.mod_two_eq_zero_or_one i).resolve_left hi
    have hj':j%2=1:=(Nat.mod_two_eq_zero_or_one j).resolve_left hj
    rw[get_set k r (i/2) (j/2) x hf.2 hk]
    by_cases e:j=i
    ·subst e;simp
    ·rw[if_neg (by omega),if_neg (by omega)]
def beq:Tr→Tr→Bool
 | .lf,.lf=>true
 | .nd l v r,.nd l' v' r'=>beqA v v'&&(l.beq l'&&r.beq r')
 |_,_=>false
theorem beq_ok:∀(a b:Tr),beq a b=true→a=b
 | .lf,.lf,_=>rfl
 | .lf,.nd _ _ _,h=>by simp[beq]at h
 | .nd _ _ _,.lf,h=>by simp[beq]at h
 | .nd l v r,.nd l' v' r',h=>by
  simp only[beq,Bool.and_eq_true]at h
  rw[eD _ _ h.1,beq_ok l l' h.2.1,beq_ok r r' h.2.2]
end Tr
def envL(ts:Tr):Env:=ts.get
def putL(ts:Tr)(d:Option Nat)(v:AVal):Tr:=match d with|some d=>ts.set d v|none=>ts
def okDst(n:Nat)(o:Oper):Bool:=match o.dst with|some d=>decide (d<n)|none=>true
def kOf(n:Nat):Nat:=Nat.log2 (n+1)+1
def argsT:Tr→Nat→List AVal→Tr
 |t,_,[]=>t
 |t,i,x::l=>argsT (t.set i x) (i+1) l
theorem dT{k0:Nat}(ts:Tr)(d:Option Nat)(v:AVal)(h:Tr.Full k0 ts):Tr.Full k0 (putL ts d v):=by
 cases d
 ·exact h
 ·exact Tr.full_set _ _ _ _ h
theorem dz{k0 n:Nat}{ts:Tr}{d:Option Nat}{v:AVal}(hf:Tr.Full k0 ts)(hn:n+1<2^k0)(hd:∀i,d=some i→i<n):envL (putL ts d v)=put (envL ts) d v:=by
 cases d with
 |none=>rfl
 |some d=>
  have hlt:=hd d rfl
  funext i
  simp only[putL,put,envL,upd]
  exact Tr.get_set k0 ts d i v hf (by omega)
theorem jF{k0:Nat}:∀(l:List AVal) (t:Tr) (i:Nat),Tr.Full k0 t→Tr.Full k0 (argsT t i l)
 | [],_,_,h=>h
 |x::l,t,i,h=>jF l _ _ (Tr.full_set _ _ _ _ h)
theorem l5{k0:Nat}:∀(l:List AVal) (t:Tr) (i j:Nat),Tr.Full k0 t→i+l.length+1<2^k0→(argsT t i l).get j=if i≤j∧j<i+l.length then l.getD (j-i) undefA else t.get j
 | [],t,i,j,_,_=>by rw[if_neg (by simp)];rfl
 |x::l,t,i,j,h,hn=>by
  simp only[List.length_cons]at hn ⊢
  rw[argsT,l5 l _ _ _ (Tr.full_set _ _ _ _ h) (by omega),Tr.get_set k0 t i j x h (by omega)]
  by_cases h1:j=i
  ·subst h1
   rw[if_neg (by omega),if_pos rfl,if_pos (by omega)];simp
  ·by_cases h2:i+1≤j∧j<i+1+l.length
   ·rw[if_pos h2,if_pos (by omega)]
    have:j-i=(j-(i+1))+1:=by omega
    rw[this];simp
   ·rw[if_neg h2,if_neg h1,if_neg (by omega)]
section
variable (C:Ctx)
def callP(call:CallX)(g:FuncId)(args:List AVal)(h:Heap):Option AVal:=match call g args h with
 |some (r,h1)=>if begH h h1=true then frzX h1 h.length 20 r else none
 |none=>none
def heldX(call:CallX)(o:Op)(t:Env)(h:Heap):Option AVal:=match pureX C o t h with
 |some v=>some v
 |none=>match o with
  | .buildSlice T len parts=>match rowsX C T len (parts.toList.map (·.1)) (parts.toList.map fun q=>aev C.G t q.2) h with
   |some (.ez,_)=>some .ez
   |some (.hs _ _ _ _ _,_)=>match (elmT C.P T).bind (szOf C.P)with|some n=>some (.sl n (parts.toList.map fun q=>aev C.G t q.2))|none=>none
   |_=>none
  | .call c=>match c.callee with
   | .value f=>match aev C.G t f with
    | .fn (.func g) first captured=>callP call g (first++c.args.toList.map (aev C.G t)++captured) h
    |_=>none
   |_=>none
  |_=>none
def isHeldB:Op→Bool
 | .buildSlice _ _ _=>true
 | .move _| .assign _| .pick _ _ _| .load _ _| .nilCheck _| .binOp _ _ _ _ _| .unOp _ _ _| .convert _ _ _| .makeInterface _ _| .makeFunc _ _ _| .slice _ _ _ _ _
 | .fieldAddr _ _ _| .field _ _ _| .indexAddr _ _ _| .index _ _ _| .extract _ _| .build _ _=>true
 | .call c=>match c.callee with| .builtin .len=>true| .builtin .max=>true| .builtin .min=>true| .builtin .unsafeSliceData=>true| .value _=>true|_=>false
 |_=>false
def drawK(l:List Oper):List Nat:=match (List.range (l.length+1)).reverse.filter (fun k=>(l.take k).all (fun o=>isHeldB o.op)&&(preOk l.toArray k&&decide (k≤l.length)))with
 | []=>[]
 |m::rest=>(m::rest).filter fun k=>decide (m≤k+2)
theorem rE{l:List Oper}{k:Nat}(h:k∈drawK l):((l.take k).all (fun o=>isHeldB o.op)&&(preOk l.toArray k&&decide (k≤l.length)))=true:=by
 unfold drawK at h
 split at h
 ·cases h
 ·rename_i m rest hq
  have h1:=(List.mem_filter.1 h).1
  rw[← hq]at h1
  exact(List.mem_filter.1 h1).2
def drawE(l:List Oper):Option (Nat×Oper):=match drawK l with
 |_::_=>let k:=(l.takeWhile fun o=>isHeldB o.op).length
  match l[k]? with
  |some oe=>if preOk l.toArray (k+1)=true then some (k,oe)else none
  |none=>none
 | []=>none
def operX(call:CallX)(ops:Array Oper)(o:Oper)(ts:Tr)(h:Heap):Option (Tr×Heap):=
 match o.guard with
 |none=>match opX C call o.op (envL ts) h with|some (v,h')=>some (putL ts o.dst v,h')|none=>none
 |some (j,want)=>match guardA ops (envL ts) j with
  |some b=>if b=some want then(match opX C call o.op (envL ts) h with|some (v,h')=>some (putL ts o.dst v,h')|none=>none)else some (putL ts o.dst undefA,h)
  |none=>none
def operPX(call:CallX)(ops:Array Oper)(o:Oper)(ts:Tr)(h:Heap):Option AVal:=
 match o.guard with
 |none=>heldX C call o.op (envL ts) h
 |some (j,want)=>match guardA ops (envL ts) j with
  |some b=>if b=some want then heldX C call o.op (envL ts) h else some undefA
  |none=>none
def lX(call:CallX)(ops:Array Oper):List Oper→Tr→Heap→Option (Tr×Heap)
 | [],ts,h=>some (ts,h)
 |o::rest,ts,h=>match operX C call ops o ts h with|some (ts',h')=>lX call ops rest ts' h'|none=>none
def sameTH(x y:Tr×Heap):Bool:=Tr.beq x.1 y.1&&(decide (x.2.length=y.2.length)&&begH x.2 y.2)
def dedup:List (Tr×Heap)→List (Tr×Heap)
 | []=>[]
 |x::l=>if l.any (sameTH x)=true then dedup l else x::dedup l
def bindO{α β:Type}(f:α→Option (List β)):List α→Option (List β)
 | []=>some []
 |x::l=>match f x with
  |some ys=>match bindO f l with|some zs=>some (ys++zs)|none=>none
  |none=>none
def sufX(call:CallX)(ops:Array Oper):Nat→Array Bool→Tr→Heap→Option (List (Tr×Heap))
 |0,_,ts,h=>some [(ts,h)]
 |f+1,L,ts,h=>if (Region.ready .text ops L).isEmpty=false∧(Region.ready .gc ops L).isEmpty=false then
   match bindO (fun i=>match ops[i]? with
    |some o=>match operX C call ops o ts h with|some (ts',h')=>sufX call ops f (L.setIfInBounds i true) ts' h'|none=>none
    |none=>none) (Region.ready .any ops L)with
   |some rs=>some rs
   |none=>none
  else none
def pX(call:CallX)(ops:Array Oper):List Oper→Tr→Heap→Option Tr
 | [],ts,_=>some ts
 |o::rest,ts,h=>match operPX C call ops o ts h with|some v=>pX call ops rest (putL ts o.dst v) h|none=>none
def pXt(call:CallX)(ops:Array Oper):List Oper→Tr→Heap→Option (List (Tr×AVal)×Tr)
 | [],ts,_=>some ([],ts)
 |o::rest,ts,h=>match operPX C call ops o ts h with
  |some v=>match pXt call ops rest (putL ts o.dst v) h with
   |some (l,ts')=>some ((ts,v)::l,ts')
   |none=>none
  |none=>none
def sameX(call:CallX)(ops:Array Oper)(cb:Nat→Bool)(h':Heap):Nat→List Oper→List (Tr×AVal)→Bool
 |_,[],[]=>true
 |i,o::rest,(ts,v)::l=>(cb i||(match operPX C call ops o ts h' with|some v'=>beqA v' v|none=>false))&&sameX call ops cb h' (i+1) rest l
 |_,_,_=>false
def drawX3(call:CallX)(l:List Oper)(ts:Tr)(h:Heap):Option (List (Tr×Heap)):=match drawE l with
 |some (k,oe)=>match pXt C call ⟨l⟩ (l.take k) ts h with
  |some (vs,ts1)=>match operX C call ⟨l⟩ oe ts1 h with
   |some (ts2,h')=>if sameX C call ⟨l⟩ (fun i=>((Region.before l.toArray).getD k 0).testBit i) h' 0 (l.take k) vs=true then
     sufX C call ⟨l⟩ (l.length-(k+1)) (listK l.length (k+1)) ts2 h' else none
   |none=>none
  |none=>none
 |none=>none
abbrev Outs:=List (Exit×Tr×Heap)
def iterX(body:Tr→Heap→Option Outs):Nat→Tr→Heap→Option Outs
 |0,_,_=>none
 |n+1,ts,h=>match body ts h with
  |some rs=>bindO (fun r=>match r with
   | (.normal,ts',h')=>iterX body n ts' h'
   |r=>some [r]) rs
  |none=>none
def codeX(call:CallX)(lf:Nat):Code→Tr→Heap→Option Outs
 | .skip,ts,h=>some [(.normal,ts,h)]
 | .label _,ts,h=>some [(.normal,ts,h)]
 | .exit id,ts,h=>some [(.exit id,ts,h)]
 | .ret,ts,h=>some [(.ret,ts,h)]
 | .region _ ⟨l⟩ false,ts,h=>match lX C call ⟨l⟩ l ts h with|some (ts',h')=>some [(.normal,ts',h')]|none=>none
 | .region _ ⟨l⟩ true,ts,h=>match drawX3 C call l ts h with
  |some rs=>some ((dedup rs).map fun q=>(.normal,q.1,q.2))
  |none=>match (drawK l).findSome? (fun k=>match pX C call ⟨l⟩ (l.take k) ts h with
   |some ts1=>sufX C call ⟨l⟩ (l.length-k) (listK l.length k) ts1 h
   |none=>none)with
   |some rs=>some ((dedup rs).map fun q=>(.normal,q.1,q.2))
   |none=>none
 | .seq a b,ts,h=>match codeX call lf a ts h with
  |some rs=>bindO (fun r=>match r with
   | (.normal,ts',h')=>codeX call lf b ts' h'
   |r=>some [r]) rs
  |none=>none
 | .cond c a b,ts,h=>match aev C.G (envL ts) c with
  | .bool true=>codeX call lf a ts h
  | .bool false=>codeX call lf b ts h
  |_=>none
 | .block id c,ts,h=>match codeX call lf c ts h with
  |some rs=>some (rs.map fun r=>match r with
   | (.exit id',ts',h')=>if id'=id then(.normal,ts',h')else(.exit id',ts',h')
   |r=>r)
  |none=>none
 | .scope c,ts,h=>match codeX call lf c ts h with
  |some rs=>bindO (fun r=>match r with
   | (.goto _,_,_)=>none
   |r=>some [r]) rs
  |none=>none
 | .loop c,ts,h=>iterX (fun ts h=>codeX call lf c ts h) lf ts h
 |_,_,_=>none
def endX(fn:Func)(r:Exit×Tr×Heap):Option (AVal×Heap):=match r with
 | (.normal,ts,h')=>match resA C (envL ts) h' fn.results.toList with|some r=>some (r,h')|none=>none
 | (.ret,ts,h')=>match resA C (envL ts) h' fn.results.toList with|some r=>some (r,h')|none=>none
 |_=>none
def mergeH:Heap→Heap→Option Heap
 | [],[]=>some []
 |a::l,b::m=>match mergeH l m with
  |some q=>some ((if beqB a b=true then a else .dead)::q)
  |none=>none
 |_,_=>none
def mergeAH(x y:AVal×Heap):Option (AVal×Heap):=if beqA x.1 y.1=true then(match mergeH x.2 y.2 with|some q=>some (x.1,q)|none=>none)else none
def allX(fn:Func):Outs→Option (AVal×Heap)
 | []=>none
 | [r]=>endX C fn r
 |r::rest=>match endX C fn r,allX fn rest with
  |some x,some y=>mergeAH x y
  |_,_=>none
def callX(orc:FuncId→List AVal→Option AVal)(lf:Nat):Nat→CallX
 |0,_,_,_=>none
 |n+1,f,args,h=>match orc f args with
  |some r=>some (r,h)
  |none=>match C.P.funcs[f]? with
   |none=>none
   |some fn=>match fn.body with
    |none=>none
    |some c=>if (fn.name== "runtime.NumGoroutine")=false∧okCode fn.ntmps c=true∧fn.results.toList.all (okRes fn.ntmps)=true∧args.length≤fn.ntmps∧fn.ntmps+1<2^kOf fn.ntmps then
      match codeX C (callX orc lf n) lf c (argsT (Tr.mk (kOf fn.ntmps)) 0 args) h with
      |some rs=>allX C fn rs
      |none=>none
     else none
variable {C} {h h':Heap} {call:CallX} {k0:Nat}
def CallOk(C:Ctx)(call:CallX):Prop:=∀f args h r h',call f args h=some (r,h')→Sat C f args h fun r2 h2=>r2=r∧h2=h'
theorem dA(hcall:CallOk C call){ops:Array Oper}{o:Oper}{n:Nat}(hn:n+1<2^k0){ts ts':Tr}(hF:Tr.Full k0 ts)(ho:okDst n o=true)(g:operX C call ops o ts h=some (ts',h')){K:Env→Heap→Prop}(hk:K (envL ts') h'):
  wpOper C ops o (envL ts) h K∧Tr.Full k0 ts':=by
 have hd:∀i,o.dst=some i→i<n:=fun i e=>by simpa [okDst,e]using ho
 unfold operX at g;unfold wpOper
 split at g
 ·rename_i hg;rw[hg];simp only[]
  split at g
  ·rename_i e;cases g
   exact⟨jE hcall e (by rw[← dz hF hn hd];exact hk),dT _ _ _ hF⟩
  ·cases g
 ·rename_i hg;rw[hg];simp only[]
  split at g
  ·rename_i hq;rw[hq];simp only[]
   split at g
   ·rename_i hb
    split at g
    ·rename_i e;cases g
     exact⟨⟨fun _=>jE hcall e (by rw[← dz hF hn hd];exact hk),fun hn=>absurd hb hn⟩,dT _ _ _ hF⟩
    ·cases g
   ·rename_i hb;cases g
    exact⟨⟨fun hn=>absurd hn hb,fun _=>by rw[← dz hF hn hd];exact hk⟩,dT _ _ _ hF⟩
  ·cases g
theorem ug(hcall:CallOk C call){n:Nat}(hn:n+1<2^k0){ops:Array Oper}{Q:Exit→Env→Heap→Prop}:∀(l:List Oper) {ts ts':Tr} {h h':Heap},Tr.Full k0 ts→(∀o∈l,okDst n o=true)→lX C call ops l ts h=some (ts',h')→Q .normal (envL ts') h'→
  WPl C ops Q l (envL ts) h∧Tr.Full k0 ts'
 | [],ts,ts',h,h',hF,_,g,hq=>by
  simp only[lX,Option.some.injEq,Prod.mk.injEq]at g
  obtain⟨rfl,rfl⟩:=g
  exact⟨hq,hF⟩
 |o::rest,ts,ts',h,h',hF,ho,g,hq=>by
  unfold lX at g
  split at g
  ·rename_i ts1 h1 e
   have hF1:=(dA hcall hn hF (ho o (by simp)) e (K:=fun _ _=>True) trivial).2
   have ih:=ug hcall hn (ops:=ops) (Q:=Q) rest hF1 (fun o hm=>ho o (by simp[hm])) g hq
   unfold WPl
   exact⟨(dA hcall hn hF (ho o (by simp)) e ih.1).1,ih.2⟩
  ·cases g
theorem rF{x y:Tr×Heap}(h:sameTH x y=true):x=y:=by
 simp only[sameTH,Bool.and_eq_true,decide_eq_true_eq]at h
 obtain⟨h1,h2,h3⟩:=h
 have e:=kb h3
 rw[h2,List.take_length]at e
 exact Prod.ext (Tr.beq_ok _ _ h1) e.symm
theorem fg:∀{l:List (Tr×Heap)},∀x∈l,x∈dedup l
 | [],x,h=>by cases h
 |a::l,x,h=>by
  simp only[dedup]
  rcases List.mem_cons.1 h with rfl|h
  ·split
   ·rename_i hs
    obtain⟨y,hy,e⟩:=List.any_eq_true.1 hs
    rw[rF e];exact fg y hy
   ·simp
  ·have:=fg (l:=l) x h
   split
   ·exact this
   ·simp[this]
theorem fh:∀{l:List (Tr×Heap)},∀x∈dedup l,x∈l
 | [],x,h=>by cases h
 |a::l,x,h=>by
  simp only[dedup]at h
  split at h
  ·exact List.mem_cons_of_mem _ (fh x h)
  ·rcases List.mem_cons.1 h with rfl|h
   ·simp
   ·exact List.mem_cons_of_mem _ (fh x h)
theorem dB{α β:Type}{f:α→Option (List β)}:∀{l:List α} {m:List β},bindO f l=some m→(∀x∈l,∃ys,f x=some ys∧∀y∈ys,y∈m)∧∀y∈m,∃x∈l,∃ys,f x=some ys∧y∈ys
 | [],m,h=>by simp only[bindO,Option.some.injEq]at h;subst h;exact⟨fun x hx=>(by cases hx),fun y hy=>(by cases hy)⟩
 |a::l,m,h=>by
  simp only[bindO]at h
  split at h
  ·rename_i ys hy
   split at h
   ·rename_i zs hz;cases h
    obtain⟨h1,h2⟩:=dB hz
    refine⟨fun x hx=>?_,fun y hm=>?_⟩
    ·rcases List.mem_cons.1 hx with rfl|hx
     ·exact⟨ys,hy,fun y h=>List.mem_append_left _ h⟩
     ·obtain⟨q,k1,k2⟩:=h1 x hx
      exact⟨q,k1,fun y h=>List.mem_append_right _ (k2 y h)⟩
    ·rcases List.mem_append.1 hm with hm|hm
     ·exact⟨a,by simp,ys,hy,hm⟩
     ·obtain⟨x,k1,q,k2,k3⟩:=h2 y hm
      exact⟨x,by simp[k1],q,k2,k3⟩
   ·cases h
  ·cases h
theorem ol(hcall:CallOk C call){n:Nat}(hn:n+1<2^k0){ops:Array Oper}{Q:Exit→Env→Heap→Prop}(ho:∀o∈ops.toList,okDst n o=true):∀(f:Nat) {L:Array Bool} {ts:Tr} {h:Heap} {rs:List (Tr×Heap)},Tr.Full k0 ts→sufX C call ops f L ts h=some rs→
  (∀r∈rs,Q .normal (envL r.1) r.2)→Rest C ops Q f L (envL ts) h∧(∀r∈rs,Tr.Full k0 r.1):=by
 intro f
 induction f with
 |zero=>
  intro L ts h rs hF g hq
  simp only[sufX,Option.some.injEq]at g
  subst g
  exact⟨Rest.nil (hq (ts,h) (by simp)),fun r hr=>by simp at hr;rw[hr];exact hF⟩
 |succ f ih=>
  intro L ts h rs hF g hq
  simp only[sufX]at g
  split at g
  ·rename_i hr
   split at g
   ·rename_i rs1 hm;cases g
    obtain⟨b1,b2⟩:=dB hm
    have hmem:∀(i:Nat) (o:Oper),ops[i]? =some o→o∈ops.toList:=fun i o e=>by simpa using Array.mem_of_getElem? e
    have at_:∀i,∀ys,(match ops[i]? with
      |some o=>match operX C call ops o ts h with|some (ts',h')=>sufX C call ops f (L.setIfInBounds i true) ts' h'|none=>none
      |none=>none)=some ys→∃o ts1 h1,ops[i]? =some o∧operX C call ops o ts h=some (ts1,h1)∧sufX C call ops f (L.setIfInBounds i true) ts1 h1=some ys:=fun i ys e=>by
     split at e
     ·rename_i o hoi
      split at e
      ·rename_i ts1 h1 e1;exact⟨o,ts1,h1,hoi,e1,e⟩
      ·cases e
     ·cases e
    have hany:Region.ready .any ops L≠ []:=fun e=>by
     have h1:=hr.1
     cases hx:Region.ready .text ops L with
     |nil=>rw[hx]at h1;simp at h1
     |cons i l=>
      have:i∈Region.ready .any ops L:=kH (md:=.text) (by rw[hx];simp)
      rw[e]at this;cases this
    refine⟨Rest.step (fun e=>by rw[e]at hr;simp at hr) (fun e=>by rw[e]at hr;simp at hr) hany fun i hi o hoi=>?_,fun r hr=>?_⟩
    ·obtain⟨ys,hys,hsub⟩:=b1 i hi
     obtain⟨o',ts1,h1,e1,e2,e3⟩:=at_ i ys hys
     rw[hoi]at e1;cases e1
     have hF1:=(dA hcall hn hF (ho o (hmem i o hoi)) e2 (K:=fun _ _=>True) trivial).2
     exact(dA hcall hn hF (ho o (hmem i o hoi)) e2 (ih hF1 e3 (fun r hr=>hq r (hsub r hr))).1).1
    ·obtain⟨i,hi,ys,hys,hry⟩:=b2 r hr
     obtain⟨o',ts1,h1,e1,e2,e3⟩:=at_ i ys hys
     have hF1:=(dA hcall hn hF (ho o' (hmem i o' e1)) e2 (K:=fun _ _=>True) trivial).2
     obtain⟨ys',hys',hsub⟩:=b1 i hi
     rw[hys]at hys';cases hys'
     exact(ih hF1 e3 (fun r hr=>hq r (hsub r hr))).2 r hry
   ·cases g
  ·cases g
theorem tS(hcall:CallOk C call){g:FuncId}{args:List AVal}{v:AVal}(e:callP call g args h=some v):Sat C g args h fun r2 h2=>r2=v∧h2=h:=by
 unfold callP at e
 split at e
 ·rename_i hc
  split at e
  ·rename_i hb
   exact(hcall _ _ _ _ _ hc).letgo (kb hb) (oh _ _ _ _ _ e)
  ·cases e
 ·cases e
theorem gw(hcall:CallOk C call){o:Op}{t:Env}{v:AVal}(e:heldX C call o t h=some v){K:AVal→Heap→Prop}(hk:K v h):wpOp C o t h K:=by
 unfold heldX at e
 split at e
 ·rename_i hp;cases e;exact mE hp hk
 ·split at e
  ·rename_i T len parts _
   unfold wpOp;simp only[]
   unfold rowsX at e
   cases he:elmT C.P T with
   |none=>rw[he]at e;cases e
   |some el=>
    rw[he]at e
    simp only[]at e
    refine au rfl ?_
    cases hn:szOf C.P el with
    |none=>rw[hn]at e;cases e
    |some n=>
     rw[hn]at e
     simp only[]at e
     refine au rfl ?_
     by_cases h0:len=0
     ·rw[if_pos h0]at e ⊢
      by_cases hp:(parts.toList.map (·.1)).length=0
      ·rw[if_pos hp]at e;simp only[Option.some.injEq]at e;subst e;exact⟨by simpa using hp,hk⟩
      ·rw[if_neg hp]at e;cases e
     ·rw[if_neg h0]at e ⊢
      split at e
      ·rename_i hh
       split at hh
       ·cases hh
       ·cases hh
      ·rename_i hh
       split at hh
       ·rename_i hs
        obtain⟨s1,s2,s3,s4,s5,s6⟩:=hs
        simp only[Option.bind_some,hn,Option.some.injEq]at e
        subst e
        refine⟨by simpa using s1,by omega,s2,s3,s4,s5,fun x hx=>?_,.inr hk⟩
        simpa using List.all_eq_true.1 s6 x hx
       ·cases hh
      ·cases e
  ·rename_i c _
   split at e
   ·rename_i hc
    split at e
    ·rename_i hf
     unfold wpOp;simp only[]
     unfold wpCall;rw[hc];show callK _ _ _ _ _;rw[hf]
     exact(tS hcall e).mono fun r2 h2 ⟨e1,e2⟩=>by rw[e1,e2];exact hk
    ·cases e
   ·cases e
  ·cases e
theorem pP(hcall:CallOk C call){n:Nat}(hn:n+1<2^k0){ops:Array Oper}{K:Env→Prop}:∀(l:List Oper) {ts ts':Tr} {h:Heap},Tr.Full k0 ts→(∀o∈l,okDst n o=true)→pX C call ops l ts h=some ts'→K (envL ts')→
  WPp C ops l (envL ts) h K∧Tr.Full k0 ts'
 | [],ts,ts',h,hF,_,g,hq=>by
  simp only[pX,Option.some.injEq]at g
  subst g
  exact⟨hq,hF⟩
 |o::rest,ts,ts',h,hF,ho,g,hq=>by
  have hd:∀i,o.dst=some i→i<n:=fun i e=>by have:=ho o (by simp);simpa [okDst,e]using this
  unfold pX at g
  split at g
  ·rename_i v e
   have ih:=pP hcall hn (ops:=ops) (K:=K) rest (ts:=putL ts o.dst v) (dT _ _ _ hF) (fun o hm=>ho o (by simp[hm])) g hq
   rw[dz hF hn hd]at ih
   refine⟨⟨v,fun KK hkk=>?_,ih.1⟩,ih.2⟩
   unfold operPX at e;unfold wpOperV
   split at e
   ·rename_i hg;rw[hg];simp only[]
    exact gw hcall e hkk
   ·rename_i hg;rw[hg];simp only[]
    split at e
    ·rename_i hq;rw[hq];simp only[]
     split at e
     ·rename_i hb;exact⟨fun _=>gw hcall e hkk,fun hn=>absurd hb hn⟩
     ·rename_i hb;cases e;exact⟨fun hn=>absurd hn hb,fun _=>hkk⟩
    ·cases e
  ·cases g
theorem rG(hcall:CallOk C call){n:Nat}(hn:n+1<2^k0){ops:Array Oper}{cb:Nat→Bool}:∀(l:List Oper) {ts ts':Tr} {h:Heap} {vs:List (Tr×AVal)},Tr.Full k0 ts→(∀o∈l,okDst n o=true)→pXt C call ops l ts h=some (vs,ts')→
  ∃V:Nat→AVal,(∀(i:Nat) (o:Oper),l[i]? =some o→∀KK:AVal→Heap→Prop,KK (V i) h→wpOperV C ops o (Av.T V l (envL ts) i) h KK)∧Av.T V l (envL ts) l.length=envL ts'∧Tr.Full k0 ts'∧
   ∀(s:Nat) (h':Heap),sameX C call ops cb h' s l vs=true→∀(i:Nat) (o:Oper),l[i]? =some o→cb (s+i)=false→∀KK:AVal→Heap→Prop,KK (V i) h'→wpOperV C ops o (Av.T V l (envL ts) i) h' KK
 | [],ts,ts',h,vs,hF,_,g=>by
  simp only[pXt,Option.some.injEq,Prod.mk.injEq]at g
  obtain⟨rfl,rfl⟩:=g
  exact⟨fun _=>undefA,fun i o hi=>by simp at hi,rfl,hF,fun s h' _ i o hi=>by simp at hi⟩
 |o::rest,ts,ts',h,vs,hF,ho,g=>by
  have hd:∀i,o.dst=some i→i<n:=fun i e=>by have:=ho o (by simp);simpa [okDst,e]using this
  have one:∀(h:Heap) (v:AVal),operPX C call ops o ts h=some v→∀KK:AVal→Heap→Prop,KK v h→wpOperV C ops o (envL ts) h KK:=fun h v e KK hkk=>by
   unfold operPX at e;unfold wpOperV
   split at e
   ·rename_i hg;rw[hg];simp only[]
    exact gw hcall e hkk
   ·rename_i hg;rw[hg];simp only[]
    split at e
    ·rename_i hq;rw[hq];simp only[]
     split at e
     ·rename_i hb;exact⟨fun _=>gw hcall e hkk,fun hn=>absurd hb hn⟩
     ·rename_i hb;cases e;exact⟨fun hn=>absurd hn hb,fun _=>hkk⟩
    ·cases e
  simp only[pXt]at g
  split at g
  ·rename_i v e
   split at g
   ·rename_i l1 ts1 e1;cases g
    obtain⟨V,h1,h2,h3,h4⟩:=rG hcall hn (ops:=ops) (cb:=cb) rest (ts:=putL ts o.dst v) (dT _ _ _ hF) (fun o hm=>ho o (by simp[hm])) e1
    rw[dz hF hn hd]at h1 h2 h4
    refine⟨fun i=>match i with|0=>v|i+1=>V i,fun i o' hi=>?_,?_,h3,fun s h' hs i o' hi hc=>?_⟩
    ·cases i with
     |zero=>simp at hi;subst hi;exact one h v e
     |succ i=>exact h1 i o' (by simpa using hi)
    ·exact h2
    ·simp only[sameX,Bool.and_eq_true,Bool.or_eq_true]at hs
     cases i with
     |zero=>
      simp at hi;subst hi
      rcases hs.1 with h5|h5
      ·rw[Nat.add_zero]at hc;rw[hc]at h5;cases h5
      ·split at h5
       ·rename_i v' e'
        rw[eD _ _ h5]at e'
        exact one h' v e'
       ·cases h5
     |succ i=>exact h4 (s+1) h' hs.2 i o' (by simpa using hi) (by rw[show s+1+i=s+(i+1) by omega];exact hc)
   ·cases g
  ·cases g
theorem tT{n:Nat}{o:Oper}(h:okOper n o=true):okDst n o=true:=by
 unfold okOper at h
 simp only[Bool.and_eq_true]at h
 exact h.2
theorem tU(hcall:CallOk C call)(lf:Nat){n:Nat}(hn:n+1<2^k0):∀(c:Code) {ts:Tr} {h:Heap} {rs:Outs} {Q:Exit→Env→Heap→Prop},Tr.Full k0 ts→okCode n c=true→codeX C call lf c ts h=some rs→(∀r∈rs,Q r.1 (envL r.2.1) r.2.2)→
  WP C c Q (envL ts) h∧∀r∈rs,Tr.Full k0 r.2.1:=by
 intro c
 induction c with
 |skip=>intro ts h rs Q hF _ g hq;simp only[codeX,Option.some.injEq]at g;subst g;exact⟨hq (_,ts,h) (by simp),fun r hr=>by simp at hr;rw[hr];exact hF⟩
 |label l=>intro ts h rs Q hF _ g hq;simp only[codeX,Option.some.injEq]at g;subst g;exact⟨hq (_,ts,h) (by simp),fun r hr=>by simp at hr;rw[hr];exact hF⟩
 |exit id=>intro ts h rs Q hF _ g hq;simp only[codeX,Option.some.injEq]at g;subst g;exact⟨hq (_,ts,h) (by simp),fun r hr=>by simp at hr;rw[hr];exact hF⟩
 |ret=>intro ts h rs Q hF _ g hq;simp only[codeX,Option.some.injEq]at g;subst g;exact⟨hq (_,ts,h) (by simp),fun r hr=>by simp at hr;rw[hr];exact hF⟩
 |region id ops draw=>
  obtain⟨l⟩:=ops
  intro ts h rs Q hF hok g hq
  have hall:∀o∈l,okDst n o=true:=fun o ho=>by
   simp only[okCode,List.all_eq_true]at hok
   exact tT (hok o ho)
  cases draw with
  |false=>
   simp only[codeX]at g
   split at g
   ·rename_i ts' h' e1;cases g
    have:=ug hcall hn l hF hall e1 (Q:=Q) (hq (_,ts',h') (by simp))
    exact⟨this.1,fun r hr=>by simp at hr;rw[hr];exact this.2⟩
   ·cases g
  |true=>
   simp only[codeX]at g
   split at g
   ·rename_i rs1 hd;cases g
    unfold drawX3 at hd
    split at hd
    ·rename_i k oe hde
     have hdr:l[k]? =some oe∧preOk l.toArray (k+1)=true:=by
      unfold drawE at hde
      split at hde
      ·simp only[]at hde
       split at hde
       ·rename_i hoe
        split at hde
        ·rename_i hp;cases hde;exact⟨hoe,hp⟩
        ·cases hde
       ·cases hde
      ·cases hde
     have hkl:=(List.getElem?_eq_some_iff.1 hdr.1).1
     split at hd
     ·rename_i vs ts1 e1
      split at hd
      ·rename_i ts2 h2 e2
       split at hd
       ·rename_i hsame
        obtain⟨V,v1,v2,v3,v4⟩:=rG hcall hn (cb:=fun i=>((Region.before l.toArray).getD k 0).testBit i) (l.take k) hF (fun o ho=>hall o (List.mem_of_mem_take ho)) e1
        have hlen:(l.take k).length=k:=by simp;omega
        have hTT:∀i,i≤k→Av.T V (l.take k) (envL ts) i=Av.T V l (envL ts) i:=fun i hi=>fI V V k (fun _ _=>rfl) _ _ _ _ hi (by rw[List.take_take];congr 1;omega) (by rw[hlen];exact hi) (by omega)
        have hget:∀(i:Nat) (o:Oper),i<k→l[i]? =some o→(l.take k)[i]? =some o:=fun i o hi ho=>by rw[List.getElem?_take,if_pos hi];exact ho
        have hoe:=hall oe (List.mem_of_getElem? hdr.1)
        have hF2:=(dA hcall hn v3 hoe e2 (K:=fun _ _=>True) trivial).2
        have hsx:=ol hcall hn (ops:=⟨l⟩) (fun o ho=>hall o ho) (l.length-(k+1)) hF2 hd (Q:=Q) (fun r hr=>hq (.normal,r.1,r.2) (List.mem_map.2 ⟨r,fg r hr,rfl⟩))
        rw[hlen]at v2
        rw[hTT k (Nat.le_refl _)]at v2
        refine⟨sJ k oe hdr.1 hdr.2 V (fun i o hi ho=>?_) ?_,fun r hr=>?_⟩
        ·rw[← hTT i (by omega)]
         exact v1 i o (hget i o hi ho)
        ·rw[v2]
         have hd':∀i,oe.dst=some i→i<n:=fun i e=>by simpa [okDst,e]using hoe
         unfold operX at e2;unfold wpOperV
         have post:∀v,ts2=putL ts1 oe.dst v→(∀(i:Nat) (o:Oper),i<k→l[i]? =some o→((Region.before l.toArray).getD k 0).testBit i=false→∀KK:AVal→Heap→Prop,KK (V i) h2→wpOperV C l.toArray o (Av.T V l (envL ts) i) h2 KK)∧
           Rest C l.toArray Q (l.length-(k+1)) (listK l.length (k+1)) (put (envL ts1) oe.dst v) h2:=fun v ev=>by
          refine⟨fun i o hi ho hc=>?_,?_⟩
          ·rw[← hTT i (by omega)]
           exact v4 0 h2 hsame i o (hget i o hi ho) (by simpa using hc)
          ·rw[← dz v3 hn hd', ← ev]
           exact hsx.1
         split at e2
         ·rename_i hg;rw[hg];simp only[]
          split at e2
          ·rename_i e3;cases e2
           exact jE hcall e3 (post _ rfl)
          ·cases e2
         ·rename_i hg;rw[hg];simp only[]
          split at e2
          ·rename_i hqq;rw[hqq];simp only[]
           split at e2
           ·rename_i hb
            split at e2
            ·rename_i e3;cases e2
             exact⟨fun _=>jE hcall e3 (post _ rfl),fun hn=>absurd hb hn⟩
            ·cases e2
           ·rename_i hb;cases e2
            exact⟨fun hn=>absurd hn hb,fun _=>post _ rfl⟩
          ·cases e2
        ·obtain⟨q,hq1,rfl⟩:=List.mem_map.1 hr
         exact hsx.2 q (fh q hq1)
       ·cases hd
      ·cases hd
     ·cases hd
    ·cases hd
   ·split at g
    ·rename_i rs1 hd;cases g
     obtain⟨k,hk,e⟩:=List.exists_of_findSome?_eq_some hd
     have hk:=rE hk
     simp only[Bool.and_eq_true]at hk
     split at e
     ·rename_i ts1 e1
      have hF1:=(pP hcall hn (K:=fun _=>True) (ops:=⟨l⟩) (C:=C) (l.take k) hF (fun o ho=>hall o (List.mem_of_mem_take ho)) e1 trivial).2
      have h2:=ol hcall hn (ops:=⟨l⟩) (fun o ho=>hall o ho) (l.length-k) hF1 e (Q:=Q) (fun r hr=>hq (.normal,r.1,r.2) (List.mem_map.2 ⟨r,fg r hr,rfl⟩))
      have h1:=pP hcall hn (K:=fun t'=>Rest C ⟨l⟩ Q (l.length-k) (listK l.length k) t' h) (ops:=⟨l⟩) (C:=C) (l.take k) hF (fun o ho=>hall o (List.mem_of_mem_take ho)) e1 h2.1
      refine⟨sI k (by simpa using hk.2) h1.1,fun r hr=>?_⟩
      obtain⟨q,hq1,rfl⟩:=List.mem_map.1 hr
      exact h2.2 q (fh q hq1)
     ·cases e
    ·cases g
 |seq a b iha ihb=>
  intro ts h rs Q hF hok g hq
  simp only[okCode,Bool.and_eq_true]at hok
  simp only[codeX]at g
  split at g
  ·rename_i rs1 e1
   obtain⟨b1,b2⟩:=dB g
   have hlen:=(iha (Q:=fun _ _ _=>True) hF hok.1 e1 (fun _ _=>trivial)).2
   refine⟨(iha (Q:=thenQ (fun t h=>Wkn C (wr a) t h fun t h=>WP C b Q t h) Q) hF hok.1 e1 (fun r hr=>?_)).1,fun r hr=>?_⟩
   ·obtain⟨ys,hys,hsub⟩:=b1 r hr
    obtain⟨e,ts1,h1⟩:=r
    cases e with
    |normal=>exact Wkn.refl (ihb (hlen _ hr) hok.2 hys (fun r hr=>hq r (hsub r hr))).1
    |_=>simp only[Option.some.injEq]at hys;subst hys;exact hq _ (hsub _ (by simp))
   ·obtain⟨r1,hr1,ys,hys,hry⟩:=b2 r hr
    obtain⟨e,ts1,h1⟩:=r1
    cases e with
    |normal=>exact(ihb (Q:=fun _ _ _=>True) (hlen _ hr1) hok.2 hys (fun _ _=>trivial)).2 r hry
    |_=>simp only[Option.some.injEq]at hys;subst hys;simp at hry;subst hry;exact hlen _ hr1
  ·cases g
 |cond c a b iha ihb=>
  intro ts h rs Q hF hok g hq
  simp only[okCode,Bool.and_eq_true]at hok
  simp only[codeX]at g
  unfold WP
  split at g
  ·rename_i hc;rw[hc];simp only[]
   have:=iha (Q:=Q) hF (by simp[hok]) g hq
   exact⟨⟨fun _=>this.1,fun e=>Bool.noConfusion e⟩,this.2⟩
  ·rename_i hc;rw[hc];simp only[]
   have:=ihb (Q:=Q) hF (by simp[hok]) g hq
   exact⟨⟨fun e=>Bool.noConfusion e,fun _=>this.1⟩,this.2⟩
  ·cases g
 |block id c ih=>
  intro ts h rs Q hF hok g hq
  simp only[okCode]at hok
  simp only[codeX]at g
  split at g
  ·rename_i rs1 e1;cases g
   have hlen:=(ih (Q:=fun _ _ _=>True) hF hok e1 (fun _ _=>trivial)).2
   refine⟨(ih (Q:=blockQ id Q) hF hok e1 (fun r hr=>?_)).1,fun r hr=>?_⟩
   ·have:=hq _ (List.mem_map.2 ⟨r,hr,rfl⟩)
    obtain⟨e,ts1,h1⟩:=r
    cases e with
    |exit id'=>
     simp only[blockQ]at this ⊢
     split at this
     ·rename_i e;rw[if_pos e];exact this
     ·rename_i e;rw[if_neg e];exact this
    |_=>exact this
   ·obtain⟨r1,hr1,rfl⟩:=List.mem_map.1 hr
    have:=hlen r1 hr1
    obtain⟨e,ts1,h1⟩:=r1
    cases e with
    |exit id'=>simp only[];split<;>exact this
    |_=>exact this
  ·cases g
 |scope c ih=>
  intro ts h rs Q hF hok g hq
  simp only[okCode]at hok
  simp only[codeX]at g
  split at g
  ·rename_i rs1 e1
   obtain⟨b1,b2⟩:=dB g
   have hlen:=(ih (Q:=fun _ _ _=>True) hF hok e1 (fun _ _=>trivial)).2
   refine⟨(ih (Q:=noG Q) hF hok e1 (fun r hr=>?_)).1,fun r hr=>?_⟩
   ·obtain⟨ys,hys,hsub⟩:=b1 r hr
    obtain⟨e,ts1,h1⟩:=r
    cases e with
    |goto l=>cases hys
    |_=>simp only[Option.some.injEq]at hys;subst hys;exact hq _ (hsub _ (by simp))
   ·obtain⟨r1,hr1,ys,hys,hry⟩:=b2 r hr
    obtain⟨e,ts1,h1⟩:=r1
    cases e with
    |goto l=>cases hys
    |_=>simp only[Option.some.injEq]at hys;subst hys;simp at hry;subst hry;exact hlen _ hr1
  ·cases g
 |loop c ih=>
  intro ts h rs Q hF hok g hq
  simp only[okCode]at hok
  simp only[codeX]at g
  have lens:∀(m:Nat) (s:Tr) (k:Heap) (rs:Outs),Tr.Full k0 s→iterX (fun ts h=>codeX C call lf c ts h) m s k=some rs→∀r∈rs,Tr.Full k0 r.2.1:=by
   intro m
   induction m with
   |zero=>intro s k rs _ g;simp[iterX]at g
   |succ m ihn=>
    intro s k rs hs g r hr
    simp only[iterX]at g
    split at g
    ·rename_i rs1 e1
     obtain⟨b1,b2⟩:=dB g
     have hl:=(ih (Q:=fun _ _ _=>True) hs hok e1 (fun _ _=>trivial)).2
     obtain⟨r1,hr1,ys,hys,hry⟩:=b2 r hr
     have h1:=hl r1 hr1
     obtain⟨e,ts1,k1⟩:=r1
     cases e with
     |normal=>exact ihn _ _ _ h1 hys r hry
     |_=>simp only[Option.some.injEq]at hys;subst hys;simp at hry;subst hry;exact h1
    ·cases g
  refine⟨⟨fun n t1 h1=>∃(s:Tr) (rs1:Outs),t1=envL s∧Tr.Full k0 s∧iterX (fun ts h=>codeX C call lf c ts h) n s h1=some rs1∧∀r∈rs1,r∈rs,lf,Wkn.refl ⟨ts,rs,rfl,hF,g,fun _ h=>h⟩,fun n' t1 h1 hI=>?_⟩,lens _ _ _ _ hF g⟩
  obtain⟨s,rs1,rfl,hs,gi,hsub⟩:=hI
  cases n' with
  |zero=>simp[iterX]at gi
  |succ n=>
   simp only[iterX]at gi
   split at gi
   ·rename_i rs2 e1
    obtain⟨b1,b2⟩:=dB gi
    have hl:=(ih (Q:=fun _ _ _=>True) hs hok e1 (fun _ _=>trivial)).2
    refine(ih hs hok e1 (fun r hr=>?_)).1
    obtain⟨ys,hys,hs2⟩:=b1 r hr
    have h2:=hl r hr
    obtain⟨e,ts1,k1⟩:=r
    cases e with
    |normal=>exact⟨n,by omega,Wkn.refl ⟨ts1,ys,rfl,h2,hys,fun r h=>hsub r (hs2 r h)⟩⟩
    |_=>simp only[Option.some.injEq]at hys;subst hys;exact hq _ (hsub _ (hs2 _ (by simp)))
   ·cases gi
 |_=>intro ts h rs Q _ _ g;simp[codeX]at g
def Kill(a b:Heap):Prop:=a.length=b.length∧∀(p:Nat) (k:Blk),b[p]? =some k→k=.dead∨a[p]? =some k
theorem Kill.refl(a:Heap):Kill a a:=⟨rfl,fun _ _ h=>.inr h⟩
theorem Kill.trans{a b c:Heap}(h:Kill a b)(k:Kill b c):Kill a c:=⟨h.1.trans k.1,fun p x hx=>(k.2 p x hx).elim .inl (h.2 p x)⟩
theorem l6:∀{a b q:Heap},mergeH a b=some q→Kill a q∧Kill b q
 | [],[],q,h=>by simp only[mergeH,Option.some.injEq]at h;subst h;exact⟨Kill.refl _,Kill.refl _⟩
 | [],_::_,q,h=>by simp[mergeH]at h
 |_::_,[],q,h=>by simp[mergeH]at h
 |a::l,b::m,q,h=>by
  simp only[mergeH]at h
  split at h
  ·rename_i q1 hq;cases h
   obtain⟨h1,h2⟩:=l6 hq
   refine⟨⟨by simp[h1.1],fun p k hk=>?_⟩,⟨by simp[h2.1],fun p k hk=>?_⟩⟩
   ·cases p with
    |zero=>
     simp at hk
     split at hk
     ·subst hk;exact .inr rfl
     ·exact .inl hk.symm
    |succ p=>exact(h1.2 p k (by simpa using hk)).imp id (by simp)
   ·cases p with
    |zero=>
     simp at hk
     split at hk
     ·rename_i e;subst hk;exact .inr (by rw[og e];rfl)
     ·exact .inl hk.symm
    |succ p=>exact(h2.2 p k (by simpa using hk)).imp id (by simp)
  ·cases h
theorem om{fn:Func}:∀{rs:Outs} {x:AVal×Heap},allX C fn rs=some x→∀r∈rs,∃h1,endX C fn r=some (x.1,h1)∧Kill h1 x.2
 | [],x,g=>by cases g
 | [r],x,g=>by intro r' hr;simp at hr;subst hr;exact⟨x.2,g,Kill.refl _⟩
 |r::r2::rest,x,g=>by
  simp only[allX]at g
  split at g
  ·rename_i x1 y1 h1 h2
   unfold mergeAH at g
   split at g
   ·rename_i hb
    split at g
    ·rename_i q hq;cases g
     obtain⟨k1,k2⟩:=l6 hq
     intro r' hr
     rcases List.mem_cons.1 hr with rfl|hr
     ·exact⟨_,h1,k1⟩
     ·obtain⟨h3,e,k3⟩:=om h2 r' hr
      exact⟨h3,by rw[eD _ _ hb];exact e,k3.trans k2⟩
    ·cases g
   ·cases g
  ·cases g
theorem Sat.kill{f:FuncId}{args:List AVal}{r:AVal}{h1:Heap}(s:Sat C f args h fun r2 h2=>r2=r∧Kill h2 h1):Sat C f args h fun r2 h2=>r2=r∧h2=h1:=by
 intro B S μ w vs fit rl
 refine(s B S μ w vs fit rl).mono fun u w' hp=>?_
 obtain⟨r2,h',S',μ',⟨rfl,hk⟩,st,fit',hrep⟩:=hp
 refine⟨r2,h1,S',μ',⟨rfl,rfl⟩,st,⟨fit'.glob,fit'.len.trans hk.1,fit'.sep,fit'.own,fit'.base,fit'.lie,fun p m k hm hp=>?_⟩,hrep⟩
 rcases hk.2 p k hp with rfl|h2
 ·trivial
 ·exact fit'.blk p m k hm h2
theorem tV{k0:Nat}(args:List AVal)(hl:args.length+1<2^k0):envL (argsT (Tr.mk k0) 0 args)=env0 args:=by
 funext i
 simp only[envL,env0]
 rw[l5 _ _ _ _ (Tr.full_mk _) (by omega),Tr.get_mk]
 by_cases h:i<args.length
 ·rw[if_pos (by omega)];simp
 ·rw[if_neg (by omega)];simp[List.getD,List.getElem?_eq_none (show args.length≤i by omega)]
theorem Sat.of_body0{f:FuncId}{fn:Func}{c:Code}{args:List AVal}{R:AVal→Heap→Prop}(hf:C.P.funcs[f]? =some fn)(hb:fn.body=some c)(hname:(fn.name== "runtime.NumGoroutine")=false)
  (hok:okCode fn.ntmps c=true)(hres:fn.results.toList.all (okRes fn.ntmps)=true)(hlen:args.length≤fn.ntmps)
  (hw:WP C c (fun e t' h'=>match e with
   | .normal=>need (resA C t' h' fn.results.toList) fun r=>R r h'
   | .ret=>need (resA C t' h' fn.results.toList) fun r=>R r h'
   |_=>False) (env0 args) h):Sat C f args h R:=by
 intro B S μ w vs fit rl
 have hcall:(callFunc f vs.toArray).run C.P w=.ok (.enter f vs.toArray) w:=by
  have hne:fn.name≠ "runtime.NumGoroutine" :=by simpa using hname
  simp[callFunc,hf,hne,hb]
 rw[hcall]
 show Calls C.P f vs.toArray w _
 refine calls_of_wp hf hb ?_
 have hlv:vs.length≤fn.ntmps:=by rw[rl.1];exact hlen
 have renv:REnv fn.ntmps w S μ (env0 args) {tmps:=vs.toArray++Array.replicate (fn.ntmps-vs.toArray.size) undef,defers:=[]}:=by
  refine⟨by simp;omega,rfl,fun i hi=>?_⟩
  unfold env0
  by_cases hlt:i<args.length
  ·have hx:=List.getElem?_eq_getElem hlt
   have:=rl.2 i _ hx
   have hv:i<vs.length:=by rw[rl.1];exact hlt
   have e1:args.getD i undefA=args[i]:=by simp[List.getD,hx]
   have e2:(vs.toArray++Array.replicate (fn.ntmps-vs.toArray.size) undef).getD i undef=vs.getD i undef:=by
    simp[Array.getD_eq_getD_getElem?,Array.getElem?_append,hv,List.getD]
   rw[e1]
   simp only[e2]
   exact this
  ·have e1:args.getD i undefA=undefA:=by simp[List.getD,List.getElem?_eq_none (show args.length≤i by omega)]
   have hv:¬i<vs.length:=by rw[rl.1];exact hlt
   have e2:(vs.toArray++Array.replicate (fn.ntmps-vs.toArray.size) undef).getD i undef=undef:=by
    simp[Array.getD_eq_getD_getElem?,Array.getElem?_append,hv,Array.getElem?_replicate]
    split<;>rfl
   rw[e1]
   simp only[e2]
   exact dZ _ _ _
 have hres':=List.all_eq_true.1 hres
 refine wp_mono (lF (B:=B) (n:=fn.ntmps) c hok (Step.refl B S μ w) fit renv hw) fun e a' w' hp=>?_
 obtain⟨t',h',S',μ',hq,st,fit',renv'⟩:=hp
 have fin:need (resA C t' h' fn.results.toList) (fun r=>R r h')→a'.defers=[]∧∃v,(results fn a'.tmps).run C.P w'=.ok v w'∧
   ∃u,Ending.returned v=Ending.returned u∧OpPost C B S μ w R u w':=by
  intro hq
  obtain⟨r,hr0,hR⟩:=ae hq
  obtain⟨v,hv,hrep⟩:=lH fit' renv' hres' hr0
  exact⟨renv'.2.1,v,hv,v,rfl,r,_,_,_,hR,st,fit',hrep⟩
 cases e with
 |normal=>exact fin hq
 |ret=>exact fin hq
 |_=>exact hq.elim
def OrcOk(C:Ctx)(orc:FuncId→List AVal→Option AVal):Prop:=∀f args r,orc f args=some r→∀h,Sat C f args h fun r2 h2=>r2=r∧h2=h
theorem tW{orc:FuncId→List AVal→Option AVal}(horc:OrcOk C orc)(lf:Nat):∀n,CallOk C (callX C orc lf n):=by
 intro n
 induction n with
 |zero=>intro f args h r h' g;simp[callX]at g
 |succ n ih=>
  intro f args h r h' g
  simp only[callX]at g
  split at g
  ·rename_i e;cases g;exact horc _ _ _ e h
  ·split at g
   ·cases g
   ·rename_i fn hfn
    split at g
    ·cases g
    ·rename_i c hc
     split at g
     ·rename_i hs
      obtain⟨s1,s2,s3,s4,s5⟩:=hs
      split at g
      ·rename_i rs e1
       have hend:=om g
       refine(Sat.of_body0 hfn hc s1 s2 s3 s4 (R:=fun r2 h2=>r2=r∧Kill h2 h') ?_).kill
       have:=(tU ih lf s5 c (jF _ _ _ (Tr.full_mk _)) s2 e1 (Q:=fun e t' h9=>match e with
        | .normal=>need (resA C t' h9 fn.results.toList) fun r2=>r2=r∧Kill h9 h'
        | .ret=>need (resA C t' h9 fn.results.toList) fun r2=>r2=r∧Kill h9 h'
        |_=>False) (fun q hq=>?_)).1
       ·rwa [tV _ (by omega)]at this
       ·obtain⟨h1,e,hkill⟩:=hend q hq
        obtain⟨ex,ts,h9⟩:=q
        unfold endX at e
        split at e
        ·rename_i hqq;cases hqq
         split at e
         ·rename_i hr;cases e;exact au hr ⟨rfl,hkill⟩
         ·cases e
        ·rename_i hqq;cases hqq
         split at e
         ·rename_i hr;cases e;exact au hr ⟨rfl,hkill⟩
         ·cases e
        ·cases e
      ·cases g
     ·cases g
end
end Go.Av
