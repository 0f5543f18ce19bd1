/- Parts. -/
import Derived.Test.YtllhfnepgcbjnaaGreatMnQw
import Derived.Test.YtllhfnepgcbjnaaGreatMnNs
set_option linter.unusedSimpArgs false
set_option linter.unusedVariables false
set_option linter.unusedSectionVars false
set_option linter.unnecessarySimpa false
set_option maxRecDepth 100000
set_option maxHeartbeats 16000000
namespace Go.Av
open Go Go.Proofs Go.RowKit
section
theorem uA{s:PS}(hI:s.Inv){l:List Ky}(hk:VK l s){q:Qy}(hq:q.ok=true):pgL l (s.eval q) ⟨0,0,false⟩=itmK s fun t=>q.bel s t:=by
 refine(yj hk.1).uniq (jn (kG hI _)) fun x=>?_
 rw[yi hk.1];rw[show itmK s (fun t=>q.bel s t)=srtK ((s.tell.it.filter fun t=>q.bel s t).map It.ky)from rfl,gy (kG hI _),N0,hk.2];have he:∀id t,lkM s.it id=some t→s.eval q t.ky.i=q.bel s t:=fun id t h=>by
  have:t.ky.i=id:=(hI.i3 id t h).1;rw[this];unfold PS.eval;rw[h,hq];rfl
 constructor
 ·rintro⟨⟨id,t,h1,rfl⟩,_,h3⟩;rw[he id t h1]at h3;exact⟨t,T7.2 ⟨bt h1,h3⟩,rfl⟩
 ·rintro⟨t,ht,rfl⟩;obtain⟨h1,h2⟩:=T7.1 ht;obtain⟨id,hid⟩:=nD hI ((jx hI).mem_iff.1 h1);exact⟨⟨id,t,hid,rfl⟩,rfl,by rw[he id t hid];exact h2⟩
end
section
attribute [local irreducible] WP WPl WPix Sat
def lastI(bel:Int→Bool)(l:List Ky):Int:=match (l.filter fun k=>bel k.i).getLast? with
 |some k=>k.i
 |none=>0
def headI(bel:Int→Bool)(l:List Ky):Int:=match (l.filter fun k=>bel k.i).head? with
 |some k=>k.i
 |none=>0
def arF(bel:Int→Bool)(l:List Ky)(item:Int):Int×Int:=match l.findIdx? (fun k=>decide (k.i=item))with
 |some i=>(lastI bel (l.take i),headI bel (l.drop (i+1)))
 |none=>(0,0)
theorem lX{bel:Int→Bool}{l:List Ky}{y:Ky}(h:bel y.i=true):lastI bel (l++[y])=y.i:=by
 unfold lastI;rw[U7,S8,M1 h,List.filter_nil,List.getLast?_concat]
theorem kJ{bel:Int→Bool}{l:List Ky}{y:Ky}(h:bel y.i=false):lastI bel (l++[y])=lastI bel l:=by
 unfold lastI;rw[U7,S8,L5 (by simp[h]),List.filter_nil,O2]
theorem kL{bel:Int→Bool}{l:List Ky}{y:Ky}(h:bel y.i=true):headI bel (y::l)=y.i:=by
 unfold headI;rw[S8,M1 h];rfl
theorem kM{bel:Int→Bool}{l:List Ky}{y:Ky}(h:bel y.i=false):headI bel (y::l)=headI bel l:=by
 unfold headI;rw[S8,L5 (by simp[h])]
variable (G:Nat→Option (List AVal))
section
variable {l:List Ky} {H:Heap} {n v:Nat}
theorem kN(hl:l.length≤1048576)(bel:Int→Bool)(sp:AVal)(item op num:Int)(s:Bs)(ks:List AVal)(hn:n+2≤H.length)
  (hC:∀j,Sat (CT G) 27 [qA op num s ks] (vo (H++j) n v l) (fun r h'=>r=.int .i64 0∧h'=vo (H++j) n v l))
  (hE:∀j id,Sat (CT G) 30 [sp,qA op num s ks,.int .i64 id] (vo (H++j) n v l) (fun r h'=>r=.bool (bel id)∧h'=vo (H++j) n v l)):
  Sat (CT G) 11 [.hp n 0 0 0,sp,qA op num s ks,.int .i64 item] (vo H n v l)
   (fun r h'=>r=.tup [.int .i64 (arF bel l item).1,.int .i64 (arF bel l item).2]∧h'=vo H n v l):=by
 have ct:∀N (a b:Int),Clo N (.tup [.int .i64 a,.int .i64 b]):=fun N a b=>.tup _ (fun x hx=>by
  simp only[N2,P7,or_false]at hx;rcases hx with rfl|rfl<;>exact .int _ _)
 have dt:∀i:Decidable True, @decide True i=true:=fun i=>by simp
 have df:∀i:Decidable False, @decide False i=false:=fun i=>by simp
 have hn1:∀j:Heap,n+2≤(H++j).length:=fun j=>by simp;omega
 have hA:=l6 G (v:=v) (l:=l) hl item (hn1 [.row 25 4 0 [qA op num s ks]]);have hCh:=hC [.row 25 4 0 [qA op num s ks]];unfold ixK at hA;unfold arF;cases hx:l.findIdx? (fun k=>decide (k.i=item))with
 |none=>
  rw[hx]at hA;have F:=dt;refine sb [.tmp 8,.tmp 9] Tryz.func11 ?_;intro Q hQ;refine wk F ?_;refine kq F (hA) ?_;refine ee hQ F ?_;exact bC hn (ct _ _ _) ⟨rfl,rfl⟩
 |some i=>
  rw[hx]at hA;obtain⟨hi,_⟩:=T5.1 hx;have xw1:IntKind.i64.wrap ((i:Int)-1)=(i:Int)-1:=by rw[U2];omega
  have xw2:IntKind.i64.wrap ((i:Int)+1)=((i+1:Nat):Int):=by rw[U2];omega
  have g0:decide ((i:Int)<0)=false:=by simp
  have F:=F7 xw1 xw2 g0 hn1 hn dt df;by_cases hlt:i+1<l.length
  ·have hsl:=kF (P:=Tryz.prog) (T:=63) (k:=.i64) (len:=l.length) (i:=i+1) (by simp only[go_sem];try rfl) (bX (l:=l) (v:=v) (hn1 [.row 25 4 0 [qA op num s ks]])) (by simp only[go_sem];try rfl) (.inl hlt);have F:=F3 F hlt hsl;refine sb [.tmp 8,.tmp 9] Tryz.func11 ?_;intro Q hQ;refine wk F ?_;refine kq F (hA) ?_;refine kq F (hCh) ?_;refine wk F ?_;refine lm (fun nL tL hL=>∃(m:Nat),m=nL∧vo (H++[.row 25 4 0 [qA op num s ks]]) n v l=hL∧tL 11=.int .i64 ((m:Int)-1)∧tL 8=.int .i64 0∧m≤i∧lastI bel (l.take i)=lastI bel (l.take m)) ((fun(m:Nat)=>(m:Nat)) (i)) ?_ ?_
   ·refine M0 ⟨i,rfl,aw,?_,?_,M2 i,rfl⟩;all_goals try exact zZz F
   rintro _ s2 h' ⟨m,rfl,rfl,e11,e8,hm,hz⟩ K2 hK2;simp only[ai,ak,Nat.reduceEqDiff, ↓reduceIte]at e11 e8;have F:=F3 F e11 e8;refine wk F ?_;refine cq F (fun c1=>?_) (fun c1=>?_)<;>(try exact c1.elim)<;>(refine wk F ?_)
   ·have c2:m-1<l.length:=(by omega);have em:(m:Int)-1=((m-1:Nat):Int):=(by omega);have em2:IntKind.i64.wrap (((m-1:Nat):Int)-1)=((m-1:Nat):Int)-1:=(by rw[U2];omega);obtain⟨y1,hy1,hym1⟩:=ac c2;have et:l.take m=l.take (m-1)++[y1]:=by
     have h:=O3 (l:=l) (i:=m-1);rw[show m-1+1=m from by omega,hy1]at h;exact h
    rw[et]at hz;have hE2:=hE [.row 25 4 0 [qA op num s ks]] y1.i;cases hb0:bel y1.i with
    |true=>
     rw[hb0]at hE2;rw[lX hb0]at hz;have F:=F5 F em em2 hy1 c2;(try refine sq F ?_);refine wk F ?_;refine au (hE2) ?_;(try refine sq F ?_);refine wk F ?_;refine lm (fun nL tL hL=>∃(k:Nat) (j:Heap),l.length-(i+1)-k=nL∧vo (H++(.row 25 4 0 [qA op num s ks]::j)) n v l=hL∧tL 57=.int .i64 k∧tL 8=.int .i64 y1.i∧k≤l.length-(i+1)∧headI bel (l.drop (i+1))=headI bel (l.drop (i+1+k))) ((fun(k:Nat) (j:Heap)=>(l.length-(i+1)-k:Nat)) (0) ([])) ?_ ?_
     ·refine M0 ⟨0,[],rfl,aw,?_,?_,by omega,rfl⟩;all_goals try exact zZz F
     rintro _ s3 h' ⟨k,j,rfl,rfl,e57,e8,hk,hz2⟩ K3 hK3;simp only[ai,ak,Nat.reduceEqDiff, ↓reduceIte]at e57 e8;have F:=F3 F e57 e8;refine wk F ?_;refine cq F (fun d1=>?_) (fun d1=>?_)<;>(try exact d1.elim)<;>(refine wk F ?_)
     ·have d2:i+1+k<l.length:=(by omega);obtain⟨y,hy,hym⟩:=ac d2;have d3:k<l.length-(i+1):=(by omega);have hyi:l[i+(1+k)]? =some y:=(by rw[← hy];congr 1;omega);have hE3:=hE (.row 25 4 0 [qA op num s ks]::j++[.row 78 3 0 [y.av]]) y.i;rw[Ky.av_eq]at hE3;rw[aF hy]at hz2;cases hb:bel y.i with
      |true=>
       rw[hb]at hE3;rw[kL hb]at hz2;have F:=F5 F hy hyi d3 @ax;(try refine sq F ?_);refine wk F ?_;refine kq F (hE3) ?_;refine dw (by decide+kernel) (lg G) ?_;refine sq F ?_;refine wk F ?_;refine ee hQ F ?_;exact bC hn (ct _ _ _) ⟨by rw[show lastI bel (l.take i)=y1.i from hz,hz2],rfl⟩
      |false=>
       rw[hb]at hE3;rw[kM hb]at hz2;have F:=F5 F hy hyi d3 @ax;(try refine sq F ?_);refine wk F ?_;refine kq F (hE3) ?_;refine hK3 _ _ _ (M0 ⟨k+1,j++[.row 78 3 0 [y.av]],rfl,by simp[Ky.av],?_,?_,by omega,hz2⟩) (by omega);all_goals try exact zZz F
     ·rw[R3 (show l.length≤i+1+k by omega)]at hz2;refine ee hQ F ?_;exact bC hn (ct _ _ _) ⟨by rw[show lastI bel (l.take i)=y1.i from hz,hz2];rfl,rfl⟩
    |false=>
     rw[hb0]at hE2;rw[kJ hb0]at hz;have F:=F5 F em em2 hy1 c2;(try refine sq F ?_);refine wk F ?_;refine au (hE2) ?_;(try refine sq F ?_);refine wk F ?_;refine hK2 _ _ _ (M0 ⟨m-1,rfl,aw,?_,?_,by omega,hz⟩) (by omega);all_goals try exact zZz F
   ·have hz0:lastI bel (l.take i)=0:=by
     rw[hz,show m=0 from by omega];rfl
    refine lm (fun nL tL hL=>∃(k:Nat) (j:Heap),l.length-(i+1)-k=nL∧vo (H++(.row 25 4 0 [qA op num s ks]::j)) n v l=hL∧tL 57=.int .i64 k∧tL 8=.int .i64 0∧k≤l.length-(i+1)∧headI bel (l.drop (i+1))=headI bel (l.drop (i+1+k))) ((fun(k:Nat) (j:Heap)=>(l.length-(i+1)-k:Nat)) (0) ([])) ?_ ?_
    ·refine M0 ⟨0,[],rfl,aw,?_,?_,by omega,rfl⟩;all_goals try exact zZz F
    rintro _ s3 h' ⟨k,j,rfl,rfl,e57,e8,hk,hz2⟩ K3 hK3;simp only[ai,ak,Nat.reduceEqDiff, ↓reduceIte]at e57 e8;have F:=F3 F e57 e8;refine wk F ?_;refine cq F (fun d1=>?_) (fun d1=>?_)<;>(try exact d1.elim)<;>(refine wk F ?_)
    ·have d2:i+1+k<l.length:=(by omega);obtain⟨y,hy,hym⟩:=ac d2;have d3:k<l.length-(i+1):=(by omega);have hyi:l[i+(1+k)]? =some y:=(by rw[← hy];congr 1;omega);have hE3:=hE (.row 25 4 0 [qA op num s ks]::j++[.row 78 3 0 [y.av]]) y.i;rw[Ky.av_eq]at hE3;rw[aF hy]at hz2;cases hb:bel y.i with
     |true=>
      rw[hb]at hE3;rw[kL hb]at hz2;have F:=F5 F hy hyi d3 @ax;(try refine sq F ?_);refine wk F ?_;refine kq F (hE3) ?_;refine dw (by decide+kernel) (lg G) ?_;refine sq F ?_;refine wk F ?_;refine ee hQ F ?_;exact bC hn (ct _ _ _) ⟨by rw[show lastI bel (l.take i)=0 from hz0,hz2],rfl⟩
     |false=>
      rw[hb]at hE3;rw[kM hb]at hz2;have F:=F5 F hy hyi d3 @ax;(try refine sq F ?_);refine wk F ?_;refine kq F (hE3) ?_;refine hK3 _ _ _ (M0 ⟨k+1,j++[.row 78 3 0 [y.av]],rfl,by simp[Ky.av],?_,?_,by omega,hz2⟩) (by omega);all_goals try exact zZz F
    ·rw[R3 (show l.length≤i+1+k by omega)]at hz2;refine ee hQ F ?_;exact bC hn (ct _ _ _) ⟨by rw[show lastI bel (l.take i)=0 from hz0,hz2];rfl,rfl⟩
  ·have hle:i+1=l.length:=(by omega);have hsl:=gx (P:=Tryz.prog) (T:=63) (k:=.i64) (len:=l.length) (i:=i+1) (by simp only[go_sem];try rfl) (bX (l:=l) (v:=v) (hn1 [.row 25 4 0 [qA op num s ks]])) (by simp only[go_sem];try rfl) hle (by omega);have F:=F2 F hsl;refine sb [.tmp 8,.tmp 9] Tryz.func11 ?_;intro Q hQ;refine wk F ?_;refine kq F (hA) ?_;refine kq F (hCh) ?_;refine wk F ?_;refine lm (fun nL tL hL=>∃(m:Nat),m=nL∧vo (H++[.row 25 4 0 [qA op num s ks]]) n v l=hL∧tL 11=.int .i64 ((m:Int)-1)∧tL 8=.int .i64 0∧m≤i∧lastI bel (l.take i)=lastI bel (l.take m)) ((fun(m:Nat)=>(m:Nat)) (i)) ?_ ?_
   ·refine M0 ⟨i,rfl,aw,?_,?_,M2 i,rfl⟩;all_goals try exact zZz F
   rintro _ s2 h' ⟨m,rfl,rfl,e11,e8,hm,hz⟩ K2 hK2;simp only[ai,ak,Nat.reduceEqDiff, ↓reduceIte]at e11 e8;have F:=F3 F e11 e8;refine wk F ?_;refine cq F (fun c1=>?_) (fun c1=>?_)<;>(try exact c1.elim)<;>(refine wk F ?_)
   ·have c2:m-1<l.length:=(by omega);have em:(m:Int)-1=((m-1:Nat):Int):=(by omega);have em2:IntKind.i64.wrap (((m-1:Nat):Int)-1)=((m-1:Nat):Int)-1:=(by rw[U2];omega);obtain⟨y1,hy1,hym1⟩:=ac c2;have et:l.take m=l.take (m-1)++[y1]:=by
     have h:=O3 (l:=l) (i:=m-1);rw[show m-1+1=m from by omega,hy1]at h;exact h
    rw[et]at hz;have hE2:=hE [.row 25 4 0 [qA op num s ks]] y1.i;cases hb0:bel y1.i with
    |true=>
     rw[hb0]at hE2;rw[lX hb0]at hz;have F:=F5 F em em2 hy1 c2;(try refine sq F ?_);refine wk F ?_;refine au (hE2) ?_;(try refine sq F ?_);refine wk F ?_;refine lm (fun nL tL hL=>∃(k:Nat),0-k=nL∧vo (H++[.row 25 4 0 [qA op num s ks]]) n v l=hL∧tL 57=.int .i64 k∧tL 8=.int .i64 y1.i∧k≤0) ((fun(k:Nat)=>(0-k:Nat)) (0)) ?_ ?_
     ·refine M0 ⟨0,rfl,aw,?_,?_,M2 0⟩;all_goals try exact zZz F
     rintro _ s3 h' ⟨k,rfl,rfl,e57,e8,hk⟩ K3 hK3;simp only[ai,ak,Nat.reduceEqDiff, ↓reduceIte]at e57 e8;have F:=F3 F e57 e8;refine wk F ?_;refine cq F (fun d1=>?_) (fun d1=>?_)<;>(try exact d1.elim)<;>(refine wk F ?_)
     ·exact absurd d1 (by omega)
     ·have hz2:headI bel (l.drop (i+1))=headI bel []:=(by rw[R3 (by omega)]);refine ee hQ F ?_;exact bC hn (ct _ _ _) ⟨by rw[show lastI bel (l.take i)=y1.i from hz,hz2];rfl,rfl⟩
    |false=>
     rw[hb0]at hE2;rw[kJ hb0]at hz;have F:=F5 F em em2 hy1 c2;(try refine sq F ?_);refine wk F ?_;refine au (hE2) ?_;(try refine sq F ?_);refine wk F ?_;refine hK2 _ _ _ (M0 ⟨m-1,rfl,aw,?_,?_,by omega,hz⟩) (by omega);all_goals try exact zZz F
   ·have hz0:lastI bel (l.take i)=0:=by
     rw[hz,show m=0 from by omega];rfl
    refine lm (fun nL tL hL=>∃(k:Nat),0-k=nL∧vo (H++[.row 25 4 0 [qA op num s ks]]) n v l=hL∧tL 57=.int .i64 k∧tL 8=.int .i64 0∧k≤0) ((fun(k:Nat)=>(0-k:Nat)) (0)) ?_ ?_
    ·refine M0 ⟨0,rfl,aw,?_,?_,M2 0⟩;all_goals try exact zZz F
    rintro _ s3 h' ⟨k,rfl,rfl,e57,e8,hk⟩ K3 hK3;simp only[ai,ak,Nat.reduceEqDiff, ↓reduceIte]at e57 e8;have F:=F3 F e57 e8;refine wk F ?_;refine cq F (fun d1=>?_) (fun d1=>?_)<;>(try exact d1.elim)<;>(refine wk F ?_)
    ·exact absurd d1 (by omega)
    ·have hz2:headI bel (l.drop (i+1))=headI bel []:=(by rw[R3 (by omega)]);refine ee hQ F ?_;exact bC hn (ct _ _ _) ⟨by rw[show lastI bel (l.take i)=0 from hz0,hz2];rfl,rfl⟩
end
end
section
theorem nO{s:PS}(hI:s.Inv){l:List Ky}(hk:VK l s){q:Qy}(hq:q.ok=true):itmK s (fun t=>q.bel s t)=l.filter fun k=>s.eval q k.i:=by
 rw[← uA hI hk hq];unfold pgL;rw[iB hk.1];congr 1
 exact R8.2 fun x _=>rfl
theorem yk{s:PS}(hI:s.Inv){l:List Ky}(hk:VK l s){q:Qy}(hq:q.ok=true)(c:Cu):(itmK s fun t=>q.bel s t).filter (bhd c)=pgL l (s.eval q) c:=by
 rw[nO hI hk hq];unfold pgL;rw[iB hk.1,Y8,Y8];congr 1
 funext x
 exact Bool.and_comm _ _
def lasI(l:List Ky):Int:=match l.getLast? with
 |some k=>k.i
 |none=>0
def hedI(l:List Ky):Int:=match l.head? with
 |some k=>k.i
 |none=>0
theorem wW(l:List Ky)(y:Ky):lasI (l++[y])=y.i:=by unfold lasI;rw[List.getLast?_concat]
theorem wX{l:List Ky}(h:∀x∈l,x.i≠0)(y:Ky):hedI (l++[y])=if hedI l=0 then y.i else hedI l:=by
 cases l with
 |nil=>rfl
 |cons x l=>exact(L5 (h x (by simp))).symm
theorem Sk.cut{l:List Ky}(hs:Sk l){i:Nat}{x:Ky}(hi:l[i]? =some x):(l.filter fun k=>ahd k x)=l.take i∧(l.filter fun k=>ahd x k)=l.drop (i+1):=by
 obtain⟨hlt,hx⟩:=f9.1 hi;have e:l=l.take i++x::l.drop (i+1):=by
  rw[← hx,List.getElem_cons_drop,X7]
 rw[e]at hs;obtain⟨_,h2,h3⟩:=List.pairwise_append.1 hs;obtain⟨h4,_⟩:=U1.1 h2;have a1:∀k∈l.take i,ahd k x=true:=fun k hk=>h3 k hk x (by simp)
 have a2:∀k∈l.drop (i+1),ahd x k=true:=fun k hk=>h4 k hk
 generalize l.take i=A at*;generalize l.drop (i+1)=B at*;subst e;rw[U7,U7,S8,S8,pd,R8.2 a1,zb1.2 fun k hk=>by rw[fU (a2 k hk)];simp,zb1.2 fun k hk=>by rw[fU (a1 k hk)];simp,R8.2 a2];simp
theorem zU{bel:Int→Bool}{l:List Ky}{item:Int}(h:∀k∈l,k.i≠item):arF bel l item=(0,0):=by
 unfold arF;have:l.findIdx? (fun k=>decide (k.i=item))=none:=W8.2 fun k hk=>by simpa using h k hk
 rw[this]
theorem zV{s:PS}(hI:s.Inv){l:List Ky}(hk:VK l s){q:Qy}(hq:q.ok=true){item:Int}{t:It}(ht:lkM s.it item=some t):
  arF (s.eval q) l item=(lasI ((itmK s fun t=>q.bel s t).filter fun k=>ahd k t.ky),hedI ((itmK s fun t=>q.bel s t).filter fun k=>ahd t.ky k)):=by
 have hm:t.ky∈l:=(hk.2 _).2 ⟨item,t,ht,rfl⟩;have hti:t.ky.i=item:=(hI.i3 item t ht).1;unfold arF;cases hx:l.findIdx? (fun k=>decide (k.i=item))with
 |none=>exact absurd (W8.1 hx _ hm) (by simp[hti])
 |some i=>
  obtain⟨hi,hxi,_⟩:=T5.1 hx;have hky:l[i]? =some t.ky:=by
   rw[L9 hi];obtain⟨id',t',h1,h2⟩:=(hk.2 _).1 (List.getElem_mem hi);have h3:=(hI.i3 id' t' h1).1;have h4:l[i].i=item:=(by simpa using hxi);rw[h2]at h4 ⊢;have:id'=item:=by rw[← h3];exact h4
   subst this;rw[ht]at h1;cases h1;rfl
  obtain⟨e1,e2⟩:=hk.1.cut hky;rw[nO hI hk hq,Y8,Y8];have c1:(l.filter fun a=>ahd a t.ky&&s.eval q a.i)=(l.take i).filter fun k=>s.eval q k.i:=by
   rw[← e1,Y8];congr 1;funext x;exact Bool.and_comm _ _
  have c2:(l.filter fun a=>ahd t.ky a&&s.eval q a.i)=(l.drop (i+1)).filter fun k=>s.eval q k.i:=by
   rw[← e2,Y8];congr 1;funext x;exact Bool.and_comm _ _
  rw[c1,c2];rfl
end
section
attribute [local irreducible] WP WPl WPix Sat
abbrev qN(op:Int):AVal:=.agg [.int .i64 op,.int .i64 0,.str [],.nil (.slice none 0 0)]
theorem mt(op:Int):Wk (qN op) (qA op 0 [] []):=Wk.agg rfl (fun y hy=>by
 simp only[N2,P7,or_false]at hy;rcases hy with rfl|rfl|rfl|rfl<;>rfl) fun i x y hx hy=>by
 match i with
 |0=>simp at hx hy;subst hx;subst hy;exact zb5 _
 |1=>simp at hx hy;subst hx;subst hy;exact zb5 _
 |2=>simp at hx hy;subst hx;subst hy;exact zb5 _
 |3=>simp at hx hy;subst hx;subst hy;exact Wk.nils 4
 |i+4=>simp at hx
abbrev pgZ:AVal:=.agg [.nil (.slice none 0 0),.int .i64 0,.int .i64 0,.bool false,.bool false]
theorem iS(N:Nat)(e:Int):Clo N (.tup [pgZ,.int .i64 e]):=.tup _ fun x hx=>by
 simp only[N2,P7,or_false]at hx;rcases hx with rfl|rfl
 ·exact .agg _ fun x hx=>by
   simp only[N2,P7,or_false]at hx;rcases hx with rfl|rfl|rfl|rfl|rfl<;>first|exact .nil _|exact .int _ _|exact .bool _
 ·exact .int _ _
variable (G:Nat→Option (List AVal))
section
variable {Y:Heap} {n m v:Nat} {s:PS} {l:List Ky}
theorem uB(hI:s.Inv)(hk:VK l s)(c:Cu)(N:Nat)(hN:1≤N∧N≤100)(hn:n+9≤m)(hm:m+2≤Y.length):Sat (CT G) 10 [.hp m 0 0 0,.hp (n+8) 0 0 0,qN 1,c.av,.int .i64 N] (sv Y n s m v l)
  (fun r h'=>r=.tup [pgA c ((l.drop (fromK l c)).filter fun k=>(lkM s.it k.i).isSome) N,.int .i64 0]∧h'=sv Y n s m v l):=by
 have hl:=hk.len hI;have e:∀j,vo (so Y n s++j) m v l=sv (Y++j) n s m v l:=fun j=>by rw[aQ (by omega), ← bL hn (by simp;omega)]
 have h0:=nN G (H:=so Y n s) (n:=m) (v:=v) hk.1 (by omega) (fun id=>(lkM s.it id).isSome) c (n+8) (by rw[aM (by omega)];omega) 1 0 [] [] N hN (by rw[aM (by omega)];exact hm)
  (fun j=>by rw[e];exact ur hn (by simp;omega)) (fun j=>by rw[e];exact eA G _) (fun j id=>by rw[e];exact uu G hI id hn (by simp;omega))
 rw[← bL hn hm]at h0;refine Sat.wk (ys:=[.hp m 0 0 0,.hp (n+8) 0 0 0,qA 1 0 [] [],c.av,.int .i64 N]) rfl (fun i x y hx hy=>?_) h0
 match i with
 |2=>simp at hx hy;subst hx;subst hy;exact mt 1
 |0=>simp at hx hy;subst hx;subst hy;exact zb5 _
 |1=>simp at hx hy;subst hx;subst hy;exact zb5 _
 |3=>simp at hx hy;subst hx;subst hy;exact zb5 _
 |4=>simp at hx hy;subst hx;subst hy;exact zb5 _
 |i+5=>simp at hx
theorem wY(hI:s.Inv)(hk:VK l s)(item:Int)(hn:n+9≤m)(hm:m+2≤Y.length):Sat (CT G) 11 [.hp m 0 0 0,.hp (n+8) 0 0 0,qN 1,.int .i64 item] (sv Y n s m v l)
  (fun r h'=>r=.tup [.int .i64 (arF (fun id=>(lkM s.it id).isSome) l item).1,.int .i64 (arF (fun id=>(lkM s.it id).isSome) l item).2]∧h'=sv Y n s m v l):=by
 have hl:=hk.len hI;have e:∀j,vo (so Y n s++j) m v l=sv (Y++j) n s m v l:=fun j=>by rw[aQ (by omega), ← bL hn (by simp;omega)]
 have h0:=kN G (H:=so Y n s) (n:=m) (v:=v) (l:=l) (by omega) (fun id=>(lkM s.it id).isSome) (.hp (n+8) 0 0 0) item 1 0 [] [] (by rw[aM (by omega)];exact hm)
  (fun j=>by rw[e];exact eA G _) (fun j id=>by rw[e];exact uu G hI id hn (by simp;omega))
 rw[← bL hn hm]at h0;refine Sat.wk (ys:=[.hp m 0 0 0,.hp (n+8) 0 0 0,qA 1 0 [] [],.int .i64 item]) rfl (fun i x y hx hy=>?_) h0
 match i with
 |2=>simp at hx hy;subst hx;subst hy;exact mt 1
 |0=>simp at hx hy;subst hx;subst hy;exact zb5 _
 |1=>simp at hx hy;subst hx;subst hy;exact zb5 _
 |3=>simp at hx hy;subst hx;subst hy;exact zb5 _
 |i+4=>simp at hx
theorem ym(c:Cu)(hn:n+9≤m)(hm:m+2≤Y.length):Sat (CT G) 10 [.hp m 0 0 0,.hp (n+8) 0 0 0,qN 1,c.av,.int .i64 0] (sv Y n s m v l)
  (fun r h'=>r=.tup [pgZ,.int .i64 1]∧h'=sv Y n s m v l):=by
 refine Sat.wk (ys:=[.hp m 0 0 0,.hp (n+8) 0 0 0,qA 1 0 [] [],c.av,.int .i64 0]) rfl (fun i x y hx hy=>?_) ?_
 ·match i with
  |2=>simp at hx hy;subst hx;subst hy;exact mt 1
  |0=>simp at hx hy;subst hx;subst hy;exact zb5 _
  |1=>simp at hx hy;subst hx;subst hy;exact zb5 _
  |3=>simp at hx hy;subst hx;subst hy;exact zb5 _
  |4=>simp at hx hy;subst hx;subst hy;exact zb5 _
  |i+5=>simp at hx
 have df:∀i:Decidable False, @decide False i=false:=fun i=>by simp
 have dt:∀i:Decidable True, @decide True i=true:=fun i=>by simp
 have F:=F3 df dt @ax;refine sb [.cell 10 44,.tmp 11] Tryz.func10 ?_;intro Q hQ;refine wk F ?_;refine kq F (eA G _) ?_;refine ye hQ F ?_;rw[← iz hn hm];exact L6 (iS _ _) ⟨rfl,rfl⟩
theorem yp(c:Cu)(hn:n+9≤m)(hm:m+2≤Y.length):Sat (CT G) 10 [.hp m 0 0 0,.hp (n+8) 0 0 0,qN 0,c.av,.int .i64 0] (sv Y n s m v l)
  (fun r h'=>r=.tup [pgZ,.int .i64 250]∧h'=sv Y n s m v l):=by
 refine Sat.wk (ys:=[.hp m 0 0 0,.hp (n+8) 0 0 0,qA 0 0 [] [],c.av,.int .i64 0]) rfl (fun i x y hx hy=>?_) ?_
 ·match i with
  |2=>simp at hx hy;subst hx;subst hy;exact mt 0
  |0=>simp at hx hy;subst hx;subst hy;exact zb5 _
  |1=>simp at hx hy;subst hx;subst hy;exact zb5 _
  |3=>simp at hx hy;subst hx;subst hy;exact zb5 _
  |4=>simp at hx hy;subst hx;subst hy;exact zb5 _
  |i+5=>simp at hx
 have df:∀i:Decidable False, @decide False i=false:=fun i=>by simp
 have dt:∀i:Decidable True, @decide True i=true:=fun i=>by simp
 have F:=F3 df dt @ax;refine sb [.cell 10 44,.tmp 11] Tryz.func10 ?_;intro Q hQ;refine wk F ?_;refine kq F (oU G _) ?_;refine ye hQ F ?_;rw[← iz hn hm];exact L6 (iS _ _) ⟨rfl,rfl⟩
end
def lv3:List Ev:=[⟨3,1,0,0,[117],[],[]⟩,⟨7,1,1,5,[97],[],[]⟩,⟨7,2,1,9,[98],[],[]⟩]
def lv3E:Ev:=⟨7,3,1,7,[99],[],[]⟩
def lv3S:PS:=lv3.foldl PS.step1 PS.z
def lv3T:PS:=lv3S.aft lv3E
theorem yq:L0.ck lv3E=true:=mr (by kernel_rfl) rfl
theorem nP:lv3.foldl (PS.step L0) PS.z=lv3S:=by
 show(((PS.z.step L0 _).step L0 _).step L0 _)=_;rw[ln (mr (by kernel_rfl) rfl),ln (mr (by kernel_rfl) rfl),ln (mr (by kernel_rfl) rfl)];rfl
theorem lq:lv3S.ok L0 lv3E=true:=by unfold PS.ok;rw[yq];kernel_rfl
theorem ff:lv3S.Inv:=by rw[← nP];exact PS.Inv.z.fold lv3
theorem lY:lv3S.step L0 lv3E=lv3T:=by unfold PS.step;rw[lq];rfl
theorem jA:lv3T.Inv:=by rw[← lY];exact ff.step lv3E
def lv3L:List Ky:=[⟨9,2,1⟩,⟨7,3,1⟩,⟨5,1,1⟩]
def lv3a:It:=⟨1,1,5,[97],[],[],false,false,[]⟩
def lv3b:It:=⟨2,1,9,[98],[],[],false,false,[]⟩
def lv3c:It:=⟨3,1,7,[99],[],[],false,false,[]⟩
theorem uC:lkM lv3T.it 1=some lv3a:=by kernel_rfl
theorem uD:lkM lv3T.it 2=some lv3b:=by kernel_rfl
theorem uE:lkM lv3T.it 3=some lv3c:=by kernel_rfl
theorem zW:lv3T.it.map (·.1)=[1,2,3]:=by kernel_rfl
theorem zX:VK lv3L lv3T:=by
 refine⟨?_,fun k=>⟨fun hk=>?_,?_⟩⟩
 ·unfold Sk lv3L;simp[ahd]
 ·simp only[lv3L,N2,P7,or_false]at hk;rcases hk with rfl|rfl|rfl
  ·exact⟨2,_,uD,rfl⟩
  ·exact⟨3,_,uE,rfl⟩
  ·exact⟨1,_,uC,rfl⟩
 ·rintro⟨id,t,ht,rfl⟩;have hm:id∈lv3T.it.map (·.1):=wv.2 (by rw[ht];rfl);rw[zW]at hm;simp only[N2,P7,or_false]at hm;rcases hm with rfl|rfl|rfl
  ·rw[uC]at ht;cases ht;simp[lv3L,lv3a,It.ky]
  ·rw[uD]at ht;cases ht;simp[lv3L,lv3b,It.ky]
  ·rw[uE]at ht;cases ht;simp[lv3L,lv3c,It.ky]
theorem zY:pgA ⟨0,0,false⟩ ((lv3L.drop (fromK lv3L ⟨0,0,false⟩)).filter fun k=>(lkM lv3T.it k.i).isSome) 2=.agg [.sl 1 [.int .i64 2,.int .i64 3],.int .i64 7,.int .i64 3,.bool true,.bool true]:=by kernel_rfl
theorem zZ:pgA ⟨7,3,true⟩ ((lv3L.drop (fromK lv3L ⟨7,3,true⟩)).filter fun k=>(lkM lv3T.it k.i).isSome) 2=.agg [.sl 1 [.int .i64 1],.int .i64 5,.int .i64 1,.bool true,.bool false]:=by kernel_rfl
theorem Aa:arF (fun id=>(lkM lv3T.it id).isSome) lv3L 3=(2,1):=by kernel_rfl
theorem Ab:rkI (lv3L.map (·.i)) 1=3:=by kernel_rfl
theorem Ac:rkI (lv3L.map (·.i)) 4=0:=by kernel_rfl
@[go_sem] theorem J5(h:Heap)(d1 i1 d2 i2:Int)(s1 s2:Bool):abin Tryz.prog h .eql 27 (.agg [.int .i64 d1,.int .i64 i1,.bool s1]) (.agg [.int .i64 d2,.int .i64 i2,.bool s2])=some (.bool (d1==d2&&(i1==i2&&s1==s2))):=by
 simp only[abin,go_sem,aeqL,aeq1, ↓reduceIte,R4,P1,AVal.bool.injEq]
theorem eB(a b:List Int)(d1 i1 d2 i2:Int)(s1 m1 s2 m2:Bool)(ha:a.length≤1000000)(hb:b.length≤1000000)(h:Heap):Sat (CT G) 13 [.agg [.sl 1 (a.map iA),.int .i64 d1,.int .i64 i1,.bool s1,.bool m1],.agg [.sl 1 (b.map iA),.int .i64 d2,.int .i64 i2,.bool s2,.bool m2]] h
  (fun r h'=>r=.bool (decide (a=b)&&((d1==d2&&(i1==i2&&s1==s2))&&m1==m2))∧h'=h):=by
 have hS:=lW G a b ha hb;cases hab:decide (a=b)with
 |false=>
  rw[hab]at hS;refine sb [.tmp 4] Tryz.func13 ?_;intro Q hQ;refine wk trivial ?_;refine kq trivial (hS _) ?_;refine ee hQ trivial ?_;exact L6 (.bool _) ⟨rfl,rfl⟩
 |true=>
  rw[hab]at hS;refine sb [.tmp 4] Tryz.func13 ?_;intro Q hQ;refine wk trivial ?_;refine kq trivial (hS _) ?_;cases hcu:(d1==d2&&(i1==i2&&s1==s2))with
  |false=>
   have F:=hcu;(try refine sq F ?_);refine wk F ?_;refine ee hQ F ?_;exact L6 (.bool _) ⟨by simp,rfl⟩
  |true=>
   have F:=hcu;(try refine sq F ?_);refine wk F ?_;refine ee hQ F ?_;exact L6 (.bool _) ⟨by simp,rfl⟩
theorem dL(h:Heap):Sat (CT G) 6 [] h (fun r h'=>r=.bool true∧h'=h):=by
 have hF:=fun h=>lO G lv3 (by decide) h
 rw[nP]at hF;have hz9:(PS.z.bl h.length).length=9:=rfl;have hfh:=hF h;generalize hH:h++PS.z.bl h.length=H0 at hfh;have hl0:H0.length=h.length+9:=by rw[← hH];simp[hz9]
 have hnw:=x9 G ff (H:=H0) (n:=h.length) (by omega);have kc0:=VK.new ff;generalize srtK (lv3S.tell.it.map It.ky)=c0 at hnw kc0;generalize lv3S.tell.it.length=v0 at hnw;generalize hWw:H0++vb H0.length 0 []=W0 at hnw;have hlW:W0.length=H0.length+2:=by rw[← hWw];simp[vb]
 have hpre:∃j,W0=h++j:=⟨PS.z.bl h.length++vb H0.length 0 [],by rw[← hWw, ← hH,P2]⟩
 generalize H0.length=m at*;have hn:h.length+9≤m:=by omega
 have hap:=fun(W:Heap) (hm:m+2≤W.length)=>yf G (Y:=W) (n:=h.length) (m:=m) (v:=v0) (l:=c0) ff lv3E hn hm
 rw[lY,lq]at hap;have hst:=fun(W:Heap) (hm:m+2≤W.length)=>zR G (Y:=W) (n:=h.length) (m:=m) (v:=v0) kc0 ff lv3E lq hn hm
 refine sb [.tmp 0] Tryz.func6 ?_;intro Q hQ;refine wk trivial ?_;refine kq trivial (hfh) ?_;refine kq trivial (hnw) ?_;refine kq trivial (hap _ (by first|omega| (simp;omega))) ?_;refine(hst _ (by first|omega| (simp;omega))).mono ?_;rintro r h' ⟨rfl,u,L,kd,rfl⟩
 change VK L lv3T at kd
 obtain rfl:=kd.uniq zX;have hp1:=fun(W:Heap) (hm:m+2≤W.length)=>uB G (Y:=W) (n:=h.length) (m:=m) (v:=u) jA kd ⟨0,0,false⟩ 2 (by omega) hn hm
 have hp2:=fun(W:Heap) (hm:m+2≤W.length)=>uB G (Y:=W) (n:=h.length) (m:=m) (v:=u) jA kd ⟨7,3,true⟩ 2 (by omega) hn hm
 have har:=fun(W:Heap) (hm:m+2≤W.length)=>wY G (Y:=W) (n:=h.length) (m:=m) (v:=u) jA kd 3 hn hm
 have hal:=fun(W:Heap) (hm:m+2≤W.length)=>Cd G (Y:=W) (n:=h.length) (m:=m) (v:=u) (s:=lv3T) (l:=lv3L) (by decide) hn hm
 have hr1:=fun(W:Heap) (hm:m+2≤W.length)=>uv G (Y:=W) (n:=h.length) (m:=m) (v:=u) (s:=lv3T) (l:=lv3L) (by decide) 1 hn hm
 have hr4:=fun(W:Heap) (hm:m+2≤W.length)=>uv G (Y:=W) (n:=h.length) (m:=m) (v:=u) (s:=lv3T) (l:=lv3L) (by decide) 4 hn hm
 rw[zY]at hp1;rw[zZ]at hp2;rw[Aa]at har;rw[Ab]at hr1;rw[Ac]at hr4;have hs0:=lW G [2,3,1] [2,3,1] (by decide) (by decide);have hs1:=eB G [2,3] [2,3] 7 3 7 3 true true true true (by decide) (by decide);have hs2:=eB G [1] [1] 5 1 5 1 true false true false (by decide) (by decide);rw[O4 (rfl:([2,3,1]:List Int)=[2,3,1])]at hs0;rw[show(decide (([2,3]:List Int)=[2,3])&&(((7:Int)==7&&((3:Int)==3&&true==true))&&true==true))=true from by decide]at hs1;rw[show(decide (([1]:List Int)=[1])&&(((5:Int)==5&&((1:Int)==1&&true==true))&&false==false))=true from by decide]at hs2;have hmm:∀q:Heap,m+2≤(W0++q).length:=fun q=>by simp;omega
 try refine sq trivial ?_
 refine wk trivial ?_;refine kq trivial (hp1 _ (hmm _)) ?_;refine kq trivial (hp2 _ (hmm _)) ?_;refine kq trivial (ym G (Y:=W0++_) (n:=h.length) (m:=m) (v:=u) (s:=lv3T) (l:=lv3L) ⟨0,0,false⟩ hn (hmm _)) ?_;refine kq trivial (yp G (Y:=W0++_) (n:=h.length) (m:=m) (v:=u) (s:=lv3T) (l:=lv3L) ⟨0,0,false⟩ hn (hmm _)) ?_;refine kq trivial (har _ (hmm _)) ?_;refine kq trivial (hal _ (hmm _)) ?_;refine kq trivial (hs0 _) ?_;refine kq trivial (hr1 _ (hmm _)) ?_;refine kq trivial (hr4 _ (hmm _)) ?_;refine kq trivial (hs1 _) ?_;refine kq trivial (hs2 _) ?_;refine ee hQ trivial ?_;obtain⟨j0,hj0⟩:=hpre;exact kE hn (hmm _) ⟨j0++_,by rw[hj0,P2]⟩ (M2 _) ⟨rfl,rfl⟩
end
section
theorem wZ{s:PS}(hI:s.Inv){f:It→Bool}{x:Ky}:x∈itmK s f↔∃id t,lkM s.it id=some t∧f t=true∧x=t.ky:=by
 unfold itmK;rw[gy (kG hI f),N0];constructor
 ·rintro⟨t,ht,rfl⟩;obtain⟨h1,h2⟩:=T7.1 ht;obtain⟨id,hid⟩:=nD hI ((jx hI).mem_iff.1 h1);exact⟨id,t,hid,h2,rfl⟩
 ·rintro⟨id,t,h1,h2,rfl⟩;exact⟨t,T7.2 ⟨bt h1,h2⟩,rfl⟩
end
section
attribute [local irreducible] WP WPl WPix Sat
variable (G:Nat→Option (List AVal))
theorem oV(c:Cu)(t:It)(h:Heap):Sat (CT G) 37 [c.av,t.av] h (fun r h'=>r=.bool (bhd c t.ky)∧h'=h):=by
 have hA:=fun h=>Sat.wk (xs:=[.agg [.int .i64 c.i,.int .i64 0,.int .i64 c.d,.str [],.str [],.str [],.bool false,.bool false,.nil (.slice none 0 0)],t.av]) (ys:=[(It.mk c.i 0 c.d [] [] [] false false []).av,t.av]) rfl (fun k x y hx hy=>by
  match k with
  |0=>simp at hx hy;subst hx;subst hy;exact mX _ _
  |1=>simp at hx hy;subst hx;subst hy;exact zb5 _
  |k+2=>simp at hx) (ew G (It.mk c.i 0 c.d [] [] [] false false []) t h)
 rw[show ahd (It.mk c.i 0 c.d [] [] [] false false []).ky t.ky=ahd ⟨c.d,c.i,0⟩ t.ky from rfl]at hA;unfold bhd;obtain⟨d,i,b⟩:=c;cases b with
 |false=>
  simp only[zc8,Bool.true_or];refine sb [.tmp 4] Tryz.func37 ?_;intro Q hQ;refine wk trivial ?_;refine ee hQ trivial ?_;exact L6 (.bool _) ⟨rfl,rfl⟩
 |true=>
  simp only[Bool.not_true,Bool.false_or];refine sb [.tmp 4] Tryz.func37 ?_;intro Q hQ;refine wk trivial ?_;refine kq trivial (hA _) ?_;refine ee hQ trivial ?_;exact L6 (.bool _) ⟨rfl,rfl⟩
theorem pM{h0 Z:Heap}{v:Nat}{bs:List Ky}{d i:Int}{b mo:Bool}{L:Nat}(hg:getRow Z (h0.length+5) v=some (L,1,bs.map fun k=>iA k.i)):
  Frz Z h0.length (.agg [.hs (h0.length+5) v 0 bs.length true,.int .i64 d,.int .i64 i,.bool b,.bool mo]) (.agg [.sl 1 (bs.map fun k=>iA k.i),.int .i64 d,.int .i64 i,.bool b,.bool mo]):=by
 refine .agg _ _ rfl (fun d hd=>?_) fun i a b ha hb=>?_
 ·simp only[N2,P7,or_false]at hd;rcases hd with rfl|rfl|rfl|rfl|rfl<;>rfl
 ·match i with
  |0=>
   simp only[T8,P1]at ha hb;subst ha;subst hb;refine za1 (by omega) hg (by simp) (fun r hr=>?_) (fun r hr=>?_)
   ·obtain⟨x,_,rfl⟩:=N0.1 hr;exact .int _ _
   ·obtain⟨x,_,rfl⟩:=N0.1 hr;intro c hc;simp[AVal.cells,iA]at hc;subst hc;rfl
  |1=>simp at ha hb;subst ha;subst hb;exact .clo _ (.int _ _)
  |2=>simp at ha hb;subst ha;subst hb;exact .clo _ (.int _ _)
  |3=>simp at ha hb;subst ha;subst hb;exact .clo _ (.bool _)
  |4=>simp at ha hb;subst ha;subst hb;exact .clo _ (.bool _)
  |i+5=>simp at ha
theorem lZ{s:PS}(hI:s.Inv){f:It→Bool}{i:Nat}{y:Ky}(h:(itmK s f)[i]? =some y):∃(t:It) (k:Nat),s.tell.it[k]? =some t∧k<s.tell.it.length∧t.ky=y∧posF (·.id) s.tell.it y.i=(k:Int):=by
 unfold itmK at h;have hm:=N4 h;rw[gy (kG hI f),N0]at hm;obtain⟨t,ht,rfl⟩:=hm;obtain⟨h1,_⟩:=T7.1 ht;obtain⟨id,hid⟩:=nD hI ((jx hI).mem_iff.1 h1);have hti:t.id=id:=(hI.i3 id t hid).1;obtain⟨k,hk1,hk2,_⟩:=bd (key:=fun t:It=>t.id) (l:=s.tell.it) (id:=id) (a:=t) (by rw[hI.fndIt,hid]);exact⟨t,k,hk1,(f9.1 hk1).1,rfl,by rw[← hk2];show posF _ _ t.id=_;rw[hti]⟩
theorem uF(s:PS)(hI:s.Inv)(hT:s.Tt)(q:Qy)(hz:q.sz≤20000)(c:Cu)(N:Nat)(h:Heap):
  Sat (CT G) 15 [s.tell.av,q.av,c.av,.int .i64 N] h (fun r h'=>r=pgA c ((itmK s fun t=>q.bel s t).filter (bhd c)) N∧h'=h):=by
 have hIm:=fun h=>kH G s hI hT q hz h
 have hxl:=hI.up.l3;have hpk:=fun(i:Nat) (y:Ky) (hy:(itmK s fun t=>q.bel s t)[i]? =some y)=>lZ hI hy
 have hPo:=fun id h=>cU G s.tell id (by omega) h
 have hRm:(itmF s fun t=>q.bel s t).map iA=(itmK s fun t=>q.bel s t).map fun k=>iA k.i:=by unfold itmF;rw[V0];rfl
 rw[hRm]at hIm;have hKl:(itmK s fun t=>q.bel s t).length≤100000:=by
  have e:(itmK s fun t=>q.bel s t).length=(s.tell.it.filter fun t=>q.bel s t).length:=by unfold itmK srtK;rw[fp];simp
  have:=X8 (fun t=>q.bel s t) s.tell.it;omega
 generalize (itmK s fun t=>q.bel s t)=R at*;clear hRm hI hT;generalize s.tell=x at*;obtain⟨qo,qn,qs,qk⟩:=q;simp only[Qy.av_eq]at hIm ⊢;have ml:(R.map fun k=>iA k.i).length=R.length:=L8 ..;have mx:(x.it.map It.av).length=x.it.length:=L8 ..;have ia:∀n,iA n=.int .i64 n:=fun _=>rfl
 have hBh:=fun t h=>oV G c t h
 unfold Cu.av at hBh ⊢;unfold St.av at hIm hPo ⊢;have F:=F3 ml mx ia;refine sb [.cell 8 44] Tryz.func15 ?_;intro Q hQ;refine wk F ?_;refine kq F (hIm _) ?_;refine lm (fun nL tL hL=>∃(i v:Nat) (pre:List Ky) (d i0:Int) (b:Bool) (j:Heap),R.length-i=nL∧h++(.row 40 9 0 [.agg [.int .i64 x.clock,.sl 3 (x.fo.map Fo.av),.sl 4 (x.fe.map Fe.av),.sl 9 (x.it.map It.av),.sl 3 (x.se.map Se.av),.int .i64 x.t1,.int .i64 x.t2,.int .i64 x.t3,.int .i64 x.t4]]:: .row 25 4 0 [.agg [.int .i64 qo,.int .i64 qn,.str qs,.sl 4 (qk.map Qy.av)]]:: .row 27 3 0 [.agg [.int .i64 c.d,.int .i64 c.i,.bool c.set]]:: .row 44 5 0 [.agg [.nil (.slice none 0 0),.int .i64 0,.int .i64 0,.bool false,.bool false]]:: .row 44 5 0 [.agg [.hs (h.length+5) v 0 pre.length true,.int .i64 d,.int .i64 i0,.bool b,.bool false]]:: .row 3 1 v (pre.map fun k=>iA k.i)::j)=hL∧tL 11=.int .i64 i∧i≤R.length∧pre.length≤N∧pre.length≤i∧pre=(R.take i).filter (bhd c)∧nxC c pre=⟨d,i0,b⟩) ((fun(i v:Nat) (pre:List Ky) (d i0:Int) (b:Bool) (j:Heap)=>(R.length-i:Nat)) (0) (0) ([]) (c.d) (c.i) (c.set) ([])) ?_ ?_
 ·refine⟨_,_,Weak.virtCell (p:=h.length+4) (v:=0) 3 1 (by omega) (by simp(disch:=first|omega| (simp only[go_sem, ↓reduceIte,seval];first|done|omega)|fail) only[go_sem, ↓reduceIte,seval,F];rfl) 0 rfl,⟨0,0,[],c.d,c.i,c.set,[],rfl,aw,?_,by omega,by simp,by simp,by simp,rfl⟩⟩;all_goals try exact zZz F
 rintro _ s2 h' ⟨i,v,pre,d,i0,b,j,rfl,rfl,e11,hi,hpl,hpi,hpr,hcu⟩ K2 hK2;simp only[ai,ak,Nat.reduceEqDiff, ↓reduceIte]at e11;have F:=F2 F e11;have hml:(pre.map fun k=>iA k.i).length=pre.length:=L8 ..;have F:=F2 F hml;by_cases c1:i<R.length
 ·obtain⟨y,hy,_⟩:=ac c1;obtain⟨t,k,hk,hkl,rfl,hpo⟩:=hpk i y hy;have hP1:=fun h=>hPo t.ky.i h
  rw[hpo]at hP1;have hB1:=hBh t;have hft:=dW (bhd c) hy;have d1:=O4 c1;have ek:t.ky.i=t.id:=rfl;have ed:t.ky.d=t.date:=rfl;cases hb:bhd c t.ky with
  |false=>
   rw[hb]at hft hB1;rw[L5 (by simp),O2]at hft;have F:=F7 F hy d1 hk hkl ek @ax;try refine sq F ?_
   skip
   refine wn F ?_;refine aA 11 [10] [true,true,true,true,true,true,true,true,true,true,false] (.one 10 [true,true,true,false,false,true,true,true,true,true] .fin) (by decide+kernel) (by kernel_rfl) (by decide+kernel) ?_;simp only[aD,aE,aC];(try refine sq F ?_);repeat' ((first|refine ae ?_|refine af ?_|refine ah ?_ ?_)<;>try refine sq F ?_)
   (all_goals try refine wn F ?_);refine au (hP1 _) ?_;(try refine sq F ?_);refine wn F ?_;repeat' ((first|refine ae ?_|refine af ?_|refine ah ?_ ?_)<;>try refine sq F ?_)
   (all_goals try refine wn F ?_);refine⟨au (hP1 _) ?_,?_⟩
   ·first|exact zq F|trivial| (refine sq F ?_;trivial)
   repeat' ((first|refine ae ?_|refine af ?_|refine ah ?_ ?_)<;>try refine sq F ?_)
   all_goals try refine wn F ?_
   skip
   refine kq F (hB1 _) ?_;refine hK2 _ _ _ (M0 ⟨i+1,v,pre,d,i0,b,j++[.row 69 9 0 [t.av]],rfl,rfl,?_,by omega,by omega,by omega,by rw[hft, ← hpr],hcu⟩) (by omega);all_goals try exact zZz F
  |true=>
   rw[hb]at hft hB1;rw[M1 rfl]at hft;by_cases hN:pre.length=N
   ·have dN:((pre.length:Int)==(N:Int))=true:=(by simp[hN]);have F:=F8 F hy d1 hk hkl ek @dN @ax;try refine sq F ?_
    skip
    refine wn F ?_;refine aA 11 [10] [true,true,true,true,true,true,true,true,true,true,false] (.one 10 [true,true,true,false,false,true,true,true,true,true] .fin) (by decide+kernel) (by kernel_rfl) (by decide+kernel) ?_;simp only[aD,aE,aC];(try refine sq F ?_);repeat' ((first|refine ae ?_|refine af ?_|refine ah ?_ ?_)<;>try refine sq F ?_)
    (all_goals try refine wn F ?_);refine au (hP1 _) ?_;(try refine sq F ?_);refine wn F ?_;repeat' ((first|refine ae ?_|refine af ?_|refine ah ?_ ?_)<;>try refine sq F ?_)
    (all_goals try refine wn F ?_);refine⟨au (hP1 _) ?_,?_⟩
    ·first|exact zq F|trivial| (refine sq F ?_;trivial)
    repeat' ((first|refine ae ?_|refine af ?_|refine ah ?_ ?_)<;>try refine sq F ?_)
    all_goals try refine wn F ?_
    skip
    refine kq F (hB1 _) ?_;refine ye hQ F ?_;have hR:R.filter (bhd c)=pre++t.ky::(R.drop (i+1)).filter (bhd c):=by
     conv=>lhs;rw[← X7 (i+1) R]
     rw[U7,hft, ← hpr];simp
    have ht:(R.filter (bhd c)).take N=pre:=(by rw[hR,U3 hN]);have hlen:N<(R.filter (bhd c)).length:=(by rw[hR];simp;omega);refine Fin.frz (pM (bs:=pre) (L:=3) (by rw[aV _ rfl];show(if v=v then _ else _)=_;rw[M1 rfl];rfl)) ⟨?_,rfl⟩;unfold pgA;rw[ht,hcu,O4 hlen]
   ·have dN:((pre.length:Int)==(N:Int))=false:=(by simp;omega);have F:=F8 F hy d1 hk hkl ek @dN @ax;try refine sq F ?_
    skip
    refine wn F ?_;refine aA 11 [10] [true,true,true,true,true,true,true,true,true,true,false] (.one 10 [true,true,true,false,false,true,true,true,true,true] .fin) (by decide+kernel) (by kernel_rfl) (by decide+kernel) ?_;simp only[aD,aE,aC];(try refine sq F ?_);repeat' ((first|refine ae ?_|refine af ?_|refine ah ?_ ?_)<;>try refine sq F ?_)
    (all_goals try refine wn F ?_);refine au (hP1 _) ?_;(try refine sq F ?_);refine wn F ?_;repeat' ((first|refine ae ?_|refine af ?_|refine ah ?_ ?_)<;>try refine sq F ?_)
    (all_goals try refine wn F ?_);refine⟨au (hP1 _) ?_,?_⟩
    ·first|exact zq F|trivial| (refine sq F ?_;trivial)
    repeat' ((first|refine ae ?_|refine af ?_|refine ah ?_ ?_)<;>try refine sq F ?_)
    all_goals try refine wn F ?_
    skip
    refine kq F (hB1 _) ?_;refine aq F ?_;(try refine sq F ?_);refine wk F ?_;refine hK2 _ _ _ (M0 ⟨i+1,v+1,pre++[t.ky],t.date,t.id,true,j++[.row 69 9 0 [t.av]],rfl,by simp[It.ky,iA,It.av],?_,by omega,by simp;omega,by simp;omega,by rw[hft, ← hpr],pL _ _ _⟩) (by omega);all_goals try exact zZz F
 ·have d1:=O0 c1;rw[M4 (by omega)]at hpr;have F:=F3 F d1 @ax;try refine sq F ?_
  refine wk F ?_;refine ye hQ F ?_;have ht:(R.filter (bhd c)).take N=pre:=by rw[← hpr,M4 hpl]
  have hlen:decide (N<(R.filter (bhd c)).length)=false:=by rw[← hpr];simp;omega
  refine Fin.frz (pM (bs:=pre) (L:=3) (by rw[aV _ rfl];show(if v=v then _ else _)=_;rw[M1 rfl];rfl)) ⟨?_,rfl⟩;unfold pgA;rw[ht,hcu,hlen]
def arR(s:PS)(f:It→Bool)(item:Int):Int×Int:=match lkM s.it item with
 |none=>(0,0)
 |some u=>(lasI ((itmK s f).filter fun k=>ahd k u.ky),hedI ((itmK s f).filter fun k=>ahd u.ky k))
theorem kO(N:Nat)(a b:Int):Clo N (.tup [.int .i64 a,.int .i64 b]):=.tup _ (fun x hx=>by
 simp only[N2,P7,or_false]at hx;rcases hx with rfl|rfl<;>exact .int _ _)
theorem oW(s:PS)(hI:s.Inv)(hT:s.Tt)(q:Qy)(hz:q.sz≤20000)(item:Int)(h:Heap):
  Sat (CT G) 14 [s.tell.av,q.av,.int .i64 item] h (fun r h'=>r=.tup [.int .i64 (arR s (fun t=>q.bel s t) item).1,.int .i64 (arR s (fun t=>q.bel s t) item).2]∧h'=h):=by
 have hIm:=fun h=>kH G s hI hT q hz h
 have hxl:=hI.up.l3;have hpk:=fun(i:Nat) (y:Ky) (hy:(itmK s fun t=>q.bel s t)[i]? =some y)=>lZ hI hy
 have hPo:=fun id h=>cU G s.tell id (by omega) h
 have hRm:(itmF s fun t=>q.bel s t).map iA=(itmK s fun t=>q.bel s t).map fun k=>iA k.i:=by unfold itmF;rw[V0];rfl
 rw[hRm]at hIm;have hid:∀y∈itmK s fun t=>q.bel s t,y.i≠0:=fun y hy=>by
  obtain⟨id,t,h1,_,rfl⟩:=(wZ hI).1 hy;have:=hI.i3 id t h1;show t.id≠0;omega
 have hKl:(itmK s fun t=>q.bel s t).length≤100000:=by
  have e:(itmK s fun t=>q.bel s t).length=(s.tell.it.filter fun t=>q.bel s t).length:=by unfold itmK srtK;rw[fp];simp
  have:=X8 (fun t=>q.bel s t) s.tell.it;omega
 unfold arR;cases hlu:lkM s.it item with
 |none=>
  have hP0:=fun h=>hPo item h
  rw[dr (by rw[hI.fndIt,hlu])]at hP0;clear hpk hPo hIm hRm hid hKl;generalize s.tell=x at*;obtain⟨qo,qn,qs,qk⟩:=q;simp only[Qy.av_eq];unfold St.av at hP0 ⊢;have dt:∀i:Decidable True, @decide True i=true:=fun i=>by simp
  have F:=dt;refine sb [.tmp 6,.tmp 7] Tryz.func14 ?_;intro Q hQ;refine wk F ?_;refine kq F (hP0 _) ?_;refine ee hQ F ?_;exact L6 (kO _ _ _) ⟨rfl,rfl⟩
 |some u=>
 have hP0:=fun h=>hPo item h
 obtain⟨k0,hk0,hk1,_⟩:=bd (key:=fun t:It=>t.id) (l:=s.tell.it) (id:=item) (a:=u) (by rw[hI.fndIt,hlu]);rw[hk1]at hP0;have hk0l:k0<s.tell.it.length:=(f9.1 hk0).1;simp only[];generalize (itmK s fun t=>q.bel s t)=R at*;clear hRm hI hT hlu hk1;generalize s.tell=x at*;obtain⟨qo,qn,qs,qk⟩:=q;simp only[Qy.av_eq]at hIm ⊢;have ml:(R.map fun k=>iA k.i).length=R.length:=L8 ..;have mx:(x.it.map It.av).length=x.it.length:=L8 ..;have ia:∀n,iA n=.int .i64 n:=fun _=>rfl
 have g0:decide ((k0:Int)<0)=false:=by simp
 unfold St.av at hIm hPo hP0 ⊢;have F:=F6 ml mx ia g0 hk0 @hk0l;refine sb [.tmp 6,.tmp 7] Tryz.func14 ?_;intro Q hQ;refine wk F ?_;refine kq F (hP0 _) ?_;refine kq F (hIm _) ?_;refine lm (fun nL tL hL=>∃(i:Nat) (a b:Int) (j:Heap),R.length-i=nL∧h++(.row 40 9 0 [.agg [.int .i64 x.clock,.sl 3 (x.fo.map Fo.av),.sl 4 (x.fe.map Fe.av),.sl 9 (x.it.map It.av),.sl 3 (x.se.map Se.av),.int .i64 x.t1,.int .i64 x.t2,.int .i64 x.t3,.int .i64 x.t4]]:: .row 25 4 0 [.agg [.int .i64 qo,.int .i64 qn,.str qs,.sl 4 (qk.map Qy.av)]]::j)=hL∧tL 10=.int .i64 a∧tL 11=.int .i64 b∧tL 12=.int .i64 i∧i≤R.length∧a=lasI ((R.take i).filter fun k=>ahd k u.ky)∧b=hedI ((R.take i).filter fun k=>ahd u.ky k)) ((fun(i:Nat) (a b:Int) (j:Heap)=>(R.length-i:Nat)) (0) (0) (0) ([])) ?_ ?_
 ·refine M0 ⟨0,0,0,[],rfl,aw,?_,?_,?_,by omega,rfl,rfl⟩;all_goals try exact zZz F
 rintro _ s2 h' ⟨i,a,b,j,rfl,rfl,e10,e11,e12,hi,ha,hb⟩ K2 hK2;simp only[ai,ak,Nat.reduceEqDiff, ↓reduceIte]at e10 e11 e12;have F:=F4 F e10 e11 e12;by_cases c1:i<R.length
 ·obtain⟨y,hy,hym⟩:=ac c1;obtain⟨t,k,hk,hkl,rfl,hpo⟩:=hpk i y hy;have hP1:=fun h=>hPo t.ky.i h
  rw[hpo]at hP1;have hA1:=fun h=>ew G t u h
  have hA2:=fun h=>ew G u t h
  have f1:=dW (fun k=>ahd k u.ky) hy;have f2:=dW (fun k=>ahd u.ky k) hy;have d1:=O4 c1;have ek:t.ky.i=t.id:=rfl;have hid2:∀y∈ (R.take i).filter fun k=>ahd u.ky k,y.i≠0:=fun y hy=>hid y (zb7 (T7.1 hy).1)
  cases b1:ahd t.ky u.ky with
  |true=>
   have b2:=fU b1;rw[b1]at hA1;rw[b2]at hA2;simp only[b1,b2,if_true,Q3,if_false,O2]at f1 f2;have F:=F6 F hy d1 hk hkl ek;try refine sq F ?_
   skip
   refine wn F ?_;refine aA 11 [10] [true,true,true,true,true,true,true,true,true,true,false] (.one 10 [true,true,true,false,false,true,true,true,true,true] .fin) (by decide+kernel) (by kernel_rfl) (by decide+kernel) ?_;simp only[aD,aE,aC];(try refine sq F ?_);repeat' ((first|refine ae ?_|refine af ?_|refine ah ?_ ?_)<;>try refine sq F ?_)
   (all_goals try refine wn F ?_);refine au (hP1 _) ?_;(try refine sq F ?_);refine wn F ?_;repeat' ((first|refine ae ?_|refine af ?_|refine ah ?_ ?_)<;>try refine sq F ?_)
   (all_goals try refine wn F ?_);refine⟨au (hP1 _) ?_,?_⟩
   ·first|exact zq F|trivial| (refine sq F ?_;trivial)
   repeat' ((first|refine ae ?_|refine af ?_|refine ah ?_ ?_)<;>try refine sq F ?_)
   all_goals try refine wn F ?_
   skip
   refine wk F ?_;refine au (hA1 _) ?_;(try refine sq F ?_);refine wk F ?_;refine au (hA2 _) ?_;(try refine sq F ?_);refine wk F ?_;refine hK2 _ _ _ (M0 ⟨i+1,t.id,b,j++[.row 69 9 0 [t.av]],rfl,rfl,?_,?_,?_,by omega,by rw[f1,wW];rfl,by rw[f2, ← hb]⟩) (by omega);all_goals try exact zZz F
  |false=>
   rw[b1]at hA1;simp only[b1,Q3,if_false,O2]at f1;cases b2:ahd u.ky t.ky with
   |false=>
    rw[b2]at hA2;simp only[b2,Q3,if_false,O2]at f2;have F:=F6 F hy d1 hk hkl ek;try refine sq F ?_
    skip
    refine wn F ?_;refine aA 11 [10] [true,true,true,true,true,true,true,true,true,true,false] (.one 10 [true,true,true,false,false,true,true,true,true,true] .fin) (by decide+kernel) (by kernel_rfl) (by decide+kernel) ?_;simp only[aD,aE,aC];(try refine sq F ?_);repeat' ((first|refine ae ?_|refine af ?_|refine ah ?_ ?_)<;>try refine sq F ?_)
    (all_goals try refine wn F ?_);refine au (hP1 _) ?_;(try refine sq F ?_);refine wn F ?_;repeat' ((first|refine ae ?_|refine af ?_|refine ah ?_ ?_)<;>try refine sq F ?_)
    (all_goals try refine wn F ?_);refine⟨au (hP1 _) ?_,?_⟩
    ·first|exact zq F|trivial| (refine sq F ?_;trivial)
    repeat' ((first|refine ae ?_|refine af ?_|refine ah ?_ ?_)<;>try refine sq F ?_)
    all_goals try refine wn F ?_
    skip
    refine wk F ?_;refine au (hA1 _) ?_;(try refine sq F ?_);refine wk F ?_;refine au (hA2 _) ?_;(try refine sq F ?_);refine wk F ?_;refine hK2 _ _ _ (M0 ⟨i+1,a,b,j++[.row 69 9 0 [t.av]],rfl,rfl,?_,?_,?_,by omega,by rw[f1, ← ha],by rw[f2, ← hb]⟩) (by omega);all_goals try exact zZz F
   |true=>
    rw[b2]at hA2;simp only[b2,if_true]at f2;have hh:=wX hid2 t.ky;rw[← f2, ← hb]at hh;by_cases bz:b=0
    ·have dz:(b==0)=true:=(by simp[bz]);rw[M1 bz]at hh;have F:=F7 F hy d1 hk hkl ek dz;try refine sq F ?_
     skip
     refine wn F ?_;refine aA 11 [10] [true,true,true,true,true,true,true,true,true,true,false] (.one 10 [true,true,true,false,false,true,true,true,true,true] .fin) (by decide+kernel) (by kernel_rfl) (by decide+kernel) ?_;simp only[aD,aE,aC];(try refine sq F ?_);repeat' ((first|refine ae ?_|refine af ?_|refine ah ?_ ?_)<;>try refine sq F ?_)
     (all_goals try refine wn F ?_);refine au (hP1 _) ?_;(try refine sq F ?_);refine wn F ?_;repeat' ((first|refine ae ?_|refine af ?_|refine ah ?_ ?_)<;>try refine sq F ?_)
     (all_goals try refine wn F ?_);refine⟨au (hP1 _) ?_,?_⟩
     ·first|exact zq F|trivial| (refine sq F ?_;trivial)
     repeat' ((first|refine ae ?_|refine af ?_|refine ah ?_ ?_)<;>try refine sq F ?_)
     all_goals try refine wn F ?_
     skip
     refine wk F ?_;refine au (hA1 _) ?_;(try refine sq F ?_);refine wk F ?_;refine au (hA2 _) ?_;(try refine sq F ?_);refine wk F ?_;refine hK2 _ _ _ (M0 ⟨i+1,a,t.id,j++[.row 69 9 0 [t.av]],rfl,rfl,?_,?_,?_,by omega,by rw[f1, ← ha],hh.symm⟩) (by omega);all_goals try exact zZz F
    ·have dz:(b==0)=false:=(by simp[bz]);rw[L5 bz]at hh;have F:=F7 F hy d1 hk hkl ek dz;try refine sq F ?_
     skip
     refine wn F ?_;refine aA 11 [10] [true,true,true,true,true,true,true,true,true,true,false] (.one 10 [true,true,true,false,false,true,true,true,true,true] .fin) (by decide+kernel) (by kernel_rfl) (by decide+kernel) ?_;simp only[aD,aE,aC];(try refine sq F ?_);repeat' ((first|refine ae ?_|refine af ?_|refine ah ?_ ?_)<;>try refine sq F ?_)
     (all_goals try refine wn F ?_);refine au (hP1 _) ?_;(try refine sq F ?_);refine wn F ?_;repeat' ((first|refine ae ?_|refine af ?_|refine ah ?_ ?_)<;>try refine sq F ?_)
     (all_goals try refine wn F ?_);refine⟨au (hP1 _) ?_,?_⟩
     ·first|exact zq F|trivial| (refine sq F ?_;trivial)
     repeat' ((first|refine ae ?_|refine af ?_|refine ah ?_ ?_)<;>try refine sq F ?_)
     all_goals try refine wn F ?_
     skip
     refine wk F ?_;refine au (hA1 _) ?_;(try refine sq F ?_);refine wk F ?_;refine au (hA2 _) ?_;(try refine sq F ?_);refine wk F ?_;refine hK2 _ _ _ (M0 ⟨i+1,a,b,j++[.row 69 9 0 [t.av]],rfl,rfl,?_,?_,?_,by omega,by rw[f1, ← ha],hh.symm⟩) (by omega);all_goals try exact zZz F
 ·have d1:=O0 c1;rw[M4 (by omega)]at ha hb;have F:=F2 F d1;try refine sq F ?_
  refine wk F ?_;refine ee hQ F ?_;exact L6 (kO _ _ _) ⟨by rw[← ha, ← hb],rfl⟩
section
variable {Y:Heap} {n m v:Nat} {s:PS} {l:List Ky}
theorem uG(hn:n+9≤m)(hm:m+2≤Y.length){p:Nat}(u:Nat)(hp:p<n):getRow (sv Y n s m v l) p u=getRow Y p u:=by
 unfold sv so vo;rw[fQ u (by show n+9≤_;rw[bj hm];omega) (.inl hp),fQ u hm (.inl (by omega))]
theorem pN(hI:s.Inv)(hT:s.Tt)(q:Qy)(hq:q.Fit)(id:Int)(hn:n+9≤m)(hm:m+2≤Y.length):Sat (CT G) 30 [.hp (n+8) 0 0 0,q.av,.int .i64 id] (sv Y n s m v l) (fun r h'=>r=.bool (s.eval q id)∧h'=sv Y n s m v l):=
 ux G s hI hT q hq id (by rw[aW hm];omega)
theorem yt(hI:s.Inv)(hT:s.Tt)(hk:VK l s)(q:Qy)(hq:q.Fit)(hok:q.ok=true)(c:Cu)(N:Nat)(hN:1≤N∧N≤100)(hn:n+9≤m)(hm:m+2≤Y.length):Sat (CT G) 10 [.hp m 0 0 0,.hp (n+8) 0 0 0,q.av,c.av,.int .i64 N] (sv Y n s m v l)
  (fun r h'=>r=.tup [pgA c (pgL l (s.eval q) c) N,.int .i64 0]∧h'=sv Y n s m v l):=by
 have hl:=hk.len hI;have e:∀j,vo (so Y n s++j) m v l=sv (Y++j) n s m v l:=fun j=>by rw[aQ (by omega), ← bL hn (by simp;omega)]
 have hC:∀h,Sat (CT G) 27 [q.av] h (fun r h'=>r=.int .i64 0∧h'=h):=fun h=>by
  have:=cH G q h hq.1 hq.2;rw[hok]at this;exact this
 have hE:=fun(j:Heap) id=>pN G (Y:=Y++j) (v:=v) (l:=l) hI hT q hq id hn (by simp;omega)
 obtain⟨qo,qn,qs,qk⟩:=q;rw[Qy.av_eq]at*;have h0:=nN G (H:=so Y n s) (n:=m) (v:=v) hk.1 (by omega) (s.eval (.mk qo qn qs qk)) c (n+8) (by rw[aM (by omega)];omega) qo qn qs (qk.map Qy.av) N hN (by rw[aM (by omega)];exact hm)
  (fun j=>by rw[e];exact ur hn (by simp;omega)) (fun j=>hC _) (fun j id=>by rw[e];exact hE j id)
 rw[← bL hn hm]at h0;exact h0
end
theorem Ad(c:Cu)(bs:List Ky)(N:Nat):pgA c bs N=.agg [.sl 1 (((bs.take N).map (·.i)).map iA),.int .i64 (nxC c (bs.take N)).d,.int .i64 (nxC c (bs.take N)).i,.bool (nxC c (bs.take N)).set,.bool (decide (N<bs.length))]:=by
 unfold pgA;rw[V0];rfl
end
section
attribute [local irreducible] WP WPl WPix Sat
section
variable {s:PS} {e:Ev}
theorem St.clo(N:Nat)(x:St):Clo N x.av:=.agg _ fun c hc=>by
 simp only[N2,P7,or_false]at hc;rcases hc with rfl|rfl|rfl|rfl|rfl|rfl|rfl|rfl|rfl
 ·exact .int _ _
 ·exact Clo.sl _ _ (c9 (zd3 N) _)
 ·exact Clo.sl _ _ (c9 (zd5 N) _)
 ·exact Clo.sl _ _ (c9 (zd2 N) _)
 ·exact Clo.sl _ _ (c9 (zd4 N) _)
 all_goals exact .int _ _
theorem St.clo2(N:Nat)(x:St)(b:Bool):Clo N (.tup [x.av,.bool b]):=.tup _ fun c hc=>by
 simp only[N2,P7,or_false]at hc;rcases hc with rfl|rfl
 ·exact St.clo _ _
 ·exact .bool _
theorem Ae(s:PS)(a:Int):s.raise 0 a= {s with t1:=topI s.t1 a}:=by
 unfold PS.raise topI;simp only;congr 1
 split<;>split<;>omega
theorem Af(s:PS)(a:Int):s.raise 1 a= {s with t2:=topI s.t2 a}:=by
 unfold PS.raise topI;simp only;congr 1
 split<;>split<;>omega
theorem Ah(s:PS)(a:Int):s.raise 2 a= {s with t3:=topI s.t3 a}:=by
 unfold PS.raise topI;simp only;congr 1
 split<;>split<;>omega
theorem Ai(s:PS)(a:Int):s.raise 3 a= {s with t4:=topI s.t4 a}:=by
 unfold PS.raise topI;simp only;congr 1
 split<;>split<;>omega
theorem Ce(hI:s.Inv)(k:e.kind=1)(hn:lkM s.fo e.a=none):(s.aft e).tell= {s.tell with fo:=s.tell.fo.take (insI (·.id) s.tell.fo e.a)++(⟨e.a,e.b,e.s⟩:Fo)::s.tell.fo.drop (insI (·.id) s.tell.fo e.a),t1:=topI s.tell.t1 e.a}:=by
 have h1:=gK (z:=Fo.z) (key:=(·.id)) hI.w1 (fun k f hk=>(hI.i1 k f hk).1) (a:=(⟨e.a,e.b,e.s⟩:Fo)) hn rfl;unfold PS.aft PS.after;rw[L5 (by omega),L5 (by omega),L5 (by omega),L5 (by omega),L5 (by omega),L5 (by omega),L5 (by omega),L5 (by omega),L5 (by omega),PS.make,M1 k,aS,Ae]
 change St.mk _ _ _ _ _ _ _ _ _=_
 simp only[PS.tell,PS.upFo,PS.upNm];rw[h1]
theorem Cf(hI:s.Inv)(k:e.kind=3)(hn:lkM s.fe e.a=none):(s.aft e).tell= {s.tell with fe:=s.tell.fe.take (insI (·.id) s.tell.fe e.a)++(⟨e.a,e.b,e.s,e.t⟩:Fe)::s.tell.fe.drop (insI (·.id) s.tell.fe e.a),t2:=topI s.tell.t2 e.a}:=by
 have h1:=gK (z:=Fe.z) (key:=(·.id)) hI.w2 (fun k f hk=>(hI.i2 k f hk).1) (a:=(⟨e.a,e.b,e.s,e.t⟩:Fe)) hn rfl;unfold PS.aft PS.after;rw[L5 (by omega),L5 (by omega),L5 (by omega),L5 (by omega),L5 (by omega),L5 (by omega),L5 (by omega),L5 (by omega),L5 (by omega),PS.make,L5 (by omega),M1 k,aS,Af]
 change St.mk _ _ _ _ _ _ _ _ _=_
 simp only[PS.tell,PS.upFe,PS.upPl];rw[h1]
theorem Cg(hI:s.Inv)(k:e.kind=7)(hn:lkM s.it e.a=none):(s.aft e).tell= {s.tell with it:=s.tell.it.take (insI (·.id) s.tell.it e.a)++(⟨e.a,e.b,e.n,e.s,e.t,e.u,false,false,[]⟩:It)::s.tell.it.drop (insI (·.id) s.tell.it e.a),t3:=topI s.tell.t3 e.a}:=by
 have h1:=gK (z:=It.z) (key:=(·.id)) hI.w3 (fun k f hk=>(hI.i3 k f hk).1) (a:=(⟨e.a,e.b,e.n,e.s,e.t,e.u,false,false,[]⟩:It)) hn rfl;unfold PS.aft PS.after;rw[L5 (by omega),L5 (by omega),L5 (by omega),L5 (by omega),L5 (by omega),L5 (by omega),L5 (by omega),L5 (by omega),L5 (by omega),PS.make,L5 (by omega),L5 (by omega),M1 k,Ah]
 change St.mk _ _ _ _ _ _ _ _ _=_
 simp only[PS.tell,PS.upIt,PS.upGu];rw[h1]
theorem Aj(hI:s.Inv)(k:e.kind=11)(hn:lkM s.se e.a=none):(s.aft e).tell= {s.tell with se:=s.tell.se.take (insI (·.id) s.tell.se e.a)++(⟨e.a,e.s,e.t⟩:Se)::s.tell.se.drop (insI (·.id) s.tell.se e.a),t4:=topI s.tell.t4 e.a}:=by
 have h1:=gK (z:=Se.z) (key:=(·.id)) hI.w4 (fun k f hk=>(hI.i4 k f hk).1) (a:=(⟨e.a,e.s,e.t⟩:Se)) hn rfl;unfold PS.aft PS.after;rw[L5 (by omega),L5 (by omega),L5 (by omega),L5 (by omega),L5 (by omega),L5 (by omega),L5 (by omega),L5 (by omega),L5 (by omega),PS.make,L5 (by omega),L5 (by omega),L5 (by omega),M1 k,Ai]
 change St.mk _ _ _ _ _ _ _ _ _=_
 simp only[PS.tell,PS.upSe,PS.upSe];rw[h1]
theorem Ch(hI:s.Inv)(k:e.kind=2){f:Fo}(hf:lkM s.fo e.a=some f){i:Nat}(hi:s.tell.fo[i]? =some f):(s.aft e).tell= {s.tell with fo:=s.tell.fo.take i++s.tell.fo.drop (i+1)}:=by
 have h1:=jz (z:=Fo.z) (key:=(·.id)) hI.w1 (fun k f hk=>(hI.i1 k f hk).1) hi (hI.i1 _ _ hf).1;unfold PS.aft PS.after;rw[M1 k,aS]
 change St.mk _ _ _ _ _ _ _ _ _=_
 simp only[PS.tell,PS.dlFo,PS.dlNm]at h1 ⊢;rw[h1]
theorem Ak(hI:s.Inv)(k:e.kind=12){f:Se}(hf:lkM s.se e.a=some f){i:Nat}(hi:s.tell.se[i]? =some f):(s.aft e).tell= {s.tell with se:=s.tell.se.take i++s.tell.se.drop (i+1)}:=by
 have h1:=jz (z:=Se.z) (key:=(·.id)) hI.w4 (fun k f hk=>(hI.i4 k f hk).1) hi (hI.i4 _ _ hf).1;unfold PS.aft PS.after;rw[L5 (by omega),L5 (by omega),L5 (by omega),L5 (by omega),L5 (by omega),L5 (by omega),L5 (by omega),M1 k]
 change St.mk _ _ _ _ _ _ _ _ _=_
 simp only[PS.tell,PS.dlSe]at h1 ⊢;rw[h1]
theorem Ci(hI:s.Inv)(k:e.kind=4){f:Fe}(hf:lkM s.fe e.a=some f){i:Nat}(hi:s.tell.fe[i]? =some f):(s.aft e).tell= {s.tell with fe:=s.tell.fe.take i++s.tell.fe.drop (i+1),it:=s.tell.it.filter fun t=>decide (t.feed≠e.a)}:=by
 have hid:=(hI.i2 _ _ hf).1;have h1:=jz (z:=Fe.z) (key:=(·.id)) hI.w2 (fun k f hk=>(hI.i2 k f hk).1) hi hid;have h2:=wN (z:=It.z) (key:=(·.id)) hI.w3 (fun k f hk=>(hI.i3 k f hk).1) fun t=>decide (t.feed≠e.a)
 have h3:itF s.it f.id=s.it.filter fun x=>decide (x.2.1.feed≠e.a):=by
  unfold itF;rw[hid];refine V6 fun x _=>?_
  simp
 unfold PS.aft PS.after;rw[L5 (by omega),M1 k,hf,Q8,PS.unfeed,aS]
 change St.mk _ _ _ _ _ _ _ _ _=_
 simp only[PS.tell,PS.dlFe,PS.dlPl,hid]at h1 h2 h3 ⊢;rw[h1,h3,h2]
theorem Cj(hI:s.Inv)(k:e.kind=5){f:Fe}(hf:lkM s.fe e.a=some f){i:Nat}(hi:s.tell.fe[i]? =some f):(s.aft e).tell= {s.tell with fe:=s.tell.fe.set i {f with title:=e.t}}:=by
 have hid:=(hI.i2 _ _ hf).1;have h1:=fa (z:=Fe.z) (key:=(·.id)) hI.w2 (fun k f hk=>(hI.i2 k f hk).1) (a:= {f with title:=e.t}) hi hid hid;unfold PS.aft PS.after;rw[L5 (by omega),L5 (by omega),M1 k,hf,Q8]
 change St.mk _ _ _ _ _ _ _ _ _=_
 simp only[PS.tell,PS.upFe]at h1 ⊢;rw[h1]
theorem Ck(hI:s.Inv)(k:e.kind=6){f:Fe}(hf:lkM s.fe e.a=some f){i:Nat}(hi:s.tell.fe[i]? =some f):(s.aft e).tell= {s.tell with fe:=s.tell.fe.set i {f with inn:=e.b}}:=by
 have hid:=(hI.i2 _ _ hf).1;have h1:=fa (z:=Fe.z) (key:=(·.id)) hI.w2 (fun k f hk=>(hI.i2 k f hk).1) (a:= {f with inn:=e.b}) hi hid hid;unfold PS.aft PS.after;rw[L5 (by omega),L5 (by omega),L5 (by omega),M1 k,hf,Q8,aS,aS]
 change St.mk _ _ _ _ _ _ _ _ _=_
 simp only[PS.tell,PS.upFe]at h1 ⊢;rw[h1]
theorem Cl(hI:s.Inv)(k:e.kind=8){f:It}(hf:lkM s.it e.a=some f){i:Nat}(hi:s.tell.it[i]? =some f):(s.aft e).tell= {s.tell with it:=s.tell.it.set i {f with read:=e.n==1}}:=by
 have hid:=(hI.i3 _ _ hf).1;have h1:=fa (z:=It.z) (key:=(·.id)) hI.w3 (fun k f hk=>(hI.i3 k f hk).1) (a:= {f with read:=e.n==1}) hi hid hid;unfold PS.aft PS.after;rw[L5 (by omega),L5 (by omega),L5 (by omega),L5 (by omega),M1 k,hf,Q8]
 change St.mk _ _ _ _ _ _ _ _ _=_
 simp only[PS.tell,PS.upIt]at h1 ⊢;rw[h1]
theorem Cm(hI:s.Inv)(k:e.kind=9){f:It}(hf:lkM s.it e.a=some f){i:Nat}(hi:s.tell.it[i]? =some f):(s.aft e).tell= {s.tell with it:=s.tell.it.set i {f with star:=e.n==1}}:=by
 have hid:=(hI.i3 _ _ hf).1;have h1:=fa (z:=It.z) (key:=(·.id)) hI.w3 (fun k f hk=>(hI.i3 k f hk).1) (a:= {f with star:=e.n==1}) hi hid hid;unfold PS.aft PS.after;rw[L5 (by omega),L5 (by omega),L5 (by omega),L5 (by omega),L5 (by omega),M1 k,hf,Q8]
 change St.mk _ _ _ _ _ _ _ _ _=_
 simp only[PS.tell,PS.upIt]at h1 ⊢;rw[h1]
theorem Al(hI:s.Inv)(k:e.kind=10){f:It}(hf:lkM s.it e.a=some f){i:Nat}(hi:s.tell.it[i]? =some f):(s.aft e).tell= {s.tell with it:=s.tell.it.set i {f with tags:=tgF f.tags e.s e.n}}:=by
 have hid:=(hI.i3 _ _ hf).1;have h1:=fa (z:=It.z) (key:=(·.id)) hI.w3 (fun k f hk=>(hI.i3 k f hk).1) (a:= {f with tags:=tgF f.tags e.s e.n}) hi hid hid;unfold PS.aft PS.after;rw[L5 (by omega),L5 (by omega),L5 (by omega),L5 (by omega),L5 (by omega),L5 (by omega),M1 k,hf,Q8]
 change St.mk _ _ _ _ _ _ _ _ _=_
 simp only[PS.tell,PS.upIt]at h1 ⊢;rw[h1]
theorem Am(k:e.kind=13):(s.aft e).tell= {s.tell with clock:=e.n}:=by
 unfold PS.aft PS.after;rw[L5 (by omega),L5 (by omega),L5 (by omega),L5 (by omega),L5 (by omega),L5 (by omega),L5 (by omega),L5 (by omega),M1 k];rfl
end
theorem JI:∀(i:Nat) (r s:AVal),[AVal.agg [.int .i64 0,.nil (.slice none 0 0),.nil (.slice none 0 0),.nil (.slice none 0 0),.nil (.slice none 0 0),.int .i64 0,.int .i64 0,.int .i64 0,.int .i64 0]][i]? =some r→[PS.z.tell.av][i]? =some s→WkR r s:=fun i r s hr hs=>by
 match i with
 |0=>
  simp at hr hs;subst hr;subst hs;refine⟨rfl,fun j c d hc hd=>?_⟩
  match j with
  |0|5|6|7|8=>simp[PS.tell,PS.z,St.av,AVal.cells]at hc hd;subst hc;subst hd;exact⟨zb5 _,id⟩
  |1|2|3|4=>
   simp[PS.tell,PS.z,St.av,AVal.cells,valsM,sortI]at hc hd;subst hc;subst hd;exact⟨fun w S μ x hx=>by cases hx;exact .sl0 _ _ _,fun _=>rfl⟩
  |j+9=>simp[AVal.cells]at hc
 |i+1=>simp at hr
variable (G:Nat→Option (List AVal))
theorem Cn(hc:GClo (CT G)){s:PS}(hI:s.Inv)(hN:s.Nam)(e:Ev)(k1:e.kind=1)(hok:s.ok L0 e=true)(h:Heap):Sat (CT G) 26 [s.tell.av,e.av] h (fun r h'=>r=.tup [(s.aft e).tell.av,.bool true]∧h'=h):=by
 have hF:=bb G hc hI hN e;rw[hok]at hF;have hl1:s.tell.fo.length≤100000:=by have:=hI.up.l1;omega
 have hl2:s.tell.fe.length≤100000:=by have:=hI.up.l2;omega
 have hl3:s.tell.it.length≤100000:=by have:=hI.up.l3;omega
 have hl4:s.tell.se.length≤100000:=by have:=aJ (z:=Se.z) s.se;have:=hI.l4;show(valsM Se.z s.se).length≤_;omega
 have hno:lkM s.fo e.a=none:=by
  unfold PS.ok PS.fits at hok;rw[L7]at hok;have:=hok.2;rw[M1 k1]at this;simp only[L7,P0]at this;exact bY this.1.1.1.1
 have hM:=rY G s.tell e k1 hl1;rw[← Ce hI k1 hno]at hM;simp only[zd0,k1]at hF hM;have F:=k1;refine sb [.cell 4 40,.tmp 5] Tryz.func26 ?_;intro Q hQ;refine wk F ?_;refine kq F (hF _) ?_;refine kq F (hM _) ?_;refine ye hQ F ?_;exact L6 (St.clo2 _ _ _) ⟨rfl,rfl⟩
theorem Co(hc:GClo (CT G)){s:PS}(hI:s.Inv)(hN:s.Nam)(e:Ev)(k1:e.kind=3)(hok:s.ok L0 e=true)(h:Heap):Sat (CT G) 26 [s.tell.av,e.av] h (fun r h'=>r=.tup [(s.aft e).tell.av,.bool true]∧h'=h):=by
 have hF:=bb G hc hI hN e;rw[hok]at hF;have hl1:s.tell.fo.length≤100000:=by have:=hI.up.l1;omega
 have hl2:s.tell.fe.length≤100000:=by have:=hI.up.l2;omega
 have hl3:s.tell.it.length≤100000:=by have:=hI.up.l3;omega
 have hl4:s.tell.se.length≤100000:=by have:=aJ (z:=Se.z) s.se;have:=hI.l4;show(valsM Se.z s.se).length≤_;omega
 have hno:lkM s.fe e.a=none:=by
  unfold PS.ok PS.fits at hok;rw[L7]at hok;have:=hok.2;rw[L5 (by omega),L5 (by omega),M1 k1]at this;simp only[L7,P0]at this;exact bY this.1.1.1
 have hM:=rZ G s.tell e k1 hl2;rw[← Cf hI k1 hno]at hM;simp only[zd0,k1]at hF hM;have F:=k1;refine sb [.cell 4 40,.tmp 5] Tryz.func26 ?_;intro Q hQ;refine wk F ?_;refine kq F (hF _) ?_;refine kq F (hM _) ?_;refine ye hQ F ?_;exact L6 (St.clo2 _ _ _) ⟨rfl,rfl⟩
theorem Cp(hc:GClo (CT G)){s:PS}(hI:s.Inv)(hN:s.Nam)(e:Ev)(k1:e.kind=7)(hok:s.ok L0 e=true)(h:Heap):Sat (CT G) 26 [s.tell.av,e.av] h (fun r h'=>r=.tup [(s.aft e).tell.av,.bool true]∧h'=h):=by
 have hF:=bb G hc hI hN e;rw[hok]at hF;have hl1:s.tell.fo.length≤100000:=by have:=hI.up.l1;omega
 have hl2:s.tell.fe.length≤100000:=by have:=hI.up.l2;omega
 have hl3:s.tell.it.length≤100000:=by have:=hI.up.l3;omega
 have hl4:s.tell.se.length≤100000:=by have:=aJ (z:=Se.z) s.se;have:=hI.l4;show(valsM Se.z s.se).length≤_;omega
 have hno:lkM s.it e.a=none:=by
  unfold PS.ok PS.fits at hok;rw[L7]at hok;have:=hok.2;rw[L5 (by omega),L5 (by omega),L5 (by omega),L5 (by omega),L5 (by omega),M1 k1]at this;simp only[L7,P0]at this;exact bY this.1.1.1
 have hM:=s7 G s.tell e k1 hl3;rw[← Cg hI k1 hno]at hM;simp only[zd0,k1]at hF hM;have F:=k1;refine sb [.cell 4 40,.tmp 5] Tryz.func26 ?_;intro Q hQ;refine wk F ?_;refine kq F (hF _) ?_;refine kq F (hM _) ?_;refine ye hQ F ?_;exact L6 (St.clo2 _ _ _) ⟨rfl,rfl⟩
theorem An(hc:GClo (CT G)){s:PS}(hI:s.Inv)(hN:s.Nam)(e:Ev)(k1:e.kind=11)(hok:s.ok L0 e=true)(h:Heap):Sat (CT G) 26 [s.tell.av,e.av] h (fun r h'=>r=.tup [(s.aft e).tell.av,.bool true]∧h'=h):=by
 have hF:=bb G hc hI hN e;rw[hok]at hF;have hl1:s.tell.fo.length≤100000:=by have:=hI.up.l1;omega
 have hl2:s.tell.fe.length≤100000:=by have:=hI.up.l2;omega
 have hl3:s.tell.it.length≤100000:=by have:=hI.up.l3;omega
 have hl4:s.tell.se.length≤100000:=by have:=aJ (z:=Se.z) s.se;have:=hI.l4;show(valsM Se.z s.se).length≤_;omega
 have hno:lkM s.se e.a=none:=by
  unfold PS.ok PS.fits at hok;rw[L7]at hok;have:=hok.2;rw[L5 (by omega),L5 (by omega),L5 (by omega),L5 (by omega),L5 (by omega),L5 (by omega),L5 (by omega),L5 (by omega),M1 k1]at this;simp only[L7,P0]at this;exact bY this.1
 have hM:=oS G s.tell e k1 hl4;rw[← Aj hI k1 hno]at hM;simp only[zd0,k1]at hF hM;have F:=k1;refine sb [.cell 4 40,.tmp 5] Tryz.func26 ?_;intro Q hQ;refine wk F ?_;refine kq F (hF _) ?_;refine kq F (hM _) ?_;refine ye hQ F ?_;exact L6 (St.clo2 _ _ _) ⟨rfl,rfl⟩
theorem Cq(hc:GClo (CT G)){s:PS}(hI:s.Inv)(hN:s.Nam)(e:Ev)(k1:e.kind=2)(hok:s.ok L0 e=true)(h:Heap):Sat (CT G) 26 [s.tell.av,e.av] h (fun r h'=>r=.tup [(s.aft e).tell.av,.bool true]∧h'=h):=by
 have hF:=bb G hc hI hN e;rw[hok]at hF;have hl1:s.tell.fo.length≤100000:=by have:=hI.up.l1;omega
 have hl2:s.tell.fe.length≤100000:=by have:=hI.up.l2;omega
 have hl3:s.tell.it.length≤100000:=by have:=hI.up.l3;omega
 have hl4:s.tell.se.length≤100000:=by have:=aJ (z:=Se.z) s.se;have:=hI.l4;show(valsM Se.z s.se).length≤_;omega
 have hso:(lkM s.fo e.a).isSome=true:=by
  unfold PS.ok PS.fits at hok;rw[L7]at hok;have:=hok.2;rw[L5 (by omega),M1 k1]at this;simp only[L7]at this;exact this.1
 obtain⟨f,hf⟩:=N3.1 hso;obtain⟨i,p1,p2,_⟩:=bd (show fnd (·.id) s.tell.fo e.a=some f by rw[hI.fndFo,hf]);have hil:i<s.tell.fo.length:=(f9.1 p1).1;have hM:=rV G s.tell e k1 i p2 hil hl1;rw[← Ch hI k1 hf p1]at hM;simp only[zd0,k1]at hF hM;have F:=k1;refine sb [.cell 4 40,.tmp 5] Tryz.func26 ?_;intro Q hQ;refine wk F ?_;refine kq F (hF _) ?_;refine kq F (hM _) ?_;refine ye hQ F ?_;exact L6 (St.clo2 _ _ _) ⟨rfl,rfl⟩
theorem Ao(hc:GClo (CT G)){s:PS}(hI:s.Inv)(hN:s.Nam)(e:Ev)(k1:e.kind=12)(hok:s.ok L0 e=true)(h:Heap):Sat (CT G) 26 [s.tell.av,e.av] h (fun r h'=>r=.tup [(s.aft e).tell.av,.bool true]∧h'=h):=by
 have hF:=bb G hc hI hN e;rw[hok]at hF;have hl1:s.tell.fo.length≤100000:=by have:=hI.up.l1;omega
 have hl2:s.tell.fe.length≤100000:=by have:=hI.up.l2;omega
 have hl3:s.tell.it.length≤100000:=by have:=hI.up.l3;omega
 have hl4:s.tell.se.length≤100000:=by have:=aJ (z:=Se.z) s.se;have:=hI.l4;show(valsM Se.z s.se).length≤_;omega
 have hso:(lkM s.se e.a).isSome=true:=by
  unfold PS.ok PS.fits at hok;rw[L7]at hok;have:=hok.2;rw[L5 (by omega),L5 (by omega),L5 (by omega),L5 (by omega),L5 (by omega),L5 (by omega),L5 (by omega),L5 (by omega),L5 (by omega),M1 k1]at this;exact this
 obtain⟨f,hf⟩:=N3.1 hso;obtain⟨i,p1,p2,_⟩:=bd (show fnd (·.id) s.tell.se e.a=some f by rw[hI.fndSe,hf]);have hil:i<s.tell.se.length:=(f9.1 p1).1;have hM:=oR G s.tell e k1 i p2 hil hl4;rw[← Ak hI k1 hf p1]at hM;simp only[zd0,k1]at hF hM;have F:=k1;refine sb [.cell 4 40,.tmp 5] Tryz.func26 ?_;intro Q hQ;refine wk F ?_;refine kq F (hF _) ?_;refine kq F (hM _) ?_;refine ye hQ F ?_;exact L6 (St.clo2 _ _ _) ⟨rfl,rfl⟩
theorem Cr(hc:GClo (CT G)){s:PS}(hI:s.Inv)(hN:s.Nam)(e:Ev)(k1:e.kind=4)(hok:s.ok L0 e=true)(h:Heap):Sat (CT G) 26 [s.tell.av,e.av] h (fun r h'=>r=.tup [(s.aft e).tell.av,.bool true]∧h'=h):=by
 have hF:=bb G hc hI hN e;rw[hok]at hF;have hl1:s.tell.fo.length≤100000:=by have:=hI.up.l1;omega
 have hl2:s.tell.fe.length≤100000:=by have:=hI.up.l2;omega
 have hl3:s.tell.it.length≤100000:=by have:=hI.up.l3;omega
 have hl4:s.tell.se.length≤100000:=by have:=aJ (z:=Se.z) s.se;have:=hI.l4;show(valsM Se.z s.se).length≤_;omega
 have hso:(lkM s.fe e.a).isSome=true:=by
  unfold PS.ok PS.fits at hok;rw[L7]at hok;have:=hok.2;rw[L5 (by omega),L5 (by omega),L5 (by omega),M1 (by omega)]at this;exact this
 obtain⟨f,hf⟩:=N3.1 hso;obtain⟨i,p1,p2,_⟩:=bd (show fnd (·.id) s.tell.fe e.a=some f by rw[hI.fndFe,hf]);have hil:i<s.tell.fe.length:=(f9.1 p1).1;have hM:=rX G s.tell e k1 i p2 hil hl2 hl3;rw[← Ci hI k1 hf p1]at hM;simp only[zd0,k1]at hF hM;have F:=k1;refine sb [.cell 4 40,.tmp 5] Tryz.func26 ?_;intro Q hQ;refine wk F ?_;refine kq F (hF _) ?_;refine kq F (hM _) ?_;refine ye hQ F ?_;exact L6 (St.clo2 _ _ _) ⟨rfl,rfl⟩
theorem Cs(hc:GClo (CT G)){s:PS}(hI:s.Inv)(hN:s.Nam)(e:Ev)(k1:e.kind=5)(hok:s.ok L0 e=true)(h:Heap):Sat (CT G) 26 [s.tell.av,e.av] h (fun r h'=>r=.tup [(s.aft e).tell.av,.bool true]∧h'=h):=by
 have hF:=bb G hc hI hN e;rw[hok]at hF;have hl1:s.tell.fo.length≤100000:=by have:=hI.up.l1;omega
 have hl2:s.tell.fe.length≤100000:=by have:=hI.up.l2;omega
 have hl3:s.tell.it.length≤100000:=by have:=hI.up.l3;omega
 have hl4:s.tell.se.length≤100000:=by have:=aJ (z:=Se.z) s.se;have:=hI.l4;show(valsM Se.z s.se).length≤_;omega
 have hso:(lkM s.fe e.a).isSome=true:=by
  unfold PS.ok PS.fits at hok;rw[L7]at hok;have:=hok.2;rw[L5 (by omega),L5 (by omega),L5 (by omega),M1 (by omega)]at this;exact this
 obtain⟨f,hf⟩:=N3.1 hso;obtain⟨i,p1,p2,_⟩:=bd (show fnd (·.id) s.tell.fe e.a=some f by rw[hI.fndFe,hf]);have hil:i<s.tell.fe.length:=(f9.1 p1).1;have hM:=uH G s.tell e k1 hF i f p1 p2 hl2 h;rw[← Cj hI k1 hf p1]at hM;exact hM
theorem Cv(hc:GClo (CT G)){s:PS}(hI:s.Inv)(hN:s.Nam)(e:Ev)(k1:e.kind=6)(hok:s.ok L0 e=true)(h:Heap):Sat (CT G) 26 [s.tell.av,e.av] h (fun r h'=>r=.tup [(s.aft e).tell.av,.bool true]∧h'=h):=by
 have hF:=bb G hc hI hN e;rw[hok]at hF;have hl1:s.tell.fo.length≤100000:=by have:=hI.up.l1;omega
 have hl2:s.tell.fe.length≤100000:=by have:=hI.up.l2;omega
 have hl3:s.tell.it.length≤100000:=by have:=hI.up.l3;omega
 have hl4:s.tell.se.length≤100000:=by have:=aJ (z:=Se.z) s.se;have:=hI.l4;show(valsM Se.z s.se).length≤_;omega
 have hso:(lkM s.fe e.a).isSome=true:=by
  unfold PS.ok PS.fits at hok;rw[L7]at hok;have:=hok.2;rw[L5 (by omega),L5 (by omega),L5 (by omega),L5 (by omega),M1 k1]at this;simp only[L7]at this;exact this.1
 obtain⟨f,hf⟩:=N3.1 hso;obtain⟨i,p1,p2,_⟩:=bd (show fnd (·.id) s.tell.fe e.a=some f by rw[hI.fndFe,hf]);have hil:i<s.tell.fe.length:=(f9.1 p1).1;have hM:=uI G s.tell e k1 hF i f p1 p2 hl2 h;rw[← Ck hI k1 hf p1]at hM;exact hM
theorem Cw(hc:GClo (CT G)){s:PS}(hI:s.Inv)(hN:s.Nam)(e:Ev)(k1:e.kind=8)(hok:s.ok L0 e=true)(h:Heap):Sat (CT G) 26 [s.tell.av,e.av] h (fun r h'=>r=.tup [(s.aft e).tell.av,.bool true]∧h'=h):=by
 have hF:=bb G hc hI hN e;rw[hok]at hF;have hl1:s.tell.fo.length≤100000:=by have:=hI.up.l1;omega
 have hl2:s.tell.fe.length≤100000:=by have:=hI.up.l2;omega
 have hl3:s.tell.it.length≤100000:=by have:=hI.up.l3;omega
 have hl4:s.tell.se.length≤100000:=by have:=aJ (z:=Se.z) s.se;have:=hI.l4;show(valsM Se.z s.se).length≤_;omega
 have hso:(lkM s.it e.a).isSome=true:=by
  unfold PS.ok PS.fits at hok;rw[L7]at hok;have:=hok.2;rw[L5 (by omega),L5 (by omega),L5 (by omega),L5 (by omega),L5 (by omega),L5 (by omega),M1 (by omega)]at this;exact this
 obtain⟨f,hf⟩:=N3.1 hso;obtain⟨i,p1,p2,_⟩:=bd (show fnd (·.id) s.tell.it e.a=some f by rw[hI.fndIt,hf]);have hil:i<s.tell.it.length:=(f9.1 p1).1;have hM:=uJ G s.tell e k1 hF i f p1 p2 hl3 h;rw[← Cl hI k1 hf p1]at hM;exact hM
theorem Cx(hc:GClo (CT G)){s:PS}(hI:s.Inv)(hN:s.Nam)(e:Ev)(k1:e.kind=9)(hok:s.ok L0 e=true)(h:Heap):Sat (CT G) 26 [s.tell.av,e.av] h (fun r h'=>r=.tup [(s.aft e).tell.av,.bool true]∧h'=h):=by
 have hF:=bb G hc hI hN e;rw[hok]at hF;have hl1:s.tell.fo.length≤100000:=by have:=hI.up.l1;omega
 have hl2:s.tell.fe.length≤100000:=by have:=hI.up.l2;omega
 have hl3:s.tell.it.length≤100000:=by have:=hI.up.l3;omega
 have hl4:s.tell.se.length≤100000:=by have:=aJ (z:=Se.z) s.se;have:=hI.l4;show(valsM Se.z s.se).length≤_;omega
 have hso:(lkM s.it e.a).isSome=true:=by
  unfold PS.ok PS.fits at hok;rw[L7]at hok;have:=hok.2;rw[L5 (by omega),L5 (by omega),L5 (by omega),L5 (by omega),L5 (by omega),L5 (by omega),M1 (by omega)]at this;exact this
 obtain⟨f,hf⟩:=N3.1 hso;obtain⟨i,p1,p2,_⟩:=bd (show fnd (·.id) s.tell.it e.a=some f by rw[hI.fndIt,hf]);have hil:i<s.tell.it.length:=(f9.1 p1).1;have hM:=uK G s.tell e k1 hF i f p1 p2 hl3 h;rw[← Cm hI k1 hf p1]at hM;exact hM
theorem Ap(hc:GClo (CT G)){s:PS}(hI:s.Inv)(hN:s.Nam)(e:Ev)(k1:e.kind=10)(hok:s.ok L0 e=true)(h:Heap):Sat (CT G) 26 [s.tell.av,e.av] h (fun r h'=>r=.tup [(s.aft e).tell.av,.bool true]∧h'=h):=by
 have hF:=bb G hc hI hN e;rw[hok]at hF;have hl1:s.tell.fo.length≤100000:=by have:=hI.up.l1;omega
 have hl2:s.tell.fe.length≤100000:=by have:=hI.up.l2;omega
 have hl3:s.tell.it.length≤100000:=by have:=hI.up.l3;omega
 have hl4:s.tell.se.length≤100000:=by have:=aJ (z:=Se.z) s.se;have:=hI.l4;show(valsM Se.z s.se).length≤_;omega
 have hso:(lkM s.it e.a).isSome=true:=by
  unfold PS.ok PS.fits at hok;rw[L7]at hok;have:=hok.2;rw[L5 (by omega),L5 (by omega),L5 (by omega),L5 (by omega),L5 (by omega),L5 (by omega),L5 (by omega),M1 k1]at this;simp only[L7]at this;exact this.1
 obtain⟨f,hf⟩:=N3.1 hso;obtain⟨i,p1,p2,_⟩:=bd (show fnd (·.id) s.tell.it e.a=some f by rw[hI.fndIt,hf]);have hil:i<s.tell.it.length:=(f9.1 p1).1;have hn01:e.n=0∨e.n=1:=by
  unfold PS.ok PS.fits at hok;rw[L7]at hok;have hq:=hok.1;unfold Leaf.ck at hq;rw[L7]at hq;have hq:=hq.1;unfold Leaf.right at hq;rw[L5 (by omega),L5 (by omega),L5 (by omega),L5 (by omega),L5 (by omega),L5 (by omega),L5 (by omega),M1 k1]at hq;simp only[L7,R6,beq_iff_eq]at hq;exact hq.2.1
 have hM:=si G s.tell e k1 hF i f p1 p2 hl3 (by have:=(hI.tg _ _ hf).2;omega) h;rw[zI (hI.tg _ _ hf).1 e.s hn01, ← Al hI k1 hf p1]at hM;exact hM
theorem Aq(hc:GClo (CT G)){s:PS}(hI:s.Inv)(hN:s.Nam)(e:Ev)(k1:e.kind=13)(hok:s.ok L0 e=true)(h:Heap):Sat (CT G) 26 [s.tell.av,e.av] h (fun r h'=>r=.tup [(s.aft e).tell.av,.bool true]∧h'=h):=by
 have hF:=bb G hc hI hN e;rw[hok]at hF;have hl1:s.tell.fo.length≤100000:=by have:=hI.up.l1;omega
 have hl2:s.tell.fe.length≤100000:=by have:=hI.up.l2;omega
 have hl3:s.tell.it.length≤100000:=by have:=hI.up.l3;omega
 have hl4:s.tell.se.length≤100000:=by have:=aJ (z:=Se.z) s.se;have:=hI.l4;show(valsM Se.z s.se).length≤_;omega
 have ht:=Am (s:=s) k1;simp only[zd0,k1]at hF;have F:=k1;refine sb [.cell 4 40,.tmp 5] Tryz.func26 ?_;intro Q hQ;refine wk F ?_;refine kq F (hF _) ?_;refine ye hQ F ?_;rw[ht];exact L6 (St.clo2 _ {s.tell with clock:=e.n} _) ⟨rfl,rfl⟩
theorem sj(hc:GClo (CT G)){s:PS}(hI:s.Inv)(hN:s.Nam)(e:Ev)(h:Heap):Sat (CT G) 26 [s.tell.av,e.av] h (fun r h'=>r=.tup [(s.step L0 e).tell.av,.bool (s.ok L0 e)]∧h'=h):=by
 cases hok:s.ok L0 e with
 |false=>
  have hst:s.step L0 e=s:=by unfold PS.step;rw[hok];rfl
  have hF:=bb G hc hI hN e;rw[hok]at hF;rw[hst];refine sb [.cell 4 40,.tmp 5] Tryz.func26 ?_;intro Q hQ;refine wk trivial ?_;refine kq trivial (hF _) ?_;refine ye hQ trivial ?_;exact L6 (St.clo2 _ s.tell _) ⟨rfl,rfl⟩
 |true=>
  have hst:s.step L0 e=s.aft e:=by unfold PS.step;rw[hok];rfl
  rw[hst];by_cases k1:e.kind=1
  ·exact Cn G hc hI hN e k1 hok h
  by_cases k2:e.kind=2
  ·exact Cq G hc hI hN e k2 hok h
  by_cases k3:e.kind=3
  ·exact Co G hc hI hN e k3 hok h
  by_cases k4:e.kind=4
  ·exact Cr G hc hI hN e k4 hok h
  by_cases k5:e.kind=5
  ·exact Cs G hc hI hN e k5 hok h
  by_cases k6:e.kind=6
  ·exact Cv G hc hI hN e k6 hok h
  by_cases k7:e.kind=7
  ·exact Cp G hc hI hN e k7 hok h
  by_cases k8:e.kind=8
  ·exact Cw G hc hI hN e k8 hok h
  by_cases k9:e.kind=9
  ·exact Cx G hc hI hN e k9 hok h
  by_cases k10:e.kind=10
  ·exact Ap G hc hI hN e k10 hok h
  by_cases k11:e.kind=11
  ·exact An G hc hI hN e k11 hok h
  by_cases k12:e.kind=12
  ·exact Ao G hc hI hN e k12 hok h
  by_cases k13:e.kind=13
  ·exact Aq G hc hI hN e k13 hok h
  exfalso;unfold PS.ok PS.fits at hok;rw[L7]at hok;have hr:=hok.1;unfold Leaf.ck at hr;rw[L7]at hr;have hr:=hr.1;unfold Leaf.right at hr;rw[L5 k1,L5 (by omega),L5 k3,L5 k5,L5 k6,L5 k7,L5 (by omega),L5 k10,L5 k11,L5 k13]at hr;cases hr
theorem uL(hc:GClo (CT G))(es:List Ev)(hl:es.length≤100000)(h:Heap):Sat (CT G) 9 [.sl 7 (es.map Ev.av)] h (fun r h'=>r=(es.foldl (PS.step L0) PS.z).tell.av∧h'=h):=by
 have hel:(es.map Ev.av).length=es.length:=L8 ..;have F:=hel;refine sb [.cell 2 40] Tryz.func9 ?_;intro Q hQ;refine wk F ?_;refine lm (fun nL tL hL=>∃(k:Nat) (s:PS),es.length-k=nL∧h++[.row 40 9 0 [.agg [.int .i64 0,.nil (.slice none 0 0),.nil (.slice none 0 0),.nil (.slice none 0 0),.nil (.slice none 0 0),.int .i64 0,.int .i64 0,.int .i64 0,.int .i64 0]],.row 40 9 0 [s.tell.av]]=hL∧tL 0=.sl 7 (es.map Ev.av)∧tL 2=.hp h.length 0 0 0∧tL 3=.hp (h.length+1) 0 0 0∧tL 4=.int .i64 k∧k≤es.length∧s=(es.take k).foldl (PS.step L0) PS.z) ((fun(k:Nat) (s:PS)=>(es.length-k:Nat)) (0) (PS.z)) ?_ ?_
 ·refine⟨_,_,Weak.rows (p:=h.length+1) (v:=0) (rows:=[.agg [.int .i64 0,.nil (.slice none 0 0),.nil (.slice none 0 0),.nil (.slice none 0 0),.nil (.slice none 0 0),.int .i64 0,.int .i64 0,.int .i64 0,.int .i64 0]]) [PS.z.tell.av] (by rw[aV _ rfl];rfl) rfl JI,⟨0,PS.z,rfl,by rw[d9 _ rfl];rfl,?_,?_,?_,?_,by omega,rfl⟩⟩;all_goals try exact zZz F
 rintro _ s2 h' ⟨k,s,rfl,rfl,e0,e2,e3,e4,hk,hs⟩ K2 hK2;simp only[ai,ak,Nat.reduceEqDiff, ↓reduceIte]at e0 e2 e3 e4;have F:=F5 F e0 e2 e3 e4;have hI:s.Inv:=by rw[hs];exact PS.Inv.z.fold _
 have hN:s.Nam:=by rw[hs];exact PS.Nam.z.fold .z _
 refine wk F ?_;refine cq F (fun c1=>?_) (fun c1=>?_)<;>(try exact c1.elim)<;>(refine wk F ?_)
 ·have c2:k<es.length:=by omega
  obtain⟨e,he,_⟩:=ac c2;have hA:=sj G hc hI hN e;have hst:s.step L0 e=(es.take (k+1)).foldl (PS.step L0) PS.z:=by rw[O3,zc0,he,hs];rfl
  have F:=F3 F c2 he
  skip
  try refine sq F ?_
  refine wn F ?_;refine aA 10 [9] [true,true,true,true,true,true,true,true,true,false] (.one 9 [] .fin) (by decide+kernel) (by kernel_rfl) (by decide+kernel) ?_;simp only[aD,aE,aC];try refine sq F ?_
  repeat' ((first|refine ae ?_|refine af ?_|refine ah ?_ ?_)<;>try refine sq F ?_)
  all_goals try refine wn F ?_
  refine au (hA _) ?_;try refine sq F ?_
  refine wn F ?_;repeat' ((first|refine ae ?_|refine af ?_|refine ah ?_ ?_)<;>try refine sq F ?_)
  all_goals try refine wn F ?_
  skip
  refine hK2 _ _ _ (M0 ⟨k+1,s.step L0 e,rfl,rfl,?_,?_,?_,?_,by omega,hst⟩) (by omega);all_goals try exact zZz F
 ·rw[M4 (by omega)]at hs;try refine sq F ?_
  refine wk F ?_;refine ye hQ F ?_;rw[← hs];exact L6 (St.clo _ s.tell) ⟨rfl,rfl⟩
end
section
attribute [local irreducible] WP WPl WPix Sat
variable (G:Nat→Option (List AVal))
theorem uM:Wk pgZ (.agg [.sl 1 (([]:List Int).map iA),.int .i64 0,.int .i64 0,.bool false,.bool false]):=by
 refine Wk.agg rfl (fun y hy=>by simp only[N2,P7,or_false]at hy;rcases hy with rfl|rfl|rfl|rfl|rfl<;>rfl) fun j x y hx hy=>?_
 match j with
 |0=>simp at hx hy;subst hx;subst hy;exact Wk.nils _
 |1|2|3|4=>simp at hx hy;subst hx;subst hy;exact zb5 _
 |j+5=>simp at hx
theorem jb(h:Heap):Sat (CT G) 13 [pgZ,pgZ] h (fun r h'=>r=.bool true∧h'=h):=by
 have k:=eB G [] [] 0 0 0 0 false false false false (by simp) (by simp) h;simp only[decide_true,S5,Bool.and_self]at k;refine Sat.wk (ys:=[.agg [.sl 1 (([]:List Int).map iA),.int .i64 0,.int .i64 0,.bool false,.bool false],.agg [.sl 1 (([]:List Int).map iA),.int .i64 0,.int .i64 0,.bool false,.bool false]]) rfl (fun i x y hx hy=>?_) k
 match i with
 |0=>simp at hx hy;subst hx;subst hy;exact uM
 |1=>simp at hx hy;subst hx;subst hy;exact uM
 |i+2=>simp at hx
section
variable {Y:Heap} {n m v:Nat} {s:PS} {l:List Ky}
theorem x3(q:Qy)(hq:q.Fit)(hok:q.ok=false)(c:Cu)(nn:Int)(hn:n+9≤m)(hm:m+2≤Y.length):Sat (CT G) 10 [.hp m 0 0 0,.hp (n+8) 0 0 0,q.av,c.av,.int .i64 nn] (sv Y n s m v l)
  (fun r h'=>r=.tup [pgZ,.int .i64 250]∧h'=sv Y n s m v l):=by
 have hC:∀h,Sat (CT G) 27 [q.av] h (fun r h'=>r=.int .i64 250∧h'=h):=fun h=>by
  have:=cH G q h hq.1 hq.2;rw[hok]at this;exact this
 obtain⟨qo,qn,qs,qk⟩:=q;rw[Qy.av_eq]at*;have df:∀i:Decidable False, @decide False i=false:=fun i=>by simp
 have dt:∀i:Decidable True, @decide True i=true:=fun i=>by simp
 have F:=F3 df dt @ax;refine sb [.cell 10 44,.tmp 11] Tryz.func10 ?_;intro Q hQ;refine wk F ?_;refine kq F (hC _) ?_;refine ye hQ F ?_;rw[← iz hn hm];exact L6 (iS _ _) ⟨rfl,rfl⟩
theorem x4(q:Qy)(hq:q.Fit)(hok:q.ok=true)(c:Cu)(nn:Int)(hN:nn<1∨100<nn)(hn:n+9≤m)(hm:m+2≤Y.length):Sat (CT G) 10 [.hp m 0 0 0,.hp (n+8) 0 0 0,q.av,c.av,.int .i64 nn] (sv Y n s m v l)
  (fun r h'=>r=.tup [pgZ,.int .i64 1]∧h'=sv Y n s m v l):=by
 have hC:∀h,Sat (CT G) 27 [q.av] h (fun r h'=>r=.int .i64 0∧h'=h):=fun h=>by
  have:=cH G q h hq.1 hq.2;rw[hok]at this;exact this
 obtain⟨qo,qn,qs,qk⟩:=q;rw[Qy.av_eq]at*;have hb:decide (nn<1)=true∨(decide (nn<1)=false∧decide (nn>100)=true):=by
  by_cases k:nn<1
  ·exact .inl (by simp[k])
  ·exact .inr ⟨by simp[k],by simp;omega⟩
 have df:∀i:Decidable False, @decide False i=false:=fun i=>by simp
 have dt:∀i:Decidable True, @decide True i=true:=fun i=>by simp
 rcases hb with hb|hb;all_goals (
  have F:=F4 df dt hb @ax;refine sb [.cell 10 44,.tmp 11] Tryz.func10 ?_;intro Q hQ;refine wk F ?_;refine kq F (hC _) ?_;refine ye hQ F ?_;rw[← iz hn hm];exact L6 (iS _ _) ⟨rfl,rfl⟩)
theorem uN(hI:s.Inv)(hT:s.Tt)(hk:VK l s)(q:Qy)(hq:q.Fit)(hok:q.ok=true)(item:Int)(hn:n+9≤m)(hm:m+2≤Y.length):Sat (CT G) 11 [.hp m 0 0 0,.hp (n+8) 0 0 0,q.av,.int .i64 item] (sv Y n s m v l)
  (fun r h'=>r=.tup [.int .i64 (arR s (fun t=>q.bel s t) item).1,.int .i64 (arR s (fun t=>q.bel s t) item).2]∧h'=sv Y n s m v l):=by
 have hl:=hk.len hI;have e:∀j,vo (so Y n s++j) m v l=sv (Y++j) n s m v l:=fun j=>by rw[aQ (by omega), ← bL hn (by simp;omega)]
 have hC:∀h,Sat (CT G) 27 [q.av] h (fun r h'=>r=.int .i64 0∧h'=h):=fun h=>by
  have:=cH G q h hq.1 hq.2;rw[hok]at this;exact this
 have hE:=fun(j:Heap) id=>pN G (Y:=Y++j) (v:=v) (l:=l) hI hT q hq id hn (by simp;omega)
 have hA:arF (s.eval q) l item=arR s (fun t=>q.bel s t) item:=by
  unfold arR;cases hu:lkM s.it item with
  |none=>
   refine zU fun k hk2 e=>?_
   obtain⟨id,t,h1,rfl⟩:=(hk.2 k).1 hk2;have:t.id=id:=(hI.i3 id t h1).1;have e:t.id=item:=e;rw[← e,this,h1]at hu;cases hu
  |some u=>exact zV hI hk hok hu
 rw[← hA];obtain⟨qo,qn,qs,qk⟩:=q;rw[Qy.av_eq]at*;have h0:=kN G (H:=so Y n s) (n:=m) (v:=v) (l:=l) (by omega) (s.eval (.mk qo qn qs qk)) (.hp (n+8) 0 0 0) item qo qn qs (qk.map Qy.av) (by rw[aM (by omega)];exact hm)
  (fun j=>hC _) (fun j id=>by rw[e];exact hE j id)
 rw[← bL hn hm]at h0;exact h0
theorem sk(hl:l.length≤1048576)(q:Qy)(hq:q.Fit)(hok:q.ok=false)(item:Int)(hn:n+9≤m)(hm:m+2≤Y.length):Sat (CT G) 11 [.hp m 0 0 0,.hp (n+8) 0 0 0,q.av,.int .i64 item] (sv Y n s m v l)
  (fun r h'=>r=.tup [.int .i64 0,.int .i64 0]∧h'=sv Y n s m v l):=by
 have hC:∀h,Sat (CT G) 27 [q.av] h (fun r h'=>r=.int .i64 250∧h'=h):=fun h=>by
  have:=cH G q h hq.1 hq.2;rw[hok]at this;exact this
 obtain⟨qo,qn,qs,qk⟩:=q;rw[Qy.av_eq]at*;have dt:∀i:Decidable True, @decide True i=true:=fun i=>by simp
 have df:∀i:Decidable False, @decide False i=false:=fun i=>by simp
 rw[bL hn hm];have hm2:m+2≤(so Y n s).length:=by rw[aM (by omega)];exact hm
 generalize so Y n s=H at*;have hn1:∀j:Heap,m+2≤(H++j).length:=fun j=>by simp;omega
 have hA:=l6 G (v:=v) (l:=l) hl item (hn1 [.row 25 4 0 [.agg [.int .i64 qo,.int .i64 qn,.str qs,.sl 4 (qk.map Qy.av)]]]);unfold ixK at hA;cases hx:l.findIdx? (fun k=>decide (k.i=item))with
 |none=>
  rw[hx]at hA;have F:=dt;refine sb [.tmp 8,.tmp 9] Tryz.func11 ?_;intro Q hQ;refine wk F ?_;refine kq F (hA) ?_;refine ee hQ F ?_;exact bC hm2 (kO _ _ _) ⟨rfl,rfl⟩
 |some i=>
  rw[hx]at hA;have g0:decide ((i:Int)<0)=false:=by simp
  have F:=F5 g0 dt df hn1 hm2;refine sb [.tmp 8,.tmp 9] Tryz.func11 ?_;intro Q hQ;refine wk F ?_;refine kq F (hA) ?_;refine kq F (hC _) ?_;refine ee hQ F ?_;exact bC hm2 (kO _ _ _) ⟨rfl,rfl⟩
end
theorem nQ(hc:GClo (CT G))(es:List Ev)(q:Qy)(hq:q.mx≤9223372036854775807)(c:Cu)(nn item:Int)(h:Heap):Sat (CT G) 3 [.sl 7 (es.map Ev.av),q.av,c.av,.int .i64 nn,.int .i64 item] h (fun r h'=>r=.bool true∧h'=h):=by
 have hLg:=kj G es;have hLa:=fun h=>rF G q h hq
 by_cases hg:lgF es=false∧decide (q.left 0 300≤0)=false
 ·obtain⟨hlg,hla⟩:=hg;have hsm:q.dep 1≤12→q.sz≤6000:=Qy.small (by simpa using hla);have fq:q.Fit:=⟨hq,fun hd=>R1 (hsm hd) (by omega)⟩
  have hCk:=fun h=>oQ G hc q h fq.1 fq.2
  rw[hlg]at hLg;rw[hla]at hLa;have hel:es.length≤150:=by
   unfold lgF at hlg;rw[zb8]at hlg;have:=hlg.1;simp only[decide_eq_false_iff_not]at this;omega
  have hI:(es.foldl (PS.step L0) PS.z).Inv:=PS.Inv.z.fold es;have hT:(es.foldl (PS.step L0) PS.z).Tt:=PS.Tt.fold PS.Tt.z PS.Inv.z;obtain⟨rA,hrA⟩:∃rA,Blk.row 25 4 0 [q.av]=rA:=⟨_,rfl⟩;obtain⟨rC,hrC⟩:∃rC,Blk.row 27 3 0 [.agg [.int .i64 c.d,.int .i64 c.i,.bool c.set]]=rC:=⟨_,rfl⟩;have hfh:=lO G es (by omega) (h++[rA,rC]);have hRF:=fun h=>uL G hc es (by omega) h
  have hnl:(h++[rA,rC]).length=h.length+2:=by simp
  rw[hnl]at hfh;generalize es.foldl (PS.step L0) PS.z=s at hI hT hfh hRF;have hz9:(PS.z.bl (h.length+2)).length=9:=rfl;obtain⟨H0,hH0⟩:∃H0,H0=h++[rA,rC]++PS.z.bl (h.length+2):=⟨_,rfl⟩;rw[← hH0]at hfh;have hl0:H0.length=h.length+11:=by rw[hH0];simp[hz9]
  have hnw:=x9 G hI (H:=H0) (n:=h.length+2) (by omega);have kc:=VK.new hI;generalize srtK (s.tell.it.map It.ky)=l at hnw kc;generalize s.tell.it.length=v at hnw;obtain⟨W0,hW0⟩:∃W0,W0=H0++vb H0.length 0 []:=⟨_,rfl⟩;rw[← hW0]at hnw;have hlW:W0.length=H0.length+2:=by rw[hW0];simp[vb]
  have hpre:∀j,∃j',W0++j=h++j':=fun j=>⟨[rA,rC]++(PS.z.bl (h.length+2)++(vb H0.length 0 []++j)),by rw[hW0,hH0];simp only[P2]⟩
  have rW:∀k v',k<2→getRow W0 (h.length+k) v'=getRow (h++[rA,rC]) (h.length+k) v':=fun k v' hk=>by rw[hW0,aU _ (by omega),hH0,aU _ (by simp;omega)]
  have r0a:getRow (h++[rA,rC]) h.length 0=some (25,4,[q.av]):=by rw[aH _ rfl, ← hrA];rfl
  have r0c:getRow (h++[rA,rC]) (h.length+1) 0=some (27,3,[.agg [.int .i64 c.d,.int .i64 c.i,.bool c.set]]):=by rw[aV _ rfl, ← hrC];rfl
  have wa:=(rW 0 0 (by omega)).trans r0a;have wc:=(rW 1 0 (by omega)).trans r0c;have hlen0:W0.length=h.length+13:=by omega
  generalize H0.length=m at*;have hn:h.length+2+9≤m:=by omega
  have hm:∀j:Heap,m+2≤(W0++j).length:=fun j=>by simp;omega
  have hm0:=hm [];rw[O2]at hm0;have hra:∀j,getRow (sv (W0++j) (h.length+2) s m v l) h.length 0=some (25,4,[q.av]):=fun j=>by
   rw[uG hn (hm j) 0 (by omega),aU _ (by omega)];exact wa
  have hrc:∀j,getRow (sv (W0++j) (h.length+2) s m v l) (h.length+1) 0=some (27,3,[.agg [.int .i64 c.d,.int .i64 c.i,.bool c.set]]):=fun j=>by
   rw[uG hn (hm j) 0 (by omega),aU _ (by omega)];exact wc
  have hra0:=hra [];rw[O2]at hra0;have g2:∀j,getRow (sv (W0++(Blk.row 40 9 0 [s.tell.av]::j)) (h.length+2) s m v l) W0.length 0=some (40,9,[s.tell.av]):=fun j=>by
   rw[zP hn (hm _) 0 hm0,aH _ rfl];rfl
  have hkl:=kc.len hI;cases hok:q.ok with
  |false=>
   rw[hok]at hCk;have hp:=fun(Y:Heap) (hm:m+2≤Y.length)=>x3 G (Y:=Y) (s:=s) (v:=v) (l:=l) q fq hok c nn hn hm
   have ha:=fun(Y:Heap) (hm:m+2≤Y.length)=>sk G (Y:=Y) (s:=s) (v:=v) (l:=l) (by omega) q fq hok item hn hm
   clear fq hsm hla hq hok;generalize s.tell=x at*;obtain⟨qo,qn,qs,qk⟩:=q;simp only[Qy.av_eq]at hCk hp ha hLa hrA r0a wa hra hra0 ⊢;unfold St.av at g2 hRF;unfold Cu.av at hp ⊢;have dt:∀i:Decidable True, @decide True i=true:=fun i=>O4 trivial
   have F:=F2 (F9 @hrA @hrC @r0a @r0c hra hra0 hrc g2 hn) (F4 hm hm0 dt @ax);refine sb [.tmp 10] Tryz.func3 ?_;intro Q hQ;refine wk F ?_;refine kq F (hLg _) ?_;refine kq F (hLa _) ?_;refine kq F (hfh) ?_;refine kq F (hnw) ?_;refine kq F (hRF _) ?_;refine kq F (dL G _) ?_;refine kq F (hp _ (hm _)) ?_;refine kq F (ha _ (hm _)) ?_;refine kq F (hCk _) ?_;refine kq F (jb G _) ?_;refine ee hQ F ?_;exact kE hn (hm _) (hpre _) (by omega) ⟨rfl,rfl⟩
  |true=>
   rw[hok]at hCk;have hz:q.sz≤20000:=by
    have hdp:q.dep 1≤12:=by
     unfold Qy.ok at hok;rw[L7,M7]at hok;exact hok.1
    have:=hsm hdp;omega
   have ha:=fun(Y:Heap) (hm:m+2≤Y.length)=>uN G (Y:=Y) (v:=v) hI hT kc q fq hok item hn hm
   have hRa:=fun h=>oW G s hI hT q hz item h
   by_cases hN:1≤nn∧nn≤100
   ·obtain⟨N,rfl,hN⟩:∃N:Nat,nn=N∧1≤N∧N≤100:=⟨nn.toNat,by omega,by omega,by omega⟩;have n1:decide ((N:Int)<1)=false:=(by simp;omega);have n2:decide ((N:Int)>100)=false:=(by simp;omega);have hp:=fun(Y:Heap) (hm:m+2≤Y.length)=>yt G (Y:=Y) (v:=v) hI hT kc q fq hok c N (by omega) hn hm
    have hRp:=fun h=>uF G s hI hT q hz c N h
    simp only[yk hI kc hok]at hRp;simp only[Ad]at hp hRp;have hAl:(((pgL l (s.eval q) c).take N).map (·.i)).length≤1000000:=(by rw[L8,N9];omega);generalize (((pgL l (s.eval q) c).take N).map (·.i))=A at*;generalize nxC c ((pgL l (s.eval q) c).take N)=c1 at*;generalize decide (N<(pgL l (s.eval q) c).length)=mo at*;have hSm:=fun h=>eB G A A c1.d c1.i c1.d c1.i c1.set mo c1.set mo hAl hAl h
    simp only[decide_true,S5,Bool.and_self]at hSm;clear hAl hN;clear fq hsm hla hq hok hz;generalize (arR s (fun t=>q.bel s t) item).1=a1 at*;generalize (arR s (fun t=>q.bel s t) item).2=a2 at*;generalize s.tell=x at*;obtain⟨qo,qn,qs,qk⟩:=q;simp only[Qy.av_eq]at hCk hp ha hRp hRa hLa hrA r0a wa hra hra0 ⊢;unfold St.av at g2 hRF hRp hRa;unfold Cu.av at hp hRp ⊢;have F:=F2 (F9 @hrA @hrC @r0a @r0c hra hra0 hrc g2 hn) (F7 hm hm0 n1 n2 (F3 (@bne_self_eq_false Int _ _) (@bne_self_eq_false Bool _ _) (@bne_self_eq_false Bs _ _)) (F3 (@S5 Int _ _) (@S5 Bool _ _) (@S5 Bs _ _)) @ax);refine sb [.tmp 10] Tryz.func3 ?_;intro Q hQ;refine wk F ?_;refine kq F (hLg _) ?_;refine kq F (hLa _) ?_;refine kq F (hfh) ?_;refine kq F (hnw) ?_;refine kq F (hRF _) ?_;refine kq F (dL G _) ?_;refine kq F (hp _ (hm _)) ?_;refine kq F (ha _ (hm _)) ?_;refine kq F (hCk _) ?_;refine kq F (hRa _) ?_;refine au (hRp _) ?_;(try refine sq F ?_);refine wk F ?_;refine au (hSm _) ?_;(try refine sq F ?_);refine wk F ?_;refine ee hQ F ?_;exact kE hn (hm _) (hpre _) (by omega) ⟨rfl,rfl⟩
   ·have hb:decide (nn<1)=true∨(decide (nn<1)=false∧decide (nn>100)=true):=by
     by_cases k:nn<1
     ·exact .inl (by simp[k])
     ·exact .inr ⟨by simp[k],by simp;omega⟩
    have hp:=fun(Y:Heap) (hm:m+2≤Y.length)=>x4 G (Y:=Y) (s:=s) (v:=v) (l:=l) q fq hok c nn (by omega) hn hm
    clear hN;clear fq hsm hla hq hok hz;generalize (arR s (fun t=>q.bel s t) item).1=a1 at*;generalize (arR s (fun t=>q.bel s t) item).2=a2 at*;generalize s.tell=x at*;obtain⟨qo,qn,qs,qk⟩:=q;simp only[Qy.av_eq]at hCk hp ha hRa hLa hrA r0a wa hra hra0 ⊢;unfold St.av at g2 hRF hRa;unfold Cu.av at hp ⊢;rcases hb with hb|hb;all_goals (
     have F:=F2 (F9 @hrA @hrC @r0a @r0c hra hra0 hrc g2 hn) (F6 hm hm0 hb (F3 (@bne_self_eq_false Int _ _) (@bne_self_eq_false Bool _ _) (@bne_self_eq_false Bs _ _)) (F3 (@S5 Int _ _) (@S5 Bool _ _) (@S5 Bs _ _)) @ax);refine sb [.tmp 10] Tryz.func3 ?_;intro Q hQ;refine wk F ?_;refine kq F (hLg _) ?_;refine kq F (hLa _) ?_;refine kq F (hfh) ?_;refine kq F (hnw) ?_;refine kq F (hRF _) ?_;refine kq F (dL G _) ?_;refine kq F (hp _ (hm _)) ?_;refine kq F (ha _ (hm _)) ?_;refine kq F (hCk _) ?_;refine kq F (hRa _) ?_;refine kq F (jb G _) ?_;refine ee hQ F ?_;exact kE hn (hm _) (hpre _) (by omega) ⟨rfl,rfl⟩)
 ·have hb3:lgF es=true∨(lgF es=false∧decide (q.left 0 300≤0)=true):=by
   revert hg;cases lgF es<;>cases decide (q.left 0 300≤0)<;>simp
  clear hg hq;generalize lgF es=b1 at*;generalize decide (q.left 0 300≤0)=b2 at*;obtain⟨qo,qn,qs,qk⟩:=q;simp only[Qy.av_eq]at hLa ⊢;rcases hb3 with rfl| ⟨rfl,rfl⟩;all_goals (
   refine sb [.tmp 10] Tryz.func3 ?_;intro Q hQ;refine wk trivial ?_;repeat (first
    |refine kq trivial (hLg _) ?_
    |refine kq trivial (hLa _) ?_
    |refine kq trivial (dL G _) ?_)
   refine ee hQ trivial ?_;exact L6 (.bool _) ⟨rfl,rfl⟩)
end
end Go.Av
