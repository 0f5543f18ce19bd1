/- Parts. -/
import Derived.Test.YtnolelibaahimaaGreatDoorQEc
import Derived.Test.YtnolelibaahimaaGreatDoorQNd
import Derived.Test.YtnolelibaahimaaGreatDoorQSc
import Derived.Test.YtnolelibaahimaaGreatDoorQKa
set_option linter.unusedSimpArgs false
set_option linter.unusedVariables false
set_option linter.unusedSectionVars false
set_option linter.unnecessarySimpa false
set_option maxRecDepth 100000
set_option maxHeartbeats 16000000
namespace Go.Av
open Go Go.Proofs Go.RowKit
section
attribute [local irreducible] WP WPl WPix Sat
variable (G:Nat→Option (List AVal))
theorem um(N:Nat)(a b c d e f k:Int):Clo N (.tup [.agg [.int .i64 a,.int .i64 b,.int .i64 c,.int .i64 d,.int .i64 e,.int .i64 f],.int .i64 k]):=.tup _ fun x hx=>by
 simp only[K4,P8,or_false]at hx;rcases hx with rfl|rfl
 ·exact bO fun c hc=>by simp at hc;rcases hc with rfl|rfl|rfl|rfl|rfl|rfl<;>simp
 ·exact .int _ _
def momF(n:Int):Bool:=decide (-62135596800≤n)&&decide (n≤253402300799)
theorem iI(n a b:Int)(h:Heap):Sat (CT G) 225 [.int .i64 n,.int .i64 a,.int .i64 b] h (fun r h'=>r=.bool (decide (a≤n)&&decide (n≤b))∧h'=h):=by
 by_cases k:a≤n
 ·have k2:decide (n≥a)=true:=by simpa using k
  have F:=k2;refine sb [.tmp 6] Tryz.func225 ?_;intro Q hQ;refine wk F ?_;refine ee hQ F ?_;exact M8 (.bool _) ⟨by simp[k],rfl⟩
 ·have k2:decide (n≥a)=false:=by simpa using k
  have F:=k2;refine sb [.tmp 6] Tryz.func225 ?_;intro Q hQ;refine wk F ?_;refine ee hQ F ?_;exact M8 (.bool _) ⟨by simp[k],rfl⟩
theorem wq(n:Int)(h:Heap):Sat (CT G) 187 [.int .i64 n] h (fun r h'=>(∃a b c d e f:Int,r=.tup [.agg [.int .i64 a,.int .i64 b,.int .i64 c,.int .i64 d,.int .i64 e,.int .i64 f],.int .i64 (if momF n then 0 else 40)])∧h'=h):=by
 cases hm:momF n with
 |false=>
  unfold momF at hm;have hW:=iI G n (-62135596800) 253402300799;rw[hm]at hW;refine sb [.cell 2 231,.tmp 3] Tryz.func187 ?_;intro Q hQ;refine wk trivial ?_;refine kq trivial (hW _) ?_;refine ye hQ trivial ?_;exact I3 (um ..) ⟨⟨_,_,_,_,_,_,rfl⟩,rfl⟩
 |true=>
  have hm2:=hm;unfold momF at hm2;have hW:=iI G n (-62135596800) 253402300799;rw[hm2]at hW;simp only[I1,I4]at hm2;obtain⟨m1,m2⟩:=hm2;refine sb [.cell 2 231,.tmp 3] Tryz.func187 ?_;intro Q hQ;refine wk trivial ?_;refine kq trivial (hW _) ?_;refine cq trivial (fun c1=>?_) (fun c1=>?_)<;>(try exact c1.elim)<;>(refine wk trivial ?_)
  ·refine ye hQ trivial ?_;exact I3 (um ..) ⟨⟨_,_,_,_,_,_,rfl⟩,rfl⟩
  ·refine ye hQ trivial ?_;exact I3 (um ..) ⟨⟨_,_,_,_,_,_,rfl⟩,rfl⟩
theorem nS(n:Int)(h:Heap):Sat (CT G) 157 [.int .i64 n] h (fun r h'=>r=.bool (momF n)∧h'=h):=by
 refine sb [.tmp 2] Tryz.func157 ?_;intro Q hQ;refine wk trivial ?_;refine(wq G n _).mono ?_;rintro r h' ⟨⟨_,_,_,_,_,_,rfl⟩,rfl⟩;cases hm:momF n
 ·have F:=hm;try refine sq F ?_
  refine wk F ?_;refine ee hQ F ?_;exact I3 (.bool _) ⟨rfl,rfl⟩
 ·have F:=hm;try refine sq F ?_
  refine wk F ?_;refine ee hQ F ?_;exact I3 (.bool _) ⟨rfl,rfl⟩
end
section
attribute [local irreducible] WP WPl WPix Sat
def textF(ri:Bs→Bool)(cl:Bs→Bs)(t:Bs)(n:Int):Bool:=decide ((t.length:Int)≤n)&&(ri t&&cl t==t)
variable (G:Nat→Option (List AVal))
theorem eE(ri:Bs→Bool)(cl:Bs→Bs)(hR:∀t,t.length≤1000→∀h,Sat (CT G) 184 [.str t] h (fun r h'=>r=.bool (ri t)∧h'=h))(hC:∀t,t.length≤1000→∀h,Sat (CT G) 111 [.str t] h (fun r h'=>r=.str (cl t)∧h'=h))(t:Bs)(n:Int)(hn:n≤1000)(h:Heap):Sat (CT G) 186 [.str t,.int .i64 n] h (fun r h'=>r=.bool (textF ri cl t n)∧h'=h):=by
 cases hl:decide ((t.length:Int)≤n)with
 |false=>
  have F:=hl;refine sb [.tmp 4] Tryz.func186 ?_;intro Q hQ;refine wk F ?_;refine ee hQ F ?_;exact M8 (.bool _) ⟨by simp[textF,hl],rfl⟩
 |true=>
  have hlt:t.length≤1000:=by have:=Q8 hl;omega
  cases hr:ri t with
  |false=>
   have hR1:=hR t hlt;rw[hr]at hR1;have F:=hl;refine sb [.tmp 4] Tryz.func186 ?_;intro Q hQ;refine wk F ?_;refine kq F (hR1 _) ?_;refine ee hQ F ?_;exact M8 (.bool _) ⟨by simp[textF,hl,hr],rfl⟩
  |true=>
   have hR1:=hR t hlt;rw[hr]at hR1;have F:=hl;refine sb [.tmp 4] Tryz.func186 ?_;intro Q hQ;refine wk F ?_;refine kq F (hR1 _) ?_;refine kq F (hC t hlt _) ?_;refine ee hQ F ?_;exact M8 (.bool _) ⟨by simp[textF,hl,hr],rfl⟩
theorem iJ(ri:Bs→Bool)(cl:Bs→Bs)(hR:∀t,t.length≤1000→∀h,Sat (CT G) 184 [.str t] h (fun r h'=>r=.bool (ri t)∧h'=h))(hC:∀t,t.length≤1000→∀h,Sat (CT G) 111 [.str t] h (fun r h'=>r=.str (cl t)∧h'=h))(t:Bs)(h:Heap):Sat (CT G) 154 [.str t] h (fun r h'=>r=.bool (!(t==[])&&textF ri cl t 64)∧h'=h):=by
 cases k1:(t==[])with
 |true=>
  have k2:(t != [])=false:=by simpa using k1
  have F:=F2 k1 k2;refine sb [.tmp 2] Tryz.func154 ?_;intro Q hQ;refine wk F ?_;refine ee hQ F ?_;exact M8 (.bool _) ⟨by simp,rfl⟩
 |false=>
  have k2:(t != [])=true:=by simpa using k1
  have F:=F2 k1 k2;refine sb [.tmp 2] Tryz.func154 ?_;intro Q hQ;refine wk F ?_;refine kq F (eE G ri cl hR hC t 64 (by omega) _) ?_;refine ee hQ F ?_;exact M8 (.bool _) ⟨by simp,rfl⟩
theorem nV(ri:Bs→Bool)(cl:Bs→Bs)(hR:∀t,t.length≤1000→∀h,Sat (CT G) 184 [.str t] h (fun r h'=>r=.bool (ri t)∧h'=h))(hC:∀t,t.length≤1000→∀h,Sat (CT G) 111 [.str t] h (fun r h'=>r=.str (cl t)∧h'=h))(t:Bs)(h:Heap):Sat (CT G) 156 [.str t] h (fun r h'=>r=.bool (textF ri cl t 256)∧h'=h):=by
 refine sb [.tmp 2] Tryz.func156 ?_;intro Q hQ;refine wk trivial ?_;refine kq trivial (eE G ri cl hR hC t 256 (by omega) _) ?_;refine ee hQ trivial ?_;exact M8 (.bool _) ⟨rfl,rfl⟩
theorem jH(ri:Bs→Bool)(cl:Bs→Bs)(hR:∀t,t.length≤1000→∀h,Sat (CT G) 184 [.str t] h (fun r h'=>r=.bool (ri t)∧h'=h))(hC:∀t,t.length≤1000→∀h,Sat (CT G) 111 [.str t] h (fun r h'=>r=.str (cl t)∧h'=h))(t:Bs)(h:Heap):Sat (CT G) 158 [.str t] h (fun r h'=>r=.bool (textF ri cl t 512)∧h'=h):=by
 refine sb [.tmp 2] Tryz.func158 ?_;intro Q hQ;refine wk trivial ?_;refine kq trivial (eE G ri cl hR hC t 512 (by omega) _) ?_;refine ee hQ trivial ?_;exact M8 (.bool _) ⟨rfl,rfl⟩
theorem nW(ri:Bs→Bool)(cl:Bs→Bs)(hR:∀t,t.length≤1000→∀h,Sat (CT G) 184 [.str t] h (fun r h'=>r=.bool (ri t)∧h'=h))(hC:∀t,t.length≤1000→∀h,Sat (CT G) 111 [.str t] h (fun r h'=>r=.str (cl t)∧h'=h))(t:Bs)(h:Heap):Sat (CT G) 160 [.str t] h (fun r h'=>r=.bool (!(t==[])&&textF ri cl t 512)∧h'=h):=by
 cases k1:(t==[])with
 |true=>
  have k2:(t != [])=false:=by simpa using k1
  have F:=F2 k1 k2;refine sb [.tmp 2] Tryz.func160 ?_;intro Q hQ;refine wk F ?_;refine ee hQ F ?_;exact M8 (.bool _) ⟨by simp,rfl⟩
 |false=>
  have k2:(t != [])=true:=by simpa using k1
  have F:=F2 k1 k2;refine sb [.tmp 2] Tryz.func160 ?_;intro Q hQ;refine wk F ?_;refine kq F (eE G ri cl hR hC t 512 (by omega) _) ?_;refine ee hQ F ?_;exact M8 (.bool _) ⟨by simp,rfl⟩
theorem eF(ri:Bs→Bool)(cl:Bs→Bs)(hR:∀t,t.length≤1000→∀h,Sat (CT G) 146 [.str t] h (fun r h'=>r=.bool (ri t)∧h'=h))(hC:∀t,t.length≤1000→∀h,Sat (CT G) 135 [.str t] h (fun r h'=>r=.str (cl t)∧h'=h))(t:Bs)(n:Int)(hn:n≤1000)(h:Heap):Sat (CT G) 202 [.str t,.int .i64 n] h (fun r h'=>r=.bool (textF ri cl t n)∧h'=h):=by
 cases hl:decide ((t.length:Int)≤n)with
 |false=>
  have F:=hl;refine sb [.tmp 4] Tryz.func202 ?_;intro Q hQ;refine wk F ?_;refine ee hQ F ?_;exact M8 (.bool _) ⟨by simp[textF,hl],rfl⟩
 |true=>
  have hlt:t.length≤1000:=by have:=Q8 hl;omega
  cases hr:ri t with
  |false=>
   have hR1:=hR t hlt;rw[hr]at hR1;have F:=hl;refine sb [.tmp 4] Tryz.func202 ?_;intro Q hQ;refine wk F ?_;refine kq F (hR1 _) ?_;refine ee hQ F ?_;exact M8 (.bool _) ⟨by simp[textF,hl,hr],rfl⟩
  |true=>
   have hR1:=hR t hlt;rw[hr]at hR1;have F:=hl;refine sb [.tmp 4] Tryz.func202 ?_;intro Q hQ;refine wk F ?_;refine kq F (hR1 _) ?_;refine kq F (hC t hlt _) ?_;refine ee hQ F ?_;exact M8 (.bool _) ⟨by simp[textF,hl,hr],rfl⟩
theorem iK(ri:Bs→Bool)(cl:Bs→Bs)(hR:∀t,t.length≤1000→∀h,Sat (CT G) 146 [.str t] h (fun r h'=>r=.bool (ri t)∧h'=h))(hC:∀t,t.length≤1000→∀h,Sat (CT G) 135 [.str t] h (fun r h'=>r=.str (cl t)∧h'=h))(t:Bs)(h:Heap):Sat (CT G) 168 [.str t] h (fun r h'=>r=.bool (!(t==[])&&textF ri cl t 64)∧h'=h):=by
 cases k1:(t==[])with
 |true=>
  have k2:(t != [])=false:=by simpa using k1
  have F:=F2 k1 k2;refine sb [.tmp 2] Tryz.func168 ?_;intro Q hQ;refine wk F ?_;refine ee hQ F ?_;exact M8 (.bool _) ⟨by simp,rfl⟩
 |false=>
  have k2:(t != [])=true:=by simpa using k1
  have F:=F2 k1 k2;refine sb [.tmp 2] Tryz.func168 ?_;intro Q hQ;refine wk F ?_;refine kq F (eF G ri cl hR hC t 64 (by omega) _) ?_;refine ee hQ F ?_;exact M8 (.bool _) ⟨by simp,rfl⟩
theorem nX(ri:Bs→Bool)(cl:Bs→Bs)(hR:∀t,t.length≤1000→∀h,Sat (CT G) 146 [.str t] h (fun r h'=>r=.bool (ri t)∧h'=h))(hC:∀t,t.length≤1000→∀h,Sat (CT G) 135 [.str t] h (fun r h'=>r=.str (cl t)∧h'=h))(t:Bs)(h:Heap):Sat (CT G) 170 [.str t] h (fun r h'=>r=.bool (textF ri cl t 256)∧h'=h):=by
 refine sb [.tmp 2] Tryz.func170 ?_;intro Q hQ;refine wk trivial ?_;refine kq trivial (eF G ri cl hR hC t 256 (by omega) _) ?_;refine ee hQ trivial ?_;exact M8 (.bool _) ⟨rfl,rfl⟩
theorem qj(ri:Bs→Bool)(cl:Bs→Bs)(hR:∀t,t.length≤1000→∀h,Sat (CT G) 146 [.str t] h (fun r h'=>r=.bool (ri t)∧h'=h))(hC:∀t,t.length≤1000→∀h,Sat (CT G) 135 [.str t] h (fun r h'=>r=.str (cl t)∧h'=h))(t:Bs)(h:Heap):Sat (CT G) 169 [.str t] h (fun r h'=>r=.bool (textF ri cl t 512)∧h'=h):=by
 refine sb [.tmp 2] Tryz.func169 ?_;intro Q hQ;refine wk trivial ?_;refine kq trivial (eF G ri cl hR hC t 512 (by omega) _) ?_;refine ee hQ trivial ?_;exact M8 (.bool _) ⟨rfl,rfl⟩
theorem nY(ri:Bs→Bool)(cl:Bs→Bs)(hR:∀t,t.length≤1000→∀h,Sat (CT G) 146 [.str t] h (fun r h'=>r=.bool (ri t)∧h'=h))(hC:∀t,t.length≤1000→∀h,Sat (CT G) 135 [.str t] h (fun r h'=>r=.str (cl t)∧h'=h))(t:Bs)(h:Heap):Sat (CT G) 173 [.str t] h (fun r h'=>r=.bool (!(t==[])&&textF ri cl t 512)∧h'=h):=by
 cases k1:(t==[])with
 |true=>
  have k2:(t != [])=false:=by simpa using k1
  have F:=F2 k1 k2;refine sb [.tmp 2] Tryz.func173 ?_;intro Q hQ;refine wk F ?_;refine ee hQ F ?_;exact M8 (.bool _) ⟨by simp,rfl⟩
 |false=>
  have k2:(t != [])=true:=by simpa using k1
  have F:=F2 k1 k2;refine sb [.tmp 2] Tryz.func173 ?_;intro Q hQ;refine wk F ?_;refine kq F (eF G ri cl hR hC t 512 (by omega) _) ?_;refine ee hQ F ?_;exact M8 (.bool _) ⟨by simp,rfl⟩
end
section
section
variable {κ α:Type} [DecidableEq κ]
def sumM(w:α→Int):ML κ α→Int
 | []=>0
 |e::l=>w e.2.1+sumM w l
def atM(w:α→Int):Option α→Int
 |none=>0
 |some a=>w a
theorem io(w:α→Int)(l:ML κ α)(c:Nat)(x:κ)(a:α):sumM w (upM l c x a)=sumM w l+w a-atM w (lkM l x):=by
 induction l with
 |nil=>simp[upM,sumM,lkM,atM]
 |cons e l ih=>
  simp only[upM,lkM];split
  ·simp only[sumM,atM];omega
  ·simp only[sumM,ih];omega
theorem oM(w:α→Int)(l:ML κ α)(x:κ):sumM w (dlM l x)=sumM w l-atM w (lkM l x):=by
 induction l with
 |nil=>simp[dlM,sumM,lkM,atM]
 |cons e l ih=>
  simp only[dlM,lkM];split
  ·simp only[sumM,atM];omega
  ·simp only[sumM,ih];omega
omit [DecidableEq κ] in
theorem cy{w:α→Int}(h:∀a,0≤w a)(l:ML κ α):0≤sumM w l:=by
 induction l with
 |nil=>simp[sumM]
 |cons e l ih=>have:=h e.2.1;simp only[sumM];omega
omit [DecidableEq κ] in
theorem ip{w:α→Int}(h:∀a,w a≤1)(l:ML κ α):sumM w l≤l.length:=by
 induction l with
 |nil=>simp[sumM]
 |cons e l ih=>have:=h e.2.1;simp only[sumM,I6];omega
theorem uC{w:α→Int}(h:∀a,0≤w a)(l:ML κ α)(x:κ):atM w (lkM l x)≤sumM w l:=by
 induction l with
 |nil=>simp[sumM,lkM,atM]
 |cons e l ih=>
  have h1:=h e.2.1;have h2:=cy h l;simp only[lkM];split
  ·simp only[sumM,atM];omega
  ·simp only[sumM];omega
theorem mN{w:α→Int}(h:∀a,0≤w a){l:ML κ α}(h0:sumM w l≤0){x:κ}{a:α}(hx:lkM l x=some a):w a=0:=by
 have:=uC h l x;rw[hx]at this;have:=h a;simp only[atM]at *;omega
end
def inFo(id:Int)(f:Fo):Int:=if f.inn=id then 1 else 0
def inFe(id:Int)(f:Fe):Int:=if f.inn=id then 1 else 0
theorem fJ(id:Int)(f:Fo):0≤inFo id f:=by unfold inFo;split<;>omega
theorem fK(id:Int)(f:Fe):0≤inFe id f:=by unfold inFe;split<;>omega
theorem oN(id:Int)(f:Fo):inFo id f≤1:=by unfold inFo;split<;>omega
theorem oO(id:Int)(f:Fe):inFe id f≤1:=by unfold inFe;split<;>omega
theorem sh{l:ML Int Fo}:∀{k:Nat} {id:Int} {d:Nat},deepO l k id=some d→∀{k':Nat},d≤k'→deepO l k' id=some d:=by
 intro k;induction k with
 |zero=>
  intro id d h k' hk;rw[deepO]at h;cases hl:lkM l id with
  |none=>
   rw[hl]at h;simp at h;subst h;cases k' with
   |zero=>rw[deepO,hl];simp
   |succ k'=>rw[deepO,hl]
  |some f=>rw[hl]at h;simp at h
 |succ k ih=>
  intro id d h k' hk;rw[deepO]at h;cases hl:lkM l id with
  |none=>
   rw[hl]at h;simp at h;subst h;cases k' with
   |zero=>rw[deepO,hl];simp
   |succ k'=>rw[deepO,hl]
  |some f=>
   rw[hl]at h;simp only[K7]at h;obtain⟨j,hj,rfl⟩:=h;obtain⟨k'',rfl⟩:∃k'',k'=k''+1:=⟨k'-1,by omega⟩;rw[deepO,hl];simp only[ih hj (k':=k'') (by omega),O2]
theorem iL{l l':ML Int Fo}(P:Int→Prop)(h:∀id,P id→lkM l' id=lkM l id)(hc:∀id f,P id→lkM l id=some f→P f.inn):∀(k:Nat) (id:Int),P id→deepO l' k id=deepO l k id:=by
 intro k;induction k with
 |zero=>intro id hp;rw[deepO,deepO,h id hp]
 |succ k ih=>
  intro id hp;rw[deepO,deepO,h id hp];cases hl:lkM l id with
  |none=>rfl
  |some f=>simp only[ih f.inn (hc id f hp hl)]
structure PS.Inv (s:PS):Prop where
 w1:WFM s.fo s.c1
 w2:WFM s.fe s.c2
 w3:WFM s.it s.c3
 w4:WFM s.se s.c4
 w7:WFM s.gu s.c7
 w8:WFM s.he s.c8
 i1:∀k f,lkM s.fo k=some f→f.id=k∧1≤k∧k≤1048576
 i2:∀k f,lkM s.fe k=some f→f.id=k∧1≤k∧k≤1048576
 i3:∀k t,lkM s.it k=some t→t.id=k∧1≤k∧k≤1048576
 i4:∀k q,lkM s.se k=some q→q.id=k∧1≤k∧k≤1048576
 u1:∀k f,lkM s.fo k=some f→f.inn=0∨(lkM s.fo f.inn).isSome=true
 u2:∀k f,lkM s.fe k=some f→f.inn=0∨(lkM s.fo f.inn).isSome=true
 u3:∀k t,lkM s.it k=some t→(lkM s.fe t.feed).isSome=true
 dp:∀id,∃d,d≤7∧deepO s.fo 7 id=some d
 hd:∀id,id≠0→(lkM s.he id).getD 0=sumM (inFo id) s.fo+sumM (inFe id) s.fe
 h0:lkM s.he 0=none
 tg:∀k t,lkM s.it k=some t→Srt t.tags∧t.tags.length≤8
 l1:s.fo.length≤64
 l2:s.fe.length≤64
 l3:s.it.length≤1024
 l4:s.se.length≤32
theorem PS.Inv.z:PS.z.Inv where
 w1:=.nil
 w2:=.nil
 w3:=.nil
 w4:=.nil
 w7:=.nil
 w8:=.nil
 i1:=fun _ _ h=>by cases h
 i2:=fun _ _ h=>by cases h
 i3:=fun _ _ h=>by cases h
 i4:=fun _ _ h=>by cases h
 u1:=fun _ _ h=>by cases h
 u2:=fun _ _ h=>by cases h
 u3:=fun _ _ h=>by cases h
 dp:=fun _=>⟨0,by omega,rfl⟩
 hd:=fun _ _=>rfl
 h0:=rfl
 tg:=fun _ _ h=>by cases h
 l1:=by simp[PS.z]
 l2:=by simp[PS.z]
 l3:=by simp[PS.z]
 l4:=by simp[PS.z]
theorem PS.Inv.few{s:PS}(h:s.Inv):s.few:=by
 intro id;by_cases h0:id=0
 ·subst h0;rw[h.h0];simp
 ·have h1:=h.hd id h0;have h2:=cy (fJ id) s.fo;have h3:=cy (fK id) s.fe;have h4:=ip (oN id) s.fo;have h5:=ip (oO id) s.fe;have h6:=h.l1;have h7:=h.l2;omega
def heF(he:ML Int Int)(c:Nat)(id k:Int):ML Int Int:=if id=0 then he else upM he c id ((lkM he id).getD 0+k)
def chF(he:ML Int Int)(c:Nat)(id:Int):Nat:=if id=0 then c else ckM he c id
theorem aO(s:PS)(id k:Int):s.hold id k= {s with he:=heF s.he s.c8 id k,c8:=chF s.he s.c8 id}:=by
 unfold PS.hold heF chF;split<;>rfl
theorem eV(he:ML Int Int)(c:Nat)(id k x:Int):(lkM (heF he c id k) x).getD 0=(lkM he x).getD 0+(if x=id∧id≠0 then k else 0):=by
 unfold heF;by_cases h:id=0
 ·rw[I7 h,I0 (by omega)];omega
 ·rw[I0 h,aW];by_cases hx:x=id
  ·subst hx;rw[I7 rfl,I7 ⟨rfl,h⟩];rfl
  ·rw[I0 hx,I0 (by omega)];omega
theorem iq{he:ML Int Int}(c:Nat)(id k:Int)(h:lkM he 0=none):lkM (heF he c id k) 0=none:=by
 unfold heF;split
 ·exact h
 ·rename_i h1;rw[aW,I0 (fun e=>h1 e.symm)];exact h
theorem fL{he:ML Int Int}{c:Nat}(w:WFM he c)(id k:Int):WFM (heF he c id k) (chF he c id):=by
 unfold heF chF;split
 ·exact w
 ·exact w.up _ _
theorem uD{s:PS}(h:s.Inv)(id k:Int)(hk: -1≤k∧k≤1):(s.hold id k).few:=by
 intro x;have h1:=eV s.he s.c8 id k x;rw[aO];simp only;have h6:=h.l1;have h7:=h.l2;have h2:=cy (fJ x) s.fo;have h3:=cy (fK x) s.fe;have h4:=ip (oN x) s.fo;have h5:=ip (oO x) s.fe;by_cases h0:x=0
 ·subst h0;rw[h1,h.h0];simp only[Option.getD_none];split<;>omega
 ·have:=h.hd x h0;rw[h1];split<;>omega
def PS.dpt(s:PS)(id:Int):Nat:=(deepO s.fo 7 id).getD 0
def PS.ok(L:Leaf)(s:PS)(e:Ev):Bool:=s.fits (L.ck e) (s.dpt e.b) e
def PS.aft(s:PS)(e:Ev):PS:=s.after (tgF ((lkM s.it e.a).getD It.z).tags e.s e.n) e
def PS.step(L:Leaf)(s:PS)(e:Ev):PS:=if s.ok L e then s.aft e else s
theorem eW{L:Leaf}{e:Ev}(h:L.right e=true)(hk:e.kind≠13):1≤e.a∧e.a≤1048576:=by
 have:idF e.a=true:=by
  unfold Leaf.right at h;repeat' (split at h)
  all_goals first| (simp only[I1]at h;exact h.1)|exact h|omega| (cases h)
 simpa [idF]using this
theorem wt{l:List Bs}{t:Bs}(hs:Srt l)(ht:t ∉ l):Srt (l.take (lbF l t)++t::l.drop (lbF l t)):=by
 induction l with
 |nil=>simp[lbF,Srt]
 |cons a l ih=>
  have hs':=hs;unfold Srt at hs;rw[R9]at hs;rw[eU];split
  ·rename_i hat;simp only[N0,V3,O9];unfold Srt;rw[R9];refine⟨fun x hx=>?_,ih hs.2 (fun h=>ht (Q3 _ h))⟩;rw[P6,K4]at hx;rcases hx with h|rfl|h
   ·exact hs.1 x (W8 h)
   ·exact hat
   ·exact hs.1 x (List.mem_of_mem_drop h)
  ·rename_i hat;simp only[O6,U0,M3];have hat':Op.bytesLess a t=false:=(by simpa using hat);have hta:Op.bytesLess t a=true:=by
    cases h:Op.bytesLess t a with
    |true=>rfl
    |false=>exact(ht (by rw[mK t a h hat'];exact U2 ..)).elim
   unfold Srt;rw[R9];refine⟨fun x hx=>?_,hs'⟩;rcases K4.1 hx with rfl|h
   ·exact hta
   ·exact eT hta (hs.1 x h)
theorem wu{l:List Bs}(hs:Srt l)(i:Nat):Srt (l.take i++l.drop (i+1)):=by
 rw[← List.eraseIdx_eq_take_drop_succ];exact hs.sublist (List.eraseIdx_sublist l i)
theorem wv{l:List Bs}(hs:Srt l)(t:Bs)(n:Int):Srt (tgF l t n):=by
 unfold tgF;split
 ·rename_i h;exact wt hs h.2
 ·split
  ·exact wu hs _
  ·exact hs
theorem ww{l:List Bs}(t:Bs)(n:Int)(hl:l.length≤8)(h:n=0∨t∈l∨l.length<8):(tgF l t n).length≤8:=by
 have:=mL l t;unfold tgF;split
 ·rename_i h1;simp only[J3,I6,M6,M7];rcases h with h|h|h
  ·omega
  ·exact(h1.2 h).elim
  ·omega
 ·split
  ·simp only[J3,M6,M7];omega
  ·exact hl
variable {s:PS} {e:Ev}
theorem bH{κ α:Type}[DecidableEq κ]{l:ML κ α}{x:κ}(h:(lkM l x).isSome=false):lkM l x=none:=by
 cases hl:lkM l x with
 |none=>rfl
 |some a=>rw[hl]at h;cases h
theorem b8{κ α:Type}[DecidableEq κ]{l:ML κ α}{x:κ}(h:(lkM l x).isSome=true):∃a,lkM l x=some a:=J7.1 h
theorem eH{κ α:Type}[DecidableEq κ]{l:ML κ α}(c:Nat)(x:κ)(a:α){y:κ}(h:(lkM l y).isSome=true):(lkM (upM l c x a) y).isSome=true:=by
 rw[aW];split
 ·rfl
 ·exact h
theorem aK{κ α:Type}[DecidableEq κ]{l:ML κ α}{c:Nat}{x y:κ}{a b:α}(h:lkM (upM l c x a) y=some b):(y=x∧b=a)∨(y≠x∧lkM l y=some b):=by
 rw[aW]at h;split at h
 ·rename_i hy;cases h;exact .inl ⟨hy,rfl⟩
 ·rename_i hy;exact .inr ⟨hy,h⟩
theorem cg{κ α:Type}[DecidableEq κ]{l:ML κ α}(hn:(l.map (·.1)).Nodup){x y:κ}{b:α}(h:lkM (dlM l x) y=some b):y≠x∧lkM l y=some b:=by
 rw[dR hn]at h;split at h
 ·cases h
 ·rename_i hy;exact⟨hy,h⟩
theorem ir{α:Type}{l:ML Int α}(hn:(l.map (·.1)).Nodup){p:Int×α×Nat→Bool}{y:Int}{b:α}(h:lkM (l.filter p) y=some b):lkM l y=some b:=by
 obtain⟨n,hm⟩:=cN h;exact cu hn (T4.1 hm).1
theorem eX{κ α:Type}[DecidableEq κ](l:ML κ α)(c:Nat)(x:κ)(a:α)(m:Nat)(h:l.length<m∨((lkM l x).isSome=true∧l.length≤m)):(upM l c x a).length≤m:=by
 rw[ko];split
 ·omega
 ·rename_i h1;rcases h with h|h
  ·omega
  ·exact(h1 h.1).elim
theorem mO{κ α:Type}[DecidableEq κ](l:ML κ α)(x:κ)(m:Nat)(h:l.length≤m):(dlM l x).length≤m:=O5 (ie l x).length_le h
theorem PS.Inv.no0(h:s.Inv):lkM s.fo 0=none:=by
 cases hl:lkM s.fo 0 with
 |none=>rfl
 |some f=>have:=(h.i1 _ _ hl).2.1;omega
theorem PS.Inv.deep(h:s.Inv)(id:Int):deepO s.fo 7 id=some (s.dpt id)∧s.dpt id≤7:=by
 obtain⟨d,h1,h2⟩:=h.dp id;unfold PS.dpt;rw[h2];exact⟨rfl,h1⟩
theorem i5(h:s.within e.b=true):e.b=0∨(lkM s.fo e.b).isSome=true:=by
 unfold PS.within at h;simpa using h
theorem PS.Inv.mkFo(h:s.Inv)(ha:1≤e.a∧e.a≤1048576)(hn:(lkM s.fo e.a).isSome=false)(hl:s.fo.length<64)(hw:s.within e.b=true)(hd:s.dpt e.b<7):
  PS.Inv ((((s.upFo e.a ⟨e.a,e.b,e.s⟩).upNm (e.b,e.s) e.a).hold e.b 1).raise 0 e.a):=by
 rw[aO];have hb:=i5 hw;have hnn:=bH hn;have hba:e.b≠e.a:=by
  rcases hb with hb|hb
  ·omega
  ·intro q;rw[q,hn]at hb;cases hb
 have hcg:∀k id,id≠e.a→deepO (upM s.fo s.c1 e.a ⟨e.a,e.b,e.s⟩) k id=deepO s.fo k id:=by
  refine iL (fun id=>id≠e.a) (fun id hi=>by rw[aW,I0 hi]) (fun id f hi hf=>?_);rcases h.u1 id f hf with h1|h1
  ·omega
  ·intro q;rw[q,hn]at h1;cases h1
 exact {h with
  w1:=h.w1.up _ _
  w8:=fL h.w8 _ _
  i1:=fun k f hk=>by
   rcases aK (l:=s.fo) hk with⟨rfl,rfl⟩| ⟨_,hk⟩
   ·exact⟨rfl,ha⟩
   ·exact h.i1 k f hk
  u1:=fun k f hk=>by
   rcases aK (l:=s.fo) hk with⟨rfl,rfl⟩| ⟨_,hk⟩
   ·exact hb.imp id (eH _ _ _)
   ·exact(h.u1 k f hk).imp id (eH _ _ _)
  u2:=fun k f hk=>(h.u2 k f hk).imp id (eH _ _ _)
  dp:=fun id=>by
   show ∃d,d≤7∧deepO (upM s.fo s.c1 e.a ⟨e.a,e.b,e.s⟩) 7 id=some d;by_cases hi:id=e.a
   ·subst hi;obtain⟨h1,h2⟩:=h.deep e.b;refine⟨s.dpt e.b+1,by omega,?_⟩;rw[deepO,aW,I7 rfl];simp only[hcg 6 e.b hba,sh h1 (k':=6) (by omega),O2]
   ·obtain⟨d,h1,h2⟩:=h.dp id;exact⟨d,h1,by rw[hcg 7 id hi,h2]⟩
  hd:=fun id hi=>by
   show(lkM (heF s.he s.c8 e.b 1) id).getD 0=sumM (inFo id) (upM s.fo s.c1 e.a ⟨e.a,e.b,e.s⟩)+sumM (inFe id) s.fe;rw[eV,io,hnn,h.hd id hi];simp only[atM,inFo];by_cases hx:e.b=id
   ·subst hx;simp[hi];omega
   ·rw[I0 (by omega),I0 hx];omega
  h0:=iq _ _ _ h.h0
  l1:=eX _ _ _ _ _ (.inl hl)}
theorem PS.Inv.mkFe(h:s.Inv)(ha:1≤e.a∧e.a≤1048576)(hn:(lkM s.fe e.a).isSome=false)(hl:s.fe.length<64)(hw:s.within e.b=true):
  PS.Inv ((((s.upFe e.a ⟨e.a,e.b,e.s,e.t⟩).upPl e.s e.a).hold e.b 1).raise 1 e.a):=by
 rw[aO];have hb:=i5 hw;have hnn:=bH hn;exact {h with
  w2:=h.w2.up _ _
  w8:=fL h.w8 _ _
  i2:=fun k f hk=>by
   rcases aK (l:=s.fe) hk with⟨rfl,rfl⟩| ⟨_,hk⟩
   ·exact⟨rfl,ha⟩
   ·exact h.i2 k f hk
  u2:=fun k f hk=>by
   rcases aK (l:=s.fe) hk with⟨rfl,rfl⟩| ⟨_,hk⟩
   ·exact hb
   ·exact h.u2 k f hk
  u3:=fun k f hk=>eH _ _ _ (h.u3 k f hk)
  hd:=fun id hi=>by
   show(lkM (heF s.he s.c8 e.b 1) id).getD 0=sumM (inFo id) s.fo+sumM (inFe id) (upM s.fe s.c2 e.a ⟨e.a,e.b,e.s,e.t⟩);rw[eV,io,hnn,h.hd id hi];simp only[atM,inFe];by_cases hx:e.b=id
   ·subst hx;simp[hi];omega
   ·rw[I0 (by omega),I0 hx];omega
  h0:=iq _ _ _ h.h0
  l2:=eX _ _ _ _ _ (.inl hl)}
theorem PS.Inv.mkIt(h:s.Inv)(ha:1≤e.a∧e.a≤1048576)(hl:s.it.length<1024)(hw:(lkM s.fe e.b).isSome=true):
  PS.Inv (((s.upIt e.a ⟨e.a,e.b,e.n,e.s,e.t,e.u,false,false,[]⟩).upGu (e.b,e.s) e.a).raise 2 e.a):=
 {h with
  w3:=h.w3.up _ _
  w7:=h.w7.up _ _
  i3:=fun k f hk=>by
   rcases aK (l:=s.it) hk with⟨rfl,rfl⟩| ⟨_,hk⟩
   ·exact⟨rfl,ha⟩
   ·exact h.i3 k f hk
  u3:=fun k f hk=>by
   rcases aK (l:=s.it) hk with⟨rfl,rfl⟩| ⟨_,hk⟩
   ·exact hw
   ·exact h.u3 k f hk
  tg:=fun k f hk=>by
   rcases aK (l:=s.it) hk with⟨rfl,rfl⟩| ⟨_,hk⟩
   ·exact⟨by simp[Srt],by simp⟩
   ·exact h.tg k f hk
  l3:=eX _ _ _ _ _ (.inl hl)}
theorem PS.Inv.mkSe(h:s.Inv)(ha:1≤e.a∧e.a≤1048576)(hl:s.se.length<32):PS.Inv ((s.upSe e.a ⟨e.a,e.s,e.t⟩).raise 3 e.a):=
 {h with
  w4:=h.w4.up _ _
  i4:=fun k f hk=>by
   rcases aK (l:=s.se) hk with⟨rfl,rfl⟩| ⟨_,hk⟩
   ·exact⟨rfl,ha⟩
   ·exact h.i4 k f hk
  l4:=eX _ _ _ _ _ (.inl hl)}
theorem PS.Inv.reIt(h:s.Inv){k:Int}{t:It}(t':It)(hk:lkM s.it k=some t)(h1:t'.id=t.id)(h2:t'.feed=t.feed)(h3:Srt t'.tags∧t'.tags.length≤8):PS.Inv (s.upIt k t'):=
 {h with
  w3:=h.w3.up _ _
  i3:=fun j f hj=>by
   rcases aK (l:=s.it) hj with⟨rfl,rfl⟩| ⟨_,hj⟩
   ·rw[h1];exact h.i3 _ _ hk
   ·exact h.i3 j f hj
  u3:=fun j f hj=>by
   rcases aK (l:=s.it) hj with⟨rfl,rfl⟩| ⟨_,hj⟩
   ·rw[h2];exact h.u3 _ _ hk
   ·exact h.u3 j f hj
  tg:=fun j f hj=>by
   rcases aK (l:=s.it) hj with⟨rfl,rfl⟩| ⟨_,hj⟩
   ·exact h3
   ·exact h.tg j f hj
  l3:=eX _ _ _ _ _ (.inr ⟨by rw[hk];rfl,h.l3⟩)}
theorem PS.Inv.unFo(h:s.Inv){k:Int}{f:Fo}(hk:lkM s.fo k=some f)(h0:(lkM s.he k).getD 0=0):PS.Inv (((s.dlNm (f.inn,f.name)).dlFo k).hold f.inn (-1)):=by
 rw[aO];have hk1:=(h.i1 _ _ hk).2;have hs:=h.hd k (by omega);have n1:=cy (fJ k) s.fo;have n2:=cy (fK k) s.fe;have hA:∀j g,lkM s.fo j=some g→g.inn≠k:=fun j g hg q=>by
  have:=mN (fJ k) (l:=s.fo) (by omega) hg;rw[inFo,I7 q]at this;omega
 have hB:∀j g,lkM s.fe j=some g→g.inn≠k:=fun j g hg q=>by
  have:=mN (fK k) (l:=s.fe) (by omega) hg;rw[inFe,I7 q]at this;omega
 have hcg:∀m id,id≠k→deepO (dlM s.fo k) m id=deepO s.fo m id:=
  iL (fun id=>id≠k) (fun id hi=>by rw[dR h.w1.keys,I0 hi]) (fun id g _ hg=>hA id g hg)
 have hst:∀x,x≠k→(lkM s.fo x).isSome=true→(lkM (dlM s.fo k) x).isSome=true:=fun x hx hs=>by rw[dR h.w1.keys,I0 hx];exact hs
 exact {h with
  w1:=h.w1.dl _
  w8:=fL h.w8 _ _
  i1:=fun j g hj=>h.i1 j g (cg h.w1.keys hj).2
  u1:=fun j g hj=>by
   obtain⟨_,hj⟩:=cg h.w1.keys hj;exact(h.u1 j g hj).imp id (hst _ (hA j g hj))
  u2:=fun j g hj=>(h.u2 j g hj).imp id (hst _ (hB j g hj))
  dp:=fun id=>by
   show ∃d,d≤7∧deepO (dlM s.fo k) 7 id=some d;by_cases hi:id=k
   ·subst hi;exact⟨0,by omega,by rw[deepO,dR h.w1.keys,I7 rfl]⟩
   ·rw[hcg 7 id hi];exact h.dp id
  hd:=fun id hi=>by
   show(lkM (heF s.he s.c8 f.inn (-1)) id).getD 0=sumM (inFo id) (dlM s.fo k)+sumM (inFe id) s.fe;rw[eV,oM,hk,h.hd id hi];simp only[atM,inFo];by_cases hx:f.inn=id
   ·subst hx;simp[hi];omega
   ·rw[I0 (by omega),I0 hx];omega
  h0:=iq _ _ _ h.h0
  l1:=mO _ _ _ h.l1}
theorem PS.Inv.reTi(h:s.Inv){k:Int}{f:Fe}(t:Bs)(hk:lkM s.fe k=some f):PS.Inv (s.upFe k {f with title:=t}):=
 {h with
  w2:=h.w2.up _ _
  i2:=fun j g hj=>by
   rcases aK (l:=s.fe) hj with⟨rfl,rfl⟩| ⟨_,hj⟩
   ·have:=h.i2 _ _ hk;exact this
   ·exact h.i2 j g hj
  u2:=fun j g hj=>by
   rcases aK (l:=s.fe) hj with⟨rfl,rfl⟩| ⟨_,hj⟩
   ·have:=h.u2 _ _ hk;exact this
   ·exact h.u2 j g hj
  u3:=fun j g hj=>eH _ _ _ (h.u3 j g hj)
  hd:=fun id hi=>by
   show(lkM s.he id).getD 0=sumM (inFo id) s.fo+sumM (inFe id) (upM s.fe s.c2 k {f with title:=t});rw[io,hk,h.hd id hi];simp only[atM,inFe];omega
  l2:=eX _ _ _ _ _ (.inr ⟨by rw[hk];rfl,h.l2⟩)}
theorem PS.Inv.reIn(h:s.Inv){k b:Int}{f:Fe}(hk:lkM s.fe k=some f)(hb:b=0∨(lkM s.fo b).isSome=true):PS.Inv (((s.hold f.inn (-1)).hold b 1).upFe k {f with inn:=b}):=by
 rw[aO s,aO];exact {h with
  w2:=h.w2.up _ _
  w8:=fL (fL h.w8 _ _) _ _
  i2:=fun j g hj=>by
   rcases aK (l:=s.fe) hj with⟨rfl,rfl⟩| ⟨_,hj⟩
   ·have:=h.i2 _ _ hk;exact this
   ·exact h.i2 j g hj
  u2:=fun j g hj=>by
   rcases aK (l:=s.fe) hj with⟨rfl,rfl⟩| ⟨_,hj⟩
   ·exact hb
   ·exact h.u2 j g hj
  u3:=fun j g hj=>eH _ _ _ (h.u3 j g hj)
  hd:=fun id hi=>by
   show(lkM (heF (heF s.he s.c8 f.inn (-1)) (chF s.he s.c8 f.inn) b 1) id).getD 0=sumM (inFo id) s.fo+sumM (inFe id) (upM s.fe s.c2 k {f with inn:=b});rw[eV,eV,io,hk,h.hd id hi];simp only[atM,inFe];by_cases h1:f.inn=id
   ·by_cases h2:b=id
    ·rw[I7 ⟨h1.symm,by omega⟩,I7 ⟨h2.symm,by omega⟩,I7 h1,I7 h2];omega
    ·rw[I7 ⟨h1.symm,by omega⟩,I0 (by omega),I7 h1,I0 h2];omega
   ·by_cases h2:b=id
    ·rw[I0 (by omega),I7 ⟨h2.symm,by omega⟩,I0 h1,I7 h2];omega
    ·rw[I0 (by omega),I0 (by omega),I0 h1,I0 h2];omega
  h0:=iq _ _ _ (iq _ _ _ h.h0)
  l2:=eX _ _ _ _ _ (.inr ⟨by rw[hk];rfl,h.l2⟩)}
theorem PS.Inv.unFe(h:s.Inv){k:Int}{f:Fe}(hk:lkM s.fe k=some f):PS.Inv (s.unfeed f):=by
 have hfk:=(h.i2 _ _ hk).1;unfold PS.unfeed;rw[aO];exact {h with
  w2:=h.w2.dl _
  w3:=h.w3.filter _
  w7:=h.w7.filter _
  w8:=fL h.w8 _ _
  i2:=fun j g hj=>h.i2 j g (cg h.w2.keys hj).2
  i3:=fun j t hj=>h.i3 j t (ir h.w3.keys hj)
  u2:=fun j g hj=>h.u2 j g (cg h.w2.keys hj).2
  u3:=fun j t hj=>by
   have hj':lkM (itF s.it f.id) j=some t:=hj;show(lkM (dlM s.fe f.id) t.feed).isSome=true;have hne:t.feed≠f.id:=by
    obtain⟨n,hm⟩:=cN hj';have:=(T4.1 hm).2;simpa using this
   rw[dR h.w2.keys,I0 hne];exact h.u3 j t (ir h.w3.keys hj')
  hd:=fun id hi=>by
   show(lkM (heF s.he s.c8 f.inn (-1)) id).getD 0=sumM (inFo id) s.fo+sumM (inFe id) (dlM s.fe f.id);rw[eV,oM,hfk,hk,h.hd id hi];simp only[atM,inFe];by_cases hx:f.inn=id
   ·subst hx;simp[hi];omega
   ·rw[I0 (by omega),I0 hx];omega
  h0:=iq _ _ _ h.h0
  tg:=fun j t hj=>h.tg j t (ir h.w3.keys hj)
  l2:=mO _ _ _ h.l2
  l3:=O5 (List.length_filter_le _ _) h.l3}
theorem PS.Inv.unSe(h:s.Inv)(k:Int):PS.Inv (s.dlSe k):=
 {h with
  w4:=h.w4.dl _
  i4:=fun j g hj=>h.i4 j g (cg h.w4.keys hj).2
  l4:=mO _ _ _ h.l4}
theorem PS.Inv.clk(h:s.Inv)(k:Int):PS.Inv {s with clock:=k}:= {h with}
theorem PS.Inv.step{L:Leaf}(h:s.Inv)(e:Ev):(s.step L e).Inv:=by
 unfold PS.step;split
 ·rename_i hok;unfold PS.ok PS.fits at hok;rw[I1]at hok;obtain⟨hck,hf⟩:=hok;have hr:L.right e=true:=by unfold Leaf.ck at hck;simp only[I1]at hck;exact hck.1
  have ha:e.kind≠13→1≤e.a∧e.a≤1048576:=fun hk=>eW hr hk
  unfold PS.aft PS.after;by_cases k1:e.kind=1
  ·rw[I7 k1]at hf;simp only[I1,M5,I4,beq_iff_eq]at hf;rw[I0 (by omega),I0 (by omega),I0 (by omega),I0 (by omega),I0 (by omega),I0 (by omega),I0 (by omega),I0 (by omega),I0 (by omega),PS.make,I7 k1];exact h.mkFo (ha (by omega)) hf.1.1.1.1 hf.1.1.1.2 hf.1.1.2 hf.1.2
  rw[I0 k1]at hf;by_cases k2:e.kind=2
  ·rw[I7 k2]at hf ⊢;simp only[I1,beq_iff_eq]at hf;obtain⟨f,hfo⟩:=b8 hf.1;rw[hfo];exact h.unFo hfo hf.2
  rw[I0 k2]at hf ⊢;by_cases k3:e.kind=3
  ·rw[I7 k3]at hf;simp only[I1,M5,I4,beq_iff_eq]at hf;rw[I0 (by omega),I0 (by omega),I0 (by omega),I0 (by omega),I0 (by omega),I0 (by omega),I0 (by omega),I0 (by omega),PS.make,I0 (by omega),I7 k3];exact h.mkFe (ha (by omega)) hf.1.1.1 hf.1.1.2 hf.1.2
  rw[I0 k3]at hf;by_cases k4:e.kind=4
  ·rw[I7 (.inl k4)]at hf;rw[I7 k4];obtain⟨f,hfo⟩:=b8 hf;rw[hfo];exact h.unFe hfo
  rw[I0 k4];by_cases k5:e.kind=5
  ·rw[I7 (.inr k5)]at hf;rw[I7 k5];obtain⟨f,hfo⟩:=b8 hf;rw[hfo];exact h.reTi _ hfo
  rw[I0 (by omega)]at hf;rw[I0 k5];by_cases k6:e.kind=6
  ·rw[I7 k6]at hf ⊢;simp only[I1]at hf;obtain⟨f,hfo⟩:=b8 hf.1;rw[hfo];exact h.reIn hfo (i5 hf.2)
  rw[I0 k6]at hf ⊢;by_cases k7:e.kind=7
  ·rw[I7 k7]at hf;simp only[I1,M5,I4,beq_iff_eq]at hf;rw[I0 (by omega),I0 (by omega),I0 (by omega),I0 (by omega),I0 (by omega),PS.make,I0 (by omega),I0 (by omega),I7 k7];exact h.mkIt (ha (by omega)) hf.1.1.2 hf.1.2
  rw[I0 k7]at hf;by_cases k8:e.kind=8
  ·rw[I7 (.inl k8)]at hf;rw[I7 k8];obtain⟨f,hfo⟩:=b8 hf;rw[hfo];have htg:=h.tg _ _ hfo;exact h.reIt _ hfo rfl rfl htg
  rw[I0 k8];by_cases k9:e.kind=9
  ·rw[I7 (.inr k9)]at hf;rw[I7 k9];obtain⟨f,hfo⟩:=b8 hf;rw[hfo];have htg:=h.tg _ _ hfo;exact h.reIt _ hfo rfl rfl htg
  rw[I0 (by omega)]at hf;rw[I0 k9];by_cases k10:e.kind=10
  ·rw[I7 k10]at hf ⊢;simp only[I1,N6,I4]at hf;obtain⟨f,hfo⟩:=b8 hf.1;rw[hfo]at hf ⊢;simp only[O0]at hf ⊢;have htg:=h.tg _ _ hfo;exact h.reIt _ hfo rfl rfl ⟨wv htg.1 _ _,ww _ _ htg.2 (by rcases hf.2 with(h1|h1)|h1<;>simp[h1])⟩
  rw[I0 k10]at hf ⊢;by_cases k11:e.kind=11
  ·rw[I7 k11]at hf;simp only[I1,M5,I4]at hf;rw[I0 (by omega),I0 (by omega),PS.make,I0 (by omega),I0 (by omega),I0 (by omega),I7 k11];exact h.mkSe (ha (by omega)) hf.2
  rw[I0 k11]at hf;by_cases k12:e.kind=12
  ·rw[I7 k12];exact h.unSe _
  rw[I0 k12];by_cases k13:e.kind=13
  ·rw[I7 k13];exact h.clk _
  ·exfalso;unfold Leaf.right at hr;rw[I0 k1,I0 (by omega),I0 k3,I0 k5,I0 k6,I0 k7,I0 (by omega),I0 k10,I0 k11,I0 k13]at hr;cases hr
 ·exact h
theorem PS.Inv.fold{L:Leaf}(h:s.Inv)(l:List Ev):(l.foldl (PS.step L) s).Inv:=by
 induction l generalizing s with
 |nil=>exact h
 |cons e l ih=>exact ih (h.step e)
theorem aJ{α:Type}{z:α}{l:ML Int α}{a:α}(h:a∈valsM z l):∃k,lkM l k=some a:=by
 unfold valsM at h;obtain⟨k,hk,rfl⟩:=J5.1 h;have hk2:k∈l.map (·.1):=(S4 _ _).mem_iff.1 hk;refine⟨k,?_⟩;cases hl:lkM l k with
 |none=>
  have:(lkM l k).isSome=false:=by rw[hl];rfl
  exact(oE this hk2).elim
 |some a=>rfl
theorem jJ{α:Type}{l:ML Int α}{c:Nat}(w:WFM l c)(h:∀k a,lkM l k=some a→1≤k∧k≤1048576):∀e∈l,inI e.1:=fun e he=>by
 have:=h e.1 e.2.1 (cu w.keys (b:=e.2.2) (by exact he));unfold inI;omega
theorem PS.Inv.toOk(h:s.Inv):s.Ok where
 w1:=h.w1
 w2:=h.w2
 w3:=h.w3
 w4:=h.w4
 b1:=jJ h.w1 fun k f hk=>(h.i1 k f hk).2
 b2:=jJ h.w2 fun k f hk=>(h.i2 k f hk).2
 b3:=jJ h.w3 fun k f hk=>(h.i3 k f hk).2
 b4:=jJ h.w4 fun k f hk=>(h.i4 k f hk).2
 l1:=O5 h.l1 (by omega)
 l2:=O5 h.l2 (by omega)
 l3:=O5 h.l3 (by omega)
 l4:=O5 h.l4 (by omega)
 tg:=fun t ht=>by
  obtain⟨k,hk⟩:=aJ ht;exact O5 (h.tg k t hk).2 (by omega)
theorem PS.Inv.tags(h:s.Inv)(id:Int):Srt ((lkM s.it id).getD It.z).tags∧((lkM s.it id).getD It.z).tags.length≤8:=by
 cases hl:lkM s.it id with
 |none=>exact⟨by simp[It.z,Srt],by simp[It.z]⟩
 |some t=>exact h.tg id t hl
end
section
attribute [local irreducible] WP WPl WPix Sat
variable (G:Nat→Option (List AVal))
def L0:Leaf where
 label:=fun t=> !(t==[])&&textF rightS cleanF t 64
 title:=fun t=>textF rightS cleanF t 256
 link:=fun t=>textF rightS cleanF t 512
 tag:=fun t=>(!(t==[])&&textF rightS cleanF t 64)&&isF t
 query:=fun t=> !(t==[])&&textF rightS cleanF t 512
 moment:=momF
theorem R0(t:Bs)(ht:t.length≤1000)(h:Heap):Sat (CT G) 184 [.str t] h (fun r h'=>r=.bool (rightS t)∧h'=h):=jA G t (by omega) h
theorem C0(t:Bs)(ht:t.length≤1000)(h:Heap):Sat (CT G) 111 [.str t] h (fun r h'=>r=.str (cleanF t)∧h'=h):=eD G t (by omega) h
theorem uF(t:Bs)(h:Heap):Sat (CT G) 159 [.str t] h (fun r h'=>r=.bool (L0.tag t)∧h'=h):=by
 have hL:=iJ G rightS cleanF (R0 G) (C0 G) t;have hu:L0.tag t=((!(t==[])&&textF rightS cleanF t 64)&&isF t):=rfl;rw[hu];cases hl:(!(t==[])&&textF rightS cleanF t 64)with
 |false=>
  rw[hl]at hL;refine sb [.tmp 2] Tryz.func159 ?_;intro Q hQ;refine wk trivial ?_;refine kq trivial (hL _) ?_;refine ee hQ trivial ?_;exact M8 (.bool _) ⟨by simp,rfl⟩
 |true=>
  rw[hl]at hL;have hlen:t.length≤64:=by
   rw[I1]at hl;have:=hl.2;unfold textF at this;rw[I1,I4]at this;omega
  refine sb [.tmp 2] Tryz.func159 ?_;intro Q hQ;refine wk trivial ?_;refine kq trivial (hL _) ?_;refine kq trivial (wd G t (by omega) _) ?_;refine ee hQ trivial ?_;exact M8 (.bool _) ⟨by simp,rfl⟩
theorem qr(e:Ev)(h:Heap):Sat (CT G) 79 [e.av] h (fun r h'=>r=.int .i64 (if L0.ck e then 0 else 140)∧h'=h):=
 nR G L0 e (nU G L0 (iJ G rightS cleanF (R0 G) (C0 G)) (nV G rightS cleanF (R0 G) (C0 G)) (jH G rightS cleanF (R0 G) (C0 G)) (nT G L0 (jH G rightS cleanF (R0 G) (C0 G))) (uF G) (nW G rightS cleanF (R0 G) (C0 G)) (nS G) e) h
theorem jK(s:PS)(h:s.Inv)(e:Ev){H:Heap}{n:Nat}(hn:n+9≤H.length):Sat (CT G) 13 [.hp (n+8) 0 0 0,e.av] (so H n s) (fun r h'=>r=.bool (s.ok L0 e)∧h'=so H n (s.step L0 e)):=by
 obtain⟨d1,d2⟩:=h.deep e.b;obtain⟨g1,g2⟩:=h.tags e.a;have hl:=(⟨O5 h.l1 (by omega),O5 h.l2 (by omega),O5 h.l3 (by omega),O5 h.l4 (by omega)⟩:s.fo.length≤100∧s.fe.length≤100∧s.it.length≤2000∧s.se.length≤100)
 exact nQ G s e (s.ok L0 e) (tgF ((lkM s.it e.a).getD It.z).tags e.s e.n) h.w3 h.w7 h.few (uD h _ _ (by omega))
  (fun n H hn=>qq G s e (L0.ck e) 7 (s.dpt e.b) d1 (by omega) hl (qr G e) (fun n H hn=>(lh G s e.a e.s g1 (by omega) hn).mono fun r h' ⟨hr,hh⟩=>⟨⟨_,hr⟩,hh⟩) hn)
  (fun n H hn=>mM G s e g1 (by omega) hn) hn
theorem si(es:List Ev)(hl:es.length≤1048576)(h:Heap):Sat (CT G) 11 [.sl 7 (es.map Ev.av)] h (fun r h'=>r=.hp (h.length+8) 0 0 0∧h'=so (h++PS.z.bl h.length) h.length (es.foldl (PS.step L0) PS.z)):=
 qp G es hl PS.Inv (PS.ok L0) (PS.step L0) .z (fun s e _ h=>h.step e) (fun s e _ h n H hn=>jK G s h e hn) h
end
section
variable {s:PS} {e:Ev}
structure PS.Nam (s:PS):Prop where
 w5:WFM s.nm s.c5
 w6:WFM s.pl s.c6
 n1:∀key k,lkM s.nm key=some k→∃f,lkM s.fo k=some f∧(f.inn,f.name)=key
 n2:∀k f,lkM s.fo k=some f→lkM s.nm (f.inn,f.name)=some k
 p1:∀u k,lkM s.pl u=some k→∃f,lkM s.fe k=some f∧f.url=u
 p2:∀k f,lkM s.fe k=some f→lkM s.pl f.url=some k
 g1:∀key k,lkM s.gu key=some k→∃t,lkM s.it k=some t∧(t.feed,t.guid)=key
 g2:∀k t,lkM s.it k=some t→lkM s.gu (t.feed,t.guid)=some k
theorem PS.Nam.z:PS.z.Nam where
 w5:=.nil
 w6:=.nil
 n1:=fun _ _ h=>by cases h
 n2:=fun _ _ h=>by cases h
 p1:=fun _ _ h=>by cases h
 p2:=fun _ _ h=>by cases h
 g1:=fun _ _ h=>by cases h
 g2:=fun _ _ h=>by cases h
theorem kF{κ α:Type}[DecidableEq κ]{m:ML κ Int}{l:ML Int α}{c c':Nat}{key:κ}{a:α}{k:Int}(kf:α→κ)
  (h1:∀q j,lkM m q=some j→∃f,lkM l j=some f∧kf f=q)(h2:∀j f,lkM l j=some f→lkM m (kf f)=some j)(hk:lkM l k=none)(hm:lkM m key=none)(ha:kf a=key):
  (∀q j,lkM (upM m c key k) q=some j→∃f,lkM (upM l c' k a) j=some f∧kf f=q)∧(∀j f,lkM (upM l c' k a) j=some f→lkM (upM m c key k) (kf f)=some j):=by
 refine⟨fun q j hq=>?_,fun j f hf=>?_⟩
 ·rcases aK hq with⟨rfl,rfl⟩| ⟨hne,hq⟩
  ·exact⟨a,by rw[aW,I7 rfl],ha⟩
  ·obtain⟨f,hf,hkf⟩:=h1 q j hq;refine⟨f,?_,hkf⟩;rw[aW,I0 (by rintro rfl;rw[hk]at hf;cases hf)];exact hf
 ·rcases aK hf with⟨rfl,rfl⟩| ⟨hne,hf⟩
  ·rw[ha,aW,I7 rfl]
  ·have:=h2 j f hf;rw[aW,I0 (by intro e;rw[e,hm]at this;cases this)];exact this
theorem oP{κ α:Type}[DecidableEq κ]{m:ML κ Int}{l:ML Int α}{k:Int}{a:α}(kf:α→κ)(nm:(m.map (·.1)).Nodup)(nl:(l.map (·.1)).Nodup)
  (h1:∀q j,lkM m q=some j→∃f,lkM l j=some f∧kf f=q)(h2:∀j f,lkM l j=some f→lkM m (kf f)=some j)(hk:lkM l k=some a):
  (∀q j,lkM (dlM m (kf a)) q=some j→∃f,lkM (dlM l k) j=some f∧kf f=q)∧(∀j f,lkM (dlM l k) j=some f→lkM (dlM m (kf a)) (kf f)=some j):=by
 refine⟨fun q j hq=>?_,fun j f hf=>?_⟩
 ·obtain⟨hne,hq⟩:=cg nm hq;obtain⟨f,hf,hkf⟩:=h1 q j hq;refine⟨f,?_,hkf⟩;rw[dR nl,I0 (by rintro rfl;rw[hk]at hf;cases hf;exact hne hkf.symm)];exact hf
 ·obtain⟨hne,hf⟩:=cg nl hf;have:=h2 j f hf;rw[dR nm,I0 (by intro e;rw[e,h2 k a hk]at this;cases this;exact hne rfl)];exact this
theorem fM{κ α:Type}[DecidableEq κ]{m:ML κ Int}{l:ML Int α}{c:Nat}{k:Int}{a a':α}(kf:α→κ)
  (h1:∀q j,lkM m q=some j→∃f,lkM l j=some f∧kf f=q)(h2:∀j f,lkM l j=some f→lkM m (kf f)=some j)(hk:lkM l k=some a)(ha:kf a'=kf a):
  (∀q j,lkM m q=some j→∃f,lkM (upM l c k a') j=some f∧kf f=q)∧(∀j f,lkM (upM l c k a') j=some f→lkM m (kf f)=some j):=by
 refine⟨fun q j hq=>?_,fun j f hf=>?_⟩
 ·obtain⟨f,hf,hkf⟩:=h1 q j hq;by_cases hj:j=k
  ·subst hj;rw[hk]at hf;cases hf;exact⟨a',by rw[aW,I7 rfl],by rw[ha,hkf]⟩
  ·exact⟨f,by rw[aW,I0 hj];exact hf,hkf⟩
 ·rcases aK hf with⟨rfl,rfl⟩| ⟨hne,hf⟩
  ·rw[ha];exact h2 _ _ hk
  ·exact h2 j f hf
theorem mP{κ α:Type}[DecidableEq κ]{l:ML κ α}(hn:(l.map (·.1)).Nodup){p:κ×α×Nat→Bool}{y:κ}{b:α}(h:lkM l y=some b)(hp:∀n,p (y,b,n)=true):lkM (l.filter p) y=some b:=by
 obtain⟨n,hm⟩:=cN h;exact cu (hn.sublist (List.filter_sublist.map _)) (T4.2 ⟨hm,hp n⟩)
theorem kG{κ α:Type}[DecidableEq κ]{l:ML κ α}(hn:(l.map (·.1)).Nodup){p:κ×α×Nat→Bool}{y:κ}{b:α}(h:lkM (l.filter p) y=some b):lkM l y=some b∧∃n,(y,b,n)∈l∧p (y,b,n)=true:=by
 obtain⟨n,hm⟩:=cN h;have:=T4.1 hm;exact⟨cu hn this.1,n,this.1,this.2⟩
theorem mQ{κ:Type}[DecidableEq κ]{m:ML κ Int}{key:κ}(h:∀j,lkM m key=some j→1≤j)(h0:(lkM m key).getD 0=0):lkM m key=none:=by
 cases hl:lkM m key with
 |none=>rfl
 |some j=>rw[hl]at h0;have:=h j hl;simp at h0;omega
theorem PS.Nam.nm1(h:s.Nam)(hI:s.Inv){key:Int×Bs}{j:Int}(hj:lkM s.nm key=some j):1≤j:=by
 obtain⟨f,hf,_⟩:=h.n1 key j hj;exact(hI.i1 _ _ hf).2.1
theorem PS.Nam.pl1(h:s.Nam)(hI:s.Inv){key:Bs}{j:Int}(hj:lkM s.pl key=some j):1≤j:=by
 obtain⟨f,hf,_⟩:=h.p1 key j hj;exact(hI.i2 _ _ hf).2.1
theorem PS.Nam.gu1(h:s.Nam)(hI:s.Inv){key:Int×Bs}{j:Int}(hj:lkM s.gu key=some j):1≤j:=by
 obtain⟨f,hf,_⟩:=h.g1 key j hj;exact(hI.i3 _ _ hf).2.1
theorem PS.Nam.unFe(h:s.Nam)(hI:s.Inv){k:Int}{f:Fe}(hk:lkM s.fe k=some f):PS.Nam (s.unfeed f):=by
 have hfk:=(hI.i2 _ _ hk).1;obtain⟨q1,q2⟩:=oP (·.url) h.w6.keys hI.w2.keys h.p1 h.p2 hk;unfold PS.unfeed;rw[aO];have hkey:∀j t,lkM s.it j=some t→t.feed=f.id→∀n,(fun e:(Int×Bs)×Int×Nat=> !(s.it.any fun d=>decide (d.2.1.feed=f.id)&&decide (e.1=(d.2.1.feed,d.2.1.guid)))) ((t.feed,t.guid),j,n)=false:=fun j t ht hf n=>by
  obtain⟨m,hm⟩:=cN ht;simp only[Bool.not_eq_false',T6];exact⟨_,hm,by simp[hf]⟩
 exact {h with
  w6:=h.w6.dl _
  p1:=by rw[hfk];exact q1
  p2:=by rw[hfk];exact q2
  g1:=fun key j hj=>by
   obtain⟨h1,n,h2,h3⟩:=kG hI.w7.keys hj;obtain⟨t,ht,hkf⟩:=h.g1 key j h1;refine⟨t,mP hI.w3.keys ht fun n'=>?_,hkf⟩;simp only[M5,decide_eq_false_iff_not];intro hfe;have:=hkey j t ht hfe n;rw[hkf]at this;exact absurd (h3.symm.trans this) (by decide)
  g2:=fun j t ht=>by
   obtain⟨h1,n,h2,h3⟩:=kG hI.w3.keys ht;refine mP hI.w7.keys (h.g2 j t h1) fun n'=>?_
   simp only[M5,decide_eq_false_iff_not]at h3;simp only[M5,T9,I1,I4,not_and];intro d hd hdf hq;have:t.feed=d.2.1.feed:=K9 Prod.fst hq;exact h3 (this.trans hdf)}
theorem PS.Nam.step{L:Leaf}(h:s.Nam)(hI:s.Inv)(e:Ev):(s.step L e).Nam:=by
 unfold PS.step;split
 ·rename_i hok;unfold PS.ok PS.fits at hok;rw[I1]at hok;obtain⟨hck,hf⟩:=hok;unfold PS.aft PS.after;by_cases k1:e.kind=1
  ·rw[I7 k1]at hf;simp only[I1,M5,I4,beq_iff_eq]at hf;rw[I0 (by omega),I0 (by omega),I0 (by omega),I0 (by omega),I0 (by omega),I0 (by omega),I0 (by omega),I0 (by omega),I0 (by omega),PS.make,I7 k1,aO];have hn:=mQ (fun j hj=>h.nm1 hI hj) hf.2;obtain⟨q1,q2⟩:=kF (c:=s.c5) (c':=s.c1) (a:=(⟨e.a,e.b,e.s⟩:Fo)) (fun f:Fo=>(f.inn,f.name)) h.n1 h.n2 (bH hf.1.1.1.1) hn rfl;exact {h with w5:=h.w5.up _ _,n1:=q1,n2:=q2}
  rw[I0 k1]at hf;by_cases k2:e.kind=2
  ·rw[I7 k2]at hf ⊢;simp only[I1,beq_iff_eq]at hf;obtain⟨f,hfo⟩:=b8 hf.1;rw[hfo,aO];obtain⟨q1,q2⟩:=oP (fun f:Fo=>(f.inn,f.name)) h.w5.keys hI.w1.keys h.n1 h.n2 hfo;exact {h with w5:=h.w5.dl _,n1:=q1,n2:=q2}
  rw[I0 k2]at hf ⊢;by_cases k3:e.kind=3
  ·rw[I7 k3]at hf;simp only[I1,M5,I4,beq_iff_eq]at hf;rw[I0 (by omega),I0 (by omega),I0 (by omega),I0 (by omega),I0 (by omega),I0 (by omega),I0 (by omega),I0 (by omega),PS.make,I0 (by omega),I7 k3,aO];have hn:=mQ (fun j hj=>h.pl1 hI hj) hf.2;obtain⟨q1,q2⟩:=kF (c:=s.c6) (c':=s.c2) (a:=(⟨e.a,e.b,e.s,e.t⟩:Fe)) (fun f:Fe=>f.url) h.p1 h.p2 (bH hf.1.1.1) hn rfl;exact {h with w6:=h.w6.up _ _,p1:=q1,p2:=q2}
  rw[I0 k3]at hf;by_cases k4:e.kind=4
  ·rw[I7 (.inl k4)]at hf;rw[I7 k4];obtain⟨f,hfo⟩:=b8 hf;rw[hfo];exact h.unFe hI hfo
  rw[I0 k4];by_cases k5:e.kind=5
  ·rw[I7 (.inr k5)]at hf;rw[I7 k5];obtain⟨f,hfo⟩:=b8 hf;rw[hfo];obtain⟨q1,q2⟩:=fM (c:=s.c2) (a':= {f with title:=e.t}) (fun f:Fe=>f.url) h.p1 h.p2 hfo rfl;exact {h with p1:=q1,p2:=q2}
  rw[I0 (by omega)]at hf;rw[I0 k5];by_cases k6:e.kind=6
  ·rw[I7 k6]at hf ⊢;simp only[I1]at hf;obtain⟨f,hfo⟩:=b8 hf.1;rw[hfo,aO,aO];obtain⟨q1,q2⟩:=fM (c:=s.c2) (a':= {f with inn:=e.b}) (fun f:Fe=>f.url) h.p1 h.p2 hfo rfl;exact {h with p1:=q1,p2:=q2}
  rw[I0 k6]at hf ⊢;by_cases k7:e.kind=7
  ·rw[I7 k7]at hf;simp only[I1,M5,I4,beq_iff_eq]at hf;rw[I0 (by omega),I0 (by omega),I0 (by omega),I0 (by omega),I0 (by omega),PS.make,I0 (by omega),I0 (by omega),I7 k7];have hn:=mQ (fun j hj=>h.gu1 hI hj) hf.2;obtain⟨q1,q2⟩:=kF (c:=s.c7) (c':=s.c3) (a:=(⟨e.a,e.b,e.n,e.s,e.t,e.u,false,false,[]⟩:It)) (fun t:It=>(t.feed,t.guid)) h.g1 h.g2 (bH hf.1.1.1) hn rfl;exact {h with g1:=q1,g2:=q2}
  rw[I0 k7]at hf;by_cases k8:e.kind=8
  ·rw[I7 (.inl k8)]at hf;rw[I7 k8];obtain⟨f,hfo⟩:=b8 hf;rw[hfo];obtain⟨q1,q2⟩:=fM (c:=s.c3) (a':= {f with read:=e.n==1}) (fun t:It=>(t.feed,t.guid)) h.g1 h.g2 hfo rfl;exact {h with g1:=q1,g2:=q2}
  rw[I0 k8];by_cases k9:e.kind=9
  ·rw[I7 (.inr k9)]at hf;rw[I7 k9];obtain⟨f,hfo⟩:=b8 hf;rw[hfo];obtain⟨q1,q2⟩:=fM (c:=s.c3) (a':= {f with star:=e.n==1}) (fun t:It=>(t.feed,t.guid)) h.g1 h.g2 hfo rfl;exact {h with g1:=q1,g2:=q2}
  rw[I0 (by omega)]at hf;rw[I0 k9];by_cases k10:e.kind=10
  ·rw[I7 k10]at hf ⊢;simp only[I1,N6,I4]at hf;obtain⟨f,hfo⟩:=b8 hf.1;rw[hfo];obtain⟨q1,q2⟩:=fM (c:=s.c3) (a':= {f with tags:=tgF f.tags e.s e.n}) (fun t:It=>(t.feed,t.guid)) h.g1 h.g2 hfo rfl;exact {h with g1:=q1,g2:=q2}
  rw[I0 k10];by_cases k12:e.kind=12
  ·rw[I7 k12];exact {h with}
  rw[I0 k12];by_cases k13:e.kind=13
  ·rw[I7 k13];exact {h with}
  rw[I0 k13,PS.make,I0 k1,I0 k3,I0 k7];split
  ·exact {h with}
  ·exact h
 ·exact h
theorem PS.Nam.fold{L:Leaf}(h:s.Nam)(hI:s.Inv)(l:List Ev):(l.foldl (PS.step L) s).Nam:=by
 induction l generalizing s with
 |nil=>exact h
 |cons e l ih=>exact ih (h.step hI e) (hI.step e)
end
section
attribute [local irreducible] WP WPl WPix Sat
variable (G:Nat→Option (List AVal))
def lgE(e:Ev):Bool:=decide ((e.s.length:Int)>1000)||(decide ((e.t.length:Int)>1000)||decide ((e.u.length:Int)>1000))
theorem o1(e:Ev)(h:Heap):Sat (CT G) 34 [e.av] h (fun r h'=>r=.bool (lgE e)∧h'=h):=by
 refine sb [.tmp 2] Tryz.func34 ?_;intro Q hQ;refine wk trivial ?_;cases k1:decide ((e.s.length:Int)>1000)with
 |true=>
  have F:=k1;try refine sq F ?_
  refine wk F ?_;refine ee hQ F ?_;exact I3 (.bool _) ⟨by simp[lgE,k1],rfl⟩
 |false=>
  cases k2:decide ((e.t.length:Int)>1000)with
  |true=>
   have F:=F2 k1 k2;(try refine sq F ?_);refine wk F ?_;refine ee hQ F ?_;exact I3 (.bool _) ⟨by simp[lgE,k1,k2],rfl⟩
  |false=>
   have F:=F2 k1 k2;(try refine sq F ?_);refine wk F ?_;refine ee hQ F ?_;exact I3 (.bool _) ⟨by simp[lgE,k1,k2],rfl⟩
def lgF(es:List Ev):Bool:=decide ((es.length:Int)>150)||es.any lgE
theorem jL(es:List Ev)(h:Heap):Sat (CT G) 8 [.sl 7 (es.map Ev.av)] h (fun r h'=>r=.bool (lgF es)∧h'=h):=by
 refine sb [.tmp 2] Tryz.func8 ?_;intro Q hQ;refine wk trivial ?_;have hel:(es.map Ev.av).length=es.length:=I5 ..;have F:=hel;try refine sq F ?_
 refine cq F (fun c0=>?_) (fun c0=>?_)<;>(try exact c0.elim)<;>(refine wk F ?_)
 ·refine ee hQ F ?_;exact M8 (.bool _) ⟨by simp[lgF];omega,rfl⟩
 ·refine lm (fun nL tL hL=>∃(k:Nat),es.length-k=nL∧[]++h=hL∧tL 0=.sl 7 (es.map Ev.av)∧tL 3=.int .i64 k∧k≤es.length∧(∀e∈es.take k,lgE e=false)) ((fun(k:Nat)=>(es.length-k:Nat)) (0)) ?_ ?_
  ·refine I9 ⟨0,rfl,rfl,?_,?_,by omega,by simp⟩;all_goals try exact zZz F
  rintro _ s2 h' ⟨k,rfl,rfl,e0,e3,hk,hp⟩ K2 hK2;simp only[ah,ao,Nat.reduceEqDiff, ↓reduceIte]at e0 e3;have F:=F3 F e0 e3;refine wk F ?_;refine cq F (fun c1=>?_) (fun c1=>?_)<;>(try exact c1.elim)<;>(refine wk F ?_)
  ·have c2:k<es.length:=(by omega);obtain⟨e,he,_⟩:=ac c2;have F:=F3 F c2 he;(try refine sq F ?_);refine wk F ?_;refine kq F (o1 G e _) ?_;refine cq F (fun c3=>?_) (fun c3=>?_)<;>(try exact c3.elim)<;>(refine wk F ?_)
   ·refine ee hQ F ?_;exact M8 (.bool _) ⟨by
     have:es.any lgE=true:=T6.2 ⟨e,J4 he,c3⟩;simp[lgF,this],rfl⟩
   ·have hp1:∀x∈es.take (k+1),lgE x=false:=by
     rw[N1,he];intro x hx;simp at hx;rcases hx with hx|rfl
     ·exact hp x hx
     ·exact c3
    refine hK2 _ _ _ (I9 ⟨k+1,rfl,rfl,?_,?_,by omega,hp1⟩) (by omega);all_goals try exact zZz F
  ·rw[K6 (by omega)]at hp;refine ee hQ F ?_;exact M8 (.bool _) ⟨by
    have:es.any lgE=false:=by rw[T9];intro x hx;rw[hp x hx];simp
    simp[lgF,this];omega,rfl⟩
end
section
variable {c d:CS} {s:PS} {e:Ev}
end
section
attribute [local irreducible] WP WPl WPix Sat
variable (G:Nat→Option (List AVal))
def CS.mkFo(c:CS)(f:Fo):CS:= {c with fo:=upM c.fo c.c1 f.id (0,0),c1:=ckM c.fo c.c1 f.id,ab:=upM c.ab c.c6 f.id f.inn,c6:=ckM c.ab c.c6 f.id}
def CS.mkFe(c:CS)(f:Fe):CS:= {c with fe:=upM c.fe c.c2 f.id (0,0),c2:=ckM c.fe c.c2 f.id,inn:=upM c.inn c.c5 f.id f.inn,c5:=ckM c.inn c.c5 f.id}
end
section
variable {c d:CS} {s:PS} {e:Ev}
theorem bx{α:Type}{z:α}{l:ML Int α}{k:Int}{a:α}(h:lkM l k=some a):a∈valsM z l:=by
 unfold valsM;refine J5.2 ⟨k,?_,by rw[h];rfl⟩;refine(S4 _ _).mem_iff.2 ?_;obtain⟨n,hn⟩:=cN h;exact J5.2 ⟨_,hn,rfl⟩
theorem sj{α:Type}{z:α}{l:ML Int α}(idf:α→Int)(hid:∀k a,lkM l k=some a→idf a=k)(x:Int):(valsM z l).find? (fun a=>decide (idf a=x))=lkM l x:=by
 cases hl:lkM l x with
 |none=>
  rw[W2];intro a ha;obtain⟨k,hk⟩:=aJ ha;have:=hid k a hk;simp only[I4];rintro rfl;rw[this,hk]at hl;cases hl
 |some a=>
  have hm:=bx (z:=z) hl;have hs:((valsM z l).find? (fun a=>decide (idf a=x))).isSome=true:=by
   rw[List.find?_isSome];exact⟨a,hm,by simp[hid x a hl]⟩
  obtain⟨b,hb⟩:=J7.1 hs;have h1:=List.find?_some hb;simp only[I4]at h1;obtain⟨k,hk⟩:=aJ (W5 hb);have h2:=hid k b hk;rw[hb, ← hl, ← h1,h2,hk]
theorem uH{α:Type}{z:α}{l:ML Int α}{c:Nat}(w:WFM l c)(idf:α→Int)(hid:∀k a,lkM l k=some a→idf a=k):(valsM z l).map idf=sortI (l.map (·.1)):=by
 unfold valsM;rw[X2];have:∀k∈sortI (l.map (·.1)),(idf ∘ fun k=>(lkM l k).getD z) k=k:=fun k hk=>by
  have hk2:k∈l.map (·.1):=(S4 _ _).mem_iff.1 hk;obtain⟨x,hx,rfl⟩:=J5.1 hk2;have:=cu w.keys (b:=x.2.2) (a:=x.2.1) (x:=x.1) hx;simp only[Function.comp,this,O0];exact hid _ _ this
 rw[S5 this,List.map_id']
theorem o2{l:List Int}(h:l.Nodup):(sortI l).Nodup:=(S4 l _).nodup_iff.2 h
theorem aG{α:Type}{z:α}(l:ML Int α):(valsM z l).length=l.length:=by unfold valsM;rw[I5,ce,I5]
end
section
attribute [local irreducible] WP WPl WPix Sat
def sc(Y:Heap)(n:Nat)(s:PS)(m:Nat)(c:CS):Heap:=so (co Y m c) n s
section
variable {Y:Heap} {n m:Nat} {s:PS} {c:CS}
end
variable (G:Nat→Option (List AVal))
section
variable {Y:Heap} {n m:Nat} {s:PS} {c:CS}
end
instance:DecidableEq Ct:=fun x y=>by
 cases x;cases y;simp only[Ct.mk.injEq];exact inferInstance
end
section
attribute [local irreducible] WP WPl WPix Sat
variable (G:Nat→Option (List AVal))
def St.inn(x:St)(id:Int):Int:=((fnd (·.id) x.fo id).map (·.inn)).getD 0
def St.upW(x:St)(u:Int):Nat→Int→Int
 |0,id=>id
 |k+1,id=>if id=u∨id=0 then id else St.upW x u k (x.inn id)
def St.within(x:St)(id u:Int):Bool:=decide (x.upW u 10 id=u)||decide (u=0)
def St.has(x:St)(id:Int):Prop:=id=0∨∃f,fnd (·.id) x.fo id=some f
structure St.Up (x:St):Prop where
 fo:∀f∈x.fo,x.has f.inn
 fe:∀f∈x.fe,x.has f.inn
 it:∀t∈x.it,∃f,fnd (·.id) x.fe t.feed=some f
 l1:x.fo.length≤64
 l2:x.fe.length≤64
 l3:x.it.length≤1024
 tg:∀t∈x.it,t.tags.length≤8
end
section
variable {c:CS} {s:PS}
def chS(fo:ML Int Fo):Nat→Int→Option (List Int)
 |0,id=>if id=0 then some []else none
 |k+1,id=>if id=0 then some []else(chS fo k (((lkM fo id).map (·.inn)).getD 0)).map (id:: ·)
def PS.chn(s:PS)(feed:Int):List Int:=(chS s.fo 7 (((lkM s.fe feed).map (·.inn)).getD 0)).getD []
end
section
attribute [local irreducible] WP WPl WPix Sat
variable (G:Nat→Option (List AVal))
theorem j6{h0 H:Heap}{p v e:Nat}{l:List Bs}(hp:h0.length≤p)(hg:getRow H p v=some (e,1,l.map .str)):Frz H h0.length (.hs p v 0 l.length true) (.sl 1 (l.map .str)):=by
 have:=W3 (n:=h0.length) (len:=l.length) (room:=true) hp hg (by simp) (fun r hr=>by obtain⟨a,_,rfl⟩:=J5.1 hr;exact .str _) (fun r hr c hc=>by obtain⟨a,_,rfl⟩:=J5.1 hr;simp[AVal.cells]at hc;subst hc;rfl);simpa using this
theorem sx(c:Int)(hc:Rune c)(h:Heap):Sat (CT G) 255 [.int .i32 c] h (fun r h'=>r=.int .i32 (foldR c)∧h'=h):=by
 have c0:0≤c∧c≤1114111:=by unfold Rune at hc;omega
 obtain⟨c1,c2⟩:=c0;have w32:c≤2000→IntKind.i32.wrap (c+32)=c+32:=fun _=>bp (by omega) (by omega)
 have w80:c≤2000→IntKind.i32.wrap (c+80)=c+80:=fun _=>bp (by omega) (by omega)
 refine sb [.tmp 2] Tryz.func255 ?_;intro Q hQ;refine wk trivial ?_;repeat' (first
  | (exfalso;omega)
  | (refine cq trivial (fun hx=>?_) (fun hx=>?_)<;>(try exact hx.elim)<;>(refine wk trivial ?_))
  | ((first|refine gq trivial (fun hx=>?_) (fun hx=>?_)|refine pq trivial (fun hx=>?_) (fun hx=>?_))<;>(try exact hx.elim)<;>(try refine sq trivial ?_)<;>(refine wk trivial ?_)))
 all_goals (
  refine ee hQ trivial ?_;exact M8 (.int _ _) ⟨by
   unfold foldR btw;simp only[I1,I4];first
    |rw[I7 (by omega)]
    | (rw[I0 (by omega),I7 (by omega)];first|rfl|rw[w32 (by omega)])
    | (rw[I0 (by omega),I0 (by omega),I7 (by omega)];first|rfl|rw[w80 (by omega)])
    |rw[I0 (by omega),I0 (by omega),I0 (by omega)],rfl⟩)
def letR(c:Int):Bool:=letF c.toNat
theorem o5(c:Int)(hc:Rune c)(h:Heap):Sat (CT G) 236 [.int .i32 c] h (fun r h'=>r=.bool (letR c)∧h'=h):=by
 have c0:0≤c∧c≤1114111:=by unfold Rune at hc;omega
 obtain⟨c1,c2⟩:=c0;refine sb [.tmp 2] Tryz.func236 ?_;intro Q hQ;refine wk trivial ?_;repeat' (first
  | (exfalso;omega)
  | (refine cq trivial (fun hx=>?_) (fun hx=>?_)<;>(try exact hx.elim)<;>(refine wk trivial ?_))
  | ((first|refine gq trivial (fun hx=>?_) (fun hx=>?_)|refine pq trivial (fun hx=>?_) (fun hx=>?_))<;>(try exact hx.elim)<;>(try refine sq trivial ?_)<;>(refine wk trivial ?_)))
 all_goals (
  refine ee hQ trivial ?_;exact M8 (.bool _) ⟨by
    unfold letR letF;congr 1
    symm
    first
     |rw[I7 (by omega)]
     |rw[I0 (by omega)]
    rw[N3];simp only[I1,N6,M5,Bool.or_eq_false_iff,Bool.and_eq_false_iff,I4,decide_eq_false_iff_not,M1,iff_true,iff_false];omega,rfl⟩)
end
section
def segR:List Int→List Int→List (List Int)→List (List Int)
 | [],w,acc=>if w=[]then acc else acc++[w]
 |c::b,w,acc=>if letR c then segR b (w++[c]) acc else segR b [] (if w=[]then acc else acc++[w])
theorem uL(t:Bs)(x y:Nat):((⟨t.toArray⟩:ByteArray).extract x y).data.toList=(t.take y).drop x:=by
 have hext:(⟨t.toArray⟩:ByteArray).extract x y=⟨((t.take y).drop x).toArray⟩:=by
  apply ByteArray.ext
  simp[List.extract_eq_take_drop,List.drop_take]
 rw[hext]
def AtS(t:Bs)(w:List Int)(x:Nat×Nat):Prop:=(t.take x.2).drop x.1=encs w
def AtSL(t:Bs):List (List Int)→List (Nat×Nat)→Prop
 | [],[]=>True
 |w::l,x::m=>AtS t w x∧AtSL t l m
 |_,_=>False
theorem AtSL.snoc{t:Bs}:∀{l:List (List Int)} {m:List (Nat×Nat)} {w:List Int} {x:Nat×Nat},AtSL t l m→AtS t w x→AtSL t (l++[w]) (m++[x])
 | [],[],_,_,_,h=>⟨h,trivial⟩
 |_::_,_::_,_,_,h,h2=>⟨h.1,AtSL.snoc h.2 h2⟩
 | [],_::_,_,_,h,_=>h.elim
 |_::_,[],_,_,h,_=>h.elim
theorem AtSL.map{t:Bs}:∀{l:List (List Int)} {m:List (Nat×Nat)},AtSL t l m→m.map (fun x=>((⟨t.toArray⟩:ByteArray).extract x.1 x.2).data.toList)=l.map encs
 | [],[],_=>rfl
 |w::l,x::m,h=>by rw[K8,K8,AtSL.map h.2,uL,h.1]
 | [],_::_,h=>h.elim
 |_::_,[],h=>h.elim
theorem sy(t:Bs):∀(b a w:List Int) (acc:List (List Int)) (m:List (Nat×Nat)) (f:Nat),(∀c∈b,Rune c)→t=encs (a++w)++encs b→b.length≤f→AtSL t acc m→
  AtSL t (segR b w acc) (Lib.closeSpans ⟨t.toArray⟩ (Lib.spansFromP (fun r=> !letF r) ⟨t.toArray⟩ f (encs (a++w)).length (if w=[]then none else some (encs a).length) m)):=by
 intro b;induction b with
 |nil=>
  intro a w acc m f _ ht _ hm;have hsz:(⟨t.toArray⟩:ByteArray).size=(encs (a++w)).length:=by rw[ht];simp[ByteArray.size,encs]
  have hst:Lib.spansFromP (fun r=> !letF r) ⟨t.toArray⟩ f (encs (a++w)).length (if w=[]then none else some (encs a).length) m=(m,if w=[]then none else some (encs a).length):=by
   cases f with
   |zero=>rfl
   |succ f=>unfold Lib.spansFromP;rw[I0 (by rw[hsz];omega)]
  rw[hst,segR];by_cases hw:w=[]
  ·rw[I7 hw,I7 hw];exact hm
  ·rw[I0 hw,I0 hw];unfold Lib.closeSpans;refine hm.snoc ?_;unfold AtS;simp only[hsz];rw[ht,S3 rfl,cj,List.drop_left' rfl]
 |cons c b ih=>
  intro a w acc m f hb ht hf hm;have hc:=hb c (by simp);have hp:=ii c;have hb':∀x∈b,Rune x:=fun x hx=>hb x (by simp[hx])
  obtain⟨f,rfl⟩:∃g,f=g+1:=⟨f-1,by simp at hf;omega⟩;have hlt:(encs (a++w)).length<(⟨t.toArray⟩:ByteArray).size:=by rw[ht,bq];simp[ByteArray.size];omega
  have hd:Utf8.decode ⟨t.toArray⟩ (encs (a++w)).length=(c.toNat,(enc c).length):=by
   show dec t _=_;rw[ht];exact xC hc
  unfold Lib.spansFromP;rw[I7 hlt,hd,segR];have hfl:b.length≤f:=by simp at hf;omega
  cases hl:letR c with
  |true=>
   have hl2:letF c.toNat=true:=hl;have h1:=ih a (w++[c]) acc m f hb' (by rw[ht,bq, ← N2, ← N2,cj (a++w),eY]) hfl hm;have hne:¬w++[c]=[]:=(by simp);have hlen:(encs (a++(w++[c]))).length=(encs (a++w)).length+(enc c).length:=(by rw[← N2,cj,J3,eY]);rw[I0 hne,hlen]at h1;simp only[hl2,X6,M1,if_false,if_true];by_cases hw:w=[]
   ·subst hw;rw[I7 rfl];simpa using h1
   ·rw[I0 hw];exact h1
  |false=>
   have hl2:letF c.toNat=false:=hl;have hlen:(encs ((a++w++[c])++[])).length=(encs (a++w)).length+(enc c).length:=(by rw[M4,cj,J3,eY]);simp only[hl2,Bool.not_false,if_true,M1,if_false];by_cases hw:w=[]
   ·have h1:=ih (a++w++[c]) [] acc m f hb' (by rw[M4,ht,bq,cj (a++w),eY,N2]) hfl hm;rw[hlen,I7 rfl]at h1;rw[I7 hw,I7 hw];exact h1
   ·have hat:AtS t w ((encs a).length,(encs (a++w)).length):=by
     unfold AtS;simp only[];rw[ht,S3 rfl,cj,List.drop_left' rfl]
    have h1:=ih (a++w++[c]) [] (acc++[w]) (m++[((encs a).length,(encs (a++w)).length)]) f hb' (by rw[M4,ht,bq,cj (a++w),eY,N2]) hfl (hm.snoc hat);rw[hlen,I7 rfl]at h1;rw[I0 hw,I0 hw];exact h1
theorem qx{l:List Int}(h:∀c∈l,Rune c):fldsF (encs l)=(segR l [] []).map encs:=by
 have h1:=sy (encs l) l [] [] [] [] (⟨(encs l).toArray⟩:ByteArray).size h (by simp[encs]) (by have:=(gd l).2;simp[ByteArray.size];omega) trivial;unfold fldsF Lib.goFieldsP Lib.spansOfP;rw[X2];exact h1.map
theorem mX:∀(l:List Int) (f n:Nat),(∀c∈l,Rune c)→(encs l).length≤f→n≤32→shN f (encs l) n=(encs (l.take (32-n))).length
 | [],f,n,_,_,_=>by cases f<;>simp[shN,encs]
 |c::l,f,n,h,hf,hn=>by
  have hc:=h c (by simp);have hp:=ii c;have hl:(encs (c::l)).length=(enc c).length+(encs l).length:=by rw[bq,J3]
  obtain⟨f,rfl⟩:∃g,f=g+1:=⟨f-1,by omega⟩;rw[shN,I0 (by intro e;rw[e]at hl;simp at hl;omega)];by_cases h32:n=32
  ·subst h32;simp[encs]
  ·rw[I0 h32,bq,fy,List.drop_left' rfl];simp only[];rw[mX l f (n+1) (fun x hx=>h x (by simp[hx])) (by omega) (by omega)];obtain⟨k,hk⟩:∃k,32-n=k+1:=⟨31-n,by omega⟩;rw[hk,show 32-(n+1)=k by omega,N0,bq,J3]
theorem uM{l:List Int}(h:∀c∈l,Rune c):shW (encs l)=encs (l.take 32):=by
 unfold shW;rw[mX l _ 0 h (J0 _) (by omega)];have h1:encs l=encs (l.take 32)++encs (l.drop 32):=by rw[← cj,V8]
 rw[show 32-0=32 from rfl]
 conv=>lhs;rw[h1]
 rw[S3 rfl]
def wdsR:List Int→List Int→List Bs→List Bs
 | [],w,out=>if w=[]then out else out++[encs w]
 |c::b,w,out=>if letR c then wdsR b (if w.length<32 then w++[c]else w) out else wdsR b [] (if w=[]then out else out++[encs w])
theorem i8:∀(b w:List Int) (acc:List (List Int)),(∀c∈b,Rune c)→(∀c∈w,Rune c)→(∀v∈acc,∀c∈v,Rune c)→∀v∈segR b w acc,∀c∈v,Rune c
 | [],w,acc,_,hw,ha=>by
  rw[segR];split
  ·exact ha
  ·intro v hv;rcases P6.1 hv with hv|hv
   ·exact ha v hv
   ·simp at hv;subst hv;exact hw
 |c::b,w,acc,hb,hw,ha=>by
  have hb':∀x∈b,Rune x:=fun x hx=>hb x (by simp[hx])
  rw[segR];split
  ·exact i8 b _ acc hb' (fun x hx=>by
    rcases P6.1 hx with hx|hx
    ·exact hw x hx
    ·simp at hx;subst hx;exact hb _ (by simp)) ha
  ·refine i8 b [] _ hb' (fun x hx=>by cases hx) ?_;split
   ·exact ha
   ·intro v hv;rcases P6.1 hv with hv|hv
    ·exact ha v hv
    ·simp at hv;subst hv;exact hw
theorem iu:∀(b w:List Int) (acc:List (List Int)),wdsR b (w.take 32) (acc.map fun v=>encs (v.take 32))=(segR b w acc).map fun v=>encs (v.take 32)
 | [],w,acc=>by
  rw[wdsR,segR];by_cases hw:w=[]
  ·rw[I7 hw,I7 (by rw[hw];rfl)]
  ·rw[I0 hw,I0 (by intro e;rw[List.take_eq_nil_iff]at e;rcases e with e|e;omega;exact hw e)];simp
 |c::b,w,acc=>by
  rw[wdsR,segR];split
  ·rw[← iu b (w++[c]) acc];congr 1
   split
   ·rename_i h;rw[M6]at h;rw[K6 (by omega),K6 (by simp;omega)]
   ·rename_i h;rw[M6]at h;rw[List.take_append_of_le_length (by omega)]
  ·by_cases hw:w=[]
   ·rw[I7 hw,I7 (by rw[hw];rfl), ← iu b [] acc];rfl
   ·rw[I0 hw,I0 (by intro e;rw[List.take_eq_nil_iff]at e;rcases e with e|e;omega;exact hw e), ← iu b [] (acc++[w])];simp
theorem jP(s:Bs):wordsF s=wdsR (runesF (foldS s)) [] []:=by
 have hr:∀c∈ (runesF s).map foldR,Rune c:=fun c hc=>by
  obtain⟨x,hx,rfl⟩:=J5.1 hc;exact gj (cD s.length s (J0 _) x hx)
 unfold wordsF foldS;rw[qx hr,iP hr,X2];have h1:=iu ((runesF s).map foldR) [] [];simp only[List.take_nil,O8]at h1;rw[h1];refine S5 fun v hv=>?_
 exact uM (i8 _ [] [] hr (fun _ h=>by cases h) (fun _ h=>by cases h) v hv)
end
section
attribute [local irreducible] WP WPl WPix Sat
variable (G:Nat→Option (List AVal))
theorem qz(s:Bs)(hs:s.length≤1048576)(h:Heap):Sat (CT G) 174 [.str s] h (fun r h'=>∃v,r=.hs h.length v 0 (runesF s).length true∧h'=h++[.row 21 1 v ((runesF s).map runAN)]):=by
 refine sb [.tmp 2] Tryz.func174 ?_;intro Q hQ;refine wk trivial ?_;refine lm (fun nL tL hL=>∃(k v:Nat) (acc:List Int),s.length-k=nL∧h++[.row 21 1 v (acc.map runAN)]=hL∧tL 0=.str (s.drop k)∧tL 3=.hs h.length v 0 acc.length true∧k≤s.length∧acc.length≤k∧acc++runesF (s.drop k)=runesF s) ((fun(k v:Nat) (acc:List Int)=>(s.length-k:Nat)) (0) (0) ([])) ?_ ?_
 ·refine⟨_,_,U9 3 21 1 (by simp) (by omega) (by exact zq trivial),⟨0,0,[],rfl,aw,?_,?_,?_,?_,?_⟩⟩;all_goals try exact zZz trivial
 rintro _ s2 h' ⟨k,v,acc,rfl,rfl,e0,e3,hk,hl,hp⟩ K2 hK2;simp only[ah,ao,Nat.reduceEqDiff, ↓reduceIte]at e0 e3;have F:=F2 e0 e3;refine wk F ?_;refine cq F (fun c1=>?_) (fun c1=>?_)<;>(try exact c1.elim)<;>(refine wk F ?_)
 ·simp only[M7]at c1;have hlt:k<s.length:=by omega
  have hp2:=aI s k hlt;rw[dU s k hlt]at hp;have hne:s.drop k≠ []:=by intro e;have:=K9 List.length e;simp at this;omega
  refine(gp G (s.drop k) hne (by simp;omega) _).mono ?_;rintro r h' ⟨rfl,rfl⟩;rw[← bj];generalize dec s k=d at*;obtain⟨c,m⟩:=d;simp only[]at hp hp2 ⊢;have hsl:m≤(s.drop k).length:=by simp;omega
  have hdd:(s.drop k).drop m=s.drop (k+m):=R3 ..;have F:=F3 F hsl hdd;try refine sq F ?_
  refine wk F ?_;refine aq F ?_;try refine sq F ?_
  refine wk F ?_;refine hK2 _ _ _ (I9 ⟨k+m,v+1,acc++[(c:Int)],rfl,aw,?_,?_,by omega,by simp;omega,by rw[← hp];simp⟩) (by omega);all_goals try exact zZz F
 ·simp only[M7]at c1;rw[db s k (by omega),M4]at hp;refine wk F ?_;refine ee hQ F ?_;subst hp;exact X8 (by simp) (.hs _ _ _ _ _ (by simp)) ⟨v,rfl,rfl⟩
theorem j7(l:List Int)(hr:∀r∈l,Rune r)(hl:l.length≤1048576){h:Heap}{p v0:Nat}(hg:getRow h p v0=some (21,1,l.map runAN)):Sat (CT G) 176 [.hs p v0 0 l.length true] h (fun x h'=>x=.str (l.flatMap enc)∧h'=h):=by
 have hll:(l.map runAN).length=l.length:=I5 ..;have hpl:=bB hg;have hgj:∀j,getRow (h++j) p v0=some (21,1,l.map runAN):=fun j=>by rw[bE _ hpl];exact hg
 have hra:∀x,runAN x=.int .i32 x:=fun _=>rfl
 have F:=F4 hll hg hgj hra;refine sb [.tmp 2] Tryz.func176 ?_;intro Q hQ;refine wk F ?_;refine lm (fun nL tL hL=>∃(k v:Nat) (acc:Bs),l.length-k=nL∧h++[.row 5 1 v (acc.map bytA)]=hL∧tL 3=.hs h.length v 0 acc.length true∧tL 4=.int .i64 k∧k≤l.length∧acc++(l.drop k).flatMap enc=l.flatMap enc∧acc.length≤4*k) ((fun(k v:Nat) (acc:Bs)=>(l.length-k:Nat)) (0) (0) ([])) ?_ ?_
 ·refine⟨_,_,U9 3 5 1 (by simp) (by omega) (by exact zq F),⟨0,0,[],rfl,aw,?_,?_,?_,?_,?_⟩⟩;all_goals try exact zZz F
 rintro _ s2 h' ⟨k,v,acc,rfl,rfl,e3,e4,hk,hp,hz⟩ K2 hK2;simp only[ah,ao,Nat.reduceEqDiff, ↓reduceIte]at e3 e4;have F:=F3 F e3 e4;refine wk F ?_;refine cq F (fun hc=>?_) (fun hc=>?_)<;>(try exact hc.elim)
 ·obtain⟨y,hy,hym⟩:=ac hc;rw[aA hy,R4]at hp;have he:=dr y;have hel:((enc y).map bytA).length=(enc y).length:=I5 ..;have c2:k<l.length:=by omega
  have F:=F3 F c2 hy;refine wk F ?_;refine kq F (mU G y (hr y hym) _) ?_;refine aq F ?_;try refine sq F ?_
  refine wk F ?_;refine hK2 _ _ _ (I9 ⟨k+1,v+1,acc++enc y,rfl,aw,?_,?_,by omega,by rw[← hp];simp,by simp;omega⟩) (by omega);all_goals try exact zZz F
 ·rw[aE hc,X7,M4]at hp;have hb:=eA acc;have hel:elemsOf (h++[.row 5 1 v (acc.map bytA)]) 1 (.hs h.length v 0 acc.length true)=some (acc.map bytA):=by
   simp[elemsOf,getRow,K6]
  have F:=F4 F hb hel @i7;refine wk F ?_;refine ee hQ F ?_;rw[← hp];exact Fin.plainE (j:=_) rfl (.str _) ⟨rfl,rfl⟩
theorem sA(s:Bs)(hs:s.length≤100000)(h:Heap):Sat (CT G) 235 [.str s] h (fun r h'=>r=.str (foldS s)∧h'=h):=by
 have hll:=bM s.length s (J0 _);have hrl:=cD s.length s (J0 _);have hR:=qz G s (by omega);have hfo:foldS s=((runesF s).map foldR).flatMap enc:=rfl;rw[hfo];generalize runesF s=l at*;refine sb [.tmp 2] Tryz.func235 ?_;intro Q hQ;refine wk trivial ?_;refine(hR _).mono ?_;rintro r h' ⟨v,rfl,rfl⟩;try refine sq trivial ?_
 refine wk trivial ?_;refine lm (fun nL tL hL=>∃(k:Nat),l.length-k=nL∧h++[.row 21 1 v (((l.take k).map foldR++l.drop k).map runAN)]=hL∧tL 3=.hs h.length v 0 l.length true∧tL 4=.int .i64 k∧k≤l.length) ((fun(k:Nat)=>(l.length-k:Nat)) (0)) ?_ ?_
 ·refine I9 ⟨0,rfl,by simp,?_,?_,by omega⟩;all_goals try exact zZz trivial
 rintro _ s2 h' ⟨k,rfl,rfl,e3,e4,hk⟩ K2 hK2;simp only[ah,ao,Nat.reduceEqDiff, ↓reduceIte]at e3 e4;have F:=F2 e3 e4;refine wk F ?_;refine cq F (fun c1=>?_) (fun c1=>?_)<;>(try exact c1.elim)
 ·have c2:k<l.length:=by omega
  obtain⟨y,hy,hym⟩:=ac c2;have hget:((l.take k).map foldR++l.drop k)[k]? =some y:=by
   rw[J1 (by simp;omega),I5,M6,W9 (by omega),U5,N4];simpa using hy
  have hset:(((l.take k).map foldR++l.drop k).map runAN).set k (.int .i32 (foldR y))=((l.take (k+1)).map foldR++l.drop (k+1)).map runAN:=by
   have h1:(AVal.int .i32 (foldR y))=runAN (foldR y):=rfl;rw[h1, ← List.map_set];congr 1
   rw[List.set_append_right _ _ (by simp;omega),I5,M6,W9 (by omega),U5,aA hy,List.set_cons_zero,N1,hy];simp
  have hlen:(((l.take k).map foldR++l.drop k).map runAN).length=l.length:=by simp;omega
  have hra:∀x,runAN x=.int .i32 x:=fun _=>rfl
  generalize (l.take k).map foldR++l.drop k=rw_ at*;have F:=F7 F c2 @hget @hset @hlen hra @ax;try refine sq F ?_
  refine wk F ?_;refine kq F (sx G y (hrl y hym) _) ?_;refine hK2 _ _ _ (I9 ⟨k+1,rfl,rfl,?_,?_,by omega⟩) (by omega);all_goals try exact zZz F
 ·have hk2:k=l.length:=by omega
  subst hk2;have hfin:(l.take l.length).map foldR++l.drop l.length=l.map foldR:=by rw[V6,List.drop_length,M4]
  rw[hfin];have hg:getRow (h++[.row 21 1 v ((l.map foldR).map runAN)]) h.length v=some (21,1,(l.map foldR).map runAN):=by simp[getRow]
  have hP:=j7 G (l.map foldR) (fun r hr=>by obtain⟨x,hx,rfl⟩:=J5.1 hr;exact gj (hrl x hx)) (by simp;omega) hg;rw[I5]at hP;refine wk F ?_;refine kq F (hP) ?_;refine ee hQ F ?_;exact I3 (.str _) ⟨rfl,rfl⟩
theorem qA(a b:List Bs)(ha:a.length≤1000000)(hb:b.length≤1000000)(h:Heap):Sat (CT G) 205 [.sl 1 (a.map .str),.sl 1 (b.map .str)] h (fun r h'=>r=.bool (decide (a=b))∧h'=h):=by
 have ela:(a.map AVal.str).length=a.length:=I5 ..;have elb:(b.map AVal.str).length=b.length:=I5 ..;have F:=F2 @ela @elb;refine sb [.tmp 4] Tryz.func205 ?_;intro Q hQ;refine wk F ?_;refine cq F (fun c0=>?_) (fun c0=>?_)<;>(try exact c0.elim)<;>(refine wk F ?_)
 ·refine ee hQ F ?_;exact M8 (.bool _) ⟨by simp;rintro rfl;omega,rfl⟩
 ·refine lm (fun nL tL hL=>∃(k:Nat),a.length-k=nL∧[]++h=hL∧tL 0=.sl 1 (a.map .str)∧tL 1=.sl 1 (b.map .str)∧tL 5=.int .i64 k∧k≤a.length∧a.take k=b.take k) ((fun(k:Nat)=>(a.length-k:Nat)) (0)) ?_ ?_
  ·refine I9 ⟨0,rfl,rfl,?_,?_,?_,by omega,by simp⟩;all_goals try exact zZz F
  rintro _ s2 h' ⟨k,rfl,rfl,e0,e1,e5,hk,hp⟩ K2 hK2;simp only[ah,ao,Nat.reduceEqDiff, ↓reduceIte]at e0 e1 e5;have F:=F4 F e0 e1 e5;refine wk F ?_;refine cq F (fun c1=>?_) (fun c1=>?_)<;>(try exact c1.elim)<;>(refine wk F ?_)
  ·have c2:k<a.length:=(by omega);have c2b:k<b.length:=(by omega);obtain⟨x,hx,_⟩:=ac c2;obtain⟨y,hy,_⟩:=ac c2b;have F:=F5 F c2 @c2b hx hy;(try refine sq F ?_);refine wk F ?_;refine cq F (fun c3=>?_) (fun c3=>?_)<;>(try exact c3.elim)<;>(refine wk F ?_)
   ·refine ee hQ F ?_;exact M8 (.bool _) ⟨by
     simp;rintro rfl;rw[hx]at hy;cases hy;simp at c3,rfl⟩
   ·have c4:x=y:=(by simpa using c3);have hp1:a.take (k+1)=b.take (k+1):=(by rw[N1,N1,hx,hy,hp,c4]);refine hK2 _ _ _ (I9 ⟨k+1,rfl,rfl,?_,?_,?_,by omega,hp1⟩) (by omega);all_goals try exact zZz F
  ·rw[K6 (by omega),K6 (by omega)]at hp;refine ee hQ F ?_;exact M8 (.bool _) ⟨by simp[hp],rfl⟩
theorem kH(n:Int)(h:Heap):Sat (CT G) 167 [.int .i64 n] h (fun r h'=>r=.bool (idF n)∧h'=h):=by
 by_cases k:1≤n
 ·have k2:decide (n≥1)=true:=by simpa using k
  have F:=k2;refine sb [.tmp 2] Tryz.func167 ?_;intro Q hQ;refine wk F ?_;refine ee hQ F ?_;exact M8 (.bool _) ⟨by simp[idF,k],rfl⟩
 ·have k2:decide (n≥1)=false:=by simpa using k
  have F:=k2;refine sb [.tmp 2] Tryz.func167 ?_;intro Q hQ;refine wk F ?_;refine ee hQ F ?_;exact M8 (.bool _) ⟨by simp[idF,k],rfl⟩
theorem mY(y a d:Int)(ds:List Int)(ha:0≤a∧a≤4000000)(hd:1≤d∧d≤31)(hl:ds.length≤11)(hA:∀h,Sat (CT G) 276 [.int .i64 y] h (fun r h'=>r=.int .i64 a∧h'=h))
  (hD:∀(j:Nat) (x:Int),ds[j]? =some x→(0≤x∧x≤31)∧∀h,Sat (CT G) 277 [.int .i64 y,.int .i64 ((j+1:Nat):Int)] h (fun r h'=>r=.int .i64 x∧h'=h))(h:Heap):
  Sat (CT G) 254 [.int .i64 y,.int .i64 ((ds.length+1:Nat):Int),.int .i64 d] h (fun r h'=>r=.int .i64 (a+d-1+ds.sum)∧h'=h):=by
 refine sb [.tmp 6] Tryz.func254 ?_;intro Q hQ;refine wk trivial ?_;refine kq trivial (hA _) ?_;refine lm (fun nL tL hL=>∃(j:Nat) (v:Int),ds.length-j=nL∧h=hL∧tL 7=.int .i64 v∧tL 8=.int .i64 ((j+1:Nat):Int)∧j≤ds.length∧v=a+d-1+(ds.take j).sum∧0≤v∧v≤5000000+31*j) ((fun(j:Nat) (v:Int)=>(ds.length-j:Nat)) (0) (a+d-1)) ?_ ?_
 ·refine I9 ⟨0,a+d-1,rfl,aw,?_,?_,by omega,by simp,by omega,by omega⟩;all_goals try exact zZz trivial
 rintro _ s2 h' ⟨j,v,rfl,rfl,e7,e8,hj,hv,h0,h1⟩ K2 hK2;simp only[ah,ao,Nat.reduceEqDiff, ↓reduceIte]at e7 e8;have F:=F2 e7 e8;by_cases c1:j<ds.length
 ·obtain⟨x,hx,_⟩:=ac c1;obtain⟨hb,hD1⟩:=hD j x hx;have q:decide (j+1<ds.length+1)=true:=by simp;omega
  have hs:a+d-1+(ds.take (j+1)).sum=v+x:=by rw[N1,hx,hv];simp;omega
  have F:=F2 F q;try refine sq F ?_
  refine wk F ?_;refine kq F (hD1 _) ?_;refine hK2 _ _ _ (I9 ⟨j+1,v+x,rfl,aw,?_,?_,by omega,hs.symm,by omega,by omega⟩) (by omega);all_goals try exact zZz F
 ·have q:decide (j+1<ds.length+1)=false:=by simp;omega
  rw[K6 (by omega)]at hv;have F:=F2 F q;try refine sq F ?_
  refine wk F ?_;refine ee hQ F ?_;rw[hv];exact M8 (.int _ _) ⟨rfl,rfl⟩
theorem jQ(y a:Int)(q4 q100 q400:Int)(h4:(y-1).tdiv 4=q4)(h100:(y-1).tdiv 100=q100)(h400:(y-1).tdiv 400=q400)(hy:1≤y∧y≤9999)(hb:0≤q4∧q4≤9999∧0≤q100∧q100≤9999∧0≤q400∧q400≤9999)(e:365*(y-1)+q4-q100+q400=a)(h:Heap):
  Sat (CT G) 276 [.int .i64 y] h (fun r h'=>r=.int .i64 a∧h'=h):=by
 have F:=F3 h4 h100 h400;refine sb [.tmp 2] Tryz.func276 ?_;intro Q hQ;refine wk F ?_;refine ee hQ F ?_;rw[e];exact M8 (.int _ _) ⟨rfl,rfl⟩
theorem qB(h:Heap):Sat (CT G) 285 [.int .i64 9999] h (fun r h'=>r=.bool false∧h'=h):=by
 have h4:(9999:Int).tmod 4=3:=rfl;have h400:(9999:Int).tmod 400=399:=rfl;have F:=F2 h4 h400;refine sb [.tmp 2] Tryz.func285 ?_;intro Q hQ;refine wk F ?_;refine ee hQ F ?_;exact M8 (.bool _) ⟨rfl,rfl⟩
theorem qC(j:Nat)(x:Int)(hx:[31,28,31,30,31,30,31,31,30,31,30][j]? =some x):(0≤x∧x≤31)∧∀h,Sat (CT G) 277 [.int .i64 9999,.int .i64 ((j+1:Nat):Int)] h (fun r h'=>r=.int .i64 x∧h'=h):=by
 have hj:j<11:=(f9.1 hx).1;have dt:∀i:Decidable True, @decide True i=true:=fun i=>by simp
 have df:∀i:Decidable False, @decide False i=false:=fun i=>by simp
 have hm:j=0∨j=1∨j=2∨j=3∨j=4∨j=5∨j=6∨j=7∨j=8∨j=9∨j=10:=by omega
 rcases hm with rfl|rfl|rfl|rfl|rfl|rfl|rfl|rfl|rfl|rfl|rfl;all_goals (
  cases hx;refine⟨by omega,fun h=>?_⟩;have F:=F2 dt df;refine sb [.tmp 4] Tryz.func277 ?_;intro Q hQ;refine wk F ?_;try refine kq F (qB G _) ?_
  refine ee hQ F ?_;exact M8 (.int _ _) ⟨rfl,rfl⟩)
theorem lj(h:Heap):Sat (CT G) 233 [] h (fun r h'=>r=.int .i64 62135596800∧h'=h):=by
 have hd:=mY G 1970 719162 1 [] (by omega) (by omega) (by simp) (jQ G 1970 719162 492 19 4 rfl rfl rfl (by omega) (by omega) rfl) (fun j x hx=>by simp at hx);simp only[L8,List.sum_nil]at hd;refine sb [.tmp 0] Tryz.func233 ?_;intro Q hQ;refine wk trivial ?_;refine kq trivial (hd _) ?_;refine ee hQ trivial ?_;exact M8 (.int _ _) ⟨rfl,rfl⟩
theorem qD(h:Heap):Sat (CT G) 203 [] h (fun r h'=>r=.int .i64 (-62135596800)∧h'=h):=by
 refine sb [.tmp 0] Tryz.func203 ?_;intro Q hQ;refine wk trivial ?_;refine kq trivial (lj G _) ?_;refine ee hQ trivial ?_;exact M8 (.int _ _) ⟨rfl,rfl⟩
theorem sB(h:Heap):Sat (CT G) 204 [] h (fun r h'=>r=.int .i64 253402300799∧h'=h):=by
 have hd:=mY G 9999 3651694 31 [31,28,31,30,31,30,31,31,30,31,30] (by omega) (by omega) (by simp) (jQ G 9999 3651694 2499 99 24 rfl rfl rfl (by omega) (by omega) rfl) (qC G);have es:([31,28,31,30,31,30,31,31,30,31,30]:List Int).sum=334:=by decide
 simp only[es,I6,L8]at hd;have hM:∀h,Sat (CT G) 234 [.agg [.int .i64 9999,.int .i64 12,.int .i64 31,.int .i64 23,.int .i64 59,.int .i64 59]] h (fun r h'=>r=.int .i64 253402300799∧h'=h):=fun h=>by
  refine sb [.tmp 2] Tryz.func234 ?_;intro Q hQ;refine wk trivial ?_;refine aH (hd _) ?_;try refine sq trivial ?_
  refine wk trivial ?_;refine aH (lj G _) ?_;try refine sq trivial ?_
  refine wk trivial ?_;refine ee hQ trivial ?_;exact I3 (.int _ _) ⟨rfl,rfl⟩
 refine sb [.tmp 0] Tryz.func204 ?_;intro Q hQ;refine wk trivial ?_;refine kq trivial (hM _) ?_;refine ee hQ trivial ?_;exact M8 (.int _ _) ⟨rfl,rfl⟩
theorem uN(hc:GClo (CT G))(n:Int)(h:Heap):Sat (CT G) 171 [.int .i64 n] h (fun r h'=>r=.bool (momF n)∧h'=h):=by
 have h1:=qD G;have h2:=sB G;by_cases k: -62135596800≤n
 ·have k2:decide (n≥ -62135596800)=true:=by simpa using k
  have F:=k2;refine sb [.tmp 2] Tryz.func171 ?_;intro Q hQ;refine wk F ?_;refine kq F (h1 _) ?_;refine kq F (h2 _) ?_;refine ee hQ F ?_;exact M8 (.bool _) ⟨by simp[momF,k],rfl⟩
 ·have k2:decide (n≥ -62135596800)=false:=by simpa using k
  have F:=k2;refine sb [.tmp 2] Tryz.func171 ?_;intro Q hQ;refine wk F ?_;refine kq F (h1 _) ?_;refine ee hQ F ?_;exact M8 (.bool _) ⟨by simp[momF,k],rfl⟩
end
section
attribute [local irreducible] WP WPl WPix Sat
set_option pp.deepTerms true
set_option pp.maxSteps 200000
variable (G:Nat→Option (List AVal))
theorem j8:∀(b w:List Int) (out:List Bs),(wdsR b w out).length≤out.length+b.length+1
 | [],w,out=>by rw[wdsR];split<;>simp
 |c::b,w,out=>by
  rw[wdsR];split
  ·have:=j8 b (if w.length<32 then w++[c]else w) out;simp only[I6];omega
  ·have:=j8 b [] (if w=[]then out else out++[encs w]);have h2:(if w=[]then out else out++[encs w]).length≤out.length+1:=(by split<;>simp);simp only[I6];omega
theorem qE(s:Bs)(hs:s.length≤20000)(h:Heap):Sat (CT G) 206 [.str s] h (fun r h'=>r=.sl 1 ((wordsF s).map .str)∧h'=h):=by
 have hfl:=hU s;have hR:=jO G (foldS s) (by omega);have hrn:=cD (foldS s).length (foldS s) (J0 _);have hrl:=bM (foldS s).length (foldS s) (J0 _);rw[jP];generalize runesF (foldS s)=rs at*;have hel:(rs.map runAN).length=rs.length:=I5 ..;have hra:∀x,runAN x=.int .i32 x:=fun _=>rfl
 have F:=F2 hel hra;refine sb [.tmp 2] Tryz.func206 ?_;intro Q hQ;refine wk F ?_;refine kq F (sA G s (by omega) _) ?_;refine kq F (hR _) ?_;refine lm (fun nL tL hL=>∃(i po vo:Nat) (hh:Heap) (out:List Bs) (w:List Int) (x:AVal),rs.length+1-i=nL∧hh=hL∧tL 3=.sl 1 (rs.map runAN)∧tL 4=.hs po vo 0 out.length true∧tL 5=x∧tL 6=.int .i64 i∧i≤rs.length+1∧((w=[]∧x=.nil (.slice none 0 0))∨(∃p v,x=.hs p v 0 w.length true∧getRow hh p v=some (21,1,w.map runAN)∧h.length≤p∧p≠po))∧getRow hh po vo=some (9,1,out.map .str)∧(FrN h.length h hh∧h.length≤po)∧wdsR (rs.drop i) w out=wdsR rs [] []∧(w.length≤32∧out.length≤i∧(∀c∈w,Rune c)∧(i=rs.length+1→w=[]))) ((fun(i po vo:Nat) (hh:Heap) (out:List Bs) (w:List Int) (x:AVal)=>(rs.length+1-i:Nat)) (0) (h.length) (0) (h++[.row 9 1 0 []]) ([]) ([]) (.nil (.slice none 0 0))) ?_ ?_
 ·refine⟨_,_,U9 4 9 1 (by simp) (by omega) (by exact zq F),⟨0,h.length,0,h++[.row 9 1 0 []],[],[],.nil (.slice none 0 0),rfl,aw,?_,?_,?_,?_,by omega,.inl ⟨rfl,rfl⟩,by rw[aR _ rfl];rfl,⟨U4 _ (by omega) (T8 _ _),by omega⟩,by simp,⟨by simp,by simp,by simp,by simp⟩⟩⟩;all_goals try exact zZz F
 rintro _ s2 h' ⟨i,po,vo,hh,out,w,x,rfl,rfl,e3,e4,e5,e6,hi,hx,hg,hfr,hv,hwl⟩ K2 hK2;simp only[ah,ao,Nat.reduceEqDiff, ↓reduceIte]at e3 e4 e5 e6;have F:=F5 F e3 e4 e5 e6;have hgl:=bB hg;obtain⟨hw1,hw2,hw3,hw4⟩:=hwl;obtain⟨hfr,hpo⟩:=hfr;have hol:(out.map AVal.str).length=out.length:=I5 ..;have hwm:(w.map runAN).length=w.length:=I5 ..;have dt:∀i:Decidable True, @decide True i=true:=fun i=>M0 trivial
 have done0:∀(q:Nat),letR (rs.getD i 0)=false∨rs.length≤i→i≤rs.length→wdsR (rs.drop (i+1)) [] (if w=[]then out else out++[encs w])=wdsR rs [] []:=fun _ hl hle=>by
  rw[← hv];rcases R1 i rs.length with hlt|hge
  ·obtain⟨y,hy,_⟩:=ac hlt;have hly:letR y=false:=by
    rcases hl with hl|hl
    ·rw[P7,hy]at hl;exact hl
    ·omega
   rw[aA hy,wdsR];simp only[hly,M1,if_false]
  ·rw[aE hge,aE (by omega),wdsR,wdsR];simp
 have F:=F4 F hg hol hwm;try refine sq F ?_
 refine wk F ?_;refine cq F (fun c1=>?_) (fun c1=>?_)<;>(try exact c1.elim)<;>(refine wk F ?_)
 ·have c2:i≤rs.length:=by omega
  have fin0:True:=trivial;by_cases c3:i<rs.length
  ·obtain⟨y,hy,hym⟩:=ac c3;have d3:decide (i<rs.length)=true:=(by simp;omega);have hl:=o5 G y (hrn y hym);have hv2:=hv;rw[aA hy,wdsR]at hv2;have hgd:rs.getD i 0=y:=(by rw[P7,hy];rfl);rw[hgd]at done0;cases hlt:letR y with
   |true=>
    rw[hlt]at hl hv2;rw[I7 rfl]at hv2;have F:=F4 F hy c3 dt;(try refine sq F ?_);refine wk F ?_;refine kq F (hl _) ?_;rcases hx with⟨rfl,rfl⟩| ⟨p,v,rfl,hgw,hp1,hp2⟩
    ·(try refine sq F ?_);refine wk F ?_;refine tw (.inl rfl) (by simp(disch:=first|omega| (simp only[go_sem, ↓reduceIte,seval];first|done|omega)|fail) only[go_sem, ↓reduceIte,seval,F];try rfl) (by simp(disch:=first|omega| (simp only[go_sem, ↓reduceIte,seval];first|done|omega)|fail) only[go_sem, ↓reduceIte,seval,F];try rfl) (by simp(disch:=first|omega| (simp only[go_sem, ↓reduceIte,seval];first|done|omega)|fail) only[go_sem, ↓reduceIte,seval,F];try rfl) (by simp(disch:=first|omega| (simp only[go_sem, ↓reduceIte,seval];first|done|omega)|fail) only[go_sem, ↓reduceIte,seval,F];try rfl) (by omega) (by simp only[elemsOf, ↓reduceIte];rfl) ⟨by simp[maxLen],by simp⟩ ?_;(try refine sq F ?_);refine wk F ?_;refine hK2 _ _ _ (I9 ⟨i+1,po,vo,hh++[.row 21 1 0 [runAN y]],out,[y],.hs hh.length 0 0 1 true,rfl,aw,?_,?_,?_,?_,by omega,.inr ⟨hh.length,0,rfl,by rw[aR _ rfl];rfl,(by omega),by omega⟩,by rw[bE _ hgl];exact hg,⟨U4 _ ((by omega)) hfr,hpo⟩,by simpa using hv2,⟨by simp,by omega,fun c hc=>by simp at hc;subst hc;exact hrn _ hym,by omega⟩⟩) (by omega);all_goals try exact zZz F
    ·have hpl:=bB hgw;have F:=F3 F hgw @ax;(try refine sq F ?_);refine wk F ?_;refine cq F (fun c4=>?_) (fun c4=>?_)<;>(try exact c4.elim)<;>(refine wk F ?_)
     ·rw[I7 (by omega)]at hv2;refine aq F ?_;(try refine sq F ?_);refine wk F ?_;refine hK2 _ _ _ (I9 ⟨i+1,po,vo,hh.set p (.row 21 1 (v+1) ((w++[y]).map runAN)),out,w++[y],.hs p (v+1) 0 (w++[y]).length true,rfl,by simp[runAN],?_,?_,?_,?_,by omega,.inr ⟨p,v+1,rfl,by rw[bV _ _ _ _ _ hpl,I7 rfl],hp1,hp2⟩,by rw[ba _ _ hp2];exact hg,⟨T7 _ hp1 hfr,hpo⟩,hv2,⟨by simp;omega,by omega,fun c hc=>by rcases P6.1 hc with hc|hc;exact hw3 c hc;simp at hc;subst hc;exact hrn _ hym,by omega⟩⟩) (by omega);all_goals try exact zZz F
     ·rw[I0 (by omega)]at hv2;refine hK2 _ _ _ (I9 ⟨i+1,po,vo,hh,out,w,.hs p v 0 w.length true,rfl,rfl,?_,?_,?_,?_,by omega,.inr ⟨p,v,rfl,hgw,hp1,hp2⟩,hg,⟨hfr,hpo⟩,hv2,⟨hw1,by omega,hw3,by omega⟩⟩) (by omega);all_goals try exact zZz F
   |false=>
    have hd:=done0 0 (.inl hlt) c2;rw[hlt]at hl;have F:=F4 F hy c3 dt;(try refine sq F ?_);refine wk F ?_;refine kq F (hl _) ?_;rcases hx with⟨rfl,rfl⟩| ⟨p,v,rfl,hgw,hp1,hp2⟩
    ·rw[I7 rfl]at hd;(try refine sq F ?_);refine wk F ?_;refine cq F (fun c5=>?_) (fun c5=>?_)<;>(try exact c5.elim)<;>(refine wk F ?_)
     refine hK2 _ _ _ (I9 ⟨i+1,po,vo,hh,out,[],.nil (.slice none 0 0),rfl,rfl,?_,?_,?_,?_,by omega,.inl ⟨rfl,rfl⟩,hg,⟨hfr,hpo⟩,hd,⟨by simp,by omega,by simp,fun _=>rfl⟩⟩) (by omega);all_goals try exact zZz F
    ·have hpl:=bB hgw;have hP:=j7 G w hw3 (by omega) hgw;have F:=F3 F hgw @ax;(try refine sq F ?_);refine wk F ?_;refine cq F (fun c5=>?_) (fun c5=>?_)<;>(try exact c5.elim)<;>(refine wk F ?_)
     ·have hw0:¬w=[]:=(by rintro rfl;simp at c5);rw[I0 hw0]at hd;refine kq F (hP) ?_;refine aq F ?_;(try refine sq F ?_);refine wk F ?_;refine hK2 _ _ _ (I9 ⟨i+1,po,vo+1,hh.set po (.row 9 1 (vo+1) ((out++[encs w]).map .str)),out++[encs w],[],.nil (.slice none 0 0),rfl,by simp[encs],?_,?_,?_,?_,by omega,.inl ⟨rfl,rfl⟩,by rw[bV _ _ _ _ _ hgl,I7 rfl],⟨T7 _ hpo hfr,hpo⟩,hd,⟨by simp,by simp;omega,by simp,fun _=>rfl⟩⟩) (by omega);all_goals try exact zZz F
     ·have hw0:w=[]:=(by cases w with|nil=>rfl|cons a l=>exfalso;simp only[I6]at c5;omega);rw[I7 hw0]at hd;subst hw0;refine hK2 _ _ _ (I9 ⟨i+1,po,vo,hh,out,[],.hs p v 0 0 true,rfl,rfl,?_,?_,?_,?_,by omega,.inr ⟨p,v,rfl,hgw,hp1,hp2⟩,hg,⟨hfr,hpo⟩,hd,⟨by simp,by omega,by simp,fun _=>rfl⟩⟩) (by omega);all_goals try exact zZz F
  ·have d3:decide (i<rs.length)=false:=(by simp;omega);have hd:=done0 0 (.inr (by omega)) c2;have F:=F2 F d3;(try refine sq F ?_);refine wk F ?_;rcases hx with⟨rfl,rfl⟩| ⟨p,v,rfl,hgw,hp1,hp2⟩
   ·rw[I7 rfl]at hd;(try refine sq F ?_);refine wk F ?_;refine cq F (fun c5=>?_) (fun c5=>?_)<;>(try exact c5.elim)<;>(refine wk F ?_)
    refine hK2 _ _ _ (I9 ⟨i+1,po,vo,hh,out,[],.nil (.slice none 0 0),rfl,rfl,?_,?_,?_,?_,by omega,.inl ⟨rfl,rfl⟩,hg,⟨hfr,hpo⟩,hd,⟨by simp,by omega,by simp,fun _=>rfl⟩⟩) (by omega);all_goals try exact zZz F
   ·have hpl:=bB hgw;have hP:=j7 G w hw3 (by omega) hgw;have F:=F3 F hgw @ax;(try refine sq F ?_);refine wk F ?_;refine cq F (fun c5=>?_) (fun c5=>?_)<;>(try exact c5.elim)<;>(refine wk F ?_)
    ·have hw0:¬w=[]:=(by rintro rfl;simp at c5);rw[I0 hw0]at hd;refine kq F (hP) ?_;refine aq F ?_;(try refine sq F ?_);refine wk F ?_;refine hK2 _ _ _ (I9 ⟨i+1,po,vo+1,hh.set po (.row 9 1 (vo+1) ((out++[encs w]).map .str)),out++[encs w],[],.nil (.slice none 0 0),rfl,by simp[encs],?_,?_,?_,?_,by omega,.inl ⟨rfl,rfl⟩,by rw[bV _ _ _ _ _ hgl,I7 rfl],⟨T7 _ hpo hfr,hpo⟩,hd,⟨by simp,by simp;omega,by simp,fun _=>rfl⟩⟩) (by omega);all_goals try exact zZz F
    ·have hw0:w=[]:=(by cases w with|nil=>rfl|cons a l=>exfalso;simp only[I6]at c5;omega);rw[I7 hw0]at hd;subst hw0;refine hK2 _ _ _ (I9 ⟨i+1,po,vo,hh,out,[],.hs p v 0 0 true,rfl,rfl,?_,?_,?_,?_,by omega,.inr ⟨p,v,rfl,hgw,hp1,hp2⟩,hg,⟨hfr,hpo⟩,hd,⟨by simp,by omega,by simp,fun _=>rfl⟩⟩) (by omega);all_goals try exact zZz F
 ·have hie:i=rs.length+1:=by omega
  have hwe:=hw4 hie;subst hwe;rw[aE (by omega),wdsR,I7 rfl]at hv;obtain⟨j,rfl⟩:=hfr.behind (by omega);refine ee hQ F ?_;rw[← hv];exact Fin.frz (j6 hpo hg) ⟨rfl,rfl⟩
theorem uO(t:Bs)(h:Heap):Sat (CT G) 172 [.str t] h (fun r h'=>r=.bool (L0.tag t)∧h'=h):=by
 have hL:=iK G rightS cleanF (fun t ht h=>iN G t (by omega) h) (fun t ht h=>iO G t (by omega) h) t;have hu:L0.tag t=((!(t==[])&&textF rightS cleanF t 64)&&isF t):=rfl;rw[hu];cases hl:(!(t==[])&&textF rightS cleanF t 64)with
 |false=>
  rw[hl]at hL;refine sb [.tmp 2] Tryz.func172 ?_;intro Q hQ;refine wk trivial ?_;refine kq trivial (hL _) ?_;refine ee hQ trivial ?_;exact M8 (.bool _) ⟨by simp,rfl⟩
 |true=>
  rw[hl]at hL;have hlen:t.length≤64:=by
   rw[I1]at hl;have:=hl.2;unfold textF at this;rw[I1,I4]at this;omega
  have hwl:(wordsF t).length≤1000000:=by
   have h1:=j8 (runesF (foldS t)) [] [];have h2:=bM (foldS t).length (foldS t) (J0 _);have h3:=hU t;rw[← jP]at h1;simp only[L8]at h1;omega
  have hS:=qA G (wordsF t) [t] hwl (by simp);refine sb [.tmp 2] Tryz.func172 ?_;intro Q hQ;refine wk trivial ?_;refine kq trivial (hL _) ?_;refine kq trivial (qE G t (by omega) _) ?_;refine kq trivial (hS _) ?_;refine ee hQ trivial ?_;exact M8 (.bool _) ⟨by simp[isF],rfl⟩
end
section
def sumZ:List Int→Int
 | []=>0
 |a::l=>a+sumZ l
def S2{α:Type}(F:List α)(L:List It)(P:α→It→Bool):Int:=sumZ (F.map fun g=>(L.countP (P g):Int))
variable {s:PS}
def PS.inn(s:PS)(id:Int):Int:=((lkM s.fo id).map (·.inn)).getD 0
end
end Go.Av
