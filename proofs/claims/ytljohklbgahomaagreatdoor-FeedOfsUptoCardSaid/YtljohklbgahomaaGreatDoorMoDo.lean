/- The document's dates of the mail. -/
import Derived.Test.YtljohklbgahomaaGreatDoorMoDm4
import Derived.Test.YtljohklbgahomaaGreatDoorMoDz
set_option linter.unusedSimpArgs false
set_option linter.unusedVariables false
set_option linter.unusedSectionVars false
set_option linter.unnecessarySimpa false
set_option maxRecDepth 100000
set_option maxHeartbeats 16000000
namespace Go.Av
open Go Go.Proofs Go.RowKit
attribute [local irreducible] WP WPl WPix Sat
variable (G:Nat→Option (List AVal))
theorem Rdr.point_le{r:Rdr}:r.point.s.length≤r.s.length:=by
 unfold Rdr.point
 split
 ·rename_i h;rw[h];simp;omega
 ·exact Nat.le_refl _
theorem gK{C:Ctx}{ops:Array Oper}{x:Operand}{i:Nat}{ty:TypeId}{pos:String}{aft:Array Edge}{dst:Option Tmp}{t:Env}{h:Heap}{vs:List AVal}{v:AVal}{K:AVal→Heap→Prop}(hx:aev C.G t x=.tup vs)(hv:vs[i]? =some v)(hk:K v h):
  wpOperV C ops ⟨dst,.extract x i,ty,pos,aft,none⟩ t h K:=by
 show(match aev C.G t x with| .tup vs=>need vs[i]? (K · h)|_=>False)
 rw[hx]
 show need vs[i]? (K · h)
 rw[hv]
 exact hk
theorem bv(N:Nat)(a c:Int):Clo N (.tup [.int .i64 a,.int .i64 c]):=.tup _ (fun x hx=>by simp only[List.mem_cons,List.not_mem_nil,or_false]at hx;rcases hx with rfl|rfl<;>exact .int _ _)
theorem lj(s:Bs)(hs:s.length≤1073741824)(h:Heap):Sat (CT G) 183 [.str s] h (fun r h'=>r=.tup [.int .i64 ((webP s).getD 0),.int .i64 (if (webP s).isSome then 0 else 40)]∧h'=h):=by
 rcases e1:(Rdr.mk s false).digits 4 with⟨y,s1,b1⟩
 rcases e2:(Rdr.mk s1 b1).sign [45]with⟨x2,s2,b2⟩
 rcases e3:(Rdr.mk s2 b2).digits 2 with⟨m,s3,b3⟩
 rcases e4:(Rdr.mk s3 b3).sign [45]with⟨x4,s4,b4⟩
 rcases e5:(Rdr.mk s4 b4).digits 2 with⟨d,s5,b5⟩
 rcases e6:(Rdr.mk s5 b5).sign [84,116]with⟨x6,s6,b6⟩
 rcases e7:(Rdr.mk s6 b6).digits 2 with⟨hh,s7,b7⟩
 rcases e8:(Rdr.mk s7 b7).sign [58]with⟨x8,s8,b8⟩
 rcases e9:(Rdr.mk s8 b8).digits 2 with⟨i,s9,b9⟩
 rcases e10:(Rdr.mk s9 b9).sign [58]with⟨x10,s10,b10⟩
 rcases e11:(Rdr.mk s10 b10).digits 2 with⟨c,s11,b11⟩
 rcases e12:(Rdr.mk s11 b11).point with⟨s12,b12⟩
 rcases e13:(Rdr.mk s12 b12).zone with⟨z,s13,b13⟩
 have ew:webP s=(Rdr.mk s13 b13).told ⟨y,m,d,hh,i,c⟩ z:=by
  unfold webP
  simp only[e1,e2,e3,e4,e5,e6,e7,e8,e9,e10,e11,e12,e13]
 have dl:∀{s s':Bs} {b b':Bool} {w:Nat} {n:Int},(Rdr.mk s b).digits w=(n,⟨s',b'⟩)→s'.length≤s.length:=fun {s s' b b' w n} e=>by
  have:=Rdr.digits_le (r:=⟨s,b⟩) (w:=w);rw[e]at this;exact this
 have sl:∀{s s':Bs} {b b':Bool} {l:Bs} {n:Int},(Rdr.mk s b).sign l=(n,⟨s',b'⟩)→s'.length≤s.length:=fun {s s' b b' l n} e=>by
  have:=Rdr.sign_le (r:=⟨s,b⟩) (l:=l);rw[e]at this;exact this
 have l1:=dl e1
 have l2:=sl e2
 have l3:=dl e3
 have l4:=sl e4
 have l5:=dl e5
 have l6:=sl e6
 have l7:=dl e7
 have l8:=sl e8
 have l9:=dl e9
 have l10:=sl e10
 have l11:=dl e11
 have l12:s12.length≤s11.length:=by
  have:=Rdr.point_le (r:=⟨s11,b11⟩);rw[e12]at this;exact this
 have hz: -400000≤z∧z≤400000:=by
  have:=Rdr.zone_bd (r:=⟨s12,b12⟩);rw[e13]at this;exact this
 have hg:∀(s:Bs) (b:Bool) (j:Heap),getRow (h++dR s b::j) h.length 0=some (188,2,[.agg [.str s,.bool b]]):=fun s b j=>by rw[bW _ rfl];rfl
 have hT:=fun(b:Bool) (s:Bs) (j:Heap)=>iM G (s:=s) (b:=b) ⟨y,m,d,hh,i,c⟩ z hz (hg s b j)
 have hD:∀{s s':Bs} {b b':Bool} {w:Nat} {n:Int},(Rdr.mk s b).digits w=(n,⟨s',b'⟩)→w≤9→s.length≤1073741824→∀j:Heap,Sat (CT G) 197 [.hp h.length 0 0 0,.int .i64 w] (h++dR s b::j) (fun r h'=>r=.int .i64 n∧h'=h++dR s' b'::j):=fun {s s' b b' w n} e hw hl j=>by
  have:=aL G e hw hl (hg s b j)
  rw[cX _ rfl,List.set_cons_zero]at this
  exact this
 have hS:∀{s s':Bs} {b b':Bool} {l:Bs} {n:Int},(Rdr.mk s b).sign l=(n,⟨s',b'⟩)→∀j:Heap,Sat (CT G) 198 [.hp h.length 0 0 0,.str l] (h++dR s b::j) (fun r h'=>r=.int .u8 n∧h'=h++dR s' b'::j):=fun {s s' b b' l n} e j=>by
  have:=cH G e (hg s b j)
  rw[cX _ rfl,List.set_cons_zero]at this
  exact this
 have hP:=fun(j:Heap)=>mc G e12 (by omega) (hg s11 b11 j)
 have hZ:=fun(j:Heap)=>nv G e13 (by omega) (hg s12 b12 j)
 simp only[cX _ rfl,List.set_cons_zero]at hP hZ
 rw[ew]
 simp only[Dt.av_eq]at hT
 skip
 refine sb [.tmp 2,.tmp 3] (fn:=Tryz.f183) Tryz.func183 ?_
 intro Q hQ
 refine wn trivial ?_
 refine kn trivial (hD e1 (by omega) (by omega) _) ?_
 refine kn trivial (hS e2 _) ?_
 refine kn trivial (hD e3 (by omega) (by omega) _) ?_
 refine kn trivial (hS e4 _) ?_
 refine kn trivial (hD e5 (by omega) (by omega) _) ?_
 refine kn trivial (hS e6 _) ?_
 refine kn trivial (hD e7 (by omega) (by omega) _) ?_
 refine kn trivial (hS e8 _) ?_
 refine kn trivial (hD e9 (by omega) (by omega) _) ?_
 refine kn trivial (hS e10 _) ?_
 refine kn trivial (hD e11 (by omega) (by omega) _) ?_
 refine kn trivial (hP _) ?_
 refine ba 7 [3,4,5,6] [true,true,true,false,false,false,false] (.one 3 [false,true] (.one 4 [] (.two 5 [] (.one 6 [] .fin) 6 [] (.one 5 [] .fin)))) (by decide+kernel) (by kernel_rfl) (by decide+kernel) ?_
 simp only[bn,bo,aT]
 try refine sq trivial ?_
 repeat' (first| (refine ar ?_;try refine sq trivial ?_)| (refine au ?_;try refine sq trivial ?_)| (refine aw ?_ ?_<;>try refine sq trivial ?_))
 all_goals try refine wn trivial ?_
 repeat' (first
  | (refine(hZ _).mono ?_;rintro r h' ⟨rfl,rfl⟩;try refine sq trivial ?_)
  | (refine(hT _ _ _).mono ?_;rintro r h' ⟨rfl,rfl⟩;try refine sq trivial ?_)
  | (refine gK (by simp only[go_sem, ↓reduceIte,seval];rfl) (by rfl) ?_;try refine sq trivial ?_)
  | (refine ar ?_;try refine sq trivial ?_)| (refine au ?_;try refine sq trivial ?_)| (refine aw ?_ ?_<;>try refine sq trivial ?_))
 all_goals try refine wk trivial ?_
 all_goals (
  refine ee hQ trivial ?_
  exact Fin.plain (bv _ _ _) ⟨rfl,rfl⟩)
end Go.Av
namespace Go.Av
open Go Go.Proofs Go.RowKit
attribute [local irreducible] WP WPl WPix Sat
variable (G:Nat→Option (List AVal))
theorem ef{c:UInt8}{k:Nat}(hk:k<256):((c.toNat:Int) != (k:Nat))=decide (c≠UInt8.ofNat k):=by
 have hk2:(UInt8.ofNat k).toNat=k:=by rw[UInt8.toNat_ofNat'];omega
 by_cases e:c=UInt8.ofNat k
 ·have h:(c.toNat:Int)=(k:Nat):=by rw[e,hk2]
  rw[h,decide_eq_false (fun n=>n e)]
  simp
 ·have h:¬(c.toNat:Int)=(k:Nat):=fun h=>e (UInt8.toNat_inj.1 (by rw[hk2];omega))
  rw[decide_eq_true e]
  simpa using h
theorem cf{s:Bs}{k:Nat}(h:k<s.length):s[k]? =some (s.getD k 0):=by
 rw[List.getD_eq_getElem?_getD,List.getElem?_eq_getElem h];rfl
theorem pU{s:Bs}{k:Nat}(hk:k≤s.length)(h1:∀i,i<k→∀c,s[i]? =some c→digB c=true)(h2:k=s.length∨∃c,s[k]? =some c∧digB c=false):(s.takeWhile digB).length=k:=by
 obtain⟨e,_⟩:=m8 digB s k h1 hk h2
 rw[e,List.length_take];omega
theorem jQ{x:Dt}{r:Bs}(h1:r≠ [90])(h2:r≠ [122]):restR x r=if r.length≠6∨r.getD 3 0≠58 then none else match zoneR (r.getD 0 0) ((r.drop 1).take 2) (r.drop 4)with
 |none=>none
 |some z=>tellD x z:=by
 unfold restR
 rw[if_neg (fun k=>k.elim h1 h2)]
 rfl
theorem iQ(s:Bs)(hs:s.length≤1048576)(h:Heap):Sat (CT G) 133 [.str s] h (fun r h'=>r=.tup [.int .i64 ((webR s).getD 0),.bool (webR s).isSome]∧h'=h):=by
 have no:∀{P:Prop},P→(P→webR s=none)→webR s=none:=fun p f=>f p
 by_cases hl:s.length<20
 ·have e:webR s=none:=by unfold webR;rw[if_pos (.inl hl)]
  have q:decide ((s.length:Int)<20)=true:=decide_eq_true (by omega)
  rw[e]
  have F:=q
  refine sb [.tmp 2,.tmp 3] (fn:=Tryz.f133) Tryz.func133 ?_
  intro Q hQ
  refine wk F ?_
  refine ee hQ F ?_
  exact Fin.same (ah _ _ _) ⟨rfl,rfl⟩
 have q0:decide ((s.length:Int)<20)=false:=decide_eq_false (by omega)
 have hl19:19≤s.length:=by omega
 have hl20:20≤s.length:=by omega
 have g:=fun k (hk:k<20)=>cf (s:=s) (k:=k) (by omega)
 have g4:=g 4 (by omega)
 have g7:=g 7 (by omega)
 have g10:=g 10 (by omega)
 have g13:=g 13 (by omega)
 have g16:=g 16 (by omega)
 have l4:4<s.length:=by omega
 have l7:7<s.length:=by omega
 have l10:10<s.length:=by omega
 have l13:13<s.length:=by omega
 have l16:16<s.length:=by omega
 by_cases c4:s.getD 4 0=45
 rotate_left
 ·have e:webR s=none:=by unfold webR;rw[if_pos (.inr (.inl c4))]
  have q:(((s.getD 4 0).toNat:Int) !=45)=true:=(ef (k:=45) (by omega)).trans (by simpa using c4)
  rw[e]
  have F:=F4 q0 g4 l4 q
  refine sb [.tmp 2,.tmp 3] (fn:=Tryz.f133) Tryz.func133 ?_
  intro Q hQ
  refine wk F ?_
  refine ee hQ F ?_
  exact Fin.same (ah _ _ _) ⟨rfl,rfl⟩
 have q4:(((s.getD 4 0).toNat:Int) !=45)=false:=by rw[c4];rfl
 by_cases c7:s.getD 7 0=45
 rotate_left
 ·have e:webR s=none:=by unfold webR;rw[if_pos (.inr (.inr (.inl c7)))]
  have q:(((s.getD 7 0).toNat:Int) !=45)=true:=(ef (k:=45) (by omega)).trans (by simpa using c7)
  rw[e]
  have F:=F7 q0 g4 g7 l4 l7 q4 q
  refine sb [.tmp 2,.tmp 3] (fn:=Tryz.f133) Tryz.func133 ?_
  intro Q hQ
  refine wk F ?_
  refine ee hQ F ?_
  exact Fin.same (ah _ _ _) ⟨rfl,rfl⟩
 have q7:(((s.getD 7 0).toNat:Int) !=45)=false:=by rw[c7];rfl
 by_cases c10:s.getD 10 0=84∨s.getD 10 0=116
 rotate_left
 ·have c10':s.getD 10 0≠84∧s.getD 10 0≠116:=by simpa using c10
  have e:webR s=none:=by unfold webR;rw[if_pos (.inr (.inr (.inr (.inl c10'))))]
  have q:(((s.getD 10 0).toNat:Int) !=84)=true:=(ef (k:=84) (by omega)).trans (by simpa using c10'.1)
  have qq:(((s.getD 10 0).toNat:Int) !=116)=true:=(ef (k:=116) (by omega)).trans (by simpa using c10'.2)
  rw[e]
  have F:=F2 (F9 q0 g4 g7 g10 l4 l7 l10 q4 q7) (F2 q qq)
  refine sb [.tmp 2,.tmp 3] (fn:=Tryz.f133) Tryz.func133 ?_
  intro Q hQ
  refine wk F ?_
  refine ee hQ F ?_
  exact Fin.same (ah _ _ _) ⟨rfl,rfl⟩
 have q10:((((s.getD 10 0).toNat:Int) !=84)=false)∨((((s.getD 10 0).toNat:Int) !=84)=true∧(((s.getD 10 0).toNat:Int) !=116)=false):=by
  rcases c10 with e|e
  ·left;rw[e];rfl
  ·right;rw[e];exact⟨rfl,rfl⟩
 by_cases c13:s.getD 13 0=58
 rotate_left
 ·have e:webR s=none:=by unfold webR;rw[if_pos (.inr (.inr (.inr (.inr (.inl c13)))))]
  have q:(((s.getD 13 0).toNat:Int) !=58)=true:=(ef (k:=58) (by omega)).trans (by simpa using c13)
  rw[e]
  rcases q10 with q10|q10
  all_goals (
   have F:=F2 (F9 q0 g4 g7 g10 g13 l4 l7 l10 l13) (F4 q4 q7 q10 q)
   refine sb [.tmp 2,.tmp 3] (fn:=Tryz.f133) Tryz.func133 ?_
   intro Q hQ
   refine wk F ?_
   refine ee hQ F ?_
   exact Fin.same (ah _ _ _) ⟨rfl,rfl⟩)
 have q13:(((s.getD 13 0).toNat:Int) !=58)=false:=by rw[c13];rfl
 by_cases c16:s.getD 16 0=58
 rotate_left
 ·have e:webR s=none:=by unfold webR;rw[if_pos (.inr (.inr (.inr (.inr (.inr c16)))))]
  have q:(((s.getD 16 0).toNat:Int) !=58)=true:=(ef (k:=58) (by omega)).trans (by simpa using c16)
  rw[e]
  rcases q10 with q10|q10
  all_goals (
   have F:=F2 (F9 q0 g4 g7 g10 g13 g16 l4 l7 l10) (F7 l13 l16 q4 q7 q10 q13 q)
   refine sb [.tmp 2,.tmp 3] (fn:=Tryz.f133) Tryz.func133 ?_
   intro Q hQ
   refine wk F ?_
   refine ee hQ F ?_
   exact Fin.same (ah _ _ _) ⟨rfl,rfl⟩)
 have q16:(((s.getD 16 0).toNat:Int) !=58)=false:=by rw[c16];rfl
 have ew:webR s=pntR ⟨num9 (s.take 4),num9 ((s.drop 5).take 2),num9 ((s.drop 8).take 2),num9 ((s.drop 11).take 2),num9 ((s.drop 14).take 2),num9 ((s.drop 17).take 2)⟩ (s.drop 19):=by
  unfold webR
  rw[if_neg]
  rintro(k|k|k|k|k|k)
  ·exact hl k
  ·exact k c4
  ·exact k c7
  ·exact c10.elim k.1 k.2
  ·exact k c13
  ·exact k c16
 rw[ew]
 clear ew hl c4 c7 c10 c13 c16
 have n1:=aB G (s.take 4) (by simp;omega)
 have n2:=aB G ((s.drop 5).take 2) (by simp;omega)
 have n3:=aB G ((s.drop 8).take 2) (by simp;omega)
 have n4:=aB G ((s.drop 11).take 2) (by simp;omega)
 have n5:=aB G ((s.drop 14).take 2) (by simp;omega)
 have n6:=aB G ((s.drop 17).take 2) (by simp;omega)
 have d5:(s.take 7).drop 5=(s.drop 5).take 2:=by rw[List.drop_take]
 have d8:(s.take 10).drop 8=(s.drop 8).take 2:=by rw[List.drop_take]
 have d11:(s.take 13).drop 11=(s.drop 11).take 2:=by rw[List.drop_take]
 have d14:(s.take 16).drop 14=(s.drop 14).take 2:=by rw[List.drop_take]
 have d17:(s.take 19).drop 17=(s.drop 17).take 2:=by rw[List.drop_take]
 obtain⟨x,hx⟩:∃x:Dt,x=⟨num9 (s.take 4),num9 ((s.drop 5).take 2),num9 ((s.drop 8).take 2),num9 ((s.drop 11).take 2),num9 ((s.drop 14).take 2),num9 ((s.drop 17).take 2)⟩:=⟨_,rfl⟩
 rw[← hx]
 have x1:num9 (s.take 4)=x.y:=by rw[hx]
 have x2:num9 ((s.drop 5).take 2)=x.m:=by rw[hx]
 have x3:num9 ((s.drop 8).take 2)=x.d:=by rw[hx]
 have x4:num9 ((s.drop 11).take 2)=x.h:=by rw[hx]
 have x5:num9 ((s.drop 14).take 2)=x.i:=by rw[hx]
 have x6:num9 ((s.drop 17).take 2)=x.s:=by rw[hx]
 rw[x1]at n1
 rw[x2]at n2
 rw[x3]at n3
 rw[x4]at n4
 rw[x5]at n5
 rw[x6]at n6
 clear hx x1 x2 x3 x4 x5 x6
 have hT:=fun z (hz: -400000≤z∧z≤400000) h=>fk G x z hz h
 have hrl:(s.drop 19).length=s.length-19:=List.length_drop ..
 generalize hr:s.drop 19=r at*
 have hr0:0<r.length:=by omega
 have gr0:=cf hr0
 obtain⟨y,m,d,hh,i,c⟩:=x
 simp only[Dt.av_eq]at*
 have F:=F2 (F9 q0 g4 g7 g10 g13 g16 l4 l7 l10) (F2 (F9 l13 l16 q4 q7 q13 q16 d5 d8 d11) (F6 d14 d17 hl19 hr hr0 gr0))
 rcases q10 with q10|q10
 all_goals (
  have F:=F2 F q10
  by_cases dot:r.getD 0 0=46
  ·have qd:(((r.getD 0 0).toNat:Int)==46)=true:=by rw[dot];rfl
   have F:=F3 F qd @ai
   skip
   refine sb [.tmp 2,.tmp 3] (fn:=Tryz.f133) Tryz.func133 ?_
   intro Q hQ
   refine wn F ?_
   refine az 19 19 _ (by rfl) (by decide+kernel) (by kernel_rfl) (by decide+kernel) (by decide+kernel) (by decide+kernel) ?_
   simp only[List.take_succ_cons,List.take_zero]
   refine sq F ?_
   refine wn F ?_
   refine aa (n1 _) ?_
   try refine sq F ?_
   refine wn F ?_
   refine aa (n2 _) ?_
   try refine sq F ?_
   refine wn F ?_
   refine aa (n3 _) ?_
   try refine sq F ?_
   refine wn F ?_
   refine aa (n4 _) ?_
   try refine sq F ?_
   refine wn F ?_
   refine aa (n5 _) ?_
   try refine sq F ?_
   refine wn F ?_
   refine aa (n6 _) ?_
   try refine sq F ?_
   refine wn F ?_
   refine⟨?_,?_⟩
   ·refine aa (n1 _) ?_
    try refine sq F ?_
    refine wn F ?_
    refine aa (n2 _) ?_
    try refine sq F ?_
    refine wn F ?_
    refine aa (n3 _) ?_
    try refine sq F ?_
    refine wn F ?_
    refine aa (n4 _) ?_
    try refine sq F ?_
    refine wn F ?_
    refine aa (n5 _) ?_
    try refine sq F ?_
    refine wn F ?_
    refine aa (n6 _) ?_
    try refine sq F ?_
    refine wn F ?_
    all_goals first|exact zq F|trivial| (refine sq F ?_;trivial)
   skip
   try refine sq F ?_
   refine wk F ?_
   refine lm (fun nL tL hL=>∃(k:Nat),r.length-k=nL∧h++[.row 90 6 0 [.agg [.int .i64 y,.int .i64 m,.int .i64 d,.int .i64 hh,.int .i64 i,.int .i64 c]]]=hL∧tL 6=.int .i64 k∧1≤k∧k≤r.length∧(∀i,1≤i→i<k→∀c,r[i]? =some c→digB c=true)) ((fun(k:Nat)=>(r.length-k:Nat)) (1)) ?_ ?_
   ·refine Wkn.refl ⟨1,rfl,ay,?_,by omega,by omega,fun i h1 h2=>by omega⟩
    all_goals first|exact zq F|rfl|omega|trivial|skip
   rintro _ s2 h' ⟨k,rfl,rfl,e6,h1,hk,hi⟩ K2 hK2
   simp only[ak,ao,Nat.reduceEqDiff, ↓reduceIte]at e6
   have F:=F2 F e6
   by_cases cont:k<r.length∧digB (r.getD k 0)=true
   ·have d1:=decide_eq_true cont.1
    have hc:=cf cont.1
    have hd:=cont.2
    have hcc:=hd
    simp only[digB,Bool.and_eq_true,decide_eq_true_eq]at hcc
    have q1:decide (((r.getD k 0).toNat:Int)≥48)=true:=decide_eq_true (by omega)
    have q2:decide (((r.getD k 0).toNat:Int)≤57)=true:=decide_eq_true (by omega)
    have hi':∀i,1≤i→i<k+1→∀c,r[i]? =some c→digB c=true:=fun i a b c' hc'=>by
     rcases Nat.lt_or_ge i k with h2|h2
     ·exact hi i a h2 c' hc'
     ·obtain rfl:i=k:=by omega
      rw[hc]at hc';cases hc';exact hd
    have F:=F5 F d1 hc q1 q2
    try refine sq F ?_
    refine wk F ?_
    refine hK2 _ _ _ (Wkn.refl ⟨k+1,rfl,ay,?_,by omega,by omega,hi'⟩) (by omega)
    all_goals first|exact zq F|rfl|omega|trivial|skip
   ·have tw:((r.drop 1).takeWhile digB).length+1=k:=by
     have:=pU (s:=r.drop 1) (k:=k-1) (by simp;omega) (fun i a c hc=>by rw[List.getElem?_drop]at hc;exact hi _ (by omega) (by omega) c hc) (by
      by_cases e:k=r.length
      ·left;simp;omega
      ·right
       refine⟨r.getD k 0,by rw[List.getElem?_drop,show 1+(k-1)=k by omega];exact cf (by omega),?_⟩
       cases hd:digB (r.getD k 0)with
       |false=>rfl
       |true=>exact absurd ⟨by omega,hd⟩ cont)
     omega
    have alt:(decide (k<r.length)=false∧True)∨(decide (k<r.length)=true∧r[k]? =some (r.getD k 0)∧decide (((r.getD k 0).toNat:Int)≥48)=false)∨(decide (k<r.length)=true∧r[k]? =some (r.getD k 0)∧decide (((r.getD k 0).toNat:Int)≥48)=true∧decide (((r.getD k 0).toNat:Int)≤57)=false):=by
     by_cases e:k<r.length
     ·right
      have hg:=cf e
      by_cases a:((r.getD k 0).toNat:Int)≥48
      ·refine .inr ⟨decide_eq_true e,hg,decide_eq_true a,decide_eq_false fun b=>cont ⟨e,?_⟩⟩
       simp only[digB,Bool.and_eq_true,decide_eq_true_eq]
       omega
      ·exact .inl ⟨decide_eq_true e,hg,decide_eq_false a⟩
     ·exact .inl ⟨decide_eq_false e,trivial⟩
    have ep:pntR ⟨y,m,d,hh,i,c⟩ r=if k<2∨10<k then none else restR ⟨y,m,d,hh,i,c⟩ (r.drop k):=by
     unfold pntR;rw[if_pos dot,tw]
    rw[ep]at hQ
    clear ep tw cont hi
    rcases alt with alt|alt|alt
    all_goals (
     have F:=F2 F @alt
     by_cases k9:k<2
     ·have w1:decide ((k:Int)<2)=true:=decide_eq_true (by omega)
      rw[if_pos (.inl k9)]at hQ
      have F:=F2 F w1
      try refine sq F ?_
      refine wk F ?_
      refine ee hQ F ?_
      exact Fin.plain (ah _ _ _) ⟨rfl,rfl⟩
     have w1:decide ((k:Int)<2)=false:=decide_eq_false (by omega)
     by_cases k10:10<k
     ·have w2:decide ((k:Int)>10)=true:=decide_eq_true (by omega)
      rw[if_pos (.inr k10)]at hQ
      have F:=F3 F w1 w2
      try refine sq F ?_
      refine wk F ?_
      refine ee hQ F ?_
      exact Fin.plain (ah _ _ _) ⟨rfl,rfl⟩
     have w2:decide ((k:Int)>10)=false:=decide_eq_false (by omega)
     rw[if_neg (fun n=>n.elim k9 k10)]at hQ
     have dl:(r.drop k).length≤1048576:=by simp;omega
     have F:=F4 F w1 w2 hk
     by_cases z1:(r.drop k)=[90]
     ·have k1:((r.drop k)==[90])=true:=by simpa using z1
      have e:restR ⟨y,m,d,hh,i,c⟩ ((r.drop k))=tellD ⟨y,m,d,hh,i,c⟩ 0:=by unfold restR;rw[if_pos (.inl z1)]
      rw[e]at hQ
      have F:=F2 F k1
      try refine sq F ?_
      refine wk F ?_
      refine kq F (hT 0 (by omega) _) ?_
      refine ee hQ F ?_
      exact Fin.plain (ah _ _ _) ⟨rfl,rfl⟩
     by_cases z2:(r.drop k)=[122]
     ·have k1:((r.drop k)==[90])=false:=by simpa using z1
      have k2:((r.drop k)==[122])=true:=by simpa using z2
      have e:restR ⟨y,m,d,hh,i,c⟩ ((r.drop k))=tellD ⟨y,m,d,hh,i,c⟩ 0:=by unfold restR;rw[if_pos (.inr z2)]
      rw[e]at hQ
      have F:=F3 F k1 k2
      try refine sq F ?_
      refine wk F ?_
      refine kq F (hT 0 (by omega) _) ?_
      refine ee hQ F ?_
      exact Fin.plain (ah _ _ _) ⟨rfl,rfl⟩
     have k1:((r.drop k)==[90])=false:=by simpa using z1
     have k2:((r.drop k)==[122])=false:=by simpa using z2
     have hr1:=jQ (x:=⟨y,m,d,hh,i,c⟩) z1 z2
     by_cases l6:((r.drop k)).length=6
     rotate_left
     ·have k3:((((r.drop k)).length:Int) !=6)=true:=by simp only[bne_iff_ne,ne_eq];omega
      rw[hr1,if_pos (.inl l6)]at hQ
      have F:=F4 F k1 k2 k3
      try refine sq F ?_
      refine wk F ?_
      refine ee hQ F ?_
      exact Fin.plain (ah _ _ _) ⟨rfl,rfl⟩
     have k3:((((r.drop k)).length:Int) !=6)=false:=by rw[l6];rfl
     have j0:=cf (s:=(r.drop k)) (k:=0) (by omega)
     have j3:=cf (s:=(r.drop k)) (k:=3) (by omega)
     have m0:0<((r.drop k)).length:=by omega
     have m3:3<((r.drop k)).length:=by omega
     by_cases c3:((r.drop k)).getD 3 0=58
     rotate_left
     ·have k4:(((((r.drop k)).getD 3 0).toNat:Int) !=58)=true:=(ef (k:=58) (by omega)).trans (by simpa using c3)
      rw[hr1,if_pos (.inr c3)]at hQ
      have F:=F7 F k1 k2 k3 k4 j3 m3
      try refine sq F ?_
      refine wk F ?_
      refine ee hQ F ?_
      exact Fin.plain (ah _ _ _) ⟨rfl,rfl⟩
     have k4:(((((r.drop k)).getD 3 0).toNat:Int) !=58)=false:=by rw[c3];rfl
     rw[if_neg (fun k=>k.elim (· l6) (· c3))]at hr1
     rw[hr1]at hQ
     have d13:(((r.drop k)).take 3).drop 1=(((r.drop k)).drop 1).take 2:=by rw[List.drop_take]
     have m4:4≤((r.drop k)).length:=by omega
     have hZ:=fm G ((r.drop k).getD 0 0) (((r.drop k).drop 1).take 2) ((r.drop k).drop 4) (by simp;omega) (by simp;omega)
     cases hz:zoneR ((r.drop k).getD 0 0) (((r.drop k).drop 1).take 2) ((r.drop k).drop 4)with
     |none=>
      rw[hz]at hZ hQ
      have hZ:∀h,Sat (CT G) 161 [.int .u8 (((r.drop k)).getD 0 0).toNat,.str ((((r.drop k)).drop 1).take 2),.str (((r.drop k)).drop 4)] h (fun r h'=>r=.tup [.int .i64 0,.bool false]∧h'=h):=hZ
      have F:=F2 (F9 F k1 k2 k3 k4 j0 j3 m0 m3) (F2 m4 d13)
      skip
      try refine sq F ?_
      refine wn F ?_
      refine dY 8 (.two 8 (.two 9 (.one 10 (.one 11 .nil)) 10 (.one 9 (.one 11 .nil))) 9 (.one 8 (.one 10 (.one 11 .nil)))) (by decide+kernel) (by kernel_rfl) (by decide+kernel) ?_
      simp only[List.take_succ_cons,List.take_zero]
      try refine sq F ?_
      repeat' (first|refine bT ?_| (refine bU rfl ?_;refine sq F ?_)| (refine bV rfl rfl ?_ ?_<;>refine sq F ?_))
      skip
      refine aa (hZ _) ?_
      try refine sq F ?_
      refine wk F ?_
      repeat' (first|refine bT ?_| (refine bU rfl ?_;refine sq F ?_)| (refine bV rfl rfl ?_ ?_<;>refine sq F ?_))
      all_goals (
       refine wk F ?_
       refine ee hQ F ?_
       exact Fin.plain (ah _ _ _) ⟨rfl,rfl⟩)
     |some z=>
      have hb:=fX hz
      rw[hz]at hZ hQ
      have hZ:∀h,Sat (CT G) 161 [.int .u8 (((r.drop k)).getD 0 0).toNat,.str ((((r.drop k)).drop 1).take 2),.str (((r.drop k)).drop 4)] h (fun r h'=>r=.tup [.int .i64 z,.bool true]∧h'=h):=hZ
      have F:=F2 (F9 F k1 k2 k3 k4 j0 j3 m0 m3) (F2 m4 d13)
      skip
      try refine sq F ?_
      refine wn F ?_
      refine dY 8 (.two 8 (.two 9 (.one 10 (.one 11 .nil)) 10 (.one 9 (.one 11 .nil))) 9 (.one 8 (.one 10 (.one 11 .nil)))) (by decide+kernel) (by kernel_rfl) (by decide+kernel) ?_
      simp only[List.take_succ_cons,List.take_zero]
      try refine sq F ?_
      repeat' (first|refine bT ?_| (refine bU rfl ?_;refine sq F ?_)| (refine bV rfl rfl ?_ ?_<;>refine sq F ?_))
      skip
      refine aa (hZ _) ?_
      try refine sq F ?_
      refine wk F ?_
      repeat' (first|refine bT ?_| (refine bU rfl ?_;refine sq F ?_)| (refine bV rfl rfl ?_ ?_<;>refine sq F ?_))
      all_goals (
       refine wk F ?_
       refine kq F (hT z hb _) ?_
       refine ee hQ F ?_
       exact Fin.plain (ah _ _ _) ⟨rfl,rfl⟩))
  ·have qd:(((r.getD 0 0).toNat:Int)==46)=false:=by
    have:=(ef (c:=r.getD 0 0) (k:=46) (by omega)).trans (decide_eq_true (fun k=>dot k))
    simpa using this
   have F:=F3 F qd @ai
   have ep:pntR ⟨y,m,d,hh,i,c⟩ r=restR ⟨y,m,d,hh,i,c⟩ r:=by unfold pntR;rw[if_neg dot]
   rw[ep]
   have dl:r.length≤1048576:=by omega
   skip
   refine sb [.tmp 2,.tmp 3] (fn:=Tryz.f133) Tryz.func133 ?_
   intro Q hQ
   refine wn F ?_
   refine az 19 19 _ (by rfl) (by decide+kernel) (by kernel_rfl) (by decide+kernel) (by decide+kernel) (by decide+kernel) ?_
   simp only[List.take_succ_cons,List.take_zero]
   refine sq F ?_
   refine wn F ?_
   refine aa (n1 _) ?_
   try refine sq F ?_
   refine wn F ?_
   refine aa (n2 _) ?_
   try refine sq F ?_
   refine wn F ?_
   refine aa (n3 _) ?_
   try refine sq F ?_
   refine wn F ?_
   refine aa (n4 _) ?_
   try refine sq F ?_
   refine wn F ?_
   refine aa (n5 _) ?_
   try refine sq F ?_
   refine wn F ?_
   refine aa (n6 _) ?_
   try refine sq F ?_
   refine wn F ?_
   refine⟨?_,?_⟩
   ·refine aa (n1 _) ?_
    try refine sq F ?_
    refine wn F ?_
    refine aa (n2 _) ?_
    try refine sq F ?_
    refine wn F ?_
    refine aa (n3 _) ?_
    try refine sq F ?_
    refine wn F ?_
    refine aa (n4 _) ?_
    try refine sq F ?_
    refine wn F ?_
    refine aa (n5 _) ?_
    try refine sq F ?_
    refine wn F ?_
    refine aa (n6 _) ?_
    try refine sq F ?_
    refine wn F ?_
    all_goals first|exact zq F|trivial| (refine sq F ?_;trivial)
   skip
   try refine sq F ?_
   refine wk F ?_
   by_cases z1:r=[90]
   ·have k1:(r==[90])=true:=by simpa using z1
    have e:restR ⟨y,m,d,hh,i,c⟩ (r)=tellD ⟨y,m,d,hh,i,c⟩ 0:=by unfold restR;rw[if_pos (.inl z1)]
    rw[e]at hQ
    have F:=F2 F k1
    try refine sq F ?_
    refine wk F ?_
    refine kq F (hT 0 (by omega) _) ?_
    refine ee hQ F ?_
    exact Fin.plain (ah _ _ _) ⟨rfl,rfl⟩
   by_cases z2:r=[122]
   ·have k1:(r==[90])=false:=by simpa using z1
    have k2:(r==[122])=true:=by simpa using z2
    have e:restR ⟨y,m,d,hh,i,c⟩ (r)=tellD ⟨y,m,d,hh,i,c⟩ 0:=by unfold restR;rw[if_pos (.inr z2)]
    rw[e]at hQ
    have F:=F3 F k1 k2
    try refine sq F ?_
    refine wk F ?_
    refine kq F (hT 0 (by omega) _) ?_
    refine ee hQ F ?_
    exact Fin.plain (ah _ _ _) ⟨rfl,rfl⟩
   have k1:(r==[90])=false:=by simpa using z1
   have k2:(r==[122])=false:=by simpa using z2
   have hr1:=jQ (x:=⟨y,m,d,hh,i,c⟩) z1 z2
   by_cases l6:(r).length=6
   rotate_left
   ·have k3:(((r).length:Int) !=6)=true:=by simp only[bne_iff_ne,ne_eq];omega
    rw[hr1,if_pos (.inl l6)]at hQ
    have F:=F4 F k1 k2 k3
    try refine sq F ?_
    refine wk F ?_
    refine ee hQ F ?_
    exact Fin.plain (ah _ _ _) ⟨rfl,rfl⟩
   have k3:(((r).length:Int) !=6)=false:=by rw[l6];rfl
   have j0:=cf (s:=r) (k:=0) (by omega)
   have j3:=cf (s:=r) (k:=3) (by omega)
   have m0:0<(r).length:=by omega
   have m3:3<(r).length:=by omega
   by_cases c3:(r).getD 3 0=58
   rotate_left
   ·have k4:((((r).getD 3 0).toNat:Int) !=58)=true:=(ef (k:=58) (by omega)).trans (by simpa using c3)
    rw[hr1,if_pos (.inr c3)]at hQ
    have F:=F7 F k1 k2 k3 k4 j3 m3
    try refine sq F ?_
    refine wk F ?_
    refine ee hQ F ?_
    exact Fin.plain (ah _ _ _) ⟨rfl,rfl⟩
   have k4:((((r).getD 3 0).toNat:Int) !=58)=false:=by rw[c3];rfl
   rw[if_neg (fun k=>k.elim (· l6) (· c3))]at hr1
   rw[hr1]at hQ
   have d13:((r).take 3).drop 1=((r).drop 1).take 2:=by rw[List.drop_take]
   have m4:4≤(r).length:=by omega
   have hZ:=fm G (r.getD 0 0) ((r.drop 1).take 2) (r.drop 4) (by simp;omega) (by simp;omega)
   cases hz:zoneR (r.getD 0 0) ((r.drop 1).take 2) (r.drop 4)with
   |none=>
    rw[hz]at hZ hQ
    have hZ:∀h,Sat (CT G) 161 [.int .u8 ((r).getD 0 0).toNat,.str (((r).drop 1).take 2),.str ((r).drop 4)] h (fun r h'=>r=.tup [.int .i64 0,.bool false]∧h'=h):=hZ
    have F:=F2 (F9 F k1 k2 k3 k4 j0 j3 m0 m3) (F2 m4 d13)
    skip
    try refine sq F ?_
    refine wn F ?_
    refine dY 8 (.two 8 (.two 9 (.one 10 (.one 11 .nil)) 10 (.one 9 (.one 11 .nil))) 9 (.one 8 (.one 10 (.one 11 .nil)))) (by decide+kernel) (by kernel_rfl) (by decide+kernel) ?_
    simp only[List.take_succ_cons,List.take_zero]
    try refine sq F ?_
    repeat' (first|refine bT ?_| (refine bU rfl ?_;refine sq F ?_)| (refine bV rfl rfl ?_ ?_<;>refine sq F ?_))
    skip
    refine aa (hZ _) ?_
    try refine sq F ?_
    refine wk F ?_
    repeat' (first|refine bT ?_| (refine bU rfl ?_;refine sq F ?_)| (refine bV rfl rfl ?_ ?_<;>refine sq F ?_))
    all_goals (
     refine wk F ?_
     refine ee hQ F ?_
     exact Fin.plain (ah _ _ _) ⟨rfl,rfl⟩)
   |some z=>
    have hb:=fX hz
    rw[hz]at hZ hQ
    have hZ:∀h,Sat (CT G) 161 [.int .u8 ((r).getD 0 0).toNat,.str (((r).drop 1).take 2),.str ((r).drop 4)] h (fun r h'=>r=.tup [.int .i64 z,.bool true]∧h'=h):=hZ
    have F:=F2 (F9 F k1 k2 k3 k4 j0 j3 m0 m3) (F2 m4 d13)
    skip
    try refine sq F ?_
    refine wn F ?_
    refine dY 8 (.two 8 (.two 9 (.one 10 (.one 11 .nil)) 10 (.one 9 (.one 11 .nil))) 9 (.one 8 (.one 10 (.one 11 .nil)))) (by decide+kernel) (by kernel_rfl) (by decide+kernel) ?_
    simp only[List.take_succ_cons,List.take_zero]
    try refine sq F ?_
    repeat' (first|refine bT ?_| (refine bU rfl ?_;refine sq F ?_)| (refine bV rfl rfl ?_ ?_<;>refine sq F ?_))
    skip
    refine aa (hZ _) ?_
    try refine sq F ?_
    refine wk F ?_
    repeat' (first|refine bT ?_| (refine bU rfl ?_;refine sq F ?_)| (refine bV rfl rfl ?_ ?_<;>refine sq F ?_))
    all_goals (
     refine wk F ?_
     refine kq F (hT z hb _) ?_
     refine ee hQ F ?_
     exact Fin.plain (ah _ _ _) ⟨rfl,rfl⟩))
end Go.Av
namespace Go.Av
open Go Go.Proofs Go.RowKit
attribute [local irreducible] WP WPl WPix Sat
variable (G:Nat→Option (List AVal))
theorem eg(g:FuncId)(f:Rdr→Int×Rdr){w s:Bs}{b:Bool}{h j:Heap}
  (hF:∀{n:Int} {s':Bs} {b':Bool},f ⟨w,false⟩=(n,⟨s',b'⟩)→∀{H:Heap} {p:Nat},getRow H p 0=some (188,2,[.agg [.str w,.bool false]])→Sat (CT G) g [.hp p 0 0 0] H (fun r h'=>r=.int .i64 n∧h'=H.set p (dR s' b'))):
  Sat (CT G) 204 [.hp h.length 0 0 0,.str w,.fn (.func g) [] []] (h++dR s b::j) (fun r h'=>r=.int .i64 (Rdr.part w f).1∧h'=h++dR s (b||(Rdr.part w f).2)::j):=by
 rcases e:f ⟨w,false⟩with⟨n,s',b'⟩
 have hg:getRow (h++dR s b::j) h.length 0=some (188,2,[.agg [.str s,.bool b]]):=by rw[bW _ rfl];rfl
 have hF':Sat (CT G) g [.hp (h++dR s b::j).length 0 0 0] ((h++dR s b::j)++[dR w false]) (fun r h'=>r=.int .i64 n∧h'=(h++dR s b::j)++[dR s' b']):=by
  have:=hF e (H:=(h++dR s b::j)++[dR w false]) (p:=(h++dR s b::j).length) (by rw[bW _ rfl];rfl)
  rwa [cX _ rfl,List.set_cons_zero]at this
 have S:=nB G g hg hF'
 rw[cX _ rfl,List.set_cons_zero]at S
 have e1:Rdr.part w f=(n,b'||decide (s'≠ [])):=by unfold Rdr.part;rw[e]
 rw[e1]
 exact S
theorem oY(w:Bs):0≤(Rdr.part w Rdr.clock).1∧(Rdr.part w Rdr.clock).1≤1000000:=by
 show 0≤(Rdr.clock ⟨w,false⟩).1∧(Rdr.clock ⟨w,false⟩).1≤1000000
 rcases e1:(Rdr.mk w false).digits 2 with⟨hh,s1,b1⟩
 rcases e2:(Rdr.mk s1 b1).sign [58]with⟨x2,s2,b2⟩
 rcases e3:(Rdr.mk s2 b2).digits 2 with⟨m,s3,b3⟩
 rcases e4:(Rdr.mk s3 b3).sign [58]with⟨x4,s4,b4⟩
 rcases e5:(Rdr.mk s4 b4).digits 2 with⟨c,s5,b5⟩
 have h10:(10:Int)^2=100:=rfl
 have k1:=aR e1
 have k3:=aR e3
 have k5:=aR e5
 rw[h10]at k1 k3 k5
 by_cases h3:s3=[]
 ·have ec:(Rdr.clock ⟨w,false⟩).1=3600*hh+60*m+0:=by
   unfold Rdr.clock;simp only[e1,e2,e3];simp[h3]
  rw[ec];omega
 ·have ec:(Rdr.clock ⟨w,false⟩).1=3600*hh+60*m+c:=by
   unfold Rdr.clock;simp only[e1,e2,e3,if_neg h3,e4,e5]
  rw[ec];omega
theorem rb(w:Bs): -400000≤(Rdr.part w fun r=>r.off false).1∧(Rdr.part w fun r=>r.off false).1≤400000:=Rdr.off_bd (r:=⟨w,false⟩) (c:=false)
theorem pV{w:Bs}{z:Int}(h:namF w=some z): -400000≤z∧z≤400000:=by
 unfold namF at h
 split at h
 ·rename_i i _
  cases h
  have:∀i:Nat, -8≤hrsL.getD i 0∧hrsL.getD i 0≤0:=fun i=>by
   rw[List.getD_eq_getElem?_getD]
   cases e:hrsL[i]? with
   |none=>exact⟨by decide,by decide⟩
   |some x=>
    have hm:=List.mem_of_getElem? e
    have:∀x∈hrsL, -8≤x∧x≤0:=by decide
    exact this x hm
  have:=this i
  omega
 ·cases h
theorem lk{w:List Bs}(h:¬(w.length=5∧1≤(w.getD 0 []).length∧(w.getD 0 []).length≤2)):wrdP w=none:=by
 unfold wrdP;exact if_neg h
theorem pW{w:List Bs}(h:w.length=5∧1≤(w.getD 0 []).length∧(w.getD 0 []).length≤2){d y t z:Int}{b1 b2 b3 b4:Bool}(e1:Rdr.part (w.getD 0 []) Rdr.all=(d,b1))(e2:Rdr.part (w.getD 2 []) Rdr.year=(y,b2))(e3:Rdr.part (w.getD 3 []) Rdr.clock=(t,b3))
  (e4:(match namF (w.getD 4 [])with|some z=>(z,false)|none=>Rdr.part (w.getD 4 []) fun r=>r.off false)=(z,b4)):wrdP w=(Rdr.mk [] (b1||b2||b3||b4)).told ⟨y,ixS monL (w.getD 1 [])+1,d,t/3600,t/60%60,t%60⟩ z:=by
 unfold wrdP Rdr.told
 rw[if_pos h,e1,e2,e3]
 cases hn:namF (w.getD 4 [])with
 |some z'=>rw[hn]at e4;cases e4;simp
 |none=>
  rw[hn]at e4
  have e4:(Rdr.part (w.getD 4 []) fun r=>r.off false)=(z,b4):=e4
  simp only[]
  rw[e4]
  simp
theorem oZ(hG:GOk G)(s:Bs)(hs:s.length≤8388608)(h:Heap):Sat (CT G) 184 [.str s] h (fun r h'=>r=.tup [.int .i64 ((mailP s).getD 0),.int .i64 (if (mailP s).isSome then 0 else 40)]∧h'=h):=by
 have dt:∀i:Decidable True, @decide True i=true:=fun i=>by simp
 have df:∀i:Decidable False, @decide False i=false:=fun i=>by simp
 have hS:=nH G hG s 32 hs
 have hle:=dJ 32 s
 have em:mailP s=wrdP (if (splF 32 s).length=6∧(splF 32 s).getD 0 []∈weekL then(splF 32 s).drop 1 else splF 32 s):=rfl
 generalize splF 32 s=w at*
 have mw:(w.map AVal.str).length=w.length:=List.length_map ..
 have hWk:=nz G (w.getD 0 [])
 have alt:∃W:List Bs,mailP s=wrdP W∧(∀x∈W,x.length≤8388608)∧((((w.length:Int)==6)=false∧w=W)∨(((w.length:Int)==6)=true∧decide (w.getD 0 []∈weekL)=false∧w[0]? =some (w.getD 0 [])∧w=W)∨
   (((w.length:Int)==6)=true∧decide (w.getD 0 []∈weekL)=true∧w[0]? =some (w.getD 0 [])∧∀H,aslice Tryz.prog H 120 (.sl 1 (w.map AVal.str)) (some (.int .i64 1)) none none=some (.sl 1 (W.map AVal.str)))):=by
  have hl:∀x∈w,x.length≤8388608:=fun x hx=>by have:=hle x hx;omega
  by_cases six:w.length=6
  ·have q6:((w.length:Int)==6)=true:=by rw[six];rfl
   have g:=aF (w:=w) (k:=0) (by omega)
   by_cases hm:w.getD 0 []∈weekL
   ·rw[em,if_pos ⟨six,hm⟩]
    refine⟨w.drop 1,rfl,fun x hx=>hl x (List.mem_of_mem_drop hx),.inr (.inr ⟨q6,decide_eq_true hm,g,fun H=>?_⟩)⟩
    rw[List.map_drop]
    exact gH (i:=1) (by simp only[go_sem];try rfl) (by simp only[go_sem];try rfl) (by rw[List.length_map];omega)
   ·rw[em,if_neg (fun n=>hm n.2)]
    exact⟨w,rfl,hl,.inr (.inl ⟨q6,decide_eq_false hm,g,rfl⟩)⟩
  ·rw[em,if_neg (fun n=>six n.1)]
   exact⟨w,rfl,hl,.inl ⟨by simpa using(by omega:¬(w.length:Int)=6),rfl⟩⟩
 obtain⟨W,eW,hWl,alt⟩:=alt
 rw[eW]
 have mW:(W.map AVal.str).length=W.length:=List.length_map ..
 clear em eW hle
 have start:∀{Q:AVal→Heap→Prop},True:=fun {Q}=>trivial
 by_cases l5:W.length=5
 rotate_left
 ·have q5:((W.length:Int) !=5)=true:=by simp only[bne_iff_ne,ne_eq];omega
  have hw:=lk (w:=W) (fun n=>l5 n.1)
  rcases alt with⟨q6,rfl⟩| ⟨q6,qm,g,rfl⟩| ⟨q6,qm,g,hsB⟩
  ·have F:=F5 mw q6 q5 dt df
   refine sb [.tmp 2,.tmp 3] (fn:=Tryz.f184) Tryz.func184 ?_
   intro Q hQ
   refine wk F ?_
   refine kq F (hS _) ?_
   refine ee hQ F ?_
   exact Fin.same (bv _ _ _) ⟨by rw[hw];rfl,rfl⟩
  ·rw[qm]at hWk
   have F:=F6 mw q6 q5 g dt df
   refine sb [.tmp 2,.tmp 3] (fn:=Tryz.f184) Tryz.func184 ?_
   intro Q hQ
   refine wk F ?_
   refine kq F (hS _) ?_
   refine kq F (hWk _) ?_
   refine ee hQ F ?_
   exact Fin.same (bv _ _ _) ⟨by rw[hw];rfl,rfl⟩
  ·rw[qm]at hWk
   have F:=F8 mw q6 q5 g @hsB @mW dt df
   refine sb [.tmp 2,.tmp 3] (fn:=Tryz.f184) Tryz.func184 ?_
   intro Q hQ
   refine wk F ?_
   refine kq F (hS _) ?_
   refine kq F (hWk _) ?_
   refine ee hQ F ?_
   exact Fin.same (bv _ _ _) ⟨by rw[hw];rfl,rfl⟩
 have alt:(((w.length:Int)==6)=false∧w=W)∨(((w.length:Int)==6)=true∧decide (w.getD 0 []∈weekL)=true∧w[0]? =some (w.getD 0 [])∧∀H,aslice Tryz.prog H 120 (.sl 1 (w.map AVal.str)) (some (.int .i64 1)) none none=some (.sl 1 (W.map AVal.str))):=by
  rcases alt with a| ⟨q6,_,_,rfl⟩|a
  ·exact .inl a
  ·exfalso;rw[l5]at q6;revert q6;decide
  ·exact .inr a
 have q5:((W.length:Int) !=5)=false:=by rw[l5];rfl
 have g0:=aF (w:=W) (k:=0) (by omega)
 have g1:=aF (w:=W) (k:=1) (by omega)
 have g2:=aF (w:=W) (k:=2) (by omega)
 have g3:=aF (w:=W) (k:=3) (by omega)
 have g4:=aF (w:=W) (k:=4) (by omega)
 have b0:=hWl _ (List.mem_of_getElem? g0)
 have b2:=hWl _ (List.mem_of_getElem? g2)
 have b3:=hWl _ (List.mem_of_getElem? g3)
 have b4:=hWl _ (List.mem_of_getElem? g4)
 have hWi:=bO G ((W.getD 0 []).length:Int) 1 2
 by_cases k0:1≤(W.getD 0 []).length∧(W.getD 0 []).length≤2
 rotate_left
 ·have e0:(decide ((1:Int)≤((W.getD 0 []).length:Int))&&decide (((W.getD 0 []).length:Int)≤2))=false:=by
   rw[Bool.and_eq_false_iff]
   by_cases a:1≤(W.getD 0 []).length
   ·exact .inr (decide_eq_false (by omega))
   ·exact .inl (decide_eq_false (by omega))
  rw[e0]at hWi
  have hw:=lk (w:=W) (fun n=>k0 n.2)
  rcases alt with⟨q6,rfl⟩| ⟨q6,qm,g,hsB⟩
  ·have F:=F6 mw q6 q5 g0 dt df
   refine sb [.tmp 2,.tmp 3] (fn:=Tryz.f184) Tryz.func184 ?_
   intro Q hQ
   refine wk F ?_
   refine kq F (hS _) ?_
   refine kq F (hWi _) ?_
   refine ee hQ F ?_
   exact Fin.same (bv _ _ _) ⟨by rw[hw];rfl,rfl⟩
  ·rw[qm]at hWk
   have F:=F9 mw q6 q5 g g0 @hsB @mW dt df
   refine sb [.tmp 2,.tmp 3] (fn:=Tryz.f184) Tryz.func184 ?_
   intro Q hQ
   refine wk F ?_
   refine kq F (hS _) ?_
   refine kq F (hWk _) ?_
   refine kq F (hWi _) ?_
   refine ee hQ F ?_
   exact Fin.same (bv _ _ _) ⟨by rw[hw];rfl,rfl⟩
 have e0:(decide ((1:Int)≤((W.getD 0 []).length:Int))&&decide (((W.getD 0 []).length:Int)≤2))=true:=by
  rw[Bool.and_eq_true,decide_eq_true_eq,decide_eq_true_eq];omega
 rw[e0]at hWi
 have hw:=fun {d y t z:Int} {b1 b2 b3 b4:Bool}=> @pW W ⟨l5,k0⟩ d y t z b1 b2 b3 b4
 have hM:=mm G hG (W.getD 1 [])
 have hN:=mi G (W.getD 4 [])
 have hP1:=fun j=>eg G 205 Rdr.all (w:=W.getD 0 []) (s:=[]) (b:=false) (h:=h) (j:=j) (fun e _ _ hg=>oU G e (by omega) hg)
 have hP2:=fun b j=>eg G 207 Rdr.year (w:=W.getD 2 []) (s:=[]) (b:=b) (h:=h) (j:=j) (fun e _ _ hg=>nA G e (by omega) hg)
 have hP3:=fun b j=>eg G 208 Rdr.clock (w:=W.getD 3 []) (s:=[]) (b:=b) (h:=h) (j:=j) (fun e _ _ hg=>mj G e (by omega) hg)
 have hP4:=fun b j=>eg G 210 (fun r=>r.off false) (w:=W.getD 4 []) (s:=[]) (b:=b) (h:=h) (j:=j) (fun e _ _ hg=>oV G e (by omega) hg)
 have t0:=oY (W.getD 3 [])
 have z0:=rb (W.getD 4 [])
 have zn:= @pV (W.getD 4 [])
 rcases e1:Rdr.part (W.getD 0 []) Rdr.all with⟨d,v1⟩
 rcases e2:Rdr.part (W.getD 2 []) Rdr.year with⟨y,v2⟩
 rcases e3:Rdr.part (W.getD 3 []) Rdr.clock with⟨t,v3⟩
 rcases e4:Rdr.part (W.getD 4 []) (fun r=>r.off false)with⟨z,v4⟩
 rw[e1]at hP1
 rw[e2]at hP2
 rw[e3]at hP3 t0
 rw[e4]at hP4 z0
 simp only[Bool.false_or]at hP1 hP2 hP3 hP4 t0 z0
 have hg:∀(b:Bool) (j:Heap),getRow (h++dR [] b::j) h.length 0=some (188,2,[.agg [.str [],.bool b]]):=fun b j=>by rw[bW _ rfl];rfl
 have hT:=fun(b:Bool) (m z:Int) (hz: -400000≤z∧z≤400000) (j:Heap)=>iM G (s:=[]) (b:=b) ⟨y,m,d,t/3600,t/60%60,t%60⟩ z hz (hg b j)
 simp only[Dt.av_eq]at hT
 have hw:=fun {z:Int} {b4:Bool}=> @hw d y t z v1 v2 v3 b4 e1 e2 e3
 have a1:t.tdiv 3600=t/3600:=Int.tdiv_eq_ediv_of_nonneg t0.1
 have a2:t.tdiv 60=t/60:=Int.tdiv_eq_ediv_of_nonneg t0.1
 have a3:(t/60).tmod 60=t/60%60:=Int.tmod_eq_emod_of_nonneg (by omega)
 have a4:t.tmod 60=t%60:=Int.tmod_eq_emod_of_nonneg t0.1
 generalize ixS monL (W.getD 1 [])+1=ix at*
 cases hn:namF (W.getD 4 [])with
 |some z'=>
  rw[hn]at hN hw
  have hw:=hw (z:=z') (b4:=false) rfl
  have zk:=zn hn
  have hN:∀h,Sat (CT G) 209 [.str (W.getD 4 [])] h (fun r h'=>r=.tup [.int .i64 z',.bool true]∧h'=h):=hN
  rw[Bool.or_false]at hw
  rcases alt with⟨q6,rfl⟩| ⟨q6,qm,g,hsB⟩
  ·have F:=F2 (F9 mw q6 q5 g0 g1 g2 g3 g4 a1) (F6 a2 a3 a4 dt df @ai)
   skip
   refine sb [.tmp 2,.tmp 3] (fn:=Tryz.f184) Tryz.func184 ?_
   intro Q hQ
   refine wn F ?_
   refine kn F (hS _) ?_
   refine kn F (hWi _) ?_
   refine ba 16 [4,8,13,14,15] [true,true,true,true,false,true,true,true,false,true,true,true,true,false,false,false] (.two 4 [false,false,false,false,false,false,true,true,false,false,false,true,true] (.two 8 [false,false,false,false,false,false,false,false,false,false,false,true,true] (.two 13 [] (.two 14 [] (.one 15 [] .fin) 15 [] (.one 14 [] .fin)) 15 [false,false,false,false,false,false,false,false,false,false,false,true,true] (.one 13 [] (.one 14 [] .fin))) 15 [false,false,false,false,false,false,true,true,false,false,false,true,true] (.one 8 [false,false,false,false,false,false,false,false,false,false,false,true,true] (.one 13 [] (.one 14 [] .fin)))) 15 [false,false,true,true,false,false,true,true,false,false,false,true,true] (.one 4 [false,false,false,false,false,false,true,true,false,false,false,true,true] (.one 8 [false,false,false,false,false,false,false,false,false,false,false,true,true] (.one 13 [] (.one 14 [] .fin))))) (by decide+kernel) (by kernel_rfl) (by decide+kernel) ?_
   simp only[bn,bo,aT]
   try refine sq F ?_
   repeat' (first| (refine ar ?_;try refine sq F ?_)| (refine au ?_;try refine sq F ?_)| (refine aw ?_ ?_<;>try refine sq F ?_))
   all_goals try refine wn F ?_
   repeat' (first
    | (refine(hP1 _).mono ?_;rintro r h' ⟨rfl,rfl⟩;try refine sq F ?_)
    | (refine(hP2 _ _).mono ?_;rintro r h' ⟨rfl,rfl⟩;try refine sq F ?_)
    | (refine(hM _).mono ?_;rintro r h' ⟨rfl,rfl⟩;try refine sq F ?_)
    | (refine ar ?_;try refine sq F ?_)| (refine au ?_;try refine sq F ?_)| (refine aw ?_ ?_<;>try refine sq F ?_))
   all_goals try refine wn F ?_
   all_goals (
    refine kn F (hP3 _ _) ?_
    refine kn F (hN _) ?_
    refine kn F (hT _ _ _ zk _) ?_
    refine ee hQ F ?_
    exact Fin.plain (bv _ _ _) ⟨by rw[hw],rfl⟩)
  ·rw[qm]at hWk
   have F:=F2 (F9 mw q6 q5 g @hsB @mW g0 g1 g2) (F9 g3 g4 a1 a2 a3 a4 dt df @ai)
   skip
   refine sb [.tmp 2,.tmp 3] (fn:=Tryz.f184) Tryz.func184 ?_
   intro Q hQ
   refine wn F ?_
   refine kn F (hS _) ?_
   refine kn F (hWk _) ?_
   refine kn F (hWi _) ?_
   refine ba 16 [4,8,13,14,15] [true,true,true,true,false,true,true,true,false,true,true,true,true,false,false,false] (.two 4 [false,false,false,false,false,false,true,true,false,false,false,true,true] (.two 8 [false,false,false,false,false,false,false,false,false,false,false,true,true] (.two 13 [] (.two 14 [] (.one 15 [] .fin) 15 [] (.one 14 [] .fin)) 15 [false,false,false,false,false,false,false,false,false,false,false,true,true] (.one 13 [] (.one 14 [] .fin))) 15 [false,false,false,false,false,false,true,true,false,false,false,true,true] (.one 8 [false,false,false,false,false,false,false,false,false,false,false,true,true] (.one 13 [] (.one 14 [] .fin)))) 15 [false,false,true,true,false,false,true,true,false,false,false,true,true] (.one 4 [false,false,false,false,false,false,true,true,false,false,false,true,true] (.one 8 [false,false,false,false,false,false,false,false,false,false,false,true,true] (.one 13 [] (.one 14 [] .fin))))) (by decide+kernel) (by kernel_rfl) (by decide+kernel) ?_
   simp only[bn,bo,aT]
   try refine sq F ?_
   repeat' (first| (refine ar ?_;try refine sq F ?_)| (refine au ?_;try refine sq F ?_)| (refine aw ?_ ?_<;>try refine sq F ?_))
   all_goals try refine wn F ?_
   repeat' (first
    | (refine(hP1 _).mono ?_;rintro r h' ⟨rfl,rfl⟩;try refine sq F ?_)
    | (refine(hP2 _ _).mono ?_;rintro r h' ⟨rfl,rfl⟩;try refine sq F ?_)
    | (refine(hM _).mono ?_;rintro r h' ⟨rfl,rfl⟩;try refine sq F ?_)
    | (refine ar ?_;try refine sq F ?_)| (refine au ?_;try refine sq F ?_)| (refine aw ?_ ?_<;>try refine sq F ?_))
   all_goals try refine wn F ?_
   all_goals (
    refine kn F (hP3 _ _) ?_
    refine kn F (hN _) ?_
    refine kn F (hT _ _ _ zk _) ?_
    refine ee hQ F ?_
    exact Fin.plain (bv _ _ _) ⟨by rw[hw],rfl⟩)
 |none=>
  rw[hn]at hN hw
  have hw:=hw (z:=z) (b4:=v4) e4
  have hN:∀h,Sat (CT G) 209 [.str (W.getD 4 [])] h (fun r h'=>r=.tup [.int .i64 0,.bool false]∧h'=h):=hN
  rcases alt with⟨q6,rfl⟩| ⟨q6,qm,g,hsB⟩
  ·have F:=F2 (F9 mw q6 q5 g0 g1 g2 g3 g4 a1) (F6 a2 a3 a4 dt df @ai)
   skip
   refine sb [.tmp 2,.tmp 3] (fn:=Tryz.f184) Tryz.func184 ?_
   intro Q hQ
   refine wn F ?_
   refine kn F (hS _) ?_
   refine kn F (hWi _) ?_
   refine ba 16 [4,8,13,14,15] [true,true,true,true,false,true,true,true,false,true,true,true,true,false,false,false] (.two 4 [false,false,false,false,false,false,true,true,false,false,false,true,true] (.two 8 [false,false,false,false,false,false,false,false,false,false,false,true,true] (.two 13 [] (.two 14 [] (.one 15 [] .fin) 15 [] (.one 14 [] .fin)) 15 [false,false,false,false,false,false,false,false,false,false,false,true,true] (.one 13 [] (.one 14 [] .fin))) 15 [false,false,false,false,false,false,true,true,false,false,false,true,true] (.one 8 [false,false,false,false,false,false,false,false,false,false,false,true,true] (.one 13 [] (.one 14 [] .fin)))) 15 [false,false,true,true,false,false,true,true,false,false,false,true,true] (.one 4 [false,false,false,false,false,false,true,true,false,false,false,true,true] (.one 8 [false,false,false,false,false,false,false,false,false,false,false,true,true] (.one 13 [] (.one 14 [] .fin))))) (by decide+kernel) (by kernel_rfl) (by decide+kernel) ?_
   simp only[bn,bo,aT]
   try refine sq F ?_
   repeat' (first| (refine ar ?_;try refine sq F ?_)| (refine au ?_;try refine sq F ?_)| (refine aw ?_ ?_<;>try refine sq F ?_))
   all_goals try refine wn F ?_
   repeat' (first
    | (refine(hP1 _).mono ?_;rintro r h' ⟨rfl,rfl⟩;try refine sq F ?_)
    | (refine(hP2 _ _).mono ?_;rintro r h' ⟨rfl,rfl⟩;try refine sq F ?_)
    | (refine(hM _).mono ?_;rintro r h' ⟨rfl,rfl⟩;try refine sq F ?_)
    | (refine ar ?_;try refine sq F ?_)| (refine au ?_;try refine sq F ?_)| (refine aw ?_ ?_<;>try refine sq F ?_))
   all_goals try refine wn F ?_
   all_goals (
    refine kn F (hP3 _ _) ?_
    refine kn F (hN _) ?_
    refine kn F (hP4 _ _) ?_
    refine kn F (hT _ _ _ z0 _) ?_
    refine ee hQ F ?_
    exact Fin.plain (bv _ _ _) ⟨by rw[hw],rfl⟩)
  ·rw[qm]at hWk
   have F:=F2 (F9 mw q6 q5 g @hsB @mW g0 g1 g2) (F9 g3 g4 a1 a2 a3 a4 dt df @ai)
   skip
   refine sb [.tmp 2,.tmp 3] (fn:=Tryz.f184) Tryz.func184 ?_
   intro Q hQ
   refine wn F ?_
   refine kn F (hS _) ?_
   refine kn F (hWk _) ?_
   refine kn F (hWi _) ?_
   refine ba 16 [4,8,13,14,15] [true,true,true,true,false,true,true,true,false,true,true,true,true,false,false,false] (.two 4 [false,false,false,false,false,false,true,true,false,false,false,true,true] (.two 8 [false,false,false,false,false,false,false,false,false,false,false,true,true] (.two 13 [] (.two 14 [] (.one 15 [] .fin) 15 [] (.one 14 [] .fin)) 15 [false,false,false,false,false,false,false,false,false,false,false,true,true] (.one 13 [] (.one 14 [] .fin))) 15 [false,false,false,false,false,false,true,true,false,false,false,true,true] (.one 8 [false,false,false,false,false,false,false,false,false,false,false,true,true] (.one 13 [] (.one 14 [] .fin)))) 15 [false,false,true,true,false,false,true,true,false,false,false,true,true] (.one 4 [false,false,false,false,false,false,true,true,false,false,false,true,true] (.one 8 [false,false,false,false,false,false,false,false,false,false,false,true,true] (.one 13 [] (.one 14 [] .fin))))) (by decide+kernel) (by kernel_rfl) (by decide+kernel) ?_
   simp only[bn,bo,aT]
   try refine sq F ?_
   repeat' (first| (refine ar ?_;try refine sq F ?_)| (refine au ?_;try refine sq F ?_)| (refine aw ?_ ?_<;>try refine sq F ?_))
   all_goals try refine wn F ?_
   repeat' (first
    | (refine(hP1 _).mono ?_;rintro r h' ⟨rfl,rfl⟩;try refine sq F ?_)
    | (refine(hP2 _ _).mono ?_;rintro r h' ⟨rfl,rfl⟩;try refine sq F ?_)
    | (refine(hM _).mono ?_;rintro r h' ⟨rfl,rfl⟩;try refine sq F ?_)
    | (refine ar ?_;try refine sq F ?_)| (refine au ?_;try refine sq F ?_)| (refine aw ?_ ?_<;>try refine sq F ?_))
   all_goals try refine wn F ?_
   all_goals (
    refine kn F (hP3 _ _) ?_
    refine kn F (hN _) ?_
    refine kn F (hP4 _ _) ?_
    refine kn F (hT _ _ _ z0 _) ?_
    refine ee hQ F ?_
    exact Fin.plain (bv _ _ _) ⟨by rw[hw],rfl⟩)
end Go.Av
namespace Go.Av
open Go Go.Proofs Go.RowKit
attribute [local irreducible] WP WPl WPix Sat
variable (G:Nat→Option (List AVal))
theorem ln{s:Bs}(h:((splF 58 s).length≠2∧(splF 58 s).length≠3)∨∃x∈splF 58 s,x.length≠2):clkR s=none:=by
 unfold clkR
 refine if_pos ?_
 rcases h with h| ⟨x,hx,h⟩
 ·exact .inl h
 ·right
  rw[List.all_eq_false]
  exact⟨x,hx,by simpa using h⟩
theorem lq{s:Bs}(h1:(splF 58 s).length=2∨(splF 58 s).length=3)(h2:∀x∈splF 58 s,x.length=2):clkR s=some (num9 ((splF 58 s).getD 0 []),num9 ((splF 58 s).getD 1 []),if (splF 58 s).length=3 then num9 ((splF 58 s).getD 2 [])else 0):=by
 unfold clkR
 refine if_neg ?_
 rintro(h|h)
 ·omega
 ·rw[List.all_eq_false]at h
  obtain⟨x,hx,h⟩:=h
  exact h (by simpa using h2 x hx)
theorem cY{w:List Bs}(h:w.length≠5∨2<(w.getD 0 []).length∨((w.getD 2 []).length≠4∧(w.getD 2 []).length≠2)):wrdR w=none:=by
 unfold wrdR;exact if_pos h
theorem lr{w:List Bs}(h1:w.length=5)(h2:¬2<(w.getD 0 []).length)(h3:(w.getD 2 []).length=4∨(w.getD 2 []).length=2):wrdR w=match clkR (w.getD 3 [])with
 |none=>none
 |some p=>zonT (zonR (w.getD 4 [])) ⟨yearR (w.getD 2 []),1+ixS monL (w.getD 1 []),num9 (w.getD 0 []),p.1,p.2.1,p.2.2⟩:=by
 unfold wrdR
 rw[if_neg (by omega)]
 rcases clkR (w.getD 3 [])with _| ⟨a,b,c⟩<;>rfl
theorem nT(s:Bs): -1≤num9 s∧num9 s≤1000000000:=ie s
theorem mB(s:Bs)(hs:s.length≤1048576)(h:Heap):Sat (CT G) 158 [.str s] h (fun r h'=>r=.tup [.int .i64 ((mailR s).getD 0),.bool (mailR s).isSome]∧h'=h):=by
 have dt:∀i:Decidable True, @decide True i=true:=fun i=>by simp
 have df:∀i:Decidable False, @decide False i=false:=fun i=>by simp
 have hS:∀h,Sat (CT G) 185 [.str s,.int .u8 32] h (fun r h'=>r=.sl 1 ((splF 32 s).map .str)∧h'=h):=ed G s 32 hs
 have hle:=dJ 32 s
 have em:mailR s=if (splF 32 s).length=6 then(if (splF 32 s).getD 0 []∈weekL then wrdR ((splF 32 s).drop 1)else none)else wrdR (splF 32 s):=rfl
 generalize splF 32 s=w at hS hle em
 have mw:(w.map AVal.str).length=w.length:=List.length_map ..
 by_cases six:w.length=6
 rotate_left
 ·rw[em,if_neg six]
  have q6:((w.length:Int)==6)=false:=by simpa using(by omega:¬(w.length:Int)=6)
  have hWl:∀x∈w,x.length≤1048576:=fun x hx=>by have:=hle x hx;omega
  have F:=F2 mw q6
  skip
  refine sb [.tmp 2,.tmp 3] (fn:=Tryz.f158) Tryz.func158 ?_
  intro Q hQ
  refine wn F ?_
  refine kn F (hS _) ?_
  generalize hWW:w=W at*
  have mW:(W.map AVal.str).length=W.length:=List.length_map ..
  by_cases l5:W.length=5
  rotate_left
  ·have q5:((W.length:Int) !=5)=true:=by simp only[bne_iff_ne,ne_eq];omega
   have hw:=cY (w:=W) (.inl l5)
   have F:=F3 F @mW q5
   try refine sq F ?_
   refine wn F ?_
   refine ee hQ F ?_
   exact Fin.same (ah _ _ _) ⟨by rw[hw];rfl,rfl⟩
  have q5:((W.length:Int) !=5)=false:=by rw[l5];rfl
  have g0:=aF (w:=W) (k:=0) (by omega)
  have g1:=aF (w:=W) (k:=1) (by omega)
  have g2:=aF (w:=W) (k:=2) (by omega)
  have g3:=aF (w:=W) (k:=3) (by omega)
  have g4:=aF (w:=W) (k:=4) (by omega)
  have b0:=hWl _ (List.mem_of_getElem? g0)
  have b1:=hWl _ (List.mem_of_getElem? g1)
  have b2:=hWl _ (List.mem_of_getElem? g2)
  have b3:=hWl _ (List.mem_of_getElem? g3)
  have b4:=hWl _ (List.mem_of_getElem? g4)
  by_cases k0:2<(W.getD 0 []).length
  ·have q0:decide (((W.getD 0 []).length:Int)>2)=true:=decide_eq_true (by omega)
   have hw:=cY (w:=W) (.inr (.inl k0))
   have F:=F6 F @mW q5 q0 g0 g2
   try refine sq F ?_
   refine wn F ?_
   refine ee hQ F ?_
   exact Fin.same (ah _ _ _) ⟨by rw[hw];rfl,rfl⟩
  have q0:decide (((W.getD 0 []).length:Int)>2)=false:=decide_eq_false (by omega)
  by_cases k2:(W.getD 2 []).length≠4∧(W.getD 2 []).length≠2
  ·have q1:(((W.getD 2 []).length:Int) !=4)=true:=by simp only[bne_iff_ne,ne_eq];omega
   have q2:(((W.getD 2 []).length:Int) !=2)=true:=by simp only[bne_iff_ne,ne_eq];omega
   have hw:=cY (w:=W) (.inr (.inr k2))
   have F:=F8 F @mW q5 q0 q1 q2 g0 g2
   try refine sq F ?_
   refine wn F ?_
   refine ee hQ F ?_
   exact Fin.same (ah _ _ _) ⟨by rw[hw];rfl,rfl⟩
  have k2:(W.getD 2 []).length=4∨(W.getD 2 []).length=2:=by omega
  have hw:=lr l5 k0 k2
  have nD:=aB G (W.getD 0 []) (by omega)
  have nY:=aB G (W.getD 2 []) (by omega)
  have hM:∀h,Sat (CT G) 186 [.sl 1 [.str [74,97,110],.str [70,101,98],.str [77,97,114],.str [65,112,114],.str [77,97,121],.str [74,117,110],.str [74,117,108],.str [65,117,103],.str [83,101,112],.str [79,99,116],.str [78,111,118],.str [68,101,99]],.str (W.getD 1 [])] h (fun r h'=>r=.int .i64 (ixS monL (W.getD 1 []))∧h'=h):=cU G monL (W.getD 1 []) (by decide)
  have hN:=gJ G (W.getD 4 []) (by omega)
  have hz0:= @li (W.getD 4 [])
  have ixb:=nC monL (W.getD 1 [])
  have ixb: -1≤ixS monL (W.getD 1 [])∧ixS monL (W.getD 1 [])≤12:=ixb
  have ub:=nT (W.getD 2 [])
  have hCt:∀h,Sat (CT G) 185 [.str (W.getD 3 []),.int .u8 58] h (fun r h'=>r=.sl 1 ((splF 58 (W.getD 3 [])).map .str)∧h'=h):=ed G (W.getD 3 []) 58 (by omega)
  have htl:=dJ 58 (W.getD 3 [])
  have cn:= @ln (W.getD 3 [])
  have ca:= @lq (W.getD 3 [])
  have alt:(((((W.getD 2 []).length:Int) !=4)=true∧(((W.getD 2 []).length:Int) !=2)=false)∧((((W.getD 2 []).length:Int)==2)=true∧((decide (num9 (W.getD 2 [])≥50)=true∧num9 (W.getD 2 [])+1900=yearR (W.getD 2 []))∨(decide (num9 (W.getD 2 [])≥50)=false∧decide (num9 (W.getD 2 [])≥0)=true∧num9 (W.getD 2 [])+2000=yearR (W.getD 2 []))∨(num9 (W.getD 2 [])=yearR (W.getD 2 [])∧decide (yearR (W.getD 2 [])≥50)=false∧decide (yearR (W.getD 2 [])≥0)=false))))∨
    ((((W.getD 2 []).length:Int) !=4)=false∧(((W.getD 2 []).length:Int)==2)=false∧num9 (W.getD 2 [])=yearR (W.getD 2 [])):=by
   unfold yearR
   by_cases e:(W.getD 2 []).length=2
   ·left
    refine⟨⟨by rw[e];rfl,by rw[e];rfl⟩,by rw[e];rfl,?_⟩
    by_cases a:50≤num9 (W.getD 2 [])
    ·exact .inl ⟨decide_eq_true a,by rw[if_pos ⟨e,a⟩]⟩
    ·by_cases b:0≤num9 (W.getD 2 [])
     ·exact .inr (.inl ⟨decide_eq_false a,decide_eq_true b,by rw[if_neg (fun n=>a n.2),if_pos ⟨e,b⟩]⟩)
     ·rw[if_neg (fun n=>a n.2),if_neg (fun n=>b n.2)]
      exact .inr (.inr ⟨rfl,decide_eq_false a,decide_eq_false b⟩)
   ·right
    have e4:(W.getD 2 []).length=4:=by omega
    exact⟨by rw[e4];rfl,by rw[e4];rfl,by rw[if_neg (fun n=>e n.1),if_neg (fun n=>e n.1)]⟩
  generalize zonR (W.getD 4 [])=zo at*
  generalize yearR (W.getD 2 [])=Y at*
  generalize num9 (W.getD 2 [])=u at*
  generalize num9 (W.getD 0 [])=nd at*
  generalize ixS monL (W.getD 1 [])=ix at*
  generalize splF 58 (W.getD 3 [])=t at*
  have mt:(t.map AVal.str).length=t.length:=List.length_map ..
  have hT:=fun(a b c:Int) z (hz: -400000≤z∧z≤400000) h=>fk G ⟨Y,1+ix,nd,a,b,c⟩ z hz h
  simp only[Dt.av_eq]at hT
  have F:=F2 (F9 F @mW mt q5 q0 g0 g1 g2 g3) (F4 g4 dt df @ai)
  rcases alt with⟨alt0,alt1,alt|alt|alt⟩| ⟨alt0,alt1,alt⟩
  all_goals (
   have F:=F4 F @alt0 @alt1 @alt
   try refine sq F ?_
   refine wn F ?_
   refine az 15 15 _ (by rfl) (by decide+kernel) (by kernel_rfl) (by decide+kernel) (by decide+kernel) (by decide+kernel) ?_
   simp only[List.take_succ_cons,List.take_zero]
   refine sq F ?_
   refine wn F ?_
   refine aa (nD _) ?_
   try refine sq F ?_
   refine wn F ?_
   refine aa (nY _) ?_
   try refine sq F ?_
   refine wn F ?_
   refine aa (hM _) ?_
   try refine sq F ?_
   refine wn F ?_
   refine⟨?_,?_⟩
   ·refine aa (nD _) ?_
    try refine sq F ?_
    refine wn F ?_
    refine aa (nY _) ?_
    try refine sq F ?_
    refine wn F ?_
    refine aa (hM _) ?_
    try refine sq F ?_
    refine wn F ?_
    all_goals first|exact zq F|trivial| (refine sq F ?_;trivial)
   skip
   try refine sq F ?_
   refine wk F ?_
   refine kq F (hCt _) ?_
   by_cases l23:t.length≠2∧t.length≠3
   ·have w2:((t.length:Int) !=2)=true:=by simp only[bne_iff_ne,ne_eq];omega
    have w3:((t.length:Int) !=3)=true:=by simp only[bne_iff_ne,ne_eq];omega
    have hc:=cn (.inl l23)
    have F:=F3 F w2 w3
    try refine sq F ?_
    refine wk F ?_
    refine ee hQ F ?_
    exact Fin.plain (ah _ _ _) ⟨by rw[hw,hc];rfl,rfl⟩
   have w23:(((t.length:Int) !=2)=false∧((t.length:Int)==3)=false∧(if t.length=3 then num9 (t.getD 2 [])else 0)=0)∨(t.length=3∧((t.length:Int) !=2)=true∧((t.length:Int) !=3)=false∧((t.length:Int)==3)=true∧t[2]? =some (t.getD 2 [])∧(if t.length=3 then num9 (t.getD 2 [])else 0)=num9 (t.getD 2 [])):=by
    by_cases e:t.length=2
    ·left;rw[e];exact⟨rfl,rfl,rfl⟩
    ·right
     have e3:t.length=3:=by omega
     have:=aF (w:=t) (k:=2) (by omega)
     refine⟨e3,?_⟩
     rw[e3];exact⟨rfl,rfl,rfl,this,rfl⟩
   have t0:=aF (w:=t) (k:=0) (by omega)
   have t1:=aF (w:=t) (k:=1) (by omega)
   have bt0:=htl _ (List.mem_of_getElem? t0)
   have bt1:=htl _ (List.mem_of_getElem? t1)
   have n0:=aB G (t.getD 0 []) (by omega)
   have n1:=aB G (t.getD 1 []) (by omega)
   have n2:3=t.length→∀h,Sat (CT G) 159 [.str (t.getD 2 [])] h (fun r h'=>r=.int .i64 (num9 (t.getD 2 []))∧h'=h):=fun e=>aB G (t.getD 2 []) (by have:=htl _ (List.mem_of_getElem? (aF (w:=t) (k:=2) (by omega)));omega)
   rcases w23 with w23| ⟨h3,w23⟩
   all_goals (
    have F:=F4 F w23 t0 t1
    try refine sq F ?_
    refine wk F ?_
    refine lm (fun nL tL hL=>∃(k:Nat),t.length-k=nL∧h++[.row 90 6 0 [.agg [.int .i64 Y,.int .i64 (1+ix),.int .i64 nd,.int .i64 0,.int .i64 0,.int .i64 0]]]=hL∧tL 7=.int .i64 k∧k≤t.length∧(∀x∈t.take k,x.length=2)) ((fun(k:Nat)=>(t.length-k:Nat)) (0)) ?_ ?_
    ·refine Wkn.refl ⟨0,rfl,ay,?_,by omega,by simp⟩
     all_goals first|exact zq F|rfl|omega|trivial|skip
    rintro _ s2 h' ⟨k,rfl,rfl,e7,hk,hq⟩ K2 hK2
    simp only[ak,ao,Nat.reduceEqDiff, ↓reduceIte]at e7
    have F:=F2 F e7
    by_cases c1:k<t.length
    ·have hx:=aF c1
     have d1:=decide_eq_true c1
     by_cases e:(t.getD k []).length=2
     ·have q:(((t.getD k []).length:Int) !=2)=false:=by rw[e];rfl
      have hq':∀y∈t.take (k+1),y.length=2:=fun y hy=>by
       rw[List.take_add_one,hx]at hy
       rcases List.mem_append.1 hy with hy|hy
       ·exact hq y hy
       ·have:y=t.getD k []:=by simpa using hy
        rw[this];exact e
      have F:=F4 F hx d1 q
      try refine sq F ?_
      refine wk F ?_
      refine hK2 _ _ _ (Wkn.refl ⟨k+1,rfl,ay,?_,by omega,hq'⟩) (by omega)
      all_goals first|exact zq F|rfl|omega|trivial|skip
     ·have q:(((t.getD k []).length:Int) !=2)=true:=by simp only[bne_iff_ne,ne_eq];omega
      have hc:=cn (.inr ⟨_,List.mem_of_getElem? hx,e⟩)
      have F:=F4 F hx d1 q
      try refine sq F ?_
      refine wk F ?_
      refine ee hQ F ?_
      exact Fin.plain (ah _ _ _) ⟨by rw[hw,hc];rfl,rfl⟩
    ·have d1:=decide_eq_false c1
     rw[List.take_of_length_le (by omega)]at hq
     have hc:=ca (by omega) hq
     rw[hc]at hw
     have F:=F2 F d1
     try refine sq F ?_
     refine wk F ?_
     refine aa (n0 _) ?_
     try refine sq F ?_
     refine wk F ?_
     refine aa (n1 _) ?_
     try refine sq F ?_
     refine wk F ?_
     have hw':wrdR W=zonT zo ⟨Y,1+ix,nd,num9 (t.getD 0 []),num9 (t.getD 1 []),if t.length=3 then num9 (t.getD 2 [])else 0⟩:=hw
     try (
      refine kq F (n2 (by omega) _) ?_)
     cases zo with
     |none=>
      have hN:∀h,Sat (CT G) 187 [.str (W.getD 4 [])] h (fun r h'=>r=.tup [.int .i64 0,.bool false]∧h'=h):=hN
      refine kq F (hN _) ?_
      refine ee hQ F ?_
      exact Fin.plain (ah _ _ _) ⟨by rw[hw'];rfl,rfl⟩
     |some z=>
      have hN:∀h,Sat (CT G) 187 [.str (W.getD 4 [])] h (fun r h'=>r=.tup [.int .i64 z,.bool true]∧h'=h):=hN
      refine kq F (hN _) ?_
      refine kq F (hT _ _ _ z (hz0 rfl) _) ?_
      refine ee hQ F ?_
      exact Fin.plain (ah _ _ _) ⟨by rw[hw'];(first|rw[w23.2.2]|rw[w23.2.2.2.2]);rfl,rfl⟩))
 rw[em,if_pos six]
 have q6:((w.length:Int)==6)=true:=by rw[six];rfl
 have g:=aF (w:=w) (k:=0) (by omega)
 have hWk:∀h,Sat (CT G) 186 [.sl 1 [.str [77,111,110,44],.str [84,117,101,44],.str [87,101,100,44],.str [84,104,117,44],.str [70,114,105,44],.str [83,97,116,44],.str [83,117,110,44]],.str (w.getD 0 [])] h (fun r h'=>r=.int .i64 (ixS weekL (w.getD 0 []))∧h'=h):=cU G weekL (w.getD 0 []) (by decide)
 by_cases hm:w.getD 0 []∈weekL
 rotate_left
 ·rw[if_neg hm]
  have e:=gI (l:=weekL) (s:=w.getD 0 []) (fun x hx k=>hm (k▸hx))
  rw[e]at hWk
  have F:=F5 mw q6 g dt df
  refine sb [.tmp 2,.tmp 3] (fn:=Tryz.f158) Tryz.func158 ?_
  intro Q hQ
  refine wk F ?_
  refine kq F (hS _) ?_
  refine kq F (hWk _) ?_
  refine ee hQ F ?_
  exact Fin.same (ah _ _ _) ⟨rfl,rfl⟩
 rw[if_pos hm]
 obtain⟨i,hi⟩:=pS hm
 rw[hi]at hWk
 have qi:decide ((i:Int)<0)=false:=decide_eq_false (by omega)
 have hWl:∀x∈w.drop 1,x.length≤1048576:=fun x hx=>by have:=hle x (List.mem_of_mem_drop hx);omega
 have md:(w.map AVal.str).drop 1=(w.drop 1).map AVal.str:=by rw[List.map_drop]
 have o1:1≤w.length:=by omega
 have hsB:∀H,aslice Tryz.prog H 120 (.sl 1 (w.map AVal.str)) (some (.int .i64 1)) none none=some (.sl 1 ((w.drop 1).map AVal.str)):=fun H=>by
  rw[← md];exact gH (i:=1) (by simp only[go_sem];try rfl) (by simp only[go_sem];try rfl) (by omega)
 clear md
 generalize w.drop 1=W at*
 have F:=F7 mw q6 g dt df @hsB qi
 skip
 refine sb [.tmp 2,.tmp 3] (fn:=Tryz.f158) Tryz.func158 ?_
 intro Q hQ
 refine wn F ?_
 refine kn F (hS _) ?_
 refine kn F (hWk _) ?_
 have mW:(W.map AVal.str).length=W.length:=List.length_map ..
 by_cases l5:W.length=5
 rotate_left
 ·have q5:((W.length:Int) !=5)=true:=by simp only[bne_iff_ne,ne_eq];omega
  have hw:=cY (w:=W) (.inl l5)
  have F:=F3 F @mW q5
  try refine sq F ?_
  refine wn F ?_
  refine ee hQ F ?_
  exact Fin.same (ah _ _ _) ⟨by rw[hw];rfl,rfl⟩
 have q5:((W.length:Int) !=5)=false:=by rw[l5];rfl
 have g0:=aF (w:=W) (k:=0) (by omega)
 have g1:=aF (w:=W) (k:=1) (by omega)
 have g2:=aF (w:=W) (k:=2) (by omega)
 have g3:=aF (w:=W) (k:=3) (by omega)
 have g4:=aF (w:=W) (k:=4) (by omega)
 have b0:=hWl _ (List.mem_of_getElem? g0)
 have b1:=hWl _ (List.mem_of_getElem? g1)
 have b2:=hWl _ (List.mem_of_getElem? g2)
 have b3:=hWl _ (List.mem_of_getElem? g3)
 have b4:=hWl _ (List.mem_of_getElem? g4)
 by_cases k0:2<(W.getD 0 []).length
 ·have q0:decide (((W.getD 0 []).length:Int)>2)=true:=decide_eq_true (by omega)
  have hw:=cY (w:=W) (.inr (.inl k0))
  have F:=F6 F @mW q5 q0 g0 g2
  try refine sq F ?_
  refine wn F ?_
  refine ee hQ F ?_
  exact Fin.same (ah _ _ _) ⟨by rw[hw];rfl,rfl⟩
 have q0:decide (((W.getD 0 []).length:Int)>2)=false:=decide_eq_false (by omega)
 by_cases k2:(W.getD 2 []).length≠4∧(W.getD 2 []).length≠2
 ·have q1:(((W.getD 2 []).length:Int) !=4)=true:=by simp only[bne_iff_ne,ne_eq];omega
  have q2:(((W.getD 2 []).length:Int) !=2)=true:=by simp only[bne_iff_ne,ne_eq];omega
  have hw:=cY (w:=W) (.inr (.inr k2))
  have F:=F8 F @mW q5 q0 q1 q2 g0 g2
  try refine sq F ?_
  refine wn F ?_
  refine ee hQ F ?_
  exact Fin.same (ah _ _ _) ⟨by rw[hw];rfl,rfl⟩
 have k2:(W.getD 2 []).length=4∨(W.getD 2 []).length=2:=by omega
 have hw:=lr l5 k0 k2
 have nD:=aB G (W.getD 0 []) (by omega)
 have nY:=aB G (W.getD 2 []) (by omega)
 have hM:∀h,Sat (CT G) 186 [.sl 1 [.str [74,97,110],.str [70,101,98],.str [77,97,114],.str [65,112,114],.str [77,97,121],.str [74,117,110],.str [74,117,108],.str [65,117,103],.str [83,101,112],.str [79,99,116],.str [78,111,118],.str [68,101,99]],.str (W.getD 1 [])] h (fun r h'=>r=.int .i64 (ixS monL (W.getD 1 []))∧h'=h):=cU G monL (W.getD 1 []) (by decide)
 have hN:=gJ G (W.getD 4 []) (by omega)
 have hz0:= @li (W.getD 4 [])
 have ixb:=nC monL (W.getD 1 [])
 have ixb: -1≤ixS monL (W.getD 1 [])∧ixS monL (W.getD 1 [])≤12:=ixb
 have ub:=nT (W.getD 2 [])
 have hCt:∀h,Sat (CT G) 185 [.str (W.getD 3 []),.int .u8 58] h (fun r h'=>r=.sl 1 ((splF 58 (W.getD 3 [])).map .str)∧h'=h):=ed G (W.getD 3 []) 58 (by omega)
 have htl:=dJ 58 (W.getD 3 [])
 have cn:= @ln (W.getD 3 [])
 have ca:= @lq (W.getD 3 [])
 have alt:(((((W.getD 2 []).length:Int) !=4)=true∧(((W.getD 2 []).length:Int) !=2)=false)∧((((W.getD 2 []).length:Int)==2)=true∧((decide (num9 (W.getD 2 [])≥50)=true∧num9 (W.getD 2 [])+1900=yearR (W.getD 2 []))∨(decide (num9 (W.getD 2 [])≥50)=false∧decide (num9 (W.getD 2 [])≥0)=true∧num9 (W.getD 2 [])+2000=yearR (W.getD 2 []))∨(num9 (W.getD 2 [])=yearR (W.getD 2 [])∧decide (yearR (W.getD 2 [])≥50)=false∧decide (yearR (W.getD 2 [])≥0)=false))))∨
   ((((W.getD 2 []).length:Int) !=4)=false∧(((W.getD 2 []).length:Int)==2)=false∧num9 (W.getD 2 [])=yearR (W.getD 2 [])):=by
  unfold yearR
  by_cases e:(W.getD 2 []).length=2
  ·left
   refine⟨⟨by rw[e];rfl,by rw[e];rfl⟩,by rw[e];rfl,?_⟩
   by_cases a:50≤num9 (W.getD 2 [])
   ·exact .inl ⟨decide_eq_true a,by rw[if_pos ⟨e,a⟩]⟩
   ·by_cases b:0≤num9 (W.getD 2 [])
    ·exact .inr (.inl ⟨decide_eq_false a,decide_eq_true b,by rw[if_neg (fun n=>a n.2),if_pos ⟨e,b⟩]⟩)
    ·rw[if_neg (fun n=>a n.2),if_neg (fun n=>b n.2)]
     exact .inr (.inr ⟨rfl,decide_eq_false a,decide_eq_false b⟩)
  ·right
   have e4:(W.getD 2 []).length=4:=by omega
   exact⟨by rw[e4];rfl,by rw[e4];rfl,by rw[if_neg (fun n=>e n.1),if_neg (fun n=>e n.1)]⟩
 generalize zonR (W.getD 4 [])=zo at*
 generalize yearR (W.getD 2 [])=Y at*
 generalize num9 (W.getD 2 [])=u at*
 generalize num9 (W.getD 0 [])=nd at*
 generalize ixS monL (W.getD 1 [])=ix at*
 generalize splF 58 (W.getD 3 [])=t at*
 have mt:(t.map AVal.str).length=t.length:=List.length_map ..
 have hT:=fun(a b c:Int) z (hz: -400000≤z∧z≤400000) h=>fk G ⟨Y,1+ix,nd,a,b,c⟩ z hz h
 simp only[Dt.av_eq]at hT
 have F:=F2 (F9 F @mW mt q5 q0 g0 g1 g2 g3) (F4 g4 dt df @ai)
 rcases alt with⟨alt0,alt1,alt|alt|alt⟩| ⟨alt0,alt1,alt⟩
 all_goals (
  have F:=F4 F @alt0 @alt1 @alt
  try refine sq F ?_
  refine wn F ?_
  refine az 15 15 _ (by rfl) (by decide+kernel) (by kernel_rfl) (by decide+kernel) (by decide+kernel) (by decide+kernel) ?_
  simp only[List.take_succ_cons,List.take_zero]
  refine sq F ?_
  refine wn F ?_
  refine aa (nD _) ?_
  try refine sq F ?_
  refine wn F ?_
  refine aa (nY _) ?_
  try refine sq F ?_
  refine wn F ?_
  refine aa (hM _) ?_
  try refine sq F ?_
  refine wn F ?_
  refine⟨?_,?_⟩
  ·refine aa (nD _) ?_
   try refine sq F ?_
   refine wn F ?_
   refine aa (nY _) ?_
   try refine sq F ?_
   refine wn F ?_
   refine aa (hM _) ?_
   try refine sq F ?_
   refine wn F ?_
   all_goals first|exact zq F|trivial| (refine sq F ?_;trivial)
  skip
  try refine sq F ?_
  refine wk F ?_
  refine kq F (hCt _) ?_
  by_cases l23:t.length≠2∧t.length≠3
  ·have w2:((t.length:Int) !=2)=true:=by simp only[bne_iff_ne,ne_eq];omega
   have w3:((t.length:Int) !=3)=true:=by simp only[bne_iff_ne,ne_eq];omega
   have hc:=cn (.inl l23)
   have F:=F3 F w2 w3
   try refine sq F ?_
   refine wk F ?_
   refine ee hQ F ?_
   exact Fin.plain (ah _ _ _) ⟨by rw[hw,hc];rfl,rfl⟩
  have w23:(((t.length:Int) !=2)=false∧((t.length:Int)==3)=false∧(if t.length=3 then num9 (t.getD 2 [])else 0)=0)∨(t.length=3∧((t.length:Int) !=2)=true∧((t.length:Int) !=3)=false∧((t.length:Int)==3)=true∧t[2]? =some (t.getD 2 [])∧(if t.length=3 then num9 (t.getD 2 [])else 0)=num9 (t.getD 2 [])):=by
   by_cases e:t.length=2
   ·left;rw[e];exact⟨rfl,rfl,rfl⟩
   ·right
    have e3:t.length=3:=by omega
    have:=aF (w:=t) (k:=2) (by omega)
    refine⟨e3,?_⟩
    rw[e3];exact⟨rfl,rfl,rfl,this,rfl⟩
  have t0:=aF (w:=t) (k:=0) (by omega)
  have t1:=aF (w:=t) (k:=1) (by omega)
  have bt0:=htl _ (List.mem_of_getElem? t0)
  have bt1:=htl _ (List.mem_of_getElem? t1)
  have n0:=aB G (t.getD 0 []) (by omega)
  have n1:=aB G (t.getD 1 []) (by omega)
  have n2:3=t.length→∀h,Sat (CT G) 159 [.str (t.getD 2 [])] h (fun r h'=>r=.int .i64 (num9 (t.getD 2 []))∧h'=h):=fun e=>aB G (t.getD 2 []) (by have:=htl _ (List.mem_of_getElem? (aF (w:=t) (k:=2) (by omega)));omega)
  rcases w23 with w23| ⟨h3,w23⟩
  all_goals (
   have F:=F4 F w23 t0 t1
   try refine sq F ?_
   refine wk F ?_
   refine lm (fun nL tL hL=>∃(k:Nat),t.length-k=nL∧h++[.row 90 6 0 [.agg [.int .i64 Y,.int .i64 (1+ix),.int .i64 nd,.int .i64 0,.int .i64 0,.int .i64 0]]]=hL∧tL 7=.int .i64 k∧k≤t.length∧(∀x∈t.take k,x.length=2)) ((fun(k:Nat)=>(t.length-k:Nat)) (0)) ?_ ?_
   ·refine Wkn.refl ⟨0,rfl,ay,?_,by omega,by simp⟩
    all_goals first|exact zq F|rfl|omega|trivial|skip
   rintro _ s2 h' ⟨k,rfl,rfl,e7,hk,hq⟩ K2 hK2
   simp only[ak,ao,Nat.reduceEqDiff, ↓reduceIte]at e7
   have F:=F2 F e7
   by_cases c1:k<t.length
   ·have hx:=aF c1
    have d1:=decide_eq_true c1
    by_cases e:(t.getD k []).length=2
    ·have q:(((t.getD k []).length:Int) !=2)=false:=by rw[e];rfl
     have hq':∀y∈t.take (k+1),y.length=2:=fun y hy=>by
      rw[List.take_add_one,hx]at hy
      rcases List.mem_append.1 hy with hy|hy
      ·exact hq y hy
      ·have:y=t.getD k []:=by simpa using hy
       rw[this];exact e
     have F:=F4 F hx d1 q
     try refine sq F ?_
     refine wk F ?_
     refine hK2 _ _ _ (Wkn.refl ⟨k+1,rfl,ay,?_,by omega,hq'⟩) (by omega)
     all_goals first|exact zq F|rfl|omega|trivial|skip
    ·have q:(((t.getD k []).length:Int) !=2)=true:=by simp only[bne_iff_ne,ne_eq];omega
     have hc:=cn (.inr ⟨_,List.mem_of_getElem? hx,e⟩)
     have F:=F4 F hx d1 q
     try refine sq F ?_
     refine wk F ?_
     refine ee hQ F ?_
     exact Fin.plain (ah _ _ _) ⟨by rw[hw,hc];rfl,rfl⟩
   ·have d1:=decide_eq_false c1
    rw[List.take_of_length_le (by omega)]at hq
    have hc:=ca (by omega) hq
    rw[hc]at hw
    have F:=F2 F d1
    try refine sq F ?_
    refine wk F ?_
    refine aa (n0 _) ?_
    try refine sq F ?_
    refine wk F ?_
    refine aa (n1 _) ?_
    try refine sq F ?_
    refine wk F ?_
    have hw':wrdR W=zonT zo ⟨Y,1+ix,nd,num9 (t.getD 0 []),num9 (t.getD 1 []),if t.length=3 then num9 (t.getD 2 [])else 0⟩:=hw
    try (
     refine kq F (n2 (by omega) _) ?_)
    cases zo with
    |none=>
     have hN:∀h,Sat (CT G) 187 [.str (W.getD 4 [])] h (fun r h'=>r=.tup [.int .i64 0,.bool false]∧h'=h):=hN
     refine kq F (hN _) ?_
     refine ee hQ F ?_
     exact Fin.plain (ah _ _ _) ⟨by rw[hw'];rfl,rfl⟩
    |some z=>
     have hN:∀h,Sat (CT G) 187 [.str (W.getD 4 [])] h (fun r h'=>r=.tup [.int .i64 z,.bool true]∧h'=h):=hN
     refine kq F (hN _) ?_
     refine kq F (hT _ _ _ z (hz0 rfl) _) ?_
     refine ee hQ F ?_
     exact Fin.plain (ah _ _ _) ⟨by rw[hw'];(first|rw[w23.2.2]|rw[w23.2.2.2.2]);rfl,rfl⟩))
theorem nU(s:Bs)(hs:s.length≤1048576)(h:Heap):Sat (CT G) 132 [.str s] h (fun r h'=>r=.tup [.int .i64 ((anyF s).getD 0),.bool (anyF s).isSome]∧h'=h):=by
 have hW:=iQ G s hs
 have hM:=mB G s hs
 unfold anyF
 cases e:webR s with
 |some n=>
  rw[e]at hW
  have hW:∀h,Sat (CT G) 133 [.str s] h (fun r h'=>r=.tup [.int .i64 n,.bool true]∧h'=h):=hW
  refine sb [.tmp 2,.tmp 3] (fn:=Tryz.f132) Tryz.func132 ?_
  intro Q hQ
  refine wk trivial ?_
  refine kq trivial (hW _) ?_
  refine ee hQ trivial ?_
  exact Fin.same (ah _ _ _) ⟨rfl,rfl⟩
 |none=>
  rw[e]at hW
  have hW:∀h,Sat (CT G) 133 [.str s] h (fun r h'=>r=.tup [.int .i64 0,.bool false]∧h'=h):=hW
  refine sb [.tmp 2,.tmp 3] (fn:=Tryz.f132) Tryz.func132 ?_
  intro Q hQ
  refine wk trivial ?_
  refine kq trivial (hW _) ?_
  refine kq trivial (hM _) ?_
  refine ee hQ trivial ?_
  exact Fin.same (ah _ _ _) ⟨rfl,rfl⟩
end Go.Av
