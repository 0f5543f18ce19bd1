/- lives() of the feeds: closed runs, put together. -/
import Derived.Test.YtjfjncmgclaokaaGreatDoorMtDz
set_option linter.unusedSimpArgs false
set_option linter.unusedVariables false
set_option linter.unusedSectionVars false
set_option linter.unnecessarySimpa false
set_option maxRecDepth 100000
set_option maxHeartbeats 16000000
namespace Go.Av
open Go Go.Proofs Go.RowKit
end Go.Av
namespace Go.Av
open Go Go.Proofs Go.RowKit
attribute [local irreducible] WP WPl WPix Sat
variable (G:Nat→Option (List AVal))
theorem si{h0 Z:Heap}{q v e:Nat}(l:List En)(hq:h0.length≤q)(hg:getRow Z q v=some (e,5,l.map En.av)):Frz Z h0.length (.hs q v 0 l.length true) (.sl 5 (l.map En.av)):=
 Frz.data hq hg (by simp) (fun r hr=>by obtain⟨x,_,rfl⟩:=List.mem_map.1 hr;exact x.clo _) (fun r hr=>by obtain⟨x,_,rfl⟩:=List.mem_map.1 hr;exact x.sto)
theorem fM(l:List En)(hl:l.length≤1048576)(h:Heap):Sat (CT G) 35 [.sl 5 (l.map En.av)] h (fun r h'=>r=.sl 5 ((onceF l).map En.av)∧h'=h):=by
 have ml:(l.map En.av).length=l.length:=List.length_map ..
 have hma:∀(m:ML Bs Int) (c:Nat) (j:Heap),mapAt (h++(.mp (encM .str iA m) c::j)) h.length=some (encM .str iA m,c):=fun m c j=>by simp[mapAt]
 have ia:∀n,iA n=.int .i64 n:=fun _=>rfl
 have F:=F2 ml hma
 refine sb [.tmp 2] (fn:=Tryz.f35) Tryz.func35 ?_
 intro Q hQ
 refine wk F ?_
 refine lm (fun nL tL hL=>∃(i v c:Nat) (m:ML Bs Int) (out:List En) (j:Heap),l.length-i=nL∧h++(.mp (encM .str iA m) c:: .row 61 5 v (out.map En.av)::j)=hL∧tL 3=.hs (h.length+1) v 0 out.length true∧tL 10=.int .i64 i∧i≤l.length∧out=onceF (l.take i)∧(∀g,((∃y∈out,y.guid=g)∧lkM m g=some 1)∨((∀y∈out,y.guid≠g)∧lkM m g=none))) ((fun(i v c:Nat) (m:ML Bs Int) (out:List En) (j:Heap)=>(l.length-i:Nat)) (0) (0) (0) ([]) ([]) ([])) ?_ ?_
 ·refine⟨_,_,Weak.virt 3 61 5 (by simp) (by omega) (by exact zq F),⟨0,0,0,[],[],[],rfl,aY,?_,?_,by omega,rfl,fun g=>.inr ⟨by simp,rfl⟩⟩⟩
  all_goals first|exact zq F|rfl|omega|trivial|skip
 rintro _ s2 h' ⟨i,v,c,m,out,j,rfl,rfl,e3,e10,hi,ho,hm⟩ K2 hK2
 simp only[am,ao,Nat.reduceEqDiff, ↓reduceIte]at e3 e10
 have F:=F3 F e3 e10
 have hol:=jJ (l.take i)
 rw[← ho,List.length_take]at hol
 by_cases c1:i<l.length
 ·obtain⟨x,hx,_⟩:=ak c1
  have d1:=decide_eq_true c1
  have hst:=qJ hx
  rw[← ho]at hst
  have mo:(out.map En.av).length=out.length:=List.length_map ..
  rcases hm x.guid with⟨⟨y,hy1,hy2⟩,hlk⟩| ⟨hn,hlk⟩
  ·have ha:out.any (fun y=>decide (y.guid=x.guid))=true:=List.any_eq_true.2 ⟨y,hy1,by simp[hy2]⟩
   unfold onceS at hst
   rw[if_pos ha]at hst
   have hg:(lkM m x.guid).getD 0=1:=by rw[hlk];rfl
   have q:decide ((1:Int)>0)=true:=rfl
   have F:=F6 F hx d1 hg q @ai
   try refine sq F ?_
   refine wk F ?_
   refine hK2 _ _ _ (Wkn.refl ⟨i+1,v,c,m,out,j++[.row 61 5 0 [x.av]],rfl,rfl,?_,?_,by omega,hst.symm,hm⟩) (by omega)
   all_goals first|exact zq F|rfl|omega|trivial|skip
  ·have ha:out.any (fun y=>decide (y.guid=x.guid))=false:=by
    cases hh:out.any (fun y=>decide (y.guid=x.guid))with
    |false=>rfl
    |true=>
     obtain⟨y,hy1,hy2⟩:=List.any_eq_true.1 hh
     exact absurd (by simpa using hy2) (hn y hy1)
   unfold onceS at hst
   rw[if_neg (by simp[ha])]at hst
   have hg:(lkM m x.guid).getD 0=0:=by rw[hlk];rfl
   have q:decide ((0:Int)>0)=false:=rfl
   have hm2:∀g,((∃y∈out++[x],y.guid=g)∧lkM (upM m c x.guid 1) g=some 1)∨((∀y∈out++[x],y.guid≠g)∧lkM (upM m c x.guid 1) g=none):=fun g=>by
    rw[bB]
    by_cases e:g=x.guid
    ·left
     rw[if_pos e]
     exact⟨⟨x,by simp,e.symm⟩,rfl⟩
    ·rw[if_neg e]
     rcases hm g with⟨⟨y,hy1,hy2⟩,k⟩| ⟨k1,k2⟩
     ·exact .inl ⟨⟨y,by simp[hy1],hy2⟩,k⟩
     ·refine .inr ⟨fun y hy=>?_,k2⟩
      rcases List.mem_append.1 hy with hy|hy
      ·exact k1 y hy
      ·rw[List.mem_singleton.1 hy];exact fun k=>e k.symm
   have F:=F7 F hx d1 hg q mo @ai
   try refine sq F ?_
   refine wk F ?_
   refine aq F ?_
   try refine sq F ?_
   refine wk F ?_
   refine hK2 _ _ _ (Wkn.refl ⟨i+1,v+1,ckM m c x.guid,upM m c x.guid 1,out++[x],j++[.row 61 5 0 [x.av]],rfl,by simp[En.av],?_,?_,by omega,hst.symm,hm2⟩) (by omega)
   all_goals first|exact zq F|rfl|omega|trivial|skip
 ·have d1:=decide_eq_false c1
  rw[List.take_of_length_le (by omega)]at ho
  have mo:(out.map En.av).length=out.length:=List.length_map ..
  have F:=F3 F d1 mo
  try refine sq F ?_
  refine wk F ?_
  refine ee hQ F ?_
  rw[← ho]
  exact Fin.frz (si out (by omega) (by rw[br _ rfl];show(if v=v then _ else _)=_;rw[if_pos rfl])) ⟨rfl,rfl⟩
end Go.Av
namespace Go.Av
open Go Go.Proofs Go.RowKit
attribute [local irreducible] WP WPl WPix Sat
def dateOk(x:En):Bool:=if x.dated then decide (-62135596800≤x.date)&&decide (x.date≤253402300799)else decide (x.date=0)
def enOk(x:En):Bool:=decide (x.guid≠ [])&&(textO x.guid 512&&(textO x.title 256&&(textO x.link 512&&dateOk x)))
def fdOk(d:Fd):Bool:=decide (d.es.length≤256)&&(textO d.title 256&&(textO d.link 512&&(decide ((onceF d.es).length=d.es.length)&&d.es.all enOk)))
def EnS(x:En):Prop:=x.guid.length≤1048576∧x.title.length≤1048576∧x.link.length≤1048576
variable (G:Nat→Option (List AVal))
theorem cd(s:Bs)(m:Nat)(hs:s.length≤1048576)(h:Heap):Sat (CT G) 39 [.str s,.int .i64 m] h (fun r h'=>r=.bool (textO s m)∧h'=h):=by
 have hR:=iK G s (by omega)
 have hC:=db G s (by omega)
 by_cases c1:s.length≤m
 ·have d1:=decide_eq_true c1
  cases c2:rightS s with
  |true=>
   rw[c2]at hR
   by_cases c3:cleanF s=s
   ·have q:(cleanF s==s)=true:=by simpa using c3
    have e:textO s m=true:=by unfold textO;rw[c2,decide_eq_true c1,decide_eq_true c3];rfl
    rw[e]
    have F:=F2 d1 q
    refine sb [.tmp 4] (fn:=Tryz.f39) Tryz.func39 ?_
    intro Q hQ
    refine wk F ?_
    refine kq F (hR _) ?_
    refine kq F (hC _) ?_
    refine ee hQ F ?_
    exact Fin.same (.bool _) ⟨rfl,rfl⟩
   ·have q:(cleanF s==s)=false:=by simpa using c3
    have e:textO s m=false:=by unfold textO;rw[decide_eq_false c3,Bool.and_false]
    rw[e]
    have F:=F2 d1 q
    refine sb [.tmp 4] (fn:=Tryz.f39) Tryz.func39 ?_
    intro Q hQ
    refine wk F ?_
    refine kq F (hR _) ?_
    refine kq F (hC _) ?_
    refine ee hQ F ?_
    exact Fin.same (.bool _) ⟨rfl,rfl⟩
  |false=>
   rw[c2]at hR
   have e:textO s m=false:=by unfold textO;rw[c2,Bool.and_false,Bool.false_and]
   rw[e]
   have F:=d1
   refine sb [.tmp 4] (fn:=Tryz.f39) Tryz.func39 ?_
   intro Q hQ
   refine wk F ?_
   refine kq F (hR _) ?_
   refine ee hQ F ?_
   exact Fin.same (.bool _) ⟨rfl,rfl⟩
 ·have d1:=decide_eq_false c1
  have e:textO s m=false:=by unfold textO;rw[decide_eq_false c1];rfl
  rw[e]
  have F:=d1
  refine sb [.tmp 4] (fn:=Tryz.f39) Tryz.func39 ?_
  intro Q hQ
  refine wk F ?_
  refine ee hQ F ?_
  exact Fin.same (.bool _) ⟨rfl,rfl⟩
theorem nW(N:Nat)(a b c d e f k:Int):Clo N (.tup [.agg [.int .i64 a,.int .i64 b,.int .i64 c,.int .i64 d,.int .i64 e,.int .i64 f],.int .i64 k]):=.tup _ fun x hx=>by
 simp only[List.mem_cons,List.not_mem_nil,or_false]at hx
 rcases hx with rfl|rfl
 ·exact .agg _ fun c hc=>by simp at hc;rcases hc with rfl|rfl|rfl|rfl|rfl|rfl<;>exact .int _ _
 ·exact .int _ _
theorem qK(n:Int)(h:Heap):Sat (CT G) 131 [.int .i64 n] h (fun r h'=>(∃a b c d e f:Int,r=.tup [.agg [.int .i64 a,.int .i64 b,.int .i64 c,.int .i64 d,.int .i64 e,.int .i64 f],.int .i64 (if decide (-62135596800≤n)&&decide (n≤253402300799)then 0 else 40)])∧h'=h):=by
 have hW:=qH G n (-62135596800) 253402300799
 cases hm:(decide (-62135596800≤n)&&decide (n≤253402300799))with
 |false=>
  rw[hm]at hW
  refine sb [.cell 2 197,.tmp 3] (fn:=Tryz.f131) Tryz.func131 ?_
  intro Q hQ
  refine wk trivial ?_
  refine kq trivial (hW _) ?_
  refine ye hQ trivial ?_
  exact Fin.plain (nW ..) ⟨⟨_,_,_,_,_,_,rfl⟩,rfl⟩
 |true=>
  rw[hm]at hW
  simp only[Bool.and_eq_true,decide_eq_true_eq]at hm
  obtain⟨m1,m2⟩:=hm
  refine sb [.cell 2 197,.tmp 3] (fn:=Tryz.f131) Tryz.func131 ?_
  intro Q hQ
  refine wk trivial ?_
  refine kq trivial (hW _) ?_
  refine cq trivial (fun c1=>?_) (fun c1=>?_)<;>(try exact c1.elim)<;>(refine wk trivial ?_)
  ·refine ye hQ trivial ?_
   exact Fin.plain (nW ..) ⟨⟨_,_,_,_,_,_,rfl⟩,rfl⟩
  ·refine ye hQ trivial ?_
   exact Fin.plain (nW ..) ⟨⟨_,_,_,_,_,_,rfl⟩,rfl⟩
theorem lU(x:En)(h:Heap):Sat (CT G) 77 [x.av] h (fun r h'=>r=.bool (dateOk x)∧h'=h):=by
 obtain⟨g,t,l,n,b⟩:=x
 unfold dateOk
 simp only[En.av_eq]
 cases b with
 |false=>
  simp only[Bool.false_eq_true,if_false]
  have q:((n:Int)==0)=decide (n=0):=by rw[Bool.eq_iff_iff];simp
  generalize decide (n=0)=d at*
  have F:=F2 q @ai
  refine sb [.tmp 2] (fn:=Tryz.f77) Tryz.func77 ?_
  intro Q hQ
  refine wk F ?_
  refine ee hQ F ?_
  exact Fin.plain (.bool _) ⟨rfl,rfl⟩
 |true=>
  simp only[if_true]
  have hO:=qK G n
  generalize (decide (-62135596800≤n)&&decide (n≤253402300799))=d at*
  cases d with
  |true=>
   have F:= @ai
   refine sb [.tmp 2] (fn:=Tryz.f77) Tryz.func77 ?_
   intro Q hQ
   refine wk F ?_
   refine(hO _).mono ?_
   rintro r h' ⟨⟨_,_,_,_,_,_,rfl⟩,rfl⟩
   try refine sq F ?_
   refine wk F ?_
   refine ee hQ F ?_
   exact Fin.plain (.bool _) ⟨rfl,rfl⟩
  |false=>
   have F:= @ai
   refine sb [.tmp 2] (fn:=Tryz.f77) Tryz.func77 ?_
   intro Q hQ
   refine wk F ?_
   refine(hO _).mono ?_
   rintro r h' ⟨⟨_,_,_,_,_,_,rfl⟩,rfl⟩
   try refine sq F ?_
   refine wk F ?_
   refine ee hQ F ?_
   exact Fin.plain (.bool _) ⟨rfl,rfl⟩
theorem lV(x:En)(hx:EnS x)(h:Heap):Sat (CT G) 40 [x.av] h (fun r h'=>r=.bool (enOk x)∧h'=h):=by
 have hD:=lU G x
 obtain⟨h1,h2,h3⟩:=hx
 have T1:=cd G x.guid 512 h1
 have T2:=cd G x.title 256 h2
 have T3:=cd G x.link 512 h3
 unfold enOk
 obtain⟨g,t,l,n,b⟩:=x
 simp only[]at*
 generalize dateOk ⟨g,t,l,n,b⟩=d4 at*
 generalize textO g 512=d1 at*
 generalize textO t 256=d2 at*
 generalize textO l 512=d3 at*
 simp only[En.av_eq]at*
 by_cases c0:g=[]
 ·have q:(g==([]:Bs))=true:=by simp[c0]
  have e:decide (g≠ [])=false:=by simp[c0]
  rw[e]
  have F:=F4 q @Bool.not_true @Bool.not_false @ai
  refine sb [.tmp 2] (fn:=Tryz.f40) Tryz.func40 ?_
  intro Q hQ
  refine wk F ?_
  refine ee hQ F ?_
  exact Fin.plain (.bool _) ⟨rfl,rfl⟩
 have q:(g==([]:Bs))=false:=by simpa using c0
 have e:decide (g≠ [])=true:=by simp[c0]
 rw[e]
 cases d1 with
 |false=>
  have F:=F4 q @Bool.not_true @Bool.not_false @ai
  refine sb [.tmp 2] (fn:=Tryz.f40) Tryz.func40 ?_
  intro Q hQ
  refine wk F ?_
  refine kq F (T1 _) ?_
  refine ee hQ F ?_
  exact Fin.plain (.bool _) ⟨rfl,rfl⟩
 |true=>
  cases d2 with
  |false=>
   have F:=F4 q @Bool.not_true @Bool.not_false @ai
   refine sb [.tmp 2] (fn:=Tryz.f40) Tryz.func40 ?_
   intro Q hQ
   refine wk F ?_
   refine kq F (T1 _) ?_
   refine kq F (T2 _) ?_
   refine ee hQ F ?_
   exact Fin.plain (.bool _) ⟨rfl,rfl⟩
  |true=>
   cases d3 with
   |false=>
    have F:=F4 q @Bool.not_true @Bool.not_false @ai
    refine sb [.tmp 2] (fn:=Tryz.f40) Tryz.func40 ?_
    intro Q hQ
    refine wk F ?_
    refine kq F (T1 _) ?_
    refine kq F (T2 _) ?_
    refine kq F (T3 _) ?_
    refine ee hQ F ?_
    exact Fin.plain (.bool _) ⟨rfl,rfl⟩
   |true=>
    have F:=F4 q @Bool.not_true @Bool.not_false @ai
    refine sb [.tmp 2] (fn:=Tryz.f40) Tryz.func40 ?_
    intro Q hQ
    refine wk F ?_
    refine kq F (T1 _) ?_
    refine kq F (T2 _) ?_
    refine kq F (T3 _) ?_
    refine kq F (hD _) ?_
    refine ee hQ F ?_
    exact Fin.plain (.bool _) ⟨rfl,rfl⟩
end Go.Av
namespace Go.Av
open Go Go.Proofs Go.RowKit
theorem mz:∀(l out:List En),out.Pairwise (fun a b=>a.guid≠b.guid)→(l.foldl onceS out).Pairwise (fun a b=>a.guid≠b.guid)
 | [],out,h=>h
 |x::l,out,h=>by
  refine mz l _ ?_
  unfold onceS
  split
  ·exact h
  ·rename_i hn
   rw[List.pairwise_append]
   refine⟨h,by simp,fun a ha b hb e=>hn ?_⟩
   have:b=x:=by simpa using hb
   subst this
   rw[List.any_eq_true]
   exact⟨a,ha,by simpa using e⟩
end Go.Av
namespace Go.Av
open Go Go.Proofs Go.RowKit
attribute [local irreducible] WP WPl WPix Sat
variable (G:Nat→Option (List AVal))
def FdS(d:Fd):Prop:=d.title.length≤1048576∧d.link.length≤1048576∧d.es.length≤1048576∧∀x∈d.es,EnS x
theorem lW(d:Fd)(hd:FdS d)(h:Heap):Sat (CT G) 12 [d.av] h (fun r h'=>r=.int .i64 (if fdOk d then 0 else 120)∧h'=h):=by
 obtain⟨t,l,es⟩:=d
 obtain⟨ht,hl,he,hx⟩:=hd
 simp only[]at ht hl he hx
 have T1:=cd G t 256 ht
 have T2:=cd G l 512 hl
 have O1:=fM G es he
 have me:(es.map En.av).length=es.length:=List.length_map ..
 have mo:((onceF es).map En.av).length=(onceF es).length:=List.length_map ..
 have ol:=jJ es
 have f1:(Fd.mk t l es).av=.agg [.str t,.str l,.sl 5 (es.map En.av)]:=rfl
 have ek:fdOk ⟨t,l,es⟩=(decide (es.length≤256)&&(textO t 256&&(textO l 512&&(decide ((onceF es).length=es.length)&&es.all enOk)))):=rfl
 rw[f1,ek]
 generalize textO t 256=d1 at*
 generalize textO l 512=d2 at*
 have dt:∀i:Decidable True, @decide True i=true:=fun i=>by simp
 have df:∀i:Decidable False, @decide False i=false:=fun i=>by simp
 by_cases c0:es.length≤256
 rotate_left
 ·have q0:decide ((es.length:Int)>256)=true:=decide_eq_true (by omega)
  rw[decide_eq_false c0]
  have F:=F3 me q0 @ai
  refine sb [.tmp 2] (fn:=Tryz.f12) Tryz.func12 ?_
  intro Q hQ
  refine wk F ?_
  refine ee hQ F ?_
  exact Fin.plain (.int _ _) ⟨rfl,rfl⟩
 have q0:decide ((es.length:Int)>256)=false:=decide_eq_false (by omega)
 rw[decide_eq_true c0]
 cases d1 with
 |false=>
  have F:=F3 me q0 @ai
  refine sb [.tmp 2] (fn:=Tryz.f12) Tryz.func12 ?_
  intro Q hQ
  refine wk F ?_
  refine aj (T1 _) ?_
  try refine sq F ?_
  refine wk F ?_
  refine ee hQ F ?_
  exact Fin.plain (.int _ _) ⟨rfl,rfl⟩
 |true=>
  cases d2 with
  |false=>
   have F:=F3 me q0 @ai
   refine sb [.tmp 2] (fn:=Tryz.f12) Tryz.func12 ?_
   intro Q hQ
   refine wk F ?_
   refine aj (T1 _) ?_
   try refine sq F ?_
   refine wk F ?_
   refine aj (T2 _) ?_
   try refine sq F ?_
   refine wk F ?_
   refine ee hQ F ?_
   exact Fin.plain (.int _ _) ⟨rfl,rfl⟩
  |true=>
   by_cases c1:(onceF es).length=es.length
   rotate_left
   ·have q1:decide ((onceF es).length<es.length)=true:=decide_eq_true (by omega)
    rw[decide_eq_false c1]
    have F:=F5 me mo q0 q1 @ai
    refine sb [.tmp 2] (fn:=Tryz.f12) Tryz.func12 ?_
    intro Q hQ
    refine wk F ?_
    refine aj (T1 _) ?_
    try refine sq F ?_
    refine wk F ?_
    refine aj (T2 _) ?_
    try refine sq F ?_
    refine wk F ?_
    refine aj (O1 _) ?_
    try refine sq F ?_
    refine wk F ?_
    refine ee hQ F ?_
    exact Fin.plain (.int _ _) ⟨rfl,rfl⟩
   have q1:decide (es.length<es.length)=false:=decide_eq_false (by omega)
   rw[decide_eq_true c1]
   rw[c1]at mo
   simp only[Bool.true_and]
   have F:=F5 me mo q0 q1 @ai
   refine sb [.tmp 2] (fn:=Tryz.f12) Tryz.func12 ?_
   intro Q hQ
   refine wk F ?_
   refine aj (T1 _) ?_
   try refine sq F ?_
   refine wk F ?_
   refine aj (T2 _) ?_
   try refine sq F ?_
   refine wk F ?_
   refine aj (O1 _) ?_
   try refine sq F ?_
   refine wk F ?_
   refine lm (fun nL tL hL=>∃(i:Nat) (j:Heap),es.length-i=nL∧h++(.row 25 3 0 [.agg [.str t,.str l,.sl 5 (es.map En.av)]]::j)=hL∧tL 34=.int .i64 i∧i≤es.length∧(es.take i).all enOk=true) ((fun(i:Nat) (j:Heap)=>(es.length-i:Nat)) (0) ([])) ?_ ?_
   ·refine Wkn.refl ⟨0,[],rfl,aY,?_,by omega,rfl⟩
    all_goals first|exact zq F|rfl|omega|trivial|skip
   rintro _ s2 h' ⟨i,j,rfl,rfl,e34,hi,ha⟩ K2 hK2
   simp only[am,ao,Nat.reduceEqDiff, ↓reduceIte]at e34
   have F:=F2 F e34
   by_cases c2:i<es.length
   ·obtain⟨x,hx2,_⟩:=ak c2
    have d2:=decide_eq_true c2
    have hxs:=hx x (List.mem_of_getElem? hx2)
    have E1:=lV G x hxs
    have hm:(es.map En.av)[i]? =some x.av:=by rw[List.getElem?_map,hx2];rfl
    cases c3:enOk x with
    |true=>
     rw[c3]at E1
     have ha':(es.take (i+1)).all enOk=true:=by
      rw[List.take_add_one,hx2,List.all_append,ha]
      simp[c3]
     have F:=F3 F d2 hx2
     try refine sq F ?_
     refine wk F ?_
     refine kq F (E1 _) ?_
     refine hK2 _ _ _ (Wkn.refl ⟨i+1,_,rfl,aY,?_,by omega,ha'⟩) (by omega)
     all_goals first|exact zq F|rfl|omega|trivial|skip
    |false=>
     rw[c3]at E1
     have hn:es.all enOk=false:=by
      rw[List.all_eq_false]
      exact⟨x,List.mem_of_getElem? hx2,by simp[c3]⟩
     have F:=F3 F d2 hx2
     try refine sq F ?_
     refine wk F ?_
     refine kq F (E1 _) ?_
     refine ee hQ F ?_
     exact Fin.plain (.int _ _) ⟨by rw[hn];rfl,rfl⟩
   ·have d2:=decide_eq_false c2
    rw[List.take_of_length_le (by omega)]at ha
    have F:=F2 F d2
    try refine sq F ?_
    refine wk F ?_
    refine ee hQ F ?_
    exact Fin.plain (.int _ _) ⟨by rw[ha];rfl,rfl⟩
end Go.Av
namespace Go.Av
open Go Go.Proofs Go.RowKit
attribute [local irreducible] WP WPl WPix Sat
variable (G:Nat→Option (List AVal))
theorem qS(e:Elem)(n:Bs)(hs:e.sz≤1048576):(kidF e n).1.text.length≤1048576:=by
 unfold kidF
 split
 ·exact Nat.zero_le _
 ·rename_i k l hk
  have hm:k∈e.kids:=by
   have:k∈kidsF e n:=by rw[hk];simp
   unfold kidsF at this
   exact(List.mem_filter.1 this).1
  have h1:=Elem.kid_sz hm
  have h3:=k.text_len
  show k.text.length≤_
  omega
theorem ce(e:Elem)(n:Bs)(m:Nat)(hs:e.sz≤1048576)(hm:m≤1000)(h:Heap):Sat (CT G) 107 [e.av,.str n,.int .i64 m] h (fun r h'=>r=.str (fieldF e n m)∧h'=h):=by
 have hKd:=kQ G e n hs
 have ht:=qS e n hs
 obtain⟨k,hk⟩:∃k,k=kidF e n:=⟨_,rfl⟩
 have hf:fieldF e n m=cleanF (cutF (cleanF k.1.text) m):=by unfold fieldF shortF;rw[hk]
 rw[← hk]at hKd ht
 obtain⟨⟨k1,k2,k3,k4⟩,is⟩:=k
 have ht:k3.length≤1048576:=ht
 have hc:=nu k3
 have hct:=qI (cleanF k3) m
 have h1:=db G k3 (by omega)
 have h2:=q9 G (cleanF k3) m (by omega) (by omega)
 have h3:=db G (cutF (cleanF k3) m) (by omega)
 rw[hf]
 have F:= @ai
 refine sb [.tmp 6] (fn:=Tryz.f107) Tryz.func107 ?_
 intro Q hQ
 refine wk F ?_
 refine kq F (hKd _) ?_
 refine kq F (h1 _) ?_
 refine kq F (h2 _) ?_
 refine kq F (h3 _) ?_
 refine ee hQ F ?_
 exact Fin.plain (.str _) ⟨rfl,rfl⟩
end Go.Av
namespace Go.Av
open Go Go.Proofs Go.RowKit
attribute [local irreducible] WP WPl WPix Sat
variable (G:Nat→Option (List AVal))
end Go.Av
namespace Go.Av
open Go Go.Proofs Go.RowKit
attribute [local irreducible] WP WPl WPix Sat
variable (G:Nat→Option (List AVal))
def En.z:En:=⟨[],[],[],0,false⟩
def oEn(o:Option En):AVal:=.tup [(o.getD En.z).av,.bool o.isSome]
theorem mE(N:Nat)(x:En)(b:Bool):Clo N (.tup [x.av,.bool b]):=.tup _ (fun c hc=>by simp only[List.mem_cons,List.not_mem_nil,or_false]at hc;rcases hc with rfl|rfl<;>first|exact x.clo _|exact .bool _)
end Go.Av
namespace Go.Av
open Go Go.Proofs Go.RowKit
attribute [local irreducible] WP WPl WPix Sat
variable (G:Nat→Option (List AVal))
def Fd.z:Fd:=⟨[],[],[]⟩
theorem Fd.clo(n:Nat)(d:Fd):Clo n d.av:=.agg _ fun c hc=>by
 simp only[List.mem_cons,List.not_mem_nil,or_false]at hc
 rcases hc with rfl|rfl|rfl
 ·exact .str _
 ·exact .str _
 ·exact .sl _ _ (fun r hr=>by obtain⟨x,_,rfl⟩:=List.mem_map.1 hr;exact x.clo _)
def oFd(o:Option Fd):AVal:=.tup [(o.getD Fd.z).av,.bool o.isSome]
theorem qT(f:Elem→Option En){l:List Elem}{k:Nat}{x:Elem}(hx:l[k]? =some x):entsF f (l.take (k+1))=match f x with
 |none=>entsF f (l.take k)
 |some v=>if (entsF f (l.take k)).length<256 then entsF f (l.take k)++[v]else entsF f (l.take k):=by
 unfold entsF
 rw[List.take_add_one (l:=l) (i:=k),hx,List.filterMap_append]
 cases hv:f x with
 |none=>simp[hv]
 |some v=>
  have:List.filterMap f (some x).toList=[v]:=by simp[hv]
  rw[this]
  generalize List.filterMap f (l.take k)=A
  by_cases hl:A.length<256
  ·have h1:(A++[v]).take 256=A++[v]:=List.take_of_length_le (by simp;omega)
   have h2:A.take 256=A:=List.take_of_length_le (by omega)
   rw[h1,h2]
   exact(if_pos hl).symm
  ·have h1:(A++[v]).take 256=A.take 256:=List.take_append_of_le_length (by omega)
   rw[h1]
   exact(if_neg (by rw[List.length_take];omega)).symm
theorem l9{e k:Elem}{n:Bs}(hs:e.sz≤1048576)(h:k∈kidsF e n):k.sz≤1048576:=by
 have:=Elem.kid_sz (List.mem_filter.1 h).1
 omega
theorem pi(e:Elem)(n:Bs)(hs:e.sz≤1048576):(kidsF e n).length≤1048576:=by
 have h1:=e.kids_len
 have h2:(kidsF e n).length≤e.kids.length:=List.length_filter_le ..
 omega
theorem tK{Z:Heap}{n q v e:Nat}(t l:Bs)(es:List En)(b:Bool)(hq:n≤q)(hg:getRow Z q v=some (e,5,es.map En.av)):Frz Z n (.tup [.agg [.str t,.str l,.hs q v 0 es.length true],.bool b]) (.tup [Fd.av ⟨t,l,es⟩,.bool b]):=by
 have z:Frz Z n (.hs q v 0 es.length true) (.sl 5 (es.map En.av)):=Frz.data hq hg (by simp) (fun r hr=>by obtain⟨x,_,rfl⟩:=List.mem_map.1 hr;exact x.clo _) (fun r hr=>by obtain⟨x,_,rfl⟩:=List.mem_map.1 hr;exact x.sto)
 exact FrzL.tup (.cons (FrzL.agg (.cons (.clo _ (.str _)) (.cons (.clo _ (.str _)) (.cons z .nil))) rfl) (.cons (.clo _ (.bool _)) .nil))
theorem mF(Z:Heap)(n:Nat):Frz Z n (.tup [.agg [.str [],.str [],.nil (.slice none 0 0)],.bool false]) (oFd none):=
 FrzL.tup (.cons (FrzL.agg (.cons (.clo _ (.str _)) (.cons (.clo _ (.str _)) (.cons (.nils 5) .nil))) rfl) (.cons (.clo _ (.bool _)) .nil))
end Go.Av
namespace Go.Av
open Go Go.Proofs Go.RowKit
attribute [local irreducible] WP WPl WPix Sat
variable (G:Nat→Option (List AVal))
end Go.Av
namespace Go.Av
open Go Go.Proofs Go.RowKit
attribute [local irreducible] WP WPl WPix Sat
variable (G:Nat→Option (List AVal))
end Go.Av
namespace Go.Av
open Go Go.Proofs Go.RowKit
attribute [local irreducible] WP WPl WPix Sat
variable (G:Nat→Option (List AVal))
instance:DecidableEq En:=fun x y=>by
 cases x;cases y;simp only[En.mk.injEq];exact inferInstance
end Go.Av
namespace Go.Av
open Go Go.Proofs Go.RowKit
attribute [local irreducible] WP WPl WPix Sat
variable (G:Nat→Option (List AVal))
theorem jL(f:Elem→Option En)(l:List Elem):(entsF f l).length≤256:=by unfold entsF;rw[List.length_take];omega
theorem qU{e:Elem}{d:Fd}(h:rssF e=some d):d.es.length≤256:=by
 unfold rssF at h
 split at h
 ·cases h;exact jL _ _
 ·cases h
theorem pj{e:Elem}{d:Fd}(h:atomF e=some d):d.es.length≤256:=by
 unfold atomF at h
 split at h
 ·cases h;exact jL _ _
 ·cases h
def ReadC(F:FuncId)(e:Elem)(f:Elem→Option Fd):Prop:=∀h,Sat (CT G) F [e.av] h (fun r h'=>r=oFd (f e)∧h'=h)
theorem pk(N:Nat)(x:Fd)(n:Int):Clo N (.tup [x.av,.int .i64 n]):=.tup _ (fun c hc=>by simp only[List.mem_cons,List.not_mem_nil,or_false]at hc;rcases hc with rfl|rfl<;>first|exact x.clo _|exact .int _ _)
theorem sA(Z:Heap)(n:Nat):Frz Z n (.tup [.agg [.str [],.str [],.nil (.slice none 0 0)],.int .i64 120]) (.tup [Fd.z.av,.int .i64 120]):=
 FrzL.tup (.cons (FrzL.agg (.cons (.clo _ (.str _)) (.cons (.clo _ (.str _)) (.cons (.nils 5) .nil))) rfl) (.cons (.clo _ (.int _ _)) .nil))
theorem pm(e:Elem)(hR:ReadC G 67 e rssF)(hB:ReadC G 68 e atomF)(h:Heap):Sat (CT G) 33 [e.av] h (fun r h'=>r=.tup [((ofE e).getD Fd.z).av,.int .i64 (if (ofE e).isSome then 0 else 120)]∧h'=h):=by
 have hE:ofE e=(match rssF e with
  |some d=>some d
  |none=>atomF e).map fun d:Fd=>⟨d.title,d.link,onceF d.es⟩:=rfl
 unfold ReadC at hR hB
 have l1:= @qU e
 have l2:= @pj e
 rw[hE]
 clear hE
 generalize rssF e=o1 at*
 generalize atomF e=o2 at*
 obtain⟨e1,e2,e3,e4⟩:=e
 cases o1 with
 |some d=>
  obtain⟨t,l,es⟩:=d
  have hO:=fM G es (by have:=l1 rfl;simp only[]at this;omega)
  have hR:∀h,Sat (CT G) 67 [(Elem.mk e1 e2 e3 e4).av] h (fun r h'=>r=.tup [.agg [.str t,.str l,.sl 5 (es.map En.av)],.bool true]∧h'=h):=hR
  have F:= @ai
  refine sb [.cell 2 25,.tmp 3] (fn:=Tryz.f33) Tryz.func33 ?_
  intro Q hQ
  refine wk F ?_
  refine kq F (hR _) ?_
  refine kq F (hO _) ?_
  refine ye hQ F ?_
  exact Fin.plain (pk _ (⟨t,l,onceF es⟩:Fd) _) ⟨rfl,rfl⟩
 |none=>
  have hR:∀h,Sat (CT G) 67 [(Elem.mk e1 e2 e3 e4).av] h (fun r h'=>r=.tup [.agg [.str [],.str [],.sl 5 []],.bool false]∧h'=h):=hR
  cases o2 with
  |some d=>
   obtain⟨t,l,es⟩:=d
   have hO:=fM G es (by have:=l2 rfl;simp only[]at this;omega)
   have hB:∀h,Sat (CT G) 68 [(Elem.mk e1 e2 e3 e4).av] h (fun r h'=>r=.tup [.agg [.str t,.str l,.sl 5 (es.map En.av)],.bool true]∧h'=h):=hB
   have F:= @ai
   refine sb [.cell 2 25,.tmp 3] (fn:=Tryz.f33) Tryz.func33 ?_
   intro Q hQ
   refine wk F ?_
   refine kq F (hR _) ?_
   refine kq F (hB _) ?_
   refine kq F (hO _) ?_
   refine ye hQ F ?_
   exact Fin.plain (pk _ (⟨t,l,onceF es⟩:Fd) _) ⟨rfl,rfl⟩
  |none=>
   have hB:∀h,Sat (CT G) 68 [(Elem.mk e1 e2 e3 e4).av] h (fun r h'=>r=.tup [.agg [.str [],.str [],.sl 5 []],.bool false]∧h'=h):=hB
   have F:= @ai
   refine sb [.cell 2 25,.tmp 3] (fn:=Tryz.f33) Tryz.func33 ?_
   intro Q hQ
   refine wk F ?_
   refine kq F (hR _) ?_
   refine kq F (hB _) ?_
   refine ye hQ F ?_
   exact Fin.frz (sA _ _) ⟨rfl,rfl⟩
end Go.Av
namespace Go.Av
open Go Go.Proofs Go.RowKit
attribute [local irreducible] WP WPl WPix Sat
variable (G:Nat→Option (List AVal))
def MomC(e:Elem):Prop:=∀h,Sat (CT G) 165 [e.av,.sl 1 ([bPub,bDate].map .str)] h (fun r h'=>r=.tup [.int .i64 ((momL anyF e [bPub,bDate]).getD 0),.bool (momL anyF e [bPub,bDate]).isSome]∧h'=h)
theorem lY(e:Elem)(hM:MomC G e)(hs:e.sz≤1048576)(h:Heap):Sat (CT G) 109 [e.av] h (fun r h'=>r=oEn (entR e)∧h'=h):=by
 have fT:=ce G e bTitle 256 hs (by omega)
 have fL:=ce G e bLink 512 hs (by omega)
 have fG:=ce G e bGuid 512 hs (by omega)
 unfold MomC at hM
 have hE:entR e=mkE (orF (fieldF e bGuid 512) (fieldF e bLink 512) (fieldF e bTitle 256)) (fieldF e bTitle 256) (fieldF e bLink 512) (momL anyF e [bPub,bDate]):=rfl
 rw[hE]
 generalize fieldF e bTitle 256=t at*
 generalize fieldF e bLink 512=l at*
 generalize fieldF e bGuid 512=g at*
 generalize momL anyF e [bPub,bDate]=m at*
 have hO:=tJ G g l t
 generalize orF g l t=u at*
 clear hE
 have hz:ofVal (.agg #[.string ⟨#[]⟩,.string ⟨#[]⟩,.string ⟨#[]⟩,.int .i64 0,.bool false])=.agg [.str [],.str [],.str [],.int .i64 0,.bool false]:=rfl
 by_cases hu:u=[]
 ·have q:(u==([]:Bs))=true:=by simp[hu]
  have eo:oEn (mkE u t l m)=.tup [En.z.av,.bool false]:=by unfold mkE;rw[if_pos hu];rfl
  rw[eo]
  have F:=F3 q hz @ai
  skip
  refine sb [.cell 2 61,.tmp 3] (fn:=Tryz.f109) Tryz.func109 ?_
  intro Q hQ
  refine wn F ?_
  refine aX 5 5 _ (by rfl) (by decide+kernel) (by kernel_rfl) (by decide+kernel) (by decide+kernel) (by decide+kernel) ?_
  simp only[List.take_succ_cons,List.take_zero]
  refine sq F ?_
  refine wn F ?_
  refine aj (fT _) ?_
  try refine sq F ?_
  refine wn F ?_
  refine aj (fL _) ?_
  try refine sq F ?_
  refine wn F ?_
  try refine⟨by decide+kernel,?_⟩
  try refine sq F ?_
  refine⟨?_,?_⟩
  ·refine aj (fT _) ?_
   try refine sq F ?_
   refine wn F ?_
   refine aj (fL _) ?_
   try refine sq F ?_
   refine wn F ?_
   all_goals first|exact zq F|trivial| (refine sq F ?_;trivial)
  skip
  try refine sq F ?_
  refine wk F ?_
  refine aj (fG _) ?_
  try refine sq F ?_
  refine wk F ?_
  refine aj (hO _) ?_
  try refine sq F ?_
  refine wk F ?_
  refine ye hQ F ?_
  exact Fin.plain (mE _ En.z _) ⟨rfl,rfl⟩
 ·have q:(u==([]:Bs))=false:=by simpa using hu
  have eo:oEn (mkE u t l m)=.tup [(⟨u,t,l,m.getD 0,m.isSome⟩:En).av,.bool true]:=by unfold mkE;rw[if_neg hu];rfl
  rw[eo]
  have F:=F3 q hz @ai
  skip
  refine sb [.cell 2 61,.tmp 3] (fn:=Tryz.f109) Tryz.func109 ?_
  intro Q hQ
  refine wn F ?_
  refine aX 5 5 _ (by rfl) (by decide+kernel) (by kernel_rfl) (by decide+kernel) (by decide+kernel) (by decide+kernel) ?_
  simp only[List.take_succ_cons,List.take_zero]
  refine sq F ?_
  refine wn F ?_
  refine aj (fT _) ?_
  try refine sq F ?_
  refine wn F ?_
  refine aj (fL _) ?_
  try refine sq F ?_
  refine wn F ?_
  try refine⟨by decide+kernel,?_⟩
  try refine sq F ?_
  refine⟨?_,?_⟩
  ·refine aj (fT _) ?_
   try refine sq F ?_
   refine wn F ?_
   refine aj (fL _) ?_
   try refine sq F ?_
   refine wn F ?_
   all_goals first|exact zq F|trivial| (refine sq F ?_;trivial)
  skip
  try refine sq F ?_
  refine wk F ?_
  refine aj (fG _) ?_
  try refine sq F ?_
  refine wk F ?_
  refine aj (hO _) ?_
  try refine sq F ?_
  refine wk F ?_
  refine kq F (hM _) ?_
  refine ye hQ F ?_
  exact Fin.plain (mE _ (⟨u,t,l,m.getD 0,m.isSome⟩:En) _) ⟨rfl,rfl⟩
theorem o0(e:Elem)(hM:∀k∈kidsF (kidF e bChan).1 bItem,MomC G k)(hs:e.sz≤1048576)(h:Heap):Sat (CT G) 67 [e.av] h (fun r h'=>r=oFd (rssF e)∧h'=h):=by
 have hKd:=kQ G e bChan hs
 have hSh:=iM G e.name (by have:=Elem.sz_eq e;omega)
 have hc:(kidF e bChan).1.sz≤1048576:=by
  unfold kidF
  split
  ·show 1≤_;omega
  ·rename_i k l hk
   exact l9 hs (by rw[hk];simp)
 have hR:rssF e=if (kidF e bChan).2&&decide (short e.name=bRss)then some ⟨fieldF (kidF e bChan).1 bTitle 256,fieldF (kidF e bChan).1 bLink 512,entsF entR (kidsF (kidF e bChan).1 bItem)⟩else none:=rfl
 rw[hR]
 clear hR
 generalize short e.name=sn at*
 generalize kidF e bChan=kk at*
 obtain⟨c,is⟩:=kk
 simp only[]at hc
 have fT:=ce G c bTitle 256 hc (by omega)
 have fL:=ce G c bLink 512 hc (by omega)
 have hKs:=jH G c bItem hc
 have hsz:∀k∈kidsF c bItem,k.sz≤1048576:=fun k hk=>l9 hc hk
 have hln:=pi c bItem hc
 generalize fieldF c bTitle 256=t at*
 generalize fieldF c bLink 512=l at*
 generalize kidsF c bItem=ks at*
 have mk:(ks.map Elem.av).length=ks.length:=List.length_map ..
 obtain⟨e1,e2,e3,e4⟩:=e
 cases is with
 |false=>
  have F:= @ai
  refine sb [.cell 2 25,.tmp 3] (fn:=Tryz.f67) Tryz.func67 ?_
  intro Q hQ
  refine wk F ?_
  refine kq F (hKd _) ?_
  refine ye hQ F ?_
  exact Fin.frz (mF _ _) ⟨rfl,rfl⟩
 |true=>
  by_cases hn:sn=bRss
  rotate_left
  ·have q:(sn==bRss)=false:=by simpa using hn
   unfold bRss at q
   have d:(true&&decide (sn=bRss))=false:=by simp[hn]
   simp only[d]
   have F:=F2 q @ai
   refine sb [.cell 2 25,.tmp 3] (fn:=Tryz.f67) Tryz.func67 ?_
   intro Q hQ
   refine wk F ?_
   refine kq F (hKd _) ?_
   refine kq F (hSh _) ?_
   refine ye hQ F ?_
   exact Fin.frz (mF _ _) ⟨rfl,rfl⟩
  have q:(sn==bRss)=true:=by simpa using hn
  unfold bRss at q
  have d:(true&&decide (sn=bRss))=true:=by simp[hn]
  simp only[d]
  clear d
  have hz:ofVal (.agg #[.string ⟨#[]⟩,.string ⟨#[]⟩,.slice none 0 0])=.agg [.str [],.str [],.nil (.slice none 0 0)]:=rfl
  have F:=F4 q hz mk @ai
  skip
  refine sb [.cell 2 25,.tmp 3] (fn:=Tryz.f67) Tryz.func67 ?_
  intro Q hQ
  refine wn F ?_
  refine kn F (hKd _) ?_
  refine kn F (hSh _) ?_
  refine aX 5 5 _ (by rfl) (by decide+kernel) (by kernel_rfl) (by decide+kernel) (by decide+kernel) (by decide+kernel) ?_
  simp only[List.take_succ_cons,List.take_zero]
  refine sq F ?_
  refine wn F ?_
  refine aj (fT _) ?_
  try refine sq F ?_
  refine wn F ?_
  refine aj (fL _) ?_
  try refine sq F ?_
  refine wn F ?_
  try refine⟨by decide+kernel,?_⟩
  try refine sq F ?_
  refine⟨?_,?_⟩
  ·refine aj (fT _) ?_
   try refine sq F ?_
   refine wn F ?_
   refine aj (fL _) ?_
   try refine sq F ?_
   refine wn F ?_
   all_goals first|exact zq F|trivial| (refine sq F ?_;trivial)
  skip
  try refine sq F ?_
  refine wk F ?_
  refine kq F (hKs _) ?_
  refine lm (fun nL tL hL=>∃(k v:Nat) (es:List En) (j:Heap),ks.length-k=nL∧h++ .row 76 4 0 [Elem.av ⟨e1,e2,e3,e4⟩]:: .row 25 3 0 [.agg [.str [],.str [],.nil (.slice none 0 0)]]:: .row 76 4 0 [c.av]:: .row 25 3 0 [.agg [.str t,.str l,.hs (h.length+4) v 0 es.length true]]:: .row 61 5 v (es.map En.av)::j=hL∧tL 33=.int .i64 k∧k≤ks.length∧es=entsF entR (ks.take k)) ((fun(k v:Nat) (es:List En) (j:Heap)=>(ks.length-k:Nat)) (0) (0) ([]) ([])) ?_ ?_
  ·refine⟨_,_,Weak.virtCell (p:=h.length+3) (v:=0) 61 5 (by omega) (by simp(disch:=first|omega| (simp only[go_sem, ↓reduceIte,seval];first|done|omega)|fail) only[go_sem, ↓reduceIte,seval,F];rfl) 2 rfl,⟨0,0,[],[],rfl,(by simp),?_,by omega,rfl⟩⟩
   all_goals first|exact zq F|rfl|omega|trivial|skip
  rintro _ s2 h' ⟨k,v,es,j,rfl,rfl,e33,hk,ho⟩ K2 hK2
  simp only[am,ao,Nat.reduceEqDiff, ↓reduceIte]at e33
  have F:=F2 F e33
  have hel:es.length≤256:=by rw[ho];unfold entsF;rw[List.length_take];omega
  have me:(es.map En.av).length=es.length:=List.length_map ..
  by_cases c1:k<ks.length
  ·obtain⟨x,hx,hxm⟩:=ak c1
   have d1:=decide_eq_true c1
   have hE:=lY G x (hM x hxm) (hsz x hxm)
   have hst:=qT entR hx
   rw[← ho]at hst
   cases hv:entR x with
   |none=>
    rw[hv]at hE hst
    have hE:∀h,Sat (CT G) 109 [x.av] h (fun r h'=>r=.tup [En.z.av,.bool false]∧h'=h):=hE
    have F:=F4 F hx d1 me
    try refine sq F ?_
    refine wk F ?_
    have hst:entsF entR (ks.take (k+1))=es:=hst
    refine kq F (hE _) ?_
    refine hK2 _ _ _ (Wkn.refl ⟨k+1,v,es,j++[.row 76 4 0 [x.av],.row 61 5 0 [En.z.av]],rfl,by simp[En.av,En.z],?_,by omega,hst.symm⟩) (by omega)
    all_goals first|exact zq F|rfl|omega|trivial|skip
   |some y=>
    rw[hv]at hE hst
    have hE:∀h,Sat (CT G) 109 [x.av] h (fun r h'=>r=.tup [y.av,.bool true]∧h'=h):=hE
    have hst:entsF entR (ks.take (k+1))=if es.length<256 then es++[y]else es:=hst
    by_cases c2:es.length<256
    ·have d2:decide ((es.length:Int)<256)=true:=decide_eq_true (by omega)
     rw[if_pos c2]at hst
     have F:=F5 F hx d1 d2 me
     try refine sq F ?_
     refine wk F ?_
     refine kq F (hE _) ?_
     refine aq F ?_
     try refine sq F ?_
     refine wk F ?_
     refine hK2 _ _ _ (Wkn.refl ⟨k+1,v+1,es++[y],j++[.row 76 4 0 [x.av],.row 61 5 0 [y.av]],rfl,by simp[En.av],?_,by omega,hst.symm⟩) (by omega)
     all_goals first|exact zq F|rfl|omega|trivial|skip
    ·have d2:decide ((es.length:Int)<256)=false:=decide_eq_false (by omega)
     rw[if_neg c2]at hst
     have F:=F5 F hx d1 d2 me
     try refine sq F ?_
     refine wk F ?_
     refine kq F (hE _) ?_
     refine hK2 _ _ _ (Wkn.refl ⟨k+1,v,es,j++[.row 76 4 0 [x.av],.row 61 5 0 [y.av]],rfl,by simp[En.av],?_,by omega,hst.symm⟩) (by omega)
     all_goals first|exact zq F|rfl|omega|trivial|skip
  ·have d1:=decide_eq_false c1
   rw[List.take_of_length_le (by omega)]at ho
   have F:=F3 F d1 me
   try refine sq F ?_
   refine wk F ?_
   refine ye hQ F ?_
   rw[← ho]
   exact Fin.frz (tK t l es true (by omega) (by rw[br _ rfl];show(if v=v then _ else _)=_;rw[if_pos rfl])) ⟨rfl,rfl⟩
end Go.Av
namespace Go.Av
open Go Go.Proofs Go.RowKit
attribute [local irreducible] WP WPl WPix Sat
variable (G:Nat→Option (List AVal))
end Go.Av
namespace Go.Av
open Go Go.Proofs Go.RowKit
attribute [local irreducible] WP WPl WPix Sat
variable (G:Nat→Option (List AVal))
end Go.Av
namespace Go.Av
open Go Go.Proofs Go.RowKit
attribute [local irreducible] WP WPl WPix Sat
variable (G:Nat→Option (List AVal))
end Go.Av
namespace Go.Av
open Go Go.Proofs Go.RowKit
attribute [local irreducible] WP WPl WPix Sat
variable (G:Nat→Option (List AVal))
end Go.Av
namespace Go.Av
open Go Go.Proofs Go.RowKit
attribute [local irreducible] WP WPl WPix Sat
variable (G:Nat→Option (List AVal))
end Go.Av
namespace Go.Av
open Go Go.Proofs Go.RowKit
attribute [local irreducible] WP WPl WPix Sat
variable (G:Nat→Option (List AVal))
end Go.Av
namespace Go.Av
open Go Go.Proofs Go.RowKit
attribute [local irreducible] WP WPl WPix Sat
variable (G:Nat→Option (List AVal))
end Go.Av
namespace Go.Av
open Go Go.Proofs Go.RowKit
attribute [local irreducible] WP WPl WPix Sat
variable (G:Nat→Option (List AVal))
theorem Wk.slD{n:Nat}{xs ys:List AVal}(hl:xs.length=ys.length)(hw:∀(i:Nat) (r s:AVal),xs[i]? =some r→ys[i]? =some s→WkR r s):Wk (.sl n xs) (.sl n ys):=fun w S μ v rr=>by
 have at_:∀(i:Nat) (e:AVal),ys[i]? =some e→∃r,xs[i]? =some r∧WkR r e:=fun i e he=>by
  have hlt:=(List.getElem?_eq_some_iff.1 he).1
  have hx:=List.getElem?_eq_getElem (show i<xs.length by omega)
  exact⟨_,hx,hw i _ e hx he⟩
 cases rr with
 |sl0 n a cap=>
  obtain rfl:ys=[]:=List.length_eq_zero_iff.1 (by simpa using hl.symm)
  exact .sl0 _ _ _
 |sl n es b o cap vs hne hm hm' hn hc hr=>
  rw[hl]
  refine .sl _ ys b o cap vs (fun e=>?_) (by omega) hm' (fun i e he=>?_) (fun i e j c he hj=>?_) (fun i e j c he hj=>?_)
  ·subst e;exact hne (List.length_eq_zero_iff.1 hl)
  ·obtain⟨r,hx,hq⟩:=at_ i e he
   rw[← hq.1];exact hn i r hx
  ·obtain⟨r,hx,hq⟩:=at_ i e he
   have hlt:=(List.getElem?_eq_some_iff.1 hj).1
   have hd:=List.getElem?_eq_getElem (show j<r.cells.length by rw[hq.1];exact hlt)
   obtain⟨a1,a2,a3⟩:=hc i r j _ hx hd
   exact⟨a1,a2,(hq.2 j _ c hd hj).2 a3⟩
  ·obtain⟨r,hx,hq⟩:=at_ i e he
   have hlt:=(List.getElem?_eq_some_iff.1 hj).1
   have hd:=List.getElem?_eq_getElem (show j<r.cells.length by rw[hq.1];exact hlt)
   exact(hq.2 j _ c hd hj).1 _ _ _ _ (hr i r j _ hx hd)
end Go.Av
namespace Go.Av
open Go Go.Proofs Go.RowKit
attribute [local irreducible] WP WPl WPix Sat
variable (G:Nat→Option (List AVal))
end Go.Av
namespace Go.Av
open Go Go.Proofs Go.RowKit
attribute [local irreducible] WP WPl WPix Sat
theorem Sat.closedD{C:Ctx}(hG:GClo C){orc:FuncId→List AVal→Option AVal}(horc:OrcOk C orc)(lf n:Nat){f:FuncId}{args:List AVal}{v:AVal}(ha:args.all (cloA 0)=true)(hv:cloA 0 v=true)
  (hrun:isV v (callX C orc lf n f args [])=true)(h:Heap):Sat C f args h fun r2 h2=>r2=v∧h2=h:=by
 unfold isV at hrun
 split at hrun
 ·rename_i r h1 e
  split at hrun
  ·rename_i y hy
   have ey:=bO _ _ hrun
   subst ey
   have s:=(kC horc lf n f args [] r h1 e).letgo (v:=y) (by simp) (j7 _ _ _ _ _ hy)
   refine(s.frame hG (fun x hx=>bu 0 _ (List.all_eq_true.1 ha x hx)) (fun r h' ⟨e1,e2⟩=>⟨by rw[e1];exact bu 0 _ hv,e2⟩) h).mono fun r2 h2 ⟨⟨e1,_⟩,e2⟩=>⟨e1,e2⟩
  ·cases hrun
 ·cases hrun
theorem Wk.tupD{xs ys:List AVal}(hl:xs.length=ys.length)(hw:∀(i:Nat) (x y:AVal),xs[i]? =some x→ys[i]? =some y→Wk x y):Wk (.tup xs) (.tup ys):=fun w S μ v r=>by
 cases r with
 |tup _ vs hvl hr=>
  refine .tup ys vs (by omega) (fun i d hd=>?_)
  have hlt:=(List.getElem?_eq_some_iff.1 hd).1
  have hc:=List.getElem?_eq_getElem (show i<xs.length by omega)
  exact hw i _ d hc hd w S μ _ (hr i _ hc)
def wkL(f:AVal→AVal→Bool):List AVal→List AVal→Bool
 | [],[]=>true
 |x::xs,y::ys=>f x y&&wkL f xs ys
 |_,_=>false
def wkB:Nat→AVal→AVal→Bool
 |0,x,y=>beqA x y
 |f+1,x,y=>beqA x y||match x,y with
  | .nil (.slice none 0 0),.sl _ []=>true
  | .agg xs,.agg ys=>wkL (wkB f) xs ys&&ys.all AVal.sto
  | .tup xs,.tup ys=>wkL (wkB f) xs ys
  | .sl n xs,.sl m ys=>(n==m)&&wkL (fun r s=>wkL (wkB f) r.cells s.cells&&s.cells.all AVal.sto) xs ys
  |_,_=>false
theorem fQ{f:AVal→AVal→Bool}{R:AVal→AVal→Prop}(hf:∀x y,f x y=true→R x y):∀{xs ys:List AVal},wkL f xs ys=true→xs.length=ys.length∧∀(i:Nat) (x y:AVal),xs[i]? =some x→ys[i]? =some y→R x y
 | [],[],_=>⟨rfl,fun i x y hx=>by simp at hx⟩
 |x::xs,y::ys,h=>by
  unfold wkL at h
  rw[Bool.and_eq_true]at h
  obtain⟨h1,h2⟩:=fQ hf h.2
  refine⟨by simp[h1],fun i a b ha hb=>?_⟩
  cases i with
  |zero=>cases ha;cases hb;exact hf _ _ h.1
  |succ i=>exact h2 i a b ha hb
 | [],_::_,h=>by cases h
 |_::_,[],h=>by cases h
theorem pn:∀(f:Nat) (x y:AVal),wkB f x y=true→Wk x y:=by
 intro f
 induction f with
 |zero=>intro x y h;rw[bO _ _ h];exact Wk.refl _
 |succ f ih=>
  intro x y h
  unfold wkB at h
  rw[Bool.or_eq_true]at h
  rcases h with h|h
  ·rw[bO _ _ h];exact Wk.refl _
  ·split at h
   ·exact Wk.nils _
   ·rw[Bool.and_eq_true,List.all_eq_true]at h
    obtain⟨h1,h2⟩:=fQ ih h.1
    exact Wk.agg h1 h.2 h2
   ·obtain⟨h1,h2⟩:=fQ ih h
    exact Wk.tupD h1 h2
   ·rw[Bool.and_eq_true,beq_iff_eq]at h
    obtain⟨rfl,h⟩:=h
    obtain⟨h1,h2⟩:=fQ (R:=fun r s=>WkR r s) (fun r s hh=>by
     rw[Bool.and_eq_true,List.all_eq_true]at hh
     obtain⟨k1,k2⟩:=fQ ih hh.1
     exact⟨k1,fun j c d hc hd=>⟨k2 j c d hc hd,fun _=>hh.2 d (List.mem_of_getElem? hd)⟩⟩) h
    exact Wk.slD h1 h2
   ·cases h
def isW(v:AVal):Option (AVal×Heap)→Bool
 |some (r,h1)=>match frzX h1 0 20 r with
  |some y=>wkB 20 y v&&cloA 0 y
  |none=>false
 |none=>false
theorem Sat.wkD{C:Ctx}{f:FuncId}{args:List AVal}{h h0:Heap}{a b:AVal}(hw:Wk a b)(s:Sat C f args h (fun r h'=>r=a∧h'=h0)):Sat C f args h (fun r h'=>r=b∧h'=h0):=by
 unfold Sat at*
 intro B S μ w vs x y
 refine(s B S μ w vs x y).mono fun v w' hp=>?_
 obtain⟨r,h',S',μ',⟨rfl,hh⟩,st,f',rp⟩:=hp
 exact⟨b,h',S',μ',⟨rfl,hh⟩,st,f',hw _ _ _ _ rp⟩
theorem Sat.closedW{C:Ctx}(hG:GClo C){orc:FuncId→List AVal→Option AVal}(horc:OrcOk C orc)(lf n:Nat){f:FuncId}{args:List AVal}{v:AVal}(ha:args.all (cloA 0)=true)
  (hrun:isW v (callX C orc lf n f args [])=true)(h:Heap):Sat C f args h fun r2 h2=>r2=v∧h2=h:=by
 unfold isW at hrun
 split at hrun
 ·rename_i r h1 e
  split at hrun
  ·rename_i y hy
   rw[Bool.and_eq_true]at hrun
   refine Sat.wkD (pn _ _ _ hrun.1) ?_
   have s:=(kC horc lf n f args [] r h1 e).letgo (v:=y) (by simp) (j7 _ _ _ _ _ hy)
   refine(s.frame hG (fun x hx=>bu 0 _ (List.all_eq_true.1 ha x hx)) (fun r h' ⟨e1,e2⟩=>⟨by rw[e1];exact bu 0 _ hrun.2,e2⟩) h).mono fun r2 h2 ⟨⟨e1,_⟩,e2⟩=>⟨e1,e2⟩
  ·cases hrun
 ·cases hrun
section
variable (G:Nat→Option (List AVal))
def e12:Elem:=⟨[114,115,115],[],[],[⟨[99,104,97,110,110,101,108],[],[],[⟨[105,116,101,109],[],[],[⟨[103,117,105,100],[],[97],[]⟩,⟨[116,105,116,108,101],[],[49],[]⟩]⟩,⟨[105,116,101,109],[],[],[⟨[103,117,105,100],[],[97],[]⟩]⟩]⟩]⟩
end
end Go.Av
