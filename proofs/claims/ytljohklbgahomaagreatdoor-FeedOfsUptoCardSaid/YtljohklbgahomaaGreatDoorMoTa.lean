/- The program's tree.builder: what lies where; a text. -/
import Derived.Test.YtljohklbgahomaaGreatDoorMoDb
import Derived.Test.YtljohklbgahomaaGreatDoorMoEx2
import Derived.Lib.TrimUEq
set_option linter.unusedSimpArgs false
set_option linter.unusedVariables false
set_option linter.unusedSectionVars false
set_option linter.unnecessarySimpa false
set_option maxRecDepth 100000
set_option maxHeartbeats 16000000
namespace Go.Av
open Go Go.Proofs Go.RowKit
def splF(by':UInt8):Bs→List Bs
 | []=>[[]]
 |c::s=>if c=by' then []::splF by' s else match splF by' s with
  | []=>[[c]]
  |w::l=>(c::w)::l
theorem kW(b:UInt8)(s:Bs):splF b s≠ []:=by
 cases s with
 |nil=>simp[splF]
 |cons c s=>
  unfold splF
  split
  ·simp
  ·split<;>simp
def joiB(b:UInt8):List Bs→Bs
 | []=>[]
 | [w]=>w
 |w::l=>w++b::joiB b l
theorem jA(b:UInt8):∀s:Bs,joiB b (splF b s)=s
 | []=>rfl
 |c::s=>by
  have ih:=jA b s
  have hn:=kW b s
  unfold splF
  by_cases h:c=b
  ·rw[if_pos h]
   cases hs:splF b s with
   |nil=>exact absurd hs hn
   |cons w l=>rw[hs]at ih;show []++b::joiB b (w::l)=_;rw[ih,h];rfl
  ·rw[if_neg h]
   cases hs:splF b s with
   |nil=>exact absurd hs hn
   |cons w l=>
    rw[hs]at ih
    cases l with
    |nil=>show c::w=_;rw[show w=s from ih]
    |cons v l=>show(c::w)++b::joiB b (v::l)=_;rw[← ih];rfl
theorem db(b:UInt8):∀(a s:Bs),(∀c∈a,c≠b)→splF b (a++b::s)=a::splF b s
 | [],s,_=>by show splF b (b::s)=_;rw[splF,if_pos rfl]
 |c::a,s,h=>by
  have ih:=db b a s fun x hx=>h x (by simp[hx])
  show splF b (c::(a++b::s))=_
  rw[splF,if_neg (h c (by simp)),ih]
theorem dU(b:UInt8):∀a:Bs,(∀c∈a,c≠b)→splF b a=[a]
 | [],_=>rfl
 |c::a,h=>by rw[splF,if_neg (h c (by simp)),dU b a fun x hx=>h x (by simp[hx])]
def monL:List Bs:=[[74,97,110],[70,101,98],[77,97,114],[65,112,114],[77,97,121],[74,117,110],[74,117,108],[65,117,103],[83,101,112],[79,99,116],[78,111,118],[68,101,99]]
def ixS(l:List Bs)(s:Bs):Int:=match l.findIdx? (fun x=>decide (x=s))with
 |some i=>i
 |none=> -1
def weekL:List Bs:=[[77,111,110,44],[84,117,101,44],[87,101,100,44],[84,104,117,44],[70,114,105,44],[83,97,116,44],[83,117,110,44]]
def zonL:List Bs:=[[71,77,84],[85,84],[85,84,67],[90],[69,83,84],[69,68,84],[67,83,84],[67,68,84],[77,83,84],[77,68,84],[80,83,84],[80,68,84]]
def hrsL:List Int:=[0,0,0,0, -5, -4, -6, -5, -7, -6, -8, -7]
def namF(s:Bs):Option Int:=match zonL.findIdx? (fun x=>decide (x=s))with
 |some i=>some (3600*hrsL.getD i 0)
 |none=>none
namespace Rdr
def part(s:Bs)(f:Rdr→Int×Rdr):Int×Bool:=((f ⟨s,false⟩).1,(f ⟨s,false⟩).2.bad||decide ((f ⟨s,false⟩).2.s≠ []))
def all(r:Rdr):Int×Rdr:=r.digits r.s.length
def year(r:Rdr):Int×Rdr:=if r.s.length=2 then(if 50≤(r.digits 2).1 then 1900+(r.digits 2).1 else 2000+(r.digits 2).1,(r.digits 2).2)else r.digits 4
def clock(r:Rdr):Int×Rdr:=
 let (h,r1):=r.digits 2
 let r2:=(r1.sign [58]).2
 let (m,r3):=r2.digits 2
 let (c,r4):=if r3.s=[]then(0,r3)else(r3.sign [58]).2.digits 2
 (3600*h+60*m+c,⟨r4.s,r4.bad||(decide (h>23)||(decide (m>59)||decide (c>59)))⟩)
end Rdr
def wrdP(w:List Bs):Option Int:=if w.length=5∧1≤(w.getD 0 []).length∧(w.getD 0 []).length≤2 then
  let (d,b1):=Rdr.part (w.getD 0 []) Rdr.all
  let (y,b2):=Rdr.part (w.getD 2 []) Rdr.year
  let (t,b3):=Rdr.part (w.getD 3 []) Rdr.clock
  let (z,b4):=match namF (w.getD 4 [])with
   |some z=>(z,false)
   |none=>Rdr.part (w.getD 4 []) fun r=>r.off false
  if b1||b2||b3||b4 then none else tellD ⟨y,ixS monL (w.getD 1 [])+1,d,t/3600,t/60%60,t%60⟩ z
 else none
def mailP(s:Bs):Option Int:=wrdP (if (splF 32 s).length=6∧(splF 32 s).getD 0 []∈weekL then(splF 32 s).drop 1 else splF 32 s)
def zonR(s:Bs):Option Int:=match namF s with
 |some z=>some z
 |none=>if s.length≠5 then none else zoneR (s.getD 0 0) ((s.drop 1).take 2) (s.drop 3)
def yearR(s:Bs):Int:=if s.length=2∧50≤num9 s then num9 s+1900 else if s.length=2∧0≤num9 s then num9 s+2000 else num9 s
def zonT(o:Option Int)(x:Dt):Option Int:=match o with
 |none=>none
 |some z=>tellD x z
def clkR(s:Bs):Option (Int×Int×Int):=let t:=splF 58 s
 if (t.length≠2∧t.length≠3)∨t.all (fun x=>decide (x.length=2))=false then none else some (num9 (t.getD 0 []),num9 (t.getD 1 []),if t.length=3 then num9 (t.getD 2 [])else 0)
def wrdR(w:List Bs):Option Int:=if w.length≠5∨2<(w.getD 0 []).length∨((w.getD 2 []).length≠4∧(w.getD 2 []).length≠2)then none else match clkR (w.getD 3 [])with
 |none=>none
 |some (h,m,c)=>zonT (zonR (w.getD 4 [])) ⟨yearR (w.getD 2 []),1+ixS monL (w.getD 1 []),num9 (w.getD 0 []),h,m,c⟩
def mailR(s:Bs):Option Int:=if (splF 32 s).length=6 then(if (splF 32 s).getD 0 []∈weekL then wrdR ((splF 32 s).drop 1)else none)else wrdR (splF 32 s)
theorem bG:∀(s:Bs) (n:Int),0≤n→s.all digB=true→0≤numA n s
 | [],n,h,_=>h
 |c::s,n,h,ha=>by
  simp only[List.all_cons,Bool.and_eq_true]at ha
  have:48≤c.toNat:=by have:=ha.1;simp only[digB,Bool.and_eq_true,decide_eq_true_eq]at this;omega
  exact bG s _ (by omega) ha.2
namespace Rdr
theorem digits_of{r:Rdr}{w:Nat}(h:(r.digits w).2.bad=false):∃a:Bs,a.length=w∧a.all digB=true∧r.s=a++(r.digits w).2.s∧r.bad=false∧(r.digits w).1=numA 0 a:=by
 unfold digits at h ⊢
 split at h
 ·cases h
 ·rename_i hl
  rw[if_neg hl]
  split at h
  ·rename_i ha
   rw[if_pos ha]
   exact⟨_,by rw[List.length_take];omega,ha,(List.take_append_drop w r.s).symm,h,rfl⟩
  ·cases h
theorem sign_of{r:Rdr}{l:Bs}(h:(r.sign l).2.bad=false):∃c,c∈l∧r.s=c::(r.sign l).2.s∧r.bad=false∧(r.sign l).1=(c.toNat:Int):=by
 unfold sign at h ⊢
 split at h
 ·cases h
 ·rename_i c t e
  rw[e]
  split at h
  ·rename_i hc;simp only[hc,if_true];exact⟨c,hc,rfl,h,rfl⟩
  ·cases h
theorem digits_app{a t:Bs}{k:Bool}{w:Nat}(hw:a.length=w)(ha:a.all digB=true):(Rdr.mk (a++t) k).digits w=(numA 0 a,⟨t,k⟩):=by
 subst hw
 unfold digits
 rw[if_neg (by simp),List.take_left' rfl,if_pos ha,List.drop_left' rfl]
theorem digits_no{a t:Bs}{k:Bool}{w:Nat}(hw:a.length=w)(ha:a.all digB=false):((Rdr.mk (a++t) k).digits w).2.bad=true:=by
 subst hw
 unfold digits
 rw[if_neg (by simp),List.take_left' rfl,if_neg (by simp[ha])]
theorem part_all(a:Bs):part a all=if a.all digB then(numA 0 a,false)else(0,true):=by
 have e:all ⟨a,false⟩=if a.all digB then(numA 0 a,⟨[],false⟩)else(0,⟨a,true⟩):=by
  unfold all digits
  simp
 unfold part
 rw[e]
 split<;>simp
theorem part_year(a:Bs):((a.length=2∨a.length=4)∧a.all digB=true∧part a year=(yearR a,false))∨(¬((a.length=2∨a.length=4)∧a.all digB=true)∧(part a year).2=true):=by
 by_cases h:(a.length=2∨a.length=4)∧a.all digB=true
 ·refine .inl ⟨h.1,h.2,?_⟩
  have hn:=bG a 0 (by omega) h.2
  have h9:num9 a=numA 0 a:=by rw[bb (by omega) (by omega),if_pos h.2]
  have hd:=digits_app (a:=a) (t:=[]) (k:=false) rfl h.2
  rw[List.append_nil]at hd
  unfold part year yearR
  rw[h9]
  rcases h.1 with h2|h4
  ·rw[h2]at hd
   simp only[h2,hd,if_true,true_and]
   by_cases c:50≤numA 0 a
   ·simp[c];omega
   ·simp[c,hn];omega
  ·rw[h4]at hd
   have n2:¬a.length=2:=by omega
   simp[n2,hd]
 ·refine .inr ⟨h,?_⟩
  cases hb:(part a year).2 with
  |true=>rfl
  |false=>
   exfalso
   unfold part at hb
   simp only[Bool.or_eq_false_iff,decide_eq_false_iff_not,Classical.not_not]at hb
   obtain⟨hb,he⟩:=hb
   unfold year at hb he
   split at hb
   ·rename_i h2
    rw[if_pos h2]at he
    obtain⟨b,hb1,hb2,hb3,_⟩:=digits_of hb
    rw[he,List.append_nil]at hb3
    have hb3:a=b:=hb3
    subst hb3
    exact h ⟨.inl hb1,hb2⟩
   ·rename_i h2
    rw[if_neg h2]at he
    obtain⟨b,hb1,hb2,hb3,_⟩:=digits_of hb
    rw[he,List.append_nil]at hb3
    have hb3:a=b:=hb3
    subst hb3
    exact h ⟨.inr hb1,hb2⟩
theorem part_off(s:Bs):(s.length=5∧∃z,zoneR (s.getD 0 0) ((s.drop 1).take 2) (s.drop 3)=some z∧part s (fun r=>r.off false)=(z,false))∨
  ((s.length≠5∨zoneR (s.getD 0 0) ((s.drop 1).take 2) (s.drop 3)=none)∧(part s fun r=>r.off false).2=true):=by
 cases hb:(part s fun r=>r.off false).2 with
 |false=>
  left
  have hp:part s (fun r=>r.off false)=((part s fun r=>r.off false).1,false):=Prod.ext rfl hb
  unfold part off at hb
  simp only[Bool.false_eq_true,if_false,Bool.or_eq_false_iff,decide_eq_false_iff_not,Classical.not_not]at hb
  obtain⟨⟨g0,c1,c2⟩,he⟩:=hb
  obtain⟨b,b1,b2,b3,g1,b5⟩:=digits_of g0
  obtain⟨a,a1,a2,a3,g2,a5⟩:=digits_of g1
  obtain⟨c,d1,d2,_,d4⟩:=sign_of g2
  have d2:s=c::_:=d2
  rw[he,List.append_nil]at b3
  rw[b3]at a3
  rw[a3]at d2
  rw[b5]at c2
  rw[a5]at c1
  obtain⟨x,y,rfl⟩:∃x y,a=[x,y]:=by match a,a1 with| [x,y],_=>exact⟨x,y,rfl⟩
  obtain⟨u,v,rfl⟩:∃u v,b=[u,v]:=by match b,b1 with| [u,v],_=>exact⟨u,v,rfl⟩
  refine⟨by rw[d2];rfl,_,?_,hp⟩
  have hs:(part s fun r=>r.off false).1=if c=45 then -(3600*numA 0 [x,y]+60*numA 0 [u,v])else 3600*numA 0 [x,y]+60*numA 0 [u,v]:=by
   unfold part off
   simp only[Bool.false_eq_true,if_false]
   rw[b5,a5,d4]
   have e45:((c.toNat:Int)=45)↔c=45:=⟨fun h=>UInt8.toNat_inj.1 (by simpa using(by omega:c.toNat=45)),fun h=>by rw[h];rfl⟩
   simp only[e45]
  rw[hs]
  have n1:num9 [x,y]=numA 0 [x,y]:=by rw[bb (by simp) (by simp),if_pos a2]
  have n2:num9 [u,v]=numA 0 [u,v]:=by rw[bb (by simp) (by simp),if_pos b2]
  have p1:=bG _ 0 (by omega) a2
  have p2:=bG _ 0 (by omega) b2
  have hc:c=43∨c=45:=by simpa using d1
  rw[d2]
  unfold zoneR
  simp only[List.getD_cons_zero,List.drop_succ_cons,List.drop_zero,List.cons_append,List.nil_append,List.take_succ_cons,List.take_zero]
  rw[n1,n2,if_neg]
  ·rcases hc with rfl|rfl<;>simp<;>omega
 |true=>
  right
  refine⟨?_,rfl⟩
  by_cases hl:s.length=5
  rotate_left
  ·exact .inl hl
  right
  match s,hl with
  | [c,x,y,u,v],_=>
  cases hz:zoneR ([c,x,y,u,v].getD 0 0) (([c,x,y,u,v].drop 1).take 2) ([c,x,y,u,v].drop 3)with
  |none=>rfl
  |some z=>
   exfalso
   simp only[List.getD_cons_zero,List.drop_succ_cons,List.drop_zero,List.take_succ_cons,List.take_zero]at hz
   unfold zoneR at hz
   split at hz
   ·cases hz
   ·rename_i hn
    have a2:(digB x&&digB y)=true:=Classical.byContradiction fun k=>hn (by rw[dS k];simp)
    have b2:(digB u&&digB v)=true:=Classical.byContradiction fun k=>hn (by rw[dS k];simp)
    rw[dT a2,dT b2]at hn
    have hc:c=43∨c=45:=by
     refine Classical.byContradiction fun k=>hn (.inl ?_)
     simpa using k
    have h1:¬numA 0 [x,y]>23:=fun k=>hn (by simp[k])
    have h2:¬numA 0 [u,v]>59:=fun k=>hn (by simp[k])
    unfold part off at hb
    rcases hc with rfl|rfl<;>simp[sign,digits,a2,b2,h1,h2]at hb
end Rdr
theorem Rdr.part_bad{s:Bs}{f:Rdr→Int×Rdr}(h:(f ⟨s,false⟩).2.bad=true):(Rdr.part s f).2=true:=by
 show((f ⟨s,false⟩).2.bad||_)=true
 rw[h];rfl
theorem Rdr.clock_bad{r:Rdr}(h:(((r.digits 2).2.sign [58]).2.digits 2).2.bad=true):r.clock.2.bad=true:=by
 unfold Rdr.clock
 simp only[]
 rw[Bool.or_eq_true]
 left
 split
 ·exact h
 ·exact Rdr.digits_bad (Rdr.sign_bad h)
theorem dH{a:Bs}(h:a.all digB=true):∀c∈a,c≠58:=fun c hc e=>by
 have:=List.all_eq_true.1 h c hc
 rw[e]at this
 exact absurd this (by decide)
theorem qR(s:Bs):match clkR s with
  |none=>(Rdr.part s Rdr.clock).2=true
  |some (h,m,c)=>if 0≤h∧h≤23∧0≤m∧m≤59∧0≤c∧c≤59 then Rdr.part s Rdr.clock=(3600*h+60*m+c,false)else(Rdr.part s Rdr.clock).2=true:=by
 cases hr:clkR s with
 |none=>
  cases hb:(Rdr.part s Rdr.clock).2 with
  |true=>rfl
  |false=>
   exfalso
   unfold Rdr.part Rdr.clock at hb
   simp only[Bool.or_eq_false_iff,decide_eq_false_iff_not,Classical.not_not]at hb
   obtain⟨⟨g0,_⟩,he⟩:=hb
   split at g0
   ·rename_i h0
    rw[if_pos h0]at he
    obtain⟨b,b1,b2,b3,g1,_⟩:=Rdr.digits_of g0
    obtain⟨x,d1,d2,g2,_⟩:=Rdr.sign_of g1
    obtain⟨a,a1,a2,a3,_⟩:=Rdr.digits_of g2
    have a3:s=a++_:=a3
    rw[h0,List.append_nil]at b3
    rw[d2,b3,List.mem_singleton.1 d1]at a3
    unfold clkR at hr
    rw[a3,db 58 a b (dH a2),dU 58 b (dH b2)]at hr
    simp[a1,b1]at hr
   ·rename_i h0
    rw[if_neg h0]at he
    obtain⟨c,c1,c2,c3,g1,_⟩:=Rdr.digits_of g0
    obtain⟨y,e1,e2,g2,_⟩:=Rdr.sign_of g1
    obtain⟨b,b1,b2,b3,g3,_⟩:=Rdr.digits_of g2
    obtain⟨x,d1,d2,g4,_⟩:=Rdr.sign_of g3
    obtain⟨a,a1,a2,a3,_⟩:=Rdr.digits_of g4
    have a3:s=a++_:=a3
    rw[he,List.append_nil]at c3
    rw[d2,b3,e2,c3,List.mem_singleton.1 d1,List.mem_singleton.1 e1]at a3
    unfold clkR at hr
    rw[a3,db 58 a _ (dH a2),db 58 b c (dH b2),dU 58 c (dH c2)]at hr
    simp[a1,b1,c1]at hr
 |some v=>
  obtain⟨h,m,c⟩:=v
  have hj:=jA 58 s
  unfold clkR at hr
  simp only[]at hr
  split at hr
  ·cases hr
  rename_i hc
  simp only[Option.some.injEq,Prod.mk.injEq]at hr
  simp only[not_or,not_and,Classical.not_not,Bool.not_eq_false,List.all_eq_true,decide_eq_true_eq]at hc
  generalize splF 58 s=t at*
  obtain⟨hc1,hc2⟩:=hc
  obtain⟨r1,r2,r3⟩:=hr
  have hl:t.length=2∨t.length=3:=by by_cases k:t.length=2;exact .inl k;exact .inr (hc1 k)
  simp only[]
  have n9:∀a:Bs,a.length=2→num9 a=if a.all digB then numA 0 a else-1:=fun a ha=>bb (by omega) (by omega)
  rcases hl with hl|hl
  ·match t,hl with
   | [a,b],_=>
   have la:=hc2 a (by simp)
   have lb:=hc2 b (by simp)
   have hj:a++58::b=s:=hj
   subst hj
   simp only[List.getD_cons_zero,List.getD_cons_succ,List.length_cons,List.length_nil]at r1 r2 r3
   rw[n9 a la]at r1
   rw[n9 b lb]at r2
   have r3:c=0:=by simpa using r3.symm
   subst r3
   cases ka:a.all digB with
   |false=>
    rw[ka]at r1
    have r1:h= -1:=by simpa using r1.symm
    rw[if_neg (by omega)]
    exact Rdr.part_bad (Rdr.clock_bad (Rdr.digits_bad (Rdr.sign_bad (Rdr.digits_no la ka))))
   |true=>
    rw[ka,if_pos rfl]at r1
    cases kb:b.all digB with
    |false=>
     rw[kb]at r2
     have r2:m= -1:=by simpa using r2.symm
     rw[if_neg (by omega)]
     have:=Rdr.digits_no (a:=b) (t:=[]) (k:=false) lb kb
     rw[List.append_nil]at this
     exact Rdr.part_bad (Rdr.clock_bad (by rw[Rdr.digits_app la ka];simp only[eD,List.mem_singleton,if_true];exact this))
    |true=>
     rw[kb,if_pos rfl]at r2
     have pa:=bG a 0 (by omega) ka
     have pb:=bG b 0 (by omega) kb
     have hd:=Rdr.digits_app (a:=b) (t:=[]) (k:=false) lb kb
     rw[List.append_nil]at hd
     have ht:Rdr.clock ⟨a++58::b,false⟩=(3600*h+60*m+0,⟨[],decide (h>23)||(decide (m>59)||decide ((0:Int)>59))⟩):=by
      unfold Rdr.clock
      rw[Rdr.digits_app la ka]
      simp only[eD,List.mem_singleton,if_true]
      rw[hd]
      simp[r1,r2]
     unfold Rdr.part
     rw[ht]
     subst r1;subst r2
     by_cases k1:numA 0 a≤23
     ·by_cases k2:numA 0 b≤59
      ·rw[if_pos ⟨pa,k1,pb,k2,by omega,by omega⟩]
       have:¬numA 0 a>23:=by omega
       have:¬numA 0 b>59:=by omega
       simp[*]
      ·rw[if_neg (by omega)]
       simp[show numA 0 b>59 by omega]
     ·rw[if_neg (by omega)]
      simp[show numA 0 a>23 by omega]
  ·match t,hl with
   | [a,b,d],_=>
   have la:=hc2 a (by simp)
   have lb:=hc2 b (by simp)
   have ld:=hc2 d (by simp)
   have hj:a++58::(b++58::d)=s:=hj
   subst hj
   simp only[List.getD_cons_zero,List.getD_cons_succ,List.length_cons,List.length_nil]at r1 r2 r3
   rw[n9 a la]at r1
   rw[n9 b lb]at r2
   rw[n9 d ld]at r3
   simp only[if_true]at r3
   cases ka:a.all digB with
   |false=>
    rw[ka]at r1
    have r1:h= -1:=by simpa using r1.symm
    rw[if_neg (by omega)]
    exact Rdr.part_bad (Rdr.clock_bad (Rdr.digits_bad (Rdr.sign_bad (Rdr.digits_no la ka))))
   |true=>
    rw[ka,if_pos rfl]at r1
    cases kb:b.all digB with
    |false=>
     rw[kb]at r2
     have r2:m= -1:=by simpa using r2.symm
     rw[if_neg (by omega)]
     exact Rdr.part_bad (Rdr.clock_bad (by rw[Rdr.digits_app la ka];simp only[eD,List.mem_singleton,if_true];exact Rdr.digits_no lb kb))
    |true=>
     rw[kb,if_pos rfl]at r2
     have pa:=bG a 0 (by omega) ka
     have pb:=bG b 0 (by omega) kb
     cases kd:d.all digB with
     |false=>
      rw[kd]at r3
      have r3:c= -1:=by simpa using r3.symm
      rw[if_neg (by omega)]
      have:=Rdr.digits_no (a:=d) (t:=[]) (k:=false) ld kd
      rw[List.append_nil]at this
      refine Rdr.part_bad ?_
      unfold Rdr.clock
      rw[Rdr.digits_app la ka]
      simp only[eD,List.mem_singleton,if_true]
      rw[Rdr.digits_app lb kb]
      simp[eD,this]
     |true=>
      rw[kd,if_pos rfl]at r3
      have pd:=bG d 0 (by omega) kd
      have hd:=Rdr.digits_app (a:=d) (t:=[]) (k:=false) ld kd
      rw[List.append_nil]at hd
      have ht:Rdr.clock ⟨a++58::(b++58::d),false⟩=(3600*h+60*m+c,⟨[],decide (h>23)||(decide (m>59)||decide (c>59))⟩):=by
       unfold Rdr.clock
       rw[Rdr.digits_app la ka]
       simp only[eD,List.mem_singleton,if_true]
       rw[Rdr.digits_app lb kb]
       simp[eD,hd,r1,r2,r3]
      unfold Rdr.part
      rw[ht]
      subst r1;subst r2;subst r3
      by_cases k1:numA 0 a≤23
      ·by_cases k2:numA 0 b≤59
       ·by_cases k3:numA 0 d≤59
        ·rw[if_pos ⟨pa,k1,pb,k2,pd,k3⟩]
         have:¬numA 0 a>23:=by omega
         have:¬numA 0 b>59:=by omega
         have:¬numA 0 d>59:=by omega
         simp[*]
        ·rw[if_neg (by omega)]
         simp[show numA 0 d>59 by omega]
       ·rw[if_neg (by omega)]
        simp[show numA 0 b>59 by omega]
      ·rw[if_neg (by omega)]
       simp[show numA 0 a>23 by omega]
theorem fu{o:Option Int}{x:Dt}(h:okD x=false):zonT o x=none:=by
 unfold zonT
 split
 ·rfl
 ·exact fU h
theorem t6{x:Dt}(h:¬(0≤x.h∧x.h≤23∧0≤x.i∧x.i≤59∧0≤x.s∧x.s≤59)):okD x=false:=by
 cases hk:okD x with
 |false=>rfl
 |true=>
  unfold okD at hk
  simp only[Bool.and_eq_true,decide_eq_true_eq]at hk
  exact absurd ⟨hk.1.1.1.1.1.2,hk.1.1.1.1.2,hk.1.1.1.2,hk.1.1.2,hk.1.2,hk.2⟩ h
theorem nc(w:List Bs):wrdP w=wrdR w:=by
 by_cases hl:w.length=5
 rotate_left
 ·unfold wrdP wrdR;rw[if_neg (fun h=>hl h.1),if_pos (.inl hl)]
 match w,hl with
 | [a,b,c,d,e],_=>
 unfold wrdP wrdR
 simp only[List.getD_cons_zero,List.getD_cons_succ,List.length_cons,List.length_nil,Nat.zero_add,Nat.reduceAdd,true_and,ne_eq,not_true_eq_false,false_or]
 by_cases h2:2<a.length
 ·rw[if_neg (by omega),if_pos (.inl h2)]
 by_cases hy:c.length=2∨c.length=4
 rotate_left
 ·have hw:(Rdr.part c Rdr.year).2=true:=by
   obtain⟨k,_⟩| ⟨_,k⟩:=Rdr.part_year c
   ·exact absurd k hy
   ·exact k
  rw[if_pos (show 2<a.length∨¬c.length=4∧¬c.length=2 from .inr (by omega))]
  by_cases h1:1≤a.length∧a.length≤2
  ·rw[if_pos h1];simp[hw]
  ·rw[if_neg h1]
 rw[if_neg (show ¬(2<a.length∨¬c.length=4∧¬c.length=2) by omega)]
 have hck:=qR d
 by_cases h1:1≤a.length
 rotate_left
 ·rw[if_neg (by omega)]
  have:num9 a= -1:=by unfold num9;rw[if_pos (.inl (by omega))]
  split
  ·rfl
  ·exact(fu (lS this)).symm
 rw[if_pos ⟨h1,by omega⟩,Rdr.part_all]
 have n9:num9 a=if a.all digB then numA 0 a else-1:=bb h1 (by omega)
 cases ka:a.all digB with
 |false=>
  rw[ka]at n9
  simp only[Bool.false_eq_true,if_false,Bool.true_or,if_true]at n9 ⊢
  split
  ·rfl
  ·exact(fu (lS n9)).symm
 |true=>
 rw[ka,if_pos rfl]at n9
 simp only[if_true,Bool.false_or]
 obtain⟨_,hy2,hy3⟩| ⟨hy2,hy3⟩:=Rdr.part_year c
 rotate_left
 ·rw[hy3]
  simp only[Bool.true_or,if_true]
  have hcd:¬c.all digB=true:=fun k=>hy2 ⟨hy,k⟩
  have:yearR c= -1:=by
   unfold yearR
   rw[bb (by omega) (by omega),if_neg hcd,if_neg (by omega),if_neg (by omega)]
  split
  ·rfl
  ·exact(fu (pg this)).symm
 rw[hy3]
 simp only[Bool.false_or]
 cases hk:clkR d with
 |none=>
  rw[hk]at hck
  simp only[]at hck
  rw[hck]
  simp
 |some v=>
  obtain⟨h,m,s⟩:=v
  rw[hk]at hck
  simp only[]at hck ⊢
  split at hck
  rotate_left
  ·rename_i hr
   rw[hck]
   simp only[Bool.true_or,if_true]
   exact(fu (t6 hr)).symm
  rename_i hr
  rw[hck,n9]
  simp only[Bool.false_or]
  obtain⟨q1,q2,q3,q4,q5,q6⟩:=hr
  have e0:(3600*h+60*m+s)/60=60*h+m:=by omega
  have e1:(3600*h+60*m+s)/3600=h:=by omega
  have e2:(3600*h+60*m+s)/60%60=m:=by rw[e0];omega
  have e3:(3600*h+60*m+s)%60=s:=by omega
  rw[e1,e2,e3,Int.add_comm 1]
  unfold zonR
  cases hz:namF e with
  |some z=>rfl
  |none=>
   obtain⟨k1,z,k2,k3⟩| ⟨k1,k2⟩:=Rdr.part_off e
   ·simp only[]
    rw[k3,if_neg (show ¬e.length≠5 by omega),k2]
    rfl
   ·simp only[]
    rw[k2,if_pos rfl]
    by_cases hl5:e.length=5
    ·rw[if_neg (show ¬e.length≠5 by omega),k1.resolve_left (by omega)];rfl
    ·rw[if_pos hl5];rfl
theorem pE(s:Bs):mailP s=mailR s:=by
 unfold mailP mailR
 by_cases h6:(splF 32 s).length=6
 ·rw[if_pos h6]
  by_cases hw:(splF 32 s).getD 0 []∈weekL
  ·rw[if_pos ⟨h6,hw⟩,if_pos hw,nc]
  ·rw[if_neg (fun h=>hw h.2),if_neg hw]
   unfold wrdP
   rw[if_neg (by omega)]
 ·rw[if_neg (fun h=>h6 h.1),if_neg h6,nc]
end Go.Av
namespace Go.Av
open Go Go.Proofs Go.RowKit
attribute [local irreducible] WP WPl WPix Sat
variable (G:Nat→Option (List AVal))
def bytA(b:UInt8):AVal:=.int .u8 b.toNat
def bldR(a:AVal)(q v:Nat)(s:Bs):Blk:=.row 59 2 0 [.agg [a,.hs q v 0 s.length true]]
def bufR(v:Nat)(s:Bs):Blk:=.row 5 1 v (s.map bytA)
def bldA(a:AVal)(p:Nat):Prop:=a=.nil (.pointer none)∨a=.hp p 0 0 0
theorem gB(s:Bs):bytesA (s.map bytA)=some s:=by
 induction s with
 |nil=>rfl
 |cons b s ih=>
  have hb:(UInt8.ofNat (b.toNat:Int).toNat)=b:=by simp
  simp only[List.map_cons,bytA,bytesA,hb,if_true]
  show(bytesA (s.map bytA)).map _=_
  rw[ih];rfl
@[go_sem] theorem t7(a:AVal)(q v:Nat)(s:Bs)(l:Heap):getRow (bldR a q v s::l) 0 0=some (59,2,[.agg [a,.hs q v 0 s.length true]]):=rfl
theorem aW(v:Nat)(s:Bs)(l:Heap):getRow (bufR v s::l) 0 v=some (5,1,s.map bytA):=by simp[getRow,bufR]
theorem lT:ptrConv Tryz.prog 56 124 59 2=true:=by kernel_rfl
theorem jB:ptrConv Tryz.prog 124 56 59 2=true:=by kernel_rfl
theorem qS:ptrT Tryz.prog 56=true:=by kernel_rfl
attribute [go_sem] lT jB
theorem pF(n p q v:Nat)(s:Bs)(hp:p<n)(hq:q<n):CloB n (bldR (.hp p 0 0 0) q v s):=by
 intro r hr
 simp only[List.mem_singleton]at hr
 subst hr
 refine .agg _ fun c hc=>?_
 simp only[List.mem_cons,List.mem_nil_iff,or_false]at hc
 rcases hc with rfl|rfl
 ·exact .hp _ _ _ _ hp
 ·exact .hs _ _ _ _ _ hq
theorem i5(n v:Nat)(s:Bs):CloB n (bufR v s):=by
 intro r hr
 obtain⟨b,_,rfl⟩:=List.mem_map.1 hr
 exact .int _ _
theorem oI(h:Heap)(p:Nat)(hr:(getRow h p 0).isSome=true):abin Tryz.prog h .neq 56 (.hp p 0 0 0) (.hp p 0 0 0)=some (.bool false):=by
 simp[abin,hr,qS]
theorem nf(h:Heap)(p:Nat)(x:TypeId×Nat×List AVal)(hr:getRow h p 0=some x):abin Tryz.prog h .eql 56 (.hp p 0 0 0) (.nil (.pointer none))=some (.bool false):=by
 have hk:nilKind Tryz.prog 56 (.pointer none)=true:=by kernel_rfl
 simp[abin,hk,aeqNil,hr]
theorem pG(h:Heap):abin Tryz.prog h .eql 56 (.nil (.pointer none)) (.nil (.pointer none))=some (.bool true):=by
 have hk:nilKind Tryz.prog 56 (.pointer none)=true:=by kernel_rfl
 simp[abin,hk,aeqNil]
theorem t8{h j:Heap}{x y x' y':Blk}{n:Nat}(hx:CloB n x')(hy:CloB n y'):∀(p:Nat) (k:Blk),(h++x'::y'::j)[p]? =some k→(h++x::y::j)[p]? =some k∨CloB n k:=by
 intro p k hk
 rcases Nat.lt_or_ge p h.length with h1|h1
 ·rw[List.getElem?_append_left h1]at hk ⊢;exact .inl hk
 ·rw[List.getElem?_append_right h1]at hk ⊢
  match p-h.length,hk with
  |0,hk=>simp at hk;subst hk;exact .inr hx
  |1,hk=>simp at hk;subst hk;exact .inr hy
  |i+2,hk=>exact .inl (by simpa using hk)
def bldH(h j:Heap)(a:AVal)(v:Nat)(s:Bs):Heap:=h++bldR a (h.length+1) v s::bufR v s::j
theorem bN(h j:Heap)(a:AVal)(v:Nat)(s:Bs):(bldH h j a v s).length=h.length+(2+j.length):=by simp[bldH];omega
theorem eY(h j:Heap)(a:AVal)(v v':Nat)(s s':Bs):∀(p:Nat) (k:Blk),(bldH h j (.hp h.length 0 0 0) v' s')[p]? =some k→(bldH h j a v s)[p]? =some k∨CloB (bldH h j a v s).length k:=by
 rw[bN]
 exact t8 (pF _ _ _ _ _ (by omega) (by omega)) (i5 _ _ _)
theorem eE(a:AVal)(h j:Heap)(v:Nat)(s:Bs)(ha:bldA a h.length):
  Sat (CT G) 60 [.hp h.length 0 0 0] (bldH h j a v s) (fun r h'=>r=.tup []∧h'=bldH h j (.hp h.length 0 0 0) v s):=by
 have hK:=eY h j a v v s s
 have hl:=(bN h j (.hp h.length 0 0 0) v s).trans (bN h j a v s).symm
 have hfin:∀t',Fin (bldH h j a v s) (bldH h j (.hp h.length 0 0 0) v s) (fun r h'=>r=.tup []∧h'=bldH h j (.hp h.length 0 0 0) v s) t'∨True:=fun _=>.inr trivial
 have end_:Fin (bldH h j a v s) (bldH h j (.hp h.length 0 0 0) v s) (fun r h'=>r=.tup []∧h'=bldH h j (.hp h.length 0 0 0) v s) (.tup []):=Fin.keep0 hl hK (.tup _ (by simp)) ⟨rfl,rfl⟩
 clear hfin hK hl
 unfold bldH at*
 refine sb [] (fn:=Tryz.f60) Tryz.func60 ?_
 intro Q hQ
 refine am trivial ?_
 rcases ha with rfl|rfl
 ·rw[mN,pG]
  simp(disch:=first|omega| (simp only[go_sem, ↓reduceIte,Nat.reduceEqDiff];done)|fail) only[go_sem, ↓reduceIte,Int.reduceToNat,Int.reduceLE,Int.reduceLT,Int.reduceSub,Int.reduceAdd,Nat.reduceEqDiff,Nat.reduceAdd,Nat.reduceLeDiff,Nat.reduceLT,Nat.reduceMul,Nat.reduceSub]
  refine am trivial ?_
  refine⟨by simp,?_⟩
  refine(eU G _ _).mono ?_
  rintro r h' ⟨rfl,rfl⟩
  simp(disch:=first|omega| (simp only[go_sem, ↓reduceIte,Nat.reduceEqDiff];done)|fail) only[go_sem, ↓reduceIte,Int.reduceToNat,Int.reduceLE,Int.reduceLT,Int.reduceSub,Int.reduceAdd,Nat.reduceEqDiff,Nat.reduceAdd,Nat.reduceLeDiff,Nat.reduceLT,Nat.reduceMul,Nat.reduceSub,List.cons_ne_nil]
  refine(hQ _ _ ?_).2
  simp(disch:=first|omega| (simp only[go_sem, ↓reduceIte,Nat.reduceEqDiff];done)|fail) only[go_sem, ↓reduceIte,Int.reduceToNat,Int.reduceLE,Int.reduceLT,Int.reduceSub,Int.reduceAdd,Nat.reduceEqDiff,Nat.reduceAdd,Nat.reduceLeDiff,Nat.reduceLT,Nat.reduceMul,Nat.reduceSub]
  exact end_
 ·rw[o7,nf _ _ _ (by simp(disch:=first|omega| (simp only[go_sem, ↓reduceIte,Nat.reduceEqDiff];done)|fail) only[go_sem, ↓reduceIte,Int.reduceToNat,Int.reduceLE,Int.reduceLT,Int.reduceSub,Int.reduceAdd,Nat.reduceEqDiff,Nat.reduceAdd,Nat.reduceLeDiff,Nat.reduceLT,Nat.reduceMul,Nat.reduceSub];rfl)]
  simp(disch:=first|omega| (simp only[go_sem, ↓reduceIte,Nat.reduceEqDiff];done)|fail) only[go_sem, ↓reduceIte,Int.reduceToNat,Int.reduceLE,Int.reduceLT,Int.reduceSub,Int.reduceAdd,Nat.reduceEqDiff,Nat.reduceAdd,Nat.reduceLeDiff,Nat.reduceLT,Nat.reduceMul,Nat.reduceSub]
  refine am trivial ?_
  rw[oI _ _ (by exact aZ trivial)]
  simp(disch:=first|omega| (simp only[go_sem, ↓reduceIte,Nat.reduceEqDiff];done)|fail) only[go_sem, ↓reduceIte,Int.reduceToNat,Int.reduceLE,Int.reduceLT,Int.reduceSub,Int.reduceAdd,Nat.reduceEqDiff,Nat.reduceAdd,Nat.reduceLeDiff,Nat.reduceLT,Nat.reduceMul,Nat.reduceSub]
  refine am trivial ?_
  refine(hQ _ _ ?_).2
  simp(disch:=first|omega| (simp only[go_sem, ↓reduceIte,Nat.reduceEqDiff];done)|fail) only[go_sem, ↓reduceIte,Int.reduceToNat,Int.reduceLE,Int.reduceLT,Int.reduceSub,Int.reduceAdd,Nat.reduceEqDiff,Nat.reduceAdd,Nat.reduceLeDiff,Nat.reduceLT,Nat.reduceMul,Nat.reduceSub]
  exact end_
theorem ct:byT Tryz.prog 5=some 1:=by kernel_rfl
theorem bS(h:Heap)(es:List AVal):elemsOf h 1 (.sl 1 es)=some es:=by simp[elemsOf]
theorem dI:(zroT Tryz.prog 5).map (fun z=>z.cells.length)=some 1:=by simp only[go_sem]
theorem j2(a:AVal)(h j:Heap)(v:Nat)(s:Bs)(b:UInt8)(ha:bldA a h.length)(hs:s.length+1≤1073741824):
  Sat (CT G) 79 [.hp h.length 0 0 0,.int .u8 b.toNat] (bldH h j a v s) (fun r h'=>r=.nil .nilIface∧h'=bldH h j (.hp h.length 0 0 0) (v+1) (s++[b])):=by
 have end_:Fin (bldH h j a v s) (bldH h j (.hp h.length 0 0 0) (v+1) (s++[b])) (fun r h'=>r=.nil .nilIface∧h'=bldH h j (.hp h.length 0 0 0) (v+1) (s++[b])) (.nil .nilIface):=
  Fin.keep0 ((bN ..).trans (bN ..).symm) (eY _ _ _ _ _ _ _) (.nil _) ⟨rfl,rfl⟩
 refine sb [.tmp 4] (fn:=Tryz.f79) Tryz.func79 ?_
 intro Q hQ
 refine am trivial ?_
 refine(eE G a h j v s ha).mono ?_
 rintro r h' ⟨rfl,rfl⟩
 unfold bldH at*
 try refine bB trivial ?_
 refine am trivial ?_
 refine bz (.inl rfl) (by exact aZ trivial) (by exact aZ trivial) ct dI (by omega) (bS _ _) (by simp(disch:=first|omega| (simp only[go_sem, ↓reduceIte,Nat.reduceEqDiff];done)|fail) only[go_sem, ↓reduceIte,Int.reduceToNat,Int.reduceLE,Int.reduceLT,Int.reduceSub,Int.reduceAdd,Nat.reduceEqDiff,Nat.reduceAdd,Nat.reduceLeDiff,Nat.reduceLT,Nat.reduceMul,Nat.reduceSub,aW];rfl) (by simp) ?_ ?_
 ·simp[maxLen];omega
 simp(disch:=first|omega| (simp only[go_sem, ↓reduceIte,Nat.reduceEqDiff];done)|fail) only[go_sem, ↓reduceIte,Int.reduceToNat,Int.reduceLE,Int.reduceLT,Int.reduceSub,Int.reduceAdd,Nat.reduceEqDiff,Nat.reduceAdd,Nat.reduceLeDiff,Nat.reduceLT,Nat.reduceMul,Nat.reduceSub]
 refine am trivial ?_
 refine bi hQ trivial ?_
 simp only[bldR,bufR,List.length_append,List.map_append,List.length_cons,List.length_nil,List.map_cons,List.map_nil,bytA,Nat.zero_add]at end_ ⊢
 exact end_
theorem pH(a:AVal)(h j:Heap)(v:Nat)(s:Bs):Sat (CT G) 77 [.hp h.length 0 0 0] (bldH h j a v s) (fun r h'=>r=.int .i64 s.length∧h'=bldH h j a v s):=by
 have end_:Fin (bldH h j a v s) (bldH h j a v s) (fun r h'=>r=.int .i64 s.length∧h'=bldH h j a v s) (.int .i64 s.length):=Fin.same (.int _ _) ⟨rfl,rfl⟩
 unfold bldH at*
 have F:= @aW
 refine sb [.tmp 2] (fn:=Tryz.f77) Tryz.func77 ?_
 intro Q hQ
 refine am F ?_
 refine am F ?_
 refine bi hQ F ?_
 exact end_
theorem qT:bptr Tryz.prog 87 5=true:=by kernel_rfl
theorem lU(a:AVal)(h j:Heap)(v:Nat)(s:Bs):Sat (CT G) 34 [.hp h.length 0 0 0] (bldH h j a v s) (fun r h'=>r=.str s∧∃b,h'=h++bldR a (h.length+1) v s::b::j):=by
 unfold bldH
 have F:= @aW
 refine sb [.tmp 2] (fn:=Tryz.f34) Tryz.func34 ?_
 intro Q hQ
 refine am F ?_
 have fin:∀b,Fin (h++bldR a (h.length+1) v s::bufR v s::j) (h++bldR a (h.length+1) v s::b::j) (fun r h'=>r=.str s∧∃b,h'=h++bldR a (h.length+1) v s::b::j) (.str s)∨¬(b=bufR v s∨b=.dead):=fun b=>by
  by_cases hb:b=bufR v s∨b=.dead
  ·refine .inl (Fin.keep0 (by simp) (fun p k hk=>?_) (.str _) ⟨rfl,b,rfl⟩)
   rcases Nat.lt_or_ge p h.length with h1|h1
   ·rw[List.getElem?_append_left h1]at hk ⊢;exact .inl hk
   ·rw[List.getElem?_append_right h1]at hk ⊢
    match p-h.length,hk with
    |0,hk=>exact .inl (by simpa using hk)
    |1,hk=>
     simp at hk;subst hk
     rcases hb with rfl|rfl
     ·exact .inl (by simp)
     ·exact .inr trivial
    |i+2,hk=>exact .inl (by simpa using hk)
  ·exact .inr hb
 rcases Nat.eq_zero_or_pos s.length with h0|h0
 ·have hs:s=[]:=List.length_eq_zero_iff.1 h0
  subst hs
  simp(disch:=first|omega| (simp only[go_sem, ↓reduceIte,Nat.reduceEqDiff];done)|fail) only[go_sem, ↓reduceIte,Int.reduceToNat,Int.reduceLE,Int.reduceLT,Int.reduceSub,Int.reduceAdd,Nat.reduceEqDiff,Nat.reduceAdd,Nat.reduceLeDiff,Nat.reduceLT,Nat.reduceMul,Nat.reduceSub,F,List.length_nil,Nat.lt_irrefl,Int.natCast_zero]
  refine am F ?_
  refine bi hQ F ?_
  rcases fin (bufR v [])with f|f
  ·exact f
  ·exact absurd (.inl rfl) f
 ·simp(disch:=first|omega| (simp only[go_sem, ↓reduceIte,Nat.reduceEqDiff];done)|fail) only[go_sem, ↓reduceIte,Int.reduceToNat,Int.reduceLE,Int.reduceLT,Int.reduceSub,Int.reduceAdd,Nat.reduceEqDiff,Nat.reduceAdd,Nat.reduceLeDiff,Nat.reduceLT,Nat.reduceMul,Nat.reduceSub,F,h0]
  refine o8 h0 (by simp(disch:=first|omega| (simp only[go_sem, ↓reduceIte,Nat.reduceEqDiff];done)|fail) only[go_sem, ↓reduceIte,Int.reduceToNat,Int.reduceLE,Int.reduceLT,Int.reduceSub,Int.reduceAdd,Nat.reduceEqDiff,Nat.reduceAdd,Nat.reduceLeDiff,Nat.reduceLT,Nat.reduceMul,Nat.reduceSub,F];rfl) qT (by simp) (by rw[List.take_of_length_le (by simp)];exact gB s) ?_
  try refine bB F ?_
  refine am F ?_
  refine bi hQ F ?_
  rcases fin .dead with f|f
  ·exact f
  ·exact absurd (.inr rfl) f
end Go.Av
namespace Go.Av
open Go Go.Proofs Go.RowKit
attribute [local irreducible] WP WPl WPix Sat
variable (G:Nat→Option (List AVal))
def enc(r:Int):Bs:=(Utf8.encode r).data.toList
def Rune(r:Int):Prop:=0≤r∧(r<55296∨57343<r∧r≤1114111)
theorem Rune.valid{r:Int}(h:Rune r):Utf8.valid r=true:=by
 unfold Utf8.valid;obtain⟨h0,h1⟩:=h;simp;omega
theorem aQ(n:Nat)(h:n<256):bytA (UInt8.ofNat n)=.int .u8 n:=by
 simp[bytA];omega
theorem qU{r:Int}(h0:0≤r)(h1:r<128):(enc r).map bytA=[.int .u8 r]:=by
 have hv:=Rune.valid (r:=r) ⟨h0,by omega⟩
 unfold enc Utf8.encode
 simp only[hv,if_true]
 rw[if_pos (by omega)]
 simp only[List.map_cons,List.map_nil]
 rw[aQ _ (by omega)]
 simp only[List.cons.injEq,AVal.int.injEq,and_true,true_and]
 omega
theorem qV{r:Int}(h0:128≤r)(h1:r<2048):(enc r).map bytA=[.int .u8 (192+r/64),.int .u8 (128+r%64)]:=by
 have hv:=Rune.valid (r:=r) ⟨by omega,by omega⟩
 unfold enc Utf8.encode
 simp only[hv,if_true]
 rw[if_neg (by omega),if_pos (by omega)]
 simp only[List.map_cons,List.map_nil]
 rw[aQ _ (by omega),aQ _ (by omega)]
 simp only[List.cons.injEq,AVal.int.injEq,and_true,true_and]
 omega
theorem oJ{r:Int}(h:Rune r)(h0:2048≤r)(h1:r<65536):(enc r).map bytA=[.int .u8 (224+r/4096),.int .u8 (128+r/64%64),.int .u8 (128+r%64)]:=by
 have hv:=h.valid
 unfold enc Utf8.encode
 simp only[hv,if_true]
 rw[if_neg (by omega),if_neg (by omega),if_pos (by omega)]
 simp only[List.map_cons,List.map_nil]
 rw[aQ _ (by omega),aQ _ (by omega),aQ _ (by omega)]
 simp only[List.cons.injEq,AVal.int.injEq,and_true,true_and]
 omega
theorem qW{r:Int}(h0:65536≤r)(h1:r≤1114111):(enc r).map bytA=[.int .u8 (240+r/262144),.int .u8 (128+r/4096%64),.int .u8 (128+r/64%64),.int .u8 (128+r%64)]:=by
 have hv:=Rune.valid (r:=r) ⟨by omega,by omega⟩
 unfold enc Utf8.encode
 simp only[hv,if_true]
 rw[if_neg (by omega),if_neg (by omega),if_neg (by omega)]
 simp only[List.map_cons,List.map_nil]
 rw[aQ _ (by omega),aQ _ (by omega),aQ _ (by omega),aQ _ (by omega)]
 simp only[List.cons.injEq,AVal.int.injEq,and_true,true_and]
 omega
theorem fw(r:Int):1≤(enc r).length∧(enc r).length≤4:=by
 unfold enc Utf8.encode
 simp only[]
 generalize (if Utf8.valid r=true then r.toNat else Utf8.runeError)=c
 by_cases h1:c<128
 ·rw[if_pos h1];exact⟨by simp,by simp⟩
 ·rw[if_neg h1]
  by_cases h2:c<2048
  ·rw[if_pos h2];exact⟨by simp,by simp⟩
  ·rw[if_neg h2]
   by_cases h3:c<65536
   ·rw[if_pos h3];exact⟨by simp,by simp⟩
   ·rw[if_neg h3];exact⟨by simp,by simp⟩
theorem i6(P:Program)(h:Heap)(T:TypeId)(a b:Int)(k:IntKind)(hb:0≤b)(hb2:b<32):abin P h .shr T (.int .i32 a) (.int k b)=some (.int .i32 (a/2^b.toNat)):=by
 simp only[abin]
 rw[if_neg (by omega)]
 have:min b.toNat (IntKind.bits .i32)=b.toNat:=by simp[IntKind.bits];omega
 rw[this,Int.fdiv_eq_ediv_of_nonneg _ (by exact Int.le_of_lt (Int.pow_pos (by omega)))]
theorem wrap_u8(x:Int):IntKind.wrap .u8 x=x%256:=IntKind.wrap_u8 x
theorem wrap_u32(x:Int)(h0:0≤x)(h1:x<4294967296):IntKind.wrap .u32 x=x:=by rw[IntKind.wrap_u32];omega
theorem fy(n m:Nat)(h:n+m<256)(hh:∀x:_root_.Fin 256,x.val≤m→(BitVec.ofInt 8 n|||BitVec.ofInt 8 (x.val:Int)).toNat=n+x.val)(x:Int)(h0:0≤x)(h1:x≤m):aint .or .u8 n x=some (.int .u8 (n+x)):=by
 have e:(BitVec.ofInt 8 n|||BitVec.ofInt 8 ((x.toNat:Nat):Int)).toNat=n+x.toNat:=hh ⟨x.toNat,by omega⟩ (by simp;omega)
 rw[show x=((x.toNat:Nat):Int)from by omega]
 show some (AVal.int .u8 (IntKind.wrap .u8 (BitVec.ofInt 8 n|||BitVec.ofInt 8 ((x.toNat:Nat):Int)).toNat))=_
 rw[e,wrap_u8]
 congr 2;omega
theorem ta(x:Int)(h0:0≤x)(h1:x≤31):aint .or .u8 192 x=some (.int .u8 (192+x)):=fy 192 31 (by omega) (by decide+kernel) x h0 h1
theorem td(x:Int)(h0:0≤x)(h1:x≤15):aint .or .u8 224 x=some (.int .u8 (224+x)):=fy 224 15 (by omega) (by decide+kernel) x h0 h1
theorem tf(x:Int)(h0:0≤x)(h1:x≤7):aint .or .u8 240 x=some (.int .u8 (240+x)):=fy 240 7 (by omega) (by decide+kernel) x h0 h1
theorem tg(x:Int)(h0:0≤x)(h1:x≤63):aint .or .u8 128 x=some (.int .u8 (128+x)):=fy 128 63 (by omega) (by decide+kernel) x h0 h1
theorem th(x:Int)(h0:0≤x)(h1:x<256):aint .and .u8 x 63=some (.int .u8 (x%64)):=by
 have hh:∀x:_root_.Fin 256,(BitVec.ofInt 8 (x.val:Int)&&&BitVec.ofInt 8 63).toNat=x.val%64:=by decide+kernel
 have e:(BitVec.ofInt 8 ((x.toNat:Nat):Int)&&&BitVec.ofInt 8 63).toNat=x.toNat%64:=hh ⟨x.toNat,by omega⟩
 rw[show x=((x.toNat:Nat):Int)from by omega]
 show some (AVal.int .u8 (IntKind.wrap .u8 (BitVec.ofInt 8 ((x.toNat:Nat):Int)&&&BitVec.ofInt 8 63).toNat))=_
 rw[e,wrap_u8]
 congr 2;omega
theorem lV(P:Program)(h:Heap)(T:TypeId)(x:Int)(h0:0≤x)(h1:x≤31):abin P h .or T (.int .u8 192) (.int .u8 x)=some (.int .u8 (192+x)):=by simpa only[abin,if_true]using ta x h0 h1
theorem lW(P:Program)(h:Heap)(T:TypeId)(x:Int)(h0:0≤x)(h1:x≤15):abin P h .or T (.int .u8 224) (.int .u8 x)=some (.int .u8 (224+x)):=by simpa only[abin,if_true]using td x h0 h1
theorem lY(P:Program)(h:Heap)(T:TypeId)(x:Int)(h0:0≤x)(h1:x≤7):abin P h .or T (.int .u8 240) (.int .u8 x)=some (.int .u8 (240+x)):=by simpa only[abin,if_true]using tf x h0 h1
theorem lZ(P:Program)(h:Heap)(T:TypeId)(x:Int)(h0:0≤x)(h1:x≤63):abin P h .or T (.int .u8 128) (.int .u8 x)=some (.int .u8 (128+x)):=by simpa only[abin,if_true]using tg x h0 h1
theorem m5(P:Program)(h:Heap)(T:TypeId)(x:Int)(h0:0≤x)(h1:x<256):abin P h .and T (.int .u8 x) (.int .u8 63)=some (.int .u8 (x%64)):=by simpa only[abin,if_true]using th x h0 h1
theorem vT(P:Program)(h:Heap)(T:TypeId)(a:Int):abin P h .shr T (.int .i32 a) (.int .u64 6)=some (.int .i32 (a/64)):=by rw[i6 _ _ _ _ _ _ (by omega) (by omega)];rfl
theorem tj(P:Program)(h:Heap)(T:TypeId)(a:Int):abin P h .shr T (.int .i32 a) (.int .u64 12)=some (.int .i32 (a/4096)):=by rw[i6 _ _ _ _ _ _ (by omega) (by omega)];rfl
theorem tk(P:Program)(h:Heap)(T:TypeId)(a:Int):abin P h .shr T (.int .i32 a) (.int .u64 18)=some (.int .i32 (a/262144)):=by rw[i6 _ _ _ _ _ _ (by omega) (by omega)];rfl
theorem iF(k:IntKind)(n:Int):aconv Tryz.prog 21 5 (.int k n)=some (.int .u8 (n%256)):=by simp only[aconv,go_sem,wrap_u8]
theorem gC(k:IntKind)(n:Int)(h0:0≤n)(h1:n<4294967296):aconv Tryz.prog 21 162 (.int k n)=some (.int .u32 n):=by simp only[aconv,go_sem,wrap_u32 n h0 h1]
theorem dA(r:Int)(hr:Rune r)(h1:128≤r)(h j:Heap)(X:Blk)(v:Nat)(s:Bs)(hs:s.length≤1073741824):
  Sat (CT G) 155 [.hs (h.length+1) v 0 s.length true,.int .i32 r] (h++X::bufR v s::j)
   (fun x h'=>x=.hs (h.length+1) (v+1) 0 (s.length+(enc r).length) true∧h'=h++X::bufR (v+1) (s++enc r)::j):=by
 have end_:∀l,l=enc r→Fin (h++X::bufR v s::j) (h++X::bufR (v+1) (s++l)::j) (fun x h'=>x=.hs (h.length+1) (v+1) 0 (s.length+(enc r).length) true∧h'=h++X::bufR (v+1) (s++enc r)::j) (.hs (h.length+1) (v+1) 0 (s.length+l.length) true):=fun l hl=>by
  subst hl
  refine Fin.keep0 (by simp) (fun p k hk=>?_) (.hs _ _ _ _ _ (by simp)) ⟨rfl,rfl⟩
  rcases Nat.lt_or_ge p h.length with h1|h1
  ·rw[List.getElem?_append_left h1]at hk ⊢;exact .inl hk
  ·rw[List.getElem?_append_right h1]at hk ⊢
   match p-h.length,hk with
   |0,hk=>exact .inl hk
   |1,hk=>simp at hk;subst hk;exact .inr (i5 _ _ _)
   |i+2,hk=>exact .inl hk
 have F:=F2 (F9 @iF @gC @vT @tj @tk @lV @lW @lY @lZ) (F3 @m5 @wrap_u8 @wrap_u32)
 obtain⟨hr0,hr1⟩:=hr
 refine sb [.tmp 4] (fn:=Tryz.f155) Tryz.func155 ?_
 intro Q hQ
 refine am F ?_
 refine bI F (fun hc=>?_) (fun hc=>?_)<;>(try exact hc.elim)<;>(refine am F ?_)
 ·refine bz (.inl rfl) (by exact aZ F) (by exact aZ F) ct dI (by omega) (bS _ _) (by simp(disch:=first|omega| (simp only[go_sem, ↓reduceIte,Nat.reduceEqDiff];done)|fail) only[go_sem, ↓reduceIte,Int.reduceToNat,Int.reduceLE,Int.reduceLT,Int.reduceSub,Int.reduceAdd,Nat.reduceEqDiff,Nat.reduceAdd,Nat.reduceLeDiff,Nat.reduceLT,Nat.reduceMul,Nat.reduceSub,F,aW];rfl) (by simp) ?_ ?_
  ·simp[maxLen];omega
  simp(disch:=first|omega| (simp only[go_sem, ↓reduceIte,Nat.reduceEqDiff];done)|fail) only[go_sem, ↓reduceIte,Int.reduceToNat,Int.reduceLE,Int.reduceLT,Int.reduceSub,Int.reduceAdd,Nat.reduceEqDiff,Nat.reduceAdd,Nat.reduceLeDiff,Nat.reduceLT,Nat.reduceMul,Nat.reduceSub,F]
  refine am F ?_
  refine bi hQ F ?_
  have e:=qV h1 (by omega)
  have le:(enc r).length=2:=by simpa using congrArg List.length e
  have:=end_ _ rfl
  simp only[bufR,List.map_append,e,le]at this
  have m0:r/64%256=r/64:=by omega
  have m1:r%256%64=r%64:=by omega
  simp only[bufR,List.map_append,e,le,m0,m1,List.length_cons,List.length_nil,Nat.zero_add,Nat.reduceAdd]
  exact this
 ·refine bI F (fun hc=>?_) (fun hc=>?_)<;>(try exact hc.elim)<;>(refine am F ?_)
  ·refine bI F (fun hc=>?_) (fun hc=>?_)<;>(try exact hc.elim)<;>(refine am F ?_)
   ·refine bz (.inl rfl) (by exact aZ F) (by exact aZ F) ct dI (by omega) (bS _ _) (by simp(disch:=first|omega| (simp only[go_sem, ↓reduceIte,Nat.reduceEqDiff];done)|fail) only[go_sem, ↓reduceIte,Int.reduceToNat,Int.reduceLE,Int.reduceLT,Int.reduceSub,Int.reduceAdd,Nat.reduceEqDiff,Nat.reduceAdd,Nat.reduceLeDiff,Nat.reduceLT,Nat.reduceMul,Nat.reduceSub,F,aW];rfl) (by simp) ?_ ?_
    ·simp[maxLen];omega
    simp(disch:=first|omega| (simp only[go_sem, ↓reduceIte,Nat.reduceEqDiff];done)|fail) only[go_sem, ↓reduceIte,Int.reduceToNat,Int.reduceLE,Int.reduceLT,Int.reduceSub,Int.reduceAdd,Nat.reduceEqDiff,Nat.reduceAdd,Nat.reduceLeDiff,Nat.reduceLT,Nat.reduceMul,Nat.reduceSub,F]
    refine am F ?_
    refine bi hQ F ?_
    have e:=oJ ⟨hr0,hr1⟩ (by omega) (by omega)
    have le:(enc r).length=3:=by simpa using congrArg List.length e
    have:=end_ _ rfl
    simp only[bufR,List.map_append,e,le]at this
    have m0:r/4096%256=r/4096:=by omega
    have m1:r/64%256%64=r/64%64:=by omega
    have m2:r%256%64=r%64:=by omega
    simp only[bufR,List.map_append,e,le,m0,m1,m2,List.length_cons,List.length_nil,Nat.zero_add,Nat.reduceAdd]
    exact this
   ·exfalso;omega
  ·(first|refine cM F (fun hg=>?_) (fun hg=>?_)|refine pqo F (fun hg=>?_) (fun hg=>?_))<;>(try exact hg.elim)<;>(try refine bB F ?_)<;>(refine am F ?_)
   ·refine bI F (fun hc=>?_) (fun hc=>?_)<;>(try exact hc.elim)<;>(refine am F ?_)
    ·refine bz (.inl rfl) (by exact aZ F) (by exact aZ F) ct dI (by omega) (bS _ _) (by simp(disch:=first|omega| (simp only[go_sem, ↓reduceIte,Nat.reduceEqDiff];done)|fail) only[go_sem, ↓reduceIte,Int.reduceToNat,Int.reduceLE,Int.reduceLT,Int.reduceSub,Int.reduceAdd,Nat.reduceEqDiff,Nat.reduceAdd,Nat.reduceLeDiff,Nat.reduceLT,Nat.reduceMul,Nat.reduceSub,F,aW];rfl) (by simp) ?_ ?_
     ·simp[maxLen];omega
     simp(disch:=first|omega| (simp only[go_sem, ↓reduceIte,Nat.reduceEqDiff];done)|fail) only[go_sem, ↓reduceIte,Int.reduceToNat,Int.reduceLE,Int.reduceLT,Int.reduceSub,Int.reduceAdd,Nat.reduceEqDiff,Nat.reduceAdd,Nat.reduceLeDiff,Nat.reduceLT,Nat.reduceMul,Nat.reduceSub,F]
     refine am F ?_
     refine bi hQ F ?_
     have e:=oJ ⟨hr0,hr1⟩ (by omega) (by omega)
     have le:(enc r).length=3:=by simpa using congrArg List.length e
     have:=end_ _ rfl
     simp only[bufR,List.map_append,e,le]at this
     have m0:r/4096%256=r/4096:=by omega
     have m1:r/64%256%64=r/64%64:=by omega
     have m2:r%256%64=r%64:=by omega
     simp only[bufR,List.map_append,e,le,m0,m1,m2,List.length_cons,List.length_nil,Nat.zero_add,Nat.reduceAdd]
     exact this
    ·(first|refine cM F (fun hg=>?_) (fun hg=>?_)|refine pqo F (fun hg=>?_) (fun hg=>?_))<;>(try exact hg.elim)<;>(try refine bB F ?_)<;>(refine am F ?_)
     ·refine bI F (fun hc=>?_) (fun hc=>?_)<;>(try exact hc.elim)<;>(refine am F ?_)
      ·refine bz (.inl rfl) (by exact aZ F) (by exact aZ F) ct dI (by omega) (bS _ _) (by simp(disch:=first|omega| (simp only[go_sem, ↓reduceIte,Nat.reduceEqDiff];done)|fail) only[go_sem, ↓reduceIte,Int.reduceToNat,Int.reduceLE,Int.reduceLT,Int.reduceSub,Int.reduceAdd,Nat.reduceEqDiff,Nat.reduceAdd,Nat.reduceLeDiff,Nat.reduceLT,Nat.reduceMul,Nat.reduceSub,F,aW];rfl) (by simp) ?_ ?_
       ·simp[maxLen];omega
       simp(disch:=first|omega| (simp only[go_sem, ↓reduceIte,Nat.reduceEqDiff];done)|fail) only[go_sem, ↓reduceIte,Int.reduceToNat,Int.reduceLE,Int.reduceLT,Int.reduceSub,Int.reduceAdd,Nat.reduceEqDiff,Nat.reduceAdd,Nat.reduceLeDiff,Nat.reduceLT,Nat.reduceMul,Nat.reduceSub,F]
       refine am F ?_
       refine bi hQ F ?_
       have e:=qW (r:=r) (by omega) (by omega)
       have le:(enc r).length=4:=by simpa using congrArg List.length e
       have:=end_ _ rfl
       simp only[bufR,List.map_append,e,le]at this
       have m0:r/262144%256=r/262144:=by omega
       have m1:r/4096%256%64=r/4096%64:=by omega
       have m2:r/64%256%64=r/64%64:=by omega
       have m3:r%256%64=r%64:=by omega
       simp only[bufR,List.map_append,e,le,m0,m1,m2,m3,List.length_cons,List.length_nil,Nat.zero_add,Nat.reduceAdd]
       exact this
      ·exfalso;omega
     ·exfalso;omega
   ·exfalso;omega
theorem i7(r:Int)(hr:Rune r)(h j:Heap)(X:Blk)(v:Nat)(s:Bs)(hs:s.length≤1073741824):
  Sat (CT G) 124 [.hs (h.length+1) v 0 s.length true,.int .i32 r] (h++X::bufR v s::j)
   (fun x h'=>x=.hs (h.length+1) (v+1) 0 (s.length+(enc r).length) true∧h'=h++X::bufR (v+1) (s++enc r)::j):=by
 have end_:∀l,l=enc r→Fin (h++X::bufR v s::j) (h++X::bufR (v+1) (s++l)::j) (fun x h'=>x=.hs (h.length+1) (v+1) 0 (s.length+(enc r).length) true∧h'=h++X::bufR (v+1) (s++enc r)::j) (.hs (h.length+1) (v+1) 0 (s.length+l.length) true):=fun l hl=>by
  subst hl
  refine Fin.keep0 (by simp) (fun p k hk=>?_) (.hs _ _ _ _ _ (by simp)) ⟨rfl,rfl⟩
  rcases Nat.lt_or_ge p h.length with h1|h1
  ·rw[List.getElem?_append_left h1]at hk ⊢;exact .inl hk
  ·rw[List.getElem?_append_right h1]at hk ⊢
   match p-h.length,hk with
   |0,hk=>exact .inl hk
   |1,hk=>simp at hk;subst hk;exact .inr (i5 _ _ _)
   |i+2,hk=>exact .inl hk
 have hr':=hr
 obtain⟨hr0,hr1⟩:=hr
 have F:=F2 @iF @gC
 refine sb [.tmp 4] (fn:=Tryz.f124) Tryz.func124 ?_
 intro Q hQ
 refine am F ?_
 refine bI F (fun hc=>?_) (fun hc=>?_)<;>(try exact hc.elim)<;>(refine am F ?_)
 ·refine bz (.inl rfl) (by exact aZ F) (by exact aZ F) ct dI (by omega) (bS _ _) (by simp(disch:=first|omega| (simp only[go_sem, ↓reduceIte,Nat.reduceEqDiff];done)|fail) only[go_sem, ↓reduceIte,Int.reduceToNat,Int.reduceLE,Int.reduceLT,Int.reduceSub,Int.reduceAdd,Nat.reduceEqDiff,Nat.reduceAdd,Nat.reduceLeDiff,Nat.reduceLT,Nat.reduceMul,Nat.reduceSub,F,aW];rfl) (by simp) ?_ ?_
  ·simp[maxLen];omega
  simp(disch:=first|omega| (simp only[go_sem, ↓reduceIte,Nat.reduceEqDiff];done)|fail) only[go_sem, ↓reduceIte,Int.reduceToNat,Int.reduceLE,Int.reduceLT,Int.reduceSub,Int.reduceAdd,Nat.reduceEqDiff,Nat.reduceAdd,Nat.reduceLeDiff,Nat.reduceLT,Nat.reduceMul,Nat.reduceSub,F]
  refine am F ?_
  refine bi hQ F ?_
  have e:=qU (r:=r) (by omega) (by omega)
  have le:(enc r).length=1:=by simpa using congrArg List.length e
  have:=end_ _ rfl
  simp only[bufR,List.map_append,e,le]at this
  have m0:r%256=r:=by omega
  simp only[bufR,List.map_append,e,le,m0,List.length_cons,List.length_nil,Nat.zero_add,Nat.reduceAdd]
  exact this
 ·refine eA F (dA G r hr' (by omega) h j X v s hs) ?_
  refine bi hQ F ?_
  exact end_ _ rfl
theorem eF(a:AVal)(r:Int)(hr:Rune r)(h j:Heap)(v:Nat)(s:Bs)(ha:bldA a h.length)(hs:s.length≤1073741824):
  Sat (CT G) 80 [.hp h.length 0 0 0,.int .i32 r] (bldH h j a v s) (fun x h'=>x=.tup [.int .i64 (enc r).length,.nil .nilIface]∧h'=bldH h j (.hp h.length 0 0 0) (v+1) (s++enc r)):=by
 have end_:Fin (bldH h j a v s) (bldH h j (.hp h.length 0 0 0) (v+1) (s++enc r)) (fun x h'=>x=.tup [.int .i64 (enc r).length,.nil .nilIface]∧h'=bldH h j (.hp h.length 0 0 0) (v+1) (s++enc r)) (.tup [.int .i64 (enc r).length,.nil .nilIface]):=
  Fin.keep0 ((bN ..).trans (bN ..).symm) (eY _ _ _ _ _ _ _) (.tup _ (by intro c hc;simp at hc;rcases hc with rfl|rfl;exact .int _ _;exact .nil _)) ⟨rfl,rfl⟩
 have F:= @aW
 refine sb [.tmp 4,.tmp 5] (fn:=Tryz.f80) Tryz.func80 ?_
 intro Q hQ
 refine am F ?_
 refine(eE G a h j v s ha).mono ?_
 rintro x h' ⟨rfl,rfl⟩
 unfold bldH at*
 try refine bB F ?_
 refine am F ?_
 refine eA F (i7 G r hr h j _ v s hs) ?_
 refine(hQ _ _ ?_).1
 simp(disch:=first|omega| (simp only[go_sem, ↓reduceIte,Nat.reduceEqDiff];done)|fail) only[go_sem, ↓reduceIte,Int.reduceToNat,Int.reduceLE,Int.reduceLT,Int.reduceSub,Int.reduceAdd,Nat.reduceEqDiff,Nat.reduceAdd,Nat.reduceLeDiff,Nat.reduceLT,Nat.reduceMul,Nat.reduceSub,F]
 have hl:=fw r
 simp only[bldR,bufR,List.length_append,List.map_append]at end_ ⊢
 rw[show IntKind.wrap .i64 (((s.length+(enc r).length:Nat):Int)-(s.length:Nat))=((enc r).length:Nat)from by rw[eR (by omega) (by omega)];omega]
 exact end_
end Go.Av
namespace Go.Av
open Go Go.Proofs Go.RowKit
def dec(s:Bs)(k:Nat):Nat×Nat:=Utf8.decode ⟨s.toArray⟩ k
theorem fA(s:Bs)(k:Nat):dec s k=Lib.decodeN (s.length-k) (s.getD k 0).toNat (s.getD (k+1) 0).toNat (s.getD (k+2) 0).toNat (s.getD (k+3) 0).toNat:=by
 unfold dec;rw[Lib.decode_N]
def fix(r:Int):Nat:=if Utf8.valid r=true then r.toNat else Utf8.runeError
theorem pI(r:Int):enc r=let c:=fix r
  if c<0x80 then [UInt8.ofNat c]
  else if c<0x800 then [UInt8.ofNat (0xC0+c/64),UInt8.ofNat (0x80+c%64)]
  else if c<0x10000 then [UInt8.ofNat (0xE0+c/4096),UInt8.ofNat (0x80+c/64%64),UInt8.ofNat (0x80+c%64)]
  else [UInt8.ofNat (0xF0+c/262144),UInt8.ofNat (0x80+c/4096%64),UInt8.ofNat (0x80+c/64%64),UInt8.ofNat (0x80+c%64)]:=by
 unfold enc Utf8.encode fix
 simp only[]
 split
 ·split
  ·rfl
  ·split
   ·rfl
   ·split<;>rfl
 ·rfl
theorem bc(s:Bs)(k:Nat)(h:k<s.length):1≤(dec s k).2∧k+(dec s k).2≤s.length:=by
 rw[fA]
 refine⟨Lib.decodeN_ge1 _ _ _ _ _,?_⟩
 unfold Lib.decodeN
 repeat (first|split| (simp only[];omega))
theorem eZ(s:Bs)(k:Nat)(b:UInt8)(h:s[k]? =some b)(ha:b.toNat<128):dec s k=(b.toNat,1):=by
 rw[fA,List.getD_eq_getElem?_getD,h]
 exact Lib.decodeN_ascii _ _ _ _ _ ha
theorem jC(s:Bs)(k:Nat)(b:UInt8)(h:s[k]? =some b)(ha:128≤b.toNat):
  128≤(dec s k).1∧((dec s k).1<55296∨57343<(dec s k).1∧(dec s k).1≤1114111)∧∀i,i<(dec s k).2→∀c,s[k+i]? =some c→128≤c.toNat:=by
 have hb:s.getD k 0=b:=by rw[List.getD_eq_getElem?_getD,h];rfl
 have at_:∀i c,s[k+i]? =some c→s.getD (k+i) 0=c:=fun i c hc=>by rw[List.getD_eq_getElem?_getD,hc];rfl
 have l0:∀i,(s.getD i 0).toNat<256:=fun i=>(s.getD i 0).toNat_lt
 have e1:=l0 (k+1);have e2:=l0 (k+2);have e3:=l0 (k+3);have e0:=b.toNat_lt
 rw[fA,hb]
 generalize h1:(s.getD (k+1) 0).toNat=b1 at*
 generalize h2:(s.getD (k+2) 0).toNat=b2 at*
 generalize h3:(s.getD (k+3) 0).toNat=b3 at*
 have key:∀i c,s[k+i]? =some c→(i=0→c.toNat=b.toNat)∧(i=1→c.toNat=b1)∧(i=2→c.toNat=b2)∧(i=3→c.toNat=b3):=fun i c hc=>by
  have:=at_ i c hc
  refine⟨fun e=>?_,fun e=>?_,fun e=>?_,fun e=>?_⟩<;>subst e
  ·rw[← this];simp only[Nat.add_zero];rw[hb]
  ·rw[← h1,this]
  ·rw[← h2,this]
  ·rw[← h3,this]
 generalize s.length-k=n
 have fin:∀x m:Nat,(128≤x∧(x<55296∨57343<x∧x≤1114111))→(∀i,i<m→(i=0∧128≤b.toNat)∨(i=1∧128≤b1)∨(i=2∧128≤b2)∨(i=3∧128≤b3))→
   128≤(x,m).1∧((x,m).1<55296∨57343<(x,m).1∧(x,m).1≤1114111)∧∀i,i<(x,m).2→∀c,s[k+i]? =some c→128≤c.toNat:=fun x m hx hm=>
  ⟨hx.1,hx.2,fun i hi c hc=>by
   obtain⟨k0,k1,k2,k3⟩:=key i c hc
   rcases hm i hi with⟨e,h⟩| ⟨e,h⟩| ⟨e,h⟩| ⟨e,h⟩
   ·rw[k0 e];exact h
   ·rw[k1 e];exact h
   ·rw[k2 e];exact h
   ·rw[k3 e];exact h⟩
 unfold Lib.decodeN
 rw[if_neg (by omega)]
 split
 ·split
  ·exact fin _ _ (by omega) (fun i hi=>by omega)
  ·exact fin _ _ (by omega) (fun i hi=>by omega)
 ·split
  ·split
   ·exact fin _ _ (by omega) (fun i hi=>by omega)
   ·exact fin _ _ (by omega) (fun i hi=>by omega)
  ·split
   ·split
    ·exact fin _ _ (by omega) (fun i hi=>by omega)
    ·exact fin _ _ (by omega) (fun i hi=>by omega)
   ·exact fin _ _ (by omega) (fun i hi=>by omega)
end Go.Av
namespace Go.Av
open Go Go.Proofs Go.RowKit
attribute [local irreducible] WP WPl WPix Sat
variable (G:Nat→Option (List AVal))
def digF(c base:Int):Int:=
 let n:=if 48≤c∧c≤57 then c-48 else if 97≤c∧c≤102 then c-87 else if 65≤c∧c≤70 then c-55 else-1
 if base≤n then-1 else n
def numGo(base:Int):Bs→Int→Int
 | [],n=>n
 |b::t,n=>if digF b.toNat base<0 then-1 else numGo base t (base*n+digF b.toNat base)
def numF(s:Bs)(base:Int)(most:Nat):Int:=if s=[]∨most<s.length then-1 else numGo base s 0
def rightF(n:Int):Bool:=decide (n=9)||decide (n=10)||decide (n=13)||(decide (32≤n)&& !decide (enc n=[239,191,189]))
theorem dj{x:Int}(h0: -2147483648≤x)(h1:x≤2147483647):IntKind.i32.wrap x=x:=by
 simp only[IntKind.wrap,IntKind.bits,IntKind.signed];simp;omega
theorem oK(k:IntKind)(n:Int)(h0: -9223372036854775808≤n)(h1:n≤9223372036854775807):aconv Tryz.prog 21 3 (.int k n)=some (.int .i64 n):=by simp only[aconv,go_sem,eR h0 h1]
theorem i8(h j:Heap)(s:Bs)(q:Nat):(h++Blk.iter s q::j)[h.length]? =some (.iter s q):=by simp
def signF(name:Bs):Int×Bool:=
 if name=[97,109,112]then(38,true)else if name=[108,116]then(60,true)else if name=[103,116]then(62,true)
 else if name=[113,117,111,116]then(34,true)else if name=[97,112,111,115]then(39,true)
 else
  let n:=if Lib.hasPrefix name [35,120]=true then numF (name.drop 2) 16 6 else if Lib.hasPrefix name [35]=true then numF (name.drop 1) 10 7 else-1
  if n<0 then(0,false)else if rightF n=true then(n,true)else(65533,true)
end Go.Av
namespace Go.Av
open Go Go.Proofs Go.RowKit
theorem dV(s:Bs)(k:Nat):dec s k=dec (s.drop k) 0:=by
 rw[fA,fA]
 simp only[List.getD_eq_getElem?_getD,List.getElem?_drop,List.length_drop,Nat.add_zero,Nat.zero_add,Nat.sub_zero,Nat.add_assoc]
theorem jD(s:Bs)(k:Nat)(h:k<s.length):Rune (dec s k).1:=by
 have hb:=List.getElem?_eq_getElem h
 by_cases ha:s[k].toNat<128
 ·rw[eZ s k _ hb ha];exact⟨by simp,by simp;omega⟩
 ·obtain⟨h1,h2,_⟩:=jC s k _ hb (by omega)
  exact⟨by omega,by omega⟩
def runesN:Nat→Bs→List Int
 |0,_=>[]
 |f+1,s=>if s=[]then []else((dec s 0).1:Int)::runesN f (s.drop (dec s 0).2)
def runesF(s:Bs):List Int:=runesN s.length s
theorem kz:∀(f:Nat) (s:Bs),s.length≤f→runesN f s=runesN s.length s:=by
 intro f
 induction f using Nat.strongRecOn with
 |ind f ih=>
  intro s hs
  cases s with
  |nil=>cases f<;>rfl
  |cons b t=>
   obtain⟨f,rfl⟩:∃g,f=g+1:=⟨f-1,by simp at hs;omega⟩
   have hd:=bc (b::t) 0 (by simp)
   simp only[List.length_cons]at hs hd ⊢
   rw[runesN,runesN,if_neg (by simp),if_neg (by simp)]
   have hl:((b::t).drop (dec (b::t) 0).2).length≤t.length:=by simp only[List.length_drop,List.length_cons];omega
   rw[ih f (by omega) _ (by omega)]
   by_cases hf:t.length=f
   ·subst hf;rw[ih t.length (by omega) _ hl]
   ·rw[ih t.length (by omega) _ hl]
theorem cS:runesF []=[]:=rfl
theorem dB(s:Bs)(h:s≠ []):runesF s=((dec s 0).1:Int)::runesF (s.drop (dec s 0).2):=by
 have hl:0<s.length:=List.length_pos_iff.2 h
 have hd:=bc s 0 hl
 unfold runesF
 obtain⟨n,hn⟩:∃n,s.length=n+1:=⟨s.length-1,by omega⟩
 rw[hn,runesN,if_neg h,kz n _ (by simp only[List.length_drop];omega)]
theorem iG(s:Bs)(k:Nat)(h:k<s.length):runesF (s.drop k)=((dec s k).1:Int)::runesF (s.drop (k+(dec s k).2)):=by
 rw[dB _ (by intro e;have:=congrArg List.length e;simp at this;omega), ← dV,List.drop_drop]
theorem gD(s:Bs)(k:Nat)(h:s.length≤k):runesF (s.drop k)=[]:=by
 rw[List.drop_of_length_le h];rfl
theorem gE:∀(n:Nat) (s:Bs),s.length≤n→(runesF s).length≤s.length:=by
 intro n
 induction n with
 |zero=>intro s h;have:s=[]:=List.length_eq_zero_iff.1 (by omega);subst this;simp[cS]
 |succ n ih=>
  intro s h
  by_cases h0:s=[]
  ·subst h0;simp[cS]
  ·have hd:=bc s 0 (List.length_pos_iff.2 h0)
   rw[dB s h0]
   have:=ih (s.drop (dec s 0).2) (by simp only[List.length_drop];omega)
   simp only[List.length_drop]at this
   simp only[List.length_cons];omega
theorem kA:∀(n:Nat) (s:Bs),s.length≤n→∀c∈runesF s,Rune c:=by
 intro n
 induction n with
 |zero=>intro s h c hc;have:s=[]:=List.length_eq_zero_iff.1 (by omega);subst this;simp[cS]at hc
 |succ n ih=>
  intro s h c hc
  by_cases h0:s=[]
  ·subst h0;simp[cS]at hc
  ·have hl:=List.length_pos_iff.2 h0
   have hd:=bc s 0 hl
   rw[dB s h0]at hc
   rcases List.mem_cons.1 hc with rfl|hc
   ·exact jD s 0 hl
   ·exact ih _ (by simp only[List.length_drop];omega) c hc
def blankR(c:Int):Bool:=decide (c=9∨c=10∨c=13∨c=32∨c=160∨c=8232∨c=8233∨c=12288)
def ctlR(c:Int):Bool:=decide (c<32∨(127≤c∧c≤159))
def clnR:List Int→List Int→Bool→List Int
 | [],o,_=>o
 |c::t,o,w=>if blankR c then clnR t o (decide (0<o.length))else if ctlR c then clnR t o w else clnR t (o++(if w then [32,c]else [c])) false
def cleanR(s:Bs):List Int:=clnR (runesF s) [] false
def encs(l:List Int):Bs:=l.flatMap enc
def cleanF(s:Bs):Bs:=encs (cleanR s)
theorem pJ(r:Int):1≤(enc r).length:=by
 rw[pI];simp only[];repeat (first|split|simp)
theorem jE(l:List Int):(encs l).length≤4*l.length∧l.length≤(encs l).length:=by
 induction l with
 |nil=>simp[encs]
 |cons c t ih=>
  have h1:=fw c
  have h2:=pJ c
  simp only[encs,List.flatMap_cons,List.length_append,List.length_cons]at ih ⊢;omega
theorem dW:∀(l o:List Int) (w:Bool),(clnR l o w).length≤o.length+2*l.length
 | [],o,w=>by simp[clnR]
 |c::t,o,w=>by
  rw[clnR]
  by_cases hb:blankR c=true
  ·rw[if_pos hb];have:=dW t o (decide (0<o.length));simp only[List.length_cons];omega
  ·rw[if_neg hb]
   by_cases hk:ctlR c=true
   ·rw[if_pos hk];have:=dW t o w;simp only[List.length_cons];omega
   ·rw[if_neg hk]
    have:=dW t (o++(if w then [32,c]else [c])) false
    have hw:(if w then [32,c]else [c]:List Int).length≤2:=by split<;>simp
    simp only[List.length_append,List.length_cons]at this ⊢
    omega
theorem dm:∀(l o:List Int) (w:Bool),(∀c∈l,Rune c)→(∀c∈o,Rune c)→∀c∈clnR l o w,Rune c
 | [],o,w,_,h=>by simpa [clnR]using h
 |c::t,o,w,hl,ho=>by
  rw[clnR]
  have ht:∀x∈t,Rune x:=fun x hx=>hl x (by simp[hx])
  split
  ·exact dm t o _ ht ho
  ·split
   ·exact dm t o w ht ho
   ·refine dm t _ false ht ?_
    intro x hx
    rcases List.mem_append.1 hx with hx|hx
    ·exact ho x hx
    ·have h32:Rune 32:=⟨by decide,by decide⟩
     split at hx
     ·simp at hx;rcases hx with rfl|rfl
      ·exact h32
      ·exact hl _ (by simp)
     ·simp at hx;subst hx;exact hl _ (by simp)
theorem m6(s:Bs):(cleanR s).length≤2*s.length:=by
 have h1:=dW (runesF s) [] false
 have h2:=gE s.length s (Nat.le_refl _)
 simp only[List.length_nil]at h1
 unfold cleanR;omega
theorem bH(s:Bs):(cleanF s).length≤8*s.length:=by
 have h1:=m6 s
 have h2:=jE (cleanR s)
 unfold cleanF;omega
def cutN:Nat→Bs→Nat→Nat
 |0,_,_=>0
 |f+1,s,n=>if s=[]then 0 else if n<(dec s 0).2 then 0 else(dec s 0).2+cutN f (s.drop (dec s 0).2) (n-(dec s 0).2)
def cutF(s:Bs)(n:Nat):Bs:=s.take (cutN s.length s n)
end Go.Av
namespace Go.Av
open Go Go.Proofs Go.RowKit
attribute [local irreducible] WP WPl WPix Sat
variable (G:Nat→Option (List AVal))
theorem m7(c:Int)(h:Heap):Sat (CT G) 76 [.int .i32 c] h (fun r h'=>r=.bool (blankR c)∧h'=h):=by
 have yes:(c=9∨c=10∨c=13∨c=32∨c=160∨c=8232∨c=8233∨c=12288)→blankR c=true:=fun h=>decide_eq_true h
 have no:¬(c=9∨c=10∨c=13∨c=32∨c=160∨c=8232∨c=8233∨c=12288)→blankR c=false:=fun h=>decide_eq_false h
 refine sb [.tmp 2] (fn:=Tryz.f76) Tryz.func76 ?_
 intro Q hQ
 refine wk trivial ?_
 refine cq trivial (fun c0=>?_) (fun c0=>?_)<;>(try exact c0.elim)<;>(refine wk trivial ?_)
 ·refine cq trivial (fun d=>?_) (fun d=>?_)<;>(try exact d.elim)<;>(refine wk trivial ?_)
  ·refine ee hQ trivial ?_
   refine fR (.bool _) ?_
   rw[yes (by omega)]
  ·exfalso;omega
 refine cq trivial (fun c1=>?_) (fun c1=>?_)<;>(try exact c1.elim)<;>(refine wk trivial ?_)
 ·refine cq trivial (fun d=>?_) (fun d=>?_)<;>(try exact d.elim)<;>(refine wk trivial ?_)
  ·refine ee hQ trivial ?_
   refine fR (.bool _) ?_
   rw[yes (by omega)]
  ·exfalso;omega
 refine cq trivial (fun c2=>?_) (fun c2=>?_)<;>(try exact c2.elim)<;>(refine wk trivial ?_)
 ·refine cq trivial (fun d=>?_) (fun d=>?_)<;>(try exact d.elim)<;>(refine wk trivial ?_)
  ·refine ee hQ trivial ?_
   refine fR (.bool _) ?_
   rw[yes (by omega)]
  ·exfalso;omega
 refine cq trivial (fun c3=>?_) (fun c3=>?_)<;>(try exact c3.elim)<;>(refine wk trivial ?_)
 ·refine cq trivial (fun d=>?_) (fun d=>?_)<;>(try exact d.elim)<;>(refine wk trivial ?_)
  ·refine ee hQ trivial ?_
   refine fR (.bool _) ?_
   rw[yes (by omega)]
  ·exfalso;omega
 refine cq trivial (fun c4=>?_) (fun c4=>?_)<;>(try exact c4.elim)<;>(refine wk trivial ?_)
 ·refine cq trivial (fun d=>?_) (fun d=>?_)<;>(try exact d.elim)<;>(refine wk trivial ?_)
  ·refine ee hQ trivial ?_
   refine fR (.bool _) ?_
   rw[yes (by omega)]
  ·exfalso;omega
 refine cq trivial (fun c5=>?_) (fun c5=>?_)<;>(try exact c5.elim)<;>(refine wk trivial ?_)
 ·refine cq trivial (fun d=>?_) (fun d=>?_)<;>(try exact d.elim)<;>(refine wk trivial ?_)
  ·refine ee hQ trivial ?_
   refine fR (.bool _) ?_
   rw[yes (by omega)]
  ·exfalso;omega
 refine cq trivial (fun c6=>?_) (fun c6=>?_)<;>(try exact c6.elim)<;>(refine wk trivial ?_)
 ·refine cq trivial (fun d=>?_) (fun d=>?_)<;>(try exact d.elim)<;>(refine wk trivial ?_)
  ·refine ee hQ trivial ?_
   refine fR (.bool _) ?_
   rw[yes (by omega)]
  ·exfalso;omega
 refine cq trivial (fun d=>?_) (fun d=>?_)<;>(try exact d.elim)<;>(refine wk trivial ?_)
 ·refine ee hQ trivial ?_
  refine fR (.bool _) ?_
  rw[yes (by omega)]
 ·refine ee hQ trivial ?_
  refine fR (.bool _) ?_
  rw[no (by omega)]
theorem jF(c:Int)(h:Heap):Sat (CT G) 78 [.int .i32 c] h (fun r h'=>r=.bool (ctlR c)∧h'=h):=by
 refine sb [.tmp 2] (fn:=Tryz.f78) Tryz.func78 ?_
 intro Q hQ
 refine wk trivial ?_
 (first|refine gq trivial (fun g1=>?_) (fun g1=>?_)|refine pq trivial (fun g1=>?_) (fun g1=>?_))<;>(try exact g1.elim)<;>(try refine sq trivial ?_)<;>(refine wk trivial ?_)
 ·refine ee hQ trivial ?_
  refine fR (.bool _) ?_
  rw[show ctlR c=true from decide_eq_true (.inl g1)]
 ·(first|refine gq trivial (fun g2=>?_) (fun g2=>?_)|refine pq trivial (fun g2=>?_) (fun g2=>?_))<;>(try exact g2.elim)<;>(try refine sq trivial ?_)<;>(refine wk trivial ?_)
  ·refine ee hQ trivial ?_
   refine fR (.bool _) ?_
   unfold ctlR
   congr 1
   rw[Bool.eq_iff_iff];simp;omega
  ·refine ee hQ trivial ?_
   refine fR (.bool _) ?_
   rw[show ctlR c=false from decide_eq_false (by omega)]
theorem oL(h j:Heap)(a:AVal)(v:Nat)(o s:Bs)(q:Nat):(bldH h (Blk.iter s q::j) a v o)[h.length+2]? =some (.iter s q):=by
 unfold bldH;rw[List.getElem?_append_right (by omega),show h.length+2-h.length=2 by omega];rfl
theorem oM(h j:Heap)(a:AVal)(v:Nat)(o:Bs)(x y:Blk):(bldH h (x::j) a v o).set (h.length+2) y=bldH h (y::j) a v o:=by
 unfold bldH;rw[List.set_append_right _ _ (by omega),show h.length+2-h.length=2 by omega];rfl
theorem cT(s:Bs)(hs:s.length≤100000000)(h:Heap):Sat (CT G) 44 [.str s] h (fun r h'=>r=.str (cleanF s)∧h'=h):=by
 have F:= @oM
 refine sb [.tmp 2] (fn:=Tryz.f44) Tryz.func44 ?_
 intro Q hQ
 (repeat (first|refine w1 (fun K hK=>?_)|refine w2 ?_|refine w3 ?_| ((first|refine w4 ?_|refine wD ?_|refine w5 ?_|refine w6 ?_|refine w7 ?_);try refine sq F ?_)| (refine w8 ?_;refine sq F ?_;refine w9 ?_)))
 refine hK _ _ (Wkn.refl ?_)
 clear hK K
 (repeat (first|refine w1 (fun K hK=>?_)|refine w2 ?_|refine w3 ?_| ((first|refine w4 ?_|refine wD ?_|refine w5 ?_|refine w6 ?_|refine w7 ?_);try refine sq F ?_)| (refine w8 ?_;refine sq F ?_;refine w9 ?_)))
 refine hK _ _ ⟨_,_,Weak.virtCell (p:=h.length) (v:=0) 5 1 (by omega) (by simp(disch:=first|omega| (simp only[go_sem, ↓reduceIte,seval];first|done|omega)|fail) only[go_sem, ↓reduceIte,seval,F];rfl) 1 rfl,?_⟩
 clear hK K
 refine wk F ?_
 refine lm (fun nL tL hL=>∃(a:AVal) (v k:Nat) (out:List Int) (w:Bool),s.length-k=nL∧bldH h [.iter s k] a v (encs out)=hL∧tL 4=.bool w∧bldA a h.length∧k≤s.length∧clnR (runesF (s.drop k)) out w=cleanR s∧(encs out).length+8*(s.length-k)≤8*s.length) ((fun(a:AVal) (v k:Nat) (out:List Int) (w:Bool)=>(s.length-k:Nat)) ((.nil (.pointer none))) (0) (0) ([]) (false)) ?_ ?_
 ·refine Wkn.refl ⟨(.nil (.pointer none)),0,0,[],false,rfl,by simp[bldH,bldR,bufR,encs],?_,.inl rfl,by omega,rfl,by simp[encs]⟩
  all_goals first|exact zq F|rfl|omega|trivial|skip
 rintro _ s2 h' ⟨a,v,k,out,w,rfl,rfl,e4,ha,hk,hv,hl⟩ K2 hK2
 simp only[ak,ao,Nat.reduceEqDiff, ↓reduceIte]at e4
 have F:=F2 F e4
 refine wk F ?_
 refine dN (oL _ _ _ _ _ _ _) (fun hlt=>?_) (fun hge=>?_)
 ·have hR:=jD s k hlt
  have hp:=bc s k hlt
  rw[iG s k hlt,clnR]at hv
  rw[show Utf8.decode ⟨s.toArray⟩ k=dec s k from rfl]
  generalize dec s k=d at*
  obtain⟨c,m⟩:=d
  simp only[]at hR hp hv ⊢
  try refine sq F ?_
  refine wk F ?_
  refine kq F (m7 G c _) ?_
  refine cq F (fun c1=>?_) (fun c1=>?_)<;>(try exact c1.elim)<;>(refine wk F ?_)
  ·rw[if_pos c1]at hv
   refine kq F (pH G a h [.iter s (k+m)] v (encs out)) ?_
   have ho:decide (((encs out).length:Int)>0)=decide (0<out.length):=by
    have:=jE out
    rw[Bool.eq_iff_iff];simp only[decide_eq_true_eq];omega
   have F:=F2 F ho
   try refine sq F ?_
   refine hK2 _ _ _ (Wkn.refl ⟨a,v,k+m,out,decide (0<out.length),rfl,ay,?_,ha,by omega,hv,by omega⟩) (by omega)
   all_goals first|exact zq F|rfl|omega|trivial|skip
  ·rw[if_neg (by simp[c1])]at hv
   refine kq F (jF G c _) ?_
   refine cq F (fun c2=>?_) (fun c2=>?_)<;>(try exact c2.elim)<;>(refine wk F ?_)
   ·rw[if_pos c2]at hv
    refine hK2 _ _ _ (Wkn.refl ⟨a,v,k+m,out,w,rfl,ay,?_,ha,by omega,hv,by omega⟩) (by omega)
    all_goals first|exact zq F|rfl|omega|trivial|skip
   ·rw[if_neg (by simp[c2])]at hv
    have he:=fw c
    have e1:encs (out++[32,(c:Int)])=encs out++[32]++enc c:=by
     simp only[encs,List.flatMap_append,List.flatMap_cons,List.flatMap_nil,List.append_nil,List.append_assoc];rfl
    have e2:encs (out++[(c:Int)])=encs out++enc c:=by
     simp only[encs,List.flatMap_append,List.flatMap_cons,List.flatMap_nil,List.append_nil]
    refine cq F (fun c3=>?_) (fun c3=>?_)<;>(try exact c3.elim)<;>(refine wk F ?_)
    ·rw[if_pos c3]at hv
     refine kq F (j2 G a h [.iter s (k+m)] v (encs out) 32 ha (by omega)) ?_
     refine kq F (eF G (.hp h.length 0 0 0) c hR h [.iter s (k+m)] (v+1) (encs out++[32]) (.inr rfl) (by simp only[List.length_append,List.length_cons,List.length_nil];omega)) ?_
     refine hK2 _ _ _ (Wkn.refl ⟨(.hp h.length 0 0 0),v+1+1,k+m,out++[32,(c:Int)],false,rfl,by rw[e1];simp,?_,.inr rfl,by omega,hv,by rw[e1];simp only[List.length_append,List.length_cons,List.length_nil];omega⟩) (by omega)
     all_goals first|exact zq F|rfl|omega|trivial|skip
    ·rw[if_neg (by simp[c3])]at hv
     refine kq F (eF G a c hR h [.iter s (k+m)] v (encs out) ha (by omega)) ?_
     refine hK2 _ _ _ (Wkn.refl ⟨(.hp h.length 0 0 0),v+1,k+m,out++[(c:Int)],false,rfl,by rw[e2],?_,.inr rfl,by omega,hv,by rw[e2];simp only[List.length_append];omega⟩) (by omega)
     all_goals first|exact zq F|rfl|omega|trivial|skip
 ·rw[gD s k (by omega)]at hv
  try refine sq F ?_
  refine wk F ?_
  refine(lU G a h [.iter s k] v (encs out)).mono ?_
  rintro r h' ⟨rfl,b2,rfl⟩
  try refine sq F ?_
  refine wk F ?_
  refine ee hQ F ?_
  exact Fin.plainE (j:=[bldR a (h.length+1) v (encs out),b2,.iter s k]) (by simp) (.str _) ⟨congrArg AVal.str (by unfold cleanF;rw[← hv];rfl),rfl⟩
theorem ng:∀(f:Nat) (s:Bs) (n:Nat),s.length≤f→cutN f s n=cutN s.length s n:=by
 intro f
 induction f using Nat.strongRecOn with
 |ind f ih=>
  intro s n hs
  cases s with
  |nil=>cases f<;>rfl
  |cons b t=>
   obtain⟨f,rfl⟩:∃g,f=g+1:=⟨f-1,by simp at hs;omega⟩
   have hd:=bc (b::t) 0 (by simp)
   simp only[List.length_cons]at hs hd ⊢
   have hl:((b::t).drop (dec (b::t) 0).2).length≤t.length:=by simp only[List.length_drop,List.length_cons];omega
   rw[cutN,cutN,if_neg (show ¬(b::t)=[] by simp),if_neg (show ¬(b::t)=[] by simp),ih f (by omega) _ _ (by omega),ih t.length (by omega) _ _ hl]
def cutA(s:Bs)(k n:Nat):Nat:=cutN (s.drop k).length (s.drop k) n
theorem dc(s:Bs)(k n:Nat)(h:s.length≤k):cutA s k n=0:=by unfold cutA;rw[List.drop_of_length_le h];rfl
theorem fB(s:Bs)(k n:Nat)(h:k<s.length):cutA s k n=if n<(dec s k).2 then 0 else(dec s k).2+cutA s (k+(dec s k).2) (n-(dec s k).2):=by
 have hd:=bc s k h
 have hl:(s.drop k).length=(s.length-k-1)+1:=by rw[List.length_drop];omega
 unfold cutA
 rw[hl,cutN,if_neg (by intro e;rw[e]at hl;simp at hl), ← dV,List.drop_drop,ng (s.length-k-1) _ _ (by simp only[List.length_drop];omega)]
theorem pK(s:Bs):∀(f k n:Nat),s.length≤k+f→cutA s k n≤n∧cutA s k n≤s.length-k:=by
 intro f
 induction f with
 |zero=>intro k n h;rw[dc s k n (by omega)];omega
 |succ f ih=>
  intro k n h
  rcases Nat.lt_or_ge k s.length with h1|h1
  ·have hd:=bc s k h1
   rw[fB s k n h1]
   split
   ·omega
   ·have:=ih (k+(dec s k).2) (n-(dec s k).2) (by omega)
    omega
  ·rw[dc s k n h1];omega
theorem oN(s:Bs):∀(f k n:Nat),s.length≤k+f→s.length-k≤n→cutA s k n=s.length-k:=by
 intro f
 induction f with
 |zero=>intro k n h _;rw[dc s k n (by omega)];omega
 |succ f ih=>
  intro k n h hn
  rcases Nat.lt_or_ge k s.length with h1|h1
  ·have hd:=bc s k h1
   rw[fB s k n h1,if_neg (by omega),ih _ _ (by omega) (by omega)];omega
  ·rw[dc s k n h1];omega
theorem oO(s:Bs)(n:Nat)(hs:s.length≤1073741824)(hn:n≤1073741824)(h:Heap):Sat (CT G) 83 [.str s,.int .i64 n] h (fun r h'=>r=.str (cutF s n)∧h'=h):=by
 skip
 refine sb [.tmp 4] (fn:=Tryz.f83) Tryz.func83 ?_
 intro Q hQ
 (repeat (first|refine w1 (fun K hK=>?_)|refine w2 ?_|refine w3 ?_| ((first|refine w4 ?_|refine wD ?_|refine w5 ?_|refine w6 ?_|refine w7 ?_);try refine sq trivial ?_)| (refine w8 ?_;refine sq trivial ?_;refine w9 ?_)| ((first|refine hK _ _ (w0 ?_)| (clear hK K;refine hK _ _ (w0 ?_))| (clear hK K;clear hK K;refine hK _ _ (w0 ?_)));clear hK K)))
 have tail:∀(t':Env) (e pos:Nat),t' 0=.str s→t' 1=.int .i64 n→t' 5=.int .i64 e→e≤s.length→(n<s.length→e=cutN s.length s n)→K t' (h++[.iter s pos]):=by
  intro t' e pos e0 e1 e5 he hx
  refine hK _ _ (Wkn.refl ?_)
  clear hK K
  have F:=F3 e0 e1 e5
  (repeat (first|refine w1 (fun K hK=>?_)|refine w2 ?_|refine w3 ?_| ((first|refine w4 ?_|refine wD ?_|refine w5 ?_|refine w6 ?_|refine w7 ?_);try refine sq F ?_)| (refine w8 ?_;refine sq F ?_;refine w9 ?_)| ((first|refine hK _ _ (w0 ?_)| (clear hK K;refine hK _ _ (w0 ?_))| (clear hK K;clear hK K;refine hK _ _ (w0 ?_)));clear hK K)))
  refine cq F (fun c1=>?_) (fun c1=>?_)<;>(try exact c1.elim)<;>((repeat (first|refine w1 (fun K hK=>?_)|refine w2 ?_|refine w3 ?_| ((first|refine w4 ?_|refine wD ?_|refine w5 ?_|refine w6 ?_|refine w7 ?_);try refine sq F ?_)| (refine w8 ?_;refine sq F ?_;refine w9 ?_)| ((first|refine hK _ _ (w0 ?_)| (clear hK K;refine hK _ _ (w0 ?_))| (clear hK K;clear hK K;refine hK _ _ (w0 ?_)));clear hK K))))
  ·refine ee hQ F ?_
   refine fR (.str _) ?_
   have:=oN s s.length 0 n (by omega) (by omega)
   unfold cutA at this;simp only[List.drop_zero]at this
   unfold cutF;rw[this];simp
  ·refine ee hQ F ?_
   refine fR (.str _) ?_
   unfold cutF;rw[hx (by omega)]
 refine lm (fun nL tL hL=>∃(en k:Nat),s.length-k=nL∧h++[.iter s k]=hL∧tL 5=.int .i64 en∧k≤s.length∧en≤k∧(k≤n→k+cutA s k (n-k)=cutN s.length s n)∧(n<k→en=cutN s.length s n)) ((fun(en k:Nat)=>(s.length-k:Nat)) (0) (0)) ?_ ?_
 ·refine Wkn.refl ⟨0,0,rfl,ay,?_,by omega,by omega,fun _=>by unfold cutA;simp,fun h=>by omega⟩
  all_goals first|exact zq trivial|rfl|omega|trivial|skip
 rintro _ s2 h' ⟨en,k,rfl,rfl,e5,hk,he,hc,hc2⟩ K2 hK2
 simp only[ak,ao,Nat.reduceEqDiff, ↓reduceIte]at e5
 have F:=e5
 (repeat (first|refine w1 (fun K hK=>?_)|refine w2 ?_|refine w3 ?_| ((first|refine w4 ?_|refine wD ?_|refine w5 ?_|refine w6 ?_|refine w7 ?_);try refine sq F ?_)| (refine w8 ?_;refine sq F ?_;refine w9 ?_)| ((first|refine hK _ _ (w0 ?_)| (clear hK K;refine hK _ _ (w0 ?_))| (clear hK K;clear hK K;refine hK _ _ (w0 ?_)));clear hK K)))
 refine dN (i8 _ _ _ _) (fun hlt=>?_) (fun hge=>?_)
 ·have hp:=bc s k hlt
  have hca:=fB s k (n-k) hlt
  rw[show Utf8.decode ⟨s.toArray⟩ k=dec s k from rfl]
  generalize dec s k=d at*
  obtain⟨c,m⟩:=d
  simp only[]at hp hca ⊢
  try refine sq F ?_
  (repeat (first|refine w1 (fun K hK=>?_)|refine w2 ?_|refine w3 ?_| ((first|refine w4 ?_|refine wD ?_|refine w5 ?_|refine w6 ?_|refine w7 ?_);try refine sq F ?_)| (refine w8 ?_;refine sq F ?_;refine w9 ?_)| ((first|refine hK _ _ (w0 ?_)| (clear hK K;refine hK _ _ (w0 ?_))| (clear hK K;clear hK K;refine hK _ _ (w0 ?_)));clear hK K)))
  refine cq F (fun c1=>?_) (fun c1=>?_)<;>(try exact c1.elim)<;>((repeat (first|refine w1 (fun K hK=>?_)|refine w2 ?_|refine w3 ?_| ((first|refine w4 ?_|refine wD ?_|refine w5 ?_|refine w6 ?_|refine w7 ?_);try refine sq F ?_)| (refine w8 ?_;refine sq F ?_;refine w9 ?_)| ((first|refine hK _ _ (w0 ?_)| (clear hK K;refine hK _ _ (w0 ?_))| (clear hK K;clear hK K;refine hK _ _ (w0 ?_)));clear hK K))))
  ·refine tail _ en (k+m) ?_ ?_ ?_ (by omega) (fun _=>hc2 (by omega))
   ·exact zq F
   ·exact zq F
   ·exact zq F
  ·have hc':=hc (by omega)
   rw[hca]at hc'
   refine hK2 _ _ _ (Wkn.refl ⟨k,k+m,rfl,ay,?_,by omega,by omega,fun hle=>by rw[if_neg (by omega)]at hc';rw[← hc',show n-(k+m)=n-k-m by omega];omega,fun hgt=>by rw[if_pos (by omega)]at hc';omega⟩) (by omega)
   all_goals first|exact zq F|rfl|omega|trivial|skip
 ·try refine sq F ?_
  (repeat (first|refine w1 (fun K hK=>?_)|refine w2 ?_|refine w3 ?_| ((first|refine w4 ?_|refine wD ?_|refine w5 ?_|refine w6 ?_|refine w7 ?_);try refine sq F ?_)| (refine w8 ?_;refine sq F ?_;refine w9 ?_)| ((first|refine hK _ _ (w0 ?_)| (clear hK K;refine hK _ _ (w0 ?_))| (clear hK K;clear hK K;refine hK _ _ (w0 ?_)));clear hK K)))
  refine tail _ en k ?_ ?_ ?_ (by omega) (fun _=>hc2 (by omega))
  ·exact zq F
  ·exact zq F
  ·exact zq F
end Go.Av
namespace Go.Av
open Go Go.Proofs Go.RowKit
attribute [local irreducible] WP WPl WPix Sat
variable (G:Nat→Option (List AVal))
def shortAt(s:List UInt8):Nat→List UInt8
 |0=>s
 |k+1=>if s[k]? =some 58 then s.drop (k+1)else shortAt s k
def short(s:List UInt8):List UInt8:=shortAt s s.length
theorem kX{b:UInt8}{k:Nat}(hk:k<256):((b.toNat:Int)=(k:Nat))↔b=UInt8.ofNat k:=by
 constructor
 ·intro h
  have:b.toNat=k:=by omega
  rw[← this];simp
 ·rintro rfl;simp[Nat.mod_eq_of_lt hk]
theorem fa(s:List UInt8)(hs:s.length≤1048576)(h:Heap):Sat (CT G) 54 [.str s] h (fun r h'=>r=.str (short s)∧h'=h):=by
 refine sb [.tmp 2] (fn:=Tryz.f54) Tryz.func54 ?_
 intro Q hQ
 refine am trivial ?_
 refine lm (fun nL tL hL=>∃(k:Nat),k=nL∧h=hL∧tL 3=.int .i64 ((k:Int)-1)∧k≤s.length∧short s=shortAt s k) ((fun(k:Nat)=>(k:Nat)) (s.length)) ?_ ?_
 ·refine Wkn.refl ⟨s.length,rfl,ay,?_,Nat.le_refl _,rfl⟩
  all_goals first|exact aZ trivial|rfl|omega|trivial|skip
 rintro _ s2 h' ⟨k,rfl,rfl,e3,hk,hi⟩ K2 hK2
 simp only[ak,ao,Nat.reduceEqDiff, ↓reduceIte]at e3
 have F:=e3
 refine am F ?_
 refine bI F (fun hc=>?_) (fun hc=>?_)<;>(try exact hc.elim)
 ·obtain⟨m,rfl⟩:∃m,k=m+1:=⟨k-1,by omega⟩
  have e3:s2 3=.int .i64 (m:Int):=by rw[e3];congr;omega
  obtain⟨b,hb,_⟩:=af (show m<s.length by omega)
  have F:=F2 e3 hb
  refine am F ?_
  refine bI F (fun hc=>?_) (fun hc=>?_)<;>(try exact hc.elim)<;>(refine am F ?_)
  ·refine bi hQ F ?_
   refine fR (.str _) ?_
   rw[hi,shortAt,if_pos]
   ·rw[hb,(kX (k:=58) (by omega)).1 hc];rfl
  ·refine hK2 _ _ _ (Wkn.refl ⟨m,rfl,ay,?_,by omega,?_⟩) (by omega)
   all_goals first|exact aZ F|rfl|omega|trivial|skip
   rw[hi,shortAt,if_neg];rw[hb];intro e;cases e;exact hc rfl
 ·refine am F ?_
  refine bi hQ F ?_
  refine fR (.str _) ?_
  have:k=0:=(by omega);subst this
  rw[hi];rfl
end Go.Av
namespace Go.Av
open Go Go.Proofs Go.RowKit
attribute [local irreducible] WP WPl WPix Sat
variable (G:Nat→Option (List AVal))
def attrF:List At→Bs→Bs×Bool
 | [],_=>([],false)
 |a::l,n=>if a.1=n then(a.2,true)else attrF l n
theorem jG(e:Elem)(n:Bs)(hs:e.sz≤1048576)(h:Heap):Sat (CT G) 90 [e.av,.str n] h (fun r h'=>r=.tup [.str (attrF e.attrs n).1,.bool (attrF e.attrs n).2]∧h'=h):=by
 have hal:=e.attrs_len
 refine sb [.tmp 4,.tmp 5] (fn:=Tryz.f90) Tryz.func90 ?_
 intro Q hQ
 refine am trivial ?_
 refine lm (fun nL tL hL=>∃(k:Nat),e.attrs.length-k=nL∧h++[.row 35 4 0 [e.av]]=hL∧tL 6=.int .i64 k∧k≤e.attrs.length∧attrF e.attrs n=attrF (e.attrs.drop k) n) ((fun(k:Nat)=>(e.attrs.length-k:Nat)) (0)) ?_ ?_
 ·refine Wkn.refl ⟨0,rfl,ay,?_,?_,?_⟩
  all_goals first|exact aZ trivial|rfl|omega|trivial|skip
 rintro _ s2 h' ⟨k,rfl,rfl,e6,hk,hp⟩ K2 hK2
 simp only[ak,ao,Nat.reduceEqDiff, ↓reduceIte]at e6
 have F:=e6
 refine am F ?_
 refine bI F (fun hc=>?_) (fun hc=>?_)<;>(try exact hc.elim)
 ·obtain⟨x,hx,_⟩:=af hc
  rw[aD hx,attrF]at hp
  have F:=F2 F hx
  refine am F ?_
  refine bI F (fun hc=>?_) (fun hc=>?_)<;>(try exact hc.elim)<;>(refine am F ?_)
  ·refine bi hQ F ?_
   refine fR (.tup _ (by simp[Clo.str,Clo.bool])) ?_
   rw[hp,if_pos hc]
  ·refine hK2 _ _ _ (Wkn.refl ⟨k+1,rfl,ay,?_,by omega,?_⟩) (by omega)
   all_goals first|exact aZ F|rfl|omega|trivial|skip
   rw[hp,if_neg hc]
 ·refine am F ?_
  refine bi hQ F ?_
  refine fR (.tup _ (by simp[Clo.str,Clo.bool])) ?_
  rw[hp,aY hc];rfl
end Go.Av
namespace Go.Av
open Go Go.Proofs Go.RowKit
attribute [local irreducible] WP WPl WPix Sat
variable (G:Nat→Option (List AVal))
mutual
def deep:Elem→Nat→Nat
 | .mk _ _ _ k,d=>if 40≤d then 40 else deepL k d d
def deepL:List Elem→Nat→Nat→Nat
 | [],_,n=>n
 |k::l,d,n=>deepL l d (if n<deep k (d+1)then deep k (d+1)else n)
end
end Go.Av
namespace Go.Av
open Go Go.Proofs Go.RowKit
attribute [local irreducible] WP WPl WPix Sat
variable (G:Nat→Option (List AVal))
theorem oP{h0 h1 pre post:Heap}{e n v q:Nat}{rows:List AVal}(hh:h1=pre++ .row e n v rows::post)(hq:q=pre.length)(hp:h0.length≤q)(hc:∀r∈rows,Clo h0.length r)(hs:∀r∈rows,∀c∈r.cells,c.sto=true):
  Frz h1 h0.length (.hs q v 0 rows.length true) (.sl n rows):=by
 subst hh;subst hq
 have:=Frz.hs (h:=pre++ .row e n v rows::post) (n:=h0.length) pre.length v 0 rows.length true e n rows rows hp (by simp[getRow]) (by simp) rfl
   (fun i r s hr hs'=>by rw[hr]at hs';cases hs';exact .clo _ (hc r (List.mem_of_getElem? hr)))
   (fun i r s hr hs'=>by rw[hr]at hs';cases hs';exact⟨rfl,fun j c d hj hd=>hs r (List.mem_of_getElem? hr) d (List.mem_of_getElem? hd)⟩)
   (fun i r s j c d hr hs' hj hd=>by rw[hr]at hs';cases hs';rw[hj]at hd;cases hd;exact .clo _ ((hc r (List.mem_of_getElem? hr)).cells c (List.mem_of_getElem? hj)))
 simpa using this
theorem Elem.av_sto(e:Elem):∀c∈e.av.cells,c.sto=true:=by
 rw[Elem.av_cells];intro c hc;simp only[List.mem_cons,List.mem_nil_iff,or_false]at hc;rcases hc with rfl|rfl|rfl|rfl<;>rfl
theorem iH{h0 h1 pre post:Heap}{e v q:Nat}(l:List Elem)(hh:h1=pre++ .row e 4 v (l.map Elem.av)::post)(hq:q=pre.length)(hp:h0.length≤q):Frz h1 h0.length (.hs q v 0 l.length true) (.sl 4 (l.map Elem.av)):=by
 have:=oP (h0:=h0) hh hq hp (fun r hr=>by obtain⟨a,_,rfl⟩:=List.mem_map.1 hr;exact Elem.clo _ a) (fun r hr=>by obtain⟨a,_,rfl⟩:=List.mem_map.1 hr;exact a.av_sto)
 simpa using this
def kidsF(e:Elem)(n:Bs):List Elem:=e.kids.filter fun k=>decide (short k.name=n)
theorem dX(e:Elem)(n:Bs)(hs:e.sz≤1048576)(h:Heap):Sat (CT G) 56 [e.av,.str n] h (fun r h'=>r=.sl 4 ((kidsF e n).map Elem.av)∧h'=h):=by
 have hkl:=e.kids_len
 refine sb [.tmp 4] (fn:=Tryz.f56) Tryz.func56 ?_
 intro Q hQ
 refine am trivial ?_
 refine lm (fun nL tL hL=>∃(k v:Nat) (acc:List Elem),e.kids.length-k=nL∧h++[.row 35 4 0 [e.av],.row 35 4 v (acc.map Elem.av)]=hL∧tL 5=.hs (h.length+1) v 0 acc.length true∧tL 6=.int .i64 k∧k≤e.kids.length∧acc.length≤k∧acc++(e.kids.drop k).filter (fun k=>decide (short k.name=n))=kidsF e n) ((fun(k v:Nat) (acc:List Elem)=>(e.kids.length-k:Nat)) (0) (0) ([])) ?_ ?_
 ·refine⟨_,_,Weak.virt 5 35 4 (by simp) (by omega) (by exact aZ trivial),⟨0,0,[],rfl,ay,?_,?_,?_,?_,?_⟩⟩
  all_goals first|exact aZ trivial|rfl|omega|trivial|skip
 rintro _ s2 h' ⟨k,v,acc,rfl,rfl,e5,e6,hk,hl,hp⟩ K2 hK2
 simp only[ak,ao,Nat.reduceEqDiff, ↓reduceIte]at e5 e6
 have F:=F2 e5 e6
 refine am F ?_
 refine bI F (fun hc=>?_) (fun hc=>?_)<;>(try exact hc.elim)
 ·obtain⟨y,hy,hym⟩:=af hc
  have:=Elem.kid_sz hym
  have:=y.name_len
  rw[aD hy,List.filter_cons]at hp
  have F:=F2 F hy
  refine am F ?_
  refine eA F (fa G y.name (by omega) _) ?_
  refine bI F (fun hc=>?_) (fun hc=>?_)<;>(try exact hc.elim)<;>(refine am F ?_)
  ·refine uc F ?_
   try refine bB F ?_
   refine am F ?_
   refine hK2 _ _ _ (Wkn.refl ⟨k+1,v+1,acc++[y],rfl,ay,?_,?_,by omega,by simp;omega,by rw[if_pos (by simp[hc])]at hp;rw[← hp];simp⟩) (by omega)
   all_goals first|exact aZ F|rfl|omega|trivial|skip
  ·refine hK2 _ _ _ (Wkn.refl ⟨k+1,v,acc,rfl,ay,?_,?_,by omega,by omega,by rw[if_neg (by simp[hc])]at hp;exact hp⟩) (by omega)
   all_goals first|exact aZ F|rfl|omega|trivial|skip
 ·refine am F ?_
  refine bi hQ F ?_
  rw[aY hc,List.filter_nil,List.append_nil]at hp
  subst hp
  exact Fin.frz (iH (pre:=h++[.row 35 4 0 [e.av]]) (post:=[]) _ (by simp;rfl) (by simp) (by omega)) ⟨rfl,rfl⟩
end Go.Av
namespace Go.Av
open Go Go.Proofs Go.RowKit
inductive Outl where
 |mk (title url:Bs) (kids:List Outl)
 deriving Inhabited
namespace Outl
def title:Outl→Bs| .mk t _ _=>t
def kids:Outl→List Outl| .mk _ _ k=>k
end Outl
mutual
def Outl.av:Outl→AVal
 | .mk t u k=>.agg [.str t,.str u,.sl 3 (ovs k)]
def ovs:List Outl→List AVal
 | []=>[]
 |e::l=>e.av::ovs l
end
mutual
def Outl.sz:Outl→Nat
 | .mk t u k=>1+t.length+u.length+okidsz k
def okidsz:List Outl→Nat
 | []=>0
 |e::l=>e.sz+okidsz l
end
end Go.Av
namespace Go.Av
open Go Go.Proofs Go.RowKit
attribute [local irreducible] WP WPl WPix Sat
variable (G:Nat→Option (List AVal))
end Go.Av
namespace Go.Av
open Go.RowKit
section
variable {C:Ctx} {t:Env} {h:Heap}
def detGo(md:Region.Mode)(ops:Array Oper):Nat→Array Bool→Option (List Nat)
 |0,_=>some []
 |f+1,L=>match Region.ready md ops L with
  | [i]=>(detGo md ops f (L.setIfInBounds i true)).map (i:: ·)
  |_=>none
theorem jH{ops:Array Oper}{Q:Exit→Env→Heap→Prop}{md:Region.Mode}:∀(f:Nat) (L:Array Bool) (idx:List Nat) (sub:List Oper) (t:Env) (h:Heap),detGo md ops f L=some idx→idx.map (fun i=>ops[i]?)=sub.map some→
  WPl C ops Q sub t h→RestM C ops Q md f L t h:=by
 intro f
 induction f with
 |zero=>
  intro L idx sub t h hd hs g n
  simp only[detGo,Option.some.injEq]at hd
  subst hd
  have:sub=[]:=by simpa using hs.symm
  subst this
  simp only[Region.linearise.go,List.reverse_nil,WPix]
  exact g
 |succ f ih=>
  intro L idx sub t h hd hs g n
  simp only[detGo]at hd
  split at hd
  ·rename_i i hr
   obtain⟨idx',hd',rfl⟩:=Option.map_eq_some_iff.1 hd
   cases sub with
   |nil=>simp at hs
   |cons o sub=>
    simp only[List.map_cons,List.cons.injEq]at hs
    have hi:(Region.ready md ops L)[n%(Region.ready md ops L).length]? =some i:=by
     rw[hr,List.length_singleton,Nat.mod_one];rfl
    rw[bQ md ops f n L hi]
    simp only[WPix,hs.1]
    simp only[WPl]at g
    exact cy g fun t' h' g'=>ih _ idx' sub t' h' hd' hs.2 g' _
  ·cases hd
theorem jI{l:List Oper}{k n:Nat}(h:k+n≤l.length):(List.range' k n).map (fun i=>l.toArray[i]?)=((l.drop k).take n).map some:=by
 refine List.ext_getElem? fun i=>?_
 simp only[List.getElem?_map]
 by_cases hi:i<n
 ·rw[List.getElem?_take_of_lt hi,List.getElem?_drop,List.getElem?_range' (by omega)]
  simp only[Option.map_some,List.getElem?_toArray]
  have:k+i<l.length:=by omega
  simp[List.getElem?_eq_getElem this]
 ·rw[List.getElem?_eq_none (by simp;omega),List.getElem?_eq_none (by simp;omega)];rfl
inductive OT where
 |nil
 |one (i:Nat) (s:OT)
 |two (i:Nat) (s:OT) (j:Nat) (u:OT)
def OT.ok(ops:Array Oper):Nat→Array Bool→OT→Bool
 |0,_,.nil=>true
 |f+1,L,.one i s=>Region.ready .any ops L==[i]&&OT.ok ops f (L.setIfInBounds i true) s
 |f+1,L,.two i s j u=>Region.ready .any ops L==[i,j]&&(OT.ok ops f (L.setIfInBounds i true) s&&OT.ok ops f (L.setIfInBounds j true) u)
 |_,_,_=>false
def WPt(C:Ctx)(ops:Array Oper)(Q:Exit→Env→Heap→Prop):OT→Env→Heap→Prop
 | .nil,t,h=>Q .normal t h
 | .one i s,t,h=>WPl C ops (fun _ t' h'=>WPt C ops Q s t' h') (ops[i]?).toList t h
 | .two i s j u,t,h=>WPl C ops (fun _ t' h'=>WPt C ops Q s t' h') (ops[i]?).toList t h∧WPl C ops (fun _ t' h'=>WPt C ops Q u t' h') (ops[j]?).toList t h
theorem OT.sound{ops:Array Oper}{Q:Exit→Env→Heap→Prop}:∀(f:Nat) (L:Array Bool) (tr:OT) (t:Env) (h:Heap),OT.ok ops f L tr=true→WPt C ops Q tr t h→RestM C ops Q .any f L t h:=by
 intro f
 induction f with
 |zero=>
  intro L tr t h ho g n
  cases tr with
  |nil=>simp only[Region.linearise.go,List.reverse_nil,WPix];exact g
  |_=>simp[OT.ok]at ho
 |succ f ih=>
  intro L tr t h ho g n
  have step:∀(i:Nat) (s:OT),(Region.ready .any ops L)[n%(Region.ready .any ops L).length]? =some i→OT.ok ops f (L.setIfInBounds i true) s=true→WPl C ops (fun _ t' h'=>WPt C ops Q s t' h') (ops[i]?).toList t h→
    WPix C ops Q (Region.linearise.go .any ops (f+1) n L []) t h:=fun i s hi hs hg=>by
   rw[bQ .any ops f n L hi]
   simp only[WPix]
   have hmem:=List.mem_of_getElem? hi
   obtain⟨_,o,ho,_⟩:=mem_ready.1 hmem
   simp only[ho,Option.toList]at hg ⊢
   simp only[WPl]at hg
   exact cy hg fun t' h' g'=>ih _ s t' h' hs g' _
  cases tr with
  |nil=>simp[OT.ok]at ho
  |one i s=>
   simp only[OT.ok,Bool.and_eq_true,beq_iff_eq]at ho
   exact step i s (by rw[ho.1,List.length_singleton,Nat.mod_one];rfl) ho.2 g
  |two i s j u=>
   simp only[OT.ok,Bool.and_eq_true,beq_iff_eq]at ho
   have hn:n%2=0∨n%2=1:=by omega
   rcases hn with hn|hn
   ·exact step i s (by rw[ho.1];show [i,j][n%2]? =_;rw[hn];rfl) ho.2.1 g.1
   ·exact step j u (by rw[ho.1];show [i,j][n%2]? =_;rw[hn];rfl) ho.2.2 g.2
theorem dY{id:Nat}{l:List Oper}{Q:Exit→Env→Heap→Prop}(k:Nat)(tr:OT)(hok:(preOk l.toArray k&&decide (k≤l.length))=true)(hm:C.P.follows .mixedOrders=true)
  (hT:OT.ok l.toArray (l.length-k) (listK l.length k) tr=true)
  (hh:WPp C l.toArray (l.take k) t h fun t'=>WPt C l.toArray Q tr t' h):WP C (.region id l.toArray true) Q t h:=by
 simp only[Bool.and_eq_true,decide_eq_true_eq]at hok
 have D:=cR hok.1
 obtain⟨V,hv,hK⟩:=bt _ _ hh
 have hlen:(l.take k).length=k:=by simp;omega
 rw[hlen]at hK
 have rT:=OT.sound (ops:=l.toArray) (Q:=Q) _ _ tr _ h hT hK
 have main:∀n,WPix C l.toArray Q (Region.linearise .any l.toArray n) t h:=fun n=>by
  unfold Region.linearise
  refine ce D .any D.less (by simp;omega) (V:=V) (t0:=t) (fun _=>True) (fun i o hi _=>hv i o hi) (by simpa using rT) _ _ _ _ (by simp) ?_ (fun j oj hj hl=>?_) (fun j hj hl=>?_) (fun _ _ _=>trivial) (Ag.start _ _ _ _ fun j hj=>?_)
  ·unfold left
   have:(List.range l.toArray.size).filter (fun i=> !(Array.replicate l.toArray.size false).getD i true)=List.range l.toArray.size:=by
    rw[List.filter_eq_self]
    intro i hi
    have:=List.mem_range.1 hi
    simp at this ⊢
    simp[this]
   rw[this,List.length_range]
  ·have h8:=(Array.getElem?_eq_some_iff.1 hj).1
   simp at h8 hl
   simp[h8]at hl
  ·simp at hj hl
   simp[hj]at hl
  ·have:j<l.length:=by omega
   simp[this]
 show ∀tp,WPix C l.toArray Q (Region.schedule (C.P.follows .mixedOrders) l.toArray tp) t h
 intro tp
 unfold Region.schedule
 rw[hm]
 simp only[Bool.true_or,if_true]
 exact main _
def agrL:List Nat→Env→Env→Prop
 | [],_,_=>True
 |d::ds,s,t=>s d=t d∧agrL ds s t
theorem fV:∀{ds:List Nat} {s t:Env},agrL ds s t→∀d∈ds,s d=t d
 | [],_,_,_,d,h=>by cases h
 |e::ds,s,t,g,d,h=>by
  rcases List.mem_cons.1 h with rfl|h
  ·exact g.1
  ·exact fV g.2 d h
theorem i9{d:Nat}:∀{l:List Oper} {i:Nat} {o:Oper},l[i]? =some o→o.dst=some d→d∈wrOps l
 | [],i,o,h,_=>by simp at h
 |a::l,0,o,h,hd=>by simp at h;subst h;unfold wrOps;rw[hd];simp
 |a::l,i+1,o,h,hd=>by
  have:=i9 (l:=l) (i:=i) (o:=o) (by simpa using h) hd
  unfold wrOps;split<;>simp[this]
theorem az{id:Nat}{l:List Oper}{Q:Exit→Env→Heap→Prop}(k u:Nat)(oe:Oper)(hoe:l[k]? =some oe)(hok:(preOk l.toArray (k+1)&&decide (u≤k))=true)(hm:C.P.follows .mixedOrders=true)
  (hu:((List.range k).all fun i=>decide (i<u)||((Region.before l.toArray).getD k 0).testBit i)=true)(hdst:((l.take u).all fun o=>o.dst.isSome)=true)
  (hA:detGo .any l.toArray (l.length-(k+1)) (listK l.length (k+1))=some (List.range' (k+1) (l.length-(k+1))))
  (hh:WPp C l.toArray (l.take k) t h fun t'=>wpOperV C l.toArray oe t' h fun v h'=>
   (WPp C l.toArray (l.take u) t h' fun t''=>agrL (wrOps (l.take u)) t'' t')∧WPl C l.toArray Q (l.drop (k+1)) (put t' oe.dst v) h'):WP C (.region id l.toArray true) Q t h:=by
 simp only[Bool.and_eq_true,decide_eq_true_eq]at hok
 have D:=cR hok.1
 have hkl:=(List.getElem?_eq_some_iff.1 hoe).1
 obtain⟨V,hv,hK⟩:=bt _ _ hh
 have hlen:(l.take k).length=k:=by simp;omega
 rw[hlen]at hK
 have hTT:∀i,i≤k→Av.T V (l.take k) t i=Av.T V l t i:=fun i hi=>dG V V k (fun _ _=>rfl) _ _ _ _ hi (by rw[List.take_take];congr 1;omega) (by rw[hlen];exact hi) (by omega)
 rw[hTT k (Nat.le_refl _)]at hK
 have main:∀n,WPix C l.toArray Q (Region.linearise .any l.toArray n) t h:=fun n=>by
  unfold Region.linearise
  refine gz D .any D.less (by simp;omega) (V:=V) (t0:=t) (oe:=oe) (by simpa using hoe) (fun i o hi ho=>?_) ?_ _ _ _ _ (by simp) ?_ (fun j oj hj hl=>?_) (fun j hj hl=>?_) (Ag.start _ _ _ _ fun j hj=>?_)
  ·have:=hv i o (by rw[List.getElem?_take,if_pos hi];simpa using ho)
   rw[hTT i (by omega)]at this
   exact this
  ·refine bl hK fun v h' ⟨h1,h2⟩=>⟨fun i o hi ho hc=>?_,?_⟩
   ·have hiu:i<u:=by
     have:=List.all_eq_true.1 hu i (List.mem_range.2 hi)
     rw[hc]at this
     simpa using this
    obtain⟨V2,hv2,hK2⟩:=bt _ _ h1
    have hlu:(l.take u).length=u:=by simp;omega
    rw[hlu]at hK2
    have hVV:∀j,j<u→V2 j=V j:=fun j hj=>by
     have hoj:l[j]? =some (l[j]'(by omega)):=List.getElem?_eq_getElem _
     have hoj':(l.take u)[j]? =some (l[j]'(by omega)):=by rw[List.getElem?_take,if_pos hj];exact hoj
     obtain⟨d,hdd⟩:=Option.isSome_iff_exists.1 (List.all_eq_true.1 hdst _ (List.mem_of_getElem? hoj'))
     have e:=fV hK2 d (i9 hoj' hdd)
     have a1:=D.ag_T V2 t (by simp;omega) u (by omega)
     have a2:=D.ag_T V t (by simp;omega) k (by omega)
     have hoa:l.toArray[j]? =some (l[j]'(by omega)):=by simp
     have b1:=a1.1 j _ d (by omega) hoa (by simpa using hj) hdd
     have b2:=a2.1 j _ d (by omega) hoa (by simp;omega) hdd
     have c1:Av.T V2 (l.toArray.toList.take (k+1)) t u=Av.T V2 (l.take u) t u:=dG V2 V2 u (fun _ _=>rfl) _ _ _ _ (Nat.le_refl _) (by simp[List.take_take];try omega) (by simp;omega) (by omega)
     have c2:Av.T V (l.toArray.toList.take (k+1)) t k=Av.T V l t k:=dG V V k (fun _ _=>rfl) _ _ _ _ (Nat.le_refl _) (by simp[List.take_take]) (by simp;omega) (by omega)
     rw[c1]at b1
     rw[c2]at b2
     rw[← b1, ← b2,e]
    have:=hv2 i o (by rw[List.getElem?_take,if_pos hiu];simpa using ho)
    rw[hVV i hiu]at this
    have c3:Av.T V2 (l.take u) t i=Av.T V l t i:=dG V V2 u hVV _ _ _ _ (by omega) (by rw[List.take_take];congr 1;omega) (by omega) (by omega)
    rw[c3]at this
    exact this
   ·have:=jH (ops:=l.toArray) (Q:=Q) _ _ _ (l.drop (k+1)) _ h' hA (by rw[jI (by omega),List.take_of_length_le (by simp)]) h2
    simpa using this
  ·unfold left
   have:(List.range l.toArray.size).filter (fun i=> !(Array.replicate l.toArray.size false).getD i true)=List.range l.toArray.size:=by
    rw[List.filter_eq_self]
    intro i hi
    have:=List.mem_range.1 hi
    simp at this ⊢
    simp[this]
   rw[this,List.length_range]
  ·have h8:=(Array.getElem?_eq_some_iff.1 hj).1
   simp at h8 hl
   simp[h8]at hl
  ·simp at hj hl
   simp[hj]at hl
  ·have:j<l.length:=by omega
   simp[this]
 show ∀tp,WPix C l.toArray Q (Region.schedule (C.P.follows .mixedOrders) l.toArray tp) t h
 intro tp
 unfold Region.schedule
 rw[hm]
 simp only[Bool.true_or,if_true]
 exact main _
attribute [go_sem] agrL
theorem bT{ops:Array Oper}{Q:Exit→Env→Heap→Prop}(g:Q .normal t h):WPt C ops Q .nil t h:=g
theorem bU{ops:Array Oper}{Q:Exit→Env→Heap→Prop}{i:Nat}{s:OT}{o:Oper}(ho:ops[i]? =some o)(g:WPl C ops (fun _ t' h'=>WPt C ops Q s t' h') [o] t h):WPt C ops Q (.one i s) t h:=by
 simp only[WPt,ho];exact g
theorem bV{ops:Array Oper}{Q:Exit→Env→Heap→Prop}{i j:Nat}{s u:OT}{o p:Oper}(ho:ops[i]? =some o)(hp:ops[j]? =some p)(g:WPl C ops (fun _ t' h'=>WPt C ops Q s t' h') [o] t h)
  (g':WPl C ops (fun _ t' h'=>WPt C ops Q u t' h') [p] t h):WPt C ops Q (.two i s j u) t h:=by
 simp only[WPt,ho,hp];exact⟨g,g'⟩
end
end Go.Av
namespace Go.Av
open Go.RowKit
section
variable {C:Ctx} {B n:Nat} {S:Addr→Prop} {μ:Map} {h:Heap} {w:World} {t:Env} {a:Act}
def LetP(S:Addr→Prop)(μ:Map)(w:World)(p:Nat):Addr→Prop:=fun a=>S a∨∃m,μ[p]? =some m∧m.blk=some a.block∧(w.cell? a).isSome=true
theorem Rep.letgo(f:Fits C B S μ h w){p v e m:Nat}{rows:List AVal}(hg:getRow h p v=some (e,m,rows)){μ':Map}(st:Step B S μ w (LetP S μ w p) μ' w)
  {off len:Nat}{room:Bool}{val:Value}(hlen:off+len≤rows.length)(r:Rep w S μ (.hs p v off len room) val):Rep w (LetP S μ w p) μ' (.sl m ((rows.drop off).take len)) val:=by
 obtain⟨mb,hm,hf⟩:=f.row hg
 have hms:=hf.hsize
 rcases r.hs_now hm hf.hver with⟨hb,rfl,rfl,rfl⟩| ⟨b,hb,hcap,rfl⟩
 ·simpa using Rep.sl0 (w:=w) (S:=LetP S μ w p) (μ:=μ') m none 0
 ·by_cases hl0:len=0
  ·subst hl0
   simpa using Rep.sl0 (w:=w) (S:=LetP S μ w p) (μ:=μ') m _ _
  ·obtain⟨cur,hheap,hcs,hle,hmax,fl⟩:=hf.flat hb
   have hes:((rows.drop off).take len).length=len:=by simp;omega
   have hget:∀(i:Nat) (s:AVal),((rows.drop off).take len)[i]? =some s→rows[off+i]? =some s:=by
    intro i s hi
    have hlt:=(List.getElem?_eq_some_iff.1 hi).1
    rw[hes]at hlt
    rw[List.getElem?_take_of_lt hlt,List.getElem?_drop]at hi
    exact hi
   have e1:∀i j,(off+i)*m+j=off*m+(i*m+j):=fun i j=>by rw[Nat.add_mul];omega
   have key:=Rep.sl (w:=w) (S:=LetP S μ w p) (μ:=μ') m ((rows.drop off).take len) b (off*mb.size) (if room then mb.cap-off else len)
    (fun i j=>cur.getD (off*m+(i*m+j)) undef) (by intro e;rw[e]at hes;simp at hes;omega) (by rw[hes];split<;>omega) (by split<;>omega)
    (fun i s hi=>hf.lens _ _ (hget i s hi))
    (fun i s j d hi hj=>by
     have h1:=hget i s hi
     obtain⟨u,hu,_⟩:=fl.rep _ _ _ _ h1 hj
     have hu:=aA hu
     rw[e1]at hu
     have hu2:cur[off*m+(i*m+j)]? =some u:=by simpa using hu
     have hcell:w.cell? ⟨b,off*m+(i*m+j),none⟩=some u:=by simp[World.cell?,hheap,hu2]
     rw[hms]
     refine⟨.inr ⟨mb,hm,hb,by rw[hcell];rfl⟩,?_,hf.sto _ _ _ _ h1 hj⟩
     rw[hcell];simp[Array.getD_eq_getD_getElem?,hu2])
    (fun i s j d hi hj=>by
     have h1:=hget i s hi
     obtain⟨u,hu,hrep⟩:=fl.rep _ _ _ _ h1 hj
     have hu:=aA hu
     rw[e1]at hu
     have hu2:cur[off*m+(i*m+j)]? =some u:=by simpa using hu
     have:=hrep.mono st
     simpa [Array.getD_eq_getD_getElem?,hu2]using this)
   rw[hes]at key
   exact key
theorem Fits.letgo(f:Fits C B S μ h w){p v e m:Nat}{rows:List AVal}(hg:getRow h p v=some (e,m,rows)):
  ∃μ',Step B S μ w (LetP S μ w p) μ' w∧Fits C B (LetP S μ w p) μ' (h.set p .dead) w:=by
 obtain⟨mb,hm,hf⟩:=f.row hg
 have hlt:=(List.getElem?_eq_some_iff.1 hm).1
 have st:Step B S μ w (LetP S μ w p) (μ.set p ⟨none,mb.ver+1,mb.size,mb.cap⟩) w:=⟨fun a ha=>.inl ha,fun _ _=>rfl,Below.refl _ _,bf hm (by simp) (fun e=>by simp at e),fun a ha=>by
  rcases ha with ha| ⟨m',hm',hb,_⟩
  ·exact .inl ha
  ·exact .inr (f.own p m' _ hm' hb).1⟩
 have at_:∀q k,(μ.set p ⟨none,mb.ver+1,mb.size,mb.cap⟩)[q]? =some k→(q=p∧k.blk=none)∨(q≠p∧μ[q]? =some k):=by
  intro q k hq
  by_cases e:p=q
  ·subst e;rw[List.getElem?_set_self hlt]at hq;cases hq;exact .inl ⟨rfl,rfl⟩
  ·rw[List.getElem?_set_ne e]at hq;exact .inr ⟨fun e'=>e e'.symm,hq⟩
 refine⟨_,st,⟨fun g cs hg=>(f.glob g cs hg).mono st,by simp[f.len],?_,?_,f.base,?_,?_⟩⟩
 ·intro p1 q1 m1 m2 b h1 h2 e1 e2
  rcases at_ p1 m1 h1 with⟨_,k1⟩| ⟨_,k1⟩
  ·rw[k1]at e1;cases e1
  ·rcases at_ q1 m2 h2 with⟨_,k2⟩| ⟨_,k2⟩
   ·rw[k2]at e2;cases e2
   ·exact f.sep p1 q1 m1 m2 b k1 k2 e1 e2
 ·intro p1 m1 b h1 e1
  rcases at_ p1 m1 h1 with⟨_,k1⟩| ⟨r1,k1⟩
  ·rw[k1]at e1;cases e1
  ·obtain⟨a1,a2,a3⟩:=f.own p1 m1 b k1 e1
   refine⟨a1,a2,fun a ha=>?_⟩
   rcases ha with ha| ⟨m',hm',hb,_⟩
   ·exact a3 a ha
   ·intro e
    exact r1 (f.sep p1 p m1 m' b k1 hm' e1 (by rw[hb,e]))
 ·intro a ha
  rcases ha with ha| ⟨m',hm',hb,_⟩
  ·exact f.lie a ha
  ·exact(f.own p m' _ hm' hb).2.1
 ·intro p1 m1 k1 h1 h2
  rcases at_ p1 m1 h1 with⟨rfl,_⟩| ⟨r1,h1⟩
  ·rw[List.getElem?_set_self (by rw[← f.len];exact hlt)]at h2;cases h2;trivial
  ·rw[List.getElem?_set_ne (fun e=>r1 e.symm)]at h2
   exact(f.blk p1 m1 k1 h1 h2).mono st fun b _=>rfl
inductive Fz (h:Heap) (p v:Nat):AVal→AVal→Prop
 |same (x:AVal):Fz h p v x x
 |hs (off len:Nat) (room:Bool) (e m:Nat) (rows es:List AVal):getRow h p v=some (e,m,rows)→off+len≤rows.length→es=(rows.drop off).take len→Fz h p v (.hs p v off len room) (.sl m es)
 |agg (cs ds:List AVal):cs.length=ds.length→(∀d∈ds,d.sto=true)→(∀(i:Nat) (c d:AVal),cs[i]? =some c→ds[i]? =some d→Fz h p v c d)→Fz h p v (.agg cs) (.agg ds)
 |tup (cs ds:List AVal):cs.length=ds.length→(∀(i:Nat) (c d:AVal),cs[i]? =some c→ds[i]? =some d→Fz h p v c d)→Fz h p v (.tup cs) (.tup ds)
 |wk (x y z:AVal):Fz h p v x y→Wk y z→Fz h p v x z
theorem Fz.all(h:Heap)(p v:Nat){off len e m:Nat}{room:Bool}{rows:List AVal}(hg:getRow h p v=some (e,m,rows))(h0:off=0)(hl:len=rows.length):Fz h p v (.hs p v off len room) (.sl m rows):=
 .hs off len room e m rows rows hg (by omega) (by subst h0;subst hl;simp)
theorem Fz.rep(f:Fits C B S μ h w){p v:Nat}{μ':Map}(st:Step B S μ w (LetP S μ w p) μ' w){x y:AVal}{u:Value}(z:Fz h p v x y)(r:Rep w S μ x u):Rep w (LetP S μ w p) μ' y u:=by
 induction z generalizing u with
 |same x=>exact r.mono st
 |hs off len room e m rows es hg hl he=>subst he;exact r.letgo f hg st hl
 |agg cs ds hl hst _ ih=>
  obtain⟨vs,rfl,hvl,_,hr⟩:=r.agg_inv
  refine .agg ds vs (by omega) (fun i d hd=>hst d (List.mem_of_getElem? hd)) (fun i d hd=>?_)
  have hlt:=(List.getElem?_eq_some_iff.1 hd).1
  have hc:=List.getElem?_eq_getElem (show i<cs.length by omega)
  exact ih i _ d hc hd (hr i _ hc)
 |tup cs ds hl _ ih=>
  obtain⟨vs,rfl,hvl,hr⟩:=r.tup_inv
  refine .tup ds vs (by omega) (fun i d hd=>?_)
  have hlt:=(List.getElem?_eq_some_iff.1 hd).1
  have hc:=List.getElem?_eq_getElem (show i<cs.length by omega)
  exact ih i _ d hc hd (hr i _ hc)
 |wk x y z _ hw ih=>exact hw _ _ _ _ (ih r)
theorem Weak.fz{ms:List Nat}{t1:Env}(p v:Nat){e m:Nat}{rows:List AVal}(hg:getRow h p v=some (e,m,rows))(ht:∀i,t1 i=t i∨(i∈ms∧Fz h p v (t i) (t1 i))):Weak C ms t h t1 (h.set p .dead):=by
 refine⟨fun i hi=>(ht i).elim id fun⟨h1,_⟩=>absurd h1 hi,fun B k S μ w a f r=>?_⟩
 obtain⟨μ',st,f1⟩:=f.letgo hg
 refine⟨_,μ',st,f1,r.1,r.2.1,fun i hi=>?_⟩
 rcases ht i with h1| ⟨_,h1⟩
 ·rw[h1];exact(r.2.2 i hi).mono st
 ·exact h1.rep f st (r.2.2 i hi)
end
end Go.Av
namespace Go.Av
open Go Go.RowKit
theorem tl{H:Heap}{p q:Nat}(b:Blk)(v:Nat)(hne:p≠q):getRow (H.set p b) q v=getRow H q v:=by
 unfold getRow;rw[List.getElem?_set_ne hne]
theorem j7{H:Heap}{p:Nat}(e n u v:Nat)(rows:List AVal)(hp:p<H.length):getRow (H.set p (.row e n u rows)) p v=if v=u then some (e,n,rows)else none:=by
 unfold getRow;rw[List.getElem?_set_self hp]
theorem fb{A l:Heap}{p:Nat}(v:Nat)(hp:p<A.length):getRow (A++l) p v=getRow A p v:=by
 unfold getRow;rw[List.getElem?_append_left hp]
theorem fe{A l:Heap}{n k:Nat}(v:Nat)(hn:A.length=n):getRow (A++l) (n+k) v=getRow l k v:=by subst hn;exact gp A l k v
theorem bW{A l:Heap}{n:Nat}(v:Nat)(hn:A.length=n):getRow (A++l) n v=getRow l 0 v:=by subst hn;exact kp A l v
theorem nh{A l:Heap}{p:Nat}(b:Blk)(hp:p<A.length):(A++l).set p b=A.set p b++l:=List.set_append_left p b hp
theorem qX{A l:Heap}{n k:Nat}(b:Blk)(hn:A.length=n):(A++l).set (n+k) b=A++l.set k b:=by subst hn;exact kQ A l k b
theorem cX{A l:Heap}{n:Nat}(b:Blk)(hn:A.length=n):(A++l).set n b=A++l.set 0 b:=by subst hn;exact og A l b
theorem ai:(∀{H:Heap} {p q:Nat} (b:Blk) (v:Nat) (_:p≠q),getRow (H.set p b) q v=getRow H q v)∧
  (∀{H:Heap} {p:Nat} (e n u v:Nat) (rows:List AVal) (_:p<H.length),getRow (H.set p (.row e n u rows)) p v=if v=u then some (e,n,rows)else none)∧
  (∀{A l:Heap} {p:Nat} (v:Nat) (_:p<A.length),getRow (A++l) p v=getRow A p v)∧
  (∀{A l:Heap} {n k:Nat} (v:Nat) (_:A.length=n),getRow (A++l) (n+k) v=getRow l k v)∧
  (∀{A l:Heap} {n:Nat} (v:Nat) (_:A.length=n),getRow (A++l) n v=getRow l 0 v)∧
  (∀{A l:Heap} {p:Nat} (b:Blk) (_:p<A.length),(A++l).set p b=A.set p b++l)∧
  (∀{A l:Heap} {n k:Nat} (b:Blk) (_:A.length=n),(A++l).set (n+k) b=A++l.set k b)∧
  (∀{A l:Heap} {n:Nat} (b:Blk) (_:A.length=n),(A++l).set n b=A++l.set 0 b)∧
  (∀(H:Heap) (i:Nat) (b:Blk),(H.set i b).length=H.length)∧(∀(H:Heap) (i:Nat) (a b:Blk),(H.set i a).set i b=H.set i b):=
 ⟨tl,j7,fb,fe,bW,nh,qX,cX,fun _ _ _=>List.length_set ..,fun _ _ _ _=>List.set_set ..⟩
theorem bK{H:Heap}{p v:Nat}{x:TypeId×Nat×List AVal}(h:getRow H p v=some x):p<H.length:=by
 obtain⟨e,n,r⟩:=x
 exact(List.getElem?_eq_some_iff.1 (cw h)).1
attribute [go_sem] List.length_set
section
variable {C:Ctx}
end
end Go.Av
namespace Go.Av
open Go Go.Proofs Go.RowKit
attribute [local irreducible] WP WPl WPix Sat
variable (G:Nat→Option (List AVal))
variable {G}
end Go.Av
namespace Go.Av
open Go Go.Proofs Go.RowKit
attribute [local irreducible] WP WPl WPix Sat
variable (G:Nat→Option (List AVal))
def rdrR(s:Bs)(b:Bool):Blk:=.row 95 2 0 [.agg [.str s,.bool b]]
def rdH(h j:Heap)(s:Bs)(b:Bool):Heap:=h++rdrR s b::j
theorem pL(h j:Heap)(s:Bs)(b:Bool):(rdH h j s b).length=h.length+(1+j.length):=by simp[rdH];omega
@[go_sem] theorem uE(s:Bs)(b:Bool)(l:Heap):getRow (rdrR s b::l) 0 0=some (95,2,[.agg [.str s,.bool b]]):=rfl
theorem m8(q:UInt8→Bool):∀(s:Bs) (k:Nat),(∀i,i<k→∀c,s[i]? =some c→q c=true)→k≤s.length→(k=s.length∨∃c,s[k]? =some c∧q c=false)→
  s.takeWhile q=s.take k∧s.dropWhile q=s.drop k:=by
 intro s
 induction s with
 |nil=>intro k _ hk _;simp at hk;subst hk;simp
 |cons a t ih=>
  intro k h hk he
  cases k with
  |zero=>
   rcases he with he| ⟨c,hc,hq⟩
   ·simp at he
   ·simp at hc;subst hc;simp[hq]
  |succ k=>
   have ha:q a=true:=h 0 (by omega) a rfl
   have:=ih k (fun i hi c hc=>h (i+1) (by omega) c (by simpa using hc)) (by simpa using hk) (by
    rcases he with he| ⟨c,hc,hq⟩
    ·exact .inl (by simpa using he)
    ·exact .inr ⟨c,by simpa using hc,hq⟩)
   simp[List.takeWhile,List.dropWhile,ha,this]
end Go.Av
namespace Go.Av
open Go Go.Proofs Go.RowKit
attribute [local irreducible] WP WPl WPix Sat
variable (G:Nat→Option (List AVal))
def beginF(c:Int):Bool:=decide (65≤c∧c≤90∨97≤c∧c≤122∨c=95)
def moreF(c:Int):Bool:=decide (65≤c∧c≤90∨97≤c∧c≤122∨c=95∨48≤c∧c≤57∨c=58∨c=45∨c=46)
theorem gF(c:Int)(h:Heap):Sat (CT G) 167 [.int .i32 c] h (fun r h'=>r=.bool (beginF c)∧h'=h):=by
 refine sb [.tmp 2] (fn:=Tryz.f167) Tryz.func167 ?_
 intro Q hQ
 refine am trivial ?_
 (first|refine cM trivial (fun g1=>?_) (fun g1=>?_)|refine pqo trivial (fun g1=>?_) (fun g1=>?_))<;>(try exact g1.elim)<;>(try refine bB trivial ?_)<;>(refine am trivial ?_)
 all_goals try ((first|refine cM trivial (fun g2=>?_) (fun g2=>?_)|refine pqo trivial (fun g2=>?_) (fun g2=>?_))<;>(try exact g2.elim)<;>(try refine bB trivial ?_)<;>(refine am trivial ?_))
 all_goals try ((first|refine cM trivial (fun g3=>?_) (fun g3=>?_)|refine pqo trivial (fun g3=>?_) (fun g3=>?_))<;>(try exact g3.elim)<;>(try refine bB trivial ?_)<;>(refine am trivial ?_))
 all_goals try ((first|refine cM trivial (fun g4=>?_) (fun g4=>?_)|refine pqo trivial (fun g4=>?_) (fun g4=>?_))<;>(try exact g4.elim)<;>(try refine bB trivial ?_)<;>(refine am trivial ?_))
 all_goals try ((first|refine cM trivial (fun g5=>?_) (fun g5=>?_)|refine pqo trivial (fun g5=>?_) (fun g5=>?_))<;>(try exact g5.elim)<;>(try refine bB trivial ?_)<;>(refine am trivial ?_))
 all_goals try (exfalso;omega)
 all_goals
  refine bi hQ trivial ?_
  refine fR (.bool _) ?_
  unfold beginF
  congr 1
  rw[Bool.eq_iff_iff]
  simp only[decide_eq_true_eq,beq_iff_eq,true_iff,Bool.false_eq_true,false_iff]
  omega
theorem oQ(c:Int)(h:Heap):Sat (CT G) 166 [.int .i32 c] h (fun r h'=>r=.bool (moreF c)∧h'=h):=by
 refine sb [.tmp 2] (fn:=Tryz.f166) Tryz.func166 ?_
 intro Q hQ
 refine am trivial ?_
 refine eA trivial (gF G c _) ?_
 (first|refine cM trivial (fun g1=>?_) (fun g1=>?_)|refine pqo trivial (fun g1=>?_) (fun g1=>?_))<;>(try exact g1.elim)<;>(try refine bB trivial ?_)<;>(refine am trivial ?_)
 all_goals try ((first|refine cM trivial (fun g2=>?_) (fun g2=>?_)|refine pqo trivial (fun g2=>?_) (fun g2=>?_))<;>(try exact g2.elim)<;>(try refine bB trivial ?_)<;>(refine am trivial ?_))
 all_goals try ((first|refine cM trivial (fun g3=>?_) (fun g3=>?_)|refine pqo trivial (fun g3=>?_) (fun g3=>?_))<;>(try exact g3.elim)<;>(try refine bB trivial ?_)<;>(refine am trivial ?_))
 all_goals try ((first|refine cM trivial (fun g4=>?_) (fun g4=>?_)|refine pqo trivial (fun g4=>?_) (fun g4=>?_))<;>(try exact g4.elim)<;>(try refine bB trivial ?_)<;>(refine am trivial ?_))
 all_goals try ((first|refine cM trivial (fun g5=>?_) (fun g5=>?_)|refine pqo trivial (fun g5=>?_) (fun g5=>?_))<;>(try exact g5.elim)<;>(try refine bB trivial ?_)<;>(refine am trivial ?_))
 all_goals try ((first|refine cM trivial (fun g6=>?_) (fun g6=>?_)|refine pqo trivial (fun g6=>?_) (fun g6=>?_))<;>(try exact g6.elim)<;>(try refine bB trivial ?_)<;>(refine am trivial ?_))
 all_goals try ((first|refine cM trivial (fun g7=>?_) (fun g7=>?_)|refine pqo trivial (fun g7=>?_) (fun g7=>?_))<;>(try exact g7.elim)<;>(try refine bB trivial ?_)<;>(refine am trivial ?_))
 all_goals try simp only[beginF,decide_eq_true_eq,decide_eq_false_iff_not]at g1
 all_goals try (exfalso;omega)
 all_goals
  refine bi hQ trivial ?_
  refine fR (.bool _) ?_
  unfold moreF
  try unfold beginF
  congr 1
  rw[Bool.eq_iff_iff]
  simp only[decide_eq_true_eq,beq_iff_eq,true_iff,Bool.false_eq_true,false_iff]
  omega
end Go.Av

namespace Go.Av
open Go Go.Proofs Go.RowKit
attribute [local irreducible] WP WPl WPix Sat
variable (G:Nat→Option (List AVal))
end Go.Av
namespace Go.Av
open Go Go.Proofs Go.RowKit
attribute [local irreducible] WP WPl WPix Sat
variable (G:Nat→Option (List AVal))
end Go.Av
namespace Go.Av
open Go Go.Proofs Go.RowKit
attribute [local irreducible] WP WPl WPix Sat
variable (G:Nat→Option (List AVal))
attribute [go_sem] pL
end Go.Av
namespace Go.Av
open Go Go.Proofs Go.RowKit
attribute [local irreducible] WP WPl WPix Sat
variable (G:Nat→Option (List AVal))
end Go.Av
namespace Go.Av
open Go Go.Proofs Go.RowKit
attribute [local irreducible] WP WPl WPix Sat
variable (G:Nat→Option (List AVal))
theorem iI(h:Heap)(n:Nat):Frz h n (.agg [.str [],.nil (.slice none 0 0),.str [],.nil (.slice none 0 0)]) (Elem.av ⟨[],[],[],[]⟩):=by
 rw[Elem.av_eq]
 refine .agg _ _ rfl (by simp[AVal.sto]) fun i c d hc hd=>?_
 match i with
 |0=>simp at hc hd;subst hc;subst hd;exact .clo _ (.str _)
 |1=>simp[Elem.attrs]at hc hd;subst hc;subst hd;exact .nils _
 |2=>simp at hc hd;subst hc;subst hd;exact .clo _ (.str _)
 |3=>simp[Elem.kids]at hc hd;subst hc;subst hd;exact .nils _
 |i+4=>simp at hc
def kidF(e:Elem)(n:Bs):Elem×Bool:=match kidsF e n with| []=>(⟨[],[],[],[]⟩,false)|k::_=>(k,true)
theorem fC(e:Elem)(n:Bs)(hs:e.sz≤1048576)(h:Heap):Sat (CT G) 53 [e.av,.str n] h (fun r h'=>r=.tup [(kidF e n).1.av,.bool (kidF e n).2]∧h'=h):=by
 refine sb [.cell 4 35,.tmp 5] (fn:=Tryz.f53) Tryz.func53 ?_
 intro Q hQ
 refine am trivial ?_
 refine eA trivial (dX G e n hs _) ?_
 refine bI trivial (fun hc=>?_) (fun hc=>?_)<;>(try exact hc.elim)<;>(refine am trivial ?_)
 ·refine pc hQ trivial ?_
  have hk:kidsF e n=[]:=List.length_eq_zero_iff.1 (by omega)
  simp only[kidF,hk]
  refine Fin.frz ?_ ⟨rfl,rfl⟩
  refine .tup _ _ rfl fun i c d hc hd=>?_
  match i with
  |0=>simp at hc hd;subst hc;subst hd;exact iI _ _
  |1=>simp at hc hd;subst hc;subst hd;exact .clo _ (.bool _)
  |i+2=>simp at hc
 ·obtain⟨y,l,hk⟩:∃y l,kidsF e n=y::l:=by
   cases hq:kidsF e n with
   |nil=>rw[hq]at hc;simp at hc
   |cons y l=>exact⟨y,l,rfl⟩
  rw[hk]
  have h0:(y::l)[0]? =some y:=rfl
  have F:=h0
  refine am F ?_
  simp only[h0]
  try refine bB F ?_
  refine am F ?_
  refine pc hQ F ?_
  simp only[kidF,hk]
  exact Fin.plain (.tup _ (by intro c hc;simp at hc;rcases hc with rfl|rfl;exact Elem.clo _ _;exact .bool _)) ⟨rfl,rfl⟩
def attrsC:List At→Int→Int
 | [],l=>l
 |a::r,l=>attrsC r (l-a.1.length-a.2.length)
mutual
def countE:Elem→Nat→Int→Int
 | .mk n a t k,d,l=>countL k d (attrsC a (l-1-t.length-n.length-a.length))
def countL:List Elem→Nat→Int→Int
 | [],_,l=>l
 |e::r,d,l=>if 0<l∧d<40 then countL r d (countE e (d+1) l)else l
end
theorem ff(e:Elem)(d:Nat)(l:Int):countE e d l=countL e.kids d (attrsC e.attrs (l-1-e.text.length-e.name.length-e.attrs.length)):=by cases e;rw[countE];rfl
theorem dn:∀(a:List At) (l:Int),l-szs At.sz a≤attrsC a l-a.length∧attrsC a l≤l
 | [],l=>by simp[attrsC,szs]
 |a::r,l=>by
  have:=dn r (l-a.1.length-a.2.length)
  rw[attrsC,szs,At.sz,List.length_cons];omega
mutual
theorem fg:∀(e:Elem) (d:Nat) (l:Int),l-e.sz≤countE e d l∧countE e d l≤l
 | .mk n a t k,d,l=>by
  have h1:=dn a (l-1-t.length-n.length-a.length)
  have h2:=bX k d (attrsC a (l-1-t.length-n.length-a.length))
  rw[countE,Elem.sz];omega
theorem bX:∀(r:List Elem) (d:Nat) (l:Int),l-kidsz r≤countL r d l∧countL r d l≤l
 | [],d,l=>by simp[countL,kidsz]
 |e::r,d,l=>by
  have h1:=fg e (d+1) l
  have h2:=bX r d (countE e (d+1) l)
  rw[countL,kidsz];split<;>omega
end
theorem ni:∀(f d:Nat),d+f=41→d≤40→∀(e:Elem) (l:Int) (_:e.sz≤1048576) (_:l≤6000) (_: -4194304+e.sz≤l) (h:Heap),Sat (CT G) 26 [e.av,.int .i64 d,.int .i64 l] h (fun r h'=>r=.int .i64 (countE e d l)∧h'=h):=by
 intro f
 induction f with
 |zero=>intro d hf hd;omega
 |succ f ih=>
  intro d hf hd e l hs hl1 hl2 h
  have hkl:=e.kids_len
  have hal:=e.attrs_len
  have hsz:=e.sz_eq
  have hab:=dn e.attrs (l-1-e.text.length-e.name.length-e.attrs.length)
  have hkb:=bX e.kids d (attrsC e.attrs (l-1-e.text.length-e.name.length-e.attrs.length))
  rw[jp]at hkb
  refine sb [.tmp 6] (fn:=Tryz.f26) Tryz.func26 ?_
  intro Q hQ
  refine am trivial ?_
  refine lm (fun nL tL hL=>∃(k:Nat) (m:Int),e.attrs.length-k=nL∧h++[.row 35 4 0 [e.av]]=hL∧tL 2=.int .i64 m∧tL 7=.int .i64 k∧k≤e.attrs.length∧m≤6000∧attrsC (e.attrs.drop k) m=attrsC e.attrs (l-1-e.text.length-e.name.length-e.attrs.length)) ((fun(k:Nat) (m:Int)=>(e.attrs.length-k:Nat)) (0) (l-1-e.text.length-e.name.length-e.attrs.length)) ?_ ?_
  ·refine Wkn.refl ⟨0,l-1-e.text.length-e.name.length-e.attrs.length,rfl,ay,?_,?_,?_,?_,?_⟩
   all_goals first|exact aZ trivial|rfl|omega|trivial|skip
  rintro _ s2 h' ⟨k,m,rfl,rfl,e2,e7,hk,hm,hp⟩ K2 hK2
  simp only[ak,ao,Nat.reduceEqDiff, ↓reduceIte]at e2 e7
  have F:=F2 e2 e7
  refine am F ?_
  refine bI F (fun hc=>?_) (fun hc=>?_)<;>(try exact hc.elim)
  ·obtain⟨x,hx,hxm⟩:=af hc
   have h1:=kR At.sz hxm
   simp only[At.sz]at h1
   rw[aD hx,attrsC]at hp
   have h2:=dn (e.attrs.drop (k+1)) (m-x.1.length-x.2.length)
   have F:=F2 F hx
   refine am F ?_
   refine hK2 _ _ _ (Wkn.refl ⟨k+1,m-x.1.length-x.2.length,rfl,ay,?_,?_,by omega,by omega,hp⟩) (by omega)
   all_goals first|exact aZ F|rfl|omega|trivial|skip
  ·rw[aY hc,attrsC]at hp
   subst hp
   refine am F ?_
   refine lm (fun nL tL hL=>∃(k:Nat) (m:Int),e.kids.length-k=nL∧h++[.row 35 4 0 [e.av]]=hL∧tL 2=.int .i64 m∧tL 8=.int .i64 k∧k≤e.kids.length∧m≤6000∧countL (e.kids.drop k) d m=countE e d l) ((fun(k:Nat) (m:Int)=>(e.kids.length-k:Nat)) (0) (attrsC e.attrs (l-1-e.text.length-e.name.length-e.attrs.length))) ?_ ?_
   ·refine Wkn.refl ⟨0,attrsC e.attrs (l-1-e.text.length-e.name.length-e.attrs.length),rfl,ay,?_,?_,Nat.zero_le _,by omega,(ff e d l).symm⟩
    all_goals first|exact aZ F|rfl|omega|trivial|skip
   rintro _ s3 h' ⟨k,m,rfl,rfl,e2,e8,hk,hm,hp⟩ K3 hK3
   simp only[ak,ao,Nat.reduceEqDiff, ↓reduceIte]at e2 e8
   have F:=F3 F e2 e8
   refine am F ?_
   have stop:¬(k<e.kids.length∧0<m∧d<40)→countL (e.kids.drop k) d m=m:=fun(hn:_)=>by
    rcases Nat.lt_or_ge k e.kids.length with h1|h1
    ·obtain⟨y,hy,_⟩:=af h1
     rw[aD hy,countL,if_neg (fun h=>hn ⟨h1,h.1,h.2⟩)]
    ·rw[aY h1,countL]
   (first|refine cM F (fun hg=>?_) (fun hg=>?_)|refine pqo F (fun hg=>?_) (fun hg=>?_))<;>(try exact hg.elim)<;>(try refine bB F ?_)<;>(refine am F ?_)
   ·have hlt:k<e.kids.length:=hg
    (first|refine cM F (fun hg=>?_) (fun hg=>?_)|refine pqo F (fun hg=>?_) (fun hg=>?_))<;>(try exact hg.elim)<;>(try refine bB F ?_)<;>(refine am F ?_)
    ·have hm0:0<m:=by omega
     refine bI F (fun hc=>?_) (fun hc=>?_)<;>(try exact hc.elim)
     ·obtain⟨y,hy,hym⟩:=af hlt
      have h1:=Elem.kid_sz hym
      have h2:=fg y (d+1) m
      have h3:=bX (e.kids.drop (k+1)) d (countE y (d+1) m)
      rw[aD hy,countL,if_pos ⟨hm0,by omega⟩]at hp
      have F:=F2 F hy
      refine am F ?_
      refine eA F (ih (d+1) (by omega) (by omega) y m (by omega) (by omega) (by omega) _) ?_
      refine hK3 _ _ _ (Wkn.refl ⟨k+1,countE y (d+1) m,rfl,ay,?_,?_,by omega,by omega,hp⟩) (by omega)
      all_goals first|exact aZ F|rfl|omega|trivial|skip
     ·refine am F ?_
      refine bi hQ F ?_
      refine fR (.int _ _) ?_
      rw[← hp,stop (by omega)]
    ·refine bi hQ F ?_
     refine fR (.int _ _) ?_
     rw[← hp,stop (by omega)]
   ·refine bi hQ F ?_
    refine fR (.int _ _) ?_
    rw[← hp,stop (by omega)]
theorem nj(e:Elem)(hs:e.sz≤1048576)(h:Heap):Sat (CT G) 12 [e.av] h (fun r h'=>r=.bool (decide (countE e 1 6000≤0))∧h'=h):=by
 refine sb [.tmp 2] (fn:=Tryz.f12) Tryz.func12 ?_
 intro Q hQ
 refine am trivial ?_
 refine eA trivial (ni G 40 1 (by omega) (by omega) e 6000 hs (by omega) (by omega) _) ?_
 refine bi hQ trivial ?_
 refine fR (.bool _) ?_
 rfl
instance tokEq:DecidableEq Tok:=fun a b=>inferInstanceAs (Decidable ((a:Int×List UInt8×List (List UInt8×List UInt8)×List UInt8)=b))
end Go.Av
namespace Go.Av
open Go Go.Proofs Go.RowKit
attribute [local irreducible] WP WPl WPix Sat
variable (G:Nat→Option (List AVal))
end Go.Av
namespace Go.Av
open Go Go.Proofs Go.RowKit
attribute [local irreducible] WP WPl WPix Sat
variable (G:Nat→Option (List AVal))
end Go.Av
namespace Go.Av
open Go Go.RowKit
attribute [local irreducible] WP WPl WPix Sat
structure FrzR (h:Heap) (n:Nat) (r s:AVal):Prop where
 all:Frz h n r s
 len:r.cells.length=s.cells.length
 sto:∀d∈s.cells,d.sto=true
 cell:∀(j:Nat) (c d:AVal),r.cells[j]? =some c→s.cells[j]? =some d→Frz h n c d
theorem Frz.rows{h:Heap}{n q v e m:Nat}{rows es:List AVal}{len:Nat}{room:Bool}(hq:n≤q)(hg:getRow h q v=some (e,m,rows))(hlen:len=rows.length)(hl:es.length=rows.length)
  (hp:∀(i:Nat) (r s:AVal),rows[i]? =some r→es[i]? =some s→FrzR h n r s):Frz h n (.hs q v 0 len room) (.sl m es):=by
 subst hlen
 have:=Frz.hs (h:=h) (n:=n) q v 0 rows.length room e m rows es hq hg (by omega) hl (fun i r s hr hs=>(hp i r s hr hs).all)
  (fun i r s hr hs=>⟨(hp i r s hr hs).len,fun j c d _ hd=>(hp i r s hr hs).sto d (List.mem_of_getElem? hd)⟩) (fun i r s j c d hr hs hc hd=>(hp i r s hr hs).cell j c d hc hd)
 rw[List.drop_zero, ← hl,List.take_length]at this
 rw[← hl];exact this
theorem FrzR.clo{h:Heap}{n:Nat}{r:AVal}(hc:Clo n r)(hs:∀d∈r.cells,d.sto=true):FrzR h n r r:=
 ⟨.clo _ hc,rfl,hs,fun j c d h1 h2=>by rw[h1]at h2;cases h2;exact .clo _ (hc.cells c (List.mem_of_getElem? h1))⟩
inductive FrzL (h:Heap) (n:Nat):List AVal→List AVal→Prop
 |nil:FrzL h n [] []
 |cons {c d:AVal} {cs ds:List AVal}:Frz h n c d→FrzL h n cs ds→FrzL h n (c::cs) (d::ds)
theorem FrzL.len{h:Heap}{n:Nat}{cs ds:List AVal}(z:FrzL h n cs ds):cs.length=ds.length:=by induction z with|nil=>rfl|cons _ _ ih=>simp[ih]
theorem FrzL.at_{h:Heap}{n:Nat}{cs ds:List AVal}(z:FrzL h n cs ds):∀(i:Nat) (c d:AVal),cs[i]? =some c→ds[i]? =some d→Frz h n c d:=by
 induction z with
 |nil=>intro i c d h1;simp at h1
 |cons z _ ih=>
  intro i c d h1 h2
  match i with
  |0=>simp at h1 h2;subst h1;subst h2;exact z
  |i+1=>exact ih i c d (by simpa using h1) (by simpa using h2)
theorem FrzL.agg{h:Heap}{n:Nat}{cs ds:List AVal}(z:FrzL h n cs ds)(hs:ds.all AVal.sto=true):Frz h n (.agg cs) (.agg ds):=.agg _ _ z.len (List.all_eq_true.1 hs) z.at_
theorem FrzL.tup{h:Heap}{n:Nat}{cs ds:List AVal}(z:FrzL h n cs ds):Frz h n (.tup cs) (.tup ds):=.tup _ _ z.len z.at_
theorem Frz.data{h:Heap}{n q v e m:Nat}{rows:List AVal}{len:Nat}{room:Bool}(hq:n≤q)(hg:getRow h q v=some (e,m,rows))(hlen:len=rows.length)(hc:∀r∈rows,Clo n r)(hs:∀r∈rows,∀c∈r.cells,c.sto=true):Frz h n (.hs q v 0 len room) (.sl m rows):=
 Frz.rows hq hg hlen rfl fun i r s hr hs'=>by rw[hr]at hs';cases hs';exact FrzR.clo (hc r (List.mem_of_getElem? hr)) (hs r (List.mem_of_getElem? hr))
end Go.Av
namespace Go.Av
open Go Go.Proofs Go.RowKit
attribute [local irreducible] WP WPl WPix Sat
variable (G:Nat→Option (List AVal))
end Go.Av
namespace Go.Av
open Go Go.Proofs Go.RowKit
attribute [local irreducible] WP WPl WPix Sat
variable (G:Nat→Option (List AVal))
end Go.Av
namespace Go.Av
open Go Go.Proofs Go.RowKit
attribute [local irreducible] WP WPl WPix Sat
variable (G:Nat→Option (List AVal))
def tkR(n:Bs)(q v len:Nat):Blk:=.row 98 4 0 [.agg [.int .i64 1,.str n,.hs q v 0 len true,.str []]]
def atR(v:Nat)(l:List At):Blk:=.row 79 2 v (l.map At.av)
@[go_sem] theorem tm(n:Bs)(q v len:Nat)(l:Heap):getRow (tkR n q v len::l) 0 0=some (98,4,[.agg [.int .i64 1,.str n,.hs q v 0 len true,.str []]]):=rfl
@[go_sem] theorem rY(n:Bs)(q v len:Nat)(l:Heap)(k u:Nat):getRow (tkR n q v len::l) (k+1) u=getRow l k u:=rfl
@[go_sem] theorem rZ(v:Nat)(l:List At)(j:Heap)(k u:Nat):getRow (atR v l::j) (k+1) u=getRow j k u:=rfl
end Go.Av
namespace Go.Av
open Go Go.Proofs Go.RowKit
attribute [local irreducible] WP WPl WPix Sat
variable (G:Nat→Option (List AVal))
def p1:Bs:=[60,33,45,45]
def p2:Bs:=[60,63]
end Go.Av
namespace Go.Av
open Go Go.Proofs Go.RowKit
attribute [local irreducible] WP WPl WPix Sat
variable (G:Nat→Option (List AVal))
def tksR(v:Nat)(l:List Tok):Blk:=.row 98 4 v (l.map Tok.av)
@[go_sem] theorem sa(v:Nat)(l:List Tok)(j:Heap)(k u:Nat):getRow (tksR v l::j) (k+1) u=getRow j k u:=rfl
end Go.Av
namespace Go.Av
open Go Go.Proofs Go.RowKit
end Go.Av
namespace Go.Av
open Go Go.Proofs Go.RowKit
attribute [local irreducible] WP WPl WPix Sat
variable (G:Nat→Option (List AVal))
theorem Fin.frzS{h0:Heap}{R:AVal→Heap→Prop}{r0 r:AVal}(hz:Frz h0 h0.length r0 r)(hR:R r h0):Fin h0 h0 R r0:=by
 have:=Fin.frz (h0:=h0) (j:=[]) (R:=R) (r0:=r0) (r:=r) (by simpa using hz) hR
 simpa using this
end Go.Av
namespace Go.Av
open Go Go.Proofs Go.RowKit
attribute [local irreducible] WP WPl WPix Sat
variable (G:Nat→Option (List AVal))
structure OE where
 n:Bs
 a:List At
 t:Bs
 k:List Elem
 q:Nat
 v:Nat
def OE.av(o:OE):AVal:=.agg [.str o.n,.sl 2 (o.a.map At.av),.str o.t,.hs o.q o.v 0 o.k.length true]
variable {H:Heap} {n0 pb po vo pd vd:Nat} {room:Bool} {os:List OE} {ds:List Elem}
end Go.Av
