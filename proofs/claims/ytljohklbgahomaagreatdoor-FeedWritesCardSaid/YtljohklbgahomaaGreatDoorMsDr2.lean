/- Parts. -/
import Derived.Test.YtljohklbgahomaaGreatDoorMsDb
import Derived.Test.YtljohklbgahomaaGreatDoorMsEx1
import Derived.Lib.TrimUEq
set_option linter.unusedSimpArgs false
set_option linter.unusedVariables false
set_option linter.unusedSectionVars false
set_option linter.unnecessarySimpa false
set_option maxRecDepth 100000
set_option maxHeartbeats 16000000
namespace Go.Av
open Go Go.Proofs Go.RowKit
section
def splF(by':UInt8):Bs→List Bs
 | []=>[[]]
 |c::s=>if c=by' then []::splF by' s else match splF by' s with
  | []=>[[c]]
  |w::l=>(c::w)::l
theorem oJ(b:UInt8)(s:Bs):splF b s≠ []:=by
 cases s with
 |nil=>simp[splF]
 |cons c s=>
  unfold splF;split
  ·simp
  ·split<;>simp
def joiB(b:UInt8):List Bs→Bs
 | []=>[]
 | [w]=>w
 |w::l=>w++b::joiB b l
theorem m5(b:UInt8):∀s:Bs,joiB b (splF b s)=s
 | []=>rfl
 |c::s=>by
  have ih:=m5 b s;have hn:=oJ b s;unfold splF;by_cases h:c=b
  ·rw[G5 h];cases hs:splF b s with
   |nil=>exact absurd hs hn
   |cons w l=>rw[hs]at ih;show []++b::joiB b (w::l)=_;rw[ih,h];rfl
  ·rw[G2 h];cases hs:splF b s with
   |nil=>exact absurd hs hn
   |cons w l=>
    rw[hs]at ih;cases l with
    |nil=>show c::w=_;rw[show w=s from ih]
    |cons v l=>show(c::w)++b::joiB b (v::l)=_;rw[← ih];rfl
theorem fO(b:UInt8):∀(a s:Bs),(∀c∈a,c≠b)→splF b (a++b::s)=a::splF b s
 | [],s,_=>by show splF b (b::s)=_;rw[splF,G5 rfl]
 |c::a,s,h=>by
  have ih:=fO b a s fun x hx=>h x (by simp[hx])
  show splF b (c::(a++b::s))=_;rw[splF,G2 (h c (by simp)),ih]
theorem iJ(b:UInt8):∀a:Bs,(∀c∈a,c≠b)→splF b a=[a]
 | [],_=>rfl
 |c::a,h=>by rw[splF,G2 (h c (by simp)),iJ b a fun x hx=>h x (by simp[hx])]
def monL:List Bs:=[[74,97,110],[70,101,98],[77,97,114],[65,112,114],[77,97,121],[74,117,110],[74,117,108],[65,117,103],[83,101,112],[79,99,116],[78,111,118],[68,101,99]]
def ixS(l:List Bs)(s:Bs):Int:=match l.findIdx? (fun x=>decide (x=s))with
 |some i=>i
 |none=> -1
def weekL:List Bs:=[[77,111,110,44],[84,117,101,44],[87,101,100,44],[84,104,117,44],[70,114,105,44],[83,97,116,44],[83,117,110,44]]
def zonL:List Bs:=[[71,77,84],[85,84],[85,84,67],[90],[69,83,84],[69,68,84],[67,83,84],[67,68,84],[77,83,84],[77,68,84],[80,83,84],[80,68,84]]
def hrsL:List Int:=[0,0,0,0, -5, -4, -6, -5, -7, -6, -8, -7]
def namF(s:Bs):Option Int:=match zonL.findIdx? (fun x=>decide (x=s))with
 |some i=>some (3600*hrsL.getD i 0)
 |none=>none
namespace Rdr
def part(s:Bs)(f:Rdr→Int×Rdr):Int×Bool:=((f ⟨s,false⟩).1,(f ⟨s,false⟩).2.bad||decide ((f ⟨s,false⟩).2.s≠ []))
def all(r:Rdr):Int×Rdr:=r.digits r.s.length
def year(r:Rdr):Int×Rdr:=if r.s.length=2 then(if 50≤(r.digits 2).1 then 1900+(r.digits 2).1 else 2000+(r.digits 2).1,(r.digits 2).2)else r.digits 4
def clock(r:Rdr):Int×Rdr:=
 let (h,r1):=r.digits 2
 let r2:=(r1.sign [58]).2
 let (m,r3):=r2.digits 2
 let (c,r4):=if r3.s=[]then(0,r3)else(r3.sign [58]).2.digits 2
 (3600*h+60*m+c,⟨r4.s,r4.bad||(decide (h>23)||(decide (m>59)||decide (c>59)))⟩)
end Rdr
def wrdP(w:List Bs):Option Int:=if w.length=5∧1≤(w.getD 0 []).length∧(w.getD 0 []).length≤2 then
  let (d,b1):=Rdr.part (w.getD 0 []) Rdr.all
  let (y,b2):=Rdr.part (w.getD 2 []) Rdr.year
  let (t,b3):=Rdr.part (w.getD 3 []) Rdr.clock
  let (z,b4):=match namF (w.getD 4 [])with
   |some z=>(z,false)
   |none=>Rdr.part (w.getD 4 []) fun r=>r.off false
  if b1||b2||b3||b4 then none else tellD ⟨y,ixS monL (w.getD 1 [])+1,d,t/3600,t/60%60,t%60⟩ z
 else none
def mailP(s:Bs):Option Int:=wrdP (if (splF 32 s).length=6∧(splF 32 s).getD 0 []∈weekL then(splF 32 s).drop 1 else splF 32 s)
def zonR(s:Bs):Option Int:=match namF s with
 |some z=>some z
 |none=>if s.length≠5 then none else zoneR (s.getD 0 0) ((s.drop 1).take 2) (s.drop 3)
def yearR(s:Bs):Int:=if s.length=2∧50≤num9 s then num9 s+1900 else if s.length=2∧0≤num9 s then num9 s+2000 else num9 s
def zonT(o:Option Int)(x:Dt):Option Int:=match o with
 |none=>none
 |some z=>tellD x z
def clkR(s:Bs):Option (Int×Int×Int):=let t:=splF 58 s
 if (t.length≠2∧t.length≠3)∨t.all (fun x=>decide (x.length=2))=false then none else some (num9 (t.getD 0 []),num9 (t.getD 1 []),if t.length=3 then num9 (t.getD 2 [])else 0)
def wrdR(w:List Bs):Option Int:=if w.length≠5∨2<(w.getD 0 []).length∨((w.getD 2 []).length≠4∧(w.getD 2 []).length≠2)then none else match clkR (w.getD 3 [])with
 |none=>none
 |some (h,m,c)=>zonT (zonR (w.getD 4 [])) ⟨yearR (w.getD 2 []),1+ixS monL (w.getD 1 []),num9 (w.getD 0 []),h,m,c⟩
def mailR(s:Bs):Option Int:=if (splF 32 s).length=6 then(if (splF 32 s).getD 0 []∈weekL then wrdR ((splF 32 s).drop 1)else none)else wrdR (splF 32 s)
theorem ci:∀(s:Bs) (n:Int),0≤n→s.all digB=true→0≤numA n s
 | [],n,h,_=>h
 |c::s,n,h,ha=>by
  simp only[Q5,G1]at ha;have:48≤c.toNat:=by have:=ha.1;simp only[digB,G1,G6]at this;omega
  exact ci s _ (by omega) ha.2
namespace Rdr
theorem digits_of{r:Rdr}{w:Nat}(h:(r.digits w).2.bad=false):∃a:Bs,a.length=w∧a.all digB=true∧r.s=a++(r.digits w).2.s∧r.bad=false∧(r.digits w).1=numA 0 a:=by
 unfold digits at h ⊢;split at h
 ·cases h
 ·rename_i hl;rw[G2 hl];split at h
  ·rename_i ha;rw[G5 ha];exact⟨_,by rw[I6];omega,ha,(S9 w r.s).symm,h,rfl⟩
  ·cases h
theorem sign_of{r:Rdr}{l:Bs}(h:(r.sign l).2.bad=false):∃c,c∈l∧r.s=c::(r.sign l).2.s∧r.bad=false∧(r.sign l).1=(c.toNat:Int):=by
 unfold sign at h ⊢;split at h
 ·cases h
 ·rename_i c t e;rw[e];split at h
  ·rename_i hc;simp only[hc,if_true];exact⟨c,hc,rfl,h,rfl⟩
  ·cases h
theorem digits_app{a t:Bs}{k:Bool}{w:Nat}(hw:a.length=w)(ha:a.all digB=true):(Rdr.mk (a++t) k).digits w=(numA 0 a,⟨t,k⟩):=by
 subst hw;unfold digits;rw[G2 (by simp),List.take_left' rfl,G5 ha,List.drop_left' rfl]
theorem digits_no{a t:Bs}{k:Bool}{w:Nat}(hw:a.length=w)(ha:a.all digB=false):((Rdr.mk (a++t) k).digits w).2.bad=true:=by
 subst hw;unfold digits;rw[G2 (by simp),List.take_left' rfl,G2 (by simp[ha])]
theorem part_all(a:Bs):part a all=if a.all digB then(numA 0 a,false)else(0,true):=by
 have e:all ⟨a,false⟩=if a.all digB then(numA 0 a,⟨[],false⟩)else(0,⟨a,true⟩):=by
  unfold all digits;simp
 unfold part;rw[e];split<;>simp
theorem part_year(a:Bs):((a.length=2∨a.length=4)∧a.all digB=true∧part a year=(yearR a,false))∨(¬((a.length=2∨a.length=4)∧a.all digB=true)∧(part a year).2=true):=by
 by_cases h:(a.length=2∨a.length=4)∧a.all digB=true
 ·refine .inl ⟨h.1,h.2,?_⟩;have hn:=ci a 0 (by omega) h.2;have h9:num9 a=numA 0 a:=by rw[bH (by omega) (by omega),G5 h.2]
  have hd:=digits_app (a:=a) (t:=[]) (k:=false) rfl h.2;rw[J3]at hd;unfold part year yearR;rw[h9];rcases h.1 with h2|h4
  ·rw[h2]at hd;simp only[h2,hd,if_true,true_and];by_cases c:50≤numA 0 a
   ·simp[c];omega
   ·simp[c,hn];omega
  ·rw[h4]at hd;have n2:¬a.length=2:=(by omega);simp[n2,hd]
 ·refine .inr ⟨h,?_⟩;cases hb:(part a year).2 with
  |true=>rfl
  |false=>
   exfalso;unfold part at hb;simp only[R3,decide_eq_false_iff_not,U2]at hb;obtain⟨hb,he⟩:=hb;unfold year at hb he;split at hb
   ·rename_i h2;rw[G5 h2]at he;obtain⟨b,hb1,hb2,hb3,_⟩:=digits_of hb;rw[he,J3]at hb3;have hb3:a=b:=hb3;subst hb3;exact h ⟨.inl hb1,hb2⟩
   ·rename_i h2;rw[G2 h2]at he;obtain⟨b,hb1,hb2,hb3,_⟩:=digits_of hb;rw[he,J3]at hb3;have hb3:a=b:=hb3;subst hb3;exact h ⟨.inr hb1,hb2⟩
theorem part_off(s:Bs):(s.length=5∧∃z,zoneR (s.getD 0 0) ((s.drop 1).take 2) (s.drop 3)=some z∧part s (fun r=>r.off false)=(z,false))∨
  ((s.length≠5∨zoneR (s.getD 0 0) ((s.drop 1).take 2) (s.drop 3)=none)∧(part s fun r=>r.off false).2=true):=by
 cases hb:(part s fun r=>r.off false).2 with
 |false=>
  left;have hp:part s (fun r=>r.off false)=((part s fun r=>r.off false).1,false):=Prod.ext rfl hb;unfold part off at hb;simp only[I4,if_false,R3,decide_eq_false_iff_not,U2]at hb;obtain⟨⟨g0,c1,c2⟩,he⟩:=hb;obtain⟨b,b1,b2,b3,g1,b5⟩:=digits_of g0;obtain⟨a,a1,a2,a3,g2,a5⟩:=digits_of g1;obtain⟨c,d1,d2,_,d4⟩:=sign_of g2;have d2:s=c::_:=d2;rw[he,J3]at b3;rw[b3]at a3;rw[a3]at d2;rw[b5]at c2;rw[a5]at c1;obtain⟨x,y,rfl⟩:∃x y,a=[x,y]:=by match a,a1 with| [x,y],_=>exact⟨x,y,rfl⟩
  obtain⟨u,v,rfl⟩:∃u v,b=[u,v]:=by match b,b1 with| [u,v],_=>exact⟨u,v,rfl⟩
  refine⟨by rw[d2];rfl,_,?_,hp⟩;have hs:(part s fun r=>r.off false).1=if c=45 then -(3600*numA 0 [x,y]+60*numA 0 [u,v])else 3600*numA 0 [x,y]+60*numA 0 [u,v]:=by
   unfold part off;simp only[I4,if_false];rw[b5,a5,d4];have e45:((c.toNat:Int)=45)↔c=45:=⟨fun h=>UInt8.toNat_inj.1 (by simpa using(by omega:c.toNat=45)),fun h=>by rw[h];rfl⟩
   simp only[e45]
  rw[hs];have n1:num9 [x,y]=numA 0 [x,y]:=by rw[bH (by simp) (by simp),G5 a2]
  have n2:num9 [u,v]=numA 0 [u,v]:=by rw[bH (by simp) (by simp),G5 b2]
  have p1:=ci _ 0 (by omega) a2;have p2:=ci _ 0 (by omega) b2;have hc:c=43∨c=45:=by simpa using d1
  rw[d2];unfold zoneR;simp only[L5,P3,P4,K5,J6,L2,M5];rw[n1,n2,G2]
  ·rcases hc with rfl|rfl<;>simp<;>omega
 |true=>
  right;refine⟨?_,rfl⟩;by_cases hl:s.length=5
  rotate_left
  ·exact .inl hl
  right
  match s,hl with
  | [c,x,y,u,v],_=>
  cases hz:zoneR ([c,x,y,u,v].getD 0 0) (([c,x,y,u,v].drop 1).take 2) ([c,x,y,u,v].drop 3)with
  |none=>rfl
  |some z=>
   exfalso;simp only[L5,P3,P4,L2,M5]at hz;unfold zoneR at hz;split at hz
   ·cases hz
   ·rename_i hn;have a2:(digB x&&digB y)=true:=K7 fun k=>hn (by rw[fM k];simp)
    have b2:(digB u&&digB v)=true:=K7 fun k=>hn (by rw[fM k];simp)
    rw[fN a2,fN b2]at hn;have hc:c=43∨c=45:=by
     refine K7 fun k=>hn (.inl ?_)
     simpa using k
    have h1:¬numA 0 [x,y]>23:=fun k=>hn (by simp[k])
    have h2:¬numA 0 [u,v]>59:=fun k=>hn (by simp[k])
    unfold part off at hb;rcases hc with rfl|rfl<;>simp[sign,digits,a2,b2,h1,h2]at hb
end Rdr
theorem Rdr.part_bad{s:Bs}{f:Rdr→Int×Rdr}(h:(f ⟨s,false⟩).2.bad=true):(Rdr.part s f).2=true:=by
 show((f ⟨s,false⟩).2.bad||_)=true;rw[h];rfl
theorem Rdr.clock_bad{r:Rdr}(h:(((r.digits 2).2.sign [58]).2.digits 2).2.bad=true):r.clock.2.bad=true:=by
 unfold Rdr.clock;simp only[];rw[L7];left;split
 ·exact h
 ·exact Rdr.digits_bad (Rdr.sign_bad h)
theorem ft{a:Bs}(h:a.all digB=true):∀c∈a,c≠58:=fun c hc e=>by
 have:=I0.1 h c hc;rw[e]at this;exact absurd this (by decide)
theorem xz(s:Bs):match clkR s with
  |none=>(Rdr.part s Rdr.clock).2=true
  |some (h,m,c)=>if 0≤h∧h≤23∧0≤m∧m≤59∧0≤c∧c≤59 then Rdr.part s Rdr.clock=(3600*h+60*m+c,false)else(Rdr.part s Rdr.clock).2=true:=by
 cases hr:clkR s with
 |none=>
  cases hb:(Rdr.part s Rdr.clock).2 with
  |true=>rfl
  |false=>
   exfalso;unfold Rdr.part Rdr.clock at hb;simp only[R3,decide_eq_false_iff_not,U2]at hb;obtain⟨⟨g0,_⟩,he⟩:=hb;split at g0
   ·rename_i h0;rw[G5 h0]at he;obtain⟨b,b1,b2,b3,g1,_⟩:=Rdr.digits_of g0;obtain⟨x,d1,d2,g2,_⟩:=Rdr.sign_of g1;obtain⟨a,a1,a2,a3,_⟩:=Rdr.digits_of g2;have a3:s=a++_:=a3;rw[h0,J3]at b3;rw[d2,b3,L8.1 d1]at a3;unfold clkR at hr;rw[a3,fO 58 a b (ft a2),iJ 58 b (ft b2)]at hr;simp[a1,b1]at hr
   ·rename_i h0;rw[G2 h0]at he;obtain⟨c,c1,c2,c3,g1,_⟩:=Rdr.digits_of g0;obtain⟨y,e1,e2,g2,_⟩:=Rdr.sign_of g1;obtain⟨b,b1,b2,b3,g3,_⟩:=Rdr.digits_of g2;obtain⟨x,d1,d2,g4,_⟩:=Rdr.sign_of g3;obtain⟨a,a1,a2,a3,_⟩:=Rdr.digits_of g4;have a3:s=a++_:=a3;rw[he,J3]at c3;rw[d2,b3,e2,c3,L8.1 d1,L8.1 e1]at a3;unfold clkR at hr;rw[a3,fO 58 a _ (ft a2),fO 58 b c (ft b2),iJ 58 c (ft c2)]at hr;simp[a1,b1,c1]at hr
 |some v=>
  obtain⟨h,m,c⟩:=v;have hj:=m5 58 s;unfold clkR at hr;simp only[]at hr;split at hr
  ·cases hr
  rename_i hc;simp only[H7,Prod.mk.injEq]at hr;simp only[not_or,not_and,U2,Bool.not_eq_false,I0,G6]at hc;generalize splF 58 s=t at*;obtain⟨hc1,hc2⟩:=hc;obtain⟨r1,r2,r3⟩:=hr;have hl:t.length=2∨t.length=3:=by by_cases k:t.length=2;exact .inl k;exact .inr (hc1 k)
  simp only[];have n9:∀a:Bs,a.length=2→num9 a=if a.all digB then numA 0 a else-1:=fun a ha=>bH (by omega) (by omega)
  rcases hl with hl|hl
  ·match t,hl with
   | [a,b],_=>
   have la:=hc2 a (by simp);have lb:=hc2 b (by simp);have hj:a++58::b=s:=hj;subst hj;simp only[L5,N7,G0,G8]at r1 r2 r3;rw[n9 a la]at r1;rw[n9 b lb]at r2;have r3:c=0:=(by simpa using r3.symm);subst r3;cases ka:a.all digB with
   |false=>
    rw[ka]at r1;have r1:h= -1:=(by simpa using r1.symm);rw[G2 (by omega)];exact Rdr.part_bad (Rdr.clock_bad (Rdr.digits_bad (Rdr.sign_bad (Rdr.digits_no la ka))))
   |true=>
    rw[ka,G5 rfl]at r1;cases kb:b.all digB with
    |false=>
     rw[kb]at r2;have r2:m= -1:=(by simpa using r2.symm);rw[G2 (by omega)];have:=Rdr.digits_no (a:=b) (t:=[]) (k:=false) lb kb;rw[J3]at this;exact Rdr.part_bad (Rdr.clock_bad (by rw[Rdr.digits_app la ka];simp only[gy,L8,if_true];exact this))
    |true=>
     rw[kb,G5 rfl]at r2;have pa:=ci a 0 (by omega) ka;have pb:=ci b 0 (by omega) kb;have hd:=Rdr.digits_app (a:=b) (t:=[]) (k:=false) lb kb;rw[J3]at hd;have ht:Rdr.clock ⟨a++58::b,false⟩=(3600*h+60*m+0,⟨[],decide (h>23)||(decide (m>59)||decide ((0:Int)>59))⟩):=by
      unfold Rdr.clock;rw[Rdr.digits_app la ka];simp only[gy,L8,if_true];rw[hd];simp[r1,r2]
     unfold Rdr.part;rw[ht];subst r1;subst r2;by_cases k1:numA 0 a≤23
     ·by_cases k2:numA 0 b≤59
      ·rw[G5 ⟨pa,k1,pb,k2,by omega,by omega⟩];have:¬numA 0 a>23:=by omega
       have:¬numA 0 b>59:=by omega
       simp[*]
      ·rw[G2 (by omega)];simp[show numA 0 b>59 by omega]
     ·rw[G2 (by omega)];simp[show numA 0 a>23 by omega]
  ·match t,hl with
   | [a,b,d],_=>
   have la:=hc2 a (by simp);have lb:=hc2 b (by simp);have ld:=hc2 d (by simp);have hj:a++58::(b++58::d)=s:=hj;subst hj;simp only[L5,N7,G0,G8]at r1 r2 r3;rw[n9 a la]at r1;rw[n9 b lb]at r2;rw[n9 d ld]at r3;simp only[if_true]at r3;cases ka:a.all digB with
   |false=>
    rw[ka]at r1;have r1:h= -1:=(by simpa using r1.symm);rw[G2 (by omega)];exact Rdr.part_bad (Rdr.clock_bad (Rdr.digits_bad (Rdr.sign_bad (Rdr.digits_no la ka))))
   |true=>
    rw[ka,G5 rfl]at r1;cases kb:b.all digB with
    |false=>
     rw[kb]at r2;have r2:m= -1:=(by simpa using r2.symm);rw[G2 (by omega)];exact Rdr.part_bad (Rdr.clock_bad (by rw[Rdr.digits_app la ka];simp only[gy,L8,if_true];exact Rdr.digits_no lb kb))
    |true=>
     rw[kb,G5 rfl]at r2;have pa:=ci a 0 (by omega) ka;have pb:=ci b 0 (by omega) kb;cases kd:d.all digB with
     |false=>
      rw[kd]at r3;have r3:c= -1:=(by simpa using r3.symm);rw[G2 (by omega)];have:=Rdr.digits_no (a:=d) (t:=[]) (k:=false) ld kd;rw[J3]at this;refine Rdr.part_bad ?_;unfold Rdr.clock;rw[Rdr.digits_app la ka];simp only[gy,L8,if_true];rw[Rdr.digits_app lb kb];simp[gy,this]
     |true=>
      rw[kd,G5 rfl]at r3;have pd:=ci d 0 (by omega) kd;have hd:=Rdr.digits_app (a:=d) (t:=[]) (k:=false) ld kd;rw[J3]at hd;have ht:Rdr.clock ⟨a++58::(b++58::d),false⟩=(3600*h+60*m+c,⟨[],decide (h>23)||(decide (m>59)||decide (c>59))⟩):=by
       unfold Rdr.clock;rw[Rdr.digits_app la ka];simp only[gy,L8,if_true];rw[Rdr.digits_app lb kb];simp[gy,hd,r1,r2,r3]
      unfold Rdr.part;rw[ht];subst r1;subst r2;subst r3;by_cases k1:numA 0 a≤23
      ·by_cases k2:numA 0 b≤59
       ·by_cases k3:numA 0 d≤59
        ·rw[G5 ⟨pa,k1,pb,k2,pd,k3⟩];have:¬numA 0 a>23:=by omega
         have:¬numA 0 b>59:=by omega
         have:¬numA 0 d>59:=by omega
         simp[*]
        ·rw[G2 (by omega)];simp[show numA 0 d>59 by omega]
       ·rw[G2 (by omega)];simp[show numA 0 b>59 by omega]
      ·rw[G2 (by omega)];simp[show numA 0 a>23 by omega]
theorem i9{o:Option Int}{x:Dt}(h:okD x=false):zonT o x=none:=by
 unfold zonT;split
 ·rfl
 ·exact iI h
theorem zx{x:Dt}(h:¬(0≤x.h∧x.h≤23∧0≤x.i∧x.i≤59∧0≤x.s∧x.s≤59)):okD x=false:=by
 cases hk:okD x with
 |false=>rfl
 |true=>
  unfold okD at hk;simp only[G1,G6]at hk;exact absurd ⟨hk.1.1.1.1.1.2,hk.1.1.1.1.2,hk.1.1.1.2,hk.1.1.2,hk.1.2,hk.2⟩ h
theorem rF(w:List Bs):wrdP w=wrdR w:=by
 by_cases hl:w.length=5
 rotate_left
 ·unfold wrdP wrdR;rw[G2 (fun h=>hl h.1),G5 (.inl hl)]
 match w,hl with
 | [a,b,c,d,e],_=>
 unfold wrdP wrdR;simp only[L5,N7,G0,G8,L0,Nat.reduceAdd,true_and,ne_eq,not_true_eq_false,false_or];by_cases h2:2<a.length
 ·rw[G2 (by omega),G5 (.inl h2)]
 by_cases hy:c.length=2∨c.length=4
 rotate_left
 ·have hw:(Rdr.part c Rdr.year).2=true:=by
   obtain⟨k,_⟩| ⟨_,k⟩:=Rdr.part_year c
   ·exact absurd k hy
   ·exact k
  rw[G5 (show 2<a.length∨¬c.length=4∧¬c.length=2 from .inr (by omega))];by_cases h1:1≤a.length∧a.length≤2
  ·rw[G5 h1];simp[hw]
  ·rw[G2 h1]
 rw[G2 (show ¬(2<a.length∨¬c.length=4∧¬c.length=2) by omega)];have hck:=xz d;by_cases h1:1≤a.length
 rotate_left
 ·rw[G2 (by omega)];have:num9 a= -1:=by unfold num9;rw[G5 (.inl (by omega))]
  split
  ·rfl
  ·exact(i9 (pQ this)).symm
 rw[G5 ⟨h1,by omega⟩,Rdr.part_all];have n9:num9 a=if a.all digB then numA 0 a else-1:=bH h1 (by omega)
 cases ka:a.all digB with
 |false=>
  rw[ka]at n9;simp only[I4,if_false,M4,if_true]at n9 ⊢;split
  ·rfl
  ·exact(i9 (pQ n9)).symm
 |true=>
 rw[ka,G5 rfl]at n9;simp only[if_true,O9];obtain⟨_,hy2,hy3⟩| ⟨hy2,hy3⟩:=Rdr.part_year c
 rotate_left
 ·rw[hy3];simp only[M4,if_true];have hcd:¬c.all digB=true:=fun k=>hy2 ⟨hy,k⟩
  have:yearR c= -1:=by
   unfold yearR;rw[bH (by omega) (by omega),G2 hcd,G2 (by omega),G2 (by omega)]
  split
  ·rfl
  ·exact(i9 (vu this)).symm
 rw[hy3];simp only[O9];cases hk:clkR d with
 |none=>
  rw[hk]at hck;simp only[]at hck;rw[hck];simp
 |some v=>
  obtain⟨h,m,s⟩:=v;rw[hk]at hck;simp only[]at hck ⊢;split at hck
  rotate_left
  ·rename_i hr;rw[hck];simp only[M4,if_true];exact(i9 (zx hr)).symm
  rename_i hr;rw[hck,n9];simp only[O9];obtain⟨q1,q2,q3,q4,q5,q6⟩:=hr;have e0:(3600*h+60*m+s)/60=60*h+m:=by omega
  have e1:(3600*h+60*m+s)/3600=h:=by omega
  have e2:(3600*h+60*m+s)/60%60=m:=by rw[e0];omega
  have e3:(3600*h+60*m+s)%60=s:=by omega
  rw[e1,e2,e3,Int.add_comm 1];unfold zonR;cases hz:namF e with
  |some z=>rfl
  |none=>
   obtain⟨k1,z,k2,k3⟩| ⟨k1,k2⟩:=Rdr.part_off e
   ·simp only[];rw[k3,G2 (show ¬e.length≠5 by omega),k2];rfl
   ·simp only[];rw[k2,G5 rfl];by_cases hl5:e.length=5
    ·rw[G2 (show ¬e.length≠5 by omega),k1.resolve_left (by omega)];rfl
    ·rw[G5 hl5];rfl
theorem vK(s:Bs):mailP s=mailR s:=by
 unfold mailP mailR;by_cases h6:(splF 32 s).length=6
 ·rw[G5 h6];by_cases hw:(splF 32 s).getD 0 []∈weekL
  ·rw[G5 ⟨h6,hw⟩,G5 hw,rF]
  ·rw[G2 (fun h=>hw h.2),G2 hw];unfold wrdP;rw[G2 (by omega)]
 ·rw[G2 (fun h=>h6 h.1),G2 h6,rF]
end
section
attribute [local irreducible] WP WPl WPix Sat
variable (G:Nat→Option (List AVal))
def bytA(b:UInt8):AVal:=.int .u8 b.toNat
def bldR(a:AVal)(q v:Nat)(s:Bs):Blk:=.row 59 2 0 [.agg [a,.hs q v 0 s.length true]]
def bufR(v:Nat)(s:Bs):Blk:=.row 5 1 v (s.map bytA)
def bldA(a:AVal)(p:Nat):Prop:=a=.nil (.pointer none)∨a=.hp p 0 0 0
theorem fP(s:Bs):bytesA (s.map bytA)=some s:=by
 induction s with
 |nil=>rfl
 |cons b s ih=>
  have hb:(UInt8.ofNat (b.toNat:Int).toNat)=b:=by simp
  simp only[J7,bytA,bytesA,hb,if_true];show(bytesA (s.map bytA)).map _=_;rw[ih];rfl
@[go_sem] theorem zy(a:AVal)(q v:Nat)(s:Bs)(l:Heap):getRow (bldR a q v s::l) 0 0=some (59,2,[.agg [a,.hs q v 0 s.length true]]):=rfl
theorem aO(v:Nat)(s:Bs)(l:Heap):getRow (bufR v s::l) 0 v=some (5,1,s.map bytA):=by simp[getRow,bufR]
theorem pR:ptrConv Tryz.prog 56 124 59 2=true:=by kernel_rfl
theorem m6:ptrConv Tryz.prog 124 56 59 2=true:=by kernel_rfl
theorem xA:ptrT Tryz.prog 56=true:=by kernel_rfl
attribute [go_sem] pR m6
theorem vL(n p q v:Nat)(s:Bs)(hp:p<n)(hq:q<n):CloB n (bldR (.hp p 0 0 0) q v s):=by
 intro r hr;simp only[L8]at hr;subst hr;refine .agg _ fun c hc=>?_
 simp only[J5,P7,or_false]at hc;rcases hc with rfl|rfl
 ·exact .hp _ _ _ _ hp
 ·exact .hs _ _ _ _ _ hq
theorem ib(n v:Nat)(s:Bs):CloB n (bufR v s):=by
 intro r hr;obtain⟨b,_,rfl⟩:=K6.1 hr;exact .int _ _
theorem m7(h:Heap)(p:Nat)(hr:(getRow h p 0).isSome=true):abin Tryz.prog h .neq 56 (.hp p 0 0 0) (.hp p 0 0 0)=some (.bool false):=by
 simp[abin,hr,xA]
theorem kx(h:Heap)(p:Nat)(x:TypeId×Nat×List AVal)(hr:getRow h p 0=some x):abin Tryz.prog h .eql 56 (.hp p 0 0 0) (.nil (.pointer none))=some (.bool false):=by
 have hk:nilKind Tryz.prog 56 (.pointer none)=true:=by kernel_rfl
 simp[abin,hk,aeqNil,hr]
theorem oK(h:Heap):abin Tryz.prog h .eql 56 (.nil (.pointer none)) (.nil (.pointer none))=some (.bool true):=by
 have hk:nilKind Tryz.prog 56 (.pointer none)=true:=by kernel_rfl
 simp[abin,hk,aeqNil]
theorem vw{h j:Heap}{x y x' y':Blk}{n:Nat}(hx:CloB n x')(hy:CloB n y'):∀(p:Nat) (k:Blk),(h++x'::y'::j)[p]? =some k→(h++x::y::j)[p]? =some k∨CloB n k:=by
 intro p k hk;rcases P6 p h.length with h1|h1
 ·rw[G9 h1]at hk ⊢;exact .inl hk
 ·rw[H8 h1]at hk ⊢
  match p-h.length,hk with
  |0,hk=>simp at hk;subst hk;exact .inr hx
  |1,hk=>simp at hk;subst hk;exact .inr hy
  |i+2,hk=>exact .inl (by simpa using hk)
def bldH(h j:Heap)(a:AVal)(v:Nat)(s:Bs):Heap:=h++bldR a (h.length+1) v s::bufR v s::j
theorem bU(h j:Heap)(a:AVal)(v:Nat)(s:Bs):(bldH h j a v s).length=h.length+(2+j.length):=by simp[bldH];omega
theorem eX(h j:Heap)(a:AVal)(v v':Nat)(s s':Bs):∀(p:Nat) (k:Blk),(bldH h j (.hp h.length 0 0 0) v' s')[p]? =some k→(bldH h j a v s)[p]? =some k∨CloB (bldH h j a v s).length k:=by
 rw[bU];exact vw (vL _ _ _ _ _ (by omega) (by omega)) (ib _ _ _)
theorem dQ(a:AVal)(h j:Heap)(v:Nat)(s:Bs)(ha:bldA a h.length):
  Sat (CT G) 60 [.hp h.length 0 0 0] (bldH h j a v s) (fun r h'=>r=.tup []∧h'=bldH h j (.hp h.length 0 0 0) v s):=by
 have hK:=eX h j a v v s s;have hl:=(bU h j (.hp h.length 0 0 0) v s).trans (bU h j a v s).symm;have hfin:∀t',Fin (bldH h j a v s) (bldH h j (.hp h.length 0 0 0) v s) (fun r h'=>r=.tup []∧h'=bldH h j (.hp h.length 0 0 0) v s) t'∨True:=fun _=>.inr trivial
 have end_:Fin (bldH h j a v s) (bldH h j (.hp h.length 0 0 0) v s) (fun r h'=>r=.tup []∧h'=bldH h j (.hp h.length 0 0 0) v s) (.tup []):=V0 hl hK (.tup _ (by simp)) ⟨rfl,rfl⟩;clear hfin hK hl;unfold bldH at*;refine sb [] Tryz.func60 ?_;intro Q hQ;refine ah trivial ?_;rcases ha with rfl|rfl
 ·rw[jY,oK];simp(disch:=first|omega| (simp only[go_sem, ↓reduceIte,Nat.reduceEqDiff];done)|fail) only[go_sem, ↓reduceIte,Int.reduceToNat,Int.reduceLE,Int.reduceLT,Int.reduceSub,Int.reduceAdd,Nat.reduceEqDiff,Nat.reduceAdd,Nat.reduceLeDiff,Nat.reduceLT,Nat.reduceMul,Nat.reduceSub];refine ah trivial ?_;refine⟨by simp,?_⟩;refine(eJ G _ _).mono ?_;rintro r h' ⟨rfl,rfl⟩;simp(disch:=first|omega| (simp only[go_sem, ↓reduceIte,Nat.reduceEqDiff];done)|fail) only[go_sem, ↓reduceIte,Int.reduceToNat,Int.reduceLE,Int.reduceLT,Int.reduceSub,Int.reduceAdd,Nat.reduceEqDiff,Nat.reduceAdd,Nat.reduceLeDiff,Nat.reduceLT,Nat.reduceMul,Nat.reduceSub,List.cons_ne_nil];refine(hQ _ _ ?_).2;simp(disch:=first|omega| (simp only[go_sem, ↓reduceIte,Nat.reduceEqDiff];done)|fail) only[go_sem, ↓reduceIte,Int.reduceToNat,Int.reduceLE,Int.reduceLT,Int.reduceSub,Int.reduceAdd,Nat.reduceEqDiff,Nat.reduceAdd,Nat.reduceLeDiff,Nat.reduceLT,Nat.reduceMul,Nat.reduceSub];exact end_
 ·rw[lK,kx _ _ _ (by simp(disch:=first|omega| (simp only[go_sem, ↓reduceIte,Nat.reduceEqDiff];done)|fail) only[go_sem, ↓reduceIte,Int.reduceToNat,Int.reduceLE,Int.reduceLT,Int.reduceSub,Int.reduceAdd,Nat.reduceEqDiff,Nat.reduceAdd,Nat.reduceLeDiff,Nat.reduceLT,Nat.reduceMul,Nat.reduceSub];rfl)];simp(disch:=first|omega| (simp only[go_sem, ↓reduceIte,Nat.reduceEqDiff];done)|fail) only[go_sem, ↓reduceIte,Int.reduceToNat,Int.reduceLE,Int.reduceLT,Int.reduceSub,Int.reduceAdd,Nat.reduceEqDiff,Nat.reduceAdd,Nat.reduceLeDiff,Nat.reduceLT,Nat.reduceMul,Nat.reduceSub];refine ah trivial ?_;rw[m7 _ _ (by exact aC trivial)];simp(disch:=first|omega| (simp only[go_sem, ↓reduceIte,Nat.reduceEqDiff];done)|fail) only[go_sem, ↓reduceIte,Int.reduceToNat,Int.reduceLE,Int.reduceLT,Int.reduceSub,Int.reduceAdd,Nat.reduceEqDiff,Nat.reduceAdd,Nat.reduceLeDiff,Nat.reduceLT,Nat.reduceMul,Nat.reduceSub];refine ah trivial ?_;refine(hQ _ _ ?_).2;simp(disch:=first|omega| (simp only[go_sem, ↓reduceIte,Nat.reduceEqDiff];done)|fail) only[go_sem, ↓reduceIte,Int.reduceToNat,Int.reduceLE,Int.reduceLT,Int.reduceSub,Int.reduceAdd,Nat.reduceEqDiff,Nat.reduceAdd,Nat.reduceLeDiff,Nat.reduceLT,Nat.reduceMul,Nat.reduceSub];exact end_
theorem cd:byT Tryz.prog 5=some 1:=by kernel_rfl
theorem ky(h:Heap)(x:Bs):elemsOf h 1 (.str x)=some (x.map bytA):=rfl
theorem cH(h:Heap)(es:List AVal):elemsOf h 1 (.sl 1 es)=some es:=by simp[elemsOf]
theorem dJ:(zroT Tryz.prog 5).map (fun z=>z.cells.length)=some 1:=by simp only[go_sem]
theorem bf(a:AVal)(h j:Heap)(v:Nat)(s x:Bs)(ha:bldA a h.length)(hs:s.length+x.length≤1073741824):
  Sat (CT G) 31 [.hp h.length 0 0 0,.str x] (bldH h j a v s) (fun r h'=>r=.tup [.int .i64 x.length,.nil .nilIface]∧h'=bldH h j (.hp h.length 0 0 0) (v+1) (s++x)):=by
 have end_:Fin (bldH h j a v s) (bldH h j (.hp h.length 0 0 0) (v+1) (s++x)) (fun r h'=>r=.tup [.int .i64 x.length,.nil .nilIface]∧h'=bldH h j (.hp h.length 0 0 0) (v+1) (s++x)) (.tup [.int .i64 x.length,.nil .nilIface]):=
  V0 ((bU ..).trans (bU ..).symm) (eX _ _ _ _ _ _ _) (.tup _ (by intro c hc;simp at hc;rcases hc with rfl|rfl;exact .int _ _;exact .nil _)) ⟨rfl,rfl⟩
 refine sb [.tmp 4,.tmp 5] Tryz.func31 ?_;intro Q hQ;refine ah trivial ?_;refine(dQ G a h j v s ha).mono ?_;rintro r h' ⟨rfl,rfl⟩;unfold bldH at*;try refine ai trivial ?_
 refine ah trivial ?_;refine bx (.inr (by exact aC trivial)) (by exact aC trivial) (by exact aC trivial) cd dJ (by omega) (ky _ x) (by simp(disch:=first|omega| (simp only[go_sem, ↓reduceIte,Nat.reduceEqDiff];done)|fail) only[go_sem, ↓reduceIte,Int.reduceToNat,Int.reduceLE,Int.reduceLT,Int.reduceSub,Int.reduceAdd,Nat.reduceEqDiff,Nat.reduceAdd,Nat.reduceLeDiff,Nat.reduceLT,Nat.reduceMul,Nat.reduceSub,aO];rfl) (by simp) ?_ ?_
 ·simp[maxLen];omega
 simp(disch:=first|omega| (simp only[go_sem, ↓reduceIte,Nat.reduceEqDiff];done)|fail) only[go_sem, ↓reduceIte,Int.reduceToNat,Int.reduceLE,Int.reduceLT,Int.reduceSub,Int.reduceAdd,Nat.reduceEqDiff,Nat.reduceAdd,Nat.reduceLeDiff,Nat.reduceLT,Nat.reduceMul,Nat.reduceSub];refine ah trivial ?_;refine(hQ _ _ ?_).1;simp(disch:=first|omega| (simp only[go_sem, ↓reduceIte,Nat.reduceEqDiff];done)|fail) only[go_sem, ↓reduceIte,Int.reduceToNat,Int.reduceLE,Int.reduceLT,Int.reduceSub,Int.reduceAdd,Nat.reduceEqDiff,Nat.reduceAdd,Nat.reduceLeDiff,Nat.reduceLT,Nat.reduceMul,Nat.reduceSub];simp only[bldR,bufR,G4,M1,I7]at end_ ⊢;exact end_
theorem bW(a:AVal)(h j:Heap)(v:Nat)(s:Bs)(b:UInt8)(ha:bldA a h.length)(hs:s.length+1≤1073741824):
  Sat (CT G) 79 [.hp h.length 0 0 0,.int .u8 b.toNat] (bldH h j a v s) (fun r h'=>r=.nil .nilIface∧h'=bldH h j (.hp h.length 0 0 0) (v+1) (s++[b])):=by
 have end_:Fin (bldH h j a v s) (bldH h j (.hp h.length 0 0 0) (v+1) (s++[b])) (fun r h'=>r=.nil .nilIface∧h'=bldH h j (.hp h.length 0 0 0) (v+1) (s++[b])) (.nil .nilIface):=
  V0 ((bU ..).trans (bU ..).symm) (eX _ _ _ _ _ _ _) (.nil _) ⟨rfl,rfl⟩
 refine sb [.tmp 4] Tryz.func79 ?_;intro Q hQ;refine ah trivial ?_;refine(dQ G a h j v s ha).mono ?_;rintro r h' ⟨rfl,rfl⟩;unfold bldH at*;try refine ai trivial ?_
 refine ah trivial ?_;refine bx (.inl rfl) (by exact aC trivial) (by exact aC trivial) cd dJ (by omega) (cH _ _) (by simp(disch:=first|omega| (simp only[go_sem, ↓reduceIte,Nat.reduceEqDiff];done)|fail) only[go_sem, ↓reduceIte,Int.reduceToNat,Int.reduceLE,Int.reduceLT,Int.reduceSub,Int.reduceAdd,Nat.reduceEqDiff,Nat.reduceAdd,Nat.reduceLeDiff,Nat.reduceLT,Nat.reduceMul,Nat.reduceSub,aO];rfl) (by simp) ?_ ?_
 ·simp[maxLen];omega
 simp(disch:=first|omega| (simp only[go_sem, ↓reduceIte,Nat.reduceEqDiff];done)|fail) only[go_sem, ↓reduceIte,Int.reduceToNat,Int.reduceLE,Int.reduceLT,Int.reduceSub,Int.reduceAdd,Nat.reduceEqDiff,Nat.reduceAdd,Nat.reduceLeDiff,Nat.reduceLT,Nat.reduceMul,Nat.reduceSub];refine ah trivial ?_;refine az hQ trivial ?_;simp only[bldR,bufR,G4,M1,G0,G8,J7,N2,bytA,L0]at end_ ⊢;exact end_
theorem vN(a:AVal)(h j:Heap)(v:Nat)(s:Bs):Sat (CT G) 77 [.hp h.length 0 0 0] (bldH h j a v s) (fun r h'=>r=.int .i64 s.length∧h'=bldH h j a v s):=by
 have end_:Fin (bldH h j a v s) (bldH h j a v s) (fun r h'=>r=.int .i64 s.length∧h'=bldH h j a v s) (.int .i64 s.length):=J9 (.int _ _) ⟨rfl,rfl⟩;unfold bldH at*;have F:= @aO;refine sb [.tmp 2] Tryz.func77 ?_;intro Q hQ;refine ah F ?_;refine ah F ?_;refine az hQ F ?_;exact end_
theorem rG:bptr Tryz.prog 87 5=true:=by kernel_rfl
theorem fQ(a:AVal)(h j:Heap)(v:Nat)(s:Bs):Sat (CT G) 34 [.hp h.length 0 0 0] (bldH h j a v s) (fun r h'=>r=.str s∧∃b,h'=h++bldR a (h.length+1) v s::b::j):=by
 unfold bldH;have F:= @aO;refine sb [.tmp 2] Tryz.func34 ?_;intro Q hQ;refine ah F ?_;have fin:∀b,Fin (h++bldR a (h.length+1) v s::bufR v s::j) (h++bldR a (h.length+1) v s::b::j) (fun r h'=>r=.str s∧∃b,h'=h++bldR a (h.length+1) v s::b::j) (.str s)∨¬(b=bufR v s∨b=.dead):=fun b=>by
  by_cases hb:b=bufR v s∨b=.dead
  ·refine .inl (V0 (by simp) (fun p k hk=>?_) (.str _) ⟨rfl,b,rfl⟩);rcases P6 p h.length with h1|h1
   ·rw[G9 h1]at hk ⊢;exact .inl hk
   ·rw[H8 h1]at hk ⊢
    match p-h.length,hk with
    |0,hk=>exact .inl (by simpa using hk)
    |1,hk=>
     simp at hk;subst hk;rcases hb with rfl|rfl
     ·exact .inl (by simp)
     ·exact .inr trivial
    |i+2,hk=>exact .inl (by simpa using hk)
  ·exact .inr hb
 rcases Nat.eq_zero_or_pos s.length with h0|h0
 ·have hs:s=[]:=L3.1 h0;subst hs;simp(disch:=first|omega| (simp only[go_sem, ↓reduceIte,Nat.reduceEqDiff];done)|fail) only[go_sem, ↓reduceIte,Int.reduceToNat,Int.reduceLE,Int.reduceLT,Int.reduceSub,Int.reduceAdd,Nat.reduceEqDiff,Nat.reduceAdd,Nat.reduceLeDiff,Nat.reduceLT,Nat.reduceMul,Nat.reduceSub,F,G8,Nat.lt_irrefl,Int.natCast_zero];refine ah F ?_;refine az hQ F ?_;rcases fin (bufR v [])with f|f
  ·exact f
  ·exact absurd (.inl rfl) f
 ·simp(disch:=first|omega| (simp only[go_sem, ↓reduceIte,Nat.reduceEqDiff];done)|fail) only[go_sem, ↓reduceIte,Int.reduceToNat,Int.reduceLE,Int.reduceLT,Int.reduceSub,Int.reduceAdd,Nat.reduceEqDiff,Nat.reduceAdd,Nat.reduceLeDiff,Nat.reduceLT,Nat.reduceMul,Nat.reduceSub,F,h0];refine lL h0 (by simp(disch:=first|omega| (simp only[go_sem, ↓reduceIte,Nat.reduceEqDiff];done)|fail) only[go_sem, ↓reduceIte,Int.reduceToNat,Int.reduceLE,Int.reduceLT,Int.reduceSub,Int.reduceAdd,Nat.reduceEqDiff,Nat.reduceAdd,Nat.reduceLeDiff,Nat.reduceLT,Nat.reduceMul,Nat.reduceSub,F];rfl) rG (by simp) (by rw[H9 (by simp)];exact fP s) ?_;try refine ai F ?_
  refine ah F ?_;refine az hQ F ?_;rcases fin .dead with f|f
  ·exact f
  ·exact absurd (.inr rfl) f
def enc(r:Int):Bs:=(Utf8.encode r).data.toList
def Rune(r:Int):Prop:=0≤r∧(r<55296∨57343<r∧r≤1114111)
theorem Rune.valid{r:Int}(h:Rune r):Utf8.valid r=true:=by
 unfold Utf8.valid;obtain⟨h0,h1⟩:=h;simp;omega
theorem ba(n:Nat)(h:n<256):bytA (UInt8.ofNat n)=.int .u8 n:=by
 simp[bytA];omega
theorem xB{r:Int}(h0:0≤r)(h1:r<128):(enc r).map bytA=[.int .u8 r]:=by
 have hv:=Rune.valid (r:=r) ⟨h0,by omega⟩;unfold enc Utf8.encode;simp only[hv,if_true];rw[G5 (by omega)];simp only[J7,N2];rw[ba _ (by omega)];simp only[R9,AVal.int.injEq,and_true,true_and];omega
theorem xC{r:Int}(h0:128≤r)(h1:r<2048):(enc r).map bytA=[.int .u8 (192+r/64),.int .u8 (128+r%64)]:=by
 have hv:=Rune.valid (r:=r) ⟨by omega,by omega⟩;unfold enc Utf8.encode;simp only[hv,if_true];rw[G2 (by omega),G5 (by omega)];simp only[J7,N2];rw[ba _ (by omega),ba _ (by omega)];simp only[R9,AVal.int.injEq,and_true,true_and];omega
theorem tX{r:Int}(h:Rune r)(h0:2048≤r)(h1:r<65536):(enc r).map bytA=[.int .u8 (224+r/4096),.int .u8 (128+r/64%64),.int .u8 (128+r%64)]:=by
 have hv:=h.valid;unfold enc Utf8.encode;simp only[hv,if_true];rw[G2 (by omega),G2 (by omega),G5 (by omega)];simp only[J7,N2];rw[ba _ (by omega),ba _ (by omega),ba _ (by omega)];simp only[R9,AVal.int.injEq,and_true,true_and];omega
theorem xD{r:Int}(h0:65536≤r)(h1:r≤1114111):(enc r).map bytA=[.int .u8 (240+r/262144),.int .u8 (128+r/4096%64),.int .u8 (128+r/64%64),.int .u8 (128+r%64)]:=by
 have hv:=Rune.valid (r:=r) ⟨by omega,by omega⟩;unfold enc Utf8.encode;simp only[hv,if_true];rw[G2 (by omega),G2 (by omega),G2 (by omega)];simp only[J7,N2];rw[ba _ (by omega),ba _ (by omega),ba _ (by omega),ba _ (by omega)];simp only[R9,AVal.int.injEq,and_true,true_and];omega
theorem dc(r:Int):1≤(enc r).length∧(enc r).length≤4:=by
 unfold enc Utf8.encode;simp only[];generalize (if Utf8.valid r=true then r.toNat else Utf8.runeError)=c;by_cases h1:c<128
 ·rw[G5 h1];exact⟨by simp,by simp⟩
 ·rw[G2 h1];by_cases h2:c<2048
  ·rw[G5 h2];exact⟨by simp,by simp⟩
  ·rw[G2 h2];by_cases h3:c<65536
   ·rw[G5 h3];exact⟨by simp,by simp⟩
   ·rw[G2 h3];exact⟨by simp,by simp⟩
theorem jG(P:Program)(h:Heap)(T:TypeId)(a b:Int)(k:IntKind)(hb:0≤b)(hb2:b<32):abin P h .shr T (.int .i32 a) (.int k b)=some (.int .i32 (a/2^b.toNat)):=by
 simp only[abin];rw[G2 (by omega)];have:min b.toNat (IntKind.bits .i32)=b.toNat:=by simp[IntKind.bits];omega
 rw[this,Int.fdiv_eq_ediv_of_nonneg _ (by exact Int.le_of_lt (Int.pow_pos (by omega)))]
theorem wrap_u8(x:Int):IntKind.wrap .u8 x=x%256:=IntKind.wrap_u8 x
theorem wrap_u32(x:Int)(h0:0≤x)(h1:x<4294967296):IntKind.wrap .u32 x=x:=by rw[IntKind.wrap_u32];omega
theorem ic(n m:Nat)(h:n+m<256)(hh:∀x:_root_.Fin 256,x.val≤m→(BitVec.ofInt 8 n|||BitVec.ofInt 8 (x.val:Int)).toNat=n+x.val)(x:Int)(h0:0≤x)(h1:x≤m):aint .or .u8 n x=some (.int .u8 (n+x)):=by
 have e:(BitVec.ofInt 8 n|||BitVec.ofInt 8 ((x.toNat:Nat):Int)).toNat=n+x.toNat:=hh ⟨x.toNat,by omega⟩ (by simp;omega);rw[show x=((x.toNat:Nat):Int)from by omega];show some (AVal.int .u8 (IntKind.wrap .u8 (BitVec.ofInt 8 n|||BitVec.ofInt 8 ((x.toNat:Nat):Int)).toNat))=_;rw[e,wrap_u8];congr 2;omega
theorem zz(x:Int)(h0:0≤x)(h1:x≤31):aint .or .u8 192 x=some (.int .u8 (192+x)):=ic 192 31 (by omega) (by decide+kernel) x h0 h1
theorem zA(x:Int)(h0:0≤x)(h1:x≤15):aint .or .u8 224 x=some (.int .u8 (224+x)):=ic 224 15 (by omega) (by decide+kernel) x h0 h1
theorem zB(x:Int)(h0:0≤x)(h1:x≤7):aint .or .u8 240 x=some (.int .u8 (240+x)):=ic 240 7 (by omega) (by decide+kernel) x h0 h1
theorem zC(x:Int)(h0:0≤x)(h1:x≤63):aint .or .u8 128 x=some (.int .u8 (128+x)):=ic 128 63 (by omega) (by decide+kernel) x h0 h1
theorem zD(x:Int)(h0:0≤x)(h1:x<256):aint .and .u8 x 63=some (.int .u8 (x%64)):=by
 have hh:∀x:_root_.Fin 256,(BitVec.ofInt 8 (x.val:Int)&&&BitVec.ofInt 8 63).toNat=x.val%64:=by decide+kernel
 have e:(BitVec.ofInt 8 ((x.toNat:Nat):Int)&&&BitVec.ofInt 8 63).toNat=x.toNat%64:=hh ⟨x.toNat,by omega⟩;rw[show x=((x.toNat:Nat):Int)from by omega];show some (AVal.int .u8 (IntKind.wrap .u8 (BitVec.ofInt 8 ((x.toNat:Nat):Int)&&&BitVec.ofInt 8 63).toNat))=_;rw[e,wrap_u8];congr 2;omega
theorem pS(P:Program)(h:Heap)(T:TypeId)(x:Int)(h0:0≤x)(h1:x≤31):abin P h .or T (.int .u8 192) (.int .u8 x)=some (.int .u8 (192+x)):=by simpa only[abin,if_true]using zz x h0 h1
theorem pT(P:Program)(h:Heap)(T:TypeId)(x:Int)(h0:0≤x)(h1:x≤15):abin P h .or T (.int .u8 224) (.int .u8 x)=some (.int .u8 (224+x)):=by simpa only[abin,if_true]using zA x h0 h1
theorem pU(P:Program)(h:Heap)(T:TypeId)(x:Int)(h0:0≤x)(h1:x≤7):abin P h .or T (.int .u8 240) (.int .u8 x)=some (.int .u8 (240+x)):=by simpa only[abin,if_true]using zB x h0 h1
theorem pV(P:Program)(h:Heap)(T:TypeId)(x:Int)(h0:0≤x)(h1:x≤63):abin P h .or T (.int .u8 128) (.int .u8 x)=some (.int .u8 (128+x)):=by simpa only[abin,if_true]using zC x h0 h1
theorem pW(P:Program)(h:Heap)(T:TypeId)(x:Int)(h0:0≤x)(h1:x<256):abin P h .and T (.int .u8 x) (.int .u8 63)=some (.int .u8 (x%64)):=by simpa only[abin,if_true]using zD x h0 h1
theorem Ci(P:Program)(h:Heap)(T:TypeId)(a:Int):abin P h .shr T (.int .i32 a) (.int .u64 6)=some (.int .i32 (a/64)):=by rw[jG _ _ _ _ _ _ (by omega) (by omega)];rfl
theorem zE(P:Program)(h:Heap)(T:TypeId)(a:Int):abin P h .shr T (.int .i32 a) (.int .u64 12)=some (.int .i32 (a/4096)):=by rw[jG _ _ _ _ _ _ (by omega) (by omega)];rfl
theorem zF(P:Program)(h:Heap)(T:TypeId)(a:Int):abin P h .shr T (.int .i32 a) (.int .u64 18)=some (.int .i32 (a/262144)):=by rw[jG _ _ _ _ _ _ (by omega) (by omega)];rfl
theorem kz(k:IntKind)(n:Int):aconv Tryz.prog 21 5 (.int k n)=some (.int .u8 (n%256)):=by simp only[aconv,go_sem,wrap_u8]
theorem j9(k:IntKind)(n:Int)(h0:0≤n)(h1:n<4294967296):aconv Tryz.prog 21 162 (.int k n)=some (.int .u32 n):=by simp only[aconv,go_sem,wrap_u32 n h0 h1]
theorem ef(k:IntKind)(n:Int):aconv Tryz.prog 21 9 (.int k n)=some (.str (enc n)):=by simp only[aconv,go_sem,enc]
theorem fj(r:Int)(hr:Rune r)(h1:128≤r)(h j:Heap)(X:Blk)(v:Nat)(s:Bs)(hs:s.length≤1073741824):
  Sat (CT G) 155 [.hs (h.length+1) v 0 s.length true,.int .i32 r] (h++X::bufR v s::j)
   (fun x h'=>x=.hs (h.length+1) (v+1) 0 (s.length+(enc r).length) true∧h'=h++X::bufR (v+1) (s++enc r)::j):=by
 have end_:∀l,l=enc r→Fin (h++X::bufR v s::j) (h++X::bufR (v+1) (s++l)::j) (fun x h'=>x=.hs (h.length+1) (v+1) 0 (s.length+(enc r).length) true∧h'=h++X::bufR (v+1) (s++enc r)::j) (.hs (h.length+1) (v+1) 0 (s.length+l.length) true):=fun l hl=>by
  subst hl;refine V0 (by simp) (fun p k hk=>?_) (.hs _ _ _ _ _ (by simp)) ⟨rfl,rfl⟩;rcases P6 p h.length with h1|h1
  ·rw[G9 h1]at hk ⊢;exact .inl hk
  ·rw[H8 h1]at hk ⊢
   match p-h.length,hk with
   |0,hk=>exact .inl hk
   |1,hk=>simp at hk;subst hk;exact .inr (ib _ _ _)
   |i+2,hk=>exact .inl hk
 have F:=F2 (F9 @kz @j9 @Ci @zE @zF @pS @pT @pU @pV) (F3 @pW @wrap_u8 @wrap_u32);obtain⟨hr0,hr1⟩:=hr;refine sb [.tmp 4] Tryz.func155 ?_;intro Q hQ;refine ah F ?_;refine aD F (fun hc=>?_) (fun hc=>?_)<;>(try exact hc.elim)<;>(refine ah F ?_)
 ·refine bx (.inl rfl) (by exact aC F) (by exact aC F) cd dJ (by omega) (cH _ _) (by simp(disch:=first|omega| (simp only[go_sem, ↓reduceIte,Nat.reduceEqDiff];done)|fail) only[go_sem, ↓reduceIte,Int.reduceToNat,Int.reduceLE,Int.reduceLT,Int.reduceSub,Int.reduceAdd,Nat.reduceEqDiff,Nat.reduceAdd,Nat.reduceLeDiff,Nat.reduceLT,Nat.reduceMul,Nat.reduceSub,F,aO];rfl) (by simp) ?_ ?_
  ·simp[maxLen];omega
  simp(disch:=first|omega| (simp only[go_sem, ↓reduceIte,Nat.reduceEqDiff];done)|fail) only[go_sem, ↓reduceIte,Int.reduceToNat,Int.reduceLE,Int.reduceLT,Int.reduceSub,Int.reduceAdd,Nat.reduceEqDiff,Nat.reduceAdd,Nat.reduceLeDiff,Nat.reduceLT,Nat.reduceMul,Nat.reduceSub,F];refine ah F ?_;refine az hQ F ?_;have e:=xC h1 (by omega);have le:(enc r).length=2:=by simpa using I8 List.length e
  have:=end_ _ rfl;simp only[bufR,M1,e,le]at this;have m0:r/64%256=r/64:=by omega
  have m1:r%256%64=r%64:=by omega
  simp only[bufR,M1,e,le,m0,m1,G0,G8,L0,Nat.reduceAdd];exact this
 ·refine aD F (fun hc=>?_) (fun hc=>?_)<;>(try exact hc.elim)<;>(refine ah F ?_)
  ·refine aD F (fun hc=>?_) (fun hc=>?_)<;>(try exact hc.elim)<;>(refine ah F ?_)
   ·refine bx (.inl rfl) (by exact aC F) (by exact aC F) cd dJ (by omega) (cH _ _) (by simp(disch:=first|omega| (simp only[go_sem, ↓reduceIte,Nat.reduceEqDiff];done)|fail) only[go_sem, ↓reduceIte,Int.reduceToNat,Int.reduceLE,Int.reduceLT,Int.reduceSub,Int.reduceAdd,Nat.reduceEqDiff,Nat.reduceAdd,Nat.reduceLeDiff,Nat.reduceLT,Nat.reduceMul,Nat.reduceSub,F,aO];rfl) (by simp) ?_ ?_
    ·simp[maxLen];omega
    simp(disch:=first|omega| (simp only[go_sem, ↓reduceIte,Nat.reduceEqDiff];done)|fail) only[go_sem, ↓reduceIte,Int.reduceToNat,Int.reduceLE,Int.reduceLT,Int.reduceSub,Int.reduceAdd,Nat.reduceEqDiff,Nat.reduceAdd,Nat.reduceLeDiff,Nat.reduceLT,Nat.reduceMul,Nat.reduceSub,F];refine ah F ?_;refine az hQ F ?_;have e:=tX ⟨hr0,hr1⟩ (by omega) (by omega);have le:(enc r).length=3:=(by simpa using I8 List.length e);have:=end_ _ rfl;simp only[bufR,M1,e,le]at this;have m0:r/4096%256=r/4096:=(by omega);have m1:r/64%256%64=r/64%64:=(by omega);have m2:r%256%64=r%64:=(by omega);simp only[bufR,M1,e,le,m0,m1,m2,G0,G8,L0,Nat.reduceAdd];exact this
   ·exfalso;omega
  ·(first|refine bn F (fun hg=>?_) (fun hg=>?_)|refine pqo F (fun hg=>?_) (fun hg=>?_))<;>(try exact hg.elim)<;>(try refine ai F ?_)<;>(refine ah F ?_)
   ·refine aD F (fun hc=>?_) (fun hc=>?_)<;>(try exact hc.elim)<;>(refine ah F ?_)
    ·refine bx (.inl rfl) (by exact aC F) (by exact aC F) cd dJ (by omega) (cH _ _) (by simp(disch:=first|omega| (simp only[go_sem, ↓reduceIte,Nat.reduceEqDiff];done)|fail) only[go_sem, ↓reduceIte,Int.reduceToNat,Int.reduceLE,Int.reduceLT,Int.reduceSub,Int.reduceAdd,Nat.reduceEqDiff,Nat.reduceAdd,Nat.reduceLeDiff,Nat.reduceLT,Nat.reduceMul,Nat.reduceSub,F,aO];rfl) (by simp) ?_ ?_
     ·simp[maxLen];omega
     simp(disch:=first|omega| (simp only[go_sem, ↓reduceIte,Nat.reduceEqDiff];done)|fail) only[go_sem, ↓reduceIte,Int.reduceToNat,Int.reduceLE,Int.reduceLT,Int.reduceSub,Int.reduceAdd,Nat.reduceEqDiff,Nat.reduceAdd,Nat.reduceLeDiff,Nat.reduceLT,Nat.reduceMul,Nat.reduceSub,F];refine ah F ?_;refine az hQ F ?_;have e:=tX ⟨hr0,hr1⟩ (by omega) (by omega);have le:(enc r).length=3:=(by simpa using I8 List.length e);have:=end_ _ rfl;simp only[bufR,M1,e,le]at this;have m0:r/4096%256=r/4096:=(by omega);have m1:r/64%256%64=r/64%64:=(by omega);have m2:r%256%64=r%64:=(by omega);simp only[bufR,M1,e,le,m0,m1,m2,G0,G8,L0,Nat.reduceAdd];exact this
    ·(first|refine bn F (fun hg=>?_) (fun hg=>?_)|refine pqo F (fun hg=>?_) (fun hg=>?_))<;>(try exact hg.elim)<;>(try refine ai F ?_)<;>(refine ah F ?_)
     ·refine aD F (fun hc=>?_) (fun hc=>?_)<;>(try exact hc.elim)<;>(refine ah F ?_)
      ·refine bx (.inl rfl) (by exact aC F) (by exact aC F) cd dJ (by omega) (cH _ _) (by simp(disch:=first|omega| (simp only[go_sem, ↓reduceIte,Nat.reduceEqDiff];done)|fail) only[go_sem, ↓reduceIte,Int.reduceToNat,Int.reduceLE,Int.reduceLT,Int.reduceSub,Int.reduceAdd,Nat.reduceEqDiff,Nat.reduceAdd,Nat.reduceLeDiff,Nat.reduceLT,Nat.reduceMul,Nat.reduceSub,F,aO];rfl) (by simp) ?_ ?_
       ·simp[maxLen];omega
       simp(disch:=first|omega| (simp only[go_sem, ↓reduceIte,Nat.reduceEqDiff];done)|fail) only[go_sem, ↓reduceIte,Int.reduceToNat,Int.reduceLE,Int.reduceLT,Int.reduceSub,Int.reduceAdd,Nat.reduceEqDiff,Nat.reduceAdd,Nat.reduceLeDiff,Nat.reduceLT,Nat.reduceMul,Nat.reduceSub,F];refine ah F ?_;refine az hQ F ?_;have e:=xD (r:=r) (by omega) (by omega);have le:(enc r).length=4:=(by simpa using I8 List.length e);have:=end_ _ rfl;simp only[bufR,M1,e,le]at this;have m0:r/262144%256=r/262144:=(by omega);have m1:r/4096%256%64=r/4096%64:=(by omega);have m2:r/64%256%64=r/64%64:=(by omega);have m3:r%256%64=r%64:=(by omega);simp only[bufR,M1,e,le,m0,m1,m2,m3,G0,G8,L0,Nat.reduceAdd];exact this
      ·exfalso;omega
     ·exfalso;omega
   ·exfalso;omega
theorem jH(r:Int)(hr:Rune r)(h j:Heap)(X:Blk)(v:Nat)(s:Bs)(hs:s.length≤1073741824):
  Sat (CT G) 124 [.hs (h.length+1) v 0 s.length true,.int .i32 r] (h++X::bufR v s::j)
   (fun x h'=>x=.hs (h.length+1) (v+1) 0 (s.length+(enc r).length) true∧h'=h++X::bufR (v+1) (s++enc r)::j):=by
 have end_:∀l,l=enc r→Fin (h++X::bufR v s::j) (h++X::bufR (v+1) (s++l)::j) (fun x h'=>x=.hs (h.length+1) (v+1) 0 (s.length+(enc r).length) true∧h'=h++X::bufR (v+1) (s++enc r)::j) (.hs (h.length+1) (v+1) 0 (s.length+l.length) true):=fun l hl=>by
  subst hl;refine V0 (by simp) (fun p k hk=>?_) (.hs _ _ _ _ _ (by simp)) ⟨rfl,rfl⟩;rcases P6 p h.length with h1|h1
  ·rw[G9 h1]at hk ⊢;exact .inl hk
  ·rw[H8 h1]at hk ⊢
   match p-h.length,hk with
   |0,hk=>exact .inl hk
   |1,hk=>simp at hk;subst hk;exact .inr (ib _ _ _)
   |i+2,hk=>exact .inl hk
 have hr':=hr;obtain⟨hr0,hr1⟩:=hr;have F:=F2 @kz @j9;refine sb [.tmp 4] Tryz.func124 ?_;intro Q hQ;refine ah F ?_;refine aD F (fun hc=>?_) (fun hc=>?_)<;>(try exact hc.elim)<;>(refine ah F ?_)
 ·refine bx (.inl rfl) (by exact aC F) (by exact aC F) cd dJ (by omega) (cH _ _) (by simp(disch:=first|omega| (simp only[go_sem, ↓reduceIte,Nat.reduceEqDiff];done)|fail) only[go_sem, ↓reduceIte,Int.reduceToNat,Int.reduceLE,Int.reduceLT,Int.reduceSub,Int.reduceAdd,Nat.reduceEqDiff,Nat.reduceAdd,Nat.reduceLeDiff,Nat.reduceLT,Nat.reduceMul,Nat.reduceSub,F,aO];rfl) (by simp) ?_ ?_
  ·simp[maxLen];omega
  simp(disch:=first|omega| (simp only[go_sem, ↓reduceIte,Nat.reduceEqDiff];done)|fail) only[go_sem, ↓reduceIte,Int.reduceToNat,Int.reduceLE,Int.reduceLT,Int.reduceSub,Int.reduceAdd,Nat.reduceEqDiff,Nat.reduceAdd,Nat.reduceLeDiff,Nat.reduceLT,Nat.reduceMul,Nat.reduceSub,F];refine ah F ?_;refine az hQ F ?_;have e:=xB (r:=r) (by omega) (by omega);have le:(enc r).length=1:=by simpa using I8 List.length e
  have:=end_ _ rfl;simp only[bufR,M1,e,le]at this;have m0:r%256=r:=by omega
  simp only[bufR,M1,e,le,m0,G0,G8,L0,Nat.reduceAdd];exact this
 ·refine aF F (fj G r hr' (by omega) h j X v s hs) ?_;refine az hQ F ?_;exact end_ _ rfl
theorem dS(a:AVal)(r:Int)(hr:Rune r)(h j:Heap)(v:Nat)(s:Bs)(ha:bldA a h.length)(hs:s.length≤1073741824):
  Sat (CT G) 80 [.hp h.length 0 0 0,.int .i32 r] (bldH h j a v s) (fun x h'=>x=.tup [.int .i64 (enc r).length,.nil .nilIface]∧h'=bldH h j (.hp h.length 0 0 0) (v+1) (s++enc r)):=by
 have end_:Fin (bldH h j a v s) (bldH h j (.hp h.length 0 0 0) (v+1) (s++enc r)) (fun x h'=>x=.tup [.int .i64 (enc r).length,.nil .nilIface]∧h'=bldH h j (.hp h.length 0 0 0) (v+1) (s++enc r)) (.tup [.int .i64 (enc r).length,.nil .nilIface]):=
  V0 ((bU ..).trans (bU ..).symm) (eX _ _ _ _ _ _ _) (.tup _ (by intro c hc;simp at hc;rcases hc with rfl|rfl;exact .int _ _;exact .nil _)) ⟨rfl,rfl⟩
 have F:= @aO;refine sb [.tmp 4,.tmp 5] Tryz.func80 ?_;intro Q hQ;refine ah F ?_;refine(dQ G a h j v s ha).mono ?_;rintro x h' ⟨rfl,rfl⟩;unfold bldH at*;try refine ai F ?_
 refine ah F ?_;refine aF F (jH G r hr h j _ v s hs) ?_;refine(hQ _ _ ?_).1;simp(disch:=first|omega| (simp only[go_sem, ↓reduceIte,Nat.reduceEqDiff];done)|fail) only[go_sem, ↓reduceIte,Int.reduceToNat,Int.reduceLE,Int.reduceLT,Int.reduceSub,Int.reduceAdd,Nat.reduceEqDiff,Nat.reduceAdd,Nat.reduceLeDiff,Nat.reduceLT,Nat.reduceMul,Nat.reduceSub,F];have hl:=dc r;simp only[bldR,bufR,G4,M1]at end_ ⊢;rw[show IntKind.wrap .i64 (((s.length+(enc r).length:Nat):Int)-(s.length:Nat))=((enc r).length:Nat)from by rw[gI (by omega) (by omega)];omega];exact end_
end
section
def dec(s:Bs)(k:Nat):Nat×Nat:=Utf8.decode ⟨s.toArray⟩ k
theorem eg(s:Bs)(k:Nat):dec s k=Lib.decodeN (s.length-k) (s.getD k 0).toNat (s.getD (k+1) 0).toNat (s.getD (k+2) 0).toNat (s.getD (k+3) 0).toNat:=by
 unfold dec;rw[Lib.decode_N]
theorem ay(n:Nat)(h:n<256):(UInt8.ofNat n).toNat=n:=by simp;omega
def fix(r:Int):Nat:=if Utf8.valid r=true then r.toNat else Utf8.runeError
theorem m8(r:Int):fix r≤1114111:=by
 unfold fix Utf8.valid Utf8.runeError;split
 ·rename_i h;simp at h;omega
 ·omega
theorem oM(r:Int):fix r<55296∨57344≤fix r:=by
 unfold fix Utf8.valid Utf8.runeError;split
 ·rename_i h;simp at h;omega
 ·omega
theorem eB(r:Int):enc r=let c:=fix r
  if c<0x80 then [UInt8.ofNat c]
  else if c<0x800 then [UInt8.ofNat (0xC0+c/64),UInt8.ofNat (0x80+c%64)]
  else if c<0x10000 then [UInt8.ofNat (0xE0+c/4096),UInt8.ofNat (0x80+c/64%64),UInt8.ofNat (0x80+c%64)]
  else [UInt8.ofNat (0xF0+c/262144),UInt8.ofNat (0x80+c/4096%64),UInt8.ofNat (0x80+c/64%64),UInt8.ofNat (0x80+c%64)]:=by
 unfold enc Utf8.encode fix;simp only[];split
 ·split
  ·rfl
  ·split
   ·rfl
   ·split<;>rfl
 ·rfl
theorem vO(r:Int):dec (enc r) 0=(fix r,(enc r).length):=by
 have hl:=m8 r;have hs:=oM r;rw[eg,eB];generalize fix r=c at*;simp only[];by_cases h1:c<128
 ·rw[G5 h1];simp only[L5,G0,G8];rw[ay _ (by omega)];simp[Lib.decodeN,h1]
 ·rw[G2 h1];by_cases h2:c<2048
  ·rw[G5 h2];simp only[L5,N7,G0,G8,L0];rw[ay _ (by omega),ay _ (by omega)];unfold Lib.decodeN;rw[G2 (by omega),G5 (by omega),G5 (by omega)];congr 1;omega
  ·rw[G2 h2];by_cases h3:c<65536
   ·rw[G5 h3];simp only[L5,N7,G0,G8,L0];rw[ay _ (by omega),ay _ (by omega),ay _ (by omega)];unfold Lib.decodeN;rw[G2 (by omega),G2 (by omega),G5 (by omega),G5 (by omega)];congr 1;omega
   ·rw[G2 h3];simp only[L5,N7,G0,G8,L0];rw[ay _ (by omega),ay _ (by omega),ay _ (by omega),ay _ (by omega)];unfold Lib.decodeN;rw[G2 (by omega),G2 (by omega),G2 (by omega),G5 (by omega),G5 (by omega)];congr 1;omega
theorem aQ(s:Bs)(k:Nat)(h:k<s.length):1≤(dec s k).2∧k+(dec s k).2≤s.length:=by
 rw[eg];refine⟨Lib.decodeN_ge1 _ _ _ _ _,?_⟩;unfold Lib.decodeN;repeat (first|split| (simp only[];omega))
theorem cI(s:Bs)(k:Nat)(b:UInt8)(h:s[k]? =some b)(ha:b.toNat<128):dec s k=(b.toNat,1):=by
 rw[eg,O2,h];exact Lib.decodeN_ascii _ _ _ _ _ ha
theorem fS(s:Bs)(k:Nat)(b:UInt8)(h:s[k]? =some b)(ha:128≤b.toNat):
  128≤(dec s k).1∧((dec s k).1<55296∨57343<(dec s k).1∧(dec s k).1≤1114111)∧∀i,i<(dec s k).2→∀c,s[k+i]? =some c→128≤c.toNat:=by
 have hb:s.getD k 0=b:=by rw[O2,h];rfl
 have at_:∀i c,s[k+i]? =some c→s.getD (k+i) 0=c:=fun i c hc=>by rw[O2,hc];rfl
 have l0:∀i,(s.getD i 0).toNat<256:=fun i=>(s.getD i 0).toNat_lt
 have e1:=l0 (k+1);have e2:=l0 (k+2);have e3:=l0 (k+3);have e0:=b.toNat_lt
 rw[eg,hb];generalize h1:(s.getD (k+1) 0).toNat=b1 at*;generalize h2:(s.getD (k+2) 0).toNat=b2 at*;generalize h3:(s.getD (k+3) 0).toNat=b3 at*;have key:∀i c,s[k+i]? =some c→(i=0→c.toNat=b.toNat)∧(i=1→c.toNat=b1)∧(i=2→c.toNat=b2)∧(i=3→c.toNat=b3):=fun i c hc=>by
  have:=at_ i c hc;refine⟨fun e=>?_,fun e=>?_,fun e=>?_,fun e=>?_⟩<;>subst e
  ·rw[← this];simp only[Q9];rw[hb]
  ·rw[← h1,this]
  ·rw[← h2,this]
  ·rw[← h3,this]
 generalize s.length-k=n;have fin:∀x m:Nat,(128≤x∧(x<55296∨57343<x∧x≤1114111))→(∀i,i<m→(i=0∧128≤b.toNat)∨(i=1∧128≤b1)∨(i=2∧128≤b2)∨(i=3∧128≤b3))→
   128≤(x,m).1∧((x,m).1<55296∨57343<(x,m).1∧(x,m).1≤1114111)∧∀i,i<(x,m).2→∀c,s[k+i]? =some c→128≤c.toNat:=fun x m hx hm=>
  ⟨hx.1,hx.2,fun i hi c hc=>by
   obtain⟨k0,k1,k2,k3⟩:=key i c hc;rcases hm i hi with⟨e,h⟩| ⟨e,h⟩| ⟨e,h⟩| ⟨e,h⟩
   ·rw[k0 e];exact h
   ·rw[k1 e];exact h
   ·rw[k2 e];exact h
   ·rw[k3 e];exact h⟩
 unfold Lib.decodeN;rw[G2 (by omega)];split
 ·split
  ·exact fin _ _ (by omega) (fun i hi=>by omega)
  ·exact fin _ _ (by omega) (fun i hi=>by omega)
 ·split
  ·split
   ·exact fin _ _ (by omega) (fun i hi=>by omega)
   ·exact fin _ _ (by omega) (fun i hi=>by omega)
  ·split
   ·split
    ·exact fin _ _ (by omega) (fun i hi=>by omega)
    ·exact fin _ _ (by omega) (fun i hi=>by omega)
   ·exact fin _ _ (by omega) (fun i hi=>by omega)
end
section
attribute [local irreducible] WP WPl WPix Sat
variable (G:Nat→Option (List AVal))
def digF(c base:Int):Int:=
 let n:=if 48≤c∧c≤57 then c-48 else if 97≤c∧c≤102 then c-87 else if 65≤c∧c≤70 then c-55 else-1
 if base≤n then-1 else n
def numGo(base:Int):Bs→Int→Int
 | [],n=>n
 |b::t,n=>if digF b.toNat base<0 then-1 else numGo base t (base*n+digF b.toNat base)
def numF(s:Bs)(base:Int)(most:Nat):Int:=if s=[]∨most<s.length then-1 else numGo base s 0
def rightF(n:Int):Bool:=decide (n=9)||decide (n=10)||decide (n=13)||(decide (32≤n)&& !decide (enc n=[239,191,189]))
theorem oN(c base:Int)(h:0≤base):digF c base<base∨digF c base= -1:=by unfold digF;simp only[];split<;>omega
theorem kA(c base:Int)(h:128≤c):digF c base= -1:=by
 unfold digF;simp only[];rw[G2 (c:=48≤c∧c≤57) (by omega),G2 (c:=97≤c∧c≤102) (by omega),G2 (c:=65≤c∧c≤70) (by omega)];split<;>rfl
theorem cJ{x:Int}(h0: -2147483648≤x)(h1:x≤2147483647):IntKind.i32.wrap x=x:=by
 simp only[IntKind.wrap,IntKind.bits,IntKind.signed];simp;omega
theorem m9(k:IntKind)(n:Int)(h0: -9223372036854775808≤n)(h1:n≤9223372036854775807):aconv Tryz.prog 21 3 (.int k n)=some (.int .i64 n):=by simp only[aconv,go_sem,gI h0 h1]
theorem mc(k:IntKind)(n:Int)(h0: -2147483648≤n)(h1:n≤2147483647):aconv Tryz.prog 3 21 (.int k n)=some (.int .i32 n):=by simp only[aconv,go_sem,cJ h0 h1]
theorem kB(c base:Int)(hc:0≤c)(hc1:c≤1114111)(hb:0≤base)(hb1:base≤16)(h:Heap):
  Sat (CT G) 192 [.int .i32 c,.int .i64 base] h (fun r h'=>r=.int .i64 (digF c base)∧h'=h):=by
 have F:=F2 @m9 @cJ;refine sb [.tmp 4] Tryz.func192 ?_;intro Q hQ;(repeat (first|refine w1 (fun K hK=>?_)|refine w2 ?_|refine w3 ?_| ((first|refine w4 ?_|refine wD ?_|refine w5 ?_|refine w6 ?_|refine w7 ?_);try refine ai F ?_)| (refine w8 ?_;refine ai F ?_;refine w9 ?_)| ((first|refine hK _ _ (w0 ?_)| (clear hK K;refine hK _ _ (w0 ?_))| (clear hK K;clear hK K;refine hK _ _ (w0 ?_)));clear hK K)))
 rename_i K0 hK0;have tail:∀(n:Int) (t':Env),t' 5=.int .i64 n→t' 1=.int .i64 base→n=(if 48≤c∧c≤57 then c-48 else if 97≤c∧c≤102 then c-87 else if 65≤c∧c≤70 then c-55 else-1)→K0 t' h:=by
  intro n t' e5 e1 hn;have hd:digF c base=if base≤n then-1 else n:=by subst hn;rfl
  refine hK0 _ _ (H5 ?_);clear hK0 K0 hK K;have F:=F3 F e5 e1;(repeat (first|refine w1 (fun K hK=>?_)|refine w2 ?_|refine w3 ?_| ((first|refine w4 ?_|refine wD ?_|refine w5 ?_|refine w6 ?_|refine w7 ?_);try refine ai F ?_)| (refine w8 ?_;refine ai F ?_;refine w9 ?_)| ((first|refine hK _ _ (w0 ?_)| (clear hK K;refine hK _ _ (w0 ?_))| (clear hK K;clear hK K;refine hK _ _ (w0 ?_)));clear hK K)))
  refine aD F (fun hc=>?_) (fun hc=>?_)<;>(try exact hc.elim)<;>((repeat (first|refine w1 (fun K hK=>?_)|refine w2 ?_|refine w3 ?_| ((first|refine w4 ?_|refine wD ?_|refine w5 ?_|refine w6 ?_|refine w7 ?_);try refine ai F ?_)| (refine w8 ?_;refine ai F ?_;refine w9 ?_)| ((first|refine hK _ _ (w0 ?_)| (clear hK K;refine hK _ _ (w0 ?_))| (clear hK K;clear hK K;refine hK _ _ (w0 ?_)));clear hK K))))
  ·refine az hQ F ?_;refine fR (.int _ _) ?_;rw[hd,G5 hc]
  ·refine az hQ F ?_;refine fR (.int _ _) ?_;rw[hd,G2 (by omega)]
 (first|refine bn F (fun g1=>?_) (fun g1=>?_)|refine pqo F (fun g1=>?_) (fun g1=>?_))<;>(try exact g1.elim)<;>(try refine ai F ?_)<;>((repeat (first|refine w1 (fun K hK=>?_)|refine w2 ?_|refine w3 ?_| ((first|refine w4 ?_|refine wD ?_|refine w5 ?_|refine w6 ?_|refine w7 ?_);try refine ai F ?_)| (refine w8 ?_;refine ai F ?_;refine w9 ?_)| ((first|refine hK _ _ (w0 ?_)| (clear hK K;refine hK _ _ (w0 ?_))| (clear hK K;clear hK K;refine hK _ _ (w0 ?_)));clear hK K))))
 ·refine aD F (fun hc=>?_) (fun hc=>?_)<;>(try exact hc.elim)<;>((repeat (first|refine w1 (fun K hK=>?_)|refine w2 ?_|refine w3 ?_| ((first|refine w4 ?_|refine wD ?_|refine w5 ?_|refine w6 ?_|refine w7 ?_);try refine ai F ?_)| (refine w8 ?_;refine ai F ?_;refine w9 ?_)| ((first|refine hK _ _ (w0 ?_)| (clear hK K;refine hK _ _ (w0 ?_))| (clear hK K;clear hK K;refine hK _ _ (w0 ?_)));clear hK K))))
  ·refine tail (c-48) _ ?_ ?_ ?_
   ·exact aC F
   ·exact aC F
   ·rw[G5 (by omega)]
  ·(first|refine bn F (fun g2=>?_) (fun g2=>?_)|refine pqo F (fun g2=>?_) (fun g2=>?_))<;>(try exact g2.elim)<;>(try refine ai F ?_)<;>((repeat (first|refine w1 (fun K hK=>?_)|refine w2 ?_|refine w3 ?_| ((first|refine w4 ?_|refine wD ?_|refine w5 ?_|refine w6 ?_|refine w7 ?_);try refine ai F ?_)| (refine w8 ?_;refine ai F ?_;refine w9 ?_)| ((first|refine hK _ _ (w0 ?_)| (clear hK K;refine hK _ _ (w0 ?_))| (clear hK K;clear hK K;refine hK _ _ (w0 ?_)));clear hK K))))
   ·refine aD F (fun hc=>?_) (fun hc=>?_)<;>(try exact hc.elim)<;>((repeat (first|refine w1 (fun K hK=>?_)|refine w2 ?_|refine w3 ?_| ((first|refine w4 ?_|refine wD ?_|refine w5 ?_|refine w6 ?_|refine w7 ?_);try refine ai F ?_)| (refine w8 ?_;refine ai F ?_;refine w9 ?_)| ((first|refine hK _ _ (w0 ?_)| (clear hK K;refine hK _ _ (w0 ?_))| (clear hK K;clear hK K;refine hK _ _ (w0 ?_)));clear hK K))))
    ·refine tail (c-87) _ ?_ ?_ ?_
     ·simp(disch:=first|omega| (simp only[go_sem, ↓reduceIte,Nat.reduceEqDiff];done)|fail) only[go_sem, ↓reduceIte,Int.reduceToNat,Int.reduceLE,Int.reduceLT,Int.reduceSub,Int.reduceAdd,Nat.reduceEqDiff,Nat.reduceAdd,Nat.reduceLeDiff,Nat.reduceLT,Nat.reduceMul,Nat.reduceSub,F];congr 1;omega
     ·exact aC F
     ·rw[G2 (by omega),G5 (by omega)]
    ·(first|refine bn F (fun hg=>?_) (fun hg=>?_)|refine pqo F (fun hg=>?_) (fun hg=>?_))<;>(try exact hg.elim)<;>(try refine ai F ?_)<;>((repeat (first|refine w1 (fun K hK=>?_)|refine w2 ?_|refine w3 ?_| ((first|refine w4 ?_|refine wD ?_|refine w5 ?_|refine w6 ?_|refine w7 ?_);try refine ai F ?_)| (refine w8 ?_;refine ai F ?_;refine w9 ?_)| ((first|refine hK _ _ (w0 ?_)| (clear hK K;refine hK _ _ (w0 ?_))| (clear hK K;clear hK K;refine hK _ _ (w0 ?_)));clear hK K))))
     ·refine aD F (fun hc=>?_) (fun hc=>?_)<;>(try exact hc.elim)<;>((repeat (first|refine w1 (fun K hK=>?_)|refine w2 ?_|refine w3 ?_| ((first|refine w4 ?_|refine wD ?_|refine w5 ?_|refine w6 ?_|refine w7 ?_);try refine ai F ?_)| (refine w8 ?_;refine ai F ?_;refine w9 ?_)| ((first|refine hK _ _ (w0 ?_)| (clear hK K;refine hK _ _ (w0 ?_))| (clear hK K;clear hK K;refine hK _ _ (w0 ?_)));clear hK K))))
      ·exfalso;omega
      ·refine tail (-1) _ ?_ ?_ ?_
       ·exact aC F
       ·exact aC F
       ·rw[G2 (by omega),G2 (by omega),G2 (by omega)]
     ·exfalso;omega
   ·(first|refine bn F (fun hg=>?_) (fun hg=>?_)|refine pqo F (fun hg=>?_) (fun hg=>?_))<;>(try exact hg.elim)<;>(try refine ai F ?_)<;>((repeat (first|refine w1 (fun K hK=>?_)|refine w2 ?_|refine w3 ?_| ((first|refine w4 ?_|refine wD ?_|refine w5 ?_|refine w6 ?_|refine w7 ?_);try refine ai F ?_)| (refine w8 ?_;refine ai F ?_;refine w9 ?_)| ((first|refine hK _ _ (w0 ?_)| (clear hK K;refine hK _ _ (w0 ?_))| (clear hK K;clear hK K;refine hK _ _ (w0 ?_)));clear hK K))))
    ·refine aD F (fun hc=>?_) (fun hc=>?_)<;>(try exact hc.elim)<;>((repeat (first|refine w1 (fun K hK=>?_)|refine w2 ?_|refine w3 ?_| ((first|refine w4 ?_|refine wD ?_|refine w5 ?_|refine w6 ?_|refine w7 ?_);try refine ai F ?_)| (refine w8 ?_;refine ai F ?_;refine w9 ?_)| ((first|refine hK _ _ (w0 ?_)| (clear hK K;refine hK _ _ (w0 ?_))| (clear hK K;clear hK K;refine hK _ _ (w0 ?_)));clear hK K))))
     ·refine tail (c-55) _ ?_ ?_ ?_
      ·simp(disch:=first|omega| (simp only[go_sem, ↓reduceIte,Nat.reduceEqDiff];done)|fail) only[go_sem, ↓reduceIte,Int.reduceToNat,Int.reduceLE,Int.reduceLT,Int.reduceSub,Int.reduceAdd,Nat.reduceEqDiff,Nat.reduceAdd,Nat.reduceLeDiff,Nat.reduceLT,Nat.reduceMul,Nat.reduceSub,F];congr 1;omega
      ·exact aC F
      ·rw[G2 (by omega),G2 (by omega),G5 (by omega)]
     ·refine tail (-1) _ ?_ ?_ ?_
      ·exact aC F
      ·exact aC F
      ·rw[G2 (by omega),G2 (by omega),G2 (by omega)]
    ·refine tail (-1) _ ?_ ?_ ?_
     ·exact aC F
     ·exact aC F
     ·rw[G2 (by omega),G2 (by omega),G2 (by omega)]
 ·(first|refine bn F (fun hg=>?_) (fun hg=>?_)|refine pqo F (fun hg=>?_) (fun hg=>?_))<;>(try exact hg.elim)<;>(try refine ai F ?_)<;>((repeat (first|refine w1 (fun K hK=>?_)|refine w2 ?_|refine w3 ?_| ((first|refine w4 ?_|refine wD ?_|refine w5 ?_|refine w6 ?_|refine w7 ?_);try refine ai F ?_)| (refine w8 ?_;refine ai F ?_;refine w9 ?_)| ((first|refine hK _ _ (w0 ?_)| (clear hK K;refine hK _ _ (w0 ?_))| (clear hK K;clear hK K;refine hK _ _ (w0 ?_)));clear hK K))))
  ·exfalso;omega
  ·(first|refine bn F (fun hg=>?_) (fun hg=>?_)|refine pqo F (fun hg=>?_) (fun hg=>?_))<;>(try exact hg.elim)<;>(try refine ai F ?_)<;>((repeat (first|refine w1 (fun K hK=>?_)|refine w2 ?_|refine w3 ?_| ((first|refine w4 ?_|refine wD ?_|refine w5 ?_|refine w6 ?_|refine w7 ?_);try refine ai F ?_)| (refine w8 ?_;refine ai F ?_;refine w9 ?_)| ((first|refine hK _ _ (w0 ?_)| (clear hK K;refine hK _ _ (w0 ?_))| (clear hK K;clear hK K;refine hK _ _ (w0 ?_)));clear hK K))))
   ·exfalso;omega
   ·refine tail (-1) _ ?_ ?_ ?_
    ·exact aC F
    ·exact aC F
    ·rw[G2 (by omega),G2 (by omega),G2 (by omega)]
theorem cK(h j:Heap)(s:Bs)(q:Nat):(h++Blk.iter s q::j)[h.length]? =some (.iter s q):=by simp
theorem ja(s:Bs)(base:Int)(most:Nat)(hb0:1≤base)(hb1:base≤16)(hm:most≤7)(hs:s.length≤1073741824)(h:Heap):
  Sat (CT G) 173 [.str s,.int .i64 base,.int .i64 most] h (fun r h'=>r=.int .i64 (numF s base most)∧h'=h):=by
 refine sb [.tmp 6] Tryz.func173 ?_;intro Q hQ;refine ah trivial ?_;(first|refine bn trivial (fun hg=>?_) (fun hg=>?_)|refine pqo trivial (fun hg=>?_) (fun hg=>?_))<;>(try exact hg.elim)<;>(try refine ai trivial ?_)<;>(refine ah trivial ?_)
 ·refine az hQ trivial ?_;refine fR (.int _ _) ?_;unfold numF;rw[G5 (.inl hg)]
 ·refine aD trivial (fun hc=>?_) (fun hc=>?_)<;>(try exact hc.elim)<;>(refine ah trivial ?_)
  ·refine az hQ trivial ?_;refine fR (.int _ _) ?_;unfold numF;rw[G5 (.inr hc)]
  ·have hn:numF s base most=numGo base s 0:=(by unfold numF;rw[G2 (by rintro(h1|h1);exact hg h1;omega)]);rw[hn]at hQ;have h16:(16:Int)^s.length≤268435456:=by
    have:(16:Nat)^s.length≤16^7:=Nat.pow_le_pow_right (by omega) (by omega);have:((16^s.length:Nat):Int)≤((16^7:Nat):Int):=by omega
    simpa using this
   refine lm (fun nL tL hL=>∃(k:Nat) (n:Int),s.length-k=nL∧h++[.iter s k]=hL∧tL 7=.int .i64 n∧k≤s.length∧numGo base s 0=numGo base (s.drop k) n∧0≤n∧n<16^k) ((fun(k:Nat) (n:Int)=>(s.length-k:Nat)) (0) (0)) ?_ ?_
   ·refine H5 ⟨0,0,rfl,aw,?_,by omega,by simp,by omega,by simp⟩;all_goals first|exact aC trivial|rfl|omega|trivial|skip
   rintro _ s2 h' ⟨k,n,rfl,rfl,e7,hk,hv,h0,h1⟩ K2 hK2;simp only[am,ar,Nat.reduceEqDiff, ↓reduceIte]at e7;have F:=e7;refine ah F ?_;refine bR (cK _ _ _ _) (fun hlt=>?_) (fun hge=>?_)
   ·have hb:=G3 hlt;have hdrop:=Q7 hlt;have hbn0:0≤base*n:=Int.mul_nonneg (by omega) h0;have hbn1:base*n≤16*n:=R1 hb1 h0;have hk16:(16:Int)^(k+1)≤268435456:=by
     have:(16:Nat)^(k+1)≤16^7:=Nat.pow_le_pow_right (by omega) (by omega);have:((16^(k+1):Nat):Int)≤((16^7:Nat):Int):=by omega
     simpa using this
    have hk17:(16:Int)^(k+1)=16^k*16:=Int.pow_succ _ _;rw[hdrop,numGo]at hv;by_cases ha:s[k].toNat<128
    ·have hd:Utf8.decode ⟨s.toArray⟩ k=(s[k].toNat,1):=cI s k _ hb ha;have hlt':=oN s[k].toNat base (by omega);rw[hd];(try refine ai F ?_);refine ah F ?_;refine aF F (kB G s[k].toNat base (by omega) (by omega) (by omega) hb1 _) ?_;refine aD F (fun hc=>?_) (fun hc=>?_)<;>(try exact hc.elim)
     ·refine ah F ?_;refine az hQ F ?_;refine fR (.int _ _) ?_;rw[hv,G5 hc]
     ·rw[G2 (by omega)]at hv;refine ah F ?_;refine hK2 _ _ _ (H5 ⟨k+1,base*n+digF s[k].toNat base,rfl,aw,?_,by omega,hv,by omega,by omega⟩) (by omega);all_goals first|exact aC F|rfl|omega|trivial|skip
    ·have hd:=fS s k _ hb (by omega);unfold dec at hd;(try refine ai F ?_);refine ah F ?_;refine aF F (kB G (Utf8.decode ⟨s.toArray⟩ k).1 base (by omega) (by omega) (by omega) hb1 _) ?_;refine aD F (fun hc=>?_) (fun hc=>?_)<;>(try exact hc.elim)
     ·refine ah F ?_;refine az hQ F ?_;refine fR (.int _ _) ?_;rw[hv,G5 (by rw[kA _ _ (by omega)];omega)]
     ·exfalso;rw[kA _ _ (by omega)]at hc;omega
   ·(try refine ai F ?_);refine ah F ?_;refine az hQ F ?_;refine fR (.int _ _) ?_;rw[hv,S6 (by omega)];rfl
theorem oO{r:Int}(h:fix r=65533):enc r=[239,191,189]:=by rw[eB,h];rfl
theorem mf(r:Int)(h:Heap):Sat (CT G) 43 [.str (enc r)] h (fun x h'=>x=.bool true∧h'=h):=by
 have hl:=dc r;have hd:Utf8.decode ⟨(enc r).toArray⟩ 0=(fix r,(enc r).length):=vO r;have hfl:=m8 r;refine sb [.tmp 2] Tryz.func43 ?_;intro Q hQ;refine ah trivial ?_;refine lm (fun nL tL hL=>∃(k:Nat),(enc r).length-k=nL∧h++[.iter (enc r) k]=hL∧(k=0∨k=(enc r).length)) ((fun(k:Nat)=>((enc r).length-k:Nat)) (0)) ?_ ?_
 ·refine H5 ⟨0,rfl,aw,.inl rfl⟩;all_goals first|exact aC trivial|rfl|omega|trivial|skip
 rintro _ s2 h' ⟨k,rfl,rfl,hk⟩ K2 hK2;refine ah trivial ?_;refine bR (cK _ _ _ _) (fun hlt=>?_) (fun hge=>?_)
 ·obtain rfl:k=0:=by omega
  rw[hd];try refine ai trivial ?_
  refine ah trivial ?_;(first|refine bn trivial (fun hg=>?_) (fun hg=>?_)|refine pqo trivial (fun hg=>?_) (fun hg=>?_))<;>(try exact hg.elim)<;>(try refine ai trivial ?_)<;>(refine ah trivial ?_)
  ·have hp:Lib.hasPrefix (enc r) [239,191,189]=true:=(by rw[oO (by omega)];rfl);have F:=F2 hp @M9;refine aF F (cA G (enc r) [239,191,189] _) ?_;refine hK2 _ _ _ (H5 ⟨(enc r).length,rfl,aw,.inr rfl⟩) (by omega);all_goals first|exact aC F|rfl|omega|trivial|skip
  ·refine hK2 _ _ _ (H5 ⟨(enc r).length,rfl,aw,.inr rfl⟩) (by omega);all_goals first|exact aC trivial|rfl|omega|trivial|skip
 ·try refine ai trivial ?_
  refine ah trivial ?_;refine az hQ trivial ?_;refine fR (.bool _) ?_;rfl
theorem rH(n:Int)(h0:0≤n)(h1:n≤2147483647)(h:Heap):Sat (CT G) 174 [.int .i64 n] h (fun x h'=>x=.bool (rightF n)∧h'=h):=by
 have ht:n=9∨n=10∨n=13∨(n≠9∧n≠10∧n≠13):=by omega
 rcases ht with e|e|e| ⟨h9,h10,h13⟩
 ·have b9:(n==9)=true:=by simpa using e
  have F:=b9;refine sb [.tmp 2] Tryz.func174 ?_;intro Q hQ;refine ah F ?_;refine az hQ F ?_;refine fR (.bool _) ?_;simp[rightF,e]
 ·have b9:(n==9)=false:=by simp;omega
  have b10:(n==10)=true:=by simpa using e
  have F:=F2 b9 b10;refine sb [.tmp 2] Tryz.func174 ?_;intro Q hQ;refine ah F ?_;refine az hQ F ?_;refine fR (.bool _) ?_;simp[rightF,e]
 ·have b9:(n==9)=false:=by simp;omega
  have b10:(n==10)=false:=by simp;omega
  have b13:(n==13)=true:=by simpa using e
  have F:=F3 b9 b10 b13;refine sb [.tmp 2] Tryz.func174 ?_;intro Q hQ;refine ah F ?_;refine az hQ F ?_;refine fR (.bool _) ?_;simp[rightF,e]
 ·have b9:(n==9)=false:=by simpa using h9
  have b10:(n==10)=false:=by simpa using h10
  have b13:(n==13)=false:=by simpa using h13
  have F:=F5 b9 b10 b13 @mc @ef;refine sb [.tmp 2] Tryz.func174 ?_;intro Q hQ;refine ah F ?_;(first|refine bn F (fun hg=>?_) (fun hg=>?_)|refine pqo F (fun hg=>?_) (fun hg=>?_))<;>(try exact hg.elim)<;>(try refine ai F ?_)<;>(refine ah F ?_)
  ·refine aF F (mf G n _) ?_;refine az hQ F ?_;refine fR (.bool _) ?_;simp[rightF,h9,h10,h13,hg];rw[N8];simp
  ·refine az hQ F ?_;refine fR (.bool _) ?_;simp[rightF,h9,h10,h13];omega
def signF(name:Bs):Int×Bool:=
 if name=[97,109,112]then(38,true)else if name=[108,116]then(60,true)else if name=[103,116]then(62,true)
 else if name=[113,117,111,116]then(34,true)else if name=[97,112,111,115]then(39,true)
 else
  let n:=if Lib.hasPrefix name [35,120]=true then numF (name.drop 2) 16 6 else if Lib.hasPrefix name [35]=true then numF (name.drop 1) 10 7 else-1
  if n<0 then(0,false)else if rightF n=true then(n,true)else(65533,true)
theorem tY(base:Int)(hb0:1≤base)(hb:base≤16):∀(s:Bs) (n:Int),0≤n→ -1≤numGo base s n∧numGo base s n<(n+1)*16^s.length:=by
 intro s;induction s with
 |nil=>intro n hn;simp[numGo];omega
 |cons b t ih=>
  intro n hn;rw[numGo];have hp:(0:Int)<16^t.length:=Int.pow_pos (by omega);split
  ·refine⟨by omega,?_⟩;have:0≤(n+1)*16^(b::t).length:=Int.mul_nonneg (by omega) (Int.le_of_lt (Int.pow_pos (by omega)));omega
  ·rename_i hd;have hlt:=oN b.toNat base (by omega);have hbn0:0≤base*n:=Int.mul_nonneg (by omega) hn;have hbn1:base*n≤16*n:=R1 hb hn;obtain⟨h1,h2⟩:=ih (base*n+digF b.toNat base) (by omega);refine⟨h1,Int.lt_of_lt_of_le h2 ?_⟩;rw[G0,Int.pow_succ,Int.mul_comm (16^t.length) 16, ← Int.mul_assoc];exact R1 (by omega) (Int.le_of_lt hp)
theorem oP(s:Bs)(base:Int)(most:Nat)(hb0:1≤base)(hb1:base≤16)(hm:most≤7): -1≤numF s base most∧numF s base most≤268435455:=by
 unfold numF;split
 ·omega
 ·rename_i h;have:=tY base hb0 hb1 s 0 (by omega);have h16:(16:Int)^s.length≤268435456:=by
   have:(16:Nat)^s.length≤16^7:=Nat.pow_le_pow_right (by omega) (by omega);have:((16^s.length:Nat):Int)≤((16^7:Nat):Int):=by omega
   simpa using this
  omega
theorem dK(n:Nat)(k:IntKind)(a:Int)(b:Bool):Clo n (.tup [.int k a,.bool b]):=.tup _ (by intro c hc;simp at hc;rcases hc with rfl|rfl;exact .int _ _;exact .bool _)
theorem tZ(name:Bs)(hs:name.length≤1048576)(h:Heap):Sat (CT G) 148 [.str name] h (fun x h'=>x=.tup [.int .i32 (signF name).1,.bool (signF name).2]∧h'=h):=by
 have F:= @mc;refine sb [.tmp 2,.tmp 3] Tryz.func148 ?_;intro Q hQ;(repeat (first|refine w1 (fun K hK=>?_)|refine w2 ?_|refine w3 ?_| ((first|refine w4 ?_|refine wD ?_|refine w5 ?_|refine w6 ?_|refine w7 ?_);try refine ai F ?_)| (refine w8 ?_;refine ai F ?_;refine w9 ?_)| ((first|refine hK _ _ (w0 ?_)| (clear hK K;refine hK _ _ (w0 ?_))| (clear hK K;clear hK K;refine hK _ _ (w0 ?_)));clear hK K)))
 refine aD F (fun c1=>?_) (fun c1=>?_)<;>(try exact c1.elim)<;>((repeat (first|refine w1 (fun K hK=>?_)|refine w2 ?_|refine w3 ?_| ((first|refine w4 ?_|refine wD ?_|refine w5 ?_|refine w6 ?_|refine w7 ?_);try refine ai F ?_)| (refine w8 ?_;refine ai F ?_;refine w9 ?_)| ((first|refine hK _ _ (w0 ?_)| (clear hK K;refine hK _ _ (w0 ?_))| (clear hK K;clear hK K;refine hK _ _ (w0 ?_)));clear hK K))))
 ·refine az hQ F ?_;refine fR (dK _ _ _ _) ?_;simp[signF,c1]
 refine aD F (fun c2=>?_) (fun c2=>?_)<;>(try exact c2.elim)<;>((repeat (first|refine w1 (fun K hK=>?_)|refine w2 ?_|refine w3 ?_| ((first|refine w4 ?_|refine wD ?_|refine w5 ?_|refine w6 ?_|refine w7 ?_);try refine ai F ?_)| (refine w8 ?_;refine ai F ?_;refine w9 ?_)| ((first|refine hK _ _ (w0 ?_)| (clear hK K;refine hK _ _ (w0 ?_))| (clear hK K;clear hK K;refine hK _ _ (w0 ?_)));clear hK K))))
 ·refine az hQ F ?_;refine fR (dK _ _ _ _) ?_;simp[signF,c2]
 refine aD F (fun c3=>?_) (fun c3=>?_)<;>(try exact c3.elim)<;>((repeat (first|refine w1 (fun K hK=>?_)|refine w2 ?_|refine w3 ?_| ((first|refine w4 ?_|refine wD ?_|refine w5 ?_|refine w6 ?_|refine w7 ?_);try refine ai F ?_)| (refine w8 ?_;refine ai F ?_;refine w9 ?_)| ((first|refine hK _ _ (w0 ?_)| (clear hK K;refine hK _ _ (w0 ?_))| (clear hK K;clear hK K;refine hK _ _ (w0 ?_)));clear hK K))))
 ·refine az hQ F ?_;refine fR (dK _ _ _ _) ?_;simp[signF,c3]
 refine aD F (fun c4=>?_) (fun c4=>?_)<;>(try exact c4.elim)<;>((repeat (first|refine w1 (fun K hK=>?_)|refine w2 ?_|refine w3 ?_| ((first|refine w4 ?_|refine wD ?_|refine w5 ?_|refine w6 ?_|refine w7 ?_);try refine ai F ?_)| (refine w8 ?_;refine ai F ?_;refine w9 ?_)| ((first|refine hK _ _ (w0 ?_)| (clear hK K;refine hK _ _ (w0 ?_))| (clear hK K;clear hK K;refine hK _ _ (w0 ?_)));clear hK K))))
 ·refine az hQ F ?_;refine fR (dK _ _ _ _) ?_;simp[signF,c4]
 refine aD F (fun c5=>?_) (fun c5=>?_)<;>(try exact c5.elim)<;>((repeat (first|refine w1 (fun K hK=>?_)|refine w2 ?_|refine w3 ?_| ((first|refine w4 ?_|refine wD ?_|refine w5 ?_|refine w6 ?_|refine w7 ?_);try refine ai F ?_)| (refine w8 ?_;refine ai F ?_;refine w9 ?_)| ((first|refine hK _ _ (w0 ?_)| (clear hK K;refine hK _ _ (w0 ?_))| (clear hK K;clear hK K;refine hK _ _ (w0 ?_)));clear hK K))))
 ·refine az hQ F ?_;refine fR (dK _ _ _ _) ?_;simp[signF,c5]
 refine(cy G name [35,120] _).mono ?_;rintro r h' ⟨rfl,rfl⟩;try refine ai F ?_
 (repeat (first|refine w1 (fun K hK=>?_)|refine w2 ?_|refine w3 ?_| ((first|refine w4 ?_|refine wD ?_|refine w5 ?_|refine w6 ?_|refine w7 ?_);try refine ai F ?_)| (refine w8 ?_;refine ai F ?_;refine w9 ?_)| ((first|refine hK _ _ (w0 ?_)| (clear hK K;refine hK _ _ (w0 ?_))| (clear hK K;clear hK K;refine hK _ _ (w0 ?_)));clear hK K)))
 have tail:∀(t':Env) (n:Int),t' 4=.int .i64 n→n=(if Lib.hasPrefix name [35,120]=true then numF (name.drop 2) 16 6 else if Lib.hasPrefix name [35]=true then numF (name.drop 1) 10 7 else-1)→K t' h':=by
  intro t' n e4 hn;have hS:signF name=if n<0 then(0,false)else if rightF n=true then(n,true)else(65533,true):=by
   unfold signF;rw[G2 c1,G2 c2,G2 c3,G2 c4,G2 c5, ← hn]
  have hb: -1≤n∧n≤268435455:=by
   rw[hn];split
   ·exact oP _ _ _ (by omega) (by omega) (by omega)
   ·split
    ·exact oP _ _ _ (by omega) (by omega) (by omega)
    ·omega
  refine hK _ _ (H5 ?_);clear hK K;have F:=F2 F e4;(repeat (first|refine w1 (fun K hK=>?_)|refine w2 ?_|refine w3 ?_| ((first|refine w4 ?_|refine wD ?_|refine w5 ?_|refine w6 ?_|refine w7 ?_);try refine ai F ?_)| (refine w8 ?_;refine ai F ?_;refine w9 ?_)| ((first|refine hK _ _ (w0 ?_)| (clear hK K;refine hK _ _ (w0 ?_))| (clear hK K;clear hK K;refine hK _ _ (w0 ?_)));clear hK K)))
  refine aD F (fun hc=>?_) (fun hc=>?_)<;>(try exact hc.elim)<;>((repeat (first|refine w1 (fun K hK=>?_)|refine w2 ?_|refine w3 ?_| ((first|refine w4 ?_|refine wD ?_|refine w5 ?_|refine w6 ?_|refine w7 ?_);try refine ai F ?_)| (refine w8 ?_;refine ai F ?_;refine w9 ?_)| ((first|refine hK _ _ (w0 ?_)| (clear hK K;refine hK _ _ (w0 ?_))| (clear hK K;clear hK K;refine hK _ _ (w0 ?_)));clear hK K))))
  ·refine az hQ F ?_;refine fR (dK _ _ _ _) ?_;rw[hS,G5 hc]
  ·rw[G2 (by omega)]at hS;refine(rH G n (by omega) (by omega) _).mono ?_;rintro r h' ⟨rfl,rfl⟩;(try refine ai F ?_);(repeat (first|refine w1 (fun K hK=>?_)|refine w2 ?_|refine w3 ?_| ((first|refine w4 ?_|refine wD ?_|refine w5 ?_|refine w6 ?_|refine w7 ?_);try refine ai F ?_)| (refine w8 ?_;refine ai F ?_;refine w9 ?_)| ((first|refine hK _ _ (w0 ?_)| (clear hK K;refine hK _ _ (w0 ?_))| (clear hK K;clear hK K;refine hK _ _ (w0 ?_)));clear hK K)))
   refine aD F (fun hr=>?_) (fun hr=>?_)<;>(try exact hr.elim)<;>((repeat (first|refine w1 (fun K hK=>?_)|refine w2 ?_|refine w3 ?_| ((first|refine w4 ?_|refine wD ?_|refine w5 ?_|refine w6 ?_|refine w7 ?_);try refine ai F ?_)| (refine w8 ?_;refine ai F ?_;refine w9 ?_)| ((first|refine hK _ _ (w0 ?_)| (clear hK K;refine hK _ _ (w0 ?_))| (clear hK K;clear hK K;refine hK _ _ (w0 ?_)));clear hK K))))
   ·refine az hQ F ?_;refine fR (dK _ _ _ _) ?_;rw[hS,G2 (by simpa using hr)]
   ·refine az hQ F ?_;refine fR (dK _ _ _ _) ?_;rw[hS,G5 (by simpa using hr)]
 have hd2:(name.drop 2).length≤1073741824:=by simp;omega
 have hd1:(name.drop 1).length≤1073741824:=by simp;omega
 refine aD F (fun hx=>?_) (fun hx=>?_)<;>(try exact hx.elim)<;>((repeat (first|refine w1 (fun K hK=>?_)|refine w2 ?_|refine w3 ?_| ((first|refine w4 ?_|refine wD ?_|refine w5 ?_|refine w6 ?_|refine w7 ?_);try refine ai F ?_)| (refine w8 ?_;refine ai F ?_;refine w9 ?_)| ((first|refine hK _ _ (w0 ?_)| (clear hK K;refine hK _ _ (w0 ?_))| (clear hK K;clear hK K;refine hK _ _ (w0 ?_)));clear hK K))))
 ·have e:Lib.trimPrefix name [35,120]=name.drop 2:=by unfold Lib.trimPrefix;rw[G5 hx];rfl
  rw[e];refine(ja G (name.drop 2) 16 6 (by omega) (by omega) (by omega) hd2 _).mono ?_;rintro r h' ⟨rfl,rfl⟩;try refine ai F ?_
  (repeat (first|refine w1 (fun K hK=>?_)|refine w2 ?_|refine w3 ?_| ((first|refine w4 ?_|refine wD ?_|refine w5 ?_|refine w6 ?_|refine w7 ?_);try refine ai F ?_)| (refine w8 ?_;refine ai F ?_;refine w9 ?_)| ((first|refine hK _ _ (w0 ?_)| (clear hK K;refine hK _ _ (w0 ?_))| (clear hK K;clear hK K;refine hK _ _ (w0 ?_)));clear hK K)))
  refine tail _ (numF (name.drop 2) 16 6) ?_ (by rw[G5 hx]);simp(disch:=first|omega| (simp only[go_sem, ↓reduceIte,Nat.reduceEqDiff];done)|fail) only[go_sem, ↓reduceIte,Int.reduceToNat,Int.reduceLE,Int.reduceLT,Int.reduceSub,Int.reduceAdd,Nat.reduceEqDiff,Nat.reduceAdd,Nat.reduceLeDiff,Nat.reduceLT,Nat.reduceMul,Nat.reduceSub,F]
 ·refine(cy G name [35] _).mono ?_;rintro r h' ⟨rfl,rfl⟩;try refine ai F ?_
  (repeat (first|refine w1 (fun K hK=>?_)|refine w2 ?_|refine w3 ?_| ((first|refine w4 ?_|refine wD ?_|refine w5 ?_|refine w6 ?_|refine w7 ?_);try refine ai F ?_)| (refine w8 ?_;refine ai F ?_;refine w9 ?_)| ((first|refine hK _ _ (w0 ?_)| (clear hK K;refine hK _ _ (w0 ?_))| (clear hK K;clear hK K;refine hK _ _ (w0 ?_)));clear hK K)))
  refine aD F (fun hy=>?_) (fun hy=>?_)<;>(try exact hy.elim)<;>((repeat (first|refine w1 (fun K hK=>?_)|refine w2 ?_|refine w3 ?_| ((first|refine w4 ?_|refine wD ?_|refine w5 ?_|refine w6 ?_|refine w7 ?_);try refine ai F ?_)| (refine w8 ?_;refine ai F ?_;refine w9 ?_)| ((first|refine hK _ _ (w0 ?_)| (clear hK K;refine hK _ _ (w0 ?_))| (clear hK K;clear hK K;refine hK _ _ (w0 ?_)));clear hK K))))
  ·have e:Lib.trimPrefix name [35]=name.drop 1:=(by unfold Lib.trimPrefix;rw[G5 hy];rfl);rw[e];refine(ja G (name.drop 1) 10 7 (by omega) (by omega) (by omega) hd1 _).mono ?_;rintro r h' ⟨rfl,rfl⟩;(try refine ai F ?_);(repeat (first|refine w1 (fun K hK=>?_)|refine w2 ?_|refine w3 ?_| ((first|refine w4 ?_|refine wD ?_|refine w5 ?_|refine w6 ?_|refine w7 ?_);try refine ai F ?_)| (refine w8 ?_;refine ai F ?_;refine w9 ?_)| ((first|refine hK _ _ (w0 ?_)| (clear hK K;refine hK _ _ (w0 ?_))| (clear hK K;clear hK K;refine hK _ _ (w0 ?_)));clear hK K)))
   refine tail _ (numF (name.drop 1) 10 7) ?_ (by rw[G2 (by simpa using hx),G5 hy]);simp(disch:=first|omega| (simp only[go_sem, ↓reduceIte,Nat.reduceEqDiff];done)|fail) only[go_sem, ↓reduceIte,Int.reduceToNat,Int.reduceLE,Int.reduceLT,Int.reduceSub,Int.reduceAdd,Nat.reduceEqDiff,Nat.reduceAdd,Nat.reduceLeDiff,Nat.reduceLT,Nat.reduceMul,Nat.reduceSub,F]
  ·refine tail _ (-1) ?_ (by rw[G2 (by simpa using hx),G2 (by simpa using hy)]);simp(disch:=first|omega| (simp only[go_sem, ↓reduceIte,Nat.reduceEqDiff];done)|fail) only[go_sem, ↓reduceIte,Int.reduceToNat,Int.reduceLE,Int.reduceLT,Int.reduceSub,Int.reduceAdd,Nat.reduceEqDiff,Nat.reduceAdd,Nat.reduceLeDiff,Nat.reduceLT,Nat.reduceMul,Nat.reduceSub,F]
end
section
theorem de(s:Bs)(k:Nat):dec s k=dec (s.drop k) 0:=by
 rw[eg,eg];simp only[O2,L9,L4,Q9,L0,Nat.sub_zero,Nat.add_assoc]
theorem mg(s:Bs)(k:Nat)(h:k<s.length):Rune (dec s k).1:=by
 have hb:=G3 h;by_cases ha:s[k].toNat<128
 ·rw[cI s k _ hb ha];exact⟨by simp,by simp;omega⟩
 ·obtain⟨h1,h2,_⟩:=fS s k _ hb (by omega);exact⟨by omega,by omega⟩
def runesN:Nat→Bs→List Int
 |0,_=>[]
 |f+1,s=>if s=[]then []else((dec s 0).1:Int)::runesN f (s.drop (dec s 0).2)
def runesF(s:Bs):List Int:=runesN s.length s
theorem nA:∀(f:Nat) (s:Bs),s.length≤f→runesN f s=runesN s.length s:=by
 intro f;induction f using Nat.strongRecOn with
 |ind f ih=>
  intro s hs;cases s with
  |nil=>cases f<;>rfl
  |cons b t=>
   obtain⟨f,rfl⟩:∃g,f=g+1:=⟨f-1,by simp at hs;omega⟩;have hd:=aQ (b::t) 0 (by simp);simp only[G0]at hs hd ⊢;rw[runesN,runesN,G2 (by simp),G2 (by simp)];have hl:((b::t).drop (dec (b::t) 0).2).length≤t.length:=(by simp only[L4,G0];omega);rw[ih f (by omega) _ (by omega)];by_cases hf:t.length=f
   ·subst hf;rw[ih t.length (by omega) _ hl]
   ·rw[ih t.length (by omega) _ hl]
theorem eh:runesF []=[]:=rfl
theorem dA(s:Bs)(h:s≠ []):runesF s=((dec s 0).1:Int)::runesF (s.drop (dec s 0).2):=by
 have hl:0<s.length:=N6.2 h;have hd:=aQ s 0 hl;unfold runesF;obtain⟨n,hn⟩:∃n,s.length=n+1:=⟨s.length-1,by omega⟩;rw[hn,runesN,G2 h,nA n _ (by simp only[L4];omega)]
theorem kC(s:Bs)(k:Nat)(h:k<s.length):runesF (s.drop k)=((dec s k).1:Int)::runesF (s.drop (k+(dec s k).2)):=by
 rw[dA _ (by intro e;have:=I8 List.length e;simp at this;omega), ← de,Q8]
theorem jb(s:Bs)(k:Nat)(h:s.length≤k):runesF (s.drop k)=[]:=by
 rw[O5 h];rfl
theorem jc:∀(n:Nat) (s:Bs),s.length≤n→(runesF s).length≤s.length:=by
 intro n;induction n with
 |zero=>intro s h;have:s=[]:=L3.1 (by omega);subst this;simp[eh]
 |succ n ih=>
  intro s h;by_cases h0:s=[]
  ·subst h0;simp[eh]
  ·have hd:=aQ s 0 (N6.2 h0);rw[dA s h0];have:=ih (s.drop (dec s 0).2) (by simp only[L4];omega);simp only[L4]at this;simp only[G0];omega
theorem nB:∀(n:Nat) (s:Bs),s.length≤n→∀c∈runesF s,Rune c:=by
 intro n;induction n with
 |zero=>intro s h c hc;have:s=[]:=L3.1 (by omega);subst this;simp[eh]at hc
 |succ n ih=>
  intro s h c hc;by_cases h0:s=[]
  ·subst h0;simp[eh]at hc
  ·have hl:=N6.2 h0;have hd:=aQ s 0 hl;rw[dA s h0]at hc;rcases J5.1 hc with rfl|hc
   ·exact mg s 0 hl
   ·exact ih _ (by simp only[L4];omega) c hc
def blankR(c:Int):Bool:=decide (c=9∨c=10∨c=13∨c=32∨c=160∨c=8232∨c=8233∨c=12288)
def ctlR(c:Int):Bool:=decide (c<32∨(127≤c∧c≤159))
def clnR:List Int→List Int→Bool→List Int
 | [],o,_=>o
 |c::t,o,w=>if blankR c then clnR t o (decide (0<o.length))else if ctlR c then clnR t o w else clnR t (o++(if w then [32,c]else [c])) false
def cleanR(s:Bs):List Int:=clnR (runesF s) [] false
def encs(l:List Int):Bs:=l.flatMap enc
def cleanF(s:Bs):Bs:=encs (cleanR s)
theorem oQ(r:Int):1≤(enc r).length:=by
 rw[eB];simp only[];repeat (first|split|simp)
theorem mh(l:List Int):(encs l).length≤4*l.length∧l.length≤(encs l).length:=by
 induction l with
 |nil=>simp[encs]
 |cons c t ih=>
  have h1:=dc c;have h2:=oQ c;simp only[encs,M2,G4,G0]at ih ⊢;omega
theorem fU:∀(l o:List Int) (w:Bool),(clnR l o w).length≤o.length+2*l.length
 | [],o,w=>by simp[clnR]
 |c::t,o,w=>by
  rw[clnR];by_cases hb:blankR c=true
  ·rw[G5 hb];have:=fU t o (decide (0<o.length));simp only[G0];omega
  ·rw[G2 hb];by_cases hk:ctlR c=true
   ·rw[G5 hk];have:=fU t o w;simp only[G0];omega
   ·rw[G2 hk];have:=fU t (o++(if w then [32,c]else [c])) false;have hw:(if w then [32,c]else [c]:List Int).length≤2:=(by split<;>simp);simp only[G4,G0]at this ⊢;omega
theorem eY:∀(l o:List Int) (w:Bool),(∀c∈l,Rune c)→(∀c∈o,Rune c)→∀c∈clnR l o w,Rune c
 | [],o,w,_,h=>by simpa [clnR]using h
 |c::t,o,w,hl,ho=>by
  rw[clnR];have ht:∀x∈t,Rune x:=fun x hx=>hl x (by simp[hx])
  split
  ·exact eY t o _ ht ho
  ·split
   ·exact eY t o w ht ho
   ·refine eY t _ false ht ?_;intro x hx;rcases U0.1 hx with hx|hx
    ·exact ho x hx
    ·have h32:Rune 32:=⟨by decide,by decide⟩
     split at hx
     ·simp at hx;rcases hx with rfl|rfl
      ·exact h32
      ·exact hl _ (by simp)
     ·simp at hx;subst hx;exact hl _ (by simp)
theorem pY(s:Bs):(cleanR s).length≤2*s.length:=by
 have h1:=fU (runesF s) [] false;have h2:=jc s.length s (H6 _);simp only[G8]at h1;unfold cleanR;omega
theorem fV(s:Bs):(cleanF s).length≤8*s.length:=by
 have h1:=pY s;have h2:=mh (cleanR s);unfold cleanF;omega
def cutN:Nat→Bs→Nat→Nat
 |0,_,_=>0
 |f+1,s,n=>if s=[]then 0 else if n<(dec s 0).2 then 0 else(dec s 0).2+cutN f (s.drop (dec s 0).2) (n-(dec s 0).2)
def cutF(s:Bs)(n:Nat):Bs:=s.take (cutN s.length s n)
def rightN:Nat→Bs→Bool
 |0,_=>true
 |f+1,s=>if s=[]then true else if (dec s 0).1=65533∧(dec s 0).2=1 then false else rightN f (s.drop (dec s 0).2)
def rightS(s:Bs):Bool:=rightN s.length s
theorem nC:∀(f:Nat) (s:Bs),s.length≤f→rightN f s=rightN s.length s:=by
 intro f;induction f using Nat.strongRecOn with
 |ind f ih=>
  intro s hs;cases s with
  |nil=>cases f<;>rfl
  |cons b t=>
   obtain⟨f,rfl⟩:∃g,f=g+1:=⟨f-1,by simp at hs;omega⟩;have hd:=aQ (b::t) 0 (by simp);simp only[G0]at hs hd ⊢;rw[rightN,rightN,G2 (show ¬(b::t)=[] by simp),G2 (show ¬(b::t)=[] by simp)];have hl:((b::t).drop (dec (b::t) 0).2).length≤t.length:=(by simp only[L4,G0];omega);rw[ih f (by omega) _ (by omega),ih t.length (by omega) _ hl]
theorem nD(s:Bs)(h:s≠ []):rightS s=if (dec s 0).1=65533∧(dec s 0).2=1 then false else rightS (s.drop (dec s 0).2):=by
 have hl:0<s.length:=N6.2 h;have hd:=aQ s 0 hl;unfold rightS;obtain⟨n,hn⟩:∃n,s.length=n+1:=⟨s.length-1,by omega⟩;rw[hn,rightN,G2 h,nC n _ (by simp only[L4];omega)]
theorem kD(s:Bs)(k:Nat)(h:k<s.length):rightS (s.drop k)=if (dec s k).1=65533∧(dec s k).2=1 then false else rightS (s.drop (k+(dec s k).2)):=by
 rw[nD _ (by intro e;have:=I8 List.length e;simp at this;omega), ← de,Q8]
theorem nE(n b0 b1 b2 b3:Nat)(h1:b1<256)(h2:b2<256)(h0:b0<256)(h:(Lib.decodeN n b0 b1 b2 b3).1=65533):(Lib.decodeN n b0 b1 b2 b3).2=1↔¬(3≤n∧b0=239∧b1=191∧b2=189):=by
 unfold Lib.decodeN at*;by_cases c1:b0<128
 ·rw[G5 c1]at *;simp only[]at *;omega
 rw[G2 c1]at*;by_cases c2:(b0/32=6∧(1<n∧b1/64=2))
 ·rw[G5 c2]at*;by_cases c3:b0%32*64+b1%64≥128
  ·rw[G5 c3]at *;simp only[]at *;omega
  ·rw[G2 c3]at *;exact⟨fun _ hc=>by omega,fun _=>rfl⟩
 rw[G2 c2]at*;by_cases c4:b0/16=14∧(1<n∧b1/64=2)∧(2<n∧b2/64=2)
 ·rw[G5 c4]at*;by_cases c5:(b0%16*4096+b1%64*64+b2%64≥2048∧(b0%16*4096+b1%64*64+b2%64<55296∨(57344≤b0%16*4096+b1%64*64+b2%64∧b0%16*4096+b1%64*64+b2%64≤1114111)))
  ·rw[G5 c5]at *;simp only[]at *;omega
  ·rw[G2 c5]at *;exact⟨fun _ hc=>by omega,fun _=>rfl⟩
 rw[G2 c4]at*;by_cases c6:b0/8=30∧(1<n∧b1/64=2)∧(2<n∧b2/64=2)∧(3<n∧b3/64=2)
 ·rw[G5 c6]at*;by_cases c7:(b0%8*262144+b1%64*4096+b2%64*64+b3%64≥65536∧(b0%8*262144+b1%64*4096+b2%64*64+b3%64<55296∨(57344≤b0%8*262144+b1%64*4096+b2%64*64+b3%64∧b0%8*262144+b1%64*4096+b2%64*64+b3%64≤1114111)))
  ·rw[G5 c7]at *;simp only[]at *;omega
  ·rw[G2 c7]at *;exact⟨fun _ hc=>by omega,fun _=>rfl⟩
 ·rw[G2 c6]at *;exact⟨fun _ hc=>by omega,fun _=>rfl⟩
theorem Cj(u:Bs):Lib.hasPrefix u [239,191,189]=true↔(3≤u.length∧(u.getD 0 0).toNat=239∧(u.getD 1 0).toNat=191∧(u.getD 2 0).toNat=189):=by
 have key:∀(x:UInt8) (n:Nat),n<256→(x.toNat=n↔x=UInt8.ofNat n):=fun x n h=>by rw[← UInt8.toNat_inj,ay n h]
 match u with
 | []=>simp[Lib.hasPrefix]
 | [a]=>simp[Lib.hasPrefix]
 | [a,b]=>simp[Lib.hasPrefix]
 |a::b::c::t=>
  simp only[L5,N7,G0];rw[key a 239 (by omega),key b 191 (by omega),key c 189 (by omega)];unfold Lib.hasPrefix;simp only[List.isPrefixOf,G1,beq_iff_eq];constructor
  ·rintro⟨rfl,rfl,rfl,_⟩;exact⟨by omega,rfl,rfl,rfl⟩
  ·rintro⟨_,rfl,rfl,rfl⟩;exact⟨rfl,rfl,rfl,trivial⟩
theorem u6(s:Bs)(k:Nat)(hd:(dec s k).1=65533):(dec s k).2=1↔Lib.hasPrefix (s.drop k) [239,191,189]=false:=by
 rw[de]at*;generalize s.drop k=u at*;rw[← Bool.not_eq_true,Cj];rw[eg]at*;exact nE _ _ _ _ _ (UInt8.toNat_lt _) (UInt8.toNat_lt _) (UInt8.toNat_lt _) hd
end
section
attribute [local irreducible] WP WPl WPix Sat
variable (G:Nat→Option (List AVal))
theorem pZ(c:Int)(h:Heap):Sat (CT G) 76 [.int .i32 c] h (fun r h'=>r=.bool (blankR c)∧h'=h):=by
 have yes:(c=9∨c=10∨c=13∨c=32∨c=160∨c=8232∨c=8233∨c=12288)→blankR c=true:=fun h=>H0 h
 have no:¬(c=9∨c=10∨c=13∨c=32∨c=160∨c=8232∨c=8233∨c=12288)→blankR c=false:=fun h=>H3 h
 refine sb [.tmp 2] Tryz.func76 ?_;intro Q hQ;refine wk trivial ?_;refine cq trivial (fun c0=>?_) (fun c0=>?_)<;>(try exact c0.elim)<;>(refine wk trivial ?_)
 ·refine cq trivial (fun d=>?_) (fun d=>?_)<;>(try exact d.elim)<;>(refine wk trivial ?_)
  ·refine ee hQ trivial ?_;refine fR (.bool _) ?_;rw[yes (by omega)]
  ·exfalso;omega
 refine cq trivial (fun c1=>?_) (fun c1=>?_)<;>(try exact c1.elim)<;>(refine wk trivial ?_)
 ·refine cq trivial (fun d=>?_) (fun d=>?_)<;>(try exact d.elim)<;>(refine wk trivial ?_)
  ·refine ee hQ trivial ?_;refine fR (.bool _) ?_;rw[yes (by omega)]
  ·exfalso;omega
 refine cq trivial (fun c2=>?_) (fun c2=>?_)<;>(try exact c2.elim)<;>(refine wk trivial ?_)
 ·refine cq trivial (fun d=>?_) (fun d=>?_)<;>(try exact d.elim)<;>(refine wk trivial ?_)
  ·refine ee hQ trivial ?_;refine fR (.bool _) ?_;rw[yes (by omega)]
  ·exfalso;omega
 refine cq trivial (fun c3=>?_) (fun c3=>?_)<;>(try exact c3.elim)<;>(refine wk trivial ?_)
 ·refine cq trivial (fun d=>?_) (fun d=>?_)<;>(try exact d.elim)<;>(refine wk trivial ?_)
  ·refine ee hQ trivial ?_;refine fR (.bool _) ?_;rw[yes (by omega)]
  ·exfalso;omega
 refine cq trivial (fun c4=>?_) (fun c4=>?_)<;>(try exact c4.elim)<;>(refine wk trivial ?_)
 ·refine cq trivial (fun d=>?_) (fun d=>?_)<;>(try exact d.elim)<;>(refine wk trivial ?_)
  ·refine ee hQ trivial ?_;refine fR (.bool _) ?_;rw[yes (by omega)]
  ·exfalso;omega
 refine cq trivial (fun c5=>?_) (fun c5=>?_)<;>(try exact c5.elim)<;>(refine wk trivial ?_)
 ·refine cq trivial (fun d=>?_) (fun d=>?_)<;>(try exact d.elim)<;>(refine wk trivial ?_)
  ·refine ee hQ trivial ?_;refine fR (.bool _) ?_;rw[yes (by omega)]
  ·exfalso;omega
 refine cq trivial (fun c6=>?_) (fun c6=>?_)<;>(try exact c6.elim)<;>(refine wk trivial ?_)
 ·refine cq trivial (fun d=>?_) (fun d=>?_)<;>(try exact d.elim)<;>(refine wk trivial ?_)
  ·refine ee hQ trivial ?_;refine fR (.bool _) ?_;rw[yes (by omega)]
  ·exfalso;omega
 refine cq trivial (fun d=>?_) (fun d=>?_)<;>(try exact d.elim)<;>(refine wk trivial ?_)
 ·refine ee hQ trivial ?_;refine fR (.bool _) ?_;rw[yes (by omega)]
 ·refine ee hQ trivial ?_;refine fR (.bool _) ?_;rw[no (by omega)]
theorem mi(c:Int)(h:Heap):Sat (CT G) 78 [.int .i32 c] h (fun r h'=>r=.bool (ctlR c)∧h'=h):=by
 refine sb [.tmp 2] Tryz.func78 ?_;intro Q hQ;refine wk trivial ?_;(first|refine gq trivial (fun g1=>?_) (fun g1=>?_)|refine pq trivial (fun g1=>?_) (fun g1=>?_))<;>(try exact g1.elim)<;>(try refine sq trivial ?_)<;>(refine wk trivial ?_)
 ·refine ee hQ trivial ?_;refine fR (.bool _) ?_;rw[show ctlR c=true from H0 (.inl g1)]
 ·(first|refine gq trivial (fun g2=>?_) (fun g2=>?_)|refine pq trivial (fun g2=>?_) (fun g2=>?_))<;>(try exact g2.elim)<;>(try refine sq trivial ?_)<;>(refine wk trivial ?_)
  ·refine ee hQ trivial ?_;refine fR (.bool _) ?_;unfold ctlR;congr 1
   rw[N8];simp;omega
  ·refine ee hQ trivial ?_;refine fR (.bool _) ?_;rw[show ctlR c=false from H3 (by omega)]
theorem u7(h j:Heap)(a:AVal)(v:Nat)(o s:Bs)(q:Nat):(bldH h (Blk.iter s q::j) a v o)[h.length+2]? =some (.iter s q):=by
 unfold bldH;rw[H8 (by omega),show h.length+2-h.length=2 by omega];rfl
theorem ua(h j:Heap)(a:AVal)(v:Nat)(o:Bs)(x y:Blk):(bldH h (x::j) a v o).set (h.length+2) y=bldH h (y::j) a v o:=by
 unfold bldH;rw[List.set_append_right _ _ (by omega),show h.length+2-h.length=2 by omega];rfl
theorem cW(s:Bs)(hs:s.length≤100000000)(h:Heap):Sat (CT G) 44 [.str s] h (fun r h'=>r=.str (cleanF s)∧h'=h):=by
 have F:= @ua;refine sb [.tmp 2] Tryz.func44 ?_;intro Q hQ;(repeat (first|refine w1 (fun K hK=>?_)|refine w2 ?_|refine w3 ?_| ((first|refine w4 ?_|refine wD ?_|refine w5 ?_|refine w6 ?_|refine w7 ?_);try refine sq F ?_)| (refine w8 ?_;refine sq F ?_;refine w9 ?_)))
 refine hK _ _ (H5 ?_);clear hK K;(repeat (first|refine w1 (fun K hK=>?_)|refine w2 ?_|refine w3 ?_| ((first|refine w4 ?_|refine wD ?_|refine w5 ?_|refine w6 ?_|refine w7 ?_);try refine sq F ?_)| (refine w8 ?_;refine sq F ?_;refine w9 ?_)))
 refine hK _ _ ⟨_,_,U3 (p:=h.length) (v:=0) 5 1 (by omega) (by simp(disch:=first|omega| (simp only[go_sem, ↓reduceIte,seval];first|done|omega)|fail) only[go_sem, ↓reduceIte,seval,F];rfl) 1 rfl,?_⟩;clear hK K;refine wk F ?_;refine lm (fun nL tL hL=>∃(a:AVal) (v k:Nat) (out:List Int) (w:Bool),s.length-k=nL∧bldH h [.iter s k] a v (encs out)=hL∧tL 4=.bool w∧bldA a h.length∧k≤s.length∧clnR (runesF (s.drop k)) out w=cleanR s∧(encs out).length+8*(s.length-k)≤8*s.length) ((fun(a:AVal) (v k:Nat) (out:List Int) (w:Bool)=>(s.length-k:Nat)) ((.nil (.pointer none))) (0) (0) ([]) (false)) ?_ ?_
 ·refine H5 ⟨(.nil (.pointer none)),0,0,[],false,rfl,by simp[bldH,bldR,bufR,encs],?_,.inl rfl,by omega,rfl,by simp[encs]⟩;all_goals try exact zZz F
 rintro _ s2 h' ⟨a,v,k,out,w,rfl,rfl,e4,ha,hk,hv,hl⟩ K2 hK2;simp only[am,ar,Nat.reduceEqDiff, ↓reduceIte]at e4;have F:=F2 F e4;refine wk F ?_;refine bR (u7 _ _ _ _ _ _ _) (fun hlt=>?_) (fun hge=>?_)
 ·have hR:=mg s k hlt;have hp:=aQ s k hlt;rw[kC s k hlt,clnR]at hv;rw[show Utf8.decode ⟨s.toArray⟩ k=dec s k from rfl];generalize dec s k=d at*;obtain⟨c,m⟩:=d;simp only[]at hR hp hv ⊢;try refine sq F ?_
  refine wk F ?_;refine kq F (pZ G c _) ?_;refine cq F (fun c1=>?_) (fun c1=>?_)<;>(try exact c1.elim)<;>(refine wk F ?_)
  ·rw[G5 c1]at hv;refine kq F (vN G a h [.iter s (k+m)] v (encs out)) ?_;have ho:decide (((encs out).length:Int)>0)=decide (0<out.length):=by
    have:=mh out;rw[N8];simp only[G6];omega
   have F:=F2 F ho;(try refine sq F ?_);refine hK2 _ _ _ (H5 ⟨a,v,k+m,out,decide (0<out.length),rfl,aw,?_,ha,by omega,hv,by omega⟩) (by omega);all_goals try exact zZz F
  ·rw[G2 (by simp[c1])]at hv;refine kq F (mi G c _) ?_;refine cq F (fun c2=>?_) (fun c2=>?_)<;>(try exact c2.elim)<;>(refine wk F ?_)
   ·rw[G5 c2]at hv;refine hK2 _ _ _ (H5 ⟨a,v,k+m,out,w,rfl,aw,?_,ha,by omega,hv,by omega⟩) (by omega);all_goals try exact zZz F
   ·rw[G2 (by simp[c2])]at hv;have he:=dc c;have e1:encs (out++[32,(c:Int)])=encs out++[32]++enc c:=by
     simp only[encs,P2,M2,List.flatMap_nil,J3,J4];rfl
    have e2:encs (out++[(c:Int)])=encs out++enc c:=by
     simp only[encs,P2,M2,List.flatMap_nil,J3]
    refine cq F (fun c3=>?_) (fun c3=>?_)<;>(try exact c3.elim)<;>(refine wk F ?_)
    ·rw[G5 c3]at hv;refine kq F (bW G a h [.iter s (k+m)] v (encs out) 32 ha (by omega)) ?_;refine kq F (dS G (.hp h.length 0 0 0) c hR h [.iter s (k+m)] (v+1) (encs out++[32]) (.inr rfl) (by simp only[G4,G0,G8];omega)) ?_;refine hK2 _ _ _ (H5 ⟨(.hp h.length 0 0 0),v+1+1,k+m,out++[32,(c:Int)],false,rfl,by rw[e1];simp,?_,.inr rfl,by omega,hv,by rw[e1];simp only[G4,G0,G8];omega⟩) (by omega);all_goals try exact zZz F
    ·rw[G2 (by simp[c3])]at hv;refine kq F (dS G a c hR h [.iter s (k+m)] v (encs out) ha (by omega)) ?_;refine hK2 _ _ _ (H5 ⟨(.hp h.length 0 0 0),v+1,k+m,out++[(c:Int)],false,rfl,by rw[e2],?_,.inr rfl,by omega,hv,by rw[e2];simp only[G4];omega⟩) (by omega);all_goals try exact zZz F
 ·rw[jb s k (by omega)]at hv;try refine sq F ?_
  refine wk F ?_;refine(fQ G a h [.iter s k] v (encs out)).mono ?_;rintro r h' ⟨rfl,b2,rfl⟩;try refine sq F ?_
  refine wk F ?_;refine ee hQ F ?_;exact U1 (j:=[bldR a (h.length+1) v (encs out),b2,.iter s k]) (by simp) (.str _) ⟨I8 AVal.str (by unfold cleanF;rw[← hv];rfl),rfl⟩
theorem rI:∀(f:Nat) (s:Bs) (n:Nat),s.length≤f→cutN f s n=cutN s.length s n:=by
 intro f;induction f using Nat.strongRecOn with
 |ind f ih=>
  intro s n hs;cases s with
  |nil=>cases f<;>rfl
  |cons b t=>
   obtain⟨f,rfl⟩:∃g,f=g+1:=⟨f-1,by simp at hs;omega⟩;have hd:=aQ (b::t) 0 (by simp);simp only[G0]at hs hd ⊢;have hl:((b::t).drop (dec (b::t) 0).2).length≤t.length:=(by simp only[L4,G0];omega);rw[cutN,cutN,G2 (show ¬(b::t)=[] by simp),G2 (show ¬(b::t)=[] by simp),ih f (by omega) _ _ (by omega),ih t.length (by omega) _ _ hl]
def cutA(s:Bs)(k n:Nat):Nat:=cutN (s.drop k).length (s.drop k) n
theorem fW(s:Bs)(k n:Nat)(h:s.length≤k):cutA s k n=0:=by unfold cutA;rw[O5 h];rfl
theorem jI(s:Bs)(k n:Nat)(h:k<s.length):cutA s k n=if n<(dec s k).2 then 0 else(dec s k).2+cutA s (k+(dec s k).2) (n-(dec s k).2):=by
 have hd:=aQ s k h;have hl:(s.drop k).length=(s.length-k-1)+1:=by rw[L4];omega
 unfold cutA;rw[hl,cutN,G2 (by intro e;rw[e]at hl;simp at hl), ← de,Q8,rI (s.length-k-1) _ _ (by simp only[L4];omega)]
theorem vP(s:Bs):∀(f k n:Nat),s.length≤k+f→cutA s k n≤n∧cutA s k n≤s.length-k:=by
 intro f;induction f with
 |zero=>intro k n h;rw[fW s k n (by omega)];omega
 |succ f ih=>
  intro k n h;rcases P6 k s.length with h1|h1
  ·have hd:=aQ s k h1;rw[jI s k n h1];split
   ·omega
   ·have:=ih (k+(dec s k).2) (n-(dec s k).2) (by omega);omega
  ·rw[fW s k n h1];omega
theorem ub(s:Bs):∀(f k n:Nat),s.length≤k+f→s.length-k≤n→cutA s k n=s.length-k:=by
 intro f;induction f with
 |zero=>intro k n h _;rw[fW s k n (by omega)];omega
 |succ f ih=>
  intro k n h hn;rcases P6 k s.length with h1|h1
  ·have hd:=aQ s k h1;rw[jI s k n h1,G2 (by omega),ih _ _ (by omega) (by omega)];omega
  ·rw[fW s k n h1];omega
theorem uc(s:Bs)(n:Nat)(hs:s.length≤1073741824)(hn:n≤1073741824)(h:Heap):Sat (CT G) 83 [.str s,.int .i64 n] h (fun r h'=>r=.str (cutF s n)∧h'=h):=by
 skip
 refine sb [.tmp 4] Tryz.func83 ?_;intro Q hQ;(repeat (first|refine w1 (fun K hK=>?_)|refine w2 ?_|refine w3 ?_| ((first|refine w4 ?_|refine wD ?_|refine w5 ?_|refine w6 ?_|refine w7 ?_);try refine sq trivial ?_)| (refine w8 ?_;refine sq trivial ?_;refine w9 ?_)| ((first|refine hK _ _ (w0 ?_)| (clear hK K;refine hK _ _ (w0 ?_))| (clear hK K;clear hK K;refine hK _ _ (w0 ?_)));clear hK K)))
 have tail:∀(t':Env) (e pos:Nat),t' 0=.str s→t' 1=.int .i64 n→t' 5=.int .i64 e→e≤s.length→(n<s.length→e=cutN s.length s n)→K t' (h++[.iter s pos]):=by
  intro t' e pos e0 e1 e5 he hx;refine hK _ _ (H5 ?_);clear hK K;have F:=F3 e0 e1 e5;(repeat (first|refine w1 (fun K hK=>?_)|refine w2 ?_|refine w3 ?_| ((first|refine w4 ?_|refine wD ?_|refine w5 ?_|refine w6 ?_|refine w7 ?_);try refine sq F ?_)| (refine w8 ?_;refine sq F ?_;refine w9 ?_)| ((first|refine hK _ _ (w0 ?_)| (clear hK K;refine hK _ _ (w0 ?_))| (clear hK K;clear hK K;refine hK _ _ (w0 ?_)));clear hK K)))
  refine cq F (fun c1=>?_) (fun c1=>?_)<;>(try exact c1.elim)<;>((repeat (first|refine w1 (fun K hK=>?_)|refine w2 ?_|refine w3 ?_| ((first|refine w4 ?_|refine wD ?_|refine w5 ?_|refine w6 ?_|refine w7 ?_);try refine sq F ?_)| (refine w8 ?_;refine sq F ?_;refine w9 ?_)| ((first|refine hK _ _ (w0 ?_)| (clear hK K;refine hK _ _ (w0 ?_))| (clear hK K;clear hK K;refine hK _ _ (w0 ?_)));clear hK K))))
  ·refine ee hQ F ?_;refine fR (.str _) ?_;have:=ub s s.length 0 n (by omega) (by omega);unfold cutA at this;simp only[P4]at this;unfold cutF;rw[this];simp
  ·refine ee hQ F ?_;refine fR (.str _) ?_;unfold cutF;rw[hx (by omega)]
 refine lm (fun nL tL hL=>∃(en k:Nat),s.length-k=nL∧h++[.iter s k]=hL∧tL 5=.int .i64 en∧k≤s.length∧en≤k∧(k≤n→k+cutA s k (n-k)=cutN s.length s n)∧(n<k→en=cutN s.length s n)) ((fun(en k:Nat)=>(s.length-k:Nat)) (0) (0)) ?_ ?_
 ·refine H5 ⟨0,0,rfl,aw,?_,by omega,by omega,fun _=>by unfold cutA;simp,fun h=>by omega⟩;all_goals try exact zZz trivial
 rintro _ s2 h' ⟨en,k,rfl,rfl,e5,hk,he,hc,hc2⟩ K2 hK2;simp only[am,ar,Nat.reduceEqDiff, ↓reduceIte]at e5;have F:=e5;(repeat (first|refine w1 (fun K hK=>?_)|refine w2 ?_|refine w3 ?_| ((first|refine w4 ?_|refine wD ?_|refine w5 ?_|refine w6 ?_|refine w7 ?_);try refine sq F ?_)| (refine w8 ?_;refine sq F ?_;refine w9 ?_)| ((first|refine hK _ _ (w0 ?_)| (clear hK K;refine hK _ _ (w0 ?_))| (clear hK K;clear hK K;refine hK _ _ (w0 ?_)));clear hK K)))
 refine bR (cK _ _ _ _) (fun hlt=>?_) (fun hge=>?_)
 ·have hp:=aQ s k hlt;have hca:=jI s k (n-k) hlt;rw[show Utf8.decode ⟨s.toArray⟩ k=dec s k from rfl];generalize dec s k=d at*;obtain⟨c,m⟩:=d;simp only[]at hp hca ⊢;try refine sq F ?_
  (repeat (first|refine w1 (fun K hK=>?_)|refine w2 ?_|refine w3 ?_| ((first|refine w4 ?_|refine wD ?_|refine w5 ?_|refine w6 ?_|refine w7 ?_);try refine sq F ?_)| (refine w8 ?_;refine sq F ?_;refine w9 ?_)| ((first|refine hK _ _ (w0 ?_)| (clear hK K;refine hK _ _ (w0 ?_))| (clear hK K;clear hK K;refine hK _ _ (w0 ?_)));clear hK K)))
  refine cq F (fun c1=>?_) (fun c1=>?_)<;>(try exact c1.elim)<;>((repeat (first|refine w1 (fun K hK=>?_)|refine w2 ?_|refine w3 ?_| ((first|refine w4 ?_|refine wD ?_|refine w5 ?_|refine w6 ?_|refine w7 ?_);try refine sq F ?_)| (refine w8 ?_;refine sq F ?_;refine w9 ?_)| ((first|refine hK _ _ (w0 ?_)| (clear hK K;refine hK _ _ (w0 ?_))| (clear hK K;clear hK K;refine hK _ _ (w0 ?_)));clear hK K))))
  ·refine tail _ en (k+m) ?_ ?_ ?_ (by omega) (fun _=>hc2 (by omega))
   ·exact zq F
   ·exact zq F
   ·exact zq F
  ·have hc':=hc (by omega);rw[hca]at hc';refine hK2 _ _ _ (H5 ⟨k,k+m,rfl,aw,?_,by omega,by omega,fun hle=>by rw[G2 (by omega)]at hc';rw[← hc',show n-(k+m)=n-k-m by omega];omega,fun hgt=>by rw[G5 (by omega)]at hc';omega⟩) (by omega);all_goals try exact zZz F
 ·try refine sq F ?_
  (repeat (first|refine w1 (fun K hK=>?_)|refine w2 ?_|refine w3 ?_| ((first|refine w4 ?_|refine wD ?_|refine w5 ?_|refine w6 ?_|refine w7 ?_);try refine sq F ?_)| (refine w8 ?_;refine sq F ?_;refine w9 ?_)| ((first|refine hK _ _ (w0 ?_)| (clear hK K;refine hK _ _ (w0 ?_))| (clear hK K;clear hK K;refine hK _ _ (w0 ?_)));clear hK K)))
  refine tail _ en k ?_ ?_ ?_ (by omega) (fun _=>hc2 (by omega))
  ·exact zq F
  ·exact zq F
  ·exact zq F
theorem q7(s:Bs)(hs:s.length≤1073741824)(h:Heap):Sat (CT G) 43 [.str s] h (fun r h'=>r=.bool (rightS s)∧h'=h):=by
 refine sb [.tmp 2] Tryz.func43 ?_;intro Q hQ;refine wk trivial ?_;refine lm (fun nL tL hL=>∃(k:Nat),s.length-k=nL∧h++[.iter s k]=hL∧k≤s.length∧rightS (s.drop k)=rightS s) ((fun(k:Nat)=>(s.length-k:Nat)) (0)) ?_ ?_
 ·refine H5 ⟨0,rfl,aw,by omega,rfl⟩;all_goals try exact zZz trivial
 rintro _ s2 h' ⟨k,rfl,rfl,hk,hc⟩ K2 hK2;refine wk trivial ?_;refine bR (cK _ _ _ _) (fun hlt=>?_) (fun hge=>?_)
 ·have hp:=aQ s k hlt;have hca:=kD s k hlt;have h3:=u6 s k;rw[hc]at hca;rw[show Utf8.decode ⟨s.toArray⟩ k=dec s k from rfl];generalize dec s k=d at*;obtain⟨c,m⟩:=d;simp only[]at hp hca h3 ⊢;try refine sq trivial ?_
  refine wk trivial ?_;(first|refine gq trivial (fun g1=>?_) (fun g1=>?_)|refine pq trivial (fun g1=>?_) (fun g1=>?_))<;>(try exact g1.elim)<;>(try refine sq trivial ?_)<;>(refine wk trivial ?_)
  ·have g0:c=65533:=(by omega);have h4:=h3 g0;refine kq trivial (cA G (s.drop k) [239,191,189] _) ?_;refine cq trivial (fun g2=>?_) (fun g2=>?_)<;>(try exact g2.elim)<;>(refine wk trivial ?_)
   ·refine ee hQ trivial ?_;refine fR (.bool _) ?_;rw[hca,G5 ⟨g0,h4.2 (by simpa using g2)⟩]
   ·refine hK2 _ _ _ (H5 ⟨k+m,rfl,aw,by omega,by rw[hca,G2];rintro⟨_,h5⟩;have:=h4.1 h5;rw[this]at g2;cases g2⟩) (by omega);all_goals try exact zZz trivial
  ·refine hK2 _ _ _ (H5 ⟨k+m,rfl,aw,by omega,by rw[hca,G2];rintro⟨h5,_⟩;exact g1 (by omega)⟩) (by omega);all_goals try exact zZz trivial
 ·rw[O5 (by omega)]at hc;try refine sq trivial ?_
  refine wk trivial ?_;refine ee hQ trivial ?_;refine fR (.bool _) ?_;rw[← hc];rfl
def shortAt(s:List UInt8):Nat→List UInt8
 |0=>s
 |k+1=>if s[k]? =some 58 then s.drop (k+1)else shortAt s k
def short(s:List UInt8):List UInt8:=shortAt s s.length
theorem vQ{b:UInt8}{k:Nat}(hk:k<256):((b.toNat:Int)=(k:Nat))↔b=UInt8.ofNat k:=by
 constructor
 ·intro h;have:b.toNat=k:=by omega
  rw[← this];simp
 ·rintro rfl;simp[Nat.mod_eq_of_lt hk]
def attrF:List At→Bs→Bs×Bool
 | [],_=>([],false)
 |a::l,n=>if a.1=n then(a.2,true)else attrF l n
mutual
def deep:Elem→Nat→Nat
 | .mk _ _ _ k,d=>if 40≤d then 40 else deepL k d d
def deepL:List Elem→Nat→Nat→Nat
 | [],_,n=>n
 |k::l,d,n=>deepL l d (if n<deep k (d+1)then deep k (d+1)else n)
end
theorem mm{h0 h1 pre post:Heap}{e n v q:Nat}{rows:List AVal}(hh:h1=pre++ .row e n v rows::post)(hq:q=pre.length)(hp:h0.length≤q)(hc:∀r∈rows,Clo h0.length r)(hs:∀r∈rows,∀c∈r.cells,c.sto=true):
  Frz h1 h0.length (.hs q v 0 rows.length true) (.sl n rows):=by
 subst hh;subst hq;have:=Frz.hs (h:=pre++ .row e n v rows::post) (n:=h0.length) pre.length v 0 rows.length true e n rows rows hp (by simp[getRow]) (by simp) rfl
   (fun i r s hr hs'=>by rw[hr]at hs';cases hs';exact .clo _ (hc r (H2 hr)))
   (fun i r s hr hs'=>by rw[hr]at hs';cases hs';exact⟨rfl,fun j c d hj hd=>hs r (H2 hr) d (H2 hd)⟩)
   (fun i r s j c d hr hs' hj hd=>by rw[hr]at hs';cases hs';rw[hj]at hd;cases hd;exact .clo _ ((hc r (H2 hr)).cells c (H2 hj)))
 simpa using this
theorem Elem.av_sto(e:Elem):∀c∈e.av.cells,c.sto=true:=by
 rw[Elem.av_cells];intro c hc;simp only[J5,P7,or_false]at hc;rcases hc with rfl|rfl|rfl|rfl<;>rfl
theorem Tok.av_sto(e:Tok):∀c∈e.av.cells,c.sto=true:=by
 rw[Tok.av_cells];intro c hc;simp only[J5,P7,or_false]at hc;rcases hc with rfl|rfl|rfl|rfl<;>rfl
theorem rJ{h0 h1 pre post:Heap}{e v q:Nat}(l:List Elem)(hh:h1=pre++ .row e 4 v (l.map Elem.av)::post)(hq:q=pre.length)(hp:h0.length≤q):Frz h1 h0.length (.hs q v 0 l.length true) (.sl 4 (l.map Elem.av)):=by
 have:=mm (h0:=h0) hh hq hp (fun r hr=>by obtain⟨a,_,rfl⟩:=K6.1 hr;exact Elem.clo _ a) (fun r hr=>by obtain⟨a,_,rfl⟩:=K6.1 hr;exact a.av_sto);simpa using this
def kidsF(e:Elem)(n:Bs):List Elem:=e.kids.filter fun k=>decide (short k.name=n)
end
section
inductive Outl where
 |mk (title url:Bs) (kids:List Outl)
 deriving Inhabited
namespace Outl
def title:Outl→Bs| .mk t _ _=>t
def kids:Outl→List Outl| .mk _ _ k=>k
end Outl
mutual
def Outl.av:Outl→AVal
 | .mk t u k=>.agg [.str t,.str u,.sl 3 (ovs k)]
def ovs:List Outl→List AVal
 | []=>[]
 |e::l=>e.av::ovs l
end
mutual
def Outl.sz:Outl→Nat
 | .mk t u k=>1+t.length+u.length+okidsz k
def okidsz:List Outl→Nat
 | []=>0
 |e::l=>e.sz+okidsz l
end
end
section
attribute [local irreducible] WP WPl WPix Sat
variable (G:Nat→Option (List AVal))
end
end Go.Av
namespace Go.Av
open Go.RowKit
section
variable {C:Ctx} {t:Env} {h:Heap}
def detGo(md:Region.Mode)(ops:Array Oper):Nat→Array Bool→Option (List Nat)
 |0,_=>some []
 |f+1,L=>match Region.ready md ops L with
  | [i]=>(detGo md ops f (L.setIfInBounds i true)).map (i:: ·)
  |_=>none
theorem mn{ops:Array Oper}{Q:Exit→Env→Heap→Prop}{md:Region.Mode}:∀(f:Nat) (L:Array Bool) (idx:List Nat) (sub:List Oper) (t:Env) (h:Heap),detGo md ops f L=some idx→idx.map (fun i=>ops[i]?)=sub.map some→
  WPl C ops Q sub t h→RestM C ops Q md f L t h:=by
 intro f;induction f with
 |zero=>
  intro L idx sub t h hd hs g n;simp only[detGo,H7]at hd;subst hd;have:sub=[]:=by simpa using hs.symm
  subst this;simp only[Region.linearise.go,List.reverse_nil,WPix];exact g
 |succ f ih=>
  intro L idx sub t h hd hs g n;simp only[detGo]at hd;split at hd
  ·rename_i i hr;obtain⟨idx',hd',rfl⟩:=I5.1 hd;cases sub with
   |nil=>simp at hs
   |cons o sub=>
    simp only[J7,R9]at hs;have hi:(Region.ready md ops L)[n%(Region.ready md ops L).length]? =some i:=by
     rw[hr,List.length_singleton,Nat.mod_one];rfl
    rw[cE md ops f n L hi];simp only[WPix,hs.1];simp only[WPl]at g;exact dv g fun t' h' g'=>ih _ idx' sub t' h' hd' hs.2 g' _
  ·cases hd
theorem mr{l:List Oper}{k n:Nat}(h:k+n≤l.length):(List.range' k n).map (fun i=>l.toArray[i]?)=((l.drop k).take n).map some:=by
 refine List.ext_getElem? fun i=>?_
 simp only[K9];by_cases hi:i<n
 ·rw[I1 hi,L9,List.getElem?_range' (by omega)];simp only[O4,R0];have:k+i<l.length:=by omega
  simp[G3 this]
 ·rw[O7 (by simp;omega),O7 (by simp;omega)];rfl
inductive OT where
 |nil
 |one (i:Nat) (s:OT)
 |two (i:Nat) (s:OT) (j:Nat) (u:OT)
def OT.ok(ops:Array Oper):Nat→Array Bool→OT→Bool
 |0,_,.nil=>true
 |f+1,L,.one i s=>Region.ready .any ops L==[i]&&OT.ok ops f (L.setIfInBounds i true) s
 |f+1,L,.two i s j u=>Region.ready .any ops L==[i,j]&&(OT.ok ops f (L.setIfInBounds i true) s&&OT.ok ops f (L.setIfInBounds j true) u)
 |_,_,_=>false
def WPt(C:Ctx)(ops:Array Oper)(Q:Exit→Env→Heap→Prop):OT→Env→Heap→Prop
 | .nil,t,h=>Q .normal t h
 | .one i s,t,h=>WPl C ops (fun _ t' h'=>WPt C ops Q s t' h') (ops[i]?).toList t h
 | .two i s j u,t,h=>WPl C ops (fun _ t' h'=>WPt C ops Q s t' h') (ops[i]?).toList t h∧WPl C ops (fun _ t' h'=>WPt C ops Q u t' h') (ops[j]?).toList t h
theorem OT.sound{ops:Array Oper}{Q:Exit→Env→Heap→Prop}:∀(f:Nat) (L:Array Bool) (tr:OT) (t:Env) (h:Heap),OT.ok ops f L tr=true→WPt C ops Q tr t h→RestM C ops Q .any f L t h:=by
 intro f;induction f with
 |zero=>
  intro L tr t h ho g n;cases tr with
  |nil=>simp only[Region.linearise.go,List.reverse_nil,WPix];exact g
  |_=>simp[OT.ok]at ho
 |succ f ih=>
  intro L tr t h ho g n;have step:∀(i:Nat) (s:OT),(Region.ready .any ops L)[n%(Region.ready .any ops L).length]? =some i→OT.ok ops f (L.setIfInBounds i true) s=true→WPl C ops (fun _ t' h'=>WPt C ops Q s t' h') (ops[i]?).toList t h→
    WPix C ops Q (Region.linearise.go .any ops (f+1) n L []) t h:=fun i s hi hs hg=>by
   rw[cE .any ops f n L hi];simp only[WPix];have hmem:=H2 hi;obtain⟨_,o,ho,_⟩:=mem_ready.1 hmem;simp only[ho,Option.toList]at hg ⊢;simp only[WPl]at hg;exact dv hg fun t' h' g'=>ih _ s t' h' hs g' _
  cases tr with
  |nil=>simp[OT.ok]at ho
  |one i s=>
   simp only[OT.ok,G1,beq_iff_eq]at ho;exact step i s (by rw[ho.1,List.length_singleton,Nat.mod_one];rfl) ho.2 g
  |two i s j u=>
   simp only[OT.ok,G1,beq_iff_eq]at ho;have hn:n%2=0∨n%2=1:=(by omega);rcases hn with hn|hn
   ·exact step i s (by rw[ho.1];show [i,j][n%2]? =_;rw[hn];rfl) ho.2.1 g.1
   ·exact step j u (by rw[ho.1];show [i,j][n%2]? =_;rw[hn];rfl) ho.2.2 g.2
theorem fX{id:Nat}{l:List Oper}{Q:Exit→Env→Heap→Prop}(k:Nat)(tr:OT)(hok:(preOk l.toArray k&&decide (k≤l.length))=true)(hm:C.P.follows .mixedOrders=true)
  (hT:OT.ok l.toArray (l.length-k) (listK l.length k) tr=true)
  (hh:WPp C l.toArray (l.take k) t h fun t'=>WPt C l.toArray Q tr t' h):WP C (.region id l.toArray true) Q t h:=by
 simp only[G1,G6]at hok;have D:=ed hok.1;obtain⟨V,hv,hK⟩:=bS _ _ hh;have hlen:(l.take k).length=k:=by simp;omega
 rw[hlen]at hK;have rT:=OT.sound (ops:=l.toArray) (Q:=Q) _ _ tr _ h hT hK;have main:∀n,WPix C l.toArray Q (Region.linearise .any l.toArray n) t h:=fun n=>by
  unfold Region.linearise;refine cV D .any D.less (by simp;omega) (V:=V) (t0:=t) (fun _=>True) (fun i o hi _=>hv i o hi) (by simpa using rT) _ _ _ _ (by simp) ?_ (fun j oj hj hl=>?_) (fun j hj hl=>?_) (fun _ _ _=>trivial) (Ag.start _ _ _ _ fun j hj=>?_)
  ·unfold left;have:(List.range l.toArray.size).filter (fun i=> !(Array.replicate l.toArray.size false).getD i true)=List.range l.toArray.size:=by
    rw[P8];intro i hi;have:=M6.1 hi;simp at this ⊢;simp[this]
   rw[this,R6]
  ·have h8:=(J0.1 hj).1;simp at h8 hl;simp[h8]at hl
  ·simp at hj hl;simp[hj]at hl
  ·have:j<l.length:=by omega
   simp[this]
 show ∀tp,WPix C l.toArray Q (Region.schedule (C.P.follows .mixedOrders) l.toArray tp) t h;intro tp;unfold Region.schedule;rw[hm];simp only[M4,if_true];exact main _
def agrL:List Nat→Env→Env→Prop
 | [],_,_=>True
 |d::ds,s,t=>s d=t d∧agrL ds s t
theorem iK:∀{ds:List Nat} {s t:Env},agrL ds s t→∀d∈ds,s d=t d
 | [],_,_,_,d,h=>by cases h
 |e::ds,s,t,g,d,h=>by
  rcases J5.1 h with rfl|h
  ·exact g.1
  ·exact iK g.2 d h
theorem jJ{d:Nat}:∀{l:List Oper} {i:Nat} {o:Oper},l[i]? =some o→o.dst=some d→d∈wrOps l
 | [],i,o,h,_=>by simp at h
 |a::l,0,o,h,hd=>by simp at h;subst h;unfold wrOps;rw[hd];simp
 |a::l,i+1,o,h,hd=>by
  have:=jJ (l:=l) (i:=i) (o:=o) (by simpa using h) hd;unfold wrOps;split<;>simp[this]
theorem dg{id:Nat}{l:List Oper}{Q:Exit→Env→Heap→Prop}(k u:Nat)(oe:Oper)(hoe:l[k]? =some oe)(hok:(preOk l.toArray (k+1)&&decide (u≤k))=true)(hm:C.P.follows .mixedOrders=true)
  (hu:((List.range k).all fun i=>decide (i<u)||((Region.before l.toArray).getD k 0).testBit i)=true)(hdst:((l.take u).all fun o=>o.dst.isSome)=true)
  (hA:detGo .any l.toArray (l.length-(k+1)) (listK l.length (k+1))=some (List.range' (k+1) (l.length-(k+1))))
  (hh:WPp C l.toArray (l.take k) t h fun t'=>wpOperV C l.toArray oe t' h fun v h'=>
   (WPp C l.toArray (l.take u) t h' fun t''=>agrL (wrOps (l.take u)) t'' t')∧WPl C l.toArray Q (l.drop (k+1)) (put t' oe.dst v) h'):WP C (.region id l.toArray true) Q t h:=by
 simp only[G1,G6]at hok;have D:=ed hok.1;have hkl:=(F1.1 hoe).1;obtain⟨V,hv,hK⟩:=bS _ _ hh;have hlen:(l.take k).length=k:=by simp;omega
 rw[hlen]at hK;have hTT:∀i,i≤k→Av.T V (l.take k) t i=Av.T V l t i:=fun i hi=>fr V V k (fun _ _=>rfl) _ _ _ _ hi (by rw[U8];congr 1;omega) (by rw[hlen];exact hi) (by omega)
 rw[hTT k (H6 _)]at hK;have main:∀n,WPix C l.toArray Q (Region.linearise .any l.toArray n) t h:=fun n=>by
  unfold Region.linearise;refine j7 D .any D.less (by simp;omega) (V:=V) (t0:=t) (oe:=oe) (by simpa using hoe) (fun i o hi ho=>?_) ?_ _ _ _ _ (by simp) ?_ (fun j oj hj hl=>?_) (fun j hj hl=>?_) (Ag.start _ _ _ _ fun j hj=>?_)
  ·have:=hv i o (by rw[N5,G5 hi];simpa using ho);rw[hTT i (by omega)]at this;exact this
  ·refine bG hK fun v h' ⟨h1,h2⟩=>⟨fun i o hi ho hc=>?_,?_⟩
   ·have hiu:i<u:=by
     have:=I0.1 hu i (M6.2 hi);rw[hc]at this;simpa using this
    obtain⟨V2,hv2,hK2⟩:=bS _ _ h1;have hlu:(l.take u).length=u:=(by simp;omega);rw[hlu]at hK2;have hVV:∀j,j<u→V2 j=V j:=fun j hj=>by
     have hoj:l[j]? =some (l[j]'(by omega)):=G3 _;have hoj':(l.take u)[j]? =some (l[j]'(by omega)):=(by rw[N5,G5 hj];exact hoj);obtain⟨d,hdd⟩:=J8.1 (I0.1 hdst _ (H2 hoj'));have e:=iK hK2 d (jJ hoj' hdd);have a1:=D.ag_T V2 t (by simp;omega) u (by omega);have a2:=D.ag_T V t (by simp;omega) k (by omega);have hoa:l.toArray[j]? =some (l[j]'(by omega)):=(by simp);have b1:=a1.1 j _ d (by omega) hoa (by simpa using hj) hdd;have b2:=a2.1 j _ d (by omega) hoa (by simp;omega) hdd;have c1:Av.T V2 (l.toArray.toList.take (k+1)) t u=Av.T V2 (l.take u) t u:=fr V2 V2 u (fun _ _=>rfl) _ _ _ _ (H6 _) (by simp[U8];try omega) (by simp;omega) (by omega);have c2:Av.T V (l.toArray.toList.take (k+1)) t k=Av.T V l t k:=fr V V k (fun _ _=>rfl) _ _ _ _ (H6 _) (by simp[U8]) (by simp;omega) (by omega);rw[c1]at b1;rw[c2]at b2;rw[← b1, ← b2,e]
    have:=hv2 i o (by rw[N5,G5 hiu];simpa using ho);rw[hVV i hiu]at this;have c3:Av.T V2 (l.take u) t i=Av.T V l t i:=fr V V2 u hVV _ _ _ _ (by omega) (by rw[U8];congr 1;omega) (by omega) (by omega);rw[c3]at this;exact this
   ·have:=mn (ops:=l.toArray) (Q:=Q) _ _ _ (l.drop (k+1)) _ h' hA (by rw[mr (by omega),H9 (by simp)]) h2;simpa using this
  ·unfold left;have:(List.range l.toArray.size).filter (fun i=> !(Array.replicate l.toArray.size false).getD i true)=List.range l.toArray.size:=by
    rw[P8];intro i hi;have:=M6.1 hi;simp at this ⊢;simp[this]
   rw[this,R6]
  ·have h8:=(J0.1 hj).1;simp at h8 hl;simp[h8]at hl
  ·simp at hj hl;simp[hj]at hl
  ·have:j<l.length:=by omega
   simp[this]
 show ∀tp,WPix C l.toArray Q (Region.schedule (C.P.follows .mixedOrders) l.toArray tp) t h;intro tp;unfold Region.schedule;rw[hm];simp only[M4,if_true];exact main _
attribute [go_sem] agrL
theorem bI{ops:Array Oper}{Q:Exit→Env→Heap→Prop}(g:Q .normal t h):WPt C ops Q .nil t h:=g
theorem bJ{ops:Array Oper}{Q:Exit→Env→Heap→Prop}{i:Nat}{s:OT}{o:Oper}(ho:ops[i]? =some o)(g:WPl C ops (fun _ t' h'=>WPt C ops Q s t' h') [o] t h):WPt C ops Q (.one i s) t h:=by
 simp only[WPt,ho];exact g
theorem bK{ops:Array Oper}{Q:Exit→Env→Heap→Prop}{i j:Nat}{s u:OT}{o p:Oper}(ho:ops[i]? =some o)(hp:ops[j]? =some p)(g:WPl C ops (fun _ t' h'=>WPt C ops Q s t' h') [o] t h)
  (g':WPl C ops (fun _ t' h'=>WPt C ops Q u t' h') [p] t h):WPt C ops Q (.two i s j u) t h:=by
 simp only[WPt,ho,hp];exact⟨g,g'⟩
end
end Go.Av
