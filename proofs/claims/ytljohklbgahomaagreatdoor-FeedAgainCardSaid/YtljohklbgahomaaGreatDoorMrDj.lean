/- Parts. -/
import Derived.Test.YtljohklbgahomaaGreatDoorMrJb
import Derived.Test.YtljohklbgahomaaGreatDoorMrDr3
set_option linter.unusedSimpArgs false
set_option linter.unusedVariables false
set_option linter.unusedSectionVars false
set_option linter.unnecessarySimpa false
set_option maxRecDepth 100000
set_option maxHeartbeats 16000000
namespace Go.Av
open Go Go.Proofs Go.RowKit
def splF(by':UInt8):Bs→List Bs
 | []=>[[]]
 |c::s=>if c=by' then []::splF by' s else match splF by' s with
  | []=>[[c]]
  |w::l=>(c::w)::l
theorem nS(b:UInt8)(s:Bs):splF b s≠ []:=by
 cases s with
 |nil=>simp[splF]
 |cons c s=>
  unfold splF;split
  ·simp
  ·split<;>simp
def joiB(b:UInt8):List Bs→Bs
 | []=>[]
 | [w]=>w
 |w::l=>w++b::joiB b l
theorem lS(b:UInt8):∀s:Bs,joiB b (splF b s)=s
 | []=>rfl
 |c::s=>by
  have ih:=lS b s;have hn:=nS b s;unfold splF;by_cases h:c=b
  ·rw[E8 h];cases hs:splF b s with
   |nil=>exact absurd hs hn
   |cons w l=>rw[hs]at ih;show []++b::joiB b (w::l)=_;rw[ih,h];rfl
  ·rw[E4 h];cases hs:splF b s with
   |nil=>exact absurd hs hn
   |cons w l=>
    rw[hs]at ih;cases l with
    |nil=>show c::w=_;rw[show w=s from ih]
    |cons v l=>show(c::w)++b::joiB b (v::l)=_;rw[← ih];rfl
theorem fJ(b:UInt8):∀(a s:Bs),(∀c∈a,c≠b)→splF b (a++b::s)=a::splF b s
 | [],s,_=>by show splF b (b::s)=_;rw[splF,E8 rfl]
 |c::a,s,h=>by
  have ih:=fJ b a s fun x hx=>h x (by simp[hx])
  show splF b (c::(a++b::s))=_;rw[splF,E4 (h c (by simp)),ih]
theorem iu(b:UInt8):∀a:Bs,(∀c∈a,c≠b)→splF b a=[a]
 | [],_=>rfl
 |c::a,h=>by rw[splF,E4 (h c (by simp)),iu b a fun x hx=>h x (by simp[hx])]
def monL:List Bs:=[[74,97,110],[70,101,98],[77,97,114],[65,112,114],[77,97,121],[74,117,110],[74,117,108],[65,117,103],[83,101,112],[79,99,116],[78,111,118],[68,101,99]]
def ixS(l:List Bs)(s:Bs):Int:=match l.findIdx? (fun x=>decide (x=s))with
 |some i=>i
 |none=> -1
def weekL:List Bs:=[[77,111,110,44],[84,117,101,44],[87,101,100,44],[84,104,117,44],[70,114,105,44],[83,97,116,44],[83,117,110,44]]
def zonL:List Bs:=[[71,77,84],[85,84],[85,84,67],[90],[69,83,84],[69,68,84],[67,83,84],[67,68,84],[77,83,84],[77,68,84],[80,83,84],[80,68,84]]
def hrsL:List Int:=[0,0,0,0, -5, -4, -6, -5, -7, -6, -8, -7]
def namF(s:Bs):Option Int:=match zonL.findIdx? (fun x=>decide (x=s))with
 |some i=>some (3600*hrsL.getD i 0)
 |none=>none
namespace Rdr
def part(s:Bs)(f:Rdr→Int×Rdr):Int×Bool:=((f ⟨s,false⟩).1,(f ⟨s,false⟩).2.bad||decide ((f ⟨s,false⟩).2.s≠ []))
def all(r:Rdr):Int×Rdr:=r.digits r.s.length
def year(r:Rdr):Int×Rdr:=if r.s.length=2 then(if 50≤(r.digits 2).1 then 1900+(r.digits 2).1 else 2000+(r.digits 2).1,(r.digits 2).2)else r.digits 4
def clock(r:Rdr):Int×Rdr:=
 let (h,r1):=r.digits 2
 let r2:=(r1.sign [58]).2
 let (m,r3):=r2.digits 2
 let (c,r4):=if r3.s=[]then(0,r3)else(r3.sign [58]).2.digits 2
 (3600*h+60*m+c,⟨r4.s,r4.bad||(decide (h>23)||(decide (m>59)||decide (c>59)))⟩)
end Rdr
def wrdP(w:List Bs):Option Int:=if w.length=5∧1≤(w.getD 0 []).length∧(w.getD 0 []).length≤2 then
  let (d,b1):=Rdr.part (w.getD 0 []) Rdr.all
  let (y,b2):=Rdr.part (w.getD 2 []) Rdr.year
  let (t,b3):=Rdr.part (w.getD 3 []) Rdr.clock
  let (z,b4):=match namF (w.getD 4 [])with
   |some z=>(z,false)
   |none=>Rdr.part (w.getD 4 []) fun r=>r.off false
  if b1||b2||b3||b4 then none else tellD ⟨y,ixS monL (w.getD 1 [])+1,d,t/3600,t/60%60,t%60⟩ z
 else none
def mailP(s:Bs):Option Int:=wrdP (if (splF 32 s).length=6∧(splF 32 s).getD 0 []∈weekL then(splF 32 s).drop 1 else splF 32 s)
def zonR(s:Bs):Option Int:=match namF s with
 |some z=>some z
 |none=>if s.length≠5 then none else zoneR (s.getD 0 0) ((s.drop 1).take 2) (s.drop 3)
def yearR(s:Bs):Int:=if s.length=2∧50≤num9 s then num9 s+1900 else if s.length=2∧0≤num9 s then num9 s+2000 else num9 s
def zonT(o:Option Int)(x:Dt):Option Int:=match o with
 |none=>none
 |some z=>tellD x z
def clkR(s:Bs):Option (Int×Int×Int):=let t:=splF 58 s
 if (t.length≠2∧t.length≠3)∨t.all (fun x=>decide (x.length=2))=false then none else some (num9 (t.getD 0 []),num9 (t.getD 1 []),if t.length=3 then num9 (t.getD 2 [])else 0)
def wrdR(w:List Bs):Option Int:=if w.length≠5∨2<(w.getD 0 []).length∨((w.getD 2 []).length≠4∧(w.getD 2 []).length≠2)then none else match clkR (w.getD 3 [])with
 |none=>none
 |some (h,m,c)=>zonT (zonR (w.getD 4 [])) ⟨yearR (w.getD 2 []),1+ixS monL (w.getD 1 []),num9 (w.getD 0 []),h,m,c⟩
def mailR(s:Bs):Option Int:=if (splF 32 s).length=6 then(if (splF 32 s).getD 0 []∈weekL then wrdR ((splF 32 s).drop 1)else none)else wrdR (splF 32 s)
theorem cj:∀(s:Bs) (n:Int),0≤n→s.all digB=true→0≤numA n s
 | [],n,h,_=>h
 |c::s,n,h,ha=>by
  simp only[P2,E3]at ha;have:48≤c.toNat:=by have:=ha.1;simp only[digB,E3,F1]at this;omega
  exact cj s _ (by omega) ha.2
namespace Rdr
theorem digits_of{r:Rdr}{w:Nat}(h:(r.digits w).2.bad=false):∃a:Bs,a.length=w∧a.all digB=true∧r.s=a++(r.digits w).2.s∧r.bad=false∧(r.digits w).1=numA 0 a:=by
 unfold digits at h ⊢;split at h
 ·cases h
 ·rename_i hl;rw[E4 hl];split at h
  ·rename_i ha;rw[E8 ha];exact⟨_,by rw[I0];omega,ha,(Q8 w r.s).symm,h,rfl⟩
  ·cases h
theorem sign_of{r:Rdr}{l:Bs}(h:(r.sign l).2.bad=false):∃c,c∈l∧r.s=c::(r.sign l).2.s∧r.bad=false∧(r.sign l).1=(c.toNat:Int):=by
 unfold sign at h ⊢;split at h
 ·cases h
 ·rename_i c t e;rw[e];split at h
  ·rename_i hc;simp only[hc,if_true];exact⟨c,hc,rfl,h,rfl⟩
  ·cases h
theorem digits_app{a t:Bs}{k:Bool}{w:Nat}(hw:a.length=w)(ha:a.all digB=true):(Rdr.mk (a++t) k).digits w=(numA 0 a,⟨t,k⟩):=by
 subst hw;unfold digits;rw[E4 (by simp),List.take_left' rfl,E8 ha,List.drop_left' rfl]
theorem digits_no{a t:Bs}{k:Bool}{w:Nat}(hw:a.length=w)(ha:a.all digB=false):((Rdr.mk (a++t) k).digits w).2.bad=true:=by
 subst hw;unfold digits;rw[E4 (by simp),List.take_left' rfl,E4 (by simp[ha])]
theorem part_all(a:Bs):part a all=if a.all digB then(numA 0 a,false)else(0,true):=by
 have e:all ⟨a,false⟩=if a.all digB then(numA 0 a,⟨[],false⟩)else(0,⟨a,true⟩):=by
  unfold all digits;simp
 unfold part;rw[e];split<;>simp
theorem part_year(a:Bs):((a.length=2∨a.length=4)∧a.all digB=true∧part a year=(yearR a,false))∨(¬((a.length=2∨a.length=4)∧a.all digB=true)∧(part a year).2=true):=by
 by_cases h:(a.length=2∨a.length=4)∧a.all digB=true
 ·refine .inl ⟨h.1,h.2,?_⟩;have hn:=cj a 0 (by omega) h.2;have h9:num9 a=numA 0 a:=by rw[bJ (by omega) (by omega),E8 h.2]
  have hd:=digits_app (a:=a) (t:=[]) (k:=false) rfl h.2;rw[H8]at hd;unfold part year yearR;rw[h9];rcases h.1 with h2|h4
  ·rw[h2]at hd;simp only[h2,hd,if_true,true_and];by_cases c:50≤numA 0 a
   ·simp[c];omega
   ·simp[c,hn];omega
  ·rw[h4]at hd;have n2:¬a.length=2:=(by omega);simp[n2,hd]
 ·refine .inr ⟨h,?_⟩;cases hb:(part a year).2 with
  |true=>rfl
  |false=>
   exfalso;unfold part at hb;simp only[P9,decide_eq_false_iff_not,R9]at hb;obtain⟨hb,he⟩:=hb;unfold year at hb he;split at hb
   ·rename_i h2;rw[E8 h2]at he;obtain⟨b,hb1,hb2,hb3,_⟩:=digits_of hb;rw[he,H8]at hb3;have hb3:a=b:=hb3;subst hb3;exact h ⟨.inl hb1,hb2⟩
   ·rename_i h2;rw[E4 h2]at he;obtain⟨b,hb1,hb2,hb3,_⟩:=digits_of hb;rw[he,H8]at hb3;have hb3:a=b:=hb3;subst hb3;exact h ⟨.inr hb1,hb2⟩
theorem part_off(s:Bs):(s.length=5∧∃z,zoneR (s.getD 0 0) ((s.drop 1).take 2) (s.drop 3)=some z∧part s (fun r=>r.off false)=(z,false))∨
  ((s.length≠5∨zoneR (s.getD 0 0) ((s.drop 1).take 2) (s.drop 3)=none)∧(part s fun r=>r.off false).2=true):=by
 cases hb:(part s fun r=>r.off false).2 with
 |false=>
  left;have hp:part s (fun r=>r.off false)=((part s fun r=>r.off false).1,false):=Prod.ext rfl hb;unfold part off at hb;simp only[G9,if_false,P9,decide_eq_false_iff_not,R9]at hb;obtain⟨⟨g0,c1,c2⟩,he⟩:=hb;obtain⟨b,b1,b2,b3,g1,b5⟩:=digits_of g0;obtain⟨a,a1,a2,a3,g2,a5⟩:=digits_of g1;obtain⟨c,d1,d2,_,d4⟩:=sign_of g2;have d2:s=c::_:=d2;rw[he,H8]at b3;rw[b3]at a3;rw[a3]at d2;rw[b5]at c2;rw[a5]at c1;obtain⟨x,y,rfl⟩:∃x y,a=[x,y]:=by match a,a1 with| [x,y],_=>exact⟨x,y,rfl⟩
  obtain⟨u,v,rfl⟩:∃u v,b=[u,v]:=by match b,b1 with| [u,v],_=>exact⟨u,v,rfl⟩
  refine⟨by rw[d2];rfl,_,?_,hp⟩;have hs:(part s fun r=>r.off false).1=if c=45 then -(3600*numA 0 [x,y]+60*numA 0 [u,v])else 3600*numA 0 [x,y]+60*numA 0 [u,v]:=by
   unfold part off;simp only[G9,if_false];rw[b5,a5,d4];have e45:((c.toNat:Int)=45)↔c=45:=⟨fun h=>UInt8.toNat_inj.1 (by simpa using(by omega:c.toNat=45)),fun h=>by rw[h];rfl⟩
   simp only[e45]
  rw[hs];have n1:num9 [x,y]=numA 0 [x,y]:=by rw[bJ (by simp) (by simp),E8 a2]
  have n2:num9 [u,v]=numA 0 [u,v]:=by rw[bJ (by simp) (by simp),E8 b2]
  have p1:=cj _ 0 (by omega) a2;have p2:=cj _ 0 (by omega) b2;have hc:c=43∨c=45:=by simpa using d1
  rw[d2];unfold zoneR;simp only[J7,N6,N8,J8,I7,J3,L3];rw[n1,n2,E4]
  ·rcases hc with rfl|rfl<;>simp<;>omega
 |true=>
  right;refine⟨?_,rfl⟩;by_cases hl:s.length=5
  rotate_left
  ·exact .inl hl
  right
  match s,hl with
  | [c,x,y,u,v],_=>
  cases hz:zoneR ([c,x,y,u,v].getD 0 0) (([c,x,y,u,v].drop 1).take 2) ([c,x,y,u,v].drop 3)with
  |none=>rfl
  |some z=>
   exfalso;simp only[J7,N6,N8,J3,L3]at hz;unfold zoneR at hz;split at hz
   ·cases hz
   ·rename_i hn;have a2:(digB x&&digB y)=true:=I8 fun k=>hn (by rw[fB k];simp)
    have b2:(digB u&&digB v)=true:=I8 fun k=>hn (by rw[fB k];simp)
    rw[fC a2,fC b2]at hn;have hc:c=43∨c=45:=by
     refine I8 fun k=>hn (.inl ?_)
     simpa using k
    have h1:¬numA 0 [x,y]>23:=fun k=>hn (by simp[k])
    have h2:¬numA 0 [u,v]>59:=fun k=>hn (by simp[k])
    unfold part off at hb;rcases hc with rfl|rfl<;>simp[sign,digits,a2,b2,h1,h2]at hb
end Rdr
theorem Rdr.part_bad{s:Bs}{f:Rdr→Int×Rdr}(h:(f ⟨s,false⟩).2.bad=true):(Rdr.part s f).2=true:=by
 show((f ⟨s,false⟩).2.bad||_)=true;rw[h];rfl
theorem Rdr.clock_bad{r:Rdr}(h:(((r.digits 2).2.sign [58]).2.digits 2).2.bad=true):r.clock.2.bad=true:=by
 unfold Rdr.clock;simp only[];rw[K1];left;split
 ·exact h
 ·exact Rdr.digits_bad (Rdr.sign_bad h)
theorem eX{a:Bs}(h:a.all digB=true):∀c∈a,c≠58:=fun c hc e=>by
 have:=G8.1 h c hc;rw[e]at this;exact absurd this (by decide)
theorem wv(s:Bs):match clkR s with
  |none=>(Rdr.part s Rdr.clock).2=true
  |some (h,m,c)=>if 0≤h∧h≤23∧0≤m∧m≤59∧0≤c∧c≤59 then Rdr.part s Rdr.clock=(3600*h+60*m+c,false)else(Rdr.part s Rdr.clock).2=true:=by
 cases hr:clkR s with
 |none=>
  cases hb:(Rdr.part s Rdr.clock).2 with
  |true=>rfl
  |false=>
   exfalso;unfold Rdr.part Rdr.clock at hb;simp only[P9,decide_eq_false_iff_not,R9]at hb;obtain⟨⟨g0,_⟩,he⟩:=hb;split at g0
   ·rename_i h0;rw[E8 h0]at he;obtain⟨b,b1,b2,b3,g1,_⟩:=Rdr.digits_of g0;obtain⟨x,d1,d2,g2,_⟩:=Rdr.sign_of g1;obtain⟨a,a1,a2,a3,_⟩:=Rdr.digits_of g2;have a3:s=a++_:=a3;rw[h0,H8]at b3;rw[d2,b3,K4.1 d1]at a3;unfold clkR at hr;rw[a3,fJ 58 a b (eX a2),iu 58 b (eX b2)]at hr;simp[a1,b1]at hr
   ·rename_i h0;rw[E4 h0]at he;obtain⟨c,c1,c2,c3,g1,_⟩:=Rdr.digits_of g0;obtain⟨y,e1,e2,g2,_⟩:=Rdr.sign_of g1;obtain⟨b,b1,b2,b3,g3,_⟩:=Rdr.digits_of g2;obtain⟨x,d1,d2,g4,_⟩:=Rdr.sign_of g3;obtain⟨a,a1,a2,a3,_⟩:=Rdr.digits_of g4;have a3:s=a++_:=a3;rw[he,H8]at c3;rw[d2,b3,e2,c3,K4.1 d1,K4.1 e1]at a3;unfold clkR at hr;rw[a3,fJ 58 a _ (eX a2),fJ 58 b c (eX b2),iu 58 c (eX c2)]at hr;simp[a1,b1,c1]at hr
 |some v=>
  obtain⟨h,m,c⟩:=v;have hj:=lS 58 s;unfold clkR at hr;simp only[]at hr;split at hr
  ·cases hr
  rename_i hc;simp only[G5,Prod.mk.injEq]at hr;simp only[not_or,not_and,R9,Bool.not_eq_false,G8,F1]at hc;generalize splF 58 s=t at*;obtain⟨hc1,hc2⟩:=hc;obtain⟨r1,r2,r3⟩:=hr;have hl:t.length=2∨t.length=3:=by by_cases k:t.length=2;exact .inl k;exact .inr (hc1 k)
  simp only[];have n9:∀a:Bs,a.length=2→num9 a=if a.all digB then numA 0 a else-1:=fun a ha=>bJ (by omega) (by omega)
  rcases hl with hl|hl
  ·match t,hl with
   | [a,b],_=>
   have la:=hc2 a (by simp);have lb:=hc2 b (by simp);have hj:a++58::b=s:=hj;subst hj;simp only[J7,M3,E2,E9]at r1 r2 r3;rw[n9 a la]at r1;rw[n9 b lb]at r2;have r3:c=0:=(by simpa using r3.symm);subst r3;cases ka:a.all digB with
   |false=>
    rw[ka]at r1;have r1:h= -1:=(by simpa using r1.symm);rw[E4 (by omega)];exact Rdr.part_bad (Rdr.clock_bad (Rdr.digits_bad (Rdr.sign_bad (Rdr.digits_no la ka))))
   |true=>
    rw[ka,E8 rfl]at r1;cases kb:b.all digB with
    |false=>
     rw[kb]at r2;have r2:m= -1:=(by simpa using r2.symm);rw[E4 (by omega)];have:=Rdr.digits_no (a:=b) (t:=[]) (k:=false) lb kb;rw[H8]at this;exact Rdr.part_bad (Rdr.clock_bad (by rw[Rdr.digits_app la ka];simp only[fZ,K4,if_true];exact this))
    |true=>
     rw[kb,E8 rfl]at r2;have pa:=cj a 0 (by omega) ka;have pb:=cj b 0 (by omega) kb;have hd:=Rdr.digits_app (a:=b) (t:=[]) (k:=false) lb kb;rw[H8]at hd;have ht:Rdr.clock ⟨a++58::b,false⟩=(3600*h+60*m+0,⟨[],decide (h>23)||(decide (m>59)||decide ((0:Int)>59))⟩):=by
      unfold Rdr.clock;rw[Rdr.digits_app la ka];simp only[fZ,K4,if_true];rw[hd];simp[r1,r2]
     unfold Rdr.part;rw[ht];subst r1;subst r2;by_cases k1:numA 0 a≤23
     ·by_cases k2:numA 0 b≤59
      ·rw[E8 ⟨pa,k1,pb,k2,by omega,by omega⟩];have:¬numA 0 a>23:=by omega
       have:¬numA 0 b>59:=by omega
       simp[*]
      ·rw[E4 (by omega)];simp[show numA 0 b>59 by omega]
     ·rw[E4 (by omega)];simp[show numA 0 a>23 by omega]
  ·match t,hl with
   | [a,b,d],_=>
   have la:=hc2 a (by simp);have lb:=hc2 b (by simp);have ld:=hc2 d (by simp);have hj:a++58::(b++58::d)=s:=hj;subst hj;simp only[J7,M3,E2,E9]at r1 r2 r3;rw[n9 a la]at r1;rw[n9 b lb]at r2;rw[n9 d ld]at r3;simp only[if_true]at r3;cases ka:a.all digB with
   |false=>
    rw[ka]at r1;have r1:h= -1:=(by simpa using r1.symm);rw[E4 (by omega)];exact Rdr.part_bad (Rdr.clock_bad (Rdr.digits_bad (Rdr.sign_bad (Rdr.digits_no la ka))))
   |true=>
    rw[ka,E8 rfl]at r1;cases kb:b.all digB with
    |false=>
     rw[kb]at r2;have r2:m= -1:=(by simpa using r2.symm);rw[E4 (by omega)];exact Rdr.part_bad (Rdr.clock_bad (by rw[Rdr.digits_app la ka];simp only[fZ,K4,if_true];exact Rdr.digits_no lb kb))
    |true=>
     rw[kb,E8 rfl]at r2;have pa:=cj a 0 (by omega) ka;have pb:=cj b 0 (by omega) kb;cases kd:d.all digB with
     |false=>
      rw[kd]at r3;have r3:c= -1:=(by simpa using r3.symm);rw[E4 (by omega)];have:=Rdr.digits_no (a:=d) (t:=[]) (k:=false) ld kd;rw[H8]at this;refine Rdr.part_bad ?_;unfold Rdr.clock;rw[Rdr.digits_app la ka];simp only[fZ,K4,if_true];rw[Rdr.digits_app lb kb];simp[fZ,this]
     |true=>
      rw[kd,E8 rfl]at r3;have pd:=cj d 0 (by omega) kd;have hd:=Rdr.digits_app (a:=d) (t:=[]) (k:=false) ld kd;rw[H8]at hd;have ht:Rdr.clock ⟨a++58::(b++58::d),false⟩=(3600*h+60*m+c,⟨[],decide (h>23)||(decide (m>59)||decide (c>59))⟩):=by
       unfold Rdr.clock;rw[Rdr.digits_app la ka];simp only[fZ,K4,if_true];rw[Rdr.digits_app lb kb];simp[fZ,hd,r1,r2,r3]
      unfold Rdr.part;rw[ht];subst r1;subst r2;subst r3;by_cases k1:numA 0 a≤23
      ·by_cases k2:numA 0 b≤59
       ·by_cases k3:numA 0 d≤59
        ·rw[E8 ⟨pa,k1,pb,k2,pd,k3⟩];have:¬numA 0 a>23:=by omega
         have:¬numA 0 b>59:=by omega
         have:¬numA 0 d>59:=by omega
         simp[*]
        ·rw[E4 (by omega)];simp[show numA 0 d>59 by omega]
       ·rw[E4 (by omega)];simp[show numA 0 b>59 by omega]
      ·rw[E4 (by omega)];simp[show numA 0 a>23 by omega]
theorem gV{o:Option Int}{x:Dt}(h:okD x=false):zonT o x=none:=by
 unfold zonT;split
 ·rfl
 ·exact ir h
theorem yD{x:Dt}(h:¬(0≤x.h∧x.h≤23∧0≤x.i∧x.i≤59∧0≤x.s∧x.s≤59)):okD x=false:=by
 cases hk:okD x with
 |false=>rfl
 |true=>
  unfold okD at hk;simp only[E3,F1]at hk;exact absurd ⟨hk.1.1.1.1.1.2,hk.1.1.1.1.2,hk.1.1.1.2,hk.1.1.2,hk.1.2,hk.2⟩ h
theorem qQ(w:List Bs):wrdP w=wrdR w:=by
 by_cases hl:w.length=5
 rotate_left
 ·unfold wrdP wrdR;rw[E4 (fun h=>hl h.1),E8 (.inl hl)]
 match w,hl with
 | [a,b,c,d,e],_=>
 unfold wrdP wrdR;simp only[J7,M3,E2,E9,J6,Nat.reduceAdd,true_and,ne_eq,not_true_eq_false,false_or];by_cases h2:2<a.length
 ·rw[E4 (by omega),E8 (.inl h2)]
 by_cases hy:c.length=2∨c.length=4
 rotate_left
 ·have hw:(Rdr.part c Rdr.year).2=true:=by
   obtain⟨k,_⟩| ⟨_,k⟩:=Rdr.part_year c
   ·exact absurd k hy
   ·exact k
  rw[E8 (show 2<a.length∨¬c.length=4∧¬c.length=2 from .inr (by omega))];by_cases h1:1≤a.length∧a.length≤2
  ·rw[E8 h1];simp[hw]
  ·rw[E4 h1]
 rw[E4 (show ¬(2<a.length∨¬c.length=4∧¬c.length=2) by omega)];have hck:=wv d;by_cases h1:1≤a.length
 rotate_left
 ·rw[E4 (by omega)];have:num9 a= -1:=by unfold num9;rw[E8 (.inl (by omega))]
  split
  ·rfl
  ·exact(gV (pn this)).symm
 rw[E8 ⟨h1,by omega⟩,Rdr.part_all];have n9:num9 a=if a.all digB then numA 0 a else-1:=bJ h1 (by omega)
 cases ka:a.all digB with
 |false=>
  rw[ka]at n9;simp only[G9,if_false,L2,if_true]at n9 ⊢;split
  ·rfl
  ·exact(gV (pn n9)).symm
 |true=>
 rw[ka,E8 rfl]at n9;simp only[if_true,N1];obtain⟨_,hy2,hy3⟩| ⟨hy2,hy3⟩:=Rdr.part_year c
 rotate_left
 ·rw[hy3];simp only[L2,if_true];have hcd:¬c.all digB=true:=fun k=>hy2 ⟨hy,k⟩
  have:yearR c= -1:=by
   unfold yearR;rw[bJ (by omega) (by omega),E4 hcd,E4 (by omega),E4 (by omega)]
  split
  ·rfl
  ·exact(gV (uu this)).symm
 rw[hy3];simp only[N1];cases hk:clkR d with
 |none=>
  rw[hk]at hck;simp only[]at hck;rw[hck];simp
 |some v=>
  obtain⟨h,m,s⟩:=v;rw[hk]at hck;simp only[]at hck ⊢;split at hck
  rotate_left
  ·rename_i hr;rw[hck];simp only[L2,if_true];exact(gV (yD hr)).symm
  rename_i hr;rw[hck,n9];simp only[N1];obtain⟨q1,q2,q3,q4,q5,q6⟩:=hr;have e0:(3600*h+60*m+s)/60=60*h+m:=by omega
  have e1:(3600*h+60*m+s)/3600=h:=by omega
  have e2:(3600*h+60*m+s)/60%60=m:=by rw[e0];omega
  have e3:(3600*h+60*m+s)%60=s:=by omega
  rw[e1,e2,e3,Int.add_comm 1];unfold zonR;cases hz:namF e with
  |some z=>rfl
  |none=>
   obtain⟨k1,z,k2,k3⟩| ⟨k1,k2⟩:=Rdr.part_off e
   ·simp only[];rw[k3,E4 (show ¬e.length≠5 by omega),k2];rfl
   ·simp only[];rw[k2,E8 rfl];by_cases hl5:e.length=5
    ·rw[E4 (show ¬e.length≠5 by omega),k1.resolve_left (by omega)];rfl
    ·rw[E8 hl5];rfl
theorem nT(s:Bs):mailP s=mailR s:=by
 unfold mailP mailR;by_cases h6:(splF 32 s).length=6
 ·rw[E8 h6];by_cases hw:(splF 32 s).getD 0 []∈weekL
  ·rw[E8 ⟨h6,hw⟩,E8 hw,qQ]
  ·rw[E4 (fun h=>hw h.2),E4 hw];unfold wrdP;rw[E4 (by omega)]
 ·rw[E4 (fun h=>h6 h.1),E4 h6,qQ]
end Go.Av
namespace Go.Av
open Go Go.Proofs Go.RowKit
attribute [local irreducible] WP WPl WPix Sat
variable (G:Nat→Option (List AVal))
abbrev dR(s:Bs)(b:Bool):Blk:=.row 188 2 0 [.agg [.str s,.bool b]]
theorem qU(n:Nat)(s:Bs)(b:Bool):CloB n (dR s b):=by
 intro r hr;simp only[K4]at hr;subst hr;exact .agg _ (by intro c hc;simp at hc;rcases hc with rfl|rfl;exact .str _;exact .bool _)
theorem j5{H j:Heap}{p:Nat}{s:Bs}{b:Bool}{x:AVal}(hx:∀n,Clo n x):Fin H (H.set p (dR s b)++j) (fun r h'=>r=x∧h'=H.set p (dR s b)) x:=
 Fin.keep (List.length_set ..) (lk (qU _ _ _)) (hx _) ⟨rfl,rfl⟩
theorem aR{H:Heap}{p:Nat}{s:Bs}{b:Bool}{x:AVal}(hx:∀n,Clo n x):Fin H (H.set p (dR s b)) (fun r h'=>r=x∧h'=H.set p (dR s b)) x:=
 T7 (List.length_set ..) (lk (qU _ _ _)) (hx _) ⟨rfl,rfl⟩
theorem nW{s:Bs}{k:Nat}{c:UInt8}(h:s[k]? =some c):(digB c=true→dec s k=(c.toNat,1)∧48≤c.toNat∧c.toNat≤57)∧(digB c=false→(dec s k).1<48∨57<(dec s k).1):=by
 unfold digB;by_cases ha:c.toNat<128
 ·rw[dm s k c h ha];constructor
  ·intro hd;simp only[E3,F1]at hd;exact⟨rfl,hd⟩
  ·intro hd;simp only[Bool.and_eq_false_iff,decide_eq_false_iff_not]at hd;show c.toNat<48∨57<c.toNat;omega
 ·have hd:=fw s k c h (by omega);constructor
  ·intro hd;simp only[E3,F1]at hd;omega
  ·intro _;omega
theorem gz:∀(a:Bs) (n:Int) (c:UInt8),numA n (a++[c])=10*numA n a+((c.toNat:Int)-48)
 | [],n,c=>rfl
 |d::a,n,c=>gz a _ c
theorem nX:∀(a:Bs),a.all digB=true→0≤numA 0 a∧numA 0 a<(10:Int)^a.length:=by
 have key:∀(a:Bs) (n:Int),0≤n→a.all digB=true→0≤numA n a∧numA n a<(n+1)*(10:Int)^a.length:=by
  intro a;induction a with
  |nil=>intro n hn _;simp[numA];omega
  |cons c a ih=>
   intro n hn h;simp only[P2,E3,digB,F1]at h;obtain⟨h1,h2⟩:=h;obtain⟨i1,i2⟩:=ih (10*n+((c.toNat:Int)-48)) (by omega) (by simpa [digB]using h2);refine⟨i1,Int.lt_of_lt_of_le i2 ?_⟩;rw[E2,Int.pow_succ,Int.mul_comm _ 10, ← Int.mul_assoc];exact P7 (by omega) (Int.le_of_lt (Int.pow_pos (by omega)))
 intro a h;have:=key a 0 (by omega) h;simpa using this
theorem ba{r r':Rdr}{w:Nat}{n:Int}(e:r.digits w=(n,r')):0≤n∧n<(10:Int)^w:=by
 have hp:(0:Int)<10^w:=Int.pow_pos (by omega);unfold Rdr.digits at e;split at e
 ·cases e;omega
 ·rename_i hl;split at e
  ·rename_i ha;cases e;have:=nX _ ha;rw[I0,Nat.min_eq_left (by omega)]at this;exact this
  ·cases e;omega
theorem aP{s s':Bs}{b b':Bool}{w:Nat}{n:Int}(e:(Rdr.mk s b).digits w=(n,⟨s',b'⟩))(hw:w≤9)(hs:s.length≤1073741824){H:Heap}{p:Nat}(hg:getRow H p 0=some (188,2,[.agg [.str s,.bool b]])):
  Sat (CT G) 197 [.hp p 0 0 0,.int .i64 w] H (fun r h'=>r=.int .i64 n∧h'=H.set p (dR s' b')):=by
 have hp:=al hg;have hgj:∀j,getRow (H++j) p 0=some (188,2,[.agg [.str s,.bool b]]):=fun j=>by rw[bp _ hp];exact hg
 unfold Rdr.digits at e;by_cases hl:s.length<w
 ·rw[E8 hl]at e;cases e;have d1:=G4 hl;have F:=F2 hg d1;refine sb [.tmp 4] Tryz.func197 ?_;intro Q hQ;refine wk F ?_;refine ee hQ F ?_;exact aR (fun _=>.int _ _)
 ·rw[E4 hl]at e;have d1:=H2 hl;have hwl:w≤s.length:=by omega
  have hp9:∀k,k≤w→(10:Int)^k≤1000000000:=fun k hk=>by
   have:(10:Nat)^k≤10^9:=Nat.pow_le_pow_right (by omega) (by omega);have:((10^k:Nat):Int)≤((10^9:Nat):Int):=by omega
   simpa using this
  have htl:(s.take w).length=w:=by rw[I0];omega
  have F:=F8 hg hgj hp d1 hwl @lC @gy @qR;refine sb [.tmp 4] Tryz.func197 ?_;intro Q hQ;refine wk F ?_;refine lm (fun nL tL hL=>∃(k:Nat) (m:Int),w-k=nL∧H++[.iter (s.take w) k]=hL∧tL 5=.int .i64 m∧k≤w∧m=numA 0 ((s.take w).take k)∧((s.take w).take k).all digB=true) ((fun(k:Nat) (m:Int)=>(w-k:Nat)) (0) (0)) ?_ ?_
  ·refine H3 ⟨0,0,rfl,aB,?_,by omega,rfl,rfl⟩;all_goals try exact zZz F
  rintro _ s2 h' ⟨k,m,rfl,rfl,e5,hk,hm,ha⟩ K2 hK2;simp only[ao,aw,Nat.reduceEqDiff, ↓reduceIte]at e5;have F:=F2 F e5;refine wk F ?_;refine bR (cD _ _ _ _) (fun hlt=>?_) (fun hge=>?_)
  ·obtain⟨c,hc,_⟩:=am hlt;obtain⟨h1,h2⟩:=nW hc;have htk:=O0 (l:=s.take w) (i:=k);rw[hc]at htk;have htk:(s.take w).take (k+1)=(s.take w).take k++[c]:=htk;have hbd:=nX _ ha;rw[I0,htl,Nat.min_eq_left hk]at hbd;have h9:=hp9 k hk;unfold dec at h1 h2;cases hd:digB c with
   |true=>
    obtain⟨h1,h48,h57⟩:=h1 hd;rw[h1];have q1:decide ((c.toNat:Int)<48)=false:=(by simp;omega);have q2:decide ((c.toNat:Int)>57)=false:=(by simp;omega);have hn:=gz ((s.take w).take k) 0 c;rw[← htk, ← hm]at hn;rw[← hm]at hbd;have F:=F3 F q1 q2;(try refine sq F ?_);refine wk F ?_;refine hK2 _ _ _ (H3 ⟨k+1,10*m+((c.toNat:Int)-48),rfl,aB,?_,by omega,hn.symm,by rw[htk,List.all_append,ha];simp[hd]⟩) (by omega);all_goals try exact zZz F
   |false=>
    have h2:=h2 hd;have hall:((s.take w).all digB)=false:=by
     cases hx:(s.take w).all digB with
     |false=>rfl
     |true=>rw[G8.1 hx c (G1 hc)]at hd;cases hd
    rw[E4 (by rw[hall];simp)]at e;cases e;generalize (Utf8.decode ⟨(s.take w).toArray⟩ k).1=rn at*;by_cases q:rn<48
    ·have q1:decide ((rn:Int)<48)=true:=(by simp;omega);have F:=F2 F q1;(try refine sq F ?_);refine wk F ?_;refine ee hQ F ?_;exact j5 (fun _=>.int _ _)
    ·have q1:decide ((rn:Int)<48)=false:=(by simp;omega);have q2:decide ((rn:Int)>57)=true:=(by simp;omega);have F:=F3 F q1 q2;(try refine sq F ?_);refine wk F ?_;refine ee hQ F ?_;exact j5 (fun _=>.int _ _)
  ·rw[H4 (by omega)]at hm ha;rw[E8 ha]at e;cases e;(try refine sq F ?_);refine wk F ?_;refine ee hQ F ?_;rw[hm];exact j5 (fun _=>.int _ _)
theorem uU(l:Bs)(c:UInt8):(Lib.indexByte l c<0↔c ∉ l)∧ -1≤Lib.indexByte l c:=by
 induction l with
 |nil=>simp[Lib.indexByte]
 |cons b l ih=>
  unfold Lib.indexByte;by_cases h:b=c
  ·subst h;simp
  ·have h1:(b==c)=false:=(by simpa using h);have h2:¬c=b:=fun e=>h e.symm
   simp only[h1,G9,if_false,I2,h2,false_or];by_cases k:Lib.indexByte l c= -1
   ·simp only[k,beq_self_eq_true,if_true];constructor
    ·constructor
     ·intro _;exact ih.1.1 (by omega)
     ·intro _;omega
    ·omega
   ·have k1:(Lib.indexByte l c== -1)=false:=(by simpa using k);simp only[k1,G9,if_false];constructor
    ·constructor
     ·intro hh;omega
     ·intro hh;have:=ih.1.2 hh;omega
    ·omega
theorem dp{s s':Bs}{b b':Bool}{l:Bs}{n:Int}(e:(Rdr.mk s b).sign l=(n,⟨s',b'⟩)){H:Heap}{p:Nat}(hg:getRow H p 0=some (188,2,[.agg [.str s,.bool b]])):
  Sat (CT G) 198 [.hp p 0 0 0,.str l] H (fun r h'=>r=.int .u8 n∧h'=H.set p (dR s' b')):=by
 have hp:=al hg;unfold Rdr.sign at e;cases s with
 |nil=>
  cases e;have z:(([]:Bs)==[])=true:=rfl;have F:=F2 hg z;refine sb [.tmp 4] Tryz.func198 ?_;intro Q hQ;refine wk F ?_;refine ee hQ F ?_;exact aR (fun _=>.int _ _)
 |cons c t=>
  have hx:=uU l c;have z:((c::t)==([]:Bs))=false:=rfl;simp only[]at e;by_cases hm:c∈l
  ·rw[E8 hm]at e;cases e;have q1:decide (Lib.indexByte l c<0)=false:=H2 fun k=>hx.1.1 k hm
   have F:=F3 hg z q1;refine sb [.tmp 4] Tryz.func198 ?_;intro Q hQ;refine wk F ?_;refine kq F (aT G l c _) ?_;refine ee hQ F ?_;exact aR (fun _=>.int _ _)
  ·rw[E4 hm]at e;cases e;have q1:decide (Lib.indexByte l c<0)=true:=G4 (hx.1.2 hm);have F:=F3 hg z q1;refine sb [.tmp 4] Tryz.func198 ?_;intro Q hQ;refine wk F ?_;refine kq F (aT G l c _) ?_;refine ee hQ F ?_;exact aR (fun _=>.int _ _)
theorem bV(n a b:Int)(h:Heap):Sat (CT G) 125 [.int .i64 n,.int .i64 a,.int .i64 b] h (fun r h'=>r=.bool (decide (a≤n)&&decide (n≤b))∧h'=h):=by
 by_cases k:a≤n
 ·have k2:decide (n≥a)=true:=by simpa using k
  have F:=k2;refine sb [.tmp 6] Tryz.func125 ?_;intro Q hQ;refine wk F ?_;refine ee hQ F ?_;exact J9 (.bool _) ⟨by simp[k],rfl⟩
 ·have k2:decide (n≥a)=false:=by simpa using k
  have F:=k2;refine sb [.tmp 6] Tryz.func125 ?_;intro Q hQ;refine wk F ?_;refine ee hQ F ?_;exact J9 (.bool _) ⟨by simp[k],rfl⟩
theorem tA{s:Bs}{b:Bool}(hs:s.length≤1073741824){H:Heap}{p:Nat}(hg:getRow H p 0=some (188,2,[.agg [.str s,.bool b]])):
  Sat (CT G) 220 [.hp p 0 0 0] H (fun r h'=>r=.int .i64 (s.takeWhile digB).length∧h'=H):=by
 have hp:=al hg;have hgj:∀j,getRow (H++j) p 0=some (188,2,[.agg [.str s,.bool b]]):=fun j=>by rw[bp _ hp];exact hg
 have F:=F2 hg hgj;refine sb [.tmp 2] Tryz.func220 ?_;intro Q hQ;refine wk F ?_;refine lm (fun nL tL hL=>∃(k:Nat),s.length-k=nL∧H++[.iter s k]=hL∧k≤s.length∧(∀i,i<k→∀c,s[i]? =some c→digB c=true)) ((fun(k:Nat)=>(s.length-k:Nat)) (0)) ?_ ?_
 ·refine H3 ⟨0,rfl,aB,by omega,fun i hi=>by omega⟩;all_goals try exact zZz F
 rintro _ s2 h' ⟨k,rfl,rfl,hk,hq⟩ K2 hK2;refine wk F ?_;refine bR (cD _ _ _ _) (fun hlt=>?_) (fun hge=>?_)
 ·obtain⟨c,hc,_⟩:=am hlt;obtain⟨h1,h2⟩:=nW hc;unfold dec at h1 h2;cases hd:digB c with
  |true=>
   obtain⟨h1,h48,h57⟩:=h1 hd;rw[h1];have q1:decide ((c.toNat:Int)<48)=false:=(by simp;omega);have q2:decide ((c.toNat:Int)>57)=false:=(by simp;omega);have hq1:∀i,i<k+1→∀c,s[i]? =some c→digB c=true:=fun i hi c' hc2=>by
    rcases O5 i k with h1|h1
    ·exact hq i h1 c' hc2
    ·obtain rfl:i=k:=by omega
     rw[hc]at hc2;cases hc2;exact hd
   have F:=F3 F q1 q2;(try refine sq F ?_);refine wk F ?_;refine hK2 _ _ _ (H3 ⟨k+1,rfl,aB,by omega,hq1⟩) (by omega);all_goals try exact zZz F
  |false=>
   have h2:=h2 hd;obtain⟨e1,_⟩:=iX digB s k hq hk (.inr ⟨_,hc,hd⟩);have el:(s.takeWhile digB).length=k:=(by rw[e1,I0];omega);generalize (Utf8.decode ⟨s.toArray⟩ k).1=rn at*;by_cases q:rn<48
   ·have q1:decide ((rn:Int)<48)=true:=(by simp;omega);have F:=F2 F q1;(try refine sq F ?_);refine wk F ?_;refine ee hQ F ?_;rw[el];exact H9 (.int _ _) ⟨rfl,rfl⟩
   ·have q1:decide ((rn:Int)<48)=false:=(by simp;omega);have q2:decide ((rn:Int)>57)=true:=(by simp;omega);have F:=F3 F q1 q2;(try refine sq F ?_);refine wk F ?_;refine ee hQ F ?_;rw[el];exact H9 (.int _ _) ⟨rfl,rfl⟩
 ·obtain⟨e1,_⟩:=iX digB s s.length (fun i hi=>hq i (by omega)) (G3 _) (.inl rfl);have el:(s.takeWhile digB).length=s.length:=by rw[e1,I0];omega
  try refine sq F ?_
  refine wk F ?_;refine ee hQ F ?_;rw[el];exact H9 (.int _ _) ⟨rfl,rfl⟩
theorem pA{s s':Bs}{b b':Bool}(e:(Rdr.mk s b).point=⟨s',b'⟩)(hs:s.length≤1073741824){H:Heap}{p:Nat}(hg:getRow H p 0=some (188,2,[.agg [.str s,.bool b]])):
  Sat (CT G) 199 [.hp p 0 0 0] H (fun r h'=>r=.tup []∧h'=H.set p (dR s' b')):=by
 have hp:=al hg;have hP:=ct G s [46];have hset:H.set p (dR s b)=H:=by
  refine List.ext_getElem? fun i=>?_
  by_cases k:p=i
  ·subst k;rw[L0 hp];exact(bv hg).symm
  ·rw[J0 k]
 have same:(Rdr.mk s b).point=⟨s,b⟩→Lib.hasPrefix s [46]=false→Sat (CT G) 199 [.hp p 0 0 0] H (fun r h'=>r=.tup []∧h'=H.set p (dR s' b')):=fun e2 h46=>by
  rw[e2]at e;cases e;rw[h46]at hP;have F:=hg;refine sb [] Tryz.func199 ?_;intro Q hQ;refine wk F ?_;refine kq F (hP _) ?_;refine ee hQ F ?_;rw[hset];exact J9 (.tup _ (by simp)) ⟨rfl,rfl⟩
 cases s with
 |nil=>exact same rfl rfl
 |cons c t=>
  by_cases hc:c=46
  rotate_left
  ·refine same ?_ (by
   have k:(46==c)=false:=(by simpa using fun e:(46:UInt8)=c=>hc e.symm);simp[Lib.hasPrefix,List.isPrefixOf,k])
   unfold Rdr.point;split
   ·rename_i h;simp only[Q6]at h;exact absurd h.1 hc
   ·rfl
  subst hc;have h46:Lib.hasPrefix (46::t) [46]=true:=by simp[Lib.hasPrefix]
  rw[h46]at hP;have e2:(Rdr.mk (46::t) b).point=⟨t.drop (t.takeWhile digB).length,b|| !(decide (1≤(t.takeWhile digB).length)&&decide ((t.takeWhile digB).length≤9))⟩:=rfl;rw[e2]at e;cases e;have htl:t.length≤1073741824:=by simp at hs;omega
  have hg1:getRow (H.set p (dR t b)) p 0=some (188,2,[.agg [.str t,.bool b]]):=by rw[bE _ _ _ _ _ hp];rfl
  have hR:=tA G htl hg1;have hW:=bV G ((t.takeWhile digB).length:Int) 1 9;have hle:=wq t;have eb:(decide ((1:Int)≤((t.takeWhile digB).length:Int))&&decide (((t.takeWhile digB).length:Int)≤9))=(decide (1≤(t.takeWhile digB).length)&&decide ((t.takeWhile digB).length≤9)):=by
   congr 1
   ·exact decide_eq_decide.2 (by omega)
   ·exact decide_eq_decide.2 (by omega)
  rw[eb]at hW;generalize (t.takeWhile digB).length=n at*;generalize (decide (1≤n)&&decide (n≤9))=v at*;have h1l:1≤(46::t).length:=by simp
  have hd1:(46::t).drop 1=t:=rfl;have F:=F7 hg @h1l hd1 hg1 hp hle @ak;cases b with
  |true=>
   simp only[L2]at*;refine sb [] Tryz.func199 ?_;intro Q hQ;refine wk F ?_;refine kq F (hP _) ?_;refine kq F (hR) ?_;refine ee hQ F ?_;exact aR (fun _=>.tup _ (by simp))
  |false=>
   simp only[N1]at*;refine sb [] Tryz.func199 ?_;intro Q hQ;refine wk F ?_;refine kq F (hP _) ?_;refine kq F (hR) ?_;refine kq F (hW _) ?_;refine ee hQ F ?_;exact aR (fun _=>.tup _ (by simp))
end Go.Av
namespace Go.Av
open Go.RowKit
inductive ET where
 |fin
 |one (i:Nat) (m:List Bool) (s:ET)
 |two (i:Nat) (m:List Bool) (s:ET) (j:Nat) (m':List Bool) (u:ET)
def maskL:List Bool→List Oper→List Oper
 |true::m,o::l=>o::maskL m l
 |false::m,_::l=>nopO::maskL m l
 |_,_=>[]
@[go_sem] theorem eY(m:List Bool)(o:Oper)(l:List Oper):maskL (true::m) (o::l)=o::maskL m l:=(rfl)
@[go_sem] theorem eZ(m:List Bool)(o:Oper)(l:List Oper):maskL (false::m) (o::l)=nopO::maskL m l:=(rfl)
@[go_sem] theorem cG(l:List Oper):maskL [] l=[]:=by cases l<;>rfl
theorem cH:∀(m:List Bool) (l:List Oper) (i:Nat),(maskL m l)[i]? =match m[i]?,l[i]? with|some true,some o=>some o|some false,some _=>some nopO|_,_=>none
 | [],l,i=>by rw[cG];simp
 |b::m,[],i=>by cases b<;>simp[maskL]
 |true::m,o::l,0=>by simp[maskL]
 |false::m,o::l,0=>by simp[maskL]
 |true::m,o::l,i+1=>by simp only[maskL,P1];exact cH m l i
 |false::m,o::l,i+1=>by simp only[maskL,P1];exact cH m l i
theorem gA:∀(m:List Bool) (l:List Oper),m.length≤l.length→(maskL m l).length=m.length
 | [],l,_=>by rw[cG];rfl
 |b::m,[],h=>by simp at h
 |true::m,o::l,h=>by simp only[maskL,E2];rw[gA m l (by simpa using h)]
 |false::m,o::l,h=>by simp only[maskL,E2];rw[gA m l (by simpa using h)]
def wrM:List Bool→List Oper→List Nat
 |true::m,o::l=>match o.dst with|some d=>d::wrM m l|none=>wrM m l
 |false::m,_::l=>wrM m l
 |_,_=>[]
@[go_sem] theorem Dp(m:List Bool)(o:Oper)(l:List Oper):wrM (true::m) (o::l)=match o.dst with|some d=>d::wrM m l|none=>wrM m l:=(rfl)
@[go_sem] theorem Dq(m:List Bool)(o:Oper)(l:List Oper):wrM (false::m) (o::l)=wrM m l:=(rfl)
@[go_sem] theorem yE(l:List Oper):wrM [] l=[]:=by cases l<;>rfl
theorem lV:∀(m:List Bool) (l:List Oper),wrM m l=wrOps (maskL m l)
 | [],l=>by rw[yE,cG];rfl
 |b::m,[]=>by cases b<;>rfl
 |true::m,o::l=>by
  show(match o.dst with|some d=>d::wrM m l|none=>wrM m l)=(match o.dst with|some d=>d::wrOps (maskL m l)|none=>wrOps (maskL m l))
  rw[lV m l]
 |false::m,o::l=>by simp only[wrM,maskL,wrOps,nopO];rw[lV m l]
def freeO(o:Oper):Bool:=match o.op with
 | .move _| .assign _| .pick _ _ _| .extract _ _| .field _ _ _| .build _ _| .unOp _ _ _=>true
 |_=>false
def okI(ops:Array Oper)(b:Array Nat)(k:Nat)(es:List Nat)(i:Nat)(m:List Bool)(X:List Nat):Bool:=
 es.contains i&& !X.contains i&&(es.all fun x=> !(b.getD i 0).testBit x||X.contains x)&&
 ((List.range k).all fun p=>es.contains p||m.getD p false||(decide (p<i)&&(b.getD i 0).testBit p)||(es.any fun x=>X.contains x&&decide (p<x)&&(b.getD x 0).testBit p)||(ops[p]?.any freeO))&&
 ((List.range m.length).all fun p=> !m.getD p false||(decide (p<k)&& !es.contains p))&&decide (m.length≤k)
def okO(b:Array Nat)(es X is:List Nat):Bool:=
 es.all fun x=>X.contains x||is.contains x||es.any fun y=> !X.contains y&&decide (y<x)&&(b.getD x 0).testBit y
def okE(ops:Array Oper)(b:Array Nat)(k:Nat)(es:List Nat):ET→List Nat→Bool
 | .fin,X=>es.all X.contains
 | .one i m s,X=>okI ops b k es i m X&&okO b es X [i]&&okE ops b k es s (i::X)
 | .two i m s j m' u,X=>okI ops b k es i m X&&okI ops b k es j m' X&&okO b es X [i,j]&&okE ops b k es s (i::X)&&okE ops b k es u (j::X)
def chkE(l:List Oper)(k:Nat)(es:List Nat)(m0:List Bool)(tr:ET):Bool:=
 let ops:=l.toArray
 let b:=Region.before ops
 preOkG false ops k&&decide (k≤l.length)&&
 ((List.range k).all fun i=>(List.range k).all fun j=>match ops[i]?,ops[j]? with
  |some oi,some oj=>match oj.dst with
   |some d=> !(oi.looksAt ops).contains d||(decide (j<i)&&(b.getD i 0).testBit j&&(es.contains i|| !es.contains j))
   |none=>true
  |_,_=>true)&&
 ((List.range k).all fun i=>es.contains i||(ops[i]?.any fun o=>o.dst.isSome))&&
 (es.all fun e=>decide (e<k))&&m0==(List.range k).map (fun i=> !es.contains i)&&okE ops b k es tr []
section
variable {C:Ctx} {t:Env} {h:Heap}
def stepE(C:Ctx)(l:List Oper)(t0:Env)(i:Nat)(m:List Bool)(P:Env→Heap→Prop)(tc:Env)(h:Heap):Prop:=
 need (l[i]?) fun o=>wpOperV C l.toArray o tc h fun v h'=>(WPp C l.toArray (maskL m l) t0 h' fun t''=>agrL (wrM m l) t'' t0)∧P (put tc o.dst v) h'
def WPe(C:Ctx)(Q:Exit→Env→Heap→Prop)(l:List Oper)(k:Nat)(t0:Env):ET→Env→Heap→Prop
 | .fin,tc,h=>WPl C l.toArray Q (l.drop k) tc h
 | .one i m s,tc,h=>stepE C l t0 i m (WPe C Q l k t0 s) tc h
 | .two i m s j m' u,tc,h=>stepE C l t0 i m (WPe C Q l k t0 s) tc h∧stepE C l t0 j m' (WPe C Q l k t0 u) tc h
theorem qV{ops:Array Oper}{o:Oper}{s:Env}(hf:freeO o=true){v:AVal}(g:∀KK:AVal→Heap→Prop,KK v h→wpOperV C ops o s h KK)(h':Heap):∀KK:AVal→Heap→Prop,KK v h'→wpOperV C ops o s h' KK:=by
 intro KK hk;have g:=g (fun v' _=>KK v' h') hk;have key:∀K:AVal→Heap→Prop,wpOp C o.op s h (fun v' _=>K v' h')=wpOp C o.op s h' K:=by
  intro K;unfold freeO at hf;cases ho:o.op<;>rw[ho]at hf<;>first| (cases hf;done)|rfl
 unfold wpOperV at g ⊢;cases hg:o.guard with
 |none=>rw[hg]at g;simp only at g ⊢;rw[← key];exact g
 |some q=>
  obtain⟨j,w⟩:=q;rw[hg]at g;simp only at g ⊢;cases hq:guardA ops s j with
  |none=>rw[hq]at g;exact g
  |some b=>rw[hq]at g;simp only at g ⊢;rw[← key];exact g
theorem lW{V:Nat→AVal}(l:List Oper)(t:Env)(hu:∀(i j:Nat) (oi oj:Oper) (d:Nat),l[i]? =some oi→l[j]? =some oj→oi.dst=some d→oj.dst=some d→i=j):
  ∀i,i≤l.length→(∀(j:Nat) (o:Oper) (d:Nat),j<i→l[j]? =some o→o.dst=some d→Av.T V l t i d=V j)∧(∀d,(∀(j:Nat) (o:Oper),j<i→l[j]? =some o→o.dst≠some d)→Av.T V l t i d=t d)
 |0,_=>⟨fun j o d hj=>by omega,fun d _=>by rw[gw]⟩
 |i+1,hi=>by
  obtain⟨h1,h2⟩:=lW l t hu i (by omega);have ho:l[i]? =some (l[i]'(by omega)):=E6 _;rw[dW V l t i _ ho];generalize l[i]=o at ho;refine⟨fun j oj d hj hoj hd=>?_,fun d hn=>?_⟩
  ·by_cases hji:j=i
   ·subst hji;rw[ho]at hoj;cases hoj;simp[put,hd,upd]
   ·have hne:o.dst≠some d:=fun e=>hji (hu j i oj o d hoj ho hd e)
    have:put (Av.T V l t i) o.dst (V i) d=Av.T V l t i d:=by
     cases hdo:o.dst with
     |none=>rfl
     |some x=>simp only[put,upd];rw[E4];intro e;subst e;exact hne hdo
    rw[this];exact h1 j oj d (by omega) hoj hd
  ·have hne:o.dst≠some d:=hn i o (by omega) ho;have:put (Av.T V l t i) o.dst (V i) d=Av.T V l t i d:=by
    cases hdo:o.dst with
    |none=>rfl
    |some x=>simp only[put,upd];rw[E4];intro e;subst e;exact hne hdo
   rw[this];exact h2 d fun j oj hj hoj=>hn j oj (by omega) hoj
theorem Ag.upd'{ops:Array Oper}{k:Nat}{V:Nat→AVal}{t s:Env}{p:Nat→Bool}(g:Ag ops k V t p s){i:Nat}(hp:p i=false)(v:AVal):Ag ops k (fun j=>if j=i then v else V j) t p s:=
 ⟨fun j o x hj ho hpj hd=>by
  have:j≠i:=fun e=>by subst e;rw[hp]at hpj;cases hpj
  simp only[E4 this];exact g.1 j o x hj ho hpj hd,g.2⟩
theorem Ag.congr'{ops:Array Oper}{k:Nat}{V:Nat→AVal}{t s:Env}{p p':Nat→Bool}(g:Ag ops k V t p s)(hp:∀j,j<k→p' j=p j):Ag ops k V t p' s:=
 ⟨fun j o x hj ho hpj hd=>g.1 j o x hj ho (by rw[← hp j hj];exact hpj) hd,fun x hn=>g.2 x fun j o hj ho hpj=>hn j o hj ho (by rw[hp j hj];exact hpj)⟩
theorem pB{l:List Oper}{Q:Exit→Env→Heap→Prop}{k:Nat}{es:List Nat}{t0 t:Env}(D:PreOk l.toArray k fun i j=>((Region.before l.toArray).getD j 0).testBit i)(hkn:k≤l.length)
  (c4:∀(i j:Nat) (oi oj:Oper) (d:Nat),i<k→j<k→l[i]? =some oi→l[j]? =some oj→oj.dst=some d→d∈oi.looksAt l.toArray→j<i∧((Region.before l.toArray).getD i 0).testBit j=true∧(es.contains i=true∨es.contains j=false))
  (c7:∀(i:Nat) (o:Oper),i<k→es.contains i=false→l[i]? =some o→o.dst.isSome=true)(hes:∀e,es.contains e=true→e<k)
  (hA:detGo .any l.toArray (l.length-k) (listK l.length k)=some (List.range' k (l.length-k))):
  ∀(fuel n:Nat) (L:Array Bool) (s:Env) (tr:ET) (V:Nat→AVal) (tc:Env) (h:Heap) (X:List Nat),L.size=l.length→left l.toArray L=fuel→Closed l.toArray L→(∀j,j<l.length→L.getD j false=true→j<k)→
   (∀j,es.contains j=true→(L.getD j false=X.contains j))→okE l.toArray (Region.before l.toArray) k es tr X=true→
   Ag l.toArray k V t (fun j=>L.getD j false) s→Ag l.toArray k V t (fun j=> !es.contains j) t0→Ag l.toArray k V t (fun j=> !es.contains j||X.contains j) tc→
   (∀(i:Nat) (o:Oper),i<k→es.contains i=false→L.getD i false=false→l[i]? =some o→∀KK:AVal→Heap→Prop,KK (V i) h→wpOperV C l.toArray o t0 h KK)→WPe C Q l k t0 tr tc h→
   WPix C l.toArray Q (Region.linearise.go .any l.toArray fuel n L []) s h:=by
 have hsee:∀{V:Nat→AVal} {s s':Env} {p p':Nat→Bool} {i:Nat} {o:Oper},Ag l.toArray k V t p s→Ag l.toArray k V t p' s'→i<k→l[i]? =some o→
   (∀j,j<i→((Region.before l.toArray).getD i 0).testBit j=true→(es.contains i=true∨es.contains j=false)→p j=true∧p' j=true)→∀d∈o.looksAt l.toArray,s d=s' d:=by
  intro V s s' p p' i o g g' hi ho hp d hd;by_cases hx:∃(j:Nat) (oj:Oper),j<k∧l[j]? =some oj∧oj.dst=some d
  ·obtain⟨j,oj,h1,h2,h3⟩:=hx;obtain⟨h4,h5,h6⟩:=c4 i j o oj d hi h1 ho h2 h3 hd;obtain⟨h7,h8⟩:=hp j h4 h5 h6;rw[g.1 j oj d h1 (by simpa using h2) h7 h3,g'.1 j oj d h1 (by simpa using h2) h8 h3]
  ·have hn:∀(j:Nat) (oj:Oper),j<k→l.toArray[j]? =some oj→oj.dst≠some d:=fun j oj h1 h2 h3=>hx ⟨j,oj,h1,by simpa using h2,h3⟩
   rw[g.2 d fun j oj h1 h2 _=>hn j oj h1 h2,g'.2 d fun j oj h1 h2 _=>hn j oj h1 h2]
 intro fuel;induction fuel with
 |zero=>
  intro n L s tr V tc h X hs hl cl hlt hX hok ag ag0 agc hv hw;have hall:=dg (by simpa using hs) hl;cases tr with
  |fin=>
   have hk:k=l.length:=by
    apply I8
    intro hne;have:=hlt k (by omega) (hall k (by simp;omega));omega
   subst hk;simp only[Region.linearise.go,List.reverse_nil,WPix];simp only[WPe,List.drop_length,WPl]at hw;have e:s=tc:=by
    refine Ag.eq (p:=fun _=>true) (ag.congr' fun j hj=>?_) (agc.congr' fun j hj=>?_)
    ·exact(hall j (by simpa using hj)).symm
    ·cases hc:es.contains j with
     |false=>rfl
     |true=>rw[← hX j hc,hall j (by simpa using hj)];rfl
   rw[e];exact hw
  |one i m u=>
   simp only[okE,okI,E3,L7]at hok;have h1:=hok.1.1.1.1.1.1.1;have h2:=hok.1.1.1.1.1.1.2;have:=hall i (by have:=hes i h1;simp;omega);rw[hX i h1,h2]at this;cases this
  |two i m u j m' u'=>
   simp only[okE,okI,E3,L7]at hok;have h1:=hok.1.1.1.1.1.1.1.1.1;have h2:=hok.1.1.1.1.1.1.1.1.2;have:=hall i (by have:=hes i h1;simp;omega);rw[hX i h1,h2]at this;cases this
 |succ fuel ih=>
  intro n L s tr V tc h X hs hl cl hlt hX hok ag ag0 agc hv hw;have bef:∀(i:Nat) (o:Oper),i<k→l[i]? =some o→(∀e∈o.after,Region.binds .any e=true→L.getD e.on false=true)→∀j,j<i→((Region.before l.toArray).getD i 0).testBit j=true→L.getD j false=true:=
   fun i o hi ho hrd j hj hc=>D.bef cl i o (by simpa using ho) hi j hj hc hrd
  by_cases hfin:tr=.fin
  ·subst hfin;simp only[okE,G8]at hok;have hXe:∀j,es.contains j=true→L.getD j false=true:=fun j hj=>by rw[hX j hj];exact hok j (by simpa using hj)
   have hTT:=D.ag_T V t (by simpa using hkn) k (G3 _);refine cN D .any D.less (by simpa using hkn) (V:=V) (t0:=t) (fun j=>es.contains j=false∧L.getD j false=false) (fun i o ho hoi KK hkk=>?_) ?_ _ _ _ _ (by simpa using hs) hl cl (by simpa using hlt) (fun j hj hlj=>?_) ag
   ·have hik:i<k:=by
     refine Nat.lt_of_not_le fun hle=>?_
     rw[M2,E4 (by omega)]at ho;cases ho
    have hoi':l[i]? =some o:=(by rw[M2,E8 hik]at ho;simpa using ho);have:=hv i o hik hoi.1 hoi.2 hoi' KK hkk;rw[← aS (hsee ag0 (D.ag_T V t (by simpa using hkn) i (by omega)) hik hoi' fun j hj hb he=>?_)]
    ·exact this
    ·rcases he with he|he
     ·rw[hoi.1]at he;cases he
     ·exact⟨by simp only[he];rfl,by simpa using hj⟩
   ·have:=lT (ops:=l.toArray) (Q:=Q) (md:=.any) _ _ _ (l.drop k) tc h hA (by rw[lU (by omega),H4 (by simp)]) hw;have e:Av.T V (l.toArray.toList.take k) t k=tc:=by
     refine Ag.eq (p:=fun _=>true) (hTT.congr' fun j hj=>?_) (agc.congr' fun j hj=>?_)
     ·simpa using hj
     ·cases hc:es.contains j with
      |false=>rfl
      |true=>have:=hok j (by simpa using hc);simp only[this];rfl
    rw[e];simpa using this
   ·refine⟨?_,hlj⟩;cases hc:es.contains j with
    |false=>rfl
    |true=>rw[hXe j hc]at hlj;cases hlj
  ·
   obtain⟨e0,he0,hX0⟩:∃e0,es.contains e0=true∧X.contains e0=false:=by
    cases tr with
    |fin=>exact absurd rfl hfin
    |one i m u=>
     simp only[okE,okI,E3,L7]at hok;exact⟨i,hok.1.1.1.1.1.1.1,hok.1.1.1.1.1.1.2⟩
    |two i m u j m' u'=>
     simp only[okE,okI,E3,L7]at hok;exact⟨i,hok.1.1.1.1.1.1.1.1.1,hok.1.1.1.1.1.1.1.1.2⟩
   have hek:=hes e0 he0;have heun:L.getD e0 false=false:=(by rw[hX e0 he0];exact hX0);have hne:Region.ready .any l.toArray L≠ []:=by
    have hmin:∃i,i<k∧L.getD i false=false∧∀j,j<i→L.getD j false=true:=by
     obtain⟨i,hi,hl⟩:∃i,i<k∧L.getD i false=false:=⟨e0,hek,heun⟩;induction i using Nat.strongRecOn with
     |ind i ih=>
      by_cases hall:∀j,j<i→L.getD j false=true
      ·exact⟨i,hi,hl,hall⟩
      ·have:∃j,j<i∧L.getD j false=false:=I8 fun hno=>hall fun j hj=>by
        cases hlj:L.getD j false with
        |true=>rfl
        |false=>exact absurd ⟨j,hj,hlj⟩ hno
       obtain⟨j,hj,hlj⟩:=this;exact ih j hj (by omega) hlj
    obtain⟨i,hi,hl,hall⟩:=hmin;have hin:i<l.toArray.size:=(by simp;omega);have h3:i<L.size:=(by omega);intro e;have:i∈Region.ready .any l.toArray L:=mem_ready.2 ⟨by simp[h3]at hl ⊢;exact hl,l.toArray[i],H5 hin,fun e he hb=>hall _ (D.less i _ (H5 hin) hi e he hb)⟩;rw[e]at this;cases this
   obtain⟨i,hi,hmem⟩:=bF hne n;obtain⟨hun,o,ho,hrd⟩:=mem_ready.1 hmem;have hin:=(H7.1 ho).1;have hin':i<l.length:=(by simpa using hin);have h3:i<L.size:=(by omega);have ho':l[i]? =some o:=(by simpa using ho);have hun':L.getD i false=false:=(by simp[h3]at hun ⊢;exact hun);have hik:i<k:=by
    refine Nat.lt_of_not_le fun hle=>?_
    obtain⟨e1,he1,hb,h1⟩:=D.sfx e0 i o ho hek hle;have h2:=hrd e1 he1 hb;have hkl:L.getD e0 false=true:=by
     rcases h1 with rfl| ⟨h4,h5,h6⟩
     ·exact h2
     ·have hoe:l.toArray[e1.on]? =some (l.toArray[e1.on]'(by simp;omega)):=H5 (by simp;omega);exact D.bef cl e1.on _ hoe h4 e0 h5 h6 fun e' he' hb'=>cl e1.on _ hoe h2 e' he' hb'
    rw[heun]at hkl;cases hkl
   rw[cA .any l.toArray fuel n L hi];simp only[WPix,ho];rw[cS];have hb:=bef i o hik ho' hrd;have agn:∀{V:Nat→AVal},Ag l.toArray k V t (fun j=>L.getD j false) s→Ag l.toArray k V t (fun j=>(L.setIfInBounds i true).getD j false) (put s o.dst (V i)):=fun ag=>by
    refine D.ag_put ag ho hik fun j hj=>?_
    by_cases hji:i=j
    ·subst hji;simp[h3]
    ·rw[getD_set_ne false hji];have:(j==i)=false:=by simp;exact fun e=>hji e.symm
     rw[this,R1]
   have hlt':∀j,j<l.length→(L.setIfInBounds i true).getD j false=true→j<k:=fun j hj hlj=>by
    by_cases hji:i=j
    ·subst hji;exact hik
    ·rw[getD_set_ne false hji]at hlj;exact hlt j hj hlj
   have hls:left l.toArray (L.setIfInBounds i true)=fuel:=(by have:=cT (by simpa using hs) hin hun';omega);cases hic:es.contains i with
   |false=>
    have h9:=hv i o hik hic hun' ho';rw[← aS (hsee ag0 ag hik ho' fun j hj hbt he=>?_)]
    ·refine h9 _ ?_;refine ih _ _ _ tr V tc h X (by simpa using hs) hls (cl.set ho hrd) hlt' (fun j hj=>?_) hok (agn ag) ag0 agc (fun j oj hj hjc hjl hoj=>?_) hw
     ·have:i≠j:=fun e=>by subst e;rw[hic]at hj;cases hj
      rw[getD_set_ne false this];exact hX j hj
     ·have:i≠j:=fun e=>by subst e;simp[h3]at hjl
      rw[getD_set_ne false this]at hjl;exact hv j oj hj hjc hjl hoj
    ·rcases he with he|he
     ·rw[hic]at he;cases he
     ·exact⟨by simp only[he];rfl,hb j hj hbt⟩
   |true=>
    have hiX:X.contains i=false:=(by rw[← hX i hic];exact hun');have eff:∀(m:List Bool) (u:ET),okI l.toArray (Region.before l.toArray) k es i m X=true→okE l.toArray (Region.before l.toArray) k es u (i::X)=true→stepE C l t0 i m (WPe C Q l k t0 u) tc h→
      wpOperV C l.toArray o s h fun v h'=>WPix C l.toArray Q (Region.linearise.go .any l.toArray fuel (n/(Region.ready .any l.toArray L).length) (L.setIfInBounds i true) []) (put s o.dst v) h':=by
     intro m u hoI hoE hst;simp only[stepE,ho',aV]at hst;rw[← aS (hsee agc ag hik ho' fun j hj hbt _=>?_)]
     ·refine bG hst fun v h' ⟨hre,hnx⟩=>?_
      have agV:=ag.upd' (i:=i) (by simpa using hun') v;have ag0V:=ag0.upd' (i:=i) (by simp only[hic];rfl) v;have agcV:=agc.upd' (i:=i) (by simp only[hic,hiX];rfl) v;have e1:=agn agV;simp only[if_true]at e1;refine ih _ _ _ u (fun j=>if j=i then v else V j) (put tc o.dst v) h' (i::X) (by simpa using hs) hls (cl.set ho hrd) hlt' (fun j hj=>?_) hoE e1 ag0V ?_ (fun p op hp hpc hpl hop=>?_) hnx
      ·by_cases hji:i=j
       ·subst hji;simp[h3]
       ·rw[getD_set_ne false hji,hX j hj];rw[List.contains_cons];have:(j==i)=false:=by simp;exact fun e=>hji e.symm
        rw[this,N1]
      ·have:=D.ag_put (V:=fun j=>if j=i then v else V j) (p':=fun j=> !es.contains j||(i::X).contains j) agcV ho hik fun j hj=>by
        rw[List.contains_cons,Bool.or_comm (j==i),Bool.or_assoc]
       simpa using this
      ·have hpi:i≠p:=fun e=>by subst e;rw[hic]at hpc;cases hpc
       rw[getD_set_ne false hpi]at hpl;simp only[E4 (fun e=>hpi e.symm:¬p=i)];simp only[okI,E3,G8,L4,K1,L7,F1]at hoI;obtain⟨⟨⟨⟨⟨_,_⟩,_⟩,hms⟩,hml⟩,hmk⟩:=hoI;rcases hms p hp with(((h4|h4)|h4)|h4)|h4
       ·rw[hpc]at h4;cases h4
       ·
        obtain⟨V2,hv2,hK2⟩:=bS _ _ hre;rw[lV]at hK2;have hmlen:m.length≤l.length:=(by omega);have hget:∀q oq,(maskL m l)[q]? =some oq→oq=nopO∨(m.getD q false=true∧l[q]? =some oq):=fun q oq hq=>by
         rw[cH]at hq;split at hq
         ·rename_i h5 h6;cases hq;exact .inr ⟨by simp[List.getD,h5],h6⟩
         ·cases hq;exact .inl rfl
         ·cases hq
        have hgm:∀q oq,m.getD q false=true→l[q]? =some oq→(maskL m l)[q]? =some oq:=fun q oq h5 h6=>by
         rw[cH];have:m[q]? =some true:=by
          cases hm:m[q]? with
          |none=>simp[List.getD,hm]at h5
          |some b=>simp[List.getD,hm]at h5;subst h5;rfl
         rw[this,h6]
        have hmP:∀q,m.getD q false=true→q<k∧es.contains q=false:=fun q h5=>by
         have hq:q<m.length:=by
          apply I8
          intro hn;rw[List.getD,M9 (by omega)]at h5;cases h5
         rcases hml q hq with h6|h6
         ·rw[h5]at h6;cases h6
         ·exact h6
        have hu:∀(a b:Nat) (oa ob:Oper) (d:Nat),(maskL m l)[a]? =some oa→(maskL m l)[b]? =some ob→oa.dst=some d→ob.dst=some d→a=b:=fun a b oa ob d h5 h6 h7 h8=>by
         rcases hget a oa h5 with rfl| ⟨ha,hoa⟩
         ·cases h7
         rcases hget b ob h6 with rfl| ⟨hb',hob⟩
         ·cases h8
         rcases N9 a b with h9|h9|h9
         ·exact absurd h8 ((D.pre a b oa ob (by simpa using hoa) (by simpa using hob) h9 (hmP b hb').1).2 d h7)
         ·exact h9
         ·exact absurd h7 ((D.pre b a ob oa (by simpa using hob) (by simpa using hoa) h9 (hmP a ha).1).2 d h8)
        have hT:=fun q (hq:q≤(maskL m l).length)=>lW (V:=V2) (maskL m l) t0 hu q hq
        have hV2:∀q oq d,(maskL m l)[q]? =some oq→oq.dst=some d→V2 q=t0 d:=fun q oq d h5 h6=>by
         have h7:=iv hK2 d (jx h5 h6);rw[(hT _ (G3 _)).1 q oq d (E0.1 h5).1 h5 h6]at h7;exact h7
        have hTt:∀q,q≤(maskL m l).length→Av.T V2 (maskL m l) t0 q=t0:=fun q hq=>by
         funext d
         by_cases hx:∃(a:Nat) (oa:Oper),a<q∧(maskL m l)[a]? =some oa∧oa.dst=some d
         ·obtain⟨a,oa,h5,h6,h7⟩:=hx;rw[(hT q hq).1 a oa d h5 h6 h7,hV2 a oa d h6 h7]
         ·exact(hT q hq).2 d fun a oa h5 h6 h7=>hx ⟨a,oa,h5,h6,h7⟩
        have hg:=hgm p op h4 hop;have:=hv2 p op hg;rw[hTt p (Nat.le_of_lt (E0.1 hg).1)]at this;obtain⟨d,hd⟩:=I3.1 (c7 p op hp hpc hop);have h5:V2 p=V p:=by
         rw[hV2 p op d hg hd];exact ag0.1 p op d hp (by simpa using hop) (by simp only[hpc];rfl) hd
        rw[h5]at this;exact this
       ·
        rw[hb p h4.1 h4.2]at hpl;cases hpl
       ·
        obtain⟨x,hxe,hx⟩:=P8.1 h4;simp only[E3,F1]at hx;have hxe':es.contains x=true:=(by simpa using hxe);have hxk:=hes x hxe';have hxl:L.getD x false=true:=(by rw[hX x hxe'];exact hx.1.1);have hox:l.toArray[x]? =some (l.toArray[x]'(by simp;omega)):=H5 (by simp;omega);have:=D.bef cl x _ hox hxk p hx.1.2 hx.2 (fun e he hbd=>cl x _ hox hxl e he hbd);rw[this]at hpl;cases hpl
       ·rw[P6,hop]at h4;exact qV (by simpa using h4) (hv p op hp hpc hpl hop) h'
     ·have hLj:=hb j hj hbt;refine⟨?_,hLj⟩;cases hc:es.contains j with
      |false=>rfl
      |true=>rw[← hX j hc,hLj];rfl
    have other:∀is:List Nat,okO (Region.before l.toArray) es X is=true→is.contains i=true:=fun is ho=>by
     simp only[okO,G8,K1]at ho;rcases ho i (by simpa using hic)with(h4|h4)|h4
     ·rw[hiX]at h4;cases h4
     ·exact h4
     ·obtain⟨y,hy,h5⟩:=P8.1 h4;simp only[E3,L7,F1]at h5;have:=hb y h5.1.2 h5.2;rw[hX y (by simpa using hy),h5.1.1]at this;cases this
    cases tr with
    |fin=>exact absurd rfl hfin
    |one i' m u=>
     simp only[okE,E3]at hok;have:i=i':=by simpa using other [i'] hok.1.2
     subst this;exact eff m u hok.1.1 hok.2 hw
    |two i' m u j' m' u'=>
     simp only[okE,E3]at hok;have:i=i'∨i=j':=by simpa using other [i',j'] hok.1.1.2
     rcases this with rfl|rfl
     ·exact eff m u hok.1.1.1.1 hok.1.2 hw.1
     ·exact eff m' u' hok.1.1.1.2 hok.2 hw.2
theorem ea{id:Nat}{l:List Oper}{Q:Exit→Env→Heap→Prop}(k:Nat)(es:List Nat)(m0:List Bool)(tr:ET)(hok:chkE l k es m0 tr=true)(hm:C.P.follows .mixedOrders=true)
  (hA:detGo .any l.toArray (l.length-k) (listK l.length k)=some (List.range' k (l.length-k)))
  (hh:WPp C l.toArray (maskL m0 l) t h fun t0=>WPe C Q l k t0 tr t0 h):WP C (.region id l.toArray true) Q t h:=by
 unfold chkE at hok;simp only[E3,F1,beq_iff_eq]at hok;obtain⟨⟨⟨⟨⟨⟨hpre,hkn⟩,hc4⟩,hc7⟩,hes⟩,hm0⟩,hE⟩:=hok;have D:=eK hpre;simp only[G8,L4]at hc4 hc7;have c4:∀(i j:Nat) (oi oj:Oper) (d:Nat),i<k→j<k→l[i]? =some oi→l[j]? =some oj→oj.dst=some d→d∈oi.looksAt l.toArray→j<i∧((Region.before l.toArray).getD i 0).testBit j=true∧(es.contains i=true∨es.contains j=false):=by
  intro i j oi oj d hi hj hoi hoj hd hl;have:=hc4 i hi j hj;rw[P6,P6,hoi,hoj]at this;simp only[hd,K1,E3,L7,F1]at this;rcases this with h1|h1
  ·have:(oi.looksAt l.toArray).contains d=true:=by simpa using hl
   rw[h1]at this;cases this
  ·exact⟨h1.1.1,h1.1.2,h1.2⟩
 have c7:∀(i:Nat) (o:Oper),i<k→es.contains i=false→l[i]? =some o→o.dst.isSome=true:=by
  intro i o hi he ho;have:=hc7 i hi;rw[P6,ho,he]at this;simpa using this
 have hes':∀e,es.contains e=true→e<k:=fun e he=>by
  have:=G8.1 hes e (by simpa using he);simpa using this
 obtain⟨V,hv,hK⟩:=bS _ _ hh;have hm0l:m0.length=k:=by rw[hm0];simp
 have hml:=gA m0 l (by omega);have hm0g:∀q,q<k→m0[q]? =some (!es.contains q):=fun q hq=>by rw[hm0];simp[hq]
 have hget:∀q oq,(maskL m0 l)[q]? =some oq→oq=nopO∨(q<k∧es.contains q=false∧l[q]? =some oq):=fun q oq hq=>by
  have hqk:q<k:=by have:=(E0.1 hq).1;omega
  rw[cH,hm0g q hqk]at hq;cases hc:es.contains q with
  |true=>rw[hc]at hq;cases hl:l[q]? with
   |none=>rw[hl]at hq;cases hq
   |some o=>rw[hl]at hq;cases hq;exact .inl rfl
  |false=>rw[hc]at hq;cases hl:l[q]? with
   |none=>rw[hl]at hq;cases hq
   |some o=>rw[hl]at hq;cases hq;exact .inr ⟨hqk,rfl,rfl⟩
 have hgm:∀q oq,q<k→es.contains q=false→l[q]? =some oq→(maskL m0 l)[q]? =some oq:=fun q oq hq hc h6=>by
  rw[cH,hm0g q hq,hc,h6];rfl
 have hu:∀(a b:Nat) (oa ob:Oper) (d:Nat),(maskL m0 l)[a]? =some oa→(maskL m0 l)[b]? =some ob→oa.dst=some d→ob.dst=some d→a=b:=fun a b oa ob d h5 h6 h7 h8=>by
  rcases hget a oa h5 with rfl| ⟨ha,_,hoa⟩
  ·cases h7
  rcases hget b ob h6 with rfl| ⟨hb',_,hob⟩
  ·cases h8
  rcases N9 a b with h9|h9|h9
  ·exact absurd h8 ((D.pre a b oa ob (by simpa using hoa) (by simpa using hob) h9 hb').2 d h7)
  ·exact h9
  ·exact absurd h7 ((D.pre b a ob oa (by simpa using hob) (by simpa using hoa) h9 ha).2 d h8)
 have hT:=fun q (hq:q≤(maskL m0 l).length)=>lW (V:=V) (maskL m0 l) t hu q hq
 generalize ht0:Av.T V (maskL m0 l) t (maskL m0 l).length=t0 at hK;have ag0:Ag l.toArray k V t (fun j=> !es.contains j) t0:=by
  rw[← ht0];refine⟨fun j o x hj ho hp hd=>?_,fun x hn=>?_⟩
  ·have hc:es.contains j=false:=(by simpa using hp);exact(hT _ (G3 _)).1 j o x (by omega) (hgm j o hj hc (by simpa using ho)) hd
  ·refine(hT _ (G3 _)).2 x fun j o hj ho hd=>?_
   rcases hget j o ho with rfl| ⟨h1,h2,h3⟩
   ·cases hd
   ·exact hn j o h1 (by simpa using h3) (by simp only[h2];rfl) hd
 have main:∀n,WPix C l.toArray Q (Region.linearise .any l.toArray n) t h:=fun n=>by
  unfold Region.linearise;refine pB D hkn c4 c7 hes' hA _ n _ t tr V t0 h [] (by simp) ?_ (fun j oj hj hl=>?_) (fun j hj hl=>?_) (fun j hj=>?_) hE (Ag.start _ _ _ _ fun j hj=>?_) ag0 (ag0.congr' fun j hj=>by simp) (fun i o hi hc _ ho KK hkk=>?_) hK
  ·unfold left;have:(List.range l.toArray.size).filter (fun i=> !(Array.replicate l.toArray.size false).getD i true)=List.range l.toArray.size:=by
    rw[O4];intro i hi;have:=L4.1 hi;simp at this ⊢;simp[this]
   rw[this,Q3]
  ·have h8:=(H7.1 hj).1;simp at h8 hl;simp[h8]at hl
  ·simp at hl;simp[hj]at hl
  ·have:=hes' j hj;have:j<l.length:=by omega
   simp[this]
  ·have:j<l.length:=by omega
   simp[this]
  ·have hg:=hgm i o hi hc ho;have:=hv i o hg KK hkk;have hil:i≤(maskL m0 l).length:=(by omega);rw[aS (t2:=t0) fun d hd=>?_]at this
   ·exact this
   ·by_cases hx:∃(j:Nat) (oj:Oper),j<k∧l[j]? =some oj∧oj.dst=some d
    ·obtain⟨j,oj,h1,h2,h3⟩:=hx;obtain⟨h4,_,h5⟩:=c4 i j o oj d hi h1 ho h2 h3 hd;have hcj:es.contains j=false:=by
      rcases h5 with h5|h5
      ·rw[hc]at h5;cases h5
      ·exact h5
     rw[(hT i hil).1 j oj d h4 (hgm j oj h1 hcj h2) h3,ag0.1 j oj d h1 (by simpa using h2) (by simp only[hcj];rfl) h3]
    ·rw[(hT i hil).2 d fun j oj h1 h2 h3=>?_,ag0.2 d fun j oj h1 h2 _ h3=>hx ⟨j,oj,h1,by simpa using h2,h3⟩];rcases hget j oj h2 with rfl| ⟨h5,_,h6⟩
     ·cases h3
     ·exact hx ⟨j,oj,h5,h6,h3⟩
 show ∀tp,WPix C l.toArray Q (Region.schedule (C.P.follows .mixedOrders) l.toArray tp) t h;intro tp;unfold Region.schedule;rw[hm];simp only[L2,if_true];exact main _
variable {l:List Oper} {Q:Exit→Env→Heap→Prop} {k:Nat} {t0 tc:Env} {ops:Array Oper} {dst:Option Tmp} {ty:TypeId} {pos:String} {aft:Array Edge} {K:AVal→Heap→Prop}
@[congr] theorem xy(i:Nat)(m:List Bool)(P:Env→Heap→Prop){h h':Heap}(e:h=h'):stepE C l t0 i m P tc h=stepE C l t0 i m P tc h':=by rw[e]
@[congr] theorem zZ(tr:ET){h h':Heap}(e:h=h'):WPe C Q l k t0 tr tc h=WPe C Q l k t0 tr tc h':=by rw[e]
@[go_sem] theorem Bn(i:Nat)(m:List Bool)(P:Env→Heap→Prop):stepE C l t0 i m P tc h=need (l[i]?) fun o=>wpOperV C l.toArray o tc h fun v h'=>(WPp C l.toArray (maskL m l) t0 h' fun t''=>agrL (wrM m l) t'' t0)∧P (put tc o.dst v) h':=(rfl)
attribute [go_sem] List.drop_succ_cons List.drop_zero
variable {t:Env} {e:TypeId} {T:TypeId}
@[go_sem] theorem Aa:wpOperV C ops ⟨dst,.alloc e,ty,pos,aft,none⟩ t h K=
  need (zroT C.P e) fun z=>0<z.cells.length∧z.cells.all AVal.sto=true∧z.lies=true∧K (.hp h.length 0 0 0) (h++[.row e z.cells.length 0 [z]]):=(rfl)
@[go_sem] theorem CM(rest:List Oper)(K:Env→Prop):WPp C ops (nopO::rest) t h K=WPp C ops rest t h K:=sv (dst:=none) (.const (.bool false))
@[congr] theorem yF{l l':List Oper}{t t':Env}{h h':Heap}{K:Env→Prop}(e1:l=l')(e2:t=t')(e3:h=h'):WPp C ops l t h K=WPp C ops l' t' h' K:=by rw[e1,e2,e3]
@[go_sem] theorem Bo(f:Operand)(args:Array Operand)(Ts:Array TypeId):wpOperV C ops ⟨dst,.call ⟨.value f,args,Ts⟩,ty,pos,aft,none⟩ t h K=callK C (aev C.G t f) (args.toList.map (aev C.G t)) h K:=by
 show wpCall C ⟨.value f,args,Ts⟩ t h K=_;rfl
@[go_sem] theorem Ab(parts:Array (Nat×Operand)):wpOperV C ops ⟨dst,.build T parts,ty,pos,aft,none⟩ t h K=need (buildA C T (parts.toList.map fun q=>(q.1,aev C.G t q.2))) fun v=>K v h:=by
 show wpOp C (.build T parts) t h K=_;have:=jI (C:=C) (ops:= #[]) (Q:=fun _ t h=>K (t 0) h) (rest:=[]) (t:=t) (h:=h) (dst:=some 0) (ty:=0) (pos:= "") (aft:= #[]) T parts;simpa [WPl,wpOper,put,upd]using this
theorem bB(g:WPl C l.toArray Q (l.drop k) tc h):WPe C Q l k t0 .fin tc h:=g
theorem bC{i:Nat}{m:List Bool}{s:ET}(g:stepE C l t0 i m (WPe C Q l k t0 s) tc h):WPe C Q l k t0 (.one i m s) tc h:=g
theorem bD{i j:Nat}{m m':List Bool}{s u:ET}(g:stepE C l t0 i m (WPe C Q l k t0 s) tc h)(g':stepE C l t0 j m' (WPe C Q l k t0 u) tc h):WPe C Q l k t0 (.two i m s j m' u) tc h:=⟨g,g'⟩
end
end Go.Av
namespace Go.Av
open Go Go.Proofs Go.RowKit
theorem wx(G:Nat→Option (List AVal)):(CT G).P.follows .mixedOrders=true:=by kernel_rfl
theorem lY{C:Ctx}{t:Env}{h:Heap}{id:Nat}{l:List Oper}{Q:Exit→Env→Heap→Prop}(hok:preOkG false l.toArray l.length=true)(hm:C.P.follows .mixedOrders=true)
  (hh:WPp C l.toArray l t h fun t'=>Q .normal t' h):WP C (.region id l.toArray true) Q t h:=by
 have D:=eK hok;obtain⟨V,hv,hK⟩:=bS _ _ hh;have htk:l.toArray.toList.take l.length=l:=by simp
 have main:∀n,WPix C l.toArray Q (Region.linearise .any l.toArray n) t h:=fun n=>by
  unfold Region.linearise;refine cN D .any D.less (by simp) (V:=V) (t0:=t) (fun _=>True) (fun i o hi _=>by rw[htk]at hi ⊢;exact hv i o hi) (fun n=>?_) _ _ _ _ (by simp) ?_ (fun j oj hj hl=>?_) (fun j hj hl=>?_) (fun _ _ _=>trivial) (Ag.start _ _ _ _ fun j hj=>?_)
  ·rw[htk];have e1:l.toArray.size-l.length=0:=(by simp);rw[e1];exact Rest.nil hK .any n
  ·unfold left;have:(List.range l.toArray.size).filter (fun i=> !(Array.replicate l.toArray.size false).getD i true)=List.range l.toArray.size:=by
    rw[O4];intro i hi;have:=L4.1 hi;simp at this ⊢;simp[this]
   rw[this,Q3]
  ·have h8:=(H7.1 hj).1;simp at h8 hl;simp[h8]at hl
  ·simp at hj hl;simp[hj]at hl
  ·have:j<l.length:=by omega
   simp[this]
 show ∀tp,WPix C l.toArray Q (Region.schedule (C.P.follows .mixedOrders) l.toArray tp) t h;intro tp;unfold Region.schedule;rw[hm];simp only[L2,if_true];exact main _
end Go.Av
namespace Go.Av
open Go Go.Proofs Go.RowKit
attribute [local irreducible] WP WPl WPix Sat
variable (G:Nat→Option (List AVal))
theorem fa{a b:Int}(h0:0≤a):a.tdiv b=a/b:=L5 h0
theorem cI{a b:Int}(h0:0≤a):a.tmod b=a%b:=K6 h0
def Dt.av(x:Dt):AVal:=.agg [.int .i64 x.y,.int .i64 x.m,.int .i64 x.d,.int .i64 x.h,.int .i64 x.i,.int .i64 x.s]
@[go_sem] theorem Dt.av_eq(x:Dt):x.av=.agg [.int .i64 x.y,.int .i64 x.m,.int .i64 x.d,.int .i64 x.h,.int .i64 x.i,.int .i64 x.s]:=(rfl)
theorem qW(y:Int)(hy:0≤y)(h:Heap):Sat (CT G) 232 [.int .i64 y] h (fun r h'=>r=.bool (leapF y)∧h'=h):=by
 unfold leapF;by_cases a:y%4=0
 ·have a1:(y%4==0)=true:=by simp[a]
  by_cases b:y%100=0
  ·have b1:(y%100 !=0)=false:=(by simp[b]);have F:=F4 a1 b1 @cI hy;refine sb [.tmp 2] Tryz.func232 ?_;intro Q hQ;refine wk F ?_;refine ee hQ F ?_;exact J9 (.bool _) ⟨by simp[a,b];rfl,rfl⟩
  ·have b1:(y%100 !=0)=true:=(by simp[b]);have F:=F4 a1 b1 @cI hy;refine sb [.tmp 2] Tryz.func232 ?_;intro Q hQ;refine wk F ?_;refine ee hQ F ?_;exact J9 (.bool _) ⟨by simp[a,b],rfl⟩
 ·have a1:(y%4==0)=false:=by simp[a]
  have F:=F3 a1 @cI hy;refine sb [.tmp 2] Tryz.func232 ?_;intro Q hQ;refine wk F ?_;refine ee hQ F ?_;exact J9 (.bool _) ⟨by simp[a],rfl⟩
theorem qX(y m:Int)(h:Heap):Sat (CT G) 229 [.int .i64 y,.int .i64 m] h (fun r h'=>r=.int .i64 (daysF y m)∧h'=h):=by
 have dt:∀i:Decidable True, @decide True i=true:=fun i=>by simp
 have df:∀i:Decidable False, @decide False i=false:=fun i=>by simp
 by_cases y1:y<1
 ·have e:daysF y m=0:=by unfold daysF;rw[E8 (by omega)]
  have q:=G4 y1;have F:=F3 q dt df;refine sb [.tmp 4] Tryz.func229 ?_;intro Q hQ;refine wk F ?_;refine ee hQ F ?_;exact J9 (.int _ _) ⟨by rw[e],rfl⟩
 have q1:=H2 y1;by_cases y2:y>9999
 ·have e:daysF y m=0:=by unfold daysF;rw[E8 (by omega)]
  have q:=G4 y2;have F:=F4 q1 q dt df;refine sb [.tmp 4] Tryz.func229 ?_;intro Q hQ;refine wk F ?_;refine ee hQ F ?_;exact J9 (.int _ _) ⟨by rw[e],rfl⟩
 have q2:=H2 y2;by_cases m1:m<1
 ·have e:daysF y m=0:=by unfold daysF;rw[E8 (by omega)]
  have q:=G4 m1;have F:=F5 q1 q2 q dt df;refine sb [.tmp 4] Tryz.func229 ?_;intro Q hQ;refine wk F ?_;refine ee hQ F ?_;exact J9 (.int _ _) ⟨by rw[e],rfl⟩
 have q3:=H2 m1;by_cases m2:m>12
 ·have e:daysF y m=0:=by unfold daysF;rw[E8 (by omega)]
  have q:=G4 m2;have F:=F6 q1 q2 q3 q dt df;refine sb [.tmp 4] Tryz.func229 ?_;intro Q hQ;refine wk F ?_;refine ee hQ F ?_;exact J9 (.int _ _) ⟨by rw[e],rfl⟩
 have q4:=H2 m2;have hr:¬(y<1∨9999<y∨m<1∨12<m):=by omega
 by_cases m3:m=2
 ·subst m3;have hL:=qW G y (by omega);have e:daysF y 2=if leapF y then 29 else 28:=by unfold daysF;rw[E4 hr,E8 rfl]
  cases hl:leapF y with
  |true=>
   rw[hl]at hL e;have F:=F4 q1 q2 dt df;refine sb [.tmp 4] Tryz.func229 ?_;intro Q hQ;refine wk F ?_;refine kq F (hL _) ?_;refine ee hQ F ?_;exact J9 (.int _ _) ⟨by rw[e];rfl,rfl⟩
  |false=>
   rw[hl]at hL e;have F:=F4 q1 q2 dt df;refine sb [.tmp 4] Tryz.func229 ?_;intro Q hQ;refine wk F ?_;refine kq F (hL _) ?_;refine ee hQ F ?_;exact J9 (.int _ _) ⟨by rw[e];rfl,rfl⟩
 ·have q5:(m==2)=false:=by simpa using m3
  have e:daysF y m=30+(m+m/8)%2:=by
   have hm:m=1∨m=3∨m=4∨m=5∨m=6∨m=7∨m=8∨m=9∨m=10∨m=11∨m=12:=(by omega);rcases hm with rfl|rfl|rfl|rfl|rfl|rfl|rfl|rfl|rfl|rfl|rfl<;>(unfold daysF;rw[E4 hr];rfl)
  have F:=F9 q1 q2 q3 q4 q5 dt df @fa @cI;refine sb [.tmp 4] Tryz.func229 ?_;intro Q hQ;refine wk F ?_;refine ee hQ F ?_;exact J9 (.int _ _) ⟨by rw[e],rfl⟩
theorem wy(x:Dt):okD x=((decide (1≤x.d)&&decide (x.d≤daysF x.y x.m))&&((decide (0≤x.h)&&decide (x.h≤23))&&((decide (0≤x.i)&&decide (x.i≤59))&&(decide (0≤x.s)&&decide (x.s≤59))))):=by
 unfold okD;simp only[Bool.and_assoc]
theorem pC(x:Dt)(h:Heap):Sat (CT G) 225 [x.av] h (fun r h'=>r=.int .i64 (if okD x then 0 else 40)∧h'=h):=by
 have hD:=qX G x.y x.m;have hW1:=bV G x.d 1 (daysF x.y x.m);have hW2:=bV G x.h 0 23;have hW3:=bV G x.i 0 59;have hW4:=bV G x.s 0 59;rw[wy];generalize (decide (1≤x.d)&&decide (x.d≤daysF x.y x.m))=b1 at*;generalize (decide (0≤x.h)&&decide (x.h≤23))=b2 at*;generalize (decide (0≤x.i)&&decide (x.i≤59))=b3 at*;generalize (decide (0≤x.s)&&decide (x.s≤59))=b4 at*;generalize daysF x.y x.m=dd at*;obtain⟨y,m,d,hh,i,s⟩:=x;rw[Dt.av_eq];simp only[]at*;cases b1 with
 |false=>
  refine sb [.tmp 2] Tryz.func225 ?_;intro Q hQ;refine wk trivial ?_;refine af (hD _) ?_;try refine sq trivial ?_
  refine wk trivial ?_;refine af (hW1 _) ?_;try refine sq trivial ?_
  refine wk trivial ?_;refine ee hQ trivial ?_;exact H9 (.int _ _) ⟨rfl,rfl⟩
 |true=>
  cases b2 with
  |false=>
   refine sb [.tmp 2] Tryz.func225 ?_;intro Q hQ;refine wk trivial ?_;refine af (hD _) ?_;(try refine sq trivial ?_);refine wk trivial ?_;refine af (hW1 _) ?_;(try refine sq trivial ?_);refine wk trivial ?_;refine af (hW2 _) ?_;(try refine sq trivial ?_);refine wk trivial ?_;refine ee hQ trivial ?_;exact H9 (.int _ _) ⟨rfl,rfl⟩
  |true=>
   cases b3 with
   |false=>
    refine sb [.tmp 2] Tryz.func225 ?_;intro Q hQ;refine wk trivial ?_;refine af (hD _) ?_;(try refine sq trivial ?_);refine wk trivial ?_;refine af (hW1 _) ?_;(try refine sq trivial ?_);refine wk trivial ?_;refine af (hW2 _) ?_;(try refine sq trivial ?_);refine wk trivial ?_;refine af (hW3 _) ?_;(try refine sq trivial ?_);refine wk trivial ?_;refine ee hQ trivial ?_;exact H9 (.int _ _) ⟨rfl,rfl⟩
   |true=>
    cases b4<;>(
     refine sb [.tmp 2] Tryz.func225 ?_;intro Q hQ;refine wk trivial ?_;refine af (hD _) ?_;(try refine sq trivial ?_);refine wk trivial ?_;refine af (hW1 _) ?_;(try refine sq trivial ?_);refine wk trivial ?_;refine af (hW2 _) ?_;(try refine sq trivial ?_);refine wk trivial ?_;refine af (hW3 _) ?_;(try refine sq trivial ?_);refine wk trivial ?_;refine af (hW4 _) ?_;(try refine sq trivial ?_);refine wk trivial ?_;refine ee hQ trivial ?_;exact H9 (.int _ _) ⟨rfl,rfl⟩)
theorem tB(y m:Int):0≤daysF y m∧daysF y m≤31∧(1≤daysF y m→1≤y∧y≤9999∧1≤m∧m≤12):=by
 unfold daysF;split
 ·omega
 ·split
  ·split<;>omega
  ·split<;>omega
theorem fb{x:Dt}(h:okD x=true):1≤x.y∧x.y≤9999∧1≤x.m∧x.m≤12∧1≤x.d∧x.d≤31∧0≤x.h∧x.h≤23∧0≤x.i∧x.i≤59∧0≤x.s∧x.s≤59:=by
 unfold okD at h;simp only[E3,F1]at h;have:=tB x.y x.m;omega
theorem qY(x:Dt)(h1:1≤x.y∧x.y≤9999)(h2:1≤x.m∧x.m≤12)(h3:1≤x.d∧x.d≤31)(h:Heap):Sat (CT G) 226 [x.av] h (fun r h'=>r=.int .i64 (dayP x.y x.m x.d)∧h'=h):=by
 obtain⟨y,m,d,hh,i,s⟩:=x;rw[Dt.av_eq];simp only[]at*;obtain⟨y1,y2⟩:=h1;obtain⟨m1,m2⟩:=h2;obtain⟨d1,d2⟩:=h3;unfold dayP dayM;by_cases c:m<3
 ·have q:decide (m-3<0)=true:=by simp;omega
  have e9:m-3+12=m+9:=by omega
  rw[E8 c];have F:=F3 q @fa @cI
  skip
  refine sb [.tmp 2] Tryz.func226 ?_;intro Q hQ;refine wn F ?_;refine lY (by decide+kernel) (wx G) ?_;refine sq F ?_;refine wn F ?_
  skip
  refine ee hQ F ?_;rw[e9];exact H9 (.int _ _) ⟨rfl,rfl⟩
 ·have q:decide (m-3<0)=false:=by simp;omega
  rw[E4 c];have F:=F3 q @fa @cI
  skip
  refine sb [.tmp 2] Tryz.func226 ?_;intro Q hQ;refine wn F ?_;refine lY (by decide+kernel) (wx G) ?_;refine sq F ?_;refine wn F ?_
  skip
  refine ee hQ F ?_;exact H9 (.int _ _) ⟨rfl,rfl⟩
theorem nY{y m d:Int}(h1:1≤y∧y≤9999)(h2:1≤m∧m≤12)(h3:1≤d∧d≤31): -800000≤dayP y m d∧dayP y m d≤3000000:=by
 unfold dayP dayM;split<;>omega
theorem tC(x:Dt)(h:Heap):Sat (CT G) 221 [x.av] h (fun r h'=>r=.tup [.int .i64 (if okD x then momD x else 0),.int .i64 (if okD x then 0 else 40)]∧h'=h):=by
 have hC:=pC G x;cases hk:okD x with
 |false=>
  rw[hk]at hC;obtain⟨y,m,d,hh,i,s⟩:=x;simp only[Dt.av_eq]at*;refine sb [.tmp 2,.tmp 3] Tryz.func221 ?_;intro Q hQ;refine wk trivial ?_;refine kq trivial (hC _) ?_;refine ee hQ trivial ?_;exact H9 (.tup _ (fun x hx=>by simp only[I2,M5,or_false]at hx;rcases hx with rfl|rfl<;>exact .int _ _)) ⟨rfl,rfl⟩
 |true=>
  rw[hk]at hC;obtain⟨k1,k2,k3,k4,k5,k6,k7,k8,k9,k10,k11,k12⟩:=fb hk;have hD:=qY G x ⟨k1,k2⟩ ⟨k3,k4⟩ ⟨k5,k6⟩;have hb:=nY ⟨k1,k2⟩ ⟨k3,k4⟩ ⟨k5,k6⟩;unfold momD;obtain⟨y,m,d,hh,i,s⟩:=x;simp only[Dt.av_eq]at*;generalize dayP y m d=dd at*;refine sb [.tmp 2,.tmp 3] Tryz.func221 ?_;intro Q hQ;refine wk trivial ?_;refine kq trivial (hC _) ?_;refine af (hD _) ?_;try refine sq trivial ?_
  refine wk trivial ?_;refine ee hQ trivial ?_;exact H9 (.tup _ (fun x hx=>by simp only[I2,M5,or_false]at hx;rcases hx with rfl|rfl<;>exact .int _ _)) ⟨rfl,rfl⟩
theorem lZ{s s':Bs}{b b' c:Bool}{z:Int}(e:(Rdr.mk s b).off c=(z,⟨s',b'⟩))(hs:s.length≤1073741824){H:Heap}{p:Nat}(hg:getRow H p 0=some (188,2,[.agg [.str s,.bool b]])):
  Sat (CT G) 211 [.hp p 0 0 0,.bool c] H (fun r h'=>(r=.int .i64 z∧h'=H.set p (dR s' b'))):=by
 have hp:=al hg;have hgs:∀s b,getRow (H.set p (dR s b)) p 0=some (188,2,[.agg [.str s,.bool b]]):=fun s b=>by rw[bE _ _ _ _ _ hp];rfl
 rcases e1:(Rdr.mk s b).sign [43,45]with⟨sg,s1,b1⟩;rcases e2:(Rdr.mk s1 b1).digits 2 with⟨hh,s2,b2⟩;rcases e3:(Rdr.mk s2 b2).sign [58]with⟨x3,s3,b3⟩;have l1:s1.length≤s.length:=by
  have:=Rdr.sign_le (r:=⟨s,b⟩) (l:=[43,45]);rw[e1]at this;exact this
 have l2:s2.length≤s1.length:=by
  have:=Rdr.digits_le (r:=⟨s1,b1⟩) (w:=2);rw[e2]at this;exact this
 have l3:s3.length≤s2.length:=by
  have:=Rdr.sign_le (r:=⟨s2,b2⟩) (l:=[58]);rw[e3]at this;exact this
 have hb2:=ba e2;have end_:∀(s4:Bs) (b4:Bool) (m:Int),(if c=true then(Rdr.mk s3 b3).digits 2 else(Rdr.mk s2 b2).digits 2)=(m,⟨s4,b4⟩)→z=(if sg=45 then -(3600*hh+60*m)else 3600*hh+60*m)∧s'=s4∧b'=(b4||(decide (hh>23)||decide (m>59))):=by
  intro s4 b4 m hm;unfold Rdr.off at e;simp only[e1,e2,e3]at e;cases c with
  |true=>simp only[if_true]at hm e;rw[hm]at e;cases e;exact⟨rfl,rfl,rfl⟩
  |false=>simp only[G9,if_false]at hm e;rw[hm]at e;cases e;exact⟨rfl,rfl,rfl⟩
 have fin:∀x:Int,Fin H (H.set p (dR s' b')) (fun r h'=>r=.int .i64 x∧h'=H.set p (dR s' b')) (.int .i64 x):=fun x=>aR (fun _=>.int _ _)
 have S1:=dp G e1 hg;have S2:=aP G e2 (by omega) (by omega) (hgs s1 b1);have S3:=dp G e3 (hgs s2 b2);rw[Q9]at S2 S3;have body:∀(s4:Bs) (b4:Bool) (m:Int),(if c=true then(Rdr.mk s3 b3).digits 2 else(Rdr.mk s2 b2).digits 2)=(m,⟨s4,b4⟩)→0≤m→m<100→
   (∀s5 b5,s5=(if c=true then s3 else s2)→b5=(if c=true then b3 else b2)→Sat (CT G) 197 [.hp p 0 0 0,.int .i64 2] (H.set p (dR s5 b5)) (fun r h'=>r=.int .i64 m∧h'=H.set p (dR s4 b4)))→
   Sat (CT G) 211 [.hp p 0 0 0,.bool c] H (fun r h'=>(r=.int .i64 z∧h'=H.set p (dR s' b'))):=by
  intro s4 b4 m hm m0 m1 S4;obtain⟨rfl,rfl,hb'⟩:=end_ s4 b4 m hm;clear end_ hm;have h10:(10:Int)^2=100:=rfl;rw[h10]at hb2;generalize q1:decide (hh>23)=d1 at*;generalize q2:decide (m>59)=d2 at*;have hw:=hgs s' b4;have h3:b4=true∨(b4=false∧d1=true)∨(b4=false∧d1=false):=by cases b4<;>cases d1<;>simp
  by_cases h45:sg=45
  ·rw[E8 h45]at*;have q4:(sg==45)=true:=(by simp[h45]);rcases h3 with rfl| ⟨rfl,rfl⟩| ⟨rfl,rfl⟩<;>cases c<;>(
    simp only[L2,N1]at hb';subst hb';have F:=F6 hg q1 q2 q4 hw (@Q9 Blk);refine sb [.tmp 4] Tryz.func211 ?_;intro Q hQ;refine wk F ?_;refine kq F (S1) ?_;refine kq F (S2) ?_;(try refine kq F (S3) ?_);refine kq F (S4 _ _ rfl rfl) ?_;refine ee hQ F ?_;rw[Int.zero_sub];exact fin _)
  ·rw[E4 h45]at*;have q4:(sg==45)=false:=(by simp[h45]);rcases h3 with rfl| ⟨rfl,rfl⟩| ⟨rfl,rfl⟩<;>cases c<;>(
    simp only[L2,N1]at hb';subst hb';have F:=F6 hg q1 q2 q4 hw (@Q9 Blk);refine sb [.tmp 4] Tryz.func211 ?_;intro Q hQ;refine wk F ?_;refine kq F (S1) ?_;refine kq F (S2) ?_;(try refine kq F (S3) ?_);refine kq F (S4 _ _ rfl rfl) ?_;refine ee hQ F ?_;exact fin _)
 cases c with
 |true=>
  rcases e4:(Rdr.mk s3 b3).digits 2 with⟨m,s4,b4⟩;have hb:=ba e4;have S4:=aP G e4 (by omega) (by omega) (hgs s3 b3);rw[Q9]at S4;exact body s4 b4 m e4 hb.1 hb.2 (fun s5 b5 h5 h6=>by rw[h5,h6];exact S4)
 |false=>
  rcases e4:(Rdr.mk s2 b2).digits 2 with⟨m,s4,b4⟩;have hb:=ba e4;have S4:=aP G e4 (by omega) (by omega) (hgs s2 b2);rw[Q9]at S4;exact body s4 b4 m e4 hb.1 hb.2 (fun s5 b5 h5 h6=>by rw[h5,h6];exact S4)
theorem qZ{s s':Bs}{b b':Bool}{z:Int}(e:(Rdr.mk s b).zone=(z,⟨s',b'⟩))(hs:s.length≤1073741824){H:Heap}{p:Nat}(hg:getRow H p 0=some (188,2,[.agg [.str s,.bool b]])):
  Sat (CT G) 201 [.hp p 0 0 0] H (fun r h'=>(r=.int .i64 z∧h'=H.set p (dR s' b'))):=by
 have hp:=al hg;unfold Rdr.zone at e;by_cases h1:s=[90]
 ·subst h1;rw[E8 (.inl rfl)]at e;cases e;have z:(([90]:Bs)==[90])=true:=rfl;have F:=F2 hg z;refine sb [.tmp 2] Tryz.func201 ?_;intro Q hQ;refine wk F ?_;refine ee hQ F ?_;exact aR (fun _=>.int _ _)
 ·have q1:(s==[90])=false:=by simpa using h1
  by_cases h2:s=[122]
  ·subst h2;rw[E8 (.inr rfl)]at e;cases e;have z:(([122]:Bs)==[122])=true:=rfl;have F:=F3 hg q1 z;refine sb [.tmp 2] Tryz.func201 ?_;intro Q hQ;refine wk F ?_;refine ee hQ F ?_;exact aR (fun _=>.int _ _)
  ·have q2:(s==[122])=false:=(by simpa using h2);rw[E4 (by simp[h1,h2])]at e;have F:=F3 hg q1 q2;refine sb [.tmp 2] Tryz.func201 ?_;intro Q hQ;refine wk F ?_;refine kq F (lZ G e hs hg) ?_;refine ee hQ F ?_;exact aR (fun _=>.int _ _)
theorem Rdr.off_bd{r:Rdr}{c:Bool}: -400000≤(r.off c).1∧(r.off c).1≤400000:=by
 have h10:(10:Int)^2=100:=rfl;have k:∀q:Rdr,0≤(q.digits 2).1∧(q.digits 2).1<100:=fun q=>by
  have:=ba (r:=q) (w:=2) (n:=(q.digits 2).1) (r':=(q.digits 2).2) rfl;rw[h10]at this;exact this
 unfold Rdr.off;simp only[];have a:=k (r.sign [43,45]).2;cases c
 ·have b:=k ((r.sign [43,45]).2.digits 2).2;simp only[G9,if_false];split<;>omega
 ·have b:=k ((((r.sign [43,45]).2.digits 2).2.sign [58]).2);simp only[if_true];split<;>omega
theorem Rdr.zone_bd{r:Rdr}: -400000≤(r.zone).1∧(r.zone).1≤400000:=by
 unfold Rdr.zone;split
 ·omega
 ·exact Rdr.off_bd
theorem uV{x:Dt}(h:okD x=true): -100000000000≤momD x∧momD x≤300000000000:=by
 obtain⟨k1,k2,k3,k4,k5,k6,k7,k8,k9,k10,k11,k12⟩:=fb h;have hb:=nY ⟨k1,k2⟩ ⟨k3,k4⟩ ⟨k5,k6⟩;unfold momD;omega
theorem kj{s:Bs}{b:Bool}(x:Dt)(z:Int)(hz: -400000≤z∧z≤400000){H:Heap}{p:Nat}(hg:getRow H p 0=some (188,2,[.agg [.str s,.bool b]])):
  Sat (CT G) 200 [.hp p 0 0 0,x.av,.int .i64 z] H (fun r h'=>r=.tup [.int .i64 (((Rdr.mk s b).told x z).getD 0),.int .i64 (if ((Rdr.mk s b).told x z).isSome then 0 else 40)]∧h'=H):=by
 have hp:=al hg;have hgj:∀j,getRow (H++j) p 0=some (188,2,[.agg [.str s,.bool b]]):=fun j=>by rw[bp _ hp];exact hg
 have hM:=tC G x;have clo:∀(N:Nat) (a c:Int),Clo N (.tup [.int .i64 a,.int .i64 c]):=fun N a c=>.tup _ (fun x hx=>by simp only[I2,M5,or_false]at hx;rcases hx with rfl|rfl<;>exact .int _ _)
 unfold Rdr.told tellD;simp only[];cases b with
 |true=>
  obtain⟨y,m,d,hh,i,c⟩:=x;simp only[Dt.av_eq,L2,if_true]at*;have F:=hgj;refine sb [.tmp 6,.tmp 7] Tryz.func200 ?_;intro Q hQ;refine wk F ?_;refine kq F (hM _) ?_;refine ee hQ F ?_;exact H9 (clo _ _ _) ⟨rfl,rfl⟩
 |false=>
  by_cases h0:s=[]
  rotate_left
  ·have q0:(s==([]:Bs))=false:=(by simpa using h0);have e0:decide (s≠ [])=true:=(by simpa using h0);rw[e0];obtain⟨y,m,d,hh,i,c⟩:=x;simp only[Dt.av_eq,Bool.or_true,if_true]at*;have F:=F2 hgj q0;refine sb [.tmp 6,.tmp 7] Tryz.func200 ?_;intro Q hQ;refine wk F ?_;refine kq F (hM _) ?_;refine ee hQ F ?_;exact H9 (clo _ _ _) ⟨rfl,rfl⟩
  subst h0;have q0:(([]:Bs)==[])=true:=rfl;have e0:decide (([]:Bs)≠ [])=false:=rfl;rw[e0];cases hk:okD x with
  |false=>
   rw[hk]at hM;obtain⟨y,m,d,hh,i,c⟩:=x;simp only[Dt.av_eq]at*;have F:=F2 hgj q0;refine sb [.tmp 6,.tmp 7] Tryz.func200 ?_;intro Q hQ;refine wk F ?_;refine kq F (hM _) ?_;refine ee hQ F ?_;exact H9 (clo _ _ _) ⟨rfl,rfl⟩
  |true=>
   rw[hk]at hM;have hb:=uV hk;have hW:=bV G (momD x-z) (-62135596800) 253402300799;rw[show(decide (-62135596800≤momD x-z)&&decide (momD x-z≤253402300799))=inM (momD x-z)from rfl]at hW;generalize momD x=n at*;cases hi:inM (n-z)with
   |false=>
    rw[hi]at hW;obtain⟨y,m,d,hh,i,c⟩:=x;simp only[Dt.av_eq]at*;have F:=F2 hgj q0;refine sb [.tmp 6,.tmp 7] Tryz.func200 ?_;intro Q hQ;refine wk F ?_;refine kq F (hM _) ?_;refine kq F (hW _) ?_;refine ee hQ F ?_;exact H9 (clo _ _ _) ⟨rfl,rfl⟩
   |true=>
    rw[hi]at hW;obtain⟨y,m,d,hh,i,c⟩:=x;simp only[Dt.av_eq]at*;have F:=F2 hgj q0;refine sb [.tmp 6,.tmp 7] Tryz.func200 ?_;intro Q hQ;refine wk F ?_;refine kq F (hM _) ?_;refine kq F (hW _) ?_;refine ee hQ F ?_;exact H9 (clo _ _ _) ⟨rfl,rfl⟩
theorem bN(N:Nat)(a:Int)(c:Bool):Clo N (.tup [.int .i64 a,.bool c]):=.tup _ (fun x hx=>by simp only[I2,M5,or_false]at hx;rcases hx with rfl|rfl;exact .int _ _;exact .bool _)
theorem nZ(b:UInt8):∀(s:Bs),∀x∈splF b s,x.length≤s.length
 | [],x,hx=>by rw[splF,K4]at hx;rw[hx];exact G3 _
 |c::s,x,hx=>by
  have ih:=nZ b s;rw[splF]at hx;split at hx
  ·rcases I2.1 hx with rfl|hx
   ·simp
   ·have:=ih x hx;simp;omega
  ·split at hx
   ·rw[K4]at hx;rw[hx];simp
   ·rename_i w l e;rw[e]at ih;rcases I2.1 hx with rfl|hx
    ·have:=ih w (by simp);simp;omega
    ·have:=ih x (by simp[hx]);simp;omega
theorem gW{w:List Bs}{k:Nat}(h:k<w.length):w[k]? =some (w.getD k []):=by
 rw[N0,E6 h];rfl
theorem pF{P:Program}{h:Heap}{T e n i:Nat}{es:List AVal}{k:IntKind}(he:elmT P T=some e)(hn:szOf P e=some n)(hi:i≤es.length):aslice P h T (.sl n es) (some (.int k (i:Int))) none none=some (.sl n (es.drop i)):=by
 simp only[aslice,he,hn,optInt,Option.isNone_none,if_true];rw[E8 ⟨by omega,by omega,by omega⟩];simp
theorem m4(b:UInt8):∀s:Bs,(splF b s).length≤s.length+1
 | []=>by simp[splF]
 |c::s=>by
  have ih:=m4 b s;rw[splF];split
  ·simp;omega
  ·split
   ·simp
   ·rename_i w l e;rw[e]at ih;simp at ih ⊢;omega
theorem re{l:List Bs}{s:Bs}(hn:∀x∈l,x≠s):ixS l s= -1:=by
 have:l.findIdx? (fun x=>decide (x=s))=none:=by
  rw[R2];intro x hx;simpa using hn x hx
 unfold ixS;rw[this]
theorem Rdr.point_le{r:Rdr}:r.point.s.length≤r.s.length:=by
 unfold Rdr.point;split
 ·rename_i h;rw[h];simp;omega
 ·exact G3 _
theorem j6{C:Ctx}{ops:Array Oper}{x:Operand}{i:Nat}{ty:TypeId}{pos:String}{aft:Array Edge}{dst:Option Tmp}{t:Env}{h:Heap}{vs:List AVal}{v:AVal}{K:AVal→Heap→Prop}(hx:aev C.G t x=.tup vs)(hv:vs[i]? =some v)(hk:K v h):
  wpOperV C ops ⟨dst,.extract x i,ty,pos,aft,none⟩ t h K:=by
 show(match aev C.G t x with| .tup vs=>need vs[i]? (K · h)|_=>False);rw[hx];show need vs[i]? (K · h);rw[hv];exact hk
theorem bX(N:Nat)(a c:Int):Clo N (.tup [.int .i64 a,.int .i64 c]):=.tup _ (fun x hx=>by simp only[I2,M5,or_false]at hx;rcases hx with rfl|rfl<;>exact .int _ _)
theorem o0(s:Bs)(hs:s.length≤1073741824)(h:Heap):Sat (CT G) 183 [.str s] h (fun r h'=>r=.tup [.int .i64 ((webP s).getD 0),.int .i64 (if (webP s).isSome then 0 else 40)]∧h'=h):=by
 rcases e1:(Rdr.mk s false).digits 4 with⟨y,s1,b1⟩;rcases e2:(Rdr.mk s1 b1).sign [45]with⟨x2,s2,b2⟩;rcases e3:(Rdr.mk s2 b2).digits 2 with⟨m,s3,b3⟩;rcases e4:(Rdr.mk s3 b3).sign [45]with⟨x4,s4,b4⟩;rcases e5:(Rdr.mk s4 b4).digits 2 with⟨d,s5,b5⟩;rcases e6:(Rdr.mk s5 b5).sign [84,116]with⟨x6,s6,b6⟩;rcases e7:(Rdr.mk s6 b6).digits 2 with⟨hh,s7,b7⟩;rcases e8:(Rdr.mk s7 b7).sign [58]with⟨x8,s8,b8⟩;rcases e9:(Rdr.mk s8 b8).digits 2 with⟨i,s9,b9⟩;rcases e10:(Rdr.mk s9 b9).sign [58]with⟨x10,s10,b10⟩;rcases e11:(Rdr.mk s10 b10).digits 2 with⟨c,s11,b11⟩;rcases e12:(Rdr.mk s11 b11).point with⟨s12,b12⟩;rcases e13:(Rdr.mk s12 b12).zone with⟨z,s13,b13⟩;have ew:webP s=(Rdr.mk s13 b13).told ⟨y,m,d,hh,i,c⟩ z:=by
  unfold webP;simp only[e1,e2,e3,e4,e5,e6,e7,e8,e9,e10,e11,e12,e13]
 have dl:∀{s s':Bs} {b b':Bool} {w:Nat} {n:Int},(Rdr.mk s b).digits w=(n,⟨s',b'⟩)→s'.length≤s.length:=fun {s s' b b' w n} e=>by
  have:=Rdr.digits_le (r:=⟨s,b⟩) (w:=w);rw[e]at this;exact this
 have sl:∀{s s':Bs} {b b':Bool} {l:Bs} {n:Int},(Rdr.mk s b).sign l=(n,⟨s',b'⟩)→s'.length≤s.length:=fun {s s' b b' l n} e=>by
  have:=Rdr.sign_le (r:=⟨s,b⟩) (l:=l);rw[e]at this;exact this
 have l1:=dl e1;have l2:=sl e2;have l3:=dl e3;have l4:=sl e4;have l5:=dl e5;have l6:=sl e6;have l7:=dl e7;have l8:=sl e8;have l9:=dl e9;have l10:=sl e10;have l11:=dl e11;have l12:s12.length≤s11.length:=by
  have:=Rdr.point_le (r:=⟨s11,b11⟩);rw[e12]at this;exact this
 have hz: -400000≤z∧z≤400000:=by
  have:=Rdr.zone_bd (r:=⟨s12,b12⟩);rw[e13]at this;exact this
 have hg:∀(s:Bs) (b:Bool) (j:Heap),getRow (h++dR s b::j) h.length 0=some (188,2,[.agg [.str s,.bool b]]):=fun s b j=>by rw[ck _ rfl];rfl
 have hT:=fun(b:Bool) (s:Bs) (j:Heap)=>kj G (s:=s) (b:=b) ⟨y,m,d,hh,i,c⟩ z hz (hg s b j)
 have hD:∀{s s':Bs} {b b':Bool} {w:Nat} {n:Int},(Rdr.mk s b).digits w=(n,⟨s',b'⟩)→w≤9→s.length≤1073741824→∀j:Heap,Sat (CT G) 197 [.hp h.length 0 0 0,.int .i64 w] (h++dR s b::j) (fun r h'=>r=.int .i64 n∧h'=h++dR s' b'::j):=fun {s s' b b' w n} e hw hl j=>by
  have:=aP G e hw hl (hg s b j);rw[dQ _ rfl,R0]at this;exact this
 have hS:∀{s s':Bs} {b b':Bool} {l:Bs} {n:Int},(Rdr.mk s b).sign l=(n,⟨s',b'⟩)→∀j:Heap,Sat (CT G) 198 [.hp h.length 0 0 0,.str l] (h++dR s b::j) (fun r h'=>r=.int .u8 n∧h'=h++dR s' b'::j):=fun {s s' b b' l n} e j=>by
  have:=dp G e (hg s b j);rw[dQ _ rfl,R0]at this;exact this
 have hP:=fun(j:Heap)=>pA G e12 (by omega) (hg s11 b11 j)
 have hZ:=fun(j:Heap)=>qZ G e13 (by omega) (hg s12 b12 j)
 simp only[dQ _ rfl,R0]at hP hZ;rw[ew];simp only[Dt.av_eq]at hT
 skip
 refine sb [.tmp 2,.tmp 3] Tryz.func183 ?_;intro Q hQ;refine wn trivial ?_;refine kn trivial (hD e1 (by omega) (by omega) _) ?_;refine kn trivial (hS e2 _) ?_;refine kn trivial (hD e3 (by omega) (by omega) _) ?_;refine kn trivial (hS e4 _) ?_;refine kn trivial (hD e5 (by omega) (by omega) _) ?_;refine kn trivial (hS e6 _) ?_;refine kn trivial (hD e7 (by omega) (by omega) _) ?_;refine kn trivial (hS e8 _) ?_;refine kn trivial (hD e9 (by omega) (by omega) _) ?_;refine kn trivial (hS e10 _) ?_;refine kn trivial (hD e11 (by omega) (by omega) _) ?_;refine kn trivial (hP _) ?_;refine ea 7 [3,4,5,6] [true,true,true,false,false,false,false] (.one 3 [false,true] (.one 4 [] (.two 5 [] (.one 6 [] .fin) 6 [] (.one 5 [] .fin)))) (by decide+kernel) (by kernel_rfl) (by decide+kernel) ?_;simp only[eY,eZ,cG];try refine sq trivial ?_
 repeat' ((first|refine bB ?_|refine bC ?_|refine bD ?_ ?_)<;>try refine sq trivial ?_)
 all_goals try refine wn trivial ?_
 repeat' (first
  | (refine(hZ _).mono ?_;rintro r h' ⟨rfl,rfl⟩;try refine sq trivial ?_)
  | (refine(hT _ _ _).mono ?_;rintro r h' ⟨rfl,rfl⟩;try refine sq trivial ?_)
  | (refine j6 (by simp only[go_sem, ↓reduceIte,seval];rfl) (by rfl) ?_;try refine sq trivial ?_)
  | (refine bB ?_;try refine sq trivial ?_)| (refine bC ?_;try refine sq trivial ?_)| (refine bD ?_ ?_<;>try refine sq trivial ?_))
 all_goals try refine wk trivial ?_
 all_goals (
  refine ee hQ trivial ?_;exact H9 (bX _ _ _) ⟨rfl,rfl⟩)
end Go.Av
