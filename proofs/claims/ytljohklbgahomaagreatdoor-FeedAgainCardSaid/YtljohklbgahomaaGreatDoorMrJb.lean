/- Parts. -/
import Derived.Test.YtljohklbgahomaaGreatDoorMrIi
set_option linter.unusedSimpArgs false
set_option linter.unusedVariables false
set_option linter.unusedSectionVars false
set_option linter.unnecessarySimpa false
set_option maxRecDepth 100000
set_option maxHeartbeats 16000000
namespace Go.Av
open Go Go.Proofs Go.RowKit
section
def digB(c:UInt8):Bool:=decide (48≤c.toNat)&&decide (c.toNat≤57)
def numA:Int→Bs→Int
 |n,[]=>n
 |n,c::s=>numA (10*n+((c.toNat:Int)-48)) s
structure Dt where
 y:Int
 m:Int
 d:Int
 h:Int
 i:Int
 s:Int
def leapF(y:Int):Bool:=decide (y%4=0)&&(decide (y%100≠0)||decide (y%400=0))
def daysF(y m:Int):Int:=if y<1∨9999<y∨m<1∨12<m then 0 else if m=2 then(if leapF y then 29 else 28)else if m=4∨m=6∨m=9∨m=11 then 30 else 31
def okD(x:Dt):Bool:=decide (1≤x.d)&&decide (x.d≤daysF x.y x.m)&&decide (0≤x.h)&&decide (x.h≤23)&&decide (0≤x.i)&&decide (x.i≤59)&&decide (0≤x.s)&&decide (x.s≤59)
def dayM(y m d:Int):Int:=146097*(y/400)+365*(y%400)+y%400/4-y%400/100+(153*m+2)/5+d-1-719468
def dayP(y m d:Int):Int:=if m<3 then dayM (y-1) (m+9) d else dayM y (m-3) d
def momD(x:Dt):Int:=86400*dayP x.y x.m x.d+3600*x.h+60*x.i+x.s
def inM(n:Int):Bool:=decide (-62135596800≤n)&&decide (n≤253402300799)
def tellD(x:Dt)(z:Int):Option Int:=if okD x&&inM (momD x-z)then some (momD x-z)else none
structure Rdr where
 s:Bs
 bad:Bool
namespace Rdr
def digits(r:Rdr)(w:Nat):Int×Rdr:=if r.s.length<w then(0,⟨r.s,true⟩)else if (r.s.take w).all digB then(numA 0 (r.s.take w),⟨r.s.drop w,r.bad⟩)else(0,⟨r.s,true⟩)
def sign(r:Rdr)(l:Bs):Int×Rdr:=match r.s with
 | []=>(0,⟨r.s,true⟩)
 |c::t=>if c∈l then((c.toNat:Int),⟨t,r.bad⟩)else(0,⟨r.s,true⟩)
def run(r:Rdr):Nat:=(r.s.takeWhile digB).length
def point(r:Rdr):Rdr:=match r.s with
 |46::t=>let n:=(t.takeWhile digB).length;⟨t.drop n,r.bad|| !(decide (1≤n)&&decide (n≤9))⟩
 |_=>r
def off(r:Rdr)(colon:Bool):Int×Rdr:=
 let (sg,r1):=r.sign [43,45]
 let (h,r2):=r1.digits 2
 let r3:=if colon then(r2.sign [58]).2 else r2
 let (m,r4):=r3.digits 2
 let n:=3600*h+60*m
 (if sg=45 then-n else n,⟨r4.s,r4.bad||(decide (h>23)||decide (m>59))⟩)
def zone(r:Rdr):Int×Rdr:=if r.s=[90]∨r.s=[122]then(0,⟨[],r.bad⟩)else r.off true
def told(r:Rdr)(x:Dt)(z:Int):Option Int:=if r.bad||decide (r.s≠ [])then none else tellD x z
end Rdr
def webP(s:Bs):Option Int:=
 let (y,r1):=(Rdr.mk s false).digits 4
 let r2:=(r1.sign [45]).2
 let (m,r3):=r2.digits 2
 let r4:=(r3.sign [45]).2
 let (d,r5):=r4.digits 2
 let r6:=(r5.sign [84,116]).2
 let (h,r7):=r6.digits 2
 let r8:=(r7.sign [58]).2
 let (i,r9):=r8.digits 2
 let r10:=(r9.sign [58]).2
 let (c,r11):=r10.digits 2
 let (z,r12):=r11.point.zone
 r12.told ⟨y,m,d,h,i,c⟩ z
def num9(s:Bs):Int:=if s.length<1∨9<s.length then-1 else if s.all digB then numA 0 s else-1
def zoneR(sg:UInt8)(h m:Bs):Option Int:=if (sg≠43∧sg≠45)∨h.length≠2∨m.length≠2∨num9 h<0∨23<num9 h∨num9 m<0∨59<num9 m then none else
 some (if sg=45 then -(3600*num9 h+60*num9 m)else 3600*num9 h+60*num9 m)
def restR(x:Dt)(r:Bs):Option Int:=if r=[90]∨r=[122]then tellD x 0 else if r.length≠6∨r.getD 3 0≠58 then none else match zoneR (r.getD 0 0) ((r.drop 1).take 2) (r.drop 4)with
 |none=>none
 |some z=>tellD x z
def pntR(x:Dt)(r:Bs):Option Int:=if r.getD 0 0=46 then(if ((r.drop 1).takeWhile digB).length+1<2∨10<((r.drop 1).takeWhile digB).length+1 then none else restR x (r.drop (((r.drop 1).takeWhile digB).length+1)))else restR x r
def webR(s:Bs):Option Int:=if s.length<20∨s.getD 4 0≠45∨s.getD 7 0≠45∨(s.getD 10 0≠84∧s.getD 10 0≠116)∨s.getD 13 0≠58∨s.getD 16 0≠58 then none else
 pntR ⟨num9 (s.take 4),num9 ((s.drop 5).take 2),num9 ((s.drop 8).take 2),num9 ((s.drop 11).take 2),num9 ((s.drop 14).take 2),num9 ((s.drop 17).take 2)⟩ (s.drop 19)
namespace Rdr
theorem digits_bad{r:Rdr}{w:Nat}(h:r.bad=true):(r.digits w).2.bad=true:=by
 unfold digits;split
 ·rfl
 ·split
  ·exact h
  ·rfl
theorem sign_bad{r:Rdr}{l:Bs}(h:r.bad=true):(r.sign l).2.bad=true:=by
 unfold sign;split
 ·rfl
 ·split
  ·exact h
  ·rfl
theorem point_bad{r:Rdr}(h:r.bad=true):r.point.bad=true:=by
 unfold point;split
 ·simp[h]
 ·exact h
theorem off_of{r:Rdr}{c:Bool}(h:(r.sign [43,45]).2.bad=true):(r.off c).2.bad=true:=by
 unfold off;cases c
 ·show((((r.sign [43,45]).2.digits 2).2.digits 2).2.bad||_)=true;rw[digits_bad (digits_bad h)];rfl
 ·show((((((r.sign [43,45]).2.digits 2).2.sign [58]).2).digits 2).2.bad||_)=true;rw[digits_bad (sign_bad (digits_bad h))];rfl
theorem uS{r:Rdr}{c:Bool}(h:r.bad=true):(r.off c).2.bad=true:=off_of (sign_bad h)
theorem zone_bad{r:Rdr}(h:r.bad=true):r.zone.2.bad=true:=by
 unfold zone;split
 ·exact h
 ·exact uS h
theorem told_bad{r:Rdr}{x:Dt}{z:Int}(h:r.bad=true):r.told x z=none:=by unfold told;simp[h]
theorem zone_nil{r:Rdr}(h:r.s=[]):r.zone.2.bad=true:=by
 unfold zone;rw[h];rw[E4 (by simp)];have:(r.sign [43,45]).2.bad=true:=by unfold sign;rw[h]
 exact off_of this
theorem digits_le{r:Rdr}{w:Nat}:(r.digits w).2.s.length≤r.s.length:=by
 unfold digits;split
 ·exact G3 _
 ·split
  ·simp
  ·exact G3 _
theorem digits_len{r:Rdr}{w:Nat}(h:(r.digits w).2.bad=false):r.bad=false∧r.s.length=(r.digits w).2.s.length+w:=by
 unfold digits at h ⊢;split at h
 ·cases h
 ·rename_i hl;rw[E4 hl];split at h
  ·rename_i ha;rw[E8 ha];exact⟨h,by simp;omega⟩
  ·cases h
theorem sign_le{r:Rdr}{l:Bs}:(r.sign l).2.s.length≤r.s.length:=by
 unfold sign;split
 ·rename_i e;rw[e];exact G3 _
 ·rename_i e;rw[e];split
  ·simp
  ·exact G3 _
theorem sign_len{r:Rdr}{l:Bs}(h:(r.sign l).2.bad=false):r.bad=false∧r.s.length=(r.sign l).2.s.length+1:=by
 unfold sign at h ⊢;split at h
 ·cases h
 ·rename_i c t e;rw[e];split at h
  ·rename_i hc;simp only[hc,if_true];exact⟨h,by simp⟩
  ·cases h
end Rdr
theorem ir{x:Dt}{z:Int}(h:okD x=false):tellD x z=none:=by unfold tellD;rw[h];rfl
theorem lM{x:Dt}{r:Bs}(h:okD x=false):restR x r=none:=by
 unfold restR;split
 ·exact ir h
 ·split
  ·rfl
  ·split
   ·rfl
   ·exact ir h
theorem dP{x:Dt}{r:Bs}(h:okD x=false):pntR x r=none:=by
 unfold pntR;split
 ·split
  ·rfl
  ·exact lM h
 ·exact lM h
theorem bJ{s:Bs}(h1:1≤s.length)(h9:s.length≤9):num9 s=if s.all digB then numA 0 s else-1:=by unfold num9;rw[E4 (by omega)]
theorem uu{x:Dt}(h:x.y= -1):okD x=false:=by unfold okD daysF;simp[h];omega
theorem yy{x:Dt}(h:x.m= -1):okD x=false:=by unfold okD daysF;simp[h];omega
theorem pn{x:Dt}(h:x.d= -1):okD x=false:=by unfold okD;simp[h]
theorem yz{x:Dt}(h:x.h= -1):okD x=false:=by unfold okD;simp[h]
theorem yA{x:Dt}(h:x.i= -1):okD x=false:=by unfold okD;simp[h]
theorem yB{x:Dt}(h:x.s= -1):okD x=false:=by unfold okD;simp[h]
theorem wq(t:Bs):(t.takeWhile digB).length≤t.length:=by
 have:=H6 List.length (M8 (p:=digB) (l:=t));rw[E5]at this;omega
theorem ws{x:Dt}(r:Bs)(h1:¬(r=[90]∨r=[122])):((Rdr.mk r false).off true).2.told x ((Rdr.mk r false).off true).1=restR x r:=by
 unfold restR;rw[E4 h1];by_cases hl:r.length=6
 ·match r,hl with
  | [a,b,c,d,e,f],_=>
  have n2:∀u v:UInt8,num9 [u,v]=if digB u&&digB v then numA 0 [u,v]else-1:=fun u v=>by rw[bJ (by simp) (by simp)];simp
  by_cases hd:d=58
  ·rw[E4 (by simp[hd])];simp only[J7,N6,N8,J3,L3];by_cases ha:a=43∨a=45
   ·by_cases hbc:(digB b&&digB c)=true
    ·by_cases hef:(digB e&&digB f)=true
     ·have q1:0≤numA 0 [b,c]:=by
       simp only[digB,E3,F1]at hbc;simp[numA];omega
      have q2:0≤numA 0 [e,f]:=by
       simp only[digB,E3,F1]at hef;simp[numA];omega
      have ht:((Rdr.mk [a,b,c,d,e,f] false).off true)=(if a=45 then -(3600*numA 0 [b,c]+60*numA 0 [e,f])else 3600*numA 0 [b,c]+60*numA 0 [e,f],⟨[],decide (numA 0 [b,c]>23)||decide (numA 0 [e,f]>59)⟩):=by
       have e45:((a.toNat:Int)=45)↔a=45:=⟨fun h=>UInt8.toNat_inj.1 (by simpa using(by omega:a.toNat=45)),fun h=>by rw[h];rfl⟩
       rcases ha with rfl|rfl<;>simp[Rdr.off,Rdr.sign,Rdr.digits,hd,hbc,hef]
      rw[ht];unfold zoneR Rdr.told;rw[n2,n2,E8 hbc,E8 hef];by_cases h23:23<numA 0 [b,c]
      ·simp[h23]
      ·by_cases h59:59<numA 0 [e,f]
       ·simp[h59]
       ·have hz1:¬numA 0 [b,c]<0:=(by omega);have hz2:¬numA 0 [e,f]<0:=(by omega);rcases ha with rfl|rfl<;>simp[h23,h59,hz1,hz2]
     ·have hb:((Rdr.mk [a,b,c,d,e,f] false).off true).2.bad=true:=by
       unfold Rdr.off;rcases ha with rfl|rfl<;>simp[Rdr.sign,Rdr.digits,hd,hbc,hef]
      rw[Rdr.told_bad hb];unfold zoneR;rw[n2 e f,E4 hef,E8 (by simp)]
    ·have hb:((Rdr.mk [a,b,c,d,e,f] false).off true).2.bad=true:=by
      unfold Rdr.off;have:((Rdr.mk [a,b,c,d,e,f] false).sign [43,45]).2=⟨[b,c,d,e,f],false⟩:=by rcases ha with rfl|rfl<;>simp[Rdr.sign]
      have h2:((Rdr.mk [b,c,d,e,f] false).digits 2).2.bad=true:=(by simp[Rdr.digits,hbc]);simp only[this,if_true];rw[Rdr.digits_bad (Rdr.sign_bad h2)];rfl
     rw[Rdr.told_bad hb];unfold zoneR;rw[n2 b c,E4 hbc,E8 (by simp)]
   ·have hb:((Rdr.mk [a,b,c,d,e,f] false).off true).2.bad=true:=by
     exact Rdr.off_of (by simp[Rdr.sign,ha])
    rw[Rdr.told_bad hb];unfold zoneR;rw[E8 (.inl (by simpa using ha))]
  ·rw[E8 (.inr (by simpa using hd))];refine Rdr.told_bad ?_;cases hb:((Rdr.mk [a,b,c,d,e,f] false).off true).2.bad with
   |true=>rfl
   |false=>
    exfalso;unfold Rdr.off at hb;simp only[if_true,P9]at hb;obtain⟨g1,_⟩:=Rdr.digits_len hb.1;have g2:=g1;unfold Rdr.sign at g2;obtain⟨g3,_⟩:=Rdr.sign_len g1;obtain⟨g4,_⟩:=Rdr.digits_len g3;have s1:((Rdr.mk [a,b,c,d,e,f] false).sign [43,45]).2=⟨[b,c,d,e,f],false⟩:=by
     unfold Rdr.sign at g4 ⊢;simp only[]at g4 ⊢;split at g4
     ·rename_i h;rw[E8 h]
     ·cases g4
    rw[s1]at g1 g3;have s2:((Rdr.mk [b,c,d,e,f] false).digits 2).2=⟨[d,e,f],false⟩:=by
     unfold Rdr.digits at g3 ⊢;simp only[E2,E9]at g3 ⊢;rw[E4 (by omega)]at g3 ⊢;split at g3
     ·rename_i h;rw[E8 h];rfl
     ·cases g3
    rw[s2]at g1;simp[Rdr.sign,hd]at g1
 ·rw[E8 (.inl hl)];unfold Rdr.told;split
  ·rfl
  ·rename_i hb;exfalso;simp only[K1,not_or,Bool.not_eq_true,decide_eq_false_iff_not,R9]at hb;obtain⟨hb,he⟩:=hb;have he:((Rdr.mk r false).off true).2.s=[]:=(by simpa using he);unfold Rdr.off at hb he;simp only[if_true,P9]at hb he;obtain⟨g1,l1⟩:=Rdr.digits_len hb.1;obtain⟨g3,l3⟩:=Rdr.sign_len g1;obtain⟨g4,l4⟩:=Rdr.digits_len g3;obtain⟨g5,l5⟩:=Rdr.sign_len g4;have:=H6 List.length he;rw[E9]at this;have l5:r.length=_:=l5;omega
theorem jv{x:Dt}(r:Bs):((Rdr.mk r false).zone).2.told x ((Rdr.mk r false).zone).1=restR x r:=by
 unfold Rdr.zone;by_cases h:r=[90]∨r=[122]
 ·rw[E8 h];unfold restR;rw[E8 h];simp[Rdr.told]
 ·rw[E4 h];exact ws r h
theorem wt{x:Dt}(r:Bs):((Rdr.mk r false).point.zone).2.told x ((Rdr.mk r false).point.zone).1=pntR x r:=by
 unfold pntR;cases r with
 |nil=>exact jv []
 |cons c t=>
  by_cases hc:c=46
  ·subst hc;simp only[J7,if_true,N6,N8];have hp:(Rdr.mk (46::t) false).point=⟨t.drop (t.takeWhile digB).length, !(decide (1≤(t.takeWhile digB).length)&&decide ((t.takeWhile digB).length≤9))⟩:=(by simp[Rdr.point]);rw[hp];generalize (t.takeWhile digB).length=n;by_cases hn:1≤n∧n≤9
   ·rw[E4 (by omega)];have:(!(decide (1≤n)&&decide (n≤9)))=false:=by simp[hn.1,hn.2]
    rw[this];exact jv _
   ·rw[E8 (by omega)];refine Rdr.told_bad (Rdr.zone_bad ?_);show(!(decide (1≤n)&&decide (n≤9)))=true;by_cases a:1≤n<;>simp[a];omega
  ·have hp:(Rdr.mk (c::t) false).point=⟨c::t,false⟩:=by
    unfold Rdr.point;split
    ·rename_i e;simp only[Q6]at e;exact absurd e.1 hc
    ·rfl
   rw[hp,E4 (by simpa using hc)];exact jv _
theorem qN(a b:UInt8)(t:Bs)(k:Bool):(Rdr.mk (a::b::t) k).digits 2=if (digB a&&digB b)=true then(numA 0 [a,b],⟨t,k⟩)else(0,⟨a::b::t,true⟩):=by
 unfold Rdr.digits;rw[E4 (by simp)];simp only[J3,L3,N6,N8,P2,List.all_nil,S7]
theorem Dk(a b c d:UInt8)(t:Bs)(k:Bool):(Rdr.mk (a::b::c::d::t) k).digits 4=if (digB a&&(digB b&&(digB c&&digB d)))=true then(numA 0 [a,b,c,d],⟨t,k⟩)else(0,⟨a::b::c::d::t,true⟩):=by
 unfold Rdr.digits;rw[E4 (by simp)];simp only[J3,L3,N6,N8,P2,List.all_nil,S7]
theorem fZ(a:UInt8)(t l:Bs)(k:Bool):(Rdr.mk (a::t) k).sign l=if a∈l then((a.toNat:Int),⟨t,k⟩)else(0,⟨a::t,true⟩):=rfl
theorem fB{a b:UInt8}(h:¬(digB a&&digB b)=true):num9 [a,b]= -1:=by
 rw[bJ (by simp) (by simp),E4 (by simpa using h)]
theorem fC{a b:UInt8}(h:(digB a&&digB b)=true):num9 [a,b]=numA 0 [a,b]:=by
 rw[bJ (by simp) (by simp),E8 (by simpa using h)]
theorem yC{a b c d:UInt8}(h:¬(digB a&&(digB b&&(digB c&&digB d)))=true):num9 [a,b,c,d]= -1:=by
 rw[bJ (by simp) (by simp),E4 (by simpa using h)]
theorem aG{s:Bs}{n:Nat}(h:n+1≤s.length):∃b t,s=b::t∧n≤t.length:=by
 cases s with
 |nil=>simp at h
 |cons b t=>exact⟨b,t,rfl,by simpa using h⟩
theorem j0(s:Bs):webP s=webR s:=by
 by_cases hl:20≤s.length
 ·obtain⟨b0,s,rfl,k0⟩:=aG hl;obtain⟨b1,s,rfl,k1⟩:=aG k0;obtain⟨b2,s,rfl,k2⟩:=aG k1;obtain⟨b3,s,rfl,k3⟩:=aG k2;obtain⟨b4,s,rfl,k4⟩:=aG k3;obtain⟨b5,s,rfl,k5⟩:=aG k4;obtain⟨b6,s,rfl,k6⟩:=aG k5;obtain⟨b7,s,rfl,k7⟩:=aG k6;obtain⟨b8,s,rfl,k8⟩:=aG k7;obtain⟨b9,s,rfl,k9⟩:=aG k8;obtain⟨b10,s,rfl,k10⟩:=aG k9;obtain⟨b11,s,rfl,k11⟩:=aG k10;obtain⟨b12,s,rfl,k12⟩:=aG k11;obtain⟨b13,s,rfl,k13⟩:=aG k12;obtain⟨b14,s,rfl,k14⟩:=aG k13;obtain⟨b15,s,rfl,k15⟩:=aG k14;obtain⟨b16,s,rfl,k16⟩:=aG k15;obtain⟨b17,s,rfl,k17⟩:=aG k16;obtain⟨b18,s,rfl,k18⟩:=aG k17;obtain⟨b19,t,rfl,k19⟩:=aG k18;have hr:webR (b0::b1::b2::b3::b4::b5::b6::b7::b8::b9::b10::b11::b12::b13::b14::b15::b16::b17::b18::b19::t)=
    if b4=45∧b7=45∧(b10=84∨b10=116)∧b13=58∧b16=58 then pntR ⟨num9 [b0,b1,b2,b3],num9 [b5,b6],num9 [b8,b9],num9 [b11,b12],num9 [b14,b15],num9 [b17,b18]⟩ (b19::t)else none:=by
   unfold webR;simp only[E2,J7,M3,N6,N8,J3,L3];by_cases c:b4=45∧b7=45∧(b10=84∨b10=116)∧b13=58∧b16=58
   ·rw[E8 c,E4];obtain⟨c1,c2,c3,c4,c5⟩:=c;subst c1;subst c2;subst c4;subst c5;rcases c3 with rfl|rfl<;>simp<;>omega
   ·rw[E4 c,E8];refine I8 fun hc=>c ?_
    simp only[not_or,R9,not_and]at hc;refine⟨hc.2.1,hc.2.2.1,?_,hc.2.2.2.2.1,hc.2.2.2.2.2⟩;by_cases hb:b10=84
    ·exact .inl hb
    ·exact .inr (hc.2.2.2.1 hb)
  rw[hr];generalize b19::t=r;clear hr;simp only[webP];rw[Dk];by_cases g1:(digB b0&&(digB b1&&(digB b2&&digB b3)))=true
  rotate_left
  ·rw[E4 g1,Rdr.told_bad (by simp(maxDischargeDepth:=30) [Rdr.zone_bad,Rdr.point_bad,Rdr.digits_bad,Rdr.sign_bad])];split
   ·exact(dP (uu (yC g1))).symm
   ·rfl
  rw[E8 g1];simp only[fZ];by_cases g2:b4=45
  rotate_left
  ·rw[E4 (by simpa using g2),E4 (by simp[g2]),Rdr.told_bad (by simp(maxDischargeDepth:=30) [Rdr.zone_bad,Rdr.point_bad,Rdr.digits_bad,Rdr.sign_bad])]
  rw[E8 (by simpa using g2)];simp only[qN];by_cases g3:(digB b5&&digB b6)=true
  rotate_left
  ·rw[E4 g3,Rdr.told_bad (by simp(maxDischargeDepth:=30) [Rdr.zone_bad,Rdr.point_bad,Rdr.digits_bad,Rdr.sign_bad])];split
   ·exact(dP (yy (fB g3))).symm
   ·rfl
  rw[E8 g3];simp only[fZ];by_cases g4:b7=45
  rotate_left
  ·rw[E4 (by simpa using g4),E4 (by simp[g4]),Rdr.told_bad (by simp(maxDischargeDepth:=30) [Rdr.zone_bad,Rdr.point_bad,Rdr.digits_bad,Rdr.sign_bad])]
  rw[E8 (by simpa using g4)];simp only[qN];by_cases g5:(digB b8&&digB b9)=true
  rotate_left
  ·rw[E4 g5,Rdr.told_bad (by simp(maxDischargeDepth:=30) [Rdr.zone_bad,Rdr.point_bad,Rdr.digits_bad,Rdr.sign_bad])];split
   ·exact(dP (pn (fB g5))).symm
   ·rfl
  rw[E8 g5];simp only[fZ];by_cases g6:b10=84∨b10=116
  rotate_left
  ·rw[E4 (by simpa using g6),E4 (by simp[g6]),Rdr.told_bad (by simp(maxDischargeDepth:=30) [Rdr.zone_bad,Rdr.point_bad,Rdr.digits_bad,Rdr.sign_bad])]
  rw[E8 (by simpa using g6)];simp only[qN];by_cases g7:(digB b11&&digB b12)=true
  rotate_left
  ·rw[E4 g7,Rdr.told_bad (by simp(maxDischargeDepth:=30) [Rdr.zone_bad,Rdr.point_bad,Rdr.digits_bad,Rdr.sign_bad])];split
   ·exact(dP (yz (fB g7))).symm
   ·rfl
  rw[E8 g7];simp only[fZ];by_cases g8:b13=58
  rotate_left
  ·rw[E4 (by simpa using g8),E4 (by simp[g8]),Rdr.told_bad (by simp(maxDischargeDepth:=30) [Rdr.zone_bad,Rdr.point_bad,Rdr.digits_bad,Rdr.sign_bad])]
  rw[E8 (by simpa using g8)];simp only[qN];by_cases g9:(digB b14&&digB b15)=true
  rotate_left
  ·rw[E4 g9,Rdr.told_bad (by simp(maxDischargeDepth:=30) [Rdr.zone_bad,Rdr.point_bad,Rdr.digits_bad,Rdr.sign_bad])];split
   ·exact(dP (yA (fB g9))).symm
   ·rfl
  rw[E8 g9];simp only[fZ];by_cases g10:b16=58
  rotate_left
  ·rw[E4 (by simpa using g10),E4 (by simp[g10]),Rdr.told_bad (by simp(maxDischargeDepth:=30) [Rdr.zone_bad,Rdr.point_bad,Rdr.digits_bad,Rdr.sign_bad])]
  rw[E8 (by simpa using g10)];simp only[qN];by_cases g11:(digB b17&&digB b18)=true
  rotate_left
  ·rw[E4 g11,Rdr.told_bad (by simp(maxDischargeDepth:=30) [Rdr.zone_bad,Rdr.point_bad,Rdr.digits_bad,Rdr.sign_bad])];split
   ·exact(dP (yB (fB g11))).symm
   ·rfl
  rw[E8 g11,E8 ⟨g2,g4,g6,g8,g10⟩,fC g3,fC g5,fC g7,fC g9,fC g11,bJ (by simp) (by simp),E8 (by simpa using g1)];exact wt r
 ·have h2:webR s=none:=by unfold webR;rw[E8 (.inl (by omega))]
  rw[h2];simp only[webP];refine Rdr.told_bad (I8 fun hb=>?_);have nb:∀{b:Bool},b≠true→b=false:=fun {b}=>by cases b<;>simp
  have lst:∀{r:Rdr},r.point.zone.2.bad≠true→r.bad=false∧1≤r.s.length:=fun {r} hb=>by
   refine⟨nb fun h=>hb (Rdr.zone_bad (Rdr.point_bad h)),?_⟩;cases h:r.s with
   |nil=>
    refine absurd (Rdr.zone_nil ?_) hb;unfold Rdr.point;rw[h];exact h
   |cons a b=>simp
  obtain⟨f11,l11⟩:=lst hb;obtain⟨f10,k11⟩:=Rdr.digits_len f11;obtain⟨f9,k10⟩:=Rdr.sign_len f10;obtain⟨f8,k9⟩:=Rdr.digits_len f9;obtain⟨f7,k8⟩:=Rdr.sign_len f8;obtain⟨f6,k7⟩:=Rdr.digits_len f7;obtain⟨f5,k6⟩:=Rdr.sign_len f6;obtain⟨f4,k5⟩:=Rdr.digits_len f5;obtain⟨f3,k4⟩:=Rdr.sign_len f4;obtain⟨f2,k3⟩:=Rdr.digits_len f3;obtain⟨f1,k2⟩:=Rdr.sign_len f2;obtain⟨_,k1⟩:=Rdr.digits_len f1;have k0:(Rdr.mk s false).s.length=s.length:=rfl;omega
def stY(y:Int):Int:=365*y+y/4-y/100
def gY(o:Int):Int:=o-o/1460+o/36524
theorem gU{a b:Int}(h0:0≤a)(h:a≤b):gY a≤gY b:=by
 unfold gY;have h1:a-a/1460≤b-b/1460:=by omega
 have h2:a/36524≤b/36524:=by omega
 omega
theorem pp:∀y:Nat,y<400→365*(y:Int)≤gY (stY y)∧(y<399→gY (stY (y+1)-1)<365*((y:Int)+1))∧(y=399→gY 146095<365*((y:Int)+1)):=by decide+kernel
theorem nR(o:Int)(h0:0≤o)(h1:o≤146096)(y:Int)(hy:y=(o-o/1460+o/36524-o/146096)/365):0≤y∧y≤399∧stY y≤o∧(o<stY (y+1)∨(y=399∧o=146096)):=by
 by_cases hc:o=146096
 ·subst hc;subst hy;decide
 have c0:o/146096=0:=by omega
 rw[c0,Int.sub_zero]at hy
 change y=gY o/365 at hy
 have hlo:0≤gY o:=gU (a:=0) (by decide) h0;have hhi:gY o<365*400:=Int.lt_of_le_of_lt (gU h0 (by omega:o≤146095)) (by decide);have hy0:0≤y∧y≤399:=by omega
 obtain⟨k,rfl⟩:∃k:Nat,y=k:=⟨y.toNat,by omega⟩;obtain⟨a1,a2,a3⟩:=pp k (by omega);refine⟨hy0.1,hy0.2,?_,?_⟩
 ·by_cases h:stY k≤o
  ·exact h
  ·exfalso;cases k with
   |zero=>unfold stY at h;omega
   |succ j=>
    obtain⟨b1,b2,b3⟩:=pp j (by omega);have b2:=b2 (by omega);have hs:stY ((j+1:Nat):Int)=stY ((j:Int)+1):=(by congr 1);rw[hs]at h;have:=gU h0 (by omega:o≤stY ((j:Int)+1)-1);omega
 ·left;by_cases h:o<stY ((k:Int)+1)
  ·exact h
  ·exfalso;by_cases hk:k=399
   ·subst hk;have:stY ((399:Nat)+1:Int)=146096:=by decide
    omega
   ·obtain⟨b1,b2,b3⟩:=pp (k+1) (by omega);have hs:stY ((k+1:Nat):Int)=stY ((k:Int)+1):=(by congr 1);rw[hs]at b1;have:=gU (a:=stY ((k:Int)+1)) (by unfold stY;omega) (by omega:stY ((k:Int)+1)≤o);omega
def ofP(n:Int):Dt:=
 let w:=n+62135596800
 let k:=w/86400+306
 let o:=k%146097
 let y:=(o-o/1460+o/36524-o/146096)/365
 let i:=o-stY y
 let m:=(5*i+2)/153
 ⟨if 12<m+3 then y+400*(k/146097)+1 else y+400*(k/146097),if 12<m+3 then m-9 else m+3,i-(153*m+2)/5+1,w%86400/3600,w%86400/60%60,w%86400%60⟩
theorem tj{y:Int}(h:y%4=0∧(y%100≠0∨y%400=0)):leapF y=true:=by
 unfold leapF;rw[E3,K1,F1,F1,F1];exact h
theorem lN{y m:Int}(h1:1≤y)(h2:y≤9999)(h3:1≤m)(h4:m≤12):daysF y m=if m=2 then(if leapF y then 29 else 28)else if m=4∨m=6∨m=9∨m=11 then 30 else 31:=by
 unfold daysF;rw[E4 (by omega)]
def dtC(y e m i w:Int):Dt:=⟨if 12<m+3 then y+400*e+1 else y+400*e,if 12<m+3 then m-9 else m+3,i-(153*m+2)/5+1,w%86400/3600,w%86400/60%60,w%86400%60⟩
theorem wu{n w k o e y i m:Int}(hn1: -62135596800≤n)(hn2:n≤253402300799)(hw:w=n+62135596800)(hk:k=w/86400+306)(he:e=k/146097)(ho:o=k%146097)(hy:y=(o-o/1460+o/36524-o/146096)/365)(hi:i=o-stY y)(hm:m=(5*i+2)/153):
  okD (dtC y e m i w)=true∧momD (dtC y e m i w)=n:=by
 have hk0:306≤k∧k≤3652364:=by omega
 have ho0:0≤o∧o≤146096:=by omega
 have hke:k=146097*e+o:=by omega
 obtain⟨y1,y2,y3,y4⟩:=nR o ho0.1 ho0.2 y hy;clear hy;have hi0:0≤i∧i≤365∧(i=365→(y+1)%4=0∧((y+1)%100≠0∨(y+1)%400=0)):=by
  unfold stY at y3 y4 hi;have f1:(y+1)/4≤y/4+1:=by omega
  have f2:y/100≤(y+1)/100:=by omega
  have f3:(y+1)/4=y/4+1→(y+1)%4=0:=by omega
  have f4:(y+1)/100=y/100→(y+1)%100≠0:=by omega
  refine⟨by omega,?_,?_⟩
  ·rcases y4 with y4| ⟨y4,y5⟩
   ·omega
   ·subst y4;subst y5;omega
  ·intro h365;rcases y4 with y4| ⟨y4,y5⟩
   ·exact⟨f3 (by omega),.inl (f4 (by omega))⟩
   ·subst y4;decide
 have hm0:0≤m∧m≤11:=by omega
 have hdm:dayM (y+400*e) m (i-(153*m+2)/5+1)=k-719468:=by
  unfold dayM;have a1:(y+400*e)/400=e:=by omega
  have a2:(y+400*e)%400=y:=by omega
  rw[a1,a2];unfold stY at hi;omega
 have ht:3600*(w%86400/3600)+60*(w%86400/60%60)+w%86400%60=w%86400∧0≤w%86400/3600∧w%86400/3600≤23∧0≤w%86400/60%60∧w%86400/60%60≤59∧0≤w%86400%60∧w%86400%60≤59:=by omega
 obtain⟨t0,t1,t2,t3,t4,t5,t6⟩:=ht;have hs0:stY 0=0:=rfl;have hs9:stY 399=145731:=by decide
 by_cases c:12<m+3
 ·have hd:dtC y e m i w=⟨y+400*e+1,m-9,i-(153*m+2)/5+1,w%86400/3600,w%86400/60%60,w%86400%60⟩:=by unfold dtC;rw[E8 c,E8 c]
  rw[hd];have hT:∀x:Dt,okD x=(decide (1≤x.d)&&decide (x.d≤daysF x.y x.m)&&decide (0≤x.h)&&decide (x.h≤23)&&decide (0≤x.i)&&decide (x.i≤59)&&decide (0≤x.s)&&decide (x.s≤59)):=fun _=>rfl
  have yb:1≤y+400*e+1∧y+400*e+1≤9999:=by
   refine⟨by omega,?_⟩;by_cases hc:y+400*e+1≤9999
   ·exact hc
   ·exfalso;have:y=399∧e=24:=by omega
    obtain⟨rfl,rfl⟩:=this;rw[hs9]at hi;omega
  have dd:1≤i-(153*m+2)/5+1∧i-(153*m+2)/5+1≤daysF (y+400*e+1) (m-9):=by
   rw[lN yb.1 yb.2 (by omega) (by omega)];have:m=10∨m=11:=by omega
   rcases this with rfl|rfl
   ·rw[E4 (by decide),E4 (by decide)];omega
   ·rw[E8 (by decide)];by_cases hl:leapF (y+400*e+1)=true
    ·rw[E8 hl];omega
    ·rw[E4 hl];have:i≠365:=fun h365=>hl (tj (by have:=hi0.2.2 h365;omega))
     omega
  constructor
  ·rw[hT];simp only[];rw[G4 dd.1,G4 dd.2,G4 t1,G4 t2,G4 t3,G4 t4,G4 t5,G4 t6];rfl
  ·unfold momD dayP;simp only[];rw[E8 (by omega)];have e1:y+400*e+1-1=y+400*e:=(by omega);have e2:m-9+9=m:=(by omega);rw[e1,e2,hdm];omega
 ·have hd:dtC y e m i w=⟨y+400*e,m+3,i-(153*m+2)/5+1,w%86400/3600,w%86400/60%60,w%86400%60⟩:=by unfold dtC;rw[E4 c,E4 c]
  rw[hd];have hT:∀x:Dt,okD x=(decide (1≤x.d)&&decide (x.d≤daysF x.y x.m)&&decide (0≤x.h)&&decide (x.h≤23)&&decide (0≤x.i)&&decide (x.i≤59)&&decide (0≤x.s)&&decide (x.s≤59)):=fun _=>rfl
  have yb:1≤y+400*e∧y+400*e≤9999:=by
   refine⟨?_,by omega⟩;by_cases hc:1≤y+400*e
   ·exact hc
   ·exfalso;have:y=0∧e=0:=by omega
    obtain⟨rfl,rfl⟩:=this;rw[hs0]at hi;omega
  have dd:1≤i-(153*m+2)/5+1∧i-(153*m+2)/5+1≤daysF (y+400*e) (m+3):=by
   rw[lN yb.1 yb.2 (by omega) (by omega)];rw[E4 (by omega)];split<;>omega
  constructor
  ·rw[hT];simp only[];rw[G4 dd.1,G4 dd.2,G4 t1,G4 t2,G4 t3,G4 t4,G4 t5,G4 t6];rfl
  ·unfold momD dayP;simp only[];rw[E4 (by omega)];have e2:m+3-3=m:=(by omega);rw[e2,hdm];omega
theorem j1{n:Int}(h:inM n=true):okD (ofP n)=true∧momD (ofP n)=n:=by
 unfold inM at h;simp only[E3,F1]at h;exact wu h.1 h.2 rfl rfl rfl rfl rfl rfl rfl
theorem fD(s:Bs)(k:Nat):dec s k=dec (s.drop k) 0:=by
 rw[eA,eA];simp only[N0,K5,K9,Q2,J6,Nat.sub_zero,Nat.add_assoc]
theorem lO(s:Bs)(k:Nat)(h:k<s.length):Rune (dec s k).1:=by
 have hb:=E6 h;by_cases ha:s[k].toNat<128
 ·rw[dm s k _ hb ha];exact⟨by simp,by simp;omega⟩
 ·obtain⟨h1,h2,_⟩:=fw s k _ hb (by omega);exact⟨by omega,by omega⟩
def runesN:Nat→Bs→List Int
 |0,_=>[]
 |f+1,s=>if s=[]then []else((dec s 0).1:Int)::runesN f (s.drop (dec s 0).2)
def runesF(s:Bs):List Int:=runesN s.length s
theorem mX:∀(f:Nat) (s:Bs),s.length≤f→runesN f s=runesN s.length s:=by
 intro f;induction f using Nat.strongRecOn with
 |ind f ih=>
  intro s hs;cases s with
  |nil=>cases f<;>rfl
  |cons b t=>
   obtain⟨f,rfl⟩:∃g,f=g+1:=⟨f-1,by simp at hs;omega⟩;have hd:=aW (b::t) 0 (by simp);simp only[E2]at hs hd ⊢;rw[runesN,runesN,E4 (by simp),E4 (by simp)];have hl:((b::t).drop (dec (b::t) 0).2).length≤t.length:=(by simp only[K9,E2];omega);rw[ih f (by omega) _ (by omega)];by_cases hf:t.length=f
   ·subst hf;rw[ih t.length (by omega) _ hl]
   ·rw[ih t.length (by omega) _ hl]
theorem dK:runesF []=[]:=rfl
theorem d8(s:Bs)(h:s≠ []):runesF s=((dec s 0).1:Int)::runesF (s.drop (dec s 0).2):=by
 have hl:0<s.length:=M7.2 h;have hd:=aW s 0 hl;unfold runesF;obtain⟨n,hn⟩:∃n,s.length=n+1:=⟨s.length-1,by omega⟩;rw[hn,runesN,E4 h,mX n _ (by simp only[K9];omega)]
theorem qO(s:Bs)(k:Nat)(h:k<s.length):runesF (s.drop k)=((dec s k).1:Int)::runesF (s.drop (k+(dec s k).2)):=by
 rw[d8 _ (by intro e;have:=H6 List.length e;simp at this;omega), ← fD,R4]
theorem pr(s:Bs)(k:Nat)(h:s.length≤k):runesF (s.drop k)=[]:=by
 rw[N3 h];rfl
theorem pt:∀(n:Nat) (s:Bs),s.length≤n→(runesF s).length≤s.length:=by
 intro n;induction n with
 |zero=>intro s h;have:s=[]:=J5.1 (by omega);subst this;simp[dK]
 |succ n ih=>
  intro s h;by_cases h0:s=[]
  ·subst h0;simp[dK]
  ·have hd:=aW s 0 (M7.2 h0);rw[d8 s h0];have:=ih (s.drop (dec s 0).2) (by simp only[K9];omega);simp only[K9]at this;simp only[E2];omega
theorem mY:∀(n:Nat) (s:Bs),s.length≤n→∀c∈runesF s,Rune c:=by
 intro n;induction n with
 |zero=>intro s h c hc;have:s=[]:=J5.1 (by omega);subst this;simp[dK]at hc
 |succ n ih=>
  intro s h c hc;by_cases h0:s=[]
  ·subst h0;simp[dK]at hc
  ·have hl:=M7.2 h0;have hd:=aW s 0 hl;rw[d8 s h0]at hc;rcases I2.1 hc with rfl|hc
   ·exact lO s 0 hl
   ·exact ih _ (by simp only[K9];omega) c hc
def blankR(c:Int):Bool:=decide (c=9∨c=10∨c=13∨c=32∨c=160∨c=8232∨c=8233∨c=12288)
def ctlR(c:Int):Bool:=decide (c<32∨(127≤c∧c≤159))
def clnR:List Int→List Int→Bool→List Int
 | [],o,_=>o
 |c::t,o,w=>if blankR c then clnR t o (decide (0<o.length))else if ctlR c then clnR t o w else clnR t (o++(if w then [32,c]else [c])) false
def cleanR(s:Bs):List Int:=clnR (runesF s) [] false
def encs(l:List Int):Bs:=l.flatMap enc
def cleanF(s:Bs):Bs:=encs (cleanR s)
theorem eV(r:Int):1≤(enc r).length:=by
 rw[dN];simp only[];repeat (first|split|simp)
theorem lQ(l:List Int):(encs l).length≤4*l.length∧l.length≤(encs l).length:=by
 induction l with
 |nil=>simp[encs]
 |cons c t ih=>
  have h1:=dM c;have h2:=eV c;simp only[encs,L1,E5,E2]at ih ⊢;omega
theorem fE:∀(l o:List Int) (w:Bool),(clnR l o w).length≤o.length+2*l.length
 | [],o,w=>by simp[clnR]
 |c::t,o,w=>by
  rw[clnR];by_cases hb:blankR c=true
  ·rw[E8 hb];have:=fE t o (decide (0<o.length));simp only[E2];omega
  ·rw[E4 hb];by_cases hk:ctlR c=true
   ·rw[E8 hk];have:=fE t o w;simp only[E2];omega
   ·rw[E4 hk];have:=fE t (o++(if w then [32,c]else [c])) false;have hw:(if w then [32,c]else [c]:List Int).length≤2:=(by split<;>simp);simp only[E5,E2]at this ⊢;omega
theorem eE:∀(l o:List Int) (w:Bool),(∀c∈l,Rune c)→(∀c∈o,Rune c)→∀c∈clnR l o w,Rune c
 | [],o,w,_,h=>by simpa [clnR]using h
 |c::t,o,w,hl,ho=>by
  rw[clnR];have ht:∀x∈t,Rune x:=fun x hx=>hl x (by simp[hx])
  split
  ·exact eE t o _ ht ho
  ·split
   ·exact eE t o w ht ho
   ·refine eE t _ false ht ?_;intro x hx;rcases R7.1 hx with hx|hx
    ·exact ho x hx
    ·have h32:Rune 32:=⟨by decide,by decide⟩
     split at hx
     ·simp at hx;rcases hx with rfl|rfl
      ·exact h32
      ·exact hl _ (by simp)
     ·simp at hx;subst hx;exact hl _ (by simp)
theorem pu(s:Bs):(cleanR s).length≤2*s.length:=by
 have h1:=fE (runesF s) [] false;have h2:=pt s.length s (G3 _);simp only[E9]at h1;unfold cleanR;omega
theorem fF(s:Bs):(cleanF s).length≤8*s.length:=by
 have h1:=pu s;have h2:=lQ (cleanR s);unfold cleanF;omega
def cutN:Nat→Bs→Nat→Nat
 |0,_,_=>0
 |f+1,s,n=>if s=[]then 0 else if n<(dec s 0).2 then 0 else(dec s 0).2+cutN f (s.drop (dec s 0).2) (n-(dec s 0).2)
def cutF(s:Bs)(n:Nat):Bs:=s.take (cutN s.length s n)
def rightN:Nat→Bs→Bool
 |0,_=>true
 |f+1,s=>if s=[]then true else if (dec s 0).1=65533∧(dec s 0).2=1 then false else rightN f (s.drop (dec s 0).2)
def rightS(s:Bs):Bool:=rightN s.length s
theorem mZ:∀(f:Nat) (s:Bs),s.length≤f→rightN f s=rightN s.length s:=by
 intro f;induction f using Nat.strongRecOn with
 |ind f ih=>
  intro s hs;cases s with
  |nil=>cases f<;>rfl
  |cons b t=>
   obtain⟨f,rfl⟩:∃g,f=g+1:=⟨f-1,by simp at hs;omega⟩;have hd:=aW (b::t) 0 (by simp);simp only[E2]at hs hd ⊢;rw[rightN,rightN,E4 (show ¬(b::t)=[] by simp),E4 (show ¬(b::t)=[] by simp)];have hl:((b::t).drop (dec (b::t) 0).2).length≤t.length:=(by simp only[K9,E2];omega);rw[ih f (by omega) _ (by omega),ih t.length (by omega) _ hl]
theorem ib(s:Bs)(h:s≠ []):rightS s=if (dec s 0).1=65533∧(dec s 0).2=1 then false else rightS (s.drop (dec s 0).2):=by
 have hl:0<s.length:=M7.2 h;have hd:=aW s 0 hl;unfold rightS;obtain⟨n,hn⟩:∃n,s.length=n+1:=⟨s.length-1,by omega⟩;rw[hn,rightN,E4 h,mZ n _ (by simp only[K9];omega)]
theorem qP(s:Bs)(k:Nat)(h:k<s.length):rightS (s.drop k)=if (dec s k).1=65533∧(dec s k).2=1 then false else rightS (s.drop (k+(dec s k).2)):=by
 rw[ib _ (by intro e;have:=H6 List.length e;simp at this;omega), ← fD,R4]
theorem n7(n b0 b1 b2 b3:Nat)(h1:b1<256)(h2:b2<256)(h0:b0<256)(h:(Lib.decodeN n b0 b1 b2 b3).1=65533):(Lib.decodeN n b0 b1 b2 b3).2=1↔¬(3≤n∧b0=239∧b1=191∧b2=189):=by
 unfold Lib.decodeN at*;by_cases c1:b0<128
 ·rw[E8 c1]at *;simp only[]at *;omega
 rw[E4 c1]at*;by_cases c2:(b0/32=6∧(1<n∧b1/64=2))
 ·rw[E8 c2]at*;by_cases c3:b0%32*64+b1%64≥128
  ·rw[E8 c3]at *;simp only[]at *;omega
  ·rw[E4 c3]at *;exact⟨fun _ hc=>by omega,fun _=>rfl⟩
 rw[E4 c2]at*;by_cases c4:b0/16=14∧(1<n∧b1/64=2)∧(2<n∧b2/64=2)
 ·rw[E8 c4]at*;by_cases c5:(b0%16*4096+b1%64*64+b2%64≥2048∧(b0%16*4096+b1%64*64+b2%64<55296∨(57344≤b0%16*4096+b1%64*64+b2%64∧b0%16*4096+b1%64*64+b2%64≤1114111)))
  ·rw[E8 c5]at *;simp only[]at *;omega
  ·rw[E4 c5]at *;exact⟨fun _ hc=>by omega,fun _=>rfl⟩
 rw[E4 c4]at*;by_cases c6:b0/8=30∧(1<n∧b1/64=2)∧(2<n∧b2/64=2)∧(3<n∧b3/64=2)
 ·rw[E8 c6]at*;by_cases c7:(b0%8*262144+b1%64*4096+b2%64*64+b3%64≥65536∧(b0%8*262144+b1%64*4096+b2%64*64+b3%64<55296∨(57344≤b0%8*262144+b1%64*4096+b2%64*64+b3%64∧b0%8*262144+b1%64*4096+b2%64*64+b3%64≤1114111)))
  ·rw[E8 c7]at *;simp only[]at *;omega
  ·rw[E4 c7]at *;exact⟨fun _ hc=>by omega,fun _=>rfl⟩
 ·rw[E4 c6]at *;exact⟨fun _ hc=>by omega,fun _=>rfl⟩
theorem Bm(u:Bs):Lib.hasPrefix u [239,191,189]=true↔(3≤u.length∧(u.getD 0 0).toNat=239∧(u.getD 1 0).toNat=191∧(u.getD 2 0).toNat=189):=by
 have key:∀(x:UInt8) (n:Nat),n<256→(x.toNat=n↔x=UInt8.ofNat n):=fun x n h=>by rw[← UInt8.toNat_inj,ar n h]
 match u with
 | []=>simp[Lib.hasPrefix]
 | [a]=>simp[Lib.hasPrefix]
 | [a,b]=>simp[Lib.hasPrefix]
 |a::b::c::t=>
  simp only[J7,M3,E2];rw[key a 239 (by omega),key b 191 (by omega),key c 189 (by omega)];unfold Lib.hasPrefix;simp only[List.isPrefixOf,E3,beq_iff_eq];constructor
  ·rintro⟨rfl,rfl,rfl,_⟩;exact⟨by omega,rfl,rfl,rfl⟩
  ·rintro⟨_,rfl,rfl,rfl⟩;exact⟨rfl,rfl,rfl,trivial⟩
theorem tm(s:Bs)(k:Nat)(hd:(dec s k).1=65533):(dec s k).2=1↔Lib.hasPrefix (s.drop k) [239,191,189]=false:=by
 rw[fD]at*;generalize s.drop k=u at*;rw[← Bool.not_eq_true,Bm];rw[eA]at*;exact n7 _ _ _ _ _ (UInt8.toNat_lt _) (UInt8.toNat_lt _) (UInt8.toNat_lt _) hd
theorem eN(r:Int)(x:Bs):dec (enc r++x) 0=(fix r,(enc r).length):=by
 have hl:=lz r;have hs:=nH r;rw[eA,dN];generalize fix r=c at*;simp only[];by_cases h1:c<128
 ·rw[E8 h1];simp only[J8,I7,J7,E2,E9];rw[ar _ (by omega)];simp[Lib.decodeN,h1]
 ·rw[E4 h1];by_cases h2:c<2048
  ·rw[E8 h2];simp only[J8,I7,J7,M3,E2,E9,J6];rw[ar _ (by omega),ar _ (by omega)];unfold Lib.decodeN;rw[E4 (by omega),E8 (by omega),E8 (by omega)];congr 1;omega
  ·rw[E4 h2];by_cases h3:c<65536
   ·rw[E8 h3];simp only[J8,I7,J7,M3,E2,E9,J6];rw[ar _ (by omega),ar _ (by omega),ar _ (by omega)];unfold Lib.decodeN;rw[E4 (by omega),E4 (by omega),E8 (by omega),E8 (by omega)];congr 1;omega
   ·rw[E4 h3];simp only[J8,I7,J7,M3,E2,E9,J6];rw[ar _ (by omega),ar _ (by omega),ar _ (by omega),ar _ (by omega)];unfold Lib.decodeN;rw[E4 (by omega),E4 (by omega),E4 (by omega),E8 (by omega),E8 (by omega)];congr 1;omega
theorem fH{r:Int}(h:Rune r):fix r=r.toNat:=by
 unfold fix Utf8.valid;unfold Rune at h;rw[E8 (by simp;omega)]
theorem aZ(c:Int)(l:List Int):encs (c::l)=enc c++encs l:=by simp[encs]
theorem tn(a b:List Int):encs (a++b)=encs a++encs b:=by simp[encs]
theorem ic:∀{l:List Int},(∀c∈l,Rune c)→runesF (encs l)=l
 | [],_=>rfl
 |c::l,h=>by
  have hc:=h c (by simp);have hp:=eV c;rw[d8 _ (by rw[aZ];intro e;have h2:=H6 List.length e;rw[E5]at h2;simp only[E9]at h2;omega),aZ,eN,fH hc,List.drop_left' rfl,ic fun x hx=>h x (by simp[hx])];unfold Rune at hc;congr 1
  simp only[];omega
end
section
attribute [local irreducible] WP WPl WPix Sat
variable (G:Nat→Option (List AVal))
theorem pv(c:Int)(h:Heap):Sat (CT G) 76 [.int .i32 c] h (fun r h'=>r=.bool (blankR c)∧h'=h):=by
 have yes:(c=9∨c=10∨c=13∨c=32∨c=160∨c=8232∨c=8233∨c=12288)→blankR c=true:=fun h=>G4 h
 have no:¬(c=9∨c=10∨c=13∨c=32∨c=160∨c=8232∨c=8233∨c=12288)→blankR c=false:=fun h=>H2 h
 refine sb [.tmp 2] Tryz.func76 ?_;intro Q hQ;refine wk trivial ?_;refine cq trivial (fun c0=>?_) (fun c0=>?_)<;>(try exact c0.elim)<;>(refine wk trivial ?_)
 ·refine cq trivial (fun d=>?_) (fun d=>?_)<;>(try exact d.elim)<;>(refine wk trivial ?_)
  ·refine ee hQ trivial ?_;refine fR (.bool _) ?_;rw[yes (by omega)]
  ·exfalso;omega
 refine cq trivial (fun c1=>?_) (fun c1=>?_)<;>(try exact c1.elim)<;>(refine wk trivial ?_)
 ·refine cq trivial (fun d=>?_) (fun d=>?_)<;>(try exact d.elim)<;>(refine wk trivial ?_)
  ·refine ee hQ trivial ?_;refine fR (.bool _) ?_;rw[yes (by omega)]
  ·exfalso;omega
 refine cq trivial (fun c2=>?_) (fun c2=>?_)<;>(try exact c2.elim)<;>(refine wk trivial ?_)
 ·refine cq trivial (fun d=>?_) (fun d=>?_)<;>(try exact d.elim)<;>(refine wk trivial ?_)
  ·refine ee hQ trivial ?_;refine fR (.bool _) ?_;rw[yes (by omega)]
  ·exfalso;omega
 refine cq trivial (fun c3=>?_) (fun c3=>?_)<;>(try exact c3.elim)<;>(refine wk trivial ?_)
 ·refine cq trivial (fun d=>?_) (fun d=>?_)<;>(try exact d.elim)<;>(refine wk trivial ?_)
  ·refine ee hQ trivial ?_;refine fR (.bool _) ?_;rw[yes (by omega)]
  ·exfalso;omega
 refine cq trivial (fun c4=>?_) (fun c4=>?_)<;>(try exact c4.elim)<;>(refine wk trivial ?_)
 ·refine cq trivial (fun d=>?_) (fun d=>?_)<;>(try exact d.elim)<;>(refine wk trivial ?_)
  ·refine ee hQ trivial ?_;refine fR (.bool _) ?_;rw[yes (by omega)]
  ·exfalso;omega
 refine cq trivial (fun c5=>?_) (fun c5=>?_)<;>(try exact c5.elim)<;>(refine wk trivial ?_)
 ·refine cq trivial (fun d=>?_) (fun d=>?_)<;>(try exact d.elim)<;>(refine wk trivial ?_)
  ·refine ee hQ trivial ?_;refine fR (.bool _) ?_;rw[yes (by omega)]
  ·exfalso;omega
 refine cq trivial (fun c6=>?_) (fun c6=>?_)<;>(try exact c6.elim)<;>(refine wk trivial ?_)
 ·refine cq trivial (fun d=>?_) (fun d=>?_)<;>(try exact d.elim)<;>(refine wk trivial ?_)
  ·refine ee hQ trivial ?_;refine fR (.bool _) ?_;rw[yes (by omega)]
  ·exfalso;omega
 refine cq trivial (fun d=>?_) (fun d=>?_)<;>(try exact d.elim)<;>(refine wk trivial ?_)
 ·refine ee hQ trivial ?_;refine fR (.bool _) ?_;rw[yes (by omega)]
 ·refine ee hQ trivial ?_;refine fR (.bool _) ?_;rw[no (by omega)]
theorem lR(c:Int)(h:Heap):Sat (CT G) 78 [.int .i32 c] h (fun r h'=>r=.bool (ctlR c)∧h'=h):=by
 refine sb [.tmp 2] Tryz.func78 ?_;intro Q hQ;refine wk trivial ?_;(first|refine gq trivial (fun g1=>?_) (fun g1=>?_)|refine pq trivial (fun g1=>?_) (fun g1=>?_))<;>(try exact g1.elim)<;>(try refine sq trivial ?_)<;>(refine wk trivial ?_)
 ·refine ee hQ trivial ?_;refine fR (.bool _) ?_;rw[show ctlR c=true from G4 (.inl g1)]
 ·(first|refine gq trivial (fun g2=>?_) (fun g2=>?_)|refine pq trivial (fun g2=>?_) (fun g2=>?_))<;>(try exact g2.elim)<;>(try refine sq trivial ?_)<;>(refine wk trivial ?_)
  ·refine ee hQ trivial ?_;refine fR (.bool _) ?_;unfold ctlR;congr 1
   rw[O3];simp;omega
  ·refine ee hQ trivial ?_;refine fR (.bool _) ?_;rw[show ctlR c=false from H2 (by omega)]
theorem tq(h j:Heap)(a:AVal)(v:Nat)(o s:Bs)(q:Nat):(bldH h (Blk.iter s q::j) a v o)[h.length+2]? =some (.iter s q):=by
 unfold bldH;rw[G6 (by omega),show h.length+2-h.length=2 by omega];rfl
theorem tt(h j:Heap)(a:AVal)(v:Nat)(o:Bs)(x y:Blk):(bldH h (x::j) a v o).set (h.length+2) y=bldH h (y::j) a v o:=by
 unfold bldH;rw[List.set_append_right _ _ (by omega),show h.length+2-h.length=2 by omega];rfl
theorem cO(s:Bs)(hs:s.length≤100000000)(h:Heap):Sat (CT G) 44 [.str s] h (fun r h'=>r=.str (cleanF s)∧h'=h):=by
 have F:= @tt;refine sb [.tmp 2] Tryz.func44 ?_;intro Q hQ;(repeat (first|refine w1 (fun K hK=>?_)|refine w2 ?_|refine w3 ?_| ((first|refine w4 ?_|refine wD ?_|refine w5 ?_|refine w6 ?_|refine w7 ?_);try refine sq F ?_)| (refine w8 ?_;refine sq F ?_;refine w9 ?_)))
 refine hK _ _ (H3 ?_);clear hK K;(repeat (first|refine w1 (fun K hK=>?_)|refine w2 ?_|refine w3 ?_| ((first|refine w4 ?_|refine wD ?_|refine w5 ?_|refine w6 ?_|refine w7 ?_);try refine sq F ?_)| (refine w8 ?_;refine sq F ?_;refine w9 ?_)))
 refine hK _ _ ⟨_,_,S6 (p:=h.length) (v:=0) 5 1 (by omega) (by simp(disch:=first|omega| (simp only[go_sem, ↓reduceIte,seval];first|done|omega)|fail) only[go_sem, ↓reduceIte,seval,F];rfl) 1 rfl,?_⟩;clear hK K;refine wk F ?_;refine lm (fun nL tL hL=>∃(a:AVal) (v k:Nat) (out:List Int) (w:Bool),s.length-k=nL∧bldH h [.iter s k] a v (encs out)=hL∧tL 4=.bool w∧bldA a h.length∧k≤s.length∧clnR (runesF (s.drop k)) out w=cleanR s∧(encs out).length+8*(s.length-k)≤8*s.length) ((fun(a:AVal) (v k:Nat) (out:List Int) (w:Bool)=>(s.length-k:Nat)) ((.nil (.pointer none))) (0) (0) ([]) (false)) ?_ ?_
 ·refine H3 ⟨(.nil (.pointer none)),0,0,[],false,rfl,by simp[bldH,bldR,bufR,encs],?_,.inl rfl,by omega,rfl,by simp[encs]⟩;all_goals try exact zZz F
 rintro _ s2 h' ⟨a,v,k,out,w,rfl,rfl,e4,ha,hk,hv,hl⟩ K2 hK2;simp only[ao,aw,Nat.reduceEqDiff, ↓reduceIte]at e4;have F:=F2 F e4;refine wk F ?_;refine bR (tq _ _ _ _ _ _ _) (fun hlt=>?_) (fun hge=>?_)
 ·have hR:=lO s k hlt;have hp:=aW s k hlt;rw[qO s k hlt,clnR]at hv;rw[show Utf8.decode ⟨s.toArray⟩ k=dec s k from rfl];generalize dec s k=d at*;obtain⟨c,m⟩:=d;simp only[]at hR hp hv ⊢;try refine sq F ?_
  refine wk F ?_;refine kq F (pv G c _) ?_;refine cq F (fun c1=>?_) (fun c1=>?_)<;>(try exact c1.elim)<;>(refine wk F ?_)
  ·rw[E8 c1]at hv;refine kq F (uI G a h [.iter s (k+m)] v (encs out)) ?_;have ho:decide (((encs out).length:Int)>0)=decide (0<out.length):=by
    have:=lQ out;rw[O3];simp only[F1];omega
   have F:=F2 F ho;(try refine sq F ?_);refine hK2 _ _ _ (H3 ⟨a,v,k+m,out,decide (0<out.length),rfl,aB,?_,ha,by omega,hv,by omega⟩) (by omega);all_goals try exact zZz F
  ·rw[E4 (by simp[c1])]at hv;refine kq F (lR G c _) ?_;refine cq F (fun c2=>?_) (fun c2=>?_)<;>(try exact c2.elim)<;>(refine wk F ?_)
   ·rw[E8 c2]at hv;refine hK2 _ _ _ (H3 ⟨a,v,k+m,out,w,rfl,aB,?_,ha,by omega,hv,by omega⟩) (by omega);all_goals try exact zZz F
   ·rw[E4 (by simp[c2])]at hv;have he:=dM c;have e1:encs (out++[32,(c:Int)])=encs out++[32]++enc c:=by
     simp only[encs,N5,L1,List.flatMap_nil,H8,I6];rfl
    have e2:encs (out++[(c:Int)])=encs out++enc c:=by
     simp only[encs,N5,L1,List.flatMap_nil,H8]
    refine cq F (fun c3=>?_) (fun c3=>?_)<;>(try exact c3.elim)<;>(refine wk F ?_)
    ·rw[E8 c3]at hv;refine kq F (bW G a h [.iter s (k+m)] v (encs out) 32 ha (by omega)) ?_;refine kq F (dz G (.hp h.length 0 0 0) c hR h [.iter s (k+m)] (v+1) (encs out++[32]) (.inr rfl) (by simp only[E5,E2,E9];omega)) ?_;refine hK2 _ _ _ (H3 ⟨(.hp h.length 0 0 0),v+1+1,k+m,out++[32,(c:Int)],false,rfl,by rw[e1];simp,?_,.inr rfl,by omega,hv,by rw[e1];simp only[E5,E2,E9];omega⟩) (by omega);all_goals try exact zZz F
    ·rw[E4 (by simp[c3])]at hv;refine kq F (dz G a c hR h [.iter s (k+m)] v (encs out) ha (by omega)) ?_;refine hK2 _ _ _ (H3 ⟨(.hp h.length 0 0 0),v+1,k+m,out++[(c:Int)],false,rfl,by rw[e2],?_,.inr rfl,by omega,hv,by rw[e2];simp only[E5];omega⟩) (by omega);all_goals try exact zZz F
 ·rw[pr s k (by omega)]at hv;try refine sq F ?_
  refine wk F ?_;refine(fu G a h [.iter s k] v (encs out)).mono ?_;rintro r h' ⟨rfl,b2,rfl⟩;try refine sq F ?_
  refine wk F ?_;refine ee hQ F ?_;exact T5 (j:=[bldR a (h.length+1) v (encs out),b2,.iter s k]) (by simp) (.str _) ⟨H6 AVal.str (by unfold cleanF;rw[← hv];rfl),rfl⟩
theorem kg:∀(f:Nat) (s:Bs) (n:Nat),s.length≤f→cutN f s n=cutN s.length s n:=by
 intro f;induction f using Nat.strongRecOn with
 |ind f ih=>
  intro s n hs;cases s with
  |nil=>cases f<;>rfl
  |cons b t=>
   obtain⟨f,rfl⟩:∃g,f=g+1:=⟨f-1,by simp at hs;omega⟩;have hd:=aW (b::t) 0 (by simp);simp only[E2]at hs hd ⊢;have hl:((b::t).drop (dec (b::t) 0).2).length≤t.length:=(by simp only[K9,E2];omega);rw[cutN,cutN,E4 (show ¬(b::t)=[] by simp),E4 (show ¬(b::t)=[] by simp),ih f (by omega) _ _ (by omega),ih t.length (by omega) _ _ hl]
def cutA(s:Bs)(k n:Nat):Nat:=cutN (s.drop k).length (s.drop k) n
theorem fI(s:Bs)(k n:Nat)(h:s.length≤k):cutA s k n=0:=by unfold cutA;rw[N3 h];rfl
theorem jw(s:Bs)(k n:Nat)(h:k<s.length):cutA s k n=if n<(dec s k).2 then 0 else(dec s k).2+cutA s (k+(dec s k).2) (n-(dec s k).2):=by
 have hd:=aW s k h;have hl:(s.drop k).length=(s.length-k-1)+1:=by rw[K9];omega
 unfold cutA;rw[hl,cutN,E4 (by intro e;rw[e]at hl;simp at hl), ← fD,R4,kg (s.length-k-1) _ _ (by simp only[K9];omega)]
theorem uT(s:Bs):∀(f k n:Nat),s.length≤k+f→cutA s k n≤n∧cutA s k n≤s.length-k:=by
 intro f;induction f with
 |zero=>intro k n h;rw[fI s k n (by omega)];omega
 |succ f ih=>
  intro k n h;rcases O5 k s.length with h1|h1
  ·have hd:=aW s k h1;rw[jw s k n h1];split
   ·omega
   ·have:=ih (k+(dec s k).2) (n-(dec s k).2) (by omega);omega
  ·rw[fI s k n h1];omega
theorem tu(s:Bs):∀(f k n:Nat),s.length≤k+f→s.length-k≤n→cutA s k n=s.length-k:=by
 intro f;induction f with
 |zero=>intro k n h _;rw[fI s k n (by omega)];omega
 |succ f ih=>
  intro k n h hn;rcases O5 k s.length with h1|h1
  ·have hd:=aW s k h1;rw[jw s k n h1,E4 (by omega),ih _ _ (by omega) (by omega)];omega
  ·rw[fI s k n h1];omega
theorem tv(s:Bs)(n:Nat)(hs:s.length≤1073741824)(hn:n≤1073741824)(h:Heap):Sat (CT G) 83 [.str s,.int .i64 n] h (fun r h'=>r=.str (cutF s n)∧h'=h):=by
 skip
 refine sb [.tmp 4] Tryz.func83 ?_;intro Q hQ;(repeat (first|refine w1 (fun K hK=>?_)|refine w2 ?_|refine w3 ?_| ((first|refine w4 ?_|refine wD ?_|refine w5 ?_|refine w6 ?_|refine w7 ?_);try refine sq trivial ?_)| (refine w8 ?_;refine sq trivial ?_;refine w9 ?_)| ((first|refine hK _ _ (w0 ?_)| (clear hK K;refine hK _ _ (w0 ?_))| (clear hK K;clear hK K;refine hK _ _ (w0 ?_)));clear hK K)))
 have tail:∀(t':Env) (e pos:Nat),t' 0=.str s→t' 1=.int .i64 n→t' 5=.int .i64 e→e≤s.length→(n<s.length→e=cutN s.length s n)→K t' (h++[.iter s pos]):=by
  intro t' e pos e0 e1 e5 he hx;refine hK _ _ (H3 ?_);clear hK K;have F:=F3 e0 e1 e5;(repeat (first|refine w1 (fun K hK=>?_)|refine w2 ?_|refine w3 ?_| ((first|refine w4 ?_|refine wD ?_|refine w5 ?_|refine w6 ?_|refine w7 ?_);try refine sq F ?_)| (refine w8 ?_;refine sq F ?_;refine w9 ?_)| ((first|refine hK _ _ (w0 ?_)| (clear hK K;refine hK _ _ (w0 ?_))| (clear hK K;clear hK K;refine hK _ _ (w0 ?_)));clear hK K)))
  refine cq F (fun c1=>?_) (fun c1=>?_)<;>(try exact c1.elim)<;>((repeat (first|refine w1 (fun K hK=>?_)|refine w2 ?_|refine w3 ?_| ((first|refine w4 ?_|refine wD ?_|refine w5 ?_|refine w6 ?_|refine w7 ?_);try refine sq F ?_)| (refine w8 ?_;refine sq F ?_;refine w9 ?_)| ((first|refine hK _ _ (w0 ?_)| (clear hK K;refine hK _ _ (w0 ?_))| (clear hK K;clear hK K;refine hK _ _ (w0 ?_)));clear hK K))))
  ·refine ee hQ F ?_;refine fR (.str _) ?_;have:=tu s s.length 0 n (by omega) (by omega);unfold cutA at this;simp only[N8]at this;unfold cutF;rw[this];simp
  ·refine ee hQ F ?_;refine fR (.str _) ?_;unfold cutF;rw[hx (by omega)]
 refine lm (fun nL tL hL=>∃(en k:Nat),s.length-k=nL∧h++[.iter s k]=hL∧tL 5=.int .i64 en∧k≤s.length∧en≤k∧(k≤n→k+cutA s k (n-k)=cutN s.length s n)∧(n<k→en=cutN s.length s n)) ((fun(en k:Nat)=>(s.length-k:Nat)) (0) (0)) ?_ ?_
 ·refine H3 ⟨0,0,rfl,aB,?_,by omega,by omega,fun _=>by unfold cutA;simp,fun h=>by omega⟩;all_goals try exact zZz trivial
 rintro _ s2 h' ⟨en,k,rfl,rfl,e5,hk,he,hc,hc2⟩ K2 hK2;simp only[ao,aw,Nat.reduceEqDiff, ↓reduceIte]at e5;have F:=e5;(repeat (first|refine w1 (fun K hK=>?_)|refine w2 ?_|refine w3 ?_| ((first|refine w4 ?_|refine wD ?_|refine w5 ?_|refine w6 ?_|refine w7 ?_);try refine sq F ?_)| (refine w8 ?_;refine sq F ?_;refine w9 ?_)| ((first|refine hK _ _ (w0 ?_)| (clear hK K;refine hK _ _ (w0 ?_))| (clear hK K;clear hK K;refine hK _ _ (w0 ?_)));clear hK K)))
 refine bR (cD _ _ _ _) (fun hlt=>?_) (fun hge=>?_)
 ·have hp:=aW s k hlt;have hca:=jw s k (n-k) hlt;rw[show Utf8.decode ⟨s.toArray⟩ k=dec s k from rfl];generalize dec s k=d at*;obtain⟨c,m⟩:=d;simp only[]at hp hca ⊢;try refine sq F ?_
  (repeat (first|refine w1 (fun K hK=>?_)|refine w2 ?_|refine w3 ?_| ((first|refine w4 ?_|refine wD ?_|refine w5 ?_|refine w6 ?_|refine w7 ?_);try refine sq F ?_)| (refine w8 ?_;refine sq F ?_;refine w9 ?_)| ((first|refine hK _ _ (w0 ?_)| (clear hK K;refine hK _ _ (w0 ?_))| (clear hK K;clear hK K;refine hK _ _ (w0 ?_)));clear hK K)))
  refine cq F (fun c1=>?_) (fun c1=>?_)<;>(try exact c1.elim)<;>((repeat (first|refine w1 (fun K hK=>?_)|refine w2 ?_|refine w3 ?_| ((first|refine w4 ?_|refine wD ?_|refine w5 ?_|refine w6 ?_|refine w7 ?_);try refine sq F ?_)| (refine w8 ?_;refine sq F ?_;refine w9 ?_)| ((first|refine hK _ _ (w0 ?_)| (clear hK K;refine hK _ _ (w0 ?_))| (clear hK K;clear hK K;refine hK _ _ (w0 ?_)));clear hK K))))
  ·refine tail _ en (k+m) ?_ ?_ ?_ (by omega) (fun _=>hc2 (by omega))
   ·exact zq F
   ·exact zq F
   ·exact zq F
  ·have hc':=hc (by omega);rw[hca]at hc';refine hK2 _ _ _ (H3 ⟨k,k+m,rfl,aB,?_,by omega,by omega,fun hle=>by rw[E4 (by omega)]at hc';rw[← hc',show n-(k+m)=n-k-m by omega];omega,fun hgt=>by rw[E8 (by omega)]at hc';omega⟩) (by omega);all_goals try exact zZz F
 ·try refine sq F ?_
  (repeat (first|refine w1 (fun K hK=>?_)|refine w2 ?_|refine w3 ?_| ((first|refine w4 ?_|refine wD ?_|refine w5 ?_|refine w6 ?_|refine w7 ?_);try refine sq F ?_)| (refine w8 ?_;refine sq F ?_;refine w9 ?_)| ((first|refine hK _ _ (w0 ?_)| (clear hK K;refine hK _ _ (w0 ?_))| (clear hK K;clear hK K;refine hK _ _ (w0 ?_)));clear hK K)))
  refine tail _ en k ?_ ?_ ?_ (by omega) (fun _=>hc2 (by omega))
  ·exact zq F
  ·exact zq F
  ·exact zq F
theorem pw(s:Bs)(hs:s.length≤1073741824)(h:Heap):Sat (CT G) 43 [.str s] h (fun r h'=>r=.bool (rightS s)∧h'=h):=by
 refine sb [.tmp 2] Tryz.func43 ?_;intro Q hQ;refine wk trivial ?_;refine lm (fun nL tL hL=>∃(k:Nat),s.length-k=nL∧h++[.iter s k]=hL∧k≤s.length∧rightS (s.drop k)=rightS s) ((fun(k:Nat)=>(s.length-k:Nat)) (0)) ?_ ?_
 ·refine H3 ⟨0,rfl,aB,by omega,rfl⟩;all_goals try exact zZz trivial
 rintro _ s2 h' ⟨k,rfl,rfl,hk,hc⟩ K2 hK2;refine wk trivial ?_;refine bR (cD _ _ _ _) (fun hlt=>?_) (fun hge=>?_)
 ·have hp:=aW s k hlt;have hca:=qP s k hlt;have h3:=tm s k;rw[hc]at hca;rw[show Utf8.decode ⟨s.toArray⟩ k=dec s k from rfl];generalize dec s k=d at*;obtain⟨c,m⟩:=d;simp only[]at hp hca h3 ⊢;try refine sq trivial ?_
  refine wk trivial ?_;(first|refine gq trivial (fun g1=>?_) (fun g1=>?_)|refine pq trivial (fun g1=>?_) (fun g1=>?_))<;>(try exact g1.elim)<;>(try refine sq trivial ?_)<;>(refine wk trivial ?_)
  ·have g0:c=65533:=(by omega);have h4:=h3 g0;refine kq trivial (ct G (s.drop k) [239,191,189] _) ?_;refine cq trivial (fun g2=>?_) (fun g2=>?_)<;>(try exact g2.elim)<;>(refine wk trivial ?_)
   ·refine ee hQ trivial ?_;refine fR (.bool _) ?_;rw[hca,E8 ⟨g0,h4.2 (by simpa using g2)⟩]
   ·refine hK2 _ _ _ (H3 ⟨k+m,rfl,aB,by omega,by rw[hca,E4];rintro⟨_,h5⟩;have:=h4.1 h5;rw[this]at g2;cases g2⟩) (by omega);all_goals try exact zZz trivial
  ·refine hK2 _ _ _ (H3 ⟨k+m,rfl,aB,by omega,by rw[hca,E4];rintro⟨h5,_⟩;exact g1 (by omega)⟩) (by omega);all_goals try exact zZz trivial
 ·rw[N3 (by omega)]at hc;try refine sq trivial ?_
  refine wk trivial ?_;refine ee hQ trivial ?_;refine fR (.bool _) ?_;rw[← hc];rfl
end
section
inductive Outl where
 |mk (title url:Bs) (kids:List Outl)
 deriving Inhabited
namespace Outl
def title:Outl→Bs| .mk t _ _=>t
def kids:Outl→List Outl| .mk _ _ k=>k
end Outl
mutual
def Outl.av:Outl→AVal
 | .mk t u k=>.agg [.str t,.str u,.sl 3 (ovs k)]
def ovs:List Outl→List AVal
 | []=>[]
 |e::l=>e.av::ovs l
end
mutual
def Outl.sz:Outl→Nat
 | .mk t u k=>1+t.length+u.length+okidsz k
def okidsz:List Outl→Nat
 | []=>0
 |e::l=>e.sz+okidsz l
end
end
section
attribute [local irreducible] WP WPl WPix Sat
variable (G:Nat→Option (List AVal))
end
end Go.Av
