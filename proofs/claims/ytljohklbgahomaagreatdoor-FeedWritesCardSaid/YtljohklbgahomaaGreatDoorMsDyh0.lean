/- Parts. -/
import Derived.Test.YtljohklbgahomaaGreatDoorMsDr2
import Derived.LoopN
import Derived.Deep.OwnRows
import Derived.Laws.IdiomStrings
set_option linter.unusedSimpArgs false
set_option linter.unusedVariables false
set_option linter.unusedSectionVars false
set_option linter.unnecessarySimpa false
set_option maxRecDepth 100000
set_option maxHeartbeats 16000000
namespace Go.Av
open Go Go.Proofs Go.RowKit
attribute [local irreducible] WP WPl WPix Sat
variable (G:Nat→Option (List AVal))
theorem rO(h:Heap)(n:Nat):Frz h n (.agg [.str [],.nil (.slice none 0 0),.str [],.nil (.slice none 0 0)]) (Elem.av ⟨[],[],[],[]⟩):=by
 rw[Elem.av_eq];refine .agg _ _ rfl (by simp[AVal.sto]) fun i c d hc hd=>?_
 match i with
 |0=>simp at hc hd;subst hc;subst hd;exact .clo _ (.str _)
 |1=>simp[Elem.attrs]at hc hd;subst hc;subst hd;exact .nils _
 |2=>simp at hc hd;subst hc;subst hd;exact .clo _ (.str _)
 |3=>simp[Elem.kids]at hc hd;subst hc;subst hd;exact .nils _
 |i+4=>simp at hc
def kidF(e:Elem)(n:Bs):Elem×Bool:=match kidsF e n with| []=>(⟨[],[],[],[]⟩,false)|k::_=>(k,true)
instance tokEq:DecidableEq Tok:=fun a b=>inferInstanceAs (Decidable ((a:Int×List UInt8×List (List UInt8×List UInt8)×List UInt8)=b))
theorem uj(h:Heap)(m:Nat)(k:Int)(n t:Bs):Frz h m (.agg [.int .i64 k,.str n,.nil (.slice none 0 0),.str t]) (Tok.av (k,n,[],t)):=by
 refine .agg _ _ rfl (by intro d hd;simp at hd;rcases hd with rfl|rfl|rfl|rfl<;>rfl) fun i c d hc hd=>?_
 match i with
 |0=>simp at hc hd;subst hc;subst hd;exact .clo _ (.int _ _)
 |1=>simp at hc hd;subst hc;subst hd;exact .clo _ (.str _)
 |2=>simp at hc hd;subst hc;subst hd;exact .nils _
 |3=>simp at hc hd;subst hc;subst hd;exact .clo _ (.str _)
 |i+4=>simp at hc
theorem kE{h0 h1 pre post:Heap}{e v q:Nat}(l:List Tok)(k:Int)(n t:Bs)(hh:h1=pre++ .row e 4 v (l.map Tok.av++[.agg [.int .i64 k,.str n,.nil (.slice none 0 0),.str t]])::post)(hq:q=pre.length)(hp:h0.length≤q):
  Frz h1 h0.length (.hs q v 0 (l.length+1) true) (.sl 4 ((l++[(k,n,[],t)]).map Tok.av)):=by
 subst hh;subst hq;have at_:∀(i:Nat) (r s:AVal),(l.map Tok.av++[AVal.agg [.int .i64 k,.str n,.nil (.slice none 0 0),.str t]])[i]? =some r→((l++[(k,n,[],t)]).map Tok.av)[i]? =some s→
   (∃a,r=Tok.av a∧s=r)∨(r=.agg [.int .i64 k,.str n,.nil (.slice none 0 0),.str t]∧s=Tok.av (k,n,[],t)):=by
  intro i r s hr hs;rw[M1]at hs;rcases P1 i (l.map Tok.av).length with h1|h1|h1
  ·rw[G9 h1]at hr hs;rw[hr]at hs;cases hs;obtain⟨a,_,rfl⟩:=K6.1 (H2 hr);exact .inl ⟨a,rfl,rfl⟩
  ·subst h1;simp only[H8 (H6 _),Nat.sub_self,J7,N2,Q3,H7]at hr hs;exact .inr ⟨hr.symm,hs.symm⟩
  ·rw[H8 (by omega),O7 (by simp at h1 ⊢;omega)]at hr;cases hr
 have:=Frz.hs (h:=pre++ .row e 4 v (l.map Tok.av++[.agg [.int .i64 k,.str n,.nil (.slice none 0 0),.str t]])::post) (n:=h0.length) pre.length v 0 (l.length+1) true e 4 _ ((l++[(k,n,[],t)]).map Tok.av) hp (by simp[getRow];rfl) (by simp) (by simp)
   (fun i r s hr hs=>by rcases at_ i r s hr hs with⟨a,rfl,rfl⟩| ⟨rfl,rfl⟩;exact .clo _ (Tok.clo _ _);exact uj _ _ _ _ _)
   (fun i r s hr hs=>by
    rcases at_ i r s hr hs with⟨a,rfl,rfl⟩| ⟨rfl,rfl⟩
    ·exact⟨rfl,fun j c d _ hd=>Tok.av_sto _ d (H2 hd)⟩
    ·exact⟨rfl,fun j c d _ hd=>Tok.av_sto _ d (H2 hd)⟩)
   (fun i r s j c d hr hs hc hd=>by
    rcases at_ i r s hr hs with⟨a,rfl,rfl⟩| ⟨rfl,rfl⟩
    ·rw[hc]at hd;cases hd;exact .clo _ ((Tok.clo _ _).cells c (H2 hc))
    ·match j with
     |0=>simp[Tok.av,AVal.cells]at hc hd;subst hc;subst hd;exact .clo _ (.int _ _)
     |1=>simp[Tok.av,AVal.cells]at hc hd;subst hc;subst hd;exact .clo _ (.str _)
     |2=>simp[Tok.av,AVal.cells]at hc hd;subst hc;subst hd;exact .nils _
     |3=>simp[Tok.av,AVal.cells]at hc hd;subst hc;subst hd;exact .clo _ (.str _)
     |j+4=>simp[AVal.cells]at hc)
 rw[P4,H9 (by simp)]at this;exact this
end Go.Av
namespace Go.Av
open Go.RowKit
section
variable {C:Ctx} {t:Env} {h:Heap}
def nopO:Oper:= {dst:=none,op:=.move (.const (.bool false)),type:=0,pos:= "",after:= #[],guard:=none}
end
end Go.Av
namespace Go.Av
open Go Go.Proofs Go.RowKit
variable (G:Nat→Option (List AVal))
theorem qg(s:Bs):∀k,k≤s.length→shortAt s k=s.drop (Lib.lastIdx ⟨s.toArray⟩ 58 k+1).toNat∧ -1≤Lib.lastIdx ⟨s.toArray⟩ 58 k∧Lib.lastIdx ⟨s.toArray⟩ 58 k<k:=by
 intro k;induction k with
 |zero=>intro _;simp[shortAt,Lib.lastIdx]
 |succ k ih=>
  intro hk;obtain⟨h1,h2,h3⟩:=ih (by omega);have hb:=G3 (show k<s.length by omega);have e:(⟨s.toArray⟩:ByteArray).data[k]! =s[k]:=by simp[hb]
  rw[shortAt,hb];have e2:Lib.lastIdx ⟨s.toArray⟩ 58 (k+1)=if (s[k].toNat:Int)=58 then(k:Int)else Lib.lastIdx ⟨s.toArray⟩ 58 k:=by
   rw[Lib.lastIdx,e]
  rw[e2];by_cases hc:s[k]=58
  ·rw[G5 (by rw[hc]),G5 (by rw[hc];rfl)];refine⟨I8 s.drop (by omega),by omega,by omega⟩
  ·have:¬(s[k].toNat:Int)=58:=fun h=>hc ((vQ (k:=58) (by omega)).1 h)
   rw[G2 (by simpa using hc),G2 this];exact⟨h1,h2,by omega⟩
theorem rS(s:Bs):short s=s.drop (Lib.lastIndexByte ⟨s.toArray⟩ 58+1).toNat∧ -1≤Lib.lastIndexByte ⟨s.toArray⟩ 58∧Lib.lastIndexByte ⟨s.toArray⟩ 58<s.length:=by
 have h:(⟨s.toArray⟩:ByteArray).size=s.length:=by simp[ByteArray.size]
 have:=qg s s.length (H6 _);unfold Lib.lastIndexByte short;rw[h];exact this
end Go.Av
namespace Go.Av
open Go Go.Proofs Go.RowKit
def stY(y:Int):Int:=365*y+y/4-y/100
def gY(o:Int):Int:=o-o/1460+o/36524
theorem ie{a b:Int}(h0:0≤a)(h:a≤b):gY a≤gY b:=by
 unfold gY;have h1:a-a/1460≤b-b/1460:=by omega
 have h2:a/36524≤b/36524:=by omega
 omega
theorem qh:∀y:Nat,y<400→365*(y:Int)≤gY (stY y)∧(y<399→gY (stY (y+1)-1)<365*((y:Int)+1))∧(y=399→gY 146095<365*((y:Int)+1)):=by decide+kernel
theorem p7(o:Int)(h0:0≤o)(h1:o≤146096)(y:Int)(hy:y=(o-o/1460+o/36524-o/146096)/365):0≤y∧y≤399∧stY y≤o∧(o<stY (y+1)∨(y=399∧o=146096)):=by
 by_cases hc:o=146096
 ·subst hc;subst hy;decide
 have c0:o/146096=0:=by omega
 rw[c0,Int.sub_zero]at hy
 change y=gY o/365 at hy
 have hlo:0≤gY o:=ie (a:=0) (by decide) h0;have hhi:gY o<365*400:=Int.lt_of_le_of_lt (ie h0 (by omega:o≤146095)) (by decide);have hy0:0≤y∧y≤399:=by omega
 obtain⟨k,rfl⟩:∃k:Nat,y=k:=⟨y.toNat,by omega⟩;obtain⟨a1,a2,a3⟩:=qh k (by omega);refine⟨hy0.1,hy0.2,?_,?_⟩
 ·by_cases h:stY k≤o
  ·exact h
  ·exfalso;cases k with
   |zero=>unfold stY at h;omega
   |succ j=>
    obtain⟨b1,b2,b3⟩:=qh j (by omega);have b2:=b2 (by omega);have hs:stY ((j+1:Nat):Int)=stY ((j:Int)+1):=(by congr 1);rw[hs]at h;have:=ie h0 (by omega:o≤stY ((j:Int)+1)-1);omega
 ·left;by_cases h:o<stY ((k:Int)+1)
  ·exact h
  ·exfalso;by_cases hk:k=399
   ·subst hk;have:stY ((399:Nat)+1:Int)=146096:=by decide
    omega
   ·obtain⟨b1,b2,b3⟩:=qh (k+1) (by omega);have hs:stY ((k+1:Nat):Int)=stY ((k:Int)+1):=(by congr 1);rw[hs]at b1;have:=ie (a:=stY ((k:Int)+1)) (by unfold stY;omega) (by omega:stY ((k:Int)+1)≤o);omega
def ofP(n:Int):Dt:=
 let w:=n+62135596800
 let k:=w/86400+306
 let o:=k%146097
 let y:=(o-o/1460+o/36524-o/146096)/365
 let i:=o-stY y
 let m:=(5*i+2)/153
 ⟨if 12<m+3 then y+400*(k/146097)+1 else y+400*(k/146097),if 12<m+3 then m-9 else m+3,i-(153*m+2)/5+1,w%86400/3600,w%86400/60%60,w%86400%60⟩
theorem ux{y:Int}(h:y%4=0∧(y%100≠0∨y%400=0)):leapF y=true:=by
 unfold leapF;rw[G1,L7,G6,G6,G6];exact h
theorem iM{y m:Int}(h1:1≤y)(h2:y≤9999)(h3:1≤m)(h4:m≤12):daysF y m=if m=2 then(if leapF y then 29 else 28)else if m=4∨m=6∨m=9∨m=11 then 30 else 31:=by
 unfold daysF;rw[G2 (by omega)]
def dtC(y e m i w:Int):Dt:=⟨if 12<m+3 then y+400*e+1 else y+400*e,if 12<m+3 then m-9 else m+3,i-(153*m+2)/5+1,w%86400/3600,w%86400/60%60,w%86400%60⟩
theorem xG{n w k o e y i m:Int}(hn1: -62135596800≤n)(hn2:n≤253402300799)(hw:w=n+62135596800)(hk:k=w/86400+306)(he:e=k/146097)(ho:o=k%146097)(hy:y=(o-o/1460+o/36524-o/146096)/365)(hi:i=o-stY y)(hm:m=(5*i+2)/153):
  okD (dtC y e m i w)=true∧momD (dtC y e m i w)=n:=by
 have hk0:306≤k∧k≤3652364:=by omega
 have ho0:0≤o∧o≤146096:=by omega
 have hke:k=146097*e+o:=by omega
 obtain⟨y1,y2,y3,y4⟩:=p7 o ho0.1 ho0.2 y hy;clear hy;have hi0:0≤i∧i≤365∧(i=365→(y+1)%4=0∧((y+1)%100≠0∨(y+1)%400=0)):=by
  unfold stY at y3 y4 hi;have f1:(y+1)/4≤y/4+1:=by omega
  have f2:y/100≤(y+1)/100:=by omega
  have f3:(y+1)/4=y/4+1→(y+1)%4=0:=by omega
  have f4:(y+1)/100=y/100→(y+1)%100≠0:=by omega
  refine⟨by omega,?_,?_⟩
  ·rcases y4 with y4| ⟨y4,y5⟩
   ·omega
   ·subst y4;subst y5;omega
  ·intro h365;rcases y4 with y4| ⟨y4,y5⟩
   ·exact⟨f3 (by omega),.inl (f4 (by omega))⟩
   ·subst y4;decide
 have hm0:0≤m∧m≤11:=by omega
 have hdm:dayM (y+400*e) m (i-(153*m+2)/5+1)=k-719468:=by
  unfold dayM;have a1:(y+400*e)/400=e:=by omega
  have a2:(y+400*e)%400=y:=by omega
  rw[a1,a2];unfold stY at hi;omega
 have ht:3600*(w%86400/3600)+60*(w%86400/60%60)+w%86400%60=w%86400∧0≤w%86400/3600∧w%86400/3600≤23∧0≤w%86400/60%60∧w%86400/60%60≤59∧0≤w%86400%60∧w%86400%60≤59:=by omega
 obtain⟨t0,t1,t2,t3,t4,t5,t6⟩:=ht;have hs0:stY 0=0:=rfl;have hs9:stY 399=145731:=by decide
 by_cases c:12<m+3
 ·have hd:dtC y e m i w=⟨y+400*e+1,m-9,i-(153*m+2)/5+1,w%86400/3600,w%86400/60%60,w%86400%60⟩:=by unfold dtC;rw[G5 c,G5 c]
  rw[hd];have hT:∀x:Dt,okD x=(decide (1≤x.d)&&decide (x.d≤daysF x.y x.m)&&decide (0≤x.h)&&decide (x.h≤23)&&decide (0≤x.i)&&decide (x.i≤59)&&decide (0≤x.s)&&decide (x.s≤59)):=fun _=>rfl
  have yb:1≤y+400*e+1∧y+400*e+1≤9999:=by
   refine⟨by omega,?_⟩;by_cases hc:y+400*e+1≤9999
   ·exact hc
   ·exfalso;have:y=399∧e=24:=by omega
    obtain⟨rfl,rfl⟩:=this;rw[hs9]at hi;omega
  have dd:1≤i-(153*m+2)/5+1∧i-(153*m+2)/5+1≤daysF (y+400*e+1) (m-9):=by
   rw[iM yb.1 yb.2 (by omega) (by omega)];have:m=10∨m=11:=by omega
   rcases this with rfl|rfl
   ·rw[G2 (by decide),G2 (by decide)];omega
   ·rw[G5 (by decide)];by_cases hl:leapF (y+400*e+1)=true
    ·rw[G5 hl];omega
    ·rw[G2 hl];have:i≠365:=fun h365=>hl (ux (by have:=hi0.2.2 h365;omega))
     omega
  constructor
  ·rw[hT];simp only[];rw[H0 dd.1,H0 dd.2,H0 t1,H0 t2,H0 t3,H0 t4,H0 t5,H0 t6];rfl
  ·unfold momD dayP;simp only[];rw[G5 (by omega)];have e1:y+400*e+1-1=y+400*e:=(by omega);have e2:m-9+9=m:=(by omega);rw[e1,e2,hdm];omega
 ·have hd:dtC y e m i w=⟨y+400*e,m+3,i-(153*m+2)/5+1,w%86400/3600,w%86400/60%60,w%86400%60⟩:=by unfold dtC;rw[G2 c,G2 c]
  rw[hd];have hT:∀x:Dt,okD x=(decide (1≤x.d)&&decide (x.d≤daysF x.y x.m)&&decide (0≤x.h)&&decide (x.h≤23)&&decide (0≤x.i)&&decide (x.i≤59)&&decide (0≤x.s)&&decide (x.s≤59)):=fun _=>rfl
  have yb:1≤y+400*e∧y+400*e≤9999:=by
   refine⟨?_,by omega⟩;by_cases hc:1≤y+400*e
   ·exact hc
   ·exfalso;have:y=0∧e=0:=by omega
    obtain⟨rfl,rfl⟩:=this;rw[hs0]at hi;omega
  have dd:1≤i-(153*m+2)/5+1∧i-(153*m+2)/5+1≤daysF (y+400*e) (m+3):=by
   rw[iM yb.1 yb.2 (by omega) (by omega)];rw[G2 (by omega)];split<;>omega
  constructor
  ·rw[hT];simp only[];rw[H0 dd.1,H0 dd.2,H0 t1,H0 t2,H0 t3,H0 t4,H0 t5,H0 t6];rfl
  ·unfold momD dayP;simp only[];rw[G2 (by omega)];have e2:m+3-3=m:=(by omega);rw[e2,hdm];omega
theorem eO{n:Int}(h:inM n=true):okD (ofP n)=true∧momD (ofP n)=n:=by
 unfold inM at h;simp only[G1,G6]at h;exact xG h.1 h.2 rfl rfl rfl rfl rfl rfl rfl
theorem nM(r:Int)(x:Bs):dec (enc r++x) 0=(fix r,(enc r).length):=by
 have hl:=m8 r;have hs:=oM r;rw[eg,eB];generalize fix r=c at*;simp only[];by_cases h1:c<128
 ·rw[G5 h1];simp only[K5,J6,L5,G0,G8];rw[ay _ (by omega)];simp[Lib.decodeN,h1]
 ·rw[G2 h1];by_cases h2:c<2048
  ·rw[G5 h2];simp only[K5,J6,L5,N7,G0,G8,L0];rw[ay _ (by omega),ay _ (by omega)];unfold Lib.decodeN;rw[G2 (by omega),G5 (by omega),G5 (by omega)];congr 1;omega
  ·rw[G2 h2];by_cases h3:c<65536
   ·rw[G5 h3];simp only[K5,J6,L5,N7,G0,G8,L0];rw[ay _ (by omega),ay _ (by omega),ay _ (by omega)];unfold Lib.decodeN;rw[G2 (by omega),G2 (by omega),G5 (by omega),G5 (by omega)];congr 1;omega
   ·rw[G2 h3];simp only[K5,J6,L5,N7,G0,G8,L0];rw[ay _ (by omega),ay _ (by omega),ay _ (by omega),ay _ (by omega)];unfold Lib.decodeN;rw[G2 (by omega),G2 (by omega),G2 (by omega),G5 (by omega),G5 (by omega)];congr 1;omega
theorem mC{r:Int}(h:Rune r):fix r=r.toNat:=by
 unfold fix Utf8.valid;unfold Rune at h;rw[G5 (by simp;omega)]
theorem gN(c:Int)(l:List Int):encs (c::l)=enc c++encs l:=by simp[encs]
theorem iz:∀{l:List Int},(∀c∈l,Rune c)→runesF (encs l)=l
 | [],_=>rfl
 |c::l,h=>by
  have hc:=h c (by simp);have hp:=oQ c;rw[dA _ (by rw[gN];intro e;have h2:=I8 List.length e;rw[G4]at h2;simp only[G8]at h2;omega),gN,nM,mC hc,List.drop_left' rfl,iz fun x hx=>h x (by simp[hx])];unfold Rune at hc;congr 1
  simp only[];omega
theorem sj(m:Int):Value.int .u8 ((UInt8.ofNat (48+(m%10).toNat)).toNat:Int)=.int .u8 (48+m%10):=by
 have h:(m%10).toNat<10:=by omega
 rw[UInt8.toNat_ofNat_of_lt' (by show _<256;omega)];congr 1
 omega
theorem sk(n:Int)(h0:0≤n)(h1:n<100)(w:World):Calls Tryz.prog 93 #[.int .i64 n,.int .i64 2] w fun e w'=>
  e=.returned (.string ⟨#[UInt8.ofNat (48+(n/10%10).toNat),UInt8.ofNat (48+(n%10).toNat)]⟩)∧Below w.heap.size w w':=by
 have hm2:madeCells #[Value.int .u8 0] 2= #[.int .u8 0,.int .u8 0]:=by kernel_rfl
 have hmk:∀w:World,(Instr.makeSlice 57 (.int .i64 2) (.int .i64 2)).run Tryz.prog w=.ok (.slice (some ⟨w.heap.size,0,none⟩) 2 2) (w.alloc (.cells #[.int .u8 0,.int .u8 0] 5)):=fun w=>by
  rw[← hm2];exact run_make_row' (P:=Tryz.prog) 57 5 (.int .u8 0) 1 Tryz.underlying57 (by kernel_rfl) rfl .i64 .i64 2 (by decide) (by decide) w
 have hcv:(convert 57 9 (.slice (some ⟨w.heap.size,0,none⟩) 2 2)).run Tryz.prog (w.alloc (.cells #[.int .u8 (48+n/10%10),.int .u8 (48+n%10)] 5))=.ok (.string ⟨#[UInt8.ofNat (48+(n/10%10).toNat),UInt8.ofNat (48+(n%10).toNat)]⟩) (w.alloc (.cells #[.int .u8 (48+n/10%10),.int .u8 (48+n%10)] 5)):=by
  refine run_convert_bytes_back _ 57 9 5 ⟨w.heap.size,0,none⟩ 2 [UInt8.ofNat (48+(n/10%10).toNat),UInt8.ofNat (48+(n%10).toNat)] Tryz.underlying57 Tryz.underlying5 Tryz.underlying9 fun j hj=>?_
  have hj:j<2:=hj;have:j=0∨j=1:=by omega
  rcases this with rfl|rfl<;>exact(World.cell?_alloc_new ..).trans (I8 some (sj _).symm)
 have t3:=Tryz.underlying3;have t4:=Tryz.underlying4;have t5:=Tryz.underlying5;have t9:=Tryz.underlying9;have t57:=Tryz.underlying57
 have u3:=run_underlying t3;have u4:=run_underlying t4;have u5:=run_underlying t5;have u9:=run_underlying t9;have u57:=run_underlying t57
 have m0:(n).tmod 10=n%10:=L6 (by omega);have d0:(n).tdiv 10=n/10:=M0 (by omega);have m1:(n/10).tmod 10=n/10%10:=L6 (by omega);have d1:(n/10).tdiv 10=n/10/10:=M0 (by omega);generalize UInt8.ofNat (48+(n/10%10).toNat)=c0 at*;generalize UInt8.ofNat (48+(n%10).toNat)=c1 at*
 go_enter Tryz.func93,Tryz.ntmps93
 go_wp2
 refine wp_loop_rounds 3 ?_;rw[rounds_succ]
 go_wp2
 rw[rounds_succ]
 go_wp2
 rw[rounds_succ]
 go_wp2
 go_wp2_with (simp only[hcv])
 go_ret
 exact⟨rfl,Below.alloc (R7 _ _) (H6 _) _⟩
theorem sm(n:Int)(h0:0≤n)(h1:n<10000)(w:World):Calls Tryz.prog 93 #[.int .i64 n,.int .i64 4] w fun e w'=>
  e=.returned (.string ⟨#[UInt8.ofNat (48+(n/10/10/10%10).toNat),UInt8.ofNat (48+(n/10/10%10).toNat),UInt8.ofNat (48+(n/10%10).toNat),UInt8.ofNat (48+(n%10).toNat)]⟩)∧Below w.heap.size w w':=by
 have hm2:madeCells #[Value.int .u8 0] 4= #[.int .u8 0,.int .u8 0,.int .u8 0,.int .u8 0]:=by kernel_rfl
 have hmk:∀w:World,(Instr.makeSlice 57 (.int .i64 4) (.int .i64 4)).run Tryz.prog w=.ok (.slice (some ⟨w.heap.size,0,none⟩) 4 4) (w.alloc (.cells #[.int .u8 0,.int .u8 0,.int .u8 0,.int .u8 0] 5)):=fun w=>by
  rw[← hm2];exact run_make_row' (P:=Tryz.prog) 57 5 (.int .u8 0) 1 Tryz.underlying57 (by kernel_rfl) rfl .i64 .i64 4 (by decide) (by decide) w
 have hcv:(convert 57 9 (.slice (some ⟨w.heap.size,0,none⟩) 4 4)).run Tryz.prog (w.alloc (.cells #[.int .u8 (48+n/10/10/10%10),.int .u8 (48+n/10/10%10),.int .u8 (48+n/10%10),.int .u8 (48+n%10)] 5))=.ok (.string ⟨#[UInt8.ofNat (48+(n/10/10/10%10).toNat),UInt8.ofNat (48+(n/10/10%10).toNat),UInt8.ofNat (48+(n/10%10).toNat),UInt8.ofNat (48+(n%10).toNat)]⟩) (w.alloc (.cells #[.int .u8 (48+n/10/10/10%10),.int .u8 (48+n/10/10%10),.int .u8 (48+n/10%10),.int .u8 (48+n%10)] 5)):=by
  refine run_convert_bytes_back _ 57 9 5 ⟨w.heap.size,0,none⟩ 4 [UInt8.ofNat (48+(n/10/10/10%10).toNat),UInt8.ofNat (48+(n/10/10%10).toNat),UInt8.ofNat (48+(n/10%10).toNat),UInt8.ofNat (48+(n%10).toNat)] Tryz.underlying57 Tryz.underlying5 Tryz.underlying9 fun j hj=>?_
  have hj:j<4:=hj;have:j=0∨j=1∨j=2∨j=3:=by omega
  rcases this with rfl|rfl|rfl|rfl<;>exact(World.cell?_alloc_new ..).trans (I8 some (sj _).symm)
 have t3:=Tryz.underlying3;have t4:=Tryz.underlying4;have t5:=Tryz.underlying5;have t9:=Tryz.underlying9;have t57:=Tryz.underlying57
 have u3:=run_underlying t3;have u4:=run_underlying t4;have u5:=run_underlying t5;have u9:=run_underlying t9;have u57:=run_underlying t57
 have m0:(n).tmod 10=n%10:=L6 (by omega);have d0:(n).tdiv 10=n/10:=M0 (by omega);have m1:(n/10).tmod 10=n/10%10:=L6 (by omega);have d1:(n/10).tdiv 10=n/10/10:=M0 (by omega);have m2:(n/10/10).tmod 10=n/10/10%10:=L6 (by omega);have d2:(n/10/10).tdiv 10=n/10/10/10:=M0 (by omega);have m3:(n/10/10/10).tmod 10=n/10/10/10%10:=L6 (by omega);have d3:(n/10/10/10).tdiv 10=n/10/10/10/10:=M0 (by omega);generalize UInt8.ofNat (48+(n/10/10/10%10).toNat)=c0 at*;generalize UInt8.ofNat (48+(n/10/10%10).toNat)=c1 at*;generalize UInt8.ofNat (48+(n/10%10).toNat)=c2 at*;generalize UInt8.ofNat (48+(n%10).toNat)=c3 at*
 go_enter Tryz.func93,Tryz.ntmps93
 go_wp2
 refine wp_loop_rounds 5 ?_;rw[rounds_succ]
 go_wp2
 rw[rounds_succ]
 go_wp2
 rw[rounds_succ]
 go_wp2
 rw[rounds_succ]
 go_wp2
 rw[rounds_succ]
 go_wp2
 go_wp2_with (simp only[hcv])
 go_ret
 exact⟨rfl,Below.alloc (R7 _ _) (H6 _) _⟩
end Go.Av
