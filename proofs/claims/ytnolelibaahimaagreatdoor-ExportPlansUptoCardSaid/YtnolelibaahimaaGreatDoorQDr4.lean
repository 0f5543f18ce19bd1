/- Parts. -/
import Derived.Test.YtnolelibaahimaaGreatDoorQHb
import Derived.Lib.TrimUEq
import Derived.Test.YtnolelibaahimaaGreatDoorQEx1
set_option linter.unusedSimpArgs false
set_option linter.unusedVariables false
set_option linter.unusedSectionVars false
set_option linter.unnecessarySimpa false
set_option maxRecDepth 100000
set_option maxHeartbeats 16000000
namespace Go.Av
open Go Go.Proofs Go.RowKit
def dec(s:Bs)(k:Nat):Nat×Nat:=Utf8.decode ⟨s.toArray⟩ k
theorem eB(s:Bs)(k:Nat):dec s k=Lib.decodeN (s.length-k) (s.getD k 0).toNat (s.getD (k+1) 0).toNat (s.getD (k+2) 0).toNat (s.getD (k+3) 0).toNat:=by
 unfold dec;rw[Lib.decode_N]
theorem aX(n:Nat)(h:n<256):(UInt8.ofNat n).toNat=n:=by simp;omega
def fix(r:Int):Nat:=if Utf8.valid r=true then r.toNat else Utf8.runeError
theorem xt(r:Int):fix r≤1114111:=by
 unfold fix Utf8.valid Utf8.runeError;split
 ·rename_i h;simp at h;omega
 ·omega
theorem vP(r:Int):fix r<55296∨57344≤fix r:=by
 unfold fix Utf8.valid Utf8.runeError;split
 ·rename_i h;simp at h;omega
 ·omega
theorem oK(r:Int):enc r=let c:=fix r
  if c<0x80 then [UInt8.ofNat c]
  else if c<0x800 then [UInt8.ofNat (0xC0+c/64),UInt8.ofNat (0x80+c%64)]
  else if c<0x10000 then [UInt8.ofNat (0xE0+c/4096),UInt8.ofNat (0x80+c/64%64),UInt8.ofNat (0x80+c%64)]
  else [UInt8.ofNat (0xF0+c/262144),UInt8.ofNat (0x80+c/4096%64),UInt8.ofNat (0x80+c/64%64),UInt8.ofNat (0x80+c%64)]:=by
 unfold enc Utf8.encode fix;simp only[];split
 ·split
  ·rfl
  ·split
   ·rfl
   ·split<;>rfl
 ·rfl
theorem aI(s:Bs)(k:Nat)(h:k<s.length):1≤(dec s k).2∧k+(dec s k).2≤s.length:=by
 rw[eB];refine⟨Lib.decodeN_ge1 _ _ _ _ _,?_⟩;unfold Lib.decodeN;repeat (first|split| (simp only[];omega))
theorem gY(s:Bs)(k:Nat)(b:UInt8)(h:s[k]? =some b)(ha:b.toNat<128):dec s k=(b.toNat,1):=by
 rw[eB,P7,h];exact Lib.decodeN_ascii _ _ _ _ _ ha
theorem u9(s:Bs)(k:Nat)(b:UInt8)(h:s[k]? =some b)(ha:128≤b.toNat):
  128≤(dec s k).1∧((dec s k).1<55296∨57343<(dec s k).1∧(dec s k).1≤1114111)∧∀i,i<(dec s k).2→∀c,s[k+i]? =some c→128≤c.toNat:=by
 have hb:s.getD k 0=b:=by rw[P7,h];rfl
 have at_:∀i c,s[k+i]? =some c→s.getD (k+i) 0=c:=fun i c hc=>by rw[P7,hc];rfl
 have l0:∀i,(s.getD i 0).toNat<256:=fun i=>(s.getD i 0).toNat_lt
 have e1:=l0 (k+1);have e2:=l0 (k+2);have e3:=l0 (k+3);have e0:=b.toNat_lt
 rw[eB,hb];generalize h1:(s.getD (k+1) 0).toNat=b1 at*;generalize h2:(s.getD (k+2) 0).toNat=b2 at*;generalize h3:(s.getD (k+3) 0).toNat=b3 at*;have key:∀i c,s[k+i]? =some c→(i=0→c.toNat=b.toNat)∧(i=1→c.toNat=b1)∧(i=2→c.toNat=b2)∧(i=3→c.toNat=b3):=fun i c hc=>by
  have:=at_ i c hc;refine⟨fun e=>?_,fun e=>?_,fun e=>?_,fun e=>?_⟩<;>subst e
  ·rw[← this];simp only[S6];rw[hb]
  ·rw[← h1,this]
  ·rw[← h2,this]
  ·rw[← h3,this]
 generalize s.length-k=n;have fin:∀x m:Nat,(128≤x∧(x<55296∨57343<x∧x≤1114111))→(∀i,i<m→(i=0∧128≤b.toNat)∨(i=1∧128≤b1)∨(i=2∧128≤b2)∨(i=3∧128≤b3))→
   128≤(x,m).1∧((x,m).1<55296∨57343<(x,m).1∧(x,m).1≤1114111)∧∀i,i<(x,m).2→∀c,s[k+i]? =some c→128≤c.toNat:=fun x m hx hm=>
  ⟨hx.1,hx.2,fun i hi c hc=>by
   obtain⟨k0,k1,k2,k3⟩:=key i c hc;rcases hm i hi with⟨e,h⟩| ⟨e,h⟩| ⟨e,h⟩| ⟨e,h⟩
   ·rw[k0 e];exact h
   ·rw[k1 e];exact h
   ·rw[k2 e];exact h
   ·rw[k3 e];exact h⟩
 unfold Lib.decodeN;rw[I0 (by omega)];split
 ·split
  ·exact fin _ _ (by omega) (fun i hi=>by omega)
  ·exact fin _ _ (by omega) (fun i hi=>by omega)
 ·split
  ·split
   ·exact fin _ _ (by omega) (fun i hi=>by omega)
   ·exact fin _ _ (by omega) (fun i hi=>by omega)
  ·split
   ·split
    ·exact fin _ _ (by omega) (fun i hi=>by omega)
    ·exact fin _ _ (by omega) (fun i hi=>by omega)
   ·exact fin _ _ (by omega) (fun i hi=>by omega)
end Go.Av
namespace Go.Av
open Go Go.Proofs Go.RowKit
attribute [local irreducible] WP WPl WPix Sat
variable (G:Nat→Option (List AVal))
theorem bp{x:Int}(h0: -2147483648≤x)(h1:x≤2147483647):IntKind.i32.wrap x=x:=by
 simp only[IntKind.wrap,IntKind.bits,IntKind.signed];simp;omega
theorem kA(h j:Heap)(s:Bs)(q:Nat):(h++Blk.iter s q::j)[h.length]? =some (.iter s q):=by simp
end Go.Av
namespace Go.Av
open Go Go.Proofs Go.RowKit
theorem bj(s:Bs)(k:Nat):dec s k=dec (s.drop k) 0:=by
 rw[eB,eB];simp only[P7,N4,M7,S6,N8,Nat.sub_zero,Nat.add_assoc]
theorem iX(s:Bs)(k:Nat)(h:k<s.length):Rune (dec s k).1:=by
 have hb:=I2 h;by_cases ha:s[k].toNat<128
 ·rw[gY s k _ hb ha];exact⟨by simp,by simp;omega⟩
 ·obtain⟨h1,h2,_⟩:=u9 s k _ hb (by omega);exact⟨by omega,by omega⟩
def runesN:Nat→Bs→List Int
 |0,_=>[]
 |f+1,s=>if s=[]then []else((dec s 0).1:Int)::runesN f (s.drop (dec s 0).2)
def runesF(s:Bs):List Int:=runesN s.length s
theorem nJ:∀(f:Nat) (s:Bs),s.length≤f→runesN f s=runesN s.length s:=by
 intro f;induction f using Nat.strongRecOn with
 |ind f ih=>
  intro s hs;cases s with
  |nil=>cases f<;>rfl
  |cons b t=>
   obtain⟨f,rfl⟩:∃g,f=g+1:=⟨f-1,by simp at hs;omega⟩;have hd:=aI (b::t) 0 (by simp);simp only[I6]at hs hd ⊢;rw[runesN,runesN,I0 (by simp),I0 (by simp)];have hl:((b::t).drop (dec (b::t) 0).2).length≤t.length:=(by simp only[M7,I6];omega);rw[ih f (by omega) _ (by omega)];by_cases hf:t.length=f
   ·subst hf;rw[ih t.length (by omega) _ hl]
   ·rw[ih t.length (by omega) _ hl]
theorem eC:runesF []=[]:=rfl
theorem dF(s:Bs)(h:s≠ []):runesF s=((dec s 0).1:Int)::runesF (s.drop (dec s 0).2):=by
 have hl:0<s.length:=Q1.2 h;have hd:=aI s 0 hl;unfold runesF;obtain⟨n,hn⟩:∃n,s.length=n+1:=⟨s.length-1,by omega⟩;rw[hn,runesN,I0 h,nJ n _ (by simp only[M7];omega)]
theorem dU(s:Bs)(k:Nat)(h:k<s.length):runesF (s.drop k)=((dec s k).1:Int)::runesF (s.drop (k+(dec s k).2)):=by
 rw[dF _ (by intro e;have:=K9 List.length e;simp at this;omega), ← bj,R3]
theorem db(s:Bs)(k:Nat)(h:s.length≤k):runesF (s.drop k)=[]:=by
 rw[Q2 h];rfl
theorem bM:∀(n:Nat) (s:Bs),s.length≤n→(runesF s).length≤s.length:=by
 intro n;induction n with
 |zero=>intro s h;have:s=[]:=O1.1 (by omega);subst this;simp[eC]
 |succ n ih=>
  intro s h;by_cases h0:s=[]
  ·subst h0;simp[eC]
  ·have hd:=aI s 0 (Q1.2 h0);rw[dF s h0];have:=ih (s.drop (dec s 0).2) (by simp only[M7];omega);simp only[M7]at this;simp only[I6];omega
theorem cD:∀(n:Nat) (s:Bs),s.length≤n→∀c∈runesF s,Rune c:=by
 intro n;induction n with
 |zero=>intro s h c hc;have:s=[]:=O1.1 (by omega);subst this;simp[eC]at hc
 |succ n ih=>
  intro s h c hc;by_cases h0:s=[]
  ·subst h0;simp[eC]at hc
  ·have hl:=Q1.2 h0;have hd:=aI s 0 hl;rw[dF s h0]at hc;rcases K4.1 hc with rfl|hc
   ·exact iX s 0 hl
   ·exact ih _ (by simp only[M7];omega) c hc
def blankR(c:Int):Bool:=decide (c=9∨c=10∨c=13∨c=32∨c=160∨c=8232∨c=8233∨c=12288)
def ctlR(c:Int):Bool:=decide (c<32∨(127≤c∧c≤159))
def clnR:List Int→List Int→Bool→List Int
 | [],o,_=>o
 |c::t,o,w=>if blankR c then clnR t o (decide (0<o.length))else if ctlR c then clnR t o w else clnR t (o++(if w then [32,c]else [c])) false
def cleanR(s:Bs):List Int:=clnR (runesF s) [] false
def encs(l:List Int):Bs:=l.flatMap enc
def cleanF(s:Bs):Bs:=encs (cleanR s)
theorem ii(r:Int):1≤(enc r).length:=by
 rw[oK];simp only[];repeat (first|split|simp)
theorem gd(l:List Int):(encs l).length≤4*l.length∧l.length≤(encs l).length:=by
 induction l with
 |nil=>simp[encs]
 |cons c t ih=>
  have h1:=dr c;have h2:=ii c;simp only[encs,R4,J3,I6]at ih ⊢;omega
theorem gf:∀(l o:List Int) (w:Bool),(clnR l o w).length≤o.length+2*l.length
 | [],o,w=>by simp[clnR]
 |c::t,o,w=>by
  rw[clnR];by_cases hb:blankR c=true
  ·rw[I7 hb];have:=gf t o (decide (0<o.length));simp only[I6];omega
  ·rw[I0 hb];by_cases hk:ctlR c=true
   ·rw[I7 hk];have:=gf t o w;simp only[I6];omega
   ·rw[I0 hk];have:=gf t (o++(if w then [32,c]else [c])) false;have hw:(if w then [32,c]else [c]:List Int).length≤2:=(by split<;>simp);simp only[J3,I6]at this ⊢;omega
theorem dV:∀(l o:List Int) (w:Bool),(∀c∈l,Rune c)→(∀c∈o,Rune c)→∀c∈clnR l o w,Rune c
 | [],o,w,_,h=>by simpa [clnR]using h
 |c::t,o,w,hl,ho=>by
  rw[clnR];have ht:∀x∈t,Rune x:=fun x hx=>hl x (by simp[hx])
  split
  ·exact dV t o _ ht ho
  ·split
   ·exact dV t o w ht ho
   ·refine dV t _ false ht ?_;intro x hx;rcases P6.1 hx with hx|hx
    ·exact ho x hx
    ·have h32:Rune 32:=⟨by decide,by decide⟩
     split at hx
     ·simp at hx;rcases hx with rfl|rfl
      ·exact h32
      ·exact hl _ (by simp)
     ·simp at hx;subst hx;exact hl _ (by simp)
theorem pO(s:Bs):(cleanR s).length≤2*s.length:=by
 have h1:=gf (runesF s) [] false;have h2:=bM s.length s (J0 _);simp only[L8]at h1;unfold cleanR;omega
theorem jz(s:Bs):(cleanF s).length≤8*s.length:=by
 have h1:=pO s;have h2:=gd (cleanR s);unfold cleanF;omega
def cutN:Nat→Bs→Nat→Nat
 |0,_,_=>0
 |f+1,s,n=>if s=[]then 0 else if n<(dec s 0).2 then 0 else(dec s 0).2+cutN f (s.drop (dec s 0).2) (n-(dec s 0).2)
def cutF(s:Bs)(n:Nat):Bs:=s.take (cutN s.length s n)
def rightN:Nat→Bs→Bool
 |0,_=>true
 |f+1,s=>if s=[]then true else if (dec s 0).1=65533∧(dec s 0).2=1 then false else rightN f (s.drop (dec s 0).2)
def rightS(s:Bs):Bool:=rightN s.length s
theorem nK:∀(f:Nat) (s:Bs),s.length≤f→rightN f s=rightN s.length s:=by
 intro f;induction f using Nat.strongRecOn with
 |ind f ih=>
  intro s hs;cases s with
  |nil=>cases f<;>rfl
  |cons b t=>
   obtain⟨f,rfl⟩:∃g,f=g+1:=⟨f-1,by simp at hs;omega⟩;have hd:=aI (b::t) 0 (by simp);simp only[I6]at hs hd ⊢;rw[rightN,rightN,I0 (show ¬(b::t)=[] by simp),I0 (show ¬(b::t)=[] by simp)];have hl:((b::t).drop (dec (b::t) 0).2).length≤t.length:=(by simp only[M7,I6];omega);rw[ih f (by omega) _ (by omega),ih t.length (by omega) _ hl]
theorem nM(s:Bs)(h:s≠ []):rightS s=if (dec s 0).1=65533∧(dec s 0).2=1 then false else rightS (s.drop (dec s 0).2):=by
 have hl:0<s.length:=Q1.2 h;have hd:=aI s 0 hl;unfold rightS;obtain⟨n,hn⟩:∃n,s.length=n+1:=⟨s.length-1,by omega⟩;rw[hn,rightN,I0 h,nK n _ (by simp only[M7];omega)]
theorem gZ(s:Bs)(k:Nat)(h:k<s.length):rightS (s.drop k)=if (dec s k).1=65533∧(dec s k).2=1 then false else rightS (s.drop (k+(dec s k).2)):=by
 rw[nM _ (by intro e;have:=K9 List.length e;simp at this;omega), ← bj,R3]
theorem nN(n b0 b1 b2 b3:Nat)(h1:b1<256)(h2:b2<256)(h0:b0<256)(h:(Lib.decodeN n b0 b1 b2 b3).1=65533):(Lib.decodeN n b0 b1 b2 b3).2=1↔¬(3≤n∧b0=239∧b1=191∧b2=189):=by
 unfold Lib.decodeN at*;by_cases c1:b0<128
 ·rw[I7 c1]at *;simp only[]at *;omega
 rw[I0 c1]at*;by_cases c2:(b0/32=6∧(1<n∧b1/64=2))
 ·rw[I7 c2]at*;by_cases c3:b0%32*64+b1%64≥128
  ·rw[I7 c3]at *;simp only[]at *;omega
  ·rw[I0 c3]at *;exact⟨fun _ hc=>by omega,fun _=>rfl⟩
 rw[I0 c2]at*;by_cases c4:b0/16=14∧(1<n∧b1/64=2)∧(2<n∧b2/64=2)
 ·rw[I7 c4]at*;by_cases c5:(b0%16*4096+b1%64*64+b2%64≥2048∧(b0%16*4096+b1%64*64+b2%64<55296∨(57344≤b0%16*4096+b1%64*64+b2%64∧b0%16*4096+b1%64*64+b2%64≤1114111)))
  ·rw[I7 c5]at *;simp only[]at *;omega
  ·rw[I0 c5]at *;exact⟨fun _ hc=>by omega,fun _=>rfl⟩
 rw[I0 c4]at*;by_cases c6:b0/8=30∧(1<n∧b1/64=2)∧(2<n∧b2/64=2)∧(3<n∧b3/64=2)
 ·rw[I7 c6]at*;by_cases c7:(b0%8*262144+b1%64*4096+b2%64*64+b3%64≥65536∧(b0%8*262144+b1%64*4096+b2%64*64+b3%64<55296∨(57344≤b0%8*262144+b1%64*4096+b2%64*64+b3%64∧b0%8*262144+b1%64*4096+b2%64*64+b3%64≤1114111)))
  ·rw[I7 c7]at *;simp only[]at *;omega
  ·rw[I0 c7]at *;exact⟨fun _ hc=>by omega,fun _=>rfl⟩
 ·rw[I0 c6]at *;exact⟨fun _ hc=>by omega,fun _=>rfl⟩
theorem DR(u:Bs):Lib.hasPrefix u [239,191,189]=true↔(3≤u.length∧(u.getD 0 0).toNat=239∧(u.getD 1 0).toNat=191∧(u.getD 2 0).toNat=189):=by
 have key:∀(x:UInt8) (n:Nat),n<256→(x.toNat=n↔x=UInt8.ofNat n):=fun x n h=>by rw[← UInt8.toNat_inj,aX n h]
 match u with
 | []=>simp[Lib.hasPrefix]
 | [a]=>simp[Lib.hasPrefix]
 | [a,b]=>simp[Lib.hasPrefix]
 |a::b::c::t=>
  simp only[V1,X5,I6];rw[key a 239 (by omega),key b 191 (by omega),key c 189 (by omega)];unfold Lib.hasPrefix;simp only[List.isPrefixOf,I1,beq_iff_eq];constructor
  ·rintro⟨rfl,rfl,rfl,_⟩;exact⟨by omega,rfl,rfl,rfl⟩
  ·rintro⟨_,rfl,rfl,rfl⟩;exact⟨rfl,rfl,rfl,trivial⟩
theorem ua(s:Bs)(k:Nat)(hd:(dec s k).1=65533):(dec s k).2=1↔Lib.hasPrefix (s.drop k) [239,191,189]=false:=by
 rw[bj]at*;generalize s.drop k=u at*;rw[← Bool.not_eq_true,DR];rw[eB]at*;exact nN _ _ _ _ _ (UInt8.toNat_lt _) (UInt8.toNat_lt _) (UInt8.toNat_lt _) hd
end Go.Av
namespace Go.Av
open Go Go.Proofs Go.RowKit
attribute [local irreducible] WP WPl WPix Sat
variable (G:Nat→Option (List AVal))
theorem pP(c:Int)(h:Heap):Sat (CT G) 148 [.int .i32 c] h (fun r h'=>r=.bool (blankR c)∧h'=h):=by
 have yes:(c=9∨c=10∨c=13∨c=32∨c=160∨c=8232∨c=8233∨c=12288)→blankR c=true:=fun h=>M0 h
 have no:¬(c=9∨c=10∨c=13∨c=32∨c=160∨c=8232∨c=8233∨c=12288)→blankR c=false:=fun h=>L6 h
 refine sb [.tmp 2] Tryz.func148 ?_;intro Q hQ;refine wk trivial ?_;refine cq trivial (fun c0=>?_) (fun c0=>?_)<;>(try exact c0.elim)<;>(refine wk trivial ?_)
 ·refine cq trivial (fun d=>?_) (fun d=>?_)<;>(try exact d.elim)<;>(refine wk trivial ?_)
  ·refine ee hQ trivial ?_;refine fR (.bool _) ?_;rw[yes (by omega)]
  ·exfalso;omega
 refine cq trivial (fun c1=>?_) (fun c1=>?_)<;>(try exact c1.elim)<;>(refine wk trivial ?_)
 ·refine cq trivial (fun d=>?_) (fun d=>?_)<;>(try exact d.elim)<;>(refine wk trivial ?_)
  ·refine ee hQ trivial ?_;refine fR (.bool _) ?_;rw[yes (by omega)]
  ·exfalso;omega
 refine cq trivial (fun c2=>?_) (fun c2=>?_)<;>(try exact c2.elim)<;>(refine wk trivial ?_)
 ·refine cq trivial (fun d=>?_) (fun d=>?_)<;>(try exact d.elim)<;>(refine wk trivial ?_)
  ·refine ee hQ trivial ?_;refine fR (.bool _) ?_;rw[yes (by omega)]
  ·exfalso;omega
 refine cq trivial (fun c3=>?_) (fun c3=>?_)<;>(try exact c3.elim)<;>(refine wk trivial ?_)
 ·refine cq trivial (fun d=>?_) (fun d=>?_)<;>(try exact d.elim)<;>(refine wk trivial ?_)
  ·refine ee hQ trivial ?_;refine fR (.bool _) ?_;rw[yes (by omega)]
  ·exfalso;omega
 refine cq trivial (fun c4=>?_) (fun c4=>?_)<;>(try exact c4.elim)<;>(refine wk trivial ?_)
 ·refine cq trivial (fun d=>?_) (fun d=>?_)<;>(try exact d.elim)<;>(refine wk trivial ?_)
  ·refine ee hQ trivial ?_;refine fR (.bool _) ?_;rw[yes (by omega)]
  ·exfalso;omega
 refine cq trivial (fun c5=>?_) (fun c5=>?_)<;>(try exact c5.elim)<;>(refine wk trivial ?_)
 ·refine cq trivial (fun d=>?_) (fun d=>?_)<;>(try exact d.elim)<;>(refine wk trivial ?_)
  ·refine ee hQ trivial ?_;refine fR (.bool _) ?_;rw[yes (by omega)]
  ·exfalso;omega
 refine cq trivial (fun c6=>?_) (fun c6=>?_)<;>(try exact c6.elim)<;>(refine wk trivial ?_)
 ·refine cq trivial (fun d=>?_) (fun d=>?_)<;>(try exact d.elim)<;>(refine wk trivial ?_)
  ·refine ee hQ trivial ?_;refine fR (.bool _) ?_;rw[yes (by omega)]
  ·exfalso;omega
 refine cq trivial (fun d=>?_) (fun d=>?_)<;>(try exact d.elim)<;>(refine wk trivial ?_)
 ·refine ee hQ trivial ?_;refine fR (.bool _) ?_;rw[yes (by omega)]
 ·refine ee hQ trivial ?_;refine fR (.bool _) ?_;rw[no (by omega)]
theorem mw(c:Int)(h:Heap):Sat (CT G) 150 [.int .i32 c] h (fun r h'=>r=.bool (ctlR c)∧h'=h):=by
 refine sb [.tmp 2] Tryz.func150 ?_;intro Q hQ;refine wk trivial ?_;(first|refine gq trivial (fun g1=>?_) (fun g1=>?_)|refine pq trivial (fun g1=>?_) (fun g1=>?_))<;>(try exact g1.elim)<;>(try refine sq trivial ?_)<;>(refine wk trivial ?_)
 ·refine ee hQ trivial ?_;refine fR (.bool _) ?_;rw[show ctlR c=true from M0 (.inl g1)]
 ·(first|refine gq trivial (fun g2=>?_) (fun g2=>?_)|refine pq trivial (fun g2=>?_) (fun g2=>?_))<;>(try exact g2.elim)<;>(try refine sq trivial ?_)<;>(refine wk trivial ?_)
  ·refine ee hQ trivial ?_;refine fR (.bool _) ?_;unfold ctlR;congr 1
   rw[N3];simp;omega
  ·refine ee hQ trivial ?_;refine fR (.bool _) ?_;rw[show ctlR c=false from L6 (by omega)]
theorem my(h j:Heap)(a:AVal)(v:Nat)(o s:Bs)(q:Nat):(bldH h (Blk.iter s q::j) a v o)[h.length+2]? =some (.iter s q):=by
 unfold bldH;rw[J1 (by omega),show h.length+2-h.length=2 by omega];rfl
theorem mz(h j:Heap)(a:AVal)(v:Nat)(o:Bs)(x y:Blk):(bldH h (x::j) a v o).set (h.length+2) y=bldH h (y::j) a v o:=by
 unfold bldH;rw[List.set_append_right _ _ (by omega),show h.length+2-h.length=2 by omega];rfl
theorem eD(s:Bs)(hs:s.length≤100000000)(h:Heap):Sat (CT G) 111 [.str s] h (fun r h'=>r=.str (cleanF s)∧h'=h):=by
 have F:= @mz;refine sb [.tmp 2] Tryz.func111 ?_;intro Q hQ;(repeat (first|refine w1 (fun K hK=>?_)|refine w2 ?_|refine w3 ?_| ((first|refine w4 ?_|refine wD ?_|refine w5 ?_|refine w6 ?_|refine w7 ?_);try refine sq F ?_)| (refine w8 ?_;refine sq F ?_;refine w9 ?_)))
 refine hK _ _ (I9 ?_);clear hK K;(repeat (first|refine w1 (fun K hK=>?_)|refine w2 ?_|refine w3 ?_| ((first|refine w4 ?_|refine wD ?_|refine w5 ?_|refine w6 ?_|refine w7 ?_);try refine sq F ?_)| (refine w8 ?_;refine sq F ?_;refine w9 ?_)))
 refine hK _ _ ⟨_,_,Weak.virtCell (p:=h.length) (v:=0) 5 1 (by omega) (by simp(disch:=first|omega| (simp only[go_sem, ↓reduceIte,seval];first|done|omega)|fail) only[go_sem, ↓reduceIte,seval,F];rfl) 1 rfl,?_⟩;clear hK K;refine wk F ?_;refine lm (fun nL tL hL=>∃(a:AVal) (v k:Nat) (out:List Int) (w:Bool),s.length-k=nL∧bldH h [.iter s k] a v (encs out)=hL∧tL 4=.bool w∧bldA a h.length∧k≤s.length∧clnR (runesF (s.drop k)) out w=cleanR s∧(encs out).length+8*(s.length-k)≤8*s.length) ((fun(a:AVal) (v k:Nat) (out:List Int) (w:Bool)=>(s.length-k:Nat)) ((.nil (.pointer none))) (0) (0) ([]) (false)) ?_ ?_
 ·refine I9 ⟨(.nil (.pointer none)),0,0,[],false,rfl,by simp[bldH,bldR,bufR,encs],?_,.inl rfl,by omega,rfl,by simp[encs]⟩;all_goals try exact zZz F
 rintro _ s2 h' ⟨a,v,k,out,w,rfl,rfl,e4,ha,hk,hv,hl⟩ K2 hK2;simp only[ah,ao,Nat.reduceEqDiff, ↓reduceIte]at e4;have F:=F2 F e4;refine wk F ?_;refine eN (my _ _ _ _ _ _ _) (fun hlt=>?_) (fun hge=>?_)
 ·have hR:=iX s k hlt;have hp:=aI s k hlt;rw[dU s k hlt,clnR]at hv;rw[show Utf8.decode ⟨s.toArray⟩ k=dec s k from rfl];generalize dec s k=d at*;obtain⟨c,m⟩:=d;simp only[]at hR hp hv ⊢;try refine sq F ?_
  refine wk F ?_;refine kq F (pP G c _) ?_;refine cq F (fun c1=>?_) (fun c1=>?_)<;>(try exact c1.elim)<;>(refine wk F ?_)
  ·rw[I7 c1]at hv;refine kq F (vO G a h [.iter s (k+m)] v (encs out)) ?_;have ho:decide (((encs out).length:Int)>0)=decide (0<out.length):=by
    have:=gd out;rw[N3];simp only[I4];omega
   have F:=F2 F ho;(try refine sq F ?_);refine hK2 _ _ _ (I9 ⟨a,v,k+m,out,decide (0<out.length),rfl,aw,?_,ha,by omega,hv,by omega⟩) (by omega);all_goals try exact zZz F
  ·rw[I0 (by simp[c1])]at hv;refine kq F (mw G c _) ?_;refine cq F (fun c2=>?_) (fun c2=>?_)<;>(try exact c2.elim)<;>(refine wk F ?_)
   ·rw[I7 c2]at hv;refine hK2 _ _ _ (I9 ⟨a,v,k+m,out,w,rfl,aw,?_,ha,by omega,hv,by omega⟩) (by omega);all_goals try exact zZz F
   ·rw[I0 (by simp[c2])]at hv;have he:=dr c;have e1:encs (out++[32,(c:Int)])=encs out++[32]++enc c:=by
     simp only[encs,List.flatMap_append,R4,X7,M4,N2];rfl
    have e2:encs (out++[(c:Int)])=encs out++enc c:=by
     simp only[encs,List.flatMap_append,R4,X7,M4]
    refine cq F (fun c3=>?_) (fun c3=>?_)<;>(try exact c3.elim)<;>(refine wk F ?_)
    ·rw[I7 c3]at hv;refine kq F (lE G a h [.iter s (k+m)] v (encs out) 32 ha (by omega)) ?_;refine kq F (eb G (.hp h.length 0 0 0) c hR h [.iter s (k+m)] (v+1) (encs out++[32]) (.inr rfl) (by simp only[J3,I6,L8];omega)) ?_;refine hK2 _ _ _ (I9 ⟨(.hp h.length 0 0 0),v+1+1,k+m,out++[32,(c:Int)],false,rfl,by rw[e1];simp,?_,.inr rfl,by omega,hv,by rw[e1];simp only[J3,I6,L8];omega⟩) (by omega);all_goals try exact zZz F
    ·rw[I0 (by simp[c3])]at hv;refine kq F (eb G a c hR h [.iter s (k+m)] v (encs out) ha (by omega)) ?_;refine hK2 _ _ _ (I9 ⟨(.hp h.length 0 0 0),v+1,k+m,out++[(c:Int)],false,rfl,by rw[e2],?_,.inr rfl,by omega,hv,by rw[e2];simp only[J3];omega⟩) (by omega);all_goals try exact zZz F
 ·rw[db s k (by omega)]at hv;try refine sq F ?_
  refine wk F ?_;refine(jx G a h [.iter s k] v (encs out)).mono ?_;rintro r h' ⟨rfl,b2,rfl⟩;try refine sq F ?_
  refine wk F ?_;refine ee hQ F ?_;exact Fin.plainE (j:=[bldR a (h.length+1) v (encs out),b2,.iter s k]) (by simp) (.str _) ⟨K9 AVal.str (by unfold cleanF;rw[← hv];rfl),rfl⟩
theorem rL:∀(f:Nat) (s:Bs) (n:Nat),s.length≤f→cutN f s n=cutN s.length s n:=by
 intro f;induction f using Nat.strongRecOn with
 |ind f ih=>
  intro s n hs;cases s with
  |nil=>cases f<;>rfl
  |cons b t=>
   obtain⟨f,rfl⟩:∃g,f=g+1:=⟨f-1,by simp at hs;omega⟩;have hd:=aI (b::t) 0 (by simp);simp only[I6]at hs hd ⊢;have hl:((b::t).drop (dec (b::t) 0).2).length≤t.length:=(by simp only[M7,I6];omega);rw[cutN,cutN,I0 (show ¬(b::t)=[] by simp),I0 (show ¬(b::t)=[] by simp),ih f (by omega) _ _ (by omega),ih t.length (by omega) _ _ hl]
def cutA(s:Bs)(k n:Nat):Nat:=cutN (s.drop k).length (s.drop k) n
theorem eQ(s:Bs)(k n:Nat)(h:s.length≤k):cutA s k n=0:=by unfold cutA;rw[Q2 h];rfl
theorem ij(s:Bs)(k n:Nat)(h:k<s.length):cutA s k n=if n<(dec s k).2 then 0 else(dec s k).2+cutA s (k+(dec s k).2) (n-(dec s k).2):=by
 have hd:=aI s k h;have hl:(s.drop k).length=(s.length-k-1)+1:=by rw[M7];omega
 unfold cutA;rw[hl,cutN,I0 (by intro e;rw[e]at hl;simp at hl), ← bj,R3,rL (s.length-k-1) _ _ (by simp only[M7];omega)]
theorem vQ(s:Bs):∀(f k n:Nat),s.length≤k+f→cutA s k n≤n∧cutA s k n≤s.length-k:=by
 intro f;induction f with
 |zero=>intro k n h;rw[eQ s k n (by omega)];omega
 |succ f ih=>
  intro k n h;rcases R1 k s.length with h1|h1
  ·have hd:=aI s k h1;rw[ij s k n h1];split
   ·omega
   ·have:=ih (k+(dec s k).2) (n-(dec s k).2) (by omega);omega
  ·rw[eQ s k n h1];omega
theorem ub(s:Bs):∀(f k n:Nat),s.length≤k+f→s.length-k≤n→cutA s k n=s.length-k:=by
 intro f;induction f with
 |zero=>intro k n h _;rw[eQ s k n (by omega)];omega
 |succ f ih=>
  intro k n h hn;rcases R1 k s.length with h1|h1
  ·have hd:=aI s k h1;rw[ij s k n h1,I0 (by omega),ih _ _ (by omega) (by omega)];omega
  ·rw[eQ s k n h1];omega
theorem uc(s:Bs)(n:Nat)(hs:s.length≤1073741824)(hn:n≤1073741824)(h:Heap):Sat (CT G) 112 [.str s,.int .i64 n] h (fun r h'=>r=.str (cutF s n)∧h'=h):=by
 skip
 refine sb [.tmp 4] Tryz.func112 ?_;intro Q hQ;(repeat (first|refine w1 (fun K hK=>?_)|refine w2 ?_|refine w3 ?_| ((first|refine w4 ?_|refine wD ?_|refine w5 ?_|refine w6 ?_|refine w7 ?_);try refine sq trivial ?_)| (refine w8 ?_;refine sq trivial ?_;refine w9 ?_)| ((first|refine hK _ _ (w0 ?_)| (clear hK K;refine hK _ _ (w0 ?_))| (clear hK K;clear hK K;refine hK _ _ (w0 ?_)));clear hK K)))
 have tail:∀(t':Env) (e pos:Nat),t' 0=.str s→t' 1=.int .i64 n→t' 5=.int .i64 e→e≤s.length→(n<s.length→e=cutN s.length s n)→K t' (h++[.iter s pos]):=by
  intro t' e pos e0 e1 e5 he hx;refine hK _ _ (I9 ?_);clear hK K;have F:=F3 e0 e1 e5;(repeat (first|refine w1 (fun K hK=>?_)|refine w2 ?_|refine w3 ?_| ((first|refine w4 ?_|refine wD ?_|refine w5 ?_|refine w6 ?_|refine w7 ?_);try refine sq F ?_)| (refine w8 ?_;refine sq F ?_;refine w9 ?_)| ((first|refine hK _ _ (w0 ?_)| (clear hK K;refine hK _ _ (w0 ?_))| (clear hK K;clear hK K;refine hK _ _ (w0 ?_)));clear hK K)))
  refine cq F (fun c1=>?_) (fun c1=>?_)<;>(try exact c1.elim)<;>((repeat (first|refine w1 (fun K hK=>?_)|refine w2 ?_|refine w3 ?_| ((first|refine w4 ?_|refine wD ?_|refine w5 ?_|refine w6 ?_|refine w7 ?_);try refine sq F ?_)| (refine w8 ?_;refine sq F ?_;refine w9 ?_)| ((first|refine hK _ _ (w0 ?_)| (clear hK K;refine hK _ _ (w0 ?_))| (clear hK K;clear hK K;refine hK _ _ (w0 ?_)));clear hK K))))
  ·refine ee hQ F ?_;refine fR (.str _) ?_;have:=ub s s.length 0 n (by omega) (by omega);unfold cutA at this;simp only[U0]at this;unfold cutF;rw[this];simp
  ·refine ee hQ F ?_;refine fR (.str _) ?_;unfold cutF;rw[hx (by omega)]
 refine lm (fun nL tL hL=>∃(en k:Nat),s.length-k=nL∧h++[.iter s k]=hL∧tL 5=.int .i64 en∧k≤s.length∧en≤k∧(k≤n→k+cutA s k (n-k)=cutN s.length s n)∧(n<k→en=cutN s.length s n)) ((fun(en k:Nat)=>(s.length-k:Nat)) (0) (0)) ?_ ?_
 ·refine I9 ⟨0,0,rfl,aw,?_,by omega,by omega,fun _=>by unfold cutA;simp,fun h=>by omega⟩;all_goals try exact zZz trivial
 rintro _ s2 h' ⟨en,k,rfl,rfl,e5,hk,he,hc,hc2⟩ K2 hK2;simp only[ah,ao,Nat.reduceEqDiff, ↓reduceIte]at e5;have F:=e5;(repeat (first|refine w1 (fun K hK=>?_)|refine w2 ?_|refine w3 ?_| ((first|refine w4 ?_|refine wD ?_|refine w5 ?_|refine w6 ?_|refine w7 ?_);try refine sq F ?_)| (refine w8 ?_;refine sq F ?_;refine w9 ?_)| ((first|refine hK _ _ (w0 ?_)| (clear hK K;refine hK _ _ (w0 ?_))| (clear hK K;clear hK K;refine hK _ _ (w0 ?_)));clear hK K)))
 refine eN (kA _ _ _ _) (fun hlt=>?_) (fun hge=>?_)
 ·have hp:=aI s k hlt;have hca:=ij s k (n-k) hlt;rw[show Utf8.decode ⟨s.toArray⟩ k=dec s k from rfl];generalize dec s k=d at*;obtain⟨c,m⟩:=d;simp only[]at hp hca ⊢;try refine sq F ?_
  (repeat (first|refine w1 (fun K hK=>?_)|refine w2 ?_|refine w3 ?_| ((first|refine w4 ?_|refine wD ?_|refine w5 ?_|refine w6 ?_|refine w7 ?_);try refine sq F ?_)| (refine w8 ?_;refine sq F ?_;refine w9 ?_)| ((first|refine hK _ _ (w0 ?_)| (clear hK K;refine hK _ _ (w0 ?_))| (clear hK K;clear hK K;refine hK _ _ (w0 ?_)));clear hK K)))
  refine cq F (fun c1=>?_) (fun c1=>?_)<;>(try exact c1.elim)<;>((repeat (first|refine w1 (fun K hK=>?_)|refine w2 ?_|refine w3 ?_| ((first|refine w4 ?_|refine wD ?_|refine w5 ?_|refine w6 ?_|refine w7 ?_);try refine sq F ?_)| (refine w8 ?_;refine sq F ?_;refine w9 ?_)| ((first|refine hK _ _ (w0 ?_)| (clear hK K;refine hK _ _ (w0 ?_))| (clear hK K;clear hK K;refine hK _ _ (w0 ?_)));clear hK K))))
  ·refine tail _ en (k+m) ?_ ?_ ?_ (by omega) (fun _=>hc2 (by omega))
   ·exact zq F
   ·exact zq F
   ·exact zq F
  ·have hc':=hc (by omega);rw[hca]at hc';refine hK2 _ _ _ (I9 ⟨k,k+m,rfl,aw,?_,by omega,by omega,fun hle=>by rw[I0 (by omega)]at hc';rw[← hc',show n-(k+m)=n-k-m by omega];omega,fun hgt=>by rw[I7 (by omega)]at hc';omega⟩) (by omega);all_goals try exact zZz F
 ·try refine sq F ?_
  (repeat (first|refine w1 (fun K hK=>?_)|refine w2 ?_|refine w3 ?_| ((first|refine w4 ?_|refine wD ?_|refine w5 ?_|refine w6 ?_|refine w7 ?_);try refine sq F ?_)| (refine w8 ?_;refine sq F ?_;refine w9 ?_)| ((first|refine hK _ _ (w0 ?_)| (clear hK K;refine hK _ _ (w0 ?_))| (clear hK K;clear hK K;refine hK _ _ (w0 ?_)));clear hK K)))
  refine tail _ en k ?_ ?_ ?_ (by omega) (fun _=>hc2 (by omega))
  ·exact zq F
  ·exact zq F
  ·exact zq F
theorem jA(s:Bs)(hs:s.length≤1073741824)(h:Heap):Sat (CT G) 184 [.str s] h (fun r h'=>r=.bool (rightS s)∧h'=h):=by
 refine sb [.tmp 2] Tryz.func184 ?_;intro Q hQ;refine wk trivial ?_;refine lm (fun nL tL hL=>∃(k:Nat),s.length-k=nL∧h++[.iter s k]=hL∧k≤s.length∧rightS (s.drop k)=rightS s) ((fun(k:Nat)=>(s.length-k:Nat)) (0)) ?_ ?_
 ·refine I9 ⟨0,rfl,aw,by omega,rfl⟩;all_goals try exact zZz trivial
 rintro _ s2 h' ⟨k,rfl,rfl,hk,hc⟩ K2 hK2;refine wk trivial ?_;refine eN (kA _ _ _ _) (fun hlt=>?_) (fun hge=>?_)
 ·have hp:=aI s k hlt;have hca:=gZ s k hlt;have h3:=ua s k;rw[hc]at hca;rw[show Utf8.decode ⟨s.toArray⟩ k=dec s k from rfl];generalize dec s k=d at*;obtain⟨c,m⟩:=d;simp only[]at hp hca h3 ⊢;try refine sq trivial ?_
  refine wk trivial ?_;(first|refine gq trivial (fun g1=>?_) (fun g1=>?_)|refine pq trivial (fun g1=>?_) (fun g1=>?_))<;>(try exact g1.elim)<;>(try refine sq trivial ?_)<;>(refine wk trivial ?_)
  ·have g0:c=65533:=(by omega);have h4:=h3 g0;refine kq trivial (gD G (s.drop k) [239,191,189] _) ?_;refine cq trivial (fun g2=>?_) (fun g2=>?_)<;>(try exact g2.elim)<;>(refine wk trivial ?_)
   ·refine ee hQ trivial ?_;refine fR (.bool _) ?_;rw[hca,I7 ⟨g0,h4.2 (by simpa using g2)⟩]
   ·refine hK2 _ _ _ (I9 ⟨k+m,rfl,aw,by omega,by rw[hca,I0];rintro⟨_,h5⟩;have:=h4.1 h5;rw[this]at g2;cases g2⟩) (by omega);all_goals try exact zZz trivial
  ·refine hK2 _ _ _ (I9 ⟨k+m,rfl,aw,by omega,by rw[hca,I0];rintro⟨h5,_⟩;exact g1 (by omega)⟩) (by omega);all_goals try exact zZz trivial
 ·rw[Q2 (by omega)]at hc;try refine sq trivial ?_
  refine wk trivial ?_;refine ee hQ trivial ?_;refine fR (.bool _) ?_;rw[← hc];rfl
def shortAt(s:List UInt8):Nat→List UInt8
 |0=>s
 |k+1=>if s[k]? =some 58 then s.drop (k+1)else shortAt s k
def short(s:List UInt8):List UInt8:=shortAt s s.length
mutual
def deep:Elem→Nat→Nat
 | .mk _ _ _ k,d=>if 40≤d then 40 else deepL k d d
def deepL:List Elem→Nat→Nat→Nat
 | [],_,n=>n
 |k::l,d,n=>deepL l d (if n<deep k (d+1)then deep k (d+1)else n)
end
end Go.Av
namespace Go.Av
open Go Go.Proofs Go.RowKit
inductive Outl where
 |mk (title url:Bs) (kids:List Outl)
 deriving Inhabited
namespace Outl
def title:Outl→Bs| .mk t _ _=>t
def url:Outl→Bs| .mk _ u _=>u
def kids:Outl→List Outl| .mk _ _ k=>k
end Outl
mutual
def Outl.av:Outl→AVal
 | .mk t u k=>.agg [.str t,.str u,.sl 3 (ovs k)]
def ovs:List Outl→List AVal
 | []=>[]
 |e::l=>e.av::ovs l
end
theorem xu(l:List Outl):ovs l=l.map Outl.av:=by
 induction l with
 |nil=>rfl
 |cons e l ih=>rw[ovs,ih];rfl
theorem Outl.av_eq(e:Outl):e.av=.agg [.str e.title,.str e.url,.sl 3 (e.kids.map Outl.av)]:=by
 cases e with
 |mk t u k=>simp only[Outl.av,xu,Outl.title,Outl.url,Outl.kids]
mutual
def Outl.sz:Outl→Nat
 | .mk t u k=>1+t.length+u.length+okidsz k
def okidsz:List Outl→Nat
 | []=>0
 |e::l=>e.sz+okidsz l
end
theorem la(l:List Outl):okidsz l=szs Outl.sz l:=by
 induction l with
 |nil=>rfl
 |cons e l ih=>rw[okidsz,ih];rfl
theorem Outl.sz_eq(e:Outl):e.sz=1+e.title.length+e.url.length+szs Outl.sz e.kids:=by
 cases e with
 |mk t u k=>simp only[Outl.sz,la,Outl.title,Outl.url,Outl.kids]
theorem Outl.sz_pos(e:Outl):1≤e.sz:=by rw[Outl.sz_eq];omega
theorem Outl.kids_sz(e:Outl):szs Outl.sz e.kids+1≤e.sz:=by rw[Outl.sz_eq e];omega
theorem mA(l:List Outl):l.length≤szs Outl.sz l:=vF Outl.sz Outl.sz_pos l
@[go_sem] theorem Outl.av_cells(e:Outl):AVal.cells (Outl.av e)=[.str e.title,.str e.url,.sl 3 (e.kids.map Outl.av)]:=by rw[Outl.av_eq];rfl
@[go_sem] theorem Outl.av_fold(e:Outl):AVal.agg [.str e.title,.str e.url,.sl 3 (e.kids.map Outl.av)]=Outl.av e:=(Outl.av_eq e).symm
@[go_sem] theorem Outl.av_box(t:TypeId)(e:Outl)(h:Heap)(k:Heap→Prop):boxK t (Outl.av e) h k=k (h++[.row t 3 0 [Outl.av e]]):=by simp[Outl.av_eq,tt]
@[go_sem] theorem Outl.av_lies(e:Outl):AVal.lies (Outl.av e)=true:=by rw[Outl.av_eq];rfl
mutual
theorem Outl.clo(n:Nat):∀e:Outl,Clo n e.av
 | .mk t u k=>by
  rw[Outl.av];refine .agg _ fun c hc=>?_
  simp only[K4,Q6,or_false]at hc;rcases hc with rfl|rfl|rfl
  ·exact .str _
  ·exact .str _
  ·exact .sl _ _ (ld n k)
theorem ld(n:Nat):∀(l:List Outl),∀e∈ovs l,Clo n e
 | []=>by intro e he;cases he
 |x::l=>by
  intro e he;rw[ovs]at he;rcases K4.1 he with rfl|he
  ·exact Outl.clo n x
  ·exact ld n l e he
end
theorem Outls.clo(n m:Nat)(l:List Outl):Clo n (.sl m (l.map Outl.av)):=.sl _ _ fun e he=>by
 obtain⟨a,_,rfl⟩:=J5.1 he;exact Outl.clo n a
mutual
def ocntO:Outl→Nat→Int→Int
 | .mk t u k,d,l=>ocntL k (d+1) (l-1-(t.length/20:Nat)-(u.length/20:Nat))
def ocntL:List Outl→Nat→Int→Int
 | [],_,l=>l
 |o::r,d,l=>if 0<l∧d<40 then ocntL r d (ocntO o d l)else l
end
theorem iY(o:Outl)(d:Nat)(l:Int):ocntO o d l=ocntL o.kids (d+1) (l-1-(o.title.length/20:Nat)-(o.url.length/20:Nat)):=by cases o;rw[ocntO];rfl
mutual
theorem gg:∀(e:Outl) (d:Nat) (l:Int),l-e.sz≤ocntO e d l∧ocntO e d l≤l
 | .mk t u k,d,l=>by
  have h2:=cI k (d+1) (l-1-(t.length/20:Nat)-(u.length/20:Nat));rw[ocntO,Outl.sz];omega
theorem cI:∀(r:List Outl) (d:Nat) (l:Int),l-okidsz r≤ocntL r d l∧ocntL r d l≤l
 | [],d,l=>by simp[ocntL,okidsz]
 |e::r,d,l=>by
  have h1:=gg e d l;have h2:=cI r d (ocntO e d l);rw[ocntL,okidsz];split<;>omega
end
end Go.Av
namespace Go.Av
open Go Go.Proofs Go.RowKit
attribute [local irreducible] WP WPl WPix Sat
variable (G:Nat→Option (List AVal))
theorem xw(n:Nat):Int.tdiv (n:Int) 20=((n/20:Nat):Int):=rfl
theorem pQ:∀(f d:Nat),d+f=41→d≤40→∀(l:List Outl) (m0:Int) (_:szs Outl.sz l≤1048576) (_:m0≤700) (_: -4194304+szs Outl.sz l≤m0) (h:Heap),Sat (CT G) 35 [.sl 3 (l.map Outl.av),.int .i64 d,.int .i64 m0] h (fun r h'=>r=.int .i64 (ocntL l d m0)∧h'=h):=by
 intro f;induction f with
 |zero=>intro d hf hd;omega
 |succ f ih=>
  intro d hf hd l m0 hs hl1 hl2 h;have hll:=mA l;have hlb:=cI l d m0;rw[la]at hlb;have h20:((20:Int)=0)=False:=by simp
  have F:=F2 @xw h20;refine sb [.tmp 6] Tryz.func35 ?_;intro Q hQ;refine aM F ?_;refine lm (fun nL tL hL=>∃(k:Nat) (m:Int),l.length-k=nL∧h=hL∧tL 2=.int .i64 m∧tL 7=.int .i64 k∧k≤l.length∧m≤700∧ocntL (l.drop k) d m=ocntL l d m0) ((fun(k:Nat) (m:Int)=>(l.length-k:Nat)) (0) (m0)) ?_ ?_
  ·refine I9 ⟨0,m0,rfl,aw,?_,?_,U3 _,by omega,rfl⟩;all_goals first|exact eP F|rfl|omega|trivial|skip
  rintro _ s2 h' ⟨k,m,rfl,rfl,e2,e7,hk,hm,hp⟩ K2 hK2;simp only[ah,ao,Nat.reduceEqDiff, ↓reduceIte]at e2 e7;have F:=F3 F e2 e7;refine aM F ?_;have stop:¬(k<l.length∧0<m∧d<40)→ocntL (l.drop k) d m=m:=fun(hn:_)=>by
   rcases R1 k l.length with h1|h1
   ·obtain⟨y,hy,_⟩:=ac h1;rw[aA hy,ocntL,I0 (fun h=>hn ⟨h1,h.1,h.2⟩)]
   ·rw[aE h1,ocntL]
  (first|refine eh F (fun hg=>?_) (fun hg=>?_)|refine pqo F (fun hg=>?_) (fun hg=>?_))<;>(try exact hg.elim)<;>(try refine cO F ?_)<;>(refine aM F ?_)
  ·have hlt:k<l.length:=hg;(first|refine eh F (fun hg=>?_) (fun hg=>?_)|refine pqo F (fun hg=>?_) (fun hg=>?_))<;>(try exact hg.elim)<;>(try refine cO F ?_)<;>(refine aM F ?_)
   ·have hm0:0<m:=(by omega);refine mj F (fun hc=>?_) (fun hc=>?_)<;>(try exact hc.elim)
    ·obtain⟨y,hy,hym⟩:=ac hlt;have h1:=oF Outl.sz hym;have h2:=y.kids_sz;have h5:=y.sz_eq;have h3:=gg y d m;have h4:=cI (l.drop (k+1)) d (ocntO y d m);rw[aA hy,ocntL,I7 ⟨hm0,by omega⟩]at hp;have h6:=iY y d m;have F:=F2 F hy;refine aM F ?_;refine aH (ih (d+1) (by omega) (by omega) y.kids (m-1-(y.title.length/20:Nat)-(y.url.length/20:Nat)) (by omega) (by omega) (by omega) _) ?_;(try refine cO F ?_);refine aM F ?_;refine hK2 _ _ _ (I9 ⟨k+1,ocntO y d m,rfl,aw,?_,?_,by omega,by omega,hp⟩) (by omega);(all_goals first|exact eP F|rfl|omega|trivial|skip);simp(disch:=first|omega| (simp only[go_sem, ↓reduceIte,Nat.reduceEqDiff];done)|fail) only[go_sem, ↓reduceIte,Int.reduceToNat,Int.reduceLE,Int.reduceLT,Int.reduceSub,Int.reduceAdd,Nat.reduceEqDiff,Nat.reduceAdd,Nat.reduceLeDiff,Nat.reduceLT,Nat.reduceMul,Nat.reduceSub,F,h6]
    ·refine aM F ?_;refine ej hQ F ?_;refine fR (.int _ _) ?_;rw[← hp,stop (by omega)]
   ·refine ej hQ F ?_;refine fR (.int _ _) ?_;rw[← hp,stop (by omega)]
  ·refine ej hQ F ?_;refine fR (.int _ _) ?_;rw[← hp,stop (by omega)]
theorem pR(l:List Outl)(hs:szs Outl.sz l≤1048576)(h:Heap):Sat (CT G) 9 [.sl 3 (l.map Outl.av)] h (fun r h'=>r=.bool (decide (ocntL l 1 700≤0))∧h'=h):=by
 refine sb [.tmp 2] Tryz.func9 ?_;intro Q hQ;refine aM trivial ?_;refine vl trivial (pQ G 40 1 (by omega) (by omega) l 700 hs (by omega) (by omega) _) ?_;refine ej hQ trivial ?_;refine fR (.bool _) ?_;rfl
end Go.Av
namespace Go.Av
open Go.RowKit
section
variable {C:Ctx} {t:Env} {h:Heap}
def detGo(md:Region.Mode)(ops:Array Oper):Nat→Array Bool→Option (List Nat)
 |0,_=>some []
 |f+1,L=>match Region.ready md ops L with
  | [i]=>(detGo md ops f (L.setIfInBounds i true)).map (i:: ·)
  |_=>none
theorem mB{ops:Array Oper}{Q:Exit→Env→Heap→Prop}{md:Region.Mode}:∀(f:Nat) (L:Array Bool) (idx:List Nat) (sub:List Oper) (t:Env) (h:Heap),detGo md ops f L=some idx→idx.map (fun i=>ops[i]?)=sub.map some→
  WPl C ops Q sub t h→RestM C ops Q md f L t h:=by
 intro f;induction f with
 |zero=>
  intro L idx sub t h hd hs g n;simp only[detGo,K5]at hd;subst hd;have:sub=[]:=by simpa using hs.symm
  subst this;simp only[Region.linearise.go,List.reverse_nil,WPix];exact g
 |succ f ih=>
  intro L idx sub t h hd hs g n;simp only[detGo]at hd;split at hd
  ·rename_i i hr;obtain⟨idx',hd',rfl⟩:=K7.1 hd;cases sub with
   |nil=>simp at hs
   |cons o sub=>
    simp only[K8,X1]at hs;have hi:(Region.ready md ops L)[n%(Region.ready md ops L).length]? =some i:=by
     rw[hr,List.length_singleton,Nat.mod_one];rfl
    rw[cM md ops f n L hi];simp only[WPix,hs.1];simp only[WPl]at g;exact dD g fun t' h' g'=>ih _ idx' sub t' h' hd' hs.2 g' _
  ·cases hd
theorem mC{l:List Oper}{k n:Nat}(h:k+n≤l.length):(List.range' k n).map (fun i=>l.toArray[i]?)=((l.drop k).take n).map some:=by
 refine P9 fun i=>?_
 simp only[J8];by_cases hi:i<n
 ·rw[J9 hi,N4,List.getElem?_range' (by omega)];simp only[O2,Q0];have:k+i<l.length:=by omega
  simp[I2 this]
 ·rw[N5 (by simp;omega),N5 (by simp;omega)];rfl
inductive OT where
 |nil
 |one (i:Nat) (s:OT)
 |two (i:Nat) (s:OT) (j:Nat) (u:OT)
def OT.ok(ops:Array Oper):Nat→Array Bool→OT→Bool
 |0,_,.nil=>true
 |f+1,L,.one i s=>Region.ready .any ops L==[i]&&OT.ok ops f (L.setIfInBounds i true) s
 |f+1,L,.two i s j u=>Region.ready .any ops L==[i,j]&&(OT.ok ops f (L.setIfInBounds i true) s&&OT.ok ops f (L.setIfInBounds j true) u)
 |_,_,_=>false
def WPt(C:Ctx)(ops:Array Oper)(Q:Exit→Env→Heap→Prop):OT→Env→Heap→Prop
 | .nil,t,h=>Q .normal t h
 | .one i s,t,h=>WPl C ops (fun _ t' h'=>WPt C ops Q s t' h') (ops[i]?).toList t h
 | .two i s j u,t,h=>WPl C ops (fun _ t' h'=>WPt C ops Q s t' h') (ops[i]?).toList t h∧WPl C ops (fun _ t' h'=>WPt C ops Q u t' h') (ops[j]?).toList t h
theorem OT.sound{ops:Array Oper}{Q:Exit→Env→Heap→Prop}:∀(f:Nat) (L:Array Bool) (tr:OT) (t:Env) (h:Heap),OT.ok ops f L tr=true→WPt C ops Q tr t h→RestM C ops Q .any f L t h:=by
 intro f;induction f with
 |zero=>
  intro L tr t h ho g n;cases tr with
  |nil=>simp only[Region.linearise.go,List.reverse_nil,WPix];exact g
  |_=>simp[OT.ok]at ho
 |succ f ih=>
  intro L tr t h ho g n;have step:∀(i:Nat) (s:OT),(Region.ready .any ops L)[n%(Region.ready .any ops L).length]? =some i→OT.ok ops f (L.setIfInBounds i true) s=true→WPl C ops (fun _ t' h'=>WPt C ops Q s t' h') (ops[i]?).toList t h→
    WPix C ops Q (Region.linearise.go .any ops (f+1) n L []) t h:=fun i s hi hs hg=>by
   rw[cM .any ops f n L hi];simp only[WPix];have hmem:=J4 hi;obtain⟨_,o,ho,_⟩:=mem_ready.1 hmem;simp only[ho,Option.toList]at hg ⊢;simp only[WPl]at hg;exact dD hg fun t' h' g'=>ih _ s t' h' hs g' _
  cases tr with
  |nil=>simp[OT.ok]at ho
  |one i s=>
   simp only[OT.ok,I1,beq_iff_eq]at ho;exact step i s (by rw[ho.1,List.length_singleton,Nat.mod_one];rfl) ho.2 g
  |two i s j u=>
   simp only[OT.ok,I1,beq_iff_eq]at ho;have hn:n%2=0∨n%2=1:=(by omega);rcases hn with hn|hn
   ·exact step i s (by rw[ho.1];show [i,j][n%2]? =_;rw[hn];rfl) ho.2.1 g.1
   ·exact step j u (by rw[ho.1];show [i,j][n%2]? =_;rw[hn];rfl) ho.2.2 g.2
theorem iZ{id:Nat}{l:List Oper}{Q:Exit→Env→Heap→Prop}(k:Nat)(tr:OT)(hok:(preOk l.toArray k&&decide (k≤l.length))=true)(hm:C.P.follows .mixedOrders=true)
  (hT:OT.ok l.toArray (l.length-k) (listK l.length k) tr=true)
  (hh:WPp C l.toArray (l.take k) t h fun t'=>WPt C l.toArray Q tr t' h):WP C (.region id l.toArray true) Q t h:=by
 simp only[I1,I4]at hok;have D:=ew hok.1;obtain⟨V,hv,hK⟩:=bL _ _ hh;have hlen:(l.take k).length=k:=by simp;omega
 rw[hlen]at hK;have rT:=OT.sound (ops:=l.toArray) (Q:=Q) _ _ tr _ h hT hK;have main:∀n,WPix C l.toArray Q (Region.linearise .any l.toArray n) t h:=fun n=>by
  unfold Region.linearise;refine da D .any D.less (by simp;omega) (V:=V) (t0:=t) (fun _=>True) (fun i o hi _=>hv i o hi) (by simpa using rT) _ _ _ _ (by simp) ?_ (fun j oj hj hl=>?_) (fun j hj hl=>?_) (fun _ _ _=>trivial) (Ag.start _ _ _ _ fun j hj=>?_)
  ·unfold left;have:(List.range l.toArray.size).filter (fun i=> !(Array.replicate l.toArray.size false).getD i true)=List.range l.toArray.size:=by
    rw[Q5];intro i hi;have:=O7.1 hi;simp at this ⊢;simp[this]
   rw[this,U7]
  ·have h8:=(L5.1 hj).1;simp at h8 hl;simp[h8]at hl
  ·simp at hj hl;simp[hj]at hl
  ·have:j<l.length:=by omega
   simp[this]
 show ∀tp,WPix C l.toArray Q (Region.schedule (C.P.follows .mixedOrders) l.toArray tp) t h;intro tp;unfold Region.schedule;rw[hm];simp only[Bool.true_or,if_true];exact main _
def agrL:List Nat→Env→Env→Prop
 | [],_,_=>True
 |d::ds,s,t=>s d=t d∧agrL ds s t
theorem j0:∀{ds:List Nat} {s t:Env},agrL ds s t→∀d∈ds,s d=t d
 | [],_,_,_,d,h=>by cases h
 |e::ds,s,t,g,d,h=>by
  rcases K4.1 h with rfl|h
  ·exact g.1
  ·exact j0 g.2 d h
theorem kB{d:Nat}:∀{l:List Oper} {i:Nat} {o:Oper},l[i]? =some o→o.dst=some d→d∈wrOps l
 | [],i,o,h,_=>by simp at h
 |a::l,0,o,h,hd=>by simp at h;subst h;unfold wrOps;rw[hd];simp
 |a::l,i+1,o,h,hd=>by
  have:=kB (l:=l) (i:=i) (o:=o) (by simpa using h) hd;unfold wrOps;split<;>simp[this]
theorem bN{id:Nat}{l:List Oper}{Q:Exit→Env→Heap→Prop}(k u:Nat)(oe:Oper)(hoe:l[k]? =some oe)(hok:(preOk l.toArray (k+1)&&decide (u≤k))=true)(hm:C.P.follows .mixedOrders=true)
  (hu:((List.range k).all fun i=>decide (i<u)||((Region.before l.toArray).getD k 0).testBit i)=true)(hdst:((l.take u).all fun o=>o.dst.isSome)=true)
  (hA:detGo .any l.toArray (l.length-(k+1)) (listK l.length (k+1))=some (List.range' (k+1) (l.length-(k+1))))
  (hh:WPp C l.toArray (l.take k) t h fun t'=>wpOperV C l.toArray oe t' h fun v h'=>
   (WPp C l.toArray (l.take u) t h' fun t''=>agrL (wrOps (l.take u)) t'' t')∧WPl C l.toArray Q (l.drop (k+1)) (put t' oe.dst v) h'):WP C (.region id l.toArray true) Q t h:=by
 simp only[I1,I4]at hok;have D:=ew hok.1;have hkl:=(f9.1 hoe).1;obtain⟨V,hv,hK⟩:=bL _ _ hh;have hlen:(l.take k).length=k:=by simp;omega
 rw[hlen]at hK;have hTT:∀i,i≤k→Av.T V (l.take k) t i=Av.T V l t i:=fun i hi=>fF V V k (fun _ _=>rfl) _ _ _ _ hi (by rw[Y0];congr 1;omega) (by rw[hlen];exact hi) (by omega)
 rw[hTT k (J0 _)]at hK;have main:∀n,WPix C l.toArray Q (Region.linearise .any l.toArray n) t h:=fun n=>by
  unfold Region.linearise;refine jv D .any D.less (by simp;omega) (V:=V) (t0:=t) (oe:=oe) (by simpa using hoe) (fun i o hi ho=>?_) ?_ _ _ _ _ (by simp) ?_ (fun j oj hj hl=>?_) (fun j hj hl=>?_) (Ag.start _ _ _ _ fun j hj=>?_)
  ·have:=hv i o (by rw[P5,I7 hi];simpa using ho);rw[hTT i (by omega)]at this;exact this
  ·refine bD hK fun v h' ⟨h1,h2⟩=>⟨fun i o hi ho hc=>?_,?_⟩
   ·have hiu:i<u:=by
     have:=M2.1 hu i (O7.2 hi);rw[hc]at this;simpa using this
    obtain⟨V2,hv2,hK2⟩:=bL _ _ h1;have hlu:(l.take u).length=u:=(by simp;omega);rw[hlu]at hK2;have hVV:∀j,j<u→V2 j=V j:=fun j hj=>by
     have hoj:l[j]? =some (l[j]'(by omega)):=I2 _;have hoj':(l.take u)[j]? =some (l[j]'(by omega)):=(by rw[P5,I7 hj];exact hoj);obtain⟨d,hdd⟩:=J7.1 (M2.1 hdst _ (J4 hoj'));have e:=j0 hK2 d (kB hoj' hdd);have a1:=D.ag_T V2 t (by simp;omega) u (by omega);have a2:=D.ag_T V t (by simp;omega) k (by omega);have hoa:l.toArray[j]? =some (l[j]'(by omega)):=(by simp);have b1:=a1.1 j _ d (by omega) hoa (by simpa using hj) hdd;have b2:=a2.1 j _ d (by omega) hoa (by simp;omega) hdd;have c1:Av.T V2 (l.toArray.toList.take (k+1)) t u=Av.T V2 (l.take u) t u:=fF V2 V2 u (fun _ _=>rfl) _ _ _ _ (J0 _) (by simp[Y0];try omega) (by simp;omega) (by omega);have c2:Av.T V (l.toArray.toList.take (k+1)) t k=Av.T V l t k:=fF V V k (fun _ _=>rfl) _ _ _ _ (J0 _) (by simp[Y0]) (by simp;omega) (by omega);rw[c1]at b1;rw[c2]at b2;rw[← b1, ← b2,e]
    have:=hv2 i o (by rw[P5,I7 hiu];simpa using ho);rw[hVV i hiu]at this;have c3:Av.T V2 (l.take u) t i=Av.T V l t i:=fF V V2 u hVV _ _ _ _ (by omega) (by rw[Y0];congr 1;omega) (by omega) (by omega);rw[c3]at this;exact this
   ·have:=mB (ops:=l.toArray) (Q:=Q) _ _ _ (l.drop (k+1)) _ h' hA (by rw[mC (by omega),K6 (by simp)]) h2;simpa using this
  ·unfold left;have:(List.range l.toArray.size).filter (fun i=> !(Array.replicate l.toArray.size false).getD i true)=List.range l.toArray.size:=by
    rw[Q5];intro i hi;have:=O7.1 hi;simp at this ⊢;simp[this]
   rw[this,U7]
  ·have h8:=(L5.1 hj).1;simp at h8 hl;simp[h8]at hl
  ·simp at hj hl;simp[hj]at hl
  ·have:j<l.length:=by omega
   simp[this]
 show ∀tp,WPix C l.toArray Q (Region.schedule (C.P.follows .mixedOrders) l.toArray tp) t h;intro tp;unfold Region.schedule;rw[hm];simp only[Bool.true_or,if_true];exact main _
attribute [go_sem] agrL
theorem du{ops:Array Oper}{Q:Exit→Env→Heap→Prop}(g:Q .normal t h):WPt C ops Q .nil t h:=g
theorem dv{ops:Array Oper}{Q:Exit→Env→Heap→Prop}{i:Nat}{s:OT}{o:Oper}(ho:ops[i]? =some o)(g:WPl C ops (fun _ t' h'=>WPt C ops Q s t' h') [o] t h):WPt C ops Q (.one i s) t h:=by
 simp only[WPt,ho];exact g
theorem dw{ops:Array Oper}{Q:Exit→Env→Heap→Prop}{i j:Nat}{s u:OT}{o p:Oper}(ho:ops[i]? =some o)(hp:ops[j]? =some p)(g:WPl C ops (fun _ t' h'=>WPt C ops Q s t' h') [o] t h)
  (g':WPl C ops (fun _ t' h'=>WPt C ops Q u t' h') [p] t h):WPt C ops Q (.two i s j u) t h:=by
 simp only[WPt,ho,hp];exact⟨g,g'⟩
end
section
variable {C:Ctx} {B n:Nat} {S:Addr→Prop} {μ:Map} {h:Heap} {w:World} {t:Env} {a:Act}
def LetP(S:Addr→Prop)(μ:Map)(w:World)(p:Nat):Addr→Prop:=fun a=>S a∨∃m,μ[p]? =some m∧m.blk=some a.block∧(w.cell? a).isSome=true
theorem Rep.letgo(f:Fits C B S μ h w){p v e m:Nat}{rows:List AVal}(hg:getRow h p v=some (e,m,rows)){μ':Map}(st:Step B S μ w (LetP S μ w p) μ' w)
  {off len:Nat}{room:Bool}{val:Value}(hlen:off+len≤rows.length)(r:Rep w S μ (.hs p v off len room) val):Rep w (LetP S μ w p) μ' (.sl m ((rows.drop off).take len)) val:=by
 obtain⟨mb,hm,hf⟩:=f.row hg;have hms:=hf.hsize;rcases r.hs_now hm hf.hver with⟨hb,rfl,rfl,rfl⟩| ⟨b,hb,hcap,rfl⟩
 ·simpa using Rep.sl0 (w:=w) (S:=LetP S μ w p) (μ:=μ') m none 0
 ·by_cases hl0:len=0
  ·subst hl0;simpa using Rep.sl0 (w:=w) (S:=LetP S μ w p) (μ:=μ') m _ _
  ·obtain⟨cur,hheap,hcs,hle,hmax,fl⟩:=hf.flat hb;have hes:((rows.drop off).take len).length=len:=(by simp;omega);have hget:∀(i:Nat) (s:AVal),((rows.drop off).take len)[i]? =some s→rows[off+i]? =some s:=by
    intro i s hi;have hlt:=(f9.1 hi).1;rw[hes]at hlt;rw[J9 hlt,N4]at hi;exact hi
   have e1:∀i j,(off+i)*m+j=off*m+(i*m+j):=fun i j=>by rw[P4];omega
   have key:=Rep.sl (w:=w) (S:=LetP S μ w p) (μ:=μ') m ((rows.drop off).take len) b (off*mb.size) (if room then mb.cap-off else len)
    (fun i j=>cur.getD (off*m+(i*m+j)) undef) (by intro e;rw[e]at hes;simp at hes;omega) (by rw[hes];split<;>omega) (by split<;>omega)
    (fun i s hi=>hf.lens _ _ (hget i s hi))
    (fun i s j d hi hj=>by
     have h1:=hget i s hi;obtain⟨u,hu,_⟩:=fl.rep _ _ _ _ h1 hj;have hu:=aN hu;rw[e1]at hu;have hu2:cur[off*m+(i*m+j)]? =some u:=(by simpa using hu);have hcell:w.cell? ⟨b,off*m+(i*m+j),none⟩=some u:=(by simp[World.cell?,hheap,hu2]);rw[hms];refine⟨.inr ⟨mb,hm,hb,by rw[hcell];rfl⟩,?_,hf.sto _ _ _ _ h1 hj⟩;rw[hcell];simp[N7,hu2])
    (fun i s j d hi hj=>by
     have h1:=hget i s hi;obtain⟨u,hu,hrep⟩:=fl.rep _ _ _ _ h1 hj;have hu:=aN hu;rw[e1]at hu;have hu2:cur[off*m+(i*m+j)]? =some u:=(by simpa using hu);have:=hrep.mono st;simpa [N7,hu2]using this)
   rw[hes]at key;exact key
theorem Fits.letgo(f:Fits C B S μ h w){p v e m:Nat}{rows:List AVal}(hg:getRow h p v=some (e,m,rows)):
  ∃μ',Step B S μ w (LetP S μ w p) μ' w∧Fits C B (LetP S μ w p) μ' (h.set p .dead) w:=by
 obtain⟨mb,hm,hf⟩:=f.row hg;have hlt:=(f9.1 hm).1;have st:Step B S μ w (LetP S μ w p) (μ.set p ⟨none,mb.ver+1,mb.size,mb.cap⟩) w:=⟨fun a ha=>.inl ha,fun _ _=>rfl,S7 _ _,bn hm (by simp) (fun e=>by simp at e),fun a ha=>by
  rcases ha with ha| ⟨m',hm',hb,_⟩
  ·exact .inl ha
  ·exact .inr (f.own p m' _ hm' hb).1⟩
 have at_:∀q k,(μ.set p ⟨none,mb.ver+1,mb.size,mb.cap⟩)[q]? =some k→(q=p∧k.blk=none)∨(q≠p∧μ[q]? =some k):=by
  intro q k hq;by_cases e:p=q
  ·subst e;rw[M9 hlt]at hq;cases hq;exact .inl ⟨rfl,rfl⟩
  ·rw[P3 e]at hq;exact .inr ⟨fun e'=>e e'.symm,hq⟩
 refine⟨_,st,⟨fun g cs hg=>(f.glob g cs hg).mono st,by simp[f.len],?_,?_,f.base,?_,?_⟩⟩
 ·intro p1 q1 m1 m2 b h1 h2 e1 e2;rcases at_ p1 m1 h1 with⟨_,k1⟩| ⟨_,k1⟩
  ·rw[k1]at e1;cases e1
  ·rcases at_ q1 m2 h2 with⟨_,k2⟩| ⟨_,k2⟩
   ·rw[k2]at e2;cases e2
   ·exact f.sep p1 q1 m1 m2 b k1 k2 e1 e2
 ·intro p1 m1 b h1 e1;rcases at_ p1 m1 h1 with⟨_,k1⟩| ⟨r1,k1⟩
  ·rw[k1]at e1;cases e1
  ·obtain⟨a1,a2,a3⟩:=f.own p1 m1 b k1 e1;refine⟨a1,a2,fun a ha=>?_⟩;rcases ha with ha| ⟨m',hm',hb,_⟩
   ·exact a3 a ha
   ·intro e;exact r1 (f.sep p1 p m1 m' b k1 hm' e1 (by rw[hb,e]))
 ·intro a ha;rcases ha with ha| ⟨m',hm',hb,_⟩
  ·exact f.lie a ha
  ·exact(f.own p m' _ hm' hb).2.1
 ·intro p1 m1 k1 h1 h2;rcases at_ p1 m1 h1 with⟨rfl,_⟩| ⟨r1,h1⟩
  ·rw[M9 (by rw[← f.len];exact hlt)]at h2;cases h2;trivial
  ·rw[P3 (fun e=>r1 e.symm)]at h2;exact(f.blk p1 m1 k1 h1 h2).mono st fun b _=>rfl
inductive Fz (h:Heap) (p v:Nat):AVal→AVal→Prop
 |same (x:AVal):Fz h p v x x
 |hs (off len:Nat) (room:Bool) (e m:Nat) (rows es:List AVal):getRow h p v=some (e,m,rows)→off+len≤rows.length→es=(rows.drop off).take len→Fz h p v (.hs p v off len room) (.sl m es)
 |agg (cs ds:List AVal):cs.length=ds.length→(∀d∈ds,d.sto=true)→(∀(i:Nat) (c d:AVal),cs[i]? =some c→ds[i]? =some d→Fz h p v c d)→Fz h p v (.agg cs) (.agg ds)
 |tup (cs ds:List AVal):cs.length=ds.length→(∀(i:Nat) (c d:AVal),cs[i]? =some c→ds[i]? =some d→Fz h p v c d)→Fz h p v (.tup cs) (.tup ds)
 |wk (x y z:AVal):Fz h p v x y→Wk y z→Fz h p v x z
theorem Fz.all(h:Heap)(p v:Nat){off len e m:Nat}{room:Bool}{rows:List AVal}(hg:getRow h p v=some (e,m,rows))(h0:off=0)(hl:len=rows.length):Fz h p v (.hs p v off len room) (.sl m rows):=
 .hs off len room e m rows rows hg (by omega) (by subst h0;subst hl;simp)
theorem Fz.rep(f:Fits C B S μ h w){p v:Nat}{μ':Map}(st:Step B S μ w (LetP S μ w p) μ' w){x y:AVal}{u:Value}(z:Fz h p v x y)(r:Rep w S μ x u):Rep w (LetP S μ w p) μ' y u:=by
 induction z generalizing u with
 |same x=>exact r.mono st
 |hs off len room e m rows es hg hl he=>subst he;exact r.letgo f hg st hl
 |agg cs ds hl hst _ ih=>
  obtain⟨vs,rfl,hvl,_,hr⟩:=r.agg_inv;refine .agg ds vs (by omega) (fun i d hd=>hst d (J4 hd)) (fun i d hd=>?_);have hlt:=(f9.1 hd).1;have hc:=I2 (show i<cs.length by omega);exact ih i _ d hc hd (hr i _ hc)
 |tup cs ds hl _ ih=>
  obtain⟨vs,rfl,hvl,hr⟩:=r.tup_inv;refine .tup ds vs (by omega) (fun i d hd=>?_);have hlt:=(f9.1 hd).1;have hc:=I2 (show i<cs.length by omega);exact ih i _ d hc hd (hr i _ hc)
 |wk x y z _ hw ih=>exact hw _ _ _ _ (ih r)
theorem Weak.fz{ms:List Nat}{t1:Env}(p v:Nat){e m:Nat}{rows:List AVal}(hg:getRow h p v=some (e,m,rows))(ht:∀i,t1 i=t i∨(i∈ms∧Fz h p v (t i) (t1 i))):Weak C ms t h t1 (h.set p .dead):=by
 refine⟨fun i hi=>(ht i).elim id fun⟨h1,_⟩=>absurd h1 hi,fun B k S μ w a f r=>?_⟩;obtain⟨μ',st,f1⟩:=f.letgo hg;refine⟨_,μ',st,f1,r.1,r.2.1,fun i hi=>?_⟩;rcases ht i with h1| ⟨_,h1⟩
 ·rw[h1];exact(r.2.2 i hi).mono st
 ·exact h1.rep f st (r.2.2 i hi)
end
end Go.Av
namespace Go.Av
open Go Go.RowKit
theorem ba{H:Heap}{p q:Nat}(b:Blk)(v:Nat)(hne:p≠q):getRow (H.set p b) q v=getRow H q v:=by
 unfold getRow;rw[P3 hne]
theorem bV{H:Heap}{p:Nat}(e n u v:Nat)(rows:List AVal)(hp:p<H.length):getRow (H.set p (.row e n u rows)) p v=if v=u then some (e,n,rows)else none:=by
 unfold getRow;rw[M9 hp]
theorem bE{A l:Heap}{p:Nat}(v:Nat)(hp:p<A.length):getRow (A++l) p v=getRow A p v:=by
 unfold getRow;rw[I8 hp]
theorem bF{A l:Heap}{n k:Nat}(v:Nat)(hn:A.length=n):getRow (A++l) (n+k) v=getRow l k v:=by subst hn;exact jm A l k v
theorem aR{A l:Heap}{n:Nat}(v:Nat)(hn:A.length=n):getRow (A++l) n v=getRow l 0 v:=by subst hn;exact nD A l v
theorem rM{A l:Heap}{p:Nat}(b:Blk)(hp:p<A.length):(A++l).set p b=A.set p b++l:=List.set_append_left p b hp
theorem jB{A l:Heap}{n k:Nat}(b:Blk)(hn:A.length=n):(A++l).set (n+k) b=A++l.set k b:=by subst hn;exact oD A l k b
theorem fH{A l:Heap}{n:Nat}(b:Blk)(hn:A.length=n):(A++l).set n b=A++l.set 0 b:=by subst hn;exact tC A l b
theorem ax:(∀{H:Heap} {p q:Nat} (b:Blk) (v:Nat) (_:p≠q),getRow (H.set p b) q v=getRow H q v)∧
  (∀{H:Heap} {p:Nat} (e n u v:Nat) (rows:List AVal) (_:p<H.length),getRow (H.set p (.row e n u rows)) p v=if v=u then some (e,n,rows)else none)∧
  (∀{A l:Heap} {p:Nat} (v:Nat) (_:p<A.length),getRow (A++l) p v=getRow A p v)∧
  (∀{A l:Heap} {n k:Nat} (v:Nat) (_:A.length=n),getRow (A++l) (n+k) v=getRow l k v)∧
  (∀{A l:Heap} {n:Nat} (v:Nat) (_:A.length=n),getRow (A++l) n v=getRow l 0 v)∧
  (∀{A l:Heap} {p:Nat} (b:Blk) (_:p<A.length),(A++l).set p b=A.set p b++l)∧
  (∀{A l:Heap} {n k:Nat} (b:Blk) (_:A.length=n),(A++l).set (n+k) b=A++l.set k b)∧
  (∀{A l:Heap} {n:Nat} (b:Blk) (_:A.length=n),(A++l).set n b=A++l.set 0 b)∧
  (∀(H:Heap) (i:Nat) (b:Blk),(H.set i b).length=H.length)∧(∀(H:Heap) (i:Nat) (a b:Blk),(H.set i a).set i b=H.set i b):=
 ⟨ba,bV,bE,bF,aR,rM,jB,fH,fun _ _ _=>U1 ..,fun _ _ _ _=>List.set_set ..⟩
theorem bB{H:Heap}{p v:Nat}{x:TypeId×Nat×List AVal}(h:getRow H p v=some x):p<H.length:=by
 obtain⟨e,n,r⟩:=x;exact(f9.1 (dC h)).1
attribute [go_sem] List.length_set
def KeepC(h0 h1:Heap)(N:Nat):Prop:=∀(p:Nat) (k:Blk),h1[p]? =some k→h0[p]? =some k∨CloB N k
theorem KeepC.refl(h:Heap)(N:Nat):KeepC h h N:=fun _ _ h=>.inl h
theorem KeepC.app{h0 h1:Heap}{N:Nat}(g:KeepC h0 h1 N){l:Heap}(hb:∀b∈l,CloB N b):KeepC h0 (h1++l) N:=by
 intro p k hk;rcases R1 p h1.length with h2|h2
 ·rw[I8 h2]at hk;exact g p k hk
 ·rw[J1 h2]at hk;exact .inr (hb k (J4 hk))
def FrN(n0:Nat)(H H':Heap):Prop:=∀p,p<n0→H'[p]? =H[p]?
theorem FrN.refl(n0:Nat)(H:Heap):FrN n0 H H:=fun _ _=>rfl
theorem FrN.set{n0:Nat}{H H':Heap}{q:Nat}(b:Blk)(hq:n0≤q)(g:FrN n0 H H'):FrN n0 H (H'.set q b):=fun p hp=>by rw[P3 (by omega)];exact g p hp
theorem FrN.app{n0:Nat}{H H':Heap}(l:Heap)(hn:n0≤H'.length)(g:FrN n0 H H'):FrN n0 H (H'++l):=fun p hp=>by rw[I8 (by omega)];exact g p hp
theorem FrN.trans{n0:Nat}{H H' H'':Heap}(g:FrN n0 H H')(k:FrN n0 H' H''):FrN n0 H H'':=fun p hp=>(k p hp).trans (g p hp)
theorem FrN.less{n0 n1:Nat}{H H':Heap}(g:FrN n1 H H')(h:n0≤n1):FrN n0 H H':=fun p hp=>g p (by omega)
theorem Fin.whole{h0 h1:Heap}{R:AVal→Heap→Prop}{r:AVal}(hl:h0.length≤h1.length)(hc:Clo h1.length r)(hR:R r h1):Fin h0 h1 R r:=
 ⟨h1.length,r,hl,.clo _ hc,.inl (J0 _),by rw[V6];exact hR⟩
theorem Fin.upto{h0 h1 j:Heap}{R:AVal→Heap→Prop}{r:AVal}(hl:h0.length≤h1.length)(hk:KeepC h0 h1 h1.length)(hc:Clo h1.length r)(hR:R r h1):Fin h0 (h1++j) R r:=by
 refine⟨h1.length,r,hl,.clo _ hc,.inr fun p k hp h2=>?_,by rw[S3 rfl];exact hR⟩;rw[I8 hp]at h2;rcases hk p k h2 with h3|h3
 ·exact .inl ⟨(f9.1 h3).1,h3⟩
 ·exact .inr h3
theorem CloB.row{N e n v:Nat}{rows:List AVal}(h:∀r∈rows,Clo N r):CloB N (.row e n v rows):=h
section
variable {C:Ctx}
end
end Go.Av
namespace Go.Av
open Go Go.Proofs Go.RowKit
attribute [local irreducible] WP WPl WPix Sat
variable (G:Nat→Option (List AVal))
variable {G}
end Go.Av
namespace Go.Av
open Go Go.Proofs Go.RowKit
attribute [local irreducible] WP WPl WPix Sat
variable (G:Nat→Option (List AVal))
def rdrR(s:Bs)(b:Bool):Blk:=.row 218 2 0 [.agg [.str s,.bool b]]
def rdH(h j:Heap)(s:Bs)(b:Bool):Heap:=h++rdrR s b::j
theorem vR(h j:Heap)(s:Bs)(b:Bool):(rdH h j s b).length=h.length+(1+j.length):=by simp[rdH];omega
@[go_sem] theorem Co(s:Bs)(b:Bool)(l:Heap):getRow (rdrR s b::l) 0 0=some (218,2,[.agg [.str s,.bool b]]):=rfl
def beginF(c:Int):Bool:=decide (65≤c∧c≤90∨97≤c∧c≤122∨c=95)
def moreF(c:Int):Bool:=decide (65≤c∧c≤90∨97≤c∧c≤122∨c=95∨48≤c∧c≤57∨c=58∨c=45∨c=46)
theorem jC(c:Int)(h:Heap):Sat (CT G) 260 [.int .i32 c] h (fun r h'=>r=.bool (beginF c)∧h'=h):=by
 refine sb [.tmp 2] Tryz.func260 ?_;intro Q hQ;refine aM trivial ?_;(first|refine eh trivial (fun g1=>?_) (fun g1=>?_)|refine pqo trivial (fun g1=>?_) (fun g1=>?_))<;>(try exact g1.elim)<;>(try refine cO trivial ?_)<;>(refine aM trivial ?_)
 all_goals try ((first|refine eh trivial (fun g2=>?_) (fun g2=>?_)|refine pqo trivial (fun g2=>?_) (fun g2=>?_))<;>(try exact g2.elim)<;>(try refine cO trivial ?_)<;>(refine aM trivial ?_))
 all_goals try ((first|refine eh trivial (fun g3=>?_) (fun g3=>?_)|refine pqo trivial (fun g3=>?_) (fun g3=>?_))<;>(try exact g3.elim)<;>(try refine cO trivial ?_)<;>(refine aM trivial ?_))
 all_goals try ((first|refine eh trivial (fun g4=>?_) (fun g4=>?_)|refine pqo trivial (fun g4=>?_) (fun g4=>?_))<;>(try exact g4.elim)<;>(try refine cO trivial ?_)<;>(refine aM trivial ?_))
 all_goals try ((first|refine eh trivial (fun g5=>?_) (fun g5=>?_)|refine pqo trivial (fun g5=>?_) (fun g5=>?_))<;>(try exact g5.elim)<;>(try refine cO trivial ?_)<;>(refine aM trivial ?_))
 all_goals try (exfalso;omega)
 all_goals
  refine ej hQ trivial ?_;refine fR (.bool _) ?_;unfold beginF;congr 1
  rw[N3];simp only[I4,beq_iff_eq,true_iff,M1,false_iff];omega
theorem ud(c:Int)(h:Heap):Sat (CT G) 259 [.int .i32 c] h (fun r h'=>r=.bool (moreF c)∧h'=h):=by
 refine sb [.tmp 2] Tryz.func259 ?_;intro Q hQ;refine aM trivial ?_;refine vl trivial (jC G c _) ?_;(first|refine eh trivial (fun g1=>?_) (fun g1=>?_)|refine pqo trivial (fun g1=>?_) (fun g1=>?_))<;>(try exact g1.elim)<;>(try refine cO trivial ?_)<;>(refine aM trivial ?_)
 all_goals try ((first|refine eh trivial (fun g2=>?_) (fun g2=>?_)|refine pqo trivial (fun g2=>?_) (fun g2=>?_))<;>(try exact g2.elim)<;>(try refine cO trivial ?_)<;>(refine aM trivial ?_))
 all_goals try ((first|refine eh trivial (fun g3=>?_) (fun g3=>?_)|refine pqo trivial (fun g3=>?_) (fun g3=>?_))<;>(try exact g3.elim)<;>(try refine cO trivial ?_)<;>(refine aM trivial ?_))
 all_goals try ((first|refine eh trivial (fun g4=>?_) (fun g4=>?_)|refine pqo trivial (fun g4=>?_) (fun g4=>?_))<;>(try exact g4.elim)<;>(try refine cO trivial ?_)<;>(refine aM trivial ?_))
 all_goals try ((first|refine eh trivial (fun g5=>?_) (fun g5=>?_)|refine pqo trivial (fun g5=>?_) (fun g5=>?_))<;>(try exact g5.elim)<;>(try refine cO trivial ?_)<;>(refine aM trivial ?_))
 all_goals try ((first|refine eh trivial (fun g6=>?_) (fun g6=>?_)|refine pqo trivial (fun g6=>?_) (fun g6=>?_))<;>(try exact g6.elim)<;>(try refine cO trivial ?_)<;>(refine aM trivial ?_))
 all_goals try ((first|refine eh trivial (fun g7=>?_) (fun g7=>?_)|refine pqo trivial (fun g7=>?_) (fun g7=>?_))<;>(try exact g7.elim)<;>(try refine cO trivial ?_)<;>(refine aM trivial ?_))
 all_goals try simp only[beginF,I4,decide_eq_false_iff_not]at g1
 all_goals try (exfalso;omega)
 all_goals
  refine ej hQ trivial ?_;refine fR (.bool _) ?_;unfold moreF;try unfold beginF
  congr 1
  rw[N3];simp only[I4,beq_iff_eq,true_iff,M1,false_iff];omega
end Go.Av

namespace Go.Av
open Go Go.Proofs Go.RowKit
attribute [local irreducible] WP WPl WPix Sat
variable (G:Nat→Option (List AVal))
end Go.Av
namespace Go.Av
open Go Go.Proofs Go.RowKit
attribute [local irreducible] WP WPl WPix Sat
variable (G:Nat→Option (List AVal))
def blankP(c:Int):Bool:=decide (c=32∨c=9∨c=13∨c=10)
attribute [go_sem] vR
instance tokEq:DecidableEq Tok:=fun a b=>inferInstanceAs (Decidable ((a:Int×List UInt8×List (List UInt8×List UInt8)×List UInt8)=b))
end Go.Av
namespace Go.Av
open Go Go.RowKit
attribute [local irreducible] WP WPl WPix Sat
structure FrzR (h:Heap) (n:Nat) (r s:AVal):Prop where
 all:Frz h n r s
 len:r.cells.length=s.cells.length
 sto:∀d∈s.cells,d.sto=true
 cell:∀(j:Nat) (c d:AVal),r.cells[j]? =some c→s.cells[j]? =some d→Frz h n c d
theorem Frz.rows{h:Heap}{n q v e m:Nat}{rows es:List AVal}{len:Nat}{room:Bool}(hq:n≤q)(hg:getRow h q v=some (e,m,rows))(hlen:len=rows.length)(hl:es.length=rows.length)
  (hp:∀(i:Nat) (r s:AVal),rows[i]? =some r→es[i]? =some s→FrzR h n r s):Frz h n (.hs q v 0 len room) (.sl m es):=by
 subst hlen;have:=Frz.hs (h:=h) (n:=n) q v 0 rows.length room e m rows es hq hg (by omega) hl (fun i r s hr hs=>(hp i r s hr hs).all)
  (fun i r s hr hs=>⟨(hp i r s hr hs).len,fun j c d _ hd=>(hp i r s hr hs).sto d (J4 hd)⟩) (fun i r s j c d hr hs hc hd=>(hp i r s hr hs).cell j c d hc hd)
 rw[U0, ← hl,V6]at this;rw[← hl];exact this
theorem FrzR.clo{h:Heap}{n:Nat}{r:AVal}(hc:Clo n r)(hs:∀d∈r.cells,d.sto=true):FrzR h n r r:=
 ⟨.clo _ hc,rfl,hs,fun j c d h1 h2=>by rw[h1]at h2;cases h2;exact .clo _ (hc.cells c (J4 h1))⟩
theorem FrzR.agg{h:Heap}{n:Nat}{cs ds:List AVal}(hl:cs.length=ds.length)(hs:∀d∈ds,d.sto=true)(hc:∀(i:Nat) (c d:AVal),cs[i]? =some c→ds[i]? =some d→Frz h n c d):FrzR h n (.agg cs) (.agg ds):=
 ⟨.agg _ _ hl hs hc,hl,hs,hc⟩
inductive FrzL (h:Heap) (n:Nat):List AVal→List AVal→Prop
 |nil:FrzL h n [] []
 |cons {c d:AVal} {cs ds:List AVal}:Frz h n c d→FrzL h n cs ds→FrzL h n (c::cs) (d::ds)
theorem FrzL.len{h:Heap}{n:Nat}{cs ds:List AVal}(z:FrzL h n cs ds):cs.length=ds.length:=by induction z with|nil=>rfl|cons _ _ ih=>simp[ih]
theorem FrzL.at_{h:Heap}{n:Nat}{cs ds:List AVal}(z:FrzL h n cs ds):∀(i:Nat) (c d:AVal),cs[i]? =some c→ds[i]? =some d→Frz h n c d:=by
 induction z with
 |nil=>intro i c d h1;simp at h1
 |cons z _ ih=>
  intro i c d h1 h2
  match i with
  |0=>simp at h1 h2;subst h1;subst h2;exact z
  |i+1=>exact ih i c d (by simpa using h1) (by simpa using h2)
theorem FrzL.agg{h:Heap}{n:Nat}{cs ds:List AVal}(z:FrzL h n cs ds)(hs:ds.all AVal.sto=true):Frz h n (.agg cs) (.agg ds):=.agg _ _ z.len (M2.1 hs) z.at_
theorem FrzL.tup{h:Heap}{n:Nat}{cs ds:List AVal}(z:FrzL h n cs ds):Frz h n (.tup cs) (.tup ds):=.tup _ _ z.len z.at_
theorem FrzL.row{h:Heap}{n:Nat}{cs ds:List AVal}(z:FrzL h n cs ds)(hs:ds.all AVal.sto=true):FrzR h n (.agg cs) (.agg ds):=.agg z.len (M2.1 hs) z.at_
inductive FrzRs (h:Heap) (n:Nat):List AVal→List AVal→Prop
 |nil:FrzRs h n [] []
 |cons {c d:AVal} {cs ds:List AVal}:FrzR h n c d→FrzRs h n cs ds→FrzRs h n (c::cs) (d::ds)
theorem FrzRs.len{h:Heap}{n:Nat}{cs ds:List AVal}(z:FrzRs h n cs ds):cs.length=ds.length:=by induction z with|nil=>rfl|cons _ _ ih=>simp[ih]
theorem FrzRs.at_{h:Heap}{n:Nat}{cs ds:List AVal}(z:FrzRs h n cs ds):∀(i:Nat) (c d:AVal),cs[i]? =some c→ds[i]? =some d→FrzR h n c d:=by
 induction z with
 |nil=>intro i c d h1;simp at h1
 |cons z _ ih=>
  intro i c d h1 h2
  match i with
  |0=>simp at h1 h2;subst h1;subst h2;exact z
  |i+1=>exact ih i c d (by simpa using h1) (by simpa using h2)
theorem FrzRs.hs{h:Heap}{n q v e m:Nat}{rows es:List AVal}{len:Nat}{room:Bool}(hg:getRow h q v=some (e,m,rows))(hlen:len=rows.length)(hq:n≤q)(z:FrzRs h n rows es):Frz h n (.hs q v 0 len room) (.sl m es):=
 Frz.rows hq hg hlen z.len.symm z.at_
theorem Frz.data{h:Heap}{n q v e m:Nat}{rows:List AVal}{len:Nat}{room:Bool}(hq:n≤q)(hg:getRow h q v=some (e,m,rows))(hlen:len=rows.length)(hc:∀r∈rows,Clo n r)(hs:∀r∈rows,∀c∈r.cells,c.sto=true):Frz h n (.hs q v 0 len room) (.sl m rows):=
 Frz.rows hq hg hlen rfl fun i r s hr hs'=>by rw[hr]at hs';cases hs';exact FrzR.clo (hc r (J4 hr)) (hs r (J4 hr))
end Go.Av
namespace Go.Av
open Go Go.Proofs Go.RowKit
attribute [local irreducible] WP WPl WPix Sat
variable (G:Nat→Option (List AVal))
def tkR(n:Bs)(q v len:Nat):Blk:=.row 221 4 0 [.agg [.int .i64 1,.str n,.hs q v 0 len true,.str []]]
def atR(v:Nat)(l:List At):Blk:=.row 254 2 v (l.map At.av)
@[go_sem] theorem Ab(n:Bs)(q v len:Nat)(l:Heap):getRow (tkR n q v len::l) 0 0=some (221,4,[.agg [.int .i64 1,.str n,.hs q v 0 len true,.str []]]):=rfl
@[go_sem] theorem yN(n:Bs)(q v len:Nat)(l:Heap)(k u:Nat):getRow (tkR n q v len::l) (k+1) u=getRow l k u:=rfl
@[go_sem] theorem yO(v:Nat)(l:List At)(j:Heap)(k u:Nat):getRow (atR v l::j) (k+1) u=getRow j k u:=rfl
def p1:Bs:=[60,33,45,45]
def p2:Bs:=[60,63]
def p3:Bs:=[60,33,68,79,67,84,89,80,69]
def tksR(v:Nat)(l:List Tok):Blk:=.row 221 4 v (l.map Tok.av)
@[go_sem] theorem yP(v:Nat)(l:List Tok)(j:Heap)(k u:Nat):getRow (tksR v l::j) (k+1) u=getRow j k u:=rfl
end Go.Av
namespace Go.Av
open Go Go.Proofs Go.RowKit
end Go.Av
namespace Go.Av
open Go Go.Proofs Go.RowKit
attribute [local irreducible] WP WPl WPix Sat
variable (G:Nat→Option (List AVal))
theorem Fin.frzS{h0:Heap}{R:AVal→Heap→Prop}{r0 r:AVal}(hz:Frz h0 h0.length r0 r)(hR:R r h0):Fin h0 h0 R r0:=by
 have:=Fin.frz (h0:=h0) (j:=[]) (R:=R) (r0:=r0) (r:=r) (by simpa using hz) hR;simpa using this
structure OE where
 n:Bs
 a:List At
 t:Bs
 k:List Elem
 q:Nat
 v:Nat
def OE.av(o:OE):AVal:=.agg [.str o.n,.sl 2 (o.a.map At.av),.str o.t,.hs o.q o.v 0 o.k.length true]
variable {H:Heap} {n0 pb po vo pd vd:Nat} {room:Bool} {os:List OE} {ds:List Elem}
end Go.Av
namespace Go.Av
open Go Go.Proofs Go.RowKit
attribute [local irreducible] WP WPl WPix Sat
variable (G:Nat→Option (List AVal))
theorem lg{x:Int}(h0:0≤x)(h1:x<256):IntKind.u8.wrap x=x:=by
 simp only[IntKind.wrap,IntKind.bits,IntKind.signed];simp;omega
theorem ue(k:IntKind)(n:Int)(h0:0≤n)(h1:n<256):aconv Tryz.prog 21 5 (.int k n)=some (.int .u8 n):=by simp only[aconv,go_sem,lg h0 h1]
theorem vS{a b:Int}(h0:0≤a):a.tdiv b=a/b:=Int.tdiv_eq_ediv_of_nonneg h0
theorem vT{a b:Int}(h0:0≤a):a.tmod b=a%b:=Int.tmod_eq_emod_of_nonneg h0
theorem Bytes.clo(n m:Nat)(l:Bs):Clo n (.sl m (l.map bytA)):=.sl _ _ fun e he=>by obtain⟨a,_,rfl⟩:=J5.1 he;exact .int _ _
theorem vU(r:Int)(hr:Rune r)(h:Heap):Sat (CT G) 207 [.int .i32 r] h (fun x h'=>x=.sl 1 ((enc r).map bytA)∧h'=h):=by
 obtain⟨h0,h1⟩:=id hr;have n64:((64:Int)=0)=False:=by decide
 have F:=F4 @ue @bp @vS @vT;refine sb [.tmp 2] Tryz.func207 ?_;intro Q hQ;(repeat (first|refine w1 (fun K hK=>?_)|refine w2 ?_|refine w3 ?_| ((first|refine w4 ?_|refine wD ?_|refine w5 ?_|refine w6 ?_|refine w7 ?_);try refine sq F ?_)| (refine w8 ?_;refine sq F ?_;refine w9 ?_)| (refine rq F ?_;try refine sq F ?_)| (refine vq F ?_;try refine sq F ?_)| ((first|refine hK _ _ (w0 ?_)| (clear hK K;refine hK _ _ (w0 ?_))| (clear hK K;clear hK K;refine hK _ _ (w0 ?_)));clear hK K)))
 (first|refine gq F (fun g1=>?_) (fun g1=>?_)|refine pq F (fun g1=>?_) (fun g1=>?_))<;>(try exact g1.elim)<;>(try refine sq F ?_)<;>((repeat (first|refine w1 (fun K hK=>?_)|refine w2 ?_|refine w3 ?_| ((first|refine w4 ?_|refine wD ?_|refine w5 ?_|refine w6 ?_|refine w7 ?_);try refine sq F ?_)| (refine w8 ?_;refine sq F ?_;refine w9 ?_)| (refine rq F ?_;try refine sq F ?_)| (refine vq F ?_;try refine sq F ?_)| ((first|refine hK _ _ (w0 ?_)| (clear hK K;refine hK _ _ (w0 ?_))| (clear hK K;clear hK K;refine hK _ _ (w0 ?_)));clear hK K))))
 ·exfalso;omega
 ·have big:∀(t':Env),t' 0=.int .i32 r→t' 16=.bool false→K t' h:=by
   intro t' e0 e16;refine hK _ _ (I9 ?_);clear hK K;have F:=F3 F e0 e16;(repeat (first|refine w1 (fun K hK=>?_)|refine w2 ?_|refine w3 ?_| ((first|refine w4 ?_|refine wD ?_|refine w5 ?_|refine w6 ?_|refine w7 ?_);try refine sq F ?_)| (refine w8 ?_;refine sq F ?_;refine w9 ?_)| (refine rq F ?_;try refine sq F ?_)| (refine vq F ?_;try refine sq F ?_)| ((first|refine hK _ _ (w0 ?_)| (clear hK K;refine hK _ _ (w0 ?_))| (clear hK K;clear hK K;refine hK _ _ (w0 ?_)));clear hK K)))
   have fin:∀l:List AVal,(enc r).map bytA=l→Fin h h (fun x h'=>x=.sl 1 ((enc r).map bytA)∧h'=h) (.sl 1 l):=fun l e=>by
    rw[← e];exact Fin.frzS (.clo _ (Bytes.clo _ _ _)) ⟨rfl,rfl⟩
   refine cq F (fun c1=>?_) (fun c1=>?_)<;>(try exact c1.elim)<;>((repeat (first|refine w1 (fun K hK=>?_)|refine w2 ?_|refine w3 ?_| ((first|refine w4 ?_|refine wD ?_|refine w5 ?_|refine w6 ?_|refine w7 ?_);try refine sq F ?_)| (refine w8 ?_;refine sq F ?_;refine w9 ?_)| (refine rq F ?_;try refine sq F ?_)| (refine vq F ?_;try refine sq F ?_)| ((first|refine hK _ _ (w0 ?_)| (clear hK K;refine hK _ _ (w0 ?_))| (clear hK K;clear hK K;refine hK _ _ (w0 ?_)));clear hK K))))
   ·refine ee hQ F ?_;exact fin _ (u5 h0 c1)
   ·refine cq F (fun c2=>?_) (fun c2=>?_)<;>(try exact c2.elim)<;>((repeat (first|refine w1 (fun K hK=>?_)|refine w2 ?_|refine w3 ?_| ((first|refine w4 ?_|refine wD ?_|refine w5 ?_|refine w6 ?_|refine w7 ?_);try refine sq F ?_)| (refine w8 ?_;refine sq F ?_;refine w9 ?_)| (refine rq F ?_;try refine sq F ?_)| (refine vq F ?_;try refine sq F ?_)| ((first|refine hK _ _ (w0 ?_)| (clear hK K;refine hK _ _ (w0 ?_))| (clear hK K;clear hK K;refine hK _ _ (w0 ?_)));clear hK K))))
    ·refine ee hQ F ?_;exact fin _ (by rw[u6 c1 c2])
    ·refine cq F (fun c3=>?_) (fun c3=>?_)<;>(try exact c3.elim)<;>((repeat (first|refine w1 (fun K hK=>?_)|refine w2 ?_|refine w3 ?_| ((first|refine w4 ?_|refine wD ?_|refine w5 ?_|refine w6 ?_|refine w7 ?_);try refine sq F ?_)| (refine w8 ?_;refine sq F ?_;refine w9 ?_)| (refine rq F ?_;try refine sq F ?_)| (refine vq F ?_;try refine sq F ?_)| ((first|refine hK _ _ (w0 ?_)| (clear hK K;refine hK _ _ (w0 ?_))| (clear hK K;clear hK K;refine hK _ _ (w0 ?_)));clear hK K))))
     ·refine ee hQ F ?_;exact fin _ (by rw[pI hr c2 c3])
     ·refine ee hQ F ?_;exact fin _ (by rw[u7 c3 (by omega)])
  (first|refine gq F (fun g2=>?_) (fun g2=>?_)|refine pq F (fun g2=>?_) (fun g2=>?_))<;>(try exact g2.elim)<;>(try refine sq F ?_)<;>((repeat (first|refine w1 (fun K hK=>?_)|refine w2 ?_|refine w3 ?_| ((first|refine w4 ?_|refine wD ?_|refine w5 ?_|refine w6 ?_|refine w7 ?_);try refine sq F ?_)| (refine w8 ?_;refine sq F ?_;refine w9 ?_)| (refine rq F ?_;try refine sq F ?_)| (refine vq F ?_;try refine sq F ?_)| ((first|refine hK _ _ (w0 ?_)| (clear hK K;refine hK _ _ (w0 ?_))| (clear hK K;clear hK K;refine hK _ _ (w0 ?_)));clear hK K))))
  ·exfalso;omega
  ·(first|refine gq F (fun g3=>?_) (fun g3=>?_)|refine pq F (fun g3=>?_) (fun g3=>?_))<;>(try exact g3.elim)<;>(try refine sq F ?_)<;>((repeat (first|refine w1 (fun K hK=>?_)|refine w2 ?_|refine w3 ?_| ((first|refine w4 ?_|refine wD ?_|refine w5 ?_|refine w6 ?_|refine w7 ?_);try refine sq F ?_)| (refine w8 ?_;refine sq F ?_;refine w9 ?_)| (refine rq F ?_;try refine sq F ?_)| (refine vq F ?_;try refine sq F ?_)| ((first|refine hK _ _ (w0 ?_)| (clear hK K;refine hK _ _ (w0 ?_))| (clear hK K;clear hK K;refine hK _ _ (w0 ?_)));clear hK K))))
   ·have e:decide (r≤57343)=false:=(by rw[decide_eq_false_iff_not];omega);refine big _ ?_ ?_
    ·exact zq F
    ·exact zq (F2 F e)
   ·refine big _ ?_ ?_
    ·exact zq F
    ·exact zq F
theorem nO:bytesStr Tryz.prog 155 9=true:=by kernel_rfl
def runA(r:Int):AVal:=.int .i32 r
@[go_sem] theorem Ac(r:Int):(runA r).cells=[.int .i32 r]:=(rfl)
theorem vV(l:List Int)(hr:∀r∈l,Rune r)(hl:l.length≤1048576)(h:Heap):Sat (CT G) 176 [.sl 1 (l.map runA)] h (fun x h'=>x=.str (l.flatMap enc)∧h'=h):=by
 have hll:(l.map runA).length=l.length:=I5 ..;have F:=hll;refine sb [.tmp 2] Tryz.func176 ?_;intro Q hQ;refine wk F ?_;refine lm (fun nL tL hL=>∃(k v:Nat) (acc:Bs),l.length-k=nL∧h++[.row 5 1 v (acc.map bytA)]=hL∧tL 3=.hs h.length v 0 acc.length true∧tL 4=.int .i64 k∧k≤l.length∧acc++(l.drop k).flatMap enc=l.flatMap enc∧acc.length≤4*k) ((fun(k v:Nat) (acc:Bs)=>(l.length-k:Nat)) (0) (0) ([])) ?_ ?_
 ·refine⟨_,_,U9 3 5 1 (by simp) (by omega) (by exact zq F),⟨0,0,[],rfl,aw,?_,?_,?_,?_,?_⟩⟩;all_goals try exact zZz F
 rintro _ s2 h' ⟨k,v,acc,rfl,rfl,e3,e4,hk,hp,hz⟩ K2 hK2;simp only[ah,ao,Nat.reduceEqDiff, ↓reduceIte]at e3 e4;have F:=F3 F e3 e4;refine wk F ?_;refine cq F (fun hc=>?_) (fun hc=>?_)<;>(try exact hc.elim)
 ·obtain⟨y,hy,hym⟩:=ac hc;rw[aA hy,R4]at hp;have he:=dr y;have hel:((enc y).map bytA).length=(enc y).length:=I5 ..;have F:=F2 F hy;refine wk F ?_;refine kq F (vU G y (hr y hym) _) ?_;refine aq F ?_;try refine sq F ?_
  refine wk F ?_;refine hK2 _ _ _ (I9 ⟨k+1,v+1,acc++enc y,rfl,aw,?_,?_,by omega,by rw[← hp];simp,by simp;omega⟩) (by omega);all_goals try exact zZz F
 ·rw[aE hc,X7,M4]at hp;have hb:=eA acc;have hel:elemsOf (h++[.row 5 1 v (acc.map bytA)]) 1 (.hs h.length v 0 acc.length true)=some (acc.map bytA):=by
   simp[elemsOf,getRow,K6]
  have F:=F4 F hb hel @nO;refine wk F ?_;refine ee hQ F ?_;rw[← hp];exact Fin.plainE (j:=_) rfl (.str _) ⟨rfl,rfl⟩
variable {G}
end Go.Av
namespace Go.Av
open Go Go.Proofs Go.RowKit
attribute [local irreducible] WP WPl WPix Sat
variable {G:Nat→Option (List AVal)}
end Go.Av
namespace Go.Av
open Go.RowKit
section
variable {C:Ctx} {t:Env} {h:Heap}
def nopO:Oper:= {dst:=none,op:=.move (.const (.bool false)),type:=0,pos:= "",after:= #[],guard:=none}
end
end Go.Av
namespace Go.Av
open Go Go.Proofs Go.RowKit
variable (G:Nat→Option (List AVal))
end Go.Av
namespace Go.Av
open Go Go.Proofs Go.RowKit
attribute [local irreducible] WP WPl WPix Sat
variable (G:Nat→Option (List AVal))
section
variable {σ:Type} (A B:Elem→σ→σ)
end
section
end
section
end
end Go.Av
namespace Go.Av
open Go Go.RowKit
def ov(H:Heap)(n:Nat)(bs:List Blk):Heap:=H.take n++bs++H.drop (n+bs.length)
theorem bt{H:Heap}{n:Nat}{bs:List Blk}(hn:n+bs.length≤H.length):(ov H n bs).length=H.length:=by
 simp only[ov,J3,M6,M7];omega
theorem bu{H:Heap}{n:Nat}{bs:List Blk}(hn:n+bs.length≤H.length)(p:Nat):(ov H n bs)[p]? =if n≤p∧p<n+bs.length then bs[p-n]? else H[p]? :=by
 have h1:(H.take n).length=n:=by rw[M6];omega
 unfold ov;by_cases h:n≤p∧p<n+bs.length
 ·rw[I7 h,I8 (by rw[J3,h1];omega),J1 (by omega),h1]
 ·rw[I0 h];by_cases h2:p<n
  ·rw[I8 (by rw[J3,h1];omega),I8 (by omega),J9 h2]
  ·rw[J1 (by rw[J3,h1];omega),N4,J3,h1];congr 1;omega
theorem vn{H:Heap}{n k:Nat}{bs:List Blk}(hn:n+bs.length≤H.length)(hk:k<bs.length):(ov H n bs)[n+k]? =bs[k]? :=by
 rw[bu hn,I7 (by omega)];congr 1;omega
theorem mD{H:Heap}{n p:Nat}{bs:List Blk}(hn:n+bs.length≤H.length)(hp:p<n∨n+bs.length≤p):(ov H n bs)[p]? =H[p]? :=by
 rw[bu hn,I0 (by omega)]
theorem dc{H:Heap}{n k:Nat}{bs:List Blk}(b:Blk)(hn:n+bs.length≤H.length)(hk:k<bs.length):(ov H n bs).set (n+k) b=ov H n (bs.set k b):=by
 apply P9
 intro p;have hl:(bs.set k b).length=bs.length:=U1 ..;rw[U8,bt hn,bu hn,bu (by rw[hl];exact hn),hl,U8];by_cases h:n+k=p
 ·subst h;rw[I7 rfl,I7 (by omega),I7 (by omega),I7 (by omega),I7 (by omega)]
 ·rw[I0 h];split
  ·rw[I0 (by omega)]
  ·rfl
theorem vW{H:Heap}{n:Nat}{bs:List Blk}(b:Blk)(hn:n+bs.length≤H.length)(hk:0<bs.length):(ov H n bs).set n b=ov H n (bs.set 0 b):=dc (k:=0) b hn hk
theorem rN{H:Heap}{n p:Nat}{bs:List Blk}(b:Blk)(hn:n+bs.length≤H.length)(hp:p<n∨n+bs.length≤p):(ov H n bs).set p b=ov (H.set p b) n bs:=by
 apply P9
 intro q;rw[U8,bt hn,bu hn,bu (by rw[U1];exact hn),U8];by_cases h:p=q
 ·subst h;have:¬(n≤p∧p<n+bs.length):=by omega
  simp[this]
 ·rw[I0 h,I0 h]
theorem mE{H j:Heap}{n:Nat}{bs:List Blk}(hn:n+bs.length≤H.length):ov H n bs++j=ov (H++j) n bs:=by
 apply P9
 intro q;rw[bu (by rw[J3];omega)];rcases R1 q H.length with h|h
 ·rw[I8 (by rw[bt hn];exact h),bu hn,I8 h]
 ·rw[J1 (by rw[bt hn];exact h),bt hn,I0 (by omega),J1 h]
theorem rO(H:Heap)(bs:List Blk)(j:Heap):H++(bs++j)=ov (H++(bs++j)) H.length bs:=by
 unfold ov;rw[S3 rfl,List.drop_append,Q2 (by omega),M3,S9,List.drop_left' rfl,N2]
theorem xx{H:Heap}{n k:Nat}{bs:List Blk}(v:Nat)(hn:n+bs.length≤H.length)(hk:k<bs.length):getRow (ov H n bs) (n+k) v=getRow bs k v:=by unfold getRow;rw[vn hn hk]
theorem vX{H:Heap}{n p:Nat}{bs:List Blk}(v:Nat)(hn:n+bs.length≤H.length)(hp:p<n∨n+bs.length≤p):getRow (ov H n bs) p v=getRow H p v:=by unfold getRow;rw[mD hn hp]
theorem dY{H:Heap}{n k:Nat}{bs:List Blk}(hn:n+bs.length≤H.length)(hk:k<bs.length):mapAt (ov H n bs) (n+k)=mapAt bs k:=by unfold mapAt;rw[vn hn hk]
theorem vY{H:Heap}{n:Nat}{bs:List Blk}(hn:n+bs.length≤H.length)(hk:0<bs.length):mapAt (ov H n bs) n=mapAt bs 0:=dY (k:=0) hn hk
theorem FrN.behind{H H':Heap}(g:FrN H.length H H')(hl:H.length≤H'.length):∃j,H'=H++j:=by
 refine⟨H'.drop H.length,?_⟩
 apply P9
 intro p;by_cases h:p<H.length
 ·rw[I8 h,g p h]
 ·rw[J1 (by omega),N4];congr 1;omega
theorem rP{H j:Heap}{n:Nat}{bs cs:List Blk}{R:AVal→Heap→Prop}{r:AVal}(hn:n+bs.length≤H.length)(hl:cs.length=bs.length)(hb:∀b∈cs,CloB H.length b)(hc:Clo H.length r)(hR:R r (ov H n cs)):Fin (ov H n bs) (ov (H++j) n cs) R r:=by
 rw[← mE (by omega)];refine Fin.keep (by rw[bt hn,bt (by omega)]) (fun p k hk=>?_) (by rw[bt hn];exact hc) hR;rw[bu (by omega)]at hk;rw[bt hn,bu hn];by_cases h:n≤p∧p<n+cs.length
 ·rw[I7 h]at hk;exact .inr (hb k (J4 hk))
 ·rw[I0 h]at hk;left;rw[I0 (by omega)];exact hk
theorem vZ{H:Heap}{n:Nat}{bs cs:List Blk}{R:AVal→Heap→Prop}{r:AVal}(hn:n+bs.length≤H.length)(hl:cs.length=bs.length)(hb:∀b∈cs,CloB H.length b)(hc:Clo H.length r)(hR:R r (ov H n cs)):Fin (ov H n bs) (ov H n cs) R r:=by
 have:=rP (j:=[]) hn hl hb hc hR
 rwa [M4]at this
theorem fI{H j:Heap}{n:Nat}{bs cs:List Blk}{R:AVal→Heap→Prop}{r0 r:AVal}(hn:n+bs.length≤H.length)(hl:cs.length=bs.length)(hb:∀b∈cs,CloB H.length b)(hc:Frz (ov (H++j) n cs) H.length r0 r)(hR:R r (ov H n cs)):Fin (ov H n bs) (ov (H++j) n cs) R r0:=by
 rw[← mE (by omega)]at hc ⊢;refine Fin.keepF (by rw[bt hn,bt (by omega)]) (fun p k hk=>?_) (by rw[bt hn];exact hc) hR;rw[bu (by omega)]at hk;rw[bt hn,bu hn];by_cases h:n≤p∧p<n+cs.length
 ·rw[I7 h]at hk;exact .inr (hb k (J4 hk))
 ·rw[I0 h]at hk;left;rw[I0 (by omega)];exact hk
end Go.Av
namespace Go.Av
open Go.RowKit
inductive ET where
 |fin
 |one (i:Nat) (m:List Bool) (s:ET)
 |two (i:Nat) (m:List Bool) (s:ET) (j:Nat) (m':List Bool) (u:ET)
def maskL:List Bool→List Oper→List Oper
 |true::m,o::l=>o::maskL m l
 |false::m,_::l=>nopO::maskL m l
 |_,_=>[]
@[go_sem] theorem aB(m:List Bool)(o:Oper)(l:List Oper):maskL (true::m) (o::l)=o::maskL m l:=(rfl)
@[go_sem] theorem aC(m:List Bool)(o:Oper)(l:List Oper):maskL (false::m) (o::l)=nopO::maskL m l:=(rfl)
@[go_sem] theorem az(l:List Oper):maskL [] l=[]:=by cases l<;>rfl
theorem cS:∀(m:List Bool) (l:List Oper) (i:Nat),(maskL m l)[i]? =match m[i]?,l[i]? with|some true,some o=>some o|some false,some _=>some nopO|_,_=>none
 | [],l,i=>by rw[az];simp
 |b::m,[],i=>by cases b<;>simp[maskL]
 |true::m,o::l,0=>by simp[maskL]
 |false::m,o::l,0=>by simp[maskL]
 |true::m,o::l,i+1=>by simp only[maskL,Q4];exact cS m l i
 |false::m,o::l,i+1=>by simp only[maskL,Q4];exact cS m l i
theorem hO:∀(m:List Bool) (l:List Oper),m.length≤l.length→(maskL m l).length=m.length
 | [],l,_=>by rw[az];rfl
 |b::m,[],h=>by simp at h
 |true::m,o::l,h=>by simp only[maskL,I6];rw[hO m l (by simpa using h)]
 |false::m,o::l,h=>by simp only[maskL,I6];rw[hO m l (by simpa using h)]
def wrM:List Bool→List Oper→List Nat
 |true::m,o::l=>match o.dst with|some d=>d::wrM m l|none=>wrM m l
 |false::m,_::l=>wrM m l
 |_,_=>[]
@[go_sem] theorem Hn(m:List Bool)(o:Oper)(l:List Oper):wrM (true::m) (o::l)=match o.dst with|some d=>d::wrM m l|none=>wrM m l:=(rfl)
@[go_sem] theorem Ho(m:List Bool)(o:Oper)(l:List Oper):wrM (false::m) (o::l)=wrM m l:=(rfl)
@[go_sem] theorem Ad(l:List Oper):wrM [] l=[]:=by cases l<;>rfl
theorem mF:∀(m:List Bool) (l:List Oper),wrM m l=wrOps (maskL m l)
 | [],l=>by rw[Ad,az];rfl
 |b::m,[]=>by cases b<;>rfl
 |true::m,o::l=>by
  show(match o.dst with|some d=>d::wrM m l|none=>wrM m l)=(match o.dst with|some d=>d::wrOps (maskL m l)|none=>wrOps (maskL m l))
  rw[mF m l]
 |false::m,o::l=>by simp only[wrM,maskL,wrOps,nopO];rw[mF m l]
def freeO(o:Oper):Bool:=match o.op with
 | .move _| .assign _| .pick _ _ _| .extract _ _| .field _ _ _| .build _ _| .unOp _ _ _=>true
 |_=>false
def okI(ops:Array Oper)(b:Array Nat)(k:Nat)(es:List Nat)(i:Nat)(m:List Bool)(X:List Nat):Bool:=
 es.contains i&& !X.contains i&&(es.all fun x=> !(b.getD i 0).testBit x||X.contains x)&&
 ((List.range k).all fun p=>es.contains p||m.getD p false||(decide (p<i)&&(b.getD i 0).testBit p)||(es.any fun x=>X.contains x&&decide (p<x)&&(b.getD x 0).testBit p)||(ops[p]?.any freeO))&&
 ((List.range m.length).all fun p=> !m.getD p false||(decide (p<k)&& !es.contains p))&&decide (m.length≤k)
def okO(b:Array Nat)(es X is:List Nat):Bool:=
 es.all fun x=>X.contains x||is.contains x||es.any fun y=> !X.contains y&&decide (y<x)&&(b.getD x 0).testBit y
def okE(ops:Array Oper)(b:Array Nat)(k:Nat)(es:List Nat):ET→List Nat→Bool
 | .fin,X=>es.all X.contains
 | .one i m s,X=>okI ops b k es i m X&&okO b es X [i]&&okE ops b k es s (i::X)
 | .two i m s j m' u,X=>okI ops b k es i m X&&okI ops b k es j m' X&&okO b es X [i,j]&&okE ops b k es s (i::X)&&okE ops b k es u (j::X)
def chkE(l:List Oper)(k:Nat)(es:List Nat)(m0:List Bool)(tr:ET):Bool:=
 let ops:=l.toArray
 let b:=Region.before ops
 preOkG false ops k&&decide (k≤l.length)&&
 ((List.range k).all fun i=>(List.range k).all fun j=>match ops[i]?,ops[j]? with
  |some oi,some oj=>match oj.dst with
   |some d=> !(oi.looksAt ops).contains d||(decide (j<i)&&(b.getD i 0).testBit j&&(es.contains i|| !es.contains j))
   |none=>true
  |_,_=>true)&&
 ((List.range k).all fun i=>es.contains i||(ops[i]?.any fun o=>o.dst.isSome))&&
 (es.all fun e=>decide (e<k))&&m0==(List.range k).map (fun i=> !es.contains i)&&okE ops b k es tr []
section
variable {C:Ctx} {t:Env} {h:Heap}
def stepE(C:Ctx)(l:List Oper)(t0:Env)(i:Nat)(m:List Bool)(P:Env→Heap→Prop)(tc:Env)(h:Heap):Prop:=
 need (l[i]?) fun o=>wpOperV C l.toArray o tc h fun v h'=>(WPp C l.toArray (maskL m l) t0 h' fun t''=>agrL (wrM m l) t'' t0)∧P (put tc o.dst v) h'
def WPe(C:Ctx)(Q:Exit→Env→Heap→Prop)(l:List Oper)(k:Nat)(t0:Env):ET→Env→Heap→Prop
 | .fin,tc,h=>WPl C l.toArray Q (l.drop k) tc h
 | .one i m s,tc,h=>stepE C l t0 i m (WPe C Q l k t0 s) tc h
 | .two i m s j m' u,tc,h=>stepE C l t0 i m (WPe C Q l k t0 s) tc h∧stepE C l t0 j m' (WPe C Q l k t0 u) tc h
theorem rQ{ops:Array Oper}{o:Oper}{s:Env}(hf:freeO o=true){v:AVal}(g:∀KK:AVal→Heap→Prop,KK v h→wpOperV C ops o s h KK)(h':Heap):∀KK:AVal→Heap→Prop,KK v h'→wpOperV C ops o s h' KK:=by
 intro KK hk;have g:=g (fun v' _=>KK v' h') hk;have key:∀K:AVal→Heap→Prop,wpOp C o.op s h (fun v' _=>K v' h')=wpOp C o.op s h' K:=by
  intro K;unfold freeO at hf;cases ho:o.op<;>rw[ho]at hf<;>first| (cases hf;done)|rfl
 unfold wpOperV at g ⊢;cases hg:o.guard with
 |none=>rw[hg]at g;simp only at g ⊢;rw[← key];exact g
 |some q=>
  obtain⟨j,w⟩:=q;rw[hg]at g;simp only at g ⊢;cases hq:guardA ops s j with
  |none=>rw[hq]at g;exact g
  |some b=>rw[hq]at g;simp only at g ⊢;rw[← key];exact g
theorem mG{V:Nat→AVal}(l:List Oper)(t:Env)(hu:∀(i j:Nat) (oi oj:Oper) (d:Nat),l[i]? =some oi→l[j]? =some oj→oi.dst=some d→oj.dst=some d→i=j):
  ∀i,i≤l.length→(∀(j:Nat) (o:Oper) (d:Nat),j<i→l[j]? =some o→o.dst=some d→Av.T V l t i d=V j)∧(∀d,(∀(j:Nat) (o:Oper),j<i→l[j]? =some o→o.dst≠some d)→Av.T V l t i d=t d)
 |0,_=>⟨fun j o d hj=>by omega,fun d _=>by rw[gP]⟩
 |i+1,hi=>by
  obtain⟨h1,h2⟩:=mG l t hu i (by omega);have ho:l[i]? =some (l[i]'(by omega)):=I2 _;rw[eO V l t i _ ho];generalize l[i]=o at ho;refine⟨fun j oj d hj hoj hd=>?_,fun d hn=>?_⟩
  ·by_cases hji:j=i
   ·subst hji;rw[ho]at hoj;cases hoj;simp[put,hd,upd]
   ·have hne:o.dst≠some d:=fun e=>hji (hu j i oj o d hoj ho hd e)
    have:put (Av.T V l t i) o.dst (V i) d=Av.T V l t i d:=by
     cases hdo:o.dst with
     |none=>rfl
     |some x=>simp only[put,upd];rw[I0];intro e;subst e;exact hne hdo
    rw[this];exact h1 j oj d (by omega) hoj hd
  ·have hne:o.dst≠some d:=hn i o (by omega) ho;have:put (Av.T V l t i) o.dst (V i) d=Av.T V l t i d:=by
    cases hdo:o.dst with
    |none=>rfl
    |some x=>simp only[put,upd];rw[I0];intro e;subst e;exact hne hdo
   rw[this];exact h2 d fun j oj hj hoj=>hn j oj (by omega) hoj
theorem Ag.upd'{ops:Array Oper}{k:Nat}{V:Nat→AVal}{t s:Env}{p:Nat→Bool}(g:Ag ops k V t p s){i:Nat}(hp:p i=false)(v:AVal):Ag ops k (fun j=>if j=i then v else V j) t p s:=
 ⟨fun j o x hj ho hpj hd=>by
  have:j≠i:=fun e=>by subst e;rw[hp]at hpj;cases hpj
  simp only[I0 this];exact g.1 j o x hj ho hpj hd,g.2⟩
theorem Ag.congr'{ops:Array Oper}{k:Nat}{V:Nat→AVal}{t s:Env}{p p':Nat→Bool}(g:Ag ops k V t p s)(hp:∀j,j<k→p' j=p j):Ag ops k V t p' s:=
 ⟨fun j o x hj ho hpj hd=>g.1 j o x hj ho (by rw[← hp j hj];exact hpj) hd,fun x hn=>g.2 x fun j o hj ho hpj=>hn j o hj ho (by rw[hp j hj];exact hpj)⟩
theorem pS{l:List Oper}{Q:Exit→Env→Heap→Prop}{k:Nat}{es:List Nat}{t0 t:Env}(D:PreOk l.toArray k fun i j=>((Region.before l.toArray).getD j 0).testBit i)(hkn:k≤l.length)
  (c4:∀(i j:Nat) (oi oj:Oper) (d:Nat),i<k→j<k→l[i]? =some oi→l[j]? =some oj→oj.dst=some d→d∈oi.looksAt l.toArray→j<i∧((Region.before l.toArray).getD i 0).testBit j=true∧(es.contains i=true∨es.contains j=false))
  (c7:∀(i:Nat) (o:Oper),i<k→es.contains i=false→l[i]? =some o→o.dst.isSome=true)(hes:∀e,es.contains e=true→e<k)
  (hA:detGo .any l.toArray (l.length-k) (listK l.length k)=some (List.range' k (l.length-k))):
  ∀(fuel n:Nat) (L:Array Bool) (s:Env) (tr:ET) (V:Nat→AVal) (tc:Env) (h:Heap) (X:List Nat),L.size=l.length→left l.toArray L=fuel→Closed l.toArray L→(∀j,j<l.length→L.getD j false=true→j<k)→
   (∀j,es.contains j=true→(L.getD j false=X.contains j))→okE l.toArray (Region.before l.toArray) k es tr X=true→
   Ag l.toArray k V t (fun j=>L.getD j false) s→Ag l.toArray k V t (fun j=> !es.contains j) t0→Ag l.toArray k V t (fun j=> !es.contains j||X.contains j) tc→
   (∀(i:Nat) (o:Oper),i<k→es.contains i=false→L.getD i false=false→l[i]? =some o→∀KK:AVal→Heap→Prop,KK (V i) h→wpOperV C l.toArray o t0 h KK)→WPe C Q l k t0 tr tc h→
   WPix C l.toArray Q (Region.linearise.go .any l.toArray fuel n L []) s h:=by
 have hsee:∀{V:Nat→AVal} {s s':Env} {p p':Nat→Bool} {i:Nat} {o:Oper},Ag l.toArray k V t p s→Ag l.toArray k V t p' s'→i<k→l[i]? =some o→
   (∀j,j<i→((Region.before l.toArray).getD i 0).testBit j=true→(es.contains i=true∨es.contains j=false)→p j=true∧p' j=true)→∀d∈o.looksAt l.toArray,s d=s' d:=by
  intro V s s' p p' i o g g' hi ho hp d hd;by_cases hx:∃(j:Nat) (oj:Oper),j<k∧l[j]? =some oj∧oj.dst=some d
  ·obtain⟨j,oj,h1,h2,h3⟩:=hx;obtain⟨h4,h5,h6⟩:=c4 i j o oj d hi h1 ho h2 h3 hd;obtain⟨h7,h8⟩:=hp j h4 h5 h6;rw[g.1 j oj d h1 (by simpa using h2) h7 h3,g'.1 j oj d h1 (by simpa using h2) h8 h3]
  ·have hn:∀(j:Nat) (oj:Oper),j<k→l.toArray[j]? =some oj→oj.dst≠some d:=fun j oj h1 h2 h3=>hx ⟨j,oj,h1,by simpa using h2,h3⟩
   rw[g.2 d fun j oj h1 h2 _=>hn j oj h1 h2,g'.2 d fun j oj h1 h2 _=>hn j oj h1 h2]
 intro fuel;induction fuel with
 |zero=>
  intro n L s tr V tc h X hs hl cl hlt hX hok ag ag0 agc hv hw;have hall:=dQ (by simpa using hs) hl;cases tr with
  |fin=>
   have hk:k=l.length:=by
    apply O3
    intro hne;have:=hlt k (by omega) (hall k (by simp;omega));omega
   subst hk;simp only[Region.linearise.go,List.reverse_nil,WPix];simp only[WPe,List.drop_length,WPl]at hw;have e:s=tc:=by
    refine Ag.eq (p:=fun _=>true) (ag.congr' fun j hj=>?_) (agc.congr' fun j hj=>?_)
    ·exact(hall j (by simpa using hj)).symm
    ·cases hc:es.contains j with
     |false=>rfl
     |true=>rw[← hX j hc,hall j (by simpa using hj)];rfl
   rw[e];exact hw
  |one i m u=>
   simp only[okE,okI,I1,M5]at hok;have h1:=hok.1.1.1.1.1.1.1;have h2:=hok.1.1.1.1.1.1.2;have:=hall i (by have:=hes i h1;simp;omega);rw[hX i h1,h2]at this;cases this
  |two i m u j m' u'=>
   simp only[okE,okI,I1,M5]at hok;have h1:=hok.1.1.1.1.1.1.1.1.1;have h2:=hok.1.1.1.1.1.1.1.1.2;have:=hall i (by have:=hes i h1;simp;omega);rw[hX i h1,h2]at this;cases this
 |succ fuel ih=>
  intro n L s tr V tc h X hs hl cl hlt hX hok ag ag0 agc hv hw;have bef:∀(i:Nat) (o:Oper),i<k→l[i]? =some o→(∀e∈o.after,Region.binds .any e=true→L.getD e.on false=true)→∀j,j<i→((Region.before l.toArray).getD i 0).testBit j=true→L.getD j false=true:=
   fun i o hi ho hrd j hj hc=>D.bef cl i o (by simpa using ho) hi j hj hc hrd
  by_cases hfin:tr=.fin
  ·subst hfin;simp only[okE,M2]at hok;have hXe:∀j,es.contains j=true→L.getD j false=true:=fun j hj=>by rw[hX j hj];exact hok j (by simpa using hj)
   have hTT:=D.ag_T V t (by simpa using hkn) k (J0 _);refine da D .any D.less (by simpa using hkn) (V:=V) (t0:=t) (fun j=>es.contains j=false∧L.getD j false=false) (fun i o ho hoi KK hkk=>?_) ?_ _ _ _ _ (by simpa using hs) hl cl (by simpa using hlt) (fun j hj hlj=>?_) ag
   ·have hik:i<k:=by
     refine Nat.lt_of_not_le fun hle=>?_
     rw[P5,I0 (by omega)]at ho;cases ho
    have hoi':l[i]? =some o:=(by rw[P5,I7 hik]at ho;simpa using ho);have:=hv i o hik hoi.1 hoi.2 hoi' KK hkk;rw[← bc (hsee ag0 (D.ag_T V t (by simpa using hkn) i (by omega)) hik hoi' fun j hj hb he=>?_)]
    ·exact this
    ·rcases he with he|he
     ·rw[hoi.1]at he;cases he
     ·exact⟨by simp only[he];rfl,by simpa using hj⟩
   ·have:=mB (ops:=l.toArray) (Q:=Q) (md:=.any) _ _ _ (l.drop k) tc h hA (by rw[mC (by omega),K6 (by simp)]) hw;have e:Av.T V (l.toArray.toList.take k) t k=tc:=by
     refine Ag.eq (p:=fun _=>true) (hTT.congr' fun j hj=>?_) (agc.congr' fun j hj=>?_)
     ·simpa using hj
     ·cases hc:es.contains j with
      |false=>rfl
      |true=>have:=hok j (by simpa using hc);simp only[this];rfl
    rw[e];simpa using this
   ·refine⟨?_,hlj⟩;cases hc:es.contains j with
    |false=>rfl
    |true=>rw[hXe j hc]at hlj;cases hlj
  ·
   obtain⟨e0,he0,hX0⟩:∃e0,es.contains e0=true∧X.contains e0=false:=by
    cases tr with
    |fin=>exact absurd rfl hfin
    |one i m u=>
     simp only[okE,okI,I1,M5]at hok;exact⟨i,hok.1.1.1.1.1.1.1,hok.1.1.1.1.1.1.2⟩
    |two i m u j m' u'=>
     simp only[okE,okI,I1,M5]at hok;exact⟨i,hok.1.1.1.1.1.1.1.1.1,hok.1.1.1.1.1.1.1.1.2⟩
   have hek:=hes e0 he0;have heun:L.getD e0 false=false:=(by rw[hX e0 he0];exact hX0);have hne:Region.ready .any l.toArray L≠ []:=by
    have hmin:∃i,i<k∧L.getD i false=false∧∀j,j<i→L.getD j false=true:=by
     obtain⟨i,hi,hl⟩:∃i,i<k∧L.getD i false=false:=⟨e0,hek,heun⟩;induction i using Nat.strongRecOn with
     |ind i ih=>
      by_cases hall:∀j,j<i→L.getD j false=true
      ·exact⟨i,hi,hl,hall⟩
      ·have:∃j,j<i∧L.getD j false=false:=O3 fun hno=>hall fun j hj=>by
        cases hlj:L.getD j false with
        |true=>rfl
        |false=>exact absurd ⟨j,hj,hlj⟩ hno
       obtain⟨j,hj,hlj⟩:=this;exact ih j hj (by omega) hlj
    obtain⟨i,hi,hl,hall⟩:=hmin;have hin:i<l.toArray.size:=(by simp;omega);have h3:i<L.size:=(by omega);intro e;have:i∈Region.ready .any l.toArray L:=mem_ready.2 ⟨by simp[h3]at hl ⊢;exact hl,l.toArray[i],L9 hin,fun e he hb=>hall _ (D.less i _ (L9 hin) hi e he hb)⟩;rw[e]at this;cases this
   obtain⟨i,hi,hmem⟩:=bC hne n;obtain⟨hun,o,ho,hrd⟩:=mem_ready.1 hmem;have hin:=(L5.1 ho).1;have hin':i<l.length:=(by simpa using hin);have h3:i<L.size:=(by omega);have ho':l[i]? =some o:=(by simpa using ho);have hun':L.getD i false=false:=(by simp[h3]at hun ⊢;exact hun);have hik:i<k:=by
    refine Nat.lt_of_not_le fun hle=>?_
    obtain⟨e1,he1,hb,h1⟩:=D.sfx e0 i o ho hek hle;have h2:=hrd e1 he1 hb;have hkl:L.getD e0 false=true:=by
     rcases h1 with rfl| ⟨h4,h5,h6⟩
     ·exact h2
     ·have hoe:l.toArray[e1.on]? =some (l.toArray[e1.on]'(by simp;omega)):=L9 (by simp;omega);exact D.bef cl e1.on _ hoe h4 e0 h5 h6 fun e' he' hb'=>cl e1.on _ hoe h2 e' he' hb'
    rw[heun]at hkl;cases hkl
   rw[cM .any l.toArray fuel n L hi];simp only[WPix,ho];rw[dg];have hb:=bef i o hik ho' hrd;have agn:∀{V:Nat→AVal},Ag l.toArray k V t (fun j=>L.getD j false) s→Ag l.toArray k V t (fun j=>(L.setIfInBounds i true).getD j false) (put s o.dst (V i)):=fun ag=>by
    refine D.ag_put ag ho hik fun j hj=>?_
    by_cases hji:i=j
    ·subst hji;simp[h3]
    ·rw[getD_set_ne false hji];have:(j==i)=false:=by simp;exact fun e=>hji e.symm
     rw[this,Bool.or_false]
   have hlt':∀j,j<l.length→(L.setIfInBounds i true).getD j false=true→j<k:=fun j hj hlj=>by
    by_cases hji:i=j
    ·subst hji;exact hik
    ·rw[getD_set_ne false hji]at hlj;exact hlt j hj hlj
   have hls:left l.toArray (L.setIfInBounds i true)=fuel:=(by have:=dh (by simpa using hs) hin hun';omega);cases hic:es.contains i with
   |false=>
    have h9:=hv i o hik hic hun' ho';rw[← bc (hsee ag0 ag hik ho' fun j hj hbt he=>?_)]
    ·refine h9 _ ?_;refine ih _ _ _ tr V tc h X (by simpa using hs) hls (cl.set ho hrd) hlt' (fun j hj=>?_) hok (agn ag) ag0 agc (fun j oj hj hjc hjl hoj=>?_) hw
     ·have:i≠j:=fun e=>by subst e;rw[hic]at hj;cases hj
      rw[getD_set_ne false this];exact hX j hj
     ·have:i≠j:=fun e=>by subst e;simp[h3]at hjl
      rw[getD_set_ne false this]at hjl;exact hv j oj hj hjc hjl hoj
    ·rcases he with he|he
     ·rw[hic]at he;cases he
     ·exact⟨by simp only[he];rfl,hb j hj hbt⟩
   |true=>
    have hiX:X.contains i=false:=(by rw[← hX i hic];exact hun');have eff:∀(m:List Bool) (u:ET),okI l.toArray (Region.before l.toArray) k es i m X=true→okE l.toArray (Region.before l.toArray) k es u (i::X)=true→stepE C l t0 i m (WPe C Q l k t0 u) tc h→
      wpOperV C l.toArray o s h fun v h'=>WPix C l.toArray Q (Region.linearise.go .any l.toArray fuel (n/(Region.ready .any l.toArray L).length) (L.setIfInBounds i true) []) (put s o.dst v) h':=by
     intro m u hoI hoE hst;simp only[stepE,ho',aZ]at hst;rw[← bc (hsee agc ag hik ho' fun j hj hbt _=>?_)]
     ·refine bD hst fun v h' ⟨hre,hnx⟩=>?_
      have agV:=ag.upd' (i:=i) (by simpa using hun') v;have ag0V:=ag0.upd' (i:=i) (by simp only[hic];rfl) v;have agcV:=agc.upd' (i:=i) (by simp only[hic,hiX];rfl) v;have e1:=agn agV;simp only[if_true]at e1;refine ih _ _ _ u (fun j=>if j=i then v else V j) (put tc o.dst v) h' (i::X) (by simpa using hs) hls (cl.set ho hrd) hlt' (fun j hj=>?_) hoE e1 ag0V ?_ (fun p op hp hpc hpl hop=>?_) hnx
      ·by_cases hji:i=j
       ·subst hji;simp[h3]
       ·rw[getD_set_ne false hji,hX j hj];rw[List.contains_cons];have:(j==i)=false:=by simp;exact fun e=>hji e.symm
        rw[this,Bool.false_or]
      ·have:=D.ag_put (V:=fun j=>if j=i then v else V j) (p':=fun j=> !es.contains j||(i::X).contains j) agcV ho hik fun j hj=>by
        rw[List.contains_cons,Bool.or_comm (j==i),Bool.or_assoc]
       simpa using this
      ·have hpi:i≠p:=fun e=>by subst e;rw[hic]at hpc;cases hpc
       rw[getD_set_ne false hpi]at hpl;simp only[I0 (fun e=>hpi e.symm:¬p=i)];simp only[okI,I1,M2,O7,N6,M5,I4]at hoI;obtain⟨⟨⟨⟨⟨_,_⟩,_⟩,hms⟩,hml⟩,hmk⟩:=hoI;rcases hms p hp with(((h4|h4)|h4)|h4)|h4
       ·rw[hpc]at h4;cases h4
       ·
        obtain⟨V2,hv2,hK2⟩:=bL _ _ hre;rw[mF]at hK2;have hmlen:m.length≤l.length:=(by omega);have hget:∀q oq,(maskL m l)[q]? =some oq→oq=nopO∨(m.getD q false=true∧l[q]? =some oq):=fun q oq hq=>by
         rw[cS]at hq;split at hq
         ·rename_i h5 h6;cases hq;exact .inr ⟨by simp[List.getD,h5],h6⟩
         ·cases hq;exact .inl rfl
         ·cases hq
        have hgm:∀q oq,m.getD q false=true→l[q]? =some oq→(maskL m l)[q]? =some oq:=fun q oq h5 h6=>by
         rw[cS];have:m[q]? =some true:=by
          cases hm:m[q]? with
          |none=>simp[List.getD,hm]at h5
          |some b=>simp[List.getD,hm]at h5;subst h5;rfl
         rw[this,h6]
        have hmP:∀q,m.getD q false=true→q<k∧es.contains q=false:=fun q h5=>by
         have hq:q<m.length:=by
          apply O3
          intro hn;rw[List.getD,N5 (by omega)]at h5;cases h5
         rcases hml q hq with h6|h6
         ·rw[h5]at h6;cases h6
         ·exact h6
        have hu:∀(a b:Nat) (oa ob:Oper) (d:Nat),(maskL m l)[a]? =some oa→(maskL m l)[b]? =some ob→oa.dst=some d→ob.dst=some d→a=b:=fun a b oa ob d h5 h6 h7 h8=>by
         rcases hget a oa h5 with rfl| ⟨ha,hoa⟩
         ·cases h7
         rcases hget b ob h6 with rfl| ⟨hb',hob⟩
         ·cases h8
         rcases Q9 a b with h9|h9|h9
         ·exact absurd h8 ((D.pre a b oa ob (by simpa using hoa) (by simpa using hob) h9 (hmP b hb').1).2 d h7)
         ·exact h9
         ·exact absurd h7 ((D.pre b a ob oa (by simpa using hob) (by simpa using hoa) h9 (hmP a ha).1).2 d h8)
        have hT:=fun q (hq:q≤(maskL m l).length)=>mG (V:=V2) (maskL m l) t0 hu q hq
        have hV2:∀q oq d,(maskL m l)[q]? =some oq→oq.dst=some d→V2 q=t0 d:=fun q oq d h5 h6=>by
         have h7:=j0 hK2 d (kB h5 h6);rw[(hT _ (J0 _)).1 q oq d (f9.1 h5).1 h5 h6]at h7;exact h7
        have hTt:∀q,q≤(maskL m l).length→Av.T V2 (maskL m l) t0 q=t0:=fun q hq=>by
         funext d
         by_cases hx:∃(a:Nat) (oa:Oper),a<q∧(maskL m l)[a]? =some oa∧oa.dst=some d
         ·obtain⟨a,oa,h5,h6,h7⟩:=hx;rw[(hT q hq).1 a oa d h5 h6 h7,hV2 a oa d h6 h7]
         ·exact(hT q hq).2 d fun a oa h5 h6 h7=>hx ⟨a,oa,h5,h6,h7⟩
        have hg:=hgm p op h4 hop;have:=hv2 p op hg;rw[hTt p (Nat.le_of_lt (f9.1 hg).1)]at this;obtain⟨d,hd⟩:=J7.1 (c7 p op hp hpc hop);have h5:V2 p=V p:=by
         rw[hV2 p op d hg hd];exact ag0.1 p op d hp (by simpa using hop) (by simp only[hpc];rfl) hd
        rw[h5]at this;exact this
       ·
        rw[hb p h4.1 h4.2]at hpl;cases hpl
       ·
        obtain⟨x,hxe,hx⟩:=T6.1 h4;simp only[I1,I4]at hx;have hxe':es.contains x=true:=(by simpa using hxe);have hxk:=hes x hxe';have hxl:L.getD x false=true:=(by rw[hX x hxe'];exact hx.1.1);have hox:l.toArray[x]? =some (l.toArray[x]'(by simp;omega)):=L9 (by simp;omega);have:=D.bef cl x _ hox hxk p hx.1.2 hx.2 (fun e he hbd=>cl x _ hox hxl e he hbd);rw[this]at hpl;cases hpl
       ·rw[Q0,hop]at h4;exact rQ (by simpa using h4) (hv p op hp hpc hpl hop) h'
     ·have hLj:=hb j hj hbt;refine⟨?_,hLj⟩;cases hc:es.contains j with
      |false=>rfl
      |true=>rw[← hX j hc,hLj];rfl
    have other:∀is:List Nat,okO (Region.before l.toArray) es X is=true→is.contains i=true:=fun is ho=>by
     simp only[okO,M2,N6]at ho;rcases ho i (by simpa using hic)with(h4|h4)|h4
     ·rw[hiX]at h4;cases h4
     ·exact h4
     ·obtain⟨y,hy,h5⟩:=T6.1 h4;simp only[I1,M5,I4]at h5;have:=hb y h5.1.2 h5.2;rw[hX y (by simpa using hy),h5.1.1]at this;cases this
    cases tr with
    |fin=>exact absurd rfl hfin
    |one i' m u=>
     simp only[okE,I1]at hok;have:i=i':=by simpa using other [i'] hok.1.2
     subst this;exact eff m u hok.1.1 hok.2 hw
    |two i' m u j' m' u'=>
     simp only[okE,I1]at hok;have:i=i'∨i=j':=by simpa using other [i',j'] hok.1.1.2
     rcases this with rfl|rfl
     ·exact eff m u hok.1.1.1.1 hok.1.2 hw.1
     ·exact eff m' u' hok.1.1.1.2 hok.2 hw.2
theorem ay{id:Nat}{l:List Oper}{Q:Exit→Env→Heap→Prop}(k:Nat)(es:List Nat)(m0:List Bool)(tr:ET)(hok:chkE l k es m0 tr=true)(hm:C.P.follows .mixedOrders=true)
  (hA:detGo .any l.toArray (l.length-k) (listK l.length k)=some (List.range' k (l.length-k)))
  (hh:WPp C l.toArray (maskL m0 l) t h fun t0=>WPe C Q l k t0 tr t0 h):WP C (.region id l.toArray true) Q t h:=by
 unfold chkE at hok;simp only[I1,I4,beq_iff_eq]at hok;obtain⟨⟨⟨⟨⟨⟨hpre,hkn⟩,hc4⟩,hc7⟩,hes⟩,hm0⟩,hE⟩:=hok;have D:=fq hpre;simp only[M2,O7]at hc4 hc7;have c4:∀(i j:Nat) (oi oj:Oper) (d:Nat),i<k→j<k→l[i]? =some oi→l[j]? =some oj→oj.dst=some d→d∈oi.looksAt l.toArray→j<i∧((Region.before l.toArray).getD i 0).testBit j=true∧(es.contains i=true∨es.contains j=false):=by
  intro i j oi oj d hi hj hoi hoj hd hl;have:=hc4 i hi j hj;rw[Q0,Q0,hoi,hoj]at this;simp only[hd,N6,I1,M5,I4]at this;rcases this with h1|h1
  ·have:(oi.looksAt l.toArray).contains d=true:=by simpa using hl
   rw[h1]at this;cases this
  ·exact⟨h1.1.1,h1.1.2,h1.2⟩
 have c7:∀(i:Nat) (o:Oper),i<k→es.contains i=false→l[i]? =some o→o.dst.isSome=true:=by
  intro i o hi he ho;have:=hc7 i hi;rw[Q0,ho,he]at this;simpa using this
 have hes':∀e,es.contains e=true→e<k:=fun e he=>by
  have:=M2.1 hes e (by simpa using he);simpa using this
 obtain⟨V,hv,hK⟩:=bL _ _ hh;have hm0l:m0.length=k:=by rw[hm0];simp
 have hml:=hO m0 l (by omega);have hm0g:∀q,q<k→m0[q]? =some (!es.contains q):=fun q hq=>by rw[hm0];simp[hq]
 have hget:∀q oq,(maskL m0 l)[q]? =some oq→oq=nopO∨(q<k∧es.contains q=false∧l[q]? =some oq):=fun q oq hq=>by
  have hqk:q<k:=by have:=(f9.1 hq).1;omega
  rw[cS,hm0g q hqk]at hq;cases hc:es.contains q with
  |true=>rw[hc]at hq;cases hl:l[q]? with
   |none=>rw[hl]at hq;cases hq
   |some o=>rw[hl]at hq;cases hq;exact .inl rfl
  |false=>rw[hc]at hq;cases hl:l[q]? with
   |none=>rw[hl]at hq;cases hq
   |some o=>rw[hl]at hq;cases hq;exact .inr ⟨hqk,rfl,rfl⟩
 have hgm:∀q oq,q<k→es.contains q=false→l[q]? =some oq→(maskL m0 l)[q]? =some oq:=fun q oq hq hc h6=>by
  rw[cS,hm0g q hq,hc,h6];rfl
 have hu:∀(a b:Nat) (oa ob:Oper) (d:Nat),(maskL m0 l)[a]? =some oa→(maskL m0 l)[b]? =some ob→oa.dst=some d→ob.dst=some d→a=b:=fun a b oa ob d h5 h6 h7 h8=>by
  rcases hget a oa h5 with rfl| ⟨ha,_,hoa⟩
  ·cases h7
  rcases hget b ob h6 with rfl| ⟨hb',_,hob⟩
  ·cases h8
  rcases Q9 a b with h9|h9|h9
  ·exact absurd h8 ((D.pre a b oa ob (by simpa using hoa) (by simpa using hob) h9 hb').2 d h7)
  ·exact h9
  ·exact absurd h7 ((D.pre b a ob oa (by simpa using hob) (by simpa using hoa) h9 ha).2 d h8)
 have hT:=fun q (hq:q≤(maskL m0 l).length)=>mG (V:=V) (maskL m0 l) t hu q hq
 generalize ht0:Av.T V (maskL m0 l) t (maskL m0 l).length=t0 at hK;have ag0:Ag l.toArray k V t (fun j=> !es.contains j) t0:=by
  rw[← ht0];refine⟨fun j o x hj ho hp hd=>?_,fun x hn=>?_⟩
  ·have hc:es.contains j=false:=(by simpa using hp);exact(hT _ (J0 _)).1 j o x (by omega) (hgm j o hj hc (by simpa using ho)) hd
  ·refine(hT _ (J0 _)).2 x fun j o hj ho hd=>?_
   rcases hget j o ho with rfl| ⟨h1,h2,h3⟩
   ·cases hd
   ·exact hn j o h1 (by simpa using h3) (by simp only[h2];rfl) hd
 have main:∀n,WPix C l.toArray Q (Region.linearise .any l.toArray n) t h:=fun n=>by
  unfold Region.linearise;refine pS D hkn c4 c7 hes' hA _ n _ t tr V t0 h [] (by simp) ?_ (fun j oj hj hl=>?_) (fun j hj hl=>?_) (fun j hj=>?_) hE (Ag.start _ _ _ _ fun j hj=>?_) ag0 (ag0.congr' fun j hj=>by simp) (fun i o hi hc _ ho KK hkk=>?_) hK
  ·unfold left;have:(List.range l.toArray.size).filter (fun i=> !(Array.replicate l.toArray.size false).getD i true)=List.range l.toArray.size:=by
    rw[Q5];intro i hi;have:=O7.1 hi;simp at this ⊢;simp[this]
   rw[this,U7]
  ·have h8:=(L5.1 hj).1;simp at h8 hl;simp[h8]at hl
  ·simp at hl;simp[hj]at hl
  ·have:=hes' j hj;have:j<l.length:=by omega
   simp[this]
  ·have:j<l.length:=by omega
   simp[this]
  ·have hg:=hgm i o hi hc ho;have:=hv i o hg KK hkk;have hil:i≤(maskL m0 l).length:=(by omega);rw[bc (t2:=t0) fun d hd=>?_]at this
   ·exact this
   ·by_cases hx:∃(j:Nat) (oj:Oper),j<k∧l[j]? =some oj∧oj.dst=some d
    ·obtain⟨j,oj,h1,h2,h3⟩:=hx;obtain⟨h4,_,h5⟩:=c4 i j o oj d hi h1 ho h2 h3 hd;have hcj:es.contains j=false:=by
      rcases h5 with h5|h5
      ·rw[hc]at h5;cases h5
      ·exact h5
     rw[(hT i hil).1 j oj d h4 (hgm j oj h1 hcj h2) h3,ag0.1 j oj d h1 (by simpa using h2) (by simp only[hcj];rfl) h3]
    ·rw[(hT i hil).2 d fun j oj h1 h2 h3=>?_,ag0.2 d fun j oj h1 h2 _ h3=>hx ⟨j,oj,h1,by simpa using h2,h3⟩];rcases hget j oj h2 with rfl| ⟨h5,_,h6⟩
     ·cases h3
     ·exact hx ⟨j,oj,h5,h6,h3⟩
 show ∀tp,WPix C l.toArray Q (Region.schedule (C.P.follows .mixedOrders) l.toArray tp) t h;intro tp;unfold Region.schedule;rw[hm];simp only[Bool.true_or,if_true];exact main _
variable {l:List Oper} {Q:Exit→Env→Heap→Prop} {k:Nat} {t0 tc:Env} {ops:Array Oper} {dst:Option Tmp} {ty:TypeId} {pos:String} {aft:Array Edge} {K:AVal→Heap→Prop}
@[congr] theorem yQ(i:Nat)(m:List Bool)(P:Env→Heap→Prop){h h':Heap}(e:h=h'):stepE C l t0 i m P tc h=stepE C l t0 i m P tc h':=by rw[e]
@[congr] theorem Cp(tr:ET){h h':Heap}(e:h=h'):WPe C Q l k t0 tr tc h=WPe C Q l k t0 tr tc h':=by rw[e]
@[go_sem] theorem DS(i:Nat)(m:List Bool)(P:Env→Heap→Prop):stepE C l t0 i m P tc h=need (l[i]?) fun o=>wpOperV C l.toArray o tc h fun v h'=>(WPp C l.toArray (maskL m l) t0 h' fun t''=>agrL (wrM m l) t'' t0)∧P (put tc o.dst v) h':=(rfl)
attribute [go_sem] List.drop_succ_cons List.drop_zero
variable {t:Env} {e:TypeId} {T:TypeId}
@[go_sem] theorem Cq:wpOperV C ops ⟨dst,.alloc e,ty,pos,aft,none⟩ t h K=
  need (zroT C.P e) fun z=>0<z.cells.length∧z.cells.all AVal.sto=true∧z.lies=true∧K (.hp h.length 0 0 0) (h++[.row e z.cells.length 0 [z]]):=(rfl)
@[go_sem] theorem Cr(x y:Operand):wpOperV C ops ⟨dst,.store T x y,ty,pos,aft,none⟩ t h K=storeK C T (aev C.G t x) (aev C.G t y) h (fun h'=>K undefA h'):=(rfl)
@[go_sem] theorem Gz(rest:List Oper)(K:Env→Prop):WPp C ops (nopO::rest) t h K=WPp C ops rest t h K:=tD (dst:=none) (.const (.bool false))
@[congr] theorem Ae{l l':List Oper}{t t':Env}{h h':Heap}{K:Env→Prop}(e1:l=l')(e2:t=t')(e3:h=h'):WPp C ops l t h K=WPp C ops l' t' h' K:=by rw[e1,e2,e3]
@[go_sem] theorem Cs(T:TypeId)(x:Operand)(f:Nat)(rest:List Oper)(K:Env→Prop):WPp C ops (⟨dst,.field T x f,ty,pos,aft,none⟩::rest) t h K=
  need (fOff C.P T f) fun q=>need (match aev C.G t x with| .agg cs=>pickT C.P q.2.1 (cs.drop q.1)|_=>none) fun v=>WPp C ops rest (put t dst v) h K:=
 bb (E:=fun k=>need (fOff C.P T f) fun q=>need (match aev C.G t x with| .agg cs=>pickT C.P q.2.1 (cs.drop q.1)|_=>none) k) (Det.need _ fun q=>Det.need' _) fun KK=>by
  simp only[wpOp];congr;funext ⟨o,a,b⟩;simp only[];generalize aev C.G t x=v;cases v<;>rfl
@[go_sem] theorem DT(f:Operand)(args:Array Operand)(Ts:Array TypeId):wpOperV C ops ⟨dst,.call ⟨.value f,args,Ts⟩,ty,pos,aft,none⟩ t h K=callK C (aev C.G t f) (args.toList.map (aev C.G t)) h K:=by
 show wpCall C ⟨.value f,args,Ts⟩ t h K=_;rfl
@[go_sem] theorem Cu(parts:Array (Nat×Operand)):wpOperV C ops ⟨dst,.build T parts,ty,pos,aft,none⟩ t h K=need (buildA C T (parts.toList.map fun q=>(q.1,aev C.G t q.2))) fun v=>K v h:=by
 show wpOp C (.build T parts) t h K=_;have:=kS (C:=C) (ops:= #[]) (Q:=fun _ t h=>K (t 0) h) (rest:=[]) (t:=t) (h:=h) (dst:=some 0) (ty:=0) (pos:= "") (aft:= #[]) T parts;simpa [WPl,wpOper,put,upd]using this
theorem ai(g:WPl C l.toArray Q (l.drop k) tc h):WPe C Q l k t0 .fin tc h:=g
theorem aj{i:Nat}{m:List Bool}{s:ET}(g:stepE C l t0 i m (WPe C Q l k t0 s) tc h):WPe C Q l k t0 (.one i m s) tc h:=g
theorem am{i j:Nat}{m m':List Bool}{s u:ET}(g:stepE C l t0 i m (WPe C Q l k t0 s) tc h)(g':stepE C l t0 j m' (WPe C Q l k t0 u) tc h):WPe C Q l k t0 (.two i m s j m' u) tc h:=⟨g,g'⟩
end
end Go.Av
theorem T7:type_of% @Go.Av.FrN.set:=@Go.Av.FrN.set
theorem T8:type_of% @Go.Av.FrN.refl:=@Go.Av.FrN.refl
theorem U4:type_of% @Go.Av.FrN.app:=@Go.Av.FrN.app
theorem W3:type_of% @Go.Av.Frz.data:=@Go.Av.Frz.data
theorem W4:type_of% @Go.Av.FrN.trans:=@Go.Av.FrN.trans
theorem X8:type_of% @Go.Av.Fin.whole:=@Go.Av.Fin.whole
