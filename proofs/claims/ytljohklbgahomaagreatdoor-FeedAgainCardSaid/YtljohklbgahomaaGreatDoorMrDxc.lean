/- Parts. -/
import Derived.Test.YtljohklbgahomaaGreatDoorMrDo
set_option linter.unusedSimpArgs false
set_option linter.unusedVariables false
set_option linter.unusedSectionVars false
set_option linter.unnecessarySimpa false
set_option maxRecDepth 100000
set_option maxHeartbeats 16000000
namespace Go.Av
open Go Go.Proofs Go.RowKit
section
def escB(c:UInt8):Bs:=if c=38 then [38,97,109,112,59]else if c=60 then [38,108,116,59]else if c=62 then [38,103,116,59]else if c=34 then [38,113,117,111,116,59]else if c=39 then [38,97,112,111,115,59]else [c]
def escF(s:Bs):Bs:=s.flatMap escB
theorem km(c:UInt8)(s:Bs):escF (c::s)=escB c++escF s:=L1
theorem tP(c:UInt8):1≤(escB c).length∧(escB c).length≤6:=by
 unfold escB;repeat (first|split|exact⟨by simp,by simp⟩)
theorem ed:∀s:Bs,(escF s).length≤6*s.length∧s.length≤(escF s).length
 | []=>by simp[escF]
 |c::s=>by have:=ed s;have:=tP c;rw[km];simp;omega
theorem rz(s:Bs)(c:UInt8):escF (s++[c])=escF s++escB c:=by simp[escF]
theorem tQ(n u:Bs)(hn:∀c∈n,c≠ (59:UInt8)):Lib.cut (n++59::u) [59]=(n,u,true):=by
 rw[wz (n++59::u) 59 n.length (fun i hi c hc=>hn c (by rw[G0 hi]at hc;exact G1 hc)) (by simp)];simp
theorem ef(n u:Bs)(v:UInt8)(hn:∀c∈n,c≠ (59:UInt8))(hl:n.length≤10)(hs:signF n=((v.toNat:Int),true))(he:enc (v.toNat:Int)=[v]):rdE (38::n++59::u)=v::rdE u:=by
 rw[J8,uZ,tQ n u hn];simp only[hs,S7,P3,F1];rw[E8 hl,he];rfl
theorem tR(c:UInt8)(u:Bs):rdE (escB c++u)=c::rdE u:=by
 unfold escB;by_cases h1:c=38
 ·subst h1;exact ef [97,109,112] u 38 (by decide) (by decide) (by kernel_rfl) (by kernel_rfl)
 by_cases h2:c=60
 ·subst h2;exact ef [108,116] u 60 (by decide) (by decide) (by kernel_rfl) (by kernel_rfl)
 by_cases h3:c=62
 ·subst h3;exact ef [103,116] u 62 (by decide) (by decide) (by kernel_rfl) (by kernel_rfl)
 by_cases h4:c=34
 ·subst h4;exact ef [113,117,111,116] u 34 (by decide) (by decide) (by kernel_rfl) (by kernel_rfl)
 by_cases h5:c=39
 ·subst h5;exact ef [97,112,111,115] u 39 (by decide) (by decide) (by kernel_rfl) (by kernel_rfl)
 rw[E4 h1,E4 h2,E4 h3,E4 h4,E4 h5];exact tO c u h1
theorem o9:∀s:Bs,rdE (escF s)=s
 | []=>uY
 |c::s=>by rw[km,tR,o9 s]
theorem v6(c:UInt8):∀x∈escB c,x≠60∧x≠34:=by
 unfold escB;by_cases h1:c=38
 ·rw[E8 h1];decide
 by_cases h2:c=60
 ·rw[E4 h1,E8 h2];decide
 by_cases h3:c=62
 ·rw[E4 h1,E4 h2,E8 h3];decide
 by_cases h4:c=34
 ·rw[E4 h1,E4 h2,E4 h3,E8 h4];decide
 by_cases h5:c=39
 ·rw[E4 h1,E4 h2,E4 h3,E4 h4,E8 h5];decide
 rw[E4 h1,E4 h2,E4 h3,E4 h4,E4 h5];intro x hx;obtain rfl:=K4.1 hx;exact⟨h2,h4⟩
theorem v7(s:Bs):∀x∈escF s,x≠60∧x≠34:=fun x hx=>by
 obtain⟨c,_,h⟩:=List.mem_flatMap.1 hx;exact v6 c x h
def clnG:List Int→Bool→Bool→List Int
 | [],_,_=>[]
 |c::t,e,w=>if blankR c then clnG t e e else if ctlR c then clnG t e w else(if w then [32,c]else [c])++clnG t true false
theorem fe:∀(l o:List Int) (w:Bool),clnR l o w=o++clnG l (decide (0<o.length)) w
 | [],o,w=>by simp[clnR,clnG]
 |c::t,o,w=>by
  rw[clnR,clnG];split
  ·exact fe t o _
  ·split
   ·exact fe t o w
   ·rw[fe t _ false,I6];have:decide (0<(o++if w=true then [32,c]else [c]).length)=true:=by
     refine G4 ?_;rw[E5];split<;>simp<;>omega
    rw[this]
theorem dq:∀(l:List Int) (e w:Bool),(w=true→e=true)→clnG (clnG l e w) e false=clnG l e w
 | [],e,w,_=>rfl
 |c::t,e,w,h=>by
  rw[clnG];by_cases hb:blankR c=true
  ·rw[E8 hb];exact dq t e e id
  ·rw[E4 hb];by_cases hk:ctlR c=true
   ·rw[E8 hk];exact dq t e w h
   ·rw[E4 hk];have ih:=dq t true false (by simp);have h32:blankR 32=true:=(by decide);cases w with
    |false=>
     show clnG (c::clnG t true false) e false=c::clnG t true false;rw[clnG,E4 hb,E4 hk,ih];rfl
    |true=>
     rw[h rfl];show clnG (32::c::clnG t true false) true false=32::c::clnG t true false;rw[clnG,E8 h32,clnG,E4 hb,E4 hk,ih];rfl
theorem gZ:∀(l:List Int) (e w:Bool),(encs (clnG l e w)).length≤(encs l).length+(if w then 1 else 0)
 | [],e,w=>by simp[clnG,encs]
 |c::t,e,w=>by
  rw[clnG,aZ,E5];have hp:=eV c;split
  ·have:=gZ t e e;have:(if e=true then 1 else 0)≤1:=by split<;>omega
   omega
  ·split
   ·have:=gZ t e w;omega
   ·have ih:=gZ t true false;rw[tn,E5];have h32:(enc 32).length=1:=(by decide);cases w with
    |false=>
     have:(encs (if false=true then [32,c]else [c])).length=(enc c).length:=by simp[encs]
     simp only[G9,if_false]at*;omega
    |true=>
     have:(encs (if true=true then [32,c]else [c])).length=1+(enc c).length:=by simp[encs,h32]
     simp only[if_true]at*;simp only[G9,if_false]at ih;omega
theorem ku{l:List Int}(h:∀c∈l,Rune c):∀c∈clnG l false false,Rune c:=by
 have:=eE l [] false h (by simp);rw[fe]at this;exact this
theorem pQ(s:Bs):∀c∈runesF s,Rune c:=mY s.length s (G3 _)
theorem eO{l:List Int}(h:∀c∈l,Rune c):cleanF (encs l)=encs (clnG l false false):=by
 unfold cleanF cleanR;rw[ic h,fe];rfl
theorem rE(s:Bs):∃l:List Int,(∀c∈l,Rune c)∧cleanF s=encs l∧clnG l false false=l:=by
 refine⟨clnG (runesF s) false false,ku (pQ s),?_,dq _ _ _ (by simp)⟩;unfold cleanF cleanR;rw[fe];rfl
theorem og{c:Int}{l:List Int}:encs (c::l)≠ []:=fun e=>by
 have hp:=eV c;have h2:=H6 List.length e;rw[aZ,E5]at h2;simp only[E9]at h2;omega
theorem j9:∀{l:List Int},(∀c∈l,Rune c)→rightS (encs l)=true
 | [],_=>rfl
 |c::l,h=>by
  have hc:=h c (by simp);rw[ib _ og,aZ,eN,fH hc,List.drop_left' rfl,E4]
  ·exact j9 fun x hx=>h x (by simp[hx])
  ·rintro⟨h1,h2⟩;simp only[]at h1 h2;have:c=65533:=by unfold Rune at hc;omega
   rw[this]at h2;revert h2;decide
theorem m9:∀(l:List Int) (n:Nat),(∀c∈l,Rune c)→∃k,cutF (encs l) n=encs (l.take k)
 | [],n,_=>⟨0,by simp[cutF,encs]⟩
 |c::l,n,h=>by
  have hc:=h c (by simp);have hp:=eV c;obtain⟨k,hk⟩:=m9 l (n-(enc c).length) fun x hx=>h x (by simp[hx])
  have hd:dec (encs (c::l)) 0=(c.toNat,(enc c).length):=by rw[aZ,eN,fH hc]
  have hdr:(encs (c::l)).drop (enc c).length=encs l:=by rw[aZ,List.drop_left' rfl]
  have hst:cutN (encs (c::l)).length (encs (c::l)) n=if n<(enc c).length then 0 else(enc c).length+cutN (encs l).length (encs l) (n-(enc c).length):=by
   have hl:(encs (c::l)).length=(enc c).length+(encs l).length:=(by rw[aZ,E5]);obtain⟨f,hf⟩:∃f,(encs (c::l)).length=f+1:=⟨(encs (c::l)).length-1,by omega⟩;rw[hf,cutN,E4 og,hd];simp only[];rw[hdr,kg f (encs l) _ (by omega)]
  unfold cutF at hk ⊢;rw[hst];by_cases h2:n<(enc c).length
  ·rw[E8 h2];exact⟨0,rfl⟩
  ·rw[E4 h2];refine⟨k+1,?_⟩;rw[J3,aZ,aZ, ← hk,List.take_append,H4 (by omega),Nat.add_sub_cancel_left]
theorem tV(s:Bs)(n:Nat):∃l:List Int,(∀c∈l,Rune c)∧shortF s n=encs l∧clnG l false false=l∧(encs l).length≤n:=by
 obtain⟨l,h1,h2,h3⟩:=rE s;obtain⟨k,hk⟩:=m9 l n h1;have ht:∀c∈l.take k,Rune c:=fun c hc=>h1 c (P4 hc)
 refine⟨clnG (l.take k) false false,ku ht,?_,dq _ _ _ (by simp),?_⟩
 ·unfold shortF;rw[h2,hk,eO ht]
 ·have h4:=gZ (l.take k) false false;have h5:=(m8 (encs l) n).1;rw[hk]at h5;simp only[G9,if_false]at h4;omega
theorem ja(s:Bs)(n:Nat):textO (shortF s n) n=true:=by
 obtain⟨l,h1,h2,h3,h4⟩:=tV s n;unfold textO;rw[h2,j9 h1,eO h1,h3,G4 h4,G4 rfl];rfl
theorem jb{s:Bs}{m n:Nat}(h:textO s m=true)(hn:m≤n):textO s n=true:=by
 unfold textO at h ⊢;simp only[E3,F1]at h ⊢;exact⟨⟨by omega,h.1.2⟩,h.2⟩
theorem rF(n:Nat):textO [] n=true:=by
 unfold textO;rw[G4 (by simp)];rfl
end
section
attribute [local irreducible] WP WPl WPix Sat
def dateOk(x:En):Bool:=if x.dated then decide (-62135596800≤x.date)&&decide (x.date≤253402300799)else decide (x.date=0)
def enOk(x:En):Bool:=decide (x.guid≠ [])&&(textO x.guid 512&&(textO x.title 256&&(textO x.link 512&&dateOk x)))
def fdOk(d:Fd):Bool:=decide (d.es.length≤256)&&(textO d.title 256&&(textO d.link 512&&(decide ((onceF d.es).length=d.es.length)&&d.es.all enOk)))
def EnS(x:En):Prop:=x.guid.length≤1048576∧x.title.length≤1048576∧x.link.length≤1048576
variable (G:Nat→Option (List AVal))
theorem cP(s:Bs)(m:Nat)(hs:s.length≤1048576)(h:Heap):Sat (CT G) 24 [.str s,.int .i64 m] h (fun r h'=>r=.bool (textO s m)∧h'=h):=by
 have hR:=pw G s (by omega);have hC:=cO G s (by omega);by_cases c1:s.length≤m
 ·have d1:=G4 c1;cases c2:rightS s with
  |true=>
   rw[c2]at hR;by_cases c3:cleanF s=s
   ·have q:(cleanF s==s)=true:=(by simpa using c3);have e:textO s m=true:=(by unfold textO;rw[c2,G4 c1,G4 c3];rfl);rw[e];have F:=F2 d1 q;refine sb [.tmp 4] Tryz.func24 ?_;intro Q hQ;refine wk F ?_;refine kq F (hR _) ?_;refine kq F (hC _) ?_;refine ee hQ F ?_;exact J9 (.bool _) ⟨rfl,rfl⟩
   ·have q:(cleanF s==s)=false:=(by simpa using c3);have e:textO s m=false:=(by unfold textO;rw[H2 c3,Bool.and_false]);rw[e];have F:=F2 d1 q;refine sb [.tmp 4] Tryz.func24 ?_;intro Q hQ;refine wk F ?_;refine kq F (hR _) ?_;refine kq F (hC _) ?_;refine ee hQ F ?_;exact J9 (.bool _) ⟨rfl,rfl⟩
  |false=>
   rw[c2]at hR;have e:textO s m=false:=(by unfold textO;rw[c2,Bool.and_false,Bool.false_and]);rw[e];have F:=d1;refine sb [.tmp 4] Tryz.func24 ?_;intro Q hQ;refine wk F ?_;refine kq F (hR _) ?_;refine ee hQ F ?_;exact J9 (.bool _) ⟨rfl,rfl⟩
 ·have d1:=H2 c1;have e:textO s m=false:=by unfold textO;rw[H2 c1];rfl
  rw[e];have F:=d1;refine sb [.tmp 4] Tryz.func24 ?_;intro Q hQ;refine wk F ?_;refine ee hQ F ?_;exact J9 (.bool _) ⟨rfl,rfl⟩
theorem jc(N:Nat)(a b c d e f k:Int):Clo N (.tup [.agg [.int .i64 a,.int .i64 b,.int .i64 c,.int .i64 d,.int .i64 e,.int .i64 f],.int .i64 k]):=.tup _ fun x hx=>by
 simp only[I2,M5,or_false]at hx;rcases hx with rfl|rfl
 ·exact .agg _ fun c hc=>by simp at hc;rcases hc with rfl|rfl|rfl|rfl|rfl|rfl<;>exact .int _ _
 ·exact .int _ _
theorem tW(n:Int)(h:Heap):Sat (CT G) 81 [.int .i64 n] h (fun r h'=>(∃a b c d e f:Int,r=.tup [.agg [.int .i64 a,.int .i64 b,.int .i64 c,.int .i64 d,.int .i64 e,.int .i64 f],.int .i64 (if decide (-62135596800≤n)&&decide (n≤253402300799)then 0 else 40)])∧h'=h):=by
 have hW:=bV G n (-62135596800) 253402300799;cases hm:(decide (-62135596800≤n)&&decide (n≤253402300799))with
 |false=>
  rw[hm]at hW;refine sb [.cell 2 90,.tmp 3] Tryz.func81 ?_;intro Q hQ;refine wk trivial ?_;refine kq trivial (hW _) ?_;refine ye hQ trivial ?_;exact H9 (jc ..) ⟨⟨_,_,_,_,_,_,rfl⟩,rfl⟩
 |true=>
  rw[hm]at hW;simp only[E3,F1]at hm;obtain⟨m1,m2⟩:=hm;refine sb [.cell 2 90,.tmp 3] Tryz.func81 ?_;intro Q hQ;refine wk trivial ?_;refine kq trivial (hW _) ?_;refine cq trivial (fun c1=>?_) (fun c1=>?_)<;>(try exact c1.elim)<;>(refine wk trivial ?_)
  ·refine ye hQ trivial ?_;exact H9 (jc ..) ⟨⟨_,_,_,_,_,_,rfl⟩,rfl⟩
  ·refine ye hQ trivial ?_;exact H9 (jc ..) ⟨⟨_,_,_,_,_,_,rfl⟩,rfl⟩
theorem nf(x:En)(h:Heap):Sat (CT G) 45 [x.av] h (fun r h'=>r=.bool (dateOk x)∧h'=h):=by
 obtain⟨g,t,l,n,b⟩:=x;unfold dateOk;simp only[En.av_eq];cases b with
 |false=>
  simp only[G9,if_false];have q:((n:Int)==0)=decide (n=0):=by rw[O3];simp
  generalize decide (n=0)=d at*;have F:=F2 q @ak;refine sb [.tmp 2] Tryz.func45 ?_;intro Q hQ;refine wk F ?_;refine ee hQ F ?_;exact H9 (.bool _) ⟨rfl,rfl⟩
 |true=>
  simp only[if_true];have hO:=tW G n;generalize (decide (-62135596800≤n)&&decide (n≤253402300799))=d at*;cases d with
  |true=>
   have F:= @ak;refine sb [.tmp 2] Tryz.func45 ?_;intro Q hQ;refine wk F ?_;refine(hO _).mono ?_;rintro r h' ⟨⟨_,_,_,_,_,_,rfl⟩,rfl⟩;(try refine sq F ?_);refine wk F ?_;refine ee hQ F ?_;exact H9 (.bool _) ⟨rfl,rfl⟩
  |false=>
   have F:= @ak;refine sb [.tmp 2] Tryz.func45 ?_;intro Q hQ;refine wk F ?_;refine(hO _).mono ?_;rintro r h' ⟨⟨_,_,_,_,_,_,rfl⟩,rfl⟩;(try refine sq F ?_);refine wk F ?_;refine ee hQ F ?_;exact H9 (.bool _) ⟨rfl,rfl⟩
theorem ng(x:En)(hx:EnS x)(h:Heap):Sat (CT G) 25 [x.av] h (fun r h'=>r=.bool (enOk x)∧h'=h):=by
 have hD:=nf G x;obtain⟨h1,h2,h3⟩:=hx;have T1:=cP G x.guid 512 h1;have T2:=cP G x.title 256 h2;have T3:=cP G x.link 512 h3;unfold enOk;obtain⟨g,t,l,n,b⟩:=x;simp only[]at*;generalize dateOk ⟨g,t,l,n,b⟩=d4 at*;generalize textO g 512=d1 at*;generalize textO t 256=d2 at*;generalize textO l 512=d3 at*;simp only[En.av_eq]at*;by_cases c0:g=[]
 ·have q:(g==([]:Bs))=true:=by simp[c0]
  have e:decide (g≠ [])=false:=by simp[c0]
  rw[e];have F:=F4 q @N4 @O9 @ak;refine sb [.tmp 2] Tryz.func25 ?_;intro Q hQ;refine wk F ?_;refine ee hQ F ?_;exact H9 (.bool _) ⟨rfl,rfl⟩
 have q:(g==([]:Bs))=false:=by simpa using c0
 have e:decide (g≠ [])=true:=by simp[c0]
 rw[e];cases d1 with
 |false=>
  have F:=F4 q @N4 @O9 @ak;refine sb [.tmp 2] Tryz.func25 ?_;intro Q hQ;refine wk F ?_;refine kq F (T1 _) ?_;refine ee hQ F ?_;exact H9 (.bool _) ⟨rfl,rfl⟩
 |true=>
  cases d2 with
  |false=>
   have F:=F4 q @N4 @O9 @ak;refine sb [.tmp 2] Tryz.func25 ?_;intro Q hQ;refine wk F ?_;refine kq F (T1 _) ?_;refine kq F (T2 _) ?_;refine ee hQ F ?_;exact H9 (.bool _) ⟨rfl,rfl⟩
  |true=>
   cases d3 with
   |false=>
    have F:=F4 q @N4 @O9 @ak;refine sb [.tmp 2] Tryz.func25 ?_;intro Q hQ;refine wk F ?_;refine kq F (T1 _) ?_;refine kq F (T2 _) ?_;refine kq F (T3 _) ?_;refine ee hQ F ?_;exact H9 (.bool _) ⟨rfl,rfl⟩
   |true=>
    have F:=F4 q @N4 @O9 @ak;refine sb [.tmp 2] Tryz.func25 ?_;intro Q hQ;refine wk F ?_;refine kq F (T1 _) ?_;refine kq F (T2 _) ?_;refine kq F (T3 _) ?_;refine kq F (hD _) ?_;refine ee hQ F ?_;exact H9 (.bool _) ⟨rfl,rfl⟩
end
section
theorem oh:∀(l out:List En),out.Pairwise (fun a b=>a.guid≠b.guid)→(l.foldl onceS out).Pairwise (fun a b=>a.guid≠b.guid)
 | [],out,h=>h
 |x::l,out,h=>by
  refine oh l _ ?_;unfold onceS;split
  ·exact h
  ·rename_i hn;rw[List.pairwise_append];refine⟨h,by simp,fun a ha b hb e=>hn ?_⟩;have:b=x:=by simpa using hb
   subst this;rw[P8];exact⟨a,ha,by simpa using e⟩
theorem om:∀(l out:List En),(out++l).Pairwise (fun a b=>a.guid≠b.guid)→l.foldl onceS out=out++l
 | [],out,_=>by simp
 |x::l,out,h=>by
  have hs:onceS out x=out++[x]:=by
   unfold onceS;refine E4 ?_;rw[P8];rintro⟨a,ha,e⟩;exact(List.pairwise_append.1 h).2.2 a ha x (by simp) (by simpa using e)
  rw[R8,hs,om l _ (by simpa using h)];simp
theorem rG(l:List En):onceF (onceF l)=onceF l:=om _ [] (oh l [] .nil)
theorem mc:∀(l out:List En),∀x∈l.foldl onceS out,x∈out∨x∈l
 | [],out,x,h=>.inl h
 |y::l,out,x,h=>by
  rcases mc l _ x h with h|h
  ·unfold onceS at h;split at h
   ·exact .inl h
   ·rcases R7.1 h with h|h
    ·exact .inl h
    ·exact .inr (by simp at h;simp[h])
  ·exact .inr (by simp[h])
theorem oo{x:Dt}{z n:Int}(h:tellD x z=some n):inM n=true:=by
 unfold tellD at h;split at h
 ·rename_i hc;cases h;simp only[E3]at hc;exact hc.2
 ·cases h
theorem vb{r:Rdr}{x:Dt}{z n:Int}(h:r.told x z=some n):inM n=true:=by
 unfold Rdr.told at h;split at h
 ·cases h
 ·exact oo h
theorem rH{s:Bs}{n:Int}(h:webR s=some n):inM n=true:=by
 rw[← j0]at h;unfold webP at h;exact vb h
theorem wA{w:List Bs}{n:Int}(h:wrdP w=some n):inM n=true:=by
 unfold wrdP at h;split at h
 ·simp only[]at h;split at h<;>split at h<;>first|exact oo h|cases h
 ·cases h
theorem wB{s:Bs}{n:Int}(h:anyF s=some n):inM n=true:=by
 unfold anyF at h;split at h
 ·rename_i m e;cases h;exact rH e
 ·rw[← nT]at h;exact wA h
theorem mf{f:Bs→Option Int}(hf:∀s n,f s=some n→inM n=true){e:Elem}{n:Int}:∀{l:List Bs},momL f e l=some n→inM n=true
 | [],h=>by cases h
 |a::l,h=>by
  unfold momL at h;split at h
  ·rename_i v hv;cases h;unfold momE at hv;split at hv
   ·exact hf _ _ hv
   ·cases hv
  ·exact mf hf h
theorem aQ(e:Elem)(n:Bs)(m:Nat):textO (fieldF e n m) m=true:=ja _ _
theorem gF(e:Elem):textO (linkA e) 512=true:=by
 unfold linkA;split
 ·exact ja _ _
 ·exact rF _
theorem ot{a b c:Bs}{m:Nat}(h1:textO a m=true)(h2:textO b m=true)(h3:textO c m=true):textO (orF a b c) m=true:=by
 unfold orF;split
 ·exact h1
 ·split
  ·exact h2
  ·exact h3
theorem uv{g t l:Bs}{m:Option Int}{x:En}(h:mkE g t l m=some x)(h1:textO g 512=true)(h2:textO t 256=true)(h3:textO l 512=true)(h4:∀n,m=some n→inM n=true):enOk x=true:=by
 unfold mkE at h;split at h
 ·cases h
 ·rename_i hg;cases h;unfold enOk dateOk;simp only[h1,h2,h3,P3];rw[G4 hg,P3];cases m with
  |none=>rfl
  |some n=>exact h4 n rfl
theorem vc{e:Elem}{x:En}(h:entR e=some x):enOk x=true:=
 uv h (ot (aQ _ _ _) (aQ _ _ _) (jb (aQ _ _ _) (by decide))) (aQ _ _ _) (aQ _ _ _) fun n hn=>mf (fun s n=>wB) hn
theorem ve{e:Elem}{x:En}(h:entA e=some x):enOk x=true:=
 uv h (ot (aQ _ _ _) (gF _) (jb (aQ _ _ _) (by decide))) (aQ _ _ _) (gF _) fun n hn=>mf (fun s n=>rH) hn
theorem vf{f:Elem→Option En}(hf:∀e x,f e=some x→enOk x=true)(l:List Elem):(onceF (entsF f l)).all enOk=true:=by
 rw[G8];intro x hx;rcases mc _ _ x hx with h|h
 ·cases h
 ·obtain⟨e,_,he⟩:=List.mem_filterMap.1 (P4 h);exact hf e x he
theorem uw{t l:Bs}{f:Elem→Option En}{k:List Elem}(h1:textO t 256=true)(h2:textO l 512=true)(hf:∀e x,f e=some x→enOk x=true):fdOk ⟨t,l,onceF (entsF f k)⟩=true:=by
 unfold fdOk;simp only[h1,h2,P3];rw[vf hf,rG,G4 rfl,G4]
 ·rfl
 ·have:=gE (entsF f k);have:(entsF f k).length≤256:=by unfold entsF;rw[I0];omega
  omega
theorem yG{e:Elem}{d:Fd}(h:ofE e=some d):fdOk d=true:=by
 unfold ofE at h;obtain⟨d0,h0,rfl⟩:=I1.1 h;split at h0
 ·rename_i d1 e1;cases h0;unfold rssF at e1;split at e1
  ·cases e1;exact uw (aQ _ _ _) (aQ _ _ _) fun e x=>vc
  ·cases e1
 ·unfold atomF at h0;split at h0
  ·cases h0;exact uw (aQ _ _ _) (gF _) fun e x=>ve
  ·cases h0
def digsF:Nat→Int→Bs
 |0,_=>[]
 |w+1,n=>digsF w (n/10)++[UInt8.ofNat (48+(n%10).toNat)]
theorem ou(n:Int):(UInt8.ofNat (48+(n%10).toNat)).toNat=48+(n%10).toNat:=by
 have:(n%10).toNat<10:=by omega
 rw[UInt8.toNat_ofNat_of_lt' (by show _<256;omega)]
theorem ay:∀(w:Nat) (n:Int),0≤n→n<(10:Int)^w→(digsF w n).length=w∧(digsF w n).all digB=true∧numA 0 (digsF w n)=n
 |0,n,h0,h1=>by
  have:n=0:=by rw[Int.pow_zero]at h1;omega
  subst this;exact⟨rfl,rfl,rfl⟩
 |w+1,n,h0,h1=>by
  rw[Int.pow_succ]at h1;obtain⟨i1,i2,i3⟩:=ay w (n/10) (by omega) (by omega);have hd:=ou n;refine⟨by rw[digsF,E5,i1];rfl,?_,?_⟩
  ·rw[digsF,List.all_append,i2,P3,P2,List.all_nil,S7];unfold digB;rw[hd,E3,F1,F1];omega
  ·rw[digsF,gz,i3,hd];omega
def showD(x:Dt):Bs:=digsF 4 x.y++45::(digsF 2 x.m++45::(digsF 2 x.d++84::(digsF 2 x.h++58::(digsF 2 x.i++58::(digsF 2 x.s++[90])))))
def showF(n:Int):Bs:=showD (ofP n)
theorem rI{x:Dt}(hk:okD x=true)(hi:inM (momD x)=true):webP (showD x)=some (momD x):=by
 obtain⟨b1,b2,b3,b4,b5,b6,b7,b8,b9,b10,b11,b12⟩:=fb hk;obtain⟨y,m,d,h,i,s⟩:=x;simp only[]at b1 b2 b3 b4 b5 b6 b7 b8 b9 b10 b11 b12;have p4:(10:Int)^4=10000:=rfl;have p2:(10:Int)^2=100:=rfl;obtain⟨l1,a1,n1⟩:=ay 4 y (by omega) (by omega);obtain⟨l2,a2,n2⟩:=ay 2 m (by omega) (by omega);obtain⟨l3,a3,n3⟩:=ay 2 d (by omega) (by omega);obtain⟨l4,a4,n4⟩:=ay 2 h (by omega) (by omega);obtain⟨l5,a5,n5⟩:=ay 2 i (by omega) (by omega);obtain⟨l6,a6,n6⟩:=ay 2 s (by omega) (by omega);unfold showD webP;simp only[];have sg:∀(c:UInt8) (t:Bs) (l:Bs),c∈l→(Rdr.mk (c::t) false).sign l=((c.toNat:Int),⟨t,false⟩):=fun c t l hc=>by
  show(if c∈l then _ else _)=_;rw[E8 hc]
 simp only[Rdr.digits_app l1 a1,Rdr.digits_app l2 a2,Rdr.digits_app l3 a3,Rdr.digits_app l4 a4,Rdr.digits_app l5 a5,Rdr.digits_app l6 a6,n1,n2,n3,n4,n5,n6,sg 45 _ [45] (by decide),sg 84 _ [84,116] (by decide),sg 58 _ [58] (by decide)];have hp:(Rdr.mk [90] false).point.zone=(0,⟨[],false⟩):=rfl;rw[hp];show(if (false||decide (([]:Bs)≠ []))=true then none else tellD ⟨y,m,d,h,i,s⟩ 0)=_;rw[E4 (by decide)];unfold tellD;rw[Int.sub_zero,hk,hi];rfl
theorem tX{n:Int}(h:inM n=true):webR (showF n)=some n:=by
 obtain⟨h1,h2⟩:=j1 h;rw[← j0];unfold showF;rw[rI h1 (by rw[h2];exact h),h2]
theorem ov:∀(l:List Int) (e:Bool),(∀c∈l,blankR c=false∧ctlR c=false)→clnG l e false=l
 | [],_,_=>rfl
 |c::t,e,h=>by
  obtain⟨h1,h2⟩:=h c (by simp);rw[clnG,E4 (by rw[h1];simp),E4 (by rw[h2];simp),ov t true fun x hx=>h x (by simp[hx])];rfl
theorem tY{c:UInt8}(h:c.toNat<128):enc (c.toNat:Int)=[c]:=by
 have hr:Rune (c.toNat:Int):=⟨by omega,.inl (by omega)⟩
 rw[dN,fH hr];simp only[Int.toNat_natCast];rw[E8 (by omega)];congr 1
 exact UInt8.ofNat_toNat
theorem jd:∀s:Bs,(∀c∈s,c.toNat<128)→encs (s.map fun c=>(c.toNat:Int))=s
 | [],_=>rfl
 |c::s,h=>by
  rw[I4,aZ,tY (h c (by simp)),jd s fun x hx=>h x (by simp[hx])];rfl
theorem nh{s:Bs}(h:∀c∈s,33≤c.toNat∧c.toNat<127):cleanF s=s:=by
 have hb:=jd s fun c hc=>by have:=h c hc;omega
 have hR:∀c∈s.map (fun c=>(c.toNat:Int)),Rune c:=fun c hc=>by
  obtain⟨b,hb,rfl⟩:=I9.1 hc;have:=h b hb;exact⟨by omega,.inl (by omega)⟩
 have:=eO hR;rw[hb,ov,hb]at this
 ·exact this
 ·intro c hc;obtain⟨b,hb,rfl⟩:=I9.1 hc;have:=h b hb;refine⟨H2 (by omega),H2 (by omega)⟩
theorem kw:∀(w:Nat) (n:Int),∀c∈digsF w n,33≤c.toNat∧c.toNat<127
 |0,n,c,h=>by simp[digsF]at h
 |w+1,n,c,h=>by
  rw[digsF,R7,K4]at h;rcases h with h|rfl
  ·exact kw w _ c h
  ·rw[ou];omega
theorem pR(n:Int):∀c∈showF n,33≤c.toNat∧c.toNat<127:=by
 intro c hc;unfold showF showD at hc;simp only[R7,I2,N7,or_false]at hc;rcases hc with h|rfl|h|rfl|h|rfl|h|rfl|h|rfl|h|rfl<;>first|exact kw _ _ _ h|decide
theorem tZ{n:Int}(h:inM n=true):anyF (cleanF (showF n))=some n:=by
 rw[nh (pR n)];unfold anyF;rw[tX h]
def opn(n:Bs):Bs:=60::n++[62]
def cls(n:Bs):Bs:=60::47::n++[62]
def opK(n:Bs):Bs×Tok:=(opn n,(1,n,[],[]))
def clK(n:Bs):Bs×Tok:=(cls n,(2,n,[],[]))
def onP(n s:Bs):List (Bs×Tok):=opK n::(if s=[]then []else [(escF s,(3,[],[],s))])++[clK n]
def onF(n s:Bs):Bs:=opn n++(escF s++cls n)
theorem cZ(n s:Bs):(onP n s).flatMap (·.1)=onF n s:=by
 unfold onP onF;by_cases h:s=[]
 ·rw[E8 h,h];simp[opK,clK,escF]
 ·rw[E4 h];simp[opK,clK]
def PcD(p:Bs×Tok):Prop:=(∃r,p.1=60::r)∧p.2.1≠3∧∀r,partF (p.1++r)=([p.2],r,false)
def GoodP:Bool→List (Bs×Tok)→Prop
 |_,[]=>True
 |b,p::ps=>(PcD p∧GoodP false ps)∨(b=false∧(∃s,s≠ []∧p=(escF s,(3,[],[],s)))∧(∃r,ps.flatMap (·.1)=60::r)∧GoodP true ps)
theorem rJ{s:Bs}(h:s≠ []):escF s≠ []:=fun e=>by
 have h1:=(ed s).2;rw[e,E9]at h1;have:=M7.2 h;omega
theorem pS{s r:Bs}(h:s≠ []):partF (escF s++60::r)=([(3,[],[],s)],60::r,false):=by
 obtain⟨c,t,hc⟩:=List.exists_cons_of_ne_nil (rJ h);have hno:=v7 s;have h60:c≠60:=(hno c (by rw[hc];simp)).1;have hp:∀p:Bs,Lib.hasPrefix (escF s++60::r) (60::p)=false:=fun p=>by
  rw[hc];have:((60:UInt8)==c)=false:=by simpa using fun e=>h60 e.symm
  simp[Lib.hasPrefix,List.isPrefixOf,this]
 have tb:∀x∈escF s,textB x=true:=fun x hx=>by
  have:=(hno x hx).1;unfold textB textP;have hn:x.toNat≠60:=fun e=>this (UInt8.toNat_inj.1 e)
  simpa using(by omega:¬((x.toNat:Int)=60))
 have t60:textB 60=false:=by decide
 have tw:(escF s++60::r).takeWhile textB=escF s:=by
  rw[List.takeWhile_append_of_pos tb,List.takeWhile_cons,t60];simp
 have dw:(escF s++60::r).dropWhile textB=60::r:=by
  rw[List.dropWhile_append_of_pos tb,P5,t60];simp
 unfold partF;rw[show p1=60::p1.tail from rfl,show p2=60::p2.tail from rfl,show p3=60::p3.tail from rfl,show p4=60::p4.tail from rfl,show p5=60::p5.tail from rfl,show p6=60::p6.tail from rfl];rw[hp,hp,hp,hp,hp,hp,tw,dw,j8 _ _ (Nat.lt_succ_self _),o9];simp
theorem gG:∀(ps:List (Bs×Tok)) (f:Nat) (l:List Tok) (b:Bool),GoodP b ps→(b=false→∀u,l.getLast? =some u→u.1≠3)→ps.length<f→l.length+ps.length≤8192→tksF f (ps.flatMap (·.1)) l=(l++ps.map (·.2),0)
 | [],f,l,_,_,_,hf,_=>by
  obtain⟨f,rfl⟩:∃k,f=k+1:=⟨f-1,by omega⟩;rw[List.flatMap_nil,tksF,E8 rfl];simp
 |p::ps,f,l,b,hg,hb,hf,hl=>by
  simp only[E2]at hf hl;obtain⟨f,rfl⟩:∃k,f=k+1:=⟨f-1,by omega⟩;rcases hg with⟨⟨⟨r1,h1⟩,h2,h3⟩,hg⟩| ⟨hb0,⟨s,hs,rfl⟩,⟨r,hr⟩,hg⟩
  ·have hne:p.1++ps.flatMap (·.1)≠ []:=(by simp[h1]);have ha:[p.2].foldl addT l=l++[p.2]:=(by show addT l p.2=_;unfold addT;rw[E4 h2]);rw[L1,tksF,E4 hne,h3];simp only[G9,if_false,ha];rw[E4 (by simp;omega),gG ps f _ false hg (fun _ u hu=>by simp at hu;rw[← hu];exact h2) (by omega) (by simp;omega)];simp
  ·have hne:escF s++60::r≠ []:=(by simp);have ha:[((3,[],[],s):Tok)].foldl addT l=l++[(3,[],[],s)]:=by
    show addT l (3,[],[],s)=_;unfold addT;rw[E8 rfl,E4 hs];cases hu:l.getLast? with
    |none=>rfl
    |some u=>simp only[];rw[E4 (hb hb0 u hu)]
   rw[L1,hr,tksF,E4 hne,pS hs];simp only[G9,if_false,ha];rw[E4 (by simp;omega), ← hr,gG ps f _ true hg (fun h=>by cases h) (by omega) (by simp;omega)];simp
theorem gH:∀(ps:List (Bs×Tok)) (b:Bool),GoodP b ps→ps.length≤(ps.flatMap (·.1)).length
 | [],_,_=>by simp
 |p::ps,b,hg=>by
  rw[L1,E5,E2];rcases hg with⟨⟨⟨r1,h1⟩,h2,h3⟩,hg⟩| ⟨hb0,⟨s,hs,rfl⟩,_,hg⟩
  ·have:=gH ps _ hg;rw[h1,E2];omega
  ·have:=gH ps _ hg;have:=M7.2 (rJ hs);simp only[];omega
theorem pT{ps:List (Bs×Tok)}(hg:GoodP false ps)(h1:(ps.flatMap (·.1)).length≤65536)(h2:ps.length≤8192):toksF (ps.flatMap (·.1))=(ps.map (·.2),0):=by
 unfold toksF;rw[E4 (by omega)];have:=gG ps ((ps.flatMap (·.1)).length+1) [] false hg (fun _ u hu=>by simp at hu) (by have:=gH ps _ hg;omega) (by simpa using h2);simpa using this
theorem ni(n r:Bs)(hn:nameW (n++62::r)=n)(hr:nameR (n++62::r)=62::r)(hb:badN n=false):partF (60::47::n++62::r)=([(2,n,[],[])],r,false):=by
 have e1:Lib.hasPrefix (60::47::n++62::r) p1=false:=rfl;have e2:Lib.hasPrefix (60::47::n++62::r) p2=false:=rfl;have e3:Lib.hasPrefix (60::47::n++62::r) p3=false:=rfl;have e4:Lib.hasPrefix (60::47::n++62::r) p4=false:=rfl;have e5:Lib.hasPrefix (60::47::n++62::r) p5=true:=rfl;have e6:Lib.trimPrefix (60::47::n++62::r) p5=n++62::r:=by unfold Lib.trimPrefix;rw[E8 e5];rfl
 unfold partF;rw[e1,e2,e3,e4,e5,e6];simp only[G9,if_false,if_true];have e7:(62::r:Bs).dropWhile blankB=62::r:=rfl;have e8:Lib.hasPrefix (62::r) [62]=true:=rfl;have e9:Lib.trimPrefix (62::r) [62]=r:=by unfold Lib.trimPrefix;rw[E8 e8];rfl
 unfold closeF;simp only[hn,hr,hb,e7,e8,e9];rfl
theorem pU(f:Nat)(n:Bs)(at_:List At)(r:Bs):openL (f+1) n at_ (62::r) false=([(1,n,at_,[])],r,false):=by
 have e7:(62::r:Bs).dropWhile blankB=62::r:=rfl;have e8:Lib.hasPrefix (62::r) [62]=true:=rfl;have e9:Lib.trimPrefix (62::r) [62]=r:=by unfold Lib.trimPrefix;rw[E8 e8];rfl
 rw[openL,e7,e8,e9];rfl
theorem pV(n r:Bs)(c:UInt8)(h1:(c==33)=false)(h2:(c==63)=false)(h3:(c==47)=false):partF (60::c::n++r)=openF (c::n++r):=by
 have b1:((33:UInt8)==c)=false:=by rw[← h1];exact Bool.beq_comm
 have b2:((63:UInt8)==c)=false:=by rw[← h2];exact Bool.beq_comm
 have b3:((47:UInt8)==c)=false:=by rw[← h3];exact Bool.beq_comm
 have e1:Lib.hasPrefix (60::c::n++r) p1=false:=by simp[Lib.hasPrefix,p1,List.isPrefixOf,b1]
 have e2:Lib.hasPrefix (60::c::n++r) p2=false:=by simp[Lib.hasPrefix,p2,List.isPrefixOf,b2]
 have e3:Lib.hasPrefix (60::c::n++r) p3=false:=by simp[Lib.hasPrefix,p3,List.isPrefixOf,b1]
 have e4:Lib.hasPrefix (60::c::n++r) p4=false:=by simp[Lib.hasPrefix,p4,List.isPrefixOf,b1]
 have e5:Lib.hasPrefix (60::c::n++r) p5=false:=by simp[Lib.hasPrefix,p5,List.isPrefixOf,b3]
 have e6:Lib.hasPrefix (60::c::n++r) p6=true:=rfl;have e7:Lib.trimPrefix (60::c::n++r) p6=c::n++r:=by unfold Lib.trimPrefix;rw[E8 e6];rfl
 unfold partF;rw[e1,e2,e3,e4,e5,e6,e7];simp only[G9,if_false,if_true]
theorem fS{n:Bs}{c:UInt8}{t:Bs}(hn:n=c::t)(h1:(c==33)=false)(h2:(c==63)=false)(h3:(c==47)=false)(hw:∀r,nameW (n++62::r)=n)(hr:∀r,nameR (n++62::r)=62::r)(hb:badN n=false):PcD (opK n):=⟨⟨_,rfl⟩,by simp[opK],fun r=>by
 have e0:partF (opn n++r)=openF (n++62::r):=by
  rw[hn];have:=pV (t++[62]) r c h1 h2 h3;simp only[opn,J8,I6,I7]at this ⊢;exact this
 show partF (opn n++r)=_;rw[e0];unfold openF;rw[hw,hr,hb];exact pU _ _ _ _⟩
theorem fU{n:Bs}(hw:∀r,nameW (n++62::r)=n)(hr:∀r,nameR (n++62::r)=62::r)(hb:badN n=false):PcD (clK n):=⟨⟨_,rfl⟩,by simp[clK],fun r=>by
 have:=ni n r (hw r) (hr r) hb;simp only[clK,cls,J8,I6,I7]at this ⊢;exact this⟩
def pubP(x:En):List (Bs×Tok):=if x.dated then onP bPub (showF x.date)else []
def itmP(x:En):List (Bs×Tok):=opK bItem::(onP bGuid x.guid++(onP bTitle x.title++(onP bLink x.link++(pubP x++[clK bItem]))))
def fdP(d:Fd):List (Bs×Tok):=opK bRss::opK bChan::(onP bTitle d.title++(onP bLink d.link++(d.es.flatMap itmP++[clK bChan,clK bRss])))
def fdT(d:Fd):Bs:=(fdP d).flatMap (·.1)
theorem mg:PcD (opK bItem)∧PcD (opK bRss)∧PcD (opK bChan)∧PcD (opK bTitle)∧PcD (opK bLink)∧PcD (opK bGuid)∧PcD (opK bPub):=
 ⟨fS rfl rfl rfl rfl (fun _=>rfl) (fun _=>rfl) rfl,fS rfl rfl rfl rfl (fun _=>rfl) (fun _=>rfl) rfl,fS rfl rfl rfl rfl (fun _=>rfl) (fun _=>rfl) rfl,fS rfl rfl rfl rfl (fun _=>rfl) (fun _=>rfl) rfl,
  fS rfl rfl rfl rfl (fun _=>rfl) (fun _=>rfl) rfl,fS rfl rfl rfl rfl (fun _=>rfl) (fun _=>rfl) rfl,fS rfl rfl rfl rfl (fun _=>rfl) (fun _=>rfl) rfl⟩
theorem kx:PcD (clK bItem)∧PcD (clK bRss)∧PcD (clK bChan)∧PcD (clK bTitle)∧PcD (clK bLink)∧PcD (clK bGuid)∧PcD (clK bPub):=
 ⟨fU (fun _=>rfl) (fun _=>rfl) rfl,fU (fun _=>rfl) (fun _=>rfl) rfl,fU (fun _=>rfl) (fun _=>rfl) rfl,fU (fun _=>rfl) (fun _=>rfl) rfl,
  fU (fun _=>rfl) (fun _=>rfl) rfl,fU (fun _=>rfl) (fun _=>rfl) rfl,fU (fun _=>rfl) (fun _=>rfl) rfl⟩
theorem dS{n s:Bs}{ps:List (Bs×Tok)}(h1:PcD (opK n))(h2:PcD (clK n))(hg:GoodP false ps):GoodP false (onP n s++ps):=by
 unfold onP;by_cases h:s=[]
 ·rw[E8 h];exact .inl ⟨h1,.inl ⟨h2,hg⟩⟩
 ·rw[E4 h];refine .inl ⟨h1,.inr ⟨rfl,⟨s,h,rfl⟩,?_,.inl ⟨h2,hg⟩⟩⟩;exact⟨_,rfl⟩
theorem u2(x:En){ps:List (Bs×Tok)}(hg:GoodP false ps):GoodP false (itmP x++ps):=by
 obtain⟨o1,o2,o3,o4,o5,o6,o7⟩:=mg;obtain⟨c1,c2,c3,c4,c5,c6,c7⟩:=kx;have e:itmP x++ps=opK bItem::(onP bGuid x.guid++(onP bTitle x.title++(onP bLink x.link++(pubP x++(clK bItem::ps))))):=by simp[itmP]
 rw[e];have hp:GoodP false (pubP x++(clK bItem::ps)):=by
  unfold pubP;split
  ·exact dS o7 c7 (.inl ⟨c1,hg⟩)
  ·exact .inl ⟨c1,hg⟩
 exact .inl ⟨o1,dS o6 c6 (dS o4 c4 (dS o5 c5 hp))⟩
theorem ky:∀(l:List En) {ps:List (Bs×Tok)},GoodP false ps→GoodP false (l.flatMap itmP++ps)
 | [],_,h=>h
 |x::l,ps,h=>by
  rw[L1,I6];exact u2 x (ky l h)
theorem vg(d:Fd):GoodP false (fdP d):=by
 obtain⟨o1,o2,o3,o4,o5,o6,o7⟩:=mg;obtain⟨c1,c2,c3,c4,c5,c6,c7⟩:=kx;exact .inl ⟨o2,.inl ⟨o3,dS o4 c4 (dS o5 c5 (ky _ (.inl ⟨c3,.inl ⟨c2,trivial⟩⟩)))⟩⟩
theorem ff(n s:Bs):(onP n s).length≤3:=by unfold onP;split<;>simp
theorem vh(x:En):(itmP x).length≤14:=by
 have h1:=ff bGuid x.guid;have h2:=ff bTitle x.title;have h3:=ff bLink x.link;have h4:(pubP x).length≤3:=by unfold pubP;split<;>simp[ff]
 unfold itmP;simp only[E2,E5,E9];omega
theorem u6(l:List En):(l.flatMap itmP).length≤14*l.length:=by
 induction l with
 |nil=>simp
 |cons x l ih=>
  have:=vh x;rw[L1,E5,E2];omega
theorem vj(d:Fd)(h:d.es.length≤256):(fdP d).length≤8192:=by
 have h1:=ff bTitle d.title;have h2:=ff bLink d.link;have h3:=u6 d.es;unfold fdP;simp only[E2,E5,E9];omega
def onE(n s:Bs):Elem:=⟨n,[],s,[]⟩
def itmE(x:En):Elem:=⟨bItem,[],[],onE bGuid x.guid::onE bTitle x.title::onE bLink x.link::(if x.dated then [onE bPub (showF x.date)]else [])⟩
def chE(d:Fd):Elem:=⟨bChan,[],[],onE bTitle d.title::onE bLink d.link::d.es.map itmE⟩
def fdEl(d:Fd):Elem:=⟨bRss,[],[],[chE d]⟩
theorem ux:¬((1:Int)=3):=by decide
theorem rK:¬((2:Int)=3):=by decide
theorem rL:¬((2:Int)=1):=by decide
theorem fg{d g g':Nat}{n m s x:Bs}{a:List At}{k:List Elem}{rest:List Tok}(hd:d≠0)(hg:((onP m s).map (·.2)++rest).length<g)(hg':rest.length<g'):
  elL g d n a x k ((onP m s).map (·.2)++rest)=elL g' d n a x (k++[onE m s]) rest:=by
 obtain⟨g,rfl⟩:∃q,g=q+1:=⟨g-1,by omega⟩;unfold onP at hg ⊢;by_cases h:s=[]
 ·subst h;rw[E8 rfl]at hg ⊢;simp only[K7,I4,L9,I7,J8,H8,E2,opK,clK]at hg ⊢;obtain⟨g,rfl⟩:∃q,g=q+1:=⟨g-1,by omega⟩;rw[bf,E4 ux,E8 rfl,E4 hd,bf,E4 rK,E4 rL,E8 rfl,E8 rfl,L6];exact fP _ _ _ _ _ _ _ _ (show rest.length<_ by omega) hg'
 ·rw[E4 h]at hg ⊢;simp only[K7,I4,L9,I7,J8,H8,E2,opK,clK]at hg ⊢;obtain⟨g,rfl⟩:∃q,g=q+1:=⟨g-1,by omega⟩;obtain⟨g,rfl⟩:∃q,g=q+1:=⟨g-1,by omega⟩;rw[bf,E4 ux,E8 rfl,E4 hd,bf,E8 rfl,bf,E4 rK,E4 rL,E8 rfl,E8 rfl,L6];exact fP _ _ _ _ _ _ _ _ (show rest.length<_ by omega) hg'
theorem vk{d g g':Nat}{n x:Bs}{a:List At}{k:List Elem}{y:En}{rest:List Tok}(hd:2≤d)(hg:((itmP y).map (·.2)++rest).length<g)(hg':rest.length<g'):
  elL g d n a x k ((itmP y).map (·.2)++rest)=elL g' d n a x (k++[itmE y]) rest:=by
 obtain⟨g,rfl⟩:∃q,g=q+1:=⟨g-1,by omega⟩;have e:(itmP y).map (·.2)++rest=(1,bItem,[],[])::((onP bGuid y.guid).map (·.2)++((onP bTitle y.title).map (·.2)++((onP bLink y.link).map (·.2)++((pubP y).map (·.2)++((2,bItem,[],[])::rest))))):=by
  simp[itmP,opK,clK]
 rw[e]at hg ⊢;simp only[E2,E5]at hg;have hin:elL g (d-1) bItem [] [] [] ((onP bGuid y.guid).map (·.2)++((onP bTitle y.title).map (·.2)++((onP bLink y.link).map (·.2)++((pubP y).map (·.2)++((2,bItem,[],[])::rest)))))=some (itmE y,rest):=by
  rw[fg (g':=g) (by omega) (by simp only[E5,E2];omega) (by simp only[E5,E2];omega),
   fg (g':=g) (by omega) (by simp only[E5,E2];omega) (by simp only[E5,E2];omega),
   fg (g':=g) (by omega) (by simp only[E5,E2];omega) (by simp only[E5,E2];omega)]
  have hp:∀k,elL g (d-1) bItem [] [] k ((pubP y).map (·.2)++((2,bItem,[],[])::rest))=elL g (d-1) bItem [] [] (k++(if y.dated then [onE bPub (showF y.date)]else [])) ((2,bItem,[],[])::rest):=fun k=>by
   unfold pubP at hg ⊢;cases hb:y.dated with
   |true=>
    rw[hb]at hg;simp only[if_true]at hg ⊢;exact fg (by omega) (by simp only[E5,E2];omega) (by simp only[E2];omega)
   |false=>simp
  rw[hp];obtain⟨g,rfl⟩:∃q,g=q+1:=⟨g-1,by omega⟩;rw[bf,E4 rK,E4 rL,E8 rfl,E8 rfl];simp[itmE]
 rw[bf,E4 ux,E8 rfl,E4 (by omega),hin,L6];exact fP _ _ _ _ _ _ _ _ (show rest.length<_ by omega) hg'
theorem mh:∀(l:List En) {d g g':Nat} {n x:Bs} {a:List At} {k:List Elem} {rest:List Tok},2≤d→((l.flatMap itmP).map (·.2)++rest).length<g→rest.length<g'→
  elL g d n a x k ((l.flatMap itmP).map (·.2)++rest)=elL g' d n a x (k++l.map itmE) rest
 | [],d,g,g',n,x,a,k,rest,_,hg,hg'=>by
  simp only[List.flatMap_nil,L9,I7,H8]at hg ⊢;exact fP _ _ _ _ _ _ _ _ hg hg'
 |y::l,d,g,g',n,x,a,k,rest,hd,hg,hg'=>by
  rw[L1,K7,I6]at hg ⊢;rw[vk (g':=g) hd hg (by simp only[E5]at hg ⊢;omega),mh l hd (by simp only[E5]at hg ⊢;omega) hg',I4,I6];rfl
theorem vl(d:Fd):bldF ((fdP d).map (·.2))=some (fdEl d):=by
 have e:(fdP d).map (·.2)=(1,bRss,[],[])::(1,bChan,[],[])::((onP bTitle d.title).map (·.2)++((onP bLink d.link).map (·.2)++((d.es.flatMap itmP).map (·.2)++[(2,bChan,[],[]),(2,bRss,[],[])]))):=by
  simp[fdP,opK,clK]
 have key:∀g,((onP bTitle d.title).map (·.2)++((onP bLink d.link).map (·.2)++((d.es.flatMap itmP).map (·.2)++[(2,bChan,[],[]),(2,bRss,[],[])])):List Tok).length<g→
   elL g 30 bChan [] [] [] ((onP bTitle d.title).map (·.2)++((onP bLink d.link).map (·.2)++((d.es.flatMap itmP).map (·.2)++[(2,bChan,[],[]),(2,bRss,[],[])])))=some (chE d,[(2,bRss,[],[])]):=fun g hg=>by
  simp only[E5,E2,E9]at hg;rw[fg (g':=g) (by decide) (by simp only[E5,E2,E9];omega) (by simp only[E5,E2,E9];omega),
   fg (g':=g) (by decide) (by simp only[E5,E2,E9];omega) (by simp only[E5,E2,E9];omega),
   mh d.es (g':=g) (by decide) (by simp only[E5,E2,E9];omega) (by simp only[E2,E9];omega)]
  obtain⟨g,rfl⟩:∃q,g=q+1:=⟨g-1,by omega⟩;rw[bf,E4 rK,E4 rL,E8 rfl,E8 rfl];simp[chE]
 unfold bldF;rw[e,P5,E4 (by simp[blankT])];rw[m7,E8 rfl,E4 (by decide)];simp only[E2];rw[bf,E4 ux,E8 rfl,E4 (by decide),key _ (by omega),L6,bf,E4 rK,E4 rL,E8 rfl,E8 rfl];rfl
end
section
attribute [local irreducible] WP WPl WPix Sat
variable (G:Nat→Option (List AVal))
def FdS(d:Fd):Prop:=d.title.length≤1048576∧d.link.length≤1048576∧d.es.length≤1048576∧∀x∈d.es,EnS x
theorem nj(d:Fd)(hd:FdS d)(h:Heap):Sat (CT G) 11 [d.av] h (fun r h'=>r=.int .i64 (if fdOk d then 0 else 120)∧h'=h):=by
 obtain⟨t,l,es⟩:=d;obtain⟨ht,hl,he,hx⟩:=hd;simp only[]at ht hl he hx;have T1:=cP G t 256 ht;have T2:=cP G l 512 hl;have O1:=dr G es he;have me:(es.map En.av).length=es.length:=I5 ..;have mo:((onceF es).map En.av).length=(onceF es).length:=I5 ..;have ol:=gE es;have f1:(Fd.mk t l es).av=.agg [.str t,.str l,.sl 5 (es.map En.av)]:=rfl;have ek:fdOk ⟨t,l,es⟩=(decide (es.length≤256)&&(textO t 256&&(textO l 512&&(decide ((onceF es).length=es.length)&&es.all enOk)))):=rfl;rw[f1,ek];generalize textO t 256=d1 at*;generalize textO l 512=d2 at*;have dt:∀i:Decidable True, @decide True i=true:=fun i=>by simp
 have df:∀i:Decidable False, @decide False i=false:=fun i=>by simp
 by_cases c0:es.length≤256
 rotate_left
 ·have q0:decide ((es.length:Int)>256)=true:=G4 (by omega);rw[H2 c0];have F:=F3 me q0 @ak;refine sb [.tmp 2] Tryz.func11 ?_;intro Q hQ;refine wk F ?_;refine ee hQ F ?_;exact H9 (.int _ _) ⟨rfl,rfl⟩
 have q0:decide ((es.length:Int)>256)=false:=H2 (by omega);rw[G4 c0];cases d1 with
 |false=>
  have F:=F3 me q0 @ak;refine sb [.tmp 2] Tryz.func11 ?_;intro Q hQ;refine wk F ?_;refine af (T1 _) ?_;try refine sq F ?_
  refine wk F ?_;refine ee hQ F ?_;exact H9 (.int _ _) ⟨rfl,rfl⟩
 |true=>
  cases d2 with
  |false=>
   have F:=F3 me q0 @ak;refine sb [.tmp 2] Tryz.func11 ?_;intro Q hQ;refine wk F ?_;refine af (T1 _) ?_;(try refine sq F ?_);refine wk F ?_;refine af (T2 _) ?_;(try refine sq F ?_);refine wk F ?_;refine ee hQ F ?_;exact H9 (.int _ _) ⟨rfl,rfl⟩
  |true=>
   by_cases c1:(onceF es).length=es.length
   rotate_left
   ·have q1:decide ((onceF es).length<es.length)=true:=G4 (by omega);rw[H2 c1];have F:=F5 me mo q0 q1 @ak;refine sb [.tmp 2] Tryz.func11 ?_;intro Q hQ;refine wk F ?_;refine af (T1 _) ?_;(try refine sq F ?_);refine wk F ?_;refine af (T2 _) ?_;(try refine sq F ?_);refine wk F ?_;refine af (O1 _) ?_;(try refine sq F ?_);refine wk F ?_;refine ee hQ F ?_;exact H9 (.int _ _) ⟨rfl,rfl⟩
   have q1:decide (es.length<es.length)=false:=H2 (by omega);rw[G4 c1];rw[c1]at mo;simp only[P3];have F:=F5 me mo q0 q1 @ak;refine sb [.tmp 2] Tryz.func11 ?_;intro Q hQ;refine wk F ?_;refine af (T1 _) ?_;(try refine sq F ?_);refine wk F ?_;refine af (T2 _) ?_;(try refine sq F ?_);refine wk F ?_;refine af (O1 _) ?_;(try refine sq F ?_);refine wk F ?_;refine lm (fun nL tL hL=>∃(i:Nat) (j:Heap),es.length-i=nL∧h++(.row 25 3 0 [.agg [.str t,.str l,.sl 5 (es.map En.av)]]::j)=hL∧tL 34=.int .i64 i∧i≤es.length∧(es.take i).all enOk=true) ((fun(i:Nat) (j:Heap)=>(es.length-i:Nat)) (0) ([])) ?_ ?_
   ·refine H3 ⟨0,[],rfl,aB,?_,by omega,rfl⟩;all_goals try exact zZz F
   rintro _ s2 h' ⟨i,j,rfl,rfl,e34,hi,ha⟩ K2 hK2;simp only[ao,aw,Nat.reduceEqDiff, ↓reduceIte]at e34;have F:=F2 F e34;by_cases c2:i<es.length
   ·obtain⟨x,hx2,_⟩:=am c2;have d2:=G4 c2;have hxs:=hx x (G1 hx2);have E1:=ng G x hxs;have hm:(es.map En.av)[i]? =some x.av:=(by rw[K8,hx2];rfl);cases c3:enOk x with
    |true=>
     rw[c3]at E1;have ha':(es.take (i+1)).all enOk=true:=by
      rw[O0,hx2,List.all_append,ha];simp[c3]
     have F:=F3 F d2 hx2;(try refine sq F ?_);refine wk F ?_;refine kq F (E1 _) ?_;refine hK2 _ _ _ (H3 ⟨i+1,_,rfl,aB,?_,by omega,ha'⟩) (by omega);all_goals try exact zZz F
    |false=>
     rw[c3]at E1;have hn:es.all enOk=false:=by
      rw[List.all_eq_false];exact⟨x,G1 hx2,by simp[c3]⟩
     have F:=F3 F d2 hx2;(try refine sq F ?_);refine wk F ?_;refine kq F (E1 _) ?_;refine ee hQ F ?_;exact H9 (.int _ _) ⟨by rw[hn];rfl,rfl⟩
   ·have d2:=H2 c2;rw[H4 (by omega)]at ha;have F:=F2 F d2;(try refine sq F ?_);refine wk F ?_;refine ee hQ F ?_;exact H9 (.int _ _) ⟨by rw[ha];rfl,rfl⟩
end
end Go.Av
