/- Parts. -/
import Derived.Test.YtjfjncmgclaokaaGreatDoorMqRb
set_option linter.unusedSimpArgs false
set_option linter.unusedVariables false
set_option linter.unusedSectionVars false
set_option linter.unnecessarySimpa false
set_option maxRecDepth 100000
set_option maxHeartbeats 16000000
namespace Go.Av
open Go Go.Proofs Go.RowKit
section
attribute [local irreducible] WP WPl WPix Sat
variable {G:Nat→Option (List AVal)}
attribute [go_sem] decide_true decide_false
theorem uX(n:Int)(h0:0≤n):(if rightF n=true then(n,true)else(65533,true))=(if (n<32∧n≠9∧n≠10∧n≠13)∨1114111<n∨(55296≤n∧n≤57343)then((65533:Int),true)else(n,true)):=by
 have hb:∀b:Bool,rightF n=b↔(decide (n=9∨n=10∨n=13∨32≤n∧¬enc n=[239,191,189])=b):=fun b=>by
  unfold rightF;simp[Bool.decide_or,Bool.decide_and,Bool.or_assoc]
 by_cases hv:Rune n
 ·have hinj:enc n=[239,191,189]→n=65533:=fun e=>by
   have e2:enc n=enc 65533:=(by rw[e];exact(iy (r:=65533) (by decide)).symm);have d1:Utf8.decode ⟨(enc n).toArray⟩ 0=(fix n,(enc n).length):=ku n;have d2:Utf8.decode ⟨(enc 65533).toArray⟩ 0=(fix 65533,(enc 65533).length):=ku 65533;rw[e2,d2]at d1;have:=(Prod.mk.inj d1).1;unfold fix at this;rw[G3 hv.valid,G3 (by decide)]at this;omega
  obtain⟨_,hv2⟩:=hv;by_cases hr:rightF n=true
  ·rw[G3 hr];rw[hb,decide_eq_true_iff]at hr;rw[G0 (by omega)]
  ·rw[G0 hr];rw[hb,decide_eq_true_iff]at hr;by_cases he:enc n=[239,191,189]
   ·have:=hinj he;subst this;split<;>rfl
   ·have k1:n≠9:=fun e=>hr (.inl e)
    have k2:n≠10:=fun e=>hr (.inr (.inl e))
    have k3:n≠13:=fun e=>hr (.inr (.inr (.inl e)))
    have k4:¬32≤n:=fun e=>hr (.inr (.inr (.inr ⟨e,he⟩)))
    rw[G3 (by omega)]
 ·have he:enc n=[239,191,189]:=iy (by unfold fix Utf8.valid Utf8.runeError Rune at *;rw[G0 (by simp;omega)]);have hr:¬rightF n=true:=by
   rw[hb,decide_eq_true_iff];unfold Rune at hv;rintro(e|e|e| ⟨_,e⟩)
   ·omega
   ·omega
   ·omega
   ·exact e he
  unfold Rune at hv;rw[G0 hr,G3 (by omega)]
theorem sO(name:Bs)(hs:name.length≤1048576)(h:Heap):Sat (CT G) 234 [.str name] h (fun x h'=>x=.tup [.int .i32 (signF name).1,.bool (signF name).2]∧h'=h):=by
 have fin:∀(a:Int) (b:Bool),signF name=(a,b)→Fin h h (fun x h'=>x=.tup [.int .i32 (signF name).1,.bool (signF name).2]∧h'=h) (.tup [.int .i32 a,.bool b]):=fun a b e=>by
  rw[e];exact V6 (.clo _ (dn _ _ _ _)) ⟨rfl,rfl⟩
 have F:= @j1;refine sb [.tmp 2,.tmp 3] Tryz.func234 ?_;intro Q hQ;(repeat (first|refine w1 (fun K hK=>?_)|refine w2 ?_|refine w3 ?_| ((first|refine w4 ?_|refine wD ?_|refine w5 ?_|refine w6 ?_|refine w7 ?_);try refine sq F ?_)| (refine w8 ?_;refine sq F ?_;refine w9 ?_)| ((first|refine hK _ _ (w0 ?_)| (clear hK K;refine hK _ _ (w0 ?_))| (clear hK K;clear hK K;refine hK _ _ (w0 ?_)));clear hK K)))
 refine cq F (fun c1=>?_) (fun c1=>?_)<;>(try exact c1.elim)<;>((repeat (first|refine w1 (fun K hK=>?_)|refine w2 ?_|refine w3 ?_| ((first|refine w4 ?_|refine wD ?_|refine w5 ?_|refine w6 ?_|refine w7 ?_);try refine sq F ?_)| (refine w8 ?_;refine sq F ?_;refine w9 ?_)| ((first|refine hK _ _ (w0 ?_)| (clear hK K;refine hK _ _ (w0 ?_))| (clear hK K;clear hK K;refine hK _ _ (w0 ?_)));clear hK K))))
 ·refine ye hQ F ?_;exact fin _ _ (by simp[signF,c1])
 refine cq F (fun c2=>?_) (fun c2=>?_)<;>(try exact c2.elim)<;>((repeat (first|refine w1 (fun K hK=>?_)|refine w2 ?_|refine w3 ?_| ((first|refine w4 ?_|refine wD ?_|refine w5 ?_|refine w6 ?_|refine w7 ?_);try refine sq F ?_)| (refine w8 ?_;refine sq F ?_;refine w9 ?_)| ((first|refine hK _ _ (w0 ?_)| (clear hK K;refine hK _ _ (w0 ?_))| (clear hK K;clear hK K;refine hK _ _ (w0 ?_)));clear hK K))))
 ·refine ye hQ F ?_;exact fin _ _ (by simp[signF,c2])
 refine cq F (fun c3=>?_) (fun c3=>?_)<;>(try exact c3.elim)<;>((repeat (first|refine w1 (fun K hK=>?_)|refine w2 ?_|refine w3 ?_| ((first|refine w4 ?_|refine wD ?_|refine w5 ?_|refine w6 ?_|refine w7 ?_);try refine sq F ?_)| (refine w8 ?_;refine sq F ?_;refine w9 ?_)| ((first|refine hK _ _ (w0 ?_)| (clear hK K;refine hK _ _ (w0 ?_))| (clear hK K;clear hK K;refine hK _ _ (w0 ?_)));clear hK K))))
 ·refine ye hQ F ?_;exact fin _ _ (by simp[signF,c3])
 refine cq F (fun c4=>?_) (fun c4=>?_)<;>(try exact c4.elim)<;>((repeat (first|refine w1 (fun K hK=>?_)|refine w2 ?_|refine w3 ?_| ((first|refine w4 ?_|refine wD ?_|refine w5 ?_|refine w6 ?_|refine w7 ?_);try refine sq F ?_)| (refine w8 ?_;refine sq F ?_;refine w9 ?_)| ((first|refine hK _ _ (w0 ?_)| (clear hK K;refine hK _ _ (w0 ?_))| (clear hK K;clear hK K;refine hK _ _ (w0 ?_)));clear hK K))))
 ·refine ye hQ F ?_;exact fin _ _ (by simp[signF,c4])
 refine cq F (fun c5=>?_) (fun c5=>?_)<;>(try exact c5.elim)<;>((repeat (first|refine w1 (fun K hK=>?_)|refine w2 ?_|refine w3 ?_| ((first|refine w4 ?_|refine wD ?_|refine w5 ?_|refine w6 ?_|refine w7 ?_);try refine sq F ?_)| (refine w8 ?_;refine sq F ?_;refine w9 ?_)| ((first|refine hK _ _ (w0 ?_)| (clear hK K;refine hK _ _ (w0 ?_))| (clear hK K;clear hK K;refine hK _ _ (w0 ?_)));clear hK K))))
 ·refine ye hQ F ?_;exact fin _ _ (by simp[signF,c5])
 have hS:signF name=if (if Lib.hasPrefix name [35,120]=true then numF (name.drop 2) 16 6 else if Lib.hasPrefix name [35]=true then numF (name.drop 1) 10 7 else-1)<0 then(0,false)else
   if rightF (if Lib.hasPrefix name [35,120]=true then numF (name.drop 2) 16 6 else if Lib.hasPrefix name [35]=true then numF (name.drop 1) 10 7 else-1)=true then((if Lib.hasPrefix name [35,120]=true then numF (name.drop 2) 16 6 else if Lib.hasPrefix name [35]=true then numF (name.drop 1) 10 7 else-1),true)else(65533,true):=by
  unfold signF;rw[G0 c1,G0 c2,G0 c3,G0 c4,G0 c5]
 rename_i K0 hK0;have tail:∀(t':Env) (n:Int),t' 4=.int .i64 n→ -1≤n→n≤268435455→n=(if Lib.hasPrefix name [35,120]=true then numF (name.drop 2) 16 6 else if Lib.hasPrefix name [35]=true then numF (name.drop 1) 10 7 else-1)→K0 t' h:=by
  intro t' n e4 hb1 hb2 hn;rw[← hn]at hS;refine hK0 _ _ (G9 ?_);clear hK0 K0 hK K;have F:=F2 F e4;by_cases hneg:n<0
  ·(repeat (first|refine w1 (fun K hK=>?_)|refine w2 ?_|refine w3 ?_| ((first|refine w4 ?_|refine wD ?_|refine w5 ?_|refine w6 ?_|refine w7 ?_);try refine sq F ?_)| (refine w8 ?_;refine sq F ?_;refine w9 ?_)| ((first|refine hK _ _ (w0 ?_)| (clear hK K;refine hK _ _ (w0 ?_))| (clear hK K;clear hK K;refine hK _ _ (w0 ?_)));clear hK K)))
   refine cq F (fun hc=>?_) (fun hc=>?_)<;>(try exact hc.elim)<;>((repeat (first|refine w1 (fun K hK=>?_)|refine w2 ?_|refine w3 ?_| ((first|refine w4 ?_|refine wD ?_|refine w5 ?_|refine w6 ?_|refine w7 ?_);try refine sq F ?_)| (refine w8 ?_;refine sq F ?_;refine w9 ?_)| ((first|refine hK _ _ (w0 ?_)| (clear hK K;refine hK _ _ (w0 ?_))| (clear hK K;clear hK K;refine hK _ _ (w0 ?_)));clear hK K))))
   ·refine ye hQ F ?_;exact fin _ _ (by rw[hS,G3 hc])
   ·exfalso;omega
  ·rw[G0 hneg,uX n (by omega)]at hS;have hng:(decide (n<0))=false:=(by simpa using hneg);have bad:((n<32∧n≠9∧n≠10∧n≠13)∨1114111<n∨(55296≤n∧n≤57343))→signF name=(65533,true):=fun e=>by rw[hS,G3 e]
   have good:¬((n<32∧n≠9∧n≠10∧n≠13)∨1114111<n∨(55296≤n∧n≤57343))→signF name=(n,true):=fun e=>by rw[hS,G0 e]
   by_cases hsm:n<32
   ·have hsm':(decide (n<32))=true:=(by simpa using hsm);by_cases h9:n=9∨n=10∨n=13
    ·rcases h9 with rfl|rfl|rfl;all_goals (
      (repeat (first|refine w1 (fun K hK=>?_)|refine w2 ?_|refine w3 ?_| ((first|refine w4 ?_|refine wD ?_|refine w5 ?_|refine w6 ?_|refine w7 ?_);try refine sq F ?_)| (refine w8 ?_;refine sq F ?_;refine w9 ?_)| ((first|refine hK _ _ (w0 ?_)| (clear hK K;refine hK _ _ (w0 ?_))| (clear hK K;clear hK K;refine hK _ _ (w0 ?_)));clear hK K)))
      refine ye hQ F ?_;exact fin _ _ (good (by omega)))
    ·have b9:(n !=9)=true:=(by simp;omega);have b10:(n !=10)=true:=(by simp;omega);have b13:(n !=13)=true:=(by simp;omega);have F:=F6 F hng hsm' b9 b10 b13;(repeat (first|refine w1 (fun K hK=>?_)|refine w2 ?_|refine w3 ?_| ((first|refine w4 ?_|refine wD ?_|refine w5 ?_|refine w6 ?_|refine w7 ?_);try refine sq F ?_)| (refine w8 ?_;refine sq F ?_;refine w9 ?_)| ((first|refine hK _ _ (w0 ?_)| (clear hK K;refine hK _ _ (w0 ?_))| (clear hK K;clear hK K;refine hK _ _ (w0 ?_)));clear hK K)))
     refine ye hQ F ?_;exact fin _ _ (bad (by omega))
   ·have hsm':(decide (n<32))=false:=(by simpa using hsm);have F:=F3 F hng hsm';(repeat (first|refine w1 (fun K hK=>?_)|refine w2 ?_|refine w3 ?_| ((first|refine w4 ?_|refine wD ?_|refine w5 ?_|refine w6 ?_|refine w7 ?_);try refine sq F ?_)| (refine w8 ?_;refine sq F ?_;refine w9 ?_)| ((first|refine hK _ _ (w0 ?_)| (clear hK K;refine hK _ _ (w0 ?_))| (clear hK K;clear hK K;refine hK _ _ (w0 ?_)));clear hK K)))
    refine cq F (fun k1=>?_) (fun k1=>?_)<;>(try exact k1.elim)<;>((repeat (first|refine w1 (fun K hK=>?_)|refine w2 ?_|refine w3 ?_| ((first|refine w4 ?_|refine wD ?_|refine w5 ?_|refine w6 ?_|refine w7 ?_);try refine sq F ?_)| (refine w8 ?_;refine sq F ?_;refine w9 ?_)| ((first|refine hK _ _ (w0 ?_)| (clear hK K;refine hK _ _ (w0 ?_))| (clear hK K;clear hK K;refine hK _ _ (w0 ?_)));clear hK K))))
    ·refine cq F (fun k1b=>?_) (fun k1b=>?_)<;>(try exact k1b.elim)<;>((repeat (first|refine w1 (fun K hK=>?_)|refine w2 ?_|refine w3 ?_| ((first|refine w4 ?_|refine wD ?_|refine w5 ?_|refine w6 ?_|refine w7 ?_);try refine sq F ?_)| (refine w8 ?_;refine sq F ?_;refine w9 ?_)| ((first|refine hK _ _ (w0 ?_)| (clear hK K;refine hK _ _ (w0 ?_))| (clear hK K;clear hK K;refine hK _ _ (w0 ?_)));clear hK K))))
     ·refine ye hQ F ?_;exact fin _ _ (bad (by omega))
     ·exfalso;omega
    ·(first|refine gq F (fun k2=>?_) (fun k2=>?_)|refine pq F (fun k2=>?_) (fun k2=>?_))<;>(try exact k2.elim)<;>(try refine sq F ?_)<;>((repeat (first|refine w1 (fun K hK=>?_)|refine w2 ?_|refine w3 ?_| ((first|refine w4 ?_|refine wD ?_|refine w5 ?_|refine w6 ?_|refine w7 ?_);try refine sq F ?_)| (refine w8 ?_;refine sq F ?_;refine w9 ?_)| ((first|refine hK _ _ (w0 ?_)| (clear hK K;refine hK _ _ (w0 ?_))| (clear hK K;clear hK K;refine hK _ _ (w0 ?_)));clear hK K))))
     ·refine cq F (fun k3=>?_) (fun k3=>?_)<;>(try exact k3.elim)<;>((repeat (first|refine w1 (fun K hK=>?_)|refine w2 ?_|refine w3 ?_| ((first|refine w4 ?_|refine wD ?_|refine w5 ?_|refine w6 ?_|refine w7 ?_);try refine sq F ?_)| (refine w8 ?_;refine sq F ?_;refine w9 ?_)| ((first|refine hK _ _ (w0 ?_)| (clear hK K;refine hK _ _ (w0 ?_))| (clear hK K;clear hK K;refine hK _ _ (w0 ?_)));clear hK K))))
      ·refine ye hQ F ?_;exact fin _ _ (bad (by omega))
      ·refine ye hQ F ?_;exact fin _ _ (good (by omega))
     ·refine ye hQ F ?_;exact fin _ _ (good (by omega))
 have hpt:=Lib.hasPrefix_of_take name [35,120];have hp1:Lib.hasPrefix name [35]=(name.head? ==some 35):=by
  cases name with
  |nil=>rfl
  |cons c t=>simp[Lib.hasPrefix,List.isPrefixOf,Bool.beq_comm,eq_comm]
 have nle:=fun(s:Bs)=>iz s 16 6 (by omega) (by omega) (by omega)
 have nle10:=fun(s:Bs)=>iz s 10 7 (by omega) (by omega) (by omega)
 have hx:∀(a b:UInt8) (t:Bs),Lib.hasPrefix (a::b::t) [35,120]=(a==35&&b==120):=fun a b t=>by simp[Lib.hasPrefix,List.isPrefixOf,Bool.beq_comm,eq_comm]
 rcases name with _| ⟨a,_| ⟨b,_| ⟨c,t⟩⟩⟩
 ·try refine sq F ?_
  (repeat (first|refine w1 (fun K hK=>?_)|refine w2 ?_|refine w3 ?_| ((first|refine w4 ?_|refine wD ?_|refine w5 ?_|refine w6 ?_|refine w7 ?_);try refine sq F ?_)| (refine w8 ?_;refine sq F ?_;refine w9 ?_)| ((first|refine hK _ _ (w0 ?_)| (clear hK K;refine hK _ _ (w0 ?_))| (clear hK K;clear hK K;refine hK _ _ (w0 ?_)));clear hK K)))
  refine tail _ (-1) ?_ (by omega) (by omega) rfl;simp(disch:=first|omega| (simp only[go_sem, ↓reduceIte,seval];first|done|omega)|fail) only[go_sem, ↓reduceIte,seval,F]
 ·have g0:([a]:Bs)[0]? =some a:=rfl;try refine sq F ?_
  (repeat (first|refine w1 (fun K hK=>?_)|refine w2 ?_|refine w3 ?_| ((first|refine w4 ?_|refine wD ?_|refine w5 ?_|refine w6 ?_|refine w7 ?_);try refine sq F ?_)| (refine w8 ?_;refine sq F ?_;refine w9 ?_)| ((first|refine hK _ _ (w0 ?_)| (clear hK K;refine hK _ _ (w0 ?_))| (clear hK K;clear hK K;refine hK _ _ (w0 ?_)));clear hK K)))
  refine tail _ (-1) ?_ (by omega) (by omega) ?_
  ·exact zq F
  ·have h1:Lib.hasPrefix [a] [35,120]=false:=(by simp[Lib.hasPrefix,List.isPrefixOf]);rw[h1,G0 (by simp)];split<;>rfl
 ·have g0:(a::[b])[0]? =some a:=rfl;have h2:((a::[b]).drop 1)=[b]:=rfl;have h3:(a::[b]).drop 2=[]:=rfl;have h4:Lib.hasPrefix (a::[b]) [35]=(a==35):=by simp[Lib.hasPrefix,List.isPrefixOf,Bool.beq_comm,eq_comm]
  rw[hx a b []]at tail;rw[h2,h3,h4]at tail;have F:=F3 F g0 h2;try refine sq F ?_
  (repeat (first|refine w1 (fun K hK=>?_)|refine w2 ?_|refine w3 ?_| ((first|refine w4 ?_|refine wD ?_|refine w5 ?_|refine w6 ?_|refine w7 ?_);try refine sq F ?_)| (refine w8 ?_;refine sq F ?_;refine w9 ?_)| ((first|refine hK _ _ (w0 ?_)| (clear hK K;refine hK _ _ (w0 ?_))| (clear hK K;clear hK K;refine hK _ _ (w0 ?_)));clear hK K)))
  refine cq F (fun k1=>?_) (fun k1=>?_)<;>(try exact k1.elim)<;>((repeat (first|refine w1 (fun K hK=>?_)|refine w2 ?_|refine w3 ?_| ((first|refine w4 ?_|refine wD ?_|refine w5 ?_|refine w6 ?_|refine w7 ?_);try refine sq F ?_)| (refine w8 ?_;refine sq F ?_;refine w9 ?_)| ((first|refine hK _ _ (w0 ?_)| (clear hK K;refine hK _ _ (w0 ?_))| (clear hK K;clear hK K;refine hK _ _ (w0 ?_)));clear hK K))))
  ·have ha:a=35:=N1.1 (by have:(a.toNat:Int)=((35:UInt8).toNat:Int):=k1;omega);subst ha;refine(fB G [b] 10 7 (by omega) (by omega) (by omega) (by simp) _).mono ?_;rintro r h' ⟨rfl,rfl⟩;(try refine sq F ?_);(repeat (first|refine w1 (fun K hK=>?_)|refine w2 ?_|refine w3 ?_| ((first|refine w4 ?_|refine wD ?_|refine w5 ?_|refine w6 ?_|refine w7 ?_);try refine sq F ?_)| (refine w8 ?_;refine sq F ?_;refine w9 ?_)| ((first|refine hK _ _ (w0 ?_)| (clear hK K;refine hK _ _ (w0 ?_))| (clear hK K;clear hK K;refine hK _ _ (w0 ?_)));clear hK K)))
   refine tail _ (numF [b] 10 7) ?_ (nle10 _).1 (nle10 _).2 ?_
   ·exact zq F
   ·by_cases hb:b=120
    ·subst hb;rfl
    ·rw[G0 (by simpa using hb),G3 (by rfl)]
  ·have ha:a≠35:=fun e=>k1 (by rw[e];rfl)
   refine tail _ (-1) ?_ (by omega) (by omega) ?_
   ·exact zq F
   ·rw[G0 (by simp[ha]),G0 (by simp[ha])]
 ·have g0:(a::b::c::t)[0]? =some a:=rfl;have h2:((a::b::c::t).drop 1)=b::c::t:=rfl;have h3:(a::b::c::t).drop 2=c::t:=rfl;have h5:(a::b::c::t).take 2=[a,b]:=rfl;have h4:Lib.hasPrefix (a::b::c::t) [35]=(a==35):=by simp[Lib.hasPrefix,List.isPrefixOf,Bool.beq_comm,eq_comm]
  have hl:(a::b::c::t).length=t.length+3:=rfl;rw[hx a b (c::t)]at tail;rw[h2,h3,h4]at tail;have d1:(2:Int)<((t.length+1+1+1:Nat):Int):=by omega
  have d2:(1:Int)<((t.length+1+1+1:Nat):Int):=by omega
  have d3:(2:Int)≤((t.length+1+1+1:Nat):Int):=by omega
  have d4:(1:Int)≤((t.length+1+1+1:Nat):Int):=by omega
  have hs1:(c::t).length≤1073741824:=by simp at hl hs ⊢;omega
  have hs2:(b::c::t).length≤1073741824:=by simp at hl hs ⊢;omega
  have F:=F9 F g0 h2 h3 h5 d1 d2 d3 d4;(first|refine gq F (fun k0=>?_) (fun k0=>?_)|refine pq F (fun k0=>?_) (fun k0=>?_))<;>(try exact k0.elim)<;>(try refine sq F ?_)<;>((repeat (first|refine w1 (fun K hK=>?_)|refine w2 ?_|refine w3 ?_| ((first|refine w4 ?_|refine wD ?_|refine w5 ?_|refine w6 ?_|refine w7 ?_);try refine sq F ?_)| (refine w8 ?_;refine sq F ?_;refine w9 ?_)| ((first|refine hK _ _ (w0 ?_)| (clear hK K;refine hK _ _ (w0 ?_))| (clear hK K;clear hK K;refine hK _ _ (w0 ?_)));clear hK K))))
  ·refine cq F (fun k1=>?_) (fun k1=>?_)<;>(try exact k1.elim)<;>((repeat (first|refine w1 (fun K hK=>?_)|refine w2 ?_|refine w3 ?_| ((first|refine w4 ?_|refine wD ?_|refine w5 ?_|refine w6 ?_|refine w7 ?_);try refine sq F ?_)| (refine w8 ?_;refine sq F ?_;refine w9 ?_)| ((first|refine hK _ _ (w0 ?_)| (clear hK K;refine hK _ _ (w0 ?_))| (clear hK K;clear hK K;refine hK _ _ (w0 ?_)));clear hK K))))
   ·simp only[R8,and_true]at k1;obtain⟨rfl,rfl⟩:=k1;refine(fB G (c::t) 16 6 (by omega) (by omega) (by omega) hs1 _).mono ?_;rintro r h' ⟨rfl,rfl⟩;(try refine sq F ?_);(repeat (first|refine w1 (fun K hK=>?_)|refine w2 ?_|refine w3 ?_| ((first|refine w4 ?_|refine wD ?_|refine w5 ?_|refine w6 ?_|refine w7 ?_);try refine sq F ?_)| (refine w8 ?_;refine sq F ?_;refine w9 ?_)| ((first|refine hK _ _ (w0 ?_)| (clear hK K;refine hK _ _ (w0 ?_))| (clear hK K;clear hK K;refine hK _ _ (w0 ?_)));clear hK K)))
    refine tail _ (numF (c::t) 16 6) ?_ (nle _).1 (nle _).2 ?_
    ·exact zq F
    ·rw[G3 (by rfl)]
   ·have hne:(a==35&&b==120)=false:=by
     cases hq:(a==35&&b==120)with
     |false=>rfl
     |true=>
      simp at hq;exact absurd (by rw[hq.1,hq.2]) k1
    rw[hne,G0 (by simp)]at tail;refine cq F (fun k2=>?_) (fun k2=>?_)<;>(try exact k2.elim)<;>((repeat (first|refine w1 (fun K hK=>?_)|refine w2 ?_|refine w3 ?_| ((first|refine w4 ?_|refine wD ?_|refine w5 ?_|refine w6 ?_|refine w7 ?_);try refine sq F ?_)| (refine w8 ?_;refine sq F ?_;refine w9 ?_)| ((first|refine hK _ _ (w0 ?_)| (clear hK K;refine hK _ _ (w0 ?_))| (clear hK K;clear hK K;refine hK _ _ (w0 ?_)));clear hK K))))
    ·have ha:a=35:=N1.1 (by have:(a.toNat:Int)=((35:UInt8).toNat:Int):=k2;omega);subst ha;refine(fB G (b::c::t) 10 7 (by omega) (by omega) (by omega) hs2 _).mono ?_;rintro r h' ⟨rfl,rfl⟩;(try refine sq F ?_);(repeat (first|refine w1 (fun K hK=>?_)|refine w2 ?_|refine w3 ?_| ((first|refine w4 ?_|refine wD ?_|refine w5 ?_|refine w6 ?_|refine w7 ?_);try refine sq F ?_)| (refine w8 ?_;refine sq F ?_;refine w9 ?_)| ((first|refine hK _ _ (w0 ?_)| (clear hK K;refine hK _ _ (w0 ?_))| (clear hK K;clear hK K;refine hK _ _ (w0 ?_)));clear hK K)))
     refine tail _ (numF (b::c::t) 10 7) ?_ (nle10 _).1 (nle10 _).2 ?_
     ·exact zq F
     ·rw[G3 (by rfl)]
    ·have ha:a≠35:=fun e=>k2 (by rw[e];rfl)
     refine tail _ (-1) ?_ (by omega) (by omega) ?_
     ·exact zq F
     ·rw[G0 (by simp[ha])]
  ·exfalso;simp at k0
end
section
def rdE(s:Bs):Bs:=readP (s.length+1) s
theorem jb(c:UInt8)(t:Bs)(p:UInt8):Lib.cut (c::t) [p]=if c=p then([],t,true)else if (Lib.cut t [p]).2.2=true then(c::(Lib.cut t [p]).1,(Lib.cut t [p]).2.1,true)else(c::t,[],false):=by
 have hp:([p]:Bs).isPrefixOf (c::t)=(p==c):=by simp[List.isPrefixOf]
 by_cases h:c=p
 ·subst h;rw[G3 rfl];unfold Lib.cut Lib.index;simp
 ·have hpc:(p==c)=false:=by simpa using fun e=>h e.symm
  rw[G0 h];have hi:Lib.index (c::t) [p]=if Lib.index t [p]== -1 then-1 else Lib.index t [p]+1:=by
   rw[Lib.index,hp,hpc];simp
  have hge:=Lib.index_ge t [p];unfold Lib.cut;rw[hi];by_cases h1:Lib.index t [p]= -1
  ·rw[h1];simp
  ·have h2:(Lib.index t [p]== -1)=false:=(by simpa using h1);have h3:0≤Lib.index t [p]:=(by omega);rw[h2];simp only[I7,if_false,G3 h3];rw[G3 (by omega)];simp only[if_true];obtain⟨n,hn⟩:∃n:Nat,Lib.index t [p]=n:=⟨_,(Int.toNat_of_nonneg h3).symm⟩;rw[hn];have e1:((n:Int)+1).toNat=n+1:=(by omega);have e2:(n:Int).toNat=n:=(by omega);rw[e1,e2];simp
theorem qI:∀(n f g:Nat) (s:Bs),s.length≤n→s.length<f→s.length<g→readP f s=readP g s:=by
 intro n;induction n with
 |zero=>
  intro f g s h hf hg;obtain rfl:s=[]:=K5.1 (by omega);obtain⟨f,rfl⟩:∃k,f=k+1:=⟨f-1,by omega⟩;obtain⟨g,rfl⟩:∃k,g=k+1:=⟨g-1,by omega⟩;rw[readP,readP];rfl
 |succ n ih=>
  intro f g s h hf hg;obtain⟨f,rfl⟩:∃k,f=k+1:=⟨f-1,by omega⟩;obtain⟨g,rfl⟩:∃k,g=k+1:=⟨g-1,by omega⟩;rw[readP,readP];by_cases h1:(Lib.cut s [38]).2.2=true
  ·have h2:=bG s [38] h1;simp only[G5,H6]at h2;rw[G3 h1,G3 h1,ih f g (Lib.cut s [38]).2.1 (by omega) (by omega) (by omega)];by_cases h3:(Lib.cut (Lib.cut s [38]).2.1 [59]).2.2=true
   ·have h4:=bG _ [59] h3;simp only[G5,H6]at h4;rw[ih f g (Lib.cut (Lib.cut s [38]).2.1 [59]).2.1 (by omega) (by omega) (by omega)]
   ·have h5:∀b c:Bool,((Lib.cut (Lib.cut s [38]).2.1 [59]).2.2&&b&&c)=false:=fun b c=>by simp[h3]
    rw[h5];simp
  ·rw[G0 h1,G0 h1]
theorem gD(f:Nat)(s:Bs):readP (f+1) s=
  if (Lib.cut s [38]).2.2=true then
   if ((Lib.cut (Lib.cut s [38]).2.1 [59]).2.2&&decide ((Lib.cut (Lib.cut s [38]).2.1 [59]).1.length≤10)&&(signF (Lib.cut (Lib.cut s [38]).2.1 [59]).1).2)=true
   then(Lib.cut s [38]).1++(enc (signF (Lib.cut (Lib.cut s [38]).2.1 [59]).1).1++readP f (Lib.cut (Lib.cut s [38]).2.1 [59]).2.1)
   else(Lib.cut s [38]).1++(38::readP f (Lib.cut s [38]).2.1)
  else(Lib.cut s [38]).1:=rfl
theorem wj:rdE []=[]:=rfl
theorem ng(f:Nat)(s:Bs)(h:s.length<f):readP f s=rdE s:=qI s.length f _ s (H5 _) h (by omega)
theorem uY(c:UInt8)(t:Bs)(h:c≠38):rdE (c::t)=c::rdE t:=by
 have e1:rdE t=readP (t.length+2) t:=(ng _ _ (by omega)).symm;rw[e1];show readP (t.length+2) (c::t)=_;rw[gD (t.length+1) (c::t),gD (t.length+1) t,jb,G0 h];by_cases h1:(Lib.cut t [38]).2.2=true
 ·rw[G3 h1,G3 rfl,G3 h1];simp only[];split<;>simp
 ·rw[G0 h1,G0 (by simp),G0 h1];rw[jH t [38] (by simpa using h1)]
theorem wl(t:Bs):rdE (38::t)=if ((Lib.cut t [59]).2.2&&decide ((Lib.cut t [59]).1.length≤10)&&(signF (Lib.cut t [59]).1).2)=true then enc (signF (Lib.cut t [59]).1).1++rdE (Lib.cut t [59]).2.1 else 38::rdE t:=by
 show readP (t.length+2) (38::t)=_;rw[gD (t.length+1),jb,G3 rfl,G3 rfl];simp only[];by_cases h:((Lib.cut t [59]).2.2&&decide ((Lib.cut t [59]).1.length≤10)&&(signF (Lib.cut t [59]).1).2)=true
 ·rw[G3 h,G3 h];simp only[G2]at h;have:=bG t [59] h.1.1;rw[ng _ _ (by simp at this;omega)];rfl
 ·rw[G0 h,G0 h,ng _ _ (by omega)];rfl
theorem nh(s:Bs)(base:Int)(most:Nat)(h:0≤numF s base most):s.length≤most:=by
 unfold numF at h;split at h
 ·omega
 ·omega
theorem sign_len(n:Bs)(h:(signF n).2=true):n.length≤9:=by
 unfold signF at h;by_cases c1:n=[97,109,112]
 ·subst c1;decide
 rw[G0 c1]at h;by_cases c2:n=[108,116]
 ·subst c2;decide
 rw[G0 c2]at h;by_cases c3:n=[103,116]
 ·subst c3;decide
 rw[G0 c3]at h;by_cases c4:n=[113,117,111,116]
 ·subst c4;decide
 rw[G0 c4]at h;by_cases c5:n=[97,112,111,115]
 ·subst c5;decide
 rw[G0 c5]at h;have key:∀m:Int,(if m<0 then((0:Int),false)else if rightF m=true then(m,true)else(65533,true)).2=true→0≤m:=fun m hm=>by
  by_cases h0:m<0
  ·rw[G3 h0]at hm;cases hm
  ·omega
 have h0:=key _ h;by_cases hx:Lib.hasPrefix n [35,120]=true
 ·rw[G3 hx]at h0;have:=nh _ _ _ h0;simp at this;omega
 ·rw[G0 hx]at h0;by_cases hy:Lib.hasPrefix n [35]=true
  ·rw[G3 hy]at h0;have:=nh _ _ _ h0;simp at this;omega
  ·rw[G0 hy]at h0;omega
theorem sP(t:Bs)(p:UInt8)(m:Nat)(h1:∀i,i<m→∀c,t[i]? =some c→c≠p)(h2:t[m]? =some p):Lib.cut t [p]=(t.take m,t.drop (m+1),true):=by
 induction t generalizing m with
 |nil=>simp at h2
 |cons c t ih=>
  rw[jb];cases m with
  |zero=>
   simp at h2;subst h2;rw[G3 rfl];rfl
  |succ m=>
   have hc:c≠p:=h1 0 (by omega) c rfl;rw[G0 hc,ih m (fun i hi d hd=>h1 (i+1) (by omega) d (by simpa using hd)) (by simpa using h2),G3 rfl];rfl
theorem jc(t:Bs)(p:UInt8)(m:Nat)(h1:∀i,i<m→∀c,t[i]? =some c→c≠p)(h2:(Lib.cut t [p]).2.2=true):m≤(Lib.cut t [p]).1.length:=by
 obtain⟨h3,h4⟩:=oQ t [p] h2;refine Nat.le_of_not_lt fun hlt=>?_
 have key:∀(a b:Bs),t=a++[p]++b→t[a.length]? =some p:=fun a b e=>by rw[e];simp
 have:=key _ _ h3;exact h1 _ hlt p this rfl
end
section
attribute [local irreducible] WP WPl WPix Sat
variable {G:Nat→Option (List AVal)}
theorem de(s:Bs)(hs:s.length≤1048576)(h:Heap):Sat (CT G) 181 [.str s] h (fun x h'=>x=.str (rdE s)∧h'=h):=by
 refine sb [.tmp 2] Tryz.func181 ?_;intro Q hQ;refine wk trivial ?_;refine lm (fun nL tL hL=>∃(i v:Nat) (acc:Bs),s.length-i=nL∧h++[.row 5 1 v (acc.map bytA)]=hL∧tL 3=.hs h.length v 0 acc.length true∧tL 4=.int .i64 i∧i≤s.length∧acc++rdE (s.drop i)=rdE s∧acc.length≤4*i) ((fun(i v:Nat) (acc:Bs)=>(s.length-i:Nat)) (0) (0) ([])) ?_ ?_
 ·refine⟨_,_,V4 3 5 1 (by simp) (by omega) (by exact zq trivial),⟨0,0,[],rfl,ar,?_,?_,?_,?_,?_⟩⟩;all_goals try exact zZz trivial
 rintro _ s2 h' ⟨i,v,acc,rfl,rfl,e3,e4,hi,hp,hz⟩ K2 hK2;simp only[ai,ak,Nat.reduceEqDiff, ↓reduceIte]at e3 e4;have F:=F2 e3 e4;refine wk F ?_;refine cq F (fun hc=>?_) (fun hc=>?_)<;>(try exact hc.elim)
 ·obtain⟨y,hy,hym⟩:=ae hc;have hd:=aF hy;rw[hd]at hp;have F:=F2 F hy;refine wk F ?_;refine lm (fun nL tL hL=>∃(m:Nat),12-m=nL∧h++[.row 5 1 v (acc.map bytA)]=hL∧tL 5=.int .i64 (i+1+m:Nat)∧m≤11∧i+1+m≤s.length∧(∀j,j<m→∀c,(s.drop (i+1))[j]? =some c→c≠59)∧(y≠38→m=0)) ((fun(m:Nat)=>(12-m:Nat)) (0)) ?_ ?_
  ·refine G9 ⟨0,rfl,ar,?_,by omega,by omega,fun j hj=>by omega,fun _=>rfl⟩;all_goals try exact zZz F
  rintro _ s3 h' ⟨m,rfl,rfl,e5,hm,hk,h59,h0⟩ K3 hK3;simp only[ai,ak,Nat.reduceEqDiff, ↓reduceIte]at e5;have F:=F2 F e5;by_cases hy8:y=38
  ·have b8:((y.toNat:Int)==38)=true:=(by rw[hy8];rfl);have hamp:=wl (s.drop (i+1));rw[hy8]at hp;have F:=F2 F b8;refine wk F ?_;(first|refine gq F (fun g1=>?_) (fun g1=>?_)|refine pq F (fun g1=>?_) (fun g1=>?_))<;>(try exact g1.elim)<;>(try refine sq F ?_)<;>(refine wk F ?_)
   ·obtain⟨z,hz9,hzm⟩:=ae g1;have hzd:(s.drop (i+1))[m]? =some z:=(by rw[K8,show i+1+m=i+(1+m) by omega];exact hz9);have F:=F2 F hz9;by_cases hz59:z=59
    ·have z8:((z.toNat:Int)==59)=true:=(by rw[hz59];rfl);have z9:((z.toNat:Int) !=59)=false:=(by rw[hz59];rfl);have hcut:=sP _ _ m h59 (by rw[hzd,hz59]);have hsl:((s.take (i+(1+m))).drop (i+1))=(s.drop (i+1)).take m:=by
      rw[P8];congr 1;omega
     rw[hcut]at hamp;simp only[Q0]at hamp;have F:=F3 F z8 z9;(try refine sq F ?_);refine wk F ?_;(first|refine gq F (fun g2=>?_) (fun g2=>?_)|refine pq F (fun g2=>?_) (fun g2=>?_))<;>(try exact g2.elim)<;>(try refine sq F ?_)<;>(refine wk F ?_)
     ·rw[hsl];have hml:((s.drop (i+1)).take m).length=m:=(by rw[I2,J7];omega);refine kq F (sO ((s.drop (i+1)).take m) (by omega) _) ?_;refine cq F (fun g3=>?_) (fun g3=>?_)<;>(try exact g3.elim)<;>(refine wk F ?_)
      ·have hsl9:=sign_len _ g3;have hro:=ll _ g3;rw[hml]at hsl9;have hyes:rdE (38::s.drop (i+1))=enc (signF ((s.drop (i+1)).take m)).1++rdE ((s.drop (i+1)).drop (m+1)):=by
        rw[hamp,G3 (by rw[hml];simp[g3];omega)]
       rw[hyes,O3]at hp;generalize (signF ((s.drop (i+1)).take m)).1=r at hp hro ⊢;have hput:=oU G [r] (by intro q hq;simp at hq;subst hq;exact hro) (by simp) (h++[.row 5 1 v (acc.map bytA)]);have hen:=cZ r;have hfm:[r].flatMap enc=enc r:=(by simp);rw[hfm]at hput
       change Sat _ _ [.sl 1 [.int .i32 r]] _ _ at hput
       refine kq F (hput) ?_;refine aq F ?_;(try refine sq F ?_);refine wk F ?_;refine hK2 _ _ _ (G9 ⟨i+(1+m)+1,v+1,acc++enc r,rfl,by simp[bytA],?_,?_,by omega,by rw[← hp,show i+(1+m)+1=i+1+(m+1) by omega];simp,by simp;omega⟩) (by omega);all_goals try exact zZz F
      ·have hno:rdE (38::s.drop (i+1))=38::rdE (s.drop (i+1)):=by
        rw[hamp,G0 (by simp[g3])]
       rw[hno]at hp;refine aq F ?_;(try refine sq F ?_);refine wk F ?_;refine hK2 _ _ _ (G9 ⟨i+1,v+1,acc++[y],rfl,ar,?_,?_,by omega,by rw[← hp,hy8];simp,by simp;omega⟩) (by omega);all_goals try exact zZz F
     ·exfalso;omega
    ·have z8:((z.toNat:Int)==59)=false:=by
      have:¬(z.toNat:Int)=59:=fun e=>hz59 (N1.1 (by have:(z.toNat:Int)=((59:UInt8).toNat:Int):=e;omega))
      simpa using this
     have z9:((z.toNat:Int) !=59)=true:=(by rw[bne,z8];rfl);have h59':∀j,j<m+1→∀c,(s.drop (i+1))[j]? =some c→c≠59:=fun j hj c hcj=>by
      rcases N9 j m with h1|h1
      ·exact h59 j h1 c hcj
      ·obtain rfl:j=m:=by omega
       rw[hzd]at hcj;cases hcj;exact hz59
     have F:=F3 F z8 z9;(try refine sq F ?_);refine wk F ?_;refine cq F (fun g3=>?_) (fun g3=>?_)<;>(try exact g3.elim)<;>(refine wk F ?_)
     ·refine hK3 _ _ _ (G9 ⟨m+1,rfl,ar,?_,by omega,by omega,h59',fun hh=>absurd hy8 hh⟩) (by omega);all_goals try exact zZz F
     ·have hno:rdE (38::s.drop (i+1))=38::rdE (s.drop (i+1)):=by
       rw[hamp,G0];intro hcc;simp only[G2,H2]at hcc;have k1:=jc _ _ (m+1) h59' hcc.1.1;omega
      rw[hno]at hp;(first|refine gq F (fun g2=>?_) (fun g2=>?_)|refine pq F (fun g2=>?_) (fun g2=>?_))<;>(try exact g2.elim)<;>(try refine sq F ?_)<;>(refine wk F ?_)
      ·refine aq F ?_;(try refine sq F ?_);refine wk F ?_;refine hK2 _ _ _ (G9 ⟨i+1,v+1,acc++[y],rfl,ar,?_,?_,by omega,by rw[← hp,hy8];simp,by simp;omega⟩) (by omega);all_goals try exact zZz F
      ·exfalso;omega
   ·have hno:rdE (38::s.drop (i+1))=38::rdE (s.drop (i+1)):=by
     rw[hamp,G0];intro hcc;simp only[G2]at hcc;have k1:=jc _ _ m h59 hcc.1.1;have k2:=bG _ _ hcc.1.1;rw[J7]at k2;simp only[G5,H6]at k2;omega
    rw[hno]at hp;have g1':(decide (i+(1+m)<s.length))=false:=(by simpa using g1);have F:=F2 F g1';(first|refine gq F (fun g2=>?_) (fun g2=>?_)|refine pq F (fun g2=>?_) (fun g2=>?_))<;>(try exact g2.elim)<;>(try refine sq F ?_)<;>(refine wk F ?_)
    ·exact absurd g2 (by simp)
    refine aq F ?_;(try refine sq F ?_);refine wk F ?_;refine hK2 _ _ _ (G9 ⟨i+1,v+1,acc++[y],rfl,ar,?_,?_,by omega,by rw[← hp,hy8];simp,by simp;omega⟩) (by omega);all_goals try exact zZz F
  ·have b8:((y.toNat:Int)==38)=false:=by
    have:¬(y.toNat:Int)=38:=fun e=>hy8 (N1.1 (by have:(y.toNat:Int)=((38:UInt8).toNat:Int):=e;omega))
    simpa using this
   have hpl:=uY y (s.drop (i+1)) hy8;rw[hpl]at hp;have F:=F2 F b8;refine wk F ?_;refine aq F ?_;(try refine sq F ?_);refine wk F ?_;refine hK2 _ _ _ (G9 ⟨i+1,v+1,acc++[y],rfl,ar,?_,?_,by omega,by rw[← hp];simp,by simp;omega⟩) (by omega);all_goals try exact zZz F
 ·rw[aY hc,wj,J3]at hp;have hb:=gd acc;have hel:elemsOf (h++[.row 5 1 v (acc.map bytA)]) 1 (.hs h.length v 0 acc.length true)=some (acc.map bytA):=by
   simp[elemsOf,getRow,H9]
  have F:=F4 F hb hel @iT;refine wk F ?_;refine ee hQ F ?_;rw[← hp];exact V3 (j:=_) rfl (.str _) ⟨rfl,rfl⟩
end
section
attribute [local irreducible] WP WPl WPix Sat
variable {G:Nat→Option (List AVal)}
theorem zU(G:Nat→Option (List AVal)):(CT G).P.follows .mixedOrders=true:=by kernel_rfl
theorem ed{C:Ctx}{ops:Array Oper}{T:TypeId}{x y:Operand}{ty:TypeId}{pos:String}{aft:Array Edge}{dst:Option Tmp}{t:Env}{h:Heap}{K:AVal→Heap→Prop}:
  wpOperV C ops ⟨dst,.store T x y,ty,pos,aft,none⟩ t h K=storeK C T (aev C.G t x) (aev C.G t y) h (fun h'=>K undefA h'):=rfl
theorem gE(w s:Bs)(b:Bool):(Lib.index s w<0∧uptoF w s b=([],s,true))∨∃m:Nat,Lib.index s w=m∧m+w.length≤s.length∧uptoF w s b=(s.take m,s.drop (m+w.length),b):=by
 unfold uptoF Lib.cut;by_cases h0:0≤Lib.index s w
 ·right;have hr:=Lib.index_room s w h0;rcases Lib.index_spec s w with⟨e,_⟩| ⟨i,e,hi,ho,_⟩
  ·omega
  ·refine⟨i,e,by omega,?_⟩;rw[G3 h0,e];rfl
 ·left;rw[G0 h0];exact⟨by omega,rfl⟩
theorem og(s w:Bs):Lib.contains s w=decide (0≤Lib.index s w):=rfl
theorem ni(c:UInt8)(t:Bs)(hc:c=34∨c=39):valueF (c::t) false=(rdE (uptoF [c] t false).1,(uptoF [c] t false).2.1,(uptoF [c] t false).2.2||Lib.contains (uptoF [c] t false).1 [60]):=by
 have h34:Lib.hasPrefix (c::t) [34]=(c==34):=by simp[Lib.hasPrefix,List.isPrefixOf,Bool.beq_comm,eq_comm]
 have h39:Lib.hasPrefix (c::t) [39]=(c==39):=by simp[Lib.hasPrefix,List.isPrefixOf,Bool.beq_comm,eq_comm]
 rcases hc with rfl|rfl
 ·unfold valueF;simp only[h34];simp[Lib.trimPrefix,Lib.hasPrefix,List.isPrefixOf,rdE]
 ·unfold valueF;simp only[h34];simp[Lib.trimPrefix,Lib.hasPrefix,List.isPrefixOf,rdE]
theorem lF(s:Bs)(h1:Lib.hasPrefix s [34]=false)(h2:Lib.hasPrefix s [39]=false):(valueF s false).2.2=true:=by
 unfold valueF;simp only[h1,I7,if_false,h2,R4,T6,rZ,L0]
theorem sQ(s:Bs)(h:badN (nameW s)=true):(attrX s false).2.2=true:=by
 cases hq:(attrX s false).2.2 with
 |true=>rfl
 |false=>rw[gy s hq]at h;cases h
theorem uZ(s:Bs)(h:badN (nameW s)=false):attrX s false=if Lib.hasPrefix ((nameR s).dropWhile blankB) [61]=false then((nameW s,[]),(Lib.trimPrefix ((nameR s).dropWhile blankB) [61]).dropWhile blankB,true)
  else((nameW s,(valueF ((Lib.trimPrefix ((nameR s).dropWhile blankB) [61]).dropWhile blankB) false).1),(valueF ((Lib.trimPrefix ((nameR s).dropWhile blankB) [61]).dropWhile blankB) false).2):=by
 unfold attrX;simp only[h];cases hq:Lib.hasPrefix ((nameR s).dropWhile blankB) [61]<;>simp
theorem jd(n:Bs)(h:badN n=false):n≠ []:=by rintro rfl;cases h
theorem sR(hG:GOk G)(hC:GClo (CT G))(s:Bs)(hs:s.length≤1048576)(h:Heap):Sat (CT G) 238 [.str s] h
  (fun r h'=>∃(a:At) (rest:Bs),r=.tup [a.av,.str rest,.bool (!(attrX s false).2.2)]∧((attrX s false).2.2=false→a=(attrX s false).1∧rest=(attrX s false).2.1)∧h'=h):=by
 have bad:∀j:Heap,(attrX s false).2.2=true→Fin h (h++j) (fun r h'=>∃(a:At) (rest:Bs),r=.tup [a.av,.str rest,.bool (!(attrX s false).2.2)]∧((attrX s false).2.2=false→a=(attrX s false).1∧rest=(attrX s false).2.1)∧h'=h)
   (.tup [.agg [.str [],.str []],.str [],.bool false]):=fun j e=>by
  refine H3 (.tup _ (by intro c hc;simp at hc;rcases hc with rfl|rfl|rfl;exact At.clo _ ([],[]);exact .str _;exact .bool _)) ⟨([],[]),[],by rw[e];rfl,(fun e2=>by rw[e]at e2;cases e2),rfl⟩
 have h1:(nameR s).length≤s.length:=aC _ _;have h2:=aC blankB (nameR s);have hn:=i7 hG hC s (by omega);cases hb:badN (nameW s)with
 |true=>
  have e:nmR s=([],s):=by unfold nmR;rw[G3 hb]
  have h3:=aC blankB s;have he:(([]:Bs)==[])=true:=rfl;rw[e]at hn;have F:=he;refine sb [.cell 2 228,.tmp 3,.tmp 4] Tryz.func238 ?_;intro Q hQ;refine wk F ?_;refine kq F (hn _) ?_;refine kq F (cm hG hC s (by omega) _) ?_;refine ye hQ F ?_;exact bad _ (sQ s hb)
 |false=>
  have e:nmR s=(nameW s,nameR s):=by unfold nmR;rw[G0 (by simp[hb])]
  have hne:(nameW s==[])=false:=by simpa using jd _ hb
  have hx:=uZ s hb;have h3:=aL ((nameR s).dropWhile blankB) [61];have h4:=aC blankB (Lib.trimPrefix ((nameR s).dropWhile blankB) [61]);rw[e]at hn;have F:=hne;refine sb [.cell 2 228,.tmp 3,.tmp 4] Tryz.func238 ?_;intro Q hQ;refine wk F ?_;refine kq F (hn _) ?_;refine kq F (cm hG hC (nameR s) (by omega) _) ?_;refine kq F (aO ((nameR s).dropWhile blankB) [61] _) ?_;generalize (nameR s).dropWhile blankB=s2 at hx h2 h3 h4 ⊢;refine cq F (fun c1=>?_) (fun c1=>?_)<;>(try exact c1.elim)<;>(refine wk F ?_)
  ·rw[G3 c1]at hx;refine ye hQ F ?_;exact bad _ (by rw[hx])
  ·rw[G0 (by simp[c1])]at hx;have h5:s2.drop 1=Lib.trimPrefix s2 [61]:=(by unfold Lib.trimPrefix;rw[G3 c1];rfl);have h6:(1:Int)≤s2.length:=(by have:=bp s2 [61] c1;simp at this;omega);have F:=F2 F h6;(try refine sq F ?_);refine wk F ?_;rw[h5];refine kq F (cm hG hC (Lib.trimPrefix s2 [61]) (by omega) _) ?_;generalize (Lib.trimPrefix s2 [61]).dropWhile blankB=s4 at hx h4 ⊢;cases s4 with
   |nil=>
    (try refine sq F ?_);refine wk F ?_;refine ye hQ F ?_;exact bad _ (by rw[hx];exact lF [] rfl rfl)
   |cons c t=>
    have hl:(((t.length+1:Nat):Int)==0)=false:=(by simp;omega);have h00:(c::t)[0]? =some c:=rfl;have ht:t.length≤1048576:=(by simp at h4;omega);have F:=F3 F hl h00;by_cases q4:c=34
    ·subst q4;have n4:((UInt8.toNat 34:Int) !=34)=false:=rfl;have hq:=ni 34 t (.inl rfl);have F:=F2 F n4;(try refine sq F ?_);refine wk F ?_;refine aa (cB t [34] (by omega) (by simp) _) ?_;(try refine sq F ?_);refine wk F ?_;rcases gE [34] t false with⟨g1,g2⟩| ⟨m,g1,g2,g3⟩
     ·have b1:decide (Lib.index t [34]<0)=true:=(by simpa using g1);have F:=F2 F b1;(try refine sq F ?_);refine wk F ?_;refine ye hQ F ?_;exact bad _ (by rw[hx,hq,g2];rfl)
     ·rw[g1];have b1:decide ((m:Int)<0)=false:=(by simp);simp only[G5,H6]at g2;have F:=F2 F b1;(try refine sq F ?_);refine wk F ?_;have e1:(1+(m:Int)).toNat=m+1:=(by omega);have e2:List.drop 1 (List.take (m+1) (34::t))=t.take m:=rfl;have e3:(2+(m:Int)).toNat=m+1+1:=(by omega);have e4:List.drop (m+1+1) (34::t)=t.drop (m+1):=rfl;have hl5:(t.take m).length=m:=(by rw[I2];omega);rw[g3]at hq;rw[e1,e2];refine kq F (cB (t.take m) [60] (by omega) (by simp) _) ?_;cases hct:Lib.contains (t.take m) [60]with
      |true=>
       have b2:decide (0≤Lib.index (t.take m) [60])=true:=hct;have F:=F2 F b2;refine wk F ?_;refine ye hQ F ?_;exact bad _ (by rw[hx,hq];simp[hct])
      |false=>
       have b2:decide (0≤Lib.index (t.take m) [60])=false:=hct;have F:=F6 F b2 e1 e2 e3 e4;refine wk F ?_;refine aG 11 11 _ (by rfl) (by decide+kernel) (by kernel_rfl) (by decide+kernel) (by decide+kernel) (by decide+kernel) ?_;simp only[H8,J1];refine sq F ?_;refine wk F ?_;refine aa (de (t.take m) (by omega) _) ?_;(try refine sq F ?_);refine wk F ?_
       (try rw[ed];simp(disch:=first|omega| (simp only[go_sem, ↓reduceIte,seval];first|done|omega)|fail) only[go_sem, ↓reduceIte,seval,F])
       refine⟨⟨_,de (t.take m) (by omega) _,?_⟩,?_⟩
       ·exact zq F
       refine wk F ?_;refine ye hQ F ?_;refine H3 (.tup _ (by intro c hc;simp at hc;rcases hc with rfl|rfl|rfl;exact At.clo _ (_,_);exact .str _;exact .bool _)) ⟨(nameW s,rdE (t.take m)),t.drop (m+1),by rw[hx,hq];simp[hct,At.av],(fun _=>by rw[hx,hq];exact⟨rfl,rfl⟩),rfl⟩
    ·by_cases q9:c=39
     ·subst q9;have n4:((UInt8.toNat 39:Int) !=34)=true:=rfl;have n9:((UInt8.toNat 39:Int) !=39)=false:=rfl;have hq:=ni 39 t (.inr rfl);have F:=F3 F n4 n9;(try refine sq F ?_);refine wk F ?_;refine aa (cB t [39] (by omega) (by simp) _) ?_;(try refine sq F ?_);refine wk F ?_;rcases gE [39] t false with⟨g1,g2⟩| ⟨m,g1,g2,g3⟩
      ·have b1:decide (Lib.index t [39]<0)=true:=(by simpa using g1);have F:=F2 F b1;(try refine sq F ?_);refine wk F ?_;refine ye hQ F ?_;exact bad _ (by rw[hx,hq,g2];rfl)
      ·rw[g1];have b1:decide ((m:Int)<0)=false:=(by simp);simp only[G5,H6]at g2;have F:=F2 F b1;(try refine sq F ?_);refine wk F ?_;have e1:(1+(m:Int)).toNat=m+1:=(by omega);have e2:List.drop 1 (List.take (m+1) (39::t))=t.take m:=rfl;have e3:(2+(m:Int)).toNat=m+1+1:=(by omega);have e4:List.drop (m+1+1) (39::t)=t.drop (m+1):=rfl;have hl5:(t.take m).length=m:=(by rw[I2];omega);rw[g3]at hq;rw[e1,e2];refine kq F (cB (t.take m) [60] (by omega) (by simp) _) ?_;cases hct:Lib.contains (t.take m) [60]with
       |true=>
        have b2:decide (0≤Lib.index (t.take m) [60])=true:=hct;have F:=F2 F b2;refine wk F ?_;refine ye hQ F ?_;exact bad _ (by rw[hx,hq];simp[hct])
       |false=>
        have b2:decide (0≤Lib.index (t.take m) [60])=false:=hct;have F:=F6 F b2 e1 e2 e3 e4;refine wk F ?_;refine aG 11 11 _ (by rfl) (by decide+kernel) (by kernel_rfl) (by decide+kernel) (by decide+kernel) (by decide+kernel) ?_;simp only[H8,J1];refine sq F ?_;refine wk F ?_;refine aa (de (t.take m) (by omega) _) ?_;(try refine sq F ?_);refine wk F ?_
        (try rw[ed];simp(disch:=first|omega| (simp only[go_sem, ↓reduceIte,seval];first|done|omega)|fail) only[go_sem, ↓reduceIte,seval,F])
        refine⟨⟨_,de (t.take m) (by omega) _,?_⟩,?_⟩
        ·exact zq F
        refine wk F ?_;refine ye hQ F ?_;refine H3 (.tup _ (by intro c hc;simp at hc;rcases hc with rfl|rfl|rfl;exact At.clo _ (_,_);exact .str _;exact .bool _)) ⟨(nameW s,rdE (t.take m)),t.drop (m+1),by rw[hx,hq];simp[hct,At.av],(fun _=>by rw[hx,hq];exact⟨rfl,rfl⟩),rfl⟩
     ·have n4:((c.toNat:Int) !=34)=true:=(by have:¬(c.toNat:Int)=34:=fun e=>q4 (N1.1 (by have:(c.toNat:Int)=((34:UInt8).toNat:Int):=e;omega));simpa using this);have n9:((c.toNat:Int) !=39)=true:=(by have:¬(c.toNat:Int)=39:=fun e=>q9 (N1.1 (by have:(c.toNat:Int)=((39:UInt8).toNat:Int):=e;omega));simpa using this);have F:=F3 F n4 n9;(try refine sq F ?_);refine wk F ?_;refine ye hQ F ?_;exact bad _ (by rw[hx];exact lF (c::t) (by simpa [Lib.hasPrefix,List.isPrefixOf]using fun e=>q4 e.symm) (by simpa [Lib.hasPrefix,List.isPrefixOf]using fun e=>q9 e.symm))
end
section
attribute [local irreducible] WP WPl WPix Sat
variable {G:Nat→Option (List AVal)}
theorem sS(s a z:Bs)(hs:s.length≤1048576)(ha:a.length≤s.length)(hz:z.length≤100)(h:Heap):Sat (CT G) 183 [.str s,.str a,.str z] h
  (fun r h'=>∃rest:Bs,r=.tup [.str (uptoF z (s.drop a.length) false).1,.str rest,.bool (!(uptoF z (s.drop a.length) false).2.2)]∧((uptoF z (s.drop a.length) false).2.2=false→rest=(uptoF z (s.drop a.length) false).2.1)∧h'=h):=by
 have fin:∀(x rest:Bs) (b:Bool),x=(uptoF z (s.drop a.length) false).1→b=(!(uptoF z (s.drop a.length) false).2.2)→((uptoF z (s.drop a.length) false).2.2=false→rest=(uptoF z (s.drop a.length) false).2.1)→Fin h h (fun r h'=>∃rest:Bs,r=.tup [.str (uptoF z (s.drop a.length) false).1,.str rest,.bool (!(uptoF z (s.drop a.length) false).2.2)]∧((uptoF z (s.drop a.length) false).2.2=false→rest=(uptoF z (s.drop a.length) false).2.1)∧h'=h) (.tup [.str x,.str rest,.bool b]):=fun x rest b e1 e2 e3=>by
  refine V6 (.clo _ (.tup _ (by intro c hc;simp at hc;rcases hc with rfl|rfl|rfl;exact .str _;exact .str _;exact .bool _))) ⟨rest,by rw[← e1, ← e2],e3,rfl⟩
 have hl:(s.drop a.length).length=s.length-a.length:=J7;refine sb [.tmp 6,.tmp 7,.tmp 8] Tryz.func183 ?_;intro Q hQ;refine wk trivial ?_;refine kq trivial (cB (s.drop a.length) z (by omega) (by omega) _) ?_;rcases gE z (s.drop a.length) false with⟨g1,g2⟩| ⟨m,g1,g2,g3⟩
 ·have b1:decide (Lib.index (s.drop a.length) z<0)=true:=by simpa using g1
  have F:=b1;try refine sq F ?_
  refine wk F ?_;refine ye hQ F ?_;exact fin _ _ _ (by rw[g2]) (by rw[g2];rfl) (fun e=>by rw[g2]at e;cases e)
 ·rw[g1];have b1:decide ((m:Int)<0)=false:=by simp
  have e1:((a.length:Int)+(m:Int)).toNat=a.length+m:=by omega
  have e2:((a.length:Int)+(m:Int)+(z.length:Int)).toNat=a.length+m+z.length:=by omega
  have e3:List.drop a.length (List.take (a.length+m) s)=(s.drop a.length).take m:=by rw[P8];congr 1;omega
  have e4:List.drop (a.length+(m+z.length)) s=(s.drop a.length).drop (m+z.length):=by rw[O3]
  have F:=F5 b1 e1 e2 e3 e4;try refine sq F ?_
  refine wk F ?_;refine ye hQ F ?_;exact fin _ _ _ (by rw[g3]) (by rw[g3];rfl) (fun _=>by rw[g3])
end
end Go.Av
