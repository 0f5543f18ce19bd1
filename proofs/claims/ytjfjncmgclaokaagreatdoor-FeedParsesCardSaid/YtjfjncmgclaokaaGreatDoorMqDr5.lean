/- Parts. -/
import Derived.Test.YtjfjncmgclaokaaGreatDoorMqDr2
set_option linter.unusedSimpArgs false
set_option linter.unusedVariables false
set_option linter.unusedSectionVars false
set_option linter.unnecessarySimpa false
set_option maxRecDepth 100000
set_option maxHeartbeats 16000000
namespace Go.Av
open Go Go.Proofs Go.RowKit
attribute [local irreducible] WP WPl WPix Sat
variable (G:Nat→Option (List AVal))
theorem ln(h:Heap)(n:Nat):Frz h n (.agg [.str [],.nil (.slice none 0 0),.str [],.nil (.slice none 0 0)]) (Elem.av ⟨[],[],[],[]⟩):=by
 rw[Elem.av_eq];refine .agg _ _ rfl (by simp[AVal.sto]) fun i c d hc hd=>?_
 match i with
 |0=>simp at hc hd;subst hc;subst hd;exact .clo _ (.str _)
 |1=>simp[Elem.attrs]at hc hd;subst hc;subst hd;exact .nils _
 |2=>simp at hc hd;subst hc;subst hd;exact .clo _ (.str _)
 |3=>simp[Elem.kids]at hc hd;subst hc;subst hd;exact .nils _
 |i+4=>simp at hc
def kidF(e:Elem)(n:Bs):Elem×Bool:=match kidsF e n with| []=>(⟨[],[],[],[]⟩,false)|k::_=>(k,true)
theorem iE(e:Elem)(n:Bs)(hs:e.sz≤1048576)(h:Heap):Sat (CT G) 118 [e.av,.str n] h (fun r h'=>r=.tup [(kidF e n).1.av,.bool (kidF e n).2]∧h'=h):=by
 refine sb [.cell 4 76,.tmp 5] Tryz.func118 ?_;intro Q hQ;refine aj trivial ?_;refine aJ trivial (gu G e n hs _) ?_;refine aH trivial (fun hc=>?_) (fun hc=>?_)<;>(try exact hc.elim)<;>(refine aj trivial ?_)
 ·refine oI hQ trivial ?_;have hk:kidsF e n=[]:=K5.1 (by omega);simp only[kidF,hk];refine P3 ?_ ⟨rfl,rfl⟩;refine .tup _ _ rfl fun i c d hc hd=>?_
  match i with
  |0=>simp at hc hd;subst hc;subst hd;exact ln _ _
  |1=>simp at hc hd;subst hc;subst hd;exact .clo _ (.bool _)
  |i+2=>simp at hc
 ·obtain⟨y,l,hk⟩:∃y l,kidsF e n=y::l:=by
   cases hq:kidsF e n with
   |nil=>rw[hq]at hc;simp at hc
   |cons y l=>exact⟨y,l,rfl⟩
  rw[hk];have h0:(y::l)[0]? =some y:=rfl;have F:=h0;refine aj F ?_;simp only[h0];try refine am F ?_
  refine aj F ?_;refine oI hQ F ?_;simp only[kidF,hk];exact H3 (.tup _ (by intro c hc;simp at hc;rcases hc with rfl|rfl;exact Elem.clo _ _;exact .bool _)) ⟨rfl,rfl⟩
instance tokEq:DecidableEq Tok:=fun a b=>inferInstanceAs (Decidable ((a:Int×List UInt8×List (List UInt8×List UInt8)×List UInt8)=b))
theorem uv(h:Heap)(m:Nat)(k:Int)(n t:Bs):Frz h m (.agg [.int .i64 k,.str n,.nil (.slice none 0 0),.str t]) (Tok.av (k,n,[],t)):=by
 refine .agg _ _ rfl (by intro d hd;simp at hd;rcases hd with rfl|rfl|rfl|rfl<;>rfl) fun i c d hc hd=>?_
 match i with
 |0=>simp at hc hd;subst hc;subst hd;exact .clo _ (.int _ _)
 |1=>simp at hc hd;subst hc;subst hd;exact .clo _ (.str _)
 |2=>simp at hc hd;subst hc;subst hd;exact .nils _
 |3=>simp at hc hd;subst hc;subst hd;exact .clo _ (.str _)
 |i+4=>simp at hc
theorem lq{h0 h1 pre post:Heap}{e v q:Nat}(l:List Tok)(k:Int)(n t:Bs)(hh:h1=pre++ .row e 4 v (l.map Tok.av++[.agg [.int .i64 k,.str n,.nil (.slice none 0 0),.str t]])::post)(hq:q=pre.length)(hp:h0.length≤q):
  Frz h1 h0.length (.hs q v 0 (l.length+1) true) (.sl 4 ((l++[(k,n,[],t)]).map Tok.av)):=by
 subst hh;subst hq;have at_:∀(i:Nat) (r s:AVal),(l.map Tok.av++[AVal.agg [.int .i64 k,.str n,.nil (.slice none 0 0),.str t]])[i]? =some r→((l++[(k,n,[],t)]).map Tok.av)[i]? =some s→
   (∃a,r=Tok.av a∧s=r)∨(r=.agg [.int .i64 k,.str n,.nil (.slice none 0 0),.str t]∧s=Tok.av (k,n,[],t)):=by
  intro i r s hr hs;rw[M9]at hs;rcases O9 i (l.map Tok.av).length with h1|h1|h1
  ·rw[H0 h1]at hr hs;rw[hr]at hs;cases hs;obtain⟨a,_,rfl⟩:=J9.1 (G4 hr);exact .inl ⟨a,rfl,rfl⟩
  ·subst h1;simp only[I3 (H5 _),Nat.sub_self,K4,N6,Q6,I0]at hr hs;exact .inr ⟨hr.symm,hs.symm⟩
  ·rw[I3 (by omega),O4 (by simp at h1 ⊢;omega)]at hr;cases hr
 have:=Frz.hs (h:=pre++ .row e 4 v (l.map Tok.av++[.agg [.int .i64 k,.str n,.nil (.slice none 0 0),.str t]])::post) (n:=h0.length) pre.length v 0 (l.length+1) true e 4 _ ((l++[(k,n,[],t)]).map Tok.av) hp (by simp[getRow];rfl) (by simp) (by simp)
   (fun i r s hr hs=>by rcases at_ i r s hr hs with⟨a,rfl,rfl⟩| ⟨rfl,rfl⟩;exact .clo _ (Tok.clo _ _);exact uv _ _ _ _ _)
   (fun i r s hr hs=>by
    rcases at_ i r s hr hs with⟨a,rfl,rfl⟩| ⟨rfl,rfl⟩
    ·exact⟨rfl,fun j c d _ hd=>Tok.av_sto _ d (G4 hd)⟩
    ·exact⟨rfl,fun j c d _ hd=>Tok.av_sto _ d (G4 hd)⟩)
   (fun i r s j c d hr hs hc hd=>by
    rcases at_ i r s hr hs with⟨a,rfl,rfl⟩| ⟨rfl,rfl⟩
    ·rw[hc]at hd;cases hd;exact .clo _ ((Tok.clo _ _).cells c (G4 hc))
    ·match j with
     |0=>simp[Tok.av,AVal.cells]at hc hd;subst hc;subst hd;exact .clo _ (.int _ _)
     |1=>simp[Tok.av,AVal.cells]at hc hd;subst hc;subst hd;exact .clo _ (.str _)
     |2=>simp[Tok.av,AVal.cells]at hc hd;subst hc;subst hd;exact .nils _
     |3=>simp[Tok.av,AVal.cells]at hc hd;subst hc;subst hd;exact .clo _ (.str _)
     |j+4=>simp[AVal.cells]at hc)
 rw[P2,H9 (by simp)]at this;exact this
end Go.Av
namespace Go.Av
open Go.RowKit
section
variable {C:Ctx} {t:Env} {h:Heap}
theorem qr{ops:Array Oper}{Q:Exit→Env→Heap→Prop}{k:Nat}{c:Nat→Nat→Bool}(D:PreOk ops k c)(md:Region.Mode)(hless:∀(j:Nat) (oj:Oper),ops[j]? =some oj→j<k→∀e∈oj.after,Region.binds md e=true→e.on<j)(hkn:k≤ops.size){V:Nat→AVal}{t0:Env}{h:Heap}{e:Nat}{oe:Oper}(hoe:ops[e]? =some oe)(hek:e<k)(hd:oe.dst=none)
  (hv:∀(i:Nat) (o:Oper),i<k→i≠e→ops[i]? =some o→∀KK:AVal→Heap→Prop,KK (V i) h→wpOperV C ops o (Av.T V (ops.toList.take k) t0 i) h KK)
  (he:wpOperV C ops oe (Av.T V (ops.toList.take k) t0 e) h fun _ h'=>(∀(i:Nat) (o:Oper),i<k→i≠e→ops[i]? =some o→∀KK:AVal→Heap→Prop,KK (V i) h'→wpOperV C ops o (Av.T V (ops.toList.take k) t0 i) h' KK)∧
   RestM C ops Q md (ops.size-k) (listK ops.size k) (Av.T V (ops.toList.take k) t0 k) h'):
  ∀(fuel n:Nat) (L:Array Bool) (s:Env),L.size=ops.size→left ops L=fuel→Closed ops L→(∀j,j<ops.size→L.getD j false=true→j<k)→L.getD e false=false→Ag ops k V t0 (fun j=>L.getD j false) s→
   WPix C ops Q (Region.linearise.go md ops fuel n L []) s h:=by
 intro fuel;induction fuel with
 |zero=>
  intro n L s hs hl cl hlt heun ag;have:=cX hs hl e (by omega);rw[heun]at this;cases this
 |succ fuel ih=>
  intro n L s hs hl cl hlt heun ag;have hne:Region.ready md ops L≠ []:=by
   have hmin:∃i,i<k∧L.getD i false=false∧∀j,j<i→L.getD j false=true:=by
    obtain⟨i,hi,hl⟩:∃i,i<k∧L.getD i false=false:=⟨e,hek,heun⟩;induction i using Nat.strongRecOn with
    |ind i ih=>
     by_cases hall:∀j,j<i→L.getD j false=true
     ·exact⟨i,hi,hl,hall⟩
     ·have:∃j,j<i∧L.getD j false=false:=J8 fun hno=>hall fun j hj=>by
       cases hlj:L.getD j false with
       |true=>rfl
       |false=>exact absurd ⟨j,hj,hlj⟩ hno
      obtain⟨j,hj,hlj⟩:=this;exact ih j hj (by omega) hlj
   obtain⟨i,hi,hl,hall⟩:=hmin;have hin:i<ops.size:=(by omega);have h3:i<L.size:=(by omega);intro e;have:i∈Region.ready md ops L:=mem_ready.2 ⟨by simp[h3]at hl ⊢;exact hl,ops[i],I6 hin,fun e he hb=>hall _ (hless i _ (I6 hin) hi e he hb)⟩;rw[e]at this;cases this
  obtain⟨i,hi,hmem⟩:=bI hne n;obtain⟨hun,o,ho,hrd⟩:=mem_ready.1 hmem;have hin:=(J0.1 ho).1;have h3:i<L.size:=by omega
  have hun':L.getD i false=false:=by simp[h3]at hun ⊢;exact hun
  have hrd':∀e∈o.after,Region.binds .any e=true→L.getD e.on false=true:=fun e he hb=>hrd e he (cW hb)
  have hik:i<k:=by
   refine U8 fun hle=>?_
   obtain⟨e1,he1,hb,h1⟩:=D.sfx e i o ho hek hle;have h2:=hrd' e1 he1 hb;have hkl:L.getD e false=true:=by
    rcases h1 with rfl| ⟨h4,h5,h6⟩
    ·exact h2
    ·have hoe:ops[e1.on]? =some ops[e1.on]:=I6 (by omega);exact D.bef cl e1.on _ hoe h4 e h5 h6 fun e' he' hb'=>cl e1.on _ hoe h2 e' he' hb'
   rw[heun]at hkl;cases hkl
  rw[cF md ops fuel n L hi];simp only[WPix,ho];rw[cS];have hsees:=D.sees cl ag ho hik hkn hun' hrd';rw[← aP (t:=Av.T V (ops.toList.take k) t0 i) hsees];have agn:∀v,(v=V i∨o.dst=none)→Ag ops k V t0 (fun j=>(L.setIfInBounds i true).getD j false) (put s o.dst v):=fun v hv1=>by
   have e1:put s o.dst v=put s o.dst (V i):=by
    rcases hv1 with rfl|h1
    ·rfl
    ·rw[h1];rfl
   rw[e1];refine D.ag_put ag ho hik fun j hj=>?_
   by_cases hji:i=j
   ·subst hji;simp[h3]
   ·rw[getD_set_ne false hji];have:(j==i)=false:=by simp;exact fun e=>hji e.symm
    rw[this,Q1]
  have hlt':∀j,j<ops.size→(L.setIfInBounds i true).getD j false=true→j<k:=fun j hj hlj=>by
   by_cases hji:i=j
   ·subst hji;exact hik
   ·rw[getD_set_ne false hji]at hlj;exact hlt j hj hlj
  by_cases hk:i=e
  ·subst hk;rw[hoe]at ho;cases ho;refine bv he fun v h' ⟨hv2,hrest⟩=>?_
   refine cH D md hless hkn (V:=V) (t0:=t0) (h:=h') (fun j=>j≠i) (fun j o hj hok KK hkk=>?_) hrest _ _ _ _ (by simpa using hs) (by have:=ct hs hin hun';omega) (cl.set hoe hrd') hlt' (fun j hj hlj=>?_) (agn v (.inr hd))
   ·have hjk:j<k:=by
     refine U8 fun hle=>?_
     rw[M1,G0 (by omega)]at hj;cases hj
    have hoj:ops[j]? =some o:=by
     rw[M1,G3 hjk]at hj;simpa using hj
    exact hv2 j o hjk hok hoj KK hkk
   ·rintro rfl;simp[h3]at hlj
  ·refine hv i o hik hk ho _ ?_;refine ih _ _ _ (by simpa using hs) (by have:=ct hs hin hun';omega) (cl.set ho hrd') hlt' ?_ (agn _ (.inl rfl));rw[getD_set_ne false hk];exact heun
theorem vy(V:Nat→AVal)(x:Oper)(hx:x.dst=none):∀(l:List Oper) (t:Env) (e i:Nat),(∀o,l[e]? =some o→o.dst=none)→Av.T V (l.set e x) t i=Av.T V l t i
 | [],t,e,i,_=>rfl
 |o::l,t,0,0,_=>rfl
 |o::l,t,0,i+1,h0=>by
  have:=h0 o rfl;simp only[Q5,Av.T,hx,this]
 |o::l,t,e+1,0,_=>rfl
 |o::l,t,e+1,i+1,h0=>by
  simp only[List.set_cons_succ,Av.T];exact vy _ x hx l _ e i fun o h=>h0 o (by simpa using h)
def nopO:Oper:= {dst:=none,op:=.move (.const (.bool false)),type:=0,pos:= "",after:= #[],guard:=none}
def wholeOk(l:List Oper)(e:Nat):Bool:=
 preOkG false l.toArray l.length&&(List.range l.length).all fun i=>(i==e||(l[i]?.any fun o=>o.dst.isSome))&&
  (decide (i≤e)||(l[i]?.any fun o=>l[e]?.any fun oe=>o.dst.any fun d=> !(oe.looksAt l.toArray).contains d))
theorem uJ{id:Nat}{l:List Oper}{Q:Exit→Env→Heap→Prop}(e:Nat)(oe:Oper)(hoe:l[e]? =some oe)(hd:oe.dst=none)(hok:wholeOk l e=true)(hm:C.P.follows .mixedOrders=true)
  (hh:WPp C l.toArray (l.set e nopO) t h fun t'=>wpOperV C l.toArray oe t' h fun _ h'=>
   (WPp C l.toArray (l.set e nopO) t h' fun t''=>agrL (wrOps (l.set e nopO)) t'' t')∧Q .normal t' h'):WP C (.region id l.toArray true) Q t h:=by
 unfold wholeOk at hok;simp only[G2]at hok;obtain⟨hok,hall⟩:=hok;have D:=dH hok;have hall:∀i,i<l.length→(i=e∨∃o d,l[i]? =some o∧o.dst=some d)∧(e<i→∀o,l[i]? =some o→∀d,o.dst=some d→d ∉ oe.looksAt l.toArray):=fun i hi=>by
  have:=I1.1 hall i (L1.2 hi);simp only[G2,L3,beq_iff_eq,H2]at this;refine⟨?_,fun hei o ho d hdd hmem=>by
   rcases this.2 with h1|h1
   ·omega
   ·rw[ho,hoe]at h1;simp[hdd,hmem]at h1⟩
  rcases this.1 with h1|h1
  ·exact .inl h1
  ·have:l[i]? =some (l[i]'hi):=G1 _;rw[this]at h1;obtain⟨d,h2⟩:=J5.1 (show(l[i]'hi).dst.isSome=true from h1);exact .inr ⟨_,d,this,h2⟩
 have hel:=(F1.1 hoe).1;have hset:∀i,i≠e→(l.set e nopO)[i]? =l[i]? :=fun i hi=>by rw[K6 (fun h=>hi h.symm)]
 have hTs:∀(V:Nat→AVal) (i:Nat),Av.T V (l.set e nopO) t i=Av.T V l t i:=fun V i=>vy V nopO rfl l t e i fun o ho=>by rw[hoe]at ho;cases ho;exact hd
 obtain⟨V,hv,hK⟩:=bH _ _ hh;rw[List.length_set,hTs]at hK;have htk:l.toArray.toList.take l.length=l:=by simp
 have see:∀d∈oe.looksAt l.toArray,Av.T V l t l.length d=Av.T V l t e d:=fun d hdd=>by
  have:∀i,e≤i→i≤l.length→Av.T V l t i d=Av.T V l t e d:=fun i=>by
   induction i with
   |zero=>
    intro h1 _;have h9:e=0:=(by omega);rw[h9]
   |succ i ih=>
    intro h1 h2;by_cases hie:e=i+1
    ·rw[hie]
    ·have ho:l[i]? =some (l[i]'(by omega)):=G1 _;rw[cM _ _ _ _ _ ho];by_cases h3:e=i
     ·subst h3;rw[hoe]at ho;rw[← Option.some.inj ho,hd];exact ih (H5 _) (by omega)
     ·have h4:=(hall i (by omega)).2 (by omega) _ ho;cases hdi:(l[i]'(by omega)).dst with
      |none=>exact ih (by omega) (by omega)
      |some d1=>
       have hne:d≠d1:=by
        rintro rfl;exact h4 _ hdi hdd
       have:put (Av.T V l t i) (some d1) (V i) d=Av.T V l t i d:=by simp[put,upd,hne]
       rw[this];exact ih (by omega) (by omega)
  exact this _ (by omega) (H5 _)
 rw[aP see]at hK;have main:∀n,WPix C l.toArray Q (Region.linearise .any l.toArray n) t h:=fun n=>by
  unfold Region.linearise;refine qr D .any D.less (by simp) (V:=V) (t0:=t) (e:=e) (oe:=oe) (by simpa using hoe) hel hd (fun i o hi hie ho=>?_) ?_ _ _ _ _ (by simp) ?_ (fun j oj hj hl=>?_) (fun j hj hl=>?_) (by simp[hel]) (Ag.start _ _ _ _ fun j hj=>?_)
  ·have:=hv i o (by rw[hset i hie];simpa using ho);rw[hTs]at this;rw[htk];exact this
  ·rw[htk];refine bv hK fun v h' ⟨h1,h2⟩=>⟨fun i o hi hie ho=>?_,?_⟩
   ·obtain⟨V2,hv2,hK2⟩:=bH _ _ h1;rw[List.length_set,hTs]at hK2;have hVV:∀j,j<l.length→j≠e→V2 j=V j:=fun j hj hje=>by
     rcases(hall j hj).1 with h3| ⟨o,d,hoj,hdd⟩
     ·exact absurd h3 hje
     ·have e1:=gv hK2 d (iD (by rw[hset j hje];exact hoj) hdd);have a1:=(D.ag_T V2 t (by simp) l.length (H5 _)).1 j o d hj (by simpa using hoj) (by simpa using hj) hdd;have a2:=(D.ag_T V t (by simp) l.length (H5 _)).1 j o d hj (by simpa using hoj) (by simpa using hj) hdd;rw[htk]at a1 a2;rw[← a1, ← a2,e1]
    have hTT:∀i,i≤l.length→Av.T V2 l t i=Av.T V l t i:=fun i=>by
     induction i with
     |zero=>intro _;rw[eU,eU]
     |succ i ih=>
      intro h3;have ho:l[i]? =some (l[i]'(by omega)):=G1 _;rw[cM _ _ _ _ _ ho,cM _ _ _ _ _ ho,ih (by omega)];by_cases hie:i=e
      ·subst hie;rw[hoe]at ho;rw[← Option.some.inj ho,hd];rfl
      ·rw[hVV i (by omega) hie]
    have:=hv2 i o (by rw[hset i hie];simpa using ho);rw[hTs,hTT i (by omega),hVV i hi hie]at this;exact this
   ·have e1:l.toArray.size-l.length=0:=(by simp);rw[e1];exact Rest.nil h2 .any
  ·unfold left;have:(List.range l.toArray.size).filter (fun i=> !(Array.replicate l.toArray.size false).getD i true)=List.range l.toArray.size:=by
    rw[Q3];intro i hi;have:=L1.1 hi;simp at this ⊢;simp[this]
   rw[this,R2]
  ·have h8:=(J0.1 hj).1;simp at h8 hl;simp[h8]at hl
  ·simp at hj hl;simp[hj]at hl
  ·have:j<l.length:=by omega
   simp[this]
 show ∀tp,WPix C l.toArray Q (Region.schedule (C.P.follows .mixedOrders) l.toArray tp) t h;intro tp;unfold Region.schedule;rw[hm];simp only[L0,if_true];exact main _
end
inductive ET where
 |fin
 |one (i:Nat) (m:List Bool) (s:ET)
 |two (i:Nat) (m:List Bool) (s:ET) (j:Nat) (m':List Bool) (u:ET)
def maskL:List Bool→List Oper→List Oper
 |true::m,o::l=>o::maskL m l
 |false::m,_::l=>nopO::maskL m l
 |_,_=>[]
@[go_sem] theorem bX(m:List Bool)(o:Oper)(l:List Oper):maskL (true::m) (o::l)=o::maskL m l:=(rfl)
@[go_sem] theorem bY(m:List Bool)(o:Oper)(l:List Oper):maskL (false::m) (o::l)=nopO::maskL m l:=(rfl)
@[go_sem] theorem bz(l:List Oper):maskL [] l=[]:=by cases l<;>rfl
theorem dc:∀(m:List Bool) (l:List Oper) (i:Nat),(maskL m l)[i]? =match m[i]?,l[i]? with|some true,some o=>some o|some false,some _=>some nopO|_,_=>none
 | [],l,i=>by rw[bz];simp
 |b::m,[],i=>by cases b<;>simp[maskL]
 |true::m,o::l,0=>by simp[maskL]
 |false::m,o::l,0=>by simp[maskL]
 |true::m,o::l,i+1=>by simp only[maskL,Q7];exact dc m l i
 |false::m,o::l,i+1=>by simp only[maskL,Q7];exact dc m l i
theorem i9:∀(m:List Bool) (l:List Oper),m.length≤l.length→(maskL m l).length=m.length
 | [],l,_=>by rw[bz];rfl
 |b::m,[],h=>by simp at h
 |true::m,o::l,h=>by simp only[maskL,G5];rw[i9 m l (by simpa using h)]
 |false::m,o::l,h=>by simp only[maskL,G5];rw[i9 m l (by simpa using h)]
def wrM:List Bool→List Oper→List Nat
 |true::m,o::l=>match o.dst with|some d=>d::wrM m l|none=>wrM m l
 |false::m,_::l=>wrM m l
 |_,_=>[]
@[go_sem] theorem E8(m:List Bool)(o:Oper)(l:List Oper):wrM (true::m) (o::l)=match o.dst with|some d=>d::wrM m l|none=>wrM m l:=(rfl)
@[go_sem] theorem E9(m:List Bool)(o:Oper)(l:List Oper):wrM (false::m) (o::l)=wrM m l:=(rfl)
@[go_sem] theorem zS(l:List Oper):wrM [] l=[]:=by cases l<;>rfl
theorem mV:∀(m:List Bool) (l:List Oper),wrM m l=wrOps (maskL m l)
 | [],l=>by rw[zS,bz];rfl
 |b::m,[]=>by cases b<;>rfl
 |true::m,o::l=>by
  show(match o.dst with|some d=>d::wrM m l|none=>wrM m l)=(match o.dst with|some d=>d::wrOps (maskL m l)|none=>wrOps (maskL m l))
  rw[mV m l]
 |false::m,o::l=>by simp only[wrM,maskL,wrOps,nopO];rw[mV m l]
def freeO(o:Oper):Bool:=match o.op with
 | .move _| .assign _| .pick _ _ _| .extract _ _| .field _ _ _| .build _ _| .unOp _ _ _=>true
 |_=>false
def okI(ops:Array Oper)(b:Array Nat)(k:Nat)(es:List Nat)(i:Nat)(m:List Bool)(X:List Nat):Bool:=
 es.contains i&& !X.contains i&&(es.all fun x=> !(b.getD i 0).testBit x||X.contains x)&&
 ((List.range k).all fun p=>es.contains p||m.getD p false||(decide (p<i)&&(b.getD i 0).testBit p)||(es.any fun x=>X.contains x&&decide (p<x)&&(b.getD x 0).testBit p)||(ops[p]?.any freeO))&&
 ((List.range m.length).all fun p=> !m.getD p false||(decide (p<k)&& !es.contains p))&&decide (m.length≤k)
def okO(b:Array Nat)(es X is:List Nat):Bool:=
 es.all fun x=>X.contains x||is.contains x||es.any fun y=> !X.contains y&&decide (y<x)&&(b.getD x 0).testBit y
def okE(ops:Array Oper)(b:Array Nat)(k:Nat)(es:List Nat):ET→List Nat→Bool
 | .fin,X=>es.all X.contains
 | .one i m s,X=>okI ops b k es i m X&&okO b es X [i]&&okE ops b k es s (i::X)
 | .two i m s j m' u,X=>okI ops b k es i m X&&okI ops b k es j m' X&&okO b es X [i,j]&&okE ops b k es s (i::X)&&okE ops b k es u (j::X)
def chkE(l:List Oper)(k:Nat)(es:List Nat)(m0:List Bool)(tr:ET):Bool:=
 let ops:=l.toArray
 let b:=Region.before ops
 preOkG false ops k&&decide (k≤l.length)&&
 ((List.range k).all fun i=>(List.range k).all fun j=>match ops[i]?,ops[j]? with
  |some oi,some oj=>match oj.dst with
   |some d=> !(oi.looksAt ops).contains d||(decide (j<i)&&(b.getD i 0).testBit j&&(es.contains i|| !es.contains j))
   |none=>true
  |_,_=>true)&&
 ((List.range k).all fun i=>es.contains i||(ops[i]?.any fun o=>o.dst.isSome))&&
 (es.all fun e=>decide (e<k))&&m0==(List.range k).map (fun i=> !es.contains i)&&okE ops b k es tr []
section
variable {C:Ctx} {t:Env} {h:Heap}
def stepE(C:Ctx)(l:List Oper)(t0:Env)(i:Nat)(m:List Bool)(P:Env→Heap→Prop)(tc:Env)(h:Heap):Prop:=
 need (l[i]?) fun o=>wpOperV C l.toArray o tc h fun v h'=>(WPp C l.toArray (maskL m l) t0 h' fun t''=>agrL (wrM m l) t'' t0)∧P (put tc o.dst v) h'
def WPe(C:Ctx)(Q:Exit→Env→Heap→Prop)(l:List Oper)(k:Nat)(t0:Env):ET→Env→Heap→Prop
 | .fin,tc,h=>WPl C l.toArray Q (l.drop k) tc h
 | .one i m s,tc,h=>stepE C l t0 i m (WPe C Q l k t0 s) tc h
 | .two i m s j m' u,tc,h=>stepE C l t0 i m (WPe C Q l k t0 s) tc h∧stepE C l t0 j m' (WPe C Q l k t0 u) tc h
theorem sm{ops:Array Oper}{o:Oper}{s:Env}(hf:freeO o=true){v:AVal}(g:∀KK:AVal→Heap→Prop,KK v h→wpOperV C ops o s h KK)(h':Heap):∀KK:AVal→Heap→Prop,KK v h'→wpOperV C ops o s h' KK:=by
 intro KK hk;have g:=g (fun v' _=>KK v' h') hk;have key:∀K:AVal→Heap→Prop,wpOp C o.op s h (fun v' _=>K v' h')=wpOp C o.op s h' K:=by
  intro K;unfold freeO at hf;cases ho:o.op<;>rw[ho]at hf<;>first| (cases hf;done)|rfl
 unfold wpOperV at g ⊢;cases hg:o.guard with
 |none=>rw[hg]at g;simp only at g ⊢;rw[← key];exact g
 |some q=>
  obtain⟨j,w⟩:=q;rw[hg]at g;simp only at g ⊢;cases hq:guardA ops s j with
  |none=>rw[hq]at g;exact g
  |some b=>rw[hq]at g;simp only at g ⊢;rw[← key];exact g
theorem mX{V:Nat→AVal}(l:List Oper)(t:Env)(hu:∀(i j:Nat) (oi oj:Oper) (d:Nat),l[i]? =some oi→l[j]? =some oj→oi.dst=some d→oj.dst=some d→i=j):
  ∀i,i≤l.length→(∀(j:Nat) (o:Oper) (d:Nat),j<i→l[j]? =some o→o.dst=some d→Av.T V l t i d=V j)∧(∀d,(∀(j:Nat) (o:Oper),j<i→l[j]? =some o→o.dst≠some d)→Av.T V l t i d=t d)
 |0,_=>⟨fun j o d hj=>by omega,fun d _=>by rw[eU]⟩
 |i+1,hi=>by
  obtain⟨h1,h2⟩:=mX l t hu i (by omega);have ho:l[i]? =some (l[i]'(by omega)):=G1 _;rw[cM V l t i _ ho];generalize l[i]=o at ho;refine⟨fun j oj d hj hoj hd=>?_,fun d hn=>?_⟩
  ·by_cases hji:j=i
   ·subst hji;rw[ho]at hoj;cases hoj;simp[put,hd,upd]
   ·have hne:o.dst≠some d:=fun e=>hji (hu j i oj o d hoj ho hd e)
    have:put (Av.T V l t i) o.dst (V i) d=Av.T V l t i d:=by
     cases hdo:o.dst with
     |none=>rfl
     |some x=>simp only[put,upd];rw[G0];intro e;subst e;exact hne hdo
    rw[this];exact h1 j oj d (by omega) hoj hd
  ·have hne:o.dst≠some d:=hn i o (by omega) ho;have:put (Av.T V l t i) o.dst (V i) d=Av.T V l t i d:=by
    cases hdo:o.dst with
    |none=>rfl
    |some x=>simp only[put,upd];rw[G0];intro e;subst e;exact hne hdo
   rw[this];exact h2 d fun j oj hj hoj=>hn j oj (by omega) hoj
theorem Ag.upd'{ops:Array Oper}{k:Nat}{V:Nat→AVal}{t s:Env}{p:Nat→Bool}(g:Ag ops k V t p s){i:Nat}(hp:p i=false)(v:AVal):Ag ops k (fun j=>if j=i then v else V j) t p s:=
 ⟨fun j o x hj ho hpj hd=>by
  have:j≠i:=fun e=>by subst e;rw[hp]at hpj;cases hpj
  simp only[G0 this];exact g.1 j o x hj ho hpj hd,g.2⟩
theorem Ag.congr'{ops:Array Oper}{k:Nat}{V:Nat→AVal}{t s:Env}{p p':Nat→Bool}(g:Ag ops k V t p s)(hp:∀j,j<k→p' j=p j):Ag ops k V t p' s:=
 ⟨fun j o x hj ho hpj hd=>g.1 j o x hj ho (by rw[← hp j hj];exact hpj) hd,fun x hn=>g.2 x fun j o hj ho hpj=>hn j o hj ho (by rw[hp j hj];exact hpj)⟩
theorem qu{l:List Oper}{Q:Exit→Env→Heap→Prop}{k:Nat}{es:List Nat}{t0 t:Env}(D:PreOk l.toArray k fun i j=>((Region.before l.toArray).getD j 0).testBit i)(hkn:k≤l.length)
  (c4:∀(i j:Nat) (oi oj:Oper) (d:Nat),i<k→j<k→l[i]? =some oi→l[j]? =some oj→oj.dst=some d→d∈oi.looksAt l.toArray→j<i∧((Region.before l.toArray).getD i 0).testBit j=true∧(es.contains i=true∨es.contains j=false))
  (c7:∀(i:Nat) (o:Oper),i<k→es.contains i=false→l[i]? =some o→o.dst.isSome=true)(hes:∀e,es.contains e=true→e<k)
  (hA:detGo .any l.toArray (l.length-k) (listK l.length k)=some (List.range' k (l.length-k))):
  ∀(fuel n:Nat) (L:Array Bool) (s:Env) (tr:ET) (V:Nat→AVal) (tc:Env) (h:Heap) (X:List Nat),L.size=l.length→left l.toArray L=fuel→Closed l.toArray L→(∀j,j<l.length→L.getD j false=true→j<k)→
   (∀j,es.contains j=true→(L.getD j false=X.contains j))→okE l.toArray (Region.before l.toArray) k es tr X=true→
   Ag l.toArray k V t (fun j=>L.getD j false) s→Ag l.toArray k V t (fun j=> !es.contains j) t0→Ag l.toArray k V t (fun j=> !es.contains j||X.contains j) tc→
   (∀(i:Nat) (o:Oper),i<k→es.contains i=false→L.getD i false=false→l[i]? =some o→∀KK:AVal→Heap→Prop,KK (V i) h→wpOperV C l.toArray o t0 h KK)→WPe C Q l k t0 tr tc h→
   WPix C l.toArray Q (Region.linearise.go .any l.toArray fuel n L []) s h:=by
 have hsee:∀{V:Nat→AVal} {s s':Env} {p p':Nat→Bool} {i:Nat} {o:Oper},Ag l.toArray k V t p s→Ag l.toArray k V t p' s'→i<k→l[i]? =some o→
   (∀j,j<i→((Region.before l.toArray).getD i 0).testBit j=true→(es.contains i=true∨es.contains j=false)→p j=true∧p' j=true)→∀d∈o.looksAt l.toArray,s d=s' d:=by
  intro V s s' p p' i o g g' hi ho hp d hd;by_cases hx:∃(j:Nat) (oj:Oper),j<k∧l[j]? =some oj∧oj.dst=some d
  ·obtain⟨j,oj,h1,h2,h3⟩:=hx;obtain⟨h4,h5,h6⟩:=c4 i j o oj d hi h1 ho h2 h3 hd;obtain⟨h7,h8⟩:=hp j h4 h5 h6;rw[g.1 j oj d h1 (by simpa using h2) h7 h3,g'.1 j oj d h1 (by simpa using h2) h8 h3]
  ·have hn:∀(j:Nat) (oj:Oper),j<k→l.toArray[j]? =some oj→oj.dst≠some d:=fun j oj h1 h2 h3=>hx ⟨j,oj,h1,by simpa using h2,h3⟩
   rw[g.2 d fun j oj h1 h2 _=>hn j oj h1 h2,g'.2 d fun j oj h1 h2 _=>hn j oj h1 h2]
 intro fuel;induction fuel with
 |zero=>
  intro n L s tr V tc h X hs hl cl hlt hX hok ag ag0 agc hv hw;have hall:=cX (by simpa using hs) hl;cases tr with
  |fin=>
   have hk:k=l.length:=by
    apply J8
    intro hne;have:=hlt k (by omega) (hall k (by simp;omega));omega
   subst hk;simp only[Region.linearise.go,List.reverse_nil,WPix];simp only[WPe,List.drop_length,WPl]at hw;have e:s=tc:=by
    refine Ag.eq (p:=fun _=>true) (ag.congr' fun j hj=>?_) (agc.congr' fun j hj=>?_)
    ·exact(hall j (by simpa using hj)).symm
    ·cases hc:es.contains j with
     |false=>rfl
     |true=>rw[← hX j hc,hall j (by simpa using hj)];rfl
   rw[e];exact hw
  |one i m u=>
   simp only[okE,okI,G2,M6]at hok;have h1:=hok.1.1.1.1.1.1.1;have h2:=hok.1.1.1.1.1.1.2;have:=hall i (by have:=hes i h1;simp;omega);rw[hX i h1,h2]at this;cases this
  |two i m u j m' u'=>
   simp only[okE,okI,G2,M6]at hok;have h1:=hok.1.1.1.1.1.1.1.1.1;have h2:=hok.1.1.1.1.1.1.1.1.2;have:=hall i (by have:=hes i h1;simp;omega);rw[hX i h1,h2]at this;cases this
 |succ fuel ih=>
  intro n L s tr V tc h X hs hl cl hlt hX hok ag ag0 agc hv hw;have bef:∀(i:Nat) (o:Oper),i<k→l[i]? =some o→(∀e∈o.after,Region.binds .any e=true→L.getD e.on false=true)→∀j,j<i→((Region.before l.toArray).getD i 0).testBit j=true→L.getD j false=true:=
   fun i o hi ho hrd j hj hc=>D.bef cl i o (by simpa using ho) hi j hj hc hrd
  by_cases hfin:tr=.fin
  ·subst hfin;simp only[okE,I1]at hok;have hXe:∀j,es.contains j=true→L.getD j false=true:=fun j hj=>by rw[hX j hj];exact hok j (by simpa using hj)
   have hTT:=D.ag_T V t (by simpa using hkn) k (H5 _);refine cH D .any D.less (by simpa using hkn) (V:=V) (t0:=t) (fun j=>es.contains j=false∧L.getD j false=false) (fun i o ho hoi KK hkk=>?_) ?_ _ _ _ _ (by simpa using hs) hl cl (by simpa using hlt) (fun j hj hlj=>?_) ag
   ·have hik:i<k:=by
     refine U8 fun hle=>?_
     rw[M1,G0 (by omega)]at ho;cases ho
    have hoi':l[i]? =some o:=(by rw[M1,G3 hik]at ho;simpa using ho);have:=hv i o hik hoi.1 hoi.2 hoi' KK hkk;rw[← aP (hsee ag0 (D.ag_T V t (by simpa using hkn) i (by omega)) hik hoi' fun j hj hb he=>?_)]
    ·exact this
    ·rcases he with he|he
     ·rw[hoi.1]at he;cases he
     ·exact⟨by simp only[he];rfl,by simpa using hj⟩
   ·have:=mO (ops:=l.toArray) (Q:=Q) (md:=.any) _ _ _ (l.drop k) tc h hA (by rw[mP (by omega),H9 (by simp)]) hw;have e:Av.T V (l.toArray.toList.take k) t k=tc:=by
     refine Ag.eq (p:=fun _=>true) (hTT.congr' fun j hj=>?_) (agc.congr' fun j hj=>?_)
     ·simpa using hj
     ·cases hc:es.contains j with
      |false=>rfl
      |true=>have:=hok j (by simpa using hc);simp only[this];rfl
    rw[e];simpa using this
   ·refine⟨?_,hlj⟩;cases hc:es.contains j with
    |false=>rfl
    |true=>rw[hXe j hc]at hlj;cases hlj
  ·
   obtain⟨e0,he0,hX0⟩:∃e0,es.contains e0=true∧X.contains e0=false:=by
    cases tr with
    |fin=>exact absurd rfl hfin
    |one i m u=>
     simp only[okE,okI,G2,M6]at hok;exact⟨i,hok.1.1.1.1.1.1.1,hok.1.1.1.1.1.1.2⟩
    |two i m u j m' u'=>
     simp only[okE,okI,G2,M6]at hok;exact⟨i,hok.1.1.1.1.1.1.1.1.1,hok.1.1.1.1.1.1.1.1.2⟩
   have hek:=hes e0 he0;have heun:L.getD e0 false=false:=(by rw[hX e0 he0];exact hX0);have hne:Region.ready .any l.toArray L≠ []:=by
    have hmin:∃i,i<k∧L.getD i false=false∧∀j,j<i→L.getD j false=true:=by
     obtain⟨i,hi,hl⟩:∃i,i<k∧L.getD i false=false:=⟨e0,hek,heun⟩;induction i using Nat.strongRecOn with
     |ind i ih=>
      by_cases hall:∀j,j<i→L.getD j false=true
      ·exact⟨i,hi,hl,hall⟩
      ·have:∃j,j<i∧L.getD j false=false:=J8 fun hno=>hall fun j hj=>by
        cases hlj:L.getD j false with
        |true=>rfl
        |false=>exact absurd ⟨j,hj,hlj⟩ hno
       obtain⟨j,hj,hlj⟩:=this;exact ih j hj (by omega) hlj
    obtain⟨i,hi,hl,hall⟩:=hmin;have hin:i<l.toArray.size:=(by simp;omega);have h3:i<L.size:=(by omega);intro e;have:i∈Region.ready .any l.toArray L:=mem_ready.2 ⟨by simp[h3]at hl ⊢;exact hl,l.toArray[i],I6 hin,fun e he hb=>hall _ (D.less i _ (I6 hin) hi e he hb)⟩;rw[e]at this;cases this
   obtain⟨i,hi,hmem⟩:=bI hne n;obtain⟨hun,o,ho,hrd⟩:=mem_ready.1 hmem;have hin:=(J0.1 ho).1;have hin':i<l.length:=(by simpa using hin);have h3:i<L.size:=(by omega);have ho':l[i]? =some o:=(by simpa using ho);have hun':L.getD i false=false:=(by simp[h3]at hun ⊢;exact hun);have hik:i<k:=by
    refine U8 fun hle=>?_
    obtain⟨e1,he1,hb,h1⟩:=D.sfx e0 i o ho hek hle;have h2:=hrd e1 he1 hb;have hkl:L.getD e0 false=true:=by
     rcases h1 with rfl| ⟨h4,h5,h6⟩
     ·exact h2
     ·have hoe:l.toArray[e1.on]? =some (l.toArray[e1.on]'(by simp;omega)):=I6 (by simp;omega);exact D.bef cl e1.on _ hoe h4 e0 h5 h6 fun e' he' hb'=>cl e1.on _ hoe h2 e' he' hb'
    rw[heun]at hkl;cases hkl
   rw[cF .any l.toArray fuel n L hi];simp only[WPix,ho];rw[cS];have hb:=bef i o hik ho' hrd;have agn:∀{V:Nat→AVal},Ag l.toArray k V t (fun j=>L.getD j false) s→Ag l.toArray k V t (fun j=>(L.setIfInBounds i true).getD j false) (put s o.dst (V i)):=fun ag=>by
    refine D.ag_put ag ho hik fun j hj=>?_
    by_cases hji:i=j
    ·subst hji;simp[h3]
    ·rw[getD_set_ne false hji];have:(j==i)=false:=by simp;exact fun e=>hji e.symm
     rw[this,Q1]
   have hlt':∀j,j<l.length→(L.setIfInBounds i true).getD j false=true→j<k:=fun j hj hlj=>by
    by_cases hji:i=j
    ·subst hji;exact hik
    ·rw[getD_set_ne false hji]at hlj;exact hlt j hj hlj
   have hls:left l.toArray (L.setIfInBounds i true)=fuel:=(by have:=ct (by simpa using hs) hin hun';omega);cases hic:es.contains i with
   |false=>
    have h9:=hv i o hik hic hun' ho';rw[← aP (hsee ag0 ag hik ho' fun j hj hbt he=>?_)]
    ·refine h9 _ ?_;refine ih _ _ _ tr V tc h X (by simpa using hs) hls (cl.set ho hrd) hlt' (fun j hj=>?_) hok (agn ag) ag0 agc (fun j oj hj hjc hjl hoj=>?_) hw
     ·have:i≠j:=fun e=>by subst e;rw[hic]at hj;cases hj
      rw[getD_set_ne false this];exact hX j hj
     ·have:i≠j:=fun e=>by subst e;simp[h3]at hjl
      rw[getD_set_ne false this]at hjl;exact hv j oj hj hjc hjl hoj
    ·rcases he with he|he
     ·rw[hic]at he;cases he
     ·exact⟨by simp only[he];rfl,hb j hj hbt⟩
   |true=>
    have hiX:X.contains i=false:=(by rw[← hX i hic];exact hun');have eff:∀(m:List Bool) (u:ET),okI l.toArray (Region.before l.toArray) k es i m X=true→okE l.toArray (Region.before l.toArray) k es u (i::X)=true→stepE C l t0 i m (WPe C Q l k t0 u) tc h→
      wpOperV C l.toArray o s h fun v h'=>WPix C l.toArray Q (Region.linearise.go .any l.toArray fuel (n/(Region.ready .any l.toArray L).length) (L.setIfInBounds i true) []) (put s o.dst v) h':=by
     intro m u hoI hoE hst;simp only[stepE,ho',bm]at hst;rw[← aP (hsee agc ag hik ho' fun j hj hbt _=>?_)]
     ·refine bv hst fun v h' ⟨hre,hnx⟩=>?_
      have agV:=ag.upd' (i:=i) (by simpa using hun') v;have ag0V:=ag0.upd' (i:=i) (by simp only[hic];rfl) v;have agcV:=agc.upd' (i:=i) (by simp only[hic,hiX];rfl) v;have e1:=agn agV;simp only[if_true]at e1;refine ih _ _ _ u (fun j=>if j=i then v else V j) (put tc o.dst v) h' (i::X) (by simpa using hs) hls (cl.set ho hrd) hlt' (fun j hj=>?_) hoE e1 ag0V ?_ (fun p op hp hpc hpl hop=>?_) hnx
      ·by_cases hji:i=j
       ·subst hji;simp[h3]
       ·rw[getD_set_ne false hji,hX j hj];rw[List.contains_cons];have:(j==i)=false:=by simp;exact fun e=>hji e.symm
        rw[this,O0]
      ·have:=D.ag_put (V:=fun j=>if j=i then v else V j) (p':=fun j=> !es.contains j||(i::X).contains j) agcV ho hik fun j hj=>by
        rw[List.contains_cons,Bool.or_comm (j==i),Bool.or_assoc]
       simpa using this
      ·have hpi:i≠p:=fun e=>by subst e;rw[hic]at hpc;cases hpc
       rw[getD_set_ne false hpi]at hpl;simp only[G0 (fun e=>hpi e.symm:¬p=i)];simp only[okI,G2,I1,L1,L3,M6,H2]at hoI;obtain⟨⟨⟨⟨⟨_,_⟩,_⟩,hms⟩,hml⟩,hmk⟩:=hoI;rcases hms p hp with(((h4|h4)|h4)|h4)|h4
       ·rw[hpc]at h4;cases h4
       ·
        obtain⟨V2,hv2,hK2⟩:=bH _ _ hre;rw[mV]at hK2;have hmlen:m.length≤l.length:=(by omega);have hget:∀q oq,(maskL m l)[q]? =some oq→oq=nopO∨(m.getD q false=true∧l[q]? =some oq):=fun q oq hq=>by
         rw[dc]at hq;split at hq
         ·rename_i h5 h6;cases hq;exact .inr ⟨by simp[List.getD,h5],h6⟩
         ·cases hq;exact .inl rfl
         ·cases hq
        have hgm:∀q oq,m.getD q false=true→l[q]? =some oq→(maskL m l)[q]? =some oq:=fun q oq h5 h6=>by
         rw[dc];have:m[q]? =some true:=by
          cases hm:m[q]? with
          |none=>simp[List.getD,hm]at h5
          |some b=>simp[List.getD,hm]at h5;subst h5;rfl
         rw[this,h6]
        have hmP:∀q,m.getD q false=true→q<k∧es.contains q=false:=fun q h5=>by
         have hq:q<m.length:=by
          apply J8
          intro hn;rw[List.getD,O4 (by omega)]at h5;cases h5
         rcases hml q hq with h6|h6
         ·rw[h5]at h6;cases h6
         ·exact h6
        have hu:∀(a b:Nat) (oa ob:Oper) (d:Nat),(maskL m l)[a]? =some oa→(maskL m l)[b]? =some ob→oa.dst=some d→ob.dst=some d→a=b:=fun a b oa ob d h5 h6 h7 h8=>by
         rcases hget a oa h5 with rfl| ⟨ha,hoa⟩
         ·cases h7
         rcases hget b ob h6 with rfl| ⟨hb',hob⟩
         ·cases h8
         rcases O9 a b with h9|h9|h9
         ·exact absurd h8 ((D.pre a b oa ob (by simpa using hoa) (by simpa using hob) h9 (hmP b hb').1).2 d h7)
         ·exact h9
         ·exact absurd h7 ((D.pre b a ob oa (by simpa using hob) (by simpa using hoa) h9 (hmP a ha).1).2 d h8)
        have hT:=fun q (hq:q≤(maskL m l).length)=>mX (V:=V2) (maskL m l) t0 hu q hq
        have hV2:∀q oq d,(maskL m l)[q]? =some oq→oq.dst=some d→V2 q=t0 d:=fun q oq d h5 h6=>by
         have h7:=gv hK2 d (iD h5 h6);rw[(hT _ (H5 _)).1 q oq d (F1.1 h5).1 h5 h6]at h7;exact h7
        have hTt:∀q,q≤(maskL m l).length→Av.T V2 (maskL m l) t0 q=t0:=fun q hq=>by
         funext d
         by_cases hx:∃(a:Nat) (oa:Oper),a<q∧(maskL m l)[a]? =some oa∧oa.dst=some d
         ·obtain⟨a,oa,h5,h6,h7⟩:=hx;rw[(hT q hq).1 a oa d h5 h6 h7,hV2 a oa d h6 h7]
         ·exact(hT q hq).2 d fun a oa h5 h6 h7=>hx ⟨a,oa,h5,h6,h7⟩
        have hg:=hgm p op h4 hop;have:=hv2 p op hg;rw[hTt p (Nat.le_of_lt (F1.1 hg).1)]at this;obtain⟨d,hd⟩:=J5.1 (c7 p op hp hpc hop);have h5:V2 p=V p:=by
         rw[hV2 p op d hg hd];exact ag0.1 p op d hp (by simpa using hop) (by simp only[hpc];rfl) hd
        rw[h5]at this;exact this
       ·
        rw[hb p h4.1 h4.2]at hpl;cases hpl
       ·
        obtain⟨x,hxe,hx⟩:=R0.1 h4;simp only[G2,H2]at hx;have hxe':es.contains x=true:=(by simpa using hxe);have hxk:=hes x hxe';have hxl:L.getD x false=true:=(by rw[hX x hxe'];exact hx.1.1);have hox:l.toArray[x]? =some (l.toArray[x]'(by simp;omega)):=I6 (by simp;omega);have:=D.bef cl x _ hox hxk p hx.1.2 hx.2 (fun e he hbd=>cl x _ hox hxl e he hbd);rw[this]at hpl;cases hpl
       ·rw[R7,hop]at h4;exact sm (by simpa using h4) (hv p op hp hpc hpl hop) h'
     ·have hLj:=hb j hj hbt;refine⟨?_,hLj⟩;cases hc:es.contains j with
      |false=>rfl
      |true=>rw[← hX j hc,hLj];rfl
    have other:∀is:List Nat,okO (Region.before l.toArray) es X is=true→is.contains i=true:=fun is ho=>by
     simp only[okO,I1,L3]at ho;rcases ho i (by simpa using hic)with(h4|h4)|h4
     ·rw[hiX]at h4;cases h4
     ·exact h4
     ·obtain⟨y,hy,h5⟩:=R0.1 h4;simp only[G2,M6,H2]at h5;have:=hb y h5.1.2 h5.2;rw[hX y (by simpa using hy),h5.1.1]at this;cases this
    cases tr with
    |fin=>exact absurd rfl hfin
    |one i' m u=>
     simp only[okE,G2]at hok;have:i=i':=by simpa using other [i'] hok.1.2
     subst this;exact eff m u hok.1.1 hok.2 hw
    |two i' m u j' m' u'=>
     simp only[okE,G2]at hok;have:i=i'∨i=j':=by simpa using other [i',j'] hok.1.1.2
     rcases this with rfl|rfl
     ·exact eff m u hok.1.1.1.1 hok.1.2 hw.1
     ·exact eff m' u' hok.1.1.1.2 hok.2 hw.2
theorem bJ{id:Nat}{l:List Oper}{Q:Exit→Env→Heap→Prop}(k:Nat)(es:List Nat)(m0:List Bool)(tr:ET)(hok:chkE l k es m0 tr=true)(hm:C.P.follows .mixedOrders=true)
  (hA:detGo .any l.toArray (l.length-k) (listK l.length k)=some (List.range' k (l.length-k)))
  (hh:WPp C l.toArray (maskL m0 l) t h fun t0=>WPe C Q l k t0 tr t0 h):WP C (.region id l.toArray true) Q t h:=by
 unfold chkE at hok;simp only[G2,H2,beq_iff_eq]at hok;obtain⟨⟨⟨⟨⟨⟨hpre,hkn⟩,hc4⟩,hc7⟩,hes⟩,hm0⟩,hE⟩:=hok;have D:=dH hpre;simp only[I1,L1]at hc4 hc7;have c4:∀(i j:Nat) (oi oj:Oper) (d:Nat),i<k→j<k→l[i]? =some oi→l[j]? =some oj→oj.dst=some d→d∈oi.looksAt l.toArray→j<i∧((Region.before l.toArray).getD i 0).testBit j=true∧(es.contains i=true∨es.contains j=false):=by
  intro i j oi oj d hi hj hoi hoj hd hl;have:=hc4 i hi j hj;rw[R7,R7,hoi,hoj]at this;simp only[hd,L3,G2,M6,H2]at this;rcases this with h1|h1
  ·have:(oi.looksAt l.toArray).contains d=true:=by simpa using hl
   rw[h1]at this;cases this
  ·exact⟨h1.1.1,h1.1.2,h1.2⟩
 have c7:∀(i:Nat) (o:Oper),i<k→es.contains i=false→l[i]? =some o→o.dst.isSome=true:=by
  intro i o hi he ho;have:=hc7 i hi;rw[R7,ho,he]at this;simpa using this
 have hes':∀e,es.contains e=true→e<k:=fun e he=>by
  have:=I1.1 hes e (by simpa using he);simpa using this
 obtain⟨V,hv,hK⟩:=bH _ _ hh;have hm0l:m0.length=k:=by rw[hm0];simp
 have hml:=i9 m0 l (by omega);have hm0g:∀q,q<k→m0[q]? =some (!es.contains q):=fun q hq=>by rw[hm0];simp[hq]
 have hget:∀q oq,(maskL m0 l)[q]? =some oq→oq=nopO∨(q<k∧es.contains q=false∧l[q]? =some oq):=fun q oq hq=>by
  have hqk:q<k:=by have:=(F1.1 hq).1;omega
  rw[dc,hm0g q hqk]at hq;cases hc:es.contains q with
  |true=>rw[hc]at hq;cases hl:l[q]? with
   |none=>rw[hl]at hq;cases hq
   |some o=>rw[hl]at hq;cases hq;exact .inl rfl
  |false=>rw[hc]at hq;cases hl:l[q]? with
   |none=>rw[hl]at hq;cases hq
   |some o=>rw[hl]at hq;cases hq;exact .inr ⟨hqk,rfl,rfl⟩
 have hgm:∀q oq,q<k→es.contains q=false→l[q]? =some oq→(maskL m0 l)[q]? =some oq:=fun q oq hq hc h6=>by
  rw[dc,hm0g q hq,hc,h6];rfl
 have hu:∀(a b:Nat) (oa ob:Oper) (d:Nat),(maskL m0 l)[a]? =some oa→(maskL m0 l)[b]? =some ob→oa.dst=some d→ob.dst=some d→a=b:=fun a b oa ob d h5 h6 h7 h8=>by
  rcases hget a oa h5 with rfl| ⟨ha,_,hoa⟩
  ·cases h7
  rcases hget b ob h6 with rfl| ⟨hb',_,hob⟩
  ·cases h8
  rcases O9 a b with h9|h9|h9
  ·exact absurd h8 ((D.pre a b oa ob (by simpa using hoa) (by simpa using hob) h9 hb').2 d h7)
  ·exact h9
  ·exact absurd h7 ((D.pre b a ob oa (by simpa using hob) (by simpa using hoa) h9 ha).2 d h8)
 have hT:=fun q (hq:q≤(maskL m0 l).length)=>mX (V:=V) (maskL m0 l) t hu q hq
 generalize ht0:Av.T V (maskL m0 l) t (maskL m0 l).length=t0 at hK;have ag0:Ag l.toArray k V t (fun j=> !es.contains j) t0:=by
  rw[← ht0];refine⟨fun j o x hj ho hp hd=>?_,fun x hn=>?_⟩
  ·have hc:es.contains j=false:=(by simpa using hp);exact(hT _ (H5 _)).1 j o x (by omega) (hgm j o hj hc (by simpa using ho)) hd
  ·refine(hT _ (H5 _)).2 x fun j o hj ho hd=>?_
   rcases hget j o ho with rfl| ⟨h1,h2,h3⟩
   ·cases hd
   ·exact hn j o h1 (by simpa using h3) (by simp only[h2];rfl) hd
 have main:∀n,WPix C l.toArray Q (Region.linearise .any l.toArray n) t h:=fun n=>by
  unfold Region.linearise;refine qu D hkn c4 c7 hes' hA _ n _ t tr V t0 h [] (by simp) ?_ (fun j oj hj hl=>?_) (fun j hj hl=>?_) (fun j hj=>?_) hE (Ag.start _ _ _ _ fun j hj=>?_) ag0 (ag0.congr' fun j hj=>by simp) (fun i o hi hc _ ho KK hkk=>?_) hK
  ·unfold left;have:(List.range l.toArray.size).filter (fun i=> !(Array.replicate l.toArray.size false).getD i true)=List.range l.toArray.size:=by
    rw[Q3];intro i hi;have:=L1.1 hi;simp at this ⊢;simp[this]
   rw[this,R2]
  ·have h8:=(J0.1 hj).1;simp at h8 hl;simp[h8]at hl
  ·simp at hl;simp[hj]at hl
  ·have:=hes' j hj;have:j<l.length:=by omega
   simp[this]
  ·have:j<l.length:=by omega
   simp[this]
  ·have hg:=hgm i o hi hc ho;have:=hv i o hg KK hkk;have hil:i≤(maskL m0 l).length:=(by omega);rw[aP (t2:=t0) fun d hd=>?_]at this
   ·exact this
   ·by_cases hx:∃(j:Nat) (oj:Oper),j<k∧l[j]? =some oj∧oj.dst=some d
    ·obtain⟨j,oj,h1,h2,h3⟩:=hx;obtain⟨h4,_,h5⟩:=c4 i j o oj d hi h1 ho h2 h3 hd;have hcj:es.contains j=false:=by
      rcases h5 with h5|h5
      ·rw[hc]at h5;cases h5
      ·exact h5
     rw[(hT i hil).1 j oj d h4 (hgm j oj h1 hcj h2) h3,ag0.1 j oj d h1 (by simpa using h2) (by simp only[hcj];rfl) h3]
    ·rw[(hT i hil).2 d fun j oj h1 h2 h3=>?_,ag0.2 d fun j oj h1 h2 _ h3=>hx ⟨j,oj,h1,by simpa using h2,h3⟩];rcases hget j oj h2 with rfl| ⟨h5,_,h6⟩
     ·cases h3
     ·exact hx ⟨j,oj,h5,h6,h3⟩
 show ∀tp,WPix C l.toArray Q (Region.schedule (C.P.follows .mixedOrders) l.toArray tp) t h;intro tp;unfold Region.schedule;rw[hm];simp only[L0,if_true];exact main _
variable {l:List Oper} {Q:Exit→Env→Heap→Prop} {k:Nat} {t0 tc:Env} {ops:Array Oper} {dst:Option Tmp} {ty:TypeId} {pos:String} {aft:Array Edge} {K:AVal→Heap→Prop}
@[congr] theorem yn(i:Nat)(m:List Bool)(P:Env→Heap→Prop){h h':Heap}(e:h=h'):stepE C l t0 i m P tc h=stepE C l t0 i m P tc h':=by rw[e]
@[congr] theorem AZ(tr:ET){h h':Heap}(e:h=h'):WPe C Q l k t0 tr tc h=WPe C Q l k t0 tr tc h':=by rw[e]
@[go_sem] theorem Cx(i:Nat)(m:List Bool)(P:Env→Heap→Prop):stepE C l t0 i m P tc h=need (l[i]?) fun o=>wpOperV C l.toArray o tc h fun v h'=>(WPp C l.toArray (maskL m l) t0 h' fun t''=>agrL (wrM m l) t'' t0)∧P (put tc o.dst v) h':=(rfl)
attribute [go_sem] List.drop_succ_cons List.drop_zero
variable {t:Env} {e:TypeId} {T:TypeId}
@[go_sem] theorem B0:wpOperV C ops ⟨dst,.alloc e,ty,pos,aft,none⟩ t h K=
  need (zroT C.P e) fun z=>0<z.cells.length∧z.cells.all AVal.sto=true∧z.lies=true∧K (.hp h.length 0 0 0) (h++[.row e z.cells.length 0 [z]]):=(rfl)
@[go_sem] theorem B1(x y:Operand):wpOperV C ops ⟨dst,.store T x y,ty,pos,aft,none⟩ t h K=storeK C T (aev C.G t x) (aev C.G t y) h (fun h'=>K undefA h'):=(rfl)
@[go_sem] theorem DC(rest:List Oper)(K:Env→Prop):WPp C ops (nopO::rest) t h K=WPp C ops rest t h K:=tO (dst:=none) (.const (.bool false))
@[congr] theorem zT{l l':List Oper}{t t':Env}{h h':Heap}{K:Env→Prop}(e1:l=l')(e2:t=t')(e3:h=h'):WPp C ops l t h K=WPp C ops l' t' h' K:=by rw[e1,e2,e3]
@[go_sem] theorem Cy(f:Operand)(args:Array Operand)(Ts:Array TypeId):wpOperV C ops ⟨dst,.call ⟨.value f,args,Ts⟩,ty,pos,aft,none⟩ t h K=callK C (aev C.G t f) (args.toList.map (aev C.G t)) h K:=by
 show wpCall C ⟨.value f,args,Ts⟩ t h K=_;rfl
@[go_sem] theorem B2(parts:Array (Nat×Operand)):wpOperV C ops ⟨dst,.build T parts,ty,pos,aft,none⟩ t h K=need (buildA C T (parts.toList.map fun q=>(q.1,aev C.G t q.2))) fun v=>K v h:=by
 show wpOp C (.build T parts) t h K=_;have:=kO (C:=C) (ops:= #[]) (Q:=fun _ t h=>K (t 0) h) (rest:=[]) (t:=t) (h:=h) (dst:=some 0) (ty:=0) (pos:= "") (aft:= #[]) T parts;simpa [WPl,wpOper,put,upd]using this
theorem az(g:WPl C l.toArray Q (l.drop k) tc h):WPe C Q l k t0 .fin tc h:=g
theorem aA{i:Nat}{m:List Bool}{s:ET}(g:stepE C l t0 i m (WPe C Q l k t0 s) tc h):WPe C Q l k t0 (.one i m s) tc h:=g
theorem aB{i j:Nat}{m m':List Bool}{s u:ET}(g:stepE C l t0 i m (WPe C Q l k t0 s) tc h)(g':stepE C l t0 j m' (WPe C Q l k t0 u) tc h):WPe C Q l k t0 (.two i m s j m' u) tc h:=⟨g,g'⟩
end
end Go.Av
namespace Go.Av
open Go Go.Proofs Go.RowKit
theorem xC(G:Nat→Option (List AVal)):(CT G).P.follows .mixedOrders=true:=by kernel_rfl
theorem mY{C:Ctx}{t:Env}{h:Heap}{id:Nat}{l:List Oper}{Q:Exit→Env→Heap→Prop}(hok:preOkG false l.toArray l.length=true)(hm:C.P.follows .mixedOrders=true)
  (hh:WPp C l.toArray l t h fun t'=>Q .normal t' h):WP C (.region id l.toArray true) Q t h:=by
 have D:=dH hok;obtain⟨V,hv,hK⟩:=bH _ _ hh;have htk:l.toArray.toList.take l.length=l:=by simp
 have main:∀n,WPix C l.toArray Q (Region.linearise .any l.toArray n) t h:=fun n=>by
  unfold Region.linearise;refine cH D .any D.less (by simp) (V:=V) (t0:=t) (fun _=>True) (fun i o hi _=>by rw[htk]at hi ⊢;exact hv i o hi) (fun n=>?_) _ _ _ _ (by simp) ?_ (fun j oj hj hl=>?_) (fun j hj hl=>?_) (fun _ _ _=>trivial) (Ag.start _ _ _ _ fun j hj=>?_)
  ·rw[htk];have e1:l.toArray.size-l.length=0:=(by simp);rw[e1];exact Rest.nil hK .any n
  ·unfold left;have:(List.range l.toArray.size).filter (fun i=> !(Array.replicate l.toArray.size false).getD i true)=List.range l.toArray.size:=by
    rw[Q3];intro i hi;have:=L1.1 hi;simp at this ⊢;simp[this]
   rw[this,R2]
  ·have h8:=(J0.1 hj).1;simp at h8 hl;simp[h8]at hl
  ·simp at hj hl;simp[hj]at hl
  ·have:j<l.length:=by omega
   simp[this]
 show ∀tp,WPix C l.toArray Q (Region.schedule (C.P.follows .mixedOrders) l.toArray tp) t h;intro tp;unfold Region.schedule;rw[hm];simp only[L0,if_true];exact main _
end Go.Av
