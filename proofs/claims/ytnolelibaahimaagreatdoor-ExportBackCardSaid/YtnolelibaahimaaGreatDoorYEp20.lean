/- Parts. -/
import Derived.Test.YtnolelibaahimaaGreatDoorYInb
import Derived.Test.YtnolelibaahimaaGreatDoorYVh
set_option linter.unusedSimpArgs false
set_option linter.unusedVariables false
set_option linter.unusedSectionVars false
set_option linter.unnecessarySimpa false
set_option maxRecDepth 100000
set_option maxHeartbeats 16000000
namespace Go.Av
open Go Go.Proofs Go.RowKit
section
def fitAll:PS→List Ev→Bool
 |_,[]=>true
 |s,e::l=>s.ok L0 e&&fitAll (s.step L0 e) l
theorem Ad(l1 l2:List Ev)(s:PS):fitAll s (l1++l2)=(fitAll s l1&&fitAll (l1.foldl (PS.step L0) s) l2):=by
 induction l1 generalizing s with
 |nil=>simp[fitAll]
 |cons e l ih=>rw[Q2,fitAll,ih,fitAll,List.foldl_cons,Bool.and_assoc]
theorem rJ{t:Bs}{m:Nat}(h:textO t m=true):textF rightS cleanF t m=true:=by
 unfold textO at h;unfold textF;simp only[M2,M8,beq_iff_eq]at*;exact⟨by omega,h.1.2,h.2⟩
theorem cK{α:Type}(z:α)(l:ML Int α):(valsM z l).length=l.length:=by
 unfold valsM;rw[O0,dj,O0]
structure PS.Top2 (s:PS):Prop where
 i:s.Inv
 n:s.Nam
 o:∀k f,lkM s.fo k=some f→k≤s.t1
 e:∀k f,lkM s.fe k=some f→k≤s.t2
 zo:0≤s.t1
 ze:0≤s.t2
 mo:s.t1≤1048576
 me:s.t2≤1048576
def evFe(s:PS)(inn:Int)(o:Outl):Ev:=⟨3,s.t2+1,inn,0,o.url,o.title,[]⟩
def evFo(s:PS)(inn:Int)(name:Bs):Ev:=⟨1,s.t1+1,inn,0,name,[],[]⟩
def foId(s:PS)(inn:Int)(name:Bs):Int:=(lkM s.nm (inn,name)).getD 0
def putF(s:PS)(e:Ev):PS×List Ev:=if s.ok L0 e then(s.step L0 e,[e])else(s,[])
section
variable (nf:Bs→Bs)
def oneG(g:Int→List Outl→PS→PS×List Ev)(inn:Int)(o:Outl)(s:PS):PS×List Ev:=
 if o.url≠ []then putF s (evFe s inn o)
 else if foId s inn (nf o.title)≠0 then g (foId s inn (nf o.title)) o.kids s
 else if s.ok L0 (evFo s inn (nf o.title))then((g (s.t1+1) o.kids (s.step L0 (evFo s inn (nf o.title)))).1,evFo s inn (nf o.title)::(g (s.t1+1) o.kids (s.step L0 (evFo s inn (nf o.title)))).2)
 else g inn o.kids s
def lstG(h:Outl→PS→PS×List Ev):List Outl→PS→PS×List Ev
 | [],s=>(s,[])
 |o::l,s=>((lstG h l (h o s).1).1,(h o s).2++(lstG h l (h o s).1).2)
def brgF:Nat→Int→List Outl→PS→PS×List Ev
 |0,_,_,s=>(s,[])
 |k+1,inn,l,s=>lstG (oneG nf (brgF k) inn) l s
end
structure Gr (s s':PS):Prop where
 fo:∀k,(lkM s.fo k).isSome=true→lkM s'.fo k=lkM s.fo k
 fe:∀k,(lkM s.fe k).isSome=true→lkM s'.fe k=lkM s.fe k
 nm:∀k v,lkM s.nm k=some v→lkM s'.nm k=some v
 pl:∀k v,lkM s.pl k=some v→lkM s'.pl k=some v
 t1:s.t1≤s'.t1
 t2:s.t2≤s'.t2
 lo:s.fo.length≤s'.fo.length
 le:s.fe.length≤s'.fe.length
theorem Gr.refl(s:PS):Gr s s:=⟨fun _ _=>rfl,fun _ _=>rfl,fun _ _ h=>h,fun _ _ h=>h,Z6 _,Z6 _,N3 _,N3 _⟩
theorem Gr.trans{a b c:PS}(h:Gr a b)(g:Gr b c):Gr a c where
 fo:=fun k hk=>by have e:=h.fo k hk;rw[g.fo k (by rw[e];exact hk),e]
 fe:=fun k hk=>by have e:=h.fe k hk;rw[g.fe k (by rw[e];exact hk),e]
 nm:=fun k v hk=>g.nm k v (h.nm k v hk)
 pl:=fun k v hk=>g.pl k v (h.pl k v hk)
 t1:=Int.le_trans h.t1 g.t1
 t2:=Int.le_trans h.t2 g.t2
 lo:=S4 h.lo g.lo
 le:=S4 h.le g.le
section
variable {s:PS} {inn:Int} {o:Outl} {name:Bs}
theorem pr(s:PS)(id k:Int):∃he c8,s.hold id k= {s with he:=he,c8:=c8}:=⟨_,_,bC s id k⟩
theorem yt(h:s.ok L0 (evFe s inn o)=true):L0.ck (evFe s inn o)=true∧lkM s.fe (s.t2+1)=none∧s.fe.length<64∧s.within inn=true∧(lkM s.pl o.url).getD 0=0:=by
 have k3:(evFe s inn o).kind=3:=rfl;unfold PS.ok PS.fits at h;rw[M2]at h;have h2:=h.2;rw[M1 (by omega),M1 (by omega),M7 k3]at h2;simp only[M2,M8,beq_iff_eq,P8,evFe]at h2;exact⟨h.1,dV h2.1.1.1,h2.1.1.2,h2.1.2,h2.2⟩
theorem Bt(h:s.ok L0 (evFo s inn name)=true):L0.ck (evFo s inn name)=true∧lkM s.fo (s.t1+1)=none∧s.fo.length<64∧s.within inn=true∧s.dpt inn<7∧foId s inn name=0:=by
 have k1:(evFo s inn name).kind=1:=rfl;unfold PS.ok PS.fits at h;rw[M2]at h;have h2:=h.2;rw[M7 k1]at h2;simp only[M2,M8,beq_iff_eq,P8,evFo]at h2;exact⟨h.1,dV h2.1.1.1.1,h2.1.1.1.2,h2.1.1.2,R7 h2.1.2,h2.2⟩
theorem jq(h:s.ok L0 (evFe s inn o)=true):∃he c8,s.step L0 (evFe s inn o)= {s with fe:=upM s.fe s.c2 (s.t2+1) ⟨s.t2+1,inn,o.url,o.title⟩,c2:=ckM s.fe s.c2 (s.t2+1),pl:=upM s.pl s.c6 o.url (s.t2+1),c6:=ckM s.pl s.c6 o.url,he:=he,c8:=c8,t2:=s.t2+1}:=by
 have k3:(evFe s inn o).kind=3:=rfl;unfold PS.step;rw[M7 h];unfold PS.aft PS.after;rw[M1 (by omega),M1 (by omega),M1 (by omega),M1 (by omega),M1 (by omega),M1 (by omega),M1 (by omega),M1 (by omega),M1 (by omega),PS.make,M1 (by omega),M7 k3];obtain⟨he,c8,hh⟩:=pr ((s.upFe (s.t2+1) ⟨s.t2+1,inn,o.url,o.title⟩).upPl o.url (s.t2+1)) inn 1;refine⟨he,c8,?_⟩;show(PS.hold ((s.upFe (s.t2+1) ⟨s.t2+1,inn,o.url,o.title⟩).upPl o.url (s.t2+1)) inn 1).raise 1 (s.t2+1)=_;rw[hh];unfold PS.raise;simp only[PS.upFe,PS.upPl];congr 1
 exact M7 (by show s.t2+1>s.t2;omega)
theorem gE(h:s.ok L0 (evFo s inn name)=true):∃he c8,s.step L0 (evFo s inn name)= {s with fo:=upM s.fo s.c1 (s.t1+1) ⟨s.t1+1,inn,name⟩,c1:=ckM s.fo s.c1 (s.t1+1),nm:=upM s.nm s.c5 (inn,name) (s.t1+1),c5:=ckM s.nm s.c5 (inn,name),he:=he,c8:=c8,t1:=s.t1+1}:=by
 have k1:(evFo s inn name).kind=1:=rfl;unfold PS.step;rw[M7 h];unfold PS.aft PS.after;rw[M1 (by omega),M1 (by omega),M1 (by omega),M1 (by omega),M1 (by omega),M1 (by omega),M1 (by omega),M1 (by omega),M1 (by omega),PS.make,M7 k1];obtain⟨he,c8,hh⟩:=pr ((s.upFo (s.t1+1) ⟨s.t1+1,inn,name⟩).upNm (inn,name) (s.t1+1)) inn 1;refine⟨he,c8,?_⟩;show(PS.hold ((s.upFo (s.t1+1) ⟨s.t1+1,inn,name⟩).upNm (inn,name) (s.t1+1)) inn 1).raise 0 (s.t1+1)=_;rw[hh];unfold PS.raise;simp only[PS.upFo,PS.upNm];congr 1
 exact M7 (by show s.t1+1>s.t1;omega)
theorem FP(h:s.Nam)(hI:s.Inv){u:Bs}(h0:(lkM s.pl u).getD 0=0):lkM s.pl u=none:=by
 cases hl:lkM s.pl u with
 |none=>rfl
 |some j=>have:=h.pl1 hI hl;rw[hl]at h0;simp at h0;omega
theorem KO(h:s.Nam)(hI:s.Inv){k:Int×Bs}(h0:(lkM s.nm k).getD 0=0):lkM s.nm k=none:=by
 cases hl:lkM s.nm k with
 |none=>rfl
 |some j=>have:=h.nm1 hI hl;rw[hl]at h0;simp at h0;omega
theorem jr(T:s.Top2)(h:s.ok L0 (evFe s inn o)=true):Gr s (s.step L0 (evFe s inn o))∧(s.step L0 (evFe s inn o)).Top2∧lkM (s.step L0 (evFe s inn o)).pl o.url=some (s.t2+1)∧(s.step L0 (evFe s inn o)).nm=s.nm:=by
 obtain⟨hck,hn,_,_,hp⟩:=yt h;have hp:=FP T.n T.i hp;have ck_le:s.t2+1≤1048576:=by
  unfold Leaf.ck at hck;rw[M2]at hck;exact(i6 hck.1 (by show(3:Int)≠13;omega)).2
 obtain⟨he,c8,e⟩:=jq h;have I:=T.i.step (L:=L0) (evFe s inn o);have N:=T.n.step (L:=L0) T.i (evFe s inn o);rw[e]at I N ⊢;refine⟨⟨fun _ _=>rfl,fun k hk=>?_,fun _ _ h=>h,fun k v hk=>?_,Z6 _,by show s.t2≤s.t2+1;omega,N3 _,?_⟩,⟨I,N,T.o,fun k f hf=>?_,T.zo,by have:=T.ze;show 0≤s.t2+1;omega,T.mo,ck_le⟩,?_,rfl⟩
 ·show lkM (upM s.fe s.c2 _ _) k=_;rw[aS,M1 (by rintro rfl;rw[hn]at hk;cases hk)]
 ·show lkM (upM s.pl s.c6 _ _) k=_;rw[aS,M1 (by rintro rfl;rw[hp]at hk;cases hk)];exact hk
 ·show _≤(upM s.fe s.c2 _ _).length;rw[jd];split<;>omega
 ·have hf:lkM (upM s.fe s.c2 (s.t2+1) _) k=some f:=hf;show k≤s.t2+1;rcases aE hf with⟨rfl,_⟩| ⟨_,hf⟩
  ·exact Z6 _
  ·have:=T.e k f hf;omega
 ·show lkM (upM s.pl s.c6 _ _) o.url=_;rw[aS,M7 rfl]
theorem im(T:s.Top2)(h:s.ok L0 (evFo s inn name)=true):Gr s (s.step L0 (evFo s inn name))∧(s.step L0 (evFo s inn name)).Top2∧(∀k,lkM (s.step L0 (evFo s inn name)).nm k=if k=(inn,name)then some (s.t1+1)else lkM s.nm k)∧(lkM (s.step L0 (evFo s inn name)).fo (s.t1+1)).isSome=true:=by
 obtain⟨hck,hn,_,_,_,hp⟩:=Bt h;have hp:=KO T.n T.i hp;have ck_le:s.t1+1≤1048576:=by
  unfold Leaf.ck at hck;rw[M2]at hck;exact(i6 hck.1 (by show(1:Int)≠13;omega)).2
 obtain⟨he,c8,e⟩:=gE h;have I:=T.i.step (L:=L0) (evFo s inn name);have N:=T.n.step (L:=L0) T.i (evFo s inn name);rw[e]at I N ⊢;refine⟨⟨fun k hk=>?_,fun _ _=>rfl,fun k v hk=>?_,fun _ _ h=>h,by show s.t1≤s.t1+1;omega,Z6 _,?_,N3 _⟩,⟨I,N,fun k f hf=>?_,T.e,by have:=T.zo;show 0≤s.t1+1;omega,T.ze,ck_le,T.me⟩,fun k=>?_,?_⟩
 ·show lkM (upM s.fo s.c1 _ _) k=_;rw[aS,M1 (by rintro rfl;rw[hn]at hk;cases hk)]
 ·show lkM (upM s.nm s.c5 _ _) k=_;rw[aS,M1 (by rintro rfl;rw[hp]at hk;cases hk)];exact hk
 ·show _≤(upM s.fo s.c1 _ _).length;rw[jd];split<;>omega
 ·have hf:lkM (upM s.fo s.c1 (s.t1+1) _) k=some f:=hf;show k≤s.t1+1;rcases aE hf with⟨rfl,_⟩| ⟨_,hf⟩
  ·exact Z6 _
  ·have:=T.o k f hf;omega
 ·show lkM (upM s.nm s.c5 _ _) k=_;rw[aS]
 ·show(lkM (upM s.fo s.c1 _ _) (s.t1+1)).isSome=true;rw[aS,M7 rfl];rfl
theorem rK{s s':PS}(hI:s.Inv)(hI':s'.Inv)(h:Gr s s'):∀(n:Nat) (id:Int),id=0∨(lkM s.fo id).isSome=true→deepO s'.fo n id=deepO s.fo n id:=by
 have z:∀s:PS,s.Inv→lkM s.fo 0=none:=fun s hI=>by
  cases hl:lkM s.fo 0 with
  |none=>rfl
  |some f=>have:=(hI.i1 _ _ hl).2;omega
 intro n;induction n with
 |zero=>
  intro id hid;unfold deepO;rcases hid with rfl|hid
  ·rw[z s hI,z s' hI']
  ·rw[h.fo id hid]
 |succ n ih=>
  intro id hid;unfold deepO;rcases hid with rfl|hid
  ·rw[z s hI,z s' hI']
  ·rw[h.fo id hid];obtain⟨f,hf⟩:=aF hid;rw[hf];simp only[];rw[ih f.inn (hI.u1 _ _ hf)]
theorem ln{s s':PS}(h:Gr s s')(hw:s.within inn=true):s'.within inn=true:=by
 unfold PS.within at hw ⊢;rw[Q9]at hw ⊢;rcases hw with hw|hw
 ·exact .inl hw
 ·right;rw[h.fo _ hw];exact hw
theorem lr(hw:s.within inn=true):inn=0∨(lkM s.fo inn).isSome=true:=by
 unfold PS.within at hw;rw[Q9,M8]at hw;exact hw
theorem DP{s s':PS}(T:s.Top2)(T':s'.Top2)(h:Gr s s')(hw:s.within inn=true)(hb:s.ok L0 (evFe s inn o)=false):s'.ok L0 (evFe s' inn o)=false:=by
 have k3':(evFe s' inn o).kind=3:=rfl;have k3:(evFe s inn o).kind=3:=rfl;cases hk:s'.ok L0 (evFe s' inn o)with
 |false=>rfl
 |true=>
  exfalso;obtain⟨a1,_,a3,_,a5⟩:=yt hk;have hpn:=FP T'.n T'.i a5;have hps:lkM s.pl o.url=none:=by
   cases hl:lkM s.pl o.url with
   |none=>rfl
   |some v=>have:=h.pl _ _ hl;rw[hpn]at this;cases this
  have hf:lkM s.fe (s.t2+1)=none:=by
   cases hl:lkM s.fe (s.t2+1)with
   |none=>rfl
   |some f=>have:=T.e _ _ hl;omega
  have hck:L0.ck (evFe s inn o)=true:=by
   unfold Leaf.ck at a1 ⊢;rw[M2]at a1 ⊢;refine⟨?_,by simp[usedE,evFe]⟩;have a1:=a1.1;unfold Leaf.right at a1 ⊢;rw[M1 (by omega),M1 (by omega),M7 k3']at a1;rw[M1 (by omega),M1 (by omega),M7 k3];rw[M2]at a1 ⊢;refine⟨?_,a1.2⟩;have:=a1.1;have h2:=h.t2;have h0:=T.ze;unfold idF at this ⊢;simp only[M2,M8]at this ⊢;have e1:(evFe s' inn o).a=s'.t2+1:=rfl;have e2:(evFe s inn o).a=s.t2+1:=rfl;rw[e1]at this;rw[e2];omega
  have:s.ok L0 (evFe s inn o)=true:=by
   unfold PS.ok PS.fits;rw[hck,M1 (by omega),M1 (by omega),M7 k3];have h3:s.fe.length<64:=(by have:=h.le;omega);simp[evFe,hf,h3,hw,hps]
  rw[hb]at this;cases this
theorem yZ{s s':PS}(T:s.Top2)(T':s'.Top2)(h:Gr s s')(hw:s.within inn=true)(h0:foId s inn name=0)(hb:s.ok L0 (evFo s inn name)=false):s'.ok L0 (evFo s' inn name)=false:=by
 have k1':(evFo s' inn name).kind=1:=rfl;have k1:(evFo s inn name).kind=1:=rfl;cases hk:s'.ok L0 (evFo s' inn name)with
 |false=>rfl
 |true=>
  exfalso;obtain⟨a1,_,a3,_,a5,a6⟩:=Bt hk;have hf:lkM s.fo (s.t1+1)=none:=by
   cases hl:lkM s.fo (s.t1+1)with
   |none=>rfl
   |some f=>have:=T.o _ _ hl;omega
  have hd:s'.dpt inn=s.dpt inn:=by unfold PS.dpt;rw[rK T.i T'.i h 7 inn (lr hw)]
  have hck:L0.ck (evFo s inn name)=true:=by
   unfold Leaf.ck at a1 ⊢;rw[M2]at a1 ⊢;refine⟨?_,by simp[usedE,evFo]⟩;have a1:=a1.1;unfold Leaf.right at a1 ⊢;rw[M7 k1']at a1;rw[M7 k1];rw[M2]at a1 ⊢;refine⟨?_,a1.2⟩;have:=a1.1;have h2:=h.t1;have h0:=T.zo;unfold idF at this ⊢;simp only[M2,M8]at this ⊢;have e1:(evFo s' inn name).a=s'.t1+1:=rfl;have e2:(evFo s inn name).a=s.t1+1:=rfl;rw[e1]at this;rw[e2];omega
  have:s.ok L0 (evFo s inn name)=true:=by
   unfold PS.ok PS.fits;rw[hck,M7 k1];have h3:s.fo.length<64:=(by have:=h.lo;omega);rw[hd]at a5;have h4:(lkM s.nm (inn,name)).getD 0=0:=h0;have h5:s.dpt inn<7:=a5;simp[evFo,hf,h3,hw,h4,h5]
  rw[hb]at this;cases this
end
inductive Run:PS→PS→Prop
 |refl (s:PS):Run s s
 |fe {s t:PS} (inn:Int) (o:Outl):Run s t→t.ok L0 (evFe t inn o)=true→Run s (t.step L0 (evFe t inn o))
 |fo {s t:PS} (inn:Int) (name:Bs):Run s t→t.ok L0 (evFo t inn name)=true→Run s (t.step L0 (evFo t inn name))
theorem Run.trans{a b c:PS}(h:Run a b)(g:Run b c):Run a c:=by
 induction g with
 |refl=>exact h
 |fe inn o _ hk ih=>exact .fe inn o ih hk
 |fo inn name _ hk ih=>exact .fo inn name ih hk
theorem Run.gr{s t:PS}(h:Run s t)(T:s.Top2):Gr s t∧t.Top2:=by
 induction h with
 |refl=>exact⟨Gr.refl _,T⟩
 |fe inn o _ hk ih=>have g:=jr ih.2 hk;exact⟨ih.1.trans g.1,g.2.1⟩
 |fo inn name _ hk ih=>have g:=im ih.2 hk;exact⟨ih.1.trans g.1,g.2.1⟩
theorem Run.no{s t:PS}(h:Run s t){inn:Int}{name:Bs}(T:s.Top2)(hw:s.within inn=true)(h0:foId s inn name=0)(hb:s.ok L0 (evFo s inn name)=false):foId t inn name=0∧t.ok L0 (evFo t inn name)=false:=by
 have key:foId t inn name=0:=by
  induction h with
  |refl=>exact h0
  |fe inn2 o hr hk ih=>
   have g:=hr.gr T;have:=(jr g.2 hk).2.2.2;unfold foId at ih ⊢;rw[this];exact ih
  |fo inn2 name2 hr hk ih=>
   have g:=hr.gr T;have hnm:=(im g.2 hk).2.2.1 (inn,name);unfold foId at ih ⊢;rw[hnm];split
   ·rename_i e;cases e;have:=yZ T g.2 g.1 hw h0 hb;rw[hk]at this;cases this
   ·exact ih
 exact⟨key,yZ T (h.gr T).2 (h.gr T).1 hw h0 hb⟩
structure Br (s:PS) (p:PS×List Ev):Prop where
 t:p.1.Top2
 r:Run s p.1
 f:p.1=p.2.foldl (PS.step L0) s
 a:fitAll s p.2=true
 k:∀e∈p.2,e.kind=1∨e.kind=3
theorem Br.nil{s:PS}(T:s.Top2):Br s (s,[]):=⟨T,.refl _,rfl,rfl,fun e he=>by cases he⟩
theorem Br.app{s a b:PS}{x y:List Ev}(h:Br s (a,x))(g:Br a (b,y)):Br s (b,x++y) where
 t:=g.t
 r:=h.r.trans g.r
 f:=by
  have h1:a=x.foldl (PS.step L0) s:=h.f;have h2:b=y.foldl (PS.step L0) a:=g.f;show b=(x++y).foldl _ s;rw[List.foldl_append, ← h1];exact h2
 a:=by
  have h1:a=x.foldl (PS.step L0) s:=h.f;show fitAll s (x++y)=true;rw[Ad,M2, ← h1];exact⟨h.a,g.a⟩
 k:=fun e he=>(Q6.1 he).elim (h.k e) (g.k e)
section
variable {nf:Bs→Bs} {g:Int→List Outl→PS→PS×List Ev} {s:PS} {inn:Int}
theorem nS{s:PS}{j inn:Int}{name:Bs}(T:s.Top2)(hj:foId s inn name=j)(h0:j≠0):s.within j=true:=by
 unfold foId at hj;cases hl:lkM s.nm (inn,name)with
 |none=>rw[hl]at hj;exact absurd hj.symm h0
 |some v=>
  rw[hl]at hj;obtain⟨f,hf,_⟩:=T.n.n1 _ _ hl;have hj:v=j:=hj;subst hj;unfold PS.within;rw[hf];simp
theorem iZ(hg:∀inn l s,s.Top2→s.within inn=true→Br s (g inn l s))(T:s.Top2)(hw:s.within inn=true)(o:Outl):Br s (oneG nf g inn o s):=by
 unfold oneG;split
 ·unfold putF;split
  ·rename_i hk;exact⟨(jr T hk).2.1,.fe inn o (.refl s) hk,rfl,by rw[fitAll,hk];rfl,fun e he=>by rw[Q7]at he;subst he;exact .inr rfl⟩
  ·exact Br.nil T
 ·split
  ·rename_i h0;exact hg _ _ _ T (nS T rfl h0)
  ·split
   ·rename_i hk;have g1:=im T hk;have b1:Br s (s.step L0 (evFo s inn (nf o.title)),[evFo s inn (nf o.title)]):=⟨g1.2.1,.fo inn _ (.refl s) hk,rfl,by rw[fitAll,hk];rfl,fun e he=>by rw[Q7]at he;subst he;exact .inl rfl⟩
    exact b1.app (hg (s.t1+1) o.kids _ g1.2.1 (by unfold PS.within;rw[g1.2.2.2];simp))
   ·exact hg _ _ _ T hw
theorem j0{h:Outl→PS→PS×List Ev}(hh:∀o s,s.Top2→s.within inn=true→Br s (h o s)):∀(l:List Outl) (s:PS),s.Top2→s.within inn=true→Br s (lstG h l s)
 | [],s,T,_=>Br.nil T
 |o::l,s,T,hw=>by
  have b1:=hh o s T hw;exact b1.app (j0 hh l _ b1.t (ln (b1.r.gr T).1 hw))
theorem eG:∀(k:Nat) (inn:Int) (l:List Outl) (s:PS),s.Top2→s.within inn=true→Br s (brgF nf k inn l s)
 |0,_,_,_,T,_=>Br.nil T
 |k+1,inn,l,s,T,hw=>j0 (fun o s T hw=>iZ (eG k) T hw o) l s T hw
theorem nu{h:Outl→PS→PS×List Ev}(hh:∀o s,s.Top2→s.within inn=true→Br s (h o s))(ha:∀o s z,s.Top2→s.within inn=true→Run (h o s).1 z→h o z=(z,[])):
  ∀(l:List Outl) (s z:PS),s.Top2→s.within inn=true→Run (lstG h l s).1 z→lstG h l z=(z,[])
 | [],_,_,_,_,_=>rfl
 |o::l,s,z,T,hw,hr=>by
  have b1:=hh o s T hw;have w1:=ln (b1.r.gr T).1 hw;have b2:=j0 hh l _ b1.t w1;have h1:=ha o s z T hw (b2.r.trans hr);have h2:=nu hh ha l _ z b1.t w1 hr;rw[lstG,h1];show((lstG h l z).1,[]++(lstG h l z).2)=_;rw[h2];rfl
theorem vJ(hg:∀inn l s,s.Top2→s.within inn=true→Br s (g inn l s))(ha:∀inn l s z,s.Top2→s.within inn=true→Run (g inn l s).1 z→g inn l z=(z,[]))(o:Outl)(s z:PS)(T:s.Top2)(hw:s.within inn=true)(hr:Run (oneG nf g inn o s).1 z):oneG nf g inn o z=(z,[]):=by
 have Tz:=(((iZ hg T hw o).r).trans hr).gr T;unfold oneG at hr ⊢;by_cases hu:o.url≠ []
 ·rw[M7 hu]at hr ⊢;unfold putF at hr ⊢;by_cases hk:s.ok L0 (evFe s inn o)=true
  ·rw[M7 hk]at hr;have g1:=jr T hk;have g2:=hr.gr g1.2.1;have hp:=g2.1.pl _ _ g1.2.2.1;rw[M1];intro h;have:=(yt h).2.2.2.2;rw[hp]at this;have h0:=T.ze;have this:s.t2+1=0:=this;omega
  ·have hk:s.ok L0 (evFe s inn o)=false:=(by simpa using hk);rw[M1 (by rw[DP T Tz.2 Tz.1 hw hk];simp)]
 ·rw[M1 hu]at hr ⊢;by_cases h0:foId s inn (nf o.title)≠0
  ·rw[M7 h0]at hr;have e:foId z inn (nf o.title)=foId s inn (nf o.title):=by
    unfold foId at h0 ⊢;cases hl:lkM s.nm (inn,nf o.title)with
    |none=>rw[hl]at h0;exact absurd rfl h0
    |some v=>rw[Tz.1.nm _ _ hl]
   rw[M7 (by rw[e];exact h0),e];exact ha _ _ s z T (nS T rfl h0) hr
  ·rw[M1 h0]at hr;have h0:foId s inn (nf o.title)=0:=Decidable.byContradiction h0;by_cases hk:s.ok L0 (evFo s inn (nf o.title))=true
   ·rw[M7 hk]at hr;have g1:=im T hk;have w1:(s.step L0 (evFo s inn (nf o.title))).within (s.t1+1)=true:=(by unfold PS.within;rw[g1.2.2.2];simp);have b1:=hg (s.t1+1) o.kids _ g1.2.1 w1;have hr:Run (g (s.t1+1) o.kids (s.step L0 (evFo s inn (nf o.title)))).1 z:=hr;have g2:=(b1.r.trans hr).gr g1.2.1;have e:foId z inn (nf o.title)=s.t1+1:=by
     unfold foId;rw[g2.1.nm _ (s.t1+1) (by rw[g1.2.2.1,M7 rfl])];rfl
    have:=T.zo;rw[M7 (by rw[e];omega),e];exact ha _ _ _ z g1.2.1 w1 hr
   ·have hk:s.ok L0 (evFo s inn (nf o.title))=false:=(by simpa using hk);rw[M1 (by rw[hk];simp)]at hr;have b1:=hg inn o.kids s T hw;have hn:=(b1.r.trans hr).no T hw h0 hk;rw[M1 (by rw[hn.1];simp),M1 (by rw[hn.2];simp)];exact ha _ _ s z T hw hr
theorem j4:∀(k:Nat) (inn:Int) (l:List Outl) (s z:PS),s.Top2→s.within inn=true→Run (brgF nf k inn l s).1 z→brgF nf k inn l z=(z,[])
 |0,_,_,_,_,_,_,_=>rfl
 |k+1,inn,l,s,z,T,hw,hr=>nu (fun o s T hw=>iZ brg_br' T hw o) (fun o s z T hw hr=>vJ brg_br' (j4 k) o s z T hw hr) l s z T hw hr
where brg_br' {k:Nat}:∀inn l s,s.Top2→s.within inn=true→Br s (brgF nf k inn l s):=eG k
end
def fdK:Nat→List Outl→List Outl
 |0,_=>[]
 |k+1,l=>l.flatMap fun o=>if o.url≠ []then [o]else fdK k o.kids
def okK:Nat→List Outl→Prop
 |0,l=>l=[]
 |k+1,l=>∀o∈l,oneOk o=true∧okK k o.kids
theorem nT:∀(f:Nat) (l:List Outl),cntN f l≤512→okK f l
 |0,l,h=>by
  rw[cntN]at h;show l=[]
  by_cases hl:l=[]
  ·exact hl
  ·rw[M1 hl]at h;omega
 |f+1,l,h=>by
  rw[cntN]at h;by_cases hl:512<l.length
  ·rw[M7 hl]at h;omega
  rw[M1 hl]at h;have key:∀(l:List Outl) (n:Nat),cntGo (cntN f) l n≤512→∀o∈l,oneOk o=true∧okK f o.kids:=by
   intro l;induction l with
   |nil=>intro n _ o ho;cases ho
   |cons x l ih=>
    intro n hn o ho;rw[cntGo]at hn;by_cases hx:oneOk x=true
    ·rw[M7 hx]at hn;by_cases h5:512<n+cntN f x.kids
     ·rw[M7 h5]at hn;omega
     ·rw[M1 h5]at hn;rcases O5.1 ho with rfl|ho
      ·exact⟨hx,nT f _ (by omega)⟩
      ·exact ih _ hn o ho
    ·rw[M1 hx]at hn;omega
  exact key l _ h
theorem vK(f:Outl→List Outl)(d:Nat):∀(l:List Outl),(∀o∈l,feedsO o d=f o)→feedsL l d=l.flatMap f
 | [],_=>by rw[feedsL,zb0]
 |o::l,h=>by rw[feedsL,R8,h o (by simp),vK f d l fun x hx=>h x (by simp[hx])]
theorem z8:∀(k d:Nat) (l:List Outl),okK k l→k+d=9→feedsF l d=fdK k l
 |0,d,l,_,h=>by
  unfold feedsF fdK;rw[M7 (by omega)]
 |k+1,d,l,hk,h=>by
  unfold feedsF fdK;rw[M1 (by omega)];refine vK _ d l fun o ho=>?_
  have h1:=hk o ho;rw[uL];by_cases hu:o.url=[]
  ·rw[M7 hu,M1 (by simp[hu]),P2];exact z8 k (d+1) o.kids h1.2 (by omega)
  ·rw[M1 hu,M7 hu];have h2:=h1.1;unfold oneOk at h2;simp only[M2,Q9,M8]at h2;rcases h2.2 with h3|h3
   ·exact absurd h3 hu
   ·rw[h3];have:feedsF [] (d+1)=[]:=by unfold feedsF;split<;>rfl
    rw[this];rfl
section
variable {nf:Bs→Bs} {g:Int→List Outl→PS→PS×List Ev} {s:PS} {inn:Int}
theorem Bu{o:Outl}(T:s.Top2)(hw:s.within inn=true)(hu:o.url≠ [])(ho:oneOk o=true)(h1:s.fe.length<64)(h2:s.t2+1≤1048576)(hp:lkM s.pl o.url=none):s.ok L0 (evFe s inn o)=true:=by
 have k3:(evFe s inn o).kind=3:=rfl;have hf:lkM s.fe (s.t2+1)=none:=by
  cases hl:lkM s.fe (s.t2+1)with
  |none=>rfl
  |some f=>have:=T.e _ _ hl;omega
 unfold oneOk at ho;simp only[M2]at ho;have hz:=T.ze;have hi:(inn==0||idF inn)=true:=by
  rcases lr hw with rfl|h
  ·rfl
  ·obtain⟨f,hf⟩:=aF h;have:=(T.i.i1 _ _ hf).2;have e:idF inn=true:=(by unfold idF;simp;omega);rw[e];simp
 have hck:L0.ck (evFe s inn o)=true:=by
  unfold Leaf.ck;rw[M2];refine⟨?_,by simp[usedE,evFe]⟩;have g1:idF (s.t2+1)=true:=by unfold idF;simp;omega
  have g3:L0.place o.url=true:=by
   show(!(o.url==[])&&textF rightS cleanF o.url 512)=true;have h5:=rJ ho.1.2;rw[show((512:Nat):Int)=512 from rfl]at h5;rw[h5];simpa using hu
  have g4:L0.title o.title=true:=rJ ho.1.1.2;unfold Leaf.right;rw[M1 (by omega),M1 (by omega),M7 k3];show(idF (s.t2+1)&&((inn==0||idF inn)&&(L0.place o.url&&L0.title o.title)))=true;rw[g1,hi,g3,g4];rfl
 unfold PS.ok PS.fits;rw[hck,M1 (by omega),M1 (by omega),M7 k3];simp[evFe,hf,h1,hw,hp]
structure Pl (s z:PS) (l:List Outl):Prop where
 n:z.fe.length≤s.fe.length+l.length
 t:z.t2≤s.t2+l.length
 p:s.fe.length+l.length≤64→s.t2+l.length≤1048576→∀o∈l,(lkM z.pl o.url).isSome=true
theorem Pl.nil(s:PS):Pl s s []:=⟨N3 _,by simp,fun _ _ o h=>by cases h⟩
theorem Pl.app{s a b:PS}{x y:List Outl}(h:Pl s a x)(g:Pl a b y)(hr:Gr a b):Pl s b (x++y) where
 n:=by have:=h.n;have:=g.n;rw[M3];omega
 t:=by have:=h.t;have:=g.t;rw[M3];omega
 p:=fun h1 h2 o ho=>by
  rw[M3]at h1 h2;have hn:=h.n;have ht:=h.t;rcases Q6.1 ho with ho|ho
  ·obtain⟨v,hv⟩:=aF (h.p (by omega) (by omega) o ho);rw[hr.pl _ _ hv];rfl
  ·exact g.p (by omega) (by omega) o ho
theorem Pl.same{s a b:PS}{x:List Outl}(h:Pl a b x)(h1:a.fe.length=s.fe.length)(h2:a.t2=s.t2):Pl s b x:=⟨h1▸h.n,h2▸h.t,fun k1 k2=>h.p (by omega) (by omega)⟩
theorem Bv{k:Nat}(hg:∀inn l s,s.Top2→s.within inn=true→okK k l→Pl s (g inn l s).1 (fdK k l))(T:s.Top2)(hw:s.within inn=true)(o:Outl)(ho:oneOk o=true)(hk:okK k o.kids):
  Pl s (oneG nf g inn o s).1 (if o.url≠ []then [o]else fdK k o.kids):=by
 unfold oneG;by_cases hu:o.url≠ []
 ·rw[M7 hu,M7 hu];unfold putF;by_cases hk:s.ok L0 (evFe s inn o)=true
  ·rw[M7 hk];have g1:=jr T hk;obtain⟨he,c8,e⟩:=jq hk;refine⟨?_,?_,fun _ _ x hx=>?_⟩
   ·show(s.step L0 (evFe s inn o)).fe.length≤_;rw[e];show(upM s.fe s.c2 _ _).length≤_;rw[jd];split<;>simp
   ·show(s.step L0 (evFe s inn o)).t2≤_;rw[e];show s.t2+1≤_;simp
   ·rw[Q7]at hx;subst hx;show(lkM (s.step L0 (evFe s inn x)).pl x.url).isSome=true;rw[g1.2.2.1];rfl
  ·rw[M1 hk];refine⟨by simp,by simp;omega,fun h1 h2 x hx=>?_⟩;rw[Q7]at hx;subst hx;show(lkM s.pl x.url).isSome=true;cases hl:lkM s.pl x.url with
   |some v=>rfl
   |none=>
    exfalso;simp only[U8]at h1 h2;exact hk (Bu T hw hu ho (by omega) (by omega) hl)
 ·rw[M1 hu,M1 hu];by_cases h0:foId s inn (nf o.title)≠0
  ·rw[M7 h0];exact hg _ _ _ T (nS T rfl h0) hk
  ·rw[M1 h0];by_cases hf:s.ok L0 (evFo s inn (nf o.title))=true
   ·rw[M7 hf];have g1:=im T hf;obtain⟨he,c8,e⟩:=gE hf;exact(hg (s.t1+1) o.kids _ g1.2.1 (by unfold PS.within;rw[g1.2.2.2];simp) hk).same (by rw[e]) (by rw[e])
   ·rw[M1 hf];exact hg _ _ _ T hw hk
theorem vL{h:Outl→PS→PS×List Ev}{f:Outl→List Outl}{ok:Outl→Prop}(hh:∀o s,s.Top2→s.within inn=true→Br s (h o s))(hp:∀o s,s.Top2→s.within inn=true→ok o→Pl s (h o s).1 (f o)):
  ∀(l:List Outl) (s:PS),s.Top2→s.within inn=true→(∀o∈l,ok o)→Pl s (lstG h l s).1 (l.flatMap f)
 | [],s,_,_,_=>Pl.nil s
 |o::l,s,T,hw,hok=>by
  have b1:=hh o s T hw;have w1:=ln (b1.r.gr T).1 hw;have b2:=j0 hh l _ b1.t w1;rw[R8];exact(hp o s T hw (hok o (by simp))).app (vL hh hp l _ b1.t w1 fun x hx=>hok x (by simp[hx])) (b2.r.gr b1.t).1
theorem vN:∀(k:Nat) (inn:Int) (l:List Outl) (s:PS),s.Top2→s.within inn=true→okK k l→Pl s (brgF nf k inn l s).1 (fdK k l)
 |0,_,_,s,_,_,_=>Pl.nil s
 |k+1,inn,l,s,T,hw,hok=>vL (fun o s T hw=>iZ (fun inn l s T hw=>eG k inn l s T hw) T hw o) (fun o s T hw h=>Bv (vN k) T hw o h.1 h.2) l s T hw hok
end
variable {s:PS} {e:Ev}
structure Aft (s z:PS) (e:Ev):Prop where
 fo:∀k f,lkM z.fo k=some f→(lkM s.fo k).isSome=true∨(e.kind=1∧k=e.a)
 fe:∀k f,lkM z.fe k=some f→(lkM s.fe k).isSome=true∨(e.kind=3∧k=e.a)
 t1:z.t1=if e.kind=1 then(if e.a>s.t1 then e.a else s.t1)else s.t1
 t2:z.t2=if e.kind=3 then(if e.a>s.t2 then e.a else s.t2)else s.t2
theorem Aft.same{z:PS}(h1:e.kind≠1)(h3:e.kind≠3)(a:z.fo=s.fo)(b:z.fe=s.fe)(c:z.t1=s.t1)(d:z.t2=s.t2):Aft s z e:=
 ⟨fun k f hf=>.inl (by rw[a]at hf;rw[hf];rfl),fun k f hf=>.inl (by rw[b]at hf;rw[hf];rfl),by rw[M1 h1,c],by rw[M1 h3,d]⟩
theorem cm(s:PS)(id k:Int):(s.hold id k).fo=s.fo∧(s.hold id k).fe=s.fe∧(s.hold id k).t1=s.t1∧(s.hold id k).t2=s.t2:=by rw[bC];exact⟨rfl,rfl,rfl,rfl⟩
theorem Aft.of{a z:PS}(h:Aft s a e)(h1:z.fo=a.fo)(h2:z.fe=a.fe)(h3:z.t1=a.t1)(h4:z.t2=a.t2):Aft s z e:=⟨by rw[h1];exact h.fo,by rw[h2];exact h.fe,by rw[h3];exact h.t1,by rw[h4];exact h.t2⟩
theorem za{s:PS}{c:Nat}{x:Int}{a:Fe}(hx:(lkM s.fe x).isSome=true):∀k f,lkM (upM s.fe c x a) k=some f→(lkM s.fe k).isSome=true:=fun k f hf=>by
 rcases aE hf with⟨rfl,_⟩| ⟨_,hf⟩
 ·exact hx
 ·rw[hf];rfl
theorem DQ(hI:s.Inv)(hok:s.ok L0 e=true):Aft s (s.aft e) e:=by
 unfold PS.ok PS.fits at hok;rw[M2]at hok;have hfit:=hok.2;clear hok;unfold PS.aft PS.after;split
 ·have h:=cm ((s.dlNm (((lkM s.fo e.a).getD Fo.z).inn,((lkM s.fo e.a).getD Fo.z).name)).dlFo e.a) ((lkM s.fo e.a).getD Fo.z).inn (-1);refine Aft.of (a:=(s.dlNm (((lkM s.fo e.a).getD Fo.z).inn,((lkM s.fo e.a).getD Fo.z).name)).dlFo e.a) ⟨fun k f hf=>?_,fun k f hf=>.inl ?_,?_,?_⟩ h.1 h.2.1 h.2.2.1 h.2.2.2
  ·have hf:lkM (dlM s.fo e.a) k=some f:=hf;left;rw[(cJ hI.w1.keys hf).2];rfl
  ·have hf:lkM s.fe k=some f:=hf;rw[hf];rfl
  ·rw[M1 (by omega)];rfl
  ·rw[M1 (by omega)];rfl
 split
 ·have h:=cm ((({s with it:=itF s.it ((lkM s.fe e.a).getD Fe.z).id,gu:=guF s.it s.gu ((lkM s.fe e.a).getD Fe.z).id}:PS).dlPl ((lkM s.fe e.a).getD Fe.z).url).dlFe ((lkM s.fe e.a).getD Fe.z).id) ((lkM s.fe e.a).getD Fe.z).inn (-1);refine Aft.of (a:=(({s with it:=itF s.it ((lkM s.fe e.a).getD Fe.z).id,gu:=guF s.it s.gu ((lkM s.fe e.a).getD Fe.z).id}:PS).dlPl ((lkM s.fe e.a).getD Fe.z).url).dlFe ((lkM s.fe e.a).getD Fe.z).id) ⟨fun k f hf=>.inl ?_,fun k f hf=>.inl ?_,?_,?_⟩ h.1 h.2.1 h.2.2.1 h.2.2.2
  ·have hf:lkM s.fo k=some f:=hf;rw[hf];rfl
  ·have hf:lkM (dlM s.fe ((lkM s.fe e.a).getD Fe.z).id) k=some f:=hf;rw[(cJ hI.w2.keys hf).2];rfl
  ·rw[M1 (by omega)];rfl
  ·rw[M1 (by omega)];rfl
 split
 ·rename_i k5;rw[M1 (by omega),M1 (by omega),M1 (by omega),M7 (.inr k5)]at hfit;refine⟨fun k f hf=>.inl ?_,fun k f hf=>.inl (za hfit k f hf),?_,?_⟩
  ·have hf:lkM s.fo k=some f:=hf;rw[hf];rfl
  ·rw[M1 (by omega)];rfl
  ·rw[M1 (by omega)];rfl
 split
 ·rename_i k6;rw[M1 (by omega),M1 (by omega),M1 (by omega),M1 (by omega),M7 k6,M2]at hfit;have h1:=cm s ((lkM s.fe e.a).getD Fe.z).inn (-1);have h2:=cm (s.hold ((lkM s.fe e.a).getD Fe.z).inn (-1)) e.b 1;refine⟨fun k f hf=>.inl ?_,fun k f hf=>.inl ?_,?_,?_⟩
  ·have hf:lkM ((s.hold ((lkM s.fe e.a).getD Fe.z).inn (-1)).hold e.b 1).fo k=some f:=hf;rw[h2.1,h1.1]at hf;rw[hf];rfl
  ·have hf:lkM (upM ((s.hold ((lkM s.fe e.a).getD Fe.z).inn (-1)).hold e.b 1).fe _ e.a _) k=some f:=hf;rw[h2.2.1,h1.2.1]at hf;exact za hfit.1 k f hf
  ·show((s.hold ((lkM s.fe e.a).getD Fe.z).inn (-1)).hold e.b 1).t1=_;rw[M1 (by omega),h2.2.2.1,h1.2.2.1]
  ·show((s.hold ((lkM s.fe e.a).getD Fe.z).inn (-1)).hold e.b 1).t2=_;rw[M1 (by omega),h2.2.2.2,h1.2.2.2]
 split
 ·exact Aft.same (by omega) (by omega) rfl rfl rfl rfl
 split
 ·exact Aft.same (by omega) (by omega) rfl rfl rfl rfl
 split
 ·exact Aft.same (by omega) (by omega) rfl rfl rfl rfl
 split
 ·exact Aft.same (by omega) (by omega) rfl rfl rfl rfl
 split
 ·exact Aft.same (by omega) (by omega) rfl rfl rfl rfl
 unfold PS.make;split
 ·rename_i k1;have h:=cm ((s.upFo e.a ⟨e.a,e.b,e.s⟩).upNm (e.b,e.s) e.a) e.b 1;refine⟨fun k f hf=>?_,fun k f hf=>.inl ?_,?_,?_⟩
  ·have hf:lkM (PS.hold ((s.upFo e.a ⟨e.a,e.b,e.s⟩).upNm (e.b,e.s) e.a) e.b 1).fo k=some f:=hf;rw[h.1]at hf;have hf:lkM (upM s.fo s.c1 e.a _) k=some f:=hf;rcases aE hf with⟨rfl,_⟩| ⟨_,hf⟩
   ·exact .inr ⟨k1,rfl⟩
   ·left;rw[hf];rfl
  ·have hf:lkM (PS.hold ((s.upFo e.a ⟨e.a,e.b,e.s⟩).upNm (e.b,e.s) e.a) e.b 1).fe k=some f:=hf;rw[h.2.1]at hf;have hf:lkM s.fe k=some f:=hf;rw[hf];rfl
  ·rw[M7 k1];show(if e.a>(PS.hold ((s.upFo e.a ⟨e.a,e.b,e.s⟩).upNm (e.b,e.s) e.a) e.b 1).t1 then e.a else(PS.hold ((s.upFo e.a ⟨e.a,e.b,e.s⟩).upNm (e.b,e.s) e.a) e.b 1).t1)=_;rw[h.2.2.1];rfl
  ·rw[M1 (by omega)];show(PS.hold ((s.upFo e.a ⟨e.a,e.b,e.s⟩).upNm (e.b,e.s) e.a) e.b 1).t2=_;rw[h.2.2.2];rfl
 split
 ·rename_i k3;have h:=cm ((s.upFe e.a ⟨e.a,e.b,e.s,e.t⟩).upPl e.s e.a) e.b 1;refine⟨fun k f hf=>.inl ?_,fun k f hf=>?_,?_,?_⟩
  ·have hf:lkM (PS.hold ((s.upFe e.a ⟨e.a,e.b,e.s,e.t⟩).upPl e.s e.a) e.b 1).fo k=some f:=hf;rw[h.1]at hf;have hf:lkM s.fo k=some f:=hf;rw[hf];rfl
  ·have hf:lkM (PS.hold ((s.upFe e.a ⟨e.a,e.b,e.s,e.t⟩).upPl e.s e.a) e.b 1).fe k=some f:=hf;rw[h.2.1]at hf;have hf:lkM (upM s.fe s.c2 e.a _) k=some f:=hf;rcases aE hf with⟨rfl,_⟩| ⟨_,hf⟩
   ·exact .inr ⟨k3,rfl⟩
   ·left;rw[hf];rfl
  ·rw[M1 (by omega)];show(PS.hold ((s.upFe e.a ⟨e.a,e.b,e.s,e.t⟩).upPl e.s e.a) e.b 1).t1=_;rw[h.2.2.1];rfl
  ·rw[M7 k3];show(if e.a>(PS.hold ((s.upFe e.a ⟨e.a,e.b,e.s,e.t⟩).upPl e.s e.a) e.b 1).t2 then e.a else(PS.hold ((s.upFe e.a ⟨e.a,e.b,e.s,e.t⟩).upPl e.s e.a) e.b 1).t2)=_;rw[h.2.2.2];rfl
 split
 ·exact Aft.same (by omega) (by omega) rfl rfl rfl rfl
 split
 ·exact Aft.same (by omega) (by omega) rfl rfl rfl rfl
 exact Aft.same (by omega) (by omega) rfl rfl rfl rfl
theorem PS.Top2.z0:PS.z.Top2:=⟨PS.Inv.z,PS.Nam.z,(fun _ _ h=>by cases h),(fun _ _ h=>by cases h),Z6 _,Z6 _,(by show(0:Int)≤1048576;omega),(by show(0:Int)≤1048576;omega)⟩
theorem PS.Top2.step(T:s.Top2)(e:Ev):(s.step L0 e).Top2:=by
 have I:=T.i.step (L:=L0) e;have N:=T.n.step (L:=L0) T.i e;unfold PS.step at I N ⊢;split
 ·rename_i hok;rw[M7 hok]at I N;have A:=DQ T.i hok;have zo:=T.zo;have ze:=T.ze;have mo:=T.mo;have me:=T.me;have hid:e.kind≠13→e.a≤1048576:=fun h13=>by
   unfold PS.ok PS.fits at hok;rw[M2]at hok;have hck:=hok.1;unfold Leaf.ck at hck;rw[M2]at hck;exact(i6 hck.1 h13).2
  refine⟨I,N,fun k f hf=>?_,fun k f hf=>?_,?_,?_,?_,?_⟩
  ·rw[A.t1];rcases A.fo k f hf with h| ⟨h1,rfl⟩
   ·obtain⟨g,hg⟩:=aF h;have:=T.o k g hg;split<;>(try split)<;>omega
   ·rw[M7 h1];split<;>omega
  ·rw[A.t2];rcases A.fe k f hf with h| ⟨h1,rfl⟩
   ·obtain⟨g,hg⟩:=aF h;have:=T.e k g hg;split<;>(try split)<;>omega
   ·rw[M7 h1];split<;>omega
  ·rw[A.t1];split<;>(try split)<;>omega
  ·rw[A.t2];split<;>(try split)<;>omega
  ·rw[A.t1];split
   ·have:=hid (by omega);split<;>omega
   ·exact mo
  ·rw[A.t2];split
   ·have:=hid (by omega);split<;>omega
   ·exact me
 ·exact T
theorem PS.Top2.fold(T:s.Top2)(l:List Ev):(l.foldl (PS.step L0) s).Top2:=by
 induction l generalizing s with
 |nil=>exact T
 |cons e l ih=>exact ih (T.step e)
end
section
variable {s z:PS}
theorem vO{α:Type}{z:α}{l:ML Int α}{k:Int}{a:α}(h:lkM l k=some a):a∈valsM z l:=by
 unfold valsM;refine N5.2 ⟨k,?_,by rw[h];rfl⟩;refine(Y6 _ _).mem_iff.2 ?_;obtain⟨n,hn⟩:=dG h;exact N5.2 ⟨_,hn,rfl⟩
def fndN(l:List Fo)(inn:Int)(name:Bs):Int:=((l.find? fun f=>decide (f.inn=inn∧f.name=name)).map (·.id)).getD 0
theorem Ae(T:s.Top2)(inn:Int)(name:Bs):fndN (valsM Fo.z s.fo) inn name=foId s inn name:=by
 unfold fndN foId;cases hf:(valsM Fo.z s.fo).find? fun f=>decide (f.inn=inn∧f.name=name)with
 |none=>
  cases hl:lkM s.nm (inn,name)with
  |none=>rfl
  |some k=>
   obtain⟨f,hk,hu⟩:=T.n.n1 _ _ hl;have:=List.find?_eq_none.1 hf f (vO hk);cases hu;simp at this
 |some f=>
  have h1:=List.find?_some hf;obtain⟨k,hk⟩:=da (List.mem_of_find?_eq_some hf);simp only[M8]at h1;have:=T.n.n2 k f hk;rw[h1.1,h1.2]at this;rw[this];simp only[T3,V6];exact(T.i.i1 _ _ hk).1
theorem tU(nf:Bs→Bs)(T:s.Top2)(m:List Outl)(hm:cntN 8 m≤512):
  fitAll s (brgF nf 8 0 m s).2=true∧(brgF nf 8 0 m s).1=(brgF nf 8 0 m s).2.foldl (PS.step L0) s∧(∀e∈ (brgF nf 8 0 m s).2,e.kind=1∨e.kind=3)∧(brgF nf 8 0 m s).1.Top2∧Gr s (brgF nf 8 0 m s).1∧
   brgF nf 8 0 m (brgF nf 8 0 m s).1=((brgF nf 8 0 m s).1,[])∧
   ((feedsF m 1).length+s.fe.length≤64→(feedsF m 1).length+s.t2≤1048576→∀o∈feedsF m 1,(lkM (brgF nf 8 0 m s).1.pl o.url).isSome=true):=by
 have hw:s.within 0=true:=rfl;have hk:=nT 8 m hm;have b:=eG (nf:=nf) 8 0 m s T hw;have p:=vN (nf:=nf) 8 0 m s T hw hk;rw[z8 8 1 m hk rfl];exact⟨b.a,b.f,b.k,b.t,(b.r.gr T).1,j4 8 0 m s _ T hw (.refl _),fun h1 h2=>p.p (by omega) (by omega)⟩
end
section
theorem kl{l:List Int}(h:l.Nodup):(sortI l).Nodup:=(Y6 l _).nodup_iff.2 h
section
variable {α:Type} {z:α} {key:α→Int} {l:ML Int α} {c:Nat}
theorem ip{k:Int}{a:α}(h:lkM l k=some a):a∈valsM z l:=by
 unfold valsM;refine N5.2 ⟨k,?_,by rw[h];rfl⟩;refine(Y6 _ _).mem_iff.2 ?_;obtain⟨n,hn⟩:=dG h;exact N5.2 ⟨_,hn,rfl⟩
theorem j5(w:WFM l c)(hid:∀k a,lkM l k=some a→key a=k):(valsM z l).map key=sortI (l.map (·.1)):=by
 unfold valsM;rw[List.map_map];have:∀k∈sortI (l.map (·.1)),(key ∘ fun k=>(lkM l k).getD z) k=k:=fun k hk=>by
  have hk2:k∈l.map (·.1):=(Y6 _ _).mem_iff.1 hk;obtain⟨x,hx,rfl⟩:=N5.1 hk2;have:=dw w.keys (b:=x.2.2) (a:=x.2.1) (x:=x.1) hx;simp only[Function.comp,this,V6];exact hid _ _ this
 rw[V1 this,List.map_id']
theorem yu{l:List Int}(h:l.Nodup):(sortI l).Pairwise (· < ·):=by
 have h1:(sortI l).Pairwise fun a b=>decide (a≤b)=true:=List.pairwise_mergeSort (fun a b c h1 h2=>by simp at *;omega) (fun a b=>by simp;omega) l
 have h2:(sortI l).Nodup:=kl h;refine List.Pairwise.imp₂ (R:=fun a b=>decide (a≤b)=true) (S:=fun a b=>a≠b) (fun a b hab hne=>?_) h1 h2;simp at hab;omega
theorem fX(w:WFM l c)(hid:∀k a,lkM l k=some a→key a=k):((valsM z l).map key).Pairwise (· < ·):=by
 rw[j5 w hid];exact yu w.keys
theorem js{L:List α}(h:(L.map key).Pairwise (· < ·)):L.Nodup:=by
 rw[List.pairwise_map]at h;exact h.imp fun hab he=>by rw[he]at hab;omega
theorem tV(w:WFM l c)(hid:∀k a,lkM l k=some a→key a=k){L:List α}(hs:(L.map key).Pairwise (· < ·))(hm:∀a,a∈L↔∃k,lkM l k=some a):valsM z l=L:=by
 have h0:=fX (z:=z) w hid;have hp:(valsM z l).Perm L:=(List.perm_ext_iff_of_nodup (js h0) (js hs)).2 fun a=>by
  rw[hm];exact⟨da,fun⟨k,hk⟩=>ip hk⟩
 rw[List.pairwise_map]at h0 hs;exact List.Perm.eq_of_pairwise (fun a b _ _ h1 h2=>by omega) h0 hs hp
theorem lu(w:WFM l c)(hid:∀k a,lkM l k=some a→key a=k){k:Int}{a:α}(hk:∀j b,lkM l j=some b→j<k)(ha:key a=k):valsM z (upM l c k a)=valsM z l++[a]:=by
 have h0:=fX (z:=z) w hid;refine tV (key:=key) (c:=ckM l c k) (w.up _ _) (fun j b hj=>?_) ?_ fun b=>?_
 ·rcases aE hj with⟨rfl,rfl⟩| ⟨_,h⟩
  ·exact ha
  ·exact hid _ _ h
 ·rw[R3,List.pairwise_append];refine⟨h0,by simp,fun q hq r hr=>?_⟩;obtain⟨b,hb,rfl⟩:=N5.1 hq;obtain⟨j,hj⟩:=da hb;simp only[O3,R5,Q7]at hr;subst hr;rw[ha,hid j b hj];exact hk j b hj
 ·rw[Q6,Q7];constructor
  ·rintro(h|rfl)
   ·obtain⟨j,hj⟩:=da h;exact⟨j,by rw[aS,M1 (by have:=hk j b hj;omega)];exact hj⟩
   ·exact⟨k,by rw[aS,M7 rfl]⟩
  ·rintro⟨j,hj⟩;rcases aE hj with⟨_,rfl⟩| ⟨_,h⟩
   ·exact .inr rfl
   ·exact .inl (ip h)
end
end
section
attribute [local irreducible] WP WPl WPix Sat
variable (G:Nat→Option (List AVal))
theorem jJ(s:Bs)(n:Nat)(hs:s.length≤700000)(hn:n≤1000)(h:Heap):Sat (CT G) 69 [.str s,.int .i64 n] h (fun r h'=>r=.str (shortF s n)∧h'=h):=by
 have h1:=gY s;have h2:=(ij (cleanF s) n).1;refine sb [.tmp 4] Tryz.func69 ?_;intro Q hQ;refine wk trivial ?_;refine kq trivial (cQ G s (by omega) _) ?_;refine kq trivial (oL G (cleanF s) n (by omega) (by omega) _) ?_;refine kq trivial (cQ G (cutF (cleanF s) n) (by omega) _) ?_;refine ee hQ trivial ?_;refine fR (.str _) ?_;rfl
section
variable {s:PS} {H:Heap} {n:Nat}
theorem lE(hn:n+9≤H.length):Sat (CT G) 67 [.hp (n+8) 0 0 0,.int .i64 1] (so H n s) (fun r h'=>r=.int .i64 s.t1∧h'=so H n s):=by
 refine sb [.tmp 4] Tryz.func67 ?_;intro Q hQ;refine wk trivial ?_;refine ee hQ trivial ?_;exact bM hn (.int _ _) ⟨rfl,rfl⟩
theorem ub(hn:n+9≤H.length):Sat (CT G) 67 [.hp (n+8) 0 0 0,.int .i64 3] (so H n s) (fun r h'=>r=.int .i64 s.t2∧h'=so H n s):=by
 refine sb [.tmp 4] Tryz.func67 ?_;intro Q hQ;refine wk trivial ?_;refine ee hQ trivial ?_;exact bM hn (.int _ _) ⟨rfl,rfl⟩
theorem vZ{l:List Fo}{k:Nat}{y:Fo}{p:Fo→Bool}(hy:l[k]? =some y)(h:(l.take k).find? p=none):l.find? p=if p y then some y else(l.drop (k+1)).find? p:=by
 have e:l=l.take k++y::l.drop (k+1):=by
  obtain⟨hlt,he⟩:=M0.1 hy;rw[← he, ← Y7 hlt,X3]
 rw[e,List.find?_append,h,List.find?_cons];rw[← e];cases p y<;>rfl
theorem qJ(T:s.Top2)(hn:n+9≤H.length)(inn:Int)(name:Bs):Sat (CT G) 70 [.hp (n+8) 0 0 0,.int .i64 inn,.str name] (so H n s) (fun r h'=>r=.int .i64 (foId s inn name)∧h'=so H n s):=by
 have hTl:=fb G s T.i.toOk hn;have hfn:=Ae T inn name;have hfo:s.tell.fo=valsM Fo.z s.fo:=rfl;rw[← hfo]at hfn;rw[← hfn];have hlf:s.tell.fo.length≤64:=by rw[hfo,cK];exact T.i.l1
 generalize s.tell=x at*;clear hfn hfo;have mfo:(x.fo.map Fo.av).length=x.fo.length:=O0 ..;have hnj:∀j,n+9≤(H++j).length:=fun j=>by simp;omega
 have F:=F3 @mfo hnj @aZ;refine sb [.tmp 6] Tryz.func70 ?_;intro Q hQ;refine wk F ?_;refine kq F (hTl) ?_;refine lm (fun nL tL hL=>∃(k:Nat) (j:Heap),x.fo.length-k=nL∧so (H++j) n s=hL∧tL 13=.int .i64 k∧k≤x.fo.length∧((x.fo.take k).find? (fun f=>decide (f.inn=inn∧f.name=name))=none)) ((fun(k:Nat) (j:Heap)=>(x.fo.length-k:Nat)) (0) ([])) ?_ ?_
 ·refine N6 ⟨0,[],rfl,by rw[N8],?_,by omega,rfl⟩;all_goals try exact zZz F
 rintro _ s2 h' ⟨k,j,rfl,rfl,e13,hk,hf⟩ K2 hK2;simp only[aj,am,Nat.reduceEqDiff, ↓reduceIte]at e13;have F:=F2 F e13;by_cases c2:k<x.fo.length
 ·have d2:=R4 c2;obtain⟨y,hy,hym⟩:=ak c2;have hm:(x.fo.map Fo.av)[k]? =some y.av:=by rw[O2,hy];rfl
  have hft:=vZ hy hf;have hf2:(x.fo.take (k+1)).find? (fun f=>decide (f.inn=inn∧f.name=name))=if decide (y.inn=inn∧y.name=name)then some y else none:=by
   rw[T9,hy,Option.toList_some,List.find?_append,hf,List.find?_cons];cases decide (y.inn=inn∧y.name=name)<;>rfl
  obtain⟨y1,y2,y3⟩:=y;rw[Fo.av_eq]at hm;simp only[]at hm hft hf2;by_cases ca:y2=inn
  ·have qa:(y2==inn)=true:=(by simp[ca]);by_cases cb:y3=name
   ·have qb:(y3==name)=true:=(by simp[cb]);have F:=F7 F hm hy d2 c2 qa qb;(try refine sq F ?_);refine wk F ?_;refine ee hQ F ?_;refine ar hn (.int _ _) ⟨?_,rfl⟩;unfold fndN;rw[hft,M7 (by simp[ca,cb])];rfl
   ·have qb:(y3==name)=false:=(by simp[cb]);have F:=F7 F hm hy d2 c2 qa qb;(try refine sq F ?_);refine wk F ?_;refine hK2 _ _ _ (N6 ⟨k+1,j++[.row 44 3 0 [.agg [.int .i64 y1,.int .i64 y2,.str y3]]],rfl,rfl,?_,by omega,by rw[hf2,M1 (by simp[cb])]⟩) (by omega);all_goals try exact zZz F
  ·have qa:(y2==inn)=false:=(by simp[ca]);have F:=F6 F hm hy d2 c2 qa;(try refine sq F ?_);refine wk F ?_;refine hK2 _ _ _ (N6 ⟨k+1,j++[.row 44 3 0 [.agg [.int .i64 y1,.int .i64 y2,.str y3]]],rfl,rfl,?_,by omega,by rw[hf2,M1 (by simp[ca])]⟩) (by omega);all_goals try exact zZz F
 ·have d2:=S7 c2;rw[P5 (by omega)]at hf;have F:=F2 F d2;try refine sq F ?_
  refine wk F ?_;refine ee hQ F ?_;refine ar hn (.int _ _) ⟨?_,rfl⟩;unfold fndN;rw[hf];rfl
end
def exM(H:Heap)(n:Nat)(ws:List Ev)(j:Heap):Heap:=
 H++(.row 27 1 0 [.hp (n+8) 0 0 0]:: .row 22 1 0 [.hs (H.length+2) ws.length 0 ws.length true]:: .row 34 7 ws.length (ws.map Ev.av)::
  .row 32 1 0 [.fn (.func 66) [] [.hp H.length 0 0 0,.hp (H.length+1) 0 0 0]]::
  .row 120 1 0 [.fn (.func 68) [] [.hp (H.length+3) 0 0 0,.hp H.length 0 0 0,.hp (H.length+4) 0 0 0]]::j)
section
variable {H:Heap} {n:Nat} {ws:List Ev} {j:Heap}
theorem gI(j':Heap):exM H n ws j++j'=exM H n ws (j++j'):=by simp[exM]
theorem cV:(exM H n ws j).length=H.length+5+j.length:=by simp[exM];omega
theorem dr(i v:Nat):getRow (exM H n ws j) (H.length+i) v=getRow (.row 27 1 0 [.hp (n+8) 0 0 0]:: .row 22 1 0 [.hs (H.length+2) ws.length 0 ws.length true]:: .row 34 7 ws.length (ws.map Ev.av)::
  .row 32 1 0 [.fn (.func 66) [] [.hp H.length 0 0 0,.hp (H.length+1) 0 0 0]]::
  .row 120 1 0 [.fn (.func 68) [] [.hp (H.length+3) 0 0 0,.hp H.length 0 0 0,.hp (H.length+4) 0 0 0]]::j) i v:=bZ v rfl
theorem Ar(e:Ev):((exM H n ws j).set (H.length+2) (.row 34 7 (ws.length+1) (ws.map Ev.av++[e.av]))).set (H.length+1) (.row 22 1 0 [.hs (H.length+2) (ws.length+1) 0 (ws.length+1) true])=exM H n (ws++[e]) j:=by
 unfold exM;rw[kZ _ rfl,kZ _ rfl];simp only[List.set_cons_succ,List.set_cons_zero,M3,U8,R3,O3,R5]
end
end
section
attribute [local irreducible] WP WPl WPix Sat
theorem rS(h:Outl→PS→PS×List Ev):∀(a b:List Outl) (s:PS),lstG h (a++b) s=((lstG h b (lstG h a s).1).1,(lstG h a s).2++(lstG h b (lstG h a s).1).2)
 | [],b,s=>by rw[P2,lstG];rfl
 |o::a,b,s=>by
  rw[Q2,lstG,rS h a b,lstG];simp only[O9]
theorem As(h:Outl→PS→PS×List Ev){l:List Outl}{i:Nat}{o:Outl}(ho:l[i]? =some o)(s:PS):lstG h (l.take (i+1)) s=((h o (lstG h (l.take i) s).1).1,(lstG h (l.take i) s).2++(h o (lstG h (l.take i) s).1).2):=by
 rw[T9,ho,Option.toList_some,rS];simp only[lstG,N8]
theorem rU{nf:Bs→Bs}{g:Int→List Outl→PS→PS×List Ev}(hg:∀inn l s,(g inn l s).2.length≤szs Outl.sz l)(inn:Int)(o:Outl)(s:PS):(oneG nf g inn o s).2.length≤o.sz:=by
 have hz:=Outl.sz_eq o;unfold oneG;split
 ·unfold putF;split<;>simp<;>omega
 ·split
  ·have:=hg (foId s inn (nf o.title)) o.kids s;omega
  ·split
   ·have:=hg (s.t1+1) o.kids (s.step L0 (evFo s inn (nf o.title)));simp only[M6];omega
   ·have:=hg inn o.kids s;omega
theorem mw{h:Outl→PS→PS×List Ev}(hh:∀o s,(h o s).2.length≤o.sz):∀(l:List Outl) (s:PS),(lstG h l s).2.length≤szs Outl.sz l
 | [],s=>V8 _
 |o::l,s=>by
  have h1:=hh o s;have h2:=mw hh l (h o s).1;rw[lstG,szs,M3];omega
theorem my{nf:Bs→Bs}:∀(k:Nat) (inn:Int) (l:List Outl) (s:PS),(brgF nf k inn l s).2.length≤szs Outl.sz l
 |0,_,_,_=>V8 _
 |k+1,inn,l,s=>mw (fun o s=>rU (my k) inn o s) l s
theorem BG{l:List Outl}{i:Nat}{o:Outl}(ho:l[i]? =some o):szs Outl.sz (l.take i)+o.sz≤szs Outl.sz l:=by
 induction l generalizing i with
 |nil=>simp at ho
 |cons x l ih=>cases i with
  |zero=>simp at ho;subst ho;simp[szs]
  |succ i=>
   simp at ho;have:=ih ho;rw[P9,szs,szs];omega
variable (G:Nat→Option (List AVal))
section
variable {s:PS} {H:Heap} {n:Nat}
theorem pG(hn:n+9≤H.length)(hI:s.Inv)(ws:List Ev)(hws:ws.length≤4194304)(j:Heap)(e:Ev)(t:Int)(ht:e.a=t+1)(hb:0≤t∧t≤1048576)
  (hTop:∀X:Heap,n+9≤X.length→Sat (CT G) 67 [.hp (n+8) 0 0 0,.int .i64 e.kind] (so X n s) (fun r h'=>r=.int .i64 t∧h'=so X n s)):
  Sat (CT G) 66 [.agg [.int .i64 e.kind,.int .i64 0,.int .i64 e.b,.int .i64 e.n,.str e.s,.str e.t,.str e.u],.hp H.length 0 0 0,.hp (H.length+1) 0 0 0] (so (exM H n ws j) n s)
   (fun r h'=>r=.bool (s.ok L0 e)∧h'=so (exM H n (ws++if s.ok L0 e then [e]else []) (j++[.row 34 7 0 [e.av]])) n (s.step L0 e)):=by
 have cb:∀N b,Clo N (.bool b):=fun N b=>.bool _
 have hnM:∀{ws:List Ev} {j:Heap},n+9≤(exM H n ws j).length:=by intro ws j;rw[cV];omega
 have hAp:=fun(X:Heap) (hX:n+9≤X.length)=>i7 G s hI e (H:=X) hX
 have hadd:=Ar (H:=H) (n:=n) (ws:=ws) (j:=j++[.row 34 7 0 [e.av]]) e;have happ:=gI (H:=H) (n:=n) (ws:=ws) (j:=j) [.row 34 7 0 [e.av]];have hlen:=cV (H:=H) (n:=n) (ws:=ws) (j:=j);have hlen2:=cV (H:=H) (n:=n) (ws:=ws++[e]) (j:=j++[.row 34 7 0 [e.av]]);rw[← happ]at hadd;have hnX:n+9≤(exM H n ws j).length:=hnM;obtain⟨X,hX⟩:∃X,exM H n ws j=X:=⟨_,rfl⟩;have r0:getRow X H.length 0=some (27,1,[.hp (n+8) 0 0 0]):=(O6 (fun X=>getRow X (H.length+0) 0) hX).symm.trans (dr 0 0);have r1:getRow X (H.length+1) 0=some (22,1,[.hs (H.length+2) ws.length 0 ws.length true]):=(O6 (fun X=>getRow X (H.length+1) 0) hX).symm.trans (dr 1 0);have r2:getRow X (H.length+2) ws.length=some (34,7,ws.map Ev.av):=((O6 (fun X=>getRow X (H.length+2) ws.length) hX).symm.trans (dr 2 ws.length)).trans (by simp[getRow]);have hmw:(ws.map Ev.av).length=ws.length:=O0 ..;rw[hX]at hadd hlen hnX ⊢;have hXl:H.length+5≤X.length:=by omega
 obtain⟨k,a,b,m,es,et,eu⟩:=e;simp only[]at ht hTop;subst ht;simp only[Ev.av_eq]at hadd hAp happ hlen2;cases hok:s.ok L0 ⟨k,t+1,b,m,es,et,eu⟩with
 |false=>
  have hst:s.step L0 ⟨k,t+1,b,m,es,et,eu⟩=s:=by unfold PS.step;rw[hok];rfl
  rw[hst,hok]at hAp;rw[hst];have F:=F6 r0 r1 r2 @hnX hmw @aZ;refine sb [.tmp 4] Tryz.func66 ?_;intro Q hQ;refine wk F ?_;refine kq F (hTop _ (by first|omega| (simp;omega))) ?_;refine kq F (hAp _ (by first|omega| (simp;omega))) ?_;refine ee hQ F ?_;refine Y5 (by rw[aB hnX,aB (by simp;omega)];simp) (cb _ _) ⟨rfl,?_⟩;rw[← hX];rw[gI]
 |true=>
  have hnS:∀z:PS,n+9≤X.length:=fun _=>hnX
  rw[hok]at hAp;have F:=F6 r0 r1 r2 @hnX hmw @aZ;refine sb [.tmp 4] Tryz.func66 ?_;intro Q hQ;refine wk F ?_;refine kq F (hTop _ (by first|omega| (simp;omega))) ?_;refine kq F (hAp _ (by first|omega| (simp;omega))) ?_;refine aq F ?_;try refine sq F ?_
  refine wk F ?_;refine ee hQ F ?_;refine Y5 (by rw[aB hnX,aB (by simp;omega)];simp) (cb _ _) ⟨rfl,?_⟩;rw[← hadd];simp(disch:=first|omega| (simp;omega)) only[oP]
end
end
section
attribute [local irreducible] WP WPl WPix Sat
def nfX(t:Bs):Bs:=shortF t 64
theorem BI{H:Heap}{n:Nat}{ws:List Ev}{j j2:Heap}{e m:Nat}{rs:List AVal}:getRow (exM H n ws (j++(.row e m 0 rs::j2))) (H.length+(5+j.length)) 0=some (e,m,rs):=by
 have e1:exM H n ws (j++(.row e m 0 rs::j2))=exM H n ws j++(.row e m 0 rs::j2):=gI _|>.symm
 rw[e1,bH 0 (by rw[cV];omega)];simp[getRow]
theorem BJ(l:List Outl):l.length≤szs Outl.sz l:=by
 induction l with
 |nil=>exact V8 _
 |cons o l ih=>have:=Outl.sz_eq o;rw[szs,M6];omega
variable (G:Nat→Option (List AVal))
section
variable {H:Heap} {n:Nat}
theorem qK(hn:n+9≤H.length):∀(k:Nat) (inn:Int) (l:List Outl) (s:PS) (ws:List Ev) (j:Heap),s.Top2→s.within inn=true→okK k l→ws.length+szs Outl.sz l≤2097152→
  Sat (CT G) 68 [.int .i64 inn,.sl 3 (l.map Outl.av),.hp (H.length+3) 0 0 0,.hp H.length 0 0 0,.hp (H.length+4) 0 0 0] (so (exM H n ws j) n s)
   (fun _ h'=>∃j2,h'=so (exM H n (ws++(brgF nfX k inn l s).2) (j++j2)) n (brgF nfX k inn l s).1):=by
 have ct:∀N,Clo N (.tup []):=fun N=>.tup _ (fun x hx=>by simp at hx)
 have hnM:∀{ws:List Ev} {j:Heap},n+9≤(exM H n ws j).length:=by intro ws j;rw[cV];omega
 have hnM2:∀(ws:List Ev) (j:Heap),n+9≤(exM H n ws j).length:=fun ws j=>hnM
 have q0:∀(ws:List Ev) (j:Heap),getRow (exM H n ws j) H.length 0=some (27,1,[.hp (n+8) 0 0 0]):=fun ws j=>dr 0 0
 have q3:∀(ws:List Ev) (j:Heap),getRow (exM H n ws j) (H.length+3) 0=some (32,1,[.fn (.func 66) [] [.hp H.length 0 0 0,.hp (H.length+1) 0 0 0]]):=fun ws j=>dr 3 0
 have q4:∀(ws:List Ev) (j:Heap),getRow (exM H n ws j) (H.length+4) 0=some (120,1,[.fn (.func 68) [] [.hp (H.length+3) 0 0 0,.hp H.length 0 0 0,.hp (H.length+4) 0 0 0]]):=fun ws j=>dr 4 0
 have qa:∀(ws:List Ev) (j j':Heap),exM H n ws j++j'=exM H n ws (j++j'):=fun ws j j'=>gI j'
 have ql:∀(ws:List Ev) (j:Heap),(exM H n ws j).length=H.length+(5+j.length):=fun ws j=>by rw[cV];omega
 have qt:∀(ws:List Ev) (j j2:Heap) (e m:Nat) (rs:List AVal),getRow (exM H n ws (j++(.row e m 0 rs::j2))) (H.length+(5+j.length)) 0=some (e,m,rs):=fun ws j j2 e m rs=>BI
 intro k;induction k with
 |zero=>
  intro inn l s ws j T hw hk hsz;have hk:l=[]:=hk;subst hk;have e0:(brgF nfX 0 inn [] s)=(s,[]):=rfl;rw[e0];refine sb [] Tryz.func68 ?_;intro Q hQ;refine wk trivial ?_;refine lm (fun nL tL hL=>∃(i:Nat),0-i=nL∧so (exM H n ws j) n s=hL∧tL 14=.int .i64 i∧i≤0) ((fun(i:Nat)=>(0-i:Nat)) (0)) ?_ ?_
  ·refine N6 ⟨0,rfl,aw,?_,N3 0⟩;all_goals try exact zZz trivial
  rintro _ s2 h' ⟨i,rfl,rfl,e14,hi⟩ K2 hK2;simp only[aj,am,Nat.reduceEqDiff, ↓reduceIte]at e14;have F:=e14;refine wk F ?_;refine cq F (fun c1=>?_) (fun c1=>?_)<;>(try exact c1.elim)<;>(refine wk F ?_)
  ·exact absurd c1 (by omega)
  refine ee hQ F ?_;exact Y5 (N3 _) (ct _) ⟨[],by simp⟩
 |succ k ih=>
  intro inn l s ws j T hw hk hsz;have hbb:∀inn l s,s.Top2→s.within inn=true→Br s (brgF nfX k inn l s):=fun inn l s T hw=>eG k inn l s T hw
  have hh:∀o s,s.Top2→s.within inn=true→Br s (oneG nfX (brgF nfX k) inn o s):=fun o s T hw=>iZ hbb T hw o
  have hbr:brgF nfX (k+1) inn l s=lstG (oneG nfX (brgF nfX k) inn) l s:=rfl;rw[hbr];have hlen:=mw (h:=oneG nfX (brgF nfX k) inn) (fun o s=>rU (nf:=nfX) (g:=brgF nfX k) (my (nf:=nfX) k) inn o s);have hll:=BJ l;have hml:(l.map Outl.av).length=l.length:=O0 ..;have F:=hml;refine sb [] Tryz.func68 ?_;intro Q hQ;refine wk F ?_;refine lm (fun nL tL hL=>∃(i:Nat) (j2:Heap),l.length-i=nL∧so (exM H n (ws++(lstG (oneG nfX (brgF nfX k) inn) (l.take i) s).2) (j++j2)) n (lstG (oneG nfX (brgF nfX k) inn) (l.take i) s).1=hL∧tL 14=.int .i64 i∧i≤l.length) ((fun(i:Nat) (j2:Heap)=>(l.length-i:Nat)) (0) ([])) ?_ ?_
  ·refine N6 ⟨0,[],rfl,by rw[N8,R9,lstG,N8],?_,by omega⟩;all_goals try exact zZz F
  rintro _ s2 h' ⟨i,j2,rfl,rfl,e14,hi⟩ K2 hK2;simp only[aj,am,Nat.reduceEqDiff, ↓reduceIte]at e14;have F:=F2 F e14;by_cases c2:i<l.length
  ·have d2:=R4 c2;obtain⟨o,ho,hom⟩:=ak c2;have hm:(l.map Outl.av)[i]? =some o.av:=(by rw[O2,ho];rfl);have hst:=As (oneG nfX (brgF nfX k) inn) ho s;have b1:=j0 hh (l.take i) s T hw;have w1:=ln (b1.r.gr T).1 hw;have T1:=b1.t;have hl1:=hlen (l.take i) s;have hzo:=BG ho;have hoz:=Outl.sz_eq o;have hok:=hk o hom;generalize lstG (oneG nfX (brgF nfX k) inn) (l.take i) s=p at*;obtain⟨s1,es1⟩:=p;simp only[]at hst T1 w1 hl1 ⊢;obtain⟨J,hJ⟩:∃J,j++j2=J:=⟨_,rfl⟩;rw[hJ];obtain⟨ot,ou,ks⟩:=o;have hot:ot.length≤256:=by
    have:=hok.1;unfold oneOk at this;simp only[M2]at this;have:=this.1.1.2;unfold textO at this;simp only[M2,M8]at this;exact this.1.1
   have f1:(Outl.mk ot ou ks).av=.agg [.str ot,.str ou,.sl 3 (ks.map Outl.av)]:=Outl.av_eq _;rw[f1]at hm;have hzk:szs Outl.sz ks≤(Outl.mk ot ou ks).sz:=(by rw[hoz];show szs Outl.sz ks≤1+ot.length+ou.length+szs Outl.sz ks;omega);have hzk1:szs Outl.sz ks+1≤(Outl.mk ot ou ks).sz:=(by rw[hoz];show szs Outl.sz ks+1≤1+ot.length+ou.length+szs Outl.sz ks;omega);have hoe:oneG nfX (brgF nfX k) inn (Outl.mk ot ou ks) s1=if ou≠ []then putF s1 (evFe s1 inn (Outl.mk ot ou ks))
     else if foId s1 inn (shortF ot 64)≠0 then brgF nfX k (foId s1 inn (shortF ot 64)) ks s1
     else if s1.ok L0 (evFo s1 inn (shortF ot 64))then((brgF nfX k (s1.t1+1) ks (s1.step L0 (evFo s1 inn (shortF ot 64)))).1,evFo s1 inn (shortF ot 64)::(brgF nfX k (s1.t1+1) ks (s1.step L0 (evFo s1 inn (shortF ot 64)))).2)
     else brgF nfX k inn ks s1:=rfl
   rw[hoe]at hst;have hSh:=jJ G ot 64 (by omega) (by omega);have bz:=T1.ze;have bo:=T1.zo;have hlw:(ws++es1).length≤4194304:=(by rw[M3];omega);have hap:=fun(ws:List Ev) (J:Heap)=>(gI (H:=H) (n:=n) (ws:=ws) (j:=J) [.row 55 3 0 [.agg [.str ot,.str ou,.sl 3 (ks.map Outl.av)]]]).symm
   have hnX:=hnM2 (ws++es1) J;have x0:=q0 (ws++es1) J;have x3:=q3 (ws++es1) J;have x4:=q4 (ws++es1) J;have xl:=ql (ws++es1) J;have yo:∀(w:List Ev) (j2:Heap),getRow (exM H n w (J++[.row 55 3 0 [.agg [.str ot,.str ou,.sl 3 (ks.map Outl.av)]]]++j2)) (exM H n (ws++es1) J).length 0=some (55,3,[.agg [.str ot,.str ou,.sl 3 (ks.map Outl.av)]]):=fun w j2=>by
    rw[xl,O9];exact qt w J j2 _ _ _
   have hFo:=fun(X:Heap) (hX:n+9≤X.length)=>qJ G (H:=X) (n:=n) T1 hX inn (shortF ot 64)
   obtain⟨X,hX⟩:∃X,exM H n (ws++es1) J=X:=⟨_,rfl⟩;have hX1:exM H n (ws++es1) (J++[.row 55 3 0 [.agg [.str ot,.str ou,.sl 3 (ks.map Outl.av)]]])=X++[.row 55 3 0 [.agg [.str ot,.str ou,.sl 3 (ks.map Outl.av)]]]:=(by rw[hap,hX]);rw[hX]at hnX x0 x3 x4 xl yo ⊢;have hXl:H.length+5≤X.length:=(by omega);by_cases hu:ou=[]
   ·have qu:(ou==([]:Bs))=true:=(by simp[hu]);rw[M1 (by simp[hu])]at hst;by_cases h0:foId s1 inn (shortF ot 64)=0
    ·have qf:(foId s1 inn (shortF ot 64) !=0)=false:=(by simp[h0]);rw[M1 (by simp[h0])]at hst;have hPu:=pG G hn T1.i (ws++es1) hlw (J++[.row 55 3 0 [.agg [.str ot,.str ou,.sl 3 (ks.map Outl.av)]]]) (evFo s1 inn (shortF ot 64)) s1.t1 rfl ⟨T1.zo,T1.mo⟩ (fun X hX=>lE G hX);rw[hX1]at hPu;cases hok1:s1.ok L0 (evFo s1 inn (shortF ot 64))with
     |true=>
      have g1:=im T1 hok1;obtain⟨he,c8,hst1⟩:=gE hok1;have ht1:(s1.step L0 (evFo s1 inn (shortF ot 64))).t1=s1.t1+1:=(by rw[hst1]);have wi:(s1.step L0 (evFo s1 inn (shortF ot 64))).within (s1.t1+1)=true:=(by unfold PS.within;rw[g1.2.2.2];simp);have hIH:=ih (s1.t1+1) ks (s1.step L0 (evFo s1 inn (shortF ot 64))) (ws++es1++[evFo s1 inn (shortF ot 64)]) (J++[.row 55 3 0 [.agg [.str ot,.str ou,.sl 3 (ks.map Outl.av)]]]++[.row 34 7 0 [(evFo s1 inn (shortF ot 64)).av]]) g1.2.1 wi hok.2 (by simp only[M3,U8];omega);rw[hok1]at hPu;have hPu:Sat (CT G) 66 [.agg [.int .i64 1,.int .i64 0,.int .i64 inn,.int .i64 0,.str (shortF ot 64),.str [],.str []],.hp H.length 0 0 0,.hp (H.length+1) 0 0 0] (so (X++[.row 55 3 0 [.agg [.str ot,.str ou,.sl 3 (ks.map Outl.av)]]]) n s1)
       (fun r h'=>r=.bool true∧h'=so (exM H n (ws++es1++[evFo s1 inn (shortF ot 64)]) (J++[.row 55 3 0 [.agg [.str ot,.str ou,.sl 3 (ks.map Outl.av)]]]++[.row 34 7 0 [(evFo s1 inn (shortF ot 64)).av]])) n (s1.step L0 (evFo s1 inn (shortF ot 64)))):=hPu
      have hnY:=hnM2 (ws++es1++[evFo s1 inn (shortF ot 64)]) (J++[.row 55 3 0 [.agg [.str ot,.str ou,.sl 3 (ks.map Outl.av)]]]++[.row 34 7 0 [(evFo s1 inn (shortF ot 64)).av]]);have y0:=q0 (ws++es1++[evFo s1 inn (shortF ot 64)]) (J++[.row 55 3 0 [.agg [.str ot,.str ou,.sl 3 (ks.map Outl.av)]]]++[.row 34 7 0 [(evFo s1 inn (shortF ot 64)).av]]);have y4:=q4 (ws++es1++[evFo s1 inn (shortF ot 64)]) (J++[.row 55 3 0 [.agg [.str ot,.str ou,.sl 3 (ks.map Outl.av)]]]++[.row 34 7 0 [(evFo s1 inn (shortF ot 64)).av]]);have y8:=yo (ws++es1++[evFo s1 inn (shortF ot 64)]) [.row 34 7 0 [(evFo s1 inn (shortF ot 64)).av]];generalize exM H n (ws++es1++[evFo s1 inn (shortF ot 64)]) (J++[.row 55 3 0 [.agg [.str ot,.str ou,.sl 3 (ks.map Outl.av)]]]++[.row 34 7 0 [(evFo s1 inn (shortF ot 64)).av]])=Y at hPu hIH hnY y0 y4 y8;have hTo:=lE G (s:=s1.step L0 (evFo s1 inn (shortF ot 64))) hnY;rw[ht1]at hTo;rw[hok1,M7 rfl]at hst;have F:=F2 (F9 F qu @X1 qf x0 x3 x4 y0 y4) (F7 y8 @hnX hm ho d2 c2 @aZ);(try refine sq F ?_);refine wk F ?_;refine kq F (hSh _) ?_;refine kq F (hFo _ (by simp;omega)) ?_;refine kq F (hPu) ?_;refine kq F (hTo) ?_;refine hIH.mono ?_;rintro r h' ⟨j3,rfl⟩;(try refine sq F ?_);refine wk F ?_;refine hK2 _ _ _ (N6 ⟨i+1,j2++([.row 55 3 0 [.agg [.str ot,.str ou,.sl 3 (ks.map Outl.av)]]]++([.row 34 7 0 [(evFo s1 inn (shortF ot 64)).av]]++j3)),rfl,by rw[hst, ← hJ];simp only[O9,Q2,P2,Ev.av_eq],?_,by omega⟩) (by omega);all_goals try exact zZz F
     |false=>
      have hsp:s1.step L0 (evFo s1 inn (shortF ot 64))=s1:=(by unfold PS.step;rw[hok1];rfl);have hIH:=ih inn ks s1 (ws++es1) (J++[.row 55 3 0 [.agg [.str ot,.str ou,.sl 3 (ks.map Outl.av)]]]++[.row 34 7 0 [(evFo s1 inn (shortF ot 64)).av]]) T1 w1 hok.2 (by rw[M3];omega);rw[hok1,hsp]at hPu;have hPu:Sat (CT G) 66 [.agg [.int .i64 1,.int .i64 0,.int .i64 inn,.int .i64 0,.str (shortF ot 64),.str [],.str []],.hp H.length 0 0 0,.hp (H.length+1) 0 0 0] (so (X++[.row 55 3 0 [.agg [.str ot,.str ou,.sl 3 (ks.map Outl.av)]]]) n s1)
       (fun r h'=>r=.bool false∧h'=so (exM H n (ws++es1++[]) (J++[.row 55 3 0 [.agg [.str ot,.str ou,.sl 3 (ks.map Outl.av)]]]++[.row 34 7 0 [(evFo s1 inn (shortF ot 64)).av]])) n s1):=hPu
      rw[N8]at hPu;have hnY:=hnM2 (ws++es1) (J++[.row 55 3 0 [.agg [.str ot,.str ou,.sl 3 (ks.map Outl.av)]]]++[.row 34 7 0 [(evFo s1 inn (shortF ot 64)).av]]);have y0:=q0 (ws++es1) (J++[.row 55 3 0 [.agg [.str ot,.str ou,.sl 3 (ks.map Outl.av)]]]++[.row 34 7 0 [(evFo s1 inn (shortF ot 64)).av]]);have y4:=q4 (ws++es1) (J++[.row 55 3 0 [.agg [.str ot,.str ou,.sl 3 (ks.map Outl.av)]]]++[.row 34 7 0 [(evFo s1 inn (shortF ot 64)).av]]);have y8:=yo (ws++es1) [.row 34 7 0 [(evFo s1 inn (shortF ot 64)).av]];generalize exM H n (ws++es1) (J++[.row 55 3 0 [.agg [.str ot,.str ou,.sl 3 (ks.map Outl.av)]]]++[.row 34 7 0 [(evFo s1 inn (shortF ot 64)).av]])=Y at hPu hIH hnY y0 y4 y8;rw[hok1,M1 (by simp)]at hst;have F:=F2 (F9 F qu @X1 qf x0 x3 x4 y0 y4) (F7 y8 @hnX hm ho d2 c2 @aZ);(try refine sq F ?_);refine wk F ?_;refine kq F (hSh _) ?_;refine kq F (hFo _ (by simp;omega)) ?_;refine kq F (hPu) ?_;refine hIH.mono ?_;rintro r h' ⟨j3,rfl⟩;(try refine sq F ?_);refine wk F ?_;refine hK2 _ _ _ (N6 ⟨i+1,j2++([.row 55 3 0 [.agg [.str ot,.str ou,.sl 3 (ks.map Outl.av)]]]++([.row 34 7 0 [(evFo s1 inn (shortF ot 64)).av]]++j3)),rfl,by rw[hst, ← hJ];simp only[O9,Q2,P2,Ev.av_eq],?_,by omega⟩) (by omega);all_goals try exact zZz F
    ·have qf:(foId s1 inn (shortF ot 64) !=0)=true:=(by simp[h0]);have hIH:=ih (foId s1 inn (shortF ot 64)) ks s1 (ws++es1) (J++[.row 55 3 0 [.agg [.str ot,.str ou,.sl 3 (ks.map Outl.av)]]]) T1 (nS T1 rfl h0) hok.2 (by rw[M3];omega);rw[hX1]at hIH;rw[M7 h0]at hst;have F:=F2 (F9 F qu @X1 qf x0 x3 x4 @hnX hm) (F4 ho d2 c2 @aZ);(try refine sq F ?_);refine wk F ?_;refine kq F (hSh _) ?_;refine kq F (hFo _ (by simp;omega)) ?_;refine hIH.mono ?_;rintro r h' ⟨j3,rfl⟩;(try refine sq F ?_);refine wk F ?_;refine hK2 _ _ _ (N6 ⟨i+1,j2++([.row 55 3 0 [.agg [.str ot,.str ou,.sl 3 (ks.map Outl.av)]]]++j3),rfl,by rw[hst, ← hJ];simp only[O9,Q2,P2,Ev.av_eq],?_,by omega⟩) (by omega);all_goals try exact zZz F
   ·have qu:(ou==([]:Bs))=false:=(by simp[hu]);rw[M7 hu]at hst;have hPu:=pG G hn T1.i (ws++es1) hlw (J++[.row 55 3 0 [.agg [.str ot,.str ou,.sl 3 (ks.map Outl.av)]]]) (evFe s1 inn (Outl.mk ot ou ks)) s1.t2 rfl ⟨T1.ze,T1.me⟩ (fun X hX=>ub G hX);rw[hX1]at hPu;have hpf:putF s1 (evFe s1 inn (Outl.mk ot ou ks))=(s1.step L0 (evFe s1 inn (Outl.mk ot ou ks)),if s1.ok L0 (evFe s1 inn (Outl.mk ot ou ks))then [evFe s1 inn (Outl.mk ot ou ks)]else []):=by
     unfold putF PS.step;split<;>rfl
    rw[hpf]at hst;have hPu:Sat (CT G) 66 [.agg [.int .i64 3,.int .i64 0,.int .i64 inn,.int .i64 0,.str ou,.str ot,.str []],.hp H.length 0 0 0,.hp (H.length+1) 0 0 0] (so (X++[.row 55 3 0 [.agg [.str ot,.str ou,.sl 3 (ks.map Outl.av)]]]) n s1)
     (fun r h'=>r=.bool (s1.ok L0 (evFe s1 inn (Outl.mk ot ou ks)))∧h'=so (exM H n (ws++es1++if s1.ok L0 (evFe s1 inn (Outl.mk ot ou ks))then [evFe s1 inn (Outl.mk ot ou ks)]else []) (J++[.row 55 3 0 [.agg [.str ot,.str ou,.sl 3 (ks.map Outl.av)]]]++[.row 34 7 0 [(evFe s1 inn (Outl.mk ot ou ks)).av]])) n (s1.step L0 (evFe s1 inn (Outl.mk ot ou ks)))):=hPu
    obtain⟨Y,hY⟩:∃Y,so (exM H n (ws++es1++if s1.ok L0 (evFe s1 inn (Outl.mk ot ou ks))then [evFe s1 inn (Outl.mk ot ou ks)]else []) (J++[.row 55 3 0 [.agg [.str ot,.str ou,.sl 3 (ks.map Outl.av)]]]++[.row 34 7 0 [(evFe s1 inn (Outl.mk ot ou ks)).av]])) n (s1.step L0 (evFe s1 inn (Outl.mk ot ou ks)))=Y:=⟨_,rfl⟩;rw[hY]at hPu;have F:=F2 (F9 F qu @Bool.not_false x0 x3 x4 @hnX hm ho) (F3 d2 c2 @aZ);(try refine sq F ?_);refine wk F ?_;refine kq F (hPu) ?_;refine hK2 _ _ _ (N6 ⟨i+1,j2++([.row 55 3 0 [.agg [.str ot,.str ou,.sl 3 (ks.map Outl.av)]]]++[.row 34 7 0 [(evFe s1 inn (Outl.mk ot ou ks)).av]]),rfl,by rw[← hY,hst, ← hJ];simp only[O9,Q2,P2,Ev.av_eq],?_,by omega⟩) (by omega);all_goals try exact zZz F
  ·have d2:=S7 c2;rw[P5 (by omega)];have F:=F2 F d2;(try refine sq F ?_);refine wk F ?_;refine ee hQ F ?_;exact Y5 (by rw[aB hnM,aB hnM,cV,cV];simp) (ct _) ⟨j2,rfl⟩
end
end
section
attribute [local irreducible] WP WPl WPix Sat
theorem Au(e:Ev):∀c∈e.av.cells,c.sto=true:=by
 intro c hc;simp only[Ev.av,AVal.cells,O5,W9,or_false]at hc;rcases hc with rfl|rfl|rfl|rfl|rfl|rfl|rfl<;>rfl
variable (G:Nat→Option (List AVal))
section
variable {s:PS} {H:Heap} {n:Nat}
theorem jK(hn:n+9≤H.length)(T:s.Top2)(l:List Outl)(hk:okK 8 l)(hz:szs Outl.sz l≤2097152):
  Sat (CT G) 36 [.hp (n+8) 0 0 0,.sl 3 (l.map Outl.av)] (so H n s) (fun r h'=>r=.sl 7 ((brgF nfX 8 0 l s).2.map Ev.av)∧h'=so H n (brgF nfX 8 0 l s).1):=by
 have hW:Sat (CT G) 68 [.int .i64 0,.sl 3 (l.map Outl.av),.hp (H.length+3) 0 0 0,.hp H.length 0 0 0,.hp (H.length+4) 0 0 0] (so (H++[Blk.row 27 1 0 [.hp (n+8) 0 0 0],.row 22 1 0 [.hs (H.length+2) 0 0 0 true],.row 34 7 0 [],
  .row 32 1 0 [.fn (.func 66) [] [.hp H.length 0 0 0,.hp (H.length+1) 0 0 0]],
  .row 120 1 0 [.fn (.func 68) [] [.hp (H.length+3) 0 0 0,.hp H.length 0 0 0,.hp (H.length+4) 0 0 0]]]) n s)
   (fun _ h'=>∃j2,h'=so (exM H n (brgF nfX 8 0 l s).2 j2) n (brgF nfX 8 0 l s).1):=qK G hn 8 0 l s [] [] T rfl hk (by simpa using hz)
 generalize brgF nfX 8 0 l s=p at*;obtain⟨z,ws⟩:=p;simp only[]at hW ⊢;have F:= @aZ;refine sb [.tmp 4] Tryz.func36 ?_;intro Q hQ;(repeat (first|refine w1 (fun K hK=>?_)|refine w2 ?_|refine w3 ?_| ((first|refine w4 ?_|refine wD ?_|refine w5 ?_|refine w6 ?_|refine w7 ?_);try refine sq F ?_)| (refine w8 ?_;refine sq F ?_;refine w9 ?_)))
 refine hK _ _ (N6 ?_);clear hK K;(repeat (first|refine w1 (fun K hK=>?_)|refine w2 ?_|refine w3 ?_| ((first|refine w4 ?_|refine wD ?_|refine w5 ?_|refine w6 ?_|refine w7 ?_);try refine sq F ?_)| (refine w8 ?_;refine sq F ?_;refine w9 ?_)))
 refine hK _ _ ⟨_,_,Weak.virtCell1 (p:=H.length+1) (v:=0) 34 7 (by omega) (by simp(disch:=first|omega| (simp only[go_sem, ↓reduceIte,seval];first|done|omega)|fail) only[go_sem, ↓reduceIte,seval,F];rfl),?_⟩;clear hK K;try refine sq F ?_
 (repeat (first|refine w1 (fun K hK=>?_)|refine w2 ?_|refine w3 ?_| ((first|refine w4 ?_|refine wD ?_|refine w5 ?_|refine w6 ?_|refine w7 ?_);try refine sq F ?_)| (refine w8 ?_;refine sq F ?_;refine w9 ?_)| ((first|refine hK _ _ (w0 ?_)| (clear hK K;refine hK _ _ (w0 ?_))| (clear hK K;clear hK K;refine hK _ _ (w0 ?_)));clear hK K)))
 refine hW.mono ?_;rintro r h' ⟨j2,rfl⟩;have hnM:n+9≤(exM H n ws j2).length:=by rw[cV];omega
 have q1:getRow (exM H n ws j2) (H.length+1) 0=some (22,1,[.hs (H.length+2) ws.length 0 ws.length true]):=dr 1 0;have q2:getRow (exM H n ws j2) (H.length+2) ws.length=some (34,7,ws.map Ev.av):=(dr 2 ws.length).trans (by simp[getRow]);have F:=F3 F q1 @hnM;try refine sq F ?_
 (repeat (first|refine w1 (fun K hK=>?_)|refine w2 ?_|refine w3 ?_| ((first|refine w4 ?_|refine wD ?_|refine w5 ?_|refine w6 ?_|refine w7 ?_);try refine sq F ?_)| (refine w8 ?_;refine sq F ?_;refine w9 ?_)| ((first|refine hK _ _ (w0 ?_)| (clear hK K;refine hK _ _ (w0 ?_))| (clear hK K;clear hK K;refine hK _ _ (w0 ?_)));clear hK K)))
 refine ee hQ F ?_;unfold exM at hnM q2 ⊢;exact cu hn (Frz.data (by omega) (by rw[cr hnM _ (by omega)];exact q2) (by simp) (fun r hr=>by obtain⟨e,_,rfl⟩:=N5.1 hr;exact Ev.clo _ e) (fun r hr=>by obtain⟨e,_,rfl⟩:=N5.1 hr;exact Au e)) ⟨rfl,rfl⟩
end
end
section
attribute [local irreducible] WP WPl WPix Sat
variable (G:Nat→Option (List AVal))
theorem gJ{h j:Heap}{n:Nat}{s:PS}(hm:n+9≤(h++j).length)(hh:h.length≤n):∃j',so (h++j) n s=h++j':=by
 refine⟨(so (h++j) n s).drop h.length,?_⟩;have hl:=aB (s:=s) hm
 apply U0
 intro p;by_cases hp:p<h.length
 ·rw[M5 hp];unfold so;rw[oW (by show n+9≤_;omega) (.inl (by omega)),M5 hp]
 ·rw[M9 (by omega),Q8];congr 1
  omega
def okX(l:List Outl):Bool:=decide (cntN 8 l≤512)
theorem qL(l:List Outl)(hl:OkN 8 l)(h:Heap):Sat (CT G) 31 [.sl 3 (l.map Outl.av)] h (fun r h'=>r=.int .i64 (if okX l then 0 else 130)∧h'=h):=by
 have hc:=mr 8 l;refine sb [.tmp 2] Tryz.func31 ?_;intro Q hQ;refine wk trivial ?_;refine kq trivial (lC G 8 1 (by omega) l hl _) ?_;refine cq trivial (fun c1=>?_) (fun c1=>?_)<;>(try exact c1.elim)<;>(refine wk trivial ?_)
 ·refine ee hQ trivial ?_;refine fR (.int _ _) ?_;rw[M1 (by unfold okX;simp;omega)]
 ·refine ee hQ trivial ?_;refine fR (.int _ _) ?_;rw[M7 (by unfold okX;simp;omega)]
def CloneC:Prop:=∀(s:PS) (X:Heap) (n:Nat),s.Inv→n+9≤X.length→Sat (CT G) 37 [.hp (n+8) 0 0 0] (so X n s) (fun r h'=>r=.hp (X.length+8) 0 0 0∧h'=so (so X n s++PS.z.bl X.length) X.length s)
def exF(s:PS)(l:List Outl):List Ev×Int:=if okX l then((brgF nfX 8 0 l s).2,0)else([],130)
def exR(p:List Ev×Int):AVal:=.tup [.sl 7 (p.1.map Ev.av),.int .i64 p.2]
theorem rV(N:Nat)(p:List Ev×Int):Clo N (exR p):=.tup _ fun x hx=>by
 simp only[O5,W9,or_false]at hx;rcases hx with rfl|rfl
 ·exact .sl _ _ fun x hx=>by obtain⟨e,_,rfl⟩:=N5.1 hx;exact Ev.clo _ e
 ·exact .int _ _
theorem rW(Z:Heap)(n:Nat)(c:Int):Frz Z n (.tup [.nil (.slice none 0 0),.int .i64 c]) (exR ([],c)):=FrzL.tup (.cons (.nils 7) (.cons (.clo _ (.int _ _)) .nil))
section
variable {s:PS} {X:Heap} {n:Nat}
theorem iw(hC:CloneC G)(hn:n+9≤X.length)(T:s.Top2)(l:List Outl)(hl:OkN 8 l)(hz:szs Outl.sz l≤2097152):
  Sat (CT G) 12 [.hp (n+8) 0 0 0,.sl 3 (l.map Outl.av)] (so X n s) (fun r h'=>r=exR (exF s l)∧h'=so X n s):=by
 have hCk:=qL G l hl;have hCl:=hC s X n T.i hn;unfold exF;cases hk:okX l with
 |false=>
  rw[hk]at hCk;have hCk:∀h,Sat (CT G) 31 [.sl 3 (l.map Outl.av)] h (fun r h'=>r=.int .i64 130∧h'=h):=hCk;refine sb [.tmp 4,.tmp 5] Tryz.func12 ?_;intro Q hQ;refine wk trivial ?_;refine kq trivial (hCk _) ?_;refine ye hQ trivial ?_;have:=cu (j:=[]) (s:=s) (s':=s) (R:=fun r h'=>r=exR ([],130)∧h'=so X n s) hn (rW (so (X++[]) n s) X.length 130) ⟨rfl,rfl⟩;rw[N8]at this;exact this
 |true=>
  rw[hk]at hCk;have hCk:∀h,Sat (CT G) 31 [.sl 3 (l.map Outl.av)] h (fun r h'=>r=.int .i64 0∧h'=h):=hCk;have hlz:(so X n s++PS.z.bl X.length).length=X.length+9:=by rw[M3,aB hn];rfl
  have hB:=jK G (s:=s) (H:=so X n s++PS.z.bl X.length) (n:=X.length) (by omega) T l (nT 8 l (R7 hk)) hz;obtain⟨j',hj'⟩:=gJ (h:=so X n s) (j:=PS.z.bl X.length) (n:=X.length) (s:=(brgF nfX 8 0 l s).1) (by omega) (by rw[aB hn];omega);rw[hj',bF hn]at hB;rw[bF hn]at hB;refine sb [.tmp 4,.tmp 5] Tryz.func12 ?_;intro Q hQ;refine wk trivial ?_;refine kq trivial (hCk _) ?_;refine kq trivial (hCl) ?_;refine kq trivial (hB) ?_;refine ye hQ trivial ?_;exact cu (s':=s) hn (.clo _ (rV _ (_,_))) ⟨rfl,rfl⟩
end
section
variable {s:PS} {X:Heap} {n:Nat}
def rowC(s:PS)(m:Nat):AVal:=.agg [.int .i64 s.clock,.hm m,.hm (m+1),.hm (m+2),.hm (m+3),.hm (m+4),.hm (m+5),.hm (m+6),.hm (m+7),.int .i64 s.t1,.int .i64 s.t2,.int .i64 s.t3,.int .i64 s.t4]
def mpsC(s:PS):List Blk:=[.mp (encM iA Fo.av s.fo) s.c1,.mp (encM iA Fe.av s.fe) s.c2,.mp (encM iA It.av s.it) s.c3,.mp (encM iA Se.av s.se) s.c4,
 .mp (encM nA iA s.nm) s.c5,.mp (encM AVal.str iA s.pl) s.c6,.mp (encM nA iA s.gu) s.c7,.mp (encM iA iA s.he) s.c8]
theorem pN(s:PS)(hn:n+9≤X.length):Sat (CT G) 37 [.hp (n+8) 0 0 0] (so X n s) (fun r h'=>r=.hp (so X n s).length 0 0 0∧h'=so X n s++ .row 83 13 0 [rowC s (X.length+1)]::mpsC s):=by
 have h1:=fun {h:Heap} {es c} (hm:mapAt h n=some (es,c))=>bO (C:=CT G) (f:=71) Tryz.mcl71 rfl Tryz.func71 (by kernel_rfl) (by kernel_rfl) hm
 have h2:=fun {h:Heap} {es c} (hm:mapAt h (n+1)=some (es,c))=>bO (C:=CT G) (f:=72) Tryz.mcl72 rfl Tryz.func72 (by kernel_rfl) (by kernel_rfl) hm
 have h3:=fun {h:Heap} {es c} (hm:mapAt h (n+2)=some (es,c))=>bO (C:=CT G) (f:=73) Tryz.mcl73 rfl Tryz.func73 (by kernel_rfl) (by kernel_rfl) hm
 have h4:=fun {h:Heap} {es c} (hm:mapAt h (n+3)=some (es,c))=>bO (C:=CT G) (f:=74) Tryz.mcl74 rfl Tryz.func74 (by kernel_rfl) (by kernel_rfl) hm
 have h5:=fun {h:Heap} {es c} (hm:mapAt h (n+4)=some (es,c))=>bO (C:=CT G) (f:=75) Tryz.mcl75 rfl Tryz.func75 (by kernel_rfl) (by kernel_rfl) hm
 have h6:=fun {h:Heap} {es c} (hm:mapAt h (n+5)=some (es,c))=>bO (C:=CT G) (f:=76) Tryz.mcl76 rfl Tryz.func76 (by kernel_rfl) (by kernel_rfl) hm
 have h7:=fun {h:Heap} {es c} (hm:mapAt h (n+6)=some (es,c))=>bO (C:=CT G) (f:=77) Tryz.mcl77 rfl Tryz.func77 (by kernel_rfl) (by kernel_rfl) hm
 have h8:=fun {h:Heap} {es c} (hm:mapAt h (n+7)=some (es,c))=>bO (C:=CT G) (f:=78) Tryz.mcl78 rfl Tryz.func78 (by kernel_rfl) (by kernel_rfl) hm
 have F:= @aZ
 skip
 refine sb [.tmp 2] Tryz.func37 ?_;intro Q hQ;refine wn F ?_;refine bj 19 [4,9,14] [true,true,true,true,false,true,true,true,true,false,true,true,true,true,false,true,true,true,true] (.one 4 [false,false,false,false,false,false,true,true,true,false,false,true,true,true,false,false,true,true,true] (.one 9 [false,false,false,false,false,false,false,false,false,false,false,true,true,true,false,false,true,true,true] (.one 14 [false,false,false,false,false,false,false,false,false,false,false,false,false,false,false,false,true,true,true] .fin))) (by decide+kernel) (by kernel_rfl) (by decide+kernel) ?_;simp only[bA,bB,bg];try refine sq F ?_
 repeat' ((first|refine aN ?_|refine aO ?_|refine aV ?_ ?_)<;>try refine sq F ?_)
 all_goals try refine wn F ?_
 repeat' (first
  | (refine(h1 (by simp(disch:=first|omega| (simp only[go_sem, ↓reduceIte,seval];first|done|omega)|fail) only[go_sem, ↓reduceIte,seval,F];rfl)).mono ?_;rintro r h' ⟨rfl,rfl⟩;try refine sq F ?_)
  | (refine(h2 (by simp(disch:=first|omega| (simp only[go_sem, ↓reduceIte,seval];first|done|omega)|fail) only[go_sem, ↓reduceIte,seval,F];rfl)).mono ?_;rintro r h' ⟨rfl,rfl⟩;try refine sq F ?_)
  | (refine(h3 (by simp(disch:=first|omega| (simp only[go_sem, ↓reduceIte,seval];first|done|omega)|fail) only[go_sem, ↓reduceIte,seval,F];rfl)).mono ?_;rintro r h' ⟨rfl,rfl⟩;try refine sq F ?_)
  | (refine(h4 (by simp(disch:=first|omega| (simp only[go_sem, ↓reduceIte,seval];first|done|omega)|fail) only[go_sem, ↓reduceIte,seval,F];rfl)).mono ?_;rintro r h' ⟨rfl,rfl⟩;try refine sq F ?_)
  | (refine aN ?_;try refine sq F ?_)| (refine aO ?_;try refine sq F ?_))
 refine wn F ?_;refine bj 19 [4,9,14] [true,true,true,true,false,true,true,true,true,false,true,true,true,true,false,true,true,true,true] (.one 4 [false,false,false,false,false,false,true,true,true,false,false,true,true,true,false,false,true,true,true] (.one 9 [false,false,false,false,false,false,false,false,false,false,false,true,true,true,false,false,true,true,true] (.one 14 [false,false,false,false,false,false,false,false,false,false,false,false,false,false,false,false,true,true,true] .fin))) (by decide+kernel) (by kernel_rfl) (by decide+kernel) ?_;simp only[bA,bB,bg];try refine sq F ?_
 repeat' ((first|refine aN ?_|refine aO ?_|refine aV ?_ ?_)<;>try refine sq F ?_)
 all_goals try refine wn F ?_
 repeat' (first
  | (refine(h5 (by simp(disch:=first|omega| (simp only[go_sem, ↓reduceIte,seval];first|done|omega)|fail) only[go_sem, ↓reduceIte,seval,F];rfl)).mono ?_;rintro r h' ⟨rfl,rfl⟩;try refine sq F ?_)
  | (refine(h6 (by simp(disch:=first|omega| (simp only[go_sem, ↓reduceIte,seval];first|done|omega)|fail) only[go_sem, ↓reduceIte,seval,F];rfl)).mono ?_;rintro r h' ⟨rfl,rfl⟩;try refine sq F ?_)
  | (refine(h7 (by simp(disch:=first|omega| (simp only[go_sem, ↓reduceIte,seval];first|done|omega)|fail) only[go_sem, ↓reduceIte,seval,F];rfl)).mono ?_;rintro r h' ⟨rfl,rfl⟩;try refine sq F ?_)
  | (refine(h8 (by simp(disch:=first|omega| (simp only[go_sem, ↓reduceIte,seval];first|done|omega)|fail) only[go_sem, ↓reduceIte,seval,F];rfl)).mono ?_;rintro r h' ⟨rfl,rfl⟩;try refine sq F ?_)
  | (refine aN ?_;try refine sq F ?_)| (refine aO ?_;try refine sq F ?_))
 refine wn F ?_;refine ee hQ F ?_;exact Y5 (by rw[aB hn,aB (by simp;omega)];simp) (.hp _ _ _ _ (by rw[aB (by simp;omega)];simp)) ⟨rfl,rfl⟩
theorem BP(A B bs:Heap)(hl:bs.length=B.length):ov (A++B) A.length bs=A++bs:=by
 unfold ov;rw[Z4 rfl,Y4 (by rw[M3];omega),N8]
theorem jP:CloneC G:=by
 intro s X n _ hn;have hl:(so X n s).length=X.length:=aB hn;have h0:=pN G s hn;rw[← hl]at h0;generalize so X n s=A at*;have key:=Sat.turn (fun c hc=>?_) (fun c hc hcl=>?_) (fun k hk=>?_) h0
 ·refine key.mono ?_;rintro r h' ⟨rfl,rfl⟩;rw[hl];refine⟨rfl,?_⟩;unfold so;rw[← hl,BP A (PS.bl A.length PS.z) (PS.bl A.length s) rfl];have e:∀i,(if A.length+1+i<A.length then AVal.hm (A.length+1+i)else .hm (A.length+1+i-1))=.hm (A.length+i):=fun i=>by
   rw[M1 (by omega)];congr 1;omega
  have e0:=e 0;have e1:=e 1;have e2:=e 2;have e3:=e 3;have e4:=e 4;have e5:=e 5;have e6:=e 6;have e7:=e 7;simp only[W1]at e0;simp only[PS.bl,PS.row,mpsC,O3,R5,trn,Q2,P2,e0,e1,e2,e3,e4,e5,e6,e7]
 ·simp only[O5,W9,or_false]at hc;rcases hc with rfl|rfl|rfl|rfl|rfl|rfl|rfl|rfl|rfl|rfl|rfl|rfl|rfl
  ·exact .inl (.int _ _)
  ·exact .inr ⟨0,rfl⟩
  ·exact .inr ⟨1,rfl⟩
  ·exact .inr ⟨2,rfl⟩
  ·exact .inr ⟨3,rfl⟩
  ·exact .inr ⟨4,rfl⟩
  ·exact .inr ⟨5,rfl⟩
  ·exact .inr ⟨6,rfl⟩
  ·exact .inr ⟨7,rfl⟩
  all_goals exact .inl (.int _ _)
 ·simp only[O5,W9,or_false]at hc;rcases hc with rfl|rfl|rfl|rfl|rfl|rfl|rfl|rfl|rfl|rfl|rfl|rfl|rfl<;>first|rfl| (exfalso;cases hcl;omega)
 ·exact PS.clo (n:=0) (N:=A.length) (by omega) s k (by simp only[mpsC,PS.bl]at hk ⊢;exact Z0 [_] hk)
end
end
section
attribute [local irreducible] WP WPl WPix Sat
theorem yN{es:List Ev}(h:lgF es=false):es.length≤150:=by
 unfold lgF at h;rw[Bool.or_eq_false_iff]at h;have:=h.1;simp only[decide_eq_false_iff_not]at this;omega
theorem AB{h Y:Heap}{n:Nat}{s:PS}{R:AVal→Heap→Prop}{b:Bool}(hm:n+9≤Y.length)(hp:∃j,Y=h++j)(hh:h.length≤n)(hR:R (.bool b) h):Fin h (so Y n s) R (.bool b):=by
 obtain⟨j,rfl⟩:=hp;obtain⟨j',he⟩:=gJ (s:=s) hm hh;rw[he];exact Y9 (j:=j') rfl (.bool _) hR
theorem s9:∀{l:List Ev} {s:PS} {k:Nat} {y:Ev},fitAll s l=true→l[k]? =some y→((l.take k).foldl (PS.step L0) s).ok L0 y=true
 | [],_,_,_,_,hy=>by cases hy
 |e::l,s,0,y,h,hy=>by
  cases hy;rw[fitAll,M2]at h;exact h.1
 |e::l,s,k+1,y,h,hy=>by
  rw[fitAll,M2]at h;exact s9 (k:=k) h.2 hy
variable (G:Nat→Option (List AVal))
end
section
attribute [local irreducible] WP WPl WPix Sat
variable (G:Nat→Option (List AVal))
theorem yR(h:Heap)(a b:Int)(s t:Bs):abin Tryz.prog h .neq 48 (.agg [.int .i64 a,.int .i64 b,.str s,.str t]) (.agg [.int .i64 a,.int .i64 b,.str s,.str t])=some (.bool false):=by
 simp[abin,go_sem,aeqL,aeq1]
theorem yS(h:Heap)(a b:Int)(s:Bs):abin Tryz.prog h .neq 44 (.agg [.int .i64 a,.int .i64 b,.str s]) (.agg [.int .i64 a,.int .i64 b,.str s])=some (.bool false):=by
 simp[abin,go_sem,aeqL,aeq1]
section
variable (s:PS) {H:Heap} {n:Nat} (hn:n+9≤H.length)
include hn
end
end
end Go.Av
theorem zb5:type_of% @Go.Av.PS.Top2.z0:=@Go.Av.PS.Top2.z0
