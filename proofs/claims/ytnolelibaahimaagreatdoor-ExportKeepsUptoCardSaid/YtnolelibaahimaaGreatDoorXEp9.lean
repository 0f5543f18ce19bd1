/- Parts. -/
import Derived.Test.YtnolelibaahimaaGreatDoorXInb
import Derived.Test.YtnolelibaahimaaGreatDoorXUj
set_option linter.unusedSimpArgs false
set_option linter.unusedVariables false
set_option linter.unusedSectionVars false
set_option linter.unnecessarySimpa false
set_option maxRecDepth 100000
set_option maxHeartbeats 16000000
namespace Go.Av
open Go Go.Proofs Go.RowKit
section
def fitAll:PS→List Ev→Bool
 |_,[]=>true
 |s,e::l=>s.ok L0 e&&fitAll (s.step L0 e) l
theorem zD(l1 l2:List Ev)(s:PS):fitAll s (l1++l2)=(fitAll s l1&&fitAll (l1.foldl (PS.step L0) s) l2):=by
 induction l1 generalizing s with
 |nil=>simp[fitAll]
 |cons e l ih=>rw[P3,fitAll,ih,fitAll,List.foldl_cons,Bool.and_assoc]
theorem rG{t:Bs}{m:Nat}(h:textO t m=true):textF rightS cleanF t m=true:=by
 unfold textO at h;unfold textF;simp only[L2,L8,beq_iff_eq]at*;exact⟨by omega,h.1.2,h.2⟩
theorem fD{α:Type}(z:α)(l:ML Int α):(valsM z l).length=l.length:=by
 unfold valsM;rw[N4,dh,N4]
structure PS.Top2 (s:PS):Prop where
 i:s.Inv
 n:s.Nam
 o:∀k f,lkM s.fo k=some f→k≤s.t1
 e:∀k f,lkM s.fe k=some f→k≤s.t2
 zo:0≤s.t1
 ze:0≤s.t2
 mo:s.t1≤1048576
 me:s.t2≤1048576
def evFe(s:PS)(inn:Int)(o:Outl):Ev:=⟨3,s.t2+1,inn,0,o.url,o.title,[]⟩
def evFo(s:PS)(inn:Int)(name:Bs):Ev:=⟨1,s.t1+1,inn,0,name,[],[]⟩
def foId(s:PS)(inn:Int)(name:Bs):Int:=(lkM s.nm (inn,name)).getD 0
def putF(s:PS)(e:Ev):PS×List Ev:=if s.ok L0 e then(s.step L0 e,[e])else(s,[])
section
variable (nf:Bs→Bs)
def oneG(g:Int→List Outl→PS→PS×List Ev)(inn:Int)(o:Outl)(s:PS):PS×List Ev:=
 if o.url≠ []then putF s (evFe s inn o)
 else if foId s inn (nf o.title)≠0 then g (foId s inn (nf o.title)) o.kids s
 else if s.ok L0 (evFo s inn (nf o.title))then((g (s.t1+1) o.kids (s.step L0 (evFo s inn (nf o.title)))).1,evFo s inn (nf o.title)::(g (s.t1+1) o.kids (s.step L0 (evFo s inn (nf o.title)))).2)
 else g inn o.kids s
def lstG(h:Outl→PS→PS×List Ev):List Outl→PS→PS×List Ev
 | [],s=>(s,[])
 |o::l,s=>((lstG h l (h o s).1).1,(h o s).2++(lstG h l (h o s).1).2)
def brgF:Nat→Int→List Outl→PS→PS×List Ev
 |0,_,_,s=>(s,[])
 |k+1,inn,l,s=>lstG (oneG nf (brgF k) inn) l s
end
structure Gr (s s':PS):Prop where
 fo:∀k,(lkM s.fo k).isSome=true→lkM s'.fo k=lkM s.fo k
 fe:∀k,(lkM s.fe k).isSome=true→lkM s'.fe k=lkM s.fe k
 nm:∀k v,lkM s.nm k=some v→lkM s'.nm k=some v
 pl:∀k v,lkM s.pl k=some v→lkM s'.pl k=some v
 t1:s.t1≤s'.t1
 t2:s.t2≤s'.t2
 lo:s.fo.length≤s'.fo.length
 le:s.fe.length≤s'.fe.length
theorem Gr.refl(s:PS):Gr s s:=⟨fun _ _=>rfl,fun _ _=>rfl,fun _ _ h=>h,fun _ _ h=>h,X6 _,X6 _,M3 _,M3 _⟩
theorem Gr.trans{a b c:PS}(h:Gr a b)(g:Gr b c):Gr a c where
 fo:=fun k hk=>by have e:=h.fo k hk;rw[g.fo k (by rw[e];exact hk),e]
 fe:=fun k hk=>by have e:=h.fe k hk;rw[g.fe k (by rw[e];exact hk),e]
 nm:=fun k v hk=>g.nm k v (h.nm k v hk)
 pl:=fun k v hk=>g.pl k v (h.pl k v hk)
 t1:=Int.le_trans h.t1 g.t1
 t2:=Int.le_trans h.t2 g.t2
 lo:=Q5 h.lo g.lo
 le:=Q5 h.le g.le
section
variable {s:PS} {inn:Int} {o:Outl} {name:Bs}
theorem pi(s:PS)(id k:Int):∃he c8,s.hold id k= {s with he:=he,c8:=c8}:=⟨_,_,bC s id k⟩
theorem xT(h:s.ok L0 (evFe s inn o)=true):L0.ck (evFe s inn o)=true∧lkM s.fe (s.t2+1)=none∧s.fe.length<64∧s.within inn=true∧(lkM s.pl o.url).getD 0=0:=by
 have k3:(evFe s inn o).kind=3:=rfl;unfold PS.ok PS.fits at h;rw[L2]at h;have h2:=h.2;rw[L1 (by omega),L1 (by omega),L7 k3]at h2;simp only[L2,L8,beq_iff_eq,O6,evFe]at h2;exact⟨h.1,dQ h2.1.1.1,h2.1.1.2,h2.1.2,h2.2⟩
theorem B1(h:s.ok L0 (evFo s inn name)=true):L0.ck (evFo s inn name)=true∧lkM s.fo (s.t1+1)=none∧s.fo.length<64∧s.within inn=true∧s.dpt inn<7∧foId s inn name=0:=by
 have k1:(evFo s inn name).kind=1:=rfl;unfold PS.ok PS.fits at h;rw[L2]at h;have h2:=h.2;rw[L7 k1]at h2;simp only[L2,L8,beq_iff_eq,O6,evFo]at h2;exact⟨h.1,dQ h2.1.1.1.1,h2.1.1.1.2,h2.1.1.2,P7 h2.1.2,h2.2⟩
theorem rH(h:s.ok L0 (evFe s inn o)=true):∃he c8,s.step L0 (evFe s inn o)= {s with fe:=upM s.fe s.c2 (s.t2+1) ⟨s.t2+1,inn,o.url,o.title⟩,c2:=ckM s.fe s.c2 (s.t2+1),pl:=upM s.pl s.c6 o.url (s.t2+1),c6:=ckM s.pl s.c6 o.url,he:=he,c8:=c8,t2:=s.t2+1}:=by
 have k3:(evFe s inn o).kind=3:=rfl;unfold PS.step;rw[L7 h];unfold PS.aft PS.after;rw[L1 (by omega),L1 (by omega),L1 (by omega),L1 (by omega),L1 (by omega),L1 (by omega),L1 (by omega),L1 (by omega),L1 (by omega),PS.make,L1 (by omega),L7 k3];obtain⟨he,c8,hh⟩:=pi ((s.upFe (s.t2+1) ⟨s.t2+1,inn,o.url,o.title⟩).upPl o.url (s.t2+1)) inn 1;refine⟨he,c8,?_⟩;show(PS.hold ((s.upFe (s.t2+1) ⟨s.t2+1,inn,o.url,o.title⟩).upPl o.url (s.t2+1)) inn 1).raise 1 (s.t2+1)=_;rw[hh];unfold PS.raise;simp only[PS.upFe,PS.upPl];congr 1
 exact L7 (by show s.t2+1>s.t2;omega)
theorem mg(h:s.ok L0 (evFo s inn name)=true):∃he c8,s.step L0 (evFo s inn name)= {s with fo:=upM s.fo s.c1 (s.t1+1) ⟨s.t1+1,inn,name⟩,c1:=ckM s.fo s.c1 (s.t1+1),nm:=upM s.nm s.c5 (inn,name) (s.t1+1),c5:=ckM s.nm s.c5 (inn,name),he:=he,c8:=c8,t1:=s.t1+1}:=by
 have k1:(evFo s inn name).kind=1:=rfl;unfold PS.step;rw[L7 h];unfold PS.aft PS.after;rw[L1 (by omega),L1 (by omega),L1 (by omega),L1 (by omega),L1 (by omega),L1 (by omega),L1 (by omega),L1 (by omega),L1 (by omega),PS.make,L7 k1];obtain⟨he,c8,hh⟩:=pi ((s.upFo (s.t1+1) ⟨s.t1+1,inn,name⟩).upNm (inn,name) (s.t1+1)) inn 1;refine⟨he,c8,?_⟩;show(PS.hold ((s.upFo (s.t1+1) ⟨s.t1+1,inn,name⟩).upNm (inn,name) (s.t1+1)) inn 1).raise 0 (s.t1+1)=_;rw[hh];unfold PS.raise;simp only[PS.upFo,PS.upNm];congr 1
 exact L7 (by show s.t1+1>s.t1;omega)
theorem Ff(h:s.Nam)(hI:s.Inv){u:Bs}(h0:(lkM s.pl u).getD 0=0):lkM s.pl u=none:=by
 cases hl:lkM s.pl u with
 |none=>rfl
 |some j=>have:=h.pl1 hI hl;rw[hl]at h0;simp at h0;omega
theorem K7(h:s.Nam)(hI:s.Inv){k:Int×Bs}(h0:(lkM s.nm k).getD 0=0):lkM s.nm k=none:=by
 cases hl:lkM s.nm k with
 |none=>rfl
 |some j=>have:=h.nm1 hI hl;rw[hl]at h0;simp at h0;omega
theorem lg(T:s.Top2)(h:s.ok L0 (evFe s inn o)=true):Gr s (s.step L0 (evFe s inn o))∧(s.step L0 (evFe s inn o)).Top2∧lkM (s.step L0 (evFe s inn o)).pl o.url=some (s.t2+1)∧(s.step L0 (evFe s inn o)).nm=s.nm:=by
 obtain⟨hck,hn,_,_,hp⟩:=xT h;have hp:=Ff T.n T.i hp;have ck_le:s.t2+1≤1048576:=by
  unfold Leaf.ck at hck;rw[L2]at hck;exact(i7 hck.1 (by show(3:Int)≠13;omega)).2
 obtain⟨he,c8,e⟩:=rH h;have I:=T.i.step (L:=L0) (evFe s inn o);have N:=T.n.step (L:=L0) T.i (evFe s inn o);rw[e]at I N ⊢;refine⟨⟨fun _ _=>rfl,fun k hk=>?_,fun _ _ h=>h,fun k v hk=>?_,X6 _,by show s.t2≤s.t2+1;omega,M3 _,?_⟩,⟨I,N,T.o,fun k f hf=>?_,T.zo,by have:=T.ze;show 0≤s.t2+1;omega,T.mo,ck_le⟩,?_,rfl⟩
 ·show lkM (upM s.fe s.c2 _ _) k=_;rw[bt,L1 (by rintro rfl;rw[hn]at hk;cases hk)]
 ·show lkM (upM s.pl s.c6 _ _) k=_;rw[bt,L1 (by rintro rfl;rw[hp]at hk;cases hk)];exact hk
 ·show _≤(upM s.fe s.c2 _ _).length;rw[j9];split<;>omega
 ·have hf:lkM (upM s.fe s.c2 (s.t2+1) _) k=some f:=hf;show k≤s.t2+1;rcases aG hf with⟨rfl,_⟩| ⟨_,hf⟩
  ·exact X6 _
  ·have:=T.e k f hf;omega
 ·show lkM (upM s.pl s.c6 _ _) o.url=_;rw[bt,L7 rfl]
theorem jm(T:s.Top2)(h:s.ok L0 (evFo s inn name)=true):Gr s (s.step L0 (evFo s inn name))∧(s.step L0 (evFo s inn name)).Top2∧(∀k,lkM (s.step L0 (evFo s inn name)).nm k=if k=(inn,name)then some (s.t1+1)else lkM s.nm k)∧(lkM (s.step L0 (evFo s inn name)).fo (s.t1+1)).isSome=true:=by
 obtain⟨hck,hn,_,_,_,hp⟩:=B1 h;have hp:=K7 T.n T.i hp;have ck_le:s.t1+1≤1048576:=by
  unfold Leaf.ck at hck;rw[L2]at hck;exact(i7 hck.1 (by show(1:Int)≠13;omega)).2
 obtain⟨he,c8,e⟩:=mg h;have I:=T.i.step (L:=L0) (evFo s inn name);have N:=T.n.step (L:=L0) T.i (evFo s inn name);rw[e]at I N ⊢;refine⟨⟨fun k hk=>?_,fun _ _=>rfl,fun k v hk=>?_,fun _ _ h=>h,by show s.t1≤s.t1+1;omega,X6 _,?_,M3 _⟩,⟨I,N,fun k f hf=>?_,T.e,by have:=T.zo;show 0≤s.t1+1;omega,T.ze,ck_le,T.me⟩,fun k=>?_,?_⟩
 ·show lkM (upM s.fo s.c1 _ _) k=_;rw[bt,L1 (by rintro rfl;rw[hn]at hk;cases hk)]
 ·show lkM (upM s.nm s.c5 _ _) k=_;rw[bt,L1 (by rintro rfl;rw[hp]at hk;cases hk)];exact hk
 ·show _≤(upM s.fo s.c1 _ _).length;rw[j9];split<;>omega
 ·have hf:lkM (upM s.fo s.c1 (s.t1+1) _) k=some f:=hf;show k≤s.t1+1;rcases aG hf with⟨rfl,_⟩| ⟨_,hf⟩
  ·exact X6 _
  ·have:=T.o k f hf;omega
 ·show lkM (upM s.nm s.c5 _ _) k=_;rw[bt]
 ·show(lkM (upM s.fo s.c1 _ _) (s.t1+1)).isSome=true;rw[bt,L7 rfl];rfl
theorem zE{s s':PS}(hI:s.Inv)(hI':s'.Inv)(h:Gr s s'):∀(n:Nat) (id:Int),id=0∨(lkM s.fo id).isSome=true→deepO s'.fo n id=deepO s.fo n id:=by
 have z:∀s:PS,s.Inv→lkM s.fo 0=none:=fun s hI=>by
  cases hl:lkM s.fo 0 with
  |none=>rfl
  |some f=>have:=(hI.i1 _ _ hl).2;omega
 intro n;induction n with
 |zero=>
  intro id hid;unfold deepO;rcases hid with rfl|hid
  ·rw[z s hI,z s' hI']
  ·rw[h.fo id hid]
 |succ n ih=>
  intro id hid;unfold deepO;rcases hid with rfl|hid
  ·rw[z s hI,z s' hI']
  ·rw[h.fo id hid];obtain⟨f,hf⟩:=aK hid;rw[hf];simp only[];rw[ih f.inn (hI.u1 _ _ hf)]
theorem nR{s s':PS}(h:Gr s s')(hw:s.within inn=true):s'.within inn=true:=by
 unfold PS.within at hw ⊢;rw[P8]at hw ⊢;rcases hw with hw|hw
 ·exact .inl hw
 ·right;rw[h.fo _ hw];exact hw
theorem yA(hw:s.within inn=true):inn=0∨(lkM s.fo inn).isSome=true:=by
 unfold PS.within at hw;rw[P8,L8]at hw;exact hw
theorem Dl{s s':PS}(T:s.Top2)(T':s'.Top2)(h:Gr s s')(hw:s.within inn=true)(hb:s.ok L0 (evFe s inn o)=false):s'.ok L0 (evFe s' inn o)=false:=by
 have k3':(evFe s' inn o).kind=3:=rfl;have k3:(evFe s inn o).kind=3:=rfl;cases hk:s'.ok L0 (evFe s' inn o)with
 |false=>rfl
 |true=>
  exfalso;obtain⟨a1,_,a3,_,a5⟩:=xT hk;have hpn:=Ff T'.n T'.i a5;have hps:lkM s.pl o.url=none:=by
   cases hl:lkM s.pl o.url with
   |none=>rfl
   |some v=>have:=h.pl _ _ hl;rw[hpn]at this;cases this
  have hf:lkM s.fe (s.t2+1)=none:=by
   cases hl:lkM s.fe (s.t2+1)with
   |none=>rfl
   |some f=>have:=T.e _ _ hl;omega
  have hck:L0.ck (evFe s inn o)=true:=by
   unfold Leaf.ck at a1 ⊢;rw[L2]at a1 ⊢;refine⟨?_,by simp[usedE,evFe]⟩;have a1:=a1.1;unfold Leaf.right at a1 ⊢;rw[L1 (by omega),L1 (by omega),L7 k3']at a1;rw[L1 (by omega),L1 (by omega),L7 k3];rw[L2]at a1 ⊢;refine⟨?_,a1.2⟩;have:=a1.1;have h2:=h.t2;have h0:=T.ze;unfold idF at this ⊢;simp only[L2,L8]at this ⊢;have e1:(evFe s' inn o).a=s'.t2+1:=rfl;have e2:(evFe s inn o).a=s.t2+1:=rfl;rw[e1]at this;rw[e2];omega
  have:s.ok L0 (evFe s inn o)=true:=by
   unfold PS.ok PS.fits;rw[hck,L1 (by omega),L1 (by omega),L7 k3];have h3:s.fe.length<64:=(by have:=h.le;omega);simp[evFe,hf,h3,hw,hps]
  rw[hb]at this;cases this
theorem yB{s s':PS}(T:s.Top2)(T':s'.Top2)(h:Gr s s')(hw:s.within inn=true)(h0:foId s inn name=0)(hb:s.ok L0 (evFo s inn name)=false):s'.ok L0 (evFo s' inn name)=false:=by
 have k1':(evFo s' inn name).kind=1:=rfl;have k1:(evFo s inn name).kind=1:=rfl;cases hk:s'.ok L0 (evFo s' inn name)with
 |false=>rfl
 |true=>
  exfalso;obtain⟨a1,_,a3,_,a5,a6⟩:=B1 hk;have hf:lkM s.fo (s.t1+1)=none:=by
   cases hl:lkM s.fo (s.t1+1)with
   |none=>rfl
   |some f=>have:=T.o _ _ hl;omega
  have hd:s'.dpt inn=s.dpt inn:=by unfold PS.dpt;rw[zE T.i T'.i h 7 inn (yA hw)]
  have hck:L0.ck (evFo s inn name)=true:=by
   unfold Leaf.ck at a1 ⊢;rw[L2]at a1 ⊢;refine⟨?_,by simp[usedE,evFo]⟩;have a1:=a1.1;unfold Leaf.right at a1 ⊢;rw[L7 k1']at a1;rw[L7 k1];rw[L2]at a1 ⊢;refine⟨?_,a1.2⟩;have:=a1.1;have h2:=h.t1;have h0:=T.zo;unfold idF at this ⊢;simp only[L2,L8]at this ⊢;have e1:(evFo s' inn name).a=s'.t1+1:=rfl;have e2:(evFo s inn name).a=s.t1+1:=rfl;rw[e1]at this;rw[e2];omega
  have:s.ok L0 (evFo s inn name)=true:=by
   unfold PS.ok PS.fits;rw[hck,L7 k1];have h3:s.fo.length<64:=(by have:=h.lo;omega);rw[hd]at a5;have h4:(lkM s.nm (inn,name)).getD 0=0:=h0;have h5:s.dpt inn<7:=a5;simp[evFo,hf,h3,hw,h4,h5]
  rw[hb]at this;cases this
end
inductive Run:PS→PS→Prop
 |refl (s:PS):Run s s
 |fe {s t:PS} (inn:Int) (o:Outl):Run s t→t.ok L0 (evFe t inn o)=true→Run s (t.step L0 (evFe t inn o))
 |fo {s t:PS} (inn:Int) (name:Bs):Run s t→t.ok L0 (evFo t inn name)=true→Run s (t.step L0 (evFo t inn name))
theorem Run.trans{a b c:PS}(h:Run a b)(g:Run b c):Run a c:=by
 induction g with
 |refl=>exact h
 |fe inn o _ hk ih=>exact .fe inn o ih hk
 |fo inn name _ hk ih=>exact .fo inn name ih hk
theorem Run.gr{s t:PS}(h:Run s t)(T:s.Top2):Gr s t∧t.Top2:=by
 induction h with
 |refl=>exact⟨Gr.refl _,T⟩
 |fe inn o _ hk ih=>have g:=lg ih.2 hk;exact⟨ih.1.trans g.1,g.2.1⟩
 |fo inn name _ hk ih=>have g:=jm ih.2 hk;exact⟨ih.1.trans g.1,g.2.1⟩
theorem Run.no{s t:PS}(h:Run s t){inn:Int}{name:Bs}(T:s.Top2)(hw:s.within inn=true)(h0:foId s inn name=0)(hb:s.ok L0 (evFo s inn name)=false):foId t inn name=0∧t.ok L0 (evFo t inn name)=false:=by
 have key:foId t inn name=0:=by
  induction h with
  |refl=>exact h0
  |fe inn2 o hr hk ih=>
   have g:=hr.gr T;have:=(lg g.2 hk).2.2.2;unfold foId at ih ⊢;rw[this];exact ih
  |fo inn2 name2 hr hk ih=>
   have g:=hr.gr T;have hnm:=(jm g.2 hk).2.2.1 (inn,name);unfold foId at ih ⊢;rw[hnm];split
   ·rename_i e;cases e;have:=yB T g.2 g.1 hw h0 hb;rw[hk]at this;cases this
   ·exact ih
 exact⟨key,yB T (h.gr T).2 (h.gr T).1 hw h0 hb⟩
structure Br (s:PS) (p:PS×List Ev):Prop where
 t:p.1.Top2
 r:Run s p.1
 f:p.1=p.2.foldl (PS.step L0) s
 a:fitAll s p.2=true
 k:∀e∈p.2,e.kind=1∨e.kind=3
theorem Br.nil{s:PS}(T:s.Top2):Br s (s,[]):=⟨T,.refl _,rfl,rfl,fun e he=>by cases he⟩
theorem Br.app{s a b:PS}{x y:List Ev}(h:Br s (a,x))(g:Br a (b,y)):Br s (b,x++y) where
 t:=g.t
 r:=h.r.trans g.r
 f:=by
  have h1:a=x.foldl (PS.step L0) s:=h.f;have h2:b=y.foldl (PS.step L0) a:=g.f;show b=(x++y).foldl _ s;rw[List.foldl_append, ← h1];exact h2
 a:=by
  have h1:a=x.foldl (PS.step L0) s:=h.f;show fitAll s (x++y)=true;rw[zD,L2, ← h1];exact⟨h.a,g.a⟩
 k:=fun e he=>(U2.1 he).elim (h.k e) (g.k e)
section
variable {nf:Bs→Bs} {g:Int→List Outl→PS→PS×List Ev} {s:PS} {inn:Int}
theorem nS{s:PS}{j inn:Int}{name:Bs}(T:s.Top2)(hj:foId s inn name=j)(h0:j≠0):s.within j=true:=by
 unfold foId at hj;cases hl:lkM s.nm (inn,name)with
 |none=>rw[hl]at hj;exact absurd hj.symm h0
 |some v=>
  rw[hl]at hj;obtain⟨f,hf,_⟩:=T.n.n1 _ _ hl;have hj:v=j:=hj;subst hj;unfold PS.within;rw[hf];simp
theorem iZ(hg:∀inn l s,s.Top2→s.within inn=true→Br s (g inn l s))(T:s.Top2)(hw:s.within inn=true)(o:Outl):Br s (oneG nf g inn o s):=by
 unfold oneG;split
 ·unfold putF;split
  ·rename_i hk;exact⟨(lg T hk).2.1,.fe inn o (.refl s) hk,rfl,by rw[fitAll,hk];rfl,fun e he=>by rw[S7]at he;subst he;exact .inr rfl⟩
  ·exact Br.nil T
 ·split
  ·rename_i h0;exact hg _ _ _ T (nS T rfl h0)
  ·split
   ·rename_i hk;have g1:=jm T hk;have b1:Br s (s.step L0 (evFo s inn (nf o.title)),[evFo s inn (nf o.title)]):=⟨g1.2.1,.fo inn _ (.refl s) hk,rfl,by rw[fitAll,hk];rfl,fun e he=>by rw[S7]at he;subst he;exact .inl rfl⟩
    exact b1.app (hg (s.t1+1) o.kids _ g1.2.1 (by unfold PS.within;rw[g1.2.2.2];simp))
   ·exact hg _ _ _ T hw
theorem j0{h:Outl→PS→PS×List Ev}(hh:∀o s,s.Top2→s.within inn=true→Br s (h o s)):∀(l:List Outl) (s:PS),s.Top2→s.within inn=true→Br s (lstG h l s)
 | [],s,T,_=>Br.nil T
 |o::l,s,T,hw=>by
  have b1:=hh o s T hw;exact b1.app (j0 hh l _ b1.t (nR (b1.r.gr T).1 hw))
theorem fE:∀(k:Nat) (inn:Int) (l:List Outl) (s:PS),s.Top2→s.within inn=true→Br s (brgF nf k inn l s)
 |0,_,_,_,T,_=>Br.nil T
 |k+1,inn,l,s,T,hw=>j0 (fun o s T hw=>iZ (fE k) T hw o) l s T hw
theorem nq{h:Outl→PS→PS×List Ev}(hh:∀o s,s.Top2→s.within inn=true→Br s (h o s))(ha:∀o s z,s.Top2→s.within inn=true→Run (h o s).1 z→h o z=(z,[])):
  ∀(l:List Outl) (s z:PS),s.Top2→s.within inn=true→Run (lstG h l s).1 z→lstG h l z=(z,[])
 | [],_,_,_,_,_=>rfl
 |o::l,s,z,T,hw,hr=>by
  have b1:=hh o s T hw;have w1:=nR (b1.r.gr T).1 hw;have b2:=j0 hh l _ b1.t w1;have h1:=ha o s z T hw (b2.r.trans hr);have h2:=nq hh ha l _ z b1.t w1 hr;rw[lstG,h1];show((lstG h l z).1,[]++(lstG h l z).2)=_;rw[h2];rfl
theorem vu(hg:∀inn l s,s.Top2→s.within inn=true→Br s (g inn l s))(ha:∀inn l s z,s.Top2→s.within inn=true→Run (g inn l s).1 z→g inn l z=(z,[]))(o:Outl)(s z:PS)(T:s.Top2)(hw:s.within inn=true)(hr:Run (oneG nf g inn o s).1 z):oneG nf g inn o z=(z,[]):=by
 have Tz:=(((iZ hg T hw o).r).trans hr).gr T;unfold oneG at hr ⊢;by_cases hu:o.url≠ []
 ·rw[L7 hu]at hr ⊢;unfold putF at hr ⊢;by_cases hk:s.ok L0 (evFe s inn o)=true
  ·rw[L7 hk]at hr;have g1:=lg T hk;have g2:=hr.gr g1.2.1;have hp:=g2.1.pl _ _ g1.2.2.1;rw[L1];intro h;have:=(xT h).2.2.2.2;rw[hp]at this;have h0:=T.ze;have this:s.t2+1=0:=this;omega
  ·have hk:s.ok L0 (evFe s inn o)=false:=(by simpa using hk);rw[L1 (by rw[Dl T Tz.2 Tz.1 hw hk];simp)]
 ·rw[L1 hu]at hr ⊢;by_cases h0:foId s inn (nf o.title)≠0
  ·rw[L7 h0]at hr;have e:foId z inn (nf o.title)=foId s inn (nf o.title):=by
    unfold foId at h0 ⊢;cases hl:lkM s.nm (inn,nf o.title)with
    |none=>rw[hl]at h0;exact absurd rfl h0
    |some v=>rw[Tz.1.nm _ _ hl]
   rw[L7 (by rw[e];exact h0),e];exact ha _ _ s z T (nS T rfl h0) hr
  ·rw[L1 h0]at hr;have h0:foId s inn (nf o.title)=0:=Decidable.byContradiction h0;by_cases hk:s.ok L0 (evFo s inn (nf o.title))=true
   ·rw[L7 hk]at hr;have g1:=jm T hk;have w1:(s.step L0 (evFo s inn (nf o.title))).within (s.t1+1)=true:=(by unfold PS.within;rw[g1.2.2.2];simp);have b1:=hg (s.t1+1) o.kids _ g1.2.1 w1;have hr:Run (g (s.t1+1) o.kids (s.step L0 (evFo s inn (nf o.title)))).1 z:=hr;have g2:=(b1.r.trans hr).gr g1.2.1;have e:foId z inn (nf o.title)=s.t1+1:=by
     unfold foId;rw[g2.1.nm _ (s.t1+1) (by rw[g1.2.2.1,L7 rfl])];rfl
    have:=T.zo;rw[L7 (by rw[e];omega),e];exact ha _ _ _ z g1.2.1 w1 hr
   ·have hk:s.ok L0 (evFo s inn (nf o.title))=false:=(by simpa using hk);rw[L1 (by rw[hk];simp)]at hr;have b1:=hg inn o.kids s T hw;have hn:=(b1.r.trans hr).no T hw h0 hk;rw[L1 (by rw[hn.1];simp),L1 (by rw[hn.2];simp)];exact ha _ _ s z T hw hr
theorem j1:∀(k:Nat) (inn:Int) (l:List Outl) (s z:PS),s.Top2→s.within inn=true→Run (brgF nf k inn l s).1 z→brgF nf k inn l z=(z,[])
 |0,_,_,_,_,_,_,_=>rfl
 |k+1,inn,l,s,z,T,hw,hr=>nq (fun o s T hw=>iZ brg_br' T hw o) (fun o s z T hw hr=>vu brg_br' (j1 k) o s z T hw hr) l s z T hw hr
where brg_br' {k:Nat}:∀inn l s,s.Top2→s.within inn=true→Br s (brgF nf k inn l s):=fE k
end
def fdK:Nat→List Outl→List Outl
 |0,_=>[]
 |k+1,l=>l.flatMap fun o=>if o.url≠ []then [o]else fdK k o.kids
def okK:Nat→List Outl→Prop
 |0,l=>l=[]
 |k+1,l=>∀o∈l,oneOk o=true∧okK k o.kids
theorem nT:∀(f:Nat) (l:List Outl),cntN f l≤512→okK f l
 |0,l,h=>by
  rw[cntN]at h;show l=[]
  by_cases hl:l=[]
  ·exact hl
  ·rw[L1 hl]at h;omega
 |f+1,l,h=>by
  rw[cntN]at h;by_cases hl:512<l.length
  ·rw[L7 hl]at h;omega
  rw[L1 hl]at h;have key:∀(l:List Outl) (n:Nat),cntGo (cntN f) l n≤512→∀o∈l,oneOk o=true∧okK f o.kids:=by
   intro l;induction l with
   |nil=>intro n _ o ho;cases ho
   |cons x l ih=>
    intro n hn o ho;rw[cntGo]at hn;by_cases hx:oneOk x=true
    ·rw[L7 hx]at hn;by_cases h5:512<n+cntN f x.kids
     ·rw[L7 h5]at hn;omega
     ·rw[L1 h5]at hn;rcases N0.1 ho with rfl|ho
      ·exact⟨hx,nT f _ (by omega)⟩
      ·exact ih _ hn o ho
    ·rw[L1 hx]at hn;omega
  exact key l _ h
theorem vw(f:Outl→List Outl)(d:Nat):∀(l:List Outl),(∀o∈l,feedsO o d=f o)→feedsL l d=l.flatMap f
 | [],_=>by rw[feedsL,Z5]
 |o::l,h=>by rw[feedsL,R7,h o (by simp),vw f d l fun x hx=>h x (by simp[hx])]
theorem yC:∀(k d:Nat) (l:List Outl),okK k l→k+d=9→feedsF l d=fdK k l
 |0,d,l,_,h=>by
  unfold feedsF fdK;rw[L7 (by omega)]
 |k+1,d,l,hk,h=>by
  unfold feedsF fdK;rw[L1 (by omega)];refine vw _ d l fun o ho=>?_
  have h1:=hk o ho;rw[mW];by_cases hu:o.url=[]
  ·rw[L7 hu,L1 (by simp[hu]),O8];exact yC k (d+1) o.kids h1.2 (by omega)
  ·rw[L1 hu,L7 hu];have h2:=h1.1;unfold oneOk at h2;simp only[L2,P8,L8]at h2;rcases h2.2 with h3|h3
   ·exact absurd h3 hu
   ·rw[h3];have:feedsF [] (d+1)=[]:=by unfold feedsF;split<;>rfl
    rw[this];rfl
section
variable {nf:Bs→Bs} {g:Int→List Outl→PS→PS×List Ev} {s:PS} {inn:Int}
theorem Hg{o:Outl}(T:s.Top2)(hw:s.within inn=true)(hu:o.url≠ [])(ho:oneOk o=true)(h1:s.fe.length<64)(h2:s.t2+1≤1048576)(hp:lkM s.pl o.url=none):s.ok L0 (evFe s inn o)=true:=by
 have k3:(evFe s inn o).kind=3:=rfl;have hf:lkM s.fe (s.t2+1)=none:=by
  cases hl:lkM s.fe (s.t2+1)with
  |none=>rfl
  |some f=>have:=T.e _ _ hl;omega
 unfold oneOk at ho;simp only[L2]at ho;have hz:=T.ze;have hi:(inn==0||idF inn)=true:=by
  rcases yA hw with rfl|h
  ·rfl
  ·obtain⟨f,hf⟩:=aK h;have:=(T.i.i1 _ _ hf).2;have e:idF inn=true:=(by unfold idF;simp;omega);rw[e];simp
 have hck:L0.ck (evFe s inn o)=true:=by
  unfold Leaf.ck;rw[L2];refine⟨?_,by simp[usedE,evFe]⟩;have g1:idF (s.t2+1)=true:=by unfold idF;simp;omega
  have g3:L0.place o.url=true:=by
   show(!(o.url==[])&&textF rightS cleanF o.url 512)=true;have h5:=rG ho.1.2;rw[show((512:Nat):Int)=512 from rfl]at h5;rw[h5];simpa using hu
  have g4:L0.title o.title=true:=rG ho.1.1.2;unfold Leaf.right;rw[L1 (by omega),L1 (by omega),L7 k3];show(idF (s.t2+1)&&((inn==0||idF inn)&&(L0.place o.url&&L0.title o.title)))=true;rw[g1,hi,g3,g4];rfl
 unfold PS.ok PS.fits;rw[hck,L1 (by omega),L1 (by omega),L7 k3];simp[evFe,hf,h1,hw,hp]
structure Pl (s z:PS) (l:List Outl):Prop where
 n:z.fe.length≤s.fe.length+l.length
 t:z.t2≤s.t2+l.length
 p:s.fe.length+l.length≤64→s.t2+l.length≤1048576→∀o∈l,(lkM z.pl o.url).isSome=true
theorem Pl.nil(s:PS):Pl s s []:=⟨M3 _,by simp,fun _ _ o h=>by cases h⟩
theorem Pl.app{s a b:PS}{x y:List Outl}(h:Pl s a x)(g:Pl a b y)(hr:Gr a b):Pl s b (x++y) where
 n:=by have:=h.n;have:=g.n;rw[L4];omega
 t:=by have:=h.t;have:=g.t;rw[L4];omega
 p:=fun h1 h2 o ho=>by
  rw[L4]at h1 h2;have hn:=h.n;have ht:=h.t;rcases U2.1 ho with ho|ho
  ·obtain⟨v,hv⟩:=aK (h.p (by omega) (by omega) o ho);rw[hr.pl _ _ hv];rfl
  ·exact g.p (by omega) (by omega) o ho
theorem Pl.same{s a b:PS}{x:List Outl}(h:Pl a b x)(h1:a.fe.length=s.fe.length)(h2:a.t2=s.t2):Pl s b x:=⟨h1▸h.n,h2▸h.t,fun k1 k2=>h.p (by omega) (by omega)⟩
theorem B2{k:Nat}(hg:∀inn l s,s.Top2→s.within inn=true→okK k l→Pl s (g inn l s).1 (fdK k l))(T:s.Top2)(hw:s.within inn=true)(o:Outl)(ho:oneOk o=true)(hk:okK k o.kids):
  Pl s (oneG nf g inn o s).1 (if o.url≠ []then [o]else fdK k o.kids):=by
 unfold oneG;by_cases hu:o.url≠ []
 ·rw[L7 hu,L7 hu];unfold putF;by_cases hk:s.ok L0 (evFe s inn o)=true
  ·rw[L7 hk];have g1:=lg T hk;obtain⟨he,c8,e⟩:=rH hk;refine⟨?_,?_,fun _ _ x hx=>?_⟩
   ·show(s.step L0 (evFe s inn o)).fe.length≤_;rw[e];show(upM s.fe s.c2 _ _).length≤_;rw[j9];split<;>simp
   ·show(s.step L0 (evFe s inn o)).t2≤_;rw[e];show s.t2+1≤_;simp
   ·rw[S7]at hx;subst hx;show(lkM (s.step L0 (evFe s inn x)).pl x.url).isSome=true;rw[g1.2.2.1];rfl
  ·rw[L1 hk];refine⟨by simp,by simp;omega,fun h1 h2 x hx=>?_⟩;rw[S7]at hx;subst hx;show(lkM s.pl x.url).isSome=true;cases hl:lkM s.pl x.url with
   |some v=>rfl
   |none=>
    exfalso;simp only[W9]at h1 h2;exact hk (Hg T hw hu ho (by omega) (by omega) hl)
 ·rw[L1 hu,L1 hu];by_cases h0:foId s inn (nf o.title)≠0
  ·rw[L7 h0];exact hg _ _ _ T (nS T rfl h0) hk
  ·rw[L1 h0];by_cases hf:s.ok L0 (evFo s inn (nf o.title))=true
   ·rw[L7 hf];have g1:=jm T hf;obtain⟨he,c8,e⟩:=mg hf;exact(hg (s.t1+1) o.kids _ g1.2.1 (by unfold PS.within;rw[g1.2.2.2];simp) hk).same (by rw[e]) (by rw[e])
   ·rw[L1 hf];exact hg _ _ _ T hw hk
theorem vx{h:Outl→PS→PS×List Ev}{f:Outl→List Outl}{ok:Outl→Prop}(hh:∀o s,s.Top2→s.within inn=true→Br s (h o s))(hp:∀o s,s.Top2→s.within inn=true→ok o→Pl s (h o s).1 (f o)):
  ∀(l:List Outl) (s:PS),s.Top2→s.within inn=true→(∀o∈l,ok o)→Pl s (lstG h l s).1 (l.flatMap f)
 | [],s,_,_,_=>Pl.nil s
 |o::l,s,T,hw,hok=>by
  have b1:=hh o s T hw;have w1:=nR (b1.r.gr T).1 hw;have b2:=j0 hh l _ b1.t w1;rw[R7];exact(hp o s T hw (hok o (by simp))).app (vx hh hp l _ b1.t w1 fun x hx=>hok x (by simp[hx])) (b2.r.gr b1.t).1
theorem vy:∀(k:Nat) (inn:Int) (l:List Outl) (s:PS),s.Top2→s.within inn=true→okK k l→Pl s (brgF nf k inn l s).1 (fdK k l)
 |0,_,_,s,_,_,_=>Pl.nil s
 |k+1,inn,l,s,T,hw,hok=>vx (fun o s T hw=>iZ (fun inn l s T hw=>fE k inn l s T hw) T hw o) (fun o s T hw h=>B2 (vy k) T hw o h.1 h.2) l s T hw hok
end
variable {s:PS} {e:Ev}
structure Aft (s z:PS) (e:Ev):Prop where
 fo:∀k f,lkM z.fo k=some f→(lkM s.fo k).isSome=true∨(e.kind=1∧k=e.a)
 fe:∀k f,lkM z.fe k=some f→(lkM s.fe k).isSome=true∨(e.kind=3∧k=e.a)
 t1:z.t1=if e.kind=1 then(if e.a>s.t1 then e.a else s.t1)else s.t1
 t2:z.t2=if e.kind=3 then(if e.a>s.t2 then e.a else s.t2)else s.t2
theorem Aft.same{z:PS}(h1:e.kind≠1)(h3:e.kind≠3)(a:z.fo=s.fo)(b:z.fe=s.fe)(c:z.t1=s.t1)(d:z.t2=s.t2):Aft s z e:=
 ⟨fun k f hf=>.inl (by rw[a]at hf;rw[hf];rfl),fun k f hf=>.inl (by rw[b]at hf;rw[hf];rfl),by rw[L1 h1,c],by rw[L1 h3,d]⟩
theorem cm(s:PS)(id k:Int):(s.hold id k).fo=s.fo∧(s.hold id k).fe=s.fe∧(s.hold id k).t1=s.t1∧(s.hold id k).t2=s.t2:=by rw[bC];exact⟨rfl,rfl,rfl,rfl⟩
theorem Aft.of{a z:PS}(h:Aft s a e)(h1:z.fo=a.fo)(h2:z.fe=a.fe)(h3:z.t1=a.t1)(h4:z.t2=a.t2):Aft s z e:=⟨by rw[h1];exact h.fo,by rw[h2];exact h.fe,by rw[h3];exact h.t1,by rw[h4];exact h.t2⟩
theorem yD{s:PS}{c:Nat}{x:Int}{a:Fe}(hx:(lkM s.fe x).isSome=true):∀k f,lkM (upM s.fe c x a) k=some f→(lkM s.fe k).isSome=true:=fun k f hf=>by
 rcases aG hf with⟨rfl,_⟩| ⟨_,hf⟩
 ·exact hx
 ·rw[hf];rfl
theorem Dm(hI:s.Inv)(hok:s.ok L0 e=true):Aft s (s.aft e) e:=by
 unfold PS.ok PS.fits at hok;rw[L2]at hok;have hfit:=hok.2;clear hok;unfold PS.aft PS.after;split
 ·have h:=cm ((s.dlNm (((lkM s.fo e.a).getD Fo.z).inn,((lkM s.fo e.a).getD Fo.z).name)).dlFo e.a) ((lkM s.fo e.a).getD Fo.z).inn (-1);refine Aft.of (a:=(s.dlNm (((lkM s.fo e.a).getD Fo.z).inn,((lkM s.fo e.a).getD Fo.z).name)).dlFo e.a) ⟨fun k f hf=>?_,fun k f hf=>.inl ?_,?_,?_⟩ h.1 h.2.1 h.2.2.1 h.2.2.2
  ·have hf:lkM (dlM s.fo e.a) k=some f:=hf;left;rw[(cK hI.w1.keys hf).2];rfl
  ·have hf:lkM s.fe k=some f:=hf;rw[hf];rfl
  ·rw[L1 (by omega)];rfl
  ·rw[L1 (by omega)];rfl
 split
 ·have h:=cm ((({s with it:=itF s.it ((lkM s.fe e.a).getD Fe.z).id,gu:=guF s.it s.gu ((lkM s.fe e.a).getD Fe.z).id}:PS).dlPl ((lkM s.fe e.a).getD Fe.z).url).dlFe ((lkM s.fe e.a).getD Fe.z).id) ((lkM s.fe e.a).getD Fe.z).inn (-1);refine Aft.of (a:=(({s with it:=itF s.it ((lkM s.fe e.a).getD Fe.z).id,gu:=guF s.it s.gu ((lkM s.fe e.a).getD Fe.z).id}:PS).dlPl ((lkM s.fe e.a).getD Fe.z).url).dlFe ((lkM s.fe e.a).getD Fe.z).id) ⟨fun k f hf=>.inl ?_,fun k f hf=>.inl ?_,?_,?_⟩ h.1 h.2.1 h.2.2.1 h.2.2.2
  ·have hf:lkM s.fo k=some f:=hf;rw[hf];rfl
  ·have hf:lkM (dlM s.fe ((lkM s.fe e.a).getD Fe.z).id) k=some f:=hf;rw[(cK hI.w2.keys hf).2];rfl
  ·rw[L1 (by omega)];rfl
  ·rw[L1 (by omega)];rfl
 split
 ·rename_i k5;rw[L1 (by omega),L1 (by omega),L1 (by omega),L7 (.inr k5)]at hfit;refine⟨fun k f hf=>.inl ?_,fun k f hf=>.inl (yD hfit k f hf),?_,?_⟩
  ·have hf:lkM s.fo k=some f:=hf;rw[hf];rfl
  ·rw[L1 (by omega)];rfl
  ·rw[L1 (by omega)];rfl
 split
 ·rename_i k6;rw[L1 (by omega),L1 (by omega),L1 (by omega),L1 (by omega),L7 k6,L2]at hfit;have h1:=cm s ((lkM s.fe e.a).getD Fe.z).inn (-1);have h2:=cm (s.hold ((lkM s.fe e.a).getD Fe.z).inn (-1)) e.b 1;refine⟨fun k f hf=>.inl ?_,fun k f hf=>.inl ?_,?_,?_⟩
  ·have hf:lkM ((s.hold ((lkM s.fe e.a).getD Fe.z).inn (-1)).hold e.b 1).fo k=some f:=hf;rw[h2.1,h1.1]at hf;rw[hf];rfl
  ·have hf:lkM (upM ((s.hold ((lkM s.fe e.a).getD Fe.z).inn (-1)).hold e.b 1).fe _ e.a _) k=some f:=hf;rw[h2.2.1,h1.2.1]at hf;exact yD hfit.1 k f hf
  ·show((s.hold ((lkM s.fe e.a).getD Fe.z).inn (-1)).hold e.b 1).t1=_;rw[L1 (by omega),h2.2.2.1,h1.2.2.1]
  ·show((s.hold ((lkM s.fe e.a).getD Fe.z).inn (-1)).hold e.b 1).t2=_;rw[L1 (by omega),h2.2.2.2,h1.2.2.2]
 split
 ·exact Aft.same (by omega) (by omega) rfl rfl rfl rfl
 split
 ·exact Aft.same (by omega) (by omega) rfl rfl rfl rfl
 split
 ·exact Aft.same (by omega) (by omega) rfl rfl rfl rfl
 split
 ·exact Aft.same (by omega) (by omega) rfl rfl rfl rfl
 split
 ·exact Aft.same (by omega) (by omega) rfl rfl rfl rfl
 unfold PS.make;split
 ·rename_i k1;have h:=cm ((s.upFo e.a ⟨e.a,e.b,e.s⟩).upNm (e.b,e.s) e.a) e.b 1;refine⟨fun k f hf=>?_,fun k f hf=>.inl ?_,?_,?_⟩
  ·have hf:lkM (PS.hold ((s.upFo e.a ⟨e.a,e.b,e.s⟩).upNm (e.b,e.s) e.a) e.b 1).fo k=some f:=hf;rw[h.1]at hf;have hf:lkM (upM s.fo s.c1 e.a _) k=some f:=hf;rcases aG hf with⟨rfl,_⟩| ⟨_,hf⟩
   ·exact .inr ⟨k1,rfl⟩
   ·left;rw[hf];rfl
  ·have hf:lkM (PS.hold ((s.upFo e.a ⟨e.a,e.b,e.s⟩).upNm (e.b,e.s) e.a) e.b 1).fe k=some f:=hf;rw[h.2.1]at hf;have hf:lkM s.fe k=some f:=hf;rw[hf];rfl
  ·rw[L7 k1];show(if e.a>(PS.hold ((s.upFo e.a ⟨e.a,e.b,e.s⟩).upNm (e.b,e.s) e.a) e.b 1).t1 then e.a else(PS.hold ((s.upFo e.a ⟨e.a,e.b,e.s⟩).upNm (e.b,e.s) e.a) e.b 1).t1)=_;rw[h.2.2.1];rfl
  ·rw[L1 (by omega)];show(PS.hold ((s.upFo e.a ⟨e.a,e.b,e.s⟩).upNm (e.b,e.s) e.a) e.b 1).t2=_;rw[h.2.2.2];rfl
 split
 ·rename_i k3;have h:=cm ((s.upFe e.a ⟨e.a,e.b,e.s,e.t⟩).upPl e.s e.a) e.b 1;refine⟨fun k f hf=>.inl ?_,fun k f hf=>?_,?_,?_⟩
  ·have hf:lkM (PS.hold ((s.upFe e.a ⟨e.a,e.b,e.s,e.t⟩).upPl e.s e.a) e.b 1).fo k=some f:=hf;rw[h.1]at hf;have hf:lkM s.fo k=some f:=hf;rw[hf];rfl
  ·have hf:lkM (PS.hold ((s.upFe e.a ⟨e.a,e.b,e.s,e.t⟩).upPl e.s e.a) e.b 1).fe k=some f:=hf;rw[h.2.1]at hf;have hf:lkM (upM s.fe s.c2 e.a _) k=some f:=hf;rcases aG hf with⟨rfl,_⟩| ⟨_,hf⟩
   ·exact .inr ⟨k3,rfl⟩
   ·left;rw[hf];rfl
  ·rw[L1 (by omega)];show(PS.hold ((s.upFe e.a ⟨e.a,e.b,e.s,e.t⟩).upPl e.s e.a) e.b 1).t1=_;rw[h.2.2.1];rfl
  ·rw[L7 k3];show(if e.a>(PS.hold ((s.upFe e.a ⟨e.a,e.b,e.s,e.t⟩).upPl e.s e.a) e.b 1).t2 then e.a else(PS.hold ((s.upFe e.a ⟨e.a,e.b,e.s,e.t⟩).upPl e.s e.a) e.b 1).t2)=_;rw[h.2.2.2];rfl
 split
 ·exact Aft.same (by omega) (by omega) rfl rfl rfl rfl
 split
 ·exact Aft.same (by omega) (by omega) rfl rfl rfl rfl
 exact Aft.same (by omega) (by omega) rfl rfl rfl rfl
theorem PS.Top2.z0:PS.z.Top2:=⟨PS.Inv.z,PS.Nam.z,(fun _ _ h=>by cases h),(fun _ _ h=>by cases h),X6 _,X6 _,(by show(0:Int)≤1048576;omega),(by show(0:Int)≤1048576;omega)⟩
theorem PS.Top2.step(T:s.Top2)(e:Ev):(s.step L0 e).Top2:=by
 have I:=T.i.step (L:=L0) e;have N:=T.n.step (L:=L0) T.i e;unfold PS.step at I N ⊢;split
 ·rename_i hok;rw[L7 hok]at I N;have A:=Dm T.i hok;have zo:=T.zo;have ze:=T.ze;have mo:=T.mo;have me:=T.me;have hid:e.kind≠13→e.a≤1048576:=fun h13=>by
   unfold PS.ok PS.fits at hok;rw[L2]at hok;have hck:=hok.1;unfold Leaf.ck at hck;rw[L2]at hck;exact(i7 hck.1 h13).2
  refine⟨I,N,fun k f hf=>?_,fun k f hf=>?_,?_,?_,?_,?_⟩
  ·rw[A.t1];rcases A.fo k f hf with h| ⟨h1,rfl⟩
   ·obtain⟨g,hg⟩:=aK h;have:=T.o k g hg;split<;>(try split)<;>omega
   ·rw[L7 h1];split<;>omega
  ·rw[A.t2];rcases A.fe k f hf with h| ⟨h1,rfl⟩
   ·obtain⟨g,hg⟩:=aK h;have:=T.e k g hg;split<;>(try split)<;>omega
   ·rw[L7 h1];split<;>omega
  ·rw[A.t1];split<;>(try split)<;>omega
  ·rw[A.t2];split<;>(try split)<;>omega
  ·rw[A.t1];split
   ·have:=hid (by omega);split<;>omega
   ·exact mo
  ·rw[A.t2];split
   ·have:=hid (by omega);split<;>omega
   ·exact me
 ·exact T
theorem PS.Top2.fold(T:s.Top2)(l:List Ev):(l.foldl (PS.step L0) s).Top2:=by
 induction l generalizing s with
 |nil=>exact T
 |cons e l ih=>exact ih (T.step e)
end
section
variable {s z:PS}
theorem vz{α:Type}{z:α}{l:ML Int α}{k:Int}{a:α}(h:lkM l k=some a):a∈valsM z l:=by
 unfold valsM;refine M7.2 ⟨k,?_,by rw[h];rfl⟩;refine(X5 _ _).mem_iff.2 ?_;obtain⟨n,hn⟩:=ff h;exact M7.2 ⟨_,hn,rfl⟩
def fndN(l:List Fo)(inn:Int)(name:Bs):Int:=((l.find? fun f=>decide (f.inn=inn∧f.name=name)).map (·.id)).getD 0
theorem zF(T:s.Top2)(inn:Int)(name:Bs):fndN (valsM Fo.z s.fo) inn name=foId s inn name:=by
 unfold fndN foId;cases hf:(valsM Fo.z s.fo).find? fun f=>decide (f.inn=inn∧f.name=name)with
 |none=>
  cases hl:lkM s.nm (inn,name)with
  |none=>rfl
  |some k=>
   obtain⟨f,hk,hu⟩:=T.n.n1 _ _ hl;have:=List.find?_eq_none.1 hf f (vz hk);cases hu;simp at this
 |some f=>
  have h1:=List.find?_some hf;obtain⟨k,hk⟩:=dR (List.mem_of_find?_eq_some hf);simp only[L8]at h1;have:=T.n.n2 k f hk;rw[h1.1,h1.2]at this;rw[this];simp only[R4,U0];exact(T.i.i1 _ _ hk).1
theorem zG(T:s.Top2)(h:Gr s z){f:Fo}(hf:f∈valsM Fo.z s.fo):lkM z.fo f.id=some f:=by
 obtain⟨k,hk⟩:=dR hf;rw[(T.i.i1 _ _ hk).1,h.fo k (by rw[hk];rfl),hk]
theorem zH(T:s.Top2)(h:Gr s z){f:Fe}(hf:f∈valsM Fe.z s.fe):lkM z.fe f.id=some f:=by
 obtain⟨k,hk⟩:=dR hf;rw[(T.i.i2 _ _ hk).1,h.fe k (by rw[hk];rfl),hk]
theorem lh(nf:Bs→Bs)(T:s.Top2)(m:List Outl)(hm:cntN 8 m≤512):
  fitAll s (brgF nf 8 0 m s).2=true∧(brgF nf 8 0 m s).1=(brgF nf 8 0 m s).2.foldl (PS.step L0) s∧(∀e∈ (brgF nf 8 0 m s).2,e.kind=1∨e.kind=3)∧(brgF nf 8 0 m s).1.Top2∧Gr s (brgF nf 8 0 m s).1∧
   brgF nf 8 0 m (brgF nf 8 0 m s).1=((brgF nf 8 0 m s).1,[])∧
   ((feedsF m 1).length+s.fe.length≤64→(feedsF m 1).length+s.t2≤1048576→∀o∈feedsF m 1,(lkM (brgF nf 8 0 m s).1.pl o.url).isSome=true):=by
 have hw:s.within 0=true:=rfl;have hk:=nT 8 m hm;have b:=fE (nf:=nf) 8 0 m s T hw;have p:=vy (nf:=nf) 8 0 m s T hw hk;rw[yC 8 1 m hk rfl];exact⟨b.a,b.f,b.k,b.t,(b.r.gr T).1,j1 8 0 m s _ T hw (.refl _),fun h1 h2=>p.p (by omega) (by omega)⟩
end
section
variable {s:PS} {e:Ev}
def feT(f:Fe):Prop:=f.url≠ []∧textF rightS cleanF f.url 512=true∧textF rightS cleanF f.title 256=true
structure PS.Txt (s:PS):Prop where
 fo:∀k f,lkM s.fo k=some f→f.name≠ []∧textF rightS cleanF f.name 64=true
 fe:∀k f,lkM s.fe k=some f→feT f
theorem PS.Txt.z0:PS.z.Txt:=⟨fun _ _ h=>(by cases h),fun _ _ h=>by cases h⟩
theorem PS.Txt.same{z:PS}(h:s.Txt)(a:z.fo=s.fo)(b:z.fe=s.fe):z.Txt:=⟨by rw[a];exact h.fo,by rw[b];exact h.fe⟩
theorem B3{t:Bs}{b:Bool}(h:(!(t==[])&&b)=true):t≠ []∧b=true:=by
 rw[L2]at h;exact⟨by simpa using h.1,h.2⟩
theorem PS.Txt.aft(h:s.Txt)(hI:s.Inv)(hok:s.ok L0 e=true):(s.aft e).Txt:=by
 unfold PS.ok PS.fits at hok;rw[L2]at hok;obtain⟨hck,hfit⟩:=hok;unfold Leaf.ck at hck;rw[L2]at hck;have hr:=hck.1;clear hck;unfold Leaf.right at hr;unfold PS.aft PS.after;split
 ·have hh:=cm ((s.dlNm (((lkM s.fo e.a).getD Fo.z).inn,((lkM s.fo e.a).getD Fo.z).name)).dlFo e.a) ((lkM s.fo e.a).getD Fo.z).inn (-1);refine PS.Txt.same (s:=(s.dlNm (((lkM s.fo e.a).getD Fo.z).inn,((lkM s.fo e.a).getD Fo.z).name)).dlFo e.a) ⟨fun k f hf=>?_,h.fe⟩ hh.1 hh.2.1;have hf:lkM (dlM s.fo e.a) k=some f:=hf;exact h.fo k f (cK hI.w1.keys hf).2
 split
 ·have hh:=cm ((({s with it:=itF s.it ((lkM s.fe e.a).getD Fe.z).id,gu:=guF s.it s.gu ((lkM s.fe e.a).getD Fe.z).id}:PS).dlPl ((lkM s.fe e.a).getD Fe.z).url).dlFe ((lkM s.fe e.a).getD Fe.z).id) ((lkM s.fe e.a).getD Fe.z).inn (-1);refine PS.Txt.same (s:=(({s with it:=itF s.it ((lkM s.fe e.a).getD Fe.z).id,gu:=guF s.it s.gu ((lkM s.fe e.a).getD Fe.z).id}:PS).dlPl ((lkM s.fe e.a).getD Fe.z).url).dlFe ((lkM s.fe e.a).getD Fe.z).id) ⟨h.fo,fun k f hf=>?_⟩ hh.1 hh.2.1;have hf:lkM (dlM s.fe ((lkM s.fe e.a).getD Fe.z).id) k=some f:=hf;exact h.fe k f (cK hI.w2.keys hf).2
 split
 ·rename_i k5;rw[L1 (by omega),L1 (by omega),L1 (by omega),L7 (.inr k5)]at hfit;rw[L1 (by omega),L1 (by omega),L1 (by omega),L7 k5,L2]at hr;refine⟨h.fo,fun k f hf=>?_⟩;have hf:lkM (upM s.fe s.c2 e.a {(lkM s.fe e.a).getD Fe.z with title:=e.t}) k=some f:=hf;rcases aG hf with⟨rfl,rfl⟩| ⟨_,hf⟩
  ·obtain⟨g,hg⟩:=aK hfit;have:=h.fe _ _ hg;rw[hg];exact⟨this.1,this.2.1,hr.2⟩
  ·exact h.fe k f hf
 split
 ·rename_i k6;rw[L1 (by omega),L1 (by omega),L1 (by omega),L1 (by omega),L7 k6,L2]at hfit;have h1:=cm s ((lkM s.fe e.a).getD Fe.z).inn (-1);have h2:=cm (s.hold ((lkM s.fe e.a).getD Fe.z).inn (-1)) e.b 1;refine⟨fun k f hf=>?_,fun k f hf=>?_⟩
  ·have hf:lkM ((s.hold ((lkM s.fe e.a).getD Fe.z).inn (-1)).hold e.b 1).fo k=some f:=hf;rw[h2.1,h1.1]at hf;exact h.fo k f hf
  ·have hf:lkM (upM ((s.hold ((lkM s.fe e.a).getD Fe.z).inn (-1)).hold e.b 1).fe _ e.a {(lkM s.fe e.a).getD Fe.z with inn:=e.b}) k=some f:=hf;rw[h2.2.1,h1.2.1]at hf;rcases aG hf with⟨rfl,rfl⟩| ⟨_,hf⟩
   ·obtain⟨g,hg⟩:=aK hfit.1;have:=h.fe _ _ hg;rw[hg];exact this
   ·exact h.fe k f hf
 split
 ·exact h.same rfl rfl
 split
 ·exact h.same rfl rfl
 split
 ·exact h.same rfl rfl
 split
 ·exact h.same rfl rfl
 split
 ·exact h.same rfl rfl
 unfold PS.make;split
 ·rename_i k1;rw[L7 k1,L2,L2]at hr;have hh:=cm ((s.upFo e.a ⟨e.a,e.b,e.s⟩).upNm (e.b,e.s) e.a) e.b 1;have hl:=B3 hr.2.2;refine PS.Txt.same (s:=(s.upFo e.a ⟨e.a,e.b,e.s⟩).upNm (e.b,e.s) e.a) ⟨fun k f hf=>?_,h.fe⟩ hh.1 hh.2.1;have hf:lkM (upM s.fo s.c1 e.a ⟨e.a,e.b,e.s⟩) k=some f:=hf;rcases aG hf with⟨rfl,rfl⟩| ⟨_,hf⟩
  ·exact hl
  ·exact h.fo k f hf
 split
 ·rename_i k3;rw[L1 (by omega),L1 (by omega),L7 k3,L2,L2,L2]at hr;have hh:=cm ((s.upFe e.a ⟨e.a,e.b,e.s,e.t⟩).upPl e.s e.a) e.b 1;have hl:=B3 hr.2.2.1;refine PS.Txt.same (s:=(s.upFe e.a ⟨e.a,e.b,e.s,e.t⟩).upPl e.s e.a) ⟨h.fo,fun k f hf=>?_⟩ hh.1 hh.2.1;have hf:lkM (upM s.fe s.c2 e.a ⟨e.a,e.b,e.s,e.t⟩) k=some f:=hf;rcases aG hf with⟨rfl,rfl⟩| ⟨_,hf⟩
  ·exact⟨hl.1,hl.2,hr.2.2.2⟩
  ·exact h.fe k f hf
 split
 ·exact h.same rfl rfl
 split
 ·exact h.same rfl rfl
 ·exact h
theorem PS.Txt.step(h:s.Txt)(hI:s.Inv)(e:Ev):(s.step L0 e).Txt:=by
 unfold PS.step;split
 ·rename_i hk;exact h.aft hI hk
 ·exact h
theorem PS.Txt.fold(es:List Ev):∀{s:PS},s.Txt→s.Inv→(es.foldl (PS.step L0) s).Txt:=by
 induction es with
 |nil=>intro s h _;exact h
 |cons e es ih=>intro s h hI;exact ih (h.step hI e) (hI.step e)
end
section
attribute [local irreducible] WP WPl WPix Sat
variable (G:Nat→Option (List AVal))
theorem jG(s:Bs)(n:Nat)(hs:s.length≤700000)(hn:n≤1000)(h:Heap):Sat (CT G) 69 [.str s,.int .i64 n] h (fun r h'=>r=.str (shortF s n)∧h'=h):=by
 have h1:=gW s;have h2:=(ig (cleanF s) n).1;refine sb [.tmp 4] Tryz.func69 ?_;intro Q hQ;refine wk trivial ?_;refine kq trivial (cP G s (by omega) _) ?_;refine kq trivial (oH G (cleanF s) n (by omega) (by omega) _) ?_;refine kq trivial (cP G (cutF (cleanF s) n) (by omega) _) ?_;refine ee hQ trivial ?_;refine fR (.str _) ?_;rfl
section
variable {s:PS} {H:Heap} {n:Nat}
theorem lr(hn:n+9≤H.length):Sat (CT G) 67 [.hp (n+8) 0 0 0,.int .i64 1] (so H n s) (fun r h'=>r=.int .i64 s.t1∧h'=so H n s):=by
 refine sb [.tmp 4] Tryz.func67 ?_;intro Q hQ;refine wk trivial ?_;refine ee hQ trivial ?_;exact bH hn (.int _ _) ⟨rfl,rfl⟩
theorem tZ(hn:n+9≤H.length):Sat (CT G) 67 [.hp (n+8) 0 0 0,.int .i64 3] (so H n s) (fun r h'=>r=.int .i64 s.t2∧h'=so H n s):=by
 refine sb [.tmp 4] Tryz.func67 ?_;intro Q hQ;refine wk trivial ?_;refine ee hQ trivial ?_;exact bH hn (.int _ _) ⟨rfl,rfl⟩
theorem vL{l:List Fo}{k:Nat}{y:Fo}{p:Fo→Bool}(hy:l[k]? =some y)(h:(l.take k).find? p=none):l.find? p=if p y then some y else(l.drop (k+1)).find? p:=by
 have e:l=l.take k++y::l.drop (k+1):=by
  obtain⟨hlt,he⟩:=f9.1 hy;rw[← he, ← W7 hlt,V8]
 rw[e,List.find?_append,h,List.find?_cons];rw[← e];cases p y<;>rfl
theorem qF(T:s.Top2)(hn:n+9≤H.length)(inn:Int)(name:Bs):Sat (CT G) 70 [.hp (n+8) 0 0 0,.int .i64 inn,.str name] (so H n s) (fun r h'=>r=.int .i64 (foId s inn name)∧h'=so H n s):=by
 have hTl:=i8 G s T.i.toOk hn;have hfn:=zF T inn name;have hfo:s.tell.fo=valsM Fo.z s.fo:=rfl;rw[← hfo]at hfn;rw[← hfn];have hlf:s.tell.fo.length≤64:=by rw[hfo,fD];exact T.i.l1
 generalize s.tell=x at*;clear hfn hfo;have mfo:(x.fo.map Fo.av).length=x.fo.length:=N4 ..;have hnj:∀j,n+9≤(H++j).length:=fun j=>by simp;omega
 have F:=F3 @mfo hnj @aW;refine sb [.tmp 6] Tryz.func70 ?_;intro Q hQ;refine wk F ?_;refine kq F (hTl) ?_;refine lm (fun nL tL hL=>∃(k:Nat) (j:Heap),x.fo.length-k=nL∧so (H++j) n s=hL∧tL 13=.int .i64 k∧k≤x.fo.length∧((x.fo.take k).find? (fun f=>decide (f.inn=inn∧f.name=name))=none)) ((fun(k:Nat) (j:Heap)=>(x.fo.length-k:Nat)) (0) ([])) ?_ ?_
 ·refine M5 ⟨0,[],rfl,by rw[N3],?_,by omega,rfl⟩;all_goals try exact zZz F
 rintro _ s2 h' ⟨k,j,rfl,rfl,e13,hk,hf⟩ K2 hK2;simp only[ak,am,Nat.reduceEqDiff, ↓reduceIte]at e13;have F:=F2 F e13;by_cases c2:k<x.fo.length
 ·have d2:=P4 c2;obtain⟨y,hy,hym⟩:=aj c2;have hm:(x.fo.map Fo.av)[k]? =some y.av:=by rw[M8,hy];rfl
  have hft:=vL hy hf;have hf2:(x.fo.take (k+1)).find? (fun f=>decide (f.inn=inn∧f.name=name))=if decide (y.inn=inn∧y.name=name)then some y else none:=by
   rw[R6,hy,Y3,List.find?_append,hf,List.find?_cons];cases decide (y.inn=inn∧y.name=name)<;>rfl
  obtain⟨y1,y2,y3⟩:=y;rw[Fo.av_eq]at hm;simp only[]at hm hft hf2;by_cases ca:y2=inn
  ·have qa:(y2==inn)=true:=(by simp[ca]);by_cases cb:y3=name
   ·have qb:(y3==name)=true:=(by simp[cb]);have F:=F7 F hm hy d2 c2 qa qb;(try refine sq F ?_);refine wk F ?_;refine ee hQ F ?_;refine ar hn (.int _ _) ⟨?_,rfl⟩;unfold fndN;rw[hft,L7 (by simp[ca,cb])];rfl
   ·have qb:(y3==name)=false:=(by simp[cb]);have F:=F7 F hm hy d2 c2 qa qb;(try refine sq F ?_);refine wk F ?_;refine hK2 _ _ _ (M5 ⟨k+1,j++[.row 44 3 0 [.agg [.int .i64 y1,.int .i64 y2,.str y3]]],rfl,rfl,?_,by omega,by rw[hf2,L1 (by simp[cb])]⟩) (by omega);all_goals try exact zZz F
  ·have qa:(y2==inn)=false:=(by simp[ca]);have F:=F6 F hm hy d2 c2 qa;(try refine sq F ?_);refine wk F ?_;refine hK2 _ _ _ (M5 ⟨k+1,j++[.row 44 3 0 [.agg [.int .i64 y1,.int .i64 y2,.str y3]]],rfl,rfl,?_,by omega,by rw[hf2,L1 (by simp[ca])]⟩) (by omega);all_goals try exact zZz F
 ·have d2:=Q1 c2;rw[O1 (by omega)]at hf;have F:=F2 F d2;try refine sq F ?_
  refine wk F ?_;refine ee hQ F ?_;refine ar hn (.int _ _) ⟨?_,rfl⟩;unfold fndN;rw[hf];rfl
end
def exM(H:Heap)(n:Nat)(ws:List Ev)(j:Heap):Heap:=
 H++(.row 27 1 0 [.hp (n+8) 0 0 0]:: .row 22 1 0 [.hs (H.length+2) ws.length 0 ws.length true]:: .row 34 7 ws.length (ws.map Ev.av)::
  .row 32 1 0 [.fn (.func 66) [] [.hp H.length 0 0 0,.hp (H.length+1) 0 0 0]]::
  .row 120 1 0 [.fn (.func 68) [] [.hp (H.length+3) 0 0 0,.hp H.length 0 0 0,.hp (H.length+4) 0 0 0]]::j)
section
variable {H:Heap} {n:Nat} {ws:List Ev} {j:Heap}
theorem gG(j':Heap):exM H n ws j++j'=exM H n ws (j++j'):=by simp[exM]
theorem cU:(exM H n ws j).length=H.length+5+j.length:=by simp[exM];omega
theorem dm(i v:Nat):getRow (exM H n ws j) (H.length+i) v=getRow (.row 27 1 0 [.hp (n+8) 0 0 0]:: .row 22 1 0 [.hs (H.length+2) ws.length 0 ws.length true]:: .row 34 7 ws.length (ws.map Ev.av)::
  .row 32 1 0 [.fn (.func 66) [] [.hp H.length 0 0 0,.hp (H.length+1) 0 0 0]]::
  .row 120 1 0 [.fn (.func 68) [] [.hp (H.length+3) 0 0 0,.hp H.length 0 0 0,.hp (H.length+4) 0 0 0]]::j) i v:=bY v rfl
theorem zV(e:Ev):((exM H n ws j).set (H.length+2) (.row 34 7 (ws.length+1) (ws.map Ev.av++[e.av]))).set (H.length+1) (.row 22 1 0 [.hs (H.length+2) (ws.length+1) 0 (ws.length+1) true])=exM H n (ws++[e]) j:=by
 unfold exM;rw[kU _ rfl,kU _ rfl];simp only[List.set_cons_succ,List.set_cons_zero,L4,W9,Q7,N6,Q6]
end
end
section
attribute [local irreducible] WP WPl WPix Sat
theorem rO(h:Outl→PS→PS×List Ev):∀(a b:List Outl) (s:PS),lstG h (a++b) s=((lstG h b (lstG h a s).1).1,(lstG h a s).2++(lstG h b (lstG h a s).1).2)
 | [],b,s=>by rw[O8,lstG];rfl
 |o::a,b,s=>by
  rw[P3,lstG,rO h a b,lstG];simp only[O4]
theorem zW(h:Outl→PS→PS×List Ev){l:List Outl}{i:Nat}{o:Outl}(ho:l[i]? =some o)(s:PS):lstG h (l.take (i+1)) s=((h o (lstG h (l.take i) s).1).1,(lstG h (l.take i) s).2++(h o (lstG h (l.take i) s).1).2):=by
 rw[R6,ho,Y3,rO];simp only[lstG,N3]
theorem rP{nf:Bs→Bs}{g:Int→List Outl→PS→PS×List Ev}(hg:∀inn l s,(g inn l s).2.length≤szs Outl.sz l)(inn:Int)(o:Outl)(s:PS):(oneG nf g inn o s).2.length≤o.sz:=by
 have hz:=Outl.sz_eq o;unfold oneG;split
 ·unfold putF;split<;>simp<;>omega
 ·split
  ·have:=hg (foId s inn (nf o.title)) o.kids s;omega
  ·split
   ·have:=hg (s.t1+1) o.kids (s.step L0 (evFo s inn (nf o.title)));simp only[L6];omega
   ·have:=hg inn o.kids s;omega
theorem mj{h:Outl→PS→PS×List Ev}(hh:∀o s,(h o s).2.length≤o.sz):∀(l:List Outl) (s:PS),(lstG h l s).2.length≤szs Outl.sz l
 | [],s=>V0 _
 |o::l,s=>by
  have h1:=hh o s;have h2:=mj hh l (h o s).1;rw[lstG,szs,L4];omega
theorem jo{nf:Bs→Bs}:∀(k:Nat) (inn:Int) (l:List Outl) (s:PS),(brgF nf k inn l s).2.length≤szs Outl.sz l
 |0,_,_,_=>V0 _
 |k+1,inn,l,s=>mj (fun o s=>rP (jo k) inn o s) l s
theorem Be{l:List Outl}{i:Nat}{o:Outl}(ho:l[i]? =some o):szs Outl.sz (l.take i)+o.sz≤szs Outl.sz l:=by
 induction l generalizing i with
 |nil=>simp at ho
 |cons x l ih=>cases i with
  |zero=>simp at ho;subst ho;simp[szs]
  |succ i=>
   simp at ho;have:=ih ho;rw[O7,szs,szs];omega
variable (G:Nat→Option (List AVal))
section
variable {s:PS} {H:Heap} {n:Nat}
theorem pD(hn:n+9≤H.length)(hI:s.Inv)(ws:List Ev)(hws:ws.length≤4194304)(j:Heap)(e:Ev)(t:Int)(ht:e.a=t+1)(hb:0≤t∧t≤1048576)
  (hTop:∀X:Heap,n+9≤X.length→Sat (CT G) 67 [.hp (n+8) 0 0 0,.int .i64 e.kind] (so X n s) (fun r h'=>r=.int .i64 t∧h'=so X n s)):
  Sat (CT G) 66 [.agg [.int .i64 e.kind,.int .i64 0,.int .i64 e.b,.int .i64 e.n,.str e.s,.str e.t,.str e.u],.hp H.length 0 0 0,.hp (H.length+1) 0 0 0] (so (exM H n ws j) n s)
   (fun r h'=>r=.bool (s.ok L0 e)∧h'=so (exM H n (ws++if s.ok L0 e then [e]else []) (j++[.row 34 7 0 [e.av]])) n (s.step L0 e)):=by
 have cb:∀N b,Clo N (.bool b):=fun N b=>.bool _
 have hnM:∀{ws:List Ev} {j:Heap},n+9≤(exM H n ws j).length:=by intro ws j;rw[cU];omega
 have hAp:=fun(X:Heap) (hX:n+9≤X.length)=>eX G s hI e (H:=X) hX
 have hadd:=zV (H:=H) (n:=n) (ws:=ws) (j:=j++[.row 34 7 0 [e.av]]) e;have happ:=gG (H:=H) (n:=n) (ws:=ws) (j:=j) [.row 34 7 0 [e.av]];have hlen:=cU (H:=H) (n:=n) (ws:=ws) (j:=j);have hlen2:=cU (H:=H) (n:=n) (ws:=ws++[e]) (j:=j++[.row 34 7 0 [e.av]]);rw[← happ]at hadd;have hnX:n+9≤(exM H n ws j).length:=hnM;obtain⟨X,hX⟩:∃X,exM H n ws j=X:=⟨_,rfl⟩;have r0:getRow X H.length 0=some (27,1,[.hp (n+8) 0 0 0]):=(N5 (fun X=>getRow X (H.length+0) 0) hX).symm.trans (dm 0 0);have r1:getRow X (H.length+1) 0=some (22,1,[.hs (H.length+2) ws.length 0 ws.length true]):=(N5 (fun X=>getRow X (H.length+1) 0) hX).symm.trans (dm 1 0);have r2:getRow X (H.length+2) ws.length=some (34,7,ws.map Ev.av):=((N5 (fun X=>getRow X (H.length+2) ws.length) hX).symm.trans (dm 2 ws.length)).trans (by simp[getRow]);have hmw:(ws.map Ev.av).length=ws.length:=N4 ..;rw[hX]at hadd hlen hnX ⊢;have hXl:H.length+5≤X.length:=by omega
 obtain⟨k,a,b,m,es,et,eu⟩:=e;simp only[]at ht hTop;subst ht;simp only[Ev.av_eq]at hadd hAp happ hlen2;cases hok:s.ok L0 ⟨k,t+1,b,m,es,et,eu⟩with
 |false=>
  have hst:s.step L0 ⟨k,t+1,b,m,es,et,eu⟩=s:=by unfold PS.step;rw[hok];rfl
  rw[hst,hok]at hAp;rw[hst];have F:=F6 r0 r1 r2 @hnX hmw @aW;refine sb [.tmp 4] Tryz.func66 ?_;intro Q hQ;refine wk F ?_;refine kq F (hTop _ (by first|omega| (simp;omega))) ?_;refine kq F (hAp _ (by first|omega| (simp;omega))) ?_;refine ee hQ F ?_;refine W5 (by rw[aP hnX,aP (by simp;omega)];simp) (cb _ _) ⟨rfl,?_⟩;rw[← hX];rw[gG]
 |true=>
  have hnS:∀z:PS,n+9≤X.length:=fun _=>hnX
  rw[hok]at hAp;have F:=F6 r0 r1 r2 @hnX hmw @aW;refine sb [.tmp 4] Tryz.func66 ?_;intro Q hQ;refine wk F ?_;refine kq F (hTop _ (by first|omega| (simp;omega))) ?_;refine kq F (hAp _ (by first|omega| (simp;omega))) ?_;refine aq F ?_;try refine sq F ?_
  refine wk F ?_;refine ee hQ F ?_;refine W5 (by rw[aP hnX,aP (by simp;omega)];simp) (cb _ _) ⟨rfl,?_⟩;rw[← hadd];simp(disch:=first|omega| (simp;omega)) only[oK]
end
end
section
attribute [local irreducible] WP WPl WPix Sat
def nfX(t:Bs):Bs:=shortF t 64
theorem Bf{H:Heap}{n:Nat}{ws:List Ev}{j j2:Heap}{e m:Nat}{rs:List AVal}:getRow (exM H n ws (j++(.row e m 0 rs::j2))) (H.length+(5+j.length)) 0=some (e,m,rs):=by
 have e1:exM H n ws (j++(.row e m 0 rs::j2))=exM H n ws j++(.row e m 0 rs::j2):=gG _|>.symm
 rw[e1,bx 0 (by rw[cU];omega)];simp[getRow]
theorem Bg(l:List Outl):l.length≤szs Outl.sz l:=by
 induction l with
 |nil=>exact V0 _
 |cons o l ih=>have:=Outl.sz_eq o;rw[szs,L6];omega
variable (G:Nat→Option (List AVal))
section
variable {H:Heap} {n:Nat}
theorem qG(hn:n+9≤H.length):∀(k:Nat) (inn:Int) (l:List Outl) (s:PS) (ws:List Ev) (j:Heap),s.Top2→s.within inn=true→okK k l→ws.length+szs Outl.sz l≤2097152→
  Sat (CT G) 68 [.int .i64 inn,.sl 3 (l.map Outl.av),.hp (H.length+3) 0 0 0,.hp H.length 0 0 0,.hp (H.length+4) 0 0 0] (so (exM H n ws j) n s)
   (fun _ h'=>∃j2,h'=so (exM H n (ws++(brgF nfX k inn l s).2) (j++j2)) n (brgF nfX k inn l s).1):=by
 have ct:∀N,Clo N (.tup []):=fun N=>.tup _ (fun x hx=>by simp at hx)
 have hnM:∀{ws:List Ev} {j:Heap},n+9≤(exM H n ws j).length:=by intro ws j;rw[cU];omega
 have hnM2:∀(ws:List Ev) (j:Heap),n+9≤(exM H n ws j).length:=fun ws j=>hnM
 have q0:∀(ws:List Ev) (j:Heap),getRow (exM H n ws j) H.length 0=some (27,1,[.hp (n+8) 0 0 0]):=fun ws j=>dm 0 0
 have q3:∀(ws:List Ev) (j:Heap),getRow (exM H n ws j) (H.length+3) 0=some (32,1,[.fn (.func 66) [] [.hp H.length 0 0 0,.hp (H.length+1) 0 0 0]]):=fun ws j=>dm 3 0
 have q4:∀(ws:List Ev) (j:Heap),getRow (exM H n ws j) (H.length+4) 0=some (120,1,[.fn (.func 68) [] [.hp (H.length+3) 0 0 0,.hp H.length 0 0 0,.hp (H.length+4) 0 0 0]]):=fun ws j=>dm 4 0
 have qa:∀(ws:List Ev) (j j':Heap),exM H n ws j++j'=exM H n ws (j++j'):=fun ws j j'=>gG j'
 have ql:∀(ws:List Ev) (j:Heap),(exM H n ws j).length=H.length+(5+j.length):=fun ws j=>by rw[cU];omega
 have qt:∀(ws:List Ev) (j j2:Heap) (e m:Nat) (rs:List AVal),getRow (exM H n ws (j++(.row e m 0 rs::j2))) (H.length+(5+j.length)) 0=some (e,m,rs):=fun ws j j2 e m rs=>Bf
 intro k;induction k with
 |zero=>
  intro inn l s ws j T hw hk hsz;have hk:l=[]:=hk;subst hk;have e0:(brgF nfX 0 inn [] s)=(s,[]):=rfl;rw[e0];refine sb [] Tryz.func68 ?_;intro Q hQ;refine wk trivial ?_;refine lm (fun nL tL hL=>∃(i:Nat),0-i=nL∧so (exM H n ws j) n s=hL∧tL 14=.int .i64 i∧i≤0) ((fun(i:Nat)=>(0-i:Nat)) (0)) ?_ ?_
  ·refine M5 ⟨0,rfl,aw,?_,M3 0⟩;all_goals try exact zZz trivial
  rintro _ s2 h' ⟨i,rfl,rfl,e14,hi⟩ K2 hK2;simp only[ak,am,Nat.reduceEqDiff, ↓reduceIte]at e14;have F:=e14;refine wk F ?_;refine cq F (fun c1=>?_) (fun c1=>?_)<;>(try exact c1.elim)<;>(refine wk F ?_)
  ·exact absurd c1 (by omega)
  refine ee hQ F ?_;exact W5 (M3 _) (ct _) ⟨[],by simp⟩
 |succ k ih=>
  intro inn l s ws j T hw hk hsz;have hbb:∀inn l s,s.Top2→s.within inn=true→Br s (brgF nfX k inn l s):=fun inn l s T hw=>fE k inn l s T hw
  have hh:∀o s,s.Top2→s.within inn=true→Br s (oneG nfX (brgF nfX k) inn o s):=fun o s T hw=>iZ hbb T hw o
  have hbr:brgF nfX (k+1) inn l s=lstG (oneG nfX (brgF nfX k) inn) l s:=rfl;rw[hbr];have hlen:=mj (h:=oneG nfX (brgF nfX k) inn) (fun o s=>rP (nf:=nfX) (g:=brgF nfX k) (jo (nf:=nfX) k) inn o s);have hll:=Bg l;have hml:(l.map Outl.av).length=l.length:=N4 ..;have F:=hml;refine sb [] Tryz.func68 ?_;intro Q hQ;refine wk F ?_;refine lm (fun nL tL hL=>∃(i:Nat) (j2:Heap),l.length-i=nL∧so (exM H n (ws++(lstG (oneG nfX (brgF nfX k) inn) (l.take i) s).2) (j++j2)) n (lstG (oneG nfX (brgF nfX k) inn) (l.take i) s).1=hL∧tL 14=.int .i64 i∧i≤l.length) ((fun(i:Nat) (j2:Heap)=>(l.length-i:Nat)) (0) ([])) ?_ ?_
  ·refine M5 ⟨0,[],rfl,by rw[N3,Q3,lstG,N3],?_,by omega⟩;all_goals try exact zZz F
  rintro _ s2 h' ⟨i,j2,rfl,rfl,e14,hi⟩ K2 hK2;simp only[ak,am,Nat.reduceEqDiff, ↓reduceIte]at e14;have F:=F2 F e14;by_cases c2:i<l.length
  ·have d2:=P4 c2;obtain⟨o,ho,hom⟩:=aj c2;have hm:(l.map Outl.av)[i]? =some o.av:=(by rw[M8,ho];rfl);have hst:=zW (oneG nfX (brgF nfX k) inn) ho s;have b1:=j0 hh (l.take i) s T hw;have w1:=nR (b1.r.gr T).1 hw;have T1:=b1.t;have hl1:=hlen (l.take i) s;have hzo:=Be ho;have hoz:=Outl.sz_eq o;have hok:=hk o hom;generalize lstG (oneG nfX (brgF nfX k) inn) (l.take i) s=p at*;obtain⟨s1,es1⟩:=p;simp only[]at hst T1 w1 hl1 ⊢;obtain⟨J,hJ⟩:∃J,j++j2=J:=⟨_,rfl⟩;rw[hJ];obtain⟨ot,ou,ks⟩:=o;have hot:ot.length≤256:=by
    have:=hok.1;unfold oneOk at this;simp only[L2]at this;have:=this.1.1.2;unfold textO at this;simp only[L2,L8]at this;exact this.1.1
   have f1:(Outl.mk ot ou ks).av=.agg [.str ot,.str ou,.sl 3 (ks.map Outl.av)]:=za4 _;rw[f1]at hm;have hzk:szs Outl.sz ks≤(Outl.mk ot ou ks).sz:=(by rw[hoz];show szs Outl.sz ks≤1+ot.length+ou.length+szs Outl.sz ks;omega);have hzk1:szs Outl.sz ks+1≤(Outl.mk ot ou ks).sz:=(by rw[hoz];show szs Outl.sz ks+1≤1+ot.length+ou.length+szs Outl.sz ks;omega);have hoe:oneG nfX (brgF nfX k) inn (Outl.mk ot ou ks) s1=if ou≠ []then putF s1 (evFe s1 inn (Outl.mk ot ou ks))
     else if foId s1 inn (shortF ot 64)≠0 then brgF nfX k (foId s1 inn (shortF ot 64)) ks s1
     else if s1.ok L0 (evFo s1 inn (shortF ot 64))then((brgF nfX k (s1.t1+1) ks (s1.step L0 (evFo s1 inn (shortF ot 64)))).1,evFo s1 inn (shortF ot 64)::(brgF nfX k (s1.t1+1) ks (s1.step L0 (evFo s1 inn (shortF ot 64)))).2)
     else brgF nfX k inn ks s1:=rfl
   rw[hoe]at hst;have hSh:=jG G ot 64 (by omega) (by omega);have bz:=T1.ze;have bo:=T1.zo;have hlw:(ws++es1).length≤4194304:=(by rw[L4];omega);have hap:=fun(ws:List Ev) (J:Heap)=>(gG (H:=H) (n:=n) (ws:=ws) (j:=J) [.row 55 3 0 [.agg [.str ot,.str ou,.sl 3 (ks.map Outl.av)]]]).symm
   have hnX:=hnM2 (ws++es1) J;have x0:=q0 (ws++es1) J;have x3:=q3 (ws++es1) J;have x4:=q4 (ws++es1) J;have xl:=ql (ws++es1) J;have yo:∀(w:List Ev) (j2:Heap),getRow (exM H n w (J++[.row 55 3 0 [.agg [.str ot,.str ou,.sl 3 (ks.map Outl.av)]]]++j2)) (exM H n (ws++es1) J).length 0=some (55,3,[.agg [.str ot,.str ou,.sl 3 (ks.map Outl.av)]]):=fun w j2=>by
    rw[xl,O4];exact qt w J j2 _ _ _
   have hFo:=fun(X:Heap) (hX:n+9≤X.length)=>qF G (H:=X) (n:=n) T1 hX inn (shortF ot 64)
   obtain⟨X,hX⟩:∃X,exM H n (ws++es1) J=X:=⟨_,rfl⟩;have hX1:exM H n (ws++es1) (J++[.row 55 3 0 [.agg [.str ot,.str ou,.sl 3 (ks.map Outl.av)]]])=X++[.row 55 3 0 [.agg [.str ot,.str ou,.sl 3 (ks.map Outl.av)]]]:=(by rw[hap,hX]);rw[hX]at hnX x0 x3 x4 xl yo ⊢;have hXl:H.length+5≤X.length:=(by omega);by_cases hu:ou=[]
   ·have qu:(ou==([]:Bs))=true:=(by simp[hu]);rw[L1 (by simp[hu])]at hst;by_cases h0:foId s1 inn (shortF ot 64)=0
    ·have qf:(foId s1 inn (shortF ot 64) !=0)=false:=(by simp[h0]);rw[L1 (by simp[h0])]at hst;have hPu:=pD G hn T1.i (ws++es1) hlw (J++[.row 55 3 0 [.agg [.str ot,.str ou,.sl 3 (ks.map Outl.av)]]]) (evFo s1 inn (shortF ot 64)) s1.t1 rfl ⟨T1.zo,T1.mo⟩ (fun X hX=>lr G hX);rw[hX1]at hPu;cases hok1:s1.ok L0 (evFo s1 inn (shortF ot 64))with
     |true=>
      have g1:=jm T1 hok1;obtain⟨he,c8,hst1⟩:=mg hok1;have ht1:(s1.step L0 (evFo s1 inn (shortF ot 64))).t1=s1.t1+1:=(by rw[hst1]);have wi:(s1.step L0 (evFo s1 inn (shortF ot 64))).within (s1.t1+1)=true:=(by unfold PS.within;rw[g1.2.2.2];simp);have hIH:=ih (s1.t1+1) ks (s1.step L0 (evFo s1 inn (shortF ot 64))) (ws++es1++[evFo s1 inn (shortF ot 64)]) (J++[.row 55 3 0 [.agg [.str ot,.str ou,.sl 3 (ks.map Outl.av)]]]++[.row 34 7 0 [(evFo s1 inn (shortF ot 64)).av]]) g1.2.1 wi hok.2 (by simp only[L4,W9];omega);rw[hok1]at hPu;have hPu:Sat (CT G) 66 [.agg [.int .i64 1,.int .i64 0,.int .i64 inn,.int .i64 0,.str (shortF ot 64),.str [],.str []],.hp H.length 0 0 0,.hp (H.length+1) 0 0 0] (so (X++[.row 55 3 0 [.agg [.str ot,.str ou,.sl 3 (ks.map Outl.av)]]]) n s1)
       (fun r h'=>r=.bool true∧h'=so (exM H n (ws++es1++[evFo s1 inn (shortF ot 64)]) (J++[.row 55 3 0 [.agg [.str ot,.str ou,.sl 3 (ks.map Outl.av)]]]++[.row 34 7 0 [(evFo s1 inn (shortF ot 64)).av]])) n (s1.step L0 (evFo s1 inn (shortF ot 64)))):=hPu
      have hnY:=hnM2 (ws++es1++[evFo s1 inn (shortF ot 64)]) (J++[.row 55 3 0 [.agg [.str ot,.str ou,.sl 3 (ks.map Outl.av)]]]++[.row 34 7 0 [(evFo s1 inn (shortF ot 64)).av]]);have y0:=q0 (ws++es1++[evFo s1 inn (shortF ot 64)]) (J++[.row 55 3 0 [.agg [.str ot,.str ou,.sl 3 (ks.map Outl.av)]]]++[.row 34 7 0 [(evFo s1 inn (shortF ot 64)).av]]);have y4:=q4 (ws++es1++[evFo s1 inn (shortF ot 64)]) (J++[.row 55 3 0 [.agg [.str ot,.str ou,.sl 3 (ks.map Outl.av)]]]++[.row 34 7 0 [(evFo s1 inn (shortF ot 64)).av]]);have y8:=yo (ws++es1++[evFo s1 inn (shortF ot 64)]) [.row 34 7 0 [(evFo s1 inn (shortF ot 64)).av]];generalize exM H n (ws++es1++[evFo s1 inn (shortF ot 64)]) (J++[.row 55 3 0 [.agg [.str ot,.str ou,.sl 3 (ks.map Outl.av)]]]++[.row 34 7 0 [(evFo s1 inn (shortF ot 64)).av]])=Y at hPu hIH hnY y0 y4 y8;have hTo:=lr G (s:=s1.step L0 (evFo s1 inn (shortF ot 64))) hnY;rw[ht1]at hTo;rw[hok1,L7 rfl]at hst;have F:=F2 (F9 F qu @V5 qf x0 x3 x4 y0 y4) (F7 y8 @hnX hm ho d2 c2 @aW);(try refine sq F ?_);refine wk F ?_;refine kq F (hSh _) ?_;refine kq F (hFo _ (by simp;omega)) ?_;refine kq F (hPu) ?_;refine kq F (hTo) ?_;refine hIH.mono ?_;rintro r h' ⟨j3,rfl⟩;(try refine sq F ?_);refine wk F ?_;refine hK2 _ _ _ (M5 ⟨i+1,j2++([.row 55 3 0 [.agg [.str ot,.str ou,.sl 3 (ks.map Outl.av)]]]++([.row 34 7 0 [(evFo s1 inn (shortF ot 64)).av]]++j3)),rfl,by rw[hst, ← hJ];simp only[O4,P3,O8,Ev.av_eq],?_,by omega⟩) (by omega);all_goals try exact zZz F
     |false=>
      have hsp:s1.step L0 (evFo s1 inn (shortF ot 64))=s1:=(by unfold PS.step;rw[hok1];rfl);have hIH:=ih inn ks s1 (ws++es1) (J++[.row 55 3 0 [.agg [.str ot,.str ou,.sl 3 (ks.map Outl.av)]]]++[.row 34 7 0 [(evFo s1 inn (shortF ot 64)).av]]) T1 w1 hok.2 (by rw[L4];omega);rw[hok1,hsp]at hPu;have hPu:Sat (CT G) 66 [.agg [.int .i64 1,.int .i64 0,.int .i64 inn,.int .i64 0,.str (shortF ot 64),.str [],.str []],.hp H.length 0 0 0,.hp (H.length+1) 0 0 0] (so (X++[.row 55 3 0 [.agg [.str ot,.str ou,.sl 3 (ks.map Outl.av)]]]) n s1)
       (fun r h'=>r=.bool false∧h'=so (exM H n (ws++es1++[]) (J++[.row 55 3 0 [.agg [.str ot,.str ou,.sl 3 (ks.map Outl.av)]]]++[.row 34 7 0 [(evFo s1 inn (shortF ot 64)).av]])) n s1):=hPu
      rw[N3]at hPu;have hnY:=hnM2 (ws++es1) (J++[.row 55 3 0 [.agg [.str ot,.str ou,.sl 3 (ks.map Outl.av)]]]++[.row 34 7 0 [(evFo s1 inn (shortF ot 64)).av]]);have y0:=q0 (ws++es1) (J++[.row 55 3 0 [.agg [.str ot,.str ou,.sl 3 (ks.map Outl.av)]]]++[.row 34 7 0 [(evFo s1 inn (shortF ot 64)).av]]);have y4:=q4 (ws++es1) (J++[.row 55 3 0 [.agg [.str ot,.str ou,.sl 3 (ks.map Outl.av)]]]++[.row 34 7 0 [(evFo s1 inn (shortF ot 64)).av]]);have y8:=yo (ws++es1) [.row 34 7 0 [(evFo s1 inn (shortF ot 64)).av]];generalize exM H n (ws++es1) (J++[.row 55 3 0 [.agg [.str ot,.str ou,.sl 3 (ks.map Outl.av)]]]++[.row 34 7 0 [(evFo s1 inn (shortF ot 64)).av]])=Y at hPu hIH hnY y0 y4 y8;rw[hok1,L1 (by simp)]at hst;have F:=F2 (F9 F qu @V5 qf x0 x3 x4 y0 y4) (F7 y8 @hnX hm ho d2 c2 @aW);(try refine sq F ?_);refine wk F ?_;refine kq F (hSh _) ?_;refine kq F (hFo _ (by simp;omega)) ?_;refine kq F (hPu) ?_;refine hIH.mono ?_;rintro r h' ⟨j3,rfl⟩;(try refine sq F ?_);refine wk F ?_;refine hK2 _ _ _ (M5 ⟨i+1,j2++([.row 55 3 0 [.agg [.str ot,.str ou,.sl 3 (ks.map Outl.av)]]]++([.row 34 7 0 [(evFo s1 inn (shortF ot 64)).av]]++j3)),rfl,by rw[hst, ← hJ];simp only[O4,P3,O8,Ev.av_eq],?_,by omega⟩) (by omega);all_goals try exact zZz F
    ·have qf:(foId s1 inn (shortF ot 64) !=0)=true:=(by simp[h0]);have hIH:=ih (foId s1 inn (shortF ot 64)) ks s1 (ws++es1) (J++[.row 55 3 0 [.agg [.str ot,.str ou,.sl 3 (ks.map Outl.av)]]]) T1 (nS T1 rfl h0) hok.2 (by rw[L4];omega);rw[hX1]at hIH;rw[L7 h0]at hst;have F:=F2 (F9 F qu @V5 qf x0 x3 x4 @hnX hm) (F4 ho d2 c2 @aW);(try refine sq F ?_);refine wk F ?_;refine kq F (hSh _) ?_;refine kq F (hFo _ (by simp;omega)) ?_;refine hIH.mono ?_;rintro r h' ⟨j3,rfl⟩;(try refine sq F ?_);refine wk F ?_;refine hK2 _ _ _ (M5 ⟨i+1,j2++([.row 55 3 0 [.agg [.str ot,.str ou,.sl 3 (ks.map Outl.av)]]]++j3),rfl,by rw[hst, ← hJ];simp only[O4,P3,O8,Ev.av_eq],?_,by omega⟩) (by omega);all_goals try exact zZz F
   ·have qu:(ou==([]:Bs))=false:=(by simp[hu]);rw[L7 hu]at hst;have hPu:=pD G hn T1.i (ws++es1) hlw (J++[.row 55 3 0 [.agg [.str ot,.str ou,.sl 3 (ks.map Outl.av)]]]) (evFe s1 inn (Outl.mk ot ou ks)) s1.t2 rfl ⟨T1.ze,T1.me⟩ (fun X hX=>tZ G hX);rw[hX1]at hPu;have hpf:putF s1 (evFe s1 inn (Outl.mk ot ou ks))=(s1.step L0 (evFe s1 inn (Outl.mk ot ou ks)),if s1.ok L0 (evFe s1 inn (Outl.mk ot ou ks))then [evFe s1 inn (Outl.mk ot ou ks)]else []):=by
     unfold putF PS.step;split<;>rfl
    rw[hpf]at hst;have hPu:Sat (CT G) 66 [.agg [.int .i64 3,.int .i64 0,.int .i64 inn,.int .i64 0,.str ou,.str ot,.str []],.hp H.length 0 0 0,.hp (H.length+1) 0 0 0] (so (X++[.row 55 3 0 [.agg [.str ot,.str ou,.sl 3 (ks.map Outl.av)]]]) n s1)
     (fun r h'=>r=.bool (s1.ok L0 (evFe s1 inn (Outl.mk ot ou ks)))∧h'=so (exM H n (ws++es1++if s1.ok L0 (evFe s1 inn (Outl.mk ot ou ks))then [evFe s1 inn (Outl.mk ot ou ks)]else []) (J++[.row 55 3 0 [.agg [.str ot,.str ou,.sl 3 (ks.map Outl.av)]]]++[.row 34 7 0 [(evFe s1 inn (Outl.mk ot ou ks)).av]])) n (s1.step L0 (evFe s1 inn (Outl.mk ot ou ks)))):=hPu
    obtain⟨Y,hY⟩:∃Y,so (exM H n (ws++es1++if s1.ok L0 (evFe s1 inn (Outl.mk ot ou ks))then [evFe s1 inn (Outl.mk ot ou ks)]else []) (J++[.row 55 3 0 [.agg [.str ot,.str ou,.sl 3 (ks.map Outl.av)]]]++[.row 34 7 0 [(evFe s1 inn (Outl.mk ot ou ks)).av]])) n (s1.step L0 (evFe s1 inn (Outl.mk ot ou ks)))=Y:=⟨_,rfl⟩;rw[hY]at hPu;have F:=F2 (F9 F qu @Bool.not_false x0 x3 x4 @hnX hm ho) (F3 d2 c2 @aW);(try refine sq F ?_);refine wk F ?_;refine kq F (hPu) ?_;refine hK2 _ _ _ (M5 ⟨i+1,j2++([.row 55 3 0 [.agg [.str ot,.str ou,.sl 3 (ks.map Outl.av)]]]++[.row 34 7 0 [(evFe s1 inn (Outl.mk ot ou ks)).av]]),rfl,by rw[← hY,hst, ← hJ];simp only[O4,P3,O8,Ev.av_eq],?_,by omega⟩) (by omega);all_goals try exact zZz F
  ·have d2:=Q1 c2;rw[O1 (by omega)];have F:=F2 F d2;(try refine sq F ?_);refine wk F ?_;refine ee hQ F ?_;exact W5 (by rw[aP hnM,aP hnM,cU,cU];simp) (ct _) ⟨j2,rfl⟩
end
end
section
attribute [local irreducible] WP WPl WPix Sat
theorem zX(e:Ev):∀c∈e.av.cells,c.sto=true:=by
 intro c hc;simp only[Ev.av,AVal.cells,N0,T4,or_false]at hc;rcases hc with rfl|rfl|rfl|rfl|rfl|rfl|rfl<;>rfl
variable (G:Nat→Option (List AVal))
section
variable {s:PS} {H:Heap} {n:Nat}
theorem jH(hn:n+9≤H.length)(T:s.Top2)(l:List Outl)(hk:okK 8 l)(hz:szs Outl.sz l≤2097152):
  Sat (CT G) 36 [.hp (n+8) 0 0 0,.sl 3 (l.map Outl.av)] (so H n s) (fun r h'=>r=.sl 7 ((brgF nfX 8 0 l s).2.map Ev.av)∧h'=so H n (brgF nfX 8 0 l s).1):=by
 have hW:Sat (CT G) 68 [.int .i64 0,.sl 3 (l.map Outl.av),.hp (H.length+3) 0 0 0,.hp H.length 0 0 0,.hp (H.length+4) 0 0 0] (so (H++[Blk.row 27 1 0 [.hp (n+8) 0 0 0],.row 22 1 0 [.hs (H.length+2) 0 0 0 true],.row 34 7 0 [],
  .row 32 1 0 [.fn (.func 66) [] [.hp H.length 0 0 0,.hp (H.length+1) 0 0 0]],
  .row 120 1 0 [.fn (.func 68) [] [.hp (H.length+3) 0 0 0,.hp H.length 0 0 0,.hp (H.length+4) 0 0 0]]]) n s)
   (fun _ h'=>∃j2,h'=so (exM H n (brgF nfX 8 0 l s).2 j2) n (brgF nfX 8 0 l s).1):=qG G hn 8 0 l s [] [] T rfl hk (by simpa using hz)
 generalize brgF nfX 8 0 l s=p at*;obtain⟨z,ws⟩:=p;simp only[]at hW ⊢;have F:= @aW;refine sb [.tmp 4] Tryz.func36 ?_;intro Q hQ;(repeat (first|refine w1 (fun K hK=>?_)|refine w2 ?_|refine w3 ?_| ((first|refine w4 ?_|refine wD ?_|refine w5 ?_|refine w6 ?_|refine w7 ?_);try refine sq F ?_)| (refine w8 ?_;refine sq F ?_;refine w9 ?_)))
 refine hK _ _ (M5 ?_);clear hK K;(repeat (first|refine w1 (fun K hK=>?_)|refine w2 ?_|refine w3 ?_| ((first|refine w4 ?_|refine wD ?_|refine w5 ?_|refine w6 ?_|refine w7 ?_);try refine sq F ?_)| (refine w8 ?_;refine sq F ?_;refine w9 ?_)))
 refine hK _ _ ⟨_,_,Weak.virtCell1 (p:=H.length+1) (v:=0) 34 7 (by omega) (by simp(disch:=first|omega| (simp only[go_sem, ↓reduceIte,seval];first|done|omega)|fail) only[go_sem, ↓reduceIte,seval,F];rfl),?_⟩;clear hK K;try refine sq F ?_
 (repeat (first|refine w1 (fun K hK=>?_)|refine w2 ?_|refine w3 ?_| ((first|refine w4 ?_|refine wD ?_|refine w5 ?_|refine w6 ?_|refine w7 ?_);try refine sq F ?_)| (refine w8 ?_;refine sq F ?_;refine w9 ?_)| ((first|refine hK _ _ (w0 ?_)| (clear hK K;refine hK _ _ (w0 ?_))| (clear hK K;clear hK K;refine hK _ _ (w0 ?_)));clear hK K)))
 refine hW.mono ?_;rintro r h' ⟨j2,rfl⟩;have hnM:n+9≤(exM H n ws j2).length:=by rw[cU];omega
 have q1:getRow (exM H n ws j2) (H.length+1) 0=some (22,1,[.hs (H.length+2) ws.length 0 ws.length true]):=dm 1 0;have q2:getRow (exM H n ws j2) (H.length+2) ws.length=some (34,7,ws.map Ev.av):=(dm 2 ws.length).trans (by simp[getRow]);have F:=F3 F q1 @hnM;try refine sq F ?_
 (repeat (first|refine w1 (fun K hK=>?_)|refine w2 ?_|refine w3 ?_| ((first|refine w4 ?_|refine wD ?_|refine w5 ?_|refine w6 ?_|refine w7 ?_);try refine sq F ?_)| (refine w8 ?_;refine sq F ?_;refine w9 ?_)| ((first|refine hK _ _ (w0 ?_)| (clear hK K;refine hK _ _ (w0 ?_))| (clear hK K;clear hK K;refine hK _ _ (w0 ?_)));clear hK K)))
 refine ee hQ F ?_;unfold exM at hnM q2 ⊢;exact cu hn (Frz.data (by omega) (by rw[cc hnM _ (by omega)];exact q2) (by simp) (fun r hr=>by obtain⟨e,_,rfl⟩:=M7.1 hr;exact Ev.clo _ e) (fun r hr=>by obtain⟨e,_,rfl⟩:=M7.1 hr;exact zX e)) ⟨rfl,rfl⟩
end
end
end Go.Av
