/- Parts. -/
import Derived.Test.YtnolelibaahimaaGreatDoorRKf
set_option linter.unusedSimpArgs false
set_option linter.unusedVariables false
set_option linter.unusedSectionVars false
set_option linter.unnecessarySimpa false
set_option maxRecDepth 100000
set_option maxHeartbeats 16000000
namespace Go.Av
open Go Go.Proofs Go.RowKit
attribute [local irreducible] WP WPl WPix Sat
variable {G:Nat→Option (List AVal)}
attribute [go_sem] decide_true decide_false
end Go.Av
namespace Go.Av
open Go Go.Proofs Go.RowKit
end Go.Av
namespace Go.Av
open Go Go.Proofs Go.RowKit
attribute [local irreducible] WP WPl WPix Sat
variable {G:Nat→Option (List AVal)}
end Go.Av
namespace Go.Av
open Go Go.Proofs Go.RowKit
attribute [local irreducible] WP WPl WPix Sat
variable {G:Nat→Option (List AVal)}
end Go.Av
namespace Go.Av
open Go Go.Proofs Go.RowKit
attribute [local irreducible] WP WPl WPix Sat
variable {G:Nat→Option (List AVal)}
end Go.Av
namespace Go.Av
open Go Go.Proofs Go.RowKit
attribute [local irreducible] WP WPl WPix Sat
variable {G:Nat→Option (List AVal)}
end Go.Av
namespace Go.Av
open Go Go.Proofs Go.RowKit
attribute [local irreducible] WP WPl WPix Sat
variable {G:Nat→Option (List AVal)}
end Go.Av
namespace Go.Av
open Go Go.Proofs Go.RowKit
attribute [local irreducible] WP WPl WPix Sat
variable {G:Nat→Option (List AVal)}
end Go.Av
namespace Go.Av
open Go Go.Proofs Go.RowKit
attribute [local irreducible] WP WPl WPix Sat
variable {G:Nat→Option (List AVal)}
end Go.Av
namespace Go.Av
open Go Go.Proofs Go.RowKit
end Go.Av
namespace Go.Av
open Go Go.Proofs Go.RowKit
attribute [local irreducible] WP WPl WPix Sat
variable {G:Nat→Option (List AVal)}
end Go.Av
namespace Go.Av
open Go Go.Proofs Go.RowKit
attribute [local irreducible] WP WPl WPix Sat
variable {G:Nat→Option (List AVal)}
end Go.Av
namespace Go.Av
open Go Go.Proofs Go.RowKit
def shortF(s:Bs)(n:Nat):Bs:=cleanF (cutF (cleanF s) n)
def bText:Bs:=[116,101,120,116]
def bUrl:Bs:=[120,109,108,85,114,108]
def bOutline:Bs:=[111,117,116,108,105,110,101]
def bBody:Bs:=[98,111,100,121]
def bOpml:Bs:=[111,112,109,108]
theorem jB(s:Bs)(n:Nat):(cutF s n).length≤n∧(cutF s n).length≤s.length:=by
 have:=xM s s.length 0 n (by omega);unfold cutA at this;simp only[W3]at this;unfold cutF;rw[O3];omega
def textO(s:Bs)(m:Nat):Bool:=decide (s.length≤m)&&rightS s&&decide (cleanF s=s)
def oneOk(o:Outl):Bool:=decide (o.title≠ [])&&textO o.title 256&&textO o.url 512&&(decide (o.url=[])||decide (o.kids=[]))
def cntGo(g:List Outl→Nat):List Outl→Nat→Nat
 | [],n=>n
 |o::t,n=>if oneOk o then(if 512<n+g o.kids then n+g o.kids else cntGo g t (n+g o.kids))else 513
def cntN:Nat→List Outl→Nat
 |0,l=>if l=[]then 0 else 513
 |f+1,l=>if 512<l.length then 513 else cntGo (cntN f) l l.length
structure En where
 guid:Bs
 title:Bs
 link:Bs
 date:Int
 dated:Bool
def En.av(x:En):AVal:=.agg [.str x.guid,.str x.title,.str x.link,.int .i64 x.date,.bool x.dated]
structure Fd where
 title:Bs
 link:Bs
 es:List En
def Fd.av(d:Fd):AVal:=.agg [.str d.title,.str d.link,.sl 5 (d.es.map En.av)]
end Go.Av
namespace Go.Av
open Go Go.Proofs Go.RowKit Go.ChangeShapes Go.WideShapes
section
variable {H:Type} {enc:TypeId×Value→H} {W:World}
end
section
variable {H:Type} {enc:TypeId×Value→H} {W:World}
end
section
variable {H:Type} {enc:TypeId×Value→H} {W:World}
theorem Co(n:Nat):Rd H enc Tryz.prog W n 34 (fun e:Ev=>e.av.cells) (fun _=>0):=fun cs x h=>by
 obtain⟨ds,n',rfl,hx,hcl,hdl,hf⟩:=mc (fs:=[3,3,3,3,9,9,9]) (by kernel_rfl) h;obtain⟨y0,d0,t0⟩:=hf 0 _ rfl;obtain⟨y1,d1,t1⟩:=hf 1 _ rfl;obtain⟨y2,d2,t2⟩:=hf 2 _ rfl;obtain⟨y3,d3,t3⟩:=hf 3 _ rfl;obtain⟨y4,d4,t4⟩:=hf 4 _ rfl;obtain⟨y5,d5,t5⟩:=hf 5 _ rfl;obtain⟨y6,d6,t6⟩:=hf 6 _ rfl;obtain⟨a0,s0,r0,_⟩:=cf (mk:=fun i: {i:Int//(Lit.int .i64 i).wf=true}=>.int .i64 i.1) (jV (by kernel_rfl)) t0;obtain⟨a1,s1,r1,_⟩:=cf (mk:=fun i: {i:Int//(Lit.int .i64 i).wf=true}=>.int .i64 i.1) (jV (by kernel_rfl)) t1;obtain⟨a2,s2,r2,_⟩:=cf (mk:=fun i: {i:Int//(Lit.int .i64 i).wf=true}=>.int .i64 i.1) (jV (by kernel_rfl)) t2;obtain⟨a3,s3,r3,_⟩:=cf (mk:=fun i: {i:Int//(Lit.int .i64 i).wf=true}=>.int .i64 i.1) (jV (by kernel_rfl)) t3;obtain⟨a4,s4,r4,_⟩:=cf (mk:=fun s:Bs=>.str s) (iu (by kernel_rfl)) t4;obtain⟨a5,s5,r5,_⟩:=cf (mk:=fun s:Bs=>.str s) (iu (by kernel_rfl)) t5;obtain⟨a6,s6,r6,_⟩:=cf (mk:=fun s:Bs=>.str s) (iu (by kernel_rfl)) t6;refine⟨⟨a0.1,a1.1,a2.1,a3.1,a4,a5,a6⟩,by rw[hcl];rfl,fun j c hj=>?_,W1 _⟩
 match j with
 |0=>simp[Ev.av,AVal.cells]at hj;subst hj;exact⟨s0,r0⟩
 |1=>simp[Ev.av,AVal.cells]at hj;subst hj;exact⟨s1,r1⟩
 |2=>simp[Ev.av,AVal.cells]at hj;subst hj;exact⟨s2,r2⟩
 |3=>simp[Ev.av,AVal.cells]at hj;subst hj;exact⟨s3,r3⟩
 |4=>simp[Ev.av,AVal.cells]at hj;subst hj;exact⟨s4,r4⟩
 |5=>simp[Ev.av,AVal.cells]at hj;subst hj;exact⟨s5,r5⟩
 |6=>simp[Ev.av,AVal.cells]at hj;subst hj;exact⟨s6,r6⟩
 |j+7=>simp[Ev.av,AVal.cells]at hj
theorem pH{v:Value}{d:DataW H}{ps:List MemPlace}{r:Reach}{b0:Nat}(hval:Value.okWide Tryz.prog W r b0 22 v)(h:DataW.Trod enc Tryz.prog W 0 (fun _=>true) true 22 v d ps):∃es:List Ev,Rep W (lies0 W) [] (.sl 7 (es.map Ev.av)) v:=by
 obtain⟨n,hn⟩:=h;obtain⟨l,h1,h2,_⟩:=jq (m:=7) (e:=34) Ev.av (by kernel_rfl) (by kernel_rfl) (by decide) (fun _=>rfl) (fun _=>rfl) (fun k _=>Co k) _ _ hn;refine⟨l,?_⟩;have h4:=(h2 0 _ rfl).2;have hcs:v.cells.toList=[v]:=by
  have hu:Tryz.prog.underlying 22=some (.slice 34):=by kernel_rfl
  cases v with
  |agg a=>simp[Value.okWide,hu,Cell.okWide,Cell.ok]at hval
  |_=>rfl
 rw[hcs]at h4;simpa using h4
end
end Go.Av
namespace Go.Av
open Go Go.Proofs Go.RowKit
def fitAll:PS→List Ev→Bool
 |_,[]=>true
 |s,e::l=>s.ok L0 e&&fitAll (s.step L0 e) l
theorem yk(l1 l2:List Ev)(s:PS):fitAll s (l1++l2)=(fitAll s l1&&fitAll (l1.foldl (PS.step L0) s) l2):=by
 induction l1 generalizing s with
 |nil=>simp[fitAll]
 |cons e l ih=>rw[Q7,fitAll,ih,fitAll,List.foldl_cons,Bool.and_assoc]
theorem dG{α:Type}(z:α)(l:ML Int α):(valsM z l).length=l.length:=by
 unfold valsM;rw[L5,cE,L5]
structure PS.Top2 (s:PS):Prop where
 i:s.Inv
 n:s.Nam
 o:∀k f,lkM s.fo k=some f→k≤s.t1
 e:∀k f,lkM s.fe k=some f→k≤s.t2
 zo:0≤s.t1
 ze:0≤s.t2
 mo:s.t1≤1048576
 me:s.t2≤1048576
def evFe(s:PS)(inn:Int)(o:Outl):Ev:=⟨3,s.t2+1,inn,0,o.url,o.title,[]⟩
def evFo(s:PS)(inn:Int)(name:Bs):Ev:=⟨1,s.t1+1,inn,0,name,[],[]⟩
def foId(s:PS)(inn:Int)(name:Bs):Int:=(lkM s.nm (inn,name)).getD 0
def putF(s:PS)(e:Ev):PS×List Ev:=if s.ok L0 e then(s.step L0 e,[e])else(s,[])
section
variable (nf:Bs→Bs)
def oneG(g:Int→List Outl→PS→PS×List Ev)(inn:Int)(o:Outl)(s:PS):PS×List Ev:=
 if o.url≠ []then putF s (evFe s inn o)
 else if foId s inn (nf o.title)≠0 then g (foId s inn (nf o.title)) o.kids s
 else if s.ok L0 (evFo s inn (nf o.title))then((g (s.t1+1) o.kids (s.step L0 (evFo s inn (nf o.title)))).1,evFo s inn (nf o.title)::(g (s.t1+1) o.kids (s.step L0 (evFo s inn (nf o.title)))).2)
 else g inn o.kids s
def lstG(h:Outl→PS→PS×List Ev):List Outl→PS→PS×List Ev
 | [],s=>(s,[])
 |o::l,s=>((lstG h l (h o s).1).1,(h o s).2++(lstG h l (h o s).1).2)
def brgF:Nat→Int→List Outl→PS→PS×List Ev
 |0,_,_,s=>(s,[])
 |k+1,inn,l,s=>lstG (oneG nf (brgF k) inn) l s
end
structure Gr (s s':PS):Prop where
 fo:∀k,(lkM s.fo k).isSome=true→lkM s'.fo k=lkM s.fo k
 fe:∀k,(lkM s.fe k).isSome=true→lkM s'.fe k=lkM s.fe k
 nm:∀k v,lkM s.nm k=some v→lkM s'.nm k=some v
 pl:∀k v,lkM s.pl k=some v→lkM s'.pl k=some v
 t1:s.t1≤s'.t1
 t2:s.t2≤s'.t2
 lo:s.fo.length≤s'.fo.length
 le:s.fe.length≤s'.fe.length
theorem Gr.refl(s:PS):Gr s s:=⟨fun _ _=>rfl,fun _ _=>rfl,fun _ _ h=>h,fun _ _ h=>h,Z4 _,Z4 _,M0 _,M0 _⟩
theorem Gr.trans{a b c:PS}(h:Gr a b)(g:Gr b c):Gr a c where
 fo:=fun k hk=>by have e:=h.fo k hk;rw[g.fo k (by rw[e];exact hk),e]
 fe:=fun k hk=>by have e:=h.fe k hk;rw[g.fe k (by rw[e];exact hk),e]
 nm:=fun k v hk=>g.nm k v (h.nm k v hk)
 pl:=fun k v hk=>g.pl k v (h.pl k v hk)
 t1:=Int.le_trans h.t1 g.t1
 t2:=Int.le_trans h.t2 g.t2
 lo:=Q6 h.lo g.lo
 le:=Q6 h.le g.le
section
variable {s:PS} {inn:Int} {o:Outl} {name:Bs}
theorem ox(s:PS)(id k:Int):∃he c8,s.hold id k= {s with he:=he,c8:=c8}:=⟨_,_,aP s id k⟩
theorem wV(h:s.ok L0 (evFe s inn o)=true):L0.ck (evFe s inn o)=true∧lkM s.fe (s.t2+1)=none∧s.fe.length<64∧s.within inn=true∧(lkM s.pl o.url).getD 0=0:=by
 have k3:(evFe s inn o).kind=3:=rfl;unfold PS.ok PS.fits at h;rw[K5]at h;have h2:=h.2;rw[K4 (by omega),K4 (by omega),L7 k3]at h2;simp only[K5,K8,beq_iff_eq,O6,evFe]at h2;exact⟨h.1,bN h2.1.1.1,h2.1.1.2,h2.1.2,h2.2⟩
theorem zR(h:s.ok L0 (evFo s inn name)=true):L0.ck (evFo s inn name)=true∧lkM s.fo (s.t1+1)=none∧s.fo.length<64∧s.within inn=true∧s.dpt inn<7∧foId s inn name=0:=by
 have k1:(evFo s inn name).kind=1:=rfl;unfold PS.ok PS.fits at h;rw[K5]at h;have h2:=h.2;rw[L7 k1]at h2;simp only[K5,K8,beq_iff_eq,O6,evFo]at h2;exact⟨h.1,bN h2.1.1.1.1,h2.1.1.1.2,h2.1.1.2,R8 h2.1.2,h2.2⟩
theorem yl(h:s.ok L0 (evFe s inn o)=true):∃he c8,s.step L0 (evFe s inn o)= {s with fe:=upM s.fe s.c2 (s.t2+1) ⟨s.t2+1,inn,o.url,o.title⟩,c2:=ckM s.fe s.c2 (s.t2+1),pl:=upM s.pl s.c6 o.url (s.t2+1),c6:=ckM s.pl s.c6 o.url,he:=he,c8:=c8,t2:=s.t2+1}:=by
 have k3:(evFe s inn o).kind=3:=rfl;unfold PS.step;rw[L7 h];unfold PS.aft PS.after;rw[K4 (by omega),K4 (by omega),K4 (by omega),K4 (by omega),K4 (by omega),K4 (by omega),K4 (by omega),K4 (by omega),K4 (by omega),PS.make,K4 (by omega),L7 k3];obtain⟨he,c8,hh⟩:=ox ((s.upFe (s.t2+1) ⟨s.t2+1,inn,o.url,o.title⟩).upPl o.url (s.t2+1)) inn 1;refine⟨he,c8,?_⟩;show(PS.hold ((s.upFe (s.t2+1) ⟨s.t2+1,inn,o.url,o.title⟩).upPl o.url (s.t2+1)) inn 1).raise 1 (s.t2+1)=_;rw[hh];unfold PS.raise;simp only[PS.upFe,PS.upPl];congr 1
 exact L7 (by show s.t2+1>s.t2;omega)
theorem qD(h:s.ok L0 (evFo s inn name)=true):∃he c8,s.step L0 (evFo s inn name)= {s with fo:=upM s.fo s.c1 (s.t1+1) ⟨s.t1+1,inn,name⟩,c1:=ckM s.fo s.c1 (s.t1+1),nm:=upM s.nm s.c5 (inn,name) (s.t1+1),c5:=ckM s.nm s.c5 (inn,name),he:=he,c8:=c8,t1:=s.t1+1}:=by
 have k1:(evFo s inn name).kind=1:=rfl;unfold PS.step;rw[L7 h];unfold PS.aft PS.after;rw[K4 (by omega),K4 (by omega),K4 (by omega),K4 (by omega),K4 (by omega),K4 (by omega),K4 (by omega),K4 (by omega),K4 (by omega),PS.make,L7 k1];obtain⟨he,c8,hh⟩:=ox ((s.upFo (s.t1+1) ⟨s.t1+1,inn,name⟩).upNm (inn,name) (s.t1+1)) inn 1;refine⟨he,c8,?_⟩;show(PS.hold ((s.upFo (s.t1+1) ⟨s.t1+1,inn,name⟩).upNm (inn,name) (s.t1+1)) inn 1).raise 0 (s.t1+1)=_;rw[hh];unfold PS.raise;simp only[PS.upFo,PS.upNm];congr 1
 exact L7 (by show s.t1+1>s.t1;omega)
theorem Ec(h:s.Nam)(hI:s.Inv){u:Bs}(h0:(lkM s.pl u).getD 0=0):lkM s.pl u=none:=by
 cases hl:lkM s.pl u with
 |none=>rfl
 |some j=>have:=h.pl1 hI hl;rw[hl]at h0;simp at h0;omega
theorem J2(h:s.Nam)(hI:s.Inv){k:Int×Bs}(h0:(lkM s.nm k).getD 0=0):lkM s.nm k=none:=by
 cases hl:lkM s.nm k with
 |none=>rfl
 |some j=>have:=h.nm1 hI hl;rw[hl]at h0;simp at h0;omega
theorem na(T:s.Top2)(h:s.ok L0 (evFe s inn o)=true):Gr s (s.step L0 (evFe s inn o))∧(s.step L0 (evFe s inn o)).Top2∧lkM (s.step L0 (evFe s inn o)).pl o.url=some (s.t2+1)∧(s.step L0 (evFe s inn o)).nm=s.nm:=by
 obtain⟨hck,hn,_,_,hp⟩:=wV h;have hp:=Ec T.n T.i hp;have ck_le:s.t2+1≤1048576:=by
  unfold Leaf.ck at hck;rw[K5]at hck;exact(fC hck.1 (by show(3:Int)≠13;omega)).2
 obtain⟨he,c8,e⟩:=yl h;have I:=T.i.step (L:=L0) (evFe s inn o);have N:=T.n.step (L:=L0) T.i (evFe s inn o);rw[e]at I N ⊢;refine⟨⟨fun _ _=>rfl,fun k hk=>?_,fun _ _ h=>h,fun k v hk=>?_,Z4 _,by show s.t2≤s.t2+1;omega,M0 _,?_⟩,⟨I,N,T.o,fun k f hf=>?_,T.zo,by have:=T.ze;show 0≤s.t2+1;omega,T.mo,ck_le⟩,?_,rfl⟩
 ·show lkM (upM s.fe s.c2 _ _) k=_;rw[aY,K4 (by rintro rfl;rw[hn]at hk;cases hk)]
 ·show lkM (upM s.pl s.c6 _ _) k=_;rw[aY,K4 (by rintro rfl;rw[hp]at hk;cases hk)];exact hk
 ·show _≤(upM s.fe s.c2 _ _).length;rw[l9];split<;>omega
 ·have hf:lkM (upM s.fe s.c2 (s.t2+1) _) k=some f:=hf;show k≤s.t2+1;rcases aI hf with⟨rfl,_⟩| ⟨_,hf⟩
  ·exact Z4 _
  ·have:=T.e k f hf;omega
 ·show lkM (upM s.pl s.c6 _ _) o.url=_;rw[aY,L7 rfl]
theorem kE(T:s.Top2)(h:s.ok L0 (evFo s inn name)=true):Gr s (s.step L0 (evFo s inn name))∧(s.step L0 (evFo s inn name)).Top2∧(∀k,lkM (s.step L0 (evFo s inn name)).nm k=if k=(inn,name)then some (s.t1+1)else lkM s.nm k)∧(lkM (s.step L0 (evFo s inn name)).fo (s.t1+1)).isSome=true:=by
 obtain⟨hck,hn,_,_,_,hp⟩:=zR h;have hp:=J2 T.n T.i hp;have ck_le:s.t1+1≤1048576:=by
  unfold Leaf.ck at hck;rw[K5]at hck;exact(fC hck.1 (by show(1:Int)≠13;omega)).2
 obtain⟨he,c8,e⟩:=qD h;have I:=T.i.step (L:=L0) (evFo s inn name);have N:=T.n.step (L:=L0) T.i (evFo s inn name);rw[e]at I N ⊢;refine⟨⟨fun k hk=>?_,fun _ _=>rfl,fun k v hk=>?_,fun _ _ h=>h,by show s.t1≤s.t1+1;omega,Z4 _,?_,M0 _⟩,⟨I,N,fun k f hf=>?_,T.e,by have:=T.zo;show 0≤s.t1+1;omega,T.ze,ck_le,T.me⟩,fun k=>?_,?_⟩
 ·show lkM (upM s.fo s.c1 _ _) k=_;rw[aY,K4 (by rintro rfl;rw[hn]at hk;cases hk)]
 ·show lkM (upM s.nm s.c5 _ _) k=_;rw[aY,K4 (by rintro rfl;rw[hp]at hk;cases hk)];exact hk
 ·show _≤(upM s.fo s.c1 _ _).length;rw[l9];split<;>omega
 ·have hf:lkM (upM s.fo s.c1 (s.t1+1) _) k=some f:=hf;show k≤s.t1+1;rcases aI hf with⟨rfl,_⟩| ⟨_,hf⟩
  ·exact Z4 _
  ·have:=T.o k f hf;omega
 ·show lkM (upM s.nm s.c5 _ _) k=_;rw[aY]
 ·show(lkM (upM s.fo s.c1 _ _) (s.t1+1)).isSome=true;rw[aY,L7 rfl];rfl
theorem ym{s s':PS}(hI:s.Inv)(hI':s'.Inv)(h:Gr s s'):∀(n:Nat) (id:Int),id=0∨(lkM s.fo id).isSome=true→deepO s'.fo n id=deepO s.fo n id:=by
 have z:∀s:PS,s.Inv→lkM s.fo 0=none:=fun s hI=>by
  cases hl:lkM s.fo 0 with
  |none=>rfl
  |some f=>have:=(hI.i1 _ _ hl).2;omega
 intro n;induction n with
 |zero=>
  intro id hid;unfold deepO;rcases hid with rfl|hid
  ·rw[z s hI,z s' hI']
  ·rw[h.fo id hid]
 |succ n ih=>
  intro id hid;unfold deepO;rcases hid with rfl|hid
  ·rw[z s hI,z s' hI']
  ·rw[h.fo id hid];obtain⟨f,hf⟩:=aT hid;rw[hf];simp only[];rw[ih f.inn (hI.u1 _ _ hf)]
theorem sP{s s':PS}(h:Gr s s')(hw:s.within inn=true):s'.within inn=true:=by
 unfold PS.within at hw ⊢;rw[P8]at hw ⊢;rcases hw with hw|hw
 ·exact .inl hw
 ·right;rw[h.fo _ hw];exact hw
theorem Cp(hw:s.within inn=true):inn=0∨(lkM s.fo inn).isSome=true:=by
 unfold PS.within at hw;rw[P8,K8]at hw;exact hw
theorem Cq{s s':PS}(T:s.Top2)(T':s'.Top2)(h:Gr s s')(hw:s.within inn=true)(hb:s.ok L0 (evFe s inn o)=false):s'.ok L0 (evFe s' inn o)=false:=by
 have k3':(evFe s' inn o).kind=3:=rfl;have k3:(evFe s inn o).kind=3:=rfl;cases hk:s'.ok L0 (evFe s' inn o)with
 |false=>rfl
 |true=>
  exfalso;obtain⟨a1,_,a3,_,a5⟩:=wV hk;have hpn:=Ec T'.n T'.i a5;have hps:lkM s.pl o.url=none:=by
   cases hl:lkM s.pl o.url with
   |none=>rfl
   |some v=>have:=h.pl _ _ hl;rw[hpn]at this;cases this
  have hf:lkM s.fe (s.t2+1)=none:=by
   cases hl:lkM s.fe (s.t2+1)with
   |none=>rfl
   |some f=>have:=T.e _ _ hl;omega
  have hck:L0.ck (evFe s inn o)=true:=by
   unfold Leaf.ck at a1 ⊢;rw[K5]at a1 ⊢;refine⟨?_,by simp[usedE,evFe]⟩;have a1:=a1.1;unfold Leaf.right at a1 ⊢;rw[K4 (by omega),K4 (by omega),L7 k3']at a1;rw[K4 (by omega),K4 (by omega),L7 k3];rw[K5]at a1 ⊢;refine⟨?_,a1.2⟩;have:=a1.1;have h2:=h.t2;have h0:=T.ze;unfold idF at this ⊢;simp only[K5,K8]at this ⊢;have e1:(evFe s' inn o).a=s'.t2+1:=rfl;have e2:(evFe s inn o).a=s.t2+1:=rfl;rw[e1]at this;rw[e2];omega
  have:s.ok L0 (evFe s inn o)=true:=by
   unfold PS.ok PS.fits;rw[hck,K4 (by omega),K4 (by omega),L7 k3];have h3:s.fe.length<64:=(by have:=h.le;omega);simp[evFe,hf,h3,hw,hps]
  rw[hb]at this;cases this
theorem xn{s s':PS}(T:s.Top2)(T':s'.Top2)(h:Gr s s')(hw:s.within inn=true)(h0:foId s inn name=0)(hb:s.ok L0 (evFo s inn name)=false):s'.ok L0 (evFo s' inn name)=false:=by
 have k1':(evFo s' inn name).kind=1:=rfl;have k1:(evFo s inn name).kind=1:=rfl;cases hk:s'.ok L0 (evFo s' inn name)with
 |false=>rfl
 |true=>
  exfalso;obtain⟨a1,_,a3,_,a5,a6⟩:=zR hk;have hf:lkM s.fo (s.t1+1)=none:=by
   cases hl:lkM s.fo (s.t1+1)with
   |none=>rfl
   |some f=>have:=T.o _ _ hl;omega
  have hd:s'.dpt inn=s.dpt inn:=by unfold PS.dpt;rw[ym T.i T'.i h 7 inn (Cp hw)]
  have hck:L0.ck (evFo s inn name)=true:=by
   unfold Leaf.ck at a1 ⊢;rw[K5]at a1 ⊢;refine⟨?_,by simp[usedE,evFo]⟩;have a1:=a1.1;unfold Leaf.right at a1 ⊢;rw[L7 k1']at a1;rw[L7 k1];rw[K5]at a1 ⊢;refine⟨?_,a1.2⟩;have:=a1.1;have h2:=h.t1;have h0:=T.zo;unfold idF at this ⊢;simp only[K5,K8]at this ⊢;have e1:(evFo s' inn name).a=s'.t1+1:=rfl;have e2:(evFo s inn name).a=s.t1+1:=rfl;rw[e1]at this;rw[e2];omega
  have:s.ok L0 (evFo s inn name)=true:=by
   unfold PS.ok PS.fits;rw[hck,L7 k1];have h3:s.fo.length<64:=(by have:=h.lo;omega);rw[hd]at a5;have h4:(lkM s.nm (inn,name)).getD 0=0:=h0;have h5:s.dpt inn<7:=a5;simp[evFo,hf,h3,hw,h4,h5]
  rw[hb]at this;cases this
end
inductive Run:PS→PS→Prop
 |refl (s:PS):Run s s
 |fe {s t:PS} (inn:Int) (o:Outl):Run s t→t.ok L0 (evFe t inn o)=true→Run s (t.step L0 (evFe t inn o))
 |fo {s t:PS} (inn:Int) (name:Bs):Run s t→t.ok L0 (evFo t inn name)=true→Run s (t.step L0 (evFo t inn name))
theorem Run.trans{a b c:PS}(h:Run a b)(g:Run b c):Run a c:=by
 induction g with
 |refl=>exact h
 |fe inn o _ hk ih=>exact .fe inn o ih hk
 |fo inn name _ hk ih=>exact .fo inn name ih hk
theorem Run.gr{s t:PS}(h:Run s t)(T:s.Top2):Gr s t∧t.Top2:=by
 induction h with
 |refl=>exact⟨Gr.refl _,T⟩
 |fe inn o _ hk ih=>have g:=na ih.2 hk;exact⟨ih.1.trans g.1,g.2.1⟩
 |fo inn name _ hk ih=>have g:=kE ih.2 hk;exact⟨ih.1.trans g.1,g.2.1⟩
theorem Run.no{s t:PS}(h:Run s t){inn:Int}{name:Bs}(T:s.Top2)(hw:s.within inn=true)(h0:foId s inn name=0)(hb:s.ok L0 (evFo s inn name)=false):foId t inn name=0∧t.ok L0 (evFo t inn name)=false:=by
 have key:foId t inn name=0:=by
  induction h with
  |refl=>exact h0
  |fe inn2 o hr hk ih=>
   have g:=hr.gr T;have:=(na g.2 hk).2.2.2;unfold foId at ih ⊢;rw[this];exact ih
  |fo inn2 name2 hr hk ih=>
   have g:=hr.gr T;have hnm:=(kE g.2 hk).2.2.1 (inn,name);unfold foId at ih ⊢;rw[hnm];split
   ·rename_i e;cases e;have:=xn T g.2 g.1 hw h0 hb;rw[hk]at this;cases this
   ·exact ih
 exact⟨key,xn T (h.gr T).2 (h.gr T).1 hw h0 hb⟩
structure Br (s:PS) (p:PS×List Ev):Prop where
 t:p.1.Top2
 r:Run s p.1
 f:p.1=p.2.foldl (PS.step L0) s
 a:fitAll s p.2=true
 k:∀e∈p.2,e.kind=1∨e.kind=3
theorem Br.nil{s:PS}(T:s.Top2):Br s (s,[]):=⟨T,.refl _,rfl,rfl,fun e he=>by cases he⟩
theorem Br.app{s a b:PS}{x y:List Ev}(h:Br s (a,x))(g:Br a (b,y)):Br s (b,x++y) where
 t:=g.t
 r:=h.r.trans g.r
 f:=by
  have h1:a=x.foldl (PS.step L0) s:=h.f;have h2:b=y.foldl (PS.step L0) a:=g.f;show b=(x++y).foldl _ s;rw[List.foldl_append, ← h1];exact h2
 a:=by
  have h1:a=x.foldl (PS.step L0) s:=h.f;show fitAll s (x++y)=true;rw[yk,K5, ← h1];exact⟨h.a,g.a⟩
 k:=fun e he=>(R4.1 he).elim (h.k e) (g.k e)
section
variable {nf:Bs→Bs} {g:Int→List Outl→PS→PS×List Ev} {s:PS} {inn:Int}
theorem sQ{s:PS}{j inn:Int}{name:Bs}(T:s.Top2)(hj:foId s inn name=j)(h0:j≠0):s.within j=true:=by
 unfold foId at hj;cases hl:lkM s.nm (inn,name)with
 |none=>rw[hl]at hj;exact absurd hj.symm h0
 |some v=>
  rw[hl]at hj;obtain⟨f,hf,_⟩:=T.n.n1 _ _ hl;have hj:v=j:=hj;subst hj;unfold PS.within;rw[hf];simp
theorem kF(hg:∀inn l s,s.Top2→s.within inn=true→Br s (g inn l s))(T:s.Top2)(hw:s.within inn=true)(o:Outl):Br s (oneG nf g inn o s):=by
 unfold oneG;split
 ·unfold putF;split
  ·rename_i hk;exact⟨(na T hk).2.1,.fe inn o (.refl s) hk,rfl,by rw[fitAll,hk];rfl,fun e he=>by rw[W7]at he;subst he;exact .inr rfl⟩
  ·exact Br.nil T
 ·split
  ·rename_i h0;exact hg _ _ _ T (sQ T rfl h0)
  ·split
   ·rename_i hk;have g1:=kE T hk;have b1:Br s (s.step L0 (evFo s inn (nf o.title)),[evFo s inn (nf o.title)]):=⟨g1.2.1,.fo inn _ (.refl s) hk,rfl,by rw[fitAll,hk];rfl,fun e he=>by rw[W7]at he;subst he;exact .inl rfl⟩
    exact b1.app (hg (s.t1+1) o.kids _ g1.2.1 (by unfold PS.within;rw[g1.2.2.2];simp))
   ·exact hg _ _ _ T hw
theorem kG{h:Outl→PS→PS×List Ev}(hh:∀o s,s.Top2→s.within inn=true→Br s (h o s)):∀(l:List Outl) (s:PS),s.Top2→s.within inn=true→Br s (lstG h l s)
 | [],s,T,_=>Br.nil T
 |o::l,s,T,hw=>by
  have b1:=hh o s T hw;exact b1.app (kG hh l _ b1.t (sP (b1.r.gr T).1 hw))
theorem kH:∀(k:Nat) (inn:Int) (l:List Outl) (s:PS),s.Top2→s.within inn=true→Br s (brgF nf k inn l s)
 |0,_,_,_,T,_=>Br.nil T
 |k+1,inn,l,s,T,hw=>kG (fun o s T hw=>kF (kH k) T hw o) l s T hw
theorem my{h:Outl→PS→PS×List Ev}(hh:∀o s,s.Top2→s.within inn=true→Br s (h o s))(ha:∀o s z,s.Top2→s.within inn=true→Run (h o s).1 z→h o z=(z,[])):
  ∀(l:List Outl) (s z:PS),s.Top2→s.within inn=true→Run (lstG h l s).1 z→lstG h l z=(z,[])
 | [],_,_,_,_,_=>rfl
 |o::l,s,z,T,hw,hr=>by
  have b1:=hh o s T hw;have w1:=sP (b1.r.gr T).1 hw;have b2:=kG hh l _ b1.t w1;have h1:=ha o s z T hw (b2.r.trans hr);have h2:=my hh ha l _ z b1.t w1 hr;rw[lstG,h1];show((lstG h l z).1,[]++(lstG h l z).2)=_;rw[h2];rfl
theorem uH(hg:∀inn l s,s.Top2→s.within inn=true→Br s (g inn l s))(ha:∀inn l s z,s.Top2→s.within inn=true→Run (g inn l s).1 z→g inn l z=(z,[]))(o:Outl)(s z:PS)(T:s.Top2)(hw:s.within inn=true)(hr:Run (oneG nf g inn o s).1 z):oneG nf g inn o z=(z,[]):=by
 have Tz:=(((kF hg T hw o).r).trans hr).gr T;unfold oneG at hr ⊢;by_cases hu:o.url≠ []
 ·rw[L7 hu]at hr ⊢;unfold putF at hr ⊢;by_cases hk:s.ok L0 (evFe s inn o)=true
  ·rw[L7 hk]at hr;have g1:=na T hk;have g2:=hr.gr g1.2.1;have hp:=g2.1.pl _ _ g1.2.2.1;rw[K4];intro h;have:=(wV h).2.2.2.2;rw[hp]at this;have h0:=T.ze;have this:s.t2+1=0:=this;omega
  ·have hk:s.ok L0 (evFe s inn o)=false:=(by simpa using hk);rw[K4 (by rw[Cq T Tz.2 Tz.1 hw hk];simp)]
 ·rw[K4 hu]at hr ⊢;by_cases h0:foId s inn (nf o.title)≠0
  ·rw[L7 h0]at hr;have e:foId z inn (nf o.title)=foId s inn (nf o.title):=by
    unfold foId at h0 ⊢;cases hl:lkM s.nm (inn,nf o.title)with
    |none=>rw[hl]at h0;exact absurd rfl h0
    |some v=>rw[Tz.1.nm _ _ hl]
   rw[L7 (by rw[e];exact h0),e];exact ha _ _ s z T (sQ T rfl h0) hr
  ·rw[K4 h0]at hr;have h0:foId s inn (nf o.title)=0:=Decidable.byContradiction h0;by_cases hk:s.ok L0 (evFo s inn (nf o.title))=true
   ·rw[L7 hk]at hr;have g1:=kE T hk;have w1:(s.step L0 (evFo s inn (nf o.title))).within (s.t1+1)=true:=(by unfold PS.within;rw[g1.2.2.2];simp);have b1:=hg (s.t1+1) o.kids _ g1.2.1 w1;have hr:Run (g (s.t1+1) o.kids (s.step L0 (evFo s inn (nf o.title)))).1 z:=hr;have g2:=(b1.r.trans hr).gr g1.2.1;have e:foId z inn (nf o.title)=s.t1+1:=by
     unfold foId;rw[g2.1.nm _ (s.t1+1) (by rw[g1.2.2.1,L7 rfl])];rfl
    have:=T.zo;rw[L7 (by rw[e];omega),e];exact ha _ _ _ z g1.2.1 w1 hr
   ·have hk:s.ok L0 (evFo s inn (nf o.title))=false:=(by simpa using hk);rw[K4 (by rw[hk];simp)]at hr;have b1:=hg inn o.kids s T hw;have hn:=(b1.r.trans hr).no T hw h0 hk;rw[K4 (by rw[hn.1];simp),K4 (by rw[hn.2];simp)];exact ha _ _ s z T hw hr
theorem mz:∀(k:Nat) (inn:Int) (l:List Outl) (s z:PS),s.Top2→s.within inn=true→Run (brgF nf k inn l s).1 z→brgF nf k inn l z=(z,[])
 |0,_,_,_,_,_,_,_=>rfl
 |k+1,inn,l,s,z,T,hw,hr=>my (fun o s T hw=>kF brg_br' T hw o) (fun o s z T hw hr=>uH brg_br' (mz k) o s z T hw hr) l s z T hw hr
where brg_br' {k:Nat}:∀inn l s,s.Top2→s.within inn=true→Br s (brgF nf k inn l s):=kH k
end
def okK:Nat→List Outl→Prop
 |0,l=>l=[]
 |k+1,l=>∀o∈l,oneOk o=true∧okK k o.kids
theorem sR:∀(f:Nat) (l:List Outl),cntN f l≤512→okK f l
 |0,l,h=>by
  rw[cntN]at h;show l=[]
  by_cases hl:l=[]
  ·exact hl
  ·rw[K4 hl]at h;omega
 |f+1,l,h=>by
  rw[cntN]at h;by_cases hl:512<l.length
  ·rw[L7 hl]at h;omega
  rw[K4 hl]at h;have key:∀(l:List Outl) (n:Nat),cntGo (cntN f) l n≤512→∀o∈l,oneOk o=true∧okK f o.kids:=by
   intro l;induction l with
   |nil=>intro n _ o ho;cases ho
   |cons x l ih=>
    intro n hn o ho;rw[cntGo]at hn;by_cases hx:oneOk x=true
    ·rw[L7 hx]at hn;by_cases h5:512<n+cntN f x.kids
     ·rw[L7 h5]at hn;omega
     ·rw[K4 h5]at hn;rcases N0.1 ho with rfl|ho
      ·exact⟨hx,sR f _ (by omega)⟩
      ·exact ih _ hn o ho
    ·rw[K4 hx]at hn;omega
  exact key l _ h
section
variable {nf:Bs→Bs} {g:Int→List Outl→PS→PS×List Ev} {s:PS} {inn:Int}
end
end Go.Av
namespace Go.Av
open Go Go.Proofs Go.RowKit
attribute [local irreducible] WP WPl WPix Sat
variable {G:Nat→Option (List AVal)}
end Go.Av
namespace Go.Av
open Go Go.Proofs Go.RowKit
attribute [local irreducible] WP WPl WPix Sat
variable (G:Nat→Option (List AVal))
end Go.Av
namespace Go.Av
open Go Go.Proofs Go.RowKit
theorem x8{l:List Int}(h:l.Nodup):(sortI l).Nodup:=(U4 l _).nodup_iff.2 h
section
variable {α:Type} {z:α} {key:α→Int} {l:ML Int α} {c:Nat}
theorem uQ(w:WFM l c)(hid:∀k a,lkM l k=some a→key a=k):(valsM z l).map key=sortI (l.map (·.1)):=by
 unfold valsM;rw[Y6];have:∀k∈sortI (l.map (·.1)),(key ∘ fun k=>(lkM l k).getD z) k=k:=fun k hk=>by
  have hk2:k∈l.map (·.1):=(U4 _ _).mem_iff.1 hk;obtain⟨x,hx,rfl⟩:=M7.1 hk2;have:=bT w.keys (b:=x.2.2) (a:=x.2.1) (x:=x.1) hx;simp only[Function.comp,this,Q0];exact hid _ _ this
 rw[T4 this,List.map_id']
end
end Go.Av
namespace Go.Av
open Go Go.Proofs Go.RowKit
attribute [local irreducible] WP WPl WPix Sat
variable (G:Nat→Option (List AVal))
end Go.Av
