/- Parts. -/
import Derived.Test.YtnolelibaahimaaGreatDoorQQd
set_option linter.unusedSimpArgs false
set_option linter.unusedVariables false
set_option linter.unusedSectionVars false
set_option linter.unnecessarySimpa false
set_option maxRecDepth 100000
set_option maxHeartbeats 16000000
namespace Go.Av
open Go Go.Proofs Go.RowKit
attribute [local irreducible] WP WPl WPix Sat
variable {G:Nat→Option (List AVal)}
attribute [go_sem] decide_true decide_false
end Go.Av
namespace Go.Av
open Go Go.Proofs Go.RowKit
end Go.Av
namespace Go.Av
open Go Go.Proofs Go.RowKit
attribute [local irreducible] WP WPl WPix Sat
variable {G:Nat→Option (List AVal)}
end Go.Av
namespace Go.Av
open Go Go.Proofs Go.RowKit
attribute [local irreducible] WP WPl WPix Sat
variable {G:Nat→Option (List AVal)}
end Go.Av
namespace Go.Av
open Go Go.Proofs Go.RowKit
attribute [local irreducible] WP WPl WPix Sat
variable {G:Nat→Option (List AVal)}
end Go.Av
namespace Go.Av
open Go Go.Proofs Go.RowKit
attribute [local irreducible] WP WPl WPix Sat
variable {G:Nat→Option (List AVal)}
end Go.Av
namespace Go.Av
open Go Go.Proofs Go.RowKit
attribute [local irreducible] WP WPl WPix Sat
variable {G:Nat→Option (List AVal)}
end Go.Av
namespace Go.Av
open Go Go.Proofs Go.RowKit
attribute [local irreducible] WP WPl WPix Sat
variable {G:Nat→Option (List AVal)}
end Go.Av
namespace Go.Av
open Go Go.Proofs Go.RowKit
attribute [local irreducible] WP WPl WPix Sat
variable {G:Nat→Option (List AVal)}
end Go.Av
namespace Go.Av
open Go Go.Proofs Go.RowKit
end Go.Av
namespace Go.Av
open Go Go.Proofs Go.RowKit
attribute [local irreducible] WP WPl WPix Sat
variable {G:Nat→Option (List AVal)}
end Go.Av
namespace Go.Av
open Go Go.Proofs Go.RowKit
attribute [local irreducible] WP WPl WPix Sat
variable {G:Nat→Option (List AVal)}
end Go.Av
namespace Go.Av
open Go Go.Proofs Go.RowKit
def shortF(s:Bs)(n:Nat):Bs:=cleanF (cutF (cleanF s) n)
theorem nc(s:Bs)(n:Nat):(cutF s n).length≤n∧(cutF s n).length≤s.length:=by
 have:=vQ s s.length 0 n (by omega);unfold cutA at this;simp only[U0]at this;unfold cutF;rw[M6];omega
def textO(s:Bs)(m:Nat):Bool:=decide (s.length≤m)&&rightS s&&decide (cleanF s=s)
def oneOk(o:Outl):Bool:=decide (o.title≠ [])&&textO o.title 256&&textO o.url 512&&(decide (o.url=[])||decide (o.kids=[]))
def cntGo(g:List Outl→Nat):List Outl→Nat→Nat
 | [],n=>n
 |o::t,n=>if oneOk o then(if 512<n+g o.kids then n+g o.kids else cntGo g t (n+g o.kids))else 513
def cntN:Nat→List Outl→Nat
 |0,l=>if l=[]then 0 else 513
 |f+1,l=>if 512<l.length then 513 else cntGo (cntN f) l l.length
def mayGo(g:List Outl→Nat→Nat×Bool):List Outl→Nat→Nat×Bool
 | [],n=>(n,true)
 |o::t,n=>if n+1≤512∧oneOk o=true then(if (g o.kids (n+1)).2 then mayGo g t (g o.kids (n+1)).1 else((g o.kids (n+1)).1,false))else(n+1,false)
def mayN:Nat→List Outl→Nat→Nat×Bool
 |0,l,n=>if l=[]then(n,true)else(n,false)
 |f+1,l,n=>mayGo (mayN f) l n
theorem gy(g:List Outl→Nat→Nat×Bool)(hg:∀l n,n≤512→(g l n).2=true→n≤(g l n).1∧(g l n).1≤512):∀(t:List Outl) (m:Nat),m≤512→(mayGo g t m).2=true→m+t.length≤(mayGo g t m).1∧(mayGo g t m).1≤512
 | [],m,hm,_=>⟨by simp[mayGo],hm⟩
 |o::t,m,hm,h=>by
  rw[mayGo]at h ⊢;by_cases h1:m+1≤512∧oneOk o=true
  ·rw[I7 h1]at h ⊢;by_cases h2:(g o.kids (m+1)).2=true
   ·rw[I7 h2]at h ⊢;have a:=hg o.kids (m+1) h1.1 h2;have b:=gy g hg t _ a.2 h;simp only[I6];omega
   ·rw[I0 h2]at h;cases h
  ·rw[I0 h1]at h;cases h
theorem fQ:∀(f:Nat) (l:List Outl) (n:Nat),n≤512→(mayN f l n).2=true→n≤(mayN f l n).1∧(mayN f l n).1≤512:=by
 intro f;induction f with
 |zero=>
  intro l n hn h;rw[mayN]at h ⊢;by_cases hl:l=[]
  ·rw[I7 hl];exact⟨J0 _,hn⟩
  ·rw[I0 hl]at h;cases h
 |succ f ih=>
  intro l n hn h;rw[mayN]at h ⊢;have:=gy (mayN f) ih l n hn h;omega
theorem ja(g:List Outl→Nat):∀(t:List Outl) (a:Nat),a≤512→a≤cntGo g t a
 | [],a,_=>J0 _
 |o::t,a,ha=>by
  rw[cntGo];split
  ·split
   ·omega
   ·have:=ja g t (a+g o.kids) (by omega);omega
  ·omega
theorem wy:∀(f:Nat) (l:List Outl) (n:Nat),n≤512→((mayN f l n).2=true↔n+cntN f l≤512)∧((mayN f l n).2=true→(mayN f l n).1=n+cntN f l):=by
 intro f;induction f with
 |zero=>
  intro l n hn;rw[mayN,cntN];by_cases hl:l=[]
  ·rw[I7 hl,I7 hl];simp;omega
  ·rw[I0 hl,I0 hl];simp
 |succ f ih=>
  intro l n hn;have key:∀(t:List Outl) (a m:Nat),a≤512→m≤512→m+t.length=n+a→((mayGo (mayN f) t m).2=true↔n+cntGo (cntN f) t a≤512)∧((mayGo (mayN f) t m).2=true→(mayGo (mayN f) t m).1=n+cntGo (cntN f) t a):=by
   intro t;induction t with
   |nil=>
    intro a m ha hm he;simp only[L8,S6]at he;rw[mayGo,cntGo];simp;omega
   |cons o t iht=>
    intro a m ha hm he;simp only[I6]at he;have hge:=ja (cntN f) (o::t) a ha;by_cases h1:m+1≤512
    ·by_cases h2:oneOk o=true
     ·have hi:=ih o.kids (m+1) h1;rw[mayGo,I7 ⟨h1,h2⟩,cntGo,I7 h2];by_cases hq:(mayN f o.kids (m+1)).2=true
      ·rw[I7 hq];have e1:=hi.2 hq;have e2:=fQ f o.kids (m+1) h1 hq;by_cases h3:512<a+cntN f o.kids
       ·rw[I7 h3];have no:¬(mayGo (mayN f) t (mayN f o.kids (m+1)).1).2=true:=fun hh=>by
         have:=gy (mayN f) (fQ f) t _ e2.2 hh;omega
        exact⟨⟨fun hh=>absurd hh no,fun hh=>by omega⟩,fun hh=>absurd hh no⟩
       ·rw[I0 h3];exact iht _ _ (by omega) e2.2 (by omega)
      ·rw[I0 hq];have e1:¬(m+1+cntN f o.kids≤512):=fun hh=>hq (hi.1.2 hh)
       refine⟨⟨fun hh=>(by cases hh),fun hh=>?_⟩,fun hh=>(by cases hh)⟩;exfalso;split at hh
       ·omega
       ·rename_i h3;have:=ja (cntN f) t (a+cntN f o.kids) (by omega);omega
     ·rw[mayGo,I0 (fun hh=>h2 hh.2),cntGo,I0 h2];exact⟨⟨fun hh=>(by cases hh),fun hh=>(by omega)⟩,fun hh=>(by cases hh)⟩
    ·rw[mayGo,I0 (fun hh=>h1 hh.1)];exact⟨⟨fun hh=>(by cases hh),fun hh=>(by omega)⟩,fun hh=>(by cases hh)⟩
  rw[mayN,cntN];by_cases hl:512<l.length
  ·rw[I7 hl];have no:¬(mayGo (mayN f) l n).2=true:=fun hh=>by
    have:=gy (mayN f) (fQ f) l n hn hh;omega
   exact⟨⟨fun hh=>absurd hh no,fun hh=>by omega⟩,fun hh=>absurd hh no⟩
  ·rw[I0 hl];exact key l l.length n (by omega) hn (by omega)
structure En where
 guid:Bs
 title:Bs
 link:Bs
 date:Int
 dated:Bool
def En.av(x:En):AVal:=.agg [.str x.guid,.str x.title,.str x.link,.int .i64 x.date,.bool x.dated]
structure Fd where
 title:Bs
 link:Bs
 es:List En
def Fd.av(d:Fd):AVal:=.agg [.str d.title,.str d.link,.sl 5 (d.es.map En.av)]
end Go.Av
namespace Go.Av
open Go Go.Proofs Go.RowKit Go.ChangeShapes Go.WideShapes
section
variable {H:Type} {enc:TypeId×Value→H} {W:World}
end
section
variable {H:Type} {enc:TypeId×Value→H} {W:World}
end
section
variable {H:Type} {enc:TypeId×Value→H} {W:World}
theorem AG(n:Nat):Rd H enc Tryz.prog W n 34 (fun e:Ev=>e.av.cells) (fun _=>0):=fun cs x h=>by
 obtain⟨ds,n',rfl,hx,hcl,hdl,hf⟩:=l5 (fs:=[3,3,3,3,9,9,9]) (by kernel_rfl) h;obtain⟨y0,d0,t0⟩:=hf 0 _ rfl;obtain⟨y1,d1,t1⟩:=hf 1 _ rfl;obtain⟨y2,d2,t2⟩:=hf 2 _ rfl;obtain⟨y3,d3,t3⟩:=hf 3 _ rfl;obtain⟨y4,d4,t4⟩:=hf 4 _ rfl;obtain⟨y5,d5,t5⟩:=hf 5 _ rfl;obtain⟨y6,d6,t6⟩:=hf 6 _ rfl;obtain⟨a0,s0,r0,_⟩:=bS (mk:=fun i: {i:Int//(Lit.int .i64 i).wf=true}=>.int .i64 i.1) (js (by kernel_rfl)) t0;obtain⟨a1,s1,r1,_⟩:=bS (mk:=fun i: {i:Int//(Lit.int .i64 i).wf=true}=>.int .i64 i.1) (js (by kernel_rfl)) t1;obtain⟨a2,s2,r2,_⟩:=bS (mk:=fun i: {i:Int//(Lit.int .i64 i).wf=true}=>.int .i64 i.1) (js (by kernel_rfl)) t2;obtain⟨a3,s3,r3,_⟩:=bS (mk:=fun i: {i:Int//(Lit.int .i64 i).wf=true}=>.int .i64 i.1) (js (by kernel_rfl)) t3;obtain⟨a4,s4,r4,_⟩:=bS (mk:=fun s:Bs=>.str s) (gS (by kernel_rfl)) t4;obtain⟨a5,s5,r5,_⟩:=bS (mk:=fun s:Bs=>.str s) (gS (by kernel_rfl)) t5;obtain⟨a6,s6,r6,_⟩:=bS (mk:=fun s:Bs=>.str s) (gS (by kernel_rfl)) t6;refine⟨⟨a0.1,a1.1,a2.1,a3.1,a4,a5,a6⟩,by rw[hcl];rfl,fun j c hj=>?_,U3 _⟩
 match j with
 |0=>simp[Ev.av,AVal.cells]at hj;subst hj;exact⟨s0,r0⟩
 |1=>simp[Ev.av,AVal.cells]at hj;subst hj;exact⟨s1,r1⟩
 |2=>simp[Ev.av,AVal.cells]at hj;subst hj;exact⟨s2,r2⟩
 |3=>simp[Ev.av,AVal.cells]at hj;subst hj;exact⟨s3,r3⟩
 |4=>simp[Ev.av,AVal.cells]at hj;subst hj;exact⟨s4,r4⟩
 |5=>simp[Ev.av,AVal.cells]at hj;subst hj;exact⟨s5,r5⟩
 |6=>simp[Ev.av,AVal.cells]at hj;subst hj;exact⟨s6,r6⟩
 |j+7=>simp[Ev.av,AVal.cells]at hj
theorem o9{v:Value}{d:DataW H}{ps:List MemPlace}{r:Reach}{b0:Nat}(hval:Value.okWide Tryz.prog W r b0 22 v)(h:DataW.Trod enc Tryz.prog W 0 (fun _=>true) true 22 v d ps):∃es:List Ev,Rep W (lies0 W) [] (.sl 7 (es.map Ev.av)) v:=by
 obtain⟨n,hn⟩:=h;obtain⟨l,h1,h2,_⟩:=iW (m:=7) (e:=34) Ev.av (by kernel_rfl) (by kernel_rfl) (by decide) (fun _=>rfl) (fun _=>rfl) (fun k _=>AG k) _ _ hn;refine⟨l,?_⟩;have h4:=(h2 0 _ rfl).2;have hcs:v.cells.toList=[v]:=by
  have hu:Tryz.prog.underlying 22=some (.slice 34):=by kernel_rfl
  cases v with
  |agg a=>simp[Value.okWide,hu,Cell.okWide,Cell.ok]at hval
  |_=>rfl
 rw[hcs]at h4;simpa using h4
end
end Go.Av
namespace Go.Av
open Go Go.Proofs Go.RowKit
def fitAll:PS→List Ev→Bool
 |_,[]=>true
 |s,e::l=>s.ok L0 e&&fitAll (s.step L0 e) l
theorem wz(l1 l2:List Ev)(s:PS):fitAll s (l1++l2)=(fitAll s l1&&fitAll (l1.foldl (PS.step L0) s) l2):=by
 induction l1 generalizing s with
 |nil=>simp[fitAll]
 |cons e l ih=>rw[O9,fitAll,ih,fitAll,List.foldl_cons,Bool.and_assoc]
theorem fS{α:Type}(z:α)(l:ML Int α):(valsM z l).length=l.length:=by
 unfold valsM;rw[I5,ce,I5]
structure PS.Top2 (s:PS):Prop where
 i:s.Inv
 n:s.Nam
 o:∀k f,lkM s.fo k=some f→k≤s.t1
 e:∀k f,lkM s.fe k=some f→k≤s.t2
 zo:0≤s.t1
 ze:0≤s.t2
 mo:s.t1≤1048576
 me:s.t2≤1048576
def evFe(s:PS)(inn:Int)(o:Outl):Ev:=⟨3,s.t2+1,inn,0,o.url,o.title,[]⟩
def evFo(s:PS)(inn:Int)(name:Bs):Ev:=⟨1,s.t1+1,inn,0,name,[],[]⟩
def foId(s:PS)(inn:Int)(name:Bs):Int:=(lkM s.nm (inn,name)).getD 0
def putF(s:PS)(e:Ev):PS×List Ev:=if s.ok L0 e then(s.step L0 e,[e])else(s,[])
section
variable (nf:Bs→Bs)
def oneG(g:Int→List Outl→PS→PS×List Ev)(inn:Int)(o:Outl)(s:PS):PS×List Ev:=
 if o.url≠ []then putF s (evFe s inn o)
 else if foId s inn (nf o.title)≠0 then g (foId s inn (nf o.title)) o.kids s
 else if s.ok L0 (evFo s inn (nf o.title))then((g (s.t1+1) o.kids (s.step L0 (evFo s inn (nf o.title)))).1,evFo s inn (nf o.title)::(g (s.t1+1) o.kids (s.step L0 (evFo s inn (nf o.title)))).2)
 else g inn o.kids s
def lstG(h:Outl→PS→PS×List Ev):List Outl→PS→PS×List Ev
 | [],s=>(s,[])
 |o::l,s=>((lstG h l (h o s).1).1,(h o s).2++(lstG h l (h o s).1).2)
def brgF:Nat→Int→List Outl→PS→PS×List Ev
 |0,_,_,s=>(s,[])
 |k+1,inn,l,s=>lstG (oneG nf (brgF k) inn) l s
end
structure Gr (s s':PS):Prop where
 fo:∀k,(lkM s.fo k).isSome=true→lkM s'.fo k=lkM s.fo k
 fe:∀k,(lkM s.fe k).isSome=true→lkM s'.fe k=lkM s.fe k
 nm:∀k v,lkM s.nm k=some v→lkM s'.nm k=some v
 pl:∀k v,lkM s.pl k=some v→lkM s'.pl k=some v
 t1:s.t1≤s'.t1
 t2:s.t2≤s'.t2
 lo:s.fo.length≤s'.fo.length
 le:s.fe.length≤s'.fe.length
theorem Gr.refl(s:PS):Gr s s:=⟨fun _ _=>rfl,fun _ _=>rfl,fun _ _ h=>h,fun _ _ h=>h,W7 _,W7 _,J0 _,J0 _⟩
theorem Gr.trans{a b c:PS}(h:Gr a b)(g:Gr b c):Gr a c where
 fo:=fun k hk=>by have e:=h.fo k hk;rw[g.fo k (by rw[e];exact hk),e]
 fe:=fun k hk=>by have e:=h.fe k hk;rw[g.fe k (by rw[e];exact hk),e]
 nm:=fun k v hk=>g.nm k v (h.nm k v hk)
 pl:=fun k v hk=>g.pl k v (h.pl k v hk)
 t1:=Int.le_trans h.t1 g.t1
 t2:=Int.le_trans h.t2 g.t2
 lo:=O5 h.lo g.lo
 le:=O5 h.le g.le
section
variable {s:PS} {inn:Int} {o:Outl} {name:Bs}
theorem ng(s:PS)(id k:Int):∃he c8,s.hold id k= {s with he:=he,c8:=c8}:=⟨_,_,aO s id k⟩
theorem uV(h:s.ok L0 (evFe s inn o)=true):L0.ck (evFe s inn o)=true∧lkM s.fe (s.t2+1)=none∧s.fe.length<64∧s.within inn=true∧(lkM s.pl o.url).getD 0=0:=by
 have k3:(evFe s inn o).kind=3:=rfl;unfold PS.ok PS.fits at h;rw[I1]at h;have h2:=h.2;rw[I0 (by omega),I0 (by omega),I7 k3]at h2;simp only[I1,I4,beq_iff_eq,M5,evFe]at h2;exact⟨h.1,bH h2.1.1.1,h2.1.1.2,h2.1.2,h2.2⟩
theorem uW(h:s.ok L0 (evFo s inn name)=true):L0.ck (evFo s inn name)=true∧lkM s.fo (s.t1+1)=none∧s.fo.length<64∧s.within inn=true∧s.dpt inn<7∧foId s inn name=0:=by
 have k1:(evFo s inn name).kind=1:=rfl;unfold PS.ok PS.fits at h;rw[I1]at h;have h2:=h.2;rw[I7 k1]at h2;simp only[I1,I4,beq_iff_eq,M5,evFo]at h2;exact⟨h.1,bH h2.1.1.1.1,h2.1.1.1.2,h2.1.1.2,Q8 h2.1.2,h2.2⟩
theorem wA(h:s.ok L0 (evFe s inn o)=true):∃he c8,s.step L0 (evFe s inn o)= {s with fe:=upM s.fe s.c2 (s.t2+1) ⟨s.t2+1,inn,o.url,o.title⟩,c2:=ckM s.fe s.c2 (s.t2+1),pl:=upM s.pl s.c6 o.url (s.t2+1),c6:=ckM s.pl s.c6 o.url,he:=he,c8:=c8,t2:=s.t2+1}:=by
 have k3:(evFe s inn o).kind=3:=rfl;unfold PS.step;rw[I7 h];unfold PS.aft PS.after;rw[I0 (by omega),I0 (by omega),I0 (by omega),I0 (by omega),I0 (by omega),I0 (by omega),I0 (by omega),I0 (by omega),I0 (by omega),PS.make,I0 (by omega),I7 k3];obtain⟨he,c8,hh⟩:=ng ((s.upFe (s.t2+1) ⟨s.t2+1,inn,o.url,o.title⟩).upPl o.url (s.t2+1)) inn 1;refine⟨he,c8,?_⟩;show(PS.hold ((s.upFe (s.t2+1) ⟨s.t2+1,inn,o.url,o.title⟩).upPl o.url (s.t2+1)) inn 1).raise 1 (s.t2+1)=_;rw[hh];unfold PS.raise;simp only[PS.upFe,PS.upPl];congr 1
 exact I7 (by show s.t2+1>s.t2;omega)
theorem oU(h:s.ok L0 (evFo s inn name)=true):∃he c8,s.step L0 (evFo s inn name)= {s with fo:=upM s.fo s.c1 (s.t1+1) ⟨s.t1+1,inn,name⟩,c1:=ckM s.fo s.c1 (s.t1+1),nm:=upM s.nm s.c5 (inn,name) (s.t1+1),c5:=ckM s.nm s.c5 (inn,name),he:=he,c8:=c8,t1:=s.t1+1}:=by
 have k1:(evFo s inn name).kind=1:=rfl;unfold PS.step;rw[I7 h];unfold PS.aft PS.after;rw[I0 (by omega),I0 (by omega),I0 (by omega),I0 (by omega),I0 (by omega),I0 (by omega),I0 (by omega),I0 (by omega),I0 (by omega),PS.make,I7 k1];obtain⟨he,c8,hh⟩:=ng ((s.upFo (s.t1+1) ⟨s.t1+1,inn,name⟩).upNm (inn,name) (s.t1+1)) inn 1;refine⟨he,c8,?_⟩;show(PS.hold ((s.upFo (s.t1+1) ⟨s.t1+1,inn,name⟩).upNm (inn,name) (s.t1+1)) inn 1).raise 0 (s.t1+1)=_;rw[hh];unfold PS.raise;simp only[PS.upFo,PS.upNm];congr 1
 exact I7 (by show s.t1+1>s.t1;omega)
theorem Cw(h:s.Nam)(hI:s.Inv){u:Bs}(h0:(lkM s.pl u).getD 0=0):lkM s.pl u=none:=by
 cases hl:lkM s.pl u with
 |none=>rfl
 |some j=>have:=h.pl1 hI hl;rw[hl]at h0;simp at h0;omega
theorem Hg(h:s.Nam)(hI:s.Inv){k:Int×Bs}(h0:(lkM s.nm k).getD 0=0):lkM s.nm k=none:=by
 cases hl:lkM s.nm k with
 |none=>rfl
 |some j=>have:=h.nm1 hI hl;rw[hl]at h0;simp at h0;omega
theorem lM(T:s.Top2)(h:s.ok L0 (evFe s inn o)=true):Gr s (s.step L0 (evFe s inn o))∧(s.step L0 (evFe s inn o)).Top2∧lkM (s.step L0 (evFe s inn o)).pl o.url=some (s.t2+1)∧(s.step L0 (evFe s inn o)).nm=s.nm:=by
 obtain⟨hck,hn,_,_,hp⟩:=uV h;have hp:=Cw T.n T.i hp;have ck_le:s.t2+1≤1048576:=by
  unfold Leaf.ck at hck;rw[I1]at hck;exact(eW hck.1 (by show(3:Int)≠13;omega)).2
 obtain⟨he,c8,e⟩:=wA h;have I:=T.i.step (L:=L0) (evFe s inn o);have N:=T.n.step (L:=L0) T.i (evFe s inn o);rw[e]at I N ⊢;refine⟨⟨fun _ _=>rfl,fun k hk=>?_,fun _ _ h=>h,fun k v hk=>?_,W7 _,by show s.t2≤s.t2+1;omega,J0 _,?_⟩,⟨I,N,T.o,fun k f hf=>?_,T.zo,by have:=T.ze;show 0≤s.t2+1;omega,T.mo,ck_le⟩,?_,rfl⟩
 ·show lkM (upM s.fe s.c2 _ _) k=_;rw[aW,I0 (by rintro rfl;rw[hn]at hk;cases hk)]
 ·show lkM (upM s.pl s.c6 _ _) k=_;rw[aW,I0 (by rintro rfl;rw[hp]at hk;cases hk)];exact hk
 ·show _≤(upM s.fe s.c2 _ _).length;rw[ko];split<;>omega
 ·have hf:lkM (upM s.fe s.c2 (s.t2+1) _) k=some f:=hf;show k≤s.t2+1;rcases aK hf with⟨rfl,_⟩| ⟨_,hf⟩
  ·exact W7 _
  ·have:=T.e k f hf;omega
 ·show lkM (upM s.pl s.c6 _ _) o.url=_;rw[aW,I7 rfl]
theorem iv(T:s.Top2)(h:s.ok L0 (evFo s inn name)=true):Gr s (s.step L0 (evFo s inn name))∧(s.step L0 (evFo s inn name)).Top2∧(∀k,lkM (s.step L0 (evFo s inn name)).nm k=if k=(inn,name)then some (s.t1+1)else lkM s.nm k)∧(lkM (s.step L0 (evFo s inn name)).fo (s.t1+1)).isSome=true:=by
 obtain⟨hck,hn,_,_,_,hp⟩:=uW h;have hp:=Hg T.n T.i hp;have ck_le:s.t1+1≤1048576:=by
  unfold Leaf.ck at hck;rw[I1]at hck;exact(eW hck.1 (by show(1:Int)≠13;omega)).2
 obtain⟨he,c8,e⟩:=oU h;have I:=T.i.step (L:=L0) (evFo s inn name);have N:=T.n.step (L:=L0) T.i (evFo s inn name);rw[e]at I N ⊢;refine⟨⟨fun k hk=>?_,fun _ _=>rfl,fun k v hk=>?_,fun _ _ h=>h,by show s.t1≤s.t1+1;omega,W7 _,?_,J0 _⟩,⟨I,N,fun k f hf=>?_,T.e,by have:=T.zo;show 0≤s.t1+1;omega,T.ze,ck_le,T.me⟩,fun k=>?_,?_⟩
 ·show lkM (upM s.fo s.c1 _ _) k=_;rw[aW,I0 (by rintro rfl;rw[hn]at hk;cases hk)]
 ·show lkM (upM s.nm s.c5 _ _) k=_;rw[aW,I0 (by rintro rfl;rw[hp]at hk;cases hk)];exact hk
 ·show _≤(upM s.fo s.c1 _ _).length;rw[ko];split<;>omega
 ·have hf:lkM (upM s.fo s.c1 (s.t1+1) _) k=some f:=hf;show k≤s.t1+1;rcases aK hf with⟨rfl,_⟩| ⟨_,hf⟩
  ·exact W7 _
  ·have:=T.o k f hf;omega
 ·show lkM (upM s.nm s.c5 _ _) k=_;rw[aW]
 ·show(lkM (upM s.fo s.c1 _ _) (s.t1+1)).isSome=true;rw[aW,I7 rfl];rfl
theorem wB{s s':PS}(hI:s.Inv)(hI':s'.Inv)(h:Gr s s'):∀(n:Nat) (id:Int),id=0∨(lkM s.fo id).isSome=true→deepO s'.fo n id=deepO s.fo n id:=by
 have z:∀s:PS,s.Inv→lkM s.fo 0=none:=fun s hI=>by
  cases hl:lkM s.fo 0 with
  |none=>rfl
  |some f=>have:=(hI.i1 _ _ hl).2;omega
 intro n;induction n with
 |zero=>
  intro id hid;unfold deepO;rcases hid with rfl|hid
  ·rw[z s hI,z s' hI']
  ·rw[h.fo id hid]
 |succ n ih=>
  intro id hid;unfold deepO;rcases hid with rfl|hid
  ·rw[z s hI,z s' hI']
  ·rw[h.fo id hid];obtain⟨f,hf⟩:=b8 hid;rw[hf];simp only[];rw[ih f.inn (hI.u1 _ _ hf)]
theorem jT{s s':PS}(h:Gr s s')(hw:s.within inn=true):s'.within inn=true:=by
 unfold PS.within at hw ⊢;rw[N6]at hw ⊢;rcases hw with hw|hw
 ·exact .inl hw
 ·right;rw[h.fo _ hw];exact hw
theorem AH(hw:s.within inn=true):inn=0∨(lkM s.fo inn).isSome=true:=by
 unfold PS.within at hw;rw[N6,I4]at hw;exact hw
theorem AI{s s':PS}(T:s.Top2)(T':s'.Top2)(h:Gr s s')(hw:s.within inn=true)(hb:s.ok L0 (evFe s inn o)=false):s'.ok L0 (evFe s' inn o)=false:=by
 have k3':(evFe s' inn o).kind=3:=rfl;have k3:(evFe s inn o).kind=3:=rfl;cases hk:s'.ok L0 (evFe s' inn o)with
 |false=>rfl
 |true=>
  exfalso;obtain⟨a1,_,a3,_,a5⟩:=uV hk;have hpn:=Cw T'.n T'.i a5;have hps:lkM s.pl o.url=none:=by
   cases hl:lkM s.pl o.url with
   |none=>rfl
   |some v=>have:=h.pl _ _ hl;rw[hpn]at this;cases this
  have hf:lkM s.fe (s.t2+1)=none:=by
   cases hl:lkM s.fe (s.t2+1)with
   |none=>rfl
   |some f=>have:=T.e _ _ hl;omega
  have hck:L0.ck (evFe s inn o)=true:=by
   unfold Leaf.ck at a1 ⊢;rw[I1]at a1 ⊢;refine⟨?_,by simp[usedE,evFe]⟩;have a1:=a1.1;unfold Leaf.right at a1 ⊢;rw[I0 (by omega),I0 (by omega),I7 k3']at a1;rw[I0 (by omega),I0 (by omega),I7 k3];rw[I1]at a1 ⊢;refine⟨?_,a1.2⟩;have:=a1.1;have h2:=h.t2;have h0:=T.ze;unfold idF at this ⊢;simp only[I1,I4]at this ⊢;have e1:(evFe s' inn o).a=s'.t2+1:=rfl;have e2:(evFe s inn o).a=s.t2+1:=rfl;rw[e1]at this;rw[e2];omega
  have:s.ok L0 (evFe s inn o)=true:=by
   unfold PS.ok PS.fits;rw[hck,I0 (by omega),I0 (by omega),I7 k3];have h3:s.fe.length<64:=(by have:=h.le;omega);simp[evFe,hf,h3,hw,hps]
  rw[hb]at this;cases this
theorem vr{s s':PS}(T:s.Top2)(T':s'.Top2)(h:Gr s s')(hw:s.within inn=true)(h0:foId s inn name=0)(hb:s.ok L0 (evFo s inn name)=false):s'.ok L0 (evFo s' inn name)=false:=by
 have k1':(evFo s' inn name).kind=1:=rfl;have k1:(evFo s inn name).kind=1:=rfl;cases hk:s'.ok L0 (evFo s' inn name)with
 |false=>rfl
 |true=>
  exfalso;obtain⟨a1,_,a3,_,a5,a6⟩:=uW hk;have hf:lkM s.fo (s.t1+1)=none:=by
   cases hl:lkM s.fo (s.t1+1)with
   |none=>rfl
   |some f=>have:=T.o _ _ hl;omega
  have hd:s'.dpt inn=s.dpt inn:=by unfold PS.dpt;rw[wB T.i T'.i h 7 inn (AH hw)]
  have hck:L0.ck (evFo s inn name)=true:=by
   unfold Leaf.ck at a1 ⊢;rw[I1]at a1 ⊢;refine⟨?_,by simp[usedE,evFo]⟩;have a1:=a1.1;unfold Leaf.right at a1 ⊢;rw[I7 k1']at a1;rw[I7 k1];rw[I1]at a1 ⊢;refine⟨?_,a1.2⟩;have:=a1.1;have h2:=h.t1;have h0:=T.zo;unfold idF at this ⊢;simp only[I1,I4]at this ⊢;have e1:(evFo s' inn name).a=s'.t1+1:=rfl;have e2:(evFo s inn name).a=s.t1+1:=rfl;rw[e1]at this;rw[e2];omega
  have:s.ok L0 (evFo s inn name)=true:=by
   unfold PS.ok PS.fits;rw[hck,I7 k1];have h3:s.fo.length<64:=(by have:=h.lo;omega);rw[hd]at a5;have h4:(lkM s.nm (inn,name)).getD 0=0:=h0;have h5:s.dpt inn<7:=a5;simp[evFo,hf,h3,hw,h4,h5]
  rw[hb]at this;cases this
end
variable {s:PS} {e:Ev}
structure Aft (s z:PS) (e:Ev):Prop where
 fo:∀k f,lkM z.fo k=some f→(lkM s.fo k).isSome=true∨(e.kind=1∧k=e.a)
 fe:∀k f,lkM z.fe k=some f→(lkM s.fe k).isSome=true∨(e.kind=3∧k=e.a)
 t1:z.t1=if e.kind=1 then(if e.a>s.t1 then e.a else s.t1)else s.t1
 t2:z.t2=if e.kind=3 then(if e.a>s.t2 then e.a else s.t2)else s.t2
theorem Aft.same{z:PS}(h1:e.kind≠1)(h3:e.kind≠3)(a:z.fo=s.fo)(b:z.fe=s.fe)(c:z.t1=s.t1)(d:z.t2=s.t2):Aft s z e:=
 ⟨fun k f hf=>.inl (by rw[a]at hf;rw[hf];rfl),fun k f hf=>.inl (by rw[b]at hf;rw[hf];rfl),by rw[I0 h1,c],by rw[I0 h3,d]⟩
theorem fU(s:PS)(id k:Int):(s.hold id k).fo=s.fo∧(s.hold id k).fe=s.fe∧(s.hold id k).t1=s.t1∧(s.hold id k).t2=s.t2:=by rw[aO];exact⟨rfl,rfl,rfl,rfl⟩
theorem Aft.of{a z:PS}(h:Aft s a e)(h1:z.fo=a.fo)(h2:z.fe=a.fe)(h3:z.t1=a.t1)(h4:z.t2=a.t2):Aft s z e:=⟨by rw[h1];exact h.fo,by rw[h2];exact h.fe,by rw[h3];exact h.t1,by rw[h4];exact h.t2⟩
theorem vt{s:PS}{c:Nat}{x:Int}{a:Fe}(hx:(lkM s.fe x).isSome=true):∀k f,lkM (upM s.fe c x a) k=some f→(lkM s.fe k).isSome=true:=fun k f hf=>by
 rcases aK hf with⟨rfl,_⟩| ⟨_,hf⟩
 ·exact hx
 ·rw[hf];rfl
theorem AJ(hI:s.Inv)(hok:s.ok L0 e=true):Aft s (s.aft e) e:=by
 unfold PS.ok PS.fits at hok;rw[I1]at hok;have hfit:=hok.2;clear hok;unfold PS.aft PS.after;split
 ·have h:=fU ((s.dlNm (((lkM s.fo e.a).getD Fo.z).inn,((lkM s.fo e.a).getD Fo.z).name)).dlFo e.a) ((lkM s.fo e.a).getD Fo.z).inn (-1);refine Aft.of (a:=(s.dlNm (((lkM s.fo e.a).getD Fo.z).inn,((lkM s.fo e.a).getD Fo.z).name)).dlFo e.a) ⟨fun k f hf=>?_,fun k f hf=>.inl ?_,?_,?_⟩ h.1 h.2.1 h.2.2.1 h.2.2.2
  ·have hf:lkM (dlM s.fo e.a) k=some f:=hf;left;rw[(cg hI.w1.keys hf).2];rfl
  ·have hf:lkM s.fe k=some f:=hf;rw[hf];rfl
  ·rw[I0 (by omega)];rfl
  ·rw[I0 (by omega)];rfl
 split
 ·have h:=fU ((({s with it:=itF s.it ((lkM s.fe e.a).getD Fe.z).id,gu:=guF s.it s.gu ((lkM s.fe e.a).getD Fe.z).id}:PS).dlPl ((lkM s.fe e.a).getD Fe.z).url).dlFe ((lkM s.fe e.a).getD Fe.z).id) ((lkM s.fe e.a).getD Fe.z).inn (-1);refine Aft.of (a:=(({s with it:=itF s.it ((lkM s.fe e.a).getD Fe.z).id,gu:=guF s.it s.gu ((lkM s.fe e.a).getD Fe.z).id}:PS).dlPl ((lkM s.fe e.a).getD Fe.z).url).dlFe ((lkM s.fe e.a).getD Fe.z).id) ⟨fun k f hf=>.inl ?_,fun k f hf=>.inl ?_,?_,?_⟩ h.1 h.2.1 h.2.2.1 h.2.2.2
  ·have hf:lkM s.fo k=some f:=hf;rw[hf];rfl
  ·have hf:lkM (dlM s.fe ((lkM s.fe e.a).getD Fe.z).id) k=some f:=hf;rw[(cg hI.w2.keys hf).2];rfl
  ·rw[I0 (by omega)];rfl
  ·rw[I0 (by omega)];rfl
 split
 ·rename_i k5;rw[I0 (by omega),I0 (by omega),I0 (by omega),I7 (.inr k5)]at hfit;refine⟨fun k f hf=>.inl ?_,fun k f hf=>.inl (vt hfit k f hf),?_,?_⟩
  ·have hf:lkM s.fo k=some f:=hf;rw[hf];rfl
  ·rw[I0 (by omega)];rfl
  ·rw[I0 (by omega)];rfl
 split
 ·rename_i k6;rw[I0 (by omega),I0 (by omega),I0 (by omega),I0 (by omega),I7 k6,I1]at hfit;have h1:=fU s ((lkM s.fe e.a).getD Fe.z).inn (-1);have h2:=fU (s.hold ((lkM s.fe e.a).getD Fe.z).inn (-1)) e.b 1;refine⟨fun k f hf=>.inl ?_,fun k f hf=>.inl ?_,?_,?_⟩
  ·have hf:lkM ((s.hold ((lkM s.fe e.a).getD Fe.z).inn (-1)).hold e.b 1).fo k=some f:=hf;rw[h2.1,h1.1]at hf;rw[hf];rfl
  ·have hf:lkM (upM ((s.hold ((lkM s.fe e.a).getD Fe.z).inn (-1)).hold e.b 1).fe _ e.a _) k=some f:=hf;rw[h2.2.1,h1.2.1]at hf;exact vt hfit.1 k f hf
  ·show((s.hold ((lkM s.fe e.a).getD Fe.z).inn (-1)).hold e.b 1).t1=_;rw[I0 (by omega),h2.2.2.1,h1.2.2.1]
  ·show((s.hold ((lkM s.fe e.a).getD Fe.z).inn (-1)).hold e.b 1).t2=_;rw[I0 (by omega),h2.2.2.2,h1.2.2.2]
 split
 ·exact Aft.same (by omega) (by omega) rfl rfl rfl rfl
 split
 ·exact Aft.same (by omega) (by omega) rfl rfl rfl rfl
 split
 ·exact Aft.same (by omega) (by omega) rfl rfl rfl rfl
 split
 ·exact Aft.same (by omega) (by omega) rfl rfl rfl rfl
 split
 ·exact Aft.same (by omega) (by omega) rfl rfl rfl rfl
 unfold PS.make;split
 ·rename_i k1;have h:=fU ((s.upFo e.a ⟨e.a,e.b,e.s⟩).upNm (e.b,e.s) e.a) e.b 1;refine⟨fun k f hf=>?_,fun k f hf=>.inl ?_,?_,?_⟩
  ·have hf:lkM (PS.hold ((s.upFo e.a ⟨e.a,e.b,e.s⟩).upNm (e.b,e.s) e.a) e.b 1).fo k=some f:=hf;rw[h.1]at hf;have hf:lkM (upM s.fo s.c1 e.a _) k=some f:=hf;rcases aK hf with⟨rfl,_⟩| ⟨_,hf⟩
   ·exact .inr ⟨k1,rfl⟩
   ·left;rw[hf];rfl
  ·have hf:lkM (PS.hold ((s.upFo e.a ⟨e.a,e.b,e.s⟩).upNm (e.b,e.s) e.a) e.b 1).fe k=some f:=hf;rw[h.2.1]at hf;have hf:lkM s.fe k=some f:=hf;rw[hf];rfl
  ·rw[I7 k1];show(if e.a>(PS.hold ((s.upFo e.a ⟨e.a,e.b,e.s⟩).upNm (e.b,e.s) e.a) e.b 1).t1 then e.a else(PS.hold ((s.upFo e.a ⟨e.a,e.b,e.s⟩).upNm (e.b,e.s) e.a) e.b 1).t1)=_;rw[h.2.2.1];rfl
  ·rw[I0 (by omega)];show(PS.hold ((s.upFo e.a ⟨e.a,e.b,e.s⟩).upNm (e.b,e.s) e.a) e.b 1).t2=_;rw[h.2.2.2];rfl
 split
 ·rename_i k3;have h:=fU ((s.upFe e.a ⟨e.a,e.b,e.s,e.t⟩).upPl e.s e.a) e.b 1;refine⟨fun k f hf=>.inl ?_,fun k f hf=>?_,?_,?_⟩
  ·have hf:lkM (PS.hold ((s.upFe e.a ⟨e.a,e.b,e.s,e.t⟩).upPl e.s e.a) e.b 1).fo k=some f:=hf;rw[h.1]at hf;have hf:lkM s.fo k=some f:=hf;rw[hf];rfl
  ·have hf:lkM (PS.hold ((s.upFe e.a ⟨e.a,e.b,e.s,e.t⟩).upPl e.s e.a) e.b 1).fe k=some f:=hf;rw[h.2.1]at hf;have hf:lkM (upM s.fe s.c2 e.a _) k=some f:=hf;rcases aK hf with⟨rfl,_⟩| ⟨_,hf⟩
   ·exact .inr ⟨k3,rfl⟩
   ·left;rw[hf];rfl
  ·rw[I0 (by omega)];show(PS.hold ((s.upFe e.a ⟨e.a,e.b,e.s,e.t⟩).upPl e.s e.a) e.b 1).t1=_;rw[h.2.2.1];rfl
  ·rw[I7 k3];show(if e.a>(PS.hold ((s.upFe e.a ⟨e.a,e.b,e.s,e.t⟩).upPl e.s e.a) e.b 1).t2 then e.a else(PS.hold ((s.upFe e.a ⟨e.a,e.b,e.s,e.t⟩).upPl e.s e.a) e.b 1).t2)=_;rw[h.2.2.2];rfl
 split
 ·exact Aft.same (by omega) (by omega) rfl rfl rfl rfl
 split
 ·exact Aft.same (by omega) (by omega) rfl rfl rfl rfl
 exact Aft.same (by omega) (by omega) rfl rfl rfl rfl
theorem PS.Top2.z0:PS.z.Top2:=⟨PS.Inv.z,PS.Nam.z,(fun _ _ h=>by cases h),(fun _ _ h=>by cases h),W7 _,W7 _,(by show(0:Int)≤1048576;omega),(by show(0:Int)≤1048576;omega)⟩
theorem PS.Top2.step(T:s.Top2)(e:Ev):(s.step L0 e).Top2:=by
 have I:=T.i.step (L:=L0) e;have N:=T.n.step (L:=L0) T.i e;unfold PS.step at I N ⊢;split
 ·rename_i hok;rw[I7 hok]at I N;have A:=AJ T.i hok;have zo:=T.zo;have ze:=T.ze;have mo:=T.mo;have me:=T.me;have hid:e.kind≠13→e.a≤1048576:=fun h13=>by
   unfold PS.ok PS.fits at hok;rw[I1]at hok;have hck:=hok.1;unfold Leaf.ck at hck;rw[I1]at hck;exact(eW hck.1 h13).2
  refine⟨I,N,fun k f hf=>?_,fun k f hf=>?_,?_,?_,?_,?_⟩
  ·rw[A.t1];rcases A.fo k f hf with h| ⟨h1,rfl⟩
   ·obtain⟨g,hg⟩:=b8 h;have:=T.o k g hg;split<;>(try split)<;>omega
   ·rw[I7 h1];split<;>omega
  ·rw[A.t2];rcases A.fe k f hf with h| ⟨h1,rfl⟩
   ·obtain⟨g,hg⟩:=b8 h;have:=T.e k g hg;split<;>(try split)<;>omega
   ·rw[I7 h1];split<;>omega
  ·rw[A.t1];split<;>(try split)<;>omega
  ·rw[A.t2];split<;>(try split)<;>omega
  ·rw[A.t1];split
   ·have:=hid (by omega);split<;>omega
   ·exact mo
  ·rw[A.t2];split
   ·have:=hid (by omega);split<;>omega
   ·exact me
 ·exact T
theorem PS.Top2.fold(T:s.Top2)(l:List Ev):(l.foldl (PS.step L0) s).Top2:=by
 induction l generalizing s with
 |nil=>exact T
 |cons e l ih=>exact ih (T.step e)
end Go.Av
namespace Go.Av
open Go Go.Proofs Go.RowKit
inductive Run:PS→PS→Prop
 |refl (s:PS):Run s s
 |fe {s t:PS} (inn:Int) (o:Outl):Run s t→t.ok L0 (evFe t inn o)=true→Run s (t.step L0 (evFe t inn o))
 |fo {s t:PS} (inn:Int) (name:Bs):Run s t→t.ok L0 (evFo t inn name)=true→Run s (t.step L0 (evFo t inn name))
theorem Run.trans{a b c:PS}(h:Run a b)(g:Run b c):Run a c:=by
 induction g with
 |refl=>exact h
 |fe inn o _ hk ih=>exact .fe inn o ih hk
 |fo inn name _ hk ih=>exact .fo inn name ih hk
theorem Run.gr{s t:PS}(h:Run s t)(T:s.Top2):Gr s t∧t.Top2:=by
 induction h with
 |refl=>exact⟨Gr.refl _,T⟩
 |fe inn o _ hk ih=>have g:=lM ih.2 hk;exact⟨ih.1.trans g.1,g.2.1⟩
 |fo inn name _ hk ih=>have g:=iv ih.2 hk;exact⟨ih.1.trans g.1,g.2.1⟩
theorem Run.no{s t:PS}(h:Run s t){inn:Int}{name:Bs}(T:s.Top2)(hw:s.within inn=true)(h0:foId s inn name=0)(hb:s.ok L0 (evFo s inn name)=false):foId t inn name=0∧t.ok L0 (evFo t inn name)=false:=by
 have key:foId t inn name=0:=by
  induction h with
  |refl=>exact h0
  |fe inn2 o hr hk ih=>
   have g:=hr.gr T;have:=(lM g.2 hk).2.2.2;unfold foId at ih ⊢;rw[this];exact ih
  |fo inn2 name2 hr hk ih=>
   have g:=hr.gr T;have hnm:=(iv g.2 hk).2.2.1 (inn,name);unfold foId at ih ⊢;rw[hnm];split
   ·rename_i e;cases e;have:=vr T g.2 g.1 hw h0 hb;rw[hk]at this;cases this
   ·exact ih
 exact⟨key,vr T (h.gr T).2 (h.gr T).1 hw h0 hb⟩
structure Br (s:PS) (p:PS×List Ev):Prop where
 t:p.1.Top2
 r:Run s p.1
 f:p.1=p.2.foldl (PS.step L0) s
 a:fitAll s p.2=true
 k:∀e∈p.2,e.kind=1∨e.kind=3
theorem Br.nil{s:PS}(T:s.Top2):Br s (s,[]):=⟨T,.refl _,rfl,rfl,fun e he=>by cases he⟩
theorem Br.app{s a b:PS}{x y:List Ev}(h:Br s (a,x))(g:Br a (b,y)):Br s (b,x++y) where
 t:=g.t
 r:=h.r.trans g.r
 f:=by
  have h1:a=x.foldl (PS.step L0) s:=h.f;have h2:b=y.foldl (PS.step L0) a:=g.f;show b=(x++y).foldl _ s;rw[List.foldl_append, ← h1];exact h2
 a:=by
  have h1:a=x.foldl (PS.step L0) s:=h.f;show fitAll s (x++y)=true;rw[wz,I1, ← h1];exact⟨h.a,g.a⟩
 k:=fun e he=>(P6.1 he).elim (h.k e) (g.k e)
section
variable {nf:Bs→Bs} {g:Int→List Outl→PS→PS×List Ev} {s:PS} {inn:Int}
theorem lN{s:PS}{j inn:Int}{name:Bs}(T:s.Top2)(hj:foId s inn name=j)(h0:j≠0):s.within j=true:=by
 unfold foId at hj;cases hl:lkM s.nm (inn,name)with
 |none=>rw[hl]at hj;exact absurd hj.symm h0
 |some v=>
  rw[hl]at hj;obtain⟨f,hf,_⟩:=T.n.n1 _ _ hl;have hj:v=j:=hj;subst hj;unfold PS.within;rw[hf];simp
theorem fa(hg:∀inn l s,s.Top2→s.within inn=true→Br s (g inn l s))(T:s.Top2)(hw:s.within inn=true)(o:Outl):Br s (oneG nf g inn o s):=by
 unfold oneG;split
 ·unfold putF;split
  ·rename_i hk;exact⟨(lM T hk).2.1,.fe inn o (.refl s) hk,rfl,by rw[fitAll,hk];rfl,fun e he=>by rw[W0]at he;subst he;exact .inr rfl⟩
  ·exact Br.nil T
 ·split
  ·rename_i h0;exact hg _ _ _ T (lN T rfl h0)
  ·split
   ·rename_i hk;have g1:=iv T hk;have b1:Br s (s.step L0 (evFo s inn (nf o.title)),[evFo s inn (nf o.title)]):=⟨g1.2.1,.fo inn _ (.refl s) hk,rfl,by rw[fitAll,hk];rfl,fun e he=>by rw[W0]at he;subst he;exact .inl rfl⟩
    exact b1.app (hg (s.t1+1) o.kids _ g1.2.1 (by unfold PS.within;rw[g1.2.2.2];simp))
   ·exact hg _ _ _ T hw
theorem ia{h:Outl→PS→PS×List Ev}(hh:∀o s,s.Top2→s.within inn=true→Br s (h o s)):∀(l:List Outl) (s:PS),s.Top2→s.within inn=true→Br s (lstG h l s)
 | [],s,T,_=>Br.nil T
 |o::l,s,T,hw=>by
  have b1:=hh o s T hw;exact b1.app (ia hh l _ b1.t (jT (b1.r.gr T).1 hw))
theorem ib:∀(k:Nat) (inn:Int) (l:List Outl) (s:PS),s.Top2→s.within inn=true→Br s (brgF nf k inn l s)
 |0,_,_,_,T,_=>Br.nil T
 |k+1,inn,l,s,T,hw=>ia (fun o s T hw=>fa (ib k) T hw o) l s T hw
theorem lk{h:Outl→PS→PS×List Ev}(hh:∀o s,s.Top2→s.within inn=true→Br s (h o s))(ha:∀o s z,s.Top2→s.within inn=true→Run (h o s).1 z→h o z=(z,[])):
  ∀(l:List Outl) (s z:PS),s.Top2→s.within inn=true→Run (lstG h l s).1 z→lstG h l z=(z,[])
 | [],_,_,_,_,_=>rfl
 |o::l,s,z,T,hw,hr=>by
  have b1:=hh o s T hw;have w1:=jT (b1.r.gr T).1 hw;have b2:=ia hh l _ b1.t w1;have h1:=ha o s z T hw (b2.r.trans hr);have h2:=lk hh ha l _ z b1.t w1 hr;rw[lstG,h1];show((lstG h l z).1,[]++(lstG h l z).2)=_;rw[h2];rfl
theorem sT(hg:∀inn l s,s.Top2→s.within inn=true→Br s (g inn l s))(ha:∀inn l s z,s.Top2→s.within inn=true→Run (g inn l s).1 z→g inn l z=(z,[]))(o:Outl)(s z:PS)(T:s.Top2)(hw:s.within inn=true)(hr:Run (oneG nf g inn o s).1 z):oneG nf g inn o z=(z,[]):=by
 have Tz:=(((fa hg T hw o).r).trans hr).gr T;unfold oneG at hr ⊢;by_cases hu:o.url≠ []
 ·rw[I7 hu]at hr ⊢;unfold putF at hr ⊢;by_cases hk:s.ok L0 (evFe s inn o)=true
  ·rw[I7 hk]at hr;have g1:=lM T hk;have g2:=hr.gr g1.2.1;have hp:=g2.1.pl _ _ g1.2.2.1;rw[I0];intro h;have:=(uV h).2.2.2.2;rw[hp]at this;have h0:=T.ze;have this:s.t2+1=0:=this;omega
  ·have hk:s.ok L0 (evFe s inn o)=false:=(by simpa using hk);rw[I0 (by rw[AI T Tz.2 Tz.1 hw hk];simp)]
 ·rw[I0 hu]at hr ⊢;by_cases h0:foId s inn (nf o.title)≠0
  ·rw[I7 h0]at hr;have e:foId z inn (nf o.title)=foId s inn (nf o.title):=by
    unfold foId at h0 ⊢;cases hl:lkM s.nm (inn,nf o.title)with
    |none=>rw[hl]at h0;exact absurd rfl h0
    |some v=>rw[Tz.1.nm _ _ hl]
   rw[I7 (by rw[e];exact h0),e];exact ha _ _ s z T (lN T rfl h0) hr
  ·rw[I0 h0]at hr;have h0:foId s inn (nf o.title)=0:=Decidable.byContradiction h0;by_cases hk:s.ok L0 (evFo s inn (nf o.title))=true
   ·rw[I7 hk]at hr;have g1:=iv T hk;have w1:(s.step L0 (evFo s inn (nf o.title))).within (s.t1+1)=true:=(by unfold PS.within;rw[g1.2.2.2];simp);have b1:=hg (s.t1+1) o.kids _ g1.2.1 w1;have hr:Run (g (s.t1+1) o.kids (s.step L0 (evFo s inn (nf o.title)))).1 z:=hr;have g2:=(b1.r.trans hr).gr g1.2.1;have e:foId z inn (nf o.title)=s.t1+1:=by
     unfold foId;rw[g2.1.nm _ (s.t1+1) (by rw[g1.2.2.1,I7 rfl])];rfl
    have:=T.zo;rw[I7 (by rw[e];omega),e];exact ha _ _ _ z g1.2.1 w1 hr
   ·have hk:s.ok L0 (evFo s inn (nf o.title))=false:=(by simpa using hk);rw[I0 (by rw[hk];simp)]at hr;have b1:=hg inn o.kids s T hw;have hn:=(b1.r.trans hr).no T hw h0 hk;rw[I0 (by rw[hn.1];simp),I0 (by rw[hn.2];simp)];exact ha _ _ s z T hw hr
theorem ln:∀(k:Nat) (inn:Int) (l:List Outl) (s z:PS),s.Top2→s.within inn=true→Run (brgF nf k inn l s).1 z→brgF nf k inn l z=(z,[])
 |0,_,_,_,_,_,_,_=>rfl
 |k+1,inn,l,s,z,T,hw,hr=>lk (fun o s T hw=>fa brg_br' T hw o) (fun o s z T hw hr=>sT brg_br' (ln k) o s z T hw hr) l s z T hw hr
where brg_br' {k:Nat}:∀inn l s,s.Top2→s.within inn=true→Br s (brgF nf k inn l s):=ib k
end
def okK:Nat→List Outl→Prop
 |0,l=>l=[]
 |k+1,l=>∀o∈l,oneOk o=true∧okK k o.kids
theorem qQ:∀(f:Nat) (l:List Outl),cntN f l≤512→okK f l
 |0,l,h=>by
  rw[cntN]at h;show l=[]
  by_cases hl:l=[]
  ·exact hl
  ·rw[I0 hl]at h;omega
 |f+1,l,h=>by
  rw[cntN]at h;by_cases hl:512<l.length
  ·rw[I7 hl]at h;omega
  rw[I0 hl]at h;have key:∀(l:List Outl) (n:Nat),cntGo (cntN f) l n≤512→∀o∈l,oneOk o=true∧okK f o.kids:=by
   intro l;induction l with
   |nil=>intro n _ o ho;cases ho
   |cons x l ih=>
    intro n hn o ho;rw[cntGo]at hn;by_cases hx:oneOk x=true
    ·rw[I7 hx]at hn;by_cases h5:512<n+cntN f x.kids
     ·rw[I7 h5]at hn;omega
     ·rw[I0 h5]at hn;rcases K4.1 ho with rfl|ho
      ·exact⟨hx,qQ f _ (by omega)⟩
      ·exact ih _ hn o ho
    ·rw[I0 hx]at hn;omega
  exact key l _ h
section
variable {nf:Bs→Bs} {g:Int→List Outl→PS→PS×List Ev} {s:PS} {inn:Int}
end
variable {s z:PS}
theorem sU{α:Type}{z:α}{l:ML Int α}{k:Int}{a:α}(h:lkM l k=some a):a∈valsM z l:=by
 unfold valsM;refine J5.2 ⟨k,?_,by rw[h];rfl⟩;refine(S4 _ _).mem_iff.2 ?_;obtain⟨n,hn⟩:=cN h;exact J5.2 ⟨_,hn,rfl⟩
def fndN(l:List Fo)(inn:Int)(name:Bs):Int:=((l.find? fun f=>decide (f.inn=inn∧f.name=name)).map (·.id)).getD 0
theorem wC(T:s.Top2)(inn:Int)(name:Bs):fndN (valsM Fo.z s.fo) inn name=foId s inn name:=by
 unfold fndN foId;cases hf:(valsM Fo.z s.fo).find? fun f=>decide (f.inn=inn∧f.name=name)with
 |none=>
  cases hl:lkM s.nm (inn,name)with
  |none=>rfl
  |some k=>
   obtain⟨f,hk,hu⟩:=T.n.n1 _ _ hl;have:=W2.1 hf f (sU hk);cases hu;simp at this
 |some f=>
  have h1:=List.find?_some hf;obtain⟨k,hk⟩:=aJ (W5 hf);simp only[I4]at h1;have:=T.n.n2 k f hk;rw[h1.1,h1.2]at this;rw[this];simp only[O2,O0];exact(T.i.i1 _ _ hk).1
end Go.Av
namespace Go.Av
open Go Go.Proofs Go.RowKit
attribute [local irreducible] WP WPl WPix Sat
variable {G:Nat→Option (List AVal)}
end Go.Av
namespace Go.Av
open Go Go.Proofs Go.RowKit
attribute [local irreducible] WP WPl WPix Sat
variable (G:Nat→Option (List AVal))
def bA(s:Bs)(i:Nat):Nat:=(s.getD i 0).toNat
theorem vu(s:Bs)(i:Nat):bA s i<256:=UInt8.toNat_lt _
theorem vw{s:Bs}{i:Nat}{c:UInt8}(h:s[i]? =some c):bA s i=c.toNat:=by unfold bA;rw[P7,h];rfl
def Cls(b:Nat)(n:Nat)(r l:Int):Prop:=
 (192≤b∧b<224∧n=2∧r=b-192∧l=128)∨(224≤b∧b<240∧n=3∧r=b-224∧l=2048)∨(240≤b∧b<248∧n=4∧r=b-240∧l=65536)
def accI(s:Bs)(r:Int):Nat→Int
 |0=>r
 |i+1=>accI s r i*64+(bA s (i+1)-128)
theorem lO(s:Bs):dec s 0=Lib.decodeN s.length (bA s 0) (bA s 1) (bA s 2) (bA s 3):=by rw[eB];rfl
theorem jU(s:Bs)(h:(128≤bA s 0∧bA s 0<192)∨248≤bA s 0):dec s 0=(65533,1):=by
 rw[lO];have:=vu s 0;unfold Lib.decodeN;rw[I0 (by omega),I0 (by omega),I0 (by omega),I0 (by omega)]
theorem oc(s:Bs){n:Nat}{r l:Int}(hc:Cls (bA s 0) n r l)(h:s.length<n):dec s 0=(65533,1):=by
 rw[lO];unfold Cls at hc;unfold Lib.decodeN;rw[I0 (by omega),I0 (by omega),I0 (by omega),I0 (by omega)]
theorem qR(s:Bs){n:Nat}{r l:Int}(hc:Cls (bA s 0) n r l)(i:Nat)(h1:1≤i)(h2:i<n)(h:¬(128≤bA s i∧bA s i<192)):dec s 0=(65533,1):=by
 rw[lO];unfold Cls at hc;have:=vu s i;unfold Lib.decodeN;have hi:i=1∨i=2∨i=3:=by omega
 rcases hi with rfl|rfl|rfl<;>rw[I0 (by omega),I0 (by omega),I0 (by omega),I0 (by omega)]
theorem sV(s:Bs){n:Nat}{r l:Int}(hc:Cls (bA s 0) n r l)(hn:n≤s.length)(ht:∀i,1≤i→i<n→128≤bA s i∧bA s i<192):
  ((accI s r (n-1)<l∨1114111<accI s r (n-1)∨(55296≤accI s r (n-1)∧accI s r (n-1)≤57343))→dec s 0=(65533,1))∧
  (¬(accI s r (n-1)<l∨1114111<accI s r (n-1)∨(55296≤accI s r (n-1)∧accI s r (n-1)≤57343))→((dec s 0).1:Int)=accI s r (n-1)∧(dec s 0).2=n):=by
 rw[lO];unfold Cls at hc;rcases hc with⟨h1,h2,rfl,rfl,rfl⟩| ⟨h1,h2,rfl,rfl,rfl⟩| ⟨h1,h2,rfl,rfl,rfl⟩
 ·have t1:=ht 1 (by omega) (by omega);simp only[accI,Nat.reduceSub,Nat.reduceAdd];unfold Lib.decodeN;rw[I0 (by omega),I7 (by omega)];constructor
  ·intro h;rw[I0 (by omega)]
  ·intro h;rw[I7 (by omega)];dsimp only;refine⟨?_,rfl⟩;omega
 ·have t1:=ht 1 (by omega) (by omega);have t2:=ht 2 (by omega) (by omega);simp only[accI,Nat.reduceSub,Nat.reduceAdd];unfold Lib.decodeN;rw[I0 (by omega),I0 (by omega),I7 (by omega)];constructor
  ·intro h;rw[I0 (by omega)]
  ·intro h;rw[I7 (by omega)];dsimp only;refine⟨?_,rfl⟩;omega
 ·have t1:=ht 1 (by omega) (by omega);have t2:=ht 2 (by omega) (by omega);have t3:=ht 3 (by omega) (by omega);simp only[accI,Nat.reduceSub,Nat.reduceAdd];unfold Lib.decodeN;rw[I0 (by omega),I0 (by omega),I0 (by omega),I7 (by omega)];constructor
  ·intro h;rw[I0 (by omega)]
  ·intro h;rw[I7 (by omega)];dsimp only;refine⟨?_,rfl⟩;omega
theorem sW(b:UInt8)(h:Heap):Sat (CT G) 208 [.int .u8 b.toNat] h (fun r h'=>r=.bool (decide (128≤b.toNat∧b.toNat<192))∧h'=h):=by
 refine sb [.tmp 2] Tryz.func208 ?_;intro Q hQ;refine wk trivial ?_;(first|refine gq trivial (fun g1=>?_) (fun g1=>?_)|refine pq trivial (fun g1=>?_) (fun g1=>?_))<;>(try exact g1.elim)<;>(try refine sq trivial ?_)<;>(refine wk trivial ?_)
 ·refine ee hQ trivial ?_;refine fR (.bool _) ?_;congr 1
  rw[N3];simp;omega
 ·refine ee hQ trivial ?_;refine fR (.bool _) ?_;rw[L6 (by omega)]
theorem uX(k:IntKind)(n:Int)(h0:0≤n)(h1:n<256):aconv Tryz.prog 5 21 (.int k n)=some (.int .i32 n):=by simp only[aconv,go_sem,bp (x:=n) (by omega) (by omega)]
theorem ic(s:Bs)(hne:s≠ [])(hs:s.length≤1073741824)(h:Heap):Sat (CT G) 177 [.str s] h (fun r h'=>r=.tup [.int .i32 (dec s 0).1,.int .i64 (dec s 0).2]∧h'=h):=by
 have hpos:0<s.length:=Q1.2 hne;obtain⟨b,hb,_⟩:=ac hpos;have hbA:=vw hb;have hb256:=b.toNat_lt;have fin:∀c w:Int,((dec s 0).1:Int)=c→((dec s 0).2:Int)=w→Fin h h (fun r h'=>r=.tup [.int .i32 (dec s 0).1,.int .i64 (dec s 0).2]∧h'=h) (.tup [.int .i32 c,.int .i64 w]):=fun c w e1 e2=>by
  rw[e1,e2];exact M8 (.tup _ (by intro c hc;simp at hc;rcases hc with rfl|rfl<;>exact .int _ _)) ⟨rfl,rfl⟩
 have bad:dec s 0=(65533,1)→Fin h h (fun r h'=>r=.tup [.int .i32 (dec s 0).1,.int .i64 (dec s 0).2]∧h'=h) (.tup [.int .i32 65533,.int .i64 1]):=fun e=>fin _ _ (by rw[e];rfl) (by rw[e];rfl)
 have F:=F4 @uX @lg @bp hb;refine sb [.tmp 2,.tmp 3] Tryz.func177 ?_;intro Q hQ;(repeat (first|refine w1 (fun K hK=>?_)|refine w2 ?_|refine w3 ?_| ((first|refine w4 ?_|refine wD ?_|refine w5 ?_|refine w6 ?_|refine w7 ?_);try refine sq F ?_)| (refine w8 ?_;refine sq F ?_;refine w9 ?_)| ((first|refine hK _ _ (w0 ?_)| (clear hK K;refine hK _ _ (w0 ?_))| (clear hK K;clear hK K;refine hK _ _ (w0 ?_)));clear hK K)))
 refine cq F (fun c1=>?_) (fun c1=>?_)<;>(try exact c1.elim)<;>((repeat (first|refine w1 (fun K hK=>?_)|refine w2 ?_|refine w3 ?_| ((first|refine w4 ?_|refine wD ?_|refine w5 ?_|refine w6 ?_|refine w7 ?_);try refine sq F ?_)| (refine w8 ?_;refine sq F ?_;refine w9 ?_)| ((first|refine hK _ _ (w0 ?_)| (clear hK K;refine hK _ _ (w0 ?_))| (clear hK K;clear hK K;refine hK _ _ (w0 ?_)));clear hK K))))
 ·refine ee hQ F ?_;have e:=gY s 0 b hb (by omega);exact fin _ _ (by rw[e]) (by rw[e];rfl)
 rename_i K0 hK0;have tail:∀(t':Env) (n:Nat) (r l:Int),Cls (bA s 0) n r l→t' 0=.str s→t' 5=.int .i64 n→t' 6=.int .i32 r→t' 7=.int .i32 l→K0 t' h:=by
  intro t' n r l hc e0 e5 e6 e7;refine hK0 _ _ (I9 ?_);clear hK0 K0 hK K;have F:=F5 F e0 e5 e6 e7;(repeat (first|refine w1 (fun K hK=>?_)|refine w2 ?_|refine w3 ?_| ((first|refine w4 ?_|refine wD ?_|refine w5 ?_|refine w6 ?_|refine w7 ?_);try refine sq F ?_)| (refine w8 ?_;refine sq F ?_;refine w9 ?_)| ((first|refine hK _ _ (w0 ?_)| (clear hK K;refine hK _ _ (w0 ?_))| (clear hK K;clear hK K;refine hK _ _ (w0 ?_)));clear hK K)))
  refine cq F (fun c2=>?_) (fun c2=>?_)<;>(try exact c2.elim)<;>((repeat (first|refine w1 (fun K hK=>?_)|refine w2 ?_|refine w3 ?_| ((first|refine w4 ?_|refine wD ?_|refine w5 ?_|refine w6 ?_|refine w7 ?_);try refine sq F ?_)| (refine w8 ?_;refine sq F ?_;refine w9 ?_)| ((first|refine hK _ _ (w0 ?_)| (clear hK K;refine hK _ _ (w0 ?_))| (clear hK K;clear hK K;refine hK _ _ (w0 ?_)));clear hK K))))
  ·refine ee hQ F ?_;exact bad (oc s hc (by omega))
  have hc':=hc;unfold Cls at hc';refine lm (fun nL tL hL=>∃(i:Nat) (q:Int),n-i=nL∧h=hL∧tL 6=.int .i32 q∧tL 8=.int .i64 i∧(1≤i∧i≤n)∧q=accI s r (i-1)∧(0≤q∧(i=1→q<32)∧(i=2→q<2048)∧(i=3→q<131072)∧(i=4→q<8388608))∧(∀j,1≤j→j<i→128≤bA s j∧bA s j<192)) ((fun(i:Nat) (q:Int)=>(n-i:Nat)) (1) (r)) ?_ ?_
  ·refine I9 ⟨1,r,rfl,aw,?_,?_,⟨by omega,by omega⟩,rfl,⟨by omega,by omega,by omega,by omega,by omega⟩,fun j h1 h2=>by omega⟩;all_goals try exact zZz F
  rintro _ s1 h' ⟨i,q,rfl,rfl,e6,e8,hi,hq,hb,ht⟩ K1 hK1;simp only[ah,ao,Nat.reduceEqDiff, ↓reduceIte]at e6 e8;have F:=F3 F e6 e8;(repeat (first|refine w1 (fun K hK=>?_)|refine w2 ?_|refine w3 ?_| ((first|refine w4 ?_|refine wD ?_|refine w5 ?_|refine w6 ?_|refine w7 ?_);try refine sq F ?_)| (refine w8 ?_;refine sq F ?_;refine w9 ?_)| ((first|refine hK _ _ (w0 ?_)| (clear hK K;refine hK _ _ (w0 ?_))| (clear hK K;clear hK K;refine hK _ _ (w0 ?_)));clear hK K)))
  refine cq F (fun c3=>?_) (fun c3=>?_)<;>(try exact c3.elim)<;>((repeat (first|refine w1 (fun K hK=>?_)|refine w2 ?_|refine w3 ?_| ((first|refine w4 ?_|refine wD ?_|refine w5 ?_|refine w6 ?_|refine w7 ?_);try refine sq F ?_)| (refine w8 ?_;refine sq F ?_;refine w9 ?_)| ((first|refine hK _ _ (w0 ?_)| (clear hK K;refine hK _ _ (w0 ?_))| (clear hK K;clear hK K;refine hK _ _ (w0 ?_)));clear hK K))))
  ·obtain⟨y,hy,_⟩:=ac (show i<s.length by omega);have hyA:=vw hy;have hy256:=y.toNat_lt;have F:=F2 F hy;(try refine sq F ?_);(repeat (first|refine w1 (fun K hK=>?_)|refine w2 ?_|refine w3 ?_| ((first|refine w4 ?_|refine wD ?_|refine w5 ?_|refine w6 ?_|refine w7 ?_);try refine sq F ?_)| (refine w8 ?_;refine sq F ?_;refine w9 ?_)| ((first|refine hK _ _ (w0 ?_)| (clear hK K;refine hK _ _ (w0 ?_))| (clear hK K;clear hK K;refine hK _ _ (w0 ?_)));clear hK K)))
   refine(sW G y _).mono ?_;rintro r h' ⟨rfl,rfl⟩;(try refine sq F ?_);(repeat (first|refine w1 (fun K hK=>?_)|refine w2 ?_|refine w3 ?_| ((first|refine w4 ?_|refine wD ?_|refine w5 ?_|refine w6 ?_|refine w7 ?_);try refine sq F ?_)| (refine w8 ?_;refine sq F ?_;refine w9 ?_)| ((first|refine hK _ _ (w0 ?_)| (clear hK K;refine hK _ _ (w0 ?_))| (clear hK K;clear hK K;refine hK _ _ (w0 ?_)));clear hK K)))
   refine cq F (fun c4=>?_) (fun c4=>?_)<;>(try exact c4.elim)<;>((repeat (first|refine w1 (fun K hK=>?_)|refine w2 ?_|refine w3 ?_| ((first|refine w4 ?_|refine wD ?_|refine w5 ?_|refine w6 ?_|refine w7 ?_);try refine sq F ?_)| (refine w8 ?_;refine sq F ?_;refine w9 ?_)| ((first|refine hK _ _ (w0 ?_)| (clear hK K;refine hK _ _ (w0 ?_))| (clear hK K;clear hK K;refine hK _ _ (w0 ?_)));clear hK K))))
   ·refine ee hQ F ?_;exact bad (qR s hc i hi.1 c3 (by rw[hyA];omega))
   ·have hacc:accI s r i=accI s r (i-1)*64+(bA s i-128):=by
     obtain⟨k,rfl⟩:∃k,i=k+1:=⟨i-1,by omega⟩;rfl
    have hi4:i=1∨i=2∨i=3:=(by omega);have ht':∀j,1≤j→j<i+1→128≤bA s j∧bA s j<192:=fun j h1 h2=>by
     rcases R1 j i with h3|h3
     ·exact ht j h1 h3
     ·obtain rfl:j=i:=by omega
      rw[hyA];omega
    have hq':q*64+((y.toNat:Int)-128)=accI s r (i+1-1):=(by rw[Nat.add_sub_cancel,hacc, ← hq,hyA]);(try refine sq F ?_);(repeat (first|refine w1 (fun K hK=>?_)|refine w2 ?_|refine w3 ?_| ((first|refine w4 ?_|refine wD ?_|refine w5 ?_|refine w6 ?_|refine w7 ?_);try refine sq F ?_)| (refine w8 ?_;refine sq F ?_;refine w9 ?_)| ((first|refine hK _ _ (w0 ?_)| (clear hK K;refine hK _ _ (w0 ?_))| (clear hK K;clear hK K;refine hK _ _ (w0 ?_)));clear hK K)))
    refine hK1 _ _ _ (I9 ⟨i+1,q*64+(y.toNat-128),rfl,aw,?_,?_,⟨by omega,by omega⟩,hq',by omega,ht'⟩) (by omega);all_goals try exact zZz F
  ·have hin:i=n:=(by omega);subst hin;obtain⟨f1,f2⟩:=sV s hc (by omega) ht;rw[← hq]at f1 f2;(try refine sq F ?_);(repeat (first|refine w1 (fun K hK=>?_)|refine w2 ?_|refine w3 ?_| ((first|refine w4 ?_|refine wD ?_|refine w5 ?_|refine w6 ?_|refine w7 ?_);try refine sq F ?_)| (refine w8 ?_;refine sq F ?_;refine w9 ?_)| ((first|refine hK _ _ (w0 ?_)| (clear hK K;refine hK _ _ (w0 ?_))| (clear hK K;clear hK K;refine hK _ _ (w0 ?_)));clear hK K)))
   (first|refine gq F (fun g1=>?_) (fun g1=>?_)|refine pq F (fun g1=>?_) (fun g1=>?_))<;>(try exact g1.elim)<;>(try refine sq F ?_)<;>((repeat (first|refine w1 (fun K hK=>?_)|refine w2 ?_|refine w3 ?_| ((first|refine w4 ?_|refine wD ?_|refine w5 ?_|refine w6 ?_|refine w7 ?_);try refine sq F ?_)| (refine w8 ?_;refine sq F ?_;refine w9 ?_)| ((first|refine hK _ _ (w0 ?_)| (clear hK K;refine hK _ _ (w0 ?_))| (clear hK K;clear hK K;refine hK _ _ (w0 ?_)));clear hK K))))
   ·refine ee hQ F ?_;exact bad (f1 (by omega))
   ·(first|refine gq F (fun g2=>?_) (fun g2=>?_)|refine pq F (fun g2=>?_) (fun g2=>?_))<;>(try exact g2.elim)<;>(try refine sq F ?_)<;>((repeat (first|refine w1 (fun K hK=>?_)|refine w2 ?_|refine w3 ?_| ((first|refine w4 ?_|refine wD ?_|refine w5 ?_|refine w6 ?_|refine w7 ?_);try refine sq F ?_)| (refine w8 ?_;refine sq F ?_;refine w9 ?_)| ((first|refine hK _ _ (w0 ?_)| (clear hK K;refine hK _ _ (w0 ?_))| (clear hK K;clear hK K;refine hK _ _ (w0 ?_)));clear hK K))))
    ·refine ee hQ F ?_;exact bad (f1 (by omega))
    ·(first|refine gq F (fun g3=>?_) (fun g3=>?_)|refine pq F (fun g3=>?_) (fun g3=>?_))<;>(try exact g3.elim)<;>(try refine sq F ?_)<;>((repeat (first|refine w1 (fun K hK=>?_)|refine w2 ?_|refine w3 ?_| ((first|refine w4 ?_|refine wD ?_|refine w5 ?_|refine w6 ?_|refine w7 ?_);try refine sq F ?_)| (refine w8 ?_;refine sq F ?_;refine w9 ?_)| ((first|refine hK _ _ (w0 ?_)| (clear hK K;refine hK _ _ (w0 ?_))| (clear hK K;clear hK K;refine hK _ _ (w0 ?_)));clear hK K))))
     ·refine cq F (fun g4=>?_) (fun g4=>?_)<;>(try exact g4.elim)<;>((repeat (first|refine w1 (fun K hK=>?_)|refine w2 ?_|refine w3 ?_| ((first|refine w4 ?_|refine wD ?_|refine w5 ?_|refine w6 ?_|refine w7 ?_);try refine sq F ?_)| (refine w8 ?_;refine sq F ?_;refine w9 ?_)| ((first|refine hK _ _ (w0 ?_)| (clear hK K;refine hK _ _ (w0 ?_))| (clear hK K;clear hK K;refine hK _ _ (w0 ?_)));clear hK K))))
      ·refine ee hQ F ?_;exact bad (f1 (by omega))
      ·refine ee hQ F ?_;exact fin _ _ (f2 (by omega)).1 (by rw[(f2 (by omega)).2])
     ·refine ee hQ F ?_;exact fin _ _ (f2 (by omega)).1 (by rw[(f2 (by omega)).2])
 (first|refine gq F (fun g1=>?_) (fun g1=>?_)|refine pq F (fun g1=>?_) (fun g1=>?_))<;>(try exact g1.elim)<;>(try refine sq F ?_)<;>((repeat (first|refine w1 (fun K hK=>?_)|refine w2 ?_|refine w3 ?_| ((first|refine w4 ?_|refine wD ?_|refine w5 ?_|refine w6 ?_|refine w7 ?_);try refine sq F ?_)| (refine w8 ?_;refine sq F ?_;refine w9 ?_)| ((first|refine hK _ _ (w0 ?_)| (clear hK K;refine hK _ _ (w0 ?_))| (clear hK K;clear hK K;refine hK _ _ (w0 ?_)));clear hK K))))
 ·refine cq F (fun g2=>?_) (fun g2=>?_)<;>(try exact g2.elim)<;>((repeat (first|refine w1 (fun K hK=>?_)|refine w2 ?_|refine w3 ?_| ((first|refine w4 ?_|refine wD ?_|refine w5 ?_|refine w6 ?_|refine w7 ?_);try refine sq F ?_)| (refine w8 ?_;refine sq F ?_;refine w9 ?_)| ((first|refine hK _ _ (w0 ?_)| (clear hK K;refine hK _ _ (w0 ?_))| (clear hK K;clear hK K;refine hK _ _ (w0 ?_)));clear hK K))))
  ·refine tail _ 2 (b.toNat-192) 128 ?_ ?_ ?_ ?_ ?_
   ·unfold Cls;omega
   ·exact zq F
   ·exact zq F
   ·exact zq F
   ·exact zq F
  ·(first|refine gq F (fun g3=>?_) (fun g3=>?_)|refine pq F (fun g3=>?_) (fun g3=>?_))<;>(try exact g3.elim)<;>(try refine sq F ?_)<;>((repeat (first|refine w1 (fun K hK=>?_)|refine w2 ?_|refine w3 ?_| ((first|refine w4 ?_|refine wD ?_|refine w5 ?_|refine w6 ?_|refine w7 ?_);try refine sq F ?_)| (refine w8 ?_;refine sq F ?_;refine w9 ?_)| ((first|refine hK _ _ (w0 ?_)| (clear hK K;refine hK _ _ (w0 ?_))| (clear hK K;clear hK K;refine hK _ _ (w0 ?_)));clear hK K))))
   ·refine cq F (fun g4=>?_) (fun g4=>?_)<;>(try exact g4.elim)<;>((repeat (first|refine w1 (fun K hK=>?_)|refine w2 ?_|refine w3 ?_| ((first|refine w4 ?_|refine wD ?_|refine w5 ?_|refine w6 ?_|refine w7 ?_);try refine sq F ?_)| (refine w8 ?_;refine sq F ?_;refine w9 ?_)| ((first|refine hK _ _ (w0 ?_)| (clear hK K;refine hK _ _ (w0 ?_))| (clear hK K;clear hK K;refine hK _ _ (w0 ?_)));clear hK K))))
    ·refine tail _ 3 (b.toNat-224) 2048 ?_ ?_ ?_ ?_ ?_
     ·unfold Cls;omega
     ·exact zq F
     ·exact zq F
     ·exact zq F
     ·exact zq F
    ·(first|refine gq F (fun g5=>?_) (fun g5=>?_)|refine pq F (fun g5=>?_) (fun g5=>?_))<;>(try exact g5.elim)<;>(try refine sq F ?_)<;>((repeat (first|refine w1 (fun K hK=>?_)|refine w2 ?_|refine w3 ?_| ((first|refine w4 ?_|refine wD ?_|refine w5 ?_|refine w6 ?_|refine w7 ?_);try refine sq F ?_)| (refine w8 ?_;refine sq F ?_;refine w9 ?_)| ((first|refine hK _ _ (w0 ?_)| (clear hK K;refine hK _ _ (w0 ?_))| (clear hK K;clear hK K;refine hK _ _ (w0 ?_)));clear hK K))))
     ·refine cq F (fun g6=>?_) (fun g6=>?_)<;>(try exact g6.elim)<;>((repeat (first|refine w1 (fun K hK=>?_)|refine w2 ?_|refine w3 ?_| ((first|refine w4 ?_|refine wD ?_|refine w5 ?_|refine w6 ?_|refine w7 ?_);try refine sq F ?_)| (refine w8 ?_;refine sq F ?_;refine w9 ?_)| ((first|refine hK _ _ (w0 ?_)| (clear hK K;refine hK _ _ (w0 ?_))| (clear hK K;clear hK K;refine hK _ _ (w0 ?_)));clear hK K))))
      ·refine tail _ 4 (b.toNat-240) 65536 ?_ ?_ ?_ ?_ ?_
       ·unfold Cls;omega
       ·exact zq F
       ·exact zq F
       ·exact zq F
       ·exact zq F
      ·refine ee hQ F ?_;exact bad (jU s (by omega))
     ·exfalso;omega
   ·exfalso;omega
 ·(first|refine gq F (fun g3=>?_) (fun g3=>?_)|refine pq F (fun g3=>?_) (fun g3=>?_))<;>(try exact g3.elim)<;>(try refine sq F ?_)<;>((repeat (first|refine w1 (fun K hK=>?_)|refine w2 ?_|refine w3 ?_| ((first|refine w4 ?_|refine wD ?_|refine w5 ?_|refine w6 ?_|refine w7 ?_);try refine sq F ?_)| (refine w8 ?_;refine sq F ?_;refine w9 ?_)| ((first|refine hK _ _ (w0 ?_)| (clear hK K;refine hK _ _ (w0 ?_))| (clear hK K;clear hK K;refine hK _ _ (w0 ?_)));clear hK K))))
  ·exfalso;omega
  ·(first|refine gq F (fun g5=>?_) (fun g5=>?_)|refine pq F (fun g5=>?_) (fun g5=>?_))<;>(try exact g5.elim)<;>(try refine sq F ?_)<;>((repeat (first|refine w1 (fun K hK=>?_)|refine w2 ?_|refine w3 ?_| ((first|refine w4 ?_|refine wD ?_|refine w5 ?_|refine w6 ?_|refine w7 ?_);try refine sq F ?_)| (refine w8 ?_;refine sq F ?_;refine w9 ?_)| ((first|refine hK _ _ (w0 ?_)| (clear hK K;refine hK _ _ (w0 ?_))| (clear hK K;clear hK K;refine hK _ _ (w0 ?_)));clear hK K))))
   ·exfalso;omega
   ·refine ee hQ F ?_;exact bad (jU s (by omega))
theorem uY:∀(l:List Int),∀r∈l.map runA,∀c∈r.cells,c.sto=true:=fun l r hr c hc=>by
 obtain⟨a,_,rfl⟩:=J5.1 hr;simp[runA,AVal.cells]at hc;subst hc;rfl
theorem uZ:∀(n:Nat) (l:List Int),∀r∈l.map runA,Clo n r:=fun n l r hr=>by
 obtain⟨a,_,rfl⟩:=J5.1 hr;exact .int _ _
theorem Frz.runes{h:Heap}{n q v e:Nat}{l:List Int}{len:Nat}{room:Bool}(hq:n≤q)(hg:getRow h q v=some (e,1,l.map runA))(hlen:len=l.length):Frz h n (.hs q v 0 len room) (.sl 1 (l.map runA)):=
 W3 hq hg (by simpa using hlen) (fun r hr=>uZ _ l r hr) (fun r hr=>uY l r hr)
theorem sX(s:Bs)(hs:s.length≤1048576)(h:Heap):Sat (CT G) 174 [.str s] h (fun r h'=>r=.sl 1 ((runesF s).map runA)∧h'=h):=by
 refine sb [.tmp 2] Tryz.func174 ?_;intro Q hQ;refine wk trivial ?_;refine lm (fun nL tL hL=>∃(k v:Nat) (acc:List Int),s.length-k=nL∧h++[.row 21 1 v (acc.map runA)]=hL∧tL 0=.str (s.drop k)∧tL 3=.hs h.length v 0 acc.length true∧k≤s.length∧acc.length≤k∧acc++runesF (s.drop k)=runesF s) ((fun(k v:Nat) (acc:List Int)=>(s.length-k:Nat)) (0) (0) ([])) ?_ ?_
 ·refine⟨_,_,U9 3 21 1 (by simp) (by omega) (by exact zq trivial),⟨0,0,[],rfl,aw,?_,?_,?_,?_,?_⟩⟩;all_goals try exact zZz trivial
 rintro _ s2 h' ⟨k,v,acc,rfl,rfl,e0,e3,hk,hl,hp⟩ K2 hK2;simp only[ah,ao,Nat.reduceEqDiff, ↓reduceIte]at e0 e3;have F:=F2 e0 e3;refine wk F ?_;refine cq F (fun c1=>?_) (fun c1=>?_)<;>(try exact c1.elim)<;>(refine wk F ?_)
 ·simp only[M7]at c1;have hlt:k<s.length:=by omega
  have hp2:=aI s k hlt;rw[dU s k hlt]at hp;have hne:s.drop k≠ []:=by intro e;have:=K9 List.length e;simp at this;omega
  refine(ic G (s.drop k) hne (by simp;omega) _).mono ?_;rintro r h' ⟨rfl,rfl⟩;rw[← bj];generalize dec s k=d at*;obtain⟨c,m⟩:=d;simp only[]at hp hp2 ⊢;have hsl:m≤(s.drop k).length:=by simp;omega
  have hdd:(s.drop k).drop m=s.drop (k+m):=R3 ..;have F:=F3 F hsl hdd;try refine sq F ?_
  refine wk F ?_;refine aq F ?_;try refine sq F ?_
  refine wk F ?_;refine hK2 _ _ _ (I9 ⟨k+m,v+1,acc++[(c:Int)],rfl,aw,?_,?_,by omega,by simp;omega,by rw[← hp];simp⟩) (by omega);all_goals try exact zZz F
 ·simp only[M7]at c1;rw[db s k (by omega),M4]at hp;refine wk F ?_;refine ee hQ F ?_;rw[← hp];exact Fin.frz (Frz.runes (J0 _) (by simp[getRow];rfl) rfl) ⟨rfl,rfl⟩
theorem qS(c:Int)(h:Heap):Sat (CT G) 175 [.int .i32 c] h (fun r h'=>r=.bool (blankR c)∧h'=h):=by
 have yes:(c=9∨c=10∨c=13∨c=32∨c=160∨c=8232∨c=8233∨c=12288)→blankR c=true:=fun h=>M0 h
 have no:¬(c=9∨c=10∨c=13∨c=32∨c=160∨c=8232∨c=8233∨c=12288)→blankR c=false:=fun h=>L6 h
 refine sb [.tmp 2] Tryz.func175 ?_;intro Q hQ;refine wk trivial ?_;(first|refine gq trivial (fun g0=>?_) (fun g0=>?_)|refine pq trivial (fun g0=>?_) (fun g0=>?_))<;>(try exact g0.elim)<;>(try refine sq trivial ?_)<;>(refine wk trivial ?_)
 ·refine ee hQ trivial ?_;refine fR (.bool _) ?_;rw[yes (by omega)]
 ·(first|refine gq trivial (fun g1=>?_) (fun g1=>?_)|refine pq trivial (fun g1=>?_) (fun g1=>?_))<;>(try exact g1.elim)<;>(try refine sq trivial ?_)<;>(refine wk trivial ?_)
  ·refine ee hQ trivial ?_;refine fR (.bool _) ?_;rw[yes (by omega)]
  ·(first|refine gq trivial (fun g2=>?_) (fun g2=>?_)|refine pq trivial (fun g2=>?_) (fun g2=>?_))<;>(try exact g2.elim)<;>(try refine sq trivial ?_)<;>(refine wk trivial ?_)
   ·refine ee hQ trivial ?_;refine fR (.bool _) ?_;rw[yes (by omega)]
   ·(first|refine gq trivial (fun g3=>?_) (fun g3=>?_)|refine pq trivial (fun g3=>?_) (fun g3=>?_))<;>(try exact g3.elim)<;>(try refine sq trivial ?_)<;>(refine wk trivial ?_)
    ·refine ee hQ trivial ?_;refine fR (.bool _) ?_;rw[yes (by omega)]
    ·(first|refine gq trivial (fun g4=>?_) (fun g4=>?_)|refine pq trivial (fun g4=>?_) (fun g4=>?_))<;>(try exact g4.elim)<;>(try refine sq trivial ?_)<;>(refine wk trivial ?_)
     ·refine ee hQ trivial ?_;refine fR (.bool _) ?_;rw[yes (by omega)]
     ·(first|refine gq trivial (fun g5=>?_) (fun g5=>?_)|refine pq trivial (fun g5=>?_) (fun g5=>?_))<;>(try exact g5.elim)<;>(try refine sq trivial ?_)<;>(refine wk trivial ?_)
      ·refine ee hQ trivial ?_;refine fR (.bool _) ?_;rw[yes (by omega)]
      ·(first|refine gq trivial (fun g6=>?_) (fun g6=>?_)|refine pq trivial (fun g6=>?_) (fun g6=>?_))<;>(try exact g6.elim)<;>(try refine sq trivial ?_)<;>(refine wk trivial ?_)
       ·refine ee hQ trivial ?_;refine fR (.bool _) ?_;rw[yes (by omega)]
       ·refine ee hQ trivial ?_;refine fR (.bool _) ?_;congr 1
        rw[N3];by_cases h8:c=12288
        ·rw[yes (by omega)];simp[h8]
        ·rw[no (by omega)];simp[h8]
theorem v6(s:Bs)(n:Nat)(hs:s.length≤1048576)(hn:n≤1048576)(h:Heap):Sat (CT G) 136 [.str s,.int .i64 n] h (fun r h'=>r=.str (cutF s n)∧h'=h):=by
 refine sb [.tmp 4] Tryz.func136 ?_;intro Q hQ;(repeat (first|refine w1 (fun K hK=>?_)|refine w2 ?_|refine w3 ?_| ((first|refine w4 ?_|refine wD ?_|refine w5 ?_|refine w6 ?_|refine w7 ?_);try refine sq trivial ?_)| (refine w8 ?_;refine sq trivial ?_;refine w9 ?_)| ((first|refine hK _ _ (w0 ?_)| (clear hK K;refine hK _ _ (w0 ?_))| (clear hK K;clear hK K;refine hK _ _ (w0 ?_)));clear hK K)))
 have tail:∀(t':Env) (k:Nat),t' 0=.str s→t' 5=.int .i64 k→k≤s.length→k=cutN s.length s n→K t' h:=by
  intro t' k e0 e5 hk hx;refine hK _ _ (I9 ?_);clear hK K;have F:=F2 e0 e5;(repeat (first|refine w1 (fun K hK=>?_)|refine w2 ?_|refine w3 ?_| ((first|refine w4 ?_|refine wD ?_|refine w5 ?_|refine w6 ?_|refine w7 ?_);try refine sq F ?_)| (refine w8 ?_;refine sq F ?_;refine w9 ?_)| ((first|refine hK _ _ (w0 ?_)| (clear hK K;refine hK _ _ (w0 ?_))| (clear hK K;clear hK K;refine hK _ _ (w0 ?_)));clear hK K)))
  refine ee hQ F ?_;refine fR (.str _) ?_;unfold cutF;rw[← hx]
 refine lm (fun nL tL hL=>∃(k:Nat),s.length-k=nL∧h=hL∧tL 5=.int .i64 k∧(k≤s.length∧k≤n)∧k+cutA s k (n-k)=cutN s.length s n) ((fun(k:Nat)=>(s.length-k:Nat)) (0)) ?_ ?_
 ·refine I9 ⟨0,rfl,aw,?_,⟨by omega,by omega⟩,by unfold cutA;simp⟩;all_goals try exact zZz trivial
 rintro _ s2 h' ⟨k,rfl,rfl,e5,hk,hc⟩ K2 hK2;simp only[ah,ao,Nat.reduceEqDiff, ↓reduceIte]at e5;have F:=e5;(repeat (first|refine w1 (fun K hK=>?_)|refine w2 ?_|refine w3 ?_| ((first|refine w4 ?_|refine wD ?_|refine w5 ?_|refine w6 ?_|refine w7 ?_);try refine sq F ?_)| (refine w8 ?_;refine sq F ?_;refine w9 ?_)| ((first|refine hK _ _ (w0 ?_)| (clear hK K;refine hK _ _ (w0 ?_))| (clear hK K;clear hK K;refine hK _ _ (w0 ?_)));clear hK K)))
 refine cq F (fun c1=>?_) (fun c1=>?_)<;>(try exact c1.elim)<;>((repeat (first|refine w1 (fun K hK=>?_)|refine w2 ?_|refine w3 ?_| ((first|refine w4 ?_|refine wD ?_|refine w5 ?_|refine w6 ?_|refine w7 ?_);try refine sq F ?_)| (refine w8 ?_;refine sq F ?_;refine w9 ?_)| ((first|refine hK _ _ (w0 ?_)| (clear hK K;refine hK _ _ (w0 ?_))| (clear hK K;clear hK K;refine hK _ _ (w0 ?_)));clear hK K))))
 ·have hp2:=aI s k c1;have hca:=ij s k (n-k) c1;have hne:s.drop k≠ []:=by intro e;have:=K9 List.length e;simp at this;omega
  refine(ic G (s.drop k) hne (by simp;omega) _).mono ?_;rintro r h' ⟨rfl,rfl⟩;rw[← bj];generalize dec s k=d at*;obtain⟨c,m⟩:=d;simp only[]at hp2 hca ⊢;rw[hca]at hc;try refine sq F ?_
  (repeat (first|refine w1 (fun K hK=>?_)|refine w2 ?_|refine w3 ?_| ((first|refine w4 ?_|refine wD ?_|refine w5 ?_|refine w6 ?_|refine w7 ?_);try refine sq F ?_)| (refine w8 ?_;refine sq F ?_;refine w9 ?_)| ((first|refine hK _ _ (w0 ?_)| (clear hK K;refine hK _ _ (w0 ?_))| (clear hK K;clear hK K;refine hK _ _ (w0 ?_)));clear hK K)))
  refine cq F (fun c2=>?_) (fun c2=>?_)<;>(try exact c2.elim)<;>((repeat (first|refine w1 (fun K hK=>?_)|refine w2 ?_|refine w3 ?_| ((first|refine w4 ?_|refine wD ?_|refine w5 ?_|refine w6 ?_|refine w7 ?_);try refine sq F ?_)| (refine w8 ?_;refine sq F ?_;refine w9 ?_)| ((first|refine hK _ _ (w0 ?_)| (clear hK K;refine hK _ _ (w0 ?_))| (clear hK K;clear hK K;refine hK _ _ (w0 ?_)));clear hK K))))
  ·rw[I7 (by omega)]at hc;refine tail _ k ?_ ?_ hk.1 (by omega)
   ·exact zq F
   ·exact zq F
  ·rw[I0 (by omega)]at hc;refine hK2 _ _ _ (I9 ⟨k+m,rfl,aw,?_,⟨by omega,by omega⟩,by rw[← hc,show n-(k+m)=n-k-m by omega];omega⟩) (by omega);all_goals try exact zZz F
 ·rw[eQ s k (n-k) (by omega)]at hc;refine tail _ k ?_ ?_ hk.1 (by omega)
  ·exact zq F
  ·exact zq F
theorem qT(s:Bs)(hs:s.length≤1048576)(h:Heap):Sat (CT G) 146 [.str s] h (fun r h'=>r=.bool (rightS s)∧h'=h):=by
 refine sb [.tmp 2] Tryz.func146 ?_;intro Q hQ;refine wk trivial ?_;refine lm (fun nL tL hL=>∃(k:Nat),s.length-k=nL∧h=hL∧tL 0=.str (s.drop k)∧k≤s.length∧rightS (s.drop k)=rightS s) ((fun(k:Nat)=>(s.length-k:Nat)) (0)) ?_ ?_
 ·refine I9 ⟨0,rfl,aw,?_,by omega,rfl⟩;all_goals try exact zZz trivial
 rintro _ s2 h' ⟨k,rfl,rfl,e0,hk,hc⟩ K2 hK2;simp only[ah,ao,Nat.reduceEqDiff, ↓reduceIte]at e0;have F:=e0;refine wk F ?_;refine cq F (fun c1=>?_) (fun c1=>?_)<;>(try exact c1.elim)<;>(refine wk F ?_)
 ·simp only[M7]at c1;have hlt:k<s.length:=by omega
  have hp2:=aI s k hlt;have hca:=gZ s k hlt;have hne:s.drop k≠ []:=by intro e;have:=K9 List.length e;simp at this;omega
  rw[hc]at hca;refine(ic G (s.drop k) hne (by simp;omega) _).mono ?_;rintro r h' ⟨rfl,rfl⟩;rw[← bj];generalize dec s k=d at*;obtain⟨c,m⟩:=d;simp only[]at hp2 hca ⊢;have hsl:m≤(s.drop k).length:=by simp;omega
  have hdd:(s.drop k).drop m=s.drop (k+m):=R3 ..;have F:=F3 F hsl hdd;try refine sq F ?_
  refine wk F ?_;(first|refine gq F (fun g1=>?_) (fun g1=>?_)|refine pq F (fun g1=>?_) (fun g1=>?_))<;>(try exact g1.elim)<;>(try refine sq F ?_)<;>(refine wk F ?_)
  ·refine cq F (fun g2=>?_) (fun g2=>?_)<;>(try exact g2.elim)<;>(refine wk F ?_)
   ·refine ee hQ F ?_;refine fR (.bool _) ?_;rw[hca,I7 (by omega)]
   ·refine hK2 _ _ _ (I9 ⟨k+m,rfl,aw,?_,by omega,by rw[hca,I0 (by omega)]⟩) (by omega);all_goals try exact zZz F
  ·refine hK2 _ _ _ (I9 ⟨k+m,rfl,aw,?_,by omega,by rw[hca,I0 (by omega)]⟩) (by omega);all_goals try exact zZz F
 ·simp only[M7]at c1;rw[Q2 (by omega)]at hc;refine wk F ?_;refine ee hQ F ?_;refine fR (.bool _) ?_;rw[← hc];rfl
theorem gz(s:Bs)(hs:s.length≤100000)(h:Heap):Sat (CT G) 135 [.str s] h (fun r h'=>r=.str (cleanF s)∧h'=h):=by
 have hll:=bM s.length s (J0 _);have hrl:=cD s.length s (J0 _);have hcl:=dV (runesF s) [] false hrl (by simp);have hdef:clnR (runesF s) [] false=cleanR s:=rfl;have hcf:encs (cleanR s)=cleanF s:=rfl;refine sb [.tmp 2] Tryz.func135 ?_;intro Q hQ;(repeat (first|refine w1 (fun K hK=>?_)|refine w2 ?_|refine w3 ?_| ((first|refine w4 ?_|refine wD ?_|refine w5 ?_|refine w6 ?_|refine w7 ?_);try refine sq trivial ?_)| (refine w8 ?_;refine sq trivial ?_;refine w9 ?_)| (refine rq trivial ?_;try refine sq trivial ?_)| (refine vq trivial ?_;try refine sq trivial ?_)| ((first|refine hK _ _ (w0 ?_)| (clear hK K;refine hK _ _ (w0 ?_))| (clear hK K;clear hK K;refine hK _ _ (w0 ?_)));clear hK K)))
 refine(sX G s (by omega) _).mono ?_;rintro r h' ⟨rfl,hk_⟩;replace hk_:=hk_.symm;subst hk_;try refine sq trivial ?_
 (repeat (first|refine w1 (fun K hK=>?_)|refine w2 ?_|refine w3 ?_| ((first|refine w4 ?_|refine wD ?_|refine w5 ?_|refine w6 ?_|refine w7 ?_);try refine sq trivial ?_)| (refine w8 ?_;refine sq trivial ?_;refine w9 ?_)| (refine rq trivial ?_;try refine sq trivial ?_)| (refine vq trivial ?_;try refine sq trivial ?_)| ((first|refine hK _ _ (w0 ?_)| (clear hK K;refine hK _ _ (w0 ?_))| (clear hK K;clear hK K;refine hK _ _ (w0 ?_)));clear hK K)))
 generalize runesF s=l at*;have hlm:(l.map runA).length=l.length:=I5 ..;have F:=hlm;refine lm (fun nL tL hL=>∃(k v:Nat) (acc:List Int) (w:Bool),l.length-k=nL∧h++[.row 21 1 v (acc.map runA)]=hL∧tL 4=.hs h.length v 0 acc.length true∧tL 5=.bool w∧tL 6=.int .i64 k∧k≤l.length∧clnR (l.drop k) acc w=cleanR s∧acc.length≤2*k) ((fun(k v:Nat) (acc:List Int) (w:Bool)=>(l.length-k:Nat)) (0) (0) ([]) (false)) ?_ ?_
 ·refine⟨_,_,U9 4 21 1 (by simp) (by omega) (by exact zq F),⟨0,0,[],false,rfl,aw,?_,?_,?_,by omega,hdef,by simp⟩⟩;all_goals try exact zZz F
 rintro _ s2 h' ⟨k,v,acc,w,rfl,rfl,e4,e5,e6,hk,hv,hl⟩ K2 hK2;simp only[ah,ao,Nat.reduceEqDiff, ↓reduceIte]at e4 e5 e6;have F:=F4 F e4 e5 e6;(repeat (first|refine w1 (fun K hK=>?_)|refine w2 ?_|refine w3 ?_| ((first|refine w4 ?_|refine wD ?_|refine w5 ?_|refine w6 ?_|refine w7 ?_);try refine sq F ?_)| (refine w8 ?_;refine sq F ?_;refine w9 ?_)| (refine rq F ?_;try refine sq F ?_)| (refine vq F ?_;try refine sq F ?_)| ((first|refine hK _ _ (w0 ?_)| (clear hK K;refine hK _ _ (w0 ?_))| (clear hK K;clear hK K;refine hK _ _ (w0 ?_)));clear hK K)))
 refine cq F (fun c1=>?_) (fun c1=>?_)<;>(try exact c1.elim)
 ·obtain⟨y,hy,hym⟩:=ac c1;have hyl:(l.map runA)[k]? =some (.int .i32 y):=by rw[J8,hy];rfl
  rw[aA hy,clnR]at hv;have F:=F2 F hyl;(repeat (first|refine w1 (fun K hK=>?_)|refine w2 ?_|refine w3 ?_| ((first|refine w4 ?_|refine wD ?_|refine w5 ?_|refine w6 ?_|refine w7 ?_);try refine sq F ?_)| (refine w8 ?_;refine sq F ?_;refine w9 ?_)| (refine rq F ?_;try refine sq F ?_)| (refine vq F ?_;try refine sq F ?_)| ((first|refine hK _ _ (w0 ?_)| (clear hK K;refine hK _ _ (w0 ?_))| (clear hK K;clear hK K;refine hK _ _ (w0 ?_)));clear hK K)))
  refine(qS G y _).mono ?_;rintro r h' ⟨rfl,rfl⟩;try refine sq F ?_
  (repeat (first|refine w1 (fun K hK=>?_)|refine w2 ?_|refine w3 ?_| ((first|refine w4 ?_|refine wD ?_|refine w5 ?_|refine w6 ?_|refine w7 ?_);try refine sq F ?_)| (refine w8 ?_;refine sq F ?_;refine w9 ?_)| (refine rq F ?_;try refine sq F ?_)| (refine vq F ?_;try refine sq F ?_)| ((first|refine hK _ _ (w0 ?_)| (clear hK K;refine hK _ _ (w0 ?_))| (clear hK K;clear hK K;refine hK _ _ (w0 ?_)));clear hK K)))
  have ho:decide ((acc.length:Int)>0)=decide (0<acc.length):=by
   rw[N3];simp only[I4];omega
  refine cq F (fun c2=>?_) (fun c2=>?_)<;>(try exact c2.elim)<;>((repeat (first|refine w1 (fun K hK=>?_)|refine w2 ?_|refine w3 ?_| ((first|refine w4 ?_|refine wD ?_|refine w5 ?_|refine w6 ?_|refine w7 ?_);try refine sq F ?_)| (refine w8 ?_;refine sq F ?_;refine w9 ?_)| (refine rq F ?_;try refine sq F ?_)| (refine vq F ?_;try refine sq F ?_)| ((first|refine hK _ _ (w0 ?_)| (clear hK K;refine hK _ _ (w0 ?_))| (clear hK K;clear hK K;refine hK _ _ (w0 ?_)));clear hK K))))
  ·rw[I7 c2]at hv;have F:=F2 F ho;(try refine sq F ?_);refine hK2 _ _ _ (I9 ⟨k+1,v,acc,decide (0<acc.length),rfl,aw,?_,?_,?_,by omega,hv,by omega⟩) (by omega);all_goals try exact zZz F
  ·rw[I0 (by simp[c2])]at hv;have yes:(y<32∨(127≤y∧y≤159))→ctlR y=true:=fun h=>M0 h
   have no:¬(y<32∨(127≤y∧y≤159))→ctlR y=false:=fun h=>L6 h
   (first|refine gq F (fun g1=>?_) (fun g1=>?_)|refine pq F (fun g1=>?_) (fun g1=>?_))<;>(try exact g1.elim)<;>(try refine sq F ?_)<;>((repeat (first|refine w1 (fun K hK=>?_)|refine w2 ?_|refine w3 ?_| ((first|refine w4 ?_|refine wD ?_|refine w5 ?_|refine w6 ?_|refine w7 ?_);try refine sq F ?_)| (refine w8 ?_;refine sq F ?_;refine w9 ?_)| (refine rq F ?_;try refine sq F ?_)| (refine vq F ?_;try refine sq F ?_)| ((first|refine hK _ _ (w0 ?_)| (clear hK K;refine hK _ _ (w0 ?_))| (clear hK K;clear hK K;refine hK _ _ (w0 ?_)));clear hK K))))
   ·rw[I7 (yes (by omega))]at hv;refine hK2 _ _ _ (I9 ⟨k+1,v,acc,w,rfl,aw,?_,?_,?_,by omega,hv,by omega⟩) (by omega);all_goals try exact zZz F
   ·(first|refine gq F (fun g2=>?_) (fun g2=>?_)|refine pq F (fun g2=>?_) (fun g2=>?_))<;>(try exact g2.elim)<;>(try refine sq F ?_)<;>((repeat (first|refine w1 (fun K hK=>?_)|refine w2 ?_|refine w3 ?_| ((first|refine w4 ?_|refine wD ?_|refine w5 ?_|refine w6 ?_|refine w7 ?_);try refine sq F ?_)| (refine w8 ?_;refine sq F ?_;refine w9 ?_)| (refine rq F ?_;try refine sq F ?_)| (refine vq F ?_;try refine sq F ?_)| ((first|refine hK _ _ (w0 ?_)| (clear hK K;refine hK _ _ (w0 ?_))| (clear hK K;clear hK K;refine hK _ _ (w0 ?_)));clear hK K))))
    ·refine cq F (fun g3=>?_) (fun g3=>?_)<;>(try exact g3.elim)<;>((repeat (first|refine w1 (fun K hK=>?_)|refine w2 ?_|refine w3 ?_| ((first|refine w4 ?_|refine wD ?_|refine w5 ?_|refine w6 ?_|refine w7 ?_);try refine sq F ?_)| (refine w8 ?_;refine sq F ?_;refine w9 ?_)| (refine rq F ?_;try refine sq F ?_)| (refine vq F ?_;try refine sq F ?_)| ((first|refine hK _ _ (w0 ?_)| (clear hK K;refine hK _ _ (w0 ?_))| (clear hK K;clear hK K;refine hK _ _ (w0 ?_)));clear hK K))))
     ·rw[I7 (yes (by omega))]at hv;refine hK2 _ _ _ (I9 ⟨k+1,v,acc,w,rfl,aw,?_,?_,?_,by omega,hv,by omega⟩) (by omega);all_goals try exact zZz F
     ·rw[I0 (by rw[no (by omega)];simp)]at hv;refine cq F (fun c3=>?_) (fun c3=>?_)<;>(try exact c3.elim)<;>((repeat (first|refine w1 (fun K hK=>?_)|refine w2 ?_|refine w3 ?_| ((first|refine w4 ?_|refine wD ?_|refine w5 ?_|refine w6 ?_|refine w7 ?_);try refine sq F ?_)| (refine w8 ?_;refine sq F ?_;refine w9 ?_)| (refine rq F ?_;try refine sq F ?_)| (refine vq F ?_;try refine sq F ?_)| ((first|refine hK _ _ (w0 ?_)| (clear hK K;refine hK _ _ (w0 ?_))| (clear hK K;clear hK K;refine hK _ _ (w0 ?_)));clear hK K))))
      ·rw[I7 c3]at hv;refine aq F ?_;(try refine sq F ?_);(repeat (first|refine w1 (fun K hK=>?_)|refine w2 ?_|refine w3 ?_| ((first|refine w4 ?_|refine wD ?_|refine w5 ?_|refine w6 ?_|refine w7 ?_);try refine sq F ?_)| (refine w8 ?_;refine sq F ?_;refine w9 ?_)| (refine rq F ?_;try refine sq F ?_)| (refine vq F ?_;try refine sq F ?_)| ((first|refine hK _ _ (w0 ?_)| (clear hK K;refine hK _ _ (w0 ?_))| (clear hK K;clear hK K;refine hK _ _ (w0 ?_)));clear hK K)))
       refine aq F ?_;(try refine sq F ?_);(repeat (first|refine w1 (fun K hK=>?_)|refine w2 ?_|refine w3 ?_| ((first|refine w4 ?_|refine wD ?_|refine w5 ?_|refine w6 ?_|refine w7 ?_);try refine sq F ?_)| (refine w8 ?_;refine sq F ?_;refine w9 ?_)| (refine rq F ?_;try refine sq F ?_)| (refine vq F ?_;try refine sq F ?_)| ((first|refine hK _ _ (w0 ?_)| (clear hK K;refine hK _ _ (w0 ?_))| (clear hK K;clear hK K;refine hK _ _ (w0 ?_)));clear hK K)))
       refine hK2 _ _ _ (I9 ⟨k+1,v+1+1,acc++[32,y],false,rfl,by simp[runA],?_,?_,?_,by omega,hv,by simp;omega⟩) (by omega);all_goals try exact zZz F
      ·rw[I0 (by simp[c3])]at hv;refine aq F ?_;(try refine sq F ?_);(repeat (first|refine w1 (fun K hK=>?_)|refine w2 ?_|refine w3 ?_| ((first|refine w4 ?_|refine wD ?_|refine w5 ?_|refine w6 ?_|refine w7 ?_);try refine sq F ?_)| (refine w8 ?_;refine sq F ?_;refine w9 ?_)| (refine rq F ?_;try refine sq F ?_)| (refine vq F ?_;try refine sq F ?_)| ((first|refine hK _ _ (w0 ?_)| (clear hK K;refine hK _ _ (w0 ?_))| (clear hK K;clear hK K;refine hK _ _ (w0 ?_)));clear hK K)))
       refine hK2 _ _ _ (I9 ⟨k+1,v+1,acc++[y],w,rfl,by simp[runA],?_,?_,?_,by omega,by rw[c3];exact hv,by simp;omega⟩) (by omega);all_goals try exact zZz F
    ·rw[I0 (by rw[no (by omega)];simp)]at hv;refine cq F (fun c3=>?_) (fun c3=>?_)<;>(try exact c3.elim)<;>((repeat (first|refine w1 (fun K hK=>?_)|refine w2 ?_|refine w3 ?_| ((first|refine w4 ?_|refine wD ?_|refine w5 ?_|refine w6 ?_|refine w7 ?_);try refine sq F ?_)| (refine w8 ?_;refine sq F ?_;refine w9 ?_)| (refine rq F ?_;try refine sq F ?_)| (refine vq F ?_;try refine sq F ?_)| ((first|refine hK _ _ (w0 ?_)| (clear hK K;refine hK _ _ (w0 ?_))| (clear hK K;clear hK K;refine hK _ _ (w0 ?_)));clear hK K))))
     ·rw[I7 c3]at hv;refine aq F ?_;(try refine sq F ?_);(repeat (first|refine w1 (fun K hK=>?_)|refine w2 ?_|refine w3 ?_| ((first|refine w4 ?_|refine wD ?_|refine w5 ?_|refine w6 ?_|refine w7 ?_);try refine sq F ?_)| (refine w8 ?_;refine sq F ?_;refine w9 ?_)| (refine rq F ?_;try refine sq F ?_)| (refine vq F ?_;try refine sq F ?_)| ((first|refine hK _ _ (w0 ?_)| (clear hK K;refine hK _ _ (w0 ?_))| (clear hK K;clear hK K;refine hK _ _ (w0 ?_)));clear hK K)))
      refine aq F ?_;(try refine sq F ?_);(repeat (first|refine w1 (fun K hK=>?_)|refine w2 ?_|refine w3 ?_| ((first|refine w4 ?_|refine wD ?_|refine w5 ?_|refine w6 ?_|refine w7 ?_);try refine sq F ?_)| (refine w8 ?_;refine sq F ?_;refine w9 ?_)| (refine rq F ?_;try refine sq F ?_)| (refine vq F ?_;try refine sq F ?_)| ((first|refine hK _ _ (w0 ?_)| (clear hK K;refine hK _ _ (w0 ?_))| (clear hK K;clear hK K;refine hK _ _ (w0 ?_)));clear hK K)))
      refine hK2 _ _ _ (I9 ⟨k+1,v+1+1,acc++[32,y],false,rfl,by simp[runA],?_,?_,?_,by omega,hv,by simp;omega⟩) (by omega);all_goals try exact zZz F
     ·rw[I0 (by simp[c3])]at hv;refine aq F ?_;(try refine sq F ?_);(repeat (first|refine w1 (fun K hK=>?_)|refine w2 ?_|refine w3 ?_| ((first|refine w4 ?_|refine wD ?_|refine w5 ?_|refine w6 ?_|refine w7 ?_);try refine sq F ?_)| (refine w8 ?_;refine sq F ?_;refine w9 ?_)| (refine rq F ?_;try refine sq F ?_)| (refine vq F ?_;try refine sq F ?_)| ((first|refine hK _ _ (w0 ?_)| (clear hK K;refine hK _ _ (w0 ?_))| (clear hK K;clear hK K;refine hK _ _ (w0 ?_)));clear hK K)))
      refine hK2 _ _ _ (I9 ⟨k+1,v+1,acc++[y],w,rfl,by simp[runA],?_,?_,?_,by omega,by rw[c3];exact hv,by simp;omega⟩) (by omega);all_goals try exact zZz F
 ·rw[aE c1,clnR]at hv;(repeat (first|refine w1 (fun K hK=>?_)|refine w2 ?_|refine w3 ?_| ((first|refine w4 ?_|refine wD ?_|refine w5 ?_|refine w6 ?_|refine w7 ?_);try refine sq F ?_)| (refine w8 ?_;refine sq F ?_;refine w9 ?_)| (refine rq F ?_;try refine sq F ?_)| (refine vq F ?_;try refine sq F ?_)))
  have hg:getRow (h++[.row 21 1 v (acc.map runA)]) h.length v=some (21,1,acc.map runA):=by simp[getRow]
  have ht:∀(ms:List Nat) (t:Env),4∈ms→t 4=.hs h.length v 0 acc.length true→∀i,upd t 4 (.sl 1 (acc.map runA)) i=t i∨(i∈ms∧Fz (h++[.row 21 1 v (acc.map runA)]) h.length v (t i) (upd t 4 (.sl 1 (acc.map runA)) i)):=fun ms t hm ht i=>by
   by_cases hi:i=4
   ·subst hi;right;refine⟨hm,?_⟩;rw[ht];simp only[upd, ↓reduceIte];exact Fz.all _ _ _ hg rfl (by simp)
   ·left;simp only[upd];rw[I0 hi]
  clear hK K;refine hK _ _ ⟨_,_,Weak.fz h.length v hg (ht _ _ (by decide+kernel) (by exact zq F)),?_⟩;clear hK K;have hset:(h++[Blk.row 21 1 v (acc.map runA)]).set h.length Blk.dead=h++[Blk.dead]:=by simp
  rw[hset];(repeat (first|refine w1 (fun K hK=>?_)|refine w2 ?_|refine w3 ?_| ((first|refine w4 ?_|refine wD ?_|refine w5 ?_|refine w6 ?_|refine w7 ?_);try refine sq F ?_)| (refine w8 ?_;refine sq F ?_;refine w9 ?_)| (refine rq F ?_;try refine sq F ?_)| (refine vq F ?_;try refine sq F ?_)| ((first|refine hK _ _ (w0 ?_)| (clear hK K;refine hK _ _ (w0 ?_))| (clear hK K;clear hK K;refine hK _ _ (w0 ?_)));clear hK K)))
  refine(vV G acc (fun r hr=>hcl r (by rw[hdef, ← hv];exact hr)) (by omega) _).mono ?_;rintro r h' ⟨rfl,rfl⟩;try refine sq F ?_
  (repeat (first|refine w1 (fun K hK=>?_)|refine w2 ?_|refine w3 ?_| ((first|refine w4 ?_|refine wD ?_|refine w5 ?_|refine w6 ?_|refine w7 ?_);try refine sq F ?_)| (refine w8 ?_;refine sq F ?_;refine w9 ?_)| (refine rq F ?_;try refine sq F ?_)| (refine vq F ?_;try refine sq F ?_)| ((first|refine hK _ _ (w0 ?_)| (clear hK K;refine hK _ _ (w0 ?_))| (clear hK K;clear hK K;refine hK _ _ (w0 ?_)));clear hK K)))
  refine ee hQ F ?_;refine fR (.str _) ?_;rw[hv];exact K9 AVal.str hcf
theorem nh(s:Bs)(n:Nat)(hs:s.length≤100000)(hn:n≤1000)(h:Heap):Sat (CT G) 98 [.str s,.int .i64 n] h (fun r h'=>r=.str (shortF s n)∧h'=h):=by
 have h1:=jz s;have h2:=(nc (cleanF s) n).1;refine sb [.tmp 4] Tryz.func98 ?_;intro Q hQ;refine wk trivial ?_;refine kq trivial (gz G s (by omega) _) ?_;refine kq trivial (v6 G (cleanF s) n (by omega) (by omega) _) ?_;refine kq trivial (gz G (cutF (cleanF s) n) (by omega) _) ?_;refine ee hQ trivial ?_;refine fR (.str _) ?_;rfl
theorem jV(s:Bs)(m:Nat)(hs:s.length≤100000)(h:Heap):Sat (CT G) 147 [.str s,.int .i64 m] h (fun r h'=>r=.bool (textO s m)∧h'=h):=by
 refine sb [.tmp 4] Tryz.func147 ?_;intro Q hQ;refine wk trivial ?_;(first|refine gq trivial (fun g1=>?_) (fun g1=>?_)|refine pq trivial (fun g1=>?_) (fun g1=>?_))<;>(try exact g1.elim)<;>(try refine sq trivial ?_)<;>(refine wk trivial ?_)
 ·refine kq trivial (jA G s (by omega) _) ?_;(first|refine gq trivial (fun g2=>?_) (fun g2=>?_)|refine pq trivial (fun g2=>?_) (fun g2=>?_))<;>(try exact g2.elim)<;>(try refine sq trivial ?_)<;>(refine wk trivial ?_)
  ·refine kq trivial (eD G s (by omega) _) ?_;refine ee hQ trivial ?_;refine fR (.bool _) ?_;unfold textO;rw[M0 (show s.length≤m by omega),g2,P0,P0];congr 1
   rw[N3];simp
  ·refine ee hQ trivial ?_;refine fR (.bool _) ?_;unfold textO;rw[g2];simp
 ·refine ee hQ trivial ?_;refine fR (.bool _) ?_;unfold textO;rw[L6 (show ¬s.length≤m by omega)];simp
theorem jW(s:Bs)(m:Nat)(hs:s.length≤100000)(h:Heap):Sat (CT G) 108 [.str s,.int .i64 m] h (fun r h'=>r=.bool (textO s m)∧h'=h):=by
 refine sb [.tmp 4] Tryz.func108 ?_;intro Q hQ;refine wk trivial ?_;(first|refine gq trivial (fun g1=>?_) (fun g1=>?_)|refine pq trivial (fun g1=>?_) (fun g1=>?_))<;>(try exact g1.elim)<;>(try refine sq trivial ?_)<;>(refine wk trivial ?_)
 ·refine kq trivial (qT G s (by omega) _) ?_;(first|refine gq trivial (fun g2=>?_) (fun g2=>?_)|refine pq trivial (fun g2=>?_) (fun g2=>?_))<;>(try exact g2.elim)<;>(try refine sq trivial ?_)<;>(refine wk trivial ?_)
  ·refine kq trivial (gz G s (by omega) _) ?_;refine ee hQ trivial ?_;refine fR (.bool _) ?_;unfold textO;rw[M0 (show s.length≤m by omega),g2,P0,P0];congr 1
   rw[N3];simp
  ·refine ee hQ trivial ?_;refine fR (.bool _) ?_;unfold textO;rw[g2];simp
 ·refine ee hQ trivial ?_;refine fR (.bool _) ?_;unfold textO;rw[L6 (show ¬s.length≤m by omega)];simp
theorem sY(o:Outl)(ht:o.title.length≤100000)(hu:o.url.length≤100000)(h:Heap):Sat (CT G) 109 [o.av] h (fun r h'=>r=.bool (oneOk o)∧h'=h):=by
 have hkl:o.kids.length=0↔o.kids=[]:=O1;refine sb [.tmp 2] Tryz.func109 ?_;intro Q hQ;refine wk trivial ?_;(first|refine gq trivial (fun g1=>?_) (fun g1=>?_)|refine pq trivial (fun g1=>?_) (fun g1=>?_))<;>(try exact g1.elim)<;>(try refine sq trivial ?_)<;>(refine wk trivial ?_)
 ·refine kq trivial (jV G o.title 256 (by omega) _) ?_;(first|refine gq trivial (fun g2=>?_) (fun g2=>?_)|refine pq trivial (fun g2=>?_) (fun g2=>?_))<;>(try exact g2.elim)<;>(try refine sq trivial ?_)<;>(refine wk trivial ?_)
  ·refine kq trivial (jV G o.url 512 (by omega) _) ?_;(first|refine gq trivial (fun g3=>?_) (fun g3=>?_)|refine pq trivial (fun g3=>?_) (fun g3=>?_))<;>(try exact g3.elim)<;>(try refine sq trivial ?_)<;>(refine wk trivial ?_)
   ·(first|refine gq trivial (fun g4=>?_) (fun g4=>?_)|refine pq trivial (fun g4=>?_) (fun g4=>?_))<;>(try exact g4.elim)<;>(try refine sq trivial ?_)<;>(refine wk trivial ?_)
    ·refine ee hQ trivial ?_;refine fR (.bool _) ?_;unfold oneOk;rw[g2,g3];simp[g1,g4]
    ·refine ee hQ trivial ?_;refine fR (.bool _) ?_;unfold oneOk;rw[g2,g3];simp[g1,g4];rw[N3];simp
   ·refine ee hQ trivial ?_;refine fR (.bool _) ?_;unfold oneOk;rw[g3];simp
  ·refine ee hQ trivial ?_;refine fR (.bool _) ?_;unfold oneOk;rw[g2];simp
 ·refine ee hQ trivial ?_;refine fR (.bool _) ?_;unfold oneOk;simp[g1]
theorem od(s:Bs)(n:Nat)(hs:s.length≤700000)(hn:n≤1000)(h:Heap):Sat (CT G) 69 [.str s,.int .i64 n] h (fun r h'=>r=.str (shortF s n)∧h'=h):=by
 have h1:=jz s;have h2:=(nc (cleanF s) n).1;refine sb [.tmp 4] Tryz.func69 ?_;intro Q hQ;refine wk trivial ?_;refine kq trivial (eD G s (by omega) _) ?_;refine kq trivial (uc G (cleanF s) n (by omega) (by omega) _) ?_;refine kq trivial (eD G (cutF (cleanF s) n) (by omega) _) ?_;refine ee hQ trivial ?_;refine fR (.str _) ?_;rfl
section
variable {s:PS} {H:Heap} {n:Nat}
theorem jX(hn:n+9≤H.length):Sat (CT G) 67 [.hp (n+8) 0 0 0,.int .i64 1] (so H n s) (fun r h'=>r=.int .i64 s.t1∧h'=so H n s):=by
 refine sb [.tmp 4] Tryz.func67 ?_;intro Q hQ;refine wk trivial ?_;refine ee hQ trivial ?_;exact br hn (.int _ _) ⟨rfl,rfl⟩
theorem qU(hn:n+9≤H.length):Sat (CT G) 67 [.hp (n+8) 0 0 0,.int .i64 3] (so H n s) (fun r h'=>r=.int .i64 s.t2∧h'=so H n s):=by
 refine sb [.tmp 4] Tryz.func67 ?_;intro Q hQ;refine wk trivial ?_;refine ee hQ trivial ?_;exact br hn (.int _ _) ⟨rfl,rfl⟩
theorem sZ{l:List Fo}{k:Nat}{y:Fo}{p:Fo→Bool}(hy:l[k]? =some y)(h:(l.take k).find? p=none):l.find? p=if p y then some y else(l.drop (k+1)).find? p:=by
 have e:l=l.take k++y::l.drop (k+1):=by
  obtain⟨hlt,he⟩:=f9.1 hy;rw[← he, ← W6 hlt,V8]
 rw[e,List.find?_append,h,List.find?_cons];rw[← e];cases p y<;>rfl
theorem og(T:s.Top2)(hn:n+9≤H.length)(inn:Int)(name:Bs):Sat (CT G) 70 [.hp (n+8) 0 0 0,.int .i64 inn,.str name] (so H n s) (fun r h'=>r=.int .i64 (foId s inn name)∧h'=so H n s):=by
 have hTl:=gn G s T.i.toOk hn;have hfn:=wC T inn name;have hfo:s.tell.fo=valsM Fo.z s.fo:=rfl;rw[← hfo]at hfn;rw[← hfn];have hlf:s.tell.fo.length≤64:=by rw[hfo,fS];exact T.i.l1
 generalize s.tell=x at*;clear hfn hfo;have mfo:(x.fo.map Fo.av).length=x.fo.length:=I5 ..;have hnj:∀j,n+9≤(H++j).length:=fun j=>by simp;omega
 have F:=F3 @mfo hnj @ax;refine sb [.tmp 6] Tryz.func70 ?_;intro Q hQ;refine wk F ?_;refine kq F (hTl) ?_;refine lm (fun nL tL hL=>∃(k:Nat) (j:Heap),x.fo.length-k=nL∧so (H++j) n s=hL∧tL 13=.int .i64 k∧k≤x.fo.length∧((x.fo.take k).find? (fun f=>decide (f.inn=inn∧f.name=name))=none)) ((fun(k:Nat) (j:Heap)=>(x.fo.length-k:Nat)) (0) ([])) ?_ ?_
 ·refine I9 ⟨0,[],rfl,by rw[M4],?_,by omega,rfl⟩;all_goals try exact zZz F
 rintro _ s2 h' ⟨k,j,rfl,rfl,e13,hk,hf⟩ K2 hK2;simp only[ah,ao,Nat.reduceEqDiff, ↓reduceIte]at e13;have F:=F2 F e13;by_cases c2:k<x.fo.length
 ·have d2:=M0 c2;obtain⟨y,hy,hym⟩:=ac c2;have hm:(x.fo.map Fo.av)[k]? =some y.av:=by rw[J8,hy];rfl
  have hft:=sZ hy hf;have hf2:(x.fo.take (k+1)).find? (fun f=>decide (f.inn=inn∧f.name=name))=if decide (y.inn=inn∧y.name=name)then some y else none:=by
   rw[N1,hy,Option.toList_some,List.find?_append,hf,List.find?_cons];cases decide (y.inn=inn∧y.name=name)<;>rfl
  obtain⟨y1,y2,y3⟩:=y;rw[Fo.av_eq]at hm;simp only[]at hm hft hf2;by_cases ca:y2=inn
  ·have qa:(y2==inn)=true:=(by simp[ca]);by_cases cb:y3=name
   ·have qb:(y3==name)=true:=(by simp[cb]);have F:=F7 F hm hy d2 c2 qa qb;(try refine sq F ?_);refine wk F ?_;refine ee hQ F ?_;refine au hn (.int _ _) ⟨?_,rfl⟩;unfold fndN;rw[hft,I7 (by simp[ca,cb])];rfl
   ·have qb:(y3==name)=false:=(by simp[cb]);have F:=F7 F hm hy d2 c2 qa qb;(try refine sq F ?_);refine wk F ?_;refine hK2 _ _ _ (I9 ⟨k+1,j++[.row 44 3 0 [.agg [.int .i64 y1,.int .i64 y2,.str y3]]],rfl,rfl,?_,by omega,by rw[hf2,I0 (by simp[cb])]⟩) (by omega);all_goals try exact zZz F
  ·have qa:(y2==inn)=false:=(by simp[ca]);have F:=F6 F hm hy d2 c2 qa;(try refine sq F ?_);refine wk F ?_;refine hK2 _ _ _ (I9 ⟨k+1,j++[.row 44 3 0 [.agg [.int .i64 y1,.int .i64 y2,.str y3]]],rfl,rfl,?_,by omega,by rw[hf2,I0 (by simp[ca])]⟩) (by omega);all_goals try exact zZz F
 ·have d2:=L6 c2;rw[K6 (by omega)]at hf;have F:=F2 F d2;try refine sq F ?_
  refine wk F ?_;refine ee hQ F ?_;refine au hn (.int _ _) ⟨?_,rfl⟩;unfold fndN;rw[hf];rfl
end
def exM(H:Heap)(n:Nat)(ws:List Ev)(j:Heap):Heap:=
 H++(.row 27 1 0 [.hp (n+8) 0 0 0]:: .row 22 1 0 [.hs (H.length+2) ws.length 0 ws.length true]:: .row 34 7 ws.length (ws.map Ev.av)::
  .row 32 1 0 [.fn (.func 66) [] [.hp H.length 0 0 0,.hp (H.length+1) 0 0 0]]::
  .row 120 1 0 [.fn (.func 68) [] [.hp (H.length+3) 0 0 0,.hp H.length 0 0 0,.hp (H.length+4) 0 0 0]]::j)
section
variable {H:Heap} {n:Nat} {ws:List Ev} {j:Heap}
theorem fV(j':Heap):exM H n ws j++j'=exM H n ws (j++j'):=by simp[exM]
theorem cC:(exM H n ws j).length=H.length+5+j.length:=by simp[exM];omega
theorem cX(i v:Nat):getRow (exM H n ws j) (H.length+i) v=getRow (.row 27 1 0 [.hp (n+8) 0 0 0]:: .row 22 1 0 [.hs (H.length+2) ws.length 0 ws.length true]:: .row 34 7 ws.length (ws.map Ev.av)::
  .row 32 1 0 [.fn (.func 66) [] [.hp H.length 0 0 0,.hp (H.length+1) 0 0 0]]::
  .row 120 1 0 [.fn (.func 68) [] [.hp (H.length+3) 0 0 0,.hp H.length 0 0 0,.hp (H.length+4) 0 0 0]]::j) i v:=bF v rfl
theorem wE(e:Ev):((exM H n ws j).set (H.length+2) (.row 34 7 (ws.length+1) (ws.map Ev.av++[e.av]))).set (H.length+1) (.row 22 1 0 [.hs (H.length+2) (ws.length+1) 0 (ws.length+1) true])=exM H n (ws++[e]) j:=by
 unfold exM;rw[jB _ rfl,jB _ rfl];simp only[List.set_cons_succ,List.set_cons_zero,J3,List.length_singleton,N9,K8,O8]
end
theorem nj(g:List Outl→Nat)(b:Nat)(hb:1≤b)(hg:∀l,g l≤b):∀(t:List Outl) (a:Nat),a≤512→cntGo g t a≤512+b
 | [],a,h=>by rw[cntGo];omega
 |o::t,a,h=>by
  rw[cntGo];split
  ·split
   ·have:=hg o.kids;omega
   ·exact nj g b hb hg t _ (by omega)
  ·omega
theorem oZ:∀(f:Nat) (l:List Outl),cntN f l≤513+512*f:=by
 intro f;induction f with
 |zero=>intro l;rw[cntN];split<;>omega
 |succ f ih=>
  intro l;rw[cntN];split
  ·omega
  ·have:=nj (cntN f) (513+512*f) (by omega) ih l l.length (by omega);omega
def OkN:Nat→List Outl→Prop
 |0,l=>l.length≤1000000
 |f+1,l=>l.length≤1000000∧∀o∈l,o.title.length≤100000∧o.url.length≤100000∧OkN f o.kids
theorem OkN.nil:∀f:Nat,OkN f []:=fun f=>by cases f with|zero=>exact U3 _|succ f=>exact⟨U3 _,fun o ho=>by cases ho⟩
theorem va(f:Nat):cntN f []=0:=by cases f<;>rfl
theorem jY(f d:Nat)(h:Heap):Sat (CT G) 59 [.sl 3 (([]:List Outl).map Outl.av),.int .i64 d] h (fun r h'=>r=.int .i64 (cntN f [])∧h'=h):=by
 rw[va];refine sb [.tmp 4] Tryz.func59 ?_;intro Q hQ;refine wk trivial ?_;refine lm (fun nL tL hL=>∃(k:Nat),0=nL∧h=hL∧tL 5=.int .i64 0∧tL 22=.int .i64 k∧k=0) ((fun(k:Nat)=>(0:Nat)) (0)) ?_ ?_
 ·refine I9 ⟨0,rfl,aw,?_,?_,rfl⟩;all_goals try exact zZz trivial
 rintro _ s2 h' ⟨k,rfl,rfl,e5,e22,hk⟩ K2 hK2;simp only[ah,ao,Nat.reduceEqDiff, ↓reduceIte]at e5 e22;have F:=F2 e5 e22;subst hk;refine wk F ?_;refine ee hQ F ?_;refine fR (.int _ _) ?_;rfl
theorem qV:∀(f d:Nat),f+d=9→∀(l:List Outl) (_:OkN f l) (h:Heap),Sat (CT G) 59 [.sl 3 (l.map Outl.av),.int .i64 d] h (fun r h'=>r=.int .i64 (cntN f l)∧h'=h):=by
 intro f;induction f with
 |zero=>
  intro d hf l hs h;by_cases hl0:l=[]
  ·subst hl0;exact jY G 0 d h
  have hlp:=Q1.2 hl0;have hlm:(l.map Outl.av).length=l.length:=I5 ..;have f1:decide ((l.length:Int)>0)=true:=by rw[decide_eq_true_iff];omega
  have f2:decide ((d:Int)>8)=true:=by rw[decide_eq_true_iff];omega
  have F:=F3 hlm f1 f2;refine sb [.tmp 4] Tryz.func59 ?_;intro Q hQ;refine wk F ?_;refine ee hQ F ?_;refine fR (.int _ _) ?_;rw[cntN,I0 hl0];rfl
 |succ f ih=>
  intro d hf l hs h;by_cases hl0:l=[]
  ·subst hl0;exact jY G (f+1) d h
  have hlp:=Q1.2 hl0;have hlm:(l.map Outl.av).length=l.length:=I5 ..;have hll:=hs.1;have f1:decide ((l.length:Int)>0)=true:=by rw[decide_eq_true_iff];omega
  have f2:decide ((d:Int)>8)=false:=by rw[decide_eq_false_iff_not];omega
  by_cases hl:512<l.length
  ·have f3:decide ((l.length:Int)>512)=true:=(by rw[decide_eq_true_iff];omega);have F:=F4 hlm f1 f2 f3;refine sb [.tmp 4] Tryz.func59 ?_;intro Q hQ;refine wk F ?_;refine ee hQ F ?_;refine fR (.int _ _) ?_;rw[cntN,I7 hl];rfl
  have f3:decide ((l.length:Int)>512)=false:=by rw[decide_eq_false_iff_not];omega
  rw[cntN,I0 hl];have F:=F4 hlm f1 f2 f3;refine sb [.tmp 4] Tryz.func59 ?_;intro Q hQ;refine wk F ?_;refine lm (fun nL tL hL=>∃(k a:Nat) (jj:Heap),l.length-k=nL∧h++jj=hL∧tL 5=.int .i64 a∧tL 22=.int .i64 k∧k≤l.length∧a≤512∧cntGo (cntN f) (l.drop k) a=cntGo (cntN f) l l.length) ((fun(k a:Nat) (jj:Heap)=>(l.length-k:Nat)) (0) (l.length) ([])) ?_ ?_
  ·refine I9 ⟨0,l.length,[],rfl,aw,?_,?_,by omega,by omega,rfl⟩;all_goals try exact zZz F
  rintro _ s2 h' ⟨k,a,jj,rfl,rfl,e5,e22,hk,ha,hp⟩ K2 hK2;simp only[ah,ao,Nat.reduceEqDiff, ↓reduceIte]at e5 e22;have F:=F3 F e5 e22;refine wk F ?_;refine cq F (fun c1=>?_) (fun c1=>?_)<;>(try exact c1.elim)<;>(refine wk F ?_)
  ·obtain⟨y,hy,hym⟩:=ac c1;have hyo:=hs.2 y hym;have hcl:=oZ f y.kids;rw[aA hy,cntGo]at hp;have F:=F2 F hy;(try refine sq F ?_);refine wk F ?_;refine kq F (sY G y hyo.1 hyo.2.1 _) ?_;refine cq F (fun c2=>?_) (fun c2=>?_)<;>(try exact c2.elim)<;>(refine wk F ?_)
   ·rw[I0 (by simp[c2])]at hp;refine ee hQ F ?_;refine fR (.int _ _) ?_;rw[← hp];rfl
   ·rw[I7 c2]at hp;refine kq F (ih (d+1) (by omega) y.kids hyo.2.2 _) ?_;refine cq F (fun c3=>?_) (fun c3=>?_)<;>(try exact c3.elim)<;>(refine wk F ?_)
    ·rw[I7 (by omega)]at hp;refine ee hQ F ?_;refine fR (.int _ _) ?_;rw[← hp];rfl
    ·rw[I0 (by omega)]at hp;refine hK2 _ _ _ (I9 ⟨k+1,a+cntN f y.kids,jj++[.row 55 3 0 [y.av]],rfl,by simp,?_,?_,by omega,by omega,hp⟩) (by omega);all_goals try exact zZz F
  ·rw[aE c1,cntGo]at hp;refine wk F ?_;refine ee hQ F ?_;refine fR (.int _ _) ?_;rw[hp]
end Go.Av
namespace Go.Av
open Go Go.Proofs Go.RowKit
section
variable {α:Type} {z:α} {key:α→Int} {l:ML Int α} {c:Nat}
theorem vf{k:Int}{a:α}(h:lkM l k=some a):a∈valsM z l:=by
 unfold valsM;refine J5.2 ⟨k,?_,by rw[h];rfl⟩;refine(S4 _ _).mem_iff.2 ?_;obtain⟨n,hn⟩:=cN h;exact J5.2 ⟨_,hn,rfl⟩
end
def q1:Bs:=[60,111,117,116,108,105,110,101,32,116,101,120,116,61,34]
def q2:Bs:=[34,32,120,109,108,85,114,108,61,34]
def q3:Bs:=[34,62]
def q4:Bs:=[60,47,111,117,116,108,105,110,101,62]
def q5:Bs:=[60,111,112,109,108,32,118,101,114,115,105,111,110,61,34,50,46,48,34,62]
def q8:Bs:=[60,47,111,112,109,108,62]
end Go.Av
namespace Go.Av
open Go Go.Proofs Go.RowKit
attribute [local irreducible] WP WPl WPix Sat
variable (G:Nat→Option (List AVal))
theorem vg:∀(f d:Nat),f+d=9→∀(l:List Outl) (_:OkN f l) (n:Nat) (_:n≤512) (h:Heap),Sat (CT G) 57 [.sl 3 (l.map Outl.av),.int .i64 d,.int .i64 n] h (fun r h'=>r=.tup [.int .i64 (mayN f l n).1,.bool (mayN f l n).2]∧h'=h):=by
 intro f;induction f with
 |zero=>
  intro d hf l hs n hn h;have fin:∀(a:Int) (b:Bool),((mayN 0 l n).1:Int)=a→(mayN 0 l n).2=b→Fin h h (fun r h'=>r=.tup [.int .i64 (mayN 0 l n).1,.bool (mayN 0 l n).2]∧h'=h) (.tup [.int .i64 a,.bool b]):=fun a b e1 e2=>by
   rw[e1,e2];exact M8 (.tup _ (by intro c hc;simp at hc;rcases hc with rfl|rfl;exact .int _ _;exact .bool _)) ⟨rfl,rfl⟩
  by_cases hl0:l=[]
  ·subst hl0;refine sb [.tmp 6,.tmp 7] Tryz.func57 ?_;intro Q hQ;refine wk trivial ?_;refine lm (fun nL tL hL=>∃(k:Nat),0=nL∧h=hL∧tL 2=.int .i64 n∧tL 8=.int .i64 k∧k=0) ((fun(k:Nat)=>(0:Nat)) (0)) ?_ ?_
   ·refine I9 ⟨0,rfl,aw,?_,?_,rfl⟩;all_goals try exact zZz trivial
   rintro _ s2 h' ⟨k,rfl,rfl,e2,e8,hk⟩ K2 hK2;simp only[ah,ao,Nat.reduceEqDiff, ↓reduceIte]at e2 e8;have F:=F2 e2 e8;subst hk;refine wk F ?_;refine ee hQ F ?_;exact fin _ _ rfl rfl
  have hlp:=Q1.2 hl0;have hlm:(l.map Outl.av).length=l.length:=I5 ..;have f1:decide ((l.length:Int)>0)=true:=by rw[decide_eq_true_iff];omega
  have f2:decide ((d:Int)>8)=true:=by rw[decide_eq_true_iff];omega
  have F:=F3 hlm f1 f2;refine sb [.tmp 6,.tmp 7] Tryz.func57 ?_;intro Q hQ;refine wk F ?_;refine ee hQ F ?_;exact fin _ _ (by rw[mayN,I0 hl0]) (by rw[mayN,I0 hl0])
 |succ f ih=>
  intro d hf l hs n hn h;have fin:∀(j:Heap) (a:Int) (b:Bool),((mayN (f+1) l n).1:Int)=a→(mayN (f+1) l n).2=b→Fin h (h++j) (fun r h'=>r=.tup [.int .i64 (mayN (f+1) l n).1,.bool (mayN (f+1) l n).2]∧h'=h) (.tup [.int .i64 a,.bool b]):=fun j a b e1 e2=>by
   rw[e1,e2];exact I3 (.tup _ (by intro c hc;simp at hc;rcases hc with rfl|rfl;exact .int _ _;exact .bool _)) ⟨rfl,rfl⟩
  have fin0:∀(a:Int) (b:Bool),((mayN (f+1) l n).1:Int)=a→(mayN (f+1) l n).2=b→Fin h h (fun r h'=>r=.tup [.int .i64 (mayN (f+1) l n).1,.bool (mayN (f+1) l n).2]∧h'=h) (.tup [.int .i64 a,.bool b]):=fun a b e1 e2=>by
   have:=fin [] a b e1 e2;simpa using this
  have hlm:(l.map Outl.av).length=l.length:=I5 ..;have hll:=hs.1;have hst:mayN (f+1) l n=mayGo (mayN f) l n:=rfl;have f2:decide ((d:Int)>8)=false:=by rw[decide_eq_false_iff_not];omega
  have start:∀b:Bool,decide ((l.length:Int)>0)=b→Sat (CT G) 57 [.sl 3 (l.map Outl.av),.int .i64 d,.int .i64 n] h (fun r h'=>r=.tup [.int .i64 (mayN (f+1) l n).1,.bool (mayN (f+1) l n).2]∧h'=h):=by
   intro b f1;cases b;all_goals (
    have F:=F3 hlm f1 f2;refine sb [.tmp 6,.tmp 7] Tryz.func57 ?_;intro Q hQ;refine wk F ?_;refine lm (fun nL tL hL=>∃(k m:Nat),l.length-k=nL∧h=hL∧tL 2=.int .i64 m∧tL 8=.int .i64 k∧k≤l.length∧m≤512∧mayGo (mayN f) (l.drop k) m=mayN (f+1) l n) ((fun(k m:Nat)=>(l.length-k:Nat)) (0) (n)) ?_ ?_
    ·refine I9 ⟨0,n,rfl,aw,?_,?_,by omega,hn,rfl⟩;all_goals try exact zZz F
    rintro _ s2 h' ⟨k,m,rfl,rfl,e2,e8,hk,hm,hp⟩ K2 hK2;simp only[ah,ao,Nat.reduceEqDiff, ↓reduceIte]at e2 e8;have F:=F3 F e2 e8;refine wk F ?_;refine cq F (fun c1=>?_) (fun c1=>?_)<;>(try exact c1.elim)<;>(refine wk F ?_)
    ·obtain⟨y,hy,hym⟩:=ac c1;have hyo:=hs.2 y hym;rw[aA hy,mayGo]at hp;have bad:¬(m+1≤512∧oneOk y=true)→Fin h h (fun r h'=>r=.tup [.int .i64 (mayN (f+1) l n).1,.bool (mayN (f+1) l n).2]∧h'=h) (.tup [.int .i64 ((m:Int)+1),.bool false]):=fun hn=>by
      rw[I0 hn]at hp;exact fin0 _ _ (by rw[← hp];rfl) (by rw[← hp])
     have F:=F2 F hy;(try refine sq F ?_);refine wk F ?_;(first|refine gq F (fun g1=>?_) (fun g1=>?_)|refine pq F (fun g1=>?_) (fun g1=>?_))<;>(try exact g1.elim)<;>(try refine sq F ?_)<;>(refine wk F ?_)
     ·refine ee hQ F ?_;exact bad (fun hh=>by omega)
     ·(first|refine gq F (fun g2=>?_) (fun g2=>?_)|refine pq F (fun g2=>?_) (fun g2=>?_))<;>(try exact g2.elim)<;>(try refine sq F ?_)<;>(refine wk F ?_)
      ·refine ee hQ F ?_;exact bad (fun hh=>by have:=hh.2;unfold oneOk at this;simp[g2]at this)
      ·refine kq F (jW G y.title 256 hyo.1 _) ?_;(first|refine gq F (fun g3=>?_) (fun g3=>?_)|refine pq F (fun g3=>?_) (fun g3=>?_))<;>(try exact g3.elim)<;>(try refine sq F ?_)<;>(refine wk F ?_)
       ·refine ee hQ F ?_;exact bad (fun hh=>by have:=hh.2;unfold oneOk at this;simp[g3]at this)
       ·refine kq F (jW G y.url 512 hyo.2.1 _) ?_;(first|refine gq F (fun g4=>?_) (fun g4=>?_)|refine pq F (fun g4=>?_) (fun g4=>?_))<;>(try exact g4.elim)<;>(try refine sq F ?_)<;>(refine wk F ?_)
        ·refine ee hQ F ?_;exact bad (fun hh=>by have:=hh.2;unfold oneOk at this;simp[g4]at this)
        ·(first|refine gq F (fun g5=>?_) (fun g5=>?_)|refine pq F (fun g5=>?_) (fun g5=>?_))<;>(try exact g5.elim)<;>(try refine sq F ?_)<;>(refine wk F ?_)
         ·refine cq F (fun g6=>?_) (fun g6=>?_)<;>(try exact g6.elim)<;>(refine wk F ?_)
          ·refine ee hQ F ?_;exact bad (fun hh=>by have:=hh.2;unfold oneOk at this;simp[g5]at this;rw[this.2]at g6;simp at g6)
          ·have hk0:y.kids=[]:=O1.1 (by omega);have hok:m+1≤512∧oneOk y=true:=⟨by omega,by unfold oneOk;simp[g2,g3,g4,hk0]⟩
           rw[I7 hok]at hp;refine(ih (d+1) (by omega) y.kids hyo.2.2 (m+1) hok.1 _).mono ?_;rintro r h' ⟨rfl,rfl⟩;(try refine sq F ?_);refine wk F ?_;refine cq F (fun c5=>?_) (fun c5=>?_)<;>(try exact c5.elim)<;>(refine wk F ?_)
           ·rw[I0 (by simp[c5])]at hp;refine ee hQ F ?_;exact fin0 _ _ (by rw[← hp]) (by rw[← hp])
           ·rw[I7 c5]at hp;refine hK2 _ _ _ (I9 ⟨k+1,(mayN f y.kids (m+1)).1,rfl,aw,?_,?_,by omega,(fQ f y.kids (m+1) hok.1 c5).2,hp⟩) (by omega);all_goals try exact zZz F
         ·have hu0:y.url=[]:=(by simpa using g5);have hok:m+1≤512∧oneOk y=true:=⟨by omega,by unfold oneOk;simp[g2,g3,hu0]at g4 ⊢;exact g4⟩
          rw[I7 hok]at hp;refine(ih (d+1) (by omega) y.kids hyo.2.2 (m+1) hok.1 _).mono ?_;rintro r h' ⟨rfl,rfl⟩;(try refine sq F ?_);refine wk F ?_;refine cq F (fun c5=>?_) (fun c5=>?_)<;>(try exact c5.elim)<;>(refine wk F ?_)
          ·rw[I0 (by simp[c5])]at hp;refine ee hQ F ?_;exact fin0 _ _ (by rw[← hp]) (by rw[← hp])
          ·rw[I7 c5]at hp;refine hK2 _ _ _ (I9 ⟨k+1,(mayN f y.kids (m+1)).1,rfl,aw,?_,?_,by omega,(fQ f y.kids (m+1) hok.1 c5).2,hp⟩) (by omega);all_goals try exact zZz F
    ·rw[aE c1,mayGo]at hp;refine wk F ?_;refine ee hQ F ?_;exact fin0 _ _ (by rw[← hp]) (by rw[← hp]))
  exact start _ rfl
def okOl(l:List Outl):Bool:=decide (cntN 8 l≤512)
theorem oy(l:List Outl)(hl:OkN 8 l)(h:Heap):Sat (CT G) 27 [.sl 3 (l.map Outl.av)] h (fun r h'=>r=.bool (okOl l)∧h'=h):=by
 have hm:=(wy 8 l 0 (by omega)).1;refine sb [.tmp 2] Tryz.func27 ?_;intro Q hQ;refine wk trivial ?_;refine(vg G 8 1 (by omega) l hl 0 (by omega) _).mono ?_;rintro r h' ⟨rfl,rfl⟩;try refine sq trivial ?_
 refine wk trivial ?_;refine ee hQ trivial ?_;refine fR (.bool _) ?_;unfold okOl;congr 1
 rw[N3,hm];simp
end Go.Av
namespace Go.Av
open Go Go.Proofs Go.RowKit
theorem nq(g:List Outl→Nat):∀(t:List Outl) (a:Nat),cntGo g t a≤512→(∀o∈t,oneOk o=true∧g o.kids≤512)∧a≤cntGo g t a
 | [],a,h=>⟨fun o ho=>by simp at ho,J0 _⟩
 |o::t,a,h=>by
  rw[cntGo]at h ⊢;by_cases hk:oneOk o=true
  ·rw[I7 hk]at h ⊢;by_cases h5:512<a+g o.kids
   ·rw[I7 h5]at h;omega
   ·rw[I0 h5]at h ⊢;obtain⟨h1,h2⟩:=nq g t _ h;refine⟨fun x hx=>?_,by omega⟩;rcases K4.1 hx with rfl|hx
    ·exact⟨hk,by omega⟩
    ·exact h1 x hx
  ·rw[I0 hk]at h;omega
theorem td{l:List Outl}(h:cntN 0 l≤512):l=[]:=by
 rw[cntN]at h;by_cases hl:l=[]
 ·exact hl
 ·rw[I0 hl]at h;omega
theorem lr{f:Nat}{l:List Outl}(h:cntN (f+1) l≤512):(∀o∈l,oneOk o=true∧cntN f o.kids≤512)∧cntGo (cntN f) l l.length=cntN (f+1) l:=by
 rw[cntN]at h ⊢;by_cases hl:512<l.length
 ·rw[I7 hl]at h;omega
 ·rw[I0 hl]at h ⊢;exact⟨(nq _ l _ h).1,rfl⟩
end Go.Av
namespace Go.Av
open Go Go.Proofs Go.RowKit
attribute [local irreducible] WP WPl WPix Sat
variable (G:Nat→Option (List AVal))
def bldWR(a:AVal)(q v:Nat)(s:Bs):Blk:=.row 159 2 0 [.agg [a,.hs q v 0 s.length true]]
@[go_sem] theorem yT(a:AVal)(q v:Nat)(s:Bs)(l:Heap):getRow (bldWR a q v s::l) 0 0=some (159,2,[.agg [a,.hs q v 0 s.length true]]):=rfl
theorem oz:ptrConv Tryz.prog 154 214 159 2=true:=by kernel_rfl
theorem lI:ptrConv Tryz.prog 214 154 159 2=true:=by kernel_rfl
attribute [go_sem] oz lI
def bldW(h j:Heap)(a:AVal)(v:Nat)(s:Bs):Heap:=h++bldWR a (h.length+1) v s::bufR v s::j
theorem vh(h j:Heap)(a:AVal)(v:Nat)(s:Bs):(bldW h j a v s).length=h.length+(2+j.length):=by simp[bldW];omega
attribute [go_sem] vh
theorem wI:∀(f d:Nat) (l:List Outl) (m:Int),d+f≤39→m≤700→0<ocntL l d m→OkN f l∧(l.length:Int)≤m-ocntL l d m:=by
 intro f;induction f with
 |zero=>
  intro d l;induction l with
  |nil=>intro m _ hm h;rw[ocntL];exact⟨OkN.nil 0,by simp⟩
  |cons o r ihr=>
   intro m hd hm h;rw[ocntL]at h ⊢;by_cases h0:0<m∧d<40
   ·rw[I7 h0]at h ⊢;have hb:=gg o d m;have he:=iY o d m;have hk:=(cI o.kids (d+1) (m-1-(o.title.length/20:Nat)-(o.url.length/20:Nat))).2;obtain⟨h1,h2⟩:=ihr (ocntO o d m) hd (by omega) h;have h3:(o::r).length≤1000000:=(by simp only[I6];omega);exact⟨h3,by simp only[I6];omega⟩
   ·rw[I0 h0]at h;exact absurd ⟨h,by omega⟩ h0
 |succ f ih=>
  intro d l;induction l with
  |nil=>intro m _ hm h;rw[ocntL];exact⟨OkN.nil _,by simp⟩
  |cons o r ihr=>
   intro m hd hm h;rw[ocntL]at h ⊢;by_cases h0:0<m∧d<40
   ·rw[I7 h0]at h ⊢;have hb:=gg o d m;have he:=iY o d m;have hk:=(cI o.kids (d+1) (m-1-(o.title.length/20:Nat)-(o.url.length/20:Nat))).2;have hr:=(cI r d (ocntO o d m)).2;obtain⟨h1,h2⟩:=ihr (ocntO o d m) hd (by omega) h;have h3:=(ih (d+1) o.kids (m-1-(o.title.length/20:Nat)-(o.url.length/20:Nat)) (by omega) (by omega) (by omega)).1;refine⟨⟨by simp only[I6];omega,fun x hx=>?_⟩,by simp only[I6];omega⟩;rcases K4.1 hx with rfl|hx
    ·exact⟨by omega,by omega,h3⟩
    ·exact h1.2 x hx
   ·rw[I0 h0]at h;exact absurd ⟨h,by omega⟩ h0
end Go.Av
