/- Parts. -/
import Derived.Test.YtjfjncmgclaokaaGreatDoorMqTc0
set_option linter.unusedSimpArgs false
set_option linter.unusedVariables false
set_option linter.unusedSectionVars false
set_option linter.unnecessarySimpa false
set_option maxRecDepth 100000
set_option maxHeartbeats 16000000
namespace Go.Av
open Go Go.Proofs Go.RowKit
section
attribute [local irreducible] WP WPl WPix Sat
variable (G:Nat→Option (List AVal))
variable {H:Heap} {n0 pb po vo pd vd:Nat} {room:Bool} {os:List OE} {ds:List Elem}
structure BR (H:Heap) (n0 pb po vo:Nat) (os:List OE) (n:Bs) (a:List At) (pd vd:Nat) (ds:List Elem):Prop where
 b:getRow H pb 0=some (186,2,[.agg [.hs po vo 0 (os.length+1) true,.hs pd vd 0 ds.length true]])
 o:getRow H po vo=some (76,4,os.map OE.av++[.agg [.str n,.sl 2 (a.map At.av),.str [],.nil (.slice none 0 0)]])
 d:getRow H pd vd=some (76,4,ds.map Elem.av)
 k:∀(i:Nat) (o:OE),os[i]? =some o→getRow H o.q o.v=some (76,4,o.k.map Elem.av)
 od:po≠pd
 ko:∀(i:Nat) (o:OE),os[i]? =some o→o.q≠po∧o.q≠pd∧n0≤o.q
 kk:∀(i j:Nat) (o o':OE),os[i]? =some o→os[j]? =some o'→i≠j→o.q≠o'.q
 n:n0≤pb∧n0≤po∧n0≤pd
theorem BR.weak{C:Ctx}{n:Bs}{a:List At}(g:BR H n0 pb po vo os n a pd vd ds):
  ∃H',(∀(ms:List Nat) (t:Env),Weak C ms t H t H')∧(FrN n0 H H'∧H.length≤H'.length)∧BH H' n0 pb po vo true (os++[⟨n,a,[],[],H.length,0⟩]) pd vd ds:=by
 have hlo:=aw g.o;have hpo:pb≠po:=cA g.b g.o (by decide);have hlb:=aw g.b;have hld:=aw g.d;refine⟨_,fun ms t=>Weak.virtRows (p:=po) (v:=vo) (rows':=os.map OE.av++[OE.av ⟨n,a,[],[],H.length,0⟩]) 76 4 (by omega) g.o (by simp) fun i r' hi=>?_,⟨fun p hp=>?_,by simp⟩,?_⟩
 ·rcases aI hi with h1| ⟨h1,rfl⟩
  ·have hlt:=(F1.1 h1).1;exact⟨r',by rw[H0 hlt];exact h1,rfl,fun q c hc=>.inl hc⟩
  ·refine⟨.agg [.str n,.sl 2 (a.map At.av),.str [],.nil (.slice none 0 0)],by rw[h1];simp,rfl,fun q c hc=>?_⟩
   match q with
   |0=>exact .inl hc
   |1=>exact .inl hc
   |2=>exact .inl hc
   |3=>simp[OE.av,AVal.cells]at hc;exact .inr ⟨hc.symm,rfl⟩
   |q+4=>simp[OE.av,AVal.cells]at hc
 ·have:=g.n;rw[H0 (by simp;omega),K6 (by omega)]
 ·have gold:∀{q v:Nat} {x:TypeId×Nat×List AVal},getRow H q v=some x→po≠q→getRow (H.set po (.row 76 4 vo (os.map OE.av++[OE.av ⟨n,a,[],[],H.length,0⟩]))++[.row 76 4 0 []]) q v=some x:=fun {q v x} h1 h2=>by
   rw[bO _ (by simpa using aw h1),ba _ _ h2];exact h1
  have at_:∀(i:Nat) (p:OE),(os++[(⟨n,a,[],[],H.length,0⟩:OE)])[i]? =some p→(os[i]? =some p)∨(i=os.length∧p=⟨n,a,[],[],H.length,0⟩):=fun i p hi=>aI hi|>.imp id fun⟨h1,h2⟩=>⟨h1,h2⟩
  refine⟨?_,?_,gold g.d g.od,fun i p hi=>?_,g.od,fun i p hi=>?_,fun i j p p' hi hj hij=>?_,g.n⟩
  ·rw[gold g.b hpo.symm];simp
  ·rw[bO _ (by simpa using hlo),bV _ _ _ _ _ hlo];simp
  ·rcases at_ i p hi with h1| ⟨_,rfl⟩
   ·exact gold (g.k i p h1) (g.ko i p h1).1.symm
   ·show getRow _ H.length 0=_;rw[bL _ (by simp)];rfl
  ·rcases at_ i p hi with h1| ⟨_,rfl⟩
   ·exact g.ko i p h1
   ·have:=g.n;exact⟨by show H.length≠_;omega,by show H.length≠_;omega,by show _≤H.length;omega⟩
  ·rcases at_ i p hi with h1| ⟨h1,rfl⟩<;>rcases at_ j p' hj with h2| ⟨h2,rfl⟩
   ·exact g.kk i j p p' h1 h2 hij
   ·have:=aw (g.k i p h1);show p.q≠H.length;omega
   ·have:=aw (g.k j p' h2);show H.length≠p'.q;omega
   ·omega
theorem uV(nm:Bs)(at_:List At)(tx:Bs)(hat:at_.length≤1048576)(g:BH H n0 pb po vo room os pd vd ds)(hos:os.length≤1000)(hds:ds.length≤1048576):
  Sat (CT G) 114 [.hp pb 0 0 0,Tok.av (1,nm,at_,tx)] H (fun r H'=>(FrN n0 H H'∧H.length≤H'.length)∧r=.bool (decide (os.length≤31)&&decide (ds.length=0))∧∃po' vo',BR H' n0 pb po' vo' os nm at_ pd vd ds):=by
 have hb:=g.b;have ho:=g.o;have hd:=g.d;have hlo:=aw ho;have hlb:=aw hb;have hld:=aw hd;have hbo:=g.bo;have hbd:=g.bd;have hod:=g.od;have hn:=g.n;have F:=F4 hb ho hd @al;refine sb [.tmp 4] Tryz.func114 ?_;intro Q hQ;(repeat (first|refine w1 (fun K hK=>?_)|refine w2 ?_|refine w3 ?_| ((first|refine w4 ?_|refine wD ?_|refine w5 ?_|refine w6 ?_|refine w7 ?_);try refine sq F ?_)| (refine w8 ?_;refine sq F ?_;refine w9 ?_)| (refine rq F ?_;try refine sq F ?_)| (refine vq F ?_;try refine sq F ?_)| ((first|refine hK _ _ (w0 ?_)| (clear hK K;refine hK _ _ (w0 ?_))| (clear hK K;clear hK K;refine hK _ _ (w0 ?_)));clear hK K)))
 have tail:∀(t':Env) (h':Heap) (po' vo':Nat),t' 0=.hp pb 0 0 0→FrN n0 H h'→H.length≤h'.length→
   getRow h' pb 0=some (186,2,[.agg [.hs po' vo' 0 (os.length+1) true,.hs pd vd 0 ds.length true]])→
   getRow h' po' vo'=some (76,4,os.map OE.av++[.agg [.str nm,.sl 2 (at_.map At.av),.str [],.nil (.slice none 0 0)]])→(po'=po∨H.length≤po')→
   (∀q v x,getRow H q v=some x→q≠pb→q≠po→getRow h' q v=some x)→K t' h':=by
  intro t' h' po' vo' e0 hfr hlen hb' ho' hpo' hrest;have hlt:=aw ho';have hbr:BR h' n0 pb po' vo' os nm at_ pd vd ds:=by
   have hne:∀q,q<H.length→q≠po→q≠po':=fun q h1 h2=>by omega
   exact⟨hb',ho',hrest _ _ _ hd hbd.symm hod.symm,fun i o hi=>hrest _ _ _ (g.k i o hi) (g.bk i o hi).symm (g.ko i o hi).1,fun e=>by omega,
    fun i o hi=>⟨hne _ (aw (g.k i o hi)) (g.ko i o hi).1,(g.ko i o hi).2.1,(g.ko i o hi).2.2⟩,g.kk,⟨hn.1,by omega,hn.2.2⟩⟩
  refine hK _ _ (G9 ?_);clear hK K;have hd':=hbr.d;have F:=F5 F e0 hb' ho' hd';(repeat (first|refine w1 (fun K hK=>?_)|refine w2 ?_|refine w3 ?_| ((first|refine w4 ?_|refine wD ?_|refine w5 ?_|refine w6 ?_|refine w7 ?_);try refine sq F ?_)| (refine w8 ?_;refine sq F ?_;refine w9 ?_)| (refine rq F ?_;try refine sq F ?_)| (refine vq F ?_;try refine sq F ?_)| ((first|refine hK _ _ (w0 ?_)| (clear hK K;refine hK _ _ (w0 ?_))| (clear hK K;clear hK K;refine hK _ _ (w0 ?_)));clear hK K)))
  have fin:∀b:Bool,b=(decide (os.length≤31)&&decide (ds.length=0))→Fin H h' (fun r H'=>(FrN n0 H H'∧H.length≤H'.length)∧r=.bool (decide (os.length≤31)&&decide (ds.length=0))∧∃po' vo',BR H' n0 pb po' vo' os nm at_ pd vd ds) (.bool b):=fun b hb=>by
   exact Fin.whole hlen (.bool _) ⟨⟨hfr,hlen⟩,by rw[hb],po',vo',hbr⟩
  (first|refine gq F (fun hg=>?_) (fun hg=>?_)|refine pq F (fun hg=>?_) (fun hg=>?_))<;>(try exact hg.elim)<;>(try refine sq F ?_)<;>((repeat (first|refine w1 (fun K hK=>?_)|refine w2 ?_|refine w3 ?_| ((first|refine w4 ?_|refine wD ?_|refine w5 ?_|refine w6 ?_|refine w7 ?_);try refine sq F ?_)| (refine w8 ?_;refine sq F ?_;refine w9 ?_)| (refine rq F ?_;try refine sq F ?_)| (refine vq F ?_;try refine sq F ?_)| ((first|refine hK _ _ (w0 ?_)| (clear hK K;refine hK _ _ (w0 ?_))| (clear hK K;clear hK K;refine hK _ _ (w0 ?_)));clear hK K))))
  ·refine ee hQ F ?_;refine fin _ ?_;have e:decide (os.length≤31)=true:=(by rw[decide_eq_true_iff];omega);rw[e,Q0,N8];simp
  ·refine ee hQ F ?_;refine fin _ ?_;have e:decide (os.length≤31)=false:=(by rw[decide_eq_false_iff_not];omega);rw[e,Bool.false_and]
 have hlt1:os.length<os.length+1:=by omega
 have hg1:∀x:AVal,(os.map OE.av++[x])[os.length]? =some x:=fun x=>by simp
 have hs1:∀x y:AVal,(os.map OE.av++[x]).set os.length y=os.map OE.av++[y]:=fun x y=>by simp
 cases room with
 |true=>
  have F:=F4 F hlt1 hg1 hs1;refine cw 12 (.one 12 (.two 13 (.two 14 (.one 15 (.one 16 (.one 17 .nil))) 15 (.two 14 (.one 16 (.one 17 .nil)) 16 (.two 14 (.one 17 .nil) 17 (.one 14 .nil)))) 15 (.two 13 (.two 14 (.one 16 (.one 17 .nil)) 16 (.two 14 (.one 17 .nil) 17 (.one 14 .nil))) 16 (.two 13 (.two 14 (.one 17 .nil) 17 (.one 14 .nil)) 17 (.one 13 (.one 14 .nil)))))) (by decide+kernel) (by kernel_rfl) (by decide+kernel) ?_;simp only[H8,J1];try refine sq F ?_
  repeat' (first|refine aR ?_| (refine aS rfl ?_;refine sq F ?_)| (refine aT rfl rfl ?_ ?_<;>refine sq F ?_))
  refine aa (jQ G at_ hat _) ?_;try refine sq F ?_
  refine vq F ?_;try refine sq F ?_
  repeat' (first|refine aR ?_| (refine aS rfl ?_;refine sq F ?_)| (refine aT rfl rfl ?_ ?_<;>refine sq F ?_))
  refine aq F ?_;try refine sq F ?_
  (repeat (first|refine w1 (fun K hK=>?_)|refine w2 ?_|refine w3 ?_| ((first|refine w4 ?_|refine wD ?_|refine w5 ?_|refine w6 ?_|refine w7 ?_);try refine sq F ?_)| (refine w8 ?_;refine sq F ?_;refine w9 ?_)| (refine rq F ?_;try refine sq F ?_)| (refine vq F ?_;try refine sq F ?_)))
  repeat' (first|refine aR ?_| (refine aS rfl ?_;refine sq F ?_)| (refine aT rfl rfl ?_ ?_<;>refine sq F ?_))
  all_goals (
   show K _ _;refine tail _ _ po (vo+1) ?_ ?_ ?_ ?_ ?_ (.inl rfl) ?_
   ·exact zq F
   ·repeat (first|exact FrN.refl _ _|refine FrN.set _ (by omega) ?_|refine FrN.app _ (by simp;omega) ?_)
   ·simp
   ·exact zq F
   ·exact zq F
   ·intro q v x h1 h2 h3;have h4:=aw h1;have h2':=h2.symm;have h3':=h3.symm;simp(disch:=first|omega| (simp only[go_sem, ↓reduceIte,seval];first|done|omega)|fail) only[go_sem, ↓reduceIte,seval,F,h1])
 |false=>
  have F:=F4 F hlt1 hg1 hs1;refine cw 12 (.one 12 (.two 13 (.two 14 (.one 15 (.one 16 (.one 17 .nil))) 15 (.two 14 (.one 16 (.one 17 .nil)) 16 (.two 14 (.one 17 .nil) 17 (.one 14 .nil)))) 15 (.two 13 (.two 14 (.one 16 (.one 17 .nil)) 16 (.two 14 (.one 17 .nil) 17 (.one 14 .nil))) 16 (.two 13 (.two 14 (.one 17 .nil) 17 (.one 14 .nil)) 17 (.one 13 (.one 14 .nil)))))) (by decide+kernel) (by kernel_rfl) (by decide+kernel) ?_;simp only[H8,J1];try refine sq F ?_
  repeat' (first|refine aR ?_| (refine aS rfl ?_;refine sq F ?_)| (refine aT rfl rfl ?_ ?_<;>refine sq F ?_))
  refine aa (jQ G at_ hat _) ?_;try refine sq F ?_
  refine vq F ?_;try refine sq F ?_
  repeat' (first|refine aR ?_| (refine aS rfl ?_;refine sq F ?_)| (refine aT rfl rfl ?_ ?_<;>refine sq F ?_))
  refine um (.inl rfl) (by simp only[go_sem];rfl) (by simp only[go_sem];rfl) (by simp only[go_sem];rfl) (by simp only[go_sem];try rfl) (by omega) (by simp only[elemsOf, ↓reduceIte];rfl) (by simp(disch:=first|omega| (simp only[go_sem, ↓reduceIte,seval];first|done|omega)|fail) only[go_sem, ↓reduceIte,seval,F];rfl) (by simp) (by simp) ?_ ?_
  ·refine⟨?_,?_⟩<;>simp only[maxLen,I9,G5,H6]<;>omega
  rw[H9 (by simp)];try refine sq F ?_
  repeat' (first|refine aR ?_| (refine aS rfl ?_;refine sq F ?_)| (refine aT rfl rfl ?_ ?_<;>refine sq F ?_))
  all_goals (
   show K _ _;refine tail _ _ (H.length+1) 0 ?_ ?_ ?_ ?_ ?_ (.inr (by omega)) ?_
   ·exact zq F
   ·repeat (first|exact FrN.refl _ _|refine FrN.set _ (by omega) ?_|refine FrN.app _ (by simp;omega) ?_)
   ·simp
   ·exact zq F
   ·exact zq F
   ·intro q v x h1 h2 h3;have h4:=aw h1;have h2':=h2.symm;have h3':=h3.symm;simp(disch:=first|omega| (simp only[go_sem, ↓reduceIte,seval];first|done|omega)|fail) only[go_sem, ↓reduceIte,seval,F,h1])
end
section
attribute [local irreducible] WP WPl WPix Sat
variable {H:Heap} {n0 pb po vo pd vd:Nat} {ds:List Elem}
theorem OE.fz{K:Heap}{e:TypeId}(o:OE)(hk:getRow K o.q o.v=some (e,4,o.k.map Elem.av)):o.av.cells.length=o.el.av.cells.length∧∀(j:Nat) (c d:AVal),o.av.cells[j]? =some c→o.el.av.cells[j]? =some d→Fz K o.q o.v c d∧d.sto=true:=by
 rw[Elem.av_cells];refine⟨rfl,fun j c d hc hd=>?_⟩
 match j with
 |0=>simp[OE.av,AVal.cells,OE.el,Elem.name]at hc hd;subst hc;subst hd;exact⟨.same _,rfl⟩
 |1=>simp[OE.av,AVal.cells,OE.el,Elem.attrs]at hc hd;subst hc;subst hd;exact⟨.same _,rfl⟩
 |2=>simp[OE.av,AVal.cells,OE.el,Elem.text]at hc hd;subst hc;subst hd;exact⟨.same _,rfl⟩
 |3=>simp[OE.av,AVal.cells,OE.el,Elem.kids]at hc hd;subst hc;subst hd;exact⟨Fz.all _ _ _ hk rfl (by simp),rfl⟩
 |j+4=>simp[OE.av,AVal.cells]at hc
theorem p9{K:Heap}{e:TypeId}(o:OE)(hk:getRow K o.q o.v=some (e,4,o.k.map Elem.av))(ks:List Elem):∀(i:Nat) (x y:AVal),(ks.map Elem.av++[o.av])[i]? =some x→((ks++[o.el]).map Elem.av)[i]? =some y→
  x.cells.length=y.cells.length∧∀(j:Nat) (c d:AVal),x.cells[j]? =some c→y.cells[j]? =some d→Fz K o.q o.v c d∧d.sto=true:=by
 intro i x y hx hy;rw[M9]at hy;rcases aI hx with h1| ⟨h1,rfl⟩
 ·rw[H0 (F1.1 h1).1,h1]at hy;cases hy;obtain⟨a,_,rfl⟩:=J9.1 (G4 h1);exact⟨rfl,fun j c d hc hd=>by rw[hc]at hd;cases hd;exact⟨.same _,a.av_sto _ (G4 hc)⟩⟩
 ·subst h1;simp at hy;subst hy;exact o.fz hk
theorem o9{C:Ctx}{K:Heap}{o:OE}(hb:getRow K pb 0=some (186,2,[.agg [.hs po vo 0 0 false,.hs pd vd 0 (ds.length+1) true]]))
  (ho:getRow K po vo=some (76,4,[o.av]))(hd:getRow K pd vd=some (76,4,ds.map Elem.av++[o.av]))
  (hk:getRow K o.q o.v=some (76,4,o.k.map Elem.av))(od:po≠pd)(ko:o.q≠po∧o.q≠pd∧n0≤o.q)(hn:n0≤pb∧n0≤po∧n0≤pd):
  ∃K',(∀(ms:List Nat) (t:Env),Weak C ms t K t K')∧(FrN n0 K K'∧K.length≤K'.length)∧BH K' n0 pb po vo false [] pd vd (ds++[o.el]):=by
 have hlo:=aw ho;have hlb:=aw hb;have hld:=aw hd;have hlk:=aw hk
 have hbo:pb≠po:=cA hb ho (by decide);have hbd:pb≠pd:=cA hb hd (by decide);have hbk:pb≠o.q:=cA hb hk (by decide);have w1:=fun(ms:List Nat) (t:Env)=>Weak.fzIn (C:=C) (ms:=ms) (t:=t) (t1:=t) o.q o.v pd vd ((ds++[o.el]).map Elem.av) hk ko.2.1 hd (by simp) (p9 o hk ds) (fun _=>.inl rfl)
 have g2:getRow ((K.set o.q .dead).set pd (.row 76 4 vd ((ds++[o.el]).map Elem.av))) po vo=some (76,4,[o.av]):=by
  rw[ba _ _ od.symm,ba _ _ ko.1];exact ho
 have w2:=fun(ms:List Nat) (t:Env)=>Weak.rowTake (C:=C) (ms:=ms) (t:=t) po vo 0 g2
 refine⟨_,fun ms t=>(w1 ms t).trans (w2 ms t),⟨FrN.set _ hn.2.1 (FrN.set _ hn.2.2 (FrN.set _ ko.2.2 (FrN.refl _ _))),by simp⟩,⟨?_,?_,?_,fun i p hi=>by simp at hi,od,fun i p hi=>by simp at hi,fun i j p p' hi=>by simp at hi,hn⟩⟩
 ·rw[ba _ _ hbo.symm,ba _ _ hbd.symm,ba _ _ hbk.symm,hb];simp
 ·rw[bV _ _ _ _ _ (by simpa using hlo)];simp
 ·rw[ba _ _ od,bV _ _ _ _ _ (by simpa using hld)];simp
theorem oc{C:Ctx}{K:Heap}{l:List OE}{p o:OE}(hb:getRow K pb 0=some (186,2,[.agg [.hs po vo 0 (l.length+1) false,.hs pd vd 0 ds.length true]]))
  (ho:getRow K po vo=some (76,4,l.map OE.av++[.agg [.str p.n,.sl 2 (p.a.map At.av),.str p.t,.hs p.q (p.v+1) 0 (p.k.length+1) true],o.av]))
  (hd:getRow K pd vd=some (76,4,ds.map Elem.av))
  (hk:getRow K o.q o.v=some (76,4,o.k.map Elem.av))(hp:getRow K p.q (p.v+1)=some (76,4,p.k.map Elem.av++[o.av]))
  (hl:∀(i:Nat) (x:OE),l[i]? =some x→getRow K x.q x.v=some (76,4,x.k.map Elem.av)∧x.q≠po∧x.q≠pd∧n0≤x.q∧x.q≠p.q∧x.q≠o.q)
  (kk:∀(i j:Nat) (x x':OE),l[i]? =some x→l[j]? =some x'→i≠j→x.q≠x'.q)
  (od:po≠pd)(ko:o.q≠po∧o.q≠pd∧n0≤o.q)(kp:p.q≠po∧p.q≠pd∧n0≤p.q)(kop:o.q≠p.q)(hn:n0≤pb∧n0≤po∧n0≤pd):
  ∃K',(∀(ms:List Nat) (t:Env),Weak C ms t K t K')∧(FrN n0 K K'∧K.length≤K'.length)∧BH K' n0 pb po vo false (l++[⟨p.n,p.a,p.t,p.k++[o.el],p.q,p.v+1⟩]) pd vd ds:=by
 have hlo:=aw ho;have hlb:=aw hb;have hld:=aw hd;have hlk:=aw hk;have hlp:=aw hp
 have hbo:pb≠po:=cA hb ho (by decide);have hbd:pb≠pd:=cA hb hd (by decide);have hbk:pb≠o.q:=cA hb hk (by decide);have hbp:pb≠p.q:=cA hb hp (by decide);have w1:=fun(ms:List Nat) (t:Env)=>Weak.fzIn (C:=C) (ms:=ms) (t:=t) (t1:=t) o.q o.v p.q (p.v+1) ((p.k++[o.el]).map Elem.av) hk kop hp (by simp) (p9 o hk p.k) (fun _=>.inl rfl)
 have g2:=(show getRow ((K.set o.q .dead).set p.q (.row 76 4 (p.v+1) ((p.k++[o.el]).map Elem.av))) po vo=getRow K po vo by
  rw[ba _ _ kp.1,ba _ _ ko.1]).trans ho
 have w2:=fun(ms:List Nat) (t:Env)=>Weak.rowTake (C:=C) (ms:=ms) (t:=t) po vo (l.length+1) g2
 have at_:∀(i:Nat) (x:OE),(l++[(⟨p.n,p.a,p.t,p.k++[o.el],p.q,p.v+1⟩:OE)])[i]? =some x→(l[i]? =some x)∨(i=l.length∧x=⟨p.n,p.a,p.t,p.k++[o.el],p.q,p.v+1⟩):=fun i x hi=>aI hi
 refine⟨_,fun ms t=>(w1 ms t).trans (w2 ms t),⟨FrN.set _ hn.2.1 (FrN.set _ kp.2.2 (FrN.set _ ko.2.2 (FrN.refl _ _))),by simp⟩,⟨?_,?_,?_,fun i x hi=>?_,od,fun i x hi=>?_,fun i j x x' hi hj hij=>?_,hn⟩⟩
 ·rw[ba _ _ hbo.symm,ba _ _ hbp.symm,ba _ _ hbk.symm,hb];simp
 ·rw[bV _ _ _ _ _ (by simpa using hlo),G3 rfl];have e:(l.map OE.av++[AVal.agg [.str p.n,.sl 2 (p.a.map At.av),.str p.t,.hs p.q (p.v+1) 0 (p.k.length+1) true],o.av]).take (l.length+1)=(l++[(⟨p.n,p.a,p.t,p.k++[o.el],p.q,p.v+1⟩:OE)]).map OE.av:=by
   rw[List.take_append,H9 (by simp)];simp[OE.av]
  rw[e]
 ·rw[ba _ _ od,ba _ _ kp.2.1,ba _ _ ko.2.1];exact hd
 ·rcases at_ i x hi with h1| ⟨_,rfl⟩
  ·obtain⟨k1,k2,k3,k4,k5,k6⟩:=hl i x h1;rw[ba _ _ k2.symm,ba _ _ k5.symm,ba _ _ k6.symm];exact k1
  ·show getRow _ p.q (p.v+1)=_;rw[ba _ _ kp.1.symm,bV _ _ _ _ _ (by simpa using hlp)];simp
 ·rcases at_ i x hi with h1| ⟨_,rfl⟩
  ·obtain⟨k1,k2,k3,k4,k5,k6⟩:=hl i x h1;exact⟨k2,k3,k4⟩
  ·exact kp
 ·rcases at_ i x hi with h1| ⟨h1,rfl⟩<;>rcases at_ j x' hj with h2| ⟨h2,rfl⟩
  ·exact kk i j x x' h1 h2 hij
  ·exact(hl i x h1).2.2.2.2.1
  ·exact(hl j x' h2).2.2.2.2.1.symm
  ·omega
end
section
attribute [local irreducible] WP WPl WPix Sat
variable (G:Nat→Option (List AVal))
variable {H:Heap} {n0 pb po vo pd vd:Nat} {room:Bool} {os:List OE} {ds:List Elem}
theorem qB(os ds:List Elem)(n:Bs)(h:os=[]∨∃l e,os=l++[e]∧e.name≠n)(a:List At)(x:Bs):stepB os ds (2,n,a,x)=none:=by
 rcases h with rfl| ⟨l,e,rfl,he⟩
 ·rfl
 ·simp[stepB,he]
theorem qC(ds:List Elem)(e:Elem)(a:List At)(x:Bs):stepB [e] ds (2,e.name,a,x)=some ([],ds++[e]):=by simp[stepB]
theorem qD(l ds:List Elem)(p e:Elem)(a:List At)(x:Bs):stepB (l++[p]++[e]) ds (2,e.name,a,x)=some (l++[⟨p.name,p.attrs,p.text,p.kids++[e]⟩],ds):=by
 simp[stepB]
theorem qE(nm:Bs)(g:BH H n0 pb po vo room os pd vd ds)(hos:os.length≤1000)(h:os=[]∨∃l o,os=l++[o]∧o.n≠nm):
  Sat (CT G) 178 [.hp pb 0 0 0,.str nm] H (fun r H'=>r=.bool false∧H'=H):=by
 have hb:=g.b;have ho:=g.o;have F:=F2 hb ho;refine sb [.tmp 4] Tryz.func178 ?_;intro Q hQ;refine wk F ?_;rcases h with rfl| ⟨l,o,rfl,hne⟩
 ·(first|refine gq F (fun g1=>?_) (fun g1=>?_)|refine pq F (fun g1=>?_) (fun g1=>?_))<;>(try exact g1.elim)<;>(try refine sq F ?_)<;>(refine wk F ?_)
  ·refine ee hQ F ?_;exact I8 (.bool _) ⟨rfl,rfl⟩
  ·exact absurd trivial g1
 ·have e1:((l.length+1:Nat):Int)-1=l.length:=by omega
  have e2:(l++[o])[l.length]? =some o:=by simp
  have e3:l.length<l.length+1:=by omega
  have e4:(o.n==nm)=false:=by simpa using hne
  have F:=F5 F e1 e2 e3 e4;(first|refine gq F (fun g1=>?_) (fun g1=>?_)|refine pq F (fun g1=>?_) (fun g1=>?_))<;>(try exact g1.elim)<;>(try refine sq F ?_)<;>(refine wk F ?_)
  ·exfalso;omega
  ·(try refine sq F ?_);refine wk F ?_;refine ee hQ F ?_;exact I8 (.bool _) ⟨rfl,rfl⟩
theorem qF(o:OE)(g:BH H n0 pb po vo room [o] pd vd ds)(hds:ds.length≤1048576):
  Sat (CT G) 178 [.hp pb 0 0 0,.str o.n] H (BPost n0 pb H [o.el] ds (some ([],ds++[o.el]))):=by
 have hb:=g.b;have ho:=g.o;have hd:=g.d;have hk:=g.k 0 o rfl;have ko:=g.ko 0 o rfl;have hlo:=aw ho;have hlb:=aw hb;have hld:=aw hd;have hlk:=aw hk;have hbo:=g.bo;have hbd:=g.bd;have hbk:=g.bk 0 o rfl;have hod:=g.od;have hn:=g.n;refine Sat.postw (R:=fun r H'=>(FrN n0 H H'∧H.length≤H'.length)∧r=.bool true∧getRow H' pb 0=some (186,2,[.agg [.hs po vo 0 0 false,.hs pd (vd+1) 0 (ds.length+1) true]])∧
   getRow H' po vo=some (76,4,[o.av])∧getRow H' pd (vd+1)=some (76,4,ds.map Elem.av++[o.av])∧
   getRow H' o.q o.v=some (76,4,o.k.map Elem.av)) ?_ (fun r h' ⟨a1,a2,a3,a4,a5,a6⟩=>by
    obtain⟨K',w,f1,f2⟩:=o9 (C:=CT G) a3 a4 a5 a6 hod ko hn;exact⟨K',w [],⟨a1.1.trans f1.1,T4 a1.2 f1.2⟩,a2,po,vo,false,[],pd,vd+1,f2,rfl⟩)
 have e1:((0+1:Nat):Int)-1=0:=by omega
 have hbt:(o.n==o.n)=true:=by simp
 have hsl:∀l,aslice Tryz.prog (H++l) 74 (.hs po vo 0 1 room) none (some (.int .i64 0)) (some (.int .i64 0))=some (.hs po vo 0 0 false):=fun l=>
  jG (r:=0) (by simp only[go_sem];rfl) (eC ho) (by simp only[go_sem]) (by omega)
 have F:=F8 hb ho hd (F3 (@bne_self_eq_false Int _ _) (@bne_self_eq_false Bool _ _) (@bne_self_eq_false Bs _ _)) hbt e1 hsl @al;refine sb [.tmp 4] Tryz.func178 ?_;intro Q hQ;(repeat (first|refine w1 (fun K hK=>?_)|refine w2 ?_|refine w3 ?_| ((first|refine w4 ?_|refine wD ?_|refine w5 ?_|refine w6 ?_|refine w7 ?_);try refine sq F ?_)| (refine w8 ?_;refine sq F ?_;refine w9 ?_)| (refine rq F ?_;try refine sq F ?_)| (refine vq F ?_;try refine sq F ?_)| ((first|refine hK _ _ (w0 ?_)| (clear hK K;refine hK _ _ (w0 ?_))| (clear hK K;clear hK K;refine hK _ _ (w0 ?_)));clear hK K)))
 (first|refine gq F (fun g1=>?_) (fun g1=>?_)|refine pq F (fun g1=>?_) (fun g1=>?_))<;>(try exact g1.elim)<;>(try refine sq F ?_)<;>((repeat (first|refine w1 (fun K hK=>?_)|refine w2 ?_|refine w3 ?_| ((first|refine w4 ?_|refine wD ?_|refine w5 ?_|refine w6 ?_|refine w7 ?_);try refine sq F ?_)| (refine w8 ?_;refine sq F ?_;refine w9 ?_)| (refine rq F ?_;try refine sq F ?_)| (refine vq F ?_;try refine sq F ?_)| ((first|refine hK _ _ (w0 ?_)| (clear hK K;refine hK _ _ (w0 ?_))| (clear hK K;clear hK K;refine hK _ _ (w0 ?_)));clear hK K))))
 have tail:∀(t':Env) (h':Heap),FrN n0 H h'→H.length≤h'.length→getRow h' pb 0=some (186,2,[.agg [.hs po vo 0 0 false,.hs pd (vd+1) 0 (ds.length+1) true]])→
   getRow h' po vo=some (76,4,[o.av])→getRow h' pd (vd+1)=some (76,4,ds.map Elem.av++[o.av])→
   getRow h' o.q o.v=some (76,4,o.k.map Elem.av)→K t' h':=by
  intro t' h' a1 a2 a4 a5 a6 a7;refine hK _ _ (G9 ?_);clear hK K;(repeat (first|refine w1 (fun K hK=>?_)|refine w2 ?_|refine w3 ?_| ((first|refine w4 ?_|refine wD ?_|refine w5 ?_|refine w6 ?_|refine w7 ?_);try refine sq F ?_)| (refine w8 ?_;refine sq F ?_;refine w9 ?_)| (refine rq F ?_;try refine sq F ?_)| (refine vq F ?_;try refine sq F ?_)| ((first|refine hK _ _ (w0 ?_)| (clear hK K;refine hK _ _ (w0 ?_))| (clear hK K;clear hK K;refine hK _ _ (w0 ?_)));clear hK K)))
  refine ee hQ F ?_;exact Fin.whole a2 (.bool _) ⟨⟨a1,a2⟩,rfl,a4,a5,a6,a7⟩
 have hlt1:ds.length<ds.length+1:=by omega
 have hg1:∀x:AVal,(ds.map Elem.av++[x])[ds.length]? =some x:=fun x=>by simp
 have hs1:∀x y:AVal,(ds.map Elem.av++[x]).set ds.length y=ds.map Elem.av++[y]:=fun x y=>by simp
 have F:=F4 F hlt1 hg1 hs1;refine cw 7 (.one 7 (.two 8 (.two 9 (.one 10 (.one 11 (.one 12 .nil))) 10 (.two 9 (.one 11 (.one 12 .nil)) 11 (.two 9 (.one 12 .nil) 12 (.one 9 .nil)))) 10 (.two 8 (.two 9 (.one 11 (.one 12 .nil)) 11 (.two 9 (.one 12 .nil) 12 (.one 9 .nil))) 11 (.two 8 (.two 9 (.one 12 .nil) 12 (.one 9 .nil)) 12 (.one 8 (.one 9 .nil)))))) (by decide+kernel) (by kernel_rfl) (by decide+kernel) ?_;simp only[H8,J1];try refine sq F ?_
 repeat' (first|refine aR ?_| (refine aS rfl ?_;refine sq F ?_)| (refine aT rfl rfl ?_ ?_<;>refine sq F ?_))
 refine vq F ?_;try refine sq F ?_
 repeat' (first|refine aR ?_| (refine aS rfl ?_;refine sq F ?_)| (refine aT rfl rfl ?_ ?_<;>refine sq F ?_))
 refine aq F ?_;try refine sq F ?_
 (repeat (first|refine w1 (fun K hK=>?_)|refine w2 ?_|refine w3 ?_| ((first|refine w4 ?_|refine wD ?_|refine w5 ?_|refine w6 ?_|refine w7 ?_);try refine sq F ?_)| (refine w8 ?_;refine sq F ?_;refine w9 ?_)| (refine rq F ?_;try refine sq F ?_)| (refine vq F ?_;try refine sq F ?_)))
 repeat' (first|refine aR ?_| (refine aS rfl ?_;refine sq F ?_)| (refine aT rfl rfl ?_ ?_<;>refine sq F ?_))
 all_goals (
  show K _ _;refine tail _ _ ?_ ?_ ?_ ?_ ?_ ?_
  ·repeat (first|exact FrN.refl _ _|refine FrN.set _ (by omega) ?_|refine FrN.app _ (by simp;omega) ?_)
  ·simp
  ·exact zq F
  ·exact zq F
  ·exact zq F
  ·simp(disch:=first|omega| (simp only[go_sem, ↓reduceIte,seval];first|done|omega)|fail) only[go_sem, ↓reduceIte,seval,F];exact hk)
end
section
attribute [local irreducible] WP WPl WPix Sat
variable (G:Nat→Option (List AVal))
variable {H:Heap} {n0 pb po vo pd vd:Nat} {room:Bool} {os:List OE} {ds:List Elem}
theorem qG(l:List OE)(p o:OE)(hl:l.length≤1000)(hpk:p.k.length≤1048576)(g:BH H n0 pb po vo room (l++[p,o]) pd vd ds):
  Sat (CT G) 178 [.hp pb 0 0 0,.str o.n] H (BPost n0 pb H ((l++[p,o]).map OE.el) ds (some ((l++[(⟨p.n,p.a,p.t,p.k++[o.el],p.q,p.v+1⟩:OE)]).map OE.el,ds))):=by
 have i0:(l++[p,o])[l.length]? =some p:=by simp
 have i1:(l++[p,o])[l.length+1]? =some o:=by simp
 have il:∀(i:Nat) (x:OE),l[i]? =some x→(l++[p,o])[i]? =some x:=fun i x h=>by rw[H0 (F1.1 h).1];exact h
 have hb:=g.b;have ho:=g.o;have hd:=g.d;have hk:=g.k _ o i1;have ko:=g.ko _ o i1;have hp:=g.k _ p i0;have kp:=g.ko _ p i0;have kop:=g.kk _ _ o p i1 i0 (by omega);have hlo:=aw ho;have hlb:=aw hb;have hld:=aw hd;have hlk:=aw hk;have hlp:=aw hp;have hbo:=g.bo;have hbd:=g.bd;have hbk:=g.bk _ o i1;have hbp:=g.bk _ p i0;have hod:=g.od;have hn:=g.n;have hlen:(l++[p,o]).length=l.length+2:=by simp
 rw[hlen]at hb;refine Sat.postw (R:=fun r H'=>(FrN n0 H H'∧H.length≤H'.length)∧r=.bool true∧getRow H' pb 0=some (186,2,[.agg [.hs po vo 0 (l.length+1) false,.hs pd vd 0 ds.length true]])∧
   getRow H' po vo=some (76,4,l.map OE.av++[.agg [.str p.n,.sl 2 (p.a.map At.av),.str p.t,.hs p.q (p.v+1) 0 (p.k.length+1) true],o.av])∧
   getRow H' p.q (p.v+1)=some (76,4,p.k.map Elem.av++[o.av])∧
   (∀q v x,getRow H q v=some x→q≠pb→q≠po→q≠p.q→getRow H' q v=some x)) ?_ (fun r h' ⟨a1,a2,a3,a4,a5,a6⟩=>by
    obtain⟨K',w,f1,f2⟩:=oc (C:=CT G) (ds:=ds) (n0:=n0) a3 a4 (a6 _ _ _ hd hbd.symm hod.symm kp.2.1.symm) (a6 _ _ _ hk hbk.symm ko.1 kop) a5
     (fun i x hi=>by
      have j:=il i x hi;have hlt:=(F1.1 hi).1;have k1:=g.ko i x j;have k2:=g.kk i l.length x p j i0 (by omega);exact⟨a6 _ _ _ (g.k i x j) (g.bk i x j).symm k1.1 k2,k1.1,k1.2.1,k1.2.2,k2,g.kk i (l.length+1) x o j i1 (by omega)⟩)
     (fun i j x x' hi hj hij=>g.kk i j x x' (il i x hi) (il j x' hj) hij) hod ko kp kop hn
    exact⟨K',w [],⟨a1.1.trans f1.1,T4 a1.2 f1.2⟩,a2,po,vo,false,_,pd,vd,f2,rfl⟩)
 have e1:((l.length+2:Nat):Int)-1=((l.length+1:Nat):Int):=by omega
 have e2:((l.length+1:Nat):Int)-1=(l.length:Int):=by omega
 have e3:(((l.length+1:Nat):Int)==0)=false:=by simp;omega
 have hbt:(o.n==o.n)=true:=by simp
 have e4:∀x y:AVal,(l.map OE.av++[x,y])[l.length]? =some x:=fun x y=>by simp
 have e5:∀x y:AVal,(l.map OE.av++[x,y])[l.length+1]? =some y:=fun x y=>by simp
 have e6:∀x y z:AVal,(l.map OE.av++[x,y]).set l.length z=l.map OE.av++[z,y]:=fun x y z=>by simp
 have e7:l.length+1<l.length+2:=by omega
 have e8:l.length<l.length+1:=by omega
 have e9:p.k.length<p.k.length+1:=by omega
 have hg1:∀x:AVal,(p.k.map Elem.av++[x])[p.k.length]? =some x:=fun x=>by simp
 have hs1:∀x y:AVal,(p.k.map Elem.av++[x]).set p.k.length y=p.k.map Elem.av++[y]:=fun x y=>by simp
 have hsl:∀j,aslice Tryz.prog (H++j) 74 (.hs po vo 0 (l.length+2) room) none (some (.int .i64 ((l.length+1:Nat):Int))) (some (.int .i64 ((l.length+1:Nat):Int)))=some (.hs po vo 0 (l.length+1) false):=fun j=>
  jG (r:=l.length+1) (by simp only[go_sem];rfl) (eC ho) (by simp only[go_sem]) (by omega)
 have ho':getRow H po vo=some (76,4,l.map OE.av++[p.av,o.av]):=by rw[ho];simp
 clear ho;have F:=F2 (F9 hb ho' hd hp (F3 (@bne_self_eq_false Int _ _) (@bne_self_eq_false Bool _ _) (@bne_self_eq_false Bs _ _)) hbt e1 e2 e3) (xg e4 e5 e6 e7 e8 e9 hg1 hs1 hsl @al);refine sb [.tmp 4] Tryz.func178 ?_;intro Q hQ;(repeat (first|refine w1 (fun K hK=>?_)|refine w2 ?_|refine w3 ?_| ((first|refine w4 ?_|refine wD ?_|refine w5 ?_|refine w6 ?_|refine w7 ?_);try refine sq F ?_)| (refine w8 ?_;refine sq F ?_;refine w9 ?_)| (refine rq F ?_;try refine sq F ?_)| (refine vq F ?_;try refine sq F ?_)| ((first|refine hK _ _ (w0 ?_)| (clear hK K;refine hK _ _ (w0 ?_))| (clear hK K;clear hK K;refine hK _ _ (w0 ?_)));clear hK K)))
 (first|refine gq F (fun g1=>?_) (fun g1=>?_)|refine pq F (fun g1=>?_) (fun g1=>?_))<;>(try exact g1.elim)<;>(try refine sq F ?_)<;>((repeat (first|refine w1 (fun K hK=>?_)|refine w2 ?_|refine w3 ?_| ((first|refine w4 ?_|refine wD ?_|refine w5 ?_|refine w6 ?_|refine w7 ?_);try refine sq F ?_)| (refine w8 ?_;refine sq F ?_;refine w9 ?_)| (refine rq F ?_;try refine sq F ?_)| (refine vq F ?_;try refine sq F ?_)| ((first|refine hK _ _ (w0 ?_)| (clear hK K;refine hK _ _ (w0 ?_))| (clear hK K;clear hK K;refine hK _ _ (w0 ?_)));clear hK K))))
 ·exfalso;omega
 ·refine cw 0 (.one 0 (.two 1 (.one 2 (.one 3 .nil)) 2 (.one 1 (.one 3 .nil)))) (by decide+kernel) (by kernel_rfl) (by decide+kernel) ?_;simp only[H8,J1];try refine sq F ?_
  repeat' (first|refine aR ?_| (refine aS rfl ?_;refine sq F ?_)| (refine aT rfl rfl ?_ ?_<;>refine sq F ?_))
  repeat' (first|refine aR ?_| (refine aS rfl ?_;refine sq F ?_)| (refine aT rfl rfl ?_ ?_<;>refine sq F ?_))
  ·show K _ _;refine hK _ _ (G9 ?_);clear hK K
   skip
   (repeat (first|refine w1 (fun K hK=>?_)|refine w2 ?_|refine w3 ?_| ((first|refine w4 ?_|refine w5 ?_|refine w6 ?_|refine w7 ?_);try refine sq F ?_)| (refine w8 ?_;refine sq F ?_;refine w9 ?_)| (refine rq F ?_;try refine sq F ?_)| (refine vq F ?_;try refine sq F ?_)| ((first|refine hK _ _ (w0 ?_)| (clear hK K;refine hK _ _ (w0 ?_))| (clear hK K;clear hK K;refine hK _ _ (w0 ?_)));clear hK K)))
   refine aG 17 6 _ (by rfl) (by decide+kernel) (by kernel_rfl) (by decide+kernel) (by decide+kernel) (by decide+kernel) ?_;simp only[H8,J1];refine sq F ?_;(repeat (first|refine w1 (fun K hK=>?_)|refine w2 ?_|refine w3 ?_| ((first|refine w4 ?_|refine w5 ?_|refine w6 ?_|refine w7 ?_);try refine sq F ?_)| (refine w8 ?_;refine sq F ?_;refine w9 ?_)| (refine rq F ?_;try refine sq F ?_)| (refine vq F ?_;try refine sq F ?_)| ((first|refine hK _ _ (w0 ?_)| (clear hK K;refine hK _ _ (w0 ?_))| (clear hK K;clear hK K;refine hK _ _ (w0 ?_)));clear hK K)))
   skip
   rw[o3];(try refine sq F ?_);refine aq F ?_;(try refine sq F ?_);(repeat (first|refine w1 (fun K hK=>?_)|refine w2 ?_|refine w3 ?_| ((first|refine w4 ?_|refine wD ?_|refine w5 ?_|refine w6 ?_|refine w7 ?_);try refine sq F ?_)| (refine w8 ?_;refine sq F ?_;refine w9 ?_)| (refine rq F ?_;try refine sq F ?_)| (refine vq F ?_;try refine sq F ?_)))
   refine hK _ _ (G9 ?_);clear hK K;(repeat (first|refine w1 (fun K hK=>?_)|refine w2 ?_|refine w3 ?_| ((first|refine w4 ?_|refine wD ?_|refine w5 ?_|refine w6 ?_|refine w7 ?_);try refine sq F ?_)| (refine w8 ?_;refine sq F ?_;refine w9 ?_)| (refine rq F ?_;try refine sq F ?_)| (refine vq F ?_;try refine sq F ?_)| ((first|refine hK _ _ (w0 ?_)| (clear hK K;refine hK _ _ (w0 ?_))| (clear hK K;clear hK K;refine hK _ _ (w0 ?_)));clear hK K)))
   refine ee hQ F ?_;refine Fin.whole (by simp) (.bool _) ⟨⟨?_,by simp⟩,rfl,?_,?_,?_,?_⟩
   ·repeat (first|exact FrN.refl _ _|refine FrN.set _ (by omega) ?_|refine FrN.app _ (by simp;omega) ?_)
   ·exact zq F
   ·exact zq F
   ·exact zq F
   ·intro q v x h1 h2 h3 h4;have h5:=aw h1;have h2':pb≠q:=fun e=>h2 e.symm
    have h3':po≠q:=fun e=>h3 e.symm
    have h4':p.q≠q:=fun e=>h4 e.symm
    simp(disch:=first|omega| (simp only[go_sem, ↓reduceIte,seval];first|done|omega)|fail) only[go_sem, ↓reduceIte,seval,F,h1]
  ·show K _ _;refine hK _ _ (G9 ?_);clear hK K;(repeat (first|refine w1 (fun K hK=>?_)|refine w2 ?_|refine w3 ?_| ((first|refine w4 ?_|refine wD ?_|refine w5 ?_|refine w6 ?_|refine w7 ?_);try refine sq F ?_)| (refine w8 ?_;refine sq F ?_;refine w9 ?_)| (refine rq F ?_;try refine sq F ?_)| (refine vq F ?_;try refine sq F ?_)| ((first|refine hK _ _ (w0 ?_)| (clear hK K;refine hK _ _ (w0 ?_))| (clear hK K;clear hK K;refine hK _ _ (w0 ?_)));clear hK K)))
   refine aq F ?_;(try refine sq F ?_);(repeat (first|refine w1 (fun K hK=>?_)|refine w2 ?_|refine w3 ?_| ((first|refine w4 ?_|refine wD ?_|refine w5 ?_|refine w6 ?_|refine w7 ?_);try refine sq F ?_)| (refine w8 ?_;refine sq F ?_;refine w9 ?_)| (refine rq F ?_;try refine sq F ?_)| (refine vq F ?_;try refine sq F ?_)| ((first|refine hK _ _ (w0 ?_)| (clear hK K;refine hK _ _ (w0 ?_))| (clear hK K;clear hK K;refine hK _ _ (w0 ?_)));clear hK K)))
   refine ee hQ F ?_;refine Fin.whole (by simp) (.bool _) ⟨⟨?_,by simp⟩,rfl,?_,?_,?_,?_⟩
   ·repeat (first|exact FrN.refl _ _|refine FrN.set _ (by omega) ?_|refine FrN.app _ (by simp;omega) ?_)
   ·exact zq F
   ·exact zq F
   ·exact zq F
   ·intro q v x h1 h2 h3 h4;have h5:=aw h1;have h2':pb≠q:=fun e=>h2 e.symm
    have h3':po≠q:=fun e=>h3 e.symm
    have h4':p.q≠q:=fun e=>h4 e.symm
    simp(disch:=first|omega| (simp only[go_sem, ↓reduceIte,seval];first|done|omega)|fail) only[go_sem, ↓reduceIte,seval,F,h1]
end
section
attribute [local irreducible] WP WPl WPix Sat
variable (G:Nat→Option (List AVal)) {H:Heap} {n0 pb po vo pd vd:Nat} {room:Bool} {os:List OE} {ds:List Elem}
theorem BH.app(l:Heap)(g:BH H n0 pb po vo room os pd vd ds):BH (H++l) n0 pb po vo room os pd vd ds:=
 ⟨by rw[bO _ (aw g.b)];exact g.b,by rw[bO _ (aw g.o)];exact g.o,by rw[bO _ (aw g.d)];exact g.d,
  fun i o h=>by rw[bO _ (aw (g.k i o h))];exact g.k i o h,g.od,g.ko,g.kk,g.n⟩
theorem qH(nm:Bs)(a:List At)(x:Bs)(g:BH H n0 pb po vo room os pd vd ds)(hos:os.length≤1000)(hds:ds.length≤1048576)(hk:∀o∈os,o.k.length≤1048576):
  Sat (CT G) 178 [.hp pb 0 0 0,.str nm] H (BPost n0 pb H (os.map OE.el) ds (stepB (os.map OE.el) ds (2,nm,a,x))):=by
 have no:(os=[]∨∃l o,os=l++[o]∧o.n≠nm)→Sat (CT G) 178 [.hp pb 0 0 0,.str nm] H (BPost n0 pb H (os.map OE.el) ds (stepB (os.map OE.el) ds (2,nm,a,x))):=fun hno=>by
  have e:stepB (os.map OE.el) ds (2,nm,a,x)=none:=qB _ _ _ (by
   rcases hno with rfl| ⟨l,o,rfl,h⟩
   ·exact .inl rfl
   ·exact .inr ⟨l.map OE.el,o.el,by simp,h⟩) _ _
  rw[e];refine(qE G nm g hos hno).mono ?_;rintro r h' ⟨rfl,rfl⟩;exact⟨⟨FrN.refl _ _,H5 _⟩,rfl⟩
 rcases P0 os with rfl| ⟨l,o,rfl⟩
 ·exact no (.inl rfl)
 ·rw[P1]at*;by_cases hn:o.n=nm
  ·subst hn;rcases P0 l with rfl| ⟨l,p,rfl⟩
   ·have:=qF G o g hds;have e:stepB (([]++[o]).map OE.el) ds (2,o.n,a,x)=some ([],ds++[o.el]):=qC ds o.el a x;rw[e];exact this
   ·rw[P1]at*;have e1:l++[p]++[o]=l++[p,o]:=(by simp);rw[e1]at g hk hos ⊢;have:=qG G l p o (by simp at hos;omega) (hk p (by simp)) g;have e:stepB ((l++[p,o]).map OE.el) ds (2,o.n,a,x)=some ((l++[(⟨p.n,p.a,p.t,p.k++[o.el],p.q,p.v+1⟩:OE)]).map OE.el,ds):=by
     have:=qD (l.map OE.el) ds p.el o.el a x;simpa [OE.el,Elem.name,Elem.attrs,Elem.text,Elem.kids]using this
    rw[e];exact this
  ·exact no (.inr ⟨l,o,rfl,hn⟩)
end
section
attribute [local irreducible] WP WPl WPix Sat
variable (G:Nat→Option (List AVal)) {H:Heap} {n0 pb po vo pd vd:Nat} {room:Bool} {os:List OE} {ds:List Elem}
theorem BPost.app{l:Heap}{a b:List Elem}{x:Option (List Elem×List Elem)}{r:AVal}{H':Heap}(hn:n0≤H.length)(g:BPost n0 pb (H++l) a b x r H'):BPost n0 pb H a b x r H':=by
 obtain⟨⟨g1,g2⟩,g3⟩:=g;exact⟨⟨(FrN.app _ (by omega) (FrN.refl _ _)).trans g1,by rw[H7]at g2;omega⟩,g3⟩
theorem BPost.bool{a b:List Elem}{x:Option (List Elem×List Elem)}{r:AVal}{H':Heap}(g:BPost n0 pb H a b x r H'):∃q,r=.bool q:=by
 obtain⟨_,g⟩:=g;cases x with
 |none=>exact⟨_,g⟩
 |some y=>exact⟨_,g.1⟩
theorem BH.start{C:Ctx}(hb:getRow H pb 0=some (186,2,[.agg [.nil (.slice none 0 0),.nil (.slice none 0 0)]]))(hn:n0≤pb):
  ∃H',(∀(ms:List Nat) (t:Env),Weak C ms t H t H')∧(FrN n0 H H'∧H.length≤H'.length)∧∃po pd,BH H' n0 pb po 0 true [] pd 0 []:=by
 have hlt:=aw hb;have g1:getRow (H.set pb (.row 186 2 0 [.agg [.hs H.length 0 0 0 true,.nil (.slice none 0 0)]])++[.row 76 4 0 []]) pb 0=some (186,2,[.agg [.hs H.length 0 0 0 true,.nil (.slice none 0 0)]]):=by
  rw[bO _ (by simpa using hlt),bV _ _ _ _ _ hlt];simp
 refine⟨_,fun ms t=>(S7 76 4 (by omega) hb 0 rfl).trans (S7 76 4 (by omega) g1 1 rfl),⟨fun p hp=>?_,by simp;omega⟩,H.length,H.length+1,?_⟩
 ·rw[H0 (by simp;omega),K6 (by omega),H0 (by simp;omega),K6 (by omega)]
 ·refine⟨?_,?_,?_,fun i o hi=>(by simp at hi),by omega,fun i o hi=>(by simp at hi),fun i j o o' hi=>(by simp at hi),⟨hn,by omega,by omega⟩⟩
  ·rw[bO _ (by simp;omega),bV _ _ _ _ _ (by simp;omega)];simp
  ·rw[bO _ (by simp),ba _ _ (by omega),bL _ (by simp)];rfl
  ·rw[bL _ (by simp)];rfl
theorem uW(hG:GOk G)(hC:GClo (CT G))(t:Tok)(ht:Tok.sz t≤1048576)(g:BH H n0 pb po vo room os pd vd ds)(hos:os.length≤1000)(hds:ds.length≤1048576)(hk:∀o∈os,o.k.length≤1048576)(htx:∀o∈os,o.t.length≤10000000):
  Sat (CT G) 114 [.hp pb 0 0 0,t.av] H (BPost n0 pb H (os.map OE.el) ds (stepB (os.map OE.el) ds t)):=by
 obtain⟨k,nm,at_,tx⟩:=t;have hsz:Tok.sz (k,nm,at_,tx)=1+nm.length+szs At.sz at_+tx.length:=rfl;have hal:=bF At.sz At.sz_pos at_;have hlb:=aw g.b;have hn:=g.n;by_cases h1:k=1
 ·subst h1;refine(uV G nm at_ tx (by omega) g hos hds).postw ?_;rintro r h' ⟨hfr,rfl,po',vo',br⟩;obtain⟨h'',hw,hfr2,bh⟩:=br.weak (C:=CT G);refine⟨h'',hw [],⟨hfr.1.trans hfr2.1,by omega⟩,?_⟩;unfold stepB;rw[G3 rfl];by_cases hc:(os.map OE.el).length+1≤32∧ds=[]
  ·rw[G3 hc];have e1:os.length≤31:=(by have:=hc.1;simp at this;omega);refine⟨by rw[G8 e1,hc.2];rfl,po',vo',true,_,pd,vd,bh,by simp[OE.el]⟩
  ·rw[G0 hc];show AVal.bool _=AVal.bool false;congr 1
   rw[U1];by_cases e1:os.length≤31
   ·right;rw[decide_eq_false_iff_not];intro e2;exact hc ⟨by simp;omega,K5.1 e2⟩
   ·left;simpa using e1
 have fin:∀(l:Heap) (x:Option (List Elem×List Elem)) (r:AVal) (H':Heap),BPost n0 pb (H++l) (os.map OE.el) ds x r H'→x=stepB (os.map OE.el) ds (k,nm,at_,tx)→Fin H H' (BPost n0 pb H (os.map OE.el) ds (stepB (os.map OE.el) ds (k,nm,at_,tx))) r:=by
  intro l x r H' gp hx;obtain⟨q,rfl⟩:=gp.bool;have hl:=gp.1.2;rw[H7]at hl;rw[← hx];exact Fin.whole (by omega) (.bool _) (BPost.app (by omega) gp)
 refine sb [.tmp 4] Tryz.func114 ?_;intro Q hQ;refine wk trivial ?_;refine cq trivial (fun c1=>?_) (fun c1=>?_)<;>(try exact c1.elim)<;>(refine wk trivial ?_)
 ·exact absurd c1 h1
 refine cq trivial (fun c2=>?_) (fun c2=>?_)<;>(try exact c2.elim)<;>(refine wk trivial ?_)
 ·subst c2;refine(qH G nm at_ tx (g.app _) hos hds hk).mono ?_;intro r h' gp;obtain⟨q,hq⟩:=gp.bool;subst hq;try refine sq trivial ?_
  refine wk trivial ?_;refine ee hQ trivial ?_;exact fin _ _ _ _ gp rfl
 refine cq trivial (fun c3=>?_) (fun c3=>?_)<;>(try exact c3.elim)<;>(refine wk trivial ?_)
 ·subst c3;refine(sN G hG hC tx (by omega) (g.app _) hos (fun o ho=>by have:=htx o ho;omega)).mono ?_;intro r h' gp;obtain⟨q,hq⟩:=gp.bool;subst hq;try refine sq trivial ?_
  refine wk trivial ?_;refine ee hQ trivial ?_;exact fin _ _ _ _ gp (by rw[ig _ _ _ _ _ _ rfl,ig _ _ _ _ _ _ rfl])
 ·refine ee hQ trivial ?_;have e:stepB (os.map OE.el) ds (k,nm,at_,tx)=none:=by
   unfold stepB;rw[G0 h1,G0 c2,G0 c3]
  rw[e];exact Fin.whole (by simp) (.bool _) ⟨⟨FrN.app _ (by omega) (FrN.refl _ _),by simp⟩,rfl⟩
end
end Go.Av
