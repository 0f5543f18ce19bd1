/- The document's answer for views: all, the rank of one; whether two lists of numbers are the same. -/
import Derived.Test.YtanjiiailjilbaaGreatMeNk
import Derived.Test.YtanjiiailjilbaaGreatMeKh
set_option linter.unusedSimpArgs false
set_option linter.unusedVariables false
set_option linter.unusedSectionVars false
set_option linter.unnecessarySimpa false
set_option maxRecDepth 100000
set_option maxHeartbeats 4000000
namespace Go.Av
open Go Go.Proofs Go.RowKit
attribute [local irreducible] WP WPl WPix Sat
def tgR(g:Bs):List Bs→Bool→List Bs
 | [],d=>if d then []else [g]
 |a::l,d=>if !d&&Op.bytesLess g a then g::((if a=g then []else [a])++tgR g l true)else(if a=g then []else [a])++tgR g l d
theorem lD(g:Bs)(l:List Bs):tgR g l true=l.filter fun a=>decide (a≠g):=by
 induction l with
 |nil=>rfl
 |cons a l ih=>
  rw[tgR,ih,List.filter_cons]
  by_cases h:a=g<;>simp[h]
theorem xf{g:Bs}{l:List Bs}(h:∀b∈l,Op.bytesLess g b=true):tgR g l false=g::l:=by
 cases l with
 |nil=>rfl
 |cons b l=>
  have hb:=h b (by simp)
  have hne:¬b=g:=fun e=>by rw[e,ca]at hb;cases hb
  rw[tgR,hb,lD]
  simp only[Bool.not_false,Bool.and_self,if_true,hne,if_false,List.singleton_append,List.cons.injEq,true_and]
  rw[List.filter_eq_self]
  intro c hc
  have hc2:=h c (by simp[hc])
  simp only[decide_eq_true_eq]
  intro e;rw[e,ca]at hc2;cases hc2
theorem kr{g:Bs}{l:List Bs}(h:g ∉ l):(l.filter fun a=>decide (a≠g))=l:=by
 rw[List.filter_eq_self]
 intro c hc
 simp only[decide_eq_true_eq]
 rintro rfl;exact h hc
theorem rV{g:Bs}:∀{l:List Bs},Srt l→tgR g l false=if g∈l then l else l.take (lbF l g)++g::l.drop (lbF l g)
 | [],_=>by simp[tgR]
 |a::l,hs=>by
  have hs':=hs
  unfold Srt at hs'
  rw[List.pairwise_cons]at hs'
  rw[eJ]
  cases hag:Op.bytesLess a g with
  |true=>
   have hne:¬a=g:=fun e=>by rw[e,ca]at hag;cases hag
   have hga:Op.bytesLess g a=false:=by
    cases hq:Op.bytesLess g a with
    |false=>rfl
    |true=>have:=eI hag hq;rw[ca]at this;cases this
   have hm:(g∈a::l)=(g∈l):=by rw[List.mem_cons];exact propext ⟨fun q=>q.resolve_left fun e=>hne e.symm,.inr⟩
   rw[tgR,hga,rV hs'.2]
   simp only[Bool.and_false,Bool.false_eq_true,if_false,hne,if_true,hm,List.singleton_append]
   split<;>simp
  |false=>
   simp only[Bool.false_eq_true,if_false,List.take_zero,List.drop_zero,List.nil_append]
   by_cases he:a=g
   ·subst he
    rw[tgR,hag,xf hs'.1]
    simp
   ·have hga:Op.bytesLess g a=true:=by
     cases hq:Op.bytesLess g a with
     |true=>rfl
     |false=>exact(he (mE a g hag hq)).elim
    have hgl:g ∉ a::l:=by
     intro q
     rcases List.mem_cons.1 q with q|q
     ·exact he q.symm
     ·have:=eI hga (hs'.1 g q);rw[ca]at this;cases this
    rw[if_neg hgl,tgR,hga,lD,kr (fun q=>hgl (List.mem_cons_of_mem _ q))]
    simp[he]
theorem oH{g:Bs}:∀{l:List Bs},Srt l→tgR g l true=if g∈l then l.take (lbF l g)++l.drop (lbF l g+1)else l
 | [],_=>by simp[tgR]
 |a::l,hs=>by
  have hs':=hs
  unfold Srt at hs'
  rw[List.pairwise_cons]at hs'
  by_cases hm:g∈a::l
  ·rw[if_pos hm,eJ]
   cases hag:Op.bytesLess a g with
   |true=>
    have hne:¬a=g:=fun e=>by rw[e,ca]at hag;cases hag
    have hl:g∈l:=(List.mem_cons.1 hm).resolve_left fun e=>hne e.symm
    have ih:=oH (g:=g) hs'.2
    rw[if_pos hl]at ih
    rw[tgR,ih]
    simp[hne]
   |false=>
    have he:a=g:=by
     rcases List.mem_cons.1 hm with q|q
     ·exact q.symm
     ·have:=hs'.1 g q;rw[hag]at this;cases this
    subst he
    have hl:a ∉ l:=fun q=>by have:=hs'.1 a q;rw[ca]at this;cases this
    rw[lD,List.filter_cons,kr hl]
    simp
  ·rw[if_neg hm,lD,kr hm]
theorem xg{l:List Bs}(hs:Srt l)(g:Bs){n:Int}(hn:n=0∨n=1):tgR g l (!(n==1))=tgF l g n:=by
 unfold tgF
 rcases hn with rfl|rfl
 ·rw[show(!((0:Int)==1))=true from rfl,oH hs]
  by_cases h:g∈l
  ·rw[if_pos h,if_neg (fun q=>absurd q.1 (by decide)),if_pos ⟨rfl,h⟩]
  ·rw[if_neg h,if_neg (fun q=>absurd q.1 (by decide)),if_neg (fun q=>h q.2)]
 ·rw[show(!((1:Int)==1))=false from rfl,rV hs]
  by_cases h:g∈l
  ·rw[if_pos h,if_neg (fun q=>q.2 h),if_neg (fun q=>absurd q.1 (by decide))]
  ·rw[if_neg h,if_pos ⟨rfl,h⟩]
variable (G:Nat→Option (List AVal))
theorem rW(l:List Bs)(g:Bs)(w:Bool)(hl:l.length≤100000)(h:Heap):Sat (CT G) 83 [.sl 1 (l.map .str),.str g,.bool w] h (fun r h'=>r=.sl 1 ((tgR g l (!w)).map .str)∧h'=h):=by
 have hel:(l.map AVal.str).length=l.length:=List.length_map ..
 have F:=hel
 refine sb [.tmp 6] (fn:=Tryz.f83) Tryz.func83 ?_
 intro Q hQ
 refine wk F ?_
 refine lm (fun nL tL hL=>∃(i v:Nat) (acc:List Bs) (d:Bool),l.length-i=nL∧h++[.row 9 1 v (acc.map .str)]=hL∧tL 0=.sl 1 (l.map .str)∧tL 1=.str g∧tL 7=.hs h.length v 0 acc.length true∧tL 8=.bool d∧tL 9=.int .i64 i∧i≤l.length∧acc.length≤2*i∧acc++tgR g (l.drop i) d=tgR g l (!w)) ((fun(i v:Nat) (acc:List Bs) (d:Bool)=>(l.length-i:Nat)) (0) (0) ([]) (!w)) ?_ ?_
 ·refine⟨_,_,Weak.virt 7 9 1 (by simp) (by omega) (by exact zq F),⟨0,0,[], !w,rfl,ay,?_,?_,?_,?_,?_,by omega,by simp,rfl⟩⟩
  all_goals first|exact zq F|rfl|omega|trivial|skip
 rintro _ s2 h' ⟨i,v,acc,d,rfl,rfl,e0,e1,e7,e8,e9,hi,hac,hp⟩ K2 hK2
 simp only[ak,ao,Nat.reduceEqDiff, ↓reduceIte]at e0 e1 e7 e8 e9
 have F:=F6 F e0 e1 e7 e8 e9
 refine wk F ?_
 refine cq F (fun c1=>?_) (fun c1=>?_)<;>(try exact c1.elim)<;>(refine wk F ?_)
 ·have c2:i<l.length:=by omega
  obtain⟨y,hy,_⟩:=ac c2
  rw[aD hy,tgR]at hp
  have hd:=two d
  have he:=two (y==g)
  rcases hd with hd|hd<;>subst hd
  ·simp only[Bool.not_true,Bool.false_and,Bool.false_eq_true,if_false]at hp
   rcases he with he|he
   ·have he2:y=g:=by simpa using he
    rw[if_pos he2,List.nil_append]at hp
    have F:=F4 F c2 hy he
    try refine sq F ?_
    refine wk F ?_
    refine hK2 _ _ _ (Wkn.refl ⟨i+1,v,acc,true,rfl,rfl,?_,?_,?_,?_,?_,by omega,by omega,hp⟩) (by omega)
    all_goals first|exact zq F|rfl|omega|trivial|skip
   ·have he2:¬y=g:=by simpa using he
    rw[if_neg he2,List.singleton_append]at hp
    have F:=F4 F c2 hy he
    try refine sq F ?_
    refine wk F ?_
    refine aq F ?_
    try refine sq F ?_
    refine wk F ?_
    refine hK2 _ _ _ (Wkn.refl ⟨i+1,v+1,acc++[y],true,rfl,by simp,?_,?_,?_,?_,?_,by omega,by simp;omega,by rw[← hp];simp⟩) (by omega)
    all_goals first|exact zq F|rfl|omega|trivial|skip
  ·have hb:=two (Op.bytesLess g y)
   rcases hb with hb|hb<;>rcases he with he|he
   ·have he2:y=g:=by simpa using he
    rw[he2,ca]at hb;cases hb
   ·have he2:¬y=g:=by simpa using he
    rw[hb,if_pos (by simp),if_neg he2,List.singleton_append]at hp
    have F:=F5 F c2 hy hb he
    try refine sq F ?_
    refine wk F ?_
    refine aq F ?_
    try refine sq F ?_
    refine wk F ?_
    refine aq F ?_
    try refine sq F ?_
    refine wk F ?_
    refine hK2 _ _ _ (Wkn.refl ⟨i+1,v+1+1,acc++[g]++[y],true,rfl,by simp,?_,?_,?_,?_,?_,by omega,by simp;omega,by rw[← hp];simp⟩) (by omega)
    all_goals first|exact zq F|rfl|omega|trivial|skip
   ·have he2:y=g:=by simpa using he
    rw[hb,if_neg (by simp),if_pos he2,List.nil_append]at hp
    have F:=F5 F c2 hy hb he
    try refine sq F ?_
    refine wk F ?_
    refine hK2 _ _ _ (Wkn.refl ⟨i+1,v,acc,false,rfl,rfl,?_,?_,?_,?_,?_,by omega,by omega,hp⟩) (by omega)
    all_goals first|exact zq F|rfl|omega|trivial|skip
   ·have he2:¬y=g:=by simpa using he
    rw[hb,if_neg (by simp),if_neg he2,List.singleton_append]at hp
    have F:=F5 F c2 hy hb he
    try refine sq F ?_
    refine wk F ?_
    refine aq F ?_
    try refine sq F ?_
    refine wk F ?_
    refine hK2 _ _ _ (Wkn.refl ⟨i+1,v+1,acc++[y],false,rfl,by simp,?_,?_,?_,?_,?_,by omega,by simp;omega,by rw[← hp];simp⟩) (by omega)
    all_goals first|exact zq F|rfl|omega|trivial|skip
 ·rw[aI (by omega),tgR]at hp
  have hd:=two d
  rcases hd with hd|hd
  ·subst hd
   try refine sq F ?_
   refine wk F ?_
   refine ee hQ F ?_
   simp only[if_true,List.append_nil]at hp
   rw[← hp]
   have hg:getRow (h++[.row 9 1 v (acc.map .str)]) h.length v=some (9,1,acc.map .str):=by rw[aE _ rfl];simp[getRow]
   exact Fin.frz (iW (Nat.le_refl _) hg) ⟨rfl,rfl⟩
  ·subst hd
   try refine sq F ?_
   refine wk F ?_
   refine aq F ?_
   try refine sq F ?_
   refine wk F ?_
   refine ee hQ F ?_
   simp only[Bool.false_eq_true,if_false]at hp
   rw[← hp]
   have hg:getRow (h++[.row 9 1 (v+1) ((acc++[g]).map .str)]) h.length (v+1)=some (9,1,(acc++[g]).map .str):=by rw[aE _ rfl];simp[getRow]
   have hz:=Fin.frz (R:=fun r h'=>r=.sl 1 ((acc++[g]).map AVal.str)∧h'=h) (iW (Nat.le_refl _) hg) ⟨rfl,rfl⟩
   simpa using hz
end Go.Av
namespace Go.Av
open Go Go.Proofs Go.RowKit
attribute [local irreducible] WP WPl WPix Sat
section
theorem lE{α:Type}{key:α→Int}{l:List α}{id:Int}{o:Option α}(h:fnd key l id=o):decide (posF key l id<0)= !o.isSome:=by
 subst h
 cases hf:fnd key l id with
 |none=>rw[fH hf];rfl
 |some a=>obtain⟨k,_,h2,_⟩:=bq hf;rw[h2];simp
theorem dY{α:Type}{key:α→Int}{l:List α}{id:Int}{o:Option α}(h:fnd key l id=o):decide (posF key l id≥0)=o.isSome:=by
 subst h
 cases hf:fnd key l id with
 |none=>rw[fH hf];rfl
 |some a=>obtain⟨k,_,h2,_⟩:=bq hf;rw[h2];simp
variable {s:PS} {e:Ev}
theorem xh(hI:s.Inv):∀{k:Nat} {id:Int} {d n:Nat},(id=0∨(lkM s.fo id).isSome=true)→deepO s.fo k id=some d→s.tell.dpW k id n=n+d:=by
 intro k
 induction k with
 |zero=>
  intro id d n hv hd
  rw[deepO]at hd
  split at hd
  ·cases hd
  ·rename_i hs
   cases hd
   rcases hv with hv|hv
   ·rw[St.dpW,if_pos hv];rfl
   ·exact(hs hv).elim
 |succ k ih=>
  intro id d n hv hd
  by_cases h0:id=0
  ·subst h0
   rw[deepO,hI.no0]at hd
   cases hd
   rw[St.dpW,if_pos rfl];rfl
  ·obtain⟨f,hf⟩:=Option.isSome_iff_exists.1 (hv.resolve_left h0)
   rw[deepO,hf]at hd
   simp only[Option.map_eq_some_iff]at hd
   obtain⟨j,hj,rfl⟩:=hd
   rw[St.dpW,if_neg h0,hI.fndFo,hf]
   simp only
   rw[ih (hI.u1 _ _ hf) hj]
   omega
theorem vQ(hI:s.Inv)(id:Int):s.tell.deep id=s.dpt id:=by
 unfold St.deep
 rw[hI.fndFo]
 obtain⟨h1,_⟩:=hI.deep id
 cases hf:lkM s.fo id with
 |none=>
  rw[deepO,hf]at h1
  simp only[Option.some.injEq]at h1
  exact h1
 |some f=>
  simp only
  rw[xh hI (.inr (by rw[hf];rfl)) h1];omega
theorem xi(hI:s.Inv)(hN:s.Nam)(i:Int)(g:Bs):(!s.tell.nmd i g)=((lkM s.nm (i,g)).getD 0==0):=by
 have h1:s.tell.nmd i g=(lkM s.nm (i,g)).isSome:=by
  unfold St.nmd
  rw[Bool.eq_iff_iff,List.any_eq_true]
  constructor
  ·rintro⟨f,hf,hp⟩
   obtain⟨k,hk⟩:=aK hf
   have:=hN.n2 k f hk
   simp only[decide_eq_true_eq]at hp
   rw[hp.1,hp.2]at this
   rw[this];rfl
  ·intro hs
   obtain⟨k,hk⟩:=Option.isSome_iff_exists.1 hs
   obtain⟨f,hf,hp⟩:=hN.n1 _ _ hk
   refine⟨f,bw hf,?_⟩
   simp only[decide_eq_true_eq]
   cases hp;exact⟨rfl,rfl⟩
 rw[h1]
 cases hl:lkM s.nm (i,g)with
 |none=>rfl
 |some j=>
  have:=hN.nm1 hI hl
  rw[Bool.eq_iff_iff];simp;omega
theorem xj(hI:s.Inv)(hN:s.Nam)(u:Bs):s.tell.plc u=(lkM s.pl u).getD 0:=by
 unfold St.plc
 cases hf:s.tell.fe.find? fun f=>decide (f.url=u)with
 |none=>
  cases hl:lkM s.pl u with
  |none=>rfl
  |some k=>
   obtain⟨f,hk,hu⟩:=hN.p1 _ _ hl
   have:=List.find?_eq_none.1 hf f (bw hk)
   simp[hu]at this
 |some f=>
  have h1:=List.find?_some hf
  obtain⟨k,hk⟩:=aK (List.mem_of_find?_eq_some hf)
  simp only[decide_eq_true_eq]at h1
  have:=hN.p2 k f hk
  rw[h1]at this
  rw[this]
  simp only[Option.map_some,Option.getD_some]
  exact(hI.i2 _ _ hk).1
theorem xk(hI:s.Inv)(hN:s.Nam)(i:Int)(g:Bs):s.tell.gid i g=(lkM s.gu (i,g)).getD 0:=by
 unfold St.gid
 cases hf:s.tell.it.find? fun t=>decide (t.feed=i∧t.guid=g)with
 |none=>
  cases hl:lkM s.gu (i,g)with
  |none=>rfl
  |some k=>
   obtain⟨t,hk,hu⟩:=hN.g1 _ _ hl
   have:=List.find?_eq_none.1 hf t (bw hk)
   cases hu
   simp at this
 |some t=>
  have h1:=List.find?_some hf
  obtain⟨k,hk⟩:=aK (List.mem_of_find?_eq_some hf)
  simp only[decide_eq_true_eq]at h1
  have:=hN.g2 k t hk
  rw[h1.1,h1.2]at this
  rw[this]
  simp only[Option.map_some,Option.getD_some]
  exact(hI.i3 _ _ hk).1
theorem xm(hI:s.Inv){a:Int}(ha:a≠0):s.tell.emp a=((lkM s.he a).getD 0==0):=by
 have h1:=hI.hd a ha
 have hz:∀{α:Type} (z:α) (w:α→Int) (p:α→Bool) (l:ML Int α),(∀x,w x=if p x then 1 else 0)→(l.map (·.1)).Nodup→(((valsM z l).any p)=false↔sumM w l=0):=fun {α} z w p l hw hn=>by
  have hnn:∀x,0≤w x:=fun x=>by rw[hw];split<;>omega
  constructor
  ·intro h
   have:∀e∈l,w e.2.1=0:=fun e he=>by
    have hm:e.2.1∈valsM z l:=bw (cn hn (b:=e.2.2) he)
    have:=List.any_eq_false.1 h _ hm
    rw[hw];simp[this]
   clear h hn
   induction l with
   |nil=>rfl
   |cons e l ih=>rw[sumM,this e (by simp),ih fun x hx=>this x (by simp[hx])];rfl
  ·intro h
   rw[List.any_eq_false]
   intro x hx
   obtain⟨k,hk⟩:=aK hx
   have:=mH hnn (by omega:sumM w l≤0) hk
   rw[hw]at this
   intro hp
   rw[if_pos hp]at this
   cases this
 have hz1:=hz Fo.z (inFo a) (fun f=>decide (f.inn=a)) s.fo (fun x=>by unfold inFo;simp) hI.w1.keys
 have hz2:=hz Fe.z (inFe a) (fun f=>decide (f.inn=a)) s.fe (fun x=>by unfold inFe;simp) hI.w2.keys
 have n1:=cu (fE a) s.fo
 have n2:=cu (fF a) s.fe
 rw[h1]
 unfold St.emp
 change (!((valsM Fo.z s.fo).any fun f=>decide (f.inn=a))&& !((valsM Fe.z s.fe).any fun f=>decide (f.inn=a)))=_
 rw[Bool.eq_iff_iff]
 simp only[Bool.and_eq_true,Bool.not_eq_true',beq_iff_eq]
 rw[hz1,hz2]
 omega
theorem qe(s:PS):s.tell.fo.length=s.fo.length∧s.tell.fe.length=s.fe.length∧s.tell.it.length=s.it.length∧s.tell.se.length=s.se.length:=⟨aG _,aG _,aG _,aG _⟩
theorem fL(n m:Nat):decide ((n:Int)<(m:Int))=decide (n<m):=by rw[decide_eq_decide];omega
theorem Ea(hI:s.Inv)(hN:s.Nam)(hck:L0.ck e=true)(k:e.kind=1):s.ok L0 e=((decide (posF (·.id) s.tell.fo e.a<0))&&(decide ((s.tell.fo.length:Int)<64))&&(s.within e.b)&&(decide ((s.tell.deep e.b:Int)<7))&&(!s.tell.nmd e.b e.s)):=by
 have q1:decide ((s.fo.length:Int)<64)=decide (s.fo.length<64):=fL _ _
 have q2:decide (((s.dpt e.b):Int)<7)=decide ((s.dpt e.b)<7):=fL _ _
 unfold PS.ok PS.fits
 rw[hck,if_pos k,lE (hI.fndFo e.a),xi hI hN,vQ hI,(qe s).1,Bool.true_and,q1,q2]
theorem Eb(hI:s.Inv)(hN:s.Nam)(hck:L0.ck e=true)(k:e.kind=2):s.ok L0 e=((decide (posF (·.id) s.tell.fo e.a≥0))&&(s.tell.emp e.a)):=by
 have ha:1≤e.a:=by
  unfold Leaf.ck at hck
  simp only[Bool.and_eq_true]at hck
  exact(mI hck.1 (by omega)).1
 unfold PS.ok PS.fits
 rw[hck,if_neg (by omega),if_pos k,dY (hI.fndFo e.a),xm hI (by omega),Bool.true_and]
theorem Ec(hI:s.Inv)(hN:s.Nam)(hck:L0.ck e=true)(k:e.kind=3):s.ok L0 e=((decide (posF (·.id) s.tell.fe e.a<0))&&(decide ((s.tell.fe.length:Int)<64))&&(s.within e.b)&&(s.tell.plc e.s==0)):=by
 have q1:decide ((s.fe.length:Int)<64)=decide (s.fe.length<64):=fL _ _
 unfold PS.ok PS.fits
 rw[hck,if_neg (by omega),if_neg (by omega),if_pos k,lE (hI.fndFe e.a),xj hI hN,(qe s).2.1,Bool.true_and,q1]
theorem Ed(hI:s.Inv)(hN:s.Nam)(hck:L0.ck e=true)(k:e.kind=4):s.ok L0 e=((decide (posF (·.id) s.tell.fe e.a≥0))):=by
 unfold PS.ok PS.fits
 rw[hck,if_neg (by omega),if_neg (by omega),if_neg (by omega),if_pos (.inl k),dY (hI.fndFe e.a),Bool.true_and]
theorem Ee(hI:s.Inv)(hN:s.Nam)(hck:L0.ck e=true)(k:e.kind=5):s.ok L0 e=((decide (posF (·.id) s.tell.fe e.a≥0))):=by
 unfold PS.ok PS.fits
 rw[hck,if_neg (by omega),if_neg (by omega),if_neg (by omega),if_pos (.inr k),dY (hI.fndFe e.a),Bool.true_and]
theorem Ef(hI:s.Inv)(hN:s.Nam)(hck:L0.ck e=true)(k:e.kind=6):s.ok L0 e=((decide (posF (·.id) s.tell.fe e.a≥0))&&(s.within e.b)):=by
 unfold PS.ok PS.fits
 rw[hck,if_neg (by omega),if_neg (by omega),if_neg (by omega),if_neg (by omega),if_pos k,dY (hI.fndFe e.a),Bool.true_and]
theorem Eg(hI:s.Inv)(hN:s.Nam)(hck:L0.ck e=true)(k:e.kind=7):s.ok L0 e=((decide (posF (·.id) s.tell.it e.a<0))&&(decide ((s.tell.it.length:Int)<1024))&&(decide (posF (·.id) s.tell.fe e.b≥0))&&(s.tell.gid e.b e.s==0)):=by
 have q1:decide ((s.it.length:Int)<1024)=decide (s.it.length<1024):=fL _ _
 unfold PS.ok PS.fits
 rw[hck,if_neg (by omega),if_neg (by omega),if_neg (by omega),if_neg (by omega),if_neg (by omega),if_pos k,lE (hI.fndIt e.a),dY (hI.fndFe e.b),xk hI hN,(qe s).2.2.1,Bool.true_and,q1]
theorem Eh(hI:s.Inv)(hN:s.Nam)(hck:L0.ck e=true)(k:e.kind=8):s.ok L0 e=((decide (posF (·.id) s.tell.it e.a≥0))):=by
 unfold PS.ok PS.fits
 rw[hck,if_neg (by omega),if_neg (by omega),if_neg (by omega),if_neg (by omega),if_neg (by omega),if_neg (by omega),if_pos (.inl k),dY (hI.fndIt e.a),Bool.true_and]
theorem Ei(hI:s.Inv)(hN:s.Nam)(hck:L0.ck e=true)(k:e.kind=9):s.ok L0 e=((decide (posF (·.id) s.tell.it e.a≥0))):=by
 unfold PS.ok PS.fits
 rw[hck,if_neg (by omega),if_neg (by omega),if_neg (by omega),if_neg (by omega),if_neg (by omega),if_neg (by omega),if_pos (.inr k),dY (hI.fndIt e.a),Bool.true_and]
theorem zY(hI:s.Inv)(hN:s.Nam)(hck:L0.ck e=true)(k:e.kind=11):s.ok L0 e=((decide (posF (·.id) s.tell.se e.a<0))&&(decide ((s.tell.se.length:Int)<32))):=by
 have q1:decide ((s.se.length:Int)<32)=decide (s.se.length<32):=fL _ _
 unfold PS.ok PS.fits
 rw[hck,if_neg (by omega),if_neg (by omega),if_neg (by omega),if_neg (by omega),if_neg (by omega),if_neg (by omega),if_neg (by omega),if_neg (by omega),if_pos k,lE (hI.fndSe e.a),(qe s).2.2.2,Bool.true_and,q1]
theorem zZ(hI:s.Inv)(hN:s.Nam)(hck:L0.ck e=true)(k:e.kind=12):s.ok L0 e=((decide (posF (·.id) s.tell.se e.a≥0))):=by
 unfold PS.ok PS.fits
 rw[hck,if_neg (by omega),if_neg (by omega),if_neg (by omega),if_neg (by omega),if_neg (by omega),if_neg (by omega),if_neg (by omega),if_neg (by omega),if_neg (by omega),if_pos k,dY (hI.fndSe e.a),Bool.true_and]
theorem Ej(hI:s.Inv)(hN:s.Nam)(hck:L0.ck e=true)(k1:¬e.kind=1)(k2:¬e.kind=2)(k3:¬e.kind=3)(k4:¬e.kind=4)(k5:¬e.kind=5)(k6:¬e.kind=6)(k7:¬e.kind=7)(k8:¬e.kind=8)(k9:¬e.kind=9)(k11:¬e.kind=11)(k12:¬e.kind=12)(k10:¬e.kind=10):s.ok L0 e=decide (e.n≥s.clock):=by
 unfold PS.ok PS.fits
 rw[hck,if_neg k1,if_neg k2,if_neg k3,if_neg (by omega),if_neg k6,if_neg k7,if_neg (by omega),if_neg k10,if_neg k11,if_neg k12,Bool.true_and]
end
variable (G:Nat→Option (List AVal))
theorem aU(hc:GClo (CT G)){s:PS}(hI:s.Inv)(hN:s.Nam)(e:Ev)(h:Heap):Sat (CT G) 79 [s.tell.av,e.av] h (fun r h'=>r=.bool (s.ok L0 e)∧h'=h):=by
 have hl1:s.tell.fo.length≤100000:=by have:=hI.up.l1;omega
 have hl2:s.tell.fe.length≤100000:=by have:=hI.up.l2;omega
 have hl3:s.tell.it.length≤100000:=by have:=hI.up.l3;omega
 have hl4:s.tell.se.length≤100000:=by have:=aG (z:=Se.z) s.se;have:=hI.l4;show(valsM Se.z s.se).length≤_;omega
 have hm1:(s.tell.fo.map Fo.av).length=s.tell.fo.length:=List.length_map ..
 have hm2:(s.tell.fe.map Fe.av).length=s.tell.fe.length:=List.length_map ..
 have hm3:(s.tell.it.map It.av).length=s.tell.it.length:=List.length_map ..
 have hm4:(s.tell.se.map Se.av).length=s.tell.se.length:=List.length_map ..
 have hcl:s.tell.clock=s.clock:=rfl
 have hB:=cA G s.tell e.b hl1
 have hw:=dY (hI.fndFo e.b)
 have hC:=q9 G hc e
 cases hck:L0.ck e with
 |false=>
  rw[hck]at hC
  refine sb [.tmp 4] (fn:=Tryz.f79) Tryz.func79 ?_
  intro Q hQ
  (repeat (first|refine w1 (fun K hK=>?_)|refine w2 ?_|refine w3 ?_| ((first|refine w4 ?_|refine wD ?_|refine w5 ?_|refine w6 ?_|refine w7 ?_);try refine sq trivial ?_)| (refine w8 ?_;refine sq trivial ?_;refine w9 ?_)| ((first|refine hK _ _ (w0 ?_)| (clear hK K;refine hK _ _ (w0 ?_))| (clear hK K;clear hK K;refine hK _ _ (w0 ?_)));clear hK K)))
  refine(hC _).mono ?_
  rintro r h' ⟨rfl,rfl⟩
  try refine sq trivial ?_
  (repeat (first|refine w1 (fun K hK=>?_)|refine w2 ?_|refine w3 ?_| ((first|refine w4 ?_|refine wD ?_|refine w5 ?_|refine w6 ?_|refine w7 ?_);try refine sq trivial ?_)| (refine w8 ?_;refine sq trivial ?_;refine w9 ?_)| ((first|refine hK _ _ (w0 ?_)| (clear hK K;refine hK _ _ (w0 ?_))| (clear hK K;clear hK K;refine hK _ _ (w0 ?_)));clear hK K)))
  refine ee hQ trivial ?_
  exact Fin.plain (.bool _) ⟨by simp[PS.ok,PS.fits,hck],rfl⟩
 |true=>
  rw[hck]at hC
  refine sb [.tmp 4] (fn:=Tryz.f79) Tryz.func79 ?_
  intro Q hQ
  (repeat (first|refine w1 (fun K hK=>?_)|refine w2 ?_|refine w3 ?_| ((first|refine w4 ?_|refine wD ?_|refine w5 ?_|refine w6 ?_|refine w7 ?_);try refine sq trivial ?_)| (refine w8 ?_;refine sq trivial ?_;refine w9 ?_)))
  refine hK _ _ (Wkn.refl ?_)
  clear hK K
  (repeat (first|refine w1 (fun K hK=>?_)|refine w2 ?_|refine w3 ?_| ((first|refine w4 ?_|refine wD ?_|refine w5 ?_|refine w6 ?_|refine w7 ?_);try refine sq trivial ?_)| (refine w8 ?_;refine sq trivial ?_;refine w9 ?_)))
  refine(hC _).mono ?_
  rintro r h' ⟨rfl,rfl⟩
  try refine sq trivial ?_
  (repeat (first|refine w1 (fun K hK=>?_)|refine w2 ?_|refine w3 ?_| ((first|refine w4 ?_|refine wD ?_|refine w5 ?_|refine w6 ?_|refine w7 ?_);try refine sq trivial ?_)| (refine w8 ?_;refine sq trivial ?_;refine w9 ?_)| ((first|refine hK _ _ (w0 ?_)| (clear hK K;refine hK _ _ (w0 ?_))| (clear hK K;clear hK K;refine hK _ _ (w0 ?_)));clear hK K)))
  generalize hH:h++[.row 34 9 0 [s.tell.av],.row 45 7 0 [e.av]]=H
  have key:∀(T:Env) (y:Bool),T 2=.hp h.length 0 0 0→T 3=.hp (h.length+1) 0 0 0→T 5=.bool y→y=s.within e.b→K T H:=by
   subst hH
   intro T y e2 e3 e5 hy
   by_cases k1:e.kind=1
   ·have hres:s.ok L0 e=((decide (posF (·.id) s.tell.fo e.a<0))&&(decide ((s.tell.fo.length:Int)<64))&&(y)&&(decide ((s.tell.deep e.b:Int)<7))&&(!s.tell.nmd e.b e.s)):=by subst hy;exact Ea hI hN hck k1
    have ht:=H1 (decide (posF (·.id) s.tell.fo e.a<0)) (decide ((s.tell.fo.length:Int)<64)) (y) (decide ((s.tell.deep e.b:Int)<7))
    rcases ht with ht|ht|ht|ht|ht
    all_goals (
     have F:=jg e2 e3 e5 hm1 hm2 hm3 hm4 hcl k1 ht
     refine hK _ _ (Wkn.refl ?_)
     clear hK K
     refine wk F ?_
     repeat (first|refine kq F (cA G s.tell e.a hl1 _) ?_|refine kq F (rU G s.tell e.b hl1 _) ?_|refine kq F (qb G s.tell e.b e.s hl1 _) ?_)
     refine ee hQ F ?_
     refine Fin.plain (.bool _) ⟨?_,rfl⟩
     rw[hres]
     simp[ht])
   by_cases k2:e.kind=2
   ·have hres:s.ok L0 e=((decide (posF (·.id) s.tell.fo e.a≥0))&&(s.tell.emp e.a)):=by subst hy;exact Eb hI hN hck k2
    have ht:=mP (decide (posF (·.id) s.tell.fo e.a≥0))
    rcases ht with ht|ht
    all_goals (
     have F:=jg e2 e3 e5 hm1 hm2 hm3 hm4 hcl k2 ht
     refine hK _ _ (Wkn.refl ?_)
     clear hK K
     refine wk F ?_
     repeat (first|refine kq F (cA G s.tell e.a hl1 _) ?_|refine kq F (qc G s.tell e.a hl1 hl2 _) ?_)
     refine ee hQ F ?_
     refine Fin.plain (.bool _) ⟨?_,rfl⟩
     rw[hres]
     simp[ht])
   by_cases k3:e.kind=3
   ·have hres:s.ok L0 e=((decide (posF (·.id) s.tell.fe e.a<0))&&(decide ((s.tell.fe.length:Int)<64))&&(y)&&(s.tell.plc e.s==0)):=by subst hy;exact Ec hI hN hck k3
    have ht:=rQ (decide (posF (·.id) s.tell.fe e.a<0)) (decide ((s.tell.fe.length:Int)<64)) (y)
    rcases ht with ht|ht|ht|ht
    all_goals (
     have F:=jg e2 e3 e5 hm1 hm2 hm3 hm4 hcl k3 ht
     refine hK _ _ (Wkn.refl ?_)
     clear hK K
     refine wk F ?_
     repeat (first|refine kq F (cL G s.tell e.a hl2 _) ?_|refine kq F (qa G s.tell e.s hl2 _) ?_)
     refine ee hQ F ?_
     refine Fin.plain (.bool _) ⟨?_,rfl⟩
     rw[hres]
     simp[ht])
   by_cases k4:e.kind=4
   ·have hres:s.ok L0 e=((decide (posF (·.id) s.tell.fe e.a≥0))):=by subst hy;exact Ed hI hN hck k4
    all_goals (
     have F:=F9 e2 e3 e5 hm1 hm2 hm3 hm4 hcl k4
     refine hK _ _ (Wkn.refl ?_)
     clear hK K
     refine wk F ?_
     repeat (first|refine kq F (cL G s.tell e.a hl2 _) ?_)
     refine ee hQ F ?_
     refine Fin.plain (.bool _) ⟨?_,rfl⟩
     rw[hres]
     try rfl)
   by_cases k5:e.kind=5
   ·have hres:s.ok L0 e=((decide (posF (·.id) s.tell.fe e.a≥0))):=by subst hy;exact Ee hI hN hck k5
    all_goals (
     have F:=F9 e2 e3 e5 hm1 hm2 hm3 hm4 hcl k5
     refine hK _ _ (Wkn.refl ?_)
     clear hK K
     refine wk F ?_
     repeat (first|refine kq F (cL G s.tell e.a hl2 _) ?_)
     refine ee hQ F ?_
     refine Fin.plain (.bool _) ⟨?_,rfl⟩
     rw[hres]
     try rfl)
   by_cases k6:e.kind=6
   ·have hres:s.ok L0 e=((decide (posF (·.id) s.tell.fe e.a≥0))&&(y)):=by subst hy;exact Ef hI hN hck k6
    have ht:=mP (decide (posF (·.id) s.tell.fe e.a≥0))
    rcases ht with ht|ht
    all_goals (
     have F:=jg e2 e3 e5 hm1 hm2 hm3 hm4 hcl k6 ht
     refine hK _ _ (Wkn.refl ?_)
     clear hK K
     refine wk F ?_
     repeat (first|refine kq F (cL G s.tell e.a hl2 _) ?_)
     refine ee hQ F ?_
     refine Fin.plain (.bool _) ⟨?_,rfl⟩
     rw[hres]
     simp[ht])
   by_cases k7:e.kind=7
   ·have hres:s.ok L0 e=((decide (posF (·.id) s.tell.it e.a<0))&&(decide ((s.tell.it.length:Int)<1024))&&(decide (posF (·.id) s.tell.fe e.b≥0))&&(s.tell.gid e.b e.s==0)):=by subst hy;exact Eg hI hN hck k7
    have ht:=rQ (decide (posF (·.id) s.tell.it e.a<0)) (decide ((s.tell.it.length:Int)<1024)) (decide (posF (·.id) s.tell.fe e.b≥0))
    rcases ht with ht|ht|ht|ht
    all_goals (
     have F:=jg e2 e3 e5 hm1 hm2 hm3 hm4 hcl k7 ht
     refine hK _ _ (Wkn.refl ?_)
     clear hK K
     refine wk F ?_
     repeat (first|refine kq F (eY G s.tell e.a hl3 _) ?_|refine kq F (cL G s.tell e.b hl2 _) ?_|refine kq F (rR G s.tell e.b e.s hl3 _) ?_)
     refine ee hQ F ?_
     refine Fin.plain (.bool _) ⟨?_,rfl⟩
     rw[hres]
     simp[ht])
   by_cases k8:e.kind=8
   ·have hres:s.ok L0 e=((decide (posF (·.id) s.tell.it e.a≥0))):=by subst hy;exact Eh hI hN hck k8
    all_goals (
     have F:=F9 e2 e3 e5 hm1 hm2 hm3 hm4 hcl k8
     refine hK _ _ (Wkn.refl ?_)
     clear hK K
     refine wk F ?_
     repeat (first|refine kq F (eY G s.tell e.a hl3 _) ?_)
     refine ee hQ F ?_
     refine Fin.plain (.bool _) ⟨?_,rfl⟩
     rw[hres]
     try rfl)
   by_cases k9:e.kind=9
   ·have hres:s.ok L0 e=((decide (posF (·.id) s.tell.it e.a≥0))):=by subst hy;exact Ei hI hN hck k9
    all_goals (
     have F:=F9 e2 e3 e5 hm1 hm2 hm3 hm4 hcl k9
     refine hK _ _ (Wkn.refl ?_)
     clear hK K
     refine wk F ?_
     repeat (first|refine kq F (eY G s.tell e.a hl3 _) ?_)
     refine ee hQ F ?_
     refine Fin.plain (.bool _) ⟨?_,rfl⟩
     rw[hres]
     try rfl)
   by_cases k11:e.kind=11
   ·have hres:s.ok L0 e=((decide (posF (·.id) s.tell.se e.a<0))&&(decide ((s.tell.se.length:Int)<32))):=by subst hy;exact zY hI hN hck k11
    have ht:=mP (decide (posF (·.id) s.tell.se e.a<0))
    rcases ht with ht|ht
    all_goals (
     have F:=jg e2 e3 e5 hm1 hm2 hm3 hm4 hcl k11 ht
     refine hK _ _ (Wkn.refl ?_)
     clear hK K
     refine wk F ?_
     repeat (first|refine kq F (fj G s.tell e.a hl4 _) ?_)
     refine ee hQ F ?_
     refine Fin.plain (.bool _) ⟨?_,rfl⟩
     rw[hres]
     simp[ht])
   by_cases k12:e.kind=12
   ·have hres:s.ok L0 e=((decide (posF (·.id) s.tell.se e.a≥0))):=by subst hy;exact zZ hI hN hck k12
    all_goals (
     have F:=F9 e2 e3 e5 hm1 hm2 hm3 hm4 hcl k12
     refine hK _ _ (Wkn.refl ?_)
     clear hK K
     refine wk F ?_
     repeat (first|refine kq F (fj G s.tell e.a hl4 _) ?_)
     refine ee hQ F ?_
     refine Fin.plain (.bool _) ⟨?_,rfl⟩
     rw[hres]
     try rfl)
   by_cases k10:e.kind=10
   ·have hIt:=eY G s.tell e.a hl3
    have dt:∀i:Decidable True, @decide True i=true:=fun i=>decide_eq_true trivial
    have df:∀i:Decidable False, @decide False i=false:=fun i=>decide_eq_false id
    cases hit:lkM s.it e.a with
    |none=>
     have hfi:fnd (·.id) s.tell.it e.a=none:=by rw[hI.fndIt,hit]
     rw[fH hfi]at hIt
     have dm:decide ((-1:Int)≥0)=false:=rfl
     have F:=F7 e2 e3 e5 hm3 k10 dm df
     refine hK _ _ (Wkn.refl ?_)
     clear hK K
     refine wk F ?_
     refine kq F (hIt _) ?_
     try refine wk F ?_
     refine ee hQ F ?_
     exact Fin.plain (.bool _) ⟨by simp[PS.ok,PS.fits,hck,k10,hit],rfl⟩
    |some t=>
     have hfi:fnd (·.id) s.tell.it e.a=some t:=by rw[hI.fndIt,hit]
     obtain⟨q,p1,p2,p3⟩:=bq hfi
     rw[p2]at hIt
     have hql:q<s.tell.it.length:=(List.getElem?_eq_some_iff.1 p1).1
     have hqg:decide ((q:Int)≥0)=true:=by simp
     have htl:=(hI.tg _ _ hit).2
     have htm:(t.tags.map AVal.str).length=t.tags.length:=List.length_map ..
     have hG:=rS G t.tags e.s (by omega)
     have hn:=two (e.n==0)
     rcases hn with hn|hn
     ·have F:=jg e2 e3 e5 hm3 k10 p1 hql hqg dt hn
      refine hK _ _ (Wkn.refl ?_)
      clear hK K
      refine wk F ?_
      refine kq F (hIt _) ?_
      try refine wk F ?_
      refine ee hQ F ?_
      refine Fin.plain (.bool _) ⟨?_,rfl⟩
      simp at hn
      simp[PS.ok,PS.fits,hck,k10,hit,hn]
     ·have hg:=two (decide (e.s∈t.tags))
      rcases hg with hg|hg
      ·rw[hg]at hG
       have F:=F2 (F9 e2 e3 e5 hm3 k10 p1 hql hqg dt) (F2 hn hg)
       refine hK _ _ (Wkn.refl ?_)
       clear hK K
       refine wk F ?_
       refine kq F (hIt _) ?_
       try refine wk F ?_
       refine aA (hG _) ?_
       refine sq F ?_
       refine wk F ?_
       refine ee hQ F ?_
       refine Fin.plain (.bool _) ⟨?_,rfl⟩
       simp at hg
       simp[PS.ok,PS.fits,hck,k10,hit,hg]
      ·rw[hg]at hG
       have F:=F2 (F9 e2 e3 e5 hm3 htm k10 p1 hql hqg) (F3 dt hn hg)
       refine hK _ _ (Wkn.refl ?_)
       clear hK K
       refine wk F ?_
       refine kq F (hIt _) ?_
       try refine wk F ?_
       refine aA (hG _) ?_
       refine sq F ?_
       refine wk F ?_
       refine ee hQ F ?_
       refine Fin.plain (.bool _) ⟨?_,rfl⟩
       simp at hn hg
       have q8:decide ((t.tags.length:Int)<8)=decide (t.tags.length<8):=fL _ _
       simp[PS.ok,PS.fits,hck,k10,hit,hg,hn]
       try omega
   have hres:=Ej hI hN hck k1 k2 k3 k4 k5 k6 k7 k8 k9 k11 k12 k10
   have n1:(e.kind==1)=false:=by simp[k1]
   have n2:(e.kind==2)=false:=by simp[k2]
   have n3:(e.kind==3)=false:=by simp[k3]
   have n4:(e.kind==4)=false:=by simp[k4]
   have n5:(e.kind==5)=false:=by simp[k5]
   have n6:(e.kind==6)=false:=by simp[k6]
   have n7:(e.kind==7)=false:=by simp[k7]
   have n8:(e.kind==8)=false:=by simp[k8]
   have n9:(e.kind==9)=false:=by simp[k9]
   have n11:(e.kind==11)=false:=by simp[k11]
   have n12:(e.kind==12)=false:=by simp[k12]
   have n10:(e.kind==10)=false:=by simp[k10]
   have F:=F2 (F9 e2 e3 e5 hcl n1 n2 n3 n4 n5) (F7 n6 n7 n8 n9 n11 n12 n10)
   refine hK _ _ (Wkn.refl ?_)
   clear hK K
   refine wk F ?_
   refine ee hQ F ?_
   exact Fin.plain (.bool _) ⟨by rw[hres],rfl⟩
  subst hH
  (first|refine gq trivial (fun g=>?_) (fun g=>?_)|refine pq trivial (fun g=>?_) (fun g=>?_))<;>(try exact g.elim)<;>(try refine sq trivial ?_)<;>((repeat (first|refine w1 (fun K hK=>?_)|refine w2 ?_|refine w3 ?_| ((first|refine w4 ?_|refine wD ?_|refine w5 ?_|refine w6 ?_|refine w7 ?_);try refine sq trivial ?_)| (refine w8 ?_;refine sq trivial ?_;refine w9 ?_)| ((first|refine hK _ _ (w0 ?_)| (clear hK K;refine hK _ _ (w0 ?_))| (clear hK K;clear hK K;refine hK _ _ (w0 ?_)));clear hK K))))
  ·exact key _ true (by exact zq trivial) (by exact zq trivial) (by exact zq trivial) (by simp[PS.within,g])
  ·refine(hB _).mono ?_
   rintro r h' ⟨rfl,rfl⟩
   try refine sq trivial ?_
   (repeat (first|refine w1 (fun K hK=>?_)|refine w2 ?_|refine w3 ?_| ((first|refine w4 ?_|refine wD ?_|refine w5 ?_|refine w6 ?_|refine w7 ?_);try refine sq trivial ?_)| (refine w8 ?_;refine sq trivial ?_;refine w9 ?_)| ((first|refine hK _ _ (w0 ?_)| (clear hK K;refine hK _ _ (w0 ?_))| (clear hK K;clear hK K;refine hK _ _ (w0 ?_)));clear hK K)))
   exact key _ (decide (posF (·.id) s.tell.fo e.b≥0)) (by exact zq trivial) (by exact zq trivial) (by exact zq trivial) (by rw[hw];simp[PS.within,g])
end Go.Av
namespace Go.Av
open Go Go.Proofs Go.RowKit
attribute [local irreducible] WP WPl WPix Sat
def IsL(H:Heap)(n0 e n:Nat)(rows:List AVal)(v:AVal):Prop:=
 (rows=[]∧v=.ez)∨∃p w,v=.hs p w 0 rows.length true∧getRow H p w=some (e,n,rows)∧n0≤p
section
variable {H H':Heap} {n0 e n:Nat} {rows:List AVal} {v:AVal}
theorem IsL.ez(H:Heap)(n0 e n:Nat):IsL H n0 e n [] .ez:=.inl ⟨rfl,rfl⟩
theorem IsL.cel(h:IsL H n0 e n rows v):v.cells=[v]:=by
 rcases h with⟨_,rfl⟩| ⟨p,w,rfl,_⟩<;>rfl
theorem IsL.lie(h:IsL H n0 e n rows v):v.lies=true:=by
 rcases h with⟨_,rfl⟩| ⟨p,w,rfl,_⟩<;>rfl
theorem IsL.elems(h:IsL H n0 e n rows v):elemsOf H n v=some rows:=by
 rcases h with⟨rfl,rfl⟩| ⟨p,w,rfl,h1,_⟩
 ·rfl
 ·exact iE h1 rfl
theorem IsL.keep(h:IsL H n0 e n rows v)(hk:∀p w,n0≤p→∀x,getRow H p w=some x→getRow H' p w=some x):IsL H' n0 e n rows v:=by
 rcases h with h| ⟨p,w,h1,h2,h3⟩
 ·exact .inl h
 ·exact .inr ⟨p,w,h1,hk p w h3 _ h2,h3⟩
theorem IsL.set(h:IsL H n0 e n rows v){q:Nat}(b:Blk)(hq:q<n0):IsL (H.set q b) n0 e n rows v:=h.keep fun p w hp x hx=>by rw[aZ _ _ (by omega)];exact hx
theorem IsL.old(h:IsL H n0 e n rows v)(hf:FrN H.length H H'):IsL H' n0 e n rows v:=h.keep fun p w hp x hx=>by
 have:=b9 hx
 unfold getRow at hx ⊢
 rw[hf p this];exact hx
theorem IsL.frz(h:IsL H n0 e n rows v){N:Nat}(hN:N≤n0)(hc:∀r∈rows,Clo N r)(hs:∀r∈rows,∀c∈r.cells,c.sto=true):Frz H N v (.sl n rows):=by
 rcases h with⟨rfl,rfl⟩| ⟨p,w,rfl,h1,h2⟩
 ·exact .ezs _
 ·exact Frz.data (by omega) h1 rfl hc hs
theorem FrN.row{p w:Nat}(h:FrN n0 H H')(hp:p<n0):getRow H' p w=getRow H p w:=by unfold getRow;rw[h p hp]
end
theorem FrN.r3{h h1:Heap}{e1 m1 e2 m2 e3 m3:Nat}{a b c:List AVal}(f:FrN (h.length+3) (h++[.row e1 m1 0 a,.row e2 m2 0 b,.row e3 m3 0 c]) h1):
  getRow h1 h.length 0=some (e1,m1,a)∧getRow h1 (h.length+1) 0=some (e2,m2,b)∧getRow h1 (h.length+2) 0=some (e3,m3,c):=by
 refine⟨?_,?_,?_⟩
 ·rw[f.row (by omega),aE _ rfl];rfl
 ·rw[f.row (by omega),bD _ rfl];rfl
 ·rw[f.row (by omega),bD _ rfl];rfl
section
variable {C:Ctx}
@[go_sem] theorem Aa{T:TypeId}{k:AVal→Prop}:rowsV C T 0 [] [] k=need (elmT C.P T) fun e=>need (szOf C.P e) fun _=>k .ez:=by simp[rowsV]
@[go_sem] theorem Gv{ops:Array Oper}{x y:Operand}{T T':TypeId}{ty:TypeId}{pos:String}{aft:Array Edge}{dst:Option Tmp}{t:Env}{h:Heap}{K:AVal→Heap→Prop}:
  wpOperV C ops ⟨dst,.call ⟨.builtin .append, #[x,y], #[T,T']⟩,ty,pos,aft,none⟩ t h K=appK C T T' (aev C.G t x) (aev C.G t y) h K:=(rfl)
theorem uv{T T' e n by' n0:Nat}{v y:AVal}{rows ys:List AVal}{h:Heap}{k:AVal→Heap→Prop}(hL:IsL h n0 e n rows v)(hn0:n0≤h.length)(hT:T'=T∨strT C.P T'=true)(he:elmT C.P T=some e)(hn:szOf C.P e=some n)(hb:byT C.P e=some by')
  (hz:(zroT C.P e).map (fun z=>z.cells.length)=some n)(h0:0<n)(hy:elemsOf h n y=some ys)(hr:rows.length+ys.length≤maxLen∧(rows.length+ys.length)*by'≤140737488355328)
  (hk:∀v' h',IsL h' n0 e n (rows++ys) v'→FrN n0 h h'→h.length≤h'.length→k v' h'):appK C T T' v y h k:=by
 rcases hL with⟨rfl,rfl⟩| ⟨p,w,rfl,h1,h2⟩
 ·simp only[List.length_nil,Nat.zero_add]at hr
  refine fp hT he hn hb hz h0 hy hr (fun e0=>?_) (fun e0=>?_)
  ·subst e0;exact hk _ _ (.ez ..) (FrN.refl _ _) (Nat.le_refl _)
  ·refine hk _ _ (.inr ⟨h.length,0,rfl,by rw[aE _ rfl];rfl,hn0⟩) (FrN.app _ hn0 (FrN.refl _ _)) (by simp)
 ·refine br hT he hn hb hz h0 hy h1 rfl hr ?_
  have hl:=b9 h1
  have:=hk (.hs p (w+1) 0 (rows.length+ys.length) true) (h.set p (.row e n (w+1) (rows++ys))) (.inr ⟨p,w+1,by rw[List.length_append],by rw[bJ _ _ _ _ _ hl,if_pos rfl],h2⟩) (FrN.set _ h2 (FrN.refl _ _)) (by simp)
  exact this
theorem aL{T e n by' n0:Nat}{v y:AVal}{rows ys:List AVal}{h:Heap}{k:AVal→Heap→Prop}(hL:IsL h n0 e n rows v)(hn0:n0≤h.length)
  (hk:∀v' h',IsL h' n0 e n (rows++ys) v'→FrN n0 h h'→h.length≤h'.length→k v' h')(he:elmT C.P T=some e:=by simp only[go_sem];try rfl)(hn:szOf C.P e=some n:=by simp only[go_sem];try rfl)(hb:byT C.P e=some by':=by simp only[go_sem];try rfl)
  (hz:(zroT C.P e).map (fun z=>z.cells.length)=some n:=by simp only[go_sem];try rfl)(h0:0<n:=by omega)(hy:elemsOf h n y=some ys:=by simp only[elemsOf, ↓reduceIte];rfl)(hr:rows.length+ys.length≤maxLen∧(rows.length+ys.length)*by'≤140737488355328:=by refine⟨?_,?_⟩<;>simp[maxLen]<;>omega):appK C T T v y h k:=
 uv hL hn0 (.inl rfl) he hn hb hz h0 hy hr hk
end
theorem bL{P:Program}{h:Heap}{T e n i:Nat}{es:List AVal}{k:IntKind}(he:elmT P T=some e)(hn:szOf P e=some n)(hi:i≤es.length):aslice P h T (.sl n es) none (some (.int k (i:Int))) none=some (.sl n (es.take i)):=by
 simp only[aslice,he,hn,optInt,Option.isNone_none,if_true]
 rw[if_pos ⟨Int.le_refl _,by omega,by omega⟩]
 simp
theorem bM{P:Program}{h:Heap}{T e n i:Nat}{es:List AVal}{k:IntKind}(he:elmT P T=some e)(hn:szOf P e=some n)(hi:i≤es.length):aslice P h T (.sl n es) (some (.int k (i:Int))) none none=some (.sl n (es.drop i)):=by
 simp only[aslice,he,hn,optInt,Option.isNone_none,if_true]
 rw[if_pos ⟨by omega,by omega,by omega⟩]
 simp
theorem rX{h h2:Heap}{bs:List Blk}{R:AVal→Heap→Prop}{r0 r:AVal}{b1 b2:Blk}(hb:bs.length=3)(f:FrN (h.length+3) (h++bs) h2)(g:h.length+3≤h2.length)
  (hz:Frz ((h2.set h.length b1).set (h.length+2) b2) h.length r0 r)(hR:R r h):Fin h ((h2.set h.length b1).set (h.length+2) b2) R r0:=by
 have fr:FrN h.length h ((h2.set h.length b1).set (h.length+2) b2):=FrN.set _ (by omega) (FrN.set _ (by omega) (FrN.trans (FrN.app bs (Nat.le_refl _) (FrN.refl _ _)) (f.less (by omega))))
 obtain⟨j,hj⟩:=fr.behind (by simp;omega)
 rw[hj]at hz ⊢
 exact Fin.frz hz hR
end Go.Av
namespace Go.Av
open Go Go.Proofs Go.RowKit
attribute [local irreducible] WP WPl WPix Sat
variable (G:Nat→Option (List AVal))
theorem Fo.sto(f:Fo):∀c∈f.av.cells,c.sto=true:=by
 intro c hc;simp only[Fo.av,AVal.cells,List.mem_cons,List.mem_nil_iff,or_false]at hc;rcases hc with rfl|rfl|rfl<;>rfl
theorem Fe.sto(f:Fe):∀c∈f.av.cells,c.sto=true:=by
 intro c hc;simp only[Fe.av,AVal.cells,List.mem_cons,List.mem_nil_iff,or_false]at hc;rcases hc with rfl|rfl|rfl|rfl<;>rfl
theorem It.sto(f:It):∀c∈f.av.cells,c.sto=true:=by
 intro c hc;simp only[It.av,AVal.cells,List.mem_cons,List.mem_nil_iff,or_false]at hc;rcases hc with rfl|rfl|rfl|rfl|rfl|rfl|rfl|rfl|rfl<;>rfl
theorem Se.sto(f:Se):∀c∈f.av.cells,c.sto=true:=by
 intro c hc;simp only[Se.av,AVal.cells,List.mem_cons,List.mem_nil_iff,or_false]at hc;rcases hc with rfl|rfl|rfl<;>rfl
theorem bS{α:Type}{av:α→AVal}{N:Nat}(hc:∀a,Clo N (av a))(l:List α):∀r∈l.map av,Clo N r:=fun r hr=>by obtain⟨a,_,rfl⟩:=List.mem_map.1 hr;exact hc a
theorem ep{α:Type}{av:α→AVal}(hs:∀a,∀c∈ (av a).cells,c.sto=true)(l:List α):∀r∈l.map av,∀c∈r.cells,c.sto=true:=fun r hr=>by obtain⟨a,_,rfl⟩:=List.mem_map.1 hr;exact hs a
theorem IsL.fin{α:Type}{av:α→AVal}{H:Heap}{n0 e n N p q:Nat}{rows:List AVal}{v:AVal}(h:IsL H n0 e n rows v){l:List α}(hr:rows=l.map av)(hN:N≤n0)(hp:p<n0)(hq:q<n0)(hc:∀N a,Clo N (av a))(hs:∀a,∀c∈ (av a).cells,c.sto=true){b1 b2:Blk}:
  Frz ((H.set p b1).set q b2) N v (.sl n (l.map av)):=by
 subst hr
 exact((h.set b1 hp).set b2 hq).frz hN (bS (hc N) l) (ep hs l)
theorem cw{h h2:Heap}{R:AVal→Heap→Prop}{r0 r:AVal}{p q:Nat}{b1 b2:Blk}(f:FrN h.length h h2)(g:h.length≤h2.length)(hp:h.length≤p∧h.length≤q)
  (hz:Frz ((h2.set p b1).set q b2) h.length r0 r)(hR:R r h):Fin h ((h2.set p b1).set q b2) R r0:=by
 have fr:FrN h.length h ((h2.set p b1).set q b2):=FrN.set _ hp.2 (FrN.set _ hp.1 f)
 obtain⟨j,hj⟩:=fr.behind (by simp;omega)
 rw[hj]at hz ⊢
 exact Fin.frz hz hR
theorem bo{H:Heap}{N:Nat}{x:St}{v1 v2 v3 v4:AVal}(h1:Frz H N v1 (.sl 3 (x.fo.map Fo.av)))(h2:Frz H N v2 (.sl 4 (x.fe.map Fe.av)))(h3:Frz H N v3 (.sl 9 (x.it.map It.av)))(h4:Frz H N v4 (.sl 3 (x.se.map Se.av))):
  Frz H N (.agg [.int .i64 x.clock,v1,v2,v3,v4,.int .i64 x.t1,.int .i64 x.t2,.int .i64 x.t3,.int .i64 x.t4]) x.av:=
 FrzL.agg (.cons (.clo _ (.int _ _)) (.cons h1 (.cons h2 (.cons h3 (.cons h4 (.cons (.clo _ (.int _ _)) (.cons (.clo _ (.int _ _)) (.cons (.clo _ (.int _ _)) (.cons (.clo _ (.int _ _)) .nil))))))))) rfl
theorem qf(x:St)(e:Ev)(k1:e.kind=2)(i:Nat)(hp:posF (·.id) x.fo e.a=(i:Int))(hi:i<x.fo.length)(hl:x.fo.length≤100000)(h:Heap):
  Sat (CT G) 81 [x.av,e.av] h (fun r h'=>r=({x with fo:=x.fo.take i++x.fo.drop (i+1)}:St).av∧h'=h):=by
 have hF:=cA G x e.a hl
 rw[hp]at hF
 have hel:(x.fo.map Fo.av).length=x.fo.length:=List.length_map ..
 have hsA:∀H,aslice Tryz.prog H 29 (.sl 3 (x.fo.map Fo.av)) none (some (.int .i64 (i:Int))) none=some (.sl 3 ((x.fo.map Fo.av).take i)):=fun H=>bL (by simp only[go_sem];try rfl) (by simp only[go_sem];try rfl) (by omega)
 have hsB:∀H,aslice Tryz.prog H 29 (.sl 3 (x.fo.map Fo.av)) (some (.int .i64 ((i+1:Nat):Int))) none none=some (.sl 3 ((x.fo.map Fo.av).drop (i+1))):=fun H=>bM (i:=i+1) (by simp only[go_sem];try rfl) (by simp only[go_sem];try rfl) (by omega)
 have F:=F3 k1 @hsA @hsB
 skip
 refine sb [.cell 4 34] (fn:=Tryz.f81) Tryz.func81 ?_
 intro Q hQ
 refine wn F ?_
 refine kn F (hF _) ?_
 refine aw 11 [5] [true,true,true,true,true,false,true,true,true,true,true] (.one 5 [false,false,false,false,false,false,true,true,false,true,true] .fin) (by decide+kernel) (by kernel_rfl) (by decide+kernel) ?_
 simp only[aB,aC,az]
 try refine sq F ?_
 repeat' (first| (refine ah ?_;try refine sq F ?_)| (refine ai ?_;try refine sq F ?_)| (refine aj ?_ ?_<;>try refine sq F ?_))
 all_goals try refine wn F ?_
 refine aL (n0:=h.length+3) (.ez _ _ _ _) (by simp) ?_
 intro v1 h1 L1 f1 g1
 obtain⟨r1,r2,r3⟩:=f1.r3
 simp only[List.length_append,List.length_cons,List.length_nil]at g1
 have F:=F4 F r1 r2 r3
 try refine sq F ?_
 repeat' (first| (refine ah ?_;try refine sq F ?_)| (refine ai ?_;try refine sq F ?_)| (refine aj ?_ ?_<;>try refine sq F ?_))
 all_goals try refine wn F ?_
 refine aL L1 (by omega) ?_
 intro v2 h2 L2 f2 g2
 obtain⟨r1,r2,r3⟩:=(f1.trans f2).r3
 have lc:=L2.cel
 have ll:=L2.lie
 have hz:h.length+2<h2.length:=by omega
 have hn1:h.length<h2.length:=by omega
 have F:=F7 F r1 r2 r3 lc ll @ax
 try refine sq F ?_
 repeat' (first| (refine ah ?_;try refine sq F ?_)| (refine ai ?_;try refine sq F ?_)| (refine aj ?_ ?_<;>try refine sq F ?_))
 all_goals try refine wn F ?_
 refine ye hQ F ?_
 refine rX (bs:=[_,_,_]) rfl (f1.trans f2) (by omega) ?_ ⟨rfl,rfl⟩
 refine bo (x:= {x with fo:=x.fo.take i++x.fo.drop (i+1)}) ?_ (ap (Fe.clo _) _) (ap (It.clo _) _) (ap (Se.clo _) _)
 exact L2.fin (by simp) (by omega) (by omega) (by omega) Fo.clo Fo.sto
theorem nV(x:St)(e:Ev)(k1:e.kind=12)(i:Nat)(hp:posF (·.id) x.se e.a=(i:Int))(hi:i<x.se.length)(hl:x.se.length≤100000)(h:Heap):
  Sat (CT G) 81 [x.av,e.av] h (fun r h'=>r=({x with se:=x.se.take i++x.se.drop (i+1)}:St).av∧h'=h):=by
 have hF:=fj G x e.a hl
 rw[hp]at hF
 have hel:(x.se.map Se.av).length=x.se.length:=List.length_map ..
 have hsA:∀H,aslice Tryz.prog H 32 (.sl 3 (x.se.map Se.av)) none (some (.int .i64 (i:Int))) none=some (.sl 3 ((x.se.map Se.av).take i)):=fun H=>bL (by simp only[go_sem];try rfl) (by simp only[go_sem];try rfl) (by omega)
 have hsB:∀H,aslice Tryz.prog H 32 (.sl 3 (x.se.map Se.av)) (some (.int .i64 ((i+1:Nat):Int))) none none=some (.sl 3 ((x.se.map Se.av).drop (i+1))):=fun H=>bM (i:=i+1) (by simp only[go_sem];try rfl) (by simp only[go_sem];try rfl) (by omega)
 have F:=F3 k1 @hsA @hsB
 skip
 refine sb [.cell 4 34] (fn:=Tryz.f81) Tryz.func81 ?_
 intro Q hQ
 refine wn F ?_
 refine kn F (hF _) ?_
 refine aw 11 [5] [true,true,true,true,true,false,true,true,true,true,true] (.one 5 [false,false,false,false,false,false,true,true,false,true,true] .fin) (by decide+kernel) (by kernel_rfl) (by decide+kernel) ?_
 simp only[aB,aC,az]
 try refine sq F ?_
 repeat' (first| (refine ah ?_;try refine sq F ?_)| (refine ai ?_;try refine sq F ?_)| (refine aj ?_ ?_<;>try refine sq F ?_))
 all_goals try refine wn F ?_
 refine aL (n0:=h.length+3) (.ez _ _ _ _) (by simp) ?_
 intro v1 h1 L1 f1 g1
 obtain⟨r1,r2,r3⟩:=f1.r3
 simp only[List.length_append,List.length_cons,List.length_nil]at g1
 have F:=F4 F r1 r2 r3
 try refine sq F ?_
 repeat' (first| (refine ah ?_;try refine sq F ?_)| (refine ai ?_;try refine sq F ?_)| (refine aj ?_ ?_<;>try refine sq F ?_))
 all_goals try refine wn F ?_
 refine aL L1 (by omega) ?_
 intro v2 h2 L2 f2 g2
 obtain⟨r1,r2,r3⟩:=(f1.trans f2).r3
 have lc:=L2.cel
 have ll:=L2.lie
 have hz:h.length+2<h2.length:=by omega
 have hn1:h.length<h2.length:=by omega
 have F:=F7 F r1 r2 r3 lc ll @ax
 try refine sq F ?_
 repeat' (first| (refine ah ?_;try refine sq F ?_)| (refine ai ?_;try refine sq F ?_)| (refine aj ?_ ?_<;>try refine sq F ?_))
 all_goals try refine wn F ?_
 refine ye hQ F ?_
 refine rX (bs:=[_,_,_]) rfl (f1.trans f2) (by omega) ?_ ⟨rfl,rfl⟩
 refine bo (x:= {x with se:=x.se.take i++x.se.drop (i+1)}) (ap (Fo.clo _) _) (ap (Fe.clo _) _) (ap (It.clo _) _) ?_
 exact L2.fin (by simp) (by omega) (by omega) (by omega) Se.clo Se.sto
theorem qg(x:St)(e:Ev)(k1:e.kind=4)(i:Nat)(hp:posF (·.id) x.fe e.a=(i:Int))(hi:i<x.fe.length)(hl:x.fe.length≤100000)(hl3:x.it.length≤100000)(h:Heap):
  Sat (CT G) 81 [x.av,e.av] h (fun r h'=>r=({x with fe:=x.fe.take i++x.fe.drop (i+1),it:=x.it.filter fun t=>decide (t.feed≠e.a)}:St).av∧h'=h):=by
 have hF:=cL G x e.a hl
 rw[hp]at hF
 have hel:(x.fe.map Fe.av).length=x.fe.length:=List.length_map ..
 have hsA:∀H,aslice Tryz.prog H 30 (.sl 4 (x.fe.map Fe.av)) none (some (.int .i64 (i:Int))) none=some (.sl 4 ((x.fe.map Fe.av).take i)):=fun H=>bL (by simp only[go_sem];try rfl) (by simp only[go_sem];try rfl) (by omega)
 have hsB:∀H,aslice Tryz.prog H 30 (.sl 4 (x.fe.map Fe.av)) (some (.int .i64 ((i+1:Nat):Int))) none none=some (.sl 4 ((x.fe.map Fe.av).drop (i+1))):=fun H=>bM (i:=i+1) (by simp only[go_sem];try rfl) (by simp only[go_sem];try rfl) (by omega)
 have F:=F3 k1 @hsA @hsB
 skip
 refine sb [.cell 4 34] (fn:=Tryz.f81) Tryz.func81 ?_
 intro Q hQ
 refine wn F ?_
 refine kn F (hF _) ?_
 refine aw 11 [5] [true,true,true,true,true,false,true,true,true,true,true] (.one 5 [false,false,false,false,false,false,true,true,false,true,true] .fin) (by decide+kernel) (by kernel_rfl) (by decide+kernel) ?_
 simp only[aB,aC,az]
 try refine sq F ?_
 repeat' (first| (refine ah ?_;try refine sq F ?_)| (refine ai ?_;try refine sq F ?_)| (refine aj ?_ ?_<;>try refine sq F ?_))
 all_goals try refine wn F ?_
 refine aL (n0:=h.length+3) (.ez _ _ _ _) (by simp) ?_
 intro v1 h1 L1 f1 g1
 obtain⟨r1,r2,r3⟩:=f1.r3
 simp only[List.length_append,List.length_cons,List.length_nil]at g1
 have F:=F4 F r1 r2 r3
 try refine sq F ?_
 repeat' (first| (refine ah ?_;try refine sq F ?_)| (refine ai ?_;try refine sq F ?_)| (refine aj ?_ ?_<;>try refine sq F ?_))
 all_goals try refine wn F ?_
 refine aL L1 (by omega) ?_
 intro v2 h2 L2 f2 g2
 obtain⟨r1,r2,r3⟩:=(f1.trans f2).r3
 have lc:=L2.cel
 have ll:=L2.lie
 have hz:h.length+2<h2.length:=by omega
 have hn1:h.length<h2.length:=by omega
 have F:=F7 F r1 r2 r3 lc ll @ax
 try refine sq F ?_
 repeat' (first| (refine ah ?_;try refine sq F ?_)| (refine ai ?_;try refine sq F ?_)| (refine aj ?_ ?_<;>try refine sq F ?_))
 all_goals try refine wn F ?_
 have r2':=r2
 have r3':=r3
 have g3:h.length+3≤h2.length:=by omega
 have L3:=L2.set (.row 34 9 0 [.agg [.int .i64 x.clock,.sl 3 (x.fo.map Fo.av),v2,.sl 9 (x.it.map It.av),.sl 3 (x.se.map Se.av),.int .i64 x.t1,.int .i64 x.t2,.int .i64 x.t3,.int .i64 x.t4]]) (q:=h.length) (by omega)
 have f3:FrN (h.length+3) (h++[_,_,_]) h2:=f1.trans f2
 have r1b:getRow (h2.set h.length (.row 34 9 0 [.agg [.int .i64 x.clock,.sl 3 (x.fo.map Fo.av),v2,.sl 9 (x.it.map It.av),.sl 3 (x.se.map Se.av),.int .i64 x.t1,.int .i64 x.t2,.int .i64 x.t3,.int .i64 x.t4]])) h.length 0=some (34,9,[.agg [.int .i64 x.clock,.sl 3 (x.fo.map Fo.av),v2,.sl 9 (x.it.map It.av),.sl 3 (x.se.map Se.av),.int .i64 x.t1,.int .i64 x.t2,.int .i64 x.t3,.int .i64 x.t4]]):=by rw[bJ _ _ _ _ _ hn1,if_pos rfl]
 have r2b:getRow (h2.set h.length (.row 34 9 0 [.agg [.int .i64 x.clock,.sl 3 (x.fo.map Fo.av),v2,.sl 9 (x.it.map It.av),.sl 3 (x.se.map Se.av),.int .i64 x.t1,.int .i64 x.t2,.int .i64 x.t3,.int .i64 x.t4]])) (h.length+1) 0=_:=(aZ _ _ (by omega)).trans r2
 have r3b:getRow (h2.set h.length (.row 34 9 0 [.agg [.int .i64 x.clock,.sl 3 (x.fo.map Fo.av),v2,.sl 9 (x.it.map It.av),.sl 3 (x.se.map Se.av),.int .i64 x.t1,.int .i64 x.t2,.int .i64 x.t3,.int .i64 x.t4]])) (h.length+2) 0=_:=(aZ _ _ (by omega)).trans r3
 have frb:FrN h.length h (h2.set h.length (.row 34 9 0 [.agg [.int .i64 x.clock,.sl 3 (x.fo.map Fo.av),v2,.sl 9 (x.it.map It.av),.sl 3 (x.se.map Se.av),.int .i64 x.t1,.int .i64 x.t2,.int .i64 x.t3,.int .i64 x.t4]])):=FrN.set _ (Nat.le_refl _) (FrN.trans (FrN.app _ (Nat.le_refl _) (FrN.refl _ _)) (f3.less (by omega)))
 have hlb:(h2.set h.length (.row 34 9 0 [.agg [.int .i64 x.clock,.sl 3 (x.fo.map Fo.av),v2,.sl 9 (x.it.map It.av),.sl 3 (x.se.map Se.av),.int .i64 x.t1,.int .i64 x.t2,.int .i64 x.t3,.int .i64 x.t4]])).length=h2.length:=by simp
 have him:(x.it.map It.av).length=x.it.length:=List.length_map ..
 generalize h2.set h.length (.row 34 9 0 [.agg [.int .i64 x.clock,.sl 3 (x.fo.map Fo.av),v2,.sl 9 (x.it.map It.av),.sl 3 (x.se.map Se.av),.int .i64 x.t1,.int .i64 x.t2,.int .i64 x.t3,.int .i64 x.t4]])=hb at*
 refine lm (fun nL tL hL=>∃(k p w:Nat) (hh:Heap) (acc:List It),x.it.length-k=nL∧hh=hL∧tL 2=.hp h.length 0 0 0∧tL 3=.hp (h.length+1) 0 0 0∧tL 4=.hp (h.length+2) 0 0 0∧tL 7=.hs p w 0 acc.length true∧tL 8=.int .i64 k∧k≤x.it.length∧acc.length≤k∧acc++(x.it.drop k).filter (fun t=>decide (t.feed≠e.a))=x.it.filter (fun t=>decide (t.feed≠e.a))∧FrN hb.length hb hh∧getRow hh p w=some (82,9,acc.map It.av)∧hb.length≤p) ((fun(k p w:Nat) (hh:Heap) (acc:List It)=>(x.it.length-k:Nat)) (0) (hb.length) (0) (hb++[.row 82 9 0 []]) ([])) ?_ ?_
 ·refine⟨_,_,Weak.virt 7 82 9 (by simp) (by omega) (by exact zq F),⟨0,hb.length,0,hb++[.row 82 9 0 []],[],rfl,ay,?_,?_,?_,?_,?_,by omega,by simp,by simp,FrN.app _ (Nat.le_refl _) (FrN.refl _ _),by rw[aE _ rfl];rfl,Nat.le_refl _⟩⟩
  all_goals first|exact zq F|rfl|omega|trivial|skip
 rintro _ s2 h' ⟨k,p,w,hh,acc,rfl,rfl,e2,e3,e4,e7,e8,hk,hal,hac,hfr,hg,hpb⟩ K2 hK2
 simp only[ak,ao,Nat.reduceEqDiff, ↓reduceIte]at e2 e3 e4 e7 e8
 have F:=F6 F e2 e3 e4 e7 e8
 have q1:=(hfr.row (p:=h.length) (w:=0) (by omega)).trans r1b
 have q2:=(hfr.row (p:=h.length+1) (w:=0) (by omega)).trans r2b
 have q3:=(hfr.row (p:=h.length+2) (w:=0) (by omega)).trans r3b
 have hgl:=b9 hg
 have hgm:(acc.map It.av).length=acc.length:=List.length_map ..
 have hh1:h.length<hh.length:=by omega
 have hh2:h.length+2<hh.length:=by omega
 have F:=F7 F q1 q2 q3 hg him hgm
 try refine sq F ?_
 refine wn F ?_
 refine cq F (fun c1=>?_) (fun c1=>?_)<;>(try exact c1.elim)<;>(refine wn F ?_)
 ·have c2:k<x.it.length:=by omega
  obtain⟨y,hy,_⟩:=ac c2
  rw[aD hy,List.filter_cons]at hac
  have F:=F3 F c2 hy
  refine eG (by decide+kernel) (mB G) ?_
  refine sq F ?_
  refine wn F ?_
  refine cq F (fun c3=>?_) (fun c3=>?_)<;>(try exact c3.elim)<;>(refine wn F ?_)
  ·rw[if_pos (by simpa using c3)]at hac
   refine aq F ?_
   try refine sq F ?_
   refine wn F ?_
   refine hK2 _ _ _ (Wkn.refl ⟨k+1,p,w+1,hh.set p (.row 82 9 (w+1) ((acc++[y]).map It.av)),acc++[y],rfl,by simp[It.av],?_,?_,?_,?_,?_,by omega,by simp;omega,by rw[← hac];simp,FrN.set _ hpb hfr,by rw[bJ _ _ _ _ _ hgl,if_pos rfl],hpb⟩) (by omega)
   all_goals first|exact zq F|rfl|omega|trivial|skip
  ·rw[if_neg (by simpa using c3)]at hac
   refine hK2 _ _ _ (Wkn.refl ⟨k+1,p,w,hh,acc,rfl,rfl,?_,?_,?_,?_,?_,by omega,by omega,hac,hfr,hg,hpb⟩) (by omega)
   all_goals first|exact zq F|rfl|omega|trivial|skip
 ·rw[aI (by omega),List.filter_nil,List.append_nil]at hac
  have L4:=L3.old hfr
  have lc:=L4.cel
  have ll:=L4.lie
  have hfin:IsL hh (h.length+3) 82 9 (acc.map It.av) (.hs p w 0 acc.length true):=.inr ⟨p,w,by rw[hgm],hg,by omega⟩
  have F:=F2 (F9 k1 @hsA @hsB r1 r2 r3 e2 e3 e4) (F2 (F9 e7 e8 q1 q2 q3 hg him hgm lc) (F2 ll @ax))
  try refine sq F ?_
  refine wn F ?_
  refine ye hQ F ?_
  rw[← hac]
  refine cw (frb.trans (hfr.less (by omega))) (by omega) (by omega) ?_ ⟨rfl,rfl⟩
  refine bo (x:= {x with fe:=x.fe.take i++x.fe.drop (i+1),it:=acc}) (ap (Fo.clo _) _) ?_ ?_ (ap (Se.clo _) _)
  ·exact L4.fin (by simp) (by omega) (by omega) (by omega) Fe.clo Fe.sto
  ·exact hfin.fin rfl (by omega) (by omega) (by omega) It.clo It.sto
end Go.Av
namespace Go.Av
open Go Go.Proofs Go.RowKit
attribute [local irreducible] WP WPl WPix Sat
def insI{α:Type}(key:α→Int)(l:List α)(id:Int):Nat:=(l.takeWhile fun a=>decide (key a<id)).length
theorem cy{α:Type}{key:α→Int}{id:Int}:∀{l:List α} {k:Nat},(∀b∈l.take k,key b<id)→k≤l.length→(∀b,l[k]? =some b→¬key b<id)→insI key l id=k
 | [],k,_,h,_=>by simp at h;subst h;rfl
 |a::l,0,_,_,h2=>by
  have:=h2 a rfl
  unfold insI;rw[List.takeWhile_cons,decide_eq_false this];rfl
 |a::l,k+1,h1,h,h2=>by
  have ha:=h1 a (by simp)
  have ih:=cy (key:=key) (id:=id) (l:=l) (k:=k) (fun b hb=>h1 b (by simp[hb])) (by simpa using h) (fun b hb=>h2 b (by simpa using hb))
  unfold insI at ih ⊢
  rw[List.takeWhile_cons,decide_eq_true ha]
  simp[ih]
theorem FrzRs.app{H:Heap}{N:Nat}{a b c d:List AVal}(z:FrzRs H N a b)(w:FrzRs H N c d):FrzRs H N (a++c) (b++d):=by
 induction z with
 |nil=>exact w
 |cons r _ ih=>exact .cons r ih
theorem FrzRs.map{α:Type}{av:α→AVal}{H:Heap}{N:Nat}(hc:∀N a,Clo N (av a))(hs:∀a,∀c∈ (av a).cells,c.sto=true)(l:List α):FrzRs H N (l.map av) (l.map av):=by
 induction l with
 |nil=>exact .nil
 |cons a l ih=>exact .cons (FrzR.clo (hc N a) (hs a)) ih
theorem IsL.fin2{H:Heap}{n0 e n N p q:Nat}{rows es:List AVal}{v:AVal}(h:IsL H n0 e n rows v)(hN:N≤n0)(hp:p<n0)(hq:q<n0){b1 b2:Blk}(hz:FrzRs ((H.set p b1).set q b2) N rows es):Frz ((H.set p b1).set q b2) N v (.sl n es):=by
 rcases(h.set b1 hp).set b2 hq with⟨rfl,rfl⟩| ⟨q,w,rfl,h1,h2⟩
 ·cases hz;exact .ezs _
 ·exact hz.hs h1 rfl (by omega)
variable (G:Nat→Option (List AVal))
theorem qh(x:St)(e:Ev)(k1:e.kind=1)(hl:x.fo.length≤100000)(h:Heap):
  Sat (CT G) 80 [x.av,e.av] h (fun r h'=>r=({x with fo:=x.fo.take (insI (·.id) x.fo e.a)++(⟨e.a,e.b,e.s⟩:Fo)::x.fo.drop (insI (·.id) x.fo e.a),t1:=topI x.t1 e.a}:St).av∧h'=h):=by
 have hel:(x.fo.map Fo.av).length=x.fo.length:=List.length_map ..
 have dt:∀i:Decidable True, @decide True i=true:=fun i=>decide_eq_true trivial
 have F:=F2 k1 hel
 refine sb [.cell 4 34] (fn:=Tryz.f80) Tryz.func80 ?_
 intro Q hQ
 refine wk F ?_
 refine lm (fun nL tL hL=>∃(k:Nat),x.fo.length-k=nL∧h++[.row 34 9 0 [x.av],.row 45 7 0 [e.av],.row 34 9 0 [.agg [.int .i64 0,.nil (.slice none 0 0),.nil (.slice none 0 0),.nil (.slice none 0 0),.nil (.slice none 0 0),.int .i64 0,.int .i64 0,.int .i64 0,.int .i64 0]]]=hL∧tL 2=.hp h.length 0 0 0∧tL 3=.hp (h.length+1) 0 0 0∧tL 4=.hp (h.length+2) 0 0 0∧tL 5=.int .i64 k∧k≤x.fo.length∧(∀b∈x.fo.take k,b.id<e.a)) ((fun(k:Nat)=>(x.fo.length-k:Nat)) (0)) ?_ ?_
 ·refine Wkn.refl ⟨0,rfl,by simp[St.av,Ev.av,k1],?_,?_,?_,?_,by omega,by simp⟩
  all_goals first|exact zq F|rfl|omega|trivial|skip
 rintro _ s2 h' ⟨k,rfl,rfl,e2,e3,e4,e5,hk,hlt⟩ K2 hK2
 simp only[ak,ao,Nat.reduceEqDiff, ↓reduceIte]at e2 e3 e4 e5
 have F:=F5 F e2 e3 e4 e5
 have hsA:∀H,aslice Tryz.prog H 29 (.sl 3 (x.fo.map Fo.av)) none (some (.int .i64 (k:Int))) none=some (.sl 3 ((x.fo.map Fo.av).take k)):=fun H=>bL (by simp only[go_sem];try rfl) (by simp only[go_sem];try rfl) (by omega)
 have hsB:∀H,aslice Tryz.prog H 29 (.sl 3 (x.fo.map Fo.av)) (some (.int .i64 (k:Int))) none none=some (.sl 3 ((x.fo.map Fo.av).drop k)):=fun H=>bM (by simp only[go_sem];try rfl) (by simp only[go_sem];try rfl) (by omega)
 by_cases c1:k<x.fo.length
 ·obtain⟨b,hb,_⟩:=ac c1
  by_cases c2:b.id<e.a
  ·have d2:decide (b.id<e.a)=true:=decide_eq_true c2
   have F:=F5 F hb c1 dt d2
   try refine sq F ?_
   refine wk F ?_
   have hlt1:∀b∈x.fo.take (k+1),b.id<e.a:=by
    rw[List.take_add_one,hb]
    intro z hz
    simp at hz
    rcases hz with hz|rfl
    ·exact hlt z hz
    ·exact c2
   refine hK2 _ _ _ (Wkn.refl ⟨k+1,rfl,by simp[St.av,Ev.av,k1],?_,?_,?_,?_,by omega,hlt1⟩) (by omega)
   all_goals first|exact zq F|rfl|omega|trivial|skip
  ·have d2:decide (b.id<e.a)=false:=decide_eq_false c2
   have hins:insI (·.id) x.fo e.a=k:=cy hlt hk fun z hz=>by rw[hb]at hz;cases hz;exact c2
   have F:=F7 F hb c1 dt d2 @hsA @hsB
   try refine sq F ?_
   refine wk F ?_
   refine aL (n0:=h.length+3) (.ez _ _ _ _) (by simp) ?_
   intro v0 h0 L0 f0 g0
   obtain⟨r1,r2,r3⟩:=f0.r3
   simp only[List.length_append,List.length_cons,List.length_nil]at g0
   have F:=F4 F r1 r2 r3
   try refine sq F ?_
   skip
   refine wn F ?_
   refine aw 16 [5,14] [true,true,true,true,true,false,true,true,true,true,true,true,true,true,false,true] (.one 5 [false,false,false,false,false,false,true,true,true,true,true,true,false,true] (.one 14 [] .fin)) (by decide+kernel) (by kernel_rfl) (by decide+kernel) ?_
   simp only[aB,aC,az]
   try refine sq F ?_
   repeat' (first| (refine ah ?_;try refine sq F ?_)| (refine ai ?_;try refine sq F ?_)| (refine aj ?_ ?_<;>try refine sq F ?_))
   all_goals try refine wn F ?_
   refine aL (n0:=h0.length) (.ez _ _ _ _) (Nat.le_refl _) ?_
   intro v1 h1 L1 f1 g1
   obtain⟨r1,r2,r3⟩:=(f0.trans (f1.less (by omega))).r3
   have F:=F4 F r1 r2 r3
   try refine sq F ?_
   refine⟨?_,?_⟩
   ·(refine vq F ?_;try refine sq F ?_)<;>trivial
   repeat' (first| (refine ah ?_;try refine sq F ?_)| (refine ai ?_;try refine sq F ?_)| (refine aj ?_ ?_<;>try refine sq F ?_))
   all_goals try refine wn F ?_
   refine aL L1 (by omega) ?_
   intro v2 h2 L2 f2 g2
   obtain⟨r1,r2,r3⟩:=(f0.trans ((f1.trans f2).less (by omega))).r3
   have E0:=(L0.old (f1.trans f2)).elems
   have F:=F4 F r1 r2 r3
   try refine sq F ?_
   repeat' (first| (refine ah ?_;try refine sq F ?_)| (refine ai ?_;try refine sq F ?_)| (refine aj ?_ ?_<;>try refine sq F ?_))
   all_goals try refine wn F ?_
   refine aL L2 (by omega) ?_ (hy:=E0)
   intro v3 h3 L3 f3 g3
   obtain⟨r1,r2,r3⟩:=(f0.trans (((f1.trans f2).trans f3).less (by omega))).r3
   have lc:=L3.cel
   have ll:=L3.lie
   have hz:h.length+2<h3.length:=by omega
   have hn1:h.length<h3.length:=by omega
   have F:=F7 F r1 r2 r3 lc ll @ax
   try refine sq F ?_
   repeat' (first| (refine ah ?_;try refine sq F ?_)| (refine ai ?_;try refine sq F ?_)| (refine aj ?_ ?_<;>try refine sq F ?_))
   all_goals try refine wn F ?_
   skip
   refine kq F (cf G x.t1 e.a _) ?_
   refine ye hQ F ?_
   refine cw (FrN.trans (FrN.app _ (Nat.le_refl _) (FrN.refl _ _)) ((f0.trans (((f1.trans f2).trans f3).less (by omega))).less (by omega))) (by omega) (by omega) ?_ ⟨by rw[hins],rfl⟩
   refine bo (x:= {x with fo:=x.fo.take k++(⟨e.a,e.b,e.s⟩:Fo)::x.fo.drop k,t1:=topI x.t1 e.a}) ?_ (ap (Fe.clo _) _) (ap (It.clo _) _) (ap (Se.clo _) _)
   refine L3.fin2 (es:=(x.fo.take k++(⟨e.a,e.b,e.s⟩:Fo)::x.fo.drop k).map Fo.av) (by omega) (by omega) (by omega) ?_
   rw[List.map_append,List.map_cons,show(x.fo.take k).map Fo.av++Fo.av ⟨e.a,e.b,e.s⟩::(x.fo.drop k).map Fo.av=(x.fo.take k).map Fo.av++[Fo.av ⟨e.a,e.b,e.s⟩]++(x.fo.drop k).map Fo.av by simp, ← List.map_take, ← List.map_drop,List.nil_append]
   refine((FrzRs.map Fo.clo Fo.sto _).app (.cons ?_ .nil)).app (FrzRs.map Fo.clo Fo.sto _)
   exact FrzR.clo (Fo.clo _ ⟨e.a,e.b,e.s⟩) (Fo.sto ⟨e.a,e.b,e.s⟩)
 ·have d1:decide (k<x.fo.length)=false:=decide_eq_false c1
  have hins:insI (·.id) x.fo e.a=k:=cy hlt hk fun z hz=>by rw[List.getElem?_eq_none (by omega)]at hz;cases hz
  have F:=F4 F d1 @hsA @hsB
  try refine sq F ?_
  refine wk F ?_
  refine aL (n0:=h.length+3) (.ez _ _ _ _) (by simp) ?_
  intro v0 h0 L0 f0 g0
  obtain⟨r1,r2,r3⟩:=f0.r3
  simp only[List.length_append,List.length_cons,List.length_nil]at g0
  have F:=F4 F r1 r2 r3
  try refine sq F ?_
  skip
  refine wn F ?_
  refine aw 16 [5,14] [true,true,true,true,true,false,true,true,true,true,true,true,true,true,false,true] (.one 5 [false,false,false,false,false,false,true,true,true,true,true,true,false,true] (.one 14 [] .fin)) (by decide+kernel) (by kernel_rfl) (by decide+kernel) ?_
  simp only[aB,aC,az]
  try refine sq F ?_
  repeat' (first| (refine ah ?_;try refine sq F ?_)| (refine ai ?_;try refine sq F ?_)| (refine aj ?_ ?_<;>try refine sq F ?_))
  all_goals try refine wn F ?_
  refine aL (n0:=h0.length) (.ez _ _ _ _) (Nat.le_refl _) ?_
  intro v1 h1 L1 f1 g1
  obtain⟨r1,r2,r3⟩:=(f0.trans (f1.less (by omega))).r3
  have F:=F4 F r1 r2 r3
  try refine sq F ?_
  refine⟨?_,?_⟩
  ·(refine vq F ?_;try refine sq F ?_)<;>trivial
  repeat' (first| (refine ah ?_;try refine sq F ?_)| (refine ai ?_;try refine sq F ?_)| (refine aj ?_ ?_<;>try refine sq F ?_))
  all_goals try refine wn F ?_
  refine aL L1 (by omega) ?_
  intro v2 h2 L2 f2 g2
  obtain⟨r1,r2,r3⟩:=(f0.trans ((f1.trans f2).less (by omega))).r3
  have E0:=(L0.old (f1.trans f2)).elems
  have F:=F4 F r1 r2 r3
  try refine sq F ?_
  repeat' (first| (refine ah ?_;try refine sq F ?_)| (refine ai ?_;try refine sq F ?_)| (refine aj ?_ ?_<;>try refine sq F ?_))
  all_goals try refine wn F ?_
  refine aL L2 (by omega) ?_ (hy:=E0)
  intro v3 h3 L3 f3 g3
  obtain⟨r1,r2,r3⟩:=(f0.trans (((f1.trans f2).trans f3).less (by omega))).r3
  have lc:=L3.cel
  have ll:=L3.lie
  have hz:h.length+2<h3.length:=by omega
  have hn1:h.length<h3.length:=by omega
  have F:=F7 F r1 r2 r3 lc ll @ax
  try refine sq F ?_
  repeat' (first| (refine ah ?_;try refine sq F ?_)| (refine ai ?_;try refine sq F ?_)| (refine aj ?_ ?_<;>try refine sq F ?_))
  all_goals try refine wn F ?_
  skip
  refine kq F (cf G x.t1 e.a _) ?_
  refine ye hQ F ?_
  refine cw (FrN.trans (FrN.app _ (Nat.le_refl _) (FrN.refl _ _)) ((f0.trans (((f1.trans f2).trans f3).less (by omega))).less (by omega))) (by omega) (by omega) ?_ ⟨by rw[hins],rfl⟩
  refine bo (x:= {x with fo:=x.fo.take k++(⟨e.a,e.b,e.s⟩:Fo)::x.fo.drop k,t1:=topI x.t1 e.a}) ?_ (ap (Fe.clo _) _) (ap (It.clo _) _) (ap (Se.clo _) _)
  refine L3.fin2 (es:=(x.fo.take k++(⟨e.a,e.b,e.s⟩:Fo)::x.fo.drop k).map Fo.av) (by omega) (by omega) (by omega) ?_
  rw[List.map_append,List.map_cons,show(x.fo.take k).map Fo.av++Fo.av ⟨e.a,e.b,e.s⟩::(x.fo.drop k).map Fo.av=(x.fo.take k).map Fo.av++[Fo.av ⟨e.a,e.b,e.s⟩]++(x.fo.drop k).map Fo.av by simp, ← List.map_take, ← List.map_drop,List.nil_append]
  refine((FrzRs.map Fo.clo Fo.sto _).app (.cons ?_ .nil)).app (FrzRs.map Fo.clo Fo.sto _)
  exact FrzR.clo (Fo.clo _ ⟨e.a,e.b,e.s⟩) (Fo.sto ⟨e.a,e.b,e.s⟩)
theorem qi(x:St)(e:Ev)(k1:e.kind=3)(hl:x.fe.length≤100000)(h:Heap):
  Sat (CT G) 80 [x.av,e.av] h (fun r h'=>r=({x with fe:=x.fe.take (insI (·.id) x.fe e.a)++(⟨e.a,e.b,e.s,e.t⟩:Fe)::x.fe.drop (insI (·.id) x.fe e.a),t2:=topI x.t2 e.a}:St).av∧h'=h):=by
 have hel:(x.fe.map Fe.av).length=x.fe.length:=List.length_map ..
 have dt:∀i:Decidable True, @decide True i=true:=fun i=>decide_eq_true trivial
 have F:=F2 k1 hel
 refine sb [.cell 4 34] (fn:=Tryz.f80) Tryz.func80 ?_
 intro Q hQ
 refine wk F ?_
 refine lm (fun nL tL hL=>∃(k:Nat),x.fe.length-k=nL∧h++[.row 34 9 0 [x.av],.row 45 7 0 [e.av],.row 34 9 0 [.agg [.int .i64 0,.nil (.slice none 0 0),.nil (.slice none 0 0),.nil (.slice none 0 0),.nil (.slice none 0 0),.int .i64 0,.int .i64 0,.int .i64 0,.int .i64 0]]]=hL∧tL 2=.hp h.length 0 0 0∧tL 3=.hp (h.length+1) 0 0 0∧tL 4=.hp (h.length+2) 0 0 0∧tL 5=.int .i64 k∧k≤x.fe.length∧(∀b∈x.fe.take k,b.id<e.a)) ((fun(k:Nat)=>(x.fe.length-k:Nat)) (0)) ?_ ?_
 ·refine Wkn.refl ⟨0,rfl,by simp[St.av,Ev.av,k1],?_,?_,?_,?_,by omega,by simp⟩
  all_goals first|exact zq F|rfl|omega|trivial|skip
 rintro _ s2 h' ⟨k,rfl,rfl,e2,e3,e4,e5,hk,hlt⟩ K2 hK2
 simp only[ak,ao,Nat.reduceEqDiff, ↓reduceIte]at e2 e3 e4 e5
 have F:=F5 F e2 e3 e4 e5
 have hsA:∀H,aslice Tryz.prog H 30 (.sl 4 (x.fe.map Fe.av)) none (some (.int .i64 (k:Int))) none=some (.sl 4 ((x.fe.map Fe.av).take k)):=fun H=>bL (by simp only[go_sem];try rfl) (by simp only[go_sem];try rfl) (by omega)
 have hsB:∀H,aslice Tryz.prog H 30 (.sl 4 (x.fe.map Fe.av)) (some (.int .i64 (k:Int))) none none=some (.sl 4 ((x.fe.map Fe.av).drop k)):=fun H=>bM (by simp only[go_sem];try rfl) (by simp only[go_sem];try rfl) (by omega)
 by_cases c1:k<x.fe.length
 ·obtain⟨b,hb,_⟩:=ac c1
  by_cases c2:b.id<e.a
  ·have d2:decide (b.id<e.a)=true:=decide_eq_true c2
   have F:=F5 F hb c1 dt d2
   try refine sq F ?_
   refine wk F ?_
   have hlt1:∀b∈x.fe.take (k+1),b.id<e.a:=by
    rw[List.take_add_one,hb]
    intro z hz
    simp at hz
    rcases hz with hz|rfl
    ·exact hlt z hz
    ·exact c2
   refine hK2 _ _ _ (Wkn.refl ⟨k+1,rfl,by simp[St.av,Ev.av,k1],?_,?_,?_,?_,by omega,hlt1⟩) (by omega)
   all_goals first|exact zq F|rfl|omega|trivial|skip
  ·have d2:decide (b.id<e.a)=false:=decide_eq_false c2
   have hins:insI (·.id) x.fe e.a=k:=cy hlt hk fun z hz=>by rw[hb]at hz;cases hz;exact c2
   have F:=F7 F hb c1 dt d2 @hsA @hsB
   try refine sq F ?_
   refine wk F ?_
   refine aL (n0:=h.length+3) (.ez _ _ _ _) (by simp) ?_
   intro v0 h0 L0 f0 g0
   obtain⟨r1,r2,r3⟩:=f0.r3
   simp only[List.length_append,List.length_cons,List.length_nil]at g0
   have F:=F4 F r1 r2 r3
   try refine sq F ?_
   skip
   refine wn F ?_
   refine aw 18 [5,16] [true,true,true,true,true,false,true,true,true,true,true,true,true,true,true,true,false,true] (.one 5 [false,false,false,false,false,false,true,true,true,true,true,true,true,true,false,true] (.one 16 [] .fin)) (by decide+kernel) (by kernel_rfl) (by decide+kernel) ?_
   simp only[aB,aC,az]
   try refine sq F ?_
   repeat' (first| (refine ah ?_;try refine sq F ?_)| (refine ai ?_;try refine sq F ?_)| (refine aj ?_ ?_<;>try refine sq F ?_))
   all_goals try refine wn F ?_
   refine aL (n0:=h0.length) (.ez _ _ _ _) (Nat.le_refl _) ?_
   intro v1 h1 L1 f1 g1
   obtain⟨r1,r2,r3⟩:=(f0.trans (f1.less (by omega))).r3
   have F:=F4 F r1 r2 r3
   try refine sq F ?_
   refine⟨?_,?_⟩
   ·(refine vq F ?_;try refine sq F ?_)<;>trivial
   repeat' (first| (refine ah ?_;try refine sq F ?_)| (refine ai ?_;try refine sq F ?_)| (refine aj ?_ ?_<;>try refine sq F ?_))
   all_goals try refine wn F ?_
   refine aL L1 (by omega) ?_
   intro v2 h2 L2 f2 g2
   obtain⟨r1,r2,r3⟩:=(f0.trans ((f1.trans f2).less (by omega))).r3
   have E0:=(L0.old (f1.trans f2)).elems
   have F:=F4 F r1 r2 r3
   try refine sq F ?_
   repeat' (first| (refine ah ?_;try refine sq F ?_)| (refine ai ?_;try refine sq F ?_)| (refine aj ?_ ?_<;>try refine sq F ?_))
   all_goals try refine wn F ?_
   refine aL L2 (by omega) ?_ (hy:=E0)
   intro v3 h3 L3 f3 g3
   obtain⟨r1,r2,r3⟩:=(f0.trans (((f1.trans f2).trans f3).less (by omega))).r3
   have lc:=L3.cel
   have ll:=L3.lie
   have hz:h.length+2<h3.length:=by omega
   have hn1:h.length<h3.length:=by omega
   have F:=F7 F r1 r2 r3 lc ll @ax
   try refine sq F ?_
   repeat' (first| (refine ah ?_;try refine sq F ?_)| (refine ai ?_;try refine sq F ?_)| (refine aj ?_ ?_<;>try refine sq F ?_))
   all_goals try refine wn F ?_
   skip
   refine kq F (cf G x.t2 e.a _) ?_
   refine ye hQ F ?_
   refine cw (FrN.trans (FrN.app _ (Nat.le_refl _) (FrN.refl _ _)) ((f0.trans (((f1.trans f2).trans f3).less (by omega))).less (by omega))) (by omega) (by omega) ?_ ⟨by rw[hins],rfl⟩
   refine bo (x:= {x with fe:=x.fe.take k++(⟨e.a,e.b,e.s,e.t⟩:Fe)::x.fe.drop k,t2:=topI x.t2 e.a}) (ap (Fo.clo _) _) ?_ (ap (It.clo _) _) (ap (Se.clo _) _)
   refine L3.fin2 (es:=(x.fe.take k++(⟨e.a,e.b,e.s,e.t⟩:Fe)::x.fe.drop k).map Fe.av) (by omega) (by omega) (by omega) ?_
   rw[List.map_append,List.map_cons,show(x.fe.take k).map Fe.av++Fe.av ⟨e.a,e.b,e.s,e.t⟩::(x.fe.drop k).map Fe.av=(x.fe.take k).map Fe.av++[Fe.av ⟨e.a,e.b,e.s,e.t⟩]++(x.fe.drop k).map Fe.av by simp, ← List.map_take, ← List.map_drop,List.nil_append]
   refine((FrzRs.map Fe.clo Fe.sto _).app (.cons ?_ .nil)).app (FrzRs.map Fe.clo Fe.sto _)
   exact FrzR.clo (Fe.clo _ ⟨e.a,e.b,e.s,e.t⟩) (Fe.sto ⟨e.a,e.b,e.s,e.t⟩)
 ·have d1:decide (k<x.fe.length)=false:=decide_eq_false c1
  have hins:insI (·.id) x.fe e.a=k:=cy hlt hk fun z hz=>by rw[List.getElem?_eq_none (by omega)]at hz;cases hz
  have F:=F4 F d1 @hsA @hsB
  try refine sq F ?_
  refine wk F ?_
  refine aL (n0:=h.length+3) (.ez _ _ _ _) (by simp) ?_
  intro v0 h0 L0 f0 g0
  obtain⟨r1,r2,r3⟩:=f0.r3
  simp only[List.length_append,List.length_cons,List.length_nil]at g0
  have F:=F4 F r1 r2 r3
  try refine sq F ?_
  skip
  refine wn F ?_
  refine aw 18 [5,16] [true,true,true,true,true,false,true,true,true,true,true,true,true,true,true,true,false,true] (.one 5 [false,false,false,false,false,false,true,true,true,true,true,true,true,true,false,true] (.one 16 [] .fin)) (by decide+kernel) (by kernel_rfl) (by decide+kernel) ?_
  simp only[aB,aC,az]
  try refine sq F ?_
  repeat' (first| (refine ah ?_;try refine sq F ?_)| (refine ai ?_;try refine sq F ?_)| (refine aj ?_ ?_<;>try refine sq F ?_))
  all_goals try refine wn F ?_
  refine aL (n0:=h0.length) (.ez _ _ _ _) (Nat.le_refl _) ?_
  intro v1 h1 L1 f1 g1
  obtain⟨r1,r2,r3⟩:=(f0.trans (f1.less (by omega))).r3
  have F:=F4 F r1 r2 r3
  try refine sq F ?_
  refine⟨?_,?_⟩
  ·(refine vq F ?_;try refine sq F ?_)<;>trivial
  repeat' (first| (refine ah ?_;try refine sq F ?_)| (refine ai ?_;try refine sq F ?_)| (refine aj ?_ ?_<;>try refine sq F ?_))
  all_goals try refine wn F ?_
  refine aL L1 (by omega) ?_
  intro v2 h2 L2 f2 g2
  obtain⟨r1,r2,r3⟩:=(f0.trans ((f1.trans f2).less (by omega))).r3
  have E0:=(L0.old (f1.trans f2)).elems
  have F:=F4 F r1 r2 r3
  try refine sq F ?_
  repeat' (first| (refine ah ?_;try refine sq F ?_)| (refine ai ?_;try refine sq F ?_)| (refine aj ?_ ?_<;>try refine sq F ?_))
  all_goals try refine wn F ?_
  refine aL L2 (by omega) ?_ (hy:=E0)
  intro v3 h3 L3 f3 g3
  obtain⟨r1,r2,r3⟩:=(f0.trans (((f1.trans f2).trans f3).less (by omega))).r3
  have lc:=L3.cel
  have ll:=L3.lie
  have hz:h.length+2<h3.length:=by omega
  have hn1:h.length<h3.length:=by omega
  have F:=F7 F r1 r2 r3 lc ll @ax
  try refine sq F ?_
  repeat' (first| (refine ah ?_;try refine sq F ?_)| (refine ai ?_;try refine sq F ?_)| (refine aj ?_ ?_<;>try refine sq F ?_))
  all_goals try refine wn F ?_
  skip
  refine kq F (cf G x.t2 e.a _) ?_
  refine ye hQ F ?_
  refine cw (FrN.trans (FrN.app _ (Nat.le_refl _) (FrN.refl _ _)) ((f0.trans (((f1.trans f2).trans f3).less (by omega))).less (by omega))) (by omega) (by omega) ?_ ⟨by rw[hins],rfl⟩
  refine bo (x:= {x with fe:=x.fe.take k++(⟨e.a,e.b,e.s,e.t⟩:Fe)::x.fe.drop k,t2:=topI x.t2 e.a}) (ap (Fo.clo _) _) ?_ (ap (It.clo _) _) (ap (Se.clo _) _)
  refine L3.fin2 (es:=(x.fe.take k++(⟨e.a,e.b,e.s,e.t⟩:Fe)::x.fe.drop k).map Fe.av) (by omega) (by omega) (by omega) ?_
  rw[List.map_append,List.map_cons,show(x.fe.take k).map Fe.av++Fe.av ⟨e.a,e.b,e.s,e.t⟩::(x.fe.drop k).map Fe.av=(x.fe.take k).map Fe.av++[Fe.av ⟨e.a,e.b,e.s,e.t⟩]++(x.fe.drop k).map Fe.av by simp, ← List.map_take, ← List.map_drop,List.nil_append]
  refine((FrzRs.map Fe.clo Fe.sto _).app (.cons ?_ .nil)).app (FrzRs.map Fe.clo Fe.sto _)
  exact FrzR.clo (Fe.clo _ ⟨e.a,e.b,e.s,e.t⟩) (Fe.sto ⟨e.a,e.b,e.s,e.t⟩)
theorem qj(x:St)(e:Ev)(k1:e.kind=7)(hl:x.it.length≤100000)(h:Heap):
  Sat (CT G) 80 [x.av,e.av] h (fun r h'=>r=({x with it:=x.it.take (insI (·.id) x.it e.a)++(⟨e.a,e.b,e.n,e.s,e.t,e.u,false,false,[]⟩:It)::x.it.drop (insI (·.id) x.it e.a),t3:=topI x.t3 e.a}:St).av∧h'=h):=by
 have hel:(x.it.map It.av).length=x.it.length:=List.length_map ..
 have dt:∀i:Decidable True, @decide True i=true:=fun i=>decide_eq_true trivial
 have F:=F2 k1 hel
 refine sb [.cell 4 34] (fn:=Tryz.f80) Tryz.func80 ?_
 intro Q hQ
 refine wk F ?_
 refine lm (fun nL tL hL=>∃(k:Nat),x.it.length-k=nL∧h++[.row 34 9 0 [x.av],.row 45 7 0 [e.av],.row 34 9 0 [.agg [.int .i64 0,.nil (.slice none 0 0),.nil (.slice none 0 0),.nil (.slice none 0 0),.nil (.slice none 0 0),.int .i64 0,.int .i64 0,.int .i64 0,.int .i64 0]]]=hL∧tL 2=.hp h.length 0 0 0∧tL 3=.hp (h.length+1) 0 0 0∧tL 4=.hp (h.length+2) 0 0 0∧tL 5=.int .i64 k∧k≤x.it.length∧(∀b∈x.it.take k,b.id<e.a)) ((fun(k:Nat)=>(x.it.length-k:Nat)) (0)) ?_ ?_
 ·refine Wkn.refl ⟨0,rfl,by simp[St.av,Ev.av,k1],?_,?_,?_,?_,by omega,by simp⟩
  all_goals first|exact zq F|rfl|omega|trivial|skip
 rintro _ s2 h' ⟨k,rfl,rfl,e2,e3,e4,e5,hk,hlt⟩ K2 hK2
 simp only[ak,ao,Nat.reduceEqDiff, ↓reduceIte]at e2 e3 e4 e5
 have F:=F5 F e2 e3 e4 e5
 have hsA:∀H,aslice Tryz.prog H 31 (.sl 9 (x.it.map It.av)) none (some (.int .i64 (k:Int))) none=some (.sl 9 ((x.it.map It.av).take k)):=fun H=>bL (by simp only[go_sem];try rfl) (by simp only[go_sem];try rfl) (by omega)
 have hsB:∀H,aslice Tryz.prog H 31 (.sl 9 (x.it.map It.av)) (some (.int .i64 (k:Int))) none none=some (.sl 9 ((x.it.map It.av).drop k)):=fun H=>bM (by simp only[go_sem];try rfl) (by simp only[go_sem];try rfl) (by omega)
 by_cases c1:k<x.it.length
 ·obtain⟨b,hb,_⟩:=ac c1
  by_cases c2:b.id<e.a
  ·have d2:decide (b.id<e.a)=true:=decide_eq_true c2
   have F:=F5 F hb c1 dt d2
   try refine sq F ?_
   refine wk F ?_
   have hlt1:∀b∈x.it.take (k+1),b.id<e.a:=by
    rw[List.take_add_one,hb]
    intro z hz
    simp at hz
    rcases hz with hz|rfl
    ·exact hlt z hz
    ·exact c2
   refine hK2 _ _ _ (Wkn.refl ⟨k+1,rfl,by simp[St.av,Ev.av,k1],?_,?_,?_,?_,by omega,hlt1⟩) (by omega)
   all_goals first|exact zq F|rfl|omega|trivial|skip
  ·have d2:decide (b.id<e.a)=false:=decide_eq_false c2
   have hins:insI (·.id) x.it e.a=k:=cy hlt hk fun z hz=>by rw[hb]at hz;cases hz;exact c2
   have F:=F7 F hb c1 dt d2 @hsA @hsB
   try refine sq F ?_
   refine wk F ?_
   refine aL (n0:=h.length+3) (.ez _ _ _ _) (by simp) ?_
   intro v0 h0 L0 f0 g0
   obtain⟨r1,r2,r3⟩:=f0.r3
   simp only[List.length_append,List.length_cons,List.length_nil]at g0
   have F:=F4 F r1 r2 r3
   try refine sq F ?_
   skip
   refine wn F ?_
   refine aw 22 [5,20] [true,true,true,true,true,false,true,true,true,true,true,true,true,true,true,true,true,true,true,true,false,true] (.one 5 [false,false,false,false,false,false,true,true,true,true,true,true,true,true,true,true,true,true,false,true] (.one 20 [] .fin)) (by decide+kernel) (by kernel_rfl) (by decide+kernel) ?_
   simp only[aB,aC,az]
   try refine sq F ?_
   repeat' (first| (refine ah ?_;try refine sq F ?_)| (refine ai ?_;try refine sq F ?_)| (refine aj ?_ ?_<;>try refine sq F ?_))
   all_goals try refine wn F ?_
   refine aL (n0:=h0.length) (.ez _ _ _ _) (Nat.le_refl _) ?_
   intro v1 h1 L1 f1 g1
   obtain⟨r1,r2,r3⟩:=(f0.trans (f1.less (by omega))).r3
   have F:=F4 F r1 r2 r3
   try refine sq F ?_
   refine⟨?_,?_⟩
   ·(refine vq F ?_;try refine sq F ?_)<;>trivial
   repeat' (first| (refine ah ?_;try refine sq F ?_)| (refine ai ?_;try refine sq F ?_)| (refine aj ?_ ?_<;>try refine sq F ?_))
   all_goals try refine wn F ?_
   refine aL L1 (by omega) ?_
   intro v2 h2 L2 f2 g2
   obtain⟨r1,r2,r3⟩:=(f0.trans ((f1.trans f2).less (by omega))).r3
   have E0:=(L0.old (f1.trans f2)).elems
   have F:=F4 F r1 r2 r3
   try refine sq F ?_
   repeat' (first| (refine ah ?_;try refine sq F ?_)| (refine ai ?_;try refine sq F ?_)| (refine aj ?_ ?_<;>try refine sq F ?_))
   all_goals try refine wn F ?_
   refine aL L2 (by omega) ?_ (hy:=E0)
   intro v3 h3 L3 f3 g3
   obtain⟨r1,r2,r3⟩:=(f0.trans (((f1.trans f2).trans f3).less (by omega))).r3
   have lc:=L3.cel
   have ll:=L3.lie
   have hz:h.length+2<h3.length:=by omega
   have hn1:h.length<h3.length:=by omega
   have F:=F7 F r1 r2 r3 lc ll @ax
   try refine sq F ?_
   repeat' (first| (refine ah ?_;try refine sq F ?_)| (refine ai ?_;try refine sq F ?_)| (refine aj ?_ ?_<;>try refine sq F ?_))
   all_goals try refine wn F ?_
   skip
   refine kq F (cf G x.t3 e.a _) ?_
   refine ye hQ F ?_
   refine cw (FrN.trans (FrN.app _ (Nat.le_refl _) (FrN.refl _ _)) ((f0.trans (((f1.trans f2).trans f3).less (by omega))).less (by omega))) (by omega) (by omega) ?_ ⟨by rw[hins],rfl⟩
   refine bo (x:= {x with it:=x.it.take k++(⟨e.a,e.b,e.n,e.s,e.t,e.u,false,false,[]⟩:It)::x.it.drop k,t3:=topI x.t3 e.a}) (ap (Fo.clo _) _) (ap (Fe.clo _) _) ?_ (ap (Se.clo _) _)
   refine L3.fin2 (es:=(x.it.take k++(⟨e.a,e.b,e.n,e.s,e.t,e.u,false,false,[]⟩:It)::x.it.drop k).map It.av) (by omega) (by omega) (by omega) ?_
   rw[List.map_append,List.map_cons,show(x.it.take k).map It.av++It.av ⟨e.a,e.b,e.n,e.s,e.t,e.u,false,false,[]⟩::(x.it.drop k).map It.av=(x.it.take k).map It.av++[It.av ⟨e.a,e.b,e.n,e.s,e.t,e.u,false,false,[]⟩]++(x.it.drop k).map It.av by simp, ← List.map_take, ← List.map_drop,List.nil_append]
   refine((FrzRs.map It.clo It.sto _).app (.cons ?_ .nil)).app (FrzRs.map It.clo It.sto _)
   exact FrzL.row (.cons (.clo _ (.int _ _)) (.cons (.clo _ (.int _ _)) (.cons (.clo _ (.int _ _)) (.cons (.clo _ (.str _)) (.cons (.clo _ (.str _)) (.cons (.clo _ (.str _)) (.cons (.clo _ (.bool _)) (.cons (.clo _ (.bool _)) (.cons (.nils 1) .nil))))))))) rfl
 ·have d1:decide (k<x.it.length)=false:=decide_eq_false c1
  have hins:insI (·.id) x.it e.a=k:=cy hlt hk fun z hz=>by rw[List.getElem?_eq_none (by omega)]at hz;cases hz
  have F:=F4 F d1 @hsA @hsB
  try refine sq F ?_
  refine wk F ?_
  refine aL (n0:=h.length+3) (.ez _ _ _ _) (by simp) ?_
  intro v0 h0 L0 f0 g0
  obtain⟨r1,r2,r3⟩:=f0.r3
  simp only[List.length_append,List.length_cons,List.length_nil]at g0
  have F:=F4 F r1 r2 r3
  try refine sq F ?_
  skip
  refine wn F ?_
  refine aw 22 [5,20] [true,true,true,true,true,false,true,true,true,true,true,true,true,true,true,true,true,true,true,true,false,true] (.one 5 [false,false,false,false,false,false,true,true,true,true,true,true,true,true,true,true,true,true,false,true] (.one 20 [] .fin)) (by decide+kernel) (by kernel_rfl) (by decide+kernel) ?_
  simp only[aB,aC,az]
  try refine sq F ?_
  repeat' (first| (refine ah ?_;try refine sq F ?_)| (refine ai ?_;try refine sq F ?_)| (refine aj ?_ ?_<;>try refine sq F ?_))
  all_goals try refine wn F ?_
  refine aL (n0:=h0.length) (.ez _ _ _ _) (Nat.le_refl _) ?_
  intro v1 h1 L1 f1 g1
  obtain⟨r1,r2,r3⟩:=(f0.trans (f1.less (by omega))).r3
  have F:=F4 F r1 r2 r3
  try refine sq F ?_
  refine⟨?_,?_⟩
  ·(refine vq F ?_;try refine sq F ?_)<;>trivial
  repeat' (first| (refine ah ?_;try refine sq F ?_)| (refine ai ?_;try refine sq F ?_)| (refine aj ?_ ?_<;>try refine sq F ?_))
  all_goals try refine wn F ?_
  refine aL L1 (by omega) ?_
  intro v2 h2 L2 f2 g2
  obtain⟨r1,r2,r3⟩:=(f0.trans ((f1.trans f2).less (by omega))).r3
  have E0:=(L0.old (f1.trans f2)).elems
  have F:=F4 F r1 r2 r3
  try refine sq F ?_
  repeat' (first| (refine ah ?_;try refine sq F ?_)| (refine ai ?_;try refine sq F ?_)| (refine aj ?_ ?_<;>try refine sq F ?_))
  all_goals try refine wn F ?_
  refine aL L2 (by omega) ?_ (hy:=E0)
  intro v3 h3 L3 f3 g3
  obtain⟨r1,r2,r3⟩:=(f0.trans (((f1.trans f2).trans f3).less (by omega))).r3
  have lc:=L3.cel
  have ll:=L3.lie
  have hz:h.length+2<h3.length:=by omega
  have hn1:h.length<h3.length:=by omega
  have F:=F7 F r1 r2 r3 lc ll @ax
  try refine sq F ?_
  repeat' (first| (refine ah ?_;try refine sq F ?_)| (refine ai ?_;try refine sq F ?_)| (refine aj ?_ ?_<;>try refine sq F ?_))
  all_goals try refine wn F ?_
  skip
  refine kq F (cf G x.t3 e.a _) ?_
  refine ye hQ F ?_
  refine cw (FrN.trans (FrN.app _ (Nat.le_refl _) (FrN.refl _ _)) ((f0.trans (((f1.trans f2).trans f3).less (by omega))).less (by omega))) (by omega) (by omega) ?_ ⟨by rw[hins],rfl⟩
  refine bo (x:= {x with it:=x.it.take k++(⟨e.a,e.b,e.n,e.s,e.t,e.u,false,false,[]⟩:It)::x.it.drop k,t3:=topI x.t3 e.a}) (ap (Fo.clo _) _) (ap (Fe.clo _) _) ?_ (ap (Se.clo _) _)
  refine L3.fin2 (es:=(x.it.take k++(⟨e.a,e.b,e.n,e.s,e.t,e.u,false,false,[]⟩:It)::x.it.drop k).map It.av) (by omega) (by omega) (by omega) ?_
  rw[List.map_append,List.map_cons,show(x.it.take k).map It.av++It.av ⟨e.a,e.b,e.n,e.s,e.t,e.u,false,false,[]⟩::(x.it.drop k).map It.av=(x.it.take k).map It.av++[It.av ⟨e.a,e.b,e.n,e.s,e.t,e.u,false,false,[]⟩]++(x.it.drop k).map It.av by simp, ← List.map_take, ← List.map_drop,List.nil_append]
  refine((FrzRs.map It.clo It.sto _).app (.cons ?_ .nil)).app (FrzRs.map It.clo It.sto _)
  exact FrzL.row (.cons (.clo _ (.int _ _)) (.cons (.clo _ (.int _ _)) (.cons (.clo _ (.int _ _)) (.cons (.clo _ (.str _)) (.cons (.clo _ (.str _)) (.cons (.clo _ (.str _)) (.cons (.clo _ (.bool _)) (.cons (.clo _ (.bool _)) (.cons (.nils 1) .nil))))))))) rfl
theorem nW(x:St)(e:Ev)(k1:e.kind=11)(hl:x.se.length≤100000)(h:Heap):
  Sat (CT G) 80 [x.av,e.av] h (fun r h'=>r=({x with se:=x.se.take (insI (·.id) x.se e.a)++(⟨e.a,e.s,e.t⟩:Se)::x.se.drop (insI (·.id) x.se e.a),t4:=topI x.t4 e.a}:St).av∧h'=h):=by
 have hel:(x.se.map Se.av).length=x.se.length:=List.length_map ..
 have dt:∀i:Decidable True, @decide True i=true:=fun i=>decide_eq_true trivial
 have F:=F2 k1 hel
 refine sb [.cell 4 34] (fn:=Tryz.f80) Tryz.func80 ?_
 intro Q hQ
 refine wk F ?_
 refine lm (fun nL tL hL=>∃(k:Nat),x.se.length-k=nL∧h++[.row 34 9 0 [x.av],.row 45 7 0 [e.av],.row 34 9 0 [.agg [.int .i64 0,.nil (.slice none 0 0),.nil (.slice none 0 0),.nil (.slice none 0 0),.nil (.slice none 0 0),.int .i64 0,.int .i64 0,.int .i64 0,.int .i64 0]]]=hL∧tL 2=.hp h.length 0 0 0∧tL 3=.hp (h.length+1) 0 0 0∧tL 4=.hp (h.length+2) 0 0 0∧tL 5=.int .i64 k∧k≤x.se.length∧(∀b∈x.se.take k,b.id<e.a)) ((fun(k:Nat)=>(x.se.length-k:Nat)) (0)) ?_ ?_
 ·refine Wkn.refl ⟨0,rfl,by simp[St.av,Ev.av,k1],?_,?_,?_,?_,by omega,by simp⟩
  all_goals first|exact zq F|rfl|omega|trivial|skip
 rintro _ s2 h' ⟨k,rfl,rfl,e2,e3,e4,e5,hk,hlt⟩ K2 hK2
 simp only[ak,ao,Nat.reduceEqDiff, ↓reduceIte]at e2 e3 e4 e5
 have F:=F5 F e2 e3 e4 e5
 have hsA:∀H,aslice Tryz.prog H 32 (.sl 3 (x.se.map Se.av)) none (some (.int .i64 (k:Int))) none=some (.sl 3 ((x.se.map Se.av).take k)):=fun H=>bL (by simp only[go_sem];try rfl) (by simp only[go_sem];try rfl) (by omega)
 have hsB:∀H,aslice Tryz.prog H 32 (.sl 3 (x.se.map Se.av)) (some (.int .i64 (k:Int))) none none=some (.sl 3 ((x.se.map Se.av).drop k)):=fun H=>bM (by simp only[go_sem];try rfl) (by simp only[go_sem];try rfl) (by omega)
 by_cases c1:k<x.se.length
 ·obtain⟨b,hb,_⟩:=ac c1
  by_cases c2:b.id<e.a
  ·have d2:decide (b.id<e.a)=true:=decide_eq_true c2
   have F:=F5 F hb c1 dt d2
   try refine sq F ?_
   refine wk F ?_
   have hlt1:∀b∈x.se.take (k+1),b.id<e.a:=by
    rw[List.take_add_one,hb]
    intro z hz
    simp at hz
    rcases hz with hz|rfl
    ·exact hlt z hz
    ·exact c2
   refine hK2 _ _ _ (Wkn.refl ⟨k+1,rfl,by simp[St.av,Ev.av,k1],?_,?_,?_,?_,by omega,hlt1⟩) (by omega)
   all_goals first|exact zq F|rfl|omega|trivial|skip
  ·have d2:decide (b.id<e.a)=false:=decide_eq_false c2
   have hins:insI (·.id) x.se e.a=k:=cy hlt hk fun z hz=>by rw[hb]at hz;cases hz;exact c2
   have F:=F7 F hb c1 dt d2 @hsA @hsB
   try refine sq F ?_
   refine wk F ?_
   refine aL (n0:=h.length+3) (.ez _ _ _ _) (by simp) ?_
   intro v0 h0 L0 f0 g0
   obtain⟨r1,r2,r3⟩:=f0.r3
   simp only[List.length_append,List.length_cons,List.length_nil]at g0
   have F:=F4 F r1 r2 r3
   try refine sq F ?_
   skip
   refine wn F ?_
   refine aw 16 [5,14] [true,true,true,true,true,false,true,true,true,true,true,true,true,true,false,true] (.one 5 [false,false,false,false,false,false,true,true,true,true,true,true,false,true] (.one 14 [] .fin)) (by decide+kernel) (by kernel_rfl) (by decide+kernel) ?_
   simp only[aB,aC,az]
   try refine sq F ?_
   repeat' (first| (refine ah ?_;try refine sq F ?_)| (refine ai ?_;try refine sq F ?_)| (refine aj ?_ ?_<;>try refine sq F ?_))
   all_goals try refine wn F ?_
   refine aL (n0:=h0.length) (.ez _ _ _ _) (Nat.le_refl _) ?_
   intro v1 h1 L1 f1 g1
   obtain⟨r1,r2,r3⟩:=(f0.trans (f1.less (by omega))).r3
   have F:=F4 F r1 r2 r3
   try refine sq F ?_
   refine⟨?_,?_⟩
   ·(refine vq F ?_;try refine sq F ?_)<;>trivial
   repeat' (first| (refine ah ?_;try refine sq F ?_)| (refine ai ?_;try refine sq F ?_)| (refine aj ?_ ?_<;>try refine sq F ?_))
   all_goals try refine wn F ?_
   refine aL L1 (by omega) ?_
   intro v2 h2 L2 f2 g2
   obtain⟨r1,r2,r3⟩:=(f0.trans ((f1.trans f2).less (by omega))).r3
   have E0:=(L0.old (f1.trans f2)).elems
   have F:=F4 F r1 r2 r3
   try refine sq F ?_
   repeat' (first| (refine ah ?_;try refine sq F ?_)| (refine ai ?_;try refine sq F ?_)| (refine aj ?_ ?_<;>try refine sq F ?_))
   all_goals try refine wn F ?_
   refine aL L2 (by omega) ?_ (hy:=E0)
   intro v3 h3 L3 f3 g3
   obtain⟨r1,r2,r3⟩:=(f0.trans (((f1.trans f2).trans f3).less (by omega))).r3
   have lc:=L3.cel
   have ll:=L3.lie
   have hz:h.length+2<h3.length:=by omega
   have hn1:h.length<h3.length:=by omega
   have F:=F7 F r1 r2 r3 lc ll @ax
   try refine sq F ?_
   repeat' (first| (refine ah ?_;try refine sq F ?_)| (refine ai ?_;try refine sq F ?_)| (refine aj ?_ ?_<;>try refine sq F ?_))
   all_goals try refine wn F ?_
   skip
   refine kq F (cf G x.t4 e.a _) ?_
   refine ye hQ F ?_
   refine cw (FrN.trans (FrN.app _ (Nat.le_refl _) (FrN.refl _ _)) ((f0.trans (((f1.trans f2).trans f3).less (by omega))).less (by omega))) (by omega) (by omega) ?_ ⟨by rw[hins],rfl⟩
   refine bo (x:= {x with se:=x.se.take k++(⟨e.a,e.s,e.t⟩:Se)::x.se.drop k,t4:=topI x.t4 e.a}) (ap (Fo.clo _) _) (ap (Fe.clo _) _) (ap (It.clo _) _) ?_
   refine L3.fin2 (es:=(x.se.take k++(⟨e.a,e.s,e.t⟩:Se)::x.se.drop k).map Se.av) (by omega) (by omega) (by omega) ?_
   rw[List.map_append,List.map_cons,show(x.se.take k).map Se.av++Se.av ⟨e.a,e.s,e.t⟩::(x.se.drop k).map Se.av=(x.se.take k).map Se.av++[Se.av ⟨e.a,e.s,e.t⟩]++(x.se.drop k).map Se.av by simp, ← List.map_take, ← List.map_drop,List.nil_append]
   refine((FrzRs.map Se.clo Se.sto _).app (.cons ?_ .nil)).app (FrzRs.map Se.clo Se.sto _)
   exact FrzR.clo (Se.clo _ ⟨e.a,e.s,e.t⟩) (Se.sto ⟨e.a,e.s,e.t⟩)
 ·have d1:decide (k<x.se.length)=false:=decide_eq_false c1
  have hins:insI (·.id) x.se e.a=k:=cy hlt hk fun z hz=>by rw[List.getElem?_eq_none (by omega)]at hz;cases hz
  have F:=F4 F d1 @hsA @hsB
  try refine sq F ?_
  refine wk F ?_
  refine aL (n0:=h.length+3) (.ez _ _ _ _) (by simp) ?_
  intro v0 h0 L0 f0 g0
  obtain⟨r1,r2,r3⟩:=f0.r3
  simp only[List.length_append,List.length_cons,List.length_nil]at g0
  have F:=F4 F r1 r2 r3
  try refine sq F ?_
  skip
  refine wn F ?_
  refine aw 16 [5,14] [true,true,true,true,true,false,true,true,true,true,true,true,true,true,false,true] (.one 5 [false,false,false,false,false,false,true,true,true,true,true,true,false,true] (.one 14 [] .fin)) (by decide+kernel) (by kernel_rfl) (by decide+kernel) ?_
  simp only[aB,aC,az]
  try refine sq F ?_
  repeat' (first| (refine ah ?_;try refine sq F ?_)| (refine ai ?_;try refine sq F ?_)| (refine aj ?_ ?_<;>try refine sq F ?_))
  all_goals try refine wn F ?_
  refine aL (n0:=h0.length) (.ez _ _ _ _) (Nat.le_refl _) ?_
  intro v1 h1 L1 f1 g1
  obtain⟨r1,r2,r3⟩:=(f0.trans (f1.less (by omega))).r3
  have F:=F4 F r1 r2 r3
  try refine sq F ?_
  refine⟨?_,?_⟩
  ·(refine vq F ?_;try refine sq F ?_)<;>trivial
  repeat' (first| (refine ah ?_;try refine sq F ?_)| (refine ai ?_;try refine sq F ?_)| (refine aj ?_ ?_<;>try refine sq F ?_))
  all_goals try refine wn F ?_
  refine aL L1 (by omega) ?_
  intro v2 h2 L2 f2 g2
  obtain⟨r1,r2,r3⟩:=(f0.trans ((f1.trans f2).less (by omega))).r3
  have E0:=(L0.old (f1.trans f2)).elems
  have F:=F4 F r1 r2 r3
  try refine sq F ?_
  repeat' (first| (refine ah ?_;try refine sq F ?_)| (refine ai ?_;try refine sq F ?_)| (refine aj ?_ ?_<;>try refine sq F ?_))
  all_goals try refine wn F ?_
  refine aL L2 (by omega) ?_ (hy:=E0)
  intro v3 h3 L3 f3 g3
  obtain⟨r1,r2,r3⟩:=(f0.trans (((f1.trans f2).trans f3).less (by omega))).r3
  have lc:=L3.cel
  have ll:=L3.lie
  have hz:h.length+2<h3.length:=by omega
  have hn1:h.length<h3.length:=by omega
  have F:=F7 F r1 r2 r3 lc ll @ax
  try refine sq F ?_
  repeat' (first| (refine ah ?_;try refine sq F ?_)| (refine ai ?_;try refine sq F ?_)| (refine aj ?_ ?_<;>try refine sq F ?_))
  all_goals try refine wn F ?_
  skip
  refine kq F (cf G x.t4 e.a _) ?_
  refine ye hQ F ?_
  refine cw (FrN.trans (FrN.app _ (Nat.le_refl _) (FrN.refl _ _)) ((f0.trans (((f1.trans f2).trans f3).less (by omega))).less (by omega))) (by omega) (by omega) ?_ ⟨by rw[hins],rfl⟩
  refine bo (x:= {x with se:=x.se.take k++(⟨e.a,e.s,e.t⟩:Se)::x.se.drop k,t4:=topI x.t4 e.a}) (ap (Fo.clo _) _) (ap (Fe.clo _) _) (ap (It.clo _) _) ?_
  refine L3.fin2 (es:=(x.se.take k++(⟨e.a,e.s,e.t⟩:Se)::x.se.drop k).map Se.av) (by omega) (by omega) (by omega) ?_
  rw[List.map_append,List.map_cons,show(x.se.take k).map Se.av++Se.av ⟨e.a,e.s,e.t⟩::(x.se.drop k).map Se.av=(x.se.take k).map Se.av++[Se.av ⟨e.a,e.s,e.t⟩]++(x.se.drop k).map Se.av by simp, ← List.map_take, ← List.map_drop,List.nil_append]
  refine((FrzRs.map Se.clo Se.sto _).app (.cons ?_ .nil)).app (FrzRs.map Se.clo Se.sto _)
  exact FrzR.clo (Se.clo _ ⟨e.a,e.s,e.t⟩) (Se.sto ⟨e.a,e.s,e.t⟩)
end Go.Av
namespace Go.Av
open Go Go.Proofs Go.RowKit
theorem uw{l:List Int}(h:l.Nodup):(sortI l).Pairwise (· < ·):=by
 have h1:(sortI l).Pairwise fun a b=>decide (a≤b)=true:=List.pairwise_mergeSort (fun a b c h1 h2=>by simp at *;omega) (fun a b=>by simp;omega) l
 have h2:(sortI l).Nodup:=nR h
 refine List.Pairwise.imp₂ (R:=fun a b=>decide (a≤b)=true) (S:=fun a b=>a≠b) (fun a b hab hne=>?_) h1 h2
 simp at hab;omega
section
variable {α:Type} {z:α} {key:α→Int} {l:ML Int α} {c:Nat}
theorem di(w:WFM l c)(hid:∀k a,lkM l k=some a→key a=k):((valsM z l).map key).Pairwise (· < ·):=by
 rw[u5 w key hid];exact uw w.keys
theorem rY{L:List α}(h:(L.map key).Pairwise (· < ·)):L.Nodup:=by
 rw[List.pairwise_map]at h
 exact h.imp fun hab he=>by rw[he]at hab;omega
theorem fa(w:WFM l c)(hid:∀k a,lkM l k=some a→key a=k){L:List α}(hs:(L.map key).Pairwise (· < ·))(hm:∀a,a∈L↔∃k,lkM l k=some a):valsM z l=L:=by
 have h0:=di (z:=z) w hid
 have hp:(valsM z l).Perm L:=(List.perm_ext_iff_of_nodup (rY h0) (rY hs)).2 fun a=>by
  rw[hm];exact⟨aK,fun⟨k,hk⟩=>bw hk⟩
 rw[List.pairwise_map]at h0 hs
 exact List.Perm.eq_of_pairwise (fun a b _ _ h1 h2=>by omega) h0 hs hp
theorem rZ(k:Int)(a:α)(b:α):(∃j,lkM (upM l c k a) j=some b)↔b=a∨∃j,j≠k∧lkM l j=some b:=by
 constructor
 ·rintro⟨j,hj⟩
  rcases aQ hj with⟨_,rfl⟩| ⟨h1,h2⟩
  ·exact .inl rfl
  ·exact .inr ⟨j,h1,h2⟩
 ·rintro(rfl| ⟨j,h1,h2⟩)
  ·exact⟨k,by rw[bd,if_pos rfl]⟩
  ·exact⟨j,by rw[bd,if_neg h1];exact h2⟩
theorem s7(L:List α)(id:Int):∀b∈L.take (insI key L id),key b<id:=by
 induction L with
 |nil=>intro b hb;simp at hb
 |cons a L ih=>
  unfold insI at ih ⊢
  rw[List.takeWhile_cons]
  split
  ·rename_i h
   intro b hb
   simp only[List.length_cons,List.take_succ_cons,List.mem_cons]at hb
   rcases hb with rfl|hb
   ·simpa using h
   ·exact ih b hb
  ·intro b hb;simp at hb
theorem s8{L:List α}(hs:(L.map key).Pairwise (· < ·))(id:Int):∀b∈L.drop (insI key L id),id≤key b:=by
 induction L with
 |nil=>intro b hb;simp at hb
 |cons a L ih=>
  rw[List.map_cons,List.pairwise_cons]at hs
  have ih:=ih hs.2
  unfold insI at ih ⊢
  rw[List.takeWhile_cons]
  split
  ·intro b hb
   simp only[List.length_cons,List.drop_succ_cons]at hb
   exact ih b hb
  ·rename_i h
   intro b hb
   simp only[List.length_nil,List.drop_zero,List.mem_cons]at hb
   simp at h
   rcases hb with rfl|hb
   ·exact h
   ·have:=hs.1 (key b) (List.mem_map.2 ⟨b,hb,rfl⟩);omega
theorem gj(w:WFM l c)(hid:∀k a,lkM l k=some a→key a=k){k:Int}{a:α}(hk:lkM l k=none)(ha:key a=k):
  valsM z (upM l c k a)=(valsM z l).take (insI key (valsM z l) k)++a::(valsM z l).drop (insI key (valsM z l) k):=by
 have h0:=di (z:=z) w hid
 have hne:∀b∈valsM z l,key b≠k:=fun b hb=>by
  obtain⟨j,hj⟩:=aK hb
  rw[hid j b hj]
  rintro rfl;rw[hk]at hj;cases hj
 refine fa (key:=key) (c:=ckM l c k) (w.up _ _) (fun j b hj=>?_) ?_ fun b=>?_
 ·rcases aQ hj with⟨rfl,rfl⟩| ⟨_,h⟩
  ·exact ha
  ·exact hid _ _ h
 ·rw[List.map_append,List.map_cons,List.pairwise_append,List.pairwise_cons]
  have h1:((valsM z l).take (insI key (valsM z l) k)++(valsM z l).drop (insI key (valsM z l) k))=valsM z l:=List.take_append_drop _ _
  have h2:=h0
  rw[← h1,List.map_append,List.pairwise_append]at h2
  have hlt:∀b∈ (valsM z l).drop (insI key (valsM z l) k),k<key b:=fun b hb=>by
   have:=s8 h0 k b hb
   have:=hne b (List.mem_of_mem_drop hb)
   omega
  refine⟨h2.1,⟨fun q hq=>?_,h2.2.1⟩,fun q hq r hr=>?_⟩
  ·obtain⟨b,hb,rfl⟩:=List.mem_map.1 hq
   rw[ha];exact hlt b hb
  ·obtain⟨b,hb,rfl⟩:=List.mem_map.1 hq
   have hb2:=s7 _ _ b hb
   rcases List.mem_cons.1 hr with rfl|hr
   ·rw[ha];exact hb2
   ·obtain⟨d,hd,rfl⟩:=List.mem_map.1 hr
    have:=hlt d hd
    omega
 ·rw[rZ,List.mem_append,List.mem_cons]
  have hm:∀b,b∈valsM z l↔b∈ (valsM z l).take (insI key (valsM z l) k)∨b∈ (valsM z l).drop (insI key (valsM z l) k):=fun b=>by rw[← List.mem_append,List.take_append_drop]
  constructor
  ·intro h
   have:b=a∨b∈valsM z l:=by
    rcases h with h|h|h
    ·exact .inr ((hm b).2 (.inl h))
    ·exact .inl h
    ·exact .inr ((hm b).2 (.inr h))
   refine this.imp id fun h=>?_
   obtain⟨j,hj⟩:=aK h
   exact⟨j,(by rintro rfl;rw[hk]at hj;cases hj),hj⟩
  ·rintro(h| ⟨j,_,hj⟩)
   ·exact .inr (.inl h)
   ·rcases(hm b).1 (bw hj)with h|h
    ·exact .inl h
    ·exact .inr (.inr h)
theorem oJ{L:List α}(hs:(L.map key).Pairwise (· < ·)){i:Nat}{b:α}(hi:L[i]? =some b)(x:α):x∈L.take i++L.drop (i+1)↔x∈L∧key x≠key b:=by
 induction L generalizing i with
 |nil=>simp at hi
 |cons a L ih=>
  rw[List.map_cons,List.pairwise_cons]at hs
  cases i with
  |zero=>
   simp at hi;subst hi
   simp only[List.take_zero,List.nil_append,Nat.zero_add,List.drop_succ_cons,List.drop_zero,List.mem_cons]
   constructor
   ·intro h;exact⟨.inr h,by have:=hs.1 (key x) (List.mem_map.2 ⟨x,h,rfl⟩);omega⟩
   ·rintro⟨h|h,hne⟩
    ·exact(hne (by rw[h])).elim
    ·exact h
  |succ i=>
   have hi':L[i]? =some b:=by simpa using hi
   have hb:=List.mem_of_getElem? hi'
   have hab:=hs.1 (key b) (List.mem_map.2 ⟨b,hb,rfl⟩)
   simp only[List.take_succ_cons,List.cons_append,List.drop_succ_cons,List.mem_cons]
   rw[ih hs.2 hi']
   constructor
   ·rintro(h| ⟨h,hne⟩)
    ·exact⟨.inl h,by rw[h];omega⟩
    ·exact⟨.inr h,hne⟩
   ·rintro⟨h|h,hne⟩
    ·exact .inl h
    ·exact .inr ⟨h,hne⟩
theorem iZ(w:WFM l c)(hid:∀k a,lkM l k=some a→key a=k){k:Int}{i:Nat}{b:α}(hi:(valsM z l)[i]? =some b)(hb:key b=k):
  valsM z (dlM l k)=(valsM z l).take i++(valsM z l).drop (i+1):=by
 have h0:=di (z:=z) w hid
 refine fa (key:=key) (c:=c) (w.dl _) (fun j b hj=>hid _ _ (cQ w.keys hj).2) ?_ fun x=>?_
 ·refine h0.sublist ?_
  refine List.Sublist.map key ?_
  rw[← List.eraseIdx_eq_take_drop_succ]
  exact List.eraseIdx_sublist _ _
 ·rw[oJ h0 hi,hb]
  constructor
  ·rintro⟨h1,h2⟩
   obtain⟨j,hj⟩:=aK h1
   refine⟨j,?_⟩
   rw[dF w.keys,if_neg (by rintro rfl;exact h2 (hid _ _ hj))];exact hj
  ·rintro⟨j,hj⟩
   obtain⟨h1,h2⟩:=cQ w.keys hj
   exact⟨bw h2,by rw[hid _ _ h2];exact h1⟩
theorem s9{L:List α}{i:Nat}{b:α}(hi:L[i]? =some b)(a:α):L.set i a=L.take i++a::L.drop (i+1):=by
 rw[List.set_eq_take_append_cons_drop,if_pos (List.getElem?_eq_some_iff.1 hi).1]
theorem eO(w:WFM l c)(hid:∀k a,lkM l k=some a→key a=k){k:Int}{i:Nat}{a b:α}(hi:(valsM z l)[i]? =some b)(hb:key b=k)(ha:key a=k):
  valsM z (upM l c k a)=(valsM z l).set i a:=by
 have h0:=di (z:=z) w hid
 refine fa (key:=key) (c:=ckM l c k) (w.up _ _) (fun j d hj=>?_) ?_ fun x=>?_
 ·rcases aQ hj with⟨rfl,rfl⟩| ⟨_,h⟩
  ·exact ha
  ·exact hid _ _ h
 ·have:((valsM z l).set i a).map key=(valsM z l).map key:=by
   rw[List.map_set,ha, ← hb]
   apply List.ext_getElem?
   intro q
   rw[List.getElem?_set]
   split
   ·rename_i hq;subst hq
    rw[List.getElem?_map,hi];simp[(List.getElem?_eq_some_iff.1 hi).1]
   ·rfl
  rw[this];exact h0
 ·rw[rZ,s9 hi,List.mem_append,List.mem_cons]
  have hm:=oJ h0 hi x
  rw[List.mem_append,hb]at hm
  constructor
  ·intro h
   have:x=a∨(x∈valsM z l∧key x≠k):=by
    rcases h with h|h|h
    ·exact .inr (hm.1 (.inl h))
    ·exact .inl h
    ·exact .inr (hm.1 (.inr h))
   refine this.imp id fun⟨h1,h2⟩=>?_
   obtain⟨j,hj⟩:=aK h1
   exact⟨j,by rintro rfl;exact h2 (hid _ _ hj),hj⟩
  ·rintro(h| ⟨j,h1,h2⟩)
   ·exact .inr (.inl h)
   ·rcases hm.2 ⟨bw h2,by rw[hid _ _ h2];exact h1⟩with h|h
    ·exact .inl h
    ·exact .inr (.inr h)
theorem ux(w:WFM l c)(hid:∀k a,lkM l k=some a→key a=k)(p:α→Bool):valsM z (l.filter fun e=>p e.2.1)=(valsM z l).filter p:=by
 have h0:=di (z:=z) w hid
 refine fa (key:=key) (c:=c) (w.filter _) (fun j b hj=>hid _ _ (ie w.keys hj)) (h0.sublist (List.filter_sublist.map _)) fun x=>?_
 rw[List.mem_filter]
 constructor
 ·rintro⟨h1,h2⟩
  obtain⟨j,hj⟩:=aK h1
  exact⟨j,mS w.keys hj fun n=>h2⟩
 ·rintro⟨j,hj⟩
  obtain⟨h1,n,h2,h3⟩:=kw w.keys hj
  exact⟨bw h1,h3⟩
end
end Go.Av
namespace Go.Av
open Go Go.Proofs Go.RowKit
def VK(l:List Ky)(s:PS):Prop:=Sk l∧∀k,k∈l↔∃id t,lkM s.it id=some t∧k=t.ky
theorem VK.uniq{l L:List Ky}{s:PS}(h:VK l s)(k:VK L s):l=L:=h.1.uniq k.1 fun x=>by rw[h.2,k.2]
theorem jF{s:PS}(h:s.Inv):(s.tell.it.map (·.id)).Nodup:=
 (di (z:=It.z) h.w3 fun k a hk=>(h.i3 k a hk).1).imp fun hab e=>by omega
theorem VK.new{s:PS}(h:s.Inv):VK (srtK (s.tell.it.map It.ky)) s:=by
 have hd:((s.tell.it.map It.ky).map (·.i)).Nodup:=by
  rw[List.map_map];exact jF h
 refine⟨ml hd,fun k=>?_⟩
 rw[tq hd,List.mem_map]
 constructor
 ·rintro⟨t,ht,rfl⟩
  obtain⟨id,hid⟩:=aK (z:=It.z) ht
  exact⟨id,t,hid,rfl⟩
 ·rintro⟨id,t,ht,rfl⟩
  exact⟨t,bw (z:=It.z) ht,rfl⟩
theorem VK.len{l:List Ky}{s:PS}(h:s.Inv)(k:VK l s):l.length≤1024:=by
 rw[k.uniq (VK.new h)]
 have e:(srtK (s.tell.it.map It.ky)).length=s.tell.it.length:=by unfold srtK;rw[gN];simp
 rw[e]
 have:=aG (z:=It.z) s.it
 have:=h.l3
 show(valsM It.z s.it).length≤1024
 omega
theorem VK.same{l:List Ky}{s s':PS}(k:VK l s)(h:∀id,(lkM s'.it id).map It.ky=(lkM s.it id).map It.ky):VK l s':=by
 refine⟨k.1,fun x=>?_⟩
 rw[k.2]
 have e:∀{a b:PS},(∀id,(lkM a.it id).map It.ky=(lkM b.it id).map It.ky)→(∃id t,lkM a.it id=some t∧x=t.ky)→∃id t,lkM b.it id=some t∧x=t.ky:=by
  rintro a b hab ⟨id,t,ht,rfl⟩
  have:=hab id
  rw[ht]at this
  obtain⟨t',ht',he⟩:=Option.map_eq_some_iff.1 this.symm
  exact⟨id,t',ht',he.symm⟩
 exact⟨e fun id=>(h id).symm,e h⟩
theorem VK.up{l:List Ky}{s s':PS}(k:VK l s){id:Int}{c:Nat}{t:It}(h:s'.it=upM s.it c id t)(hs:(lkM s.it id).isSome=true)(ht:t.ky=((lkM s.it id).getD It.z).ky):VK l s':=by
 refine k.same fun x=>?_
 rw[h,bd]
 split
 ·rename_i e
  subst e
  obtain⟨a,ha⟩:=Option.isSome_iff_exists.1 hs
  rw[ha]at ht ⊢
  simpa using ht
 ·rfl
theorem VK.step{l:List Ky}{s:PS}(h:s.Inv)(k:VK l s)(e:Ev)(hok:s.ok L0 e=true):
  VK (VStepF l e ((lkM (s.aft e).it e.a).getD It.z) (lkM (s.aft e).it e.a).isSome) (s.aft e):=by
 have hit:=xa s e
 have hf:=hok
 unfold PS.ok PS.fits at hf
 rw[Bool.and_eq_true]at hf
 have hf:=hf.2
 unfold VStepF
 by_cases k7:e.kind=7
 ·rw[if_pos k7]
  rw[if_neg (by omega),if_pos k7]at hit
  rw[if_neg (by omega),if_neg (by omega),if_neg (by omega),if_neg (by omega),if_neg (by omega),if_pos k7]at hf
  simp only[Bool.and_eq_true,Bool.not_eq_true']at hf
  have hn:=bR hf.1.1.1
  have hl:lkM (s.aft e).it e.a=some ⟨e.a,e.b,e.n,e.s,e.t,e.u,false,false,[]⟩:=by rw[hit,bd,if_pos rfl]
  rw[hl]
  simp only[Option.getD_some,Option.isSome_some,if_true]
  refine⟨mi k.1 fun x hx=>?_,fun x=>?_⟩
  ·obtain⟨id,t,ht,rfl⟩:=(k.2 x).1 hx
   have h1:=(h.i3 id t ht).1
   show t.id≠e.a
   rw[h1]
   intro e2
   rw[e2,hn]at ht;cases ht
  ·rw[iP,k.2,hit]
   constructor
   ·rintro(rfl| ⟨id,t,ht,rfl⟩)
    ·exact⟨e.a,_,by rw[bd,if_pos rfl],rfl⟩
    ·refine⟨id,t,?_,rfl⟩
     rw[bd,if_neg (fun e2=>by rw[e2,hn]at ht;cases ht)];exact ht
   ·rintro⟨id,t,ht,rfl⟩
    rcases aQ ht with⟨rfl,rfl⟩| ⟨_,ht⟩
    ·exact .inl rfl
    ·exact .inr ⟨id,t,ht,rfl⟩
 rw[if_neg k7]
 by_cases k4:e.kind=4
 ·rw[if_pos k4]
  rw[if_pos k4]at hit
  rw[if_neg (by omega),if_neg (by omega),if_neg (by omega),if_pos (.inl k4)]at hf
  obtain⟨f,hfe⟩:=Option.isSome_iff_exists.1 hf
  have hid:((lkM s.fe e.a).getD Fe.z).id=e.a:=by rw[hfe];exact(h.i2 _ _ hfe).1
  rw[hid]at hit
  refine⟨k.1.fil _,fun x=>?_⟩
  rw[List.mem_filter,k.2,hit]
  unfold itF
  constructor
  ·rintro⟨⟨id,t,ht,rfl⟩,hx⟩
   refine⟨id,t,?_,rfl⟩
   rw[l6 h.w3.keys (fun t=> !decide (t.feed=e.a)),ht]
   exact Option.filter_some.trans (by rw[if_pos];exact hx)
  ·rintro⟨id,t,ht,rfl⟩
   rw[l6 h.w3.keys (fun t=> !decide (t.feed=e.a))]at ht
   obtain⟨h1,h2⟩:=Option.filter_eq_some_iff.1 ht
   exact⟨⟨id,t,h1,rfl⟩,h2⟩
 rw[if_neg k4]
 rw[if_neg k4,if_neg k7]at hit
 by_cases k8:e.kind=8
 ·rw[if_pos k8]at hit
  rw[if_neg (by omega),if_neg (by omega),if_neg (by omega),if_neg (by omega),if_neg (by omega),if_neg (by omega),if_pos (.inl k8)]at hf
  exact k.up hit hf rfl
 rw[if_neg k8]at hit
 by_cases k9:e.kind=9
 ·rw[if_pos k9]at hit
  rw[if_neg (by omega),if_neg (by omega),if_neg (by omega),if_neg (by omega),if_neg (by omega),if_neg (by omega),if_pos (.inr k9)]at hf
  exact k.up hit hf rfl
 rw[if_neg k9]at hit
 by_cases k10:e.kind=10
 ·rw[if_pos k10]at hit
  rw[if_neg (by omega),if_neg (by omega),if_neg (by omega),if_neg (by omega),if_neg (by omega),if_neg (by omega),if_neg (by omega),if_pos k10,Bool.and_eq_true]at hf
  exact k.up hit hf.1 rfl
 rw[if_neg k10]at hit
 exact k.same fun id=>by rw[hit]
end Go.Av
namespace Go.Av
open Go Go.Proofs Go.RowKit
attribute [local irreducible] WP WPl WPix Sat
def ptI(l:List It)(t:It):List It:=l.take (pst (l.map It.ky) t.ky)++t::l.drop (pst (l.map It.ky) t.ky)
theorem sa(l:List It)(t:It):(ptI l t).map It.ky=insK (l.map It.ky) t.ky:=by
 unfold ptI insK;simp[List.map_take,List.map_drop]
theorem uy(l:List It)(acc:List It):(l.foldl ptI acc).map It.ky=(l.map It.ky).foldl insK (acc.map It.ky):=by
 induction l generalizing acc with
 |nil=>rfl
 |cons x l ih=>rw[List.foldl_cons,ih,sa];rfl
theorem ii(l:List It)(t:It):(ptI l t).length=l.length+1:=by
 have:=congrArg List.length (sa l t)
 rw[iQ]at this;simpa using this
theorem vR{l:List It}{t x:It}(h:x∈ptI l t):x=t∨x∈l:=by
 unfold ptI at h
 rw[List.mem_append,List.mem_cons]at h
 rcases h with h|h|h
 ·exact .inr (List.mem_of_mem_take h)
 ·exact .inl h
 ·exact .inr (List.mem_of_mem_drop h)
theorem sf{l acc:List It}{x:It}(h:x∈l.foldl ptI acc):x∈acc∨x∈l:=by
 induction l generalizing acc with
 |nil=>exact .inl h
 |cons y l ih=>
  rcases ih h with h|h
  ·rcases vR h with rfl|h
   ·exact .inr (by simp)
   ·exact .inl h
  ·exact .inr (by simp[h])
theorem mU{l:List Ky}{k:Ky}:∀{a:Nat},a≤l.length→(∀b∈l.take a,ahd b k=true)→(∀b,l[a]? =some b→ahd b k=false)→pos27 l k=a:=by
 induction l with
 |nil=>intro a ha _ _;simp at ha;subst ha;rfl
 |cons x l ih=>
  intro a ha h1 h2
  cases a with
  |zero=>unfold pos27;rw[h2 x rfl];rfl
  |succ a=>
   unfold pos27
   rw[h1 x (by simp),ih (by simpa using ha) (fun b hb=>h1 b (by simp[hb])) (fun b hb=>h2 b (by simpa using hb))];rfl
variable (G:Nat→Option (List AVal))
theorem qk(a b:It)(h:Heap):Sat (CT G) 74 [a.av,b.av] h (fun r h'=>r=.bool (ahd a.ky b.ky)∧h'=h):=by
 have e:ahd a.ky b.ky=(decide (b.date<a.date)||(decide (a.date=b.date)&&decide (a.id<b.id))):=rfl
 rw[e]
 by_cases c1:b.date<a.date
 ·have d1:decide (a.date>b.date)=true:=by simp;omega
  have F:=d1
  refine sb [.tmp 4] (fn:=Tryz.f74) Tryz.func74 ?_
  intro Q hQ
  refine wk F ?_
  refine ee hQ F ?_
  exact Fin.plain (.bool _) ⟨rfl,rfl⟩
 ·have d1:decide (a.date>b.date)=false:=by simp;omega
  by_cases c2:a.date=b.date
  ·have d2:(a.date==b.date)=true:=by simp[c2]
   have F:=F2 d1 d2
   refine sb [.tmp 4] (fn:=Tryz.f74) Tryz.func74 ?_
   intro Q hQ
   refine wk F ?_
   refine ee hQ F ?_
   exact Fin.plain (.bool _) ⟨by simp[c2],rfl⟩
  ·have d2:(a.date==b.date)=false:=by simp[c2]
   have F:=F2 d1 d2
   refine sb [.tmp 4] (fn:=Tryz.f74) Tryz.func74 ?_
   intro Q hQ
   refine wk F ?_
   refine ee hQ F ?_
   exact Fin.plain (.bool _) ⟨by simp[c2],rfl⟩
theorem ql(l:List It)(hd:(l.map (·.id)).Nodup)(hl:l.length≤100000)(h:Heap):Sat (CT G) 62 [.sl 9 (l.map It.av)] h (fun r h'=>r=.sl 1 (((srtK (l.map It.ky)).map (·.i)).map iA)∧h'=h):=by
 have hel:(l.map It.av).length=l.length:=List.length_map ..
 have F:=hel
 refine sb [.tmp 2] (fn:=Tryz.f62) Tryz.func62 ?_
 intro Q hQ
 refine wk F ?_
 refine lm (fun nL tL hL=>∃(i p v:Nat) (hh:Heap) (acc:List It),l.length-i=nL∧hh=hL∧tL 3=.hs p v 0 acc.length true∧tL 4=.int .i64 i∧i≤l.length∧acc=(l.take i).foldl ptI []∧acc.length=i∧getRow hh p v=some (82,9,acc.map It.av)∧(FrN h.length h hh∧h.length≤p)) ((fun(i p v:Nat) (hh:Heap) (acc:List It)=>(l.length-i:Nat)) (0) (h.length) (0) (h++[.row 82 9 0 []]) ([])) ?_ ?_
 ·refine⟨_,_,Weak.virt 3 82 9 (by simp) (by omega) (by exact zq F),⟨0,h.length,0,h++[.row 82 9 0 []],[],rfl,ay,?_,?_,by omega,by simp,by simp,by rw[aE _ rfl];rfl,⟨FrN.app _ (by omega) (FrN.refl _ _),by omega⟩⟩⟩
  all_goals first|exact zq F|rfl|omega|trivial|skip
 rintro _ s2 h' ⟨i,p,v,hh,acc,rfl,rfl,e3,e4,hi,hac,hal,hg,hfr⟩ K2 hK2
 simp only[ak,ao,Nat.reduceEqDiff, ↓reduceIte]at e3 e4
 have F:=F3 F e3 e4
 have hgl:=b9 hg
 have hacl:(acc.map It.av).length=acc.length:=List.length_map ..
 have F:=F3 F hg @hacl
 try refine sq F ?_
 refine wk F ?_
 refine cq F (fun c1=>?_) (fun c1=>?_)<;>(try exact c1.elim)<;>(refine wk F ?_)
 ·have c2:i<l.length:=by omega
  obtain⟨y,hy,hym⟩:=ac c2
  have F:=F3 F c2 hy
  try refine sq F ?_
  refine wk F ?_
  refine lm (fun nL tL hL=>∃(a:Nat),acc.length-a=nL∧[]++hh=hL∧tL 5=.int .i64 a∧a≤acc.length∧(∀b∈acc.take a,ahd b.ky y.ky=true)) ((fun(a:Nat)=>(acc.length-a:Nat)) (0)) ?_ ?_
  ·refine Wkn.refl ⟨0,rfl,rfl,?_,by omega,by simp⟩
   all_goals first|exact zq F|rfl|omega|trivial|skip
  rintro _ s4 h' ⟨a,rfl,rfl,e5,ha,hlt⟩ K4 hK4
  simp only[ak,ao,Nat.reduceEqDiff, ↓reduceIte]at e5
  have F:=F2 F e5
  rw[List.nil_append]
  have hdis:∀t∈acc,t.ky.i≠y.ky.i:=fun t ht=>by
   rw[hac]at ht
   rcases sf ht with ht|ht
   ·simp at ht
   ·obtain⟨q,hq⟩:=List.getElem?_of_mem ht
    have hql:=(List.getElem?_eq_some_iff.1 hq).1
    rw[List.length_take]at hql
    rw[List.getElem?_take_of_lt (by omega)]at hq
    intro e
    have:=(List.getElem?_inj (i:=q) (j:=i) (l:=l.map (·.id)) (by rw[List.length_map];omega) hd).1 (by rw[List.getElem?_map,List.getElem?_map,hq,hy];exact congrArg some e)
    omega
  by_cases c5:a<acc.length
  ·obtain⟨b,hb,_⟩:=ac c5
   have dt:∀i:Decidable True, @decide True i=true:=fun i=>decide_eq_true trivial
   have F:=F4 F hb c5 dt
   try refine sq F ?_
   refine wk F ?_
   refine aA (qk G b y _) ?_
   try refine sq F ?_
   refine wk F ?_
   cases hbl:ahd b.ky y.ky with
   |true=>
    have hlt1:∀b∈acc.take (a+1),ahd b.ky y.ky=true:=by
     rw[List.take_add_one,hb]
     intro z hz
     simp at hz
     rcases hz with hz|rfl
     ·exact hlt z hz
     ·exact hbl
    have F:=F2 F hbl
    try refine sq F ?_
    refine wk F ?_
    refine hK4 _ _ _ (Wkn.refl ⟨a+1,rfl,rfl,?_,by omega,hlt1⟩) (by omega)
    all_goals first|exact zq F|rfl|omega|trivial|skip
   |false=>
    have hat:∀b,acc[a]? =some b→ahd b.ky y.ky=false:=fun b' hb'=>by rw[hb]at hb';cases hb';exact hbl
    have hsl:∃z,aslice Tryz.prog hh 31 (.hs p v 0 acc.length true) (some (.int .i64 (a:Int))) none none=some z∧elemsOf hh 9 z=some ((acc.map It.av).drop a):=
     ⟨_,pd (P:=Tryz.prog) (T:=31) (k:=.i64) (len:=acc.length) (i:=a) (by simp only[go_sem];try rfl) hg (by simp only[go_sem];try rfl) c5,nU (b:=true) (i:=a) hg hacl (by omega)⟩
    have F:=F2 F hbl
    try refine sq F ?_
    refine wk F ?_
    have hpp:pst (acc.map It.ky) y.ky=a:=(mj fun x hx=>by obtain⟨t,ht,rfl⟩:=List.mem_map.1 hx;exact hdis t ht).symm.trans (mU (by rw[List.length_map];omega) (fun b hb=>by rw[← List.map_take]at hb;obtain⟨t,ht,rfl⟩:=List.mem_map.1 hb;exact hlt t ht)
     (fun b hb=>by rw[List.getElem?_map]at hb;obtain⟨t,ht,rfl⟩:=Option.map_eq_some_iff.1 hb;exact hat t ht))
    have hpt:ptI acc y=acc.take a++y::acc.drop a:=by unfold ptI;rw[hpp]
    have hac2:ptI acc y=(l.take (i+1)).foldl ptI []:=by rw[List.take_add_one,hy,List.foldl_append, ← hac];rfl
    obtain⟨z,hz1,hz2⟩:=hsl
    have F:=F2 (F9 hel e3 e4 hg @hacl c2 hy e5 hb) (F4 c5 dt hbl hz1)
    try refine sq F ?_
    refine wk F ?_
    refine aL (n0:=hh.length) (.ez _ _ _ _) (Nat.le_refl _) ?_ (hy:=hz2)
    intro v1 h1 L1 f1 g1
    have hg3:getRow h1 p v=some (82,9,acc.map It.av):=(f1.row hgl).trans hg
    have hgl1:=b9 hg3
    have lc:=L1.cel
    have ll:=L1.lie
    have hsl2:=jl (P:=Tryz.prog) (T:=31) (off:=0) (len:=acc.length) (room:=true) (k:=.i64) (k':=.i64) (r:=a) (by simp only[go_sem];try rfl) hg3 (by simp only[go_sem];try rfl) (by omega)
    have F:=F5 F hg3 hsl2 lc ll
    skip
    try refine sq F ?_
    refine wn F ?_
    refine aw 11 [9] [true,true,true,true,true,true,true,true,true,false,true] (.one 9 [] .fin) (by decide+kernel) (by kernel_rfl) (by decide+kernel) ?_
    simp only[aB,aC,az]
    try refine sq F ?_
    repeat' (first| (refine ah ?_;try refine sq F ?_)| (refine ai ?_;try refine sq F ?_)| (refine aj ?_ ?_<;>try refine sq F ?_))
    all_goals try refine wn F ?_
    refine mc (.inl rfl) (by simp(disch:=first|omega| (simp only[go_sem, ↓reduceIte,seval];first|done|omega)|fail) only[go_sem, ↓reduceIte,seval,F];try rfl) (by simp(disch:=first|omega| (simp only[go_sem, ↓reduceIte,seval];first|done|omega)|fail) only[go_sem, ↓reduceIte,seval,F];try rfl) (by simp(disch:=first|omega| (simp only[go_sem, ↓reduceIte,seval];first|done|omega)|fail) only[go_sem, ↓reduceIte,seval,F];try rfl) (by simp(disch:=first|omega| (simp only[go_sem, ↓reduceIte,seval];first|done|omega)|fail) only[go_sem, ↓reduceIte,seval,F];try rfl) (by omega) (by simp only[elemsOf, ↓reduceIte];rfl) hg3 (by simp;try omega) (by simp) ⟨by simp[maxLen];try omega,by simp;try omega⟩ ?_
    try refine sq F ?_
    repeat' (first| (refine ah ?_;try refine sq F ?_)| (refine ai ?_;try refine sq F ?_)| (refine aj ?_ ?_<;>try refine sq F ?_))
    all_goals try refine wn F ?_
    have hg5:getRow (h1++[.row 82 9 0 ((acc.map It.av).take a++[y.av])]) h1.length 0=some (82,9,(acc.map It.av).take a++[y.av]):=by rw[aE _ rfl];rfl
    have hyE:=(L1.old (H':=h1++[Blk.row 82 9 0 ((acc.map It.av).take a++[y.av])]) (FrN.app _ (Nat.le_refl _) (FrN.refl _ _))).elems
    refine br (.inl rfl) (by simp(disch:=first|omega| (simp only[go_sem, ↓reduceIte,seval];first|done|omega)|fail) only[go_sem, ↓reduceIte,seval,F];try rfl) (by simp(disch:=first|omega| (simp only[go_sem, ↓reduceIte,seval];first|done|omega)|fail) only[go_sem, ↓reduceIte,seval,F];try rfl) (by simp(disch:=first|omega| (simp only[go_sem, ↓reduceIte,seval];first|done|omega)|fail) only[go_sem, ↓reduceIte,seval,F];try rfl) (by simp(disch:=first|omega| (simp only[go_sem, ↓reduceIte,seval];first|done|omega)|fail) only[go_sem, ↓reduceIte,seval,F];try rfl) (by omega) hyE hg5 (by simp;try omega) ⟨by simp[maxLen];try omega,by simp;try omega⟩ ?_
    have hrw:(acc.map It.av).take a++[y.av]++(acc.map It.av).drop a=(ptI acc y).map It.av:=by rw[hpt];simp
    have hL:(ptI acc y).length=a+1+(acc.length-a):=by rw[ii];omega
    have hdl:((acc.map It.av).drop a).length=acc.length-a:=by simp
    have hg6:getRow (h1++[.row 82 9 1 ((ptI acc y).map It.av)]) h1.length 1=some (82,9,(ptI acc y).map It.av):=by rw[aE _ rfl];rfl
    have F:=F3 F hL hdl
    try refine sq F ?_
    refine wn F ?_
    refine hK2 _ _ _ (Wkn.refl ⟨i+1,h1.length,1,h1++[Blk.row 82 9 1 ((ptI acc y).map It.av)],ptI acc y,rfl,by rw[← hrw];simp[It.av],?_,?_,by omega,hac2,by rw[ii];omega,hg6,⟨FrN.app _ (by omega) (FrN.trans hfr.1 (f1.less (by omega))),by omega⟩⟩) (by omega)
    all_goals first|exact zq F|rfl|omega|trivial|skip
  ·have d5:decide (a<acc.length)=false:=by simp;omega
   have hae:a=acc.length:=by omega
   have hat:∀b,acc[a]? =some b→ahd b.ky y.ky=false:=fun b' hb'=>by rw[List.getElem?_eq_none (by omega)]at hb';cases hb'
   have hsl:∃z,aslice Tryz.prog hh 31 (.hs p v 0 acc.length true) (some (.int .i64 (a:Int))) none none=some z∧elemsOf hh 9 z=some ((acc.map It.av).drop a):=by
    rw[List.drop_of_length_le (by omega)]
    by_cases ha0:a=0
    ·have hl0:acc.length=0:=by omega
     subst ha0
     rw[hl0]
     exact⟨_,qd (by simp only[go_sem];try rfl) hg (by simp only[go_sem];try rfl),by rw[iE hg (by rw[hacl,hl0])];rw[List.length_eq_zero_iff.1 hl0];rfl⟩
    ·exact⟨_,fX (by simp only[go_sem];try rfl) hg (by simp only[go_sem];try rfl) hae (by omega),rfl⟩
   skip
   have F:=F2 F d5
   try refine sq F ?_
   refine wk F ?_
   have hpp:pst (acc.map It.ky) y.ky=a:=(mj fun x hx=>by obtain⟨t,ht,rfl⟩:=List.mem_map.1 hx;exact hdis t ht).symm.trans (mU (by rw[List.length_map];omega) (fun b hb=>by rw[← List.map_take]at hb;obtain⟨t,ht,rfl⟩:=List.mem_map.1 hb;exact hlt t ht)
    (fun b hb=>by rw[List.getElem?_map]at hb;obtain⟨t,ht,rfl⟩:=Option.map_eq_some_iff.1 hb;exact hat t ht))
   have hpt:ptI acc y=acc.take a++y::acc.drop a:=by unfold ptI;rw[hpp]
   have hac2:ptI acc y=(l.take (i+1)).foldl ptI []:=by rw[List.take_add_one,hy,List.foldl_append, ← hac];rfl
   obtain⟨z,hz1,hz2⟩:=hsl
   have F:=F2 F hz1
   try refine sq F ?_
   refine wk F ?_
   refine aL (n0:=hh.length) (.ez _ _ _ _) (Nat.le_refl _) ?_ (hy:=hz2)
   intro v1 h1 L1 f1 g1
   have hg3:getRow h1 p v=some (82,9,acc.map It.av):=(f1.row hgl).trans hg
   have hgl1:=b9 hg3
   have lc:=L1.cel
   have ll:=L1.lie
   have hsl2:=jl (P:=Tryz.prog) (T:=31) (off:=0) (len:=acc.length) (room:=true) (k:=.i64) (k':=.i64) (r:=a) (by simp only[go_sem];try rfl) hg3 (by simp only[go_sem];try rfl) (by omega)
   have F:=F5 F hg3 hsl2 lc ll
   skip
   try refine sq F ?_
   refine wn F ?_
   refine aw 11 [9] [true,true,true,true,true,true,true,true,true,false,true] (.one 9 [] .fin) (by decide+kernel) (by kernel_rfl) (by decide+kernel) ?_
   simp only[aB,aC,az]
   try refine sq F ?_
   repeat' (first| (refine ah ?_;try refine sq F ?_)| (refine ai ?_;try refine sq F ?_)| (refine aj ?_ ?_<;>try refine sq F ?_))
   all_goals try refine wn F ?_
   refine mc (.inl rfl) (by simp(disch:=first|omega| (simp only[go_sem, ↓reduceIte,seval];first|done|omega)|fail) only[go_sem, ↓reduceIte,seval,F];try rfl) (by simp(disch:=first|omega| (simp only[go_sem, ↓reduceIte,seval];first|done|omega)|fail) only[go_sem, ↓reduceIte,seval,F];try rfl) (by simp(disch:=first|omega| (simp only[go_sem, ↓reduceIte,seval];first|done|omega)|fail) only[go_sem, ↓reduceIte,seval,F];try rfl) (by simp(disch:=first|omega| (simp only[go_sem, ↓reduceIte,seval];first|done|omega)|fail) only[go_sem, ↓reduceIte,seval,F];try rfl) (by omega) (by simp only[elemsOf, ↓reduceIte];rfl) hg3 (by simp;try omega) (by simp) ⟨by simp[maxLen];try omega,by simp;try omega⟩ ?_
   try refine sq F ?_
   repeat' (first| (refine ah ?_;try refine sq F ?_)| (refine ai ?_;try refine sq F ?_)| (refine aj ?_ ?_<;>try refine sq F ?_))
   all_goals try refine wn F ?_
   have hg5:getRow (h1++[.row 82 9 0 ((acc.map It.av).take a++[y.av])]) h1.length 0=some (82,9,(acc.map It.av).take a++[y.av]):=by rw[aE _ rfl];rfl
   have hyE:=(L1.old (H':=h1++[Blk.row 82 9 0 ((acc.map It.av).take a++[y.av])]) (FrN.app _ (Nat.le_refl _) (FrN.refl _ _))).elems
   refine br (.inl rfl) (by simp(disch:=first|omega| (simp only[go_sem, ↓reduceIte,seval];first|done|omega)|fail) only[go_sem, ↓reduceIte,seval,F];try rfl) (by simp(disch:=first|omega| (simp only[go_sem, ↓reduceIte,seval];first|done|omega)|fail) only[go_sem, ↓reduceIte,seval,F];try rfl) (by simp(disch:=first|omega| (simp only[go_sem, ↓reduceIte,seval];first|done|omega)|fail) only[go_sem, ↓reduceIte,seval,F];try rfl) (by simp(disch:=first|omega| (simp only[go_sem, ↓reduceIte,seval];first|done|omega)|fail) only[go_sem, ↓reduceIte,seval,F];try rfl) (by omega) hyE hg5 (by simp;try omega) ⟨by simp[maxLen];try omega,by simp;try omega⟩ ?_
   have hrw:(acc.map It.av).take a++[y.av]++(acc.map It.av).drop a=(ptI acc y).map It.av:=by rw[hpt];simp
   have hL:(ptI acc y).length=a+1+(acc.length-a):=by rw[ii];omega
   have hdl:((acc.map It.av).drop a).length=acc.length-a:=by simp
   have hg6:getRow (h1++[.row 82 9 1 ((ptI acc y).map It.av)]) h1.length 1=some (82,9,(ptI acc y).map It.av):=by rw[aE _ rfl];rfl
   have F:=F3 F hL hdl
   try refine sq F ?_
   refine wn F ?_
   refine hK2 _ _ _ (Wkn.refl ⟨i+1,h1.length,1,h1++[Blk.row 82 9 1 ((ptI acc y).map It.av)],ptI acc y,rfl,by rw[← hrw];simp[It.av],?_,?_,by omega,hac2,by rw[ii];omega,hg6,⟨FrN.app _ (by omega) (FrN.trans hfr.1 (f1.less (by omega))),by omega⟩⟩) (by omega)
   all_goals first|exact zq F|rfl|omega|trivial|skip
 ·rw[List.take_of_length_le (by omega)]at hac
  obtain⟨hfr,hfp⟩:=hfr
  obtain⟨j0,rfl⟩:=hfr.behind (by omega)
  have hky:acc.map It.ky=srtK (l.map It.ky):=by rw[hac,uy];rfl
  skip
  refine lm (fun nL tL hL=>∃(k w:Nat) (out:List Int),acc.length-k=nL∧(h++j0)++[.row 3 1 w (out.map iA)]=hL∧tL 7=.hs (h++j0).length w 0 out.length true∧tL 8=.int .i64 k∧k≤acc.length∧out.length=k∧out++(acc.drop k).map (·.id)=acc.map (·.id)) ((fun(k w:Nat) (out:List Int)=>(acc.length-k:Nat)) (0) (0) ([])) ?_ ?_
  ·refine⟨_,_,Weak.virt 7 3 1 (by simp) (by omega) (by exact zq F),⟨0,0,[],rfl,ay,?_,?_,by omega,rfl,by simp⟩⟩
   all_goals first|exact zq F|rfl|omega|trivial|skip
  rintro _ s5 h' ⟨k,w,out,rfl,rfl,e7,e8,hk,hol,hop⟩ K5 hK5
  simp only[ak,ao,Nat.reduceEqDiff, ↓reduceIte]at e7 e8
  have F:=F3 F e7 e8
  have hg9:getRow ((h++j0)++[Blk.row 3 1 w (out.map iA)]) p v=some (82,9,acc.map It.av):=by rw[aN _ hgl];exact hg
  rw[List.append_assoc]at hg9
  have F:=F2 F hg9
  try refine sq F ?_
  refine wk F ?_
  refine cq F (fun c7=>?_) (fun c7=>?_)<;>(try exact c7.elim)<;>(refine wk F ?_)
  ·have c8:k<acc.length:=by omega
   obtain⟨y,hy,_⟩:=ac c8
   rw[aD hy,List.map_cons]at hop
   have F:=F4 F hy c8 @ax
   try refine sq F ?_
   refine wk F ?_
   refine aq F ?_
   try refine sq F ?_
   refine wk F ?_
   refine hK5 _ _ _ (Wkn.refl ⟨k+1,w+1,out++[y.id],rfl,by simp[iA],?_,?_,by omega,by simp;omega,by rw[← hop];simp⟩) (by omega)
   all_goals first|exact zq F|rfl|omega|trivial|skip
  ·rw[aI (by omega),List.map_nil,List.append_nil]at hop
   have hres:(srtK (l.map It.ky)).map (·.i)=out:=by rw[hop, ← hky,List.map_map];rfl
   have hgo:getRow ((h++j0)++[Blk.row 3 1 w (out.map iA)]) (h++j0).length w=some (3,1,out.map iA):=by rw[aE _ rfl];simp[getRow]
   rw[List.append_assoc,List.length_append]at hgo
   refine ee hQ F ?_
   rw[hres]
   refine Fin.frz (Frz.data (by simp) hgo (by simp) (fun r hr=>?_) (fun r hr=>?_)) ⟨rfl,rfl⟩
   ·obtain⟨a,_,rfl⟩:=List.mem_map.1 hr;exact .int _ _
   ·obtain⟨a,_,rfl⟩:=List.mem_map.1 hr;intro c hc;simp[AVal.cells,iA]at hc;subst hc;rfl
end Go.Av
namespace Go.Av
open Go Go.Proofs Go.RowKit
attribute [local irreducible] WP WPl WPix Sat
def rkI(l:List Int)(id:Int):Int:=match l.findIdx? (fun x=>decide (x=id))with
 |some k=>(k:Int)+1
 |none=>0
theorem xn(l:List Ky)(id:Int):ixK (fun k=>decide (k.i=id)) l+1=rkI (l.map (·.i)) id:=by
 unfold ixK rkI
 have e:(l.map (·.i)).findIdx? (fun x=>decide (x=id))=l.findIdx? (fun k=>decide (k.i=id)):=by rw[List.findIdx?_map];rfl
 rw[e]
 cases l.findIdx? (fun k=>decide (k.i=id))<;>rfl
def St.vw(x:St):List Int:=(srtK (x.it.map It.ky)).map (·.i)
theorem St.vw_len(x:St):x.vw.length=x.it.length:=by unfold St.vw srtK;rw[List.length_map,gN];simp
theorem uz(N:Nat)(l:List Int):Clo N (.sl 1 (l.map iA)):=Clo.sl _ _ fun x hx=>by obtain⟨y,_,rfl⟩:=List.mem_map.1 hx;exact .int _ _
variable (G:Nat→Option (List AVal))
theorem ld(x:St)(hd:(x.it.map (·.id)).Nodup)(hl:x.it.length≤100000)(h:Heap):Sat (CT G) 27 [x.av] h (fun r h'=>r=.sl 1 (x.vw.map iA)∧h'=h):=by
 refine sb [.tmp 2] (fn:=Tryz.f27) Tryz.func27 ?_
 intro Q hQ
 refine wk trivial ?_
 refine kq trivial (ql G x.it hd hl _) ?_
 refine ee hQ trivial ?_
 exact Fin.plain (uz _ _) ⟨rfl,rfl⟩
theorem qm(x:St)(hd:(x.it.map (·.id)).Nodup)(hl:x.it.length≤100000)(id:Int)(h:Heap):Sat (CT G) 29 [x.av,.int .i64 id] h (fun r h'=>r=.int .i64 (rkI x.vw id)∧h'=h):=by
 have hA:=ld G x hd hl
 have hvl:=x.vw_len
 generalize x.vw=l at hA hvl ⊢
 have hml:(l.map iA).length=l.length:=List.length_map ..
 have F:=hml
 refine sb [.tmp 4] (fn:=Tryz.f29) Tryz.func29 ?_
 intro Q hQ
 refine wk F ?_
 refine kq F (hA _) ?_
 refine lm (fun nL tL hL=>∃(k:Nat),l.length-k=nL∧h++[.row 34 9 0 [x.av]]=hL∧tL 6=.int .i64 k∧k≤l.length∧(∀a∈l.take k,decide (a=id)=false)) ((fun(k:Nat)=>(l.length-k:Nat)) (0)) ?_ ?_
 ·refine Wkn.refl ⟨0,rfl,ay,?_,by omega,by simp⟩
  all_goals first|exact zq F|rfl|omega|trivial|skip
 rintro _ s2 h' ⟨k,rfl,rfl,e6,hk,hp⟩ K2 hK2
 simp only[ak,ao,Nat.reduceEqDiff, ↓reduceIte]at e6
 have F:=F2 F e6
 refine wk F ?_
 refine cq F (fun c1=>?_) (fun c1=>?_)<;>(try exact c1.elim)<;>(refine wk F ?_)
 ·have c2:k<l.length:=by omega
  obtain⟨y,hy,hym⟩:=ac c2
  have F:=F3 F hy c2
  try refine sq F ?_
  refine wk F ?_
  refine cq F (fun c3=>?_) (fun c3=>?_)<;>(try exact c3.elim)<;>(refine wk F ?_)
  ·have e:rkI l id=(k:Int)+1:=by
    unfold rkI
    have:l.findIdx? (fun x=>decide (x=id))=some k:=by
     rw[List.findIdx?_eq_some_iff_getElem]
     refine⟨c2,?_,?_⟩
     ·rw[List.getElem?_eq_getElem c2]at hy;cases hy;simpa using c3
     ·intro i hi
      rw[hp _ (by rw[List.mem_take_iff_getElem];exact⟨i,by omega,rfl⟩)];simp
    rw[this]
   refine ee hQ F ?_
   exact Fin.plain (.int _ _) ⟨by rw[e];simp,rfl⟩
  ·have hp1:∀a∈l.take (k+1),decide (a=id)=false:=by
    rw[List.take_add_one,hy]
    intro a ha
    simp at ha
    rcases ha with ha|rfl
    ·exact hp a ha
    ·simpa using c3
   refine hK2 _ _ _ (Wkn.refl ⟨k+1,rfl,ay,?_,by omega,hp1⟩) (by omega)
   all_goals first|exact zq F|rfl|omega|trivial|skip
 ·have e:rkI l id=0:=by
   unfold rkI
   have:l.findIdx? (fun x=>decide (x=id))=none:=by
    rw[List.findIdx?_eq_none_iff]
    intro a ha
    exact hp a (by rwa [List.take_of_length_le (by omega)])
   rw[this]
  refine ee hQ F ?_
  exact Fin.plain (.int _ _) ⟨by rw[e],rfl⟩
theorem gY(a b:List Int)(ha:a.length≤1000000)(hb:b.length≤1000000)(h:Heap):Sat (CT G) 25 [.sl 1 (a.map iA),.sl 1 (b.map iA)] h (fun r h'=>r=.bool (decide (a=b))∧h'=h):=by
 have hal:(a.map iA).length=a.length:=List.length_map ..
 have hbl:(b.map iA).length=b.length:=List.length_map ..
 by_cases hlen:a.length=b.length
 ·have hne:((a.length:Int) != (b.length:Int))=false:=by simp[hlen]
  have F:=F3 hal hbl hne
  refine sb [.tmp 4] (fn:=Tryz.f25) Tryz.func25 ?_
  intro Q hQ
  refine wk F ?_
  refine lm (fun nL tL hL=>∃(k:Nat),a.length-k=nL∧h=hL∧tL 5=.int .i64 k∧k≤a.length∧a.take k=b.take k) ((fun(k:Nat)=>(a.length-k:Nat)) (0)) ?_ ?_
  ·refine Wkn.refl ⟨0,rfl,ay,?_,by omega,rfl⟩
   all_goals first|exact zq F|rfl|omega|trivial|skip
  rintro _ s2 h' ⟨k,rfl,rfl,e5,hk,hp⟩ K2 hK2
  simp only[ak,ao,Nat.reduceEqDiff, ↓reduceIte]at e5
  have F:=F2 F e5
  refine wk F ?_
  refine cq F (fun c1=>?_) (fun c1=>?_)<;>(try exact c1.elim)<;>(refine wk F ?_)
  ·have c2:k<a.length:=by omega
   have c3:k<b.length:=by omega
   obtain⟨x,hx,_⟩:=ac c2
   obtain⟨y,hy,_⟩:=ac c3
   have F:=F5 F hx hy c2 c3
   try refine sq F ?_
   refine wk F ?_
   refine cq F (fun c4=>?_) (fun c4=>?_)<;>(try exact c4.elim)<;>(refine wk F ?_)
   ·have e:a≠b:=by rintro rfl;rw[hx]at hy;cases hy;exact c4 rfl
    refine ee hQ (F8 hal hbl hne e5 hx hy c2 c3) ?_
    exact Fin.same (.bool _) ⟨by rw[decide_eq_false e],rfl⟩
   ·have hp1:a.take (k+1)=b.take (k+1):=by rw[List.take_add_one,List.take_add_one,hx,hy,hp,c4]
    refine hK2 _ _ _ (Wkn.refl ⟨k+1,rfl,ay,?_,by omega,hp1⟩) (by omega)
    all_goals first|exact zq F|rfl|omega|trivial|skip
  ·have e:a=b:=by
    have:=hp
    rwa [List.take_of_length_le (by omega),List.take_of_length_le (by omega)]at this
   refine ee hQ F ?_
   exact Fin.same (.bool _) ⟨by rw[decide_eq_true e],rfl⟩
 ·have hne:((a.length:Int) != (b.length:Int))=true:=by simp;omega
  have e:a≠b:=by rintro rfl;exact hlen rfl
  have F:=F3 hal hbl hne
  refine sb [.tmp 4] (fn:=Tryz.f25) Tryz.func25 ?_
  intro Q hQ
  refine wk F ?_
  refine ee hQ F ?_
  exact Fin.same (.bool _) ⟨by rw[decide_eq_false e],rfl⟩
end Go.Av
