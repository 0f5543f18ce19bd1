/- The law's own parts: what is too large, the same lists of counts; a state and counts in one memory. -/
import Derived.Test.YtmfhelaoeaifeaaGreatMiYr
import Derived.Test.YtmfhelaoeaifeaaGreatMiDa
import Derived.Test.YtmfhelaoeaifeaaGreatMiEc
set_option linter.unusedSimpArgs false
set_option linter.unusedVariables false
set_option linter.unusedSectionVars false
set_option linter.unnecessarySimpa false
set_option maxRecDepth 100000
set_option maxHeartbeats 16000000
namespace Go.Av
open Go Go.Proofs Go.RowKit
attribute [local irreducible] WP WPl WPix Sat
def textF(ri:Bs→Bool)(cl:Bs→Bs)(t:Bs)(n:Int):Bool:=decide ((t.length:Int)≤n)&&(ri t&&cl t==t)
variable (G:Nat→Option (List AVal))
theorem de(ri:Bs→Bool)(cl:Bs→Bs)(hR:∀t,t.length≤1000→∀h,Sat (CT G) 190 [.str t] h (fun r h'=>r=.bool (ri t)∧h'=h))(hC:∀t,t.length≤1000→∀h,Sat (CT G) 191 [.str t] h (fun r h'=>r=.str (cl t)∧h'=h))(t:Bs)(n:Int)(hn:n≤1000)(h:Heap):Sat (CT G) 179 [.str t,.int .i64 n] h (fun r h'=>r=.bool (textF ri cl t n)∧h'=h):=by
 cases hl:decide ((t.length:Int)≤n)with
 |false=>
  have F:=hl
  refine sb [.tmp 4] (fn:=Tryz.f179) Tryz.func179 ?_
  intro Q hQ
  refine wk F ?_
  refine ee hQ F ?_
  exact Fin.same (.bool _) ⟨by simp[textF,hl],rfl⟩
 |true=>
  have hlt:t.length≤1000:=by have:=of_decide_eq_true hl;omega
  cases hr:ri t with
  |false=>
   have hR1:=hR t hlt
   rw[hr]at hR1
   have F:=hl
   refine sb [.tmp 4] (fn:=Tryz.f179) Tryz.func179 ?_
   intro Q hQ
   refine wk F ?_
   refine kq F (hR1 _) ?_
   refine ee hQ F ?_
   exact Fin.same (.bool _) ⟨by simp[textF,hl,hr],rfl⟩
  |true=>
   have hR1:=hR t hlt
   rw[hr]at hR1
   have F:=hl
   refine sb [.tmp 4] (fn:=Tryz.f179) Tryz.func179 ?_
   intro Q hQ
   refine wk F ?_
   refine kq F (hR1 _) ?_
   refine kq F (hC t hlt _) ?_
   refine ee hQ F ?_
   exact Fin.same (.bool _) ⟨by simp[textF,hl,hr],rfl⟩
theorem gr(ri:Bs→Bool)(cl:Bs→Bs)(hR:∀t,t.length≤1000→∀h,Sat (CT G) 190 [.str t] h (fun r h'=>r=.bool (ri t)∧h'=h))(hC:∀t,t.length≤1000→∀h,Sat (CT G) 191 [.str t] h (fun r h'=>r=.str (cl t)∧h'=h))(t:Bs)(h:Heap):Sat (CT G) 144 [.str t] h (fun r h'=>r=.bool (!(t==[])&&textF ri cl t 64)∧h'=h):=by
 cases k1:(t==[])with
 |true=>
  have k2:(t != [])=false:=by simpa using k1
  have F:=F2 k1 k2
  refine sb [.tmp 2] (fn:=Tryz.f144) Tryz.func144 ?_
  intro Q hQ
  refine wk F ?_
  refine ee hQ F ?_
  exact Fin.same (.bool _) ⟨by simp,rfl⟩
 |false=>
  have k2:(t != [])=true:=by simpa using k1
  have F:=F2 k1 k2
  refine sb [.tmp 2] (fn:=Tryz.f144) Tryz.func144 ?_
  intro Q hQ
  refine wk F ?_
  refine kq F (de G ri cl hR hC t 64 (by omega) _) ?_
  refine ee hQ F ?_
  exact Fin.same (.bool _) ⟨by simp,rfl⟩
theorem lS(ri:Bs→Bool)(cl:Bs→Bs)(hR:∀t,t.length≤1000→∀h,Sat (CT G) 190 [.str t] h (fun r h'=>r=.bool (ri t)∧h'=h))(hC:∀t,t.length≤1000→∀h,Sat (CT G) 191 [.str t] h (fun r h'=>r=.str (cl t)∧h'=h))(t:Bs)(h:Heap):Sat (CT G) 146 [.str t] h (fun r h'=>r=.bool (textF ri cl t 256)∧h'=h):=by
 refine sb [.tmp 2] (fn:=Tryz.f146) Tryz.func146 ?_
 intro Q hQ
 refine wk trivial ?_
 refine kq trivial (de G ri cl hR hC t 256 (by omega) _) ?_
 refine ee hQ trivial ?_
 exact Fin.same (.bool _) ⟨rfl,rfl⟩
theorem ij(ri:Bs→Bool)(cl:Bs→Bs)(hR:∀t,t.length≤1000→∀h,Sat (CT G) 190 [.str t] h (fun r h'=>r=.bool (ri t)∧h'=h))(hC:∀t,t.length≤1000→∀h,Sat (CT G) 191 [.str t] h (fun r h'=>r=.str (cl t)∧h'=h))(t:Bs)(h:Heap):Sat (CT G) 148 [.str t] h (fun r h'=>r=.bool (textF ri cl t 512)∧h'=h):=by
 refine sb [.tmp 2] (fn:=Tryz.f148) Tryz.func148 ?_
 intro Q hQ
 refine wk trivial ?_
 refine kq trivial (de G ri cl hR hC t 512 (by omega) _) ?_
 refine ee hQ trivial ?_
 exact Fin.same (.bool _) ⟨rfl,rfl⟩
theorem lT(ri:Bs→Bool)(cl:Bs→Bs)(hR:∀t,t.length≤1000→∀h,Sat (CT G) 190 [.str t] h (fun r h'=>r=.bool (ri t)∧h'=h))(hC:∀t,t.length≤1000→∀h,Sat (CT G) 191 [.str t] h (fun r h'=>r=.str (cl t)∧h'=h))(t:Bs)(h:Heap):Sat (CT G) 149 [.str t] h (fun r h'=>r=.bool (!(t==[])&&textF ri cl t 512)∧h'=h):=by
 cases k1:(t==[])with
 |true=>
  have k2:(t != [])=false:=by simpa using k1
  have F:=F2 k1 k2
  refine sb [.tmp 2] (fn:=Tryz.f149) Tryz.func149 ?_
  intro Q hQ
  refine wk F ?_
  refine ee hQ F ?_
  exact Fin.same (.bool _) ⟨by simp,rfl⟩
 |false=>
  have k2:(t != [])=true:=by simpa using k1
  have F:=F2 k1 k2
  refine sb [.tmp 2] (fn:=Tryz.f149) Tryz.func149 ?_
  intro Q hQ
  refine wk F ?_
  refine kq F (de G ri cl hR hC t 512 (by omega) _) ?_
  refine ee hQ F ?_
  exact Fin.same (.bool _) ⟨by simp,rfl⟩
end Go.Av
namespace Go.Av
open Go Go.Proofs Go.RowKit
attribute [local irreducible] WP WPl WPix Sat
variable (G:Nat→Option (List AVal))
def L0:Leaf where
 label:=fun t=> !(t==[])&&textF rightS cleanF t 64
 title:=fun t=>textF rightS cleanF t 256
 link:=fun t=>textF rightS cleanF t 512
 tag:=fun t=>(!(t==[])&&textF rightS cleanF t 64)&&isF t
 query:=fun t=> !(t==[])&&textF rightS cleanF t 512
 moment:=momF
theorem R0(t:Bs)(ht:t.length≤1000)(h:Heap):Sat (CT G) 190 [.str t] h (fun r h'=>r=.bool (rightS t)∧h'=h):=o7 G t (by omega) h
theorem C0(t:Bs)(ht:t.length≤1000)(h:Heap):Sat (CT G) 191 [.str t] h (fun r h'=>r=.str (cleanF t)∧h'=h):=o6 G t (by omega) h
theorem kO(t:Bs)(h:Heap):Sat (CT G) 125 [.str t] h (fun r h'=>r=.bool (L0.tag t)∧h'=h):=by
 have hL:=gr G rightS cleanF (R0 G) (C0 G) t
 have hu:L0.tag t=((!(t==[])&&textF rightS cleanF t 64)&&isF t):=rfl
 rw[hu]
 cases hl:(!(t==[])&&textF rightS cleanF t 64)with
 |false=>
  rw[hl]at hL
  refine sb [.tmp 2] (fn:=Tryz.f125) Tryz.func125 ?_
  intro Q hQ
  refine wk trivial ?_
  refine kq trivial (hL _) ?_
  refine ee hQ trivial ?_
  exact Fin.same (.bool _) ⟨by simp,rfl⟩
 |true=>
  rw[hl]at hL
  have hlen:t.length≤64:=by
   rw[Bool.and_eq_true]at hl
   have:=hl.2
   unfold textF at this
   rw[Bool.and_eq_true,decide_eq_true_eq]at this
   omega
  refine sb [.tmp 2] (fn:=Tryz.f125) Tryz.func125 ?_
  intro Q hQ
  refine wk trivial ?_
  refine kq trivial (hL _) ?_
  refine kq trivial (mJ G t (by omega) _) ?_
  refine ee hQ trivial ?_
  exact Fin.same (.bool _) ⟨by simp,rfl⟩
theorem oc(e:Ev)(h:Heap):Sat (CT G) 62 [e.av] h (fun r h'=>r=.int .i64 (if L0.ck e then 0 else 140)∧h'=h):=
 lJ G L0 e (lR G L0 (gr G rightS cleanF (R0 G) (C0 G)) (lS G rightS cleanF (R0 G) (C0 G)) (ij G rightS cleanF (R0 G) (C0 G)) (lQ G L0 (ij G rightS cleanF (R0 G) (C0 G))) (kO G) (lT G rightS cleanF (R0 G) (C0 G)) (lP G) e) h
theorem il(s:PS)(h:s.Inv)(e:Ev){H:Heap}{n:Nat}(hn:n+9≤H.length):Sat (CT G) 12 [.hp (n+8) 0 0 0,e.av] (so H n s) (fun r h'=>r=.bool (s.ok L0 e)∧h'=so H n (s.step L0 e)):=by
 obtain⟨d1,d2⟩:=h.deep e.b
 obtain⟨g1,g2⟩:=h.tags e.a
 have hl:=(⟨Nat.le_trans h.l1 (by omega),Nat.le_trans h.l2 (by omega),Nat.le_trans h.l3 (by omega),Nat.le_trans h.l4 (by omega)⟩:s.fo.length≤100∧s.fe.length≤100∧s.it.length≤2000∧s.se.length≤100)
 exact lI G s e (s.ok L0 e) (tgF ((lkM s.it e.a).getD It.z).tags e.s e.n) h.w3 h.w7 h.few (qQ h _ _ (by omega))
  (fun n H hn=>nT G s e (L0.ck e) 7 (s.dpt e.b) d1 (by omega) hl (oc G e) (fun n H hn=>(ji G s e.a e.s g1 (by omega) hn).mono fun r h' ⟨hr,hh⟩=>⟨⟨_,hr⟩,hh⟩) hn)
  (fun n H hn=>kz G s e g1 (by omega) hn) hn
theorem jq(es:List Ev)(hl:es.length≤1048576)(h:Heap):Sat (CT G) 6 [.sl 7 (es.map Ev.av)] h (fun r h'=>r=.hp (h.length+8) 0 0 0∧h'=so (h++PS.z.bl h.length) h.length (es.foldl (PS.step L0) PS.z)):=
 nS G es hl PS.Inv (PS.ok L0) (PS.step L0) .z (fun s e _ h=>h.step e) (fun s e _ h n H hn=>il G s h e hn) h
end Go.Av
namespace Go.Av
open Go.RowKit
section
variable {C:Ctx}
end
end Go.Av
namespace Go.Av
open Go Go.Proofs Go.RowKit
attribute [local irreducible] WP WPl WPix Sat
variable (G:Nat→Option (List AVal))
end Go.Av
namespace Go.Av
open Go Go.Proofs Go.RowKit
attribute [local irreducible] WP WPl WPix Sat
def sc(Y:Heap)(n:Nat)(s:PS)(m:Nat)(c:CS):Heap:=so (co Y m c) n s
section
variable {Y:Heap} {n m:Nat} {s:PS} {c:CS}
theorem fZ(hn:n+9≤m)(hm:m+7≤Y.length):sc Y n s m c=co (so Y n s) m c:=rU s c hn hm
@[go_sem] theorem DU(hn:n+9≤m)(hm:m+7≤Y.length)(j:Heap):sc Y n s m c++j=sc (Y++j) n s m c:=by
 unfold sc;rw[aJ (by rw[bJ hm];omega),kh hm]
@[go_sem] theorem ug(hn:n+9≤m)(hm:m+7≤Y.length):(sc Y n s m c).length=Y.length:=by
 unfold sc;rw[au (by rw[bJ hm];omega),bJ hm]
@[go_sem] theorem DV(hn:n+9≤m)(hm:m+7≤Y.length){p:Nat}(v:Nat)(hp:m+7≤p):getRow (sc Y n s m c) p v=getRow Y p v:=by
 unfold sc;rw[bA (by rw[bJ hm];omega) v (by omega),iP hm v hp]
@[go_sem] theorem DW(hn:n+9≤m)(hm:m+7≤Y.length){p:Nat}(b:Blk)(hp:m+7≤p):(sc Y n s m c).set p b=sc (Y.set p b) n s m c:=by
 unfold sc;rw[mn (by rw[bJ hm];omega) b (by omega),sj hm b hp]
@[go_sem] theorem DX(hn:n+9≤m)(hm:m+7≤Y.length):abin Tryz.prog (sc Y n s m c) .eql 25 (.hp (n+8) 0 0 0) (.nil (.pointer none))=some (.bool false):=by
 unfold sc;exact tN (by rw[bJ hm];omega)
@[go_sem] theorem DY(hn:n+9≤m)(hm:m+7≤Y.length):abin Tryz.prog (sc Y n s m c) .eql 27 (.hp (m+6) 0 0 0) (.nil (.pointer none))=some (.bool false):=by
 rw[fZ hn hm];exact tR (by rw[au (by omega)];exact hm)
theorem uh(hn:n+9≤m){h j:Heap}(hm:m+7≤(h++j).length)(hh:h.length≤n):∃j',sc (h++j) n s m c=h++j':=by
 refine⟨(sc (h++j) n s m c).drop h.length,?_⟩
 have hl:=ug (s:=s) (c:=c) hn hm
 apply List.ext_getElem?
 intro p
 by_cases hp:p<h.length
 ·rw[List.getElem?_append_left hp]
  unfold sc so co
  rw[fg (by show n+9≤_;rw[aD hm];omega) (.inl (by omega)),fg hm (.inl (by omega)),List.getElem?_append_left hp]
 ·rw[List.getElem?_append_right (by omega),List.getElem?_drop];congr 1;omega
end
variable (G:Nat→Option (List AVal))
section
variable {Y:Heap} {n m:Nat} {s:PS} {c:CS}
theorem DZ(hn:n+9≤m)(hm:m+7≤Y.length)(kind id:Int)(g:Bs):Sat (CT G) 14 [.hp (m+6) 0 0 0,.int .i64 kind,.int .i64 id,.str g] (sc Y n s m c) (fun r h'=>r=.tup [.int .i64 (c.of kind id g).1,.int .i64 (c.of kind id g).2]∧h'=sc Y n s m c):=by
 rw[fZ hn hm];exact qM G c kind id g (by rw[au (by omega)];exact hm)
theorem ui(h:s.Inv)(e:Ev)(hn:n+9≤m)(hm:m+7≤Y.length):Sat (CT G) 12 [.hp (n+8) 0 0 0,e.av] (sc Y n s m c) (fun r h'=>r=.bool (s.ok L0 e)∧h'=sc Y n (s.step L0 e) m c):=
 il G s h e (by rw[bJ hm];omega)
theorem uj(h:s.Inv){H:Heap}{n:Nat}(hn:n+9≤H.length):Sat (CT G) 7 [.hp (n+8) 0 0 0] (so H n s) (fun r h'=>r=.hp (H.length+6) 0 0 0∧h'=sc (H++CS.z.bl H.length) n s H.length (CS.ofSt s.tell)):=by
 have h0:=pm G s.tell (.hp (n+8) 0 0 0) (so H n s) (fun j=>by
  rw[aJ hn];exact hY G s h.toOk (by simp;omega)) (pn h) (by have:=bx (z:=Fo.z) s.fo;have:=h.l1;show(valsM Fo.z s.fo).length≤_;omega) (by have:=bx (z:=Fe.z) s.fe;have:=h.l2;show(valsM Fe.z s.fe).length≤_;omega) (by have:=bx (z:=It.z) s.it;have:=h.l3;show(valsM It.z s.it).length≤_;omega)
 rw[au hn,aJ hn]at h0
 refine h0.mono fun r h' ⟨h1,h2⟩=>⟨h1,?_⟩
 rw[h2,fZ hn (by simp[CS.bl])]
theorem wE{s:PS}(Kc:Kp c s)(h:s.Inv)(e:Ev)(hok:s.ok L0 e=true)(hn:n+9≤m)(hm:m+7≤Y.length):Sat (CT G) 13 [.hp (m+6) 0 0 0,.hp (n+8) 0 0 0,e.av] (sc Y n (s.aft e) m c)
  (fun r h'=>r=.tup []∧∃d,Kp d (s.aft e)∧h'=sc Y n (s.aft e) m d):=by
 have hI:(s.aft e).Inv:=by have:=h.step (L:=L0) e;unfold PS.step at this;rw[if_pos hok]at this;exact this
 rw[fZ hn hm]
 have hr:e.kind≠13→1≤e.a:=fun hk=>by
  unfold PS.ok PS.fits at hok
  rw[Bool.and_eq_true]at hok
  have:=hok.1
  unfold Leaf.ck at this;simp only[Bool.and_eq_true]at this
  exact(gF this.1 hk).1
 refine(nN G c (Kc.own h) e (n+8) ((lkM (s.aft e).it e.a).getD It.z) (lkM (s.aft e).it e.a).isSome (H:=so Y n (s.aft e)) (by rw[au (by omega)];exact hm) (fun _ j=>?_) (fun hk hb=>?_) (fun hk=>?_)).mono fun r h' ⟨h1,d,h2,h3⟩=>⟨h1,d,Kc.step h hok h2,by rw[h3,fZ hn hm]⟩
 ·rw[aJ (by omega), ← rU _ _ hn (by simp;omega)]
  exact nH G (s.aft e) e.a (by have:=(hI.tags e.a).2;omega) (by rw[bJ (by simp;omega)];simp;omega)
 ·obtain⟨t,ht⟩:=Option.isSome_iff_exists.1 hb
  rw[ht]
  have hfe:(s.aft e).fe=s.fe:=by
   have hat:s.aft e=s.after (tgF ((lkM s.it e.a).getD It.z).tags e.s e.n) e:=rfl
   unfold PS.after at hat
   rcases hk with k|k|k|k
   ·rw[if_neg (by omega),if_neg (by omega),if_neg (by omega),if_neg (by omega),if_neg (by omega),if_neg (by omega),if_neg (by omega),if_neg (by omega),if_neg (by omega),PS.make,if_neg (by omega),if_neg (by omega),if_pos k]at hat
    rw[hat];rfl
   ·rw[if_neg (by omega),if_neg (by omega),if_neg (by omega),if_neg (by omega),if_pos k]at hat
    rw[hat];rfl
   ·rw[if_neg (by omega),if_neg (by omega),if_neg (by omega),if_neg (by omega),if_neg (by omega),if_pos k]at hat
    rw[hat];rfl
   ·rw[if_neg (by omega),if_neg (by omega),if_neg (by omega),if_neg (by omega),if_neg (by omega),if_neg (by omega),if_pos k]at hat
    rw[hat];rfl
  have h1:=hI.u3 _ _ ht
  rw[hfe]at h1
  exact⟨Kc.rdy h h1 (hI.tg _ _ ht).1,(hI.tg _ _ ht).2⟩
 ·have hw:e.b=0∨(lkM s.fo e.b).isSome=true:=by
   unfold PS.ok PS.fits at hok
   rw[Bool.and_eq_true]at hok
   have hf:=hok.2
   rw[if_neg (by omega),if_neg (by omega),if_neg (by omega),if_neg (by omega),if_pos hk,Bool.and_eq_true]at hf
   exact cS hf.2
  obtain⟨l,a1,_,a2,_⟩:=Kc.chain h (Kc.up h e.a)
  obtain⟨l',b1,_,b2,_⟩:=Kc.chain h hw
  exact⟨⟨l,a1,a2⟩,l',b1,b2⟩
end
def lgE(e:Ev):Bool:=decide ((e.s.length:Int)>1000)||(decide ((e.t.length:Int)>1000)||decide ((e.u.length:Int)>1000))
theorem pP(e:Ev)(h:Heap):Sat (CT G) 11 [e.av] h (fun r h'=>r=.bool (lgE e)∧h'=h):=by
 refine sb [.tmp 2] (fn:=Tryz.f11) Tryz.func11 ?_
 intro Q hQ
 refine wk trivial ?_
 cases k1:decide ((e.s.length:Int)>1000)with
 |true=>
  have F:=k1
  try refine sq F ?_
  refine wk F ?_
  refine ee hQ F ?_
  exact Fin.plain (.bool _) ⟨by simp[lgE,k1],rfl⟩
 |false=>
  cases k2:decide ((e.t.length:Int)>1000)with
  |true=>
   have F:=F2 k1 k2
   try refine sq F ?_
   refine wk F ?_
   refine ee hQ F ?_
   exact Fin.plain (.bool _) ⟨by simp[lgE,k1,k2],rfl⟩
  |false=>
   have F:=F2 k1 k2
   try refine sq F ?_
   refine wk F ?_
   refine ee hQ F ?_
   exact Fin.plain (.bool _) ⟨by simp[lgE,k1,k2],rfl⟩
def lgF(es:List Ev):Bool:=decide ((es.length:Int)>150)||es.any lgE
theorem ir(es:List Ev)(h:Heap):Sat (CT G) 4 [.sl 7 (es.map Ev.av)] h (fun r h'=>r=.bool (lgF es)∧h'=h):=by
 refine sb [.tmp 2] (fn:=Tryz.f4) Tryz.func4 ?_
 intro Q hQ
 refine wk trivial ?_
 have hel:(es.map Ev.av).length=es.length:=List.length_map ..
 have F:=hel
 try refine sq F ?_
 refine cq F (fun c0=>?_) (fun c0=>?_)<;>(try exact c0.elim)<;>(refine wk F ?_)
 ·refine ee hQ F ?_
  exact Fin.same (.bool _) ⟨by simp[lgF];omega,rfl⟩
 ·refine lm (fun nL tL hL=>∃(k:Nat),es.length-k=nL∧[]++h=hL∧tL 0=.sl 7 (es.map Ev.av)∧tL 3=.int .i64 k∧k≤es.length∧(∀e∈es.take k,lgE e=false)) ((fun(k:Nat)=>(es.length-k:Nat)) (0)) ?_ ?_
  ·refine Wkn.refl ⟨0,rfl,rfl,?_,?_,by omega,by simp⟩
   all_goals first|exact zq F|rfl|omega|trivial|skip
  rintro _ s2 h' ⟨k,rfl,rfl,e0,e3,hk,hp⟩ K2 hK2
  simp only[ak,ao,Nat.reduceEqDiff, ↓reduceIte]at e0 e3
  have F:=F3 F e0 e3
  refine wk F ?_
  refine cq F (fun c1=>?_) (fun c1=>?_)<;>(try exact c1.elim)<;>(refine wk F ?_)
  ·have c2:k<es.length:=by omega
   obtain⟨e,he,_⟩:=ah c2
   have F:=F3 F c2 he
   try refine sq F ?_
   refine wk F ?_
   refine kq F (pP G e _) ?_
   refine cq F (fun c3=>?_) (fun c3=>?_)<;>(try exact c3.elim)<;>(refine wk F ?_)
   ·refine ee hQ F ?_
    exact Fin.same (.bool _) ⟨by
     have:es.any lgE=true:=List.any_eq_true.2 ⟨e,List.mem_of_getElem? he,c3⟩
     simp[lgF,this],rfl⟩
   ·have hp1:∀x∈es.take (k+1),lgE x=false:=by
     rw[List.take_add_one,he]
     intro x hx
     simp at hx
     rcases hx with hx|rfl
     ·exact hp x hx
     ·exact c3
    refine hK2 _ _ _ (Wkn.refl ⟨k+1,rfl,rfl,?_,?_,by omega,hp1⟩) (by omega)
    all_goals first|exact zq F|rfl|omega|trivial|skip
  ·rw[List.take_of_length_le (by omega)]at hp
   refine ee hQ F ?_
   exact Fin.same (.bool _) ⟨by
    have:es.any lgE=false:=by rw[List.any_eq_false];intro x hx;rw[hp x hx];simp
    simp[lgF,this];omega,rfl⟩
instance:DecidableEq Ct:=fun x y=>by
 cases x;cases y;simp only[Ct.mk.injEq];exact inferInstance
@[go_sem] theorem Dr(h:Heap)(d e:Ct):abin Tryz.prog h .neq 36 (.agg [.int .i64 d.kind,.int .i64 d.id,.str d.tag,.int .i64 d.all,.int .i64 d.un]) (.agg [.int .i64 e.kind,.int .i64 e.id,.str e.tag,.int .i64 e.all,.int .i64 e.un])=some (.bool (!decide (d=e))):=by
 obtain⟨a1,a2,a3,a4,a5⟩:=d
 obtain⟨b1,b2,b3,b4,b5⟩:=e
 simp only[abin,go_sem,aeqL,aeq1, ↓reduceIte,Option.map_some,Option.some.injEq,AVal.bool.injEq,Ct.mk.injEq,Bool.not_inj_iff]
 rw[Bool.eq_iff_iff]
 simp
theorem rC(a b:List Ct)(ha:a.length≤1000000)(hb:b.length≤1000000)(h:Heap):Sat (CT G) 15 [.sl 5 (a.map Ct.av),.sl 5 (b.map Ct.av)] h (fun r h'=>r=.bool (decide (a=b))∧h'=h):=by
 have ela:(a.map Ct.av).length=a.length:=List.length_map ..
 have elb:(b.map Ct.av).length=b.length:=List.length_map ..
 have F:=F2 @ela @elb
 refine sb [.tmp 4] (fn:=Tryz.f15) Tryz.func15 ?_
 intro Q hQ
 refine wk F ?_
 refine cq F (fun c0=>?_) (fun c0=>?_)<;>(try exact c0.elim)<;>(refine wk F ?_)
 ·refine ee hQ F ?_
  exact Fin.same (.bool _) ⟨by simp;rintro rfl;omega,rfl⟩
 ·refine lm (fun nL tL hL=>∃(k:Nat),a.length-k=nL∧[]++h=hL∧tL 0=.sl 5 (a.map Ct.av)∧tL 1=.sl 5 (b.map Ct.av)∧tL 5=.int .i64 k∧k≤a.length∧a.take k=b.take k) ((fun(k:Nat)=>(a.length-k:Nat)) (0)) ?_ ?_
  ·refine Wkn.refl ⟨0,rfl,rfl,?_,?_,?_,by omega,by simp⟩
   all_goals first|exact zq F|rfl|omega|trivial|skip
  rintro _ s2 h' ⟨k,rfl,rfl,e0,e1,e5,hk,hp⟩ K2 hK2
  simp only[ak,ao,Nat.reduceEqDiff, ↓reduceIte]at e0 e1 e5
  have F:=F4 F e0 e1 e5
  refine wk F ?_
  refine cq F (fun c1=>?_) (fun c1=>?_)<;>(try exact c1.elim)<;>(refine wk F ?_)
  ·have c2:k<a.length:=by omega
   have c2b:k<b.length:=by omega
   obtain⟨x,hx,_⟩:=ah c2
   obtain⟨y,hy,_⟩:=ah c2b
   have F:=F5 F c2 @c2b hx hy
   try refine sq F ?_
   refine wk F ?_
   refine cq F (fun c3=>?_) (fun c3=>?_)<;>(try exact c3.elim)<;>(refine wk F ?_)
   ·refine ee hQ F ?_
    exact Fin.same (.bool _) ⟨by
     simp
     rintro rfl
     rw[hx]at hy;cases hy
     simp at c3,rfl⟩
   ·have c4:x=y:=by simpa using c3
    have hp1:a.take (k+1)=b.take (k+1):=by rw[List.take_add_one,List.take_add_one,hx,hy,hp,c4]
    refine hK2 _ _ _ (Wkn.refl ⟨k+1,rfl,rfl,?_,?_,?_,by omega,hp1⟩) (by omega)
    all_goals first|exact zq F|rfl|omega|trivial|skip
  ·rw[List.take_of_length_le (by omega),List.take_of_length_le (by omega)]at hp
   refine ee hQ F ?_
   exact Fin.same (.bool _) ⟨by simp[hp],rfl⟩
end Go.Av
