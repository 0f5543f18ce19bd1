/- Laws of counts: what must come of every program (lives). -/
import Derived.Test.YtanjiiailjilbaaGreatMcEx3
import Derived.Test.YtanjiiailjilbaaGreatMcDa
import Derived.Test.YtanjiiailjilbaaGreatMcEc
import Derived.Test.YtanjiiailjilbaaGreatMcCm
set_option linter.unusedSimpArgs false
set_option linter.unusedVariables false
set_option linter.unusedSectionVars false
set_option linter.unnecessarySimpa false
set_option maxRecDepth 100000
set_option maxHeartbeats 4000000
namespace Go.Av
open Go Go.Proofs Go.RowKit
attribute [local irreducible] WP WPl WPix Sat
def textF(ri:Bs→Bool)(cl:Bs→Bs)(t:Bs)(n:Int):Bool:=decide ((t.length:Int)≤n)&&(ri t&&cl t==t)
variable (G:Nat→Option (List AVal))
theorem ej(ri:Bs→Bool)(cl:Bs→Bs)(hR:∀t,t.length≤1000→∀h,Sat (CT G) 263 [.str t] h (fun r h'=>r=.bool (ri t)∧h'=h))(hC:∀t,t.length≤1000→∀h,Sat (CT G) 264 [.str t] h (fun r h'=>r=.str (cl t)∧h'=h))(t:Bs)(n:Int)(hn:n≤1000)(h:Heap):Sat (CT G) 236 [.str t,.int .i64 n] h (fun r h'=>r=.bool (textF ri cl t n)∧h'=h):=by
 cases hl:decide ((t.length:Int)≤n)with
 |false=>
  have F:=hl
  refine sb [.tmp 4] (fn:=Tryz.f236) Tryz.func236 ?_
  intro Q hQ
  refine wk F ?_
  refine ee hQ F ?_
  exact Fin.same (.bool _) ⟨by simp[textF,hl],rfl⟩
 |true=>
  have hlt:t.length≤1000:=by have:=of_decide_eq_true hl;omega
  cases hr:ri t with
  |false=>
   have hR1:=hR t hlt
   rw[hr]at hR1
   have F:=hl
   refine sb [.tmp 4] (fn:=Tryz.f236) Tryz.func236 ?_
   intro Q hQ
   refine wk F ?_
   refine kq F (hR1 _) ?_
   refine ee hQ F ?_
   exact Fin.same (.bool _) ⟨by simp[textF,hl,hr],rfl⟩
  |true=>
   have hR1:=hR t hlt
   rw[hr]at hR1
   have F:=hl
   refine sb [.tmp 4] (fn:=Tryz.f236) Tryz.func236 ?_
   intro Q hQ
   refine wk F ?_
   refine kq F (hR1 _) ?_
   refine kq F (hC t hlt _) ?_
   refine ee hQ F ?_
   exact Fin.same (.bool _) ⟨by simp[textF,hl,hr],rfl⟩
theorem iD(ri:Bs→Bool)(cl:Bs→Bs)(hR:∀t,t.length≤1000→∀h,Sat (CT G) 263 [.str t] h (fun r h'=>r=.bool (ri t)∧h'=h))(hC:∀t,t.length≤1000→∀h,Sat (CT G) 264 [.str t] h (fun r h'=>r=.str (cl t)∧h'=h))(t:Bs)(h:Heap):Sat (CT G) 193 [.str t] h (fun r h'=>r=.bool (!(t==[])&&textF ri cl t 64)∧h'=h):=by
 cases k1:(t==[])with
 |true=>
  have k2:(t != [])=false:=by simpa using k1
  have F:=F2 k1 k2
  refine sb [.tmp 2] (fn:=Tryz.f193) Tryz.func193 ?_
  intro Q hQ
  refine wk F ?_
  refine ee hQ F ?_
  exact Fin.same (.bool _) ⟨by simp,rfl⟩
 |false=>
  have k2:(t != [])=true:=by simpa using k1
  have F:=F2 k1 k2
  refine sb [.tmp 2] (fn:=Tryz.f193) Tryz.func193 ?_
  intro Q hQ
  refine wk F ?_
  refine kq F (ej G ri cl hR hC t 64 (by omega) _) ?_
  refine ee hQ F ?_
  exact Fin.same (.bool _) ⟨by simp,rfl⟩
theorem nu(ri:Bs→Bool)(cl:Bs→Bs)(hR:∀t,t.length≤1000→∀h,Sat (CT G) 263 [.str t] h (fun r h'=>r=.bool (ri t)∧h'=h))(hC:∀t,t.length≤1000→∀h,Sat (CT G) 264 [.str t] h (fun r h'=>r=.str (cl t)∧h'=h))(t:Bs)(h:Heap):Sat (CT G) 195 [.str t] h (fun r h'=>r=.bool (textF ri cl t 256)∧h'=h):=by
 refine sb [.tmp 2] (fn:=Tryz.f195) Tryz.func195 ?_
 intro Q hQ
 refine wk trivial ?_
 refine kq trivial (ej G ri cl hR hC t 256 (by omega) _) ?_
 refine ee hQ trivial ?_
 exact Fin.same (.bool _) ⟨rfl,rfl⟩
theorem js(ri:Bs→Bool)(cl:Bs→Bs)(hR:∀t,t.length≤1000→∀h,Sat (CT G) 263 [.str t] h (fun r h'=>r=.bool (ri t)∧h'=h))(hC:∀t,t.length≤1000→∀h,Sat (CT G) 264 [.str t] h (fun r h'=>r=.str (cl t)∧h'=h))(t:Bs)(h:Heap):Sat (CT G) 197 [.str t] h (fun r h'=>r=.bool (textF ri cl t 512)∧h'=h):=by
 refine sb [.tmp 2] (fn:=Tryz.f197) Tryz.func197 ?_
 intro Q hQ
 refine wk trivial ?_
 refine kq trivial (ej G ri cl hR hC t 512 (by omega) _) ?_
 refine ee hQ trivial ?_
 exact Fin.same (.bool _) ⟨rfl,rfl⟩
theorem nv(ri:Bs→Bool)(cl:Bs→Bs)(hR:∀t,t.length≤1000→∀h,Sat (CT G) 263 [.str t] h (fun r h'=>r=.bool (ri t)∧h'=h))(hC:∀t,t.length≤1000→∀h,Sat (CT G) 264 [.str t] h (fun r h'=>r=.str (cl t)∧h'=h))(t:Bs)(h:Heap):Sat (CT G) 199 [.str t] h (fun r h'=>r=.bool (!(t==[])&&textF ri cl t 512)∧h'=h):=by
 cases k1:(t==[])with
 |true=>
  have k2:(t != [])=false:=by simpa using k1
  have F:=F2 k1 k2
  refine sb [.tmp 2] (fn:=Tryz.f199) Tryz.func199 ?_
  intro Q hQ
  refine wk F ?_
  refine ee hQ F ?_
  exact Fin.same (.bool _) ⟨by simp,rfl⟩
 |false=>
  have k2:(t != [])=true:=by simpa using k1
  have F:=F2 k1 k2
  refine sb [.tmp 2] (fn:=Tryz.f199) Tryz.func199 ?_
  intro Q hQ
  refine wk F ?_
  refine kq F (ej G ri cl hR hC t 512 (by omega) _) ?_
  refine ee hQ F ?_
  exact Fin.same (.bool _) ⟨by simp,rfl⟩
theorem en(ri:Bs→Bool)(cl:Bs→Bs)(hR:∀t,t.length≤1000→∀h,Sat (CT G) 256 [.str t] h (fun r h'=>r=.bool (ri t)∧h'=h))(hC:∀t,t.length≤1000→∀h,Sat (CT G) 257 [.str t] h (fun r h'=>r=.str (cl t)∧h'=h))(t:Bs)(n:Int)(hn:n≤1000)(h:Heap):Sat (CT G) 220 [.str t,.int .i64 n] h (fun r h'=>r=.bool (textF ri cl t n)∧h'=h):=by
 cases hl:decide ((t.length:Int)≤n)with
 |false=>
  have F:=hl
  refine sb [.tmp 4] (fn:=Tryz.f220) Tryz.func220 ?_
  intro Q hQ
  refine wk F ?_
  refine ee hQ F ?_
  exact Fin.same (.bool _) ⟨by simp[textF,hl],rfl⟩
 |true=>
  have hlt:t.length≤1000:=by have:=of_decide_eq_true hl;omega
  cases hr:ri t with
  |false=>
   have hR1:=hR t hlt
   rw[hr]at hR1
   have F:=hl
   refine sb [.tmp 4] (fn:=Tryz.f220) Tryz.func220 ?_
   intro Q hQ
   refine wk F ?_
   refine kq F (hR1 _) ?_
   refine ee hQ F ?_
   exact Fin.same (.bool _) ⟨by simp[textF,hl,hr],rfl⟩
  |true=>
   have hR1:=hR t hlt
   rw[hr]at hR1
   have F:=hl
   refine sb [.tmp 4] (fn:=Tryz.f220) Tryz.func220 ?_
   intro Q hQ
   refine wk F ?_
   refine kq F (hR1 _) ?_
   refine kq F (hC t hlt _) ?_
   refine ee hQ F ?_
   exact Fin.same (.bool _) ⟨by simp[textF,hl,hr],rfl⟩
theorem iE(ri:Bs→Bool)(cl:Bs→Bs)(hR:∀t,t.length≤1000→∀h,Sat (CT G) 256 [.str t] h (fun r h'=>r=.bool (ri t)∧h'=h))(hC:∀t,t.length≤1000→∀h,Sat (CT G) 257 [.str t] h (fun r h'=>r=.str (cl t)∧h'=h))(t:Bs)(h:Heap):Sat (CT G) 175 [.str t] h (fun r h'=>r=.bool (!(t==[])&&textF ri cl t 64)∧h'=h):=by
 cases k1:(t==[])with
 |true=>
  have k2:(t != [])=false:=by simpa using k1
  have F:=F2 k1 k2
  refine sb [.tmp 2] (fn:=Tryz.f175) Tryz.func175 ?_
  intro Q hQ
  refine wk F ?_
  refine ee hQ F ?_
  exact Fin.same (.bool _) ⟨by simp,rfl⟩
 |false=>
  have k2:(t != [])=true:=by simpa using k1
  have F:=F2 k1 k2
  refine sb [.tmp 2] (fn:=Tryz.f175) Tryz.func175 ?_
  intro Q hQ
  refine wk F ?_
  refine kq F (en G ri cl hR hC t 64 (by omega) _) ?_
  refine ee hQ F ?_
  exact Fin.same (.bool _) ⟨by simp,rfl⟩
theorem nw(ri:Bs→Bool)(cl:Bs→Bs)(hR:∀t,t.length≤1000→∀h,Sat (CT G) 256 [.str t] h (fun r h'=>r=.bool (ri t)∧h'=h))(hC:∀t,t.length≤1000→∀h,Sat (CT G) 257 [.str t] h (fun r h'=>r=.str (cl t)∧h'=h))(t:Bs)(h:Heap):Sat (CT G) 177 [.str t] h (fun r h'=>r=.bool (textF ri cl t 256)∧h'=h):=by
 refine sb [.tmp 2] (fn:=Tryz.f177) Tryz.func177 ?_
 intro Q hQ
 refine wk trivial ?_
 refine kq trivial (en G ri cl hR hC t 256 (by omega) _) ?_
 refine ee hQ trivial ?_
 exact Fin.same (.bool _) ⟨rfl,rfl⟩
theorem pA(ri:Bs→Bool)(cl:Bs→Bs)(hR:∀t,t.length≤1000→∀h,Sat (CT G) 256 [.str t] h (fun r h'=>r=.bool (ri t)∧h'=h))(hC:∀t,t.length≤1000→∀h,Sat (CT G) 257 [.str t] h (fun r h'=>r=.str (cl t)∧h'=h))(t:Bs)(h:Heap):Sat (CT G) 176 [.str t] h (fun r h'=>r=.bool (textF ri cl t 512)∧h'=h):=by
 refine sb [.tmp 2] (fn:=Tryz.f176) Tryz.func176 ?_
 intro Q hQ
 refine wk trivial ?_
 refine kq trivial (en G ri cl hR hC t 512 (by omega) _) ?_
 refine ee hQ trivial ?_
 exact Fin.same (.bool _) ⟨rfl,rfl⟩
theorem nx(ri:Bs→Bool)(cl:Bs→Bs)(hR:∀t,t.length≤1000→∀h,Sat (CT G) 256 [.str t] h (fun r h'=>r=.bool (ri t)∧h'=h))(hC:∀t,t.length≤1000→∀h,Sat (CT G) 257 [.str t] h (fun r h'=>r=.str (cl t)∧h'=h))(t:Bs)(h:Heap):Sat (CT G) 178 [.str t] h (fun r h'=>r=.bool (!(t==[])&&textF ri cl t 512)∧h'=h):=by
 cases k1:(t==[])with
 |true=>
  have k2:(t != [])=false:=by simpa using k1
  have F:=F2 k1 k2
  refine sb [.tmp 2] (fn:=Tryz.f178) Tryz.func178 ?_
  intro Q hQ
  refine wk F ?_
  refine ee hQ F ?_
  exact Fin.same (.bool _) ⟨by simp,rfl⟩
 |false=>
  have k2:(t != [])=true:=by simpa using k1
  have F:=F2 k1 k2
  refine sb [.tmp 2] (fn:=Tryz.f178) Tryz.func178 ?_
  intro Q hQ
  refine wk F ?_
  refine kq F (en G ri cl hR hC t 512 (by omega) _) ?_
  refine ee hQ F ?_
  exact Fin.same (.bool _) ⟨by simp,rfl⟩
end Go.Av
namespace Go.Av
open Go Go.Proofs Go.RowKit
attribute [local irreducible] WP WPl WPix Sat
variable (G:Nat→Option (List AVal))
def L0:Leaf where
 label:=fun t=> !(t==[])&&textF rightS cleanF t 64
 title:=fun t=>textF rightS cleanF t 256
 link:=fun t=>textF rightS cleanF t 512
 tag:=fun t=>(!(t==[])&&textF rightS cleanF t 64)&&isF t
 query:=fun t=> !(t==[])&&textF rightS cleanF t 512
 moment:=momF
theorem R0(t:Bs)(ht:t.length≤1000)(h:Heap):Sat (CT G) 263 [.str t] h (fun r h'=>r=.bool (rightS t)∧h'=h):=pr G t (by omega) h
theorem C0(t:Bs)(ht:t.length≤1000)(h:Heap):Sat (CT G) 264 [.str t] h (fun r h'=>r=.str (cleanF t)∧h'=h):=pn G t (by omega) h
theorem tt(t:Bs)(h:Heap):Sat (CT G) 198 [.str t] h (fun r h'=>r=.bool (L0.tag t)∧h'=h):=by
 have hL:=iD G rightS cleanF (R0 G) (C0 G) t
 have hu:L0.tag t=((!(t==[])&&textF rightS cleanF t 64)&&isF t):=rfl
 rw[hu]
 cases hl:(!(t==[])&&textF rightS cleanF t 64)with
 |false=>
  rw[hl]at hL
  refine sb [.tmp 2] (fn:=Tryz.f198) Tryz.func198 ?_
  intro Q hQ
  refine wk trivial ?_
  refine kq trivial (hL _) ?_
  refine ee hQ trivial ?_
  exact Fin.same (.bool _) ⟨by simp,rfl⟩
 |true=>
  rw[hl]at hL
  have hlen:t.length≤64:=by
   rw[Bool.and_eq_true]at hl
   have:=hl.2
   unfold textF at this
   rw[Bool.and_eq_true,decide_eq_true_eq]at this
   omega
  refine sb [.tmp 2] (fn:=Tryz.f198) Tryz.func198 ?_
  intro Q hQ
  refine wk trivial ?_
  refine kq trivial (hL _) ?_
  refine kq trivial (uA G t (by omega) _) ?_
  refine ee hQ trivial ?_
  exact Fin.same (.bool _) ⟨by simp,rfl⟩
theorem pH(e:Ev)(h:Heap):Sat (CT G) 92 [e.av] h (fun r h'=>r=.int .i64 (if L0.ck e then 0 else 140)∧h'=h):=
 nq G L0 e (nt G L0 (iD G rightS cleanF (R0 G) (C0 G)) (nu G rightS cleanF (R0 G) (C0 G)) (js G rightS cleanF (R0 G) (C0 G)) (ns G L0 (js G rightS cleanF (R0 G) (C0 G))) (tt G) (nv G rightS cleanF (R0 G) (C0 G)) (nr G) e) h
theorem jw(s:PS)(h:s.Inv)(e:Ev){H:Heap}{n:Nat}(hn:n+9≤H.length):Sat (CT G) 21 [.hp (n+8) 0 0 0,e.av] (so H n s) (fun r h'=>r=.bool (s.ok L0 e)∧h'=so H n (s.step L0 e)):=by
 obtain⟨d1,d2⟩:=h.deep e.b
 obtain⟨g1,g2⟩:=h.tags e.a
 have hl:=(⟨Nat.le_trans h.l1 (by omega),Nat.le_trans h.l2 (by omega),Nat.le_trans h.l3 (by omega),Nat.le_trans h.l4 (by omega)⟩:s.fo.length≤100∧s.fe.length≤100∧s.it.length≤2000∧s.se.length≤100)
 exact np G s e (s.ok L0 e) (tgF ((lkM s.it e.a).getD It.z).tags e.s e.n) h.w3 h.w7 h.few (tq h _ _ (by omega))
  (fun n H hn=>pG G s e (L0.ck e) 7 (s.dpt e.b) d1 (by omega) hl (pH G e) (fun n H hn=>(kO G s e.a e.s g1 (by omega) hn).mono fun r h' ⟨hr,hh⟩=>⟨⟨_,hr⟩,hh⟩) hn)
  (fun n H hn=>ml G s e g1 (by omega) hn) hn
theorem gZ(es:List Ev)(hl:es.length≤1048576)(h:Heap):Sat (CT G) 13 [.sl 7 (es.map Ev.av)] h (fun r h'=>r=.hp (h.length+8) 0 0 0∧h'=so (h++PS.z.bl h.length) h.length (es.foldl (PS.step L0) PS.z)):=
 pF G es hl PS.Inv (PS.ok L0) (PS.step L0) .z (fun s e _ h=>h.step e) (fun s e _ h n H hn=>jw G s h e hn) h
end Go.Av
namespace Go.Av
open Go Go.Proofs Go.RowKit
attribute [local irreducible] WP WPl WPix Sat
def sc(Y:Heap)(n:Nat)(s:PS)(m:Nat)(c:CS):Heap:=so (co Y m c) n s
section
variable {Y:Heap} {n m:Nat} {s:PS} {c:CS}
theorem ip(hn:n+9≤m)(hm:m+7≤Y.length):sc Y n s m c=co (so Y n s) m c:=ub s c hn hm
@[go_sem] theorem FP(hn:n+9≤m)(hm:m+7≤Y.length)(j:Heap):sc Y n s m c++j=sc (Y++j) n s m c:=by
 unfold sc;rw[bz (by rw[c9 hm];omega),mn hm]
@[go_sem] theorem wj(hn:n+9≤m)(hm:m+7≤Y.length):(sc Y n s m c).length=Y.length:=by
 unfold sc;rw[bB (by rw[c9 hm];omega),c9 hm]
@[go_sem] theorem FQ(hn:n+9≤m)(hm:m+7≤Y.length){p:Nat}(v:Nat)(hp:m+7≤p):getRow (sc Y n s m c) p v=getRow Y p v:=by
 unfold sc;rw[cd (by rw[c9 hm];omega) v (by omega),jX hm v hp]
@[go_sem] theorem FR(hn:n+9≤m)(hm:m+7≤Y.length){p:Nat}(b:Blk)(hp:m+7≤p):(sc Y n s m c).set p b=sc (Y.set p b) n s m c:=by
 unfold sc;rw[ut (by rw[c9 hm];omega) b (by omega),uI hm b hp]
@[go_sem] theorem FS(hn:n+9≤m)(hm:m+7≤Y.length):abin Tryz.prog (sc Y n s m c) .eql 27 (.hp (n+8) 0 0 0) (.nil (.pointer none))=some (.bool false):=by
 unfold sc;exact vP (by rw[c9 hm];omega)
@[go_sem] theorem FT(hn:n+9≤m)(hm:m+7≤Y.length):abin Tryz.prog (sc Y n s m c) .eql 25 (.hp (m+6) 0 0 0) (.nil (.pointer none))=some (.bool false):=by
 rw[ip hn hm];exact vY (by rw[bB (by omega)];exact hm)
theorem rb(hn:n+9≤m){h j:Heap}(hm:m+7≤(h++j).length)(hh:h.length≤n):∃j',sc (h++j) n s m c=h++j':=by
 refine⟨(sc (h++j) n s m c).drop h.length,?_⟩
 have hl:=wj (s:=s) (c:=c) hn hm
 apply List.ext_getElem?
 intro p
 by_cases hp:p<h.length
 ·rw[List.getElem?_append_left hp]
  unfold sc so co
  rw[fJ (by show n+9≤_;rw[bp hm];omega) (.inl (by omega)),fJ hm (.inl (by omega)),List.getElem?_append_left hp]
 ·rw[List.getElem?_append_right (by omega),List.getElem?_drop];congr 1;omega
end
variable (G:Nat→Option (List AVal))
section
variable {Y:Heap} {n m:Nat} {s:PS} {c:CS}
theorem Bg(hn:n+9≤m)(hm:m+7≤Y.length)(kind id:Int)(g:Bs):Sat (CT G) 18 [.hp (m+6) 0 0 0,.int .i64 kind,.int .i64 id,.str g] (sc Y n s m c) (fun r h'=>r=.tup [.int .i64 (c.of kind id g).1,.int .i64 (c.of kind id g).2]∧h'=sc Y n s m c):=by
 rw[ip hn hm];exact tC G c kind id g (by rw[bB (by omega)];exact hm)
theorem wl(h:s.Inv)(e:Ev)(hn:n+9≤m)(hm:m+7≤Y.length):Sat (CT G) 21 [.hp (n+8) 0 0 0,e.av] (sc Y n s m c) (fun r h'=>r=.bool (s.ok L0 e)∧h'=sc Y n (s.step L0 e) m c):=
 jw G s h e (by rw[c9 hm];omega)
theorem wm(h:s.Inv){H:Heap}{n:Nat}(hn:n+9≤H.length):Sat (CT G) 12 [.hp (n+8) 0 0 0] (so H n s) (fun r h'=>r=.hp (H.length+6) 0 0 0∧h'=sc (H++CS.z.bl H.length) n s H.length (CS.ofSt s.tell)):=by
 have h0:=kW G s.tell (.hp (n+8) 0 0 0) (so H n s) (fun j=>by
  rw[bz hn];exact pc G s h.toOk (by simp;omega)) (kX h) (by have:=aF (z:=Fo.z) s.fo;have:=h.l1;show(valsM Fo.z s.fo).length≤_;omega) (by have:=aF (z:=Fe.z) s.fe;have:=h.l2;show(valsM Fe.z s.fe).length≤_;omega) (by have:=aF (z:=It.z) s.it;have:=h.l3;show(valsM It.z s.it).length≤_;omega)
 rw[bB hn,bz hn]at h0
 refine h0.mono fun r h' ⟨h1,h2⟩=>⟨h1,?_⟩
 rw[h2,ip hn (by simp[CS.bl])]
theorem yV{s:PS}(Kc:Kp c s)(h:s.Inv)(e:Ev)(hok:s.ok L0 e=true)(hn:n+9≤m)(hm:m+7≤Y.length):Sat (CT G) 20 [.hp (m+6) 0 0 0,.hp (n+8) 0 0 0,e.av] (sc Y n (s.aft e) m c)
  (fun r h'=>r=.tup []∧∃d,Kp d (s.aft e)∧h'=sc Y n (s.aft e) m d):=by
 have hI:(s.aft e).Inv:=by have:=h.step (L:=L0) e;unfold PS.step at this;rw[if_pos hok]at this;exact this
 rw[ip hn hm]
 have hr:e.kind≠13→1≤e.a:=fun hk=>by
  unfold PS.ok PS.fits at hok
  rw[Bool.and_eq_true]at hok
  have:=hok.1
  unfold Leaf.ck at this;simp only[Bool.and_eq_true]at this
  exact(gr this.1 hk).1
 refine(pJ G c (Kc.own h) e (n+8) ((lkM (s.aft e).it e.a).getD It.z) (lkM (s.aft e).it e.a).isSome (H:=so Y n (s.aft e)) (by rw[bB (by omega)];exact hm) (fun _ j=>?_) (fun hk hb=>?_) (fun hk=>?_)).mono fun r h' ⟨h1,d,h2,h3⟩=>⟨h1,d,Kc.step h hok h2,by rw[h3,ip hn hm]⟩
 ·rw[bz (by omega), ← ub _ _ hn (by simp;omega)]
  exact pb G (s.aft e) e.a (by have:=(hI.tags e.a).2;omega) (by rw[c9 (by simp;omega)];simp;omega)
 ·obtain⟨t,ht⟩:=Option.isSome_iff_exists.1 hb
  rw[ht]
  have hfe:(s.aft e).fe=s.fe:=by
   have hat:s.aft e=s.after (tgF ((lkM s.it e.a).getD It.z).tags e.s e.n) e:=rfl
   unfold PS.after at hat
   rcases hk with k|k|k|k
   ·rw[if_neg (by omega),if_neg (by omega),if_neg (by omega),if_neg (by omega),if_neg (by omega),if_neg (by omega),if_neg (by omega),if_neg (by omega),if_neg (by omega),PS.make,if_neg (by omega),if_neg (by omega),if_pos k]at hat
    rw[hat];rfl
   ·rw[if_neg (by omega),if_neg (by omega),if_neg (by omega),if_neg (by omega),if_pos k]at hat
    rw[hat];rfl
   ·rw[if_neg (by omega),if_neg (by omega),if_neg (by omega),if_neg (by omega),if_neg (by omega),if_pos k]at hat
    rw[hat];rfl
   ·rw[if_neg (by omega),if_neg (by omega),if_neg (by omega),if_neg (by omega),if_neg (by omega),if_neg (by omega),if_pos k]at hat
    rw[hat];rfl
  have h1:=hI.u3 _ _ ht
  rw[hfe]at h1
  exact⟨Kc.rdy h h1 (hI.tg _ _ ht).1,(hI.tg _ _ ht).2⟩
 ·have hw:e.b=0∨(lkM s.fo e.b).isSome=true:=by
   unfold PS.ok PS.fits at hok
   rw[Bool.and_eq_true]at hok
   have hf:=hok.2
   rw[if_neg (by omega),if_neg (by omega),if_neg (by omega),if_neg (by omega),if_pos hk,Bool.and_eq_true]at hf
   exact dQ hf.2
  obtain⟨l,a1,_,a2,_⟩:=Kc.chain h (Kc.up h e.a)
  obtain⟨l',b1,_,b2,_⟩:=Kc.chain h hw
  exact⟨⟨l,a1,a2⟩,l',b1,b2⟩
end
def lgE(e:Ev):Bool:=decide ((e.s.length:Int)>1000)||(decide ((e.t.length:Int)>1000)||decide ((e.u.length:Int)>1000))
theorem rj(e:Ev)(h:Heap):Sat (CT G) 40 [e.av] h (fun r h'=>r=.bool (lgE e)∧h'=h):=by
 refine sb [.tmp 2] (fn:=Tryz.f40) Tryz.func40 ?_
 intro Q hQ
 refine wk trivial ?_
 cases k1:decide ((e.s.length:Int)>1000)with
 |true=>
  have F:=k1
  try refine sq F ?_
  refine wk F ?_
  refine ee hQ F ?_
  exact Fin.plain (.bool _) ⟨by simp[lgE,k1],rfl⟩
 |false=>
  cases k2:decide ((e.t.length:Int)>1000)with
  |true=>
   have F:=F2 k1 k2
   try refine sq F ?_
   refine wk F ?_
   refine ee hQ F ?_
   exact Fin.plain (.bool _) ⟨by simp[lgE,k1,k2],rfl⟩
  |false=>
   have F:=F2 k1 k2
   try refine sq F ?_
   refine wk F ?_
   refine ee hQ F ?_
   exact Fin.plain (.bool _) ⟨by simp[lgE,k1,k2],rfl⟩
def lgF(es:List Ev):Bool:=decide ((es.length:Int)>150)||es.any lgE
theorem jz(es:List Ev)(h:Heap):Sat (CT G) 10 [.sl 7 (es.map Ev.av)] h (fun r h'=>r=.bool (lgF es)∧h'=h):=by
 refine sb [.tmp 2] (fn:=Tryz.f10) Tryz.func10 ?_
 intro Q hQ
 refine wk trivial ?_
 have hel:(es.map Ev.av).length=es.length:=List.length_map ..
 have F:=hel
 try refine sq F ?_
 refine cq F (fun c0=>?_) (fun c0=>?_)<;>(try exact c0.elim)<;>(refine wk F ?_)
 ·refine ee hQ F ?_
  exact Fin.same (.bool _) ⟨by simp[lgF];omega,rfl⟩
 ·refine lm (fun nL tL hL=>∃(k:Nat),es.length-k=nL∧[]++h=hL∧tL 0=.sl 7 (es.map Ev.av)∧tL 3=.int .i64 k∧k≤es.length∧(∀e∈es.take k,lgE e=false)) ((fun(k:Nat)=>(es.length-k:Nat)) (0)) ?_ ?_
  ·refine Wkn.refl ⟨0,rfl,rfl,?_,?_,by omega,by simp⟩
   all_goals first|exact zq F|rfl|omega|trivial|skip
  rintro _ s2 h' ⟨k,rfl,rfl,e0,e3,hk,hp⟩ K2 hK2
  simp only[ai,ao,Nat.reduceEqDiff, ↓reduceIte]at e0 e3
  have F:=F3 F e0 e3
  refine wk F ?_
  refine cq F (fun c1=>?_) (fun c1=>?_)<;>(try exact c1.elim)<;>(refine wk F ?_)
  ·have c2:k<es.length:=by omega
   obtain⟨e,he,_⟩:=ac c2
   have F:=F3 F c2 he
   try refine sq F ?_
   refine wk F ?_
   refine kq F (rj G e _) ?_
   refine cq F (fun c3=>?_) (fun c3=>?_)<;>(try exact c3.elim)<;>(refine wk F ?_)
   ·refine ee hQ F ?_
    exact Fin.same (.bool _) ⟨by
     have:es.any lgE=true:=List.any_eq_true.2 ⟨e,List.mem_of_getElem? he,c3⟩
     simp[lgF,this],rfl⟩
   ·have hp1:∀x∈es.take (k+1),lgE x=false:=by
     rw[List.take_add_one,he]
     intro x hx
     simp at hx
     rcases hx with hx|rfl
     ·exact hp x hx
     ·exact c3
    refine hK2 _ _ _ (Wkn.refl ⟨k+1,rfl,rfl,?_,?_,by omega,hp1⟩) (by omega)
    all_goals first|exact zq F|rfl|omega|trivial|skip
  ·rw[List.take_of_length_le (by omega)]at hp
   refine ee hQ F ?_
   exact Fin.same (.bool _) ⟨by
    have:es.any lgE=false:=by rw[List.any_eq_false];intro x hx;rw[hp x hx];simp
    simp[lgF,this];omega,rfl⟩
instance:DecidableEq Ct:=fun x y=>by
 cases x;cases y;simp only[Ct.mk.injEq];exact inferInstance
@[go_sem] theorem Fh(h:Heap)(d e:Ct):abin Tryz.prog h .neq 88 (.agg [.int .i64 d.kind,.int .i64 d.id,.str d.tag,.int .i64 d.all,.int .i64 d.un]) (.agg [.int .i64 e.kind,.int .i64 e.id,.str e.tag,.int .i64 e.all,.int .i64 e.un])=some (.bool (!decide (d=e))):=by
 obtain⟨a1,a2,a3,a4,a5⟩:=d
 obtain⟨b1,b2,b3,b4,b5⟩:=e
 simp only[abin,go_sem,aeqL,aeq1, ↓reduceIte,Option.map_some,Option.some.injEq,AVal.bool.injEq,Ct.mk.injEq,Bool.not_inj_iff]
 rw[Bool.eq_iff_iff]
 simp
theorem iV(a b:List Ct)(ha:a.length≤1000000)(hb:b.length≤1000000)(h:Heap):Sat (CT G) 15 [.sl 5 (a.map Ct.av),.sl 5 (b.map Ct.av)] h (fun r h'=>r=.bool (decide (a=b))∧h'=h):=by
 have ela:(a.map Ct.av).length=a.length:=List.length_map ..
 have elb:(b.map Ct.av).length=b.length:=List.length_map ..
 have F:=F2 @ela @elb
 refine sb [.tmp 4] (fn:=Tryz.f15) Tryz.func15 ?_
 intro Q hQ
 refine wk F ?_
 refine cq F (fun c0=>?_) (fun c0=>?_)<;>(try exact c0.elim)<;>(refine wk F ?_)
 ·refine ee hQ F ?_
  exact Fin.same (.bool _) ⟨by simp;rintro rfl;omega,rfl⟩
 ·refine lm (fun nL tL hL=>∃(k:Nat),a.length-k=nL∧[]++h=hL∧tL 0=.sl 5 (a.map Ct.av)∧tL 1=.sl 5 (b.map Ct.av)∧tL 5=.int .i64 k∧k≤a.length∧a.take k=b.take k) ((fun(k:Nat)=>(a.length-k:Nat)) (0)) ?_ ?_
  ·refine Wkn.refl ⟨0,rfl,rfl,?_,?_,?_,by omega,by simp⟩
   all_goals first|exact zq F|rfl|omega|trivial|skip
  rintro _ s2 h' ⟨k,rfl,rfl,e0,e1,e5,hk,hp⟩ K2 hK2
  simp only[ai,ao,Nat.reduceEqDiff, ↓reduceIte]at e0 e1 e5
  have F:=F4 F e0 e1 e5
  refine wk F ?_
  refine cq F (fun c1=>?_) (fun c1=>?_)<;>(try exact c1.elim)<;>(refine wk F ?_)
  ·have c2:k<a.length:=by omega
   have c2b:k<b.length:=by omega
   obtain⟨x,hx,_⟩:=ac c2
   obtain⟨y,hy,_⟩:=ac c2b
   have F:=F5 F c2 @c2b hx hy
   try refine sq F ?_
   refine wk F ?_
   refine cq F (fun c3=>?_) (fun c3=>?_)<;>(try exact c3.elim)<;>(refine wk F ?_)
   ·refine ee hQ F ?_
    exact Fin.same (.bool _) ⟨by
     simp
     rintro rfl
     rw[hx]at hy;cases hy
     simp at c3,rfl⟩
   ·have c4:x=y:=by simpa using c3
    have hp1:a.take (k+1)=b.take (k+1):=by rw[List.take_add_one,List.take_add_one,hx,hy,hp,c4]
    refine hK2 _ _ _ (Wkn.refl ⟨k+1,rfl,rfl,?_,?_,?_,by omega,hp1⟩) (by omega)
    all_goals first|exact zq F|rfl|omega|trivial|skip
  ·rw[List.take_of_length_le (by omega),List.take_of_length_le (by omega)]at hp
   refine ee hQ F ?_
   exact Fin.same (.bool _) ⟨by simp[hp],rfl⟩
end Go.Av
namespace Go.Av
open Go Go.Proofs Go.RowKit
attribute [local irreducible] WP WPl WPix Sat
variable (G:Nat→Option (List AVal))
def St.inn(x:St)(id:Int):Int:=((fnd (·.id) x.fo id).map (·.inn)).getD 0
def St.upW(x:St)(u:Int):Nat→Int→Int
 |0,id=>id
 |k+1,id=>if id=u∨id=0 then id else St.upW x u k (x.inn id)
def St.within(x:St)(id u:Int):Bool:=decide (x.upW u 10 id=u)||decide (u=0)
def St.has(x:St)(id:Int):Prop:=id=0∨∃f,fnd (·.id) x.fo id=some f
structure St.Up (x:St):Prop where
 fo:∀f∈x.fo,x.has f.inn
 fe:∀f∈x.fe,x.has f.inn
 it:∀t∈x.it,∃f,fnd (·.id) x.fe t.feed=some f
 l1:x.fo.length≤64
 l2:x.fe.length≤64
 l3:x.it.length≤1024
 tg:∀t∈x.it,t.tags.length≤8
theorem nC(x:St)(hx:x.Up)(id u:Int)(hid:x.has id)(h:Heap):Sat (CT G) 142 [x.av,.int .i64 id,.int .i64 u] h (fun r h'=>r=.bool (x.within id u)∧h'=h):=by
 have hel:(x.fo.map Fo.av).length=x.fo.length:=List.length_map ..
 have hl1:=hx.l1
 have hup0:∀i:Int,(i=u∨i=0)→∀k,x.upW u k i=i:=fun i hi k=>by
  cases k with
  |zero=>rfl
  |succ k=>rw[St.upW,if_pos hi]
 have F:=hel
 refine sb [.tmp 6] (fn:=Tryz.f142) Tryz.func142 ?_
 intro Q hQ
 refine wk F ?_
 refine lm (fun nL tL hL=>∃(n:Nat) (i:Int),10-n=nL∧h++[.row 34 9 0 [x.av]]=hL∧tL 1=.int .i64 i∧tL 2=.int .i64 u∧tL 3=.hp h.length 0 0 0∧tL 7=.int .i64 n∧n≤10∧x.has i∧x.upW u (10-n) i=x.upW u 10 id) ((fun(n:Nat) (i:Int)=>(10-n:Nat)) (0) (id)) ?_ ?_
 ·refine Wkn.refl ⟨0,id,rfl,aB,?_,?_,?_,?_,by omega,hid,rfl⟩
  all_goals first|exact zq F|rfl|omega|trivial|skip
 rintro _ s2 h' ⟨n,i,rfl,rfl,e1,e2,e3,e7,hk,hi,hu⟩ K2 hK2
 simp only[ai,ao,Nat.reduceEqDiff, ↓reduceIte]at e1 e2 e3 e7
 have F:=F5 F e1 e2 e3 e7
 refine wk F ?_
 have fin:∀b:Bool,b=x.within id u→Fin h (h++[.row 34 9 0 [x.av]]) (fun r h'=>r=.bool (x.within id u)∧h'=h) (.bool b):=fun b hb=>Fin.plain (.bool _) ⟨by rw[hb],rfl⟩
 have fin2:x.upW u 10 id=i→x.within id u=(decide (i=u)||decide (u=0)):=fun e=>by rw[St.within,e]
 by_cases c1:(n:Int)<10
 ·have d1:decide ((n:Int)<10)=true:=by simp[c1]
  have F:=F2 F d1
  try refine sq F ?_
  refine wk F ?_
  by_cases c2:i=u
  ·have y2:=fin2 (by rw[← hu,hup0 i (.inl c2)])
   have d2:(i==u)=true:=by simp[c2]
   have d3:(i !=u)=false:=by simp[c2]
   have F:=F3 F d2 d3
   try refine sq F ?_
   refine wk F ?_
   refine ee hQ F ?_
   exact fin _ (by rw[y2];simp[c2])
  ·have d2:(i==u)=false:=by simp[c2]
   have d3:(i !=u)=true:=by simp[c2]
   have F:=F3 F d2 d3
   try refine sq F ?_
   refine wk F ?_
   refine cq F (fun c3=>?_) (fun c3=>?_)<;>(try exact c3.elim)<;>(refine wk F ?_)
   ·obtain⟨f,hf⟩:∃f,fnd (·.id) x.fo i=some f:=by
     rcases hi with hi|hi
     ·exact(c3 hi).elim
     ·exact hi
    obtain⟨k,hk1,hk2,hk3⟩:=bk hf
    have hin:x.inn i=f.inn:=by unfold St.inn;rw[hf];rfl
    have hkl:k<x.fo.length:=(List.getElem?_eq_some_iff.1 hk1).1
    have hn:n≤9:=by omega
    have hst:x.upW u (10-(n+1)) f.inn=x.upW u 10 id:=by
     rw[← hu,show 10-n=(10-(n+1))+1 by omega,St.upW,if_neg (by rintro(q|q);exact c2 q;exact c3 q),hin]
    have hF:=ce G x i (by omega)
    rw[hk2]at hF
    have F:=F3 F hk1 hkl
    refine aA (hF _) ?_
    try refine sq F ?_
    refine wk F ?_
    refine hK2 _ _ _ (Wkn.refl ⟨n+1,f.inn,rfl,aB,?_,?_,?_,?_,by omega,hx.fo f (List.mem_of_getElem? hk1),hst⟩) (by omega)
    all_goals first|exact zq F|rfl|omega|trivial|skip
   ·have c4:i=0:=by simpa using c3
    have y2:=fin2 (by rw[← hu,hup0 i (.inr c4)])
    refine ee hQ F ?_
    exact fin _ (by rw[y2];simp[c2];try rw[Bool.eq_iff_iff];try simp)
 ·have d1:decide ((n:Int)<10)=false:=by simp[c1]
  have hn:10-n=0:=by omega
  have y2:=fin2 (by rw[← hu,hn];rfl)
  have F:=F2 F d1
  try refine sq F ?_
  refine wk F ?_
  by_cases c2:i=u
  ·have d2:(i==u)=true:=by simp[c2]
   have F:=F2 F d2
   try refine sq F ?_
   refine wk F ?_
   refine ee hQ F ?_
   exact fin _ (by rw[y2];simp[c2])
  ·have d2:(i==u)=false:=by simp[c2]
   have F:=F2 F d2
   try refine sq F ?_
   refine wk F ?_
   refine ee hQ F ?_
   exact fin _ (by rw[y2];simp[c2];try rw[Bool.eq_iff_iff];try simp)
theorem nD(t:It)(g:Bs)(hl:t.tags.length≤100000)(h:Heap):Sat (CT G) 143 [t.av,.str g] h (fun r h'=>r=.bool (decide (g∈t.tags))∧h'=h):=by
 have hel:(t.tags.map AVal.str).length=t.tags.length:=List.length_map ..
 have F:=hel
 refine sb [.tmp 4] (fn:=Tryz.f143) Tryz.func143 ?_
 intro Q hQ
 refine wk F ?_
 refine lm (fun nL tL hL=>∃(k:Nat),t.tags.length-k=nL∧h++[.row 82 9 0 [t.av]]=hL∧tL 1=.str g∧tL 2=.hp h.length 0 0 0∧tL 5=.int .i64 k∧k≤t.tags.length∧g ∉ t.tags.take k) ((fun(k:Nat)=>(t.tags.length-k:Nat)) (0)) ?_ ?_
 ·refine Wkn.refl ⟨0,rfl,aB,?_,?_,?_,by omega,by simp⟩
  all_goals first|exact zq F|rfl|omega|trivial|skip
 rintro _ s2 h' ⟨k,rfl,rfl,e1,e2,e5,hk,hp⟩ K2 hK2
 simp only[ai,ao,Nat.reduceEqDiff, ↓reduceIte]at e1 e2 e5
 have F:=F4 F e1 e2 e5
 refine wk F ?_
 refine cq F (fun c1=>?_) (fun c1=>?_)<;>(try exact c1.elim)<;>(refine wk F ?_)
 ·have c2:k<t.tags.length:=by omega
  obtain⟨f,hf,hfm⟩:=ac c2
  have F:=F3 F c2 hf
  try refine sq F ?_
  refine wk F ?_
  refine cq F (fun c3=>?_) (fun c3=>?_)<;>(try exact c3.elim)<;>(refine wk F ?_)
  ·refine ee hQ F ?_
   exact Fin.plain (.bool _) ⟨by rw[decide_eq_true (by rw[← c3];exact hfm)],rfl⟩
  ·have hp1:g ∉ t.tags.take (k+1):=by
    rw[List.take_add_one,hf]
    intro q
    simp at q
    rcases q with q|q
    ·exact hp q
    ·exact c3 q.symm
   refine hK2 _ _ _ (Wkn.refl ⟨k+1,rfl,aB,?_,?_,?_,by omega,hp1⟩) (by omega)
   all_goals first|exact zq F|rfl|omega|trivial|skip
 ·rw[List.take_of_length_le (by omega)]at hp
  refine ee hQ F ?_
  exact Fin.plain (.bool _) ⟨by rw[decide_eq_false hp],rfl⟩
def St.cnt(x:St)(c:Ct)(t:It):Bool:=
 if c.kind=1 then true
 else if c.kind=2 then !(c.id==0)&&x.within (((fnd (·.id) x.fe t.feed).map (·.inn)).getD 0) c.id
 else if c.kind=3 then t.feed==c.id
 else if c.kind=4 then decide (c.tag∈t.tags)
 else if c.kind=5 then t.star
 else false
theorem nE(x:St)(hx:x.Up)(c:Ct)(t:It)(ht:t∈x.it)(h:Heap):Sat (CT G) 89 [x.av,c.av,t.av] h (fun r h'=>r=.bool (x.cnt c t)∧h'=h):=by
 have hl2:=hx.l2
 by_cases k1:c.kind=1
 ·have F:=k1
  refine sb [.tmp 6] (fn:=Tryz.f89) Tryz.func89 ?_
  intro Q hQ
  refine wk F ?_
  refine ee hQ F ?_
  exact Fin.plain (.bool _) ⟨by rw[St.cnt,if_pos k1],rfl⟩
 have n1:(c.kind==1)=false:=by simp[k1]
 by_cases k2:c.kind=2
 ·obtain⟨f,hf⟩:=hx.it t ht
  obtain⟨k,hk1,hk2,hk3⟩:=bk hf
  have hkl:k<x.fe.length:=(List.getElem?_eq_some_iff.1 hk1).1
  have hF:=cn G x t.feed (by omega)
  rw[hk2]at hF
  have hW:=nC G x hx f.inn c.id (hx.fe f (List.mem_of_getElem? hk1))
  by_cases c0:c.id=0
  ·have d0:(c.id==0)=true:=by simp[c0]
   have d1:(c.id !=0)=false:=by simp[c0]
   have F:=F3 k2 d0 d1
   refine sb [.tmp 6] (fn:=Tryz.f89) Tryz.func89 ?_
   intro Q hQ
   refine wk F ?_
   refine ee hQ F ?_
   exact Fin.plain (.bool _) ⟨by rw[St.cnt,if_neg k1,if_pos k2,d0];rfl,rfl⟩
  ·have d0:(c.id==0)=false:=by simp[c0]
   have d1:(c.id !=0)=true:=by simp[c0]
   have F:=F5 k2 d0 d1 hk1 hkl
   refine sb [.tmp 6] (fn:=Tryz.f89) Tryz.func89 ?_
   intro Q hQ
   refine wk F ?_
   refine aA (hF _) ?_
   try refine sq F ?_
   refine wk F ?_
   refine aA (hW _) ?_
   try refine sq F ?_
   refine wk F ?_
   refine ee hQ F ?_
   exact Fin.plain (.bool _) ⟨by rw[St.cnt,if_neg k1,if_pos k2,d0,hf];rfl,rfl⟩
 have n2:(c.kind==2)=false:=by simp[k2]
 by_cases k3:c.kind=3
 ·have F:=k3
  refine sb [.tmp 6] (fn:=Tryz.f89) Tryz.func89 ?_
  intro Q hQ
  refine wk F ?_
  refine ee hQ F ?_
  exact Fin.plain (.bool _) ⟨by rw[St.cnt,if_neg k1,if_neg k2,if_pos k3],rfl⟩
 have n3:(c.kind==3)=false:=by simp[k3]
 by_cases k4:c.kind=4
 ·have F:=k4
  refine sb [.tmp 6] (fn:=Tryz.f89) Tryz.func89 ?_
  intro Q hQ
  refine wk F ?_
  refine kq F (nD G t c.tag (by have:=hx.tg t ht;omega) _) ?_
  refine ee hQ F ?_
  exact Fin.plain (.bool _) ⟨by rw[St.cnt,if_neg k1,if_neg k2,if_neg k3,if_pos k4],rfl⟩
 have n4:(c.kind==4)=false:=by simp[k4]
 by_cases k5:c.kind=5
 ·have F:=k5
  refine sb [.tmp 6] (fn:=Tryz.f89) Tryz.func89 ?_
  intro Q hQ
  refine wk F ?_
  refine ee hQ F ?_
  exact Fin.plain (.bool _) ⟨by rw[St.cnt,if_neg k1,if_neg k2,if_neg k3,if_neg k4,if_pos k5],rfl⟩
 have n5:(c.kind==5)=false:=by simp[k5]
 have F:=F5 n1 n2 n3 n4 n5
 refine sb [.tmp 6] (fn:=Tryz.f89) Tryz.func89 ?_
 intro Q hQ
 refine wk F ?_
 refine ee hQ F ?_
 exact Fin.plain (.bool _) ⟨by rw[St.cnt,if_neg k1,if_neg k2,if_neg k3,if_neg k4,if_neg k5],rfl⟩
end Go.Av
namespace Go.Av
open Go Go.Proofs Go.RowKit
variable {c:CS} {s:PS}
def chS(fo:ML Int Fo):Nat→Int→Option (List Int)
 |0,id=>if id=0 then some []else none
 |k+1,id=>if id=0 then some []else(chS fo k (((lkM fo id).map (·.inn)).getD 0)).map (id:: ·)
theorem oc{ab:ML Int Int}{fo:ML Int Fo}(h:∀id,lkM ab id=(lkM fo id).map (·.inn)):∀(k:Nat) (id:Int),chO ab k id=chS fo k id:=by
 intro k
 induction k with
 |zero=>intro id;rfl
 |succ k ih=>intro id;rw[chO,chS,h,ih]
def PS.chn(s:PS)(feed:Int):List Int:=(chS s.fo 7 (((lkM s.fe feed).map (·.inn)).getD 0)).getD []
theorem Kp.chnS(K:Kp c s)(f:Int):c.chn f=s.chn f:=by unfold CS.chn PS.chn;rw[oc K.ab,K.inn]
theorem cM{κ α:Type}[DecidableEq κ]{l:ML κ α}{x:κ}:x∈l.map (·.1)↔(lkM l x).isSome=true:=by
 constructor
 ·intro hm
  cases hq:(lkM l x).isSome with
  |true=>rfl
  |false=>exact(ib hq hm).elim
 ·intro hq
  obtain⟨a,ha⟩:=Option.isSome_iff_exists.1 hq
  obtain⟨n,hn⟩:=cQ ha
  exact List.mem_map.2 ⟨_,hn,rfl⟩
theorem dS{κ α β:Type}[DecidableEq κ]{l:ML κ α}{l':ML κ β}{n n':Nat}(w:WFM l n)(w':WFM l' n')(h:∀x,(lkM l x).isSome=(lkM l' x).isSome):(l.map (·.1)).Perm (l'.map (·.1)):=by
 rw[List.perm_ext_iff_of_nodup w.keys w'.keys]
 intro x
 rw[cM,cM,h]
theorem mz{l l':List Int}(h:l.Perm l'):sortI l=sortI l':=mergeSort_of_perm_i h
theorem rk{κ α:Type}[DecidableEq κ]{l l':ML κ α}{n n':Nat}(w:WFM l n)(w':WFM l' n')(h:∀x,lkM l x=lkM l' x):(l.map (·.2.1)).Perm (l'.map (·.2.1)):=by
 have hp:=dS w w' fun x=>by rw[h]
 have hv:∀{l:ML κ α} {n:Nat},WFM l n→l.map (fun e=>some e.2.1)=(l.map (·.1)).map (lkM l):=fun {l n} w=>by
  rw[List.map_map]
  exact List.map_congr_left fun e he=>(aS w.keys (b:=e.2.2) he).symm
 have h1:(l.map fun e=>some e.2.1).Perm (l'.map fun e=>some e.2.1):=by
  rw[hv w,hv w',List.map_congr_left (fun x _=>h x)]
  exact hp.map _
 have h2:=h1.map (fun o:Option α=>o)
 have h3:∀l:ML κ α,(l.map fun e=>some e.2.1)=(l.map (·.2.1)).map some:=fun l=>by rw[List.map_map];rfl
 rw[h3,h3]at h1
 have:=h1.filterMap id
 simpa using this
def PS.its(s:PS):List It:=s.it.map (·.2.1)
theorem Kp.tl(K:Kp c s)(h:s.Inv)(p:It→Bool):Av.tl (c.it.map (·.2.1)) p=Av.tl s.its p:=cV (rk K.wf.w4 h.w3 K.it) p
def insT(l:List Bs)(g:Bs):List Bs:=match l with
 | []=>[g]
 |a::l=>if Op.bytesLess a g=true then a::insT l g else if a=g then a::l else g::a::l
def tagsR(L:List It):List Bs:=(L.flatMap (·.tags)).foldl insT []
theorem mA(l:List Bs)(g x:Bs):x∈insT l g↔x=g∨x∈l:=by
 induction l with
 |nil=>simp[insT]
 |cons a l ih=>
  rw[insT]
  split
  ·rw[List.mem_cons,ih,List.mem_cons]
   constructor
   ·rintro(h|h|h)
    ·exact .inr (.inl h)
    ·exact .inl h
    ·exact .inr (.inr h)
   ·rintro(h|h|h)
    ·exact .inr (.inl h)
    ·exact .inl h
    ·exact .inr (.inr h)
  ·split
   ·rename_i h;subst h
    constructor
    ·exact .inr
    ·rintro(h|h)
     ·rw[h];exact List.mem_cons_self ..
     ·exact h
   ·rw[List.mem_cons]
theorem tF{l:List Bs}(h:Srt l)(g:Bs):Srt (insT l g):=by
 induction l with
 |nil=>simp[insT,Srt]
 |cons a l ih=>
  have h2:=h
  unfold Srt at h
  rw[List.pairwise_cons]at h
  rw[insT]
  split
  ·rename_i hl
   unfold Srt
   rw[List.pairwise_cons]
   refine⟨fun x hx=>?_,ih h.2⟩
   rcases(mA l g x).1 hx with rfl|hx
   ·exact hl
   ·exact h.1 x hx
  ·rename_i hl
   split
   ·exact h2
   ·rename_i hne
    have hga:Op.bytesLess g a=true:=by
     cases hq:Op.bytesLess g a with
     |true=>rfl
     |false=>exact(hne (jt a g (by simpa using hl) hq)).elim
    unfold Srt
    rw[List.pairwise_cons]
    refine⟨fun x hx=>?_,h2⟩
    rcases List.mem_cons.1 hx with rfl|hx
    ·exact hga
    ·exact cL hga (h.1 x hx)
theorem ud(gs:List Bs):∀{l:List Bs},Srt l→Srt (gs.foldl insT l)∧∀x,x∈gs.foldl insT l↔x∈gs∨x∈l:=by
 induction gs with
 |nil=>intro l h;exact⟨h,fun x=>by simp⟩
 |cons g gs ih=>
  intro l h
  obtain⟨h1,h2⟩:=ih (tF h g)
  refine⟨h1,fun x=>?_⟩
  rw[List.foldl_cons,h2,mA,List.mem_cons]
  constructor
  ·rintro(h|h|h)
   ·exact .inl (.inr h)
   ·exact .inl (.inl h)
   ·exact .inr h
  ·rintro((h|h)|h)
   ·exact .inr (.inl h)
   ·exact .inl h
   ·exact .inr (.inr h)
theorem hY(L:List It):Srt (tagsR L):=(ud _ (by simp[Srt])).1
theorem ff(L:List It)(x:Bs):x∈tagsR L↔∃t∈L,x∈t.tags:=by
 unfold tagsR
 rw[(ud _ (by simp[Srt])).2]
 simp
theorem mB{l l':List Bs}(h:Srt l)(h':Srt l')(hm:∀x,x∈l↔x∈l'):l=l':=by
 have hp:l.Perm l':=(List.perm_ext_iff_of_nodup (hU h) (hU h')).2 hm
 refine List.Perm.eq_of_pairwise (le:=fun a b=>Op.bytesLess a b=true) (fun a b _ _ h1 h2=>?_) h h' hp
 have:=cL h1 h2
 rw[bP]at this;cases this
theorem rn{l:List Bs}(h:l.Nodup):Srt (sortB l):=by
 have h1:(sortB l).Pairwise fun a b=>decide (a≤b)=true:=List.pairwise_mergeSort mt mu l
 have h2:(sortB l).Nodup:=(List.mergeSort_perm l _).nodup_iff.2 h
 unfold Srt
 refine List.Pairwise.imp₂ (R:=fun a b=>decide (a≤b)=true) (S:=fun a b=>a≠b) (fun a b hab hne=>?_) h1 h2
 rw[bytesLess_eq,decide_eq_true_eq]
 rw[decide_eq_true_eq]at hab
 rcases List.le_iff_lt_or_eq.1 hab with h|h
 ·exact h
 ·exact(hne h).elim
def ctM(kind id:Int)(g:Bs)(n:T2):Ct:=⟨kind,id,g,n.1,n.2⟩
def PS.tellC(s:PS):List Ct:=
 ctM 1 0 [] (tl s.its fun _=>true)::(((sortI (s.fo.map (·.1))).map fun id=>ctM 2 id [] (tl s.its fun t=>decide (id∈s.chn t.feed)))++((sortI (s.fe.map (·.1))).map fun id=>ctM 3 id [] (tl s.its fun t=>decide (t.feed=id)))
  ++ (tagsR s.its).map fun g=>ctM 4 0 g (tl s.its fun t=>decide (g∈t.tags)))++[ctM 5 0 [] (tl s.its fun t=>t.star)]
theorem Kp.lkFo(K:Kp c s)(h:s.Inv){id:Int}(hi:(lkM s.fo id).isSome=true):lkM c.fo id=some (Av.tl s.its fun t=>decide (id∈s.chn t.feed)):=by
 rw[K.tal.fo id (by rw[K.fo];exact hi),K.tl h]
 congr 1
 exact bI fun t _=>by rw[K.chnS]
theorem Kp.lkFe(K:Kp c s)(h:s.Inv){id:Int}(hi:(lkM s.fe id).isSome=true):lkM c.fe id=some (Av.tl s.its fun t=>decide (t.feed=id)):=by
 rw[K.tal.fe id (by rw[K.fe];exact hi),K.tl h]
theorem Kp.lkTg(K:Kp c s)(h:s.Inv)(g:Bs):lkM c.tg g=some0 (Av.tl s.its fun t=>decide (g∈t.tags)):=by
 rw[K.tal.tg,K.tl h]
theorem rt(L:List It)(g:Bs):(some0 (tl L fun t=>decide (g∈t.tags))).isSome=true↔∃t∈L,g∈t.tags:=by
 unfold some0 tl
 simp only
 constructor
 ·intro h
  split at h
  ·cases h
  ·rename_i h0
   have:L.countP (fun t=>decide (g∈t.tags))≠0:=fun q=>h0 (by rw[q];rfl)
   obtain⟨t,ht,hg⟩:=List.countP_pos_iff.1 (Nat.pos_of_ne_zero this)
   exact⟨t,ht,by simpa using hg⟩
 ·rintro⟨t,ht,hg⟩
  rw[if_neg]
  ·rfl
  ·have:0<L.countP (fun t=>decide (g∈t.tags)):=List.countP_pos_iff.2 ⟨t,ht,by simpa using hg⟩
   omega
theorem Kp.keysTg(K:Kp c s)(h:s.Inv):sortB (c.tg.map (·.1))=tagsR s.its:=by
 refine mB (rn K.wf.w3.keys) (hY _) fun x=>?_
 rw[ff, ← rt, ← K.lkTg h, ← cM]
 exact(List.mergeSort_perm _ _).mem_iff
theorem Kp.told(K:Kp c s)(h:s.Inv):c.tell=s.tellC:=by
 unfold CS.tell PS.tellC toldI toldS
 rw[K.keysTg h,mz (dS K.wf.w1 h.w1 K.fo),mz (dS K.wf.w2 h.w2 K.fe),K.tal.al,K.tal.st,K.tl h,K.tl h]
 have e1:(sortI (s.fo.map (·.1))).map (ctI 2 c.fo)=(sortI (s.fo.map (·.1))).map fun id=>ctM 2 id [] (Av.tl s.its fun t=>decide (id∈s.chn t.feed)):=
  List.map_congr_left fun id hid=>by
   unfold ctI
   rw[K.lkFo h (cM.1 ((List.mergeSort_perm _ _).mem_iff.1 hid))];rfl
 have e2:(sortI (s.fe.map (·.1))).map (ctI 3 c.fe)=(sortI (s.fe.map (·.1))).map fun id=>ctM 3 id [] (Av.tl s.its fun t=>decide (t.feed=id)):=
  List.map_congr_left fun id hid=>by
   unfold ctI
   rw[K.lkFe h (cM.1 ((List.mergeSort_perm _ _).mem_iff.1 hid))];rfl
 have e3:(tagsR s.its).map (ctS c.tg)=(tagsR s.its).map fun g=>ctM 4 0 g (Av.tl s.its fun t=>decide (g∈t.tags)):=
  List.map_congr_left fun g _=>by
   unfold ctS
   rw[K.lkTg h,fb];rfl
 rw[e1,e2,e3];rfl
end Go.Av
namespace Go.Av
open Go Go.Proofs Go.RowKit
attribute [local irreducible] WP WPl WPix Sat
variable (G:Nat→Option (List AVal))
def St.fil(x:St)(kind id:Int)(g:Bs):Ct:=ctM kind id g (tl x.it (x.cnt ⟨kind,id,g,0,0⟩))
theorem cW(x:St)(hx:x.Up)(kind id:Int)(g:Bs)(h:Heap):Sat (CT G) 47 [x.av,.agg [.int .i64 kind,.int .i64 id,.str g,.int .i64 0,.int .i64 0]] h (fun r h'=>r=(x.fil kind id g).av∧h'=h):=by
 have hel:(x.it.map It.av).length=x.it.length:=List.length_map ..
 have hl3:=hx.l3
 have hcn:∀a u t,x.cnt ⟨kind,id,g,a,u⟩ t=x.cnt ⟨kind,id,g,0,0⟩ t:=fun _ _ _=>rfl
 have F:=hel
 refine sb [.cell 4 88] (fn:=Tryz.f47) Tryz.func47 ?_
 intro Q hQ
 refine wk F ?_
 refine lm (fun nL tL hL=>∃(k a u:Nat),x.it.length-k=nL∧h++[.row 34 9 0 [x.av],.row 88 5 0 [.agg [.int .i64 kind,.int .i64 id,.str g,.int .i64 a,.int .i64 u]],.row 88 5 0 [.agg [.int .i64 0,.int .i64 0,.str [],.int .i64 0,.int .i64 0]]]=hL∧tL 2=.hp h.length 0 0 0∧tL 3=.hp (h.length+1) 0 0 0∧tL 4=.hp (h.length+2) 0 0 0∧tL 5=.int .i64 k∧k≤x.it.length∧a=(x.it.take k).countP (x.cnt ⟨kind,id,g,0,0⟩)∧u=(x.it.take k).countP (fun t=>x.cnt ⟨kind,id,g,0,0⟩ t&& !t.read)) ((fun(k a u:Nat)=>(x.it.length-k:Nat)) (0) (0) (0)) ?_ ?_
 ·refine Wkn.refl ⟨0,0,0,rfl,by simp[St.av],?_,?_,?_,?_,by omega,by simp,by simp⟩
  all_goals first|exact zq F|rfl|omega|trivial|skip
 rintro _ s2 h' ⟨k,a,u,rfl,rfl,e2,e3,e4,e5,hk,ha,hu⟩ K2 hK2
 simp only[ai,ao,Nat.reduceEqDiff, ↓reduceIte]at e2 e3 e4 e5
 have F:=F5 F e2 e3 e4 e5
 refine wk F ?_
 refine cq F (fun c1=>?_) (fun c1=>?_)<;>(try exact c1.elim)<;>(refine wk F ?_)
 ·have c2:k<x.it.length:=by omega
  obtain⟨y,hy,hym⟩:=ac c2
  have hC:=nE G x hx ⟨kind,id,g,a,u⟩ y hym
  rw[hcn]at hC
  have b1:=List.countP_le_length (p:=x.cnt ⟨kind,id,g,0,0⟩) (l:=x.it.take k)
  have b2:=List.countP_le_length (p:=fun t=>x.cnt ⟨kind,id,g,0,0⟩ t&& !t.read) (l:=x.it.take k)
  rw[← ha,List.length_take]at b1
  rw[← hu,List.length_take]at b2
  have ha1:(x.it.take (k+1)).countP (x.cnt ⟨kind,id,g,0,0⟩)=a+if x.cnt ⟨kind,id,g,0,0⟩ y then 1 else 0:=by
   rw[List.take_add_one,hy,List.countP_append, ← ha];simp[List.countP_cons]
  have hu1:(x.it.take (k+1)).countP (fun t=>x.cnt ⟨kind,id,g,0,0⟩ t&& !t.read)=u+if (x.cnt ⟨kind,id,g,0,0⟩ y&& !y.read)then 1 else 0:=by
   rw[List.take_add_one,hy,List.countP_append, ← hu];simp[List.countP_cons]
  have F:=F3 F c2 hy
  try refine sq F ?_
  refine wk F ?_
  cases hc:x.cnt ⟨kind,id,g,0,0⟩ y with
  |false=>
   rw[hc]at hC ha1 hu1
   refine aA (hC _) ?_
   try refine sq F ?_
   refine wk F ?_
   refine hK2 _ _ _ (Wkn.refl ⟨k+1,a,u,rfl,aB,?_,?_,?_,?_,by omega,by simp at ha1;omega,by simp at hu1;omega⟩) (by omega)
   all_goals first|exact zq F|rfl|omega|trivial|skip
  |true=>
   rw[hc]at hC ha1 hu1
   refine aA (hC _) ?_
   try refine sq F ?_
   refine wk F ?_
   cases hr:y.read with
   |true=>
    rw[hr]at hu1
    have F:=F2 F hr
    try refine sq F ?_
    refine wk F ?_
    refine hK2 _ _ _ (Wkn.refl ⟨k+1,a+1,u,rfl,by simp[St.av],?_,?_,?_,?_,by omega,by simp at ha1;omega,by simp at hu1;omega⟩) (by omega)
    all_goals first|exact zq F|rfl|omega|trivial|skip
   |false=>
    rw[hr]at hu1
    have F:=F2 F hr
    try refine sq F ?_
    refine wk F ?_
    refine hK2 _ _ _ (Wkn.refl ⟨k+1,a+1,u+1,rfl,by simp[St.av],?_,?_,?_,?_,by omega,by simp at ha1;omega,by simp at hu1;omega⟩) (by omega)
    all_goals first|exact zq F|rfl|omega|trivial|skip
 ·rw[List.take_of_length_le (by omega)]at ha hu
  try refine sq F ?_
  refine wk F ?_
  refine ye hQ F ?_
  exact Fin.plain (Ct.clo _ ⟨_,_,_,_,_⟩) ⟨by simp only[St.fil,ctM,tl,ha,hu],rfl⟩
theorem ka{g:Bs}:∀{l:List Bs} {a:Nat},(∀b∈l.take a,Op.bytesLess b g=true)→a≤l.length→(∀b,l[a]? =some b→Op.bytesLess b g=false)→insT l g=if l[a]? =some g then l else l.take a++g::l.drop a
 | [],0,_,_,_=>by simp[insT]
 | [],a+1,_,h,_=>by simp at h
 |b::l,0,_,_,h2=>by
  have:=h2 b rfl
  rw[insT,if_neg (by rw[this];simp)]
  simp
 |b::l,a+1,h0,h1,h2=>by
  have hb:=h0 b (by simp)
  rw[insT,if_pos hb,ka (l:=l) (a:=a) (fun c hc=>h0 c (by simp[hc])) (by simpa using h1) (fun c hc=>h2 c (by simpa using hc))]
  simp only[List.getElem?_cons_succ,List.take_succ_cons,List.drop_succ_cons]
  split<;>simp
theorem tG(l:List Bs)(g:Bs):(insT l g).length≤l.length+1:=by
 induction l with
 |nil=>simp[insT]
 |cons a l ih=>
  rw[insT]
  split
  ·simp;omega
  ·split<;>simp
theorem rz(gs:List Bs):∀l:List Bs,(gs.foldl insT l).length≤l.length+gs.length:=by
 induction gs with
 |nil=>intro l;simp
 |cons g gs ih=>intro l;have:=ih (insT l g);have:=tG l g;simp;omega
theorem gv{h0 H:Heap}{p v e:Nat}{l:List Bs}(hp:h0.length≤p)(hg:getRow H p v=some (e,1,l.map .str)):Frz H h0.length (.hs p v 0 l.length true) (.sl 1 (l.map .str)):=by
 have:=Frz.data (n:=h0.length) (len:=l.length) (room:=true) hp hg (by simp) (fun r hr=>by obtain⟨a,_,rfl⟩:=List.mem_map.1 hr;exact .str _) (fun r hr c hc=>by obtain⟨a,_,rfl⟩:=List.mem_map.1 hr;simp[AVal.cells]at hc;subst hc;rfl)
 simpa using this
end Go.Av
namespace Go.Av
open Go.RowKit
section
variable {C:Ctx}
def GClo(C:Ctx):Prop:=∀g cs,C.G g=some cs→Clo 0 (.ad cs)
theorem Sat.frame(hG:GClo C){f:FuncId}{args:List AVal}{R:AVal→Heap→Prop}(ha:∀x∈args,Clo 0 x)(hR:∀r h',R r h'→Clo 0 r∧h'=[])
  (s:Sat C f args [] R)(h:Heap):Sat C f args h fun r h'=>R r []∧h'=h:=by
 intro B S μ w vs fit rl
 have st0:∀(x:AVal) (v:Value),Clo 0 x→Rep w S μ x v→Rep w S [] x v:=fun x v hc hr=>by
  have:=hc.rep (S':=S) hr fun a ha=>ha
  simpa using this
 have fit0:Fits C w.heap.size S [] [] w:=by
  refine⟨fun g cs hg=>st0 _ _ (hG g cs hg) (fit.glob g cs hg),rfl,?_,?_,Nat.le_refl _,fit.lie,?_⟩
  ·intro p q m m' b h1;simp at h1
  ·intro p m b h1;simp at h1
  ·intro p m k h1;simp at h1
 have rl0:RepL w S [] args vs:=⟨rl.1,fun i x hx=>st0 _ _ (ha x (List.mem_of_getElem? hx)) (rl.2 i x hx)⟩
 refine(s _ S [] w vs fit0 rl0).mono fun v w' hp=>?_
 obtain⟨r,h',S',μ',hr,st,fit',hrep⟩:=hp
 obtain⟨hclo,rfl⟩:=hR r h' hr
 obtain rfl:μ'=[]:=List.length_eq_zero_iff.1 (by rw[fit'.len];rfl)
 have own:∀(p:Nat) (m:MB) (b:Nat),μ[p]? =some m→m.blk=some b→∀a,S' a→a.block≠b:=fun p m b h1 e1 a ha=>by
  obtain⟨k1,k2,k3⟩:=fit.own p m b h1 e1
  rcases st.new a ha with h2|h2
  ·exact k3 a h2
  ·omega
 have st2:Step B S μ w S' μ w':=⟨st.sub,st.keep,st.below.mono fit.base,MapLe.refl _,fun a ha=>(st.new a ha).imp id fun e=>Nat.le_trans fit.base e⟩
 refine⟨r,h,S',μ,⟨hr,rfl⟩,st2,?_,?_⟩
 ·refine⟨fun g cs hg=>(fit.glob g cs hg).mono st2,fit.len,fit.sep,fun p m b h1 e1=>?_,Nat.le_trans fit.base st.below.size,fit'.lie,fun p m k h1 h2=>?_⟩
  ·obtain⟨k1,k2,k3⟩:=fit.own p m b h1 e1
   exact⟨k1,Nat.lt_of_lt_of_le k2 st.below.size,own p m b h1 e1⟩
  ·exact(fit.blk p m k h1 h2).mono st2 fun b hb=>st.below.block b (fit.own p m b h1 hb).2.1
 ·have grow:∀(x:AVal) (v:Value),Rep w' S' [] x v→Rep w' S' μ x v:=fun x v hr=>by
   refine hr.mono (B:=0) (S':=S') (w':=w') ⟨fun _ ha=>ha,fun _ _=>rfl,Below.refl _ _,fun p m hm=>by simp at hm,fun _ ha=>.inl ha⟩
  exact grow _ _ hrep
def plainB:AVal→Bool
 | .int _ _=>true
 | .bool _=>true
 | .str _=>true
 |_=>false
theorem pQ{n:Nat}{x:AVal}(h:plainB x=true):Clo n x:=by
 cases x<;>first|exact .int _ _|exact .bool _|exact .str _|cases h
def isV(v:AVal):Option (AVal×Heap)→Bool
 |some (r,h1)=>match frzX h1 0 20 r with
  |some y=>beqA y v
  |none=>false
 |none=>false
theorem Sat.closedV(hG:GClo C){orc:FuncId→List AVal→Option AVal}(horc:OrcOk C orc)(lf n:Nat){f:FuncId}{args:List AVal}{v:AVal}(ha:args.all plainB=true)(hv:cloA 0 v=true)
  (hrun:isV v (callX C orc lf n f args [])=true)(h:Heap):Sat C f args h fun r2 h2=>r2=v∧h2=h:=by
 unfold isV at hrun
 split at hrun
 ·rename_i r h1 e
  split at hrun
  ·rename_i y hy
   have ey:=eD _ _ hrun
   subst ey
   have s:=(tW horc lf n f args [] r h1 e).letgo (v:=y) (by simp) (oh _ _ _ _ _ hy)
   refine(s.frame hG (fun x hx=>pQ (List.all_eq_true.1 ha x hx)) (fun r h' ⟨e1,e2⟩=>⟨by rw[e1];exact fP 0 _ hv,e2⟩) h).mono fun r2 h2 ⟨⟨e1,_⟩,e2⟩=>⟨e1,e2⟩
  ·cases hrun
 ·cases hrun
end
end Go.Av
namespace Go.Av
open Go Go.Proofs Go.RowKit
attribute [local irreducible] WP WPl WPix Sat
variable (G:Nat→Option (List AVal))
theorem pR(s:Bs)(hs:s.length≤1048576)(h:Heap):Sat (CT G) 241 [.str s] h (fun r h'=>∃v,r=.hs h.length v 0 (runesF s).length true∧h'=h++[.row 21 1 v ((runesF s).map runA)]):=by
 refine sb [.tmp 2] (fn:=Tryz.f241) Tryz.func241 ?_
 intro Q hQ
 refine wk trivial ?_
 refine lm (fun nL tL hL=>∃(k v:Nat) (acc:List Int),s.length-k=nL∧h++[.row 21 1 v (acc.map runA)]=hL∧tL 0=.str (s.drop k)∧tL 3=.hs h.length v 0 acc.length true∧k≤s.length∧acc.length≤k∧acc++runesF (s.drop k)=runesF s) ((fun(k v:Nat) (acc:List Int)=>(s.length-k:Nat)) (0) (0) ([])) ?_ ?_
 ·refine⟨_,_,Weak.virt 3 21 1 (by simp) (by omega) (by exact zq trivial),⟨0,0,[],rfl,aB,?_,?_,?_,?_,?_⟩⟩
  all_goals first|exact zq trivial|rfl|omega|trivial|skip
 rintro _ s2 h' ⟨k,v,acc,rfl,rfl,e0,e3,hk,hl,hp⟩ K2 hK2
 simp only[ai,ao,Nat.reduceEqDiff, ↓reduceIte]at e0 e3
 have F:=F2 e0 e3
 refine wk F ?_
 refine cq F (fun c1=>?_) (fun c1=>?_)<;>(try exact c1.elim)<;>(refine wk F ?_)
 ·simp only[List.length_drop]at c1
  have hlt:k<s.length:=by omega
  have hp2:=bu s k hlt
  rw[f4 s k hlt]at hp
  have hne:s.drop k≠ []:=by intro e;have:=congrArg List.length e;simp at this;omega
  refine(hZ G (s.drop k) hne (by simp;omega) _).mono ?_
  rintro r h' ⟨rfl,rfl⟩
  rw[← ct]
  generalize dec s k=d at*
  obtain⟨c,m⟩:=d
  simp only[]at hp hp2 ⊢
  have hsl:m≤(s.drop k).length:=by simp;omega
  have hdd:(s.drop k).drop m=s.drop (k+m):=List.drop_drop ..
  have F:=F3 F hsl hdd
  try refine sq F ?_
  refine wk F ?_
  refine aq F ?_
  try refine sq F ?_
  refine wk F ?_
  refine hK2 _ _ _ (Wkn.refl ⟨k+m,v+1,acc++[(c:Int)],rfl,aB,?_,?_,by omega,by simp;omega,by rw[← hp];simp⟩) (by omega)
  all_goals first|exact zq F|rfl|omega|trivial|skip
 ·simp only[List.length_drop]at c1
  rw[eh s k (by omega),List.append_nil]at hp
  refine wk F ?_
  refine ee hQ F ?_
  subst hp
  exact Fin.whole (by simp) (.hs _ _ _ _ _ (by simp)) ⟨v,rfl,rfl⟩
theorem iW(l:List Int)(hr:∀r∈l,Rune r)(hl:l.length≤1048576){h:Heap}{p v0:Nat}(hg:getRow h p v0=some (21,1,l.map runA)):Sat (CT G) 244 [.hs p v0 0 l.length true] h (fun x h'=>x=.str (l.flatMap enc)∧h'=h):=by
 have hll:(l.map runA).length=l.length:=List.length_map ..
 have hpl:=bn hg
 have hgj:∀j,getRow (h++j) p v0=some (21,1,l.map runA):=fun j=>by rw[bi _ hpl];exact hg
 have hra:∀x,runA x=.int .i32 x:=fun _=>rfl
 have F:=F4 hll hg hgj hra
 refine sb [.tmp 2] (fn:=Tryz.f244) Tryz.func244 ?_
 intro Q hQ
 refine wk F ?_
 refine lm (fun nL tL hL=>∃(k v:Nat) (acc:Bs),l.length-k=nL∧h++[.row 5 1 v (acc.map bytA)]=hL∧tL 3=.hs h.length v 0 acc.length true∧tL 4=.int .i64 k∧k≤l.length∧acc++(l.drop k).flatMap enc=l.flatMap enc∧acc.length≤4*k) ((fun(k v:Nat) (acc:Bs)=>(l.length-k:Nat)) (0) (0) ([])) ?_ ?_
 ·refine⟨_,_,Weak.virt 3 5 1 (by simp) (by omega) (by exact zq F),⟨0,0,[],rfl,aB,?_,?_,?_,?_,?_⟩⟩
  all_goals first|exact zq F|rfl|omega|trivial|skip
 rintro _ s2 h' ⟨k,v,acc,rfl,rfl,e3,e4,hk,hp,hz⟩ K2 hK2
 simp only[ai,ao,Nat.reduceEqDiff, ↓reduceIte]at e3 e4
 have F:=F3 F e3 e4
 refine wk F ?_
 refine cq F (fun hc=>?_) (fun hc=>?_)<;>(try exact hc.elim)
 ·obtain⟨y,hy,hym⟩:=ac hc
  rw[aH hy,List.flatMap_cons]at hp
  have he:=eA y
  have hel:((enc y).map bytA).length=(enc y).length:=List.length_map ..
  have c2:k<l.length:=by omega
  have F:=F3 F c2 hy
  refine wk F ?_
  refine kq F (od G y (hr y hym) _) ?_
  refine aq F ?_
  try refine sq F ?_
  refine wk F ?_
  refine hK2 _ _ _ (Wkn.refl ⟨k+1,v+1,acc++enc y,rfl,aB,?_,?_,by omega,by rw[← hp];simp,by simp;omega⟩) (by omega)
  all_goals first|exact zq F|rfl|omega|trivial|skip
 ·rw[aN hc,List.flatMap_nil,List.append_nil]at hp
  have hb:=gj acc
  have hel:elemsOf (h++[.row 5 1 v (acc.map bytA)]) 1 (.hs h.length v 0 acc.length true)=some (acc.map bytA):=by
   simp[elemsOf,getRow,List.take_of_length_le]
  have F:=F4 F hb hel @iG
  refine wk F ?_
  refine ee hQ F ?_
  rw[← hp]
  exact Fin.plainE (j:=_) rfl (.str _) ⟨rfl,rfl⟩
theorem rH(s:Bs)(hs:s.length≤100000)(h:Heap):Sat (CT G) 242 [.str s] h (fun r h'=>r=.str (foldS s)∧h'=h):=by
 have hll:=d9 s.length s (Nat.le_refl _)
 have hrl:=dH s.length s (Nat.le_refl _)
 have hR:=pR G s (by omega)
 have hfo:foldS s=((runesF s).map foldR).flatMap enc:=rfl
 rw[hfo]
 generalize runesF s=l at*
 refine sb [.tmp 2] (fn:=Tryz.f242) Tryz.func242 ?_
 intro Q hQ
 refine wk trivial ?_
 refine(hR _).mono ?_
 rintro r h' ⟨v,rfl,rfl⟩
 try refine sq trivial ?_
 refine wk trivial ?_
 refine lm (fun nL tL hL=>∃(k:Nat),l.length-k=nL∧h++[.row 21 1 v (((l.take k).map foldR++l.drop k).map runA)]=hL∧tL 3=.hs h.length v 0 l.length true∧tL 4=.int .i64 k∧k≤l.length) ((fun(k:Nat)=>(l.length-k:Nat)) (0)) ?_ ?_
 ·refine Wkn.refl ⟨0,rfl,by simp,?_,?_,by omega⟩
  all_goals first|exact zq trivial|rfl|omega|trivial|skip
 rintro _ s2 h' ⟨k,rfl,rfl,e3,e4,hk⟩ K2 hK2
 simp only[ai,ao,Nat.reduceEqDiff, ↓reduceIte]at e3 e4
 have F:=F2 e3 e4
 refine wk F ?_
 refine cq F (fun c1=>?_) (fun c1=>?_)<;>(try exact c1.elim)
 ·have c2:k<l.length:=by omega
  obtain⟨y,hy,hym⟩:=ac c2
  have hget:((l.take k).map foldR++l.drop k)[k]? =some y:=by
   rw[List.getElem?_append_right (by simp;omega),List.length_map,List.length_take,Nat.min_eq_left (by omega),Nat.sub_self,List.getElem?_drop];simpa using hy
  have hset:(((l.take k).map foldR++l.drop k).map runA).set k (.int .i32 (foldR y))=((l.take (k+1)).map foldR++l.drop (k+1)).map runA:=by
   have h1:(AVal.int .i32 (foldR y))=runA (foldR y):=rfl
   rw[h1, ← List.map_set]
   congr 1
   rw[List.set_append_right _ _ (by simp;omega),List.length_map,List.length_take,Nat.min_eq_left (by omega),Nat.sub_self,aH hy,List.set_cons_zero,List.take_add_one,hy]
   simp
  have hlen:(((l.take k).map foldR++l.drop k).map runA).length=l.length:=by simp;omega
  have hra:∀x,runA x=.int .i32 x:=fun _=>rfl
  generalize (l.take k).map foldR++l.drop k=rw_ at*
  have F:=F7 F c2 @hget @hset @hlen hra @aJ
  try refine sq F ?_
  refine wk F ?_
  refine kq F (rC G y (hrl y hym) _) ?_
  refine hK2 _ _ _ (Wkn.refl ⟨k+1,rfl,rfl,?_,?_,by omega⟩) (by omega)
  all_goals first|exact zq F|rfl|omega|trivial|skip
 ·have hk2:k=l.length:=by omega
  subst hk2
  have hfin:(l.take l.length).map foldR++l.drop l.length=l.map foldR:=by rw[List.take_length,List.drop_length,List.append_nil]
  rw[hfin]
  have hg:getRow (h++[.row 21 1 v ((l.map foldR).map runA)]) h.length v=some (21,1,(l.map foldR).map runA):=by simp[getRow]
  have hP:=iW G (l.map foldR) (fun r hr=>by obtain⟨x,hx,rfl⟩:=List.mem_map.1 hr;exact gm (hrl x hx)) (by simp;omega) hg
  rw[List.length_map]at hP
  refine wk F ?_
  refine kq F (hP) ?_
  refine ee hQ F ?_
  exact Fin.plain (.str _) ⟨rfl,rfl⟩
theorem rI(a b:List Bs)(ha:a.length≤1000000)(hb:b.length≤1000000)(h:Heap):Sat (CT G) 206 [.sl 1 (a.map .str),.sl 1 (b.map .str)] h (fun r h'=>r=.bool (decide (a=b))∧h'=h):=by
 have ela:(a.map AVal.str).length=a.length:=List.length_map ..
 have elb:(b.map AVal.str).length=b.length:=List.length_map ..
 have F:=F2 @ela @elb
 refine sb [.tmp 4] (fn:=Tryz.f206) Tryz.func206 ?_
 intro Q hQ
 refine wk F ?_
 refine cq F (fun c0=>?_) (fun c0=>?_)<;>(try exact c0.elim)<;>(refine wk F ?_)
 ·refine ee hQ F ?_
  exact Fin.same (.bool _) ⟨by simp;rintro rfl;omega,rfl⟩
 ·refine lm (fun nL tL hL=>∃(k:Nat),a.length-k=nL∧[]++h=hL∧tL 0=.sl 1 (a.map .str)∧tL 1=.sl 1 (b.map .str)∧tL 5=.int .i64 k∧k≤a.length∧a.take k=b.take k) ((fun(k:Nat)=>(a.length-k:Nat)) (0)) ?_ ?_
  ·refine Wkn.refl ⟨0,rfl,rfl,?_,?_,?_,by omega,by simp⟩
   all_goals first|exact zq F|rfl|omega|trivial|skip
  rintro _ s2 h' ⟨k,rfl,rfl,e0,e1,e5,hk,hp⟩ K2 hK2
  simp only[ai,ao,Nat.reduceEqDiff, ↓reduceIte]at e0 e1 e5
  have F:=F4 F e0 e1 e5
  refine wk F ?_
  refine cq F (fun c1=>?_) (fun c1=>?_)<;>(try exact c1.elim)<;>(refine wk F ?_)
  ·have c2:k<a.length:=by omega
   have c2b:k<b.length:=by omega
   obtain⟨x,hx,_⟩:=ac c2
   obtain⟨y,hy,_⟩:=ac c2b
   have F:=F5 F c2 @c2b hx hy
   try refine sq F ?_
   refine wk F ?_
   refine cq F (fun c3=>?_) (fun c3=>?_)<;>(try exact c3.elim)<;>(refine wk F ?_)
   ·refine ee hQ F ?_
    exact Fin.same (.bool _) ⟨by
     simp
     rintro rfl
     rw[hx]at hy;cases hy
     simp at c3,rfl⟩
   ·have c4:x=y:=by simpa using c3
    have hp1:a.take (k+1)=b.take (k+1):=by rw[List.take_add_one,List.take_add_one,hx,hy,hp,c4]
    refine hK2 _ _ _ (Wkn.refl ⟨k+1,rfl,rfl,?_,?_,?_,by omega,hp1⟩) (by omega)
    all_goals first|exact zq F|rfl|omega|trivial|skip
  ·rw[List.take_of_length_le (by omega),List.take_of_length_le (by omega)]at hp
   refine ee hQ F ?_
   exact Fin.same (.bool _) ⟨by simp[hp],rfl⟩
theorem ke(n:Int)(h:Heap):Sat (CT G) 174 [.int .i64 n] h (fun r h'=>r=.bool (idF n)∧h'=h):=by
 by_cases k:1≤n
 ·have k2:decide (n≥1)=true:=by simpa using k
  have F:=k2
  refine sb [.tmp 2] (fn:=Tryz.f174) Tryz.func174 ?_
  intro Q hQ
  refine wk F ?_
  refine ee hQ F ?_
  exact Fin.same (.bool _) ⟨by simp[idF,k],rfl⟩
 ·have k2:decide (n≥1)=false:=by simpa using k
  have F:=k2
  refine sb [.tmp 2] (fn:=Tryz.f174) Tryz.func174 ?_
  intro Q hQ
  refine wk F ?_
  refine ee hQ F ?_
  exact Fin.same (.bool _) ⟨by simp[idF,k],rfl⟩
theorem uh(C:Ctx):OrcOk C (fun _ _=>none):=fun f args r g h=>by cases g
theorem uX:isV (.int .i64 (-62135596800)) (callX (CT G) (fun _ _=>none) 1000 100 208 [] [])=true:=by kernel_rfl
theorem wq:isV (.int .i64 253402300799) (callX (CT G) (fun _ _=>none) 1000 100 209 [] [])=true:=by kernel_rfl
theorem tX(hc:GClo (CT G))(n:Int)(h:Heap):Sat (CT G) 165 [.int .i64 n] h (fun r h'=>r=.bool (momF n)∧h'=h):=by
 have h1:=fun h=>Sat.closedV hc (uh _) 1000 100 rfl rfl (uX G) h
 have h2:=fun h=>Sat.closedV hc (uh _) 1000 100 rfl rfl (wq G) h
 by_cases k: -62135596800≤n
 ·have k2:decide (n≥ -62135596800)=true:=by simpa using k
  have F:=k2
  refine sb [.tmp 2] (fn:=Tryz.f165) Tryz.func165 ?_
  intro Q hQ
  refine wk F ?_
  refine kq F (h1 _) ?_
  refine kq F (h2 _) ?_
  refine ee hQ F ?_
  exact Fin.same (.bool _) ⟨by simp[momF,k],rfl⟩
 ·have k2:decide (n≥ -62135596800)=false:=by simpa using k
  have F:=k2
  refine sb [.tmp 2] (fn:=Tryz.f165) Tryz.func165 ?_
  intro Q hQ
  refine wk F ?_
  refine kq F (h1 _) ?_
  refine ee hQ F ?_
  exact Fin.same (.bool _) ⟨by simp[momF,k],rfl⟩
end Go.Av
namespace Go.Av
open Go Go.Proofs Go.RowKit
attribute [local irreducible] WP WPl WPix Sat
set_option pp.deepTerms true
set_option pp.maxSteps 200000
variable (G:Nat→Option (List AVal))
theorem iX:∀(b w:List Int) (out:List Bs),(wdsR b w out).length≤out.length+b.length+1
 | [],w,out=>by rw[wdsR];split<;>simp
 |c::b,w,out=>by
  rw[wdsR]
  split
  ·have:=iX b (if w.length<32 then w++[c]else w) out;simp only[List.length_cons];omega
  ·have:=iX b [] (if w=[]then out else out++[encs w])
   have h2:(if w=[]then out else out++[encs w]).length≤out.length+1:=by split<;>simp
   simp only[List.length_cons];omega
theorem pS(s:Bs)(hs:s.length≤10000)(h:Heap):Sat (CT G) 207 [.str s] h (fun r h'=>r=.sl 1 ((wordsF s).map .str)∧h'=h):=by
 have hfl:=gW s
 have hR:=kZ G (foldS s) (by omega)
 have hrn:=dH (foldS s).length (foldS s) (Nat.le_refl _)
 have hrl:=d9 (foldS s).length (foldS s) (Nat.le_refl _)
 rw[jD]
 generalize runesF (foldS s)=rs at*
 have hel:(rs.map runA).length=rs.length:=List.length_map ..
 have hra:∀x,runA x=.int .i32 x:=fun _=>rfl
 have F:=F2 hel hra
 refine sb [.tmp 2] (fn:=Tryz.f207) Tryz.func207 ?_
 intro Q hQ
 refine wk F ?_
 refine kq F (rH G s (by omega) _) ?_
 refine kq F (hR _) ?_
 refine lm (fun nL tL hL=>∃(i po vo:Nat) (hh:Heap) (out:List Bs) (w:List Int) (x:AVal),rs.length+1-i=nL∧hh=hL∧tL 3=.sl 1 (rs.map runA)∧tL 4=.hs po vo 0 out.length true∧tL 5=x∧tL 6=.int .i64 i∧i≤rs.length+1∧((w=[]∧x=.nil (.slice none 0 0))∨(∃p v,x=.hs p v 0 w.length true∧getRow hh p v=some (21,1,w.map runA)∧h.length≤p∧p≠po))∧getRow hh po vo=some (9,1,out.map .str)∧(FrN h.length h hh∧h.length≤po)∧wdsR (rs.drop i) w out=wdsR rs [] []∧(w.length≤32∧out.length≤i∧(∀c∈w,Rune c)∧(i=rs.length+1→w=[]))) ((fun(i po vo:Nat) (hh:Heap) (out:List Bs) (w:List Int) (x:AVal)=>(rs.length+1-i:Nat)) (0) (h.length) (0) (h++[.row 9 1 0 []]) ([]) ([]) (.nil (.slice none 0 0))) ?_ ?_
 ·refine⟨_,_,Weak.virt 4 9 1 (by simp) (by omega) (by exact zq F),⟨0,h.length,0,h++[.row 9 1 0 []],[],[],.nil (.slice none 0 0),rfl,aB,?_,?_,?_,?_,by omega,.inl ⟨rfl,rfl⟩,by rw[aG _ rfl];rfl,⟨FrN.app _ (by omega) (FrN.refl _ _),by omega⟩,by simp,⟨by simp,by simp,by simp,by simp⟩⟩⟩
  all_goals first|exact zq F|rfl|omega|trivial|skip
 rintro _ s2 h' ⟨i,po,vo,hh,out,w,x,rfl,rfl,e3,e4,e5,e6,hi,hx,hg,hfr,hv,hwl⟩ K2 hK2
 simp only[ai,ao,Nat.reduceEqDiff, ↓reduceIte]at e3 e4 e5 e6
 have F:=F5 F e3 e4 e5 e6
 have hgl:=bn hg
 obtain⟨hw1,hw2,hw3,hw4⟩:=hwl
 obtain⟨hfr,hpo⟩:=hfr
 have hol:(out.map AVal.str).length=out.length:=List.length_map ..
 have hwm:(w.map runA).length=w.length:=List.length_map ..
 have dt:∀i:Decidable True, @decide True i=true:=fun i=>decide_eq_true trivial
 have done0:∀(q:Nat),letR (rs.getD i 0)=false∨rs.length≤i→i≤rs.length→wdsR (rs.drop (i+1)) [] (if w=[]then out else out++[encs w])=wdsR rs [] []:=fun _ hl hle=>by
  rw[← hv]
  rcases Nat.lt_or_ge i rs.length with hlt|hge
  ·obtain⟨y,hy,_⟩:=ac hlt
   have hly:letR y=false:=by
    rcases hl with hl|hl
    ·rw[List.getD_eq_getElem?_getD,hy]at hl;exact hl
    ·omega
   rw[aH hy,wdsR]
   simp only[hly,Bool.false_eq_true,if_false]
  ·rw[aN hge,aN (by omega),wdsR,wdsR];simp
 have F:=F4 F hg hol hwm
 try refine sq F ?_
 refine wk F ?_
 refine cq F (fun c1=>?_) (fun c1=>?_)<;>(try exact c1.elim)<;>(refine wk F ?_)
 ·have c2:i≤rs.length:=by omega
  have fin0:True:=trivial
  by_cases c3:i<rs.length
  ·obtain⟨y,hy,hym⟩:=ac c3
   have d3:decide (i<rs.length)=true:=by simp;omega
   have hl:=nG G y (hrn y hym)
   have hv2:=hv
   rw[aH hy,wdsR]at hv2
   have hgd:rs.getD i 0=y:=by rw[List.getD_eq_getElem?_getD,hy];rfl
   rw[hgd]at done0
   cases hlt:letR y with
   |true=>
    rw[hlt]at hl hv2
    rw[if_pos rfl]at hv2
    have F:=F4 F hy c3 dt
    try refine sq F ?_
    refine wk F ?_
    refine kq F (hl _) ?_
    rcases hx with⟨rfl,rfl⟩| ⟨p,v,rfl,hgw,hp1,hp2⟩
    ·try refine sq F ?_
     refine wk F ?_
     refine su (.inl rfl) (by simp(disch:=first|omega| (simp only[go_sem, ↓reduceIte,seval];first|done|omega)|fail) only[go_sem, ↓reduceIte,seval,F];try rfl) (by simp(disch:=first|omega| (simp only[go_sem, ↓reduceIte,seval];first|done|omega)|fail) only[go_sem, ↓reduceIte,seval,F];try rfl) (by simp(disch:=first|omega| (simp only[go_sem, ↓reduceIte,seval];first|done|omega)|fail) only[go_sem, ↓reduceIte,seval,F];try rfl) (by simp(disch:=first|omega| (simp only[go_sem, ↓reduceIte,seval];first|done|omega)|fail) only[go_sem, ↓reduceIte,seval,F];try rfl) (by omega) (by simp only[elemsOf, ↓reduceIte];rfl) ⟨by simp[maxLen],by simp⟩ ?_
     try refine sq F ?_
     refine wk F ?_
     refine hK2 _ _ _ (Wkn.refl ⟨i+1,po,vo,hh++[.row 21 1 0 [runA y]],out,[y],.hs hh.length 0 0 1 true,rfl,aB,?_,?_,?_,?_,by omega,.inr ⟨hh.length,0,rfl,by rw[aG _ rfl];rfl,(by omega),by omega⟩,by rw[bi _ hgl];exact hg,⟨FrN.app _ ((by omega)) hfr,hpo⟩,by simpa using hv2,⟨by simp,by omega,fun c hc=>by simp at hc;subst hc;exact hrn _ hym,by omega⟩⟩) (by omega)
     all_goals first|exact zq F|rfl|omega|trivial|skip
    ·have hpl:=bn hgw
     have F:=F3 F hgw @aJ
     try refine sq F ?_
     refine wk F ?_
     refine cq F (fun c4=>?_) (fun c4=>?_)<;>(try exact c4.elim)<;>(refine wk F ?_)
     ·rw[if_pos (by omega)]at hv2
      refine aq F ?_
      try refine sq F ?_
      refine wk F ?_
      refine hK2 _ _ _ (Wkn.refl ⟨i+1,po,vo,hh.set p (.row 21 1 (v+1) ((w++[y]).map runA)),out,w++[y],.hs p (v+1) 0 (w++[y]).length true,rfl,by simp[runA],?_,?_,?_,?_,by omega,.inr ⟨p,v+1,rfl,by rw[bW _ _ _ _ _ hpl,if_pos rfl],hp1,hp2⟩,by rw[bh _ _ hp2];exact hg,⟨FrN.set _ hp1 hfr,hpo⟩,hv2,⟨by simp;omega,by omega,fun c hc=>by rcases List.mem_append.1 hc with hc|hc;exact hw3 c hc;simp at hc;subst hc;exact hrn _ hym,by omega⟩⟩) (by omega)
      all_goals first|exact zq F|rfl|omega|trivial|skip
     ·rw[if_neg (by omega)]at hv2
      refine hK2 _ _ _ (Wkn.refl ⟨i+1,po,vo,hh,out,w,.hs p v 0 w.length true,rfl,rfl,?_,?_,?_,?_,by omega,.inr ⟨p,v,rfl,hgw,hp1,hp2⟩,hg,⟨hfr,hpo⟩,hv2,⟨hw1,by omega,hw3,by omega⟩⟩) (by omega)
      all_goals first|exact zq F|rfl|omega|trivial|skip
   |false=>
    have hd:=done0 0 (.inl hlt) c2
    rw[hlt]at hl
    have F:=F4 F hy c3 dt
    try refine sq F ?_
    refine wk F ?_
    refine kq F (hl _) ?_
    rcases hx with⟨rfl,rfl⟩| ⟨p,v,rfl,hgw,hp1,hp2⟩
    ·rw[if_pos rfl]at hd
     try refine sq F ?_
     refine wk F ?_
     refine cq F (fun c5=>?_) (fun c5=>?_)<;>(try exact c5.elim)<;>(refine wk F ?_)
     refine hK2 _ _ _ (Wkn.refl ⟨i+1,po,vo,hh,out,[],.nil (.slice none 0 0),rfl,rfl,?_,?_,?_,?_,by omega,.inl ⟨rfl,rfl⟩,hg,⟨hfr,hpo⟩,hd,⟨by simp,by omega,by simp,fun _=>rfl⟩⟩) (by omega)
     all_goals first|exact zq F|rfl|omega|trivial|skip
    ·have hpl:=bn hgw
     have hP:=iW G w hw3 (by omega) hgw
     have F:=F3 F hgw @aJ
     try refine sq F ?_
     refine wk F ?_
     refine cq F (fun c5=>?_) (fun c5=>?_)<;>(try exact c5.elim)<;>(refine wk F ?_)
     ·have hw0:¬w=[]:=by rintro rfl;simp at c5
      rw[if_neg hw0]at hd
      refine kq F (hP) ?_
      refine aq F ?_
      try refine sq F ?_
      refine wk F ?_
      refine hK2 _ _ _ (Wkn.refl ⟨i+1,po,vo+1,hh.set po (.row 9 1 (vo+1) ((out++[encs w]).map .str)),out++[encs w],[],.nil (.slice none 0 0),rfl,by simp[encs],?_,?_,?_,?_,by omega,.inl ⟨rfl,rfl⟩,by rw[bW _ _ _ _ _ hgl,if_pos rfl],⟨FrN.set _ hpo hfr,hpo⟩,hd,⟨by simp,by simp;omega,by simp,fun _=>rfl⟩⟩) (by omega)
      all_goals first|exact zq F|rfl|omega|trivial|skip
     ·have hw0:w=[]:=by cases w with|nil=>rfl|cons a l=>exfalso;simp only[List.length_cons]at c5;omega
      rw[if_pos hw0]at hd
      subst hw0
      refine hK2 _ _ _ (Wkn.refl ⟨i+1,po,vo,hh,out,[],.hs p v 0 0 true,rfl,rfl,?_,?_,?_,?_,by omega,.inr ⟨p,v,rfl,hgw,hp1,hp2⟩,hg,⟨hfr,hpo⟩,hd,⟨by simp,by omega,by simp,fun _=>rfl⟩⟩) (by omega)
      all_goals first|exact zq F|rfl|omega|trivial|skip
  ·have d3:decide (i<rs.length)=false:=by simp;omega
   have hd:=done0 0 (.inr (by omega)) c2
   have F:=F2 F d3
   try refine sq F ?_
   refine wk F ?_
   rcases hx with⟨rfl,rfl⟩| ⟨p,v,rfl,hgw,hp1,hp2⟩
   ·rw[if_pos rfl]at hd
    try refine sq F ?_
    refine wk F ?_
    refine cq F (fun c5=>?_) (fun c5=>?_)<;>(try exact c5.elim)<;>(refine wk F ?_)
    refine hK2 _ _ _ (Wkn.refl ⟨i+1,po,vo,hh,out,[],.nil (.slice none 0 0),rfl,rfl,?_,?_,?_,?_,by omega,.inl ⟨rfl,rfl⟩,hg,⟨hfr,hpo⟩,hd,⟨by simp,by omega,by simp,fun _=>rfl⟩⟩) (by omega)
    all_goals first|exact zq F|rfl|omega|trivial|skip
   ·have hpl:=bn hgw
    have hP:=iW G w hw3 (by omega) hgw
    have F:=F3 F hgw @aJ
    try refine sq F ?_
    refine wk F ?_
    refine cq F (fun c5=>?_) (fun c5=>?_)<;>(try exact c5.elim)<;>(refine wk F ?_)
    ·have hw0:¬w=[]:=by rintro rfl;simp at c5
     rw[if_neg hw0]at hd
     refine kq F (hP) ?_
     refine aq F ?_
     try refine sq F ?_
     refine wk F ?_
     refine hK2 _ _ _ (Wkn.refl ⟨i+1,po,vo+1,hh.set po (.row 9 1 (vo+1) ((out++[encs w]).map .str)),out++[encs w],[],.nil (.slice none 0 0),rfl,by simp[encs],?_,?_,?_,?_,by omega,.inl ⟨rfl,rfl⟩,by rw[bW _ _ _ _ _ hgl,if_pos rfl],⟨FrN.set _ hpo hfr,hpo⟩,hd,⟨by simp,by simp;omega,by simp,fun _=>rfl⟩⟩) (by omega)
     all_goals first|exact zq F|rfl|omega|trivial|skip
    ·have hw0:w=[]:=by cases w with|nil=>rfl|cons a l=>exfalso;simp only[List.length_cons]at c5;omega
     rw[if_pos hw0]at hd
     subst hw0
     refine hK2 _ _ _ (Wkn.refl ⟨i+1,po,vo,hh,out,[],.hs p v 0 0 true,rfl,rfl,?_,?_,?_,?_,by omega,.inr ⟨p,v,rfl,hgw,hp1,hp2⟩,hg,⟨hfr,hpo⟩,hd,⟨by simp,by omega,by simp,fun _=>rfl⟩⟩) (by omega)
     all_goals first|exact zq F|rfl|omega|trivial|skip
 ·have hie:i=rs.length+1:=by omega
  have hwe:=hw4 hie
  subst hwe
  rw[aN (by omega),wdsR,if_pos rfl]at hv
  obtain⟨j,rfl⟩:=hfr.behind (by omega)
  refine ee hQ F ?_
  rw[← hv]
  exact Fin.frz (gv hpo hg) ⟨rfl,rfl⟩
theorem tY(t:Bs)(h:Heap):Sat (CT G) 163 [.str t] h (fun r h'=>r=.bool (L0.tag t)∧h'=h):=by
 have hL:=iE G rightS cleanF (fun t ht h=>jB G t (by omega) h) (fun t ht h=>jC G t (by omega) h) t
 have hu:L0.tag t=((!(t==[])&&textF rightS cleanF t 64)&&isF t):=rfl
 rw[hu]
 cases hl:(!(t==[])&&textF rightS cleanF t 64)with
 |false=>
  rw[hl]at hL
  refine sb [.tmp 2] (fn:=Tryz.f163) Tryz.func163 ?_
  intro Q hQ
  refine wk trivial ?_
  refine kq trivial (hL _) ?_
  refine ee hQ trivial ?_
  exact Fin.same (.bool _) ⟨by simp,rfl⟩
 |true=>
  rw[hl]at hL
  have hlen:t.length≤64:=by
   rw[Bool.and_eq_true]at hl
   have:=hl.2
   unfold textF at this
   rw[Bool.and_eq_true,decide_eq_true_eq]at this
   omega
  have hwl:(wordsF t).length≤1000000:=by
   have h1:=iX (runesF (foldS t)) [] []
   have h2:=d9 (foldS t).length (foldS t) (Nat.le_refl _)
   have h3:=gW t
   rw[← jD]at h1
   simp only[List.length_nil]at h1
   omega
  have hS:=rI G (wordsF t) [t] hwl (by simp)
  refine sb [.tmp 2] (fn:=Tryz.f163) Tryz.func163 ?_
  intro Q hQ
  refine wk trivial ?_
  refine kq trivial (hL _) ?_
  refine kq trivial (pS G t (by omega) _) ?_
  refine kq trivial (hS _) ?_
  refine ee hQ trivial ?_
  exact Fin.same (.bool _) ⟨by simp[isF],rfl⟩
end Go.Av
namespace Go.Av
open Go Go.Proofs Go.RowKit
def sumZ:List Int→Int
 | []=>0
 |a::l=>a+sumZ l
def S2{α:Type}(F:List α)(L:List It)(P:α→It→Bool):Int:=sumZ (F.map fun g=>(L.countP (P g):Int))
variable {s:PS}
theorem PS.Inv.chs(h:s.Inv){p:Int}(hp:p=0∨(lkM s.fo p).isSome=true):∃l,chS s.fo 7 p=some l∧l.Nodup∧∀x∈l,(lkM s.fo x).isSome=true:=by
 obtain⟨l,h1,h2,_,h4⟩:=(Kp.new h).chain h hp
 exact⟨l,by rw[← oc (Kp.new h).ab];exact h1,h2,h4⟩
end Go.Av
namespace Go.Av
open Go Go.Proofs Go.RowKit
attribute [local irreducible] WP WPl WPix Sat
variable (G:Nat→Option (List AVal))
def PS.step1(s:PS)(e:Ev):PS:=if s.fits true (s.dpt e.b) e then s.aft e else s
theorem fV{s:PS}{e:Ev}(h:L0.ck e=true):s.step L0 e=s.step1 e:=by unfold PS.step PS.step1 PS.ok;rw[h]
theorem ir{e:Ev}(h1:L0.right e=true)(h2:usedE e=e):L0.ck e=true:=by unfold Leaf.ck;rw[h1,h2];simp
def lvs:List Ev:=[⟨1,1,0,0,[102],[],[]⟩,⟨3,1,1,0,[117],[],[]⟩,⟨7,1,1,0,[97],[],[]⟩,⟨7,2,1,0,[98],[],[]⟩,⟨10,2,0,1,[103,111],[],[]⟩]
def lvE:Ev:=⟨8,2,0,1,[],[],[]⟩
def lvS:PS:=lvs.foldl PS.step1 PS.z
def lvT:PS:=lvS.aft lvE
theorem wT:L0.ck lvE=true:=ir (by kernel_rfl) rfl
theorem mK:lvs.foldl (PS.step L0) PS.z=lvS:=by
 show(((((PS.z.step L0 _).step L0 _).step L0 _).step L0 _).step L0 _)=_
 rw[fV (ir (by kernel_rfl) rfl),fV (ir (by kernel_rfl) rfl),fV (ir (by kernel_rfl) rfl),fV (ir (by kernel_rfl) rfl),fV (ir (by kernel_rfl) rfl)]
 rfl
theorem mL:lvS.ok L0 lvE=true:=by unfold PS.ok;rw[wT];kernel_rfl
theorem fW:lvS.Inv:=by rw[← mK];exact PS.Inv.z.fold lvs
theorem mM:lvS.step L0 lvE=lvT:=by unfold PS.step;rw[mL];rfl
theorem oy:lvT.Inv:=by rw[← mM];exact fW.step lvE
def lvC:List Ct:=[⟨1,0,[],2,1⟩,⟨2,1,[],2,1⟩,⟨3,1,[],2,1⟩,⟨4,0,[103,111],1,0⟩,⟨5,0,[],0,0⟩]
theorem s9(n:Int):sortI [n]=[n]:=List.mergeSort_of_pairwise (by simp)
theorem wU:lvT.fo.map (·.1)=[1]:=by kernel_rfl
theorem wV:lvT.fe.map (·.1)=[1]:=by kernel_rfl
theorem u9:lvT.tellC=lvC:=by
 unfold PS.tellC
 rw[wU,wV,s9]
 kernel_rfl
theorem mN:tagsR lvT.its=[[103,111]]:=by kernel_rfl
section
variable {Y:Heap} {n m:Nat} {s:PS} {c:CS}
theorem sa(Kc:Kp c s)(h:s.Inv)(t1:∀g∈tagsR s.its,g.length≤1048576)(t2:(tagsR s.its).length≤100000)(hn:n+9≤m)(hm:m+7≤Y.length):
  Sat (CT G) 16 [.hp (m+6) 0 0 0] (sc Y n s m c) (fun r h'=>r=.sl 5 (s.tellC.map Ct.av)∧h'=sc Y n s m c):=by
 have hp:(c.tg.map (·.1)).Perm (tagsR s.its):=by rw[← Kc.keysTg h];exact(List.mergeSort_perm _ _).symm
 have p1:=dS Kc.wf.w1 h.w1 Kc.fo
 have p2:=dS Kc.wf.w2 h.w2 Kc.fe
 have q1:=p1.length_eq
 have q2:=p2.length_eq
 have q3:=hp.length_eq
 rw[List.length_map,List.length_map]at q1 q2
 rw[List.length_map]at q3
 have l1:=h.l1
 have l2:=h.l2
 rw[ip hn hm, ← Kc.told h]
 refine jy G c Kc.wf (fun e he=>?_) (fun e he=>?_) (fun e he=>?_) (by omega) (by omega) (by omega) (by rw[bB (by omega)];exact hm)
 ·have:=cM.1 (p1.mem_iff.1 (List.mem_map.2 ⟨e,he,rfl⟩))
  obtain⟨f,hf⟩:=Option.isSome_iff_exists.1 this
  have:=h.i1 _ _ hf
  omega
 ·have:=cM.1 (p2.mem_iff.1 (List.mem_map.2 ⟨e,he,rfl⟩))
  obtain⟨f,hf⟩:=Option.isSome_iff_exists.1 this
  have:=h.i2 _ _ hf
  omega
 ·exact t1 _ (hp.mem_iff.1 (List.mem_map.2 ⟨e,he,rfl⟩))
end
theorem wW{h Y:Heap}{n m:Nat}{s:PS}{c:CS}{R:AVal→Heap→Prop}{b:Bool}(hn:n+9≤m)(hm:m+7≤Y.length)(hp:∃j,Y=h++j)(hh:h.length≤n)(hR:R (.bool b) h):Fin h (sc Y n s m c) R (.bool b):=by
 obtain⟨j,rfl⟩:=hp
 obtain⟨j',he⟩:=rb (s:=s) (c:=c) hn hm hh
 rw[he]
 exact Fin.plainE (j:=j') rfl (.bool _) hR
theorem fC(h:Heap):Sat (CT G) 11 [] h (fun r h'=>r=.bool true∧h'=h):=by
 have hF:=fun h=>gZ G lvs (by decide) h
 rw[mK]at hF
 have hz9:(PS.z.bl h.length).length=9:=rfl
 have hfh:=hF h
 generalize hH:h++PS.z.bl h.length=H0 at hfh
 have hl0:H0.length=h.length+9:=by rw[← hH];simp[hz9]
 have hnw:=wm G fW (H:=H0) (n:=h.length) (by omega)
 have hz7:(CS.z.bl H0.length).length=7:=rfl
 generalize hWw:H0++CS.z.bl H0.length=W0 at hnw
 have hlW:W0.length=H0.length+7:=by rw[← hWw];simp[hz7]
 have hpre:∃j,W0=h++j:=⟨PS.z.bl h.length++CS.z.bl H0.length,by rw[← hWw, ← hH,List.append_assoc]⟩
 generalize H0.length=m at*
 have hn:h.length+9≤m:=by omega
 have hap:=fun(W:Heap) (hm:m+7≤W.length)=>wl G (Y:=W) (n:=h.length) (m:=m) (c:=CS.ofSt lvS.tell) fW lvE hn hm
 rw[mM,mL]at hap
 have hst:=fun(W:Heap) (hm:m+7≤W.length)=>yV G (Y:=W) (n:=h.length) (m:=m) (Kp.new fW) fW lvE mL hn hm
 refine sb [.tmp 0] (fn:=Tryz.f11) Tryz.func11 ?_
 intro Q hQ
 refine wk trivial ?_
 refine kq trivial (hfh) ?_
 refine kq trivial (hnw) ?_
 refine kq trivial (hap _ (by first|omega| (simp;omega))) ?_
 refine(hst _ (by first|omega| (simp;omega))).mono ?_
 rintro r h' ⟨rfl,d,kd,rfl⟩
 change Kp d lvT at kd
 have hof:d.of 2 1 []=(2,1):=by
  show(lkM d.fo 1).getD (0,0)=_
  rw[kd.lkFo oy (by kernel_rfl)]
  kernel_rfl
 have hof1:(d.of 2 1 []).1=2:=by rw[hof]
 have hof2:(d.of 2 1 []).2=1:=by rw[hof]
 have htl:=fun(W:Heap) (hm:m+7≤W.length)=>sa G (Y:=W) (n:=h.length) (m:=m) kd oy (by rw[mN];decide) (by rw[mN];decide) hn hm
 rw[u9]at htl
 have hsm:=fun h=>iV G lvC lvC (by decide) (by decide) h
 rw[decide_eq_true (rfl:lvC=lvC)]at hsm
 have F:=F2 hof1 hof2
 try refine sq F ?_
 refine wk F ?_
 refine kq F (Bg G (n:=h.length) (s:=lvT) (c:=d) hn (by first|omega| (simp;omega)) 2 1 []) ?_
 refine kq F (htl _ (by first|omega| (simp;omega))) ?_
 refine kq F (hsm _) ?_
 refine ee hQ F ?_
 obtain⟨j0,hj0⟩:=hpre
 exact wW hn (by simp;omega) ⟨j0++_,by rw[hj0,List.append_assoc]⟩ (Nat.le_refl _) ⟨rfl,rfl⟩
end Go.Av
