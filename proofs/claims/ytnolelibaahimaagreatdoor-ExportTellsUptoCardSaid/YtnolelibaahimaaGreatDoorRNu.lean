/- Parts. -/
import Derived.Test.YtnolelibaahimaaGreatDoorRNm
set_option linter.unusedSimpArgs false
set_option linter.unusedVariables false
set_option linter.unusedSectionVars false
set_option linter.unnecessarySimpa false
set_option maxRecDepth 100000
set_option maxHeartbeats 16000000
namespace Go.Av
open Go Go.Proofs Go.RowKit
section
attribute [local irreducible] WP WPl WPix Sat
def IsL(H:Heap)(n0 e n:Nat)(rows:List AVal)(v:AVal):Prop:=
 (rows=[]∧v=.ez)∨∃p w,v=.hs p w 0 rows.length true∧getRow H p w=some (e,n,rows)∧n0≤p
section
variable {H H':Heap} {n0 e n:Nat} {rows:List AVal} {v:AVal}
theorem IsL.ez(H:Heap)(n0 e n:Nat):IsL H n0 e n [] .ez:=.inl ⟨rfl,rfl⟩
theorem IsL.cel(h:IsL H n0 e n rows v):v.cells=[v]:=by
 rcases h with⟨_,rfl⟩| ⟨p,w,rfl,_⟩<;>rfl
theorem IsL.lie(h:IsL H n0 e n rows v):v.lies=true:=by
 rcases h with⟨_,rfl⟩| ⟨p,w,rfl,_⟩<;>rfl
theorem IsL.elems(h:IsL H n0 e n rows v):elemsOf H n v=some rows:=by
 rcases h with⟨rfl,rfl⟩| ⟨p,w,rfl,h1,_⟩
 ·rfl
 ·exact pE h1 rfl
theorem IsL.keep(h:IsL H n0 e n rows v)(hk:∀p w,n0≤p→∀x,getRow H p w=some x→getRow H' p w=some x):IsL H' n0 e n rows v:=by
 rcases h with h| ⟨p,w,h1,h2,h3⟩
 ·exact .inl h
 ·exact .inr ⟨p,w,h1,hk p w h3 _ h2,h3⟩
theorem IsL.set(h:IsL H n0 e n rows v){q:Nat}(b:Blk)(hq:q<n0):IsL (H.set q b) n0 e n rows v:=h.keep fun p w hp x hx=>by rw[bc _ _ (by omega)];exact hx
theorem IsL.old(h:IsL H n0 e n rows v)(hf:FrN H.length H H'):IsL H' n0 e n rows v:=h.keep fun p w hp x hx=>by
 have:=bI hx;unfold getRow at hx ⊢;rw[hf p this];exact hx
theorem IsL.frz(h:IsL H n0 e n rows v){N:Nat}(hN:N≤n0)(hc:∀r∈rows,Clo N r)(hs:∀r∈rows,∀c∈r.cells,c.sto=true):Frz H N v (.sl n rows):=by
 rcases h with⟨rfl,rfl⟩| ⟨p,w,rfl,h1,h2⟩
 ·exact .ezs _
 ·exact Z5 (by omega) h1 rfl hc hs
theorem FrN.row{p w:Nat}(h:FrN n0 H H')(hp:p<n0):getRow H' p w=getRow H p w:=by unfold getRow;rw[h p hp]
end
theorem FrN.r3{h h1:Heap}{e1 m1 e2 m2 e3 m3:Nat}{a b c:List AVal}(f:FrN (h.length+3) (h++[.row e1 m1 0 a,.row e2 m2 0 b,.row e3 m3 0 c]) h1):
  getRow h1 h.length 0=some (e1,m1,a)∧getRow h1 (h.length+1) 0=some (e2,m2,b)∧getRow h1 (h.length+2) 0=some (e3,m3,c):=by
 refine⟨?_,?_,?_⟩
 ·rw[f.row (by omega),aS _ rfl];rfl
 ·rw[f.row (by omega),bx _ rfl];rfl
 ·rw[f.row (by omega),bx _ rfl];rfl
section
variable {C:Ctx}
@[go_sem] theorem C4{T:TypeId}{k:AVal→Prop}:rowsV C T 0 [] [] k=need (elmT C.P T) fun e=>need (szOf C.P e) fun _=>k .ez:=by simp[rowsV]
@[go_sem] theorem Im{ops:Array Oper}{x y:Operand}{T T':TypeId}{ty:TypeId}{pos:String}{aft:Array Edge}{dst:Option Tmp}{t:Env}{h:Heap}{K:AVal→Heap→Prop}:
  wpOperV C ops ⟨dst,.call ⟨.builtin .append, #[x,y], #[T,T']⟩,ty,pos,aft,none⟩ t h K=appK C T T' (aev C.G t x) (aev C.G t y) h K:=(rfl)
theorem wR{T T' e n by' n0:Nat}{v y:AVal}{rows ys:List AVal}{h:Heap}{k:AVal→Heap→Prop}(hL:IsL h n0 e n rows v)(hn0:n0≤h.length)(hT:T'=T∨strT C.P T'=true)(he:elmT C.P T=some e)(hn:szOf C.P e=some n)(hb:byT C.P e=some by')
  (hz:(zroT C.P e).map (fun z=>z.cells.length)=some n)(h0:0<n)(hy:elemsOf h n y=some ys)(hr:rows.length+ys.length≤maxLen∧(rows.length+ys.length)*by'≤140737488355328)
  (hk:∀v' h',IsL h' n0 e n (rows++ys) v'→FrN n0 h h'→h.length≤h'.length→k v' h'):appK C T T' v y h k:=by
 rcases hL with⟨rfl,rfl⟩| ⟨p,w,rfl,h1,h2⟩
 ·simp only[M9,P9]at hr;refine gf hT he hn hb hz h0 hy hr (fun e0=>?_) (fun e0=>?_)
  ·subst e0;exact hk _ _ (.ez ..) (W0 _ _) (M0 _)
  ·refine hk _ _ (.inr ⟨h.length,0,rfl,by rw[aS _ rfl];rfl,hn0⟩) (W8 _ hn0 (W0 _ _)) (by simp)
 ·refine bF hT he hn hb hz h0 hy h1 rfl hr ?_;have hl:=bI h1;have:=hk (.hs p (w+1) 0 (rows.length+ys.length) true) (h.set p (.row e n (w+1) (rows++ys))) (.inr ⟨p,w+1,by rw[K7],by rw[cr _ _ _ _ _ hl,L7 rfl],h2⟩) (V9 _ h2 (W0 _ _)) (by simp);exact this
theorem aL{T e n by' n0:Nat}{v y:AVal}{rows ys:List AVal}{h:Heap}{k:AVal→Heap→Prop}(hL:IsL h n0 e n rows v)(hn0:n0≤h.length)
  (hk:∀v' h',IsL h' n0 e n (rows++ys) v'→FrN n0 h h'→h.length≤h'.length→k v' h')(he:elmT C.P T=some e:=by simp only[go_sem];try rfl)(hn:szOf C.P e=some n:=by simp only[go_sem];try rfl)(hb:byT C.P e=some by':=by simp only[go_sem];try rfl)
  (hz:(zroT C.P e).map (fun z=>z.cells.length)=some n:=by simp only[go_sem];try rfl)(h0:0<n:=by omega)(hy:elemsOf h n y=some ys:=by simp only[elemsOf, ↓reduceIte];rfl)(hr:rows.length+ys.length≤maxLen∧(rows.length+ys.length)*by'≤140737488355328:=by refine⟨?_,?_⟩<;>simp[maxLen]<;>omega):appK C T T v y h k:=
 wR hL hn0 (.inl rfl) he hn hb hz h0 hy hr hk
end
theorem bZ{P:Program}{h:Heap}{T e n i:Nat}{es:List AVal}{k:IntKind}(he:elmT P T=some e)(hn:szOf P e=some n)(hi:i≤es.length):aslice P h T (.sl n es) none (some (.int k (i:Int))) none=some (.sl n (es.take i)):=by
 simp only[aslice,he,hn,optInt,Option.isNone_none,if_true];rw[L7 ⟨Z4 _,by omega,by omega⟩];simp
theorem cc{P:Program}{h:Heap}{T e n i:Nat}{es:List AVal}{k:IntKind}(he:elmT P T=some e)(hn:szOf P e=some n)(hi:i≤es.length):aslice P h T (.sl n es) (some (.int k (i:Int))) none none=some (.sl n (es.drop i)):=by
 simp only[aslice,he,hn,optInt,Option.isNone_none,if_true];rw[L7 ⟨by omega,by omega,by omega⟩];simp
theorem uw{h h2:Heap}{bs:List Blk}{R:AVal→Heap→Prop}{r0 r:AVal}{b1 b2:Blk}(hb:bs.length=3)(f:FrN (h.length+3) (h++bs) h2)(g:h.length+3≤h2.length)
  (hz:Frz ((h2.set h.length b1).set (h.length+2) b2) h.length r0 r)(hR:R r h):Fin h ((h2.set h.length b1).set (h.length+2) b2) R r0:=by
 have fr:FrN h.length h ((h2.set h.length b1).set (h.length+2) b2):=V9 _ (by omega) (V9 _ (by omega) (Z1 (W8 bs (M0 _) (W0 _ _)) (f.less (by omega))));obtain⟨j,hj⟩:=fr.behind (by simp;omega);rw[hj]at hz ⊢;exact za6 hz hR
end
section
attribute [local irreducible] WP WPl WPix Sat
variable (G:Nat→Option (List AVal))
theorem Fo.sto(f:Fo):∀c∈f.av.cells,c.sto=true:=by
 intro c hc;simp only[Fo.av,AVal.cells,N0,S5,or_false]at hc;rcases hc with rfl|rfl|rfl<;>rfl
theorem Fe.sto(f:Fe):∀c∈f.av.cells,c.sto=true:=by
 intro c hc;simp only[Fe.av,AVal.cells,N0,S5,or_false]at hc;rcases hc with rfl|rfl|rfl|rfl<;>rfl
theorem It.sto(f:It):∀c∈f.av.cells,c.sto=true:=by
 intro c hc;simp only[It.av,AVal.cells,N0,S5,or_false]at hc;rcases hc with rfl|rfl|rfl|rfl|rfl|rfl|rfl|rfl|rfl<;>rfl
theorem Se.sto(f:Se):∀c∈f.av.cells,c.sto=true:=by
 intro c hc;simp only[Se.av,AVal.cells,N0,S5,or_false]at hc;rcases hc with rfl|rfl|rfl<;>rfl
theorem cm{α:Type}{av:α→AVal}{N:Nat}(hc:∀a,Clo N (av a))(l:List α):∀r∈l.map av,Clo N r:=fun r hr=>by obtain⟨a,_,rfl⟩:=M7.1 hr;exact hc a
theorem ff{α:Type}{av:α→AVal}(hs:∀a,∀c∈ (av a).cells,c.sto=true)(l:List α):∀r∈l.map av,∀c∈r.cells,c.sto=true:=fun r hr=>by obtain⟨a,_,rfl⟩:=M7.1 hr;exact hs a
theorem IsL.fin{α:Type}{av:α→AVal}{H:Heap}{n0 e n N p q:Nat}{rows:List AVal}{v:AVal}(h:IsL H n0 e n rows v){l:List α}(hr:rows=l.map av)(hN:N≤n0)(hp:p<n0)(hq:q<n0)(hc:∀N a,Clo N (av a))(hs:∀a,∀c∈ (av a).cells,c.sto=true){b1 b2:Blk}:
  Frz ((H.set p b1).set q b2) N v (.sl n (l.map av)):=by
 subst hr;exact((h.set b1 hp).set b2 hq).frz hN (cm (hc N) l) (ff hs l)
theorem cO{h h2:Heap}{R:AVal→Heap→Prop}{r0 r:AVal}{p q:Nat}{b1 b2:Blk}(f:FrN h.length h h2)(g:h.length≤h2.length)(hp:h.length≤p∧h.length≤q)
  (hz:Frz ((h2.set p b1).set q b2) h.length r0 r)(hR:R r h):Fin h ((h2.set p b1).set q b2) R r0:=by
 have fr:FrN h.length h ((h2.set p b1).set q b2):=V9 _ hp.2 (V9 _ hp.1 f);obtain⟨j,hj⟩:=fr.behind (by simp;omega);rw[hj]at hz ⊢;exact za6 hz hR
theorem bp{H:Heap}{N:Nat}{x:St}{v1 v2 v3 v4:AVal}(h1:Frz H N v1 (.sl 3 (x.fo.map Fo.av)))(h2:Frz H N v2 (.sl 4 (x.fe.map Fe.av)))(h3:Frz H N v3 (.sl 9 (x.it.map It.av)))(h4:Frz H N v4 (.sl 3 (x.se.map Se.av))):
  Frz H N (.agg [.int .i64 x.clock,v1,v2,v3,v4,.int .i64 x.t1,.int .i64 x.t2,.int .i64 x.t3,.int .i64 x.t4]) x.av:=
 FrzL.agg (.cons (.clo _ (.int _ _)) (.cons h1 (.cons h2 (.cons h3 (.cons h4 (.cons (.clo _ (.int _ _)) (.cons (.clo _ (.int _ _)) (.cons (.clo _ (.int _ _)) (.cons (.clo _ (.int _ _)) .nil))))))))) rfl
theorem sI(x:St)(e:Ev)(k1:e.kind=2)(i:Nat)(hp:posF (·.id) x.fo e.a=(i:Int))(hi:i<x.fo.length)(hl:x.fo.length≤100000)(h:Heap):
  Sat (CT G) 94 [x.av,e.av] h (fun r h'=>r=({x with fo:=x.fo.take i++x.fo.drop (i+1)}:St).av∧h'=h):=by
 have hF:=cT G x e.a hl;rw[hp]at hF;have hel:(x.fo.map Fo.av).length=x.fo.length:=L5 ..;have hsA:∀H,aslice Tryz.prog H 36 (.sl 3 (x.fo.map Fo.av)) none (some (.int .i64 (i:Int))) none=some (.sl 3 ((x.fo.map Fo.av).take i)):=fun H=>bZ (by simp only[go_sem];try rfl) (by simp only[go_sem];try rfl) (by omega)
 have hsB:∀H,aslice Tryz.prog H 36 (.sl 3 (x.fo.map Fo.av)) (some (.int .i64 ((i+1:Nat):Int))) none none=some (.sl 3 ((x.fo.map Fo.av).drop (i+1))):=fun H=>cc (i:=i+1) (by simp only[go_sem];try rfl) (by simp only[go_sem];try rfl) (by omega)
 have F:=F3 k1 @hsA @hsB
 skip
 refine sb [.cell 4 41] Tryz.func94 ?_;intro Q hQ;refine wn F ?_;refine kn F (hF _) ?_;refine ay 11 [5] [true,true,true,true,true,false,true,true,true,true,true] (.one 5 [false,false,false,false,false,false,true,true,false,true,true] .fin) (by decide+kernel) (by kernel_rfl) (by decide+kernel) ?_;simp only[aC,aD,az];try refine sq F ?_
 repeat' ((first|refine ai ?_|refine aj ?_|refine am ?_ ?_)<;>try refine sq F ?_)
 all_goals try refine wn F ?_
 refine aL (n0:=h.length+3) (.ez _ _ _ _) (by simp) ?_;intro v1 h1 L1 f1 g1;obtain⟨r1,r2,r3⟩:=f1.r3;simp only[K7,L6,M9]at g1;have F:=F4 F r1 r2 r3;try refine sq F ?_
 repeat' ((first|refine ai ?_|refine aj ?_|refine am ?_ ?_)<;>try refine sq F ?_)
 all_goals try refine wn F ?_
 refine aL L1 (by omega) ?_;intro v2 h2 L2 f2 g2;obtain⟨r1,r2,r3⟩:=(f1.trans f2).r3;have lc:=L2.cel;have ll:=L2.lie;have hz:h.length+2<h2.length:=by omega
 have hn1:h.length<h2.length:=by omega
 have F:=F7 F r1 r2 r3 lc ll @ax;try refine sq F ?_
 repeat' ((first|refine ai ?_|refine aj ?_|refine am ?_ ?_)<;>try refine sq F ?_)
 all_goals try refine wn F ?_
 refine ye hQ F ?_;refine uw (bs:=[_,_,_]) rfl (f1.trans f2) (by omega) ?_ ⟨rfl,rfl⟩;refine bp (x:= {x with fo:=x.fo.take i++x.fo.drop (i+1)}) ?_ (ap (za9 _) _) (ap (zb0 _) _) (ap (za7 _) _);exact L2.fin (by simp) (by omega) (by omega) (by omega) za8 Fo.sto
theorem pF(x:St)(e:Ev)(k1:e.kind=12)(i:Nat)(hp:posF (·.id) x.se e.a=(i:Int))(hi:i<x.se.length)(hl:x.se.length≤100000)(h:Heap):
  Sat (CT G) 94 [x.av,e.av] h (fun r h'=>r=({x with se:=x.se.take i++x.se.drop (i+1)}:St).av∧h'=h):=by
 have hF:=fZ G x e.a hl;rw[hp]at hF;have hel:(x.se.map Se.av).length=x.se.length:=L5 ..;have hsA:∀H,aslice Tryz.prog H 39 (.sl 3 (x.se.map Se.av)) none (some (.int .i64 (i:Int))) none=some (.sl 3 ((x.se.map Se.av).take i)):=fun H=>bZ (by simp only[go_sem];try rfl) (by simp only[go_sem];try rfl) (by omega)
 have hsB:∀H,aslice Tryz.prog H 39 (.sl 3 (x.se.map Se.av)) (some (.int .i64 ((i+1:Nat):Int))) none none=some (.sl 3 ((x.se.map Se.av).drop (i+1))):=fun H=>cc (i:=i+1) (by simp only[go_sem];try rfl) (by simp only[go_sem];try rfl) (by omega)
 have F:=F3 k1 @hsA @hsB
 skip
 refine sb [.cell 4 41] Tryz.func94 ?_;intro Q hQ;refine wn F ?_;refine kn F (hF _) ?_;refine ay 11 [5] [true,true,true,true,true,false,true,true,true,true,true] (.one 5 [false,false,false,false,false,false,true,true,false,true,true] .fin) (by decide+kernel) (by kernel_rfl) (by decide+kernel) ?_;simp only[aC,aD,az];try refine sq F ?_
 repeat' ((first|refine ai ?_|refine aj ?_|refine am ?_ ?_)<;>try refine sq F ?_)
 all_goals try refine wn F ?_
 refine aL (n0:=h.length+3) (.ez _ _ _ _) (by simp) ?_;intro v1 h1 L1 f1 g1;obtain⟨r1,r2,r3⟩:=f1.r3;simp only[K7,L6,M9]at g1;have F:=F4 F r1 r2 r3;try refine sq F ?_
 repeat' ((first|refine ai ?_|refine aj ?_|refine am ?_ ?_)<;>try refine sq F ?_)
 all_goals try refine wn F ?_
 refine aL L1 (by omega) ?_;intro v2 h2 L2 f2 g2;obtain⟨r1,r2,r3⟩:=(f1.trans f2).r3;have lc:=L2.cel;have ll:=L2.lie;have hz:h.length+2<h2.length:=by omega
 have hn1:h.length<h2.length:=by omega
 have F:=F7 F r1 r2 r3 lc ll @ax;try refine sq F ?_
 repeat' ((first|refine ai ?_|refine aj ?_|refine am ?_ ?_)<;>try refine sq F ?_)
 all_goals try refine wn F ?_
 refine ye hQ F ?_;refine uw (bs:=[_,_,_]) rfl (f1.trans f2) (by omega) ?_ ⟨rfl,rfl⟩;refine bp (x:= {x with se:=x.se.take i++x.se.drop (i+1)}) (ap (za8 _) _) (ap (za9 _) _) (ap (zb0 _) _) ?_;exact L2.fin (by simp) (by omega) (by omega) (by omega) za7 Se.sto
theorem sJ(x:St)(e:Ev)(k1:e.kind=4)(i:Nat)(hp:posF (·.id) x.fe e.a=(i:Int))(hi:i<x.fe.length)(hl:x.fe.length≤100000)(hl3:x.it.length≤100000)(h:Heap):
  Sat (CT G) 94 [x.av,e.av] h (fun r h'=>r=({x with fe:=x.fe.take i++x.fe.drop (i+1),it:=x.it.filter fun t=>decide (t.feed≠e.a)}:St).av∧h'=h):=by
 have hF:=dq G x e.a hl;rw[hp]at hF;have hel:(x.fe.map Fe.av).length=x.fe.length:=L5 ..;have hsA:∀H,aslice Tryz.prog H 37 (.sl 4 (x.fe.map Fe.av)) none (some (.int .i64 (i:Int))) none=some (.sl 4 ((x.fe.map Fe.av).take i)):=fun H=>bZ (by simp only[go_sem];try rfl) (by simp only[go_sem];try rfl) (by omega)
 have hsB:∀H,aslice Tryz.prog H 37 (.sl 4 (x.fe.map Fe.av)) (some (.int .i64 ((i+1:Nat):Int))) none none=some (.sl 4 ((x.fe.map Fe.av).drop (i+1))):=fun H=>cc (i:=i+1) (by simp only[go_sem];try rfl) (by simp only[go_sem];try rfl) (by omega)
 have F:=F3 k1 @hsA @hsB
 skip
 refine sb [.cell 4 41] Tryz.func94 ?_;intro Q hQ;refine wn F ?_;refine kn F (hF _) ?_;refine ay 11 [5] [true,true,true,true,true,false,true,true,true,true,true] (.one 5 [false,false,false,false,false,false,true,true,false,true,true] .fin) (by decide+kernel) (by kernel_rfl) (by decide+kernel) ?_;simp only[aC,aD,az];try refine sq F ?_
 repeat' ((first|refine ai ?_|refine aj ?_|refine am ?_ ?_)<;>try refine sq F ?_)
 all_goals try refine wn F ?_
 refine aL (n0:=h.length+3) (.ez _ _ _ _) (by simp) ?_;intro v1 h1 L1 f1 g1;obtain⟨r1,r2,r3⟩:=f1.r3;simp only[K7,L6,M9]at g1;have F:=F4 F r1 r2 r3;try refine sq F ?_
 repeat' ((first|refine ai ?_|refine aj ?_|refine am ?_ ?_)<;>try refine sq F ?_)
 all_goals try refine wn F ?_
 refine aL L1 (by omega) ?_;intro v2 h2 L2 f2 g2;obtain⟨r1,r2,r3⟩:=(f1.trans f2).r3;have lc:=L2.cel;have ll:=L2.lie;have hz:h.length+2<h2.length:=by omega
 have hn1:h.length<h2.length:=by omega
 have F:=F7 F r1 r2 r3 lc ll @ax;try refine sq F ?_
 repeat' ((first|refine ai ?_|refine aj ?_|refine am ?_ ?_)<;>try refine sq F ?_)
 all_goals try refine wn F ?_
 have r2':=r2;have r3':=r3;have g3:h.length+3≤h2.length:=by omega
 have L3:=L2.set (.row 41 9 0 [.agg [.int .i64 x.clock,.sl 3 (x.fo.map Fo.av),v2,.sl 9 (x.it.map It.av),.sl 3 (x.se.map Se.av),.int .i64 x.t1,.int .i64 x.t2,.int .i64 x.t3,.int .i64 x.t4]]) (q:=h.length) (by omega);have f3:FrN (h.length+3) (h++[_,_,_]) h2:=f1.trans f2;have r1b:getRow (h2.set h.length (.row 41 9 0 [.agg [.int .i64 x.clock,.sl 3 (x.fo.map Fo.av),v2,.sl 9 (x.it.map It.av),.sl 3 (x.se.map Se.av),.int .i64 x.t1,.int .i64 x.t2,.int .i64 x.t3,.int .i64 x.t4]])) h.length 0=some (41,9,[.agg [.int .i64 x.clock,.sl 3 (x.fo.map Fo.av),v2,.sl 9 (x.it.map It.av),.sl 3 (x.se.map Se.av),.int .i64 x.t1,.int .i64 x.t2,.int .i64 x.t3,.int .i64 x.t4]]):=by rw[cr _ _ _ _ _ hn1,L7 rfl]
 have r2b:getRow (h2.set h.length (.row 41 9 0 [.agg [.int .i64 x.clock,.sl 3 (x.fo.map Fo.av),v2,.sl 9 (x.it.map It.av),.sl 3 (x.se.map Se.av),.int .i64 x.t1,.int .i64 x.t2,.int .i64 x.t3,.int .i64 x.t4]])) (h.length+1) 0=_:=(bc _ _ (by omega)).trans r2;have r3b:getRow (h2.set h.length (.row 41 9 0 [.agg [.int .i64 x.clock,.sl 3 (x.fo.map Fo.av),v2,.sl 9 (x.it.map It.av),.sl 3 (x.se.map Se.av),.int .i64 x.t1,.int .i64 x.t2,.int .i64 x.t3,.int .i64 x.t4]])) (h.length+2) 0=_:=(bc _ _ (by omega)).trans r3;have frb:FrN h.length h (h2.set h.length (.row 41 9 0 [.agg [.int .i64 x.clock,.sl 3 (x.fo.map Fo.av),v2,.sl 9 (x.it.map It.av),.sl 3 (x.se.map Se.av),.int .i64 x.t1,.int .i64 x.t2,.int .i64 x.t3,.int .i64 x.t4]])):=V9 _ (M0 _) (Z1 (W8 _ (M0 _) (W0 _ _)) (f3.less (by omega)));have hlb:(h2.set h.length (.row 41 9 0 [.agg [.int .i64 x.clock,.sl 3 (x.fo.map Fo.av),v2,.sl 9 (x.it.map It.av),.sl 3 (x.se.map Se.av),.int .i64 x.t1,.int .i64 x.t2,.int .i64 x.t3,.int .i64 x.t4]])).length=h2.length:=by simp
 have him:(x.it.map It.av).length=x.it.length:=L5 ..;generalize h2.set h.length (.row 41 9 0 [.agg [.int .i64 x.clock,.sl 3 (x.fo.map Fo.av),v2,.sl 9 (x.it.map It.av),.sl 3 (x.se.map Se.av),.int .i64 x.t1,.int .i64 x.t2,.int .i64 x.t3,.int .i64 x.t4]])=hb at*;refine lm (fun nL tL hL=>∃(k p w:Nat) (hh:Heap) (acc:List It),x.it.length-k=nL∧hh=hL∧tL 2=.hp h.length 0 0 0∧tL 3=.hp (h.length+1) 0 0 0∧tL 4=.hp (h.length+2) 0 0 0∧tL 7=.hs p w 0 acc.length true∧tL 8=.int .i64 k∧k≤x.it.length∧acc.length≤k∧acc++(x.it.drop k).filter (fun t=>decide (t.feed≠e.a))=x.it.filter (fun t=>decide (t.feed≠e.a))∧FrN hb.length hb hh∧getRow hh p w=some (86,9,acc.map It.av)∧hb.length≤p) ((fun(k p w:Nat) (hh:Heap) (acc:List It)=>(x.it.length-k:Nat)) (0) (hb.length) (0) (hb++[.row 86 9 0 []]) ([])) ?_ ?_
 ·refine⟨_,_,W9 7 86 9 (by simp) (by omega) (by exact zq F),⟨0,hb.length,0,hb++[.row 86 9 0 []],[],rfl,aw,?_,?_,?_,?_,?_,by omega,by simp,by simp,W8 _ (M0 _) (W0 _ _),by rw[aS _ rfl];rfl,M0 _⟩⟩;all_goals try exact zZz F
 rintro _ s2 h' ⟨k,p,w,hh,acc,rfl,rfl,e2,e3,e4,e7,e8,hk,hal,hac,hfr,hg,hpb⟩ K2 hK2;simp only[ah,ao,Nat.reduceEqDiff, ↓reduceIte]at e2 e3 e4 e7 e8;have F:=F6 F e2 e3 e4 e7 e8;have q1:=(hfr.row (p:=h.length) (w:=0) (by omega)).trans r1b;have q2:=(hfr.row (p:=h.length+1) (w:=0) (by omega)).trans r2b;have q3:=(hfr.row (p:=h.length+2) (w:=0) (by omega)).trans r3b;have hgl:=bI hg;have hgm:(acc.map It.av).length=acc.length:=L5 ..;have hh1:h.length<hh.length:=by omega
 have hh2:h.length+2<hh.length:=by omega
 have F:=F7 F q1 q2 q3 hg him hgm;try refine sq F ?_
 refine wn F ?_;refine cq F (fun c1=>?_) (fun c1=>?_)<;>(try exact c1.elim)<;>(refine wn F ?_)
 ·have c2:k<x.it.length:=by omega
  obtain⟨y,hy,_⟩:=ac c2;rw[aB hy,V8]at hac;have F:=F3 F c2 hy;refine vY (by decide+kernel) (FT G) ?_;refine sq F ?_;refine wn F ?_;refine cq F (fun c3=>?_) (fun c3=>?_)<;>(try exact c3.elim)<;>(refine wn F ?_)
  ·rw[L7 (by simpa using c3)]at hac;refine aq F ?_;(try refine sq F ?_);refine wn F ?_;refine hK2 _ _ _ (L8 ⟨k+1,p,w+1,hh.set p (.row 86 9 (w+1) ((acc++[y]).map It.av)),acc++[y],rfl,by simp[It.av],?_,?_,?_,?_,?_,by omega,by simp;omega,by rw[← hac];simp,V9 _ hpb hfr,by rw[cr _ _ _ _ _ hgl,L7 rfl],hpb⟩) (by omega);all_goals try exact zZz F
  ·rw[K4 (by simpa using c3)]at hac;refine hK2 _ _ _ (L8 ⟨k+1,p,w,hh,acc,rfl,rfl,?_,?_,?_,?_,?_,by omega,by omega,hac,hfr,hg,hpb⟩) (by omega);all_goals try exact zZz F
 ·rw[aF (by omega),List.filter_nil,O1]at hac;have L4:=L3.old hfr;have lc:=L4.cel;have ll:=L4.lie;have hfin:IsL hh (h.length+3) 86 9 (acc.map It.av) (.hs p w 0 acc.length true):=.inr ⟨p,w,by rw[hgm],hg,by omega⟩;have F:=F2 (F9 k1 @hsA @hsB r1 r2 r3 e2 e3 e4) (F2 (F9 e7 e8 q1 q2 q3 hg him hgm lc) (F2 ll @ax));try refine sq F ?_
  refine wn F ?_;refine ye hQ F ?_;rw[← hac];refine cO (frb.trans (hfr.less (by omega))) (by omega) (by omega) ?_ ⟨rfl,rfl⟩;refine bp (x:= {x with fe:=x.fe.take i++x.fe.drop (i+1),it:=acc}) (ap (za8 _) _) ?_ ?_ (ap (za7 _) _)
  ·exact L4.fin (by simp) (by omega) (by omega) (by omega) za9 Fe.sto
  ·exact hfin.fin rfl (by omega) (by omega) (by omega) zb0 It.sto
end
section
attribute [local irreducible] WP WPl WPix Sat
def insI{α:Type}(key:α→Int)(l:List α)(id:Int):Nat:=(l.takeWhile fun a=>decide (key a<id)).length
theorem cP{α:Type}{key:α→Int}{id:Int}:∀{l:List α} {k:Nat},(∀b∈l.take k,key b<id)→k≤l.length→(∀b,l[k]? =some b→¬key b<id)→insI key l id=k
 | [],k,_,h,_=>by simp at h;subst h;rfl
 |a::l,0,_,_,h2=>by
  have:=h2 a rfl;unfold insI;rw[Z8,N8 this];rfl
 |a::l,k+1,h1,h,h2=>by
  have ha:=h1 a (by simp);have ih:=cP (key:=key) (id:=id) (l:=l) (k:=k) (fun b hb=>h1 b (by simp[hb])) (by simpa using h) (fun b hb=>h2 b (by simpa using hb));unfold insI at ih ⊢;rw[Z8,N7 ha];simp[ih]
theorem FrzRs.app{H:Heap}{N:Nat}{a b c d:List AVal}(z:FrzRs H N a b)(w:FrzRs H N c d):FrzRs H N (a++c) (b++d):=by
 induction z with
 |nil=>exact w
 |cons r _ ih=>exact .cons r ih
theorem FrzRs.map{α:Type}{av:α→AVal}{H:Heap}{N:Nat}(hc:∀N a,Clo N (av a))(hs:∀a,∀c∈ (av a).cells,c.sto=true)(l:List α):FrzRs H N (l.map av) (l.map av):=by
 induction l with
 |nil=>exact .nil
 |cons a l ih=>exact .cons (FrzR.clo (hc N a) (hs a)) ih
theorem IsL.fin2{H:Heap}{n0 e n N p q:Nat}{rows es:List AVal}{v:AVal}(h:IsL H n0 e n rows v)(hN:N≤n0)(hp:p<n0)(hq:q<n0){b1 b2:Blk}(hz:FrzRs ((H.set p b1).set q b2) N rows es):Frz ((H.set p b1).set q b2) N v (.sl n es):=by
 rcases(h.set b1 hp).set b2 hq with⟨rfl,rfl⟩| ⟨q,w,rfl,h1,h2⟩
 ·cases hz;exact .ezs _
 ·exact hz.hs h1 rfl (by omega)
variable (G:Nat→Option (List AVal))
theorem sK(x:St)(e:Ev)(k1:e.kind=1)(hl:x.fo.length≤100000)(h:Heap):
  Sat (CT G) 93 [x.av,e.av] h (fun r h'=>r=({x with fo:=x.fo.take (insI (·.id) x.fo e.a)++(⟨e.a,e.b,e.s⟩:Fo)::x.fo.drop (insI (·.id) x.fo e.a),t1:=topI x.t1 e.a}:St).av∧h'=h):=by
 have hel:(x.fo.map Fo.av).length=x.fo.length:=L5 ..;have dt:∀i:Decidable True, @decide True i=true:=fun i=>N7 trivial
 have F:=F2 k1 hel;refine sb [.cell 4 41] Tryz.func93 ?_;intro Q hQ;refine wk F ?_;refine lm (fun nL tL hL=>∃(k:Nat),x.fo.length-k=nL∧h++[.row 41 9 0 [x.av],.row 34 7 0 [e.av],.row 41 9 0 [.agg [.int .i64 0,.nil (.slice none 0 0),.nil (.slice none 0 0),.nil (.slice none 0 0),.nil (.slice none 0 0),.int .i64 0,.int .i64 0,.int .i64 0,.int .i64 0]]]=hL∧tL 2=.hp h.length 0 0 0∧tL 3=.hp (h.length+1) 0 0 0∧tL 4=.hp (h.length+2) 0 0 0∧tL 5=.int .i64 k∧k≤x.fo.length∧(∀b∈x.fo.take k,b.id<e.a)) ((fun(k:Nat)=>(x.fo.length-k:Nat)) (0)) ?_ ?_
 ·refine L8 ⟨0,rfl,by simp[St.av,Ev.av,k1],?_,?_,?_,?_,by omega,by simp⟩;all_goals try exact zZz F
 rintro _ s2 h' ⟨k,rfl,rfl,e2,e3,e4,e5,hk,hlt⟩ K2 hK2;simp only[ah,ao,Nat.reduceEqDiff, ↓reduceIte]at e2 e3 e4 e5;have F:=F5 F e2 e3 e4 e5;have hsA:∀H,aslice Tryz.prog H 36 (.sl 3 (x.fo.map Fo.av)) none (some (.int .i64 (k:Int))) none=some (.sl 3 ((x.fo.map Fo.av).take k)):=fun H=>bZ (by simp only[go_sem];try rfl) (by simp only[go_sem];try rfl) (by omega)
 have hsB:∀H,aslice Tryz.prog H 36 (.sl 3 (x.fo.map Fo.av)) (some (.int .i64 (k:Int))) none none=some (.sl 3 ((x.fo.map Fo.av).drop k)):=fun H=>cc (by simp only[go_sem];try rfl) (by simp only[go_sem];try rfl) (by omega)
 by_cases c1:k<x.fo.length
 ·obtain⟨b,hb,_⟩:=ac c1;by_cases c2:b.id<e.a
  ·have d2:decide (b.id<e.a)=true:=N7 c2;have F:=F5 F hb c1 dt d2;(try refine sq F ?_);refine wk F ?_;have hlt1:∀b∈x.fo.take (k+1),b.id<e.a:=by
    rw[O7,hb];intro z hz;simp at hz;rcases hz with hz|rfl
    ·exact hlt z hz
    ·exact c2
   refine hK2 _ _ _ (L8 ⟨k+1,rfl,by simp[St.av,Ev.av,k1],?_,?_,?_,?_,by omega,hlt1⟩) (by omega);all_goals try exact zZz F
  ·have d2:decide (b.id<e.a)=false:=N8 c2;have hins:insI (·.id) x.fo e.a=k:=cP hlt hk fun z hz=>by rw[hb]at hz;cases hz;exact c2
   have F:=F7 F hb c1 dt d2 @hsA @hsB;(try refine sq F ?_);refine wk F ?_;refine aL (n0:=h.length+3) (.ez _ _ _ _) (by simp) ?_;intro v0 h0 L0 f0 g0;obtain⟨r1,r2,r3⟩:=f0.r3;simp only[K7,L6,M9]at g0;have F:=F4 F r1 r2 r3;try refine sq F ?_
   skip
   refine wn F ?_;refine ay 16 [5,14] [true,true,true,true,true,false,true,true,true,true,true,true,true,true,false,true] (.one 5 [false,false,false,false,false,false,true,true,true,true,true,true,false,true] (.one 14 [] .fin)) (by decide+kernel) (by kernel_rfl) (by decide+kernel) ?_;simp only[aC,aD,az];(try refine sq F ?_);repeat' ((first|refine ai ?_|refine aj ?_|refine am ?_ ?_)<;>try refine sq F ?_)
   (all_goals try refine wn F ?_);refine aL (n0:=h0.length) (.ez _ _ _ _) (M0 _) ?_;intro v1 h1 L1 f1 g1;obtain⟨r1,r2,r3⟩:=(f0.trans (f1.less (by omega))).r3;have F:=F4 F r1 r2 r3;(try refine sq F ?_);refine⟨?_,?_⟩
   ·(refine vq F ?_;try refine sq F ?_)<;>trivial
   repeat' ((first|refine ai ?_|refine aj ?_|refine am ?_ ?_)<;>try refine sq F ?_)
   (all_goals try refine wn F ?_);refine aL L1 (by omega) ?_;intro v2 h2 L2 f2 g2;obtain⟨r1,r2,r3⟩:=(f0.trans ((f1.trans f2).less (by omega))).r3;have E0:=(L0.old (f1.trans f2)).elems;have F:=F4 F r1 r2 r3;(try refine sq F ?_);repeat' ((first|refine ai ?_|refine aj ?_|refine am ?_ ?_)<;>try refine sq F ?_)
   (all_goals try refine wn F ?_);refine aL L2 (by omega) ?_ (hy:=E0);intro v3 h3 L3 f3 g3;obtain⟨r1,r2,r3⟩:=(f0.trans (((f1.trans f2).trans f3).less (by omega))).r3;have lc:=L3.cel;have ll:=L3.lie;have hz:h.length+2<h3.length:=(by omega);have hn1:h.length<h3.length:=(by omega);have F:=F7 F r1 r2 r3 lc ll @ax;(try refine sq F ?_);repeat' ((first|refine ai ?_|refine aj ?_|refine am ?_ ?_)<;>try refine sq F ?_)
   all_goals try refine wn F ?_
   skip
   refine kq F (cH G x.t1 e.a _) ?_;refine ye hQ F ?_;refine cO (Z1 (W8 _ (M0 _) (W0 _ _)) ((f0.trans (((f1.trans f2).trans f3).less (by omega))).less (by omega))) (by omega) (by omega) ?_ ⟨by rw[hins],rfl⟩;refine bp (x:= {x with fo:=x.fo.take k++(⟨e.a,e.b,e.s⟩:Fo)::x.fo.drop k,t1:=topI x.t1 e.a}) ?_ (ap (za9 _) _) (ap (zb0 _) _) (ap (za7 _) _);refine L3.fin2 (es:=(x.fo.take k++(⟨e.a,e.b,e.s⟩:Fo)::x.fo.drop k).map Fo.av) (by omega) (by omega) (by omega) ?_;rw[P2,N4,show(x.fo.take k).map Fo.av++Fo.av ⟨e.a,e.b,e.s⟩::(x.fo.drop k).map Fo.av=(x.fo.take k).map Fo.av++[Fo.av ⟨e.a,e.b,e.s⟩]++(x.fo.drop k).map Fo.av by simp, ← Z9, ← Y7,O5];refine((FrzRs.map za8 Fo.sto _).app (.cons ?_ .nil)).app (FrzRs.map za8 Fo.sto _);exact FrzR.clo (za8 _ ⟨e.a,e.b,e.s⟩) (Fo.sto ⟨e.a,e.b,e.s⟩)
 ·have d1:decide (k<x.fo.length)=false:=N8 c1;have hins:insI (·.id) x.fo e.a=k:=cP hlt hk fun z hz=>by rw[P5 (by omega)]at hz;cases hz
  have F:=F4 F d1 @hsA @hsB;try refine sq F ?_
  refine wk F ?_;refine aL (n0:=h.length+3) (.ez _ _ _ _) (by simp) ?_;intro v0 h0 L0 f0 g0;obtain⟨r1,r2,r3⟩:=f0.r3;simp only[K7,L6,M9]at g0;have F:=F4 F r1 r2 r3;try refine sq F ?_
  skip
  refine wn F ?_;refine ay 16 [5,14] [true,true,true,true,true,false,true,true,true,true,true,true,true,true,false,true] (.one 5 [false,false,false,false,false,false,true,true,true,true,true,true,false,true] (.one 14 [] .fin)) (by decide+kernel) (by kernel_rfl) (by decide+kernel) ?_;simp only[aC,aD,az];try refine sq F ?_
  repeat' ((first|refine ai ?_|refine aj ?_|refine am ?_ ?_)<;>try refine sq F ?_)
  all_goals try refine wn F ?_
  refine aL (n0:=h0.length) (.ez _ _ _ _) (M0 _) ?_;intro v1 h1 L1 f1 g1;obtain⟨r1,r2,r3⟩:=(f0.trans (f1.less (by omega))).r3;have F:=F4 F r1 r2 r3;try refine sq F ?_
  refine⟨?_,?_⟩
  ·(refine vq F ?_;try refine sq F ?_)<;>trivial
  repeat' ((first|refine ai ?_|refine aj ?_|refine am ?_ ?_)<;>try refine sq F ?_)
  all_goals try refine wn F ?_
  refine aL L1 (by omega) ?_;intro v2 h2 L2 f2 g2;obtain⟨r1,r2,r3⟩:=(f0.trans ((f1.trans f2).less (by omega))).r3;have E0:=(L0.old (f1.trans f2)).elems;have F:=F4 F r1 r2 r3;try refine sq F ?_
  repeat' ((first|refine ai ?_|refine aj ?_|refine am ?_ ?_)<;>try refine sq F ?_)
  all_goals try refine wn F ?_
  refine aL L2 (by omega) ?_ (hy:=E0);intro v3 h3 L3 f3 g3;obtain⟨r1,r2,r3⟩:=(f0.trans (((f1.trans f2).trans f3).less (by omega))).r3;have lc:=L3.cel;have ll:=L3.lie;have hz:h.length+2<h3.length:=by omega
  have hn1:h.length<h3.length:=by omega
  have F:=F7 F r1 r2 r3 lc ll @ax;try refine sq F ?_
  repeat' ((first|refine ai ?_|refine aj ?_|refine am ?_ ?_)<;>try refine sq F ?_)
  all_goals try refine wn F ?_
  skip
  refine kq F (cH G x.t1 e.a _) ?_;refine ye hQ F ?_;refine cO (Z1 (W8 _ (M0 _) (W0 _ _)) ((f0.trans (((f1.trans f2).trans f3).less (by omega))).less (by omega))) (by omega) (by omega) ?_ ⟨by rw[hins],rfl⟩;refine bp (x:= {x with fo:=x.fo.take k++(⟨e.a,e.b,e.s⟩:Fo)::x.fo.drop k,t1:=topI x.t1 e.a}) ?_ (ap (za9 _) _) (ap (zb0 _) _) (ap (za7 _) _);refine L3.fin2 (es:=(x.fo.take k++(⟨e.a,e.b,e.s⟩:Fo)::x.fo.drop k).map Fo.av) (by omega) (by omega) (by omega) ?_;rw[P2,N4,show(x.fo.take k).map Fo.av++Fo.av ⟨e.a,e.b,e.s⟩::(x.fo.drop k).map Fo.av=(x.fo.take k).map Fo.av++[Fo.av ⟨e.a,e.b,e.s⟩]++(x.fo.drop k).map Fo.av by simp, ← Z9, ← Y7,O5];refine((FrzRs.map za8 Fo.sto _).app (.cons ?_ .nil)).app (FrzRs.map za8 Fo.sto _);exact FrzR.clo (za8 _ ⟨e.a,e.b,e.s⟩) (Fo.sto ⟨e.a,e.b,e.s⟩)
theorem sL(x:St)(e:Ev)(k1:e.kind=3)(hl:x.fe.length≤100000)(h:Heap):
  Sat (CT G) 93 [x.av,e.av] h (fun r h'=>r=({x with fe:=x.fe.take (insI (·.id) x.fe e.a)++(⟨e.a,e.b,e.s,e.t⟩:Fe)::x.fe.drop (insI (·.id) x.fe e.a),t2:=topI x.t2 e.a}:St).av∧h'=h):=by
 have hel:(x.fe.map Fe.av).length=x.fe.length:=L5 ..;have dt:∀i:Decidable True, @decide True i=true:=fun i=>N7 trivial
 have F:=F2 k1 hel;refine sb [.cell 4 41] Tryz.func93 ?_;intro Q hQ;refine wk F ?_;refine lm (fun nL tL hL=>∃(k:Nat),x.fe.length-k=nL∧h++[.row 41 9 0 [x.av],.row 34 7 0 [e.av],.row 41 9 0 [.agg [.int .i64 0,.nil (.slice none 0 0),.nil (.slice none 0 0),.nil (.slice none 0 0),.nil (.slice none 0 0),.int .i64 0,.int .i64 0,.int .i64 0,.int .i64 0]]]=hL∧tL 2=.hp h.length 0 0 0∧tL 3=.hp (h.length+1) 0 0 0∧tL 4=.hp (h.length+2) 0 0 0∧tL 5=.int .i64 k∧k≤x.fe.length∧(∀b∈x.fe.take k,b.id<e.a)) ((fun(k:Nat)=>(x.fe.length-k:Nat)) (0)) ?_ ?_
 ·refine L8 ⟨0,rfl,by simp[St.av,Ev.av,k1],?_,?_,?_,?_,by omega,by simp⟩;all_goals try exact zZz F
 rintro _ s2 h' ⟨k,rfl,rfl,e2,e3,e4,e5,hk,hlt⟩ K2 hK2;simp only[ah,ao,Nat.reduceEqDiff, ↓reduceIte]at e2 e3 e4 e5;have F:=F5 F e2 e3 e4 e5;have hsA:∀H,aslice Tryz.prog H 37 (.sl 4 (x.fe.map Fe.av)) none (some (.int .i64 (k:Int))) none=some (.sl 4 ((x.fe.map Fe.av).take k)):=fun H=>bZ (by simp only[go_sem];try rfl) (by simp only[go_sem];try rfl) (by omega)
 have hsB:∀H,aslice Tryz.prog H 37 (.sl 4 (x.fe.map Fe.av)) (some (.int .i64 (k:Int))) none none=some (.sl 4 ((x.fe.map Fe.av).drop k)):=fun H=>cc (by simp only[go_sem];try rfl) (by simp only[go_sem];try rfl) (by omega)
 by_cases c1:k<x.fe.length
 ·obtain⟨b,hb,_⟩:=ac c1;by_cases c2:b.id<e.a
  ·have d2:decide (b.id<e.a)=true:=N7 c2;have F:=F5 F hb c1 dt d2;(try refine sq F ?_);refine wk F ?_;have hlt1:∀b∈x.fe.take (k+1),b.id<e.a:=by
    rw[O7,hb];intro z hz;simp at hz;rcases hz with hz|rfl
    ·exact hlt z hz
    ·exact c2
   refine hK2 _ _ _ (L8 ⟨k+1,rfl,by simp[St.av,Ev.av,k1],?_,?_,?_,?_,by omega,hlt1⟩) (by omega);all_goals try exact zZz F
  ·have d2:decide (b.id<e.a)=false:=N8 c2;have hins:insI (·.id) x.fe e.a=k:=cP hlt hk fun z hz=>by rw[hb]at hz;cases hz;exact c2
   have F:=F7 F hb c1 dt d2 @hsA @hsB;(try refine sq F ?_);refine wk F ?_;refine aL (n0:=h.length+3) (.ez _ _ _ _) (by simp) ?_;intro v0 h0 L0 f0 g0;obtain⟨r1,r2,r3⟩:=f0.r3;simp only[K7,L6,M9]at g0;have F:=F4 F r1 r2 r3;try refine sq F ?_
   skip
   refine wn F ?_;refine ay 18 [5,16] [true,true,true,true,true,false,true,true,true,true,true,true,true,true,true,true,false,true] (.one 5 [false,false,false,false,false,false,true,true,true,true,true,true,true,true,false,true] (.one 16 [] .fin)) (by decide+kernel) (by kernel_rfl) (by decide+kernel) ?_;simp only[aC,aD,az];(try refine sq F ?_);repeat' ((first|refine ai ?_|refine aj ?_|refine am ?_ ?_)<;>try refine sq F ?_)
   (all_goals try refine wn F ?_);refine aL (n0:=h0.length) (.ez _ _ _ _) (M0 _) ?_;intro v1 h1 L1 f1 g1;obtain⟨r1,r2,r3⟩:=(f0.trans (f1.less (by omega))).r3;have F:=F4 F r1 r2 r3;(try refine sq F ?_);refine⟨?_,?_⟩
   ·(refine vq F ?_;try refine sq F ?_)<;>trivial
   repeat' ((first|refine ai ?_|refine aj ?_|refine am ?_ ?_)<;>try refine sq F ?_)
   (all_goals try refine wn F ?_);refine aL L1 (by omega) ?_;intro v2 h2 L2 f2 g2;obtain⟨r1,r2,r3⟩:=(f0.trans ((f1.trans f2).less (by omega))).r3;have E0:=(L0.old (f1.trans f2)).elems;have F:=F4 F r1 r2 r3;(try refine sq F ?_);repeat' ((first|refine ai ?_|refine aj ?_|refine am ?_ ?_)<;>try refine sq F ?_)
   (all_goals try refine wn F ?_);refine aL L2 (by omega) ?_ (hy:=E0);intro v3 h3 L3 f3 g3;obtain⟨r1,r2,r3⟩:=(f0.trans (((f1.trans f2).trans f3).less (by omega))).r3;have lc:=L3.cel;have ll:=L3.lie;have hz:h.length+2<h3.length:=(by omega);have hn1:h.length<h3.length:=(by omega);have F:=F7 F r1 r2 r3 lc ll @ax;(try refine sq F ?_);repeat' ((first|refine ai ?_|refine aj ?_|refine am ?_ ?_)<;>try refine sq F ?_)
   all_goals try refine wn F ?_
   skip
   refine kq F (cH G x.t2 e.a _) ?_;refine ye hQ F ?_;refine cO (Z1 (W8 _ (M0 _) (W0 _ _)) ((f0.trans (((f1.trans f2).trans f3).less (by omega))).less (by omega))) (by omega) (by omega) ?_ ⟨by rw[hins],rfl⟩;refine bp (x:= {x with fe:=x.fe.take k++(⟨e.a,e.b,e.s,e.t⟩:Fe)::x.fe.drop k,t2:=topI x.t2 e.a}) (ap (za8 _) _) ?_ (ap (zb0 _) _) (ap (za7 _) _);refine L3.fin2 (es:=(x.fe.take k++(⟨e.a,e.b,e.s,e.t⟩:Fe)::x.fe.drop k).map Fe.av) (by omega) (by omega) (by omega) ?_;rw[P2,N4,show(x.fe.take k).map Fe.av++Fe.av ⟨e.a,e.b,e.s,e.t⟩::(x.fe.drop k).map Fe.av=(x.fe.take k).map Fe.av++[Fe.av ⟨e.a,e.b,e.s,e.t⟩]++(x.fe.drop k).map Fe.av by simp, ← Z9, ← Y7,O5];refine((FrzRs.map za9 Fe.sto _).app (.cons ?_ .nil)).app (FrzRs.map za9 Fe.sto _);exact FrzR.clo (za9 _ ⟨e.a,e.b,e.s,e.t⟩) (Fe.sto ⟨e.a,e.b,e.s,e.t⟩)
 ·have d1:decide (k<x.fe.length)=false:=N8 c1;have hins:insI (·.id) x.fe e.a=k:=cP hlt hk fun z hz=>by rw[P5 (by omega)]at hz;cases hz
  have F:=F4 F d1 @hsA @hsB;try refine sq F ?_
  refine wk F ?_;refine aL (n0:=h.length+3) (.ez _ _ _ _) (by simp) ?_;intro v0 h0 L0 f0 g0;obtain⟨r1,r2,r3⟩:=f0.r3;simp only[K7,L6,M9]at g0;have F:=F4 F r1 r2 r3;try refine sq F ?_
  skip
  refine wn F ?_;refine ay 18 [5,16] [true,true,true,true,true,false,true,true,true,true,true,true,true,true,true,true,false,true] (.one 5 [false,false,false,false,false,false,true,true,true,true,true,true,true,true,false,true] (.one 16 [] .fin)) (by decide+kernel) (by kernel_rfl) (by decide+kernel) ?_;simp only[aC,aD,az];try refine sq F ?_
  repeat' ((first|refine ai ?_|refine aj ?_|refine am ?_ ?_)<;>try refine sq F ?_)
  all_goals try refine wn F ?_
  refine aL (n0:=h0.length) (.ez _ _ _ _) (M0 _) ?_;intro v1 h1 L1 f1 g1;obtain⟨r1,r2,r3⟩:=(f0.trans (f1.less (by omega))).r3;have F:=F4 F r1 r2 r3;try refine sq F ?_
  refine⟨?_,?_⟩
  ·(refine vq F ?_;try refine sq F ?_)<;>trivial
  repeat' ((first|refine ai ?_|refine aj ?_|refine am ?_ ?_)<;>try refine sq F ?_)
  all_goals try refine wn F ?_
  refine aL L1 (by omega) ?_;intro v2 h2 L2 f2 g2;obtain⟨r1,r2,r3⟩:=(f0.trans ((f1.trans f2).less (by omega))).r3;have E0:=(L0.old (f1.trans f2)).elems;have F:=F4 F r1 r2 r3;try refine sq F ?_
  repeat' ((first|refine ai ?_|refine aj ?_|refine am ?_ ?_)<;>try refine sq F ?_)
  all_goals try refine wn F ?_
  refine aL L2 (by omega) ?_ (hy:=E0);intro v3 h3 L3 f3 g3;obtain⟨r1,r2,r3⟩:=(f0.trans (((f1.trans f2).trans f3).less (by omega))).r3;have lc:=L3.cel;have ll:=L3.lie;have hz:h.length+2<h3.length:=by omega
  have hn1:h.length<h3.length:=by omega
  have F:=F7 F r1 r2 r3 lc ll @ax;try refine sq F ?_
  repeat' ((first|refine ai ?_|refine aj ?_|refine am ?_ ?_)<;>try refine sq F ?_)
  all_goals try refine wn F ?_
  skip
  refine kq F (cH G x.t2 e.a _) ?_;refine ye hQ F ?_;refine cO (Z1 (W8 _ (M0 _) (W0 _ _)) ((f0.trans (((f1.trans f2).trans f3).less (by omega))).less (by omega))) (by omega) (by omega) ?_ ⟨by rw[hins],rfl⟩;refine bp (x:= {x with fe:=x.fe.take k++(⟨e.a,e.b,e.s,e.t⟩:Fe)::x.fe.drop k,t2:=topI x.t2 e.a}) (ap (za8 _) _) ?_ (ap (zb0 _) _) (ap (za7 _) _);refine L3.fin2 (es:=(x.fe.take k++(⟨e.a,e.b,e.s,e.t⟩:Fe)::x.fe.drop k).map Fe.av) (by omega) (by omega) (by omega) ?_;rw[P2,N4,show(x.fe.take k).map Fe.av++Fe.av ⟨e.a,e.b,e.s,e.t⟩::(x.fe.drop k).map Fe.av=(x.fe.take k).map Fe.av++[Fe.av ⟨e.a,e.b,e.s,e.t⟩]++(x.fe.drop k).map Fe.av by simp, ← Z9, ← Y7,O5];refine((FrzRs.map za9 Fe.sto _).app (.cons ?_ .nil)).app (FrzRs.map za9 Fe.sto _);exact FrzR.clo (za9 _ ⟨e.a,e.b,e.s,e.t⟩) (Fe.sto ⟨e.a,e.b,e.s,e.t⟩)
theorem sM(x:St)(e:Ev)(k1:e.kind=7)(hl:x.it.length≤100000)(h:Heap):
  Sat (CT G) 93 [x.av,e.av] h (fun r h'=>r=({x with it:=x.it.take (insI (·.id) x.it e.a)++(⟨e.a,e.b,e.n,e.s,e.t,e.u,false,false,[]⟩:It)::x.it.drop (insI (·.id) x.it e.a),t3:=topI x.t3 e.a}:St).av∧h'=h):=by
 have hel:(x.it.map It.av).length=x.it.length:=L5 ..;have dt:∀i:Decidable True, @decide True i=true:=fun i=>N7 trivial
 have F:=F2 k1 hel;refine sb [.cell 4 41] Tryz.func93 ?_;intro Q hQ;refine wk F ?_;refine lm (fun nL tL hL=>∃(k:Nat),x.it.length-k=nL∧h++[.row 41 9 0 [x.av],.row 34 7 0 [e.av],.row 41 9 0 [.agg [.int .i64 0,.nil (.slice none 0 0),.nil (.slice none 0 0),.nil (.slice none 0 0),.nil (.slice none 0 0),.int .i64 0,.int .i64 0,.int .i64 0,.int .i64 0]]]=hL∧tL 2=.hp h.length 0 0 0∧tL 3=.hp (h.length+1) 0 0 0∧tL 4=.hp (h.length+2) 0 0 0∧tL 5=.int .i64 k∧k≤x.it.length∧(∀b∈x.it.take k,b.id<e.a)) ((fun(k:Nat)=>(x.it.length-k:Nat)) (0)) ?_ ?_
 ·refine L8 ⟨0,rfl,by simp[St.av,Ev.av,k1],?_,?_,?_,?_,by omega,by simp⟩;all_goals try exact zZz F
 rintro _ s2 h' ⟨k,rfl,rfl,e2,e3,e4,e5,hk,hlt⟩ K2 hK2;simp only[ah,ao,Nat.reduceEqDiff, ↓reduceIte]at e2 e3 e4 e5;have F:=F5 F e2 e3 e4 e5;have hsA:∀H,aslice Tryz.prog H 38 (.sl 9 (x.it.map It.av)) none (some (.int .i64 (k:Int))) none=some (.sl 9 ((x.it.map It.av).take k)):=fun H=>bZ (by simp only[go_sem];try rfl) (by simp only[go_sem];try rfl) (by omega)
 have hsB:∀H,aslice Tryz.prog H 38 (.sl 9 (x.it.map It.av)) (some (.int .i64 (k:Int))) none none=some (.sl 9 ((x.it.map It.av).drop k)):=fun H=>cc (by simp only[go_sem];try rfl) (by simp only[go_sem];try rfl) (by omega)
 by_cases c1:k<x.it.length
 ·obtain⟨b,hb,_⟩:=ac c1;by_cases c2:b.id<e.a
  ·have d2:decide (b.id<e.a)=true:=N7 c2;have F:=F5 F hb c1 dt d2;(try refine sq F ?_);refine wk F ?_;have hlt1:∀b∈x.it.take (k+1),b.id<e.a:=by
    rw[O7,hb];intro z hz;simp at hz;rcases hz with hz|rfl
    ·exact hlt z hz
    ·exact c2
   refine hK2 _ _ _ (L8 ⟨k+1,rfl,by simp[St.av,Ev.av,k1],?_,?_,?_,?_,by omega,hlt1⟩) (by omega);all_goals try exact zZz F
  ·have d2:decide (b.id<e.a)=false:=N8 c2;have hins:insI (·.id) x.it e.a=k:=cP hlt hk fun z hz=>by rw[hb]at hz;cases hz;exact c2
   have F:=F7 F hb c1 dt d2 @hsA @hsB;(try refine sq F ?_);refine wk F ?_;refine aL (n0:=h.length+3) (.ez _ _ _ _) (by simp) ?_;intro v0 h0 L0 f0 g0;obtain⟨r1,r2,r3⟩:=f0.r3;simp only[K7,L6,M9]at g0;have F:=F4 F r1 r2 r3;try refine sq F ?_
   skip
   refine wn F ?_;refine ay 22 [5,20] [true,true,true,true,true,false,true,true,true,true,true,true,true,true,true,true,true,true,true,true,false,true] (.one 5 [false,false,false,false,false,false,true,true,true,true,true,true,true,true,true,true,true,true,false,true] (.one 20 [] .fin)) (by decide+kernel) (by kernel_rfl) (by decide+kernel) ?_;simp only[aC,aD,az];(try refine sq F ?_);repeat' ((first|refine ai ?_|refine aj ?_|refine am ?_ ?_)<;>try refine sq F ?_)
   (all_goals try refine wn F ?_);refine aL (n0:=h0.length) (.ez _ _ _ _) (M0 _) ?_;intro v1 h1 L1 f1 g1;obtain⟨r1,r2,r3⟩:=(f0.trans (f1.less (by omega))).r3;have F:=F4 F r1 r2 r3;(try refine sq F ?_);refine⟨?_,?_⟩
   ·(refine vq F ?_;try refine sq F ?_)<;>trivial
   repeat' ((first|refine ai ?_|refine aj ?_|refine am ?_ ?_)<;>try refine sq F ?_)
   (all_goals try refine wn F ?_);refine aL L1 (by omega) ?_;intro v2 h2 L2 f2 g2;obtain⟨r1,r2,r3⟩:=(f0.trans ((f1.trans f2).less (by omega))).r3;have E0:=(L0.old (f1.trans f2)).elems;have F:=F4 F r1 r2 r3;(try refine sq F ?_);repeat' ((first|refine ai ?_|refine aj ?_|refine am ?_ ?_)<;>try refine sq F ?_)
   (all_goals try refine wn F ?_);refine aL L2 (by omega) ?_ (hy:=E0);intro v3 h3 L3 f3 g3;obtain⟨r1,r2,r3⟩:=(f0.trans (((f1.trans f2).trans f3).less (by omega))).r3;have lc:=L3.cel;have ll:=L3.lie;have hz:h.length+2<h3.length:=(by omega);have hn1:h.length<h3.length:=(by omega);have F:=F7 F r1 r2 r3 lc ll @ax;(try refine sq F ?_);repeat' ((first|refine ai ?_|refine aj ?_|refine am ?_ ?_)<;>try refine sq F ?_)
   all_goals try refine wn F ?_
   skip
   refine kq F (cH G x.t3 e.a _) ?_;refine ye hQ F ?_;refine cO (Z1 (W8 _ (M0 _) (W0 _ _)) ((f0.trans (((f1.trans f2).trans f3).less (by omega))).less (by omega))) (by omega) (by omega) ?_ ⟨by rw[hins],rfl⟩;refine bp (x:= {x with it:=x.it.take k++(⟨e.a,e.b,e.n,e.s,e.t,e.u,false,false,[]⟩:It)::x.it.drop k,t3:=topI x.t3 e.a}) (ap (za8 _) _) (ap (za9 _) _) ?_ (ap (za7 _) _);refine L3.fin2 (es:=(x.it.take k++(⟨e.a,e.b,e.n,e.s,e.t,e.u,false,false,[]⟩:It)::x.it.drop k).map It.av) (by omega) (by omega) (by omega) ?_;rw[P2,N4,show(x.it.take k).map It.av++It.av ⟨e.a,e.b,e.n,e.s,e.t,e.u,false,false,[]⟩::(x.it.drop k).map It.av=(x.it.take k).map It.av++[It.av ⟨e.a,e.b,e.n,e.s,e.t,e.u,false,false,[]⟩]++(x.it.drop k).map It.av by simp, ← Z9, ← Y7,O5];refine((FrzRs.map zb0 It.sto _).app (.cons ?_ .nil)).app (FrzRs.map zb0 It.sto _);exact FrzL.row (.cons (.clo _ (.int _ _)) (.cons (.clo _ (.int _ _)) (.cons (.clo _ (.int _ _)) (.cons (.clo _ (.str _)) (.cons (.clo _ (.str _)) (.cons (.clo _ (.str _)) (.cons (.clo _ (.bool _)) (.cons (.clo _ (.bool _)) (.cons (.nils 1) .nil))))))))) rfl
 ·have d1:decide (k<x.it.length)=false:=N8 c1;have hins:insI (·.id) x.it e.a=k:=cP hlt hk fun z hz=>by rw[P5 (by omega)]at hz;cases hz
  have F:=F4 F d1 @hsA @hsB;try refine sq F ?_
  refine wk F ?_;refine aL (n0:=h.length+3) (.ez _ _ _ _) (by simp) ?_;intro v0 h0 L0 f0 g0;obtain⟨r1,r2,r3⟩:=f0.r3;simp only[K7,L6,M9]at g0;have F:=F4 F r1 r2 r3;try refine sq F ?_
  skip
  refine wn F ?_;refine ay 22 [5,20] [true,true,true,true,true,false,true,true,true,true,true,true,true,true,true,true,true,true,true,true,false,true] (.one 5 [false,false,false,false,false,false,true,true,true,true,true,true,true,true,true,true,true,true,false,true] (.one 20 [] .fin)) (by decide+kernel) (by kernel_rfl) (by decide+kernel) ?_;simp only[aC,aD,az];try refine sq F ?_
  repeat' ((first|refine ai ?_|refine aj ?_|refine am ?_ ?_)<;>try refine sq F ?_)
  all_goals try refine wn F ?_
  refine aL (n0:=h0.length) (.ez _ _ _ _) (M0 _) ?_;intro v1 h1 L1 f1 g1;obtain⟨r1,r2,r3⟩:=(f0.trans (f1.less (by omega))).r3;have F:=F4 F r1 r2 r3;try refine sq F ?_
  refine⟨?_,?_⟩
  ·(refine vq F ?_;try refine sq F ?_)<;>trivial
  repeat' ((first|refine ai ?_|refine aj ?_|refine am ?_ ?_)<;>try refine sq F ?_)
  all_goals try refine wn F ?_
  refine aL L1 (by omega) ?_;intro v2 h2 L2 f2 g2;obtain⟨r1,r2,r3⟩:=(f0.trans ((f1.trans f2).less (by omega))).r3;have E0:=(L0.old (f1.trans f2)).elems;have F:=F4 F r1 r2 r3;try refine sq F ?_
  repeat' ((first|refine ai ?_|refine aj ?_|refine am ?_ ?_)<;>try refine sq F ?_)
  all_goals try refine wn F ?_
  refine aL L2 (by omega) ?_ (hy:=E0);intro v3 h3 L3 f3 g3;obtain⟨r1,r2,r3⟩:=(f0.trans (((f1.trans f2).trans f3).less (by omega))).r3;have lc:=L3.cel;have ll:=L3.lie;have hz:h.length+2<h3.length:=by omega
  have hn1:h.length<h3.length:=by omega
  have F:=F7 F r1 r2 r3 lc ll @ax;try refine sq F ?_
  repeat' ((first|refine ai ?_|refine aj ?_|refine am ?_ ?_)<;>try refine sq F ?_)
  all_goals try refine wn F ?_
  skip
  refine kq F (cH G x.t3 e.a _) ?_;refine ye hQ F ?_;refine cO (Z1 (W8 _ (M0 _) (W0 _ _)) ((f0.trans (((f1.trans f2).trans f3).less (by omega))).less (by omega))) (by omega) (by omega) ?_ ⟨by rw[hins],rfl⟩;refine bp (x:= {x with it:=x.it.take k++(⟨e.a,e.b,e.n,e.s,e.t,e.u,false,false,[]⟩:It)::x.it.drop k,t3:=topI x.t3 e.a}) (ap (za8 _) _) (ap (za9 _) _) ?_ (ap (za7 _) _);refine L3.fin2 (es:=(x.it.take k++(⟨e.a,e.b,e.n,e.s,e.t,e.u,false,false,[]⟩:It)::x.it.drop k).map It.av) (by omega) (by omega) (by omega) ?_;rw[P2,N4,show(x.it.take k).map It.av++It.av ⟨e.a,e.b,e.n,e.s,e.t,e.u,false,false,[]⟩::(x.it.drop k).map It.av=(x.it.take k).map It.av++[It.av ⟨e.a,e.b,e.n,e.s,e.t,e.u,false,false,[]⟩]++(x.it.drop k).map It.av by simp, ← Z9, ← Y7,O5];refine((FrzRs.map zb0 It.sto _).app (.cons ?_ .nil)).app (FrzRs.map zb0 It.sto _);exact FrzL.row (.cons (.clo _ (.int _ _)) (.cons (.clo _ (.int _ _)) (.cons (.clo _ (.int _ _)) (.cons (.clo _ (.str _)) (.cons (.clo _ (.str _)) (.cons (.clo _ (.str _)) (.cons (.clo _ (.bool _)) (.cons (.clo _ (.bool _)) (.cons (.nils 1) .nil))))))))) rfl
theorem pG(x:St)(e:Ev)(k1:e.kind=11)(hl:x.se.length≤100000)(h:Heap):
  Sat (CT G) 93 [x.av,e.av] h (fun r h'=>r=({x with se:=x.se.take (insI (·.id) x.se e.a)++(⟨e.a,e.s,e.t⟩:Se)::x.se.drop (insI (·.id) x.se e.a),t4:=topI x.t4 e.a}:St).av∧h'=h):=by
 have hel:(x.se.map Se.av).length=x.se.length:=L5 ..;have dt:∀i:Decidable True, @decide True i=true:=fun i=>N7 trivial
 have F:=F2 k1 hel;refine sb [.cell 4 41] Tryz.func93 ?_;intro Q hQ;refine wk F ?_;refine lm (fun nL tL hL=>∃(k:Nat),x.se.length-k=nL∧h++[.row 41 9 0 [x.av],.row 34 7 0 [e.av],.row 41 9 0 [.agg [.int .i64 0,.nil (.slice none 0 0),.nil (.slice none 0 0),.nil (.slice none 0 0),.nil (.slice none 0 0),.int .i64 0,.int .i64 0,.int .i64 0,.int .i64 0]]]=hL∧tL 2=.hp h.length 0 0 0∧tL 3=.hp (h.length+1) 0 0 0∧tL 4=.hp (h.length+2) 0 0 0∧tL 5=.int .i64 k∧k≤x.se.length∧(∀b∈x.se.take k,b.id<e.a)) ((fun(k:Nat)=>(x.se.length-k:Nat)) (0)) ?_ ?_
 ·refine L8 ⟨0,rfl,by simp[St.av,Ev.av,k1],?_,?_,?_,?_,by omega,by simp⟩;all_goals try exact zZz F
 rintro _ s2 h' ⟨k,rfl,rfl,e2,e3,e4,e5,hk,hlt⟩ K2 hK2;simp only[ah,ao,Nat.reduceEqDiff, ↓reduceIte]at e2 e3 e4 e5;have F:=F5 F e2 e3 e4 e5;have hsA:∀H,aslice Tryz.prog H 39 (.sl 3 (x.se.map Se.av)) none (some (.int .i64 (k:Int))) none=some (.sl 3 ((x.se.map Se.av).take k)):=fun H=>bZ (by simp only[go_sem];try rfl) (by simp only[go_sem];try rfl) (by omega)
 have hsB:∀H,aslice Tryz.prog H 39 (.sl 3 (x.se.map Se.av)) (some (.int .i64 (k:Int))) none none=some (.sl 3 ((x.se.map Se.av).drop k)):=fun H=>cc (by simp only[go_sem];try rfl) (by simp only[go_sem];try rfl) (by omega)
 by_cases c1:k<x.se.length
 ·obtain⟨b,hb,_⟩:=ac c1;by_cases c2:b.id<e.a
  ·have d2:decide (b.id<e.a)=true:=N7 c2;have F:=F5 F hb c1 dt d2;(try refine sq F ?_);refine wk F ?_;have hlt1:∀b∈x.se.take (k+1),b.id<e.a:=by
    rw[O7,hb];intro z hz;simp at hz;rcases hz with hz|rfl
    ·exact hlt z hz
    ·exact c2
   refine hK2 _ _ _ (L8 ⟨k+1,rfl,by simp[St.av,Ev.av,k1],?_,?_,?_,?_,by omega,hlt1⟩) (by omega);all_goals try exact zZz F
  ·have d2:decide (b.id<e.a)=false:=N8 c2;have hins:insI (·.id) x.se e.a=k:=cP hlt hk fun z hz=>by rw[hb]at hz;cases hz;exact c2
   have F:=F7 F hb c1 dt d2 @hsA @hsB;(try refine sq F ?_);refine wk F ?_;refine aL (n0:=h.length+3) (.ez _ _ _ _) (by simp) ?_;intro v0 h0 L0 f0 g0;obtain⟨r1,r2,r3⟩:=f0.r3;simp only[K7,L6,M9]at g0;have F:=F4 F r1 r2 r3;try refine sq F ?_
   skip
   refine wn F ?_;refine ay 16 [5,14] [true,true,true,true,true,false,true,true,true,true,true,true,true,true,false,true] (.one 5 [false,false,false,false,false,false,true,true,true,true,true,true,false,true] (.one 14 [] .fin)) (by decide+kernel) (by kernel_rfl) (by decide+kernel) ?_;simp only[aC,aD,az];(try refine sq F ?_);repeat' ((first|refine ai ?_|refine aj ?_|refine am ?_ ?_)<;>try refine sq F ?_)
   (all_goals try refine wn F ?_);refine aL (n0:=h0.length) (.ez _ _ _ _) (M0 _) ?_;intro v1 h1 L1 f1 g1;obtain⟨r1,r2,r3⟩:=(f0.trans (f1.less (by omega))).r3;have F:=F4 F r1 r2 r3;(try refine sq F ?_);refine⟨?_,?_⟩
   ·(refine vq F ?_;try refine sq F ?_)<;>trivial
   repeat' ((first|refine ai ?_|refine aj ?_|refine am ?_ ?_)<;>try refine sq F ?_)
   (all_goals try refine wn F ?_);refine aL L1 (by omega) ?_;intro v2 h2 L2 f2 g2;obtain⟨r1,r2,r3⟩:=(f0.trans ((f1.trans f2).less (by omega))).r3;have E0:=(L0.old (f1.trans f2)).elems;have F:=F4 F r1 r2 r3;(try refine sq F ?_);repeat' ((first|refine ai ?_|refine aj ?_|refine am ?_ ?_)<;>try refine sq F ?_)
   (all_goals try refine wn F ?_);refine aL L2 (by omega) ?_ (hy:=E0);intro v3 h3 L3 f3 g3;obtain⟨r1,r2,r3⟩:=(f0.trans (((f1.trans f2).trans f3).less (by omega))).r3;have lc:=L3.cel;have ll:=L3.lie;have hz:h.length+2<h3.length:=(by omega);have hn1:h.length<h3.length:=(by omega);have F:=F7 F r1 r2 r3 lc ll @ax;(try refine sq F ?_);repeat' ((first|refine ai ?_|refine aj ?_|refine am ?_ ?_)<;>try refine sq F ?_)
   all_goals try refine wn F ?_
   skip
   refine kq F (cH G x.t4 e.a _) ?_;refine ye hQ F ?_;refine cO (Z1 (W8 _ (M0 _) (W0 _ _)) ((f0.trans (((f1.trans f2).trans f3).less (by omega))).less (by omega))) (by omega) (by omega) ?_ ⟨by rw[hins],rfl⟩;refine bp (x:= {x with se:=x.se.take k++(⟨e.a,e.s,e.t⟩:Se)::x.se.drop k,t4:=topI x.t4 e.a}) (ap (za8 _) _) (ap (za9 _) _) (ap (zb0 _) _) ?_;refine L3.fin2 (es:=(x.se.take k++(⟨e.a,e.s,e.t⟩:Se)::x.se.drop k).map Se.av) (by omega) (by omega) (by omega) ?_;rw[P2,N4,show(x.se.take k).map Se.av++Se.av ⟨e.a,e.s,e.t⟩::(x.se.drop k).map Se.av=(x.se.take k).map Se.av++[Se.av ⟨e.a,e.s,e.t⟩]++(x.se.drop k).map Se.av by simp, ← Z9, ← Y7,O5];refine((FrzRs.map za7 Se.sto _).app (.cons ?_ .nil)).app (FrzRs.map za7 Se.sto _);exact FrzR.clo (za7 _ ⟨e.a,e.s,e.t⟩) (Se.sto ⟨e.a,e.s,e.t⟩)
 ·have d1:decide (k<x.se.length)=false:=N8 c1;have hins:insI (·.id) x.se e.a=k:=cP hlt hk fun z hz=>by rw[P5 (by omega)]at hz;cases hz
  have F:=F4 F d1 @hsA @hsB;try refine sq F ?_
  refine wk F ?_;refine aL (n0:=h.length+3) (.ez _ _ _ _) (by simp) ?_;intro v0 h0 L0 f0 g0;obtain⟨r1,r2,r3⟩:=f0.r3;simp only[K7,L6,M9]at g0;have F:=F4 F r1 r2 r3;try refine sq F ?_
  skip
  refine wn F ?_;refine ay 16 [5,14] [true,true,true,true,true,false,true,true,true,true,true,true,true,true,false,true] (.one 5 [false,false,false,false,false,false,true,true,true,true,true,true,false,true] (.one 14 [] .fin)) (by decide+kernel) (by kernel_rfl) (by decide+kernel) ?_;simp only[aC,aD,az];try refine sq F ?_
  repeat' ((first|refine ai ?_|refine aj ?_|refine am ?_ ?_)<;>try refine sq F ?_)
  all_goals try refine wn F ?_
  refine aL (n0:=h0.length) (.ez _ _ _ _) (M0 _) ?_;intro v1 h1 L1 f1 g1;obtain⟨r1,r2,r3⟩:=(f0.trans (f1.less (by omega))).r3;have F:=F4 F r1 r2 r3;try refine sq F ?_
  refine⟨?_,?_⟩
  ·(refine vq F ?_;try refine sq F ?_)<;>trivial
  repeat' ((first|refine ai ?_|refine aj ?_|refine am ?_ ?_)<;>try refine sq F ?_)
  all_goals try refine wn F ?_
  refine aL L1 (by omega) ?_;intro v2 h2 L2 f2 g2;obtain⟨r1,r2,r3⟩:=(f0.trans ((f1.trans f2).less (by omega))).r3;have E0:=(L0.old (f1.trans f2)).elems;have F:=F4 F r1 r2 r3;try refine sq F ?_
  repeat' ((first|refine ai ?_|refine aj ?_|refine am ?_ ?_)<;>try refine sq F ?_)
  all_goals try refine wn F ?_
  refine aL L2 (by omega) ?_ (hy:=E0);intro v3 h3 L3 f3 g3;obtain⟨r1,r2,r3⟩:=(f0.trans (((f1.trans f2).trans f3).less (by omega))).r3;have lc:=L3.cel;have ll:=L3.lie;have hz:h.length+2<h3.length:=by omega
  have hn1:h.length<h3.length:=by omega
  have F:=F7 F r1 r2 r3 lc ll @ax;try refine sq F ?_
  repeat' ((first|refine ai ?_|refine aj ?_|refine am ?_ ?_)<;>try refine sq F ?_)
  all_goals try refine wn F ?_
  skip
  refine kq F (cH G x.t4 e.a _) ?_;refine ye hQ F ?_;refine cO (Z1 (W8 _ (M0 _) (W0 _ _)) ((f0.trans (((f1.trans f2).trans f3).less (by omega))).less (by omega))) (by omega) (by omega) ?_ ⟨by rw[hins],rfl⟩;refine bp (x:= {x with se:=x.se.take k++(⟨e.a,e.s,e.t⟩:Se)::x.se.drop k,t4:=topI x.t4 e.a}) (ap (za8 _) _) (ap (za9 _) _) (ap (zb0 _) _) ?_;refine L3.fin2 (es:=(x.se.take k++(⟨e.a,e.s,e.t⟩:Se)::x.se.drop k).map Se.av) (by omega) (by omega) (by omega) ?_;rw[P2,N4,show(x.se.take k).map Se.av++Se.av ⟨e.a,e.s,e.t⟩::(x.se.drop k).map Se.av=(x.se.take k).map Se.av++[Se.av ⟨e.a,e.s,e.t⟩]++(x.se.drop k).map Se.av by simp, ← Z9, ← Y7,O5];refine((FrzRs.map za7 Se.sto _).app (.cons ?_ .nil)).app (FrzRs.map za7 Se.sto _);exact FrzR.clo (za7 _ ⟨e.a,e.s,e.t⟩) (Se.sto ⟨e.a,e.s,e.t⟩)
end
section
attribute [local irreducible] WP WPl WPix Sat
theorem gC{h H:Heap}{R:AVal→Heap→Prop}{r0 r:AVal}(f:FrN h.length h H)(g:h.length≤H.length)(hz:Frz H h.length r0 r)(hR:R r h):Fin h H R r0:=by
 obtain⟨j,hj⟩:=f.behind g;rw[hj]at hz ⊢;exact za6 hz hR
variable (G:Nat→Option (List AVal))
theorem kD(x:St)(id:Int)(hl:x.fe.length≤100000){h:Heap}{p w:Nat}(hg:getRow h p w=some (48,4,x.fe.map Fe.av)):Sat (CT G) 95 [.agg [.int .i64 x.clock,.sl 3 (x.fo.map Fo.av),.hs p w 0 x.fe.length true,.sl 9 (x.it.map It.av),.sl 3 (x.se.map Se.av),.int .i64 x.t1,.int .i64 x.t2,.int .i64 x.t3,.int .i64 x.t4],.int .i64 id] h (fun r h'=>r=.int .i64 (posF (·.id) x.fe id)∧h'=h):=by
 have hel:(x.fe.map Fe.av).length=x.fe.length:=L5 ..;have hpl:=bI hg;have hgj:∀j,getRow (h++j) p w=some (48,4,x.fe.map Fe.av):=fun j=>by rw[bL _ hpl];exact hg
 have F:=F3 hel hg hgj;refine sb [.tmp 4] Tryz.func95 ?_;intro Q hQ;refine wk F ?_;refine lm (fun nL tL hL=>∃(k:Nat),x.fe.length-k=nL∧h++[.row 41 9 0 [.agg [.int .i64 x.clock,.sl 3 (x.fo.map Fo.av),.hs p w 0 x.fe.length true,.sl 9 (x.it.map It.av),.sl 3 (x.se.map Se.av),.int .i64 x.t1,.int .i64 x.t2,.int .i64 x.t3,.int .i64 x.t4]]]=hL∧tL 1=.int .i64 id∧tL 2=.hp h.length 0 0 0∧tL 5=.int .i64 k∧k≤x.fe.length∧(∀f∈x.fe.take k,f.id≠id)) ((fun(k:Nat)=>(x.fe.length-k:Nat)) (0)) ?_ ?_
 ·refine L8 ⟨0,rfl,aw,?_,?_,?_,by omega,by simp⟩;all_goals try exact zZz F
 rintro _ s2 h' ⟨k,rfl,rfl,e1,e2,e5,hk,hp⟩ K2 hK2;simp only[ah,ao,Nat.reduceEqDiff, ↓reduceIte]at e1 e2 e5;have F:=F4 F e1 e2 e5;refine wk F ?_;refine cq F (fun c1=>?_) (fun c1=>?_)<;>(try exact c1.elim)<;>(refine wk F ?_)
 ·have c2:k<x.fe.length:=by omega
  obtain⟨f,hf,hfm⟩:=ac c2;have F:=F3 F c2 hf;try refine sq F ?_
  refine wk F ?_;refine cq F (fun c3=>?_) (fun c3=>?_)<;>(try exact c3.elim)<;>(refine wk F ?_)
  ·refine ee hQ F ?_;exact K9 (.int _ _) ⟨by rw[dn hf (by first|exact c3|exact c3.symm) hp],rfl⟩
  ·have hp1:∀g∈x.fe.take (k+1),g.id≠id:=by
    rw[O7,hf];intro g hg;simp at hg;rcases hg with hg|rfl
    ·exact hp g hg
    ·exact c3
   refine hK2 _ _ _ (L8 ⟨k+1,rfl,aw,?_,?_,?_,by omega,hp1⟩) (by omega);all_goals try exact zZz F
 ·rw[M4 (by omega)]at hp;refine ee hQ F ?_;exact K9 (.int _ _) ⟨by rw[cG hp],rfl⟩
theorem gX(x:St)(id:Int)(hl:x.it.length≤100000){h:Heap}{p w:Nat}(hg:getRow h p w=some (86,9,x.it.map It.av)):Sat (CT G) 96 [.agg [.int .i64 x.clock,.sl 3 (x.fo.map Fo.av),.sl 4 (x.fe.map Fe.av),.hs p w 0 x.it.length true,.sl 3 (x.se.map Se.av),.int .i64 x.t1,.int .i64 x.t2,.int .i64 x.t3,.int .i64 x.t4],.int .i64 id] h (fun r h'=>r=.int .i64 (posF (·.id) x.it id)∧h'=h):=by
 have hel:(x.it.map It.av).length=x.it.length:=L5 ..;have hpl:=bI hg;have hgj:∀j,getRow (h++j) p w=some (86,9,x.it.map It.av):=fun j=>by rw[bL _ hpl];exact hg
 have F:=F3 hel hg hgj;refine sb [.tmp 4] Tryz.func96 ?_;intro Q hQ;refine wk F ?_;refine lm (fun nL tL hL=>∃(k:Nat),x.it.length-k=nL∧h++[.row 41 9 0 [.agg [.int .i64 x.clock,.sl 3 (x.fo.map Fo.av),.sl 4 (x.fe.map Fe.av),.hs p w 0 x.it.length true,.sl 3 (x.se.map Se.av),.int .i64 x.t1,.int .i64 x.t2,.int .i64 x.t3,.int .i64 x.t4]]]=hL∧tL 1=.int .i64 id∧tL 2=.hp h.length 0 0 0∧tL 5=.int .i64 k∧k≤x.it.length∧(∀f∈x.it.take k,f.id≠id)) ((fun(k:Nat)=>(x.it.length-k:Nat)) (0)) ?_ ?_
 ·refine L8 ⟨0,rfl,aw,?_,?_,?_,by omega,by simp⟩;all_goals try exact zZz F
 rintro _ s2 h' ⟨k,rfl,rfl,e1,e2,e5,hk,hp⟩ K2 hK2;simp only[ah,ao,Nat.reduceEqDiff, ↓reduceIte]at e1 e2 e5;have F:=F4 F e1 e2 e5;refine wk F ?_;refine cq F (fun c1=>?_) (fun c1=>?_)<;>(try exact c1.elim)<;>(refine wk F ?_)
 ·have c2:k<x.it.length:=by omega
  obtain⟨f,hf,hfm⟩:=ac c2;have F:=F3 F c2 hf;try refine sq F ?_
  refine wk F ?_;refine cq F (fun c3=>?_) (fun c3=>?_)<;>(try exact c3.elim)<;>(refine wk F ?_)
  ·refine ee hQ F ?_;exact K9 (.int _ _) ⟨by rw[dn hf (by first|exact c3|exact c3.symm) hp],rfl⟩
  ·have hp1:∀g∈x.it.take (k+1),g.id≠id:=by
    rw[O7,hf];intro g hg;simp at hg;rcases hg with hg|rfl
    ·exact hp g hg
    ·exact c3
   refine hK2 _ _ _ (L8 ⟨k+1,rfl,aw,?_,?_,?_,by omega,hp1⟩) (by omega);all_goals try exact zZz F
 ·rw[M4 (by omega)]at hp;refine ee hQ F ?_;exact K9 (.int _ _) ⟨by rw[cG hp],rfl⟩
theorem ux(x:St)(e:Ev)(k1:e.kind=5)(hF:∀h,Sat (CT G) 92 [x.av,e.av] h (fun r h'=>r=.bool true∧h'=h))(i:Nat)(f:Fe)(hf:x.fe[i]? =some f)(hp:posF (·.id) x.fe e.a=(i:Int))(hl:x.fe.length≤100000)(h:Heap):
  Sat (CT G) 49 [x.av,e.av] h (fun r h'=>r=.tup [({x with fe:=x.fe.set i {f with title:=e.t}}:St).av,.bool true]∧h'=h):=by
 have hel:(x.fe.map Fe.av).length=x.fe.length:=L5 ..;have hil:i<x.fe.length:=(f9.1 hf).1;simp only[X9,k1]at hF;have F:=k1;refine sb [.cell 4 41,.tmp 5] Tryz.func49 ?_;intro Q hQ;refine wk F ?_;refine kq F (hF _) ?_;refine aL (n0:=h.length+3) (.ez _ _ _ _) (by simp) ?_;intro v1 h1 L1 f1 g1;rw[O5]at L1;rcases L1 with⟨hnil,_⟩| ⟨p,w,rfl,hg,hpp⟩
 ·rw[X5]at hnil;rw[hnil]at hil;simp at hil
 rw[hel];obtain⟨r1,r2,r3⟩:=f1.r3;simp only[K7,L6,M9]at g1;have hpl:=bI hg;have hn1:h.length<h1.length:=by omega
 have hz:h.length+2<h1.length:=by omega
 have hne:h.length≠p:=by omega
 have hne2:h.length+2≠p:=by omega
 have hgs:∀b,getRow (h1.set h.length b) p w=some (48,4,x.fe.map Fe.av):=fun b=>by rw[bc _ _ hne];exact hg
 have hH:=fun b=>kD G x e.a hl (hgs b)
 simp only[hp]at hH;have F:=F8 F r1 r2 r3 hg hf hil @ax;try refine sq F ?_
 refine wk F ?_;refine kq F (hH _) ?_;refine ye hQ F ?_;have hrw:(x.fe.map Fe.av).set i (Fe.av {f with title:=e.t})=(x.fe.set i {f with title:=e.t}).map Fe.av:=by rw[List.map_set]
 simp only[Fe.av_eq]at hrw;rw[hrw];have fr0:FrN h.length h h1:=Z1 (W8 _ (M0 _) (W0 _ _)) (f1.less (by omega));refine gC (V9 _ (by omega) (V9 _ (by omega) (V9 _ (M0 _) fr0))) (by simp;omega) (FrzL.tup (.cons (bp (x:= {x with fe:=x.fe.set i {f with title:=e.t}}) (ap (za8 _) _) ?_ (ap (zb0 _) _) (ap (za7 _) _)) (.cons (.clo _ (.bool _)) .nil))) ⟨rfl,rfl⟩;refine Z5 (q:=p) (v:=w) (e:=48) (by omega) ?_ (by simp) (cm (za9 _) _) (ff Fe.sto _);rw[bc _ _ hne2,cr _ _ _ _ _ (by rw[W5];exact hpl),L7 rfl]
theorem uy(x:St)(e:Ev)(k1:e.kind=6)(hF:∀h,Sat (CT G) 92 [x.av,e.av] h (fun r h'=>r=.bool true∧h'=h))(i:Nat)(f:Fe)(hf:x.fe[i]? =some f)(hp:posF (·.id) x.fe e.a=(i:Int))(hl:x.fe.length≤100000)(h:Heap):
  Sat (CT G) 49 [x.av,e.av] h (fun r h'=>r=.tup [({x with fe:=x.fe.set i {f with inn:=e.b}}:St).av,.bool true]∧h'=h):=by
 have hel:(x.fe.map Fe.av).length=x.fe.length:=L5 ..;have hil:i<x.fe.length:=(f9.1 hf).1;simp only[X9,k1]at hF;have F:=k1;refine sb [.cell 4 41,.tmp 5] Tryz.func49 ?_;intro Q hQ;refine wk F ?_;refine kq F (hF _) ?_;refine aL (n0:=h.length+3) (.ez _ _ _ _) (by simp) ?_;intro v1 h1 L1 f1 g1;rw[O5]at L1;rcases L1 with⟨hnil,_⟩| ⟨p,w,rfl,hg,hpp⟩
 ·rw[X5]at hnil;rw[hnil]at hil;simp at hil
 rw[hel];obtain⟨r1,r2,r3⟩:=f1.r3;simp only[K7,L6,M9]at g1;have hpl:=bI hg;have hn1:h.length<h1.length:=by omega
 have hz:h.length+2<h1.length:=by omega
 have hne:h.length≠p:=by omega
 have hne2:h.length+2≠p:=by omega
 have hgs:∀b,getRow (h1.set h.length b) p w=some (48,4,x.fe.map Fe.av):=fun b=>by rw[bc _ _ hne];exact hg
 have hH:=fun b=>kD G x e.a hl (hgs b)
 simp only[hp]at hH;have F:=F8 F r1 r2 r3 hg hf hil @ax;try refine sq F ?_
 refine wk F ?_;refine kq F (hH _) ?_;refine ye hQ F ?_;have hrw:(x.fe.map Fe.av).set i (Fe.av {f with inn:=e.b})=(x.fe.set i {f with inn:=e.b}).map Fe.av:=by rw[List.map_set]
 simp only[Fe.av_eq]at hrw;rw[hrw];have fr0:FrN h.length h h1:=Z1 (W8 _ (M0 _) (W0 _ _)) (f1.less (by omega));refine gC (V9 _ (by omega) (V9 _ (by omega) (V9 _ (M0 _) fr0))) (by simp;omega) (FrzL.tup (.cons (bp (x:= {x with fe:=x.fe.set i {f with inn:=e.b}}) (ap (za8 _) _) ?_ (ap (zb0 _) _) (ap (za7 _) _)) (.cons (.clo _ (.bool _)) .nil))) ⟨rfl,rfl⟩;refine Z5 (q:=p) (v:=w) (e:=48) (by omega) ?_ (by simp) (cm (za9 _) _) (ff Fe.sto _);rw[bc _ _ hne2,cr _ _ _ _ _ (by rw[W5];exact hpl),L7 rfl]
theorem uz(x:St)(e:Ev)(k1:e.kind=8)(hF:∀h,Sat (CT G) 92 [x.av,e.av] h (fun r h'=>r=.bool true∧h'=h))(i:Nat)(f:It)(hf:x.it[i]? =some f)(hp:posF (·.id) x.it e.a=(i:Int))(hl:x.it.length≤100000)(h:Heap):
  Sat (CT G) 49 [x.av,e.av] h (fun r h'=>r=.tup [({x with it:=x.it.set i {f with read:=e.n==1}}:St).av,.bool true]∧h'=h):=by
 have hel:(x.it.map It.av).length=x.it.length:=L5 ..;have hil:i<x.it.length:=(f9.1 hf).1;simp only[X9,k1]at hF;have F:=k1;refine sb [.cell 4 41,.tmp 5] Tryz.func49 ?_;intro Q hQ;refine wk F ?_;refine kq F (hF _) ?_;refine aL (n0:=h.length+3) (.ez _ _ _ _) (by simp) ?_;intro v1 h1 L1 f1 g1;rw[O5]at L1;rcases L1 with⟨hnil,_⟩| ⟨p,w,rfl,hg,hpp⟩
 ·rw[X5]at hnil;rw[hnil]at hil;simp at hil
 rw[hel];obtain⟨r1,r2,r3⟩:=f1.r3;simp only[K7,L6,M9]at g1;have hpl:=bI hg;have hn1:h.length<h1.length:=by omega
 have hz:h.length+2<h1.length:=by omega
 have hne:h.length≠p:=by omega
 have hne2:h.length+2≠p:=by omega
 have hgs:∀b,getRow (h1.set h.length b) p w=some (86,9,x.it.map It.av):=fun b=>by rw[bc _ _ hne];exact hg
 have hH:=fun b=>gX G x e.a hl (hgs b)
 simp only[hp]at hH;have F:=F8 F r1 r2 r3 hg hf hil @ax;try refine sq F ?_
 refine wk F ?_;refine kq F (hH _) ?_;refine ye hQ F ?_;have hrw:(x.it.map It.av).set i (It.av {f with read:=e.n==1})=(x.it.set i {f with read:=e.n==1}).map It.av:=by rw[List.map_set]
 simp only[It.av_eq]at hrw;rw[hrw];have fr0:FrN h.length h h1:=Z1 (W8 _ (M0 _) (W0 _ _)) (f1.less (by omega));refine gC (V9 _ (by omega) (V9 _ (by omega) (V9 _ (M0 _) fr0))) (by simp;omega) (FrzL.tup (.cons (bp (x:= {x with it:=x.it.set i {f with read:=e.n==1}}) (ap (za8 _) _) (ap (za9 _) _) ?_ (ap (za7 _) _)) (.cons (.clo _ (.bool _)) .nil))) ⟨rfl,rfl⟩;refine Z5 (q:=p) (v:=w) (e:=86) (by omega) ?_ (by simp) (cm (zb0 _) _) (ff It.sto _);rw[bc _ _ hne2,cr _ _ _ _ _ (by rw[W5];exact hpl),L7 rfl]
theorem uA(x:St)(e:Ev)(k1:e.kind=9)(hF:∀h,Sat (CT G) 92 [x.av,e.av] h (fun r h'=>r=.bool true∧h'=h))(i:Nat)(f:It)(hf:x.it[i]? =some f)(hp:posF (·.id) x.it e.a=(i:Int))(hl:x.it.length≤100000)(h:Heap):
  Sat (CT G) 49 [x.av,e.av] h (fun r h'=>r=.tup [({x with it:=x.it.set i {f with star:=e.n==1}}:St).av,.bool true]∧h'=h):=by
 have hel:(x.it.map It.av).length=x.it.length:=L5 ..;have hil:i<x.it.length:=(f9.1 hf).1;simp only[X9,k1]at hF;have F:=k1;refine sb [.cell 4 41,.tmp 5] Tryz.func49 ?_;intro Q hQ;refine wk F ?_;refine kq F (hF _) ?_;refine aL (n0:=h.length+3) (.ez _ _ _ _) (by simp) ?_;intro v1 h1 L1 f1 g1;rw[O5]at L1;rcases L1 with⟨hnil,_⟩| ⟨p,w,rfl,hg,hpp⟩
 ·rw[X5]at hnil;rw[hnil]at hil;simp at hil
 rw[hel];obtain⟨r1,r2,r3⟩:=f1.r3;simp only[K7,L6,M9]at g1;have hpl:=bI hg;have hn1:h.length<h1.length:=by omega
 have hz:h.length+2<h1.length:=by omega
 have hne:h.length≠p:=by omega
 have hne2:h.length+2≠p:=by omega
 have hgs:∀b,getRow (h1.set h.length b) p w=some (86,9,x.it.map It.av):=fun b=>by rw[bc _ _ hne];exact hg
 have hH:=fun b=>gX G x e.a hl (hgs b)
 simp only[hp]at hH;have F:=F8 F r1 r2 r3 hg hf hil @ax;try refine sq F ?_
 refine wk F ?_;refine kq F (hH _) ?_;refine ye hQ F ?_;have hrw:(x.it.map It.av).set i (It.av {f with star:=e.n==1})=(x.it.set i {f with star:=e.n==1}).map It.av:=by rw[List.map_set]
 simp only[It.av_eq]at hrw;rw[hrw];have fr0:FrN h.length h h1:=Z1 (W8 _ (M0 _) (W0 _ _)) (f1.less (by omega));refine gC (V9 _ (by omega) (V9 _ (by omega) (V9 _ (M0 _) fr0))) (by simp;omega) (FrzL.tup (.cons (bp (x:= {x with it:=x.it.set i {f with star:=e.n==1}}) (ap (za8 _) _) (ap (za9 _) _) ?_ (ap (za7 _) _)) (.cons (.clo _ (.bool _)) .nil))) ⟨rfl,rfl⟩;refine Z5 (q:=p) (v:=w) (e:=86) (by omega) ?_ (by simp) (cm (zb0 _) _) (ff It.sto _);rw[bc _ _ hne2,cr _ _ _ _ _ (by rw[W5];exact hpl),L7 rfl]
theorem sN(x:St)(e:Ev)(k1:e.kind=10)(hF:∀h,Sat (CT G) 92 [x.av,e.av] h (fun r h'=>r=.bool true∧h'=h))(i:Nat)(f:It)(hf:x.it[i]? =some f)(hp:posF (·.id) x.it e.a=(i:Int))(hl:x.it.length≤100000)(ht:f.tags.length≤100000)(h:Heap):
  Sat (CT G) 49 [x.av,e.av] h (fun r h'=>r=.tup [({x with it:=x.it.set i {f with tags:=tgR e.s f.tags (!(e.n==1))}}:St).av,.bool true]∧h'=h):=by
 have hel:(x.it.map It.av).length=x.it.length:=L5 ..;have hil:i<x.it.length:=(f9.1 hf).1;simp only[X9,k1]at hF;have F:=k1;refine sb [.cell 4 41,.tmp 5] Tryz.func49 ?_;intro Q hQ;refine wk F ?_;refine kq F (hF _) ?_;refine aL (n0:=h.length+3) (.ez _ _ _ _) (by simp) ?_;intro v1 h1 L1 f1 g1;rw[O5]at L1;rcases L1 with⟨hnil,_⟩| ⟨p,w,rfl,hg,hpp⟩
 ·rw[X5]at hnil;rw[hnil]at hil;simp at hil
 rw[hel];obtain⟨r1,r2,r3⟩:=f1.r3;simp only[K7,L6,M9]at g1;have hpl:=bI hg;have hn1:h.length<h1.length:=by omega
 have hz:h.length+2<h1.length:=by omega
 have hne:h.length≠p:=by omega
 have hne2:h.length+2≠p:=by omega
 have hgs:∀b,getRow (h1.set h.length b) p w=some (86,9,x.it.map It.av):=fun b=>by rw[bc _ _ hne];exact hg
 have hH:=fun b=>gX G x e.a hl (hgs b)
 simp only[hp]at hH;have F:=F8 F r1 r2 r3 hg hf hil @ax;try refine sq F ?_
 refine wk F ?_;refine kq F (hH _) ?_;have hw:=two (e.n==1);have hT:=uv G f.tags e.s (e.n==1) ht;refine aG (hT _) ?_;try refine sq F ?_
 refine wk F ?_;refine ye hQ F ?_;have hrw:(x.it.map It.av).set i (It.av {f with tags:=tgR e.s f.tags (!(e.n==1))})=(x.it.set i {f with tags:=tgR e.s f.tags (!(e.n==1))}).map It.av:=by rw[List.map_set]
 simp only[It.av_eq]at hrw;rw[hrw];have fr0:FrN h.length h h1:=Z1 (W8 _ (M0 _) (W0 _ _)) (f1.less (by omega));refine gC (V9 _ (by omega) (V9 _ (by omega) (V9 _ (M0 _) fr0))) (by simp;omega) (FrzL.tup (.cons (bp (x:= {x with it:=x.it.set i {f with tags:=tgR e.s f.tags (!(e.n==1))}}) (ap (za8 _) _) (ap (za9 _) _) ?_ (ap (za7 _) _)) (.cons (.clo _ (.bool _)) .nil))) ⟨rfl,rfl⟩;refine Z5 (q:=p) (v:=w) (e:=86) (by omega) ?_ (by simp) (cm (zb0 _) _) (ff It.sto _);rw[bc _ _ hne2,cr _ _ _ _ _ (by rw[W5];exact hpl),L7 rfl]
end
section
theorem wT{l:List Int}(h:l.Nodup):(sortI l).Pairwise (· < ·):=by
 have h1:(sortI l).Pairwise fun a b=>decide (a≤b)=true:=List.pairwise_mergeSort (fun a b c h1 h2=>by simp at *;omega) (fun a b=>by simp;omega) l
 have h2:(sortI l).Nodup:=pz h;refine List.Pairwise.imp₂ (R:=fun a b=>decide (a≤b)=true) (S:=fun a b=>a≠b) (fun a b hab hne=>?_) h1 h2;simp at hab;omega
section
variable {α:Type} {z:α} {key:α→Int} {l:ML Int α} {c:Nat}
theorem fF(w:WFM l c)(hid:∀k a,lkM l k=some a→key a=k):((valsM z l).map key).Pairwise (· < ·):=by
 rw[wF w key hid];exact wT w.keys
theorem uB{L:List α}(h:(L.map key).Pairwise (· < ·)):L.Nodup:=by
 rw[List.pairwise_map]at h;exact h.imp fun hab he=>by rw[he]at hab;omega
theorem fO(w:WFM l c)(hid:∀k a,lkM l k=some a→key a=k){L:List α}(hs:(L.map key).Pairwise (· < ·))(hm:∀a,a∈L↔∃k,lkM l k=some a):valsM z l=L:=by
 have h0:=fF (z:=z) w hid;have hp:(valsM z l).Perm L:=(List.perm_ext_iff_of_nodup (uB h0) (uB hs)).2 fun a=>by
  rw[hm];exact⟨aK,fun⟨k,hk⟩=>bG hk⟩
 rw[List.pairwise_map]at h0 hs;exact List.Perm.eq_of_pairwise (fun a b _ _ h1 h2=>by omega) h0 hs hp
theorem uC(k:Int)(a:α)(b:α):(∃j,lkM (upM l c k a) j=some b)↔b=a∨∃j,j≠k∧lkM l j=some b:=by
 constructor
 ·rintro⟨j,hj⟩;rcases aI hj with⟨_,rfl⟩| ⟨h1,h2⟩
  ·exact .inl rfl
  ·exact .inr ⟨j,h1,h2⟩
 ·rintro(rfl| ⟨j,h1,h2⟩)
  ·exact⟨k,by rw[aY,L7 rfl]⟩
  ·exact⟨j,by rw[aY,K4 h1];exact h2⟩
theorem uD(L:List α)(id:Int):∀b∈L.take (insI key L id),key b<id:=by
 induction L with
 |nil=>intro b hb;simp at hb
 |cons a L ih=>
  unfold insI at ih ⊢;rw[Z8];split
  ·rename_i h;intro b hb;simp only[L6,P0,N0]at hb;rcases hb with rfl|hb
   ·simpa using h
   ·exact ih b hb
  ·intro b hb;simp at hb
theorem uE{L:List α}(hs:(L.map key).Pairwise (· < ·))(id:Int):∀b∈L.drop (insI key L id),id≤key b:=by
 induction L with
 |nil=>intro b hb;simp at hb
 |cons a L ih=>
  rw[N4,V0]at hs;have ih:=ih hs.2;unfold insI at ih ⊢;rw[Z8];split
  ·intro b hb;simp only[L6,X7]at hb;exact ih b hb
  ·rename_i h;intro b hb;simp only[M9,W3,N0]at hb;simp at h;rcases hb with rfl|hb
   ·exact h
   ·have:=hs.1 (key b) (M7.2 ⟨b,hb,rfl⟩);omega
theorem gY(w:WFM l c)(hid:∀k a,lkM l k=some a→key a=k){k:Int}{a:α}(hk:lkM l k=none)(ha:key a=k):
  valsM z (upM l c k a)=(valsM z l).take (insI key (valsM z l) k)++a::(valsM z l).drop (insI key (valsM z l) k):=by
 have h0:=fF (z:=z) w hid;have hne:∀b∈valsM z l,key b≠k:=fun b hb=>by
  obtain⟨j,hj⟩:=aK hb;rw[hid j b hj];rintro rfl;rw[hk]at hj;cases hj
 refine fO (key:=key) (c:=ckM l c k) (w.up _ _) (fun j b hj=>?_) ?_ fun b=>?_
 ·rcases aI hj with⟨rfl,rfl⟩| ⟨_,h⟩
  ·exact ha
  ·exact hid _ _ h
 ·rw[P2,N4,List.pairwise_append,V0];have h1:((valsM z l).take (insI key (valsM z l) k)++(valsM z l).drop (insI key (valsM z l) k))=valsM z l:=W4 _ _;have h2:=h0;rw[← h1,P2,List.pairwise_append]at h2;have hlt:∀b∈ (valsM z l).drop (insI key (valsM z l) k),k<key b:=fun b hb=>by
   have:=uE h0 k b hb;have:=hne b (List.mem_of_mem_drop hb);omega
  refine⟨h2.1,⟨fun q hq=>?_,h2.2.1⟩,fun q hq r hr=>?_⟩
  ·obtain⟨b,hb,rfl⟩:=M7.1 hq;rw[ha];exact hlt b hb
  ·obtain⟨b,hb,rfl⟩:=M7.1 hq;have hb2:=uD _ _ b hb;rcases N0.1 hr with rfl|hr
   ·rw[ha];exact hb2
   ·obtain⟨d,hd,rfl⟩:=M7.1 hr;have:=hlt d hd;omega
 ·rw[uC,R4,N0];have hm:∀b,b∈valsM z l↔b∈ (valsM z l).take (insI key (valsM z l) k)∨b∈ (valsM z l).drop (insI key (valsM z l) k):=fun b=>by rw[← R4,W4]
  constructor
  ·intro h;have:b=a∨b∈valsM z l:=by
    rcases h with h|h|h
    ·exact .inr ((hm b).2 (.inl h))
    ·exact .inl h
    ·exact .inr ((hm b).2 (.inr h))
   refine this.imp id fun h=>?_
   obtain⟨j,hj⟩:=aK h;exact⟨j,(by rintro rfl;rw[hk]at hj;cases hj),hj⟩
  ·rintro(h| ⟨j,_,hj⟩)
   ·exact .inr (.inl h)
   ·rcases(hm b).1 (bG hj)with h|h
    ·exact .inl h
    ·exact .inr (.inr h)
theorem qC{L:List α}(hs:(L.map key).Pairwise (· < ·)){i:Nat}{b:α}(hi:L[i]? =some b)(x:α):x∈L.take i++L.drop (i+1)↔x∈L∧key x≠key b:=by
 induction L generalizing i with
 |nil=>simp at hi
 |cons a L ih=>
  rw[N4,V0]at hs;cases i with
  |zero=>
   simp at hi;subst hi;simp only[Q8,O5,P9,X7,W3,N0];constructor
   ·intro h;exact⟨.inr h,by have:=hs.1 (key x) (M7.2 ⟨x,h,rfl⟩);omega⟩
   ·rintro⟨h|h,hne⟩
    ·exact(hne (by rw[h])).elim
    ·exact h
  |succ i=>
   have hi':L[i]? =some b:=(by simpa using hi);have hb:=M3 hi';have hab:=hs.1 (key b) (M7.2 ⟨b,hb,rfl⟩);simp only[P0,Q7,X7,N0];rw[ih hs.2 hi'];constructor
   ·rintro(h| ⟨h,hne⟩)
    ·exact⟨.inl h,by rw[h];omega⟩
    ·exact⟨.inr h,hne⟩
   ·rintro⟨h|h,hne⟩
    ·exact .inl h
    ·exact .inr ⟨h,hne⟩
theorem jA(w:WFM l c)(hid:∀k a,lkM l k=some a→key a=k){k:Int}{i:Nat}{b:α}(hi:(valsM z l)[i]? =some b)(hb:key b=k):
  valsM z (dlM l k)=(valsM z l).take i++(valsM z l).drop (i+1):=by
 have h0:=fF (z:=z) w hid;refine fO (key:=key) (c:=c) (w.dl _) (fun j b hj=>hid _ _ (bO w.keys hj).2) ?_ fun x=>?_
 ·refine h0.sublist ?_;refine List.Sublist.map key ?_;rw[← List.eraseIdx_eq_take_drop_succ];exact List.eraseIdx_sublist _ _
 ·rw[qC h0 hi,hb];constructor
  ·rintro⟨h1,h2⟩;obtain⟨j,hj⟩:=aK h1;refine⟨j,?_⟩;rw[eE w.keys,K4 (by rintro rfl;exact h2 (hid _ _ hj))];exact hj
  ·rintro⟨j,hj⟩;obtain⟨h1,h2⟩:=bO w.keys hj;exact⟨bG h2,by rw[hid _ _ h2];exact h1⟩
theorem uF{L:List α}{i:Nat}{b:α}(hi:L[i]? =some b)(a:α):L.set i a=L.take i++a::L.drop (i+1):=by
 rw[List.set_eq_take_append_cons_drop,L7 (f9.1 hi).1]
theorem fG(w:WFM l c)(hid:∀k a,lkM l k=some a→key a=k){k:Int}{i:Nat}{a b:α}(hi:(valsM z l)[i]? =some b)(hb:key b=k)(ha:key a=k):
  valsM z (upM l c k a)=(valsM z l).set i a:=by
 have h0:=fF (z:=z) w hid;refine fO (key:=key) (c:=ckM l c k) (w.up _ _) (fun j d hj=>?_) ?_ fun x=>?_
 ·rcases aI hj with⟨rfl,rfl⟩| ⟨_,h⟩
  ·exact ha
  ·exact hid _ _ h
 ·have:((valsM z l).set i a).map key=(valsM z l).map key:=by
   rw[List.map_set,ha, ← hb]
   apply S7
   intro q;rw[X3];split
   ·rename_i hq;subst hq;rw[M5,hi];simp[(f9.1 hi).1]
   ·rfl
  rw[this];exact h0
 ·rw[uC,uF hi,R4,N0];have hm:=qC h0 hi x;rw[R4,hb]at hm;constructor
  ·intro h;have:x=a∨(x∈valsM z l∧key x≠k):=by
    rcases h with h|h|h
    ·exact .inr (hm.1 (.inl h))
    ·exact .inl h
    ·exact .inr (hm.1 (.inr h))
   refine this.imp id fun⟨h1,h2⟩=>?_
   obtain⟨j,hj⟩:=aK h1;exact⟨j,by rintro rfl;exact h2 (hid _ _ hj),hj⟩
  ·rintro(h| ⟨j,h1,h2⟩)
   ·exact .inr (.inl h)
   ·rcases hm.2 ⟨bG h2,by rw[hid _ _ h2];exact h1⟩with h|h
    ·exact .inl h
    ·exact .inr (.inr h)
theorem wU(w:WFM l c)(hid:∀k a,lkM l k=some a→key a=k)(p:α→Bool):valsM z (l.filter fun e=>p e.2.1)=(valsM z l).filter p:=by
 have h0:=fF (z:=z) w hid;refine fO (key:=key) (c:=c) (w.filter _) (fun j b hj=>hid _ _ (iV w.keys hj)) (h0.sublist (List.filter_sublist.map _)) fun x=>?_
 rw[T9];constructor
 ·rintro⟨h1,h2⟩;obtain⟨j,hj⟩:=aK h1;exact⟨j,o5 w.keys hj fun n=>h2⟩
 ·rintro⟨j,hj⟩;obtain⟨h1,n,h2,h3⟩:=lz w.keys hj;exact⟨bG h1,h3⟩
end
end
section
attribute [local irreducible] WP WPl WPix Sat
section
variable {s:PS} {e:Ev}
theorem St.clo(N:Nat)(x:St):Clo N x.av:=.agg _ fun c hc=>by
 simp only[N0,T8,or_false]at hc;rcases hc with rfl|rfl|rfl|rfl|rfl|rfl|rfl|rfl|rfl
 ·exact .int _ _
 ·exact Clo.sl _ _ (cm (za8 N) _)
 ·exact Clo.sl _ _ (cm (za9 N) _)
 ·exact Clo.sl _ _ (cm (zb0 N) _)
 ·exact Clo.sl _ _ (cm (za7 N) _)
 all_goals exact .int _ _
theorem St.clo2(N:Nat)(x:St)(b:Bool):Clo N (.tup [x.av,.bool b]):=.tup _ fun c hc=>by
 simp only[N0,T8,or_false]at hc;rcases hc with rfl|rfl
 ·exact St.clo _ _
 ·exact .bool _
theorem zF(s:PS)(a:Int):s.raise 0 a= {s with t1:=topI s.t1 a}:=by
 unfold PS.raise topI;simp only;congr 1
 split<;>split<;>omega
theorem zG(s:PS)(a:Int):s.raise 1 a= {s with t2:=topI s.t2 a}:=by
 unfold PS.raise topI;simp only;congr 1
 split<;>split<;>omega
theorem zH(s:PS)(a:Int):s.raise 2 a= {s with t3:=topI s.t3 a}:=by
 unfold PS.raise topI;simp only;congr 1
 split<;>split<;>omega
theorem zI(s:PS)(a:Int):s.raise 3 a= {s with t4:=topI s.t4 a}:=by
 unfold PS.raise topI;simp only;congr 1
 split<;>split<;>omega
theorem C6(hI:s.Inv)(k:e.kind=1)(hn:lkM s.fo e.a=none):(s.aft e).tell= {s.tell with fo:=s.tell.fo.take (insI (·.id) s.tell.fo e.a)++(⟨e.a,e.b,e.s⟩:Fo)::s.tell.fo.drop (insI (·.id) s.tell.fo e.a),t1:=topI s.tell.t1 e.a}:=by
 have h1:=gY (z:=Fo.z) (key:=(·.id)) hI.w1 (fun k f hk=>(hI.i1 k f hk).1) (a:=(⟨e.a,e.b,e.s⟩:Fo)) hn rfl;unfold PS.aft PS.after;rw[K4 (by omega),K4 (by omega),K4 (by omega),K4 (by omega),K4 (by omega),K4 (by omega),K4 (by omega),K4 (by omega),K4 (by omega),PS.make,L7 k,aP,zF]
 change St.mk _ _ _ _ _ _ _ _ _=_
 simp only[PS.tell,PS.upFo,PS.upNm];rw[h1]
theorem C7(hI:s.Inv)(k:e.kind=3)(hn:lkM s.fe e.a=none):(s.aft e).tell= {s.tell with fe:=s.tell.fe.take (insI (·.id) s.tell.fe e.a)++(⟨e.a,e.b,e.s,e.t⟩:Fe)::s.tell.fe.drop (insI (·.id) s.tell.fe e.a),t2:=topI s.tell.t2 e.a}:=by
 have h1:=gY (z:=Fe.z) (key:=(·.id)) hI.w2 (fun k f hk=>(hI.i2 k f hk).1) (a:=(⟨e.a,e.b,e.s,e.t⟩:Fe)) hn rfl;unfold PS.aft PS.after;rw[K4 (by omega),K4 (by omega),K4 (by omega),K4 (by omega),K4 (by omega),K4 (by omega),K4 (by omega),K4 (by omega),K4 (by omega),PS.make,K4 (by omega),L7 k,aP,zG]
 change St.mk _ _ _ _ _ _ _ _ _=_
 simp only[PS.tell,PS.upFe,PS.upPl];rw[h1]
theorem C8(hI:s.Inv)(k:e.kind=7)(hn:lkM s.it e.a=none):(s.aft e).tell= {s.tell with it:=s.tell.it.take (insI (·.id) s.tell.it e.a)++(⟨e.a,e.b,e.n,e.s,e.t,e.u,false,false,[]⟩:It)::s.tell.it.drop (insI (·.id) s.tell.it e.a),t3:=topI s.tell.t3 e.a}:=by
 have h1:=gY (z:=It.z) (key:=(·.id)) hI.w3 (fun k f hk=>(hI.i3 k f hk).1) (a:=(⟨e.a,e.b,e.n,e.s,e.t,e.u,false,false,[]⟩:It)) hn rfl;unfold PS.aft PS.after;rw[K4 (by omega),K4 (by omega),K4 (by omega),K4 (by omega),K4 (by omega),K4 (by omega),K4 (by omega),K4 (by omega),K4 (by omega),PS.make,K4 (by omega),K4 (by omega),L7 k,zH]
 change St.mk _ _ _ _ _ _ _ _ _=_
 simp only[PS.tell,PS.upIt,PS.upGu];rw[h1]
theorem zJ(hI:s.Inv)(k:e.kind=11)(hn:lkM s.se e.a=none):(s.aft e).tell= {s.tell with se:=s.tell.se.take (insI (·.id) s.tell.se e.a)++(⟨e.a,e.s,e.t⟩:Se)::s.tell.se.drop (insI (·.id) s.tell.se e.a),t4:=topI s.tell.t4 e.a}:=by
 have h1:=gY (z:=Se.z) (key:=(·.id)) hI.w4 (fun k f hk=>(hI.i4 k f hk).1) (a:=(⟨e.a,e.s,e.t⟩:Se)) hn rfl;unfold PS.aft PS.after;rw[K4 (by omega),K4 (by omega),K4 (by omega),K4 (by omega),K4 (by omega),K4 (by omega),K4 (by omega),K4 (by omega),K4 (by omega),PS.make,K4 (by omega),K4 (by omega),K4 (by omega),L7 k,zI]
 change St.mk _ _ _ _ _ _ _ _ _=_
 simp only[PS.tell,PS.upSe,PS.upSe];rw[h1]
theorem C9(hI:s.Inv)(k:e.kind=2){f:Fo}(hf:lkM s.fo e.a=some f){i:Nat}(hi:s.tell.fo[i]? =some f):(s.aft e).tell= {s.tell with fo:=s.tell.fo.take i++s.tell.fo.drop (i+1)}:=by
 have h1:=jA (z:=Fo.z) (key:=(·.id)) hI.w1 (fun k f hk=>(hI.i1 k f hk).1) hi (hI.i1 _ _ hf).1;unfold PS.aft PS.after;rw[L7 k,aP]
 change St.mk _ _ _ _ _ _ _ _ _=_
 simp only[PS.tell,PS.dlFo,PS.dlNm]at h1 ⊢;rw[h1]
theorem zK(hI:s.Inv)(k:e.kind=12){f:Se}(hf:lkM s.se e.a=some f){i:Nat}(hi:s.tell.se[i]? =some f):(s.aft e).tell= {s.tell with se:=s.tell.se.take i++s.tell.se.drop (i+1)}:=by
 have h1:=jA (z:=Se.z) (key:=(·.id)) hI.w4 (fun k f hk=>(hI.i4 k f hk).1) hi (hI.i4 _ _ hf).1;unfold PS.aft PS.after;rw[K4 (by omega),K4 (by omega),K4 (by omega),K4 (by omega),K4 (by omega),K4 (by omega),K4 (by omega),L7 k]
 change St.mk _ _ _ _ _ _ _ _ _=_
 simp only[PS.tell,PS.dlSe]at h1 ⊢;rw[h1]
theorem Ca(hI:s.Inv)(k:e.kind=4){f:Fe}(hf:lkM s.fe e.a=some f){i:Nat}(hi:s.tell.fe[i]? =some f):(s.aft e).tell= {s.tell with fe:=s.tell.fe.take i++s.tell.fe.drop (i+1),it:=s.tell.it.filter fun t=>decide (t.feed≠e.a)}:=by
 have hid:=(hI.i2 _ _ hf).1;have h1:=jA (z:=Fe.z) (key:=(·.id)) hI.w2 (fun k f hk=>(hI.i2 k f hk).1) hi hid;have h2:=wU (z:=It.z) (key:=(·.id)) hI.w3 (fun k f hk=>(hI.i3 k f hk).1) fun t=>decide (t.feed≠e.a)
 have h3:itF s.it f.id=s.it.filter fun x=>decide (x.2.1.feed≠e.a):=by
  unfold itF;rw[hid];refine U6 fun x _=>?_
  simp
 unfold PS.aft PS.after;rw[K4 (by omega),L7 k,hf,Q0,PS.unfeed,aP]
 change St.mk _ _ _ _ _ _ _ _ _=_
 simp only[PS.tell,PS.dlFe,PS.dlPl,hid]at h1 h2 h3 ⊢;rw[h1,h3,h2]
theorem Cb(hI:s.Inv)(k:e.kind=5){f:Fe}(hf:lkM s.fe e.a=some f){i:Nat}(hi:s.tell.fe[i]? =some f):(s.aft e).tell= {s.tell with fe:=s.tell.fe.set i {f with title:=e.t}}:=by
 have hid:=(hI.i2 _ _ hf).1;have h1:=fG (z:=Fe.z) (key:=(·.id)) hI.w2 (fun k f hk=>(hI.i2 k f hk).1) (a:= {f with title:=e.t}) hi hid hid;unfold PS.aft PS.after;rw[K4 (by omega),K4 (by omega),L7 k,hf,Q0]
 change St.mk _ _ _ _ _ _ _ _ _=_
 simp only[PS.tell,PS.upFe]at h1 ⊢;rw[h1]
theorem Cc(hI:s.Inv)(k:e.kind=6){f:Fe}(hf:lkM s.fe e.a=some f){i:Nat}(hi:s.tell.fe[i]? =some f):(s.aft e).tell= {s.tell with fe:=s.tell.fe.set i {f with inn:=e.b}}:=by
 have hid:=(hI.i2 _ _ hf).1;have h1:=fG (z:=Fe.z) (key:=(·.id)) hI.w2 (fun k f hk=>(hI.i2 k f hk).1) (a:= {f with inn:=e.b}) hi hid hid;unfold PS.aft PS.after;rw[K4 (by omega),K4 (by omega),K4 (by omega),L7 k,hf,Q0,aP,aP]
 change St.mk _ _ _ _ _ _ _ _ _=_
 simp only[PS.tell,PS.upFe]at h1 ⊢;rw[h1]
theorem Cd(hI:s.Inv)(k:e.kind=8){f:It}(hf:lkM s.it e.a=some f){i:Nat}(hi:s.tell.it[i]? =some f):(s.aft e).tell= {s.tell with it:=s.tell.it.set i {f with read:=e.n==1}}:=by
 have hid:=(hI.i3 _ _ hf).1;have h1:=fG (z:=It.z) (key:=(·.id)) hI.w3 (fun k f hk=>(hI.i3 k f hk).1) (a:= {f with read:=e.n==1}) hi hid hid;unfold PS.aft PS.after;rw[K4 (by omega),K4 (by omega),K4 (by omega),K4 (by omega),L7 k,hf,Q0]
 change St.mk _ _ _ _ _ _ _ _ _=_
 simp only[PS.tell,PS.upIt]at h1 ⊢;rw[h1]
theorem Ce(hI:s.Inv)(k:e.kind=9){f:It}(hf:lkM s.it e.a=some f){i:Nat}(hi:s.tell.it[i]? =some f):(s.aft e).tell= {s.tell with it:=s.tell.it.set i {f with star:=e.n==1}}:=by
 have hid:=(hI.i3 _ _ hf).1;have h1:=fG (z:=It.z) (key:=(·.id)) hI.w3 (fun k f hk=>(hI.i3 k f hk).1) (a:= {f with star:=e.n==1}) hi hid hid;unfold PS.aft PS.after;rw[K4 (by omega),K4 (by omega),K4 (by omega),K4 (by omega),K4 (by omega),L7 k,hf,Q0]
 change St.mk _ _ _ _ _ _ _ _ _=_
 simp only[PS.tell,PS.upIt]at h1 ⊢;rw[h1]
theorem zL(hI:s.Inv)(k:e.kind=10){f:It}(hf:lkM s.it e.a=some f){i:Nat}(hi:s.tell.it[i]? =some f):(s.aft e).tell= {s.tell with it:=s.tell.it.set i {f with tags:=tgF f.tags e.s e.n}}:=by
 have hid:=(hI.i3 _ _ hf).1;have h1:=fG (z:=It.z) (key:=(·.id)) hI.w3 (fun k f hk=>(hI.i3 k f hk).1) (a:= {f with tags:=tgF f.tags e.s e.n}) hi hid hid;unfold PS.aft PS.after;rw[K4 (by omega),K4 (by omega),K4 (by omega),K4 (by omega),K4 (by omega),K4 (by omega),L7 k,hf,Q0]
 change St.mk _ _ _ _ _ _ _ _ _=_
 simp only[PS.tell,PS.upIt]at h1 ⊢;rw[h1]
theorem zM(k:e.kind=13):(s.aft e).tell= {s.tell with clock:=e.n}:=by
 unfold PS.aft PS.after;rw[K4 (by omega),K4 (by omega),K4 (by omega),K4 (by omega),K4 (by omega),K4 (by omega),K4 (by omega),K4 (by omega),L7 k];rfl
end
theorem J1:∀(i:Nat) (r s:AVal),[AVal.agg [.int .i64 0,.nil (.slice none 0 0),.nil (.slice none 0 0),.nil (.slice none 0 0),.nil (.slice none 0 0),.int .i64 0,.int .i64 0,.int .i64 0,.int .i64 0]][i]? =some r→[PS.z.tell.av][i]? =some s→WkR r s:=fun i r s hr hs=>by
 match i with
 |0=>
  simp at hr hs;subst hr;subst hs;refine⟨rfl,fun j c d hc hd=>?_⟩
  match j with
  |0|5|6|7|8=>simp[PS.tell,PS.z,St.av,AVal.cells]at hc hd;subst hc;subst hd;exact⟨Wk.refl _,id⟩
  |1|2|3|4=>
   simp[PS.tell,PS.z,St.av,AVal.cells,valsM,sortI]at hc hd;subst hc;subst hd;exact⟨fun w S μ x hx=>by cases hx;exact .sl0 _ _ _,fun _=>rfl⟩
  |j+9=>simp[AVal.cells]at hc
 |i+1=>simp at hr
variable (G:Nat→Option (List AVal))
theorem Cf(hc:GClo (CT G)){s:PS}(hI:s.Inv)(hN:s.Nam)(e:Ev)(k1:e.kind=1)(hok:s.ok L0 e=true)(h:Heap):Sat (CT G) 49 [s.tell.av,e.av] h (fun r h'=>r=.tup [(s.aft e).tell.av,.bool true]∧h'=h):=by
 have hF:=aX G hc hI hN e;rw[hok]at hF;have hl1:s.tell.fo.length≤100000:=by have:=hI.up.l1;omega
 have hl2:s.tell.fe.length≤100000:=by have:=hI.up.l2;omega
 have hl3:s.tell.it.length≤100000:=by have:=hI.up.l3;omega
 have hl4:s.tell.se.length≤100000:=by have:=aM (z:=Se.z) s.se;have:=hI.l4;show(valsM Se.z s.se).length≤_;omega
 have hno:lkM s.fo e.a=none:=by
  unfold PS.ok PS.fits at hok;rw[K5]at hok;have:=hok.2;rw[L7 k1]at this;simp only[K5,O6]at this;exact bN this.1.1.1.1
 have hM:=sK G s.tell e k1 hl1;rw[← C6 hI k1 hno]at hM;simp only[X9,k1]at hF hM;have F:=k1;refine sb [.cell 4 41,.tmp 5] Tryz.func49 ?_;intro Q hQ;refine wk F ?_;refine kq F (hF _) ?_;refine kq F (hM _) ?_;refine ye hQ F ?_;exact K9 (St.clo2 _ _ _) ⟨rfl,rfl⟩
theorem Cg(hc:GClo (CT G)){s:PS}(hI:s.Inv)(hN:s.Nam)(e:Ev)(k1:e.kind=3)(hok:s.ok L0 e=true)(h:Heap):Sat (CT G) 49 [s.tell.av,e.av] h (fun r h'=>r=.tup [(s.aft e).tell.av,.bool true]∧h'=h):=by
 have hF:=aX G hc hI hN e;rw[hok]at hF;have hl1:s.tell.fo.length≤100000:=by have:=hI.up.l1;omega
 have hl2:s.tell.fe.length≤100000:=by have:=hI.up.l2;omega
 have hl3:s.tell.it.length≤100000:=by have:=hI.up.l3;omega
 have hl4:s.tell.se.length≤100000:=by have:=aM (z:=Se.z) s.se;have:=hI.l4;show(valsM Se.z s.se).length≤_;omega
 have hno:lkM s.fe e.a=none:=by
  unfold PS.ok PS.fits at hok;rw[K5]at hok;have:=hok.2;rw[K4 (by omega),K4 (by omega),L7 k1]at this;simp only[K5,O6]at this;exact bN this.1.1.1
 have hM:=sL G s.tell e k1 hl2;rw[← C7 hI k1 hno]at hM;simp only[X9,k1]at hF hM;have F:=k1;refine sb [.cell 4 41,.tmp 5] Tryz.func49 ?_;intro Q hQ;refine wk F ?_;refine kq F (hF _) ?_;refine kq F (hM _) ?_;refine ye hQ F ?_;exact K9 (St.clo2 _ _ _) ⟨rfl,rfl⟩
theorem Ch(hc:GClo (CT G)){s:PS}(hI:s.Inv)(hN:s.Nam)(e:Ev)(k1:e.kind=7)(hok:s.ok L0 e=true)(h:Heap):Sat (CT G) 49 [s.tell.av,e.av] h (fun r h'=>r=.tup [(s.aft e).tell.av,.bool true]∧h'=h):=by
 have hF:=aX G hc hI hN e;rw[hok]at hF;have hl1:s.tell.fo.length≤100000:=by have:=hI.up.l1;omega
 have hl2:s.tell.fe.length≤100000:=by have:=hI.up.l2;omega
 have hl3:s.tell.it.length≤100000:=by have:=hI.up.l3;omega
 have hl4:s.tell.se.length≤100000:=by have:=aM (z:=Se.z) s.se;have:=hI.l4;show(valsM Se.z s.se).length≤_;omega
 have hno:lkM s.it e.a=none:=by
  unfold PS.ok PS.fits at hok;rw[K5]at hok;have:=hok.2;rw[K4 (by omega),K4 (by omega),K4 (by omega),K4 (by omega),K4 (by omega),L7 k1]at this;simp only[K5,O6]at this;exact bN this.1.1.1
 have hM:=sM G s.tell e k1 hl3;rw[← C8 hI k1 hno]at hM;simp only[X9,k1]at hF hM;have F:=k1;refine sb [.cell 4 41,.tmp 5] Tryz.func49 ?_;intro Q hQ;refine wk F ?_;refine kq F (hF _) ?_;refine kq F (hM _) ?_;refine ye hQ F ?_;exact K9 (St.clo2 _ _ _) ⟨rfl,rfl⟩
theorem zN(hc:GClo (CT G)){s:PS}(hI:s.Inv)(hN:s.Nam)(e:Ev)(k1:e.kind=11)(hok:s.ok L0 e=true)(h:Heap):Sat (CT G) 49 [s.tell.av,e.av] h (fun r h'=>r=.tup [(s.aft e).tell.av,.bool true]∧h'=h):=by
 have hF:=aX G hc hI hN e;rw[hok]at hF;have hl1:s.tell.fo.length≤100000:=by have:=hI.up.l1;omega
 have hl2:s.tell.fe.length≤100000:=by have:=hI.up.l2;omega
 have hl3:s.tell.it.length≤100000:=by have:=hI.up.l3;omega
 have hl4:s.tell.se.length≤100000:=by have:=aM (z:=Se.z) s.se;have:=hI.l4;show(valsM Se.z s.se).length≤_;omega
 have hno:lkM s.se e.a=none:=by
  unfold PS.ok PS.fits at hok;rw[K5]at hok;have:=hok.2;rw[K4 (by omega),K4 (by omega),K4 (by omega),K4 (by omega),K4 (by omega),K4 (by omega),K4 (by omega),K4 (by omega),L7 k1]at this;simp only[K5,O6]at this;exact bN this.1
 have hM:=pG G s.tell e k1 hl4;rw[← zJ hI k1 hno]at hM;simp only[X9,k1]at hF hM;have F:=k1;refine sb [.cell 4 41,.tmp 5] Tryz.func49 ?_;intro Q hQ;refine wk F ?_;refine kq F (hF _) ?_;refine kq F (hM _) ?_;refine ye hQ F ?_;exact K9 (St.clo2 _ _ _) ⟨rfl,rfl⟩
theorem Ci(hc:GClo (CT G)){s:PS}(hI:s.Inv)(hN:s.Nam)(e:Ev)(k1:e.kind=2)(hok:s.ok L0 e=true)(h:Heap):Sat (CT G) 49 [s.tell.av,e.av] h (fun r h'=>r=.tup [(s.aft e).tell.av,.bool true]∧h'=h):=by
 have hF:=aX G hc hI hN e;rw[hok]at hF;have hl1:s.tell.fo.length≤100000:=by have:=hI.up.l1;omega
 have hl2:s.tell.fe.length≤100000:=by have:=hI.up.l2;omega
 have hl3:s.tell.it.length≤100000:=by have:=hI.up.l3;omega
 have hl4:s.tell.se.length≤100000:=by have:=aM (z:=Se.z) s.se;have:=hI.l4;show(valsM Se.z s.se).length≤_;omega
 have hso:(lkM s.fo e.a).isSome=true:=by
  unfold PS.ok PS.fits at hok;rw[K5]at hok;have:=hok.2;rw[K4 (by omega),L7 k1]at this;simp only[K5]at this;exact this.1
 obtain⟨f,hf⟩:=M8.1 hso;obtain⟨i,p1,p2,_⟩:=bn (show fnd (·.id) s.tell.fo e.a=some f by rw[hI.fndFo,hf]);have hil:i<s.tell.fo.length:=(f9.1 p1).1;have hM:=sI G s.tell e k1 i p2 hil hl1;rw[← C9 hI k1 hf p1]at hM;simp only[X9,k1]at hF hM;have F:=k1;refine sb [.cell 4 41,.tmp 5] Tryz.func49 ?_;intro Q hQ;refine wk F ?_;refine kq F (hF _) ?_;refine kq F (hM _) ?_;refine ye hQ F ?_;exact K9 (St.clo2 _ _ _) ⟨rfl,rfl⟩
theorem zO(hc:GClo (CT G)){s:PS}(hI:s.Inv)(hN:s.Nam)(e:Ev)(k1:e.kind=12)(hok:s.ok L0 e=true)(h:Heap):Sat (CT G) 49 [s.tell.av,e.av] h (fun r h'=>r=.tup [(s.aft e).tell.av,.bool true]∧h'=h):=by
 have hF:=aX G hc hI hN e;rw[hok]at hF;have hl1:s.tell.fo.length≤100000:=by have:=hI.up.l1;omega
 have hl2:s.tell.fe.length≤100000:=by have:=hI.up.l2;omega
 have hl3:s.tell.it.length≤100000:=by have:=hI.up.l3;omega
 have hl4:s.tell.se.length≤100000:=by have:=aM (z:=Se.z) s.se;have:=hI.l4;show(valsM Se.z s.se).length≤_;omega
 have hso:(lkM s.se e.a).isSome=true:=by
  unfold PS.ok PS.fits at hok;rw[K5]at hok;have:=hok.2;rw[K4 (by omega),K4 (by omega),K4 (by omega),K4 (by omega),K4 (by omega),K4 (by omega),K4 (by omega),K4 (by omega),K4 (by omega),L7 k1]at this;exact this
 obtain⟨f,hf⟩:=M8.1 hso;obtain⟨i,p1,p2,_⟩:=bn (show fnd (·.id) s.tell.se e.a=some f by rw[hI.fndSe,hf]);have hil:i<s.tell.se.length:=(f9.1 p1).1;have hM:=pF G s.tell e k1 i p2 hil hl4;rw[← zK hI k1 hf p1]at hM;simp only[X9,k1]at hF hM;have F:=k1;refine sb [.cell 4 41,.tmp 5] Tryz.func49 ?_;intro Q hQ;refine wk F ?_;refine kq F (hF _) ?_;refine kq F (hM _) ?_;refine ye hQ F ?_;exact K9 (St.clo2 _ _ _) ⟨rfl,rfl⟩
theorem Cj(hc:GClo (CT G)){s:PS}(hI:s.Inv)(hN:s.Nam)(e:Ev)(k1:e.kind=4)(hok:s.ok L0 e=true)(h:Heap):Sat (CT G) 49 [s.tell.av,e.av] h (fun r h'=>r=.tup [(s.aft e).tell.av,.bool true]∧h'=h):=by
 have hF:=aX G hc hI hN e;rw[hok]at hF;have hl1:s.tell.fo.length≤100000:=by have:=hI.up.l1;omega
 have hl2:s.tell.fe.length≤100000:=by have:=hI.up.l2;omega
 have hl3:s.tell.it.length≤100000:=by have:=hI.up.l3;omega
 have hl4:s.tell.se.length≤100000:=by have:=aM (z:=Se.z) s.se;have:=hI.l4;show(valsM Se.z s.se).length≤_;omega
 have hso:(lkM s.fe e.a).isSome=true:=by
  unfold PS.ok PS.fits at hok;rw[K5]at hok;have:=hok.2;rw[K4 (by omega),K4 (by omega),K4 (by omega),L7 (by omega)]at this;exact this
 obtain⟨f,hf⟩:=M8.1 hso;obtain⟨i,p1,p2,_⟩:=bn (show fnd (·.id) s.tell.fe e.a=some f by rw[hI.fndFe,hf]);have hil:i<s.tell.fe.length:=(f9.1 p1).1;have hM:=sJ G s.tell e k1 i p2 hil hl2 hl3;rw[← Ca hI k1 hf p1]at hM;simp only[X9,k1]at hF hM;have F:=k1;refine sb [.cell 4 41,.tmp 5] Tryz.func49 ?_;intro Q hQ;refine wk F ?_;refine kq F (hF _) ?_;refine kq F (hM _) ?_;refine ye hQ F ?_;exact K9 (St.clo2 _ _ _) ⟨rfl,rfl⟩
theorem Ck(hc:GClo (CT G)){s:PS}(hI:s.Inv)(hN:s.Nam)(e:Ev)(k1:e.kind=5)(hok:s.ok L0 e=true)(h:Heap):Sat (CT G) 49 [s.tell.av,e.av] h (fun r h'=>r=.tup [(s.aft e).tell.av,.bool true]∧h'=h):=by
 have hF:=aX G hc hI hN e;rw[hok]at hF;have hl1:s.tell.fo.length≤100000:=by have:=hI.up.l1;omega
 have hl2:s.tell.fe.length≤100000:=by have:=hI.up.l2;omega
 have hl3:s.tell.it.length≤100000:=by have:=hI.up.l3;omega
 have hl4:s.tell.se.length≤100000:=by have:=aM (z:=Se.z) s.se;have:=hI.l4;show(valsM Se.z s.se).length≤_;omega
 have hso:(lkM s.fe e.a).isSome=true:=by
  unfold PS.ok PS.fits at hok;rw[K5]at hok;have:=hok.2;rw[K4 (by omega),K4 (by omega),K4 (by omega),L7 (by omega)]at this;exact this
 obtain⟨f,hf⟩:=M8.1 hso;obtain⟨i,p1,p2,_⟩:=bn (show fnd (·.id) s.tell.fe e.a=some f by rw[hI.fndFe,hf]);have hil:i<s.tell.fe.length:=(f9.1 p1).1;have hM:=ux G s.tell e k1 hF i f p1 p2 hl2 h;rw[← Cb hI k1 hf p1]at hM;exact hM
theorem Cl(hc:GClo (CT G)){s:PS}(hI:s.Inv)(hN:s.Nam)(e:Ev)(k1:e.kind=6)(hok:s.ok L0 e=true)(h:Heap):Sat (CT G) 49 [s.tell.av,e.av] h (fun r h'=>r=.tup [(s.aft e).tell.av,.bool true]∧h'=h):=by
 have hF:=aX G hc hI hN e;rw[hok]at hF;have hl1:s.tell.fo.length≤100000:=by have:=hI.up.l1;omega
 have hl2:s.tell.fe.length≤100000:=by have:=hI.up.l2;omega
 have hl3:s.tell.it.length≤100000:=by have:=hI.up.l3;omega
 have hl4:s.tell.se.length≤100000:=by have:=aM (z:=Se.z) s.se;have:=hI.l4;show(valsM Se.z s.se).length≤_;omega
 have hso:(lkM s.fe e.a).isSome=true:=by
  unfold PS.ok PS.fits at hok;rw[K5]at hok;have:=hok.2;rw[K4 (by omega),K4 (by omega),K4 (by omega),K4 (by omega),L7 k1]at this;simp only[K5]at this;exact this.1
 obtain⟨f,hf⟩:=M8.1 hso;obtain⟨i,p1,p2,_⟩:=bn (show fnd (·.id) s.tell.fe e.a=some f by rw[hI.fndFe,hf]);have hil:i<s.tell.fe.length:=(f9.1 p1).1;have hM:=uy G s.tell e k1 hF i f p1 p2 hl2 h;rw[← Cc hI k1 hf p1]at hM;exact hM
theorem Cm(hc:GClo (CT G)){s:PS}(hI:s.Inv)(hN:s.Nam)(e:Ev)(k1:e.kind=8)(hok:s.ok L0 e=true)(h:Heap):Sat (CT G) 49 [s.tell.av,e.av] h (fun r h'=>r=.tup [(s.aft e).tell.av,.bool true]∧h'=h):=by
 have hF:=aX G hc hI hN e;rw[hok]at hF;have hl1:s.tell.fo.length≤100000:=by have:=hI.up.l1;omega
 have hl2:s.tell.fe.length≤100000:=by have:=hI.up.l2;omega
 have hl3:s.tell.it.length≤100000:=by have:=hI.up.l3;omega
 have hl4:s.tell.se.length≤100000:=by have:=aM (z:=Se.z) s.se;have:=hI.l4;show(valsM Se.z s.se).length≤_;omega
 have hso:(lkM s.it e.a).isSome=true:=by
  unfold PS.ok PS.fits at hok;rw[K5]at hok;have:=hok.2;rw[K4 (by omega),K4 (by omega),K4 (by omega),K4 (by omega),K4 (by omega),K4 (by omega),L7 (by omega)]at this;exact this
 obtain⟨f,hf⟩:=M8.1 hso;obtain⟨i,p1,p2,_⟩:=bn (show fnd (·.id) s.tell.it e.a=some f by rw[hI.fndIt,hf]);have hil:i<s.tell.it.length:=(f9.1 p1).1;have hM:=uz G s.tell e k1 hF i f p1 p2 hl3 h;rw[← Cd hI k1 hf p1]at hM;exact hM
theorem Cn(hc:GClo (CT G)){s:PS}(hI:s.Inv)(hN:s.Nam)(e:Ev)(k1:e.kind=9)(hok:s.ok L0 e=true)(h:Heap):Sat (CT G) 49 [s.tell.av,e.av] h (fun r h'=>r=.tup [(s.aft e).tell.av,.bool true]∧h'=h):=by
 have hF:=aX G hc hI hN e;rw[hok]at hF;have hl1:s.tell.fo.length≤100000:=by have:=hI.up.l1;omega
 have hl2:s.tell.fe.length≤100000:=by have:=hI.up.l2;omega
 have hl3:s.tell.it.length≤100000:=by have:=hI.up.l3;omega
 have hl4:s.tell.se.length≤100000:=by have:=aM (z:=Se.z) s.se;have:=hI.l4;show(valsM Se.z s.se).length≤_;omega
 have hso:(lkM s.it e.a).isSome=true:=by
  unfold PS.ok PS.fits at hok;rw[K5]at hok;have:=hok.2;rw[K4 (by omega),K4 (by omega),K4 (by omega),K4 (by omega),K4 (by omega),K4 (by omega),L7 (by omega)]at this;exact this
 obtain⟨f,hf⟩:=M8.1 hso;obtain⟨i,p1,p2,_⟩:=bn (show fnd (·.id) s.tell.it e.a=some f by rw[hI.fndIt,hf]);have hil:i<s.tell.it.length:=(f9.1 p1).1;have hM:=uA G s.tell e k1 hF i f p1 p2 hl3 h;rw[← Ce hI k1 hf p1]at hM;exact hM
theorem zP(hc:GClo (CT G)){s:PS}(hI:s.Inv)(hN:s.Nam)(e:Ev)(k1:e.kind=10)(hok:s.ok L0 e=true)(h:Heap):Sat (CT G) 49 [s.tell.av,e.av] h (fun r h'=>r=.tup [(s.aft e).tell.av,.bool true]∧h'=h):=by
 have hF:=aX G hc hI hN e;rw[hok]at hF;have hl1:s.tell.fo.length≤100000:=by have:=hI.up.l1;omega
 have hl2:s.tell.fe.length≤100000:=by have:=hI.up.l2;omega
 have hl3:s.tell.it.length≤100000:=by have:=hI.up.l3;omega
 have hl4:s.tell.se.length≤100000:=by have:=aM (z:=Se.z) s.se;have:=hI.l4;show(valsM Se.z s.se).length≤_;omega
 have hso:(lkM s.it e.a).isSome=true:=by
  unfold PS.ok PS.fits at hok;rw[K5]at hok;have:=hok.2;rw[K4 (by omega),K4 (by omega),K4 (by omega),K4 (by omega),K4 (by omega),K4 (by omega),K4 (by omega),L7 k1]at this;simp only[K5]at this;exact this.1
 obtain⟨f,hf⟩:=M8.1 hso;obtain⟨i,p1,p2,_⟩:=bn (show fnd (·.id) s.tell.it e.a=some f by rw[hI.fndIt,hf]);have hil:i<s.tell.it.length:=(f9.1 p1).1;have hn01:e.n=0∨e.n=1:=by
  unfold PS.ok PS.fits at hok;rw[K5]at hok;have hq:=hok.1;unfold Leaf.ck at hq;rw[K5]at hq;have hq:=hq.1;unfold Leaf.right at hq;rw[K4 (by omega),K4 (by omega),K4 (by omega),K4 (by omega),K4 (by omega),K4 (by omega),K4 (by omega),L7 k1]at hq;simp only[K5,P8,beq_iff_eq]at hq;exact hq.2.1
 have hM:=sN G s.tell e k1 hF i f p1 p2 hl3 (by have:=(hI.tg _ _ hf).2;omega) h;rw[zz (hI.tg _ _ hf).1 e.s hn01, ← zL hI k1 hf p1]at hM;exact hM
theorem zQ(hc:GClo (CT G)){s:PS}(hI:s.Inv)(hN:s.Nam)(e:Ev)(k1:e.kind=13)(hok:s.ok L0 e=true)(h:Heap):Sat (CT G) 49 [s.tell.av,e.av] h (fun r h'=>r=.tup [(s.aft e).tell.av,.bool true]∧h'=h):=by
 have hF:=aX G hc hI hN e;rw[hok]at hF;have hl1:s.tell.fo.length≤100000:=by have:=hI.up.l1;omega
 have hl2:s.tell.fe.length≤100000:=by have:=hI.up.l2;omega
 have hl3:s.tell.it.length≤100000:=by have:=hI.up.l3;omega
 have hl4:s.tell.se.length≤100000:=by have:=aM (z:=Se.z) s.se;have:=hI.l4;show(valsM Se.z s.se).length≤_;omega
 have ht:=zM (s:=s) k1;simp only[X9,k1]at hF;have F:=k1;refine sb [.cell 4 41,.tmp 5] Tryz.func49 ?_;intro Q hQ;refine wk F ?_;refine kq F (hF _) ?_;refine ye hQ F ?_;rw[ht];exact K9 (St.clo2 _ {s.tell with clock:=e.n} _) ⟨rfl,rfl⟩
theorem sO(hc:GClo (CT G)){s:PS}(hI:s.Inv)(hN:s.Nam)(e:Ev)(h:Heap):Sat (CT G) 49 [s.tell.av,e.av] h (fun r h'=>r=.tup [(s.step L0 e).tell.av,.bool (s.ok L0 e)]∧h'=h):=by
 cases hok:s.ok L0 e with
 |false=>
  have hst:s.step L0 e=s:=by unfold PS.step;rw[hok];rfl
  have hF:=aX G hc hI hN e;rw[hok]at hF;rw[hst];refine sb [.cell 4 41,.tmp 5] Tryz.func49 ?_;intro Q hQ;refine wk trivial ?_;refine kq trivial (hF _) ?_;refine ye hQ trivial ?_;exact K9 (St.clo2 _ s.tell _) ⟨rfl,rfl⟩
 |true=>
  have hst:s.step L0 e=s.aft e:=by unfold PS.step;rw[hok];rfl
  rw[hst];by_cases k1:e.kind=1
  ·exact Cf G hc hI hN e k1 hok h
  by_cases k2:e.kind=2
  ·exact Ci G hc hI hN e k2 hok h
  by_cases k3:e.kind=3
  ·exact Cg G hc hI hN e k3 hok h
  by_cases k4:e.kind=4
  ·exact Cj G hc hI hN e k4 hok h
  by_cases k5:e.kind=5
  ·exact Ck G hc hI hN e k5 hok h
  by_cases k6:e.kind=6
  ·exact Cl G hc hI hN e k6 hok h
  by_cases k7:e.kind=7
  ·exact Ch G hc hI hN e k7 hok h
  by_cases k8:e.kind=8
  ·exact Cm G hc hI hN e k8 hok h
  by_cases k9:e.kind=9
  ·exact Cn G hc hI hN e k9 hok h
  by_cases k10:e.kind=10
  ·exact zP G hc hI hN e k10 hok h
  by_cases k11:e.kind=11
  ·exact zN G hc hI hN e k11 hok h
  by_cases k12:e.kind=12
  ·exact zO G hc hI hN e k12 hok h
  by_cases k13:e.kind=13
  ·exact zQ G hc hI hN e k13 hok h
  exfalso;unfold PS.ok PS.fits at hok;rw[K5]at hok;have hr:=hok.1;unfold Leaf.ck at hr;rw[K5]at hr;have hr:=hr.1;unfold Leaf.right at hr;rw[K4 k1,K4 (by omega),K4 k3,K4 k5,K4 k6,K4 k7,K4 (by omega),K4 k10,K4 k11,K4 k13]at hr;cases hr
theorem uG(hc:GClo (CT G))(es:List Ev)(hl:es.length≤100000)(h:Heap):Sat (CT G) 19 [.sl 7 (es.map Ev.av)] h (fun r h'=>r=(es.foldl (PS.step L0) PS.z).tell.av∧h'=h):=by
 have hel:(es.map Ev.av).length=es.length:=L5 ..;have F:=hel;refine sb [.cell 2 41] Tryz.func19 ?_;intro Q hQ;refine wk F ?_;refine lm (fun nL tL hL=>∃(k:Nat) (s:PS),es.length-k=nL∧h++[.row 41 9 0 [.agg [.int .i64 0,.nil (.slice none 0 0),.nil (.slice none 0 0),.nil (.slice none 0 0),.nil (.slice none 0 0),.int .i64 0,.int .i64 0,.int .i64 0,.int .i64 0]],.row 41 9 0 [s.tell.av]]=hL∧tL 0=.sl 7 (es.map Ev.av)∧tL 2=.hp h.length 0 0 0∧tL 3=.hp (h.length+1) 0 0 0∧tL 4=.int .i64 k∧k≤es.length∧s=(es.take k).foldl (PS.step L0) PS.z) ((fun(k:Nat) (s:PS)=>(es.length-k:Nat)) (0) (PS.z)) ?_ ?_
 ·refine⟨_,_,Weak.rows (p:=h.length+1) (v:=0) (rows:=[.agg [.int .i64 0,.nil (.slice none 0 0),.nil (.slice none 0 0),.nil (.slice none 0 0),.nil (.slice none 0 0),.int .i64 0,.int .i64 0,.int .i64 0,.int .i64 0]]) [PS.z.tell.av] (by rw[bx _ rfl];rfl) rfl J1,⟨0,PS.z,rfl,by rw[ke _ rfl];rfl,?_,?_,?_,?_,by omega,rfl⟩⟩;all_goals try exact zZz F
 rintro _ s2 h' ⟨k,s,rfl,rfl,e0,e2,e3,e4,hk,hs⟩ K2 hK2;simp only[ah,ao,Nat.reduceEqDiff, ↓reduceIte]at e0 e2 e3 e4;have F:=F5 F e0 e2 e3 e4;have hI:s.Inv:=by rw[hs];exact PS.Inv.z.fold _
 have hN:s.Nam:=by rw[hs];exact PS.Nam.z.fold .z _
 refine wk F ?_;refine cq F (fun c1=>?_) (fun c1=>?_)<;>(try exact c1.elim)<;>(refine wk F ?_)
 ·have c2:k<es.length:=by omega
  obtain⟨e,he,_⟩:=ac c2;have hA:=sO G hc hI hN e;have hst:s.step L0 e=(es.take (k+1)).foldl (PS.step L0) PS.z:=by rw[O7,List.foldl_append,he,hs];rfl
  have F:=F3 F c2 he
  skip
  try refine sq F ?_
  refine wn F ?_;refine ay 10 [9] [true,true,true,true,true,true,true,true,true,false] (.one 9 [] .fin) (by decide+kernel) (by kernel_rfl) (by decide+kernel) ?_;simp only[aC,aD,az];try refine sq F ?_
  repeat' ((first|refine ai ?_|refine aj ?_|refine am ?_ ?_)<;>try refine sq F ?_)
  all_goals try refine wn F ?_
  refine aG (hA _) ?_;try refine sq F ?_
  refine wn F ?_;repeat' ((first|refine ai ?_|refine aj ?_|refine am ?_ ?_)<;>try refine sq F ?_)
  all_goals try refine wn F ?_
  skip
  refine hK2 _ _ _ (L8 ⟨k+1,s.step L0 e,rfl,rfl,?_,?_,?_,?_,by omega,hst⟩) (by omega);all_goals try exact zZz F
 ·rw[M4 (by omega)]at hs;try refine sq F ?_
  refine wk F ?_;refine ye hQ F ?_;rw[← hs];exact K9 (St.clo _ s.tell) ⟨rfl,rfl⟩
end
end Go.Av
