/- Parts. -/
import Derived.Test.YtnolelibaahimaaGreatDoorQDr4
set_option linter.unusedSimpArgs false
set_option linter.unusedVariables false
set_option linter.unusedSectionVars false
set_option linter.unnecessarySimpa false
set_option maxRecDepth 100000
set_option maxHeartbeats 16000000
namespace Go.Av
open Go Go.Proofs Go.RowKit
section
structure Ev where
 kind:Int
 a:Int
 b:Int
 n:Int
 s:Bs
 t:Bs
 u:Bs
def Ev.av(e:Ev):AVal:=.agg [.int .i64 e.kind,.int .i64 e.a,.int .i64 e.b,.int .i64 e.n,.str e.s,.str e.t,.str e.u]
structure Fo where
 id:Int
 inn:Int
 name:Bs
structure Fe where
 id:Int
 inn:Int
 url:Bs
 title:Bs
structure It where
 id:Int
 feed:Int
 date:Int
 guid:Bs
 title:Bs
 link:Bs
 read:Bool
 star:Bool
 tags:List Bs
structure Se where
 id:Int
 name:Bs
 query:Bs
def Fo.av(f:Fo):AVal:=.agg [.int .i64 f.id,.int .i64 f.inn,.str f.name]
def Fe.av(f:Fe):AVal:=.agg [.int .i64 f.id,.int .i64 f.inn,.str f.url,.str f.title]
def It.av(t:It):AVal:=.agg [.int .i64 t.id,.int .i64 t.feed,.int .i64 t.date,.str t.guid,.str t.title,.str t.link,.bool t.read,.bool t.star,.sl 1 (t.tags.map .str)]
def Se.av(q:Se):AVal:=.agg [.int .i64 q.id,.str q.name,.str q.query]
def Fo.z:Fo:=⟨0,0,[]⟩
def Fe.z:Fe:=⟨0,0,[],[]⟩
def It.z:It:=⟨0,0,0,[],[],[],false,false,[]⟩
def Se.z:Se:=⟨0,[],[]⟩
@[go_sem] theorem Ev.av_eq(e:Ev):e.av=.agg [.int .i64 e.kind,.int .i64 e.a,.int .i64 e.b,.int .i64 e.n,.str e.s,.str e.t,.str e.u]:=(rfl)
@[go_sem] theorem Fo.av_eq(f:Fo):f.av=.agg [.int .i64 f.id,.int .i64 f.inn,.str f.name]:=(rfl)
@[go_sem] theorem Fe.av_eq(f:Fe):f.av=.agg [.int .i64 f.id,.int .i64 f.inn,.str f.url,.str f.title]:=(rfl)
@[go_sem] theorem It.av_eq(t:It):t.av=.agg [.int .i64 t.id,.int .i64 t.feed,.int .i64 t.date,.str t.guid,.str t.title,.str t.link,.bool t.read,.bool t.star,.sl 1 (t.tags.map .str)]:=(rfl)
@[go_sem] theorem Se.av_eq(q:Se):q.av=.agg [.int .i64 q.id,.str q.name,.str q.query]:=(rfl)
@[go_sem] theorem Hp(o:Option Fo):v1 (.agg [.int .i64 0,.int .i64 0,.str []]) Fo.av o=(o.getD Fo.z).av:=mh (d:=Fo.z) rfl o
@[go_sem] theorem Hq(o:Option Fe):v1 (.agg [.int .i64 0,.int .i64 0,.str [],.str []]) Fe.av o=(o.getD Fe.z).av:=mh (d:=Fe.z) rfl o
@[go_sem] theorem Hr(o:Option It):v1 (.agg [.int .i64 0,.int .i64 0,.int .i64 0,.str [],.str [],.str [],.bool false,.bool false,.sl 1 []]) It.av o=(o.getD It.z).av:=mh (d:=It.z) rfl o
@[go_sem] theorem Hs(o:Option Se):v1 (.agg [.int .i64 0,.str [],.str []]) Se.av o=(o.getD Se.z).av:=mh (d:=Se.z) rfl o
@[go_sem] theorem Ht(c:Nat)(l:ML Int Fo)(x i n:Int)(s:Bs):putM (encM iA Fo.av l) c (.int .i64 x) (.agg [.int .i64 i,.int .i64 n,.str s]) (ixM l x)=.mp (encM iA Fo.av (upM l c x ⟨i,n,s⟩)) (ckM l c x):=kp c l x ⟨i,n,s⟩ rfl
@[go_sem] theorem Hu(c:Nat)(l:ML Int Fe)(x i n:Int)(s t:Bs):putM (encM iA Fe.av l) c (.int .i64 x) (.agg [.int .i64 i,.int .i64 n,.str s,.str t]) (ixM l x)=.mp (encM iA Fe.av (upM l c x ⟨i,n,s,t⟩)) (ckM l c x):=kp c l x ⟨i,n,s,t⟩ rfl
@[go_sem] theorem Hv(c:Nat)(l:ML Int It)(x i f d:Int)(g t u:Bs)(r s:Bool)(ts:List Bs):putM (encM iA It.av l) c (.int .i64 x) (.agg [.int .i64 i,.int .i64 f,.int .i64 d,.str g,.str t,.str u,.bool r,.bool s,.sl 1 (ts.map .str)]) (ixM l x)=.mp (encM iA It.av (upM l c x ⟨i,f,d,g,t,u,r,s,ts⟩)) (ckM l c x):=kp c l x ⟨i,f,d,g,t,u,r,s,ts⟩ rfl
@[go_sem] theorem Ha(c:Nat)(l:ML Int It)(x i f d:Int)(g t u:Bs)(r s:Bool):putM (encM iA It.av l) c (.int .i64 x) (.agg [.int .i64 i,.int .i64 f,.int .i64 d,.str g,.str t,.str u,.bool r,.bool s,.sl 1 []]) (ixM l x)=.mp (encM iA It.av (upM l c x ⟨i,f,d,g,t,u,r,s,[]⟩)) (ckM l c x):=kp c l x ⟨i,f,d,g,t,u,r,s,[]⟩ rfl
@[go_sem] theorem Hw(c:Nat)(l:ML Int Se)(x i:Int)(s t:Bs):putM (encM iA Se.av l) c (.int .i64 x) (.agg [.int .i64 i,.str s,.str t]) (ixM l x)=.mp (encM iA Se.av (upM l c x ⟨i,s,t⟩)) (ckM l c x):=kp c l x ⟨i,s,t⟩ rfl
@[go_sem] theorem Hx(n:Int):iA n=.int .i64 n:=(rfl)
structure PS where
 clock:Int
 fo:ML Int Fo
 fe:ML Int Fe
 it:ML Int It
 se:ML Int Se
 nm:ML (Int×Bs) Int
 pl:ML Bs Int
 gu:ML (Int×Bs) Int
 he:ML Int Int
 c1:Nat
 c2:Nat
 c3:Nat
 c4:Nat
 c5:Nat
 c6:Nat
 c7:Nat
 c8:Nat
 t1:Int
 t2:Int
 t3:Int
 t4:Int
def PS.row(n:Nat)(s:PS):AVal:=.agg [.int .i64 s.clock,.hm n,.hm (n+1),.hm (n+2),.hm (n+3),.hm (n+4),.hm (n+5),.hm (n+6),.hm (n+7),.int .i64 s.t1,.int .i64 s.t2,.int .i64 s.t3,.int .i64 s.t4]
def PS.bl(n:Nat)(s:PS):List Blk:=
 [.mp (encM iA Fo.av s.fo) s.c1,.mp (encM iA Fe.av s.fe) s.c2,.mp (encM iA It.av s.it) s.c3,.mp (encM iA Se.av s.se) s.c4,
 .mp (encM nA iA s.nm) s.c5,.mp (encM AVal.str iA s.pl) s.c6,.mp (encM nA iA s.gu) s.c7,.mp (encM iA iA s.he) s.c8,.row 83 13 0 [s.row n]]
def PS.z:PS:=⟨0,[],[],[],[],[],[],[],[],0,0,0,0,0,0,0,0,0,0,0,0⟩
def so(H:Heap)(n:Nat)(s:PS):Heap:=ov H n (s.bl n)
section
variable {H:Heap} {n:Nat} {s:PS}
@[go_sem] theorem xy(hn:n+9≤H.length):getRow (so H n s) (n+8) 0=some (83,13,[.agg [.int .i64 s.clock,.hm n,.hm (n+1),.hm (n+2),.hm (n+3),.hm (n+4),.hm (n+5),.hm (n+6),.hm (n+7),.int .i64 s.t1,.int .i64 s.t2,.int .i64 s.t3,.int .i64 s.t4]]):=by
 unfold so;rw[xx 0 hn (by decide+revert:8<9)];rfl
@[go_sem] theorem Af(hn:n+9≤H.length):mapAt (so H n s) n=some (encM iA Fo.av s.fo,s.c1):=by unfold so;rw[vY hn (by simp[PS.bl])];rfl
@[go_sem] theorem Ah(hn:n+9≤H.length):mapAt (so H n s) (n+1)=some (encM iA Fe.av s.fe,s.c2):=by unfold so;rw[dY hn (by simp[PS.bl])];rfl
@[go_sem] theorem pT(hn:n+9≤H.length):mapAt (so H n s) (n+2)=some (encM iA It.av s.it,s.c3):=by unfold so;rw[dY hn (by simp[PS.bl])];rfl
@[go_sem] theorem Ai(hn:n+9≤H.length):mapAt (so H n s) (n+3)=some (encM iA Se.av s.se,s.c4):=by unfold so;rw[dY hn (by simp[PS.bl])];rfl
@[go_sem] theorem Hy(hn:n+9≤H.length):mapAt (so H n s) (n+4)=some (encM nA iA s.nm,s.c5):=by unfold so;rw[dY hn (by simp[PS.bl])];rfl
@[go_sem] theorem Hz(hn:n+9≤H.length):mapAt (so H n s) (n+5)=some (encM AVal.str iA s.pl,s.c6):=by unfold so;rw[dY hn (by simp[PS.bl])];rfl
@[go_sem] theorem HA(hn:n+9≤H.length):mapAt (so H n s) (n+6)=some (encM nA iA s.gu,s.c7):=by unfold so;rw[dY hn (by simp[PS.bl])];rfl
@[go_sem] theorem HB(hn:n+9≤H.length):mapAt (so H n s) (n+7)=some (encM iA iA s.he,s.c8):=by unfold so;rw[dY hn (by simp[PS.bl])];rfl
@[go_sem] theorem HC(hn:n+9≤H.length)(l:ML Int Fo)(c:Nat):(so H n s).set n (.mp (encM iA Fo.av l) c)=so H n {s with fo:=l,c1:=c}:=by unfold so;rw[vW _ hn (by simp[PS.bl])];rfl
@[go_sem] theorem HD(hn:n+9≤H.length)(l:ML Int Fe)(c:Nat):(so H n s).set (n+1) (.mp (encM iA Fe.av l) c)=so H n {s with fe:=l,c2:=c}:=by unfold so;rw[dc _ hn (by simp[PS.bl])];rfl
@[go_sem] theorem HE(hn:n+9≤H.length)(l:ML Int It)(c:Nat):(so H n s).set (n+2) (.mp (encM iA It.av l) c)=so H n {s with it:=l,c3:=c}:=by unfold so;rw[dc _ hn (by simp[PS.bl])];rfl
@[go_sem] theorem HF(hn:n+9≤H.length)(l:ML Int Se)(c:Nat):(so H n s).set (n+3) (.mp (encM iA Se.av l) c)=so H n {s with se:=l,c4:=c}:=by unfold so;rw[dc _ hn (by simp[PS.bl])];rfl
@[go_sem] theorem HG(hn:n+9≤H.length)(l:ML (Int×Bs) Int)(c:Nat):(so H n s).set (n+4) (.mp (encM nA iA l) c)=so H n {s with nm:=l,c5:=c}:=by unfold so;rw[dc _ hn (by simp[PS.bl])];rfl
@[go_sem] theorem HH(hn:n+9≤H.length)(l:ML Bs Int)(c:Nat):(so H n s).set (n+5) (.mp (encM AVal.str iA l) c)=so H n {s with pl:=l,c6:=c}:=by unfold so;rw[dc _ hn (by simp[PS.bl])];rfl
@[go_sem] theorem HI(hn:n+9≤H.length)(l:ML (Int×Bs) Int)(c:Nat):(so H n s).set (n+6) (.mp (encM nA iA l) c)=so H n {s with gu:=l,c7:=c}:=by unfold so;rw[dc _ hn (by simp[PS.bl])];rfl
@[go_sem] theorem HJ(hn:n+9≤H.length)(l:ML Int Int)(c:Nat):(so H n s).set (n+7) (.mp (encM iA iA l) c)=so H n {s with he:=l,c8:=c}:=by unfold so;rw[dc _ hn (by simp[PS.bl])];rfl
@[go_sem] theorem HK(hn:n+9≤H.length)(k t1 t2 t3 t4:Int):(so H n s).set (n+8) (.row 83 13 0 [.agg [.int .i64 k,.hm n,.hm (n+1),.hm (n+2),.hm (n+3),.hm (n+4),.hm (n+5),.hm (n+6),.hm (n+7),.int .i64 t1,.int .i64 t2,.int .i64 t3,.int .i64 t4]])=so H n {s with clock:=k,t1:=t1,t2:=t2,t3:=t3,t4:=t4}:=by unfold so;rw[dc _ hn (by simp[PS.bl])];rfl
@[go_sem] theorem bv(hn:n+9≤H.length)(j:Heap):so H n s++j=so (H++j) n s:=mE hn
@[go_sem] theorem aP(hn:n+9≤H.length):(so H n s).length=H.length:=bt hn
@[go_sem] theorem rR(hn:n+9≤H.length){p:Nat}(hp:n+9≤p):(so H n s)[p]? =H[p]? :=mD hn (.inr hp)
@[go_sem] theorem bG(hn:n+9≤H.length){p:Nat}(v:Nat)(hp:n+9≤p):getRow (so H n s) p v=getRow H p v:=vX v hn (.inr hp)
@[go_sem] theorem GA(hn:n+9≤H.length){p:Nat}(b:Blk)(hp:n+9≤p):(so H n s).set p b=so (H.set p b) n s:=rN b hn (.inr hp)
@[go_sem] theorem Hb(hn:n+9≤H.length):abin Tryz.prog (so H n s) .eql 27 (.hp (n+8) 0 0 0) (.nil (.pointer none))=some (.bool false):=by
 have hk:nilKind Tryz.prog 27 (.pointer none)=true:=by kernel_rfl
 simp[abin,hk,aeqNil,xy hn]
end
@[go_sem] theorem GB(e:TypeId)(p:Nat)(h:Heap)(k:Heap→Prop):boxK e (.hm p) h k=k (h++[.row e 1 0 [.hm p]]):=by simp[boxK,AVal.cells,AVal.lies,AVal.sto]
attribute [go_sem] List.length_append List.length_cons List.length_nil
theorem j1(N:Nat)(l:List Bs):Clo N (.sl 1 (l.map .str)):=Clo.sl _ _ fun x hx=>by obtain⟨y,_,rfl⟩:=J5.1 hx;exact .str _
theorem It.clo(N:Nat)(t:It):Clo N t.av:=.agg _ fun x hx=>by
 simp only[K4,P8,or_false]at hx;rcases hx with rfl|rfl|rfl|rfl|rfl|rfl|rfl|rfl|rfl<;>first|exact .int _ _|exact .str _|exact .bool _|exact j1 _ _
theorem c9{κ α:Type}{ek:κ→AVal}{ev:α→AVal}{N c:Nat}(hk:∀x,Clo N (ek x))(hv:∀x,Clo N (ev x))(l:ML κ α):CloB N (.mp (encM ek ev l) c):=fun e he=>by
 obtain⟨d,_,rfl⟩:=J5.1 he;exact⟨hk _,hv _⟩
theorem bO{N:Nat}{cs:List AVal}(h:∀c∈cs,(∃k n,c=.int k n)∨(∃s,c=.str s)∨(∃p,p<N∧c=.hm p)):Clo N (.agg cs):=.agg _ fun x hx=>by
 rcases h x hx with⟨k,n,rfl⟩| ⟨s,rfl⟩| ⟨p,hp,rfl⟩
 ·exact .int _ _
 ·exact .str _
 ·exact .hm _ hp
theorem PS.clo{N n:Nat}(hn:n+9≤N)(s:PS):∀b∈s.bl n,CloB N b:=fun b hb=>by
 have hi:∀x:Int,Clo N (iA x):=fun x=>.int _ _
 have hna:∀x:Int×Bs,Clo N (nA x):=fun x=>bO fun c hc=>by simp at hc;rcases hc with rfl|rfl<;>simp
 simp only[PS.bl,K4,P8,or_false]at hb;rcases hb with rfl|rfl|rfl|rfl|rfl|rfl|rfl|rfl|rfl
 ·exact c9 hi (fun x=>bO fun c hc=>by simp at hc;rcases hc with rfl|rfl|rfl<;>simp) _
 ·exact c9 hi (fun x=>bO fun c hc=>by simp at hc;rcases hc with rfl|rfl|rfl|rfl<;>simp) _
 ·exact c9 hi (fun x=>It.clo N x) _
 ·exact c9 hi (fun x=>bO fun c hc=>by simp at hc;rcases hc with rfl|rfl|rfl<;>simp) _
 ·exact c9 hna hi _
 ·exact c9 (fun x=>.str _) hi _
 ·exact c9 hna hi _
 ·exact c9 hi hi _
 ·exact CloB.row fun r hr=>by
   simp at hr;subst hr;exact bO fun c hc=>by
    simp only[PS.row,K4,P8,or_false]at hc;rcases hc with rfl|rfl|rfl|rfl|rfl|rfl|rfl|rfl|rfl|rfl|rfl|rfl|rfl<;>simp<;>omega
theorem au{H j:Heap}{n:Nat}{s s':PS}{R:AVal→Heap→Prop}{r:AVal}(hn:n+9≤H.length)(hc:Clo H.length r)(hR:R r (so H n s')):Fin (so H n s) (so (H++j) n s') R r:=rP hn rfl (PS.clo hn s') hc hR
theorem br{H:Heap}{n:Nat}{s s':PS}{R:AVal→Heap→Prop}{r:AVal}(hn:n+9≤H.length)(hc:Clo H.length r)(hR:R r (so H n s')):Fin (so H n s) (so H n s') R r:=vZ hn rfl (PS.clo hn s') hc hR
end
section
attribute [local irreducible] WP WPl WPix Sat
variable (G:Nat→Option (List AVal))
def PS.within(s:PS)(id:Int):Bool:=decide (id=0)||(lkM s.fo id).isSome
theorem eR(s:PS)(id:Int){H:Heap}{n:Nat}(hn:n+9≤H.length):Sat (CT G) 80 [.hp (n+8) 0 0 0,.int .i64 id] (so H n s) (fun r h'=>r=.bool (s.within id)∧h'=so H n s):=by
 refine sb [.tmp 4] Tryz.func80 ?_;intro Q hQ;refine wk trivial ?_;(first|refine gq trivial (fun g=>?_) (fun g=>?_)|refine pq trivial (fun g=>?_) (fun g=>?_))<;>(try exact g.elim)<;>(try refine sq trivial ?_)<;>(refine wk trivial ?_)
 ·refine ee hQ trivial ?_;exact au hn (.bool _) ⟨by simp[PS.within,g],rfl⟩
 ·refine ee hQ trivial ?_;exact au hn (.bool _) ⟨by simp[PS.within,g],rfl⟩
def PS.hold(s:PS)(id k:Int):PS:=if id=0 then s else {s with he:=upM s.he s.c8 id ((lkM s.he id).getD 0+k),c8:=ckM s.he s.c8 id}
theorem cw(s:PS)(id k:Int)(hk: -1000000≤(lkM s.he id).getD 0∧(lkM s.he id).getD 0≤1000000)(hk': -1≤k∧k≤1){H:Heap}{n:Nat}(hn:n+9≤H.length):Sat (CT G) 39 [.hp (n+8) 0 0 0,.int .i64 id,.int .i64 k] (so H n s) (fun r h'=>r=.tup []∧h'=so H n (s.hold id k)):=by
 refine sb [] Tryz.func39 ?_;intro Q hQ;refine wk trivial ?_;refine cq trivial (fun c=>?_) (fun c=>?_)<;>(try exact c.elim)<;>(refine wk trivial ?_)
 ·refine ee hQ trivial ?_;exact br hn (.tup _ (by simp)) ⟨rfl,by rw[PS.hold,I0 (by omega)]⟩
 ·refine ee hQ trivial ?_;exact br hn (.tup _ (by simp)) ⟨rfl,by rw[PS.hold,I7 (by omega)]⟩
def PS.raise(s:PS)(k:Nat)(id:Int):PS:=match k with
 |0=> {s with t1:=if id>s.t1 then id else s.t1}
 |1=> {s with t2:=if id>s.t2 then id else s.t2}
 |2=> {s with t3:=if id>s.t3 then id else s.t3}
 |_=> {s with t4:=if id>s.t4 then id else s.t4}
theorem dH(s:PS)(k:Nat)(id:Int)(hk:k<4){H:Heap}{n:Nat}(hn:n+9≤H.length):Sat (CT G) 86 [.hp (n+8) 0 0 0,.int .i64 (k:Int),.int .i64 id] (so H n s) (fun r h'=>r=.tup []∧h'=so H n (s.raise k id)):=by
 match k,hk with
 |0,_=>
  refine sb [] Tryz.func86 ?_;intro Q hQ;refine wk trivial ?_;refine ee hQ trivial ?_;exact br hn (.tup _ (by simp)) ⟨rfl,by simp only[PS.raise,I4]⟩
 |1,_=>
  refine sb [] Tryz.func86 ?_;intro Q hQ;refine wk trivial ?_;refine ee hQ trivial ?_;exact br hn (.tup _ (by simp)) ⟨rfl,by simp only[PS.raise,I4]⟩
 |2,_=>
  refine sb [] Tryz.func86 ?_;intro Q hQ;refine wk trivial ?_;refine ee hQ trivial ?_;exact br hn (.tup _ (by simp)) ⟨rfl,by simp only[PS.raise,I4]⟩
 |3,_=>
  refine sb [] Tryz.func86 ?_;intro Q hQ;refine wk trivial ?_;refine ee hQ trivial ?_;exact br hn (.tup _ (by simp)) ⟨rfl,by simp only[PS.raise,I4]⟩
def deepO(l:ML Int Fo):Nat→Int→Option Nat
 |0,id=>if (lkM l id).isSome then none else some 0
 |k+1,id=>match lkM l id with
  |none=>some 0
  |some f=>(deepO l k f.inn).map (· +1)
theorem pV(s:PS)(id:Int)(k d:Nat)(hd:deepO s.fo k id=some d)(hk:d≤1000){H:Heap}{n:Nat}(hn:n+9≤H.length):Sat (CT G) 81 [.hp (n+8) 0 0 0,.int .i64 id] (so H n s) (fun r h'=>r=.int .i64 d∧h'=so H n s):=by
 have step:∀(k m:Nat) (id:Int),deepO s.fo k id=some (d-m)→m≤d→((lkM s.fo id).isSome=true∧m+1≤d∧∃k,deepO s.fo k ((lkM s.fo id).getD Fo.z).inn=some (d-(m+1)))∨((lkM s.fo id).isSome=false∧m=d):=by
  intro k m id h hm;cases k with
  |zero=>
   rw[deepO]at h;cases hl:lkM s.fo id with
   |none=>rw[hl]at h;simp at h;exact .inr ⟨rfl,by omega⟩
   |some f=>rw[hl]at h;simp at h
  |succ k=>
   rw[deepO]at h;cases hl:lkM s.fo id with
   |none=>rw[hl]at h;simp at h;exact .inr ⟨rfl,by omega⟩
   |some f=>
    rw[hl]at h;simp only[K7]at h;obtain⟨j,hj,hd⟩:=h;exact .inl ⟨rfl,by omega,k,by rw[O0,hj];congr 1;omega⟩
 refine sb [.tmp 4] Tryz.func81 ?_;intro Q hQ;refine wk trivial ?_;refine lm (fun nL tL hL=>∃(m:Nat) (f:Fo) (b:Bool),d-m=nL∧so (H++[.row 44 3 0 [.agg [.int .i64 f.id,.int .i64 f.inn,.str f.name]]]) n s=hL∧tL 0=.hp (n+8) 0 0 0∧tL 5=.int .i64 m∧tL 6=.hp H.length 0 0 0∧tL 7=.bool b∧((b=true∧m+1≤d∧∃k,deepO s.fo k f.inn=some (d-(m+1)))∨(b=false∧m=d))) ((fun(m:Nat) (f:Fo) (b:Bool)=>(d-m:Nat)) (0) ((lkM s.fo id).getD Fo.z) ((lkM s.fo id).isSome)) ?_ ?_
 ·refine I9 ⟨0,(lkM s.fo id).getD Fo.z,(lkM s.fo id).isSome,rfl,aw,?_,?_,?_,?_,step k 0 id hd (by omega)⟩;all_goals try exact zZz trivial
 rintro _ s2 h' ⟨m,f,b,rfl,rfl,e0,e5,e6,e7,hi⟩ K2 hK2;simp only[ah,ao,Nat.reduceEqDiff, ↓reduceIte]at e0 e5 e6 e7;have F:=F4 e0 e5 e6 e7;refine wk F ?_;refine cq F (fun c=>?_) (fun c=>?_)<;>(try exact c.elim)<;>(refine wk F ?_)
 ·rcases hi with⟨_,h1,k1,h2⟩| ⟨h1,_⟩
  ·refine iZ 8 (.two 8 (.two 9 (.one 10 (.one 11 .nil)) 10 (.one 9 (.one 11 .nil))) 9 (.one 8 (.one 10 (.one 11 .nil)))) (by decide+kernel) (by kernel_rfl) (by decide+kernel) ?_;simp only[N0,O6];(try refine sq F ?_);repeat' (first|refine du ?_| (refine dv rfl ?_;refine sq F ?_)| (refine dw rfl rfl ?_ ?_<;>refine sq F ?_))
   all_goals (
    refine hK2 _ _ _ (I9 ⟨m+1,(lkM s.fo f.inn).getD Fo.z,(lkM s.fo f.inn).isSome,rfl,aw,?_,?_,?_,?_,step k1 (m+1) f.inn h2 h1⟩) (by omega);all_goals try exact zZz F)
  ·rw[c]at h1;cases h1
 ·rcases hi with⟨h1,_⟩| ⟨_,h1⟩
  ·rw[c]at h1;cases h1
  ·subst h1;refine ee hQ F ?_;exact au hn (.int _ _) ⟨rfl,rfl⟩
def PS.upFo(s:PS)(k:Int)(f:Fo):PS:= {s with fo:=upM s.fo s.c1 k f,c1:=ckM s.fo s.c1 k}
def PS.upFe(s:PS)(k:Int)(f:Fe):PS:= {s with fe:=upM s.fe s.c2 k f,c2:=ckM s.fe s.c2 k}
def PS.upIt(s:PS)(k:Int)(f:It):PS:= {s with it:=upM s.it s.c3 k f,c3:=ckM s.it s.c3 k}
def PS.upSe(s:PS)(k:Int)(f:Se):PS:= {s with se:=upM s.se s.c4 k f,c4:=ckM s.se s.c4 k}
def PS.upNm(s:PS)(k:Int×Bs)(f:Int):PS:= {s with nm:=upM s.nm s.c5 k f,c5:=ckM s.nm s.c5 k}
def PS.upPl(s:PS)(k:Bs)(f:Int):PS:= {s with pl:=upM s.pl s.c6 k f,c6:=ckM s.pl s.c6 k}
def PS.upGu(s:PS)(k:Int×Bs)(f:Int):PS:= {s with gu:=upM s.gu s.c7 k f,c7:=ckM s.gu s.c7 k}
def PS.few(s:PS):Prop:=∀id, -100000≤(lkM s.he id).getD 0∧(lkM s.he id).getD 0≤100000
theorem PS.few1{s:PS}(h:s.few)(id:Int): -1000000≤(lkM s.he id).getD 0∧(lkM s.he id).getD 0≤1000000:=by have:=h id;omega
def PS.make(s:PS)(e:Ev):PS:=
 if e.kind=1 then(((s.upFo e.a ⟨e.a,e.b,e.s⟩).upNm (e.b,e.s) e.a).hold e.b 1).raise 0 e.a
 else if e.kind=3 then(((s.upFe e.a ⟨e.a,e.b,e.s,e.t⟩).upPl e.s e.a).hold e.b 1).raise 1 e.a
 else if e.kind=7 then((s.upIt e.a ⟨e.a,e.b,e.n,e.s,e.t,e.u,false,false,[]⟩).upGu (e.b,e.s) e.a).raise 2 e.a
 else if e.kind=11 then(s.upSe e.a ⟨e.a,e.s,e.t⟩).raise 3 e.a
 else s
theorem qg(s:PS)(e:Ev)(hf:s.few){H:Heap}{n:Nat}(hn:n+9≤H.length):Sat (CT G) 42 [.hp (n+8) 0 0 0,e.av] (so H n s) (fun r h'=>r=.tup []∧h'=so H n (s.make e)):=by
 refine sb [] Tryz.func42 ?_;intro Q hQ;refine wk trivial ?_;by_cases k1:e.kind=1
 ·have F:=k1;try refine sq F ?_
  refine wk F ?_;refine kq F (cw G _ e.b 1 (PS.few1 (s:=((s.upFo e.a ⟨e.a,e.b,e.s⟩).upNm (e.b,e.s) e.a)) hf e.b) (by omega) (by first|omega| (simp;omega))) ?_;refine kq F (dH G _ 0 e.a (by omega) (by first|omega| (simp;omega))) ?_;refine ee hQ F ?_;exact au hn (.tup _ (by simp)) ⟨rfl,by rw[PS.make,I7 k1]⟩
 by_cases k3:e.kind=3
 ·have F:=k3;try refine sq F ?_
  refine wk F ?_;refine kq F (cw G _ e.b 1 (PS.few1 (s:=((s.upFe e.a ⟨e.a,e.b,e.s,e.t⟩).upPl e.s e.a)) hf e.b) (by omega) (by first|omega| (simp;omega))) ?_;refine kq F (dH G _ 1 e.a (by omega) (by first|omega| (simp;omega))) ?_;refine ee hQ F ?_;exact au hn (.tup _ (by simp)) ⟨rfl,by rw[PS.make,I0 k1,I7 k3]⟩
 by_cases k7:e.kind=7
 ·have F:=k7;try refine sq F ?_
  refine wk F ?_;refine kq F (dH G _ 2 e.a (by omega) (by first|omega| (simp;omega))) ?_;refine ee hQ F ?_;exact au hn (.tup _ (by simp)) ⟨rfl,by rw[PS.make,I0 k1,I0 k3,I7 k7];rfl⟩
 by_cases k11:e.kind=11
 ·have F:=k11;try refine sq F ?_
  refine wk F ?_;refine kq F (dH G _ 3 e.a (by omega) (by first|omega| (simp;omega))) ?_;refine ee hQ F ?_;exact au hn (.tup _ (by simp)) ⟨rfl,by rw[PS.make,I0 k1,I0 k3,I0 k7,I7 k11];rfl⟩
 have n1:(e.kind==1)=false:=by simp[k1]
 have n3:(e.kind==3)=false:=by simp[k3]
 have n7:(e.kind==7)=false:=by simp[k7]
 have n11:(e.kind==11)=false:=by simp[k11]
 have F:=F4 n1 n3 n7 n11;try refine sq F ?_
 refine wk F ?_;refine ee hQ F ?_;exact au hn (.tup _ (by simp)) ⟨rfl,by rw[PS.make,I0 k1,I0 k3,I0 k7,I0 k11]⟩
end
section
attribute [local irreducible] WP WPl WPix Sat
section
variable {κ α:Type} [DecidableEq κ]
theorem jG{l:ML κ α}(hn:(l.map (·.1)).Nodup)(x:κ):dlM l x=l.filter fun e=> !decide (e.1=x):=by
 induction l with
 |nil=>rfl
 |cons e l ih=>
  rw[K8,X0]at hn;rw[dlM];by_cases h:x=e.1
  ·subst h;rw[I7 rfl,List.filter_cons_of_neg (by simp),Q5.2];intro d hd;have:d.1≠e.1:=fun q=>hn.1 (J5.2 ⟨d,hd,q⟩)
   simp[this]
  ·rw[I0 h,List.filter_cons_of_pos (by simp;exact fun q=>h q.symm),ih hn.2]
omit [DecidableEq κ] in
theorem WFM.filter{l:ML κ α}{c:Nat}(w:WFM l c)(p:κ×α×Nat→Bool):WFM (l.filter p) c:=
 ⟨(List.filter_sublist.map _).nodup w.keys,(List.filter_sublist.map _).nodup w.borns,fun e he=>w.lt e (T4.1 he).1⟩
omit [DecidableEq κ] in
theorem WFM.born_inj{l:ML κ α}{c:Nat}(w:WFM l c){d e:κ×α×Nat}(hd:d∈l)(he:e∈l)(h:d.2.2=e.2.2):d=e:=by
 have hb:=w.borns;clear w;induction l with
 |nil=>cases hd
 |cons a l ih=>
  rw[K8,X0]at hb;rcases K4.1 hd with rfl|hd2
  ·rcases K4.1 he with rfl|he2
   ·rfl
   ·exact(hb.1 (J5.2 ⟨e,he2,h.symm⟩)).elim
  ·rcases K4.1 he with rfl|he2
   ·exact(hb.1 (J5.2 ⟨d,hd2,h⟩)).elim
   ·exact ih hd2 he2 hb.2
omit [DecidableEq κ] in
theorem WFM.key_inj{l:ML κ α}{c:Nat}(w:WFM l c){d e:κ×α×Nat}(hd:d∈l)(he:e∈l)(h:d.1=e.1):d=e:=by
 have hb:=w.keys;clear w;induction l with
 |nil=>cases hd
 |cons a l ih=>
  rw[K8,X0]at hb;rcases K4.1 hd with rfl|hd2
  ·rcases K4.1 he with rfl|he2
   ·rfl
   ·exact(hb.1 (J5.2 ⟨e,he2,h.symm⟩)).elim
  ·rcases K4.1 he with rfl|he2
   ·exact(hb.1 (J5.2 ⟨d,hd2,h⟩)).elim
   ·exact ih hd2 he2 hb.2
end
def itS(l:ML Int It)(fid:Int)(seen:List Nat):ML Int It:=l.filter fun e=> !(decide (e.2.1.feed=fid)&&decide (e.2.2∈seen))
def guS(l:ML Int It)(g:ML (Int×Bs) Int)(fid:Int)(seen:List Nat):ML (Int×Bs) Int:=g.filter fun e=> !(l.any fun d=>decide (d.2.1.feed=fid)&&decide (d.2.2∈seen)&&decide (e.1=(d.2.1.feed,d.2.1.guid)))
theorem rX{l:ML Int It}{c:Nat}(w:WFM l c){fid:Int}{seen:List Nat}{e:Int×It×Nat}(he:e∈l)(hf:e.2.1.feed=fid):dlM (itS l fid seen) e.1=itS l fid (seen++[e.2.2]):=by
 unfold itS;rw[jG (w.filter _).keys];rw[List.filter_filter];refine R6 fun d hd=>?_
 by_cases h:d=e
 ·subst h;simp[hf]
 ·have h1:d.1≠e.1:=fun q=>h (w.key_inj hd he q)
  have h2:d.2.2≠e.2.2:=fun q=>h (w.born_inj hd he q)
  simp[h1,h2]
theorem xA{l:ML Int It}{c c':Nat}{g:ML (Int×Bs) Int}(w:WFM l c)(wg:WFM g c'){fid:Int}{seen:List Nat}{e:Int×It×Nat}(he:e∈l)(hf:e.2.1.feed=fid):dlM (guS l g fid seen) (e.2.1.feed,e.2.1.guid)=guS l g fid (seen++[e.2.2]):=by
 unfold guS;rw[jG (wg.filter _).keys];rw[List.filter_filter];refine R6 fun d hd=>?_
 rw[N3];simp only[I1,M5,decide_eq_false_iff_not,T9,I1,I4,not_and,P6,W0];constructor
 ·rintro⟨h1,h2⟩ x hx ⟨h3,h4⟩ h5;rcases h4 with h4|h4
  ·exact h2 x hx ⟨h3,h4⟩ h5
  ·rw[w.born_inj hx he h4]at h5;exact h1 h5
 ·intro h;exact⟨fun h1=>h e he ⟨hf,.inr rfl⟩ h1,fun x hx h3 h5=>h x hx ⟨h3.1,.inl h3.2⟩ h5⟩
theorem mI{l:ML Int It}{c:Nat}(w:WFM l c){fid:Int}{seen:List Nat}{e:Int×It×Nat}(he:e∈l)(hf:e.2.1.feed≠fid):itS l fid (seen++[e.2.2])=itS l fid seen:=by
 unfold itS;refine R6 fun d hd=>?_
 by_cases h:d=e
 ·subst h;simp[hf]
 ·have h2:d.2.2≠e.2.2:=fun q=>h (w.born_inj hd he q)
  simp[h2]
theorem ul{l:ML Int It}{c:Nat}{g:ML (Int×Bs) Int}(w:WFM l c){fid:Int}{seen:List Nat}{e:Int×It×Nat}(he:e∈l)(hf:e.2.1.feed≠fid):guS l g fid (seen++[e.2.2])=guS l g fid seen:=by
 unfold guS;refine R6 fun d hd=>?_
 rw[N3];simp only[M5,T9,I1,I4,not_and,P6,W0];constructor
 ·intro h x hx h3 h5;exact h x hx ⟨h3.1,.inl h3.2⟩ h5
 ·rintro h x hx ⟨h3,h4⟩ h5;rcases h4 with h4|h4
  ·exact h x hx ⟨h3,h4⟩ h5
  ·rw[w.born_inj hx he h4]at h3;exact hf h3
theorem wh{l:ML Int It}{fid:Int}{seen:List Nat}(h:∀e∈itS l fid seen,e.2.2∈seen):∀e∈l,e.2.1.feed=fid→e.2.2∈seen:=by
 intro e he hf
 apply O3
 intro hs;exact hs (h e (T4.2 ⟨he,by simp[hs]⟩))
theorem wj(l:ML Int It)(fid:Int):itS l fid []=l:=by unfold itS;simp
theorem wl(l:ML Int It)(g:ML (Int×Bs) Int)(fid:Int):guS l g fid []=g:=by unfold guS;simp
def itF(l:ML Int It)(fid:Int):ML Int It:=l.filter fun e=> !decide (e.2.1.feed=fid)
def guF(l:ML Int It)(g:ML (Int×Bs) Int)(fid:Int):ML (Int×Bs) Int:=g.filter fun e=> !(l.any fun d=>decide (d.2.1.feed=fid)&&decide (e.1=(d.2.1.feed,d.2.1.guid)))
theorem wm{l:ML Int It}{fid:Int}{seen:List Nat}(h:∀e∈l,e.2.1.feed=fid→e.2.2∈seen):itS l fid seen=itF l fid:=by
 unfold itS itF;refine R6 fun d hd=>?_
 by_cases hf:d.2.1.feed=fid
 ·simp[hf,h d hd hf]
 ·simp[hf]
theorem wo{l:ML Int It}{g:ML (Int×Bs) Int}{fid:Int}{seen:List Nat}(h:∀e∈l,e.2.1.feed=fid→e.2.2∈seen):guS l g fid seen=guF l g fid:=by
 unfold guS guF;refine R6 fun d hd=>?_
 rw[N3];simp only[M5,T9,I1,I4,not_and];constructor
 ·intro h1 x hx h3;exact h1 x hx ⟨h3,h x hx h3⟩
 ·intro h1 x hx h3;exact h1 x hx h3.1
variable (G:Nat→Option (List AVal))
def PS.dlFe(s:PS)(k:Int):PS:= {s with fe:=dlM s.fe k}
def PS.dlPl(s:PS)(k:Bs):PS:= {s with pl:=dlM s.pl k}
def PS.unfeed(s:PS)(f:Fe):PS:=((({s with it:=itF s.it f.id,gu:=guF s.it s.gu f.id}:PS).dlPl f.url).dlFe f.id).hold f.inn (-1)
theorem mJ(s:PS)(f:Fe)(hw:WFM s.it s.c3)(hg:WFM s.gu s.c7)(hf:s.few){H:Heap}{n:Nat}(hn:n+9≤H.length):Sat (CT G) 40 [.hp (n+8) 0 0 0,f.av] (so H n s) (fun r h'=>r=.tup []∧h'=so H n (s.unfeed f)):=by
 refine sb [] Tryz.func40 ?_;intro Q hQ;refine wk trivial ?_;refine lm (fun nL tL hL=>∃(hh:Heap) (seen:List Nat),leftM (itS s.it f.id seen) seen=nL∧so hh n {s with it:=itS s.it f.id seen,gu:=guS s.it s.gu f.id seen}=hL∧tL 0=.hp (n+8) 0 0 0∧tL 3=.hp H.length 0 0 0∧tL 10=.hp (H.length+1) 0 0 0∧(FrN H.length H hh∧H.length+1<hh.length)∧getRow hh H.length 0=some (48,4,[.agg [.int .i64 f.id,.int .i64 f.inn,.str f.url,.str f.title]])∧hh[H.length+1]? =some (.mit (n+2) s.c3 seen s.c3)) ((fun(hh:Heap) (seen:List Nat)=>(leftM (itS s.it f.id seen) seen:Nat)) (H++[.row 48 4 0 [.agg [.int .i64 f.id,.int .i64 f.inn,.str f.url,.str f.title]],.mit (n+2) s.c3 [] s.c3]) ([])) ?_ ?_
 ·refine I9 ⟨H++[.row 48 4 0 [.agg [.int .i64 f.id,.int .i64 f.inn,.str f.url,.str f.title]],.mit (n+2) s.c3 [] s.c3],[],rfl,by rw[wj,wl],?_,?_,?_,⟨U4 _ (by omega) (T8 _ _),by simp⟩,by rw[aR _ rfl];rfl,by simp⟩;all_goals try exact zZz trivial
 rintro _ s2 h' ⟨hh,seen,rfl,rfl,e0,e3,e10,hfr,hgr,hi⟩ K2 hK2;simp only[ah,ao,Nat.reduceEqDiff, ↓reduceIte]at e0 e3 e10;have F:=F3 e0 e3 e10;refine wk F ?_;obtain⟨hfr,hfl⟩:=hfr;have hn1:n+9≤hh.length:=by omega
 refine tK (q:=n+2) (c:=s.c3) (seen:=seen) (l:=itS s.it f.id seen) (by rw[rR hn1 (by omega)];exact hi) (pT hn1) (hw.filter _).lt (fun e he hs=>?_) (fun hall=>?_)
 ·have F:=F3 F hgr @ax;try refine sq F ?_
  refine wk F ?_;have hel:=(T4.1 he).1;refine tM (q:=n+2) (l:=itS s.it f.id seen) (by rw[rR (by simpa using hn1) (by omega),M9 hfl]) (pT (by simpa using hn1)) (hw.filter _) he ?_;try refine sq F ?_
  refine wk F ?_;refine cq F (fun c1=>?_) (fun c1=>?_)<;>(try exact c1.elim)<;>(refine wk F ?_)
  ·have hlt:leftM (itS s.it f.id (seen++[e.2.2])) (seen++[e.2.2])<leftM (itS s.it f.id seen) seen:=(by rw[← rX hw hel c1];exact mi he hs (ie _ _));refine hK2 _ _ _ (I9 ⟨hh.set (H.length+1) (.mit (n+2) s.c3 (seen++[e.2.2]) s.c3)++[.row 86 9 0 [e.2.1.av]],seen++[e.2.2],rfl,by rw[← rX hw hel c1, ← xA hw hg hel c1];rfl,?_,?_,?_,⟨U4 _ (by simp;omega) (T7 _ (by omega) hfr),by simp;omega⟩,by rw[bE _ (by simp;omega),ba _ _ (by omega)];exact hgr,by rw[I8 (by simp;omega),M9 hfl]⟩) (by omega);all_goals try exact zZz F
  ·have hlt:leftM (itS s.it f.id (seen++[e.2.2])) (seen++[e.2.2])<leftM (itS s.it f.id seen) seen:=(by rw[mI hw hel c1];exact mi he hs (List.Sublist.refl _));refine hK2 _ _ _ (I9 ⟨hh.set (H.length+1) (.mit (n+2) s.c3 (seen++[e.2.2]) s.c3)++[.row 86 9 0 [e.2.1.av]],seen++[e.2.2],rfl,by rw[mI hw hel c1,ul hw hel c1];rfl,?_,?_,?_,⟨U4 _ (by simp;omega) (T7 _ (by omega) hfr),by simp;omega⟩,by rw[bE _ (by simp;omega),ba _ _ (by omega)];exact hgr,by rw[I8 (by simp;omega),M9 hfl]⟩) (by omega);all_goals try exact zZz F
 ·have hx:=wh hall;rw[wm hx,wo hx];have F:=F2 F hgr;try refine sq F ?_
  refine wk F ?_;refine kq F (cw G _ f.inn (-1) (PS.few1 (s:=(({s with it:=itF s.it f.id,gu:=guF s.it s.gu f.id}:PS).dlPl f.url).dlFe f.id) hf f.inn) (by omega) hn1) ?_;obtain⟨j,hj⟩:=hfr.behind (by omega);subst hj;refine ee hQ F ?_;exact au hn (.tup _ (by simp)) ⟨rfl,rfl⟩
end
section
def orcX(f:FuncId)(args:List AVal):Option AVal:=match orcL f args with
 |some r=>some r
 |none=>match args with
  | [.int .i32 c]=>if f=260 then some (.bool (beginF c))else if f=259 then some (.bool (moreF c))else none
  |_=>none
variable {G:Nat→Option (List AVal)}
theorem cU(hG:GOk G):OrcOk (CT G) orcX:=by
 intro f args r g h;unfold orcX at g;split at g
 ·rename_i e;cases g;exact vK hG f args _ e h
 ·split at g
  ·rename_i c _;split at g
   ·rename_i e;subst e;cases g;exact jC G c h
   ·split at g
    ·rename_i e;subst e;cases g;exact ud G c h
    ·cases g
  ·cases g
end
section
attribute [local irreducible] WP WPl WPix Sat
theorem Wk.slD{n:Nat}{xs ys:List AVal}(hl:xs.length=ys.length)(hw:∀(i:Nat) (r s:AVal),xs[i]? =some r→ys[i]? =some s→WkR r s):Wk (.sl n xs) (.sl n ys):=fun w S μ v rr=>by
 have at_:∀(i:Nat) (e:AVal),ys[i]? =some e→∃r,xs[i]? =some r∧WkR r e:=fun i e he=>by
  have hlt:=(f9.1 he).1;have hx:=I2 (show i<xs.length by omega);exact⟨_,hx,hw i _ e hx he⟩
 cases rr with
 |sl0 n a cap=>
  obtain rfl:ys=[]:=O1.1 (by simpa using hl.symm);exact .sl0 _ _ _
 |sl n es b o cap vs hne hm hm' hn hc hr=>
  rw[hl];refine .sl _ ys b o cap vs (fun e=>?_) (by omega) hm' (fun i e he=>?_) (fun i e j c he hj=>?_) (fun i e j c he hj=>?_)
  ·subst e;exact hne (O1.1 hl)
  ·obtain⟨r,hx,hq⟩:=at_ i e he;rw[← hq.1];exact hn i r hx
  ·obtain⟨r,hx,hq⟩:=at_ i e he;have hlt:=(f9.1 hj).1;have hd:=I2 (show j<r.cells.length by rw[hq.1];exact hlt);obtain⟨a1,a2,a3⟩:=hc i r j _ hx hd;exact⟨a1,a2,(hq.2 j _ c hd hj).2 a3⟩
  ·obtain⟨r,hx,hq⟩:=at_ i e he;have hlt:=(f9.1 hj).1;have hd:=I2 (show j<r.cells.length by rw[hq.1];exact hlt);exact(hq.2 j _ c hd hj).1 _ _ _ _ (hr i r j _ hx hd)
theorem Sat.closedD{C:Ctx}(hG:GClo C){orc:FuncId→List AVal→Option AVal}(horc:OrcOk C orc)(lf n:Nat){f:FuncId}{args:List AVal}{v:AVal}(ha:args.all (cloA 0)=true)(hv:cloA 0 v=true)
  (hrun:isV v (callX C orc lf n f args [])=true)(h:Heap):Sat C f args h fun r2 h2=>r2=v∧h2=h:=by
 unfold isV at hrun;split at hrun
 ·rename_i r h1 e;split at hrun
  ·rename_i y hy;have ey:=cP _ _ hrun;subst ey;have s:=(mr horc lf n f args [] r h1 e).letgo (v:=y) (by simp) (ku _ _ _ _ _ hy);refine(s.frame hG (fun x hx=>cQ 0 _ (M2.1 ha x hx)) (fun r h' ⟨e1,e2⟩=>⟨by rw[e1];exact cQ 0 _ hv,e2⟩) h).mono fun r2 h2 ⟨⟨e1,_⟩,e2⟩=>⟨e1,e2⟩
  ·cases hrun
 ·cases hrun
theorem Wk.tupD{xs ys:List AVal}(hl:xs.length=ys.length)(hw:∀(i:Nat) (x y:AVal),xs[i]? =some x→ys[i]? =some y→Wk x y):Wk (.tup xs) (.tup ys):=fun w S μ v r=>by
 cases r with
 |tup _ vs hvl hr=>
  refine .tup ys vs (by omega) (fun i d hd=>?_);have hlt:=(f9.1 hd).1;have hc:=I2 (show i<xs.length by omega);exact hw i _ d hc hd w S μ _ (hr i _ hc)
def wkL(f:AVal→AVal→Bool):List AVal→List AVal→Bool
 | [],[]=>true
 |x::xs,y::ys=>f x y&&wkL f xs ys
 |_,_=>false
def wkB:Nat→AVal→AVal→Bool
 |0,x,y=>beqA x y
 |f+1,x,y=>beqA x y||match x,y with
  | .nil (.slice none 0 0),.sl _ []=>true
  | .agg xs,.agg ys=>wkL (wkB f) xs ys&&ys.all AVal.sto
  | .tup xs,.tup ys=>wkL (wkB f) xs ys
  | .sl n xs,.sl m ys=>(n==m)&&wkL (fun r s=>wkL (wkB f) r.cells s.cells&&s.cells.all AVal.sto) xs ys
  |_,_=>false
theorem i6{f:AVal→AVal→Bool}{R:AVal→AVal→Prop}(hf:∀x y,f x y=true→R x y):∀{xs ys:List AVal},wkL f xs ys=true→xs.length=ys.length∧∀(i:Nat) (x y:AVal),xs[i]? =some x→ys[i]? =some y→R x y
 | [],[],_=>⟨rfl,fun i x y hx=>by simp at hx⟩
 |x::xs,y::ys,h=>by
  unfold wkL at h;rw[I1]at h;obtain⟨h1,h2⟩:=i6 hf h.2;refine⟨by simp[h1],fun i a b ha hb=>?_⟩;cases i with
  |zero=>cases ha;cases hb;exact hf _ _ h.1
  |succ i=>exact h2 i a b ha hb
 | [],_::_,h=>by cases h
 |_::_,[],h=>by cases h
theorem mR:∀(f:Nat) (x y:AVal),wkB f x y=true→Wk x y:=by
 intro f;induction f with
 |zero=>intro x y h;rw[cP _ _ h];exact Wk.refl _
 |succ f ih=>
  intro x y h;unfold wkB at h;rw[N6]at h;rcases h with h|h
  ·rw[cP _ _ h];exact Wk.refl _
  ·split at h
   ·exact Wk.nils _
   ·rw[I1,M2]at h;obtain⟨h1,h2⟩:=i6 ih h.1;exact Wk.agg h1 h.2 h2
   ·obtain⟨h1,h2⟩:=i6 ih h;exact Wk.tupD h1 h2
   ·rw[I1,beq_iff_eq]at h;obtain⟨rfl,h⟩:=h;obtain⟨h1,h2⟩:=i6 (R:=fun r s=>WkR r s) (fun r s hh=>by
     rw[I1,M2]at hh;obtain⟨k1,k2⟩:=i6 ih hh.1;exact⟨k1,fun j c d hc hd=>⟨k2 j c d hc hd,fun _=>hh.2 d (J4 hd)⟩⟩) h
    exact Wk.slD h1 h2
   ·cases h
def isW(v:AVal):Option (AVal×Heap)→Bool
 |some (r,h1)=>match frzX h1 0 20 r with
  |some y=>wkB 20 y v&&cloA 0 y
  |none=>false
 |none=>false
theorem Sat.wkD{C:Ctx}{f:FuncId}{args:List AVal}{h h0:Heap}{a b:AVal}(hw:Wk a b)(s:Sat C f args h (fun r h'=>r=a∧h'=h0)):Sat C f args h (fun r h'=>r=b∧h'=h0):=by
 unfold Sat at*;intro B S μ w vs x y;refine(s B S μ w vs x y).mono fun v w' hp=>?_
 obtain⟨r,h',S',μ',⟨rfl,hh⟩,st,f',rp⟩:=hp;exact⟨b,h',S',μ',⟨rfl,hh⟩,st,f',hw _ _ _ _ rp⟩
theorem Sat.closedW{C:Ctx}(hG:GClo C){orc:FuncId→List AVal→Option AVal}(horc:OrcOk C orc)(lf n:Nat){f:FuncId}{args:List AVal}{v:AVal}(ha:args.all (cloA 0)=true)
  (hrun:isW v (callX C orc lf n f args [])=true)(h:Heap):Sat C f args h fun r2 h2=>r2=v∧h2=h:=by
 unfold isW at hrun;split at hrun
 ·rename_i r h1 e;split at hrun
  ·rename_i y hy;rw[I1]at hrun;refine Sat.wkD (mR _ _ _ hrun.1) ?_;have s:=(mr horc lf n f args [] r h1 e).letgo (v:=y) (by simp) (ku _ _ _ _ _ hy);refine(s.frame hG (fun x hx=>cQ 0 _ (M2.1 ha x hx)) (fun r h' ⟨e1,e2⟩=>⟨by rw[e1];exact cQ 0 _ hrun.2,e2⟩) h).mono fun r2 h2 ⟨⟨e1,_⟩,e2⟩=>⟨e1,e2⟩
  ·cases hrun
 ·cases hrun
end
section
attribute [local irreducible] WP WPl WPix Sat
variable (G:Nat→Option (List AVal))
end
section
theorem fy(r:Int)(x:Bs):dec (enc r++x) 0=(fix r,(enc r).length):=by
 have hl:=xt r;have hs:=vP r;rw[eB,oK];generalize fix r=c at*;simp only[];by_cases h1:c<128
 ·rw[I7 h1];simp only[O9,M3,V1,I6,L8];rw[aX _ (by omega)];simp[Lib.decodeN,h1]
 ·rw[I0 h1];by_cases h2:c<2048
  ·rw[I7 h2];simp only[O9,M3,V1,X5,I6,L8,N8];rw[aX _ (by omega),aX _ (by omega)];unfold Lib.decodeN;rw[I0 (by omega),I7 (by omega),I7 (by omega)];congr 1;omega
  ·rw[I0 h2];by_cases h3:c<65536
   ·rw[I7 h3];simp only[O9,M3,V1,X5,I6,L8,N8];rw[aX _ (by omega),aX _ (by omega),aX _ (by omega)];unfold Lib.decodeN;rw[I0 (by omega),I0 (by omega),I7 (by omega),I7 (by omega)];congr 1;omega
   ·rw[I0 h3];simp only[O9,M3,V1,X5,I6,L8,N8];rw[aX _ (by omega),aX _ (by omega),aX _ (by omega),aX _ (by omega)];unfold Lib.decodeN;rw[I0 (by omega),I0 (by omega),I0 (by omega),I7 (by omega),I7 (by omega)];congr 1;omega
theorem mW{r:Int}(h:Rune r):fix r=r.toNat:=by
 unfold fix Utf8.valid;unfold Rune at h;rw[I7 (by simp;omega)]
theorem bq(c:Int)(l:List Int):encs (c::l)=enc c++encs l:=by simp[encs]
theorem cj(a b:List Int):encs (a++b)=encs a++encs b:=by simp[encs]
theorem eY(c:Int):encs [c]=enc c:=by simp[encs]
theorem xC{a b:List Int}{c:Int}(hc:Rune c):dec (encs a++encs (c::b)) (encs a).length=(c.toNat,(enc c).length):=by
 rw[bj,List.drop_left' rfl,bq,fy,mW hc]
theorem iP:∀{l:List Int},(∀c∈l,Rune c)→runesF (encs l)=l
 | [],_=>rfl
 |c::l,h=>by
  have hc:=h c (by simp);have hp:=ii c;rw[dF _ (by rw[bq];intro e;have h2:=K9 List.length e;rw[J3]at h2;simp only[L8]at h2;omega),bq,fy,mW hc,List.drop_left' rfl,iP fun x hx=>h x (by simp[hx])];unfold Rune at hc;congr 1
  simp only[];omega
end
end Go.Av
theorem V4:type_of% @Go.Av.Ev.av_eq:=@Go.Av.Ev.av_eq
theorem Y6:type_of% @Go.Av.It.clo:=@Go.Av.It.clo
