/- Events: may one be? (the program's side: event.Check, over what the texts' checks reckon) -/
import Derived.Test.YtjfjncmgclaokaaGreatDoorMtDr4
set_option linter.unusedSimpArgs false
set_option linter.unusedVariables false
set_option linter.unusedSectionVars false
set_option linter.unnecessarySimpa false
set_option maxRecDepth 100000
set_option maxHeartbeats 16000000
namespace Go.Av
open Go Go.Proofs Go.RowKit
structure Ev where
 kind:Int
 a:Int
 b:Int
 n:Int
 s:Bs
 t:Bs
 u:Bs
def Ev.av(e:Ev):AVal:=.agg [.int .i64 e.kind,.int .i64 e.a,.int .i64 e.b,.int .i64 e.n,.str e.s,.str e.t,.str e.u]
structure Fo where
 id:Int
 inn:Int
 name:Bs
structure Fe where
 id:Int
 inn:Int
 url:Bs
 title:Bs
structure It where
 id:Int
 feed:Int
 date:Int
 guid:Bs
 title:Bs
 link:Bs
 read:Bool
 star:Bool
 tags:List Bs
structure Se where
 id:Int
 name:Bs
 query:Bs
def Fo.av(f:Fo):AVal:=.agg [.int .i64 f.id,.int .i64 f.inn,.str f.name]
def Fe.av(f:Fe):AVal:=.agg [.int .i64 f.id,.int .i64 f.inn,.str f.url,.str f.title]
def It.av(t:It):AVal:=.agg [.int .i64 t.id,.int .i64 t.feed,.int .i64 t.date,.str t.guid,.str t.title,.str t.link,.bool t.read,.bool t.star,.sl 1 (t.tags.map .str)]
def Se.av(q:Se):AVal:=.agg [.int .i64 q.id,.str q.name,.str q.query]
def Fo.z:Fo:=⟨0,0,[]⟩
def Fe.z:Fe:=⟨0,0,[],[]⟩
def It.z:It:=⟨0,0,0,[],[],[],false,false,[]⟩
def Se.z:Se:=⟨0,[],[]⟩
@[go_sem] theorem Ev.av_eq(e:Ev):e.av=.agg [.int .i64 e.kind,.int .i64 e.a,.int .i64 e.b,.int .i64 e.n,.str e.s,.str e.t,.str e.u]:=(rfl)
@[go_sem] theorem Fo.av_eq(f:Fo):f.av=.agg [.int .i64 f.id,.int .i64 f.inn,.str f.name]:=(rfl)
@[go_sem] theorem Fe.av_eq(f:Fe):f.av=.agg [.int .i64 f.id,.int .i64 f.inn,.str f.url,.str f.title]:=(rfl)
@[go_sem] theorem It.av_eq(t:It):t.av=.agg [.int .i64 t.id,.int .i64 t.feed,.int .i64 t.date,.str t.guid,.str t.title,.str t.link,.bool t.read,.bool t.star,.sl 1 (t.tags.map .str)]:=(rfl)
@[go_sem] theorem Se.av_eq(q:Se):q.av=.agg [.int .i64 q.id,.str q.name,.str q.query]:=(rfl)
@[go_sem] theorem CY(o:Option Fo):v1 (.agg [.int .i64 0,.int .i64 0,.str []]) Fo.av o=(o.getD Fo.z).av:=kp (d:=Fo.z) rfl o
@[go_sem] theorem CZ(o:Option Fe):v1 (.agg [.int .i64 0,.int .i64 0,.str [],.str []]) Fe.av o=(o.getD Fe.z).av:=kp (d:=Fe.z) rfl o
@[go_sem] theorem D2(o:Option It):v1 (.agg [.int .i64 0,.int .i64 0,.int .i64 0,.str [],.str [],.str [],.bool false,.bool false,.sl 1 []]) It.av o=(o.getD It.z).av:=kp (d:=It.z) rfl o
@[go_sem] theorem D4(o:Option Se):v1 (.agg [.int .i64 0,.str [],.str []]) Se.av o=(o.getD Se.z).av:=kp (d:=Se.z) rfl o
@[go_sem] theorem D5(c:Nat)(l:ML Int Fo)(x i n:Int)(s:Bs):putM (encM iA Fo.av l) c (.int .i64 x) (.agg [.int .i64 i,.int .i64 n,.str s]) (ixM l x)=.mp (encM iA Fo.av (upM l c x ⟨i,n,s⟩)) (ckM l c x):=j5 c l x ⟨i,n,s⟩ rfl
@[go_sem] theorem D6(c:Nat)(l:ML Int Fe)(x i n:Int)(s t:Bs):putM (encM iA Fe.av l) c (.int .i64 x) (.agg [.int .i64 i,.int .i64 n,.str s,.str t]) (ixM l x)=.mp (encM iA Fe.av (upM l c x ⟨i,n,s,t⟩)) (ckM l c x):=j5 c l x ⟨i,n,s,t⟩ rfl
@[go_sem] theorem D7(c:Nat)(l:ML Int It)(x i f d:Int)(g t u:Bs)(r s:Bool)(ts:List Bs):putM (encM iA It.av l) c (.int .i64 x) (.agg [.int .i64 i,.int .i64 f,.int .i64 d,.str g,.str t,.str u,.bool r,.bool s,.sl 1 (ts.map .str)]) (ixM l x)=.mp (encM iA It.av (upM l c x ⟨i,f,d,g,t,u,r,s,ts⟩)) (ckM l c x):=j5 c l x ⟨i,f,d,g,t,u,r,s,ts⟩ rfl
@[go_sem] theorem CN(c:Nat)(l:ML Int It)(x i f d:Int)(g t u:Bs)(r s:Bool):putM (encM iA It.av l) c (.int .i64 x) (.agg [.int .i64 i,.int .i64 f,.int .i64 d,.str g,.str t,.str u,.bool r,.bool s,.sl 1 []]) (ixM l x)=.mp (encM iA It.av (upM l c x ⟨i,f,d,g,t,u,r,s,[]⟩)) (ckM l c x):=j5 c l x ⟨i,f,d,g,t,u,r,s,[]⟩ rfl
@[go_sem] theorem D8(c:Nat)(l:ML Int Se)(x i:Int)(s t:Bs):putM (encM iA Se.av l) c (.int .i64 x) (.agg [.int .i64 i,.str s,.str t]) (ixM l x)=.mp (encM iA Se.av (upM l c x ⟨i,s,t⟩)) (ckM l c x):=j5 c l x ⟨i,s,t⟩ rfl
@[go_sem] theorem D9(n:Int):iA n=.int .i64 n:=(rfl)
structure PS where
 clock:Int
 fo:ML Int Fo
 fe:ML Int Fe
 it:ML Int It
 se:ML Int Se
 nm:ML (Int×Bs) Int
 pl:ML Bs Int
 gu:ML (Int×Bs) Int
 he:ML Int Int
 c1:Nat
 c2:Nat
 c3:Nat
 c4:Nat
 c5:Nat
 c6:Nat
 c7:Nat
 c8:Nat
 t1:Int
 t2:Int
 t3:Int
 t4:Int
def PS.row(n:Nat)(s:PS):AVal:=.agg [.int .i64 s.clock,.hm n,.hm (n+1),.hm (n+2),.hm (n+3),.hm (n+4),.hm (n+5),.hm (n+6),.hm (n+7),.int .i64 s.t1,.int .i64 s.t2,.int .i64 s.t3,.int .i64 s.t4]
def PS.bl(n:Nat)(s:PS):List Blk:=
 [.mp (encM iA Fo.av s.fo) s.c1,.mp (encM iA Fe.av s.fe) s.c2,.mp (encM iA It.av s.it) s.c3,.mp (encM iA Se.av s.se) s.c4,
 .mp (encM nA iA s.nm) s.c5,.mp (encM AVal.str iA s.pl) s.c6,.mp (encM nA iA s.gu) s.c7,.mp (encM iA iA s.he) s.c8,.row 108 13 0 [s.row n]]
def PS.z:PS:=⟨0,[],[],[],[],[],[],[],[],0,0,0,0,0,0,0,0,0,0,0,0⟩
def so(H:Heap)(n:Nat)(s:PS):Heap:=ov H n (s.bl n)
section
variable {H:Heap} {n:Nat} {s:PS}
@[go_sem] theorem tA(hn:n+9≤H.length):getRow (so H n s) (n+8) 0=some (108,13,[.agg [.int .i64 s.clock,.hm n,.hm (n+1),.hm (n+2),.hm (n+3),.hm (n+4),.hm (n+5),.hm (n+6),.hm (n+7),.int .i64 s.t1,.int .i64 s.t2,.int .i64 s.t3,.int .i64 s.t4]]):=by
 unfold so;rw[tz 0 hn (by decide+revert:8<9)];rfl
@[go_sem] theorem vL(hn:n+9≤H.length):mapAt (so H n s) n=some (encM iA Fo.av s.fo,s.c1):=by unfold so;rw[rQ hn (by simp[PS.bl])];rfl
@[go_sem] theorem vN(hn:n+9≤H.length):mapAt (so H n s) (n+1)=some (encM iA Fe.av s.fe,s.c2):=by unfold so;rw[cR hn (by simp[PS.bl])];rfl
@[go_sem] theorem nz(hn:n+9≤H.length):mapAt (so H n s) (n+2)=some (encM iA It.av s.it,s.c3):=by unfold so;rw[cR hn (by simp[PS.bl])];rfl
@[go_sem] theorem vO(hn:n+9≤H.length):mapAt (so H n s) (n+3)=some (encM iA Se.av s.se,s.c4):=by unfold so;rw[cR hn (by simp[PS.bl])];rfl
@[go_sem] theorem Da(hn:n+9≤H.length):mapAt (so H n s) (n+4)=some (encM nA iA s.nm,s.c5):=by unfold so;rw[cR hn (by simp[PS.bl])];rfl
@[go_sem] theorem Db(hn:n+9≤H.length):mapAt (so H n s) (n+5)=some (encM AVal.str iA s.pl,s.c6):=by unfold so;rw[cR hn (by simp[PS.bl])];rfl
@[go_sem] theorem Dc(hn:n+9≤H.length):mapAt (so H n s) (n+6)=some (encM nA iA s.gu,s.c7):=by unfold so;rw[cR hn (by simp[PS.bl])];rfl
@[go_sem] theorem Dd(hn:n+9≤H.length):mapAt (so H n s) (n+7)=some (encM iA iA s.he,s.c8):=by unfold so;rw[cR hn (by simp[PS.bl])];rfl
@[go_sem] theorem De(hn:n+9≤H.length)(l:ML Int Fo)(c:Nat):(so H n s).set n (.mp (encM iA Fo.av l) c)=so H n {s with fo:=l,c1:=c}:=by unfold so;rw[rO _ hn (by simp[PS.bl])];rfl
@[go_sem] theorem Df(hn:n+9≤H.length)(l:ML Int Fe)(c:Nat):(so H n s).set (n+1) (.mp (encM iA Fe.av l) c)=so H n {s with fe:=l,c2:=c}:=by unfold so;rw[ca _ hn (by simp[PS.bl])];rfl
@[go_sem] theorem Dg(hn:n+9≤H.length)(l:ML Int It)(c:Nat):(so H n s).set (n+2) (.mp (encM iA It.av l) c)=so H n {s with it:=l,c3:=c}:=by unfold so;rw[ca _ hn (by simp[PS.bl])];rfl
@[go_sem] theorem Dh(hn:n+9≤H.length)(l:ML Int Se)(c:Nat):(so H n s).set (n+3) (.mp (encM iA Se.av l) c)=so H n {s with se:=l,c4:=c}:=by unfold so;rw[ca _ hn (by simp[PS.bl])];rfl
@[go_sem] theorem Di(hn:n+9≤H.length)(l:ML (Int×Bs) Int)(c:Nat):(so H n s).set (n+4) (.mp (encM nA iA l) c)=so H n {s with nm:=l,c5:=c}:=by unfold so;rw[ca _ hn (by simp[PS.bl])];rfl
@[go_sem] theorem Dj(hn:n+9≤H.length)(l:ML Bs Int)(c:Nat):(so H n s).set (n+5) (.mp (encM AVal.str iA l) c)=so H n {s with pl:=l,c6:=c}:=by unfold so;rw[ca _ hn (by simp[PS.bl])];rfl
@[go_sem] theorem Dk(hn:n+9≤H.length)(l:ML (Int×Bs) Int)(c:Nat):(so H n s).set (n+6) (.mp (encM nA iA l) c)=so H n {s with gu:=l,c7:=c}:=by unfold so;rw[ca _ hn (by simp[PS.bl])];rfl
@[go_sem] theorem Dl(hn:n+9≤H.length)(l:ML Int Int)(c:Nat):(so H n s).set (n+7) (.mp (encM iA iA l) c)=so H n {s with he:=l,c8:=c}:=by unfold so;rw[ca _ hn (by simp[PS.bl])];rfl
@[go_sem] theorem Dm(hn:n+9≤H.length)(k t1 t2 t3 t4:Int):(so H n s).set (n+8) (.row 108 13 0 [.agg [.int .i64 k,.hm n,.hm (n+1),.hm (n+2),.hm (n+3),.hm (n+4),.hm (n+5),.hm (n+6),.hm (n+7),.int .i64 t1,.int .i64 t2,.int .i64 t3,.int .i64 t4]])=so H n {s with clock:=k,t1:=t1,t2:=t2,t3:=t3,t4:=t4}:=by unfold so;rw[ca _ hn (by simp[PS.bl])];rfl
@[go_sem] theorem b8(hn:n+9≤H.length)(j:Heap):so H n s++j=so (H++j) n s:=kR hn
@[go_sem] theorem aJ(hn:n+9≤H.length):(so H n s).length=H.length:=bc hn
@[go_sem] theorem oN(hn:n+9≤H.length){p:Nat}(hp:n+9≤p):(so H n s)[p]? =H[p]? :=fE hn (.inr hp)
@[go_sem] theorem bi(hn:n+9≤H.length){p:Nat}(v:Nat)(hp:n+9≤p):getRow (so H n s) p v=getRow H p v:=rP v hn (.inr hp)
@[go_sem] theorem ew(hn:n+9≤H.length){p:Nat}(b:Blk)(hp:n+9≤p):(so H n s).set p b=so (H.set p b) n s:=oJ b hn (.inr hp)
@[go_sem] theorem CO(hn:n+9≤H.length):abin Tryz.prog (so H n s) .eql 40 (.hp (n+8) 0 0 0) (.nil (.pointer none))=some (.bool false):=by
 have hk:nilKind Tryz.prog 40 (.pointer none)=true:=by kernel_rfl
 simp[abin,hk,aeqNil,tA hn]
end
@[go_sem] theorem Cf(e:TypeId)(p:Nat)(h:Heap)(k:Heap→Prop):boxK e (.hm p) h k=k (h++[.row e 1 0 [.hm p]]):=by simp[boxK,AVal.cells,AVal.lies,AVal.sto]
attribute [go_sem] List.length_append List.length_cons List.length_nil
theorem gZ(N:Nat)(l:List Bs):Clo N (.sl 1 (l.map .str)):=Clo.sl _ _ fun x hx=>by obtain⟨y,_,rfl⟩:=List.mem_map.1 hx;exact .str _
theorem It.clo(N:Nat)(t:It):Clo N t.av:=.agg _ fun x hx=>by
 simp only[List.mem_cons,List.not_mem_nil,or_false]at hx
 rcases hx with rfl|rfl|rfl|rfl|rfl|rfl|rfl|rfl|rfl<;>first|exact .int _ _|exact .str _|exact .bool _|exact gZ _ _
theorem bD{κ α:Type}{ek:κ→AVal}{ev:α→AVal}{N c:Nat}(hk:∀x,Clo N (ek x))(hv:∀x,Clo N (ev x))(l:ML κ α):CloB N (.mp (encM ek ev l) c):=fun e he=>by
 obtain⟨d,_,rfl⟩:=List.mem_map.1 he
 exact⟨hk _,hv _⟩
theorem bp{N:Nat}{cs:List AVal}(h:∀c∈cs,(∃k n,c=.int k n)∨(∃s,c=.str s)∨(∃p,p<N∧c=.hm p)):Clo N (.agg cs):=.agg _ fun x hx=>by
 rcases h x hx with⟨k,n,rfl⟩| ⟨s,rfl⟩| ⟨p,hp,rfl⟩
 ·exact .int _ _
 ·exact .str _
 ·exact .hm _ hp
theorem PS.clo{N n:Nat}(hn:n+9≤N)(s:PS):∀b∈s.bl n,CloB N b:=fun b hb=>by
 have hi:∀x:Int,Clo N (iA x):=fun x=>.int _ _
 have hna:∀x:Int×Bs,Clo N (nA x):=fun x=>bp fun c hc=>by simp at hc;rcases hc with rfl|rfl<;>simp
 simp only[PS.bl,List.mem_cons,List.not_mem_nil,or_false]at hb
 rcases hb with rfl|rfl|rfl|rfl|rfl|rfl|rfl|rfl|rfl
 ·exact bD hi (fun x=>bp fun c hc=>by simp at hc;rcases hc with rfl|rfl|rfl<;>simp) _
 ·exact bD hi (fun x=>bp fun c hc=>by simp at hc;rcases hc with rfl|rfl|rfl|rfl<;>simp) _
 ·exact bD hi (fun x=>It.clo N x) _
 ·exact bD hi (fun x=>bp fun c hc=>by simp at hc;rcases hc with rfl|rfl|rfl<;>simp) _
 ·exact bD hna hi _
 ·exact bD (fun x=>.str _) hi _
 ·exact bD hna hi _
 ·exact bD hi hi _
 ·exact CloB.row fun r hr=>by
   simp at hr;subst hr
   exact bp fun c hc=>by
    simp only[PS.row,List.mem_cons,List.not_mem_nil,or_false]at hc
    rcases hc with rfl|rfl|rfl|rfl|rfl|rfl|rfl|rfl|rfl|rfl|rfl|rfl|rfl<;>simp<;>omega
theorem af{H j:Heap}{n:Nat}{s s':PS}{R:AVal→Heap→Prop}{r:AVal}(hn:n+9≤H.length)(hc:Clo H.length r)(hR:R r (so H n s')):Fin (so H n s) (so (H++j) n s') R r:=oL hn rfl (PS.clo hn s') hc hR
theorem bj{H:Heap}{n:Nat}{s s':PS}{R:AVal→Heap→Prop}{r:AVal}(hn:n+9≤H.length)(hc:Clo H.length r)(hR:R r (so H n s')):Fin (so H n s) (so H n s') R r:=rR hn rfl (PS.clo hn s') hc hR
end Go.Av
namespace Go.Av
open Go Go.Proofs Go.RowKit
attribute [local irreducible] WP WPl WPix Sat
variable (G:Nat→Option (List AVal))
def PS.within(s:PS)(id:Int):Bool:=decide (id=0)||(lkM s.fo id).isSome
theorem dI(s:PS)(id:Int){H:Heap}{n:Nat}(hn:n+9≤H.length):Sat (CT G) 96 [.hp (n+8) 0 0 0,.int .i64 id] (so H n s) (fun r h'=>r=.bool (s.within id)∧h'=so H n s):=by
 refine sb [.tmp 4] (fn:=Tryz.f96) Tryz.func96 ?_
 intro Q hQ
 refine wk trivial ?_
 (first|refine gq trivial (fun g=>?_) (fun g=>?_)|refine pq trivial (fun g=>?_) (fun g=>?_))<;>(try exact g.elim)<;>(try refine sq trivial ?_)<;>(refine wk trivial ?_)
 ·refine ee hQ trivial ?_
  exact af hn (.bool _) ⟨by simp[PS.within,g],rfl⟩
 ·refine ee hQ trivial ?_
  exact af hn (.bool _) ⟨by simp[PS.within,g],rfl⟩
def PS.hold(s:PS)(id k:Int):PS:=if id=0 then s else {s with he:=upM s.he s.c8 id ((lkM s.he id).getD 0+k),c8:=ckM s.he s.c8 id}
theorem bH(s:PS)(id k:Int)(hk: -1000000≤(lkM s.he id).getD 0∧(lkM s.he id).getD 0≤1000000)(hk': -1≤k∧k≤1){H:Heap}{n:Nat}(hn:n+9≤H.length):Sat (CT G) 58 [.hp (n+8) 0 0 0,.int .i64 id,.int .i64 k] (so H n s) (fun r h'=>r=.tup []∧h'=so H n (s.hold id k)):=by
 refine sb [] (fn:=Tryz.f58) Tryz.func58 ?_
 intro Q hQ
 refine wk trivial ?_
 refine cq trivial (fun c=>?_) (fun c=>?_)<;>(try exact c.elim)<;>(refine wk trivial ?_)
 ·refine ee hQ trivial ?_
  exact bj hn (.tup _ (by simp)) ⟨rfl,by rw[PS.hold,if_neg (by omega)]⟩
 ·refine ee hQ trivial ?_
  exact bj hn (.tup _ (by simp)) ⟨rfl,by rw[PS.hold,if_pos (by omega)]⟩
def PS.raise(s:PS)(k:Nat)(id:Int):PS:=match k with
 |0=> {s with t1:=if id>s.t1 then id else s.t1}
 |1=> {s with t2:=if id>s.t2 then id else s.t2}
 |2=> {s with t3:=if id>s.t3 then id else s.t3}
 |_=> {s with t4:=if id>s.t4 then id else s.t4}
theorem cG(s:PS)(k:Nat)(id:Int)(hk:k<4){H:Heap}{n:Nat}(hn:n+9≤H.length):Sat (CT G) 101 [.hp (n+8) 0 0 0,.int .i64 (k:Int),.int .i64 id] (so H n s) (fun r h'=>r=.tup []∧h'=so H n (s.raise k id)):=by
 match k,hk with
 |0,_=>
  refine sb [] (fn:=Tryz.f101) Tryz.func101 ?_
  intro Q hQ
  refine wk trivial ?_
  refine ee hQ trivial ?_
  exact bj hn (.tup _ (by simp)) ⟨rfl,by simp only[PS.raise,decide_eq_true_eq]⟩
 |1,_=>
  refine sb [] (fn:=Tryz.f101) Tryz.func101 ?_
  intro Q hQ
  refine wk trivial ?_
  refine ee hQ trivial ?_
  exact bj hn (.tup _ (by simp)) ⟨rfl,by simp only[PS.raise,decide_eq_true_eq]⟩
 |2,_=>
  refine sb [] (fn:=Tryz.f101) Tryz.func101 ?_
  intro Q hQ
  refine wk trivial ?_
  refine ee hQ trivial ?_
  exact bj hn (.tup _ (by simp)) ⟨rfl,by simp only[PS.raise,decide_eq_true_eq]⟩
 |3,_=>
  refine sb [] (fn:=Tryz.f101) Tryz.func101 ?_
  intro Q hQ
  refine wk trivial ?_
  refine ee hQ trivial ?_
  exact bj hn (.tup _ (by simp)) ⟨rfl,by simp only[PS.raise,decide_eq_true_eq]⟩
def deepO(l:ML Int Fo):Nat→Int→Option Nat
 |0,id=>if (lkM l id).isSome then none else some 0
 |k+1,id=>match lkM l id with
  |none=>some 0
  |some f=>(deepO l k f.inn).map (· +1)
theorem nD(s:PS)(id:Int)(k d:Nat)(hd:deepO s.fo k id=some d)(hk:d≤1000){H:Heap}{n:Nat}(hn:n+9≤H.length):Sat (CT G) 97 [.hp (n+8) 0 0 0,.int .i64 id] (so H n s) (fun r h'=>r=.int .i64 d∧h'=so H n s):=by
 have step:∀(k m:Nat) (id:Int),deepO s.fo k id=some (d-m)→m≤d→((lkM s.fo id).isSome=true∧m+1≤d∧∃k,deepO s.fo k ((lkM s.fo id).getD Fo.z).inn=some (d-(m+1)))∨((lkM s.fo id).isSome=false∧m=d):=by
  intro k m id h hm
  cases k with
  |zero=>
   rw[deepO]at h
   cases hl:lkM s.fo id with
   |none=>rw[hl]at h;simp at h;exact .inr ⟨rfl,by omega⟩
   |some f=>rw[hl]at h;simp at h
  |succ k=>
   rw[deepO]at h
   cases hl:lkM s.fo id with
   |none=>rw[hl]at h;simp at h;exact .inr ⟨rfl,by omega⟩
   |some f=>
    rw[hl]at h
    simp only[Option.map_eq_some_iff]at h
    obtain⟨j,hj,hd⟩:=h
    exact .inl ⟨rfl,by omega,k,by rw[Option.getD_some,hj];congr 1;omega⟩
 refine sb [.tmp 4] (fn:=Tryz.f97) Tryz.func97 ?_
 intro Q hQ
 refine wk trivial ?_
 refine lm (fun nL tL hL=>∃(m:Nat) (f:Fo) (b:Bool),d-m=nL∧so (H++[.row 95 3 0 [.agg [.int .i64 f.id,.int .i64 f.inn,.str f.name]]]) n s=hL∧tL 0=.hp (n+8) 0 0 0∧tL 5=.int .i64 m∧tL 6=.hp H.length 0 0 0∧tL 7=.bool b∧((b=true∧m+1≤d∧∃k,deepO s.fo k f.inn=some (d-(m+1)))∨(b=false∧m=d))) ((fun(m:Nat) (f:Fo) (b:Bool)=>(d-m:Nat)) (0) ((lkM s.fo id).getD Fo.z) ((lkM s.fo id).isSome)) ?_ ?_
 ·refine Wkn.refl ⟨0,(lkM s.fo id).getD Fo.z,(lkM s.fo id).isSome,rfl,aY,?_,?_,?_,?_,step k 0 id hd (by omega)⟩
  all_goals first|exact zq trivial|rfl|omega|trivial|skip
 rintro _ s2 h' ⟨m,f,b,rfl,rfl,e0,e5,e6,e7,hi⟩ K2 hK2
 simp only[am,ao,Nat.reduceEqDiff, ↓reduceIte]at e0 e5 e6 e7
 have F:=F4 e0 e5 e6 e7
 refine wk F ?_
 refine cq F (fun c=>?_) (fun c=>?_)<;>(try exact c.elim)<;>(refine wk F ?_)
 ·rcases hi with⟨_,h1,k1,h2⟩| ⟨h1,_⟩
  ·refine gX 8 (.two 8 (.two 9 (.one 10 (.one 11 .nil)) 10 (.one 9 (.one 11 .nil))) 9 (.one 8 (.one 10 (.one 11 .nil)))) (by decide+kernel) (by kernel_rfl) (by decide+kernel) ?_
   simp only[List.take_succ_cons,List.take_zero]
   try refine sq F ?_
   repeat' (first|refine co ?_| (refine cr rfl ?_;refine sq F ?_)| (refine cu rfl rfl ?_ ?_<;>refine sq F ?_))
   all_goals (
    refine hK2 _ _ _ (Wkn.refl ⟨m+1,(lkM s.fo f.inn).getD Fo.z,(lkM s.fo f.inn).isSome,rfl,aY,?_,?_,?_,?_,step k1 (m+1) f.inn h2 h1⟩) (by omega)
    all_goals first|exact zq F|rfl|omega|trivial|skip)
  ·rw[c]at h1;cases h1
 ·rcases hi with⟨h1,_⟩| ⟨_,h1⟩
  ·rw[c]at h1;cases h1
  ·subst h1
   refine ee hQ F ?_
   exact af hn (.int _ _) ⟨rfl,rfl⟩
end Go.Av
namespace Go.Av
open Go Go.Proofs Go.RowKit
attribute [local irreducible] WP WPl WPix Sat
variable (G:Nat→Option (List AVal))
def PS.upFo(s:PS)(k:Int)(f:Fo):PS:= {s with fo:=upM s.fo s.c1 k f,c1:=ckM s.fo s.c1 k}
def PS.upFe(s:PS)(k:Int)(f:Fe):PS:= {s with fe:=upM s.fe s.c2 k f,c2:=ckM s.fe s.c2 k}
def PS.upIt(s:PS)(k:Int)(f:It):PS:= {s with it:=upM s.it s.c3 k f,c3:=ckM s.it s.c3 k}
def PS.upSe(s:PS)(k:Int)(f:Se):PS:= {s with se:=upM s.se s.c4 k f,c4:=ckM s.se s.c4 k}
def PS.upNm(s:PS)(k:Int×Bs)(f:Int):PS:= {s with nm:=upM s.nm s.c5 k f,c5:=ckM s.nm s.c5 k}
def PS.upPl(s:PS)(k:Bs)(f:Int):PS:= {s with pl:=upM s.pl s.c6 k f,c6:=ckM s.pl s.c6 k}
def PS.upGu(s:PS)(k:Int×Bs)(f:Int):PS:= {s with gu:=upM s.gu s.c7 k f,c7:=ckM s.gu s.c7 k}
def PS.few(s:PS):Prop:=∀id, -100000≤(lkM s.he id).getD 0∧(lkM s.he id).getD 0≤100000
theorem PS.few1{s:PS}(h:s.few)(id:Int): -1000000≤(lkM s.he id).getD 0∧(lkM s.he id).getD 0≤1000000:=by have:=h id;omega
def PS.make(s:PS)(e:Ev):PS:=
 if e.kind=1 then(((s.upFo e.a ⟨e.a,e.b,e.s⟩).upNm (e.b,e.s) e.a).hold e.b 1).raise 0 e.a
 else if e.kind=3 then(((s.upFe e.a ⟨e.a,e.b,e.s,e.t⟩).upPl e.s e.a).hold e.b 1).raise 1 e.a
 else if e.kind=7 then((s.upIt e.a ⟨e.a,e.b,e.n,e.s,e.t,e.u,false,false,[]⟩).upGu (e.b,e.s) e.a).raise 2 e.a
 else if e.kind=11 then(s.upSe e.a ⟨e.a,e.s,e.t⟩).raise 3 e.a
 else s
theorem nN(s:PS)(e:Ev)(hf:s.few){H:Heap}{n:Nat}(hn:n+9≤H.length):Sat (CT G) 61 [.hp (n+8) 0 0 0,e.av] (so H n s) (fun r h'=>r=.tup []∧h'=so H n (s.make e)):=by
 refine sb [] (fn:=Tryz.f61) Tryz.func61 ?_
 intro Q hQ
 refine wk trivial ?_
 by_cases k1:e.kind=1
 ·have F:=k1
  try refine sq F ?_
  refine wk F ?_
  refine kq F (bH G _ e.b 1 (PS.few1 (s:=((s.upFo e.a ⟨e.a,e.b,e.s⟩).upNm (e.b,e.s) e.a)) hf e.b) (by omega) (by first|omega| (simp;omega))) ?_
  refine kq F (cG G _ 0 e.a (by omega) (by first|omega| (simp;omega))) ?_
  refine ee hQ F ?_
  exact af hn (.tup _ (by simp)) ⟨rfl,by rw[PS.make,if_pos k1]⟩
 by_cases k3:e.kind=3
 ·have F:=k3
  try refine sq F ?_
  refine wk F ?_
  refine kq F (bH G _ e.b 1 (PS.few1 (s:=((s.upFe e.a ⟨e.a,e.b,e.s,e.t⟩).upPl e.s e.a)) hf e.b) (by omega) (by first|omega| (simp;omega))) ?_
  refine kq F (cG G _ 1 e.a (by omega) (by first|omega| (simp;omega))) ?_
  refine ee hQ F ?_
  exact af hn (.tup _ (by simp)) ⟨rfl,by rw[PS.make,if_neg k1,if_pos k3]⟩
 by_cases k7:e.kind=7
 ·have F:=k7
  try refine sq F ?_
  refine wk F ?_
  refine kq F (cG G _ 2 e.a (by omega) (by first|omega| (simp;omega))) ?_
  refine ee hQ F ?_
  exact af hn (.tup _ (by simp)) ⟨rfl,by rw[PS.make,if_neg k1,if_neg k3,if_pos k7];rfl⟩
 by_cases k11:e.kind=11
 ·have F:=k11
  try refine sq F ?_
  refine wk F ?_
  refine kq F (cG G _ 3 e.a (by omega) (by first|omega| (simp;omega))) ?_
  refine ee hQ F ?_
  exact af hn (.tup _ (by simp)) ⟨rfl,by rw[PS.make,if_neg k1,if_neg k3,if_neg k7,if_pos k11];rfl⟩
 have n1:(e.kind==1)=false:=by simp[k1]
 have n3:(e.kind==3)=false:=by simp[k3]
 have n7:(e.kind==7)=false:=by simp[k7]
 have n11:(e.kind==11)=false:=by simp[k11]
 have F:=F4 n1 n3 n7 n11
 try refine sq F ?_
 refine wk F ?_
 refine ee hQ F ?_
 exact af hn (.tup _ (by simp)) ⟨rfl,by rw[PS.make,if_neg k1,if_neg k3,if_neg k7,if_neg k11]⟩
end Go.Av
namespace Go.Av
open Go Go.Proofs Go.RowKit
attribute [local irreducible] WP WPl WPix Sat
section
variable {κ α:Type} [DecidableEq κ]
theorem iP{l:ML κ α}(hn:(l.map (·.1)).Nodup)(x:κ):dlM l x=l.filter fun e=> !decide (e.1=x):=by
 induction l with
 |nil=>rfl
 |cons e l ih=>
  rw[List.map_cons,List.nodup_cons]at hn
  rw[dlM]
  by_cases h:x=e.1
  ·subst h
   rw[if_pos rfl,List.filter_cons_of_neg (by simp),List.filter_eq_self.2]
   intro d hd
   have:d.1≠e.1:=fun q=>hn.1 (List.mem_map.2 ⟨d,hd,q⟩)
   simp[this]
  ·rw[if_neg h,List.filter_cons_of_pos (by simp;exact fun q=>h q.symm),ih hn.2]
omit [DecidableEq κ] in
theorem WFM.filter{l:ML κ α}{c:Nat}(w:WFM l c)(p:κ×α×Nat→Bool):WFM (l.filter p) c:=
 ⟨(List.filter_sublist.map _).nodup w.keys,(List.filter_sublist.map _).nodup w.borns,fun e he=>w.lt e (List.mem_filter.1 he).1⟩
omit [DecidableEq κ] in
theorem WFM.born_inj{l:ML κ α}{c:Nat}(w:WFM l c){d e:κ×α×Nat}(hd:d∈l)(he:e∈l)(h:d.2.2=e.2.2):d=e:=by
 have hb:=w.borns
 clear w
 induction l with
 |nil=>cases hd
 |cons a l ih=>
  rw[List.map_cons,List.nodup_cons]at hb
  rcases List.mem_cons.1 hd with rfl|hd2
  ·rcases List.mem_cons.1 he with rfl|he2
   ·rfl
   ·exact(hb.1 (List.mem_map.2 ⟨e,he2,h.symm⟩)).elim
  ·rcases List.mem_cons.1 he with rfl|he2
   ·exact(hb.1 (List.mem_map.2 ⟨d,hd2,h⟩)).elim
   ·exact ih hd2 he2 hb.2
omit [DecidableEq κ] in
theorem WFM.key_inj{l:ML κ α}{c:Nat}(w:WFM l c){d e:κ×α×Nat}(hd:d∈l)(he:e∈l)(h:d.1=e.1):d=e:=by
 have hb:=w.keys
 clear w
 induction l with
 |nil=>cases hd
 |cons a l ih=>
  rw[List.map_cons,List.nodup_cons]at hb
  rcases List.mem_cons.1 hd with rfl|hd2
  ·rcases List.mem_cons.1 he with rfl|he2
   ·rfl
   ·exact(hb.1 (List.mem_map.2 ⟨e,he2,h.symm⟩)).elim
  ·rcases List.mem_cons.1 he with rfl|he2
   ·exact(hb.1 (List.mem_map.2 ⟨d,hd2,h⟩)).elim
   ·exact ih hd2 he2 hb.2
end
def itS(l:ML Int It)(fid:Int)(seen:List Nat):ML Int It:=l.filter fun e=> !(decide (e.2.1.feed=fid)&&decide (e.2.2∈seen))
def guS(l:ML Int It)(g:ML (Int×Bs) Int)(fid:Int)(seen:List Nat):ML (Int×Bs) Int:=g.filter fun e=> !(l.any fun d=>decide (d.2.1.feed=fid)&&decide (d.2.2∈seen)&&decide (e.1=(d.2.1.feed,d.2.1.guid)))
theorem oT{l:ML Int It}{c:Nat}(w:WFM l c){fid:Int}{seen:List Nat}{e:Int×It×Nat}(he:e∈l)(hf:e.2.1.feed=fid):dlM (itS l fid seen) e.1=itS l fid (seen++[e.2.2]):=by
 unfold itS
 rw[iP (w.filter _).keys]
 rw[List.filter_filter]
 refine List.filter_congr fun d hd=>?_
 by_cases h:d=e
 ·subst h;simp[hf]
 ·have h1:d.1≠e.1:=fun q=>h (w.key_inj hd he q)
  have h2:d.2.2≠e.2.2:=fun q=>h (w.born_inj hd he q)
  simp[h1,h2]
theorem tC{l:ML Int It}{c c':Nat}{g:ML (Int×Bs) Int}(w:WFM l c)(wg:WFM g c'){fid:Int}{seen:List Nat}{e:Int×It×Nat}(he:e∈l)(hf:e.2.1.feed=fid):dlM (guS l g fid seen) (e.2.1.feed,e.2.1.guid)=guS l g fid (seen++[e.2.2]):=by
 unfold guS
 rw[iP (wg.filter _).keys]
 rw[List.filter_filter]
 refine List.filter_congr fun d hd=>?_
 rw[Bool.eq_iff_iff]
 simp only[Bool.and_eq_true,Bool.not_eq_true',decide_eq_false_iff_not,List.any_eq_false,Bool.and_eq_true,decide_eq_true_eq,not_and,List.mem_append,List.mem_singleton]
 constructor
 ·rintro⟨h1,h2⟩ x hx ⟨h3,h4⟩ h5
  rcases h4 with h4|h4
  ·exact h2 x hx ⟨h3,h4⟩ h5
  ·rw[w.born_inj hx he h4]at h5;exact h1 h5
 ·intro h
  exact⟨fun h1=>h e he ⟨hf,.inr rfl⟩ h1,fun x hx h3 h5=>h x hx ⟨h3.1,.inl h3.2⟩ h5⟩
theorem kX{l:ML Int It}{c:Nat}(w:WFM l c){fid:Int}{seen:List Nat}{e:Int×It×Nat}(he:e∈l)(hf:e.2.1.feed≠fid):itS l fid (seen++[e.2.2])=itS l fid seen:=by
 unfold itS
 refine List.filter_congr fun d hd=>?_
 by_cases h:d=e
 ·subst h;simp[hf]
 ·have h2:d.2.2≠e.2.2:=fun q=>h (w.born_inj hd he q)
  simp[h2]
theorem qm{l:ML Int It}{c:Nat}{g:ML (Int×Bs) Int}(w:WFM l c){fid:Int}{seen:List Nat}{e:Int×It×Nat}(he:e∈l)(hf:e.2.1.feed≠fid):guS l g fid (seen++[e.2.2])=guS l g fid seen:=by
 unfold guS
 refine List.filter_congr fun d hd=>?_
 rw[Bool.eq_iff_iff]
 simp only[Bool.not_eq_true',List.any_eq_false,Bool.and_eq_true,decide_eq_true_eq,not_and,List.mem_append,List.mem_singleton]
 constructor
 ·intro h x hx h3 h5
  exact h x hx ⟨h3.1,.inl h3.2⟩ h5
 ·rintro h x hx ⟨h3,h4⟩ h5
  rcases h4 with h4|h4
  ·exact h x hx ⟨h3,h4⟩ h5
  ·rw[w.born_inj hx he h4]at h3;exact hf h3
theorem rW{l:ML Int It}{fid:Int}{seen:List Nat}(h:∀e∈itS l fid seen,e.2.2∈seen):∀e∈l,e.2.1.feed=fid→e.2.2∈seen:=by
 intro e he hf
 apply Classical.byContradiction
 intro hs
 exact hs (h e (List.mem_filter.2 ⟨he,by simp[hs]⟩))
theorem rX(l:ML Int It)(fid:Int):itS l fid []=l:=by unfold itS;simp
theorem rY(l:ML Int It)(g:ML (Int×Bs) Int)(fid:Int):guS l g fid []=g:=by unfold guS;simp
def itF(l:ML Int It)(fid:Int):ML Int It:=l.filter fun e=> !decide (e.2.1.feed=fid)
def guF(l:ML Int It)(g:ML (Int×Bs) Int)(fid:Int):ML (Int×Bs) Int:=g.filter fun e=> !(l.any fun d=>decide (d.2.1.feed=fid)&&decide (e.1=(d.2.1.feed,d.2.1.guid)))
theorem rZ{l:ML Int It}{fid:Int}{seen:List Nat}(h:∀e∈l,e.2.1.feed=fid→e.2.2∈seen):itS l fid seen=itF l fid:=by
 unfold itS itF
 refine List.filter_congr fun d hd=>?_
 by_cases hf:d.2.1.feed=fid
 ·simp[hf,h d hd hf]
 ·simp[hf]
theorem s7{l:ML Int It}{g:ML (Int×Bs) Int}{fid:Int}{seen:List Nat}(h:∀e∈l,e.2.1.feed=fid→e.2.2∈seen):guS l g fid seen=guF l g fid:=by
 unfold guS guF
 refine List.filter_congr fun d hd=>?_
 rw[Bool.eq_iff_iff]
 simp only[Bool.not_eq_true',List.any_eq_false,Bool.and_eq_true,decide_eq_true_eq,not_and]
 constructor
 ·intro h1 x hx h3;exact h1 x hx ⟨h3,h x hx h3⟩
 ·intro h1 x hx h3;exact h1 x hx h3.1
variable (G:Nat→Option (List AVal))
def PS.dlFe(s:PS)(k:Int):PS:= {s with fe:=dlM s.fe k}
def PS.dlPl(s:PS)(k:Bs):PS:= {s with pl:=dlM s.pl k}
def PS.unfeed(s:PS)(f:Fe):PS:=((({s with it:=itF s.it f.id,gu:=guF s.it s.gu f.id}:PS).dlPl f.url).dlFe f.id).hold f.inn (-1)
theorem kY(s:PS)(f:Fe)(hw:WFM s.it s.c3)(hg:WFM s.gu s.c7)(hf:s.few){H:Heap}{n:Nat}(hn:n+9≤H.length):Sat (CT G) 59 [.hp (n+8) 0 0 0,f.av] (so H n s) (fun r h'=>r=.tup []∧h'=so H n (s.unfeed f)):=by
 refine sb [] (fn:=Tryz.f59) Tryz.func59 ?_
 intro Q hQ
 refine wk trivial ?_
 refine lm (fun nL tL hL=>∃(hh:Heap) (seen:List Nat),leftM (itS s.it f.id seen) seen=nL∧so hh n {s with it:=itS s.it f.id seen,gu:=guS s.it s.gu f.id seen}=hL∧tL 0=.hp (n+8) 0 0 0∧tL 3=.hp H.length 0 0 0∧tL 10=.hp (H.length+1) 0 0 0∧(FrN H.length H hh∧H.length+1<hh.length)∧getRow hh H.length 0=some (69,4,[.agg [.int .i64 f.id,.int .i64 f.inn,.str f.url,.str f.title]])∧hh[H.length+1]? =some (.mit (n+2) s.c3 seen s.c3)) ((fun(hh:Heap) (seen:List Nat)=>(leftM (itS s.it f.id seen) seen:Nat)) (H++[.row 69 4 0 [.agg [.int .i64 f.id,.int .i64 f.inn,.str f.url,.str f.title]],.mit (n+2) s.c3 [] s.c3]) ([])) ?_ ?_
 ·refine Wkn.refl ⟨H++[.row 69 4 0 [.agg [.int .i64 f.id,.int .i64 f.inn,.str f.url,.str f.title]],.mit (n+2) s.c3 [] s.c3],[],rfl,by rw[rX,rY],?_,?_,?_,⟨FrN.app _ (by omega) (FrN.refl _ _),by simp⟩,by rw[aW _ rfl];rfl,by simp⟩
  all_goals first|exact zq trivial|rfl|omega|trivial|skip
 rintro _ s2 h' ⟨hh,seen,rfl,rfl,e0,e3,e10,hfr,hgr,hi⟩ K2 hK2
 simp only[am,ao,Nat.reduceEqDiff, ↓reduceIte]at e0 e3 e10
 have F:=F3 e0 e3 e10
 refine wk F ?_
 obtain⟨hfr,hfl⟩:=hfr
 have hn1:n+9≤hh.length:=by omega
 refine pM (q:=n+2) (c:=s.c3) (seen:=seen) (l:=itS s.it f.id seen) (by rw[oN hn1 (by omega)];exact hi) (nz hn1) (hw.filter _).lt (fun e he hs=>?_) (fun hall=>?_)
 ·have F:=F3 F hgr @ai
  try refine sq F ?_
  refine wk F ?_
  have hel:=(List.mem_filter.1 he).1
  refine pN (q:=n+2) (l:=itS s.it f.id seen) (by rw[oN (by simpa using hn1) (by omega),List.getElem?_set_self hfl]) (nz (by simpa using hn1)) (hw.filter _) he ?_
  try refine sq F ?_
  refine wk F ?_
  refine cq F (fun c1=>?_) (fun c1=>?_)<;>(try exact c1.elim)<;>(refine wk F ?_)
  ·have hlt:leftM (itS s.it f.id (seen++[e.2.2])) (seen++[e.2.2])<leftM (itS s.it f.id seen) seen:=by rw[← oT hw hel c1];exact kr he hs (fW _ _)
   refine hK2 _ _ _ (Wkn.refl ⟨hh.set (H.length+1) (.mit (n+2) s.c3 (seen++[e.2.2]) s.c3)++[.row 64 9 0 [e.2.1.av]],seen++[e.2.2],rfl,by rw[← oT hw hel c1, ← tC hw hg hel c1];rfl,?_,?_,?_,⟨FrN.app _ (by simp;omega) (FrN.set _ (by omega) hfr),by simp;omega⟩,by rw[bq _ (by simp;omega),cE _ _ (by omega)];exact hgr,by rw[List.getElem?_append_left (by simp;omega),List.getElem?_set_self hfl]⟩) (by omega)
   all_goals first|exact zq F|rfl|omega|trivial|skip
  ·have hlt:leftM (itS s.it f.id (seen++[e.2.2])) (seen++[e.2.2])<leftM (itS s.it f.id seen) seen:=by rw[kX hw hel c1];exact kr he hs (List.Sublist.refl _)
   refine hK2 _ _ _ (Wkn.refl ⟨hh.set (H.length+1) (.mit (n+2) s.c3 (seen++[e.2.2]) s.c3)++[.row 64 9 0 [e.2.1.av]],seen++[e.2.2],rfl,by rw[kX hw hel c1,qm hw hel c1];rfl,?_,?_,?_,⟨FrN.app _ (by simp;omega) (FrN.set _ (by omega) hfr),by simp;omega⟩,by rw[bq _ (by simp;omega),cE _ _ (by omega)];exact hgr,by rw[List.getElem?_append_left (by simp;omega),List.getElem?_set_self hfl]⟩) (by omega)
   all_goals first|exact zq F|rfl|omega|trivial|skip
 ·have hx:=rW hall
  rw[rZ hx,s7 hx]
  have F:=F2 F hgr
  try refine sq F ?_
  refine wk F ?_
  refine kq F (bH G _ f.inn (-1) (PS.few1 (s:=(({s with it:=itF s.it f.id,gu:=guF s.it s.gu f.id}:PS).dlPl f.url).dlFe f.id) hf f.inn) (by omega) hn1) ?_
  obtain⟨j,hj⟩:=hfr.behind (by omega)
  subst hj
  refine ee hQ F ?_
  exact af hn (.tup _ (by simp)) ⟨rfl,rfl⟩
end Go.Av
namespace Go.Av
open Go Go.Proofs Go.RowKit
attribute [local irreducible] WP WPl WPix Sat
variable (G:Nat→Option (List AVal))
def PS.dlNm(s:PS)(k:Int×Bs):PS:= {s with nm:=dlM s.nm k}
def PS.dlFo(s:PS)(k:Int):PS:= {s with fo:=dlM s.fo k}
def PS.dlSe(s:PS)(k:Int):PS:= {s with se:=dlM s.se k}
def PS.after(s:PS)(tg:List Bs)(e:Ev):PS:=
 if e.kind=2 then(((s.dlNm (((lkM s.fo e.a).getD Fo.z).inn,((lkM s.fo e.a).getD Fo.z).name)).dlFo e.a).hold ((lkM s.fo e.a).getD Fo.z).inn (-1))
 else if e.kind=4 then s.unfeed ((lkM s.fe e.a).getD Fe.z)
 else if e.kind=5 then s.upFe e.a {(lkM s.fe e.a).getD Fe.z with title:=e.t}
 else if e.kind=6 then((s.hold ((lkM s.fe e.a).getD Fe.z).inn (-1)).hold e.b 1).upFe e.a {(lkM s.fe e.a).getD Fe.z with inn:=e.b}
 else if e.kind=8 then s.upIt e.a {(lkM s.it e.a).getD It.z with read:=e.n==1}
 else if e.kind=9 then s.upIt e.a {(lkM s.it e.a).getD It.z with star:=e.n==1}
 else if e.kind=10 then s.upIt e.a {(lkM s.it e.a).getD It.z with tags:=tg}
 else if e.kind=12 then s.dlSe e.a
 else if e.kind=13 then {s with clock:=e.n}
 else s.make e
theorem lK(s:PS)(e:Ev)(b:Bool)(tg:List Bs)(hw:WFM s.it s.c3)(hg:WFM s.gu s.c7)(hf:s.few)(hf2:(s.hold ((lkM s.fe e.a).getD Fe.z).inn (-1)).few)
  (hF:∀(n:Nat) (H:Heap),n+9≤H.length→Sat (CT G) 57 [.hp (n+8) 0 0 0,e.av] (so H n s) (fun r h'=>r=.bool b∧h'=so H n s))
  (hT:∀(n:Nat) (H:Heap),n+9≤H.length→Sat (CT G) 60 [.hp (n+8) 0 0 0,e.av] (so H n s) (fun r h'=>r=.sl 1 (tg.map .str)∧h'=so H n s))
  {H:Heap}{n:Nat}(hn:n+9≤H.length):Sat (CT G) 28 [.hp (n+8) 0 0 0,e.av] (so H n s) (fun r h'=>r=.bool b∧h'=so H n (if b then s.after tg e else s)):=by
 cases b with
 |false=>
  refine sb [.tmp 4] (fn:=Tryz.f28) Tryz.func28 ?_
  intro Q hQ
  refine wk trivial ?_
  refine kq trivial (hF n _ (by first|omega| (simp;omega))) ?_
  refine ee hQ trivial ?_
  exact af hn (.bool _) ⟨rfl,rfl⟩
 |true=>
  refine sb [.tmp 4] (fn:=Tryz.f28) Tryz.func28 ?_
  intro Q hQ
  refine wk trivial ?_
  refine kq trivial (hF n _ (by first|omega| (simp;omega))) ?_
  refine aH 17 [14,15,16] [true,true,true,true,true,true,true,true,true,true,true,true,true,true,false,false,false] (.two 14 [false,true,true,true,true,true,true,false,true,true,true,true,true,true] (.one 15 [false,true,true,true,true,true,true,false,true,true,true,true,true,true] (.one 16 [false,false,false,false,false,false,false,false,true,true,true,true,true,true] .fin)) 15 [false,true,true,true,true,true,true,false,true,true,true,true,true,true] (.one 14 [false,true,true,true,true,true,true,false,true,true,true,true,true,true] (.one 16 [false,false,false,false,false,false,false,false,true,true,true,true,true,true] .fin))) (by decide+kernel) (by kernel_rfl) (by decide+kernel) ?_
  simp only[aR,aS,aF]
  try refine sq trivial ?_
  repeat' (first| (refine aw ?_;try refine sq trivial ?_)| (refine ax ?_;try refine sq trivial ?_)| (refine ay ?_ ?_<;>try refine sq trivial ?_))
  all_goals try refine wk trivial ?_
  all_goals (
   by_cases k2:e.kind=2
   ·have F:=k2
    try refine sq F ?_
    refine wk F ?_
    refine aH 8 [7] [true,true,true,true,true,true,true,false] (.one 7 [false,true,true,true,true,true,true] .fin) (by decide+kernel) (by kernel_rfl) (by decide+kernel) ?_
    simp only[aR,aS,aF]
    try refine sq F ?_
    repeat' (first| (refine aw ?_;try refine sq F ?_)| (refine ax ?_;try refine sq F ?_)| (refine ay ?_ ?_<;>try refine sq F ?_))
    all_goals try refine wk F ?_
    refine kq F (bH G _ _ (-1) (PS.few1 (s:=((s.dlNm (((lkM s.fo e.a).getD Fo.z).inn,((lkM s.fo e.a).getD Fo.z).name)).dlFo e.a)) hf _) (by omega) (by first|omega| (simp;omega))) ?_
    refine ee hQ F ?_
    exact af hn (.bool _) ⟨rfl,by rw[PS.after,if_pos k2];try rfl⟩
   by_cases k4:e.kind=4
   ·have F:=k4
    try refine sq F ?_
    refine wk F ?_
    refine kq F (kY G s ((lkM s.fe e.a).getD Fe.z) hw hg hf (by first|omega| (simp;omega))) ?_
    refine ee hQ F ?_
    exact af hn (.bool _) ⟨rfl,by rw[PS.after,if_neg (by omega),if_pos k4];try rfl⟩
   by_cases k5:e.kind=5
   ·have F:=k5
    try refine sq F ?_
    refine wk F ?_
    refine ee hQ F ?_
    exact af hn (.bool _) ⟨rfl,by rw[PS.after,if_neg (by omega),if_neg (by omega),if_pos k5];try rfl⟩
   by_cases k6:e.kind=6
   ·have F:=k6
    try refine sq F ?_
    refine wk F ?_
    refine kq F (bH G s _ (-1) (PS.few1 hf _) (by omega) (by first|omega| (simp;omega))) ?_
    refine kq F (bH G _ e.b 1 (PS.few1 hf2 _) (by omega) (by first|omega| (simp;omega))) ?_
    refine ee hQ F ?_
    exact af hn (.bool _) ⟨rfl,by rw[PS.after,if_neg (by omega),if_neg (by omega),if_neg (by omega),if_pos k6];try rfl⟩
   by_cases k8:e.kind=8
   ·have F:=k8
    try refine sq F ?_
    refine wk F ?_
    refine ee hQ F ?_
    exact af hn (.bool _) ⟨rfl,by rw[PS.after,if_neg (by omega),if_neg (by omega),if_neg (by omega),if_neg (by omega),if_pos k8];try rfl⟩
   by_cases k9:e.kind=9
   ·have F:=k9
    try refine sq F ?_
    refine wk F ?_
    refine ee hQ F ?_
    exact af hn (.bool _) ⟨rfl,by rw[PS.after,if_neg (by omega),if_neg (by omega),if_neg (by omega),if_neg (by omega),if_neg (by omega),if_pos k9];try rfl⟩
   by_cases k10:e.kind=10
   ·have F:=k10
    try refine sq F ?_
    refine wk F ?_
    have hT2:=hT
    simp only[Ev.av_eq,k10]at hT2
    refine kq F (hT2 n _ (by first|omega| (simp;omega))) ?_
    refine ee hQ F ?_
    exact af hn (.bool _) ⟨rfl,by rw[PS.after,if_neg (by omega),if_neg (by omega),if_neg (by omega),if_neg (by omega),if_neg (by omega),if_neg (by omega),if_pos k10];try rfl⟩
   by_cases k12:e.kind=12
   ·have F:=k12
    try refine sq F ?_
    refine wk F ?_
    refine ee hQ F ?_
    exact af hn (.bool _) ⟨rfl,by rw[PS.after,if_neg (by omega),if_neg (by omega),if_neg (by omega),if_neg (by omega),if_neg (by omega),if_neg (by omega),if_neg (by omega),if_pos k12];try rfl⟩
   by_cases k13:e.kind=13
   ·have F:=k13
    try refine sq F ?_
    refine wk F ?_
    refine ee hQ F ?_
    exact af hn (.bool _) ⟨rfl,by rw[PS.after,if_neg (by omega),if_neg (by omega),if_neg (by omega),if_neg (by omega),if_neg (by omega),if_neg (by omega),if_neg (by omega),if_neg (by omega),if_pos k13];try rfl⟩
   have n2:(e.kind==2)=false:=by simp[k2]
   have n4:(e.kind==4)=false:=by simp[k4]
   have n5:(e.kind==5)=false:=by simp[k5]
   have n6:(e.kind==6)=false:=by simp[k6]
   have n8:(e.kind==8)=false:=by simp[k8]
   have n9:(e.kind==9)=false:=by simp[k9]
   have n10:(e.kind==10)=false:=by simp[k10]
   have n12:(e.kind==12)=false:=by simp[k12]
   have n13:(e.kind==13)=false:=by simp[k13]
   have F:=F9 n2 n4 n5 n6 n8 n9 n10 n12 n13
   try refine sq F ?_
   refine wk F ?_
   refine kq F (nN G s e hf (by first|omega| (simp;omega))) ?_
   refine ee hQ F ?_
   exact af hn (.bool _) ⟨rfl,by rw[PS.after,if_neg k2,if_neg k4,if_neg k5,if_neg k6,if_neg k8,if_neg k9,if_neg k10,if_neg k12,if_neg k13]⟩)
end Go.Av
namespace Go.Av
open Go Go.Proofs Go.RowKit
attribute [local irreducible] WP WPl WPix Sat
def idF(n:Int):Bool:=decide (1≤n)&&decide (n≤1048576)
structure Leaf where
 label:Bs→Bool
 title:Bs→Bool
 link:Bs→Bool
 tag:Bs→Bool
 query:Bs→Bool
 moment:Int→Bool
def Leaf.place(L:Leaf)(t:Bs):Bool:= !(t==[])&&L.link t
def Leaf.right(L:Leaf)(e:Ev):Bool:=
 if e.kind=1 then idF e.a&&((e.b==0||idF e.b)&&L.label e.s)
 else if e.kind=2∨e.kind=4∨e.kind=12 then idF e.a
 else if e.kind=3 then idF e.a&&((e.b==0||idF e.b)&&(L.place e.s&&L.title e.t))
 else if e.kind=5 then idF e.a&&L.title e.t
 else if e.kind=6 then idF e.a&&(e.b==0||idF e.b)
 else if e.kind=7 then idF e.a&&(idF e.b&&(L.moment e.n&&(L.place e.s&&(L.title e.t&&L.link e.u))))
 else if e.kind=8∨e.kind=9 then idF e.a&&(e.n==0||e.n==1)
 else if e.kind=10 then idF e.a&&((e.n==0||e.n==1)&&L.tag e.s)
 else if e.kind=11 then idF e.a&&(L.label e.s&&L.query e.t)
 else if e.kind=13 then L.moment e.n
 else false
def usedE(e:Ev):Ev:=
 if e.kind=1 then⟨e.kind,e.a,e.b,0,e.s,[],[]⟩
 else if e.kind=3 then⟨e.kind,e.a,e.b,0,e.s,e.t,[]⟩
 else if e.kind=5 then⟨e.kind,e.a,0,0,[],e.t,[]⟩
 else if e.kind=6 then⟨e.kind,e.a,e.b,0,[],[],[]⟩
 else if e.kind=7 then e
 else if e.kind=8∨e.kind=9 then⟨e.kind,e.a,0,e.n,[],[],[]⟩
 else if e.kind=10 then⟨e.kind,e.a,0,e.n,e.s,[],[]⟩
 else if e.kind=11 then⟨e.kind,e.a,0,0,e.s,e.t,[]⟩
 else if e.kind=13 then⟨e.kind,0,0,e.n,[],[],[]⟩
 else⟨e.kind,e.a,0,0,[],[],[]⟩
instance:DecidableEq Ev:=fun x y=>by
 cases x;cases y;simp only[Ev.mk.injEq];exact inferInstance
def Leaf.ck(L:Leaf)(e:Ev):Bool:=L.right e&&decide (usedE e=e)
@[go_sem] theorem Cg(h:Heap)(d e:Ev):abin Tryz.prog h .neq 57 (.agg [.int .i64 d.kind,.int .i64 d.a,.int .i64 d.b,.int .i64 d.n,.str d.s,.str d.t,.str d.u]) (.agg [.int .i64 e.kind,.int .i64 e.a,.int .i64 e.b,.int .i64 e.n,.str e.s,.str e.t,.str e.u])=some (.bool (!decide (d=e))):=by
 obtain⟨a1,a2,a3,a4,a5,a6,a7⟩:=d
 obtain⟨b1,b2,b3,b4,b5,b6,b7⟩:=e
 simp only[abin,go_sem,aeqL,aeq1, ↓reduceIte,Option.map_some,Option.some.injEq,AVal.bool.injEq,Ev.mk.injEq,Bool.not_inj_iff]
 rw[Bool.eq_iff_iff]
 simp
theorem Ev.clo(N:Nat)(e:Ev):Clo N e.av:=.agg _ fun x hx=>by
 simp only[List.mem_cons,List.not_mem_nil,or_false]at hx
 rcases hx with rfl|rfl|rfl|rfl|rfl|rfl|rfl<;>first|exact .int _ _|exact .str _
theorem dJ(N:Nat)(a b c d:Int)(s t u:Bs):Clo N (.agg [.int .i64 a,.int .i64 b,.int .i64 c,.int .i64 d,.str s,.str t,.str u]):=Ev.clo N ⟨a,b,c,d,s,t,u⟩
variable (G:Nat→Option (List AVal))
theorem ae(n:Int)(h:Heap):Sat (CT G) 207 [.int .i64 n] h (fun r h'=>r=.bool (idF n)∧h'=h):=by
 by_cases k:1≤n
 ·have k2:decide (n≥1)=true:=by simpa using k
  have F:=k2
  refine sb [.tmp 2] (fn:=Tryz.f207) Tryz.func207 ?_
  intro Q hQ
  refine wk F ?_
  refine ee hQ F ?_
  exact Fin.same (.bool _) ⟨by simp[idF,k],rfl⟩
 ·have k2:decide (n≥1)=false:=by simpa using k
  have F:=k2
  refine sb [.tmp 2] (fn:=Tryz.f207) Tryz.func207 ?_
  intro Q hQ
  refine wk F ?_
  refine ee hQ F ?_
  exact Fin.same (.bool _) ⟨by simp[idF,k],rfl⟩
theorem nO(e:Ev)(h:Heap):Sat (CT G) 155 [e.av] h (fun r h'=>r=(usedE e).av∧h'=h):=by
 by_cases k1:e.kind=1
 ·have F:=k1
  skip
  refine sb [.cell 2 57] (fn:=Tryz.f155) Tryz.func155 ?_
  intro Q hQ
  refine wn F ?_
  refine aH 6 [5] [true,true,true,true,true,false] (.one 5 [false,false,true,true] .fin) (by decide+kernel) (by kernel_rfl) (by decide+kernel) ?_
  simp only[aR,aS,aF]
  try refine sq F ?_
  repeat' (first| (refine aw ?_;try refine sq F ?_)| (refine ax ?_;try refine sq F ?_)| (refine ay ?_ ?_<;>try refine sq F ?_))
  all_goals try refine wn F ?_
  skip
  all_goals (
   refine ye hQ F ?_
   exact Fin.plain (dJ ..) ⟨by simp[usedE,Ev.av,k1],rfl⟩)
 by_cases k3:e.kind=3
 ·have F:=k3
  skip
  refine sb [.cell 2 57] (fn:=Tryz.f155) Tryz.func155 ?_
  intro Q hQ
  refine wn F ?_
  refine aH 10 [7,9] [true,true,true,true,true,true,true,false,true,false] (.one 7 [false,false,true,true,true,true,false,false,true] (.one 9 [false,false,false,false,true,true] .fin)) (by decide+kernel) (by kernel_rfl) (by decide+kernel) ?_
  simp only[aR,aS,aF]
  try refine sq F ?_
  repeat' (first| (refine aw ?_;try refine sq F ?_)| (refine ax ?_;try refine sq F ?_)| (refine ay ?_ ?_<;>try refine sq F ?_))
  all_goals try refine wn F ?_
  skip
  all_goals (
   refine ye hQ F ?_
   exact Fin.plain (dJ ..) ⟨by simp[usedE,Ev.av,k3],rfl⟩)
 by_cases k5:e.kind=5
 ·have F:=k5
  skip
  refine sb [.cell 2 57] (fn:=Tryz.f155) Tryz.func155 ?_
  intro Q hQ
  refine wn F ?_
  skip
  all_goals (
   refine ye hQ F ?_
   exact Fin.plain (dJ ..) ⟨by simp[usedE,Ev.av,k5],rfl⟩)
 by_cases k6:e.kind=6
 ·have F:=k6
  skip
  refine sb [.cell 2 57] (fn:=Tryz.f155) Tryz.func155 ?_
  intro Q hQ
  refine wn F ?_
  skip
  all_goals (
   refine ye hQ F ?_
   exact Fin.plain (dJ ..) ⟨by simp[usedE,Ev.av,k6],rfl⟩)
 by_cases k7:e.kind=7
 ·have F:=k7
  skip
  refine sb [.cell 2 57] (fn:=Tryz.f155) Tryz.func155 ?_
  intro Q hQ
  refine wn F ?_
  skip
  all_goals (
   refine ye hQ F ?_
   exact Fin.plain (dJ ..) ⟨by simp[usedE,Ev.av,k7],rfl⟩)
 by_cases k8:e.kind=8
 ·have F:=k8
  skip
  refine sb [.cell 2 57] (fn:=Tryz.f155) Tryz.func155 ?_
  intro Q hQ
  refine wn F ?_
  skip
  all_goals (
   refine ye hQ F ?_
   exact Fin.plain (dJ ..) ⟨by simp[usedE,Ev.av,k8],rfl⟩)
 by_cases k9:e.kind=9
 ·have F:=k9
  skip
  refine sb [.cell 2 57] (fn:=Tryz.f155) Tryz.func155 ?_
  intro Q hQ
  refine wn F ?_
  skip
  all_goals (
   refine ye hQ F ?_
   exact Fin.plain (dJ ..) ⟨by simp[usedE,Ev.av,k9],rfl⟩)
 by_cases k10:e.kind=10
 ·have F:=k10
  skip
  refine sb [.cell 2 57] (fn:=Tryz.f155) Tryz.func155 ?_
  intro Q hQ
  refine wn F ?_
  refine aH 6 [5] [true,true,true,true,true,false] (.one 5 [false,false,true,true] .fin) (by decide+kernel) (by kernel_rfl) (by decide+kernel) ?_
  simp only[aR,aS,aF]
  try refine sq F ?_
  repeat' (first| (refine aw ?_;try refine sq F ?_)| (refine ax ?_;try refine sq F ?_)| (refine ay ?_ ?_<;>try refine sq F ?_))
  all_goals try refine wn F ?_
  skip
  all_goals (
   refine ye hQ F ?_
   exact Fin.plain (dJ ..) ⟨by simp[usedE,Ev.av,k10],rfl⟩)
 by_cases k11:e.kind=11
 ·have F:=k11
  skip
  refine sb [.cell 2 57] (fn:=Tryz.f155) Tryz.func155 ?_
  intro Q hQ
  refine wn F ?_
  refine aH 6 [5] [true,true,true,true,true,false] (.one 5 [false,false,true,true] .fin) (by decide+kernel) (by kernel_rfl) (by decide+kernel) ?_
  simp only[aR,aS,aF]
  try refine sq F ?_
  repeat' (first| (refine aw ?_;try refine sq F ?_)| (refine ax ?_;try refine sq F ?_)| (refine ay ?_ ?_<;>try refine sq F ?_))
  all_goals try refine wn F ?_
  skip
  all_goals (
   refine ye hQ F ?_
   exact Fin.plain (dJ ..) ⟨by simp[usedE,Ev.av,k11],rfl⟩)
 by_cases k13:e.kind=13
 ·have F:=k13
  skip
  refine sb [.cell 2 57] (fn:=Tryz.f155) Tryz.func155 ?_
  intro Q hQ
  refine wn F ?_
  refine aH 4 [3] [true,true,true,false] (.one 3 [true,true] .fin) (by decide+kernel) (by kernel_rfl) (by decide+kernel) ?_
  simp only[aR,aS,aF]
  try refine sq F ?_
  repeat' (first| (refine aw ?_;try refine sq F ?_)| (refine ax ?_;try refine sq F ?_)| (refine ay ?_ ?_<;>try refine sq F ?_))
  all_goals try refine wn F ?_
  skip
  all_goals (
   refine ye hQ F ?_
   exact Fin.plain (dJ ..) ⟨by simp[usedE,Ev.av,k13],rfl⟩)
 have n1:(e.kind==1)=false:=by simp[k1]
 have n3:(e.kind==3)=false:=by simp[k3]
 have n5:(e.kind==5)=false:=by simp[k5]
 have n6:(e.kind==6)=false:=by simp[k6]
 have n7:(e.kind==7)=false:=by simp[k7]
 have n8:(e.kind==8)=false:=by simp[k8]
 have n9:(e.kind==9)=false:=by simp[k9]
 have n10:(e.kind==10)=false:=by simp[k10]
 have n11:(e.kind==11)=false:=by simp[k11]
 have n13:(e.kind==13)=false:=by simp[k13]
 have F:=wX n1 n3 n5 n6 n7 n8 n9 n10 n11 n13
 refine sb [.cell 2 57] (fn:=Tryz.f155) Tryz.func155 ?_
 intro Q hQ
 refine wk F ?_
 refine ye hQ F ?_
 exact Fin.plain (dJ ..) ⟨by simp[usedE,Ev.av,k1,k3,k5,k6,k7,k8,k9,k10,k11,k13],rfl⟩
theorem lL(L:Leaf)(e:Ev)(hR:∀h,Sat (CT G) 154 [e.av] h (fun r h'=>r=.bool (L.right e)∧h'=h))(h:Heap):Sat (CT G) 95 [e.av] h (fun r h'=>r=.int .i64 (if L.ck e then 0 else 140)∧h'=h):=by
 cases hr:L.right e with
 |false=>
  rw[hr]at hR
  skip
  refine sb [.tmp 2] (fn:=Tryz.f95) Tryz.func95 ?_
  intro Q hQ
  refine wn trivial ?_
  refine gX 4 (.two 4 (.two 5 (.one 6 (.one 7 (.one 8 .nil))) 6 (.one 5 (.one 7 (.one 8 .nil)))) 6 (.one 4 (.one 5 (.one 7 (.one 8 .nil))))) (by decide+kernel) (by kernel_rfl) (by decide+kernel) ?_
  simp only[List.take_succ_cons,List.take_zero]
  try refine sq trivial ?_
  repeat' (first|refine co ?_| (refine cr rfl ?_;refine sq trivial ?_)| (refine cu rfl rfl ?_ ?_<;>refine sq trivial ?_))
  skip
  refine aj (hR _) ?_
  try refine sq trivial ?_
  refine wk trivial ?_
  repeat' (first|refine co ?_| (refine cr rfl ?_;refine sq trivial ?_)| (refine cu rfl rfl ?_ ?_<;>refine sq trivial ?_))
  all_goals (
   refine wk trivial ?_
   refine ee hQ trivial ?_
   exact Fin.plain (.int _ _) ⟨by simp[Leaf.ck,hr],rfl⟩)
 |true=>
  rw[hr]at hR
  skip
  refine sb [.tmp 2] (fn:=Tryz.f95) Tryz.func95 ?_
  intro Q hQ
  refine wn trivial ?_
  refine gX 4 (.two 4 (.two 5 (.one 6 (.one 7 (.one 8 .nil))) 6 (.one 5 (.one 7 (.one 8 .nil)))) 6 (.one 4 (.one 5 (.one 7 (.one 8 .nil))))) (by decide+kernel) (by kernel_rfl) (by decide+kernel) ?_
  simp only[List.take_succ_cons,List.take_zero]
  try refine sq trivial ?_
  repeat' (first|refine co ?_| (refine cr rfl ?_;refine sq trivial ?_)| (refine cu rfl rfl ?_ ?_<;>refine sq trivial ?_))
  skip
  refine aj (hR _) ?_
  try refine sq trivial ?_
  refine wk trivial ?_
  repeat' (first|refine co ?_| (refine cr rfl ?_;refine sq trivial ?_)| (refine cu rfl rfl ?_ ?_<;>refine sq trivial ?_))
  all_goals (
   refine(nO G e _).mono ?_
   rintro r h' ⟨rfl,rfl⟩
   try refine sq trivial ?_
   repeat' (first|refine co ?_| (refine cr rfl ?_;refine sq trivial ?_)| (refine cu rfl rfl ?_ ?_<;>refine sq trivial ?_)))
  all_goals (
   try repeat' (first|refine co ?_| (refine cr rfl ?_;refine sq trivial ?_)| (refine cu rfl rfl ?_ ?_<;>refine sq trivial ?_))
   by_cases hu:usedE e=e
   ·have hd:decide (usedE e=e)=true:=by simp[hu]
    have F:=hd
    try refine sq F ?_
    refine wk F ?_
    refine ee hQ F ?_
    exact Fin.plain (.int _ _) ⟨by simp[Leaf.ck,hr,hu],rfl⟩
   ·have hd:decide (usedE e=e)=false:=by simp[hu]
    have F:=hd
    try refine sq F ?_
    refine wk F ?_
    refine ee hQ F ?_
    exact Fin.plain (.int _ _) ⟨by simp[Leaf.ck,hr,hu],rfl⟩)
end Go.Av
