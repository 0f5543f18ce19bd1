/- Parts. -/
import Derived.Test.YtjfjncmgclaokaaGreatDoorMqRb
set_option linter.unusedSimpArgs false
set_option linter.unusedVariables false
set_option linter.unusedSectionVars false
set_option linter.unnecessarySimpa false
set_option maxRecDepth 100000
set_option maxHeartbeats 16000000
namespace Go.Av
open Go Go.RowKit
theorem ba{H:Heap}{p q:Nat}(b:Blk)(v:Nat)(hne:p≠q):getRow (H.set p b) q v=getRow H q v:=by
 unfold getRow;rw[K6 hne]
theorem bV{H:Heap}{p:Nat}(e n u v:Nat)(rows:List AVal)(hp:p<H.length):getRow (H.set p (.row e n u rows)) p v=if v=u then some (e,n,rows)else none:=by
 unfold getRow;rw[L5 hp]
theorem bO{A l:Heap}{p:Nat}(v:Nat)(hp:p<A.length):getRow (A++l) p v=getRow A p v:=by
 unfold getRow;rw[H0 hp]
theorem eZ{A l:Heap}{n k:Nat}(v:Nat)(hn:A.length=n):getRow (A++l) (n+k) v=getRow l k v:=by subst hn;exact fX A l k v
theorem bL{A l:Heap}{n:Nat}(v:Nat)(hn:A.length=n):getRow (A++l) n v=getRow l 0 v:=by subst hn;exact nR A l v
theorem rS{A l:Heap}{p:Nat}(b:Blk)(hp:p<A.length):(A++l).set p b=A.set p b++l:=List.set_append_left p b hp
theorem xA{A l:Heap}{n k:Nat}(b:Blk)(hn:A.length=n):(A++l).set (n+k) b=A++l.set k b:=by subst hn;exact ki A l k b
theorem eO{A l:Heap}{n:Nat}(b:Blk)(hn:A.length=n):(A++l).set n b=A++l.set 0 b:=by subst hn;exact tN A l b
theorem al:(∀{H:Heap} {p q:Nat} (b:Blk) (v:Nat) (_:p≠q),getRow (H.set p b) q v=getRow H q v)∧
  (∀{H:Heap} {p:Nat} (e n u v:Nat) (rows:List AVal) (_:p<H.length),getRow (H.set p (.row e n u rows)) p v=if v=u then some (e,n,rows)else none)∧
  (∀{A l:Heap} {p:Nat} (v:Nat) (_:p<A.length),getRow (A++l) p v=getRow A p v)∧
  (∀{A l:Heap} {n k:Nat} (v:Nat) (_:A.length=n),getRow (A++l) (n+k) v=getRow l k v)∧
  (∀{A l:Heap} {n:Nat} (v:Nat) (_:A.length=n),getRow (A++l) n v=getRow l 0 v)∧
  (∀{A l:Heap} {p:Nat} (b:Blk) (_:p<A.length),(A++l).set p b=A.set p b++l)∧
  (∀{A l:Heap} {n k:Nat} (b:Blk) (_:A.length=n),(A++l).set (n+k) b=A++l.set k b)∧
  (∀{A l:Heap} {n:Nat} (b:Blk) (_:A.length=n),(A++l).set n b=A++l.set 0 b)∧
  (∀(H:Heap) (i:Nat) (b:Blk),(H.set i b).length=H.length)∧(∀(H:Heap) (i:Nat) (a b:Blk),(H.set i a).set i b=H.set i b):=
 ⟨ba,bV,bO,eZ,bL,rS,xA,eO,fun _ _ _=>List.length_set ..,fun _ _ _ _=>T9 ..⟩
theorem aw{H:Heap}{p v:Nat}{x:TypeId×Nat×List AVal}(h:getRow H p v=some x):p<H.length:=by
 obtain⟨e,n,r⟩:=x;exact(F1.1 (bS h)).1
attribute [go_sem] List.length_set
def FrN(n0:Nat)(H H':Heap):Prop:=∀p,p<n0→H'[p]? =H[p]?
theorem FrN.refl(n0:Nat)(H:Heap):FrN n0 H H:=fun _ _=>rfl
theorem FrN.set{n0:Nat}{H H':Heap}{q:Nat}(b:Blk)(hq:n0≤q)(g:FrN n0 H H'):FrN n0 H (H'.set q b):=fun p hp=>by rw[K6 (by omega)];exact g p hp
theorem FrN.app{n0:Nat}{H H':Heap}(l:Heap)(hn:n0≤H'.length)(g:FrN n0 H H'):FrN n0 H (H'++l):=fun p hp=>by rw[H0 (by omega)];exact g p hp
theorem FrN.trans{n0:Nat}{H H' H'':Heap}(g:FrN n0 H H')(k:FrN n0 H' H''):FrN n0 H H'':=fun p hp=>(k p hp).trans (g p hp)
theorem Fin.whole{h0 h1:Heap}{R:AVal→Heap→Prop}{r:AVal}(hl:h0.length≤h1.length)(hc:Clo h1.length r)(hR:R r h1):Fin h0 h1 R r:=
 ⟨h1.length,r,hl,.clo _ hc,.inl (H5 _),by rw[List.take_length];exact hR⟩
section
variable {C:Ctx}
theorem Sat.postw{f:FuncId}{args:List AVal}{h:Heap}{R R':AVal→Heap→Prop}(s:Sat C f args h R)(k:∀r h',R r h'→∃h'',(∀t,Weak C [] t h' t h'')∧R' r h''):Sat C f args h R':=by
 unfold Sat at*;intro B S μ w vs f0 rl;refine(s B S μ w vs f0 rl).mono fun v w' ⟨r,h',S',μ',hR,st,f1,hr⟩=>?_
 obtain⟨h'',hw,hR'⟩:=k r h' hR;obtain⟨S2,μ2,st2,f2,_⟩:=(hw fun _=>undefA).2 B 0 S' μ' w' {tmps:= #[],defers:=[]} f1 ⟨rfl,rfl,fun i hi=>by omega⟩;exact⟨r,h'',S2,μ2,hR',st.trans st2,f2,hr.mono st2⟩
theorem o3{ops:Array Oper}{x y:Operand}{T T':TypeId}{ty:TypeId}{pos:String}{aft:Array Edge}{dst:Option Tmp}{t:Env}{h:Heap}{K:AVal→Heap→Prop}:
  wpOperV C ops ⟨dst,.call ⟨.builtin .append, #[x,y], #[T,T']⟩,ty,pos,aft,none⟩ t h K=appK C T T' (aev C.G t x) (aev C.G t y) h K:=rfl
theorem um{T T' e n by' p ver len:Nat}{y:AVal}{rows ys:List AVal}{h:Heap}{k:AVal→Heap→Prop}(hT:T'=T∨strT C.P T'=true)(he:elmT C.P T=some e)(hn:szOf C.P e=some n)(hb:byT C.P e=some by')
  (hz:(zroT C.P e).map (fun z=>z.cells.length)=some n)(h0:0<n)(hy:elemsOf h n y=some ys)(hrow:getRow h p ver=some (e,n,rows))(hl:len≤rows.length)(hys:0<ys.length)
  (hr:len+ys.length≤maxLen∧(len+ys.length)*by'≤140737488355328)
  (hk:k (.hs h.length 0 0 (len+ys.length) true) (h++[.row e n 0 (rows.take len++ys)])):appK C T T' (.hs p ver 0 len false) y h k:=by
 refine⟨hT,?_⟩;simp only[wpAppend,he,hn,hb,hy,hrow,bm];exact⟨h0,hz,trivial,trivial,trivial,hr,by rw[G0 (by simp)];exact⟨hys,hl,hk⟩⟩
theorem jG{P:Program}{h:Heap}{T e p v off len n m r:Nat}{room:Bool}{rows:List AVal}{k k':IntKind}(he:elmT P T=some e)(hg:getRow h p v=some (m,n,rows))(hn:szOf P e=some n)(hr:r≤len):
  aslice P h T (.hs p v off len room) none (some (.int k (r:Int))) (some (.int k' (r:Int)))=some (.hs p v off r false):=by
 simp only[aslice,he,hg,hn,if_true,optInt];rw[G3 ⟨Int.le_refl _,by omega,by omega,.inl trivial⟩];simp
end
end Go.Av
namespace Go.Av
open Go Go.Proofs Go.RowKit
attribute [local irreducible] WP WPl WPix Sat
variable (G:Nat→Option (List AVal))
structure OE where
 n:Bs
 a:List At
 t:Bs
 k:List Elem
 q:Nat
 v:Nat
def OE.av(o:OE):AVal:=.agg [.str o.n,.sl 2 (o.a.map At.av),.str o.t,.hs o.q o.v 0 o.k.length true]
def OE.el(o:OE):Elem:=⟨o.n,o.a,o.t,o.k⟩
@[go_sem] theorem OE.av_cells(o:OE):AVal.cells (OE.av o)=[.str o.n,.sl 2 (o.a.map At.av),.str o.t,.hs o.q o.v 0 o.k.length true]:=(rfl)
@[go_sem] theorem OE.av_fold(o:OE):AVal.agg [.str o.n,.sl 2 (o.a.map At.av),.str o.t,.hs o.q o.v 0 o.k.length true]=OE.av o:=(rfl)
@[go_sem] theorem OE.av_lies(o:OE):AVal.lies (OE.av o)=true:=(rfl)
@[go_sem] theorem OE.of(o:OE)(cs:List AVal):ofCells (OE.av o) cs=.agg cs:=(rfl)
structure BH (H:Heap) (n0 pb po vo:Nat) (room:Bool) (os:List OE) (pd vd:Nat) (ds:List Elem):Prop where
 b:getRow H pb 0=some (186,2,[.agg [.hs po vo 0 os.length room,.hs pd vd 0 ds.length true]])
 o:getRow H po vo=some (76,4,os.map OE.av)
 d:getRow H pd vd=some (76,4,ds.map Elem.av)
 k:∀(i:Nat) (o:OE),os[i]? =some o→getRow H o.q o.v=some (76,4,o.k.map Elem.av)
 od:po≠pd
 ko:∀(i:Nat) (o:OE),os[i]? =some o→o.q≠po∧o.q≠pd∧n0≤o.q
 kk:∀(i j:Nat) (o o':OE),os[i]? =some o→os[j]? =some o'→i≠j→o.q≠o'.q
 n:n0≤pb∧n0≤po∧n0≤pd
theorem cA{H:Heap}{p q v u e e' n n':Nat}{rs rs':List AVal}(h1:getRow H p v=some (e,n,rs))(h2:getRow H q u=some (e',n',rs'))(hn:n≠n'):p≠q:=by
 rintro rfl;have a:=bS h1;have b:=bS h2
 rw[a]at b;simp at b;exact hn b.2.1
variable {H:Heap} {n0 pb po vo pd vd:Nat} {room:Bool} {os:List OE} {ds:List Elem}
theorem BH.bo(g:BH H n0 pb po vo room os pd vd ds):pb≠po:=cA g.b g.o (by decide)
theorem BH.bd(g:BH H n0 pb po vo room os pd vd ds):pb≠pd:=cA g.b g.d (by decide)
theorem BH.bk(g:BH H n0 pb po vo room os pd vd ds)(i:Nat)(o:OE)(h:os[i]? =some o):pb≠o.q:=cA g.b (g.k i o h) (by decide)
def stepB(os ds:List Elem)(t:Tok):Option (List Elem×List Elem):=
 if t.1=1 then(if os.length+1≤32∧ds=[]then some (os++[⟨t.2.1,t.2.2.1,[],[]⟩],ds)else none)
 else if t.1=2 then
  match os.getLast? with
  |none=>none
  |some e=>if e.name=t.2.1 then
    match os.dropLast.getLast? with
    |none=>some ([],ds++[e])
    |some p=>some (os.dropLast.dropLast++[⟨p.name,p.attrs,p.text,p.kids++[e]⟩],ds)
   else none
 else if t.1=3 then
  match os.getLast? with
  |none=>if t.2.2.2.all blankB=true then some ([],ds)else none
  |some e=>some (os.dropLast++[⟨e.name,e.attrs,e.text++t.2.2.2,e.kids⟩],ds)
 else none
def BPost(n0 pb:Nat)(H:Heap)(os ds:List Elem)(x:Option (List Elem×List Elem))(r:AVal)(H':Heap):Prop:=
 (FrN n0 H H'∧H.length≤H'.length)∧match x with
 |none=>r=.bool false
 |some y=>r=.bool true∧∃po vo room os' pd vd,BH H' n0 pb po vo room os' pd vd y.2∧os'.map OE.el=y.1
end Go.Av
namespace Go.Av
open Go Go.Proofs Go.RowKit
attribute [local irreducible] WP WPl WPix Sat
variable (G:Nat→Option (List AVal))
def setL:List AVal:=(List.range 256).map fun i:Nat=>.bool (blankP (i:Int))
theorem uQ:setL.length=256:=by simp[setL]
theorem wi(c:UInt8):(setL.drop (c.toNat*1)).head? =some (.bool (blankB c)):=by
 rw[Nat.mul_one];have h:=c.toNat_lt;have e:setL.drop c.toNat=.bool (blankB c)::setL.drop (c.toNat+1):=by
  refine aF ?_;unfold setL;rw[L4,List.getElem?_range (by omega)];rfl
 rw[e];rfl
theorem uR:isV (.tup [.agg setL,.bool true]) (callX (CT G) orcL 1000 100 279 [.str blk4] [])=true:=by
 kernel_rfl
theorem uS(hG:GOk G)(hC:GClo (CT G))(h:Heap):Sat (CT G) 279 [.str blk4] h (fun r h'=>r=.tup [.agg setL,.bool true]∧h'=h):=
 Sat.closedV hC (fI hG) 1000 100 rfl (by kernel_rfl) (uR G) h
def setR:Blk:=.row 281 256 0 [.agg setL]
@[go_sem] theorem yp(l:Heap):getRow (setR::l) 0 0=some (281,256,[.agg setL]):=rfl
theorem ie(c:UInt8)(h:Heap):Sat (CT G) 306 [.hp h.length 0 0 0,.int .u8 c.toNat] (h++[setR]) (fun r h'=>r=.bool (blankB c)∧h'=h++[setR]):=by
 have hlt:=c.toNat_lt;have hs:=wi c;have F:=hs;refine sb [.tmp 4] Tryz.func306 ?_;intro Q hQ;refine wk F ?_;refine⟨by omega,?_⟩;try refine sq F ?_
 refine wk F ?_;refine ee hQ F ?_;exact V6 (.clo _ (.bool _)) ⟨rfl,rfl⟩
def ltrim(s:Bs):Bs:=s.dropWhile blankB
def rtrim(s:Bs):Bs:=(s.reverse.dropWhile blankB).reverse
theorem qA(s:Bs)(c:UInt8):rtrim (s++[c])=if blankB c=true then rtrim s else s++[c]:=by
 unfold rtrim;rw[List.reverse_append,List.reverse_singleton,List.singleton_append,M7];split
 ·rfl
 ·simp
theorem nf(s:Bs)(hs:s.length≤1073741824)(h:Heap):Sat (CT G) 280 [.str s,.hp h.length 0 0 0] (h++[setR]) (fun r h'=>r=.str (ltrim s)∧h'=h++[setR]):=by
 refine sb [.tmp 4] Tryz.func280 ?_;intro Q hQ;refine wk trivial ?_;refine lm (fun nL tL hL=>∃(s1:Bs),s1.length=nL∧h++[setR]=hL∧tL 0=.str s1∧s1.length≤s.length∧ltrim s1=ltrim s) ((fun(s1:Bs)=>(s1.length:Nat)) (s)) ?_ ?_
 ·refine G9 ⟨s,rfl,ar,?_,?_,?_⟩;all_goals try exact zZz trivial
 rintro _ s2 h' ⟨s1,rfl,rfl,e0,hl,hp⟩ K2 hK2;simp only[ai,ak,Nat.reduceEqDiff, ↓reduceIte]at e0;have F:=e0;refine wk F ?_;cases s1 with
 |nil=>
  refine cq F (fun hc=>?_) (fun hc=>?_)<;>(try exact hc.elim)<;>(refine wk F ?_)
  refine ee hQ F ?_;rw[← hp];exact V6 (.clo _ (.str _)) ⟨rfl,rfl⟩
 |cons c t=>
  have h0:(c::t)[0]? =some c:=rfl;have h1:(c::t).drop 1=t:=rfl;have h2:(c::t).length=t.length+1:=rfl;simp only[G5]at hl;unfold ltrim at hp;rw[M7]at hp;have F:=F3 F h0 h1;refine cq F (fun hc=>?_) (fun hc=>?_)<;>(try exact hc.elim)<;>(refine wk F ?_)
  ·(try refine sq F ?_);refine kq F (ie G c h) ?_;refine cq F (fun hb=>?_) (fun hb=>?_)<;>(try exact hb.elim)<;>(refine wk F ?_)
   ·rw[G0 (by simp[hb])]at hp;refine ee hQ F ?_;unfold ltrim;rw[← hp];exact V6 (.clo _ (.str _)) ⟨rfl,rfl⟩
   ·rw[G3 hb]at hp;have h3:(1:Int)≤((c::t).length:Int):=(by simp only[G5];omega);have F:=F2 F h3;(try refine sq F ?_);refine wk F ?_;refine hK2 _ _ _ (G9 ⟨t,rfl,ar,?_,by omega,hp⟩) (by omega);all_goals try exact zZz F
  ·exfalso;omega
theorem lU(s:Bs)(hs:s.length≤1073741824)(h:Heap):Sat (CT G) 281 [.str s,.hp h.length 0 0 0] (h++[setR]) (fun r h'=>r=.str (rtrim s)∧h'=h++[setR]):=by
 refine sb [.tmp 4] Tryz.func281 ?_;intro Q hQ;refine wk trivial ?_;refine lm (fun nL tL hL=>∃(s1:Bs),s1.length=nL∧h++[setR]=hL∧tL 0=.str s1∧s1.length≤s.length∧rtrim s1=rtrim s) ((fun(s1:Bs)=>(s1.length:Nat)) (s)) ?_ ?_
 ·refine G9 ⟨s,rfl,ar,?_,?_,?_⟩;all_goals try exact zZz trivial
 rintro _ s2 h' ⟨s1,rfl,rfl,e0,hl,hp⟩ K2 hK2;simp only[ai,ak,Nat.reduceEqDiff, ↓reduceIte]at e0;have F:=e0;refine wk F ?_;rcases P0 s1 with rfl| ⟨t,c,rfl⟩
 ·refine cq F (fun hc=>?_) (fun hc=>?_)<;>(try exact hc.elim)<;>(refine wk F ?_)
  refine ee hQ F ?_;rw[← hp];exact V6 (.clo _ (.str _)) ⟨rfl,rfl⟩
 ·rw[P1]at*;have h2:(t++[c]).length=t.length+1:=by simp
  have h0:(t++[c])[t.length]? =some c:=by simp
  have h1:(t++[c]).take t.length=t:=by simp
  have h4:((t.length+1:Nat):Int)-1=t.length:=by omega
  rw[qA]at hp;rw[h2]at hl;have F:=F4 F h0 h1 h4;refine cq F (fun hc=>?_) (fun hc=>?_)<;>(try exact hc.elim)<;>(refine wk F ?_)
  ·(try refine sq F ?_);refine kq F (ie G c h) ?_;refine cq F (fun hb=>?_) (fun hb=>?_)<;>(try exact hb.elim)<;>(refine wk F ?_)
   ·rw[G0 (by simp[hb])]at hp;refine ee hQ F ?_;rw[← hp];exact V6 (.clo _ (.str _)) ⟨rfl,rfl⟩
   ·rw[G3 hb]at hp;(try refine sq F ?_);refine wk F ?_;refine hK2 _ _ _ (G9 ⟨t,rfl,ar,?_,by omega,hp⟩) (by omega);all_goals try exact zZz F
  ·exfalso;omega
theorem lE:∀s:Bs,ltrim s=[]↔s.all blankB=true
 | []=>by simp[ltrim]
 |c::t=>by
  have:=lE t;unfold ltrim at*;rw[M7];by_cases hb:blankB c=true
  ·rw[G3 hb];simp[this,hb]
  ·rw[G0 hb];simp[hb]
theorem sL(s:Bs):(rtrim s).all blankB=s.all blankB:=by
 have hs:s=rtrim s++(s.reverse.takeWhile blankB).reverse:=by
  unfold rtrim;rw[← List.reverse_append,M3,List.reverse_reverse]
 conv=>rhs;rw[hs]
 rw[List.all_append];have:(s.reverse.takeWhile blankB).reverse.all blankB=true:=by
  rw[List.all_reverse];exact List.all_takeWhile
 rw[this,Bool.and_true]
theorem sM(s:Bs):ltrim (rtrim s)=[]↔s.all blankB=true:=by rw[lE,sL]
theorem uT(hG:GOk G)(hC:GClo (CT G))(s:Bs)(hs:s.length≤1073741824)(h:Heap):Sat (CT G) 233 [.str s,.str blk4] h (fun r h'=>∃x,r=.str x∧(x=[]↔s.all blankB=true)∧h'=h):=by
 have b1:(blk4==([]:Bs))=false:=rfl;have b2:(blk4.length:Int)=4:=rfl;have hr:(rtrim s).length≤s.length:=by
  unfold rtrim;have:=aC blankB s.reverse;simp at this ⊢;exact this
 have hs0:∀(j:Heap),h++[.row 281 256 0 [.agg setL]]++j=h++[setR]++j:=fun j=>rfl
 have F:=F3 b1 b2 @uQ;refine sb [.tmp 4] Tryz.func233 ?_;intro Q hQ;refine wk F ?_;(first|refine gq F (fun g1=>?_) (fun g1=>?_)|refine pq F (fun g1=>?_) (fun g1=>?_))<;>(try exact g1.elim)<;>(try refine sq F ?_)<;>(refine wk F ?_)
 ·refine ee hQ F ?_;exact V6 (.clo _ (.str _)) ⟨s,rfl,by rw[show s=[]from by simpa using g1];simp,rfl⟩
 ·refine kq F (uS G hG hC _) ?_;refine kq F (lU G s hs _) ?_;refine kq F (nf G (rtrim s) (by omega) _) ?_;refine ee hQ F ?_;exact V3 (j:=[setR]) rfl (.str _) ⟨_,rfl,sM s,rfl⟩
variable {H:Heap} {n0 pb po vo pd vd:Nat} {room:Bool} {os:List OE} {ds:List Elem}
theorem ig(os ds:List Elem)(k:Int)(n:Bs)(a:List At)(x:Bs)(hk:k=3):stepB os ds (k,n,a,x)=match os.getLast? with
  |none=>if x.all blankB=true then some ([],ds)else none
  |some e=>some (os.dropLast++[⟨e.name,e.attrs,e.text++x,e.kids⟩],ds):=by
 subst hk;rfl
theorem BH.text{l:List OE}{o:OE}(g:BH H n0 pb po vo room (l++[o]) pd vd ds)(x:Bs):
  BH (H.set po (.row 76 4 vo ((l++[{o with t:=x}]).map OE.av))) n0 pb po vo room (l++[{o with t:=x}]) pd vd ds:=by
 have hb:=g.b;have at_:∀(i:Nat) (p:OE),(l++[{o with t:=x}])[i]? =some p→∃p',(l++[o])[i]? =some p'∧p.q=p'.q∧p.v=p'.v∧p.k=p'.k:=by
  intro i p hi;rcases aI hi with h1| ⟨h1,rfl⟩
  ·exact⟨p,by rw[H0 (F1.1 h1).1];exact h1,rfl,rfl,rfl⟩
  ·exact⟨o,by rw[h1];simp,rfl,rfl,rfl⟩
 refine⟨?_,?_,?_,fun i p hi=>?_,g.od,fun i p hi=>?_,fun i j p p' hi hj hij=>?_,g.n⟩
 ·rw[ba _ _ g.bo.symm,hb];simp
 ·rw[bV _ _ _ _ _ (aw g.o)];simp
 ·rw[ba _ _ g.od];exact g.d
 ·obtain⟨p',h1,h2,h3,h4⟩:=at_ i p hi;have:=g.ko i p' h1;rw[h2,h3,h4,ba _ _ this.1.symm];exact g.k i p' h1
 ·obtain⟨p',h1,h2,h3,h4⟩:=at_ i p hi;rw[h2];exact g.ko i p' h1
 ·obtain⟨p1,h1,h2,_⟩:=at_ i p hi;obtain⟨p2,h3,h4,_⟩:=at_ j p' hj;rw[h2,h4];exact g.kk i j p1 p2 h1 h3 hij
theorem sN(hG:GOk G)(hC:GClo (CT G))(x:Bs)(hx:x.length≤1073741824)(g:BH H n0 pb po vo room os pd vd ds)(hos:os.length≤1000)(ht:∀o∈os,o.t.length+x.length≤140737488355328):
  Sat (CT G) 179 [.hp pb 0 0 0,.str x] H (BPost n0 pb H (os.map OE.el) ds (stepB (os.map OE.el) ds (3,[],[],x))):=by
 have hb:=g.b;have ho:=g.o;have hlo:=aw ho;have hn:=g.n;rw[ig _ _ _ _ _ _ rfl];have F:=F2 hb ho;refine sb [.tmp 4] Tryz.func179 ?_;intro Q hQ;refine wk F ?_;rcases P0 os with rfl| ⟨l,o,rfl⟩
 ·refine cq F (fun hc=>?_) (fun hc=>?_)<;>(try exact hc.elim)<;>(refine wk F ?_)
  ·refine(uT G hG hC x hx _).mono ?_;rintro r h' ⟨y,rfl,hy,rfl⟩;(try refine sq F ?_);refine wk F ?_;refine ee hQ F ?_;have e:∀b:Bool,b=x.all blankB→BPost n0 pb h' ([].map OE.el) ds (if x.all blankB=true then some ([],ds)else none) (.bool b) h':=fun b hb=>by
    refine⟨⟨fun _ _=>rfl,H5 _⟩,?_⟩;cases hq:x.all blankB with
    |true=>rw[G3 rfl];exact⟨by rw[hb,hq],po,vo,room,[],pd,vd,g,rfl⟩
    |false=>rw[G0 (by simp)];show _=_;rw[hb,hq]
   refine I8 (.bool _) (e _ ?_);cases hq:x.all blankB with
   |true=>rw[hy.2 hq];rfl
   |false=>
    have:y≠ []:=fun e=>by rw[hy.1 e]at hq;cases hq
    simpa using this
  ·exact absurd trivial hc
 ·rw[P1]at*;have e1:((l.length+1:Nat):Int)-1=l.length:=by omega
  have e2:(l++[o])[l.length]? =some o:=by simp
  have e3:l.length<l.length+1:=by omega
  have e4:=ht o (by simp);have hbt:=g.text (o.t++x);have e5:(l.map OE.av++[o.av]).set l.length (.agg [.str o.n,.sl 2 (o.a.map At.av),.str (o.t++x),.hs o.q o.v 0 o.k.length true])=(l++[{o with t:=o.t++x}]).map OE.av:=by
   simp[OE.av]
  have F:=F4 F e1 e2 e3;refine cq F (fun hc=>?_) (fun hc=>?_)<;>(try exact hc.elim)<;>(refine wk F ?_)
  ·exfalso;omega
  ·(try refine sq F ?_);refine wk F ?_;refine ee hQ F ?_;have key:=Fin.whole (h0:=H) (R:=BPost n0 pb H ((l++[o]).map OE.el) ds (some (((l++[o]).map OE.el).dropLast++[⟨o.n,o.a,o.t++x,o.k⟩],ds))) (h1:=H.set po (.row 76 4 vo ((l++[{o with t:=o.t++x}]).map OE.av))) (r:=.bool true) (by simp) (.bool _)
    ⟨⟨fun p hp=>K6 (by omega),by simp⟩,rfl,po,vo,room,_,pd,vd,hbt,by simp[OE.el]⟩
   simp only[M9,K4,N6,List.getLast?_append,List.getLast?_singleton,Option.some_or]at key ⊢;rw[e5,M9,K4,N6];exact key
end Go.Av
namespace Go.Av
open Go Go.Proofs Go.RowKit
attribute [local irreducible] WP WPl WPix Sat
variable (G:Nat→Option (List AVal))
theorem uU{h0 h1 pre post:Heap}{e v q:Nat}(l:List At)(hh:h1=pre++ .row e 2 v (l.map At.av)::post)(hq:q=pre.length)(hp:h0.length≤q):Frz h1 h0.length (.hs q v 0 l.length true) (.sl 2 (l.map At.av)):=by
 have:=mN (h0:=h0) hh hq hp (fun r hr=>by obtain⟨a,_,rfl⟩:=J9.1 hr;exact At.clo _ a) (fun r hr=>by obtain⟨a,_,rfl⟩:=J9.1 hr;exact At.cells_sto a);simpa using this
theorem jQ(l:List At)(hl:l.length≤1048576)(h:Heap):Sat (CT G) 177 [.sl 2 (l.map At.av)] h (fun r h'=>r=.sl 2 (l.map At.av)∧h'=h):=by
 rcases l with _| ⟨a,l⟩
 ·refine sb [.tmp 2] Tryz.func177 ?_;intro Q hQ;refine wk trivial ?_;refine pM _ (by exact zq trivial) (.inl rfl) fun b=>?_
  cases b
  ·(try refine sq trivial ?_);refine wk trivial ?_;refine oH (.inl rfl) (by simp(disch:=first|omega| (simp only[go_sem, ↓reduceIte,seval];first|done|omega)|fail) only[go_sem, ↓reduceIte,seval];rfl) (by simp(disch:=first|omega| (simp only[go_sem, ↓reduceIte,seval];first|done|omega)|fail) only[go_sem, ↓reduceIte,seval];rfl) (by simp(disch:=first|omega| (simp only[go_sem, ↓reduceIte,seval];first|done|omega)|fail) only[go_sem, ↓reduceIte,seval];rfl) (by simp(disch:=first|omega| (simp only[go_sem, ↓reduceIte,seval];first|done|omega)|fail) only[go_sem, ↓reduceIte,seval];try rfl) (by omega) (by simp only[elemsOf, ↓reduceIte];try rfl) (by simp) (fun _=>?_) (fun h=>absurd rfl h);(try refine sq trivial ?_);refine wk trivial ?_;refine ee hQ trivial ?_;exact V6 (.ezs _) ⟨rfl,rfl⟩
  ·(try refine sq trivial ?_);refine wk trivial ?_;refine ee hQ trivial ?_;exact V6 (.nils _) ⟨rfl,rfl⟩
 ·have hr:(List.map At.av (a::l))≠ []:=by simp
  refine sb [.tmp 2] Tryz.func177 ?_;intro Q hQ;refine wk trivial ?_;refine oH (.inl rfl) (by simp(disch:=first|omega| (simp only[go_sem, ↓reduceIte,seval];first|done|omega)|fail) only[go_sem, ↓reduceIte,seval];rfl) (by simp(disch:=first|omega| (simp only[go_sem, ↓reduceIte,seval];first|done|omega)|fail) only[go_sem, ↓reduceIte,seval];rfl) (by simp(disch:=first|omega| (simp only[go_sem, ↓reduceIte,seval];first|done|omega)|fail) only[go_sem, ↓reduceIte,seval];rfl) (by simp(disch:=first|omega| (simp only[go_sem, ↓reduceIte,seval];first|done|omega)|fail) only[go_sem, ↓reduceIte,seval];try rfl) (by omega) (by simp only[elemsOf, ↓reduceIte];try rfl) ?_ (fun h=>by simp at h) (fun _=>?_)
  ·simp[maxLen]at hl ⊢;omega
  try refine sq trivial ?_
  refine wk trivial ?_;refine ee hQ trivial ?_;have:=uU (h0:=h) (h1:=h++[.row 228 2 0 ((a::l).map At.av)]) (e:=228) (v:=0) (a::l) rfl rfl (H5 _);simp only[G5,K4]at this;exact P3 (by simpa using this) ⟨rfl,rfl⟩
end Go.Av
