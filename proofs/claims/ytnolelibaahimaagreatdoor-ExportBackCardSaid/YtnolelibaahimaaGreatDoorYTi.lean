/- Parts. -/
import Derived.Test.YtnolelibaahimaaGreatDoorYInx
set_option linter.unusedSimpArgs false
set_option linter.unusedVariables false
set_option linter.unusedSectionVars false
set_option linter.unnecessarySimpa false
set_option maxRecDepth 100000
set_option maxHeartbeats 16000000
namespace Go.Av
open Go Go.Proofs Go.RowKit
section
attribute [local irreducible] WP WPl WPix Sat
variable (G:Nat→Option (List AVal))
structure OE where
 n:Bs
 a:List At
 t:Bs
 k:List Elem
 q:Nat
 v:Nat
def OE.av(o:OE):AVal:=.agg [.str o.n,.sl 2 (o.a.map At.av),.str o.t,.hs o.q o.v 0 o.k.length true]
def OE.el(o:OE):Elem:=⟨o.n,o.a,o.t,o.k⟩
@[go_sem] theorem OE.av_cells(o:OE):AVal.cells (OE.av o)=[.str o.n,.sl 2 (o.a.map At.av),.str o.t,.hs o.q o.v 0 o.k.length true]:=(rfl)
@[go_sem] theorem OE.av_fold(o:OE):AVal.agg [.str o.n,.sl 2 (o.a.map At.av),.str o.t,.hs o.q o.v 0 o.k.length true]=OE.av o:=(rfl)
@[go_sem] theorem OE.av_lies(o:OE):AVal.lies (OE.av o)=true:=(rfl)
@[go_sem] theorem OE.of(o:OE)(cs:List AVal):ofCells (OE.av o) cs=.agg cs:=(rfl)
structure BH (H:Heap) (n0 pb po vo:Nat) (room:Bool) (os:List OE) (pd vd:Nat) (ds:List Elem):Prop where
 b:getRow H pb 0=some (225,2,[.agg [.hs po vo 0 os.length room,.hs pd vd 0 ds.length true]])
 o:getRow H po vo=some (171,4,os.map OE.av)
 d:getRow H pd vd=some (171,4,ds.map Elem.av)
 k:∀(i:Nat) (o:OE),os[i]? =some o→getRow H o.q o.v=some (171,4,o.k.map Elem.av)
 od:po≠pd
 ko:∀(i:Nat) (o:OE),os[i]? =some o→o.q≠po∧o.q≠pd∧n0≤o.q
 kk:∀(i j:Nat) (o o':OE),os[i]? =some o→os[j]? =some o'→i≠j→o.q≠o'.q
 n:n0≤pb∧n0≤po∧n0≤pd
theorem cF{H:Heap}{p q v u e e' n n':Nat}{rs rs':List AVal}(h1:getRow H p v=some (e,n,rs))(h2:getRow H q u=some (e',n',rs'))(hn:n≠n'):p≠q:=by
 rintro rfl;have a:=bP h1;have b:=bP h2
 rw[a]at b;simp at b;exact hn b.2.1
variable {H:Heap} {n0 pb po vo pd vd:Nat} {room:Bool} {os:List OE} {ds:List Elem}
theorem BH.bo(g:BH H n0 pb po vo room os pd vd ds):pb≠po:=cF g.b g.o (by decide)
theorem BH.bd(g:BH H n0 pb po vo room os pd vd ds):pb≠pd:=cF g.b g.d (by decide)
theorem BH.bk(g:BH H n0 pb po vo room os pd vd ds)(i:Nat)(o:OE)(h:os[i]? =some o):pb≠o.q:=cF g.b (g.k i o h) (by decide)
def stepB(os ds:List Elem)(t:Tok):Option (List Elem×List Elem):=
 if t.1=1 then(if os.length+1≤32∧ds=[]then some (os++[⟨t.2.1,t.2.2.1,[],[]⟩],ds)else none)
 else if t.1=2 then
  match os.getLast? with
  |none=>none
  |some e=>if e.name=t.2.1 then
    match os.dropLast.getLast? with
    |none=>some ([],ds++[e])
    |some p=>some (os.dropLast.dropLast++[⟨p.name,p.attrs,p.text,p.kids++[e]⟩],ds)
   else none
 else if t.1=3 then
  match os.getLast? with
  |none=>if t.2.2.2.all blankB=true then some ([],ds)else none
  |some e=>some (os.dropLast++[⟨e.name,e.attrs,e.text++t.2.2.2,e.kids⟩],ds)
 else none
def BPost(n0 pb:Nat)(H:Heap)(os ds:List Elem)(x:Option (List Elem×List Elem))(r:AVal)(H':Heap):Prop:=
 (FrN n0 H H'∧H.length≤H'.length)∧match x with
 |none=>r=.bool false
 |some y=>r=.bool true∧∃po vo room os' pd vd,BH H' n0 pb po vo room os' pd vd y.2∧os'.map OE.el=y.1
end
section
attribute [local irreducible] WP WPl WPix Sat
variable (G:Nat→Option (List AVal))
variable {G}
end
section
attribute [local irreducible] WP WPl WPix Sat
variable {G:Nat→Option (List AVal)}
end
section
attribute [local irreducible] WP WPl WPix Sat
variable (G:Nat→Option (List AVal))
theorem uW(a:At)(n:Bs)(h j:Heap)(X:Blk):Sat (CT G) 222 [a.av,.hp (h.length+1) 0 0 0] (h++X:: .row 9 1 0 [.str n]::j) (fun r h'=>r=.bool (decide (a.1=n))∧h'=h++X:: .row 9 1 0 [.str n]::j):=by
 refine sb [.tmp 3] Tryz.func222 ?_;intro Q hQ;refine af trivial ?_;refine au hQ trivial ?_;refine fR (.bool _) ?_;congr 1;rw[T5];simp
theorem rz{α:Type}(p:α→Bool):∀(l:List α) (k:Nat),idxF p l k= -1∨(k:Int)≤idxF p l k
 | [],k=>.inl rfl
 |a::l,k=>by
  have:=rz p l (k+1);rw[idxF];split
  ·exact .inr (Z6 _)
  ·omega
theorem np(n:Bs):∀(l:List At) (k:Nat),(idxF (fun a=>decide (a.1=n)) l k<0→attrF l n=([],false))∧(∀i:Nat,idxF (fun a=>decide (a.1=n)) l k=((k+i:Nat):Int)→∃a,l[i]? =some a∧attrF l n=(a.2,true))
 | [],k=>by refine⟨fun _=>rfl,fun i hi=>?_⟩;simp only[idxF]at hi;omega
 |a::l,k=>by
  obtain⟨h1,h2⟩:=np n l (k+1);have hg:=rz (fun a:At=>decide (a.1=n)) l (k+1);by_cases hc:a.1=n
  ·simp only[idxF,hc,decide_true,if_true,attrF];refine⟨fun h=>by omega,fun i hi=>?_⟩;have:i=0:=(by omega);subst this;exact⟨a,rfl,rfl⟩
  ·simp only[idxF,hc,decide_false,P0,if_false,attrF];refine⟨h1,fun i hi=>?_⟩;cases i with
   |zero=>omega
   |succ i=>
    obtain⟨b,hb,hr⟩:=h2 i (by rw[hi];congr 1;omega);exact⟨b,by simpa using hb,hr⟩
theorem uX(e:Elem)(n:Bs)(hs:e.sz≤1048576)(h:Heap):Sat (CT G) 183 [e.av,.str n] h (fun r h'=>r=.tup [.str (attrF e.attrs n).1,.bool (attrF e.attrs n).2]∧h'=h):=by
 have hal:=e.attrs_len;have hb:=ru (fun a:At=>decide (a.1=n)) e.attrs 0;obtain⟨f1,f2⟩:=np n e.attrs 0;have hi:=nN G (fun a=>decide (a.1=n)) 222 [.hp (h.length+1) 0 0 0] e.attrs (by omega) (h++[.row 171 4 0 [e.av],.row 9 1 0 [.str n]]) (fun a j=>by simpa using uW G a n h j _);generalize idxF (fun a:At=>decide (a.1=n)) e.attrs 0=x at hb f1 f2 hi;refine sb [.tmp 4,.tmp 5] Tryz.func183 ?_;intro Q hQ;refine af trivial ?_;refine aH trivial (hi) ?_;refine aD trivial (fun hc=>?_) (fun hc=>?_)<;>(try exact hc.elim)
 ·refine af trivial ?_;refine au hQ trivial ?_;refine fR (.tup _ (by simp[Clo.str,Clo.bool])) ?_;rw[f1 hc]
 ·obtain⟨i,rfl⟩:∃i:Nat,x=(i:Int):=⟨x.toNat,by omega⟩;obtain⟨a,ha,hr⟩:=f2 i (by simp);have F:=ha;refine af F ?_;refine au hQ F ?_;refine fR (.tup _ (by simp[Clo.str,Clo.bool])) ?_;rw[hr]
def Elem.own(e:Elem):Nat:=1+e.name.length+szs At.sz e.attrs+e.text.length
section
variable {σ:Type} (A B:Elem→σ→σ)
end
section
end
section
end
theorem hZ:∀(l:List Elem) (d n:Nat),n≤deepL l d n∧∀k∈l,deep k (d+1)≤deepL l d n
 | [],d,n=>by rw[deepL];exact⟨N3 _,fun k hk=>by cases hk⟩
 |e::l,d,n=>by
  rw[deepL];by_cases hc:n<deep e (d+1)
  ·rw[M7 hc];obtain⟨h1,h2⟩:=hZ l d (deep e (d+1));refine⟨by omega,fun k hk=>?_⟩;rcases O5.1 hk with rfl|hk
   ·omega
   ·exact h2 k hk
  ·rw[M1 hc];obtain⟨h1,h2⟩:=hZ l d n;refine⟨by omega,fun k hk=>?_⟩;rcases O5.1 hk with rfl|hk
   ·omega
   ·exact h2 k hk
theorem xF(e:Elem)(n:Bs)(h:(kidF e n).2=true):(kidF e n).1∈e.kids:=by
 unfold kidF at*;cases hq:kidsF e n with
 |nil=>rw[hq]at h;cases h
 |cons k l=>
  have:k∈kidsF e n:=by rw[hq];simp
  unfold kidsF at this;exact(T4.1 this).1
def setL:List AVal:=(List.range 256).map fun i:Nat=>.bool (blankP (i:Int))
theorem yd:setL.length=256:=by simp[setL]
theorem zW(c:UInt8):(setL.drop (c.toNat*1)).head? =some (.bool (blankB c)):=by
 rw[Nat.mul_one];have h:=c.toNat_lt;have e:setL.drop c.toNat=.bool (blankB c)::setL.drop (c.toNat+1):=by
  refine aI ?_;unfold setL;rw[O2,List.getElem?_range (by omega)];rfl
 rw[e];rfl
theorem yf:isV (.tup [.agg setL,.bool true]) (callX (CT G) orcL 1000 100 270 [.str blk4] [])=true:=by
 kernel_rfl
theorem yg(hG:GOk G)(hC:GClo (CT G))(h:Heap):Sat (CT G) 270 [.str blk4] h (fun r h'=>r=.tup [.agg setL,.bool true]∧h'=h):=
 Sat.closedV hC (qZ hG) 1000 100 rfl (by kernel_rfl) (yf G) h
def setR:Blk:=.row 286 256 0 [.agg setL]
@[go_sem] theorem Cs(l:Heap):getRow (setR::l) 0 0=some (286,256,[.agg setL]):=rfl
theorem iU(c:UInt8)(h:Heap):Sat (CT G) 281 [.hp h.length 0 0 0,.int .u8 c.toNat] (h++[setR]) (fun r h'=>r=.bool (blankB c)∧h'=h++[setR]):=by
 have hlt:=c.toNat_lt;have hs:=zW c;have F:=hs;refine sb [.tmp 4] Tryz.func281 ?_;intro Q hQ;refine wk F ?_;refine⟨by omega,?_⟩;try refine sq F ?_
 refine wk F ?_;refine ee hQ F ?_;exact Fin.frzS (.clo _ (.bool _)) ⟨rfl,rfl⟩
def ltrim(s:Bs):Bs:=s.dropWhile blankB
def rtrim(s:Bs):Bs:=(s.reverse.dropWhile blankB).reverse
theorem tJ(s:Bs)(c:UInt8):rtrim (s++[c])=if blankB c=true then rtrim s else s++[c]:=by
 unfold rtrim;rw[List.reverse_append,List.reverse_singleton,List.singleton_append,za8];split
 ·rfl
 ·simp
theorem pm(s:Bs)(hs:s.length≤1073741824)(h:Heap):Sat (CT G) 271 [.str s,.hp h.length 0 0 0] (h++[setR]) (fun r h'=>r=.str (ltrim s)∧h'=h++[setR]):=by
 refine sb [.tmp 4] Tryz.func271 ?_;intro Q hQ;refine wk trivial ?_;refine lm (fun nL tL hL=>∃(s1:Bs),s1.length=nL∧h++[setR]=hL∧tL 0=.str s1∧s1.length≤s.length∧ltrim s1=ltrim s) ((fun(s1:Bs)=>(s1.length:Nat)) (s)) ?_ ?_
 ·refine N6 ⟨s,rfl,aw,?_,?_,?_⟩;all_goals try exact zZz trivial
 rintro _ s2 h' ⟨s1,rfl,rfl,e0,hl,hp⟩ K2 hK2;simp only[aj,am,Nat.reduceEqDiff, ↓reduceIte]at e0;have F:=e0;refine wk F ?_;cases s1 with
 |nil=>
  refine cq F (fun hc=>?_) (fun hc=>?_)<;>(try exact hc.elim)<;>(refine wk F ?_)
  refine ee hQ F ?_;rw[← hp];exact Fin.frzS (.clo _ (.str _)) ⟨rfl,rfl⟩
 |cons c t=>
  have h0:(c::t)[0]? =some c:=rfl;have h1:(c::t).drop 1=t:=rfl;have h2:(c::t).length=t.length+1:=rfl;simp only[M6]at hl;unfold ltrim at hp;rw[za8]at hp;have F:=F3 F h0 h1;refine cq F (fun hc=>?_) (fun hc=>?_)<;>(try exact hc.elim)<;>(refine wk F ?_)
  ·(try refine sq F ?_);refine kq F (iU G c h) ?_;refine cq F (fun hb=>?_) (fun hb=>?_)<;>(try exact hb.elim)<;>(refine wk F ?_)
   ·rw[M1 (by simp[hb])]at hp;refine ee hQ F ?_;unfold ltrim;rw[← hp];exact Fin.frzS (.clo _ (.str _)) ⟨rfl,rfl⟩
   ·rw[M7 hb]at hp;have h3:(1:Int)≤((c::t).length:Int):=(by simp only[M6];omega);have F:=F2 F h3;(try refine sq F ?_);refine wk F ?_;refine hK2 _ _ _ (N6 ⟨t,rfl,aw,?_,by omega,hp⟩) (by omega);all_goals try exact zZz F
  ·exfalso;omega
theorem nP(s:Bs)(hs:s.length≤1073741824)(h:Heap):Sat (CT G) 272 [.str s,.hp h.length 0 0 0] (h++[setR]) (fun r h'=>r=.str (rtrim s)∧h'=h++[setR]):=by
 refine sb [.tmp 4] Tryz.func272 ?_;intro Q hQ;refine wk trivial ?_;refine lm (fun nL tL hL=>∃(s1:Bs),s1.length=nL∧h++[setR]=hL∧tL 0=.str s1∧s1.length≤s.length∧rtrim s1=rtrim s) ((fun(s1:Bs)=>(s1.length:Nat)) (s)) ?_ ?_
 ·refine N6 ⟨s,rfl,aw,?_,?_,?_⟩;all_goals try exact zZz trivial
 rintro _ s2 h' ⟨s1,rfl,rfl,e0,hl,hp⟩ K2 hK2;simp only[aj,am,Nat.reduceEqDiff, ↓reduceIte]at e0;have F:=e0;refine wk F ?_;rcases X5 s1 with rfl| ⟨t,c,rfl⟩
 ·refine cq F (fun hc=>?_) (fun hc=>?_)<;>(try exact hc.elim)<;>(refine wk F ?_)
  refine ee hQ F ?_;rw[← hp];exact Fin.frzS (.clo _ (.str _)) ⟨rfl,rfl⟩
 ·rw[X7]at*;have h2:(t++[c]).length=t.length+1:=by simp
  have h0:(t++[c])[t.length]? =some c:=by simp
  have h1:(t++[c]).take t.length=t:=by simp
  have h4:((t.length+1:Nat):Int)-1=t.length:=by omega
  rw[tJ]at hp;rw[h2]at hl;have F:=F4 F h0 h1 h4;refine cq F (fun hc=>?_) (fun hc=>?_)<;>(try exact hc.elim)<;>(refine wk F ?_)
  ·(try refine sq F ?_);refine kq F (iU G c h) ?_;refine cq F (fun hb=>?_) (fun hb=>?_)<;>(try exact hb.elim)<;>(refine wk F ?_)
   ·rw[M1 (by simp[hb])]at hp;refine ee hQ F ?_;rw[← hp];exact Fin.frzS (.clo _ (.str _)) ⟨rfl,rfl⟩
   ·rw[M7 hb]at hp;(try refine sq F ?_);refine wk F ?_;refine hK2 _ _ _ (N6 ⟨t,rfl,aw,?_,by omega,hp⟩) (by omega);all_goals try exact zZz F
  ·exfalso;omega
theorem nr:∀s:Bs,ltrim s=[]↔s.all blankB=true
 | []=>by simp[ltrim]
 |c::t=>by
  have:=nr t;unfold ltrim at*;rw[za8];by_cases hb:blankB c=true
  ·rw[M7 hb];simp[this,hb]
  ·rw[M1 hb];simp[hb]
theorem vy(s:Bs):(rtrim s).all blankB=s.all blankB:=by
 have hs:s=rtrim s++(s.reverse.takeWhile blankB).reverse:=by
  unfold rtrim;rw[← List.reverse_append,W4,List.reverse_reverse]
 conv=>rhs;rw[hs]
 rw[List.all_append];have:(s.reverse.takeWhile blankB).reverse.all blankB=true:=by
  rw[List.all_reverse];exact List.all_takeWhile
 rw[this,Bool.and_true]
theorem vz(s:Bs):ltrim (rtrim s)=[]↔s.all blankB=true:=by rw[nr,vy]
theorem yh(hG:GOk G)(hC:GClo (CT G))(s:Bs)(hs:s.length≤1073741824)(h:Heap):Sat (CT G) 246 [.str s,.str blk4] h (fun r h'=>∃x,r=.str x∧(x=[]↔s.all blankB=true)∧h'=h):=by
 have b1:(blk4==([]:Bs))=false:=rfl;have b2:(blk4.length:Int)=4:=rfl;have hr:(rtrim s).length≤s.length:=by
  unfold rtrim;have:=aM blankB s.reverse;simp at this ⊢;exact this
 have hs0:∀(j:Heap),h++[.row 286 256 0 [.agg setL]]++j=h++[setR]++j:=fun j=>rfl
 have F:=F3 b1 b2 @yd;refine sb [.tmp 4] Tryz.func246 ?_;intro Q hQ;refine wk F ?_;(first|refine gq F (fun g1=>?_) (fun g1=>?_)|refine pq F (fun g1=>?_) (fun g1=>?_))<;>(try exact g1.elim)<;>(try refine sq F ?_)<;>(refine wk F ?_)
 ·refine ee hQ F ?_;exact Fin.frzS (.clo _ (.str _)) ⟨s,rfl,by rw[show s=[]from by simpa using g1];simp,rfl⟩
 ·refine kq F (yg G hG hC _) ?_;refine kq F (nP G s hs _) ?_;refine kq F (pm G (rtrim s) (by omega) _) ?_;refine ee hQ F ?_;exact Y9 (j:=[setR]) rfl (.str _) ⟨_,rfl,vz s,rfl⟩
variable {H:Heap} {n0 pb po vo pd vd:Nat} {room:Bool} {os:List OE} {ds:List Elem}
theorem iV(os ds:List Elem)(k:Int)(n:Bs)(a:List At)(x:Bs)(hk:k=3):stepB os ds (k,n,a,x)=match os.getLast? with
  |none=>if x.all blankB=true then some ([],ds)else none
  |some e=>some (os.dropLast++[⟨e.name,e.attrs,e.text++x,e.kids⟩],ds):=by
 subst hk;rfl
theorem BH.text{l:List OE}{o:OE}(g:BH H n0 pb po vo room (l++[o]) pd vd ds)(x:Bs):
  BH (H.set po (.row 171 4 vo ((l++[{o with t:=x}]).map OE.av))) n0 pb po vo room (l++[{o with t:=x}]) pd vd ds:=by
 have hb:=g.b;have at_:∀(i:Nat) (p:OE),(l++[{o with t:=x}])[i]? =some p→∃p',(l++[o])[i]? =some p'∧p.q=p'.q∧p.v=p'.v∧p.k=p'.k:=by
  intro i p hi;rcases ay hi with h1| ⟨h1,rfl⟩
  ·exact⟨p,by rw[M5 (M0.1 h1).1];exact h1,rfl,rfl,rfl⟩
  ·exact⟨o,by rw[h1];simp,rfl,rfl,rfl⟩
 refine⟨?_,?_,?_,fun i p hi=>?_,g.od,fun i p hi=>?_,fun i j p p' hi hj hij=>?_,g.n⟩
 ·rw[aJ _ _ g.bo.symm,hb];simp
 ·rw[bV _ _ _ _ _ (aA g.o)];simp
 ·rw[aJ _ _ g.od];exact g.d
 ·obtain⟨p',h1,h2,h3,h4⟩:=at_ i p hi;have:=g.ko i p' h1;rw[h2,h3,h4,aJ _ _ this.1.symm];exact g.k i p' h1
 ·obtain⟨p',h1,h2,h3,h4⟩:=at_ i p hi;rw[h2];exact g.ko i p' h1
 ·obtain⟨p1,h1,h2,_⟩:=at_ i p hi;obtain⟨p2,h3,h4,_⟩:=at_ j p' hj;rw[h2,h4];exact g.kk i j p1 p2 h1 h3 hij
theorem vA(hG:GOk G)(hC:GClo (CT G))(x:Bs)(hx:x.length≤1073741824)(g:BH H n0 pb po vo room os pd vd ds)(hos:os.length≤1000)(ht:∀o∈os,o.t.length+x.length≤140737488355328):
  Sat (CT G) 220 [.hp pb 0 0 0,.str x] H (BPost n0 pb H (os.map OE.el) ds (stepB (os.map OE.el) ds (3,[],[],x))):=by
 have hb:=g.b;have ho:=g.o;have hlo:=aA ho;have hn:=g.n;rw[iV _ _ _ _ _ _ rfl];have F:=F2 hb ho;refine sb [.tmp 4] Tryz.func220 ?_;intro Q hQ;refine wk F ?_;rcases X5 os with rfl| ⟨l,o,rfl⟩
 ·refine cq F (fun hc=>?_) (fun hc=>?_)<;>(try exact hc.elim)<;>(refine wk F ?_)
  ·refine(yh G hG hC x hx _).mono ?_;rintro r h' ⟨y,rfl,hy,rfl⟩;(try refine sq F ?_);refine wk F ?_;refine ee hQ F ?_;have e:∀b:Bool,b=x.all blankB→BPost n0 pb h' ([].map OE.el) ds (if x.all blankB=true then some ([],ds)else none) (.bool b) h':=fun b hb=>by
    refine⟨⟨fun _ _=>rfl,N3 _⟩,?_⟩;cases hq:x.all blankB with
    |true=>rw[M7 rfl];exact⟨by rw[hb,hq],po,vo,room,[],pd,vd,g,rfl⟩
    |false=>rw[M1 (by simp)];show _=_;rw[hb,hq]
   refine S6 (.bool _) (e _ ?_);cases hq:x.all blankB with
   |true=>rw[hy.2 hq];rfl
   |false=>
    have:y≠ []:=fun e=>by rw[hy.1 e]at hq;cases hq
    simpa using this
  ·exact absurd trivial hc
 ·rw[X7]at*;have e1:((l.length+1:Nat):Int)-1=l.length:=by omega
  have e2:(l++[o])[l.length]? =some o:=by simp
  have e3:l.length<l.length+1:=by omega
  have e4:=ht o (by simp);have hbt:=g.text (o.t++x);have e5:(l.map OE.av++[o.av]).set l.length (.agg [.str o.n,.sl 2 (o.a.map At.av),.str (o.t++x),.hs o.q o.v 0 o.k.length true])=(l++[{o with t:=o.t++x}]).map OE.av:=by
   simp[OE.av]
  have F:=F4 F e1 e2 e3;refine cq F (fun hc=>?_) (fun hc=>?_)<;>(try exact hc.elim)<;>(refine wk F ?_)
  ·exfalso;omega
  ·(try refine sq F ?_);refine wk F ?_;refine ee hQ F ?_;have key:=Y5 (h0:=H) (R:=BPost n0 pb H ((l++[o]).map OE.el) ds (some (((l++[o]).map OE.el).dropLast++[⟨o.n,o.a,o.t++x,o.k⟩],ds))) (h1:=H.set po (.row 171 4 vo ((l++[{o with t:=o.t++x}]).map OE.av))) (r:=.bool true) (by simp) (.bool _)
    ⟨⟨fun p hp=>Q4 (by omega),by simp⟩,rfl,po,vo,room,_,pd,vd,hbt,by simp[OE.el]⟩
   simp only[R3,O3,R5,List.getLast?_append,List.getLast?_singleton,Option.some_or]at key ⊢;rw[e5,R3,O3,R5];exact key
end
section
attribute [local irreducible] WP WPl WPix Sat
variable (G:Nat→Option (List AVal))
theorem yi{h0 h1 pre post:Heap}{e v q:Nat}(l:List At)(hh:h1=pre++ .row e 2 v (l.map At.av)::post)(hq:q=pre.length)(hp:h0.length≤q):Frz h1 h0.length (.hs q v 0 l.length true) (.sl 2 (l.map At.av)):=by
 have:=oM (h0:=h0) hh hq hp (fun r hr=>by obtain⟨a,_,rfl⟩:=N5.1 hr;exact At.clo _ a) (fun r hr=>by obtain⟨a,_,rfl⟩:=N5.1 hr;exact At.cells_sto a);simpa using this
theorem lk(l:List At)(hl:l.length≤1048576)(h:Heap):Sat (CT G) 218 [.sl 2 (l.map At.av)] h (fun r h'=>r=.sl 2 (l.map At.av)∧h'=h):=by
 rcases l with _| ⟨a,l⟩
 ·refine sb [.tmp 2] Tryz.func218 ?_;intro Q hQ;refine wk trivial ?_;refine gQ _ (by exact zq trivial) (.inl rfl) fun b=>?_
  cases b
  ·(try refine sq trivial ?_);refine wk trivial ?_;refine fh (.inl rfl) (by simp(disch:=first|omega| (simp only[go_sem, ↓reduceIte,seval];first|done|omega)|fail) only[go_sem, ↓reduceIte,seval];rfl) (by simp(disch:=first|omega| (simp only[go_sem, ↓reduceIte,seval];first|done|omega)|fail) only[go_sem, ↓reduceIte,seval];rfl) (by simp(disch:=first|omega| (simp only[go_sem, ↓reduceIte,seval];first|done|omega)|fail) only[go_sem, ↓reduceIte,seval];rfl) (by simp(disch:=first|omega| (simp only[go_sem, ↓reduceIte,seval];first|done|omega)|fail) only[go_sem, ↓reduceIte,seval];try rfl) (by omega) (by simp only[elemsOf, ↓reduceIte];try rfl) (by simp) (fun _=>?_) (fun h=>absurd rfl h);(try refine sq trivial ?_);refine wk trivial ?_;refine ee hQ trivial ?_;exact Fin.frzS (.ezs _) ⟨rfl,rfl⟩
  ·(try refine sq trivial ?_);refine wk trivial ?_;refine ee hQ trivial ?_;exact Fin.frzS (.nils _) ⟨rfl,rfl⟩
 ·have hr:(List.map At.av (a::l))≠ []:=by simp
  refine sb [.tmp 2] Tryz.func218 ?_;intro Q hQ;refine wk trivial ?_;refine fh (.inl rfl) (by simp(disch:=first|omega| (simp only[go_sem, ↓reduceIte,seval];first|done|omega)|fail) only[go_sem, ↓reduceIte,seval];rfl) (by simp(disch:=first|omega| (simp only[go_sem, ↓reduceIte,seval];first|done|omega)|fail) only[go_sem, ↓reduceIte,seval];rfl) (by simp(disch:=first|omega| (simp only[go_sem, ↓reduceIte,seval];first|done|omega)|fail) only[go_sem, ↓reduceIte,seval];rfl) (by simp(disch:=first|omega| (simp only[go_sem, ↓reduceIte,seval];first|done|omega)|fail) only[go_sem, ↓reduceIte,seval];try rfl) (by omega) (by simp only[elemsOf, ↓reduceIte];try rfl) ?_ (fun h=>by simp at h) (fun _=>?_)
  ·simp[maxLen]at hl ⊢;omega
  try refine sq trivial ?_
  refine wk trivial ?_;refine ee hQ trivial ?_;have:=yi (h0:=h) (h1:=h++[.row 254 2 0 ((a::l).map At.av)]) (e:=254) (v:=0) (a::l) rfl rfl (N3 _);simp only[M6,O3]at this;exact Fin.frz (by simpa using this) ⟨rfl,rfl⟩
variable {H:Heap} {n0 pb po vo pd vd:Nat} {room:Bool} {os:List OE} {ds:List Elem}
structure BR (H:Heap) (n0 pb po vo:Nat) (os:List OE) (n:Bs) (a:List At) (pd vd:Nat) (ds:List Elem):Prop where
 b:getRow H pb 0=some (225,2,[.agg [.hs po vo 0 (os.length+1) true,.hs pd vd 0 ds.length true]])
 o:getRow H po vo=some (171,4,os.map OE.av++[.agg [.str n,.sl 2 (a.map At.av),.str [],.nil (.slice none 0 0)]])
 d:getRow H pd vd=some (171,4,ds.map Elem.av)
 k:∀(i:Nat) (o:OE),os[i]? =some o→getRow H o.q o.v=some (171,4,o.k.map Elem.av)
 od:po≠pd
 ko:∀(i:Nat) (o:OE),os[i]? =some o→o.q≠po∧o.q≠pd∧n0≤o.q
 kk:∀(i j:Nat) (o o':OE),os[i]? =some o→os[j]? =some o'→i≠j→o.q≠o'.q
 n:n0≤pb∧n0≤po∧n0≤pd
theorem BR.weak{C:Ctx}{n:Bs}{a:List At}(g:BR H n0 pb po vo os n a pd vd ds):
  ∃H',(∀(ms:List Nat) (t:Env),Weak C ms t H t H')∧(FrN n0 H H'∧H.length≤H'.length)∧BH H' n0 pb po vo true (os++[⟨n,a,[],[],H.length,0⟩]) pd vd ds:=by
 have hlo:=aA g.o;have hpo:pb≠po:=cF g.b g.o (by decide);have hlb:=aA g.b;have hld:=aA g.d;refine⟨_,fun ms t=>Weak.virtRows (p:=po) (v:=vo) (rows':=os.map OE.av++[OE.av ⟨n,a,[],[],H.length,0⟩]) 171 4 (by omega) g.o (by simp) fun i r' hi=>?_,⟨fun p hp=>?_,by simp⟩,?_⟩
 ·rcases ay hi with h1| ⟨h1,rfl⟩
  ·have hlt:=(M0.1 h1).1;exact⟨r',by rw[M5 hlt];exact h1,rfl,fun q c hc=>.inl hc⟩
  ·refine⟨.agg [.str n,.sl 2 (a.map At.av),.str [],.nil (.slice none 0 0)],by rw[h1];simp,rfl,fun q c hc=>?_⟩
   match q with
   |0=>exact .inl hc
   |1=>exact .inl hc
   |2=>exact .inl hc
   |3=>simp[OE.av,AVal.cells]at hc;exact .inr ⟨hc.symm,rfl⟩
   |q+4=>simp[OE.av,AVal.cells]at hc
 ·have:=g.n;rw[M5 (by simp;omega),Q4 (by omega)]
 ·have gold:∀{q v:Nat} {x:TypeId×Nat×List AVal},getRow H q v=some x→po≠q→getRow (H.set po (.row 171 4 vo (os.map OE.av++[OE.av ⟨n,a,[],[],H.length,0⟩]))++[.row 171 4 0 []]) q v=some x:=fun {q v x} h1 h2=>by
   rw[bq _ (by simpa using aA h1),aJ _ _ h2];exact h1
  have at_:∀(i:Nat) (p:OE),(os++[(⟨n,a,[],[],H.length,0⟩:OE)])[i]? =some p→(os[i]? =some p)∨(i=os.length∧p=⟨n,a,[],[],H.length,0⟩):=fun i p hi=>ay hi|>.imp id fun⟨h1,h2⟩=>⟨h1,h2⟩
  refine⟨?_,?_,gold g.d g.od,fun i p hi=>?_,g.od,fun i p hi=>?_,fun i j p p' hi hj hij=>?_,g.n⟩
  ·rw[gold g.b hpo.symm];simp
  ·rw[bq _ (by simpa using hlo),bV _ _ _ _ _ hlo];simp
  ·rcases at_ i p hi with h1| ⟨_,rfl⟩
   ·exact gold (g.k i p h1) (g.ko i p h1).1.symm
   ·show getRow _ H.length 0=_;rw[bH _ (by simp)];rfl
  ·rcases at_ i p hi with h1| ⟨_,rfl⟩
   ·exact g.ko i p h1
   ·have:=g.n;exact⟨by show H.length≠_;omega,by show H.length≠_;omega,by show _≤H.length;omega⟩
  ·rcases at_ i p hi with h1| ⟨h1,rfl⟩<;>rcases at_ j p' hj with h2| ⟨h2,rfl⟩
   ·exact g.kk i j p p' h1 h2 hij
   ·have:=aA (g.k i p h1);show p.q≠H.length;omega
   ·have:=aA (g.k j p' h2);show H.length≠p'.q;omega
   ·omega
theorem yj(nm:Bs)(at_:List At)(tx:Bs)(hat:at_.length≤1048576)(g:BH H n0 pb po vo room os pd vd ds)(hos:os.length≤1000)(hds:ds.length≤1048576):
  Sat (CT G) 181 [.hp pb 0 0 0,Tok.av (1,nm,at_,tx)] H (fun r H'=>(FrN n0 H H'∧H.length≤H'.length)∧r=.bool (decide (os.length≤31)&&decide (ds.length=0))∧∃po' vo',BR H' n0 pb po' vo' os nm at_ pd vd ds):=by
 have hb:=g.b;have ho:=g.o;have hd:=g.d;have hlo:=aA ho;have hlb:=aA hb;have hld:=aA hd;have hbo:=g.bo;have hbd:=g.bd;have hod:=g.od;have hn:=g.n;have F:=F4 hb ho hd @aZ;refine sb [.tmp 4] Tryz.func181 ?_;intro Q hQ;(repeat (first|refine w1 (fun K hK=>?_)|refine w2 ?_|refine w3 ?_| ((first|refine w4 ?_|refine wD ?_|refine w5 ?_|refine w6 ?_|refine w7 ?_);try refine sq F ?_)| (refine w8 ?_;refine sq F ?_;refine w9 ?_)| (refine rq F ?_;try refine sq F ?_)| (refine vq F ?_;try refine sq F ?_)| ((first|refine hK _ _ (w0 ?_)| (clear hK K;refine hK _ _ (w0 ?_))| (clear hK K;clear hK K;refine hK _ _ (w0 ?_)));clear hK K)))
 have tail:∀(t':Env) (h':Heap) (po' vo':Nat),t' 0=.hp pb 0 0 0→FrN n0 H h'→H.length≤h'.length→
   getRow h' pb 0=some (225,2,[.agg [.hs po' vo' 0 (os.length+1) true,.hs pd vd 0 ds.length true]])→
   getRow h' po' vo'=some (171,4,os.map OE.av++[.agg [.str nm,.sl 2 (at_.map At.av),.str [],.nil (.slice none 0 0)]])→(po'=po∨H.length≤po')→
   (∀q v x,getRow H q v=some x→q≠pb→q≠po→getRow h' q v=some x)→K t' h':=by
  intro t' h' po' vo' e0 hfr hlen hb' ho' hpo' hrest;have hlt:=aA ho';have hbr:BR h' n0 pb po' vo' os nm at_ pd vd ds:=by
   have hne:∀q,q<H.length→q≠po→q≠po':=fun q h1 h2=>by omega
   exact⟨hb',ho',hrest _ _ _ hd hbd.symm hod.symm,fun i o hi=>hrest _ _ _ (g.k i o hi) (g.bk i o hi).symm (g.ko i o hi).1,fun e=>by omega,
    fun i o hi=>⟨hne _ (aA (g.k i o hi)) (g.ko i o hi).1,(g.ko i o hi).2.1,(g.ko i o hi).2.2⟩,g.kk,⟨hn.1,by omega,hn.2.2⟩⟩
  refine hK _ _ (N6 ?_);clear hK K;have hd':=hbr.d;have F:=F5 F e0 hb' ho' hd';(repeat (first|refine w1 (fun K hK=>?_)|refine w2 ?_|refine w3 ?_| ((first|refine w4 ?_|refine wD ?_|refine w5 ?_|refine w6 ?_|refine w7 ?_);try refine sq F ?_)| (refine w8 ?_;refine sq F ?_;refine w9 ?_)| (refine rq F ?_;try refine sq F ?_)| (refine vq F ?_;try refine sq F ?_)| ((first|refine hK _ _ (w0 ?_)| (clear hK K;refine hK _ _ (w0 ?_))| (clear hK K;clear hK K;refine hK _ _ (w0 ?_)));clear hK K)))
  have fin:∀b:Bool,b=(decide (os.length≤31)&&decide (ds.length=0))→Fin H h' (fun r H'=>(FrN n0 H H'∧H.length≤H'.length)∧r=.bool (decide (os.length≤31)&&decide (ds.length=0))∧∃po' vo',BR H' n0 pb po' vo' os nm at_ pd vd ds) (.bool b):=fun b hb=>by
   exact Y5 hlen (.bool _) ⟨⟨hfr,hlen⟩,by rw[hb],po',vo',hbr⟩
  (first|refine gq F (fun hg=>?_) (fun hg=>?_)|refine pq F (fun hg=>?_) (fun hg=>?_))<;>(try exact hg.elim)<;>(try refine sq F ?_)<;>((repeat (first|refine w1 (fun K hK=>?_)|refine w2 ?_|refine w3 ?_| ((first|refine w4 ?_|refine wD ?_|refine w5 ?_|refine w6 ?_|refine w7 ?_);try refine sq F ?_)| (refine w8 ?_;refine sq F ?_;refine w9 ?_)| (refine rq F ?_;try refine sq F ?_)| (refine vq F ?_;try refine sq F ?_)| ((first|refine hK _ _ (w0 ?_)| (clear hK K;refine hK _ _ (w0 ?_))| (clear hK K;clear hK K;refine hK _ _ (w0 ?_)));clear hK K))))
  ·refine ee hQ F ?_;refine fin _ ?_;have e:decide (os.length≤31)=true:=(by rw[decide_eq_true_iff];omega);rw[e,za2,T5];simp
  ·refine ee hQ F ?_;refine fin _ ?_;have e:decide (os.length≤31)=false:=(by rw[decide_eq_false_iff_not];omega);rw[e,Bool.false_and]
 have hlt1:os.length<os.length+1:=by omega
 have hg1:∀x:AVal,(os.map OE.av++[x])[os.length]? =some x:=fun x=>by simp
 have hs1:∀x y:AVal,(os.map OE.av++[x]).set os.length y=os.map OE.av++[y]:=fun x y=>by simp
 cases room with
 |true=>
  have F:=F4 F hlt1 hg1 hs1;refine d9 12 (.one 12 (.two 13 (.two 14 (.one 15 (.one 16 (.one 17 .nil))) 15 (.two 14 (.one 16 (.one 17 .nil)) 16 (.two 14 (.one 17 .nil) 17 (.one 14 .nil)))) 15 (.two 13 (.two 14 (.one 16 (.one 17 .nil)) 16 (.two 14 (.one 17 .nil) 17 (.one 14 .nil))) 16 (.two 13 (.two 14 (.one 17 .nil) 17 (.one 14 .nil)) 17 (.one 13 (.one 14 .nil)))))) (by decide+kernel) (by kernel_rfl) (by decide+kernel) ?_;simp only[P9,R9];try refine sq F ?_
  repeat' (first|refine ba ?_| (refine bc rfl ?_;refine sq F ?_)| (refine bf rfl rfl ?_ ?_<;>refine sq F ?_))
  refine aG (lk G at_ hat _) ?_;try refine sq F ?_
  refine vq F ?_;try refine sq F ?_
  repeat' (first|refine ba ?_| (refine bc rfl ?_;refine sq F ?_)| (refine bf rfl rfl ?_ ?_<;>refine sq F ?_))
  refine aq F ?_;try refine sq F ?_
  (repeat (first|refine w1 (fun K hK=>?_)|refine w2 ?_|refine w3 ?_| ((first|refine w4 ?_|refine wD ?_|refine w5 ?_|refine w6 ?_|refine w7 ?_);try refine sq F ?_)| (refine w8 ?_;refine sq F ?_;refine w9 ?_)| (refine rq F ?_;try refine sq F ?_)| (refine vq F ?_;try refine sq F ?_)))
  repeat' (first|refine ba ?_| (refine bc rfl ?_;refine sq F ?_)| (refine bf rfl rfl ?_ ?_<;>refine sq F ?_))
  all_goals (
   show K _ _;refine tail _ _ po (vo+1) ?_ ?_ ?_ ?_ ?_ (.inl rfl) ?_
   ·exact zq F
   ·repeat (first|exact zb6 _ _|refine zb8 _ (by omega) ?_|refine zb7 _ (by simp;omega) ?_)
   ·simp
   ·exact zq F
   ·exact zq F
   ·intro q v x h1 h2 h3;have h4:=aA h1;have h2':=h2.symm;have h3':=h3.symm;simp(disch:=first|omega| (simp only[go_sem, ↓reduceIte,seval];first|done|omega)|fail) only[go_sem, ↓reduceIte,seval,F,h1])
 |false=>
  have F:=F4 F hlt1 hg1 hs1;refine d9 12 (.one 12 (.two 13 (.two 14 (.one 15 (.one 16 (.one 17 .nil))) 15 (.two 14 (.one 16 (.one 17 .nil)) 16 (.two 14 (.one 17 .nil) 17 (.one 14 .nil)))) 15 (.two 13 (.two 14 (.one 16 (.one 17 .nil)) 16 (.two 14 (.one 17 .nil) 17 (.one 14 .nil))) 16 (.two 13 (.two 14 (.one 17 .nil) 17 (.one 14 .nil)) 17 (.one 13 (.one 14 .nil)))))) (by decide+kernel) (by kernel_rfl) (by decide+kernel) ?_;simp only[P9,R9];try refine sq F ?_
  repeat' (first|refine ba ?_| (refine bc rfl ?_;refine sq F ?_)| (refine bf rfl rfl ?_ ?_<;>refine sq F ?_))
  refine aG (lk G at_ hat _) ?_;try refine sq F ?_
  refine vq F ?_;try refine sq F ?_
  repeat' (first|refine ba ?_| (refine bc rfl ?_;refine sq F ?_)| (refine bf rfl rfl ?_ ?_<;>refine sq F ?_))
  refine xh (.inl rfl) (by simp only[go_sem];rfl) (by simp only[go_sem];rfl) (by simp only[go_sem];rfl) (by simp only[go_sem];try rfl) (by omega) (by simp only[elemsOf, ↓reduceIte];rfl) (by simp(disch:=first|omega| (simp only[go_sem, ↓reduceIte,seval];first|done|omega)|fail) only[go_sem, ↓reduceIte,seval,F];rfl) (by simp) (by simp) ?_ ?_
  ·refine⟨?_,?_⟩<;>simp only[maxLen,O0,M6,N4]<;>omega
  rw[P5 (by simp)];try refine sq F ?_
  repeat' (first|refine ba ?_| (refine bc rfl ?_;refine sq F ?_)| (refine bf rfl rfl ?_ ?_<;>refine sq F ?_))
  all_goals (
   show K _ _;refine tail _ _ (H.length+1) 0 ?_ ?_ ?_ ?_ ?_ (.inr (by omega)) ?_
   ·exact zq F
   ·repeat (first|exact zb6 _ _|refine zb8 _ (by omega) ?_|refine zb7 _ (by simp;omega) ?_)
   ·simp
   ·exact zq F
   ·exact zq F
   ·intro q v x h1 h2 h3;have h4:=aA h1;have h2':=h2.symm;have h3':=h3.symm;simp(disch:=first|omega| (simp only[go_sem, ↓reduceIte,seval];first|done|omega)|fail) only[go_sem, ↓reduceIte,seval,F,h1])
end
section
attribute [local irreducible] WP WPl WPix Sat
variable {H:Heap} {n0 pb po vo pd vd:Nat} {ds:List Elem}
theorem OE.fz{K:Heap}{e:TypeId}(o:OE)(hk:getRow K o.q o.v=some (e,4,o.k.map Elem.av)):o.av.cells.length=o.el.av.cells.length∧∀(j:Nat) (c d:AVal),o.av.cells[j]? =some c→o.el.av.cells[j]? =some d→Fz K o.q o.v c d∧d.sto=true:=by
 rw[Elem.av_cells];refine⟨rfl,fun j c d hc hd=>?_⟩
 match j with
 |0=>simp[OE.av,AVal.cells,OE.el,Elem.name]at hc hd;subst hc;subst hd;exact⟨.same _,rfl⟩
 |1=>simp[OE.av,AVal.cells,OE.el,Elem.attrs]at hc hd;subst hc;subst hd;exact⟨.same _,rfl⟩
 |2=>simp[OE.av,AVal.cells,OE.el,Elem.text]at hc hd;subst hc;subst hd;exact⟨.same _,rfl⟩
 |3=>simp[OE.av,AVal.cells,OE.el,Elem.kids]at hc hd;subst hc;subst hd;exact⟨Fz.all _ _ _ hk rfl (by simp),rfl⟩
 |j+4=>simp[OE.av,AVal.cells]at hc
theorem rG{K:Heap}{e:TypeId}(o:OE)(hk:getRow K o.q o.v=some (e,4,o.k.map Elem.av))(ks:List Elem):∀(i:Nat) (x y:AVal),(ks.map Elem.av++[o.av])[i]? =some x→((ks++[o.el]).map Elem.av)[i]? =some y→
  x.cells.length=y.cells.length∧∀(j:Nat) (c d:AVal),x.cells[j]? =some c→y.cells[j]? =some d→Fz K o.q o.v c d∧d.sto=true:=by
 intro i x y hx hy;rw[R3]at hy;rcases ay hx with h1| ⟨h1,rfl⟩
 ·rw[M5 (M0.1 h1).1,h1]at hy;cases hy;obtain⟨a,_,rfl⟩:=N5.1 (N0 h1);exact⟨rfl,fun j c d hc hd=>by rw[hc]at hd;cases hd;exact⟨.same _,a.av_sto _ (N0 hc)⟩⟩
 ·subst h1;simp at hy;subst hy;exact o.fz hk
theorem qF{C:Ctx}{K:Heap}{o:OE}(hb:getRow K pb 0=some (225,2,[.agg [.hs po vo 0 0 false,.hs pd vd 0 (ds.length+1) true]]))
  (ho:getRow K po vo=some (171,4,[o.av]))(hd:getRow K pd vd=some (171,4,ds.map Elem.av++[o.av]))
  (hk:getRow K o.q o.v=some (171,4,o.k.map Elem.av))(od:po≠pd)(ko:o.q≠po∧o.q≠pd∧n0≤o.q)(hn:n0≤pb∧n0≤po∧n0≤pd):
  ∃K',(∀(ms:List Nat) (t:Env),Weak C ms t K t K')∧(FrN n0 K K'∧K.length≤K'.length)∧BH K' n0 pb po vo false [] pd vd (ds++[o.el]):=by
 have hlo:=aA ho;have hlb:=aA hb;have hld:=aA hd;have hlk:=aA hk
 have hbo:pb≠po:=cF hb ho (by decide);have hbd:pb≠pd:=cF hb hd (by decide);have hbk:pb≠o.q:=cF hb hk (by decide);have w1:=fun(ms:List Nat) (t:Env)=>Weak.fzIn (C:=C) (ms:=ms) (t:=t) (t1:=t) o.q o.v pd vd ((ds++[o.el]).map Elem.av) hk ko.2.1 hd (by simp) (rG o hk ds) (fun _=>.inl rfl)
 have g2:getRow ((K.set o.q .dead).set pd (.row 171 4 vd ((ds++[o.el]).map Elem.av))) po vo=some (171,4,[o.av]):=by
  rw[aJ _ _ od.symm,aJ _ _ ko.1];exact ho
 have w2:=fun(ms:List Nat) (t:Env)=>Weak.rowTake (C:=C) (ms:=ms) (t:=t) po vo 0 g2
 refine⟨_,fun ms t=>(w1 ms t).trans (w2 ms t),⟨zb8 _ hn.2.1 (zb8 _ hn.2.2 (zb8 _ ko.2.2 (zb6 _ _))),by simp⟩,⟨?_,?_,?_,fun i p hi=>by simp at hi,od,fun i p hi=>by simp at hi,fun i j p p' hi=>by simp at hi,hn⟩⟩
 ·rw[aJ _ _ hbo.symm,aJ _ _ hbd.symm,aJ _ _ hbk.symm,hb];simp
 ·rw[bV _ _ _ _ _ (by simpa using hlo)];simp
 ·rw[aJ _ _ od,bV _ _ _ _ _ (by simpa using hld)];simp
theorem qG{C:Ctx}{K:Heap}{l:List OE}{p o:OE}(hb:getRow K pb 0=some (225,2,[.agg [.hs po vo 0 (l.length+1) false,.hs pd vd 0 ds.length true]]))
  (ho:getRow K po vo=some (171,4,l.map OE.av++[.agg [.str p.n,.sl 2 (p.a.map At.av),.str p.t,.hs p.q (p.v+1) 0 (p.k.length+1) true],o.av]))
  (hd:getRow K pd vd=some (171,4,ds.map Elem.av))
  (hk:getRow K o.q o.v=some (171,4,o.k.map Elem.av))(hp:getRow K p.q (p.v+1)=some (171,4,p.k.map Elem.av++[o.av]))
  (hl:∀(i:Nat) (x:OE),l[i]? =some x→getRow K x.q x.v=some (171,4,x.k.map Elem.av)∧x.q≠po∧x.q≠pd∧n0≤x.q∧x.q≠p.q∧x.q≠o.q)
  (kk:∀(i j:Nat) (x x':OE),l[i]? =some x→l[j]? =some x'→i≠j→x.q≠x'.q)
  (od:po≠pd)(ko:o.q≠po∧o.q≠pd∧n0≤o.q)(kp:p.q≠po∧p.q≠pd∧n0≤p.q)(kop:o.q≠p.q)(hn:n0≤pb∧n0≤po∧n0≤pd):
  ∃K',(∀(ms:List Nat) (t:Env),Weak C ms t K t K')∧(FrN n0 K K'∧K.length≤K'.length)∧BH K' n0 pb po vo false (l++[⟨p.n,p.a,p.t,p.k++[o.el],p.q,p.v+1⟩]) pd vd ds:=by
 have hlo:=aA ho;have hlb:=aA hb;have hld:=aA hd;have hlk:=aA hk;have hlp:=aA hp
 have hbo:pb≠po:=cF hb ho (by decide);have hbd:pb≠pd:=cF hb hd (by decide);have hbk:pb≠o.q:=cF hb hk (by decide);have hbp:pb≠p.q:=cF hb hp (by decide);have w1:=fun(ms:List Nat) (t:Env)=>Weak.fzIn (C:=C) (ms:=ms) (t:=t) (t1:=t) o.q o.v p.q (p.v+1) ((p.k++[o.el]).map Elem.av) hk kop hp (by simp) (rG o hk p.k) (fun _=>.inl rfl)
 have g2:=(show getRow ((K.set o.q .dead).set p.q (.row 171 4 (p.v+1) ((p.k++[o.el]).map Elem.av))) po vo=getRow K po vo by
  rw[aJ _ _ kp.1,aJ _ _ ko.1]).trans ho
 have w2:=fun(ms:List Nat) (t:Env)=>Weak.rowTake (C:=C) (ms:=ms) (t:=t) po vo (l.length+1) g2
 have at_:∀(i:Nat) (x:OE),(l++[(⟨p.n,p.a,p.t,p.k++[o.el],p.q,p.v+1⟩:OE)])[i]? =some x→(l[i]? =some x)∨(i=l.length∧x=⟨p.n,p.a,p.t,p.k++[o.el],p.q,p.v+1⟩):=fun i x hi=>ay hi
 refine⟨_,fun ms t=>(w1 ms t).trans (w2 ms t),⟨zb8 _ hn.2.1 (zb8 _ kp.2.2 (zb8 _ ko.2.2 (zb6 _ _))),by simp⟩,⟨?_,?_,?_,fun i x hi=>?_,od,fun i x hi=>?_,fun i j x x' hi hj hij=>?_,hn⟩⟩
 ·rw[aJ _ _ hbo.symm,aJ _ _ hbp.symm,aJ _ _ hbk.symm,hb];simp
 ·rw[bV _ _ _ _ _ (by simpa using hlo),M7 rfl];have e:(l.map OE.av++[AVal.agg [.str p.n,.sl 2 (p.a.map At.av),.str p.t,.hs p.q (p.v+1) 0 (p.k.length+1) true],o.av]).take (l.length+1)=(l++[(⟨p.n,p.a,p.t,p.k++[o.el],p.q,p.v+1⟩:OE)]).map OE.av:=by
   rw[List.take_append,P5 (by simp)];simp[OE.av]
  rw[e]
 ·rw[aJ _ _ od,aJ _ _ kp.2.1,aJ _ _ ko.2.1];exact hd
 ·rcases at_ i x hi with h1| ⟨_,rfl⟩
  ·obtain⟨k1,k2,k3,k4,k5,k6⟩:=hl i x h1;rw[aJ _ _ k2.symm,aJ _ _ k5.symm,aJ _ _ k6.symm];exact k1
  ·show getRow _ p.q (p.v+1)=_;rw[aJ _ _ kp.1.symm,bV _ _ _ _ _ (by simpa using hlp)];simp
 ·rcases at_ i x hi with h1| ⟨_,rfl⟩
  ·obtain⟨k1,k2,k3,k4,k5,k6⟩:=hl i x h1;exact⟨k2,k3,k4⟩
  ·exact kp
 ·rcases at_ i x hi with h1| ⟨h1,rfl⟩<;>rcases at_ j x' hj with h2| ⟨h2,rfl⟩
  ·exact kk i j x x' h1 h2 hij
  ·exact(hl i x h1).2.2.2.2.1
  ·exact(hl j x' h2).2.2.2.2.1.symm
  ·omega
end
section
attribute [local irreducible] WP WPl WPix Sat
variable (G:Nat→Option (List AVal))
variable {H:Heap} {n0 pb po vo pd vd:Nat} {room:Bool} {os:List OE} {ds:List Elem}
theorem tK(os ds:List Elem)(n:Bs)(h:os=[]∨∃l e,os=l++[e]∧e.name≠n)(a:List At)(x:Bs):stepB os ds (2,n,a,x)=none:=by
 rcases h with rfl| ⟨l,e,rfl,he⟩
 ·rfl
 ·simp[stepB,he]
theorem tM(ds:List Elem)(e:Elem)(a:List At)(x:Bs):stepB [e] ds (2,e.name,a,x)=some ([],ds++[e]):=by simp[stepB]
theorem tN(l ds:List Elem)(p e:Elem)(a:List At)(x:Bs):stepB (l++[p]++[e]) ds (2,e.name,a,x)=some (l++[⟨p.name,p.attrs,p.text,p.kids++[e]⟩],ds):=by
 simp[stepB]
theorem tO(nm:Bs)(g:BH H n0 pb po vo room os pd vd ds)(hos:os.length≤1000)(h:os=[]∨∃l o,os=l++[o]∧o.n≠nm):
  Sat (CT G) 219 [.hp pb 0 0 0,.str nm] H (fun r H'=>r=.bool false∧H'=H):=by
 have hb:=g.b;have ho:=g.o;have F:=F2 hb ho;refine sb [.tmp 4] Tryz.func219 ?_;intro Q hQ;refine wk F ?_;rcases h with rfl| ⟨l,o,rfl,hne⟩
 ·(first|refine gq F (fun g1=>?_) (fun g1=>?_)|refine pq F (fun g1=>?_) (fun g1=>?_))<;>(try exact g1.elim)<;>(try refine sq F ?_)<;>(refine wk F ?_)
  ·refine ee hQ F ?_;exact S6 (.bool _) ⟨rfl,rfl⟩
  ·exact absurd trivial g1
 ·have e1:((l.length+1:Nat):Int)-1=l.length:=by omega
  have e2:(l++[o])[l.length]? =some o:=by simp
  have e3:l.length<l.length+1:=by omega
  have e4:(o.n==nm)=false:=by simpa using hne
  have F:=F5 F e1 e2 e3 e4;(first|refine gq F (fun g1=>?_) (fun g1=>?_)|refine pq F (fun g1=>?_) (fun g1=>?_))<;>(try exact g1.elim)<;>(try refine sq F ?_)<;>(refine wk F ?_)
  ·exfalso;omega
  ·(try refine sq F ?_);refine wk F ?_;refine ee hQ F ?_;exact S6 (.bool _) ⟨rfl,rfl⟩
theorem tP(o:OE)(g:BH H n0 pb po vo room [o] pd vd ds)(hds:ds.length≤1048576):
  Sat (CT G) 219 [.hp pb 0 0 0,.str o.n] H (BPost n0 pb H [o.el] ds (some ([],ds++[o.el]))):=by
 have hb:=g.b;have ho:=g.o;have hd:=g.d;have hk:=g.k 0 o rfl;have ko:=g.ko 0 o rfl;have hlo:=aA ho;have hlb:=aA hb;have hld:=aA hd;have hlk:=aA hk;have hbo:=g.bo;have hbd:=g.bd;have hbk:=g.bk 0 o rfl;have hod:=g.od;have hn:=g.n;refine Sat.postw (R:=fun r H'=>(FrN n0 H H'∧H.length≤H'.length)∧r=.bool true∧getRow H' pb 0=some (225,2,[.agg [.hs po vo 0 0 false,.hs pd (vd+1) 0 (ds.length+1) true]])∧
   getRow H' po vo=some (171,4,[o.av])∧getRow H' pd (vd+1)=some (171,4,ds.map Elem.av++[o.av])∧
   getRow H' o.q o.v=some (171,4,o.k.map Elem.av)) ?_ (fun r h' ⟨a1,a2,a3,a4,a5,a6⟩=>by
    obtain⟨K',w,f1,f2⟩:=qF (C:=CT G) a3 a4 a5 a6 hod ko hn;exact⟨K',w [],⟨a1.1.trans f1.1,S4 a1.2 f1.2⟩,a2,po,vo,false,[],pd,vd+1,f2,rfl⟩)
 have e1:((0+1:Nat):Int)-1=0:=by omega
 have hbt:(o.n==o.n)=true:=by simp
 have hsl:∀l,aslice Tryz.prog (H++l) 169 (.hs po vo 0 1 room) none (some (.int .i64 0)) (some (.int .i64 0))=some (.hs po vo 0 0 false):=fun l=>
  l5 (r:=0) (by simp only[go_sem];rfl) (eW ho) (by simp only[go_sem]) (by omega)
 have F:=F8 hb ho hd (F3 (@bne_self_eq_false Int _ _) (@bne_self_eq_false Bool _ _) (@bne_self_eq_false Bs _ _)) hbt e1 hsl @aZ;refine sb [.tmp 4] Tryz.func219 ?_;intro Q hQ;(repeat (first|refine w1 (fun K hK=>?_)|refine w2 ?_|refine w3 ?_| ((first|refine w4 ?_|refine wD ?_|refine w5 ?_|refine w6 ?_|refine w7 ?_);try refine sq F ?_)| (refine w8 ?_;refine sq F ?_;refine w9 ?_)| (refine rq F ?_;try refine sq F ?_)| (refine vq F ?_;try refine sq F ?_)| ((first|refine hK _ _ (w0 ?_)| (clear hK K;refine hK _ _ (w0 ?_))| (clear hK K;clear hK K;refine hK _ _ (w0 ?_)));clear hK K)))
 (first|refine gq F (fun g1=>?_) (fun g1=>?_)|refine pq F (fun g1=>?_) (fun g1=>?_))<;>(try exact g1.elim)<;>(try refine sq F ?_)<;>((repeat (first|refine w1 (fun K hK=>?_)|refine w2 ?_|refine w3 ?_| ((first|refine w4 ?_|refine wD ?_|refine w5 ?_|refine w6 ?_|refine w7 ?_);try refine sq F ?_)| (refine w8 ?_;refine sq F ?_;refine w9 ?_)| (refine rq F ?_;try refine sq F ?_)| (refine vq F ?_;try refine sq F ?_)| ((first|refine hK _ _ (w0 ?_)| (clear hK K;refine hK _ _ (w0 ?_))| (clear hK K;clear hK K;refine hK _ _ (w0 ?_)));clear hK K))))
 have tail:∀(t':Env) (h':Heap),FrN n0 H h'→H.length≤h'.length→getRow h' pb 0=some (225,2,[.agg [.hs po vo 0 0 false,.hs pd (vd+1) 0 (ds.length+1) true]])→
   getRow h' po vo=some (171,4,[o.av])→getRow h' pd (vd+1)=some (171,4,ds.map Elem.av++[o.av])→
   getRow h' o.q o.v=some (171,4,o.k.map Elem.av)→K t' h':=by
  intro t' h' a1 a2 a4 a5 a6 a7;refine hK _ _ (N6 ?_);clear hK K;(repeat (first|refine w1 (fun K hK=>?_)|refine w2 ?_|refine w3 ?_| ((first|refine w4 ?_|refine wD ?_|refine w5 ?_|refine w6 ?_|refine w7 ?_);try refine sq F ?_)| (refine w8 ?_;refine sq F ?_;refine w9 ?_)| (refine rq F ?_;try refine sq F ?_)| (refine vq F ?_;try refine sq F ?_)| ((first|refine hK _ _ (w0 ?_)| (clear hK K;refine hK _ _ (w0 ?_))| (clear hK K;clear hK K;refine hK _ _ (w0 ?_)));clear hK K)))
  refine ee hQ F ?_;exact Y5 a2 (.bool _) ⟨⟨a1,a2⟩,rfl,a4,a5,a6,a7⟩
 have hlt1:ds.length<ds.length+1:=by omega
 have hg1:∀x:AVal,(ds.map Elem.av++[x])[ds.length]? =some x:=fun x=>by simp
 have hs1:∀x y:AVal,(ds.map Elem.av++[x]).set ds.length y=ds.map Elem.av++[y]:=fun x y=>by simp
 have F:=F4 F hlt1 hg1 hs1;refine d9 7 (.one 7 (.two 8 (.two 9 (.one 10 (.one 11 (.one 12 .nil))) 10 (.two 9 (.one 11 (.one 12 .nil)) 11 (.two 9 (.one 12 .nil) 12 (.one 9 .nil)))) 10 (.two 8 (.two 9 (.one 11 (.one 12 .nil)) 11 (.two 9 (.one 12 .nil) 12 (.one 9 .nil))) 11 (.two 8 (.two 9 (.one 12 .nil) 12 (.one 9 .nil)) 12 (.one 8 (.one 9 .nil)))))) (by decide+kernel) (by kernel_rfl) (by decide+kernel) ?_;simp only[P9,R9];try refine sq F ?_
 repeat' (first|refine ba ?_| (refine bc rfl ?_;refine sq F ?_)| (refine bf rfl rfl ?_ ?_<;>refine sq F ?_))
 refine vq F ?_;try refine sq F ?_
 repeat' (first|refine ba ?_| (refine bc rfl ?_;refine sq F ?_)| (refine bf rfl rfl ?_ ?_<;>refine sq F ?_))
 refine aq F ?_;try refine sq F ?_
 (repeat (first|refine w1 (fun K hK=>?_)|refine w2 ?_|refine w3 ?_| ((first|refine w4 ?_|refine wD ?_|refine w5 ?_|refine w6 ?_|refine w7 ?_);try refine sq F ?_)| (refine w8 ?_;refine sq F ?_;refine w9 ?_)| (refine rq F ?_;try refine sq F ?_)| (refine vq F ?_;try refine sq F ?_)))
 repeat' (first|refine ba ?_| (refine bc rfl ?_;refine sq F ?_)| (refine bf rfl rfl ?_ ?_<;>refine sq F ?_))
 all_goals (
  show K _ _;refine tail _ _ ?_ ?_ ?_ ?_ ?_ ?_
  ·repeat (first|exact zb6 _ _|refine zb8 _ (by omega) ?_|refine zb7 _ (by simp;omega) ?_)
  ·simp
  ·exact zq F
  ·exact zq F
  ·exact zq F
  ·simp(disch:=first|omega| (simp only[go_sem, ↓reduceIte,seval];first|done|omega)|fail) only[go_sem, ↓reduceIte,seval,F];exact hk)
end
section
attribute [local irreducible] WP WPl WPix Sat
variable (G:Nat→Option (List AVal))
variable {H:Heap} {n0 pb po vo pd vd:Nat} {room:Bool} {os:List OE} {ds:List Elem}
theorem tQ(l:List OE)(p o:OE)(hl:l.length≤1000)(hpk:p.k.length≤1048576)(g:BH H n0 pb po vo room (l++[p,o]) pd vd ds):
  Sat (CT G) 219 [.hp pb 0 0 0,.str o.n] H (BPost n0 pb H ((l++[p,o]).map OE.el) ds (some ((l++[(⟨p.n,p.a,p.t,p.k++[o.el],p.q,p.v+1⟩:OE)]).map OE.el,ds))):=by
 have i0:(l++[p,o])[l.length]? =some p:=by simp
 have i1:(l++[p,o])[l.length+1]? =some o:=by simp
 have il:∀(i:Nat) (x:OE),l[i]? =some x→(l++[p,o])[i]? =some x:=fun i x h=>by rw[M5 (M0.1 h).1];exact h
 have hb:=g.b;have ho:=g.o;have hd:=g.d;have hk:=g.k _ o i1;have ko:=g.ko _ o i1;have hp:=g.k _ p i0;have kp:=g.ko _ p i0;have kop:=g.kk _ _ o p i1 i0 (by omega);have hlo:=aA ho;have hlb:=aA hb;have hld:=aA hd;have hlk:=aA hk;have hlp:=aA hp;have hbo:=g.bo;have hbd:=g.bd;have hbk:=g.bk _ o i1;have hbp:=g.bk _ p i0;have hod:=g.od;have hn:=g.n;have hlen:(l++[p,o]).length=l.length+2:=by simp
 rw[hlen]at hb;refine Sat.postw (R:=fun r H'=>(FrN n0 H H'∧H.length≤H'.length)∧r=.bool true∧getRow H' pb 0=some (225,2,[.agg [.hs po vo 0 (l.length+1) false,.hs pd vd 0 ds.length true]])∧
   getRow H' po vo=some (171,4,l.map OE.av++[.agg [.str p.n,.sl 2 (p.a.map At.av),.str p.t,.hs p.q (p.v+1) 0 (p.k.length+1) true],o.av])∧
   getRow H' p.q (p.v+1)=some (171,4,p.k.map Elem.av++[o.av])∧
   (∀q v x,getRow H q v=some x→q≠pb→q≠po→q≠p.q→getRow H' q v=some x)) ?_ (fun r h' ⟨a1,a2,a3,a4,a5,a6⟩=>by
    obtain⟨K',w,f1,f2⟩:=qG (C:=CT G) (ds:=ds) (n0:=n0) a3 a4 (a6 _ _ _ hd hbd.symm hod.symm kp.2.1.symm) (a6 _ _ _ hk hbk.symm ko.1 kop) a5
     (fun i x hi=>by
      have j:=il i x hi;have hlt:=(M0.1 hi).1;have k1:=g.ko i x j;have k2:=g.kk i l.length x p j i0 (by omega);exact⟨a6 _ _ _ (g.k i x j) (g.bk i x j).symm k1.1 k2,k1.1,k1.2.1,k1.2.2,k2,g.kk i (l.length+1) x o j i1 (by omega)⟩)
     (fun i j x x' hi hj hij=>g.kk i j x x' (il i x hi) (il j x' hj) hij) hod ko kp kop hn
    exact⟨K',w [],⟨a1.1.trans f1.1,S4 a1.2 f1.2⟩,a2,po,vo,false,_,pd,vd,f2,rfl⟩)
 have e1:((l.length+2:Nat):Int)-1=((l.length+1:Nat):Int):=by omega
 have e2:((l.length+1:Nat):Int)-1=(l.length:Int):=by omega
 have e3:(((l.length+1:Nat):Int)==0)=false:=by simp;omega
 have hbt:(o.n==o.n)=true:=by simp
 have e4:∀x y:AVal,(l.map OE.av++[x,y])[l.length]? =some x:=fun x y=>by simp
 have e5:∀x y:AVal,(l.map OE.av++[x,y])[l.length+1]? =some y:=fun x y=>by simp
 have e6:∀x y z:AVal,(l.map OE.av++[x,y]).set l.length z=l.map OE.av++[z,y]:=fun x y z=>by simp
 have e7:l.length+1<l.length+2:=by omega
 have e8:l.length<l.length+1:=by omega
 have e9:p.k.length<p.k.length+1:=by omega
 have hg1:∀x:AVal,(p.k.map Elem.av++[x])[p.k.length]? =some x:=fun x=>by simp
 have hs1:∀x y:AVal,(p.k.map Elem.av++[x]).set p.k.length y=p.k.map Elem.av++[y]:=fun x y=>by simp
 have hsl:∀j,aslice Tryz.prog (H++j) 169 (.hs po vo 0 (l.length+2) room) none (some (.int .i64 ((l.length+1:Nat):Int))) (some (.int .i64 ((l.length+1:Nat):Int)))=some (.hs po vo 0 (l.length+1) false):=fun j=>
  l5 (r:=l.length+1) (by simp only[go_sem];rfl) (eW ho) (by simp only[go_sem]) (by omega)
 have ho':getRow H po vo=some (171,4,l.map OE.av++[p.av,o.av]):=by rw[ho];simp
 clear ho;have F:=F2 (F9 hb ho' hd hp (F3 (@bne_self_eq_false Int _ _) (@bne_self_eq_false Bool _ _) (@bne_self_eq_false Bs _ _)) hbt e1 e2 e3) (EA e4 e5 e6 e7 e8 e9 hg1 hs1 hsl @aZ);refine sb [.tmp 4] Tryz.func219 ?_;intro Q hQ;(repeat (first|refine w1 (fun K hK=>?_)|refine w2 ?_|refine w3 ?_| ((first|refine w4 ?_|refine wD ?_|refine w5 ?_|refine w6 ?_|refine w7 ?_);try refine sq F ?_)| (refine w8 ?_;refine sq F ?_;refine w9 ?_)| (refine rq F ?_;try refine sq F ?_)| (refine vq F ?_;try refine sq F ?_)| ((first|refine hK _ _ (w0 ?_)| (clear hK K;refine hK _ _ (w0 ?_))| (clear hK K;clear hK K;refine hK _ _ (w0 ?_)));clear hK K)))
 (first|refine gq F (fun g1=>?_) (fun g1=>?_)|refine pq F (fun g1=>?_) (fun g1=>?_))<;>(try exact g1.elim)<;>(try refine sq F ?_)<;>((repeat (first|refine w1 (fun K hK=>?_)|refine w2 ?_|refine w3 ?_| ((first|refine w4 ?_|refine wD ?_|refine w5 ?_|refine w6 ?_|refine w7 ?_);try refine sq F ?_)| (refine w8 ?_;refine sq F ?_;refine w9 ?_)| (refine rq F ?_;try refine sq F ?_)| (refine vq F ?_;try refine sq F ?_)| ((first|refine hK _ _ (w0 ?_)| (clear hK K;refine hK _ _ (w0 ?_))| (clear hK K;clear hK K;refine hK _ _ (w0 ?_)));clear hK K))))
 ·exfalso;omega
 ·refine d9 0 (.one 0 (.two 1 (.one 2 (.one 3 .nil)) 2 (.one 1 (.one 3 .nil)))) (by decide+kernel) (by kernel_rfl) (by decide+kernel) ?_;simp only[P9,R9];try refine sq F ?_
  repeat' (first|refine ba ?_| (refine bc rfl ?_;refine sq F ?_)| (refine bf rfl rfl ?_ ?_<;>refine sq F ?_))
  repeat' (first|refine ba ?_| (refine bc rfl ?_;refine sq F ?_)| (refine bf rfl rfl ?_ ?_<;>refine sq F ?_))
  ·show K _ _;refine hK _ _ (N6 ?_);clear hK K
   skip
   (repeat (first|refine w1 (fun K hK=>?_)|refine w2 ?_|refine w3 ?_| ((first|refine w4 ?_|refine w5 ?_|refine w6 ?_|refine w7 ?_);try refine sq F ?_)| (refine w8 ?_;refine sq F ?_;refine w9 ?_)| (refine rq F ?_;try refine sq F ?_)| (refine vq F ?_;try refine sq F ?_)| ((first|refine hK _ _ (w0 ?_)| (clear hK K;refine hK _ _ (w0 ?_))| (clear hK K;clear hK K;refine hK _ _ (w0 ?_)));clear hK K)))
   refine bS 17 6 _ (by rfl) (by decide+kernel) (by kernel_rfl) (by decide+kernel) (by decide+kernel) (by decide+kernel) ?_;simp only[P9,R9];refine sq F ?_;(repeat (first|refine w1 (fun K hK=>?_)|refine w2 ?_|refine w3 ?_| ((first|refine w4 ?_|refine w5 ?_|refine w6 ?_|refine w7 ?_);try refine sq F ?_)| (refine w8 ?_;refine sq F ?_;refine w9 ?_)| (refine rq F ?_;try refine sq F ?_)| (refine vq F ?_;try refine sq F ?_)| ((first|refine hK _ _ (w0 ?_)| (clear hK K;refine hK _ _ (w0 ?_))| (clear hK K;clear hK K;refine hK _ _ (w0 ?_)));clear hK K)))
   skip
   rw[qo];(try refine sq F ?_);refine aq F ?_;(try refine sq F ?_);(repeat (first|refine w1 (fun K hK=>?_)|refine w2 ?_|refine w3 ?_| ((first|refine w4 ?_|refine wD ?_|refine w5 ?_|refine w6 ?_|refine w7 ?_);try refine sq F ?_)| (refine w8 ?_;refine sq F ?_;refine w9 ?_)| (refine rq F ?_;try refine sq F ?_)| (refine vq F ?_;try refine sq F ?_)))
   refine hK _ _ (N6 ?_);clear hK K;(repeat (first|refine w1 (fun K hK=>?_)|refine w2 ?_|refine w3 ?_| ((first|refine w4 ?_|refine wD ?_|refine w5 ?_|refine w6 ?_|refine w7 ?_);try refine sq F ?_)| (refine w8 ?_;refine sq F ?_;refine w9 ?_)| (refine rq F ?_;try refine sq F ?_)| (refine vq F ?_;try refine sq F ?_)| ((first|refine hK _ _ (w0 ?_)| (clear hK K;refine hK _ _ (w0 ?_))| (clear hK K;clear hK K;refine hK _ _ (w0 ?_)));clear hK K)))
   refine ee hQ F ?_;refine Y5 (by simp) (.bool _) ⟨⟨?_,by simp⟩,rfl,?_,?_,?_,?_⟩
   ·repeat (first|exact zb6 _ _|refine zb8 _ (by omega) ?_|refine zb7 _ (by simp;omega) ?_)
   ·exact zq F
   ·exact zq F
   ·exact zq F
   ·intro q v x h1 h2 h3 h4;have h5:=aA h1;have h2':pb≠q:=fun e=>h2 e.symm
    have h3':po≠q:=fun e=>h3 e.symm
    have h4':p.q≠q:=fun e=>h4 e.symm
    simp(disch:=first|omega| (simp only[go_sem, ↓reduceIte,seval];first|done|omega)|fail) only[go_sem, ↓reduceIte,seval,F,h1]
  ·show K _ _;refine hK _ _ (N6 ?_);clear hK K;(repeat (first|refine w1 (fun K hK=>?_)|refine w2 ?_|refine w3 ?_| ((first|refine w4 ?_|refine wD ?_|refine w5 ?_|refine w6 ?_|refine w7 ?_);try refine sq F ?_)| (refine w8 ?_;refine sq F ?_;refine w9 ?_)| (refine rq F ?_;try refine sq F ?_)| (refine vq F ?_;try refine sq F ?_)| ((first|refine hK _ _ (w0 ?_)| (clear hK K;refine hK _ _ (w0 ?_))| (clear hK K;clear hK K;refine hK _ _ (w0 ?_)));clear hK K)))
   refine aq F ?_;(try refine sq F ?_);(repeat (first|refine w1 (fun K hK=>?_)|refine w2 ?_|refine w3 ?_| ((first|refine w4 ?_|refine wD ?_|refine w5 ?_|refine w6 ?_|refine w7 ?_);try refine sq F ?_)| (refine w8 ?_;refine sq F ?_;refine w9 ?_)| (refine rq F ?_;try refine sq F ?_)| (refine vq F ?_;try refine sq F ?_)| ((first|refine hK _ _ (w0 ?_)| (clear hK K;refine hK _ _ (w0 ?_))| (clear hK K;clear hK K;refine hK _ _ (w0 ?_)));clear hK K)))
   refine ee hQ F ?_;refine Y5 (by simp) (.bool _) ⟨⟨?_,by simp⟩,rfl,?_,?_,?_,?_⟩
   ·repeat (first|exact zb6 _ _|refine zb8 _ (by omega) ?_|refine zb7 _ (by simp;omega) ?_)
   ·exact zq F
   ·exact zq F
   ·exact zq F
   ·intro q v x h1 h2 h3 h4;have h5:=aA h1;have h2':pb≠q:=fun e=>h2 e.symm
    have h3':po≠q:=fun e=>h3 e.symm
    have h4':p.q≠q:=fun e=>h4 e.symm
    simp(disch:=first|omega| (simp only[go_sem, ↓reduceIte,seval];first|done|omega)|fail) only[go_sem, ↓reduceIte,seval,F,h1]
end
section
attribute [local irreducible] WP WPl WPix Sat
variable (G:Nat→Option (List AVal)) {H:Heap} {n0 pb po vo pd vd:Nat} {room:Bool} {os:List OE} {ds:List Elem}
theorem BH.app(l:Heap)(g:BH H n0 pb po vo room os pd vd ds):BH (H++l) n0 pb po vo room os pd vd ds:=
 ⟨by rw[bq _ (aA g.b)];exact g.b,by rw[bq _ (aA g.o)];exact g.o,by rw[bq _ (aA g.d)];exact g.d,
  fun i o h=>by rw[bq _ (aA (g.k i o h))];exact g.k i o h,g.od,g.ko,g.kk,g.n⟩
theorem tR(nm:Bs)(a:List At)(x:Bs)(g:BH H n0 pb po vo room os pd vd ds)(hos:os.length≤1000)(hds:ds.length≤1048576)(hk:∀o∈os,o.k.length≤1048576):
  Sat (CT G) 219 [.hp pb 0 0 0,.str nm] H (BPost n0 pb H (os.map OE.el) ds (stepB (os.map OE.el) ds (2,nm,a,x))):=by
 have no:(os=[]∨∃l o,os=l++[o]∧o.n≠nm)→Sat (CT G) 219 [.hp pb 0 0 0,.str nm] H (BPost n0 pb H (os.map OE.el) ds (stepB (os.map OE.el) ds (2,nm,a,x))):=fun hno=>by
  have e:stepB (os.map OE.el) ds (2,nm,a,x)=none:=tK _ _ _ (by
   rcases hno with rfl| ⟨l,o,rfl,h⟩
   ·exact .inl rfl
   ·exact .inr ⟨l.map OE.el,o.el,by simp,h⟩) _ _
  rw[e];refine(tO G nm g hos hno).mono ?_;rintro r h' ⟨rfl,rfl⟩;exact⟨⟨zb6 _ _,N3 _⟩,rfl⟩
 rcases X5 os with rfl| ⟨l,o,rfl⟩
 ·exact no (.inl rfl)
 ·rw[X7]at*;by_cases hn:o.n=nm
  ·subst hn;rcases X5 l with rfl| ⟨l,p,rfl⟩
   ·have:=tP G o g hds;have e:stepB (([]++[o]).map OE.el) ds (2,o.n,a,x)=some ([],ds++[o.el]):=tM ds o.el a x;rw[e];exact this
   ·rw[X7]at*;have e1:l++[p]++[o]=l++[p,o]:=(by simp);rw[e1]at g hk hos ⊢;have:=tQ G l p o (by simp at hos;omega) (hk p (by simp)) g;have e:stepB ((l++[p,o]).map OE.el) ds (2,o.n,a,x)=some ((l++[(⟨p.n,p.a,p.t,p.k++[o.el],p.q,p.v+1⟩:OE)]).map OE.el,ds):=by
     have:=tN (l.map OE.el) ds p.el o.el a x;simpa [OE.el,Elem.name,Elem.attrs,Elem.text,Elem.kids]using this
    rw[e];exact this
  ·exact no (.inr ⟨l,o,rfl,hn⟩)
end
section
attribute [local irreducible] WP WPl WPix Sat
variable (G:Nat→Option (List AVal)) {H:Heap} {n0 pb po vo pd vd:Nat} {room:Bool} {os:List OE} {ds:List Elem}
theorem BPost.app{l:Heap}{a b:List Elem}{x:Option (List Elem×List Elem)}{r:AVal}{H':Heap}(hn:n0≤H.length)(g:BPost n0 pb (H++l) a b x r H'):BPost n0 pb H a b x r H':=by
 obtain⟨⟨g1,g2⟩,g3⟩:=g;exact⟨⟨(zb7 _ (by omega) (zb6 _ _)).trans g1,by rw[M3]at g2;omega⟩,g3⟩
theorem BPost.bool{a b:List Elem}{x:Option (List Elem×List Elem)}{r:AVal}{H':Heap}(g:BPost n0 pb H a b x r H'):∃q,r=.bool q:=by
 obtain⟨_,g⟩:=g;cases x with
 |none=>exact⟨_,g⟩
 |some y=>exact⟨_,g.1⟩
theorem BH.start{C:Ctx}(hb:getRow H pb 0=some (225,2,[.agg [.nil (.slice none 0 0),.nil (.slice none 0 0)]]))(hn:n0≤pb):
  ∃H',(∀(ms:List Nat) (t:Env),Weak C ms t H t H')∧(FrN n0 H H'∧H.length≤H'.length)∧∃po pd,BH H' n0 pb po 0 true [] pd 0 []:=by
 have hlt:=aA hb;have g1:getRow (H.set pb (.row 225 2 0 [.agg [.hs H.length 0 0 0 true,.nil (.slice none 0 0)]])++[.row 171 4 0 []]) pb 0=some (225,2,[.agg [.hs H.length 0 0 0 true,.nil (.slice none 0 0)]]):=by
  rw[bq _ (by simpa using hlt),bV _ _ _ _ _ hlt];simp
 refine⟨_,fun ms t=>(za7 171 4 (by omega) hb 0 rfl).trans (za7 171 4 (by omega) g1 1 rfl),⟨fun p hp=>?_,by simp;omega⟩,H.length,H.length+1,?_⟩
 ·rw[M5 (by simp;omega),Q4 (by omega),M5 (by simp;omega),Q4 (by omega)]
 ·refine⟨?_,?_,?_,fun i o hi=>(by simp at hi),by omega,fun i o hi=>(by simp at hi),fun i j o o' hi=>(by simp at hi),⟨hn,by omega,by omega⟩⟩
  ·rw[bq _ (by simp;omega),bV _ _ _ _ _ (by simp;omega)];simp
  ·rw[bq _ (by simp),aJ _ _ (by omega),bH _ (by simp)];rfl
  ·rw[bH _ (by simp)];rfl
theorem yk(hG:GOk G)(hC:GClo (CT G))(t:Tok)(ht:Tok.sz t≤1048576)(g:BH H n0 pb po vo room os pd vd ds)(hos:os.length≤1000)(hds:ds.length≤1048576)(hk:∀o∈os,o.k.length≤1048576)(htx:∀o∈os,o.t.length≤10000000):
  Sat (CT G) 181 [.hp pb 0 0 0,t.av] H (BPost n0 pb H (os.map OE.el) ds (stepB (os.map OE.el) ds t)):=by
 obtain⟨k,nm,at_,tx⟩:=t;have hsz:Tok.sz (k,nm,at_,tx)=1+nm.length+szs At.sz at_+tx.length:=rfl;have hal:=bY At.sz At.sz_pos at_;have hlb:=aA g.b;have hn:=g.n;by_cases h1:k=1
 ·subst h1;refine(yj G nm at_ tx (by omega) g hos hds).postw ?_;rintro r h' ⟨hfr,rfl,po',vo',br⟩;obtain⟨h'',hw,hfr2,bh⟩:=br.weak (C:=CT G);refine⟨h'',hw [],⟨hfr.1.trans hfr2.1,by omega⟩,?_⟩;unfold stepB;rw[M7 rfl];by_cases hc:(os.map OE.el).length+1≤32∧ds=[]
  ·rw[M7 hc];have e1:os.length≤31:=(by have:=hc.1;simp at this;omega);refine⟨by rw[R4 e1,hc.2];rfl,po',vo',true,_,pd,vd,bh,by simp[OE.el]⟩
  ·rw[M1 hc];show AVal.bool _=AVal.bool false;congr 1
   rw[Bool.and_eq_false_iff];by_cases e1:os.length≤31
   ·right;rw[decide_eq_false_iff_not];intro e2;exact hc ⟨by simp;omega,Q1.1 e2⟩
   ·left;simpa using e1
 have fin:∀(l:Heap) (x:Option (List Elem×List Elem)) (r:AVal) (H':Heap),BPost n0 pb (H++l) (os.map OE.el) ds x r H'→x=stepB (os.map OE.el) ds (k,nm,at_,tx)→Fin H H' (BPost n0 pb H (os.map OE.el) ds (stepB (os.map OE.el) ds (k,nm,at_,tx))) r:=by
  intro l x r H' gp hx;obtain⟨q,rfl⟩:=gp.bool;have hl:=gp.1.2;rw[M3]at hl;rw[← hx];exact Y5 (by omega) (.bool _) (BPost.app (by omega) gp)
 refine sb [.tmp 4] Tryz.func181 ?_;intro Q hQ;refine wk trivial ?_;refine cq trivial (fun c1=>?_) (fun c1=>?_)<;>(try exact c1.elim)<;>(refine wk trivial ?_)
 ·exact absurd c1 h1
 refine cq trivial (fun c2=>?_) (fun c2=>?_)<;>(try exact c2.elim)<;>(refine wk trivial ?_)
 ·subst c2;refine(tR G nm at_ tx (g.app _) hos hds hk).mono ?_;intro r h' gp;obtain⟨q,hq⟩:=gp.bool;subst hq;try refine sq trivial ?_
  refine wk trivial ?_;refine ee hQ trivial ?_;exact fin _ _ _ _ gp rfl
 refine cq trivial (fun c3=>?_) (fun c3=>?_)<;>(try exact c3.elim)<;>(refine wk trivial ?_)
 ·subst c3;refine(vA G hG hC tx (by omega) (g.app _) hos (fun o ho=>by have:=htx o ho;omega)).mono ?_;intro r h' gp;obtain⟨q,hq⟩:=gp.bool;subst hq;try refine sq trivial ?_
  refine wk trivial ?_;refine ee hQ trivial ?_;exact fin _ _ _ _ gp (by rw[iV _ _ _ _ _ _ rfl,iV _ _ _ _ _ _ rfl])
 ·refine ee hQ trivial ?_;have e:stepB (os.map OE.el) ds (k,nm,at_,tx)=none:=by
   unfold stepB;rw[M1 h1,M1 c2,M1 c3]
  rw[e];exact Y5 (by simp) (.bool _) ⟨⟨zb7 _ (by omega) (zb6 _ _),by simp⟩,rfl⟩
end
end Go.Av
