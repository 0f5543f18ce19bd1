/- Parts. -/
import Derived.Test.YtljohklbgahomaaGreatDoorMsTl
set_option linter.unusedSimpArgs false
set_option linter.unusedVariables false
set_option linter.unusedSectionVars false
set_option linter.unnecessarySimpa false
set_option maxRecDepth 100000
set_option maxHeartbeats 16000000
namespace Go.Av
open Go Go.Proofs Go.RowKit
attribute [local irreducible] WP WPl WPix Sat
variable (G:Nat→Option (List AVal))
def LinkC(F:FuncId):Prop:=∀e:Elem,e.sz≤1048576→∀h,Sat (CT G) F [e.av] h (fun r h'=>r=.str (linkA e)∧h'=h)
theorem nX(hL:LinkC G 51)(e:Elem)(hs:e.sz≤1048576)(h:Heap):Sat (CT G) 87 [e.av] h (fun r h'=>r=oEn (entA e)∧h'=h):=by
 have fT:=bm G e bTitle 256 hs (by omega);have fL:=hL e hs;have fG:=bm G e bId 512 hs (by omega);have hM:=mQ G (Co G) e hs;have hE:entA e=mkE (orF (fieldF e bId 512) (linkA e) (fieldF e bTitle 256)) (fieldF e bTitle 256) (linkA e) (momL webR e updL):=rfl;rw[hE];generalize fieldF e bTitle 256=t at*;generalize linkA e=l at*;generalize fieldF e bId 512=g at*;generalize momL webR e updL=m at*;have hO:=sT G g l t;generalize orF g l t=u at*;clear hE;have hz:ofVal (.agg #[.string ⟨#[]⟩,.string ⟨#[]⟩,.string ⟨#[]⟩,.int .i64 0,.bool false])=.agg [.str [],.str [],.str [],.int .i64 0,.bool false]:=rfl;by_cases hu:u=[]
 ·have q:(u==([]:Bs))=true:=by simp[hu]
  have eo:oEn (mkE u t l m)=.tup [En.z.av,.bool false]:=by unfold mkE;rw[G5 hu];rfl
  rw[eo];have F:=F3 q hz @ak
  skip
  refine sb [.cell 2 48,.tmp 3] Tryz.func87 ?_;intro Q hQ;refine wn F ?_;refine dg 5 5 _ (by rfl) (by decide+kernel) (by kernel_rfl) (by decide+kernel) (by decide+kernel) (by decide+kernel) ?_;simp only[L2,M5];refine sq F ?_;refine wn F ?_;refine ab (fT _) ?_;try refine sq F ?_
  refine wn F ?_;refine ab (fL _) ?_;try refine sq F ?_
  refine wn F ?_;refine⟨?_,?_⟩
  ·refine ab (fT _) ?_;(try refine sq F ?_);refine wn F ?_;refine ab (fL _) ?_;(try refine sq F ?_);refine wn F ?_;all_goals first|exact zq F|trivial| (refine sq F ?_;trivial)
  skip
  try refine sq F ?_
  refine wk F ?_;refine ab (fG _) ?_;try refine sq F ?_
  refine wk F ?_;refine ab (hO _) ?_;try refine sq F ?_
  refine wk F ?_;refine ye hQ F ?_;exact I3 (io _ En.z _) ⟨rfl,rfl⟩
 ·have q:(u==([]:Bs))=false:=by simpa using hu
  have eo:oEn (mkE u t l m)=.tup [(⟨u,t,l,m.getD 0,m.isSome⟩:En).av,.bool true]:=by unfold mkE;rw[G2 hu];rfl
  rw[eo];have F:=F3 q hz @ak
  skip
  refine sb [.cell 2 48,.tmp 3] Tryz.func87 ?_;intro Q hQ;refine wn F ?_;refine dg 5 5 _ (by rfl) (by decide+kernel) (by kernel_rfl) (by decide+kernel) (by decide+kernel) (by decide+kernel) ?_;simp only[L2,M5];refine sq F ?_;refine wn F ?_;refine ab (fT _) ?_;try refine sq F ?_
  refine wn F ?_;refine ab (fL _) ?_;try refine sq F ?_
  refine wn F ?_;refine⟨?_,?_⟩
  ·refine ab (fT _) ?_;(try refine sq F ?_);refine wn F ?_;refine ab (fL _) ?_;(try refine sq F ?_);refine wn F ?_;all_goals first|exact zq F|trivial| (refine sq F ?_;trivial)
  skip
  try refine sq F ?_
  refine wk F ?_;refine ab (fG _) ?_;try refine sq F ?_
  refine wk F ?_;refine ab (hO _) ?_;try refine sq F ?_
  refine wk F ?_;refine kq F (hM _) ?_;refine ye hQ F ?_;exact I3 (io _ (⟨u,t,l,m.getD 0,m.isSome⟩:En) _) ⟨rfl,rfl⟩
theorem vc{Z:Heap}{n q v e:Nat}(l:List En)(hq:n≤q)(hg:getRow Z q v=some (e,5,l.map En.av)):Frz Z n (.hs q v 0 l.length true) (.sl 5 (l.map En.av)):=
 Frz.data hq hg (by simp) (fun r hr=>by obtain⟨x,_,rfl⟩:=K6.1 hr;exact x.clo _) (fun r hr=>by obtain⟨x,_,rfl⟩:=K6.1 hr;exact x.sto)
theorem lk(hL:LinkC G 51)(ks:List Elem)(hsz:∀k∈ks,k.sz≤1048576)(hln:ks.length≤1048576)(h:Heap):Sat (CT G) 52 [.sl 4 (ks.map Elem.av)] h (fun r h'=>r=.sl 5 ((entsF entA ks).map En.av)∧h'=h):=by
 have mk:(ks.map Elem.av).length=ks.length:=I7 ..;have F:=F2 mk @ak;refine sb [.tmp 2] Tryz.func52 ?_;intro Q hQ;refine wk F ?_;refine lm (fun nL tL hL=>∃(k v:Nat) (es:List En) (j:Heap),ks.length-k=nL∧h++ .row 48 5 v (es.map En.av)::j=hL∧tL 3=.hs h.length v 0 es.length true∧tL 10=.int .i64 k∧k≤ks.length∧es=entsF entA (ks.take k)) ((fun(k v:Nat) (es:List En) (j:Heap)=>(ks.length-k:Nat)) (0) (0) ([]) ([])) ?_ ?_
 ·refine⟨_,_,Weak.virt 3 48 5 (by simp) (by omega) (by exact zq F),⟨0,0,[],[],rfl,aw,?_,?_,by omega,rfl⟩⟩;all_goals try exact zZz F
 rintro _ s2 h' ⟨k,v,es,j,rfl,rfl,e3,e10,hk,ho⟩ K2 hK2;simp only[am,ar,Nat.reduceEqDiff, ↓reduceIte]at e3 e10;have F:=F3 F e3 e10;have hel:es.length≤256:=by rw[ho];unfold entsF;rw[I6];omega
 have me:(es.map En.av).length=es.length:=I7 ..;by_cases c1:k<ks.length
 ·obtain⟨x,hx,hxm⟩:=aj c1;have d1:=H0 c1;have hE:=nX G hL x (hsz x hxm);have hst:=mR entA hx;rw[← ho]at hst;cases hv:entA x with
  |none=>
   rw[hv]at hE hst;have hE:∀h,Sat (CT G) 87 [x.av] h (fun r h'=>r=.tup [En.z.av,.bool false]∧h'=h):=hE;have hst:entsF entA (ks.take (k+1))=es:=hst;have F:=F4 F hx d1 me;(try refine sq F ?_);refine wk F ?_;refine kq F (hE _) ?_;refine hK2 _ _ _ (H5 ⟨k+1,v,es,j++[.row 35 4 0 [x.av],.row 48 5 0 [En.z.av]],rfl,by simp[En.av,En.z],?_,?_,by omega,hst.symm⟩) (by omega);all_goals try exact zZz F
  |some y=>
   rw[hv]at hE hst;have hE:∀h,Sat (CT G) 87 [x.av] h (fun r h'=>r=.tup [y.av,.bool true]∧h'=h):=hE;have hst:entsF entA (ks.take (k+1))=if es.length<256 then es++[y]else es:=hst
   by_cases c2:es.length<256
   ·have d2:decide ((es.length:Int)<256)=true:=H0 (by omega);rw[G5 c2]at hst;have F:=F5 F hx d1 d2 me;(try refine sq F ?_);refine wk F ?_;refine kq F (hE _) ?_;refine aq F ?_;(try refine sq F ?_);refine wk F ?_;refine hK2 _ _ _ (H5 ⟨k+1,v+1,es++[y],j++[.row 35 4 0 [x.av],.row 48 5 0 [y.av]],rfl,by simp[En.av],?_,?_,by omega,hst.symm⟩) (by omega);all_goals try exact zZz F
   ·have d2:decide ((es.length:Int)<256)=false:=H3 (by omega);rw[G2 c2]at hst;have F:=F5 F hx d1 d2 me;(try refine sq F ?_);refine wk F ?_;refine kq F (hE _) ?_;refine hK2 _ _ _ (H5 ⟨k+1,v,es,j++[.row 35 4 0 [x.av],.row 48 5 0 [y.av]],rfl,by simp[En.av],?_,?_,by omega,hst.symm⟩) (by omega);all_goals try exact zZz F
 ·have d1:=H3 c1;rw[H9 (by omega)]at ho;have F:=F3 F d1 me;try refine sq F ?_
  refine wk F ?_;refine ee hQ F ?_;rw[← ho];exact U9 (vc (e:=48) es (by omega) (by rw[c9 _ rfl];show(if v=v then _ else _)=_;rw[G5 rfl])) ⟨rfl,rfl⟩
theorem qL(hL:LinkC G 51)(e:Elem)(hs:e.sz≤1048576)(h:Heap):Sat (CT G) 28 [e.av] h (fun r h'=>r=oFd (atomF e)∧h'=h):=by
 have hSh:=ga G e.name (by have:=Elem.sz_eq e;omega);have fT:=bm G e bTitle 256 hs (by omega);have fL:=hL e hs;have hKs:=fe G e bEntry hs;have hEs:=lk G hL (kidsF e bEntry) (fun k hk=>gv hs hk) (hJ e bEntry hs);have hR:atomF e=if short e.name=bFeed then some ⟨fieldF e bTitle 256,linkA e,entsF entA (kidsF e bEntry)⟩else none:=rfl
 rw[hR];clear hR;generalize fieldF e bTitle 256=t at*;generalize linkA e=l at*;generalize kidsF e bEntry=ks at*;generalize entsF entA ks=es at*;generalize short e.name=sn at*;obtain⟨e1,e2,e3,e4⟩:=e;by_cases hn:sn=bFeed
 rotate_left
 ·have q:(sn==bFeed)=false:=by simpa using hn
  unfold bFeed at q;rw[G2 hn];have F:=F2 q @ak;refine sb [.cell 2 25,.tmp 3] Tryz.func28 ?_;intro Q hQ;refine wk F ?_;refine kq F (hSh _) ?_;refine ye hQ F ?_;exact U9 (jP _ _) ⟨rfl,rfl⟩
 ·have q:(sn==bFeed)=true:=by simpa using hn
  unfold bFeed at q;rw[G5 hn];have F:=F2 q @ak;refine sb [.cell 2 25,.tmp 3] Tryz.func28 ?_;intro Q hQ;refine wk F ?_;refine kq F (hSh _) ?_;refine ab (fT _) ?_;try refine sq F ?_
  refine wk F ?_;refine ab (fL _) ?_;try refine sq F ?_
  refine wk F ?_;refine ab (hKs _) ?_;try refine sq F ?_
  refine wk F ?_;refine ab (hEs _) ?_;try refine sq F ?_
  refine wk F ?_;refine ye hQ F ?_;exact I3 (wz _ (⟨t,l,es⟩:Fd) _) ⟨rfl,rfl⟩
theorem sV(l:List En)(hl:l.length≤1048576)(h:Heap):Sat (CT G) 17 [.sl 5 (l.map En.av)] h (fun r h'=>r=.sl 5 ((onceF l).map En.av)∧h'=h):=by
 have ml:(l.map En.av).length=l.length:=I7 ..;have dt:∀i:Decidable True, @decide True i=true:=fun i=>by simp
 have F:=F2 ml dt;refine sb [.tmp 2] Tryz.func17 ?_;intro Q hQ;refine wk F ?_;refine lm (fun nL tL hL=>∃(i v:Nat) (out:List En) (j:Heap),l.length-i=nL∧h++ .row 48 5 v (out.map En.av)::j=hL∧tL 3=.hs h.length v 0 out.length true∧tL 4=.int .i64 i∧i≤l.length∧out=onceF (l.take i)) ((fun(i v:Nat) (out:List En) (j:Heap)=>(l.length-i:Nat)) (0) (0) ([]) ([])) ?_ ?_
 ·refine⟨_,_,Weak.virt 3 48 5 (by simp) (by omega) (by exact zq F),⟨0,0,[],[],rfl,aw,?_,?_,by omega,rfl⟩⟩;all_goals try exact zZz F
 rintro _ s2 h' ⟨i,v,out,j,rfl,rfl,e3,e4,hi,ho⟩ K2 hK2;simp only[am,ar,Nat.reduceEqDiff, ↓reduceIte]at e3 e4;have F:=F3 F e3 e4;have hol:=gW (l.take i);rw[← ho,I6]at hol;have mo:(out.map En.av).length=out.length:=I7 ..;by_cases c1:i<l.length
 ·obtain⟨x,hx,_⟩:=aj c1;have d1:=H0 c1;have hst:=mM hx;rw[← ho]at hst;have F:=F5 F hx d1 mo @ak;try refine sq F ?_
  refine wk F ?_;refine lm (fun nL tL hL=>∃(k:Nat) (b:Bool),out.length-k=nL∧h++ .row 48 5 v (out.map En.av)::j=hL∧tL 5=.bool b∧tL 6=.int .i64 k∧k≤out.length∧b=(out.take k).any (fun y=>decide (y.guid=x.guid))) ((fun(k:Nat) (b:Bool)=>(out.length-k:Nat)) (0) (false)) ?_ ?_
  ·refine H5 ⟨0,false,rfl,aw,?_,?_,by omega,rfl⟩;all_goals try exact zZz F
  rintro _ s3 h' ⟨k,b,rfl,rfl,e5,e6,hk,hb⟩ K3 hK3;simp only[am,ar,Nat.reduceEqDiff, ↓reduceIte]at e5 e6;have F:=F3 F e5 e6;by_cases c2:k<out.length
  ·obtain⟨y,hy,_⟩:=aj c2;have d2:=H0 c2;have hb2:(b||decide (y.guid=x.guid))=(out.take (k+1)).any (fun y=>decide (y.guid=x.guid)):=by
    rw[M8 (l:=out) (i:=k),hy,List.any_append, ← hb];simp
   cases b with
   |true=>
    have F:=F3 F hy d2;(try refine sq F ?_);refine wk F ?_;refine hK3 _ _ _ (H5 ⟨k+1,true,rfl,rfl,?_,?_,by omega,by rw[← hb2];rfl⟩) (by omega);all_goals try exact zZz F
   |false=>
    have q:(y.guid==x.guid)=decide (y.guid=x.guid):=(by rw[N8];simp);have F:=F4 F hy c2 q;(try refine sq F ?_);refine wk F ?_;refine hK3 _ _ _ (H5 ⟨k+1,decide (y.guid=x.guid),rfl,rfl,?_,?_,by omega,by rw[← hb2];simp⟩) (by omega);all_goals try exact zZz F
  ·have d2:=H3 c2;rw[H9 (by omega)]at hb;unfold onceS at hst;cases b with
   |true=>
    rw[G5 hb.symm]at hst;have F:=F2 F d2;(try refine sq F ?_);refine wk F ?_;refine hK2 _ _ _ (H5 ⟨i+1,v,out,j,rfl,rfl,?_,?_,by omega,hst.symm⟩) (by omega);all_goals try exact zZz F
   |false=>
    rw[G2 (by rw[← hb];simp)]at hst;have F:=F2 F d2;(try refine sq F ?_);refine wk F ?_;refine aq F ?_;(try refine sq F ?_);refine wk F ?_;refine hK2 _ _ _ (H5 ⟨i+1,v+1,out++[x],j,rfl,by simp[En.av],?_,?_,by omega,hst.symm⟩) (by omega);all_goals try exact zZz F
 ·have d1:=H3 c1;rw[H9 (by omega)]at ho;have F:=F4 F d1 mo @ak;try refine sq F ?_
  refine wk F ?_;refine ee hQ F ?_;rw[← ho];exact U9 (pi out (by omega) (by rw[c9 _ rfl];show(if v=v then _ else _)=_;rw[G5 rfl])) ⟨rfl,rfl⟩
instance:DecidableEq En:=fun x y=>by
 cases x;cases y;simp only[En.mk.injEq];exact inferInstance
@[go_sem] theorem DT(h:Heap)(d e:En):abin Tryz.prog h .neq 48 (.agg [.str d.guid,.str d.title,.str d.link,.int .i64 d.date,.bool d.dated]) (.agg [.str e.guid,.str e.title,.str e.link,.int .i64 e.date,.bool e.dated])=some (.bool (!decide (d=e))):=by
 obtain⟨a1,a2,a3,a4,a5⟩:=d;obtain⟨b1,b2,b3,b4,b5⟩:=e;simp only[abin,go_sem,aeqL,aeq1, ↓reduceIte,O4,H7,AVal.bool.injEq,En.mk.injEq,Bool.not_inj_iff];rw[N8];simp
theorem ju(a b:List En)(ha:a.length≤1048576)(hb:b.length≤1048576)(h:Heap):Sat (CT G) 15 [.sl 5 (a.map En.av),.sl 5 (b.map En.av)] h (fun r h'=>r=.bool (decide (a=b))∧h'=h):=by
 have ma:(a.map En.av).length=a.length:=I7 ..;have mb:(b.map En.av).length=b.length:=I7 ..;by_cases hl:a.length=b.length
 rotate_left
 ·have q:((a.length:Int) != (b.length:Int))=true:=by simp only[bne_iff_ne,ne_eq];omega
  have e:decide (a=b)=false:=H3 fun k=>hl (by rw[k])
  rw[e];have F:=F3 ma mb q;refine sb [.tmp 4] Tryz.func15 ?_;intro Q hQ;refine wk F ?_;refine ee hQ F ?_;exact J9 (.bool _) ⟨rfl,rfl⟩
 have q:((a.length:Int) != (b.length:Int))=false:=by rw[hl];simp
 have dt:∀i:Decidable True, @decide True i=true:=fun i=>by simp
 have F:=F4 ma mb q dt;refine sb [.tmp 4] Tryz.func15 ?_;intro Q hQ;refine wk F ?_;refine lm (fun nL tL hL=>∃(k:Nat),a.length-k=nL∧h=hL∧tL 5=.int .i64 k∧k≤a.length∧a.take k=b.take k) ((fun(k:Nat)=>(a.length-k:Nat)) (0)) ?_ ?_
 ·refine H5 ⟨0,rfl,aw,?_,by omega,rfl⟩;all_goals try exact zZz F
 rintro _ s2 h' ⟨k,rfl,rfl,e5,hk,hp⟩ K2 hK2;simp only[am,ar,Nat.reduceEqDiff, ↓reduceIte]at e5;have F:=F2 F e5;by_cases c1:k<a.length
 ·have c2:k<b.length:=by omega
  obtain⟨x,hx,_⟩:=aj c1;obtain⟨y,hy,_⟩:=aj c2;by_cases e:x=y
  ·have w:(!decide (x=y))=false:=(by simp[e]);have hp1:a.take (k+1)=b.take (k+1):=(by rw[M8 (l:=a) (i:=k),M8 (l:=b) (i:=k),hx,hy,hp,e]);have F:=F6 F hx hy c1 c2 w;(try refine sq F ?_);refine wk F ?_;refine hK2 _ _ _ (H5 ⟨k+1,rfl,aw,?_,by omega,hp1⟩) (by omega);all_goals try exact zZz F
  ·have w:(!decide (x=y))=true:=(by simp[e]);have n:decide (a=b)=false:=H3 fun k=>by
    rw[k,hy]at hx;cases hx;exact e rfl
   have F:=F6 F hx hy c1 c2 w;(try refine sq F ?_);refine wk F ?_;refine ee hQ F ?_;exact J9 (.bool _) ⟨by rw[n],rfl⟩
 ·have d1:=H3 c1;rw[H9 (by omega),H9 (by omega)]at hp;have F:=F2 F d1;try refine sq F ?_
  refine wk F ?_;refine ee hQ F ?_;exact J9 (.bool _) ⟨by rw[H0 hp],rfl⟩
theorem kW(f:Elem→Option En)(l:List Elem):(entsF f l).length≤256:=by unfold entsF;rw[I6];omega
theorem ve{e:Elem}{d:Fd}(h:rssF e=some d):d.es.length≤256:=by
 unfold rssF at h;split at h
 ·cases h;exact kW _ _
 ·cases h
theorem sW{e:Elem}{d:Fd}(h:atomF e=some d):d.es.length≤256:=by
 unfold atomF at h;split at h
 ·cases h;exact kW _ _
 ·cases h
def ReadC(F:FuncId)(e:Elem)(f:Elem→Option Fd):Prop:=∀h,Sat (CT G) F [e.av] h (fun r h'=>r=oFd (f e)∧h'=h)
theorem mS(N:Nat)(x:Fd)(n:Int):Clo N (.tup [x.av,.int .i64 n]):=.tup _ (fun c hc=>by simp only[J5,O3,or_false]at hc;rcases hc with rfl|rfl<;>first|exact x.clo _|exact .int _ _)
theorem wA(Z:Heap)(n:Nat):Frz Z n (.tup [.agg [.str [],.str [],.nil (.slice none 0 0)],.int .i64 120]) (.tup [Fd.z.av,.int .i64 120]):=
 FrzL.tup (.cons (FrzL.agg (.cons (.clo _ (.str _)) (.cons (.clo _ (.str _)) (.cons (.nils 5) .nil))) rfl) (.cons (.clo _ (.int _ _)) .nil))
theorem sX(e:Elem)(hR:ReadC G 27 e rssF)(hB:ReadC G 28 e atomF)(h:Heap):Sat (CT G) 13 [e.av] h (fun r h'=>r=.tup [((ofE e).getD Fd.z).av,.int .i64 (if (ofE e).isSome then 0 else 120)]∧h'=h):=by
 have hE:ofE e=(match rssF e with
  |some d=>some d
  |none=>atomF e).map fun d:Fd=>⟨d.title,d.link,onceF d.es⟩:=rfl
 unfold ReadC at hR hB;have l1:= @ve e;have l2:= @sW e;rw[hE];clear hE;generalize rssF e=o1 at*;generalize atomF e=o2 at*;obtain⟨e1,e2,e3,e4⟩:=e;cases o1 with
 |some d=>
  obtain⟨t,l,es⟩:=d;have hO:=dN G es (by have:=l1 rfl;simp only[]at this;omega);have hR:∀h,Sat (CT G) 27 [(Elem.mk e1 e2 e3 e4).av] h (fun r h'=>r=.tup [.agg [.str t,.str l,.sl 5 (es.map En.av)],.bool true]∧h'=h):=hR;have F:= @ak;refine sb [.cell 2 25,.tmp 3] Tryz.func13 ?_;intro Q hQ;refine wk F ?_;refine kq F (hR _) ?_;refine kq F (hO _) ?_;refine ye hQ F ?_;exact I3 (mS _ (⟨t,l,onceF es⟩:Fd) _) ⟨rfl,rfl⟩
 |none=>
  have hR:∀h,Sat (CT G) 27 [(Elem.mk e1 e2 e3 e4).av] h (fun r h'=>r=.tup [.agg [.str [],.str [],.sl 5 []],.bool false]∧h'=h):=hR;cases o2 with
  |some d=>
   obtain⟨t,l,es⟩:=d;have hO:=dN G es (by have:=l2 rfl;simp only[]at this;omega);have hB:∀h,Sat (CT G) 28 [(Elem.mk e1 e2 e3 e4).av] h (fun r h'=>r=.tup [.agg [.str t,.str l,.sl 5 (es.map En.av)],.bool true]∧h'=h):=hB;have F:= @ak;refine sb [.cell 2 25,.tmp 3] Tryz.func13 ?_;intro Q hQ;refine wk F ?_;refine kq F (hR _) ?_;refine kq F (hB _) ?_;refine kq F (hO _) ?_;refine ye hQ F ?_;exact I3 (mS _ (⟨t,l,onceF es⟩:Fd) _) ⟨rfl,rfl⟩
  |none=>
   have hB:∀h,Sat (CT G) 28 [(Elem.mk e1 e2 e3 e4).av] h (fun r h'=>r=.tup [.agg [.str [],.str [],.sl 5 []],.bool false]∧h'=h):=hB;have F:= @ak;refine sb [.cell 2 25,.tmp 3] Tryz.func13 ?_;intro Q hQ;refine wk F ?_;refine kq F (hR _) ?_;refine kq F (hB _) ?_;refine ye hQ F ?_;exact U9 (wA _ _) ⟨rfl,rfl⟩
theorem qM(a b:Fd)(ha:a.es.length≤1048576)(hb:b.es.length≤1048576)(h:Heap):Sat (CT G) 10 [a.av,b.av] h (fun r h'=>r=.bool (decide (a.title=b.title∧a.link=b.link∧a.es=b.es))∧h'=h):=by
 obtain⟨t1,l1,e1⟩:=a;obtain⟨t2,l2,e2⟩:=b;have hS:=ju G e1 e2 ha hb;simp only[];have f1:(Fd.mk t1 l1 e1).av=.agg [.str t1,.str l1,.sl 5 (e1.map En.av)]:=rfl;have f2:(Fd.mk t2 l2 e2).av=.agg [.str t2,.str l2,.sl 5 (e2.map En.av)]:=rfl;rw[f1,f2];by_cases c1:t1=t2
 rotate_left
 ·have q:(t1==t2)=false:=by simpa using c1
  have n:decide (t1=t2∧l1=l2∧e1=e2)=false:=H3 fun k=>c1 k.1
  rw[n];have F:=F2 q @ak;refine sb [.tmp 4] Tryz.func10 ?_;intro Q hQ;refine wk F ?_;refine ee hQ F ?_;exact I3 (.bool _) ⟨rfl,rfl⟩
 have q1:(t1==t2)=true:=by simpa using c1
 by_cases c2:l1=l2
 rotate_left
 ·have q:(l1==l2)=false:=by simpa using c2
  have n:decide (t1=t2∧l1=l2∧e1=e2)=false:=H3 fun k=>c2 k.2.1
  rw[n];have F:=F3 q1 q @ak;refine sb [.tmp 4] Tryz.func10 ?_;intro Q hQ;refine wk F ?_;refine ee hQ F ?_;exact I3 (.bool _) ⟨rfl,rfl⟩
 have q2:(l1==l2)=true:=by simpa using c2
 have n:decide (t1=t2∧l1=l2∧e1=e2)=decide (e1=e2):=by simp[c1,c2]
 rw[n];have F:=F3 q1 q2 @ak;refine sb [.tmp 4] Tryz.func10 ?_;intro Q hQ;refine wk F ?_;refine kq F (hS _) ?_;refine ee hQ F ?_;exact I3 (.bool _) ⟨rfl,rfl⟩
theorem mT:∀(l:List At) (n:Bs),(attrF l n).2=true→(attrF l n).1.length+n.length+1≤szs At.sz l
 | [],n,h=>by rw[attrF]at h;cases h
 |a::l,n,h=>by
  rw[attrF]at h ⊢;have hz:szs At.sz (a::l)=At.sz a+szs At.sz l:=by rw[szs]
  have ha:At.sz a=1+a.1.length+a.2.length:=rfl;split at h
  ·rename_i e;rw[G5 e];have:a.1.length=n.length:=by rw[e]
   show a.2.length+n.length+1≤_;omega
  ·rename_i e;rw[G2 e];have:=mT l n h;omega
theorem Wk.slD{n:Nat}{xs ys:List AVal}(hl:xs.length=ys.length)(hw:∀(i:Nat) (r s:AVal),xs[i]? =some r→ys[i]? =some s→WkR r s):Wk (.sl n xs) (.sl n ys):=fun w S μ v rr=>by
 have at_:∀(i:Nat) (e:AVal),ys[i]? =some e→∃r,xs[i]? =some r∧WkR r e:=fun i e he=>by
  have hlt:=(F1.1 he).1;have hx:=G3 (show i<xs.length by omega);exact⟨_,hx,hw i _ e hx he⟩
 cases rr with
 |sl0 n a cap=>
  obtain rfl:ys=[]:=L3.1 (by simpa using hl.symm);exact .sl0 _ _ _
 |sl n es b o cap vs hne hm hm' hn hc hr=>
  rw[hl];refine .sl _ ys b o cap vs (fun e=>?_) (by omega) hm' (fun i e he=>?_) (fun i e j c he hj=>?_) (fun i e j c he hj=>?_)
  ·subst e;exact hne (L3.1 hl)
  ·obtain⟨r,hx,hq⟩:=at_ i e he;rw[← hq.1];exact hn i r hx
  ·obtain⟨r,hx,hq⟩:=at_ i e he;have hlt:=(F1.1 hj).1;have hd:=G3 (show j<r.cells.length by rw[hq.1];exact hlt);obtain⟨a1,a2,a3⟩:=hc i r j _ hx hd;exact⟨a1,a2,(hq.2 j _ c hd hj).2 a3⟩
  ·obtain⟨r,hx,hq⟩:=at_ i e he;have hlt:=(F1.1 hj).1;have hd:=G3 (show j<r.cells.length by rw[hq.1];exact hlt);exact(hq.2 j _ c hd hj).1 _ _ _ _ (hr i r j _ hx hd)
abbrev nl0:AVal:=.nil (.slice none 0 0)
theorem nY(v:Bs)(hv:v.length+6≤1048576)(h:Heap):Sat (CT G) 48 [.agg [.str [],nl0,.str [],.sl 4 [.agg [.str [104,114,101,102],nl0,.str v,nl0]]],.str [104,114,101,102],.int .i64 512] h (fun r h'=>r=.str (shortF v 512)∧h'=h):=by
 have hsz:(Elem.mk [] [] [] [Elem.mk bHref [] v []]).sz≤1048576:=by
  rw[Elem.sz_eq];have:(Elem.mk bHref [] v []).sz=6+v.length-1:=by rw[Elem.sz_eq];simp[szs,Elem.name,Elem.attrs,Elem.text,Elem.kids,bHref]
  simp[szs,Elem.name,Elem.attrs,Elem.text,Elem.kids,this];omega
 have hF:=bm G (Elem.mk [] [] [] [Elem.mk bHref [] v []]) bHref 512 hsz (by omega) h;have hk:fieldF (Elem.mk [] [] [] [Elem.mk bHref [] v []]) bHref 512=shortF v 512:=by
  have:kidF (Elem.mk [] [] [] [Elem.mk bHref [] v []]) bHref=(Elem.mk bHref [] v [],true):=rfl;unfold fieldF;rw[this];rfl
 rw[hk]at hF;have ha:(Elem.mk [] [] [] [Elem.mk bHref [] v []]).av=.agg [.str [],.sl 2 [],.str [],.sl 4 [.agg [.str bHref,.sl 2 [],.str v,.sl 4 []]]]:=rfl;rw[ha]at hF;refine Sat.wk (ys:=[.agg [.str [],.sl 2 [],.str [],.sl 4 [.agg [.str bHref,.sl 2 [],.str v,.sl 4 []]]],.str bHref,.int .i64 ((512:Nat):Int)]) rfl (fun i x y hx hy=>?_) hF
 match i with
 |0=>
  cases hx;cases hy;refine Wk.agg rfl (by intro y hy;simp at hy;rcases hy with rfl|rfl|rfl|rfl<;>rfl) (fun i x y hx hy=>?_)
  match i with
  |0=>cases hx;cases hy;exact Wk.refl _
  |1=>cases hx;cases hy;exact Wk.nils 2
  |2=>cases hx;cases hy;exact Wk.refl _
  |3=>
   cases hx;cases hy;refine Wk.slD rfl (fun i x y hx hy=>?_)
   match i with
   |0=>
    cases hx;cases hy;refine⟨rfl,fun j c d hc hd=>?_⟩
    match j with
    |0=>cases hc;cases hd;exact⟨Wk.refl _,id⟩
    |1=>cases hc;cases hd;exact⟨Wk.nils 2,fun _=>rfl⟩
    |2=>cases hc;cases hd;exact⟨Wk.refl _,id⟩
    |3=>cases hc;cases hd;exact⟨Wk.nils 4,fun _=>rfl⟩
    |k+4=>cases hc
   |k+1=>cases hx
  |k+4=>cases hx
 |1=>cases hx;cases hy;exact Wk.refl _
 |2=>cases hx;cases hy;exact Wk.refl _
 |k+3=>cases hx
theorem sY(e:Elem)(hs:e.sz≤1048576)(h:Heap):Sat (CT G) 51 [e.av] h (fun r h'=>r=.str (linkA e)∧h'=h):=by
 have hKs:=fe G e bLink hs;have hsz:∀k∈kidsF e bLink,k.sz≤1048576:=fun k hk=>gv hs hk
 have hln:=hJ e bLink hs;have hE:linkA e=match (kidsF e bLink).find? linkP with
  |some k=>shortF (attrF k.attrs bHref).1 512
  |none=>[]:=rfl
 rw[hE];clear hE;generalize kidsF e bLink=ks at*;have mk:(ks.map Elem.av).length=ks.length:=I7 ..;have F:=F2 mk @ak;refine sb [.tmp 2] Tryz.func51 ?_;intro Q hQ;refine wk F ?_;refine kq F (hKs _) ?_;refine lm (fun nL tL hL=>∃(k:Nat) (j:Heap),ks.length-k=nL∧h++ .row 35 4 0 [e.av]::j=hL∧tL 12=.int .i64 k∧k≤ks.length∧(ks.drop k).find? linkP=ks.find? linkP) ((fun(k:Nat) (j:Heap)=>(ks.length-k:Nat)) (0) ([])) ?_ ?_
 ·refine H5 ⟨0,[],rfl,aw,?_,by omega,rfl⟩;all_goals try exact zZz F
 rintro _ s2 h' ⟨k,j,rfl,rfl,e12,hk,hp⟩ K2 hK2;simp only[am,ar,Nat.reduceEqDiff, ↓reduceIte]at e12;have F:=F2 F e12;by_cases c1:k<ks.length
 ·obtain⟨x,hx,hxm⟩:=aj c1;have d1:=H0 c1;have hR:=kK G x bRel (hsz x hxm);have hH:=kK G x bHref (hsz x hxm);have hSh:=nY G (attrF x.attrs bHref).1;have hv:=mT x.attrs bHref;have hxs:=Elem.sz_eq x;have hx1:=hsz x hxm;rw[bq hx,List.find?_cons]at hp;have hl:linkP x=((attrF x.attrs bHref).2&&(!(attrF x.attrs bRel).2||decide ((attrF x.attrs bRel).1=bAlt))):=rfl;have hyes:linkP x=true→(match ks.find? linkP with|some k=>shortF (attrF k.attrs bHref).1 512|none=>[])=shortF (attrF x.attrs bHref).1 512:=fun hy=>by
   rw[hy]at hp;rw[← hp]
  have hno:linkP x=false→(ks.drop (k+1)).find? linkP=ks.find? linkP:=fun hy=>by
   rw[hy]at hp;exact hp
  rw[hl]at hyes hno;clear hp hl;generalize attrF x.attrs bRel=ra at*;generalize attrF x.attrs bHref=ha at*;obtain⟨r1,r2⟩:=ra;obtain⟨a1,a2⟩:=ha;have h4:bHref.length=4:=rfl;have hvl:a2=true→a1.length+6≤1048576:=fun e=>by
   have:a1.length+bHref.length+1≤szs At.sz x.attrs:=hv e;omega
  have bA:bAlt=[97,108,116,101,114,110,97,116,101]:=rfl;cases a2 with
  |false=>
   have hno:=hno rfl;have F:=F3 F hx d1;(try refine sq F ?_);refine wk F ?_;refine kq F (hR _) ?_;refine kq F (hH _) ?_;refine hK2 _ _ _ (H5 ⟨k+1,j++[.row 35 4 0 [x.av]],rfl,by simp,?_,by omega,hno⟩) (by omega);all_goals try exact zZz F
  |true=>
   cases r2 with
   |false=>
    have hyes:=hyes rfl;have F:=F3 F hx d1;(try refine sq F ?_);refine wk F ?_;refine kq F (hR _) ?_;refine kq F (hH _) ?_;refine kq F (hSh (hvl rfl) _) ?_;refine ee hQ F ?_;exact I3 (.str _) ⟨by rw[hyes],rfl⟩
   |true=>
    by_cases hr:r1=bAlt
    ·have q:(r1==bAlt)=true:=(by simpa using hr);have hyes:=hyes (by simp[hr]);rw[bA]at q;have F:=F4 F hx d1 q;(try refine sq F ?_);refine wk F ?_;refine kq F (hR _) ?_;refine kq F (hH _) ?_;refine kq F (hSh (hvl rfl) _) ?_;refine ee hQ F ?_;exact I3 (.str _) ⟨by rw[hyes],rfl⟩
    ·have q:(r1==bAlt)=false:=(by simpa using hr);have hno:=hno (by simp[hr]);rw[bA]at q;have F:=F4 F hx d1 q;(try refine sq F ?_);refine wk F ?_;refine kq F (hR _) ?_;refine kq F (hH _) ?_;refine hK2 _ _ _ (H5 ⟨k+1,j++[.row 35 4 0 [x.av]],rfl,by simp,?_,by omega,hno⟩) (by omega);all_goals try exact zZz F
 ·have d1:=H3 c1;have hp:ks.find? linkP=none:=by
   rw[← hp,O5 (by omega)];rfl
  have F:=F2 F d1;try refine sq F ?_
  refine wk F ?_;refine ee hQ F ?_;exact I3 (.str _) ⟨by rw[hp],rfl⟩
end Go.Av
