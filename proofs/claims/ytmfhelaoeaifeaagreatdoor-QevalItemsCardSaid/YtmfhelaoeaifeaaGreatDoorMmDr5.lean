/- Parts. -/
import Derived.Test.YtmfhelaoeaifeaaGreatDoorMmEx2b
import Derived.Test.YtmfhelaoeaifeaaGreatDoorCards
import Derived.Test.YtmfhelaoeaifeaaGreatDoorTie
import Derived.Lib.LaidTab
import Derived.Recover
import Derived.Lib.TrimUEq
set_option linter.unusedSimpArgs false
set_option linter.unusedVariables false
set_option linter.unusedSectionVars false
set_option linter.unnecessarySimpa false
set_option maxRecDepth 100000
set_option maxHeartbeats 16000000
namespace Go.Av
open Go.RowKit
inductive Tr where
 |lf
 |nd (l:Tr) (v:AVal) (r:Tr)
namespace Tr
def get:Tr→Nat→AVal
 | .lf,_=>undefA
 | .nd _ v _,0=>v
 | .nd l _ r,i+1=>match i%2 with
  |0=>l.get (i/2)
  |_=>r.get (i/2)
def set:Tr→Nat→AVal→Tr
 | .lf,_,_=>.lf
 | .nd l _ r,0,x=>.nd l x r
 | .nd l v r,i+1,x=>match i%2 with
  |0=>.nd (l.set (i/2) x) v r
  |_=>.nd l v (r.set (i/2) x)
def mk:Nat→Tr
 |0=>.lf
 |d+1=>.nd (mk d) undefA (mk d)
def Full:Nat→Tr→Prop
 |0,_=>True
 |k+1,.nd l _ r=>Full k l∧Full k r
 |_+1,.lf=>False
theorem full_mk:∀k,Full k (mk k)
 |0=>trivial
 |k+1=>⟨full_mk k,full_mk k⟩
theorem full_set:∀(k:Nat) (t:Tr) (i:Nat) (x:AVal),Full k t→Full k (t.set i x)
 |0,_,_,_,_=>trivial
 |k+1,.nd l v r,0,x,h=>h
 |k+1,.nd l v r,i+1,x,h=>by
  simp only[set];split
  ·exact⟨full_set k l _ x h.1,h.2⟩
  ·exact⟨h.1,full_set k r _ x h.2⟩
theorem get_mk:∀(k i:Nat),(mk k).get i=undefA
 |0,i=>rfl
 |k+1,0=>rfl
 |k+1,i+1=>by
  simp only[mk,get];split<;>exact get_mk k _
theorem get_set:∀(k:Nat) (t:Tr) (i j:Nat) (x:AVal),Full k t→i+1<2^k→(t.set i x).get j=if j=i then x else t.get j
 |0,t,i,j,x,_,h=>by simp at h
 |k+1,.nd l v r,0,0,x,_,_=>rfl
 |k+1,.nd l v r,0,j+1,x,_,_=>rfl
 |k+1,.nd l v r,i+1,0,x,_,_=>by simp only[set];split<;>rfl
 |k+1,.nd l v r,i+1,j+1,x,hf,h=>by
  have hp:2^(k+1)=2*2^k:=by rw[Nat.pow_succ,Nat.mul_comm]
  rw[hp]at h;have hk:i/2+1<2^k:=by omega
  simp only[set];split
  ·rename_i hi;simp only[get];split
   ·rename_i hj;rw[get_set k l (i/2) (j/2) x hf.1 hk];by_cases e:j=i
    ·subst e;simp
    ·rw[L5 (by omega),L5 (by omega)]
   ·rename_i hj;rw[L5 (by intro e;have:j=i:=(by omega);subst this;exact hj hi)]
  ·rename_i hi;simp only[get];split
   ·rename_i hj;rw[L5 (by intro e;have:j=i:=(by omega);subst this;exact hi hj)]
   ·rename_i hj;have hi':i%2=1:=(Nat.mod_two_eq_zero_or_one i).resolve_left hi;have hj':j%2=1:=(Nat.mod_two_eq_zero_or_one j).resolve_left hj;rw[get_set k r (i/2) (j/2) x hf.2 hk];by_cases e:j=i
    ·subst e;simp
    ·rw[L5 (by omega),L5 (by omega)]
def beq:Tr→Tr→Bool
 | .lf,.lf=>true
 | .nd l v r,.nd l' v' r'=>beqA v v'&&(l.beq l'&&r.beq r')
 |_,_=>false
theorem beq_ok:∀(a b:Tr),beq a b=true→a=b
 | .lf,.lf,_=>rfl
 | .lf,.nd _ _ _,h=>by simp[beq]at h
 | .nd _ _ _,.lf,h=>by simp[beq]at h
 | .nd l v r,.nd l' v' r',h=>by
  simp only[beq,L6]at h;rw[eD _ _ h.1,beq_ok l l' h.2.1,beq_ok r r' h.2.2]
end Tr
def envL(ts:Tr):Env:=ts.get
def putL(ts:Tr)(d:Option Nat)(v:AVal):Tr:=match d with|some d=>ts.set d v|none=>ts
def okDst(n:Nat)(o:Oper):Bool:=match o.dst with|some d=>decide (d<n)|none=>true
def kOf(n:Nat):Nat:=Nat.log2 (n+1)+1
def argsT:Tr→Nat→List AVal→Tr
 |t,_,[]=>t
 |t,i,x::l=>argsT (t.set i x) (i+1) l
theorem dT{k0:Nat}(ts:Tr)(d:Option Nat)(v:AVal)(h:Tr.Full k0 ts):Tr.Full k0 (putL ts d v):=by
 cases d
 ·exact h
 ·exact Tr.full_set _ _ _ _ h
theorem dn{k0 n:Nat}{ts:Tr}{d:Option Nat}{v:AVal}(hf:Tr.Full k0 ts)(hn:n+1<2^k0)(hd:∀i,d=some i→i<n):envL (putL ts d v)=put (envL ts) d v:=by
 cases d with
 |none=>rfl
 |some d=>
  have hlt:=hd d rfl
  funext i
  simp only[putL,put,envL,upd];exact Tr.get_set k0 ts d i v hf (by omega)
theorem jR{k0:Nat}:∀(l:List AVal) (t:Tr) (i:Nat),Tr.Full k0 t→Tr.Full k0 (argsT t i l)
 | [],_,_,h=>h
 |x::l,t,i,h=>jR l _ _ (Tr.full_set _ _ _ _ h)
theorem lC{k0:Nat}:∀(l:List AVal) (t:Tr) (i j:Nat),Tr.Full k0 t→i+l.length+1<2^k0→(argsT t i l).get j=if i≤j∧j<i+l.length then l.getD (j-i) undefA else t.get j
 | [],t,i,j,_,_=>by rw[L5 (by simp)];rfl
 |x::l,t,i,j,h,hn=>by
  simp only[M8]at hn ⊢;rw[argsT,lC l _ _ _ (Tr.full_set _ _ _ _ h) (by omega),Tr.get_set k0 t i j x h (by omega)];by_cases h1:j=i
  ·subst h1;rw[L5 (by omega),M0 rfl,M0 (by omega)];simp
  ·by_cases h2:i+1≤j∧j<i+1+l.length
   ·rw[M0 h2,M0 (by omega)];have:j-i=(j-(i+1))+1:=by omega
    rw[this];simp
   ·rw[L5 h2,L5 h1,L5 (by omega)]
section
variable (C:Ctx)
def callP(call:CallX)(g:FuncId)(args:List AVal)(h:Heap):Option AVal:=match call g args h with
 |some (r,h1)=>if begH h h1=true then frzX h1 h.length 20 r else none
 |none=>none
def heldX(call:CallX)(o:Op)(t:Env)(h:Heap):Option AVal:=match pureX C o t h with
 |some v=>some v
 |none=>match o with
  | .buildSlice T len parts=>match rowsX C T len (parts.toList.map (·.1)) (parts.toList.map fun q=>aev C.G t q.2) h with
   |some (.ez,_)=>some .ez
   |some (.hs _ _ _ _ _,_)=>match (elmT C.P T).bind (szOf C.P)with|some n=>some (.sl n (parts.toList.map fun q=>aev C.G t q.2))|none=>none
   |_=>none
  | .call c=>match c.callee with
   | .value f=>match aev C.G t f with
    | .fn (.func g) first captured=>callP call g (first++c.args.toList.map (aev C.G t)++captured) h
    |_=>none
   |_=>none
  |_=>none
def isHeldB:Op→Bool
 | .buildSlice _ _ _=>true
 | .move _| .assign _| .pick _ _ _| .load _ _| .nilCheck _| .binOp _ _ _ _ _| .unOp _ _ _| .convert _ _ _| .makeInterface _ _| .makeFunc _ _ _| .slice _ _ _ _ _
 | .fieldAddr _ _ _| .field _ _ _| .indexAddr _ _ _| .index _ _ _| .extract _ _| .build _ _=>true
 | .call c=>match c.callee with| .builtin .len=>true| .builtin .max=>true| .builtin .min=>true| .builtin .unsafeSliceData=>true| .value _=>true|_=>false
 |_=>false
def drawK(l:List Oper):List Nat:=match (List.range (l.length+1)).reverse.filter (fun k=>(l.take k).all (fun o=>isHeldB o.op)&&(preOk l.toArray k&&decide (k≤l.length)))with
 | []=>[]
 |m::rest=>(m::rest).filter fun k=>decide (m≤k+2)
theorem tk{l:List Oper}{k:Nat}(h:k∈drawK l):((l.take k).all (fun o=>isHeldB o.op)&&(preOk l.toArray k&&decide (k≤l.length)))=true:=by
 unfold drawK at h;split at h
 ·cases h
 ·rename_i m rest hq;have h1:=(V3.1 h).1;rw[← hq]at h1;exact(V3.1 h1).2
def drawE(l:List Oper):Option (Nat×Oper):=match drawK l with
 |_::_=>let k:=(l.takeWhile fun o=>isHeldB o.op).length
  match l[k]? with
  |some oe=>if preOk l.toArray (k+1)=true then some (k,oe)else none
  |none=>none
 | []=>none
def operX(call:CallX)(ops:Array Oper)(o:Oper)(ts:Tr)(h:Heap):Option (Tr×Heap):=
 match o.guard with
 |none=>match opX C call o.op (envL ts) h with|some (v,h')=>some (putL ts o.dst v,h')|none=>none
 |some (j,want)=>match guardA ops (envL ts) j with
  |some b=>if b=some want then(match opX C call o.op (envL ts) h with|some (v,h')=>some (putL ts o.dst v,h')|none=>none)else some (putL ts o.dst undefA,h)
  |none=>none
def operPX(call:CallX)(ops:Array Oper)(o:Oper)(ts:Tr)(h:Heap):Option AVal:=
 match o.guard with
 |none=>heldX C call o.op (envL ts) h
 |some (j,want)=>match guardA ops (envL ts) j with
  |some b=>if b=some want then heldX C call o.op (envL ts) h else some undefA
  |none=>none
def lX(call:CallX)(ops:Array Oper):List Oper→Tr→Heap→Option (Tr×Heap)
 | [],ts,h=>some (ts,h)
 |o::rest,ts,h=>match operX C call ops o ts h with|some (ts',h')=>lX call ops rest ts' h'|none=>none
def sameTH(x y:Tr×Heap):Bool:=Tr.beq x.1 y.1&&(decide (x.2.length=y.2.length)&&begH x.2 y.2)
def dedup:List (Tr×Heap)→List (Tr×Heap)
 | []=>[]
 |x::l=>if l.any (sameTH x)=true then dedup l else x::dedup l
def bindO{α β:Type}(f:α→Option (List β)):List α→Option (List β)
 | []=>some []
 |x::l=>match f x with
  |some ys=>match bindO f l with|some zs=>some (ys++zs)|none=>none
  |none=>none
def sufX(call:CallX)(ops:Array Oper):Nat→Array Bool→Tr→Heap→Option (List (Tr×Heap))
 |0,_,ts,h=>some [(ts,h)]
 |f+1,L,ts,h=>if (Region.ready .text ops L).isEmpty=false∧(Region.ready .gc ops L).isEmpty=false then
   match bindO (fun i=>match ops[i]? with
    |some o=>match operX C call ops o ts h with|some (ts',h')=>sufX call ops f (L.setIfInBounds i true) ts' h'|none=>none
    |none=>none) (Region.ready .any ops L)with
   |some rs=>some rs
   |none=>none
  else none
def pX(call:CallX)(ops:Array Oper):List Oper→Tr→Heap→Option Tr
 | [],ts,_=>some ts
 |o::rest,ts,h=>match operPX C call ops o ts h with|some v=>pX call ops rest (putL ts o.dst v) h|none=>none
def pXt(call:CallX)(ops:Array Oper):List Oper→Tr→Heap→Option (List (Tr×AVal)×Tr)
 | [],ts,_=>some ([],ts)
 |o::rest,ts,h=>match operPX C call ops o ts h with
  |some v=>match pXt call ops rest (putL ts o.dst v) h with
   |some (l,ts')=>some ((ts,v)::l,ts')
   |none=>none
  |none=>none
def sameX(call:CallX)(ops:Array Oper)(cb:Nat→Bool)(h':Heap):Nat→List Oper→List (Tr×AVal)→Bool
 |_,[],[]=>true
 |i,o::rest,(ts,v)::l=>(cb i||(match operPX C call ops o ts h' with|some v'=>beqA v' v|none=>false))&&sameX call ops cb h' (i+1) rest l
 |_,_,_=>false
def drawX3(call:CallX)(l:List Oper)(ts:Tr)(h:Heap):Option (List (Tr×Heap)):=match drawE l with
 |some (k,oe)=>match pXt C call ⟨l⟩ (l.take k) ts h with
  |some (vs,ts1)=>match operX C call ⟨l⟩ oe ts1 h with
   |some (ts2,h')=>if sameX C call ⟨l⟩ (fun i=>((Region.before l.toArray).getD k 0).testBit i) h' 0 (l.take k) vs=true then
     sufX C call ⟨l⟩ (l.length-(k+1)) (listK l.length (k+1)) ts2 h' else none
   |none=>none
  |none=>none
 |none=>none
abbrev Outs:=List (Exit×Tr×Heap)
def iterX(body:Tr→Heap→Option Outs):Nat→Tr→Heap→Option Outs
 |0,_,_=>none
 |n+1,ts,h=>match body ts h with
  |some rs=>bindO (fun r=>match r with
   | (.normal,ts',h')=>iterX body n ts' h'
   |r=>some [r]) rs
  |none=>none
def codeX(call:CallX)(lf:Nat):Code→Tr→Heap→Option Outs
 | .skip,ts,h=>some [(.normal,ts,h)]
 | .label _,ts,h=>some [(.normal,ts,h)]
 | .exit id,ts,h=>some [(.exit id,ts,h)]
 | .ret,ts,h=>some [(.ret,ts,h)]
 | .region _ ⟨l⟩ false,ts,h=>match lX C call ⟨l⟩ l ts h with|some (ts',h')=>some [(.normal,ts',h')]|none=>none
 | .region _ ⟨l⟩ true,ts,h=>match drawX3 C call l ts h with
  |some rs=>some ((dedup rs).map fun q=>(.normal,q.1,q.2))
  |none=>match (drawK l).findSome? (fun k=>match pX C call ⟨l⟩ (l.take k) ts h with
   |some ts1=>sufX C call ⟨l⟩ (l.length-k) (listK l.length k) ts1 h
   |none=>none)with
   |some rs=>some ((dedup rs).map fun q=>(.normal,q.1,q.2))
   |none=>none
 | .seq a b,ts,h=>match codeX call lf a ts h with
  |some rs=>bindO (fun r=>match r with
   | (.normal,ts',h')=>codeX call lf b ts' h'
   |r=>some [r]) rs
  |none=>none
 | .cond c a b,ts,h=>match aev C.G (envL ts) c with
  | .bool true=>codeX call lf a ts h
  | .bool false=>codeX call lf b ts h
  |_=>none
 | .block id c,ts,h=>match codeX call lf c ts h with
  |some rs=>some (rs.map fun r=>match r with
   | (.exit id',ts',h')=>if id'=id then(.normal,ts',h')else(.exit id',ts',h')
   |r=>r)
  |none=>none
 | .scope c,ts,h=>match codeX call lf c ts h with
  |some rs=>bindO (fun r=>match r with
   | (.goto _,_,_)=>none
   |r=>some [r]) rs
  |none=>none
 | .loop c,ts,h=>iterX (fun ts h=>codeX call lf c ts h) lf ts h
 |_,_,_=>none
def endX(fn:Func)(r:Exit×Tr×Heap):Option (AVal×Heap):=match r with
 | (.normal,ts,h')=>match resA C (envL ts) h' fn.results.toList with|some r=>some (r,h')|none=>none
 | (.ret,ts,h')=>match resA C (envL ts) h' fn.results.toList with|some r=>some (r,h')|none=>none
 |_=>none
def mergeH:Heap→Heap→Option Heap
 | [],[]=>some []
 |a::l,b::m=>match mergeH l m with
  |some q=>some ((if beqB a b=true then a else .dead)::q)
  |none=>none
 |_,_=>none
def mergeAH(x y:AVal×Heap):Option (AVal×Heap):=if beqA x.1 y.1=true then(match mergeH x.2 y.2 with|some q=>some (x.1,q)|none=>none)else none
def allX(fn:Func):Outs→Option (AVal×Heap)
 | []=>none
 | [r]=>endX C fn r
 |r::rest=>match endX C fn r,allX fn rest with
  |some x,some y=>mergeAH x y
  |_,_=>none
def callX(orc:FuncId→List AVal→Option AVal)(lf:Nat):Nat→CallX
 |0,_,_,_=>none
 |n+1,f,args,h=>match orc f args with
  |some r=>some (r,h)
  |none=>match C.P.funcs[f]? with
   |none=>none
   |some fn=>match fn.body with
    |none=>none
    |some c=>if (fn.name== "runtime.NumGoroutine")=false∧okCode fn.ntmps c=true∧fn.results.toList.all (okRes fn.ntmps)=true∧args.length≤fn.ntmps∧fn.ntmps+1<2^kOf fn.ntmps then
      match codeX C (callX orc lf n) lf c (argsT (Tr.mk (kOf fn.ntmps)) 0 args) h with
      |some rs=>allX C fn rs
      |none=>none
     else none
variable {C} {h h':Heap} {call:CallX} {k0:Nat}
def CallOk(C:Ctx)(call:CallX):Prop:=∀f args h r h',call f args h=some (r,h')→Sat C f args h fun r2 h2=>r2=r∧h2=h'
theorem dq(hcall:CallOk C call){ops:Array Oper}{o:Oper}{n:Nat}(hn:n+1<2^k0){ts ts':Tr}(hF:Tr.Full k0 ts)(ho:okDst n o=true)(g:operX C call ops o ts h=some (ts',h')){K:Env→Heap→Prop}(hk:K (envL ts') h'):
  wpOper C ops o (envL ts) h K∧Tr.Full k0 ts':=by
 have hd:∀i,o.dst=some i→i<n:=fun i e=>by simpa [okDst,e]using ho
 unfold operX at g;unfold wpOper;split at g
 ·rename_i hg;rw[hg];simp only[];split at g
  ·rename_i e;cases g;exact⟨jQ hcall e (by rw[← dn hF hn hd];exact hk),dT _ _ _ hF⟩
  ·cases g
 ·rename_i hg;rw[hg];simp only[];split at g
  ·rename_i hq;rw[hq];simp only[];split at g
   ·rename_i hb;split at g
    ·rename_i e;cases g;exact⟨⟨fun _=>jQ hcall e (by rw[← dn hF hn hd];exact hk),fun hn=>absurd hb hn⟩,dT _ _ _ hF⟩
    ·cases g
   ·rename_i hb;cases g;exact⟨⟨fun hn=>absurd hn hb,fun _=>by rw[← dn hF hn hd];exact hk⟩,dT _ _ _ hF⟩
  ·cases g
theorem xe(hcall:CallOk C call){n:Nat}(hn:n+1<2^k0){ops:Array Oper}{Q:Exit→Env→Heap→Prop}:∀(l:List Oper) {ts ts':Tr} {h h':Heap},Tr.Full k0 ts→(∀o∈l,okDst n o=true)→lX C call ops l ts h=some (ts',h')→Q .normal (envL ts') h'→
  WPl C ops Q l (envL ts) h∧Tr.Full k0 ts'
 | [],ts,ts',h,h',hF,_,g,hq=>by
  simp only[lX,N7,Prod.mk.injEq]at g;obtain⟨rfl,rfl⟩:=g;exact⟨hq,hF⟩
 |o::rest,ts,ts',h,h',hF,ho,g,hq=>by
  unfold lX at g;split at g
  ·rename_i ts1 h1 e;have hF1:=(dq hcall hn hF (ho o (by simp)) e (K:=fun _ _=>True) trivial).2;have ih:=xe hcall hn (ops:=ops) (Q:=Q) rest hF1 (fun o hm=>ho o (by simp[hm])) g hq;unfold WPl;exact⟨(dq hcall hn hF (ho o (by simp)) e ih.1).1,ih.2⟩
  ·cases g
theorem tm{x y:Tr×Heap}(h:sameTH x y=true):x=y:=by
 simp only[sameTH,L6,M1]at h;obtain⟨h1,h2,h3⟩:=h;have e:=kQ h3;rw[h2,X8]at e;exact Prod.ext (Tr.beq_ok _ _ h1) e.symm
theorem fm:∀{l:List (Tr×Heap)},∀x∈l,x∈dedup l
 | [],x,h=>by cases h
 |a::l,x,h=>by
  simp only[dedup];rcases M6.1 h with rfl|h
  ·split
   ·rename_i hs;obtain⟨y,hy,e⟩:=X9.1 hs;rw[tm e];exact fm y hy
   ·simp
  ·have:=fm (l:=l) x h;split
   ·exact this
   ·simp[this]
theorem fp:∀{l:List (Tr×Heap)},∀x∈dedup l,x∈l
 | [],x,h=>by cases h
 |a::l,x,h=>by
  simp only[dedup]at h;split at h
  ·exact U0 _ (fp x h)
  ·rcases M6.1 h with rfl|h
   ·simp
   ·exact U0 _ (fp x h)
theorem dr{α β:Type}{f:α→Option (List β)}:∀{l:List α} {m:List β},bindO f l=some m→(∀x∈l,∃ys,f x=some ys∧∀y∈ys,y∈m)∧∀y∈m,∃x∈l,∃ys,f x=some ys∧y∈ys
 | [],m,h=>by simp only[bindO,N7]at h;subst h;exact⟨fun x hx=>(by cases hx),fun y hy=>(by cases hy)⟩
 |a::l,m,h=>by
  simp only[bindO]at h;split at h
  ·rename_i ys hy;split at h
   ·rename_i zs hz;cases h;obtain⟨h1,h2⟩:=dr hz;refine⟨fun x hx=>?_,fun y hm=>?_⟩
    ·rcases M6.1 hx with rfl|hx
     ·exact⟨ys,hy,fun y h=>List.mem_append_left _ h⟩
     ·obtain⟨q,k1,k2⟩:=h1 x hx;exact⟨q,k1,fun y h=>List.mem_append_right _ (k2 y h)⟩
    ·rcases S5.1 hm with hm|hm
     ·exact⟨a,by simp,ys,hy,hm⟩
     ·obtain⟨x,k1,q,k2,k3⟩:=h2 y hm;exact⟨x,by simp[k1],q,k2,k3⟩
   ·cases h
  ·cases h
theorem p9(hcall:CallOk C call){n:Nat}(hn:n+1<2^k0){ops:Array Oper}{Q:Exit→Env→Heap→Prop}(ho:∀o∈ops.toList,okDst n o=true):∀(f:Nat) {L:Array Bool} {ts:Tr} {h:Heap} {rs:List (Tr×Heap)},Tr.Full k0 ts→sufX C call ops f L ts h=some rs→
  (∀r∈rs,Q .normal (envL r.1) r.2)→Rest C ops Q f L (envL ts) h∧(∀r∈rs,Tr.Full k0 r.1):=by
 intro f;induction f with
 |zero=>
  intro L ts h rs hF g hq;simp only[sufX,N7]at g;subst g;exact⟨Rest.nil (hq (ts,h) (by simp)),fun r hr=>by simp at hr;rw[hr];exact hF⟩
 |succ f ih=>
  intro L ts h rs hF g hq;simp only[sufX]at g;split at g
  ·rename_i hr;split at g
   ·rename_i rs1 hm;cases g;obtain⟨b1,b2⟩:=dr hm;have hmem:∀(i:Nat) (o:Oper),ops[i]? =some o→o∈ops.toList:=fun i o e=>by simpa using W9 e
    have at_:∀i,∀ys,(match ops[i]? with
      |some o=>match operX C call ops o ts h with|some (ts',h')=>sufX C call ops f (L.setIfInBounds i true) ts' h'|none=>none
      |none=>none)=some ys→∃o ts1 h1,ops[i]? =some o∧operX C call ops o ts h=some (ts1,h1)∧sufX C call ops f (L.setIfInBounds i true) ts1 h1=some ys:=fun i ys e=>by
     split at e
     ·rename_i o hoi;split at e
      ·rename_i ts1 h1 e1;exact⟨o,ts1,h1,hoi,e1,e⟩
      ·cases e
     ·cases e
    have hany:Region.ready .any ops L≠ []:=fun e=>by
     have h1:=hr.1;cases hx:Region.ready .text ops L with
     |nil=>rw[hx]at h1;simp at h1
     |cons i l=>
      have:i∈Region.ready .any ops L:=lA (md:=.text) (by rw[hx];simp);rw[e]at this;cases this
    refine⟨Rest.step (fun e=>by rw[e]at hr;simp at hr) (fun e=>by rw[e]at hr;simp at hr) hany fun i hi o hoi=>?_,fun r hr=>?_⟩
    ·obtain⟨ys,hys,hsub⟩:=b1 i hi;obtain⟨o',ts1,h1,e1,e2,e3⟩:=at_ i ys hys;rw[hoi]at e1;cases e1;have hF1:=(dq hcall hn hF (ho o (hmem i o hoi)) e2 (K:=fun _ _=>True) trivial).2;exact(dq hcall hn hF (ho o (hmem i o hoi)) e2 (ih hF1 e3 (fun r hr=>hq r (hsub r hr))).1).1
    ·obtain⟨i,hi,ys,hys,hry⟩:=b2 r hr;obtain⟨o',ts1,h1,e1,e2,e3⟩:=at_ i ys hys;have hF1:=(dq hcall hn hF (ho o' (hmem i o' e1)) e2 (K:=fun _ _=>True) trivial).2;obtain⟨ys',hys',hsub⟩:=b1 i hi;rw[hys]at hys';cases hys';exact(ih hF1 e3 (fun r hr=>hq r (hsub r hr))).2 r hry
   ·cases g
  ·cases g
theorem vx(hcall:CallOk C call){g:FuncId}{args:List AVal}{v:AVal}(e:callP call g args h=some v):Sat C g args h fun r2 h2=>r2=v∧h2=h:=by
 unfold callP at e;split at e
 ·rename_i hc;split at e
  ·rename_i hb;exact(hcall _ _ _ _ _ hc).letgo (kQ hb) (p8 _ _ _ _ _ e)
  ·cases e
 ·cases e
theorem gp(hcall:CallOk C call){o:Op}{t:Env}{v:AVal}(e:heldX C call o t h=some v){K:AVal→Heap→Prop}(hk:K v h):wpOp C o t h K:=by
 unfold heldX at e;split at e
 ·rename_i hp;cases e;exact mS hp hk
 ·split at e
  ·rename_i T len parts _;unfold wpOp;simp only[];unfold rowsX at e;cases he:elmT C.P T with
   |none=>rw[he]at e;cases e
   |some el=>
    rw[he]at e;simp only[]at e;refine aA rfl ?_;cases hn:szOf C.P el with
    |none=>rw[hn]at e;cases e
    |some n=>
     rw[hn]at e;simp only[]at e;refine aA rfl ?_;by_cases h0:len=0
     ·rw[M0 h0]at e ⊢;by_cases hp:(parts.toList.map (·.1)).length=0
      ·rw[M0 hp]at e;simp only[N7]at e;subst e;exact⟨by simpa using hp,hk⟩
      ·rw[L5 hp]at e;cases e
     ·rw[L5 h0]at e ⊢;split at e
      ·rename_i hh;split at hh
       ·cases hh
       ·cases hh
      ·rename_i hh;split at hh
       ·rename_i hs;obtain⟨s1,s2,s3,s4,s5,s6⟩:=hs;simp only[Option.bind_some,hn,N7]at e;subst e;refine⟨by simpa using s1,by omega,s2,s3,s4,s5,fun x hx=>?_,.inr hk⟩;simpa using O9.1 s6 x hx
       ·cases hh
      ·cases e
  ·rename_i c _;split at e
   ·rename_i hc;split at e
    ·rename_i hf;unfold wpOp;simp only[];unfold wpCall;rw[hc];show callK _ _ _ _ _;rw[hf];exact(vx hcall e).mono fun r2 h2 ⟨e1,e2⟩=>by rw[e1,e2];exact hk
    ·cases e
   ·cases e
  ·cases e
theorem qF(hcall:CallOk C call){n:Nat}(hn:n+1<2^k0){ops:Array Oper}{K:Env→Prop}:∀(l:List Oper) {ts ts':Tr} {h:Heap},Tr.Full k0 ts→(∀o∈l,okDst n o=true)→pX C call ops l ts h=some ts'→K (envL ts')→
  WPp C ops l (envL ts) h K∧Tr.Full k0 ts'
 | [],ts,ts',h,hF,_,g,hq=>by
  simp only[pX,N7]at g;subst g;exact⟨hq,hF⟩
 |o::rest,ts,ts',h,hF,ho,g,hq=>by
  have hd:∀i,o.dst=some i→i<n:=fun i e=>by have:=ho o (by simp);simpa [okDst,e]using this
  unfold pX at g;split at g
  ·rename_i v e;have ih:=qF hcall hn (ops:=ops) (K:=K) rest (ts:=putL ts o.dst v) (dT _ _ _ hF) (fun o hm=>ho o (by simp[hm])) g hq;rw[dn hF hn hd]at ih;refine⟨⟨v,fun KK hkk=>?_,ih.1⟩,ih.2⟩;unfold operPX at e;unfold wpOperV;split at e
   ·rename_i hg;rw[hg];simp only[];exact gp hcall e hkk
   ·rename_i hg;rw[hg];simp only[];split at e
    ·rename_i hq;rw[hq];simp only[];split at e
     ·rename_i hb;exact⟨fun _=>gp hcall e hkk,fun hn=>absurd hb hn⟩
     ·rename_i hb;cases e;exact⟨fun hn=>absurd hn hb,fun _=>hkk⟩
    ·cases e
  ·cases g
theorem tn(hcall:CallOk C call){n:Nat}(hn:n+1<2^k0){ops:Array Oper}{cb:Nat→Bool}:∀(l:List Oper) {ts ts':Tr} {h:Heap} {vs:List (Tr×AVal)},Tr.Full k0 ts→(∀o∈l,okDst n o=true)→pXt C call ops l ts h=some (vs,ts')→
  ∃V:Nat→AVal,(∀(i:Nat) (o:Oper),l[i]? =some o→∀KK:AVal→Heap→Prop,KK (V i) h→wpOperV C ops o (Av.T V l (envL ts) i) h KK)∧Av.T V l (envL ts) l.length=envL ts'∧Tr.Full k0 ts'∧
   ∀(s:Nat) (h':Heap),sameX C call ops cb h' s l vs=true→∀(i:Nat) (o:Oper),l[i]? =some o→cb (s+i)=false→∀KK:AVal→Heap→Prop,KK (V i) h'→wpOperV C ops o (Av.T V l (envL ts) i) h' KK
 | [],ts,ts',h,vs,hF,_,g=>by
  simp only[pXt,N7,Prod.mk.injEq]at g;obtain⟨rfl,rfl⟩:=g;exact⟨fun _=>undefA,fun i o hi=>by simp at hi,rfl,hF,fun s h' _ i o hi=>by simp at hi⟩
 |o::rest,ts,ts',h,vs,hF,ho,g=>by
  have hd:∀i,o.dst=some i→i<n:=fun i e=>by have:=ho o (by simp);simpa [okDst,e]using this
  have one:∀(h:Heap) (v:AVal),operPX C call ops o ts h=some v→∀KK:AVal→Heap→Prop,KK v h→wpOperV C ops o (envL ts) h KK:=fun h v e KK hkk=>by
   unfold operPX at e;unfold wpOperV;split at e
   ·rename_i hg;rw[hg];simp only[];exact gp hcall e hkk
   ·rename_i hg;rw[hg];simp only[];split at e
    ·rename_i hq;rw[hq];simp only[];split at e
     ·rename_i hb;exact⟨fun _=>gp hcall e hkk,fun hn=>absurd hb hn⟩
     ·rename_i hb;cases e;exact⟨fun hn=>absurd hn hb,fun _=>hkk⟩
    ·cases e
  simp only[pXt]at g;split at g
  ·rename_i v e;split at g
   ·rename_i l1 ts1 e1;cases g;obtain⟨V,h1,h2,h3,h4⟩:=tn hcall hn (ops:=ops) (cb:=cb) rest (ts:=putL ts o.dst v) (dT _ _ _ hF) (fun o hm=>ho o (by simp[hm])) e1;rw[dn hF hn hd]at h1 h2 h4;refine⟨fun i=>match i with|0=>v|i+1=>V i,fun i o' hi=>?_,?_,h3,fun s h' hs i o' hi hc=>?_⟩
    ·cases i with
     |zero=>simp at hi;subst hi;exact one h v e
     |succ i=>exact h1 i o' (by simpa using hi)
    ·exact h2
    ·simp only[sameX,L6,R6]at hs;cases i with
     |zero=>
      simp at hi;subst hi;rcases hs.1 with h5|h5
      ·rw[W3]at hc;rw[hc]at h5;cases h5
      ·split at h5
       ·rename_i v' e';rw[eD _ _ h5]at e';exact one h' v e'
       ·cases h5
     |succ i=>exact h4 (s+1) h' hs.2 i o' (by simpa using hi) (by rw[show s+1+i=s+(i+1) by omega];exact hc)
   ·cases g
  ·cases g
theorem vy{n:Nat}{o:Oper}(h:okOper n o=true):okDst n o=true:=by
 unfold okOper at h;simp only[L6]at h;exact h.2
theorem vz(hcall:CallOk C call)(lf:Nat){n:Nat}(hn:n+1<2^k0):∀(c:Code) {ts:Tr} {h:Heap} {rs:Outs} {Q:Exit→Env→Heap→Prop},Tr.Full k0 ts→okCode n c=true→codeX C call lf c ts h=some rs→(∀r∈rs,Q r.1 (envL r.2.1) r.2.2)→
  WP C c Q (envL ts) h∧∀r∈rs,Tr.Full k0 r.2.1:=by
 intro c;induction c with
 |skip=>intro ts h rs Q hF _ g hq;simp only[codeX,N7]at g;subst g;exact⟨hq (_,ts,h) (by simp),fun r hr=>by simp at hr;rw[hr];exact hF⟩
 |label l=>intro ts h rs Q hF _ g hq;simp only[codeX,N7]at g;subst g;exact⟨hq (_,ts,h) (by simp),fun r hr=>by simp at hr;rw[hr];exact hF⟩
 |exit id=>intro ts h rs Q hF _ g hq;simp only[codeX,N7]at g;subst g;exact⟨hq (_,ts,h) (by simp),fun r hr=>by simp at hr;rw[hr];exact hF⟩
 |ret=>intro ts h rs Q hF _ g hq;simp only[codeX,N7]at g;subst g;exact⟨hq (_,ts,h) (by simp),fun r hr=>by simp at hr;rw[hr];exact hF⟩
 |region id ops draw=>
  obtain⟨l⟩:=ops;intro ts h rs Q hF hok g hq;have hall:∀o∈l,okDst n o=true:=fun o ho=>by
   simp only[okCode,O9]at hok;exact vy (hok o ho)
  cases draw with
  |false=>
   simp only[codeX]at g;split at g
   ·rename_i ts' h' e1;cases g;have:=xe hcall hn l hF hall e1 (Q:=Q) (hq (_,ts',h') (by simp));exact⟨this.1,fun r hr=>by simp at hr;rw[hr];exact this.2⟩
   ·cases g
  |true=>
   simp only[codeX]at g;split at g
   ·rename_i rs1 hd;cases g;unfold drawX3 at hd;split at hd
    ·rename_i k oe hde;have hdr:l[k]? =some oe∧preOk l.toArray (k+1)=true:=by
      unfold drawE at hde;split at hde
      ·simp only[]at hde;split at hde
       ·rename_i hoe;split at hde
        ·rename_i hp;cases hde;exact⟨hoe,hp⟩
        ·cases hde
       ·cases hde
      ·cases hde
     have hkl:=(f9.1 hdr.1).1;split at hd
     ·rename_i vs ts1 e1;split at hd
      ·rename_i ts2 h2 e2;split at hd
       ·rename_i hsame;obtain⟨V,v1,v2,v3,v4⟩:=tn hcall hn (cb:=fun i=>((Region.before l.toArray).getD k 0).testBit i) (l.take k) hF (fun o ho=>hall o (W1 ho)) e1;have hlen:(l.take k).length=k:=(by simp;omega);have hTT:∀i,i≤k→Av.T V (l.take k) (envL ts) i=Av.T V l (envL ts) i:=fun i hi=>fL V V k (fun _ _=>rfl) _ _ _ _ hi (by rw[zb9];congr 1;omega) (by rw[hlen];exact hi) (by omega)
        have hget:∀(i:Nat) (o:Oper),i<k→l[i]? =some o→(l.take k)[i]? =some o:=fun i o hi ho=>by rw[T7,M0 hi];exact ho
        have hoe:=hall oe (M7 hdr.1);have hF2:=(dq hcall hn v3 hoe e2 (K:=fun _ _=>True) trivial).2;have hsx:=p9 hcall hn (ops:=⟨l⟩) (fun o ho=>hall o ho) (l.length-(k+1)) hF2 hd (Q:=Q) (fun r hr=>hq (.normal,r.1,r.2) (M9.2 ⟨r,fm r hr,rfl⟩));rw[hlen]at v2;rw[hTT k (M4 _)]at v2;refine⟨vj k oe hdr.1 hdr.2 V (fun i o hi ho=>?_) ?_,fun r hr=>?_⟩
        ·rw[← hTT i (by omega)];exact v1 i o (hget i o hi ho)
        ·rw[v2];have hd':∀i,oe.dst=some i→i<n:=fun i e=>by simpa [okDst,e]using hoe
         unfold operX at e2;unfold wpOperV;have post:∀v,ts2=putL ts1 oe.dst v→(∀(i:Nat) (o:Oper),i<k→l[i]? =some o→((Region.before l.toArray).getD k 0).testBit i=false→∀KK:AVal→Heap→Prop,KK (V i) h2→wpOperV C l.toArray o (Av.T V l (envL ts) i) h2 KK)∧
           Rest C l.toArray Q (l.length-(k+1)) (listK l.length (k+1)) (put (envL ts1) oe.dst v) h2:=fun v ev=>by
          refine⟨fun i o hi ho hc=>?_,?_⟩
          ·rw[← hTT i (by omega)];exact v4 0 h2 hsame i o (hget i o hi ho) (by simpa using hc)
          ·rw[← dn v3 hn hd', ← ev];exact hsx.1
         split at e2
         ·rename_i hg;rw[hg];simp only[];split at e2
          ·rename_i e3;cases e2;exact jQ hcall e3 (post _ rfl)
          ·cases e2
         ·rename_i hg;rw[hg];simp only[];split at e2
          ·rename_i hqq;rw[hqq];simp only[];split at e2
           ·rename_i hb;split at e2
            ·rename_i e3;cases e2;exact⟨fun _=>jQ hcall e3 (post _ rfl),fun hn=>absurd hb hn⟩
            ·cases e2
           ·rename_i hb;cases e2;exact⟨fun hn=>absurd hn hb,fun _=>post _ rfl⟩
          ·cases e2
        ·obtain⟨q,hq1,rfl⟩:=M9.1 hr;exact hsx.2 q (fp q hq1)
       ·cases hd
      ·cases hd
     ·cases hd
    ·cases hd
   ·split at g
    ·rename_i rs1 hd;cases g;obtain⟨k,hk,e⟩:=List.exists_of_findSome?_eq_some hd;have hk:=tk hk;simp only[L6]at hk;split at e
     ·rename_i ts1 e1;have hF1:=(qF hcall hn (K:=fun _=>True) (ops:=⟨l⟩) (C:=C) (l.take k) hF (fun o ho=>hall o (W1 ho)) e1 trivial).2;have h2:=p9 hcall hn (ops:=⟨l⟩) (fun o ho=>hall o ho) (l.length-k) hF1 e (Q:=Q) (fun r hr=>hq (.normal,r.1,r.2) (M9.2 ⟨r,fm r hr,rfl⟩));have h1:=qF hcall hn (K:=fun t'=>Rest C ⟨l⟩ Q (l.length-k) (listK l.length k) t' h) (ops:=⟨l⟩) (C:=C) (l.take k) hF (fun o ho=>hall o (W1 ho)) e1 h2.1;refine⟨vh k (by simpa using hk.2) h1.1,fun r hr=>?_⟩;obtain⟨q,hq1,rfl⟩:=M9.1 hr;exact h2.2 q (fp q hq1)
     ·cases e
    ·cases g
 |seq a b iha ihb=>
  intro ts h rs Q hF hok g hq;simp only[okCode,L6]at hok;simp only[codeX]at g;split at g
  ·rename_i rs1 e1;obtain⟨b1,b2⟩:=dr g;have hlen:=(iha (Q:=fun _ _ _=>True) hF hok.1 e1 (fun _ _=>trivial)).2;refine⟨(iha (Q:=thenQ (fun t h=>Wkn C (wr a) t h fun t h=>WP C b Q t h) Q) hF hok.1 e1 (fun r hr=>?_)).1,fun r hr=>?_⟩
   ·obtain⟨ys,hys,hsub⟩:=b1 r hr;obtain⟨e,ts1,h1⟩:=r;cases e with
    |normal=>exact M2 (ihb (hlen _ hr) hok.2 hys (fun r hr=>hq r (hsub r hr))).1
    |_=>simp only[N7]at hys;subst hys;exact hq _ (hsub _ (by simp))
   ·obtain⟨r1,hr1,ys,hys,hry⟩:=b2 r hr;obtain⟨e,ts1,h1⟩:=r1;cases e with
    |normal=>exact(ihb (Q:=fun _ _ _=>True) (hlen _ hr1) hok.2 hys (fun _ _=>trivial)).2 r hry
    |_=>simp only[N7]at hys;subst hys;simp at hry;subst hry;exact hlen _ hr1
  ·cases g
 |cond c a b iha ihb=>
  intro ts h rs Q hF hok g hq;simp only[okCode,L6]at hok;simp only[codeX]at g;unfold WP;split at g
  ·rename_i hc;rw[hc];simp only[];have:=iha (Q:=Q) hF (by simp[hok]) g hq;exact⟨⟨fun _=>this.1,fun e=>Bool.noConfusion e⟩,this.2⟩
  ·rename_i hc;rw[hc];simp only[];have:=ihb (Q:=Q) hF (by simp[hok]) g hq;exact⟨⟨fun e=>Bool.noConfusion e,fun _=>this.1⟩,this.2⟩
  ·cases g
 |block id c ih=>
  intro ts h rs Q hF hok g hq;simp only[okCode]at hok;simp only[codeX]at g;split at g
  ·rename_i rs1 e1;cases g;have hlen:=(ih (Q:=fun _ _ _=>True) hF hok e1 (fun _ _=>trivial)).2;refine⟨(ih (Q:=blockQ id Q) hF hok e1 (fun r hr=>?_)).1,fun r hr=>?_⟩
   ·have:=hq _ (M9.2 ⟨r,hr,rfl⟩);obtain⟨e,ts1,h1⟩:=r;cases e with
    |exit id'=>
     simp only[blockQ]at this ⊢;split at this
     ·rename_i e;rw[M0 e];exact this
     ·rename_i e;rw[L5 e];exact this
    |_=>exact this
   ·obtain⟨r1,hr1,rfl⟩:=M9.1 hr;have:=hlen r1 hr1;obtain⟨e,ts1,h1⟩:=r1;cases e with
    |exit id'=>simp only[];split<;>exact this
    |_=>exact this
  ·cases g
 |scope c ih=>
  intro ts h rs Q hF hok g hq;simp only[okCode]at hok;simp only[codeX]at g;split at g
  ·rename_i rs1 e1;obtain⟨b1,b2⟩:=dr g;have hlen:=(ih (Q:=fun _ _ _=>True) hF hok e1 (fun _ _=>trivial)).2;refine⟨(ih (Q:=noG Q) hF hok e1 (fun r hr=>?_)).1,fun r hr=>?_⟩
   ·obtain⟨ys,hys,hsub⟩:=b1 r hr;obtain⟨e,ts1,h1⟩:=r;cases e with
    |goto l=>cases hys
    |_=>simp only[N7]at hys;subst hys;exact hq _ (hsub _ (by simp))
   ·obtain⟨r1,hr1,ys,hys,hry⟩:=b2 r hr;obtain⟨e,ts1,h1⟩:=r1;cases e with
    |goto l=>cases hys
    |_=>simp only[N7]at hys;subst hys;simp at hry;subst hry;exact hlen _ hr1
  ·cases g
 |loop c ih=>
  intro ts h rs Q hF hok g hq;simp only[okCode]at hok;simp only[codeX]at g;have lens:∀(m:Nat) (s:Tr) (k:Heap) (rs:Outs),Tr.Full k0 s→iterX (fun ts h=>codeX C call lf c ts h) m s k=some rs→∀r∈rs,Tr.Full k0 r.2.1:=by
   intro m;induction m with
   |zero=>intro s k rs _ g;simp[iterX]at g
   |succ m ihn=>
    intro s k rs hs g r hr;simp only[iterX]at g;split at g
    ·rename_i rs1 e1;obtain⟨b1,b2⟩:=dr g;have hl:=(ih (Q:=fun _ _ _=>True) hs hok e1 (fun _ _=>trivial)).2;obtain⟨r1,hr1,ys,hys,hry⟩:=b2 r hr;have h1:=hl r1 hr1;obtain⟨e,ts1,k1⟩:=r1;cases e with
     |normal=>exact ihn _ _ _ h1 hys r hry
     |_=>simp only[N7]at hys;subst hys;simp at hry;subst hry;exact h1
    ·cases g
  refine⟨⟨fun n t1 h1=>∃(s:Tr) (rs1:Outs),t1=envL s∧Tr.Full k0 s∧iterX (fun ts h=>codeX C call lf c ts h) n s h1=some rs1∧∀r∈rs1,r∈rs,lf,M2 ⟨ts,rs,rfl,hF,g,fun _ h=>h⟩,fun n' t1 h1 hI=>?_⟩,lens _ _ _ _ hF g⟩;obtain⟨s,rs1,rfl,hs,gi,hsub⟩:=hI;cases n' with
  |zero=>simp[iterX]at gi
  |succ n=>
   simp only[iterX]at gi;split at gi
   ·rename_i rs2 e1;obtain⟨b1,b2⟩:=dr gi;have hl:=(ih (Q:=fun _ _ _=>True) hs hok e1 (fun _ _=>trivial)).2;refine(ih hs hok e1 (fun r hr=>?_)).1;obtain⟨ys,hys,hs2⟩:=b1 r hr;have h2:=hl r hr;obtain⟨e,ts1,k1⟩:=r;cases e with
    |normal=>exact⟨n,by omega,M2 ⟨ts1,ys,rfl,h2,hys,fun r h=>hsub r (hs2 r h)⟩⟩
    |_=>simp only[N7]at hys;subst hys;exact hq _ (hsub _ (hs2 _ (by simp)))
   ·cases gi
 |_=>intro ts h rs Q _ _ g;simp[codeX]at g
def Kill(a b:Heap):Prop:=a.length=b.length∧∀(p:Nat) (k:Blk),b[p]? =some k→k=.dead∨a[p]? =some k
theorem Kill.refl(a:Heap):Kill a a:=⟨rfl,fun _ _ h=>.inr h⟩
theorem Kill.trans{a b c:Heap}(h:Kill a b)(k:Kill b c):Kill a c:=⟨h.1.trans k.1,fun p x hx=>(k.2 p x hx).elim .inl (h.2 p x)⟩
theorem lD:∀{a b q:Heap},mergeH a b=some q→Kill a q∧Kill b q
 | [],[],q,h=>by simp only[mergeH,N7]at h;subst h;exact⟨Kill.refl _,Kill.refl _⟩
 | [],_::_,q,h=>by simp[mergeH]at h
 |_::_,[],q,h=>by simp[mergeH]at h
 |a::l,b::m,q,h=>by
  simp only[mergeH]at h;split at h
  ·rename_i q1 hq;cases h;obtain⟨h1,h2⟩:=lD hq;refine⟨⟨by simp[h1.1],fun p k hk=>?_⟩,⟨by simp[h2.1],fun p k hk=>?_⟩⟩
   ·cases p with
    |zero=>
     simp at hk;split at hk
     ·subst hk;exact .inr rfl
     ·exact .inl hk.symm
    |succ p=>exact(h1.2 p k (by simpa using hk)).imp id (by simp)
   ·cases p with
    |zero=>
     simp at hk;split at hk
     ·rename_i e;subst hk;exact .inr (by rw[p7 e];rfl)
     ·exact .inl hk.symm
    |succ p=>exact(h2.2 p k (by simpa using hk)).imp id (by simp)
  ·cases h
theorem pb{fn:Func}:∀{rs:Outs} {x:AVal×Heap},allX C fn rs=some x→∀r∈rs,∃h1,endX C fn r=some (x.1,h1)∧Kill h1 x.2
 | [],x,g=>by cases g
 | [r],x,g=>by intro r' hr;simp at hr;subst hr;exact⟨x.2,g,Kill.refl _⟩
 |r::r2::rest,x,g=>by
  simp only[allX]at g;split at g
  ·rename_i x1 y1 h1 h2;unfold mergeAH at g;split at g
   ·rename_i hb;split at g
    ·rename_i q hq;cases g;obtain⟨k1,k2⟩:=lD hq;intro r' hr;rcases M6.1 hr with rfl|hr
     ·exact⟨_,h1,k1⟩
     ·obtain⟨h3,e,k3⟩:=pb h2 r' hr;exact⟨h3,by rw[eD _ _ hb];exact e,k3.trans k2⟩
    ·cases g
   ·cases g
  ·cases g
theorem Sat.kill{f:FuncId}{args:List AVal}{r:AVal}{h1:Heap}(s:Sat C f args h fun r2 h2=>r2=r∧Kill h2 h1):Sat C f args h fun r2 h2=>r2=r∧h2=h1:=by
 intro B S μ w vs fit rl;refine(s B S μ w vs fit rl).mono fun u w' hp=>?_
 obtain⟨r2,h',S',μ',⟨rfl,hk⟩,st,fit',hrep⟩:=hp;refine⟨r2,h1,S',μ',⟨rfl,rfl⟩,st,⟨fit'.glob,fit'.len.trans hk.1,fit'.sep,fit'.own,fit'.base,fit'.lie,fun p m k hm hp=>?_⟩,hrep⟩;rcases hk.2 p k hp with rfl|h2
 ·trivial
 ·exact fit'.blk p m k hm h2
theorem vA{k0:Nat}(args:List AVal)(hl:args.length+1<2^k0):envL (argsT (Tr.mk k0) 0 args)=env0 args:=by
 funext i
 simp only[envL,env0];rw[lC _ _ _ _ (Tr.full_mk _) (by omega),Tr.get_mk];by_cases h:i<args.length
 ·rw[M0 (by omega)];simp
 ·rw[L5 (by omega)];simp[List.getD,Q4 (show args.length≤i by omega)]
theorem Sat.of_body0{f:FuncId}{fn:Func}{c:Code}{args:List AVal}{R:AVal→Heap→Prop}(hf:C.P.funcs[f]? =some fn)(hb:fn.body=some c)(hname:(fn.name== "runtime.NumGoroutine")=false)
  (hok:okCode fn.ntmps c=true)(hres:fn.results.toList.all (okRes fn.ntmps)=true)(hlen:args.length≤fn.ntmps)
  (hw:WP C c (fun e t' h'=>match e with
   | .normal=>need (resA C t' h' fn.results.toList) fun r=>R r h'
   | .ret=>need (resA C t' h' fn.results.toList) fun r=>R r h'
   |_=>False) (env0 args) h):Sat C f args h R:=by
 intro B S μ w vs fit rl;have hcall:(callFunc f vs.toArray).run C.P w=.ok (.enter f vs.toArray) w:=by
  have hne:fn.name≠ "runtime.NumGoroutine" :=by simpa using hname
  simp[callFunc,hf,hne,hb]
 rw[hcall];show Calls C.P f vs.toArray w _;refine calls_of_wp hf hb ?_;have hlv:vs.length≤fn.ntmps:=by rw[rl.1];exact hlen
 have renv:REnv fn.ntmps w S μ (env0 args) {tmps:=vs.toArray++Array.replicate (fn.ntmps-vs.toArray.size) undef,defers:=[]}:=by
  refine⟨by simp;omega,rfl,fun i hi=>?_⟩;unfold env0;by_cases hlt:i<args.length
  ·have hx:=L9 hlt;have:=rl.2 i _ hx;have hv:i<vs.length:=(by rw[rl.1];exact hlt);have e1:args.getD i undefA=args[i]:=(by simp[List.getD,hx]);have e2:(vs.toArray++Array.replicate (fn.ntmps-vs.toArray.size) undef).getD i undef=vs.getD i undef:=by
    simp[Q8,Array.getElem?_append,hv,List.getD]
   rw[e1];simp only[e2];exact this
  ·have e1:args.getD i undefA=undefA:=(by simp[List.getD,Q4 (show args.length≤i by omega)]);have hv:¬i<vs.length:=(by rw[rl.1];exact hlt);have e2:(vs.toArray++Array.replicate (fn.ntmps-vs.toArray.size) undef).getD i undef=undef:=by
    simp[Q8,Array.getElem?_append,hv,Array.getElem?_replicate];split<;>rfl
   rw[e1];simp only[e2];exact eb _ _ _
 have hres':=O9.1 hres;refine wp_mono (gd (B:=B) (n:=fn.ntmps) c hok (Step.refl B S μ w) fit renv hw) fun e a' w' hp=>?_
 obtain⟨t',h',S',μ',hq,st,fit',renv'⟩:=hp;have fin:need (resA C t' h' fn.results.toList) (fun r=>R r h')→a'.defers=[]∧∃v,(results fn a'.tmps).run C.P w'=.ok v w'∧
   ∃u,Ending.returned v=Ending.returned u∧OpPost C B S μ w R u w':=by
  intro hq;obtain⟨r,hr0,hR⟩:=ae hq;obtain⟨v,hv,hrep⟩:=j8 fit' renv' hres' hr0;exact⟨renv'.2.1,v,hv,v,rfl,r,_,_,_,hR,st,fit',hrep⟩
 cases e with
 |normal=>exact fin hq
 |ret=>exact fin hq
 |_=>exact hq.elim
def OrcOk(C:Ctx)(orc:FuncId→List AVal→Option AVal):Prop:=∀f args r,orc f args=some r→∀h,Sat C f args h fun r2 h2=>r2=r∧h2=h
theorem vB{orc:FuncId→List AVal→Option AVal}(horc:OrcOk C orc)(lf:Nat):∀n,CallOk C (callX C orc lf n):=by
 intro n;induction n with
 |zero=>intro f args h r h' g;simp[callX]at g
 |succ n ih=>
  intro f args h r h' g;simp only[callX]at g;split at g
  ·rename_i e;cases g;exact horc _ _ _ e h
  ·split at g
   ·cases g
   ·rename_i fn hfn;split at g
    ·cases g
    ·rename_i c hc;split at g
     ·rename_i hs;obtain⟨s1,s2,s3,s4,s5⟩:=hs;split at g
      ·rename_i rs e1;have hend:=pb g;refine(Sat.of_body0 hfn hc s1 s2 s3 s4 (R:=fun r2 h2=>r2=r∧Kill h2 h') ?_).kill;have:=(vz ih lf s5 c (jR _ _ _ (Tr.full_mk _)) s2 e1 (Q:=fun e t' h9=>match e with
        | .normal=>need (resA C t' h9 fn.results.toList) fun r2=>r2=r∧Kill h9 h'
        | .ret=>need (resA C t' h9 fn.results.toList) fun r2=>r2=r∧Kill h9 h'
        |_=>False) (fun q hq=>?_)).1
       ·rwa [vA _ (by omega)]at this
       ·obtain⟨h1,e,hkill⟩:=hend q hq;obtain⟨ex,ts,h9⟩:=q;unfold endX at e;split at e
        ·rename_i hqq;cases hqq;split at e
         ·rename_i hr;cases e;exact aA hr ⟨rfl,hkill⟩
         ·cases e
        ·rename_i hqq;cases hqq;split at e
         ·rename_i hr;cases e;exact aA hr ⟨rfl,hkill⟩
         ·cases e
        ·cases e
      ·cases g
     ·cases g
end
section
variable {C:Ctx}
def GClo(C:Ctx):Prop:=∀g cs,C.G g=some cs→Clo 0 (.ad cs)
theorem Sat.frame(hG:GClo C){f:FuncId}{args:List AVal}{R:AVal→Heap→Prop}(ha:∀x∈args,Clo 0 x)(hR:∀r h',R r h'→Clo 0 r∧h'=[])
  (s:Sat C f args [] R)(h:Heap):Sat C f args h fun r h'=>R r []∧h'=h:=by
 intro B S μ w vs fit rl;have st0:∀(x:AVal) (v:Value),Clo 0 x→Rep w S μ x v→Rep w S [] x v:=fun x v hc hr=>by
  have:=hc.rep (S':=S) hr fun a ha=>ha
  simpa using this
 have fit0:Fits C w.heap.size S [] [] w:=by
  refine⟨fun g cs hg=>st0 _ _ (hG g cs hg) (fit.glob g cs hg),rfl,?_,?_,M4 _,fit.lie,?_⟩
  ·intro p q m m' b h1;simp at h1
  ·intro p m b h1;simp at h1
  ·intro p m k h1;simp at h1
 have rl0:RepL w S [] args vs:=⟨rl.1,fun i x hx=>st0 _ _ (ha x (M7 hx)) (rl.2 i x hx)⟩
 refine(s _ S [] w vs fit0 rl0).mono fun v w' hp=>?_
 obtain⟨r,h',S',μ',hr,st,fit',hrep⟩:=hp;obtain⟨hclo,rfl⟩:=hR r h' hr;obtain rfl:μ'=[]:=S8.1 (by rw[fit'.len];rfl);have own:∀(p:Nat) (m:MB) (b:Nat),μ[p]? =some m→m.blk=some b→∀a,S' a→a.block≠b:=fun p m b h1 e1 a ha=>by
  obtain⟨k1,k2,k3⟩:=fit.own p m b h1 e1;rcases st.new a ha with h2|h2
  ·exact k3 a h2
  ·omega
 have st2:Step B S μ w S' μ w':=⟨st.sub,st.keep,st.below.mono fit.base,MapLe.refl _,fun a ha=>(st.new a ha).imp id fun e=>Q7 fit.base e⟩
 refine⟨r,h,S',μ,⟨hr,rfl⟩,st2,?_,?_⟩
 ·refine⟨fun g cs hg=>(fit.glob g cs hg).mono st2,fit.len,fit.sep,fun p m b h1 e1=>?_,Q7 fit.base st.below.size,fit'.lie,fun p m k h1 h2=>?_⟩
  ·obtain⟨k1,k2,k3⟩:=fit.own p m b h1 e1;exact⟨k1,W2 k2 st.below.size,own p m b h1 e1⟩
  ·exact(fit.blk p m k h1 h2).mono st2 fun b hb=>st.below.block b (fit.own p m b h1 hb).2.1
 ·have grow:∀(x:AVal) (v:Value),Rep w' S' [] x v→Rep w' S' μ x v:=fun x v hr=>by
   refine hr.mono (B:=0) (S':=S') (w':=w') ⟨fun _ ha=>ha,fun _ _=>rfl,X6 _ _,fun p m hm=>by simp at hm,fun _ ha=>.inl ha⟩
  exact grow _ _ hrep
def plainB:AVal→Bool
 | .int _ _=>true
 | .bool _=>true
 | .str _=>true
 |_=>false
theorem qG{n:Nat}{x:AVal}(h:plainB x=true):Clo n x:=by
 cases x<;>first|exact .int _ _|exact .bool _|exact .str _|cases h
def isV(v:AVal):Option (AVal×Heap)→Bool
 |some (r,h1)=>match frzX h1 0 20 r with
  |some y=>beqA y v
  |none=>false
 |none=>false
theorem Sat.closedV(hG:GClo C){orc:FuncId→List AVal→Option AVal}(horc:OrcOk C orc)(lf n:Nat){f:FuncId}{args:List AVal}{v:AVal}(ha:args.all plainB=true)(hv:cloA 0 v=true)
  (hrun:isV v (callX C orc lf n f args [])=true)(h:Heap):Sat C f args h fun r2 h2=>r2=v∧h2=h:=by
 unfold isV at hrun;split at hrun
 ·rename_i r h1 e;split at hrun
  ·rename_i y hy;have ey:=eD _ _ hrun;subst ey;have s:=(vB horc lf n f args [] r h1 e).letgo (v:=y) (by simp) (p8 _ _ _ _ _ hy);refine(s.frame hG (fun x hx=>qG (O9.1 ha x hx)) (fun r h' ⟨e1,e2⟩=>⟨by rw[e1];exact fN 0 _ hv,e2⟩) h).mono fun r2 h2 ⟨⟨e1,_⟩,e2⟩=>⟨e1,e2⟩
  ·cases hrun
 ·cases hrun
end
end Go.Av
namespace Go.Av
open Go Go.Proofs Go.RowKit Go.ChangeShapes Go.WideShapes
def flatD:DataW Unit→List Value
 | .lit (.int k n)=>[.int k n]
 | .agg l=>flatL l
 |_=>[]
where flatL:List (DataW Unit)→List Value
 | []=>[]
 |d::l=>flatD d++flatL l
noncomputable def laidCells(w:World)(g:Nat)(d:DataW Unit):World:=
 {w with heap:=w.heap.modify g fun
   | .cells _ t frozen=>.cells (flatD d).toArray t frozen
   |o=>o}
noncomputable def putG(w:World)(g:Nat)(vs:Array Value):World:=
 {w with heap:=w.heap.modify g fun
   | .cells _ t frozen=>.cells vs t frozen
   |o=>o}
noncomputable def laidWorld(os:Os)(args:Array Value):World:=
 putG (putG (laidCells (laidCells (laidCells
  (World.holding Tryz.prog os ⟨#[.cells #[.string ⟨#[118,97,108,117,101,32,111,117,116,32,111,102,32,114,97,110,103,101]⟩] 307,.cells #[.string ⟨#[105,110,118,97,108,105,100,32,115,121,110,116,97,120]⟩] 307],args,[]⟩)
  4 Go.Proofs.YtmfhelaoeaifeaaGreatDoor.Rows.laid_math_bits_deBruijn32tab) 5 Go.Proofs.YtmfhelaoeaifeaaGreatDoor.Rows.laid_math_bits_deBruijn64tab) 3 Go.Proofs.YtmfhelaoeaifeaaGreatDoor.Rows.laid_internal_strconv_uint64pow10)
  2 #[.iface 305 (.pointer (some ⟨(World.settled Tryz.prog os).heap.size,0,none⟩))])
  1 #[.iface 305 (.pointer (some ⟨(World.settled Tryz.prog os).heap.size+1,0,none⟩))]
def gM(m:Int):Nat→Option (List AVal):=fun g=>if g=0 then some [.int .i64 m]else none
theorem C8(m:Int):GOk (gM m):=⟨m,by simp[gM]⟩
theorem zo(m:Int):GClo (CT (gM m)):=fun g cs h=>by
 simp only[zi,gM]at h;split at h
 ·cases h;exact .ad _ fun c hc=>by simp at hc;subst hc;exact .int _ _
 ·cases h
theorem zp{W:World}{m:Int}(hm:W.cell? ⟨0,0,none⟩=some (.int .i64 m)):∀g cs,(CT (gM m)).G g=some cs→Rep W (lies0 W) [] (.ad cs) (.pointer (some ⟨g,0,none⟩)):=fun g cs h=>by
 simp only[zi,gM]at h;split at h
 ·rename_i e;subst e;cases h;refine .ad _ _ 0 (fun _=>.int .i64 m) (by simp) (fun j c hj=>?_) (fun j c hj=>?_)
  ·match j with
   |0=>simp at hj;subst hj;exact⟨by unfold lies0;rw[hm];rfl,hm,rfl⟩
   |j+1=>simp at hj
  ·match j with
   |0=>simp at hj;subst hj;exact .int _ _
   |j+1=>simp at hj
 ·cases h
theorem mT{W:World}(h:W.ShapedOpen Tryz.prog):∃m,W.cell? ⟨0,0,none⟩=some (.int .i64 m):=
 Go.Proofs.cell_of_shapedOpen_int (zero:= #[.int .i64 0]) (t:=3) h (T6 (by kernel_rfl)) (by kernel_rfl) rfl (by kernel_rfl) (by kernel_rfl) Tryz.underlying3
end Go.Av
namespace Go.Av
open Go.RowKit
def thrown(v:Value):PanicEntry:= {v,recovered:=false}
def SatD(C:Ctx)(f:FuncId)(args:List AVal)(h:Heap)(R:AVal→Heap→Prop):Prop:=
 ∀B S μ w vs,Fits C B S μ h w→RepL w S μ args vs→∃g az w0,(callFunc f vs.toArray).run C.P w=.ok (.enter g az) w0∧
  Calls C.P g az w0 fun e w''=>∃v,e=.panicked [thrown v]∧OpPost C B S μ w R v w''
section
variable {C:Ctx} {B n m:Nat} {S:Addr→Prop} {μ:Map} {h:Heap} {w:World} {t:Env} {a:Act} {ds:List Deferred}
theorem SatD.mono{f:FuncId}{args:List AVal}{R R':AVal→Heap→Prop}(s:SatD C f args h R)(k:∀r h',R r h'→R' r h'):SatD C f args h R':=fun B S μ w vs fit rl=>by
 obtain⟨g,az,w0,h1,h2⟩:=s B S μ w vs fit rl;exact⟨g,az,w0,h1,h2.mono fun e w'' ⟨v,he,hp⟩=>⟨v,he,hp.mono k⟩⟩
def PostD(C:Ctx)(B n:Nat)(S:Addr→Prop)(μ:Map)(w:World)(Q:AVal→Env→Heap→Prop)(ds:List Deferred):Exit→Act→World→Prop:=fun e a' w'=>
 ∃v r t' h' S' μ',e=.panic [thrown v]∧Q r t' h'∧Step B S μ w S' μ' w'∧Fits C B S' μ' h' w'∧REnv n w' S' μ' t' a' ds∧Rep w' S' μ' r v
def DJ(C:Ctx)(n:Nat)(Q:AVal→Env→Heap→Prop)(c:Code)(t:Env)(h:Heap):Prop:=∀m B S0 μ0 w0 S μ w a ds,Step B S0 μ0 w0 S μ w→Fits C B S μ h w→REnv n w S μ t a ds→
 c.wpIn (WF none) m C.P (PostD C B n S0 μ0 w0 Q ds) a w
def DOp(C:Ctx)(o:Op)(t:Env)(h:Heap)(Q:AVal→Heap→Prop):Prop:=match o with
 | .panic x=>(∃T v,aev C.G t x=.ifc T v)∧Q (aev C.G t x) h
 | .call c=>(match c.callee with
  | .value f=>(match aev C.G t f with
   | .fn (.func g) first captured=>SatD C g (first++c.args.toList.map (aev C.G t)++captured) h Q
   |_=>False)
  |_=>False)
 |_=>False
theorem tq{o:Oper}{Q:AVal→Env→Heap→Prop}{S0:Addr→Prop}{μ0:Map}{w0:World}{next:Act→World→Prop}(ho:okOper n o=true)(st:Step B S0 μ0 w0 S μ w)(f:Fits C B S μ h w)(r:REnv n w S μ t a ds)
  (g:DOp C o.op t h fun x h'=>Q x t h'):o.wpIn (WF none) m C.P a w next (PostD C B n S0 μ0 w0 Q ds):=by
 have hops:∀x∈o.op.operands.toList,okOpd n x=true:=by
  unfold okOper at ho;simp only[L6]at ho;exact O9.1 ho.1
 have rp:∀x,okOpd n x=true→Rep w S μ (aev C.G t x) (a.eval x):=fun x hx=>cN f r x hx
 refine⟨fun _ _=>trivial,?_⟩;rw[Oper.semAt_eq _ _ _ fun c e=>by rw[e]at g;exact g];obtain⟨dst,op,ty,pos,after,guard⟩:=o;cases op with
 |panic x=>
  obtain⟨⟨T,v,hv⟩,hq⟩:=g;have hx:=rp x (hops x (by simp[Op.operands]));rw[hv]at hx hq;generalize hu:a.eval x=u at hx;cases hx with
  |ifc _ _ u hxu=>
  have e:(execOp a.eval {dst,op:=.panic x,type:=ty,pos,after,guard}).run C.P w=.halt (.panic (.iface T u)) w:=by
   simp[execOp,hu,Instr.panic,goPanic,N6]
  rw[e];exact⟨.iface T u,_,t,h,S,μ,rfl,hq,st,f,r,.ifc T v u hxu⟩
 |call c=>
  obtain⟨callee,⟨args⟩,⟨argTypes⟩⟩:=c;cases callee with
  |value fo=>
   have hf:=rp fo (hops fo (by simp[Op.operands,Call.operands]));simp only[DOp]at g;split at g
   ·rename_i fid first captured hfe
    rw[hfe]at hf;generalize hv:a.eval fo=v at hf;cases hf with
    |fn _ _ _ xv cv h1 h2 h3 h4=>
     have hargs:=RepL.of_map rp args (fun x hx=>hops x (by simp[Op.operands,Call.operands]at hx ⊢;exact .inr hx));have hall:RepL w S μ (first++args.map (aev C.G t)++captured) (xv++args.map a.eval++cv):=
      (RepL.append ⟨h1,h3⟩ hargs).append ⟨h2,h4⟩
     obtain⟨g',az,w1,hr,hc⟩:=g B S μ w _ f hall;have e:(execOp a.eval {dst,op:=.call {callee:=.value fo,args:=⟨args⟩,argTypes:=⟨argTypes⟩},type:=ty,pos,after,guard}).run C.P w=(callFunc fid (xv++args.map a.eval++cv).toArray).run C.P w:=by
      show(do let d ← resolve a.eval {callee:=.value fo,args:=⟨args⟩,argTypes:=⟨argTypes⟩} ty;invoke d.target d.args:Sem Next).run C.P w=_;simp only[resolve,hv,Deferred.ofValue,N6,O3,M3,invoke];congr 2
      simp
     rw[e,hr];refine⟨fun e=>by simp[WF,Fence.wide]at e,?_⟩;show CallsIn Fence.wide (m-1) C.P _ _ _ _;refine callsIn_wide.2 (hc.mono ?_);rintro e w'' ⟨v,rfl,x,h',S',μ',hq,st',f',rr⟩;exact⟨v,x,t,h',S',μ',rfl,hq,st.trans st',f',r.mono st',rr⟩
   ·exact g.elim
  |_=>exact g.elim
 |_=>exact g.elim
theorem pc{ops:Array Oper}{o:Oper}{post:List Oper}{Q:AVal→Env→Heap→Prop}{S0:Addr→Prop}{μ0:Map}{w0:World}(hok:∀o∈ops.toList,okOper n o=true)(ho:okOper n o=true)(hg:o.guard=none):
  ∀(pre:List Oper),(∀x∈pre,okOper n x=true)→∀{t h S μ a w},Step B S0 μ0 w0 S μ w→Fits C B S μ h w→REnv n w S μ t a ds→WPl C ops (fun e t h=>e=.normal∧DOp C o.op t h fun x h'=>Q x t h') pre t h→
   wpListIn (WF none) m C.P ops (PostD C B n S0 μ0 w0 Q ds) (pre++o::post) a w
 | [],_,t,h,S,μ,a,w,st,f,r,g=>by
  show wpListIn _ _ _ _ _ (o::post) _ _;unfold wpListIn;rw[M0 (by simp[Region.wanted,hg])];exact tq ho st f r g.2
 |x::rest,hl,t,h,S,μ,a,w,st,f,r,g=>by
  show wpListIn _ _ _ _ _ (x::(rest++o::post)) _ _;unfold wpListIn;exact eP hok (hl x (by simp)) f r g fun t' h' S' μ' a' w' hk st' f' r'=>
   pc hok ho hg rest (fun o ho=>hl o (by simp[ho])) (st.trans st') f' r' hk
theorem DOp.pan{x:Operand}{T:TypeId}{v:AVal}{Q:AVal→Heap→Prop}(hx:aev C.G t x=.ifc T v)(hq:Q (.ifc T v) h):DOp C (.panic x) t h Q:=by
 unfold DOp;exact⟨⟨T,v,hx⟩,by rw[hx];exact hq⟩
theorem DOp.call{g:FuncId}{az:Array Operand}{ats:Array TypeId}{xs:List AVal}{Q:AVal→Heap→Prop}(ha:az.toList.map (aev C.G t)=xs)(s:SatD C g xs h Q):DOp C (.call ⟨.value (.func g),az,ats⟩) t h Q:=by
 unfold DOp;show SatD C g ([]++az.toList.map (aev C.G t)++[]) h Q;rw[ha,P4,O8];exact s
variable {Q:AVal→Env→Heap→Prop} {c d:Code}
theorem DJ.region{id:Nat}{ops:Array Oper}(k:Nat){o:Oper}(ho:okCode n (.region id ops false)=true)(hk:ops.toList.drop k=o::ops.toList.drop (k+1))(hg:o.guard=none)
  (hw:WPl C ops (fun e t h=>e=.normal∧DOp C o.op t h fun x h'=>Q x t h') (ops.toList.take k) t h):DJ C n Q (.region id ops false) t h:=fun m B S0 μ0 w0 S μ w a ds st f r=>by
 have hops:=O9.1 ho;have hl:ops.toList=ops.toList.take k++o::ops.toList.drop (k+1):=by rw[← hk,za5]
 have hmo:o∈ops.toList:=by rw[hl];simp
 refine wpIn_region_list ?_;rw[hl];exact pc hops (hops o hmo) hg _ (fun x hx=>hops x (W1 hx)) st f r hw
theorem DJ.seq1(ho:okCode n c=true)(hw:∀KK:Env→Heap→Prop,(∀t h,Wkn C (wr c) t h (fun t h=>DJ C n Q d t h)→KK t h)→WP C c (thenQ KK fun _ _ _=>False) t h):DJ C n Q (.seq c d) t h:=fun m B S0 μ0 w0 S μ w a ds st f r=>
 wpIn_seq (wpIn_mono (eh (ρ:=none) c ho (.inl rfl) st f r (hw _ fun _ _ g=>g)) fun e a' w' ⟨t',h',S',μ',hq,st',f',r'⟩=>by
  cases e with
  |normal=>
   obtain⟨t1,h1,hw,hq⟩:=hq;obtain⟨S1,μ1,st1,f1,r1⟩:=hw.at f' r';exact hq m B S0 μ0 w0 S1 μ1 w' a' ds (st'.trans st1) f1 r1
  |_=>exact hq.elim)
theorem DJ.seq0(hw:DJ C n Q c t h):DJ C n Q (.seq c d) t h:=fun m B S0 μ0 w0 S μ w a ds st f r=>
 wpIn_seq (wpIn_mono (hw m B S0 μ0 w0 S μ w a ds st f r) fun e a' w' hp=>by
  obtain⟨v,x,t',h',S',μ',rfl,hq⟩:=hp;exact⟨v,x,t',h',S',μ',rfl,hq⟩)
theorem DJ.cond{x:Operand}{q:Bool}(ho:okOpd n x=true)(hx:aev C.G t x=.bool q)(h1:q=true→DJ C n Q c t h)(h2:q=false→DJ C n Q d t h):DJ C n Q (.cond x c d) t h:=fun m B S0 μ0 w0 S μ w a ds st f r=>by
 have hc:=cN f r x ho;rw[hx]at hc;exact wpIn_cond_split hc.bool_inv (fun e=>h1 e m B S0 μ0 w0 S μ w a ds st f r) (fun e=>h2 e m B S0 μ0 w0 S μ w a ds st f r)
theorem DJ.block{id:Nat}(hw:DJ C n Q c t h):DJ C n Q (.block id c) t h:=fun m B S0 μ0 w0 S μ w a ds st f r=>
 wpIn_block (wpIn_mono (hw m B S0 μ0 w0 S μ w a ds st f r) fun e a' w' hp=>by
  obtain⟨v,x,t',h',S',μ',rfl,hq⟩:=hp;exact⟨v,x,t',h',S',μ',rfl,hq⟩)
theorem SatD.of_body{f:FuncId}{fn:Func}{args:List AVal}{R:AVal→Heap→Prop}(hf:C.P.funcs[f]? =some fn)(hb:fn.body=some c)(hname:(fn.name== "runtime.NumGoroutine")=false)
  (hok:args.length≤fn.ntmps)(hw:DJ C fn.ntmps (fun r _ h'=>R r h') c (env0 args) h):SatD C f args h R:=by
 intro B S μ w vs fit rl;have hcall:(callFunc f vs.toArray).run C.P w=.ok (.enter f vs.toArray) w:=by
  have hne:fn.name≠ "runtime.NumGoroutine" :=by simpa using hname
  simp[callFunc,hf,hne,hb]
 refine⟨f,vs.toArray,w,hcall,calls_of_wp hf hb ?_⟩;refine wp_mono (wpIn_wide.1 (hw 0 B S μ w S μ w _ [] (Step.refl _ _ _ _) fit (eQ rl hok))) fun e a' w' hp=>?_
 obtain⟨v,r,t',h',S',μ',rfl,hq,st,f',re,rr⟩:=hp;exact⟨re.2.1,v,rfl,r,h',S',μ',hq,st,f',rr⟩
end
end Go.Av
namespace Go.Av
open Go Go.Proofs Go.RowKit
attribute [local irreducible] WP WPl WPix Sat
namespace Qy
mutual
def dep:Qy→Int→Int
 | .mk _ _ _ ks,a=>if a>64 then a else depL ks a a
def depL:List Qy→Int→Int→Int
 | [],_,m=>m
 |k::ks,a,m=>depL ks a (if k.dep (a+1)>m then k.dep (a+1)else m)
end
mutual
def nod:Qy→Int
 | .mk _ _ _ ks=>nodL ks 1
def nodL:List Qy→Int→Int
 | [],m=>m
 |k::ks,m=>nodL ks (m+k.nod)
end
mutual
theorem nod_in:∀(q:Qy),1≤q.nod∧q.nod≤q.sz
 | .mk _ _ s ks=>by
  rw[nod,sz];have:=nodL_in ks 1;omega
theorem nodL_in:∀(ks:List Qy) (m:Int),m≤nodL ks m∧nodL ks m≤m+szL ks
 | [],m=>by simp[nodL,szL]
 |k::ks,m=>by
  rw[nodL,szL];have h1:=nod_in k;have h2:=nodL_in ks (m+k.nod);omega
end
end Qy
variable (G:Nat→Option (List AVal))
theorem vG:∀(q:Qy) (a:Int) (h:Heap),1≤a→a≤65→q.mx≤9223372036854775807→Sat (CT G) 81 [q.av,.int .i64 a] h (fun r h'=>r=.int .i64 (q.dep a)∧h'=h):=by
 refine Qy.ind fun op num s ks ih=>?_
 intro a h h1 h2 hz;obtain⟨hsl,hkl,hkm⟩:=Qy.mx_mk hz;have hml:(ks.map Qy.av).length=ks.length:=L8 ..;rw[Qy.av_eq,Qy.dep];by_cases ha:a>64
 ·rw[M0 ha];have g0:decide (a>64)=true:=by simp[ha]
  have F:=g0;refine sb [.tmp 4] Tryz.func81 ?_;intro Q hQ;refine wk F ?_;refine ee hQ F ?_;exact L7 (.int _ _) ⟨rfl,rfl⟩
 ·rw[L5 ha];have g0:decide (a>64)=false:=by simp[ha]
  have wa:IntKind.i64.wrap (a+1)=a+1:=by rw[Z0];omega
  have F:=F3 g0 wa hml;refine sb [.tmp 4] Tryz.func81 ?_;intro Q hQ;refine wk F ?_;refine lm (fun nL tL hL=>∃(k:Nat) (m:Int),ks.length-k=nL∧h++[.row 25 4 0 [.agg [.int .i64 op,.int .i64 num,.str s,.sl 4 (ks.map Qy.av)]]]=hL∧tL 6=.int .i64 k∧tL 5=.int .i64 m∧k≤ks.length∧Qy.depL ks a a=Qy.depL (ks.drop k) a m) ((fun(k:Nat) (m:Int)=>(ks.length-k:Nat)) (0) (a)) ?_ ?_
  ·refine M2 ⟨0,a,rfl,aB,?_,?_,by omega,rfl⟩;all_goals try exact zZz F
  rintro _ s2 h' ⟨k,m,rfl,rfl,e6,e5,hk,hm⟩ K2 hK2;simp only[af,ao,Nat.reduceEqDiff, ↓reduceIte]at e6 e5;have F:=F3 F e6 e5;refine wk F ?_;refine cq F (fun c1=>?_) (fun c1=>?_)<;>(try exact c1.elim)<;>(refine wk F ?_)
  ·have c2:k<ks.length:=(by omega);obtain⟨y,hy,hym⟩:=ac c2;have hc:=ih y hym (a+1) (h++[.row 25 4 0 [.agg [.int .i64 op,.int .i64 num,.str s,.sl 4 (ks.map Qy.av)]]]) (by omega) (by omega) (hkm y hym);rw[aF hy,Qy.depL]at hm;generalize y.dep (a+1)=e at hm hc;obtain⟨yo,yn,ys,yl⟩:=y;rw[Qy.av_eq]at hc;have F:=F3 F hy c2;(try refine sq F ?_);refine wk F ?_;refine kq F (hc) ?_;refine cq F (fun c3=>?_) (fun c3=>?_)<;>(try exact c3.elim)<;>(refine wk F ?_)
   ·rw[M0 (by omega)]at hm;refine hK2 _ _ _ (M2 ⟨k+1,e,rfl,aB,?_,?_,by omega,hm⟩) (by omega);all_goals try exact zZz F
   ·rw[L5 (by omega)]at hm;refine hK2 _ _ _ (M2 ⟨k+1,m,rfl,aB,?_,?_,by omega,hm⟩) (by omega);all_goals try exact zZz F
  ·rw[aI c1,Qy.depL]at hm;refine ee hQ F ?_;exact L7 (.int _ _) ⟨by rw[hm],rfl⟩
end Go.Av
namespace Go.Av
open Go Go.Proofs Go.RowKit
attribute [local irreducible] WP WPl WPix Sat
variable (G:Nat→Option (List AVal))
theorem vH:∀(q:Qy) (h:Heap),q.sz≤1048576→Sat (CT G) 41 [q.av] h (fun r h'=>r=.int .i64 q.nod∧h'=h):=by
 refine Qy.ind fun op num s ks ih=>?_
 intro h hz;have hkl:=Qy.szL_len ks;have hkm:∀k∈ks,k.sz≤Qy.szL ks:=fun k hk=>Qy.szL_mem hk
 have hnt:=Qy.nodL_in ks 1;rw[Qy.sz]at hz;have hml:(ks.map Qy.av).length=ks.length:=L8 ..;rw[Qy.av_eq,Qy.nod];have F:=hml;refine sb [.tmp 2] Tryz.func41 ?_;intro Q hQ;refine wk F ?_;refine lm (fun nL tL hL=>∃(k:Nat) (m:Int),ks.length-k=nL∧h++[.row 25 4 0 [.agg [.int .i64 op,.int .i64 num,.str s,.sl 4 (ks.map Qy.av)]]]=hL∧tL 4=.int .i64 k∧tL 3=.int .i64 m∧k≤ks.length∧1≤m∧Qy.nodL ks 1=Qy.nodL (ks.drop k) m) ((fun(k:Nat) (m:Int)=>(ks.length-k:Nat)) (0) (1)) ?_ ?_
 ·refine M2 ⟨0,1,rfl,aB,?_,?_,by omega,by omega,rfl⟩;all_goals try exact zZz F
 rintro _ s2 h' ⟨k,m,rfl,rfl,e4,e3,hk,h1,hm⟩ K2 hK2;simp only[af,ao,Nat.reduceEqDiff, ↓reduceIte]at e4 e3;have F:=F3 F e4 e3;refine wk F ?_;refine cq F (fun c1=>?_) (fun c1=>?_)<;>(try exact c1.elim)<;>(refine wk F ?_)
 ·have c2:k<ks.length:=by omega
  obtain⟨y,hy,hym⟩:=ac c2;have hc:=ih y hym (h++[.row 25 4 0 [.agg [.int .i64 op,.int .i64 num,.str s,.sl 4 (ks.map Qy.av)]]]) (by have:=hkm y hym;omega);rw[aF hy,Qy.nodL]at hm;have hb:=Qy.nodL_in (ks.drop (k+1)) (m+y.nod);have hy1:=Qy.nod_in y;generalize y.nod=e at hm hc hb hy1;obtain⟨yo,yn,ys,yl⟩:=y;rw[Qy.av_eq]at hc;have wm:IntKind.i64.wrap (m+e)=m+e:=by rw[Z0];omega
  have F:=F4 F hy c2 wm;try refine sq F ?_
  refine wk F ?_;refine kq F (hc) ?_;refine hK2 _ _ _ (M2 ⟨k+1,m+e,rfl,aB,?_,?_,by omega,by omega,hm⟩) (by omega);all_goals try exact zZz F
 ·rw[aI c1,Qy.nodL]at hm;refine ee hQ F ?_;exact L7 (.int _ _) ⟨by rw[hm],rfl⟩
theorem vI:∀(q:Qy) (a:Int) (h:Heap),1≤a→a≤65→q.mx≤9223372036854775807→Sat (CT G) 114 [q.av,.int .i64 a] h (fun r h'=>r=.int .i64 (q.dep a)∧h'=h):=by
 refine Qy.ind fun op num s ks ih=>?_
 intro a h h1 h2 hz;obtain⟨hsl,hkl,hkm⟩:=Qy.mx_mk hz;have hml:(ks.map Qy.av).length=ks.length:=L8 ..;rw[Qy.av_eq,Qy.dep];by_cases ha:a>64
 ·rw[M0 ha];have g0:decide (a>64)=true:=by simp[ha]
  have F:=g0;refine sb [.tmp 4] Tryz.func114 ?_;intro Q hQ;refine wk F ?_;refine ee hQ F ?_;exact L7 (.int _ _) ⟨rfl,rfl⟩
 ·rw[L5 ha];have g0:decide (a>64)=false:=by simp[ha]
  have wa:IntKind.i64.wrap (a+1)=a+1:=by rw[Z0];omega
  have F:=F3 g0 wa hml;refine sb [.tmp 4] Tryz.func114 ?_;intro Q hQ;refine wk F ?_;refine lm (fun nL tL hL=>∃(k:Nat) (m:Int) (j:Heap),ks.length-k=nL∧h++(.row 25 4 0 [.agg [.int .i64 op,.int .i64 num,.str s,.sl 4 (ks.map Qy.av)]]::j)=hL∧tL 15=.int .i64 k∧tL 5=.int .i64 m∧k≤ks.length∧Qy.depL ks a a=Qy.depL (ks.drop k) a m) ((fun(k:Nat) (m:Int) (j:Heap)=>(ks.length-k:Nat)) (0) (a) ([])) ?_ ?_
  ·refine M2 ⟨0,a,[],rfl,aB,?_,?_,by omega,rfl⟩;all_goals try exact zZz F
  rintro _ s2 h' ⟨k,m,j,rfl,rfl,e15,e5,hk,hm⟩ K2 hK2;simp only[af,ao,Nat.reduceEqDiff, ↓reduceIte]at e15 e5;have F:=F3 F e15 e5;refine wk F ?_;refine cq F (fun c1=>?_) (fun c1=>?_)<;>(try exact c1.elim)<;>(refine wk F ?_)
  ·have c2:k<ks.length:=(by omega);obtain⟨y,hy,hym⟩:=ac c2;have hc:=fun h=>ih y hym (a+1) h (by omega) (by omega) (hkm y hym)
   rw[aF hy,Qy.depL]at hm;generalize y.dep (a+1)=e at hm hc;obtain⟨yo,yn,ys,yl⟩:=y;rw[Qy.av_eq]at hc;by_cases hem:e>m
   ·have d0:decide (e>m)=true:=(by simp;omega);rw[M0 (by omega)]at hm;have F:=F5 F hy c2 d0 @aw;(try refine sq F ?_);refine wk F ?_;refine kq F (hc _) ?_;refine hK2 _ _ _ (M2 ⟨k+1,e,j++[Blk.row 25 4 0 [.agg [.int .i64 yo,.int .i64 yn,.str ys,.sl 4 (yl.map Qy.av)]]],rfl,by simp,?_,?_,by omega,hm⟩) (by omega);all_goals try exact zZz F
   ·have d0:decide (e>m)=false:=(by simp;omega);rw[L5 (by omega)]at hm;have F:=F5 F hy c2 d0 @aw;(try refine sq F ?_);refine wk F ?_;refine kq F (hc _) ?_;refine hK2 _ _ _ (M2 ⟨k+1,m,j++[Blk.row 25 4 0 [.agg [.int .i64 yo,.int .i64 yn,.str ys,.sl 4 (yl.map Qy.av)]]],rfl,by simp,?_,?_,by omega,hm⟩) (by omega);all_goals try exact zZz F
  ·rw[aI c1,Qy.depL]at hm;refine ee hQ F ?_;exact L7 (.int _ _) ⟨by rw[hm],rfl⟩
theorem vJ:∀(q:Qy) (h:Heap),q.sz≤1048576→Sat (CT G) 65 [q.av] h (fun r h'=>r=.int .i64 q.nod∧h'=h):=by
 refine Qy.ind fun op num s ks ih=>?_
 intro h hz;have hkl:=Qy.szL_len ks;have hkm:∀k∈ks,k.sz≤Qy.szL ks:=fun k hk=>Qy.szL_mem hk
 have hnt:=Qy.nodL_in ks 1;rw[Qy.sz]at hz;have hml:(ks.map Qy.av).length=ks.length:=L8 ..;rw[Qy.av_eq,Qy.nod];have F:=hml;refine sb [.tmp 2] Tryz.func65 ?_;intro Q hQ;refine wk F ?_;refine lm (fun nL tL hL=>∃(k:Nat) (m:Int) (j:Heap),ks.length-k=nL∧h++(.row 25 4 0 [.agg [.int .i64 op,.int .i64 num,.str s,.sl 4 (ks.map Qy.av)]]::j)=hL∧tL 9=.int .i64 k∧tL 3=.int .i64 m∧k≤ks.length∧1≤m∧Qy.nodL ks 1=Qy.nodL (ks.drop k) m) ((fun(k:Nat) (m:Int) (j:Heap)=>(ks.length-k:Nat)) (0) (1) ([])) ?_ ?_
 ·refine M2 ⟨0,1,[],rfl,aB,?_,?_,by omega,by omega,rfl⟩;all_goals try exact zZz F
 rintro _ s2 h' ⟨k,m,j,rfl,rfl,e9,e3,hk,h1,hm⟩ K2 hK2;simp only[af,ao,Nat.reduceEqDiff, ↓reduceIte]at e9 e3;have F:=F3 F e9 e3;refine wk F ?_;refine cq F (fun c1=>?_) (fun c1=>?_)<;>(try exact c1.elim)<;>(refine wk F ?_)
 ·have c2:k<ks.length:=by omega
  obtain⟨y,hy,hym⟩:=ac c2;have hc:=fun h=>ih y hym h (by have:=hkm y hym;omega)
  rw[aF hy,Qy.nodL]at hm;have hb:=Qy.nodL_in (ks.drop (k+1)) (m+y.nod);have hy1:=Qy.nod_in y;generalize y.nod=e at hm hc hb hy1;obtain⟨yo,yn,ys,yl⟩:=y;rw[Qy.av_eq]at hc;have wm:IntKind.i64.wrap (m+e)=m+e:=by rw[Z0];omega
  have F:=F5 F hy c2 wm @aw;try refine sq F ?_
  refine wk F ?_;refine kq F (hc _) ?_;refine hK2 _ _ _ (M2 ⟨k+1,m+e,j++[Blk.row 25 4 0 [.agg [.int .i64 yo,.int .i64 yn,.str ys,.sl 4 (yl.map Qy.av)]]],rfl,by simp,?_,?_,by omega,by omega,hm⟩) (by omega);all_goals try exact zZz F
 ·rw[aI c1,Qy.nodL]at hm;refine ee hQ F ?_;exact L7 (.int _ _) ⟨by rw[hm],rfl⟩
end Go.Av
namespace Go.Av
open Go Go.Proofs Go.RowKit
attribute [local irreducible] WP WPl WPix Sat
namespace Qy
def num:Qy→Int| .mk _ n _ _=>n
def op:Qy→Int| .mk o _ _ _=>o
def txt:Qy→Bs| .mk _ _ s _=>s
def kds:Qy→List Qy| .mk _ _ _ ks=>ks
mutual
def all(pl:Qy→Bool):Qy→Bool
 | .mk op num s ks=>allL pl ks&&pl (.mk op num s ks)
def allL(pl:Qy→Bool):List Qy→Bool
 | []=>true
 |k::ks=>k.all pl&&allL pl ks
end
theorem allL_eq(pl:Qy→Bool):∀ks:List Qy,allL pl ks=ks.all (all pl)
 | []=>by simp[allL]
 |k::ks=>by rw[allL,allL_eq pl ks];rfl
end Qy
variable (G:Nat→Option (List AVal))
theorem tB:∀(q:Qy) (d n:Int) (h:Heap),0≤d→d≤70→0≤n→n≤300→q.mx≤9223372036854775807→Sat (CT G) 26 [q.av,.int .i64 d,.int .i64 n] h (fun r h'=>r=.int .i64 (q.left d n)∧h'=h):=by
 refine Qy.ind fun op num s ks ih=>?_
 intro d n h d1 d2 n1 n2 hz;obtain⟨hsl,hkl,hkm⟩:=Qy.mx_mk hz;have hml:(ks.map Qy.av).length=ks.length:=L8 ..;rw[Qy.av_eq,Qy.left];have q1:((s.length:Int)).tdiv 20=(s.length:Int)/20:=Int.tdiv_eq_ediv_of_nonneg (by omega);have q2:IntKind.i64.wrap ((s.length:Int)/20)=(s.length:Int)/20:=by rw[Z0];omega
 have q3:IntKind.i64.wrap (n-1)=n-1:=by rw[Z0];omega
 have q4:IntKind.i64.wrap (n-1-(s.length:Int)/20)=n-1-(s.length:Int)/20:=by rw[Z0];omega
 have q5:IntKind.i64.wrap (d+1)=d+1:=by rw[Z0];omega
 generalize hn0:n-1-(s.length:Int)/20=n0 at q4;have hn3:n0≤300:=by omega
 have F:=F7 hml q1 q2 q3 q4 q5 hn0;refine sb [.tmp 6] Tryz.func26 ?_;intro Q hQ;refine wk F ?_;refine lm (fun nL tL hL=>∃(k:Nat) (m:Int),ks.length-k=nL∧h++[.row 25 4 0 [.agg [.int .i64 op,.int .i64 num,.str s,.sl 4 (ks.map Qy.av)]]]=hL∧tL 7=.int .i64 k∧tL 2=.int .i64 m∧k≤ks.length∧m≤300∧Qy.leftL ks d n0=Qy.leftL (ks.drop k) d m) ((fun(k:Nat) (m:Int)=>(ks.length-k:Nat)) (0) (n0)) ?_ ?_
 ·refine M2 ⟨0,n0,rfl,aB,?_,?_,by omega,hn3,rfl⟩;all_goals try exact zZz F
 rintro _ s2 h' ⟨k,m,rfl,rfl,e7,e2,hk,hm2,hm⟩ K2 hK2;simp only[af,ao,Nat.reduceEqDiff, ↓reduceIte]at e7 e2;have F:=F3 F e7 e2;by_cases c1:k<ks.length
 ·have b1:decide (k<ks.length)=true:=by simp[c1]
  obtain⟨y,hy,hym⟩:=ac c1;rw[aF hy,Qy.leftL]at hm;by_cases c2:m>0∧d<70
  ·have b2:decide (m>0)=true:=(by simp;omega);have b3:decide (d<70)=true:=(by simp;omega);have hc:=ih y hym (d+1) m (h++[.row 25 4 0 [.agg [.int .i64 op,.int .i64 num,.str s,.sl 4 (ks.map Qy.av)]]]) (by omega) (by omega) (by omega) hm2 (hkm y hym);rw[M0 c2]at hm;have hle:=(Qy.left_le y (d+1) m).1;generalize y.left (d+1) m=e at hm hc hle;obtain⟨yo,yn,ys,yl⟩:=y;rw[Qy.av_eq]at hc;have dt:∀i:Decidable True, @decide True i=true:=fun i=>by simp
   have F:=F6 F b2 b3 hy c1 dt;refine wk F ?_;refine kq F (hc) ?_;refine hK2 _ _ _ (M2 ⟨k+1,e,rfl,aB,?_,?_,by omega,by omega,hm⟩) (by omega);all_goals try exact zZz F
  ·rw[L5 c2]at hm;by_cases c3:m>0
   ·have b2:decide (m>0)=true:=(by simp;omega);have b3:decide (d<70)=false:=(by simp;omega);have F:=F4 F b1 b2 b3;refine wk F ?_;refine ee hQ F ?_;exact L7 (.int _ _) ⟨by rw[hm],rfl⟩
   ·have b2:decide (m>0)=false:=(by simp;omega);have F:=F3 F b1 b2;refine wk F ?_;refine ee hQ F ?_;exact L7 (.int _ _) ⟨by rw[hm],rfl⟩
 ·have b1:decide (k<ks.length)=false:=by simp[c1]
  rw[aI (by omega),Qy.leftL]at hm;have F:=F2 F b1;refine wk F ?_;refine ee hQ F ?_;exact L7 (.int _ _) ⟨by rw[hm],rfl⟩
theorem qJ(q:Qy)(h:Heap)(hz:q.mx≤9223372036854775807):Sat (CT G) 8 [q.av] h (fun r h'=>r=.bool (decide (q.left 0 300≤0))∧h'=h):=by
 have hc:=fun h=>tB G q 0 300 h (by omega) (by omega) (by omega) (by omega) hz
 generalize q.left 0 300=e at*;obtain⟨yo,yn,ys,yl⟩:=q;rw[Qy.av_eq]at*;refine sb [.tmp 2] Tryz.func8 ?_;intro Q hQ;refine wk trivial ?_;refine kq trivial (hc _) ?_;refine ee hQ trivial ?_;exact L7 (.bool _) ⟨rfl,rfl⟩
theorem qK(q:Qy)(h:Heap)(hz:q.mx≤9223372036854775807):Sat (CT G) 40 [q.av] h (fun r h'=>r=.int .i64 (q.dep 1)∧h'=h):=by
 have hc:=fun h=>vG G q 1 h (by omega) (by omega) hz
 generalize q.dep 1=e at*;obtain⟨yo,yn,ys,yl⟩:=q;rw[Qy.av_eq]at*;refine sb [.tmp 2] Tryz.func40 ?_;intro Q hQ;refine wk trivial ?_;refine kq trivial (hc _) ?_;refine ee hQ trivial ?_;exact L7 (.int _ _) ⟨rfl,rfl⟩
theorem qL(q:Qy)(h:Heap)(hz:q.mx≤9223372036854775807):Sat (CT G) 64 [q.av] h (fun r h'=>r=.int .i64 (q.dep 1)∧h'=h):=by
 have hc:=fun h=>vI G q 1 h (by omega) (by omega) hz
 generalize q.dep 1=e at*;obtain⟨yo,yn,ys,yl⟩:=q;rw[Qy.av_eq]at*;refine sb [.tmp 2] Tryz.func64 ?_;intro Q hQ;refine wk trivial ?_;refine kq trivial (hc _) ?_;refine ee hQ trivial ?_;exact L7 (.int _ _) ⟨rfl,rfl⟩
namespace Qy
theorem eE:∀(ks:List Qy) (a m:Int),m≤depL ks a m
 | [],a,m=>by rw[depL];omega
 |k::ks,a,m=>by
  rw[depL];split
  ·have:=eE ks a (k.dep (a+1));omega
  ·exact eE ks a m
mutual
theorem pd:∀(q:Qy) (a n:Int),1≤a→q.dep a≤12→0<q.left (a-1) n→(q.sz:Int)≤20*(n-q.left (a-1) n)
 | .mk op num s ks,a,n,h1,hd,hl=>by
  rw[left]at hl ⊢;rw[dep]at hd;rw[sz];have ha:¬a>64:=fun h=>by rw[M0 h]at hd;omega
  rw[L5 ha]at hd;have:=mU ks a a (n-1-s.length/20) h1 (Int.le_refl _) hd hl;omega
theorem mU:∀(ks:List Qy) (a m n:Int),1≤a→a≤m→depL ks a m≤12→0<leftL ks (a-1) n→(szL ks:Int)≤20*(n-leftL ks (a-1) n)
 | [],a,m,n,h1,h2,hd,hl=>by rw[leftL,szL];omega
 |k::ks,a,m,n,h1,h2,hd,hl=>by
  rw[depL]at hd;rw[leftL]at hl ⊢;rw[szL];have e1:a-1+1=a+1-1:=by omega
  rw[e1]at hl ⊢;split at hl
  ·rename_i hc;rw[M0 hc];have h3:=(jg ks (a-1) (k.left (a+1-1) n)).1;have hd2:k.dep (a+1)≤12∧∃m',a≤m'∧depL ks a m'≤12:=by
    split at hd
    ·exact⟨by have:=eE ks a (k.dep (a+1));omega,_,by omega,hd⟩
    ·exact⟨by have:=eE ks a m;omega,_,h2,hd⟩
   obtain⟨h4,m',h5,h6⟩:=hd2;have k1:=pd k (a+1) n (by omega) h4 (by omega);have k2:=mU ks a m' _ h1 h5 h6 hl;omega
  ·rename_i hc;have:m≤12:=by
    split at hd
    ·have:=eE ks a (k.dep (a+1));omega
    ·have:=eE ks a m;omega
   omega
end
theorem small{q:Qy}(h:¬q.left 0 300≤0)(hd:q.dep 1≤12):q.sz≤6000:=by
 have:=pd q 1 300 (by omega) hd (by simpa using h);simp only[Int.sub_self]at this;omega
end Qy
end Go.Av
namespace Go.Av
open Go Go.Proofs Go.RowKit
attribute [local irreducible] WP WPl WPix Sat
variable (G:Nat→Option (List AVal))
def bytA(b:UInt8):AVal:=.int .u8 b.toNat
def bldR(a:AVal)(q v:Nat)(s:Bs):Blk:=.row 249 2 0 [.agg [a,.hs q v 0 s.length true]]
def bufR(v:Nat)(s:Bs):Blk:=.row 5 1 v (s.map bytA)
def bldA(a:AVal)(p:Nat):Prop:=a=.nil (.pointer none)∨a=.hp p 0 0 0
theorem gr(s:Bs):bytesA (s.map bytA)=some s:=by
 induction s with
 |nil=>rfl
 |cons b s ih=>
  have hb:(UInt8.ofNat (b.toNat:Int).toNat)=b:=by simp
  simp only[N9,bytA,bytesA,hb,if_true];show(bytesA (s.map bytA)).map _=_;rw[ih];rfl
@[go_sem] theorem Ca(a:AVal)(q v:Nat)(s:Bs)(l:Heap):getRow (bldR a q v s::l) 0 0=some (249,2,[.agg [a,.hs q v 0 s.length true]]):=rfl
theorem bz(v:Nat)(s:Bs)(l:Heap):getRow (bufR v s::l) 0 v=some (5,1,s.map bytA):=by simp[getRow,bufR]
theorem qN:ptrConv Tryz.prog 247 267 249 2=true:=by kernel_rfl
theorem mW:ptrConv Tryz.prog 267 247 249 2=true:=by kernel_rfl
theorem zu:ptrT Tryz.prog 247=true:=by kernel_rfl
attribute [go_sem] qN mW
theorem xM(n p q v:Nat)(s:Bs)(hp:p<n)(hq:q<n):CloB n (bldR (.hp p 0 0 0) q v s):=by
 intro r hr;simp only[X3]at hr;subst hr;refine .agg _ fun c hc=>?_
 simp only[M6,V6,or_false]at hc;rcases hc with rfl|rfl
 ·exact .hp _ _ _ _ hp
 ·exact .hs _ _ _ _ _ hq
theorem kT(n v:Nat)(s:Bs):CloB n (bufR v s):=by
 intro r hr;obtain⟨b,_,rfl⟩:=M9.1 hr;exact .int _ _
theorem vN(h:Heap)(p:Nat)(hr:(getRow h p 0).isSome=true):abin Tryz.prog h .neq 247 (.hp p 0 0 0) (.hp p 0 0 0)=some (.bool false):=by
 simp[abin,hr,zu]
theorem tD(h:Heap)(p:Nat)(x:TypeId×Nat×List AVal)(hr:getRow h p 0=some x):abin Tryz.prog h .eql 247 (.hp p 0 0 0) (.nil (.pointer none))=some (.bool false):=by
 have hk:nilKind Tryz.prog 247 (.pointer none)=true:=by kernel_rfl
 simp[abin,hk,aeqNil,hr]
theorem xN(h:Heap):abin Tryz.prog h .eql 247 (.nil (.pointer none)) (.nil (.pointer none))=some (.bool true):=by
 have hk:nilKind Tryz.prog 247 (.pointer none)=true:=by kernel_rfl
 simp[abin,hk,aeqNil]
theorem Cb{h j:Heap}{x y x' y':Blk}{n:Nat}(hx:CloB n x')(hy:CloB n y'):∀(p:Nat) (k:Blk),(h++x'::y'::j)[p]? =some k→(h++x::y::j)[p]? =some k∨CloB n k:=by
 intro p k hk;rcases Z6 p h.length with h1|h1
 ·rw[M5 h1]at hk ⊢;exact .inl hk
 ·rw[N1 h1]at hk ⊢
  match p-h.length,hk with
  |0,hk=>simp at hk;subst hk;exact .inr hx
  |1,hk=>simp at hk;subst hk;exact .inr hy
  |i+2,hk=>exact .inl (by simpa using hk)
def bldH(h j:Heap)(a:AVal)(v:Nat)(s:Bs):Heap:=h++bldR a (h.length+1) v s::bufR v s::j
theorem cM(h j:Heap)(a:AVal)(v:Nat)(s:Bs):(bldH h j a v s).length=h.length+(2+j.length):=by simp[bldH];omega
theorem ic(h j:Heap)(a:AVal)(v v':Nat)(s s':Bs):∀(p:Nat) (k:Blk),(bldH h j (.hp h.length 0 0 0) v' s')[p]? =some k→(bldH h j a v s)[p]? =some k∨CloB (bldH h j a v s).length k:=by
 rw[cM];exact Cb (xM _ _ _ _ _ (by omega) (by omega)) (kT _ _ _)
theorem gN(a:AVal)(h j:Heap)(v:Nat)(s:Bs)(ha:bldA a h.length):
  Sat (CT G) 254 [.hp h.length 0 0 0] (bldH h j a v s) (fun r h'=>r=.tup []∧h'=bldH h j (.hp h.length 0 0 0) v s):=by
 have hK:=ic h j a v v s s;have hl:=(cM h j (.hp h.length 0 0 0) v s).trans (cM h j a v s).symm;have hfin:∀t',Fin (bldH h j a v s) (bldH h j (.hp h.length 0 0 0) v s) (fun r h'=>r=.tup []∧h'=bldH h j (.hp h.length 0 0 0) v s) t'∨True:=fun _=>.inr trivial
 have end_:Fin (bldH h j a v s) (bldH h j (.hp h.length 0 0 0) v s) (fun r h'=>r=.tup []∧h'=bldH h j (.hp h.length 0 0 0) v s) (.tup []):=Fin.keep0 hl hK (.tup _ (by simp)) ⟨rfl,rfl⟩;clear hfin hK hl;unfold bldH at*;refine sb [] Tryz.func254 ?_;intro Q hQ;refine bI trivial ?_;rcases ha with rfl|rfl
 ·rw[sN,xN];simp(disch:=first|omega| (simp only[go_sem, ↓reduceIte,Nat.reduceEqDiff];done)|fail) only[go_sem, ↓reduceIte,Int.reduceToNat,Int.reduceLE,Int.reduceLT,Int.reduceSub,Int.reduceAdd,Nat.reduceEqDiff,Nat.reduceAdd,Nat.reduceLeDiff,Nat.reduceLT,Nat.reduceMul,Nat.reduceSub];refine bI trivial ?_;refine⟨by simp,?_⟩;refine(mR G _ _).mono ?_;rintro r h' ⟨rfl,rfl⟩;simp(disch:=first|omega| (simp only[go_sem, ↓reduceIte,Nat.reduceEqDiff];done)|fail) only[go_sem, ↓reduceIte,Int.reduceToNat,Int.reduceLE,Int.reduceLT,Int.reduceSub,Int.reduceAdd,Nat.reduceEqDiff,Nat.reduceAdd,Nat.reduceLeDiff,Nat.reduceLT,Nat.reduceMul,Nat.reduceSub,List.cons_ne_nil];refine(hQ _ _ ?_).2;simp(disch:=first|omega| (simp only[go_sem, ↓reduceIte,Nat.reduceEqDiff];done)|fail) only[go_sem, ↓reduceIte,Int.reduceToNat,Int.reduceLE,Int.reduceLT,Int.reduceSub,Int.reduceAdd,Nat.reduceEqDiff,Nat.reduceAdd,Nat.reduceLeDiff,Nat.reduceLT,Nat.reduceMul,Nat.reduceSub];exact end_
 ·rw[uR,tD _ _ _ (by simp(disch:=first|omega| (simp only[go_sem, ↓reduceIte,Nat.reduceEqDiff];done)|fail) only[go_sem, ↓reduceIte,Int.reduceToNat,Int.reduceLE,Int.reduceLT,Int.reduceSub,Int.reduceAdd,Nat.reduceEqDiff,Nat.reduceAdd,Nat.reduceLeDiff,Nat.reduceLT,Nat.reduceMul,Nat.reduceSub];rfl)];simp(disch:=first|omega| (simp only[go_sem, ↓reduceIte,Nat.reduceEqDiff];done)|fail) only[go_sem, ↓reduceIte,Int.reduceToNat,Int.reduceLE,Int.reduceLT,Int.reduceSub,Int.reduceAdd,Nat.reduceEqDiff,Nat.reduceAdd,Nat.reduceLeDiff,Nat.reduceLT,Nat.reduceMul,Nat.reduceSub];refine bI trivial ?_;rw[vN _ _ (by exact fK trivial)];simp(disch:=first|omega| (simp only[go_sem, ↓reduceIte,Nat.reduceEqDiff];done)|fail) only[go_sem, ↓reduceIte,Int.reduceToNat,Int.reduceLE,Int.reduceLT,Int.reduceSub,Int.reduceAdd,Nat.reduceEqDiff,Nat.reduceAdd,Nat.reduceLeDiff,Nat.reduceLT,Nat.reduceMul,Nat.reduceSub];refine bI trivial ?_;refine(hQ _ _ ?_).2;simp(disch:=first|omega| (simp only[go_sem, ↓reduceIte,Nat.reduceEqDiff];done)|fail) only[go_sem, ↓reduceIte,Int.reduceToNat,Int.reduceLE,Int.reduceLT,Int.reduceSub,Int.reduceAdd,Nat.reduceEqDiff,Nat.reduceAdd,Nat.reduceLeDiff,Nat.reduceLT,Nat.reduceMul,Nat.reduceSub];exact end_
theorem du:byT Tryz.prog 5=some 1:=by kernel_rfl
theorem cV(h:Heap)(es:List AVal):elemsOf h 1 (.sl 1 es)=some es:=by simp[elemsOf]
theorem fP:(zroT Tryz.prog 5).map (fun z=>z.cells.length)=some 1:=by simp only[go_sem]
theorem me(a:AVal)(h j:Heap)(v:Nat)(s:Bs)(b:UInt8)(ha:bldA a h.length)(hs:s.length+1≤1073741824):
  Sat (CT G) 265 [.hp h.length 0 0 0,.int .u8 b.toNat] (bldH h j a v s) (fun r h'=>r=.nil .nilIface∧h'=bldH h j (.hp h.length 0 0 0) (v+1) (s++[b])):=by
 have end_:Fin (bldH h j a v s) (bldH h j (.hp h.length 0 0 0) (v+1) (s++[b])) (fun r h'=>r=.nil .nilIface∧h'=bldH h j (.hp h.length 0 0 0) (v+1) (s++[b])) (.nil .nilIface):=
  Fin.keep0 ((cM ..).trans (cM ..).symm) (ic _ _ _ _ _ _ _) (.nil _) ⟨rfl,rfl⟩
 refine sb [.tmp 4] Tryz.func265 ?_;intro Q hQ;refine bI trivial ?_;refine(gN G a h j v s ha).mono ?_;rintro r h' ⟨rfl,rfl⟩;unfold bldH at*;try refine sT trivial ?_
 refine bI trivial ?_;refine bJ (.inl rfl) (by exact fK trivial) (by exact fK trivial) du fP (by omega) (cV _ _) (by simp(disch:=first|omega| (simp only[go_sem, ↓reduceIte,Nat.reduceEqDiff];done)|fail) only[go_sem, ↓reduceIte,Int.reduceToNat,Int.reduceLE,Int.reduceLT,Int.reduceSub,Int.reduceAdd,Nat.reduceEqDiff,Nat.reduceAdd,Nat.reduceLeDiff,Nat.reduceLT,Nat.reduceMul,Nat.reduceSub,bz];rfl) (by simp) ?_ ?_
 ·simp[maxLen];omega
 simp(disch:=first|omega| (simp only[go_sem, ↓reduceIte,Nat.reduceEqDiff];done)|fail) only[go_sem, ↓reduceIte,Int.reduceToNat,Int.reduceLE,Int.reduceLT,Int.reduceSub,Int.reduceAdd,Nat.reduceEqDiff,Nat.reduceAdd,Nat.reduceLeDiff,Nat.reduceLT,Nat.reduceMul,Nat.reduceSub];refine bI trivial ?_;refine iR hQ trivial ?_;simp only[bldR,bufR,N3,Q9,M8,O7,N9,S6,bytA,R1]at end_ ⊢;exact end_
theorem xO(a:AVal)(h j:Heap)(v:Nat)(s:Bs):Sat (CT G) 263 [.hp h.length 0 0 0] (bldH h j a v s) (fun r h'=>r=.int .i64 s.length∧h'=bldH h j a v s):=by
 have end_:Fin (bldH h j a v s) (bldH h j a v s) (fun r h'=>r=.int .i64 s.length∧h'=bldH h j a v s) (.int .i64 s.length):=P2 (.int _ _) ⟨rfl,rfl⟩;unfold bldH at*;have F:= @bz;refine sb [.tmp 2] Tryz.func263 ?_;intro Q hQ;refine bI F ?_;refine bI F ?_;refine iR hQ F ?_;exact end_
theorem zw:bptr Tryz.prog 261 5=true:=by kernel_rfl
theorem jS(a:AVal)(h j:Heap)(v:Nat)(s:Bs):Sat (CT G) 244 [.hp h.length 0 0 0] (bldH h j a v s) (fun r h'=>r=.str s∧∃b,h'=h++bldR a (h.length+1) v s::b::j):=by
 unfold bldH;have F:= @bz;refine sb [.tmp 2] Tryz.func244 ?_;intro Q hQ;refine bI F ?_;have fin:∀b,Fin (h++bldR a (h.length+1) v s::bufR v s::j) (h++bldR a (h.length+1) v s::b::j) (fun r h'=>r=.str s∧∃b,h'=h++bldR a (h.length+1) v s::b::j) (.str s)∨¬(b=bufR v s∨b=.dead):=fun b=>by
  by_cases hb:b=bufR v s∨b=.dead
  ·refine .inl (Fin.keep0 (by simp) (fun p k hk=>?_) (.str _) ⟨rfl,b,rfl⟩);rcases Z6 p h.length with h1|h1
   ·rw[M5 h1]at hk ⊢;exact .inl hk
   ·rw[N1 h1]at hk ⊢
    match p-h.length,hk with
    |0,hk=>exact .inl (by simpa using hk)
    |1,hk=>
     simp at hk;subst hk;rcases hb with rfl|rfl
     ·exact .inl (by simp)
     ·exact .inr trivial
    |i+2,hk=>exact .inl (by simpa using hk)
  ·exact .inr hb
 rcases Nat.eq_zero_or_pos s.length with h0|h0
 ·have hs:s=[]:=S8.1 h0;subst hs;simp(disch:=first|omega| (simp only[go_sem, ↓reduceIte,Nat.reduceEqDiff];done)|fail) only[go_sem, ↓reduceIte,Int.reduceToNat,Int.reduceLE,Int.reduceLT,Int.reduceSub,Int.reduceAdd,Nat.reduceEqDiff,Nat.reduceAdd,Nat.reduceLeDiff,Nat.reduceLT,Nat.reduceMul,Nat.reduceSub,F,O7,Nat.lt_irrefl,Int.natCast_zero];refine bI F ?_;refine iR hQ F ?_;rcases fin (bufR v [])with f|f
  ·exact f
  ·exact absurd (.inl rfl) f
 ·simp(disch:=first|omega| (simp only[go_sem, ↓reduceIte,Nat.reduceEqDiff];done)|fail) only[go_sem, ↓reduceIte,Int.reduceToNat,Int.reduceLE,Int.reduceLT,Int.reduceSub,Int.reduceAdd,Nat.reduceEqDiff,Nat.reduceAdd,Nat.reduceLeDiff,Nat.reduceLT,Nat.reduceMul,Nat.reduceSub,F,h0];refine uS h0 (by simp(disch:=first|omega| (simp only[go_sem, ↓reduceIte,Nat.reduceEqDiff];done)|fail) only[go_sem, ↓reduceIte,Int.reduceToNat,Int.reduceLE,Int.reduceLT,Int.reduceSub,Int.reduceAdd,Nat.reduceEqDiff,Nat.reduceAdd,Nat.reduceLeDiff,Nat.reduceLT,Nat.reduceMul,Nat.reduceSub,F];rfl) zw (by simp) (by rw[N0 (by simp)];exact gr s) ?_;try refine sT F ?_
  refine bI F ?_;refine iR hQ F ?_;rcases fin .dead with f|f
  ·exact f
  ·exact absurd (.inr rfl) f
def enc(r:Int):Bs:=(Utf8.encode r).data.toList
def Rune(r:Int):Prop:=0≤r∧(r<55296∨57343<r∧r≤1114111)
theorem Rune.valid{r:Int}(h:Rune r):Utf8.valid r=true:=by
 unfold Utf8.valid;obtain⟨h0,h1⟩:=h;simp;omega
theorem bv(n:Nat)(h:n<256):bytA (UInt8.ofNat n)=.int .u8 n:=by
 simp[bytA];omega
theorem zx{r:Int}(h0:0≤r)(h1:r<128):(enc r).map bytA=[.int .u8 r]:=by
 have hv:=Rune.valid (r:=r) ⟨h0,by omega⟩;unfold enc Utf8.encode;simp only[hv,if_true];rw[M0 (by omega)];simp only[N9,S6];rw[bv _ (by omega)];simp only[zb3,AVal.int.injEq,and_true,true_and];omega
theorem zy{r:Int}(h0:128≤r)(h1:r<2048):(enc r).map bytA=[.int .u8 (192+r/64),.int .u8 (128+r%64)]:=by
 have hv:=Rune.valid (r:=r) ⟨by omega,by omega⟩;unfold enc Utf8.encode;simp only[hv,if_true];rw[L5 (by omega),M0 (by omega)];simp only[N9,S6];rw[bv _ (by omega),bv _ (by omega)];simp only[zb3,AVal.int.injEq,and_true,true_and];omega
theorem vO{r:Int}(h:Rune r)(h0:2048≤r)(h1:r<65536):(enc r).map bytA=[.int .u8 (224+r/4096),.int .u8 (128+r/64%64),.int .u8 (128+r%64)]:=by
 have hv:=h.valid;unfold enc Utf8.encode;simp only[hv,if_true];rw[L5 (by omega),L5 (by omega),M0 (by omega)];simp only[N9,S6];rw[bv _ (by omega),bv _ (by omega),bv _ (by omega)];simp only[zb3,AVal.int.injEq,and_true,true_and];omega
theorem zz{r:Int}(h0:65536≤r)(h1:r≤1114111):(enc r).map bytA=[.int .u8 (240+r/262144),.int .u8 (128+r/4096%64),.int .u8 (128+r/64%64),.int .u8 (128+r%64)]:=by
 have hv:=Rune.valid (r:=r) ⟨by omega,by omega⟩;unfold enc Utf8.encode;simp only[hv,if_true];rw[L5 (by omega),L5 (by omega),L5 (by omega)];simp only[N9,S6];rw[bv _ (by omega),bv _ (by omega),bv _ (by omega),bv _ (by omega)];simp only[zb3,AVal.int.injEq,and_true,true_and];omega
theorem eF(r:Int):1≤(enc r).length∧(enc r).length≤4:=by
 unfold enc Utf8.encode;simp only[];generalize (if Utf8.valid r=true then r.toNat else Utf8.runeError)=c;by_cases h1:c<128
 ·rw[M0 h1];exact⟨by simp,by simp⟩
 ·rw[L5 h1];by_cases h2:c<2048
  ·rw[M0 h2];exact⟨by simp,by simp⟩
  ·rw[L5 h2];by_cases h3:c<65536
   ·rw[M0 h3];exact⟨by simp,by simp⟩
   ·rw[L5 h3];exact⟨by simp,by simp⟩
theorem kU(P:Program)(h:Heap)(T:TypeId)(a b:Int)(k:IntKind)(hb:0≤b)(hb2:b<32):abin P h .shr T (.int .i32 a) (.int k b)=some (.int .i32 (a/2^b.toNat)):=by
 simp only[abin];rw[L5 (by omega)];have:min b.toNat (IntKind.bits .i32)=b.toNat:=by simp[IntKind.bits];omega
 rw[this,Int.fdiv_eq_ediv_of_nonneg _ (by exact Int.le_of_lt (Int.pow_pos (by omega)))]
theorem wrap_u8(x:Int):IntKind.wrap .u8 x=x%256:=IntKind.wrap_u8 x
theorem wrap_u32(x:Int)(h0:0≤x)(h1:x<4294967296):IntKind.wrap .u32 x=x:=by rw[IntKind.wrap_u32];omega
theorem iw(n m:Nat)(h:n+m<256)(hh:∀x:_root_.Fin 256,x.val≤m→(BitVec.ofInt 8 n|||BitVec.ofInt 8 (x.val:Int)).toNat=n+x.val)(x:Int)(h0:0≤x)(h1:x≤m):aint .or .u8 n x=some (.int .u8 (n+x)):=by
 have e:(BitVec.ofInt 8 n|||BitVec.ofInt 8 ((x.toNat:Nat):Int)).toNat=n+x.toNat:=hh ⟨x.toNat,by omega⟩ (by simp;omega);rw[show x=((x.toNat:Nat):Int)from by omega];show some (AVal.int .u8 (IntKind.wrap .u8 (BitVec.ofInt 8 n|||BitVec.ofInt 8 ((x.toNat:Nat):Int)).toNat))=_;rw[e,wrap_u8];congr 2;omega
theorem Cc(x:Int)(h0:0≤x)(h1:x≤31):aint .or .u8 192 x=some (.int .u8 (192+x)):=iw 192 31 (by omega) (by decide+kernel) x h0 h1
theorem Cd(x:Int)(h0:0≤x)(h1:x≤15):aint .or .u8 224 x=some (.int .u8 (224+x)):=iw 224 15 (by omega) (by decide+kernel) x h0 h1
theorem Ce(x:Int)(h0:0≤x)(h1:x≤7):aint .or .u8 240 x=some (.int .u8 (240+x)):=iw 240 7 (by omega) (by decide+kernel) x h0 h1
theorem Cf(x:Int)(h0:0≤x)(h1:x≤63):aint .or .u8 128 x=some (.int .u8 (128+x)):=iw 128 63 (by omega) (by decide+kernel) x h0 h1
theorem Cg(x:Int)(h0:0≤x)(h1:x<256):aint .and .u8 x 63=some (.int .u8 (x%64)):=by
 have hh:∀x:_root_.Fin 256,(BitVec.ofInt 8 (x.val:Int)&&&BitVec.ofInt 8 63).toNat=x.val%64:=by decide+kernel
 have e:(BitVec.ofInt 8 ((x.toNat:Nat):Int)&&&BitVec.ofInt 8 63).toNat=x.toNat%64:=hh ⟨x.toNat,by omega⟩;rw[show x=((x.toNat:Nat):Int)from by omega];show some (AVal.int .u8 (IntKind.wrap .u8 (BitVec.ofInt 8 ((x.toNat:Nat):Int)&&&BitVec.ofInt 8 63).toNat))=_;rw[e,wrap_u8];congr 2;omega
theorem qO(P:Program)(h:Heap)(T:TypeId)(x:Int)(h0:0≤x)(h1:x≤31):abin P h .or T (.int .u8 192) (.int .u8 x)=some (.int .u8 (192+x)):=by simpa only[abin,if_true]using Cc x h0 h1
theorem qP(P:Program)(h:Heap)(T:TypeId)(x:Int)(h0:0≤x)(h1:x≤15):abin P h .or T (.int .u8 224) (.int .u8 x)=some (.int .u8 (224+x)):=by simpa only[abin,if_true]using Cd x h0 h1
theorem qQ(P:Program)(h:Heap)(T:TypeId)(x:Int)(h0:0≤x)(h1:x≤7):abin P h .or T (.int .u8 240) (.int .u8 x)=some (.int .u8 (240+x)):=by simpa only[abin,if_true]using Ce x h0 h1
theorem qR(P:Program)(h:Heap)(T:TypeId)(x:Int)(h0:0≤x)(h1:x≤63):abin P h .or T (.int .u8 128) (.int .u8 x)=some (.int .u8 (128+x)):=by simpa only[abin,if_true]using Cf x h0 h1
theorem qS(P:Program)(h:Heap)(T:TypeId)(x:Int)(h0:0≤x)(h1:x<256):abin P h .and T (.int .u8 x) (.int .u8 63)=some (.int .u8 (x%64)):=by simpa only[abin,if_true]using Cg x h0 h1
theorem Gg(P:Program)(h:Heap)(T:TypeId)(a:Int):abin P h .shr T (.int .i32 a) (.int .u64 6)=some (.int .i32 (a/64)):=by rw[kU _ _ _ _ _ _ (by omega) (by omega)];rfl
theorem Ch(P:Program)(h:Heap)(T:TypeId)(a:Int):abin P h .shr T (.int .i32 a) (.int .u64 12)=some (.int .i32 (a/4096)):=by rw[kU _ _ _ _ _ _ (by omega) (by omega)];rfl
theorem Ci(P:Program)(h:Heap)(T:TypeId)(a:Int):abin P h .shr T (.int .i32 a) (.int .u64 18)=some (.int .i32 (a/262144)):=by rw[kU _ _ _ _ _ _ (by omega) (by omega)];rfl
theorem lF(k:IntKind)(n:Int):aconv Tryz.prog 21 5 (.int k n)=some (.int .u8 (n%256)):=by simp only[aconv,go_sem,wrap_u8]
theorem jT(k:IntKind)(n:Int)(h0:0≤n)(h1:n<4294967296):aconv Tryz.prog 21 198 (.int k n)=some (.int .u32 n):=by simp only[aconv,go_sem,wrap_u32 n h0 h1]
theorem fD(r:Int)(hr:Rune r)(h1:128≤r)(h j:Heap)(X:Blk)(v:Nat)(s:Bs)(hs:s.length≤1073741824):
  Sat (CT G) 267 [.hs (h.length+1) v 0 s.length true,.int .i32 r] (h++X::bufR v s::j)
   (fun x h'=>x=.hs (h.length+1) (v+1) 0 (s.length+(enc r).length) true∧h'=h++X::bufR (v+1) (s++enc r)::j):=by
 have end_:∀l,l=enc r→Fin (h++X::bufR v s::j) (h++X::bufR (v+1) (s++l)::j) (fun x h'=>x=.hs (h.length+1) (v+1) 0 (s.length+(enc r).length) true∧h'=h++X::bufR (v+1) (s++enc r)::j) (.hs (h.length+1) (v+1) 0 (s.length+l.length) true):=fun l hl=>by
  subst hl;refine Fin.keep0 (by simp) (fun p k hk=>?_) (.hs _ _ _ _ _ (by simp)) ⟨rfl,rfl⟩;rcases Z6 p h.length with h1|h1
  ·rw[M5 h1]at hk ⊢;exact .inl hk
  ·rw[N1 h1]at hk ⊢
   match p-h.length,hk with
   |0,hk=>exact .inl hk
   |1,hk=>simp at hk;subst hk;exact .inr (kT _ _ _)
   |i+2,hk=>exact .inl hk
 have F:=F2 (F9 @lF @jT @Gg @Ch @Ci @qO @qP @qQ @qR) (F3 @qS @wrap_u8 @wrap_u32);obtain⟨hr0,hr1⟩:=hr;refine sb [.tmp 4] Tryz.func267 ?_;intro Q hQ;refine bI F ?_;refine oX F (fun hc=>?_) (fun hc=>?_)<;>(try exact hc.elim)<;>(refine bI F ?_)
 ·refine bJ (.inl rfl) (by exact fK F) (by exact fK F) du fP (by omega) (cV _ _) (by simp(disch:=first|omega| (simp only[go_sem, ↓reduceIte,Nat.reduceEqDiff];done)|fail) only[go_sem, ↓reduceIte,Int.reduceToNat,Int.reduceLE,Int.reduceLT,Int.reduceSub,Int.reduceAdd,Nat.reduceEqDiff,Nat.reduceAdd,Nat.reduceLeDiff,Nat.reduceLT,Nat.reduceMul,Nat.reduceSub,F,bz];rfl) (by simp) ?_ ?_
  ·simp[maxLen];omega
  simp(disch:=first|omega| (simp only[go_sem, ↓reduceIte,Nat.reduceEqDiff];done)|fail) only[go_sem, ↓reduceIte,Int.reduceToNat,Int.reduceLE,Int.reduceLT,Int.reduceSub,Int.reduceAdd,Nat.reduceEqDiff,Nat.reduceAdd,Nat.reduceLeDiff,Nat.reduceLT,Nat.reduceMul,Nat.reduceSub,F];refine bI F ?_;refine iR hQ F ?_;have e:=zy h1 (by omega);have le:(enc r).length=2:=by simpa using P0 List.length e
  have:=end_ _ rfl;simp only[bufR,Q9,e,le]at this;have m0:r/64%256=r/64:=by omega
  have m1:r%256%64=r%64:=by omega
  simp only[bufR,Q9,e,le,m0,m1,M8,O7,R1,Nat.reduceAdd];exact this
 ·refine oX F (fun hc=>?_) (fun hc=>?_)<;>(try exact hc.elim)<;>(refine bI F ?_)
  ·refine oX F (fun hc=>?_) (fun hc=>?_)<;>(try exact hc.elim)<;>(refine bI F ?_)
   ·refine bJ (.inl rfl) (by exact fK F) (by exact fK F) du fP (by omega) (cV _ _) (by simp(disch:=first|omega| (simp only[go_sem, ↓reduceIte,Nat.reduceEqDiff];done)|fail) only[go_sem, ↓reduceIte,Int.reduceToNat,Int.reduceLE,Int.reduceLT,Int.reduceSub,Int.reduceAdd,Nat.reduceEqDiff,Nat.reduceAdd,Nat.reduceLeDiff,Nat.reduceLT,Nat.reduceMul,Nat.reduceSub,F,bz];rfl) (by simp) ?_ ?_
    ·simp[maxLen];omega
    simp(disch:=first|omega| (simp only[go_sem, ↓reduceIte,Nat.reduceEqDiff];done)|fail) only[go_sem, ↓reduceIte,Int.reduceToNat,Int.reduceLE,Int.reduceLT,Int.reduceSub,Int.reduceAdd,Nat.reduceEqDiff,Nat.reduceAdd,Nat.reduceLeDiff,Nat.reduceLT,Nat.reduceMul,Nat.reduceSub,F];refine bI F ?_;refine iR hQ F ?_;have e:=vO ⟨hr0,hr1⟩ (by omega) (by omega);have le:(enc r).length=3:=(by simpa using P0 List.length e);have:=end_ _ rfl;simp only[bufR,Q9,e,le]at this;have m0:r/4096%256=r/4096:=(by omega);have m1:r/64%256%64=r/64%64:=(by omega);have m2:r%256%64=r%64:=(by omega);simp only[bufR,Q9,e,le,m0,m1,m2,M8,O7,R1,Nat.reduceAdd];exact this
   ·exfalso;omega
  ·(first|refine Dv F (fun hg=>?_) (fun hg=>?_)|refine pqo F (fun hg=>?_) (fun hg=>?_))<;>(try exact hg.elim)<;>(try refine sT F ?_)<;>(refine bI F ?_)
   ·refine oX F (fun hc=>?_) (fun hc=>?_)<;>(try exact hc.elim)<;>(refine bI F ?_)
    ·refine bJ (.inl rfl) (by exact fK F) (by exact fK F) du fP (by omega) (cV _ _) (by simp(disch:=first|omega| (simp only[go_sem, ↓reduceIte,Nat.reduceEqDiff];done)|fail) only[go_sem, ↓reduceIte,Int.reduceToNat,Int.reduceLE,Int.reduceLT,Int.reduceSub,Int.reduceAdd,Nat.reduceEqDiff,Nat.reduceAdd,Nat.reduceLeDiff,Nat.reduceLT,Nat.reduceMul,Nat.reduceSub,F,bz];rfl) (by simp) ?_ ?_
     ·simp[maxLen];omega
     simp(disch:=first|omega| (simp only[go_sem, ↓reduceIte,Nat.reduceEqDiff];done)|fail) only[go_sem, ↓reduceIte,Int.reduceToNat,Int.reduceLE,Int.reduceLT,Int.reduceSub,Int.reduceAdd,Nat.reduceEqDiff,Nat.reduceAdd,Nat.reduceLeDiff,Nat.reduceLT,Nat.reduceMul,Nat.reduceSub,F];refine bI F ?_;refine iR hQ F ?_;have e:=vO ⟨hr0,hr1⟩ (by omega) (by omega);have le:(enc r).length=3:=(by simpa using P0 List.length e);have:=end_ _ rfl;simp only[bufR,Q9,e,le]at this;have m0:r/4096%256=r/4096:=(by omega);have m1:r/64%256%64=r/64%64:=(by omega);have m2:r%256%64=r%64:=(by omega);simp only[bufR,Q9,e,le,m0,m1,m2,M8,O7,R1,Nat.reduceAdd];exact this
    ·(first|refine Dv F (fun hg=>?_) (fun hg=>?_)|refine pqo F (fun hg=>?_) (fun hg=>?_))<;>(try exact hg.elim)<;>(try refine sT F ?_)<;>(refine bI F ?_)
     ·refine oX F (fun hc=>?_) (fun hc=>?_)<;>(try exact hc.elim)<;>(refine bI F ?_)
      ·refine bJ (.inl rfl) (by exact fK F) (by exact fK F) du fP (by omega) (cV _ _) (by simp(disch:=first|omega| (simp only[go_sem, ↓reduceIte,Nat.reduceEqDiff];done)|fail) only[go_sem, ↓reduceIte,Int.reduceToNat,Int.reduceLE,Int.reduceLT,Int.reduceSub,Int.reduceAdd,Nat.reduceEqDiff,Nat.reduceAdd,Nat.reduceLeDiff,Nat.reduceLT,Nat.reduceMul,Nat.reduceSub,F,bz];rfl) (by simp) ?_ ?_
       ·simp[maxLen];omega
       simp(disch:=first|omega| (simp only[go_sem, ↓reduceIte,Nat.reduceEqDiff];done)|fail) only[go_sem, ↓reduceIte,Int.reduceToNat,Int.reduceLE,Int.reduceLT,Int.reduceSub,Int.reduceAdd,Nat.reduceEqDiff,Nat.reduceAdd,Nat.reduceLeDiff,Nat.reduceLT,Nat.reduceMul,Nat.reduceSub,F];refine bI F ?_;refine iR hQ F ?_;have e:=zz (r:=r) (by omega) (by omega);have le:(enc r).length=4:=(by simpa using P0 List.length e);have:=end_ _ rfl;simp only[bufR,Q9,e,le]at this;have m0:r/262144%256=r/262144:=(by omega);have m1:r/4096%256%64=r/4096%64:=(by omega);have m2:r/64%256%64=r/64%64:=(by omega);have m3:r%256%64=r%64:=(by omega);simp only[bufR,Q9,e,le,m0,m1,m2,m3,M8,O7,R1,Nat.reduceAdd];exact this
      ·exfalso;omega
     ·exfalso;omega
   ·exfalso;omega
theorem kV(r:Int)(hr:Rune r)(h j:Heap)(X:Blk)(v:Nat)(s:Bs)(hs:s.length≤1073741824):
  Sat (CT G) 255 [.hs (h.length+1) v 0 s.length true,.int .i32 r] (h++X::bufR v s::j)
   (fun x h'=>x=.hs (h.length+1) (v+1) 0 (s.length+(enc r).length) true∧h'=h++X::bufR (v+1) (s++enc r)::j):=by
 have end_:∀l,l=enc r→Fin (h++X::bufR v s::j) (h++X::bufR (v+1) (s++l)::j) (fun x h'=>x=.hs (h.length+1) (v+1) 0 (s.length+(enc r).length) true∧h'=h++X::bufR (v+1) (s++enc r)::j) (.hs (h.length+1) (v+1) 0 (s.length+l.length) true):=fun l hl=>by
  subst hl;refine Fin.keep0 (by simp) (fun p k hk=>?_) (.hs _ _ _ _ _ (by simp)) ⟨rfl,rfl⟩;rcases Z6 p h.length with h1|h1
  ·rw[M5 h1]at hk ⊢;exact .inl hk
  ·rw[N1 h1]at hk ⊢
   match p-h.length,hk with
   |0,hk=>exact .inl hk
   |1,hk=>simp at hk;subst hk;exact .inr (kT _ _ _)
   |i+2,hk=>exact .inl hk
 have hr':=hr;obtain⟨hr0,hr1⟩:=hr;have F:=F2 @lF @jT;refine sb [.tmp 4] Tryz.func255 ?_;intro Q hQ;refine bI F ?_;refine oX F (fun hc=>?_) (fun hc=>?_)<;>(try exact hc.elim)<;>(refine bI F ?_)
 ·refine bJ (.inl rfl) (by exact fK F) (by exact fK F) du fP (by omega) (cV _ _) (by simp(disch:=first|omega| (simp only[go_sem, ↓reduceIte,Nat.reduceEqDiff];done)|fail) only[go_sem, ↓reduceIte,Int.reduceToNat,Int.reduceLE,Int.reduceLT,Int.reduceSub,Int.reduceAdd,Nat.reduceEqDiff,Nat.reduceAdd,Nat.reduceLeDiff,Nat.reduceLT,Nat.reduceMul,Nat.reduceSub,F,bz];rfl) (by simp) ?_ ?_
  ·simp[maxLen];omega
  simp(disch:=first|omega| (simp only[go_sem, ↓reduceIte,Nat.reduceEqDiff];done)|fail) only[go_sem, ↓reduceIte,Int.reduceToNat,Int.reduceLE,Int.reduceLT,Int.reduceSub,Int.reduceAdd,Nat.reduceEqDiff,Nat.reduceAdd,Nat.reduceLeDiff,Nat.reduceLT,Nat.reduceMul,Nat.reduceSub,F];refine bI F ?_;refine iR hQ F ?_;have e:=zx (r:=r) (by omega) (by omega);have le:(enc r).length=1:=by simpa using P0 List.length e
  have:=end_ _ rfl;simp only[bufR,Q9,e,le]at this;have m0:r%256=r:=by omega
  simp only[bufR,Q9,e,le,m0,M8,O7,R1,Nat.reduceAdd];exact this
 ·refine Dy F (fD G r hr' (by omega) h j X v s hs) ?_;refine iR hQ F ?_;exact end_ _ rfl
theorem dY(a:AVal)(r:Int)(hr:Rune r)(h j:Heap)(v:Nat)(s:Bs)(ha:bldA a h.length)(hs:s.length≤1073741824):
  Sat (CT G) 242 [.hp h.length 0 0 0,.int .i32 r] (bldH h j a v s) (fun x h'=>x=.tup [.int .i64 (enc r).length,.nil .nilIface]∧h'=bldH h j (.hp h.length 0 0 0) (v+1) (s++enc r)):=by
 have end_:Fin (bldH h j a v s) (bldH h j (.hp h.length 0 0 0) (v+1) (s++enc r)) (fun x h'=>x=.tup [.int .i64 (enc r).length,.nil .nilIface]∧h'=bldH h j (.hp h.length 0 0 0) (v+1) (s++enc r)) (.tup [.int .i64 (enc r).length,.nil .nilIface]):=
  Fin.keep0 ((cM ..).trans (cM ..).symm) (ic _ _ _ _ _ _ _) (.tup _ (by intro c hc;simp at hc;rcases hc with rfl|rfl;exact .int _ _;exact .nil _)) ⟨rfl,rfl⟩
 have F:= @bz;refine sb [.tmp 4,.tmp 5] Tryz.func242 ?_;intro Q hQ;refine bI F ?_;refine(gN G a h j v s ha).mono ?_;rintro x h' ⟨rfl,rfl⟩;unfold bldH at*;try refine sT F ?_
 refine bI F ?_;refine Dy F (kV G r hr h j _ v s hs) ?_;refine(hQ _ _ ?_).1;simp(disch:=first|omega| (simp only[go_sem, ↓reduceIte,Nat.reduceEqDiff];done)|fail) only[go_sem, ↓reduceIte,Int.reduceToNat,Int.reduceLE,Int.reduceLT,Int.reduceSub,Int.reduceAdd,Nat.reduceEqDiff,Nat.reduceAdd,Nat.reduceLeDiff,Nat.reduceLT,Nat.reduceMul,Nat.reduceSub,F];have hl:=eF r;simp only[bldR,bufR,N3,Q9]at end_ ⊢;rw[show IntKind.wrap .i64 (((s.length+(enc r).length:Nat):Int)-(s.length:Nat))=((enc r).length:Nat)from by rw[lk (by omega) (by omega)];omega];exact end_
end Go.Av
namespace Go.Av
open Go Go.Proofs Go.RowKit
def dec(s:Bs)(k:Nat):Nat×Nat:=Utf8.decode ⟨s.toArray⟩ k
theorem ft(s:Bs)(k:Nat):dec s k=Lib.decodeN (s.length-k) (s.getD k 0).toNat (s.getD (k+1) 0).toNat (s.getD (k+2) 0).toNat (s.getD (k+3) 0).toNat:=by
 unfold dec;rw[Lib.decode_N]
theorem bf(n:Nat)(h:n<256):(UInt8.ofNat n).toNat=n:=by simp;omega
def fix(r:Int):Nat:=if Utf8.valid r=true then r.toNat else Utf8.runeError
theorem zA(r:Int):fix r≤1114111:=by
 unfold fix Utf8.valid Utf8.runeError;split
 ·rename_i h;simp at h;omega
 ·omega
theorem xP(r:Int):fix r<55296∨57344≤fix r:=by
 unfold fix Utf8.valid Utf8.runeError;split
 ·rename_i h;simp at h;omega
 ·omega
theorem pf(r:Int):enc r=let c:=fix r
  if c<0x80 then [UInt8.ofNat c]
  else if c<0x800 then [UInt8.ofNat (0xC0+c/64),UInt8.ofNat (0x80+c%64)]
  else if c<0x10000 then [UInt8.ofNat (0xE0+c/4096),UInt8.ofNat (0x80+c/64%64),UInt8.ofNat (0x80+c%64)]
  else [UInt8.ofNat (0xF0+c/262144),UInt8.ofNat (0x80+c/4096%64),UInt8.ofNat (0x80+c/64%64),UInt8.ofNat (0x80+c%64)]:=by
 unfold enc Utf8.encode fix;simp only[];split
 ·split
  ·rfl
  ·split
   ·rfl
   ·split<;>rfl
 ·rfl
theorem br(s:Bs)(k:Nat)(h:k<s.length):1≤(dec s k).2∧k+(dec s k).2≤s.length:=by
 rw[ft];refine⟨Lib.decodeN_ge1 _ _ _ _ _,?_⟩;unfold Lib.decodeN;repeat (first|split| (simp only[];omega))
theorem lG(s:Bs)(k:Nat)(b:UInt8)(h:s[k]? =some b)(ha:b.toNat<128):dec s k=(b.toNat,1):=by
 rw[ft,U1,h];exact Lib.decodeN_ascii _ _ _ _ _ ha
theorem vP(s:Bs)(k:Nat)(b:UInt8)(h:s[k]? =some b)(ha:128≤b.toNat):
  128≤(dec s k).1∧((dec s k).1<55296∨57343<(dec s k).1∧(dec s k).1≤1114111)∧∀i,i<(dec s k).2→∀c,s[k+i]? =some c→128≤c.toNat:=by
 have hb:s.getD k 0=b:=by rw[U1,h];rfl
 have at_:∀i c,s[k+i]? =some c→s.getD (k+i) 0=c:=fun i c hc=>by rw[U1,hc];rfl
 have l0:∀i,(s.getD i 0).toNat<256:=fun i=>(s.getD i 0).toNat_lt
 have e1:=l0 (k+1);have e2:=l0 (k+2);have e3:=l0 (k+3);have e0:=b.toNat_lt
 rw[ft,hb];generalize h1:(s.getD (k+1) 0).toNat=b1 at*;generalize h2:(s.getD (k+2) 0).toNat=b2 at*;generalize h3:(s.getD (k+3) 0).toNat=b3 at*;have key:∀i c,s[k+i]? =some c→(i=0→c.toNat=b.toNat)∧(i=1→c.toNat=b1)∧(i=2→c.toNat=b2)∧(i=3→c.toNat=b3):=fun i c hc=>by
  have:=at_ i c hc;refine⟨fun e=>?_,fun e=>?_,fun e=>?_,fun e=>?_⟩<;>subst e
  ·rw[← this];simp only[W3];rw[hb]
  ·rw[← h1,this]
  ·rw[← h2,this]
  ·rw[← h3,this]
 generalize s.length-k=n;have fin:∀x m:Nat,(128≤x∧(x<55296∨57343<x∧x≤1114111))→(∀i,i<m→(i=0∧128≤b.toNat)∨(i=1∧128≤b1)∨(i=2∧128≤b2)∨(i=3∧128≤b3))→
   128≤(x,m).1∧((x,m).1<55296∨57343<(x,m).1∧(x,m).1≤1114111)∧∀i,i<(x,m).2→∀c,s[k+i]? =some c→128≤c.toNat:=fun x m hx hm=>
  ⟨hx.1,hx.2,fun i hi c hc=>by
   obtain⟨k0,k1,k2,k3⟩:=key i c hc;rcases hm i hi with⟨e,h⟩| ⟨e,h⟩| ⟨e,h⟩| ⟨e,h⟩
   ·rw[k0 e];exact h
   ·rw[k1 e];exact h
   ·rw[k2 e];exact h
   ·rw[k3 e];exact h⟩
 unfold Lib.decodeN;rw[L5 (by omega)];split
 ·split
  ·exact fin _ _ (by omega) (fun i hi=>by omega)
  ·exact fin _ _ (by omega) (fun i hi=>by omega)
 ·split
  ·split
   ·exact fin _ _ (by omega) (fun i hi=>by omega)
   ·exact fin _ _ (by omega) (fun i hi=>by omega)
  ·split
   ·split
    ·exact fin _ _ (by omega) (fun i hi=>by omega)
    ·exact fin _ _ (by omega) (fun i hi=>by omega)
   ·exact fin _ _ (by omega) (fun i hi=>by omega)
end Go.Av
namespace Go.Av
open Go Go.Proofs Go.RowKit
attribute [local irreducible] WP WPl WPix Sat
variable (G:Nat→Option (List AVal))
theorem ci{x:Int}(h0: -2147483648≤x)(h1:x≤2147483647):IntKind.i32.wrap x=x:=by
 simp only[IntKind.wrap,IntKind.bits,IntKind.signed];simp;omega
theorem pg(h j:Heap)(s:Bs)(q:Nat):(h++Blk.iter s q::j)[h.length]? =some (.iter s q):=by simp
end Go.Av
namespace Go.Av
open Go Go.Proofs Go.RowKit
theorem cj(s:Bs)(k:Nat):dec s k=dec (s.drop k) 0:=by
 rw[ft,ft];simp only[U1,P9,Q6,W3,R1,Nat.sub_zero,Nat.add_assoc]
theorem ji(s:Bs)(k:Nat)(h:k<s.length):Rune (dec s k).1:=by
 have hb:=L9 h;by_cases ha:s[k].toNat<128
 ·rw[lG s k _ hb ha];exact⟨by simp,by simp;omega⟩
 ·obtain⟨h1,h2,_⟩:=vP s k _ hb (by omega);exact⟨by omega,by omega⟩
def runesN:Nat→Bs→List Int
 |0,_=>[]
 |f+1,s=>if s=[]then []else((dec s 0).1:Int)::runesN f (s.drop (dec s 0).2)
def runesF(s:Bs):List Int:=runesN s.length s
theorem oc:∀(f:Nat) (s:Bs),s.length≤f→runesN f s=runesN s.length s:=by
 intro f;induction f using Nat.strongRecOn with
 |ind f ih=>
  intro s hs;cases s with
  |nil=>cases f<;>rfl
  |cons b t=>
   obtain⟨f,rfl⟩:∃g,f=g+1:=⟨f-1,by simp at hs;omega⟩;have hd:=br (b::t) 0 (by simp);simp only[M8]at hs hd ⊢;rw[runesN,runesN,L5 (by simp),L5 (by simp)];have hl:((b::t).drop (dec (b::t) 0).2).length≤t.length:=(by simp only[Q6,M8];omega);rw[ih f (by omega) _ (by omega)];by_cases hf:t.length=f
   ·subst hf;rw[ih t.length (by omega) _ hl]
   ·rw[ih t.length (by omega) _ hl]
theorem eo:runesF []=[]:=rfl
theorem dI(s:Bs)(h:s≠ []):runesF s=((dec s 0).1:Int)::runesF (s.drop (dec s 0).2):=by
 have hl:0<s.length:=Y5.2 h;have hd:=br s 0 hl;unfold runesF;obtain⟨n,hn⟩:∃n,s.length=n+1:=⟨s.length-1,by omega⟩;rw[hn,runesN,L5 h,oc n _ (by simp only[Q6];omega)]
theorem fu(s:Bs)(k:Nat)(h:k<s.length):runesF (s.drop k)=((dec s k).1:Int)::runesF (s.drop (k+(dec s k).2)):=by
 rw[dI _ (by intro e;have:=P0 List.length e;simp at this;omega), ← cj,W6]
theorem ep(s:Bs)(k:Nat)(h:s.length≤k):runesF (s.drop k)=[]:=by
 rw[T9 h];rfl
theorem cB:∀(n:Nat) (s:Bs),s.length≤n→(runesF s).length≤s.length:=by
 intro n;induction n with
 |zero=>intro s h;have:s=[]:=S8.1 (by omega);subst this;simp[eo]
 |succ n ih=>
  intro s h;by_cases h0:s=[]
  ·subst h0;simp[eo]
  ·have hd:=br s 0 (Y5.2 h0);rw[dI s h0];have:=ih (s.drop (dec s 0).2) (by simp only[Q6];omega);simp only[Q6]at this;simp only[M8];omega
theorem dJ:∀(n:Nat) (s:Bs),s.length≤n→∀c∈runesF s,Rune c:=by
 intro n;induction n with
 |zero=>intro s h c hc;have:s=[]:=S8.1 (by omega);subst this;simp[eo]at hc
 |succ n ih=>
  intro s h c hc;by_cases h0:s=[]
  ·subst h0;simp[eo]at hc
  ·have hl:=Y5.2 h0;have hd:=br s 0 hl;rw[dI s h0]at hc;rcases M6.1 hc with rfl|hc
   ·exact ji s 0 hl
   ·exact ih _ (by simp only[Q6];omega) c hc
def blankR(c:Int):Bool:=decide (c=9∨c=10∨c=13∨c=32∨c=160∨c=8232∨c=8233∨c=12288)
def ctlR(c:Int):Bool:=decide (c<32∨(127≤c∧c≤159))
def clnR:List Int→List Int→Bool→List Int
 | [],o,_=>o
 |c::t,o,w=>if blankR c then clnR t o (decide (0<o.length))else if ctlR c then clnR t o w else clnR t (o++(if w then [32,c]else [c])) false
def cleanR(s:Bs):List Int:=clnR (runesF s) [] false
def encs(l:List Int):Bs:=l.flatMap enc
def cleanF(s:Bs):Bs:=encs (cleanR s)
theorem ix(r:Int):1≤(enc r).length:=by
 rw[pf];simp only[];repeat (first|split|simp)
theorem jk(l:List Int):(encs l).length≤4*l.length∧l.length≤(encs l).length:=by
 induction l with
 |nil=>simp[encs]
 |cons c t ih=>
  have h1:=eF c;have h2:=ix c;simp only[encs,W8,N3,M8]at ih ⊢;omega
theorem fw:∀(l o:List Int) (w:Bool),(∀c∈l,Rune c)→(∀c∈o,Rune c)→∀c∈clnR l o w,Rune c
 | [],o,w,_,h=>by simpa [clnR]using h
 |c::t,o,w,hl,ho=>by
  rw[clnR];have ht:∀x∈t,Rune x:=fun x hx=>hl x (by simp[hx])
  split
  ·exact fw t o _ ht ho
  ·split
   ·exact fw t o w ht ho
   ·refine fw t _ false ht ?_;intro x hx;rcases S5.1 hx with hx|hx
    ·exact ho x hx
    ·have h32:Rune 32:=⟨by decide,by decide⟩
     split at hx
     ·simp at hx;rcases hx with rfl|rfl
      ·exact h32
      ·exact hl _ (by simp)
     ·simp at hx;subst hx;exact hl _ (by simp)
def rightN:Nat→Bs→Bool
 |0,_=>true
 |f+1,s=>if s=[]then true else if (dec s 0).1=65533∧(dec s 0).2=1 then false else rightN f (s.drop (dec s 0).2)
def rightS(s:Bs):Bool:=rightN s.length s
theorem od:∀(f:Nat) (s:Bs),s.length≤f→rightN f s=rightN s.length s:=by
 intro f;induction f using Nat.strongRecOn with
 |ind f ih=>
  intro s hs;cases s with
  |nil=>cases f<;>rfl
  |cons b t=>
   obtain⟨f,rfl⟩:∃g,f=g+1:=⟨f-1,by simp at hs;omega⟩;have hd:=br (b::t) 0 (by simp);simp only[M8]at hs hd ⊢;rw[rightN,rightN,L5 (show ¬(b::t)=[] by simp),L5 (show ¬(b::t)=[] by simp)];have hl:((b::t).drop (dec (b::t) 0).2).length≤t.length:=(by simp only[Q6,M8];omega);rw[ih f (by omega) _ (by omega),ih t.length (by omega) _ hl]
theorem og(s:Bs)(h:s≠ []):rightS s=if (dec s 0).1=65533∧(dec s 0).2=1 then false else rightS (s.drop (dec s 0).2):=by
 have hl:0<s.length:=Y5.2 h;have hd:=br s 0 hl;unfold rightS;obtain⟨n,hn⟩:∃n,s.length=n+1:=⟨s.length-1,by omega⟩;rw[hn,rightN,L5 h,od n _ (by simp only[Q6];omega)]
theorem lH(s:Bs)(k:Nat)(h:k<s.length):rightS (s.drop k)=if (dec s k).1=65533∧(dec s k).2=1 then false else rightS (s.drop (k+(dec s k).2)):=by
 rw[og _ (by intro e;have:=P0 List.length e;simp at this;omega), ← cj,W6]
theorem oh(n b0 b1 b2 b3:Nat)(h1:b1<256)(h2:b2<256)(h0:b0<256)(h:(Lib.decodeN n b0 b1 b2 b3).1=65533):(Lib.decodeN n b0 b1 b2 b3).2=1↔¬(3≤n∧b0=239∧b1=191∧b2=189):=by
 unfold Lib.decodeN at*;by_cases c1:b0<128
 ·rw[M0 c1]at *;simp only[]at *;omega
 rw[L5 c1]at*;by_cases c2:(b0/32=6∧(1<n∧b1/64=2))
 ·rw[M0 c2]at*;by_cases c3:b0%32*64+b1%64≥128
  ·rw[M0 c3]at *;simp only[]at *;omega
  ·rw[L5 c3]at *;exact⟨fun _ hc=>by omega,fun _=>rfl⟩
 rw[L5 c2]at*;by_cases c4:b0/16=14∧(1<n∧b1/64=2)∧(2<n∧b2/64=2)
 ·rw[M0 c4]at*;by_cases c5:(b0%16*4096+b1%64*64+b2%64≥2048∧(b0%16*4096+b1%64*64+b2%64<55296∨(57344≤b0%16*4096+b1%64*64+b2%64∧b0%16*4096+b1%64*64+b2%64≤1114111)))
  ·rw[M0 c5]at *;simp only[]at *;omega
  ·rw[L5 c5]at *;exact⟨fun _ hc=>by omega,fun _=>rfl⟩
 rw[L5 c4]at*;by_cases c6:b0/8=30∧(1<n∧b1/64=2)∧(2<n∧b2/64=2)∧(3<n∧b3/64=2)
 ·rw[M0 c6]at*;by_cases c7:(b0%8*262144+b1%64*4096+b2%64*64+b3%64≥65536∧(b0%8*262144+b1%64*4096+b2%64*64+b3%64<55296∨(57344≤b0%8*262144+b1%64*4096+b2%64*64+b3%64∧b0%8*262144+b1%64*4096+b2%64*64+b3%64≤1114111)))
  ·rw[M0 c7]at *;simp only[]at *;omega
  ·rw[L5 c7]at *;exact⟨fun _ hc=>by omega,fun _=>rfl⟩
 ·rw[L5 c6]at *;exact⟨fun _ hc=>by omega,fun _=>rfl⟩
theorem Gh(u:Bs):Lib.hasPrefix u [239,191,189]=true↔(3≤u.length∧(u.getD 0 0).toNat=239∧(u.getD 1 0).toNat=191∧(u.getD 2 0).toNat=189):=by
 have key:∀(x:UInt8) (n:Nat),n<256→(x.toNat=n↔x=UInt8.ofNat n):=fun x n h=>by rw[← UInt8.toNat_inj,bf n h]
 match u with
 | []=>simp[Lib.hasPrefix]
 | [a]=>simp[Lib.hasPrefix]
 | [a,b]=>simp[Lib.hasPrefix]
 |a::b::c::t=>
  simp only[za0,zb7,M8];rw[key a 239 (by omega),key b 191 (by omega),key c 189 (by omega)];unfold Lib.hasPrefix;simp only[List.isPrefixOf,L6,beq_iff_eq];constructor
  ·rintro⟨rfl,rfl,rfl,_⟩;exact⟨by omega,rfl,rfl,rfl⟩
  ·rintro⟨_,rfl,rfl,rfl⟩;exact⟨rfl,rfl,rfl,trivial⟩
theorem vR(s:Bs)(k:Nat)(hd:(dec s k).1=65533):(dec s k).2=1↔Lib.hasPrefix (s.drop k) [239,191,189]=false:=by
 rw[cj]at*;generalize s.drop k=u at*;rw[← Bool.not_eq_true,Gh];rw[ft]at*;exact oh _ _ _ _ _ (UInt8.toNat_lt _) (UInt8.toNat_lt _) (UInt8.toNat_lt _) hd
theorem vS(G:Nat→Option (List AVal)):(CT G).P.follows .mixedOrders=true:=by kernel_rfl
theorem jl{C:Ctx}{t:Env}{h:Heap}{id:Nat}{l:List Oper}{Q:Exit→Env→Heap→Prop}(hok:preOkG false l.toArray l.length=true)(hm:C.P.follows .mixedOrders=true)
  (hh:WPp C l.toArray l t h fun t'=>Q .normal t' h):WP C (.region id l.toArray true) Q t h:=by
 have D:=fC hok;obtain⟨V,hv,hK⟩:=bQ _ _ hh;have htk:l.toArray.toList.take l.length=l:=by simp
 have main:∀n,WPix C l.toArray Q (Region.linearise .any l.toArray n) t h:=fun n=>by
  unfold Region.linearise;refine da D .any D.less (by simp) (V:=V) (t0:=t) (fun _=>True) (fun i o hi _=>by rw[htk]at hi ⊢;exact hv i o hi) (fun n=>?_) _ _ _ _ (by simp) ?_ (fun j oj hj hl=>?_) (fun j hj hl=>?_) (fun _ _ _=>trivial) (Ag.start _ _ _ _ fun j hj=>?_)
  ·rw[htk];have e1:l.toArray.size-l.length=0:=(by simp);rw[e1];exact Rest.nil hK .any n
  ·unfold left;have:(List.range l.toArray.size).filter (fun i=> !(Array.replicate l.toArray.size false).getD i true)=List.range l.toArray.size:=by
    rw[T8];intro i hi;have:=R9.1 hi;simp at this ⊢;simp[this]
   rw[this,Z8]
  ·have h8:=(O0.1 hj).1;simp at h8 hl;simp[h8]at hl
  ·simp at hj hl;simp[hj]at hl
  ·have:j<l.length:=by omega
   simp[this]
 show ∀tp,WPix C l.toArray Q (Region.schedule (C.P.follows .mixedOrders) l.toArray tp) t h;intro tp;unfold Region.schedule;rw[hm];simp only[Bool.true_or,if_true];exact main _
end Go.Av
