/- A function that defers a closure which recovers: it ends as told, whether what it calls panics or not. -/
import Derived.Test.YtmfhelaoeaifeaaGreatDoorCards
import Derived.Test.YtmfhelaoeaifeaaGreatDoorTie
import Derived.Lib.LaidTab
import Derived.Test.YtmfhelaoeaifeaaGreatDoorMlEb
import Derived.Test.YtmfhelaoeaifeaaGreatDoorMlNd
import Derived.Test.YtmfhelaoeaifeaaGreatDoorMlSc
import Derived.RangeFuncLeaves
import Derived.RangeFuncRecord
import Derived.Recover
set_option linter.unusedSimpArgs false
set_option linter.unusedVariables false
set_option linter.unusedSectionVars false
set_option linter.unnecessarySimpa false
set_option maxRecDepth 100000
set_option maxHeartbeats 16000000
namespace Go.Av
open Go.RowKit
inductive Tr where
 |lf
 |nd (l:Tr) (v:AVal) (r:Tr)
namespace Tr
def get:Tr→Nat→AVal
 | .lf,_=>undefA
 | .nd _ v _,0=>v
 | .nd l _ r,i+1=>match i%2 with
  |0=>l.get (i/2)
  |_=>r.get (i/2)
def set:Tr→Nat→AVal→Tr
 | .lf,_,_=>.lf
 | .nd l _ r,0,x=>.nd l x r
 | .nd l v r,i+1,x=>match i%2 with
  |0=>.nd (l.set (i/2) x) v r
  |_=>.nd l v (r.set (i/2) x)
def mk:Nat→Tr
 |0=>.lf
 |d+1=>.nd (mk d) undefA (mk d)
def Full:Nat→Tr→Prop
 |0,_=>True
 |k+1,.nd l _ r=>Full k l∧Full k r
 |_+1,.lf=>False
theorem full_mk:∀k,Full k (mk k)
 |0=>trivial
 |k+1=>⟨full_mk k,full_mk k⟩
theorem full_set:∀(k:Nat) (t:Tr) (i:Nat) (x:AVal),Full k t→Full k (t.set i x)
 |0,_,_,_,_=>trivial
 |k+1,.nd l v r,0,x,h=>h
 |k+1,.nd l v r,i+1,x,h=>by
  simp only[set]
  split
  ·exact⟨full_set k l _ x h.1,h.2⟩
  ·exact⟨h.1,full_set k r _ x h.2⟩
theorem get_mk:∀(k i:Nat),(mk k).get i=undefA
 |0,i=>rfl
 |k+1,0=>rfl
 |k+1,i+1=>by
  simp only[mk,get]
  split<;>exact get_mk k _
theorem get_set:∀(k:Nat) (t:Tr) (i j:Nat) (x:AVal),Full k t→i+1<2^k→(t.set i x).get j=if j=i then x else t.get j
 |0,t,i,j,x,_,h=>by simp at h
 |k+1,.nd l v r,0,0,x,_,_=>rfl
 |k+1,.nd l v r,0,j+1,x,_,_=>rfl
 |k+1,.nd l v r,i+1,0,x,_,_=>by simp only[set];split<;>rfl
 |k+1,.nd l v r,i+1,j+1,x,hf,h=>by
  have hp:2^(k+1)=2*2^k:=by rw[Nat.pow_succ,Nat.mul_comm]
  rw[hp]at h
  have hk:i/2+1<2^k:=by omega
  simp only[set]
  split
  ·rename_i hi
   simp only[get]
   split
   ·rename_i hj
    rw[get_set k l (i/2) (j/2) x hf.1 hk]
    by_cases e:j=i
    ·subst e;simp
    ·rw[if_neg (by omega),if_neg (by omega)]
   ·rename_i hj
    rw[if_neg (by intro e;have:j=i:=(by omega);subst this;exact hj hi)]
  ·rename_i hi
   simp only[get]
   split
   ·rename_i hj
    rw[if_neg (by intro e;have:j=i:=(by omega);subst this;exact hi hj)]
   ·rename_i hj
    have hi':i%2=1:=(Nat.mod_two_eq_zero_or_one i).resolve_left hi
    have hj':j%2=1:=(Nat.mod_two_eq_zero_or_one j).resolve_left hj
    rw[get_set k r (i/2) (j/2) x hf.2 hk]
    by_cases e:j=i
    ·subst e;simp
    ·rw[if_neg (by omega),if_neg (by omega)]
def beq:Tr→Tr→Bool
 | .lf,.lf=>true
 | .nd l v r,.nd l' v' r'=>beqA v v'&&(l.beq l'&&r.beq r')
 |_,_=>false
theorem beq_ok:∀(a b:Tr),beq a b=true→a=b
 | .lf,.lf,_=>rfl
 | .lf,.nd _ _ _,h=>by simp[beq]at h
 | .nd _ _ _,.lf,h=>by simp[beq]at h
 | .nd l v r,.nd l' v' r',h=>by
  simp only[beq,Bool.and_eq_true]at h
  rw[dH _ _ h.1,beq_ok l l' h.2.1,beq_ok r r' h.2.2]
end Tr
def envL(ts:Tr):Env:=ts.get
def putL(ts:Tr)(d:Option Nat)(v:AVal):Tr:=match d with|some d=>ts.set d v|none=>ts
def okDst(n:Nat)(o:Oper):Bool:=match o.dst with|some d=>decide (d<n)|none=>true
def kOf(n:Nat):Nat:=Nat.log2 (n+1)+1
def argsT:Tr→Nat→List AVal→Tr
 |t,_,[]=>t
 |t,i,x::l=>argsT (t.set i x) (i+1) l
theorem dh{k0:Nat}(ts:Tr)(d:Option Nat)(v:AVal)(h:Tr.Full k0 ts):Tr.Full k0 (putL ts d v):=by
 cases d
 ·exact h
 ·exact Tr.full_set _ _ _ _ h
theorem cM{k0 n:Nat}{ts:Tr}{d:Option Nat}{v:AVal}(hf:Tr.Full k0 ts)(hn:n+1<2^k0)(hd:∀i,d=some i→i<n):envL (putL ts d v)=put (envL ts) d v:=by
 cases d with
 |none=>rfl
 |some d=>
  have hlt:=hd d rfl
  funext i
  simp only[putL,put,envL,upd]
  exact Tr.get_set k0 ts d i v hf (by omega)
theorem j7{k0:Nat}:∀(l:List AVal) (t:Tr) (i:Nat),Tr.Full k0 t→Tr.Full k0 (argsT t i l)
 | [],_,_,h=>h
 |x::l,t,i,h=>j7 l _ _ (Tr.full_set _ _ _ _ h)
theorem kf{k0:Nat}:∀(l:List AVal) (t:Tr) (i j:Nat),Tr.Full k0 t→i+l.length+1<2^k0→(argsT t i l).get j=if i≤j∧j<i+l.length then l.getD (j-i) undefA else t.get j
 | [],t,i,j,_,_=>by rw[if_neg (by simp)];rfl
 |x::l,t,i,j,h,hn=>by
  simp only[List.length_cons]at hn ⊢
  rw[argsT,kf l _ _ _ (Tr.full_set _ _ _ _ h) (by omega),Tr.get_set k0 t i j x h (by omega)]
  by_cases h1:j=i
  ·subst h1
   rw[if_neg (by omega),if_pos rfl,if_pos (by omega)];simp
  ·by_cases h2:i+1≤j∧j<i+1+l.length
   ·rw[if_pos h2,if_pos (by omega)]
    have:j-i=(j-(i+1))+1:=by omega
    rw[this];simp
   ·rw[if_neg h2,if_neg h1,if_neg (by omega)]
section
variable (C:Ctx)
def callP(call:CallX)(g:FuncId)(args:List AVal)(h:Heap):Option AVal:=match call g args h with
 |some (r,h1)=>if begH h h1=true then frzX h1 h.length 20 r else none
 |none=>none
def heldX(call:CallX)(o:Op)(t:Env)(h:Heap):Option AVal:=match pureX C o t h with
 |some v=>some v
 |none=>match o with
  | .buildSlice T len parts=>match rowsX C T len (parts.toList.map (·.1)) (parts.toList.map fun q=>aev C.G t q.2) h with
   |some (.ez,_)=>some .ez
   |some (.hs _ _ _ _ _,_)=>match (elmT C.P T).bind (szOf C.P)with|some n=>some (.sl n (parts.toList.map fun q=>aev C.G t q.2))|none=>none
   |_=>none
  | .call c=>match c.callee with
   | .value f=>match aev C.G t f with
    | .fn (.func g) first captured=>callP call g (first++c.args.toList.map (aev C.G t)++captured) h
    |_=>none
   |_=>none
  |_=>none
def isHeldB:Op→Bool
 | .buildSlice _ _ _=>true
 | .move _| .assign _| .pick _ _ _| .load _ _| .nilCheck _| .binOp _ _ _ _ _| .unOp _ _ _| .convert _ _ _| .makeInterface _ _| .makeFunc _ _ _| .slice _ _ _ _ _
 | .fieldAddr _ _ _| .field _ _ _| .indexAddr _ _ _| .index _ _ _| .extract _ _| .build _ _=>true
 | .call c=>match c.callee with| .builtin .len=>true| .builtin .max=>true| .builtin .min=>true| .builtin .unsafeSliceData=>true| .value _=>true|_=>false
 |_=>false
def drawK(l:List Oper):List Nat:=match (List.range (l.length+1)).reverse.filter (fun k=>(l.take k).all (fun o=>isHeldB o.op)&&(preOk l.toArray k&&decide (k≤l.length)))with
 | []=>[]
 |m::rest=>(m::rest).filter fun k=>decide (m≤k+2)
theorem qJ{l:List Oper}{k:Nat}(h:k∈drawK l):((l.take k).all (fun o=>isHeldB o.op)&&(preOk l.toArray k&&decide (k≤l.length)))=true:=by
 unfold drawK at h
 split at h
 ·cases h
 ·rename_i m rest hq
  have h1:=(List.mem_filter.1 h).1
  rw[← hq]at h1
  exact(List.mem_filter.1 h1).2
def drawE(l:List Oper):Option (Nat×Oper):=match drawK l with
 |_::_=>let k:=(l.takeWhile fun o=>isHeldB o.op).length
  match l[k]? with
  |some oe=>if preOk l.toArray (k+1)=true then some (k,oe)else none
  |none=>none
 | []=>none
def operX(call:CallX)(ops:Array Oper)(o:Oper)(ts:Tr)(h:Heap):Option (Tr×Heap):=
 match o.guard with
 |none=>match opX C call o.op (envL ts) h with|some (v,h')=>some (putL ts o.dst v,h')|none=>none
 |some (j,want)=>match guardA ops (envL ts) j with
  |some b=>if b=some want then(match opX C call o.op (envL ts) h with|some (v,h')=>some (putL ts o.dst v,h')|none=>none)else some (putL ts o.dst undefA,h)
  |none=>none
def operPX(call:CallX)(ops:Array Oper)(o:Oper)(ts:Tr)(h:Heap):Option AVal:=
 match o.guard with
 |none=>heldX C call o.op (envL ts) h
 |some (j,want)=>match guardA ops (envL ts) j with
  |some b=>if b=some want then heldX C call o.op (envL ts) h else some undefA
  |none=>none
def lX(call:CallX)(ops:Array Oper):List Oper→Tr→Heap→Option (Tr×Heap)
 | [],ts,h=>some (ts,h)
 |o::rest,ts,h=>match operX C call ops o ts h with|some (ts',h')=>lX call ops rest ts' h'|none=>none
def sameTH(x y:Tr×Heap):Bool:=Tr.beq x.1 y.1&&(decide (x.2.length=y.2.length)&&begH x.2 y.2)
def dedup:List (Tr×Heap)→List (Tr×Heap)
 | []=>[]
 |x::l=>if l.any (sameTH x)=true then dedup l else x::dedup l
def bindO{α β:Type}(f:α→Option (List β)):List α→Option (List β)
 | []=>some []
 |x::l=>match f x with
  |some ys=>match bindO f l with|some zs=>some (ys++zs)|none=>none
  |none=>none
def sufX(call:CallX)(ops:Array Oper):Nat→Array Bool→Tr→Heap→Option (List (Tr×Heap))
 |0,_,ts,h=>some [(ts,h)]
 |f+1,L,ts,h=>if (Region.ready .text ops L).isEmpty=false∧(Region.ready .gc ops L).isEmpty=false then
   match bindO (fun i=>match ops[i]? with
    |some o=>match operX C call ops o ts h with|some (ts',h')=>sufX call ops f (L.setIfInBounds i true) ts' h'|none=>none
    |none=>none) (Region.ready .any ops L)with
   |some rs=>some rs
   |none=>none
  else none
def pX(call:CallX)(ops:Array Oper):List Oper→Tr→Heap→Option Tr
 | [],ts,_=>some ts
 |o::rest,ts,h=>match operPX C call ops o ts h with|some v=>pX call ops rest (putL ts o.dst v) h|none=>none
def pXt(call:CallX)(ops:Array Oper):List Oper→Tr→Heap→Option (List (Tr×AVal)×Tr)
 | [],ts,_=>some ([],ts)
 |o::rest,ts,h=>match operPX C call ops o ts h with
  |some v=>match pXt call ops rest (putL ts o.dst v) h with
   |some (l,ts')=>some ((ts,v)::l,ts')
   |none=>none
  |none=>none
def sameX(call:CallX)(ops:Array Oper)(cb:Nat→Bool)(h':Heap):Nat→List Oper→List (Tr×AVal)→Bool
 |_,[],[]=>true
 |i,o::rest,(ts,v)::l=>(cb i||(match operPX C call ops o ts h' with|some v'=>beqA v' v|none=>false))&&sameX call ops cb h' (i+1) rest l
 |_,_,_=>false
def drawX3(call:CallX)(l:List Oper)(ts:Tr)(h:Heap):Option (List (Tr×Heap)):=match drawE l with
 |some (k,oe)=>match pXt C call ⟨l⟩ (l.take k) ts h with
  |some (vs,ts1)=>match operX C call ⟨l⟩ oe ts1 h with
   |some (ts2,h')=>if sameX C call ⟨l⟩ (fun i=>((Region.before l.toArray).getD k 0).testBit i) h' 0 (l.take k) vs=true then
     sufX C call ⟨l⟩ (l.length-(k+1)) (listK l.length (k+1)) ts2 h' else none
   |none=>none
  |none=>none
 |none=>none
abbrev Outs:=List (Exit×Tr×Heap)
def iterX(body:Tr→Heap→Option Outs):Nat→Tr→Heap→Option Outs
 |0,_,_=>none
 |n+1,ts,h=>match body ts h with
  |some rs=>bindO (fun r=>match r with
   | (.normal,ts',h')=>iterX body n ts' h'
   |r=>some [r]) rs
  |none=>none
def codeX(call:CallX)(lf:Nat):Code→Tr→Heap→Option Outs
 | .skip,ts,h=>some [(.normal,ts,h)]
 | .label _,ts,h=>some [(.normal,ts,h)]
 | .exit id,ts,h=>some [(.exit id,ts,h)]
 | .ret,ts,h=>some [(.ret,ts,h)]
 | .region _ ⟨l⟩ false,ts,h=>match lX C call ⟨l⟩ l ts h with|some (ts',h')=>some [(.normal,ts',h')]|none=>none
 | .region _ ⟨l⟩ true,ts,h=>match drawX3 C call l ts h with
  |some rs=>some ((dedup rs).map fun q=>(.normal,q.1,q.2))
  |none=>match (drawK l).findSome? (fun k=>match pX C call ⟨l⟩ (l.take k) ts h with
   |some ts1=>sufX C call ⟨l⟩ (l.length-k) (listK l.length k) ts1 h
   |none=>none)with
   |some rs=>some ((dedup rs).map fun q=>(.normal,q.1,q.2))
   |none=>none
 | .seq a b,ts,h=>match codeX call lf a ts h with
  |some rs=>bindO (fun r=>match r with
   | (.normal,ts',h')=>codeX call lf b ts' h'
   |r=>some [r]) rs
  |none=>none
 | .cond c a b,ts,h=>match aev C.G (envL ts) c with
  | .bool true=>codeX call lf a ts h
  | .bool false=>codeX call lf b ts h
  |_=>none
 | .block id c,ts,h=>match codeX call lf c ts h with
  |some rs=>some (rs.map fun r=>match r with
   | (.exit id',ts',h')=>if id'=id then(.normal,ts',h')else(.exit id',ts',h')
   |r=>r)
  |none=>none
 | .scope c,ts,h=>match codeX call lf c ts h with
  |some rs=>bindO (fun r=>match r with
   | (.goto _,_,_)=>none
   |r=>some [r]) rs
  |none=>none
 | .loop c,ts,h=>iterX (fun ts h=>codeX call lf c ts h) lf ts h
 |_,_,_=>none
def endX(fn:Func)(r:Exit×Tr×Heap):Option (AVal×Heap):=match r with
 | (.normal,ts,h')=>match resA C (envL ts) h' fn.results.toList with|some r=>some (r,h')|none=>none
 | (.ret,ts,h')=>match resA C (envL ts) h' fn.results.toList with|some r=>some (r,h')|none=>none
 |_=>none
def mergeH:Heap→Heap→Option Heap
 | [],[]=>some []
 |a::l,b::m=>match mergeH l m with
  |some q=>some ((if beqB a b=true then a else .dead)::q)
  |none=>none
 |_,_=>none
def mergeAH(x y:AVal×Heap):Option (AVal×Heap):=if beqA x.1 y.1=true then(match mergeH x.2 y.2 with|some q=>some (x.1,q)|none=>none)else none
def allX(fn:Func):Outs→Option (AVal×Heap)
 | []=>none
 | [r]=>endX C fn r
 |r::rest=>match endX C fn r,allX fn rest with
  |some x,some y=>mergeAH x y
  |_,_=>none
def callX(orc:FuncId→List AVal→Option AVal)(lf:Nat):Nat→CallX
 |0,_,_,_=>none
 |n+1,f,args,h=>match orc f args with
  |some r=>some (r,h)
  |none=>match C.P.funcs[f]? with
   |none=>none
   |some fn=>match fn.body with
    |none=>none
    |some c=>if (fn.name== "runtime.NumGoroutine")=false∧okCode fn.ntmps c=true∧fn.results.toList.all (okRes fn.ntmps)=true∧args.length≤fn.ntmps∧fn.ntmps+1<2^kOf fn.ntmps then
      match codeX C (callX orc lf n) lf c (argsT (Tr.mk (kOf fn.ntmps)) 0 args) h with
      |some rs=>allX C fn rs
      |none=>none
     else none
variable {C} {h h':Heap} {call:CallX} {k0:Nat}
def CallOk(C:Ctx)(call:CallX):Prop:=∀f args h r h',call f args h=some (r,h')→Sat C f args h fun r2 h2=>r2=r∧h2=h'
theorem cN(hcall:CallOk C call){ops:Array Oper}{o:Oper}{n:Nat}(hn:n+1<2^k0){ts ts':Tr}(hF:Tr.Full k0 ts)(ho:okDst n o=true)(g:operX C call ops o ts h=some (ts',h')){K:Env→Heap→Prop}(hk:K (envL ts') h'):
  wpOper C ops o (envL ts) h K∧Tr.Full k0 ts':=by
 have hd:∀i,o.dst=some i→i<n:=fun i e=>by simpa [okDst,e]using ho
 unfold operX at g;unfold wpOper
 split at g
 ·rename_i hg;rw[hg];simp only[]
  split at g
  ·rename_i e;cases g
   exact⟨j6 hcall e (by rw[← cM hF hn hd];exact hk),dh _ _ _ hF⟩
  ·cases g
 ·rename_i hg;rw[hg];simp only[]
  split at g
  ·rename_i hq;rw[hq];simp only[]
   split at g
   ·rename_i hb
    split at g
    ·rename_i e;cases g
     exact⟨⟨fun _=>j6 hcall e (by rw[← cM hF hn hd];exact hk),fun hn=>absurd hb hn⟩,dh _ _ _ hF⟩
    ·cases g
   ·rename_i hb;cases g
    exact⟨⟨fun hn=>absurd hn hb,fun _=>by rw[← cM hF hn hd];exact hk⟩,dh _ _ _ hF⟩
  ·cases g
theorem uG(hcall:CallOk C call){n:Nat}(hn:n+1<2^k0){ops:Array Oper}{Q:Exit→Env→Heap→Prop}:∀(l:List Oper) {ts ts':Tr} {h h':Heap},Tr.Full k0 ts→(∀o∈l,okDst n o=true)→lX C call ops l ts h=some (ts',h')→Q .normal (envL ts') h'→
  WPl C ops Q l (envL ts) h∧Tr.Full k0 ts'
 | [],ts,ts',h,h',hF,_,g,hq=>by
  simp only[lX,Option.some.injEq,Prod.mk.injEq]at g
  obtain⟨rfl,rfl⟩:=g
  exact⟨hq,hF⟩
 |o::rest,ts,ts',h,h',hF,ho,g,hq=>by
  unfold lX at g
  split at g
  ·rename_i ts1 h1 e
   have hF1:=(cN hcall hn hF (ho o (by simp)) e (K:=fun _ _=>True) trivial).2
   have ih:=uG hcall hn (ops:=ops) (Q:=Q) rest hF1 (fun o hm=>ho o (by simp[hm])) g hq
   unfold WPl
   exact⟨(cN hcall hn hF (ho o (by simp)) e ih.1).1,ih.2⟩
  ·cases g
theorem qK{x y:Tr×Heap}(h:sameTH x y=true):x=y:=by
 simp only[sameTH,Bool.and_eq_true,decide_eq_true_eq]at h
 obtain⟨h1,h2,h3⟩:=h
 have e:=jF h3
 rw[h2,List.take_length]at e
 exact Prod.ext (Tr.beq_ok _ _ h1) e.symm
theorem eh:∀{l:List (Tr×Heap)},∀x∈l,x∈dedup l
 | [],x,h=>by cases h
 |a::l,x,h=>by
  simp only[dedup]
  rcases List.mem_cons.1 h with rfl|h
  ·split
   ·rename_i hs
    obtain⟨y,hy,e⟩:=List.any_eq_true.1 hs
    rw[qK e];exact eh y hy
   ·simp
  ·have:=eh (l:=l) x h
   split
   ·exact this
   ·simp[this]
theorem en:∀{l:List (Tr×Heap)},∀x∈dedup l,x∈l
 | [],x,h=>by cases h
 |a::l,x,h=>by
  simp only[dedup]at h
  split at h
  ·exact List.mem_cons_of_mem _ (en x h)
  ·rcases List.mem_cons.1 h with rfl|h
   ·simp
   ·exact List.mem_cons_of_mem _ (en x h)
theorem cO{α β:Type}{f:α→Option (List β)}:∀{l:List α} {m:List β},bindO f l=some m→(∀x∈l,∃ys,f x=some ys∧∀y∈ys,y∈m)∧∀y∈m,∃x∈l,∃ys,f x=some ys∧y∈ys
 | [],m,h=>by simp only[bindO,Option.some.injEq]at h;subst h;exact⟨fun x hx=>(by cases hx),fun y hy=>(by cases hy)⟩
 |a::l,m,h=>by
  simp only[bindO]at h
  split at h
  ·rename_i ys hy
   split at h
   ·rename_i zs hz;cases h
    obtain⟨h1,h2⟩:=cO hz
    refine⟨fun x hx=>?_,fun y hm=>?_⟩
    ·rcases List.mem_cons.1 hx with rfl|hx
     ·exact⟨ys,hy,fun y h=>List.mem_append_left _ h⟩
     ·obtain⟨q,k1,k2⟩:=h1 x hx
      exact⟨q,k1,fun y h=>List.mem_append_right _ (k2 y h)⟩
    ·rcases List.mem_append.1 hm with hm|hm
     ·exact⟨a,by simp,ys,hy,hm⟩
     ·obtain⟨x,k1,q,k2,k3⟩:=h2 y hm
      exact⟨x,by simp[k1],q,k2,k3⟩
   ·cases h
  ·cases h
theorem nB(hcall:CallOk C call){n:Nat}(hn:n+1<2^k0){ops:Array Oper}{Q:Exit→Env→Heap→Prop}(ho:∀o∈ops.toList,okDst n o=true):∀(f:Nat) {L:Array Bool} {ts:Tr} {h:Heap} {rs:List (Tr×Heap)},Tr.Full k0 ts→sufX C call ops f L ts h=some rs→
  (∀r∈rs,Q .normal (envL r.1) r.2)→Rest C ops Q f L (envL ts) h∧(∀r∈rs,Tr.Full k0 r.1):=by
 intro f
 induction f with
 |zero=>
  intro L ts h rs hF g hq
  simp only[sufX,Option.some.injEq]at g
  subst g
  exact⟨Rest.nil (hq (ts,h) (by simp)),fun r hr=>by simp at hr;rw[hr];exact hF⟩
 |succ f ih=>
  intro L ts h rs hF g hq
  simp only[sufX]at g
  split at g
  ·rename_i hr
   split at g
   ·rename_i rs1 hm;cases g
    obtain⟨b1,b2⟩:=cO hm
    have hmem:∀(i:Nat) (o:Oper),ops[i]? =some o→o∈ops.toList:=fun i o e=>by simpa using Array.mem_of_getElem? e
    have at_:∀i,∀ys,(match ops[i]? with
      |some o=>match operX C call ops o ts h with|some (ts',h')=>sufX C call ops f (L.setIfInBounds i true) ts' h'|none=>none
      |none=>none)=some ys→∃o ts1 h1,ops[i]? =some o∧operX C call ops o ts h=some (ts1,h1)∧sufX C call ops f (L.setIfInBounds i true) ts1 h1=some ys:=fun i ys e=>by
     split at e
     ·rename_i o hoi
      split at e
      ·rename_i ts1 h1 e1;exact⟨o,ts1,h1,hoi,e1,e⟩
      ·cases e
     ·cases e
    have hany:Region.ready .any ops L≠ []:=fun e=>by
     have h1:=hr.1
     cases hx:Region.ready .text ops L with
     |nil=>rw[hx]at h1;simp at h1
     |cons i l=>
      have:i∈Region.ready .any ops L:=kc (md:=.text) (by rw[hx];simp)
      rw[e]at this;cases this
    refine⟨Rest.step (fun e=>by rw[e]at hr;simp at hr) (fun e=>by rw[e]at hr;simp at hr) hany fun i hi o hoi=>?_,fun r hr=>?_⟩
    ·obtain⟨ys,hys,hsub⟩:=b1 i hi
     obtain⟨o',ts1,h1,e1,e2,e3⟩:=at_ i ys hys
     rw[hoi]at e1;cases e1
     have hF1:=(cN hcall hn hF (ho o (hmem i o hoi)) e2 (K:=fun _ _=>True) trivial).2
     exact(cN hcall hn hF (ho o (hmem i o hoi)) e2 (ih hF1 e3 (fun r hr=>hq r (hsub r hr))).1).1
    ·obtain⟨i,hi,ys,hys,hry⟩:=b2 r hr
     obtain⟨o',ts1,h1,e1,e2,e3⟩:=at_ i ys hys
     have hF1:=(cN hcall hn hF (ho o' (hmem i o' e1)) e2 (K:=fun _ _=>True) trivial).2
     obtain⟨ys',hys',hsub⟩:=b1 i hi
     rw[hys]at hys';cases hys'
     exact(ih hF1 e3 (fun r hr=>hq r (hsub r hr))).2 r hry
   ·cases g
  ·cases g
theorem t8(hcall:CallOk C call){g:FuncId}{args:List AVal}{v:AVal}(e:callP call g args h=some v):Sat C g args h fun r2 h2=>r2=v∧h2=h:=by
 unfold callP at e
 split at e
 ·rename_i hc
  split at e
  ·rename_i hb
   exact(hcall _ _ _ _ _ hc).letgo (jF hb) (nz _ _ _ _ _ e)
  ·cases e
 ·cases e
theorem fk(hcall:CallOk C call){o:Op}{t:Env}{v:AVal}(e:heldX C call o t h=some v){K:AVal→Heap→Prop}(hk:K v h):wpOp C o t h K:=by
 unfold heldX at e
 split at e
 ·rename_i hp;cases e;exact lz hp hk
 ·split at e
  ·rename_i T len parts _
   unfold wpOp;simp only[]
   unfold rowsX at e
   cases he:elmT C.P T with
   |none=>rw[he]at e;cases e
   |some el=>
    rw[he]at e
    simp only[]at e
    refine au rfl ?_
    cases hn:szOf C.P el with
    |none=>rw[hn]at e;cases e
    |some n=>
     rw[hn]at e
     simp only[]at e
     refine au rfl ?_
     by_cases h0:len=0
     ·rw[if_pos h0]at e ⊢
      by_cases hp:(parts.toList.map (·.1)).length=0
      ·rw[if_pos hp]at e;simp only[Option.some.injEq]at e;subst e;exact⟨by simpa using hp,hk⟩
      ·rw[if_neg hp]at e;cases e
     ·rw[if_neg h0]at e ⊢
      split at e
      ·rename_i hh
       split at hh
       ·cases hh
       ·cases hh
      ·rename_i hh
       split at hh
       ·rename_i hs
        obtain⟨s1,s2,s3,s4,s5,s6⟩:=hs
        simp only[Option.bind_some,hn,Option.some.injEq]at e
        subst e
        refine⟨by simpa using s1,by omega,s2,s3,s4,s5,fun x hx=>?_,.inr hk⟩
        simpa using List.all_eq_true.1 s6 x hx
       ·cases hh
      ·cases e
  ·rename_i c _
   split at e
   ·rename_i hc
    split at e
    ·rename_i hf
     unfold wpOp;simp only[]
     unfold wpCall;rw[hc];show callK _ _ _ _ _;rw[hf]
     exact(t8 hcall e).mono fun r2 h2 ⟨e1,e2⟩=>by rw[e1,e2];exact hk
    ·cases e
   ·cases e
  ·cases e
theorem oT(hcall:CallOk C call){n:Nat}(hn:n+1<2^k0){ops:Array Oper}{K:Env→Prop}:∀(l:List Oper) {ts ts':Tr} {h:Heap},Tr.Full k0 ts→(∀o∈l,okDst n o=true)→pX C call ops l ts h=some ts'→K (envL ts')→
  WPp C ops l (envL ts) h K∧Tr.Full k0 ts'
 | [],ts,ts',h,hF,_,g,hq=>by
  simp only[pX,Option.some.injEq]at g
  subst g
  exact⟨hq,hF⟩
 |o::rest,ts,ts',h,hF,ho,g,hq=>by
  have hd:∀i,o.dst=some i→i<n:=fun i e=>by have:=ho o (by simp);simpa [okDst,e]using this
  unfold pX at g
  split at g
  ·rename_i v e
   have ih:=oT hcall hn (ops:=ops) (K:=K) rest (ts:=putL ts o.dst v) (dh _ _ _ hF) (fun o hm=>ho o (by simp[hm])) g hq
   rw[cM hF hn hd]at ih
   refine⟨⟨v,fun KK hkk=>?_,ih.1⟩,ih.2⟩
   unfold operPX at e;unfold wpOperV
   split at e
   ·rename_i hg;rw[hg];simp only[]
    exact fk hcall e hkk
   ·rename_i hg;rw[hg];simp only[]
    split at e
    ·rename_i hq;rw[hq];simp only[]
     split at e
     ·rename_i hb;exact⟨fun _=>fk hcall e hkk,fun hn=>absurd hb hn⟩
     ·rename_i hb;cases e;exact⟨fun hn=>absurd hn hb,fun _=>hkk⟩
    ·cases e
  ·cases g
theorem qL(hcall:CallOk C call){n:Nat}(hn:n+1<2^k0){ops:Array Oper}{cb:Nat→Bool}:∀(l:List Oper) {ts ts':Tr} {h:Heap} {vs:List (Tr×AVal)},Tr.Full k0 ts→(∀o∈l,okDst n o=true)→pXt C call ops l ts h=some (vs,ts')→
  ∃V:Nat→AVal,(∀(i:Nat) (o:Oper),l[i]? =some o→∀KK:AVal→Heap→Prop,KK (V i) h→wpOperV C ops o (Av.T V l (envL ts) i) h KK)∧Av.T V l (envL ts) l.length=envL ts'∧Tr.Full k0 ts'∧
   ∀(s:Nat) (h':Heap),sameX C call ops cb h' s l vs=true→∀(i:Nat) (o:Oper),l[i]? =some o→cb (s+i)=false→∀KK:AVal→Heap→Prop,KK (V i) h'→wpOperV C ops o (Av.T V l (envL ts) i) h' KK
 | [],ts,ts',h,vs,hF,_,g=>by
  simp only[pXt,Option.some.injEq,Prod.mk.injEq]at g
  obtain⟨rfl,rfl⟩:=g
  exact⟨fun _=>undefA,fun i o hi=>by simp at hi,rfl,hF,fun s h' _ i o hi=>by simp at hi⟩
 |o::rest,ts,ts',h,vs,hF,ho,g=>by
  have hd:∀i,o.dst=some i→i<n:=fun i e=>by have:=ho o (by simp);simpa [okDst,e]using this
  have one:∀(h:Heap) (v:AVal),operPX C call ops o ts h=some v→∀KK:AVal→Heap→Prop,KK v h→wpOperV C ops o (envL ts) h KK:=fun h v e KK hkk=>by
   unfold operPX at e;unfold wpOperV
   split at e
   ·rename_i hg;rw[hg];simp only[]
    exact fk hcall e hkk
   ·rename_i hg;rw[hg];simp only[]
    split at e
    ·rename_i hq;rw[hq];simp only[]
     split at e
     ·rename_i hb;exact⟨fun _=>fk hcall e hkk,fun hn=>absurd hb hn⟩
     ·rename_i hb;cases e;exact⟨fun hn=>absurd hn hb,fun _=>hkk⟩
    ·cases e
  simp only[pXt]at g
  split at g
  ·rename_i v e
   split at g
   ·rename_i l1 ts1 e1;cases g
    obtain⟨V,h1,h2,h3,h4⟩:=qL hcall hn (ops:=ops) (cb:=cb) rest (ts:=putL ts o.dst v) (dh _ _ _ hF) (fun o hm=>ho o (by simp[hm])) e1
    rw[cM hF hn hd]at h1 h2 h4
    refine⟨fun i=>match i with|0=>v|i+1=>V i,fun i o' hi=>?_,?_,h3,fun s h' hs i o' hi hc=>?_⟩
    ·cases i with
     |zero=>simp at hi;subst hi;exact one h v e
     |succ i=>exact h1 i o' (by simpa using hi)
    ·exact h2
    ·simp only[sameX,Bool.and_eq_true,Bool.or_eq_true]at hs
     cases i with
     |zero=>
      simp at hi;subst hi
      rcases hs.1 with h5|h5
      ·rw[Nat.add_zero]at hc;rw[hc]at h5;cases h5
      ·split at h5
       ·rename_i v' e'
        rw[dH _ _ h5]at e'
        exact one h' v e'
       ·cases h5
     |succ i=>exact h4 (s+1) h' hs.2 i o' (by simpa using hi) (by rw[show s+1+i=s+(i+1) by omega];exact hc)
   ·cases g
  ·cases g
theorem ta{n:Nat}{o:Oper}(h:okOper n o=true):okDst n o=true:=by
 unfold okOper at h
 simp only[Bool.and_eq_true]at h
 exact h.2
theorem td(hcall:CallOk C call)(lf:Nat){n:Nat}(hn:n+1<2^k0):∀(c:Code) {ts:Tr} {h:Heap} {rs:Outs} {Q:Exit→Env→Heap→Prop},Tr.Full k0 ts→okCode n c=true→codeX C call lf c ts h=some rs→(∀r∈rs,Q r.1 (envL r.2.1) r.2.2)→
  WP C c Q (envL ts) h∧∀r∈rs,Tr.Full k0 r.2.1:=by
 intro c
 induction c with
 |skip=>intro ts h rs Q hF _ g hq;simp only[codeX,Option.some.injEq]at g;subst g;exact⟨hq (_,ts,h) (by simp),fun r hr=>by simp at hr;rw[hr];exact hF⟩
 |label l=>intro ts h rs Q hF _ g hq;simp only[codeX,Option.some.injEq]at g;subst g;exact⟨hq (_,ts,h) (by simp),fun r hr=>by simp at hr;rw[hr];exact hF⟩
 |exit id=>intro ts h rs Q hF _ g hq;simp only[codeX,Option.some.injEq]at g;subst g;exact⟨hq (_,ts,h) (by simp),fun r hr=>by simp at hr;rw[hr];exact hF⟩
 |ret=>intro ts h rs Q hF _ g hq;simp only[codeX,Option.some.injEq]at g;subst g;exact⟨hq (_,ts,h) (by simp),fun r hr=>by simp at hr;rw[hr];exact hF⟩
 |region id ops draw=>
  obtain⟨l⟩:=ops
  intro ts h rs Q hF hok g hq
  have hall:∀o∈l,okDst n o=true:=fun o ho=>by
   simp only[okCode,List.all_eq_true]at hok
   exact ta (hok o ho)
  cases draw with
  |false=>
   simp only[codeX]at g
   split at g
   ·rename_i ts' h' e1;cases g
    have:=uG hcall hn l hF hall e1 (Q:=Q) (hq (_,ts',h') (by simp))
    exact⟨this.1,fun r hr=>by simp at hr;rw[hr];exact this.2⟩
   ·cases g
  |true=>
   simp only[codeX]at g
   split at g
   ·rename_i rs1 hd;cases g
    unfold drawX3 at hd
    split at hd
    ·rename_i k oe hde
     have hdr:l[k]? =some oe∧preOk l.toArray (k+1)=true:=by
      unfold drawE at hde
      split at hde
      ·simp only[]at hde
       split at hde
       ·rename_i hoe
        split at hde
        ·rename_i hp;cases hde;exact⟨hoe,hp⟩
        ·cases hde
       ·cases hde
      ·cases hde
     have hkl:=(List.getElem?_eq_some_iff.1 hdr.1).1
     split at hd
     ·rename_i vs ts1 e1
      split at hd
      ·rename_i ts2 h2 e2
       split at hd
       ·rename_i hsame
        obtain⟨V,v1,v2,v3,v4⟩:=qL hcall hn (cb:=fun i=>((Region.before l.toArray).getD k 0).testBit i) (l.take k) hF (fun o ho=>hall o (List.mem_of_mem_take ho)) e1
        have hlen:(l.take k).length=k:=by simp;omega
        have hTT:∀i,i≤k→Av.T V (l.take k) (envL ts) i=Av.T V l (envL ts) i:=fun i hi=>eM V V k (fun _ _=>rfl) _ _ _ _ hi (by rw[List.take_take];congr 1;omega) (by rw[hlen];exact hi) (by omega)
        have hget:∀(i:Nat) (o:Oper),i<k→l[i]? =some o→(l.take k)[i]? =some o:=fun i o hi ho=>by rw[List.getElem?_take,if_pos hi];exact ho
        have hoe:=hall oe (List.mem_of_getElem? hdr.1)
        have hF2:=(cN hcall hn v3 hoe e2 (K:=fun _ _=>True) trivial).2
        have hsx:=nB hcall hn (ops:=⟨l⟩) (fun o ho=>hall o ho) (l.length-(k+1)) hF2 hd (Q:=Q) (fun r hr=>hq (.normal,r.1,r.2) (List.mem_map.2 ⟨r,eh r hr,rfl⟩))
        rw[hlen]at v2
        rw[hTT k (Nat.le_refl _)]at v2
        refine⟨sS k oe hdr.1 hdr.2 V (fun i o hi ho=>?_) ?_,fun r hr=>?_⟩
        ·rw[← hTT i (by omega)]
         exact v1 i o (hget i o hi ho)
        ·rw[v2]
         have hd':∀i,oe.dst=some i→i<n:=fun i e=>by simpa [okDst,e]using hoe
         unfold operX at e2;unfold wpOperV
         have post:∀v,ts2=putL ts1 oe.dst v→(∀(i:Nat) (o:Oper),i<k→l[i]? =some o→((Region.before l.toArray).getD k 0).testBit i=false→∀KK:AVal→Heap→Prop,KK (V i) h2→wpOperV C l.toArray o (Av.T V l (envL ts) i) h2 KK)∧
           Rest C l.toArray Q (l.length-(k+1)) (listK l.length (k+1)) (put (envL ts1) oe.dst v) h2:=fun v ev=>by
          refine⟨fun i o hi ho hc=>?_,?_⟩
          ·rw[← hTT i (by omega)]
           exact v4 0 h2 hsame i o (hget i o hi ho) (by simpa using hc)
          ·rw[← cM v3 hn hd', ← ev]
           exact hsx.1
         split at e2
         ·rename_i hg;rw[hg];simp only[]
          split at e2
          ·rename_i e3;cases e2
           exact j6 hcall e3 (post _ rfl)
          ·cases e2
         ·rename_i hg;rw[hg];simp only[]
          split at e2
          ·rename_i hqq;rw[hqq];simp only[]
           split at e2
           ·rename_i hb
            split at e2
            ·rename_i e3;cases e2
             exact⟨fun _=>j6 hcall e3 (post _ rfl),fun hn=>absurd hb hn⟩
            ·cases e2
           ·rename_i hb;cases e2
            exact⟨fun hn=>absurd hn hb,fun _=>post _ rfl⟩
          ·cases e2
        ·obtain⟨q,hq1,rfl⟩:=List.mem_map.1 hr
         exact hsx.2 q (en q hq1)
       ·cases hd
      ·cases hd
     ·cases hd
    ·cases hd
   ·split at g
    ·rename_i rs1 hd;cases g
     obtain⟨k,hk,e⟩:=List.exists_of_findSome?_eq_some hd
     have hk:=qJ hk
     simp only[Bool.and_eq_true]at hk
     split at e
     ·rename_i ts1 e1
      have hF1:=(oT hcall hn (K:=fun _=>True) (ops:=⟨l⟩) (C:=C) (l.take k) hF (fun o ho=>hall o (List.mem_of_mem_take ho)) e1 trivial).2
      have h2:=nB hcall hn (ops:=⟨l⟩) (fun o ho=>hall o ho) (l.length-k) hF1 e (Q:=Q) (fun r hr=>hq (.normal,r.1,r.2) (List.mem_map.2 ⟨r,eh r hr,rfl⟩))
      have h1:=oT hcall hn (K:=fun t'=>Rest C ⟨l⟩ Q (l.length-k) (listK l.length k) t' h) (ops:=⟨l⟩) (C:=C) (l.take k) hF (fun o ho=>hall o (List.mem_of_mem_take ho)) e1 h2.1
      refine⟨sR k (by simpa using hk.2) h1.1,fun r hr=>?_⟩
      obtain⟨q,hq1,rfl⟩:=List.mem_map.1 hr
      exact h2.2 q (en q hq1)
     ·cases e
    ·cases g
 |seq a b iha ihb=>
  intro ts h rs Q hF hok g hq
  simp only[okCode,Bool.and_eq_true]at hok
  simp only[codeX]at g
  split at g
  ·rename_i rs1 e1
   obtain⟨b1,b2⟩:=cO g
   have hlen:=(iha (Q:=fun _ _ _=>True) hF hok.1 e1 (fun _ _=>trivial)).2
   refine⟨(iha (Q:=thenQ (fun t h=>Wkn C (wr a) t h fun t h=>WP C b Q t h) Q) hF hok.1 e1 (fun r hr=>?_)).1,fun r hr=>?_⟩
   ·obtain⟨ys,hys,hsub⟩:=b1 r hr
    obtain⟨e,ts1,h1⟩:=r
    cases e with
    |normal=>exact Wkn.refl (ihb (hlen _ hr) hok.2 hys (fun r hr=>hq r (hsub r hr))).1
    |_=>simp only[Option.some.injEq]at hys;subst hys;exact hq _ (hsub _ (by simp))
   ·obtain⟨r1,hr1,ys,hys,hry⟩:=b2 r hr
    obtain⟨e,ts1,h1⟩:=r1
    cases e with
    |normal=>exact(ihb (Q:=fun _ _ _=>True) (hlen _ hr1) hok.2 hys (fun _ _=>trivial)).2 r hry
    |_=>simp only[Option.some.injEq]at hys;subst hys;simp at hry;subst hry;exact hlen _ hr1
  ·cases g
 |cond c a b iha ihb=>
  intro ts h rs Q hF hok g hq
  simp only[okCode,Bool.and_eq_true]at hok
  simp only[codeX]at g
  unfold WP
  split at g
  ·rename_i hc;rw[hc];simp only[]
   have:=iha (Q:=Q) hF (by simp[hok]) g hq
   exact⟨⟨fun _=>this.1,fun e=>Bool.noConfusion e⟩,this.2⟩
  ·rename_i hc;rw[hc];simp only[]
   have:=ihb (Q:=Q) hF (by simp[hok]) g hq
   exact⟨⟨fun e=>Bool.noConfusion e,fun _=>this.1⟩,this.2⟩
  ·cases g
 |block id c ih=>
  intro ts h rs Q hF hok g hq
  simp only[okCode]at hok
  simp only[codeX]at g
  split at g
  ·rename_i rs1 e1;cases g
   have hlen:=(ih (Q:=fun _ _ _=>True) hF hok e1 (fun _ _=>trivial)).2
   refine⟨(ih (Q:=blockQ id Q) hF hok e1 (fun r hr=>?_)).1,fun r hr=>?_⟩
   ·have:=hq _ (List.mem_map.2 ⟨r,hr,rfl⟩)
    obtain⟨e,ts1,h1⟩:=r
    cases e with
    |exit id'=>
     simp only[blockQ]at this ⊢
     split at this
     ·rename_i e;rw[if_pos e];exact this
     ·rename_i e;rw[if_neg e];exact this
    |_=>exact this
   ·obtain⟨r1,hr1,rfl⟩:=List.mem_map.1 hr
    have:=hlen r1 hr1
    obtain⟨e,ts1,h1⟩:=r1
    cases e with
    |exit id'=>simp only[];split<;>exact this
    |_=>exact this
  ·cases g
 |scope c ih=>
  intro ts h rs Q hF hok g hq
  simp only[okCode]at hok
  simp only[codeX]at g
  split at g
  ·rename_i rs1 e1
   obtain⟨b1,b2⟩:=cO g
   have hlen:=(ih (Q:=fun _ _ _=>True) hF hok e1 (fun _ _=>trivial)).2
   refine⟨(ih (Q:=noG Q) hF hok e1 (fun r hr=>?_)).1,fun r hr=>?_⟩
   ·obtain⟨ys,hys,hsub⟩:=b1 r hr
    obtain⟨e,ts1,h1⟩:=r
    cases e with
    |goto l=>cases hys
    |_=>simp only[Option.some.injEq]at hys;subst hys;exact hq _ (hsub _ (by simp))
   ·obtain⟨r1,hr1,ys,hys,hry⟩:=b2 r hr
    obtain⟨e,ts1,h1⟩:=r1
    cases e with
    |goto l=>cases hys
    |_=>simp only[Option.some.injEq]at hys;subst hys;simp at hry;subst hry;exact hlen _ hr1
  ·cases g
 |loop c ih=>
  intro ts h rs Q hF hok g hq
  simp only[okCode]at hok
  simp only[codeX]at g
  have lens:∀(m:Nat) (s:Tr) (k:Heap) (rs:Outs),Tr.Full k0 s→iterX (fun ts h=>codeX C call lf c ts h) m s k=some rs→∀r∈rs,Tr.Full k0 r.2.1:=by
   intro m
   induction m with
   |zero=>intro s k rs _ g;simp[iterX]at g
   |succ m ihn=>
    intro s k rs hs g r hr
    simp only[iterX]at g
    split at g
    ·rename_i rs1 e1
     obtain⟨b1,b2⟩:=cO g
     have hl:=(ih (Q:=fun _ _ _=>True) hs hok e1 (fun _ _=>trivial)).2
     obtain⟨r1,hr1,ys,hys,hry⟩:=b2 r hr
     have h1:=hl r1 hr1
     obtain⟨e,ts1,k1⟩:=r1
     cases e with
     |normal=>exact ihn _ _ _ h1 hys r hry
     |_=>simp only[Option.some.injEq]at hys;subst hys;simp at hry;subst hry;exact h1
    ·cases g
  refine⟨⟨fun n t1 h1=>∃(s:Tr) (rs1:Outs),t1=envL s∧Tr.Full k0 s∧iterX (fun ts h=>codeX C call lf c ts h) n s h1=some rs1∧∀r∈rs1,r∈rs,lf,Wkn.refl ⟨ts,rs,rfl,hF,g,fun _ h=>h⟩,fun n' t1 h1 hI=>?_⟩,lens _ _ _ _ hF g⟩
  obtain⟨s,rs1,rfl,hs,gi,hsub⟩:=hI
  cases n' with
  |zero=>simp[iterX]at gi
  |succ n=>
   simp only[iterX]at gi
   split at gi
   ·rename_i rs2 e1
    obtain⟨b1,b2⟩:=cO gi
    have hl:=(ih (Q:=fun _ _ _=>True) hs hok e1 (fun _ _=>trivial)).2
    refine(ih hs hok e1 (fun r hr=>?_)).1
    obtain⟨ys,hys,hs2⟩:=b1 r hr
    have h2:=hl r hr
    obtain⟨e,ts1,k1⟩:=r
    cases e with
    |normal=>exact⟨n,by omega,Wkn.refl ⟨ts1,ys,rfl,h2,hys,fun r h=>hsub r (hs2 r h)⟩⟩
    |_=>simp only[Option.some.injEq]at hys;subst hys;exact hq _ (hsub _ (hs2 _ (by simp)))
   ·cases gi
 |_=>intro ts h rs Q _ _ g;simp[codeX]at g
def Kill(a b:Heap):Prop:=a.length=b.length∧∀(p:Nat) (k:Blk),b[p]? =some k→k=.dead∨a[p]? =some k
theorem Kill.refl(a:Heap):Kill a a:=⟨rfl,fun _ _ h=>.inr h⟩
theorem Kill.trans{a b c:Heap}(h:Kill a b)(k:Kill b c):Kill a c:=⟨h.1.trans k.1,fun p x hx=>(k.2 p x hx).elim .inl (h.2 p x)⟩
theorem kg:∀{a b q:Heap},mergeH a b=some q→Kill a q∧Kill b q
 | [],[],q,h=>by simp only[mergeH,Option.some.injEq]at h;subst h;exact⟨Kill.refl _,Kill.refl _⟩
 | [],_::_,q,h=>by simp[mergeH]at h
 |_::_,[],q,h=>by simp[mergeH]at h
 |a::l,b::m,q,h=>by
  simp only[mergeH]at h
  split at h
  ·rename_i q1 hq;cases h
   obtain⟨h1,h2⟩:=kg hq
   refine⟨⟨by simp[h1.1],fun p k hk=>?_⟩,⟨by simp[h2.1],fun p k hk=>?_⟩⟩
   ·cases p with
    |zero=>
     simp at hk
     split at hk
     ·subst hk;exact .inr rfl
     ·exact .inl hk.symm
    |succ p=>exact(h1.2 p k (by simpa using hk)).imp id (by simp)
   ·cases p with
    |zero=>
     simp at hk
     split at hk
     ·rename_i e;subst hk;exact .inr (by rw[ny e];rfl)
     ·exact .inl hk.symm
    |succ p=>exact(h2.2 p k (by simpa using hk)).imp id (by simp)
  ·cases h
theorem nC{fn:Func}:∀{rs:Outs} {x:AVal×Heap},allX C fn rs=some x→∀r∈rs,∃h1,endX C fn r=some (x.1,h1)∧Kill h1 x.2
 | [],x,g=>by cases g
 | [r],x,g=>by intro r' hr;simp at hr;subst hr;exact⟨x.2,g,Kill.refl _⟩
 |r::r2::rest,x,g=>by
  simp only[allX]at g
  split at g
  ·rename_i x1 y1 h1 h2
   unfold mergeAH at g
   split at g
   ·rename_i hb
    split at g
    ·rename_i q hq;cases g
     obtain⟨k1,k2⟩:=kg hq
     intro r' hr
     rcases List.mem_cons.1 hr with rfl|hr
     ·exact⟨_,h1,k1⟩
     ·obtain⟨h3,e,k3⟩:=nC h2 r' hr
      exact⟨h3,by rw[dH _ _ hb];exact e,k3.trans k2⟩
    ·cases g
   ·cases g
  ·cases g
theorem Sat.kill{f:FuncId}{args:List AVal}{r:AVal}{h1:Heap}(s:Sat C f args h fun r2 h2=>r2=r∧Kill h2 h1):Sat C f args h fun r2 h2=>r2=r∧h2=h1:=by
 intro B S μ w vs fit rl
 refine(s B S μ w vs fit rl).mono fun u w' hp=>?_
 obtain⟨r2,h',S',μ',⟨rfl,hk⟩,st,fit',hrep⟩:=hp
 refine⟨r2,h1,S',μ',⟨rfl,rfl⟩,st,⟨fit'.glob,fit'.len.trans hk.1,fit'.sep,fit'.own,fit'.base,fit'.lie,fun p m k hm hp=>?_⟩,hrep⟩
 rcases hk.2 p k hp with rfl|h2
 ·trivial
 ·exact fit'.blk p m k hm h2
theorem tf{k0:Nat}(args:List AVal)(hl:args.length+1<2^k0):envL (argsT (Tr.mk k0) 0 args)=env0 args:=by
 funext i
 simp only[envL,env0]
 rw[kf _ _ _ _ (Tr.full_mk _) (by omega),Tr.get_mk]
 by_cases h:i<args.length
 ·rw[if_pos (by omega)];simp
 ·rw[if_neg (by omega)];simp[List.getD,List.getElem?_eq_none (show args.length≤i by omega)]
theorem Sat.of_body0{f:FuncId}{fn:Func}{c:Code}{args:List AVal}{R:AVal→Heap→Prop}(hf:C.P.funcs[f]? =some fn)(hb:fn.body=some c)(hname:(fn.name== "runtime.NumGoroutine")=false)
  (hok:okCode fn.ntmps c=true)(hres:fn.results.toList.all (okRes fn.ntmps)=true)(hlen:args.length≤fn.ntmps)
  (hw:WP C c (fun e t' h'=>match e with
   | .normal=>need (resA C t' h' fn.results.toList) fun r=>R r h'
   | .ret=>need (resA C t' h' fn.results.toList) fun r=>R r h'
   |_=>False) (env0 args) h):Sat C f args h R:=by
 intro B S μ w vs fit rl
 have hcall:(callFunc f vs.toArray).run C.P w=.ok (.enter f vs.toArray) w:=by
  have hne:fn.name≠ "runtime.NumGoroutine" :=by simpa using hname
  simp[callFunc,hf,hne,hb]
 rw[hcall]
 show Calls C.P f vs.toArray w _
 refine calls_of_wp hf hb ?_
 have hlv:vs.length≤fn.ntmps:=by rw[rl.1];exact hlen
 have renv:REnv fn.ntmps w S μ (env0 args) {tmps:=vs.toArray++Array.replicate (fn.ntmps-vs.toArray.size) undef,defers:=[]}:=by
  refine⟨by simp;omega,rfl,fun i hi=>?_⟩
  unfold env0
  by_cases hlt:i<args.length
  ·have hx:=List.getElem?_eq_getElem hlt
   have:=rl.2 i _ hx
   have hv:i<vs.length:=by rw[rl.1];exact hlt
   have e1:args.getD i undefA=args[i]:=by simp[List.getD,hx]
   have e2:(vs.toArray++Array.replicate (fn.ntmps-vs.toArray.size) undef).getD i undef=vs.getD i undef:=by
    simp[Array.getD_eq_getD_getElem?,Array.getElem?_append,hv,List.getD]
   rw[e1]
   simp only[e2]
   exact this
  ·have e1:args.getD i undefA=undefA:=by simp[List.getD,List.getElem?_eq_none (show args.length≤i by omega)]
   have hv:¬i<vs.length:=by rw[rl.1];exact hlt
   have e2:(vs.toArray++Array.replicate (fn.ntmps-vs.toArray.size) undef).getD i undef=undef:=by
    simp[Array.getD_eq_getD_getElem?,Array.getElem?_append,hv,Array.getElem?_replicate]
    split<;>rfl
   rw[e1]
   simp only[e2]
   exact du _ _ _
 have hres':=List.all_eq_true.1 hres
 refine wp_mono (fb (B:=B) (n:=fn.ntmps) c hok (Step.refl B S μ w) fit renv hw) fun e a' w' hp=>?_
 obtain⟨t',h',S',μ',hq,st,fit',renv'⟩:=hp
 have fin:need (resA C t' h' fn.results.toList) (fun r=>R r h')→a'.defers=[]∧∃v,(results fn a'.tmps).run C.P w'=.ok v w'∧
   ∃u,Ending.returned v=Ending.returned u∧OpPost C B S μ w R u w':=by
  intro hq
  obtain⟨r,hr0,hR⟩:=ac hq
  obtain⟨v,hv,hrep⟩:=il fit' renv' hres' hr0
  exact⟨renv'.2.1,v,hv,v,rfl,r,_,_,_,hR,st,fit',hrep⟩
 cases e with
 |normal=>exact fin hq
 |ret=>exact fin hq
 |_=>exact hq.elim
def OrcOk(C:Ctx)(orc:FuncId→List AVal→Option AVal):Prop:=∀f args r,orc f args=some r→∀h,Sat C f args h fun r2 h2=>r2=r∧h2=h
theorem th{orc:FuncId→List AVal→Option AVal}(horc:OrcOk C orc)(lf:Nat):∀n,CallOk C (callX C orc lf n):=by
 intro n
 induction n with
 |zero=>intro f args h r h' g;simp[callX]at g
 |succ n ih=>
  intro f args h r h' g
  simp only[callX]at g
  split at g
  ·rename_i e;cases g;exact horc _ _ _ e h
  ·split at g
   ·cases g
   ·rename_i fn hfn
    split at g
    ·cases g
    ·rename_i c hc
     split at g
     ·rename_i hs
      obtain⟨s1,s2,s3,s4,s5⟩:=hs
      split at g
      ·rename_i rs e1
       have hend:=nC g
       refine(Sat.of_body0 hfn hc s1 s2 s3 s4 (R:=fun r2 h2=>r2=r∧Kill h2 h') ?_).kill
       have:=(td ih lf s5 c (j7 _ _ _ (Tr.full_mk _)) s2 e1 (Q:=fun e t' h9=>match e with
        | .normal=>need (resA C t' h9 fn.results.toList) fun r2=>r2=r∧Kill h9 h'
        | .ret=>need (resA C t' h9 fn.results.toList) fun r2=>r2=r∧Kill h9 h'
        |_=>False) (fun q hq=>?_)).1
       ·rwa [tf _ (by omega)]at this
       ·obtain⟨h1,e,hkill⟩:=hend q hq
        obtain⟨ex,ts,h9⟩:=q
        unfold endX at e
        split at e
        ·rename_i hqq;cases hqq
         split at e
         ·rename_i hr;cases e;exact au hr ⟨rfl,hkill⟩
         ·cases e
        ·rename_i hqq;cases hqq
         split at e
         ·rename_i hr;cases e;exact au hr ⟨rfl,hkill⟩
         ·cases e
        ·cases e
      ·cases g
     ·cases g
end
end Go.Av
namespace Go.Av
open Go.RowKit
section
variable {C:Ctx}
def GClo(C:Ctx):Prop:=∀g cs,C.G g=some cs→Clo 0 (.ad cs)
theorem Sat.frame(hG:GClo C){f:FuncId}{args:List AVal}{R:AVal→Heap→Prop}(ha:∀x∈args,Clo 0 x)(hR:∀r h',R r h'→Clo 0 r∧h'=[])
  (s:Sat C f args [] R)(h:Heap):Sat C f args h fun r h'=>R r []∧h'=h:=by
 intro B S μ w vs fit rl
 have st0:∀(x:AVal) (v:Value),Clo 0 x→Rep w S μ x v→Rep w S [] x v:=fun x v hc hr=>by
  have:=hc.rep (S':=S) hr fun a ha=>ha
  simpa using this
 have fit0:Fits C w.heap.size S [] [] w:=by
  refine⟨fun g cs hg=>st0 _ _ (hG g cs hg) (fit.glob g cs hg),rfl,?_,?_,Nat.le_refl _,fit.lie,?_⟩
  ·intro p q m m' b h1;simp at h1
  ·intro p m b h1;simp at h1
  ·intro p m k h1;simp at h1
 have rl0:RepL w S [] args vs:=⟨rl.1,fun i x hx=>st0 _ _ (ha x (List.mem_of_getElem? hx)) (rl.2 i x hx)⟩
 refine(s _ S [] w vs fit0 rl0).mono fun v w' hp=>?_
 obtain⟨r,h',S',μ',hr,st,fit',hrep⟩:=hp
 obtain⟨hclo,rfl⟩:=hR r h' hr
 obtain rfl:μ'=[]:=List.length_eq_zero_iff.1 (by rw[fit'.len];rfl)
 have own:∀(p:Nat) (m:MB) (b:Nat),μ[p]? =some m→m.blk=some b→∀a,S' a→a.block≠b:=fun p m b h1 e1 a ha=>by
  obtain⟨k1,k2,k3⟩:=fit.own p m b h1 e1
  rcases st.new a ha with h2|h2
  ·exact k3 a h2
  ·omega
 have st2:Step B S μ w S' μ w':=⟨st.sub,st.keep,st.below.mono fit.base,MapLe.refl _,fun a ha=>(st.new a ha).imp id fun e=>Nat.le_trans fit.base e⟩
 refine⟨r,h,S',μ,⟨hr,rfl⟩,st2,?_,?_⟩
 ·refine⟨fun g cs hg=>(fit.glob g cs hg).mono st2,fit.len,fit.sep,fun p m b h1 e1=>?_,Nat.le_trans fit.base st.below.size,fit'.lie,fun p m k h1 h2=>?_⟩
  ·obtain⟨k1,k2,k3⟩:=fit.own p m b h1 e1
   exact⟨k1,Nat.lt_of_lt_of_le k2 st.below.size,own p m b h1 e1⟩
  ·exact(fit.blk p m k h1 h2).mono st2 fun b hb=>st.below.block b (fit.own p m b h1 hb).2.1
 ·have grow:∀(x:AVal) (v:Value),Rep w' S' [] x v→Rep w' S' μ x v:=fun x v hr=>by
   refine hr.mono (B:=0) (S':=S') (w':=w') ⟨fun _ ha=>ha,fun _ _=>rfl,Below.refl _ _,fun p m hm=>by simp at hm,fun _ ha=>.inl ha⟩
  exact grow _ _ hrep
def plainB:AVal→Bool
 | .int _ _=>true
 | .bool _=>true
 | .str _=>true
 |_=>false
theorem oU{n:Nat}{x:AVal}(h:plainB x=true):Clo n x:=by
 cases x<;>first|exact .int _ _|exact .bool _|exact .str _|cases h
def isV(v:AVal):Option (AVal×Heap)→Bool
 |some (r,h1)=>match frzX h1 0 20 r with
  |some y=>beqA y v
  |none=>false
 |none=>false
theorem Sat.closedV(hG:GClo C){orc:FuncId→List AVal→Option AVal}(horc:OrcOk C orc)(lf n:Nat){f:FuncId}{args:List AVal}{v:AVal}(ha:args.all plainB=true)(hv:cloA 0 v=true)
  (hrun:isV v (callX C orc lf n f args [])=true)(h:Heap):Sat C f args h fun r2 h2=>r2=v∧h2=h:=by
 unfold isV at hrun
 split at hrun
 ·rename_i r h1 e
  split at hrun
  ·rename_i y hy
   have ey:=dH _ _ hrun
   subst ey
   have s:=(th horc lf n f args [] r h1 e).letgo (v:=y) (by simp) (nz _ _ _ _ _ hy)
   refine(s.frame hG (fun x hx=>oU (List.all_eq_true.1 ha x hx)) (fun r h' ⟨e1,e2⟩=>⟨by rw[e1];exact eP 0 _ hv,e2⟩) h).mono fun r2 h2 ⟨⟨e1,_⟩,e2⟩=>⟨e1,e2⟩
  ·cases hrun
 ·cases hrun
end
end Go.Av
namespace Go.Av
open Go Go.Proofs Go.RowKit Go.ChangeShapes Go.WideShapes
def flatD:DataW Unit→List Value
 | .lit (.int k n)=>[.int k n]
 | .agg l=>flatL l
 |_=>[]
where flatL:List (DataW Unit)→List Value
 | []=>[]
 |d::l=>flatD d++flatL l
noncomputable def laidCells(w:World)(g:Nat)(d:DataW Unit):World:=
 {w with heap:=w.heap.modify g fun
   | .cells _ t frozen=>.cells (flatD d).toArray t frozen
   |o=>o}
noncomputable def putG(w:World)(g:Nat)(vs:Array Value):World:=
 {w with heap:=w.heap.modify g fun
   | .cells _ t frozen=>.cells vs t frozen
   |o=>o}
noncomputable def laidWorld(os:Os)(args:Array Value):World:=
 putG (putG (laidCells (laidCells (laidCells
  (World.holding Tryz.prog os ⟨#[.cells #[.string ⟨#[118,97,108,117,101,32,111,117,116,32,111,102,32,114,97,110,103,101]⟩] 307,.cells #[.string ⟨#[105,110,118,97,108,105,100,32,115,121,110,116,97,120]⟩] 307],args,[]⟩)
  4 Go.Proofs.YtmfhelaoeaifeaaGreatDoor.Rows.laid_math_bits_deBruijn32tab) 5 Go.Proofs.YtmfhelaoeaifeaaGreatDoor.Rows.laid_math_bits_deBruijn64tab) 3 Go.Proofs.YtmfhelaoeaifeaaGreatDoor.Rows.laid_internal_strconv_uint64pow10)
  2 #[.iface 305 (.pointer (some ⟨(World.settled Tryz.prog os).heap.size,0,none⟩))])
  1 #[.iface 305 (.pointer (some ⟨(World.settled Tryz.prog os).heap.size+1,0,none⟩))]
def gM(m:Int):Nat→Option (List AVal):=fun g=>if g=0 then some [.int .i64 m]else none
theorem zP(m:Int):GOk (gM m):=⟨m,by simp[gM]⟩
theorem xa(m:Int):GClo (CT (gM m)):=fun g cs h=>by
 simp only[x3,gM]at h
 split at h
 ·cases h
  exact .ad _ fun c hc=>by simp at hc;subst hc;exact .int _ _
 ·cases h
theorem xb{W:World}{m:Int}(hm:W.cell? ⟨0,0,none⟩=some (.int .i64 m)):∀g cs,(CT (gM m)).G g=some cs→Rep W (lies0 W) [] (.ad cs) (.pointer (some ⟨g,0,none⟩)):=fun g cs h=>by
 simp only[x3,gM]at h
 split at h
 ·rename_i e;subst e;cases h
  refine .ad _ _ 0 (fun _=>.int .i64 m) (by simp) (fun j c hj=>?_) (fun j c hj=>?_)
  ·match j with
   |0=>simp at hj;subst hj;exact⟨by unfold lies0;rw[hm];rfl,hm,rfl⟩
   |j+1=>simp at hj
  ·match j with
   |0=>simp at hj;subst hj;exact .int _ _
   |j+1=>simp at hj
 ·cases h
theorem lA{W:World}(h:W.ShapedOpen Tryz.prog):∃m,W.cell? ⟨0,0,none⟩=some (.int .i64 m):=
 Go.Proofs.cell_of_shapedOpen_int (zero:= #[.int .i64 0]) (t:=3) h (of_decide_eq_true (by kernel_rfl)) (by kernel_rfl) rfl (by kernel_rfl) (by kernel_rfl) Tryz.underlying3
end Go.Av
namespace Go.Av
open Go Go.Proofs Go.RowKit
attribute [local irreducible] WP WPl WPix Sat
namespace Qy
mutual
def dep:Qy→Int→Int
 | .mk _ _ _ ks,a=>if a>64 then a else depL ks a a
def depL:List Qy→Int→Int→Int
 | [],_,m=>m
 |k::ks,a,m=>depL ks a (if k.dep (a+1)>m then k.dep (a+1)else m)
end
mutual
def nod:Qy→Int
 | .mk _ _ _ ks=>nodL ks 1
def nodL:List Qy→Int→Int
 | [],m=>m
 |k::ks,m=>nodL ks (m+k.nod)
end
mutual
theorem nod_in:∀(q:Qy),1≤q.nod∧q.nod≤q.sz
 | .mk _ _ s ks=>by
  rw[nod,sz]
  have:=nodL_in ks 1
  omega
theorem nodL_in:∀(ks:List Qy) (m:Int),m≤nodL ks m∧nodL ks m≤m+szL ks
 | [],m=>by simp[nodL,szL]
 |k::ks,m=>by
  rw[nodL,szL]
  have h1:=nod_in k
  have h2:=nodL_in ks (m+k.nod)
  omega
end
end Qy
variable (G:Nat→Option (List AVal))
theorem tj:∀(q:Qy) (a:Int) (h:Heap),1≤a→a≤65→q.mx≤9223372036854775807→Sat (CT G) 81 [q.av,.int .i64 a] h (fun r h'=>r=.int .i64 (q.dep a)∧h'=h):=by
 refine Qy.ind fun op num s ks ih=>?_
 intro a h h1 h2 hz
 obtain⟨hsl,hkl,hkm⟩:=Qy.mx_mk hz
 have hml:(ks.map Qy.av).length=ks.length:=List.length_map ..
 rw[Qy.av_eq,Qy.dep]
 by_cases ha:a>64
 ·rw[if_pos ha]
  have g0:decide (a>64)=true:=by simp[ha]
  have F:=g0
  refine sb [.tmp 4] (fn:=Tryz.f81) Tryz.func81 ?_
  intro Q hQ
  refine wk F ?_
  refine ee hQ F ?_
  exact Fin.plain (.int _ _) ⟨rfl,rfl⟩
 ·rw[if_neg ha]
  have g0:decide (a>64)=false:=by simp[ha]
  have wa:IntKind.i64.wrap (a+1)=a+1:=by rw[IntKind.wrap_i64];omega
  have F:=F3 g0 wa hml
  refine sb [.tmp 4] (fn:=Tryz.f81) Tryz.func81 ?_
  intro Q hQ
  refine wk F ?_
  refine lm (fun nL tL hL=>∃(k:Nat) (m:Int),ks.length-k=nL∧h++[.row 25 4 0 [.agg [.int .i64 op,.int .i64 num,.str s,.sl 4 (ks.map Qy.av)]]]=hL∧tL 6=.int .i64 k∧tL 5=.int .i64 m∧k≤ks.length∧Qy.depL ks a a=Qy.depL (ks.drop k) a m) ((fun(k:Nat) (m:Int)=>(ks.length-k:Nat)) (0) (a)) ?_ ?_
  ·refine Wkn.refl ⟨0,a,rfl,aC,?_,?_,by omega,rfl⟩
   all_goals first|exact zq F|rfl|omega|trivial|skip
  rintro _ s2 h' ⟨k,m,rfl,rfl,e6,e5,hk,hm⟩ K2 hK2
  simp only[ai,ap,Nat.reduceEqDiff, ↓reduceIte]at e6 e5
  have F:=F3 F e6 e5
  refine wk F ?_
  refine cq F (fun c1=>?_) (fun c1=>?_)<;>(try exact c1.elim)<;>(refine wk F ?_)
  ·have c2:k<ks.length:=by omega
   obtain⟨y,hy,hym⟩:=af c2
   have hc:=ih y hym (a+1) (h++[.row 25 4 0 [.agg [.int .i64 op,.int .i64 num,.str s,.sl 4 (ks.map Qy.av)]]]) (by omega) (by omega) (hkm y hym)
   rw[aA hy,Qy.depL]at hm
   generalize y.dep (a+1)=e at hm hc
   obtain⟨yo,yn,ys,yl⟩:=y
   rw[Qy.av_eq]at hc
   have F:=F3 F hy c2
   try refine sq F ?_
   refine wk F ?_
   refine kq F (hc) ?_
   refine cq F (fun c3=>?_) (fun c3=>?_)<;>(try exact c3.elim)<;>(refine wk F ?_)
   ·rw[if_pos (by omega)]at hm
    refine hK2 _ _ _ (Wkn.refl ⟨k+1,e,rfl,aC,?_,?_,by omega,hm⟩) (by omega)
    all_goals first|exact zq F|rfl|omega|trivial|skip
   ·rw[if_neg (by omega)]at hm
    refine hK2 _ _ _ (Wkn.refl ⟨k+1,m,rfl,aC,?_,?_,by omega,hm⟩) (by omega)
    all_goals first|exact zq F|rfl|omega|trivial|skip
  ·rw[aB c1,Qy.depL]at hm
   refine ee hQ F ?_
   exact Fin.plain (.int _ _) ⟨by rw[hm],rfl⟩
end Go.Av
namespace Go.Av
open Go Go.Proofs Go.RowKit
attribute [local irreducible] WP WPl WPix Sat
variable (G:Nat→Option (List AVal))
theorem tk:∀(q:Qy) (h:Heap),q.sz≤1048576→Sat (CT G) 41 [q.av] h (fun r h'=>r=.int .i64 q.nod∧h'=h):=by
 refine Qy.ind fun op num s ks ih=>?_
 intro h hz
 have hkl:=Qy.szL_len ks
 have hkm:∀k∈ks,k.sz≤Qy.szL ks:=fun k hk=>Qy.szL_mem hk
 have hnt:=Qy.nodL_in ks 1
 rw[Qy.sz]at hz
 have hml:(ks.map Qy.av).length=ks.length:=List.length_map ..
 rw[Qy.av_eq,Qy.nod]
 have F:=hml
 refine sb [.tmp 2] (fn:=Tryz.f41) Tryz.func41 ?_
 intro Q hQ
 refine wk F ?_
 refine lm (fun nL tL hL=>∃(k:Nat) (m:Int),ks.length-k=nL∧h++[.row 25 4 0 [.agg [.int .i64 op,.int .i64 num,.str s,.sl 4 (ks.map Qy.av)]]]=hL∧tL 4=.int .i64 k∧tL 3=.int .i64 m∧k≤ks.length∧1≤m∧Qy.nodL ks 1=Qy.nodL (ks.drop k) m) ((fun(k:Nat) (m:Int)=>(ks.length-k:Nat)) (0) (1)) ?_ ?_
 ·refine Wkn.refl ⟨0,1,rfl,aC,?_,?_,by omega,by omega,rfl⟩
  all_goals first|exact zq F|rfl|omega|trivial|skip
 rintro _ s2 h' ⟨k,m,rfl,rfl,e4,e3,hk,h1,hm⟩ K2 hK2
 simp only[ai,ap,Nat.reduceEqDiff, ↓reduceIte]at e4 e3
 have F:=F3 F e4 e3
 refine wk F ?_
 refine cq F (fun c1=>?_) (fun c1=>?_)<;>(try exact c1.elim)<;>(refine wk F ?_)
 ·have c2:k<ks.length:=by omega
  obtain⟨y,hy,hym⟩:=af c2
  have hc:=ih y hym (h++[.row 25 4 0 [.agg [.int .i64 op,.int .i64 num,.str s,.sl 4 (ks.map Qy.av)]]]) (by have:=hkm y hym;omega)
  rw[aA hy,Qy.nodL]at hm
  have hb:=Qy.nodL_in (ks.drop (k+1)) (m+y.nod)
  have hy1:=Qy.nod_in y
  generalize y.nod=e at hm hc hb hy1
  obtain⟨yo,yn,ys,yl⟩:=y
  rw[Qy.av_eq]at hc
  have wm:IntKind.i64.wrap (m+e)=m+e:=by rw[IntKind.wrap_i64];omega
  have F:=F4 F hy c2 wm
  try refine sq F ?_
  refine wk F ?_
  refine kq F (hc) ?_
  refine hK2 _ _ _ (Wkn.refl ⟨k+1,m+e,rfl,aC,?_,?_,by omega,by omega,hm⟩) (by omega)
  all_goals first|exact zq F|rfl|omega|trivial|skip
 ·rw[aB c1,Qy.nodL]at hm
  refine ee hQ F ?_
  exact Fin.plain (.int _ _) ⟨by rw[hm],rfl⟩
theorem tl:∀(q:Qy) (a:Int) (h:Heap),1≤a→a≤65→q.mx≤9223372036854775807→Sat (CT G) 114 [q.av,.int .i64 a] h (fun r h'=>r=.int .i64 (q.dep a)∧h'=h):=by
 refine Qy.ind fun op num s ks ih=>?_
 intro a h h1 h2 hz
 obtain⟨hsl,hkl,hkm⟩:=Qy.mx_mk hz
 have hml:(ks.map Qy.av).length=ks.length:=List.length_map ..
 rw[Qy.av_eq,Qy.dep]
 by_cases ha:a>64
 ·rw[if_pos ha]
  have g0:decide (a>64)=true:=by simp[ha]
  have F:=g0
  refine sb [.tmp 4] (fn:=Tryz.f114) Tryz.func114 ?_
  intro Q hQ
  refine wk F ?_
  refine ee hQ F ?_
  exact Fin.plain (.int _ _) ⟨rfl,rfl⟩
 ·rw[if_neg ha]
  have g0:decide (a>64)=false:=by simp[ha]
  have wa:IntKind.i64.wrap (a+1)=a+1:=by rw[IntKind.wrap_i64];omega
  have F:=F3 g0 wa hml
  refine sb [.tmp 4] (fn:=Tryz.f114) Tryz.func114 ?_
  intro Q hQ
  refine wk F ?_
  refine lm (fun nL tL hL=>∃(k:Nat) (m:Int) (j:Heap),ks.length-k=nL∧h++(.row 25 4 0 [.agg [.int .i64 op,.int .i64 num,.str s,.sl 4 (ks.map Qy.av)]]::j)=hL∧tL 15=.int .i64 k∧tL 5=.int .i64 m∧k≤ks.length∧Qy.depL ks a a=Qy.depL (ks.drop k) a m) ((fun(k:Nat) (m:Int) (j:Heap)=>(ks.length-k:Nat)) (0) (a) ([])) ?_ ?_
  ·refine Wkn.refl ⟨0,a,[],rfl,aC,?_,?_,by omega,rfl⟩
   all_goals first|exact zq F|rfl|omega|trivial|skip
  rintro _ s2 h' ⟨k,m,j,rfl,rfl,e15,e5,hk,hm⟩ K2 hK2
  simp only[ai,ap,Nat.reduceEqDiff, ↓reduceIte]at e15 e5
  have F:=F3 F e15 e5
  refine wk F ?_
  refine cq F (fun c1=>?_) (fun c1=>?_)<;>(try exact c1.elim)<;>(refine wk F ?_)
  ·have c2:k<ks.length:=by omega
   obtain⟨y,hy,hym⟩:=af c2
   have hc:=fun h=>ih y hym (a+1) h (by omega) (by omega) (hkm y hym)
   rw[aA hy,Qy.depL]at hm
   generalize y.dep (a+1)=e at hm hc
   obtain⟨yo,yn,ys,yl⟩:=y
   rw[Qy.av_eq]at hc
   by_cases hem:e>m
   ·have d0:decide (e>m)=true:=by simp;omega
    rw[if_pos (by omega)]at hm
    have F:=F5 F hy c2 d0 @aw
    try refine sq F ?_
    refine wk F ?_
    refine kq F (hc _) ?_
    refine hK2 _ _ _ (Wkn.refl ⟨k+1,e,j++[Blk.row 25 4 0 [.agg [.int .i64 yo,.int .i64 yn,.str ys,.sl 4 (yl.map Qy.av)]]],rfl,by simp,?_,?_,by omega,hm⟩) (by omega)
    all_goals first|exact zq F|rfl|omega|trivial|skip
   ·have d0:decide (e>m)=false:=by simp;omega
    rw[if_neg (by omega)]at hm
    have F:=F5 F hy c2 d0 @aw
    try refine sq F ?_
    refine wk F ?_
    refine kq F (hc _) ?_
    refine hK2 _ _ _ (Wkn.refl ⟨k+1,m,j++[Blk.row 25 4 0 [.agg [.int .i64 yo,.int .i64 yn,.str ys,.sl 4 (yl.map Qy.av)]]],rfl,by simp,?_,?_,by omega,hm⟩) (by omega)
    all_goals first|exact zq F|rfl|omega|trivial|skip
  ·rw[aB c1,Qy.depL]at hm
   refine ee hQ F ?_
   exact Fin.plain (.int _ _) ⟨by rw[hm],rfl⟩
theorem tm:∀(q:Qy) (h:Heap),q.sz≤1048576→Sat (CT G) 65 [q.av] h (fun r h'=>r=.int .i64 q.nod∧h'=h):=by
 refine Qy.ind fun op num s ks ih=>?_
 intro h hz
 have hkl:=Qy.szL_len ks
 have hkm:∀k∈ks,k.sz≤Qy.szL ks:=fun k hk=>Qy.szL_mem hk
 have hnt:=Qy.nodL_in ks 1
 rw[Qy.sz]at hz
 have hml:(ks.map Qy.av).length=ks.length:=List.length_map ..
 rw[Qy.av_eq,Qy.nod]
 have F:=hml
 refine sb [.tmp 2] (fn:=Tryz.f65) Tryz.func65 ?_
 intro Q hQ
 refine wk F ?_
 refine lm (fun nL tL hL=>∃(k:Nat) (m:Int) (j:Heap),ks.length-k=nL∧h++(.row 25 4 0 [.agg [.int .i64 op,.int .i64 num,.str s,.sl 4 (ks.map Qy.av)]]::j)=hL∧tL 9=.int .i64 k∧tL 3=.int .i64 m∧k≤ks.length∧1≤m∧Qy.nodL ks 1=Qy.nodL (ks.drop k) m) ((fun(k:Nat) (m:Int) (j:Heap)=>(ks.length-k:Nat)) (0) (1) ([])) ?_ ?_
 ·refine Wkn.refl ⟨0,1,[],rfl,aC,?_,?_,by omega,by omega,rfl⟩
  all_goals first|exact zq F|rfl|omega|trivial|skip
 rintro _ s2 h' ⟨k,m,j,rfl,rfl,e9,e3,hk,h1,hm⟩ K2 hK2
 simp only[ai,ap,Nat.reduceEqDiff, ↓reduceIte]at e9 e3
 have F:=F3 F e9 e3
 refine wk F ?_
 refine cq F (fun c1=>?_) (fun c1=>?_)<;>(try exact c1.elim)<;>(refine wk F ?_)
 ·have c2:k<ks.length:=by omega
  obtain⟨y,hy,hym⟩:=af c2
  have hc:=fun h=>ih y hym h (by have:=hkm y hym;omega)
  rw[aA hy,Qy.nodL]at hm
  have hb:=Qy.nodL_in (ks.drop (k+1)) (m+y.nod)
  have hy1:=Qy.nod_in y
  generalize y.nod=e at hm hc hb hy1
  obtain⟨yo,yn,ys,yl⟩:=y
  rw[Qy.av_eq]at hc
  have wm:IntKind.i64.wrap (m+e)=m+e:=by rw[IntKind.wrap_i64];omega
  have F:=F5 F hy c2 wm @aw
  try refine sq F ?_
  refine wk F ?_
  refine kq F (hc _) ?_
  refine hK2 _ _ _ (Wkn.refl ⟨k+1,m+e,j++[Blk.row 25 4 0 [.agg [.int .i64 yo,.int .i64 yn,.str ys,.sl 4 (yl.map Qy.av)]]],rfl,by simp,?_,?_,by omega,by omega,hm⟩) (by omega)
  all_goals first|exact zq F|rfl|omega|trivial|skip
 ·rw[aB c1,Qy.nodL]at hm
  refine ee hQ F ?_
  exact Fin.plain (.int _ _) ⟨by rw[hm],rfl⟩
end Go.Av
namespace Go.Av
open Go Go.Proofs Go.RowKit
attribute [local irreducible] WP WPl WPix Sat
namespace Qy
def num:Qy→Int| .mk _ n _ _=>n
def op:Qy→Int| .mk o _ _ _=>o
def txt:Qy→Bs| .mk _ _ s _=>s
def kds:Qy→List Qy| .mk _ _ _ ks=>ks
mutual
def all(pl:Qy→Bool):Qy→Bool
 | .mk op num s ks=>allL pl ks&&pl (.mk op num s ks)
def allL(pl:Qy→Bool):List Qy→Bool
 | []=>true
 |k::ks=>k.all pl&&allL pl ks
end
theorem allL_eq(pl:Qy→Bool):∀ks:List Qy,allL pl ks=ks.all (all pl)
 | []=>by simp[allL]
 |k::ks=>by rw[allL,allL_eq pl ks];rfl
end Qy
variable (G:Nat→Option (List AVal))
theorem qM:∀(q:Qy) (d n:Int) (h:Heap),0≤d→d≤70→0≤n→n≤300→q.mx≤9223372036854775807→Sat (CT G) 26 [q.av,.int .i64 d,.int .i64 n] h (fun r h'=>r=.int .i64 (q.left d n)∧h'=h):=by
 refine Qy.ind fun op num s ks ih=>?_
 intro d n h d1 d2 n1 n2 hz
 obtain⟨hsl,hkl,hkm⟩:=Qy.mx_mk hz
 have hml:(ks.map Qy.av).length=ks.length:=List.length_map ..
 rw[Qy.av_eq,Qy.left]
 have q1:((s.length:Int)).tdiv 20=(s.length:Int)/20:=Int.tdiv_eq_ediv_of_nonneg (by omega)
 have q2:IntKind.i64.wrap ((s.length:Int)/20)=(s.length:Int)/20:=by rw[IntKind.wrap_i64];omega
 have q3:IntKind.i64.wrap (n-1)=n-1:=by rw[IntKind.wrap_i64];omega
 have q4:IntKind.i64.wrap (n-1-(s.length:Int)/20)=n-1-(s.length:Int)/20:=by rw[IntKind.wrap_i64];omega
 have q5:IntKind.i64.wrap (d+1)=d+1:=by rw[IntKind.wrap_i64];omega
 generalize hn0:n-1-(s.length:Int)/20=n0 at q4
 have hn3:n0≤300:=by omega
 have F:=F7 hml q1 q2 q3 q4 q5 hn0
 refine sb [.tmp 6] (fn:=Tryz.f26) Tryz.func26 ?_
 intro Q hQ
 refine wk F ?_
 refine lm (fun nL tL hL=>∃(k:Nat) (m:Int),ks.length-k=nL∧h++[.row 25 4 0 [.agg [.int .i64 op,.int .i64 num,.str s,.sl 4 (ks.map Qy.av)]]]=hL∧tL 7=.int .i64 k∧tL 2=.int .i64 m∧k≤ks.length∧m≤300∧Qy.leftL ks d n0=Qy.leftL (ks.drop k) d m) ((fun(k:Nat) (m:Int)=>(ks.length-k:Nat)) (0) (n0)) ?_ ?_
 ·refine Wkn.refl ⟨0,n0,rfl,aC,?_,?_,by omega,hn3,rfl⟩
  all_goals first|exact zq F|rfl|omega|trivial|skip
 rintro _ s2 h' ⟨k,m,rfl,rfl,e7,e2,hk,hm2,hm⟩ K2 hK2
 simp only[ai,ap,Nat.reduceEqDiff, ↓reduceIte]at e7 e2
 have F:=F3 F e7 e2
 by_cases c1:k<ks.length
 ·have b1:decide (k<ks.length)=true:=by simp[c1]
  obtain⟨y,hy,hym⟩:=af c1
  rw[aA hy,Qy.leftL]at hm
  by_cases c2:m>0∧d<70
  ·have b2:decide (m>0)=true:=by simp;omega
   have b3:decide (d<70)=true:=by simp;omega
   have hc:=ih y hym (d+1) m (h++[.row 25 4 0 [.agg [.int .i64 op,.int .i64 num,.str s,.sl 4 (ks.map Qy.av)]]]) (by omega) (by omega) (by omega) hm2 (hkm y hym)
   rw[if_pos c2]at hm
   have hle:=(Qy.left_le y (d+1) m).1
   generalize y.left (d+1) m=e at hm hc hle
   obtain⟨yo,yn,ys,yl⟩:=y
   rw[Qy.av_eq]at hc
   have dt:∀i:Decidable True, @decide True i=true:=fun i=>by simp
   have F:=F6 F b2 b3 hy c1 dt
   refine wk F ?_
   refine kq F (hc) ?_
   refine hK2 _ _ _ (Wkn.refl ⟨k+1,e,rfl,aC,?_,?_,by omega,by omega,hm⟩) (by omega)
   all_goals first|exact zq F|rfl|omega|trivial|skip
  ·rw[if_neg c2]at hm
   by_cases c3:m>0
   ·have b2:decide (m>0)=true:=by simp;omega
    have b3:decide (d<70)=false:=by simp;omega
    have F:=F4 F b1 b2 b3
    refine wk F ?_
    refine ee hQ F ?_
    exact Fin.plain (.int _ _) ⟨by rw[hm],rfl⟩
   ·have b2:decide (m>0)=false:=by simp;omega
    have F:=F3 F b1 b2
    refine wk F ?_
    refine ee hQ F ?_
    exact Fin.plain (.int _ _) ⟨by rw[hm],rfl⟩
 ·have b1:decide (k<ks.length)=false:=by simp[c1]
  rw[aB (by omega),Qy.leftL]at hm
  have F:=F2 F b1
  refine wk F ?_
  refine ee hQ F ?_
  exact Fin.plain (.int _ _) ⟨by rw[hm],rfl⟩
theorem oV(q:Qy)(h:Heap)(hz:q.mx≤9223372036854775807):Sat (CT G) 8 [q.av] h (fun r h'=>r=.bool (decide (q.left 0 300≤0))∧h'=h):=by
 have hc:=fun h=>qM G q 0 300 h (by omega) (by omega) (by omega) (by omega) hz
 generalize q.left 0 300=e at*
 obtain⟨yo,yn,ys,yl⟩:=q
 rw[Qy.av_eq]at*
 refine sb [.tmp 2] (fn:=Tryz.f8) Tryz.func8 ?_
 intro Q hQ
 refine wk trivial ?_
 refine kq trivial (hc _) ?_
 refine ee hQ trivial ?_
 exact Fin.plain (.bool _) ⟨rfl,rfl⟩
theorem oW(q:Qy)(h:Heap)(hz:q.mx≤9223372036854775807):Sat (CT G) 40 [q.av] h (fun r h'=>r=.int .i64 (q.dep 1)∧h'=h):=by
 have hc:=fun h=>tj G q 1 h (by omega) (by omega) hz
 generalize q.dep 1=e at*
 obtain⟨yo,yn,ys,yl⟩:=q
 rw[Qy.av_eq]at*
 refine sb [.tmp 2] (fn:=Tryz.f40) Tryz.func40 ?_
 intro Q hQ
 refine wk trivial ?_
 refine kq trivial (hc _) ?_
 refine ee hQ trivial ?_
 exact Fin.plain (.int _ _) ⟨rfl,rfl⟩
theorem oX(q:Qy)(h:Heap)(hz:q.mx≤9223372036854775807):Sat (CT G) 64 [q.av] h (fun r h'=>r=.int .i64 (q.dep 1)∧h'=h):=by
 have hc:=fun h=>tl G q 1 h (by omega) (by omega) hz
 generalize q.dep 1=e at*
 obtain⟨yo,yn,ys,yl⟩:=q
 rw[Qy.av_eq]at*
 refine sb [.tmp 2] (fn:=Tryz.f64) Tryz.func64 ?_
 intro Q hQ
 refine wk trivial ?_
 refine kq trivial (hc _) ?_
 refine ee hQ trivial ?_
 exact Fin.plain (.int _ _) ⟨rfl,rfl⟩
namespace Qy
theorem dI:∀(ks:List Qy) (a m:Int),m≤depL ks a m
 | [],a,m=>by rw[depL];omega
 |k::ks,a,m=>by
  rw[depL]
  split
  ·have:=dI ks a (k.dep (a+1));omega
  ·exact dI ks a m
mutual
theorem nD:∀(q:Qy) (a n:Int),1≤a→q.dep a≤12→0<q.left (a-1) n→(q.sz:Int)≤20*(n-q.left (a-1) n)
 | .mk op num s ks,a,n,h1,hd,hl=>by
  rw[left]at hl ⊢
  rw[dep]at hd
  rw[sz]
  have ha:¬a>64:=fun h=>by rw[if_pos h]at hd;omega
  rw[if_neg ha]at hd
  have:=lB ks a a (n-1-s.length/20) h1 (Int.le_refl _) hd hl
  omega
theorem lB:∀(ks:List Qy) (a m n:Int),1≤a→a≤m→depL ks a m≤12→0<leftL ks (a-1) n→(szL ks:Int)≤20*(n-leftL ks (a-1) n)
 | [],a,m,n,h1,h2,hd,hl=>by rw[leftL,szL];omega
 |k::ks,a,m,n,h1,h2,hd,hl=>by
  rw[depL]at hd
  rw[leftL]at hl ⊢
  rw[szL]
  have e1:a-1+1=a+1-1:=by omega
  rw[e1]at hl ⊢
  split at hl
  ·rename_i hc
   rw[if_pos hc]
   have h3:=(iw ks (a-1) (k.left (a+1-1) n)).1
   have hd2:k.dep (a+1)≤12∧∃m',a≤m'∧depL ks a m'≤12:=by
    split at hd
    ·exact⟨by have:=dI ks a (k.dep (a+1));omega,_,by omega,hd⟩
    ·exact⟨by have:=dI ks a m;omega,_,h2,hd⟩
   obtain⟨h4,m',h5,h6⟩:=hd2
   have k1:=nD k (a+1) n (by omega) h4 (by omega)
   have k2:=lB ks a m' _ h1 h5 h6 hl
   omega
  ·rename_i hc
   have:m≤12:=by
    split at hd
    ·have:=dI ks a (k.dep (a+1));omega
    ·have:=dI ks a m;omega
   omega
end
theorem small{q:Qy}(h:¬q.left 0 300≤0)(hd:q.dep 1≤12):q.sz≤6000:=by
 have:=nD q 1 300 (by omega) hd (by simpa using h)
 simp only[Int.sub_self]at this
 omega
end Qy
end Go.Av
namespace Go.Av
open Go Go.Proofs Go.RowKit
abbrev T2:=Int×Int
def tA(t:T2):AVal:=.agg [.int .i64 t.1,.int .i64 t.2]
def tadd(a b:T2):T2:=(a.1+b.1,a.2+b.2)
structure CS where
 al:T2
 st:T2
 fo:ML Int T2
 fe:ML Int T2
 tg:ML Bs T2
 it:ML Int It
 inn:ML Int Int
 ab:ML Int Int
 c1:Nat
 c2:Nat
 c3:Nat
 c4:Nat
 c5:Nat
 c6:Nat
def CS.row(m:Nat)(c:CS):AVal:=.agg [.int .i64 c.al.1,.int .i64 c.al.2,.int .i64 c.st.1,.int .i64 c.st.2,.hm m,.hm (m+1),.hm (m+2),.hm (m+3),.hm (m+4),.hm (m+5)]
def CS.bl(m:Nat)(c:CS):List Blk:=
 [.mp (encM iA tA c.fo) c.c1,.mp (encM iA tA c.fe) c.c2,.mp (encM AVal.str tA c.tg) c.c3,.mp (encM iA It.av c.it) c.c4,.mp (encM iA iA c.inn) c.c5,.mp (encM iA iA c.ab) c.c6,.row 0 10 0 [c.row m]]
def CS.z:CS:=⟨(0,0),(0,0),[],[],[],[],[],[],0,0,0,0,0,0⟩
def co(H:Heap)(m:Nat)(c:CS):Heap:=ov H m (c.bl m)
section
variable {H:Heap} {m:Nat} {c:CS}
end
end Go.Av
namespace Go.Av
open Go Go.Proofs Go.RowKit
def negT(t:T2):T2:=(-t.1, -t.2)
def oneT(t:It):T2:=(1,if t.read then 0 else 1)
def foF(t:T2):List Int→ML Int T2→Nat→ML Int T2×Nat
 | [],l,k=>(l,k)
 |id::ch,l,k=>foF t ch (upM l k id (tadd ((lkM l id).getD (0,0)) t)) (ckM l k id)
def CS.shift(c:CS)(ch:List Int)(feed:Int)(t:T2):CS:=
 {c with al:=tadd c.al t,fe:=upM c.fe c.c2 feed (tadd ((lkM c.fe feed).getD (0,0)) t),c2:=ckM c.fe c.c2 feed,fo:=(foF t ch c.fo c.c1).1,c1:=(foF t ch c.fo c.c1).2}
def tg1F(n:T2)(g:Bs)(l:ML Bs T2)(k:Nat):ML Bs T2×Nat:=
 if (tadd ((lkM l g).getD (0,0)) n).1=0 then(dlM l g,k)else(upM l k g (tadd ((lkM l g).getD (0,0)) n),ckM l k g)
def tgsF(n:T2):List Bs→ML Bs T2→Nat→ML Bs T2×Nat
 | [],l,k=>(l,k)
 |g::gs,l,k=>tgsF n gs (tg1F n g l k).1 (tg1F n g l k).2
def CS.tag(c:CS)(g:Bs)(n:T2):CS:= {c with tg:=(tg1F n g c.tg c.c3).1,c3:=(tg1F n g c.tg c.c3).2}
def CS.tags(c:CS)(gs:List Bs)(n:T2):CS:= {c with tg:=(tgsF n gs c.tg c.c3).1,c3:=(tgsF n gs c.tg c.c3).2}
def CS.star(c:CS)(b:Bool)(n:T2):CS:= {c with st:=if b then tadd c.st n else c.st}
def CS.count(c:CS)(ch:List Int)(t:It)(n:T2):CS:=((c.shift ch t.feed n).star t.star n).tags t.tags n
def chO(ab:ML Int Int):Nat→Int→Option (List Int)
 |0,id=>if id=0 then some []else none
 |k+1,id=>if id=0 then some []else(chO ab k ((lkM ab id).getD 0)).map (id:: ·)
def CS.chn(c:CS)(feed:Int):List Int:=(chO c.ab 7 ((lkM c.inn feed).getD 0)).getD []
end Go.Av
namespace Go.Av
open Go Go.Proofs Go.RowKit
attribute [local irreducible] WP WPl WPix Sat
section
variable {C:Ctx} {ops:Array Oper} {rest:List Oper} {t:Env} {h:Heap} {K:Env→Prop} {dst:Option Nat} {ty:TypeId} {pos:String} {aft:Array Edge}
end
variable (G:Nat→Option (List AVal))
end Go.Av
namespace Go.Av
open Go Go.Proofs Go.RowKit
attribute [local irreducible] WP WPl WPix Sat
variable (G:Nat→Option (List AVal))
end Go.Av
namespace Go.Av
open Go Go.Proofs Go.RowKit
attribute [local irreducible] WP WPl WPix Sat
variable (G:Nat→Option (List AVal))
end Go.Av
namespace Go.Av
open Go Go.Proofs Go.RowKit
attribute [local irreducible] WP WPl WPix Sat
variable (G:Nat→Option (List AVal))
end Go.Av
namespace Go.Av
open Go Go.Proofs Go.RowKit
attribute [local irreducible] WP WPl WPix Sat
def CS.drop(d:CS)(k:Int)(t:It):CS:= {d.count (d.chn t.feed) t (negT (oneT t))with it:=dlM d.it k}
variable (G:Nat→Option (List AVal))
def CS.less(d:CS)(feed:Int):CS:= {d with fe:=dlM d.fe feed,inn:=dlM d.inn feed}
end Go.Av
namespace Go.Av
open Go Go.Proofs Go.RowKit
attribute [local irreducible] WP WPl WPix Sat
variable (G:Nat→Option (List AVal))
def CS.of(c:CS)(kind id:Int)(g:Bs):T2:=
 if kind=1 then c.al else if kind=2 then(lkM c.fo id).getD (0,0)else if kind=3 then(lkM c.fe id).getD (0,0)else if kind=4 then(lkM c.tg g).getD (0,0)else if kind=5 then c.st else(0,0)
end Go.Av
namespace Go.Av
open Go Go.Proofs Go.RowKit
section
variable {κ α:Type} [DecidableEq κ]
def sumM(w:α→Int):ML κ α→Int
 | []=>0
 |e::l=>w e.2.1+sumM w l
def atM(w:α→Int):Option α→Int
 |none=>0
 |some a=>w a
theorem gC(w:α→Int)(l:ML κ α)(c:Nat)(x:κ)(a:α):sumM w (upM l c x a)=sumM w l+w a-atM w (lkM l x):=by
 induction l with
 |nil=>simp[upM,sumM,lkM,atM]
 |cons e l ih=>
  simp only[upM,lkM]
  split
  ·simp only[sumM,atM];omega
  ·simp only[sumM,ih];omega
theorem nF(w:α→Int)(l:ML κ α)(x:κ):sumM w (dlM l x)=sumM w l-atM w (lkM l x):=by
 induction l with
 |nil=>simp[dlM,sumM,lkM,atM]
 |cons e l ih=>
  simp only[dlM,lkM]
  split
  ·simp only[sumM,atM];omega
  ·simp only[sumM,ih];omega
omit [DecidableEq κ] in
theorem cQ{w:α→Int}(h:∀a,0≤w a)(l:ML κ α):0≤sumM w l:=by
 induction l with
 |nil=>simp[sumM]
 |cons e l ih=>have:=h e.2.1;simp only[sumM];omega
omit [DecidableEq κ] in
theorem gD{w:α→Int}(h:∀a,w a≤1)(l:ML κ α):sumM w l≤l.length:=by
 induction l with
 |nil=>simp[sumM]
 |cons e l ih=>have:=h e.2.1;simp only[sumM,List.length_cons];omega
theorem tv{w:α→Int}(h:∀a,0≤w a)(l:ML κ α)(x:κ):atM w (lkM l x)≤sumM w l:=by
 induction l with
 |nil=>simp[sumM,lkM,atM]
 |cons e l ih=>
  have h1:=h e.2.1
  have h2:=cQ h l
  simp only[lkM]
  split
  ·simp only[sumM,atM];omega
  ·simp only[sumM];omega
theorem qU{w:α→Int}(h:∀a,0≤w a){l:ML κ α}(h0:sumM w l≤0){x:κ}{a:α}(hx:lkM l x=some a):w a=0:=by
 have:=tv h l x
 rw[hx]at this
 have:=h a
 simp only[atM]at *;omega
end
def inFo(id:Int)(f:Fo):Int:=if f.inn=id then 1 else 0
def inFe(id:Int)(f:Fe):Int:=if f.inn=id then 1 else 0
theorem gE(id:Int)(f:Fo):0≤inFo id f:=by unfold inFo;split<;>omega
theorem gF(id:Int)(f:Fe):0≤inFe id f:=by unfold inFe;split<;>omega
theorem nG(id:Int)(f:Fo):inFo id f≤1:=by unfold inFo;split<;>omega
theorem nH(id:Int)(f:Fe):inFe id f≤1:=by unfold inFe;split<;>omega
theorem qV{l:ML Int Fo}:∀{k:Nat} {id:Int} {d:Nat},deepO l k id=some d→∀{k':Nat},d≤k'→deepO l k' id=some d:=by
 intro k
 induction k with
 |zero=>
  intro id d h k' hk
  rw[deepO]at h
  cases hl:lkM l id with
  |none=>
   rw[hl]at h;simp at h;subst h
   cases k' with
   |zero=>rw[deepO,hl];simp
   |succ k'=>rw[deepO,hl]
  |some f=>rw[hl]at h;simp at h
 |succ k ih=>
  intro id d h k' hk
  rw[deepO]at h
  cases hl:lkM l id with
  |none=>
   rw[hl]at h;simp at h;subst h
   cases k' with
   |zero=>rw[deepO,hl];simp
   |succ k'=>rw[deepO,hl]
  |some f=>
   rw[hl]at h
   simp only[Option.map_eq_some_iff]at h
   obtain⟨j,hj,rfl⟩:=h
   obtain⟨k'',rfl⟩:∃k'',k'=k''+1:=⟨k'-1,by omega⟩
   rw[deepO,hl]
   simp only[ih hj (k':=k'') (by omega),Option.map_some]
theorem i5{l l':ML Int Fo}(P:Int→Prop)(h:∀id,P id→lkM l' id=lkM l id)(hc:∀id f,P id→lkM l id=some f→P f.inn):∀(k:Nat) (id:Int),P id→deepO l' k id=deepO l k id:=by
 intro k
 induction k with
 |zero=>intro id hp;rw[deepO,deepO,h id hp]
 |succ k ih=>
  intro id hp
  rw[deepO,deepO,h id hp]
  cases hl:lkM l id with
  |none=>rfl
  |some f=>simp only[ih f.inn (hc id f hp hl)]
structure PS.Inv (s:PS):Prop where
 w1:WFM s.fo s.c1
 w2:WFM s.fe s.c2
 w3:WFM s.it s.c3
 w4:WFM s.se s.c4
 w7:WFM s.gu s.c7
 w8:WFM s.he s.c8
 i1:∀k f,lkM s.fo k=some f→f.id=k∧1≤k∧k≤1048576
 i2:∀k f,lkM s.fe k=some f→f.id=k∧1≤k∧k≤1048576
 i3:∀k t,lkM s.it k=some t→t.id=k∧1≤k∧k≤1048576
 i4:∀k q,lkM s.se k=some q→q.id=k∧1≤k∧k≤1048576
 u1:∀k f,lkM s.fo k=some f→f.inn=0∨(lkM s.fo f.inn).isSome=true
 u2:∀k f,lkM s.fe k=some f→f.inn=0∨(lkM s.fo f.inn).isSome=true
 u3:∀k t,lkM s.it k=some t→(lkM s.fe t.feed).isSome=true
 dp:∀id,∃d,d≤7∧deepO s.fo 7 id=some d
 hd:∀id,id≠0→(lkM s.he id).getD 0=sumM (inFo id) s.fo+sumM (inFe id) s.fe
 h0:lkM s.he 0=none
 tg:∀k t,lkM s.it k=some t→Srt t.tags∧t.tags.length≤8
 l1:s.fo.length≤64
 l2:s.fe.length≤64
 l3:s.it.length≤1024
 l4:s.se.length≤32
theorem PS.Inv.z:PS.z.Inv where
 w1:=.nil
 w2:=.nil
 w3:=.nil
 w4:=.nil
 w7:=.nil
 w8:=.nil
 i1:=fun _ _ h=>by cases h
 i2:=fun _ _ h=>by cases h
 i3:=fun _ _ h=>by cases h
 i4:=fun _ _ h=>by cases h
 u1:=fun _ _ h=>by cases h
 u2:=fun _ _ h=>by cases h
 u3:=fun _ _ h=>by cases h
 dp:=fun _=>⟨0,by omega,rfl⟩
 hd:=fun _ _=>rfl
 h0:=rfl
 tg:=fun _ _ h=>by cases h
 l1:=by simp[PS.z]
 l2:=by simp[PS.z]
 l3:=by simp[PS.z]
 l4:=by simp[PS.z]
theorem PS.Inv.few{s:PS}(h:s.Inv):s.few:=by
 intro id
 by_cases h0:id=0
 ·subst h0;rw[h.h0];simp
 ·have h1:=h.hd id h0
  have h2:=cQ (gE id) s.fo
  have h3:=cQ (gF id) s.fe
  have h4:=gD (nG id) s.fo
  have h5:=gD (nH id) s.fe
  have h6:=h.l1
  have h7:=h.l2
  omega
def heF(he:ML Int Int)(c:Nat)(id k:Int):ML Int Int:=if id=0 then he else upM he c id ((lkM he id).getD 0+k)
def chF(he:ML Int Int)(c:Nat)(id:Int):Nat:=if id=0 then c else ckM he c id
theorem cy(s:PS)(id k:Int):s.hold id k= {s with he:=heF s.he s.c8 id k,c8:=chF s.he s.c8 id}:=by
 unfold PS.hold heF chF;split<;>rfl
theorem dV(he:ML Int Int)(c:Nat)(id k x:Int):(lkM (heF he c id k) x).getD 0=(lkM he x).getD 0+(if x=id∧id≠0 then k else 0):=by
 unfold heF
 by_cases h:id=0
 ·rw[if_pos h,if_neg (by omega)];omega
 ·rw[if_neg h,eH]
  by_cases hx:x=id
  ·subst hx;rw[if_pos rfl,if_pos ⟨rfl,h⟩];rfl
  ·rw[if_neg hx,if_neg (by omega)];omega
theorem gG{he:ML Int Int}(c:Nat)(id k:Int)(h:lkM he 0=none):lkM (heF he c id k) 0=none:=by
 unfold heF
 split
 ·exact h
 ·rename_i h1;rw[eH,if_neg (fun e=>h1 e.symm)];exact h
theorem eV{he:ML Int Int}{c:Nat}(w:WFM he c)(id k:Int):WFM (heF he c id k) (chF he c id):=by
 unfold heF chF
 split
 ·exact w
 ·exact w.up _ _
theorem tw{s:PS}(h:s.Inv)(id k:Int)(hk: -1≤k∧k≤1):(s.hold id k).few:=by
 intro x
 have h1:=dV s.he s.c8 id k x
 rw[cy]
 simp only
 have h6:=h.l1
 have h7:=h.l2
 have h2:=cQ (gE x) s.fo
 have h3:=cQ (gF x) s.fe
 have h4:=gD (nG x) s.fo
 have h5:=gD (nH x) s.fe
 by_cases h0:x=0
 ·subst h0;rw[h1,h.h0];simp only[Option.getD_none];split<;>omega
 ·have:=h.hd x h0
  rw[h1];split<;>omega
def PS.dpt(s:PS)(id:Int):Nat:=(deepO s.fo 7 id).getD 0
def PS.ok(L:Leaf)(s:PS)(e:Ev):Bool:=s.fits (L.ck e) (s.dpt e.b) e
def PS.aft(s:PS)(e:Ev):PS:=s.after (tgF ((lkM s.it e.a).getD It.z).tags e.s e.n) e
def PS.step(L:Leaf)(s:PS)(e:Ev):PS:=if s.ok L e then s.aft e else s
theorem tz{L:Leaf}{e:Ev}(h:L.right e=true)(hk:e.kind≠13):1≤e.a∧e.a≤1048576:=by
 have:idF e.a=true:=by
  unfold Leaf.right at h
  repeat' (split at h)
  all_goals first| (simp only[Bool.and_eq_true]at h;exact h.1)|exact h|omega| (cases h)
 simpa [idF]using this
theorem vr{l:List Bs}{t:Bs}(hs:Srt l)(ht:t ∉ l):Srt (l.take (lbF l t)++t::l.drop (lbF l t)):=by
 induction l with
 |nil=>simp[lbF,Srt]
 |cons a l ih=>
  have hs':=hs
  unfold Srt at hs
  rw[List.pairwise_cons]at hs
  rw[iy]
  split
  ·rename_i hat
   simp only[List.take_succ_cons,List.drop_succ_cons,List.cons_append]
   unfold Srt
   rw[List.pairwise_cons]
   refine⟨fun x hx=>?_,ih hs.2 (fun h=>ht (List.mem_cons_of_mem _ h))⟩
   rw[List.mem_append,List.mem_cons]at hx
   rcases hx with h|rfl|h
   ·exact hs.1 x (List.mem_of_mem_take h)
   ·exact hat
   ·exact hs.1 x (List.mem_of_mem_drop h)
  ·rename_i hat
   simp only[List.take_zero,List.drop_zero,List.nil_append]
   have hat':Op.bytesLess a t=false:=by simpa using hat
   have hta:Op.bytesLess t a=true:=by
    cases h:Op.bytesLess t a with
    |true=>rfl
    |false=>exact(ht (by rw[qO t a h hat'];exact List.mem_cons_self ..)).elim
   unfold Srt
   rw[List.pairwise_cons]
   refine⟨fun x hx=>?_,hs'⟩
   rcases List.mem_cons.1 hx with rfl|h
   ·exact hta
   ·exact ix hta (hs.1 x h)
theorem vt{l:List Bs}(hs:Srt l)(i:Nat):Srt (l.take i++l.drop (i+1)):=by
 rw[← List.eraseIdx_eq_take_drop_succ]
 exact hs.sublist (List.eraseIdx_sublist l i)
theorem vu{l:List Bs}(hs:Srt l)(t:Bs)(n:Int):Srt (tgF l t n):=by
 unfold tgF
 split
 ·rename_i h;exact vr hs h.2
 ·split
  ·exact vt hs _
  ·exact hs
theorem vw{l:List Bs}(t:Bs)(n:Int)(hl:l.length≤8)(h:n=0∨t∈l∨l.length<8):(tgF l t n).length≤8:=by
 have:=lH l t
 unfold tgF
 split
 ·rename_i h1
  simp only[List.length_append,List.length_cons,List.length_take,List.length_drop]
  rcases h with h|h|h
  ·omega
  ·exact(h1.2 h).elim
  ·omega
 ·split
  ·simp only[List.length_append,List.length_take,List.length_drop];omega
  ·exact hl
end Go.Av
namespace Go.Av
open Go Go.Proofs Go.RowKit
variable {s:PS} {e:Ev}
theorem nI{κ α:Type}[DecidableEq κ]{l:ML κ α}{x:κ}(h:(lkM l x).isSome=false):lkM l x=none:=by
 cases hl:lkM l x with
 |none=>rfl
 |some a=>rw[hl]at h;cases h
theorem cR{κ α:Type}[DecidableEq κ]{l:ML κ α}{x:κ}(h:(lkM l x).isSome=true):∃a,lkM l x=some a:=Option.isSome_iff_exists.1 h
theorem dK{κ α:Type}[DecidableEq κ]{l:ML κ α}(c:Nat)(x:κ)(a:α){y:κ}(h:(lkM l y).isSome=true):(lkM (upM l c x a) y).isSome=true:=by
 rw[eH];split
 ·rfl
 ·exact h
theorem b8{κ α:Type}[DecidableEq κ]{l:ML κ α}{c:Nat}{x y:κ}{a b:α}(h:lkM (upM l c x a) y=some b):(y=x∧b=a)∨(y≠x∧lkM l y=some b):=by
 rw[eH]at h
 split at h
 ·rename_i hy;cases h;exact .inl ⟨hy,rfl⟩
 ·rename_i hy;exact .inr ⟨hy,h⟩
theorem g9{κ α:Type}[DecidableEq κ]{l:ML κ α}(hn:(l.map (·.1)).Nodup){x y:κ}{b:α}(h:lkM (dlM l x) y=some b):y≠x∧lkM l y=some b:=by
 rw[fQ hn]at h
 split at h
 ·cases h
 ·rename_i hy;exact⟨hy,h⟩
theorem gH{α:Type}{l:ML Int α}(hn:(l.map (·.1)).Nodup){p:Int×α×Nat→Bool}{y:Int}{b:α}(h:lkM (l.filter p) y=some b):lkM l y=some b:=by
 obtain⟨n,hm⟩:=gv h
 exact cD hn (List.mem_filter.1 hm).1
theorem dW{κ α:Type}[DecidableEq κ](l:ML κ α)(c:Nat)(x:κ)(a:α)(m:Nat)(h:l.length<m∨((lkM l x).isSome=true∧l.length≤m)):(upM l c x a).length≤m:=by
 rw[uU];split
 ·omega
 ·rename_i h1;rcases h with h|h
  ·omega
  ·exact(h1 h.1).elim
theorem lJ{κ α:Type}[DecidableEq κ](l:ML κ α)(x:κ)(m:Nat)(h:l.length≤m):(dlM l x).length≤m:=Nat.le_trans (gw l x).length_le h
theorem PS.Inv.deep(h:s.Inv)(id:Int):deepO s.fo 7 id=some (s.dpt id)∧s.dpt id≤7:=by
 obtain⟨d,h1,h2⟩:=h.dp id
 unfold PS.dpt;rw[h2];exact⟨rfl,h1⟩
theorem ga(h:s.within e.b=true):e.b=0∨(lkM s.fo e.b).isSome=true:=by
 unfold PS.within at h;simpa using h
theorem PS.Inv.mkFo(h:s.Inv)(ha:1≤e.a∧e.a≤1048576)(hn:(lkM s.fo e.a).isSome=false)(hl:s.fo.length<64)(hw:s.within e.b=true)(hd:s.dpt e.b<7):
  PS.Inv ((((s.upFo e.a ⟨e.a,e.b,e.s⟩).upNm (e.b,e.s) e.a).hold e.b 1).raise 0 e.a):=by
 rw[cy]
 have hb:=ga hw
 have hnn:=nI hn
 have hba:e.b≠e.a:=by
  rcases hb with hb|hb
  ·omega
  ·intro q;rw[q,hn]at hb;cases hb
 have hcg:∀k id,id≠e.a→deepO (upM s.fo s.c1 e.a ⟨e.a,e.b,e.s⟩) k id=deepO s.fo k id:=by
  refine i5 (fun id=>id≠e.a) (fun id hi=>by rw[eH,if_neg hi]) (fun id f hi hf=>?_)
  rcases h.u1 id f hf with h1|h1
  ·omega
  ·intro q;rw[q,hn]at h1;cases h1
 exact {h with
  w1:=h.w1.up _ _
  w8:=eV h.w8 _ _
  i1:=fun k f hk=>by
   rcases b8 (l:=s.fo) hk with⟨rfl,rfl⟩| ⟨_,hk⟩
   ·exact⟨rfl,ha⟩
   ·exact h.i1 k f hk
  u1:=fun k f hk=>by
   rcases b8 (l:=s.fo) hk with⟨rfl,rfl⟩| ⟨_,hk⟩
   ·exact hb.imp id (dK _ _ _)
   ·exact(h.u1 k f hk).imp id (dK _ _ _)
  u2:=fun k f hk=>(h.u2 k f hk).imp id (dK _ _ _)
  dp:=fun id=>by
   show ∃d,d≤7∧deepO (upM s.fo s.c1 e.a ⟨e.a,e.b,e.s⟩) 7 id=some d
   by_cases hi:id=e.a
   ·subst hi
    obtain⟨h1,h2⟩:=h.deep e.b
    refine⟨s.dpt e.b+1,by omega,?_⟩
    rw[deepO,eH,if_pos rfl]
    simp only[hcg 6 e.b hba,qV h1 (k':=6) (by omega),Option.map_some]
   ·obtain⟨d,h1,h2⟩:=h.dp id
    exact⟨d,h1,by rw[hcg 7 id hi,h2]⟩
  hd:=fun id hi=>by
   show(lkM (heF s.he s.c8 e.b 1) id).getD 0=sumM (inFo id) (upM s.fo s.c1 e.a ⟨e.a,e.b,e.s⟩)+sumM (inFe id) s.fe
   rw[dV,gC,hnn,h.hd id hi]
   simp only[atM,inFo]
   by_cases hx:e.b=id
   ·subst hx;simp[hi];omega
   ·rw[if_neg (by omega),if_neg hx];omega
  h0:=gG _ _ _ h.h0
  l1:=dW _ _ _ _ _ (.inl hl)}
theorem PS.Inv.mkFe(h:s.Inv)(ha:1≤e.a∧e.a≤1048576)(hn:(lkM s.fe e.a).isSome=false)(hl:s.fe.length<64)(hw:s.within e.b=true):
  PS.Inv ((((s.upFe e.a ⟨e.a,e.b,e.s,e.t⟩).upPl e.s e.a).hold e.b 1).raise 1 e.a):=by
 rw[cy]
 have hb:=ga hw
 have hnn:=nI hn
 exact {h with
  w2:=h.w2.up _ _
  w8:=eV h.w8 _ _
  i2:=fun k f hk=>by
   rcases b8 (l:=s.fe) hk with⟨rfl,rfl⟩| ⟨_,hk⟩
   ·exact⟨rfl,ha⟩
   ·exact h.i2 k f hk
  u2:=fun k f hk=>by
   rcases b8 (l:=s.fe) hk with⟨rfl,rfl⟩| ⟨_,hk⟩
   ·exact hb
   ·exact h.u2 k f hk
  u3:=fun k f hk=>dK _ _ _ (h.u3 k f hk)
  hd:=fun id hi=>by
   show(lkM (heF s.he s.c8 e.b 1) id).getD 0=sumM (inFo id) s.fo+sumM (inFe id) (upM s.fe s.c2 e.a ⟨e.a,e.b,e.s,e.t⟩)
   rw[dV,gC,hnn,h.hd id hi]
   simp only[atM,inFe]
   by_cases hx:e.b=id
   ·subst hx;simp[hi];omega
   ·rw[if_neg (by omega),if_neg hx];omega
  h0:=gG _ _ _ h.h0
  l2:=dW _ _ _ _ _ (.inl hl)}
theorem PS.Inv.mkIt(h:s.Inv)(ha:1≤e.a∧e.a≤1048576)(hl:s.it.length<1024)(hw:(lkM s.fe e.b).isSome=true):
  PS.Inv (((s.upIt e.a ⟨e.a,e.b,e.n,e.s,e.t,e.u,false,false,[]⟩).upGu (e.b,e.s) e.a).raise 2 e.a):=
 {h with
  w3:=h.w3.up _ _
  w7:=h.w7.up _ _
  i3:=fun k f hk=>by
   rcases b8 (l:=s.it) hk with⟨rfl,rfl⟩| ⟨_,hk⟩
   ·exact⟨rfl,ha⟩
   ·exact h.i3 k f hk
  u3:=fun k f hk=>by
   rcases b8 (l:=s.it) hk with⟨rfl,rfl⟩| ⟨_,hk⟩
   ·exact hw
   ·exact h.u3 k f hk
  tg:=fun k f hk=>by
   rcases b8 (l:=s.it) hk with⟨rfl,rfl⟩| ⟨_,hk⟩
   ·exact⟨by simp[Srt],by simp⟩
   ·exact h.tg k f hk
  l3:=dW _ _ _ _ _ (.inl hl)}
theorem PS.Inv.mkSe(h:s.Inv)(ha:1≤e.a∧e.a≤1048576)(hl:s.se.length<32):PS.Inv ((s.upSe e.a ⟨e.a,e.s,e.t⟩).raise 3 e.a):=
 {h with
  w4:=h.w4.up _ _
  i4:=fun k f hk=>by
   rcases b8 (l:=s.se) hk with⟨rfl,rfl⟩| ⟨_,hk⟩
   ·exact⟨rfl,ha⟩
   ·exact h.i4 k f hk
  l4:=dW _ _ _ _ _ (.inl hl)}
theorem PS.Inv.reIt(h:s.Inv){k:Int}{t:It}(t':It)(hk:lkM s.it k=some t)(h1:t'.id=t.id)(h2:t'.feed=t.feed)(h3:Srt t'.tags∧t'.tags.length≤8):PS.Inv (s.upIt k t'):=
 {h with
  w3:=h.w3.up _ _
  i3:=fun j f hj=>by
   rcases b8 (l:=s.it) hj with⟨rfl,rfl⟩| ⟨_,hj⟩
   ·rw[h1];exact h.i3 _ _ hk
   ·exact h.i3 j f hj
  u3:=fun j f hj=>by
   rcases b8 (l:=s.it) hj with⟨rfl,rfl⟩| ⟨_,hj⟩
   ·rw[h2];exact h.u3 _ _ hk
   ·exact h.u3 j f hj
  tg:=fun j f hj=>by
   rcases b8 (l:=s.it) hj with⟨rfl,rfl⟩| ⟨_,hj⟩
   ·exact h3
   ·exact h.tg j f hj
  l3:=dW _ _ _ _ _ (.inr ⟨by rw[hk];rfl,h.l3⟩)}
theorem PS.Inv.unFo(h:s.Inv){k:Int}{f:Fo}(hk:lkM s.fo k=some f)(h0:(lkM s.he k).getD 0=0):PS.Inv (((s.dlNm (f.inn,f.name)).dlFo k).hold f.inn (-1)):=by
 rw[cy]
 have hk1:=(h.i1 _ _ hk).2
 have hs:=h.hd k (by omega)
 have n1:=cQ (gE k) s.fo
 have n2:=cQ (gF k) s.fe
 have hA:∀j g,lkM s.fo j=some g→g.inn≠k:=fun j g hg q=>by
  have:=qU (gE k) (l:=s.fo) (by omega) hg
  rw[inFo,if_pos q]at this;omega
 have hB:∀j g,lkM s.fe j=some g→g.inn≠k:=fun j g hg q=>by
  have:=qU (gF k) (l:=s.fe) (by omega) hg
  rw[inFe,if_pos q]at this;omega
 have hcg:∀m id,id≠k→deepO (dlM s.fo k) m id=deepO s.fo m id:=
  i5 (fun id=>id≠k) (fun id hi=>by rw[fQ h.w1.keys,if_neg hi]) (fun id g _ hg=>hA id g hg)
 have hst:∀x,x≠k→(lkM s.fo x).isSome=true→(lkM (dlM s.fo k) x).isSome=true:=fun x hx hs=>by rw[fQ h.w1.keys,if_neg hx];exact hs
 exact {h with
  w1:=h.w1.dl _
  w8:=eV h.w8 _ _
  i1:=fun j g hj=>h.i1 j g (g9 h.w1.keys hj).2
  u1:=fun j g hj=>by
   obtain⟨_,hj⟩:=g9 h.w1.keys hj
   exact(h.u1 j g hj).imp id (hst _ (hA j g hj))
  u2:=fun j g hj=>(h.u2 j g hj).imp id (hst _ (hB j g hj))
  dp:=fun id=>by
   show ∃d,d≤7∧deepO (dlM s.fo k) 7 id=some d
   by_cases hi:id=k
   ·subst hi;exact⟨0,by omega,by rw[deepO,fQ h.w1.keys,if_pos rfl]⟩
   ·rw[hcg 7 id hi];exact h.dp id
  hd:=fun id hi=>by
   show(lkM (heF s.he s.c8 f.inn (-1)) id).getD 0=sumM (inFo id) (dlM s.fo k)+sumM (inFe id) s.fe
   rw[dV,nF,hk,h.hd id hi]
   simp only[atM,inFo]
   by_cases hx:f.inn=id
   ·subst hx;simp[hi];omega
   ·rw[if_neg (by omega),if_neg hx];omega
  h0:=gG _ _ _ h.h0
  l1:=lJ _ _ _ h.l1}
theorem PS.Inv.reTi(h:s.Inv){k:Int}{f:Fe}(t:Bs)(hk:lkM s.fe k=some f):PS.Inv (s.upFe k {f with title:=t}):=
 {h with
  w2:=h.w2.up _ _
  i2:=fun j g hj=>by
   rcases b8 (l:=s.fe) hj with⟨rfl,rfl⟩| ⟨_,hj⟩
   ·have:=h.i2 _ _ hk;exact this
   ·exact h.i2 j g hj
  u2:=fun j g hj=>by
   rcases b8 (l:=s.fe) hj with⟨rfl,rfl⟩| ⟨_,hj⟩
   ·have:=h.u2 _ _ hk;exact this
   ·exact h.u2 j g hj
  u3:=fun j g hj=>dK _ _ _ (h.u3 j g hj)
  hd:=fun id hi=>by
   show(lkM s.he id).getD 0=sumM (inFo id) s.fo+sumM (inFe id) (upM s.fe s.c2 k {f with title:=t})
   rw[gC,hk,h.hd id hi]
   simp only[atM,inFe];omega
  l2:=dW _ _ _ _ _ (.inr ⟨by rw[hk];rfl,h.l2⟩)}
theorem PS.Inv.reIn(h:s.Inv){k b:Int}{f:Fe}(hk:lkM s.fe k=some f)(hb:b=0∨(lkM s.fo b).isSome=true):PS.Inv (((s.hold f.inn (-1)).hold b 1).upFe k {f with inn:=b}):=by
 rw[cy s,cy]
 exact {h with
  w2:=h.w2.up _ _
  w8:=eV (eV h.w8 _ _) _ _
  i2:=fun j g hj=>by
   rcases b8 (l:=s.fe) hj with⟨rfl,rfl⟩| ⟨_,hj⟩
   ·have:=h.i2 _ _ hk;exact this
   ·exact h.i2 j g hj
  u2:=fun j g hj=>by
   rcases b8 (l:=s.fe) hj with⟨rfl,rfl⟩| ⟨_,hj⟩
   ·exact hb
   ·exact h.u2 j g hj
  u3:=fun j g hj=>dK _ _ _ (h.u3 j g hj)
  hd:=fun id hi=>by
   show(lkM (heF (heF s.he s.c8 f.inn (-1)) (chF s.he s.c8 f.inn) b 1) id).getD 0=sumM (inFo id) s.fo+sumM (inFe id) (upM s.fe s.c2 k {f with inn:=b})
   rw[dV,dV,gC,hk,h.hd id hi]
   simp only[atM,inFe]
   by_cases h1:f.inn=id
   ·by_cases h2:b=id
    ·rw[if_pos ⟨h1.symm,by omega⟩,if_pos ⟨h2.symm,by omega⟩,if_pos h1,if_pos h2];omega
    ·rw[if_pos ⟨h1.symm,by omega⟩,if_neg (by omega),if_pos h1,if_neg h2];omega
   ·by_cases h2:b=id
    ·rw[if_neg (by omega),if_pos ⟨h2.symm,by omega⟩,if_neg h1,if_pos h2];omega
    ·rw[if_neg (by omega),if_neg (by omega),if_neg h1,if_neg h2];omega
  h0:=gG _ _ _ (gG _ _ _ h.h0)
  l2:=dW _ _ _ _ _ (.inr ⟨by rw[hk];rfl,h.l2⟩)}
theorem PS.Inv.unFe(h:s.Inv){k:Int}{f:Fe}(hk:lkM s.fe k=some f):PS.Inv (s.unfeed f):=by
 have hfk:=(h.i2 _ _ hk).1
 unfold PS.unfeed
 rw[cy]
 exact {h with
  w2:=h.w2.dl _
  w3:=h.w3.filter _
  w7:=h.w7.filter _
  w8:=eV h.w8 _ _
  i2:=fun j g hj=>h.i2 j g (g9 h.w2.keys hj).2
  i3:=fun j t hj=>h.i3 j t (gH h.w3.keys hj)
  u2:=fun j g hj=>h.u2 j g (g9 h.w2.keys hj).2
  u3:=fun j t hj=>by
   have hj':lkM (itF s.it f.id) j=some t:=hj
   show(lkM (dlM s.fe f.id) t.feed).isSome=true
   have hne:t.feed≠f.id:=by
    obtain⟨n,hm⟩:=gv hj'
    have:=(List.mem_filter.1 hm).2
    simpa using this
   rw[fQ h.w2.keys,if_neg hne]
   exact h.u3 j t (gH h.w3.keys hj')
  hd:=fun id hi=>by
   show(lkM (heF s.he s.c8 f.inn (-1)) id).getD 0=sumM (inFo id) s.fo+sumM (inFe id) (dlM s.fe f.id)
   rw[dV,nF,hfk,hk,h.hd id hi]
   simp only[atM,inFe]
   by_cases hx:f.inn=id
   ·subst hx;simp[hi];omega
   ·rw[if_neg (by omega),if_neg hx];omega
  h0:=gG _ _ _ h.h0
  tg:=fun j t hj=>h.tg j t (gH h.w3.keys hj)
  l2:=lJ _ _ _ h.l2
  l3:=Nat.le_trans (List.length_filter_le _ _) h.l3}
theorem PS.Inv.unSe(h:s.Inv)(k:Int):PS.Inv (s.dlSe k):=
 {h with
  w4:=h.w4.dl _
  i4:=fun j g hj=>h.i4 j g (g9 h.w4.keys hj).2
  l4:=lJ _ _ _ h.l4}
theorem PS.Inv.clk(h:s.Inv)(k:Int):PS.Inv {s with clock:=k}:= {h with}
theorem PS.Inv.step{L:Leaf}(h:s.Inv)(e:Ev):(s.step L e).Inv:=by
 unfold PS.step
 split
 ·rename_i hok
  unfold PS.ok PS.fits at hok
  rw[Bool.and_eq_true]at hok
  obtain⟨hck,hf⟩:=hok
  have hr:L.right e=true:=by unfold Leaf.ck at hck;simp only[Bool.and_eq_true]at hck;exact hck.1
  have ha:e.kind≠13→1≤e.a∧e.a≤1048576:=fun hk=>tz hr hk
  unfold PS.aft PS.after
  by_cases k1:e.kind=1
  ·rw[if_pos k1]at hf
   simp only[Bool.and_eq_true,Bool.not_eq_true',decide_eq_true_eq,beq_iff_eq]at hf
   rw[if_neg (by omega),if_neg (by omega),if_neg (by omega),if_neg (by omega),if_neg (by omega),if_neg (by omega),if_neg (by omega),if_neg (by omega),if_neg (by omega),PS.make,if_pos k1]
   exact h.mkFo (ha (by omega)) hf.1.1.1.1 hf.1.1.1.2 hf.1.1.2 hf.1.2
  rw[if_neg k1]at hf
  by_cases k2:e.kind=2
  ·rw[if_pos k2]at hf ⊢
   simp only[Bool.and_eq_true,beq_iff_eq]at hf
   obtain⟨f,hfo⟩:=cR hf.1
   rw[hfo]
   exact h.unFo hfo hf.2
  rw[if_neg k2]at hf ⊢
  by_cases k3:e.kind=3
  ·rw[if_pos k3]at hf
   simp only[Bool.and_eq_true,Bool.not_eq_true',decide_eq_true_eq,beq_iff_eq]at hf
   rw[if_neg (by omega),if_neg (by omega),if_neg (by omega),if_neg (by omega),if_neg (by omega),if_neg (by omega),if_neg (by omega),if_neg (by omega),PS.make,if_neg (by omega),if_pos k3]
   exact h.mkFe (ha (by omega)) hf.1.1.1 hf.1.1.2 hf.1.2
  rw[if_neg k3]at hf
  by_cases k4:e.kind=4
  ·rw[if_pos (.inl k4)]at hf
   rw[if_pos k4]
   obtain⟨f,hfo⟩:=cR hf
   rw[hfo]
   exact h.unFe hfo
  rw[if_neg k4]
  by_cases k5:e.kind=5
  ·rw[if_pos (.inr k5)]at hf
   rw[if_pos k5]
   obtain⟨f,hfo⟩:=cR hf
   rw[hfo]
   exact h.reTi _ hfo
  rw[if_neg (by omega)]at hf
  rw[if_neg k5]
  by_cases k6:e.kind=6
  ·rw[if_pos k6]at hf ⊢
   simp only[Bool.and_eq_true]at hf
   obtain⟨f,hfo⟩:=cR hf.1
   rw[hfo]
   exact h.reIn hfo (ga hf.2)
  rw[if_neg k6]at hf ⊢
  by_cases k7:e.kind=7
  ·rw[if_pos k7]at hf
   simp only[Bool.and_eq_true,Bool.not_eq_true',decide_eq_true_eq,beq_iff_eq]at hf
   rw[if_neg (by omega),if_neg (by omega),if_neg (by omega),if_neg (by omega),if_neg (by omega),PS.make,if_neg (by omega),if_neg (by omega),if_pos k7]
   exact h.mkIt (ha (by omega)) hf.1.1.2 hf.1.2
  rw[if_neg k7]at hf
  by_cases k8:e.kind=8
  ·rw[if_pos (.inl k8)]at hf
   rw[if_pos k8]
   obtain⟨f,hfo⟩:=cR hf
   rw[hfo]
   have htg:=h.tg _ _ hfo
   exact h.reIt _ hfo rfl rfl htg
  rw[if_neg k8]
  by_cases k9:e.kind=9
  ·rw[if_pos (.inr k9)]at hf
   rw[if_pos k9]
   obtain⟨f,hfo⟩:=cR hf
   rw[hfo]
   have htg:=h.tg _ _ hfo
   exact h.reIt _ hfo rfl rfl htg
  rw[if_neg (by omega)]at hf
  rw[if_neg k9]
  by_cases k10:e.kind=10
  ·rw[if_pos k10]at hf ⊢
   simp only[Bool.and_eq_true,Bool.or_eq_true,decide_eq_true_eq]at hf
   obtain⟨f,hfo⟩:=cR hf.1
   rw[hfo]at hf ⊢
   simp only[Option.getD_some]at hf ⊢
   have htg:=h.tg _ _ hfo
   exact h.reIt _ hfo rfl rfl ⟨vu htg.1 _ _,vw _ _ htg.2 (by rcases hf.2 with(h1|h1)|h1<;>simp[h1])⟩
  rw[if_neg k10]at hf ⊢
  by_cases k11:e.kind=11
  ·rw[if_pos k11]at hf
   simp only[Bool.and_eq_true,Bool.not_eq_true',decide_eq_true_eq]at hf
   rw[if_neg (by omega),if_neg (by omega),PS.make,if_neg (by omega),if_neg (by omega),if_neg (by omega),if_pos k11]
   exact h.mkSe (ha (by omega)) hf.2
  rw[if_neg k11]at hf
  by_cases k12:e.kind=12
  ·rw[if_pos k12];exact h.unSe _
  rw[if_neg k12]
  by_cases k13:e.kind=13
  ·rw[if_pos k13];exact h.clk _
  ·exfalso
   unfold Leaf.right at hr
   rw[if_neg k1,if_neg (by omega),if_neg k3,if_neg k5,if_neg k6,if_neg k7,if_neg (by omega),if_neg k10,if_neg k11,if_neg k13]at hr
   cases hr
 ·exact h
theorem PS.Inv.fold{L:Leaf}(h:s.Inv)(l:List Ev):(l.foldl (PS.step L) s).Inv:=by
 induction l generalizing s with
 |nil=>exact h
 |cons e l ih=>exact ih (h.step e)
theorem tB{α:Type}{z:α}{l:ML Int α}{a:α}(h:a∈valsM z l):∃k,lkM l k=some a:=by
 unfold valsM at h
 obtain⟨k,hk,rfl⟩:=List.mem_map.1 h
 have hk2:k∈l.map (·.1):=(List.mergeSort_perm _ _).mem_iff.1 hk
 refine⟨k,?_⟩
 cases hl:lkM l k with
 |none=>
  have:(lkM l k).isSome=false:=by rw[hl];rfl
  exact(jy this hk2).elim
 |some a=>rfl
theorem ja{α:Type}{l:ML Int α}{c:Nat}(w:WFM l c)(h:∀k a,lkM l k=some a→1≤k∧k≤1048576):∀e∈l,inI e.1:=fun e he=>by
 have:=h e.1 e.2.1 (cD w.keys (b:=e.2.2) (by exact he))
 unfold inI;omega
theorem PS.Inv.toOk(h:s.Inv):s.Ok where
 w1:=h.w1
 w2:=h.w2
 w3:=h.w3
 w4:=h.w4
 b1:=ja h.w1 fun k f hk=>(h.i1 k f hk).2
 b2:=ja h.w2 fun k f hk=>(h.i2 k f hk).2
 b3:=ja h.w3 fun k f hk=>(h.i3 k f hk).2
 b4:=ja h.w4 fun k f hk=>(h.i4 k f hk).2
 l1:=Nat.le_trans h.l1 (by omega)
 l2:=Nat.le_trans h.l2 (by omega)
 l3:=Nat.le_trans h.l3 (by omega)
 l4:=Nat.le_trans h.l4 (by omega)
 tg:=fun t ht=>by
  obtain⟨k,hk⟩:=tB ht
  exact Nat.le_trans (h.tg k t hk).2 (by omega)
theorem PS.Inv.tags(h:s.Inv)(id:Int):Srt ((lkM s.it id).getD It.z).tags∧((lkM s.it id).getD It.z).tags.length≤8:=by
 cases hl:lkM s.it id with
 |none=>exact⟨by simp[It.z,Srt],by simp[It.z]⟩
 |some t=>exact h.tg id t hl
end Go.Av
namespace Go.Av
open Go Go.Proofs Go.RowKit
variable {c d:CS} {s:PS} {e:Ev}
end Go.Av
namespace Go.Av
open Go Go.Proofs Go.RowKit
attribute [local irreducible] WP WPl WPix Sat
variable (G:Nat→Option (List AVal))
def CS.mkFo(c:CS)(f:Fo):CS:= {c with fo:=upM c.fo c.c1 f.id (0,0),c1:=ckM c.fo c.c1 f.id,ab:=upM c.ab c.c6 f.id f.inn,c6:=ckM c.ab c.c6 f.id}
def CS.mkFe(c:CS)(f:Fe):CS:= {c with fe:=upM c.fe c.c2 f.id (0,0),c2:=ckM c.fe c.c2 f.id,inn:=upM c.inn c.c5 f.id f.inn,c5:=ckM c.inn c.c5 f.id}
end Go.Av
namespace Go.Av
open Go Go.Proofs Go.RowKit
variable {c d:CS} {s:PS} {e:Ev}
theorem tC{α:Type}{z:α}{l:ML Int α}{k:Int}{a:α}(h:lkM l k=some a):a∈valsM z l:=by
 unfold valsM
 refine List.mem_map.2 ⟨k,?_,by rw[h];rfl⟩
 refine(List.mergeSort_perm _ _).mem_iff.2 ?_
 obtain⟨n,hn⟩:=gv h
 exact List.mem_map.2 ⟨_,hn,rfl⟩
theorem tD{α:Type}{z:α}{l:ML Int α}{c:Nat}(w:WFM l c)(idf:α→Int)(hid:∀k a,lkM l k=some a→idf a=k):(valsM z l).map idf=sortI (l.map (·.1)):=by
 unfold valsM
 rw[List.map_map]
 have:∀k∈sortI (l.map (·.1)),(idf ∘ fun k=>(lkM l k).getD z) k=k:=fun k hk=>by
  have hk2:k∈l.map (·.1):=(List.mergeSort_perm _ _).mem_iff.1 hk
  obtain⟨x,hx,rfl⟩:=List.mem_map.1 hk2
  have:=cD w.keys (b:=x.2.2) (a:=x.2.1) (x:=x.1) hx
  simp only[Function.comp,this,Option.getD_some]
  exact hid _ _ this
 rw[List.map_congr_left this,List.map_id']
theorem mN{l:List Int}(h:l.Nodup):(sortI l).Nodup:=(List.mergeSort_perm l _).nodup_iff.2 h
theorem fp{α:Type}{z:α}(l:ML Int α):(valsM z l).length=l.length:=by unfold valsM;rw[List.length_map,cu,List.length_map]
end Go.Av
namespace Go.Av
open Go Go.Proofs Go.RowKit Go.Maps Go.Sort
def sortB(l:List Bs):List Bs:=l.mergeSort fun x y=>decide (x≤y)
variable (G:Nat→Option (List AVal))
end Go.Av
namespace Go.Av
open Go Go.Proofs Go.RowKit
attribute [local irreducible] WP WPl WPix Sat
section
variable {C:Ctx} {ops:Array Oper} {t:Env} {h:Heap} {dst:Option Nat} {ty:TypeId} {pos:String} {aft:Array Edge} {T:TypeId}
end
structure Ct where
 kind:Int
 id:Int
 tag:Bs
 all:Int
 un:Int
def Ct.av(x:Ct):AVal:=.agg [.int .i64 x.kind,.int .i64 x.id,.str x.tag,.int .i64 x.all,.int .i64 x.un]
def ctI(kind:Int)(l:ML Int T2)(id:Int):Ct:=⟨kind,id,[],((lkM l id).getD (0,0)).1,((lkM l id).getD (0,0)).2⟩
def toldI(kind:Int)(l:ML Int T2):List Ct:=(sortI (l.map (·.1))).map (ctI kind l)
def ctS(l:ML Bs T2)(g:Bs):Ct:=⟨4,0,g,((lkM l g).getD (0,0)).1,((lkM l g).getD (0,0)).2⟩
def toldS(l:ML Bs T2):List Ct:=(sortB (l.map (·.1))).map (ctS l)
def CS.tell(c:CS):List Ct:=⟨1,0,[],c.al.1,c.al.2⟩::(toldI 2 c.fo++toldI 3 c.fe++toldS c.tg)++[⟨5,0,[],c.st.1,c.st.2⟩]
variable (G:Nat→Option (List AVal))
end Go.Av
namespace Go.Av
open Go Go.Proofs Go.RowKit
attribute [local irreducible] WP WPl WPix Sat
variable (G:Nat→Option (List AVal))
end Go.Av
namespace Go.Av
open Go.RowKit
section
variable {C:Ctx} {B n m:Nat} {S:Addr→Prop} {μ:Map} {h:Heap} {w:World} {t:Env} {a:Act} {ds:List Deferred}
variable {p:Nat} {Q Q0 Q1:Exit→Env→Heap→Prop} {c d:Code}
end
end Go.Av
namespace Go.Av
open Go.RowKit
def thrown(v:Value):PanicEntry:= {v,recovered:=false}
def SatD(C:Ctx)(f:FuncId)(args:List AVal)(h:Heap)(R:AVal→Heap→Prop):Prop:=
 ∀B S μ w vs,Fits C B S μ h w→RepL w S μ args vs→∃g az w0,(callFunc f vs.toArray).run C.P w=.ok (.enter g az) w0∧
  Calls C.P g az w0 fun e w''=>∃v,e=.panicked [thrown v]∧OpPost C B S μ w R v w''
section
variable {C:Ctx} {B n m:Nat} {S:Addr→Prop} {μ:Map} {h:Heap} {w:World} {t:Env} {a:Act} {ds:List Deferred}
theorem SatD.mono{f:FuncId}{args:List AVal}{R R':AVal→Heap→Prop}(s:SatD C f args h R)(k:∀r h',R r h'→R' r h'):SatD C f args h R':=fun B S μ w vs fit rl=>by
 obtain⟨g,az,w0,h1,h2⟩:=s B S μ w vs fit rl
 exact⟨g,az,w0,h1,h2.mono fun e w'' ⟨v,he,hp⟩=>⟨v,he,hp.mono k⟩⟩
def PostD(C:Ctx)(B n:Nat)(S:Addr→Prop)(μ:Map)(w:World)(Q:AVal→Env→Heap→Prop)(ds:List Deferred):Exit→Act→World→Prop:=fun e a' w'=>
 ∃v r t' h' S' μ',e=.panic [thrown v]∧Q r t' h'∧Step B S μ w S' μ' w'∧Fits C B S' μ' h' w'∧REnv n w' S' μ' t' a' ds∧Rep w' S' μ' r v
def DJ(C:Ctx)(n:Nat)(Q:AVal→Env→Heap→Prop)(c:Code)(t:Env)(h:Heap):Prop:=∀m B S0 μ0 w0 S μ w a ds,Step B S0 μ0 w0 S μ w→Fits C B S μ h w→REnv n w S μ t a ds→
 c.wpIn (WF none) m C.P (PostD C B n S0 μ0 w0 Q ds) a w
def DOp(C:Ctx)(o:Op)(t:Env)(h:Heap)(Q:AVal→Heap→Prop):Prop:=match o with
 | .panic x=>(∃T v,aev C.G t x=.ifc T v)∧Q (aev C.G t x) h
 | .call c=>(match c.callee with
  | .value f=>(match aev C.G t f with
   | .fn (.func g) first captured=>SatD C g (first++c.args.toList.map (aev C.G t)++captured) h Q
   |_=>False)
  |_=>False)
 |_=>False
theorem rW{o:Oper}{Q:AVal→Env→Heap→Prop}{S0:Addr→Prop}{μ0:Map}{w0:World}{next:Act→World→Prop}(ho:okOper n o=true)(st:Step B S0 μ0 w0 S μ w)(f:Fits C B S μ h w)(r:REnv n w S μ t a ds)
  (g:DOp C o.op t h fun x h'=>Q x t h'):o.wpIn (WF none) m C.P a w next (PostD C B n S0 μ0 w0 Q ds):=by
 have hops:∀x∈o.op.operands.toList,okOpd n x=true:=by
  unfold okOper at ho;simp only[Bool.and_eq_true]at ho;exact List.all_eq_true.1 ho.1
 have rp:∀x,okOpd n x=true→Rep w S μ (aev C.G t x) (a.eval x):=fun x hx=>cg f r x hx
 refine⟨fun _ _=>trivial,?_⟩
 rw[Oper.semAt_eq _ _ _ fun c e=>by rw[e]at g;exact g]
 obtain⟨dst,op,ty,pos,after,guard⟩:=o
 cases op with
 |panic x=>
  obtain⟨⟨T,v,hv⟩,hq⟩:=g
  have hx:=rp x (hops x (by simp[Op.operands]))
  rw[hv]at hx hq
  generalize hu:a.eval x=u at hx
  cases hx with
  |ifc _ _ u hxu=>
  have e:(execOp a.eval {dst,op:=.panic x,type:=ty,pos,after,guard}).run C.P w=.halt (.panic (.iface T u)) w:=by
   simp[execOp,hu,Instr.panic,goPanic,Sem.run_bind]
  rw[e]
  exact⟨.iface T u,_,t,h,S,μ,rfl,hq,st,f,r,.ifc T v u hxu⟩
 |call c=>
  obtain⟨callee,⟨args⟩,⟨argTypes⟩⟩:=c
  cases callee with
  |value fo=>
   have hf:=rp fo (hops fo (by simp[Op.operands,Call.operands]))
   simp only[DOp]at g
   split at g
   ·rename_i fid first captured hfe
    rw[hfe]at hf
    generalize hv:a.eval fo=v at hf
    cases hf with
    |fn _ _ _ xv cv h1 h2 h3 h4=>
     have hargs:=RepL.of_map rp args (fun x hx=>hops x (by simp[Op.operands,Call.operands]at hx ⊢;exact .inr hx))
     have hall:RepL w S μ (first++args.map (aev C.G t)++captured) (xv++args.map a.eval++cv):=
      (RepL.append ⟨h1,h3⟩ hargs).append ⟨h2,h4⟩
     obtain⟨g',az,w1,hr,hc⟩:=g B S μ w _ f hall
     have e:(execOp a.eval {dst,op:=.call {callee:=.value fo,args:=⟨args⟩,argTypes:=⟨argTypes⟩},type:=ty,pos,after,guard}).run C.P w=(callFunc fid (xv++args.map a.eval++cv).toArray).run C.P w:=by
      show(do let d ← resolve a.eval {callee:=.value fo,args:=⟨args⟩,argTypes:=⟨argTypes⟩} ty;invoke d.target d.args:Sem Next).run C.P w=_
      simp only[resolve,hv,Deferred.ofValue,Sem.run_bind,Sem.run_pure,Result.andThen_ok,invoke]
      congr 2
      simp
     rw[e,hr]
     refine⟨fun e=>by simp[WF,Fence.wide]at e,?_⟩
     show CallsIn Fence.wide (m-1) C.P _ _ _ _
     refine callsIn_wide.2 (hc.mono ?_)
     rintro e w'' ⟨v,rfl,x,h',S',μ',hq,st',f',rr⟩
     exact⟨v,x,t,h',S',μ',rfl,hq,st.trans st',f',r.mono st',rr⟩
   ·exact g.elim
  |_=>exact g.elim
 |_=>exact g.elim
theorem nV{ops:Array Oper}{o:Oper}{post:List Oper}{Q:AVal→Env→Heap→Prop}{S0:Addr→Prop}{μ0:Map}{w0:World}(hok:∀o∈ops.toList,okOper n o=true)(ho:okOper n o=true)(hg:o.guard=none):
  ∀(pre:List Oper),(∀x∈pre,okOper n x=true)→∀{t h S μ a w},Step B S0 μ0 w0 S μ w→Fits C B S μ h w→REnv n w S μ t a ds→WPl C ops (fun e t h=>e=.normal∧DOp C o.op t h fun x h'=>Q x t h') pre t h→
   wpListIn (WF none) m C.P ops (PostD C B n S0 μ0 w0 Q ds) (pre++o::post) a w
 | [],_,t,h,S,μ,a,w,st,f,r,g=>by
  show wpListIn _ _ _ _ _ (o::post) _ _
  unfold wpListIn
  rw[if_pos (by simp[Region.wanted,hg])]
  exact rW ho st f r g.2
 |x::rest,hl,t,h,S,μ,a,w,st,f,r,g=>by
  show wpListIn _ _ _ _ _ (x::(rest++o::post)) _ _
  unfold wpListIn
  exact dQ hok (hl x (by simp)) f r g fun t' h' S' μ' a' w' hk st' f' r'=>
   nV hok ho hg rest (fun o ho=>hl o (by simp[ho])) (st.trans st') f' r' hk
theorem DOp.pan{x:Operand}{T:TypeId}{v:AVal}{Q:AVal→Heap→Prop}(hx:aev C.G t x=.ifc T v)(hq:Q (.ifc T v) h):DOp C (.panic x) t h Q:=by
 unfold DOp;exact⟨⟨T,v,hx⟩,by rw[hx];exact hq⟩
theorem DOp.call{g:FuncId}{az:Array Operand}{ats:Array TypeId}{xs:List AVal}{Q:AVal→Heap→Prop}(ha:az.toList.map (aev C.G t)=xs)(s:SatD C g xs h Q):DOp C (.call ⟨.value (.func g),az,ats⟩) t h Q:=by
 unfold DOp
 show SatD C g ([]++az.toList.map (aev C.G t)++[]) h Q
 rw[ha,List.nil_append,List.append_nil];exact s
variable {Q:AVal→Env→Heap→Prop} {c d:Code}
theorem DJ.region{id:Nat}{ops:Array Oper}(k:Nat){o:Oper}(ho:okCode n (.region id ops false)=true)(hk:ops.toList.drop k=o::ops.toList.drop (k+1))(hg:o.guard=none)
  (hw:WPl C ops (fun e t h=>e=.normal∧DOp C o.op t h fun x h'=>Q x t h') (ops.toList.take k) t h):DJ C n Q (.region id ops false) t h:=fun m B S0 μ0 w0 S μ w a ds st f r=>by
 have hops:=List.all_eq_true.1 ho
 have hl:ops.toList=ops.toList.take k++o::ops.toList.drop (k+1):=by rw[← hk,List.take_append_drop]
 have hmo:o∈ops.toList:=by rw[hl];simp
 refine wpIn_region_list ?_
 rw[hl]
 exact nV hops (hops o hmo) hg _ (fun x hx=>hops x (List.mem_of_mem_take hx)) st f r hw
theorem DJ.seq1(ho:okCode n c=true)(hw:∀KK:Env→Heap→Prop,(∀t h,Wkn C (wr c) t h (fun t h=>DJ C n Q d t h)→KK t h)→WP C c (thenQ KK fun _ _ _=>False) t h):DJ C n Q (.seq c d) t h:=fun m B S0 μ0 w0 S μ w a ds st f r=>
 wpIn_seq (wpIn_mono (dz (ρ:=none) c ho (.inl rfl) st f r (hw _ fun _ _ g=>g)) fun e a' w' ⟨t',h',S',μ',hq,st',f',r'⟩=>by
  cases e with
  |normal=>
   obtain⟨t1,h1,hw,hq⟩:=hq
   obtain⟨S1,μ1,st1,f1,r1⟩:=hw.at f' r'
   exact hq m B S0 μ0 w0 S1 μ1 w' a' ds (st'.trans st1) f1 r1
  |_=>exact hq.elim)
theorem DJ.seq0(hw:DJ C n Q c t h):DJ C n Q (.seq c d) t h:=fun m B S0 μ0 w0 S μ w a ds st f r=>
 wpIn_seq (wpIn_mono (hw m B S0 μ0 w0 S μ w a ds st f r) fun e a' w' hp=>by
  obtain⟨v,x,t',h',S',μ',rfl,hq⟩:=hp
  exact⟨v,x,t',h',S',μ',rfl,hq⟩)
theorem DJ.cond{x:Operand}{q:Bool}(ho:okOpd n x=true)(hx:aev C.G t x=.bool q)(h1:q=true→DJ C n Q c t h)(h2:q=false→DJ C n Q d t h):DJ C n Q (.cond x c d) t h:=fun m B S0 μ0 w0 S μ w a ds st f r=>by
 have hc:=cg f r x ho
 rw[hx]at hc
 exact wpIn_cond_split hc.bool_inv (fun e=>h1 e m B S0 μ0 w0 S μ w a ds st f r) (fun e=>h2 e m B S0 μ0 w0 S μ w a ds st f r)
theorem DJ.block{id:Nat}(hw:DJ C n Q c t h):DJ C n Q (.block id c) t h:=fun m B S0 μ0 w0 S μ w a ds st f r=>
 wpIn_block (wpIn_mono (hw m B S0 μ0 w0 S μ w a ds st f r) fun e a' w' hp=>by
  obtain⟨v,x,t',h',S',μ',rfl,hq⟩:=hp
  exact⟨v,x,t',h',S',μ',rfl,hq⟩)
theorem SatD.of_body{f:FuncId}{fn:Func}{args:List AVal}{R:AVal→Heap→Prop}(hf:C.P.funcs[f]? =some fn)(hb:fn.body=some c)(hname:(fn.name== "runtime.NumGoroutine")=false)
  (hok:args.length≤fn.ntmps)(hw:DJ C fn.ntmps (fun r _ h'=>R r h') c (env0 args) h):SatD C f args h R:=by
 intro B S μ w vs fit rl
 have hcall:(callFunc f vs.toArray).run C.P w=.ok (.enter f vs.toArray) w:=by
  have hne:fn.name≠ "runtime.NumGoroutine" :=by simpa using hname
  simp[callFunc,hf,hne,hb]
 refine⟨f,vs.toArray,w,hcall,calls_of_wp hf hb ?_⟩
 refine wp_mono (wpIn_wide.1 (hw 0 B S μ w S μ w _ [] (Step.refl _ _ _ _) fit (dR rl hok))) fun e a' w' hp=>?_
 obtain⟨v,r,t',h',S',μ',rfl,hq,st,f',re,rr⟩:=hp
 exact⟨re.2.1,v,rfl,r,h',S',μ',hq,st,f',rr⟩
end
end Go.Av
namespace Go.Av
open Go.RowKit
section
variable {C:Ctx} {B n m:Nat} {S:Addr→Prop} {μ:Map} {h:Heap} {w:World} {t:Env} {a:Act} {ds:List Deferred}
theorem iI{ops:Array Oper}{i:Nat}{o:Oper}(hi:ops.toList.drop i=o::ops.toList.drop (i+1)):ops[i]? =some o:=by
 have:(ops.toList.drop i)[0]? =some o:=by rw[hi];rfl
 rw[List.getElem?_drop]at this
 simpa using this
theorem bb{P:Program}{ops:Array Oper}{Q:Exit→Act→List Frame→World→Prop}{cs:List Frame}{i:Nat}{l:List Nat}{o:Oper}{v:Value}(hi:ops.toList.drop i=o::ops.toList.drop (i+1))(hg:o.guard=none)
  (hr:(execOp a.eval o).run P w=.ok (.value v) w)(k:wpOpsS P ops Q l (a.put o.dst v) cs w):wpOpsS P ops Q (i::l) a cs w:=by
 have hi:=iI hi
 unfold wpOpsS
 simp only[hi]
 rw[if_pos (by simp[Region.wanted,hg])]
 simp only[hr]
 exact k
theorem rX{P:Program}{ops:Array Oper}{Q:Exit→Act→List Frame→World→Prop}{c:Frame}{cs:List Frame}{i:Nat}{l:List Nat}{o:Oper}{v:Value}(hi:ops.toList.drop i=o::ops.toList.drop (i+1))(hg:o.guard=none)
  (hr:(execOp a.eval o).run P w=.ok .recover w)(hc:c.mode=.panicking [thrown v])(k:wpOpsS P ops Q l (a.put o.dst v) ({c with mode:=.panicking [{v,recovered:=true}]}::cs) w):wpOpsS P ops Q (i::l) a (c::cs) w:=by
 have hi:=iI hi
 unfold wpOpsS
 simp only[hi]
 rw[if_pos (by simp[Region.wanted,hg])]
 simp only[hr,recoverD,hc,thrown]
 exact k
theorem pO{P:Program}{ops:Array Oper}{Q:Exit→Act→List Frame→World→Prop}{c:Frame}{cs:List Frame}{i:Nat}{l:List Nat}{o:Oper}(hi:ops.toList.drop i=o::ops.toList.drop (i+1))(hg:o.guard=none)
  (hr:(execOp a.eval o).run P w=.ok .recover w)(hc:c.mode=.returning)(k:wpOpsS P ops Q l (a.put o.dst .nilIface) (c::cs) w):wpOpsS P ops Q (i::l) a (c::cs) w:=by
 have hi:=iI hi
 unfold wpOpsS
 simp only[hi]
 rw[if_pos (by simp[Region.wanted,hg])]
 simp only[hr,recoverD,hc]
 exact k
def SatR(C:Ctx)(g:FuncId)(args:List AVal)(h:Heap)(x:Option AVal)(R:Heap→Prop):Prop:=
 ∀B S μ w vs u,Fits C B S μ h w→RepL w S μ args vs→(match x with|none=>u=.returning|some x=>∃xv,Rep w S μ x xv∧u=.panicking [thrown xv])→
  CallsD C.P g vs.toArray u w fun e u' w'=>∃v,e=.returned v∧settle u'=.returning∧∃h' S' μ',R h'∧Step B S μ w S' μ' w'∧Fits C B S' μ' h' w'
theorem SatR.mono{g:FuncId}{args:List AVal}{x:Option AVal}{R R':Heap→Prop}(s:SatR C g args h x R)(k:∀h',R h'→R' h'):SatR C g args h x R':=fun B S μ w vs u f r hx=>
 (s B S μ w vs u f r hx).mono fun _ _ _ ⟨v,he,hs,h',S',μ',hr,q⟩=>⟨v,he,hs,h',S',μ',k _ hr,q⟩
theorem Sat.deferred{f g:FuncId}{fn gn:Func}{c0 c1 gc:Code}{id d:Nat}{ops:Array Oper}{caps:List Operand}{args:List AVal}{R:AVal→Heap→Prop}
  (hf:C.P.funcs[f]? =some fn)(hb:fn.body=some (.seq c0 (.seq (.region id ops false) c1)))(hname:(fn.name== "runtime.NumGoroutine")=false)
  (hgf:C.P.funcs[g]? =some gn)(hgb:gn.body=some gc)(hgn:(gn.name== "runtime.NumGoroutine")=false)
  (hops:∃T1 T2 p1 p2 a1 a2,ops.toList=[⟨some d,.makeFunc (.func g) #[] caps.toArray,T1,p1,a1,none⟩,⟨none,.defer ⟨.value (.tmp d), #[], #[]⟩,T2,p2,a2,none⟩])
  (ho0:okCode fn.ntmps c0=true)(ho1:okCode fn.ntmps c1=true)(hoc:caps.all (okOpd fn.ntmps)=true)(hd:d<fn.ntmps)
  (hres:fn.results.toList.all (okRes fn.ntmps)=true)(hlen:args.length≤fn.ntmps)
  (hw:∀KK:Env→Heap→Prop,(∀t1 h1,
    ((∃Q:AVal→Env→Heap→Prop,DJ C fn.ntmps Q c1 (upd t1 d (.fn (.func g) [] (caps.map (aev C.G t1)))) h1∧
     ∀x t2 h2,Q x t2 h2→SatR C g (caps.map (aev C.G t1)) h2 (some x) fun h3=>need (resA C t2 h3 fn.results.toList) (Fin h h3 R))∨
    (∃Q:Env→Heap→Prop,WP C c1 (fun e t h=>(e=.normal∨e=.ret)∧Q t h) (upd t1 d (.fn (.func g) [] (caps.map (aev C.G t1)))) h1∧
     ∀t2 h2,Q t2 h2→SatR C g (caps.map (aev C.G t1)) h2 none fun h3=>need (resA C t2 h3 fn.results.toList) (Fin h h3 R)))→KK t1 h1)→
   WP C c0 (fun e t h=>e=.normal∧KK t h) (env0 args) h):Sat C f args h R:=by
 intro B S μ w vs fit rl
 have hcall:(callFunc f vs.toArray).run C.P w=.ok (.enter f vs.toArray) w:=by
  have hne:fn.name≠ "runtime.NumGoroutine" :=by simpa using hname
  simp[callFunc,hf,hne,hb]
 rw[hcall]
 show Calls C.P f vs.toArray w _
 refine calls_of_wp_defers hf hb ?_
 have hres':=List.all_eq_true.1 hres
 refine wpIn_wide.1 (wpIn_seq (wpIn_mono (dz (ρ:=none) (m:=0) (B:=B) (n:=fn.ntmps) (ds:=[]) c0 ho0 (.inl rfl) (Step.refl B S μ w) fit (dR rl hlen) (hw _ fun _ _ g=>g)) ?_))
 rintro e a1 w1 ⟨t1,h1,S1,μ1,⟨rfl,hk⟩,st1,f1,r1⟩
 have hcg:∀(az:Array Value) (w:World),(callFunc g az).run C.P w=.ok (.enter g az) w:=fun az w=>by
  have hne:gn.name≠ "runtime.NumGoroutine" :=by simpa using hgn
  simp[callFunc,hgf,hne,hgb]
 obtain⟨T1,T2,p1,p2,x1,x2,hops⟩:=hops
 have hcr:RepL w1 S1 μ1 (caps.map (aev C.G t1)) (caps.map a1.eval):=RepL.of_map (fun x hx=>cg f1 r1 x hx) caps (List.all_eq_true.1 hoc)
 let cv:Array Value:=caps.toArray.map a1.eval
 have hcv:cv.toList=caps.map a1.eval:=by simp[cv]
 have rfn:Rep w1 S1 μ1 (.fn (.func g) [] (caps.map (aev C.G t1))) (.func (.func g) #[] cv):=by
  have:=Rep.fn (w:=w1) (S:=S1) (μ:=μ1) (.func g) [] (caps.map (aev C.G t1)) [] cv.toList rfl (by rw[hcv];simp) (fun i x hx=>by cases hx) (fun i x hx=>by rw[hcv];exact hcr.2 i x hx)
  simpa using this
 let D:Deferred:= {target:=.fn (.func g) cv,args:= #[]}
 let a2:Act:= {a1.put (some d) (.func (.func g) #[] cv)with defers:=D::(a1.put (some d) (.func (.func g) #[] cv)).defers}
 have r2:REnv fn.ntmps w1 S1 μ1 (upd t1 d (.fn (.func g) [] (caps.map (aev C.G t1)))) a2 [D]:=by
  have:=r1.put (some d) rfn
  exact⟨this.1,congrArg (D:: ·) this.2.1,this.2.2⟩
 have leave:∀(a3:Act) (w3:World) (t3:Env) (h3:Heap) (S3:Addr→Prop) (μ3:Map) (x:Option AVal) (u:FrameMode),u≠ .run→Step B S μ w S1 μ1 w1→Step B S1 μ1 w1 S3 μ3 w3→Fits C B S3 μ3 h3 w3→REnv fn.ntmps w3 S3 μ3 t3 a3 [D]→
   (match x with|none=>u=.returning|some x=>∃xv,Rep w3 S3 μ3 x xv∧u=.panicking [thrown xv])→
   SatR C g (caps.map (aev C.G t1)) h3 x (fun h4=>need (resA C t3 h4 fn.results.toList) (Fin h h4 R))→
   Leaves C.P fn a3.tmps (fun e w'=>∃v,e=.returned v∧OpPost C B S μ w R v w') a3.defers u w3:=fun a3 w3 t3 h3 S3 μ3 x u hu s01 s13 f3 r3 hx hg=>by
  rw[r3.2.1]
  refine leaves_cons (f:=g) (args:=(caps.map a1.eval).toArray) hu ?_ ?_
  ·simp only[invoke]
   rw[show(#[]++cv:Array Value)=(caps.map a1.eval).toArray by simp[cv],hcg]
  ·refine(hg B S3 μ3 w3 (caps.map a1.eval) u f3 ⟨hcr.1,fun i x hx=>(hcr.2 i x hx).mono s13⟩ hx).mono ?_
   rintro e u' w4 ⟨v,rfl,hs,h4,S4,μ4,hn,s34,f4⟩
   show Leaves C.P fn a3.tmps _ [] (settle u') w4
   rw[hs]
   obtain⟨r0,hr0,hF⟩:=ac hn
   obtain⟨v,hv,hrep⟩:=il (ds:=[D]) f4 (r3.mono s34) hres' hr0
   exact⟨v,hv,v,rfl,hF.post fit ((s01.trans s13).trans s34) f4 hrep⟩
 refine wpIn_seq (wpIn_region_list ?_)
 rw[hops]
 unfold wpListIn
 rw[if_pos (by simp[Region.wanted])]
 refine⟨fun _ _=>trivial,?_⟩
 rw[Oper.semAt_eq _ _ _ fun c e=>by cases e]
 rw[show(execOp a1.eval ⟨some d,.makeFunc (.func g) #[] caps.toArray,T1,p1,x1,none⟩).run C.P w1=.ok (.value (.func (.func g) #[] cv)) w1 from aR (by simp[Instr.makeFunc,cv]),Oper.uponIn_value]
 unfold wpListIn
 rw[if_pos (by simp[Region.wanted])]
 refine⟨fun _ _=>trivial,?_⟩
 have hev:(a1.put (some d) (.func (.func g) #[] cv)).eval (.tmp d)=.func (.func g) #[] cv:=by
  have hs:d<a1.tmps.size:=by rw[r1.1];exact hd
  simp[Act.put,Act.eval,hs]
 have hde:(Oper.semAt Fence.wide.round (a1.put (some d) (.func (.func g) #[] cv)).eval ⟨none,.defer ⟨.value (.tmp d), #[], #[]⟩,T2,p2,x2,none⟩).run C.P w1=.ok (.defer D) w1:=by
  show(do pure (.defer (← resolve (a1.put (some d) (.func (.func g) #[] cv)).eval ⟨.value (.tmp d), #[], #[]⟩ T2)):Sem Next).run C.P w1=_
  simp only[resolve,hev,Deferred.ofValue,Sem.run_bind,Sem.run_pure,Result.andThen_ok]
  simp[D]
 change Oper.uponIn Fence.wide 0 C.P _ (a1.put (some d) (.func (.func g) #[] cv)) _ _ (Sem.run C.P (Oper.semAt Fence.wide.round (a1.put (some d) (.func (.func g) #[] cv)).eval _) w1)
 rw[hde,Oper.uponIn_defer]
 unfold wpListIn
 show c1.wpIn (WF none) 0 C.P _ a2 w1
 obtain⟨Q,hj,hg⟩| ⟨Q,hj,hg⟩:=hk
 ·refine wpIn_mono (hj 0 B S1 μ1 w1 S1 μ1 w1 a2 [D] (Step.refl ..) f1 r2) ?_
  rintro e a3 w3 ⟨v,x,t3,h3,S3,μ3,rfl,hq,st3,f3,r3,rr⟩
  exact leave a3 w3 t3 h3 S3 μ3 (some x) _ (by simp) st1 st3 f3 r3 ⟨v,rr,rfl⟩ (hg x t3 h3 hq)
 ·refine wpIn_mono (dz (ρ:=none) (ds:=[D]) c1 ho1 (.inl rfl) (Step.refl B S1 μ1 w1) f1 r2 hj) ?_
  rintro e a3 w3 ⟨t3,h3,S3,μ3,⟨he,hq⟩,st3,f3,r3⟩
  have:=leave a3 w3 t3 h3 S3 μ3 none .returning (by simp) st1 st3 f3 r3 rfl (hg t3 h3 hq)
  rcases he with rfl|rfl<;>exact this
end
end Go.Av
