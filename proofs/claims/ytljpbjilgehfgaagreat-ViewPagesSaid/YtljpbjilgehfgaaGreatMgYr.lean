/- A range over a function: what a round gives, the statement, and a function that holds one. -/
import Derived.Test.YtljpbjilgehfgaaGreatMgSe
import Derived.RangeFuncLeaves
import Derived.RangeFuncRecord
set_option linter.unusedSimpArgs false
set_option linter.unusedVariables false
set_option linter.unusedSectionVars false
set_option linter.unnecessarySimpa false
set_option maxRecDepth 100000
set_option maxHeartbeats 16000000
namespace Go.Av
open Go Go.Proofs Go.RowKit
variable (G:Nat→Option (List AVal))
theorem mt(x:AVal)(h:Heap):Sat (CT G) 298 [x] h (fun r h'=>r=x∧h'=h):=by
 refine Sat.of_extern (fn:=Tryz.f298) (ex:=Extern.AbiNoEscape.same) Tryz.func298 (by kernel_rfl) (by kernel_rfl) (by kernel_rfl) (by kernel_rfl) fun B S μ w vs f r=>?_
 obtain⟨hl,hr⟩:=r
 match vs,hl,hr with
 | [v],_,hr=>
  refine⟨v,w,Lib.run_noEscape w v,x,h,S,μ,⟨rfl,rfl⟩,Step.refl _ _ _ _,f,?_⟩
  simpa using hr 0 x rfl
end Go.Av
namespace Go.Av
open Go.RowKit
section
variable (C:Ctx)
def loadX(T:TypeId)(x:AVal)(h:Heap):Option AVal:=match x with
 | .ad cs=>pickT C.P T cs
 | .hp p ver i off=>match getRow h p ver with
  |some (_,_,rows)=>match rows[i]? with
   |some r=>pickT C.P T (r.cells.drop off)
   |none=>none
  |none=>none
 |_=>none
def nilX(x:AVal)(h:Heap):Option AVal:=match x with
 | .hp p ver i off=>if (getRow h p ver).isSome=true then some (.hp p ver i off)else none
 | .ad cs=>some (.ad cs)
 | .fn (.func f) a b=>some (.fn (.func f) a b)
 | .ifc T v=>some (.ifc T v)
 |_=>none
def binX(h:Heap)(op:BinOp)(T:TypeId)(x y:AVal):Option AVal:=match x,y with
 | .sl _ [],.nil (.slice none 0 0)=>none
 |x,y=>abin C.P h op T x y
def convX(src dst:TypeId)(x:AVal)(h:Heap):Option AVal:=match x with
 | .hp p ver 0 0=>match getRow h p ver with
  |some (e,n,rows)=>match rows with
   | []=>none
   |_::_=>if ptrConv C.P src dst e n=true then some (.hp p ver 0 0)else none
  |none=>none
 | .hs p v o l r=>if bytesStr C.P src dst=true then match elemsOf h 1 (.hs p v o l r)with
  |some ys=>match bytesA ys with|some bs=>some (.str bs)|none=>none
  |none=>none else none
 | .int k n=>aconv C.P src dst (.int k n)
 | .str s=>aconv C.P src dst (.str s)
 |_=>none
def fieldAX(T:TypeId)(f:Nat)(x:AVal)(h:Heap):Option AVal:=match fOff C.P T f with
 |some (o,_,n)=>if n=0 then none else match x with
  | .hp p ver i off=>if (getRow h p ver).isSome=true then some (.hp p ver i (off+o))else none
  | .ad cs=>if o<cs.length then some (.ad (cs.drop o))else none
  |_=>none
 |none=>none
def fieldX(T:TypeId)(f:Nat)(x:AVal):Option AVal:=match fOff C.P T f with
 |some (o,fT,_)=>match x with
  | .agg cs=>pickT C.P fT (cs.drop o)
  |_=>none
 |none=>none
def indexAX(T:TypeId)(x i:AVal)(h:Heap):Option AVal:=match i with
 | .int _ n=>if 0≤n then match x with
  | .sl m es=>match elmT C.P T with
   |some e=>if szOf C.P e=some m∧0<m then match es[n.toNat]? with
    |some r=>some (.ad r.cells)
    |none=>none else none
   |none=>none
  | .hs p ver off len _=>match elmT C.P T,getRow h p ver with
   |some e,some (_,m,_)=>if szOf C.P e=some m∧n<len then some (.hp p ver (off+n.toNat) 0)else none
   |_,_=>none
  | .hp p ver j off=>match arrT C.P T with
   |some (k,e)=>match szOf C.P e with
    |some m=>if (getRow h p ver).isSome=true∧n<k then some (.hp p ver j (off+n.toNat*m))else none
    |none=>none
   |none=>none
  | .ad cs=>match arrT C.P T with
   |some (k,e)=>match szOf C.P e with
    |some m=>if n<k∧n.toNat*m<cs.length then some (.ad (cs.drop (n.toNat*m)))else none
    |none=>none
   |none=>none
  |_=>none else none
 |_=>none
def indexX(T:TypeId)(x i:AVal):Option AVal:=match i with
 | .int _ n=>if 0≤n then match x with
  | .str s=>if strT C.P T=true then match s[n.toNat]? with
   |some b=>some (.int .u8 b.toNat)
   |none=>none else none
  | .agg cs=>match arrT C.P T with
   |some (k,e)=>match szOf C.P e with
    |some m=>if n<k then pickT C.P e (cs.drop (n.toNat*m))else none
    |none=>none
   |none=>none
  |_=>none else none
 |_=>none
def buildX(T:TypeId)(parts:List (Nat×AVal)):Option AVal:=match zroT C.P T with
 |some z=>if z.cells.all AVal.sto=true then match nFld C.P T with
  |some _=>match fillA (fun i=>(fOff C.P T i).map fun q=>(q.1,q.2.2)) z.cells parts with
   |some cs=>some (.agg cs)
   |none=>none
  |none=>match arrT C.P T with
   |some (_,e)=>match szOf C.P e with
    |some n=>match fillA (fun i=>some (i*n,n)) z.cells parts with
     |some cs=>some (.agg cs)
     |none=>none
    |none=>none
   |none=>none else none
 |none=>none
def callPX(c:Call)(ρ:Operand→AVal)(h:Heap):Option AVal:=match c.callee with
 | .builtin .len=>match c.args.toList,c.argTypes.toList with
  | [x],[T]=>match alen C.P h T (ρ x)with|some n=>some (.int .i64 n)|none=>none
  |_,_=>none
 | .builtin .max=>match c.args.toList with
  | [x,y]=>match ρ x,ρ y with| .int kd a,.int _ b=>some (.int kd (if b>a then b else a))|_,_=>none
  |_=>none
 | .builtin .min=>match c.args.toList with
  | [x,y]=>match ρ x,ρ y with| .int kd a,.int _ b=>some (.int kd (if b<a then b else a))|_,_=>none
  |_=>none
 | .builtin .unsafeSliceData=>match c.args.toList with
  | [x]=>match ρ x with
   | .hs p ver 0 len true=>if (getRow h p ver).isSome=true then(if 0<len then some (.hp p ver 0 0)else some .pa)else none
   | .nil (.slice none 0 0)=>some .pa
   |_=>none
  |_=>none
 |_=>none
def pureX(o:Op)(t:Env)(h:Heap):Option AVal:=
 let ρ:=aev C.G t
 match o with
 | .move x=>some (ρ x)
 | .assign x=>some (ρ x)
 | .pick c a b=>match ρ c with| .bool true=>some (ρ a)| .bool false=>some (ρ b)|_=>none
 | .load T x=>loadX C T (ρ x) h
 | .nilCheck x=>nilX (ρ x) h
 | .binOp op T x y _=>binX C h op T (ρ x) (ρ y)
 | .unOp op _ x=>aun op (ρ x)
 | .convert s d x=>convX C s d (ρ x) h
 | .makeInterface T x=>if ifcT C.P T=some false then some (.ifc T (ρ x))else none
 | .makeFunc f first captured=>some (.fn f (first.toList.map ρ) (captured.toList.map ρ))
 | .slice T x lo hi mx=>aslice C.P h T (ρ x) (lo.map ρ) (hi.map ρ) (mx.map ρ)
 | .fieldAddr T x f=>fieldAX C T f (ρ x) h
 | .field T x f=>fieldX C T f (ρ x)
 | .indexAddr T x i=>indexAX C T (ρ x) (ρ i) h
 | .index T x i=>indexX C T (ρ x) (ρ i)
 | .extract x i=>match ρ x with| .tup vs=>vs[i]? |_=>none
 | .build T parts=>buildX C T (parts.toList.map fun q=>(q.1,ρ q.2))
 | .call c=>callPX C c ρ h
 |_=>none
variable {C} {t:Env} {h:Heap}
theorem ao{α:Type}{x:Option α}{a:α}{f:α→Prop}(e:x=some a)(h:f a):need x f:=by rw[e];exact h
theorem ur{T:TypeId}{x v:AVal}(g:loadX C T x h=some v){k:AVal→Prop}(hk:k v):loadK C T x h k:=by
 unfold loadX at g;unfold loadK
 split at g
 ·exact ao g hk
 ·split at g
  ·rename_i hq
   split at g
   ·rename_i hr
    exact ao hq (ao hr (ao g hk))
   ·cases g
  ·cases g
 ·cases g
theorem vV{op:BinOp}{T:TypeId}{x y v:AVal}(g:binX C h op T x y=some v){k:AVal→Prop}(hk:k v):binK C.P h op T x y k:=by
 unfold binX at g
 split at g
 ·cases g
 ·rename_i hne
  rw[bW fun n e1 e2=>hne n e1 e2]
  exact ao g hk
theorem ut{s d:TypeId}{x v:AVal}(g:convX C s d x h=some v){k:AVal→Prop}(hk:k v):convK C.P s d x h k:=by
 unfold convX at g
 split at g
 ·split at g
  ·rename_i hq
   split at g
   ·cases g
   ·split at g
    ·rename_i hp;cases g
     exact ao hq ⟨hp,by simp,hk⟩
    ·cases g
  ·cases g
 ·split at g
  ·rename_i hb
   split at g
   ·rename_i hy
    split at g
    ·rename_i hz
     cases g
     exact⟨hb,ao hy (ao hz hk)⟩
    ·cases g
   ·cases g
  ·cases g
 ·exact ao g hk
 ·exact ao g hk
 ·cases g
theorem mF{o:Op}{v:AVal}(g:pureX C o t h=some v){K:AVal→Heap→Prop}(hk:K v h):wpOp C o t h K:=by
 cases o with
 |move x=>simp only[pureX,Option.some.injEq]at g;subst g;exact hk
 |assign x=>simp only[pureX,Option.some.injEq]at g;subst g;exact hk
 |pick c a b=>
  simp only[pureX]at g
  unfold wpOp;simp only[]
  split at g
  ·rename_i e;cases g;rw[e];exact And.intro (fun _=>hk) (fun e=>Bool.noConfusion e)
  ·rename_i e;cases g;rw[e];exact And.intro (fun e=>Bool.noConfusion e) (fun _=>hk)
  ·cases g
 |load T x=>
  have:=ur (k:=fun v=>K v h) g hk
  unfold loadK at this;unfold wpOp;simp only[]
  exact this
 |nilCheck x=>
  simp only[pureX,nilX]at g
  unfold wpOp;simp only[]
  split at g
  ·rename_i e;rw[e]
   split at g
   ·rename_i e2;cases g;exact⟨e2,hk⟩
   ·cases g
  ·rename_i e;rw[e];cases g;exact hk
  ·rename_i e;rw[e];cases g;exact hk
  ·rename_i e;rw[e];cases g;exact hk
  ·cases g
 |binOp op T x y _=>exact vV (k:=fun v=>K v h) g hk
 |unOp op _ x=>exact ao g hk
 |convert s d x=>exact ut (k:=fun v=>K v h) g hk
 |makeInterface T x=>
  simp only[pureX]at g
  split at g
  ·rename_i e;cases g;exact⟨e,hk⟩
  ·cases g
 |makeFunc f a b=>simp only[pureX,Option.some.injEq]at g;subst g;exact hk
 |slice T x lo hi mx=>exact ao g hk
 |fieldAddr T x f=>
  simp only[pureX,fieldAX]at g
  unfold wpOp;simp only[]
  split at g
  ·rename_i e
   split at g
   ·cases g
   ·rename_i hn
    refine ao e ⟨hn,?_⟩
    split at g
    ·rename_i e;rw[e]
     split at g
     ·rename_i e2;cases g;exact⟨e2,hk⟩
     ·cases g
    ·rename_i e;rw[e]
     split at g
     ·rename_i e2;cases g;exact⟨e2,hk⟩
     ·cases g
    ·cases g
  ·cases g
 |field T x f=>
  simp only[pureX,fieldX]at g
  unfold wpOp;simp only[]
  split at g
  ·rename_i e
   refine ao e ?_
   split at g
   ·rename_i e;rw[e];exact ao g hk
   ·cases g
  ·cases g
 |indexAddr T x i=>
  simp only[pureX,indexAX]at g
  unfold wpOp;simp only[]
  split at g
  ·rename_i ei;rw[ei];simp only[]
   split at g
   ·rename_i h0
    split at g
    ·rename_i e;rw[e];simp only[]
     split at g
     ·rename_i he
      split at g
      ·rename_i hs
       split at g
       ·rename_i hr;cases g;exact ao he ⟨hs.1,h0,hs.2,ao hr hk⟩
       ·cases g
      ·cases g
     ·cases g
    ·rename_i e;rw[e];simp only[]
     split at g
     ·rename_i he hr
      split at g
      ·rename_i hs;cases g;exact ao he (ao hr ⟨hs.1,h0,hs.2,hk⟩)
      ·cases g
     ·cases g
    ·rename_i e;rw[e];simp only[]
     split at g
     ·rename_i he
      split at g
      ·rename_i hs
       split at g
       ·rename_i hc;cases g;exact ao he (ao hs ⟨hc.1,h0,hc.2,hk⟩)
       ·cases g
      ·cases g
     ·cases g
    ·rename_i e;rw[e];simp only[]
     split at g
     ·rename_i he
      split at g
      ·rename_i hs
       split at g
       ·rename_i hc;cases g;exact ao he (ao hs ⟨h0,hc.1,hc.2,hk⟩)
       ·cases g
      ·cases g
     ·cases g
    ·cases g
   ·cases g
  ·cases g
 |index T x i=>
  simp only[pureX,indexX]at g
  unfold wpOp;simp only[]
  split at g
  ·rename_i ei;rw[ei];simp only[]
   split at g
   ·rename_i h0
    split at g
    ·rename_i e;rw[e];simp only[]
     split at g
     ·rename_i he
      split at g
      ·rename_i hr;cases g;exact⟨he,h0,ao hr hk⟩
      ·cases g
     ·cases g
    ·rename_i e;rw[e];simp only[]
     split at g
     ·rename_i he
      split at g
      ·rename_i hs
       split at g
       ·rename_i hc;exact ao he (ao hs ⟨h0,hc,ao g hk⟩)
       ·cases g
      ·cases g
     ·cases g
    ·cases g
   ·cases g
  ·cases g
 |extract x i=>
  simp only[pureX]at g
  unfold wpOp;simp only[]
  split at g
  ·rename_i e;rw[e];exact ao g hk
  ·cases g
 |build T parts=>
  simp only[pureX,buildX]at g
  unfold wpOp;simp only[]
  split at g
  ·rename_i hz
   split at g
   ·rename_i ha
    refine ao hz ⟨ha,?_⟩
    split at g
    ·rename_i hn;rw[hn];simp only[]
     split at g
     ·rename_i hf;cases g;exact ao hf hk
     ·cases g
    ·rename_i hn;rw[hn]
     split at g
     ·rename_i hr;rw[hr];simp only[]
      split at g
      ·rename_i hs
       split at g
       ·rename_i hf;cases g;exact ao hs (ao hf hk)
       ·cases g
      ·cases g
     ·cases g
   ·cases g
  ·cases g
 |call c=>
  simp only[pureX,callPX]at g
  unfold wpOp;simp only[]
  unfold wpCall;simp only[]
  split at g
  ·rename_i hc;rw[hc];simp only[]
   split at g
   ·rename_i h1 h2;rw[h1,h2];simp only[]
    split at g
    ·rename_i hn;cases g;exact ao hn hk
    ·cases g
   ·cases g
  ·rename_i hc;rw[hc];simp only[]
   split at g
   ·rename_i h1;rw[h1];simp only[]
    split at g
    ·rename_i e1 e2;cases g;rw[e1,e2];unfold maxK;simp only[decide_eq_true_eq];exact hk
    ·cases g
   ·cases g
  ·rename_i hc;rw[hc];simp only[]
   split at g
   ·rename_i h1;rw[h1];simp only[]
    split at g
    ·rename_i e1 e2;cases g;rw[e1,e2];unfold maxK;simp only[decide_eq_true_eq];exact hk
    ·cases g
   ·cases g
  ·rename_i hc;rw[hc];simp only[]
   split at g
   ·rename_i h1;rw[h1];simp only[]
    split at g
    ·rename_i e1;rw[e1];unfold sdataK;simp only[]
     split at g
     ·rename_i hs
      refine⟨hs,?_⟩
      split at g
      ·rename_i hl;cases g;rw[if_pos hl];exact hk
      ·rename_i hl;cases g;rw[if_neg hl];exact hk
     ·cases g
    ·rename_i e1;rw[e1];cases g;exact hk
    ·cases g
   ·cases g
  ·cases g
 |_=>cases g
end
end Go.Av
namespace Go.Av
open Go.RowKit
abbrev CallX:=FuncId→List AVal→Heap→Option (AVal×Heap)
section
variable (C:Ctx)
def roomyB(n bytes:Nat):Bool:=decide (n≤maxLen)&&decide (n*bytes≤140737488355328)
def appX(T:TypeId)(x y:AVal)(h:Heap):Option (AVal×Heap):=match elmT C.P T with
 |none=>none
 |some e=>match szOf C.P e with
  |none=>none
  |some n=>match byT C.P e with
   |none=>none
   |some by'=>match elemsOf h n y with
    |none=>none
    |some ys=>if 0<n∧(zroT C.P e).map (fun z=>z.cells.length)=some n then match x with
     | .nil (.slice none 0 0)=>if roomyB ys.length by'=true then some (.hs h.length 0 0 ys.length true,h++[.row e n 0 ys])else none
     | .hs p ver off len room=>match getRow h p ver with
      |some (e',m,rows)=>if e'=e∧m=n∧off=0∧roomyB (len+ys.length) by'=true then
        (if room=true then(if len=rows.length then some (.hs p (ver+1) 0 (len+ys.length) true,h.set p (.row e n (ver+1) (rows++ys)))else none)
        else(if 0<ys.length∧len≤rows.length then some (.hs h.length 0 0 (len+ys.length) true,h++[.row e n 0 (rows.take len++ys)])else none))else none
      |none=>none
     | .ez=>if ys=[]then some (.ez,h)else if roomyB ys.length by'=true then some (.hs h.length 0 0 ys.length true,h++[.row e n 0 ys])else none
     |_=>none else none
def ustrX(T:TypeId)(x n:AVal)(h:Heap):Option (AVal×Heap):=match n with
 | .int .i64 m=>if m=0 then(match x with| .pa=>some (.str [],h)|_=>none)
  else match x with
   | .hp p ver 0 0=>match getRow h p ver with
    |some (e,k,rows)=>if k=1∧bptr C.P T e=true∧0<m∧m.toNat≤rows.length then match bytesA (rows.take m.toNat)with
     |some bs=>some (.str bs,h.set p .dead)
     |none=>none else none
    |none=>none
   |_=>none
 |_=>none
def rowsX(T len:Nat)(idx:List Nat)(xs:List AVal)(h:Heap):Option (AVal×Heap):=match elmT C.P T with
 |none=>none
 |some e=>match szOf C.P e with
  |none=>none
  |some n=>if len=0 then(if idx.length=0 then some (.ez,h)else none)
   else if idx.length=len∧0<n∧len*n≤16777216∧idx=List.range len∧(zroT C.P e).map (fun z=>(z.cells.length,z.cells.all AVal.sto))=some (n,true)∧
    xs.all (fun x=>decide (x.cells.length=n)&&x.lies)=true then some (.hs h.length 0 0 len true,h++[.row e n 0 xs])else none
def storeX(T:TypeId)(x y:AVal)(h:Heap):Option (AVal×Heap):=match x with
 | .hp p ver i off=>match getRow h p ver with
  |some (e,n,rows)=>match rows[i]? with
   |some r=>if szOf C.P T=some y.cells.length∧y.lies=true∧off+y.cells.length≤n then some (undefA,h.set p (.row e n ver (rows.set i (putA r off y.cells))))else none
   |none=>none
  |none=>none
 |_=>none
def nextX(x:AVal)(isS:Bool)(h:Heap):Option (AVal×Heap):=match x with
 | .hp p 0 0 0=>if isS=true then match h[p]? with
  |some (.iter s pos)=>if pos<s.length then some (.tup [.bool true,.int .i64 pos,.int .i32 (Utf8.decode ⟨s.toArray⟩ pos).1],h.set p (.iter s (pos+(Utf8.decode ⟨s.toArray⟩ pos).2)))else some (.tup [.bool false],h)
  |_=>none else none
 |_=>none
def opX(call:CallX)(o:Op)(t:Env)(h:Heap):Option (AVal×Heap):=
 match pureX C o t h with
 |some v=>some (v,h)
 |none=>
 let ρ:=aev C.G t
 match o with
 | .alloc e=>match zroT C.P e with
  |some z=>if 0<z.cells.length∧z.cells.all AVal.sto=true∧z.lies=true then some (.hp h.length 0 0 0,h++[.row e z.cells.length 0 [z]])else none
  |none=>none
 | .box e x=>if 0<(ρ x).cells.length∧(ρ x).lies=true then some (.hp h.length 0 0 0,h++[.row e (ρ x).cells.length 0 [ρ x]])else none
 | .buildSlice T len parts=>rowsX C T len (parts.toList.map (·.1)) (parts.toList.map fun q=>ρ q.2) h
 | .store T x y=>storeX C T (ρ x) (ρ y) h
 | .range T x=>match ρ x with
  | .str s=>if strT C.P T=true then some (.hp h.length 0 0 0,h++[.iter s 0])else none
  |_=>none
 | .next x b=>nextX (ρ x) b h
 | .call c=>match c.callee with
  | .builtin .append=>match c.args.toList,c.argTypes.toList with
   | [x,y],[T,T']=>if T'=T∨strT C.P T'=true then appX C T (ρ x) (ρ y) h else none
   |_,_=>none
  | .builtin .unsafeString=>match c.args.toList,c.argTypes.toList with
   | [x,n],[T,_]=>ustrX C T (ρ x) (ρ n) h
   |_,_=>none
  | .value f=>match ρ f with
   | .fn (.func g) first captured=>call g (first++c.args.toList.map ρ++captured) h
   |_=>none
  |_=>none
 |_=>none
variable {C} {t:Env} {h h':Heap} {call:CallX}
theorem gD{n b:Nat}(g:roomyB n b=true):roomy n b:=by
 simpa [roomyB,roomy]using g
theorem vW{T:TypeId}{x y v:AVal}(g:appX C T x y h=some (v,h')){K:AVal→Heap→Prop}(hk:K v h'):wpAppend C.P T x y h K:=by
 unfold appX at g;unfold wpAppend
 split at g
 ·cases g
 ·rename_i e he
  refine ao he ?_
  split at g
  ·cases g
  ·rename_i n hn
   refine ao hn ?_
   split at g
   ·cases g
   ·rename_i b hb
    refine ao hb ?_
    split at g
    ·cases g
    ·rename_i ys hy
     refine ao hy ?_
     split at g
     ·rename_i hc
      refine⟨hc.1,hc.2,?_⟩
      split at g
      ·simp only[]
       split at g
       ·rename_i hr;cases g;exact⟨gD hr,hk⟩
       ·cases g
      ·simp only[]
       split at g
       ·rename_i hq
        refine ao hq ?_
        split at g
        ·rename_i hs
         refine⟨hs.1,hs.2.1,hs.2.2.1,gD hs.2.2.2,?_⟩
         split at g
         ·rename_i hr;rw[if_pos hr]
          split at g
          ·rename_i hl;cases g;exact⟨hl,hk⟩
          ·cases g
         ·rename_i hr;rw[if_neg hr]
          split at g
          ·rename_i hl;cases g;exact⟨hl.1,hl.2,hk⟩
          ·cases g
        ·cases g
       ·cases g
      ·simp only[]
       split at g
       ·rename_i hz;rw[if_pos hz];cases g;exact hk
       ·rename_i hz;rw[if_neg hz]
        split at g
        ·rename_i hr;cases g;exact⟨gD hr,hk⟩
        ·cases g
      ·cases g
     ·cases g
theorem uu{T:TypeId}{x y v:AVal}(g:ustrX C T x y h=some (v,h')){K:AVal→Heap→Prop}(hk:K v h'):ustrK C.P T x y h K:=by
 unfold ustrX at g;unfold ustrK
 split at g
 ·simp only[]
  split at g
  ·rename_i hm;rw[if_pos hm]
   split at g
   ·cases g;exact hk
   ·cases g
  ·rename_i hm;rw[if_neg hm]
   split at g
   ·simp only[]
    split at g
    ·rename_i hq
     refine ao hq ?_
     split at g
     ·rename_i hs
      split at g
      ·rename_i hb;cases g;exact⟨hs.1,hs.2.1,hs.2.2.1,hs.2.2.2,ao hb hk⟩
      ·cases g
     ·cases g
    ·cases g
   ·cases g
 ·cases g
theorem jv(hcall:∀f args h r h',call f args h=some (r,h')→Sat C f args h fun r2 h2=>r2=r∧h2=h'){o:Op}{v:AVal}(g:opX C call o t h=some (v,h')){K:AVal→Heap→Prop}(hk:K v h'):wpOp C o t h K:=by
 unfold opX at g
 split at g
 ·rename_i hp;cases g;exact mF hp hk
 ·rename_i hp
  clear hp
  cases o with
  |alloc e=>
   simp only[]at g
   unfold wpOp;simp only[]
   split at g
   ·rename_i hz
    split at g
    ·rename_i hs;cases g;exact ao hz ⟨hs.1,hs.2.1,hs.2.2,hk⟩
    ·cases g
   ·cases g
  |box e x=>
   simp only[]at g
   unfold wpOp;simp only[]
   split at g
   ·rename_i hs;cases g;exact⟨hs.1,hs.2,hk⟩
   ·cases g
  |buildSlice T len parts=>
   simp only[rowsX]at g
   unfold wpOp;simp only[]
   split at g
   ·cases g
   ·rename_i he
    refine ao he ?_
    split at g
    ·cases g
    ·rename_i hn
     refine ao hn ?_
     split at g
     ·rename_i h0;rw[if_pos h0]
      split at g
      ·rename_i hp;cases g;exact⟨by simpa using hp,hk⟩
      ·cases g
     ·rename_i h0;rw[if_neg h0]
      split at g
      ·rename_i hs;cases g
       obtain⟨s1,s2,s3,s4,s5,s6⟩:=hs
       refine⟨by simpa using s1,by omega,s2,s3,s4,s5,fun x hx=>?_,.inl hk⟩
       simpa using List.all_eq_true.1 s6 x hx
      ·cases g
  |store T x y=>
   simp only[storeX]at g
   unfold wpOp;simp only[]
   split at g
   ·rename_i e;rw[e];simp only[]
    split at g
    ·rename_i hq
     refine ao hq ?_
     split at g
     ·rename_i hr
      refine ao hr ?_
      split at g
      ·rename_i hs;cases g;exact⟨hs.1,hs.2.1,hs.2.2,hk⟩
      ·cases g
     ·cases g
    ·cases g
   ·cases g
  |range T x=>
   simp only[]at g
   unfold wpOp;simp only[]
   split at g
   ·rename_i e;rw[e];simp only[]
    split at g
    ·rename_i hs;cases g;exact⟨hs,hk⟩
    ·cases g
   ·cases g
  |next x b=>
   simp only[nextX]at g
   unfold wpOp;simp only[]
   split at g
   ·rename_i e;rw[e];simp only[]
    split at g
    ·rename_i hb
     subst hb
     simp only[]
     split at g
     ·rename_i hi;rw[hi];simp only[]
      split at g
      ·rename_i hl;cases g;exact⟨fun _=>hk,fun hn=>absurd hl hn⟩
      ·rename_i hl;cases g;exact⟨fun hn=>absurd hn hl,fun _=>hk⟩
     ·cases g
    ·cases g
   ·cases g
  |call c=>
   simp only[]at g
   unfold wpOp;simp only[]
   unfold wpCall;simp only[]
   split at g
   ·rename_i hc;rw[hc];simp only[]
    split at g
    ·rename_i h1 h2;rw[h1,h2];simp only[]
     split at g
     ·rename_i hT;exact⟨hT,vW g hk⟩
     ·cases g
    ·cases g
   ·rename_i hc;rw[hc];simp only[]
    split at g
    ·rename_i h1 h2;rw[h1,h2];simp only[]
     exact uu g hk
    ·cases g
   ·rename_i hc;rw[hc]
    split at g
    ·rename_i e;show callK _ _ _ _ _;rw[e]
     exact(hcall _ _ _ _ _ g).mono fun r2 h2 ⟨e1,e2⟩=>by rw[e1,e2];exact hk
    ·cases g
   ·cases g
  |_=>cases g
end
end Go.Av
namespace Go.Av
open Go.RowKit
def nilEq:Value→Value→Bool
 | .slice none 0 0,.slice none 0 0=>true
 | .pointer none,.pointer none=>true
 | .nilFunc,.nilFunc=>true
 | .nilIface,.nilIface=>true
 | .map none,.map none=>true
 | .tuple ⟨[]⟩,.tuple ⟨[]⟩=>true
 |_,_=>false
theorem uv{v w:Value}(h:nilEq v w=true):v=w:=by
 unfold nilEq at h;split at h<;>first|rfl|cases h
def fnEq:Fn→Fn→Bool
 | .func f,.func g=>decide (f=g)
 |_,_=>false
theorem vX{v w:Fn}(h:fnEq v w=true):v=w:=by
 unfold fnEq at h;split at h
 ·rw[of_decide_eq_true h]
 ·cases h
mutual
def beqA:AVal→AVal→Bool
 | .int k n,.int k' n'=>decide (k=k')&&decide (n=n')
 | .bool b,.bool b'=>b==b'
 | .str s,.str s'=>decide (s=s')
 | .nil v,.nil w=>nilEq v w
 | .agg cs,.agg ds=>beqAs cs ds
 | .tup cs,.tup ds=>beqAs cs ds
 | .sl n es,.sl m fs=>decide (n=m)&&beqAs es fs
 | .ad cs,.ad ds=>beqAs cs ds
 | .hp p v i o,.hp p' v' i' o'=>decide (p=p')&&decide (v=v')&&decide (i=i')&&decide (o=o')
 | .hs p v o l r,.hs p' v' o' l' r'=>decide (p=p')&&decide (v=v')&&decide (o=o')&&decide (l=l')&&(r==r')
 | .fn f xs cs,.fn g ys ds=>fnEq f g&&beqAs xs ys&&beqAs cs ds
 | .ifc t x,.ifc t' y=>decide (t=t')&&beqA x y
 | .pa,.pa=>true
 | .ez,.ez=>true
 |_,_=>false
def beqAs:List AVal→List AVal→Bool
 | [],[]=>true
 |x::l,y::m=>beqA x y&&beqAs l m
 |_,_=>false
end
mutual
theorem dN:∀(x y:AVal),beqA x y=true→x=y
 | .int k n,y,h=>by
  cases y<;>simp only[beqA,Bool.and_eq_true,decide_eq_true_eq,Bool.false_eq_true]at h
  rw[h.1,h.2]
 | .bool b,y,h=>by
  cases y<;>simp only[beqA,beq_iff_eq,Bool.false_eq_true]at h
  rw[h]
 | .str s,y,h=>by
  cases y<;>simp only[beqA,decide_eq_true_eq,Bool.false_eq_true]at h
  rw[h]
 | .nil v,y,h=>by
  cases y<;>simp only[beqA,Bool.false_eq_true]at h
  rw[uv h]
 | .agg cs,y,h=>by
  cases y<;>simp only[beqA,Bool.false_eq_true]at h
  rw[bT cs _ h]
 | .tup cs,y,h=>by
  cases y<;>simp only[beqA,Bool.false_eq_true]at h
  rw[bT cs _ h]
 | .sl n es,y,h=>by
  cases y<;>simp only[beqA,Bool.and_eq_true,decide_eq_true_eq,Bool.false_eq_true]at h
  rw[h.1,bT es _ h.2]
 | .ad cs,y,h=>by
  cases y<;>simp only[beqA,Bool.false_eq_true]at h
  rw[bT cs _ h]
 | .hp p v i o,y,h=>by
  cases y<;>simp only[beqA,Bool.and_eq_true,decide_eq_true_eq,Bool.false_eq_true]at h
  obtain⟨⟨⟨rfl,rfl⟩,rfl⟩,rfl⟩:=h;rfl
 | .hs p v o l r,y,h=>by
  cases y<;>simp only[beqA,Bool.and_eq_true,decide_eq_true_eq,beq_iff_eq,Bool.false_eq_true]at h
  obtain⟨⟨⟨⟨rfl,rfl⟩,rfl⟩,rfl⟩,rfl⟩:=h;rfl
 | .fn f xs cs,y,h=>by
  cases y<;>simp only[beqA,Bool.and_eq_true,Bool.false_eq_true]at h
  rw[vX h.1.1,bT xs _ h.1.2,bT cs _ h.2]
 | .ifc t x,y,h=>by
  cases y<;>simp only[beqA,Bool.and_eq_true,decide_eq_true_eq,Bool.false_eq_true]at h
  rw[h.1,dN x _ h.2]
 | .pa,y,h=>by cases y<;>first|rfl|simp[beqA]at h
 | .ez,y,h=>by cases y<;>first|rfl|simp[beqA]at h
theorem bT:∀(l m:List AVal),beqAs l m=true→l=m
 | [],m,h=>by cases m<;>first|rfl|simp[beqAs]at h
 |x::l,m,h=>by
  cases m with
  |nil=>simp[beqAs]at h
  |cons y m=>
   simp only[beqAs,Bool.and_eq_true]at h
   rw[dN x y h.1,bT l m h.2]
end
def beqB:Blk→Blk→Bool
 | .row e n v rows,.row e' n' v' rows'=>decide (e=e')&&decide (n=n')&&decide (v=v')&&beqAs rows rows'
 | .iter s p,.iter s' p'=>decide (s=s')&&decide (p=p')
 | .dead,.dead=>true
 |_,_=>false
theorem ox{x y:Blk}(h:beqB x y=true):x=y:=by
 unfold beqB at h;split at h
 ·simp only[Bool.and_eq_true,decide_eq_true_eq]at h
  obtain⟨⟨⟨rfl,rfl⟩,rfl⟩,h⟩:=h
  rw[bT _ _ h]
 ·simp only[Bool.and_eq_true,decide_eq_true_eq]at h
  rw[h.1,h.2]
 ·rfl
 ·cases h
def begH:Heap→Heap→Bool
 | [],_=>true
 |_::_,[]=>false
 |a::l,b::m=>beqB a b&&begH l m
theorem kf:∀{h h1:Heap},begH h h1=true→h1.take h.length=h
 | [],_,_=>by simp
 |_::_,[],h=>by simp[begH]at h
 |a::l,b::m,h=>by
  simp only[begH,Bool.and_eq_true]at h
  simp only[List.length_cons,List.take_succ_cons,kf h.2,ox h.1]
mutual
def cloA(n:Nat):AVal→Bool
 | .agg cs=>cloAs n cs
 | .tup cs=>cloAs n cs
 | .sl _ es=>cloAs n es
 | .ad cs=>cloAs n cs
 | .hp p _ _ _=>decide (p<n)
 | .hs p _ _ _ _=>decide (p<n)
 | .fn _ xs cs=>cloAs n xs&&cloAs n cs
 | .ifc _ x=>cloA n x
 | .hm p=>decide (p<n)
 |_=>true
def cloAs(n:Nat):List AVal→Bool
 | []=>true
 |x::l=>cloA n x&&cloAs n l
end
mutual
theorem eX(n:Nat):∀x:AVal,cloA n x=true→Clo n x
 | .int _ _,_=>.int _ _
 | .bool _,_=>.bool _
 | .str _,_=>.str _
 | .nil _,_=>.nil _
 | .agg cs,h=>.agg _ (cj n cs (by simpa only[cloA]using h))
 | .tup cs,h=>.tup _ (cj n cs (by simpa only[cloA]using h))
 | .sl _ es,h=>.sl _ _ (cj n es (by simpa only[cloA]using h))
 | .ad cs,h=>.ad _ (cj n cs (by simpa only[cloA]using h))
 | .hp p _ _ _,h=>.hp _ _ _ _ (by simpa only[cloA,decide_eq_true_eq]using h)
 | .hs p _ _ _ _,h=>.hs _ _ _ _ _ (by simpa only[cloA,decide_eq_true_eq]using h)
 | .fn _ xs cs,h=>by
  simp only[cloA,Bool.and_eq_true]at h
  exact .fn _ _ _ (cj n xs h.1) (cj n cs h.2)
 | .ifc _ x,h=>.ifc _ _ (eX n x (by simpa only[cloA]using h))
 | .pa,_=>.pa
 | .ez,_=>.ez
 | .hm p,h=>.hm _ (by simpa only[cloA,decide_eq_true_eq]using h)
theorem cj(n:Nat):∀l:List AVal,cloAs n l=true→∀x∈l,Clo n x
 | [],_=>by intro x hx;cases hx
 |y::l,h=>by
  simp only[cloAs,Bool.and_eq_true]at h
  intro x hx
  rcases List.mem_cons.1 hx with e|hx
  ·rw[e];exact eX n y h.1
  ·exact cj n l h.2 x hx
end
def mapO{α β:Type}(f:α→Option β):List α→Option (List β)
 | []=>some []
 |x::l=>match f x with
  |some y=>match mapO f l with|some m=>some (y::m)|none=>none
  |none=>none
theorem eY{α β:Type}{f:α→Option β}:∀{l:List α} {m:List β},mapO f l=some m→l.length=m.length∧∀(i:Nat) (x:α) (y:β),l[i]? =some x→m[i]? =some y→f x=some y
 | [],m,h=>by simp only[mapO,Option.some.injEq]at h;subst h;exact⟨rfl,fun i x y hx=>by simp at hx⟩
 |x::l,m,h=>by
  simp only[mapO]at h
  split at h
  ·rename_i y hy
   split at h
   ·rename_i m1 hm;cases h
    obtain⟨h1,h2⟩:=eY hm
    refine⟨by simp[h1],fun i a b ha hb=>?_⟩
    cases i with
    |zero=>simp at ha hb;subst ha;subst hb;exact hy
    |succ i=>exact h2 i a b (by simpa using ha) (by simpa using hb)
   ·cases h
  ·cases h
def frzX(h:Heap)(n:Nat):Nat→AVal→Option AVal
 |0,x=>if cloA n x=true then some x else none
 |f+1,x=>if cloA n x=true then some x else match x with
  | .agg cs=>match mapO (frzX h n f) cs with|some ds=>if ds.all AVal.sto=true then some (.agg ds)else none|none=>none
  | .tup cs=>match mapO (frzX h n f) cs with|some ds=>some (.tup ds)|none=>none
  | .ifc t x=>match frzX h n f x with|some y=>some (.ifc t y)|none=>none
  | .hs p ver off len room=>match getRow h p ver with
   |some (_,m,rows)=>if n≤p∧off+len≤rows.length then
     match mapO (fun r=>match mapO (frzX h n f) r.cells with|some ds=>if ds.all AVal.sto=true then some (match r with| .agg _=>AVal.agg ds|_=>(match ds with| [d]=>if d.sto=true then d else .pa|_=>.pa))else none|none=>none) rows with
     |some es=>some (.sl m ((es.drop off).take len))
     |none=>none else none
   |none=>none
  |_=>none
theorem oy(h:Heap)(n:Nat):∀(f:Nat) (x y:AVal),frzX h n f x=some y→Frz h n x y:=by
 intro f
 induction f with
 |zero=>
  intro x y g
  simp only[frzX]at g
  split at g
  ·rename_i hc;cases g;exact .clo _ (eX n _ hc)
  ·cases g
 |succ f ih=>
  intro x y g
  simp only[frzX]at g
  split at g
  ·rename_i hc;cases g;exact .clo _ (eX n _ hc)
  ·split at g
   ·split at g
    ·rename_i ds hm
     split at g
     ·rename_i hs;cases g
      obtain⟨h1,h2⟩:=eY hm
      exact .agg _ _ h1 (fun d hd=>List.all_eq_true.1 hs d hd) fun i c d hc hd=>ih _ _ (h2 i c d hc hd)
     ·cases g
    ·cases g
   ·split at g
    ·rename_i ds hm;cases g
     obtain⟨h1,h2⟩:=eY hm
     exact .tup _ _ h1 fun i c d hc hd=>ih _ _ (h2 i c d hc hd)
    ·cases g
   ·split at g
    ·rename_i hy;cases g;exact .ifc _ _ _ (ih _ _ hy)
    ·cases g
   ·split at g
    ·rename_i hq
     split at g
     ·rename_i hb
      split at g
      ·rename_i es hm;cases g
       obtain⟨h1,h2⟩:=eY hm
       have key:∀(i:Nat) (r s:AVal),_→es[i]? =some s→Frz h n r s∧r.cells.length=s.cells.length∧(∀(j:Nat) (c d:AVal),r.cells[j]? =some c→s.cells[j]? =some d→d.sto=true)∧
         ∀(j:Nat) (c d:AVal),r.cells[j]? =some c→s.cells[j]? =some d→Frz h n c d:=fun i r s hr hs=>by
        have e:=h2 i r s hr hs
        split at e
        ·rename_i ds hd
         obtain⟨k1,k2⟩:=eY hd
         split at e
         ·rename_i hst
          have hst':=List.all_eq_true.1 hst
          split at e
          ·cases e
           exact⟨.agg _ _ k1 (fun d hd=>hst' d hd) fun j c d hc hd=>ih _ _ (k2 j c d hc hd),k1,fun j c d hc hd=>hst' d (List.mem_of_getElem? hd),fun j c d hc hd=>ih _ _ (k2 j c d hc hd)⟩
          ·rename_i hna
           have hc1:r.cells=[r]:=by cases r<;>first|rfl|exact absurd rfl (hna _)
           rw[hc1]at k1 k2 ⊢
           match ds,k1 with
           | [d],_=>
            simp only at e
            have hd1:=hst' d (by simp)
            rw[if_pos hd1]at e
            have e2:d=s:=by simpa using e
            subst e2
            have hs1:d.cells=[d]:=by cases d<;>first|rfl| (simp[AVal.sto]at hd1)
            have hf:=ih _ _ (k2 0 r d rfl rfl)
            rw[hs1]
            refine⟨hf,rfl,fun j c x hc hx=>?_,fun j c x hc hx=>?_⟩
            ·match j with
             |0=>simp at hx;subst hx;exact hd1
             |j+1=>simp at hx
            ·match j with
             |0=>simp at hx hc;subst hx;subst hc;exact hf
             |j+1=>simp at hx
         ·cases e
        ·cases e
       exact .hs _ _ _ _ _ _ _ _ es hb.1 hq hb.2 h1.symm (fun i r s hr hs=>(key i r s hr hs).1) (fun i r s hr hs=>⟨(key i r s hr hs).2.1,fun j c d hc hd=>(key i r s hr hs).2.2.1 j c d hc hd⟩)
        (fun i r s j c d hr hs hc hd=>(key i r s hr hs).2.2.2 j c d hc hd)
      ·cases g
     ·cases g
    ·cases g
   ·cases g
section
variable {C:Ctx} {h:Heap}
theorem Sat.letgo{f:FuncId}{args:List AVal}{r v:AVal}{h1:Heap}(hb:h1.take h.length=h)(hz:Frz h1 h.length r v)(s:Sat C f args h fun r2 h2=>r2=r∧h2=h1):Sat C f args h fun r2 h2=>r2=v∧h2=h:=by
 intro B S μ w vs fit rl
 refine(s B S μ w vs fit rl).mono fun u w' hp=>?_
 obtain⟨r2,h',S',μ',⟨rfl,rfl⟩,st,fit',hrep⟩:=hp
 obtain⟨fc,sc⟩:=Fits.cut fit st fit' (n:=h.length) (Nat.le_refl _) (fun p k hp hk=>by
  refine .inl ⟨hp,?_⟩
  rw[← hb,List.getElem?_take_of_lt hp];exact hk)
 rw[hb]at fc
 exact⟨v,h,_,_,⟨rfl,rfl⟩,sc,fc,hz.rep fit' hrep⟩
end
end Go.Av
namespace Go.Av
open Go.RowKit
inductive Tr where
 |lf
 |nd (l:Tr) (v:AVal) (r:Tr)
namespace Tr
def get:Tr→Nat→AVal
 | .lf,_=>undefA
 | .nd _ v _,0=>v
 | .nd l _ r,i+1=>match i%2 with
  |0=>l.get (i/2)
  |_=>r.get (i/2)
def set:Tr→Nat→AVal→Tr
 | .lf,_,_=>.lf
 | .nd l _ r,0,x=>.nd l x r
 | .nd l v r,i+1,x=>match i%2 with
  |0=>.nd (l.set (i/2) x) v r
  |_=>.nd l v (r.set (i/2) x)
def mk:Nat→Tr
 |0=>.lf
 |d+1=>.nd (mk d) undefA (mk d)
def Full:Nat→Tr→Prop
 |0,_=>True
 |k+1,.nd l _ r=>Full k l∧Full k r
 |_+1,.lf=>False
theorem full_mk:∀k,Full k (mk k)
 |0=>trivial
 |k+1=>⟨full_mk k,full_mk k⟩
theorem full_set:∀(k:Nat) (t:Tr) (i:Nat) (x:AVal),Full k t→Full k (t.set i x)
 |0,_,_,_,_=>trivial
 |k+1,.nd l v r,0,x,h=>h
 |k+1,.nd l v r,i+1,x,h=>by
  simp only[set]
  split
  ·exact⟨full_set k l _ x h.1,h.2⟩
  ·exact⟨h.1,full_set k r _ x h.2⟩
theorem get_mk:∀(k i:Nat),(mk k).get i=undefA
 |0,i=>rfl
 |k+1,0=>rfl
 |k+1,i+1=>by
  simp only[mk,get]
  split<;>exact get_mk k _
theorem get_set:∀(k:Nat) (t:Tr) (i j:Nat) (x:AVal),Full k t→i+1<2^k→(t.set i x).get j=if j=i then x else t.get j
 |0,t,i,j,x,_,h=>by simp at h
 |k+1,.nd l v r,0,0,x,_,_=>rfl
 |k+1,.nd l v r,0,j+1,x,_,_=>rfl
 |k+1,.nd l v r,i+1,0,x,_,_=>by simp only[set];split<;>rfl
 |k+1,.nd l v r,i+1,j+1,x,hf,h=>by
  have hp:2^(k+1)=2*2^k:=by rw[Nat.pow_succ,Nat.mul_comm]
  rw[hp]at h
  have hk:i/2+1<2^k:=by omega
  simp only[set]
  split
  ·rename_i hi
   simp only[get]
   split
   ·rename_i hj
    rw[get_set k l (i/2) (j/2) x hf.1 hk]
    by_cases e:j=i
    ·subst e;simp
    ·rw[if_neg (by omega),if_neg (by omega)]
   ·rename_i hj
    rw[if_neg (by intro e;have:j=i:=(by omega);subst this;exact hj hi)]
  ·rename_i hi
   simp only[get]
   split
   ·rename_i hj
    rw[if_neg (by intro e;have:j=i:=(by omega);subst this;exact hi hj)]
   ·rename_i hj
    have hi':i%2=1:=(Nat.mod_two_eq_zero_or_one i).resolve_left hi
    have hj':j%2=1:=(Nat.mod_two_eq_zero_or_one j).resolve_left hj
    rw[get_set k r (i/2) (j/2) x hf.2 hk]
    by_cases e:j=i
    ·subst e;simp
    ·rw[if_neg (by omega),if_neg (by omega)]
def beq:Tr→Tr→Bool
 | .lf,.lf=>true
 | .nd l v r,.nd l' v' r'=>beqA v v'&&(l.beq l'&&r.beq r')
 |_,_=>false
theorem beq_ok:∀(a b:Tr),beq a b=true→a=b
 | .lf,.lf,_=>rfl
 | .lf,.nd _ _ _,h=>by simp[beq]at h
 | .nd _ _ _,.lf,h=>by simp[beq]at h
 | .nd l v r,.nd l' v' r',h=>by
  simp only[beq,Bool.and_eq_true]at h
  rw[dN _ _ h.1,beq_ok l l' h.2.1,beq_ok r r' h.2.2]
end Tr
def envL(ts:Tr):Env:=ts.get
def putL(ts:Tr)(d:Option Nat)(v:AVal):Tr:=match d with|some d=>ts.set d v|none=>ts
def okDst(n:Nat)(o:Oper):Bool:=match o.dst with|some d=>decide (d<n)|none=>true
def kOf(n:Nat):Nat:=Nat.log2 (n+1)+1
def argsT:Tr→Nat→List AVal→Tr
 |t,_,[]=>t
 |t,i,x::l=>argsT (t.set i x) (i+1) l
theorem dm{k0:Nat}(ts:Tr)(d:Option Nat)(v:AVal)(h:Tr.Full k0 ts):Tr.Full k0 (putL ts d v):=by
 cases d
 ·exact h
 ·exact Tr.full_set _ _ _ _ h
theorem cS{k0 n:Nat}{ts:Tr}{d:Option Nat}{v:AVal}(hf:Tr.Full k0 ts)(hn:n+1<2^k0)(hd:∀i,d=some i→i<n):envL (putL ts d v)=put (envL ts) d v:=by
 cases d with
 |none=>rfl
 |some d=>
  have hlt:=hd d rfl
  funext i
  simp only[putL,put,envL,upd]
  exact Tr.get_set k0 ts d i v hf (by omega)
theorem jw{k0:Nat}:∀(l:List AVal) (t:Tr) (i:Nat),Tr.Full k0 t→Tr.Full k0 (argsT t i l)
 | [],_,_,h=>h
 |x::l,t,i,h=>jw l _ _ (Tr.full_set _ _ _ _ h)
theorem kY{k0:Nat}:∀(l:List AVal) (t:Tr) (i j:Nat),Tr.Full k0 t→i+l.length+1<2^k0→(argsT t i l).get j=if i≤j∧j<i+l.length then l.getD (j-i) undefA else t.get j
 | [],t,i,j,_,_=>by rw[if_neg (by simp)];rfl
 |x::l,t,i,j,h,hn=>by
  simp only[List.length_cons]at hn ⊢
  rw[argsT,kY l _ _ _ (Tr.full_set _ _ _ _ h) (by omega),Tr.get_set k0 t i j x h (by omega)]
  by_cases h1:j=i
  ·subst h1
   rw[if_neg (by omega),if_pos rfl,if_pos (by omega)];simp
  ·by_cases h2:i+1≤j∧j<i+1+l.length
   ·rw[if_pos h2,if_pos (by omega)]
    have:j-i=(j-(i+1))+1:=by omega
    rw[this];simp
   ·rw[if_neg h2,if_neg h1,if_neg (by omega)]
section
variable (C:Ctx)
def callP(call:CallX)(g:FuncId)(args:List AVal)(h:Heap):Option AVal:=match call g args h with
 |some (r,h1)=>if begH h h1=true then frzX h1 h.length 20 r else none
 |none=>none
def heldX(call:CallX)(o:Op)(t:Env)(h:Heap):Option AVal:=match pureX C o t h with
 |some v=>some v
 |none=>match o with
  | .buildSlice T len parts=>match rowsX C T len (parts.toList.map (·.1)) (parts.toList.map fun q=>aev C.G t q.2) h with
   |some (.ez,_)=>some .ez
   |some (.hs _ _ _ _ _,_)=>match (elmT C.P T).bind (szOf C.P)with|some n=>some (.sl n (parts.toList.map fun q=>aev C.G t q.2))|none=>none
   |_=>none
  | .call c=>match c.callee with
   | .value f=>match aev C.G t f with
    | .fn (.func g) first captured=>callP call g (first++c.args.toList.map (aev C.G t)++captured) h
    |_=>none
   |_=>none
  |_=>none
def isHeldB:Op→Bool
 | .buildSlice _ _ _=>true
 | .move _| .assign _| .pick _ _ _| .load _ _| .nilCheck _| .binOp _ _ _ _ _| .unOp _ _ _| .convert _ _ _| .makeInterface _ _| .makeFunc _ _ _| .slice _ _ _ _ _
 | .fieldAddr _ _ _| .field _ _ _| .indexAddr _ _ _| .index _ _ _| .extract _ _| .build _ _=>true
 | .call c=>match c.callee with| .builtin .len=>true| .builtin .max=>true| .builtin .min=>true| .builtin .unsafeSliceData=>true| .value _=>true|_=>false
 |_=>false
def drawK(l:List Oper):List Nat:=match (List.range (l.length+1)).reverse.filter (fun k=>(l.take k).all (fun o=>isHeldB o.op)&&(preOk l.toArray k&&decide (k≤l.length)))with
 | []=>[]
 |m::rest=>(m::rest).filter fun k=>decide (m≤k+2)
theorem rR{l:List Oper}{k:Nat}(h:k∈drawK l):((l.take k).all (fun o=>isHeldB o.op)&&(preOk l.toArray k&&decide (k≤l.length)))=true:=by
 unfold drawK at h
 split at h
 ·cases h
 ·rename_i m rest hq
  have h1:=(List.mem_filter.1 h).1
  rw[← hq]at h1
  exact(List.mem_filter.1 h1).2
def drawE(l:List Oper):Option (Nat×Oper):=match drawK l with
 |_::_=>let k:=(l.takeWhile fun o=>isHeldB o.op).length
  match l[k]? with
  |some oe=>if preOk l.toArray (k+1)=true then some (k,oe)else none
  |none=>none
 | []=>none
def operX(call:CallX)(ops:Array Oper)(o:Oper)(ts:Tr)(h:Heap):Option (Tr×Heap):=
 match o.guard with
 |none=>match opX C call o.op (envL ts) h with|some (v,h')=>some (putL ts o.dst v,h')|none=>none
 |some (j,want)=>match guardA ops (envL ts) j with
  |some b=>if b=some want then(match opX C call o.op (envL ts) h with|some (v,h')=>some (putL ts o.dst v,h')|none=>none)else some (putL ts o.dst undefA,h)
  |none=>none
def operPX(call:CallX)(ops:Array Oper)(o:Oper)(ts:Tr)(h:Heap):Option AVal:=
 match o.guard with
 |none=>heldX C call o.op (envL ts) h
 |some (j,want)=>match guardA ops (envL ts) j with
  |some b=>if b=some want then heldX C call o.op (envL ts) h else some undefA
  |none=>none
def lX(call:CallX)(ops:Array Oper):List Oper→Tr→Heap→Option (Tr×Heap)
 | [],ts,h=>some (ts,h)
 |o::rest,ts,h=>match operX C call ops o ts h with|some (ts',h')=>lX call ops rest ts' h'|none=>none
def sameTH(x y:Tr×Heap):Bool:=Tr.beq x.1 y.1&&(decide (x.2.length=y.2.length)&&begH x.2 y.2)
def dedup:List (Tr×Heap)→List (Tr×Heap)
 | []=>[]
 |x::l=>if l.any (sameTH x)=true then dedup l else x::dedup l
def bindO{α β:Type}(f:α→Option (List β)):List α→Option (List β)
 | []=>some []
 |x::l=>match f x with
  |some ys=>match bindO f l with|some zs=>some (ys++zs)|none=>none
  |none=>none
def sufX(call:CallX)(ops:Array Oper):Nat→Array Bool→Tr→Heap→Option (List (Tr×Heap))
 |0,_,ts,h=>some [(ts,h)]
 |f+1,L,ts,h=>if (Region.ready .text ops L).isEmpty=false∧(Region.ready .gc ops L).isEmpty=false then
   match bindO (fun i=>match ops[i]? with
    |some o=>match operX C call ops o ts h with|some (ts',h')=>sufX call ops f (L.setIfInBounds i true) ts' h'|none=>none
    |none=>none) (Region.ready .any ops L)with
   |some rs=>some rs
   |none=>none
  else none
def pX(call:CallX)(ops:Array Oper):List Oper→Tr→Heap→Option Tr
 | [],ts,_=>some ts
 |o::rest,ts,h=>match operPX C call ops o ts h with|some v=>pX call ops rest (putL ts o.dst v) h|none=>none
def pXt(call:CallX)(ops:Array Oper):List Oper→Tr→Heap→Option (List (Tr×AVal)×Tr)
 | [],ts,_=>some ([],ts)
 |o::rest,ts,h=>match operPX C call ops o ts h with
  |some v=>match pXt call ops rest (putL ts o.dst v) h with
   |some (l,ts')=>some ((ts,v)::l,ts')
   |none=>none
  |none=>none
def sameX(call:CallX)(ops:Array Oper)(cb:Nat→Bool)(h':Heap):Nat→List Oper→List (Tr×AVal)→Bool
 |_,[],[]=>true
 |i,o::rest,(ts,v)::l=>(cb i||(match operPX C call ops o ts h' with|some v'=>beqA v' v|none=>false))&&sameX call ops cb h' (i+1) rest l
 |_,_,_=>false
def drawX3(call:CallX)(l:List Oper)(ts:Tr)(h:Heap):Option (List (Tr×Heap)):=match drawE l with
 |some (k,oe)=>match pXt C call ⟨l⟩ (l.take k) ts h with
  |some (vs,ts1)=>match operX C call ⟨l⟩ oe ts1 h with
   |some (ts2,h')=>if sameX C call ⟨l⟩ (fun i=>((Region.before l.toArray).getD k 0).testBit i) h' 0 (l.take k) vs=true then
     sufX C call ⟨l⟩ (l.length-(k+1)) (listK l.length (k+1)) ts2 h' else none
   |none=>none
  |none=>none
 |none=>none
abbrev Outs:=List (Exit×Tr×Heap)
def iterX(body:Tr→Heap→Option Outs):Nat→Tr→Heap→Option Outs
 |0,_,_=>none
 |n+1,ts,h=>match body ts h with
  |some rs=>bindO (fun r=>match r with
   | (.normal,ts',h')=>iterX body n ts' h'
   |r=>some [r]) rs
  |none=>none
def codeX(call:CallX)(lf:Nat):Code→Tr→Heap→Option Outs
 | .skip,ts,h=>some [(.normal,ts,h)]
 | .label _,ts,h=>some [(.normal,ts,h)]
 | .exit id,ts,h=>some [(.exit id,ts,h)]
 | .ret,ts,h=>some [(.ret,ts,h)]
 | .region _ ⟨l⟩ false,ts,h=>match lX C call ⟨l⟩ l ts h with|some (ts',h')=>some [(.normal,ts',h')]|none=>none
 | .region _ ⟨l⟩ true,ts,h=>match drawX3 C call l ts h with
  |some rs=>some ((dedup rs).map fun q=>(.normal,q.1,q.2))
  |none=>match (drawK l).findSome? (fun k=>match pX C call ⟨l⟩ (l.take k) ts h with
   |some ts1=>sufX C call ⟨l⟩ (l.length-k) (listK l.length k) ts1 h
   |none=>none)with
   |some rs=>some ((dedup rs).map fun q=>(.normal,q.1,q.2))
   |none=>none
 | .seq a b,ts,h=>match codeX call lf a ts h with
  |some rs=>bindO (fun r=>match r with
   | (.normal,ts',h')=>codeX call lf b ts' h'
   |r=>some [r]) rs
  |none=>none
 | .cond c a b,ts,h=>match aev C.G (envL ts) c with
  | .bool true=>codeX call lf a ts h
  | .bool false=>codeX call lf b ts h
  |_=>none
 | .block id c,ts,h=>match codeX call lf c ts h with
  |some rs=>some (rs.map fun r=>match r with
   | (.exit id',ts',h')=>if id'=id then(.normal,ts',h')else(.exit id',ts',h')
   |r=>r)
  |none=>none
 | .scope c,ts,h=>match codeX call lf c ts h with
  |some rs=>bindO (fun r=>match r with
   | (.goto _,_,_)=>none
   |r=>some [r]) rs
  |none=>none
 | .loop c,ts,h=>iterX (fun ts h=>codeX call lf c ts h) lf ts h
 |_,_,_=>none
def endX(fn:Func)(r:Exit×Tr×Heap):Option (AVal×Heap):=match r with
 | (.normal,ts,h')=>match resA C (envL ts) h' fn.results.toList with|some r=>some (r,h')|none=>none
 | (.ret,ts,h')=>match resA C (envL ts) h' fn.results.toList with|some r=>some (r,h')|none=>none
 |_=>none
def mergeH:Heap→Heap→Option Heap
 | [],[]=>some []
 |a::l,b::m=>match mergeH l m with
  |some q=>some ((if beqB a b=true then a else .dead)::q)
  |none=>none
 |_,_=>none
def mergeAH(x y:AVal×Heap):Option (AVal×Heap):=if beqA x.1 y.1=true then(match mergeH x.2 y.2 with|some q=>some (x.1,q)|none=>none)else none
def allX(fn:Func):Outs→Option (AVal×Heap)
 | []=>none
 | [r]=>endX C fn r
 |r::rest=>match endX C fn r,allX fn rest with
  |some x,some y=>mergeAH x y
  |_,_=>none
def callX(orc:FuncId→List AVal→Option AVal)(lf:Nat):Nat→CallX
 |0,_,_,_=>none
 |n+1,f,args,h=>match orc f args with
  |some r=>some (r,h)
  |none=>match C.P.funcs[f]? with
   |none=>none
   |some fn=>match fn.body with
    |none=>none
    |some c=>if (fn.name== "runtime.NumGoroutine")=false∧okCode fn.ntmps c=true∧fn.results.toList.all (okRes fn.ntmps)=true∧args.length≤fn.ntmps∧fn.ntmps+1<2^kOf fn.ntmps then
      match codeX C (callX orc lf n) lf c (argsT (Tr.mk (kOf fn.ntmps)) 0 args) h with
      |some rs=>allX C fn rs
      |none=>none
     else none
variable {C} {h h':Heap} {call:CallX} {k0:Nat}
def CallOk(C:Ctx)(call:CallX):Prop:=∀f args h r h',call f args h=some (r,h')→Sat C f args h fun r2 h2=>r2=r∧h2=h'
theorem cT(hcall:CallOk C call){ops:Array Oper}{o:Oper}{n:Nat}(hn:n+1<2^k0){ts ts':Tr}(hF:Tr.Full k0 ts)(ho:okDst n o=true)(g:operX C call ops o ts h=some (ts',h')){K:Env→Heap→Prop}(hk:K (envL ts') h'):
  wpOper C ops o (envL ts) h K∧Tr.Full k0 ts':=by
 have hd:∀i,o.dst=some i→i<n:=fun i e=>by simpa [okDst,e]using ho
 unfold operX at g;unfold wpOper
 split at g
 ·rename_i hg;rw[hg];simp only[]
  split at g
  ·rename_i e;cases g
   exact⟨jv hcall e (by rw[← cS hF hn hd];exact hk),dm _ _ _ hF⟩
  ·cases g
 ·rename_i hg;rw[hg];simp only[]
  split at g
  ·rename_i hq;rw[hq];simp only[]
   split at g
   ·rename_i hb
    split at g
    ·rename_i e;cases g
     exact⟨⟨fun _=>jv hcall e (by rw[← cS hF hn hd];exact hk),fun hn=>absurd hb hn⟩,dm _ _ _ hF⟩
    ·cases g
   ·rename_i hb;cases g
    exact⟨⟨fun hn=>absurd hn hb,fun _=>by rw[← cS hF hn hd];exact hk⟩,dm _ _ _ hF⟩
  ·cases g
theorem v6(hcall:CallOk C call){n:Nat}(hn:n+1<2^k0){ops:Array Oper}{Q:Exit→Env→Heap→Prop}:∀(l:List Oper) {ts ts':Tr} {h h':Heap},Tr.Full k0 ts→(∀o∈l,okDst n o=true)→lX C call ops l ts h=some (ts',h')→Q .normal (envL ts') h'→
  WPl C ops Q l (envL ts) h∧Tr.Full k0 ts'
 | [],ts,ts',h,h',hF,_,g,hq=>by
  simp only[lX,Option.some.injEq,Prod.mk.injEq]at g
  obtain⟨rfl,rfl⟩:=g
  exact⟨hq,hF⟩
 |o::rest,ts,ts',h,h',hF,ho,g,hq=>by
  unfold lX at g
  split at g
  ·rename_i ts1 h1 e
   have hF1:=(cT hcall hn hF (ho o (by simp)) e (K:=fun _ _=>True) trivial).2
   have ih:=v6 hcall hn (ops:=ops) (Q:=Q) rest hF1 (fun o hm=>ho o (by simp[hm])) g hq
   unfold WPl
   exact⟨(cT hcall hn hF (ho o (by simp)) e ih.1).1,ih.2⟩
  ·cases g
theorem rS{x y:Tr×Heap}(h:sameTH x y=true):x=y:=by
 simp only[sameTH,Bool.and_eq_true,decide_eq_true_eq]at h
 obtain⟨h1,h2,h3⟩:=h
 have e:=kf h3
 rw[h2,List.take_length]at e
 exact Prod.ext (Tr.beq_ok _ _ h1) e.symm
theorem eF:∀{l:List (Tr×Heap)},∀x∈l,x∈dedup l
 | [],x,h=>by cases h
 |a::l,x,h=>by
  simp only[dedup]
  rcases List.mem_cons.1 h with rfl|h
  ·split
   ·rename_i hs
    obtain⟨y,hy,e⟩:=List.any_eq_true.1 hs
    rw[rS e];exact eF y hy
   ·simp
  ·have:=eF (l:=l) x h
   split
   ·exact this
   ·simp[this]
theorem eG:∀{l:List (Tr×Heap)},∀x∈dedup l,x∈l
 | [],x,h=>by cases h
 |a::l,x,h=>by
  simp only[dedup]at h
  split at h
  ·exact List.mem_cons_of_mem _ (eG x h)
  ·rcases List.mem_cons.1 h with rfl|h
   ·simp
   ·exact List.mem_cons_of_mem _ (eG x h)
theorem cU{α β:Type}{f:α→Option (List β)}:∀{l:List α} {m:List β},bindO f l=some m→(∀x∈l,∃ys,f x=some ys∧∀y∈ys,y∈m)∧∀y∈m,∃x∈l,∃ys,f x=some ys∧y∈ys
 | [],m,h=>by simp only[bindO,Option.some.injEq]at h;subst h;exact⟨fun x hx=>(by cases hx),fun y hy=>(by cases hy)⟩
 |a::l,m,h=>by
  simp only[bindO]at h
  split at h
  ·rename_i ys hy
   split at h
   ·rename_i zs hz;cases h
    obtain⟨h1,h2⟩:=cU hz
    refine⟨fun x hx=>?_,fun y hm=>?_⟩
    ·rcases List.mem_cons.1 hx with rfl|hx
     ·exact⟨ys,hy,fun y h=>List.mem_append_left _ h⟩
     ·obtain⟨q,k1,k2⟩:=h1 x hx
      exact⟨q,k1,fun y h=>List.mem_append_right _ (k2 y h)⟩
    ·rcases List.mem_append.1 hm with hm|hm
     ·exact⟨a,by simp,ys,hy,hm⟩
     ·obtain⟨x,k1,q,k2,k3⟩:=h2 y hm
      exact⟨x,by simp[k1],q,k2,k3⟩
   ·cases h
  ·cases h
theorem oz(hcall:CallOk C call){n:Nat}(hn:n+1<2^k0){ops:Array Oper}{Q:Exit→Env→Heap→Prop}(ho:∀o∈ops.toList,okDst n o=true):∀(f:Nat) {L:Array Bool} {ts:Tr} {h:Heap} {rs:List (Tr×Heap)},Tr.Full k0 ts→sufX C call ops f L ts h=some rs→
  (∀r∈rs,Q .normal (envL r.1) r.2)→Rest C ops Q f L (envL ts) h∧(∀r∈rs,Tr.Full k0 r.1):=by
 intro f
 induction f with
 |zero=>
  intro L ts h rs hF g hq
  simp only[sufX,Option.some.injEq]at g
  subst g
  exact⟨Rest.nil (hq (ts,h) (by simp)),fun r hr=>by simp at hr;rw[hr];exact hF⟩
 |succ f ih=>
  intro L ts h rs hF g hq
  simp only[sufX]at g
  split at g
  ·rename_i hr
   split at g
   ·rename_i rs1 hm;cases g
    obtain⟨b1,b2⟩:=cU hm
    have hmem:∀(i:Nat) (o:Oper),ops[i]? =some o→o∈ops.toList:=fun i o e=>by simpa using Array.mem_of_getElem? e
    have at_:∀i,∀ys,(match ops[i]? with
      |some o=>match operX C call ops o ts h with|some (ts',h')=>sufX C call ops f (L.setIfInBounds i true) ts' h'|none=>none
      |none=>none)=some ys→∃o ts1 h1,ops[i]? =some o∧operX C call ops o ts h=some (ts1,h1)∧sufX C call ops f (L.setIfInBounds i true) ts1 h1=some ys:=fun i ys e=>by
     split at e
     ·rename_i o hoi
      split at e
      ·rename_i ts1 h1 e1;exact⟨o,ts1,h1,hoi,e1,e⟩
      ·cases e
     ·cases e
    have hany:Region.ready .any ops L≠ []:=fun e=>by
     have h1:=hr.1
     cases hx:Region.ready .text ops L with
     |nil=>rw[hx]at h1;simp at h1
     |cons i l=>
      have:i∈Region.ready .any ops L:=kM (md:=.text) (by rw[hx];simp)
      rw[e]at this;cases this
    refine⟨Rest.step (fun e=>by rw[e]at hr;simp at hr) (fun e=>by rw[e]at hr;simp at hr) hany fun i hi o hoi=>?_,fun r hr=>?_⟩
    ·obtain⟨ys,hys,hsub⟩:=b1 i hi
     obtain⟨o',ts1,h1,e1,e2,e3⟩:=at_ i ys hys
     rw[hoi]at e1;cases e1
     have hF1:=(cT hcall hn hF (ho o (hmem i o hoi)) e2 (K:=fun _ _=>True) trivial).2
     exact(cT hcall hn hF (ho o (hmem i o hoi)) e2 (ih hF1 e3 (fun r hr=>hq r (hsub r hr))).1).1
    ·obtain⟨i,hi,ys,hys,hry⟩:=b2 r hr
     obtain⟨o',ts1,h1,e1,e2,e3⟩:=at_ i ys hys
     have hF1:=(cT hcall hn hF (ho o' (hmem i o' e1)) e2 (K:=fun _ _=>True) trivial).2
     obtain⟨ys',hys',hsub⟩:=b1 i hi
     rw[hys]at hys';cases hys'
     exact(ih hF1 e3 (fun r hr=>hq r (hsub r hr))).2 r hry
   ·cases g
  ·cases g
theorem uw(hcall:CallOk C call){g:FuncId}{args:List AVal}{v:AVal}(e:callP call g args h=some v):Sat C g args h fun r2 h2=>r2=v∧h2=h:=by
 unfold callP at e
 split at e
 ·rename_i hc
  split at e
  ·rename_i hb
   exact(hcall _ _ _ _ _ hc).letgo (kf hb) (oy _ _ _ _ _ e)
  ·cases e
 ·cases e
theorem fE(hcall:CallOk C call){o:Op}{t:Env}{v:AVal}(e:heldX C call o t h=some v){K:AVal→Heap→Prop}(hk:K v h):wpOp C o t h K:=by
 unfold heldX at e
 split at e
 ·rename_i hp;cases e;exact mF hp hk
 ·split at e
  ·rename_i T len parts _
   unfold wpOp;simp only[]
   unfold rowsX at e
   cases he:elmT C.P T with
   |none=>rw[he]at e;cases e
   |some el=>
    rw[he]at e
    simp only[]at e
    refine ao rfl ?_
    cases hn:szOf C.P el with
    |none=>rw[hn]at e;cases e
    |some n=>
     rw[hn]at e
     simp only[]at e
     refine ao rfl ?_
     by_cases h0:len=0
     ·rw[if_pos h0]at e ⊢
      by_cases hp:(parts.toList.map (·.1)).length=0
      ·rw[if_pos hp]at e;simp only[Option.some.injEq]at e;subst e;exact⟨by simpa using hp,hk⟩
      ·rw[if_neg hp]at e;cases e
     ·rw[if_neg h0]at e ⊢
      split at e
      ·rename_i hh
       split at hh
       ·cases hh
       ·cases hh
      ·rename_i hh
       split at hh
       ·rename_i hs
        obtain⟨s1,s2,s3,s4,s5,s6⟩:=hs
        simp only[Option.bind_some,hn,Option.some.injEq]at e
        subst e
        refine⟨by simpa using s1,by omega,s2,s3,s4,s5,fun x hx=>?_,.inr hk⟩
        simpa using List.all_eq_true.1 s6 x hx
       ·cases hh
      ·cases e
  ·rename_i c _
   split at e
   ·rename_i hc
    split at e
    ·rename_i hf
     unfold wpOp;simp only[]
     unfold wpCall;rw[hc];show callK _ _ _ _ _;rw[hf]
     exact(uw hcall e).mono fun r2 h2 ⟨e1,e2⟩=>by rw[e1,e2];exact hk
    ·cases e
   ·cases e
  ·cases e
theorem pW(hcall:CallOk C call){n:Nat}(hn:n+1<2^k0){ops:Array Oper}{K:Env→Prop}:∀(l:List Oper) {ts ts':Tr} {h:Heap},Tr.Full k0 ts→(∀o∈l,okDst n o=true)→pX C call ops l ts h=some ts'→K (envL ts')→
  WPp C ops l (envL ts) h K∧Tr.Full k0 ts'
 | [],ts,ts',h,hF,_,g,hq=>by
  simp only[pX,Option.some.injEq]at g
  subst g
  exact⟨hq,hF⟩
 |o::rest,ts,ts',h,hF,ho,g,hq=>by
  have hd:∀i,o.dst=some i→i<n:=fun i e=>by have:=ho o (by simp);simpa [okDst,e]using this
  unfold pX at g
  split at g
  ·rename_i v e
   have ih:=pW hcall hn (ops:=ops) (K:=K) rest (ts:=putL ts o.dst v) (dm _ _ _ hF) (fun o hm=>ho o (by simp[hm])) g hq
   rw[cS hF hn hd]at ih
   refine⟨⟨v,fun KK hkk=>?_,ih.1⟩,ih.2⟩
   unfold operPX at e;unfold wpOperV
   split at e
   ·rename_i hg;rw[hg];simp only[]
    exact fE hcall e hkk
   ·rename_i hg;rw[hg];simp only[]
    split at e
    ·rename_i hq;rw[hq];simp only[]
     split at e
     ·rename_i hb;exact⟨fun _=>fE hcall e hkk,fun hn=>absurd hb hn⟩
     ·rename_i hb;cases e;exact⟨fun hn=>absurd hn hb,fun _=>hkk⟩
    ·cases e
  ·cases g
theorem rU(hcall:CallOk C call){n:Nat}(hn:n+1<2^k0){ops:Array Oper}{cb:Nat→Bool}:∀(l:List Oper) {ts ts':Tr} {h:Heap} {vs:List (Tr×AVal)},Tr.Full k0 ts→(∀o∈l,okDst n o=true)→pXt C call ops l ts h=some (vs,ts')→
  ∃V:Nat→AVal,(∀(i:Nat) (o:Oper),l[i]? =some o→∀KK:AVal→Heap→Prop,KK (V i) h→wpOperV C ops o (Av.T V l (envL ts) i) h KK)∧Av.T V l (envL ts) l.length=envL ts'∧Tr.Full k0 ts'∧
   ∀(s:Nat) (h':Heap),sameX C call ops cb h' s l vs=true→∀(i:Nat) (o:Oper),l[i]? =some o→cb (s+i)=false→∀KK:AVal→Heap→Prop,KK (V i) h'→wpOperV C ops o (Av.T V l (envL ts) i) h' KK
 | [],ts,ts',h,vs,hF,_,g=>by
  simp only[pXt,Option.some.injEq,Prod.mk.injEq]at g
  obtain⟨rfl,rfl⟩:=g
  exact⟨fun _=>undefA,fun i o hi=>by simp at hi,rfl,hF,fun s h' _ i o hi=>by simp at hi⟩
 |o::rest,ts,ts',h,vs,hF,ho,g=>by
  have hd:∀i,o.dst=some i→i<n:=fun i e=>by have:=ho o (by simp);simpa [okDst,e]using this
  have one:∀(h:Heap) (v:AVal),operPX C call ops o ts h=some v→∀KK:AVal→Heap→Prop,KK v h→wpOperV C ops o (envL ts) h KK:=fun h v e KK hkk=>by
   unfold operPX at e;unfold wpOperV
   split at e
   ·rename_i hg;rw[hg];simp only[]
    exact fE hcall e hkk
   ·rename_i hg;rw[hg];simp only[]
    split at e
    ·rename_i hq;rw[hq];simp only[]
     split at e
     ·rename_i hb;exact⟨fun _=>fE hcall e hkk,fun hn=>absurd hb hn⟩
     ·rename_i hb;cases e;exact⟨fun hn=>absurd hn hb,fun _=>hkk⟩
    ·cases e
  simp only[pXt]at g
  split at g
  ·rename_i v e
   split at g
   ·rename_i l1 ts1 e1;cases g
    obtain⟨V,h1,h2,h3,h4⟩:=rU hcall hn (ops:=ops) (cb:=cb) rest (ts:=putL ts o.dst v) (dm _ _ _ hF) (fun o hm=>ho o (by simp[hm])) e1
    rw[cS hF hn hd]at h1 h2 h4
    refine⟨fun i=>match i with|0=>v|i+1=>V i,fun i o' hi=>?_,?_,h3,fun s h' hs i o' hi hc=>?_⟩
    ·cases i with
     |zero=>simp at hi;subst hi;exact one h v e
     |succ i=>exact h1 i o' (by simpa using hi)
    ·exact h2
    ·simp only[sameX,Bool.and_eq_true,Bool.or_eq_true]at hs
     cases i with
     |zero=>
      simp at hi;subst hi
      rcases hs.1 with h5|h5
      ·rw[Nat.add_zero]at hc;rw[hc]at h5;cases h5
      ·split at h5
       ·rename_i v' e'
        rw[dN _ _ h5]at e'
        exact one h' v e'
       ·cases h5
     |succ i=>exact h4 (s+1) h' hs.2 i o' (by simpa using hi) (by rw[show s+1+i=s+(i+1) by omega];exact hc)
   ·cases g
  ·cases g
theorem ux{n:Nat}{o:Oper}(h:okOper n o=true):okDst n o=true:=by
 unfold okOper at h
 simp only[Bool.and_eq_true]at h
 exact h.2
theorem uy(hcall:CallOk C call)(lf:Nat){n:Nat}(hn:n+1<2^k0):∀(c:Code) {ts:Tr} {h:Heap} {rs:Outs} {Q:Exit→Env→Heap→Prop},Tr.Full k0 ts→okCode n c=true→codeX C call lf c ts h=some rs→(∀r∈rs,Q r.1 (envL r.2.1) r.2.2)→
  WP C c Q (envL ts) h∧∀r∈rs,Tr.Full k0 r.2.1:=by
 intro c
 induction c with
 |skip=>intro ts h rs Q hF _ g hq;simp only[codeX,Option.some.injEq]at g;subst g;exact⟨hq (_,ts,h) (by simp),fun r hr=>by simp at hr;rw[hr];exact hF⟩
 |label l=>intro ts h rs Q hF _ g hq;simp only[codeX,Option.some.injEq]at g;subst g;exact⟨hq (_,ts,h) (by simp),fun r hr=>by simp at hr;rw[hr];exact hF⟩
 |exit id=>intro ts h rs Q hF _ g hq;simp only[codeX,Option.some.injEq]at g;subst g;exact⟨hq (_,ts,h) (by simp),fun r hr=>by simp at hr;rw[hr];exact hF⟩
 |ret=>intro ts h rs Q hF _ g hq;simp only[codeX,Option.some.injEq]at g;subst g;exact⟨hq (_,ts,h) (by simp),fun r hr=>by simp at hr;rw[hr];exact hF⟩
 |region id ops draw=>
  obtain⟨l⟩:=ops
  intro ts h rs Q hF hok g hq
  have hall:∀o∈l,okDst n o=true:=fun o ho=>by
   simp only[okCode,List.all_eq_true]at hok
   exact ux (hok o ho)
  cases draw with
  |false=>
   simp only[codeX]at g
   split at g
   ·rename_i ts' h' e1;cases g
    have:=v6 hcall hn l hF hall e1 (Q:=Q) (hq (_,ts',h') (by simp))
    exact⟨this.1,fun r hr=>by simp at hr;rw[hr];exact this.2⟩
   ·cases g
  |true=>
   simp only[codeX]at g
   split at g
   ·rename_i rs1 hd;cases g
    unfold drawX3 at hd
    split at hd
    ·rename_i k oe hde
     have hdr:l[k]? =some oe∧preOk l.toArray (k+1)=true:=by
      unfold drawE at hde
      split at hde
      ·simp only[]at hde
       split at hde
       ·rename_i hoe
        split at hde
        ·rename_i hp;cases hde;exact⟨hoe,hp⟩
        ·cases hde
       ·cases hde
      ·cases hde
     have hkl:=(List.getElem?_eq_some_iff.1 hdr.1).1
     split at hd
     ·rename_i vs ts1 e1
      split at hd
      ·rename_i ts2 h2 e2
       split at hd
       ·rename_i hsame
        obtain⟨V,v1,v2,v3,v4⟩:=rU hcall hn (cb:=fun i=>((Region.before l.toArray).getD k 0).testBit i) (l.take k) hF (fun o ho=>hall o (List.mem_of_mem_take ho)) e1
        have hlen:(l.take k).length=k:=by simp;omega
        have hTT:∀i,i≤k→Av.T V (l.take k) (envL ts) i=Av.T V l (envL ts) i:=fun i hi=>eS V V k (fun _ _=>rfl) _ _ _ _ hi (by rw[List.take_take];congr 1;omega) (by rw[hlen];exact hi) (by omega)
        have hget:∀(i:Nat) (o:Oper),i<k→l[i]? =some o→(l.take k)[i]? =some o:=fun i o hi ho=>by rw[List.getElem?_take,if_pos hi];exact ho
        have hoe:=hall oe (List.mem_of_getElem? hdr.1)
        have hF2:=(cT hcall hn v3 hoe e2 (K:=fun _ _=>True) trivial).2
        have hsx:=oz hcall hn (ops:=⟨l⟩) (fun o ho=>hall o ho) (l.length-(k+1)) hF2 hd (Q:=Q) (fun r hr=>hq (.normal,r.1,r.2) (List.mem_map.2 ⟨r,eF r hr,rfl⟩))
        rw[hlen]at v2
        rw[hTT k (Nat.le_refl _)]at v2
        refine⟨tq k oe hdr.1 hdr.2 V (fun i o hi ho=>?_) ?_,fun r hr=>?_⟩
        ·rw[← hTT i (by omega)]
         exact v1 i o (hget i o hi ho)
        ·rw[v2]
         have hd':∀i,oe.dst=some i→i<n:=fun i e=>by simpa [okDst,e]using hoe
         unfold operX at e2;unfold wpOperV
         have post:∀v,ts2=putL ts1 oe.dst v→(∀(i:Nat) (o:Oper),i<k→l[i]? =some o→((Region.before l.toArray).getD k 0).testBit i=false→∀KK:AVal→Heap→Prop,KK (V i) h2→wpOperV C l.toArray o (Av.T V l (envL ts) i) h2 KK)∧
           Rest C l.toArray Q (l.length-(k+1)) (listK l.length (k+1)) (put (envL ts1) oe.dst v) h2:=fun v ev=>by
          refine⟨fun i o hi ho hc=>?_,?_⟩
          ·rw[← hTT i (by omega)]
           exact v4 0 h2 hsame i o (hget i o hi ho) (by simpa using hc)
          ·rw[← cS v3 hn hd', ← ev]
           exact hsx.1
         split at e2
         ·rename_i hg;rw[hg];simp only[]
          split at e2
          ·rename_i e3;cases e2
           exact jv hcall e3 (post _ rfl)
          ·cases e2
         ·rename_i hg;rw[hg];simp only[]
          split at e2
          ·rename_i hqq;rw[hqq];simp only[]
           split at e2
           ·rename_i hb
            split at e2
            ·rename_i e3;cases e2
             exact⟨fun _=>jv hcall e3 (post _ rfl),fun hn=>absurd hb hn⟩
            ·cases e2
           ·rename_i hb;cases e2
            exact⟨fun hn=>absurd hn hb,fun _=>post _ rfl⟩
          ·cases e2
        ·obtain⟨q,hq1,rfl⟩:=List.mem_map.1 hr
         exact hsx.2 q (eG q hq1)
       ·cases hd
      ·cases hd
     ·cases hd
    ·cases hd
   ·split at g
    ·rename_i rs1 hd;cases g
     obtain⟨k,hk,e⟩:=List.exists_of_findSome?_eq_some hd
     have hk:=rR hk
     simp only[Bool.and_eq_true]at hk
     split at e
     ·rename_i ts1 e1
      have hF1:=(pW hcall hn (K:=fun _=>True) (ops:=⟨l⟩) (C:=C) (l.take k) hF (fun o ho=>hall o (List.mem_of_mem_take ho)) e1 trivial).2
      have h2:=oz hcall hn (ops:=⟨l⟩) (fun o ho=>hall o ho) (l.length-k) hF1 e (Q:=Q) (fun r hr=>hq (.normal,r.1,r.2) (List.mem_map.2 ⟨r,eF r hr,rfl⟩))
      have h1:=pW hcall hn (K:=fun t'=>Rest C ⟨l⟩ Q (l.length-k) (listK l.length k) t' h) (ops:=⟨l⟩) (C:=C) (l.take k) hF (fun o ho=>hall o (List.mem_of_mem_take ho)) e1 h2.1
      refine⟨tn k (by simpa using hk.2) h1.1,fun r hr=>?_⟩
      obtain⟨q,hq1,rfl⟩:=List.mem_map.1 hr
      exact h2.2 q (eG q hq1)
     ·cases e
    ·cases g
 |seq a b iha ihb=>
  intro ts h rs Q hF hok g hq
  simp only[okCode,Bool.and_eq_true]at hok
  simp only[codeX]at g
  split at g
  ·rename_i rs1 e1
   obtain⟨b1,b2⟩:=cU g
   have hlen:=(iha (Q:=fun _ _ _=>True) hF hok.1 e1 (fun _ _=>trivial)).2
   refine⟨(iha (Q:=thenQ (fun t h=>Wkn C (wr a) t h fun t h=>WP C b Q t h) Q) hF hok.1 e1 (fun r hr=>?_)).1,fun r hr=>?_⟩
   ·obtain⟨ys,hys,hsub⟩:=b1 r hr
    obtain⟨e,ts1,h1⟩:=r
    cases e with
    |normal=>exact Wkn.refl (ihb (hlen _ hr) hok.2 hys (fun r hr=>hq r (hsub r hr))).1
    |_=>simp only[Option.some.injEq]at hys;subst hys;exact hq _ (hsub _ (by simp))
   ·obtain⟨r1,hr1,ys,hys,hry⟩:=b2 r hr
    obtain⟨e,ts1,h1⟩:=r1
    cases e with
    |normal=>exact(ihb (Q:=fun _ _ _=>True) (hlen _ hr1) hok.2 hys (fun _ _=>trivial)).2 r hry
    |_=>simp only[Option.some.injEq]at hys;subst hys;simp at hry;subst hry;exact hlen _ hr1
  ·cases g
 |cond c a b iha ihb=>
  intro ts h rs Q hF hok g hq
  simp only[okCode,Bool.and_eq_true]at hok
  simp only[codeX]at g
  unfold WP
  split at g
  ·rename_i hc;rw[hc];simp only[]
   have:=iha (Q:=Q) hF (by simp[hok]) g hq
   exact⟨⟨fun _=>this.1,fun e=>Bool.noConfusion e⟩,this.2⟩
  ·rename_i hc;rw[hc];simp only[]
   have:=ihb (Q:=Q) hF (by simp[hok]) g hq
   exact⟨⟨fun e=>Bool.noConfusion e,fun _=>this.1⟩,this.2⟩
  ·cases g
 |block id c ih=>
  intro ts h rs Q hF hok g hq
  simp only[okCode]at hok
  simp only[codeX]at g
  split at g
  ·rename_i rs1 e1;cases g
   have hlen:=(ih (Q:=fun _ _ _=>True) hF hok e1 (fun _ _=>trivial)).2
   refine⟨(ih (Q:=blockQ id Q) hF hok e1 (fun r hr=>?_)).1,fun r hr=>?_⟩
   ·have:=hq _ (List.mem_map.2 ⟨r,hr,rfl⟩)
    obtain⟨e,ts1,h1⟩:=r
    cases e with
    |exit id'=>
     simp only[blockQ]at this ⊢
     split at this
     ·rename_i e;rw[if_pos e];exact this
     ·rename_i e;rw[if_neg e];exact this
    |_=>exact this
   ·obtain⟨r1,hr1,rfl⟩:=List.mem_map.1 hr
    have:=hlen r1 hr1
    obtain⟨e,ts1,h1⟩:=r1
    cases e with
    |exit id'=>simp only[];split<;>exact this
    |_=>exact this
  ·cases g
 |scope c ih=>
  intro ts h rs Q hF hok g hq
  simp only[okCode]at hok
  simp only[codeX]at g
  split at g
  ·rename_i rs1 e1
   obtain⟨b1,b2⟩:=cU g
   have hlen:=(ih (Q:=fun _ _ _=>True) hF hok e1 (fun _ _=>trivial)).2
   refine⟨(ih (Q:=noG Q) hF hok e1 (fun r hr=>?_)).1,fun r hr=>?_⟩
   ·obtain⟨ys,hys,hsub⟩:=b1 r hr
    obtain⟨e,ts1,h1⟩:=r
    cases e with
    |goto l=>cases hys
    |_=>simp only[Option.some.injEq]at hys;subst hys;exact hq _ (hsub _ (by simp))
   ·obtain⟨r1,hr1,ys,hys,hry⟩:=b2 r hr
    obtain⟨e,ts1,h1⟩:=r1
    cases e with
    |goto l=>cases hys
    |_=>simp only[Option.some.injEq]at hys;subst hys;simp at hry;subst hry;exact hlen _ hr1
  ·cases g
 |loop c ih=>
  intro ts h rs Q hF hok g hq
  simp only[okCode]at hok
  simp only[codeX]at g
  have lens:∀(m:Nat) (s:Tr) (k:Heap) (rs:Outs),Tr.Full k0 s→iterX (fun ts h=>codeX C call lf c ts h) m s k=some rs→∀r∈rs,Tr.Full k0 r.2.1:=by
   intro m
   induction m with
   |zero=>intro s k rs _ g;simp[iterX]at g
   |succ m ihn=>
    intro s k rs hs g r hr
    simp only[iterX]at g
    split at g
    ·rename_i rs1 e1
     obtain⟨b1,b2⟩:=cU g
     have hl:=(ih (Q:=fun _ _ _=>True) hs hok e1 (fun _ _=>trivial)).2
     obtain⟨r1,hr1,ys,hys,hry⟩:=b2 r hr
     have h1:=hl r1 hr1
     obtain⟨e,ts1,k1⟩:=r1
     cases e with
     |normal=>exact ihn _ _ _ h1 hys r hry
     |_=>simp only[Option.some.injEq]at hys;subst hys;simp at hry;subst hry;exact h1
    ·cases g
  refine⟨⟨fun n t1 h1=>∃(s:Tr) (rs1:Outs),t1=envL s∧Tr.Full k0 s∧iterX (fun ts h=>codeX C call lf c ts h) n s h1=some rs1∧∀r∈rs1,r∈rs,lf,Wkn.refl ⟨ts,rs,rfl,hF,g,fun _ h=>h⟩,fun n' t1 h1 hI=>?_⟩,lens _ _ _ _ hF g⟩
  obtain⟨s,rs1,rfl,hs,gi,hsub⟩:=hI
  cases n' with
  |zero=>simp[iterX]at gi
  |succ n=>
   simp only[iterX]at gi
   split at gi
   ·rename_i rs2 e1
    obtain⟨b1,b2⟩:=cU gi
    have hl:=(ih (Q:=fun _ _ _=>True) hs hok e1 (fun _ _=>trivial)).2
    refine(ih hs hok e1 (fun r hr=>?_)).1
    obtain⟨ys,hys,hs2⟩:=b1 r hr
    have h2:=hl r hr
    obtain⟨e,ts1,k1⟩:=r
    cases e with
    |normal=>exact⟨n,by omega,Wkn.refl ⟨ts1,ys,rfl,h2,hys,fun r h=>hsub r (hs2 r h)⟩⟩
    |_=>simp only[Option.some.injEq]at hys;subst hys;exact hq _ (hsub _ (hs2 _ (by simp)))
   ·cases gi
 |_=>intro ts h rs Q _ _ g;simp[codeX]at g
def Kill(a b:Heap):Prop:=a.length=b.length∧∀(p:Nat) (k:Blk),b[p]? =some k→k=.dead∨a[p]? =some k
theorem Kill.refl(a:Heap):Kill a a:=⟨rfl,fun _ _ h=>.inr h⟩
theorem Kill.trans{a b c:Heap}(h:Kill a b)(k:Kill b c):Kill a c:=⟨h.1.trans k.1,fun p x hx=>(k.2 p x hx).elim .inl (h.2 p x)⟩
theorem kZ:∀{a b q:Heap},mergeH a b=some q→Kill a q∧Kill b q
 | [],[],q,h=>by simp only[mergeH,Option.some.injEq]at h;subst h;exact⟨Kill.refl _,Kill.refl _⟩
 | [],_::_,q,h=>by simp[mergeH]at h
 |_::_,[],q,h=>by simp[mergeH]at h
 |a::l,b::m,q,h=>by
  simp only[mergeH]at h
  split at h
  ·rename_i q1 hq;cases h
   obtain⟨h1,h2⟩:=kZ hq
   refine⟨⟨by simp[h1.1],fun p k hk=>?_⟩,⟨by simp[h2.1],fun p k hk=>?_⟩⟩
   ·cases p with
    |zero=>
     simp at hk
     split at hk
     ·subst hk;exact .inr rfl
     ·exact .inl hk.symm
    |succ p=>exact(h1.2 p k (by simpa using hk)).imp id (by simp)
   ·cases p with
    |zero=>
     simp at hk
     split at hk
     ·rename_i e;subst hk;exact .inr (by rw[ox e];rfl)
     ·exact .inl hk.symm
    |succ p=>exact(h2.2 p k (by simpa using hk)).imp id (by simp)
  ·cases h
theorem oA{fn:Func}:∀{rs:Outs} {x:AVal×Heap},allX C fn rs=some x→∀r∈rs,∃h1,endX C fn r=some (x.1,h1)∧Kill h1 x.2
 | [],x,g=>by cases g
 | [r],x,g=>by intro r' hr;simp at hr;subst hr;exact⟨x.2,g,Kill.refl _⟩
 |r::r2::rest,x,g=>by
  simp only[allX]at g
  split at g
  ·rename_i x1 y1 h1 h2
   unfold mergeAH at g
   split at g
   ·rename_i hb
    split at g
    ·rename_i q hq;cases g
     obtain⟨k1,k2⟩:=kZ hq
     intro r' hr
     rcases List.mem_cons.1 hr with rfl|hr
     ·exact⟨_,h1,k1⟩
     ·obtain⟨h3,e,k3⟩:=oA h2 r' hr
      exact⟨h3,by rw[dN _ _ hb];exact e,k3.trans k2⟩
    ·cases g
   ·cases g
  ·cases g
theorem Sat.kill{f:FuncId}{args:List AVal}{r:AVal}{h1:Heap}(s:Sat C f args h fun r2 h2=>r2=r∧Kill h2 h1):Sat C f args h fun r2 h2=>r2=r∧h2=h1:=by
 intro B S μ w vs fit rl
 refine(s B S μ w vs fit rl).mono fun u w' hp=>?_
 obtain⟨r2,h',S',μ',⟨rfl,hk⟩,st,fit',hrep⟩:=hp
 refine⟨r2,h1,S',μ',⟨rfl,rfl⟩,st,⟨fit'.glob,fit'.len.trans hk.1,fit'.sep,fit'.own,fit'.base,fit'.lie,fun p m k hm hp=>?_⟩,hrep⟩
 rcases hk.2 p k hp with rfl|h2
 ·trivial
 ·exact fit'.blk p m k hm h2
theorem uz{k0:Nat}(args:List AVal)(hl:args.length+1<2^k0):envL (argsT (Tr.mk k0) 0 args)=env0 args:=by
 funext i
 simp only[envL,env0]
 rw[kY _ _ _ _ (Tr.full_mk _) (by omega),Tr.get_mk]
 by_cases h:i<args.length
 ·rw[if_pos (by omega)];simp
 ·rw[if_neg (by omega)];simp[List.getD,List.getElem?_eq_none (show args.length≤i by omega)]
theorem Sat.of_body0{f:FuncId}{fn:Func}{c:Code}{args:List AVal}{R:AVal→Heap→Prop}(hf:C.P.funcs[f]? =some fn)(hb:fn.body=some c)(hname:(fn.name== "runtime.NumGoroutine")=false)
  (hok:okCode fn.ntmps c=true)(hres:fn.results.toList.all (okRes fn.ntmps)=true)(hlen:args.length≤fn.ntmps)
  (hw:WP C c (fun e t' h'=>match e with
   | .normal=>need (resA C t' h' fn.results.toList) fun r=>R r h'
   | .ret=>need (resA C t' h' fn.results.toList) fun r=>R r h'
   |_=>False) (env0 args) h):Sat C f args h R:=by
 intro B S μ w vs fit rl
 have hcall:(callFunc f vs.toArray).run C.P w=.ok (.enter f vs.toArray) w:=by
  have hne:fn.name≠ "runtime.NumGoroutine" :=by simpa using hname
  simp[callFunc,hf,hne,hb]
 rw[hcall]
 show Calls C.P f vs.toArray w _
 refine calls_of_wp hf hb ?_
 have hlv:vs.length≤fn.ntmps:=by rw[rl.1];exact hlen
 have renv:REnv fn.ntmps w S μ (env0 args) {tmps:=vs.toArray++Array.replicate (fn.ntmps-vs.toArray.size) undef,defers:=[]}:=by
  refine⟨by simp;omega,rfl,fun i hi=>?_⟩
  unfold env0
  by_cases hlt:i<args.length
  ·have hx:=List.getElem?_eq_getElem hlt
   have:=rl.2 i _ hx
   have hv:i<vs.length:=by rw[rl.1];exact hlt
   have e1:args.getD i undefA=args[i]:=by simp[List.getD,hx]
   have e2:(vs.toArray++Array.replicate (fn.ntmps-vs.toArray.size) undef).getD i undef=vs.getD i undef:=by
    simp[Array.getD_eq_getD_getElem?,Array.getElem?_append,hv,List.getD]
   rw[e1]
   simp only[e2]
   exact this
  ·have e1:args.getD i undefA=undefA:=by simp[List.getD,List.getElem?_eq_none (show args.length≤i by omega)]
   have hv:¬i<vs.length:=by rw[rl.1];exact hlt
   have e2:(vs.toArray++Array.replicate (fn.ntmps-vs.toArray.size) undef).getD i undef=undef:=by
    simp[Array.getD_eq_getD_getElem?,Array.getElem?_append,hv,Array.getElem?_replicate]
    split<;>rfl
   rw[e1]
   simp only[e2]
   exact dv _ _ _
 have hres':=List.all_eq_true.1 hres
 refine wp_mono (lG (B:=B) (n:=fn.ntmps) c hok (Step.refl B S μ w) fit renv hw) fun e a' w' hp=>?_
 obtain⟨t',h',S',μ',hq,st,fit',renv'⟩:=hp
 have fin:need (resA C t' h' fn.results.toList) (fun r=>R r h')→a'.defers=[]∧∃v,(results fn a'.tmps).run C.P w'=.ok v w'∧
   ∃u,Ending.returned v=Ending.returned u∧OpPost C B S μ w R u w':=by
  intro hq
  obtain⟨r,hr0,hR⟩:=ac hq
  obtain⟨v,hv,hrep⟩:=iw fit' renv' hres' hr0
  exact⟨renv'.2.1,v,hv,v,rfl,r,_,_,_,hR,st,fit',hrep⟩
 cases e with
 |normal=>exact fin hq
 |ret=>exact fin hq
 |_=>exact hq.elim
def OrcOk(C:Ctx)(orc:FuncId→List AVal→Option AVal):Prop:=∀f args r,orc f args=some r→∀h,Sat C f args h fun r2 h2=>r2=r∧h2=h
theorem uA{orc:FuncId→List AVal→Option AVal}(horc:OrcOk C orc)(lf:Nat):∀n,CallOk C (callX C orc lf n):=by
 intro n
 induction n with
 |zero=>intro f args h r h' g;simp[callX]at g
 |succ n ih=>
  intro f args h r h' g
  simp only[callX]at g
  split at g
  ·rename_i e;cases g;exact horc _ _ _ e h
  ·split at g
   ·cases g
   ·rename_i fn hfn
    split at g
    ·cases g
    ·rename_i c hc
     split at g
     ·rename_i hs
      obtain⟨s1,s2,s3,s4,s5⟩:=hs
      split at g
      ·rename_i rs e1
       have hend:=oA g
       refine(Sat.of_body0 hfn hc s1 s2 s3 s4 (R:=fun r2 h2=>r2=r∧Kill h2 h') ?_).kill
       have:=(uy ih lf s5 c (jw _ _ _ (Tr.full_mk _)) s2 e1 (Q:=fun e t' h9=>match e with
        | .normal=>need (resA C t' h9 fn.results.toList) fun r2=>r2=r∧Kill h9 h'
        | .ret=>need (resA C t' h9 fn.results.toList) fun r2=>r2=r∧Kill h9 h'
        |_=>False) (fun q hq=>?_)).1
       ·rwa [uz _ (by omega)]at this
       ·obtain⟨h1,e,hkill⟩:=hend q hq
        obtain⟨ex,ts,h9⟩:=q
        unfold endX at e
        split at e
        ·rename_i hqq;cases hqq
         split at e
         ·rename_i hr;cases e;exact ao hr ⟨rfl,hkill⟩
         ·cases e
        ·rename_i hqq;cases hqq
         split at e
         ·rename_i hr;cases e;exact ao hr ⟨rfl,hkill⟩
         ·cases e
        ·cases e
      ·cases g
     ·cases g
end
end Go.Av
namespace Go.Av
open Go Go.Proofs Go.RowKit
attribute [local irreducible] WP WPl WPix Sat
section
variable {α:Type}
def fnd(key:α→Int)(l:List α)(id:Int):Option α:=l.find? fun a=>decide (key a=id)
end
variable (G:Nat→Option (List AVal))
end Go.Av
namespace Go.Av
open Go Go.Proofs Go.RowKit Go.Maps Go.Sort
def sortB(l:List Bs):List Bs:=l.mergeSort fun x y=>decide (x≤y)
variable (G:Nat→Option (List AVal))
end Go.Av
namespace Go.Av
open Go.RowKit
section
variable {C:Ctx} {B n m:Nat} {S:Addr→Prop} {μ:Map} {h:Heap} {w:World} {t:Env} {a:Act} {ds:List Deferred}
theorem fH{α:Type}{l:List α}{p:Nat}{x:α}(h:l[p]? =some x):l.set p x=l:=by
 obtain⟨hlt,rfl⟩:=List.getElem?_eq_some_iff.1 h
 exact List.set_getElem_self hlt
theorem d7(w:World)(b:Nat)(o:Obj):Only w (w.putObj b o) (some b):=
 ⟨rfl,rfl,rfl,by simp,fun k _ hne=>World.putObj_heap_other fun e=>hne (by rw[e])⟩
theorem Fits.turn(f:Fits C B S μ h w){p l k:Nat}{t:Env}{ps:Array Tmp}{ass body:Code}{st:LoopState}{pe:Option Code}(hh:h[p]? =some (.lp l k t ps ass body st pe)):
  ∃(fn:FuncId) (D:Nat) (tmps:Array Value),w.heap[l]? =some (.loop {state:=st,pending:=pe,fn,tmps,params:=ps,assign:=ass,body,defers:=D})∧tmps.size=k∧(∀i,i<k→Rep w S μ (t i) (tmps.getD i undef))∧
   (∀st' pe',Fits C B S μ (h.set p (.lp l k t ps ass body st' pe')) (w.putObj l (.loop {state:=st',pending:=pe',fn,tmps,params:=ps,assign:=ass,body,defers:=D}))∧
    Step B S μ w S μ (w.putObj l (.loop {state:=st',pending:=pe',fn,tmps,params:=ps,assign:=ass,body,defers:=D})))∧
   ∀o,Fits C B S μ (h.set p .dead) (w.putObj l o)∧Step B S μ w S μ (w.putObj l o):=by
 have hlt:p<μ.length:=by rw[f.len];exact(List.getElem?_eq_some_iff.1 hh).1
 have hm:=List.getElem?_eq_getElem hlt
 obtain⟨hv,hb,fn,D,tmps,h1,h2,h3⟩:=f.blk p _ _ hm hh
 have hll:=(f.own p _ l hm hb).2.1
 refine⟨fn,D,tmps,h1,h2,h3,fun st' pe'=>?_,fun o=>?_⟩
 ·have st0:=bh f hm (hb▸d7 w l (.loop {state:=st',pending:=pe',fn,tmps,params:=ps,assign:=ass,body,defers:=D})) (MapLe.refl μ)
  have:=f.update (k':=.lp l k t ps ass body st' pe') hm (hb▸d7 w l (.loop {state:=st',pending:=pe',fn,tmps,params:=ps,assign:=ass,body,defers:=D})) (Nat.le_refl _) (fun _=>rfl) (.inl rfl)
   ⟨hv,hb,fn,D,tmps,World.putObj_heap_same hll,h2,fun i hi=>by rw[fH hm];exact(h3 i hi).mono st0⟩
  rwa [fH hm]at this
 ·have:=f.update (k':=.dead) hm (hb▸d7 w l o) (Nat.le_refl _) (fun _=>rfl) (.inl rfl) trivial
  rwa [fH hm]at this
def roundQ(p l k:Nat)(t:Env)(ps:Array Tmp)(ass body:Code)(R:AVal→Heap→Prop):Exit→Env→Heap→Prop:=fun e _ h2=>h2[p]? =some (.lp l k t ps ass body .busy none)∧(match e with
 | .normal=>R (.bool true) (h2.set p (.lp l k t ps ass body .ready none))
 | .ret=>R (.bool false) (h2.set p (.lp l k t ps ass body .done (some .ret)))
 | .exit id=>R (.bool false) (h2.set p (.lp l k t ps ass body .done (some (.exit id))))
 |_=>False)
theorem SatY.round{l k p q:Nat}{t:Env}{ass body:Code}{x:AVal}{R:AVal→Heap→Prop}(hh:h[p]? =some (.lp l k t #[q] ass body .ready none))
  (ho1:okCode k ass=true)(ho2:okCode k body=true)(hf1:flat ass=true)(hf2:flat body=true)
  (hw:WP C ass (fun e t1 h1=>e=.normal∧h1[p]? =some (.lp l k t #[q] ass body .ready none)∧WP C body (roundQ p l k t #[q] ass body R) t1 (h1.set p (.lp l k t #[q] ass body .busy none))) (upd t q x) h):SatY C l [x] h R:=by
 intro B S μ w vs f rl
 obtain⟨fn,D,tmps,h1,h2,h3,_,_⟩:=f.turn hh
 obtain⟨v,rfl⟩:∃v,vs=[v]:=by have:=rl.1;match vs,this with| [v],_=>exact⟨v,rfl⟩
 have hx:Rep w S μ x v:=by simpa using rl.2 0 x rfl
 rw[run_yield h1 (by simp)]
 intro m
 refine roundIn_of_wpIn trivial ?_
 have renv:REnv k w S μ (upd t q x) {tmps:=(Array.zip #[q] [v].toArray).foldl (fun tmps (t,a)=>tmps.setIfInBounds t a) tmps,defers:=[]}:=by
  refine⟨by simp[h2],rfl,fun i hi=>?_⟩
  have e0:(Array.zip #[q] [v].toArray).foldl (fun tmps (t,a)=>tmps.setIfInBounds t a) tmps=tmps.setIfInBounds q v:=by simp
  simp only[e0,upd]
  have hs:i<tmps.size:=by omega
  split
  ·rename_i e;subst e
   simpa [Array.getD_eq_getD_getElem?,hs]using hx
  ·rename_i e
   have:=h3 i hi
   simpa [Array.getD_eq_getD_getElem?,Array.getElem?_setIfInBounds_ne (show q≠i from fun e'=>e e'.symm)]using this
 refine wpIn_mono (cE (ρ:=some l) (ds:=[]) ass ho1 (.inr hf1) (Step.refl B S μ w) f renv hw) fun e a1 w1 hp=>?_
 obtain⟨t1,h1',S1,μ1,⟨rfl,hh1,hb⟩,st1,f1,r1⟩:=hp
 obtain⟨fn1,D1,tmps1,g1,g2,g3,g4,_⟩:=f1.turn hh1
 refine⟨_,run_beginRound g1 rfl,?_⟩
 obtain⟨f2,st2⟩:=g4 .busy none
 refine wpIn_mono (cE (ρ:=some l) (ds:=[]) body ho2 (.inr hf2) (st1.trans st2) f2 (r1.mono st2) hb) fun e a3 w3 hp=>?_
 obtain⟨t3,h3',S3,μ3,⟨hh3,hq⟩,st3,f3,r3⟩:=hp
 obtain⟨fn3,D3,tmps3,k1,k2,k3,k4,_⟩:=f3.turn hh3
 have fin:∀(j:Option Code),R (.bool j.isNone) (h3'.set p (.lp l k t #[q] ass body (if j.isNone then .ready else .done) j))→
   ∃v w',(Instr.endRound l j).run C.P w3=.ok v w'∧∃u,Ending.returned v=Ending.returned u∧OpPost C B S μ w R u w':=fun j hR=>by
  obtain⟨f4,st4⟩:=k4 (if j.isNone then .ready else .done) j
  exact⟨_,_,run_endRound j k1,_,rfl,_,_,_,_,hR,st3.trans st4,f4,.bool _⟩
 cases e with
 |normal=>exact fin none hq
 |ret=>exact fin (some .ret) hq
 |exit id=>exact fin (some (.exit id)) hq
 |_=>exact hq.elim
theorem SatY.roundQ{l k p q:Nat}{t:Env}{ass body:Code}{x:AVal}{R:AVal→Heap→Prop}(hh:h[p]? =some (.lp l k t #[q] ass body .ready none))
  (ho1:okCode k ass=true)(ho2:okCode k body=true)(hf1:flat ass=true)(hf2:flat body=true)
  (hw:∀Q1:Exit→Env→Heap→Prop,(∀t1 h1,h1[p]? =some (.lp l k t #[q] ass body .ready none)→
   (∀Q2:Exit→Env→Heap→Prop,(∀t2 h2,h2[p]? =some (.lp l k t #[q] ass body .busy none)→R (.bool true) (h2.set p (.lp l k t #[q] ass body .ready none))→Q2 .normal t2 h2)→
    (∀id t2 h2,h2[p]? =some (.lp l k t #[q] ass body .busy none)→R (.bool false) (h2.set p (.lp l k t #[q] ass body .done (some (.exit id))))→Q2 (.exit id) t2 h2)→WP C body Q2 t1 (h1.set p (.lp l k t #[q] ass body .busy none)))→Q1 .normal t1 h1)→WP C ass Q1 (upd t q x) h):SatY C l [x] h R:=
 SatY.round hh ho1 ho2 hf1 hf2 (hw _ fun _ _ g1 g2=>⟨rfl,g1,g2 _ (fun _ _ a b=>⟨a,b⟩) fun _ _ _ a b=>⟨a,b⟩⟩)
def mark(D:Nat):Deferred:= {target:=.collected D,args:= #[]}
def PostM(C:Ctx)(B n:Nat)(S:Addr→Prop)(μ:Map)(w:World)(p:Nat)(Q:Exit→Env→Heap→Prop):Exit→Act→World→Prop:=fun e a' w'=>
 ∃D t' h' S' μ' k,Q e t' h'∧Step B S μ w S' μ' w'∧Fits C B S' μ' h' w'∧REnv n w' S' μ' t' a' [mark D]∧μ'[p]? =some k∧(k.ver=0→k.blk=some D)
def PostE(C:Ctx)(B n:Nat)(S:Addr→Prop)(μ:Map)(w:World)(p:Nat)(Q0 Q1:Exit→Env→Heap→Prop):Exit→Act→World→Prop:=fun e a' w'=>
 Post C B n S μ w Q0 [] e a' w'∨PostM C B n S μ w p Q1 e a' w'
def MJ(C:Ctx)(n p:Nat)(Q:Exit→Env→Heap→Prop)(c:Code)(t:Env)(h:Heap):Prop:=∀m B S0 μ0 w0 S μ w a D k,Step B S0 μ0 w0 S μ w→Fits C B S μ h w→REnv n w S μ t a [mark D]→μ[p]? =some k→(k.ver=0→k.blk=some D)→
 c.wpIn (WF none) m C.P (PostM C B n S0 μ0 w0 p Q) a w
def EJ(C:Ctx)(n p:Nat)(Q0 Q1:Exit→Env→Heap→Prop)(c:Code)(t:Env)(h:Heap):Prop:=∀m B S0 μ0 w0 S μ w a,Step B S0 μ0 w0 S μ w→Fits C B S μ h w→REnv n w S μ t a []→
 c.wpIn (WF none) m C.P (PostE C B n S0 μ0 w0 p Q0 Q1) a w
variable {p:Nat} {Q Q0 Q1:Exit→Env→Heap→Prop} {c d:Code}
theorem MJ.wp(ho:okCode n c=true)(hw:WP C c Q t h):MJ C n p Q c t h:=fun m B S0 μ0 w0 S μ w a D k st f r hk hD=>
 wpIn_mono (cE (ρ:=none) c ho (.inl rfl) (Step.refl B S μ w) f r hw) fun e a' w' ⟨t',h',S',μ',hq,st',f',r'⟩=>by
  obtain⟨k',h1,h2,h3⟩:=st'.map p k hk
  exact⟨D,t',h',S',μ',k',hq,st.trans st',f',r',h1,fun e=>by have:=h3 (by omega);subst this;exact hD e⟩
theorem EJ.seq1(ho:okCode n c=true)(hw:∀KK:Env→Heap→Prop,(∀t h,Wkn C (wr c) t h (fun t h=>EJ C n p Q0 Q1 d t h)→KK t h)→WP C c (thenQ KK Q0) t h):EJ C n p Q0 Q1 (.seq c d) t h:=fun m B S0 μ0 w0 S μ w a st f r=>
 wpIn_seq (wpIn_mono (cE (ρ:=none) c ho (.inl rfl) st f r (hw _ fun _ _ g=>g)) fun e a' w' ⟨t',h',S',μ',hq,st',f',r'⟩=>by
  cases e with
  |normal=>
   obtain⟨t1,h1,hw,hq⟩:=hq
   obtain⟨S1,μ1,st1,f1,r1⟩:=hw.at f' r'
   exact hq m B S0 μ0 w0 S1 μ1 w' a' (st'.trans st1) f1 r1
  |_=>exact .inl ⟨t',h',S',μ',hq,st',f',r'⟩)
theorem EJ.seq2(hw:EJ C n p (thenQ (fun t h=>EJ C n p Q0 Q1 d t h) Q0) (thenQ (fun t h=>MJ C n p Q1 d t h) Q1) c t h):EJ C n p Q0 Q1 (.seq c d) t h:=fun m B S0 μ0 w0 S μ w a st f r=>
 wpIn_seq (wpIn_mono (hw m B S0 μ0 w0 S μ w a st f r) fun e a' w' hp=>by
  rcases hp with⟨t',h',S',μ',hq,st',f',r'⟩| ⟨D,t',h',S',μ',k,hq,st',f',r',hk,hD⟩
  ·cases e with
   |normal=>exact hq m B S0 μ0 w0 S' μ' w' a' st' f' r'
   |_=>exact .inl ⟨t',h',S',μ',hq,st',f',r'⟩
  ·cases e with
   |normal=>exact wpIn_mono (hq m B S0 μ0 w0 S' μ' w' a' D k st' f' r' hk hD) fun _ _ _ hp=>.inr hp
   |_=>exact .inr ⟨D,t',h',S',μ',k,hq,st',f',r',hk,hD⟩)
theorem EJ.block{id:Nat}(hw:EJ C n p (blockQ id Q0) (blockQ id Q1) c t h):EJ C n p Q0 Q1 (.block id c) t h:=fun m B S0 μ0 w0 S μ w a st f r=>
 wpIn_block (wpIn_mono (hw m B S0 μ0 w0 S μ w a st f r) fun e a' w' hp=>by
  rcases hp with⟨t',h',S',μ',hq,st',f',r'⟩| ⟨D,t',h',S',μ',k,hq,st',f',r',hk,hD⟩
  ·cases e with
   |exit id'=>
    simp only[blockQ]at hq
    simp only[Exit.inBlock]
    split
    ·rename_i e;rw[if_pos e]at hq;exact .inl ⟨t',h',S',μ',hq,st',f',r'⟩
    ·rename_i e;rw[if_neg e]at hq;exact .inl ⟨t',h',S',μ',hq,st',f',r'⟩
   |_=>exact .inl ⟨t',h',S',μ',hq,st',f',r'⟩
  ·cases e with
   |exit id'=>
    simp only[blockQ]at hq
    simp only[Exit.inBlock]
    split
    ·rename_i e;rw[if_pos e]at hq;exact .inr ⟨D,t',h',S',μ',k,hq,st',f',r',hk,hD⟩
    ·rename_i e;rw[if_neg e]at hq;exact .inr ⟨D,t',h',S',μ',k,hq,st',f',r',hk,hD⟩
   |_=>exact .inr ⟨D,t',h',S',μ',k,hq,st',f',r',hk,hD⟩)
def rangeQ(p l k:Nat)(t:Env)(ps:Array Tmp)(ass body:Code)(Q:Exit→Env→Heap→Prop):AVal→Heap→Prop:=fun _ h'=>
 ∃st pe,h'[p+1]? =some (.lp l k t ps ass body st pe)∧st≠ .busy∧(match pe with
  |none=>Q .normal t (h'.set (p+1) .dead)
  |some .ret=>Q .ret t (h'.set (p+1) .dead)
  |some (.exit id)=>Q (.exit id) t (h'.set (p+1) .dead)
  |_=>False)
theorem EJ.range{g:Operand}{ps:Array Tmp}{ass body:Code}{gf:FuncId}{fn:Func}{cb:Code}{caps:List AVal}(ho:okOpd n g=true)(hg:aev C.G t g=.fn (.func gf) [] caps)(hf:C.P.funcs[gf]? =some fn)(hb:fn.body=some cb)(hname:(fn.name== "runtime.NumGoroutine")=false)
  (hp:p=h.length)(hs:∀l,Sat C gf (.fn (.yield l) [] []::caps) (h++[.df,.lp l n t ps ass body .ready none]) (rangeQ p l n t ps ass body Q1)):EJ C n p Q0 Q1 (.rangeFunc g ps ass body) t h:=by
 intro m B S0 μ0 w0 S μ w a st f r
 refine wpIn_rangeFunc fun fid _=>?_
 have hgv:=dF f r g ho
 rw[hg]at hgv
 generalize hgg:a.eval g=gv at hgv
 cases hgv with
 |fn _ _ _ xv cv hx1 hc1 hx2 hc2=>
 obtain rfl:xv=[]:=List.eq_nil_of_length_eq_zero hx1
 let rec1:Loop:= {state:=.ready,pending:=none,fn:=fid,tmps:=a.tmps,params:=ps,assign:=ass,body,defers:=w.heap.size}
 have f1:Fits C B S (μ++[⟨some w.heap.size,0,1,1⟩]) (h++[.df]) (w.alloc (.deferred (some []))):=f.alloc _ _ .df rfl ⟨rfl,_,rfl,World.alloc_heap_new w _⟩
 have st1:=aW f (.deferred (some [])) ⟨some w.heap.size,0,1,1⟩
 have hsz:(w.alloc (.deferred (some []))).heap.size=w.heap.size+1:=World.size_alloc _ _
 have st2:=aW f1 (.loop rec1) ⟨some (w.heap.size+1),0,1,1⟩
 have f2:Fits C B S (μ++[⟨some w.heap.size,0,1,1⟩]++[⟨some (w.heap.size+1),0,1,1⟩]) (h++[.df]++[.lp (w.heap.size+1) n t ps ass body .ready none]) ((w.alloc (.deferred (some []))).alloc (.loop rec1)):=
  f1.alloc _ _ _ (by rw[hsz]) ⟨rfl,rfl,fid,w.heap.size,a.tmps,by have:=World.alloc_heap_new (w.alloc (.deferred (some []))) (.loop rec1);rw[hsz]at this;exact this,r.1,fun i hi=>((r.2.2 i hi).mono st1).mono st2⟩
 have st12:=st1.trans st2
 rw[List.append_assoc]at st12
 rw[List.append_assoc,List.append_assoc]at f2
 have hcall:∀(args:Array Value) (w:World),(callFunc gf args).run C.P w=.ok (.enter gf args) w:=fun args w=>by
  have hne:fn.name≠ "runtime.NumGoroutine" :=by simpa using hname
  simp[callFunc,hf,hne,hb]
 refine⟨w.heap.size+1,[mark w.heap.size],(w.alloc (.deferred (some []))).alloc (.loop rec1),{target:=.fn (.func gf) cv.toArray,args:= #[.func (.yield (w.heap.size+1)) #[] #[]]},(w.alloc (.deferred (some []))).alloc (.loop rec1),gf,
  #[.func (.yield (w.heap.size+1)) #[] #[]]++cv.toArray,(w.alloc (.deferred (some []))).alloc (.loop rec1),run_enterLoop_outer _ _ _ _ _,?_,fun _ _=>trivial,?_,fun e=>by simp[WF,Fence.wide]at e,?_⟩
 ·simp only[resolve,hgg]
  simp[go_sem]
 ·simp[invoke,go_sem,hcall]
 ·have hsat:=hs (w.heap.size+1) B S _ _ (.func (.yield (w.heap.size+1)) #[] #[]::cv) f2 ⟨by simp[hc1],fun i x hi=>by
   match i with
   |0=>simp at hi;subst hi;exact .fn _ [] [] [] [] rfl rfl (fun i c hi=>by simp at hi) (fun i c hi=>by simp at hi)
   |i+1=>simpa using((hc2 i x (by simpa using hi)).mono st1).mono st2⟩
  rw[hcall]at hsat
  have e0:(#[Value.func (.yield (w.heap.size+1)) #[] #[]]++cv.toArray:Array Value)=(.func (.yield (w.heap.size+1)) #[] #[]::cv).toArray:=by simp
  rw[e0]
  show CallsIn Fence.wide (m-1) C.P _ _ _ _
  refine callsIn_wide.2 (Calls.mono hsat fun e w3 hh=>?_)
  obtain⟨v,rfl,_,h',S',μ',⟨sst,pe,hh1,hbusy,hq⟩,st3,f3,_⟩:=hh
  obtain⟨fn3,D3,tmps3,k1,k2,k3,_,k4⟩:=f3.turn hh1
  have hmark:∃k,μ'[p]? =some k∧(k.ver=0→k.blk=some w.heap.size):=by
   obtain⟨k,g1,g2,g3⟩:=st3.map p ⟨some w.heap.size,0,1,1⟩ (by rw[hp, ← f.len];simp)
   exact⟨k,g1,fun e=>by have:=g3 (by simp[e]);subst this;rfl⟩
  obtain⟨k,hk1,hk2⟩:=hmark
  refine⟨pe,_,run_endLoop k1 hbusy,?_⟩
  obtain⟨f4,st4⟩:=k4 (.loop {state:=.exhausted,pending:=pe,fn:=fn3,tmps:=tmps3,params:=ps,assign:=ass,body:=body,defers:=D3})
  have stF:=(st.trans st12).trans (st3.trans st4)
  have renv:REnv n _ S' μ' t {a with defers:=[mark w.heap.size]++a.defers} [mark w.heap.size]:=⟨r.1,by simp[r.2.1],fun i hi=>(r.2.2 i hi).mono (st12.trans (st3.trans st4))⟩
  match pe,hq with
  |none,hq=>exact .inr ⟨_,t,_,S',μ',k,hq,stF,f4,renv,hk1,hk2⟩
  |some .ret,hq=>exact wpIn_ret (.inr ⟨_,t,_,S',μ',k,hq,stF,f4,renv,hk1,hk2⟩)
  |some (.exit id),hq=>exact wpIn_exit (.inr ⟨_,t,_,S',μ',k,hq,stF,f4,renv,hk1,hk2⟩)
def EQ0(C:Ctx)(fn:Func)(h:Heap)(R:AVal→Heap→Prop):Exit→Env→Heap→Prop:=fun e t' h'=>match e with
 | .normal=>need (resA C t' h' fn.results.toList) (Fin h h' R)
 | .ret=>need (resA C t' h' fn.results.toList) (Fin h h' R)
 |_=>False
def EQ1(C:Ctx)(fn:Func)(h:Heap)(p:Nat)(R:AVal→Heap→Prop):Exit→Env→Heap→Prop:=fun e t' h'=>h'[p]? =some .df∧EQ0 C fn h R e t' (h'.set p .dead)
theorem Fits.shut(f:Fits C B S μ h w){k:MB}{D:Nat}(hh:h[p]? =some .df)(hk:μ[p]? =some k)(hD:k.ver=0→k.blk=some D):
  w.heap[D]? =some (.deferred (some []))∧Fits C B S μ (h.set p .dead) (w.putObj D (.deferred none))∧Step B S μ w S μ (w.putObj D (.deferred none)):=by
 obtain⟨hv,b,hb,hheap⟩:=f.blk p _ _ hk hh
 have e:=hD hv
 rw[hb]at e;cases e
 refine⟨hheap,?_⟩
 have:=f.update (k':=.dead) hk (hb▸d7 w D (.deferred none)) (Nat.le_refl _) (fun _=>rfl) (.inl rfl) trivial
 rwa [fH hk]at this
theorem Sat.of_range{f:FuncId}{fn:Func}{c:Code}{args:List AVal}{R:AVal→Heap→Prop}(hf:C.P.funcs[f]? =some fn)(hb:fn.body=some c)(hname:(fn.name== "runtime.NumGoroutine")=false)
  (hres:fn.results.toList.all (okRes fn.ntmps)=true)(hlen:args.length≤fn.ntmps)(hw:EJ C fn.ntmps p (EQ0 C fn h R) (EQ1 C fn h p R) c (env0 args) h):Sat C f args h R:=by
 intro B S μ w vs fit rl
 have hcall:(callFunc f vs.toArray).run C.P w=.ok (.enter f vs.toArray) w:=by
  have hne:fn.name≠ "runtime.NumGoroutine" :=by simpa using hname
  simp[callFunc,hf,hne,hb]
 rw[hcall]
 show Calls C.P f vs.toArray w _
 refine(callsIn_wide (n:=0)).1 (callsIn_of_wp_marks hf hb trivial ?_)
 have renv:=lI (n:=fn.ntmps) rl hlen
 have hres':=List.all_eq_true.1 hres
 refine wpIn_mono (hw 0 B S μ w S μ w _ (Step.refl B S μ w) fit renv) fun e a' w' hp=>?_
 have fin:∀{t' h' S' μ' w'} {a':Act} {ds:List Deferred},Step B S μ w S' μ' w'→Fits C B S' μ' h' w'→REnv fn.ntmps w' S' μ' t' a' ds→need (resA C t' h' fn.results.toList) (Fin h h' R)→∃v,(results fn a'.tmps).run C.P w'=.ok v w'∧
   ∃u,Ending.returned v=Ending.returned u∧OpPost C B S μ w R u w':=fun st fit' renv' hq=>by
  obtain⟨r0,hr0,hF⟩:=ac hq
  obtain⟨v,hv,hrep⟩:=iw fit' renv' hres' hr0
  exact⟨v,hv,v,rfl,hF.post fit st fit' hrep⟩
 rcases hp with⟨t',h',S',μ',hq,st,fit',renv'⟩| ⟨D,t',h',S',μ',k,⟨hdf,hq⟩,st,fit',renv',hk,hD⟩
 ·cases e with
  |normal=>show LeavesInM _ _ _ _ _ _ a'.defers _ _;rw[renv'.2.1];exact fin st fit' renv' hq
  |ret=>show LeavesInM _ _ _ _ _ _ a'.defers _ _;rw[renv'.2.1];exact fin st fit' renv' hq
  |_=>exact hq.elim
 ·obtain⟨g1,g2,g3⟩:=fit'.shut hdf hk hD
  have leave:need (resA C t' (h'.set p .dead) fn.results.toList) (Fin h (h'.set p .dead) R)→LeavesInM (WF none) 0 C.P fn a'.tmps (fun e w''=>∃u,e=.returned u∧OpPost C B S μ w R u w'') a'.defers .returning w':=fun hq=>by
   rw[renv'.2.1]
   exact⟨by simp,.inl ⟨D,_,rfl,run_takeDeferred g1,fin (st.trans g3) g2 (renv'.mono g3) hq⟩⟩
  cases e with
  |normal=>exact leave hq
  |ret=>exact leave hq
  |_=>exact hq.elim
theorem EJ.forget{P:Env→Prop}(hP:P t)(hk:∀t,P t→EJ C n p Q0 Q1 c t h):EJ C n p Q0 Q1 c t h:=hk t hP
theorem Sat.range(rs:List ResultVar){f:FuncId}{fn:Func}{c:Code}{args:List AVal}{R:AVal→Heap→Prop}(p:Nat)(hf:C.P.funcs[f]? =some fn)(hw:∀Q0 Q1:Exit→Env→Heap→Prop,(∀t' h',need (resA C t' h' rs) (Fin h h' R)→Q0 .ret t' h'∧Q0 .normal t' h')→
  (∀t' h',h'[p]? =some .df→need (resA C t' (h'.set p .dead) rs) (Fin h (h'.set p .dead) R)→Q1 .ret t' h'∧Q1 .normal t' h')→EJ C fn.ntmps p Q0 Q1 c (env0 args) h)(hb:fn.body=some c:=by exact rfl)(hrs:fn.results.toList=rs:=by exact rfl)
  (hname:(fn.name== "runtime.NumGoroutine")=false:=by kernel_rfl)(hres:fn.results.toList.all (okRes fn.ntmps)=true:=by kernel_rfl)(hlen:decide (args.length≤fn.ntmps)=true:=by exact rfl):Sat C f args h R:=by
 subst hrs
 exact Sat.of_range hf hb hname hres (of_decide_eq_true hlen) (hw _ _ (fun _ _ g=>⟨g,g⟩) fun _ _ g1 g2=>⟨⟨g1,g2⟩,⟨g1,g2⟩⟩)
end
end Go.Av
