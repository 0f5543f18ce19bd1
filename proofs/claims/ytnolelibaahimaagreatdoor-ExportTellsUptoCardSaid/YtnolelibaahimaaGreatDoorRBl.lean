/- Parts. -/
import Derived.Test.YtnolelibaahimaaGreatDoorRHa
import Derived.Test.YtnolelibaahimaaGreatDoorCards
import Derived.Test.YtnolelibaahimaaGreatDoorTie
import Derived.WalkKit
import Derived.ProofKit
import Derived.OpenShut
import Derived.Deep.DeepHandedRow
import Derived.Lib.LaidTab
set_option linter.unusedSimpArgs false
set_option linter.unusedVariables false
set_option linter.unusedSectionVars false
set_option linter.unnecessarySimpa false
set_option maxRecDepth 100000
set_option maxHeartbeats 16000000
namespace Go.Av
open Go.RowKit
section
variable (C:Ctx)
def loadX(T:TypeId)(x:AVal)(h:Heap):Option AVal:=match x with
 | .ad cs=>pickT C.P T cs
 | .hp p ver i off=>match getRow h p ver with
  |some (_,_,rows)=>match rows[i]? with
   |some r=>pickT C.P T (r.cells.drop off)
   |none=>none
  |none=>none
 |_=>none
def nilX(x:AVal)(h:Heap):Option AVal:=match x with
 | .hp p ver i off=>if (getRow h p ver).isSome=true then some (.hp p ver i off)else none
 | .ad cs=>some (.ad cs)
 | .fn (.func f) a b=>some (.fn (.func f) a b)
 | .ifc T v=>some (.ifc T v)
 |_=>none
def binX(h:Heap)(op:BinOp)(T:TypeId)(x y:AVal):Option AVal:=match x,y with
 | .sl _ [],.nil (.slice none 0 0)=>none
 |x,y=>abin C.P h op T x y
def convX(src dst:TypeId)(x:AVal)(h:Heap):Option AVal:=match x with
 | .hp p ver 0 0=>match getRow h p ver with
  |some (e,n,rows)=>match rows with
   | []=>none
   |_::_=>if ptrConv C.P src dst e n=true then some (.hp p ver 0 0)else none
  |none=>none
 | .hs p v o l r=>if bytesStr C.P src dst=true then match elemsOf h 1 (.hs p v o l r)with
  |some ys=>match bytesA ys with|some bs=>some (.str bs)|none=>none
  |none=>none else none
 | .int k n=>aconv C.P src dst (.int k n)
 | .str s=>aconv C.P src dst (.str s)
 |_=>none
def fieldAX(T:TypeId)(f:Nat)(x:AVal)(h:Heap):Option AVal:=match fOff C.P T f with
 |some (o,_,n)=>if n=0 then none else match x with
  | .hp p ver i off=>if (getRow h p ver).isSome=true then some (.hp p ver i (off+o))else none
  | .ad cs=>if o<cs.length then some (.ad (cs.drop o))else none
  |_=>none
 |none=>none
def fieldX(T:TypeId)(f:Nat)(x:AVal):Option AVal:=match fOff C.P T f with
 |some (o,fT,_)=>match x with
  | .agg cs=>pickT C.P fT (cs.drop o)
  |_=>none
 |none=>none
def indexAX(T:TypeId)(x i:AVal)(h:Heap):Option AVal:=match i with
 | .int _ n=>if 0≤n then match x with
  | .sl m es=>match elmT C.P T with
   |some e=>if szOf C.P e=some m∧0<m then match es[n.toNat]? with
    |some r=>some (.ad r.cells)
    |none=>none else none
   |none=>none
  | .hs p ver off len _=>match elmT C.P T,getRow h p ver with
   |some e,some (_,m,_)=>if szOf C.P e=some m∧n<len then some (.hp p ver (off+n.toNat) 0)else none
   |_,_=>none
  | .hp p ver j off=>match arrT C.P T with
   |some (k,e)=>match szOf C.P e with
    |some m=>if (getRow h p ver).isSome=true∧n<k then some (.hp p ver j (off+n.toNat*m))else none
    |none=>none
   |none=>none
  | .ad cs=>match arrT C.P T with
   |some (k,e)=>match szOf C.P e with
    |some m=>if n<k∧n.toNat*m<cs.length then some (.ad (cs.drop (n.toNat*m)))else none
    |none=>none
   |none=>none
  |_=>none else none
 |_=>none
def indexX(T:TypeId)(x i:AVal):Option AVal:=match i with
 | .int _ n=>if 0≤n then match x with
  | .str s=>if strT C.P T=true then match s[n.toNat]? with
   |some b=>some (.int .u8 b.toNat)
   |none=>none else none
  | .agg cs=>match arrT C.P T with
   |some (k,e)=>match szOf C.P e with
    |some m=>if n<k then pickT C.P e (cs.drop (n.toNat*m))else none
    |none=>none
   |none=>none
  |_=>none else none
 |_=>none
def buildX(T:TypeId)(parts:List (Nat×AVal)):Option AVal:=match zroT C.P T with
 |some z=>if z.cells.all AVal.sto=true then match nFld C.P T with
  |some _=>match fillA (fun i=>(fOff C.P T i).map fun q=>(q.1,q.2.2)) z.cells parts with
   |some cs=>some (.agg cs)
   |none=>none
  |none=>match arrT C.P T with
   |some (_,e)=>match szOf C.P e with
    |some n=>match fillA (fun i=>some (i*n,n)) z.cells parts with
     |some cs=>some (.agg cs)
     |none=>none
    |none=>none
   |none=>none else none
 |none=>none
def callPX(c:Call)(ρ:Operand→AVal)(h:Heap):Option AVal:=match c.callee with
 | .builtin .len=>match c.args.toList,c.argTypes.toList with
  | [x],[T]=>match alen C.P h T (ρ x)with|some n=>some (.int .i64 n)|none=>none
  |_,_=>none
 | .builtin .max=>match c.args.toList with
  | [x,y]=>match ρ x,ρ y with| .int kd a,.int _ b=>some (.int kd (if b>a then b else a))|_,_=>none
  |_=>none
 | .builtin .min=>match c.args.toList with
  | [x,y]=>match ρ x,ρ y with| .int kd a,.int _ b=>some (.int kd (if b<a then b else a))|_,_=>none
  |_=>none
 | .builtin .unsafeSliceData=>match c.args.toList with
  | [x]=>match ρ x with
   | .hs p ver 0 len true=>if (getRow h p ver).isSome=true then(if 0<len then some (.hp p ver 0 0)else some .pa)else none
   | .nil (.slice none 0 0)=>some .pa
   |_=>none
  |_=>none
 |_=>none
def pureX(o:Op)(t:Env)(h:Heap):Option AVal:=
 let ρ:=aev C.G t
 match o with
 | .move x=>some (ρ x)
 | .assign x=>some (ρ x)
 | .pick c a b=>match ρ c with| .bool true=>some (ρ a)| .bool false=>some (ρ b)|_=>none
 | .load T x=>loadX C T (ρ x) h
 | .nilCheck x=>nilX (ρ x) h
 | .binOp op T x y _=>binX C h op T (ρ x) (ρ y)
 | .unOp op _ x=>aun op (ρ x)
 | .convert s d x=>convX C s d (ρ x) h
 | .makeInterface T x=>if ifcT C.P T=some false then some (.ifc T (ρ x))else none
 | .makeFunc f first captured=>some (.fn f (first.toList.map ρ) (captured.toList.map ρ))
 | .slice T x lo hi mx=>aslice C.P h T (ρ x) (lo.map ρ) (hi.map ρ) (mx.map ρ)
 | .fieldAddr T x f=>fieldAX C T f (ρ x) h
 | .field T x f=>fieldX C T f (ρ x)
 | .indexAddr T x i=>indexAX C T (ρ x) (ρ i) h
 | .index T x i=>indexX C T (ρ x) (ρ i)
 | .extract x i=>match ρ x with| .tup vs=>vs[i]? |_=>none
 | .build T parts=>buildX C T (parts.toList.map fun q=>(q.1,ρ q.2))
 | .call c=>callPX C c ρ h
 |_=>none
variable {C} {t:Env} {h:Heap}
theorem ar{α:Type}{x:Option α}{a:α}{f:α→Prop}(e:x=some a)(h:f a):need x f:=by rw[e];exact h
theorem vA{T:TypeId}{x v:AVal}(g:loadX C T x h=some v){k:AVal→Prop}(hk:k v):loadK C T x h k:=by
 unfold loadX at g;unfold loadK;split at g
 ·exact ar g hk
 ·split at g
  ·rename_i hq;split at g
   ·rename_i hr;exact ar hq (ar hr (ar g hk))
   ·cases g
  ·cases g
 ·cases g
theorem xF{op:BinOp}{T:TypeId}{x y v:AVal}(g:binX C h op T x y=some v){k:AVal→Prop}(hk:k v):binK C.P h op T x y k:=by
 unfold binX at g;split at g
 ·cases g
 ·rename_i hne;rw[cK fun n e1 e2=>hne n e1 e2];exact ar g hk
theorem vB{s d:TypeId}{x v:AVal}(g:convX C s d x h=some v){k:AVal→Prop}(hk:k v):convK C.P s d x h k:=by
 unfold convX at g;split at g
 ·split at g
  ·rename_i hq;split at g
   ·cases g
   ·split at g
    ·rename_i hp;cases g;exact ar hq ⟨hp,by simp,hk⟩
    ·cases g
  ·cases g
 ·split at g
  ·rename_i hb;split at g
   ·rename_i hy;split at g
    ·rename_i hz;cases g;exact⟨hb,ar hy (ar hz hk)⟩
    ·cases g
   ·cases g
  ·cases g
 ·exact ar g hk
 ·exact ar g hk
 ·cases g
theorem nH{o:Op}{v:AVal}(g:pureX C o t h=some v){K:AVal→Heap→Prop}(hk:K v h):wpOp C o t h K:=by
 cases o with
 |move x=>simp only[pureX,N2]at g;subst g;exact hk
 |assign x=>simp only[pureX,N2]at g;subst g;exact hk
 |pick c a b=>
  simp only[pureX]at g;unfold wpOp;simp only[];split at g
  ·rename_i e;cases g;rw[e];exact And.intro (fun _=>hk) (fun e=>Bool.noConfusion e)
  ·rename_i e;cases g;rw[e];exact And.intro (fun e=>Bool.noConfusion e) (fun _=>hk)
  ·cases g
 |load T x=>
  have:=vA (k:=fun v=>K v h) g hk;unfold loadK at this;unfold wpOp;simp only[];exact this
 |nilCheck x=>
  simp only[pureX,nilX]at g;unfold wpOp;simp only[];split at g
  ·rename_i e;rw[e];split at g
   ·rename_i e2;cases g;exact⟨e2,hk⟩
   ·cases g
  ·rename_i e;rw[e];cases g;exact hk
  ·rename_i e;rw[e];cases g;exact hk
  ·rename_i e;rw[e];cases g;exact hk
  ·cases g
 |binOp op T x y _=>exact xF (k:=fun v=>K v h) g hk
 |unOp op _ x=>exact ar g hk
 |convert s d x=>exact vB (k:=fun v=>K v h) g hk
 |makeInterface T x=>
  simp only[pureX]at g;split at g
  ·rename_i e;cases g;exact⟨e,hk⟩
  ·cases g
 |makeFunc f a b=>simp only[pureX,N2]at g;subst g;exact hk
 |slice T x lo hi mx=>exact ar g hk
 |fieldAddr T x f=>
  simp only[pureX,fieldAX]at g;unfold wpOp;simp only[];split at g
  ·rename_i e;split at g
   ·cases g
   ·rename_i hn;refine ar e ⟨hn,?_⟩;split at g
    ·rename_i e;rw[e];split at g
     ·rename_i e2;cases g;exact⟨e2,hk⟩
     ·cases g
    ·rename_i e;rw[e];split at g
     ·rename_i e2;cases g;exact⟨e2,hk⟩
     ·cases g
    ·cases g
  ·cases g
 |field T x f=>
  simp only[pureX,fieldX]at g;unfold wpOp;simp only[];split at g
  ·rename_i e;refine ar e ?_;split at g
   ·rename_i e;rw[e];exact ar g hk
   ·cases g
  ·cases g
 |indexAddr T x i=>
  simp only[pureX,indexAX]at g;unfold wpOp;simp only[];split at g
  ·rename_i ei;rw[ei];simp only[];split at g
   ·rename_i h0;split at g
    ·rename_i e;rw[e];simp only[];split at g
     ·rename_i he;split at g
      ·rename_i hs;split at g
       ·rename_i hr;cases g;exact ar he ⟨hs.1,h0,hs.2,ar hr hk⟩
       ·cases g
      ·cases g
     ·cases g
    ·rename_i e;rw[e];simp only[];split at g
     ·rename_i he hr;split at g
      ·rename_i hs;cases g;exact ar he (ar hr ⟨hs.1,h0,hs.2,hk⟩)
      ·cases g
     ·cases g
    ·rename_i e;rw[e];simp only[];split at g
     ·rename_i he;split at g
      ·rename_i hs;split at g
       ·rename_i hc;cases g;exact ar he (ar hs ⟨hc.1,h0,hc.2,hk⟩)
       ·cases g
      ·cases g
     ·cases g
    ·rename_i e;rw[e];simp only[];split at g
     ·rename_i he;split at g
      ·rename_i hs;split at g
       ·rename_i hc;cases g;exact ar he (ar hs ⟨h0,hc.1,hc.2,hk⟩)
       ·cases g
      ·cases g
     ·cases g
    ·cases g
   ·cases g
  ·cases g
 |index T x i=>
  simp only[pureX,indexX]at g;unfold wpOp;simp only[];split at g
  ·rename_i ei;rw[ei];simp only[];split at g
   ·rename_i h0;split at g
    ·rename_i e;rw[e];simp only[];split at g
     ·rename_i he;split at g
      ·rename_i hr;cases g;exact⟨he,h0,ar hr hk⟩
      ·cases g
     ·cases g
    ·rename_i e;rw[e];simp only[];split at g
     ·rename_i he;split at g
      ·rename_i hs;split at g
       ·rename_i hc;exact ar he (ar hs ⟨h0,hc,ar g hk⟩)
       ·cases g
      ·cases g
     ·cases g
    ·cases g
   ·cases g
  ·cases g
 |extract x i=>
  simp only[pureX]at g;unfold wpOp;simp only[];split at g
  ·rename_i e;rw[e];exact ar g hk
  ·cases g
 |build T parts=>
  simp only[pureX,buildX]at g;unfold wpOp;simp only[];split at g
  ·rename_i hz;split at g
   ·rename_i ha;refine ar hz ⟨ha,?_⟩;split at g
    ·rename_i hn;rw[hn];simp only[];split at g
     ·rename_i hf;cases g;exact ar hf hk
     ·cases g
    ·rename_i hn;rw[hn];split at g
     ·rename_i hr;rw[hr];simp only[];split at g
      ·rename_i hs;split at g
       ·rename_i hf;cases g;exact ar hs (ar hf hk)
       ·cases g
      ·cases g
     ·cases g
   ·cases g
  ·cases g
 |call c=>
  simp only[pureX,callPX]at g;unfold wpOp;simp only[];unfold wpCall;simp only[];split at g
  ·rename_i hc;rw[hc];simp only[];split at g
   ·rename_i h1 h2;rw[h1,h2];simp only[];split at g
    ·rename_i hn;cases g;exact ar hn hk
    ·cases g
   ·cases g
  ·rename_i hc;rw[hc];simp only[];split at g
   ·rename_i h1;rw[h1];simp only[];split at g
    ·rename_i e1 e2;cases g;rw[e1,e2];unfold maxK;simp only[K8];exact hk
    ·cases g
   ·cases g
  ·rename_i hc;rw[hc];simp only[];split at g
   ·rename_i h1;rw[h1];simp only[];split at g
    ·rename_i e1 e2;cases g;rw[e1,e2];unfold maxK;simp only[K8];exact hk
    ·cases g
   ·cases g
  ·rename_i hc;rw[hc];simp only[];split at g
   ·rename_i h1;rw[h1];simp only[];split at g
    ·rename_i e1;rw[e1];unfold sdataK;simp only[];split at g
     ·rename_i hs;refine⟨hs,?_⟩;split at g
      ·rename_i hl;cases g;rw[L7 hl];exact hk
      ·rename_i hl;cases g;rw[K4 hl];exact hk
     ·cases g
    ·rename_i e1;rw[e1];cases g;exact hk
    ·cases g
   ·cases g
  ·cases g
 |_=>cases g
end
abbrev CallX:=FuncId→List AVal→Heap→Option (AVal×Heap)
section
variable (C:Ctx)
def roomyB(n bytes:Nat):Bool:=decide (n≤maxLen)&&decide (n*bytes≤140737488355328)
def appX(T:TypeId)(x y:AVal)(h:Heap):Option (AVal×Heap):=match elmT C.P T with
 |none=>none
 |some e=>match szOf C.P e with
  |none=>none
  |some n=>match byT C.P e with
   |none=>none
   |some by'=>match elemsOf h n y with
    |none=>none
    |some ys=>if 0<n∧(zroT C.P e).map (fun z=>z.cells.length)=some n then match x with
     | .nil (.slice none 0 0)=>if roomyB ys.length by'=true then some (.hs h.length 0 0 ys.length true,h++[.row e n 0 ys])else none
     | .hs p ver off len room=>match getRow h p ver with
      |some (e',m,rows)=>if e'=e∧m=n∧off=0∧roomyB (len+ys.length) by'=true then
        (if room=true then(if len=rows.length then some (.hs p (ver+1) 0 (len+ys.length) true,h.set p (.row e n (ver+1) (rows++ys)))else none)
        else(if 0<ys.length∧len≤rows.length then some (.hs h.length 0 0 (len+ys.length) true,h++[.row e n 0 (rows.take len++ys)])else none))else none
      |none=>none
     | .ez=>if ys=[]then some (.ez,h)else if roomyB ys.length by'=true then some (.hs h.length 0 0 ys.length true,h++[.row e n 0 ys])else none
     |_=>none else none
def ustrX(T:TypeId)(x n:AVal)(h:Heap):Option (AVal×Heap):=match n with
 | .int .i64 m=>if m=0 then(match x with| .pa=>some (.str [],h)|_=>none)
  else match x with
   | .hp p ver 0 0=>match getRow h p ver with
    |some (e,k,rows)=>if k=1∧bptr C.P T e=true∧0<m∧m.toNat≤rows.length then match bytesA (rows.take m.toNat)with
     |some bs=>some (.str bs,h.set p .dead)
     |none=>none else none
    |none=>none
   |_=>none
 |_=>none
def rowsX(T len:Nat)(idx:List Nat)(xs:List AVal)(h:Heap):Option (AVal×Heap):=match elmT C.P T with
 |none=>none
 |some e=>match szOf C.P e with
  |none=>none
  |some n=>if len=0 then(if idx.length=0 then some (.ez,h)else none)
   else if idx.length=len∧0<n∧len*n≤16777216∧idx=List.range len∧(zroT C.P e).map (fun z=>(z.cells.length,z.cells.all AVal.sto))=some (n,true)∧
    xs.all (fun x=>decide (x.cells.length=n)&&x.lies)=true then some (.hs h.length 0 0 len true,h++[.row e n 0 xs])else none
def storeX(T:TypeId)(x y:AVal)(h:Heap):Option (AVal×Heap):=match x with
 | .hp p ver i off=>match getRow h p ver with
  |some (e,n,rows)=>match rows[i]? with
   |some r=>if szOf C.P T=some y.cells.length∧y.lies=true∧off+y.cells.length≤n then some (undefA,h.set p (.row e n ver (rows.set i (putA r off y.cells))))else none
   |none=>none
  |none=>none
 |_=>none
def nextX(x:AVal)(isS:Bool)(h:Heap):Option (AVal×Heap):=match x with
 | .hp p 0 0 0=>if isS=true then match h[p]? with
  |some (.iter s pos)=>if pos<s.length then some (.tup [.bool true,.int .i64 pos,.int .i32 (Utf8.decode ⟨s.toArray⟩ pos).1],h.set p (.iter s (pos+(Utf8.decode ⟨s.toArray⟩ pos).2)))else some (.tup [.bool false],h)
  |_=>none else none
 |_=>none
def opX(call:CallX)(o:Op)(t:Env)(h:Heap):Option (AVal×Heap):=
 match pureX C o t h with
 |some v=>some (v,h)
 |none=>
 let ρ:=aev C.G t
 match o with
 | .alloc e=>match zroT C.P e with
  |some z=>if 0<z.cells.length∧z.cells.all AVal.sto=true∧z.lies=true then some (.hp h.length 0 0 0,h++[.row e z.cells.length 0 [z]])else none
  |none=>none
 | .box e x=>if 0<(ρ x).cells.length∧(ρ x).lies=true then some (.hp h.length 0 0 0,h++[.row e (ρ x).cells.length 0 [ρ x]])else none
 | .buildSlice T len parts=>rowsX C T len (parts.toList.map (·.1)) (parts.toList.map fun q=>ρ q.2) h
 | .store T x y=>storeX C T (ρ x) (ρ y) h
 | .range T x=>match ρ x with
  | .str s=>if strT C.P T=true then some (.hp h.length 0 0 0,h++[.iter s 0])else none
  |_=>none
 | .next x b=>nextX (ρ x) b h
 | .call c=>match c.callee with
  | .builtin .append=>match c.args.toList,c.argTypes.toList with
   | [x,y],[T,T']=>if T'=T∨strT C.P T'=true then appX C T (ρ x) (ρ y) h else none
   |_,_=>none
  | .builtin .unsafeString=>match c.args.toList,c.argTypes.toList with
   | [x,n],[T,_]=>ustrX C T (ρ x) (ρ n) h
   |_,_=>none
  | .value f=>match ρ f with
   | .fn (.func g) first captured=>call g (first++c.args.toList.map ρ++captured) h
   |_=>none
  |_=>none
 |_=>none
variable {C} {t:Env} {h h':Heap} {call:CallX}
theorem iw{n b:Nat}(g:roomyB n b=true):roomy n b:=by
 simpa [roomyB,roomy]using g
theorem xG{T:TypeId}{x y v:AVal}(g:appX C T x y h=some (v,h')){K:AVal→Heap→Prop}(hk:K v h'):wpAppend C.P T x y h K:=by
 unfold appX at g;unfold wpAppend;split at g
 ·cases g
 ·rename_i e he;refine ar he ?_;split at g
  ·cases g
  ·rename_i n hn;refine ar hn ?_;split at g
   ·cases g
   ·rename_i b hb;refine ar hb ?_;split at g
    ·cases g
    ·rename_i ys hy;refine ar hy ?_;split at g
     ·rename_i hc;refine⟨hc.1,hc.2,?_⟩;split at g
      ·simp only[];split at g
       ·rename_i hr;cases g;exact⟨iw hr,hk⟩
       ·cases g
      ·simp only[];split at g
       ·rename_i hq;refine ar hq ?_;split at g
        ·rename_i hs;refine⟨hs.1,hs.2.1,hs.2.2.1,iw hs.2.2.2,?_⟩;split at g
         ·rename_i hr;rw[L7 hr];split at g
          ·rename_i hl;cases g;exact⟨hl,hk⟩
          ·cases g
         ·rename_i hr;rw[K4 hr];split at g
          ·rename_i hl;cases g;exact⟨hl.1,hl.2,hk⟩
          ·cases g
        ·cases g
       ·cases g
      ·simp only[];split at g
       ·rename_i hz;rw[L7 hz];cases g;exact hk
       ·rename_i hz;rw[K4 hz];split at g
        ·rename_i hr;cases g;exact⟨iw hr,hk⟩
        ·cases g
      ·cases g
     ·cases g
theorem vC{T:TypeId}{x y v:AVal}(g:ustrX C T x y h=some (v,h')){K:AVal→Heap→Prop}(hk:K v h'):ustrK C.P T x y h K:=by
 unfold ustrX at g;unfold ustrK;split at g
 ·simp only[];split at g
  ·rename_i hm;rw[L7 hm];split at g
   ·cases g;exact hk
   ·cases g
  ·rename_i hm;rw[K4 hm];split at g
   ·simp only[];split at g
    ·rename_i hq;refine ar hq ?_;split at g
     ·rename_i hs;split at g
      ·rename_i hb;cases g;exact⟨hs.1,hs.2.1,hs.2.2.1,hs.2.2.2,ar hb hk⟩
      ·cases g
     ·cases g
    ·cases g
   ·cases g
 ·cases g
theorem jW(hcall:∀f args h r h',call f args h=some (r,h')→Sat C f args h fun r2 h2=>r2=r∧h2=h'){o:Op}{v:AVal}(g:opX C call o t h=some (v,h')){K:AVal→Heap→Prop}(hk:K v h'):wpOp C o t h K:=by
 unfold opX at g;split at g
 ·rename_i hp;cases g;exact nH hp hk
 ·rename_i hp;clear hp;cases o with
  |alloc e=>
   simp only[]at g;unfold wpOp;simp only[];split at g
   ·rename_i hz;split at g
    ·rename_i hs;cases g;exact ar hz ⟨hs.1,hs.2.1,hs.2.2,hk⟩
    ·cases g
   ·cases g
  |box e x=>
   simp only[]at g;unfold wpOp;simp only[];split at g
   ·rename_i hs;cases g;exact⟨hs.1,hs.2,hk⟩
   ·cases g
  |buildSlice T len parts=>
   simp only[rowsX]at g;unfold wpOp;simp only[];split at g
   ·cases g
   ·rename_i he;refine ar he ?_;split at g
    ·cases g
    ·rename_i hn;refine ar hn ?_;split at g
     ·rename_i h0;rw[L7 h0];split at g
      ·rename_i hp;cases g;exact⟨by simpa using hp,hk⟩
      ·cases g
     ·rename_i h0;rw[K4 h0];split at g
      ·rename_i hs;cases g;obtain⟨s1,s2,s3,s4,s5,s6⟩:=hs;refine⟨by simpa using s1,by omega,s2,s3,s4,s5,fun x hx=>?_,.inl hk⟩;simpa using O4.1 s6 x hx
      ·cases g
  |store T x y=>
   simp only[storeX]at g;unfold wpOp;simp only[];split at g
   ·rename_i e;rw[e];simp only[];split at g
    ·rename_i hq;refine ar hq ?_;split at g
     ·rename_i hr;refine ar hr ?_;split at g
      ·rename_i hs;cases g;exact⟨hs.1,hs.2.1,hs.2.2,hk⟩
      ·cases g
     ·cases g
    ·cases g
   ·cases g
  |range T x=>
   simp only[]at g;unfold wpOp;simp only[];split at g
   ·rename_i e;rw[e];simp only[];split at g
    ·rename_i hs;cases g;exact⟨hs,hk⟩
    ·cases g
   ·cases g
  |next x b=>
   simp only[nextX]at g;unfold wpOp;simp only[];split at g
   ·rename_i e;rw[e];simp only[];split at g
    ·rename_i hb;subst hb;simp only[];split at g
     ·rename_i hi;rw[hi];simp only[];split at g
      ·rename_i hl;cases g;exact⟨fun _=>hk,fun hn=>absurd hl hn⟩
      ·rename_i hl;cases g;exact⟨fun hn=>absurd hn hl,fun _=>hk⟩
     ·cases g
    ·cases g
   ·cases g
  |call c=>
   simp only[]at g;unfold wpOp;simp only[];unfold wpCall;simp only[];split at g
   ·rename_i hc;rw[hc];simp only[];split at g
    ·rename_i h1 h2;rw[h1,h2];simp only[];split at g
     ·rename_i hT;exact⟨hT,xG g hk⟩
     ·cases g
    ·cases g
   ·rename_i hc;rw[hc];simp only[];split at g
    ·rename_i h1 h2;rw[h1,h2];simp only[];exact vC g hk
    ·cases g
   ·rename_i hc;rw[hc];split at g
    ·rename_i e;show callK _ _ _ _ _;rw[e];exact(hcall _ _ _ _ _ g).mono fun r2 h2 ⟨e1,e2⟩=>by rw[e1,e2];exact hk
    ·cases g
   ·cases g
  |_=>cases g
end
def nilEq:Value→Value→Bool
 | .slice none 0 0,.slice none 0 0=>true
 | .pointer none,.pointer none=>true
 | .nilFunc,.nilFunc=>true
 | .nilIface,.nilIface=>true
 | .map none,.map none=>true
 | .tuple ⟨[]⟩,.tuple ⟨[]⟩=>true
 |_,_=>false
theorem vD{v w:Value}(h:nilEq v w=true):v=w:=by
 unfold nilEq at h;split at h<;>first|rfl|cases h
def fnEq:Fn→Fn→Bool
 | .func f,.func g=>decide (f=g)
 |_,_=>false
theorem xH{v w:Fn}(h:fnEq v w=true):v=w:=by
 unfold fnEq at h;split at h
 ·rw[R8 h]
 ·cases h
mutual
def beqA:AVal→AVal→Bool
 | .int k n,.int k' n'=>decide (k=k')&&decide (n=n')
 | .bool b,.bool b'=>b==b'
 | .str s,.str s'=>decide (s=s')
 | .nil v,.nil w=>nilEq v w
 | .agg cs,.agg ds=>beqAs cs ds
 | .tup cs,.tup ds=>beqAs cs ds
 | .sl n es,.sl m fs=>decide (n=m)&&beqAs es fs
 | .ad cs,.ad ds=>beqAs cs ds
 | .hp p v i o,.hp p' v' i' o'=>decide (p=p')&&decide (v=v')&&decide (i=i')&&decide (o=o')
 | .hs p v o l r,.hs p' v' o' l' r'=>decide (p=p')&&decide (v=v')&&decide (o=o')&&decide (l=l')&&(r==r')
 | .fn f xs cs,.fn g ys ds=>fnEq f g&&beqAs xs ys&&beqAs cs ds
 | .ifc t x,.ifc t' y=>decide (t=t')&&beqA x y
 | .pa,.pa=>true
 | .ez,.ez=>true
 |_,_=>false
def beqAs:List AVal→List AVal→Bool
 | [],[]=>true
 |x::l,y::m=>beqA x y&&beqAs l m
 |_,_=>false
end
mutual
theorem db:∀(x y:AVal),beqA x y=true→x=y
 | .int k n,y,h=>by
  cases y<;>simp only[beqA,K5,K8,O0]at h
  rw[h.1,h.2]
 | .bool b,y,h=>by
  cases y<;>simp only[beqA,beq_iff_eq,O0]at h
  rw[h]
 | .str s,y,h=>by
  cases y<;>simp only[beqA,K8,O0]at h
  rw[h]
 | .nil v,y,h=>by
  cases y<;>simp only[beqA,O0]at h
  rw[vD h]
 | .agg cs,y,h=>by
  cases y<;>simp only[beqA,O0]at h
  rw[cy cs _ h]
 | .tup cs,y,h=>by
  cases y<;>simp only[beqA,O0]at h
  rw[cy cs _ h]
 | .sl n es,y,h=>by
  cases y<;>simp only[beqA,K5,K8,O0]at h
  rw[h.1,cy es _ h.2]
 | .ad cs,y,h=>by
  cases y<;>simp only[beqA,O0]at h
  rw[cy cs _ h]
 | .hp p v i o,y,h=>by
  cases y<;>simp only[beqA,K5,K8,O0]at h
  obtain⟨⟨⟨rfl,rfl⟩,rfl⟩,rfl⟩:=h;rfl
 | .hs p v o l r,y,h=>by
  cases y<;>simp only[beqA,K5,K8,beq_iff_eq,O0]at h
  obtain⟨⟨⟨⟨rfl,rfl⟩,rfl⟩,rfl⟩,rfl⟩:=h;rfl
 | .fn f xs cs,y,h=>by
  cases y<;>simp only[beqA,K5,O0]at h
  rw[xH h.1.1,cy xs _ h.1.2,cy cs _ h.2]
 | .ifc t x,y,h=>by
  cases y<;>simp only[beqA,K5,K8,O0]at h
  rw[h.1,db x _ h.2]
 | .pa,y,h=>by cases y<;>first|rfl|simp[beqA]at h
 | .ez,y,h=>by cases y<;>first|rfl|simp[beqA]at h
theorem cy:∀(l m:List AVal),beqAs l m=true→l=m
 | [],m,h=>by cases m<;>first|rfl|simp[beqAs]at h
 |x::l,m,h=>by
  cases m with
  |nil=>simp[beqAs]at h
  |cons y m=>
   simp only[beqAs,K5]at h;rw[db x y h.1,cy l m h.2]
end
def beqB:Blk→Blk→Bool
 | .row e n v rows,.row e' n' v' rows'=>decide (e=e')&&decide (n=n')&&decide (v=v')&&beqAs rows rows'
 | .iter s p,.iter s' p'=>decide (s=s')&&decide (p=p')
 | .dead,.dead=>true
 |_,_=>false
theorem qj{x y:Blk}(h:beqB x y=true):x=y:=by
 unfold beqB at h;split at h
 ·simp only[K5,K8]at h;obtain⟨⟨⟨rfl,rfl⟩,rfl⟩,h⟩:=h;rw[cy _ _ h]
 ·simp only[K5,K8]at h;rw[h.1,h.2]
 ·rfl
 ·cases h
def begH:Heap→Heap→Bool
 | [],_=>true
 |_::_,[]=>false
 |a::l,b::m=>beqB a b&&begH l m
theorem ld:∀{h h1:Heap},begH h h1=true→h1.take h.length=h
 | [],_,_=>by simp
 |_::_,[],h=>by simp[begH]at h
 |a::l,b::m,h=>by
  simp only[begH,K5]at h;simp only[L6,P0,ld h.2,qj h.1]
mutual
def cloA(n:Nat):AVal→Bool
 | .agg cs=>cloAs n cs
 | .tup cs=>cloAs n cs
 | .sl _ es=>cloAs n es
 | .ad cs=>cloAs n cs
 | .hp p _ _ _=>decide (p<n)
 | .hs p _ _ _ _=>decide (p<n)
 | .fn _ xs cs=>cloAs n xs&&cloAs n cs
 | .ifc _ x=>cloA n x
 | .hm p=>decide (p<n)
 |_=>true
def cloAs(n:Nat):List AVal→Bool
 | []=>true
 |x::l=>cloA n x&&cloAs n l
end
mutual
theorem dc(n:Nat):∀x:AVal,cloA n x=true→Clo n x
 | .int _ _,_=>.int _ _
 | .bool _,_=>.bool _
 | .str _,_=>.str _
 | .nil _,_=>.nil _
 | .agg cs,h=>.agg _ (cW n cs (by simpa only[cloA]using h))
 | .tup cs,h=>.tup _ (cW n cs (by simpa only[cloA]using h))
 | .sl _ es,h=>.sl _ _ (cW n es (by simpa only[cloA]using h))
 | .ad cs,h=>.ad _ (cW n cs (by simpa only[cloA]using h))
 | .hp p _ _ _,h=>.hp _ _ _ _ (by simpa only[cloA,K8]using h)
 | .hs p _ _ _ _,h=>.hs _ _ _ _ _ (by simpa only[cloA,K8]using h)
 | .fn _ xs cs,h=>by
  simp only[cloA,K5]at h;exact .fn _ _ _ (cW n xs h.1) (cW n cs h.2)
 | .ifc _ x,h=>.ifc _ _ (dc n x (by simpa only[cloA]using h))
 | .pa,_=>.pa
 | .ez,_=>.ez
 | .hm p,h=>.hm _ (by simpa only[cloA,K8]using h)
theorem cW(n:Nat):∀l:List AVal,cloAs n l=true→∀x∈l,Clo n x
 | [],_=>by intro x hx;cases hx
 |y::l,h=>by
  simp only[cloAs,K5]at h;intro x hx;rcases N0.1 hx with e|hx
  ·rw[e];exact dc n y h.1
  ·exact cW n l h.2 x hx
end
def mapO{α β:Type}(f:α→Option β):List α→Option (List β)
 | []=>some []
 |x::l=>match f x with
  |some y=>match mapO f l with|some m=>some (y::m)|none=>none
  |none=>none
theorem gm{α β:Type}{f:α→Option β}:∀{l:List α} {m:List β},mapO f l=some m→l.length=m.length∧∀(i:Nat) (x:α) (y:β),l[i]? =some x→m[i]? =some y→f x=some y
 | [],m,h=>by simp only[mapO,N2]at h;subst h;exact⟨rfl,fun i x y hx=>by simp at hx⟩
 |x::l,m,h=>by
  simp only[mapO]at h;split at h
  ·rename_i y hy;split at h
   ·rename_i m1 hm;cases h;obtain⟨h1,h2⟩:=gm hm;refine⟨by simp[h1],fun i a b ha hb=>?_⟩;cases i with
    |zero=>simp at ha hb;subst ha;subst hb;exact hy
    |succ i=>exact h2 i a b (by simpa using ha) (by simpa using hb)
   ·cases h
  ·cases h
def frzX(h:Heap)(n:Nat):Nat→AVal→Option AVal
 |0,x=>if cloA n x=true then some x else none
 |f+1,x=>if cloA n x=true then some x else match x with
  | .agg cs=>match mapO (frzX h n f) cs with|some ds=>if ds.all AVal.sto=true then some (.agg ds)else none|none=>none
  | .tup cs=>match mapO (frzX h n f) cs with|some ds=>some (.tup ds)|none=>none
  | .ifc t x=>match frzX h n f x with|some y=>some (.ifc t y)|none=>none
  | .hs p ver off len room=>match getRow h p ver with
   |some (_,m,rows)=>if n≤p∧off+len≤rows.length then
     match mapO (fun r=>match mapO (frzX h n f) r.cells with|some ds=>if ds.all AVal.sto=true then some (match r with| .agg _=>AVal.agg ds|_=>(match ds with| [d]=>if d.sto=true then d else .pa|_=>.pa))else none|none=>none) rows with
     |some es=>some (.sl m ((es.drop off).take len))
     |none=>none else none
   |none=>none
  |_=>none
theorem lg(h:Heap)(n:Nat):∀(f:Nat) (x y:AVal),frzX h n f x=some y→Frz h n x y:=by
 intro f;induction f with
 |zero=>
  intro x y g;simp only[frzX]at g;split at g
  ·rename_i hc;cases g;exact .clo _ (dc n _ hc)
  ·cases g
 |succ f ih=>
  intro x y g;simp only[frzX]at g;split at g
  ·rename_i hc;cases g;exact .clo _ (dc n _ hc)
  ·split at g
   ·split at g
    ·rename_i ds hm;split at g
     ·rename_i hs;cases g;obtain⟨h1,h2⟩:=gm hm;exact .agg _ _ h1 (fun d hd=>O4.1 hs d hd) fun i c d hc hd=>ih _ _ (h2 i c d hc hd)
     ·cases g
    ·cases g
   ·split at g
    ·rename_i ds hm;cases g;obtain⟨h1,h2⟩:=gm hm;exact .tup _ _ h1 fun i c d hc hd=>ih _ _ (h2 i c d hc hd)
    ·cases g
   ·split at g
    ·rename_i hy;cases g;exact .ifc _ _ _ (ih _ _ hy)
    ·cases g
   ·split at g
    ·rename_i hq;split at g
     ·rename_i hb;split at g
      ·rename_i es hm;cases g;obtain⟨h1,h2⟩:=gm hm;have key:∀(i:Nat) (r s:AVal),_→es[i]? =some s→Frz h n r s∧r.cells.length=s.cells.length∧(∀(j:Nat) (c d:AVal),r.cells[j]? =some c→s.cells[j]? =some d→d.sto=true)∧
         ∀(j:Nat) (c d:AVal),r.cells[j]? =some c→s.cells[j]? =some d→Frz h n c d:=fun i r s hr hs=>by
        have e:=h2 i r s hr hs;split at e
        ·rename_i ds hd;obtain⟨k1,k2⟩:=gm hd;split at e
         ·rename_i hst;have hst':=O4.1 hst;split at e
          ·cases e;exact⟨.agg _ _ k1 (fun d hd=>hst' d hd) fun j c d hc hd=>ih _ _ (k2 j c d hc hd),k1,fun j c d hc hd=>hst' d (M3 hd),fun j c d hc hd=>ih _ _ (k2 j c d hc hd)⟩
          ·rename_i hna;have hc1:r.cells=[r]:=(by cases r<;>first|rfl|exact absurd rfl (hna _));rw[hc1]at k1 k2 ⊢
           match ds,k1 with
           | [d],_=>
            simp only at e;have hd1:=hst' d (by simp);rw[L7 hd1]at e;have e2:d=s:=(by simpa using e);subst e2;have hs1:d.cells=[d]:=(by cases d<;>first|rfl| (simp[AVal.sto]at hd1));have hf:=ih _ _ (k2 0 r d rfl rfl);rw[hs1];refine⟨hf,rfl,fun j c x hc hx=>?_,fun j c x hc hx=>?_⟩
            ·match j with
             |0=>simp at hx;subst hx;exact hd1
             |j+1=>simp at hx
            ·match j with
             |0=>simp at hx hc;subst hx;subst hc;exact hf
             |j+1=>simp at hx
         ·cases e
        ·cases e
       exact .hs _ _ _ _ _ _ _ _ es hb.1 hq hb.2 h1.symm (fun i r s hr hs=>(key i r s hr hs).1) (fun i r s hr hs=>⟨(key i r s hr hs).2.1,fun j c d hc hd=>(key i r s hr hs).2.2.1 j c d hc hd⟩)
        (fun i r s j c d hr hs hc hd=>(key i r s hr hs).2.2.2 j c d hc hd)
      ·cases g
     ·cases g
    ·cases g
   ·cases g
section
variable {C:Ctx} {h:Heap}
theorem Sat.letgo{f:FuncId}{args:List AVal}{r v:AVal}{h1:Heap}(hb:h1.take h.length=h)(hz:Frz h1 h.length r v)(s:Sat C f args h fun r2 h2=>r2=r∧h2=h1):Sat C f args h fun r2 h2=>r2=v∧h2=h:=by
 intro B S μ w vs fit rl;refine(s B S μ w vs fit rl).mono fun u w' hp=>?_
 obtain⟨r2,h',S',μ',⟨rfl,rfl⟩,st,fit',hrep⟩:=hp;obtain⟨fc,sc⟩:=Fits.cut fit st fit' (n:=h.length) (M0 _) (fun p k hp hk=>by
  refine .inl ⟨hp,?_⟩;rw[← hb,N1 hp];exact hk)
 rw[hb]at fc;exact⟨v,h,_,_,⟨rfl,rfl⟩,sc,fc,hz.rep fit' hrep⟩
end
def preOkG(st:Bool)(ops:Array Oper)(k:Nat):Bool:=
 let b:=Region.before ops
 (List.range ops.size).all fun j=>match ops[j]? with
  |none=>true
  |some oj=>if j<k then
    (oj.after.all fun e=>(!st&& !Region.binds .any e)||decide (e.on<j))&&(List.range j).all fun i=>match ops[i]? with
    |none=>true
    |some oi=>
     (!(b.getD j 0).testBit i||oj.after.any fun e=>Region.binds .any e&&(e.on==i||(decide (i<e.on)&&(b.getD e.on 0).testBit i)))&&
     (((b.getD j 0).testBit i||oi.apart ops oj)&&(oi.dst.isNone||oi.dst !=oj.dst))
   else(List.range k).all fun i=>oj.after.any fun e=>Region.binds .any e&&(e.on==i||(decide (e.on<k)&&decide (i<e.on)&&(b.getD e.on 0).testBit i))
def preOk(ops:Array Oper)(k:Nat):Bool:=preOkG true ops k
structure PreOk (ops:Array Oper) (k:Nat) (c:Nat→Nat→Bool):Prop where
 less:∀(j:Nat) (oj:Oper),ops[j]? =some oj→j<k→∀e∈oj.after,Region.binds .any e=true→e.on<j
 cert:∀(i j:Nat) (oj:Oper),ops[j]? =some oj→j<k→i<j→c i j=true→∃e∈oj.after,Region.binds .any e=true∧(e.on=i∨(i<e.on∧c i e.on=true))
 sfx:∀(i j:Nat) (oj:Oper),ops[j]? =some oj→i<k→k≤j→∃e∈oj.after,Region.binds .any e=true∧(e.on=i∨(e.on<k∧i<e.on∧c i e.on=true))
 pre:∀(i j:Nat) (oi oj:Oper),ops[i]? =some oi→ops[j]? =some oj→i<j→j<k→(c i j=true∨oi.apart ops oj=true)∧(∀d,oi.dst=some d→oj.dst≠some d)
theorem fW{st:Bool}{ops:Array Oper}{k:Nat}(hk:preOkG st ops k=true):PreOk ops k fun i j=>((Region.before ops).getD j 0).testBit i:=by
 unfold preOkG at hk;simp only[O4,Q9]at hk;have at_:∀(j:Nat) (oj:Oper),ops[j]? =some oj→_:=fun j oj hj=>by
  have:=hk j (N6.1 hj).1;rw[hj]at this;exact this
 have some_i:∀(i j:Nat) (oj:Oper),ops[j]? =some oj→i<j→∃oi,ops[i]? =some oi:=fun i j oj hj hij=>by
  have:=(N6.1 hj).1;exact⟨_,O2 (show i<ops.size by omega)⟩
 have key:∀(j:Nat) (oj:Oper),ops[j]? =some oj→j<k→(oj.after.all fun e=>(!st&& !Region.binds .any e)||decide (e.on<j))=true∧∀(i:Nat) (oi:Oper),ops[i]? =some oi→i<j→
   ((!((Region.before ops).getD j 0).testBit i||oj.after.any fun e=>Region.binds .any e&&(e.on==i||(decide (i<e.on)&&((Region.before ops).getD e.on 0).testBit i)))&&
    ((((Region.before ops).getD j 0).testBit i||oi.apart ops oj)&&(oi.dst.isNone||oi.dst !=oj.dst)))=true:=by
  intro j oj hj hjk;have:=at_ j oj hj;simp only[L7 hjk,K5,O4,Q9]at this;refine⟨this.1,fun i oi hi hij=>?_⟩;have:=this.2 i hij;rw[hi]at this;simpa only[K5]using this
 refine⟨fun j oj hj hjk e he hb=>?_,fun i j oj hj hjk hij hc=>?_,fun i j oj hj hik hkj=>?_,fun i j oi oj hi hj hij hjk=>?_⟩
 ·have:=(key j oj hj hjk).1;rw[Array.all_eq_true_iff_forall_mem]at this;simpa [hb]using this e he
 ·obtain⟨oi,hi⟩:=some_i i j oj hj hij;have:=(key j oj hj hjk).2 i oi hi hij;simp only[K5,P8,O6]at this;rcases this.1 with h1|h1
  ·rw[hc]at h1;cases h1
  ·obtain⟨e,he,h2⟩:=Array.any_eq_true'.1 h1;simp only[K5,P8,beq_iff_eq,K8]at h2;exact⟨e,he,h2.1,h2.2⟩
 ·have:=at_ j oj hj;simp only[K4 (show ¬j<k by omega),O4,Q9]at this;obtain⟨e,he,h2⟩:=Array.any_eq_true'.1 (this i hik);simp only[K5,P8,beq_iff_eq,K8]at h2;exact⟨e,he,h2.1,h2.2.imp id fun q=>⟨q.1.1,q.1.2,q.2⟩⟩
 ·have:=(key j oj hj hjk).2 i oi hi hij;simp only[K5,P8]at this;refine⟨this.2.1,fun d hd e=>?_⟩;rcases this.2.2 with h1|h1
  ·rw[hd]at h1;cases h1
  ·rw[hd,e]at h1;simp at h1
theorem eU{ops:Array Oper}{k:Nat}(hk:preOk ops k=true):PreOk ops k fun i j=>((Region.before ops).getD j 0).testBit i:=fW hk
theorem jX{ops:Array Oper}{k:Nat}(hk:preOk ops k=true)(md:Region.Mode):∀(j:Nat) (oj:Oper),ops[j]? =some oj→j<k→∀e∈oj.after,Region.binds md e=true→e.on<j:=by
 intro j oj hj hjk e he _;unfold preOk preOkG at hk;simp only[O4,Q9]at hk;have:=hk j (N6.1 hj).1;rw[hj]at this;simp only[L7 hjk,K5]at this;have:=this.1;rw[Array.all_eq_true_iff_forall_mem]at this;simpa using this e he
theorem PreOk.bef{ops:Array Oper}{L:Array Bool}{k:Nat}{c:Nat→Nat→Bool}(D:PreOk ops k c)(cl:Closed ops L):
  ∀(j:Nat) (oj:Oper),ops[j]? =some oj→j<k→∀i,i<j→c i j=true→(∀e∈oj.after,Region.binds .any e=true→L.getD e.on false=true)→L.getD i false=true:=by
 intro j;induction j using Nat.strongRecOn with
 |ind j ih=>
  intro oj hj hjk i hij hc hl;obtain⟨e,he,hb,h1⟩:=D.cert i j oj hj hjk hij hc;have h2:=hl e he hb;rcases h1 with rfl|h1
  ·exact h2
  ·have h3:=D.less j oj hj hjk e he hb;have hsz:=(N6.1 hj).1;have hoe:ops[e.on]? =some ops[e.on]:=O2 (by omega);exact ih e.on h3 _ hoe (by omega) i h1.1 h1.2 fun e' he' hb'=>cl e.on _ hoe h2 e' he' hb'
theorem PreOk.ag_put{ops:Array Oper}{k:Nat}{c:Nat→Nat→Bool}(D:PreOk ops k c){V:Nat→AVal}{t s:Env}{p p':Nat→Bool}(g:Ag ops k V t p s){i:Nat}{o:Oper}(hi:ops[i]? =some o)(hk:i<k)
  (hp:∀j,j<k→p' j=(p j||j==i)):Ag ops k V t p' (put s o.dst (V i)):=by
 have uniq:∀(j:Nat) (oj:Oper) (x:Nat),j<k→ops[j]? =some oj→oj.dst=some x→o.dst=some x→j=i:=fun j oj x hj hoj h1 h2=>by
  rcases U1 j i with h3|h3|h3
  ·exact absurd h2 ((D.pre j i oj o hoj hi h3 hk).2 x h1)
  ·exact h3
  ·exact absurd h1 ((D.pre i j o oj hi hoj h3 hj).2 x h2)
 refine⟨fun j oj x hj hoj hpj hd=>?_,fun x hn=>?_⟩
 ·by_cases hji:j=i
  ·subst hji;rw[hoj]at hi;cases hi;simp[Av.put,hd,upd]
  ·have:o.dst≠some x:=fun e=>hji (uniq j oj x hj hoj hd e)
   have hs:(Av.put s o.dst (V i)) x=s x:=by
    cases hdo:o.dst with
    |none=>rfl
    |some d=>simp only[Av.put,upd];rw[K4];intro e;subst e;exact this hdo
   rw[hs];exact g.1 j oj x hj hoj (by have:=hp j hj;rw[hpj]at this;simpa [hji]using this.symm) hd
 ·have:o.dst≠some x:=hn i o hk hi (by rw[hp i hk];simp);have hs:(Av.put s o.dst (V i)) x=s x:=by
   cases hdo:o.dst with
   |none=>rfl
   |some d=>simp only[Av.put,upd];rw[K4];intro e;subst e;exact this hdo
  rw[hs];exact g.2 x fun j oj hj hoj hpj=>hn j oj hj hoj (by rw[hp j hj,hpj];rfl)
theorem PreOk.ag_T{ops:Array Oper}{k:Nat}{c:Nat→Nat→Bool}(D:PreOk ops k c)(V:Nat→AVal)(t:Env)(hkn:k≤ops.size):∀i,i≤k→Ag ops k V t (fun j=>decide (j<i)) (Av.T V (ops.toList.take k) t i)
 |0,_=>by rw[ip];exact Ag.start ops k V t fun j _=>by simp
 |i+1,hi=>by
  have ih:=PreOk.ag_T D V t hkn i (by omega);have ho:ops[i]? =some (ops[i]'(by omega)):=O2 _;have ho2:(ops.toList.take k)[i]? =some (ops[i]'(by omega)):=by rw[R9,L7 (by omega)];simp
  rw[fm V _ t i _ ho2];refine D.ag_put ih ho (by omega) fun j hj=>?_
  by_cases h1:j<i
  ·have h2:j<i+1:=(by omega);simp[h1,h2]
  ·by_cases h2:j=i
   ·subst h2;simp
   ·have h3:¬j<i+1:=(by omega);have h4:(j==i)=false:=(by simpa using h2);simp[h1,h3,h4]
theorem PreOk.sees{ops:Array Oper}{k:Nat}{c:Nat→Nat→Bool}(D:PreOk ops k c){V:Nat→AVal}{t s:Env}{L:Array Bool}(cl:Closed ops L)(g:Ag ops k V t (fun j=>L.getD j false) s)
  {i:Nat}{o:Oper}(hi:ops[i]? =some o)(hk:i<k)(hkn:k≤ops.size)(hun:L.getD i false=false)(hrd:∀e∈o.after,Region.binds .any e=true→L.getD e.on false=true):
  ∀d∈o.looksAt ops,Av.T V (ops.toList.take k) t i d=s d:=by
 intro d hd;have gT:=D.ag_T V t hkn i (by omega);by_cases hx:∃(j:Nat) (oj:Oper),j<k∧ops[j]? =some oj∧oj.dst=some d
 ·obtain⟨j,oj,hj,hoj,hdj⟩:=hx;have uniq:∀(j':Nat) (o':Oper),j'<k→ops[j']? =some o'→o'.dst=some d→j'=j:=fun j' o' hj' ho' h1=>by
   rcases U1 j' j with h3|h3|h3
   ·exact absurd hdj ((D.pre j' j o' oj ho' hoj h3 hj).2 d h1)
   ·exact h3
   ·exact absurd h1 ((D.pre j j' oj o' hoj ho' h3 hj').2 d hdj)
  rcases U1 j i with h3|h3|h3
  ·have hc:c j i=true:=by
    rcases(D.pre j i oj o hoj hi h3 hk).1 with h4|h4
    ·exact h4
    ·exact absurd hd ((Oper.apart_spec h4).1 d hdj)
   have hl:=D.bef cl i o hi hk j h3 hc hrd;rw[gT.1 j oj d hj hoj (by simpa using h3) hdj,g.1 j oj d hj hoj hl hdj]
  ·subst h3;rw[gT.2 d fun j' o' hj' ho' hp h1=>by have:=uniq j' o' hj' ho' h1;subst this;simp at hp,
    g.2 d fun j' o' hj' ho' hp h1=>by have:=uniq j' o' hj' ho' h1;subst this;simp only[hun]at hp;cases hp]
  ·have hc:c i j=true:=by
    rcases(D.pre i j o oj hi hoj h3 hj).1 with h4|h4
    ·exact h4
    ·exact absurd hd ((Oper.apart_spec h4).2.2 d hdj)
   have hl:L.getD j false=false:=by
    cases hlj:L.getD j false with
    |false=>rfl
    |true=>have:=D.bef cl j oj hoj hj i h3 hc (cl j oj hoj hlj);rw[hun]at this;cases this
   rw[gT.2 d fun j' o' hj' ho' hp h1=>by have:=uniq j' o' hj' ho' h1;subst this;simp at hp;omega,
    g.2 d fun j' o' hj' ho' hp h1=>by have:=uniq j' o' hj' ho' h1;subst this;simp only[hl]at hp;cases hp]
 ·have hn:∀(j:Nat) (oj:Oper),j<k→ops[j]? =some oj→oj.dst≠some d:=fun j oj h1 h2 h3=>hx ⟨j,oj,h1,h2,h3⟩
  rw[gT.2 d fun j oj h1 h2 _=>hn j oj h1 h2,g.2 d fun j oj h1 h2 _=>hn j oj h1 h2]
def listK(n k:Nat):Array Bool:=((List.range n).map fun i=>decide (i<k)).toArray
section
variable {C:Ctx} {t:Env} {h:Heap}
def Rest(C:Ctx)(ops:Array Oper)(Q:Exit→Env→Heap→Prop)(fuel:Nat)(L:Array Bool)(t:Env)(h:Heap):Prop:=
 ∀md n,WPix C ops Q (Region.linearise.go md ops fuel n L []) t h
def RestM(C:Ctx)(ops:Array Oper)(Q:Exit→Env→Heap→Prop)(md:Region.Mode)(fuel:Nat)(L:Array Bool)(t:Env)(h:Heap):Prop:=
 ∀n,WPix C ops Q (Region.linearise.go md ops fuel n L []) t h
theorem mf{ops:Array Oper}{L:Array Bool}{md:Region.Mode}{i:Nat}(h:i∈Region.ready md ops L):i∈Region.ready .any ops L:=by
 obtain⟨h1,o,h2,h3⟩:=mem_ready.1 h;exact mem_ready.2 ⟨h1,o,h2,fun e he hb=>h3 e he (eC hb)⟩
theorem Rest.nil{ops:Array Oper}{Q:Exit→Env→Heap→Prop}{L:Array Bool}(g:Q .normal t h):Rest C ops Q 0 L t h:=fun md n=>by
 simpa [Region.linearise.go,WPix]using g
theorem Rest.step{ops:Array Oper}{Q:Exit→Env→Heap→Prop}{fuel:Nat}{L:Array Bool}(h1:Region.ready .text ops L≠ [])(h2:Region.ready .gc ops L≠ [])(h3:Region.ready .any ops L≠ [])
  (g:∀i∈Region.ready .any ops L,∀o,ops[i]? =some o→wpOper C ops o t h fun t' h'=>Rest C ops Q fuel (L.setIfInBounds i true) t' h'):Rest C ops Q (fuel+1) L t h:=fun md n=>by
 have hne:Region.ready md ops L≠ []:=by cases md;exact h1;exact h2;exact h3
 obtain⟨i,hi,hmem⟩:=bJ hne n;rw[da md ops fuel n L hi];obtain⟨_,o,ho,_⟩:=mem_ready.1 hmem;simp only[WPix,ho];exact eh (g i (mf hmem) o ho) fun t' h' g'=>g' md _
theorem dA{ops:Array Oper}{Q:Exit→Env→Heap→Prop}{k:Nat}{c:Nat→Nat→Bool}(D:PreOk ops k c)(md:Region.Mode)(hless:∀(j:Nat) (oj:Oper),ops[j]? =some oj→j<k→∀e∈oj.after,Region.binds md e=true→e.on<j)(hkn:k≤ops.size){V:Nat→AVal}{t0:Env}{h:Heap}(ok:Nat→Prop)
  (hv:∀(i:Nat) (o:Oper),(ops.toList.take k)[i]? =some o→ok i→∀KK:AVal→Heap→Prop,KK (V i) h→wpOperV C ops o (Av.T V (ops.toList.take k) t0 i) h KK)
  (hK:RestM C ops Q md (ops.size-k) (listK ops.size k) (Av.T V (ops.toList.take k) t0 k) h):
  ∀(fuel n:Nat) (L:Array Bool) (s:Env),L.size=ops.size→left ops L=fuel→Closed ops L→(∀j,j<ops.size→L.getD j false=true→j<k)→(∀j,j<k→L.getD j false=false→ok j)→Ag ops k V t0 (fun j=>L.getD j false) s→
   WPix C ops Q (Region.linearise.go md ops fuel n L []) s h:=by
 have hlk:∀j,j<ops.size→(listK ops.size k).getD j false=decide (j<k):=fun j hj=>by simp[listK,hj]
 have fin:∀(fuel n:Nat) (L:Array Bool) (s:Env),L.size=ops.size→left ops L=fuel→(∀j,j<ops.size→L.getD j false=decide (j<k))→Ag ops k V t0 (fun j=>L.getD j false) s→
   WPix C ops Q (Region.linearise.go md ops fuel n L []) s h:=fun fuel n L s hs hl hL ag=>by
  have h1:=D.ag_T V t0 hkn k (M0 _);have h2:Ag ops k V t0 (fun j=>decide (j<k)) s:=⟨fun j o x hj ho hp hd=>ag.1 j o x hj ho (by show L.getD j false=true;rw[hL j (by omega)];exact hp) hd,
   fun x hn=>ag.2 x fun j o hj ho hp=>hn j o hj ho (by simpa using hj)⟩
  have:=h2.eq h1;subst this;have hsz:(listK ops.size k).size=ops.size:=by simp[listK]
  have eL:L=listK ops.size k:=by
   refine Array.ext (by rw[hs,hsz]) fun i h1 h2=>?_
   have e1:=hL i (by omega);have e2:=hlk i (by omega);have:=e1.trans e2.symm;simpa [h1,h2]using this
  have el:fuel=ops.size-k:=by
   rw[← hl];unfold left;have:(List.range ops.size).filter (fun i=> !L.getD i true)=(List.range ops.size).filter (fun i=>decide (k≤i)):=U6 fun i hi=>by
    have hi':=Q9.1 hi;have h3:i<L.size:=(by omega);have e1:=hL i hi';have e3:L.getD i true=L.getD i false:=(by simp[h3]);rw[e3,e1];by_cases hik:i<k
    ·have:¬k≤i:=by omega
     simp[hik,this]
    ·have:k≤i:=by omega
     simp[hik,this]
   rw[this];have cnt:∀n,k≤n→((List.range n).filter fun i=>decide (k≤i)).length=n-k:=by
    intro n;induction n with
    |zero=>intro h;simp
    |succ n ih=>
     intro h;rw[List.range_succ,List.filter_append,K7];by_cases hkn2:k≤n
     ·rw[ih hkn2];simp[hkn2];omega
     ·have hnil:(List.range n).filter (fun i=>decide (k≤i))=[]:=by
       rw[List.filter_eq_nil_iff];intro i hi;have:=Q9.1 hi;simp;omega
      rw[hnil];simp[hkn2];omega
   exact cnt _ hkn
  subst eL;subst el;exact hK n
 intro fuel;induction fuel with
 |zero=>
  intro n L s hs hl cl hlt hun0 ag;have hall:=eD hs hl;refine fin 0 n L s hs hl (fun j hj=>?_) ag;rw[hall j hj];have:=hlt j hj (hall j hj);simp[this]
 |succ fuel ih=>
  intro n L s hs hl cl hlt hun0 ag;by_cases hpre:∀j,j<k→L.getD j false=true
  ·refine fin (fuel+1) n L s hs hl (fun j hj=>?_) ag;by_cases hjk:j<k
   ·rw[hpre j hjk];simp[hjk]
   ·cases hlj:L.getD j false with
    |false=>simp[hjk]
    |true=>exact absurd (hlt j hj hlj) hjk
  ·have hne:Region.ready md ops L≠ []:=by
    have hex:∃i,i<k∧L.getD i false=false:=by
     refine Q4 fun hno=>hpre fun j hj=>?_
     cases hlj:L.getD j false with
     |true=>rfl
     |false=>exact absurd ⟨j,hj,hlj⟩ hno
    have hmin:∃i,i<k∧L.getD i false=false∧∀j,j<i→L.getD j false=true:=by
     obtain⟨i,hi,hl⟩:=hex;induction i using Nat.strongRecOn with
     |ind i ih=>
      by_cases hall:∀j,j<i→L.getD j false=true
      ·exact⟨i,hi,hl,hall⟩
      ·have:∃j,j<i∧L.getD j false=false:=Q4 fun hno=>hall fun j hj=>by
        cases hlj:L.getD j false with
        |true=>rfl
        |false=>exact absurd ⟨j,hj,hlj⟩ hno
       obtain⟨j,hj,hlj⟩:=this;exact ih j hj (by omega) hlj
    obtain⟨i,hi,hl,hall⟩:=hmin;have hin:i<ops.size:=(by omega);have h3:i<L.size:=(by omega);intro e;have:i∈Region.ready md ops L:=mem_ready.2 ⟨by simp[h3]at hl ⊢;exact hl,ops[i],O2 hin,fun e he hb=>hall _ (hless i _ (O2 hin) hi e he hb)⟩;rw[e]at this;cases this
   obtain⟨i,hi,hmem⟩:=bJ hne n;obtain⟨hun,o,ho,hrd⟩:=mem_ready.1 hmem;have hin:=(N6.1 ho).1;have h3:i<L.size:=(by omega);have hun':L.getD i false=false:=(by simp[h3]at hun ⊢;exact hun);have hrd':∀e∈o.after,Region.binds .any e=true→L.getD e.on false=true:=fun e he hb=>hrd e he (eC hb)
   by_cases hk:i<k
   ·rw[da md ops fuel n L hi];simp only[WPix,ho];rw[dJ];have ho2:(ops.toList.take k)[i]? =some o:=(by rw[R9,L7 hk];simpa using ho);rw[← bf (t:=Av.T V (ops.toList.take k) t0 i) (D.sees cl ag ho hk hkn hun' hrd')];refine hv i o ho2 (hun0 i hk hun') _ ?_;refine ih _ _ _ (by simpa using hs) (by have:=dK hs hin hun';omega) (cl.set ho hrd') (fun j hj hlj=>?_) (fun j hj hlj=>?_) (D.ag_put ag ho hk fun j hj=>?_)
    ·by_cases hji:i=j
     ·subst hji;exact hk
     ·rw[getD_set_ne false hji]at hlj;exact hlt j hj hlj
    ·by_cases hji:i=j
     ·subst hji;simp[h3]at hlj
     ·rw[getD_set_ne false hji]at hlj;exact hun0 j hj hlj
    ·by_cases hji:i=j
     ·subst hji;simp[h3]
     ·rw[getD_set_ne false hji];have:(j==i)=false:=by simp;exact fun e=>hji e.symm
      rw[this,Bool.or_false]
   ·exfalso;refine hpre fun j hj=>?_
    obtain⟨e,he,hb,h1⟩:=D.sfx j i o ho hj (by omega);have h2:=hrd' e he hb;rcases h1 with rfl| ⟨h4,h5,h6⟩
    ·exact h2
    ·have hoe:ops[e.on]? =some ops[e.on]:=O2 (by omega);exact D.bef cl e.on _ hoe h4 j h5 h6 fun e' he' hb'=>cl e.on _ hoe h2 e' he' hb'
theorem vE{id:Nat}{l:List Oper}{Q:Exit→Env→Heap→Prop}(k:Nat)(hok:(preOk l.toArray k&&decide (k≤l.length))=true)
  (hh:WPp C l.toArray (l.take k) t h fun t'=>Rest C l.toArray Q (l.length-k) (listK l.length k) t' h):WP C (.region id l.toArray true) Q t h:=by
 simp only[K5,K8]at hok;have D:=eU hok.1;obtain⟨V,hv,hK⟩:=bS _ _ hh;have hlen:(l.take k).length=k:=by simp[hok.2]
 rw[hlen]at hK;have main:∀md n,WPix C l.toArray Q (Region.linearise md l.toArray n) t h:=fun md n=>by
  unfold Region.linearise;refine dA D md (jX hok.1 md) (by simpa using hok.2) (V:=V) (t0:=t) (fun _=>True) (fun i o hi _=>hv i o hi) (fun n=>by have:=hK md n;simpa using this) _ _ _ _ (by simp) ?_ (fun j oj hj hl=>?_) (fun j hj hl=>?_) (fun _ _ _=>trivial) (Ag.start _ _ _ _ fun j hj=>?_)
  ·unfold left;have:(List.range l.toArray.size).filter (fun i=> !(Array.replicate l.toArray.size false).getD i true)=List.range l.toArray.size:=by
    rw[T7];intro i hi;have:=Q9.1 hi;have h8:i<(Array.replicate l.toArray.size false).size:=(by simpa using this);simp at this ⊢;simp[this]
   rw[this,X2]
  ·have h8:=(N6.1 hj).1;simp at h8 hl;simp[h8]at hl
  ·simp at hj hl;simp[hj]at hl
  ·have:j<l.length:=by omega
   simp[this]
 show ∀tp,WPix C l.toArray Q (Region.schedule (C.P.follows .mixedOrders) l.toArray tp) t h;intro tp;unfold Region.schedule;split
 ·exact main _ _
 ·exact main _ _
theorem gn(V V':Nat→AVal)(k:Nat)(hV:∀i,i<k→V' i=V i):∀(l l':List Oper) (t:Env) (i:Nat),i≤k→l.take k=l'.take k→i≤l.length→i≤l'.length→Av.T V' l t i=Av.T V l' t i:=by
 intro l l' t i;induction i with
 |zero=>intro _ _ _ _;rw[ip,ip]
 |succ i ih=>
  intro hi he h1 h2;have e1:l[i]? =some (l[i]'(by omega)):=K6 _;have e2:l'[i]? =some (l'[i]'(by omega)):=K6 _;have e3:l[i]? =l'[i]? :=by
   have:=N5 (fun q=>q[i]?) he;simpa only[R9,L7 (show i<k by omega)]using this
  rw[fm V' _ t i _ e1,fm V _ t i _ e2,ih (by omega) he (by omega) (by omega),hV i (by omega)];rw[e1,e2]at e3;rw[Option.some.inj e3]
theorem jY{ops:Array Oper}{Q:Exit→Env→Heap→Prop}{k:Nat}{c:Nat→Nat→Bool}(D:PreOk ops (k+1) c)(md:Region.Mode)(hless:∀(j:Nat) (oj:Oper),ops[j]? =some oj→j<k+1→∀e∈oj.after,Region.binds md e=true→e.on<j)(hkn:k+1≤ops.size){V:Nat→AVal}{t0:Env}{h:Heap}{oe:Oper}(hoe:ops[k]? =some oe)
  (hv:∀(i:Nat) (o:Oper),i<k→ops[i]? =some o→∀KK:AVal→Heap→Prop,KK (V i) h→wpOperV C ops o (Av.T V ops.toList t0 i) h KK)
  (he:wpOperV C ops oe (Av.T V ops.toList t0 k) h fun v h'=>(∀(i:Nat) (o:Oper),i<k→ops[i]? =some o→c i k=false→∀KK:AVal→Heap→Prop,KK (V i) h'→wpOperV C ops o (Av.T V ops.toList t0 i) h' KK)∧
   RestM C ops Q md (ops.size-(k+1)) (listK ops.size (k+1)) (put (Av.T V ops.toList t0 k) oe.dst v) h'):
  ∀(fuel n:Nat) (L:Array Bool) (s:Env),L.size=ops.size→left ops L=fuel→Closed ops L→(∀j,j<ops.size→L.getD j false=true→j<k)→Ag ops (k+1) V t0 (fun j=>L.getD j false) s→
   WPix C ops Q (Region.linearise.go md ops fuel n L []) s h:=by
 have hT:∀(V':Nat→AVal) (i:Nat),(∀j,j<k→V' j=V j)→i≤k→Av.T V' (ops.toList.take (k+1)) t0 i=Av.T V ops.toList t0 i:=fun V' i hV hi=>
  gn V V' k hV _ _ _ _ hi (by rw[za5];congr 1;omega) (by simp;omega) (by simp;omega)
 intro fuel;induction fuel with
 |zero=>
  intro n L s hs hl cl hlt ag;have:=eD hs hl k (by omega);have:=hlt k (by omega) this;omega
 |succ fuel ih=>
  intro n L s hs hl cl hlt ag;have hkun:L.getD k false=false:=by
   cases hq:L.getD k false with
   |false=>rfl
   |true=>have:=hlt k (by omega) hq;omega
  have hne:Region.ready md ops L≠ []:=by
   have hmin:∃i,i<k+1∧L.getD i false=false∧∀j,j<i→L.getD j false=true:=by
    have hex:∃i,i<k+1∧L.getD i false=false:=⟨k,by omega,hkun⟩
    obtain⟨i,hi,hl⟩:=hex;clear hl;have hex:∃i,i<k+1∧L.getD i false=false:=⟨k,by omega,hkun⟩
    obtain⟨i,hi,hl⟩:=hex;induction i using Nat.strongRecOn with
    |ind i ih=>
     by_cases hall:∀j,j<i→L.getD j false=true
     ·exact⟨i,hi,hl,hall⟩
     ·have:∃j,j<i∧L.getD j false=false:=Q4 fun hno=>hall fun j hj=>by
       cases hlj:L.getD j false with
       |true=>rfl
       |false=>exact absurd ⟨j,hj,hlj⟩ hno
      obtain⟨j,hj,hlj⟩:=this;exact ih j hj (by omega) hlj
   obtain⟨i,hi,hl,hall⟩:=hmin;have hin:i<ops.size:=(by omega);have h3:i<L.size:=(by omega);intro e;have:i∈Region.ready md ops L:=mem_ready.2 ⟨by simp[h3]at hl ⊢;exact hl,ops[i],O2 hin,fun e he hb=>hall _ (hless i _ (O2 hin) hi e he hb)⟩;rw[e]at this;cases this
  obtain⟨i,hi,hmem⟩:=bJ hne n;obtain⟨hun,o,ho,hrd⟩:=mem_ready.1 hmem;have hin:=(N6.1 ho).1;have h3:i<L.size:=by omega
  have hun':L.getD i false=false:=by simp[h3]at hun ⊢;exact hun
  have hrd':∀e∈o.after,Region.binds .any e=true→L.getD e.on false=true:=fun e he hb=>hrd e he (eC hb)
  have hik:i<k+1:=by
   refine Nat.lt_of_not_le fun hle=>?_
   obtain⟨e,he,hb,h1⟩:=D.sfx k i o ho (by omega) hle;have h2:=hrd' e he hb;have hkl:L.getD k false=true:=by
    rcases h1 with rfl| ⟨h4,h5,h6⟩
    ·exact h2
    ·have hoe:ops[e.on]? =some ops[e.on]:=O2 (by omega);exact D.bef cl e.on _ hoe h4 k h5 h6 fun e' he' hb'=>cl e.on _ hoe h2 e' he' hb'
   rw[hkun]at hkl;cases hkl
  rw[da md ops fuel n L hi];simp only[WPix,ho];rw[dJ];have hsees:=D.sees cl ag ho hik hkn hun' hrd';by_cases hk:i<k
  ·rw[hT V i (fun _ _=>rfl) (by omega)]at hsees;rw[← bf (t:=Av.T V ops.toList t0 i) hsees];refine hv i o hk ho _ ?_;refine ih _ _ _ (by simpa using hs) (by have:=dK hs hin hun';omega) (cl.set ho hrd') (fun j hj hlj=>?_) (D.ag_put ag ho hik fun j hj=>?_)
   ·by_cases hji:i=j
    ·subst hji;exact hk
    ·rw[getD_set_ne false hji]at hlj;exact hlt j hj hlj
   ·by_cases hji:i=j
    ·subst hji;simp[h3]
    ·rw[getD_set_ne false hji];have:(j==i)=false:=by simp;exact fun e=>hji e.symm
     rw[this,Bool.or_false]
  ·obtain rfl:i=k:=by omega
   rw[hoe]at ho;cases ho;rw[hT V i (fun _ _=>rfl) (M0 _)]at hsees;rw[← bf (t:=Av.T V ops.toList t0 i) hsees];refine bK he fun v h' ⟨hv2,hrest⟩=>?_
   have hV':∀j,j<i→(fun j=>if j=i then v else V j) j=V j:=fun j hj=>by simp only[];rw[K4 (by omega)]
   have ag':Ag ops (i+1) (fun j=>if j=i then v else V j) t0 (fun j=>L.getD j false) s:=by
    refine⟨fun j o x hj hoj hp hd=>?_,ag.2⟩;have hji:j≠i:=fun e=>by subst e;simp only[hun']at hp;cases hp
    simp only[K4 hji];exact ag.1 j o x hj hoj hp hd
   refine dA D md hless hkn (V:=fun j=>if j=i then v else V j) (t0:=t0) (h:=h') (fun j=>j<i∧c j i=false) (fun j o hj hok KK hkk=>?_) ?_ _ _ _ _ (by simpa using hs) (by have:=dK hs hin hun';omega) (cl.set hoe hrd') (fun j hj hlj=>?_) (fun j hj hlj=>?_) ?_
   ·have hoj:ops[j]? =some o:=by
     rw[R9,L7 (by omega)]at hj;simpa using hj
    rw[hT _ j hV' (by omega)];simp only[K4 (show ¬j=i by omega)]at hkk;exact hv2 j o hok.1 hoj hok.2 KK hkk
   ·have e1:(ops.toList.take (i+1))[i]? =some oe:=(by rw[R9,L7 (by omega)];simpa using hoe);rw[fm _ _ _ _ _ e1,hT _ i hV' (M0 _)];simpa using hrest
   ·by_cases hji:i=j
    ·omega
    ·rw[getD_set_ne false hji]at hlj;have:=hlt j hj hlj;omega
   ·have hji:i≠j:=fun e=>by subst e;simp[h3]at hlj
    rw[getD_set_ne false hji]at hlj;refine⟨by omega,?_⟩;cases hc:c j i with
    |false=>rfl
    |true=>
     have:=D.bef cl i oe hoe (by omega) j (by omega) hc hrd';rw[hlj]at this;cases this
   ·have:=D.ag_put ag' (p':=fun j=>(L.setIfInBounds i true).getD j false) hoe (by omega) fun j hj=>by
     by_cases hji:i=j
     ·subst hji;simp[h3]
     ·rw[getD_set_ne false hji];have:(j==i)=false:=by simp;exact fun e=>hji e.symm
      rw[this,Bool.or_false]
    simpa using this
theorem vF{id:Nat}{l:List Oper}{Q:Exit→Env→Heap→Prop}(k:Nat)(oe:Oper)(hoe:l[k]? =some oe)(hok:preOk l.toArray (k+1)=true)(V:Nat→AVal)
  (hv:∀(i:Nat) (o:Oper),i<k→l[i]? =some o→∀KK:AVal→Heap→Prop,KK (V i) h→wpOperV C l.toArray o (Av.T V l t i) h KK)
  (he:wpOperV C l.toArray oe (Av.T V l t k) h fun v h'=>(∀(i:Nat) (o:Oper),i<k→l[i]? =some o→((Region.before l.toArray).getD k 0).testBit i=false→∀KK:AVal→Heap→Prop,KK (V i) h'→wpOperV C l.toArray o (Av.T V l t i) h' KK)∧
   Rest C l.toArray Q (l.length-(k+1)) (listK l.length (k+1)) (put (Av.T V l t k) oe.dst v) h'):WP C (.region id l.toArray true) Q t h:=by
 have D:=eU hok;have hkl:=(f9.1 hoe).1;have main:∀md n,WPix C l.toArray Q (Region.linearise md l.toArray n) t h:=fun md n=>by
  unfold Region.linearise;refine jY D md (jX hok md) (by simp;omega) (V:=V) (t0:=t) (oe:=oe) (by simpa using hoe) (fun i o hi ho=>hv i o hi (by simpa using ho)) ?_ _ _ _ _ (by simp) ?_ (fun j oj hj hl=>?_) (fun j hj hl=>?_) (Ag.start _ _ _ _ fun j hj=>?_)
  ·refine bK he fun v h' ⟨h1,h2⟩=>⟨fun i o hi ho hc=>h1 i o hi (by simpa using ho) hc,fun n=>by have:=h2 md n;simpa using this⟩
  ·unfold left;have:(List.range l.toArray.size).filter (fun i=> !(Array.replicate l.toArray.size false).getD i true)=List.range l.toArray.size:=by
    rw[T7];intro i hi;have:=Q9.1 hi;have h8:i<(Array.replicate l.toArray.size false).size:=(by simpa using this);simp at this ⊢;simp[this]
   rw[this,X2]
  ·have h8:=(N6.1 hj).1;simp at h8 hl;simp[h8]at hl
  ·simp at hj hl;simp[hj]at hl
  ·have:j<l.length:=by omega
   simp[this]
 show ∀tp,WPix C l.toArray Q (Region.schedule (C.P.follows .mixedOrders) l.toArray tp) t h;intro tp;unfold Region.schedule;split
 ·exact main _ _
 ·exact main _ _
end
inductive Tr where
 |lf
 |nd (l:Tr) (v:AVal) (r:Tr)
namespace Tr
def get:Tr→Nat→AVal
 | .lf,_=>undefA
 | .nd _ v _,0=>v
 | .nd l _ r,i+1=>match i%2 with
  |0=>l.get (i/2)
  |_=>r.get (i/2)
def set:Tr→Nat→AVal→Tr
 | .lf,_,_=>.lf
 | .nd l _ r,0,x=>.nd l x r
 | .nd l v r,i+1,x=>match i%2 with
  |0=>.nd (l.set (i/2) x) v r
  |_=>.nd l v (r.set (i/2) x)
def mk:Nat→Tr
 |0=>.lf
 |d+1=>.nd (mk d) undefA (mk d)
def Full:Nat→Tr→Prop
 |0,_=>True
 |k+1,.nd l _ r=>Full k l∧Full k r
 |_+1,.lf=>False
theorem full_mk:∀k,Full k (mk k)
 |0=>trivial
 |k+1=>⟨full_mk k,full_mk k⟩
theorem full_set:∀(k:Nat) (t:Tr) (i:Nat) (x:AVal),Full k t→Full k (t.set i x)
 |0,_,_,_,_=>trivial
 |k+1,.nd l v r,0,x,h=>h
 |k+1,.nd l v r,i+1,x,h=>by
  simp only[set];split
  ·exact⟨full_set k l _ x h.1,h.2⟩
  ·exact⟨h.1,full_set k r _ x h.2⟩
theorem get_mk:∀(k i:Nat),(mk k).get i=undefA
 |0,i=>rfl
 |k+1,0=>rfl
 |k+1,i+1=>by
  simp only[mk,get];split<;>exact get_mk k _
theorem get_set:∀(k:Nat) (t:Tr) (i j:Nat) (x:AVal),Full k t→i+1<2^k→(t.set i x).get j=if j=i then x else t.get j
 |0,t,i,j,x,_,h=>by simp at h
 |k+1,.nd l v r,0,0,x,_,_=>rfl
 |k+1,.nd l v r,0,j+1,x,_,_=>rfl
 |k+1,.nd l v r,i+1,0,x,_,_=>by simp only[set];split<;>rfl
 |k+1,.nd l v r,i+1,j+1,x,hf,h=>by
  have hp:2^(k+1)=2*2^k:=by rw[Nat.pow_succ,Nat.mul_comm]
  rw[hp]at h;have hk:i/2+1<2^k:=by omega
  simp only[set];split
  ·rename_i hi;simp only[get];split
   ·rename_i hj;rw[get_set k l (i/2) (j/2) x hf.1 hk];by_cases e:j=i
    ·subst e;simp
    ·rw[K4 (by omega),K4 (by omega)]
   ·rename_i hj;rw[K4 (by intro e;have:j=i:=(by omega);subst this;exact hj hi)]
  ·rename_i hi;simp only[get];split
   ·rename_i hj;rw[K4 (by intro e;have:j=i:=(by omega);subst this;exact hi hj)]
   ·rename_i hj;have hi':i%2=1:=(Nat.mod_two_eq_zero_or_one i).resolve_left hi;have hj':j%2=1:=(Nat.mod_two_eq_zero_or_one j).resolve_left hj;rw[get_set k r (i/2) (j/2) x hf.2 hk];by_cases e:j=i
    ·subst e;simp
    ·rw[K4 (by omega),K4 (by omega)]
def beq:Tr→Tr→Bool
 | .lf,.lf=>true
 | .nd l v r,.nd l' v' r'=>beqA v v'&&(l.beq l'&&r.beq r')
 |_,_=>false
theorem beq_ok:∀(a b:Tr),beq a b=true→a=b
 | .lf,.lf,_=>rfl
 | .lf,.nd _ _ _,h=>by simp[beq]at h
 | .nd _ _ _,.lf,h=>by simp[beq]at h
 | .nd l v r,.nd l' v' r',h=>by
  simp only[beq,K5]at h;rw[db _ _ h.1,beq_ok l l' h.2.1,beq_ok r r' h.2.2]
end Tr
def envL(ts:Tr):Env:=ts.get
def putL(ts:Tr)(d:Option Nat)(v:AVal):Tr:=match d with|some d=>ts.set d v|none=>ts
def okDst(n:Nat)(o:Oper):Bool:=match o.dst with|some d=>decide (d<n)|none=>true
def kOf(n:Nat):Nat:=Nat.log2 (n+1)+1
def argsT:Tr→Nat→List AVal→Tr
 |t,_,[]=>t
 |t,i,x::l=>argsT (t.set i x) (i+1) l
theorem eF{k0:Nat}(ts:Tr)(d:Option Nat)(v:AVal)(h:Tr.Full k0 ts):Tr.Full k0 (putL ts d v):=by
 cases d
 ·exact h
 ·exact Tr.full_set _ _ _ _ h
theorem dN{k0 n:Nat}{ts:Tr}{d:Option Nat}{v:AVal}(hf:Tr.Full k0 ts)(hn:n+1<2^k0)(hd:∀i,d=some i→i<n):envL (putL ts d v)=put (envL ts) d v:=by
 cases d with
 |none=>rfl
 |some d=>
  have hlt:=hd d rfl
  funext i
  simp only[putL,put,envL,upd];exact Tr.get_set k0 ts d i v hf (by omega)
theorem jZ{k0:Nat}:∀(l:List AVal) (t:Tr) (i:Nat),Tr.Full k0 t→Tr.Full k0 (argsT t i l)
 | [],_,_,h=>h
 |x::l,t,i,h=>jZ l _ _ (Tr.full_set _ _ _ _ h)
theorem mg{k0:Nat}:∀(l:List AVal) (t:Tr) (i j:Nat),Tr.Full k0 t→i+l.length+1<2^k0→(argsT t i l).get j=if i≤j∧j<i+l.length then l.getD (j-i) undefA else t.get j
 | [],t,i,j,_,_=>by rw[K4 (by simp)];rfl
 |x::l,t,i,j,h,hn=>by
  simp only[L6]at hn ⊢;rw[argsT,mg l _ _ _ (Tr.full_set _ _ _ _ h) (by omega),Tr.get_set k0 t i j x h (by omega)];by_cases h1:j=i
  ·subst h1;rw[K4 (by omega),L7 rfl,L7 (by omega)];simp
  ·by_cases h2:i+1≤j∧j<i+1+l.length
   ·rw[L7 h2,L7 (by omega)];have:j-i=(j-(i+1))+1:=by omega
    rw[this];simp
   ·rw[K4 h2,K4 h1,K4 (by omega)]
section
variable (C:Ctx)
def callP(call:CallX)(g:FuncId)(args:List AVal)(h:Heap):Option AVal:=match call g args h with
 |some (r,h1)=>if begH h h1=true then frzX h1 h.length 20 r else none
 |none=>none
def heldX(call:CallX)(o:Op)(t:Env)(h:Heap):Option AVal:=match pureX C o t h with
 |some v=>some v
 |none=>match o with
  | .buildSlice T len parts=>match rowsX C T len (parts.toList.map (·.1)) (parts.toList.map fun q=>aev C.G t q.2) h with
   |some (.ez,_)=>some .ez
   |some (.hs _ _ _ _ _,_)=>match (elmT C.P T).bind (szOf C.P)with|some n=>some (.sl n (parts.toList.map fun q=>aev C.G t q.2))|none=>none
   |_=>none
  | .call c=>match c.callee with
   | .value f=>match aev C.G t f with
    | .fn (.func g) first captured=>callP call g (first++c.args.toList.map (aev C.G t)++captured) h
    |_=>none
   |_=>none
  |_=>none
def isHeldB:Op→Bool
 | .buildSlice _ _ _=>true
 | .move _| .assign _| .pick _ _ _| .load _ _| .nilCheck _| .binOp _ _ _ _ _| .unOp _ _ _| .convert _ _ _| .makeInterface _ _| .makeFunc _ _ _| .slice _ _ _ _ _
 | .fieldAddr _ _ _| .field _ _ _| .indexAddr _ _ _| .index _ _ _| .extract _ _| .build _ _=>true
 | .call c=>match c.callee with| .builtin .len=>true| .builtin .max=>true| .builtin .min=>true| .builtin .unsafeSliceData=>true| .value _=>true|_=>false
 |_=>false
def drawK(l:List Oper):List Nat:=match (List.range (l.length+1)).reverse.filter (fun k=>(l.take k).all (fun o=>isHeldB o.op)&&(preOk l.toArray k&&decide (k≤l.length)))with
 | []=>[]
 |m::rest=>(m::rest).filter fun k=>decide (m≤k+2)
theorem tG{l:List Oper}{k:Nat}(h:k∈drawK l):((l.take k).all (fun o=>isHeldB o.op)&&(preOk l.toArray k&&decide (k≤l.length)))=true:=by
 unfold drawK at h;split at h
 ·cases h
 ·rename_i m rest hq;have h1:=(T9.1 h).1;rw[← hq]at h1;exact(T9.1 h1).2
def drawE(l:List Oper):Option (Nat×Oper):=match drawK l with
 |_::_=>let k:=(l.takeWhile fun o=>isHeldB o.op).length
  match l[k]? with
  |some oe=>if preOk l.toArray (k+1)=true then some (k,oe)else none
  |none=>none
 | []=>none
def operX(call:CallX)(ops:Array Oper)(o:Oper)(ts:Tr)(h:Heap):Option (Tr×Heap):=
 match o.guard with
 |none=>match opX C call o.op (envL ts) h with|some (v,h')=>some (putL ts o.dst v,h')|none=>none
 |some (j,want)=>match guardA ops (envL ts) j with
  |some b=>if b=some want then(match opX C call o.op (envL ts) h with|some (v,h')=>some (putL ts o.dst v,h')|none=>none)else some (putL ts o.dst undefA,h)
  |none=>none
def operPX(call:CallX)(ops:Array Oper)(o:Oper)(ts:Tr)(h:Heap):Option AVal:=
 match o.guard with
 |none=>heldX C call o.op (envL ts) h
 |some (j,want)=>match guardA ops (envL ts) j with
  |some b=>if b=some want then heldX C call o.op (envL ts) h else some undefA
  |none=>none
def lX(call:CallX)(ops:Array Oper):List Oper→Tr→Heap→Option (Tr×Heap)
 | [],ts,h=>some (ts,h)
 |o::rest,ts,h=>match operX C call ops o ts h with|some (ts',h')=>lX call ops rest ts' h'|none=>none
def sameTH(x y:Tr×Heap):Bool:=Tr.beq x.1 y.1&&(decide (x.2.length=y.2.length)&&begH x.2 y.2)
def dedup:List (Tr×Heap)→List (Tr×Heap)
 | []=>[]
 |x::l=>if l.any (sameTH x)=true then dedup l else x::dedup l
def bindO{α β:Type}(f:α→Option (List β)):List α→Option (List β)
 | []=>some []
 |x::l=>match f x with
  |some ys=>match bindO f l with|some zs=>some (ys++zs)|none=>none
  |none=>none
def sufX(call:CallX)(ops:Array Oper):Nat→Array Bool→Tr→Heap→Option (List (Tr×Heap))
 |0,_,ts,h=>some [(ts,h)]
 |f+1,L,ts,h=>if (Region.ready .text ops L).isEmpty=false∧(Region.ready .gc ops L).isEmpty=false then
   match bindO (fun i=>match ops[i]? with
    |some o=>match operX C call ops o ts h with|some (ts',h')=>sufX call ops f (L.setIfInBounds i true) ts' h'|none=>none
    |none=>none) (Region.ready .any ops L)with
   |some rs=>some rs
   |none=>none
  else none
def pX(call:CallX)(ops:Array Oper):List Oper→Tr→Heap→Option Tr
 | [],ts,_=>some ts
 |o::rest,ts,h=>match operPX C call ops o ts h with|some v=>pX call ops rest (putL ts o.dst v) h|none=>none
def pXt(call:CallX)(ops:Array Oper):List Oper→Tr→Heap→Option (List (Tr×AVal)×Tr)
 | [],ts,_=>some ([],ts)
 |o::rest,ts,h=>match operPX C call ops o ts h with
  |some v=>match pXt call ops rest (putL ts o.dst v) h with
   |some (l,ts')=>some ((ts,v)::l,ts')
   |none=>none
  |none=>none
def sameX(call:CallX)(ops:Array Oper)(cb:Nat→Bool)(h':Heap):Nat→List Oper→List (Tr×AVal)→Bool
 |_,[],[]=>true
 |i,o::rest,(ts,v)::l=>(cb i||(match operPX C call ops o ts h' with|some v'=>beqA v' v|none=>false))&&sameX call ops cb h' (i+1) rest l
 |_,_,_=>false
def drawX3(call:CallX)(l:List Oper)(ts:Tr)(h:Heap):Option (List (Tr×Heap)):=match drawE l with
 |some (k,oe)=>match pXt C call ⟨l⟩ (l.take k) ts h with
  |some (vs,ts1)=>match operX C call ⟨l⟩ oe ts1 h with
   |some (ts2,h')=>if sameX C call ⟨l⟩ (fun i=>((Region.before l.toArray).getD k 0).testBit i) h' 0 (l.take k) vs=true then
     sufX C call ⟨l⟩ (l.length-(k+1)) (listK l.length (k+1)) ts2 h' else none
   |none=>none
  |none=>none
 |none=>none
abbrev Outs:=List (Exit×Tr×Heap)
def iterX(body:Tr→Heap→Option Outs):Nat→Tr→Heap→Option Outs
 |0,_,_=>none
 |n+1,ts,h=>match body ts h with
  |some rs=>bindO (fun r=>match r with
   | (.normal,ts',h')=>iterX body n ts' h'
   |r=>some [r]) rs
  |none=>none
def codeX(call:CallX)(lf:Nat):Code→Tr→Heap→Option Outs
 | .skip,ts,h=>some [(.normal,ts,h)]
 | .label _,ts,h=>some [(.normal,ts,h)]
 | .exit id,ts,h=>some [(.exit id,ts,h)]
 | .ret,ts,h=>some [(.ret,ts,h)]
 | .region _ ⟨l⟩ false,ts,h=>match lX C call ⟨l⟩ l ts h with|some (ts',h')=>some [(.normal,ts',h')]|none=>none
 | .region _ ⟨l⟩ true,ts,h=>match drawX3 C call l ts h with
  |some rs=>some ((dedup rs).map fun q=>(.normal,q.1,q.2))
  |none=>match (drawK l).findSome? (fun k=>match pX C call ⟨l⟩ (l.take k) ts h with
   |some ts1=>sufX C call ⟨l⟩ (l.length-k) (listK l.length k) ts1 h
   |none=>none)with
   |some rs=>some ((dedup rs).map fun q=>(.normal,q.1,q.2))
   |none=>none
 | .seq a b,ts,h=>match codeX call lf a ts h with
  |some rs=>bindO (fun r=>match r with
   | (.normal,ts',h')=>codeX call lf b ts' h'
   |r=>some [r]) rs
  |none=>none
 | .cond c a b,ts,h=>match aev C.G (envL ts) c with
  | .bool true=>codeX call lf a ts h
  | .bool false=>codeX call lf b ts h
  |_=>none
 | .block id c,ts,h=>match codeX call lf c ts h with
  |some rs=>some (rs.map fun r=>match r with
   | (.exit id',ts',h')=>if id'=id then(.normal,ts',h')else(.exit id',ts',h')
   |r=>r)
  |none=>none
 | .scope c,ts,h=>match codeX call lf c ts h with
  |some rs=>bindO (fun r=>match r with
   | (.goto _,_,_)=>none
   |r=>some [r]) rs
  |none=>none
 | .loop c,ts,h=>iterX (fun ts h=>codeX call lf c ts h) lf ts h
 |_,_,_=>none
def endX(fn:Func)(r:Exit×Tr×Heap):Option (AVal×Heap):=match r with
 | (.normal,ts,h')=>match resA C (envL ts) h' fn.results.toList with|some r=>some (r,h')|none=>none
 | (.ret,ts,h')=>match resA C (envL ts) h' fn.results.toList with|some r=>some (r,h')|none=>none
 |_=>none
def mergeH:Heap→Heap→Option Heap
 | [],[]=>some []
 |a::l,b::m=>match mergeH l m with
  |some q=>some ((if beqB a b=true then a else .dead)::q)
  |none=>none
 |_,_=>none
def mergeAH(x y:AVal×Heap):Option (AVal×Heap):=if beqA x.1 y.1=true then(match mergeH x.2 y.2 with|some q=>some (x.1,q)|none=>none)else none
def allX(fn:Func):Outs→Option (AVal×Heap)
 | []=>none
 | [r]=>endX C fn r
 |r::rest=>match endX C fn r,allX fn rest with
  |some x,some y=>mergeAH x y
  |_,_=>none
def callX(orc:FuncId→List AVal→Option AVal)(lf:Nat):Nat→CallX
 |0,_,_,_=>none
 |n+1,f,args,h=>match orc f args with
  |some r=>some (r,h)
  |none=>match C.P.funcs[f]? with
   |none=>none
   |some fn=>match fn.body with
    |none=>none
    |some c=>if (fn.name== "runtime.NumGoroutine")=false∧okCode fn.ntmps c=true∧fn.results.toList.all (okRes fn.ntmps)=true∧args.length≤fn.ntmps∧fn.ntmps+1<2^kOf fn.ntmps then
      match codeX C (callX orc lf n) lf c (argsT (Tr.mk (kOf fn.ntmps)) 0 args) h with
      |some rs=>allX C fn rs
      |none=>none
     else none
variable {C} {h h':Heap} {call:CallX} {k0:Nat}
def CallOk(C:Ctx)(call:CallX):Prop:=∀f args h r h',call f args h=some (r,h')→Sat C f args h fun r2 h2=>r2=r∧h2=h'
theorem dQ(hcall:CallOk C call){ops:Array Oper}{o:Oper}{n:Nat}(hn:n+1<2^k0){ts ts':Tr}(hF:Tr.Full k0 ts)(ho:okDst n o=true)(g:operX C call ops o ts h=some (ts',h')){K:Env→Heap→Prop}(hk:K (envL ts') h'):
  wpOper C ops o (envL ts) h K∧Tr.Full k0 ts':=by
 have hd:∀i,o.dst=some i→i<n:=fun i e=>by simpa [okDst,e]using ho
 unfold operX at g;unfold wpOper;split at g
 ·rename_i hg;rw[hg];simp only[];split at g
  ·rename_i e;cases g;exact⟨jW hcall e (by rw[← dN hF hn hd];exact hk),eF _ _ _ hF⟩
  ·cases g
 ·rename_i hg;rw[hg];simp only[];split at g
  ·rename_i hq;rw[hq];simp only[];split at g
   ·rename_i hb;split at g
    ·rename_i e;cases g;exact⟨⟨fun _=>jW hcall e (by rw[← dN hF hn hd];exact hk),fun hn=>absurd hb hn⟩,eF _ _ _ hF⟩
    ·cases g
   ·rename_i hb;cases g;exact⟨⟨fun hn=>absurd hn hb,fun _=>by rw[← dN hF hn hd];exact hk⟩,eF _ _ _ hF⟩
  ·cases g
theorem xi(hcall:CallOk C call){n:Nat}(hn:n+1<2^k0){ops:Array Oper}{Q:Exit→Env→Heap→Prop}:∀(l:List Oper) {ts ts':Tr} {h h':Heap},Tr.Full k0 ts→(∀o∈l,okDst n o=true)→lX C call ops l ts h=some (ts',h')→Q .normal (envL ts') h'→
  WPl C ops Q l (envL ts) h∧Tr.Full k0 ts'
 | [],ts,ts',h,h',hF,_,g,hq=>by
  simp only[lX,N2,Prod.mk.injEq]at g;obtain⟨rfl,rfl⟩:=g;exact⟨hq,hF⟩
 |o::rest,ts,ts',h,h',hF,ho,g,hq=>by
  unfold lX at g;split at g
  ·rename_i ts1 h1 e;have hF1:=(dQ hcall hn hF (ho o (by simp)) e (K:=fun _ _=>True) trivial).2;have ih:=xi hcall hn (ops:=ops) (Q:=Q) rest hF1 (fun o hm=>ho o (by simp[hm])) g hq;unfold WPl;exact⟨(dQ hcall hn hF (ho o (by simp)) e ih.1).1,ih.2⟩
  ·cases g
theorem tH{x y:Tr×Heap}(h:sameTH x y=true):x=y:=by
 simp only[sameTH,K5,K8]at h;obtain⟨h1,h2,h3⟩:=h;have e:=ld h3;rw[h2,Y3]at e;exact Prod.ext (Tr.beq_ok _ _ h1) e.symm
theorem fK:∀{l:List (Tr×Heap)},∀x∈l,x∈dedup l
 | [],x,h=>by cases h
 |a::l,x,h=>by
  simp only[dedup];rcases N0.1 h with rfl|h
  ·split
   ·rename_i hs;obtain⟨y,hy,e⟩:=Y4.1 hs;rw[tH e];exact fK y hy
   ·simp
  ·have:=fK (l:=l) x h;split
   ·exact this
   ·simp[this]
theorem fL:∀{l:List (Tr×Heap)},∀x∈dedup l,x∈l
 | [],x,h=>by cases h
 |a::l,x,h=>by
  simp only[dedup]at h;split at h
  ·exact Q1 _ (fL x h)
  ·rcases N0.1 h with rfl|h
   ·simp
   ·exact Q1 _ (fL x h)
theorem dR{α β:Type}{f:α→Option (List β)}:∀{l:List α} {m:List β},bindO f l=some m→(∀x∈l,∃ys,f x=some ys∧∀y∈ys,y∈m)∧∀y∈m,∃x∈l,∃ys,f x=some ys∧y∈ys
 | [],m,h=>by simp only[bindO,N2]at h;subst h;exact⟨fun x hx=>(by cases hx),fun y hy=>(by cases hy)⟩
 |a::l,m,h=>by
  simp only[bindO]at h;split at h
  ·rename_i ys hy;split at h
   ·rename_i zs hz;cases h;obtain⟨h1,h2⟩:=dR hz;refine⟨fun x hx=>?_,fun y hm=>?_⟩
    ·rcases N0.1 hx with rfl|hx
     ·exact⟨ys,hy,fun y h=>List.mem_append_left _ h⟩
     ·obtain⟨q,k1,k2⟩:=h1 x hx;exact⟨q,k1,fun y h=>List.mem_append_right _ (k2 y h)⟩
    ·rcases R4.1 hm with hm|hm
     ·exact⟨a,by simp,ys,hy,hm⟩
     ·obtain⟨x,k1,q,k2,k3⟩:=h2 y hm;exact⟨x,by simp[k1],q,k2,k3⟩
   ·cases h
  ·cases h
theorem qk(hcall:CallOk C call){n:Nat}(hn:n+1<2^k0){ops:Array Oper}{Q:Exit→Env→Heap→Prop}(ho:∀o∈ops.toList,okDst n o=true):∀(f:Nat) {L:Array Bool} {ts:Tr} {h:Heap} {rs:List (Tr×Heap)},Tr.Full k0 ts→sufX C call ops f L ts h=some rs→
  (∀r∈rs,Q .normal (envL r.1) r.2)→Rest C ops Q f L (envL ts) h∧(∀r∈rs,Tr.Full k0 r.1):=by
 intro f;induction f with
 |zero=>
  intro L ts h rs hF g hq;simp only[sufX,N2]at g;subst g;exact⟨Rest.nil (hq (ts,h) (by simp)),fun r hr=>by simp at hr;rw[hr];exact hF⟩
 |succ f ih=>
  intro L ts h rs hF g hq;simp only[sufX]at g;split at g
  ·rename_i hr;split at g
   ·rename_i rs1 hm;cases g;obtain⟨b1,b2⟩:=dR hm;have hmem:∀(i:Nat) (o:Oper),ops[i]? =some o→o∈ops.toList:=fun i o e=>by simpa using V5 e
    have at_:∀i,∀ys,(match ops[i]? with
      |some o=>match operX C call ops o ts h with|some (ts',h')=>sufX C call ops f (L.setIfInBounds i true) ts' h'|none=>none
      |none=>none)=some ys→∃o ts1 h1,ops[i]? =some o∧operX C call ops o ts h=some (ts1,h1)∧sufX C call ops f (L.setIfInBounds i true) ts1 h1=some ys:=fun i ys e=>by
     split at e
     ·rename_i o hoi;split at e
      ·rename_i ts1 h1 e1;exact⟨o,ts1,h1,hoi,e1,e⟩
      ·cases e
     ·cases e
    have hany:Region.ready .any ops L≠ []:=fun e=>by
     have h1:=hr.1;cases hx:Region.ready .text ops L with
     |nil=>rw[hx]at h1;simp at h1
     |cons i l=>
      have:i∈Region.ready .any ops L:=mf (md:=.text) (by rw[hx];simp);rw[e]at this;cases this
    refine⟨Rest.step (fun e=>by rw[e]at hr;simp at hr) (fun e=>by rw[e]at hr;simp at hr) hany fun i hi o hoi=>?_,fun r hr=>?_⟩
    ·obtain⟨ys,hys,hsub⟩:=b1 i hi;obtain⟨o',ts1,h1,e1,e2,e3⟩:=at_ i ys hys;rw[hoi]at e1;cases e1;have hF1:=(dQ hcall hn hF (ho o (hmem i o hoi)) e2 (K:=fun _ _=>True) trivial).2;exact(dQ hcall hn hF (ho o (hmem i o hoi)) e2 (ih hF1 e3 (fun r hr=>hq r (hsub r hr))).1).1
    ·obtain⟨i,hi,ys,hys,hry⟩:=b2 r hr;obtain⟨o',ts1,h1,e1,e2,e3⟩:=at_ i ys hys;have hF1:=(dQ hcall hn hF (ho o' (hmem i o' e1)) e2 (K:=fun _ _=>True) trivial).2;obtain⟨ys',hys',hsub⟩:=b1 i hi;rw[hys]at hys';cases hys';exact(ih hF1 e3 (fun r hr=>hq r (hsub r hr))).2 r hry
   ·cases g
  ·cases g
theorem vG(hcall:CallOk C call){g:FuncId}{args:List AVal}{v:AVal}(e:callP call g args h=some v):Sat C g args h fun r2 h2=>r2=v∧h2=h:=by
 unfold callP at e;split at e
 ·rename_i hc;split at e
  ·rename_i hb;exact(hcall _ _ _ _ _ hc).letgo (ld hb) (lg _ _ _ _ _ e)
  ·cases e
 ·cases e
theorem gO(hcall:CallOk C call){o:Op}{t:Env}{v:AVal}(e:heldX C call o t h=some v){K:AVal→Heap→Prop}(hk:K v h):wpOp C o t h K:=by
 unfold heldX at e;split at e
 ·rename_i hp;cases e;exact nH hp hk
 ·split at e
  ·rename_i T len parts _;unfold wpOp;simp only[];unfold rowsX at e;cases he:elmT C.P T with
   |none=>rw[he]at e;cases e
   |some el=>
    rw[he]at e;simp only[]at e;refine ar rfl ?_;cases hn:szOf C.P el with
    |none=>rw[hn]at e;cases e
    |some n=>
     rw[hn]at e;simp only[]at e;refine ar rfl ?_;by_cases h0:len=0
     ·rw[L7 h0]at e ⊢;by_cases hp:(parts.toList.map (·.1)).length=0
      ·rw[L7 hp]at e;simp only[N2]at e;subst e;exact⟨by simpa using hp,hk⟩
      ·rw[K4 hp]at e;cases e
     ·rw[K4 h0]at e ⊢;split at e
      ·rename_i hh;split at hh
       ·cases hh
       ·cases hh
      ·rename_i hh;split at hh
       ·rename_i hs;obtain⟨s1,s2,s3,s4,s5,s6⟩:=hs;simp only[Option.bind_some,hn,N2]at e;subst e;refine⟨by simpa using s1,by omega,s2,s3,s4,s5,fun x hx=>?_,.inr hk⟩;simpa using O4.1 s6 x hx
       ·cases hh
      ·cases e
  ·rename_i c _;split at e
   ·rename_i hc;split at e
    ·rename_i hf;unfold wpOp;simp only[];unfold wpCall;rw[hc];show callK _ _ _ _ _;rw[hf];exact(vG hcall e).mono fun r2 h2 ⟨e1,e2⟩=>by rw[e1,e2];exact hk
    ·cases e
   ·cases e
  ·cases e
theorem rD(hcall:CallOk C call){n:Nat}(hn:n+1<2^k0){ops:Array Oper}{K:Env→Prop}:∀(l:List Oper) {ts ts':Tr} {h:Heap},Tr.Full k0 ts→(∀o∈l,okDst n o=true)→pX C call ops l ts h=some ts'→K (envL ts')→
  WPp C ops l (envL ts) h K∧Tr.Full k0 ts'
 | [],ts,ts',h,hF,_,g,hq=>by
  simp only[pX,N2]at g;subst g;exact⟨hq,hF⟩
 |o::rest,ts,ts',h,hF,ho,g,hq=>by
  have hd:∀i,o.dst=some i→i<n:=fun i e=>by have:=ho o (by simp);simpa [okDst,e]using this
  unfold pX at g;split at g
  ·rename_i v e;have ih:=rD hcall hn (ops:=ops) (K:=K) rest (ts:=putL ts o.dst v) (eF _ _ _ hF) (fun o hm=>ho o (by simp[hm])) g hq;rw[dN hF hn hd]at ih;refine⟨⟨v,fun KK hkk=>?_,ih.1⟩,ih.2⟩;unfold operPX at e;unfold wpOperV;split at e
   ·rename_i hg;rw[hg];simp only[];exact gO hcall e hkk
   ·rename_i hg;rw[hg];simp only[];split at e
    ·rename_i hq;rw[hq];simp only[];split at e
     ·rename_i hb;exact⟨fun _=>gO hcall e hkk,fun hn=>absurd hb hn⟩
     ·rename_i hb;cases e;exact⟨fun hn=>absurd hn hb,fun _=>hkk⟩
    ·cases e
  ·cases g
theorem tI(hcall:CallOk C call){n:Nat}(hn:n+1<2^k0){ops:Array Oper}{cb:Nat→Bool}:∀(l:List Oper) {ts ts':Tr} {h:Heap} {vs:List (Tr×AVal)},Tr.Full k0 ts→(∀o∈l,okDst n o=true)→pXt C call ops l ts h=some (vs,ts')→
  ∃V:Nat→AVal,(∀(i:Nat) (o:Oper),l[i]? =some o→∀KK:AVal→Heap→Prop,KK (V i) h→wpOperV C ops o (Av.T V l (envL ts) i) h KK)∧Av.T V l (envL ts) l.length=envL ts'∧Tr.Full k0 ts'∧
   ∀(s:Nat) (h':Heap),sameX C call ops cb h' s l vs=true→∀(i:Nat) (o:Oper),l[i]? =some o→cb (s+i)=false→∀KK:AVal→Heap→Prop,KK (V i) h'→wpOperV C ops o (Av.T V l (envL ts) i) h' KK
 | [],ts,ts',h,vs,hF,_,g=>by
  simp only[pXt,N2,Prod.mk.injEq]at g;obtain⟨rfl,rfl⟩:=g;exact⟨fun _=>undefA,fun i o hi=>by simp at hi,rfl,hF,fun s h' _ i o hi=>by simp at hi⟩
 |o::rest,ts,ts',h,vs,hF,ho,g=>by
  have hd:∀i,o.dst=some i→i<n:=fun i e=>by have:=ho o (by simp);simpa [okDst,e]using this
  have one:∀(h:Heap) (v:AVal),operPX C call ops o ts h=some v→∀KK:AVal→Heap→Prop,KK v h→wpOperV C ops o (envL ts) h KK:=fun h v e KK hkk=>by
   unfold operPX at e;unfold wpOperV;split at e
   ·rename_i hg;rw[hg];simp only[];exact gO hcall e hkk
   ·rename_i hg;rw[hg];simp only[];split at e
    ·rename_i hq;rw[hq];simp only[];split at e
     ·rename_i hb;exact⟨fun _=>gO hcall e hkk,fun hn=>absurd hb hn⟩
     ·rename_i hb;cases e;exact⟨fun hn=>absurd hn hb,fun _=>hkk⟩
    ·cases e
  simp only[pXt]at g;split at g
  ·rename_i v e;split at g
   ·rename_i l1 ts1 e1;cases g;obtain⟨V,h1,h2,h3,h4⟩:=tI hcall hn (ops:=ops) (cb:=cb) rest (ts:=putL ts o.dst v) (eF _ _ _ hF) (fun o hm=>ho o (by simp[hm])) e1;rw[dN hF hn hd]at h1 h2 h4;refine⟨fun i=>match i with|0=>v|i+1=>V i,fun i o' hi=>?_,?_,h3,fun s h' hs i o' hi hc=>?_⟩
    ·cases i with
     |zero=>simp at hi;subst hi;exact one h v e
     |succ i=>exact h1 i o' (by simpa using hi)
    ·exact h2
    ·simp only[sameX,K5,P8]at hs;cases i with
     |zero=>
      simp at hi;subst hi;rcases hs.1 with h5|h5
      ·rw[U9]at hc;rw[hc]at h5;cases h5
      ·split at h5
       ·rename_i v' e';rw[db _ _ h5]at e';exact one h' v e'
       ·cases h5
     |succ i=>exact h4 (s+1) h' hs.2 i o' (by simpa using hi) (by rw[show s+1+i=s+(i+1) by omega];exact hc)
   ·cases g
  ·cases g
theorem vH{n:Nat}{o:Oper}(h:okOper n o=true):okDst n o=true:=by
 unfold okOper at h;simp only[K5]at h;exact h.2
theorem vI(hcall:CallOk C call)(lf:Nat){n:Nat}(hn:n+1<2^k0):∀(c:Code) {ts:Tr} {h:Heap} {rs:Outs} {Q:Exit→Env→Heap→Prop},Tr.Full k0 ts→okCode n c=true→codeX C call lf c ts h=some rs→(∀r∈rs,Q r.1 (envL r.2.1) r.2.2)→
  WP C c Q (envL ts) h∧∀r∈rs,Tr.Full k0 r.2.1:=by
 intro c;induction c with
 |skip=>intro ts h rs Q hF _ g hq;simp only[codeX,N2]at g;subst g;exact⟨hq (_,ts,h) (by simp),fun r hr=>by simp at hr;rw[hr];exact hF⟩
 |label l=>intro ts h rs Q hF _ g hq;simp only[codeX,N2]at g;subst g;exact⟨hq (_,ts,h) (by simp),fun r hr=>by simp at hr;rw[hr];exact hF⟩
 |exit id=>intro ts h rs Q hF _ g hq;simp only[codeX,N2]at g;subst g;exact⟨hq (_,ts,h) (by simp),fun r hr=>by simp at hr;rw[hr];exact hF⟩
 |ret=>intro ts h rs Q hF _ g hq;simp only[codeX,N2]at g;subst g;exact⟨hq (_,ts,h) (by simp),fun r hr=>by simp at hr;rw[hr];exact hF⟩
 |region id ops draw=>
  obtain⟨l⟩:=ops;intro ts h rs Q hF hok g hq;have hall:∀o∈l,okDst n o=true:=fun o ho=>by
   simp only[okCode,O4]at hok;exact vH (hok o ho)
  cases draw with
  |false=>
   simp only[codeX]at g;split at g
   ·rename_i ts' h' e1;cases g;have:=xi hcall hn l hF hall e1 (Q:=Q) (hq (_,ts',h') (by simp));exact⟨this.1,fun r hr=>by simp at hr;rw[hr];exact this.2⟩
   ·cases g
  |true=>
   simp only[codeX]at g;split at g
   ·rename_i rs1 hd;cases g;unfold drawX3 at hd;split at hd
    ·rename_i k oe hde;have hdr:l[k]? =some oe∧preOk l.toArray (k+1)=true:=by
      unfold drawE at hde;split at hde
      ·simp only[]at hde;split at hde
       ·rename_i hoe;split at hde
        ·rename_i hp;cases hde;exact⟨hoe,hp⟩
        ·cases hde
       ·cases hde
      ·cases hde
     have hkl:=(f9.1 hdr.1).1;split at hd
     ·rename_i vs ts1 e1;split at hd
      ·rename_i ts2 h2 e2;split at hd
       ·rename_i hsame;obtain⟨V,v1,v2,v3,v4⟩:=tI hcall hn (cb:=fun i=>((Region.before l.toArray).getD k 0).testBit i) (l.take k) hF (fun o ho=>hall o (V7 ho)) e1;have hlen:(l.take k).length=k:=(by simp;omega);have hTT:∀i,i≤k→Av.T V (l.take k) (envL ts) i=Av.T V l (envL ts) i:=fun i hi=>gn V V k (fun _ _=>rfl) _ _ _ _ hi (by rw[za5];congr 1;omega) (by rw[hlen];exact hi) (by omega)
        have hget:∀(i:Nat) (o:Oper),i<k→l[i]? =some o→(l.take k)[i]? =some o:=fun i o hi ho=>by rw[R9,L7 hi];exact ho
        have hoe:=hall oe (M3 hdr.1);have hF2:=(dQ hcall hn v3 hoe e2 (K:=fun _ _=>True) trivial).2;have hsx:=qk hcall hn (ops:=⟨l⟩) (fun o ho=>hall o ho) (l.length-(k+1)) hF2 hd (Q:=Q) (fun r hr=>hq (.normal,r.1,r.2) (M7.2 ⟨r,fK r hr,rfl⟩));rw[hlen]at v2;rw[hTT k (M0 _)]at v2;refine⟨vF k oe hdr.1 hdr.2 V (fun i o hi ho=>?_) ?_,fun r hr=>?_⟩
        ·rw[← hTT i (by omega)];exact v1 i o (hget i o hi ho)
        ·rw[v2];have hd':∀i,oe.dst=some i→i<n:=fun i e=>by simpa [okDst,e]using hoe
         unfold operX at e2;unfold wpOperV;have post:∀v,ts2=putL ts1 oe.dst v→(∀(i:Nat) (o:Oper),i<k→l[i]? =some o→((Region.before l.toArray).getD k 0).testBit i=false→∀KK:AVal→Heap→Prop,KK (V i) h2→wpOperV C l.toArray o (Av.T V l (envL ts) i) h2 KK)∧
           Rest C l.toArray Q (l.length-(k+1)) (listK l.length (k+1)) (put (envL ts1) oe.dst v) h2:=fun v ev=>by
          refine⟨fun i o hi ho hc=>?_,?_⟩
          ·rw[← hTT i (by omega)];exact v4 0 h2 hsame i o (hget i o hi ho) (by simpa using hc)
          ·rw[← dN v3 hn hd', ← ev];exact hsx.1
         split at e2
         ·rename_i hg;rw[hg];simp only[];split at e2
          ·rename_i e3;cases e2;exact jW hcall e3 (post _ rfl)
          ·cases e2
         ·rename_i hg;rw[hg];simp only[];split at e2
          ·rename_i hqq;rw[hqq];simp only[];split at e2
           ·rename_i hb;split at e2
            ·rename_i e3;cases e2;exact⟨fun _=>jW hcall e3 (post _ rfl),fun hn=>absurd hb hn⟩
            ·cases e2
           ·rename_i hb;cases e2;exact⟨fun hn=>absurd hn hb,fun _=>post _ rfl⟩
          ·cases e2
        ·obtain⟨q,hq1,rfl⟩:=M7.1 hr;exact hsx.2 q (fL q hq1)
       ·cases hd
      ·cases hd
     ·cases hd
    ·cases hd
   ·split at g
    ·rename_i rs1 hd;cases g;obtain⟨k,hk,e⟩:=List.exists_of_findSome?_eq_some hd;have hk:=tG hk;simp only[K5]at hk;split at e
     ·rename_i ts1 e1;have hF1:=(rD hcall hn (K:=fun _=>True) (ops:=⟨l⟩) (C:=C) (l.take k) hF (fun o ho=>hall o (V7 ho)) e1 trivial).2;have h2:=qk hcall hn (ops:=⟨l⟩) (fun o ho=>hall o ho) (l.length-k) hF1 e (Q:=Q) (fun r hr=>hq (.normal,r.1,r.2) (M7.2 ⟨r,fK r hr,rfl⟩));have h1:=rD hcall hn (K:=fun t'=>Rest C ⟨l⟩ Q (l.length-k) (listK l.length k) t' h) (ops:=⟨l⟩) (C:=C) (l.take k) hF (fun o ho=>hall o (V7 ho)) e1 h2.1;refine⟨vE k (by simpa using hk.2) h1.1,fun r hr=>?_⟩;obtain⟨q,hq1,rfl⟩:=M7.1 hr;exact h2.2 q (fL q hq1)
     ·cases e
    ·cases g
 |seq a b iha ihb=>
  intro ts h rs Q hF hok g hq;simp only[okCode,K5]at hok;simp only[codeX]at g;split at g
  ·rename_i rs1 e1;obtain⟨b1,b2⟩:=dR g;have hlen:=(iha (Q:=fun _ _ _=>True) hF hok.1 e1 (fun _ _=>trivial)).2;refine⟨(iha (Q:=thenQ (fun t h=>Wkn C (wr a) t h fun t h=>WP C b Q t h) Q) hF hok.1 e1 (fun r hr=>?_)).1,fun r hr=>?_⟩
   ·obtain⟨ys,hys,hsub⟩:=b1 r hr;obtain⟨e,ts1,h1⟩:=r;cases e with
    |normal=>exact L8 (ihb (hlen _ hr) hok.2 hys (fun r hr=>hq r (hsub r hr))).1
    |_=>simp only[N2]at hys;subst hys;exact hq _ (hsub _ (by simp))
   ·obtain⟨r1,hr1,ys,hys,hry⟩:=b2 r hr;obtain⟨e,ts1,h1⟩:=r1;cases e with
    |normal=>exact(ihb (Q:=fun _ _ _=>True) (hlen _ hr1) hok.2 hys (fun _ _=>trivial)).2 r hry
    |_=>simp only[N2]at hys;subst hys;simp at hry;subst hry;exact hlen _ hr1
  ·cases g
 |cond c a b iha ihb=>
  intro ts h rs Q hF hok g hq;simp only[okCode,K5]at hok;simp only[codeX]at g;unfold WP;split at g
  ·rename_i hc;rw[hc];simp only[];have:=iha (Q:=Q) hF (by simp[hok]) g hq;exact⟨⟨fun _=>this.1,fun e=>Bool.noConfusion e⟩,this.2⟩
  ·rename_i hc;rw[hc];simp only[];have:=ihb (Q:=Q) hF (by simp[hok]) g hq;exact⟨⟨fun e=>Bool.noConfusion e,fun _=>this.1⟩,this.2⟩
  ·cases g
 |block id c ih=>
  intro ts h rs Q hF hok g hq;simp only[okCode]at hok;simp only[codeX]at g;split at g
  ·rename_i rs1 e1;cases g;have hlen:=(ih (Q:=fun _ _ _=>True) hF hok e1 (fun _ _=>trivial)).2;refine⟨(ih (Q:=blockQ id Q) hF hok e1 (fun r hr=>?_)).1,fun r hr=>?_⟩
   ·have:=hq _ (M7.2 ⟨r,hr,rfl⟩);obtain⟨e,ts1,h1⟩:=r;cases e with
    |exit id'=>
     simp only[blockQ]at this ⊢;split at this
     ·rename_i e;rw[L7 e];exact this
     ·rename_i e;rw[K4 e];exact this
    |_=>exact this
   ·obtain⟨r1,hr1,rfl⟩:=M7.1 hr;have:=hlen r1 hr1;obtain⟨e,ts1,h1⟩:=r1;cases e with
    |exit id'=>simp only[];split<;>exact this
    |_=>exact this
  ·cases g
 |scope c ih=>
  intro ts h rs Q hF hok g hq;simp only[okCode]at hok;simp only[codeX]at g;split at g
  ·rename_i rs1 e1;obtain⟨b1,b2⟩:=dR g;have hlen:=(ih (Q:=fun _ _ _=>True) hF hok e1 (fun _ _=>trivial)).2;refine⟨(ih (Q:=noG Q) hF hok e1 (fun r hr=>?_)).1,fun r hr=>?_⟩
   ·obtain⟨ys,hys,hsub⟩:=b1 r hr;obtain⟨e,ts1,h1⟩:=r;cases e with
    |goto l=>cases hys
    |_=>simp only[N2]at hys;subst hys;exact hq _ (hsub _ (by simp))
   ·obtain⟨r1,hr1,ys,hys,hry⟩:=b2 r hr;obtain⟨e,ts1,h1⟩:=r1;cases e with
    |goto l=>cases hys
    |_=>simp only[N2]at hys;subst hys;simp at hry;subst hry;exact hlen _ hr1
  ·cases g
 |loop c ih=>
  intro ts h rs Q hF hok g hq;simp only[okCode]at hok;simp only[codeX]at g;have lens:∀(m:Nat) (s:Tr) (k:Heap) (rs:Outs),Tr.Full k0 s→iterX (fun ts h=>codeX C call lf c ts h) m s k=some rs→∀r∈rs,Tr.Full k0 r.2.1:=by
   intro m;induction m with
   |zero=>intro s k rs _ g;simp[iterX]at g
   |succ m ihn=>
    intro s k rs hs g r hr;simp only[iterX]at g;split at g
    ·rename_i rs1 e1;obtain⟨b1,b2⟩:=dR g;have hl:=(ih (Q:=fun _ _ _=>True) hs hok e1 (fun _ _=>trivial)).2;obtain⟨r1,hr1,ys,hys,hry⟩:=b2 r hr;have h1:=hl r1 hr1;obtain⟨e,ts1,k1⟩:=r1;cases e with
     |normal=>exact ihn _ _ _ h1 hys r hry
     |_=>simp only[N2]at hys;subst hys;simp at hry;subst hry;exact h1
    ·cases g
  refine⟨⟨fun n t1 h1=>∃(s:Tr) (rs1:Outs),t1=envL s∧Tr.Full k0 s∧iterX (fun ts h=>codeX C call lf c ts h) n s h1=some rs1∧∀r∈rs1,r∈rs,lf,L8 ⟨ts,rs,rfl,hF,g,fun _ h=>h⟩,fun n' t1 h1 hI=>?_⟩,lens _ _ _ _ hF g⟩;obtain⟨s,rs1,rfl,hs,gi,hsub⟩:=hI;cases n' with
  |zero=>simp[iterX]at gi
  |succ n=>
   simp only[iterX]at gi;split at gi
   ·rename_i rs2 e1;obtain⟨b1,b2⟩:=dR gi;have hl:=(ih (Q:=fun _ _ _=>True) hs hok e1 (fun _ _=>trivial)).2;refine(ih hs hok e1 (fun r hr=>?_)).1;obtain⟨ys,hys,hs2⟩:=b1 r hr;have h2:=hl r hr;obtain⟨e,ts1,k1⟩:=r;cases e with
    |normal=>exact⟨n,by omega,L8 ⟨ts1,ys,rfl,h2,hys,fun r h=>hsub r (hs2 r h)⟩⟩
    |_=>simp only[N2]at hys;subst hys;exact hq _ (hsub _ (hs2 _ (by simp)))
   ·cases gi
 |_=>intro ts h rs Q _ _ g;simp[codeX]at g
def Kill(a b:Heap):Prop:=a.length=b.length∧∀(p:Nat) (k:Blk),b[p]? =some k→k=.dead∨a[p]? =some k
theorem Kill.refl(a:Heap):Kill a a:=⟨rfl,fun _ _ h=>.inr h⟩
theorem Kill.trans{a b c:Heap}(h:Kill a b)(k:Kill b c):Kill a c:=⟨h.1.trans k.1,fun p x hx=>(k.2 p x hx).elim .inl (h.2 p x)⟩
theorem mh:∀{a b q:Heap},mergeH a b=some q→Kill a q∧Kill b q
 | [],[],q,h=>by simp only[mergeH,N2]at h;subst h;exact⟨Kill.refl _,Kill.refl _⟩
 | [],_::_,q,h=>by simp[mergeH]at h
 |_::_,[],q,h=>by simp[mergeH]at h
 |a::l,b::m,q,h=>by
  simp only[mergeH]at h;split at h
  ·rename_i q1 hq;cases h;obtain⟨h1,h2⟩:=mh hq;refine⟨⟨by simp[h1.1],fun p k hk=>?_⟩,⟨by simp[h2.1],fun p k hk=>?_⟩⟩
   ·cases p with
    |zero=>
     simp at hk;split at hk
     ·subst hk;exact .inr rfl
     ·exact .inl hk.symm
    |succ p=>exact(h1.2 p k (by simpa using hk)).imp id (by simp)
   ·cases p with
    |zero=>
     simp at hk;split at hk
     ·rename_i e;subst hk;exact .inr (by rw[qj e];rfl)
     ·exact .inl hk.symm
    |succ p=>exact(h2.2 p k (by simpa using hk)).imp id (by simp)
  ·cases h
theorem qm{fn:Func}:∀{rs:Outs} {x:AVal×Heap},allX C fn rs=some x→∀r∈rs,∃h1,endX C fn r=some (x.1,h1)∧Kill h1 x.2
 | [],x,g=>by cases g
 | [r],x,g=>by intro r' hr;simp at hr;subst hr;exact⟨x.2,g,Kill.refl _⟩
 |r::r2::rest,x,g=>by
  simp only[allX]at g;split at g
  ·rename_i x1 y1 h1 h2;unfold mergeAH at g;split at g
   ·rename_i hb;split at g
    ·rename_i q hq;cases g;obtain⟨k1,k2⟩:=mh hq;intro r' hr;rcases N0.1 hr with rfl|hr
     ·exact⟨_,h1,k1⟩
     ·obtain⟨h3,e,k3⟩:=qm h2 r' hr;exact⟨h3,by rw[db _ _ hb];exact e,k3.trans k2⟩
    ·cases g
   ·cases g
  ·cases g
theorem Sat.kill{f:FuncId}{args:List AVal}{r:AVal}{h1:Heap}(s:Sat C f args h fun r2 h2=>r2=r∧Kill h2 h1):Sat C f args h fun r2 h2=>r2=r∧h2=h1:=by
 intro B S μ w vs fit rl;refine(s B S μ w vs fit rl).mono fun u w' hp=>?_
 obtain⟨r2,h',S',μ',⟨rfl,hk⟩,st,fit',hrep⟩:=hp;refine⟨r2,h1,S',μ',⟨rfl,rfl⟩,st,⟨fit'.glob,fit'.len.trans hk.1,fit'.sep,fit'.own,fit'.base,fit'.lie,fun p m k hm hp=>?_⟩,hrep⟩;rcases hk.2 p k hp with rfl|h2
 ·trivial
 ·exact fit'.blk p m k hm h2
theorem vJ{k0:Nat}(args:List AVal)(hl:args.length+1<2^k0):envL (argsT (Tr.mk k0) 0 args)=env0 args:=by
 funext i
 simp only[envL,env0];rw[mg _ _ _ _ (Tr.full_mk _) (by omega),Tr.get_mk];by_cases h:i<args.length
 ·rw[L7 (by omega)];simp
 ·rw[K4 (by omega)];simp[List.getD,P5 (show args.length≤i by omega)]
theorem Sat.of_body0{f:FuncId}{fn:Func}{c:Code}{args:List AVal}{R:AVal→Heap→Prop}(hf:C.P.funcs[f]? =some fn)(hb:fn.body=some c)(hname:(fn.name== "runtime.NumGoroutine")=false)
  (hok:okCode fn.ntmps c=true)(hres:fn.results.toList.all (okRes fn.ntmps)=true)(hlen:args.length≤fn.ntmps)
  (hw:WP C c (fun e t' h'=>match e with
   | .normal=>need (resA C t' h' fn.results.toList) fun r=>R r h'
   | .ret=>need (resA C t' h' fn.results.toList) fun r=>R r h'
   |_=>False) (env0 args) h):Sat C f args h R:=by
 intro B S μ w vs fit rl;have hcall:(callFunc f vs.toArray).run C.P w=.ok (.enter f vs.toArray) w:=by
  have hne:fn.name≠ "runtime.NumGoroutine" :=by simpa using hname
  simp[callFunc,hf,hne,hb]
 rw[hcall];show Calls C.P f vs.toArray w _;refine calls_of_wp hf hb ?_;have hlv:vs.length≤fn.ntmps:=by rw[rl.1];exact hlen
 have renv:REnv fn.ntmps w S μ (env0 args) {tmps:=vs.toArray++Array.replicate (fn.ntmps-vs.toArray.size) undef,defers:=[]}:=by
  refine⟨by simp;omega,rfl,fun i hi=>?_⟩;unfold env0;by_cases hlt:i<args.length
  ·have hx:=K6 hlt;have:=rl.2 i _ hx;have hv:i<vs.length:=(by rw[rl.1];exact hlt);have e1:args.getD i undefA=args[i]:=(by simp[List.getD,hx]);have e2:(vs.toArray++Array.replicate (fn.ntmps-vs.toArray.size) undef).getD i undef=vs.getD i undef:=by
    simp[P7,Array.getElem?_append,hv,List.getD]
   rw[e1];simp only[e2];exact this
  ·have e1:args.getD i undefA=undefA:=(by simp[List.getD,P5 (show args.length≤i by omega)]);have hv:¬i<vs.length:=(by rw[rl.1];exact hlt);have e2:(vs.toArray++Array.replicate (fn.ntmps-vs.toArray.size) undef).getD i undef=undef:=by
    simp[P7,Array.getElem?_append,hv,Array.getElem?_replicate];split<;>rfl
   rw[e1];simp only[e2];exact eR _ _ _
 have hres':=O4.1 hres;refine wp_mono (nr (B:=B) (n:=fn.ntmps) c hok (Step.refl B S μ w) fit renv hw) fun e a' w' hp=>?_
 obtain⟨t',h',S',μ',hq,st,fit',renv'⟩:=hp;have fin:need (resA C t' h' fn.results.toList) (fun r=>R r h')→a'.defers=[]∧∃v,(results fn a'.tmps).run C.P w'=.ok v w'∧
   ∃u,Ending.returned v=Ending.returned u∧OpPost C B S μ w R u w':=by
  intro hq;obtain⟨r,hr0,hR⟩:=ae hq;obtain⟨v,hv,hrep⟩:=nt fit' renv' hres' hr0;exact⟨renv'.2.1,v,hv,v,rfl,r,_,_,_,hR,st,fit',hrep⟩
 cases e with
 |normal=>exact fin hq
 |ret=>exact fin hq
 |_=>exact hq.elim
def OrcOk(C:Ctx)(orc:FuncId→List AVal→Option AVal):Prop:=∀f args r,orc f args=some r→∀h,Sat C f args h fun r2 h2=>r2=r∧h2=h
theorem nI{orc:FuncId→List AVal→Option AVal}(horc:OrcOk C orc)(lf:Nat):∀n,CallOk C (callX C orc lf n):=by
 intro n;induction n with
 |zero=>intro f args h r h' g;simp[callX]at g
 |succ n ih=>
  intro f args h r h' g;simp only[callX]at g;split at g
  ·rename_i e;cases g;exact horc _ _ _ e h
  ·split at g
   ·cases g
   ·rename_i fn hfn;split at g
    ·cases g
    ·rename_i c hc;split at g
     ·rename_i hs;obtain⟨s1,s2,s3,s4,s5⟩:=hs;split at g
      ·rename_i rs e1;have hend:=qm g;refine(Sat.of_body0 hfn hc s1 s2 s3 s4 (R:=fun r2 h2=>r2=r∧Kill h2 h') ?_).kill;have:=(vI ih lf s5 c (jZ _ _ _ (Tr.full_mk _)) s2 e1 (Q:=fun e t' h9=>match e with
        | .normal=>need (resA C t' h9 fn.results.toList) fun r2=>r2=r∧Kill h9 h'
        | .ret=>need (resA C t' h9 fn.results.toList) fun r2=>r2=r∧Kill h9 h'
        |_=>False) (fun q hq=>?_)).1
       ·rwa [vJ _ (by omega)]at this
       ·obtain⟨h1,e,hkill⟩:=hend q hq;obtain⟨ex,ts,h9⟩:=q;unfold endX at e;split at e
        ·rename_i hqq;cases hqq;split at e
         ·rename_i hr;cases e;exact ar hr ⟨rfl,hkill⟩
         ·cases e
        ·rename_i hqq;cases hqq;split at e
         ·rename_i hr;cases e;exact ar hr ⟨rfl,hkill⟩
         ·cases e
        ·cases e
      ·cases g
     ·cases g
end
end Go.Av
namespace Go.Av
def GClo(C:Ctx):Prop:=∀g cs,C.G g=some cs→Clo 0 (.ad cs)
end Go.Av
namespace Go.Av
open Go.RowKit
section
variable {C:Ctx}
theorem Sat.frame(hG:GClo C){f:FuncId}{args:List AVal}{R:AVal→Heap→Prop}(ha:∀x∈args,Clo 0 x)(hR:∀r h',R r h'→Clo 0 r∧h'=[])
  (s:Sat C f args [] R)(h:Heap):Sat C f args h fun r h'=>R r []∧h'=h:=by
 intro B S μ w vs fit rl;have st0:∀(x:AVal) (v:Value),Clo 0 x→Rep w S μ x v→Rep w S [] x v:=fun x v hc hr=>by
  have:=hc.rep (S':=S) hr fun a ha=>ha
  simpa using this
 have fit0:Fits C w.heap.size S [] [] w:=by
  refine⟨fun g cs hg=>st0 _ _ (hG g cs hg) (fit.glob g cs hg),rfl,?_,?_,M0 _,fit.lie,?_⟩
  ·intro p q m m' b h1;simp at h1
  ·intro p m b h1;simp at h1
  ·intro p m k h1;simp at h1
 have rl0:RepL w S [] args vs:=⟨rl.1,fun i x hx=>st0 _ _ (ha x (M3 hx)) (rl.2 i x hx)⟩
 refine(s _ S [] w vs fit0 rl0).mono fun v w' hp=>?_
 obtain⟨r,h',S',μ',hr,st,fit',hrep⟩:=hp;obtain⟨hclo,rfl⟩:=hR r h' hr;obtain rfl:μ'=[]:=Q2.1 (by rw[fit'.len];rfl);have own:∀(p:Nat) (m:MB) (b:Nat),μ[p]? =some m→m.blk=some b→∀a,S' a→a.block≠b:=fun p m b h1 e1 a ha=>by
  obtain⟨k1,k2,k3⟩:=fit.own p m b h1 e1;rcases st.new a ha with h2|h2
  ·exact k3 a h2
  ·omega
 have st2:Step B S μ w S' μ w':=⟨st.sub,st.keep,st.below.mono fit.base,MapLe.refl _,fun a ha=>(st.new a ha).imp id fun e=>Q6 fit.base e⟩
 refine⟨r,h,S',μ,⟨hr,rfl⟩,st2,?_,?_⟩
 ·refine⟨fun g cs hg=>(fit.glob g cs hg).mono st2,fit.len,fit.sep,fun p m b h1 e1=>?_,Q6 fit.base st.below.size,fit'.lie,fun p m k h1 h2=>?_⟩
  ·obtain⟨k1,k2,k3⟩:=fit.own p m b h1 e1;exact⟨k1,U8 k2 st.below.size,own p m b h1 e1⟩
  ·exact(fit.blk p m k h1 h2).mono st2 fun b hb=>st.below.block b (fit.own p m b h1 hb).2.1
 ·have grow:∀(x:AVal) (v:Value),Rep w' S' [] x v→Rep w' S' μ x v:=fun x v hr=>by
   refine hr.mono (B:=0) (S':=S') (w':=w') ⟨fun _ ha=>ha,fun _ _=>rfl,V4 _ _,fun p m hm=>by simp at hm,fun _ ha=>.inl ha⟩
  exact grow _ _ hrep
def isV(v:AVal):Option (AVal×Heap)→Bool
 |some (r,h1)=>match frzX h1 0 20 r with
  |some y=>beqA y v
  |none=>false
 |none=>false
end
end Go.Av
namespace Go.Av
open Go Go.Proofs Go.RowKit
def bigS(s:Bs):Bool:=decide (s.length≤1048576)
def orcL(f:FuncId)(args:List AVal):Option AVal:=match args with
 | [.str s,.str p]=>if bigS s=true then
   (if f=238 then some (.tup [.str (Lib.cut s p).1,.str (Lib.cut s p).2.1,.bool (Lib.cut s p).2.2])
   else if f=239 then some (.bool (Lib.contains s p))
   else if f=237 then some (.tup [.str (Lib.trimPrefix s p),.bool (Lib.hasPrefix s p)])
   else if f=223 then some (.bool (Lib.hasPrefix s p))else none)else none
 | [.str s,.int .u8 c]=>if bigS s=true then(if f=142 then some (.int .i64 (Lib.lastIndexByte ⟨s.toArray⟩ c))else none)else none
 | [.str s,.int .i32 r]=>if 0≤r∧r<128 then(if f=262 then some (.bool (decide (0≤Lib.indexByte s r.toNat.toUInt8)))else none)else none
 | [x]=>if f=178 then some x else none
 |_=>none
variable {G:Nat→Option (List AVal)}
theorem xI(hG:GOk G):OrcOk (CT G) orcL:=by
 intro f args r g h;unfold orcL at g;split at g
 ·rename_i s p;split at g
  ·rename_i hb;have hs:s.length≤1048576:=(by simpa [bigS]using hb);split at g
   ·rename_i e;subst e;cases g;exact xE G hG s p (by omega) h
   ·split at g
    ·rename_i e;subst e;cases g;exact nG G hG s p (by omega) h
    ·split at g
     ·rename_i e;subst e;cases g;exact mR G s p h
     ·split at g
      ·rename_i e;subst e;cases g;exact i8 G s p h
      ·cases g
  ·cases g
 ·rename_i s c;split at g
  ·rename_i hb;have hs:s.length≤1048576:=(by simpa [bigS]using hb);split at g
   ·rename_i e;subst e;cases g;exact j1 G s c (by omega) h
   ·cases g
  ·cases g
 ·rename_i s r;split at g
  ·rename_i hb;split at g
   ·rename_i e;subst e;cases g;exact iv G s r hb.1 hb.2 h
   ·cases g
  ·cases g
 ·rename_i x;split at g
  ·rename_i e;subst e;cases g;exact fp G _ h
  ·cases g
 ·cases g
end Go.Av
namespace Go.Av
open Go Go.Proofs Go.RowKit Go.ChangeShapes Go.WideShapes
theorem vK:ownKnob Tryz.prog.godebug=none:=by kernel_rfl
def flatD:DataW Unit→List Value
 | .lit (.int k n)=>[.int k n]
 | .agg l=>flatL l
 |_=>[]
where flatL:List (DataW Unit)→List Value
 | []=>[]
 |d::l=>flatD d++flatL l
noncomputable def laidCells(w:World)(g:Nat)(d:DataW Unit):World:=
 {w with heap:=w.heap.modify g fun
   | .cells _ t frozen=>.cells (flatD d).toArray t frozen
   |o=>o}
noncomputable def laidWorld(os:Os)(args:Array Value):World:=
 laidCells (laidCells (World.holding Tryz.prog os ⟨#[],args,[]⟩) 2 Go.Proofs.YtnolelibaahimaaGreatDoor.Rows.laid_unicode_utf8_acceptRanges) 1 Go.Proofs.YtnolelibaahimaaGreatDoor.Rows.laid_unicode_utf8_first
def gM(m:Int):Nat→Option (List AVal):=fun g=>if g=0 then some [.int .i64 m]else none
theorem BL(m:Int):GOk (gM m):=⟨m,by simp[gM]⟩
theorem zf(m:Int):GClo (CT (gM m)):=fun g cs h=>by
 simp only[zc,gM]at h;split at h
 ·cases h;exact .ad _ fun c hc=>by simp at hc;subst hc;exact .int _ _
 ·cases h
theorem zg{W:World}{m:Int}(hm:W.cell? ⟨0,0,none⟩=some (.int .i64 m)):∀g cs,(CT (gM m)).G g=some cs→Rep W (lies0 W) [] (.ad cs) (.pointer (some ⟨g,0,none⟩)):=fun g cs h=>by
 simp only[zc,gM]at h;split at h
 ·rename_i e;subst e;cases h;refine .ad _ _ 0 (fun _=>.int .i64 m) (by simp) (fun j c hj=>?_) (fun j c hj=>?_)
  ·match j with
   |0=>simp at hj;subst hj;exact⟨by unfold lies0;rw[hm];rfl,hm,rfl⟩
   |j+1=>simp at hj
  ·match j with
   |0=>simp at hj;subst hj;exact .int _ _
   |j+1=>simp at hj
 ·cases h
theorem nJ{W:World}(h:W.ShapedOpen Tryz.prog):∃m,W.cell? ⟨0,0,none⟩=some (.int .i64 m):=
 Go.Proofs.cell_of_shapedOpen_int (zero:= #[.int .i64 0]) (t:=3) h (R8 (by kernel_rfl)) (by kernel_rfl) rfl (by kernel_rfl) (by kernel_rfl) Tryz.underlying3
end Go.Av
namespace Go.Av
open Go Go.Proofs Go.RowKit
def digB(c:UInt8):Bool:=decide (48≤c.toNat)&&decide (c.toNat≤57)
def numA:Int→Bs→Int
 |n,[]=>n
 |n,c::s=>numA (10*n+((c.toNat:Int)-48)) s
structure Rdr where
 s:Bs
 bad:Bool
namespace Rdr
def digits(r:Rdr)(w:Nat):Int×Rdr:=if r.s.length<w then(0,⟨r.s,true⟩)else if (r.s.take w).all digB then(numA 0 (r.s.take w),⟨r.s.drop w,r.bad⟩)else(0,⟨r.s,true⟩)
def sign(r:Rdr)(l:Bs):Int×Rdr:=match r.s with
 | []=>(0,⟨r.s,true⟩)
 |c::t=>if c∈l then((c.toNat:Int),⟨t,r.bad⟩)else(0,⟨r.s,true⟩)
def run(r:Rdr):Nat:=(r.s.takeWhile digB).length
end Rdr
namespace Rdr
end Rdr
namespace Rdr
def all(r:Rdr):Int×Rdr:=r.digits r.s.length
def clock(r:Rdr):Int×Rdr:=
 let (h,r1):=r.digits 2
 let r2:=(r1.sign [58]).2
 let (m,r3):=r2.digits 2
 let (c,r4):=if r3.s=[]then(0,r3)else(r3.sign [58]).2.digits 2
 (3600*h+60*m+c,⟨r4.s,r4.bad||(decide (h>23)||(decide (m>59)||decide (c>59)))⟩)
end Rdr
namespace Rdr
end Rdr
end Go.Av
namespace Go.Av
open Go Go.Proofs Go.RowKit
attribute [local irreducible] WP WPl WPix Sat
variable (G:Nat→Option (List AVal))
def bytA(b:UInt8):AVal:=.int .u8 b.toNat
def bldR(a:AVal)(q v:Nat)(s:Bs):Blk:=.row 157 2 0 [.agg [a,.hs q v 0 s.length true]]
def bufR(v:Nat)(s:Bs):Blk:=.row 5 1 v (s.map bytA)
def bldA(a:AVal)(p:Nat):Prop:=a=.nil (.pointer none)∨a=.hp p 0 0 0
theorem dC(s:Bs):bytesA (s.map bytA)=some s:=by
 induction s with
 |nil=>rfl
 |cons b s ih=>
  have hb:(UInt8.ofNat (b.toNat:Int).toNat)=b:=by simp
  simp only[N4,bytA,bytesA,hb,if_true];show(bytesA (s.map bytA)).map _=_;rw[ih];rfl
@[go_sem] theorem BM(a:AVal)(q v:Nat)(s:Bs)(l:Heap):getRow (bldR a q v s::l) 0 0=some (157,2,[.agg [a,.hs q v 0 s.length true]]):=rfl
theorem b8(v:Nat)(s:Bs)(l:Heap):getRow (bufR v s::l) 0 v=some (5,1,s.map bytA):=by simp[getRow,bufR]
theorem rE:ptrConv Tryz.prog 154 214 157 2=true:=by kernel_rfl
theorem nK:ptrConv Tryz.prog 214 154 157 2=true:=by kernel_rfl
theorem zh:ptrT Tryz.prog 154=true:=by kernel_rfl
attribute [go_sem] rE nK
theorem xJ(n p q v:Nat)(s:Bs)(hp:p<n)(hq:q<n):CloB n (bldR (.hp p 0 0 0) q v s):=by
 intro r hr;simp only[W7]at hr;subst hr;refine .agg _ fun c hc=>?_
 simp only[N0,S5,or_false]at hc;rcases hc with rfl|rfl
 ·exact .hp _ _ _ _ hp
 ·exact .hs _ _ _ _ _ hq
theorem iN(n v:Nat)(s:Bs):CloB n (bufR v s):=by
 intro r hr;obtain⟨b,_,rfl⟩:=M7.1 hr;exact .int _ _
theorem nM(h:Heap)(p:Nat)(hr:(getRow h p 0).isSome=true):abin Tryz.prog h .neq 154 (.hp p 0 0 0) (.hp p 0 0 0)=some (.bool false):=by
 simp[abin,hr,zh]
theorem mi(h:Heap)(p:Nat)(x:TypeId×Nat×List AVal)(hr:getRow h p 0=some x):abin Tryz.prog h .eql 154 (.hp p 0 0 0) (.nil (.pointer none))=some (.bool false):=by
 have hk:nilKind Tryz.prog 154 (.pointer none)=true:=by kernel_rfl
 simp[abin,hk,aeqNil,hr]
theorem qn(h:Heap):abin Tryz.prog h .eql 154 (.nil (.pointer none)) (.nil (.pointer none))=some (.bool true):=by
 have hk:nilKind Tryz.prog 154 (.pointer none)=true:=by kernel_rfl
 simp[abin,hk,aeqNil]
theorem xj{h j:Heap}{x y x' y':Blk}{n:Nat}(hx:CloB n x')(hy:CloB n y'):∀(p:Nat) (k:Blk),(h++x'::y'::j)[p]? =some k→(h++x::y::j)[p]? =some k∨CloB n k:=by
 intro p k hk;rcases T3 p h.length with h1|h1
 ·rw[L9 h1]at hk ⊢;exact .inl hk
 ·rw[M1 h1]at hk ⊢
  match p-h.length,hk with
  |0,hk=>simp at hk;subst hk;exact .inr hx
  |1,hk=>simp at hk;subst hk;exact .inr hy
  |i+2,hk=>exact .inl (by simpa using hk)
def bldH(h j:Heap)(a:AVal)(v:Nat)(s:Bs):Heap:=h++bldR a (h.length+1) v s::bufR v s::j
theorem bU(h j:Heap)(a:AVal)(v:Nat)(s:Bs):(bldH h j a v s).length=h.length+(2+j.length):=by simp[bldH];omega
theorem fM(h j:Heap)(a:AVal)(v v':Nat)(s s':Bs):∀(p:Nat) (k:Blk),(bldH h j (.hp h.length 0 0 0) v' s')[p]? =some k→(bldH h j a v s)[p]? =some k∨CloB (bldH h j a v s).length k:=by
 rw[bU];exact xj (xJ _ _ _ _ _ (by omega) (by omega)) (iN _ _ _)
theorem eN(a:AVal)(h j:Heap)(v:Nat)(s:Bs)(ha:bldA a h.length):
  Sat (CT G) 137 [.hp h.length 0 0 0] (bldH h j a v s) (fun r h'=>r=.tup []∧h'=bldH h j (.hp h.length 0 0 0) v s):=by
 have hK:=fM h j a v v s s;have hl:=(bU h j (.hp h.length 0 0 0) v s).trans (bU h j a v s).symm;have hfin:∀t',Fin (bldH h j a v s) (bldH h j (.hp h.length 0 0 0) v s) (fun r h'=>r=.tup []∧h'=bldH h j (.hp h.length 0 0 0) v s) t'∨True:=fun _=>.inr trivial
 have end_:Fin (bldH h j a v s) (bldH h j (.hp h.length 0 0 0) v s) (fun r h'=>r=.tup []∧h'=bldH h j (.hp h.length 0 0 0) v s) (.tup []):=Fin.keep0 hl hK (.tup _ (by simp)) ⟨rfl,rfl⟩;clear hfin hK hl;unfold bldH at*;refine sb [] Tryz.func137 ?_;intro Q hQ;refine aA trivial ?_;rcases ha with rfl|rfl
 ·rw[lR,qn];simp(disch:=first|omega| (simp only[go_sem, ↓reduceIte,Nat.reduceEqDiff];done)|fail) only[go_sem, ↓reduceIte,Int.reduceToNat,Int.reduceLE,Int.reduceLT,Int.reduceSub,Int.reduceAdd,Nat.reduceEqDiff,Nat.reduceAdd,Nat.reduceLeDiff,Nat.reduceLT,Nat.reduceMul,Nat.reduceSub];refine aA trivial ?_;refine⟨by simp,?_⟩;refine(fp G _ _).mono ?_;rintro r h' ⟨rfl,rfl⟩;simp(disch:=first|omega| (simp only[go_sem, ↓reduceIte,Nat.reduceEqDiff];done)|fail) only[go_sem, ↓reduceIte,Int.reduceToNat,Int.reduceLE,Int.reduceLT,Int.reduceSub,Int.reduceAdd,Nat.reduceEqDiff,Nat.reduceAdd,Nat.reduceLeDiff,Nat.reduceLT,Nat.reduceMul,Nat.reduceSub,List.cons_ne_nil];refine(hQ _ _ ?_).2;simp(disch:=first|omega| (simp only[go_sem, ↓reduceIte,Nat.reduceEqDiff];done)|fail) only[go_sem, ↓reduceIte,Int.reduceToNat,Int.reduceLE,Int.reduceLT,Int.reduceSub,Int.reduceAdd,Nat.reduceEqDiff,Nat.reduceAdd,Nat.reduceLeDiff,Nat.reduceLT,Nat.reduceMul,Nat.reduceSub];exact end_
 ·rw[nu,mi _ _ _ (by simp(disch:=first|omega| (simp only[go_sem, ↓reduceIte,Nat.reduceEqDiff];done)|fail) only[go_sem, ↓reduceIte,Int.reduceToNat,Int.reduceLE,Int.reduceLT,Int.reduceSub,Int.reduceAdd,Nat.reduceEqDiff,Nat.reduceAdd,Nat.reduceLeDiff,Nat.reduceLT,Nat.reduceMul,Nat.reduceSub];rfl)];simp(disch:=first|omega| (simp only[go_sem, ↓reduceIte,Nat.reduceEqDiff];done)|fail) only[go_sem, ↓reduceIte,Int.reduceToNat,Int.reduceLE,Int.reduceLT,Int.reduceSub,Int.reduceAdd,Nat.reduceEqDiff,Nat.reduceAdd,Nat.reduceLeDiff,Nat.reduceLT,Nat.reduceMul,Nat.reduceSub];refine aA trivial ?_;rw[nM _ _ (by exact bv trivial)];simp(disch:=first|omega| (simp only[go_sem, ↓reduceIte,Nat.reduceEqDiff];done)|fail) only[go_sem, ↓reduceIte,Int.reduceToNat,Int.reduceLE,Int.reduceLT,Int.reduceSub,Int.reduceAdd,Nat.reduceEqDiff,Nat.reduceAdd,Nat.reduceLeDiff,Nat.reduceLT,Nat.reduceMul,Nat.reduceSub];refine aA trivial ?_;refine(hQ _ _ ?_).2;simp(disch:=first|omega| (simp only[go_sem, ↓reduceIte,Nat.reduceEqDiff];done)|fail) only[go_sem, ↓reduceIte,Int.reduceToNat,Int.reduceLE,Int.reduceLT,Int.reduceSub,Int.reduceAdd,Nat.reduceEqDiff,Nat.reduceAdd,Nat.reduceLeDiff,Nat.reduceLT,Nat.reduceMul,Nat.reduceSub];exact end_
theorem cA:byT Tryz.prog 5=some 1:=by kernel_rfl
theorem mj(h:Heap)(x:Bs):elemsOf h 1 (.str x)=some (x.map bytA):=rfl
theorem de(h:Heap)(es:List AVal):elemsOf h 1 (.sl 1 es)=some es:=by simp[elemsOf]
theorem eG:(zroT Tryz.prog 5).map (fun z=>z.cells.length)=some 1:=by simp only[go_sem]
theorem bw(a:AVal)(h j:Heap)(v:Nat)(s x:Bs)(ha:bldA a h.length)(hs:s.length+x.length≤1073741824):
  Sat (CT G) 99 [.hp h.length 0 0 0,.str x] (bldH h j a v s) (fun r h'=>r=.tup [.int .i64 x.length,.nil .nilIface]∧h'=bldH h j (.hp h.length 0 0 0) (v+1) (s++x)):=by
 have end_:Fin (bldH h j a v s) (bldH h j (.hp h.length 0 0 0) (v+1) (s++x)) (fun r h'=>r=.tup [.int .i64 x.length,.nil .nilIface]∧h'=bldH h j (.hp h.length 0 0 0) (v+1) (s++x)) (.tup [.int .i64 x.length,.nil .nilIface]):=
  Fin.keep0 ((bU ..).trans (bU ..).symm) (fM _ _ _ _ _ _ _) (.tup _ (by intro c hc;simp at hc;rcases hc with rfl|rfl;exact .int _ _;exact .nil _)) ⟨rfl,rfl⟩
 refine sb [.tmp 4,.tmp 5] Tryz.func99 ?_;intro Q hQ;refine aA trivial ?_;refine(eN G a h j v s ha).mono ?_;rintro r h' ⟨rfl,rfl⟩;unfold bldH at*;try refine bg trivial ?_
 refine aA trivial ?_;refine bF (.inr (by exact bv trivial)) (by exact bv trivial) (by exact bv trivial) cA eG (by omega) (mj _ x) (by simp(disch:=first|omega| (simp only[go_sem, ↓reduceIte,Nat.reduceEqDiff];done)|fail) only[go_sem, ↓reduceIte,Int.reduceToNat,Int.reduceLE,Int.reduceLT,Int.reduceSub,Int.reduceAdd,Nat.reduceEqDiff,Nat.reduceAdd,Nat.reduceLeDiff,Nat.reduceLT,Nat.reduceMul,Nat.reduceSub,b8];rfl) (by simp) ?_ ?_
 ·simp[maxLen];omega
 simp(disch:=first|omega| (simp only[go_sem, ↓reduceIte,Nat.reduceEqDiff];done)|fail) only[go_sem, ↓reduceIte,Int.reduceToNat,Int.reduceLE,Int.reduceLT,Int.reduceSub,Int.reduceAdd,Nat.reduceEqDiff,Nat.reduceAdd,Nat.reduceLeDiff,Nat.reduceLT,Nat.reduceMul,Nat.reduceSub];refine aA trivial ?_;refine(hQ _ _ ?_).1;simp(disch:=first|omega| (simp only[go_sem, ↓reduceIte,Nat.reduceEqDiff];done)|fail) only[go_sem, ↓reduceIte,Int.reduceToNat,Int.reduceLE,Int.reduceLT,Int.reduceSub,Int.reduceAdd,Nat.reduceEqDiff,Nat.reduceAdd,Nat.reduceLeDiff,Nat.reduceLT,Nat.reduceMul,Nat.reduceSub];simp only[bldR,bufR,K7,P2,L5]at end_ ⊢;exact end_
theorem ia(a:AVal)(h j:Heap)(v:Nat)(s:Bs)(b:UInt8)(ha:bldA a h.length)(hs:s.length+1≤1073741824):
  Sat (CT G) 151 [.hp h.length 0 0 0,.int .u8 b.toNat] (bldH h j a v s) (fun r h'=>r=.nil .nilIface∧h'=bldH h j (.hp h.length 0 0 0) (v+1) (s++[b])):=by
 have end_:Fin (bldH h j a v s) (bldH h j (.hp h.length 0 0 0) (v+1) (s++[b])) (fun r h'=>r=.nil .nilIface∧h'=bldH h j (.hp h.length 0 0 0) (v+1) (s++[b])) (.nil .nilIface):=
  Fin.keep0 ((bU ..).trans (bU ..).symm) (fM _ _ _ _ _ _ _) (.nil _) ⟨rfl,rfl⟩
 refine sb [.tmp 4] Tryz.func151 ?_;intro Q hQ;refine aA trivial ?_;refine(eN G a h j v s ha).mono ?_;rintro r h' ⟨rfl,rfl⟩;unfold bldH at*;try refine bg trivial ?_
 refine aA trivial ?_;refine bF (.inl rfl) (by exact bv trivial) (by exact bv trivial) cA eG (by omega) (de _ _) (by simp(disch:=first|omega| (simp only[go_sem, ↓reduceIte,Nat.reduceEqDiff];done)|fail) only[go_sem, ↓reduceIte,Int.reduceToNat,Int.reduceLE,Int.reduceLT,Int.reduceSub,Int.reduceAdd,Nat.reduceEqDiff,Nat.reduceAdd,Nat.reduceLeDiff,Nat.reduceLT,Nat.reduceMul,Nat.reduceSub,b8];rfl) (by simp) ?_ ?_
 ·simp[maxLen];omega
 simp(disch:=first|omega| (simp only[go_sem, ↓reduceIte,Nat.reduceEqDiff];done)|fail) only[go_sem, ↓reduceIte,Int.reduceToNat,Int.reduceLE,Int.reduceLT,Int.reduceSub,Int.reduceAdd,Nat.reduceEqDiff,Nat.reduceAdd,Nat.reduceLeDiff,Nat.reduceLT,Nat.reduceMul,Nat.reduceSub];refine aA trivial ?_;refine cn hQ trivial ?_;simp only[bldR,bufR,K7,P2,L6,M9,N4,R1,bytA,P9]at end_ ⊢;exact end_
theorem xK(a:AVal)(h j:Heap)(v:Nat)(s:Bs):Sat (CT G) 149 [.hp h.length 0 0 0] (bldH h j a v s) (fun r h'=>r=.int .i64 s.length∧h'=bldH h j a v s):=by
 have end_:Fin (bldH h j a v s) (bldH h j a v s) (fun r h'=>r=.int .i64 s.length∧h'=bldH h j a v s) (.int .i64 s.length):=O9 (.int _ _) ⟨rfl,rfl⟩;unfold bldH at*;have F:= @b8;refine sb [.tmp 2] Tryz.func149 ?_;intro Q hQ;refine aA F ?_;refine aA F ?_;refine cn hQ F ?_;exact end_
theorem tJ:bptr Tryz.prog 190 5=true:=by kernel_rfl
theorem gP(a:AVal)(h j:Heap)(v:Nat)(s:Bs):Sat (CT G) 101 [.hp h.length 0 0 0] (bldH h j a v s) (fun r h'=>r=.str s∧∃b,h'=h++bldR a (h.length+1) v s::b::j):=by
 unfold bldH;have F:= @b8;refine sb [.tmp 2] Tryz.func101 ?_;intro Q hQ;refine aA F ?_;have fin:∀b,Fin (h++bldR a (h.length+1) v s::bufR v s::j) (h++bldR a (h.length+1) v s::b::j) (fun r h'=>r=.str s∧∃b,h'=h++bldR a (h.length+1) v s::b::j) (.str s)∨¬(b=bufR v s∨b=.dead):=fun b=>by
  by_cases hb:b=bufR v s∨b=.dead
  ·refine .inl (Fin.keep0 (by simp) (fun p k hk=>?_) (.str _) ⟨rfl,b,rfl⟩);rcases T3 p h.length with h1|h1
   ·rw[L9 h1]at hk ⊢;exact .inl hk
   ·rw[M1 h1]at hk ⊢
    match p-h.length,hk with
    |0,hk=>exact .inl (by simpa using hk)
    |1,hk=>
     simp at hk;subst hk;rcases hb with rfl|rfl
     ·exact .inl (by simp)
     ·exact .inr trivial
    |i+2,hk=>exact .inl (by simpa using hk)
  ·exact .inr hb
 rcases Nat.eq_zero_or_pos s.length with h0|h0
 ·have hs:s=[]:=Q2.1 h0;subst hs;simp(disch:=first|omega| (simp only[go_sem, ↓reduceIte,Nat.reduceEqDiff];done)|fail) only[go_sem, ↓reduceIte,Int.reduceToNat,Int.reduceLE,Int.reduceLT,Int.reduceSub,Int.reduceAdd,Nat.reduceEqDiff,Nat.reduceAdd,Nat.reduceLeDiff,Nat.reduceLT,Nat.reduceMul,Nat.reduceSub,F,M9,Nat.lt_irrefl,Int.natCast_zero];refine aA F ?_;refine cn hQ F ?_;rcases fin (bufR v [])with f|f
  ·exact f
  ·exact absurd (.inl rfl) f
 ·simp(disch:=first|omega| (simp only[go_sem, ↓reduceIte,Nat.reduceEqDiff];done)|fail) only[go_sem, ↓reduceIte,Int.reduceToNat,Int.reduceLE,Int.reduceLT,Int.reduceSub,Int.reduceAdd,Nat.reduceEqDiff,Nat.reduceAdd,Nat.reduceLeDiff,Nat.reduceLT,Nat.reduceMul,Nat.reduceSub,F,h0];refine nv h0 (by simp(disch:=first|omega| (simp only[go_sem, ↓reduceIte,Nat.reduceEqDiff];done)|fail) only[go_sem, ↓reduceIte,Int.reduceToNat,Int.reduceLE,Int.reduceLT,Int.reduceSub,Int.reduceAdd,Nat.reduceEqDiff,Nat.reduceAdd,Nat.reduceLeDiff,Nat.reduceLT,Nat.reduceMul,Nat.reduceSub,F];rfl) tJ (by simp) (by rw[M4 (by simp)];exact dC s) ?_;try refine bg F ?_
  refine aA F ?_;refine cn hQ F ?_;rcases fin .dead with f|f
  ·exact f
  ·exact absurd (.inr rfl) f
end Go.Av
