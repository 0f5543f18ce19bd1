/- The program's state: things in the order of their numbers. Written by program (sorted4.py). -/
import Derived.Test.YtmfhelaoeaifeaaGreatMiFz
import Derived.WalkKit
import Derived.ProofKit
import Derived.OpenShut
import Derived.Deep.DeepHandedRow
import Derived.Test.YtmfhelaoeaifeaaGreatProg
import Derived.Lib.AppendZerosOnto
import Derived.Laws.CopyRow
import Derived.Lib.Overlaps
import Derived.Shelf.Spec.SlicesInsert
import Derived.Shelf.SlIterI.Nil
import Derived.Shelf.SlIter.Nil
import Derived.Shelf.SortM.Plain
import Derived.Shelf.SortM.SortNone
import Derived.Ground.GgzProg
import Derived.Ground.SlgmProg
import Derived.Ground.Names2Prog
import Derived.Shelf.Spec.SlicesInsertGrow
import Derived.Shelf.Spec.SearchS
set_option linter.unusedSimpArgs false
set_option linter.unusedVariables false
set_option linter.unusedSectionVars false
set_option linter.unnecessarySimpa false
set_option maxRecDepth 100000
set_option maxHeartbeats 16000000
namespace Go.Av
open Go Go.RowKit
theorem db{H:Heap}{p q:Nat}(b:Blk)(v:Nat)(hne:p≠q):getRow (H.set p b) q v=getRow H q v:=by
 unfold getRow;rw[List.getElem?_set_ne hne]
theorem jE{H:Heap}{p:Nat}(e n u v:Nat)(rows:List AVal)(hp:p<H.length):getRow (H.set p (.row e n u rows)) p v=if v=u then some (e,n,rows)else none:=by
 unfold getRow;rw[List.getElem?_set_self hp]
theorem bv{A l:Heap}{p:Nat}(v:Nat)(hp:p<A.length):getRow (A++l) p v=getRow A p v:=by
 unfold getRow;rw[List.getElem?_append_left hp]
theorem aX{A l:Heap}{n k:Nat}(v:Nat)(hn:A.length=n):getRow (A++l) (n+k) v=getRow l k v:=by subst hn;exact gR A l k v
theorem aG{A l:Heap}{n:Nat}(v:Nat)(hn:A.length=n):getRow (A++l) n v=getRow l 0 v:=by subst hn;exact lw A l v
theorem tK{A l:Heap}{p:Nat}(b:Blk)(hp:p<A.length):(A++l).set p b=A.set p b++l:=List.set_append_left p b hp
theorem jX{A l:Heap}{n k:Nat}(b:Blk)(hn:A.length=n):(A++l).set (n+k) b=A++l.set k b:=by subst hn;exact mj A l k b
theorem bV{A l:Heap}{n:Nat}(b:Blk)(hn:A.length=n):(A++l).set n b=A++l.set 0 b:=by subst hn;exact qm A l b
theorem aE:(∀{H:Heap} {p q:Nat} (b:Blk) (v:Nat) (_:p≠q),getRow (H.set p b) q v=getRow H q v)∧
  (∀{H:Heap} {p:Nat} (e n u v:Nat) (rows:List AVal) (_:p<H.length),getRow (H.set p (.row e n u rows)) p v=if v=u then some (e,n,rows)else none)∧
  (∀{A l:Heap} {p:Nat} (v:Nat) (_:p<A.length),getRow (A++l) p v=getRow A p v)∧
  (∀{A l:Heap} {n k:Nat} (v:Nat) (_:A.length=n),getRow (A++l) (n+k) v=getRow l k v)∧
  (∀{A l:Heap} {n:Nat} (v:Nat) (_:A.length=n),getRow (A++l) n v=getRow l 0 v)∧
  (∀{A l:Heap} {p:Nat} (b:Blk) (_:p<A.length),(A++l).set p b=A.set p b++l)∧
  (∀{A l:Heap} {n k:Nat} (b:Blk) (_:A.length=n),(A++l).set (n+k) b=A++l.set k b)∧
  (∀{A l:Heap} {n:Nat} (b:Blk) (_:A.length=n),(A++l).set n b=A++l.set 0 b)∧
  (∀(H:Heap) (i:Nat) (b:Blk),(H.set i b).length=H.length)∧(∀(H:Heap) (i:Nat) (a b:Blk),(H.set i a).set i b=H.set i b):=
 ⟨db,jE,bv,aX,aG,tK,jX,bV,fun _ _ _=>List.length_set ..,fun _ _ _ _=>List.set_set ..⟩
theorem cK{H:Heap}{p v:Nat}{x:TypeId×Nat×List AVal}(h:getRow H p v=some x):p<H.length:=by
 obtain⟨e,n,r⟩:=x
 exact(List.getElem?_eq_some_iff.1 (bZ h)).1
attribute [go_sem] List.length_set
def KeepC(h0 h1:Heap)(N:Nat):Prop:=∀(p:Nat) (k:Blk),h1[p]? =some k→h0[p]? =some k∨CloB N k
theorem KeepC.refl(h:Heap)(N:Nat):KeepC h h N:=fun _ _ h=>.inl h
theorem KeepC.app{h0 h1:Heap}{N:Nat}(g:KeepC h0 h1 N){l:Heap}(hb:∀b∈l,CloB N b):KeepC h0 (h1++l) N:=by
 intro p k hk
 rcases Nat.lt_or_ge p h1.length with h2|h2
 ·rw[List.getElem?_append_left h2]at hk;exact g p k hk
 ·rw[List.getElem?_append_right h2]at hk;exact .inr (hb k (List.mem_of_getElem? hk))
def FrN(n0:Nat)(H H':Heap):Prop:=∀p,p<n0→H'[p]? =H[p]?
theorem FrN.refl(n0:Nat)(H:Heap):FrN n0 H H:=fun _ _=>rfl
theorem FrN.set{n0:Nat}{H H':Heap}{q:Nat}(b:Blk)(hq:n0≤q)(g:FrN n0 H H'):FrN n0 H (H'.set q b):=fun p hp=>by rw[List.getElem?_set_ne (by omega)];exact g p hp
theorem FrN.app{n0:Nat}{H H':Heap}(l:Heap)(hn:n0≤H'.length)(g:FrN n0 H H'):FrN n0 H (H'++l):=fun p hp=>by rw[List.getElem?_append_left (by omega)];exact g p hp
theorem Fin.whole{h0 h1:Heap}{R:AVal→Heap→Prop}{r:AVal}(hl:h0.length≤h1.length)(hc:Clo h1.length r)(hR:R r h1):Fin h0 h1 R r:=
 ⟨h1.length,r,hl,.clo _ hc,.inl (Nat.le_refl _),by rw[List.take_length];exact hR⟩
theorem Fin.upto{h0 h1 j:Heap}{R:AVal→Heap→Prop}{r:AVal}(hl:h0.length≤h1.length)(hk:KeepC h0 h1 h1.length)(hc:Clo h1.length r)(hR:R r h1):Fin h0 (h1++j) R r:=by
 refine⟨h1.length,r,hl,.clo _ hc,.inr fun p k hp h2=>?_,by rw[List.take_left' rfl];exact hR⟩
 rw[List.getElem?_append_left hp]at h2
 rcases hk p k h2 with h3|h3
 ·exact .inl ⟨(List.getElem?_eq_some_iff.1 h3).1,h3⟩
 ·exact .inr h3
theorem CloB.row{N e n v:Nat}{rows:List AVal}(h:∀r∈rows,Clo N r):CloB N (.row e n v rows):=h
section
variable {C:Ctx}
end
end Go.Av
namespace Go.Av
open Go Go.RowKit
def ov(H:Heap)(n:Nat)(bs:List Blk):Heap:=H.take n++bs++H.drop (n+bs.length)
theorem aD{H:Heap}{n:Nat}{bs:List Blk}(hn:n+bs.length≤H.length):(ov H n bs).length=H.length:=by
 simp only[ov,List.length_append,List.length_take,List.length_drop];omega
theorem aF{H:Heap}{n:Nat}{bs:List Blk}(hn:n+bs.length≤H.length)(p:Nat):(ov H n bs)[p]? =if n≤p∧p<n+bs.length then bs[p-n]? else H[p]? :=by
 have h1:(H.take n).length=n:=by rw[List.length_take];omega
 unfold ov
 by_cases h:n≤p∧p<n+bs.length
 ·rw[if_pos h,List.getElem?_append_left (by rw[List.length_append,h1];omega),List.getElem?_append_right (by omega),h1]
 ·rw[if_neg h]
  by_cases h2:p<n
  ·rw[List.getElem?_append_left (by rw[List.length_append,h1];omega),List.getElem?_append_left (by omega),List.getElem?_take_of_lt h2]
  ·rw[List.getElem?_append_right (by rw[List.length_append,h1];omega),List.getElem?_drop,List.length_append,h1]
   congr 1;omega
theorem nv{H:Heap}{n k:Nat}{bs:List Blk}(hn:n+bs.length≤H.length)(hk:k<bs.length):(ov H n bs)[n+k]? =bs[k]? :=by
 rw[aF hn,if_pos (by omega)];congr 1;omega
theorem tM{H:Heap}{n:Nat}{bs:List Blk}(hn:n+bs.length≤H.length)(hk:0<bs.length):(ov H n bs)[n]? =bs[0]? :=nv (k:=0) hn hk
theorem fg{H:Heap}{n p:Nat}{bs:List Blk}(hn:n+bs.length≤H.length)(hp:p<n∨n+bs.length≤p):(ov H n bs)[p]? =H[p]? :=by
 rw[aF hn,if_neg (by omega)]
theorem bm{H:Heap}{n k:Nat}{bs:List Blk}(b:Blk)(hn:n+bs.length≤H.length)(hk:k<bs.length):(ov H n bs).set (n+k) b=ov H n (bs.set k b):=by
 apply List.ext_getElem?
 intro p
 have hl:(bs.set k b).length=bs.length:=List.length_set ..
 rw[List.getElem?_set,aD hn,aF hn,aF (by rw[hl];exact hn),hl,List.getElem?_set]
 by_cases h:n+k=p
 ·subst h
  rw[if_pos rfl,if_pos (by omega),if_pos (by omega),if_pos (by omega),if_pos (by omega)]
 ·rw[if_neg h]
  split
  ·rw[if_neg (by omega)]
  ·rfl
theorem fJ{H:Heap}{n:Nat}{bs:List Blk}(b:Blk)(hn:n+bs.length≤H.length)(hk:0<bs.length):(ov H n bs).set n b=ov H n (bs.set 0 b):=bm (k:=0) b hn hk
theorem dM{H:Heap}{n p:Nat}{bs:List Blk}(b:Blk)(hn:n+bs.length≤H.length)(hp:p<n∨n+bs.length≤p):(ov H n bs).set p b=ov (H.set p b) n bs:=by
 apply List.ext_getElem?
 intro q
 rw[List.getElem?_set,aD hn,aF hn,aF (by rw[List.length_set];exact hn),List.getElem?_set]
 by_cases h:p=q
 ·subst h;have:¬(n≤p∧p<n+bs.length):=by omega
  simp[this]
 ·rw[if_neg h,if_neg h]
theorem dA{H j:Heap}{n:Nat}{bs:List Blk}(hn:n+bs.length≤H.length):ov H n bs++j=ov (H++j) n bs:=by
 apply List.ext_getElem?
 intro q
 rw[aF (by rw[List.length_append];omega)]
 rcases Nat.lt_or_ge q H.length with h|h
 ·rw[List.getElem?_append_left (by rw[aD hn];exact h),aF hn,List.getElem?_append_left h]
 ·rw[List.getElem?_append_right (by rw[aD hn];exact h),aD hn,if_neg (by omega),List.getElem?_append_right h]
theorem iJ{H:Heap}{n m:Nat}{bs cs:List Blk}(hn:n+bs.length≤H.length)(hm:m+cs.length≤H.length)(hd:n+bs.length≤m∨m+cs.length≤n):ov (ov H m cs) n bs=ov (ov H n bs) m cs:=by
 apply List.ext_getElem?
 intro q
 rw[aF (by rw[aD hm];omega),aF hm,aF (by rw[aD hn];omega),aF hn]
 by_cases h1:n≤q∧q<n+bs.length
 ·rw[if_pos h1,if_neg (by omega),if_pos h1]
 ·rw[if_neg h1]
  by_cases h2:m≤q∧q<m+cs.length
  ·rw[if_pos h2,if_pos h2]
  ·rw[if_neg h2,if_neg h2,if_neg h1]
theorem ea(H:Heap)(bs:List Blk)(j:Heap):H++(bs++j)=ov (H++(bs++j)) H.length bs:=by
 unfold ov
 rw[List.take_left' rfl,List.drop_append,List.drop_of_length_le (by omega),List.nil_append,Nat.add_sub_cancel_left,List.drop_left' rfl,List.append_assoc]
theorem hG{H:Heap}{n k:Nat}{bs:List Blk}(v:Nat)(hn:n+bs.length≤H.length)(hk:k<bs.length):getRow (ov H n bs) (n+k) v=getRow bs k v:=by unfold getRow;rw[nv hn hk]
theorem fK{H:Heap}{n p:Nat}{bs:List Blk}(v:Nat)(hn:n+bs.length≤H.length)(hp:p<n∨n+bs.length≤p):getRow (ov H n bs) p v=getRow H p v:=by unfold getRow;rw[fg hn hp]
theorem bz{H:Heap}{n k:Nat}{bs:List Blk}(hn:n+bs.length≤H.length)(hk:k<bs.length):mapAt (ov H n bs) (n+k)=mapAt bs k:=by unfold mapAt;rw[nv hn hk]
theorem iK{H:Heap}{n:Nat}{bs:List Blk}(hn:n+bs.length≤H.length)(hk:0<bs.length):mapAt (ov H n bs) n=mapAt bs 0:=bz (k:=0) hn hk
theorem FrN.behind{H H':Heap}(g:FrN H.length H H')(hl:H.length≤H'.length):∃j,H'=H++j:=by
 refine⟨H'.drop H.length,?_⟩
 apply List.ext_getElem?
 intro p
 by_cases h:p<H.length
 ·rw[List.getElem?_append_left h,g p h]
 ·rw[List.getElem?_append_right (by omega),List.getElem?_drop];congr 1;omega
theorem hJ{H j:Heap}{n:Nat}{bs cs:List Blk}{R:AVal→Heap→Prop}{r:AVal}(hn:n+bs.length≤H.length)(hl:cs.length=bs.length)(hb:∀b∈cs,CloB H.length b)(hc:Clo H.length r)(hR:R r (ov H n cs)):Fin (ov H n bs) (ov (H++j) n cs) R r:=by
 rw[← dA (by omega)]
 refine Fin.keep (by rw[aD hn,aD (by omega)]) (fun p k hk=>?_) (by rw[aD hn];exact hc) hR
 rw[aF (by omega)]at hk
 rw[aD hn,aF hn]
 by_cases h:n≤p∧p<n+cs.length
 ·rw[if_pos h]at hk;exact .inr (hb k (List.mem_of_getElem? hk))
 ·rw[if_neg h]at hk;left;rw[if_neg (by omega)];exact hk
theorem mm{H:Heap}{n:Nat}{bs cs:List Blk}{R:AVal→Heap→Prop}{r:AVal}(hn:n+bs.length≤H.length)(hl:cs.length=bs.length)(hb:∀b∈cs,CloB H.length b)(hc:Clo H.length r)(hR:R r (ov H n cs)):Fin (ov H n bs) (ov H n cs) R r:=by
 have:=hJ (j:=[]) hn hl hb hc hR
 rwa [List.append_nil]at this
theorem cF{H j:Heap}{n:Nat}{bs cs:List Blk}{R:AVal→Heap→Prop}{r0 r:AVal}(hn:n+bs.length≤H.length)(hl:cs.length=bs.length)(hb:∀b∈cs,CloB H.length b)(hc:Frz (ov (H++j) n cs) H.length r0 r)(hR:R r (ov H n cs)):Fin (ov H n bs) (ov (H++j) n cs) R r0:=by
 rw[← dA (by omega)]at hc ⊢
 refine Fin.keepF (by rw[aD hn,aD (by omega)]) (fun p k hk=>?_) (by rw[aD hn];exact hc) hR
 rw[aF (by omega)]at hk
 rw[aD hn,aF hn]
 by_cases h:n≤p∧p<n+cs.length
 ·rw[if_pos h]at hk;exact .inr (hb k (List.mem_of_getElem? hk))
 ·rw[if_neg h]at hk;left;rw[if_neg (by omega)];exact hk
end Go.Av
namespace Go.Av
open Go.RowKit
section
variable {C:Ctx} {t:Env} {h:Heap}
def nopO:Oper:= {dst:=none,op:=.move (.const (.bool false)),type:=0,pos:= "",after:= #[],guard:=none}
end
end Go.Av
namespace Go.Av
open Go.RowKit
inductive ET where
 |fin
 |one (i:Nat) (m:List Bool) (s:ET)
 |two (i:Nat) (m:List Bool) (s:ET) (j:Nat) (m':List Bool) (u:ET)
def maskL:List Bool→List Oper→List Oper
 |true::m,o::l=>o::maskL m l
 |false::m,_::l=>nopO::maskL m l
 |_,_=>[]
@[go_sem] theorem aU(m:List Bool)(o:Oper)(l:List Oper):maskL (true::m) (o::l)=o::maskL m l:=(rfl)
@[go_sem] theorem aV(m:List Bool)(o:Oper)(l:List Oper):maskL (false::m) (o::l)=nopO::maskL m l:=(rfl)
@[go_sem] theorem aH(l:List Oper):maskL [] l=[]:=by cases l<;>rfl
theorem cg:∀(m:List Bool) (l:List Oper) (i:Nat),(maskL m l)[i]? =match m[i]?,l[i]? with|some true,some o=>some o|some false,some _=>some nopO|_,_=>none
 | [],l,i=>by rw[aH];simp
 |b::m,[],i=>by cases b<;>simp[maskL]
 |true::m,o::l,0=>by simp[maskL]
 |false::m,o::l,0=>by simp[maskL]
 |true::m,o::l,i+1=>by simp only[maskL,List.getElem?_cons_succ];exact cg m l i
 |false::m,o::l,i+1=>by simp only[maskL,List.getElem?_cons_succ];exact cg m l i
theorem fh:∀(m:List Bool) (l:List Oper),m.length≤l.length→(maskL m l).length=m.length
 | [],l,_=>by rw[aH];rfl
 |b::m,[],h=>by simp at h
 |true::m,o::l,h=>by simp only[maskL,List.length_cons];rw[fh m l (by simpa using h)]
 |false::m,o::l,h=>by simp only[maskL,List.length_cons];rw[fh m l (by simpa using h)]
def wrM:List Bool→List Oper→List Nat
 |true::m,o::l=>match o.dst with|some d=>d::wrM m l|none=>wrM m l
 |false::m,_::l=>wrM m l
 |_,_=>[]
@[go_sem] theorem E6(m:List Bool)(o:Oper)(l:List Oper):wrM (true::m) (o::l)=match o.dst with|some d=>d::wrM m l|none=>wrM m l:=(rfl)
@[go_sem] theorem E7(m:List Bool)(o:Oper)(l:List Oper):wrM (false::m) (o::l)=wrM m l:=(rfl)
@[go_sem] theorem vV(l:List Oper):wrM [] l=[]:=by cases l<;>rfl
theorem jY:∀(m:List Bool) (l:List Oper),wrM m l=wrOps (maskL m l)
 | [],l=>by rw[vV,aH];rfl
 |b::m,[]=>by cases b<;>rfl
 |true::m,o::l=>by
  show(match o.dst with|some d=>d::wrM m l|none=>wrM m l)=(match o.dst with|some d=>d::wrOps (maskL m l)|none=>wrOps (maskL m l))
  rw[jY m l]
 |false::m,o::l=>by simp only[wrM,maskL,wrOps,nopO];rw[jY m l]
def freeO(o:Oper):Bool:=match o.op with
 | .move _| .assign _| .pick _ _ _| .extract _ _| .field _ _ _| .build _ _| .unOp _ _ _=>true
 |_=>false
def okI(ops:Array Oper)(b:Array Nat)(k:Nat)(es:List Nat)(i:Nat)(m:List Bool)(X:List Nat):Bool:=
 es.contains i&& !X.contains i&&(es.all fun x=> !(b.getD i 0).testBit x||X.contains x)&&
 ((List.range k).all fun p=>es.contains p||m.getD p false||(decide (p<i)&&(b.getD i 0).testBit p)||(es.any fun x=>X.contains x&&decide (p<x)&&(b.getD x 0).testBit p)||(ops[p]?.any freeO))&&
 ((List.range m.length).all fun p=> !m.getD p false||(decide (p<k)&& !es.contains p))&&decide (m.length≤k)
def okO(b:Array Nat)(es X is:List Nat):Bool:=
 es.all fun x=>X.contains x||is.contains x||es.any fun y=> !X.contains y&&decide (y<x)&&(b.getD x 0).testBit y
def okE(ops:Array Oper)(b:Array Nat)(k:Nat)(es:List Nat):ET→List Nat→Bool
 | .fin,X=>es.all X.contains
 | .one i m s,X=>okI ops b k es i m X&&okO b es X [i]&&okE ops b k es s (i::X)
 | .two i m s j m' u,X=>okI ops b k es i m X&&okI ops b k es j m' X&&okO b es X [i,j]&&okE ops b k es s (i::X)&&okE ops b k es u (j::X)
def chkE(l:List Oper)(k:Nat)(es:List Nat)(m0:List Bool)(tr:ET):Bool:=
 let ops:=l.toArray
 let b:=Region.before ops
 preOkG false ops k&&decide (k≤l.length)&&
 ((List.range k).all fun i=>(List.range k).all fun j=>match ops[i]?,ops[j]? with
  |some oi,some oj=>match oj.dst with
   |some d=> !(oi.looksAt ops).contains d||(decide (j<i)&&(b.getD i 0).testBit j&&(es.contains i|| !es.contains j))
   |none=>true
  |_,_=>true)&&
 ((List.range k).all fun i=>es.contains i||(ops[i]?.any fun o=>o.dst.isSome))&&
 (es.all fun e=>decide (e<k))&&m0==(List.range k).map (fun i=> !es.contains i)&&okE ops b k es tr []
section
variable {C:Ctx} {t:Env} {h:Heap}
def stepE(C:Ctx)(l:List Oper)(t0:Env)(i:Nat)(m:List Bool)(P:Env→Heap→Prop)(tc:Env)(h:Heap):Prop:=
 need (l[i]?) fun o=>wpOperV C l.toArray o tc h fun v h'=>(WPp C l.toArray (maskL m l) t0 h' fun t''=>agrL (wrM m l) t'' t0)∧P (put tc o.dst v) h'
def WPe(C:Ctx)(Q:Exit→Env→Heap→Prop)(l:List Oper)(k:Nat)(t0:Env):ET→Env→Heap→Prop
 | .fin,tc,h=>WPl C l.toArray Q (l.drop k) tc h
 | .one i m s,tc,h=>stepE C l t0 i m (WPe C Q l k t0 s) tc h
 | .two i m s j m' u,tc,h=>stepE C l t0 i m (WPe C Q l k t0 s) tc h∧stepE C l t0 j m' (WPe C Q l k t0 u) tc h
theorem oV{ops:Array Oper}{o:Oper}{s:Env}(hf:freeO o=true){v:AVal}(g:∀KK:AVal→Heap→Prop,KK v h→wpOperV C ops o s h KK)(h':Heap):∀KK:AVal→Heap→Prop,KK v h'→wpOperV C ops o s h' KK:=by
 intro KK hk
 have g:=g (fun v' _=>KK v' h') hk
 have key:∀K:AVal→Heap→Prop,wpOp C o.op s h (fun v' _=>K v' h')=wpOp C o.op s h' K:=by
  intro K
  unfold freeO at hf
  cases ho:o.op<;>rw[ho]at hf<;>first| (cases hf;done)|rfl
 unfold wpOperV at g ⊢
 cases hg:o.guard with
 |none=>rw[hg]at g;simp only at g ⊢;rw[← key];exact g
 |some q=>
  obtain⟨j,w⟩:=q
  rw[hg]at g
  simp only at g ⊢
  cases hq:guardA ops s j with
  |none=>rw[hq]at g;exact g
  |some b=>rw[hq]at g;simp only at g ⊢;rw[← key];exact g
theorem jZ{V:Nat→AVal}(l:List Oper)(t:Env)(hu:∀(i j:Nat) (oi oj:Oper) (d:Nat),l[i]? =some oi→l[j]? =some oj→oi.dst=some d→oj.dst=some d→i=j):
  ∀i,i≤l.length→(∀(j:Nat) (o:Oper) (d:Nat),j<i→l[j]? =some o→o.dst=some d→Av.T V l t i d=V j)∧(∀d,(∀(j:Nat) (o:Oper),j<i→l[j]? =some o→o.dst≠some d)→Av.T V l t i d=t d)
 |0,_=>⟨fun j o d hj=>by omega,fun d _=>by rw[eY]⟩
 |i+1,hi=>by
  obtain⟨h1,h2⟩:=jZ l t hu i (by omega)
  have ho:l[i]? =some (l[i]'(by omega)):=List.getElem?_eq_getElem _
  rw[dz V l t i _ ho]
  generalize l[i]=o at ho
  refine⟨fun j oj d hj hoj hd=>?_,fun d hn=>?_⟩
  ·by_cases hji:j=i
   ·subst hji
    rw[ho]at hoj;cases hoj
    simp[put,hd,upd]
   ·have hne:o.dst≠some d:=fun e=>hji (hu j i oj o d hoj ho hd e)
    have:put (Av.T V l t i) o.dst (V i) d=Av.T V l t i d:=by
     cases hdo:o.dst with
     |none=>rfl
     |some x=>simp only[put,upd];rw[if_neg];intro e;subst e;exact hne hdo
    rw[this];exact h1 j oj d (by omega) hoj hd
  ·have hne:o.dst≠some d:=hn i o (by omega) ho
   have:put (Av.T V l t i) o.dst (V i) d=Av.T V l t i d:=by
    cases hdo:o.dst with
    |none=>rfl
    |some x=>simp only[put,upd];rw[if_neg];intro e;subst e;exact hne hdo
   rw[this];exact h2 d fun j oj hj hoj=>hn j oj (by omega) hoj
theorem Ag.upd'{ops:Array Oper}{k:Nat}{V:Nat→AVal}{t s:Env}{p:Nat→Bool}(g:Ag ops k V t p s){i:Nat}(hp:p i=false)(v:AVal):Ag ops k (fun j=>if j=i then v else V j) t p s:=
 ⟨fun j o x hj ho hpj hd=>by
  have:j≠i:=fun e=>by subst e;rw[hp]at hpj;cases hpj
  simp only[if_neg this];exact g.1 j o x hj ho hpj hd,g.2⟩
theorem Ag.congr'{ops:Array Oper}{k:Nat}{V:Nat→AVal}{t s:Env}{p p':Nat→Bool}(g:Ag ops k V t p s)(hp:∀j,j<k→p' j=p j):Ag ops k V t p' s:=
 ⟨fun j o x hj ho hpj hd=>g.1 j o x hj ho (by rw[← hp j hj];exact hpj) hd,fun x hn=>g.2 x fun j o hj ho hpj=>hn j o hj ho (by rw[hp j hj];exact hpj)⟩
theorem nw{l:List Oper}{Q:Exit→Env→Heap→Prop}{k:Nat}{es:List Nat}{t0 t:Env}(D:PreOk l.toArray k fun i j=>((Region.before l.toArray).getD j 0).testBit i)(hkn:k≤l.length)
  (c4:∀(i j:Nat) (oi oj:Oper) (d:Nat),i<k→j<k→l[i]? =some oi→l[j]? =some oj→oj.dst=some d→d∈oi.looksAt l.toArray→j<i∧((Region.before l.toArray).getD i 0).testBit j=true∧(es.contains i=true∨es.contains j=false))
  (c7:∀(i:Nat) (o:Oper),i<k→es.contains i=false→l[i]? =some o→o.dst.isSome=true)(hes:∀e,es.contains e=true→e<k)
  (hA:detGo .any l.toArray (l.length-k) (listK l.length k)=some (List.range' k (l.length-k))):
  ∀(fuel n:Nat) (L:Array Bool) (s:Env) (tr:ET) (V:Nat→AVal) (tc:Env) (h:Heap) (X:List Nat),L.size=l.length→left l.toArray L=fuel→Closed l.toArray L→(∀j,j<l.length→L.getD j false=true→j<k)→
   (∀j,es.contains j=true→(L.getD j false=X.contains j))→okE l.toArray (Region.before l.toArray) k es tr X=true→
   Ag l.toArray k V t (fun j=>L.getD j false) s→Ag l.toArray k V t (fun j=> !es.contains j) t0→Ag l.toArray k V t (fun j=> !es.contains j||X.contains j) tc→
   (∀(i:Nat) (o:Oper),i<k→es.contains i=false→L.getD i false=false→l[i]? =some o→∀KK:AVal→Heap→Prop,KK (V i) h→wpOperV C l.toArray o t0 h KK)→WPe C Q l k t0 tr tc h→
   WPix C l.toArray Q (Region.linearise.go .any l.toArray fuel n L []) s h:=by
 have hsee:∀{V:Nat→AVal} {s s':Env} {p p':Nat→Bool} {i:Nat} {o:Oper},Ag l.toArray k V t p s→Ag l.toArray k V t p' s'→i<k→l[i]? =some o→
   (∀j,j<i→((Region.before l.toArray).getD i 0).testBit j=true→(es.contains i=true∨es.contains j=false)→p j=true∧p' j=true)→∀d∈o.looksAt l.toArray,s d=s' d:=by
  intro V s s' p p' i o g g' hi ho hp d hd
  by_cases hx:∃(j:Nat) (oj:Oper),j<k∧l[j]? =some oj∧oj.dst=some d
  ·obtain⟨j,oj,h1,h2,h3⟩:=hx
   obtain⟨h4,h5,h6⟩:=c4 i j o oj d hi h1 ho h2 h3 hd
   obtain⟨h7,h8⟩:=hp j h4 h5 h6
   rw[g.1 j oj d h1 (by simpa using h2) h7 h3,g'.1 j oj d h1 (by simpa using h2) h8 h3]
  ·have hn:∀(j:Nat) (oj:Oper),j<k→l.toArray[j]? =some oj→oj.dst≠some d:=fun j oj h1 h2 h3=>hx ⟨j,oj,h1,by simpa using h2,h3⟩
   rw[g.2 d fun j oj h1 h2 _=>hn j oj h1 h2,g'.2 d fun j oj h1 h2 _=>hn j oj h1 h2]
 intro fuel
 induction fuel with
 |zero=>
  intro n L s tr V tc h X hs hl cl hlt hX hok ag ag0 agc hv hw
  have hall:=cR (by simpa using hs) hl
  cases tr with
  |fin=>
   have hk:k=l.length:=by
    apply Classical.byContradiction
    intro hne
    have:=hlt k (by omega) (hall k (by simp;omega))
    omega
   subst hk
   simp only[Region.linearise.go,List.reverse_nil,WPix]
   simp only[WPe,List.drop_length,WPl]at hw
   have e:s=tc:=by
    refine Ag.eq (p:=fun _=>true) (ag.congr' fun j hj=>?_) (agc.congr' fun j hj=>?_)
    ·exact(hall j (by simpa using hj)).symm
    ·cases hc:es.contains j with
     |false=>rfl
     |true=>rw[← hX j hc,hall j (by simpa using hj)];rfl
   rw[e];exact hw
  |one i m u=>
   simp only[okE,okI,Bool.and_eq_true,Bool.not_eq_true']at hok
   have h1:=hok.1.1.1.1.1.1.1
   have h2:=hok.1.1.1.1.1.1.2
   have:=hall i (by have:=hes i h1;simp;omega)
   rw[hX i h1,h2]at this;cases this
  |two i m u j m' u'=>
   simp only[okE,okI,Bool.and_eq_true,Bool.not_eq_true']at hok
   have h1:=hok.1.1.1.1.1.1.1.1.1
   have h2:=hok.1.1.1.1.1.1.1.1.2
   have:=hall i (by have:=hes i h1;simp;omega)
   rw[hX i h1,h2]at this;cases this
 |succ fuel ih=>
  intro n L s tr V tc h X hs hl cl hlt hX hok ag ag0 agc hv hw
  have bef:∀(i:Nat) (o:Oper),i<k→l[i]? =some o→(∀e∈o.after,Region.binds .any e=true→L.getD e.on false=true)→∀j,j<i→((Region.before l.toArray).getD i 0).testBit j=true→L.getD j false=true:=
   fun i o hi ho hrd j hj hc=>D.bef cl i o (by simpa using ho) hi j hj hc hrd
  by_cases hfin:tr=.fin
  ·subst hfin
   simp only[okE,List.all_eq_true]at hok
   have hXe:∀j,es.contains j=true→L.getD j false=true:=fun j hj=>by rw[hX j hj];exact hok j (by simpa using hj)
   have hTT:=D.ag_T V t (by simpa using hkn) k (Nat.le_refl _)
   refine da D .any D.less (by simpa using hkn) (V:=V) (t0:=t) (fun j=>es.contains j=false∧L.getD j false=false) (fun i o ho hoi KK hkk=>?_) ?_ _ _ _ _ (by simpa using hs) hl cl (by simpa using hlt) (fun j hj hlj=>?_) ag
   ·have hik:i<k:=by
     refine Nat.lt_of_not_le fun hle=>?_
     rw[List.getElem?_take,if_neg (by omega)]at ho;cases ho
    have hoi':l[i]? =some o:=by rw[List.getElem?_take,if_pos hik]at ho;simpa using ho
    have:=hv i o hik hoi.1 hoi.2 hoi' KK hkk
    rw[← ba (hsee ag0 (D.ag_T V t (by simpa using hkn) i (by omega)) hik hoi' fun j hj hb he=>?_)]
    ·exact this
    ·rcases he with he|he
     ·rw[hoi.1]at he;cases he
     ·exact⟨by simp only[he];rfl,by simpa using hj⟩
   ·have:=jV (ops:=l.toArray) (Q:=Q) (md:=.any) _ _ _ (l.drop k) tc h hA (by rw[jW (by omega),List.take_of_length_le (by simp)]) hw
    have e:Av.T V (l.toArray.toList.take k) t k=tc:=by
     refine Ag.eq (p:=fun _=>true) (hTT.congr' fun j hj=>?_) (agc.congr' fun j hj=>?_)
     ·simpa using hj
     ·cases hc:es.contains j with
      |false=>rfl
      |true=>have:=hok j (by simpa using hc);simp only[this];rfl
    rw[e]
    simpa using this
   ·refine⟨?_,hlj⟩
    cases hc:es.contains j with
    |false=>rfl
    |true=>rw[hXe j hc]at hlj;cases hlj
  ·
   obtain⟨e0,he0,hX0⟩:∃e0,es.contains e0=true∧X.contains e0=false:=by
    cases tr with
    |fin=>exact absurd rfl hfin
    |one i m u=>
     simp only[okE,okI,Bool.and_eq_true,Bool.not_eq_true']at hok
     exact⟨i,hok.1.1.1.1.1.1.1,hok.1.1.1.1.1.1.2⟩
    |two i m u j m' u'=>
     simp only[okE,okI,Bool.and_eq_true,Bool.not_eq_true']at hok
     exact⟨i,hok.1.1.1.1.1.1.1.1.1,hok.1.1.1.1.1.1.1.1.2⟩
   have hek:=hes e0 he0
   have heun:L.getD e0 false=false:=by rw[hX e0 he0];exact hX0
   have hne:Region.ready .any l.toArray L≠ []:=by
    have hmin:∃i,i<k∧L.getD i false=false∧∀j,j<i→L.getD j false=true:=by
     obtain⟨i,hi,hl⟩:∃i,i<k∧L.getD i false=false:=⟨e0,hek,heun⟩
     induction i using Nat.strongRecOn with
     |ind i ih=>
      by_cases hall:∀j,j<i→L.getD j false=true
      ·exact⟨i,hi,hl,hall⟩
      ·have:∃j,j<i∧L.getD j false=false:=Classical.byContradiction fun hno=>hall fun j hj=>by
        cases hlj:L.getD j false with
        |true=>rfl
        |false=>exact absurd ⟨j,hj,hlj⟩ hno
       obtain⟨j,hj,hlj⟩:=this
       exact ih j hj (by omega) hlj
    obtain⟨i,hi,hl,hall⟩:=hmin
    have hin:i<l.toArray.size:=by simp;omega
    have h3:i<L.size:=by omega
    intro e
    have:i∈Region.ready .any l.toArray L:=mem_ready.2 ⟨by simp[h3]at hl ⊢;exact hl,l.toArray[i],Array.getElem?_eq_getElem hin,fun e he hb=>hall _ (D.less i _ (Array.getElem?_eq_getElem hin) hi e he hb)⟩
    rw[e]at this;cases this
   obtain⟨i,hi,hmem⟩:=bQ hne n
   obtain⟨hun,o,ho,hrd⟩:=mem_ready.1 hmem
   have hin:=(Array.getElem?_eq_some_iff.1 ho).1
   have hin':i<l.length:=by simpa using hin
   have h3:i<L.size:=by omega
   have ho':l[i]? =some o:=by simpa using ho
   have hun':L.getD i false=false:=by simp[h3]at hun ⊢;exact hun
   have hik:i<k:=by
    refine Nat.lt_of_not_le fun hle=>?_
    obtain⟨e1,he1,hb,h1⟩:=D.sfx e0 i o ho hek hle
    have h2:=hrd e1 he1 hb
    have hkl:L.getD e0 false=true:=by
     rcases h1 with rfl| ⟨h4,h5,h6⟩
     ·exact h2
     ·have hoe:l.toArray[e1.on]? =some (l.toArray[e1.on]'(by simp;omega)):=Array.getElem?_eq_getElem (by simp;omega)
      exact D.bef cl e1.on _ hoe h4 e0 h5 h6 fun e' he' hb'=>cl e1.on _ hoe h2 e' he' hb'
    rw[heun]at hkl;cases hkl
   rw[cB .any l.toArray fuel n L hi]
   simp only[WPix,ho]
   rw[cy]
   have hb:=bef i o hik ho' hrd
   have agn:∀{V:Nat→AVal},Ag l.toArray k V t (fun j=>L.getD j false) s→Ag l.toArray k V t (fun j=>(L.setIfInBounds i true).getD j false) (put s o.dst (V i)):=fun ag=>by
    refine D.ag_put ag ho hik fun j hj=>?_
    by_cases hji:i=j
    ·subst hji;simp[h3]
    ·rw[getD_set_ne false hji]
     have:(j==i)=false:=by simp;exact fun e=>hji e.symm
     rw[this,Bool.or_false]
   have hlt':∀j,j<l.length→(L.setIfInBounds i true).getD j false=true→j<k:=fun j hj hlj=>by
    by_cases hji:i=j
    ·subst hji;exact hik
    ·rw[getD_set_ne false hji]at hlj;exact hlt j hj hlj
   have hls:left l.toArray (L.setIfInBounds i true)=fuel:=by have:=cA (by simpa using hs) hin hun';omega
   cases hic:es.contains i with
   |false=>
    have h9:=hv i o hik hic hun' ho'
    rw[← ba (hsee ag0 ag hik ho' fun j hj hbt he=>?_)]
    ·refine h9 _ ?_
     refine ih _ _ _ tr V tc h X (by simpa using hs) hls (cl.set ho hrd) hlt' (fun j hj=>?_) hok (agn ag) ag0 agc (fun j oj hj hjc hjl hoj=>?_) hw
     ·have:i≠j:=fun e=>by subst e;rw[hic]at hj;cases hj
      rw[getD_set_ne false this];exact hX j hj
     ·have:i≠j:=fun e=>by subst e;simp[h3]at hjl
      rw[getD_set_ne false this]at hjl
      exact hv j oj hj hjc hjl hoj
    ·rcases he with he|he
     ·rw[hic]at he;cases he
     ·exact⟨by simp only[he];rfl,hb j hj hbt⟩
   |true=>
    have hiX:X.contains i=false:=by rw[← hX i hic];exact hun'
    have eff:∀(m:List Bool) (u:ET),okI l.toArray (Region.before l.toArray) k es i m X=true→okE l.toArray (Region.before l.toArray) k es u (i::X)=true→stepE C l t0 i m (WPe C Q l k t0 u) tc h→
      wpOperV C l.toArray o s h fun v h'=>WPix C l.toArray Q (Region.linearise.go .any l.toArray fuel (n/(Region.ready .any l.toArray L).length) (L.setIfInBounds i true) []) (put s o.dst v) h':=by
     intro m u hoI hoE hst
     simp only[stepE,ho',aY]at hst
     rw[← ba (hsee agc ag hik ho' fun j hj hbt _=>?_)]
     ·refine bR hst fun v h' ⟨hre,hnx⟩=>?_
      have agV:=ag.upd' (i:=i) (by simpa using hun') v
      have ag0V:=ag0.upd' (i:=i) (by simp only[hic];rfl) v
      have agcV:=agc.upd' (i:=i) (by simp only[hic,hiX];rfl) v
      have e1:=agn agV
      simp only[if_true]at e1
      refine ih _ _ _ u (fun j=>if j=i then v else V j) (put tc o.dst v) h' (i::X) (by simpa using hs) hls (cl.set ho hrd) hlt' (fun j hj=>?_) hoE e1 ag0V ?_ (fun p op hp hpc hpl hop=>?_) hnx
      ·by_cases hji:i=j
       ·subst hji;simp[h3]
       ·rw[getD_set_ne false hji,hX j hj]
        rw[List.contains_cons]
        have:(j==i)=false:=by simp;exact fun e=>hji e.symm
        rw[this,Bool.false_or]
      ·have:=D.ag_put (V:=fun j=>if j=i then v else V j) (p':=fun j=> !es.contains j||(i::X).contains j) agcV ho hik fun j hj=>by
        rw[List.contains_cons,Bool.or_comm (j==i),Bool.or_assoc]
       simpa using this
      ·have hpi:i≠p:=fun e=>by subst e;rw[hic]at hpc;cases hpc
       rw[getD_set_ne false hpi]at hpl
       simp only[if_neg (fun e=>hpi e.symm:¬p=i)]
       simp only[okI,Bool.and_eq_true,List.all_eq_true,List.mem_range,Bool.or_eq_true,Bool.not_eq_true',decide_eq_true_eq]at hoI
       obtain⟨⟨⟨⟨⟨_,_⟩,_⟩,hms⟩,hml⟩,hmk⟩:=hoI
       rcases hms p hp with(((h4|h4)|h4)|h4)|h4
       ·rw[hpc]at h4;cases h4
       ·
        obtain⟨V2,hv2,hK2⟩:=bP _ _ hre
        rw[jY]at hK2
        have hmlen:m.length≤l.length:=by omega
        have hget:∀q oq,(maskL m l)[q]? =some oq→oq=nopO∨(m.getD q false=true∧l[q]? =some oq):=fun q oq hq=>by
         rw[cg]at hq
         split at hq
         ·rename_i h5 h6;cases hq;exact .inr ⟨by simp[List.getD,h5],h6⟩
         ·cases hq;exact .inl rfl
         ·cases hq
        have hgm:∀q oq,m.getD q false=true→l[q]? =some oq→(maskL m l)[q]? =some oq:=fun q oq h5 h6=>by
         rw[cg]
         have:m[q]? =some true:=by
          cases hm:m[q]? with
          |none=>simp[List.getD,hm]at h5
          |some b=>simp[List.getD,hm]at h5;subst h5;rfl
         rw[this,h6]
        have hmP:∀q,m.getD q false=true→q<k∧es.contains q=false:=fun q h5=>by
         have hq:q<m.length:=by
          apply Classical.byContradiction
          intro hn
          rw[List.getD,List.getElem?_eq_none (by omega)]at h5;cases h5
         rcases hml q hq with h6|h6
         ·rw[h5]at h6;cases h6
         ·exact h6
        have hu:∀(a b:Nat) (oa ob:Oper) (d:Nat),(maskL m l)[a]? =some oa→(maskL m l)[b]? =some ob→oa.dst=some d→ob.dst=some d→a=b:=fun a b oa ob d h5 h6 h7 h8=>by
         rcases hget a oa h5 with rfl| ⟨ha,hoa⟩
         ·cases h7
         rcases hget b ob h6 with rfl| ⟨hb',hob⟩
         ·cases h8
         rcases Nat.lt_trichotomy a b with h9|h9|h9
         ·exact absurd h8 ((D.pre a b oa ob (by simpa using hoa) (by simpa using hob) h9 (hmP b hb').1).2 d h7)
         ·exact h9
         ·exact absurd h7 ((D.pre b a ob oa (by simpa using hob) (by simpa using hoa) h9 (hmP a ha).1).2 d h8)
        have hT:=fun q (hq:q≤(maskL m l).length)=>jZ (V:=V2) (maskL m l) t0 hu q hq
        have hV2:∀q oq d,(maskL m l)[q]? =some oq→oq.dst=some d→V2 q=t0 d:=fun q oq d h5 h6=>by
         have h7:=gB hK2 d (iI h5 h6)
         rw[(hT _ (Nat.le_refl _)).1 q oq d (List.getElem?_eq_some_iff.1 h5).1 h5 h6]at h7
         exact h7
        have hTt:∀q,q≤(maskL m l).length→Av.T V2 (maskL m l) t0 q=t0:=fun q hq=>by
         funext d
         by_cases hx:∃(a:Nat) (oa:Oper),a<q∧(maskL m l)[a]? =some oa∧oa.dst=some d
         ·obtain⟨a,oa,h5,h6,h7⟩:=hx
          rw[(hT q hq).1 a oa d h5 h6 h7,hV2 a oa d h6 h7]
         ·exact(hT q hq).2 d fun a oa h5 h6 h7=>hx ⟨a,oa,h5,h6,h7⟩
        have hg:=hgm p op h4 hop
        have:=hv2 p op hg
        rw[hTt p (Nat.le_of_lt (List.getElem?_eq_some_iff.1 hg).1)]at this
        obtain⟨d,hd⟩:=Option.isSome_iff_exists.1 (c7 p op hp hpc hop)
        have h5:V2 p=V p:=by
         rw[hV2 p op d hg hd]
         exact ag0.1 p op d hp (by simpa using hop) (by simp only[hpc];rfl) hd
        rw[h5]at this
        exact this
       ·
        rw[hb p h4.1 h4.2]at hpl;cases hpl
       ·
        obtain⟨x,hxe,hx⟩:=List.any_eq_true.1 h4
        simp only[Bool.and_eq_true,decide_eq_true_eq]at hx
        have hxe':es.contains x=true:=by simpa using hxe
        have hxk:=hes x hxe'
        have hxl:L.getD x false=true:=by rw[hX x hxe'];exact hx.1.1
        have hox:l.toArray[x]? =some (l.toArray[x]'(by simp;omega)):=Array.getElem?_eq_getElem (by simp;omega)
        have:=D.bef cl x _ hox hxk p hx.1.2 hx.2 (fun e he hbd=>cl x _ hox hxl e he hbd)
        rw[this]at hpl;cases hpl
       ·rw[List.getElem?_toArray,hop]at h4
        exact oV (by simpa using h4) (hv p op hp hpc hpl hop) h'
     ·have hLj:=hb j hj hbt
      refine⟨?_,hLj⟩
      cases hc:es.contains j with
      |false=>rfl
      |true=>rw[← hX j hc,hLj];rfl
    have other:∀is:List Nat,okO (Region.before l.toArray) es X is=true→is.contains i=true:=fun is ho=>by
     simp only[okO,List.all_eq_true,Bool.or_eq_true]at ho
     rcases ho i (by simpa using hic)with(h4|h4)|h4
     ·rw[hiX]at h4;cases h4
     ·exact h4
     ·obtain⟨y,hy,h5⟩:=List.any_eq_true.1 h4
      simp only[Bool.and_eq_true,Bool.not_eq_true',decide_eq_true_eq]at h5
      have:=hb y h5.1.2 h5.2
      rw[hX y (by simpa using hy),h5.1.1]at this;cases this
    cases tr with
    |fin=>exact absurd rfl hfin
    |one i' m u=>
     simp only[okE,Bool.and_eq_true]at hok
     have:i=i':=by simpa using other [i'] hok.1.2
     subst this
     exact eff m u hok.1.1 hok.2 hw
    |two i' m u j' m' u'=>
     simp only[okE,Bool.and_eq_true]at hok
     have:i=i'∨i=j':=by simpa using other [i',j'] hok.1.1.2
     rcases this with rfl|rfl
     ·exact eff m u hok.1.1.1.1 hok.1.2 hw.1
     ·exact eff m' u' hok.1.1.1.2 hok.2 hw.2
theorem aI{id:Nat}{l:List Oper}{Q:Exit→Env→Heap→Prop}(k:Nat)(es:List Nat)(m0:List Bool)(tr:ET)(hok:chkE l k es m0 tr=true)(hm:C.P.follows .mixedOrders=true)
  (hA:detGo .any l.toArray (l.length-k) (listK l.length k)=some (List.range' k (l.length-k)))
  (hh:WPp C l.toArray (maskL m0 l) t h fun t0=>WPe C Q l k t0 tr t0 h):WP C (.region id l.toArray true) Q t h:=by
 unfold chkE at hok
 simp only[Bool.and_eq_true,decide_eq_true_eq,beq_iff_eq]at hok
 obtain⟨⟨⟨⟨⟨⟨hpre,hkn⟩,hc4⟩,hc7⟩,hes⟩,hm0⟩,hE⟩:=hok
 have D:=dP hpre
 simp only[List.all_eq_true,List.mem_range]at hc4 hc7
 have c4:∀(i j:Nat) (oi oj:Oper) (d:Nat),i<k→j<k→l[i]? =some oi→l[j]? =some oj→oj.dst=some d→d∈oi.looksAt l.toArray→j<i∧((Region.before l.toArray).getD i 0).testBit j=true∧(es.contains i=true∨es.contains j=false):=by
  intro i j oi oj d hi hj hoi hoj hd hl
  have:=hc4 i hi j hj
  rw[List.getElem?_toArray,List.getElem?_toArray,hoi,hoj]at this
  simp only[hd,Bool.or_eq_true,Bool.and_eq_true,Bool.not_eq_true',decide_eq_true_eq]at this
  rcases this with h1|h1
  ·have:(oi.looksAt l.toArray).contains d=true:=by simpa using hl
   rw[h1]at this;cases this
  ·exact⟨h1.1.1,h1.1.2,h1.2⟩
 have c7:∀(i:Nat) (o:Oper),i<k→es.contains i=false→l[i]? =some o→o.dst.isSome=true:=by
  intro i o hi he ho
  have:=hc7 i hi
  rw[List.getElem?_toArray,ho,he]at this
  simpa using this
 have hes':∀e,es.contains e=true→e<k:=fun e he=>by
  have:=List.all_eq_true.1 hes e (by simpa using he)
  simpa using this
 obtain⟨V,hv,hK⟩:=bP _ _ hh
 have hm0l:m0.length=k:=by rw[hm0];simp
 have hml:=fh m0 l (by omega)
 have hm0g:∀q,q<k→m0[q]? =some (!es.contains q):=fun q hq=>by rw[hm0];simp[hq]
 have hget:∀q oq,(maskL m0 l)[q]? =some oq→oq=nopO∨(q<k∧es.contains q=false∧l[q]? =some oq):=fun q oq hq=>by
  have hqk:q<k:=by have:=(List.getElem?_eq_some_iff.1 hq).1;omega
  rw[cg,hm0g q hqk]at hq
  cases hc:es.contains q with
  |true=>rw[hc]at hq;cases hl:l[q]? with
   |none=>rw[hl]at hq;cases hq
   |some o=>rw[hl]at hq;cases hq;exact .inl rfl
  |false=>rw[hc]at hq;cases hl:l[q]? with
   |none=>rw[hl]at hq;cases hq
   |some o=>rw[hl]at hq;cases hq;exact .inr ⟨hqk,rfl,rfl⟩
 have hgm:∀q oq,q<k→es.contains q=false→l[q]? =some oq→(maskL m0 l)[q]? =some oq:=fun q oq hq hc h6=>by
  rw[cg,hm0g q hq,hc,h6];rfl
 have hu:∀(a b:Nat) (oa ob:Oper) (d:Nat),(maskL m0 l)[a]? =some oa→(maskL m0 l)[b]? =some ob→oa.dst=some d→ob.dst=some d→a=b:=fun a b oa ob d h5 h6 h7 h8=>by
  rcases hget a oa h5 with rfl| ⟨ha,_,hoa⟩
  ·cases h7
  rcases hget b ob h6 with rfl| ⟨hb',_,hob⟩
  ·cases h8
  rcases Nat.lt_trichotomy a b with h9|h9|h9
  ·exact absurd h8 ((D.pre a b oa ob (by simpa using hoa) (by simpa using hob) h9 hb').2 d h7)
  ·exact h9
  ·exact absurd h7 ((D.pre b a ob oa (by simpa using hob) (by simpa using hoa) h9 ha).2 d h8)
 have hT:=fun q (hq:q≤(maskL m0 l).length)=>jZ (V:=V) (maskL m0 l) t hu q hq
 generalize ht0:Av.T V (maskL m0 l) t (maskL m0 l).length=t0 at hK
 have ag0:Ag l.toArray k V t (fun j=> !es.contains j) t0:=by
  rw[← ht0]
  refine⟨fun j o x hj ho hp hd=>?_,fun x hn=>?_⟩
  ·have hc:es.contains j=false:=by simpa using hp
   exact(hT _ (Nat.le_refl _)).1 j o x (by omega) (hgm j o hj hc (by simpa using ho)) hd
  ·refine(hT _ (Nat.le_refl _)).2 x fun j o hj ho hd=>?_
   rcases hget j o ho with rfl| ⟨h1,h2,h3⟩
   ·cases hd
   ·exact hn j o h1 (by simpa using h3) (by simp only[h2];rfl) hd
 have main:∀n,WPix C l.toArray Q (Region.linearise .any l.toArray n) t h:=fun n=>by
  unfold Region.linearise
  refine nw D hkn c4 c7 hes' hA _ n _ t tr V t0 h [] (by simp) ?_ (fun j oj hj hl=>?_) (fun j hj hl=>?_) (fun j hj=>?_) hE (Ag.start _ _ _ _ fun j hj=>?_) ag0 (ag0.congr' fun j hj=>by simp) (fun i o hi hc _ ho KK hkk=>?_) hK
  ·unfold left
   have:(List.range l.toArray.size).filter (fun i=> !(Array.replicate l.toArray.size false).getD i true)=List.range l.toArray.size:=by
    rw[List.filter_eq_self]
    intro i hi
    have:=List.mem_range.1 hi
    simp at this ⊢
    simp[this]
   rw[this,List.length_range]
  ·have h8:=(Array.getElem?_eq_some_iff.1 hj).1
   simp at h8 hl
   simp[h8]at hl
  ·simp at hl
   simp[hj]at hl
  ·have:=hes' j hj
   have:j<l.length:=by omega
   simp[this]
  ·have:j<l.length:=by omega
   simp[this]
  ·have hg:=hgm i o hi hc ho
   have:=hv i o hg KK hkk
   have hil:i≤(maskL m0 l).length:=by omega
   rw[ba (t2:=t0) fun d hd=>?_]at this
   ·exact this
   ·by_cases hx:∃(j:Nat) (oj:Oper),j<k∧l[j]? =some oj∧oj.dst=some d
    ·obtain⟨j,oj,h1,h2,h3⟩:=hx
     obtain⟨h4,_,h5⟩:=c4 i j o oj d hi h1 ho h2 h3 hd
     have hcj:es.contains j=false:=by
      rcases h5 with h5|h5
      ·rw[hc]at h5;cases h5
      ·exact h5
     rw[(hT i hil).1 j oj d h4 (hgm j oj h1 hcj h2) h3,ag0.1 j oj d h1 (by simpa using h2) (by simp only[hcj];rfl) h3]
    ·rw[(hT i hil).2 d fun j oj h1 h2 h3=>?_,ag0.2 d fun j oj h1 h2 _ h3=>hx ⟨j,oj,h1,by simpa using h2,h3⟩]
     rcases hget j oj h2 with rfl| ⟨h5,_,h6⟩
     ·cases h3
     ·exact hx ⟨j,oj,h5,h6,h3⟩
 show ∀tp,WPix C l.toArray Q (Region.schedule (C.P.follows .mixedOrders) l.toArray tp) t h
 intro tp
 unfold Region.schedule
 rw[hm]
 simp only[Bool.true_or,if_true]
 exact main _
variable {l:List Oper} {Q:Exit→Env→Heap→Prop} {k:Nat} {t0 tc:Env} {ops:Array Oper} {dst:Option Tmp} {ty:TypeId} {pos:String} {aft:Array Edge} {K:AVal→Heap→Prop}
@[congr] theorem uU(i:Nat)(m:List Bool)(P:Env→Heap→Prop){h h':Heap}(e:h=h'):stepE C l t0 i m P tc h=stepE C l t0 i m P tc h':=by rw[e]
@[congr] theorem yN(tr:ET){h h':Heap}(e:h=h'):WPe C Q l k t0 tr tc h=WPe C Q l k t0 tr tc h':=by rw[e]
@[go_sem] theorem AD(i:Nat)(m:List Bool)(P:Env→Heap→Prop):stepE C l t0 i m P tc h=need (l[i]?) fun o=>wpOperV C l.toArray o tc h fun v h'=>(WPp C l.toArray (maskL m l) t0 h' fun t''=>agrL (wrM m l) t'' t0)∧P (put tc o.dst v) h':=(rfl)
attribute [go_sem] List.drop_succ_cons List.drop_zero
variable {t:Env} {e:TypeId} {T:TypeId}
@[go_sem] theorem yO:wpOperV C ops ⟨dst,.alloc e,ty,pos,aft,none⟩ t h K=
  need (zroT C.P e) fun z=>0<z.cells.length∧z.cells.all AVal.sto=true∧z.lies=true∧K (.hp h.length 0 0 0) (h++[.row e z.cells.length 0 [z]]):=(rfl)
@[go_sem] theorem yP(x y:Operand):wpOperV C ops ⟨dst,.store T x y,ty,pos,aft,none⟩ t h K=storeK C T (aev C.G t x) (aev C.G t y) h (fun h'=>K undefA h'):=(rfl)
@[go_sem] theorem Dm(rest:List Oper)(K:Env→Prop):WPp C ops (nopO::rest) t h K=WPp C ops rest t h K:=qp (dst:=none) (.const (.bool false))
@[congr] theorem vW{l l':List Oper}{t t':Env}{h h':Heap}{K:Env→Prop}(e1:l=l')(e2:t=t')(e3:h=h'):WPp C ops l t h K=WPp C ops l' t' h' K:=by rw[e1,e2,e3]
@[go_sem] theorem yQ(T:TypeId)(x:Operand)(f:Nat)(rest:List Oper)(K:Env→Prop):WPp C ops (⟨dst,.field T x f,ty,pos,aft,none⟩::rest) t h K=
  need (fOff C.P T f) fun q=>need (match aev C.G t x with| .agg cs=>pickT C.P q.2.1 (cs.drop q.1)|_=>none) fun v=>WPp C ops rest (put t dst v) h K:=
 aZ (E:=fun k=>need (fOff C.P T f) fun q=>need (match aev C.G t x with| .agg cs=>pickT C.P q.2.1 (cs.drop q.1)|_=>none) k) (Det.need _ fun q=>Det.need' _) fun KK=>by
  simp only[wpOp];congr;funext ⟨o,a,b⟩;simp only[];generalize aev C.G t x=v;cases v<;>rfl
@[go_sem] theorem AE(f:Operand)(args:Array Operand)(Ts:Array TypeId):wpOperV C ops ⟨dst,.call ⟨.value f,args,Ts⟩,ty,pos,aft,none⟩ t h K=callK C (aev C.G t f) (args.toList.map (aev C.G t)) h K:=by
 show wpCall C ⟨.value f,args,Ts⟩ t h K=_
 rfl
@[go_sem] theorem yR(parts:Array (Nat×Operand)):wpOperV C ops ⟨dst,.build T parts,ty,pos,aft,none⟩ t h K=need (buildA C T (parts.toList.map fun q=>(q.1,aev C.G t q.2))) fun v=>K v h:=by
 show wpOp C (.build T parts) t h K=_
 have:=j6 (C:=C) (ops:= #[]) (Q:=fun _ t h=>K (t 0) h) (rest:=[]) (t:=t) (h:=h) (dst:=some 0) (ty:=0) (pos:= "") (aft:= #[]) T parts
 simpa [WPl,wpOper,put,upd]using this
theorem aA(g:WPl C l.toArray Q (l.drop k) tc h):WPe C Q l k t0 .fin tc h:=g
theorem aB{i:Nat}{m:List Bool}{s:ET}(g:stepE C l t0 i m (WPe C Q l k t0 s) tc h):WPe C Q l k t0 (.one i m s) tc h:=g
theorem aC{i j:Nat}{m m':List Bool}{s u:ET}(g:stepE C l t0 i m (WPe C Q l k t0 s) tc h)(g':stepE C l t0 j m' (WPe C Q l k t0 u) tc h):WPe C Q l k t0 (.two i m s j m' u) tc h:=⟨g,g'⟩
end
end Go.Av
namespace Go.Av
open Go Go.Proofs Go.RowKit
structure Ev where
 kind:Int
 a:Int
 b:Int
 n:Int
 s:Bs
 t:Bs
 u:Bs
def Ev.av(e:Ev):AVal:=.agg [.int .i64 e.kind,.int .i64 e.a,.int .i64 e.b,.int .i64 e.n,.str e.s,.str e.t,.str e.u]
structure Fo where
 id:Int
 inn:Int
 name:Bs
structure Fe where
 id:Int
 inn:Int
 url:Bs
 title:Bs
structure It where
 id:Int
 feed:Int
 date:Int
 guid:Bs
 title:Bs
 link:Bs
 read:Bool
 star:Bool
 tags:List Bs
structure Se where
 id:Int
 name:Bs
 query:Bs
def Fo.av(f:Fo):AVal:=.agg [.int .i64 f.id,.int .i64 f.inn,.str f.name]
def Fe.av(f:Fe):AVal:=.agg [.int .i64 f.id,.int .i64 f.inn,.str f.url,.str f.title]
def It.av(t:It):AVal:=.agg [.int .i64 t.id,.int .i64 t.feed,.int .i64 t.date,.str t.guid,.str t.title,.str t.link,.bool t.read,.bool t.star,.sl 1 (t.tags.map .str)]
def Se.av(q:Se):AVal:=.agg [.int .i64 q.id,.str q.name,.str q.query]
def Fo.z:Fo:=⟨0,0,[]⟩
def Fe.z:Fe:=⟨0,0,[],[]⟩
def It.z:It:=⟨0,0,0,[],[],[],false,false,[]⟩
def Se.z:Se:=⟨0,[],[]⟩
@[go_sem] theorem Ev.av_eq(e:Ev):e.av=.agg [.int .i64 e.kind,.int .i64 e.a,.int .i64 e.b,.int .i64 e.n,.str e.s,.str e.t,.str e.u]:=(rfl)
@[go_sem] theorem Fo.av_eq(f:Fo):f.av=.agg [.int .i64 f.id,.int .i64 f.inn,.str f.name]:=(rfl)
@[go_sem] theorem Fe.av_eq(f:Fe):f.av=.agg [.int .i64 f.id,.int .i64 f.inn,.str f.url,.str f.title]:=(rfl)
@[go_sem] theorem It.av_eq(t:It):t.av=.agg [.int .i64 t.id,.int .i64 t.feed,.int .i64 t.date,.str t.guid,.str t.title,.str t.link,.bool t.read,.bool t.star,.sl 1 (t.tags.map .str)]:=(rfl)
@[go_sem] theorem Se.av_eq(q:Se):q.av=.agg [.int .i64 q.id,.str q.name,.str q.query]:=(rfl)
@[go_sem] theorem E8(o:Option Fo):v1 (.agg [.int .i64 0,.int .i64 0,.str []]) Fo.av o=(o.getD Fo.z).av:=iH (d:=Fo.z) rfl o
@[go_sem] theorem E9(o:Option Fe):v1 (.agg [.int .i64 0,.int .i64 0,.str [],.str []]) Fe.av o=(o.getD Fe.z).av:=iH (d:=Fe.z) rfl o
@[go_sem] theorem Ea(o:Option It):v1 (.agg [.int .i64 0,.int .i64 0,.int .i64 0,.str [],.str [],.str [],.bool false,.bool false,.sl 1 []]) It.av o=(o.getD It.z).av:=iH (d:=It.z) rfl o
@[go_sem] theorem Eb(o:Option Se):v1 (.agg [.int .i64 0,.str [],.str []]) Se.av o=(o.getD Se.z).av:=iH (d:=Se.z) rfl o
@[go_sem] theorem Ec(c:Nat)(l:ML Int Fo)(x i n:Int)(s:Bs):putM (encM iA Fo.av l) c (.int .i64 x) (.agg [.int .i64 i,.int .i64 n,.str s]) (ixM l x)=.mp (encM iA Fo.av (upM l c x ⟨i,n,s⟩)) (ckM l c x):=fb c l x ⟨i,n,s⟩ rfl
@[go_sem] theorem Ed(c:Nat)(l:ML Int Fe)(x i n:Int)(s t:Bs):putM (encM iA Fe.av l) c (.int .i64 x) (.agg [.int .i64 i,.int .i64 n,.str s,.str t]) (ixM l x)=.mp (encM iA Fe.av (upM l c x ⟨i,n,s,t⟩)) (ckM l c x):=fb c l x ⟨i,n,s,t⟩ rfl
@[go_sem] theorem Ee(c:Nat)(l:ML Int It)(x i f d:Int)(g t u:Bs)(r s:Bool)(ts:List Bs):putM (encM iA It.av l) c (.int .i64 x) (.agg [.int .i64 i,.int .i64 f,.int .i64 d,.str g,.str t,.str u,.bool r,.bool s,.sl 1 (ts.map .str)]) (ixM l x)=.mp (encM iA It.av (upM l c x ⟨i,f,d,g,t,u,r,s,ts⟩)) (ckM l c x):=fb c l x ⟨i,f,d,g,t,u,r,s,ts⟩ rfl
@[go_sem] theorem DT(c:Nat)(l:ML Int It)(x i f d:Int)(g t u:Bs)(r s:Bool):putM (encM iA It.av l) c (.int .i64 x) (.agg [.int .i64 i,.int .i64 f,.int .i64 d,.str g,.str t,.str u,.bool r,.bool s,.sl 1 []]) (ixM l x)=.mp (encM iA It.av (upM l c x ⟨i,f,d,g,t,u,r,s,[]⟩)) (ckM l c x):=fb c l x ⟨i,f,d,g,t,u,r,s,[]⟩ rfl
@[go_sem] theorem Ef(c:Nat)(l:ML Int Se)(x i:Int)(s t:Bs):putM (encM iA Se.av l) c (.int .i64 x) (.agg [.int .i64 i,.str s,.str t]) (ixM l x)=.mp (encM iA Se.av (upM l c x ⟨i,s,t⟩)) (ckM l c x):=fb c l x ⟨i,s,t⟩ rfl
@[go_sem] theorem Eg(n:Int):iA n=.int .i64 n:=(rfl)
structure PS where
 clock:Int
 fo:ML Int Fo
 fe:ML Int Fe
 it:ML Int It
 se:ML Int Se
 nm:ML (Int×Bs) Int
 pl:ML Bs Int
 gu:ML (Int×Bs) Int
 he:ML Int Int
 c1:Nat
 c2:Nat
 c3:Nat
 c4:Nat
 c5:Nat
 c6:Nat
 c7:Nat
 c8:Nat
 t1:Int
 t2:Int
 t3:Int
 t4:Int
def PS.row(n:Nat)(s:PS):AVal:=.agg [.int .i64 s.clock,.hm n,.hm (n+1),.hm (n+2),.hm (n+3),.hm (n+4),.hm (n+5),.hm (n+6),.hm (n+7),.int .i64 s.t1,.int .i64 s.t2,.int .i64 s.t3,.int .i64 s.t4]
def PS.bl(n:Nat)(s:PS):List Blk:=
 [.mp (encM iA Fo.av s.fo) s.c1,.mp (encM iA Fe.av s.fe) s.c2,.mp (encM iA It.av s.it) s.c3,.mp (encM iA Se.av s.se) s.c4,
 .mp (encM nA iA s.nm) s.c5,.mp (encM AVal.str iA s.pl) s.c6,.mp (encM nA iA s.gu) s.c7,.mp (encM iA iA s.he) s.c8,.row 91 13 0 [s.row n]]
def PS.z:PS:=⟨0,[],[],[],[],[],[],[],[],0,0,0,0,0,0,0,0,0,0,0,0⟩
def so(H:Heap)(n:Nat)(s:PS):Heap:=ov H n (s.bl n)
section
variable {H:Heap} {n:Nat} {s:PS}
@[go_sem] theorem oW(hn:n+9≤H.length):getRow (so H n s) (n+8) 0=some (91,13,[.agg [.int .i64 s.clock,.hm n,.hm (n+1),.hm (n+2),.hm (n+3),.hm (n+4),.hm (n+5),.hm (n+6),.hm (n+7),.int .i64 s.t1,.int .i64 s.t2,.int .i64 s.t3,.int .i64 s.t4]]):=by
 unfold so;rw[hG 0 hn (by decide+revert:8<9)];rfl
@[go_sem] theorem vX(hn:n+9≤H.length):mapAt (so H n s) n=some (encM iA Fo.av s.fo,s.c1):=by unfold so;rw[iK hn (by simp[PS.bl])];rfl
@[go_sem] theorem vY(hn:n+9≤H.length):mapAt (so H n s) (n+1)=some (encM iA Fe.av s.fe,s.c2):=by unfold so;rw[bz hn (by simp[PS.bl])];rfl
@[go_sem] theorem nx(hn:n+9≤H.length):mapAt (so H n s) (n+2)=some (encM iA It.av s.it,s.c3):=by unfold so;rw[bz hn (by simp[PS.bl])];rfl
@[go_sem] theorem vZ(hn:n+9≤H.length):mapAt (so H n s) (n+3)=some (encM iA Se.av s.se,s.c4):=by unfold so;rw[bz hn (by simp[PS.bl])];rfl
@[go_sem] theorem Eh(hn:n+9≤H.length):mapAt (so H n s) (n+4)=some (encM nA iA s.nm,s.c5):=by unfold so;rw[bz hn (by simp[PS.bl])];rfl
@[go_sem] theorem Ei(hn:n+9≤H.length):mapAt (so H n s) (n+5)=some (encM AVal.str iA s.pl,s.c6):=by unfold so;rw[bz hn (by simp[PS.bl])];rfl
@[go_sem] theorem Ej(hn:n+9≤H.length):mapAt (so H n s) (n+6)=some (encM nA iA s.gu,s.c7):=by unfold so;rw[bz hn (by simp[PS.bl])];rfl
@[go_sem] theorem Ek(hn:n+9≤H.length):mapAt (so H n s) (n+7)=some (encM iA iA s.he,s.c8):=by unfold so;rw[bz hn (by simp[PS.bl])];rfl
@[go_sem] theorem El(hn:n+9≤H.length)(l:ML Int Fo)(c:Nat):(so H n s).set n (.mp (encM iA Fo.av l) c)=so H n {s with fo:=l,c1:=c}:=by unfold so;rw[fJ _ hn (by simp[PS.bl])];rfl
@[go_sem] theorem Em(hn:n+9≤H.length)(l:ML Int Fe)(c:Nat):(so H n s).set (n+1) (.mp (encM iA Fe.av l) c)=so H n {s with fe:=l,c2:=c}:=by unfold so;rw[bm _ hn (by simp[PS.bl])];rfl
@[go_sem] theorem En(hn:n+9≤H.length)(l:ML Int It)(c:Nat):(so H n s).set (n+2) (.mp (encM iA It.av l) c)=so H n {s with it:=l,c3:=c}:=by unfold so;rw[bm _ hn (by simp[PS.bl])];rfl
@[go_sem] theorem Eo(hn:n+9≤H.length)(l:ML Int Se)(c:Nat):(so H n s).set (n+3) (.mp (encM iA Se.av l) c)=so H n {s with se:=l,c4:=c}:=by unfold so;rw[bm _ hn (by simp[PS.bl])];rfl
@[go_sem] theorem Ep(hn:n+9≤H.length)(l:ML (Int×Bs) Int)(c:Nat):(so H n s).set (n+4) (.mp (encM nA iA l) c)=so H n {s with nm:=l,c5:=c}:=by unfold so;rw[bm _ hn (by simp[PS.bl])];rfl
@[go_sem] theorem Er(hn:n+9≤H.length)(l:ML Bs Int)(c:Nat):(so H n s).set (n+5) (.mp (encM AVal.str iA l) c)=so H n {s with pl:=l,c6:=c}:=by unfold so;rw[bm _ hn (by simp[PS.bl])];rfl
@[go_sem] theorem Es(hn:n+9≤H.length)(l:ML (Int×Bs) Int)(c:Nat):(so H n s).set (n+6) (.mp (encM nA iA l) c)=so H n {s with gu:=l,c7:=c}:=by unfold so;rw[bm _ hn (by simp[PS.bl])];rfl
@[go_sem] theorem Et(hn:n+9≤H.length)(l:ML Int Int)(c:Nat):(so H n s).set (n+7) (.mp (encM iA iA l) c)=so H n {s with he:=l,c8:=c}:=by unfold so;rw[bm _ hn (by simp[PS.bl])];rfl
@[go_sem] theorem Eu(hn:n+9≤H.length)(k t1 t2 t3 t4:Int):(so H n s).set (n+8) (.row 91 13 0 [.agg [.int .i64 k,.hm n,.hm (n+1),.hm (n+2),.hm (n+3),.hm (n+4),.hm (n+5),.hm (n+6),.hm (n+7),.int .i64 t1,.int .i64 t2,.int .i64 t3,.int .i64 t4]])=so H n {s with clock:=k,t1:=t1,t2:=t2,t3:=t3,t4:=t4}:=by unfold so;rw[bm _ hn (by simp[PS.bl])];rfl
@[go_sem] theorem aJ(hn:n+9≤H.length)(j:Heap):so H n s++j=so (H++j) n s:=dA hn
@[go_sem] theorem au(hn:n+9≤H.length):(so H n s).length=H.length:=aD hn
@[go_sem] theorem oX(hn:n+9≤H.length){p:Nat}(hp:n+9≤p):(so H n s)[p]? =H[p]? :=fg hn (.inr hp)
@[go_sem] theorem bA(hn:n+9≤H.length){p:Nat}(v:Nat)(hp:n+9≤p):getRow (so H n s) p v=getRow H p v:=fK v hn (.inr hp)
@[go_sem] theorem mn(hn:n+9≤H.length){p:Nat}(b:Blk)(hp:n+9≤p):(so H n s).set p b=so (H.set p b) n s:=dM b hn (.inr hp)
@[go_sem] theorem tN(hn:n+9≤H.length):abin Tryz.prog (so H n s) .eql 25 (.hp (n+8) 0 0 0) (.nil (.pointer none))=some (.bool false):=by
 have hk:nilKind Tryz.prog 25 (.pointer none)=true:=by kernel_rfl
 simp[abin,hk,aeqNil,oW hn]
@[go_sem] theorem tO(hn:n+9≤H.length):abin Tryz.prog (so H n s) .neq 25 (.hp (n+8) 0 0 0) (.nil (.pointer none))=some (.bool true):=by
 have hk:nilKind Tryz.prog 25 (.pointer none)=true:=by kernel_rfl
 simp[abin,hk,aeqNil,oW hn]
end
@[go_sem] theorem Dn(e:TypeId)(p:Nat)(h:Heap)(k:Heap→Prop):boxK e (.hm p) h k=k (h++[.row e 1 0 [.hm p]]):=by simp[boxK,AVal.cells,AVal.lies,AVal.sto]
attribute [go_sem] List.length_append List.length_cons List.length_nil
theorem gC(N:Nat)(l:List Bs):Clo N (.sl 1 (l.map .str)):=Clo.sl _ _ fun x hx=>by obtain⟨y,_,rfl⟩:=List.mem_map.1 hx;exact .str _
theorem It.clo(N:Nat)(t:It):Clo N t.av:=.agg _ fun x hx=>by
 simp only[List.mem_cons,List.not_mem_nil,or_false]at hx
 rcases hx with rfl|rfl|rfl|rfl|rfl|rfl|rfl|rfl|rfl<;>first|exact .int _ _|exact .str _|exact .bool _|exact gC _ _
theorem aS{κ α:Type}{ek:κ→AVal}{ev:α→AVal}{N c:Nat}(hk:∀x,Clo N (ek x))(hv:∀x,Clo N (ev x))(l:ML κ α):CloB N (.mp (encM ek ev l) c):=fun e he=>by
 obtain⟨d,_,rfl⟩:=List.mem_map.1 he
 exact⟨hk _,hv _⟩
theorem bg{N:Nat}{cs:List AVal}(h:∀c∈cs,(∃k n,c=.int k n)∨(∃s,c=.str s)∨(∃p,p<N∧c=.hm p)):Clo N (.agg cs):=.agg _ fun x hx=>by
 rcases h x hx with⟨k,n,rfl⟩| ⟨s,rfl⟩| ⟨p,hp,rfl⟩
 ·exact .int _ _
 ·exact .str _
 ·exact .hm _ hp
theorem PS.clo{N n:Nat}(hn:n+9≤N)(s:PS):∀b∈s.bl n,CloB N b:=fun b hb=>by
 have hi:∀x:Int,Clo N (iA x):=fun x=>.int _ _
 have hna:∀x:Int×Bs,Clo N (nA x):=fun x=>bg fun c hc=>by simp at hc;rcases hc with rfl|rfl<;>simp
 simp only[PS.bl,List.mem_cons,List.not_mem_nil,or_false]at hb
 rcases hb with rfl|rfl|rfl|rfl|rfl|rfl|rfl|rfl|rfl
 ·exact aS hi (fun x=>bg fun c hc=>by simp at hc;rcases hc with rfl|rfl|rfl<;>simp) _
 ·exact aS hi (fun x=>bg fun c hc=>by simp at hc;rcases hc with rfl|rfl|rfl|rfl<;>simp) _
 ·exact aS hi (fun x=>It.clo N x) _
 ·exact aS hi (fun x=>bg fun c hc=>by simp at hc;rcases hc with rfl|rfl|rfl<;>simp) _
 ·exact aS hna hi _
 ·exact aS (fun x=>.str _) hi _
 ·exact aS hna hi _
 ·exact aS hi hi _
 ·exact CloB.row fun r hr=>by
   simp at hr;subst hr
   exact bg fun c hc=>by
    simp only[PS.row,List.mem_cons,List.not_mem_nil,or_false]at hc
    rcases hc with rfl|rfl|rfl|rfl|rfl|rfl|rfl|rfl|rfl|rfl|rfl|rfl|rfl<;>simp<;>omega
theorem ai{H j:Heap}{n:Nat}{s s':PS}{R:AVal→Heap→Prop}{r:AVal}(hn:n+9≤H.length)(hc:Clo H.length r)(hR:R r (so H n s')):Fin (so H n s) (so (H++j) n s') R r:=hJ hn rfl (PS.clo hn s') hc hR
theorem ci{H:Heap}{n:Nat}{s s':PS}{R:AVal→Heap→Prop}{r:AVal}(hn:n+9≤H.length)(hc:Clo H.length r)(hR:R r (so H n s')):Fin (so H n s) (so H n s') R r:=mm hn rfl (PS.clo hn s') hc hR
end Go.Av
namespace Go.Av
open Go Go.Proofs Go.RowKit Go.ChangeShapes Go.WideShapes
section
variable {H:Type} {enc:TypeId×Value→H} {W:World}
theorem oY:Kids Tryz.prog (· < Tryz.prog.types.size):=kids_rows (by kernel_rfl) (by kernel_rfl)
theorem oZ:∀t e,t<Tryz.prog.types.size→Tryz.prog.underlying t=some (.slice e)→0<Tryz.prog.cellsOf e:=slices_full_of Tryz.prog (by kernel_rfl)
def fieldsOk(P:Program)(t:TypeId)(fs:List TypeId):Bool:=match P.underlying t with
 |some (.struct gs)=>decide (gs.toList.map (·.type)=fs)&&decide (P.cellsOf t=fs.length)&&(gs.toList.zipIdx.all fun(f,i)=>f.offset==i&&P.cellsOf f.type==1)
 |_=>false
theorem jz{P:Program}{t:TypeId}{fs:List TypeId}(h:fieldsOk P t fs=true):∃gs:Array Field,P.underlying t=some (.struct gs)∧gs.size=fs.length∧P.cellsOf t=gs.size∧
  (∀(j:Nat) (f:Field),gs[j]? =some f→f.offset=j∧P.cellsOf f.type=1)∧∀(j:Nat) (T:TypeId),fs[j]? =some T→∃f,gs[j]? =some f∧f.type=T:=by
 unfold fieldsOk at h
 split at h
 ·rename_i gs hg
  simp only[Bool.and_eq_true,decide_eq_true_eq,List.all_eq_true]at h
  obtain⟨⟨h1,h2⟩,h3⟩:=h
  have hl:gs.size=fs.length:=by rw[← h1];simp
  refine⟨gs,hg,hl,by omega,fun j f hj=>?_,fun j T hT=>?_⟩
  ·have hm:(f,j)∈gs.toList.zipIdx:=List.mem_zipIdx_iff_getElem?.2 (by simpa using hj)
   have:=h3 _ hm
   simpa using this
  ·rw[← h1,List.getElem?_map]at hT
   obtain⟨f,hf,rfl⟩:=Option.map_eq_some_iff.1 hT
   exact⟨f,by simpa using hf,rfl⟩
 ·cases h
theorem p4{P:Program}{n:Nat}{t:TypeId}{fs:List TypeId}(hf:fieldsOk P t fs=true){cs:List Value}{x:DataW H×List MemPlace}(h:DataW.trod enc P W 0 (fun _=>true) true n t cs=some x):
  ∃(ds:List (DataW H)) (n':Nat),n=n'+1∧x.1=.agg ds∧cs.length=fs.length∧ds.length=fs.length∧∀(j:Nat) (T:TypeId),fs[j]? =some T→∃y,ds[j]? =some y.1∧DataW.trod enc P W 0 (fun _=>true) true n' T [cs.getD j undef]=some y:=by
 obtain⟨gs,h1,h2,h3,h4,h5⟩:=jz hf
 obtain⟨xs,n',k1,k2,k3,k4,k5⟩:=oU h1 h3 h4 h
 refine⟨_,n',k1,k2,by omega,by simp;omega,fun j T hT=>?_⟩
 obtain⟨f,hf1,rfl⟩:=h5 j T hT
 obtain⟨y,hy,hy2⟩:=k5 j f hf1
 exact⟨y,by simp[hy],hy2⟩
theorem cG{P:Program}{n:Nat}{T:TypeId}{α:Type}{mk:α→AVal}{sz:α→Nat}(hr:Rd H enc P W n T (fun a=>[mk a]) sz){v:Value}{y:DataW H×List MemPlace}(h:DataW.trod enc P W 0 (fun _=>true) true n T [v]=some y):
  ∃a:α,(mk a).sto=true∧Rep W (lies0 W) [] (mk a) v∧sz a≤Go.Proofs.YtmfhelaoeaifeaaGreat.Rows.uptoBulk y.1:=by
 obtain⟨a,_,h2,h3⟩:=hr _ _ h
 have:=h2 0 (mk a) rfl
 exact⟨a,this.1,by simpa using this.2,h3⟩
theorem wb(n:Nat):Rd H enc Tryz.prog W n 43 (fun e:Ev=>e.av.cells) (fun _=>0):=fun cs x h=>by
 obtain⟨ds,n',rfl,hx,hcl,hdl,hf⟩:=p4 (fs:=[3,3,3,3,9,9,9]) (by kernel_rfl) h
 obtain⟨y0,d0,t0⟩:=hf 0 _ rfl
 obtain⟨y1,d1,t1⟩:=hf 1 _ rfl
 obtain⟨y2,d2,t2⟩:=hf 2 _ rfl
 obtain⟨y3,d3,t3⟩:=hf 3 _ rfl
 obtain⟨y4,d4,t4⟩:=hf 4 _ rfl
 obtain⟨y5,d5,t5⟩:=hf 5 _ rfl
 obtain⟨y6,d6,t6⟩:=hf 6 _ rfl
 obtain⟨a0,s0,r0,_⟩:=cG (mk:=fun i: {i:Int//(Lit.int .i64 i).wf=true}=>.int .i64 i.1) (gY (by kernel_rfl)) t0
 obtain⟨a1,s1,r1,_⟩:=cG (mk:=fun i: {i:Int//(Lit.int .i64 i).wf=true}=>.int .i64 i.1) (gY (by kernel_rfl)) t1
 obtain⟨a2,s2,r2,_⟩:=cG (mk:=fun i: {i:Int//(Lit.int .i64 i).wf=true}=>.int .i64 i.1) (gY (by kernel_rfl)) t2
 obtain⟨a3,s3,r3,_⟩:=cG (mk:=fun i: {i:Int//(Lit.int .i64 i).wf=true}=>.int .i64 i.1) (gY (by kernel_rfl)) t3
 obtain⟨a4,s4,r4,_⟩:=cG (mk:=fun s:Bs=>.str s) (jU (by kernel_rfl)) t4
 obtain⟨a5,s5,r5,_⟩:=cG (mk:=fun s:Bs=>.str s) (jU (by kernel_rfl)) t5
 obtain⟨a6,s6,r6,_⟩:=cG (mk:=fun s:Bs=>.str s) (jU (by kernel_rfl)) t6
 refine⟨⟨a0.1,a1.1,a2.1,a3.1,a4,a5,a6⟩,by rw[hcl];rfl,fun j c hj=>?_,Nat.zero_le _⟩
 match j with
 |0=>simp[Ev.av,AVal.cells]at hj;subst hj;exact⟨s0,r0⟩
 |1=>simp[Ev.av,AVal.cells]at hj;subst hj;exact⟨s1,r1⟩
 |2=>simp[Ev.av,AVal.cells]at hj;subst hj;exact⟨s2,r2⟩
 |3=>simp[Ev.av,AVal.cells]at hj;subst hj;exact⟨s3,r3⟩
 |4=>simp[Ev.av,AVal.cells]at hj;subst hj;exact⟨s4,r4⟩
 |5=>simp[Ev.av,AVal.cells]at hj;subst hj;exact⟨s5,r5⟩
 |6=>simp[Ev.av,AVal.cells]at hj;subst hj;exact⟨s6,r6⟩
 |j+7=>simp[Ev.av,AVal.cells]at hj
theorem lC{v:Value}{d:DataW H}{ps:List MemPlace}{r:Reach}{b0:Nat}(hval:Value.okWide Tryz.prog W r b0 22 v)(h:DataW.Trod enc Tryz.prog W 0 (fun _=>true) true 22 v d ps):∃es:List Ev,Rep W (lies0 W) [] (.sl 7 (es.map Ev.av)) v:=by
 obtain⟨n,hn⟩:=h
 obtain⟨l,h1,h2,_⟩:=qz (m:=7) (e:=43) Ev.av (by kernel_rfl) (by kernel_rfl) (by decide) (fun _=>rfl) (fun _=>rfl) (fun k _=>wb k) _ _ hn
 refine⟨l,?_⟩
 have h4:=(h2 0 _ rfl).2
 have hcs:v.cells.toList=[v]:=by
  have hu:Tryz.prog.underlying 22=some (.slice 43):=by kernel_rfl
  cases v with
  |agg a=>simp[Value.okWide,hu,Cell.okWide,Cell.ok]at hval
  |_=>rfl
 rw[hcs]at h4
 simpa using h4
end
theorem qA:ownKnob Tryz.prog.godebug=none:=by kernel_rfl
end Go.Av
namespace Go.Av
open Go Go.Proofs Go.RowKit
section
variable {P:Program}
end
end Go.Av
namespace Go.Av
open Go Go.Proofs Go.RowKit
structure Ky where
 d:Int
 i:Int
 f:Int
def Ky.av(k:Ky):AVal:=.agg [.int .i64 k.d,.int .i64 k.i,.int .i64 k.f]
def It.ky(t:It):Ky:=⟨t.date,t.id,t.feed⟩
def ahd(a b:Ky):Bool:=decide (b.d<a.d)||(decide (a.d=b.d)&&decide (a.i<b.i))
theorem eb{a b:Ky}:ahd a b=true↔b.d<a.d∨(a.d=b.d∧a.i<b.i):=by simp[ahd]
theorem fL{a b:Ky}:ahd a b=false↔¬(b.d<a.d∨(a.d=b.d∧a.i<b.i)):=by rw[← eb];simp
theorem fj{a b c:Ky}(h:ahd a b=true)(k:ahd b c=true):ahd a c=true:=by
 rw[eb]at *;omega
theorem mq(a:Ky):ahd a a=false:=by rw[fL];omega
theorem mr{a b:Ky}(h:a.i≠b.i)(k:ahd a b=false):ahd b a=true:=by
 rw[fL]at k;rw[eb];omega
theorem si{a b:Ky}(h:ahd a b=true):ahd b a=false:=by
 rw[eb]at h;rw[fL];omega
def Sk(l:List Ky):Prop:=l.Pairwise fun a b=>ahd a b=true
def pst:List Ky→Ky→Nat
 | [],_=>0
 |x::l,k=>if ahd k x then 0 else pst l k+1
theorem tP(l:List Ky)(k:Ky):pst l k≤l.length:=by
 induction l with
 |nil=>exact Nat.le_refl _
 |cons x l ih=>unfold pst;split<;>simp<;>omega
theorem p5{l:List Ky}(hs:Sk l){k x:Ky}{j:Nat}(hj:l[j]? =some x):ahd k x=true↔pst l k≤j:=by
 induction l generalizing j with
 |nil=>simp at hj
 |cons y l ih=>
  obtain⟨h1,h2⟩:=List.pairwise_cons.1 hs
  match j with
  |0=>
   simp at hj;subst hj
   unfold pst
   cases ha:ahd k y<;>simp
  |j+1=>
   simp at hj
   unfold pst
   cases ha:ahd k y with
   |true=>
    simp only[if_true,Nat.zero_le,iff_true]
    exact fj ha (h1 x (List.mem_of_getElem? hj))
   |false=>
    simp only[Bool.false_eq_true,if_false]
    rw[ih h2 hj];omega
def insK(l:List Ky)(k:Ky):List Ky:=l.take (pst l k)++k::l.drop (pst l k)
theorem ka{l:List Ky}{k x:Ky}:x∈insK l k↔x=k∨x∈l:=by
 unfold insK
 have e:x∈l↔x∈l.take (pst l k)∨x∈l.drop (pst l k):=by rw[← List.mem_append,List.take_append_drop]
 rw[List.mem_append,List.mem_cons,e]
 constructor<;>rintro(h|h|h)<;>simp[h]
theorem qB{l:List Ky}(hs:Sk l){k:Ky}(hn:∀x∈l,x.i≠k.i):Sk (insK l k):=by
 unfold insK Sk
 rw[List.pairwise_append]
 have hle:=tP l k
 have hlo:∀x∈l.take (pst l k),ahd x k=true:=fun x hx=>by
  obtain⟨j,hj⟩:=List.getElem?_of_mem hx
  have hlt:=(List.getElem?_eq_some_iff.1 hj).1
  rw[List.length_take]at hlt
  rw[List.getElem?_take_of_lt (by omega)]at hj
  have:ahd k x=false:=by
   rw[Bool.eq_false_iff];intro h;rw[p5 hs hj]at h;omega
  exact mr (fun e=>hn x (List.mem_of_getElem? hj) e.symm) this
 have hhi:∀x∈l.drop (pst l k),ahd k x=true:=fun x hx=>by
  obtain⟨j,hj⟩:=List.getElem?_of_mem hx
  rw[List.getElem?_drop]at hj
  rw[p5 hs hj];omega
 refine⟨hs.sublist (List.take_sublist _ _),List.pairwise_cons.2 ⟨hhi,hs.sublist (List.drop_sublist _ _)⟩,fun a ha b hb=>?_⟩
 rcases List.mem_cons.1 hb with rfl|hb
 ·exact hlo a ha
 ·exact fj (hlo a ha) (hhi b hb)
theorem Sk.nd{l:List Ky}(h:Sk l):l.Nodup:=h.imp fun hab e=>by rw[e,mq]at hab;cases hab
theorem Sk.uniq{l L:List Ky}(h:Sk l)(k:Sk L)(hm:∀x,x∈l↔x∈L):l=L:=
 List.Perm.eq_of_pairwise (fun a b _ _ h1 h2=>by rw[si h1]at h2;cases h2) h k ((List.perm_ext_iff_of_nodup h.nd k.nd).2 hm)
def srtK(l:List Ky):List Ky:=l.foldl insK []
theorem rS{l acc:List Ky}(hs:Sk acc)(hd:(l.map (·.i)).Nodup)(hx:∀x∈acc,∀y∈l,x.i≠y.i):Sk (l.foldl insK acc)∧∀x,x∈l.foldl insK acc↔x∈acc∨x∈l:=by
 induction l generalizing acc with
 |nil=>exact⟨hs,fun x=>by simp⟩
 |cons y l ih=>
  rw[List.map_cons,List.nodup_cons]at hd
  have hy:∀x∈acc,x.i≠y.i:=fun x h=>hx x h y (by simp)
  obtain⟨h1,h2⟩:=ih (qB hs hy) hd.2 fun x hxm z hz=>by
   rcases ka.1 hxm with rfl|hxm
   ·exact fun e=>hd.1 (by rw[e];exact List.mem_map_of_mem hz)
   ·exact hx x hxm z (by simp[hz])
  refine⟨h1,fun x=>?_⟩
  rw[List.foldl_cons,h2,ka,List.mem_cons]
  constructor
  ·rintro((h|h)|h)<;>simp[h]
  ·rintro(h|h|h)<;>simp[h]
theorem kb{l:List Ky}(hd:(l.map (·.i)).Nodup):Sk (srtK l):=(rS .nil hd (by simp)).1
theorem ke{l:List Ky}(hd:(l.map (·.i)).Nodup)(x:Ky):x∈srtK l↔x∈l:=by
 unfold srtK
 have:=(rS (acc:=[]) .nil hd (by simp)).2 x
 simpa using this
end Go.Av
namespace Go.Av
open Go Go.Proofs Go.RowKit
attribute [local irreducible] WP WPl WPix Sat
variable (G:Nat→Option (List AVal))
end Go.Av
namespace Go.Av
open Go Go.Proofs Go.RowKit
attribute [local irreducible] WP WPl WPix Sat
section
variable {H:Heap} {n v:Nat} {l:List Ky}
end
variable (G:Nat→Option (List AVal))
end Go.Av
namespace Go.Av
open Go Go.RowKit
attribute [local irreducible] WP WPl WPix Sat
structure FrzR (h:Heap) (n:Nat) (r s:AVal):Prop where
 all:Frz h n r s
 len:r.cells.length=s.cells.length
 sto:∀d∈s.cells,d.sto=true
 cell:∀(j:Nat) (c d:AVal),r.cells[j]? =some c→s.cells[j]? =some d→Frz h n c d
theorem Frz.rows{h:Heap}{n q v e m:Nat}{rows es:List AVal}{len:Nat}{room:Bool}(hq:n≤q)(hg:getRow h q v=some (e,m,rows))(hlen:len=rows.length)(hl:es.length=rows.length)
  (hp:∀(i:Nat) (r s:AVal),rows[i]? =some r→es[i]? =some s→FrzR h n r s):Frz h n (.hs q v 0 len room) (.sl m es):=by
 subst hlen
 have:=Frz.hs (h:=h) (n:=n) q v 0 rows.length room e m rows es hq hg (by omega) hl (fun i r s hr hs=>(hp i r s hr hs).all)
  (fun i r s hr hs=>⟨(hp i r s hr hs).len,fun j c d _ hd=>(hp i r s hr hs).sto d (List.mem_of_getElem? hd)⟩) (fun i r s j c d hr hs hc hd=>(hp i r s hr hs).cell j c d hc hd)
 rw[List.drop_zero, ← hl,List.take_length]at this
 rw[← hl];exact this
theorem FrzR.clo{h:Heap}{n:Nat}{r:AVal}(hc:Clo n r)(hs:∀d∈r.cells,d.sto=true):FrzR h n r r:=
 ⟨.clo _ hc,rfl,hs,fun j c d h1 h2=>by rw[h1]at h2;cases h2;exact .clo _ (hc.cells c (List.mem_of_getElem? h1))⟩
inductive FrzL (h:Heap) (n:Nat):List AVal→List AVal→Prop
 |nil:FrzL h n [] []
 |cons {c d:AVal} {cs ds:List AVal}:Frz h n c d→FrzL h n cs ds→FrzL h n (c::cs) (d::ds)
theorem FrzL.len{h:Heap}{n:Nat}{cs ds:List AVal}(z:FrzL h n cs ds):cs.length=ds.length:=by induction z with|nil=>rfl|cons _ _ ih=>simp[ih]
theorem FrzL.at_{h:Heap}{n:Nat}{cs ds:List AVal}(z:FrzL h n cs ds):∀(i:Nat) (c d:AVal),cs[i]? =some c→ds[i]? =some d→Frz h n c d:=by
 induction z with
 |nil=>intro i c d h1;simp at h1
 |cons z _ ih=>
  intro i c d h1 h2
  match i with
  |0=>simp at h1 h2;subst h1;subst h2;exact z
  |i+1=>exact ih i c d (by simpa using h1) (by simpa using h2)
theorem FrzL.agg{h:Heap}{n:Nat}{cs ds:List AVal}(z:FrzL h n cs ds)(hs:ds.all AVal.sto=true):Frz h n (.agg cs) (.agg ds):=.agg _ _ z.len (List.all_eq_true.1 hs) z.at_
theorem Frz.data{h:Heap}{n q v e m:Nat}{rows:List AVal}{len:Nat}{room:Bool}(hq:n≤q)(hg:getRow h q v=some (e,m,rows))(hlen:len=rows.length)(hc:∀r∈rows,Clo n r)(hs:∀r∈rows,∀c∈r.cells,c.sto=true):Frz h n (.hs q v 0 len room) (.sl m rows):=
 Frz.rows hq hg hlen rfl fun i r s hr hs'=>by rw[hr]at hs';cases hs';exact FrzR.clo (hc r (List.mem_of_getElem? hr)) (hs r (List.mem_of_getElem? hr))
end Go.Av
namespace Go.Av
open Go Go.Proofs Go.RowKit
attribute [local irreducible] WP WPl WPix Sat
variable (G:Nat→Option (List AVal))
section
variable {l:List Ky} {H:Heap} {n v:Nat}
end
end Go.Av
namespace Go.Av
open Go Go.Proofs Go.RowKit
attribute [local irreducible] WP WPl WPix Sat
variable (G:Nat→Option (List AVal))
section
variable {l:List Ky} {H:Heap} {n v:Nat}
theorem ny{P:Program}{h:Heap}{T e e' n p ver off len i:Nat}{rows:List AVal}{k:IntKind}(he:elmT P T=some e)(hn:szOf P e=some n)(hr:getRow h p ver=some (e',n,rows))(hi:i<len):aslice P h T (.hs p ver off len true) (some (.int k (i:Int))) none none=some (.hs p ver (off+i) (len-i) true):=by
 simp only[aslice,he,hr,hn,optInt,if_true]
 rw[if_pos ⟨by omega,by omega,by omega,by omega⟩]
 simp
theorem nz{P:Program}{h:Heap}{T e e' n p ver off len i:Nat}{rows:List AVal}{k:IntKind}(he:elmT P T=some e)(hn:szOf P e=some n)(hr:getRow h p ver=some (e',n,rows))(hi:i≤len):aslice P h T (.hs p ver off len true) none (some (.int k (i:Int))) none=some (.hs p ver off i true):=by
 simp only[aslice,he,hr,hn,optInt,if_true]
 rw[if_pos ⟨by omega,by omega,by omega,by simp⟩]
 simp
end
end Go.Av
namespace Go.Proofs
open Go.Shelf
def Tryz.keys42_ren:Go.Shelf.Ren:=⟨fun|7=>42|10=>80|n=>n,fun|23=>49|26=>3|3=>54|28=>111|0=>0|27=>110|33=>133|4=>4|n=>n,fun|n=>n⟩
theorem Tryz.keys42:Go.Proofs.SlLaysZI.n7 Tryz.prog Tryz.keys42_ren:= {
 mixed:=by kernel_rfl
 f7:=⟨Tryz.f42.name,by decide,Tryz.func42.trans (congrArg some (by kernel_rfl))⟩
 f10:=⟨Tryz.f80.name,by decide,Tryz.func80.trans (congrArg some (by kernel_rfl))⟩
 t0:=Tryz.underlying0
 a0:=Tryz.isAgg0
 z0:=Tryz.sizeOf0
 v0:=Tryz.zeroValue0
 t4:=Tryz.underlying4
 a4:=Tryz.isAgg4
 z4:=Tryz.sizeOf4
 v4:=Tryz.zeroValue4
 t23:=Tryz.underlying49
 a23:=Tryz.isAgg49
 z23:=Tryz.sizeOf49
 v23:=Tryz.zeroValue49
 t26:=Tryz.underlying3
 a26:=Tryz.isAgg3
 z26:=Tryz.sizeOf3
 v26:=Tryz.zeroValue3
 t27:=Tryz.underlying110
 a27:=Tryz.isAgg110
 z27:=Tryz.sizeOf110
 v27:=Tryz.zeroValue110
 t28:=Tryz.underlying111
 a28:=Tryz.isAgg111
 z28:=Tryz.sizeOf111
 v28:=Tryz.zeroValue111
 t33:=Tryz.underlying133
 a33:=Tryz.isAgg133
 z33:=Tryz.sizeOf133
 v33:=Tryz.zeroValue133}
def Tryz.keys72_ren:Go.Shelf.Ren:=⟨fun|7=>72|10=>107|n=>n,fun|23=>83|26=>3|3=>65|28=>111|0=>0|27=>110|33=>133|4=>4|n=>n,fun|n=>n⟩
theorem Tryz.keys72:Go.Proofs.SlLaysZI.n7 Tryz.prog Tryz.keys72_ren:= {
 mixed:=by kernel_rfl
 f7:=⟨Tryz.f72.name,by decide,Tryz.func72.trans (congrArg some (by kernel_rfl))⟩
 f10:=⟨Tryz.f107.name,by decide,Tryz.func107.trans (congrArg some (by kernel_rfl))⟩
 t0:=Tryz.underlying0
 a0:=Tryz.isAgg0
 z0:=Tryz.sizeOf0
 v0:=Tryz.zeroValue0
 t4:=Tryz.underlying4
 a4:=Tryz.isAgg4
 z4:=Tryz.sizeOf4
 v4:=Tryz.zeroValue4
 t23:=Tryz.underlying83
 a23:=Tryz.isAgg83
 z23:=Tryz.sizeOf83
 v23:=Tryz.zeroValue83
 t26:=Tryz.underlying3
 a26:=Tryz.isAgg3
 z26:=Tryz.sizeOf3
 v26:=Tryz.zeroValue3
 t27:=Tryz.underlying110
 a27:=Tryz.isAgg110
 z27:=Tryz.sizeOf110
 v27:=Tryz.zeroValue110
 t28:=Tryz.underlying111
 a28:=Tryz.isAgg111
 z28:=Tryz.sizeOf111
 v28:=Tryz.zeroValue111
 t33:=Tryz.underlying133
 a33:=Tryz.isAgg133
 z33:=Tryz.sizeOf133
 v33:=Tryz.zeroValue133}
def Tryz.keys73_ren:Go.Shelf.Ren:=⟨fun|7=>73|10=>108|n=>n,fun|23=>84|26=>3|3=>67|28=>111|0=>0|27=>110|33=>133|4=>4|n=>n,fun|n=>n⟩
theorem Tryz.keys73:Go.Proofs.SlLaysZI.n7 Tryz.prog Tryz.keys73_ren:= {
 mixed:=by kernel_rfl
 f7:=⟨Tryz.f73.name,by decide,Tryz.func73.trans (congrArg some (by kernel_rfl))⟩
 f10:=⟨Tryz.f108.name,by decide,Tryz.func108.trans (congrArg some (by kernel_rfl))⟩
 t0:=Tryz.underlying0
 a0:=Tryz.isAgg0
 z0:=Tryz.sizeOf0
 v0:=Tryz.zeroValue0
 t4:=Tryz.underlying4
 a4:=Tryz.isAgg4
 z4:=Tryz.sizeOf4
 v4:=Tryz.zeroValue4
 t23:=Tryz.underlying84
 a23:=Tryz.isAgg84
 z23:=Tryz.sizeOf84
 v23:=Tryz.zeroValue84
 t26:=Tryz.underlying3
 a26:=Tryz.isAgg3
 z26:=Tryz.sizeOf3
 v26:=Tryz.zeroValue3
 t27:=Tryz.underlying110
 a27:=Tryz.isAgg110
 z27:=Tryz.sizeOf110
 v27:=Tryz.zeroValue110
 t28:=Tryz.underlying111
 a28:=Tryz.isAgg111
 z28:=Tryz.sizeOf111
 v28:=Tryz.zeroValue111
 t33:=Tryz.underlying133
 a33:=Tryz.isAgg133
 z33:=Tryz.sizeOf133
 v33:=Tryz.zeroValue133}
def Tryz.keys74_ren:Go.Shelf.Ren:=⟨fun|7=>74|10=>109|n=>n,fun|23=>51|26=>3|3=>70|28=>111|0=>0|27=>110|33=>133|4=>4|n=>n,fun|n=>n⟩
theorem Tryz.keys74:Go.Proofs.SlLaysZI.n7 Tryz.prog Tryz.keys74_ren:= {
 mixed:=by kernel_rfl
 f7:=⟨Tryz.f74.name,by decide,Tryz.func74.trans (congrArg some (by kernel_rfl))⟩
 f10:=⟨Tryz.f109.name,by decide,Tryz.func109.trans (congrArg some (by kernel_rfl))⟩
 t0:=Tryz.underlying0
 a0:=Tryz.isAgg0
 z0:=Tryz.sizeOf0
 v0:=Tryz.zeroValue0
 t4:=Tryz.underlying4
 a4:=Tryz.isAgg4
 z4:=Tryz.sizeOf4
 v4:=Tryz.zeroValue4
 t23:=Tryz.underlying51
 a23:=Tryz.isAgg51
 z23:=Tryz.sizeOf51
 v23:=Tryz.zeroValue51
 t26:=Tryz.underlying3
 a26:=Tryz.isAgg3
 z26:=Tryz.sizeOf3
 v26:=Tryz.zeroValue3
 t27:=Tryz.underlying110
 a27:=Tryz.isAgg110
 z27:=Tryz.sizeOf110
 v27:=Tryz.zeroValue110
 t28:=Tryz.underlying111
 a28:=Tryz.isAgg111
 z28:=Tryz.sizeOf111
 v28:=Tryz.zeroValue111
 t33:=Tryz.underlying133
 a33:=Tryz.isAgg133
 z33:=Tryz.sizeOf133
 v33:=Tryz.zeroValue133}
def Tryz.keys75_ren:Go.Shelf.Ren:=⟨fun|7=>75|10=>110|n=>n,fun|23=>85|26=>3|3=>106|28=>111|0=>0|27=>110|33=>133|4=>4|n=>n,fun|n=>n⟩
theorem Tryz.keys75:Go.Proofs.SlLaysZI.n7 Tryz.prog Tryz.keys75_ren:= {
 mixed:=by kernel_rfl
 f7:=⟨Tryz.f75.name,by decide,Tryz.func75.trans (congrArg some (by kernel_rfl))⟩
 f10:=⟨Tryz.f110.name,by decide,Tryz.func110.trans (congrArg some (by kernel_rfl))⟩
 t0:=Tryz.underlying0
 a0:=Tryz.isAgg0
 z0:=Tryz.sizeOf0
 v0:=Tryz.zeroValue0
 t4:=Tryz.underlying4
 a4:=Tryz.isAgg4
 z4:=Tryz.sizeOf4
 v4:=Tryz.zeroValue4
 t23:=Tryz.underlying85
 a23:=Tryz.isAgg85
 z23:=Tryz.sizeOf85
 v23:=Tryz.zeroValue85
 t26:=Tryz.underlying3
 a26:=Tryz.isAgg3
 z26:=Tryz.sizeOf3
 v26:=Tryz.zeroValue3
 t27:=Tryz.underlying110
 a27:=Tryz.isAgg110
 z27:=Tryz.sizeOf110
 v27:=Tryz.zeroValue110
 t28:=Tryz.underlying111
 a28:=Tryz.isAgg111
 z28:=Tryz.sizeOf111
 v28:=Tryz.zeroValue111
 t33:=Tryz.underlying133
 a33:=Tryz.isAgg133
 z33:=Tryz.sizeOf133
 v33:=Tryz.zeroValue133}
def Tryz.sorted41_ren:Go.Shelf.Ren:=⟨fun|6=>41|8=>78|9=>79|11=>111|13=>83|12=>112|23=>122|24=>123|14=>152|15=>153|16=>154|17=>155|18=>156|19=>157|20=>158|21=>159|22=>160|25=>181|26=>162|27=>163|28=>182|29=>183|30=>135|31=>192|n=>n,fun|26=>3|28=>111|24=>37|0=>0|3=>3|37=>154|48=>181|50=>183|4=>4|40=>175|39=>174|45=>137|5=>5|9=>9|51=>204|55=>208|57=>222|58=>45|33=>133|n=>n,fun|n=>n⟩
theorem Tryz.sorted41:Go.Proofs.SlLaysZI.n6 Tryz.prog Tryz.sorted41_ren:= {
 mixed:=by kernel_rfl
 f6:=⟨Tryz.f41.name,by decide,Tryz.func41.trans (congrArg some (by kernel_rfl))⟩
 f8:=⟨Tryz.f78.name,by decide,Tryz.func78.trans (congrArg some (by kernel_rfl))⟩
 f11:=⟨Tryz.f111.name,by decide,Tryz.func111.trans (congrArg some (by kernel_rfl))⟩
 t0:=Tryz.underlying0
 a0:=Tryz.isAgg0
 z0:=Tryz.sizeOf0
 v0:=Tryz.zeroValue0
 t24:=Tryz.underlying37
 a24:=Tryz.isAgg37
 z24:=Tryz.sizeOf37
 v24:=Tryz.zeroValue37
 t26:=Tryz.underlying3
 a26:=Tryz.isAgg3
 z26:=Tryz.sizeOf3
 v26:=Tryz.zeroValue3
 t28:=Tryz.underlying111
 a28:=Tryz.isAgg111
 z28:=Tryz.sizeOf111
 v28:=Tryz.zeroValue111
 i26:=by kernel_rfl}
def Tryz.sort79_ren:Go.Shelf.Ren:=⟨fun|5=>79|8=>83|7=>112|19=>122|20=>123|10=>152|11=>153|12=>154|13=>155|14=>156|15=>157|16=>158|17=>159|18=>160|30=>181|31=>162|32=>163|33=>182|34=>183|35=>135|40=>192|n=>n,fun|23=>37|25=>3|3=>3|32=>154|22=>37|0=>0|44=>181|46=>183|4=>4|36=>175|35=>174|41=>137|5=>5|9=>9|53=>204|57=>208|63=>222|64=>45|n=>n,fun|n=>n⟩
theorem Tryz.sort79:Go.Proofs.SlLaysM.n5 Tryz.prog Tryz.sort79_ren:= {
 mixed:=by kernel_rfl
 f5:=⟨Tryz.f79.name,by decide,Tryz.func79.trans (congrArg some (by kernel_rfl))⟩
 f7:=⟨Tryz.f112.name,by decide,Tryz.func112.trans (congrArg some (by kernel_rfl))⟩
 f8:=Tryz.func83.trans (congrArg some (by kernel_rfl))
 f10:=⟨Tryz.f152.name,by decide,Tryz.func152.trans (congrArg some (by kernel_rfl))⟩
 f11:=⟨Tryz.f153.name,by decide,Tryz.func153.trans (congrArg some (by kernel_rfl))⟩
 f12:=⟨Tryz.f154.name,by decide,Tryz.func154.trans (congrArg some (by kernel_rfl))⟩
 f13:=⟨Tryz.f155.name,by decide,Tryz.func155.trans (congrArg some (by kernel_rfl))⟩
 f14:=⟨Tryz.f156.name,by decide,Tryz.func156.trans (congrArg some (by kernel_rfl))⟩
 f15:=⟨Tryz.f157.name,by decide,Tryz.func157.trans (congrArg some (by kernel_rfl))⟩
 f16:=⟨Tryz.f158.name,by decide,Tryz.func158.trans (congrArg some (by kernel_rfl))⟩
 f17:=⟨Tryz.f159.name,by decide,Tryz.func159.trans (congrArg some (by kernel_rfl))⟩
 f18:=⟨Tryz.f160.name,by decide,Tryz.func160.trans (congrArg some (by kernel_rfl))⟩
 f19:=Tryz.func122.trans (congrArg some (by kernel_rfl))
 f20:=Tryz.func123.trans (congrArg some (by kernel_rfl))
 f30:=⟨Tryz.f181.name,by decide,Tryz.func181.trans (congrArg some (by kernel_rfl))⟩
 f31:=Tryz.func162.trans (congrArg some (by kernel_rfl))
 f32:=Tryz.func163.trans (congrArg some (by kernel_rfl))
 f33:=⟨Tryz.f182.name,by decide,Tryz.func182.trans (congrArg some (by kernel_rfl))⟩
 f34:=⟨Tryz.f183.name,by decide,Tryz.func183.trans (congrArg some (by kernel_rfl))⟩
 f35:=⟨Tryz.f135.name,by decide,Tryz.func135.trans (congrArg some (by kernel_rfl))⟩
 f40:=⟨Tryz.f192.name,by decide,Tryz.func192.trans (congrArg some (by kernel_rfl))⟩
 t0:=Tryz.underlying0
 a0:=Tryz.isAgg0
 z0:=Tryz.sizeOf0
 v0:=Tryz.zeroValue0
 t3:=Tryz.underlying3
 a3:=Tryz.isAgg3
 z3:=Tryz.sizeOf3
 v3:=Tryz.zeroValue3
 t4:=Tryz.underlying4
 a4:=Tryz.isAgg4
 z4:=Tryz.sizeOf4
 v4:=Tryz.zeroValue4
 t5:=Tryz.underlying5
 a5:=Tryz.isAgg5
 z5:=Tryz.sizeOf5
 v5:=Tryz.zeroValue5
 t9:=Tryz.underlying9
 a9:=Tryz.isAgg9
 z9:=Tryz.sizeOf9
 v9:=Tryz.zeroValue9
 t22:=Tryz.underlying37
 a22:=Tryz.isAgg37
 z22:=Tryz.sizeOf37
 v22:=Tryz.zeroValue37
 t23:=Tryz.underlying37
 a23:=Tryz.isAgg37
 z23:=Tryz.sizeOf37
 v23:=Tryz.zeroValue37
 t25:=Tryz.underlying3
 a25:=Tryz.isAgg3
 z25:=Tryz.sizeOf3
 v25:=Tryz.zeroValue3
 t32:=Tryz.underlying154
 a32:=Tryz.isAgg154
 z32:=Tryz.sizeOf154
 v32:=Tryz.zeroValue154
 t35:=Tryz.underlying174
 a35:=Tryz.isAgg174
 z35:=Tryz.sizeOf174
 v35:=Tryz.zeroValue174
 t36:=Tryz.underlying175
 a36:=Tryz.isAgg175
 z36:=Tryz.sizeOf175
 v36:=Tryz.zeroValue175
 t41:=Tryz.underlying137
 a41:=Tryz.isAgg137
 z41:=Tryz.sizeOf137
 v41:=Tryz.zeroValue137
 t44:=Tryz.underlying181
 a44:=Tryz.isAgg181
 z44:=Tryz.sizeOf181
 v44:=Tryz.zeroValue181
 t46:=Tryz.underlying183
 a46:=Tryz.isAgg183
 z46:=Tryz.sizeOf183
 v46:=Tryz.zeroValue183
 t53:=Tryz.underlying204
 a53:=Tryz.isAgg204
 z53:=Tryz.sizeOf204
 v53:=Tryz.zeroValue204
 t57:=Tryz.underlying208
 a57:=Tryz.isAgg208
 z57:=Tryz.sizeOf208
 v57:=Tryz.zeroValue208
 t63:=Tryz.underlying222
 a63:=Tryz.isAgg222
 z63:=Tryz.sizeOf222
 v63:=Tryz.zeroValue222
 t64:=Tryz.underlying45
 a64:=Tryz.isAgg45
 z64:=Tryz.sizeOf45
 v64:=Tryz.zeroValue45}
open Go.RowKit Go.Maps Go.Sort in
theorem Tryz.sorts41(m:Nat):AnyZI.SortsIn Tryz.prog Tryz.sorted41_ren Fence.wide m:=
 ⟨fun blk off cap ss W hH hblk hsz=>callsIn_wide.2 (AnyM.slices_Sort_int Tryz.sort79 blk off cap ss W hH hblk hsz),
 fun p cap W=>callsIn_wide.2 (AnyM.slices_Sort_int_none Tryz.sort79 p cap W)⟩
open Go.RowKit Go.Maps Go.Sort in
theorem Tryz.sortedKeys42{H:Type}(Bm b nn:Nat)(D0:DataW H)(R:Value→Option (DataW H×List MemPlace))(w:World)(hBm:Bm<w.heap.size)(hm:w.cell? ⟨Bm,0,none⟩=some (.map (some b)))(hown:w.ownsMap Tryz.prog 3 R b nn D0)(hmax:Maps.size D0≤maxLen)(hbytes:Maps.size D0*8≤140737488355328):
  Calls Tryz.prog 41 #[.func (.func 80) #[] #[.pointer (some ⟨Bm,0,none⟩)]] w fun e w'=>∃(v:Value) (ss:List Int),e=.returned v∧ss.Perm (intKeys D0)∧
   w'.ownsRow w.heap.size 3 1 v ss.length ((ss.mergeSort (fun x y=>decide (x≤y))).map encZ)∧(v=.slice none 0 0↔ss=[])∧Below w.heap.size w w':=by
 refine(callsIn_wide (n:=5)).1 ?_
 have hseq:SeqGives Fence.wide 2 Tryz.prog 80 #[.pointer (some ⟨Bm,0,none⟩)] encZ (fun ss=>ss.Perm (intKeys D0)) (Maps.size D0) w:=
  AnyZI.keys_gives (ρ:=Tryz.keys42_ren) {Tryz.keys42 with} Fence.wide _ trivial rfl (by omega) Bm b nn D0 w hBm hm hown
 exact AnyZI.sorted_in Tryz.sorted41 Fence.wide 5 trivial trivial trivial trivial rfl (by omega) (Tryz.sorts41 _) (enters_of Tryz.func79 (by kernel_rfl) rfl) 80 #[.pointer (some ⟨Bm,0,none⟩)] trivial (enters_of Tryz.func80 (by kernel_rfl) rfl) _ _ hmax hbytes _ hseq
open Go.RowKit Go.Maps Go.Sort in
theorem Tryz.sortedKeys72{H:Type}(Bm b nn:Nat)(D0:DataW H)(R:Value→Option (DataW H×List MemPlace))(w:World)(hBm:Bm<w.heap.size)(hm:w.cell? ⟨Bm,0,none⟩=some (.map (some b)))(hown:w.ownsMap Tryz.prog 3 R b nn D0)(hmax:Maps.size D0≤maxLen)(hbytes:Maps.size D0*8≤140737488355328):
  Calls Tryz.prog 41 #[.func (.func 107) #[] #[.pointer (some ⟨Bm,0,none⟩)]] w fun e w'=>∃(v:Value) (ss:List Int),e=.returned v∧ss.Perm (intKeys D0)∧
   w'.ownsRow w.heap.size 3 1 v ss.length ((ss.mergeSort (fun x y=>decide (x≤y))).map encZ)∧(v=.slice none 0 0↔ss=[])∧Below w.heap.size w w':=by
 refine(callsIn_wide (n:=5)).1 ?_
 have hseq:SeqGives Fence.wide 2 Tryz.prog 107 #[.pointer (some ⟨Bm,0,none⟩)] encZ (fun ss=>ss.Perm (intKeys D0)) (Maps.size D0) w:=
  AnyZI.keys_gives (ρ:=Tryz.keys72_ren) {Tryz.keys72 with} Fence.wide _ trivial rfl (by omega) Bm b nn D0 w hBm hm hown
 exact AnyZI.sorted_in Tryz.sorted41 Fence.wide 5 trivial trivial trivial trivial rfl (by omega) (Tryz.sorts41 _) (enters_of Tryz.func79 (by kernel_rfl) rfl) 107 #[.pointer (some ⟨Bm,0,none⟩)] trivial (enters_of Tryz.func107 (by kernel_rfl) rfl) _ _ hmax hbytes _ hseq
open Go.RowKit Go.Maps Go.Sort in
theorem Tryz.sortedKeys73{H:Type}(Bm b nn:Nat)(D0:DataW H)(R:Value→Option (DataW H×List MemPlace))(w:World)(hBm:Bm<w.heap.size)(hm:w.cell? ⟨Bm,0,none⟩=some (.map (some b)))(hown:w.ownsMap Tryz.prog 3 R b nn D0)(hmax:Maps.size D0≤maxLen)(hbytes:Maps.size D0*8≤140737488355328):
  Calls Tryz.prog 41 #[.func (.func 108) #[] #[.pointer (some ⟨Bm,0,none⟩)]] w fun e w'=>∃(v:Value) (ss:List Int),e=.returned v∧ss.Perm (intKeys D0)∧
   w'.ownsRow w.heap.size 3 1 v ss.length ((ss.mergeSort (fun x y=>decide (x≤y))).map encZ)∧(v=.slice none 0 0↔ss=[])∧Below w.heap.size w w':=by
 refine(callsIn_wide (n:=5)).1 ?_
 have hseq:SeqGives Fence.wide 2 Tryz.prog 108 #[.pointer (some ⟨Bm,0,none⟩)] encZ (fun ss=>ss.Perm (intKeys D0)) (Maps.size D0) w:=
  AnyZI.keys_gives (ρ:=Tryz.keys73_ren) {Tryz.keys73 with} Fence.wide _ trivial rfl (by omega) Bm b nn D0 w hBm hm hown
 exact AnyZI.sorted_in Tryz.sorted41 Fence.wide 5 trivial trivial trivial trivial rfl (by omega) (Tryz.sorts41 _) (enters_of Tryz.func79 (by kernel_rfl) rfl) 108 #[.pointer (some ⟨Bm,0,none⟩)] trivial (enters_of Tryz.func108 (by kernel_rfl) rfl) _ _ hmax hbytes _ hseq
open Go.RowKit Go.Maps Go.Sort in
theorem Tryz.sortedKeys74{H:Type}(Bm b nn:Nat)(D0:DataW H)(R:Value→Option (DataW H×List MemPlace))(w:World)(hBm:Bm<w.heap.size)(hm:w.cell? ⟨Bm,0,none⟩=some (.map (some b)))(hown:w.ownsMap Tryz.prog 3 R b nn D0)(hmax:Maps.size D0≤maxLen)(hbytes:Maps.size D0*8≤140737488355328):
  Calls Tryz.prog 41 #[.func (.func 109) #[] #[.pointer (some ⟨Bm,0,none⟩)]] w fun e w'=>∃(v:Value) (ss:List Int),e=.returned v∧ss.Perm (intKeys D0)∧
   w'.ownsRow w.heap.size 3 1 v ss.length ((ss.mergeSort (fun x y=>decide (x≤y))).map encZ)∧(v=.slice none 0 0↔ss=[])∧Below w.heap.size w w':=by
 refine(callsIn_wide (n:=5)).1 ?_
 have hseq:SeqGives Fence.wide 2 Tryz.prog 109 #[.pointer (some ⟨Bm,0,none⟩)] encZ (fun ss=>ss.Perm (intKeys D0)) (Maps.size D0) w:=
  AnyZI.keys_gives (ρ:=Tryz.keys74_ren) {Tryz.keys74 with} Fence.wide _ trivial rfl (by omega) Bm b nn D0 w hBm hm hown
 exact AnyZI.sorted_in Tryz.sorted41 Fence.wide 5 trivial trivial trivial trivial rfl (by omega) (Tryz.sorts41 _) (enters_of Tryz.func79 (by kernel_rfl) rfl) 109 #[.pointer (some ⟨Bm,0,none⟩)] trivial (enters_of Tryz.func109 (by kernel_rfl) rfl) _ _ hmax hbytes _ hseq
open Go.RowKit Go.Maps Go.Sort in
theorem Tryz.sortedKeys75{H:Type}(Bm b nn:Nat)(D0:DataW H)(R:Value→Option (DataW H×List MemPlace))(w:World)(hBm:Bm<w.heap.size)(hm:w.cell? ⟨Bm,0,none⟩=some (.map (some b)))(hown:w.ownsMap Tryz.prog 3 R b nn D0)(hmax:Maps.size D0≤maxLen)(hbytes:Maps.size D0*8≤140737488355328):
  Calls Tryz.prog 41 #[.func (.func 110) #[] #[.pointer (some ⟨Bm,0,none⟩)]] w fun e w'=>∃(v:Value) (ss:List Int),e=.returned v∧ss.Perm (intKeys D0)∧
   w'.ownsRow w.heap.size 3 1 v ss.length ((ss.mergeSort (fun x y=>decide (x≤y))).map encZ)∧(v=.slice none 0 0↔ss=[])∧Below w.heap.size w w':=by
 refine(callsIn_wide (n:=5)).1 ?_
 have hseq:SeqGives Fence.wide 2 Tryz.prog 110 #[.pointer (some ⟨Bm,0,none⟩)] encZ (fun ss=>ss.Perm (intKeys D0)) (Maps.size D0) w:=
  AnyZI.keys_gives (ρ:=Tryz.keys75_ren) {Tryz.keys75 with} Fence.wide _ trivial rfl (by omega) Bm b nn D0 w hBm hm hown
 exact AnyZI.sorted_in Tryz.sorted41 Fence.wide 5 trivial trivial trivial trivial rfl (by omega) (Tryz.sorts41 _) (enters_of Tryz.func79 (by kernel_rfl) rfl) 110 #[.pointer (some ⟨Bm,0,none⟩)] trivial (enters_of Tryz.func110 (by kernel_rfl) rfl) _ _ hmax hbytes _ hseq
def Tryz.keys21_ren:Go.Shelf.Ren:=⟨fun|7=>21|10=>45|n=>n,fun|23=>50|26=>9|3=>54|28=>75|0=>0|27=>74|33=>114|4=>4|n=>n,fun|n=>n⟩
theorem Tryz.keys21:Go.Proofs.SlLaysZ.n7 Tryz.prog Tryz.keys21_ren:= {
 mixed:=by kernel_rfl
 f7:=⟨Tryz.f21.name,by decide,Tryz.func21.trans (congrArg some (by kernel_rfl))⟩
 f10:=⟨Tryz.f45.name,by decide,Tryz.func45.trans (congrArg some (by kernel_rfl))⟩
 t0:=Tryz.underlying0
 a0:=Tryz.isAgg0
 z0:=Tryz.sizeOf0
 v0:=Tryz.zeroValue0
 t4:=Tryz.underlying4
 a4:=Tryz.isAgg4
 z4:=Tryz.sizeOf4
 v4:=Tryz.zeroValue4
 t23:=Tryz.underlying50
 a23:=Tryz.isAgg50
 z23:=Tryz.sizeOf50
 v23:=Tryz.zeroValue50
 t26:=Tryz.underlying9
 a26:=Tryz.isAgg9
 z26:=Tryz.sizeOf9
 v26:=Tryz.zeroValue9
 t27:=Tryz.underlying74
 a27:=Tryz.isAgg74
 z27:=Tryz.sizeOf74
 v27:=Tryz.zeroValue74
 t28:=Tryz.underlying75
 a28:=Tryz.isAgg75
 z28:=Tryz.sizeOf75
 v28:=Tryz.zeroValue75
 t33:=Tryz.underlying114
 a33:=Tryz.isAgg114
 z33:=Tryz.sizeOf114
 v33:=Tryz.zeroValue114}
def Tryz.sorted20_ren:Go.Shelf.Ren:=⟨fun|6=>20|8=>43|9=>44|11=>81|13=>83|12=>82|23=>122|24=>123|14=>113|15=>114|16=>115|17=>116|18=>117|19=>118|20=>119|21=>120|22=>121|25=>161|26=>162|27=>163|28=>164|29=>165|30=>166|31=>184|n=>n,fun|26=>9|28=>75|24=>68|0=>0|3=>3|37=>154|48=>181|50=>183|4=>4|40=>175|39=>174|45=>137|5=>5|9=>9|51=>204|55=>208|57=>222|58=>45|33=>114|n=>n,fun|n=>n⟩
theorem Tryz.sorted20:Go.Proofs.SlLaysZ.n6 Tryz.prog Tryz.sorted20_ren:= {
 mixed:=by kernel_rfl
 f6:=⟨Tryz.f20.name,by decide,Tryz.func20.trans (congrArg some (by kernel_rfl))⟩
 f8:=⟨Tryz.f43.name,by decide,Tryz.func43.trans (congrArg some (by kernel_rfl))⟩
 f11:=⟨Tryz.f81.name,by decide,Tryz.func81.trans (congrArg some (by kernel_rfl))⟩
 t0:=Tryz.underlying0
 a0:=Tryz.isAgg0
 z0:=Tryz.sizeOf0
 v0:=Tryz.zeroValue0
 t24:=Tryz.underlying68
 a24:=Tryz.isAgg68
 z24:=Tryz.sizeOf68
 v24:=Tryz.zeroValue68
 t26:=Tryz.underlying9
 a26:=Tryz.isAgg9
 z26:=Tryz.sizeOf9
 v26:=Tryz.zeroValue9
 t28:=Tryz.underlying75
 a28:=Tryz.isAgg75
 z28:=Tryz.sizeOf75
 v28:=Tryz.zeroValue75
 i26:=by kernel_rfl}
def Tryz.sort44_ren:Go.Shelf.Ren:=⟨fun|6=>44|8=>83|9=>82|19=>122|20=>123|21=>113|22=>114|23=>115|24=>116|25=>117|26=>118|27=>119|28=>120|29=>121|36=>161|31=>162|32=>163|37=>164|38=>165|39=>166|41=>184|n=>n,fun|27=>68|29=>9|3=>3|32=>154|26=>68|0=>0|44=>181|46=>183|4=>4|36=>175|35=>174|41=>137|5=>5|9=>9|53=>204|57=>208|63=>222|64=>45|n=>n,fun|n=>n⟩
theorem Tryz.sort44:Go.Proofs.SlLaysM.n6 Tryz.prog Tryz.sort44_ren:= {
 mixed:=by kernel_rfl
 f6:=⟨Tryz.f44.name,by decide,Tryz.func44.trans (congrArg some (by kernel_rfl))⟩
 f8:=Tryz.func83.trans (congrArg some (by kernel_rfl))
 f9:=⟨Tryz.f82.name,by decide,Tryz.func82.trans (congrArg some (by kernel_rfl))⟩
 f19:=Tryz.func122.trans (congrArg some (by kernel_rfl))
 f20:=Tryz.func123.trans (congrArg some (by kernel_rfl))
 f21:=⟨Tryz.f113.name,by decide,Tryz.func113.trans (congrArg some (by kernel_rfl))⟩
 f22:=⟨Tryz.f114.name,by decide,Tryz.func114.trans (congrArg some (by kernel_rfl))⟩
 f23:=⟨Tryz.f115.name,by decide,Tryz.func115.trans (congrArg some (by kernel_rfl))⟩
 f24:=⟨Tryz.f116.name,by decide,Tryz.func116.trans (congrArg some (by kernel_rfl))⟩
 f25:=⟨Tryz.f117.name,by decide,Tryz.func117.trans (congrArg some (by kernel_rfl))⟩
 f26:=⟨Tryz.f118.name,by decide,Tryz.func118.trans (congrArg some (by kernel_rfl))⟩
 f27:=⟨Tryz.f119.name,by decide,Tryz.func119.trans (congrArg some (by kernel_rfl))⟩
 f28:=⟨Tryz.f120.name,by decide,Tryz.func120.trans (congrArg some (by kernel_rfl))⟩
 f29:=⟨Tryz.f121.name,by decide,Tryz.func121.trans (congrArg some (by kernel_rfl))⟩
 f31:=Tryz.func162.trans (congrArg some (by kernel_rfl))
 f32:=Tryz.func163.trans (congrArg some (by kernel_rfl))
 f36:=⟨Tryz.f161.name,by decide,Tryz.func161.trans (congrArg some (by kernel_rfl))⟩
 f37:=⟨Tryz.f164.name,by decide,Tryz.func164.trans (congrArg some (by kernel_rfl))⟩
 f38:=⟨Tryz.f165.name,by decide,Tryz.func165.trans (congrArg some (by kernel_rfl))⟩
 f39:=⟨Tryz.f166.name,by decide,Tryz.func166.trans (congrArg some (by kernel_rfl))⟩
 f41:=⟨Tryz.f184.name,by decide,Tryz.func184.trans (congrArg some (by kernel_rfl))⟩
 t0:=Tryz.underlying0
 a0:=Tryz.isAgg0
 z0:=Tryz.sizeOf0
 v0:=Tryz.zeroValue0
 t3:=Tryz.underlying3
 a3:=Tryz.isAgg3
 z3:=Tryz.sizeOf3
 v3:=Tryz.zeroValue3
 t4:=Tryz.underlying4
 a4:=Tryz.isAgg4
 z4:=Tryz.sizeOf4
 v4:=Tryz.zeroValue4
 t5:=Tryz.underlying5
 a5:=Tryz.isAgg5
 z5:=Tryz.sizeOf5
 v5:=Tryz.zeroValue5
 t9:=Tryz.underlying9
 a9:=Tryz.isAgg9
 z9:=Tryz.sizeOf9
 v9:=Tryz.zeroValue9
 t26:=Tryz.underlying68
 a26:=Tryz.isAgg68
 z26:=Tryz.sizeOf68
 v26:=Tryz.zeroValue68
 t27:=Tryz.underlying68
 a27:=Tryz.isAgg68
 z27:=Tryz.sizeOf68
 v27:=Tryz.zeroValue68
 t29:=Tryz.underlying9
 a29:=Tryz.isAgg9
 z29:=Tryz.sizeOf9
 v29:=Tryz.zeroValue9
 t32:=Tryz.underlying154
 a32:=Tryz.isAgg154
 z32:=Tryz.sizeOf154
 v32:=Tryz.zeroValue154
 t35:=Tryz.underlying174
 a35:=Tryz.isAgg174
 z35:=Tryz.sizeOf174
 v35:=Tryz.zeroValue174
 t36:=Tryz.underlying175
 a36:=Tryz.isAgg175
 z36:=Tryz.sizeOf175
 v36:=Tryz.zeroValue175
 t41:=Tryz.underlying137
 a41:=Tryz.isAgg137
 z41:=Tryz.sizeOf137
 v41:=Tryz.zeroValue137
 t44:=Tryz.underlying181
 a44:=Tryz.isAgg181
 z44:=Tryz.sizeOf181
 v44:=Tryz.zeroValue181
 t46:=Tryz.underlying183
 a46:=Tryz.isAgg183
 z46:=Tryz.sizeOf183
 v46:=Tryz.zeroValue183
 t53:=Tryz.underlying204
 a53:=Tryz.isAgg204
 z53:=Tryz.sizeOf204
 v53:=Tryz.zeroValue204
 t57:=Tryz.underlying208
 a57:=Tryz.isAgg208
 z57:=Tryz.sizeOf208
 v57:=Tryz.zeroValue208
 t63:=Tryz.underlying222
 a63:=Tryz.isAgg222
 z63:=Tryz.sizeOf222
 v63:=Tryz.zeroValue222
 t64:=Tryz.underlying45
 a64:=Tryz.isAgg45
 z64:=Tryz.sizeOf45
 v64:=Tryz.zeroValue45}
open Go.RowKit Go.Maps Go.Sort in
theorem Tryz.sorts20(m:Nat):AnyZ.SortsIn Tryz.prog Tryz.sorted20_ren Fence.wide m:=
 ⟨fun blk off cap ss W hH hblk hsz=>callsIn_wide.2 (AnyM.slices_Sort_string Tryz.sort44 blk off cap ss W hH hblk hsz),
 fun p cap W=>callsIn_wide.2 (AnyM.slices_Sort_string_none Tryz.sort44 p cap W)⟩
open Go.RowKit Go.Maps Go.Sort in
theorem Tryz.sortedKeys21{H:Type}(Bm b nn:Nat)(D0:DataW H)(R:Value→Option (DataW H×List MemPlace))(w:World)(hBm:Bm<w.heap.size)(hm:w.cell? ⟨Bm,0,none⟩=some (.map (some b)))(hown:w.ownsMap Tryz.prog 9 R b nn D0)(hmax:Maps.size D0≤maxLen)(hbytes:Maps.size D0*16≤140737488355328):
  Calls Tryz.prog 20 #[.func (.func 45) #[] #[.pointer (some ⟨Bm,0,none⟩)]] w fun e w'=>∃(v:Value) (ss:List (List UInt8)),e=.returned v∧ss.Perm (strKeys D0)∧
   w'.ownsRow w.heap.size 9 1 v ss.length ((ss.mergeSort (fun x y=>decide (x≤y))).map encStr)∧(v=.slice none 0 0↔ss=[])∧Below w.heap.size w w':=by
 refine(callsIn_wide (n:=5)).1 ?_
 have hseq:SeqGives Fence.wide 2 Tryz.prog 45 #[.pointer (some ⟨Bm,0,none⟩)] encStr (fun ss=>ss.Perm (strKeys D0)) (Maps.size D0) w:=
  AnyZ.keys_gives (ρ:=Tryz.keys21_ren) {Tryz.keys21 with} Fence.wide _ trivial rfl (by omega) Bm b nn D0 w hBm hm hown
 exact AnyZ.sorted_in Tryz.sorted20 Fence.wide 5 trivial trivial trivial trivial rfl (by omega) (Tryz.sorts20 _) (enters_of Tryz.func44 (by kernel_rfl) rfl) 45 #[.pointer (some ⟨Bm,0,none⟩)] trivial (enters_of Tryz.func45 (by kernel_rfl) rfl) _ _ hmax hbytes _ hseq
def Tryz.lays2_22_ren:Go.Shelf.Ren:=⟨fun|22=>67|29=>103|30=>104|36=>151|17=>180|n=>n,fun|24=>68|9=>9|3=>3|4=>4|0=>0|n=>n,fun|n=>n⟩
theorem Tryz.lays2_22:Go.Proofs.Lays2.n22 Tryz.prog Tryz.lays2_22_ren:= {
 mixed:=by kernel_rfl
 f17:=Tryz.func180.trans (congrArg some (by kernel_rfl))
 f22:=Tryz.func67.trans (congrArg some (by kernel_rfl))
 f29:=Tryz.func103.trans (congrArg some (by kernel_rfl))
 f30:=Tryz.func104.trans (congrArg some (by kernel_rfl))
 f36:=Tryz.func151.trans (congrArg some (by kernel_rfl))
 t0:=Tryz.underlying0
 a0:=Tryz.isAgg0
 z0:=Tryz.sizeOf0
 v0:=Tryz.zeroValue0
 t3:=Tryz.underlying3
 a3:=Tryz.isAgg3
 z3:=Tryz.sizeOf3
 v3:=Tryz.zeroValue3
 t4:=Tryz.underlying4
 a4:=Tryz.isAgg4
 z4:=Tryz.sizeOf4
 v4:=Tryz.zeroValue4
 t9:=Tryz.underlying9
 a9:=Tryz.isAgg9
 z9:=Tryz.sizeOf9
 v9:=Tryz.zeroValue9
 t24:=Tryz.underlying68
 a24:=Tryz.isAgg68
 z24:=Tryz.sizeOf68
 v24:=Tryz.zeroValue68
 i9:=by kernel_rfl}
def Tryz.lays2_26_ren:Go.Shelf.Ren:=⟨fun|26=>102|33=>119|34=>150|38=>166|n=>n,fun|24=>68|9=>9|3=>3|4=>4|40=>154|0=>0|n=>n,fun|n=>n⟩
theorem Tryz.lays2_26:Go.Proofs.Lays2.n26 Tryz.prog Tryz.lays2_26_ren:= {
 mixed:=by kernel_rfl
 f26:=Tryz.func102.trans (congrArg some (by kernel_rfl))
 f33:=Tryz.func119.trans (congrArg some (by kernel_rfl))
 f34:=Tryz.func150.trans (congrArg some (by kernel_rfl))
 f38:=Tryz.func166.trans (congrArg some (by kernel_rfl))
 t0:=Tryz.underlying0
 a0:=Tryz.isAgg0
 z0:=Tryz.sizeOf0
 v0:=Tryz.zeroValue0
 t3:=Tryz.underlying3
 a3:=Tryz.isAgg3
 z3:=Tryz.sizeOf3
 v3:=Tryz.zeroValue3
 t4:=Tryz.underlying4
 a4:=Tryz.isAgg4
 z4:=Tryz.sizeOf4
 v4:=Tryz.zeroValue4
 t9:=Tryz.underlying9
 a9:=Tryz.isAgg9
 z9:=Tryz.sizeOf9
 v9:=Tryz.zeroValue9
 t24:=Tryz.underlying68
 a24:=Tryz.isAgg68
 z24:=Tryz.sizeOf68
 v24:=Tryz.zeroValue68
 t40:=Tryz.underlying154
 a40:=Tryz.isAgg154
 z40:=Tryz.sizeOf154
 v40:=Tryz.zeroValue154}
end Go.Proofs
namespace Go.Av
open Go Go.Proofs Go.RowKit
section
variable {C:Ctx} {B:Nat} {S:Addr→Prop} {μ:Map} {h:Heap} {w w':World} {α:Type}
theorem kf{av:α→AVal}{enc:α→Value}(hc:∀a,(av a).cells=[av a])(hs:∀a,(av a).sto=true)(hr:∀(w:World) (S:Addr→Prop) (μ:Map) (a:α),Rep w S μ (av a) (enc a))
  (f:Fits C B S μ h w){e:TypeId}{v:Value}{ls:List α}(ho:w'.ownsRow w.heap.size e 1 v ls.length (ls.map enc))(hb:Below w.heap.size w w'):
  ∃S',Fits C B S' μ h w'∧Step B S μ w S' μ w'∧Rep w' S' μ (.sl 1 (ls.map av)) v:=by
 obtain⟨f',st⟩:=f.grown hb
 obtain⟨_,ho⟩:=ho
 rcases ho with⟨rfl,h0⟩| ⟨g,cap,cur,rfl,hg,hheap,hn,hm,hsz,htk⟩
 ·have:ls=[]:=List.length_eq_zero_iff.1 h0
  subst this
  exact⟨S,f',st,.sl0 1 none 0⟩
 ·by_cases hl:ls=[]
  ·subst hl;exact⟨S,f',st,.sl0 1 _ cap⟩
  have hgl:g<w'.heap.size:=(Array.getElem?_eq_some_iff.1 hheap).1
  let S':Addr→Prop:=fun a=>S a∨a.block=g
  have st2:Step B S μ w' S' μ w':=⟨fun a ha=>.inl ha,fun _ _=>rfl,Below.refl _ _,MapLe.refl _,fun a ha=>ha.elim .inl fun e=>.inr (by rw[e];exact Nat.le_trans f.base hg)⟩
  have f2:Fits C B S' μ h w':=⟨fun g' cs hg'=>(f'.glob g' cs hg').mono st2,f'.len,f'.sep,fun p m b h1 e1=>by
    obtain⟨a1,a2,a3⟩:=f'.own p m b h1 e1
    have:=(f.own p m b h1 e1).2.1
    exact⟨a1,a2,fun a ha=>ha.elim (a3 a) fun e=>by omega⟩,f'.base,fun a ha=>ha.elim (f'.lie a) fun e=>by rw[e];exact hgl,
   fun p m k h1 h2=>(f'.blk p m k h1 h2).mono st2 fun _ _=>rfl⟩
  have hget:∀i,cur[0+(i*1+0)]? =cur[i]? :=fun i=>by congr 1;omega
  refine⟨S',f2,st.trans st2,?_⟩
  have hlen:(ls.map av).length=ls.length:=List.length_map ..
  rw[← hlen]
  refine .sl 1 (ls.map av) g 0 cap (fun i _=>cur[i]?.getD undef) (by simpa using hl) (by omega) hm (fun i x hx=>?_) (fun i x j c hx hj=>?_) (fun i x j c hx hj=>?_)
  ·obtain⟨a,_,rfl⟩:=List.mem_map.1 (List.mem_of_getElem? hx);rw[hc];rfl
  ·obtain⟨a,_,rfl⟩:=List.mem_map.1 (List.mem_of_getElem? hx)
   rw[hc]at hj
   match j with
   |0=>
    simp at hj;subst hj
    have hi:i<ls.length:=by have:=(List.getElem?_eq_some_iff.1 hx).1;omega
    have hi2:i<cur.size:=by omega
    refine⟨.inr rfl,?_,hs a⟩
    simp only[World.cell?,hheap]
    simp[hi2]
   |j+1=>simp at hj
  ·rw[List.getElem?_map]at hx
   obtain⟨a,ha,rfl⟩:=Option.map_eq_some_iff.1 hx
   rw[hc]at hj
   match j with
   |0=>
    simp at hj;subst hj
    have hi:i<ls.length:=(List.getElem?_eq_some_iff.1 ha).1
    have:cur[i]? =some (enc a):=by
     have h1:(cur.toList.take (ls.length*1))[i]? =some (enc a):=by rw[htk,List.getElem?_map,ha];rfl
     rw[List.getElem?_take_of_lt (by omega)]at h1
     simpa using h1
    rw[this]
    exact hr _ _ _ a
   |j+1=>simp at hj
theorem bF{P:Program}{f:FuncId}{fn:Func}(hf:P.funcs[f]? =some fn)(hb:fn.body.isNone=false)(hname:(fn.name== "runtime.NumGoroutine")=false)(us:Array Value)(w:World):(callFunc f us).run P w=.ok (.enter f us) w:=by
 have hne:fn.name≠ "runtime.NumGoroutine" :=by simpa using hname
 obtain⟨c,hbc⟩:∃c,fn.body=some c:=by cases hq:fn.body with|none=>simp[hq]at hb|some c=>exact⟨c,rfl⟩
 simp[callFunc,hf,hne,hbc]
end
def noR:Value→Option (DataW Unit×List MemPlace):=fun _=>some (.nil,[])
def kI(n:Int):Lit:=.int .i64 n
def kS(s:Bs):Lit:=.string s
theorem lD(x:Lit×DataW Unit)(l:List (Lit×DataW Unit)):(DataW.insert x l).Perm (x::l):=by
 induction l with
 |nil=>exact List.Perm.refl _
 |cons y r ih=>
  rw[DataW.insert]
  split
  ·exact List.Perm.refl _
  ·exact(ih.cons y).trans (List.Perm.swap x y r)
theorem eD(l:List (Lit×DataW Unit)):(l.foldr DataW.insert []).Perm l:=by
 induction l with
 |nil=>exact List.Perm.refl _
 |cons x l ih=>exact(lD x _).trans (ih.cons x)
def datK(ks:List Lit):DataW Unit:=.map ((ks.map fun k=>(k,(DataW.nil:DataW Unit))).foldr DataW.insert [])
theorem je(ks:List Lit):Maps.size (datK ks)=ks.length:=by
 unfold datK
 rw[Maps.size_eq,(eD _).length_eq,List.length_map]
theorem mt{P:Program}{kt:TypeId}{w:World}{b c:Nat}{cur:Array MapEntry}{ks:List Lit}(hheap:w.heap[b]? =some (.map cur c))(hl:ks.length=cur.size)(hm:cur.size≤maxLen)
  (hk:∀(i:Nat) (x:MapEntry),cur[i]? =some x→∃k,ks[i]? =some k∧keyOf P kt x.key=some k)(hb:∀x∈cur.toList,x.born<c)(hn:(cur.toList.map (·.born)).Nodup)(hd:(cur.toList.map (·.key)).Nodup):
  w.ownsMap P kt noR b cur.size (datK ks):=by
 refine⟨cur,c,hheap,⟨hm,⟨hb,hn,hd⟩,fun x hx=>?_⟩,Nat.le_refl _,?_⟩
 ·obtain⟨i,hi⟩:=List.getElem?_of_mem hx
  obtain⟨k,_,h2⟩:=hk i x (by simpa using hi)
  exact⟨(k,.nil),by simp[WideElems.rd,h2,noR]⟩
 ·unfold datK
  congr 2
  apply List.ext_getElem?
  intro i
  rw[List.getElem?_map,List.getElem?_map]
  by_cases hi:i<cur.size
  ·have hc:cur[i]? =some cur[i]:=Array.getElem?_eq_getElem hi
   obtain⟨k,h1,h2⟩:=hk i _ hc
   have h3:cur.toList[i]? =some cur[i]:=by simp[hi]
   rw[h1,h3]
   simp[WideElems.rg,WideElems.rd,h2,noR]
  ·rw[List.getElem?_eq_none (l:=cur.toList) (by simp;omega),List.getElem?_eq_none (l:=ks) (by omega)];rfl
variable (G:Nat→Option (List AVal))
theorem c9{α:Type}(ev:α→AVal)(I:FuncId)
  (hI:∀(Bm b nn:Nat) (D0:DataW Unit) (R:Value→Option (DataW Unit×List MemPlace)) (w:World),Bm<w.heap.size→w.cell? ⟨Bm,0,none⟩=some (.map (some b))→w.ownsMap Tryz.prog 3 R b nn D0→Maps.size D0≤maxLen→Maps.size D0*8≤140737488355328→
   Calls Tryz.prog 41 #[.func (.func I) #[] #[.pointer (some ⟨Bm,0,none⟩)]] w fun e w'=>∃(v:Value) (ss:List Int),e=.returned v∧ss.Perm (intKeys D0)∧w'.ownsRow w.heap.size 3 1 v ss.length ((ss.mergeSort (fun x y=>decide (x≤y))).map encZ)∧(v=.slice none 0 0↔ss=[])∧Below w.heap.size w w')
  (l:ML Int α)(c:Nat)(hw:WFM l c)(hb:∀e∈l, -9223372036854775808≤e.1∧e.1≤9223372036854775807)(hl:l.length≤100000){h:Heap}{q p T:Nat}(hq:getRow h q 0=some (T,1,[.hm p]))(hp:mapAt h p=some (encM iA ev l,c)):
  Sat (CT G) 41 [.fn (.func I) [] [.hp q 0 0 0]] h (fun r h'=>r=.sl 1 (((l.map (·.1)).mergeSort (fun x y=>decide (x≤y))).map iA)∧h'=h):=by
 intro B S μ w us fit rl
 obtain⟨hul,hur⟩:=rl
 match us,hul,hur with
 | [v0],_,hur=>
  have r0:Rep w S μ (.fn (.func I) [] [.hp q 0 0 0]) v0:=hur 0 _ rfl
  obtain⟨cv,rfl,rc⟩:∃cv,v0=.func (.func I) #[] #[cv]∧Rep w S μ (.hp q 0 0 0) cv:=by
   cases r0 with
   |fn _ _ _ xv cv h1 h2 h3 h4=>
    match xv,cv,h1,h2,h4 with
    | [],[cv],_,_,h4=>exact⟨cv,rfl,h4 0 _ rfl⟩
  obtain⟨m,hm,rf⟩:=fit.row hq
  obtain⟨b0,hb0,rfl⟩:=rc.hp_now hm rf.hver
  have hz:0*m.size+0=0:=by simp
  rw[hz]
  obtain⟨cur,hheap,hcell⟩:∃cur,w.heap[b0]? =some (.cells cur T (0,0))∧∃x,cur[0]? =some x∧Rep w S μ (.hm p) x:=by
   rcases rf.lies with⟨_,h2⟩| ⟨b,cur,h1,h2,_,_,_,h6⟩
   ·cases h2
   ·rw[hb0]at h1;cases h1
    obtain⟨x,hx,rx⟩:=h6 0 (.hm p) 0 (.hm p) rfl rfl
    exact⟨cur,h2,x,by simpa using hx,rx⟩
  obtain⟨x,hx0,rx⟩:=hcell
  obtain⟨m2,b2,cur2,hm2,hv2,hb2,rfl,hheap2,E⟩:=aW fit rx hp
  have hcell0:w.cell? ⟨b0,0,none⟩=some (.map (some b2)):=by simp[World.cell?,hheap,hx0]
  have hlen:cur2.size=l.length:=by have:=E.len;simpa [encM]using this
  have hget:∀(i:Nat) (y:MapEntry),cur2[i]? =some y→∃e,l[i]? =some e∧y.key=encZ e.1∧y.born=e.2.2:=by
   intro i y hy
   have hi:i<l.length:=by have:=(Array.getElem?_eq_some_iff.1 hy).1;omega
   obtain⟨y',hy',r1,_,r3⟩:=E.get i (iA l[i].1,ev l[i].2.1,l[i].2.2) (by rw[encM,List.getElem?_map,List.getElem?_eq_getElem hi];rfl)
   rw[Array.getElem?_toList,hy]at hy';cases hy'
   refine⟨l[i],List.getElem?_eq_getElem hi,?_,r3⟩
   exact r1.int_inv
  have hbk:cur2.toList.map (·.born)=l.map (·.2.2):=by
   apply List.ext_getElem?
   intro i
   rw[List.getElem?_map,List.getElem?_map,Array.getElem?_toList]
   cases hy:cur2[i]? with
   |none=>rw[List.getElem?_eq_none (l:=l) (by rw[Array.getElem?_eq_none_iff]at hy;omega)];rfl
   |some y=>obtain⟨e,h1,_,h3⟩:=hget i y hy;rw[h1];simp[h3]
  have hkk:cur2.toList.map (·.key)=l.map (fun e=>encZ e.1):=by
   apply List.ext_getElem?
   intro i
   rw[List.getElem?_map,List.getElem?_map,Array.getElem?_toList]
   cases hy:cur2[i]? with
   |none=>rw[List.getElem?_eq_none (l:=l) (by rw[Array.getElem?_eq_none_iff]at hy;omega)];rfl
   |some y=>obtain⟨e,h1,h2,_⟩:=hget i y hy;rw[h1];simp[h2]
  have hown:w.ownsMap Tryz.prog 3 noR b2 cur2.size (datK (l.map fun e=>kI e.1)):=by
   refine mt hheap2 (by simp[hlen]) (by simp[maxLen];omega) (fun i y hy=>?_) (fun y hy=>?_) (by rw[hbk];exact hw.borns) ?_
   ·obtain⟨e,h1,h2,_⟩:=hget i y hy
    refine⟨kI e.1,by rw[List.getElem?_map,h1];rfl,?_⟩
    have hu:Tryz.prog.underlying 3=some (.int .i64):=by kernel_rfl
    have:=hb e (List.mem_of_getElem? h1)
    have hwf:(Lit.int .i64 e.1).wf=true:=by
     simp only[Lit.wf,Bool.and_eq_true,decide_eq_true_eq]
     exact this
    rw[h2]
    simp[keyOf,hu,mapKey,encZ,kI,hwf]
   ·obtain⟨i,hi⟩:=List.getElem?_of_mem hy
    obtain⟨e,h1,_,h3⟩:=hget i y (by simpa using hi)
    rw[h3];exact hw.lt e (List.mem_of_getElem? h1)
   ·rw[hkk]
    have:=hw.keys
    rw[show(l.map fun e=>encZ e.1)=(l.map (·.1)).map encZ by simp]
    exact List.Pairwise.map encZ (fun a b hab he=>hab (by first|exact encZ_inj he| (simpa [encStr]using he))) this
  have hsz:Maps.size (datK (l.map fun e=>kI e.1))=l.length:=by rw[je];simp
  change OpOk Tryz.prog _ ((callFunc 41 #[Value.func (Fn.func I) #[] #[Value.pointer (some ⟨b0,0,none⟩)]]).run Tryz.prog w)
  rw[bF (f:=41) Tryz.func41 rfl rfl]
  refine(hI b0 b2 _ _ _ w (Array.getElem?_eq_some_iff.1 hheap).1 hcell0 hown (by rw[hsz];simp[maxLen];omega) (by rw[hsz];omega)).mono fun e w' ⟨v,ss,he,hperm,hrow,_,hbel⟩=>?_
  refine⟨v,he,?_⟩
  have hk:(intKeys (datK (l.map fun e=>kI e.1))).Perm (l.map (·.1)):=by
   unfold datK
   refine((eD _).map _).trans ?_
   rw[List.map_map,List.map_map]
   exact List.Perm.of_eq (List.map_congr_left fun e _=>rfl)
  have hs:ss.mergeSort (fun x y=>decide (x≤y))=(l.map (·.1)).mergeSort (fun x y=>decide (x≤y)):=mergeSort_of_perm_i (hperm.trans hk)
  rw[hs]at hrow
  have hl2:ss.length=((l.map (·.1)).mergeSort (fun x y=>decide (x≤y))).length:=by
   rw[← hs,(List.mergeSort_perm _ _).length_eq]
  rw[hl2]at hrow
  obtain⟨S',f',st',r'⟩:=kf (av:=iA) (enc:=encZ) (fun _=>rfl) (fun _=>rfl) (fun _ _ _ _=>by first|exact .int _ _|exact .str _) fit hrow hbel
  exact⟨_,h,S',μ,⟨rfl,rfl⟩,st',f',r'⟩
end Go.Av
namespace Go.Av
open Go Go.Proofs Go.RowKit
attribute [local irreducible] WP WPl WPix Sat
section
variable {C:Ctx} {B:Nat} {S:Addr→Prop} {μ:Map} {h:Heap} {w w':World}
end
end Go.Av
namespace Go.Av
open Go Go.Proofs Go.RowKit
attribute [local irreducible] WP WPl WPix Sat
variable (G:Nat→Option (List AVal))
section
variable {l:List Ky} {H:Heap} {n v:Nat}
end
end Go.Av
namespace Go.Av
open Go Go.Proofs Go.RowKit
attribute [local irreducible] WP WPl WPix Sat
variable (G:Nat→Option (List AVal))
def PS.within(s:PS)(id:Int):Bool:=decide (id=0)||(lkM s.fo id).isSome
theorem dB(s:PS)(id:Int){H:Heap}{n:Nat}(hn:n+9≤H.length):Sat (CT G) 63 [.hp (n+8) 0 0 0,.int .i64 id] (so H n s) (fun r h'=>r=.bool (s.within id)∧h'=so H n s):=by
 refine sb [.tmp 4] (fn:=Tryz.f63) Tryz.func63 ?_
 intro Q hQ
 refine wk trivial ?_
 (first|refine gq trivial (fun g=>?_) (fun g=>?_)|refine pq trivial (fun g=>?_) (fun g=>?_))<;>(try exact g.elim)<;>(try refine sq trivial ?_)<;>(refine wk trivial ?_)
 ·refine ee hQ trivial ?_
  exact ai hn (.bool _) ⟨by simp[PS.within,g],rfl⟩
 ·refine ee hQ trivial ?_
  exact ai hn (.bool _) ⟨by simp[PS.within,g],rfl⟩
def PS.hold(s:PS)(id k:Int):PS:=if id=0 then s else {s with he:=upM s.he s.c8 id ((lkM s.he id).getD 0+k),c8:=ckM s.he s.c8 id}
theorem bW(s:PS)(id k:Int)(hk: -1000000≤(lkM s.he id).getD 0∧(lkM s.he id).getD 0≤1000000)(hk': -1≤k∧k≤1){H:Heap}{n:Nat}(hn:n+9≤H.length):Sat (CT G) 28 [.hp (n+8) 0 0 0,.int .i64 id,.int .i64 k] (so H n s) (fun r h'=>r=.tup []∧h'=so H n (s.hold id k)):=by
 refine sb [] (fn:=Tryz.f28) Tryz.func28 ?_
 intro Q hQ
 refine wk trivial ?_
 refine cq trivial (fun c=>?_) (fun c=>?_)<;>(try exact c.elim)<;>(refine wk trivial ?_)
 ·refine ee hQ trivial ?_
  exact ci hn (.tup _ (by simp)) ⟨rfl,by rw[PS.hold,if_neg (by omega)]⟩
 ·refine ee hQ trivial ?_
  exact ci hn (.tup _ (by simp)) ⟨rfl,by rw[PS.hold,if_pos (by omega)]⟩
def PS.raise(s:PS)(k:Nat)(id:Int):PS:=match k with
 |0=> {s with t1:=if id>s.t1 then id else s.t1}
 |1=> {s with t2:=if id>s.t2 then id else s.t2}
 |2=> {s with t3:=if id>s.t3 then id else s.t3}
 |_=> {s with t4:=if id>s.t4 then id else s.t4}
theorem cL(s:PS)(k:Nat)(id:Int)(hk:k<4){H:Heap}{n:Nat}(hn:n+9≤H.length):Sat (CT G) 69 [.hp (n+8) 0 0 0,.int .i64 (k:Int),.int .i64 id] (so H n s) (fun r h'=>r=.tup []∧h'=so H n (s.raise k id)):=by
 match k,hk with
 |0,_=>
  refine sb [] (fn:=Tryz.f69) Tryz.func69 ?_
  intro Q hQ
  refine wk trivial ?_
  refine ee hQ trivial ?_
  exact ci hn (.tup _ (by simp)) ⟨rfl,by simp only[PS.raise,decide_eq_true_eq]⟩
 |1,_=>
  refine sb [] (fn:=Tryz.f69) Tryz.func69 ?_
  intro Q hQ
  refine wk trivial ?_
  refine ee hQ trivial ?_
  exact ci hn (.tup _ (by simp)) ⟨rfl,by simp only[PS.raise,decide_eq_true_eq]⟩
 |2,_=>
  refine sb [] (fn:=Tryz.f69) Tryz.func69 ?_
  intro Q hQ
  refine wk trivial ?_
  refine ee hQ trivial ?_
  exact ci hn (.tup _ (by simp)) ⟨rfl,by simp only[PS.raise,decide_eq_true_eq]⟩
 |3,_=>
  refine sb [] (fn:=Tryz.f69) Tryz.func69 ?_
  intro Q hQ
  refine wk trivial ?_
  refine ee hQ trivial ?_
  exact ci hn (.tup _ (by simp)) ⟨rfl,by simp only[PS.raise,decide_eq_true_eq]⟩
def deepO(l:ML Int Fo):Nat→Int→Option Nat
 |0,id=>if (lkM l id).isSome then none else some 0
 |k+1,id=>match lkM l id with
  |none=>some 0
  |some f=>(deepO l k f.inn).map (· +1)
theorem nB(s:PS)(id:Int)(k d:Nat)(hd:deepO s.fo k id=some d)(hk:d≤1000){H:Heap}{n:Nat}(hn:n+9≤H.length):Sat (CT G) 64 [.hp (n+8) 0 0 0,.int .i64 id] (so H n s) (fun r h'=>r=.int .i64 d∧h'=so H n s):=by
 have step:∀(k m:Nat) (id:Int),deepO s.fo k id=some (d-m)→m≤d→((lkM s.fo id).isSome=true∧m+1≤d∧∃k,deepO s.fo k ((lkM s.fo id).getD Fo.z).inn=some (d-(m+1)))∨((lkM s.fo id).isSome=false∧m=d):=by
  intro k m id h hm
  cases k with
  |zero=>
   rw[deepO]at h
   cases hl:lkM s.fo id with
   |none=>rw[hl]at h;simp at h;exact .inr ⟨rfl,by omega⟩
   |some f=>rw[hl]at h;simp at h
  |succ k=>
   rw[deepO]at h
   cases hl:lkM s.fo id with
   |none=>rw[hl]at h;simp at h;exact .inr ⟨rfl,by omega⟩
   |some f=>
    rw[hl]at h
    simp only[Option.map_eq_some_iff]at h
    obtain⟨j,hj,hd⟩:=h
    exact .inl ⟨rfl,by omega,k,by rw[Option.getD_some,hj];congr 1;omega⟩
 refine sb [.tmp 4] (fn:=Tryz.f64) Tryz.func64 ?_
 intro Q hQ
 refine wk trivial ?_
 refine lm (fun nL tL hL=>∃(m:Nat) (f:Fo) (b:Bool),d-m=nL∧so (H++[.row 65 3 0 [.agg [.int .i64 f.id,.int .i64 f.inn,.str f.name]]]) n s=hL∧tL 0=.hp (n+8) 0 0 0∧tL 5=.int .i64 m∧tL 6=.hp H.length 0 0 0∧tL 7=.bool b∧((b=true∧m+1≤d∧∃k,deepO s.fo k f.inn=some (d-(m+1)))∨(b=false∧m=d))) ((fun(m:Nat) (f:Fo) (b:Bool)=>(d-m:Nat)) (0) ((lkM s.fo id).getD Fo.z) ((lkM s.fo id).isSome)) ?_ ?_
 ·refine Wkn.refl ⟨0,(lkM s.fo id).getD Fo.z,(lkM s.fo id).isSome,rfl,bp,?_,?_,?_,?_,step k 0 id hd (by omega)⟩
  all_goals first|exact zq trivial|rfl|omega|trivial|skip
 rintro _ s2 h' ⟨m,f,b,rfl,rfl,e0,e5,e6,e7,hi⟩ K2 hK2
 simp only[ak,ao,Nat.reduceEqDiff, ↓reduceIte]at e0 e5 e6 e7
 have F:=F4 e0 e5 e6 e7
 refine wk F ?_
 refine cq F (fun c=>?_) (fun c=>?_)<;>(try exact c.elim)<;>(refine wk F ?_)
 ·rcases hi with⟨_,h1,k1,h2⟩| ⟨h1,_⟩
  ·refine gA 8 (.two 8 (.two 9 (.one 10 (.one 11 .nil)) 10 (.one 9 (.one 11 .nil))) 9 (.one 8 (.one 10 (.one 11 .nil)))) (by decide+kernel) (by kernel_rfl) (by decide+kernel) ?_
   simp only[List.take_succ_cons,List.take_zero]
   try refine sq F ?_
   repeat' (first|refine cC ?_| (refine cD rfl ?_;refine sq F ?_)| (refine cE rfl rfl ?_ ?_<;>refine sq F ?_))
   all_goals (
    refine hK2 _ _ _ (Wkn.refl ⟨m+1,(lkM s.fo f.inn).getD Fo.z,(lkM s.fo f.inn).isSome,rfl,bp,?_,?_,?_,?_,step k1 (m+1) f.inn h2 h1⟩) (by omega)
    all_goals first|exact zq F|rfl|omega|trivial|skip)
  ·rw[c]at h1;cases h1
 ·rcases hi with⟨h1,_⟩| ⟨_,h1⟩
  ·rw[c]at h1;cases h1
  ·subst h1
   refine ee hQ F ?_
   exact ai hn (.int _ _) ⟨rfl,rfl⟩
end Go.Av
namespace Go.Av
open Go Go.Proofs Go.RowKit
attribute [local irreducible] WP WPl WPix Sat
variable (G:Nat→Option (List AVal))
def sortI(l:List Int):List Int:=l.mergeSort (fun x y=>decide (x≤y))
def valsM{α:Type}(z:α)(l:ML Int α):List α:=(sortI (l.map (·.1))).map fun k=>(lkM l k).getD z
theorem bw(l:List Int):(sortI l).length=l.length:=(List.mergeSort_perm _ _).length_eq
theorem Fo.cells_sto(e:Fo):∀c∈e.av.cells,c.sto=true:=by
 intro c hc;simp only[Fo.av,AVal.cells,List.mem_cons,List.mem_nil_iff,or_false]at hc;rcases hc with rfl|rfl|rfl<;>rfl
theorem Fe.cells_sto(e:Fe):∀c∈e.av.cells,c.sto=true:=by
 intro c hc;simp only[Fe.av,AVal.cells,List.mem_cons,List.mem_nil_iff,or_false]at hc;rcases hc with rfl|rfl|rfl|rfl<;>rfl
theorem Se.cells_sto(e:Se):∀c∈e.av.cells,c.sto=true:=by
 intro c hc;simp only[Se.av,AVal.cells,List.mem_cons,List.mem_nil_iff,or_false]at hc;rcases hc with rfl|rfl|rfl<;>rfl
theorem It.cells_sto(e:It):∀c∈e.av.cells,c.sto=true:=by
 intro c hc;simp only[It.av,AVal.cells,List.mem_cons,List.mem_nil_iff,or_false]at hc;rcases hc with rfl|rfl|rfl|rfl|rfl|rfl|rfl|rfl|rfl<;>rfl
theorem Fo.clo(N:Nat)(f:Fo):Clo N f.av:=bg fun c hc=>by simp[Fo.av]at hc;rcases hc with rfl|rfl|rfl<;>simp
theorem Fe.clo(N:Nat)(f:Fe):Clo N f.av:=bg fun c hc=>by simp[Fe.av]at hc;rcases hc with rfl|rfl|rfl|rfl<;>simp
theorem Se.clo(N:Nat)(f:Se):Clo N f.av:=bg fun c hc=>by simp[Se.av]at hc;rcases hc with rfl|rfl|rfl<;>simp
theorem nC(p:Nat)(h:Heap):Sat (CT G) 72 [.hm p] h (fun r h'=>r=.fn (.func 107) [] [.hp h.length 0 0 0]∧h'=h++[.row 83 1 0 [.hm p]]):=by
 refine sb [.tmp 2] (fn:=Tryz.f72) Tryz.func72 ?_
 intro Q hQ
 refine wk trivial ?_
 refine ee hQ trivial ?_
 exact Fin.whole (by simp) (.fn _ _ _ (fun _ h=>by cases h) (fun x hx=>by simp at hx;subst hx;exact .hp _ _ _ _ (by simp))) ⟨rfl,rfl⟩
theorem iL(s:PS)(hw:WFM s.fo s.c1)(hb:∀e∈s.fo, -9223372036854775808≤e.1∧e.1≤9223372036854775807)(hl:s.fo.length≤100000){H:Heap}{n:Nat}(hn:n+9≤H.length):Sat (CT G) 35 [.hm (n)] (so H n s) (fun r h'=>r=.sl 3 ((valsM Fo.z s.fo).map Fo.av)∧h'=so H n s):=by
 have hsl:=bw (s.fo.map (·.1))
 rw[List.length_map]at hsl
 refine sb [.tmp 2] (fn:=Tryz.f35) Tryz.func35 ?_
 intro Q hQ
 refine wk trivial ?_
 refine kq trivial (nC G _ _) ?_
 refine kq trivial (c9 G Fo.av _ Tryz.sortedKeys72 s.fo s.c1 hw hb hl (by rw[bA (by simp;omega) 0 (by omega),aG _ rfl];rfl) (vX (by simp;omega))) ?_
 unfold valsM at hQ
 have hks:(List.map (fun x=>x.1) s.fo).mergeSort (fun x y=>decide (x≤y))=sortI (s.fo.map (·.1)):=rfl
 rw[hks]
 generalize sortI (s.fo.map (·.1))=ks at*
 have hkm:(ks.map iA).length=ks.length:=List.length_map ..
 have F:=hkm
 refine lm (fun nL tL hL=>∃(k v:Nat) (acc:List Fo),ks.length-k=nL∧so (H++[.row 83 1 0 [.hm (n)],.row 65 3 v (acc.map Fo.av)]) n s=hL∧tL 0=.hm (n)∧tL 3=.hs (H.length+1) v 0 acc.length true∧tL 8=.sl 1 (ks.map iA)∧tL 9=.int .i64 (ks.length:Int)∧tL 10=.int .i64 k∧k≤ks.length∧acc.length=k∧acc++(ks.drop k).map (fun k=>(lkM s.fo k).getD Fo.z)=ks.map (fun k=>(lkM s.fo k).getD Fo.z)) ((fun(k v:Nat) (acc:List Fo)=>(ks.length-k:Nat)) (0) (0) ([])) ?_ ?_
 ·refine⟨_,_,Weak.virt 3 65 3 (by simp) (by omega) (by exact zq F),⟨0,0,[],rfl,by rw[aJ (by simp;omega)];simp,?_,?_,?_,?_,?_,by omega,rfl,by simp⟩⟩
  all_goals first|exact zq F|rfl|omega|trivial|skip
 rintro _ s2 h' ⟨k,v,acc,rfl,rfl,e0,e3,e8,e9,e10,hk,hac,hp⟩ K2 hK2
 simp only[ak,ao,Nat.reduceEqDiff, ↓reduceIte]at e0 e3 e8 e9 e10
 have F:=F6 F e0 e3 e8 e9 e10
 refine wk F ?_
 refine cq F (fun c1=>?_) (fun c1=>?_)<;>(try exact c1.elim)<;>(refine wk F ?_)
 ·have c2:k<ks.length:=by omega
  obtain⟨y,hy,hym⟩:=ah c2
  rw[aR hy,List.map_cons]at hp
  have F:=F3 F hy @aE
  try refine sq F ?_
  refine wk F ?_
  refine aq F ?_
  try refine sq F ?_
  refine wk F ?_
  refine hK2 _ _ _ (Wkn.refl ⟨k+1,v+1,acc++[(lkM s.fo y).getD Fo.z],rfl,by simp[Fo.av],?_,?_,?_,?_,?_,by omega,by simp;omega,by rw[← hp];simp⟩) (by omega)
  all_goals first|exact zq F|rfl|omega|trivial|skip
 ·rw[bi c1,List.map_nil,List.append_nil]at hp
  refine ee hQ F ?_
  rw[← hp]
  have hbl:n+(s.bl n).length≤H.length:=hn
  have hg:getRow (so (H++[.row 83 1 0 [.hm (n)],.row 65 3 v (acc.map Fo.av)]) n s) (H.length+1) v=some (65,3,acc.map Fo.av):=by
   rw[bA (by simp;omega) v (by omega),aX _ rfl];simp[getRow]
  exact cF hbl rfl (PS.clo hn s) (Frz.data (by omega) hg (by simp) (fun r hr=>by obtain⟨a,_,rfl⟩:=List.mem_map.1 hr;exact Fo.clo _ a) (fun r hr=>by obtain⟨a,_,rfl⟩:=List.mem_map.1 hr;exact a.cells_sto)) ⟨rfl,rfl⟩
theorem nD(p:Nat)(h:Heap):Sat (CT G) 73 [.hm p] h (fun r h'=>r=.fn (.func 108) [] [.hp h.length 0 0 0]∧h'=h++[.row 84 1 0 [.hm p]]):=by
 refine sb [.tmp 2] (fn:=Tryz.f73) Tryz.func73 ?_
 intro Q hQ
 refine wk trivial ?_
 refine ee hQ trivial ?_
 exact Fin.whole (by simp) (.fn _ _ _ (fun _ h=>by cases h) (fun x hx=>by simp at hx;subst hx;exact .hp _ _ _ _ (by simp))) ⟨rfl,rfl⟩
theorem iM(s:PS)(hw:WFM s.fe s.c2)(hb:∀e∈s.fe, -9223372036854775808≤e.1∧e.1≤9223372036854775807)(hl:s.fe.length≤100000){H:Heap}{n:Nat}(hn:n+9≤H.length):Sat (CT G) 36 [.hm (n+1)] (so H n s) (fun r h'=>r=.sl 4 ((valsM Fe.z s.fe).map Fe.av)∧h'=so H n s):=by
 have hsl:=bw (s.fe.map (·.1))
 rw[List.length_map]at hsl
 refine sb [.tmp 2] (fn:=Tryz.f36) Tryz.func36 ?_
 intro Q hQ
 refine wk trivial ?_
 refine kq trivial (nD G _ _) ?_
 refine kq trivial (c9 G Fe.av _ Tryz.sortedKeys73 s.fe s.c2 hw hb hl (by rw[bA (by simp;omega) 0 (by omega),aG _ rfl];rfl) (vY (by simp;omega))) ?_
 unfold valsM at hQ
 have hks:(List.map (fun x=>x.1) s.fe).mergeSort (fun x y=>decide (x≤y))=sortI (s.fe.map (·.1)):=rfl
 rw[hks]
 generalize sortI (s.fe.map (·.1))=ks at*
 have hkm:(ks.map iA).length=ks.length:=List.length_map ..
 have F:=hkm
 refine lm (fun nL tL hL=>∃(k v:Nat) (acc:List Fe),ks.length-k=nL∧so (H++[.row 84 1 0 [.hm (n+1)],.row 67 4 v (acc.map Fe.av)]) n s=hL∧tL 0=.hm (n+1)∧tL 3=.hs (H.length+1) v 0 acc.length true∧tL 8=.sl 1 (ks.map iA)∧tL 9=.int .i64 (ks.length:Int)∧tL 10=.int .i64 k∧k≤ks.length∧acc.length=k∧acc++(ks.drop k).map (fun k=>(lkM s.fe k).getD Fe.z)=ks.map (fun k=>(lkM s.fe k).getD Fe.z)) ((fun(k v:Nat) (acc:List Fe)=>(ks.length-k:Nat)) (0) (0) ([])) ?_ ?_
 ·refine⟨_,_,Weak.virt 3 67 4 (by simp) (by omega) (by exact zq F),⟨0,0,[],rfl,by rw[aJ (by simp;omega)];simp,?_,?_,?_,?_,?_,by omega,rfl,by simp⟩⟩
  all_goals first|exact zq F|rfl|omega|trivial|skip
 rintro _ s2 h' ⟨k,v,acc,rfl,rfl,e0,e3,e8,e9,e10,hk,hac,hp⟩ K2 hK2
 simp only[ak,ao,Nat.reduceEqDiff, ↓reduceIte]at e0 e3 e8 e9 e10
 have F:=F6 F e0 e3 e8 e9 e10
 refine wk F ?_
 refine cq F (fun c1=>?_) (fun c1=>?_)<;>(try exact c1.elim)<;>(refine wk F ?_)
 ·have c2:k<ks.length:=by omega
  obtain⟨y,hy,hym⟩:=ah c2
  rw[aR hy,List.map_cons]at hp
  have F:=F3 F hy @aE
  try refine sq F ?_
  refine wk F ?_
  refine aq F ?_
  try refine sq F ?_
  refine wk F ?_
  refine hK2 _ _ _ (Wkn.refl ⟨k+1,v+1,acc++[(lkM s.fe y).getD Fe.z],rfl,by simp[Fe.av],?_,?_,?_,?_,?_,by omega,by simp;omega,by rw[← hp];simp⟩) (by omega)
  all_goals first|exact zq F|rfl|omega|trivial|skip
 ·rw[bi c1,List.map_nil,List.append_nil]at hp
  refine ee hQ F ?_
  rw[← hp]
  have hbl:n+(s.bl n).length≤H.length:=hn
  have hg:getRow (so (H++[.row 84 1 0 [.hm (n+1)],.row 67 4 v (acc.map Fe.av)]) n s) (H.length+1) v=some (67,4,acc.map Fe.av):=by
   rw[bA (by simp;omega) v (by omega),aX _ rfl];simp[getRow]
  exact cF hbl rfl (PS.clo hn s) (Frz.data (by omega) hg (by simp) (fun r hr=>by obtain⟨a,_,rfl⟩:=List.mem_map.1 hr;exact Fe.clo _ a) (fun r hr=>by obtain⟨a,_,rfl⟩:=List.mem_map.1 hr;exact a.cells_sto)) ⟨rfl,rfl⟩
theorem nE(p:Nat)(h:Heap):Sat (CT G) 74 [.hm p] h (fun r h'=>r=.fn (.func 109) [] [.hp h.length 0 0 0]∧h'=h++[.row 51 1 0 [.hm p]]):=by
 refine sb [.tmp 2] (fn:=Tryz.f74) Tryz.func74 ?_
 intro Q hQ
 refine wk trivial ?_
 refine ee hQ trivial ?_
 exact Fin.whole (by simp) (.fn _ _ _ (fun _ h=>by cases h) (fun x hx=>by simp at hx;subst hx;exact .hp _ _ _ _ (by simp))) ⟨rfl,rfl⟩
theorem nF(p:Nat)(h:Heap):Sat (CT G) 75 [.hm p] h (fun r h'=>r=.fn (.func 110) [] [.hp h.length 0 0 0]∧h'=h++[.row 85 1 0 [.hm p]]):=by
 refine sb [.tmp 2] (fn:=Tryz.f75) Tryz.func75 ?_
 intro Q hQ
 refine wk trivial ?_
 refine ee hQ trivial ?_
 exact Fin.whole (by simp) (.fn _ _ _ (fun _ h=>by cases h) (fun x hx=>by simp at hx;subst hx;exact .hp _ _ _ _ (by simp))) ⟨rfl,rfl⟩
theorem iN(s:PS)(hw:WFM s.se s.c4)(hb:∀e∈s.se, -9223372036854775808≤e.1∧e.1≤9223372036854775807)(hl:s.se.length≤100000){H:Heap}{n:Nat}(hn:n+9≤H.length):Sat (CT G) 38 [.hm (n+3)] (so H n s) (fun r h'=>r=.sl 3 ((valsM Se.z s.se).map Se.av)∧h'=so H n s):=by
 have hsl:=bw (s.se.map (·.1))
 rw[List.length_map]at hsl
 refine sb [.tmp 2] (fn:=Tryz.f38) Tryz.func38 ?_
 intro Q hQ
 refine wk trivial ?_
 refine kq trivial (nF G _ _) ?_
 refine kq trivial (c9 G Se.av _ Tryz.sortedKeys75 s.se s.c4 hw hb hl (by rw[bA (by simp;omega) 0 (by omega),aG _ rfl];rfl) (vZ (by simp;omega))) ?_
 unfold valsM at hQ
 have hks:(List.map (fun x=>x.1) s.se).mergeSort (fun x y=>decide (x≤y))=sortI (s.se.map (·.1)):=rfl
 rw[hks]
 generalize sortI (s.se.map (·.1))=ks at*
 have hkm:(ks.map iA).length=ks.length:=List.length_map ..
 have F:=hkm
 refine lm (fun nL tL hL=>∃(k v:Nat) (acc:List Se),ks.length-k=nL∧so (H++[.row 85 1 0 [.hm (n+3)],.row 106 3 v (acc.map Se.av)]) n s=hL∧tL 0=.hm (n+3)∧tL 3=.hs (H.length+1) v 0 acc.length true∧tL 8=.sl 1 (ks.map iA)∧tL 9=.int .i64 (ks.length:Int)∧tL 10=.int .i64 k∧k≤ks.length∧acc.length=k∧acc++(ks.drop k).map (fun k=>(lkM s.se k).getD Se.z)=ks.map (fun k=>(lkM s.se k).getD Se.z)) ((fun(k v:Nat) (acc:List Se)=>(ks.length-k:Nat)) (0) (0) ([])) ?_ ?_
 ·refine⟨_,_,Weak.virt 3 106 3 (by simp) (by omega) (by exact zq F),⟨0,0,[],rfl,by rw[aJ (by simp;omega)];simp,?_,?_,?_,?_,?_,by omega,rfl,by simp⟩⟩
  all_goals first|exact zq F|rfl|omega|trivial|skip
 rintro _ s2 h' ⟨k,v,acc,rfl,rfl,e0,e3,e8,e9,e10,hk,hac,hp⟩ K2 hK2
 simp only[ak,ao,Nat.reduceEqDiff, ↓reduceIte]at e0 e3 e8 e9 e10
 have F:=F6 F e0 e3 e8 e9 e10
 refine wk F ?_
 refine cq F (fun c1=>?_) (fun c1=>?_)<;>(try exact c1.elim)<;>(refine wk F ?_)
 ·have c2:k<ks.length:=by omega
  obtain⟨y,hy,hym⟩:=ah c2
  rw[aR hy,List.map_cons]at hp
  have F:=F3 F hy @aE
  try refine sq F ?_
  refine wk F ?_
  refine aq F ?_
  try refine sq F ?_
  refine wk F ?_
  refine hK2 _ _ _ (Wkn.refl ⟨k+1,v+1,acc++[(lkM s.se y).getD Se.z],rfl,by simp[Se.av],?_,?_,?_,?_,?_,by omega,by simp;omega,by rw[← hp];simp⟩) (by omega)
  all_goals first|exact zq F|rfl|omega|trivial|skip
 ·rw[bi c1,List.map_nil,List.append_nil]at hp
  refine ee hQ F ?_
  rw[← hp]
  have hbl:n+(s.bl n).length≤H.length:=hn
  have hg:getRow (so (H++[.row 85 1 0 [.hm (n+3)],.row 106 3 v (acc.map Se.av)]) n s) (H.length+1) v=some (106,3,acc.map Se.av):=by
   rw[bA (by simp;omega) v (by omega),aX _ rfl];simp[getRow]
  exact cF hbl rfl (PS.clo hn s) (Frz.data (by omega) hg (by simp) (fun r hr=>by obtain⟨a,_,rfl⟩:=List.mem_map.1 hr;exact Se.clo _ a) (fun r hr=>by obtain⟨a,_,rfl⟩:=List.mem_map.1 hr;exact a.cells_sto)) ⟨rfl,rfl⟩
theorem hM(s:PS)(hw:WFM s.it s.c3)(hb:∀e∈s.it, -9223372036854775808≤e.1∧e.1≤9223372036854775807)(hl:s.it.length≤100000){H:Heap}{n:Nat}(hn:n+9≤H.length):Sat (CT G) 37 [.hm (n+2)] (so H n s) (fun r h'=>∃v,r=.hs (H.length+1) v 0 (valsM It.z s.it).length true∧h'=so (H++[.row 51 1 0 [.hm (n+2)],.row 70 9 v ((valsM It.z s.it).map It.av)]) n s):=by
 have hsl:=bw (s.it.map (·.1))
 rw[List.length_map]at hsl
 refine sb [.tmp 2] (fn:=Tryz.f37) Tryz.func37 ?_
 intro Q hQ
 refine wk trivial ?_
 refine kq trivial (nE G _ _) ?_
 refine kq trivial (c9 G It.av _ Tryz.sortedKeys74 s.it s.c3 hw hb hl (by rw[bA (by simp;omega) 0 (by omega),aG _ rfl];rfl) (nx (by simp;omega))) ?_
 unfold valsM at hQ
 have hks:(List.map (fun x=>x.1) s.it).mergeSort (fun x y=>decide (x≤y))=sortI (s.it.map (·.1)):=rfl
 rw[hks]
 generalize sortI (s.it.map (·.1))=ks at*
 have hkm:(ks.map iA).length=ks.length:=List.length_map ..
 have F:=hkm
 refine lm (fun nL tL hL=>∃(k v:Nat) (acc:List It),ks.length-k=nL∧so (H++[.row 51 1 0 [.hm (n+2)],.row 70 9 v (acc.map It.av)]) n s=hL∧tL 0=.hm (n+2)∧tL 3=.hs (H.length+1) v 0 acc.length true∧tL 8=.sl 1 (ks.map iA)∧tL 9=.int .i64 (ks.length:Int)∧tL 10=.int .i64 k∧k≤ks.length∧acc.length=k∧acc++(ks.drop k).map (fun k=>(lkM s.it k).getD It.z)=ks.map (fun k=>(lkM s.it k).getD It.z)) ((fun(k v:Nat) (acc:List It)=>(ks.length-k:Nat)) (0) (0) ([])) ?_ ?_
 ·refine⟨_,_,Weak.virt 3 70 9 (by simp) (by omega) (by exact zq F),⟨0,0,[],rfl,by rw[aJ (by simp;omega)];simp,?_,?_,?_,?_,?_,by omega,rfl,by simp⟩⟩
  all_goals first|exact zq F|rfl|omega|trivial|skip
 rintro _ s2 h' ⟨k,v,acc,rfl,rfl,e0,e3,e8,e9,e10,hk,hac,hp⟩ K2 hK2
 simp only[ak,ao,Nat.reduceEqDiff, ↓reduceIte]at e0 e3 e8 e9 e10
 have F:=F6 F e0 e3 e8 e9 e10
 refine wk F ?_
 refine cq F (fun c1=>?_) (fun c1=>?_)<;>(try exact c1.elim)<;>(refine wk F ?_)
 ·have c2:k<ks.length:=by omega
  obtain⟨y,hy,hym⟩:=ah c2
  rw[aR hy,List.map_cons]at hp
  have F:=F3 F hy @aE
  try refine sq F ?_
  refine wk F ?_
  refine aq F ?_
  try refine sq F ?_
  refine wk F ?_
  refine hK2 _ _ _ (Wkn.refl ⟨k+1,v+1,acc++[(lkM s.it y).getD It.z],rfl,by simp[It.av],?_,?_,?_,?_,?_,by omega,by simp;omega,by rw[← hp];simp⟩) (by omega)
  all_goals first|exact zq F|rfl|omega|trivial|skip
 ·rw[bi c1,List.map_nil,List.append_nil]at hp
  refine ee hQ F ?_
  rw[← hp]
  have hal:acc.length=ks.length:=by omega
  exact Fin.whole (by rw[au hn,au (by simp;omega)];simp) (.hs _ _ _ _ _ (by rw[au (by simp;omega)];simp)) ⟨v,by simp[hal],rfl⟩
end Go.Av
