/- Parts. -/
import Derived.Test.YtllhfnepgcbjnaaGreatProg
import Derived.WalkKit
import Derived.Lib.AppendZerosOnto
import Derived.Laws.CopyRow
import Derived.Lib.Overlaps
import Derived.Shelf.Spec.SlicesInsert
set_option linter.unusedSimpArgs false
set_option linter.unusedVariables false
set_option linter.unusedSectionVars false
set_option linter.unnecessarySimpa false
set_option maxRecDepth 100000
set_option maxHeartbeats 16000000
namespace Go.Av
open Go Go.Proofs Go.RowKit
section
variable {P:Program}
theorem fg(w:World){dT sT ty elem:TypeId}{sz:Nat}(hu:P.underlying dT=some (.slice elem))(hs:(P.info? elem).map (·.size)=some sz){b o dLen dCap:Nat}{a:Addr}{sLen sCap:Nat}{cs:List Value}{k:Nat}(hk:k=Nat.min sLen dLen)(hn:cs.length=k*sz)
  (hsrc:∀j v,cs[j]? =some v→w.cell? (a.add j)=some v){cur:Array Value}{e:TypeId}(hb:w.heap[b]? =some (.cells cur e (0,0)))(hfit:o+cs.length≤cur.size)(h1:∀v∈cs,v.oneCell'=true):
  (Builtin.copy_ #[dT,sT] ty #[.slice (some ⟨b,o,none⟩) dLen dCap,.slice (some a) sLen sCap]).run P w=.ok (goInt k) (w.setRow b (cur.toList.take o++cs++cur.toList.drop (o+cs.length)).toArray):=by
 subst hk;have hl:=run_loadCells_list (P:=P) w a cs hsrc;have hst:=run_storeCells_at (P:=P) b o e cs 0 cur w hb (by simpa using hfit) h1;simp only[Nat.add_zero]at hst;cases hq:P.info? elem with
 |none=>simp[hq]at hs
 |some i=>
  have hi:i.size=sz:=by simpa [hq]using hs
  simp[Builtin.copy_,run_underlying hu,Builtin.lenOf,Builtin.firstCells,sizeOf,typeInfo,hq,hi, ← hn,hl,hst]
end
theorem kQ:(Tryz.prog.info? 78).map (·.size)=some 3:=by kernel_rfl
theorem uO:∀w,(Go.sizeOf 78).run Tryz.prog w=.ok 3 w:=fun w=>by
 cases hq:Tryz.prog.info? 78 with
 |none=>have:=kQ;rw[hq]at this;cases this
 |some i=>have:=kQ;rw[hq]at this;simp at this;simp[Go.sizeOf,typeInfo,hq,this]
theorem uP(b n c i vb vc:Nat)(cur cur2:Array Value)(w:World)(hi:i<n)(hroom:n+1≤c)(hc63:c≤9223372036854775807)(hne:vb≠b)
  (hb:w.heap[b]? =some (.cells cur 78 (0,0)))(hsz:cur.size=c*3)(hvb:w.heap[vb]? =some (.cells cur2 78 (0,0)))(h2:3≤cur2.size)
  (h1:∀v∈ (cur.toList.drop (i*3)).take ((n-i)*3),v.oneCell'=true)(h1v:∀v∈cur2.toList.take 3,v.oneCell'=true)(X1 X2:Array Value)
  (hX1:(cur.toList.take ((i+1)*3)++(cur.toList.drop (i*3)).take ((n-i)*3)++cur.toList.drop ((i+1)*3+(n-i)*3)).toArray=X1)
  (hX2:(X1.toList.take (i*3)++cur2.toList.take 3++X1.toList.drop (i*3+3)).toArray=X2):
  Calls Tryz.prog 51 #[.slice (some ⟨b,0,none⟩) n c,.int .i64 i,.slice (some ⟨vb,0,none⟩) 1 vc] w fun e w'=>
   e=.returned (.slice (some ⟨b,0,none⟩) (n+1) c)∧w'=(w.drew.setRow b X1).setRow b X2:=by
 have z:=uO;have mixed:Tryz.prog.follows .mixedOrders=true:=by kernel_rfl
 have t3:=Tryz.underlying3;have t4:=Tryz.underlying4;have t9:=Tryz.underlying78;have t24:=Tryz.underlying63
 have u3:=run_underlying t3;have u4:=run_underlying t4;have u9:=run_underlying t9;have u24:=run_underlying t24
 have hz2:¬((i:Int)=(n:Int)):=by omega
 have hw0:IntKind.i64.wrap ((n:Int)+1)=(n:Int)+1:=by rw[IntKind.wrap_i64];omega
 have hw1:IntKind.i64.wrap ((i:Int)+1)=(i:Int)+1:=by rw[IntKind.wrap_i64];omega
 have hov:∀lb cb o,(callFunc 83 #[.slice (some ⟨vb,0,none⟩) 1 vc,.slice (some ⟨b,o,none⟩) lb cb]).run Tryz.prog w=.ok (.value (.bool false)) w:=fun lb cb o=>by
  rw[run_callFunc_extern Tryz.func83 (by kernel_rfl) (by kernel_rfl) (by kernel_rfl) (e:=Extern.SlicesOverlaps.overlaps #[63,63] #[4]) (by kernel_rfl),
   Lib.run_overlaps_apart w 63 4 78 Tryz.underlying63 3 uO ⟨vb,0,none⟩ ⟨b,o,none⟩ 1 vc lb cb hne 78 78 cur2.size cur.size (by simp[World.shape?,hvb]) (by simp[World.shape?,hb]) (by omega) (by simp[World.frozen?,hvb]) (by simp[World.frozen?,hvb])]
  rfl
 have htn:((i:Int)+1).toNat=i+1:=by omega
 have hb1:(0:Int)≤(i:Int)+1:=by omega
 have hb3:(i:Int)≤(n:Int):=by omega
 have hb5:(i:Int)≤(n:Int)+1:=by omega
 have hb2:¬(c=i+1):=by omega
 have hb4:¬(c=i):=by omega
 have hk1:n-i=Nat.min (n+1-i) (n-i):=by simp only[Nat.min_def];split<;>omega
 have hk2:1=Nat.min 1 (n+1-i):=by simp only[Nat.min_def];split<;>omega
 have hl1:((cur.toList.drop (i*3)).take ((n-i)*3)).length=(n-i)*3:=by
  have:(n-i)*3+i*3=n*3:=by omega
  have:n*3≤c*3:=by omega
  rw[List.length_take,List.length_drop,Array.length_toList];omega
 have hl2:(cur2.toList.take 3).length=1*3:=by rw[List.length_take,Array.length_toList];omega
 have hX1s:X1.size=cur.size:=by
  rw[← hX1];simp only[List.size_toArray,List.length_append,hl1];rw[List.length_take,List.length_drop,Array.length_toList];omega
 have hcp1:∀ty dc sc,(Builtin.copy_ #[63,63] ty #[.slice (some ⟨b,(i+1)*3,none⟩) (n-i) dc,.slice (some ⟨b,i*3,none⟩) (n+1-i) sc]).run Tryz.prog w.drew=.ok (goInt (n-i:Nat)) (w.drew.setRow b X1):=fun ty dc sc=>by
  have:=fg (P:=Tryz.prog) w.drew (dT:=63) (sT:=63) (ty:=ty) (b:=b) (o:=(i+1)*3) (dCap:=dc) (a:=⟨b,i*3,none⟩) (sCap:=sc) Tryz.underlying63 kQ hk1 hl1 (fun j v hj=>by
   rw[Addr.add_lit];have hlt:=(List.getElem?_eq_some_iff.1 hj).1;rw[hl1]at hlt;rw[List.getElem?_take_of_lt hlt,List.getElem?_drop]at hj;show w.cell? _=_;simp only[World.cell?,hb];simpa using hj) (cur:=cur) hb (by rw[hl1];omega) h1
  rw[hl1,hX1]at this;exact this
 have hcp2:∀(W:World),W.heap=(w.drew.setRow b X1).heap→∀ty dc,(Builtin.copy_ #[63,63] ty #[.slice (some ⟨b,i*3,none⟩) (n+1-i) dc,.slice (some ⟨vb,0,none⟩) 1 vc]).run Tryz.prog W=.ok (goInt (1:Nat)) (W.setRow b X2):=fun W hW ty dc=>by
  have hbW:W.heap[b]? =some (.cells X1 78 (0,0)):=by rw[hW];exact setRow_heap w.drew b cur X1 _ _ hb
  have hvW:W.heap[vb]? =some (.cells cur2 78 (0,0)):=by rw[hW,setRow_other w.drew b vb X1 hne];exact hvb
  have:=fg (P:=Tryz.prog) W (dT:=63) (sT:=63) (ty:=ty) (b:=b) (o:=i*3) (dCap:=dc) (a:=⟨vb,0,none⟩) (sCap:=vc) Tryz.underlying63 kQ hk2 hl2 (fun j v hj=>by
   rw[Addr.add_lit];have hlt:=(List.getElem?_eq_some_iff.1 hj).1;rw[hl2]at hlt;rw[List.getElem?_take_of_lt hlt]at hj;simp only[World.cell?,hvW,Nat.zero_add];simpa using hj) (cur:=X1) hbW (by rw[hl2,hX1s];omega) h1v
  rw[hl2,Nat.one_mul,hX2]at this;exact this
 clear hX1 hX2 hX1s hl1 hl2 hk1 hk2 h1 h1v hb hvb hsz h2
 go_enter Tryz.func51,Tryz.ntmps51
 go_wp2_with (simp only[hov])
 go_region_law_o (refine step_copy_runI rfl _ _ 63 63 rfl _ _ (by simp[Act.eval,Act.put]) (by simp[Act.eval,Act.put]) (hcp1 _ _ _) ?_)
 go_wp2_with (at_builtin;refine wpList_copy_runI _ rfl _ _ 63 63 rfl _ _ rfl rfl (hcp2 _ rfl _ _) ?_)
 go_ret
 exact⟨rfl,rfl⟩
theorem yA:(Tryz.prog.info? 78).map (fun i=>(i.zero,i.size,i.bytes))=some (some (.agg #[.int .i64 0,.int .i64 0,.int .i64 0]),3,24):=by kernel_rfl
theorem uQ(b n c i vb vc:Nat)(cur cur2:Array Value)(w:World)(hi:i<n)(hnc:n≤c)(hroom:c<n+1)(hbig:(n+1)*24≤140737488355328)
  (hb:w.heap[b]? =some (.cells cur 78 (0,0)))(hsz:cur.size=c*3)(hvb:w.heap[vb]? =some (.cells cur2 78 (0,0)))(h2:3≤cur2.size)
  (h1:∀v∈ (cur.toList.drop (i*3)).take ((n-i)*3),v.oneCell'=true)(h1v:∀v∈cur2.toList.take 3,v.oneCell'=true)(ROW Y1 Y2:Array Value)(G:Nat)(hG:G=grownCap w (n+1) c 78)
  (hROW:(cur.toList.take (i*3)).toArray++Builtin.zeroCells (Value.agg #[.int .i64 0,.int .i64 0,.int .i64 0]).cells (n+1-i)++Builtin.zeroCells (Value.agg #[.int .i64 0,.int .i64 0,.int .i64 0]).cells (G-(n+1))=ROW)
  (hY1:(ROW.toList.take (i*3)++cur2.toList.take 3++ROW.toList.drop (i*3+3)).toArray=Y1)
  (hY2:(Y1.toList.take ((i+1)*3)++(cur.toList.drop (i*3)).take ((n-i)*3)++Y1.toList.drop ((i+1)*3+(n-i)*3)).toArray=Y2):
  Calls Tryz.prog 51 #[.slice (some ⟨b,0,none⟩) n c,.int .i64 i,.slice (some ⟨vb,0,none⟩) 1 vc] w fun e w'=>
   e=.returned (.slice (some ⟨w.heap.size,0,none⟩) (n+1) G)∧w'=(((w.drew.alloc (.cells ROW 78)).setRow w.heap.size Y1).drew).setRow w.heap.size Y2:=by
 have z:=uO;have mixed:Tryz.prog.follows .mixedOrders=true:=by kernel_rfl
 have t3:=Tryz.underlying3;have t4:=Tryz.underlying4;have t9:=Tryz.underlying78;have t24:=Tryz.underlying63
 have u3:=run_underlying t3;have u4:=run_underlying t4;have u9:=run_underlying t9;have u24:=run_underlying t24
 obtain⟨i0,hi0,he⟩:=Option.map_eq_some_iff.1 yA;obtain⟨hz0,he⟩:=Prod.mk.inj he;obtain⟨hzs,hzb⟩:=Prod.mk.inj he;have hcn:c=n:=by omega
 subst hcn;clear hnc hroom;have hz2:¬((i:Int)=(c:Int)):=by omega
 have hz3:(c:Int)<(c:Int)+1:=by omega
 have hw0:IntKind.i64.wrap ((c:Int)+1)=(c:Int)+1:=by rw[IntKind.wrap_i64];omega
 have hw1:IntKind.i64.wrap ((i:Int)+1)=(i:Int)+1:=by rw[IntKind.wrap_i64];omega
 have hw2:IntKind.i64.wrap ((c:Int)+1-(i:Int))=(c:Int)+1-(i:Int):=by rw[IntKind.wrap_i64];omega
 have hbw:b<w.heap.size:=(Array.getElem?_eq_some_iff.1 hb).1;have hvw:vb<w.heap.size:=(Array.getElem?_eq_some_iff.1 hvb).1;have hkk:(c:Int)+1-(i:Int)=((c+1-i:Nat):Int):=by omega
 have hik:i+(c+1-i)=c+1:=by omega
 have hl0:(cur.toList.take (i*3)).length=i*3:=by rw[List.length_take,Array.length_toList,hsz];omega
 have hold:(Builtin.firstCells i0.size i (.slice (some ⟨b,0,none⟩) i c)).run Tryz.prog w.drew=.ok (cur.toList.take (i*3)).toArray w.drew:=by
  rw[hzs];exact run_firstCells_some w.drew 3 i ⟨b,0,none⟩ i c (cur.toList.take (i*3)) hl0 (fun j v hj=>by
   rw[Addr.add_lit];have hlt:=(List.getElem?_eq_some_iff.1 hj).1;rw[hl0]at hlt;rw[List.getElem?_take_of_lt hlt]at hj;show w.cell? _=_;simp only[World.cell?,hb,Nat.zero_add];simpa using hj)
 have hrz:∀ty,(Builtin.append_ #[63,3] ty #[.slice (some ⟨b,0,none⟩) i c,.int .i64 ((c:Int)+1-(i:Int))]).run Tryz.prog w=
   .ok (.slice (some ⟨w.heap.size,0,none⟩) (c+1) G) (w.drew.alloc (.cells ROW 78)):=fun ty=>by
  have h:=Lib.run_append_grow_zeros w 63 3 ty 78 i0 _ .i64 .i64 Tryz.underlying63 Tryz.underlying3 hi0 hz0 (some ⟨b,0,none⟩) i c (cur.toList.take (i*3)) hold (c+1-i) (by omega) (by omega) (by omega) (by omega) (by rw[hzb];omega) (by rw[hzb,hik];exact growslice_fits (by omega) hbig);rw[hik, ← hG,hROW]at h;rw[hkk];exact h
 have hRs:(c+1)*3≤ROW.size:=by
  rw[← hROW];simp only[Array.size_append,List.size_toArray,hl0,size_zeroCells,Value.cells];simp only[List.size_toArray,List.length_cons,List.length_nil];omega
 have hl1:((cur.toList.drop (i*3)).take ((c-i)*3)).length=(c-i)*3:=by
  rw[List.length_take,List.length_drop,Array.length_toList];omega
 have hl2:(cur2.toList.take 3).length=1*3:=by rw[List.length_take,Array.length_toList];omega
 have hY1s:Y1.size=ROW.size:=by
  rw[← hY1];simp only[List.size_toArray,List.length_append,hl2];rw[List.length_take,List.length_drop,Array.length_toList];omega
 have hk1:c-i=Nat.min (c-i) (c-i):=by simp only[Nat.min_def];split<;>omega
 have hk2:1=Nat.min 1 (c+1-i):=by simp only[Nat.min_def];split<;>omega
 obtain⟨W1,hW1⟩:∃W1,W1=w.drew.alloc (.cells ROW 78):=⟨_,rfl⟩;have hg1:W1.heap[w.heap.size]? =some (.cells ROW 78 (0,0)):=by rw[hW1];exact heap_alloc_new w.drew _
 have hb1':W1.heap[b]? =some (.cells cur 78 (0,0)):=by rw[hW1];exact(heap_alloc_old w.drew _ hbw).trans hb
 have hv1:W1.heap[vb]? =some (.cells cur2 78 (0,0)):=by rw[hW1];exact(heap_alloc_old w.drew _ hvw).trans hvb
 rw[← hW1]at hrz;have hcp1:∀(W:World),W.heap=W1.heap→∀ty dc,(Builtin.copy_ #[63,63] ty #[.slice (some ⟨w.heap.size,i*3,none⟩) (c+1-i) dc,.slice (some ⟨vb,0,none⟩) 1 vc]).run Tryz.prog W=.ok (goInt (1:Nat)) (W.setRow w.heap.size Y1):=fun W hW ty dc=>by
  have:=fg (P:=Tryz.prog) W (dT:=63) (sT:=63) (ty:=ty) (b:=w.heap.size) (o:=i*3) (dCap:=dc) (a:=⟨vb,0,none⟩) (sCap:=vc) Tryz.underlying63 kQ hk2 hl2 (fun j v hj=>by
   rw[Addr.add_lit];have hlt:=(List.getElem?_eq_some_iff.1 hj).1;rw[hl2]at hlt;rw[List.getElem?_take_of_lt hlt]at hj;simp only[World.cell?,hW,hv1,Nat.zero_add];simpa using hj) (cur:=ROW) (by rw[hW];exact hg1) (by rw[hl2];omega) h1v
  rw[hl2,Nat.one_mul,hY1]at this;exact this
 have hcp2:∀(W:World),W.heap=(W1.setRow w.heap.size Y1).heap→∀ty dc sc,(Builtin.copy_ #[63,63] ty #[.slice (some ⟨w.heap.size,(i+1)*3,none⟩) (c-i) dc,.slice (some ⟨b,i*3,none⟩) (c-i) sc]).run Tryz.prog W=.ok (goInt (c-i:Nat)) (W.setRow w.heap.size Y2):=fun W hW ty dc sc=>by
  have hbW:W.heap[w.heap.size]? =some (.cells Y1 78 (0,0)):=by rw[hW];exact setRow_heap W1 w.heap.size ROW Y1 _ _ hg1
  have hvW:W.heap[b]? =some (.cells cur 78 (0,0)):=by rw[hW,setRow_other W1 w.heap.size b Y1 (by omega)];exact hb1'
  have:=fg (P:=Tryz.prog) W (dT:=63) (sT:=63) (ty:=ty) (b:=w.heap.size) (o:=(i+1)*3) (dCap:=dc) (a:=⟨b,i*3,none⟩) (sCap:=sc) Tryz.underlying63 kQ hk1 hl1 (fun j v hj=>by
   rw[Addr.add_lit];have hlt:=(List.getElem?_eq_some_iff.1 hj).1;rw[hl1]at hlt;rw[List.getElem?_take_of_lt hlt,List.getElem?_drop]at hj;simp only[World.cell?,hvW];simpa using hj) (cur:=Y1) hbW (by rw[hl1,hY1s];omega) h1
  rw[hl1,hY2]at this;exact this
 have hGn:c+1≤G:=by rw[hG];exact grownCap_ge w _ _ _
 have hG63:G≤9223372036854775807:=by
  have:=grownCap_le_maxLen w (c+1) c 78 (by unfold maxLen;omega);rw[← hG]at this;unfold maxLen at this;omega
 have hGi:¬(G=i):=by omega
 have hGim:¬(G=i+1):=by omega
 have hci:¬(c=i):=by omega
 have htn:((i:Int)+1).toNat=i+1:=by omega
 have hb1:(0:Int)≤(i:Int)+1:=by omega
 have hb3:(i:Int)≤(c:Int):=by omega
 have hb5:(i:Int)≤(c:Int)+1:=by omega
 have hin:i≤c:=by omega
 rw[← hW1];have hE1:(W1.setRow w.heap.size Y1).drew.heap=(W1.setRow w.heap.size Y1).heap:=rfl;clear hkk hik hold hROW hG hl0 hl1 hl2 hY1 hY2 hY1s hk1 hk2 hg1 hb1' hv1 h1 h1v hb hvb hsz h2 hRs hi0 hz0 hzs hzb hW1
 go_enter Tryz.func51,Tryz.ntmps51
 go_wp2_with (first
  | (at_builtin;refine Lib.wpList_append_run _ rfl _ _ _ _ rfl _ _ rfl rfl _ _ (hrz _) ?_)
  | (at_builtin;refine wpList_copy_runI _ rfl _ _ 63 63 rfl _ _ rfl rfl (hcp1 _ rfl _ _) ?_))
 go_region_law_o (refine step_copy_runI rfl _ _ 63 63 rfl (.slice (some ⟨w.heap.size,(i+1)*3,none⟩) (c-i) (G-(i+1))) (.slice (some ⟨b,i*3,none⟩) (c-i) (c-i)) (by simp[Act.eval,Act.put]) (by simp[Act.eval,Act.put]) (hcp2 _ hE1 3 (G-(i+1)) (c-i)) ?_)
 go_wp2
 go_ret
 exact⟨rfl,rfl⟩
end Go.Av
