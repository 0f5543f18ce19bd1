/- Parts. -/
import Derived.WalkKit
import Derived.Below
import Derived.CallsIn
import Derived.LaidEqlPtr
import Derived.Deep.AppendSrc
set_option linter.unusedSimpArgs false
set_option linter.unusedVariables false
set_option linter.unusedSectionVars false
set_option linter.unnecessarySimpa false
set_option maxRecDepth 100000
set_option maxHeartbeats 16000000
theorem f9:type_of% @List.getElem?_eq_some_iff:=@List.getElem?_eq_some_iff
theorem K4:type_of% @if_neg:=@if_neg
theorem K5:type_of% @Bool.and_eq_true:=@Bool.and_eq_true
theorem K6:type_of% @List.getElem?_eq_getElem:=@List.getElem?_eq_getElem
theorem K7:type_of% @List.length_append:=@List.length_append
theorem K8:type_of% @decide_eq_true_eq:=@decide_eq_true_eq
theorem L5:type_of% @List.length_map:=@List.length_map
theorem L6:type_of% @List.length_cons:=@List.length_cons
theorem L7:type_of% @if_pos:=@if_pos
theorem L9:type_of% @List.getElem?_append_left:=@List.getElem?_append_left
theorem M0:type_of% @Nat.le_refl:=@Nat.le_refl
theorem M1:type_of% @List.getElem?_append_right:=@List.getElem?_append_right
theorem M2:type_of% @Go.Result.andThen_ok:=@Go.Result.andThen_ok
theorem M3:type_of% @List.mem_of_getElem?:=@List.mem_of_getElem?
theorem M4:type_of% @List.take_of_length_le:=@List.take_of_length_le
theorem M5:type_of% @List.getElem?_map:=@List.getElem?_map
theorem M6:type_of% @Go.Sem.run_bind:=@Go.Sem.run_bind
theorem M7:type_of% @List.mem_map:=@List.mem_map
theorem M8:type_of% @Option.isSome_iff_exists:=@Option.isSome_iff_exists
theorem M9:type_of% @List.length_nil:=@List.length_nil
theorem N0:type_of% @List.mem_cons:=@List.mem_cons
theorem N1:type_of% @List.getElem?_take_of_lt:=@List.getElem?_take_of_lt
theorem N2:type_of% @Option.some.injEq:=@Option.some.injEq
theorem N3:type_of% @Option.map_eq_some_iff:=@Option.map_eq_some_iff
theorem N4:type_of% @List.map_cons:=@List.map_cons
theorem N5:type_of% @congrArg:=@congrArg
theorem N6:type_of% @Array.getElem?_eq_some_iff:=@Array.getElem?_eq_some_iff
theorem N7:type_of% @decide_eq_true:=@decide_eq_true
theorem N8:type_of% @decide_eq_false:=@decide_eq_false
theorem N9:type_of% @Go.Sem.run_pure:=@Go.Sem.run_pure
theorem O0:type_of% @Bool.false_eq_true:=@Bool.false_eq_true
theorem O1:type_of% @List.append_nil:=@List.append_nil
theorem O2:type_of% @Array.getElem?_eq_getElem:=@Array.getElem?_eq_getElem
theorem O3:type_of% @List.length_take:=@List.length_take
theorem O4:type_of% @List.all_eq_true:=@List.all_eq_true
theorem O5:type_of% @List.nil_append:=@List.nil_append
theorem O6:type_of% @Bool.not_eq_true':=@Bool.not_eq_true'
theorem O7:type_of% @List.take_add_one:=@List.take_add_one
theorem O8:type_of% @List.length_drop:=@List.length_drop
theorem P0:type_of% @List.take_succ_cons:=@List.take_succ_cons
theorem P1:type_of% @List.append_assoc:=@List.append_assoc
theorem P2:type_of% @List.map_append:=@List.map_append
theorem P3:type_of% @List.getElem?_set_self:=@List.getElem?_set_self
theorem P4:type_of% @List.getElem?_drop:=@List.getElem?_drop
theorem P5:type_of% @List.getElem?_eq_none:=@List.getElem?_eq_none
theorem P6:type_of% @Bool.eq_iff_iff:=@Bool.eq_iff_iff
theorem P7:type_of% @Array.getD_eq_getD_getElem?:=@Array.getD_eq_getD_getElem?
theorem P8:type_of% @Bool.or_eq_true:=@Bool.or_eq_true
theorem P9:type_of% @Nat.zero_add:=@Nat.zero_add
theorem Q0:type_of% @Option.getD_some:=@Option.getD_some
theorem Q1:type_of% @List.mem_cons_of_mem:=@List.mem_cons_of_mem
theorem Q2:type_of% @List.length_eq_zero_iff:=@List.length_eq_zero_iff
theorem Q3:type_of% @Option.map_some:=@Option.map_some
theorem Q4:type_of% @Classical.byContradiction:=@Classical.byContradiction
theorem Q5:type_of% @List.getElem?_of_mem:=@List.getElem?_of_mem
theorem Q6:type_of% @Nat.le_trans:=@Nat.le_trans
theorem Q7:type_of% @List.cons_append:=@List.cons_append
theorem Q8:type_of% @List.take_zero:=@List.take_zero
theorem Q9:type_of% @List.mem_range:=@List.mem_range
theorem R1:type_of% @List.map_nil:=@List.map_nil
theorem R2:type_of% @List.eq_nil_of_length_eq_zero:=@List.eq_nil_of_length_eq_zero
theorem R3:type_of% @Nat.mul_le_mul_right:=@Nat.mul_le_mul_right
theorem R4:type_of% @List.mem_append:=@List.mem_append
theorem R6:type_of% @List.getElem?_set_ne:=@List.getElem?_set_ne
theorem R7:type_of% @Nat.add_mul:=@Nat.add_mul
theorem R8:type_of% @of_decide_eq_true:=@of_decide_eq_true
theorem R9:type_of% @List.getElem?_take:=@List.getElem?_take
theorem S3:type_of% @Bool.true_and:=@Bool.true_and
theorem S4:type_of% @List.getD_eq_getElem?_getD:=@List.getD_eq_getElem?_getD
theorem S5:type_of% @List.mem_nil_iff:=@List.mem_nil_iff
theorem S6:type_of% @List.flatMap_cons:=@List.flatMap_cons
theorem S7:type_of% @List.ext_getElem?:=@List.ext_getElem?
theorem S8:type_of% @List.getElem?_toArray:=@List.getElem?_toArray
theorem S9:type_of% @List.mem_cons_self:=@List.mem_cons_self
theorem T3:type_of% @Nat.lt_or_ge:=@Nat.lt_or_ge
theorem T4:type_of% @List.map_congr_left:=@List.map_congr_left
theorem T5:type_of% @List.length_pos_iff:=@List.length_pos_iff
theorem T6:type_of% @List.getElem?_cons_succ:=@List.getElem?_cons_succ
theorem T7:type_of% @List.filter_eq_self:=@List.filter_eq_self
theorem T8:type_of% @List.not_mem_nil:=@List.not_mem_nil
theorem T9:type_of% @List.mem_filter:=@List.mem_filter
theorem U0:type_of% @List.map_toArray:=@List.map_toArray
theorem U1:type_of% @Nat.lt_trichotomy:=@Nat.lt_trichotomy
theorem U2:type_of% @List.drop_of_length_le:=@List.drop_of_length_le
theorem U3:type_of% @Go.World.cell?_setCells_out:=@Go.World.cell?_setCells_out
theorem U4:type_of% @List.mergeSort_perm:=@List.mergeSort_perm
theorem U5:type_of% @Nat.add_sub_cancel_left:=@Nat.add_sub_cancel_left
theorem U6:type_of% @List.filter_congr:=@List.filter_congr
theorem U7:type_of% @Array.getElem?_setIfInBounds_ne:=@Array.getElem?_setIfInBounds_ne
theorem U8:type_of% @Nat.lt_of_lt_of_le:=@Nat.lt_of_lt_of_le
theorem U9:type_of% @Nat.add_zero:=@Nat.add_zero
theorem V0:type_of% @List.pairwise_cons:=@List.pairwise_cons
theorem V1:type_of% @List.take_left':=@List.take_left'
theorem V3:type_of% @List.drop_drop:=@List.drop_drop
theorem V4:type_of% @Go.RowKit.Below.refl:=@Go.RowKit.Below.refl
theorem V5:type_of% @Array.mem_of_getElem?:=@Array.mem_of_getElem?
theorem V6:type_of% @List.getElem?_cons_zero:=@List.getElem?_cons_zero
theorem V7:type_of% @List.mem_of_mem_take:=@List.mem_of_mem_take
theorem V8:type_of% @List.filter_cons:=@List.filter_cons
theorem W1:type_of% @Nat.zero_le:=@Nat.zero_le
theorem W2:type_of% @List.any_eq_false:=@List.any_eq_false
theorem W3:type_of% @List.drop_zero:=@List.drop_zero
theorem W4:type_of% @List.take_append_drop:=@List.take_append_drop
theorem W5:type_of% @List.length_set:=@List.length_set
theorem W6:type_of% @List.drop_left':=@List.drop_left'
theorem W7:type_of% @List.mem_singleton:=@List.mem_singleton
theorem X0:type_of% @Nat.sub_self:=@Nat.sub_self
theorem X1:type_of% @List.size_toArray:=@List.size_toArray
theorem X2:type_of% @List.length_range:=@List.length_range
theorem X3:type_of% @List.getElem?_set:=@List.getElem?_set
theorem X4:type_of% @List.nodup_cons:=@List.nodup_cons
theorem X5:type_of% @List.map_eq_nil_iff:=@List.map_eq_nil_iff
theorem X6:type_of% @List.getD_cons_zero:=@List.getD_cons_zero
theorem X7:type_of% @List.drop_succ_cons:=@List.drop_succ_cons
theorem X8:type_of% @List.drop_eq_nil_of_le:=@List.drop_eq_nil_of_le
theorem Y0:type_of% @Array.getElem?_append_left:=@Array.getElem?_append_left
theorem Y3:type_of% @List.take_length:=@List.take_length
theorem Y4:type_of% @List.any_eq_true:=@List.any_eq_true
theorem Y5:type_of% @List.singleton_append:=@List.singleton_append
theorem Y6:type_of% @List.map_map:=@List.map_map
theorem Y7:type_of% @List.map_drop:=@List.map_drop
theorem Y8:type_of% @List.length_singleton:=@List.length_singleton
theorem Y9:type_of% @List.find?_eq_none:=@List.find?_eq_none
theorem Z0:type_of% @List.all_cons:=@List.all_cons
theorem Z2:type_of% @List.mem_of_find?_eq_some:=@List.mem_of_find?_eq_some
theorem Z3:type_of% @List.drop_eq_getElem_cons:=@List.drop_eq_getElem_cons
theorem Z4:type_of% @Int.le_refl:=@Int.le_refl
theorem Z6:type_of% @Nat.min_eq_left:=@Nat.min_eq_left
theorem Z7:type_of% @List.cons.injEq:=@List.cons.injEq
theorem Z8:type_of% @List.takeWhile_cons:=@List.takeWhile_cons
theorem Z9:type_of% @List.map_take:=@List.map_take
theorem za0:type_of% @List.getD_cons_succ:=@List.getD_cons_succ
theorem za1:type_of% @Bool.not_true:=@Bool.not_true
theorem za2:type_of% @List.flatMap_nil:=@List.flatMap_nil
theorem za4:type_of% @Array.mem_filter:=@Array.mem_filter
theorem za5:type_of% @List.take_take:=@List.take_take
namespace Go.Av
open Go.RowKit
inductive AVal where
 |int (k:IntKind) (n:Int)
 |bool (b:Bool)
 |str (s:List UInt8)
 |nil (v:Value)
 |agg (cs:List AVal)
 |tup (vs:List AVal)
 |sl (n:Nat) (es:List AVal)
 |ad (cs:List AVal)
 |hp (p ver i off:Nat)
 |hs (p ver off len:Nat) (room:Bool)
 |fn (f:Fn) (first captured:List AVal)
 |ifc (t:TypeId) (v:AVal)
 |pa
 |ez
 |hm (p:Nat)
 deriving Inhabited
def AVal.cells:AVal→List AVal
 | .agg cs=>cs
 |v=>[v]
def AVal.sto:AVal→Bool
 | .agg _=>false
 | .tup _=>false
 | .nil v=>v.oneCell'
 |_=>true
inductive Blk where
 |row (e:TypeId) (size ver:Nat) (rows:List AVal)
 |iter (s:List UInt8) (pos:Nat)
 |mp (es:List (AVal×AVal×Nat)) (clock:Nat)
 |mit (m since:Nat) (seen:List Nat) (last:Nat)
 |dead
 |df
 |lp (l n:Nat) (t:Nat→AVal) (ps:Array Tmp) (ass body:Code) (st:LoopState) (pe:Option Code)
 deriving Inhabited
abbrev Heap:=List Blk
abbrev Env:=Nat→AVal
structure MB where
 blk:Option Nat
 ver:Nat
 size:Nat
 cap:Nat
abbrev Map:=List MB
inductive Rep (w:World) (S:Addr→Prop) (μ:Map):AVal→Value→Prop
 |int (k:IntKind) (n:Int):Rep w S μ (.int k n) (.int k n)
 |bool (b:Bool):Rep w S μ (.bool b) (.bool b)
 |str (s:List UInt8):Rep w S μ (.str s) (.string ⟨s.toArray⟩)
 |nil (v:Value):(∀cs,v≠ .agg cs)→Rep w S μ (.nil v) v
 |agg (cs:List AVal) (vs:List Value):vs.length=cs.length→(∀(i:Nat) (c:AVal),cs[i]? =some c→c.sto=true)→
   (∀(i:Nat) (c:AVal),cs[i]? =some c→Rep w S μ c (vs.getD i undef))→Rep w S μ (.agg cs) (.agg vs.toArray)
 |tup (cs:List AVal) (vs:List Value):vs.length=cs.length→
   (∀(i:Nat) (c:AVal),cs[i]? =some c→Rep w S μ c (vs.getD i undef))→Rep w S μ (.tup cs) (.tuple vs.toArray)
 |sl0 (n:Nat) (a:Option Addr) (cap:Nat):Rep w S μ (.sl n []) (.slice a 0 cap)
 |sl (n:Nat) (es:List AVal) (b o cap:Nat) (vs:Nat→Nat→Value):es≠ []→es.length≤cap→cap≤maxLen→
   (∀(i:Nat) (e:AVal),es[i]? =some e→e.cells.length=n)→
   (∀(i:Nat) (e:AVal) (j:Nat) (c:AVal),es[i]? =some e→e.cells[j]? =some c→
    S ⟨b,o+(i*n+j),none⟩∧w.cell? ⟨b,o+(i*n+j),none⟩=some (vs i j)∧c.sto=true)→
   (∀(i:Nat) (e:AVal) (j:Nat) (c:AVal),es[i]? =some e→e.cells[j]? =some c→Rep w S μ c (vs i j))→
   Rep w S μ (.sl n es) (.slice (some ⟨b,o,none⟩) es.length cap)
 |ad (cs:List AVal) (b o:Nat) (vs:Nat→Value):cs≠ []→
   (∀(j:Nat) (c:AVal),cs[j]? =some c→S ⟨b,o+j,none⟩∧w.cell? ⟨b,o+j,none⟩=some (vs j)∧c.sto=true)→
   (∀(j:Nat) (c:AVal),cs[j]? =some c→Rep w S μ c (vs j))→Rep w S μ (.ad cs) (.pointer (some ⟨b,o,none⟩))
 |hp (p ver i off:Nat) (m:MB) (v:Value):μ[p]? =some m→ver≤m.ver→(∀cs,v≠ .agg cs)→v.oneCell'=true→
   (ver=m.ver→∃b,m.blk=some b∧v=.pointer (some ⟨b,i*m.size+off,none⟩))→Rep w S μ (.hp p ver i off) v
 |hs (p ver off len:Nat) (room:Bool) (m:MB) (v:Value):μ[p]? =some m→ver≤m.ver→(∀cs,v≠ .agg cs)→v.oneCell'=true→
   (ver=m.ver→(m.blk=none∧off=0∧len=0∧v=.slice none 0 0)∨
    ∃b,m.blk=some b∧off+len≤m.cap∧v=.slice (some ⟨b,off*m.size,none⟩) len (if room then m.cap-off else len))→
   Rep w S μ (.hs p ver off len room) v
 |fn (f:Fn) (xs cs:List AVal) (xv cv:List Value):xv.length=xs.length→cv.length=cs.length→
   (∀(i:Nat) (c:AVal),xs[i]? =some c→Rep w S μ c (xv.getD i undef))→
   (∀(i:Nat) (c:AVal),cs[i]? =some c→Rep w S μ c (cv.getD i undef))→Rep w S μ (.fn f xs cs) (.func f xv.toArray cv.toArray)
 |ifc (t:TypeId) (x:AVal) (v:Value):Rep w S μ x v→Rep w S μ (.ifc t x) (.iface t v)
 |pa (a:Option Addr):Rep w S μ .pa (.pointer a)
 |ez (a:Addr):Rep w S μ .ez (.slice (some a) 0 0)
 |hm (p:Nat) (m:MB) (v:Value):μ[p]? =some m→(∀cs,v≠ .agg cs)→v.oneCell'=true→(m.ver=0→∃b,m.blk=some b∧v=.map (some b))→Rep w S μ (.hm p) v
def MapLe(μ μ':Map):Prop:=
 ∀(p:Nat) (m:MB),μ[p]? =some m→∃m',μ'[p]? =some m'∧m.ver≤m'.ver∧(m.ver=m'.ver→m'=m)
theorem MapLe.refl(μ:Map):MapLe μ μ:=fun _ m h=>⟨m,h,M0 _,fun _=>rfl⟩
theorem MapLe.trans{a b c:Map}(h:MapLe a b)(k:MapLe b c):MapLe a c:=fun p m hm=>by
 obtain⟨m1,h1,v1,e1⟩:=h p m hm;obtain⟨m2,h2,v2,e2⟩:=k p m1 h1;refine⟨m2,h2,Q6 v1 v2,fun e=>?_⟩;have h3:m.ver=m1.ver:=by omega
 have h4:m1.ver=m2.ver:=by omega
 rw[e2 h4,e1 h3]
structure Step (B:Nat) (S:Addr→Prop) (μ:Map) (w:World) (S':Addr→Prop) (μ':Map) (w':World):Prop where
 sub:∀a,S a→S' a
 keep:∀a,S a→w'.cell? a=w.cell? a
 below:Below B w w'
 map:MapLe μ μ'
 new:∀a,S' a→S a∨B≤a.block
theorem Step.refl(B:Nat)(S:Addr→Prop)(μ:Map)(w:World):Step B S μ w S μ w:=
 ⟨fun _ h=>h,fun _ _=>rfl,V4 _ _,MapLe.refl _,fun _ h=>.inl h⟩
theorem Step.trans{B:Nat}{S S1 S2:Addr→Prop}{μ μ1 μ2:Map}{w w1 w2:World}
  (h:Step B S μ w S1 μ1 w1)(k:Step B S1 μ1 w1 S2 μ2 w2):Step B S μ w S2 μ2 w2:=
 ⟨fun a ha=>k.sub a (h.sub a ha),fun a ha=>(k.keep a (h.sub a ha)).trans (h.keep a ha),h.below.trans k.below,h.map.trans k.map,
  fun a ha=>(k.new a ha).elim (h.new a) .inr⟩
theorem Rep.mono{B:Nat}{S S':Addr→Prop}{μ μ':Map}{w w':World}{x:AVal}{v:Value}
  (h:Rep w S μ x v)(st:Step B S μ w S' μ' w'):Rep w' S' μ' x v:=by
 induction h with
 |int k n=>exact .int k n
 |bool b=>exact .bool b
 |str s=>exact .str s
 |nil v hv=>exact .nil v hv
 |agg cs vs hl hs hr ih=>exact .agg cs vs hl hs ih
 |tup cs vs hl hr ih=>exact .tup cs vs hl ih
 |sl0 n a cap=>exact .sl0 n a cap
 |sl n es b o cap vs hne hm hm' hn hc hr ih=>
  refine .sl n es b o cap vs hne hm hm' hn (fun i e j c he hj=>?_) ih;obtain⟨h1,h2,h3⟩:=hc i e j c he hj;exact⟨st.sub _ h1,(st.keep _ h1).trans h2,h3⟩
 |ad cs b o vs hne hc hr ih=>
  refine .ad cs b o vs hne (fun j c hj=>?_) ih;obtain⟨h1,h2,h3⟩:=hc j c hj;exact⟨st.sub _ h1,(st.keep _ h1).trans h2,h3⟩
 |hp p ver i off m v hm hv ha h1 hx=>
  obtain⟨m',hm',hle,he⟩:=st.map p m hm;refine .hp p ver i off m' v hm' (Q6 hv hle) ha h1 (fun e=>?_);have:m.ver=m'.ver:=by omega
  have hmm:=he this;subst hmm;exact hx e
 |hs p ver off len room m v hm hv ha h1 hx=>
  obtain⟨m',hm',hle,he⟩:=st.map p m hm;refine .hs p ver off len room m' v hm' (Q6 hv hle) ha h1 (fun e=>?_);have:m.ver=m'.ver:=by omega
  have hmm:=he this;subst hmm;exact hx e
 |fn f xs cs xv cv h1 h2 h3 h4 i3 i4=>exact .fn f xs cs xv cv h1 h2 i3 i4
 |ifc t x v h ih=>exact .ifc t x v ih
 |pa a=>exact .pa a
 |ez a=>exact .ez a
 |hm p m v hm ha h1 hx=>
  obtain⟨m',hm',hle,he⟩:=st.map p m hm;refine .hm p m' v hm' ha h1 (fun e=>?_);have:m.ver=m'.ver:=by omega
  have hmm:=he this;subst hmm;exact hx e
theorem Rep.cells{S:Addr→Prop}{μ:Map}{w:World}{x:AVal}{v:Value}(h:Rep w S μ x v):
  v.cells.size=x.cells.length∧∀(i:Nat) (c:AVal),x.cells[i]? =some c→∃u,v.cells[i]? =some u∧Rep w S μ c u:=by
 have one:∀(x:AVal) (v:Value),Rep w S μ x v→x.cells=[x]→v.cells= #[v]→
   v.cells.size=x.cells.length∧∀(i:Nat) (c:AVal),x.cells[i]? =some c→∃u,v.cells[i]? =some u∧Rep w S μ c u:=by
  intro x v h hx hv;rw[hx,hv];refine⟨rfl,fun i c hi=>?_⟩
  match i with
  |0=>simp at hi;subst hi;exact⟨v,rfl,h⟩
  |i+1=>simp at hi
 have plain:∀v:Value,(∀cs,v≠ .agg cs)→v.cells= #[v]:=by
  intro v hv;cases v<;>first|rfl|exact absurd rfl (hv _)
 cases h with
 |int k n=>exact one _ _ (.int k n) rfl rfl
 |bool b=>exact one _ _ (.bool b) rfl rfl
 |str s=>exact one _ _ (.str s) rfl rfl
 |nil v hv=>exact one _ _ (.nil v hv) rfl (plain _ hv)
 |agg cs vs hl hs hr=>
  refine⟨by simpa [Value.cells,AVal.cells]using hl,fun i c hi=>?_⟩;simp only[AVal.cells]at hi;have hlt:i<vs.length:=by
   rw[hl];exact(f9.1 hi).1
  refine⟨vs[i],by simp[Value.cells,hlt],?_⟩;have:=hr i c hi;simpa [List.getD,hlt]using this
 |tup cs vs hl hr=>exact one _ _ (.tup cs vs hl hr) rfl rfl
 |sl0 n a cap=>exact one _ _ (.sl0 n a cap) rfl rfl
 |sl n es b o cap vs h1 h2 h3 h4 h5 h6=>exact one _ _ (.sl n es b o cap vs h1 h2 h3 h4 h5 h6) rfl rfl
 |ad cs b o vs h1 h2 h3=>exact one _ _ (.ad cs b o vs h1 h2 h3) rfl rfl
 |hp p ver i off m v h1 h2 ha h3 h4=>exact one _ _ (.hp p ver i off m v h1 h2 ha h3 h4) rfl (plain _ ha)
 |hs p ver off len room m v h1 h2 ha h3 h4=>exact one _ _ (.hs p ver off len room m v h1 h2 ha h3 h4) rfl (plain _ ha)
 |fn f xs cs xv cv h1 h2 h3 h4=>exact one _ _ (.fn f xs cs xv cv h1 h2 h3 h4) rfl rfl
 |ifc t x v h=>exact one _ _ (.ifc t x v h) rfl rfl
 |pa a=>exact one _ _ (.pa a) rfl rfl
 |ez a=>exact one _ _ (.ez a) rfl rfl
 |hm p m v h1 ha h3 h4=>exact one _ _ (.hm p m v h1 ha h3 h4) rfl (plain _ ha)
theorem Rep.oneCell{S:Addr→Prop}{μ:Map}{w:World}{x:AVal}{v:Value}(h:Rep w S μ x v)(hs:x.sto=true):v.oneCell'=true:=by
 cases h<;>first|rfl| (simp[AVal.sto]at hs;done)| (simpa [AVal.sto]using hs)|assumption
def AVal.lies(x:AVal):Bool:=match x with| .agg _=>true|y=>y.sto
theorem Rep.lies{S:Addr→Prop}{μ:Map}{w:World}{x:AVal}{v:Value}(h:Rep w S μ x v)(hs:x.lies=true):
  ∀(i:Nat) (c:AVal),x.cells[i]? =some c→c.sto=true:=by
 cases h with
 |agg cs vs hl hsto hr=>exact hsto
 |_=>
  intro i c hi
  match i with
  |0=>simp[AVal.cells]at hi;subst hi;simpa [AVal.lies]using hs
  |i+1=>simp[AVal.cells]at hi
structure RowFits (w:World) (S:Addr→Prop) (μ:Map) (m:MB) (e:TypeId) (size ver:Nat) (rows:List AVal):Prop where
 hver:m.ver=ver
 hsize:m.size=size
 pos:0<size
 lens:∀(i:Nat) (r:AVal),rows[i]? =some r→r.cells.length=size
 sto:∀(i:Nat) (r:AVal) (j:Nat) (c:AVal),rows[i]? =some r→r.cells[j]? =some c→c.sto=true
 lies:(m.blk=none∧rows=[])∨∃b cur,m.blk=some b∧w.heap[b]? =some (.cells cur e (0,0))∧cur.size=m.cap*size∧
  (0<m.cap∧rows.length≤m.cap)∧m.cap≤maxLen∧
  ∀(i:Nat) (r:AVal) (j:Nat) (c:AVal),rows[i]? =some r→r.cells[j]? =some c→∃x,cur[i*size+j]? =some x∧Rep w S μ c x
def BlkFits(w:World)(S:Addr→Prop)(μ:Map)(m:MB):Blk→Prop
 | .row e size ver rows=>RowFits w S μ m e size ver rows
 | .iter s pos=>m.ver=0∧∃b,m.blk=some b∧w.heap[b]? =some (.stringIter ⟨s.toArray⟩ pos)
 | .mp es clock=>m.ver=0∧∃b cur,m.blk=some b∧w.heap[b]? =some (.map cur clock)∧cur.size=es.length∧
   ∀(i:Nat) (e:AVal×AVal×Nat),es[i]? =some e→∃x,cur[i]? =some x∧Rep w S μ e.1 x.key∧Rep w S μ e.2.1 x.val∧x.born=e.2.2
 | .mit q since seen last=>m.ver=0∧∃b r,m.blk=some b∧Rep w S μ (.hm q) (.map r)∧w.heap[b]? =some (.mapIter r since seen.toArray last)
 | .dead=>True
 | .df=>m.ver=0∧∃b,m.blk=some b∧w.heap[b]? =some (.deferred (some []))
 | .lp l n t ps ass body st pe=>m.ver=0∧m.blk=some l∧∃fn D tmps,w.heap[l]? =some (.loop {state:=st,pending:=pe,fn,tmps,params:=ps,assign:=ass,body,defers:=D})∧
   tmps.size=n∧∀i,i<n→Rep w S μ (t i) (tmps.getD i undef)
structure Ctx where
 P:Program
 G:Nat→Option (List AVal)
structure Fits (C:Ctx) (B:Nat) (S:Addr→Prop) (μ:Map) (h:Heap) (w:World):Prop where
 glob:∀g cs,C.G g=some cs→Rep w S μ (.ad cs) (.pointer (some ⟨g,0,none⟩))
 len:μ.length=h.length
 sep:∀(p q:Nat) (m m':MB) (b:Nat),μ[p]? =some m→μ[q]? =some m'→m.blk=some b→m'.blk=some b→p=q
 own:∀(p:Nat) (m:MB) (b:Nat),μ[p]? =some m→m.blk=some b→B≤b∧b<w.heap.size∧∀a,S a→a.block≠b
 base:B≤w.heap.size
 lie:∀a,S a→a.block<w.heap.size
 blk:∀(p:Nat) (m:MB) (k:Blk),μ[p]? =some m→h[p]? =some k→BlkFits w S μ m k
def REnv(n:Nat)(w:World)(S:Addr→Prop)(μ:Map)(t:Env)(a:Act)(ds:List Deferred:=[]):Prop:=
 a.tmps.size=n∧a.defers=ds∧∀i,i<n→Rep w S μ (t i) (a.tmps.getD i undef)
theorem REnv.mono{n B:Nat}{S S':Addr→Prop}{μ μ':Map}{w w':World}{t:Env}{a:Act}{ds:List Deferred}
  (h:REnv n w S μ t a ds)(st:Step B S μ w S' μ' w'):REnv n w' S' μ' t a ds:=
 ⟨h.1,h.2.1,fun i hi=>(h.2.2 i hi).mono st⟩
theorem qR(v:Value)(h:v.oneCell'=true):∀cs,v≠ .agg cs:=by
 intro cs e;subst e;simp[Value.oneCell']at h
def szOf(P:Program)(T:TypeId):Option Nat:=(P.info? T).map (·.size)
def aggT(P:Program)(T:TypeId):Option Bool:=(P.underlying T).map fun| .struct _=>true| .array _ _=>true|_=>false
def fOff(P:Program)(T:TypeId)(i:Nat):Option (Nat×TypeId×Nat):=
 match P.underlying T with
 |some (.struct fs)=>match fs[i]? with
  |some f=>match P.info? f.type with
   |some k=>some (f.offset,f.type,k.size)
   |none=>none
  |none=>none
 |_=>none
def elmT(P:Program)(T:TypeId):Option TypeId:=match P.underlying T with|some (.slice e)=>some e|_=>none
def arrT(P:Program)(T:TypeId):Option (Nat×TypeId):=match P.underlying T with|some (.array n e)=>some (n,e)|_=>none
def strT(P:Program)(T:TypeId):Bool:=match P.underlying T with|some .string=>true|_=>false
def mapT(P:Program)(T:TypeId):Option (TypeId×TypeId):=match P.underlying T with|some (.map k e)=>some (k,e)|_=>none
def ifcT(P:Program)(T:TypeId):Option Bool:=(P.underlying T).map fun| .interface _=>true|_=>false
def byT(P:Program)(T:TypeId):Option Nat:=(P.info? T).map (·.bytes)
def nFld(P:Program)(T:TypeId):Option Nat:=match P.underlying T with|some (.struct fs)=>if fs.toList.all (fun f=>(szOf P f.type).isSome)=true then some fs.size else none|_=>none
def ofVal1:Value→AVal
 | .int k n=>.int k n
 | .bool b=>.bool b
 | .string s=>.str s.data.toList
 | .func f ⟨[]⟩ ⟨[]⟩=>.fn f [] []
 |v=>.nil v
def ofVal:Value→AVal
 | .agg cs=>.agg (cs.toList.map ofVal1)
 |v=>ofVal1 v
def zroT(P:Program)(T:TypeId):Option AVal:=match P.info? T with
 |some i=>i.zero.map ofVal
 |none=>none
abbrev undefA:AVal:=.nil undef
def aev(G:Nat→Option (List AVal))(t:Env):Operand→AVal
 | .tmp i=>t i
 | .const v=>ofVal v
 | .global g=>match G g with|some cs=>.ad cs|none=>.nil (.pointer (some ⟨g,0,none⟩))
 | .func f=>.fn (.func f) [] []
def upd(t:Env)(d:Nat)(v:AVal):Env:=fun i=>if i=d then v else t i
def put(t:Env)(d:Option Nat)(v:AVal):Env:=match d with|some d=>upd t d v|none=>t
def need{α:Type}(x:Option α)(f:α→Prop):Prop:=match x with|some a=>f a|none=>False
def pickT(P:Program)(T:TypeId)(cs:List AVal):Option AVal:=
 match aggT P T,szOf P T with
 |some true,some n=>if n≤cs.length then some (.agg (cs.take n))else none
 |some false,some _=>cs.head?
 |_,_=>none
def getRow(h:Heap)(p ver:Nat):Option (TypeId×Nat×List AVal):=
 match h[p]? with
 |some (.row e n v rows)=>if ver=v then some (e,n,rows)else none
 |_=>none
def ofCells(r:AVal)(cs:List AVal):AVal:=
 match r with
 | .agg _=>.agg cs
 |_=>match cs with| [x]=>x|_=>.agg cs
def putA(r:AVal)(off:Nat)(xs:List AVal):AVal:=ofCells r (r.cells.take off++xs++r.cells.drop (off+xs.length))
def fillA(place:Nat→Option (Nat×Nat)):List AVal→List (Nat×AVal)→Option (List AVal)
 |zs,[]=>some zs
 |zs,(i,x)::rest=>
  match place i with
  |some (o,n)=>if x.cells.length=n∧o+n≤zs.length∧x.lies=true then fillA place (zs.take o++x.cells++zs.drop (o+n)) rest else none
  |none=>none
def aint(op:BinOp)(k:IntKind)(a b:Int):Option AVal:=
 match op with
 | .add=>some (.int k (k.wrap (a+b)))
 | .sub=>some (.int k (k.wrap (a-b)))
 | .mul=>some (.int k (k.wrap (a*b)))
 | .quo=>if b=0 then none else some (.int k (k.wrap (a.tdiv b)))
 | .rem=>if b=0 then none else some (.int k (a.tmod b))
 | .and=>some (.int k (k.wrap (BitVec.ofInt k.bits a&&&BitVec.ofInt k.bits b).toNat))
 | .or=>some (.int k (k.wrap (BitVec.ofInt k.bits a|||BitVec.ofInt k.bits b).toNat))
 | .xor=>some (.int k (k.wrap (BitVec.ofInt k.bits a ^^^ BitVec.ofInt k.bits b).toNat))
 | .andNot=>some (.int k (k.wrap (BitVec.ofInt k.bits a&&& ~~~(BitVec.ofInt k.bits b)).toNat))
 | .eql=>some (.bool (a==b))
 | .neq=>some (.bool (a !=b))
 | .lss=>some (.bool (decide (a<b)))
 | .leq=>some (.bool (decide (a≤b)))
 | .gtr=>some (.bool (decide (a>b)))
 | .geq=>some (.bool (decide (a≥b)))
 |_=>none
def astr(op:BinOp)(a b:List UInt8):Option AVal:=
 match op with
 | .add=>if a.length+b.length≤140737488355328 then some (.str (a++b))else none
 | .eql=>some (.bool (a==b))
 | .neq=>some (.bool (!(a==b)))
 | .lss=>some (.bool (Op.bytesLess a b))
 | .leq=>some (.bool (Op.bytesLess a b||a==b))
 | .gtr=>some (.bool (!(Op.bytesLess a b||a==b)))
 | .geq=>some (.bool (!(Op.bytesLess a b)))
 |_=>none
def aeq1:Nat→AVal→AVal→Option Bool
 |0,.int k a,.int k' b=>if k=k' then some (a==b)else none
 |1,.bool a,.bool b=>some (a==b)
 |2,.str a,.str b=>some (a==b)
 |_,_,_=>none
def aeqL:List Nat→List AVal→List AVal→Option Bool
 | [],[],[]=>some true
 |d::ds,a::as,b::bs=>match aeq1 d a b with
  |some q=>(aeqL ds as bs).map fun r=>q&&r
  |none=>none
 |_,_,_=>none
def kindT(P:Program)(T:TypeId):Nat:=match P.underlying T with|some (.int _)=>0|some .bool=>1|some .string=>2|_=>3
def plainT(P:Program)(T:TypeId):Option (List Nat):=
 match P.underlying T with
 |some (.struct fs)=>if (!P.stoodInHeld T&& !P.eqGuardType P.depth T&&fs.toList.zipIdx.all fun(f,i)=>f.name != "_" && f.offset==i&&aggT P f.type==some false)=true
   then some (fs.toList.map fun f=>kindT P f.type)else none
 |_=>none
def keyT(P:Program)(k:TypeId):Bool:=decide (kindT P k<3)||match plainT P k with|some ds=>ds.all (fun d=>decide (d<3))|none=>false
def akey(P:Program)(k:TypeId)(x y:AVal):Option Bool:=
 match x,y with
 | .agg xs,.agg ys=>(plainT P k).bind fun ds=>aeqL ds xs ys
 |x,y=>aeq1 (kindT P k) x y
def keyA(P:Program)(k:TypeId)(x:AVal):Bool:=keyT P k&&(akey P k x x).isSome
def findA(P:Program)(k:TypeId)(x:AVal):List (AVal×AVal×Nat)→Nat→Option (Option Nat)
 | [],_=>some none
 |e::es,i=>match akey P k x e.1 with
  |some true=>some (some i)
  |some false=>findA P k x es (i+1)
  |none=>none
def mapAt(h:Heap)(p:Nat):Option (List (AVal×AVal×Nat)×Nat):=
 match h[p]? with
 |some (.mp es c)=>some (es,c)
 |_=>none
def gotA(ok:Bool)(z:AVal)(e:Option (AVal×AVal×Nat)):AVal:=
 match e with
 |some e=>if ok then .tup [e.2.1,.bool true]else e.2.1
 |none=>if ok then .tup [z,.bool false]else z
def soft1:AVal→AVal
 | .nil (.slice none 0 0)=>.sl 1 []
 |v=>v
def softA:AVal→AVal
 | .agg cs=>.agg (cs.map soft1)
 |v=>v
def putM(es:List (AVal×AVal×Nat))(c:Nat)(k v:AVal):Option Nat→Blk
 |some i=>.mp (es.modify i fun e=>(k,v,e.2.2)) c
 |none=>.mp (es++[(k,v,c)]) (c+1)
def keyM(es:List (AVal×AVal×Nat))(c:Nat)(k:AVal):Option Nat→Blk
 |some i=>.mp (es.modify i fun e=>(k,e.2.1,e.2.2)) c
 |none=>.mp es c
def delM(es:List (AVal×AVal×Nat))(c:Nat):Option Nat→Blk
 |some i=>.mp (es.eraseIdx i) c
 |none=>.mp es c
def aeqNil(h:Heap)(x:AVal)(v:Value):Option Bool:=
 match x,v with
 | .hp p ver _ _,.pointer none=>match getRow h p ver with|some _=>some false|none=>none
 | .ad _,.pointer none=>some false
 | .ifc _ _,.nilIface=>some false
 | .fn _ _ _,.nilFunc=>some false
 | .sl _ (_::_),.slice none _ _=>some false
 | .ez,.slice none _ _=>some false
 | .hs p ver _ (_+1) _,.slice none _ _=>match getRow h p ver with|some _=>some false|none=>none
 | .nil (.pointer none),.pointer none=>some true
 | .nil .nilFunc,.nilFunc=>some true
 | .nil (.slice none _ _),.slice none _ _=>some true
 |_,_=>none
def nilKind(P:Program)(T:TypeId)(v:Value):Bool:=
 match P.underlying T,v with
 |some (.pointer _),.pointer none=>true
 |some (.slice _),.slice none _ _=>true
 |some (.func _ _ _),.nilFunc=>true
 |some (.interface _),.nilIface=>true
 |_,_=>false
def ptrT(P:Program)(T:TypeId):Bool:=match P.underlying T with|some (.pointer t)=>(P.info? t).isSome|_=>false
def ptrConv(P:Program)(src dst e:TypeId)(n:Nat):Bool:=match P.underlying src,P.underlying dst with
 |some (.pointer t),some .unsafePointer=>(match P.info? t with|some j=>j.size !=0|none=>false)
 |some .unsafePointer,some (.pointer u)=>(P.info? u).isSome&&P.cellsOf e==n&&(u==e||match P.underlying e with
  |some (.struct fs)=> !P.stoodInHeld e&&decide (0<P.cellsOf u)&&fs.any fun f=>f.offset==0&&f.type==u
  |_=>false)
 |_,_=>false
def bytesStr(P:Program)(src dst:TypeId):Bool:=match P.underlying src with
 |some (.slice e)=>(match P.underlying e,P.underlying dst with|some (.int .u8),some .string=>true|_,_=>false)
 |_=>false
def bptr(P:Program)(T e:TypeId):Bool:=match P.underlying T with|some (.pointer t)=>t==e&&P.cellsOf e==1|_=>false
def bytesA:List AVal→Option (List UInt8)
 | []=>some []
 | .int .u8 n::rest=>if ((UInt8.ofNat n.toNat).toNat:Int)=n then(bytesA rest).map fun l=>UInt8.ofNat n.toNat::l else none
 |_=>none
def abin(P:Program)(h:Heap)(op:BinOp)(T:TypeId)(x y:AVal):Option AVal:=
 match x,y with
 | .int k a,.int k' b=>
  match op with
  | .shl=>if b<0 then none else some (.int k (k.wrap (a*2^(min b.toNat k.bits))))
  | .shr=>if b<0 then none else some (.int k (a.fdiv (2^(min b.toNat k.bits))))
  |op=>if k=k' then aint op k a b else none
 | .str a,.str b=>astr op a b
 | .bool a,.bool b=>match P.underlying T,op with
  |some .bool,.eql=>some (.bool (a==b))
  |some .bool,.neq=>some (.bool (!(a==b)))
  |_,_=>none
 | .agg a,.agg b=>match plainT P T with
  |some ks=>match op with
   | .eql=>(aeqL ks a b).map .bool
   | .neq=>(aeqL ks a b).map fun r=>.bool (!r)
   |_=>none
  |none=>none
 | .hp p v i o,.hp p' v' i' o'=>if p=p'∧v=v'∧i=i'∧o=o'∧(getRow h p v).isSome=true∧ptrT P T=true then match op with
  | .eql=>some (.bool true)
  | .neq=>some (.bool false)
  |_=>none else none
 |x,.nil v=>if nilKind P T v=true then match op with
  | .eql=>(aeqNil h x v).map .bool
  | .neq=>(aeqNil h x v).map fun r=>.bool (!r)
  |_=>none else none
 |_,_=>none
def binK(P:Program)(h:Heap)(op:BinOp)(T:TypeId)(x y:AVal)(k:AVal→Prop):Prop:=
 match x,y with
 | .sl _ [],.nil (.slice none 0 0)=>if (elmT P T).isSome=true then(match op with| .eql=>∀b,k (.bool b)| .neq=>∀b,k (.bool b)|_=>False)else False
 |x,y=>need (abin P h op T x y) k
def aun(op:UnOp)(x:AVal):Option AVal:=
 match op,x with
 | .not,.bool b=>some (.bool (!b))
 | .neg,.int k n=>some (.int k (k.wrap (0-n)))
 | .xor,.int k n=>aint .xor k (if k.signed then-1 else k.max) n
 |_,_=>none
def aconv(P:Program)(src dst:TypeId)(x:AVal):Option AVal:=
 match x with
 | .int _ n=>match P.underlying src,P.underlying dst with
  |some _,some (.int k)=>some (.int k (k.wrap n))
  |some _,some .string=>some (.str (Utf8.encode n).data.toList)
  |_,_=>none
 | .str s=>match P.underlying src,P.underlying dst with
  |some .string,some .string=>some (.str s)
  |_,_=>none
 |_=>none
def optInt(t:Option AVal)(d:Int):Option Int:=
 match t with
 |none=>some d
 |some (.int _ n)=>some n
 |_=>none
def aslice(P:Program)(h:Heap)(T:TypeId)(x:AVal)(lo hi mx:Option AVal):Option AVal:=
 match x with
 | .str s=>if strT P T=true∧mx.isNone=true then match optInt lo 0,optInt hi s.length with
  |some l,some r=>if 0≤l∧l≤r∧r≤s.length then some (.str ((s.take r.toNat).drop l.toNat))else none
  |_,_=>none else none
 | .sl n es=>match elmT P T,mx.isNone with
  |some e,true=>if szOf P e=some n then match optInt lo 0,optInt hi es.length with
   |some l,some r=>if 0≤l∧l≤r∧r≤es.length then some (.sl n ((es.take r.toNat).drop l.toNat))else none
   |_,_=>none else none
  |_,_=>none
 | .hs p ver off len room=>match elmT P T,getRow h p ver with
  |some e,some (_,n,_)=>if szOf P e=some n then match optInt lo 0,optInt hi len with
   |some l,some r=>
    if 0≤l∧l≤r∧r≤len∧(l=0∨l<r)then
     match mx with
     |none=>if room=true∨r=len then some (.hs p ver (off+l.toNat) (r.toNat-l.toNat) room)else none
     |some (.int _ m)=>if m=r∧hi.isSome=true then some (.hs p ver (off+l.toNat) (r.toNat-l.toNat) false)else none
     |_=>none
    else if 0≤l∧l=r∧r≤len∧mx.isNone=true then some (.sl n [])else none
   |_,_=>none else none
  |_,_=>none
 |_=>none
def alen(P:Program)(h:Heap)(T:TypeId)(x:AVal):Option Nat:=
 match x with
 | .str s=>if strT P T=true then some s.length else none
 | .sl _ es=>if (elmT P T).isSome then some es.length else none
 | .hs p ver _ len _=>if (elmT P T).isSome∧(getRow h p ver).isSome then some len else none
 | .nil (.slice none 0 0)=>if (elmT P T).isSome then some 0 else none
 | .ez=>if (elmT P T).isSome then some 0 else none
 | .nil (.map none)=>if (mapT P T).isSome then some 0 else none
 | .hm p=>if (mapT P T).isSome then(mapAt h p).map (·.1.length)else none
 |_=>none
def elemsOf(h:Heap)(n:Nat)(x:AVal):Option (List AVal):=
 match x with
 | .sl m es=>if m=n then some es else none
 | .hs p ver off len _=>match getRow h p ver with
  |some (_,m,rows)=>if m=n∧off+len≤rows.length then some ((rows.drop off).take len)else none
  |none=>none
 | .nil (.slice none 0 0)=>some []
 | .ez=>some []
 | .str s=>if n=1 then some (s.map fun b=>.int .u8 b.toNat)else none
 |_=>none
def convK(P:Program)(src dst:TypeId)(x:AVal)(h:Heap)(k:AVal→Prop):Prop:=
 match x with
 | .hp p ver 0 0=>need (getRow h p ver) fun q=>ptrConv P src dst q.1 q.2.1=true∧q.2.2≠ []∧k (.hp p ver 0 0)
 | .sl n es=>bytesStr P src dst=true∧need (elemsOf h 1 (.sl n es)) fun ys=>need (bytesA ys) fun bs=>k (.str bs)
 | .hs p v o l r=>bytesStr P src dst=true∧need (elemsOf h 1 (.hs p v o l r)) fun ys=>need (bytesA ys) fun bs=>k (.str bs)
 | .nil (.slice none 0 0)=>bytesStr P src dst=true∧k (.str [])
 |x=>need (aconv P src dst x) k
def roomy(n bytes:Nat):Prop:=n≤maxLen∧n*bytes≤140737488355328
def wpAppend(P:Program)(T:TypeId)(x y:AVal)(h:Heap)(K:AVal→Heap→Prop):Prop:=
 need (elmT P T) fun e=>need (szOf P e) fun n=>need (byT P e) fun by'=>need (elemsOf h n y) fun ys=>0<n∧(zroT P e).map (fun z=>z.cells.length)=some n∧
  match x with
  | .nil (.slice none 0 0)=>roomy ys.length by'∧K (.hs h.length 0 0 ys.length true) (h++[.row e n 0 ys])
  | .hs p ver off len room=>need (getRow h p ver) fun(e',m,rows)=>
    e'=e∧m=n∧off=0∧roomy (len+ys.length) by'∧
    if room=true then len=rows.length∧K (.hs p (ver+1) 0 (len+ys.length) true) (h.set p (.row e n (ver+1) (rows++ys)))
    else 0<ys.length∧len≤rows.length∧K (.hs h.length 0 0 (len+ys.length) true) (h++[.row e n 0 (rows.take len++ys)])
  | .ez=>if ys=[]then K .ez h else roomy ys.length by'∧K (.hs h.length 0 0 ys.length true) (h++[.row e n 0 ys])
  |_=>False
def OpPost(C:Ctx)(B:Nat)(S:Addr→Prop)(μ:Map)(w:World)(K:AVal→Heap→Prop)(v:Value)(w':World):Prop:=
 ∃r h' S' μ',K r h'∧Step B S μ w S' μ' w'∧Fits C B S' μ' h' w'∧Rep w' S' μ' r v
def OpOk(P:Program)(Φ:Value→World→Prop):Result Next→Prop
 | .ok (.value v) w'=>Φ v w'
 | .ok .skip w'=>Φ undef w'
 | .ok (.enter f as) w'=>Calls P f as w' fun e w''=>∃v,e=.returned v∧Φ v w''
 | .ok (.row row as) w'=>Rows P row as w' fun v w''=>Φ v w''
 | .ok (.round l f tmps as b) w'=>∀n,RoundIn Fence.wide n P l f tmps as b w' fun e w''=>∃v,e=.returned v∧Φ v w''
 |_=>False
def RepL(w:World)(S:Addr→Prop)(μ:Map)(xs:List AVal)(vs:List Value):Prop:=
 vs.length=xs.length∧∀(i:Nat) (x:AVal),xs[i]? =some x→Rep w S μ x (vs.getD i undef)
def Sat(C:Ctx)(f:FuncId)(args:List AVal)(h:Heap)(R:AVal→Heap→Prop):Prop:=
 ∀B S μ w vs,Fits C B S μ h w→RepL w S μ args vs→OpOk C.P (OpPost C B S μ w R) ((callFunc f vs.toArray).run C.P w)
def SatY(C:Ctx)(l:Nat)(args:List AVal)(h:Heap)(R:AVal→Heap→Prop):Prop:=
 ∀B S μ w vs,Fits C B S μ h w→RepL w S μ args vs→OpOk C.P (OpPost C B S μ w R) ((Instr.yield l vs.toArray).run C.P w)
theorem OpPost.mono{C:Ctx}{B:Nat}{S:Addr→Prop}{μ:Map}{w:World}{K K':AVal→Heap→Prop}{v:Value}{w':World}
  (h:OpPost C B S μ w K v w')(k:∀r h',K r h'→K' r h'):OpPost C B S μ w K' v w':=by
 obtain⟨r,h',S',μ',a,b,c,d⟩:=h;exact⟨r,h',S',μ',k _ _ a,b,c,d⟩
theorem OpOk.mono{P:Program}{Φ Φ':Value→World→Prop}{r:Result Next}(h:OpOk P Φ r)(k:∀v w,Φ v w→Φ' v w):OpOk P Φ' r:=by
 unfold OpOk at h ⊢;split at h
 ·exact k _ _ h
 ·exact k _ _ h
 ·exact h.mono fun e w' ⟨v,he,hv⟩=>⟨v,he,k _ _ hv⟩
 ·exact h.mono fun v w' hv=>k _ _ hv
 ·exact fun n=>(h n).mono fun e w' ⟨v,he,hv⟩=>⟨v,he,k _ _ hv⟩
 ·exact h.elim
theorem Sat.mono{C:Ctx}{f:FuncId}{args:List AVal}{h:Heap}{R R':AVal→Heap→Prop}(s:Sat C f args h R)(k:∀r h',R r h'→R' r h'):
  Sat C f args h R':=fun B S μ w vs a b=>(s B S μ w vs a b).mono fun _ _ p=>p.mono k
def maxK(p:Int→Int→Bool)(x y:AVal)(k:AVal→Prop):Prop:=match x,y with
 | .int kd a,.int _ b=>k (.int kd (if p a b=true then b else a))
 |_,_=>False
def sdataK(x:AVal)(h:Heap)(k:AVal→Prop):Prop:=match x with
 | .hs p ver 0 len true=>(getRow h p ver).isSome=true∧if 0<len then k (.hp p ver 0 0)else k .pa
 | .nil (.slice none 0 0)=>k .pa
 |_=>False
def ustrK(P:Program)(T:TypeId)(x n:AVal)(h:Heap)(k:AVal→Heap→Prop):Prop:=match n with
 | .int .i64 m=>if m=0 then(match x with| .pa=>k (.str []) h|_=>False)
  else match x with
   | .hp p ver 0 0=>need (getRow h p ver) fun q=>q.2.1=1∧bptr P T q.1=true∧0<m∧m.toNat≤q.2.2.length∧need (bytesA (q.2.2.take m.toNat)) fun bs=>k (.str bs) (h.set p .dead)
   |_=>False
 |_=>False
def clrK(P:Program)(T:TypeId)(x:AVal)(h:Heap)(k:Heap→Prop):Prop:=match x with
 | .hs p ver off len _=>need (elmT P T) fun e=>need (getRow h p ver) fun q=>(zroT P e).map (fun z=>(z.cells.length,z.cells.all AVal.sto))=some (q.2.1,true)∧
   q.2.2.length=off+len∧0<len∧k (h.set p (.row q.1 q.2.1 ver (q.2.2.take off)))
 |_=>False
def callK(C:Ctx)(f:AVal)(args:List AVal)(h:Heap)(k:AVal→Heap→Prop):Prop:=match f with
 | .fn (.func g) first captured=>Sat C g (first++args++captured) h k
 | .fn (.yield l) [] []=>SatY C l args h k
 |_=>False
theorem SatY.mono{C:Ctx}{l:Nat}{args:List AVal}{h:Heap}{R R':AVal→Heap→Prop}(s:SatY C l args h R)(k:∀r h',R r h'→R' r h'):
  SatY C l args h R':=fun B S μ w vs a b=>(s B S μ w vs a b).mono fun _ _ p=>p.mono k
def wpCall(C:Ctx)(c:Call)(t:Env)(h:Heap)(K:AVal→Heap→Prop):Prop:=
 let ρ:=aev C.G t
 match c.callee with
 | .builtin .len=>match c.args.toList,c.argTypes.toList with
  | [x],[T]=>need (alen C.P h T (ρ x)) fun n=>K (.int .i64 n) h
  |_,_=>False
 | .builtin .append=>match c.args.toList,c.argTypes.toList with
  | [x,y],[T,T']=>(T'=T∨strT C.P T'=true)∧wpAppend C.P T (ρ x) (ρ y) h K
  |_,_=>False
 | .builtin .max=>match c.args.toList with
  | [x,y]=>maxK (fun a b=>decide (b>a)) (ρ x) (ρ y) fun v=>K v h
  |_=>False
 | .builtin .min=>match c.args.toList with
  | [x,y]=>maxK (fun a b=>decide (b<a)) (ρ x) (ρ y) fun v=>K v h
  |_=>False
 | .builtin .unsafeSliceData=>match c.args.toList with
  | [x]=>sdataK (ρ x) h fun v=>K v h
  |_=>False
 | .builtin .unsafeString=>match c.args.toList,c.argTypes.toList with
  | [x,n],[T,_]=>ustrK C.P T (ρ x) (ρ n) h K
  |_,_=>False
 | .builtin .delete=>match c.args.toList,c.argTypes.toList with
  | [x,k],[T,_]=>need (mapT C.P T) fun(kt,_)=>keyA C.P kt (ρ k)=true∧
   (match ρ x with
   | .nil (.map none)=>K (.tup []) h
   | .hm p=>need (mapAt h p) fun(es,c)=>need (findA C.P kt (ρ k) es 0) fun r=>K (.tup []) (h.set p (delM es c r))
   |_=>False)
  |_,_=>False
 | .builtin .clear=>match c.args.toList,c.argTypes.toList with
  | [x],[T]=>clrK C.P T (ρ x) h fun h'=>K (.tup []) h'
  |_,_=>False
 | .builtin _=>False
 | .value f=>callK C (ρ f) (c.args.toList.map ρ) h K
 | .invoke _ _=>False
def wpOp(C:Ctx)(o:Op)(t:Env)(h:Heap)(K:AVal→Heap→Prop):Prop:=
 let ρ:=aev C.G t
 match o with
 | .move x=>K (ρ x) h
 | .assign x=>K (ρ x) h
 | .pick c a b=>match ρ c with
  | .bool q=>(q=true→K (ρ a) h)∧(q=false→K (ρ b) h)
  |_=>False
 | .alloc e=>need (zroT C.P e) fun z=>0<z.cells.length∧z.cells.all AVal.sto=true∧z.lies=true∧K (.hp h.length 0 0 0) (h++[.row e z.cells.length 0 [z]])
 | .box e x=>0<(ρ x).cells.length∧(ρ x).lies=true∧K (.hp h.length 0 0 0) (h++[.row e (ρ x).cells.length 0 [ρ x]])
 | .build T parts=>need (zroT C.P T) fun z=>z.cells.all AVal.sto=true∧
   match nFld C.P T,arrT C.P T with
   |some _,_=>need (fillA (fun i=>(fOff C.P T i).map fun q=>(q.1,q.2.2)) z.cells (parts.toList.map fun q=>(q.1,ρ q.2))) fun cs=>K (.agg cs) h
   |none,some (_,e)=>need (szOf C.P e) fun n=>need (fillA (fun i=>some (i*n,n)) z.cells (parts.toList.map fun q=>(q.1,ρ q.2))) fun cs=>K (.agg cs) h
   |_,_=>False
 | .buildSlice T len parts=>need (elmT C.P T) fun e=>need (szOf C.P e) fun n=>if len=0 then parts.size=0∧K .ez h else
   parts.size=len∧0<len∧0<n∧len*n≤16777216∧parts.toList.map (·.1)=List.range len∧(zroT C.P e).map (fun z=>(z.cells.length,z.cells.all AVal.sto))=some (n,true)∧
   (∀x∈parts.toList.map (fun q=>ρ q.2),x.cells.length=n∧x.lies=true)∧
   (K (.hs h.length 0 0 len true) (h++[.row e n 0 (parts.toList.map fun q=>ρ q.2)])∨K (.sl n (parts.toList.map fun q=>ρ q.2)) h)
 | .load T x=>match ρ x with
  | .ad cs=>need (pickT C.P T cs) fun v=>K v h
  | .hp p ver i off=>need (getRow h p ver) fun(_,_,rows)=>need (rows[i]?) fun r=>need (pickT C.P T (r.cells.drop off)) fun v=>K v h
  |_=>False
 | .store T x y=>match ρ x with
  | .hp p ver i off=>need (getRow h p ver) fun(e,n,rows)=>need (rows[i]?) fun r=>
    szOf C.P T=some (ρ y).cells.length∧(ρ y).lies=true∧off+(ρ y).cells.length≤n∧
    K undefA (h.set p (.row e n ver (rows.set i (putA r off (ρ y).cells))))
  |_=>False
 | .nilCheck x=>match ρ x with
  | .hp p ver i off=>(getRow h p ver).isSome∧K (.hp p ver i off) h
  | .ad cs=>K (.ad cs) h
  | .fn (.func f) a b=>K (.fn (.func f) a b) h
  | .ifc T v=>K (.ifc T v) h
  |_=>False
 | .binOp op T x y _=>binK C.P h op T (ρ x) (ρ y) fun v=>K v h
 | .unOp op _ x=>need (aun op (ρ x)) fun v=>K v h
 | .convert src dst x=>convK C.P src dst (ρ x) h fun v=>K v h
 | .makeInterface T x=>ifcT C.P T=some false∧K (.ifc T (ρ x)) h
 | .makeFunc f first captured=>K (.fn f (first.toList.map ρ) (captured.toList.map ρ)) h
 | .slice T x lo hi mx=>need (aslice C.P h T (ρ x) (lo.map ρ) (hi.map ρ) (mx.map ρ)) fun v=>K v h
 | .fieldAddr T x f=>need (fOff C.P T f) fun(o,_,n)=>n≠0∧match ρ x with
  | .hp p ver i off=>(getRow h p ver).isSome∧K (.hp p ver i (off+o)) h
  | .ad cs=>o<cs.length∧K (.ad (cs.drop o)) h
  |_=>False
 | .field T x f=>need (fOff C.P T f) fun(o,fT,_)=>match ρ x with
  | .agg cs=>need (pickT C.P fT (cs.drop o)) fun v=>K v h
  |_=>False
 | .indexAddr T x i=>match ρ i with
  | .int _ n=>match ρ x with
   | .sl m es=>need (elmT C.P T) fun e=>szOf C.P e=some m∧0≤n∧0<m∧need (es[n.toNat]?) fun r=>K (.ad r.cells) h
   | .hs p ver off len _=>need (elmT C.P T) fun e=>need (getRow h p ver) fun(_,m,_)=>szOf C.P e=some m∧0≤n∧n<len∧K (.hp p ver (off+n.toNat) 0) h
   | .hp p ver j off=>need (arrT C.P T) fun(k,e)=>need (szOf C.P e) fun m=>(getRow h p ver).isSome∧0≤n∧n<k∧K (.hp p ver j (off+n.toNat*m)) h
   | .ad cs=>need (arrT C.P T) fun(k,e)=>need (szOf C.P e) fun m=>0≤n∧n<k∧n.toNat*m<cs.length∧K (.ad (cs.drop (n.toNat*m))) h
   |_=>False
  |_=>False
 | .index T x i=>match ρ i with
  | .int _ n=>match ρ x with
   | .str s=>strT C.P T=true∧0≤n∧need (s[n.toNat]?) fun b=>K (.int .u8 b.toNat) h
   | .agg cs=>need (arrT C.P T) fun(k,e)=>need (szOf C.P e) fun m=>0≤n∧n<k∧need (pickT C.P e (cs.drop (n.toNat*m))) fun v=>K v h
   |_=>False
  |_=>False
 | .extract x i=>match ρ x with
  | .tup vs=>need (vs[i]?) fun v=>K v h
  |_=>False
 | .range T x=>match ρ x with
  | .str s=>strT C.P T=true∧K (.hp h.length 0 0 0) (h++[.iter s 0])
  | .hm p=>(mapT C.P T).isSome=true∧need (mapAt h p) fun(_,c)=>K (.hp h.length 0 0 0) (h++[.mit p c [] c])
  |_=>False
 | .next x isString=>match ρ x with
  | .hp p 0 0 0=>match isString with
   |true=>(match h[p]? with
    |some (.iter s pos)=>(pos<s.length→K (.tup [.bool true,.int .i64 pos,.int .i32 (Utf8.decode ⟨s.toArray⟩ pos).1]) (h.set p (.iter s (pos+(Utf8.decode ⟨s.toArray⟩ pos).2))))∧
      (¬pos<s.length→K (.tup [.bool false]) h)
    |_=>False)
   |false=>(match h[p]? with
    |some (.mit q since seen last)=>need (mapAt h q) fun(es,c)=>
      (!seen.isEmpty&& !es.isEmpty&&es.all fun e=>decide (last≤e.2.2))=false∧
      (∀e∈es,e.2.2 ∉ seen→K (.tup [.bool true,e.1,e.2.1]) (h.set p (.mit q since (seen++[e.2.2]) c)))∧
      ((∀e∈es,e.2.2 ∉ seen→since≤e.2.2)→K (.tup [.bool false]) h)
    |_=>False)
  |_=>False
 | .entry x=>match ρ x with
  | .hp p 0 0 0=>(match h[p]? with
   |some (.mit q _ seen last)=>need seen.getLast? fun st=>need (mapAt h q) fun(es,c)=>c=last∧need (es.find? fun e=>e.2.2==st) fun e=>K (.tup [e.1,e.2.1]) h
   |_=>False)
  |_=>False
 | .makeMap T r=>(mapT C.P T).isSome=true∧(match r.map ρ with|none=>True|some (.int _ _)=>True|_=>False)∧K (.hm h.length) (h++[.mp [] 0])
 | .lookup T x i ok=>need (mapT C.P T) fun(k,e)=>need (zroT C.P e) fun z=>z.cells.all AVal.sto=true∧keyA C.P k (ρ i)=true∧
   match ρ x with
   | .nil (.map none)=>K (gotA ok (softA z) none) h
   | .hm p=>need (mapAt h p) fun(es,_)=>need (findA C.P k (ρ i) es 0) fun r=>K (gotA ok (softA z) (r.bind (es[·]?))) h
   |_=>False
 | .mapUpdate T x k v=>need (mapT C.P T) fun(kt,_)=>keyA C.P kt (ρ k)=true∧
   match ρ x with
   | .hm p=>need (mapAt h p) fun(es,c)=>need (findA C.P kt (ρ k) es 0) fun r=>K undefA (h.set p (putM es c (ρ k) (softA (ρ v)) r))
   |_=>False
 | .insert T x k v=>need (mapT C.P T) fun(kt,_)=>keyA C.P kt (ρ k)=true∧
   match ρ x with
   | .hm p=>need (mapAt h p) fun(es,c)=>need (findA C.P kt (ρ k) es 0) fun r=>K undefA (h.set p (putM es c (ρ k) (softA (ρ v)) r))
   |_=>False
 | .mapEntry T x k=>need (mapT C.P T) fun(kt,e)=>need (zroT C.P e) fun z=>z.cells.all AVal.sto=true∧keyA C.P kt (ρ k)=true∧
   match ρ x with
   | .hm p=>need (mapAt h p) fun(es,c)=>need (findA C.P kt (ρ k) es 0) fun r=>
     match r.bind (es[·]?)with
     |some e=>K (.tup [e.2.1,.int .i64 e.2.2]) (h.set p (keyM es c (ρ k) r))
     |none=>K (.tup [z,.int .i64 c]) (h.set p (putM es c (ρ k) z none))
   |_=>False
 | .entryStore _ x s v=>match ρ x,ρ s with
   | .hm p,.int _ n=>need (mapAt h p) fun(es,c)=>need (es.findIdx? fun e=>(e.2.2:Int)==n) fun i=>K undefA (h.set p (.mp (es.modify i fun e=>(e.1,ρ v,e.2.2)) c))
   |_,_=>False
 | .call c=>wpCall C c t h K
 |_=>False
def guardA(ops:Array Oper)(t:Env)(j:Nat):Option (Option Bool):=
 match (ops[j]?).bind (·.dst)with
 |some d=>match t d with| .bool b=>some (some b)| .nil (.tuple _)=>some none|_=>none
 |none=>none
def wpOper(C:Ctx)(ops:Array Oper)(o:Oper)(t:Env)(h:Heap)(K:Env→Heap→Prop):Prop:=
 match o.guard with
 |none=>wpOp C o.op t h fun v h'=>K (put t o.dst v) h'
 |some (j,want)=>match guardA ops t j with
  |some b=>(b=some want→wpOp C o.op t h fun v h'=>K (put t o.dst v) h')∧(b≠some want→K (put t o.dst undefA) h)
  |none=>False
def WPl(C:Ctx)(ops:Array Oper)(Q:Exit→Env→Heap→Prop):List Oper→Env→Heap→Prop
 | [],t,h=>Q .normal t h
 |o::rest,t,h=>wpOper C ops o t h (WPl C ops Q rest)
def WPix(C:Ctx)(ops:Array Oper)(Q:Exit→Env→Heap→Prop):List Nat→Env→Heap→Prop
 | [],t,h=>Q .normal t h
 |i::rest,t,h=>match ops[i]? with
  |some o=>wpOper C ops o t h (WPix C ops Q rest)
  |none=>WPix C ops Q rest t h
def thenQ(K:Env→Heap→Prop)(Q:Exit→Env→Heap→Prop):Exit→Env→Heap→Prop
 | .normal,t,h=>K t h
 |e,t,h=>Q e t h
def blockQ(id:Nat)(Q:Exit→Env→Heap→Prop):Exit→Env→Heap→Prop
 | .exit id',t,h=>if id'=id then Q .normal t h else Q (.exit id') t h
 |e,t,h=>Q e t h
def noG(Q:Exit→Env→Heap→Prop):Exit→Env→Heap→Prop
 | .goto _,_,_=>False
 |e,t,h=>Q e t h
def wrOps:List Oper→List Nat
 | []=>[]
 |o::rest=>match o.dst with|some d=>d::wrOps rest|none=>wrOps rest
def wr:Code→List Nat
 | .region _ ops _=>wrOps ops.toList
 | .seq a b=>wr a++wr b
 | .cond _ a b=>wr a++wr b
 | .block _ c=>wr c
 | .loop c=>wr c
 | .scope c=>wr c
 |_=>[]
def Weak(C:Ctx)(ms:List Nat)(t:Env)(h:Heap)(t1:Env)(h1:Heap):Prop:=
 (∀i,i ∉ ms→t1 i=t i)∧∀B n S μ w a,Fits C B S μ h w→REnv n w S μ t a→∃S' μ',Step B S μ w S' μ' w∧Fits C B S' μ' h1 w∧REnv n w S' μ' t1 a
def Wkn(C:Ctx)(ms:List Nat)(t:Env)(h:Heap)(R:Env→Heap→Prop):Prop:=∃t1 h1,Weak C ms t h t1 h1∧R t1 h1
def WP(C:Ctx):Code→(Exit→Env→Heap→Prop)→Env→Heap→Prop
 | .skip,Q,t,h=>Q .normal t h
 | .label _,Q,t,h=>Q .normal t h
 | .region _ ops draw,Q,t,h=>match draw with
  |false=>WPl C ops Q ops.toList t h
  |true=>∀tp,WPix C ops Q (Region.schedule (C.P.follows .mixedOrders) ops tp) t h
 | .seq a b,Q,t,h=>WP C a (thenQ (fun t h=>Wkn C (wr a) t h fun t h=>WP C b Q t h) Q) t h
 | .cond c a b,Q,t,h=>match aev C.G t c with
  | .bool q=>(q=true→WP C a Q t h)∧(q=false→WP C b Q t h)
  |_=>False
 | .block id c,Q,t,h=>WP C c (blockQ id Q) t h
 | .scope c,Q,t,h=>WP C c (noG Q) t h
 | .loop c,Q,t,h=>∃(I:Nat→Env→Heap→Prop) (n:Nat),Wkn C (wr c) t h (I n)∧
   ∀n' t' h',I n' t' h'→WP C c (thenQ (fun t2 h2=>∃m,m<n'∧Wkn C (wr c) t2 h2 (I m)) Q) t' h'
 | .exit id,Q,t,h=>Q (.exit id) t h
 | .ret,Q,t,h=>Q .ret t h
 |_,_,_,_=>False
theorem RowFits.mono{B:Nat}{S S':Addr→Prop}{μ μ':Map}{w w':World}{m:MB}{e:TypeId}{n v:Nat}{rows:List AVal}
  (h:RowFits w S μ m e n v rows)(st:Step B S μ w S' μ' w')(hb:∀b,m.blk=some b→w'.heap[b]? =w.heap[b]?):RowFits w' S' μ' m e n v rows:=by
 refine⟨h.hver,h.hsize,h.pos,h.lens,h.sto,?_⟩;rcases h.lies with h0| ⟨b,cur,h1,h2,h3,h4,h5,h6⟩
 ·exact .inl h0
 ·refine .inr ⟨b,cur,h1,(hb b h1).trans h2,h3,h4,h5,fun i r j c hr hc=>?_⟩;obtain⟨x,hx,hrep⟩:=h6 i r j c hr hc;exact⟨x,hx,hrep.mono st⟩
theorem BlkFits.mono{B:Nat}{S S':Addr→Prop}{μ μ':Map}{w w':World}{m:MB}{k:Blk}
  (h:BlkFits w S μ m k)(st:Step B S μ w S' μ' w')(hb:∀b,m.blk=some b→w'.heap[b]? =w.heap[b]?):BlkFits w' S' μ' m k:=by
 cases k with
 |row e n v rows=>exact RowFits.mono h st hb
 |iter s pos=>obtain⟨h0,b,h1,h2⟩:=h;exact⟨h0,b,h1,(hb b h1).trans h2⟩
 |mp es clock=>
  obtain⟨h0,b,cur,h1,h2,h3,h4⟩:=h;refine⟨h0,b,cur,h1,(hb b h1).trans h2,h3,fun i e he=>?_⟩;obtain⟨x,hx,k1,k2,k3⟩:=h4 i e he;exact⟨x,hx,k1.mono st,k2.mono st,k3⟩
 |mit q since seen last=>obtain⟨h0,b,r,h1,h2,h3⟩:=h;exact⟨h0,b,r,h1,h2.mono st,(hb b h1).trans h3⟩
 |dead=>trivial
 |df=>obtain⟨h0,b,h1,h2⟩:=h;exact⟨h0,b,h1,(hb b h1).trans h2⟩
 |lp l n t ps ass body s pe=>obtain⟨h0,h1,fn,D,tmps,h2,h3,h4⟩:=h;exact⟨h0,h1,fn,D,tmps,(hb l h1).trans h2,h3,fun i hi=>(h4 i hi).mono st⟩
theorem fg(μ:Map)(m:MB):MapLe μ (μ++[m]):=fun p k h=>by
 refine⟨k,?_,M0 _,fun _=>rfl⟩;have hlt:=(f9.1 h).1;rw[L9 hlt];exact h
theorem bb{C:Ctx}{B:Nat}{S:Addr→Prop}{μ:Map}{h:Heap}{w:World}(f:Fits C B S μ h w)(o:Obj)(m:MB):
  Step B S μ w S (μ++[m]) (w.alloc o):=
 ⟨fun _ ha=>ha,fun a ha=>World.cell?_alloc_lt w o a (f.lie a ha),(V4 _ _).alloc f.base _,fg _ _,fun _ ha=>.inl ha⟩
theorem aJ{α:Type}{l:List α}{x y:α}{i:Nat}(h:(l++[x])[i]? =some y):l[i]? =some y∨(i=l.length∧y=x):=by
 rcases U1 i l.length with h1|h1|h1
 ·rw[L9 h1]at h;exact .inl h
 ·subst h1;rw[M1 (M0 _)]at h;simp at h;exact .inr ⟨rfl,h.symm⟩
 ·rw[M1 (by omega)]at h;rw[P5 (by simp;omega)]at h;cases h
theorem Fits.alloc{C:Ctx}{B:Nat}{S:Addr→Prop}{μ:Map}{h:Heap}{w:World}(f:Fits C B S μ h w)(o:Obj)(m:MB)(k:Blk)
  (hm:m.blk=some w.heap.size)(hk:BlkFits (w.alloc o) S (μ++[m]) m k):Fits C B S (μ++[m]) (h++[k]) (w.alloc o):=by
 have st:=bb f o m;refine⟨fun g cs hg=>(f.glob g cs hg).mono st,by simp[f.len],?_,?_,by simp;have:=f.base;omega,fun a ha=>by simp;have:=f.lie a ha;omega,?_⟩
 ·intro p q m1 m2 b h1 h2 e1 e2;rcases aJ h1 with k1| ⟨k1,rfl⟩<;>rcases aJ h2 with k2| ⟨k2,rfl⟩
  ·exact f.sep p q m1 m2 b k1 k2 e1 e2
  ·have:=(f.own p m1 b k1 e1).2.1;rw[hm]at e2;cases e2;omega
  ·have:=(f.own q m2 b k2 e2).2.1;rw[hm]at e1;cases e1;omega
  ·rw[k1,k2]
 ·intro p m1 b h1 e1;rcases aJ h1 with k1| ⟨k1,rfl⟩
  ·obtain⟨a1,a2,a3⟩:=f.own p m1 b k1 e1;exact⟨a1,by simp;omega,a3⟩
  ·rw[hm]at e1;cases e1;exact⟨f.base,by simp,fun a ha=>by have:=f.lie a ha;omega⟩
 ·intro p m1 k1 h1 h2;rcases aJ h1 with r1| ⟨r1,rfl⟩
  ·have hlt:p<h.length:=(by rw[← f.len];exact(f9.1 r1).1);rw[L9 hlt]at h2;exact(f.blk p m1 k1 r1 h2).mono st fun b hb=>Below.heap_alloc w o b (f.own p m1 b r1 hb).2.1
  ·subst r1;rw[f.len,M1 (M0 _)]at h2;simp at h2;subst h2;exact hk
theorem Fits.foreign{C:Ctx}{B:Nat}{S S':Addr→Prop}{μ:Map}{h:Heap}{w:World}(f:Fits C B S μ h w)(o:Obj)(hS:∀a,S a→S' a)(hS':∀a,S' a→S a∨a.block=w.heap.size):
  Fits C B S' μ h (w.alloc o)∧Step B S μ w S' μ (w.alloc o):=by
 have st:Step B S μ w S' μ (w.alloc o):=⟨hS,fun a ha=>World.cell?_alloc_lt w o a (f.lie a ha),(V4 _ _).alloc f.base _,MapLe.refl _,fun a ha=>(hS' a ha).imp id fun e=>by rw[e];exact f.base⟩
 refine⟨⟨fun g cs hg=>(f.glob g cs hg).mono st,f.len,f.sep,?_,by simp;have:=f.base;omega,fun a ha=>?_,?_⟩,st⟩
 ·intro p m b h1 e1;obtain⟨a1,a2,a3⟩:=f.own p m b h1 e1;refine⟨a1,by simp;omega,fun a ha=>?_⟩;rcases hS' a ha with h2|h2
  ·exact a3 a h2
  ·omega
 ·rcases hS' a ha with h2|h2
  ·simp;have:=f.lie a h2;omega
  ·simp;omega
 ·intro p m k h1 h2;exact(f.blk p m k h1 h2).mono st fun b hb=>Below.heap_alloc w o b (f.own p m b h1 hb).2.1
theorem Fits.virtual{C:Ctx}{B:Nat}{S:Addr→Prop}{μ:Map}{h:Heap}{w:World}(f:Fits C B S μ h w)(m:MB)(k:Blk)
  (hm:m.blk=none)(hk:BlkFits w S (μ++[m]) m k):Fits C B S (μ++[m]) (h++[k]) w∧Step B S μ w S (μ++[m]) w:=by
 have st:Step B S μ w S (μ++[m]) w:=⟨fun _ ha=>ha,fun _ _=>rfl,V4 _ _,fg _ _,fun _ ha=>.inl ha⟩
 refine⟨⟨fun g cs hg=>(f.glob g cs hg).mono st,by simp[f.len],?_,?_,f.base,f.lie,?_⟩,st⟩
 ·intro p q m1 m2 b h1 h2 e1 e2;rcases aJ h1 with k1| ⟨k1,rfl⟩<;>rcases aJ h2 with k2| ⟨k2,rfl⟩
  ·exact f.sep p q m1 m2 b k1 k2 e1 e2
  ·rw[hm]at e2;cases e2
  ·rw[hm]at e1;cases e1
  ·rw[k1,k2]
 ·intro p m1 b h1 e1;rcases aJ h1 with k1| ⟨k1,rfl⟩
  ·exact f.own p m1 b k1 e1
  ·rw[hm]at e1;cases e1
 ·intro p m1 k1 h1 h2;rcases aJ h1 with r1| ⟨r1,rfl⟩
  ·have hlt:p<h.length:=(by rw[← f.len];exact(f9.1 r1).1);rw[L9 hlt]at h2;exact(f.blk p m1 k1 r1 h2).mono st fun b _=>rfl
  ·subst r1;rw[f.len,M1 (M0 _)]at h2;simp at h2;subst h2;exact hk
theorem bq{μ:Map}{p:Nat}{m m':MB}(hm:μ[p]? =some m)(hle:m.ver≤m'.ver)(he:m.ver=m'.ver→m'=m):MapLe μ (μ.set p m'):=fun q k h=>by
 by_cases hq:p=q
 ·subst hq;rw[hm]at h;cases h;exact⟨m',by rw[P3 (f9.1 hm).1],hle,he⟩
 ·exact⟨k,by rw[R6 hq];exact h,M0 _,fun _=>rfl⟩
structure Only (w w':World) (q:Option Nat):Prop where
 os:w'.os=w.os
 tape:w'.tape=w.tape
 output:w'.output=w.output
 size:w.heap.size≤w'.heap.size
 block:∀k,k<w.heap.size→some k≠q→w'.heap[k]? =w.heap[k]?
theorem Only.refl(w:World)(q:Option Nat):Only w w q:=⟨rfl,rfl,rfl,M0 _,fun _ _ _=>rfl⟩
theorem Only.trans{a b c:World}{q:Option Nat}(h:Only a b q)(k:Only b c q):Only a c q:=
 ⟨k.os.trans h.os,k.tape.trans h.tape,k.output.trans h.output,Q6 h.size k.size,
  fun i hi hq=>(k.block i (U8 hi h.size) hq).trans (h.block i hi hq)⟩
theorem Only.drew(w:World)(q:Option Nat):Only w w.drew q:=⟨rfl,rfl,rfl,M0 _,fun _ _ _=>rfl⟩
theorem Only.setCell(w:World)(a:Addr)(v:Value):Only w (w.setCell a v) (some a.block):=
 ⟨rfl,rfl,rfl,by simp[World.setCell],fun k _ hq=>Below.heap_setCell w a v k (fun e=>hq (by rw[e]))⟩
theorem bP{C:Ctx}{B:Nat}{S:Addr→Prop}{μ μ':Map}{h:Heap}{w w':World}(f:Fits C B S μ h w){p:Nat}{m:MB}
  (hm:μ[p]? =some m)(o:Only w w' m.blk)(hμ:MapLe μ μ'):Step B S μ w S μ' w':=by
 refine⟨fun _ ha=>ha,fun a ha=>?_,⟨o.os,o.tape,o.output,o.size,fun k hk=>?_⟩,hμ,fun _ ha=>.inl ha⟩
 ·refine World.cell?_of_block (o.block _ (f.lie a ha) fun e=>?_);exact(f.own p m a.block hm e.symm).2.2 a ha rfl
 ·refine o.block k (by have:=f.base;omega) fun e=>?_
  have:=(f.own p m k hm e.symm).1;omega
theorem Fits.update{C:Ctx}{B:Nat}{S:Addr→Prop}{μ:Map}{h:Heap}{w w':World}(f:Fits C B S μ h w){p:Nat}{m m':MB}{k':Blk}
  (hm:μ[p]? =some m)(o:Only w w' m.blk)(hle:m.ver≤m'.ver)(he:m.ver=m'.ver→m'=m)
  (hb:m'.blk=m.blk∨∃b,m'.blk=some b∧w.heap.size≤b∧b<w'.heap.size)(hk:BlkFits w' S (μ.set p m') m' k'):
  Fits C B S (μ.set p m') (h.set p k') w'∧Step B S μ w S (μ.set p m') w':=by
 have st:=bP f hm o (bq hm hle he);have hlt:=(f9.1 hm).1;have new:∀b,m'.blk=some b→(m.blk=some b)∨(w.heap.size≤b∧b<w'.heap.size):=by
  intro b e;rcases hb with h1| ⟨b1,h1,h2,h3⟩
  ·exact .inl (h1▸e)
  ·rw[h1]at e;cases e;exact .inr ⟨h2,h3⟩
 have at_:∀q k,(μ.set p m')[q]? =some k→(q=p∧k=m')∨(q≠p∧μ[q]? =some k):=by
  intro q k hq;by_cases e:p=q
  ·subst e;rw[P3 hlt]at hq;cases hq;exact .inl ⟨rfl,rfl⟩
  ·rw[R6 e]at hq;exact .inr ⟨fun e'=>e e'.symm,hq⟩
 refine⟨⟨fun g cs hg=>(f.glob g cs hg).mono st,by simp[f.len],?_,?_,Q6 f.base o.size,fun a ha=>U8 (f.lie a ha) o.size,?_⟩,st⟩
 ·intro p1 q1 m1 m2 b h1 h2 e1 e2;rcases at_ p1 m1 h1 with⟨r1,rfl⟩| ⟨r1,k1⟩<;>rcases at_ q1 m2 h2 with⟨r2,rfl⟩| ⟨r2,k2⟩
  ·rw[r1,r2]
  ·rcases new b e1 with e| ⟨e,_⟩
   ·exact absurd (f.sep p q1 m m2 b hm k2 e e2).symm r2
   ·have:=(f.own q1 m2 b k2 e2).2.1;omega
  ·rcases new b e2 with e| ⟨e,_⟩
   ·exact absurd (f.sep p p1 m m1 b hm k1 e e1).symm r1
   ·have:=(f.own p1 m1 b k1 e1).2.1;omega
  ·exact f.sep p1 q1 m1 m2 b k1 k2 e1 e2
 ·intro p1 m1 b h1 e1;rcases at_ p1 m1 h1 with⟨r1,rfl⟩| ⟨r1,h1⟩
  ·rcases new b e1 with e| ⟨e,e'⟩
   ·obtain⟨a1,a2,a3⟩:=f.own p m b hm e;exact⟨a1,U8 a2 o.size,a3⟩
   ·exact⟨Q6 f.base e,e',fun a ha=>by have:=f.lie a ha;omega⟩
  ·obtain⟨a1,a2,a3⟩:=f.own p1 m1 b h1 e1;exact⟨a1,U8 a2 o.size,a3⟩
 ·intro p1 m1 k1 h1 h2;rcases at_ p1 m1 h1 with⟨r1,rfl⟩| ⟨r1,h1⟩
  ·subst r1;rw[P3 (by rw[← f.len];exact hlt)]at h2;cases h2;exact hk
  ·rw[R6 (fun e=>r1 e.symm)]at h2;refine(f.blk p1 m1 k1 h1 h2).mono st fun b hb1=>o.block b (f.own p1 m1 b h1 hb1).2.1 fun e=>?_
   exact r1 (f.sep p1 p m1 m b h1 hm hb1 e.symm)
theorem ef{h:Heap}{p ver:Nat}{e:TypeId}{n:Nat}{rows:List AVal}(g:getRow h p ver=some (e,n,rows)):h[p]? =some (.row e n ver rows):=by
 unfold getRow at g;split at g
 ·rename_i e' n' v' rows' hh;split at g
  ·rename_i hv;subst hv;cases g;exact hh
  ·cases g
 ·cases g
theorem Fits.row{C:Ctx}{B:Nat}{S:Addr→Prop}{μ:Map}{h:Heap}{w:World}(f:Fits C B S μ h w){p ver:Nat}{e:TypeId}{n:Nat}{rows:List AVal}
  (g:getRow h p ver=some (e,n,rows)):∃m,μ[p]? =some m∧RowFits w S μ m e n ver rows:=by
 have hh:=ef g;have hlt:=(f9.1 hh).1;rw[← f.len]at hlt;exact⟨μ[p],K6 hlt,f.blk p μ[p] _ (K6 hlt) hh⟩
theorem Rep.hp_now{S:Addr→Prop}{μ:Map}{w:World}{p ver i off:Nat}{v:Value}{m:MB}(h:Rep w S μ (.hp p ver i off) v)
  (hm:μ[p]? =some m)(hv:m.ver=ver):∃b,m.blk=some b∧v=.pointer (some ⟨b,i*m.size+off,none⟩):=by
 cases h with
 |hp _ _ _ _ m1 _ h1 h2 ha h3 h4=>
  rw[hm]at h1;cases h1;exact h4 hv.symm
theorem Rep.hs_now{S:Addr→Prop}{μ:Map}{w:World}{p ver off len:Nat}{room:Bool}{v:Value}{m:MB}(h:Rep w S μ (.hs p ver off len room) v)
  (hm:μ[p]? =some m)(hv:m.ver=ver):(m.blk=none∧off=0∧len=0∧v=.slice none 0 0)∨
    ∃b,m.blk=some b∧off+len≤m.cap∧v=.slice (some ⟨b,off*m.size,none⟩) len (if room then m.cap-off else len):=by
 cases h with
 |hs _ _ _ _ _ m1 _ h1 h2 ha h3 h4=>
  rw[hm]at h1;cases h1;exact h4 hv.symm
theorem mX{S:Addr→Prop}{μ:Map}{w:World}{p ver i off b:Nat}{m:MB}(hm:μ[p]? =some m)(hv:m.ver=ver)(hb:m.blk=some b):
  Rep w S μ (.hp p ver i off) (.pointer (some ⟨b,i*m.size+off,none⟩)):=
 .hp p ver i off m _ hm (by omega) (by intro cs h;cases h) rfl fun _=>⟨b,hb,rfl⟩
def okVal:Value→Bool
 | .agg cs=>cs.toList.all fun c=>c.oneCell'
 |_=>true
def okOpd(n:Nat):Operand→Bool
 | .tmp i=>decide (i<n)
 | .const v=>okVal v
 |_=>true
theorem jF(w:World)(S:Addr→Prop)(μ:Map)(v:Value)(h:∀cs,v≠ .agg cs):Rep w S μ (ofVal1 v) v:=by
 unfold ofVal1;split
 ·exact .int _ _
 ·exact .bool _
 ·rename_i s;have:s=⟨s.data.toList.toArray⟩:=by cases s;simp
  rw[this];exact .str _
 ·exact Rep.fn _ [] [] [] [] rfl rfl (by simp) (by simp)
 ·exact .nil v h
theorem qS(v:Value)(h:v.oneCell'=true):(ofVal1 v).sto=true:=by
 unfold ofVal1;split<;>simp_all [AVal.sto]
theorem lL(w:World)(S:Addr→Prop)(μ:Map)(v:Value)(h:okVal v=true):Rep w S μ (ofVal v) v:=by
 unfold ofVal;split
 ·rename_i cs;have hc:∀c∈cs.toList,c.oneCell'=true:=O4.1 h;have:=Rep.agg (w:=w) (S:=S) (μ:=μ) (cs.toList.map ofVal1) cs.toList (by simp) (fun i c hi=>by
   simp only[M5,N3]at hi;obtain⟨u,hu,rfl⟩:=hi;exact qS u (hc u (M3 hu))) (fun i c hi=>by
   simp only[M5,N3]at hi;obtain⟨u,hu,rfl⟩:=hi;have e:cs.toList.getD i undef=u:=(by simp[List.getD,hu]);rw[e];exact jF w S μ u (qR u (hc u (M3 hu))))
  simpa using this
 ·rename_i hne;exact jF w S μ v (fun cs e=>hne cs e)
theorem eR(w:World)(S:Addr→Prop)(μ:Map):Rep w S μ undefA undef:=.nil _ (by intro cs h;cases h)
section
variable {C:Ctx} {B n:Nat} {S:Addr→Prop} {μ:Map} {h:Heap} {w:World} {t:Env} {a:Act} {ds:List Deferred}
theorem gb(f:Fits C B S μ h w)(r:REnv n w S μ t a ds)(o:Operand)(ho:okOpd n o=true):Rep w S μ (aev C.G t o) (a.eval o):=by
 cases o with
 |tmp i=>exact r.2.2 i (by simpa [okOpd]using ho)
 |const v=>exact lL w S μ v ho
 |global g=>
  simp only[aev,Act.eval];split
  ·rename_i cs hg;exact f.glob g cs hg
  ·exact .nil _ (by intro cs e;cases e)
 |func g=>exact Rep.fn _ [] [] [] [] rfl rfl (by simp) (by simp)
theorem ae{α:Type}{x:Option α}{f:α→Prop}(h:need x f):∃a,x=some a∧f a:=by
 cases x with
 |some a=>exact⟨a,rfl,h⟩
 |none=>exact h.elim
theorem OpPost.here{K:AVal→Heap→Prop}{r:AVal}{v:Value}(f:Fits C B S μ h w)(hk:K r h)(hr:Rep w S μ r v):OpPost C B S μ w K v w:=
 ⟨r,h,S,μ,hk,Step.refl _ _ _ _,f,hr⟩
theorem ie{P:Program}{T:TypeId}{k:Nat}(g:szOf P T=some k):∃i,P.info? T=some i∧i.size=k:=by
 unfold szOf at g;cases hq:P.info? T with
 |none=>simp[hq]at g
 |some i=>exact⟨i,rfl,by simpa [hq]using g⟩
theorem aa{P:Program}{T:TypeId}{d:TypeDesc}(hd:P.underlying T=some d)(w:World):(underlying T).run P w=.ok d w:=by
 simp[underlying,hd]
theorem aE{P:Program}{T:TypeId}{k:Nat}(g:szOf P T=some k)(w:World):(sizeOf T).run P w=.ok k w:=by
 obtain⟨i,h1,h2⟩:=ie g;simp[sizeOf,typeInfo,h1,h2]
theorem bR{P:Program}{T:TypeId}{b:Bool}(g:aggT P T=some b)(w:World):(isAgg T).run P w=.ok b w:=by
 unfold aggT at g;cases hq:P.underlying T with
 |none=>simp[hq]at g
 |some d=>
  simp only[hq,Q3,N2]at g;subst g;simp only[isAgg,M6,aa hq,M2];cases d<;>rfl
theorem fh{P:Program}{T:TypeId}{cs:List AVal}{r:AVal}{b o:Nat}(g:pickT P T cs=some r)
  (hc:∀(j:Nat) (c:AVal),cs[j]? =some c→∃x,w.cell? ⟨b,o+j,none⟩=some x∧c.sto=true∧Rep w S μ c x):
  ∃v,(loadVar T ⟨b,o,none⟩).run P w=.ok v w∧Rep w S μ r v:=by
 unfold pickT at g;have hadd:∀j,(⟨b,o,none⟩:Addr).add j=⟨b,o+j,none⟩:=by intro j;unfold Addr.add;split<;>simp_all
 split at g
 ·rename_i k ha hs;split at g
  ·rename_i hk;cases g;have hv:∀j,∃x,j<k→w.cell? ⟨b,o+j,none⟩=some x∧(cs.getD j default).sto=true∧Rep w S μ (cs.getD j default) x:=by
    intro j;by_cases hj:j<k
    ·obtain⟨x,h1,h2,h3⟩:=hc j (cs[j]'(by omega)) (K6 (by omega));refine⟨x,fun _=>⟨h1,?_⟩⟩;have e:cs.getD j default=cs[j]'(by omega):=(by simp[List.getD,K6 (show j<cs.length by omega)]);rw[e];exact⟨h2,h3⟩
    ·exact⟨undef,fun h=>absurd h hj⟩
   obtain⟨fv,hfv⟩:=Classical.axiomOfChoice hv;have hl:=run_loadCells (P:=P) w ⟨b,o,none⟩ k fv (fun j hj=>by rw[hadd];exact(hfv j hj).1);refine⟨.agg ((List.range k).map fv).toArray,?_,?_⟩
   ·simp only[loadVar,M6,bR ha,M2,if_true,aE hs,hl,N9]
   ·refine .agg _ _ (by simp[O3];omega) (fun i c hi=>?_) (fun i c hi=>?_)
    ·have hik:i<k:=by
      have:=(f9.1 hi).1;simp[O3]at this;omega
     have e:cs.getD i default=c:=by
      rw[N1 hik]at hi;simp[List.getD,hi]
     have:=(hfv i hik).2.1;rwa [e]at this
    ·have hik:i<k:=by
      have:=(f9.1 hi).1;simp[O3]at this;omega
     have e:cs.getD i default=c:=by
      rw[N1 hik]at hi;simp[List.getD,hi]
     have:=(hfv i hik).2.2;rw[e]at this;simpa [List.getD,hik]using this
  ·cases g
 ·rename_i k ha hs;cases cs with
  |nil=>cases g
  |cons c rest=>
   simp at g;subst g;obtain⟨x,h1,h2,h3⟩:=hc 0 c rfl;refine⟨x,?_,h3⟩;simp only[U9]at h1;simp only[loadVar,M6,bR ha,M2,run_load,h1,if_false,O0]
 ·cases g
theorem i5{P:Program}{T:TypeId}{cs:List AVal}{vs:List Value}{r:AVal}{o:Nat}(g:pickT P T (cs.drop o)=some r)
  (hl:vs.length=cs.length)(hs:∀(i:Nat) (c:AVal),cs[i]? =some c→c.sto=true)
  (hr:∀(i:Nat) (c:AVal),cs[i]? =some c→Rep w S μ c (vs.getD i undef)):
  ∃v,(part T vs.toArray o).run P w=.ok v w∧Rep w S μ r v:=by
 unfold pickT at g;split at g
 ·rename_i k ha hsz;split at g
  ·rename_i hk;cases g;simp only[O8]at hk;refine⟨.agg (vs.toArray.extract o (o+k)),by simp[part,M6,bR ha,aE hsz],?_⟩;have e:vs.toArray.extract o (o+k)=((vs.drop o).take k).toArray:=by
    simp[List.extract_toArray,List.extract_eq_take_drop]
   rw[e];refine .agg _ _ (by simp[hl]) (fun i c hi=>?_) (fun i c hi=>?_)
   ·have hik:i<k:=by
     have:=(f9.1 hi).1;simp[O3]at this;omega
    rw[N1 hik,P4]at hi;exact hs _ _ hi
   ·have hik:i<k:=by
     have:=(f9.1 hi).1;simp[O3]at this;omega
    rw[N1 hik,P4]at hi;have:=hr _ _ hi;simpa [List.getD,N1 hik,P4]using this
  ·cases g
 ·rename_i k ha hsz;have hd:∃c,cs[o]? =some c∧c=r:=by
   rw[List.head?_drop]at g;exact⟨r,g,rfl⟩
  obtain⟨c,h1,rfl⟩:=hd;have hlt:o<vs.length:=by rw[hl];exact(f9.1 h1).1
  have:=hr o c h1;refine⟨vs[o],?_,by simpa [List.getD,hlt]using this⟩;simp[part,M6,bR ha,hlt]
 ·cases g
theorem Rep.int_inv{k:IntKind}{m:Int}{v:Value}(r:Rep w S μ (.int k m) v):v=.int k m:=by cases r;rfl
theorem Rep.bool_inv{q:Bool}{v:Value}(r:Rep w S μ (.bool q) v):v=.bool q:=by cases r;rfl
theorem Rep.str_inv{s:List UInt8}{v:Value}(r:Rep w S μ (.str s) v):v=.string ⟨s.toArray⟩:=by cases r;rfl
theorem Rep.nil_inv{u v:Value}(r:Rep w S μ (.nil u) v):v=u:=by cases r;rfl
theorem Rep.agg_inv{cs:List AVal}{v:Value}(r:Rep w S μ (.agg cs) v):∃vs:List Value,v=.agg vs.toArray∧vs.length=cs.length∧
  (∀(i:Nat) (c:AVal),cs[i]? =some c→c.sto=true)∧(∀(i:Nat) (c:AVal),cs[i]? =some c→Rep w S μ c (vs.getD i undef)):=by
 cases r with
 |agg _ vs h1 h2 h3=>exact⟨vs,rfl,h1,h2,h3⟩
theorem Rep.tup_inv{cs:List AVal}{v:Value}(r:Rep w S μ (.tup cs) v):∃vs:List Value,v=.tuple vs.toArray∧vs.length=cs.length∧
  (∀(i:Nat) (c:AVal),cs[i]? =some c→Rep w S μ c (vs.getD i undef)):=by
 cases r with
 |tup _ vs h1 h2=>exact⟨vs,rfl,h1,h2⟩
theorem cu(l:List UInt8):(⟨l.toArray⟩:ByteArray).toList=l:=by
 simp[ByteArray.toList_eq]
end
section
variable {C:Ctx} {B n:Nat} {S:Addr→Prop} {μ:Map} {h:Heap} {w:World} {t:Env} {a:Act} {P:Program}
theorem qT{op:BinOp}{k:IntKind}{x y:Int}{r:AVal}(g:aint op k x y=some r)(hs:op≠ .shl)(hr:op≠ .shr)(T:TypeId):
  ∃z,(binOp op T (.int k x) (.int k y)).run P w=.ok z w∧Rep w S μ r z:=by
 cases op
 case shl=>exact absurd rfl hs
 case shr=>exact absurd rfl hr
 case quo=>
  simp only[aint]at g;split at g
  ·cases g
  ·rename_i hy;cases g;exact⟨.int k (k.wrap (x.tdiv y)),by simp[binOp,Op.intDiv,hy],.int _ _⟩
 case rem=>
  simp only[aint]at g;split at g
  ·cases g
  ·rename_i hy;cases g;exact⟨.int k (x.tmod y),by simp[binOp,Op.intDiv,hy],.int _ _⟩
 all_goals
  simp only[aint,N2]at g;subst g;exact⟨_,by simp only[binOp,ne_eq,not_true_eq_false,if_false,Op.intArith,Op.intBits,Op.intCmp,N9]<;>rfl,by first|exact .int _ _|exact .bool _⟩
theorem qU{op:BinOp}{x y:List UInt8}{r:AVal}(g:astr op x y=some r)(T:TypeId):
  ∃z,(binOp op T (.string ⟨x.toArray⟩) (.string ⟨y.toArray⟩)).run P w=.ok z w∧Rep w S μ r z:=by
 have hb:∀op,binOp op T (.string ⟨x.toArray⟩) (.string ⟨y.toArray⟩)=Op.stringOp op ⟨x.toArray⟩ ⟨y.toArray⟩:=by intro op;cases op<;>rfl
 rw[hb];cases op<;>simp only[astr,N2,reduceCtorEq]at g
 case add=>
  split at g
  ·rename_i hlen;cases g;refine⟨.string ⟨(x++y).toArray⟩,?_,.str _⟩;have h1:¬(((⟨x.toArray⟩:ByteArray).size+(⟨y.toArray⟩:ByteArray).size:Nat):Int)>IntKind.i64.max:=by
    simp only[ByteArray.size,X1];simp only[IntKind.max];simp only[IntKind.bits,IntKind.signed];simp;omega
   have h2:(⟨x.toArray⟩:ByteArray)++⟨y.toArray⟩=⟨(x++y).toArray⟩:=by
    apply ByteArray.ext;simp
   simp only[Op.stringOp,K4 h1,h2,N9]
  ·cases g
 all_goals
  subst g;refine⟨_,by simp only[Op.stringOp,cu,N9]<;>rfl,.bool _⟩
theorem tf{op:UnOp}{x r:AVal}{u:Value}(hx:Rep w S μ x u)(g:aun op x=some r):∃z,(Op.unary op u).run P w=.ok z w∧Rep w S μ r z:=by
 unfold aun at g;split at g
 ·cases hx;cases g;exact⟨_,rfl,.bool _⟩
 ·cases hx;cases g;exact⟨_,rfl,.int _ _⟩
 ·rename_i k m;cases hx;simp only[aint,N2]at g;subst g;exact⟨_,rfl,.int _ _⟩
 ·cases g
theorem oN{src dst:TypeId}{x r:AVal}{u:Value}(hx:Rep w S μ x u)(g:aconv P src dst x=some r):
  ∃z,(convert src dst u).run P w=.ok z w∧Rep w S μ r z:=by
 unfold aconv at g;split at g
 ·rename_i k m;cases hx;split at g
  ·rename_i d1 k2 h1 h2;cases g;refine⟨.int k2 (k2.wrap m),?_,.int _ _⟩;simp only[convert,M6,aa h1,aa h2,M2,Conv.intToInt,N9]
  ·rename_i d1 h1 h2;cases g;refine⟨.string (Utf8.encode m),?_,?_⟩
   ·simp only[convert,M6,aa h1,aa h2,M2,Conv.intToString,N9]
   ·have:Utf8.encode m=⟨(Utf8.encode m).data.toList.toArray⟩:=by simp
    rw[this];simpa using Rep.str (w:=w) (S:=S) (μ:=μ) (Utf8.encode m).data.toList
  ·cases g
 ·cases hx;split at g
  ·rename_i h1 h2;cases g;refine⟨_,?_,.str _⟩;simp only[convert,M6,aa h1,aa h2,M2,N9]
  ·cases g
 ·cases g
end
section
variable {C:Ctx} {B n:Nat} {S:Addr→Prop} {μ:Map} {h:Heap} {w:World} {t:Env} {a:Act} {P:Program}
theorem ig(x y:List UInt8):((⟨x.toArray⟩:ByteArray)==⟨y.toArray⟩)=(x==y):=by
 rw[beq_toListBytes,cu,cu]
theorem jG{x y:AVal}{u v:Value}{q:Bool}(hx:Rep w S μ x u)(hy:Rep w S μ y v)(T:TypeId)(d:Nat)(g:aeq1 (kindT P T) x y=some q):
  (Op.equalIn (d+1) T u v).run P w=.ok q w:=by
 generalize heq:kindT P T=kd at g;unfold aeq1 at g;split at g
 ·rename_i k1 a1 k2 b1;obtain rfl:=hx.int_inv;obtain rfl:=hy.int_inv;unfold kindT at heq;split at heq<;>first| (cases heq;done)|skip
  rename_i kk hT;split at g
  ·rename_i hk;subst hk;cases g;simp[Op.equalIn,aa hT]
  ·cases g
 ·rename_i a1 b1;obtain rfl:=hx.bool_inv;obtain rfl:=hy.bool_inv;unfold kindT at heq;split at heq<;>first| (cases heq;done)|skip
  rename_i hT;cases g;simp[Op.equalIn,aa hT]
 ·rename_i a1 b1;obtain rfl:=hx.str_inv;obtain rfl:=hy.str_inv;unfold kindT at heq;split at heq<;>first| (cases heq;done)|skip
  rename_i hT;cases g;simp[Op.equalIn,aa hT,ig]
 ·cases g
theorem kW(d:Nat){xs ys:List AVal}{us vs:List Value}(hl:us.length=xs.length)(hl':vs.length=ys.length)
  (hx:∀(i:Nat) (c:AVal),xs[i]? =some c→Rep w S μ c (us.getD i undef))(hy:∀(i:Nat) (c:AVal),ys[i]? =some c→Rep w S μ c (vs.getD i undef)):
  ∀(fs:List Field) (i:Nat) (q:Bool),(fs.zipIdx i).all (fun(f,i)=>f.name != "_" && f.offset==i&&aggT P f.type==some false)=true→
   aeqL (fs.map fun f=>kindT P f.type) (xs.drop i) (ys.drop i)=some q→
   (Op.eqFields (d+1) us.toArray vs.toArray fs).run P w=.ok q w:=by
 intro fs;induction fs with
 |nil=>
  intro i q _ g;simp only[R1]at g;unfold aeqL at g;split at g
  ·cases g;rfl
  ·rename_i h1 _ _;cases h1
  ·cases g
 |cons f fs ih=>
  intro i q hall g;simp only[List.zipIdx_cons,Z0,K5]at hall;obtain⟨⟨⟨h1,h2⟩,h3⟩,hrest⟩:=hall;simp only[N4]at g;cases hxs:xs.drop i with
  |nil=>rw[hxs]at g;simp[aeqL]at g
  |cons x xr=>
   cases hys:ys.drop i with
   |nil=>rw[hxs,hys]at g;simp[aeqL]at g
   |cons y yr=>
    rw[hxs,hys]at g;simp only[aeqL]at g;have ex:xs[i]? =some x:=(by have:=N5 List.head? hxs;simpa [List.head?_drop]using this);have ey:ys[i]? =some y:=(by have:=N5 List.head? hys;simpa [List.head?_drop]using this);have dx:xs.drop (i+1)=xr:=(by rw[← V3,hxs];rfl);have dy:ys.drop (i+1)=yr:=(by rw[← V3,hys];rfl);split at g
    ·rename_i q1 hq1;simp only[N3]at g;obtain⟨q2,g2,rfl⟩:=g;have hagg:aggT P f.type=some false:=(by simpa using h3);have hoff:f.offset=i:=(by simpa using h2);have hname:f.name≠ "_" :=(by simpa using h1);have lx:i<us.length:=(by rw[hl];exact(f9.1 ex).1);have ly:i<vs.length:=(by rw[hl'];exact(f9.1 ey).1);have px:(part f.type us.toArray f.offset).run P w=.ok us[i] w:=(by simp[part,M6,bR hagg,hoff,lx]);have py:(part f.type vs.toArray f.offset).run P w=.ok vs[i] w:=(by simp[part,M6,bR hagg,hoff,ly]);have rx:=hx i x ex;have ry:=hy i y ey;simp only[List.getD,K6 lx,K6 ly,Q0]at rx ry;have he:=jG rx ry f.type d hq1;simp only[Op.eqFields,hname,ne_eq,not_false_eq_true,if_true,M6,px,py,he,M2];cases q1
     ·simp
     ·simp only[za1,O0,if_false,S3];exact ih (i+1) q2 hrest (by rw[dx,dy];exact g2)
    ·cases g
theorem fU{T:TypeId}{ks:List Nat}{xs ys:List AVal}{us vs:List Value}{q:Bool}(hp:plainT P T=some ks)(hl:us.length=xs.length)(hl':vs.length=ys.length)
  (hx:∀(i:Nat) (c:AVal),xs[i]? =some c→Rep w S μ c (us.getD i undef))(hy:∀(i:Nat) (c:AVal),ys[i]? =some c→Rep w S μ c (vs.getD i undef))
  (g:aeqL ks xs ys=some q):
  (Op.equalIn 10000 T (.agg us.toArray) (.agg vs.toArray)).run P w=.ok q w∧P.eqGuardType P.depth T=false:=by
 unfold plainT at hp;split at hp
 ·rename_i fs hT;split at hp
  ·rename_i hc;cases hp;simp only[K5,O6]at hc;obtain⟨⟨hc1,hc2⟩,hc3⟩:=hc;have hf:P.fieldsOf T=fs:=(by simp[Program.fieldsOf,hT]);rw[run_equalIn_struct w 9999 T _ _ (by rw[hf];exact hT) hc1,hf];exact⟨kW 9998 hl hl' hx hy fs.toList 0 q hc3 g,hc2⟩
  ·cases hp
 ·cases hp
theorem ii(f:Fits C B S μ h w){x:AVal}{u v:Value}{q:Bool}(hx:Rep w S μ x u){T:TypeId}(hk:nilKind P T v=true)(g:aeqNil h x v=some q)(d:Nat):
  (Op.equalIn (d+1) T u v).run P w=.ok q w∧(v=.nilIface→u≠ .nilIface)∧(∀a,u≠ .agg a)∧(∀s,u≠ .string s)∧(∀k i,u≠ .int k i)∧(∀b,u≠ .bool b):=by
 unfold aeqNil at g;split at g
 ·rename_i p ver i off;cases hg:getRow h p ver with
  |none=>rw[hg]at g;cases g
  |some x=>
   rw[hg]at g;cases g;obtain⟨e,k,rows⟩:=x;obtain⟨m,hm,hrow⟩:=f.row hg;obtain⟨b,_,rfl⟩:=hx.hp_now hm hrow.hver;cases hT:P.underlying T with
   |none=>simp[nilKind,hT]at hk
   |some dd=>
    cases dd<;>simp[nilKind,hT]at hk
    exact⟨by simp[Op.equalIn,aa hT],by simp⟩
 ·cases g;cases hx;cases hT:P.underlying T with
  |none=>simp[nilKind,hT]at hk
  |some dd=>
   cases dd<;>simp[nilKind,hT]at hk
   exact⟨by simp[Op.equalIn,aa hT],by simp⟩
 ·cases g;cases hx;cases hT:P.underlying T with
  |none=>simp[nilKind,hT]at hk
  |some dd=>
   cases dd<;>simp[nilKind,hT]at hk
   exact⟨by simp[Op.equalIn,aa hT],by simp⟩
 ·cases g;cases hx;cases hT:P.underlying T with
  |none=>simp[nilKind,hT]at hk
  |some dd=>
   cases dd<;>simp[nilKind,hT]at hk
   exact⟨by simp[Op.equalIn,aa hT],by simp⟩
 ·cases g;cases hx;cases hT:P.underlying T with
  |none=>simp[nilKind,hT]at hk
  |some dd=>
   cases dd<;>simp[nilKind,hT]at hk
   exact⟨by simp[Op.equalIn,aa hT],by simp⟩
 ·cases g;cases hx;cases hT:P.underlying T with
  |none=>simp[nilKind,hT]at hk
  |some dd=>
   cases dd<;>simp[nilKind,hT]at hk
   exact⟨by simp[Op.equalIn,aa hT],by simp⟩
 ·rename_i p ver off len room _ _;cases hg:getRow h p ver with
  |none=>rw[hg]at g;cases g
  |some x=>
   rw[hg]at g;cases g;obtain⟨e,k,rows⟩:=x;obtain⟨m,hm,hrow⟩:=f.row hg;rcases hx.hs_now hm hrow.hver with⟨_,_,h0,_⟩| ⟨b,_,_,rfl⟩
   ·cases h0
   ·cases hT:P.underlying T with
    |none=>simp[nilKind,hT]at hk
    |some dd=>
     cases dd<;>simp[nilKind,hT]at hk
     exact⟨by simp[Op.equalIn,aa hT],by simp⟩
 ·cases g;obtain rfl:=hx.nil_inv;cases hT:P.underlying T with
  |none=>simp[nilKind,hT]at hk
  |some dd=>
   cases dd<;>simp[nilKind,hT]at hk
   exact⟨by simp[Op.equalIn,aa hT],by simp⟩
 ·cases g;obtain rfl:=hx.nil_inv;cases hT:P.underlying T with
  |none=>simp[nilKind,hT]at hk
  |some dd=>
   cases dd<;>simp[nilKind,hT]at hk
   exact⟨by simp[Op.equalIn,aa hT],by simp⟩
 ·cases g;obtain rfl:=hx.nil_inv;cases hT:P.underlying T with
  |none=>simp[nilKind,hT]at hk
  |some dd=>
   cases dd<;>simp[nilKind,hT]at hk
   exact⟨by simp[Op.equalIn,aa hT],by simp⟩
 ·cases g
theorem aU(op:BinOp)(T:TypeId)(x y:Operand)(u v:Value)(h1:u=.nilIface→v≠ .nilIface)(h2:∀a,u≠ .agg a):
  (eqGuard op T x y u v).run P w=.ok () w:=by
 unfold eqGuard;cases op<;>first|rfl|skip
 all_goals
  cases u<;>first|exact absurd rfl (h2 _)|rfl|skip
  cases v<;>first|exact absurd rfl (h1 rfl)|rfl
theorem cV{T:TypeId}{u v:Value}{q:Bool}(hr:(Op.equalIn 10000 T u v).run P w=.ok q w)(h3:∀s,u≠ .string s)(h4:∀k i,u≠ .int k i)
  (h5:(∀k i,v≠ .int k i)∧(∀k i,v≠ .float k i)∧(∀k i j,v≠ .complex k i j)∧(∀s,v≠ .string s)):
  (binOp .eql T u v).run P w=.ok (.bool q) w∧(binOp .neq T u v).run P w=.ok (.bool (!q)) w:=by
 have he:(Op.equal T u v).run P w=.ok q w:=hr;obtain⟨a1,a2,a3,a4⟩:=h5;constructor
 ·unfold binOp;split<;>simp_all
 ·unfold binOp;split<;>simp_all
theorem j0(w:World){tp te:TypeId}{j:TypeInfo}(a:Addr)(hp:P.underlying tp=some (.pointer te))(hte:P.info? te=some j):
  (binOp .neq tp (.pointer (some a)) (.pointer (some a))).run P w=.ok (.bool false) w:=by
 have h:∀d:Nat,(Op.equalIn (d+1) tp (.pointer (some a)) (.pointer (some a))).run P w=.ok true w:=fun d=>by
  simp[Op.equalIn,run_underlying hp,sizeOf,typeInfo,hte,run_sameAddr_same]
 simp only[binOp];simp[Op.equal,Op.maxDepth,h 9999]
theorem jm(w:World){tp te:TypeId}{j:TypeInfo}(a:Addr)(hp:P.underlying tp=some (.pointer te))(hte:P.info? te=some j):
  (binOp .eql tp (.pointer (some a)) (.pointer (some a))).run P w=.ok (.bool true) w:=by
 have h:∀d:Nat,(Op.equalIn (d+1) tp (.pointer (some a)) (.pointer (some a))).run P w=.ok true w:=fun d=>by
  simp[Op.equalIn,run_underlying hp,sizeOf,typeInfo,hte,run_sameAddr_same]
 simp only[binOp];simp[Op.equal,Op.maxDepth,h 9999]
theorem qV(f:Fits C B S μ h w){op:BinOp}{T:TypeId}{xo yo:Operand}{x y r:AVal}{u v:Value}(hx:Rep w S μ x u)(hy:Rep w S μ y v)
  (g:abin P h op T x y=some r):∃z,(do eqGuard op T xo yo u v;binOp op T u v:Sem Value).run P w=.ok z w∧Rep w S μ r z:=by
 unfold abin at g;split at g
 ·obtain rfl:=hx.int_inv;obtain rfl:=hy.int_inv;rw[M6,aU (h1:=by simp) (h2:=by simp),M2];split at g
  ·split at g
   ·cases g
   ·rename_i hb;cases g;exact⟨.int _ _,by simp[binOp,Op.shift,hb],.int _ _⟩
  ·split at g
   ·cases g
   ·rename_i hb;cases g;exact⟨.int _ _,by simp[binOp,Op.shift,hb],.int _ _⟩
  ·rename_i hs hr;split at g
   ·rename_i hk;subst hk;exact qT g hs hr T
   ·cases g
 ·obtain rfl:=hx.str_inv;obtain rfl:=hy.str_inv;rw[M6,aU (h1:=by simp) (h2:=by simp),M2];exact qU g T
 ·obtain rfl:=hx.bool_inv;obtain rfl:=hy.bool_inv;rw[M6,aU (h1:=by simp) (h2:=by simp),M2];rename_i p q;have hb:P.underlying T=some .bool→(binOp .eql T (.bool p) (.bool q)).run P w=.ok (.bool (p==q)) w∧(binOp .neq T (.bool p) (.bool q)).run P w=.ok (.bool (!(p==q))) w:=fun hT=>
   cV (run_equalIn_bool' w 9999 T p q hT) (by simp) (by simp) (by simp)
  split at g
  ·rename_i hT;cases g;exact⟨_,(hb hT).1,.bool _⟩
  ·rename_i hT;cases g;exact⟨_,(hb hT).2,.bool _⟩
  ·cases g
 ·obtain⟨us,rfl,hl,_,hr1⟩:=hx.agg_inv;obtain⟨vs,rfl,hl',_,hr2⟩:=hy.agg_inv;split at g
  ·rename_i ks hp;split at g
   ·simp only[N3]at g;obtain⟨q,hq,rfl⟩:=g;obtain⟨h1,h2⟩:=fU hp hl hl' hr1 hr2 hq;rw[M6,run_eqGuard_agg w _ _ _ _ _ _ h2,M2,run_eql_struct,h1];exact⟨_,rfl,.bool _⟩
   ·simp only[N3]at g;obtain⟨q,hq,rfl⟩:=g;obtain⟨h1,h2⟩:=fU hp hl hl' hr1 hr2 hq;rw[M6,run_eqGuard_agg w _ _ _ _ _ _ h2,M2,run_neq_struct,h1];exact⟨_,rfl,.bool _⟩
   ·cases g
  ·cases g
 ·rename_i p ver i o p' ver' i' o';split at g
  ·rename_i hk;obtain⟨rfl,rfl,rfl,rfl,hrow,hT⟩:=hk;obtain⟨⟨e,m,rows⟩,hg⟩:=M8.1 hrow;obtain⟨mb,hm,hf⟩:=f.row hg;obtain⟨b,hb,rfl⟩:=hx.hp_now hm hf.hver;obtain⟨b',hb',rfl⟩:=hy.hp_now hm hf.hver;rw[hb]at hb';cases hb';obtain⟨te,j,hp,hte⟩:∃te j,P.underlying T=some (.pointer te)∧P.info? te=some j:=by
    unfold ptrT at hT;split at hT
    ·rename_i t ht;obtain⟨j,hj⟩:=M8.1 hT;exact⟨t,j,ht,hj⟩
    ·cases hT
   rw[M6,aU (h1:=by simp) (h2:=by simp),M2];split at g
   ·cases g;exact⟨_,jm w _ hp hte,.bool _⟩
   ·cases g;exact⟨_,j0 w _ hp hte,.bool _⟩
   ·cases g
  ·cases g
 ·obtain rfl:=hy.nil_inv;split at g
  ·rename_i hk;split at g
   ·simp only[N3]at g;obtain⟨q,hq,rfl⟩:=g;obtain⟨h1,h2,h3,h4,h5,_⟩:=ii f hx hk hq 9999;rw[M6,aU (h1:=fun e e'=>h2 e' e) (h2:=h3),M2];exact⟨_,(cV h1 h4 h5 (by unfold nilKind at hk;split at hk<;>simp_all)).1,.bool _⟩
   ·simp only[N3]at g;obtain⟨q,hq,rfl⟩:=g;obtain⟨h1,h2,h3,h4,h5,_⟩:=ii f hx hk hq 9999;rw[M6,aU (h1:=fun e e'=>h2 e' e) (h2:=h3),M2];exact⟨_,(cV h1 h4 h5 (by unfold nilKind at hk;split at hk<;>simp_all)).2,.bool _⟩
   ·cases g
  ·cases g
 ·cases g
theorem qW(f:Fits C B S μ h w){op:BinOp}{T:TypeId}{xo yo:Operand}{x y:AVal}{u v:Value}(hx:Rep w S μ x u)(hy:Rep w S μ y v){k:AVal→Prop}
  (g:binK P h op T x y k):∃r z,k r∧(do eqGuard op T xo yo u v;binOp op T u v:Sem Value).run P w=.ok z w∧Rep w S μ r z:=by
 unfold binK at g;split at g
 ·rename_i n;obtain rfl:=hy.nil_inv;split at g
  case isFalse=>exact g.elim
  rename_i hk;obtain⟨ad,cap,rfl⟩:∃ad cap,u=.slice ad 0 cap:=by
   generalize hq:AVal.sl n []=q at hx;cases hx with
   |sl0 n a cap=>exact⟨_,_,rfl⟩
   |sl n es b o cap vs h1=>cases hq;exact absurd rfl h1
   |_=>cases hq
  obtain⟨e,hT⟩:∃e,P.underlying T=some (.slice e):=by
   unfold elmT at hk;split at hk
   ·rename_i e he;exact⟨e,he⟩
   ·cases hk
  have he:∀d,(Op.equalIn (d+1) T (.slice ad 0 cap) (.slice none 0 0)).run P w=.ok ad.isNone w:=fun d=>by
   cases ad<;>simp[Op.equalIn,aa hT]
  obtain⟨e1,e2⟩:=cV (he 9999) (by simp) (by simp) (by simp);have hgd:=aU (P:=P) (w:=w) op T xo yo (.slice ad 0 cap) (.slice none 0 0) (by simp) (by simp);split at g
  ·exact⟨_,_,g ad.isNone,by rw[M6,hgd,M2];exact e1,.bool _⟩
  ·exact⟨_,_,g (!ad.isNone),by rw[M6,hgd,M2];exact e2,.bool _⟩
  ·exact g.elim
 ·obtain⟨r,hr,hk⟩:=ae g;obtain⟨z,h1,h2⟩:=qV (xo:=xo) (yo:=yo) f hx hy hr;exact⟨r,z,hk,h1,h2⟩
end
section
variable {C:Ctx} {B n:Nat} {S:Addr→Prop} {μ:Map} {h:Heap} {w:World} {P:Program}
theorem Rep.soft1{x:AVal}{v:Value}(h:Rep w S μ x v):Rep w S μ (Av.soft1 x) v:=by
 unfold Av.soft1;split
 ·cases h;exact .sl0 1 none 0
 ·exact h
theorem th{x:AVal}(h:x.sto=true):(Av.soft1 x).sto=true:=by
 unfold Av.soft1;split
 ·rfl
 ·exact h
theorem Rep.soft{x:AVal}{v:Value}(h:Rep w S μ x v):Rep w S μ (softA x) v:=by
 cases x with
 |agg cs=>
  cases h with
  |agg _ vs h1 h2 h3=>
   refine .agg _ vs (by simpa using h1) (fun i c hi=>?_) (fun i c hi=>?_)
   ·rw[M5]at hi;obtain⟨y,hy,rfl⟩:=N3.1 hi;exact th (h2 i y hy)
   ·rw[M5]at hi;obtain⟨y,hy,rfl⟩:=N3.1 hi;exact(h3 i y hy).soft1
 |_=>exact h
def EntR(w:World)(S:Addr→Prop)(μ:Map)(e:AVal×AVal×Nat)(x:MapEntry):Prop:=Rep w S μ e.1 x.key∧Rep w S μ e.2.1 x.val∧x.born=e.2.2
inductive EntL (w:World) (S:Addr→Prop) (μ:Map):List (AVal×AVal×Nat)→List MapEntry→Prop
 |nil:EntL w S μ [] []
 |cons {e x es xs}:EntR w S μ e x→EntL w S μ es xs→EntL w S μ (e::es) (x::xs)
theorem EntL.of:∀{es:List (AVal×AVal×Nat)} {xs:List MapEntry},xs.length=es.length→(∀(i:Nat) (e:AVal×AVal×Nat),es[i]? =some e→∃x,xs[i]? =some x∧Rep w S μ e.1 x.key∧Rep w S μ e.2.1 x.val∧x.born=e.2.2)→EntL w S μ es xs
 | [],[],_,_=>.nil
 |e::es,x::xs,hl,h=>by
  refine .cons ?_ (.of (by simpa using hl) fun i e he=>h (i+1) e he);obtain⟨y,hy,r⟩:=h 0 e rfl;cases hy;exact r
 | [],_::_,hl,_=>by simp at hl
 |_::_,[],hl,_=>by simp at hl
theorem EntL.len{es:List (AVal×AVal×Nat)}{xs:List MapEntry}(g:EntL w S μ es xs):xs.length=es.length:=by
 induction g with
 |nil=>rfl
 |cons _ _ ih=>simp[ih]
theorem EntL.get{es:List (AVal×AVal×Nat)}{xs:List MapEntry}(g:EntL w S μ es xs):∀(i:Nat) (e:AVal×AVal×Nat),es[i]? =some e→∃x,xs[i]? =some x∧EntR w S μ e x:=by
 induction g with
 |nil=>intro i e h;simp at h
 |cons r _ ih=>
  intro i e h;cases i with
  |zero=>simp at h;subst h;exact⟨_,rfl,r⟩
  |succ i=>exact ih i e (by simpa using h)
theorem EntL.app{es fs:List (AVal×AVal×Nat)}{xs ys:List MapEntry}(g:EntL w S μ es xs)(k:EntL w S μ fs ys):EntL w S μ (es++fs) (xs++ys):=by
 induction g with
 |nil=>exact k
 |cons r _ ih=>exact .cons r ih
theorem EntL.modify{es:List (AVal×AVal×Nat)}{xs:List MapEntry}{f:AVal×AVal×Nat→AVal×AVal×Nat}{fx:MapEntry→MapEntry}(hf:∀e x,EntR w S μ e x→EntR w S μ (f e) (fx x))(g:EntL w S μ es xs):∀i:Nat,EntL w S μ (es.modify i f) (xs.modify i fx):=by
 induction g with
 |nil=>intro i;cases i<;>exact .nil
 |cons r g' ih=>
  intro i;cases i with
  |zero=>exact .cons (hf _ _ r) g'
  |succ i=>exact .cons r (ih i)
theorem EntL.erase{es:List (AVal×AVal×Nat)}{xs:List MapEntry}(g:EntL w S μ es xs):∀i:Nat,EntL w S μ (es.eraseIdx i) (xs.eraseIdx i):=by
 induction g with
 |nil=>intro i;cases i<;>exact .nil
 |cons r g' ih=>
  intro i;cases i with
  |zero=>exact g'
  |succ i=>exact .cons r (ih i)
theorem EntL.mono{S':Addr→Prop}{μ':Map}{w':World}{es:List (AVal×AVal×Nat)}{xs:List MapEntry}(g:EntL w S μ es xs)(st:Step B S μ w S' μ' w'):EntL w' S' μ' es xs:=by
 induction g with
 |nil=>exact .nil
 |cons r _ ih=>exact .cons ⟨r.1.mono st,r.2.1.mono st,r.2.2⟩ ih
theorem qX{p:Nat}{es:List (AVal×AVal×Nat)}{c:Nat}(g:mapAt h p=some (es,c)):h[p]? =some (.mp es c):=by
 unfold mapAt at g;split at g
 ·rename_i es' c' hh;cases g;exact hh
 ·cases g
theorem bj(f:Fits C B S μ h w){p:Nat}{v:Value}(hx:Rep w S μ (.hm p) v){es:List (AVal×AVal×Nat)}{c:Nat}(g:mapAt h p=some (es,c)):
  ∃m b cur,μ[p]? =some m∧m.ver=0∧m.blk=some b∧v=.map (some b)∧w.heap[b]? =some (.map cur c)∧EntL w S μ es cur.toList:=by
 have hh:=qX g;have hlt:=(f9.1 hh).1;rw[← f.len]at hlt;have hm:μ[p]? =some μ[p]:=K6 hlt;obtain⟨hv0,b,cur,hb,hheap,hl,he⟩:=f.blk p μ[p] _ hm hh;cases hx with
 |hm _ m _ h1 h2 h3 h4=>
  rw[hm]at h1;cases h1;obtain⟨b',hb',rfl⟩:=h4 hv0;rw[hb]at hb';cases hb';refine⟨_,b,cur,hm,hv0,hb,rfl,hheap,EntL.of (by simpa using hl) fun i e hi=>?_⟩;obtain⟨x,hx,r⟩:=he i e hi;exact⟨x,by simpa using hx,r⟩
theorem aR{T k e:TypeId}(g:mapT P T=some (k,e)):P.underlying T=some (.map k e):=by
 unfold mapT at g;split at g
 ·rename_i k' e' hh;cases g;exact hh
 ·cases g
end
section
variable {C:Ctx} {B n:Nat} {S:Addr→Prop} {μ:Map} {h:Heap} {w:World} {t:Env} {a:Act} {P:Program}
def RepO(w:World)(S:Addr→Prop)(μ:Map):Option AVal→Option Value→Prop
 |none,none=>True
 |some x,some v=>Rep w S μ x v
 |_,_=>False
theorem eS{lo:Option AVal}{lv:Option Value}{d i:Int}(r:RepO w S μ lo lv)(g:optInt lo d=some i):
  (lo=none∧lv=none∧i=d)∨∃k,lo=some (.int k i)∧lv=some (.int k i):=by
 unfold optInt at g;split at g
 ·cases lv with
  |none=>cases g;exact .inl ⟨rfl,rfl,rfl⟩
  |some v=>exact r.elim
 ·cases lv with
  |none=>exact r.elim
  |some v=>cases g;cases r;exact .inr ⟨_,rfl,rfl⟩
 ·cases g
theorem b9{k:IntKind}{i:Int}{y:Nat}(c:BoundsCode)(h0:0≤i)(h1:i≤y):(Instr.sliceBound (.int k i) y c).run P w=.ok i.toNat w:=by
 simp[Instr.sliceBound,asIntOf,h0,h1]
theorem bh(b:Bool)(len cap:Nat){lo hi:Option AVal}{lv hv:Option Value}{l r:Int}(rl:RepO w S μ lo lv)(rh:RepO w S μ hi hv)
  (gl:optInt lo 0=some l)(gh:optInt hi len=some r)(h0:0≤l)(h1:l≤r)(h2:r≤len)(h3:len≤cap):
  (Instr.sliceBounds b len cap lv hv none).run P w=.ok (l.toNat,r.toNat,cap) w:=by
 rcases eS rl gl with⟨_,rfl,rfl⟩| ⟨k,_,rfl⟩<;>rcases eS rh gh with⟨_,rfl,rfl⟩| ⟨k',_,rfl⟩
 ·simp[Instr.sliceBounds]
 ·simp[Instr.sliceBounds,b9 (P:=P) (w:=w) (k:=k') (i:=r) (y:=cap) _ (by omega) (by omega)]
 ·simp[Instr.sliceBounds,b9 (P:=P) (w:=w) (k:=k) (i:=l) (y:=len) _ (by omega) (by omega)]
 ·simp[Instr.sliceBounds,b9 (P:=P) (w:=w) (k:=k') (i:=r) (y:=cap) _ (by omega) (by omega),b9 (P:=P) (w:=w) (k:=k) (i:=l) (y:=r.toNat) _ (by omega) (by omega)]
theorem fj(b:Bool)(len cap:Nat){lo hi mx:Option AVal}{lv hv mv:Option Value}{l r:Int}{k:IntKind}(rl:RepO w S μ lo lv)(rh:RepO w S μ hi hv)
  (rm:RepO w S μ mx mv)(hmx:mx=some (.int k r))(gl:optInt lo 0=some l)(gh:optInt hi len=some r)(hhi:hi≠none)(h0:0≤l)(h1:l≤r)(h2:r≤len)(h3:len≤cap):
  (Instr.sliceBounds b len cap lv hv mv).run P w=.ok (l.toNat,r.toNat,r.toNat) w:=by
 have e1:=fun c=>b9 (P:=P) (w:=w) (k:=k) (i:=r) (y:=cap) c (by omega) (by omega)
 subst hmx;cases mv with
 |none=>exact rm.elim
 |some v=>
  cases rm;rcases eS rl gl with⟨_,rfl,rfl⟩| ⟨k1,_,rfl⟩<;>rcases eS rh gh with⟨e,rfl,_⟩| ⟨k',_,rfl⟩
  ·exact absurd e hhi
  ·simp[Instr.sliceBounds,e1,b9 (P:=P) (w:=w) (k:=k') (i:=r) (y:=r.toNat) _ (by omega) (by omega)]
  ·exact absurd e hhi
  ·simp[Instr.sliceBounds,e1,b9 (P:=P) (w:=w) (k:=k') (i:=r) (y:=r.toNat) _ (by omega) (by omega),b9 (P:=P) (w:=w) (k:=k1) (i:=l) (y:=r.toNat) _ (by omega) (by omega)]
theorem aW{T e:TypeId}(g:elmT P T=some e):P.underlying T=some (.slice e):=by
 unfold elmT at g;split at g
 ·rename_i hT;cases g;exact hT
 ·cases g
theorem er{T:TypeId}(g:strT P T=true):P.underlying T=some .string:=by
 unfold strT at g;split at g
 ·rename_i hT;exact hT
 ·cases g
theorem fH{T e:TypeId}{k:Nat}(g:arrT P T=some (k,e)):P.underlying T=some (.array k e):=by
 unfold arrT at g;split at g
 ·rename_i hT;cases g;exact hT
 ·cases g
theorem bi(b o k:Nat):(⟨b,o,none⟩:Addr).add k=⟨b,o+k,none⟩:=by unfold Addr.add;split<;>simp_all
theorem yG{m:Nat}{es:List AVal}{b o cap l r:Nat}{vs:Nat→Nat→Value}(hm':cap≤maxLen)
  (hn:∀(i:Nat) (e:AVal),es[i]? =some e→e.cells.length=m)
  (hc:∀(i:Nat) (e:AVal) (j:Nat) (c:AVal),es[i]? =some e→e.cells[j]? =some c→
    S ⟨b,o+(i*m+j),none⟩∧w.cell? ⟨b,o+(i*m+j),none⟩=some (vs i j)∧c.sto=true)
  (hr:∀(i:Nat) (e:AVal) (j:Nat) (c:AVal),es[i]? =some e→e.cells[j]? =some c→Rep w S μ c (vs i j))
  (h1:l≤r)(h2:r≤es.length)(h3:es.length≤cap):
  Rep w S μ (.sl m ((es.take r).drop l)) (.slice (if cap=l then some ⟨b,o,none⟩else some (Addr.add ⟨b,o,none⟩ (l*m))) (r-l) (cap-l)):=by
 have hlen:((es.take r).drop l).length=r-l:=by simp;omega
 by_cases hz:r=l
 ·subst hz;have e:(es.take r).drop r=[]:=X8 (by simp;omega);rw[e,X0];exact .sl0 _ _ _
 ·have hne:cap≠l:=by omega
  rw[K4 hne,bi];have hget:∀i e,((es.take r).drop l)[i]? =some e→es[l+i]? =some e:=by
   intro i e he;have hlt:=(f9.1 he).1;rw[hlen]at hlt;rw[P4,N1 (by omega)]at he;exact he
  have key:=Rep.sl (w:=w) (S:=S) (μ:=μ) m ((es.take r).drop l) b (o+l*m) (cap-l) (fun i j=>vs (l+i) j) (by intro e;have:=N5 List.length e;rw[hlen]at this;simp at this;omega)
   (by rw[hlen];omega) (by omega) (fun i e he=>hn _ _ (hget i e he)) (fun i e j c he hj=>by
    have:=hc _ _ _ _ (hget i e he) hj;have e2:o+l*m+(i*m+j)=o+((l+i)*m+j):=(by rw[R7];omega);rw[e2];exact this) (fun i e j c he hj=>hr _ _ _ _ (hget i e he) hj)
  rw[hlen]at key;exact key
theorem ng(f:Fits C B S μ h w){T:TypeId}{x r:AVal}{u:Value}{lo hi mx:Option AVal}{lv hv mv:Option Value}(hx:Rep w S μ x u)
  (rl:RepO w S μ lo lv)(rh:RepO w S μ hi hv)(rm:RepO w S μ mx mv)(g:aslice P h T x lo hi mx=some r):
  ∃z,(Instr.sliceAt T u lv hv mv).run P w=.ok z w∧Rep w S μ r z:=by
 unfold aslice at g;split at g
 ·rename_i s;obtain rfl:=hx.str_inv;split at g
  ·rename_i hc;obtain⟨hT,hmx⟩:=hc;have hT:=er hT;obtain rfl:mx=none:=by simpa using hmx
   cases mv with
   |some v=>exact rm.elim
   |none=>
   split at g
   ·rename_i l q gl gh;split at g
    ·rename_i hb;cases g;have hb3:=bh (P:=P) (w:=w) false s.length s.length rl rh gl gh hb.1 hb.2.1 hb.2.2 (M0 _);refine⟨.string ⟨((s.take q.toNat).drop l.toNat).toArray⟩,?_,.str _⟩;have hsz:(⟨s.toArray⟩:ByteArray).size=s.length:=(by simp[ByteArray.size]);have hext:(⟨s.toArray⟩:ByteArray).extract l.toNat q.toNat=⟨((s.take q.toNat).drop l.toNat).toArray⟩:=by
      apply ByteArray.ext
      simp[List.extract_eq_take_drop,List.drop_take]
     simp only[Instr.sliceAt,M6,aa hT,M2,Instr.slice,Option.isSome_none,O0,if_false,N9,hsz,hb3,hext]
    ·cases g
   ·cases g
  ·cases g
 ·rename_i m es;split at g
  ·rename_i e he hmx;obtain rfl:mx=none:=by simpa using hmx
   cases mv with
   |some v=>exact rm.elim
   |none=>
   have hT:=aW he;split at g
   ·rename_i hsz;split at g
    ·rename_i l q gl gh;split at g
     ·rename_i hb;cases g;cases hx with
      |sl0 _ ad cap=>
       have hl0:l=0:=(by have:=hb.2.1;have:=hb.2.2;have:=hb.1;simp at *;omega);have hq0:q=0:=(by have:=hb.2.1;have:=hb.2.2;have:=hb.1;simp at *;omega);have hb3:=bh (P:=P) (w:=w) true 0 cap rl rh gl gh (by omega) (by omega) (by omega) (W1 _);refine⟨_,by simp only[Instr.sliceAt,M6,aa hT,M2,Instr.slice,hb3,aE hsz,N9];rfl,?_⟩;subst hl0 hq0;simpa using Rep.sl0 (w:=w) (S:=S) (μ:=μ) m _ _
      |sl _ _ b o cap vs hne hcap hm hn hc hr=>
       have hb3:=bh (P:=P) (w:=w) true es.length cap rl rh gl gh hb.1 hb.2.1 hb.2.2 hcap;refine⟨_,by simp only[Instr.sliceAt,M6,aa hT,M2,Instr.slice,hb3,aE hsz,N9];rfl,?_⟩;have key:=yG hm hn hc hr (show l.toNat≤q.toNat by omega) (show q.toNat≤es.length by omega) hcap;simpa using key
     ·cases g
    ·cases g
   ·cases g
  ·cases g
 ·rename_i p ver off len room;split at g
  ·rename_i e e' m rows he hg;have hT:=aW he;split at g
   ·rename_i hsz;split at g
    ·rename_i l q gl gh;split at g
     ·rename_i hb;obtain⟨h0,h1,h2,h3⟩:=hb;obtain⟨mb,hm,hrow⟩:=f.row hg;have hv:=hrow.hver;have hms:=hrow.hsize;have now:=hx.hs_now hm hv;have fin:∀(room':Bool) (z:Value),z.oneCell'=true→(∀cs,z≠ .agg cs)→
        ((mb.blk=none∧off+l.toNat=0∧q.toNat-l.toNat=0∧z=.slice none 0 0)∨
         ∃b,mb.blk=some b∧off+l.toNat+(q.toNat-l.toNat)≤mb.cap∧z=.slice (some ⟨b,(off+l.toNat)*mb.size,none⟩) (q.toNat-l.toNat) (if room' then mb.cap-(off+l.toNat)else q.toNat-l.toNat))→
        Rep w S μ (.hs p ver (off+l.toNat) (q.toNat-l.toNat) room') z:=fun room' z h1 h2 h3=>
       .hs _ _ _ _ _ mb _ hm (by omega) h2 h1 (fun _=>h3)
      split at g
      ·
       split at g
       case isFalse=>cases g
       rename_i hroom;cases g;obtain rfl:mv=none:=by cases mv with|none=>rfl|some v=>exact rm.elim
       rcases now with⟨hb,rfl,rfl,rfl⟩| ⟨b,hb,hcap,rfl⟩
       ·have hq:q=0:=(by omega);have hl:l=0:=(by omega);subst hq hl;have hb3:=bh (P:=P) (w:=w) true 0 0 rl rh gl gh (by omega) (by omega) (by omega) (by omega);refine⟨.slice none 0 0,by simp[Instr.sliceAt,M6,aa hT,Instr.slice,hb3,aE hsz],?_⟩;exact fin room _ rfl (by simp) (.inl ⟨hb,rfl,rfl,rfl⟩)
       ·generalize hc:(if room then mb.cap-off else len)=cp;have hlen:len≤cp:=(by subst hc;split<;>omega);have hb3:=bh (P:=P) (w:=w) true len cp rl rh gl gh h0 h1 h2 hlen;refine⟨_,by simp only[Instr.sliceAt,M6,aa hT,M2,Instr.slice,hb3,aE hsz,N9];rfl,?_⟩;have hz:(if cp=l.toNat then(some ⟨b,off*mb.size,none⟩:Option Addr)else(some ⟨b,off*mb.size,none⟩:Option Addr).map (·.add (l.toNat*m)))=some ⟨b,(off+l.toNat)*mb.size,none⟩:=by
         split
         ·rcases h3 with h3|h3
          ·subst h3;simp
          ·omega
         ·simp only[Q3,bi,hms,R7]
        rw[hz];refine fin room _ rfl (by simp) (.inr ⟨b,hb,by omega,?_⟩);congr 1
        subst hc;cases room
        ·simp at hroom ⊢;omega
        ·simp;omega
      ·
       rename_i k3 r3;split at g
       case isFalse=>cases g
       rename_i hcond;obtain⟨rfl,hsome⟩:=hcond;cases g;have hhi:hi≠none:=(by intro e;rw[e]at hsome;cases hsome);rcases now with⟨hb,rfl,rfl,rfl⟩| ⟨b,hb,hcap,rfl⟩
       ·have hq:r3=0:=(by omega);have hl:l=0:=(by omega);subst hq hl;have hb3:=fj (P:=P) (w:=w) true 0 0 rl rh rm rfl gl gh hhi (by omega) (by omega) (by omega) (by omega);refine⟨.slice none 0 0,by simp[Instr.sliceAt,M6,aa hT,Instr.slice,hb3,aE hsz],?_⟩;exact fin false _ rfl (by simp) (.inl ⟨hb,rfl,rfl,rfl⟩)
       ·generalize hc:(if room then mb.cap-off else len)=cp;have hlen:len≤cp:=(by subst hc;split<;>omega);have hb3:=fj (P:=P) (w:=w) true len cp rl rh rm rfl gl gh hhi h0 h1 h2 hlen;refine⟨_,by simp only[Instr.sliceAt,M6,aa hT,M2,Instr.slice,hb3,aE hsz,N9];rfl,?_⟩;have hz:(if r3.toNat=l.toNat then(some ⟨b,off*mb.size,none⟩:Option Addr)else(some ⟨b,off*mb.size,none⟩:Option Addr).map (·.add (l.toNat*m)))=some ⟨b,(off+l.toNat)*mb.size,none⟩:=by
         split
         ·rcases h3 with h3|h3
          ·subst h3;simp
          ·omega
         ·simp only[Q3,bi,hms,R7]
        rw[hz];exact fin false _ rfl (by simp) (.inr ⟨b,hb,by omega,rfl⟩)
      ·cases g
     ·
      rename_i hb0;split at g
      case isFalse=>cases g
      rename_i hb;obtain⟨h0,h1,h2,h3⟩:=hb;subst h1;cases g;obtain rfl:mx=none:=by simpa using h3
      obtain rfl:mv=none:=by cases mv with|none=>rfl|some v=>exact rm.elim
      obtain⟨mb,hm,hrow⟩:=f.row hg;have now:=hx.hs_now hm hrow.hver;have hl0:l≠0:=fun e=>hb0 ⟨h0,Z4 _,h2,.inl e⟩
      rcases now with⟨hb,rfl,rfl,rfl⟩| ⟨b,hb,hcap,rfl⟩
      ·omega
      ·generalize hc:(if room then mb.cap-off else len)=cp;have hlen:len≤cp:=(by subst hc;split<;>omega);have hb3:=bh (P:=P) (w:=w) true len cp rl rh gl gh h0 (Z4 _) h2 hlen;refine⟨_,by simp only[Instr.sliceAt,M6,aa hT,M2,Instr.slice,hb3,aE hsz,N9];rfl,?_⟩;rw[X0];exact .sl0 _ _ _
    ·cases g
   ·cases g
  ·cases g
 ·cases g
theorem qY(f:Fits C B S μ h w){T:TypeId}{x:AVal}{u:Value}{k:Nat}(hx:Rep w S μ x u)(g:alen P h T x=some k)(ty:TypeId):
  (Builtin.len_ #[T] ty #[u]).run P w=.ok (.int .i64 k) w:=by
 unfold alen at g;split at g
 ·obtain rfl:=hx.str_inv;split at g
  case isFalse=>cases g
  rename_i s hT;cases g;have hsz:(⟨s.toArray⟩:ByteArray).size=s.length:=by simp[ByteArray.size]
  unfold Builtin.len_;simp[aa (er hT),goInt,hsz]
 ·split at g
  case isFalse=>cases g
  rename_i m es hT;cases g;obtain⟨e,he⟩:=M8.1 hT;cases hx with
  |sl0=>simp[Builtin.len_,aa (aW he),goInt]
  |sl=>simp[Builtin.len_,aa (aW he),goInt]
 ·rename_i p ver off len room;split at g
  case isFalse=>cases g
  rename_i hT;obtain⟨hT,hrow⟩:=hT;cases g;obtain⟨e,he⟩:=M8.1 hT;obtain⟨⟨e',m,rows⟩,hg⟩:=M8.1 hrow;obtain⟨mb,hm,hr⟩:=f.row hg;rcases hx.hs_now hm hr.hver with⟨_,_,rfl,rfl⟩| ⟨b,_,_,rfl⟩
  ·simp[Builtin.len_,aa (aW he),goInt]
  ·simp[Builtin.len_,aa (aW he),goInt]
 ·obtain rfl:=hx.nil_inv;split at g
  case isFalse=>cases g
  rename_i hT;cases g;obtain⟨e,he⟩:=M8.1 hT;simp[Builtin.len_,aa (aW he),goInt]
 ·split at g
  case isFalse=>cases g
  rename_i hT;cases g;obtain⟨e,he⟩:=M8.1 hT;cases hx;simp[Builtin.len_,aa (aW he),goInt]
 ·obtain rfl:=hx.nil_inv;split at g
  case isFalse=>cases g
  rename_i hT;cases g;unfold mapT at hT;split at hT
  ·rename_i k e hT';unfold Builtin.len_;simp[aa hT',goInt]
  ·cases hT
 ·split at g
  case isFalse=>cases g
  rename_i hT;simp only[N3]at g;obtain⟨⟨es,c⟩,g,rfl⟩:=g;obtain⟨⟨kt,et⟩,hT'⟩:=M8.1 hT;obtain⟨m,b,cur,hm,hv0,hb,rfl,hheap,E⟩:=bj f hx g;have hl:=E.len;unfold Builtin.len_;simp[aa (aR hT'),goInt,getObj,Sem.run,hheap];have h2:cur.size=es.length:=by simpa using hl
  omega
 ·cases g
end
section
variable {C:Ctx} {B n:Nat} {S:Addr→Prop} {μ:Map} {h:Heap} {w:World} {t:Env} {a:Act} {P:Program}
structure SrcRep (w:World) (S:Addr→Prop) (μ:Map) (P:Program) (n:Nat) (tx:TypeId) (v:Value) (ys:List AVal) (news:List Value):Prop where
 src:Src P n tx v ys.length news w
 lens:∀(i:Nat) (r:AVal),ys[i]? =some r→r.cells.length=n
 sto:∀(i:Nat) (r:AVal) (j:Nat) (c:AVal),ys[i]? =some r→r.cells[j]? =some c→c.sto=true
 rep:∀(i:Nat) (r:AVal) (j:Nat) (c:AVal),ys[i]? =some r→r.cells[j]? =some c→∃x,news[i*n+j]? =some x∧Rep w S μ c x
theorem j4{i j n:Nat}(h:j<n):(i*n+j)/n=i∧(i*n+j)%n=j:=by
 have hn:0<n:=by omega
 constructor
 ·rw[Nat.mul_comm,Nat.mul_add_div hn,Nat.div_eq_of_lt h];omega
 ·rw[Nat.mul_comm,Nat.mul_add_mod,Nat.mod_eq_of_lt h]
theorem du{i j n l:Nat}(hi:i<l)(hj:j<n):i*n+j<l*n:=by
 have:(i+1)*n≤l*n:=R3 _ hi;rw[R7]at this;omega
theorem ij{tx:TypeId}(hk:(∃e',P.underlying tx=some (.slice e'))∨P.underlying tx=some .string){b o m cap:Nat}{ys:List AVal}(g:Nat→Value)
  (hn:0<n)(hm:m=ys.length)
  (lens:∀(i:Nat) (r:AVal),ys[i]? =some r→r.cells.length=n)
  (hc:∀(i:Nat) (r:AVal) (j:Nat) (c:AVal),ys[i]? =some r→r.cells[j]? =some c→w.cell? ⟨b,o+(i*n+j),none⟩=some (g (i*n+j))∧c.sto=true∧Rep w S μ c (g (i*n+j))):
  SrcRep w S μ P n tx (.slice (some ⟨b,o,none⟩) m cap) ys ((List.range (ys.length*n)).map g):=by
 subst hm;have at_:∀k,k<ys.length*n→∃i r j c,ys[i]? =some r∧r.cells[j]? =some c∧k=i*n+j:=by
  intro k hk;have hi:k/n<ys.length:=(Nat.div_lt_iff_lt_mul hn).2 hk;have hj:k%n<n:=Nat.mod_lt _ hn;have hr:=K6 hi;refine⟨k/n,ys[k/n],k%n,(ys[k/n]).cells[k%n]'(by rw[lens _ _ hr];exact hj),hr,K6 _,?_⟩;rw[Nat.mul_comm];exact(Nat.div_add_mod k n).symm
 have hcell:∀j u,((List.range (ys.length*n)).map g)[j]? =some u→w.cell? ((⟨b,o,none⟩:Addr).add j)=some u:=by
  intro k u hu;have hk:k<ys.length*n:=by have:=(f9.1 hu).1;simpa using this
  obtain⟨i,r,j,c,h1,h2,rfl⟩:=at_ k hk;simp only[M5,List.getElem?_range hk,Q3,N2]at hu;rw[bi, ← hu];exact(hc i r j c h1 h2).1
 have hone:∀u∈ (List.range (ys.length*n)).map g,u.oneCell'=true:=by
  intro u hu;obtain⟨k,hk,rfl⟩:=M7.1 hu;obtain⟨i,r,j,c,h1,h2,rfl⟩:=at_ k (by simpa using hk);have:=hc i r j c h1 h2;exact this.2.2.oneCell this.2.1
 refine⟨⟨hk,fun _=>rfl,run_firstCells_some w n _ _ _ _ _ (by simp) hcell,run_firstCells_some w.drew n _ _ _ _ _ (by simp) (by simpa using hcell),by simp,hone⟩,lens,fun i r j c h1 h2=>(hc i r j c h1 h2).2.1,fun i r j c h1 h2=>?_⟩;have hlt:i*n+j<ys.length*n:=du (f9.1 h1).1 (by rw[← lens i r h1];exact(f9.1 h2).1);exact⟨g (i*n+j),by simp[List.getElem?_range hlt],(hc i r j c h1 h2).2.2⟩
theorem yH(f:Fits C B S μ h w){tx:TypeId}(hk:(∃e',P.underlying tx=some (.slice e'))∨P.underlying tx=some .string){y:AVal}{v:Value}{ys:List AVal}
  (hn:0<n)(hy:Rep w S μ y v)(g:elemsOf h n y=some ys):∃news,SrcRep w S μ P n tx v ys news:=by
 unfold elemsOf at g;split at g
 ·rename_i m es;split at g
  case isFalse=>cases g
  rename_i hm;subst hm;cases g;cases hy with
  |sl0 _ ad cap=>
   refine⟨[],⟨⟨hk,fun _=>rfl,?_,?_,by simp,by simp⟩,by simp,by simp,by simp⟩⟩
   ·cases ad with
    |none=>exact run_firstCells_none w m 0 0 cap
    |some ad=>exact run_firstCells_some w m 0 ad 0 cap [] (by simp) (by simp)
   ·cases ad with
    |none=>exact run_firstCells_none w.drew m 0 0 cap
    |some ad=>exact run_firstCells_some w.drew m 0 ad 0 cap [] (by simp) (by simp)
  |sl _ _ b o cap vs hne hcap hmx hl hc hr=>
   refine⟨_,ij hk (fun k=>vs (k/m) (k%m)) hn rfl hl fun i r j c h1 h2=>?_⟩;have hj:j<m:=(by rw[← hl i r h1];exact(f9.1 h2).1);rw[(j4 hj).1,(j4 hj).2];exact⟨(hc i r j c h1 h2).2.1,(hc i r j c h1 h2).2.2,hr i r j c h1 h2⟩
 ·rename_i p ver off len room;split at g
  case h_2=>cases g
  rename_i e m rows hg;split at g
  case isFalse=>cases g
  rename_i hc;obtain⟨rfl,hlen⟩:=hc;cases g;obtain⟨mb,hm,hrow⟩:=f.row hg;have hms:=hrow.hsize;rcases hy.hs_now hm hrow.hver with⟨hb,rfl,rfl,rfl⟩| ⟨b,hb,hcap,rfl⟩
  ·refine⟨[],⟨⟨hk,fun _=>rfl,run_firstCells_none w m 0 0 0,run_firstCells_none w.drew m 0 0 0,by simp,by simp⟩,by simp,by simp,by simp⟩⟩
  ·rcases hrow.lies with⟨hb',_⟩| ⟨b',cur,hb',hheap,hcs,hle,hmax,hcells⟩
   ·rw[hb]at hb';cases hb'
   ·rw[hb]at hb';cases hb';have hget:∀(i:Nat) (r:AVal),((rows.drop off).take len)[i]? =some r→rows[off+i]? =some r:=by
     intro i r hi;have hlt:=(f9.1 hi).1;simp only[O3,O8]at hlt;rw[N1 (by omega),P4]at hi;exact hi
    rw[hms];refine⟨_,ij hk (fun k=>cur.getD (off*m+k) undef) hn (by simp;omega) (fun i r hi=>hrow.lens _ _ (hget i r hi)) fun i r j c h1 h2=>?_⟩;obtain⟨x,hx,hrep⟩:=hcells _ _ _ _ (hget i r h1) h2;have e1:(off+i)*m+j=off*m+(i*m+j):=(by rw[R7];omega);rw[e1]at hx;have e2:cur.getD (off*m+(i*m+j)) undef=x:=(by simp[P7,hx]);rw[e2];exact⟨by simp[World.cell?,hheap,hx],hrow.sto _ _ _ _ (hget i r h1) h2,hrep⟩
 ·obtain rfl:=hy.nil_inv;cases g;exact⟨[],⟨⟨hk,fun _=>rfl,run_firstCells_none w n 0 0 0,run_firstCells_none w.drew n 0 0 0,by simp,by simp⟩,by simp,by simp,by simp⟩⟩
 ·cases g;cases hy with
  |ez ad=>exact⟨[],⟨⟨hk,fun _=>rfl,run_firstCells_some w n 0 ad 0 0 [] (by simp) (by simp),run_firstCells_some w.drew n 0 ad 0 0 [] (by simp) (by simp),by simp,by simp⟩,by simp,by simp,by simp⟩⟩
 ·obtain rfl:=hy.str_inv;split at g
  case isFalse=>cases g
  rename_i s hn1;subst hn1;cases g;have hb:byteCells ⟨s.toArray⟩=s.map fun b=>Value.int .u8 b.toNat:=by simp[byteCells]
  have hsz:(⟨s.toArray⟩:ByteArray).size=s.length:=by simp[ByteArray.size]
  have hc1:=fun w':World=>firstCells_string (P:=P) (⟨s.toArray⟩:ByteArray) w'
  rw[hsz,hb]at hc1;refine⟨s.map fun b=>Value.int .u8 b.toNat,⟨⟨hk,fun _=>?_,?_,?_,?_,?_⟩,?_,?_,?_⟩⟩
  ·simp[Builtin.lenOf,hsz]
  ·simpa using hc1 w
  ·simpa using hc1 w.drew
  ·simp
  ·intro u hu;obtain⟨_,_,rfl⟩:=M7.1 hu;rfl
  ·intro i r hi;simp only[M5,N3]at hi;obtain⟨b,_,rfl⟩:=hi;rfl
  ·intro i r j c hi hj;simp only[M5,N3]at hi;obtain⟨b,_,rfl⟩:=hi
   match j with
   |0=>simp[AVal.cells]at hj;subst hj;rfl
   |j+1=>simp[AVal.cells]at hj
  ·intro i r j c hi hj;simp only[M5,N3]at hi;obtain⟨b,hb,rfl⟩:=hi
   match j with
   |0=>simp[AVal.cells]at hj;subst hj;exact⟨.int .u8 b.toNat,by simp[hb],.int _ _⟩
   |j+1=>simp[AVal.cells]at hj
 ·cases g
end
section
variable {C:Ctx} {B n:Nat} {S:Addr→Prop} {μ:Map} {h:Heap} {w:World} {t:Env} {a:Act} {P:Program}
theorem cw(w:World)(o:Obj):(w.alloc o).heap[w.heap.size]? =some o:=by
 show(w.heap.push o)[w.heap.size]? =some o;simp
theorem Fits.drew(f:Fits C B S μ h w):Fits C B S μ h w.drew∧Step B S μ w S μ w.drew:=by
 have st:Step B S μ w S μ w.drew:=⟨fun _ ha=>ha,fun _ _=>rfl,(V4 _ _).drew,MapLe.refl _,fun _ ha=>.inl ha⟩
 exact⟨⟨fun g cs hg=>(f.glob g cs hg).mono st,f.len,f.sep,f.own,f.base,f.lie,fun p m k h1 h2=>(f.blk p m k h1 h2).mono st fun _ _=>rfl⟩,st⟩
theorem aO{α:Type}{l:List α}{k i:Nat}{x:α}(h:(l.take k)[i]? =some x):l[i]? =some x:=by
 have hlt:=(f9.1 h).1;rw[O3]at hlt;rw[N1 (by omega)]at h;exact h
structure Flat (w:World) (S:Addr→Prop) (μ:Map) (n:Nat) (rows:List AVal) (xs:List Value):Prop where
 len:xs.length=rows.length*n
 lens:∀(i:Nat) (r:AVal),rows[i]? =some r→r.cells.length=n
 sto:∀(i:Nat) (r:AVal) (j:Nat) (c:AVal),rows[i]? =some r→r.cells[j]? =some c→c.sto=true
 rep:∀(i:Nat) (r:AVal) (j:Nat) (c:AVal),rows[i]? =some r→r.cells[j]? =some c→∃x,xs[i*n+j]? =some x∧Rep w S μ c x
theorem Flat.mono{S':Addr→Prop}{μ':Map}{w':World}{rows:List AVal}{xs:List Value}(r:Flat w S μ n rows xs)(st:Step B S μ w S' μ' w'):Flat w' S' μ' n rows xs:=
 ⟨r.len,r.lens,r.sto,fun i q j c h1 h2=>by obtain⟨x,hx,hr⟩:=r.rep i q j c h1 h2;exact⟨x,hx,hr.mono st⟩⟩
theorem Flat.nil:Flat w S μ n [] []:=⟨by simp,by simp,by simp,by simp⟩
theorem Flat.append{r1 r2:List AVal}{x1 x2:List Value}(a:Flat w S μ n r1 x1)(b:Flat w S μ n r2 x2):Flat w S μ n (r1++r2) (x1++x2):=by
 have at_:∀(i:Nat) (r:AVal),(r1++r2)[i]? =some r→(r1[i]? =some r∧i<r1.length)∨(r1.length≤i∧r2[i-r1.length]? =some r):=by
  intro i r hi;by_cases hlt:i<r1.length
  ·rw[L9 hlt]at hi;exact .inl ⟨hi,hlt⟩
  ·rw[M1 (by omega)]at hi;exact .inr ⟨by omega,hi⟩
 refine⟨by simp[a.len,b.len,R7],fun i r hi=>?_,fun i r j c hi hj=>?_,fun i r j c hi hj=>?_⟩
 ·rcases at_ i r hi with⟨h1,_⟩| ⟨_,h1⟩
  ·exact a.lens _ _ h1
  ·exact b.lens _ _ h1
 ·rcases at_ i r hi with⟨h1,_⟩| ⟨_,h1⟩
  ·exact a.sto _ _ _ _ h1 hj
  ·exact b.sto _ _ _ _ h1 hj
 ·rcases at_ i r hi with⟨h1,hlt⟩| ⟨hle,h1⟩
  ·obtain⟨x,hx,hr⟩:=a.rep _ _ _ _ h1 hj;refine⟨x,?_,hr⟩;rw[L9 (f9.1 hx).1];exact hx
  ·obtain⟨x,hx,hr⟩:=b.rep _ _ _ _ h1 hj;refine⟨x,?_,hr⟩;have e:i*n+j=x1.length+((i-r1.length)*n+j):=by
    rw[a.len,Nat.sub_mul];have:r1.length*n≤i*n:=R3 _ hle;omega
   rw[e,M1 (by omega),U5];exact hx
theorem SrcRep.flat{tx:TypeId}{v:Value}{ys:List AVal}{news:List Value}(r:SrcRep w S μ P n tx v ys news):Flat w S μ n ys news:=
 ⟨r.src.newsLen,r.lens,r.sto,r.rep⟩
theorem RowFits.flat{m:MB}{e:TypeId}{ver b:Nat}{rows:List AVal}(r:RowFits w S μ m e n ver rows)(hb:m.blk=some b):
  ∃cur,w.heap[b]? =some (.cells cur e (0,0))∧cur.size=m.cap*n∧(0<m.cap∧rows.length≤m.cap)∧m.cap≤maxLen∧Flat w S μ n rows (cur.toList.take (rows.length*n)):=by
 rcases r.lies with⟨h0,_⟩| ⟨b',cur,h1,h2,h3,h4,h5,h6⟩
 ·rw[hb]at h0;cases h0
 ·rw[hb]at h1;cases h1;refine⟨cur,h2,h3,h4,h5,⟨?_,r.lens,r.sto,fun i q j c hi hj=>?_⟩⟩
  ·have:rows.length*n≤m.cap*n:=R3 _ h4.2;simp;omega
  ·obtain⟨x,hx,hr⟩:=h6 i q j c hi hj;refine⟨x,?_,hr⟩;have hlt:i*n+j<rows.length*n:=du (f9.1 hi).1 (by rw[← r.lens i q hi];exact(f9.1 hj).1);rw[N1 hlt];simpa using hx
theorem dv{m:MB}{e:TypeId}{ver b:Nat}{rows:List AVal}{xs:List Value}{cur:Array Value}(hn:0<n)(hv:m.ver=ver)(hs:m.size=n)(hb:m.blk=some b)
  (hh:w.heap[b]? =some (.cells cur e (0,0)))(hc:cur.size=m.cap*n)(hl:0<m.cap∧rows.length≤m.cap)(hm:m.cap≤maxLen)(fl:Flat w S μ n rows xs)(hx:cur.toList.take (rows.length*n)=xs):
  RowFits w S μ m e n ver rows:=by
 refine⟨hv,hs,hn,fl.lens,fl.sto,.inr ⟨b,cur,hb,hh,hc,hl,hm,fun i q j c hi hj=>?_⟩⟩;obtain⟨x,hx',hr⟩:=fl.rep i q j c hi hj;refine⟨x,?_,hr⟩;rw[← hx]at hx';have hlt:i*n+j<rows.length*n:=du (f9.1 hi).1 (by rw[← fl.lens i q hi];exact(f9.1 hj).1);rw[N1 hlt]at hx';simpa using hx'
theorem ic(w:World)(t tx ty e:TypeId)(i:TypeInfo)(ht:P.underlying t=some (.slice e))(hi:P.info? e=some i)(b sLen sCap:Nat)(x:Value)(m:Nat)(news:List Value)(hs:Src P i.size tx x m news w)
  (cur:Array Value)(hg:w.heap[b]? =some (.cells cur e (0,0)))(hroom:sLen+m≤sCap)(hfit:sLen*i.size+news.length≤cur.size):
  (Builtin.append_ #[t,tx] ty #[.slice (some ⟨b,0,none⟩) sLen sCap,x]).run P w=
   .ok (.slice (some ⟨b,0,none⟩) (sLen+m) sCap) (w.setRow b (cur.toList.take (sLen*i.size)++news++cur.toList.drop (sLen*i.size+news.length)).toArray):=by
 have hst:=run_storeCells_at P b (sLen*i.size) e news 0 cur w hg (by simpa using hfit) hs.one;simp only[U9]at hst;rcases hs.kind with⟨e',hk⟩|hk<;>simp[Builtin.append_,run_underlying ht,run_underlying hk,sizeOf,typeInfo,hi,hs.len,hroom,hs.cells,Addr.add_lit,hst]
theorem ew(w:World)(t tx ty e:TypeId)(i:TypeInfo)(ht:P.underlying t=some (.slice e))(hi:P.info? e=some i)(x:Value)(news:List Value)(hs:Src P i.size tx x 0 news w):
  (Builtin.append_ #[t,tx] ty #[.slice none 0 0,x]).run P w=.ok (.slice none 0 0) w:=by
 rcases hs.kind with⟨e',hk⟩|hk<;>simp[Builtin.append_,run_underlying ht,run_underlying hk,sizeOf,typeInfo,hi,hs.len,hs.cells]
theorem tj(v:Value):(ofVal v).cells.length=v.cells.size:=by
 have one:∀v:Value,(ofVal1 v).cells.length=1:=by
  intro v;unfold ofVal1;split<;>rfl
 unfold ofVal;split
 ·simp[AVal.cells,Value.cells]
 ·rename_i hne;rw[one];cases v<;>first|rfl|exact absurd rfl (hne _)
theorem tk{T:TypeId}{i:TypeInfo}{k:Nat}(hi:P.info? T=some i)(g:(zroT P T).map (fun z=>z.cells.length)=some k):∃z,i.zero=some z∧z.cells.size=k:=by
 unfold zroT at g;rw[hi]at g;cases hz:i.zero with
 |none=>simp[hz]at g
 |some z=>exact⟨z,rfl,by simpa [hz,tj]using g⟩
theorem tl{e:TypeId}{z:Value}{rows:List AVal}{xs:List Value}{cap ver:Nat}{μ':Map}(hzs:z.cells.size=n)(hn:0<n)
  (hcap:0<cap∧rows.length≤cap)(hmax:cap≤maxLen)
  (fl:Flat (w.drew.alloc (.cells (xs.toArray++Builtin.zeroCells z.cells (cap-rows.length)) e)) S μ' n rows xs):
  BlkFits (w.drew.alloc (.cells (xs.toArray++Builtin.zeroCells z.cells (cap-rows.length)) e)) S μ' ⟨some w.heap.size,ver,n,cap⟩ (.row e n ver rows):=by
 refine dv (b:=w.heap.size) hn rfl rfl rfl (cw w.drew _) ?_ hcap hmax fl ?_
 ·simp only[Array.size_append,X1,size_zeroCells,hzs,fl.len, ← R7];congr 1;omega
 ·simp only[Array.toList_append, ← fl.len];exact List.take_left
theorem cJ{T tx ty e by':TypeId}{i:TypeInfo}{z:Value}(hT:P.underlying T=some (.slice e))(hi:P.info? e=some i)(hz:i.zero=some z)(hzs:z.cells.size=n)
  (hs:i.size=n)(hby:i.bytes=by')(hn:0<n){base:Option Addr}{len cap:Nat}{olds:List AVal}{oldx:List Value}(hold:(Builtin.firstCells n len (.slice base len cap)).run P w.drew=.ok oldx.toArray w.drew)
  (fo:Flat w S μ n olds oldx)(ho:olds.length=len){v:Value}{ys:List AVal}{news:List Value}(sr:SrcRep w S μ P n tx v ys news)(hg:cap<len+ys.length)(hroom:roomy (len+ys.length) by')(ver:Nat):
  ∃w' cp,(Builtin.append_ #[T,tx] ty #[.slice base len cap,v]).run P w=.ok (.slice (some ⟨w.heap.size,0,none⟩) (len+ys.length) cp) w'∧len+ys.length≤cp∧
   (∃o,w'=w.drew.alloc o)∧
   ∀μ',Step B S μ w S μ' w'→BlkFits w' S μ' ⟨some w.heap.size,ver,n,cp⟩ (.row e n ver (olds++ys)):=by
 subst hs;subst hby;obtain⟨h63,hbytes⟩:=hroom;have hr:=run_append_grow_src (P:=P) w T tx ty e i z hT hi hz base len cap oldx hold v ys.length news sr.src hg (by unfold maxLen at h63;omega) (growslice_fits hg hbytes);have hge:=grownCap_ge w (len+ys.length) cap e;have hcm:=grownCap_le_maxLen w (len+ys.length) cap e h63;refine⟨_,_,hr,hge,⟨_,rfl⟩,fun μ' st=>?_⟩;have hl:(olds++ys).length=len+ys.length:=by simp[ho]
 have fl:=(fo.append sr.flat).mono st;rw[← hl]at hge fl ⊢;rw[← hl]at hcm;exact tl hzs hn ⟨by omega,hge⟩ hcm fl
theorem kX(f:Fits C B S μ h w){T tx ty:TypeId}(htx:tx=T∨strT P tx=true){x y:AVal}{u v:Value}(hx:Rep w S μ x u)(hy:Rep w S μ y v){K:AVal→Heap→Prop}
  (g:wpAppend P T x y h K):∃z w',(Builtin.append_ #[T,tx] ty #[u,v]).run P w=.ok z w'∧OpPost C B S μ w K z w':=by
 unfold wpAppend at g;obtain⟨e,he,g1⟩:=ae g;clear g;obtain⟨n,hsz,g2⟩:=ae g1;clear g1;obtain⟨by',hby0,g3⟩:=ae g2;clear g2;obtain⟨ys,hys,g4⟩:=ae g3;clear g3;obtain⟨hn,hz0,g⟩:=g4;have hT:=aW he;obtain⟨i,hi,his⟩:=ie hsz;obtain⟨z,hz,hzs⟩:=tk hi hz0;have hby:i.bytes=by':=by simpa [byT,hi]using hby0
 have hk:(∃e',P.underlying tx=some (.slice e'))∨P.underlying tx=some .string:=by
  rcases htx with rfl|h1
  ·exact .inl ⟨e,hT⟩
  ·exact .inr (er h1)
 obtain⟨news,sr⟩:=yH f hk hn hy hys;split at g
 ·
  obtain rfl:=hx.nil_inv;obtain⟨hroom,hK⟩:=g;by_cases hl:ys.length=0
  ·have e0:ys=[]:=R2 hl;subst e0;have hrun:=ew w T tx ty e i hT hi v news (his▸sr.src);obtain⟨f',st⟩:=f.virtual ⟨none,0,n,0⟩ (.row e n 0 []) rfl ⟨rfl,rfl,hn,by simp,by simp,.inl ⟨rfl,rfl⟩⟩;refine⟨_,_,hrun,_,_,S,_,hK,st,f',?_⟩;exact .hs _ _ _ _ _ ⟨none,0,n,0⟩ _ (by rw[← f.len];simp) (M0 _) (by simp) rfl fun _=>.inl ⟨rfl,rfl,rfl,rfl⟩
  ·obtain⟨w',cp,hrun,hcp,⟨o,ho⟩,hfit⟩:=cJ (ty:=ty) hT hi hz hzs his hby hn (base:=none) (len:=0) (cap:=0) (olds:=[]) (oldx:=[]) (run_firstCells_none w.drew n 0 0 0) Flat.nil rfl sr (by omega) (by simpa using hroom) 0;subst ho;obtain⟨fd,sd⟩:=f.drew;have st2:=bb fd o ⟨some w.heap.size,0,n,cp⟩;have f2:=fd.alloc o ⟨some w.heap.size,0,n,cp⟩ _ rfl (hfit _ (sd.trans st2));simp only[P9,O5]at hrun hcp f2;refine⟨_,_,hrun,_,_,S,_,hK,sd.trans st2,f2,?_⟩;exact .hs _ _ _ _ _ ⟨some w.heap.size,0,n,cp⟩ _ (by rw[← f.len];simp) (M0 _) (by simp) rfl fun _=>.inr ⟨_,rfl,by simpa using hcp,by simp⟩
 ·
  rename_i p ver off len room;obtain⟨⟨e',m,rows⟩,hrow,g1⟩:=ae g;clear g;obtain⟨rfl,rfl,rfl,hroom,g⟩:=g1;obtain⟨mb,hm,hf⟩:=f.row hrow;have now:=hx.hs_now hm hf.hver;split at g
  ·
   rename_i hrm;subst hrm;obtain⟨rfl,hK⟩:=g;rcases now with⟨hb,_,hl0,rfl⟩| ⟨b,hb,hcap,rfl⟩
   ·
    have hrows:rows=[]:=R2 hl0;subst hrows;simp only[O5,M9,P9]at hK hroom;by_cases hl:ys.length=0
    ·have e0:ys=[]:=R2 hl;subst e0;have hrun:=ew w T tx ty e' i hT hi v news (his▸sr.src);obtain⟨f',st⟩:=f.update (k':=.row e' m (ver+1) []) (m':=⟨none,ver+1,m,0⟩) hm (Only.refl w _) (by simp[hf.hver]) (by simp[hf.hver]) (.inl hb.symm) ⟨rfl,rfl,hn,by simp,by simp,.inl ⟨rfl,rfl⟩⟩;refine⟨_,_,hrun,_,_,S,_,hK,st,f',?_⟩;exact .hs _ _ _ _ _ ⟨none,ver+1,m,0⟩ _ (by rw[P3 (f9.1 hm).1]) (M0 _) (by simp) rfl fun _=>.inl ⟨rfl,rfl,rfl,rfl⟩
    ·obtain⟨w',cp,hrun,hcp,⟨o,ho⟩,hfit⟩:=cJ (ty:=ty) hT hi hz hzs his hby hn (base:=none) (len:=0) (cap:=0) (olds:=[]) (oldx:=[]) (run_firstCells_none w.drew m 0 0 0) Flat.nil rfl sr (by omega) (by simpa using hroom) (ver+1);subst ho;have only:Only w (w.drew.alloc o) mb.blk:=⟨rfl,rfl,rfl,by simp,fun k hk _=>Below.heap_alloc w.drew o k hk⟩
     have st0:=bP f hm only (bq (m':=⟨some w.heap.size,ver+1,m,cp⟩) hm (by simp[hf.hver]) (by simp[hf.hver]));obtain⟨f',st⟩:=f.update (m':=⟨some w.heap.size,ver+1,m,cp⟩) hm only (by simp[hf.hver]) (by simp[hf.hver]) (.inr ⟨_,rfl,M0 _,by simp⟩) (hfit _ st0);simp only[P9,O5]at hrun hcp f';refine⟨_,_,hrun,_,_,S,_,hK,st,f',?_⟩;exact .hs _ _ _ _ _ ⟨some w.heap.size,ver+1,m,cp⟩ _ (by rw[P3 (f9.1 hm).1]) (M0 _) (by simp) rfl fun _=>.inr ⟨_,rfl,by simpa using hcp,by simp⟩
   ·
    obtain⟨cur,hheap,hcs,hle,hmax,fl⟩:=hf.flat hb;simp only[Nat.zero_mul,if_true,Nat.sub_zero]at hcap ⊢;by_cases hfit:rows.length+ys.length≤mb.cap
    ·have hlen:rows.length*m+news.length≤cur.size:=by
      rw[sr.src.newsLen,hcs, ← R7];exact R3 _ hfit
     have hrun:=ic w T tx ty e' i hT hi b rows.length mb.cap v ys.length news (his▸sr.src) cur hheap hfit (by rw[his];exact hlen);rw[his]at hrun;generalize hnew:(cur.toList.take (rows.length*m)++news++cur.toList.drop (rows.length*m+news.length)).toArray=cur' at hrun;have only:Only w (w.setRow b cur') mb.blk:=⟨rfl,rfl,rfl,by simp,fun k _ hk=>setRow_other w b k _ (fun e=>hk (by rw[hb,e]))⟩
     have hlt:=(f9.1 hm).1;have st0:=bP f hm only (bq (m':=⟨some b,ver+1,m,mb.cap⟩) hm (by simp[hf.hver]) (by simp[hf.hver]));have fl2:=(fl.append sr.flat).mono st0;have hrf:BlkFits (w.setRow b cur') S (μ.set p ⟨some b,ver+1,m,mb.cap⟩) ⟨some b,ver+1,m,mb.cap⟩ (.row e' m (ver+1) (rows++ys)):=by
      refine dv hn rfl rfl rfl (setRow_heap w b cur cur' e' _ hheap) ?_ (by simp;omega) hmax fl2 ?_
      ·subst hnew;simp only[X1,K7,O3,O8,Array.length_toList];omega
      ·subst hnew;have hl2:=fl2.len;show List.take _ (_++_++_)=_;rw[← hl2];exact List.take_left
     obtain⟨f',st⟩:=f.update hm only (by simp[hf.hver]) (by simp[hf.hver]) (.inl hb.symm) hrf;refine⟨_,_,hrun,_,_,S,_,hK,st,f',?_⟩;exact .hs _ _ _ _ _ ⟨some b,ver+1,m,mb.cap⟩ _ (by rw[P3 hlt]) (M0 _) (by simp) rfl fun _=>.inr ⟨b,rfl,by simpa using hfit,by simp⟩
    ·have hcells:∀j u,(cur.toList.take (rows.length*m))[j]? =some u→w.cell? ((⟨b,0,none⟩:Addr).add j)=some u:=by
      intro j u hu;have hlt:=(f9.1 hu).1;rw[O3]at hlt;rw[N1 (by omega)]at hu;rw[bi];simpa [World.cell?,hheap]using hu
     have hfc:=run_firstCells_some (P:=P) w.drew m rows.length ⟨b,0,none⟩ rows.length mb.cap _ fl.len (by simpa using hcells);obtain⟨w',cp,hrun,hcp,⟨o,ho⟩,hfitn⟩:=cJ (ty:=ty) hT hi hz hzs his hby hn (base:=some ⟨b,0,none⟩) (len:=rows.length) (cap:=mb.cap) hfc fl rfl sr (by omega) hroom (ver+1);subst ho;have only:Only w (w.drew.alloc o) mb.blk:=⟨rfl,rfl,rfl,by simp,fun k hk _=>Below.heap_alloc w.drew o k hk⟩
     have st0:=bP f hm only (bq (m':=⟨some w.heap.size,ver+1,m,cp⟩) hm (by simp[hf.hver]) (by simp[hf.hver]));obtain⟨f',st⟩:=f.update (m':=⟨some w.heap.size,ver+1,m,cp⟩) hm only (by simp[hf.hver]) (by simp[hf.hver]) (.inr ⟨_,rfl,M0 _,by simp⟩) (hfitn _ st0);refine⟨_,_,hrun,_,_,S,_,hK,st,f',?_⟩;exact .hs _ _ _ _ _ ⟨some w.heap.size,ver+1,m,cp⟩ _ (by rw[P3 (f9.1 hm).1]) (M0 _) (by simp) rfl fun _=>.inr ⟨_,rfl,by simpa using hcp,by simp⟩
  ·
   rename_i hrm;obtain⟨hpos,hle0,hK⟩:=g;have hrm:room=false:=(by simpa using hrm);subst hrm;rcases now with⟨hb,_,hl0,rfl⟩| ⟨b,hb,hcap,rfl⟩
   ·subst hl0;simp only[Q8,O5,P9]at hK hroom;obtain⟨w',cp,hrun,hcp,⟨o,ho⟩,hfit⟩:=cJ (ty:=ty) hT hi hz hzs his hby hn (base:=none) (len:=0) (cap:=0) (olds:=[]) (oldx:=[]) (run_firstCells_none w.drew m 0 0 0) Flat.nil rfl sr (by omega) (by simpa using hroom) 0;subst ho;obtain⟨fd,sd⟩:=f.drew;have st2:=bb fd o ⟨some w.heap.size,0,m,cp⟩;have f2:=fd.alloc o ⟨some w.heap.size,0,m,cp⟩ _ rfl (hfit _ (sd.trans st2));simp only[P9,O5]at hrun hcp f2;refine⟨_,_,hrun,_,_,S,_,hK,sd.trans st2,f2,?_⟩;exact .hs _ _ _ _ _ ⟨some w.heap.size,0,m,cp⟩ _ (by rw[← f.len];simp) (M0 _) (by simp) rfl fun _=>.inr ⟨_,rfl,by simpa using hcp,by simp⟩
   ·obtain⟨cur,hheap,hcs,hle,hmax,fl⟩:=hf.flat hb;simp only[Nat.zero_mul,O0,if_false]at hcap ⊢;have fl1:Flat w S μ m (rows.take len) (cur.toList.take (len*m)):=by
     have hlm:len*m≤rows.length*m:=R3 _ hle0;refine⟨?_,fun i r hi=>?_,fun i r j c hi hj=>?_,fun i r j c hi hj=>?_⟩
     ·have:=fl.len;simp only[O3]at this ⊢;rw[Z6 hle0];omega
     ·exact fl.lens i r (aO hi)
     ·exact fl.sto i r j c (aO hi) hj
     ·obtain⟨x,hx',hr⟩:=fl.rep i r j c (aO hi) hj;refine⟨x,?_,hr⟩;have hi':=(f9.1 hi).1;simp only[O3]at hi';have hlt:i*m+j<len*m:=du (by omega) (by rw[← fl.lens i r (aO hi)];exact(f9.1 hj).1);rw[N1 hlt];rw[N1 (by omega)]at hx';exact hx'
    have hcells:∀j u,(cur.toList.take (len*m))[j]? =some u→w.cell? ((⟨b,0,none⟩:Addr).add j)=some u:=by
     intro j u hu;have hlt:=(f9.1 hu).1;rw[O3]at hlt;rw[N1 (by omega)]at hu;rw[bi];simpa [World.cell?,hheap]using hu
    have hl1:(cur.toList.take (len*m)).length=len*m:=(by have:=fl1.len;simp only[O3]at this ⊢;rw[Z6 hle0]at this;omega);have hfc:=run_firstCells_some (P:=P) w.drew m len ⟨b,0,none⟩ len len _ hl1 (by simpa using hcells);obtain⟨w',cp,hrun,hcp,⟨o,ho⟩,hfitn⟩:=cJ (ty:=ty) hT hi hz hzs his hby hn (base:=some ⟨b,0,none⟩) (len:=len) (cap:=len) hfc fl1 (by simp;omega) sr (by omega) hroom 0;subst ho;obtain⟨fd,sd⟩:=f.drew;have st2:=bb fd o ⟨some w.heap.size,0,m,cp⟩;have f2:=fd.alloc o ⟨some w.heap.size,0,m,cp⟩ _ rfl (hfitn _ (sd.trans st2));refine⟨_,_,hrun,_,_,S,_,hK,sd.trans st2,f2,?_⟩;exact .hs _ _ _ _ _ ⟨some w.heap.size,0,m,cp⟩ _ (by rw[← f.len];simp) (M0 _) (by simp) rfl fun _=>.inr ⟨_,rfl,by simpa using hcp,by simp⟩
 ·
  generalize hq:AVal.ez=q at hx;cases hx with
  |ez ad=>
   clear hq;split at g
   ·rename_i e0;subst e0;have hrun:(Builtin.append_ #[T,tx] ty #[.slice (some ad) 0 0,v]).run P w=.ok (.slice (some ad) 0 0) w:=by
     have hl:=sr.src.newsLen;have h0:news=[]:=(by simpa using hl);subst h0;have:=sr.src;rw[his.symm]at this;have hc:(Builtin.firstCells i.size 0 v).run P w=.ok ([]:List Value).toArray w:=this.cells;have hn0:∀w',(Builtin.lenOf v).run P w'=.ok 0 w':=this.len;rcases this.kind with⟨e',hk'⟩|hk'<;>simp[Builtin.append_,run_underlying hT,run_underlying hk',sizeOf,typeInfo,hi,hn0,hc,storeCells]
    exact⟨_,_,hrun,_,_,S,_,g,Step.refl _ _ _ _,f,.ez ad⟩
   ·rename_i e0;obtain⟨hroom,hK⟩:=g;have hl:ys.length≠0:=fun h=>e0 (R2 h)
    obtain⟨w',cp,hrun,hcp,⟨o,ho⟩,hfit⟩:=cJ (ty:=ty) hT hi hz hzs his hby hn (base:=some ad) (len:=0) (cap:=0) (olds:=[]) (oldx:=[]) (run_firstCells_some w.drew n 0 ad 0 0 [] (by simp) (by simp)) Flat.nil rfl sr (by omega) (by simpa using hroom) 0;subst ho;obtain⟨fd,sd⟩:=f.drew;have st2:=bb fd o ⟨some w.heap.size,0,n,cp⟩;have f2:=fd.alloc o ⟨some w.heap.size,0,n,cp⟩ _ rfl (hfit _ (sd.trans st2));simp only[P9,O5]at hrun hcp f2;refine⟨_,_,hrun,_,_,S,_,hK,sd.trans st2,f2,?_⟩;exact .hs _ _ _ _ _ ⟨some w.heap.size,0,n,cp⟩ _ (by rw[← f.len];simp) (M0 _) (by simp) rfl fun _=>.inr ⟨_,rfl,by simpa using hcp,by simp⟩
  |_=>cases hq
 ·exact g.elim
end
end Go.Av
