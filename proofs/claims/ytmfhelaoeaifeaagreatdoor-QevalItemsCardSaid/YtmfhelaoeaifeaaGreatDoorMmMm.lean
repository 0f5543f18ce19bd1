/- Parts. -/
import Derived.Test.YtmfhelaoeaifeaaGreatDoorMmQx
set_option linter.unusedSimpArgs false
set_option linter.unusedVariables false
set_option linter.unusedSectionVars false
set_option linter.unnecessarySimpa false
set_option maxRecDepth 100000
set_option maxHeartbeats 16000000
namespace Go.Proofs.YtmfhelaoeaifeaaGreatDoor.qevalItems
open Go Go.Av Go.RowKit Go.ChangeShapes Go.WideShapes Go.ChangeAt
theorem contract(H:Type)(enc:TypeId×Value→H)(W:World)(base:Nat)(args:Array Value)(ds gs:List (DataW H))(before:List MemPlace)
  (hval:∀(j:Nat) t v,Tryz.f3.params[j]? =some t→args[j]? =some v→Value.okWide Tryz.prog W .any base t v)
  (hW:DataW.Whole enc Tryz.prog Tryz.f3.params.toList Rows.qevalItemsSpec.vars false W args.toList ds gs before)(hsh:W.ShapedOpen Tryz.prog):
  Calls Tryz.prog 3 args W fun e W'=>∃v,e=.returned v∧Rows.qevalItemsSpec.post enc Tryz.prog Tryz.f3 false true false false W args v W':=by
 have hW':=hW;obtain⟨p,q,hA0,hV,rfl,hfz,hnd⟩:=hW;have hA:DataW.TrodAll enc Tryz.prog W 0 (fun _=>true) true Tryz.f3.params.toList args.toList ds p:=hA0;rw[Tryz.params3]at hA hval;obtain⟨v0,vs0,d0,ds0,p0,q0,hargs,rfl,rfl,h0,r0⟩:=trodAll_cons hA;obtain⟨v1,vs1,d1,ds1,p1,q1,rfl,rfl,rfl,h1,r1⟩:=trodAll_cons r0;obtain⟨v2,vs2,d2,ds2,p2,q2,rfl,rfl,rfl,h2,r2⟩:=trodAll_cons r1;obtain⟨rfl,rfl,rfl⟩:=trodAll_nil r2;obtain⟨rfl,rfl⟩:=trodVars_none hV;obtain rfl:args= #[v0,v1,v2]:=by cases args;simp_all
 obtain⟨e0,re0⟩:=o0 (hval 0 22 v0 rfl rfl) h0;obtain⟨e1,m1,re1⟩:=qD h1;obtain⟨e2,re2⟩:=o6 (hval 2 3 v2 rfl rfl) h2;obtain⟨m,hm⟩:=mT hsh;refine jI (C:=CT (gM m)) Tryz.func3 rfl rfl sY sZ (fun t ht=>?_) rfl rfl rfl Tryz.underlying4 hW' (zp hm) (xs:=[.sl 7 (e0.map Ev.av),e1.av,.int .i64 e2]) ⟨rfl,fun i x hi=>?_⟩ (l8 (gM m) (C8 m) (zo m) e0 e1 m1 e2 [])
 ·rw[Tryz.params3]at ht
  change t∈ [_,_,_]at ht
  simp only[M6,V6,or_false,or_self]at ht;rcases ht with rfl|rfl|rfl<;>exact T6 (by kernel_rfl)
 ·match i with
  |0=>simp at hi;subst hi;exact re0
  |1=>simp at hi;subst hi;exact re1
  |2=>simp at hi;subst hi;exact re2
  |i+3=>simp at hi
def wit:Array Value:= #[.slice none 0 0,.agg #[.int .i64 0,.int .i64 0,.string ⟨#[]⟩,.slice none 0 0],.int .i64 0]
theorem laid_met(os:Os):laidMet Tryz.prog Rows.qevalItemsRow.laid ((laidWorld os wit).forCall (fun _ _=>0) ⟨#[],wit,[]⟩).memory:=
 laidMet_of_run' 8 (by kernel_rfl) (by kernel_rfl)
theorem reads(os:Os){H:Type}(enc:TypeId×Value→H):∃places,DataW.whole enc Tryz.prog ((laidWorld os wit).forCall (fun _ _=>0) ⟨#[],wit,[]⟩).memory Tryz.f3.params.toList Rows.qevalItemsSpec.vars false wit.toList 8=
  some ([.nil,.agg [.lit (.int .i64 0),.lit (.int .i64 0),.lit (.string []),.nil],.lit (.int .i64 0)],[],places):=
 ⟨[],by kernel_rfl⟩
theorem lifted(os:Os)(started:os.Started)(H:Type)(enc:TypeId×Value→H)(F:Stop.Interp):
  ReturnsInHanded {} Tryz.checked os 3 .any ((OpenSpec.ofChange Rows.qevalItemsSpec).preRow enc Tryz.prog Tryz.f3 Rows.qevalItemsRow.domain false Rows.qevalItemsRow.laid) (((OpenSpec.ofChange Rows.qevalItemsSpec).at F).post enc Tryz.prog Tryz.f3 false true false false):=by
 obtain⟨places,hx⟩:=reads os enc;refine returnsInHanded_of_row (C:=Tryz.checked) (s:=OpenSpec.ofChange Rows.qevalItemsSpec) vk started (by kernel_rfl) Tryz.func3
  (witness_row_at (enc:=enc) (C:=Tryz.checked) false (laidWorld os wit) wit rfl (by kernel_rfl) (by kernel_rfl) (by kernel_rfl)
   (OpenSpec.preRow_of_cond 8 hx (by kernel_rfl) (fun k hk=>by cases hk<;>kernel_rfl) (by kernel_rfl) (laid_met os))) ?_
 intro W base args ds gs before hval hW _ _ _ _ hsh _;exact contract H enc W base args ds gs before hval hW hsh
theorem said:Rows.QevalItemsSaid:=
 OpenClaim.holds_of_cond 3 Tryz.f3 rfl rfl rfl rfl rfl rfl rfl ⟨rfl,rfl,rfl,rfl,rfl⟩ rfl rfl rfl rfl rfl (by as_aux_lemma=>kernel_rfl) Tryz.func3 (by as_aux_lemma=>kernel_rfl)
  (T6 (by as_aux_lemma=>kernel_rfl)) (by as_aux_lemma=>unfold Func.isWrapper;first| (rw[M0 (by decide+kernel)];kernel_rfl)| (rw[L5 (by decide+kernel)];exact⟨rfl,rfl⟩))
  (fun os started H enc _ F=>by rw[OpenClaim.pre_eq_preRow];exact lifted os started H enc F)
theorem plain(f:FuncId)(fn:Func)(hf:Tryz.pinned.checked.prog.funcNamed "newsstand/newsstandlaw27.QevalItems" =some f)(hfn:Tryz.pinned.checked.prog.funcs[f]? =some fn):
  true=Tryz.pinned.checked.prog.looks []∧∀(j:Nat) t,fn.params[j]? =some t→Tryz.pinned.checked.prog.wantsStandIn t=false:=by
 obtain rfl:f=3:=Option.some.inj ((show Tryz.prog.funcNamed "newsstand/newsstandlaw27.QevalItems" =some 3 by kernel_rfl).symm.trans hf)|>.symm;obtain rfl:fn=Tryz.f3:=(Option.some.inj (Tryz.func3.symm.trans hfn)).symm;refine⟨by kernel_rfl,fun j t ht=>?_⟩;rw[Tryz.params3]at ht;have hm:=W9 ht;simp only[List.mem_toArray,M6,V6,or_false,or_self]at hm;rcases hm with rfl|rfl|rfl<;>exact(show Tryz.prog.wantsStandIn _=false by kernel_rfl)
theorem card:Rows.QevalItemsCardSaid:=
 Claim7.holds_tied_plain_at .later [] _ _ _ _ said (fun _ h=>by cases h) (by kernel_rfl) (fun _ h=>by cases h) qevalItems_row_tie rfl ⟨rfl,rfl⟩ (by kernel_rfl) rfl plain (by kernel_rfl)
end Go.Proofs.YtmfhelaoeaifeaaGreatDoor.qevalItems
