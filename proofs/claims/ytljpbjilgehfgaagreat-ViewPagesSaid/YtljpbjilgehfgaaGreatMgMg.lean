/- Page behind page tells of each item that belongs, once, in order: for every list of events, every query and number the call returns true, and its arguments read as before. -/
import Derived.Test.YtljpbjilgehfgaaGreatMgZp
set_option linter.unusedSimpArgs false
set_option linter.unusedVariables false
set_option linter.unusedSectionVars false
set_option linter.unnecessarySimpa false
set_option maxRecDepth 100000
set_option maxHeartbeats 16000000
namespace Go.Proofs.YtljpbjilgehfgaaGreat.viewPages
open Go Go.Av Go.RowKit Go.ChangeShapes Go.WideShapes Go.ChangeAt
theorem contract(H:Type)(enc:TypeId×Value→H)(W:World)(base:Nat)(args:Array Value)(ds gs:List (DataW H))(before:List MemPlace)
  (hval:∀(j:Nat) t v,Tryz.f5.params[j]? =some t→args[j]? =some v→Value.okWide Tryz.prog W .any base t v)
  (hW:DataW.Whole enc Tryz.prog Tryz.f5.params.toList Rows.viewPagesSpec.vars false W args.toList ds gs before):
  Calls Tryz.prog 5 args W fun e W'=>∃v,e=.returned v∧Rows.viewPagesSpec.post enc Tryz.prog Tryz.f5 false true false false W args v W':=by
 have hW':=hW
 obtain⟨p,q,hA0,hV,rfl,hfz,hnd⟩:=hW
 have hA:DataW.TrodAll enc Tryz.prog W 0 (fun _=>true) true Tryz.f5.params.toList args.toList ds p:=hA0
 rw[Tryz.params5]at hA hval
 obtain⟨v0,vs0,d0,ds0,p0,q0,hargs,rfl,rfl,h0,r0⟩:=trodAll_cons hA
 obtain⟨v2,vs2,d2,ds2,p2,q2,rfl,rfl,rfl,h2,r2⟩:=trodAll_cons r0
 obtain⟨v3,vs3,d3,ds3,p3,q3,rfl,rfl,rfl,h3,r3⟩:=trodAll_cons r2
 obtain⟨rfl,rfl,rfl⟩:=trodAll_nil r3
 obtain⟨rfl,rfl⟩:=trodVars_none hV
 obtain rfl:args= #[v0,v2,v3]:=by cases args;simp_all
 obtain⟨e0,re0⟩:=nk (hval 0 22 v0 rfl rfl) h0
 obtain⟨e2,m2,re2⟩:=pg h2
 obtain⟨e3,re3⟩:=nr (hval 2 3 v3 rfl rfl) h3
 refine j5 (C:=CT none') Tryz.func5 rfl rfl qI qJ (fun t ht=>?_) rfl rfl rfl Tryz.underlying4 hW' (fun g cs hg=>by simp only[xb,none']at hg;cases hg) (xs:=[.sl 7 (e0.map Ev.av),e2.av,.int .i64 e3]) ⟨rfl,fun i x hi=>?_⟩ (ll none' (fun g cs hg=>by simp only[xb,none']at hg;cases hg) e0 e2 m2 e3 [])
 ·rw[Tryz.params5]at ht
  change t∈ [_,_,_]at ht
  simp only[List.mem_cons,List.mem_nil_iff,or_false,or_self]at ht
  rcases ht with rfl|rfl|rfl<;>exact of_decide_eq_true (by kernel_rfl)
 ·match i with
  |0=>simp at hi;subst hi;exact re0
  |1=>simp at hi;subst hi;exact re2
  |2=>simp at hi;subst hi;exact re3
  |i+3=>simp at hi
def wit:Array Value:= #[.slice none 0 0,.agg #[.int .i64 0,.int .i64 0,.string ⟨#[]⟩,.slice none 0 0],.int .i64 0]
noncomputable def witW(os:Os):World:=World.holding Tryz.prog os ⟨#[],wit,[]⟩
theorem laid_met(os:Os):laidMet Tryz.prog Rows.viewPagesRow.laid ((witW os).forCall (fun _ _=>0) ⟨#[],wit,[]⟩).memory:=
 laidMet_of_run' 8 (by kernel_rfl) (by kernel_rfl)
theorem reads(os:Os){H:Type}(enc:TypeId×Value→H):∃places,DataW.whole enc Tryz.prog ((witW os).forCall (fun _ _=>0) ⟨#[],wit,[]⟩).memory Tryz.f5.params.toList Rows.viewPagesSpec.vars false wit.toList 8=
  some ([.nil,.agg [.lit (.int .i64 0),.lit (.int .i64 0),.lit (.string []),.nil],.lit (.int .i64 0)],[],places):=
 ⟨[],by kernel_rfl⟩
theorem lifted(os:Os)(started:os.Started)(H:Type)(enc:TypeId×Value→H)(F:Stop.Interp):
  ReturnsInHanded {} Tryz.checked os 5 .any ((OpenSpec.ofChange Rows.viewPagesSpec).preRow enc Tryz.prog Tryz.f5 Rows.viewPagesRow.domain false Rows.viewPagesRow.laid) (((OpenSpec.ofChange Rows.viewPagesSpec).at F).post enc Tryz.prog Tryz.f5 false true false false):=by
 obtain⟨places,hx⟩:=reads os enc
 refine returnsInHanded_of_row (C:=Tryz.checked) (s:=OpenSpec.ofChange Rows.viewPagesSpec) tt started (by kernel_rfl) Tryz.func5
  (witness_row_at (enc:=enc) (C:=Tryz.checked) false (witW os) wit rfl (by kernel_rfl) (by kernel_rfl) (by kernel_rfl)
   (OpenSpec.preRow_of_cond 8 hx (by kernel_rfl) (fun k hk=>by cases hk<;>kernel_rfl) (by kernel_rfl) (laid_met os))) ?_
 intro W base args ds gs before hval hW _ _ _ _ hsh _
 exact contract H enc W base args ds gs before hval hW
theorem said:Rows.ViewPagesSaid:=
 OpenClaim.holds_of_cond 5 Tryz.f5 rfl rfl rfl rfl rfl rfl rfl ⟨rfl,rfl,rfl,rfl,rfl⟩ rfl rfl rfl rfl rfl (by kernel_rfl) Tryz.func5 (by kernel_rfl)
  (of_decide_eq_true (by kernel_rfl)) (by unfold Func.isWrapper;first| (rw[if_pos (by decide+kernel)];kernel_rfl)| (rw[if_neg (by decide+kernel)];exact⟨rfl,rfl⟩))
  (fun os started H enc _ F=>by rw[OpenClaim.pre_eq_preRow];exact lifted os started H enc F)
end Go.Proofs.YtljpbjilgehfgaaGreat.viewPages
