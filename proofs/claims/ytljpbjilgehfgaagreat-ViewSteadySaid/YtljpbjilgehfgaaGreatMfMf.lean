/- Events between pages or not, of each item that is there and belongs whenever a page is asked for is told, once: for every two lists of events, every query, number and item the call returns true, and its arguments read as before. -/
import Derived.Test.YtljpbjilgehfgaaGreatMfZh
set_option linter.unusedSimpArgs false
set_option linter.unusedVariables false
set_option linter.unusedSectionVars false
set_option linter.unnecessarySimpa false
set_option maxRecDepth 100000
set_option maxHeartbeats 16000000
set_option pp.deepTerms true
set_option pp.maxSteps 200000
namespace Go.Proofs.YtljpbjilgehfgaaGreat.viewSteady
open Go Go.Av Go.RowKit Go.ChangeShapes Go.WideShapes Go.ChangeAt
theorem contract(H:Type)(enc:TypeId×Value→H)(W:World)(base:Nat)(args:Array Value)(ds gs:List (DataW H))(before:List MemPlace)
  (hval:∀(j:Nat) t v,Tryz.f4.params[j]? =some t→args[j]? =some v→Value.okWide Tryz.prog W .any base t v)
  (hW:DataW.Whole enc Tryz.prog Tryz.f4.params.toList Rows.viewSteadySpec.vars false W args.toList ds gs before):
  Calls Tryz.prog 4 args W fun e W'=>∃v,e=.returned v∧Rows.viewSteadySpec.post enc Tryz.prog Tryz.f4 false true false false W args v W':=by
 have hW':=hW
 obtain⟨p,q,hA0,hV,rfl,hfz,hnd⟩:=hW
 have hA:DataW.TrodAll enc Tryz.prog W 0 (fun _=>true) true Tryz.f4.params.toList args.toList ds p:=hA0
 rw[Tryz.params4]at hA hval
 obtain⟨v0,vs0,d0,ds0,p0,q0,hargs,rfl,rfl,h0,r0⟩:=trodAll_cons hA
 obtain⟨v1,vs1,d1,ds1,p1,q1,rfl,rfl,rfl,h1,r1⟩:=trodAll_cons r0
 obtain⟨v2,vs2,d2,ds2,p2,q2,rfl,rfl,rfl,h2,r2⟩:=trodAll_cons r1
 obtain⟨v3,vs3,d3,ds3,p3,q3,rfl,rfl,rfl,h3,r3⟩:=trodAll_cons r2
 obtain⟨v4,vs4,d4,ds4,p4,q4,rfl,rfl,rfl,h4,r4⟩:=trodAll_cons r3
 obtain⟨rfl,rfl,rfl⟩:=trodAll_nil r4
 obtain⟨rfl,rfl⟩:=trodVars_none hV
 obtain rfl:args= #[v0,v1,v2,v3,v4]:=by cases args;simp_all
 obtain⟨e0,re0⟩:=gU (hval 0 22 v0 rfl rfl) h0
 obtain⟨e1,re1⟩:=gU (hval 1 22 v1 rfl rfl) h1
 obtain⟨e2,m2,re2⟩:=oN h2
 obtain⟨e3,re3⟩:=gW (hval 3 3 v3 rfl rfl) h3
 obtain⟨e4,re4⟩:=gW (hval 4 3 v4 rfl rfl) h4
 refine iQ (C:=CT none') Tryz.func4 rfl rfl qc qd (fun t ht=>?_) rfl rfl rfl Tryz.underlying4 hW' (fun g cs hg=>by simp only[wd,none']at hg;cases hg) (xs:=[.sl 7 (e0.map Ev.av),.sl 7 (e1.map Ev.av),e2.av,.int .i64 e3,.int .i64 e4]) ⟨rfl,fun i x hi=>?_⟩ (jR none' (fun g cs hg=>by simp only[wd,none']at hg;cases hg) e0 e1 e2 m2 e3 e4 [])
 ·rw[Tryz.params4]at ht
  change t∈ [_,_,_,_,_]at ht
  simp only[List.mem_cons,List.mem_nil_iff,or_false,or_self]at ht
  rcases ht with rfl|rfl|rfl|rfl|rfl<;>exact of_decide_eq_true (by kernel_rfl)
 ·match i with
  |0=>simp at hi;subst hi;exact re0
  |1=>simp at hi;subst hi;exact re1
  |2=>simp at hi;subst hi;exact re2
  |3=>simp at hi;subst hi;exact re3
  |4=>simp at hi;subst hi;exact re4
  |i+5=>simp at hi
def wit:Array Value:= #[.slice none 0 0,.slice none 0 0,.agg #[.int .i64 0,.int .i64 0,.string ⟨#[]⟩,.slice none 0 0],.int .i64 0,.int .i64 0]
noncomputable def witW(os:Os):World:=World.holding Tryz.prog os ⟨#[],wit,[]⟩
theorem laid_met(os:Os):laidMet Tryz.prog Rows.viewSteadyRow.laid ((witW os).forCall (fun _ _=>0) ⟨#[],wit,[]⟩).memory:=
 laidMet_of_run' 8 (by kernel_rfl) (by kernel_rfl)
theorem reads(os:Os){H:Type}(enc:TypeId×Value→H):∃places,DataW.whole enc Tryz.prog ((witW os).forCall (fun _ _=>0) ⟨#[],wit,[]⟩).memory Tryz.f4.params.toList Rows.viewSteadySpec.vars false wit.toList 8=
  some ([.nil,.nil,.agg [.lit (.int .i64 0),.lit (.int .i64 0),.lit (.string []),.nil],.lit (.int .i64 0),.lit (.int .i64 0)],[],places):=
 ⟨[],by kernel_rfl⟩
theorem lifted(os:Os)(started:os.Started)(H:Type)(enc:TypeId×Value→H)(F:Stop.Interp):
  ReturnsInHanded {} Tryz.checked os 4 .any ((OpenSpec.ofChange Rows.viewSteadySpec).preRow enc Tryz.prog Tryz.f4 Rows.viewSteadyRow.domain false Rows.viewSteadyRow.laid) (((OpenSpec.ofChange Rows.viewSteadySpec).at F).post enc Tryz.prog Tryz.f4 false true false false):=by
 obtain⟨places,hx⟩:=reads os enc
 refine returnsInHanded_of_row (C:=Tryz.checked) (s:=OpenSpec.ofChange Rows.viewSteadySpec) sA started (by kernel_rfl) Tryz.func4
  (witness_row_at (enc:=enc) (C:=Tryz.checked) false (witW os) wit rfl (by kernel_rfl) (by kernel_rfl) (by kernel_rfl)
   (OpenSpec.preRow_of_cond 8 hx (by kernel_rfl) (fun k hk=>by cases hk<;>kernel_rfl) (by kernel_rfl) (laid_met os))) ?_
 intro W base args ds gs before hval hW _ _ _ _ hsh _
 exact contract H enc W base args ds gs before hval hW
theorem said:Rows.ViewSteadySaid:=
 OpenClaim.holds_of_cond 4 Tryz.f4 rfl rfl rfl rfl rfl rfl rfl ⟨rfl,rfl,rfl,rfl,rfl⟩ rfl rfl rfl rfl rfl (by kernel_rfl) Tryz.func4 (by kernel_rfl)
  (of_decide_eq_true (by kernel_rfl)) (by unfold Func.isWrapper;first| (rw[if_pos (by decide+kernel)];kernel_rfl)| (rw[if_neg (by decide+kernel)];exact⟨rfl,rfl⟩))
  (fun os started H enc _ F=>by rw[OpenClaim.pre_eq_preRow];exact lifted os started H enc F)
end Go.Proofs.YtljpbjilgehfgaaGreat.viewSteady
