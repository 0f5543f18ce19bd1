/- Counts are how many items belong to the queries of the same kind: for every list of events the call returns true, and its argument reads as before. -/
import Derived.Test.YtmfhelaoeaifeaaGreatMiZr
set_option linter.unusedSimpArgs false
set_option linter.unusedVariables false
set_option linter.unusedSectionVars false
set_option linter.unnecessarySimpa false
set_option maxRecDepth 100000
set_option maxHeartbeats 16000000
namespace Go.Proofs.YtmfhelaoeaifeaaGreat.countAsks
open Go Go.Av Go.RowKit Go.ChangeShapes Go.WideShapes Go.ChangeAt
theorem contract(H:Type)(enc:TypeId×Value→H)(W:World)(base:Nat)(args:Array Value)(ds gs:List (DataW H))(before:List MemPlace)
  (hval:∀(j:Nat) t v,Tryz.f3.params[j]? =some t→args[j]? =some v→Value.okWide Tryz.prog W .any base t v)
  (hW:DataW.Whole enc Tryz.prog Tryz.f3.params.toList Rows.countAsksSpec.vars false W args.toList ds gs before):
  Calls Tryz.prog 3 args W fun e W'=>∃v,e=.returned v∧Rows.countAsksSpec.post enc Tryz.prog Tryz.f3 false true false false W args v W':=by
 have hW':=hW
 obtain⟨p,q,hA0,hV,rfl,hfz,hnd⟩:=hW
 have hA:DataW.TrodAll enc Tryz.prog W 0 (fun _=>true) true Tryz.f3.params.toList args.toList ds p:=hA0
 rw[Tryz.params3]at hA hval
 obtain⟨v0,vs0,d0,ds0,p0,q0,hargs,rfl,rfl,h0,r0⟩:=trodAll_cons hA
 obtain⟨rfl,rfl,rfl⟩:=trodAll_nil r0
 obtain⟨rfl,rfl⟩:=trodVars_none hV
 obtain rfl:args= #[v0]:=by cases args;simp_all
 obtain⟨e0,re0⟩:=lC (hval 0 22 v0 rfl rfl) h0
 refine gX (C:=CT none') Tryz.func3 rfl rfl oY oZ (fun t ht=>?_) rfl rfl rfl Tryz.underlying4 hW' (fun g cs hg=>by simp only[AC,none']at hg;cases hg) (xs:=[.sl 7 (e0.map Ev.av)]) ⟨rfl,fun i x hi=>?_⟩ (jC none' e0 [])
 ·rw[Tryz.params3]at ht
  change t∈ [_]at ht
  simp only[List.mem_cons,List.mem_nil_iff,or_false,or_self]at ht
  subst ht;exact of_decide_eq_true (by kernel_rfl)
 ·match i with
  |0=>simp at hi;subst hi;exact re0
  |i+1=>simp at hi
def wit:Array Value:= #[.slice none 0 0]
noncomputable def witW(os:Os):World:=World.holding Tryz.prog os ⟨#[],wit,[]⟩
theorem laid_met(os:Os):laidMet Tryz.prog Rows.countAsksRow.laid ((witW os).forCall (fun _ _=>0) ⟨#[],wit,[]⟩).memory:=
 laidMet_of_run' 8 (by kernel_rfl) (by kernel_rfl)
theorem reads(os:Os){H:Type}(enc:TypeId×Value→H):∃places,DataW.whole enc Tryz.prog ((witW os).forCall (fun _ _=>0) ⟨#[],wit,[]⟩).memory Tryz.f3.params.toList Rows.countAsksSpec.vars false wit.toList 8=
  some ([.nil],[],places):=
 ⟨[],by kernel_rfl⟩
theorem lifted(os:Os)(started:os.Started)(H:Type)(enc:TypeId×Value→H)(F:Stop.Interp):
  ReturnsInHanded {} Tryz.checked os 3 .any ((OpenSpec.ofChange Rows.countAsksSpec).preRow enc Tryz.prog Tryz.f3 Rows.countAsksRow.domain false Rows.countAsksRow.laid) (((OpenSpec.ofChange Rows.countAsksSpec).at F).post enc Tryz.prog Tryz.f3 false true false false):=by
 obtain⟨places,hx⟩:=reads os enc
 refine returnsInHanded_of_row (C:=Tryz.checked) (s:=OpenSpec.ofChange Rows.countAsksSpec) qA started (by kernel_rfl) Tryz.func3
  (witness_row_at (enc:=enc) (C:=Tryz.checked) false (witW os) wit rfl (by kernel_rfl) (by kernel_rfl) (by kernel_rfl)
   (OpenSpec.preRow_of_cond 8 hx (by kernel_rfl) (fun k hk=>by cases hk<;>kernel_rfl) (by kernel_rfl) (laid_met os))) ?_
 intro W base args ds gs before hval hW _ _ _ _ hsh _
 exact contract H enc W base args ds gs before hval hW
theorem said:Rows.CountAsksSaid:=
 OpenClaim.holds_of_cond 3 Tryz.f3 rfl rfl rfl rfl rfl rfl rfl ⟨rfl,rfl,rfl,rfl,rfl⟩ rfl rfl rfl rfl rfl (by kernel_rfl) Tryz.func3 (by kernel_rfl)
  (of_decide_eq_true (by kernel_rfl)) (by unfold Func.isWrapper;first| (rw[if_pos (by decide+kernel)];kernel_rfl)| (rw[if_neg (by decide+kernel)];exact⟨rfl,rfl⟩))
  (fun os started H enc _ F=>by rw[OpenClaim.pre_eq_preRow];exact lifted os started H enc F)
end Go.Proofs.YtmfhelaoeaifeaaGreat.countAsks
