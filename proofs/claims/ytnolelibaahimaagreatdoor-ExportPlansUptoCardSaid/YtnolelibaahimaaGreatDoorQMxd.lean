/- Parts. -/
import Derived.Test.YtnolelibaahimaaGreatDoorQEp31
set_option linter.unusedSimpArgs false
set_option linter.unusedVariables false
set_option linter.unusedSectionVars false
set_option linter.unnecessarySimpa false
set_option maxRecDepth 100000
set_option maxHeartbeats 16000000
namespace Go.Proofs.YtnolelibaahimaaGreatDoor.exportPlans
open Go Go.Av Go.RowKit Go.ChangeShapes Go.WideShapes Go.ChangeAt
theorem contract(H:Type)(enc:TypeId×Value→H)(W:World)(base:Nat)(args:Array Value)(ds gs:List (DataW H))(before:List MemPlace)
  (hval:∀(j:Nat) t v,Tryz.f6.params[j]? =some t→args[j]? =some v→Value.okWide Tryz.prog W .any base t v)
  (hW:DataW.Whole enc Tryz.prog Tryz.f6.params.toList Rows.exportPlansSpec.vars false W args.toList ds gs before)(hk:Rows.uptoSmall H (ds++gs)=true)(hsh:W.ShapedOpen Tryz.prog):
  Calls Tryz.prog 6 args W fun e W'=>∃v,e=.returned v∧Rows.exportPlansSpec.post enc Tryz.prog Tryz.f6 false true false false W args v W':=by
 have hW':=hW;obtain⟨p,q,hA0,hV,rfl,hfz,hnd⟩:=hW;have hA:DataW.TrodAll enc Tryz.prog W 0 (fun _=>true) true Tryz.f6.params.toList args.toList ds p:=hA0;rw[Tryz.params6]at hA hval;obtain⟨v0,vs0,d0,ds0,p0,q0,hargs,rfl,rfl,h0,r0⟩:=trodAll_cons hA;obtain⟨v1,vs1,d1,ds1,p1,q1,rfl,rfl,rfl,h1,r1⟩:=trodAll_cons r0;obtain⟨rfl,rfl,rfl⟩:=trodAll_nil r1;obtain⟨rfl,rfl⟩:=trodVars_none hV;obtain rfl:args= #[v0,v1]:=by cases args;simp_all
 obtain⟨e0,re0⟩:=o9 (hval 0 22 v0 rfl rfl) h0;obtain⟨e1,re1,be1⟩:=lF (hval 1 23 v1 rfl rfl) h1;obtain⟨m,hm⟩:=mt hsh;rw[M4]at hk;have hb:Rows.uptoBulkAll [d0,d1]≤1048576:=Q8 hk;simp only[Rows.uptoBulkAll]at hb;refine jr (C:=CT (gM m)) Tryz.func6 rfl rfl rF rG (fun t ht=>?_) rfl rfl rfl Tryz.underlying4 hW' (xm hm) (xs:=[.sl 7 (e0.map Ev.av),.sl 3 (e1.map Outl.av)]) ⟨rfl,fun i x hi=>?_⟩ (jb (gM m) (zR m) (xk m) e0 e1 (by omega) [])
 ·rw[Tryz.params6]at ht
  change t∈ [_,_]at ht
  simp only[K4,Q6,or_false,or_self]at ht;rcases ht with rfl|rfl<;>exact Q8 (by kernel_rfl)
 ·match i with
  |0=>simp at hi;subst hi;exact re0
  |1=>simp at hi;subst hi;exact re1
  |i+2=>simp at hi
def wit:Array Value:= #[.slice none 0 0,.slice none 0 0]
theorem laid_met(os:Os):laidMet Tryz.prog Rows.exportPlansRow.laid ((laidWorld os wit).forCall (fun _ _=>0) ⟨#[],wit,[]⟩).memory:=
 laidMet_of_run' 8 (by kernel_rfl) (by kernel_rfl)
theorem reads(os:Os){H:Type}(enc:TypeId×Value→H):∃places,DataW.whole enc Tryz.prog ((laidWorld os wit).forCall (fun _ _=>0) ⟨#[],wit,[]⟩).memory Tryz.f6.params.toList Rows.exportPlansSpec.vars false wit.toList 8=
  some ([.nil,.nil],[],places):=
 ⟨[],by kernel_rfl⟩
theorem qY(os:Os)(started:os.Started)(H:Type)(enc:TypeId×Value→H)(F:Stop.Interp):
  ReturnsInHanded {} Tryz.checked os 6 .any ((Rows.OpenSpec.upto Rows.exportPlansSpec).preRow enc Tryz.prog Tryz.f6 Rows.exportPlansUptoRow.domain false Rows.exportPlansUptoRow.laid) (((Rows.OpenSpec.upto Rows.exportPlansSpec).at F).post enc Tryz.prog Tryz.f6 false true false false):=by
 obtain⟨places,hx⟩:=reads os enc;refine returnsInHanded_of_row (C:=Tryz.checked) (s:=Rows.OpenSpec.upto Rows.exportPlansSpec) tZ started (by kernel_rfl) Tryz.func6
  (witness_row_at (enc:=enc) (C:=Tryz.checked) false (laidWorld os wit) wit rfl (by kernel_rfl) (by kernel_rfl) (by kernel_rfl)
   (OpenSpec.preRow_of_cond 8 hx (by kernel_rfl) (fun k hk=>by cases hk<;>kernel_rfl) (by kernel_rfl) (laid_met os))) ?_
 intro W base args ds gs before hval hW _ hcond _ _ hsh _;exact contract H enc W base args ds gs before hval hW (hcond _ rfl) hsh
theorem vk:Rows.ExportPlansUptoSaid:=
 OpenClaim.holds_of_cond 6 Tryz.f6 rfl rfl rfl rfl rfl rfl rfl ⟨rfl,rfl,rfl,rfl,rfl⟩ rfl rfl rfl rfl rfl (by as_aux_lemma=>kernel_rfl) Tryz.func6 (by as_aux_lemma=>kernel_rfl)
  (Q8 (by as_aux_lemma=>kernel_rfl)) (by as_aux_lemma=>unfold Func.isWrapper;first| (rw[I7 (by decide+kernel)];kernel_rfl)| (rw[I0 (by decide+kernel)];exact⟨rfl,rfl⟩))
  (fun os started H enc _ F=>by rw[OpenClaim.pre_eq_preRow];exact qY os started H enc F)
theorem plain(f:FuncId)(fn:Func)(hf:Tryz.pinned.checked.prog.funcNamed "newsstand/newsstandlaw24.ExportPlans" =some f)(hfn:Tryz.pinned.checked.prog.funcs[f]? =some fn):
  true=Tryz.pinned.checked.prog.looks []∧∀(j:Nat) t,fn.params[j]? =some t→Tryz.pinned.checked.prog.wantsStandIn t=false:=by
 obtain rfl:f=6:=Option.some.inj ((show Tryz.prog.funcNamed "newsstand/newsstandlaw24.ExportPlans" =some 6 by kernel_rfl).symm.trans hf)|>.symm;obtain rfl:fn=Tryz.f6:=(Option.some.inj (Tryz.func6.symm.trans hfn)).symm;refine⟨by kernel_rfl,fun j t ht=>?_⟩;rw[Tryz.params6]at ht;have hm:=S8 ht;simp only[List.mem_toArray,K4,Q6,or_false,or_self]at hm;rcases hm with rfl|rfl<;>exact(show Tryz.prog.wantsStandIn _=false by kernel_rfl)
theorem cardUpto:Rows.ExportPlansUptoCardSaid:=
 Claim7.holds_tied_plain_at .later [] _ _ _ _ vk (fun _ h=>by cases h) (by kernel_rfl) (fun _ h=>by cases h) exportPlansUpto_row_tie rfl ⟨rfl,rfl⟩ (by kernel_rfl) rfl plain (by kernel_rfl)
end Go.Proofs.YtnolelibaahimaaGreatDoor.exportPlans
