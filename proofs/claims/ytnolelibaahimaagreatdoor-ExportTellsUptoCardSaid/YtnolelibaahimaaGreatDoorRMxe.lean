/- Parts. -/
import Derived.Test.YtnolelibaahimaaGreatDoorREp31
set_option linter.unusedSimpArgs false
set_option linter.unusedVariables false
set_option linter.unusedSectionVars false
set_option linter.unnecessarySimpa false
set_option maxRecDepth 100000
set_option maxHeartbeats 16000000
namespace Go.Proofs.YtnolelibaahimaaGreatDoor.exportTells
open Go Go.Av Go.RowKit Go.ChangeShapes Go.WideShapes Go.ChangeAt
theorem contract(H:Type)(enc:TypeId×Value→H)(W:World)(base:Nat)(args:Array Value)(ds gs:List (DataW H))(before:List MemPlace)
  (hval:∀(j:Nat) t v,Tryz.f5.params[j]? =some t→args[j]? =some v→Value.okWide Tryz.prog W .any base t v)
  (hW:DataW.Whole enc Tryz.prog Tryz.f5.params.toList Rows.exportTellsSpec.vars false W args.toList ds gs before)(hk:Rows.uptoSmall H (ds++gs)=true)(hsh:W.ShapedOpen Tryz.prog):
  Calls Tryz.prog 5 args W fun e W'=>∃v,e=.returned v∧Rows.exportTellsSpec.post enc Tryz.prog Tryz.f5 false true false false W args v W':=by
 have hW':=hW;obtain⟨p,q,hA0,hV,rfl,hfz,hnd⟩:=hW;have hA:DataW.TrodAll enc Tryz.prog W 0 (fun _=>true) true Tryz.f5.params.toList args.toList ds p:=hA0;rw[Tryz.params5]at hA hval;obtain⟨v0,vs0,d0,ds0,p0,q0,hargs,rfl,rfl,h0,r0⟩:=trodAll_cons hA;obtain⟨v1,vs1,d1,ds1,p1,q1,rfl,rfl,rfl,h1,r1⟩:=trodAll_cons r0;obtain⟨v2,vs2,d2,ds2,p2,q2,rfl,rfl,rfl,h2,r2⟩:=trodAll_cons r1;obtain⟨rfl,rfl,rfl⟩:=trodAll_nil r2;obtain⟨rfl,rfl⟩:=trodVars_none hV;obtain rfl:args= #[v0,v1,v2]:=by cases args;simp_all
 obtain⟨e0,re0⟩:=pH (hval 0 22 v0 rfl rfl) h0;obtain⟨e1,re1,be1⟩:=mS (hval 1 23 v1 rfl rfl) h1;obtain⟨e2,re2,be2⟩:=p4 Tryz.underlying9 (hval 2 9 v2 rfl rfl) h2;obtain⟨m,hm⟩:=nJ hsh;rw[O1]at hk;have hb:Rows.uptoBulkAll [d0,d1,d2]≤1048576:=R8 hk;simp only[Rows.uptoBulkAll]at hb;refine jU (C:=CT (gM m)) Tryz.func5 rfl rfl tE tF (fun t ht=>?_) rfl rfl rfl Tryz.underlying4 hW' (zg hm) (xs:=[.sl 7 (e0.map Ev.av),.sl 3 (e1.map Outl.av),.str e2]) ⟨rfl,fun i x hi=>?_⟩ (jE (gM m) (BL m) (zf m) e0 e1 (by omega) e2 [])
 ·rw[Tryz.params5]at ht
  change t∈ [_,_,_]at ht
  simp only[N0,S5,or_false,or_self]at ht;rcases ht with rfl|rfl|rfl<;>exact R8 (by kernel_rfl)
 ·match i with
  |0=>simp at hi;subst hi;exact re0
  |1=>simp at hi;subst hi;exact re1
  |2=>simp at hi;subst hi;exact re2
  |i+3=>simp at hi
def wit:Array Value:= #[.slice none 0 0,.slice none 0 0,.string ⟨#[]⟩]
theorem laid_met(os:Os):laidMet Tryz.prog Rows.exportTellsRow.laid ((laidWorld os wit).forCall (fun _ _=>0) ⟨#[],wit,[]⟩).memory:=
 laidMet_of_run' 8 (by kernel_rfl) (by kernel_rfl)
theorem reads(os:Os){H:Type}(enc:TypeId×Value→H):∃places,DataW.whole enc Tryz.prog ((laidWorld os wit).forCall (fun _ _=>0) ⟨#[],wit,[]⟩).memory Tryz.f5.params.toList Rows.exportTellsSpec.vars false wit.toList 8=
  some ([.nil,.nil,.lit (.string [])],[],places):=
 ⟨[],by kernel_rfl⟩
theorem td(os:Os)(started:os.Started)(H:Type)(enc:TypeId×Value→H)(F:Stop.Interp):
  ReturnsInHanded {} Tryz.checked os 5 .any ((Rows.OpenSpec.upto Rows.exportTellsSpec).preRow enc Tryz.prog Tryz.f5 Rows.exportTellsUptoRow.domain false Rows.exportTellsUptoRow.laid) (((Rows.OpenSpec.upto Rows.exportTellsSpec).at F).post enc Tryz.prog Tryz.f5 false true false false):=by
 obtain⟨places,hx⟩:=reads os enc;refine returnsInHanded_of_row (C:=Tryz.checked) (s:=Rows.OpenSpec.upto Rows.exportTellsSpec) vK started (by kernel_rfl) Tryz.func5
  (witness_row_at (enc:=enc) (C:=Tryz.checked) false (laidWorld os wit) wit rfl (by kernel_rfl) (by kernel_rfl) (by kernel_rfl)
   (OpenSpec.preRow_of_cond 8 hx (by kernel_rfl) (fun k hk=>by cases hk<;>kernel_rfl) (by kernel_rfl) (laid_met os))) ?_
 intro W base args ds gs before hval hW _ hcond _ _ hsh _;exact contract H enc W base args ds gs before hval hW (hcond _ rfl) hsh
theorem xh:Rows.ExportTellsUptoSaid:=
 OpenClaim.holds_of_cond 5 Tryz.f5 rfl rfl rfl rfl rfl rfl rfl ⟨rfl,rfl,rfl,rfl,rfl⟩ rfl rfl rfl rfl rfl (by as_aux_lemma=>kernel_rfl) Tryz.func5 (by as_aux_lemma=>kernel_rfl)
  (R8 (by as_aux_lemma=>kernel_rfl)) (by as_aux_lemma=>unfold Func.isWrapper;first| (rw[L7 (by decide+kernel)];kernel_rfl)| (rw[K4 (by decide+kernel)];exact⟨rfl,rfl⟩))
  (fun os started H enc _ F=>by rw[OpenClaim.pre_eq_preRow];exact td os started H enc F)
theorem plain(f:FuncId)(fn:Func)(hf:Tryz.pinned.checked.prog.funcNamed "newsstand/newsstandlaw24.ExportTells" =some f)(hfn:Tryz.pinned.checked.prog.funcs[f]? =some fn):
  true=Tryz.pinned.checked.prog.looks []∧∀(j:Nat) t,fn.params[j]? =some t→Tryz.pinned.checked.prog.wantsStandIn t=false:=by
 obtain rfl:f=5:=Option.some.inj ((show Tryz.prog.funcNamed "newsstand/newsstandlaw24.ExportTells" =some 5 by kernel_rfl).symm.trans hf)|>.symm;obtain rfl:fn=Tryz.f5:=(Option.some.inj (Tryz.func5.symm.trans hfn)).symm;refine⟨by kernel_rfl,fun j t ht=>?_⟩;rw[Tryz.params5]at ht;have hm:=V5 ht;simp only[List.mem_toArray,N0,S5,or_false,or_self]at hm;rcases hm with rfl|rfl|rfl<;>exact(show Tryz.prog.wantsStandIn _=false by kernel_rfl)
theorem cardUpto:Rows.ExportTellsUptoCardSaid:=
 Claim7.holds_tied_plain_at .later [] _ _ _ _ xh (fun _ h=>by cases h) (by kernel_rfl) (fun _ h=>by cases h) exportTellsUpto_row_tie rfl ⟨rfl,rfl⟩ (by kernel_rfl) rfl plain (by kernel_rfl)
end Go.Proofs.YtnolelibaahimaaGreatDoor.exportTells
