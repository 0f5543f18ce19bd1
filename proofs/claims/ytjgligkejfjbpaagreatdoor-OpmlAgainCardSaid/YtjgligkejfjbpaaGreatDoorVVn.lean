/- What is read of any text, written, and read again, is the same: the card, for every text. -/
import Derived.Test.YtjgligkejfjbpaaGreatDoorVHe
import Derived.Test.YtjgligkejfjbpaaGreatDoorVVh
import Derived.Test.YtjgligkejfjbpaaGreatDoorVRf
set_option linter.unusedSimpArgs false
set_option linter.unusedVariables false
namespace Go.Proofs.YtjgligkejfjbpaaGreatDoor.opmlAgain
open Go Go.Av Go.RowKit Go.ChangeShapes Go.WideShapes Go.ChangeAt
set_option maxRecDepth 100000
theorem lives {m : Int} (h : Heap) : Sat (CT (gM m)) 32 [] h (fun r h' => r = .bool true ∧ h' = h) :=
 Sat.lives (gM_clo m) (orcY_ok (gM_ok m) (gM_clo m)) 1000 100 rfl (lives13 _) h
theorem contract (H : Type) (enc : TypeId × Value → H) (W : World) (base : Nat) (args : Array Value) (ds gs : List (DataW H)) (before : List MemPlace)
  (hval : ∀ (j : Nat) t v, Tryz.f8.params[j]? = some t → args[j]? = some v → Value.okWide Tryz.prog W .any base t v)
  (hW : DataW.Whole enc Tryz.prog Tryz.f8.params.toList Rows.opmlAgainSpec.vars false W args.toList ds gs before) (hsh : W.ShapedOpen Tryz.prog) :
  Calls Tryz.prog 8 args W fun e W' => ∃ v, e = .returned v ∧ Rows.opmlAgainSpec.post enc Tryz.prog Tryz.f8 false true false false W args v W' := by
 have hW' := hW
 obtain ⟨p, q, hA0, hV, rfl, hfz, hnd⟩ := hW
 have hA : DataW.TrodAll enc Tryz.prog W 0 (fun _ => true) true Tryz.f8.params.toList args.toList ds p := hA0
 rw [Tryz.params8] at hA hval
 obtain ⟨v0, vs0, d0, ds0, p0, q0, hargs, rfl, rfl, h0, r0⟩ := trodAll_cons hA
 obtain ⟨rfl, rfl, rfl⟩ := trodAll_nil r0
 obtain ⟨rfl, rfl⟩ := trodVars_none hV
 obtain rfl : args = #[v0] := by cases args; simp_all
 obtain ⟨n, rn, bn⟩ := str_of_trod Tryz.underlying9 (hval 0 9 v0 rfl rfl) h0
 obtain ⟨m, hm⟩ := maxLen_shape hsh
 refine contract_of_sat (C := CT (gM m)) Tryz.func8 rfl rfl kids_prog full_prog (fun t ht => ?_) rfl rfl rfl Tryz.underlying4 hW' (gM_rep hm) (xs := [.str n]) ⟨rfl, fun i x hi => ?_⟩ (OpmlAgain_sat (gM m) (gM_ok m) (gM_clo m) (fun h => lives h) n [])
 ·rw [Tryz.params8] at ht
  change t ∈ [_] at ht
  refine params_row t ?_
  simp only [List.mem_cons, List.mem_nil_iff, or_false] at ht ⊢
  subst ht; simp
 ·match i with
  | 0 => simp at hi; subst hi; exact rn
  | i + 1 => simp at hi
def wit : Array Value := #[.string .empty]
theorem laid_met (os : Os) : laidMet Tryz.prog Rows.opmlAgainRow.laid ((laidWorld os wit).forCall (fun _ _ => 0) ⟨#[], wit, []⟩).memory :=
 laidMet_of_run' 8 (by kernel_rfl) (by kernel_rfl)
theorem reads (os : Os) {H : Type} (enc : TypeId × Value → H) : ∃ places, DataW.whole enc Tryz.prog ((laidWorld os wit).forCall (fun _ _ => 0) ⟨#[], wit, []⟩).memory Tryz.f8.params.toList Rows.opmlAgainSpec.vars false wit.toList 8 =
  some ([.lit (.string [])], [], places) :=
 ⟨[], by kernel_rfl⟩
theorem lifted (os : Os) (started : os.Started) (H : Type) (enc : TypeId × Value → H) (F : Stop.Interp) :
  ReturnsInHanded {} Tryz.checked os 8 .any ((OpenSpec.ofChange Rows.opmlAgainSpec).preRow enc Tryz.prog Tryz.f8 Rows.opmlAgainRow.domain false Rows.opmlAgainRow.laid) (((OpenSpec.ofChange Rows.opmlAgainSpec).at F).post enc Tryz.prog Tryz.f8 false true false false) := by
 obtain ⟨places, hx⟩ := reads os enc
 refine returnsInHanded_of_row (C := Tryz.checked) (s := OpenSpec.ofChange Rows.opmlAgainSpec) own_prog started (by kernel_rfl) Tryz.func8
  (witness_row_at (enc := enc) (C := Tryz.checked) false (laidWorld os wit) wit rfl (by kernel_rfl) (by kernel_rfl) (by kernel_rfl)
   (OpenSpec.preRow_of_cond 8 hx (by kernel_rfl) (fun k hk => by cases hk <;> kernel_rfl) (by kernel_rfl) (laid_met os))) ?_
 intro W base args ds gs before hval hW _ _ _ _ hsh _
 exact contract H enc W base args ds gs before hval hW hsh
theorem said : Rows.OpmlAgainSaid :=
 OpenClaim.holds_of_cond 8 Tryz.f8 rfl rfl rfl rfl rfl rfl rfl ⟨rfl, rfl, rfl, rfl, rfl⟩ rfl rfl rfl rfl rfl (by kernel_rfl) Tryz.func8 (by kernel_rfl)
  (of_decide_eq_true (by kernel_rfl)) (by unfold Func.isWrapper; first | (rw [if_pos (by decide +kernel)]; kernel_rfl) | (rw [if_neg (by decide +kernel)]; exact ⟨rfl, rfl⟩))
  (fun os started H enc _ F => by rw [OpenClaim.pre_eq_preRow]; exact lifted os started H enc F)
theorem plain (f : FuncId) (fn : Func) (hf : Tryz.pinned.checked.prog.funcNamed "newsstand/newsstandlaw13.OpmlAgain" = some f) (hfn : Tryz.pinned.checked.prog.funcs[f]? = some fn) :
  false = Tryz.pinned.checked.prog.looks [] ∧ ∀ (j : Nat) t, fn.params[j]? = some t → Tryz.pinned.checked.prog.wantsStandIn t = false := by
 obtain rfl : f = 8 := Option.some.inj ((show Tryz.prog.funcNamed "newsstand/newsstandlaw13.OpmlAgain" = some 8 by kernel_rfl).symm.trans hf) |>.symm
 obtain rfl : fn = Tryz.f8 := (Option.some.inj (Tryz.func8.symm.trans hfn)).symm
 refine ⟨by kernel_rfl, fun j t ht => ?_⟩
 rw [Tryz.params8] at ht
 have hm := Array.mem_of_getElem? ht
 simp only [List.mem_toArray, List.mem_cons, List.mem_nil_iff, or_false] at hm
 subst hm
 exact (show Tryz.prog.wantsStandIn 9 = false by kernel_rfl)
theorem card : Rows.OpmlAgainCardSaid :=
 Claim7.holds_tied_plain_at .later [] _ _ _ _ said (fun _ h => by cases h) (by kernel_rfl) (fun _ h => by cases h) opmlAgain_row_tie rfl ⟨rfl, rfl⟩ (by kernel_rfl) rfl plain (by kernel_rfl)
end Go.Proofs.YtjgligkejfjbpaaGreatDoor.opmlAgain
