/- Which outlines may be, and their document; they are read: the card, where what it reads is of bulk at most 1048576. -/
import Derived.Test.YtjgligkejfjbpaaGreatDoorVHe
import Derived.Test.YtjgligkejfjbpaaGreatDoorVVh
import Derived.Test.YtjgligkejfjbpaaGreatDoorVRf
set_option linter.unusedSimpArgs false
set_option linter.unusedVariables false
namespace Go.Proofs.YtjgligkejfjbpaaGreatDoor.opmlWrites
open Go Go.Av Go.RowKit Go.ChangeShapes Go.WideShapes Go.ChangeAt
set_option maxRecDepth 100000
theorem lives {m : Int} (h : Heap) : Sat (CT (gM m)) 32 [] h (fun r h' => r = .bool true ∧ h' = h) :=
 Sat.lives (gM_clo m) (orcY_ok (gM_ok m) (gM_clo m)) 1000 100 rfl (lives13 _) h
theorem contract (H : Type) (enc : TypeId × Value → H) (W : World) (base : Nat) (args : Array Value) (ds gs : List (DataW H)) (before : List MemPlace)
  (hval : ∀ (j : Nat) t v, Tryz.f6.params[j]? = some t → args[j]? = some v → Value.okWide Tryz.prog W .any base t v)
  (hW : DataW.Whole enc Tryz.prog Tryz.f6.params.toList Rows.opmlWritesSpec.vars false W args.toList ds gs before) (hk : Rows.uptoSmall H (ds ++ gs) = true) (hsh : W.ShapedOpen Tryz.prog) :
  Calls Tryz.prog 6 args W fun e W' => ∃ v, e = .returned v ∧ Rows.opmlWritesSpec.post enc Tryz.prog Tryz.f6 false true false false W args v W' := by
 have hW' := hW
 obtain ⟨p, q, hA0, hV, rfl, hfz, hnd⟩ := hW
 have hA : DataW.TrodAll enc Tryz.prog W 0 (fun _ => true) true Tryz.f6.params.toList args.toList ds p := hA0
 rw [Tryz.params6] at hA hval
 obtain ⟨v0, vs0, d0, ds0, p0, q0, hargs, rfl, rfl, h0, r0⟩ := trodAll_cons hA
 obtain ⟨rfl, rfl, rfl⟩ := trodAll_nil r0
 obtain ⟨rfl, rfl⟩ := trodVars_none hV
 obtain rfl : args = #[v0] := by cases args; simp_all
 obtain ⟨e, re, be⟩ := outls_of_trod (hval 0 47 v0 rfl rfl) h0
 obtain ⟨m, hm⟩ := maxLen_shape hsh
 rw [List.append_nil] at hk
 have hb : Rows.uptoBulkAll [d0] ≤ 1048576 := of_decide_eq_true hk
 simp only [Rows.uptoBulkAll] at hb
 refine contract_of_sat (C := CT (gM m)) Tryz.func6 rfl rfl kids_prog full_prog (fun t ht => ?_) rfl rfl rfl Tryz.underlying4 hW' (gM_rep hm) (xs := [.sl 3 (e.map Outl.av)]) ⟨rfl, fun i x hi => ?_⟩ (OpmlWrites_sat (gM m) (gM_ok m) (gM_clo m) (fun h => lives h) e (by omega) [])
 ·rw [Tryz.params6] at ht
  change t ∈ [_] at ht
  simp only [List.mem_cons, List.mem_nil_iff, or_false, or_self] at ht
  subst ht
  exact of_decide_eq_true (by kernel_rfl)
 ·match i with
  | 0 => simp at hi; subst hi; exact re
  | i + 1 => simp at hi
def wit : Array Value := #[.slice none 0 0]
theorem laid_met (os : Os) : laidMet Tryz.prog Rows.opmlWritesRow.laid ((laidWorld os wit).forCall (fun _ _ => 0) ⟨#[], wit, []⟩).memory :=
 laidMet_of_run' 8 (by kernel_rfl) (by kernel_rfl)
theorem reads (os : Os) {H : Type} (enc : TypeId × Value → H) : ∃ places, DataW.whole enc Tryz.prog ((laidWorld os wit).forCall (fun _ _ => 0) ⟨#[], wit, []⟩).memory Tryz.f6.params.toList Rows.opmlWritesSpec.vars false wit.toList 8 =
  some ([.nil], [], places) :=
 ⟨[], by kernel_rfl⟩
theorem liftedUpto (os : Os) (started : os.Started) (H : Type) (enc : TypeId × Value → H) (F : Stop.Interp) :
  ReturnsInHanded {} Tryz.checked os 6 .any ((Rows.OpenSpec.upto Rows.opmlWritesSpec).preRow enc Tryz.prog Tryz.f6 Rows.opmlWritesUptoRow.domain false Rows.opmlWritesUptoRow.laid) (((Rows.OpenSpec.upto Rows.opmlWritesSpec).at F).post enc Tryz.prog Tryz.f6 false true false false) := by
 obtain ⟨places, hx⟩ := reads os enc
 refine returnsInHanded_of_row (C := Tryz.checked) (s := Rows.OpenSpec.upto Rows.opmlWritesSpec) own_prog started (by kernel_rfl) Tryz.func6
  (witness_row_at (enc := enc) (C := Tryz.checked) false (laidWorld os wit) wit rfl (by kernel_rfl) (by kernel_rfl) (by kernel_rfl)
   (OpenSpec.preRow_of_cond 8 hx (by kernel_rfl) (fun k hk => by cases hk; kernel_rfl) (by kernel_rfl) (laid_met os))) ?_
 intro W base args ds gs before hval hW _ hcond _ hL hsh _
 exact contract H enc W base args ds gs before hval hW (hcond _ rfl) hsh
theorem saidUpto : Rows.OpmlWritesUptoSaid :=
 OpenClaim.holds_of_cond 6 Tryz.f6 rfl rfl rfl rfl rfl rfl rfl ⟨rfl, rfl, rfl, rfl, rfl⟩ rfl rfl rfl rfl rfl (by kernel_rfl) Tryz.func6 (by kernel_rfl)
  (of_decide_eq_true (by kernel_rfl)) (by unfold Func.isWrapper; first | (rw [if_pos (by decide +kernel)]; kernel_rfl) | (rw [if_neg (by decide +kernel)]; exact ⟨rfl, rfl⟩))
  (fun os started H enc _ F => by rw [OpenClaim.pre_eq_preRow]; exact liftedUpto os started H enc F)
theorem plain (f : FuncId) (fn : Func) (hf : Tryz.pinned.checked.prog.funcNamed "newsstand/newsstandlaw13.OpmlWrites" = some f) (hfn : Tryz.pinned.checked.prog.funcs[f]? = some fn) :
  false = Tryz.pinned.checked.prog.looks [] ∧ ∀ (j : Nat) t, fn.params[j]? = some t → Tryz.pinned.checked.prog.wantsStandIn t = false := by
 obtain rfl : f = 6 := Option.some.inj ((show Tryz.prog.funcNamed "newsstand/newsstandlaw13.OpmlWrites" = some 6 by kernel_rfl).symm.trans hf) |>.symm
 obtain rfl : fn = Tryz.f6 := (Option.some.inj (Tryz.func6.symm.trans hfn)).symm
 refine ⟨by kernel_rfl, fun j t ht => ?_⟩
 rw [Tryz.params6] at ht
 have hm := Array.mem_of_getElem? ht
 simp only [List.mem_toArray, List.mem_cons, List.mem_nil_iff, or_false, or_self] at hm
 subst hm
 exact (show Tryz.prog.wantsStandIn 47 = false by kernel_rfl)
theorem cardUpto : Rows.OpmlWritesUptoCardSaid :=
 Claim7.holds_tied_plain_at .later [] _ _ _ _ saidUpto (fun _ h => by cases h) (by kernel_rfl) (fun _ h => by cases h) opmlWritesUpto_row_tie rfl ⟨rfl, rfl⟩ (by kernel_rfl) rfl plain (by kernel_rfl)
end Go.Proofs.YtjgligkejfjbpaaGreatDoor.opmlWrites
