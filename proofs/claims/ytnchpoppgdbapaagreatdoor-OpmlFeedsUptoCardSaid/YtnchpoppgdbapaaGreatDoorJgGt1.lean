/- From a contract over abstract values to the form of a statement. -/
import Derived.Test.YtnchpoppgdbapaaGreatDoorJgEx4
import Derived.Test.YtnchpoppgdbapaaGreatDoorRows
import Derived.ChangeSame
import Derived.RowKit
import Derived.ReadAgain
import Derived.ChangeArms
import Derived.Clock
import Derived.Deep.Slices
set_option linter.unusedSimpArgs false
set_option linter.unusedVariables false
namespace Go.Av
open Go.RowKit Go.ChangeShapes Go.WideShapes

section
variable {H : Type} {enc : TypeId × Value → H} {P : Program}

theorem trodAll_carry {w w' : World} {base : Nat} {sp : Nat → Bool} {held : Bool} : ∀ {ts : List TypeId} {vs : List Value} {ds : List (DataW H)} {ps : List MemPlace}, DataW.TrodAll enc P w base sp held ts vs ds ps → (∀ p ∈ ps, w.sameAt w' p) → DataW.TrodAll enc P w' base sp held ts vs ds ps
  | [], [], [], _, h, _ => h
  | _ :: _, _ :: _, _ :: _, _, ⟨p, q, ⟨n, h1⟩, h2, e⟩, hs => ⟨p, q, ⟨n, DataW.trod_carry n _ _ _ h1 (fun x hx => hs x (by rw [e]; exact List.mem_append_left _ hx))⟩, trodAll_carry h2 (fun x hx => hs x (by rw [e]; exact List.mem_append_right _ hx)), e⟩

theorem post_of_below {f : Func} {s : ChangeSpec} {apart fresh handsOn again : Bool} {W W' : World} {args : Array Value} {v : Value} {ds gs : List (DataW H)} {before : List MemPlace}
    (K : Kids P (· < P.types.size)) (full : ∀ t e, t < P.types.size → P.underlying t = some (.slice e) → 0 < P.cellsOf e) (hts : ∀ t ∈ f.params.toList, t < P.types.size)
    (hv : s.vars = []) (hfn : s.fn H (ds ++ gs) = { results := [.lit (.bool true)], args := ds }) {tb : TypeId} (hres : f.resultTypes = #[tb]) (hb : P.underlying tb = some .bool)
    (hW : DataW.Whole enc P f.params.toList s.vars apart W args.toList ds gs before) (hbel : Below W.heap.size W W') (hvv : v = .bool true) :
    s.post enc P f apart fresh handsOn again W args v W' := by
  subst hvv
  have hlt := hW.lt
  obtain ⟨p, q, hA, hV, hbe, hz, hn⟩ := hW
  have hV0 := hV
  rw [hv] at hV0
  obtain ⟨rfl, rfl⟩ := trodVars_none hV0
  simp only [List.append_nil] at hbe
  subst hbe
  have hA' := trodAll_carry hA fun x hx => hbel.same (hlt x hx)
  have hold : ∀ x ∈ before, (fun b => decide (b < W.heap.size)) x.block = true := fun x hx => by simpa using hlt x hx
  have hr : ∀ (b : Nat) (sp : Nat → Bool) (hd : Bool), DataW.TrodAll enc P W' b sp hd f.resultTypes.toList ((Value.bool true).resultList f.resultTypes.size) [.lit (.bool true)] [] := fun b sp hd => by
    rw [hres]; exact trodAll_mk1 (shut_bool hb true)
  refine ⟨ds, [], before, [], before, [], ⟨before, [], hA, hV, by simp, hz, hn⟩, by rw [hfn]; exact hr _ _ _, by rw [hfn]; exact hA'.respare K full hts hold, by rw [hfn, hv]; rfl, hbel.frame _, fun _ => ⟨ok_one hres rfl (okWide_bool_mk hb _), [.lit (.bool true)] ++ ds, [], before, ⟨before, [], ?_, by rw [hv]; rfl, by simp, ?_, fun ha => hn ha⟩, fun x hx _ => hx⟩⟩
  · have := trodAll_append hA' (hr 0 (fun _ => true) true)
    simpa using this
  · intro b off hp
    have h1 := hz b off hp
    have h2 := hlt _ hp
    rw [hbel.frozen (p := ⟨b, off, none⟩) h2]
    exact h1

/-- Everything that lies there when the call begins lies still. -/
def lies0 (W : World) : Addr → Prop := fun a => (W.cell? a).isSome = true
theorem lies0_lt {W : World} {a : Addr} (h : lies0 W a) : a.block < W.heap.size := by
  unfold lies0 World.cell? at h
  refine Nat.lt_of_not_le fun hle => ?_
  rw [Array.getElem?_eq_none hle] at h
  cases h
theorem fits0 {C : Ctx} {W : World} (hg : ∀ g cs, C.G g = some cs → Rep W (lies0 W) [] (.ad cs) (.pointer (some ⟨g, 0, none⟩))) : Fits C W.heap.size (lies0 W) [] [] W :=
  ⟨hg, rfl, fun p q m m' b h => by simp at h, fun p m b h => by simp at h, Nat.le_refl _, fun a ha => lies0_lt ha, fun p m k h => by simp at h⟩

theorem calls_of_sat {C : Ctx} {f : FuncId} {fn : Func} {c : Code} (hf : C.P.funcs[f]? = some fn) (hb : fn.body = some c) (hname : (fn.name == "runtime.NumGoroutine") = false) {W : World} {args : Array Value} {xs : List AVal}
    (fit : Fits C W.heap.size (lies0 W) [] [] W) (rl : RepL W (lies0 W) [] xs args.toList) (sat : Sat C f xs [] fun r h' => r = .bool true ∧ h' = []) :
    Calls C.P f args W fun e W' => e = .returned (.bool true) ∧ Below W.heap.size W W' := by
  have h := sat _ _ [] W args.toList fit rl
  have hcall : (callFunc f args.toList.toArray).run C.P W = .ok (.enter f args.toList.toArray) W := by
    have hne : fn.name ≠ "runtime.NumGoroutine" := by simpa using hname
    simp [callFunc, hf, hne, hb]
  rw [hcall] at h
  have h : Calls C.P f args.toList.toArray W fun e w'' => ∃ v, e = .returned v ∧ OpPost C W.heap.size (lies0 W) [] W (fun r h' => r = .bool true ∧ h' = []) v w'' := h
  rw [Array.toArray_toList] at h
  refine h.mono fun e W' ⟨v, he, r, h', S', μ', ⟨hr, _⟩, st, _, hrep⟩ => ?_
  subst hr
  rw [hrep.bool_inv] at he
  exact ⟨he, st.below⟩

/-- The contract of a law, in the form's words. -/
theorem contract_of_sat {C : Ctx} {f : FuncId} {fn : Func} {c : Code} (hf : C.P.funcs[f]? = some fn) (hb : fn.body = some c) (hname : (fn.name == "runtime.NumGoroutine") = false) {s : ChangeSpec} {apart fresh handsOn again : Bool} {W : World} {args : Array Value} {xs : List AVal} {ds gs : List (DataW H)} {before : List MemPlace}
    (K : Kids C.P (· < C.P.types.size)) (full : ∀ t e, t < C.P.types.size → C.P.underlying t = some (.slice e) → 0 < C.P.cellsOf e) (hts : ∀ t ∈ fn.params.toList, t < C.P.types.size)
    (hv : s.vars = []) (hfn : s.fn H (ds ++ gs) = { results := [.lit (.bool true)], args := ds }) {tb : TypeId} (hres : fn.resultTypes = #[tb]) (hbt : C.P.underlying tb = some .bool)
    (hW : DataW.Whole enc C.P fn.params.toList s.vars apart W args.toList ds gs before)
    (hg : ∀ g cs, C.G g = some cs → Rep W (lies0 W) [] (.ad cs) (.pointer (some ⟨g, 0, none⟩))) (rl : RepL W (lies0 W) [] xs args.toList) (sat : Sat C f xs [] fun r h' => r = .bool true ∧ h' = []) :
    Calls C.P f args W fun e W' => ∃ v, e = .returned v ∧ s.post enc C.P fn apart fresh handsOn again W args v W' :=
  (calls_of_sat hf hb hname (fits0 hg) rl sat).mono fun e W' ⟨he, hbel⟩ => ⟨_, he, post_of_below K full hts hv hfn hres hbt hW hbel rfl⟩

/-! ## What is read of an argument stands for a plain value. -/
/-- Each reading of the type, so deep, is some a, of the cells cl a, not greater than what was read. -/
def Rd (H : Type) (enc : TypeId × Value → H) (P : Program) (W : World) (n : Nat) (t : TypeId) {α : Type} (cl : α → List AVal) (sz : α → Nat) : Prop :=
  ∀ (cs : List Value) (x : DataW H × List MemPlace), DataW.trod enc P W 0 (fun _ => true) true n t cs = some x →
    ∃ a : α, (cl a).length = cs.length ∧ (∀ (j : Nat) (c : AVal), (cl a)[j]? = some c → c.sto = true ∧ Rep W (lies0 W) [] c (cs.getD j undef)) ∧ sz a ≤ Go.Proofs.YtnchpoppgdbapaaGreatDoor.Rows.uptoBulk x.1

variable {W : World}
theorem rd_str {n : Nat} {t : TypeId} (ht : P.underlying t = some .string) : Rd H enc P W n t (fun s : List UInt8 => [.str s]) (fun s => s.length + 1) := fun cs x h => by
  obtain ⟨s, rfl, rfl, _⟩ := DataW.trod_string ht h
  refine ⟨s.data.toList, rfl, fun j c hj => ?_, ?_⟩
  · match j with
    | 0 => simp at hj; subst hj; exact ⟨rfl, .str _⟩
    | j + 1 => simp at hj
  · simp [Go.Proofs.YtnchpoppgdbapaaGreatDoor.Rows.uptoBulk]
theorem rd_int {n : Nat} {t : TypeId} {k : IntKind} (ht : P.underlying t = some (.int k)) : Rd H enc P W n t (fun i : { i : Int // (Lit.int k i).wf = true } => [.int k i.1]) (fun _ => 1) := fun cs x h => by
  obtain ⟨i, rfl, rfl, hw⟩ := DataW.trod_int ht h
  refine ⟨⟨i, hw⟩, rfl, fun j c hj => ?_, ?_⟩
  · match j with
    | 0 => simp at hj; subst hj; exact ⟨rfl, .int _ _⟩
    | j + 1 => simp at hj
  · simp [Go.Proofs.YtnchpoppgdbapaaGreatDoor.Rows.uptoBulk]
theorem rd_bool {n : Nat} {t : TypeId} (ht : P.underlying t = some .bool) : Rd H enc P W n t (fun b : Bool => [.bool b]) (fun _ => 1) := fun cs x h => by
  obtain ⟨b, rfl, rfl⟩ := DataW.trod_bool ht h
  refine ⟨b, rfl, fun j c hj => ?_, ?_⟩
  · match j with
    | 0 => simp at hj; subst hj; exact ⟨rfl, .bool _⟩
    | j + 1 => simp at hj
  · simp [Go.Proofs.YtnchpoppgdbapaaGreatDoor.Rows.uptoBulk]

def szL {α : Type} (f : α → Nat) : List α → Nat
  | [] => 0
  | a :: l => f a + szL f l
theorem bulkAll_map {α : Type} (sz : α → Nat) (D : Nat → DataW H) (l : List α) (s : Nat) (h : ∀ (i : Nat) (a : α), l[i]? = some a → sz a ≤ Go.Proofs.YtnchpoppgdbapaaGreatDoor.Rows.uptoBulk (D (s + i))) : szL sz l ≤ Go.Proofs.YtnchpoppgdbapaaGreatDoor.Rows.uptoBulkAll ((List.range' s l.length).map D) := by
  induction l generalizing s with
  | nil => exact Nat.zero_le _
  | cons a l ih =>
    simp only [List.length_cons, List.range'_succ, List.map_cons, szL, Go.Proofs.YtnchpoppgdbapaaGreatDoor.Rows.uptoBulkAll]
    have h0 := h 0 a rfl
    have := ih (s + 1) fun i b hb => by
      have := h (i + 1) b (by simpa using hb)
      rwa [show s + 1 + i = s + (i + 1) by omega]
    simp only [Nat.add_zero] at h0
    omega
/-- A list of what is read. -/
theorem rd_slice {n : Nat} {t e m : TypeId} {α : Type} {cl : α → List AVal} {sz : α → Nat} (mk : α → AVal) (ht : P.underlying t = some (.slice e)) (hm : P.cellsOf e = m) (hm0 : 0 < m) (hmk : ∀ a, (mk a).cells = cl a) (hl : ∀ a, (cl a).length = m)
    (hel : ∀ k, k < n → Rd H enc P W k e cl sz) : Rd H enc P W n t (fun l : List α => [.sl m (l.map mk)]) (fun l => szL sz l + 1) := fun cs x h => by
  rcases DataW.trod_slice ht h with ⟨rfl, rfl⟩ | ⟨a, len, cap, elems, rest, n', hn, rfl, rfl, hb, hlc, hmx, hlen, hel', hsp, hns⟩
  · refine ⟨[], rfl, fun j c hj => ?_, ?_⟩
    · match j with
      | 0 => simp at hj; subst hj; exact ⟨rfl, .sl0 _ _ _⟩
      | j + 1 => simp at hj
    · simp [szL, Go.Proofs.YtnchpoppgdbapaaGreatDoor.Rows.uptoBulk]
  · subst hn
    have at_ : ∀ i, i < len → ∃ al : α, (∀ (j : Nat) (c : AVal), (cl al)[j]? = some c → c.sto = true ∧ ∃ v, W.cell? ((a.add (i * m)).add j) = some v ∧ Rep W (lies0 W) [] c v) ∧ sz al ≤ Go.Proofs.YtnchpoppgdbapaaGreatDoor.Rows.uptoBulk (elems.getD i (.nil, [])).1 := fun i hi => by
      have h1 := hel' i hi
      rw [List.getElem?_eq_getElem (by omega)] at h1
      obtain ⟨cs', h2, h3⟩ := Option.bind_eq_some_iff.1 h1
      obtain ⟨al, k1, k2, k3⟩ := hel n' (by omega) _ _ h3
      obtain ⟨_, k5, k6⟩ := World.cells?_some h2
      refine ⟨al, fun j c hj => ?_, ?_⟩
      · obtain ⟨s1, s2⟩ := k2 j c hj
        have hjl := (List.getElem?_eq_some_iff.1 hj).1
        have hc := k6 j (by omega)
        rw [hm] at hc
        rw [List.getElem?_eq_getElem (by omega)] at hc
        refine ⟨s1, _, hc, ?_⟩
        simpa [List.getD, List.getElem?_eq_getElem (show j < cs'.length by omega)] using s2
      · simpa [List.getD, List.getElem?_eq_getElem (show i < elems.length by omega)] using k3
    cases len with
    | zero =>
      refine ⟨[], rfl, fun j c hj => ?_, ?_⟩
      · match j with
        | 0 => simp at hj; subst hj; exact ⟨rfl, .sl0 _ _ _⟩
        | j + 1 => simp at hj
      · simp [szL, Go.Proofs.YtnchpoppgdbapaaGreatDoor.Rows.uptoBulk]
    | succ len =>
      have hspot : a.spot = none := by
        obtain ⟨al, k1, _⟩ := at_ 0 (by omega)
        have hc := List.getElem?_eq_getElem (show 0 < (cl al).length by rw [hl]; exact hm0)
        obtain ⟨_, v, hv, _⟩ := k1 0 _ hc
        simp only [Nat.zero_mul, Addr.add, if_pos] at hv
        unfold World.cell? at hv
        split at hv
        · cases hs : a.spot with
          | none => rfl
          | some q => rw [hs] at hv; simp at hv
        · cases hv
      obtain ⟨b, off, sp⟩ := a
      simp only at hspot
      subst hspot
      have hadd : ∀ i j, ((⟨b, off, none⟩ : Addr).add (i * m)).add j = ⟨b, off + (i * m + j), none⟩ := fun i j => by
        rw [addr_add, addr_add, Nat.add_assoc]
      have hch : ∀ n, n ≤ len + 1 → ∃ l : List α, l.length = n ∧ ∀ (i : Nat) (al : α), l[i]? = some al → (∀ (j : Nat) (c : AVal), (cl al)[j]? = some c → c.sto = true ∧ ∃ v, W.cell? ⟨b, off + (i * m + j), none⟩ = some v ∧ Rep W (lies0 W) [] c v) ∧ sz al ≤ Go.Proofs.YtnchpoppgdbapaaGreatDoor.Rows.uptoBulk (elems.getD i (.nil, [])).1 := by
        intro n
        induction n with
        | zero => intro _; exact ⟨[], rfl, fun i al h => by simp at h⟩
        | succ n ih =>
          intro hn
          obtain ⟨l, h1, h2⟩ := ih (by omega)
          obtain ⟨al, k1, k2⟩ := at_ n (by omega)
          refine ⟨l ++ [al], by simp [h1], fun i al' hi => ?_⟩
          rcases getElem?_snoc hi with h3 | ⟨h3, rfl⟩
          · exact h2 i al' h3
          · rw [h3, h1]
            exact ⟨fun j c hj => by have := k1 j c hj; rwa [hadd] at this, k2⟩
      obtain ⟨l, hll, hl2⟩ := hch (len + 1) (Nat.le_refl _)
      refine ⟨l, rfl, fun j c hj => ?_, ?_⟩
      · match j with
        | 0 =>
          simp at hj; subst hj
          refine ⟨rfl, ?_⟩
          have key := Rep.sl (w := W) (S := lies0 W) (μ := []) m (l.map mk) b off cap (fun i j => (W.cell? ⟨b, off + (i * m + j), none⟩).getD undef) (by intro e; have := congrArg List.length e; simp [hll] at this) (by simp [hll]; exact hlc) hmx
            (fun i e hi => by
              rw [List.getElem?_map] at hi
              obtain ⟨al, _, rfl⟩ := Option.map_eq_some_iff.1 hi
              rw [hmk, hl])
            (fun i e j c hi hj => by
              rw [List.getElem?_map] at hi
              obtain ⟨al, h1, rfl⟩ := Option.map_eq_some_iff.1 hi
              rw [hmk] at hj
              obtain ⟨s1, v, s2, s3⟩ := (hl2 i al h1).1 j c hj
              exact ⟨by unfold lies0; rw [s2]; rfl, by rw [s2]; rfl, s1⟩)
            (fun i e j c hi hj => by
              rw [List.getElem?_map] at hi
              obtain ⟨al, h1, rfl⟩ := Option.map_eq_some_iff.1 hi
              rw [hmk] at hj
              obtain ⟨s1, v, s2, s3⟩ := (hl2 i al h1).1 j c hj
              simp only [s2, Option.getD_some]; exact s3)
          simpa [hll] using key
        | j + 1 => simp at hj
      · have hb := bulkAll_map sz (fun i => (elems.getD i (.nil, [])).1) l 0 fun i al hi => by rw [Nat.zero_add]; exact (hl2 i al hi).2
        have he : (List.range' 0 l.length).map (fun i => (elems.getD i (.nil, [])).1) = elems.map (·.1) := by
          rw [Deep.map_by_index elems (.nil, []) (·.1), hll, hlen, List.range_eq_range']
        rw [he] at hb
        simp only [Go.Proofs.YtnchpoppgdbapaaGreatDoor.Rows.uptoBulk]
        omega

/-- The fields of a struct, a cell each. -/
theorem rd_fields {n : Nat} {t : TypeId} {fs : Array Field} (ht : P.underlying t = some (.struct fs)) (hk : P.cellsOf t = fs.size) (ho : ∀ (j : Nat) (f : Field), fs[j]? = some f → f.offset = j ∧ P.cellsOf f.type = 1) {cs : List Value} {x : DataW H × List MemPlace}
    (h : DataW.trod enc P W 0 (fun _ => true) true n t cs = some x) :
    ∃ (xs : List (DataW H × List MemPlace)) (n' : Nat), n = n' + 1 ∧ x.1 = .agg (xs.map (·.1)) ∧ cs.length = fs.size ∧ xs.length = fs.size ∧ ∀ (j : Nat) (f : Field), fs[j]? = some f → ∃ y, xs[j]? = some y ∧ DataW.trod enc P W 0 (fun _ => true) true n' f.type [cs.getD j undef] = some y := by
  obtain ⟨xs, n', hn, rfl, hl, hlen, hf⟩ := DataW.trod_struct ht h
  refine ⟨xs, n', hn, rfl, by omega, hlen, fun j f hj => ?_⟩
  have hlt := (Array.getElem?_eq_some_iff.1 hj).1
  obtain ⟨h1, h2⟩ := ho j f hj
  have := hf j f hj
  rw [h1, h2] at this
  have hx := List.getElem?_eq_getElem (show j < xs.length by omega)
  rw [hx] at this
  refine ⟨_, hx, ?_⟩
  rw [← this]
  have hc := List.getElem?_eq_getElem (show j < cs.length by omega)
  congr 1
  rw [List.drop_eq_getElem_cons (show j < cs.length by omega), List.getD, hc]
  rfl
end
end Go.Av
