/- The program's data as plain data: attributes, tokens, elements, outlines; and as abstract values. -/
import Derived.Test.YtnchpoppgdbapaaGreatDoorJgSm
import Derived.Test.YtnchpoppgdbapaaGreatDoorJgTy
set_option linter.unusedSimpArgs false
set_option linter.unusedVariables false
namespace Go.Av
open Go Go.Proofs Go.RowKit

noncomputable def CT (G : Nat → Option (List AVal)) : Ctx := ⟨Tryz.prog, G⟩
@[go_sem] theorem CT_P (G : Nat → Option (List AVal)) : (CT G).P = Tryz.prog := (rfl)
@[go_sem] theorem CT_G (G : Nat → Option (List AVal)) : (CT G).G = G := (rfl)

abbrev Bs := List UInt8
abbrev At := Bs × Bs
def At.av (a : At) : AVal := .agg [.str a.1, .str a.2]

/-- A token: its kind, name, attributes, text. -/
abbrev Tok := Int × Bs × List At × Bs
def Tok.av (t : Tok) : AVal := .agg [.int .i64 t.1, .str t.2.1, .sl 2 (t.2.2.1.map At.av), .str t.2.2.2]

inductive Elem where
  | mk (name : Bs) (attrs : List At) (text : Bs) (kids : List Elem)
  deriving Inhabited
namespace Elem
def name : Elem → Bs | .mk n _ _ _ => n
def attrs : Elem → List At | .mk _ a _ _ => a
def text : Elem → Bs | .mk _ _ t _ => t
def kids : Elem → List Elem | .mk _ _ _ k => k
end Elem
mutual
def Elem.av : Elem → AVal
  | .mk n a t k => .agg [.str n, .sl 2 (a.map At.av), .str t, .sl 4 (avs k)]
def avs : List Elem → List AVal
  | [] => []
  | e :: l => e.av :: avs l
end
theorem avs_eq (l : List Elem) : avs l = l.map Elem.av := by
  induction l with
  | nil => rfl
  | cons e l ih => rw [avs, ih]; rfl
theorem Elem.av_eq (e : Elem) : e.av = .agg [.str e.name, .sl 2 (e.attrs.map At.av), .str e.text, .sl 4 (e.kids.map Elem.av)] := by
  cases e with
  | mk n a t k => simp only [Elem.av, avs_eq, Elem.name, Elem.attrs, Elem.text, Elem.kids]

/-! How much there is of it. -/
def At.sz (a : At) : Nat := 1 + a.1.length + a.2.length
def szs {α : Type} (f : α → Nat) : List α → Nat
  | [] => 0
  | a :: l => f a + szs f l
mutual
def Elem.sz : Elem → Nat
  | .mk n a t k => 1 + n.length + szs At.sz a + t.length + kidsz k
def kidsz : List Elem → Nat
  | [] => 0
  | e :: l => e.sz + kidsz l
end
theorem kidsz_eq (l : List Elem) : kidsz l = szs Elem.sz l := by
  induction l with
  | nil => rfl
  | cons e l ih => rw [kidsz, ih]; rfl
theorem Elem.sz_eq (e : Elem) : e.sz = 1 + e.name.length + szs At.sz e.attrs + e.text.length + szs Elem.sz e.kids := by
  cases e with
  | mk n a t k => simp only [Elem.sz, kidsz_eq, Elem.name, Elem.attrs, Elem.text, Elem.kids]
theorem szs_mem {α : Type} (f : α → Nat) {l : List α} {a : α} (h : a ∈ l) : f a ≤ szs f l := by
  induction l with
  | nil => cases h
  | cons b l ih =>
    rw [szs]
    rcases List.mem_cons.1 h with rfl | h
    · omega
    · have := ih h; omega
theorem szs_len {α : Type} (f : α → Nat) (hf : ∀ a, 1 ≤ f a) (l : List α) : l.length ≤ szs f l := by
  induction l with
  | nil => exact Nat.zero_le _
  | cons b l ih => rw [szs, List.length_cons]; have := hf b; omega
theorem At.sz_pos (a : At) : 1 ≤ a.sz := by unfold At.sz; omega
theorem Elem.sz_pos (e : Elem) : 1 ≤ e.sz := by rw [Elem.sz_eq]; omega
theorem Elem.kid_sz {e k : Elem} (h : k ∈ e.kids) : k.sz + 1 ≤ e.sz := by
  have := szs_mem Elem.sz h; rw [Elem.sz_eq e]; omega
theorem Elem.kids_len (e : Elem) : e.kids.length ≤ e.sz := by
  have := szs_len Elem.sz Elem.sz_pos e.kids; rw [Elem.sz_eq e]; omega
theorem Elem.attrs_len (e : Elem) : e.attrs.length ≤ e.sz := by
  have := szs_len At.sz At.sz_pos e.attrs; rw [Elem.sz_eq e]; omega
theorem Elem.name_len (e : Elem) : e.name.length ≤ e.sz := by rw [Elem.sz_eq e]; omega
theorem Elem.text_len (e : Elem) : e.text.length ≤ e.sz := by rw [Elem.sz_eq e]; omega
theorem Elem.attr_sz {e : Elem} {a : At} (h : a ∈ e.attrs) : a.sz ≤ e.sz := by
  have := szs_mem At.sz h; rw [Elem.sz_eq e]; omega

def Tok.sz (t : Tok) : Nat := 1 + t.2.1.length + szs At.sz t.2.2.1 + t.2.2.2.length
theorem Tok.sz_pos (t : Tok) : 1 ≤ t.sz := by unfold Tok.sz; omega
theorem Tok.attrs_len (t : Tok) : t.2.2.1.length ≤ t.sz := by have := szs_len At.sz At.sz_pos t.2.2.1; unfold Tok.sz; omega

/-! As a walk meets it. -/
@[go_sem] theorem Tok.av_cells (t : Tok) : AVal.cells (Tok.av t) = [.int .i64 t.1, .str t.2.1, .sl 2 (t.2.2.1.map At.av), .str t.2.2.2] := (rfl)
@[go_sem] theorem Tok.av_fold (t : Tok) : AVal.agg [.int .i64 t.1, .str t.2.1, .sl 2 (t.2.2.1.map At.av), .str t.2.2.2] = Tok.av t := (rfl)
@[go_sem] theorem Tok.av_lies (t : Tok) : AVal.lies (Tok.av t) = true := (rfl)
@[go_sem] theorem Tok.av_box (e : TypeId) (t : Tok) (h : Heap) (k : Heap → Prop) : boxK e (Tok.av t) h k = k (h ++ [.row e 4 0 [Tok.av t]]) := by simp [Tok.av, boxK_agg]
@[go_sem] theorem At.av_cells (a : At) : AVal.cells (At.av a) = [.str a.1, .str a.2] := (rfl)
@[go_sem] theorem Elem.av_cells (e : Elem) : AVal.cells (Elem.av e) = [.str e.name, .sl 2 (e.attrs.map At.av), .str e.text, .sl 4 (e.kids.map Elem.av)] := by rw [Elem.av_eq]; rfl
@[go_sem] theorem At.av_fold (a : At) : AVal.agg [.str a.1, .str a.2] = At.av a := (rfl)
@[go_sem] theorem Elem.av_fold (e : Elem) : AVal.agg [.str e.name, .sl 2 (e.attrs.map At.av), .str e.text, .sl 4 (e.kids.map Elem.av)] = Elem.av e := (Elem.av_eq e).symm
@[go_sem] theorem At.av_box (e : TypeId) (a : At) (h : Heap) (k : Heap → Prop) : boxK e (At.av a) h k = k (h ++ [.row e 2 0 [At.av a]]) := by simp [At.av, boxK_agg]
@[go_sem] theorem Elem.av_box (t : TypeId) (e : Elem) (h : Heap) (k : Heap → Prop) : boxK t (Elem.av e) h k = k (h ++ [.row t 4 0 [Elem.av e]]) := by simp [Elem.av_eq, boxK_agg]
@[go_sem] theorem At.av_lies (a : At) : AVal.lies (At.av a) = true := (rfl)
@[go_sem] theorem Elem.av_lies (e : Elem) : AVal.lies (Elem.av e) = true := by rw [Elem.av_eq]; rfl

@[go_sem] theorem At.neq (h : Heap) (a b : At) : abin Tryz.prog h .neq 67 (At.av a) (At.av b) = some (.bool (!decide (a = b))) := by
  have hp : plainT Tryz.prog 67 = some [2, 2] := by kernel_rfl
  simp only [abin, At.av, hp, aeqL, aeq1, Option.map_some]
  obtain ⟨a1, a2⟩ := a; obtain ⟨b1, b2⟩ := b
  by_cases h1 : a1 = b1 <;> by_cases h2 : a2 = b2 <;> simp [h1, h2]

@[go_sem] theorem abin_bneq (h : Heap) (a b : Bool) : abin Tryz.prog h .neq 4 (.bool a) (.bool b) = some (.bool (!(a == b))) := by
  have hT : Tryz.prog.underlying 4 = some .bool := by kernel_rfl
  simp only [abin, hT]
@[go_sem] theorem abin_beql (h : Heap) (a b : Bool) : abin Tryz.prog h .eql 4 (.bool a) (.bool b) = some (.bool (a == b)) := by
  have hT : Tryz.prog.underlying 4 = some .bool := by kernel_rfl
  simp only [abin, hT]

theorem At.clo (n : Nat) (a : At) : Clo n a.av := by
  refine .agg _ fun c hc => ?_
  simp at hc; rcases hc with rfl | rfl <;> exact .str _
theorem Tok.clo (n : Nat) (t : Tok) : Clo n t.av := by
  refine .agg _ fun c hc => ?_
  simp only [List.mem_cons, List.mem_nil_iff, or_false] at hc
  rcases hc with rfl | rfl | rfl | rfl
  · exact .int _ _
  · exact .str _
  · exact .sl _ _ fun e he => by obtain ⟨a, _, rfl⟩ := List.mem_map.1 he; exact At.clo n a
  · exact .str _
theorem Toks.clo (n m : Nat) (l : List Tok) : Clo n (.sl m (l.map Tok.av)) := .sl _ _ fun e he => by
  obtain ⟨a, _, rfl⟩ := List.mem_map.1 he; exact Tok.clo n a
theorem Ats.clo (n m : Nat) (l : List At) : Clo n (.sl m (l.map At.av)) := .sl _ _ fun e he => by
  obtain ⟨a, _, rfl⟩ := List.mem_map.1 he; exact At.clo n a
mutual
theorem Elem.clo (n : Nat) : ∀ e : Elem, Clo n e.av
  | .mk nm a t k => by
    rw [Elem.av]
    refine .agg _ fun c hc => ?_
    simp only [List.mem_cons, List.mem_nil_iff, or_false] at hc
    rcases hc with rfl | rfl | rfl | rfl
    · exact .str _
    · exact Ats.clo n 2 a
    · exact .str _
    · exact .sl _ _ (kids_clo n k)
theorem kids_clo (n : Nat) : ∀ (l : List Elem), ∀ e ∈ avs l, Clo n e
  | [] => by intro e he; cases he
  | x :: l => by
    intro e he
    rw [avs] at he
    rcases List.mem_cons.1 he with rfl | he
    · exact Elem.clo n x
    · exact kids_clo n l e he
end
theorem Elems.clo (n m : Nat) (l : List Elem) : Clo n (.sl m (l.map Elem.av)) := .sl _ _ fun e he => by
  obtain ⟨a, _, rfl⟩ := List.mem_map.1 he; exact Elem.clo n a

/-! Counting with casts. -/
@[go_sem] theorem cast_add_one (n : Nat) : (n : Int) + 1 = ((n + 1 : Nat) : Int) := (rfl)
theorem getElem?_of_lt {α : Type} {l : List α} {k : Nat} (h : k < l.length) : ∃ a, l[k]? = some a ∧ a ∈ l := ⟨l[k], List.getElem?_eq_getElem h, List.getElem_mem h⟩
theorem drop_cons_of {α : Type} {l : List α} {k : Nat} {a : α} (h : l[k]? = some a) : l.drop k = a :: l.drop (k + 1) := by
  obtain ⟨hlt, rfl⟩ := List.getElem?_eq_some_iff.1 h
  exact List.drop_eq_getElem_cons hlt
theorem drop_nil_of {α : Type} {l : List α} {k : Nat} (h : l.length ≤ k) : l.drop k = [] := List.drop_eq_nil_of_le h
end Go.Av
