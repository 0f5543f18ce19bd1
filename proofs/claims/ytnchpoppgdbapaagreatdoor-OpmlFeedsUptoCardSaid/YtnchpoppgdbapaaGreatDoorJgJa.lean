/- Outlines as plain data, and as abstract values; how many feeds there are; the same. -/
import Derived.Test.YtnchpoppgdbapaaGreatDoorJgFd
set_option linter.unusedSimpArgs false
set_option linter.unusedVariables false
namespace Go.Av
open Go Go.Proofs Go.RowKit

inductive Outl where
  | mk (title url : Bs) (kids : List Outl)
  deriving Inhabited
namespace Outl
def title : Outl → Bs | .mk t _ _ => t
def url : Outl → Bs | .mk _ u _ => u
def kids : Outl → List Outl | .mk _ _ k => k
end Outl
mutual
def Outl.av : Outl → AVal
  | .mk t u k => .agg [.str t, .str u, .sl 3 (ovs k)]
def ovs : List Outl → List AVal
  | [] => []
  | e :: l => e.av :: ovs l
end
theorem ovs_eq (l : List Outl) : ovs l = l.map Outl.av := by
  induction l with
  | nil => rfl
  | cons e l ih => rw [ovs, ih]; rfl
theorem Outl.av_eq (e : Outl) : e.av = .agg [.str e.title, .str e.url, .sl 3 (e.kids.map Outl.av)] := by
  cases e with
  | mk t u k => simp only [Outl.av, ovs_eq, Outl.title, Outl.url, Outl.kids]
mutual
def Outl.sz : Outl → Nat
  | .mk t u k => 1 + t.length + u.length + okidsz k
def okidsz : List Outl → Nat
  | [] => 0
  | e :: l => e.sz + okidsz l
end
theorem okidsz_eq (l : List Outl) : okidsz l = szs Outl.sz l := by
  induction l with
  | nil => rfl
  | cons e l ih => rw [okidsz, ih]; rfl
theorem Outl.sz_eq (e : Outl) : e.sz = 1 + e.title.length + e.url.length + szs Outl.sz e.kids := by
  cases e with
  | mk t u k => simp only [Outl.sz, okidsz_eq, Outl.title, Outl.url, Outl.kids]
theorem Outl.sz_pos (e : Outl) : 1 ≤ e.sz := by rw [Outl.sz_eq]; omega
theorem Outl.kids_sz (e : Outl) : szs Outl.sz e.kids + 1 ≤ e.sz := by rw [Outl.sz_eq e]; omega
theorem outl_len (l : List Outl) : l.length ≤ szs Outl.sz l := szs_len Outl.sz Outl.sz_pos l
@[go_sem] theorem Outl.av_cells (e : Outl) : AVal.cells (Outl.av e) = [.str e.title, .str e.url, .sl 3 (e.kids.map Outl.av)] := by rw [Outl.av_eq]; rfl
@[go_sem] theorem Outl.av_fold (e : Outl) : AVal.agg [.str e.title, .str e.url, .sl 3 (e.kids.map Outl.av)] = Outl.av e := (Outl.av_eq e).symm
@[go_sem] theorem Outl.av_box (t : TypeId) (e : Outl) (h : Heap) (k : Heap → Prop) : boxK t (Outl.av e) h k = k (h ++ [.row t 3 0 [Outl.av e]]) := by simp [Outl.av_eq, boxK_agg]
@[go_sem] theorem Outl.av_lies (e : Outl) : AVal.lies (Outl.av e) = true := by rw [Outl.av_eq]; rfl
theorem Outl.av_sto (e : Outl) : ∀ c ∈ e.av.cells, c.sto = true := by
  rw [Outl.av_cells]; intro c hc; simp only [List.mem_cons, List.mem_nil_iff, or_false] at hc; rcases hc with rfl | rfl | rfl <;> rfl
mutual
theorem Outl.clo (n : Nat) : ∀ e : Outl, Clo n e.av
  | .mk t u k => by
    rw [Outl.av]
    refine .agg _ fun c hc => ?_
    simp only [List.mem_cons, List.mem_nil_iff, or_false] at hc
    rcases hc with rfl | rfl | rfl
    · exact .str _
    · exact .str _
    · exact .sl _ _ (okids_clo n k)
theorem okids_clo (n : Nat) : ∀ (l : List Outl), ∀ e ∈ ovs l, Clo n e
  | [] => by intro e he; cases he
  | x :: l => by
    intro e he
    rw [ovs] at he
    rcases List.mem_cons.1 he with rfl | he
    · exact Outl.clo n x
    · exact okids_clo n l e he
end
theorem Outls.clo (n m : Nat) (l : List Outl) : Clo n (.sl m (l.map Outl.av)) := .sl _ _ fun e he => by
  obtain ⟨a, _, rfl⟩ := List.mem_map.1 he; exact Outl.clo n a
theorem frz_outls {h0 h1 pre post : Heap} {e v q : Nat} (l : List Outl) (hh : h1 = pre ++ .row e 3 v (l.map Outl.av) :: post) (hq : q = pre.length) (hp : h0.length ≤ q) : Frz h1 h0.length (.hs q v 0 l.length true) (.sl 3 (l.map Outl.av)) := by
  have := frz_rows (h0 := h0) hh hq hp (fun r hr => by obtain ⟨a, _, rfl⟩ := List.mem_map.1 hr; exact Outl.clo _ a) (fun r hr => by obtain ⟨a, _, rfl⟩ := List.mem_map.1 hr; exact a.av_sto)
  simpa using this

mutual
def feedsO : Outl → Nat → List Outl
  | .mk t u k, d => (if u = [] then [] else [.mk t u k]) ++ (if 8 < d + 1 then [] else feedsL k (d + 1))
def feedsL : List Outl → Nat → List Outl
  | [], _ => []
  | o :: l, d => feedsO o d ++ feedsL l d
end
def feedsF (l : List Outl) (d : Nat) : List Outl := if 8 < d then [] else feedsL l d
theorem feedsO_eq (o : Outl) (d : Nat) : feedsO o d = (if o.url = [] then [] else [o]) ++ feedsF o.kids (d + 1) := by cases o; rw [feedsO]; rfl
mutual
theorem feedsO_len : ∀ (o : Outl) (d : Nat), (feedsO o d).length ≤ o.sz
  | .mk t u k, d => by
    have := feedsL_len k (d + 1)
    rw [feedsO, Outl.sz]; split <;> split <;> simp <;> omega
theorem feedsL_len : ∀ (l : List Outl) (d : Nat), (feedsL l d).length ≤ okidsz l
  | [], d => by simp [feedsL]
  | o :: l, d => by
    have := feedsO_len o d; have := feedsL_len l d
    rw [feedsL, okidsz]; simp; omega
end
theorem feedsF_len (l : List Outl) (d : Nat) : (feedsF l d).length ≤ szs Outl.sz l := by
  have := feedsL_len l d
  rw [okidsz_eq] at this
  unfold feedsF; split
  · simp
  · exact this

mutual
def ocntO : Outl → Nat → Int → Int
  | .mk t u k, d, l => ocntL k (d + 1) (l - 1 - (t.length / 20 : Nat) - (u.length / 20 : Nat))
def ocntL : List Outl → Nat → Int → Int
  | [], _, l => l
  | o :: r, d, l => if 0 < l ∧ d < 40 then ocntL r d (ocntO o d l) else l
end
theorem ocntO_eq (o : Outl) (d : Nat) (l : Int) : ocntO o d l = ocntL o.kids (d + 1) (l - 1 - (o.title.length / 20 : Nat) - (o.url.length / 20 : Nat)) := by cases o; rw [ocntO]; rfl
mutual
theorem ocntO_bd : ∀ (e : Outl) (d : Nat) (l : Int), l - e.sz ≤ ocntO e d l ∧ ocntO e d l ≤ l
  | .mk t u k, d, l => by
    have h2 := ocntL_bd k (d + 1) (l - 1 - (t.length / 20 : Nat) - (u.length / 20 : Nat))
    rw [ocntO, Outl.sz]; omega
theorem ocntL_bd : ∀ (r : List Outl) (d : Nat) (l : Int), l - okidsz r ≤ ocntL r d l ∧ ocntL r d l ≤ l
  | [], d, l => by simp [ocntL, okidsz]
  | e :: r, d, l => by
    have h1 := ocntO_bd e d l
    have h2 := ocntL_bd r d (ocntO e d l)
    rw [ocntL, okidsz]; split <;> omega
end

/-- Are two lists the same, f deep? -/
def sameOL : Nat → List Outl → List Outl → Bool
  | 0, a, b => decide (a.length = b.length) && decide (a.length = 0)
  | f + 1, a, b => decide (a.length = b.length) && (a.zip b).all fun p => decide (p.1.title = p.2.title) && (decide (p.1.url = p.2.url) && sameOL f p.1.kids p.2.kids)
end Go.Av
