/- The rules by which a body is walked. -/
import Derived.Test.YtjgligkejfjbpaaGreatDoorUnAv10
import Derived.Lib.Builder
import Derived.Lib.UnsafeStr
import Derived.Laws.BytesArg
import Derived.Deep.LoopGhost
import Derived.Scope
set_option linter.unusedSimpArgs false
set_option linter.unusedVariables false
namespace Go.Av
open Go.RowKit
section
variable {C : Ctx} {B n : Nat} {S : Addr → Prop} {μ : Map} {h : Heap} {w : World} {t : Env} {a : Act} {P : Program} {K : AVal → Heap → Prop}
theorem run_fieldAt {T f o fT k : Nat} (g : fOff P T f = some (o, fT, k)) (hk : k ≠ 0) (b off : Nat) : (Instr.fieldAt T (.pointer (some ⟨b, off, none⟩)) f).run P w = .ok (.pointer (some ⟨b, off + o, none⟩)) w := by
 obtain ⟨fs, fd, hT, hf, rfl, rfl, hsz⟩ := fOff_some g
 simp [Instr.fieldAt, Instr.sureAddr, run_underlying_none hT, hf, fieldPlace, run_sizeOf' hsz, hk, addr_add]
theorem Rep.ad_drop {cs : List AVal} {v : Value} (hx : Rep w S μ (.ad cs) v) {o : Nat} (ho : o < cs.length) : ∃ b off, v = .pointer (some ⟨b, off, none⟩) ∧ Rep w S μ (.ad (cs.drop o)) (.pointer (some ⟨b, off + o, none⟩)) := by
 cases hx with
 | ad _ b off vs hne hc hr =>
  refine ⟨b, off, rfl, .ad _ b (off + o) (fun j => vs (o + j)) ?_ (fun j c hj => ?_) (fun j c hj => ?_)⟩
  ·intro e; have := congrArg List.length e; simp at this; omega
  ·rw [List.getElem?_drop] at hj
   have := hc _ _ hj
   rw [show off + o + j = off + (o + j) from by omega]; exact this
  ·rw [List.getElem?_drop] at hj; exact hr _ _ hj
theorem mk_hp' {p ver i off b : Nat} {m : MB} (hm : μ[p]? = some m) (hv : m.ver = ver) (hb : m.blk = some b) {q : Nat} (hq : q = i * m.size + off) :
  Rep w S μ (.hp p ver i off) (.pointer (some ⟨b, q, none⟩)) := by subst hq; exact mk_hp hm hv hb
theorem fieldAddr_sound (f : Fits C B S μ h w) {T fi o fT k : Nat} (g : fOff P T fi = some (o, fT, k)) (hk : k ≠ 0) {x r : AVal} {v : Value} (hx : Rep w S μ x v)
  (hr : (∃ p ver i off, x = .hp p ver i off ∧ (getRow h p ver).isSome ∧ r = .hp p ver i (off + o)) ∨ (∃ cs, x = .ad cs ∧ o < cs.length ∧ r = .ad (cs.drop o))) :
  ∃ u, (Instr.fieldAt T v fi).run P w = .ok u w ∧ Rep w S μ r u := by
 rcases hr with ⟨p, ver, i, off, rfl, hs, rfl⟩ | ⟨cs, rfl, ho, rfl⟩
 ·obtain ⟨⟨e, m, rows⟩, hg⟩ := Option.isSome_iff_exists.1 hs
  obtain ⟨mb, hm, hf⟩ := f.row hg
  obtain ⟨b, hb, rfl⟩ := hx.hp_now hm hf.hver
  exact ⟨_, run_fieldAt g hk _ _, mk_hp' hm hf.hver hb (by omega)⟩
 ·obtain ⟨b, off, rfl, hr⟩ := hx.ad_drop ho
  exact ⟨_, run_fieldAt g hk _ _, hr⟩
theorem run_indexAt_slice {T e m : Nat} (hT : P.underlying T = some (.slice e)) (hs : szOf P e = some m) {b o len cap : Nat} {k : IntKind} {i : Int} (h0 : 0 ≤ i) (h1 : i < len) :
  (Instr.indexAt T (.slice (some ⟨b, o, none⟩) len cap) (.int k i)).run P w = .ok (.pointer (some ⟨b, o + i.toNat * m, none⟩)) w := by
 simp [Instr.indexAt, asIntOf, run_underlying_none hT, h0, h1, run_sizeOf' hs, addr_add]
theorem run_indexAt_array {T e m len : Nat} (hT : P.underlying T = some (.array len e)) (hs : szOf P e = some m) {b o : Nat} {k : IntKind} {i : Int} (h0 : 0 ≤ i) (h1 : i < len) :
  (Instr.indexAt T (.pointer (some ⟨b, o, none⟩)) (.int k i)).run P w = .ok (.pointer (some ⟨b, o + i.toNat * m, none⟩)) w := by
 simp [Instr.indexAt, Instr.sureAddr, asIntOf, run_underlying_none hT, h0, h1, run_sizeOf' hs, addr_add]
theorem sl_at {m : Nat} {es : List AVal} {v : Value} (hx : Rep w S μ (.sl m es) v) (hm : 0 < m) {i : Nat} {r : AVal} (hi : es[i]? = some r) :
  ∃ b o cap, v = .slice (some ⟨b, o, none⟩) es.length cap ∧ Rep w S μ (.ad r.cells) (.pointer (some ⟨b, o + i * m, none⟩)) := by
 cases hx with
 | sl0 => simp at hi
 | sl _ _ b o cap vs hne hcap hmx hl hc hr =>
  refine ⟨b, o, cap, rfl, .ad _ b (o + i * m) (fun j => vs i j) ?_ (fun j c hj => ?_) (fun j c hj => ?_)⟩
  ·intro e; have := hl i r hi; rw [e] at this; simp at this; omega
  ·have := hc i r j c hi hj
   rw [show o + i * m + j = o + (i * m + j) from by omega]; exact this
  ·exact hr i r j c hi hj
theorem fill_sound {place : Nat → Option (Nat × Nat)} : ∀ (parts : List (Nat × Operand)) (zs : List AVal) (cells : Array Value) (cs : List AVal),
  (∀ q ∈ parts, okOpd n q.2 = true) → (∀ x, okOpd n x = true → Rep w S μ (aev C.G t x) (a.eval x)) →
  cells.size = zs.length → (∀ (i : Nat) (c : AVal), zs[i]? = some c → c.sto = true ∧ ∃ u, cells[i]? = some u ∧ Rep w S μ c u) →
  fillA place zs (parts.map fun q => (q.1, aev C.G t q.2)) = some cs →
  ∃ out, Instr.fill place cells (parts.map fun q => (q.1, a.eval q.2)) = some out ∧ out.size = cs.length ∧ (∀ (i : Nat) (c : AVal), cs[i]? = some c → c.sto = true ∧ ∃ u, out[i]? = some u ∧ Rep w S μ c u)
 | [], zs, cells, cs, _, _, hl, hc, g => by
  simp only [List.map_nil, fillA, Option.some.injEq] at g
  subst g
  exact ⟨cells, rfl, hl, hc⟩
 | (i, x) :: rest, zs, cells, cs, ho, rp, hl, hc, g => by
  simp only [List.map_cons, fillA] at g
  split at g
  ·rename_i o k hp
   split at g
   ·rename_i hcond
    obtain ⟨h1, h2, h3⟩ := hcond
    have hx := rp x (ho (i, x) (by simp))
    obtain ⟨hsz, hcell⟩ := hx.cells
    have hsto := hx.lies h3
    have hfold : ∀ (vs : List Value) (j : Nat) (cells : Array Value), o + j + vs.length ≤ cells.size →
      ((vs.zipIdx j).foldl (fun cs (q : Value × Nat) => cs.setIfInBounds (o + q.2) q.1) cells).size = cells.size ∧
      ∀ k, ((vs.zipIdx j).foldl (fun cs (q : Value × Nat) => cs.setIfInBounds (o + q.2) q.1) cells)[k]? = if o + j ≤ k ∧ k < o + j + vs.length then vs[k - (o + j)]? else cells[k]? := by
     intro vs
     induction vs with
     | nil => intro j cells _; refine ⟨rfl, fun k => ?_⟩; rw [if_neg (by simp)]; rfl
     | cons v vs ih =>
      intro j cells hb
      simp only [List.length_cons] at hb
      simp only [List.zipIdx_cons, List.foldl_cons]
      obtain ⟨e1, e2⟩ := ih (j + 1) (cells.setIfInBounds (o + j) v) (by simp; omega)
      refine ⟨by rw [e1]; simp, fun k => ?_⟩
      rw [e2]
      simp only [List.length_cons]
      by_cases h1 : k = o + j
      ·subst h1
       rw [if_neg (by omega), if_pos (by omega)]
       have hlt : o + j < cells.size := by omega
       simp [hlt]
      ·by_cases h2 : o + (j + 1) ≤ k ∧ k < o + (j + 1) + vs.length
       ·rw [if_pos h2, if_pos (by omega)]
        rw [show k - (o + j) = (k - (o + (j + 1))) + 1 from by omega]; simp
       ·rw [if_neg h2, if_neg (by omega)]
        rw [Array.getElem?_setIfInBounds_ne (by omega)]
    obtain ⟨hs1, hs2⟩ := hfold (a.eval x).cells.toList 0 cells (by simp [hsz]; omega)
    have hz : (a.eval x).cells.zipIdx.foldl (fun cs (q : Value × Nat) => cs.setIfInBounds (o + q.2) q.1) cells = ((a.eval x).cells.toList.zipIdx 0).foldl (fun cs (q : Value × Nat) => cs.setIfInBounds (o + q.2) q.1) cells := by
     rw [← Array.foldl_toList, Array.toList_zipIdx]
    have hfill : Instr.fill place cells ((i, a.eval x) :: rest.map fun q => (q.1, a.eval q.2)) = Instr.fill place (((a.eval x).cells.toList.zipIdx 0).foldl (fun cs (q : Value × Nat) => cs.setIfInBounds (o + q.2) q.1) cells) (rest.map fun q => (q.1, a.eval q.2)) := by
     rw [Instr.fill, hp]
     simp only []
     rw [if_neg (by rw [Bool.or_eq_true]; simp [hsz, h1]; omega), hz]
    have hq : ∀ (k : Nat) (c : AVal), (zs.take o ++ (aev C.G t x).cells ++ zs.drop (o + (aev C.G t x).cells.length))[k]? = some c →
      c.sto = true ∧ ∃ u, (((a.eval x).cells.toList.zipIdx 0).foldl (fun cs (q : Value × Nat) => cs.setIfInBounds (o + q.2) q.1) cells)[k]? = some u ∧ Rep w S μ c u := by
     intro k c hk
     rw [hs2]
     have e1 : (zs.take o).length = o := by simp; omega
     simp only [Nat.add_zero, Array.length_toList]
     by_cases k1 : k < o
     ·rw [List.append_assoc, List.getElem?_append_left (by omega), List.getElem?_take_of_lt k1] at hk
      rw [if_neg (by omega)]; exact hc k c hk
     ·rw [List.append_assoc, List.getElem?_append_right (by omega), e1] at hk
      by_cases k2 : k < o + (aev C.G t x).cells.length
      ·rw [List.getElem?_append_left (by omega)] at hk
       rw [if_pos (by omega)]
       obtain ⟨u, hu, hr⟩ := hcell _ _ hk
       exact ⟨hsto _ _ hk, u, by simpa using hu, hr⟩
      ·rw [List.getElem?_append_right (by omega), List.getElem?_drop] at hk
       rw [if_neg (by omega)]
       refine hc k c ?_
       rw [← hk]; congr 1; omega
    rw [← h1] at g
    obtain ⟨out, hout, hol, hoc⟩ := fill_sound rest _ _ cs (fun q hq => ho q (by simp [hq])) rp (by rw [hs1]; simp; omega) hq g
    exact ⟨out, by rw [List.map_cons, hfill]; exact hout, hol, hoc⟩
   ·cases g
  ·cases g
end
end Go.Av
namespace Go.Av
open Go.RowKit
section
variable {C : Ctx} {B n : Nat} {S : Addr → Prop} {μ : Map} {h : Heap} {w : World} {t : Env} {a : Act} {K : AVal → Heap → Prop}
theorem nFld_some {P : Program} {T k : Nat} (g : nFld P T = some k) : ∃ fs, P.underlying T = some (.struct fs) ∧ ∀ f ∈ fs.toList, (szOf P f.type).isSome = true := by
 unfold nFld at g
 split at g
 ·rename_i fs hT
  split at g
  ·rename_i hall; exact ⟨fs, hT, List.all_eq_true.1 hall⟩
  ·cases g
 ·cases g
theorem run_mapM_places {P : Program} (fs : Array Field) (hall : ∀ f ∈ fs.toList, (szOf P f.type).isSome = true) :
  (fs.mapM fun f => (do pure (f.offset, ← sizeOf f.type) : Sem (Nat × Nat))).run P w = .ok (fs.map fun f => (f.offset, (szOf P f.type).getD 0)) w := by
 obtain ⟨l⟩ := fs
 rw [List.mapM_toArray]
 have key : ∀ l : List Field, (∀ f ∈ l, (szOf P f.type).isSome = true) → (l.mapM fun f => (do pure (f.offset, ← sizeOf f.type) : Sem (Nat × Nat))).run P w = .ok (l.map fun f => (f.offset, (szOf P f.type).getD 0)) w := by
  intro l
  induction l with
  | nil => intro _; rfl
  | cons f l ih =>
   intro hall
   obtain ⟨k, hk⟩ := Option.isSome_iff_exists.1 (hall f (by simp))
   simp only [List.mapM_cons, Sem.run_bind, run_sizeOf' hk, Result.andThen_ok, Sem.run_pure, ih (fun g hg => hall g (by simp [hg])), hk, List.map_cons, Option.getD_some]
 simp only [Sem.run_map, key l hall, Result.andThen_ok, List.map_toArray]
theorem zero_cells {P : Program} {T : TypeId} {z : AVal} (g : zroT P T = some z) (hz : z.cells.all AVal.sto = true) (w : World) (S : Addr → Prop) (μ : Map) :
  ∃ v, (zeroValue T).run P w = .ok v w ∧ v.cells.size = z.cells.length ∧ ∀ (i : Nat) (c : AVal), z.cells[i]? = some c → c.sto = true ∧ ∃ u, v.cells[i]? = some u ∧ Rep w S μ c u := by
 obtain ⟨v, hv, hr, rfl⟩ := zroT_rep g w S μ
 obtain ⟨h1, h2⟩ := (hr (okVal_of_lies hz)).cells
 exact ⟨v, hv, h1, fun i c hi => ⟨List.all_eq_true.1 hz c (List.mem_of_getElem? hi), h2 i c hi⟩⟩
theorem agg_of_cells {cs : List AVal} {out : Array Value} (hl : out.size = cs.length) (hc : ∀ (i : Nat) (c : AVal), cs[i]? = some c → c.sto = true ∧ ∃ u, out[i]? = some u ∧ Rep w S μ c u) : Rep w S μ (.agg cs) (.agg out) := by
 obtain ⟨l⟩ := out
 refine .agg cs l (by simpa using hl) (fun i c hi => (hc i c hi).1) (fun i c hi => ?_)
 obtain ⟨_, u, hu, hr⟩ := hc i c hi
 have : l.getD i undef = u := by simp at hu; simp [List.getD, hu]
 rw [this]; exact hr
theorem build_sound (f : Fits C B S μ h w) (r : REnv n w S μ t a) {T : TypeId} {parts : Array (Nat × Operand)} (ho : ∀ q ∈ parts.toList, okOpd n q.2 = true) (g : wpOp C (.build T parts) t h K) :
  ∃ z, (Instr.build T (parts.map fun q => (q.1, a.eval q.2))).run C.P w = .ok z w ∧ OpPost C B S μ w K z w := by
 obtain ⟨l⟩ := parts
 simp only [wpOp] at g
 obtain ⟨z, hz, g1⟩ := need_some g
 clear g
 obtain ⟨hsto, g⟩ := g1
 obtain ⟨v, hv, hvl, hvc⟩ := zero_cells hz hsto w S μ
 have rp : ∀ x, okOpd n x = true → Rep w S μ (aev C.G t x) (a.eval x) := fun x hx => aev_rep f r x hx
 split at g
 ·rename_i k x hn
  obtain ⟨fs, hT, hall⟩ := nFld_some hn
  obtain ⟨cs, hcs, hK⟩ := need_some g
  have hp : (fun i => (fOff C.P T i).map fun q => (q.1, q.2.2)) = fun i => (fs.map fun f => (f.offset, (szOf C.P f.type).getD 0))[i]? := by
   funext i
   simp only [Array.getElem?_map]
   unfold fOff
   simp only [hT]
   cases hf : fs[i]? with
   | none => rfl
   | some fd =>
    have : fd ∈ fs.toList := by simpa using Array.mem_of_getElem? hf
    obtain ⟨k, hk⟩ := Option.isSome_iff_exists.1 (hall fd this)
    obtain ⟨ti, h1, h2⟩ := szOf_some hk
    simp [hk, h1, h2]
  rw [hp] at hcs
  obtain ⟨out, hout, hol, hoc⟩ := fill_sound l z.cells v.cells cs ho rp hvl hvc hcs
  refine ⟨.agg out, ?_, OpPost.here f hK (agg_of_cells hol hoc)⟩
  simp only [Instr.build, Sem.run_bind, hv, Result.andThen_ok, run_underlying_none hT, run_mapM_places fs hall, List.map_toArray, hout, Sem.run_pure]
 ·rename_i x m e hn ha
  have hT := arrT_some ha
  obtain ⟨sz, hsz, g2⟩ := need_some g
  obtain ⟨cs, hcs, hK⟩ := need_some g2
  obtain ⟨out, hout, hol, hoc⟩ := fill_sound l z.cells v.cells cs ho rp hvl hvc hcs
  refine ⟨.agg out, ?_, OpPost.here f hK (agg_of_cells hol hoc)⟩
  simp only [Instr.build, Sem.run_bind, hv, Result.andThen_ok, run_underlying_none hT, run_sizeOf' hsz, List.map_toArray, hout, Sem.run_pure]
 ·exact g.elim
end
end Go.Av
namespace Go.Av
open Go.RowKit
section
variable {C : Ctx} {B n : Nat} {S : Addr → Prop} {μ : Map} {h : Heap} {w : World} {t : Env} {a : Act} {K : AVal → Heap → Prop}
theorem flat_at {n : Nat} : ∀ (rows : List AVal) (i : Nat) (r : AVal) (j : Nat) (c : AVal), (∀ x ∈ rows, x.cells.length = n) → rows[i]? = some r → r.cells[j]? = some c →
  (rows.flatMap AVal.cells)[i * n + j]? = some c
 | [], i, r, j, c, _, hi, _ => by simp at hi
 | x :: rows, 0, r, j, c, hl, hi, hj => by
  simp at hi; subst hi
  rw [List.flatMap_cons, Nat.zero_mul, Nat.zero_add, List.getElem?_append_left (List.getElem?_eq_some_iff.1 hj).1]; exact hj
 | x :: rows, i + 1, r, j, c, hl, hi, hj => by
  have hx := hl x (by simp)
  rw [List.flatMap_cons, List.getElem?_append_right (by rw [hx, Nat.add_mul]; omega), hx]
  rw [show (i + 1) * n + j - n = i * n + j from by rw [Nat.add_mul]; omega]
  exact flat_at rows i r j c (fun y hy => hl y (by simp [hy])) (by simpa using hi) hj
theorem flat_len {n : Nat} : ∀ (rows : List AVal), (∀ x ∈ rows, x.cells.length = n) → (rows.flatMap AVal.cells).length = rows.length * n
 | [], _ => by simp
 | x :: rows, hl => by
  rw [List.flatMap_cons, List.length_append, hl x (by simp), flat_len rows (fun y hy => hl y (by simp [hy])), List.length_cons, Nat.add_mul]; omega
theorem fillA_rows {n : Nat} : ∀ (parts : List (Nat × AVal)) (s : Nat) (zs : List AVal), parts.map (·.1) = List.range' s parts.length → (∀ x ∈ parts.map (·.2), x.cells.length = n ∧ x.lies = true) →
  (s + parts.length) * n ≤ zs.length →
  fillA (fun i => some (i * n, n)) zs parts = some (zs.take (s * n) ++ (parts.map (·.2)).flatMap AVal.cells ++ zs.drop ((s + parts.length) * n))
 | [], s, zs, _, _, hz => by simp [fillA]
 | (i, x) :: rest, s, zs, hi, hx, hz => by
  simp only [List.map_cons, List.length_cons, List.range'_succ, List.cons.injEq] at hi
  obtain ⟨rfl, hi⟩ := hi
  have hx0 := hx x (by simp)
  simp only [List.length_cons] at hz
  have h1 : (i + 1) * n ≤ (i + (rest.length + 1)) * n := Nat.mul_le_mul_right _ (by omega)
  have h2 : (i + 1) * n = i * n + n := by rw [Nat.add_mul]; omega
  rw [fillA]
  simp only []
  rw [if_pos ⟨hx0.1, by omega, hx0.2⟩]
  have hlen : (zs.take (i * n) ++ x.cells ++ zs.drop (i * n + n)).length = zs.length := by simp [hx0.1]; omega
  rw [fillA_rows rest (i + 1) _ hi (fun y hy => hx y (by simp at hy ⊢; exact .inr hy)) (by rw [hlen, show i + 1 + rest.length = i + (rest.length + 1) from by omega]; exact hz)]
  have ht : (zs.take (i * n)).length = i * n := by simp; omega
  have e1 : (zs.take (i * n) ++ x.cells ++ zs.drop (i * n + n)).take ((i + 1) * n) = zs.take (i * n) ++ x.cells := by
   rw [h2, List.take_append_of_le_length (by simp [hx0.1]; omega)]
   exact List.take_of_length_le (by simp [hx0.1]; omega)
  have e2 : (zs.take (i * n) ++ x.cells ++ zs.drop (i * n + n)).drop ((i + 1 + rest.length) * n) = zs.drop ((i + (rest.length + 1)) * n) := by
   have e3 : (zs.take (i * n) ++ x.cells).length = i * n + n := by simp [hx0.1]; omega
   rw [List.drop_append, e3, List.drop_of_length_le (by rw [e3, Nat.add_mul, h2]; omega), List.nil_append, List.drop_drop]
   congr 1
   have e4 : (i + 1 + rest.length) * n = i * n + n + rest.length * n := by rw [Nat.add_mul, Nat.add_mul]; omega
   have e5 : (i + (rest.length + 1)) * n = i * n + n + rest.length * n := by rw [Nat.add_mul, Nat.add_mul]; omega
   omega
  rw [e1, e2]
  simp [List.append_assoc]
theorem buildSlice_sound (f : Fits C B S μ h w) (r : REnv n w S μ t a) {T len : Nat} {parts : Array (Nat × Operand)} (ho : ∀ q ∈ parts.toList, okOpd n q.2 = true) (g : wpOp C (.buildSlice T len parts) t h K) :
  ∃ z w', (Instr.buildSlice T len (parts.map fun q => (q.1, a.eval q.2))).run C.P w = .ok z w' ∧ OpPost C B S μ w K z w' := by
 obtain ⟨l⟩ := parts
 simp only [wpOp] at g
 obtain ⟨e, he, g1⟩ := need_some g
 clear g
 obtain ⟨m, hm, g2⟩ := need_some g1
 clear g1
 split at g2
 ·rename_i hlen0
  subst hlen0
  obtain ⟨hp0, hK⟩ := g2
  have hl0 : l = [] := by simpa using hp0
  subst hl0
  obtain ⟨f', st⟩ := f.foreign (.cells #[] e) (S' := S) (fun _ ha => ha) (fun _ ha => .inl ha)
  refine ⟨.slice (some ⟨w.heap.size, 0, none⟩) 0 0, w.alloc (.cells #[] e), ?_, _, _, S, _, hK, st, f', .ez _⟩
  simp only [Instr.buildSlice, Sem.run_bind, run_underlying_none (elmT_some he), Result.andThen_ok, run_sizeOf' hm, Nat.zero_mul]
  have hr : Array.range 0 = #[] := Array.eq_empty_of_size_eq_zero (by simp)
  simp [Instr.fill, newRow, run_newObj, hr]
 obtain ⟨hsz, hlen, hm0, hbig, hidx, hz, hall, hK⟩ := g2
 have hsz : l.length = len := by simpa using hsz
 have hT := elmT_some he
 have rp : ∀ x, okOpd n x = true → Rep w S μ (aev C.G t x) (a.eval x) := fun x hx => aev_rep f r x hx
 simp only [Option.map_eq_some_iff, Prod.mk.injEq] at hz
 obtain ⟨z, hz, hzl, hzs⟩ := hz
 obtain ⟨v, hv, hvl, hvc⟩ := zero_cells hz hzs w S μ
 -- the zeros
 generalize hzz : (List.range (len * m)).map (fun k => z.cells.getD (k % m) default) = zs
 have hzlen : zs.length = len * m := by subst hzz; simp
 generalize hcz : (Array.range (len * m)).map (fun k => v.cells[k % v.cells.size]!) = cz
 have hczl : cz.size = zs.length := by subst hcz; subst hzz; simp
 have hzc : ∀ (i : Nat) (c : AVal), zs[i]? = some c → c.sto = true ∧ ∃ u, cz[i]? = some u ∧ Rep w S μ c u := by
  intro i c hi
  have hlt : i < len * m := by rw [← hzlen]; exact (List.getElem?_eq_some_iff.1 hi).1
  subst hzz
  simp only [List.getElem?_map, List.getElem?_range hlt, Option.map_some, Option.some.injEq] at hi
  have hmod : i % m < m := Nat.mod_lt _ hm0
  obtain ⟨h1, u, hu, hr⟩ := hvc (i % m) (z.cells[i % m]'(by rw [hzl]; exact hmod)) (List.getElem?_eq_getElem _)
  have ec : z.cells.getD (i % m) default = z.cells[i % m]'(by rw [hzl]; exact hmod) := by simp [List.getD, List.getElem?_eq_getElem (show i % m < z.cells.length by rw [hzl]; exact hmod)]
  rw [ec] at hi
  subst hi
  refine ⟨h1, u, ?_, hr⟩
  subst hcz
  have hlt2 : i < (Array.range (len * m)).size := by simpa using hlt
  simp only [Array.getElem?_map, Array.getElem?_eq_getElem hlt2, Array.getElem_range, Option.map_some, Option.some.injEq]
  have e1 : v.cells.size = m := by rw [hvl, hzl]
  rw [e1]
  simp [getElem!_def, hu]
 have hmap1 : (l.map fun q => (q.1, aev C.G t q.2)).map (·.1) = List.range' 0 (l.map fun q => (q.1, aev C.G t q.2)).length := by
  simp only [List.map_map, List.length_map, hsz]
  rw [← List.range_eq_range']; exact hidx
 have hmap2 : (l.map fun q => (q.1, aev C.G t q.2)).map (·.2) = l.map fun q => aev C.G t q.2 := by simp
 have hfa := fillA_rows (n := m) (l.map fun q => (q.1, aev C.G t q.2)) 0 zs hmap1 (by rw [hmap2]; exact hall) (by simp [hsz, hzlen])
 rw [hmap2] at hfa
 have hend : zs.drop ((0 + (l.map fun q => (q.1, aev C.G t q.2)).length) * m) = [] := List.drop_of_length_le (by simp [hsz, hzlen])
 rw [hend, Nat.zero_mul, List.take_zero, List.nil_append, List.append_nil] at hfa
 obtain ⟨out, hout, hol, hoc⟩ := fill_sound l zs cz _ ho rp hczl hzc hfa
 generalize hrows : (l.map fun q => aev C.G t q.2) = rows at hall hK hol hoc
 have hrl : rows.length = len := by subst hrows; simpa using hsz
 have hl1 : ∀ x ∈ rows, x.cells.length = m := fun x hx => (hall x hx).1
 have hrun : (Instr.buildSlice T len (l.map fun q => (q.1, a.eval q.2)).toArray).run C.P w = .ok (.slice (some ⟨w.heap.size, 0, none⟩) len len) (w.alloc (.cells out e)) := by
  have hnb : ¬ len * m > 16777216 := by omega
  have hn0 : len * m ≠ 0 := Nat.mul_ne_zero (by omega) (by omega)
  simp only [Instr.buildSlice, Sem.run_bind, run_underlying_none hT, Result.andThen_ok, run_sizeOf' hm, if_neg hnb, if_neg hn0, hv, Sem.run_pure, hcz, hout, newRow, run_newObj]
  rfl
 rcases hK with hK | hK
 ·have st := step_alloc f (.cells out e) ⟨some w.heap.size, 0, m, len⟩
  have fl : Flat (w.alloc (.cells out e)) S (μ ++ [⟨some w.heap.size, 0, m, len⟩]) m rows out.toList := by
   refine ⟨by simp [hol, flat_len rows hl1], fun i q hi => hl1 q (List.mem_of_getElem? hi), fun i q j c hi hj => ?_, fun i q j c hi hj => ?_⟩
   ·exact (hoc _ c (flat_at rows i q j c hl1 hi hj)).1
   ·obtain ⟨_, u, hu, hr⟩ := hoc _ c (flat_at rows i q j c hl1 hi hj)
    exact ⟨u, by simpa using hu, hr.mono st⟩
  have hfit : BlkFits (w.alloc (.cells out e)) S (μ ++ [⟨some w.heap.size, 0, m, len⟩]) ⟨some w.heap.size, 0, m, len⟩ (.row e m 0 rows) :=
   rowFits_of hm0 rfl rfl rfl (new_heap w _) (by rw [hol, flat_len rows hl1, hrl]) ⟨hlen, by simp [hrl]⟩ (by simp only [maxLen]; have : len * 1 ≤ len * m := Nat.mul_le_mul_left _ hm0; omega) fl (by rw [← fl.len, List.take_length])
  refine ⟨_, _, by simpa using hrun, _, _, S, _, hK, st, f.alloc _ _ _ rfl hfit, ?_⟩
  exact .hs _ _ _ _ _ ⟨some w.heap.size, 0, m, len⟩ _ (by rw [← f.len]; simp) (Nat.le_refl _) (by simp) rfl fun _ => .inr ⟨_, rfl, by simp, by simp⟩
 ·have hof : out.size = len * m := by rw [hol, flat_len rows hl1, hrl]
  obtain ⟨f', st⟩ := f.foreign (.cells out e) (S' := fun a => S a ∨ (a.block = w.heap.size ∧ a.spot = none)) (fun a ha => .inl ha) (fun a ha => ha.imp id (·.1))
  have cellat : ∀ k x, out[k]? = some x → (w.alloc (.cells out e)).cell? ⟨w.heap.size, k, none⟩ = some x := fun k x hx => by
   have hnh := new_heap w (.cells out e)
   simp only [World.cell?, hnh]
   exact hx
  have hne : rows ≠ [] := fun e => by rw [e] at hrl; simp at hrl; omega
  refine ⟨_, _, by simpa using hrun, _, _, _, _, hK, st, f', ?_⟩
  have hsl := Rep.sl (w := w.alloc (.cells out e)) (S := fun a => S a ∨ (a.block = w.heap.size ∧ a.spot = none)) (μ := μ) m rows w.heap.size 0 len (fun i j => (out[i * m + j]?).getD undef) hne (by omega)
   (by simp only [maxLen]; have : len * 1 ≤ len * m := Nat.mul_le_mul_left _ hm0; omega) (fun i q hi => hl1 q (List.mem_of_getElem? hi)) ?_ ?_
  ·rw [hrl] at hsl; exact hsl
  ·intro i q j c hi hj
   obtain ⟨hcs, u, hu, hr⟩ := hoc _ c (flat_at rows i q j c hl1 hi hj)
   refine ⟨.inr ⟨rfl, rfl⟩, ?_, hcs⟩
   rw [Nat.zero_add, cellat _ u hu, hu]; rfl
  ·intro i q j c hi hj
   obtain ⟨_, u, hu, hr⟩ := hoc _ c (flat_at rows i q j c hl1 hi hj)
   rw [hu]; exact hr.mono st
end
end Go.Av
namespace Go.Av
open Go.RowKit
section
variable {C : Ctx} {B n : Nat} {S : Addr → Prop} {μ : Map} {h : Heap} {w : World} {t : Env} {a : Act} {P : Program} {K : AVal → Heap → Prop}
theorem bytesA_at : ∀ {ys : List AVal} {bs : List UInt8}, bytesA ys = some bs → ys.length = bs.length ∧ ∀ (i : Nat) (y : AVal), ys[i]? = some y → ∃ b, bs[i]? = some b ∧ y = .int .u8 b.toNat
 | [], bs, g => by cases g; exact ⟨rfl, fun i y hi => by simp at hi⟩
 | y :: ys, bs, g => by
  unfold bytesA at g
  split at g
  ·rename_i h1; cases h1
  ·rename_i m rest h1
   obtain ⟨rfl, rfl⟩ := List.cons.inj h1
   split at g
   case isFalse => cases g
   rename_i hm
   obtain ⟨l, hl, rfl⟩ := Option.map_eq_some_iff.1 g
   obtain ⟨e1, e2⟩ := bytesA_at hl
   refine ⟨by simp [e1], fun i y hi => ?_⟩
   match i with
   | 0 => simp only [List.getElem?_cons_zero, Option.some.injEq] at hi; subst hi; exact ⟨_, by rw [List.getElem?_cons_zero], by rw [hm]⟩
   | i + 1 => rw [List.getElem?_cons_succ] at hi; rw [List.getElem?_cons_succ]; exact e2 i y hi
  ·cases g
theorem row_bytes {m : MB} {e ver : Nat} {rows : List AVal} (r : RowFits w S μ m e 1 ver rows) {b k off : Nat} (hb : m.blk = some b) {bs : List UInt8} (g : bytesA ((rows.drop off).take k) = some bs) :
  ∃ cur, w.heap[b]? = some (.cells cur e (0, 0)) ∧ cur.size = m.cap ∧ (∀ j x, bs[j]? = some x → w.cell? ⟨b, off + j, none⟩ = some (.int .u8 x.toNat)) ∧ (0 < m.cap ∧ rows.length ≤ m.cap) ∧ m.cap ≤ maxLen := by
 rcases r.lies with ⟨h0, _⟩ | ⟨b', cur, h1, h2, h3, h4, h5, h6⟩
 ·rw [hb] at h0; cases h0
 ·rw [hb] at h1; cases h1
  obtain ⟨e1, e2⟩ := bytesA_at g
  refine ⟨cur, h2, by simpa using h3, fun j x hx => ?_, h4, h5⟩
  have hj := (List.getElem?_eq_some_iff.1 hx).1
  have hlt : j < ((rows.drop off).take k).length := by omega
  have hy := List.getElem?_eq_getElem hlt
  obtain ⟨x', hx', hy'⟩ := e2 j _ hy
  rw [hx] at hx'; cases hx'
  have hk : j < k := by simp at hlt; omega
  rw [List.getElem?_take_of_lt hk, List.getElem?_drop] at hy
  obtain ⟨u, hu, hr⟩ := h6 (off + j) _ 0 _ hy (by rw [hy']; rfl)
  cases hr
  simp only [Nat.mul_one, Nat.add_zero] at hu
  simp [World.cell?, h2, hu]
theorem strOf_bytes (bs : List UInt8) : strOfNums (bs.map fun x => (x.toNat : Int)) = ⟨bs.toArray⟩ := by
 unfold strOfNums
 congr 2
 rw [List.map_map]
 conv => rhs; rw [← List.map_id bs]
 refine List.map_congr_left fun x _ => ?_
 simp
theorem getD_bytes {bs : List UInt8} {i : Nat} {x : UInt8} (hx : bs[i]? = some x) : (bs.map fun x => (x.toNat : Int)).getD i 0 = x.toNat := by
 simp [List.getD, hx]
theorem bytesStr_some {src dst : TypeId} (g : bytesStr P src dst = true) : ∃ e, P.underlying src = some (.slice e) ∧ P.underlying e = some (.int .u8) ∧ P.underlying dst = some .string := by
 unfold bytesStr at g
 split at g
 ·rename_i e he
  split at g
  ·rename_i h1 h2; exact ⟨e, he, h1, h2⟩
  ·cases g
 ·cases g
theorem convK_sound (f : Fits C B S μ h w) {src dst : TypeId} {x : AVal} {u : Value} (hx : Rep w S μ x u) {k : AVal → Prop} (g : convK P src dst x h k) :
  ∃ r z, k r ∧ (convert src dst u).run P w = .ok z w ∧ Rep w S μ r z := by
 have bytes : ∀ (y : AVal), (∀ s, y ≠ .str s) → Rep w S μ y u → (bytesStr P src dst = true ∧ need (elemsOf h 1 y) fun ys => need (bytesA ys) fun bs => k (.str bs)) → ∃ r z, k r ∧ (convert src dst u).run P w = .ok z w ∧ Rep w S μ r z := by
  intro y hns hy g
  obtain ⟨hs, g⟩ := g
  obtain ⟨e, h1, h2, h3⟩ := bytesStr_some hs
  obtain ⟨ys, hel, g1⟩ := need_some g
  obtain ⟨bs, hbs, gk⟩ := need_some g1
  clear g g1
  have nilcase : ∀ (ad : Option Addr) (cap : Nat), bs = [] → u = .slice ad 0 cap → ∃ r z, k r ∧ (convert src dst u).run P w = .ok z w ∧ Rep w S μ r z := by
   intro ad cap hb hu
   subst hb; subst hu
   refine ⟨_, .string ⟨#[]⟩, gk, ?_, .str []⟩
   cases ad with
   | none => rw [run_convert_bytes_string w src dst e _ _ _ h1 h2 h3]; rfl
   | some ad =>
    obtain ⟨b, o, sp⟩ := ad
    rw [run_convert_bytes_string w src dst e _ _ _ h1 h2 h3]
    have := run_bytesToString (P := P) w ⟨b, o, sp⟩ 0 cap [] (by rfl)
    rw [this]; rfl
  unfold elemsOf at hel
  split at hel
  ·rename_i m es
   split at hel
   case isFalse => cases hel
   rename_i hm; subst hm; cases hel
   cases hy with
   | sl0 _ ad cap => cases hbs; exact nilcase ad cap rfl rfl
   | sl _ _ b o cap vs hne hcap hmx hl hc hr =>
    obtain ⟨e1, e2⟩ := bytesA_at hbs
    refine ⟨_, .string ⟨bs.toArray⟩, gk, ?_, .str bs⟩
    rw [run_convert_bytes_arg w src e h1 h2 b o ys.length cap (bs.map fun x => (x.toNat : Int)) (by simp [e1]) (fun i hi => ?_) dst h3, strOf_bytes]
    have hy := List.getElem?_eq_getElem hi
    obtain ⟨x, hx', hyx⟩ := e2 i _ hy
    have hcell := hc i _ 0 _ hy (by rw [hyx]; rfl)
    have hrep := hr i _ 0 _ hy (by rw [hyx]; rfl)
    rw [getD_bytes hx']
    simp only [Nat.mul_one, Nat.add_zero] at hcell
    rw [hcell.2.1]
    rw [hrep.int_inv]
  ·rename_i p ver off len room
   split at hel
   case h_2 => cases hel
   rename_i e' m rows hg
   split at hel
   case isFalse => cases hel
   rename_i hc
   obtain ⟨rfl, hlen⟩ := hc
   cases hel
   obtain ⟨mb, hm, hrow⟩ := f.row hg
   rcases hy.hs_now hm hrow.hver with ⟨hb, rfl, rfl, rfl⟩ | ⟨b, hb, hcap, rfl⟩
   ·simp only [List.take_zero] at hbs
    cases hbs
    exact nilcase none 0 rfl rfl
   ·obtain ⟨e1, e2⟩ := bytesA_at hbs
    obtain ⟨cur, hh, hcs, hcell, _⟩ := row_bytes hrow hb hbs
    have hlb : bs.length = len := by rw [← e1]; simp; omega
    refine ⟨_, .string ⟨bs.toArray⟩, gk, ?_, .str bs⟩
    rw [hrow.hsize, Nat.mul_one]
    rw [run_convert_bytes_arg w src e h1 h2 b off len _ (bs.map fun x => (x.toNat : Int)) (by simp [hlb]) (fun i hi => ?_) dst h3, strOf_bytes]
    have hx' := List.getElem?_eq_getElem (show i < bs.length by omega)
    rw [hcell i _ hx', getD_bytes hx']
  ·cases hel; cases hbs
   obtain rfl := hy.nil_inv
   exact nilcase none 0 rfl rfl
  ·cases hel; cases hbs
   cases hy with
   | ez ad => exact nilcase (some ad) 0 rfl rfl
  ·exact absurd rfl (hns _)
  ·cases hel
 unfold convK at g
 split at g
 ·rename_i p ver
  obtain ⟨⟨e, m, rows⟩, hg, hp, hne, hk⟩ := need_some g
  obtain ⟨mb, hm, hf⟩ := f.row hg
  obtain ⟨b, hb, rfl⟩ := hx.hp_now hm hf.hver
  rcases hf.lies with ⟨h0, _⟩ | ⟨b', cur, h1, h2, h3, h4, h5, h6⟩
  ·rw [hb] at h0; cases h0
  ·rw [hb] at h1; cases h1
   have hsh : w.shape? b = some (e, cur.size) := by simp [World.shape?, h2]
   have hpos := hf.pos
   have hcp : 0 < cur.size := by rw [h3]; exact Nat.mul_pos h4.1 hpos
   refine ⟨_, _, hk, ?_, hx⟩
   simp only [Nat.zero_mul, Nat.zero_add]
   unfold ptrConv at hp
   split at hp
   ·rename_i t hs hd
    split at hp
    ·rename_i j hj
     exact Lib.run_to_unsafe w ⟨b, 0, none⟩ hs hd hj (by simpa using hp) hsh hcp
    ·cases hp
   ·rename_i u hs hd
    simp only [Bool.and_eq_true, beq_iff_eq] at hp
    obtain ⟨⟨hi, hce⟩, hlay⟩ := hp
    obtain ⟨j, hj⟩ := Option.isSome_iff_exists.1 hi
    refine Lib.run_from_unsafe w ⟨b, 0, none⟩ hs hd hj hsh ?_
    have hdep : P.depth = (2 * (P.types.size + Made.depth)) + 1 + 1 := rfl
    have hdiv : cur.size / P.cellsOf e = mb.cap := by rw [hce, h3]; exact Nat.mul_div_cancel _ hpos
    rw [hdiv, hdep]
    simp only [liesAt, Bool.or_eq_true]
    left
    rw [hdep]
    have hn0 : P.cellsOf e ≠ 0 := by omega
    rcases Bool.or_eq_true _ _ ▸ hlay with hu | hfld
    ·have hu := eq_of_beq hu
     subst hu
     simp [rowAt, hn0, sameLayout]
     left; omega
    ·split at hfld
     ·rename_i fs hfs
      simp only [Bool.and_eq_true, decide_eq_true_eq, Bool.not_eq_true'] at hfld
      obtain ⟨⟨hst, hpu⟩, hany⟩ := hfld
      obtain ⟨f, hf1, hf2⟩ := Array.any_eq_true'.1 hany
      simp only [Bool.and_eq_true, beq_iff_eq] at hf2
      have hinner : rowAt P (fun x => sameLayout P (2 * (P.types.size + Made.depth) + 1 + 1) x u) (2 * (P.types.size + Made.depth) + 1) f.type 1 0 1 = true := by
       have hn1 : P.cellsOf f.type ≠ 0 := by rw [hf2.2]; omega
       simp [rowAt, hn1, sameLayout, hf2.2]
       omega
      unfold rowAt
      simp only [hn0, if_neg, not_false_eq_true, ite_false, Bool.or_eq_true, hfs, Nat.zero_div, Nat.zero_mod]
      right
      simp only [Bool.and_eq_true, decide_eq_true_eq, hst, Bool.not_false, true_and]
      refine ⟨h4.1, Array.any_eq_true'.2 ⟨f, hf1, ?_⟩⟩
      simp only [hf2.1, Nat.le_refl, decide_true, Bool.true_and, Nat.zero_add, Nat.sub_self, hf2.2, hpu, Bool.and_eq_true, decide_eq_true_eq, true_and]
      rw [← hf2.2]
      rw [hf2.2] at hinner ⊢
      exact hinner
     ·cases hfld
   ·cases hp
 ·exact bytes _ (by simp) hx g
 ·exact bytes _ (by simp) hx g
 ·exact bytes _ (by simp) hx ⟨g.1, g.2⟩
 ·obtain ⟨v, hv, hk⟩ := need_some g
  obtain ⟨z, hr, hz⟩ := aconv_sound (P := P) hx hv
  exact ⟨v, z, hk, hr, hz⟩
theorem sdataK_sound (f : Fits C B S μ h w) {x : AVal} {u : Value} (hx : Rep w S μ x u) {k : AVal → Prop} (g : sdataK x h k) (ts : Array TypeId) (ty : TypeId) :
  ∃ r z, k r ∧ (Builtin.unsafeSliceData_ ts ty #[u]).run P w = .ok z w ∧ Rep w S μ r z := by
 unfold sdataK at g
 split at g
 ·rename_i p ver len
  obtain ⟨hrow, g⟩ := g
  obtain ⟨⟨e, m, rows⟩, hg⟩ := Option.isSome_iff_exists.1 hrow
  obtain ⟨mb, hm, hf⟩ := f.row hg
  rcases hx.hs_now hm hf.hver with ⟨hb, _, rfl, rfl⟩ | ⟨b, hb, hcap, rfl⟩
  ·rw [if_neg (by omega)] at g
   exact ⟨_, _, g, Lib.run_unsafeSliceData_nil w ts ty 0 0, .pa none⟩
  ·rcases hf.lies with ⟨h0, _⟩ | ⟨b', cur, h1, h2, h3, h4, h5, h6⟩
   ·rw [hb] at h0; cases h0
   ·have := Lib.run_unsafeSliceData_row (P := P) w ts ty ⟨b, 0 * mb.size, none⟩ len (mb.cap - 0) (by omega)
    split at g
    ·exact ⟨_, _, g, this, by simpa using mk_hp (i := 0) (off := 0) hm hf.hver hb⟩
    ·exact ⟨_, _, g, this, .pa _⟩
 ·obtain rfl := hx.nil_inv
  exact ⟨_, _, g, Lib.run_unsafeSliceData_nil w ts ty 0 0, .pa none⟩
 ·exact g.elim
theorem only_freeze (w : World) (p : Addr) (k : Nat) : Only w (w.freeze p k) (some p.block) := by
 have hb := Lib.below_freeze (B := 0) (Below.refl 0 w) (p := p) (Nat.zero_le _) k
 refine ⟨hb.os, hb.tape, hb.output, hb.size, fun i _ hi => ?_⟩
 have h1 : i ≠ p.block := fun e => hi (by rw [e])
 unfold World.freeze
 split
 ·rfl
 ·simp [Array.getElem?_modify, Ne.symm h1]
theorem ustrK_sound (f : Fits C B S μ h w) {T T2 ty : TypeId} {x y : AVal} {u v : Value} (hx : Rep w S μ x u) (hy : Rep w S μ y v) (g : ustrK P T x y h K) :
  ∃ z w', (Builtin.unsafeString_ #[T, T2] ty #[u, v]).run P w = .ok z w' ∧ OpPost C B S μ w K z w' := by
 unfold ustrK at g
 split at g
 case h_2 => exact g.elim
 rename_i m
 obtain rfl := hy.int_inv
 split at g
 ·rename_i h0
  subst h0
  split at g
  ·cases hx with
   | pa ad => exact ⟨_, _, Lib.run_unsafeString_none w T T2 ty ad, OpPost.here f g (.str [])⟩
  ·exact g.elim
 ·split at g
  case h_2 => exact g.elim
  rename_i p ver
  obtain ⟨⟨e, c, rows⟩, hg, hc, hT, hm0, hml, g⟩ := need_some g
  simp only at hc hT hml g
  subst hc
  obtain ⟨bs, hbs, hk⟩ := need_some g
  obtain ⟨mb, hm, hf⟩ := f.row hg
  obtain ⟨b, hb, rfl⟩ := hx.hp_now hm hf.hver
  have hbs' : bytesA ((rows.drop 0).take m.toNat) = some bs := by simpa using hbs
  obtain ⟨cur, hh, hcs, hcell, hcap, hmax⟩ := row_bytes hf hb hbs'
  obtain ⟨e1, e2⟩ := bytesA_at hbs
  have hlb : bs.length = m.toNat := by rw [← e1]; simp; omega
  obtain ⟨hp, hce⟩ : P.underlying T = some (.pointer e) ∧ P.cellsOf e = 1 := by
   unfold bptr at hT
   split at hT
   ·rename_i t ht; simp only [Bool.and_eq_true, beq_iff_eq] at hT; obtain ⟨rfl, h2⟩ := hT; exact ⟨ht, h2⟩
   ·cases hT
  have hsh : w.shape? b = some (e, cur.size) := by simp [World.shape?, hh]
  have hrun := Lib.run_unsafeString_row (P := P) w T T2 ty e hp hce b cur.size hsh bs (by intro e0; rw [e0] at hlb; simp at hlb; omega) (by omega) (by unfold maxLen at hmax; omega) (fun j x hj => by
   rw [addr_add]; simpa using hcell j x hj)
  have em : (m : Int) = bs.length := by omega
  have only : Only w (w.freeze ⟨b, 0, none⟩ bs.length) mb.blk := by rw [hb]; exact only_freeze w ⟨b, 0, none⟩ _
  have hset : List.set μ p mb = μ := by
   obtain ⟨hlt, he⟩ := List.getElem?_eq_some_iff.1 hm
   rw [← he, List.set_getElem_self]
  obtain ⟨f', st⟩ := f.update (m' := mb) (k' := .dead) hm only (Nat.le_refl _) (fun _ => rfl) (.inl rfl) trivial
  refine ⟨_, _, ?_, _, _, S, _, hk, st, f', .str bs⟩
  simp only [Nat.zero_mul, Nat.zero_add]
  rw [em]; exact hrun
theorem maxK_sound {x y : AVal} {u v : Value} (hx : Rep w S μ x u) (hy : Rep w S μ y v) {k : AVal → Prop} (ts : Array TypeId) (ty : TypeId) :
  (maxK (fun a b => decide (b > a)) x y k → ∃ r z, k r ∧ (Builtin.max_ ts ty #[u, v]).run P w = .ok z w ∧ Rep w S μ r z) ∧
  (maxK (fun a b => decide (b < a)) x y k → ∃ r z, k r ∧ (Builtin.min_ ts ty #[u, v]).run P w = .ok z w ∧ Rep w S μ r z) := by
 constructor <;> intro g <;> unfold maxK at g <;> split at g <;> first | exact g.elim | skip
 ·obtain rfl := hx.int_inv; obtain rfl := hy.int_inv
  exact ⟨_, _, g, by simp [Builtin.max_, Builtin.max2], .int _ _⟩
 ·obtain rfl := hx.int_inv; obtain rfl := hy.int_inv
  exact ⟨_, _, g, by simp [Builtin.min_, Builtin.min2], .int _ _⟩
end
end Go.Av
namespace Go.Av
open Go.RowKit
section
variable {C : Ctx} {B n : Nat} {S : Addr → Prop} {μ : Map} {h : Heap} {w : World} {t : Env} {a : Act} {K : AVal → Heap → Prop}
theorem OpOk.val {Φ : Value → World → Prop} {P : Program} {s : Sem Next} {z : Value} {w' : World} (hr : s.run P w = .ok (.value z) w') (p : Φ z w') : OpOk P Φ (s.run P w) := by rw [hr]; exact p
theorem RepL.of_map (rp : ∀ x, okOpd n x = true → Rep w S μ (aev C.G t x) (a.eval x)) (l : List Operand) (ho : ∀ x ∈ l, okOpd n x = true) : RepL w S μ (l.map (aev C.G t)) (l.map a.eval) := by
 refine ⟨by simp, fun i x hi => ?_⟩
 simp only [List.getElem?_map, Option.map_eq_some_iff] at hi
 obtain ⟨o, hoi, rfl⟩ := hi
 have e : (l.map a.eval).getD i undef = a.eval o := by simp [List.getD, hoi]
 rw [e]
 exact rp o (ho o (List.mem_of_getElem? hoi))
theorem RepL.append {x1 x2 : List AVal} {v1 v2 : List Value} (r1 : RepL w S μ x1 v1) (r2 : RepL w S μ x2 v2) : RepL w S μ (x1 ++ x2) (v1 ++ v2) := by
 refine ⟨by simp [r1.1, r2.1], fun i x hi => ?_⟩
 by_cases hlt : i < x1.length
 ·rw [List.getElem?_append_left hlt] at hi
  have := r1.2 i x hi
  simp only [List.getD] at this ⊢
  rw [List.getElem?_append_left (by rw [r1.1]; exact hlt)]; exact this
 ·rw [List.getElem?_append_right (by omega)] at hi
  have := r2.2 _ x hi
  simp only [List.getD] at this ⊢
  rw [List.getElem?_append_right (by rw [r1.1]; omega), r1.1]; exact this
theorem wpCall_sound (f : Fits C B S μ h w) (r : REnv n w S μ t a) {c : Call} {ty : TypeId} (ho : ∀ x ∈ c.operands.toList, okOpd n x = true) (g : wpCall C c t h K) :
  OpOk C.P (OpPost C B S μ w K) ((do let d ← resolve a.eval c ty; invoke d.target d.args : Sem Next).run C.P w) := by
 have rp : ∀ x, okOpd n x = true → Rep w S μ (aev C.G t x) (a.eval x) := fun x hx => aev_rep f r x hx
 obtain ⟨callee, ⟨args⟩, ⟨argTypes⟩⟩ := c
 unfold wpCall at g
 cases callee with
 | builtin b =>
  cases b <;> simp only at g <;> try exact g.elim
  case len =>
   split at g
   ·rename_i x T
    obtain ⟨k, hk, hK⟩ := need_some g
    have hx := rp x (ho x (by simp [Call.operands]))
    refine OpOk.val (z := .int .i64 k) (w' := w) ?_ (OpPost.here f hK (.int _ _))
    simp only [resolve, Sem.run_bind, Sem.run_pure, Result.andThen_ok, invoke, builtin, List.map_toArray, List.map_cons, List.map_nil, alen_sound f hx hk]
   ·exact g.elim
  case append =>
   split at g
   ·rename_i x y T T'
    obtain ⟨hT, g⟩ := g
    have hx := rp x (ho x (by simp [Call.operands]))
    have hy := rp y (ho y (by simp [Call.operands]))
    obtain ⟨z, w', hr, hp⟩ := wpAppend_sound (ty := ty) f hT hx hy g
    refine OpOk.val (z := z) (w' := w') ?_ hp
    simp only [resolve, Sem.run_bind, Sem.run_pure, Result.andThen_ok, invoke, builtin, List.map_toArray, List.map_cons, List.map_nil, hr]
   ·exact g.elim
  case max =>
   split at g
   ·rename_i _ x y
    have hx := rp x (ho x (by simp [Call.operands]))
    have hy := rp y (ho y (by simp [Call.operands]))
    obtain ⟨r, z, hk, hr, hz⟩ := (maxK_sound (P := C.P) (w := w) hx hy ⟨argTypes⟩ ty).1 g
    refine OpOk.val (z := z) (w' := w) ?_ (OpPost.here f hk hz)
    simp only [resolve, Sem.run_bind, Sem.run_pure, Result.andThen_ok, invoke, builtin, List.map_toArray, List.map_cons, List.map_nil, hr]
   ·exact g.elim
  case min =>
   split at g
   ·rename_i _ x y
    have hx := rp x (ho x (by simp [Call.operands]))
    have hy := rp y (ho y (by simp [Call.operands]))
    obtain ⟨r, z, hk, hr, hz⟩ := (maxK_sound (P := C.P) (w := w) hx hy ⟨argTypes⟩ ty).2 g
    refine OpOk.val (z := z) (w' := w) ?_ (OpPost.here f hk hz)
    simp only [resolve, Sem.run_bind, Sem.run_pure, Result.andThen_ok, invoke, builtin, List.map_toArray, List.map_cons, List.map_nil, hr]
   ·exact g.elim
  case unsafeSliceData =>
   split at g
   ·rename_i _ x
    have hx := rp x (ho x (by simp [Call.operands]))
    obtain ⟨r, z, hk, hr, hz⟩ := sdataK_sound (P := C.P) f hx g ⟨argTypes⟩ ty
    refine OpOk.val (z := z) (w' := w) ?_ (OpPost.here f hk hz)
    simp only [resolve, Sem.run_bind, Sem.run_pure, Result.andThen_ok, invoke, builtin, List.map_toArray, List.map_cons, List.map_nil, hr]
   ·exact g.elim
  case unsafeString =>
   split at g
   ·rename_i x y T T2
    have hx := rp x (ho x (by simp [Call.operands]))
    have hy := rp y (ho y (by simp [Call.operands]))
    obtain ⟨z, w', hr, hp⟩ := ustrK_sound (T2 := T2) (ty := ty) f hx hy g
    refine OpOk.val (z := z) (w' := w') ?_ hp
    simp only [resolve, Sem.run_bind, Sem.run_pure, Result.andThen_ok, invoke, builtin, List.map_toArray, List.map_cons, List.map_nil, hr]
   ·exact g.elim
 | value fo =>
  simp only at g
  have hf := rp fo (ho fo (by simp [Call.operands]))
  split at g
  ·rename_i fid first captured hfe
   rw [hfe] at hf
   generalize hv : a.eval fo = v at hf
   cases hf with
   | fn _ _ _ xv cv h1 h2 h3 h4 =>
    have hargs := RepL.of_map rp args (fun x hx => ho x (by simp [Call.operands] at hx ⊢; exact .inr hx))
    have hall : RepL w S μ (first ++ args.map (aev C.G t) ++ captured) (xv ++ args.map a.eval ++ cv) :=
     (RepL.append ⟨h1, h3⟩ hargs).append ⟨h2, h4⟩
    have hs := g B S μ w _ f hall
    have e : (do let d ← resolve a.eval { callee := .value fo, args := ⟨args⟩, argTypes := ⟨argTypes⟩ } ty; invoke d.target d.args : Sem Next).run C.P w = (callFunc fid (xv ++ args.map a.eval ++ cv).toArray).run C.P w := by
     simp only [resolve, hv, Deferred.ofValue, Sem.run_bind, Sem.run_pure, Result.andThen_ok, invoke]
     congr 2
     simp
    rw [e]; exact hs
  ·exact g.elim
 | invoke rv m => exact g.elim
theorem wpOp_sound (o : Oper) (ho : ∀ x ∈ o.op.operands.toList, okOpd n x = true) (f : Fits C B S μ h w) (r : REnv n w S μ t a) (g : wpOp C o.op t h K) :
  OpOk C.P (OpPost C B S μ w K) ((execOp a.eval o).run C.P w) := by
 have rp : ∀ x, okOpd n x = true → Rep w S μ (aev C.G t x) (a.eval x) := fun x hx => aev_rep f r x hx
 obtain ⟨dst, op, ty, pos, after, guard⟩ := o
 simp only at ho g
 cases op with
 | move x => exact OpOk.val (by simp only [execOp, Sem.run_pure]) (OpPost.here f g (rp x (ho x (by simp [Op.operands]))))
 | assign x => exact OpOk.val (by simp only [execOp, Sem.run_pure]) (OpPost.here f g (rp x (ho x (by simp [Op.operands]))))
 | pick c x y =>
  simp only [wpOp] at g
  have hc := rp c (ho c (by simp [Op.operands]))
  split at g
  ·rename_i q hq
   rw [hq] at hc
   have hc := hc.bool_inv
   cases q with
   | true => exact OpOk.val (z := a.eval x) (w' := w) (by simp [execOp, hc, asBool]) (OpPost.here f (g.1 rfl) (rp x (ho x (by simp [Op.operands]))))
   | false => exact OpOk.val (z := a.eval y) (w' := w) (by simp [execOp, hc, asBool]) (OpPost.here f (g.2 rfl) (rp y (ho y (by simp [Op.operands]))))
  ·exact g.elim
 | alloc e =>
  simp only [wpOp] at g
  obtain ⟨z, hz, h0, hs, hl, hK⟩ := need_some g
  obtain ⟨v, hv, hr, rfl⟩ := zroT_rep hz w S μ
  refine OpOk.val (vrun (z := .pointer (some ⟨w.heap.size, 0, none⟩)) (w' := w.alloc (.cells v.cells e)) ?_) (new_one f (hr (okVal_of_lies hs)) h0 hl hK)
  simp only [Instr.alloc, Sem.run_bind, hv, Result.andThen_ok, newVar, newRow, run_newObj, Sem.run_pure]
  rfl
 | box e x =>
  simp only [wpOp] at g
  obtain ⟨h0, hl, hK⟩ := g
  have hx := rp x (ho x (by simp [Op.operands]))
  refine OpOk.val (vrun (z := .pointer (some ⟨w.heap.size, 0, none⟩)) (w' := w.alloc (.cells (a.eval x).cells e)) ?_) (new_one f hx h0 hl hK)
  simp only [Instr.box, Sem.run_bind, Result.andThen_ok, newVar, newRow, run_newObj, Sem.run_pure]
  rfl
 | build T parts =>
  obtain ⟨z, hr, hp⟩ := build_sound f r (fun q hq => ho q.2 (by simp [Op.operands]; exact ⟨q.1, by simpa using hq⟩)) g
  exact OpOk.val (vrun hr) hp
 | buildSlice T len parts =>
  obtain ⟨z, w', hr, hp⟩ := buildSlice_sound f r (fun q hq => ho q.2 (by simp [Op.operands]; exact ⟨q.1, by simpa using hq⟩)) g
  exact OpOk.val (vrun hr) hp
 | load T x =>
  simp only [wpOp] at g
  have hx := rp x (ho x (by simp [Op.operands]))
  split at g
  ·rename_i cs hq
   rw [hq] at hx
   obtain ⟨v, hv, hK⟩ := need_some g
   obtain ⟨u, hu, hz⟩ := load_ad hx hv
   exact OpOk.val (vrun hu) (OpPost.here f hK hz)
  ·rename_i p ver i off hq
   rw [hq] at hx
   obtain ⟨⟨e, m, rows⟩, hg, g1⟩ := need_some g
   obtain ⟨row, hrow, g2⟩ := need_some g1
   obtain ⟨v, hv, hK⟩ := need_some g2
   obtain ⟨u, hu, hz⟩ := load_hp f hx hg hrow hv
   exact OpOk.val (vrun hu) (OpPost.here f hK hz)
  ·exact g.elim
 | store T x y =>
  simp only [wpOp] at g
  have hx := rp x (ho x (by simp [Op.operands]))
  have hy := rp y (ho y (by simp [Op.operands]))
  split at g
  ·rename_i p ver i off hq
   rw [hq] at hx
   obtain ⟨⟨e, m, rows⟩, hg, g1⟩ := need_some g
   obtain ⟨row, hrow, h1, h2, h3, hK⟩ := need_some g1
   obtain ⟨w', hr, hp⟩ := store_hp f hx hy hg hrow h1 h2 h3 hK
   have e : (execOp a.eval { dst, op := .store T x y, type := ty, pos, after, guard }).run C.P w = .ok .skip w' := urun hr
   rw [e]; exact hp
  ·exact g.elim
 | nilCheck x =>
  simp only [wpOp] at g
  have hx := rp x (ho x (by simp [Op.operands]))
  generalize hv : a.eval x = v at hx
  split at g
  ·rename_i p ver i off hq
   rw [hq] at hx
   obtain ⟨⟨⟨e, m, rows⟩, hg⟩, hK⟩ := And.imp_left Option.isSome_iff_exists.1 g
   obtain ⟨mb, hm, hf⟩ := f.row hg
   obtain ⟨b, hb, rfl⟩ := hx.hp_now hm hf.hver
   exact OpOk.val (by simp only [execOp, hv, Sem.run_pure]) (OpPost.here f hK hx)
  ·rename_i cs hq
   rw [hq] at hx
   obtain ⟨b, o, rfl⟩ : ∃ b o, v = .pointer (some ⟨b, o, none⟩) := by cases hx; exact ⟨_, _, rfl⟩
   exact OpOk.val (by simp only [execOp, hv, Sem.run_pure]) (OpPost.here f g hx)
  ·rename_i fid b c hq
   rw [hq] at hx
   obtain ⟨xv, cv, rfl⟩ : ∃ xv cv, v = .func (.func fid) xv cv := by cases hx; exact ⟨_, _, rfl⟩
   exact OpOk.val (by simp only [execOp, hv, Sem.run_pure]) (OpPost.here f g hx)
  ·rename_i T y hq
   rw [hq] at hx
   obtain ⟨u, rfl⟩ : ∃ u, v = .iface T u := by cases hx; exact ⟨_, rfl⟩
   exact OpOk.val (by simp only [execOp, hv, Sem.run_pure]) (OpPost.here f g hx)
  ·exact g.elim
 | binOp bop T x y T' =>
  simp only [wpOp] at g
  obtain ⟨v, z, hK, hr, hz⟩ := binK_sound (xo := x) (yo := y) f (rp x (ho x (by simp [Op.operands]))) (rp y (ho y (by simp [Op.operands]))) g
  exact OpOk.val (vrun hr) (OpPost.here f hK hz)
 | unOp uop T x =>
  simp only [wpOp] at g
  obtain ⟨v, hv, hK⟩ := need_some g
  obtain ⟨z, hr, hz⟩ := aun_sound (P := C.P) (rp x (ho x (by simp [Op.operands]))) hv
  exact OpOk.val (vrun hr) (OpPost.here f hK hz)
 | convert src dst' x =>
  simp only [wpOp] at g
  obtain ⟨v, z, hK, hr, hz⟩ := convK_sound f (rp x (ho x (by simp [Op.operands]))) g
  exact OpOk.val (vrun hr) (OpPost.here f hK hz)
 | makeInterface T x =>
  simp only [wpOp] at g
  obtain ⟨hT, hK⟩ := g
  unfold ifcT at hT
  cases hd : C.P.underlying T with
  | none => simp [hd] at hT
  | some d =>
   refine OpOk.val (vrun (z := .iface T (a.eval x)) (w' := w) ?_) (OpPost.here f hK (.ifc _ _ _ (rp x (ho x (by simp [Op.operands])))))
   simp only [Instr.makeInterface, Sem.run_bind, run_underlying_none hd, Result.andThen_ok]
   cases d <;> first | rfl | simp [hd] at hT
 | makeFunc fn first captured =>
  simp only [wpOp] at g
  refine OpOk.val (vrun (z := .func fn (first.map a.eval) (captured.map a.eval)) (w' := w) rfl) (OpPost.here f g ?_)
  have h1 := RepL.of_map rp first.toList (fun x hx => ho x (by simp [Op.operands] at hx ⊢; exact .inl hx))
  have h2 := RepL.of_map rp captured.toList (fun x hx => ho x (by simp [Op.operands] at hx ⊢; exact .inr hx))
  have := Rep.fn (w := w) (S := S) (μ := μ) fn _ _ _ _ h1.1 h2.1 h1.2 h2.2
  obtain ⟨l1⟩ := first; obtain ⟨l2⟩ := captured
  simpa using this
 | slice T x lo hi mx =>
  simp only [wpOp] at g
  obtain ⟨v, hv, hK⟩ := need_some g
  have ro : ∀ q : Option Operand, (∀ x ∈ q.toArray.toList, okOpd n x = true) → RepO w S μ (q.map (aev C.G t)) (q.map a.eval) := by
   intro q hq
   cases q with
   | none => trivial
   | some x => exact rp x (hq x (by simp))
  obtain ⟨z, hr, hz⟩ := aslice_sound f (rp x (ho x (by simp [Op.operands]))) (ro lo fun x hx => ho x (by simp [Op.operands] at hx ⊢; exact .inr (.inl hx)))
   (ro hi fun x hx => ho x (by simp [Op.operands] at hx ⊢; exact .inr (.inr (.inl hx)))) (ro mx fun x hx => ho x (by simp [Op.operands] at hx ⊢; exact .inr (.inr (.inr hx)))) hv
  exact OpOk.val (vrun hr) (OpPost.here f hK hz)
 | fieldAddr T x fi =>
  simp only [wpOp] at g
  obtain ⟨⟨o, fT, k⟩, hf, hk, g1⟩ := need_some g
  have hx := rp x (ho x (by simp [Op.operands]))
  split at g1
  ·rename_i p ver i off hq
   rw [hq] at hx
   obtain ⟨u, hu, hz⟩ := fieldAddr_sound f hf hk hx (.inl ⟨_, _, _, _, rfl, g1.1, rfl⟩)
   exact OpOk.val (vrun hu) (OpPost.here f g1.2 hz)
  ·rename_i cs hq
   rw [hq] at hx
   obtain ⟨u, hu, hz⟩ := fieldAddr_sound f hf hk hx (.inr ⟨_, rfl, g1.1, rfl⟩)
   exact OpOk.val (vrun hu) (OpPost.here f g1.2 hz)
  ·exact g1.elim
 | field T x fi =>
  simp only [wpOp] at g
  obtain ⟨⟨o, fT, k⟩, hf, g1⟩ := need_some g
  have hx := rp x (ho x (by simp [Op.operands]))
  split at g1
  ·rename_i cs hq
   rw [hq] at hx
   obtain ⟨v, hv, hK⟩ := need_some g1
   obtain ⟨vs, he, hl, hs, hr⟩ := hx.agg_inv
   obtain ⟨fs, fd, hT, hfd, rfl, rfl, hsz⟩ := fOff_some hf
   obtain ⟨u, hu, hz⟩ := run_part_pick (P := C.P) (w := w) (S := S) (μ := μ) hv hl hs hr
   refine OpOk.val (vrun (z := u) (w' := w) ?_) (OpPost.here f hK hz)
   simp only [Instr.field, Sem.run_bind, run_underlying_none hT, Result.andThen_ok, hfd, he, asAgg, Sem.run_pure, hu]
  ·exact g1.elim
 | indexAddr T x i =>
  simp only [wpOp] at g
  have hx := rp x (ho x (by simp [Op.operands]))
  have hi := rp i (ho i (by simp [Op.operands]))
  split at g
  ·rename_i ik j hq
   rw [hq] at hi
   have hi := hi.int_inv
   split at g
   ·rename_i m es hq2
    rw [hq2] at hx
    obtain ⟨e, he, hs, h0, hm, g1⟩ := need_some g
    obtain ⟨row, hrow, hK⟩ := need_some g1
    obtain ⟨b, o, cap, hv, hz⟩ := sl_at hx hm hrow
    have hlt := (List.getElem?_eq_some_iff.1 hrow).1
    refine OpOk.val (vrun (w' := w) ?_) (OpPost.here f hK hz)
    rw [hv, hi]
    exact run_indexAt_slice (elmT_some he) hs h0 (by omega)
   ·rename_i p ver off len room hq2
    rw [hq2] at hx
    obtain ⟨e, he, g1⟩ := need_some g
    obtain ⟨⟨e', m, rows⟩, hg, hs, h0, h1, hK⟩ := need_some g1
    obtain ⟨mb, hm, hf⟩ := f.row hg
    rcases hx.hs_now hm hf.hver with ⟨_, _, hl, _⟩ | ⟨b, hb, hcap, hv⟩
    ·omega
    ·refine OpOk.val (vrun (w' := w) (z := .pointer (some ⟨b, (off + j.toNat) * mb.size + 0, none⟩)) ?_) (OpPost.here f hK (mk_hp hm hf.hver hb))
     rw [hv, hi, run_indexAt_slice (elmT_some he) hs h0 h1, hf.hsize, Nat.add_mul]
     rfl
   ·rename_i p ver jj off hq2
    rw [hq2] at hx
    obtain ⟨⟨k, e⟩, he, g1⟩ := need_some g
    obtain ⟨m, hs, hg, h0, h1, hK⟩ := need_some g1
    obtain ⟨⟨e', m', rows⟩, hg⟩ := Option.isSome_iff_exists.1 hg
    obtain ⟨mb, hm, hf⟩ := f.row hg
    obtain ⟨b, hb, hv⟩ := hx.hp_now hm hf.hver
    refine OpOk.val (vrun (w' := w) ?_) (OpPost.here f hK (mk_hp' hm hf.hver hb (q := jj * mb.size + off + j.toNat * m) (by omega)))
    rw [hv, hi]
    exact run_indexAt_array (arrT_some he) hs h0 h1
   ·rename_i cs hq2
    rw [hq2] at hx
    obtain ⟨⟨k, e⟩, he, g1⟩ := need_some g
    obtain ⟨m, hs, h0, h1, h2, hK⟩ := need_some g1
    obtain ⟨b, o, hv, hz⟩ := hx.ad_drop h2
    refine OpOk.val (vrun (w' := w) ?_) (OpPost.here f hK hz)
    rw [hv, hi]
    exact run_indexAt_array (arrT_some he) hs h0 h1
   ·exact g.elim
  ·exact g.elim
 | index T x i =>
  simp only [wpOp] at g
  have hx := rp x (ho x (by simp [Op.operands]))
  have hi := rp i (ho i (by simp [Op.operands]))
  split at g
  ·rename_i ik j hq
   rw [hq] at hi
   have hi := hi.int_inv
   split at g
   ·rename_i s hq2
    rw [hq2] at hx
    have hx := hx.str_inv
    obtain ⟨hT, h0, g1⟩ := g
    obtain ⟨b, hb, hK⟩ := need_some g1
    refine OpOk.val (vrun (z := .int .u8 b.toNat) (w' := w) ?_) (OpPost.here f hK (.int _ _))
    have hbs : (⟨s.toArray⟩ : ByteArray)[j.toNat]? = some b := by
     have hlt := (List.getElem?_eq_some_iff.1 hb).1
     have hsz : (⟨s.toArray⟩ : ByteArray).size = s.length := by simp [ByteArray.size]
     rw [getElem?_pos _ _ (by rw [hsz]; exact hlt)]
     have := (List.getElem?_eq_some_iff.1 hb).2
     rw [← this]; rfl
    rw [hx, hi]
    simp only [Instr.index, asIntOf, Sem.run_bind, Sem.run_pure, Result.andThen_ok, run_underlying_none (strT_true hT), if_pos h0, hbs]
   ·rename_i cs hq2
    rw [hq2] at hx
    obtain ⟨⟨k, e⟩, he, g1⟩ := need_some g
    obtain ⟨m, hs, h0, h1, g2⟩ := need_some g1
    obtain ⟨v, hv, hK⟩ := need_some g2
    obtain ⟨vs, hve, hl, hst, hr⟩ := hx.agg_inv
    obtain ⟨u, hu, hz⟩ := run_part_pick (P := C.P) (w := w) (S := S) (μ := μ) hv hl hst hr
    refine OpOk.val (vrun (z := u) (w' := w) ?_) (OpPost.here f hK hz)
    rw [hve, hi]
    simp only [Instr.index, asIntOf, Sem.run_bind, Sem.run_pure, Result.andThen_ok, run_underlying_none (arrT_some he), if_pos (show (0 : Int) ≤ j ∧ j < k from ⟨h0, h1⟩), run_sizeOf' hs, hu]
   ·exact g.elim
  ·exact g.elim
 | extract x i =>
  simp only [wpOp] at g
  have hx := rp x (ho x (by simp [Op.operands]))
  split at g
  ·rename_i vs hq
   rw [hq] at hx
   obtain ⟨v, hv, hK⟩ := need_some g
   obtain ⟨us, hve, hl, hr⟩ := hx.tup_inv
   have hlt : i < us.length := by rw [hl]; exact (List.getElem?_eq_some_iff.1 hv).1
   have hz := hr i v hv
   simp only [List.getD, List.getElem?_eq_getElem hlt, Option.getD_some] at hz
   refine OpOk.val (vrun (z := us[i]) (w' := w) ?_) (OpPost.here f hK hz)
   rw [hve]
   simp [Instr.extract, hlt]
  ·exact g.elim
 | range T x =>
  simp only [wpOp] at g
  have hx := rp x (ho x (by simp [Op.operands]))
  split at g
  ·rename_i s hq
   rw [hq] at hx
   have hx := hx.str_inv
   obtain ⟨hT, hK⟩ := g
   have hfit : BlkFits (w.alloc (.stringIter ⟨s.toArray⟩ 0)) S (μ ++ [⟨some w.heap.size, 0, 1, 0⟩]) ⟨some w.heap.size, 0, 1, 0⟩ (.iter s 0) := ⟨rfl, _, rfl, new_heap w _⟩
   refine OpOk.val (vrun (z := .pointer (some ⟨w.heap.size, 0, none⟩)) (w' := w.alloc (.stringIter ⟨s.toArray⟩ 0)) ?_)
    ⟨_, _, S, _, hK, step_alloc f _ ⟨some w.heap.size, 0, 1, 0⟩, f.alloc _ ⟨some w.heap.size, 0, 1, 0⟩ _ rfl hfit, mk_hp' (m := ⟨some w.heap.size, 0, 1, 0⟩) (by rw [← f.len]; simp) rfl rfl (by simp)⟩
   rw [hx]
   simp only [Instr.range, Sem.run_bind, run_underlying_none (strT_true hT), Result.andThen_ok, Sem.run_pure, run_newObj]
   rfl
  ·exact g.elim
 | next x isString =>
  simp only [wpOp] at g
  have hx := rp x (ho x (by simp [Op.operands]))
  split at g
  ·rename_i p hq
   rw [hq] at hx
   obtain ⟨hstr, g⟩ := g
   subst hstr
   split at g
   ·rename_i s ps hh
    have hlt := (List.getElem?_eq_some_iff.1 hh).1
    rw [← f.len] at hlt
    have hm : μ[p]? = some μ[p] := List.getElem?_eq_getElem hlt
    obtain ⟨hv0, b, hb, hheap⟩ := f.blk p μ[p] _ hm hh
    generalize hmb : μ[p] = mb at hm hb hv0
    obtain ⟨b', hb', hv⟩ := hx.hp_now hm hv0
    rw [hb] at hb'; cases hb'
    have hz : 0 * mb.size + 0 = 0 := by simp
    rw [hz] at hv
    have hsz : (⟨s.toArray⟩ : ByteArray).size = s.length := by simp [ByteArray.size]
    have hget : (getObj b).run C.P w = .ok (.stringIter ⟨s.toArray⟩ ps) w := by simp [getObj, Sem.run, hheap]
    by_cases hp : ps < s.length
    ·have hK := g.1 hp
     generalize hd : Utf8.decode ⟨s.toArray⟩ ps = d at hK
     obtain ⟨c, width⟩ := d
     let w' : World := { w with heap := w.heap.setIfInBounds b (.stringIter ⟨s.toArray⟩ (ps + width)) }
     have hset : (setObj b (.stringIter ⟨s.toArray⟩ (ps + width))).run C.P w = .ok () w' := by simp [setObj, Sem.run, hheap, w']
     have hbl : b < w.heap.size := (f.own p mb b hm hb).2.1
     have only : Only w w' mb.blk := ⟨rfl, rfl, rfl, by simp [w'], fun k hk hne => by
      have : b ≠ k := fun e => hne (by rw [hb, e])
      simp [w', Array.getElem?_setIfInBounds_ne this]⟩
     have hbf : BlkFits w' S (μ.set p mb) mb (.iter s (ps + width)) := ⟨hv0, b, hb, by simp [w', hbl]⟩
     obtain ⟨f', st⟩ := f.update hm only (Nat.le_refl _) (fun _ => rfl) (.inl rfl) hbf
     refine OpOk.val (vrun (z := .tuple #[.bool true, goInt ps, .int .i32 c]) (w' := w') ?_) ⟨_, _, S, _, hK, st, f', ?_⟩
     ·rw [hv]
      simp only [Instr.next, Sem.run_bind, hget, Result.andThen_ok, hsz, if_pos hp, hd, hset, Sem.run_pure]
     ·refine .tup _ [.bool true, goInt ps, .int .i32 c] rfl fun i c' hi => ?_
      match i with
      | 0 => simp at hi; subst hi; exact .bool _
      | 1 => simp at hi; subst hi; exact .int _ _
      | 2 => simp at hi; subst hi; exact .int _ _
      | i + 3 => simp at hi
    ·refine OpOk.val (vrun (z := .tuple #[.bool false]) (w' := w) ?_) (OpPost.here f (g.2 hp) ?_)
     ·rw [hv]
      simp only [Instr.next, Sem.run_bind, hget, Result.andThen_ok, hsz, if_neg hp, Sem.run_pure]
     ·refine .tup _ [.bool false] rfl fun i c' hi => ?_
      match i with
      | 0 => simp at hi; subst hi; exact .bool _
      | i + 1 => simp at hi
   ·exact g.elim
  ·exact g.elim
 | call c => exact wpCall_sound f r ho g
 | _ => exact g.elim
end
end Go.Av
namespace Go.Av
open Go.RowKit
def okOper (n : Nat) (o : Oper) : Bool := o.op.operands.toList.all (okOpd n) && (match o.dst with | some d => decide (d < n) | none => true)
def okCode (n : Nat) : Code → Bool
 | .region _ ops _ => ops.toList.all (okOper n)
 | .seq a b => okCode n a && okCode n b
 | .cond c a b => okOpd n c && okCode n a && okCode n b
 | .block _ c => okCode n c
 | .loop c => okCode n c
 | .scope c => okCode n c
 | _ => true
section
variable {C : Ctx} {B n : Nat} {S : Addr → Prop} {μ : Map} {h : Heap} {w : World} {t : Env} {a : Act} {K : AVal → Heap → Prop}
def Post (C : Ctx) (B n : Nat) (S : Addr → Prop) (μ : Map) (w : World) (Q : Exit → Env → Heap → Prop) : Exit → Act → World → Prop := fun e a' w' =>
 ∃ t' h' S' μ', Q e t' h' ∧ Step B S μ w S' μ' w' ∧ Fits C B S' μ' h' w' ∧ REnv n w' S' μ' t' a'
theorem REnv.put {S' : Addr → Prop} {μ' : Map} {w' : World} (r : REnv n w' S' μ' t a) (d : Option Nat) {x : AVal} {v : Value} (hx : Rep w' S' μ' x v) : REnv n w' S' μ' (put t d x) (a.put d v) := by
 cases d with
 | none => exact r
 | some d =>
  refine ⟨by simp [Act.put, r.1], r.2.1, fun i hi => ?_⟩
  simp only [Av.put, upd, Act.put]
  by_cases e : i = d
  ·subst e
   simp only [if_true]
   have : i < a.tmps.size := by rw [r.1]; exact hi
   simpa [Array.getD_eq_getD_getElem?, this] using hx
  ·rw [if_neg e]
   have := r.2.2 i hi
   simpa [Array.getD_eq_getD_getElem?, Array.getElem?_setIfInBounds_ne (show d ≠ i from fun q => e q.symm)] using this
theorem wpOper_upon {o : Oper} {next : Act → World → Prop} {Q : Exit → Act → World → Prop} {Φ : Value → World → Prop} {P : Program} (r : Result Next)
  (h : OpOk P Φ r) (k : ∀ v w', Φ v w' → next (a.put o.dst v) w') : o.upon P a next Q r := by
 unfold OpOk at h
 split at h
 ·exact k _ _ h
 ·exact k _ _ h
 ·refine Calls.mono h fun e w' hh => ?_
  obtain ⟨v, rfl, hv⟩ := hh
  exact k _ _ hv
 ·exact Rows.mono h fun v w' hv => k _ _ hv
 ·exact h.elim
theorem guardA_yielded {ops : Array Oper} (r : REnv n w S μ t a) (hok : ∀ o ∈ ops.toList, okOper n o = true) {j : Nat} {b : Option Bool} (g : guardA ops t j = some b) : yielded ops a.tmps j = b := by
 unfold guardA at g
 split at g
 ·rename_i d hd
  split at g
  ·rename_i b' hb
   cases g
   cases hj : ops[j]? with
   | none => simp [hj] at hd
   | some o =>
    have ho := hok o (by simpa using Array.mem_of_getElem? hj)
    have hdo : o.dst = some d := by simpa [hj] using hd
    have hlt : d < n := by unfold okOper at ho; rw [hdo] at ho; simp at ho; exact ho.2
    have hr := r.2.2 d hlt
    rw [hb] at hr
    have hr := hr.bool_inv
    have hs : d < a.tmps.size := by rw [r.1]; exact hlt
    have : a.tmps[d]? = some (.bool b') := by
     rw [Array.getElem?_eq_getElem hs]
     simpa [Array.getD_eq_getD_getElem?, hs] using hr
    unfold yielded
    rw [hd]
    simp [this]
  ·rename_i xs hb
   cases g
   cases hj : ops[j]? with
   | none => simp [hj] at hd
   | some o =>
    have ho := hok o (by simpa using Array.mem_of_getElem? hj)
    have hdo : o.dst = some d := by simpa [hj] using hd
    have hlt : d < n := by unfold okOper at ho; rw [hdo] at ho; simp at ho; exact ho.2
    have hr := r.2.2 d hlt
    rw [hb] at hr
    have hr : a.tmps.getD d undef = .tuple xs := by
     generalize a.tmps.getD d undef = u at hr
     cases hr; rfl
    have hs : d < a.tmps.size := by rw [r.1]; exact hlt
    have : a.tmps[d]? = some (.tuple xs) := by
     rw [Array.getElem?_eq_getElem hs]
     simpa [Array.getD_eq_getD_getElem?, hs] using hr
    unfold yielded
    rw [hd]
    simp [this]
  ·cases g
 ·cases g
theorem wpOper_sound {ops : Array Oper} {o : Oper} (hok : ∀ o ∈ ops.toList, okOper n o = true) (ho : okOper n o = true) (f : Fits C B S μ h w) (r : REnv n w S μ t a) {KE : Env → Heap → Prop}
  (g : wpOper C ops o t h KE) {next : Act → World → Prop} {Q : Exit → Act → World → Prop}
  (k : ∀ t' h' S' μ' a' w', KE t' h' → Step B S μ w S' μ' w' → Fits C B S' μ' h' w' → REnv n w' S' μ' t' a' → next a' w') :
  if Region.wanted o (yielded ops a.tmps) then o.wp C.P a w next Q ∨ (o.asks C.P a w ∧ LetsOut Q) else next (a.put o.dst undef) w := by
 have hops : ∀ x ∈ o.op.operands.toList, okOpd n x = true := by
  unfold okOper at ho; simp only [Bool.and_eq_true] at ho; exact List.all_eq_true.1 ho.1
 have main : wpOp C o.op t h (fun v h' => KE (put t o.dst v) h') → o.wp C.P a w next Q := fun g => by
  refine wpOper_upon _ (wpOp_sound o hops f r g) fun v w' hp => ?_
  obtain ⟨x, h', S', μ', hK, st, f', hx⟩ := hp
  exact k _ _ S' μ' _ _ hK st f' ((r.mono st).put o.dst hx)
 unfold wpOper at g
 cases hg : o.guard with
 | none =>
  rw [hg] at g
  rw [if_pos (by simp [Region.wanted, hg])]
  exact .inl (main g)
 | some q =>
  obtain ⟨j, want⟩ := q
  rw [hg] at g
  simp only at g
  split at g
  ·rename_i b hb
   have hy := guardA_yielded r hok hb
   by_cases e : b = some want
   ·rw [if_pos (by simp [Region.wanted, hg, hy, e])]
    exact .inl (main (g.1 e))
   ·rw [if_neg (by simp [Region.wanted, hg, hy, e])]
    exact k _ _ S μ _ _ (g.2 e) (Step.refl _ _ _ _) f (r.put o.dst (undefA_rep _ _ _))
  ·exact g.elim
theorem WPl_sound {ops : Array Oper} (hok : ∀ o ∈ ops.toList, okOper n o = true) {Q : Exit → Env → Heap → Prop} {S0 : Addr → Prop} {μ0 : Map} {w0 : World} :
  ∀ (l : List Oper), (∀ o ∈ l, okOper n o = true) → ∀ {t h S μ a w}, Step B S0 μ0 w0 S μ w → Fits C B S μ h w → REnv n w S μ t a → WPl C ops Q l t h → wpList C.P ops (Post C B n S0 μ0 w0 Q) l a w
 | [], _, t, h, S, μ, a, w, st, f, r, g => ⟨t, h, S, μ, g, st, f, r⟩
 | o :: rest, hl, t, h, S, μ, a, w, st, f, r, g => by
  unfold wpList
  exact wpOper_sound hok (hl o (by simp)) f r g fun t' h' S' μ' a' w' hk st' f' r' =>
   WPl_sound hok rest (fun o ho => hl o (by simp [ho])) (st.trans st') f' r' hk
theorem WPix_sound {ops : Array Oper} (hok : ∀ o ∈ ops.toList, okOper n o = true) {Q : Exit → Env → Heap → Prop} {S0 : Addr → Prop} {μ0 : Map} {w0 : World} :
  ∀ (l : List Nat), ∀ {t h S μ a w}, Step B S0 μ0 w0 S μ w → Fits C B S μ h w → REnv n w S μ t a → WPix C ops Q l t h → wpOps C.P ops (Post C B n S0 μ0 w0 Q) l a w
 | [], t, h, S, μ, a, w, st, f, r, g => ⟨t, h, S, μ, g, st, f, r⟩
 | i :: rest, t, h, S, μ, a, w, st, f, r, g => by
  unfold wpOps
  unfold WPix at g
  cases hi : ops[i]? with
  | none =>
   rw [hi] at g
   exact WPix_sound hok rest st f r g
  | some o =>
   rw [hi] at g
   simp only at g ⊢
   exact wpOper_sound hok (hok o (by simpa using Array.mem_of_getElem? hi)) f r g fun t' h' S' μ' a' w' hk st' f' r' =>
    WPix_sound hok rest (st.trans st') f' r' hk
theorem WP_sound : ∀ (c : Code), okCode n c = true → ∀ {Q : Exit → Env → Heap → Prop} {S0 : Addr → Prop} {μ0 : Map} {w0 : World} {t h S μ a w},
  Step B S0 μ0 w0 S μ w → Fits C B S μ h w → REnv n w S μ t a → WP C c Q t h → c.wp C.P (Post C B n S0 μ0 w0 Q) a w := by
 intro c
 induction c with
 | skip => intro _ Q S0 μ0 w0 t h S μ a w st f r g; exact wp_skip ⟨t, h, S, μ, g, st, f, r⟩
 | label l => intro _ Q S0 μ0 w0 t h S μ a w st f r g; exact wp_label ⟨t, h, S, μ, g, st, f, r⟩
 | exit id => intro _ Q S0 μ0 w0 t h S μ a w st f r g; exact wp_exit ⟨t, h, S, μ, g, st, f, r⟩
 | ret => intro _ Q S0 μ0 w0 t h S μ a w st f r g; exact wp_ret ⟨t, h, S, μ, g, st, f, r⟩
 | region id ops draw =>
  intro hok Q S0 μ0 w0 t h S μ a w st f r g
  have hops := List.all_eq_true.1 hok
  cases draw with
  | false => exact wp_region_list (WPl_sound hops ops.toList hops st f r g)
  | true =>
   refine wp_region_draw fun tp => ?_
   obtain ⟨fd, sd⟩ := f.drew
   exact WPix_sound hops _ (st.trans sd) fd (r.mono sd) (g tp)
 | seq x y ihx ihy =>
  intro hok Q S0 μ0 w0 t h S μ a w st f r g
  simp only [okCode, Bool.and_eq_true] at hok
  refine wp_seq (wp_mono (ihx hok.1 st f r g) fun e a' w' hp => ?_)
  obtain ⟨t', h', S', μ', hq, st', f', r'⟩ := hp
  cases e with
  | normal =>
   obtain ⟨t1, h1, hw, hq⟩ := hq
   obtain ⟨S1, μ1, st1, f1, r1⟩ := hw.2 B n S' μ' w' a' f' r'
   exact ihy hok.2 (st'.trans st1) f1 r1 hq
  | _ => exact ⟨t', h', S', μ', hq, st', f', r'⟩
 | cond c x y ihx ihy =>
  intro hok Q S0 μ0 w0 t h S μ a w st f r g
  simp only [okCode, Bool.and_eq_true] at hok
  have hc := aev_rep f r c hok.1.1
  simp only [WP] at g
  split at g
  ·rename_i q hq
   rw [hq] at hc
   have hc := hc.bool_inv
   exact wp_cond_split hc (fun e => ihx hok.1.2 st f r (g.1 e)) (fun e => ihy hok.2 st f r (g.2 e))
  ·exact g.elim
 | block id x ih =>
  intro hok Q S0 μ0 w0 t h S μ a w st f r g
  refine wp_block (wp_mono (ih hok st f r g) fun e a' w' hp => ?_)
  obtain ⟨t', h', S', μ', hq, st', f', r'⟩ := hp
  cases e with
  | exit id' =>
   simp only [blockQ] at hq
   simp only [Exit.inBlock]
   split
   ·rename_i e; rw [if_pos e] at hq; exact ⟨t', h', S', μ', hq, st', f', r'⟩
   ·rename_i e; rw [if_neg e] at hq; exact ⟨t', h', S', μ', hq, st', f', r'⟩
  | _ => exact ⟨t', h', S', μ', hq, st', f', r'⟩
 | loop x ih =>
  intro hok Q S0 μ0 w0 t h S μ a w st f r g
  obtain ⟨I, n0, ⟨t1, h1, hw, h0⟩, hround⟩ := g
  obtain ⟨S1, μ1, st1, f1, r1⟩ := hw.2 B n S μ w a f r
  refine wp_loop_ghost (fun k a w => ∃ t h S μ, I k t h ∧ Step B S0 μ0 w0 S μ w ∧ Fits C B S μ h w ∧ REnv n w S μ t a) n0 ⟨t1, h1, S1, μ1, h0, st.trans st1, f1, r1⟩ ?_
  rintro k a w ⟨t, h, S, μ, hI, st, f, r⟩
  refine wp_mono (ih hok st f r (hround k t h hI)) fun e a' w' hp => ?_
  obtain ⟨t', h', S', μ', hq, st', f', r'⟩ := hp
  cases e with
  | normal =>
   obtain ⟨m, hm, t1, h1, hw, hI'⟩ := hq
   obtain ⟨S1, μ1, st1, f1, r1⟩ := hw.2 B n S' μ' w' a' f' r'
   exact ⟨m, hm, t1, h1, S1, μ1, hI', st'.trans st1, f1, r1⟩
  | _ => exact ⟨t', h', S', μ', hq, st', f', r'⟩
 | rangeFunc f ps as b _ _ => intro _ Q S0 μ0 w0 t h S μ a w st f r g; exact g.elim
 | scope x ih =>
  intro hok Q S0 μ0 w0 t h S μ a w st f r g
  refine wp_scope_straight (wp_mono (ih hok st f r g) fun e a' w' hp => ?_)
  obtain ⟨t', h', S', μ', hq, st', f', r'⟩ := hp
  cases e with
  | goto l => exact hq.elim
  | _ => exact ⟨t', h', S', μ', hq, st', f', r'⟩
 | goto l => intro _ Q S0 μ0 w0 t h S μ a w st f r g; exact g.elim
 | refuse s => intro _ Q S0 μ0 w0 t h S μ a w st f r g; exact g.elim
end
end Go.Av
namespace Go.Av
open Go.RowKit
inductive Clo (n : Nat) : AVal → Prop
 | int (k : IntKind) (m : Int) : Clo n (.int k m)
 | bool (b : Bool) : Clo n (.bool b)
 | str (s : List UInt8) : Clo n (.str s)
 | nil (v : Value) : Clo n (.nil v)
 | agg (cs : List AVal) : (∀ c ∈ cs, Clo n c) → Clo n (.agg cs)
 | tup (cs : List AVal) : (∀ c ∈ cs, Clo n c) → Clo n (.tup cs)
 | sl (m : Nat) (es : List AVal) : (∀ e ∈ es, Clo n e) → Clo n (.sl m es)
 | ad (cs : List AVal) : (∀ c ∈ cs, Clo n c) → Clo n (.ad cs)
 | hp (p v i o : Nat) : p < n → Clo n (.hp p v i o)
 | hs (p v o l : Nat) (r : Bool) : p < n → Clo n (.hs p v o l r)
 | fn (f : Fn) (xs cs : List AVal) : (∀ c ∈ xs, Clo n c) → (∀ c ∈ cs, Clo n c) → Clo n (.fn f xs cs)
 | ifc (t : TypeId) (x : AVal) : Clo n x → Clo n (.ifc t x)
 | pa : Clo n .pa
 | ez : Clo n .ez
theorem Clo.cells {n : Nat} {x : AVal} (h : Clo n x) : ∀ c ∈ x.cells, Clo n c := by
 cases h with
 | agg cs h => exact h
 | int k m => intro c hc; simp [AVal.cells] at hc; subst hc; exact .int k m
 | bool b => intro c hc; simp [AVal.cells] at hc; subst hc; exact .bool b
 | str s => intro c hc; simp [AVal.cells] at hc; subst hc; exact .str s
 | nil v => intro c hc; simp [AVal.cells] at hc; subst hc; exact .nil v
 | tup cs h => intro c hc; simp [AVal.cells] at hc; subst hc; exact .tup cs h
 | sl m es h => intro c hc; simp [AVal.cells] at hc; subst hc; exact .sl m es h
 | ad cs h => intro c hc; simp [AVal.cells] at hc; subst hc; exact .ad cs h
 | hp p v i o h => intro c hc; simp [AVal.cells] at hc; subst hc; exact .hp p v i o h
 | hs p v o l r h => intro c hc; simp [AVal.cells] at hc; subst hc; exact .hs p v o l r h
 | fn f xs cs h1 h2 => intro c hc; simp [AVal.cells] at hc; subst hc; exact .fn f xs cs h1 h2
 | ifc t x h => intro c hc; simp [AVal.cells] at hc; subst hc; exact .ifc t x h
 | pa => intro c hc; simp [AVal.cells] at hc; subst hc; exact .pa
 | ez => intro c hc; simp [AVal.cells] at hc; subst hc; exact .ez
theorem Clo.mono {n m : Nat} {x : AVal} (h : Clo n x) (hm : n ≤ m) : Clo m x := by
 induction h with
 | int k m => exact .int k m
 | bool b => exact .bool b
 | str s => exact .str s
 | nil v => exact .nil v
 | agg cs _ ih => exact .agg cs ih
 | tup cs _ ih => exact .tup cs ih
 | sl m es _ ih => exact .sl m es ih
 | ad cs _ ih => exact .ad cs ih
 | hp p v i o h => exact .hp p v i o (by omega)
 | hs p v o l r h => exact .hs p v o l r (by omega)
 | fn f xs cs _ _ i1 i2 => exact .fn f xs cs i1 i2
 | ifc t x _ ih => exact .ifc t x ih
 | pa => exact .pa
 | ez => exact .ez
def CloB (n : Nat) : Blk → Prop
 | .row _ _ _ rows => ∀ r ∈ rows, Clo n r
 | _ => True
inductive Frz (h : Heap) (n : Nat) : AVal → AVal → Prop
 | clo (x : AVal) : Clo n x → Frz h n x x
 | nils (m : Nat) : Frz h n (.nil (.slice none 0 0)) (.sl m [])
 | ezs (m : Nat) : Frz h n .ez (.sl m [])
 | hs (p ver off len : Nat) (room : Bool) (e : TypeId) (m : Nat) (rows es : List AVal) : n ≤ p → getRow h p ver = some (e, m, rows) → off + len ≤ rows.length →
   es.length = rows.length → (∀ (i : Nat) (r s : AVal), rows[i]? = some r → es[i]? = some s → Frz h n r s) →
   (∀ (i : Nat) (r s : AVal), rows[i]? = some r → es[i]? = some s → r.cells.length = s.cells.length ∧ ∀ (j : Nat) (c d : AVal), r.cells[j]? = some c → s.cells[j]? = some d → d.sto = true) →
   (∀ (i : Nat) (r s : AVal) (j : Nat) (c d : AVal), rows[i]? = some r → es[i]? = some s → r.cells[j]? = some c → s.cells[j]? = some d → Frz h n c d) →
   Frz h n (.hs p ver off len room) (.sl m ((es.drop off).take len))
 | agg (cs ds : List AVal) : cs.length = ds.length → (∀ d ∈ ds, d.sto = true) → (∀ (i : Nat) (c d : AVal), cs[i]? = some c → ds[i]? = some d → Frz h n c d) → Frz h n (.agg cs) (.agg ds)
 | tup (cs ds : List AVal) : cs.length = ds.length → (∀ (i : Nat) (c d : AVal), cs[i]? = some c → ds[i]? = some d → Frz h n c d) → Frz h n (.tup cs) (.tup ds)
 | ifc (t : TypeId) (x y : AVal) : Frz h n x y → Frz h n (.ifc t x) (.ifc t y)
 | sl (m : Nat) (es fs : List AVal) : fs.length = es.length → (∀ (i : Nat) (r s : AVal), es[i]? = some r → fs[i]? = some s → r.cells.length = s.cells.length ∧ ∀ (j : Nat) (d : AVal), s.cells[j]? = some d → d.sto = true) →
   (∀ (i : Nat) (r s : AVal) (j : Nat) (c d : AVal), es[i]? = some r → fs[i]? = some s → r.cells[j]? = some c → s.cells[j]? = some d → Frz h n c d) →
   Frz h n (.sl m es) (.sl m fs)
section
variable {C : Ctx} {B n : Nat} {S : Addr → Prop} {μ : Map} {h : Heap} {w : World} {t : Env} {a : Act} {K : AVal → Heap → Prop}
theorem Clo.rep {x : AVal} {v : Value} {S' : Addr → Prop} (c : Clo n x) (r : Rep w S μ x v) (hs : ∀ a, S a → S' a) : Rep w S' (μ.take n) x v := by
 induction r with
 | int k m => exact .int k m
 | bool b => exact .bool b
 | str s => exact .str s
 | nil v hv => exact .nil v hv
 | agg cs vs hl hst hr ih =>
  cases c with
  | agg _ hc => exact .agg cs vs hl hst fun i x hx => ih i x hx (hc x (List.mem_of_getElem? hx))
 | tup cs vs hl hr ih =>
  cases c with
  | tup _ hc => exact .tup cs vs hl fun i x hx => ih i x hx (hc x (List.mem_of_getElem? hx))
 | sl0 m a cap => exact .sl0 m a cap
 | sl m es b o cap vs hne hcap hmx hl hc hr ih =>
  cases c with
  | sl _ _ hcl =>
   refine .sl m es b o cap vs hne hcap hmx hl (fun i e j c he hj => ?_) (fun i e j c he hj => ih i e j c he hj ((hcl e (List.mem_of_getElem? he)).cells c (List.mem_of_getElem? hj)))
   obtain ⟨h1, h2, h3⟩ := hc i e j c he hj
   exact ⟨hs _ h1, h2, h3⟩
 | ad cs b o vs hne hc hr ih =>
  cases c with
  | ad _ hcl =>
   refine .ad cs b o vs hne (fun j c hj => ?_) (fun j c hj => ih j c hj (hcl c (List.mem_of_getElem? hj)))
   obtain ⟨h1, h2, h3⟩ := hc j c hj
   exact ⟨hs _ h1, h2, h3⟩
 | hp p ver i off m v hm hv ha h1 hx =>
  cases c with
  | hp _ _ _ _ hlt => exact .hp p ver i off m v (by rw [List.getElem?_take_of_lt hlt]; exact hm) hv ha h1 hx
 | hs p ver off len room m v hm hv ha h1 hx =>
  cases c with
  | hs _ _ _ _ _ hlt => exact .hs p ver off len room m v (by rw [List.getElem?_take_of_lt hlt]; exact hm) hv ha h1 hx
 | fn f xs cs xv cv h1 h2 h3 h4 i3 i4 =>
  cases c with
  | fn _ _ _ c1 c2 => exact .fn f xs cs xv cv h1 h2 (fun i x hx => i3 i x hx (c1 x (List.mem_of_getElem? hx))) (fun i x hx => i4 i x hx (c2 x (List.mem_of_getElem? hx)))
 | ifc T x v _ ih =>
  cases c with
  | ifc _ _ cx => exact .ifc T x v (ih cx)
 | pa a => exact .pa a
 | ez a => exact .ez a
theorem Rep.clo {x : AVal} {v : Value} (r : Rep w S μ x v) : Clo μ.length x := by
 induction r with
 | int k m => exact .int k m
 | bool b => exact .bool b
 | str s => exact .str s
 | nil v hv => exact .nil v
 | agg cs vs hl hst hr ih =>
  refine .agg cs fun c hc => ?_
  obtain ⟨i, hi⟩ := List.getElem?_of_mem hc
  exact ih i c hi
 | tup cs vs hl hr ih =>
  refine .tup cs fun c hc => ?_
  obtain ⟨i, hi⟩ := List.getElem?_of_mem hc
  exact ih i c hi
 | sl0 m a cap => exact .sl m [] (by simp)
 | sl m es b o cap vs hne hcap hmx hl hc hr ih =>
  refine .sl m es fun e he => ?_
  obtain ⟨i, hi⟩ := List.getElem?_of_mem he
  have hcells : ∀ c ∈ e.cells, Clo μ.length c := by
   intro c hcm
   obtain ⟨j, hj⟩ := List.getElem?_of_mem hcm
   exact ih i e j c hi hj
  cases e with
  | agg cs => exact .agg cs hcells
  | _ => exact hcells _ (by simp [AVal.cells])
 | ad cs b o vs hne hc hr ih =>
  refine .ad cs fun c hc => ?_
  obtain ⟨i, hi⟩ := List.getElem?_of_mem hc
  exact ih i c hi
 | hp p ver i off m v hm hv ha h1 hx => exact .hp _ _ _ _ (List.getElem?_eq_some_iff.1 hm).1
 | hs p ver off len room m v hm hv ha h1 hx => exact .hs _ _ _ _ _ (List.getElem?_eq_some_iff.1 hm).1
 | fn f xs cs xv cv h1 h2 h3 h4 i3 i4 =>
  refine .fn f xs cs (fun c hc => ?_) (fun c hc => ?_)
  ·obtain ⟨i, hi⟩ := List.getElem?_of_mem hc; exact i3 i c hi
  ·obtain ⟨i, hi⟩ := List.getElem?_of_mem hc; exact i4 i c hi
 | ifc T x v _ ih => exact .ifc T x ih
 | pa a => exact .pa
 | ez a => exact .ez
def Let (S : Addr → Prop) (μ : Map) (w : World) (n : Nat) : Addr → Prop := fun a => S a ∨ ∃ p m, n ≤ p ∧ μ[p]? = some m ∧ m.blk = some a.block ∧ (w.cell? a).isSome = true
theorem Frz.rep (f : Fits C B S μ h w) {x y : AVal} {v : Value} (z : Frz h n x y) (r : Rep w S μ x v) : Rep w (Let S μ w n) (μ.take n) y v := by
 induction z generalizing v with
 | clo x hc => exact hc.rep r fun a ha => .inl ha
 | nils m => cases r; exact .sl0 m none 0
 | ezs m =>
  generalize hq : AVal.ez = q at r
  cases r with
  | ez a => exact .sl0 m _ 0
  | _ => cases hq
 | hs p ver off len room e m rows es hp hg hlen hel _ hcells _ ihr ihc =>
  obtain ⟨mb, hm, hf⟩ := f.row hg
  have hms := hf.hsize
  rcases r.hs_now hm hf.hver with ⟨hb, rfl, rfl, rfl⟩ | ⟨b, hb, hcap, rfl⟩
  ·simpa using Rep.sl0 (w := w) (S := Let S μ w n) (μ := μ.take n) m none 0
  ·by_cases hl0 : len = 0
   ·subst hl0
    simpa using Rep.sl0 (w := w) (S := Let S μ w n) (μ := μ.take n) m _ _
   ·obtain ⟨cur, hheap, hcs, hle, hmax, fl⟩ := hf.flat hb
    have hes : ((es.drop off).take len).length = len := by simp; omega
    have hget : ∀ (i : Nat) (s : AVal), ((es.drop off).take len)[i]? = some s → es[off + i]? = some s ∧ ∃ q, rows[off + i]? = some q := by
     intro i s hi
     have hlt := (List.getElem?_eq_some_iff.1 hi).1
     rw [hes] at hlt
     rw [List.getElem?_take_of_lt hlt, List.getElem?_drop] at hi
     exact ⟨hi, rows[off + i]'(by omega), List.getElem?_eq_getElem _⟩
    have key := Rep.sl (w := w) (S := Let S μ w n) (μ := μ.take n) m ((es.drop off).take len) b (off * mb.size) (if room then mb.cap - off else len)
     (fun i j => cur.getD (off * m + (i * m + j)) undef) (by intro e; rw [e] at hes; simp at hes; omega) (by rw [hes]; split <;> omega) (by split <;> omega)
     (fun i s hi => by
      obtain ⟨h1, q, h2⟩ := hget i s hi
      rw [← (hcells _ _ _ h2 h1).1]; exact hf.lens _ _ h2)
     (fun i s j d hi hj => by
      obtain ⟨h1, q, h2⟩ := hget i s hi
      obtain ⟨h3, h4⟩ := hcells _ _ _ h2 h1
      have hjl := (List.getElem?_eq_some_iff.1 hj).1
      have hc := List.getElem?_eq_getElem (show j < q.cells.length by rw [h3]; exact hjl)
      obtain ⟨u, hu, _⟩ := fl.rep _ _ _ _ h2 hc
      have hu := takeGet hu
      have e1 : (off + i) * m + j = off * m + (i * m + j) := by rw [Nat.add_mul]; omega
      rw [e1] at hu
      have hu2 : cur[off * m + (i * m + j)]? = some u := by simpa using hu
      have hcell : w.cell? ⟨b, off * m + (i * m + j), none⟩ = some u := by simp [World.cell?, hheap, hu2]
      rw [hms]
      refine ⟨.inr ⟨p, mb, hp, hm, hb, by rw [hcell]; rfl⟩, ?_, h4 _ _ _ hc hj⟩
      rw [hcell]; simp [Array.getD_eq_getD_getElem?, hu2])
     (fun i s j d hi hj => by
      obtain ⟨h1, q, h2⟩ := hget i s hi
      obtain ⟨h3, h4⟩ := hcells _ _ _ h2 h1
      have hjl := (List.getElem?_eq_some_iff.1 hj).1
      have hc := List.getElem?_eq_getElem (show j < q.cells.length by rw [h3]; exact hjl)
      obtain ⟨u, hu, hrep⟩ := fl.rep _ _ _ _ h2 hc
      have hu := takeGet hu
      have e1 : (off + i) * m + j = off * m + (i * m + j) := by rw [Nat.add_mul]; omega
      rw [e1] at hu
      have hu2 : cur[off * m + (i * m + j)]? = some u := by simpa using hu
      have := ihc _ _ _ _ _ _ h2 h1 hc hj hrep
      simpa [Array.getD_eq_getD_getElem?, hu2] using this)
    rw [hes] at key
    exact key
 | agg cs ds hl hst _ ih =>
  obtain ⟨vs, rfl, hvl, _, hr⟩ := r.agg_inv
  refine .agg ds vs (by omega) (fun i d hd => hst d (List.mem_of_getElem? hd)) (fun i d hd => ?_)
  have hlt := (List.getElem?_eq_some_iff.1 hd).1
  have hc := List.getElem?_eq_getElem (show i < cs.length by omega)
  exact ih i _ d hc hd (hr i _ hc)
 | tup cs ds hl _ ih =>
  obtain ⟨vs, rfl, hvl, hr⟩ := r.tup_inv
  refine .tup ds vs (by omega) (fun i d hd => ?_)
  have hlt := (List.getElem?_eq_some_iff.1 hd).1
  have hc := List.getElem?_eq_getElem (show i < cs.length by omega)
  exact ih i _ d hc hd (hr i _ hc)
 | ifc T x y _ ih =>
  cases r with
  | ifc _ _ u hu => exact .ifc T y u (ih hu)
 | sl m es fs hl hcells _ ih =>
  cases r with
  | sl0 _ a cap =>
   obtain rfl : fs = [] := List.eq_nil_of_length_eq_zero (by simpa using hl)
   exact .sl0 m a cap
  | sl _ _ b o cap vs hne hcap hmx hlen hc hr =>
   rw [← hl]
   have old : ∀ (i : Nat) (s : AVal), fs[i]? = some s → ∃ r, es[i]? = some r := fun i s hi => by
    have := (List.getElem?_eq_some_iff.1 hi).1
    exact ⟨_, List.getElem?_eq_getElem (show i < es.length by omega)⟩
   refine .sl m fs b o cap vs (fun e => hne (List.eq_nil_of_length_eq_zero (by rw [← hl, e]; rfl))) (by omega) hmx (fun i s hi => ?_) (fun i s j d hi hj => ?_) (fun i s j d hi hj => ?_)
   ·obtain ⟨q, hq⟩ := old i s hi
    rw [← (hcells i q s hq hi).1]; exact hlen i q hq
   ·obtain ⟨q, hq⟩ := old i s hi
    obtain ⟨h3, h4⟩ := hcells i q s hq hi
    have hjl := (List.getElem?_eq_some_iff.1 hj).1
    have hcj := List.getElem?_eq_getElem (show j < q.cells.length by omega)
    obtain ⟨a1, a2, _⟩ := hc i q j _ hq hcj
    exact ⟨.inl a1, a2, h4 j d hj⟩
   ·obtain ⟨q, hq⟩ := old i s hi
    obtain ⟨h3, h4⟩ := hcells i q s hq hi
    have hjl := (List.getElem?_eq_some_iff.1 hj).1
    have hcj := List.getElem?_eq_getElem (show j < q.cells.length by omega)
    exact ih i q s j _ d hq hi hcj hj (hr i q j _ hq hcj)
end
end Go.Av
namespace Go.Av
open Go.RowKit
def resA1 (C : Ctx) (t : Env) (h : Heap) : ResultVar → Option AVal
 | .tmp i => some (t i)
 | .cell a T => match t a with
  | .ad cs => pickT C.P T cs
  | .hp p ver i off => match getRow h p ver with
   | some (_, _, rows) => match rows[i]? with
    | some r => pickT C.P T (r.cells.drop off)
    | none => none
   | none => none
  | _ => none
def resL (C : Ctx) (t : Env) (h : Heap) : List ResultVar → Option (List AVal)
 | [] => some []
 | r :: rest => match resA1 C t h r with
  | some x => match resL C t h rest with
   | some xs => some (x :: xs)
   | none => none
  | none => none
def resA (C : Ctx) (t : Env) (h : Heap) (l : List ResultVar) : Option AVal :=
 match resL C t h l with
 | some [x] => some x
 | some xs => some (.tup xs)
 | none => none
def okRes (n : Nat) : ResultVar → Bool
 | .tmp i => decide (i < n)
 | .cell a _ => decide (a < n)
def Fin (h0 h1 : Heap) (R : AVal → Heap → Prop) (r0 : AVal) : Prop :=
 ∃ n r, h0.length ≤ n ∧ Frz h1 n r0 r ∧ (h1.length ≤ n ∨ ∀ (p : Nat) (k : Blk), p < n → h1[p]? = some k → (p < h0.length ∧ h0[p]? = some k) ∨ CloB n k) ∧ R r (h1.take n)
def env0 (args : List AVal) : Env := fun i => args.getD i undefA
def resSem (tmps : Array Value) : ResultVar → Sem Value
 | .tmp i => pure (tmps.getD i undef)
 | .cell i T => do loadVar T (← asAddr (tmps.getD i undef))
theorem results_eq (fn : Func) (tmps : Array Value) : results fn tmps = (do
  let vs ← fn.results.mapM (resSem tmps)
  pure (if h : vs.size = 1 then vs[0] else .tuple vs)) := by
 unfold results
 congr 2
section
variable {C : Ctx} {B n : Nat} {S : Addr → Prop} {μ : Map} {h : Heap} {w : World} {t : Env} {a : Act} {K : AVal → Heap → Prop}
theorem run_resA1 (f : Fits C B S μ h w) (r : REnv n w S μ t a) {v : ResultVar} (ho : okRes n v = true) {x : AVal} (g : resA1 C t h v = some x) :
  ∃ u, (resSem a.tmps v).run C.P w = .ok u w ∧ Rep w S μ x u := by
 cases v with
 | tmp i =>
  simp only [resA1, Option.some.injEq] at g
  subst g
  exact ⟨_, rfl, r.2.2 i (by simpa [okRes] using ho)⟩
 | cell i T =>
  have hx := r.2.2 i (by simpa [okRes] using ho)
  simp only [resA1] at g
  split at g
  ·rename_i cs hq
   rw [hq] at hx
   generalize hv : a.tmps.getD i undef = v at hx
   obtain ⟨u, hu, hz⟩ := load_ad hx g
   refine ⟨u, ?_, hz⟩
   cases hx
   simp only [Instr.loadAt, Instr.sureAddr, Sem.run_bind, Sem.run_pure, Result.andThen_ok] at hu
   simp only [resSem, hv, asAddr, Sem.run_bind, Sem.run_pure, Result.andThen_ok, hu]
  ·rename_i p ver j off hq
   rw [hq] at hx
   generalize hv : a.tmps.getD i undef = v at hx
   split at g
   ·rename_i e m rows hg
    split at g
    ·rename_i row hrow
     obtain ⟨u, hu, hz⟩ := load_hp f hx hg hrow g
     refine ⟨u, ?_, hz⟩
     obtain ⟨mb, hm, hf⟩ := f.row hg
     obtain ⟨b, hb, rfl⟩ := hx.hp_now hm hf.hver
     simp only [Instr.loadAt, Instr.sureAddr, Sem.run_bind, Sem.run_pure, Result.andThen_ok] at hu
     simp only [resSem, hv, asAddr, Sem.run_bind, Sem.run_pure, Result.andThen_ok, hu]
    ·cases g
   ·cases g
  ·cases g
theorem run_resL (f : Fits C B S μ h w) (r : REnv n w S μ t a) : ∀ (l : List ResultVar), (∀ v ∈ l, okRes n v = true) → ∀ {xs : List AVal}, resL C t h l = some xs →
  ∃ us, (l.mapM (resSem a.tmps)).run C.P w = .ok us w ∧ RepL w S μ xs us
 | [], _, xs, g => by
  simp only [resL, Option.some.injEq] at g
  subst g
  exact ⟨[], rfl, rfl, by simp⟩
 | v :: rest, ho, xs, g => by
  simp only [resL] at g
  split at g
  ·rename_i x hx
   split at g
   ·rename_i ys hys
    cases g
    obtain ⟨u, hu, hr⟩ := run_resA1 f r (ho v (by simp)) hx
    obtain ⟨us, hus, hrs⟩ := run_resL f r rest (fun q hq => ho q (by simp [hq])) hys
    refine ⟨u :: us, ?_, by simp [hrs.1], fun i c hi => ?_⟩
    ·simp only [List.mapM_cons, Sem.run_bind, hu, hus, Result.andThen_ok, Sem.run_pure]
    ·match i with
     | 0 => simp at hi; subst hi; simpa using hr
     | i + 1 => simp at hi; simpa using hrs.2 i c hi
   ·cases g
  ·cases g
theorem run_resA (f : Fits C B S μ h w) (r : REnv n w S μ t a) {fn : Func} (ho : ∀ v ∈ fn.results.toList, okRes n v = true) {x : AVal} (g : resA C t h fn.results.toList = some x) :
  ∃ u, (results fn a.tmps).run C.P w = .ok u w ∧ Rep w S μ x u := by
 have key : ∀ xs us, resL C t h fn.results.toList = some xs → (fn.results.mapM (resSem a.tmps)).run C.P w = .ok us w → RepL w S μ xs us.toList →
   ∃ u, (results fn a.tmps).run C.P w = .ok u w ∧ Rep w S μ x u := by
  intro xs us h1 h2 h3
  unfold resA at g
  rw [h1] at g
  simp only [results_eq, Sem.run_bind, h2, Result.andThen_ok, Sem.run_pure]
  obtain ⟨us⟩ := us
  by_cases hl : us.length = 1
  ·obtain ⟨u, rfl⟩ := List.length_eq_one_iff.1 hl
   obtain ⟨y, rfl⟩ := List.length_eq_one_iff.1 (show xs.length = 1 by have := h3.1; simp at this; omega)
   simp only [Option.some.injEq] at g
   subst g
   exact ⟨u, by simp, by simpa using h3.2 0 y rfl⟩
  ·have hne : xs.length ≠ 1 := by have := h3.1; simp at this; omega
   have hx : x = .tup xs := by
    match xs, hne with
    | [], _ => simpa using g.symm
    | y :: z :: rest, _ => simpa using g.symm
   subst hx
   refine ⟨.tuple us.toArray, by simp [hl], .tup _ us h3.1 h3.2⟩
 cases hl : resL C t h fn.results.toList with
 | none => unfold resA at g; rw [hl] at g; cases g
 | some xs =>
  obtain ⟨us, h1, h2⟩ := run_resL f r fn.results.toList ho hl
  refine key xs us.toArray hl ?_ (by simpa using h2)
  have e : fn.results = fn.results.toList.toArray := by simp
  rw [e, List.mapM_toArray]
  simp only [Sem.run_map, h1, Result.andThen_ok]
theorem Fits.cut {S0 : Addr → Prop} {μ0 : Map} {h0 : Heap} {w0 : World} (f0 : Fits C B S0 μ0 h0 w0) (st : Step B S0 μ0 w0 S μ w) (f : Fits C B S μ h w) (hn : h0.length ≤ n)
  (hk : ∀ (p : Nat) (k : Blk), p < n → h[p]? = some k → (p < h0.length ∧ h0[p]? = some k) ∨ CloB n k) :
  Fits C B (Let S μ w n) (μ.take n) (h.take n) w ∧ Step B S0 μ0 w0 (Let S μ w n) (μ.take n) w := by
 have hle0 : μ0.length ≤ n := by rw [f0.len]; exact hn
 have map' : MapLe μ0 (μ.take n) := by
  intro p m hm
  have hp := (List.getElem?_eq_some_iff.1 hm).1
  obtain ⟨m', h1, h2, h3⟩ := st.map p m hm
  exact ⟨m', by rw [List.getElem?_take_of_lt (by omega)]; exact h1, h2, h3⟩
 have st' : Step B S0 μ0 w0 (Let S μ w n) (μ.take n) w := ⟨fun a ha => .inl (st.sub a ha), st.keep, st.below, map',
  fun a ha => by
   rcases ha with ha | ⟨q, m', hq, hm', hb, _⟩
   ·exact st.new a ha
   ·exact .inr (f.own q m' _ hm' hb).1⟩
 refine ⟨⟨fun g cs hg => (f0.glob g cs hg).mono st', by simp [f.len], ?_, ?_, f.base, ?_, ?_⟩, st'⟩
 ·intro p q m m' b h1 h2 e1 e2
  exact f.sep p q m m' b (takeGet h1) (takeGet h2) e1 e2
 ·intro p m b h1 e1
  have hp : p < n := by have := (List.getElem?_eq_some_iff.1 h1).1; rw [List.length_take] at this; omega
  obtain ⟨a1, a2, a3⟩ := f.own p m b (takeGet h1) e1
  refine ⟨a1, a2, fun a ha => ?_⟩
  rcases ha with ha | ⟨q, m', hq, hm', hb, _⟩
  ·exact a3 a ha
  ·intro e
   have := f.sep p q m m' b (takeGet h1) hm' e1 (by rw [hb, e])
   omega
 ·intro a ha
  rcases ha with ha | ⟨q, m', hq, hm', hb, _⟩
  ·exact f.lie a ha
  ·exact (f.own q m' _ hm' hb).2.1
 ·intro p m k h1 h2
  have hp : p < n := by have := (List.getElem?_eq_some_iff.1 h1).1; rw [List.length_take] at this; omega
  have h1 := takeGet h1
  have h2 := takeGet h2
  have hb := f.blk p m k h1 h2
  cases k with
  | iter s pos => exact hb
  | dead => trivial
  | row e sz ver rows =>
   refine ⟨hb.hver, hb.hsize, hb.pos, hb.lens, hb.sto, ?_⟩
   rcases hb.lies with hl | ⟨b, cur, g1, g2, g3, g4, g5, g6⟩
   ·exact .inl hl
   ·refine .inr ⟨b, cur, g1, g2, g3, g4, g5, fun i r j c hi hj => ?_⟩
    obtain ⟨x, hx, hr⟩ := g6 i r j c hi hj
    rcases hk p _ hp h2 with ⟨hlt, hold⟩ | hclo
    ·
     have hm0 : p < μ0.length := by rw [f0.len]; exact hlt
     have hb0 : RowFits w0 S0 μ0 _ e sz ver rows := f0.blk p _ _ (List.getElem?_eq_getElem hm0) hold
     rcases hb0.lies with ⟨_, he⟩ | ⟨_, _, _, _, _, _, _, k6⟩
     ·subst he; simp at hi
     ·obtain ⟨x0, _, hr0⟩ := k6 i r j c hi hj
      exact ⟨x, hx, (hr0.clo.mono hle0).rep hr fun a ha => .inl ha⟩
    ·exact ⟨x, hx, ((hclo r (List.mem_of_getElem? hi)).cells c (List.mem_of_getElem? hj)).rep hr fun a ha => .inl ha⟩
theorem Sat.of_body {f : FuncId} {fn : Func} {c : Code} {args : List AVal} {R : AVal → Heap → Prop} (hf : C.P.funcs[f]? = some fn) (hb : fn.body = some c) (hname : (fn.name == "runtime.NumGoroutine") = false)
  (hok : okCode fn.ntmps c = true) (hres : fn.results.toList.all (okRes fn.ntmps) = true) (hlen : args.length ≤ fn.ntmps)
  (hw : WP C c (fun e t' h' => match e with
   | .normal => need (resA C t' h' fn.results.toList) (Fin h h' R)
   | .ret => need (resA C t' h' fn.results.toList) (Fin h h' R)
   | _ => False) (env0 args) h) : Sat C f args h R := by
 intro B S μ w vs fit rl
 have hcall : (callFunc f vs.toArray).run C.P w = .ok (.enter f vs.toArray) w := by
  have hne : fn.name ≠ "runtime.NumGoroutine" := by simpa using hname
  simp [callFunc, hf, hne, hb]
 rw [hcall]
 show Calls C.P f vs.toArray w _
 refine calls_of_wp hf hb ?_
 have hlv : vs.length ≤ fn.ntmps := by rw [rl.1]; exact hlen
 have renv : REnv fn.ntmps w S μ (env0 args) { tmps := vs.toArray ++ Array.replicate (fn.ntmps - vs.toArray.size) undef, defers := [] } := by
  refine ⟨by simp; omega, rfl, fun i hi => ?_⟩
  unfold env0
  by_cases hlt : i < args.length
  ·have hx := List.getElem?_eq_getElem hlt
   have := rl.2 i _ hx
   have hv : i < vs.length := by rw [rl.1]; exact hlt
   have e1 : args.getD i undefA = args[i] := by simp [List.getD, hx]
   have e2 : (vs.toArray ++ Array.replicate (fn.ntmps - vs.toArray.size) undef).getD i undef = vs.getD i undef := by
    simp [Array.getD_eq_getD_getElem?, Array.getElem?_append, hv, List.getD]
   rw [e1]
   simp only [e2]
   exact this
  ·have e1 : args.getD i undefA = undefA := by simp [List.getD, List.getElem?_eq_none (show args.length ≤ i by omega)]
   have hv : ¬ i < vs.length := by rw [rl.1]; exact hlt
   have e2 : (vs.toArray ++ Array.replicate (fn.ntmps - vs.toArray.size) undef).getD i undef = undef := by
    simp [Array.getD_eq_getD_getElem?, Array.getElem?_append, hv, Array.getElem?_replicate]
    split <;> rfl
   rw [e1]
   simp only [e2]
   exact undefA_rep _ _ _
 have hres' := List.all_eq_true.1 hres
 refine wp_mono (WP_sound (B := B) (n := fn.ntmps) c hok (Step.refl B S μ w) fit renv hw) fun e a' w' hp => ?_
 obtain ⟨t', h', S', μ', hq, st, fit', renv'⟩ := hp
 have fin : need (resA C t' h' fn.results.toList) (Fin h h' R) → a'.defers = [] ∧ ∃ v, (results fn a'.tmps).run C.P w' = .ok v w' ∧
   ∃ u, Ending.returned v = Ending.returned u ∧ OpPost C B S μ w R u w' := by
  intro hq
  obtain ⟨r0, hr0, n, r, hn, hz, hk, hR⟩ := need_some hq
  obtain ⟨v, hv, hrep⟩ := run_resA fit' renv' hres' hr0
  rcases hk with hk | hk
  ·have e1 : h'.take n = h' := List.take_of_length_le hk
   have e2 : μ'.take n = μ' := List.take_of_length_le (by rw [fit'.len]; exact hk)
   have e3 : Let S' μ' w' n = S' := by
    funext a
    apply propext
    constructor
    ·rintro (h | ⟨p, m, hp, hm, _⟩)
     ·exact h
     ·have := (List.getElem?_eq_some_iff.1 hm).1
      rw [fit'.len] at this; omega
    ·exact .inl
   have z := hz.rep fit' hrep
   rw [e2, e3] at z
   rw [e1] at hR
   exact ⟨renv'.2.1, v, hv, v, rfl, r, _, _, _, hR, st, fit', z⟩
  ·obtain ⟨fc, sc⟩ := Fits.cut fit st fit' hn hk
   exact ⟨renv'.2.1, v, hv, v, rfl, r, _, _, _, hR, sc, fc, hz.rep fit' hrep⟩
 cases e with
 | normal => exact fin hq
 | ret => exact fin hq
 | _ => exact hq.elim
end
end Go.Av
namespace Go.Av
open Go.RowKit
section
variable {C : Ctx} {ops : Array Oper} {Q : Exit → Env → Heap → Prop} {rest : List Oper} {t : Env} {h : Heap} {ty : TypeId} {pos : String} {aft : Array Edge} {dst : Option Tmp}
@[congr] theorem need_congr {α : Type} {x x' : Option α} {f : α → Prop} (e : x = x') : need x f = need x' f := by rw [e]
@[go_sem] theorem need_eq {α : Type} (a : α) (f : α → Prop) : need (some a) f = f a := (rfl)
@[congr] theorem Sat_congr {f : FuncId} {args args' : List AVal} {h h' : Heap} {R : AVal → Heap → Prop} (e : args = args') (e' : h = h') : Sat C f args h R = Sat C f args' h' R := by rw [e, e']
@[go_sem] theorem aev_tmp (G : Nat → Option (List AVal)) (i : Tmp) : aev G t (.tmp i) = t i := (rfl)
@[go_sem] theorem aev_func (G : Nat → Option (List AVal)) (f : FuncId) : aev G t (.func f) = .fn (.func f) [] [] := (rfl)
@[go_sem] theorem aev_int (G : Nat → Option (List AVal)) (k : IntKind) (i : Int) : aev G t (.const (.int k i)) = .int k i := (rfl)
@[go_sem] theorem aev_bool (G : Nat → Option (List AVal)) (b : Bool) : aev G t (.const (.bool b)) = .bool b := (rfl)
@[go_sem] theorem aev_str (G : Nat → Option (List AVal)) (l : List UInt8) : aev G t (.const (.string ⟨⟨l⟩⟩)) = .str l := (rfl)
@[go_sem] theorem aev_slice (G : Nat → Option (List AVal)) (a : Option Addr) (n c : Nat) : aev G t (.const (.slice a n c)) = .nil (.slice a n c) := (rfl)
@[go_sem] theorem aev_ptr (G : Nat → Option (List AVal)) (a : Option Addr) : aev G t (.const (.pointer a)) = .nil (.pointer a) := (rfl)
@[go_sem] theorem aev_iface (G : Nat → Option (List AVal)) : aev G t (.const .nilIface) = .nil .nilIface := (rfl)
@[go_sem] theorem aev_agg (G : Nat → Option (List AVal)) (l : List Value) : aev G t (.const (.agg ⟨l⟩)) = .agg (l.map ofVal1) := (rfl)
@[go_sem] theorem ofVal1_str (l : List UInt8) : ofVal1 (.string ⟨⟨l⟩⟩) = .str l := (rfl)
@[go_sem] theorem ofVal1_slice (a : Option Addr) (n c : Nat) : ofVal1 (.slice a n c) = .nil (.slice a n c) := (rfl)
@[go_sem] theorem upd_app (t : Env) (d : Nat) (v : AVal) (i : Nat) : upd t d v i = if i = d then v else t i := (rfl)
@[go_sem] theorem put_some (t : Env) (d : Nat) (v : AVal) : put t (some d) v = upd t d v := (rfl)
@[go_sem] theorem put_none (t : Env) (v : AVal) : put t none v = t := (rfl)
@[go_sem] theorem WPl_nil : WPl C ops Q [] t h = Q .normal t h := (rfl)
@[go_sem] theorem WPl_move (x : Operand) : WPl C ops Q (⟨dst, .move x, ty, pos, aft, none⟩ :: rest) t h = WPl C ops Q rest (put t dst (aev C.G t x)) h := (rfl)
@[go_sem] theorem WPl_assign (x : Operand) : WPl C ops Q (⟨dst, .assign x, ty, pos, aft, none⟩ :: rest) t h = WPl C ops Q rest (put t dst (aev C.G t x)) h := (rfl)
def pickK (c : AVal) (a b : AVal) (k : AVal → Prop) : Prop := match c with | .bool q => (q = true → k a) ∧ (q = false → k b) | _ => False
@[congr] theorem pickK_congr {c c' a a' b b' : AVal} {k : AVal → Prop} (e1 : c = c') (e2 : a = a') (e3 : b = b') : pickK c a b k = pickK c' a' b' k := by rw [e1, e2, e3]
@[go_sem] theorem WPl_pick (c x y : Operand) : WPl C ops Q (⟨dst, .pick c x y, ty, pos, aft, none⟩ :: rest) t h = pickK (aev C.G t c) (aev C.G t x) (aev C.G t y) (fun v => WPl C ops Q rest (put t dst v) h) := (rfl)
@[go_sem] theorem WPl_alloc (e : TypeId) : WPl C ops Q (⟨dst, .alloc e, ty, pos, aft, none⟩ :: rest) t h =
  need (zroT C.P e) fun z => 0 < z.cells.length ∧ z.cells.all AVal.sto = true ∧ z.lies = true ∧ WPl C ops Q rest (put t dst (.hp h.length 0 0 0)) (h ++ [.row e z.cells.length 0 [z]]) := (rfl)
def boxK (e : TypeId) (x : AVal) (h : Heap) (k : Heap → Prop) : Prop := 0 < x.cells.length ∧ x.lies = true ∧ k (h ++ [.row e x.cells.length 0 [x]])
@[congr] theorem boxK_congr {e : TypeId} {x x' : AVal} {h h' : Heap} {k : Heap → Prop} (e1 : x = x') (e2 : h = h') : boxK e x h k = boxK e x' h' k := by rw [e1, e2]
@[go_sem] theorem boxK_agg (e : TypeId) (cs : List AVal) (h : Heap) (k : Heap → Prop) : boxK e (.agg cs) h k = (0 < cs.length ∧ k (h ++ [.row e cs.length 0 [.agg cs]])) := by simp [boxK, AVal.cells, AVal.lies]
@[go_sem] theorem boxK_str (e : TypeId) (s : List UInt8) (h : Heap) (k : Heap → Prop) : boxK e (.str s) h k = k (h ++ [.row e 1 0 [.str s]]) := by simp [boxK, AVal.cells, AVal.lies, AVal.sto]
@[go_sem] theorem WPl_box (e : TypeId) (x : Operand) : WPl C ops Q (⟨dst, .box e x, ty, pos, aft, none⟩ :: rest) t h = boxK e (aev C.G t x) h (fun h' => WPl C ops Q rest (put t dst (.hp h.length 0 0 0)) h') := (rfl)
def loadK (C : Ctx) (T : TypeId) (x : AVal) (h : Heap) (k : AVal → Prop) : Prop := match x with
  | .ad cs => need (pickT C.P T cs) k
  | .hp p ver i off => need (getRow h p ver) fun q => need (q.2.2[i]?) fun r => need (pickT C.P T (r.cells.drop off)) k
  | _ => False
@[congr] theorem loadK_congr {T : TypeId} {x x' : AVal} {h h' : Heap} {k : AVal → Prop} (e1 : x = x') (e2 : h = h') : loadK C T x h k = loadK C T x' h' k := by rw [e1, e2]
@[go_sem] theorem loadK_ad (T : TypeId) (cs : List AVal) (k : AVal → Prop) : loadK C T (.ad cs) h k = need (pickT C.P T cs) k := (rfl)
@[go_sem] theorem loadK_hp (T : TypeId) (p ver i off : Nat) (k : AVal → Prop) : loadK C T (.hp p ver i off) h k = need (getRow h p ver) fun q => need (q.2.2[i]?) fun r => need (pickT C.P T (r.cells.drop off)) k := (rfl)
@[go_sem] theorem WPl_load (T : TypeId) (x : Operand) : WPl C ops Q (⟨dst, .load T x, ty, pos, aft, none⟩ :: rest) t h = loadK C T (aev C.G t x) h (fun v => WPl C ops Q rest (put t dst v) h) := by
 simp only [WPl, wpOper, wpOp, loadK]; generalize aev C.G t x = v; cases v <;> rfl
def storeK (C : Ctx) (T : TypeId) (x y : AVal) (h : Heap) (k : Heap → Prop) : Prop := match x with
  | .hp p ver i off => need (getRow h p ver) fun q => need (q.2.2[i]?) fun r =>
    szOf C.P T = some y.cells.length ∧ y.lies = true ∧ off + y.cells.length ≤ q.2.1 ∧ k (h.set p (.row q.1 q.2.1 ver (q.2.2.set i (putA r off y.cells))))
  | _ => False
@[congr] theorem storeK_congr {T : TypeId} {x x' y y' : AVal} {h h' : Heap} {k : Heap → Prop} (e1 : x = x') (e2 : y = y') (e3 : h = h') : storeK C T x y h k = storeK C T x' y' h' k := by rw [e1, e2, e3]
@[go_sem] theorem storeK_hp (T : TypeId) (p ver i off : Nat) (y : AVal) (k : Heap → Prop) : storeK C T (.hp p ver i off) y h k = need (getRow h p ver) fun q => need (q.2.2[i]?) fun r =>
    szOf C.P T = some y.cells.length ∧ y.lies = true ∧ off + y.cells.length ≤ q.2.1 ∧ k (h.set p (.row q.1 q.2.1 ver (q.2.2.set i (putA r off y.cells)))) := (rfl)
@[go_sem] theorem WPl_store (T : TypeId) (x y : Operand) : WPl C ops Q (⟨dst, .store T x y, ty, pos, aft, none⟩ :: rest) t h = storeK C T (aev C.G t x) (aev C.G t y) h (fun h' => WPl C ops Q rest (put t dst undefA) h') := by
 simp only [WPl, wpOper, wpOp, storeK]; generalize aev C.G t x = v; cases v <;> rfl
def nilK (x : AVal) (h : Heap) (k : Prop) : Prop := match x with
  | .hp p ver _ _ => (getRow h p ver).isSome ∧ k
  | .ad _ => k
  | .fn (.func _) _ _ => k
  | .ifc _ _ => k
  | _ => False
@[congr] theorem nilK_congr {x x' : AVal} {h h' : Heap} {k : Prop} (e1 : x = x') (e2 : h = h') : nilK x h k = nilK x' h' k := by rw [e1, e2]
@[go_sem] theorem nilK_hp (p v i o : Nat) (k : Prop) : nilK (.hp p v i o) h k = ((getRow h p v).isSome ∧ k) := (rfl)
@[go_sem] theorem WPl_nilCheck (x : Operand) : WPl C ops Q (⟨dst, .nilCheck x, ty, pos, aft, none⟩ :: rest) t h = nilK (aev C.G t x) h (WPl C ops Q rest (put t dst (aev C.G t x)) h) := by
 simp only [WPl, wpOper, wpOp, nilK]; generalize aev C.G t x = v; cases v <;> first | rfl | (rename_i f _ _; cases f <;> rfl)
@[congr] theorem binK_congr {P : Program} {h h' : Heap} {op : BinOp} {T : TypeId} {x x' y y' : AVal} {k : AVal → Prop} (e1 : x = x') (e2 : y = y') (e3 : h = h') : binK P h op T x y k = binK P h' op T x' y' k := by rw [e1, e2, e3]
section
variable {P : Program} {op : BinOp} {T : TypeId} {k : AVal → Prop}
theorem binK_of {x y : AVal} (hn : ∀ n, x = .sl n [] → y ≠ .nil (.slice none 0 0)) : binK P h op T x y k = need (abin P h op T x y) k := by
 unfold binK
 split
 ·exact absurd rfl (hn _ rfl)
 ·rfl
@[go_sem] theorem binK_int (x : AVal) (kd : IntKind) (n : Int) : binK P h op T x (.int kd n) k = need (abin P h op T x (.int kd n)) k := binK_of (by simp)
@[go_sem] theorem binK_str (x : AVal) (s : List UInt8) : binK P h op T x (.str s) k = need (abin P h op T x (.str s)) k := binK_of (by simp)
@[go_sem] theorem binK_hp (x : AVal) (p v i o : Nat) : binK P h op T x (.hp p v i o) k = need (abin P h op T x (.hp p v i o)) k := binK_of (by simp)
@[go_sem] theorem binK_nhp (y : AVal) (p v i o : Nat) : binK P h op T (.hp p v i o) y k = need (abin P h op T (.hp p v i o) y) k := binK_of (by simp)
@[go_sem] theorem binK_nnil (y : AVal) (u : Value) : binK P h op T (.nil u) y k = need (abin P h op T (.nil u) y) k := binK_of (by simp)
@[go_sem] theorem binK_ncons (y : AVal) (n : Nat) (a : AVal) (l : List AVal) : binK P h op T (.sl n (a :: l)) y k = need (abin P h op T (.sl n (a :: l)) y) k := binK_of (by simp)
theorem binK_empty (n : Nat) (he : (elmT P T).isSome = true) (hop : op = .eql ∨ op = .neq) (hk : ∀ b, k (.bool b)) : binK P h op T (.sl n []) (.nil (.slice none 0 0)) k := by
 unfold binK
 simp only [if_pos he]
 rcases hop with rfl | rfl <;> exact hk
end
@[go_sem] theorem WPl_binOp (op : BinOp) (T T' : TypeId) (x y : Operand) : WPl C ops Q (⟨dst, .binOp op T x y T', ty, pos, aft, none⟩ :: rest) t h =
  binK C.P h op T (aev C.G t x) (aev C.G t y) fun v => WPl C ops Q rest (put t dst v) h := (rfl)
@[go_sem] theorem WPl_unOp (op : UnOp) (T : TypeId) (x : Operand) : WPl C ops Q (⟨dst, .unOp op T x, ty, pos, aft, none⟩ :: rest) t h = need (aun op (aev C.G t x)) fun v => WPl C ops Q rest (put t dst v) h := (rfl)
@[congr] theorem convK_congr {P : Program} {s d : TypeId} {x x' : AVal} {h h' : Heap} {k : AVal → Prop} (e1 : x = x') (e2 : h = h') : convK P s d x h k = convK P s d x' h' k := by rw [e1, e2]
@[go_sem] theorem convK_int (P : Program) (s d : TypeId) (kd : IntKind) (n : Int) (h : Heap) (k : AVal → Prop) : convK P s d (.int kd n) h k = need (aconv P s d (.int kd n)) k := (rfl)
@[go_sem] theorem convK_hp (P : Program) (s d : TypeId) (p v : Nat) (h : Heap) (k : AVal → Prop) : convK P s d (.hp p v 0 0) h k = need (getRow h p v) fun q => ptrConv P s d q.1 q.2.1 = true ∧ q.2.2 ≠ [] ∧ k (.hp p v 0 0) := (rfl)
@[go_sem] theorem convK_hs (P : Program) (s d : TypeId) (p v o l : Nat) (r : Bool) (h : Heap) (k : AVal → Prop) : convK P s d (.hs p v o l r) h k = (bytesStr P s d = true ∧ need (elemsOf h 1 (.hs p v o l r)) fun ys => need (bytesA ys) fun bs => k (.str bs)) := (rfl)
@[go_sem] theorem WPl_convert (s d : TypeId) (x : Operand) : WPl C ops Q (⟨dst, .convert s d x, ty, pos, aft, none⟩ :: rest) t h = convK C.P s d (aev C.G t x) h fun v => WPl C ops Q rest (put t dst v) h := (rfl)
@[congr] theorem maxK_congr {p : Int → Int → Bool} {x x' y y' : AVal} {k : AVal → Prop} (e1 : x = x') (e2 : y = y') : maxK p x y k = maxK p x' y' k := by rw [e1, e2]
@[congr] theorem sdataK_congr {x x' : AVal} {h h' : Heap} {k : AVal → Prop} (e1 : x = x') (e2 : h = h') : sdataK x h k = sdataK x' h' k := by rw [e1, e2]
@[go_sem] theorem sdataK_hs (p v len : Nat) (h : Heap) (k : AVal → Prop) : sdataK (.hs p v 0 len true) h k = ((getRow h p v).isSome = true ∧ if 0 < len then k (.hp p v 0 0) else k .pa) := (rfl)
@[congr] theorem ustrK_congr {P : Program} {T : TypeId} {x x' y y' : AVal} {h h' : Heap} {k : AVal → Heap → Prop} (e1 : x = x') (e2 : y = y') (e3 : h = h') : ustrK P T x y h k = ustrK P T x' y' h' k := by rw [e1, e2, e3]
@[go_sem] theorem ustrK_pa (P : Program) (T : TypeId) (h : Heap) (k : AVal → Heap → Prop) : ustrK P T .pa (.int .i64 0) h k = k (.str []) h := (rfl)
theorem ustrK_hp {P : Program} {T : TypeId} {p v e : Nat} {m : Nat} {rows : List AVal} {bs : List UInt8} {h : Heap} {k : AVal → Heap → Prop} (hm : 0 < m) (hg : getRow h p v = some (e, 1, rows)) (hT : bptr P T e = true) (hl : m ≤ rows.length)
  (hb : bytesA (rows.take m) = some bs) (hk : k (.str bs) (h.set p .dead)) : ustrK P T (.hp p v 0 0) (.int .i64 m) h k := by
 have h0 : ¬ ((m : Int) = 0) := by omega
 simp only [ustrK, if_neg h0, hg, need_eq, true_and, Int.toNat_natCast, hb]
 exact ⟨hT, by omega, hl, hk⟩
@[go_sem] theorem WPl_ustr (x y : Operand) (T T2 : TypeId) : WPl C ops Q (⟨dst, .call ⟨.builtin .unsafeString, #[x, y], #[T, T2]⟩, ty, pos, aft, none⟩ :: rest) t h =
  ustrK C.P T (aev C.G t x) (aev C.G t y) h fun v h' => WPl C ops Q rest (put t dst v) h' := (rfl)
@[go_sem] theorem WPl_makeFunc (f : Fn) (a b : Array Operand) : WPl C ops Q (⟨dst, .makeFunc f a b, ty, pos, aft, none⟩ :: rest) t h = WPl C ops Q rest (put t dst (.fn f (a.toList.map (aev C.G t)) (b.toList.map (aev C.G t)))) h := (rfl)
@[go_sem] theorem WPl_slice (T : TypeId) (x : Operand) (lo hi mx : Option Operand) : WPl C ops Q (⟨dst, .slice T x lo hi mx, ty, pos, aft, none⟩ :: rest) t h =
  need (aslice C.P h T (aev C.G t x) (lo.map (aev C.G t)) (hi.map (aev C.G t)) (mx.map (aev C.G t))) fun v => WPl C ops Q rest (put t dst v) h := (rfl)
def fieldK (x : AVal) (o : Nat) (h : Heap) (k : AVal → Prop) : Prop := match x with
  | .hp p ver i off => (getRow h p ver).isSome ∧ k (.hp p ver i (off + o))
  | .ad cs => o < cs.length ∧ k (.ad (cs.drop o))
  | _ => False
@[congr] theorem fieldK_congr {x x' : AVal} {o : Nat} {h h' : Heap} {k : AVal → Prop} (e1 : x = x') (e2 : h = h') : fieldK x o h k = fieldK x' o h' k := by rw [e1, e2]
@[go_sem] theorem fieldK_hp (p ver i off o : Nat) (k : AVal → Prop) : fieldK (.hp p ver i off) o h k = ((getRow h p ver).isSome ∧ k (.hp p ver i (off + o))) := (rfl)
@[go_sem] theorem fieldK_ad (cs : List AVal) (o : Nat) (k : AVal → Prop) : fieldK (.ad cs) o h k = (o < cs.length ∧ k (.ad (cs.drop o))) := (rfl)
@[go_sem] theorem WPl_fieldAddr (T : TypeId) (x : Operand) (f : Nat) : WPl C ops Q (⟨dst, .fieldAddr T x f, ty, pos, aft, none⟩ :: rest) t h =
  need (fOff C.P T f) fun q => q.2.2 ≠ 0 ∧ fieldK (aev C.G t x) q.1 h (fun v => WPl C ops Q rest (put t dst v) h) := by
 simp only [WPl, wpOper, wpOp, fieldK]; cases fOff C.P T f <;> first | rfl | (simp only [need_eq]; generalize aev C.G t x = v; cases v <;> rfl)
def indexK (C : Ctx) (T : TypeId) (x i : AVal) (h : Heap) (k : AVal → Prop) : Prop := match i with
  | .int _ n => match x with
   | .sl m es => need (elmT C.P T) fun e => szOf C.P e = some m ∧ 0 ≤ n ∧ 0 < m ∧ need (es[n.toNat]?) fun r => k (.ad r.cells)
   | .hs p ver off len _ => need (elmT C.P T) fun e => need (getRow h p ver) fun q => szOf C.P e = some q.2.1 ∧ 0 ≤ n ∧ n < len ∧ k (.hp p ver (off + n.toNat) 0)
   | .hp p ver j off => need (arrT C.P T) fun q => need (szOf C.P q.2) fun m => (getRow h p ver).isSome ∧ 0 ≤ n ∧ n < q.1 ∧ k (.hp p ver j (off + n.toNat * m))
   | .ad cs => need (arrT C.P T) fun q => need (szOf C.P q.2) fun m => 0 ≤ n ∧ n < q.1 ∧ n.toNat * m < cs.length ∧ k (.ad (cs.drop (n.toNat * m)))
   | _ => False
  | _ => False
@[congr] theorem indexK_congr {T : TypeId} {x x' i i' : AVal} {h h' : Heap} {k : AVal → Prop} (e1 : x = x') (e2 : i = i') (e3 : h = h') : indexK C T x i h k = indexK C T x' i' h' k := by rw [e1, e2, e3]
@[go_sem] theorem indexK_sl (T : TypeId) (m : Nat) (es : List AVal) (kd : IntKind) (n : Int) (k : AVal → Prop) : indexK C T (.sl m es) (.int kd n) h k =
  need (elmT C.P T) fun e => szOf C.P e = some m ∧ 0 ≤ n ∧ 0 < m ∧ need (es[n.toNat]?) fun r => k (.ad r.cells) := (rfl)
@[go_sem] theorem indexK_hs (T : TypeId) (p ver off len : Nat) (r : Bool) (kd : IntKind) (n : Int) (k : AVal → Prop) : indexK C T (.hs p ver off len r) (.int kd n) h k =
  need (elmT C.P T) fun e => need (getRow h p ver) fun q => szOf C.P e = some q.2.1 ∧ 0 ≤ n ∧ n < len ∧ k (.hp p ver (off + n.toNat) 0) := (rfl)
@[go_sem] theorem indexK_hp (T : TypeId) (p ver j off : Nat) (kd : IntKind) (n : Int) (k : AVal → Prop) : indexK C T (.hp p ver j off) (.int kd n) h k =
  need (arrT C.P T) fun q => need (szOf C.P q.2) fun m => (getRow h p ver).isSome ∧ 0 ≤ n ∧ n < q.1 ∧ k (.hp p ver j (off + n.toNat * m)) := (rfl)
@[go_sem] theorem WPl_indexAddr (T : TypeId) (x i : Operand) : WPl C ops Q (⟨dst, .indexAddr T x i, ty, pos, aft, none⟩ :: rest) t h = indexK C T (aev C.G t x) (aev C.G t i) h (fun v => WPl C ops Q rest (put t dst v) h) := by
 simp only [WPl, wpOper, wpOp, indexK]; generalize aev C.G t i = vi; generalize aev C.G t x = v; cases vi <;> first | rfl | (cases v <;> rfl)
def indexV (C : Ctx) (T : TypeId) (x i : AVal) (k : AVal → Prop) : Prop := match i with
  | .int _ n => match x with
   | .str s => strT C.P T = true ∧ 0 ≤ n ∧ need (s[n.toNat]?) fun b => k (.int .u8 b.toNat)
   | .agg cs => need (arrT C.P T) fun q => need (szOf C.P q.2) fun m => 0 ≤ n ∧ n < q.1 ∧ need (pickT C.P q.2 (cs.drop (n.toNat * m))) k
   | _ => False
  | _ => False
@[congr] theorem indexV_congr {T : TypeId} {x x' i i' : AVal} {k : AVal → Prop} (e1 : x = x') (e2 : i = i') : indexV C T x i k = indexV C T x' i' k := by rw [e1, e2]
@[go_sem] theorem indexV_str (T : TypeId) (s : List UInt8) (kd : IntKind) (n : Int) (k : AVal → Prop) : indexV C T (.str s) (.int kd n) k = (strT C.P T = true ∧ 0 ≤ n ∧ need (s[n.toNat]?) fun b => k (.int .u8 b.toNat)) := (rfl)
@[go_sem] theorem WPl_index (T : TypeId) (x i : Operand) : WPl C ops Q (⟨dst, .index T x i, ty, pos, aft, none⟩ :: rest) t h = indexV C T (aev C.G t x) (aev C.G t i) (fun v => WPl C ops Q rest (put t dst v) h) := by
 simp only [WPl, wpOper, wpOp, indexV]; generalize aev C.G t i = vi; generalize aev C.G t x = v; cases vi <;> first | rfl | (cases v <;> rfl)
@[go_sem] theorem WPl_extract (x : Operand) (i : Nat) : WPl C ops Q (⟨dst, .extract x i, ty, pos, aft, none⟩ :: rest) t h =
  need (match aev C.G t x with | .tup vs => vs[i]? | _ => none) fun v => WPl C ops Q rest (put t dst v) h := by
 simp only [WPl, wpOper, wpOp]; generalize aev C.G t x = v; cases v <;> rfl
def buildA (C : Ctx) (T : TypeId) (parts : List (Nat × AVal)) : Option AVal :=
 match zroT C.P T with
 | some z => if z.cells.all AVal.sto = true then
   match nFld C.P T, arrT C.P T with
   | some _, _ => (fillA (fun i => (fOff C.P T i).map fun q => (q.1, q.2.2)) z.cells parts).map .agg
   | none, some (_, e) => match szOf C.P e with
    | some n => (fillA (fun i => some (i * n, n)) z.cells parts).map .agg
    | none => none
   | _, _ => none
   else none
 | none => none
@[go_sem] theorem WPl_build (T : TypeId) (parts : Array (Nat × Operand)) : WPl C ops Q (⟨dst, .build T parts, ty, pos, aft, none⟩ :: rest) t h =
  need (buildA C T (parts.toList.map fun q => (q.1, aev C.G t q.2))) fun v => WPl C ops Q rest (put t dst v) h := by
 simp only [WPl, wpOper, wpOp, buildA]
 cases zroT C.P T with
 | none => rfl
 | some z =>
  simp only [need_eq]
  by_cases hz : z.cells.all AVal.sto = true
  ·simp only [hz, if_true, true_and]
   generalize nFld C.P T = N
   generalize arrT C.P T = A
   cases N with
   | some k =>
    simp only []
    cases fillA (fun i => (fOff C.P T i).map fun q => (q.1, q.2.2)) z.cells (parts.toList.map fun q => (q.1, aev C.G t q.2)) <;> rfl
   | none =>
    cases A with
    | none => rfl
    | some q =>
     obtain ⟨k, e⟩ := q
     simp only []
     cases szOf C.P e with
     | none => rfl
     | some n =>
      simp only [need_eq]
      cases fillA (fun i => some (i * n, n)) z.cells (parts.toList.map fun q => (q.1, aev C.G t q.2)) <;> rfl
  ·simp [hz, need]
def rowsK (C : Ctx) (T : TypeId) (len : Nat) (idx : List Nat) (xs : List AVal) (h : Heap) (k : AVal → Heap → Prop) : Prop :=
 need (elmT C.P T) fun e => need (szOf C.P e) fun n => if len = 0 then xs.length = 0 ∧ k .ez h else
   xs.length = len ∧ 0 < len ∧ 0 < n ∧ len * n ≤ 16777216 ∧ idx = List.range len ∧ (zroT C.P e).map (fun z => (z.cells.length, z.cells.all AVal.sto)) = some (n, true) ∧
   (∀ x ∈ xs, x.cells.length = n ∧ x.lies = true) ∧ (k (.hs h.length 0 0 len true) (h ++ [.row e n 0 xs]) ∨ k (.sl n xs) h)
@[congr] theorem rowsK_congr {T : TypeId} {len : Nat} {idx idx' : List Nat} {xs xs' : List AVal} {h h' : Heap} {k : AVal → Heap → Prop} (e1 : xs = xs') (e2 : h = h') (e3 : idx = idx') : rowsK C T len idx xs h k = rowsK C T len idx' xs' h' k := by rw [e1, e2, e3]
@[go_sem] theorem rowsK_zero {T : TypeId} {h : Heap} {k : AVal → Heap → Prop} : rowsK C T 0 [] [] h k = need (elmT C.P T) fun e => need (szOf C.P e) fun _ => k .ez h := by simp [rowsK]
@[go_sem] theorem WPl_buildSlice (T : TypeId) (len : Nat) (parts : Array (Nat × Operand)) : WPl C ops Q (⟨dst, .buildSlice T len parts, ty, pos, aft, none⟩ :: rest) t h =
  rowsK C T len (parts.toList.map (·.1)) (parts.toList.map fun q => aev C.G t q.2) h (fun v h' => WPl C ops Q rest (put t dst v) h') := by
 simp only [WPl, wpOper, wpOp, rowsK, List.length_map, Array.length_toList]
@[go_sem] theorem WPl_range (T : TypeId) (x : Operand) : WPl C ops Q (⟨dst, .range T x, ty, pos, aft, none⟩ :: rest) t h =
  need (match aev C.G t x with | .str s => some s | _ => none) fun s => strT C.P T = true ∧ WPl C ops Q rest (put t dst (.hp h.length 0 0 0)) (h ++ [.iter s 0]) := by
 simp only [WPl, wpOper, wpOp]; generalize aev C.G t x = v; cases v <;> rfl
def nextK (x : AVal) (h : Heap) (k : AVal → Heap → Prop) : Prop := match x with
  | .hp p 0 0 0 => match h[p]? with
   | some (.iter s pos) => (pos < s.length → k (.tup [.bool true, .int .i64 pos, .int .i32 (Utf8.decode ⟨s.toArray⟩ pos).1]) (h.set p (.iter s (pos + (Utf8.decode ⟨s.toArray⟩ pos).2)))) ∧
     (¬ pos < s.length → k (.tup [.bool false]) h)
   | _ => False
  | _ => False
@[congr] theorem nextK_congr {x x' : AVal} {h h' : Heap} {k : AVal → Heap → Prop} (e1 : x = x') (e2 : h = h') : nextK x h k = nextK x' h' k := by rw [e1, e2]
@[go_sem] theorem WPl_next (x : Operand) : WPl C ops Q (⟨dst, .next x true, ty, pos, aft, none⟩ :: rest) t h = nextK (aev C.G t x) h (fun v h' => WPl C ops Q rest (put t dst v) h') := by
 simp only [WPl, wpOper, wpOp, nextK]
 generalize aev C.G t x = v
 cases v with
 | hp p ver i off =>
  cases ver with
  | succ n => rfl
  | zero =>
   cases i with
   | succ n => rfl
   | zero =>
    cases off with
    | succ n => rfl
    | zero => simp only [true_and]; split <;> simp_all
 | _ => rfl
theorem nextK_at {p : Nat} {s : List UInt8} {q : Nat} {k : AVal → Heap → Prop} (hh : h[p]? = some (.iter s q))
  (h1 : q < s.length → k (.tup [.bool true, .int .i64 q, .int .i32 (Utf8.decode ⟨s.toArray⟩ q).1]) (h.set p (.iter s (q + (Utf8.decode ⟨s.toArray⟩ q).2))))
  (h2 : ¬ q < s.length → k (.tup [.bool false]) h) : nextK (.hp p 0 0 0) h k := by
 simp only [nextK, hh]; exact ⟨h1, h2⟩
@[go_sem] theorem WPl_len (x : Operand) (T : TypeId) : WPl C ops Q (⟨dst, .call ⟨.builtin .len, #[x], #[T]⟩, ty, pos, aft, none⟩ :: rest) t h =
  need (alen C.P h T (aev C.G t x)) fun n => WPl C ops Q rest (put t dst (.int .i64 n)) h := (rfl)
def appK (C : Ctx) (T T' : TypeId) (x y : AVal) (h : Heap) (k : AVal → Heap → Prop) : Prop := (T' = T ∨ strT C.P T' = true) ∧ wpAppend C.P T x y h k
@[congr] theorem appK_congr {T T' : TypeId} {x x' y y' : AVal} {h h' : Heap} {k : AVal → Heap → Prop} (e1 : x = x') (e2 : y = y') (e3 : h = h') : appK C T T' x y h k = appK C T T' x' y' h' k := by rw [e1, e2, e3]
@[go_sem] theorem WPl_append (x y : Operand) (T T' : TypeId) : WPl C ops Q (⟨dst, .call ⟨.builtin .append, #[x, y], #[T, T']⟩, ty, pos, aft, none⟩ :: rest) t h =
  appK C T T' (aev C.G t x) (aev C.G t y) h (fun v h' => WPl C ops Q rest (put t dst v) h') := (rfl)
theorem appK_row {T T' e n by' p ver len : Nat} {y : AVal} {rows ys : List AVal} {k : AVal → Heap → Prop} (hT : T' = T ∨ strT C.P T' = true) (he : elmT C.P T = some e) (hn : szOf C.P e = some n) (hb : byT C.P e = some by')
  (hz : (zroT C.P e).map (fun z => z.cells.length) = some n) (h0 : 0 < n) (hy : elemsOf h n y = some ys) (hrow : getRow h p ver = some (e, n, rows)) (hl : len = rows.length)
  (hr : len + ys.length ≤ maxLen ∧ (len + ys.length) * by' ≤ 140737488355328)
  (hk : k (.hs p (ver + 1) 0 (len + ys.length) true) (h.set p (.row e n (ver + 1) (rows ++ ys)))) : appK C T T' (.hs p ver 0 len true) y h k := by
 refine ⟨hT, ?_⟩
 simp only [wpAppend, he, hn, hb, hy, hrow, need_eq]
 exact ⟨h0, hz, trivial, trivial, trivial, hr, by rw [if_pos trivial]; exact ⟨hl, hk⟩⟩
theorem appK_ez {T T' e n by' : Nat} {y : AVal} {ys : List AVal} {k : AVal → Heap → Prop} (hT : T' = T ∨ strT C.P T' = true) (he : elmT C.P T = some e) (hn : szOf C.P e = some n) (hb : byT C.P e = some by')
  (hz : (zroT C.P e).map (fun z => z.cells.length) = some n) (h0 : 0 < n) (hy : elemsOf h n y = some ys) (hr : ys.length ≤ maxLen ∧ ys.length * by' ≤ 140737488355328)
  (h1 : ys = [] → k .ez h) (hk : ys ≠ [] → k (.hs h.length 0 0 ys.length true) (h ++ [.row e n 0 ys])) : appK C T T' .ez y h k := by
 refine ⟨hT, ?_⟩
 simp only [wpAppend, he, hn, hb, hy, need_eq]
 refine ⟨h0, hz, ?_⟩
 split
 ·rename_i e0; exact h1 e0
 ·rename_i e0; exact ⟨hr, hk e0⟩
def callK (C : Ctx) (f : AVal) (args : List AVal) (h : Heap) (k : AVal → Heap → Prop) : Prop := match f with
  | .fn (.func g) first captured => Sat C g (first ++ args ++ captured) h k
  | _ => False
@[congr] theorem callK_congr {f f' : AVal} {args args' : List AVal} {h h' : Heap} {k : AVal → Heap → Prop} (e1 : f = f') (e2 : args = args') (e3 : h = h') : callK C f args h k = callK C f' args' h' k := by rw [e1, e2, e3]
@[go_sem] theorem callK_fn (g : FuncId) (first captured args : List AVal) (k : AVal → Heap → Prop) : callK C (.fn (.func g) first captured) args h k = Sat C g (first ++ args ++ captured) h k := (rfl)
@[go_sem] theorem WPl_call (f : Operand) (args : Array Operand) (Ts : Array TypeId) : WPl C ops Q (⟨dst, .call ⟨.value f, args, Ts⟩, ty, pos, aft, none⟩ :: rest) t h =
  callK C (aev C.G t f) (args.toList.map (aev C.G t)) h (fun v h' => WPl C ops Q rest (put t dst v) h') := by
 simp only [WPl, wpOper, wpOp, wpCall, callK]; generalize aev C.G t f = v; cases v <;> first | rfl | (rename_i f _ _; cases f <;> rfl)
def guardK (g : Option (Option Bool)) (want : Bool) (a b : Prop) : Prop := match g with | some q => (q = some want → a) ∧ (q ≠ some want → b) | none => False
@[congr] theorem guardK_congr {g g' : Option (Option Bool)} {want : Bool} {a b : Prop} (e : g = g') : guardK g want a b = guardK g' want a b := by rw [e]
theorem WPl_guard (op : Op) (j : Nat) (want : Bool) : WPl C ops Q (⟨dst, op, ty, pos, aft, some (j, want)⟩ :: rest) t h =
  guardK (guardA ops t j) want (WPl C ops Q (⟨dst, op, ty, pos, aft, none⟩ :: rest) t h) (WPl C ops Q rest (put t dst undefA) h) := by
 simp only [WPl, wpOper, guardK]; cases guardA ops t j <;> rfl
def gval (v : AVal) : Option (Option Bool) := match v with | .bool b => some (some b) | .nil (.tuple _) => some none | _ => none
def gdst (t : Env) (d : Option Nat) : Option (Option Bool) := match d with | some d => gval (t d) | none => none
@[go_sem] theorem guardA_list (l : List Oper) (j : Nat) : guardA l.toArray t j = gdst t ((l[j]?).bind (·.dst)) := by
 unfold guardA gdst
 have e : l.toArray[j]? = l[j]? := by simp
 rw [e]
 cases (l[j]?).bind (·.dst) with
 | none => rfl
 | some d => simp only [gval]; cases t d <;> rfl
@[go_sem] theorem gdst_some (d : Nat) : gdst t (some d) = gval (t d) := (rfl)
@[go_sem] theorem gval_bool (b : Bool) : gval (.bool b) = some (some b) := (rfl)
@[go_sem] theorem gval_undef : gval (.nil undef) = some none := (rfl)
attribute [go_sem] Option.bind_some
@[go_sem] theorem WPl_yes (op : Op) (j : Nat) (want : Bool) (hg : guardA ops t j = some (some want)) : WPl C ops Q (⟨dst, op, ty, pos, aft, some (j, want)⟩ :: rest) t h = WPl C ops Q (⟨dst, op, ty, pos, aft, none⟩ :: rest) t h := by
 rw [WPl_guard, hg]; simp [guardK]
@[go_sem] theorem WPl_no (op : Op) (j : Nat) (want : Bool) (hg : guardA ops t j = some (some (!want))) : WPl C ops Q (⟨dst, op, ty, pos, aft, some (j, want)⟩ :: rest) t h = WPl C ops Q rest (put t dst undefA) h := by
 rw [WPl_guard, hg]; simp [guardK]
@[go_sem] theorem WPl_un (op : Op) (j : Nat) (want : Bool) (hg : guardA ops t j = some none) : WPl C ops Q (⟨dst, op, ty, pos, aft, some (j, want)⟩ :: rest) t h = WPl C ops Q rest (put t dst undefA) h := by
 rw [WPl_guard, hg]; simp [guardK]
theorem Weak.refl (C : Ctx) (ms : List Nat) (t : Env) (h : Heap) : Weak C ms t h t h := ⟨fun _ _ => rfl, fun B _ S μ w _ f r => ⟨S, μ, Step.refl B S μ w, f, r⟩⟩
theorem Wkn.refl {ms : List Nat} {R : Env → Heap → Prop} (g : R t h) : Wkn C ms t h R := ⟨t, h, Weak.refl C ms t h, g⟩
theorem WP_seq {a b : Code} (hh : ∀ K : Env → Heap → Prop, (∀ t h, Wkn C (wr a) t h (fun t h => WP C b Q t h) → K t h) → WP C a (thenQ K Q) t h) : WP C (.seq a b) Q t h := hh _ fun _ _ k => k
theorem WP_region {id : Nat} {l : List Oper} (hh : WPl C l.toArray Q l t h) : WP C (.region id l.toArray false) Q t h := hh
theorem WP_scope {c : Code} (hh : WP C c (noG Q) t h) : WP C (.scope c) Q t h := hh
@[go_sem] theorem noG_ret : noG Q .ret t h = Q .ret t h := (rfl)
theorem WP_block {id : Nat} {c : Code} (hh : WP C c (blockQ id Q) t h) : WP C (.block id c) Q t h := hh
theorem WP_cond {c : Operand} {a b : Code} {q : Bool} (hc : aev C.G t c = .bool q) (h1 : q = true → WP C a Q t h) (h2 : q = false → WP C b Q t h) : WP C (.cond c a b) Q t h := by
 simp only [WP, hc]; exact ⟨h1, h2⟩
theorem WP_skip (hh : Q .normal t h) : WP C .skip Q t h := hh
theorem WP_exit {id : Nat} (hh : Q (.exit id) t h) : WP C (.exit id) Q t h := hh
theorem WP_ret (hh : Q .ret t h) : WP C .ret Q t h := hh
@[go_sem] theorem thenQ_normal (K : Env → Heap → Prop) : thenQ K Q .normal t h = K t h := (rfl)
@[go_sem] theorem thenQ_ret (K : Env → Heap → Prop) : thenQ K Q .ret t h = Q .ret t h := (rfl)
@[go_sem] theorem thenQ_exit (K : Env → Heap → Prop) (id : Nat) : thenQ K Q (.exit id) t h = Q (.exit id) t h := (rfl)
@[go_sem] theorem blockQ_normal (id : Nat) : blockQ id Q .normal t h = Q .normal t h := (rfl)
@[go_sem] theorem blockQ_ret (id : Nat) : blockQ id Q .ret t h = Q .ret t h := (rfl)
@[go_sem] theorem blockQ_exit (id id' : Nat) : blockQ id Q (.exit id') t h = if id' = id then Q .normal t h else Q (.exit id') t h := (rfl)
theorem Sat.body (rs : List ResultVar) {f : FuncId} {fn : Func} {c : Code} {args : List AVal} {R : AVal → Heap → Prop} (hf : C.P.funcs[f]? = some fn) (hb : fn.body = some c) (hrs : fn.results.toList = rs) (hname : (fn.name == "runtime.NumGoroutine") = false)
  (hok : okCode fn.ntmps c = true) (hres : fn.results.toList.all (okRes fn.ntmps) = true) (hlen : decide (args.length ≤ fn.ntmps) = true)
  (hw : ∀ Q : Exit → Env → Heap → Prop, (∀ t' h', need (resA C t' h' rs) (Fin h h' R) → Q .ret t' h' ∧ Q .normal t' h') → WP C c Q (env0 args) h) : Sat C f args h R := by
 subst hrs
 refine Sat.of_body hf hb hname hok hres (by simpa using hlen) (hw _ fun t' h' k => ⟨k, k⟩)
theorem Fin.plain {h0 j : Heap} {R : AVal → Heap → Prop} {r : AVal} (hc : Clo h0.length r) (hR : R r h0) : Fin h0 (h0 ++ j) R r := by
 refine ⟨h0.length, r, Nat.le_refl _, .clo _ hc, .inr fun p k hp hk => ?_, by rw [List.take_left' rfl]; exact hR⟩
 rw [List.getElem?_append_left hp] at hk
 exact .inl ⟨hp, hk⟩
theorem Fin.same {h0 : Heap} {R : AVal → Heap → Prop} {r : AVal} (hc : Clo h0.length r) (hR : R r h0) : Fin h0 h0 R r := by
 have := Fin.plain (j := []) hc hR
 simpa using this
end
attribute [go_sem] astr env0 List.getD_cons_zero List.getD_cons_succ List.toList_toArray List.map_cons List.map_nil Option.map_some Option.map_none List.append_nil List.nil_append List.cons_append
@[go_sem] theorem cells_agg (cs : List AVal) : AVal.cells (.agg cs) = cs := (rfl)
@[go_sem] theorem lies_agg (cs : List AVal) : AVal.lies (.agg cs) = true := (rfl)
@[go_sem] theorem ofCells_agg (a cs : List AVal) : ofCells (.agg a) cs = .agg cs := (rfl)
@[go_sem] theorem cells_int (k : IntKind) (n : Int) : AVal.cells (.int k n) = [.int k n] := (rfl)
@[go_sem] theorem lies_int (k : IntKind) (n : Int) : AVal.lies (.int k n) = true := (rfl)
@[go_sem] theorem sto_int (k : IntKind) (n : Int) : AVal.sto (.int k n) = true := (rfl)
@[go_sem] theorem cells_bool (b : Bool) : AVal.cells (.bool b) = [.bool b] := (rfl)
@[go_sem] theorem ofCells_bool (b : Bool) (x : AVal) : ofCells (.bool b) [x] = x := (rfl)
@[go_sem] theorem lies_bool (b : Bool) : AVal.lies (.bool b) = true := (rfl)
@[go_sem] theorem sto_bool (b : Bool) : AVal.sto (.bool b) = true := (rfl)
@[go_sem] theorem cells_str (s : List UInt8) : AVal.cells (.str s) = [.str s] := (rfl)
@[go_sem] theorem lies_str (s : List UInt8) : AVal.lies (.str s) = true := (rfl)
@[go_sem] theorem sto_str (s : List UInt8) : AVal.sto (.str s) = true := (rfl)
@[go_sem] theorem sto_nil (v : Value) : AVal.sto (.nil v) = v.oneCell' := (rfl)
@[go_sem] theorem cells_sl (n : Nat) (es : List AVal) : AVal.cells (.sl n es) = [.sl n es] := (rfl)
@[go_sem] theorem lies_sl (n : Nat) (es : List AVal) : AVal.lies (.sl n es) = true := (rfl)
@[go_sem] theorem cells_hp (p v i o : Nat) : AVal.cells (.hp p v i o) = [.hp p v i o] := (rfl)
@[go_sem] theorem lies_hp (p v i o : Nat) : AVal.lies (.hp p v i o) = true := (rfl)
@[go_sem] theorem cells_hs (p v o l : Nat) (r : Bool) : AVal.cells (.hs p v o l r) = [.hs p v o l r] := (rfl)
@[go_sem] theorem lies_hs (p v o l : Nat) (r : Bool) : AVal.lies (.hs p v o l r) = true := (rfl)
@[go_sem] theorem alen_str (P : Program) (h : Heap) (T : TypeId) (s : List UInt8) : alen P h T (.str s) = if strT P T = true then some s.length else none := (rfl)
@[go_sem] theorem alen_sl (P : Program) (h : Heap) (T : TypeId) (n : Nat) (es : List AVal) : alen P h T (.sl n es) = if (elmT P T).isSome then some es.length else none := (rfl)
@[go_sem] theorem alen_hs (P : Program) (h : Heap) (T : TypeId) (p v o l : Nat) (r : Bool) : alen P h T (.hs p v o l r) = if (elmT P T).isSome ∧ (getRow h p v).isSome then some l else none := (rfl)
@[go_sem] theorem aun_not (b : Bool) : aun .not (.bool b) = some (.bool (!b)) := (rfl)
theorem wrap64_in {x : Int} (h0 : -9223372036854775808 ≤ x) (h1 : x ≤ 9223372036854775807) : IntKind.i64.wrap x = x := by
 simp only [IntKind.wrap, IntKind.bits, IntKind.signed]; simp; omega
@[go_sem] theorem abin_add (P : Program) (h : Heap) (T : TypeId) (k : IntKind) (a b : Int) : abin P h .add T (.int k a) (.int k b) = some (.int k (k.wrap (a + b))) := by simp only [abin, aint, if_true]
@[go_sem] theorem abin_sub (P : Program) (h : Heap) (T : TypeId) (k : IntKind) (a b : Int) : abin P h .sub T (.int k a) (.int k b) = some (.int k (k.wrap (a - b))) := by simp only [abin, aint, if_true]
@[go_sem] theorem abin_mul (P : Program) (h : Heap) (T : TypeId) (k : IntKind) (a b : Int) : abin P h .mul T (.int k a) (.int k b) = some (.int k (k.wrap (a * b))) := by simp only [abin, aint, if_true]
@[go_sem] theorem abin_quo (P : Program) (h : Heap) (T : TypeId) (k : IntKind) (a b : Int) : abin P h .quo T (.int k a) (.int k b) = if b = 0 then none else some (.int k (k.wrap (a.tdiv b))) := by simp only [abin, aint, if_true]
@[go_sem] theorem abin_rem (P : Program) (h : Heap) (T : TypeId) (k : IntKind) (a b : Int) : abin P h .rem T (.int k a) (.int k b) = if b = 0 then none else some (.int k (a.tmod b)) := by simp only [abin, aint, if_true]
@[go_sem] theorem abin_eql (P : Program) (h : Heap) (T : TypeId) (k : IntKind) (a b : Int) : abin P h .eql T (.int k a) (.int k b) = some (.bool (a == b)) := by simp only [abin, aint, if_true]
@[go_sem] theorem abin_neq (P : Program) (h : Heap) (T : TypeId) (k : IntKind) (a b : Int) : abin P h .neq T (.int k a) (.int k b) = some (.bool (a != b)) := by simp only [abin, aint, if_true]
@[go_sem] theorem abin_lss (P : Program) (h : Heap) (T : TypeId) (k : IntKind) (a b : Int) : abin P h .lss T (.int k a) (.int k b) = some (.bool (decide (a < b))) := by simp only [abin, aint, if_true]
@[go_sem] theorem abin_leq (P : Program) (h : Heap) (T : TypeId) (k : IntKind) (a b : Int) : abin P h .leq T (.int k a) (.int k b) = some (.bool (decide (a ≤ b))) := by simp only [abin, aint, if_true]
@[go_sem] theorem abin_gtr (P : Program) (h : Heap) (T : TypeId) (k : IntKind) (a b : Int) : abin P h .gtr T (.int k a) (.int k b) = some (.bool (decide (a > b))) := by simp only [abin, aint, if_true]
@[go_sem] theorem abin_geq (P : Program) (h : Heap) (T : TypeId) (k : IntKind) (a b : Int) : abin P h .geq T (.int k a) (.int k b) = some (.bool (decide (a ≥ b))) := by simp only [abin, aint, if_true]
@[go_sem] theorem abin_str (P : Program) (h : Heap) (op : BinOp) (T : TypeId) (a b : List UInt8) : abin P h op T (.str a) (.str b) = astr op a b := (rfl)
theorem astr_add {a b : List UInt8} (h : a.length + b.length ≤ 140737488355328) : astr .add a b = some (.str (a ++ b)) := by simp only [astr, if_pos h]
@[go_sem] theorem getRow_app (h l : Heap) (k v : Nat) : getRow (h ++ l) (h.length + k) v = getRow l k v := by
 unfold getRow; rw [List.getElem?_append_right (by omega), Nat.add_sub_cancel_left]
@[go_sem] theorem getRow_app0 (h l : Heap) (v : Nat) : getRow (h ++ l) h.length v = getRow l 0 v := getRow_app h l 0 v
@[go_sem] theorem getRow_zero (e n v v' : Nat) (rows : List AVal) (l : Heap) : getRow (.row e n v rows :: l) 0 v' = if v' = v then some (e, n, rows) else none := (rfl)
@[go_sem] theorem getRow_succ (b : Blk) (l : Heap) (k v : Nat) : getRow (b :: l) (k + 1) v = getRow l k v := (rfl)
theorem getRow_old {h l : Heap} {p v : Nat} {x : TypeId × Nat × List AVal} (hp : getRow h p v = some x) : getRow (h ++ l) p v = some x := by
 unfold getRow at hp ⊢
 have : p < h.length := by
  rcases Nat.lt_or_ge p h.length with h1 | h1
  ·exact h1
  ·rw [List.getElem?_eq_none h1] at hp; cases hp
 rw [List.getElem?_append_left this]; exact hp
@[go_sem] theorem set_app (h l : Heap) (k : Nat) (b : Blk) : (h ++ l).set (h.length + k) b = h ++ l.set k b := by
 rw [List.set_append_right _ _ (by omega), Nat.add_sub_cancel_left]
@[go_sem] theorem set_app0 (h l : Heap) (b : Blk) : (h ++ l).set h.length b = h ++ l.set 0 b := set_app h l 0 b
attribute [go_sem] List.append_assoc List.length_append List.length_cons List.length_nil Nat.zero_add Nat.add_zero List.set_cons_zero List.set_cons_succ List.getElem?_cons_zero List.getElem?_cons_succ
 pickT List.take_succ_cons List.take_zero List.drop_zero List.drop_succ_cons List.take_nil List.drop_nil List.head?_cons Option.isSome_some true_and and_true Nat.add_assoc
 Int.toNat_natCast List.getElem?_map List.length_map ne_eq not_false_eq_true buildA fillA Value.oneCell' List.all_cons List.all_nil Bool.and_true Bool.true_and Nat.add_eq putA
@[go_sem] theorem resA_one (C : Ctx) (t : Env) (h : Heap) (i : Tmp) : resA C t h [.tmp i] = some (t i) := (rfl)
@[go_sem] theorem resA_two (C : Ctx) (t : Env) (h : Heap) (i j : Tmp) : resA C t h [.tmp i, .tmp j] = some (.tup [t i, t j]) := (rfl)
@[go_sem] theorem resA_none (C : Ctx) (t : Env) (h : Heap) : resA C t h [] = some (.tup []) := (rfl)
@[go_sem] theorem aslice_from (P : Program) (h : Heap) (T : TypeId) (s : List UInt8) (k : IntKind) (l : Int) (h0 : 0 ≤ l) (h1 : l ≤ s.length) :
  aslice P h T (.str s) (some (.int k l)) none none = if strT P T = true then some (.str (s.drop l.toNat)) else none := by
 simp [aslice, optInt, h0, h1]
@[go_sem] theorem aslice_to (P : Program) (h : Heap) (T : TypeId) (s : List UInt8) (k : IntKind) (r : Int) (h0 : 0 ≤ r) (h1 : r ≤ s.length) :
  aslice P h T (.str s) none (some (.int k r)) none = if strT P T = true then some (.str (s.take r.toNat)) else none := by
 simp [aslice, optInt, h0, h1]
@[go_sem] theorem aslice_mid (P : Program) (h : Heap) (T : TypeId) (s : List UInt8) (k k' : IntKind) (l r : Int) (h0 : 0 ≤ l) (h1 : l ≤ r) (h2 : r ≤ s.length) :
  aslice P h T (.str s) (some (.int k l)) (some (.int k' r)) none = if strT P T = true then some (.str ((s.take r.toNat).drop l.toNat)) else none := by
 simp [aslice, optInt, h0, h1, h2]
end Go.Av
