/- THE ABSTRACT MACHINE (AM): slices that came in, row by row. No condition. -/
import Derived.Test.YtgnebimiogphgaaDoorAm4
namespace Go.Am
open Go.ChangeShapes Go.WideShapes Go.RowKit
set_option linter.unusedSimpArgs false
set_option linter.unusedVariables false
section
variable {H : Type} {enc : TypeId × Value → H} {P : Program}
theorem spot_of {W : World} {a : Addr} {v : Value} (h : W.cell? (a.add 0) = some v) : a = ⟨a.block, a.off, none⟩ ∧ ∀ i, a.add i = ⟨a.block, a.off + i, none⟩ := by
  have hspot : a.spot = none := by simpa [Addr.add] using World.cell?_spot h
  have hpath : a = ⟨a.block, a.off, none⟩ := by rw [← hspot]
  refine ⟨hpath, fun i => ?_⟩
  unfold Addr.add
  by_cases hi : i = 0
  · subst hi; rw [if_pos rfl]; exact hpath
  · rw [if_neg hi]
theorem addr_add2 (a : Addr) (m n : Nat) : (a.add m).add n = a.add (m + n) := by
  unfold Addr.add
  by_cases hm : m = 0
  · subst hm; rw [if_pos rfl, Nat.zero_add]
  · by_cases hn : n = 0
    · subst hn; rw [if_pos rfl, Nat.add_zero]
    · rw [if_neg hm, if_neg hn, if_neg (by omega)]; simp [Nat.add_assoc]
/-- A slice whose elements own nothing (numbers, bools, strings, structs of these). 'good': what an element's reading tells of its row. -/
theorem arg_rows {W : World} {t e : TypeId} {sz : Nat} (ht : P.underlying t = some (.slice e)) (hc : P.cellsOf e = sz) (h0 : 0 < sz) {good : AV → Prop}
    (hel : ∀ (n : Nat) (cs : List Value) (y : DataW H × List MemPlace), DataW.trod enc P W 0 (fun _ => true) true n e cs = some y → ∃ row : AV, row.width = sz ∧ RL W no no noPlace [row] cs [] ∧ good row)
    {v : Value} {d : DataW H} {ps : List MemPlace} (h : DataW.Trod enc P W 0 (fun _ => true) true t v d ps) (hv : v.cells = #[v]) :
    ∃ rows : List AV, (∀ F : Nat → Prop, (∀ x ∈ ps, F x.block) → RV W F F noPlace (.sl sz true rows) v) ∧ (∀ r ∈ rows, good r) ∧ rows.length ≤ 9223372036854775807 := by
  obtain ⟨fuel, hf⟩ := h
  rw [hv] at hf
  rcases DataW.trod_slice ht hf with ⟨e1, _⟩ | ⟨a, len, cap, elems, rest, n, _, e1, e2, hb, hl, hm, hlen, hels, _, _⟩
  · obtain rfl : v = .slice none 0 0 := by simpa using e1
    exact ⟨[], fun F _ => RV1.rv (show RL W F F noPlace [_] [_] [] from .sl0 sz true none 0 .nil), by simp, by simp⟩
  · obtain rfl : v = .slice (some a) len cap := by simpa using e1
    by_cases hz : len = 0
    · subst hz
      exact ⟨[], fun F _ => RV1.rv (show RL W F F noPlace [_] [_] [] from .sl0 sz true _ _ .nil), by simp, by simp⟩
    · have each : ∀ i, i < len → ∃ (cs : List Value) (row : AV), cs.length = sz ∧ (∀ k, k < sz → W.cell? (a.add (i * sz + k)) = cs[k]?) ∧ row.width = sz ∧ RL W no no noPlace [row] cs [] ∧ good row := by
        intro i hi
        have hx := hels i hi
        rw [List.getElem?_eq_getElem (by omega), Option.bind_eq_some_iff] at hx
        obtain ⟨cs, hcs, hy⟩ := hx
        rw [hc] at hcs
        obtain ⟨_, hcl, hck⟩ := World.cells?_some hcs
        obtain ⟨row, hw, hr, hg⟩ := hel _ _ _ hy
        exact ⟨cs, row, hcl, fun k hk => by rw [← addr_add2]; exact hck k hk, hw, hr, hg⟩
      have build : ∀ m i, i + m = len → ∃ (rows : List AV) (cs : List Value), rows.length = m ∧ cs.length = m * sz ∧ (∀ k, k < m * sz → W.cell? (a.add (i * sz + k)) = cs[k]?) ∧ uni sz rows ∧ RL W no no noPlace rows cs [] ∧ ∀ r ∈ rows, good r := by
        intro m
        induction m with
        | zero => intro i _; exact ⟨[], [], rfl, by simp, fun k hk => by simp at hk, trivial, .nil, by simp⟩
        | succ m ih =>
          intro i hi
          obtain ⟨cs1, row, c1, c2, c3, c4, c5⟩ := each i (by omega)
          obtain ⟨rows, cs, d1, d2, d3, d4, d5, d6⟩ := ih (i + 1) (by omega)
          refine ⟨row :: rows, cs1 ++ cs, by simp [d1], by simp [c1, d2, Nat.add_mul]; omega, fun k hk => ?_, ⟨c3, d4⟩, by simpa using c4.cons d5, fun r hr => ?_⟩
          · by_cases hks : k < sz
            · rw [List.getElem?_append_left (by omega)]; exact c2 k hks
            · rw [List.getElem?_append_right (by omega), c1]
              have hk' : k - sz < m * sz := by rw [Nat.add_mul] at hk; omega
              have := d3 (k - sz) hk'
              rw [Nat.add_mul] at this
              rw [← this]; congr 2; omega
          · rcases List.mem_cons.1 hr with rfl | hr
            · exact c5
            · exact d6 r hr
      obtain ⟨rows, cs, b1, b2, b3, b4, b5, b6⟩ := build len 0 (by omega)
      have hpos : 0 < len * sz := Nat.mul_pos (by omega) h0
      obtain ⟨c0, hc0⟩ : ∃ c0, cs[0]? = some c0 := ⟨cs[0]'(by omega), List.getElem?_eq_getElem _⟩
      have hb0 := b3 0 hpos
      rw [Nat.zero_mul, hc0] at hb0
      obtain ⟨hpath, hadd⟩ := spot_of hb0
      refine ⟨rows, fun F hF => RV1.rv ?_, b6, by rw [b1]; exact Nat.le_trans hl (by simpa [maxLen] using hm)⟩
      have hpl : MemPlace.cell a.block (a.off + 0) ∈ ps := by
        rw [show ps = _ from congrArg Prod.snd e2]
        refine List.mem_append_left _ ?_
        unfold MemPlace.row
        refine List.mem_map.2 ⟨0, ?_, rfl⟩
        rw [List.mem_range, hc]
        exact Nat.mul_pos (by omega) h0
      have key : RL W F F noPlace [AV.sl sz true rows] [Value.slice (some ⟨a.block, a.off, none⟩) rows.length cap] [] := by
        refine .sl1 sz true rows a.block a.off cap F cs [] (by omega) rfl (by omega) b4 (hF _ hpl) (by simp) (fun k v hk => ?_) b5.up .nil
        have hkl := (List.getElem?_eq_some_iff.1 hk).1
        have := b3 k (by omega)
        rw [Nat.zero_mul, Nat.zero_add, hadd, hk] at this
        exact this
      rw [b1] at key
      rw [hpath]
      exact key
/-- Points. -/
theorem pt_of {W : World} {e i : TypeId} {f0 f1 : Field} (he : P.underlying e = some (.struct #[f0, f1])) (h0 : f0.type = i) (h1 : f1.type = i) (hi : P.underlying i = some (.int .i64)) (ho0 : f0.offset = 0) (ho1 : f1.offset = 1) (hci : P.cellsOf i = 1) (hce : P.cellsOf e = 2)
    (n : Nat) (cs : List Value) (y : DataW H × List MemPlace) (h : DataW.trod enc P W 0 (fun _ => true) true n e cs = some y) : ∃ row : AV, row.width = 2 ∧ RL W no no noPlace [row] cs [] ∧ ∃ a b : Int, row = .agg [I a, I b] ∧ (Lit.int .i64 a).wf = true ∧ (Lit.int .i64 b).wf = true := by
  obtain ⟨y0, y1, m, _, hl, g0, g1⟩ := trod_struct2 he h
  rw [h0, hci, ho0] at g0
  rw [h1, hci, ho1] at g1
  obtain ⟨a, ea, _, wa⟩ := DataW.trod_int hi g0
  obtain ⟨b, eb, _, wb⟩ := DataW.trod_int hi g1
  have hcs : cs = [.int .i64 a, .int .i64 b] := by
    rw [hce] at hl
    match cs, hl with
    | [c0, c1], _ => simp at ea eb; rw [ea, eb]
  subst hcs
  exact ⟨.agg [I a, I b], rfl, by simpa using RL.toAgg (W := W) (F := no) (Fr := no) (μ := noPlace) (ones_of fun v hv m => by simp at hv; rcases hv with rfl | rfl <;> simp) (.i (.i .nil)), a, b, rfl, wa, wb⟩
end
end Go.Am
