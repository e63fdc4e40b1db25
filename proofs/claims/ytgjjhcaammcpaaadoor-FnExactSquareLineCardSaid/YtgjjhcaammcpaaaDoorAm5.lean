/- THE ABSTRACT MACHINE (AM): functions of Go's library by their contracts: strconv.Itoa, strings.Join, slices.Max, slices.Min. No condition. -/
import Derived.Test.YtgjjhcaammcpaaaDoorAm3
import Derived.ProofKit
import Derived.Carry
import Derived.Lib.Join
import Derived.Lib.ItoaNum
import Derived.Lib.LaidTab
import Derived.Lib.Slices
import Derived.Sort.Grow
import Derived.Deep.Draws
namespace Go.Am
open Go.RowKit
set_option linter.unusedSimpArgs false
set_option linter.unusedVariables false
/-- Strings, as a slice's rows. -/
def strs (l : List ByteArray) : List AV := l.map fun x => .s x
def strRows : List AV → Option (List ByteArray)
  | [] => some []
  | .s x :: l => (strRows l).map (x :: ·)
  | _ => none
theorem strRows_strs : ∀ (l : List ByteArray), strRows (strs l) = some l
  | [] => rfl
  | x :: l => by simp only [strs, List.map_cons, strRows]; rw [show l.map (fun x => AV.s x) = strs l from rfl, strRows_strs l]; rfl
theorem strRows_inv : ∀ {rows : List AV} {l : List ByteArray}, strRows rows = some l → rows = strs l
  | [], l, h => by simp [strRows] at h; subst h; rfl
  | .s x :: rows, l, h => by
    simp only [strRows, Option.map_eq_some_iff] at h
    obtain ⟨m, hm, rfl⟩ := h
    simp only [strs, List.map_cons]; rw [strRows_inv hm]; rfl
  | .i _ _ :: _, l, h | .b _ :: _, l, h | .sl _ _ _ :: _, l, h | .un _ _ :: _, l, h | .ref _ _ _ _ _ _ :: _, l, h | .nil :: _, l, h | .emp :: _, l, h | .ptr _ _ _ _ :: _, l, h | .rp _ _ :: _, l, h | .nilp :: _, l, h | .agg _ :: _, l, h | .tup _ :: _, l, h | .fn _ _ :: _, l, h | .nilf :: _, l, h | .map _ :: _, l, h | .nilm :: _, l, h | .junk :: _, l, h => by simp [strRows] at h
def intRows : List AV → Option (List Int)
  | [] => some []
  | .i .i64 x :: l => (intRows l).map (x :: ·)
  | _ => none
theorem intRows_ints : ∀ (l : List Int), intRows (ints l) = some l
  | [] => rfl
  | x :: l => by simp only [ints, List.map_cons, intRows]; rw [show l.map (fun x => AV.i .i64 x) = ints l from rfl, intRows_ints l]; rfl
theorem intRows_inv {rows : List AV} : ∀ {l : List Int}, intRows rows = some l → rows = ints l := by
  induction rows with
  | nil => intro l h; simp [intRows] at h; subst h; rfl
  | cons v rows ih =>
    intro l h
    unfold intRows at h
    split at h
    · rename_i e; cases e
    · rename_i x l' e
      obtain ⟨rfl, rfl⟩ := List.cons.inj e
      obtain ⟨m, hm, rfl⟩ := Option.map_eq_some_iff.1 h
      simp only [ints, List.map_cons]; rw [ih hm]; rfl
    · cases h
section
variable {P : Program} {B : Nat → Option Obj} {W W' : World} {F Fr : Nat → Prop} {μ : Place} {own : Nat → List Nat}
theorem ret_plain (H : HInv W F Fr μ [] own 0) (hb : Below W.heap.size W W') {v : AV} {cv : Value} (hv : RL W' F Fr μ [v] [cv] []) (h1 : ∀ m, v ≠ .agg m) (h2 : ∀ sz l, v ≠ .un sz l) (h3 : ∀ l, v ≠ .tup l) (hm : v.mayB = true) : Ret W F Fr μ [] own v [] cv W' := by
  refine ⟨⟨hb.os, hb.tape, hb.output, hb.size, fun x hx _ => hb.block x hx⟩, rfl, μ, own, [], fun id p h => rfl, ⟨fun id b h => by simp [find] at h, fun id b h => by simp [find] at h, fun id id' b b' h => by simp [find] at h, fun id b h => by simp [find] at h, fun id b h => by simp [find] at h, fun id p L h => H.pl id p L h, H.fr, fun x hx => Nat.lt_of_lt_of_le (H.fsz x hx) hb.size⟩, ?_, List.nodup_nil, by simp, fun id b h => by simp [find] at h⟩
  have key : RRs W' F Fr μ [v] [cv] [] := RRs.val h1 h2 hm hv .nil
  cases v with
  | tup l => exact absurd rfl (h3 l)
  | agg l => exact absurd rfl (h1 l)
  | _ => exact key
theorem rl_strs : ∀ {l : List ByteArray} {F Fr : Nat → Prop} {μ : Place} {cs : List Value} {o : List Nat}, RL W F Fr μ (strs l) cs o → cs = l.map Value.string
  | [], _, _, _, cs, o, h => by cases h; rfl
  | x :: l, _, _, _, cs, o, h => by
    simp only [strs, List.map_cons] at h
    cases h with
    | s h => rw [rl_strs (l := l) h]; rfl
theorem rl_ints : ∀ {l : List Int} {F Fr : Nat → Prop} {μ : Place} {cs : List Value} {o : List Nat}, RL W F Fr μ (ints l) cs o → cs = l.map (Value.int .i64)
  | [], _, _, _, cs, o, h => by cases h; rfl
  | x :: l, _, _, _, cs, o, h => by
    simp only [ints, List.map_cons] at h
    cases h with
    | i h => rw [rl_ints (l := l) h]; rfl
theorem all2_one {R : AV → Value → Prop} {a : AV} {l : List Value} (h : All2 R [a] l) : ∃ b, l = [b] ∧ R a b := by
  cases h with
  | cons h1 h2 => cases h2; exact ⟨_, rfl, h1⟩
theorem all2_two {R : AV → Value → Prop} {a a' : AV} {l : List Value} (h : All2 R [a, a'] l) : ∃ b b', l = [b, b'] ∧ R a b ∧ R a' b' := by
  cases h with
  | cons h1 h2 => obtain ⟨b', rfl, h3⟩ := all2_one h2; exact ⟨_, b', rfl, h1, h3⟩
theorem rv_str {x : ByteArray} {c : Value} (h : RV W F Fr μ (.s x) c) : c = .string x := by
  have h : RL W F Fr μ [.s x] [c] [] := h
  cases h with
  | s _ => rfl
theorem rv_int {k : IntKind} {n : Int} {c : Value} (h : RV W F Fr μ (.i k n) c) : c = .int k n := by
  have h : RL W F Fr μ [.i k n] [c] [] := h
  cases h with
  | i _ => rfl
/-- A slice that is only read: empty, or its cells. -/
theorem rv_sl {sz : Nat} {w : Bool} {rows : List AV} {c : Value} (h : RV W F Fr μ (.sl sz w rows) c) (hFr : ∀ x, Fr x → F x) : (rows = [] ∧ ∃ A k, c = .slice A 0 k) ∨
    (0 < rows.length ∧ ∃ g o0 k cs o G, c = .slice (some ⟨g, o0, none⟩) rows.length k ∧ rows.length ≤ k ∧ F g ∧ cellsAt W g o0 cs ∧ RL W G G noPlace rows cs o) := by
  have h : RL W F Fr μ [.sl sz w rows] [c] [] := h
  cases h with
  | sl0 _ _ A k _ => exact .inl ⟨rfl, A, k, rfl⟩
  | sl1 _ _ _ g o0 k G cs1 o1 hl hG hc hu hg ho hcell h1 h2 =>
    refine .inr ⟨hl, g, o0, k, cs1, o1, G, rfl, hc, ?_, hcell, h1⟩
    subst hG; cases w
    · exact hg
    · exact hFr g hg
end
/-- Strings joined. -/
def joinB (l : List ByteArray) (sep : ByteArray) : ByteArray := ⟨(Lib.join (l.map (·.data.toList)) sep.data.toList).toArray⟩
def itoaB (n : Int) : ByteArray := ⟨(Lib.itoa n).toArray⟩
def itoaG : List AV → Heap → Option (AV × Heap)
  | [.i .i64 n], [] => if -9223372036854775808 ≤ n ∧ n ≤ 9223372036854775807 then some (.s (itoaB n), []) else none
  | _, _ => none
def joinG : List AV → Heap → Option (AV × Heap)
  | [.sl 1 _ rows, .s sep], [] => match strRows rows with
    | some l => if l.length ≤ 140737488355328 ∧ (Lib.join (l.map (·.data.toList)) sep.data.toList).length ≤ 140737488355328 then some (.s (joinB l sep), []) else none
    | none => none
  | _, _ => none
def maxG : List AV → Heap → Option (AV × Heap)
  | [.sl 1 _ rows], [] => match intRows rows with
    | some l => if 0 < l.length ∧ l.length ≤ 9223372036854775807 then some (.i .i64 (Lib.maxOf l), []) else none
    | none => none
  | _, _ => none
def minG : List AV → Heap → Option (AV × Heap)
  | [.sl 1 _ rows], [] => match intRows rows with
    | some l => if 0 < l.length ∧ l.length ≤ 9223372036854775807 then some (.i .i64 (Lib.minOf l), []) else none
    | none => none
  | _, _ => none
section
variable {P : Program} {B : Nat → Option Obj} {f : FuncId}
theorem itoa_ok (he : Enters P f) (hB : ∀ W F, Based B W F → Lib.TabIs P W "internal/strconv.uint64pow10" .u64 Lib.pow10Tab)
    (hc : ∀ (n : Int), -9223372036854775808 ≤ n → n ≤ 9223372036854775807 → ∀ w : World, Lib.TabIs P w "internal/strconv.uint64pow10" .u64 Lib.pow10Tab → Calls P f #[.int .i64 n] w fun e w' => e = .returned (.string ⟨(Lib.itoa n).toArray⟩) ∧ ∃ k os, w' = Sort.grow (w.drewN k) os) :
    ∀ args h0 r h1, itoaG args h0 = some (r, h1) → CallOk P B f args h0 r h1 := by
  intro args h0 r h1 h
  unfold itoaG at h
  split at h
  · rename_i n
    split at h
    · rename_i hn
      simp only [Option.some.injEq, Prod.mk.injEq] at h
      obtain ⟨rfl, rfl⟩ := h
      refine ⟨he, fun W F Fr μ own cargs hBW H ha => ?_⟩
      obtain ⟨c, hcs, hr⟩ := all2_one ha
      obtain rfl := rv_int hr
      obtain rfl : cargs = #[.int .i64 n] := by cases cargs; simp_all
      refine (hc n hn.1 hn.2 W (hB W F hBW)).mono ?_
      rintro e W' ⟨rfl, k, os, rfl⟩
      refine ⟨_, rfl, ret_plain H ?_ (.s .nil) (by simp) (by simp) (by simp) rfl⟩
      refine ⟨rfl, rfl, rfl, ?_, fun x hx => ?_⟩
      · simp [Sort.grow, World.drewN]
      · simp only [Sort.grow, World.drewN]; rw [Array.getElem?_append_left hx]
    · cases h
  · cases h
theorem join_ok (he : Enters P f)
    (hc0 : ∀ (a : Option Addr) (c : Nat) (sep : ByteArray) (w : World), Calls P f #[.slice a 0 c, .string sep] w fun e w' => e = .returned (.string ⟨#[]⟩) ∧ w' = w)
    (hc : ∀ (bk o c : Nat) (xs : List ByteArray) (sep : ByteArray) (w : World), (∀ (j : Nat) x, xs[j]? = some x → w.cell? ⟨bk, o + j, none⟩ = some (.string x)) → bk < w.heap.size → xs.length ≤ 140737488355328 → xs.length ≤ c → (Lib.join (xs.map (·.data.toList)) sep.data.toList).length ≤ 140737488355328 →
      Calls P f #[.slice (some ⟨bk, o, none⟩) xs.length c, .string sep] w fun e w' => e = .returned (.string ⟨(Lib.join (xs.map (·.data.toList)) sep.data.toList).toArray⟩) ∧ Below w.heap.size w w') :
    ∀ args h0 r h1, joinG args h0 = some (r, h1) → CallOk P B f args h0 r h1 := by
  intro args h0 r h1 h
  unfold joinG at h
  split at h
  · rename_i w rows sep
    split at h
    · rename_i l hl
      split at h
      · rename_i hn
        simp only [Option.some.injEq, Prod.mk.injEq] at h
        obtain ⟨rfl, rfl⟩ := h
        obtain rfl := strRows_inv hl
        refine ⟨he, fun W F Fr μ own cargs hBW H ha => ?_⟩
        obtain ⟨c, c', hcs, hr, hr'⟩ := all2_two ha
        obtain rfl := rv_str hr'
        obtain rfl : cargs = #[c, .string sep] := by cases cargs; simp_all
        rcases rv_sl hr H.fr with ⟨h0, A, k, rfl⟩ | ⟨h0, g, o0, k, cs, o, G, rfl, hk, hF, hcell, hrl⟩
        · obtain rfl : l = [] := by cases l with
            | nil => rfl
            | cons x l => simp [strs] at h0
          refine (hc0 A k sep W).mono ?_
          rintro e W' ⟨rfl, rfl⟩
          exact ⟨_, rfl, ret_plain H (Below.refl _ _) (show RL W' F Fr μ [.s (joinB [] sep)] [_] [] from .s .nil) (by simp) (by simp) (by simp) rfl⟩
        · have hcs := rl_strs hrl
          subst hcs
          have hlen : (strs l).length = l.length := by simp [strs]
          rw [hlen] at hk ⊢
          refine (hc g o0 k l sep W (fun j x hj => hcell j _ (by rw [List.getElem?_map, hj]; rfl)) (H.fsz g hF) hn.1 hk hn.2).mono ?_
          rintro e W' ⟨rfl, hb⟩
          exact ⟨_, rfl, ret_plain H hb (.s .nil) (by simp) (by simp) (by simp) rfl⟩
      · cases h
    · cases h
  · cases h
theorem max_ok (he : Enters P f)
    (hc : ∀ (b off n c : Nat) (zs : List Int) (w : World), 0 < n → n ≤ zs.length → n ≤ 9223372036854775807 → (∀ j, j < zs.length → w.cell? ⟨b, off + j, none⟩ = some (.int .i64 (zs.getD j 0))) →
      Calls P f #[.slice (some ⟨b, off, none⟩) n c] w fun e w' => e = .returned (.int .i64 (Lib.maxOf (zs.take n))) ∧ w' = w) :
    ∀ args h0 r h1, maxG args h0 = some (r, h1) → CallOk P B f args h0 r h1 := by
  intro args h0 r h1 h
  unfold maxG at h
  split at h
  · rename_i w rows
    split at h
    · rename_i l hl
      split at h
      · rename_i hn
        simp only [Option.some.injEq, Prod.mk.injEq] at h
        obtain ⟨rfl, rfl⟩ := h
        obtain rfl := intRows_inv hl
        refine ⟨he, fun W F Fr μ own cargs hBW H ha => ?_⟩
        obtain ⟨c, hcs, hr⟩ := all2_one ha
        obtain rfl : cargs = #[c] := by cases cargs; simp_all
        have hlen : (ints l).length = l.length := ints_len
        rcases rv_sl hr H.fr with ⟨h0, A, k, rfl⟩ | ⟨h0, g, o0, k, cs, o, G, rfl, hk, hF, hcell, hrl⟩
        · rw [h0] at hlen; simp at hlen; omega
        · have hcs := rl_ints hrl
          subst hcs
          rw [hlen]
          refine (hc g o0 l.length k l W hn.1 (Nat.le_refl _) hn.2 fun j hj => hcell j _ (by rw [List.getElem?_map, List.getD_eq_getElem?_getD, List.getElem?_eq_getElem hj]; rfl)).mono ?_
          rintro e W' ⟨rfl, rfl⟩
          rw [List.take_length]
          exact ⟨_, rfl, ret_plain H (Below.refl _ _) (.i .nil) (by simp) (by simp) (by simp) rfl⟩
      · cases h
    · cases h
  · cases h
theorem min_ok (he : Enters P f)
    (hc : ∀ (b off n c : Nat) (zs : List Int) (w : World), 0 < n → n ≤ zs.length → n ≤ 9223372036854775807 → (∀ j, j < zs.length → w.cell? ⟨b, off + j, none⟩ = some (.int .i64 (zs.getD j 0))) →
      Calls P f #[.slice (some ⟨b, off, none⟩) n c] w fun e w' => e = .returned (.int .i64 (Lib.minOf (zs.take n))) ∧ w' = w) :
    ∀ args h0 r h1, minG args h0 = some (r, h1) → CallOk P B f args h0 r h1 := by
  intro args h0 r h1 h
  unfold minG at h
  split at h
  · rename_i w rows
    split at h
    · rename_i l hl
      split at h
      · rename_i hn
        simp only [Option.some.injEq, Prod.mk.injEq] at h
        obtain ⟨rfl, rfl⟩ := h
        obtain rfl := intRows_inv hl
        refine ⟨he, fun W F Fr μ own cargs hBW H ha => ?_⟩
        obtain ⟨c, hcs, hr⟩ := all2_one ha
        obtain rfl : cargs = #[c] := by cases cargs; simp_all
        have hlen : (ints l).length = l.length := ints_len
        rcases rv_sl hr H.fr with ⟨h0, A, k, rfl⟩ | ⟨h0, g, o0, k, cs, o, G, rfl, hk, hF, hcell, hrl⟩
        · rw [h0] at hlen; simp at hlen; omega
        · have hcs := rl_ints hrl
          subst hcs
          rw [hlen]
          refine (hc g o0 l.length k l W hn.1 (Nat.le_refl _) hn.2 fun j hj => hcell j _ (by rw [List.getElem?_map, List.getD_eq_getElem?_getD, List.getElem?_eq_getElem hj]; rfl)).mono ?_
          rintro e W' ⟨rfl, rfl⟩
          rw [List.take_length]
          exact ⟨_, rfl, ret_plain H (Below.refl _ _) (.i .nil) (by simp) (by simp) (by simp) rfl⟩
      · cases h
    · cases h
  · cases h
end
end Go.Am
