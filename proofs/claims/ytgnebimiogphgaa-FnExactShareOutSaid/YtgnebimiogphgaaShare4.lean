/- Lemmas of this claim. No condition. -/
import Derived.Test.YtgnebimiogphgaaShare3
namespace Go.Am.S
open Go Go.Am
set_option linter.unusedSimpArgs false
set_option linter.unusedVariables false
theorem getD_set {c : List Int} {i k : Nat} {v : Int} : (c.set i v).getD k 0 = if i = k ∧ i < c.length then v else c.getD k 0 := by
  rw [List.getD_eq_getElem?_getD, List.getD_eq_getElem?_getD, List.getElem?_set]
  by_cases h : i = k
  · subst h
    by_cases h2 : i < c.length
    · simp [h2]
    · simp [h2]
  · simp [h]
def prec (r : Int → Int) (a b : Int) : Prop := r b < r a ∨ (r a = r b ∧ a < b)
theorem prec_trans {r : Int → Int} {a b c : Int} (h1 : prec r a b) (h2 : prec r b c) : prec r a c := by
  unfold prec at *; omega
theorem sift_inv (r : Int → Int) (lt : Int → Int → Bool) (hlt : ∀ a b, lt a b = true ↔ r b < r a) (i : Nat) : ∀ (j : Nat) (c : List Int), j ≤ i → i < c.length →
    (∀ a b, a < b → b ≤ i → a ≠ j → b ≠ j → prec r (c.getD a 0) (c.getD b 0)) → (∀ b, j < b → b ≤ i → prec r (c.getD j 0) (c.getD b 0)) → (∀ a, a < j → c.getD a 0 < c.getD j 0) →
    (∀ a b, a < b → b ≤ i → prec r ((sift lt j c).getD a 0) ((sift lt j c).getD b 0)) ∧ (∀ k, i < k → (sift lt j c).getD k 0 = c.getD k 0) ∧ (∀ P : Int → Prop, (∀ a, a ≤ i → P (c.getD a 0)) → ∀ a, a ≤ i → P ((sift lt j c).getD a 0))
  | 0, c, hj, hi, h1, h2, h3 => by
    refine ⟨fun a b hab hb => ?_, fun k hk => rfl, fun P h => h⟩
    rw [sift]
    by_cases ha : a = 0
    · subst ha; exact h2 b hab hb
    · exact h1 a b hab hb ha (by omega)
  | j + 1, c, hj, hi, h1, h2, h3 => by
    by_cases hc : lt (c.getD (j + 1) 0) (c.getD j 0) = true
    · rw [sift, if_pos hc]
      have hr := (hlt _ _).1 hc
      have hg : ∀ k, ((c.set (j + 1) (c.getD j 0)).set j (c.getD (j + 1) 0)).getD k 0 = if k = j then c.getD (j + 1) 0 else if k = j + 1 then c.getD j 0 else c.getD k 0 := fun k => by
        rw [getD_set, getD_set]
        simp only [List.length_set]
        by_cases e1 : k = j
        · subst e1; rw [if_pos ⟨rfl, by omega⟩, if_pos rfl]
        · rw [if_neg (fun h => e1 h.1.symm), if_neg e1]
          by_cases e2 : k = j + 1
          · subst e2; rw [if_pos ⟨rfl, by omega⟩, if_pos rfl]
          · rw [if_neg (fun h => e2 h.1.symm), if_neg e2]
      obtain ⟨g1, g2, g3⟩ := sift_inv r lt hlt i j ((c.set (j + 1) (c.getD j 0)).set j (c.getD (j + 1) 0)) (by omega) (by simpa using hi) (fun a b hab hb ha hb' => by
          rw [hg, hg, if_neg ha, if_neg hb']
          by_cases e1 : a = j + 1
          · subst e1; rw [if_pos rfl, if_neg (by omega)]; exact h1 j b (by omega) hb (by omega) (by omega)
          · rw [if_neg e1]
            by_cases e2 : b = j + 1
            · subst e2; rw [if_pos rfl]; exact h1 a j (by omega) (by omega) (by omega) (by omega)
            · rw [if_neg e2]; exact h1 a b hab hb e1 e2) (fun b hjb hb => by
          rw [hg, hg, if_pos rfl, if_neg (by omega)]
          by_cases e2 : b = j + 1
          · subst e2; rw [if_pos rfl]; exact .inl hr
          · rw [if_neg e2]; exact h2 b (by omega) hb) (fun a ha => by
          rw [hg, hg, if_pos rfl, if_neg (by omega), if_neg (by omega)]; exact h3 a (by omega))
      refine ⟨g1, fun k hk => by rw [g2 k hk, hg, if_neg (by omega), if_neg (by omega)], fun P hP => g3 P fun a ha => ?_⟩
      rw [hg]
      split
      · exact hP _ (by omega)
      · split
        · exact hP _ (by omega)
        · exact hP a ha
    · rw [sift, if_neg hc]
      refine ⟨fun a b hab hb => ?_, fun k hk => rfl, fun P h => h⟩
      have hr : ¬ r (c.getD j 0) < r (c.getD (j + 1) 0) := fun h => hc ((hlt _ _).2 h)
      by_cases e1 : a = j + 1
      · subst e1; exact h2 b hab hb
      · by_cases e2 : b = j + 1
        · subst e2
          have hp : prec r (c.getD j 0) (c.getD (j + 1) 0) := by
            have := h3 j (by omega)
            unfold prec; omega
          by_cases e3 : a = j
          · subst e3; exact hp
          · exact prec_trans (h1 a j (by omega) (by omega) e1 (by omega)) hp
        · exact h1 a b hab hb e1 e2
theorem isort_inv (r : Int → Int) (lt : Int → Int → Bool) (hlt : ∀ a b, lt a b = true ↔ r b < r a) : ∀ (d i : Nat) (c : List Int), i + d = c.length → (∀ a b, a < b → b < i → prec r (c.getD a 0) (c.getD b 0)) → (∀ k, i ≤ k → k < c.length → c.getD k 0 = k) → (∀ a, a < i → c.getD a 0 < i) →
    ∀ a b, a < b → b < c.length → prec r ((isortFrom lt d i c).getD a 0) ((isortFrom lt d i c).getD b 0)
  | 0, i, c, hi, h1, h2, h3 => fun a b hab hb => h1 a b hab (by omega)
  | d + 1, i, c, hi, h1, h2, h3 => by
    rw [isortFrom]
    obtain ⟨g1, g2, g3⟩ := sift_inv r lt hlt i i c (Nat.le_refl _) (by omega) (fun a b hab hb ha hb' => h1 a b hab (by omega)) (fun b h h' => by omega) (fun a ha => by rw [h2 i (Nat.le_refl _) (by omega)]; exact h3 a ha)
    have := isort_inv r lt hlt d (i + 1) (sift lt i c) (by rw [sift_len]; omega) (fun a b hab hb => g1 a b hab (by omega)) (fun k hk hk' => by rw [sift_len] at hk'; rw [g2 k (by omega)]; exact h2 k (by omega) hk') (fun a ha => g3 (fun x => x < ((i + 1 : Nat) : Int)) (fun a ha => by
      by_cases e : a = i
      · subst e; rw [h2 a (Nat.le_refl _) (by omega)]; omega
      · have := h3 a (by omega); omega) a (by omega))
    rw [sift_len] at this
    exact this
theorem sift_perm (lt : Int → Int → Bool) : ∀ (j : Nat) (c : List Int), j < c.length → (sift lt j c).Perm c
  | 0, c, _ => List.Perm.refl _
  | j + 1, c, h => by
    rw [sift]; split
    · refine (sift_perm lt j _ (by simp; omega)).trans ?_
      have e1 : c.getD j 0 = c[j]'(by omega) := by rw [List.getD_eq_getElem?_getD, List.getElem?_eq_getElem (by omega)]; rfl
      have e2 : c.getD (j + 1) 0 = c[j + 1]'(by omega) := by rw [List.getD_eq_getElem?_getD, List.getElem?_eq_getElem (by omega)]; rfl
      rw [e1, e2]
      exact List.set_set_perm (by omega) (by omega)
    · exact List.Perm.refl _
theorem isort_perm (lt : Int → Int → Bool) : ∀ (d i : Nat) (c : List Int), i + d ≤ c.length → (isortFrom lt d i c).Perm c
  | 0, i, c, _ => List.Perm.refl _
  | d + 1, i, c, h => by rw [isortFrom]; exact (isort_perm lt d (i + 1) _ (by rw [sift_len]; omega)).trans (sift_perm lt i c (by omega))
theorem amax_inv (l : List Int) (n : Nat) : ∀ (d i a : Nat), i + d = n → a < n → (∀ k, k < i → l.getD k 0 ≤ l.getD a 0) → (∀ k, k < a → k < i → l.getD k 0 < l.getD a 0) → (a ≤ i) →
    (∀ k, k < n → l.getD k 0 ≤ l.getD (amaxF l d i a) 0) ∧ (∀ k, k < amaxF l d i a → l.getD k 0 < l.getD (amaxF l d i a) 0)
  | 0, i, a, hi, ha, h1, h2, h3 => by
    rw [amaxF]; exact ⟨fun k hk => h1 k (by omega), fun k hk => h2 k hk (by omega)⟩
  | d + 1, i, a, hi, ha, h1, h2, h3 => by
    rw [amaxF]
    by_cases hc : l.getD a 0 < l.getD i 0
    · rw [if_pos hc]
      refine amax_inv l n d (i + 1) i (by omega) (by omega) (fun k hk => ?_) (fun k hk _ => ?_) (by omega)
      · by_cases e : k = i
        · subst e; omega
        · have := h1 k (by omega); omega
      · have := h1 k hk; omega
    · rw [if_neg hc]
      refine amax_inv l n d (i + 1) a (by omega) ha (fun k hk => ?_) (fun k hk hk' => ?_) (by omega)
      · by_cases e : k = i
        · subst e; omega
        · exact h1 k (by omega)
      · by_cases e : k = i
        · subst e; omega
        · exact h2 k hk (by omega)
end Go.Am.S
namespace Go.Am.S
open Go Go.Am
set_option linter.unusedSimpArgs false
set_option linter.unusedVariables false
theorem spin_inc (r : Int → Int) (p : List Int) (n : Nat) (hp : p.length = n) (hs : ∀ a b, a < b → b < n → prec r (p.getD a 0) (p.getD b 0)) (hcov : ∀ x : Nat, x < n → (x : Int) ∈ p) (hok : ∀ x ∈ p, ∃ k : Nat, x = k ∧ k < n) (hr : ∀ x : Nat, x < n → 0 ≤ r x) :
    ∀ (k j : Nat) (out rest : List Int), j + k ≤ n → rest.length = n → (∀ x : Nat, x < n → rest.getD x 0 = if (x : Int) ∈ p.take j then -1 else r x) → spinF n k out rest = incF ((p.drop j).take k) out
  | 0, j, out, rest, _, _, _ => by simp [spinF, incF]
  | k + 1, j, out, rest, hj, hl, hm => by
    have hjn : j < p.length := by omega
    obtain ⟨x, hx, hxn⟩ := hok _ (List.getElem_mem hjn)
    have hpj : ∀ i (h : i < p.length), p.getD i 0 = p[i] := fun i h => by rw [List.getD_eq_getElem?_getD, List.getElem?_eq_getElem h]; rfl
    have hirr : ∀ a, ¬ prec r a a := fun a h => by unfold prec at h; omega
    -- where the greatest lies
    obtain ⟨m1, m2⟩ := amax_inv rest n n 0 0 (by omega) (by omega) (fun k hk => by omega) (fun k hk => by omega) (Nat.le_refl _)
    have hlt : amaxF rest n 0 0 < n := amaxF_lt (by omega) (by omega)
    have hxt : (x : Int) ∉ p.take j := fun h => by
      obtain ⟨i, hi, he⟩ := List.mem_iff_getElem.1 h
      rw [List.length_take] at hi
      rw [List.getElem_take] at he
      have := hs i j (by omega) (by omega)
      rw [hpj i (by omega), hpj j hjn, he, hx] at this
      exact hirr _ this
    have hxr : rest.getD x 0 = r x := by rw [hm x hxn, if_neg hxt]
    have hat : amaxF rest n 0 0 = x := by
      have h1 := m1 x hxn
      have h0 := hr x hxn
      rw [hxr] at h1
      have hnt : ((amaxF rest n 0 0 : Nat) : Int) ∉ p.take j := fun h => by
        rw [hm _ hlt, if_pos h] at h1; omega
      have hr2 : rest.getD (amaxF rest n 0 0) 0 = r (amaxF rest n 0 0 : Nat) := by rw [hm _ hlt, if_neg hnt]
      obtain ⟨i, hi, he⟩ := List.mem_iff_getElem.1 (hcov _ hlt)
      have hij : ¬ i < j := fun h => hnt (by
        rw [List.mem_iff_getElem]
        exact ⟨i, by rw [List.length_take]; omega, by rw [List.getElem_take]; exact he⟩)
      by_cases e : i = j
      · subst e; rw [hx] at he; omega
      · exfalso
        have hp2 := hs j i (by omega) (by omega)
        rw [hpj j hjn, hpj i hi, he, hx] at hp2
        rw [hr2] at h1
        unfold prec at hp2
        rcases hp2 with h | ⟨h, h'⟩
        · omega
        · have := m2 x (by omega)
          rw [hxr, hr2] at this; omega
    have hdrop : (p.drop j).take (k + 1) = (x : Int) :: (p.drop (j + 1)).take k := by
      rw [List.drop_eq_getElem_cons hjn, hx]; rfl
    rw [spinF, hat, hdrop, incF, Int.toNat_natCast]
    refine spin_inc r p n hp hs hcov hok hr k (j + 1) _ _ (by omega) (by simpa using hl) fun y hy => ?_
    rw [getD_set]
    have hmem : (y : Int) ∈ p.take (j + 1) ↔ (y : Int) ∈ p.take j ∨ (y : Int) = x := by
      rw [List.take_succ_eq_append_getElem hjn, hx]; simp
    by_cases e : x = y
    · subst e
      rw [if_pos ⟨rfl, by omega⟩, if_pos (hmem.2 (.inr rfl))]
    · rw [if_neg (fun h => e h.1), hm y hy]
      by_cases h2 : (y : Int) ∈ p.take j
      · rw [if_pos h2, if_pos (hmem.2 (.inl h2))]
      · rw [if_neg h2, if_neg (fun h => (hmem.1 h).elim h2 fun h => e (by omega))]
/-! ### Quotients and rests -/
theorem mulB {T w : Int} (h0 : 0 ≤ T) (h1 : T ≤ 1000000) (h2 : 0 ≤ w) (h3 : w ≤ 1000) : 0 ≤ T * w ∧ T * w ≤ 1000000000 := by
  refine ⟨Int.mul_nonneg h0 h2, ?_⟩
  calc T * w ≤ 1000000 * w := Int.mul_le_mul_of_nonneg_right h1 h2
    _ ≤ 1000000 * 1000 := Int.mul_le_mul_of_nonneg_left h3 (by omega)
    _ = 1000000000 := by rfl
theorem qr_val {T S w : Int} (h0 : 0 ≤ T) (h1 : T ≤ 1000000) (h2 : 0 ≤ w) (h3 : w ≤ 1000) (hS : 0 < S) : S * qOf T S w + rOf T S w = T * w ∧ 0 ≤ qOf T S w ∧ qOf T S w ≤ 1000000000 ∧ 0 ≤ rOf T S w ∧ rOf T S w < S := by
  obtain ⟨b0, b1⟩ := mulB h0 h1 h2 h3
  have hw : IntKind.i64.wrap (T * w) = T * w := wrap_id (by omega) (by omega)
  have hq0 : 0 ≤ T * w / S := Int.ediv_nonneg b0 (by omega)
  have hq1 : T * w / S ≤ T * w := Int.ediv_le_self _ b0
  have hq : qOf T S w = T * w / S := by
    unfold qOf; rw [hw, Int.tdiv_eq_ediv_of_nonneg b0, wrap_id (by omega) (by omega)]
  have hr : rOf T S w = T * w % S := by
    unfold rOf; rw [hw, Int.tmod_eq_emod_of_nonneg b0]
  rw [hq, hr]
  exact ⟨Int.mul_ediv_add_emod _ _, hq0, by omega, Int.emod_nonneg _ (by omega), Int.emod_lt_of_pos _ hS⟩
theorem leftOf_val {T S : Int} (h0 : 0 ≤ T) (h1 : T ≤ 1000000) (hS : 0 < S) (ws : List Int) : ∀ (left : Int), (∀ x ∈ ws, 0 ≤ x ∧ x ≤ 1000) → left ≤ 1000000000000 → -1000000000000 + 1000000000 * (ws.length : Int) ≤ left → ws.length ≤ 1000 →
    leftOf T S ws left = left - (ws.map (qOf T S)).sum ∧ S * (ws.map (qOf T S)).sum + (ws.map (rOf T S)).sum = T * ws.sum ∧ 0 ≤ (ws.map (rOf T S)).sum ∧ (ws.map (rOf T S)).sum ≤ (S - 1) * (ws.length : Int) := by
  induction ws with
  | nil => intro left _ _ _ _; simp [leftOf]
  | cons w ws ih =>
    intro left h hl hl2 hn
    simp only [List.length_cons] at hl2 hn ⊢
    have hw := h w (by simp)
    obtain ⟨q1, q2, q3, q4, q5⟩ := qr_val h0 h1 hw.1 hw.2 hS
    have e : IntKind.i64.wrap (left - qOf T S w) = left - qOf T S w := wrap_id (by omega) (by omega)
    obtain ⟨i1, i2, i3, i4⟩ := ih (left - qOf T S w) (fun x hx => h x (by simp [hx])) (by omega) (by omega) (by omega)
    rw [leftOf, e, i1]
    simp only [List.map_cons, List.sum_cons]
    refine ⟨by omega, ?_, by omega, ?_⟩
    · rw [Int.mul_add, Int.mul_add]; omega
    · rw [show ((ws.length + 1 : Nat) : Int) = ws.length + 1 by omega, Int.mul_add, Int.mul_one]; omega
theorem plain_left (T : Int) (ws : List Int) (h : GoodS T ws) : ∃ m : Nat, leftOf T (sumL ws 0) ws T = m ∧ m ≤ ws.length := by
  have hall := all_inB h.all
  obtain ⟨s1, s2, s3⟩ := sumL_val ws 0 (by omega) (by have := h.len; omega) hall
  have hS := h.sum
  have hlen := h.len
  have ht0 := h.t0
  have ht1 := h.t1
  obtain ⟨l1, l2, l3, l4⟩ := leftOf_val ht0 ht1 hS ws T hall (by omega) (by omega) (by omega)
  rw [Int.zero_add] at s1
  rw [← s1] at l2
  generalize sumL ws 0 = S at *
  generalize (ws.map (qOf T S)).sum = q at *
  generalize (ws.map (rOf T S)).sum = r at *
  rw [l1]
  have e : S * (T - q) = r := by rw [Int.mul_sub, Int.mul_comm S T]; omega
  have a1 : 0 ≤ T - q := by
    rcases (show T - q < 0 ∨ 0 ≤ T - q by omega) with hn | hn
    · have : S * (T - q) ≤ S * (-1) := Int.mul_le_mul_of_nonneg_left (by omega) (by omega)
      omega
    · exact hn
  have a2 : T - q ≤ ws.length := by
    rcases (show (ws.length : Int) < T - q ∨ T - q ≤ ws.length by omega) with hn | hn
    · have h1 : S * ((ws.length : Int) + 1) ≤ S * (T - q) := Int.mul_le_mul_of_nonneg_left (by omega) (by omega)
      rw [Int.mul_add] at h1
      rw [Int.sub_mul] at l4
      omega
    · exact hn
  exact ⟨(T - q).toNat, by omega, by omega⟩
theorem plain_share (T : Int) (ws : List Int) (h : GoodS T ws) (m : Nat) (hmn : m ≤ ws.length) :
    incF ((ordOf T (sumL ws 0) ws).take m) (ws.map (qOf T (sumL ws 0))) = spinF ws.length m (ws.map (qOf T (sumL ws 0))) (ws.map (rOf T (sumL ws 0))) := by
  have hall := all_inB h.all
  have hS := h.sum
  have hlen := h.len
  have ht0 := h.t0
  have ht1 := h.t1
  obtain ⟨s1, s2, s3⟩ := sumL_val ws 0 (by omega) (by omega) hall
  have hSb : sumL ws 0 ≤ 10000 := by omega
  generalize hSe : sumL ws 0 = S at *
  have hrest : ∀ a, 0 ≤ restOf T S ws a ∧ restOf T S ws a < S := fun a => by
    have hb : 0 ≤ ws.getD a.toNat 0 ∧ ws.getD a.toNat 0 ≤ 1000 := by
      rw [List.getD_eq_getElem?_getD]
      cases hq : ws[a.toNat]? with
      | none => simp
      | some x => exact hall x (List.mem_of_getElem? hq)
    obtain ⟨_, _, _, r1, r2⟩ := qr_val ht0 ht1 hb.1 hb.2 hS
    exact ⟨r1, r2⟩
  have hlt : ∀ a b, lessOf T S ws a b = true ↔ restOf T S ws b < restOf T S ws a := fun a b => by
    have h1 := hrest a
    have h2 := hrest b
    unfold lessOf
    rw [wrap_id (by omega) (by omega), decide_eq_true_eq]; omega
  have hn : 0 < ws.length := by
    rcases Nat.eq_zero_or_pos ws.length with h0 | h0
    · rw [List.length_eq_zero_iff.1 h0] at hSe; simp [sumL] at hSe; omega
    · exact h0
  have hio : ∀ k, k < ws.length → (iota 0 ws.length).getD k 0 = k := fun k hk => by
    rw [List.getD_eq_getElem?_getD, iota_get hk]; simp
  have hpl : (ordOf T S ws).length = ws.length := by rw [isort_len, iota_len]
  have hperm : (ordOf T S ws).Perm (iota 0 ws.length) := isort_perm _ _ _ _ (by rw [iota_len]; omega)
  have hsort := isort_inv (restOf T S ws) (lessOf T S ws) hlt (ws.length - 1) 1 (iota 0 ws.length) (by rw [iota_len]; omega) (fun a b hab hb => by omega) (fun k hk hk' => by rw [iota_len] at hk'; exact hio k hk') (fun a ha => by rw [hio a (by omega)]; omega)
  rw [iota_len] at hsort
  have := spin_inc (restOf T S ws) (ordOf T S ws) ws.length hpl hsort (fun x hx => by
    rw [hperm.mem_iff, List.mem_iff_getElem?]
    exact ⟨x, by rw [iota_get hx]; simp⟩) (isort_ok _ ws _ _ _ (iota_ok ws) (by rw [iota_len]; omega)) (fun x _ => (hrest x).1) m 0 (ws.map (qOf T S)) (ws.map (rOf T S)) (by omega) (by simp) (fun x hx => by
      rw [List.take_zero, if_neg (by simp)]
      unfold restOf
      rw [Int.toNat_natCast, List.getD_eq_getElem?_getD, List.getElem?_map, List.getD_eq_getElem?_getD, List.getElem?_eq_getElem hx]
      rfl)
  rw [List.drop_zero] at this
  exact this.symm
end Go.Am.S
namespace Go.Am.S
open Go Go.Am
set_option linter.unusedSimpArgs false
set_option linter.unusedVariables false
set_option maxHeartbeats 8000000
set_option maxRecDepth 20000
theorem law_share (T : Int) (ws : List Int) (w : Bool) : lim EE FF 3 [I T, .sl 1 w (ints ws)] [] = some (.b true, []) := by
  refine fn_of (fn := f3.1) (ls := f3.2) rfl rfl rfl rfl ?_
  by_cases h1 : (1048576 : Int) < ws.length
  · simp only [G_skip, G_exit, G_ret, G_seq, G_block, G_cond, G_loop, G_region, G_draw, R_nil, R_cons, R_guard, R1_some, R1_none, R1_if, RG_true, RG_false, D_nil, D_cons, D1_some, D1_if, wpB_true, wpB_false, wpB_b, KQ_nil, KQ_seq, KQ_seqE, KQ_ret, KQ_blk, KQ_blkE, LQ_norm, LQ_exit, LQ_ret, wanted, opRun, vhn, Opd.ev, evL, evO, evParts, get, putT, binOp, binInt, unOp, lenIf, lenVal, argTemps, norm, idsT, idsOf, upTo, maskT, AV.ren, AV.ids, AV.renL, AV.idsL, Blk.ids, Blk.ren, Blk.tag, reach_empty, numbered, pickH, FQ, finish, resVals, expT, expR, expC, mayH, loadVal, sub?, mkVal, cellsOf, boxable, boxableL, AV.read, AV.readL, storeVal, rowsAt, find, setRows, setH, delH, putRow, putAt, doCall, isNest, callOn, onesB, placesOf, lendA, lend, lendL, tagH, backNames, backH, delAll, give, giveT, giveR, giveC, AV.tag, AV.tagL, reach, mem, fuel, nameOf, AV.mayB, AV.mayBL, takeRows, takeRow, takeCells, takeCell, ints_snoc, zrow, zcells, sliceVal, appVal, appOnto, elems, view, flatL, flatR, flatC, flatCL, openCells, openCell, stepD, opKind, opdIds, SOp.opds, SOp.looks, oL, sndL, trdL, keepH, recOk, belowB, freshOk, apartB, only, namedH, List.append_nil, List.nil_append, List.cons_append, List.length_nil, List.length_cons, List.headD_cons, List.tail_cons, List.headD_nil, List.tail_nil, List.getD_cons_zero, List.getD_cons_succ, List.getD_nil, List.set_cons_zero, List.set_cons_succ, List.replicate_zero, List.replicate_succ, List.map_cons, List.map_nil, List.length_map, List.getElem?_cons_zero, List.getElem?_cons_succ, List.drop_zero, List.take_zero, List.drop_succ_cons, List.take_succ_cons, List.take_nil, List.drop_nil, List.all_nil, List.all_cons, List.length_append, List.length_set, List.length_replicate, ite_self, reduceIte, if_true, if_false, cond_true, cond_false, Bool.false_eq_true, Bool.true_and, Bool.and_true, Bool.or_true, Bool.true_or, Bool.or_false, Bool.false_or, decide_eq_true_eq, decide_eq_false_iff_not, Bool.not_eq_true', Bool.not_eq_false', true_and, and_true, and_self, Option.some.injEq, Prod.mk.injEq, Option.getD_none, Option.getD_some, Option.bind_some, Option.isSome_none, Option.isSome_some, Option.map_some, eq_self, reduceCtorEq, decide_true, decide_false, Nat.reduceEqDiff, Nat.reduceAdd, Nat.reduceSub, Nat.reduceMul, Nat.reduceLeDiff, Nat.reduceLT, Nat.reduceBEq, Int.reduceLE, Int.reduceLT, Int.reduceEq, Int.reduceNeg, Int.reduceAdd, Int.reduceSub, Int.reduceMul, Int.reduceToNat, false_and, and_false, false_or, or_false, true_or, or_true, not_true_eq_false, not_false_eq_true, beq_tt, beq_tf, beq_ft, beq_ff, Bool.not_true, Bool.not_false, Nat.zero_add, Nat.add_zero, Int.toNat_natCast, nat_nn, imp_tt, imp_ff, ints_len, ints_get, flat_ints, view_full, Nat.le_refl, Int.le_refl, Int.lt_irrefl, Nat.le_add_right, Int.sub_zero, Nat.sub_zero, Int.natCast_zero, Int.cast_ofNat_Int, Int.toNat_zero, f3, h1]
  · have hl : ws.length < 17592186044416 := by omega
    have hl' : ws.length < 4611686018427387904 := by omega
    have hk : ((1 : Int) + ws.length) < 4611686018427387904 := by omega
    have hk0 : ¬ ((1 : Int) + ws.length) < 0 := by omega
    have hmk := fun e => markIntS_spec ws e 1 (by omega) hk
    by_cases hg : GoodS T ws
    · obtain ⟨m, hm, hmn⟩ := plain_left T ws hg
      have hgl := hg.len
      have hsp := fun w => specShare_good T ws w hg (by omega)
      rw [hm, Int.toNat_natCast] at hsp
      have him := fun w => implShare_good T ws w hg m hm hmn
      rw [plain_share T ws hg m hmn] at him
      have hol : (spinF ws.length m (ws.map (qOf T (sumL ws 0))) (ws.map (rOf T (sumL ws 0)))).length = ws.length := by rw [spinF_len]; simp
      obtain ⟨out, hout⟩ : ∃ out, spinF ws.length m (ws.map (qOf T (sumL ws 0))) (ws.map (rOf T (sumL ws 0))) = out := ⟨_, rfl⟩
      rw [hout] at hsp him hol
      have heq := fun w w' => eqIntS_spec out (by omega) w w'
      have heq2 := fun w w' => eqIntS_spec ws hl' w w'
      have hmk2 := fun e => markIntS_spec out e 1 (by omega) (by omega)
      have hhd := fun w => heldIntS_spec out.length w 1 (by omega) (by omega)
      rw [hol] at hmk2 hhd
      simp only [G_skip, G_exit, G_ret, G_seq, G_block, G_cond, G_loop, G_region, G_draw, R_nil, R_cons, R_guard, R1_some, R1_none, R1_if, RG_true, RG_false, D_nil, D_cons, D1_some, D1_if, wpB_true, wpB_false, wpB_b, KQ_nil, KQ_seq, KQ_seqE, KQ_ret, KQ_blk, KQ_blkE, LQ_norm, LQ_exit, LQ_ret, wanted, opRun, vhn, Opd.ev, evL, evO, evParts, get, putT, binOp, binInt, unOp, lenIf, lenVal, argTemps, norm, idsT, idsOf, upTo, maskT, AV.ren, AV.ids, AV.renL, AV.idsL, Blk.ids, Blk.ren, Blk.tag, reach_empty, numbered, pickH, FQ, finish, resVals, expT, expR, expC, mayH, loadVal, sub?, mkVal, cellsOf, boxable, boxableL, AV.read, AV.readL, storeVal, rowsAt, find, setRows, setH, delH, putRow, putAt, doCall, isNest, callOn, onesB, placesOf, lendA, lend, lendL, tagH, backNames, backH, delAll, give, giveT, giveR, giveC, AV.tag, AV.tagL, reach, mem, fuel, nameOf, AV.mayB, AV.mayBL, takeRows, takeRow, takeCells, takeCell, ints_snoc, zrow, zcells, sliceVal, appVal, appOnto, elems, view, flatL, flatR, flatC, flatCL, openCells, openCell, stepD, opKind, opdIds, SOp.opds, SOp.looks, oL, sndL, trdL, keepH, recOk, belowB, freshOk, apartB, only, namedH, List.append_nil, List.nil_append, List.cons_append, List.length_nil, List.length_cons, List.headD_cons, List.tail_cons, List.headD_nil, List.tail_nil, List.getD_cons_zero, List.getD_cons_succ, List.getD_nil, List.set_cons_zero, List.set_cons_succ, List.replicate_zero, List.replicate_succ, List.map_cons, List.map_nil, List.length_map, List.getElem?_cons_zero, List.getElem?_cons_succ, List.drop_zero, List.take_zero, List.drop_succ_cons, List.take_succ_cons, List.take_nil, List.drop_nil, List.all_nil, List.all_cons, List.length_append, List.length_set, List.length_replicate, ite_self, reduceIte, if_true, if_false, cond_true, cond_false, Bool.false_eq_true, Bool.true_and, Bool.and_true, Bool.or_true, Bool.true_or, Bool.or_false, Bool.false_or, decide_eq_true_eq, decide_eq_false_iff_not, Bool.not_eq_true', Bool.not_eq_false', true_and, and_true, and_self, Option.some.injEq, Prod.mk.injEq, Option.getD_none, Option.getD_some, Option.bind_some, Option.isSome_none, Option.isSome_some, Option.map_some, eq_self, reduceCtorEq, decide_true, decide_false, Nat.reduceEqDiff, Nat.reduceAdd, Nat.reduceSub, Nat.reduceMul, Nat.reduceLeDiff, Nat.reduceLT, Nat.reduceBEq, Int.reduceLE, Int.reduceLT, Int.reduceEq, Int.reduceNeg, Int.reduceAdd, Int.reduceSub, Int.reduceMul, Int.reduceToNat, false_and, and_false, false_or, or_false, true_or, or_true, not_true_eq_false, not_false_eq_true, beq_tt, beq_tf, beq_ft, beq_ff, Bool.not_true, Bool.not_false, Nat.zero_add, Nat.add_zero, Int.toNat_natCast, nat_nn, imp_tt, imp_ff, ints_len, ints_get, flat_ints, view_full, Nat.le_refl, Int.le_refl, Int.lt_irrefl, Nat.le_add_right, Int.sub_zero, Nat.sub_zero, Int.natCast_zero, Int.cast_ofNat_Int, Int.toNat_zero, f3, h1, toIntS_spec ws hl, hsp, him, heq, heq2, hmk, hmk2, hhd, hol, iota_len, hk0]
    · simp only [G_skip, G_exit, G_ret, G_seq, G_block, G_cond, G_loop, G_region, G_draw, R_nil, R_cons, R_guard, R1_some, R1_none, R1_if, RG_true, RG_false, D_nil, D_cons, D1_some, D1_if, wpB_true, wpB_false, wpB_b, KQ_nil, KQ_seq, KQ_seqE, KQ_ret, KQ_blk, KQ_blkE, LQ_norm, LQ_exit, LQ_ret, wanted, opRun, vhn, Opd.ev, evL, evO, evParts, get, putT, binOp, binInt, unOp, lenIf, lenVal, argTemps, norm, idsT, idsOf, upTo, maskT, AV.ren, AV.ids, AV.renL, AV.idsL, Blk.ids, Blk.ren, Blk.tag, reach_empty, numbered, pickH, FQ, finish, resVals, expT, expR, expC, mayH, loadVal, sub?, mkVal, cellsOf, boxable, boxableL, AV.read, AV.readL, storeVal, rowsAt, find, setRows, setH, delH, putRow, putAt, doCall, isNest, callOn, onesB, placesOf, lendA, lend, lendL, tagH, backNames, backH, delAll, give, giveT, giveR, giveC, AV.tag, AV.tagL, reach, mem, fuel, nameOf, AV.mayB, AV.mayBL, takeRows, takeRow, takeCells, takeCell, ints_snoc, zrow, zcells, sliceVal, appVal, appOnto, elems, view, flatL, flatR, flatC, flatCL, openCells, openCell, stepD, opKind, opdIds, SOp.opds, SOp.looks, oL, sndL, trdL, keepH, recOk, belowB, freshOk, apartB, only, namedH, List.append_nil, List.nil_append, List.cons_append, List.length_nil, List.length_cons, List.headD_cons, List.tail_cons, List.headD_nil, List.tail_nil, List.getD_cons_zero, List.getD_cons_succ, List.getD_nil, List.set_cons_zero, List.set_cons_succ, List.replicate_zero, List.replicate_succ, List.map_cons, List.map_nil, List.length_map, List.getElem?_cons_zero, List.getElem?_cons_succ, List.drop_zero, List.take_zero, List.drop_succ_cons, List.take_succ_cons, List.take_nil, List.drop_nil, List.all_nil, List.all_cons, List.length_append, List.length_set, List.length_replicate, ite_self, reduceIte, if_true, if_false, cond_true, cond_false, Bool.false_eq_true, Bool.true_and, Bool.and_true, Bool.or_true, Bool.true_or, Bool.or_false, Bool.false_or, decide_eq_true_eq, decide_eq_false_iff_not, Bool.not_eq_true', Bool.not_eq_false', true_and, and_true, and_self, Option.some.injEq, Prod.mk.injEq, Option.getD_none, Option.getD_some, Option.bind_some, Option.isSome_none, Option.isSome_some, Option.map_some, eq_self, reduceCtorEq, decide_true, decide_false, Nat.reduceEqDiff, Nat.reduceAdd, Nat.reduceSub, Nat.reduceMul, Nat.reduceLeDiff, Nat.reduceLT, Nat.reduceBEq, Int.reduceLE, Int.reduceLT, Int.reduceEq, Int.reduceNeg, Int.reduceAdd, Int.reduceSub, Int.reduceMul, Int.reduceToNat, false_and, and_false, false_or, or_false, true_or, or_true, not_true_eq_false, not_false_eq_true, beq_tt, beq_tf, beq_ft, beq_ff, Bool.not_true, Bool.not_false, Nat.zero_add, Nat.add_zero, Int.toNat_natCast, nat_nn, imp_tt, imp_ff, ints_len, ints_get, flat_ints, view_full, Nat.le_refl, Int.le_refl, Int.lt_irrefl, Nat.le_add_right, Int.sub_zero, Nat.sub_zero, Int.natCast_zero, Int.cast_ofNat_Int, Int.toNat_zero, f3, h1, toIntS_spec ws hl, specShare_bad T ws hl' _ hg, implShare_bad T ws hl' _ hg, eqIntS_nil, eqIntS_spec ws hl', hmk, markIntS_nil, heldIntS_nil, iota_len, hk0]
end Go.Am.S
