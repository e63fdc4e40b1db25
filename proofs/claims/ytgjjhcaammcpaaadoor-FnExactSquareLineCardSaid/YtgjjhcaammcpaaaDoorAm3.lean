/- THE ABSTRACT MACHINE (AM): a call. No condition. -/
import Derived.Test.YtgjjhcaammcpaaaDoorAm2
import Derived.Orders
namespace Go.Am
set_option linter.unusedSimpArgs false
set_option linter.unusedVariables false

theorem nameOf_back {acc : List Nat} {k n : Nat} : ∀ {h' : Heap} {j x : Nat}, nameOf (backNames acc k n h') j = some x → (∃ b, find h' j = some b) ∧ x = if j < k then acc.getD j 0 else n + (j - k)
  | [], j, x, h => by simp [backNames, nameOf] at h
  | (i, b) :: h', j, x, h => by
    simp only [backNames, nameOf] at h
    simp only [find]
    split at h
    · rename_i e; subst e; simp at h; exact ⟨⟨b, by simp⟩, h.symm⟩
    · rename_i e
      rw [if_neg e]
      exact nameOf_back h
theorem nameOf_back_some {acc : List Nat} {k n : Nat} : ∀ {h' : Heap} {j : Nat} {b : Blk}, find h' j = some b → nameOf (backNames acc k n h') j = some (if j < k then acc.getD j 0 else n + (j - k))
  | [], j, b, h => by simp [find] at h
  | (i, c) :: h', j, b, h => by
    simp only [find] at h
    simp only [backNames, nameOf]
    split at h
    · rename_i e; subst e; simp
    · rename_i e; rw [if_neg e]; exact nameOf_back_some h
/-- A block that came back: which it was. -/
theorem find_backH {w : Bool} {ρ : List (Nat × Nat)} (hinj : ∀ i j x, nameOf ρ i = some x → nameOf ρ j = some x → i = j) : ∀ {h : Heap} {x : Nat} {b : Blk}, find (backH w ρ h) x = some b → ∃ j b0, nameOf ρ j = some x ∧ find h j = some b0 ∧ b = (b0.ren ρ).tag w
  | [], x, b, hf => by simp [backH, find] at hf
  | (i, c) :: h, x, b, hf => by
    simp only [backH] at hf
    have step : find (backH w ρ h) x = some b → nameOf ρ i ≠ some x → ∃ j b0, nameOf ρ j = some x ∧ find ((i, c) :: h) j = some b0 ∧ b = (b0.ren ρ).tag w := by
      intro hf hne
      obtain ⟨j, b0, h1, h2, h3⟩ := find_backH hinj hf
      refine ⟨j, b0, h1, ?_, h3⟩
      rw [find_cons, if_neg (fun e : i = j => hne (by rw [e]; exact h1))]
      exact h2
    split at hf
    · rename_i y hy
      simp only [find] at hf
      split at hf
      · rename_i e
        subst e
        exact ⟨i, c, hy, by simp [find], (Option.some.inj hf).symm⟩
      · rename_i e
        exact step hf (fun e' => e (by rw [hy] at e'; exact Option.some.inj e'))
    · rename_i hy
      exact step hf (by simp [hy])
section
variable {P : Program} {B : Nat → Option Obj} {C : Oracle} {W : World} {F Fr : Nat → Prop} {μ : Place}
theorem Owned.lent {h h0 : Heap} {own : Nat → List Nat} {acc : List Nat} (hh : ∀ j b, find h0 j = some b → ∃ x b0, acc[j]? = some x ∧ find h x = some b0) {x : Nat} (ho : Owned h0 (lentOwn own acc) x) : Owned h own x := by
  obtain ⟨j, b, hf, hm⟩ := ho
  obtain ⟨y, b0, h1, h2⟩ := hh j b hf
  unfold lentOwn at hm
  rw [getD_of h1] at hm
  exact ⟨y, b0, h2, hm⟩
/-- The caller's heap behind a call. -/
theorem back_heap {h : Heap} {own : Nat → List Nat} {n : Nat} (H : HInv W F Fr μ h own n) {acc : List Nat} (hnd : acc.Nodup) (hall : ∀ x ∈ acc, ∃ b, find h x = some b) {w : Bool} {h0 : Heap} (h0len : h0.length = acc.length) (hh : ∀ j b, find h0 j = some b → ∃ x b0, acc[j]? = some x ∧ find h x = some b0)
    (H0 : HInv W (lentF F h own acc) (if w then Fr else F) (lentPl μ acc) h0 (lentOwn own acc) h0.length) {W' : World} (hs : Step h0 (lentOwn own acc) W W') {h1 : Heap} (hmay : mayH h1 = true) {μ1 : Place} {own1 : Nat → List Nat} (hext : ∀ id p, id < h0.length → μ1 id p = lentPl μ acc id p)
    (H1 : HInv W' (lentF F h own acc) (if w then Fr else F) μ1 h1 own1 (h0.length + h1.length)) (hown1 : ∀ id b, find h1 id = some b → ∀ x ∈ own1 id, W.heap.size ≤ x ∨ Owned h0 (lentOwn own acc) x) :
    ∃ (μ2 : Place) (own2 : Nat → List Nat), (∀ id p, id < n → μ2 id p = μ id p) ∧ HInv W' F Fr μ2 (backH w (backNames acc acc.length n h1) h1 ++ delAll h acc) own2 (n + h1.length) ∧ Leads (backNames acc acc.length n h1) μ1 μ2 ∧
      (∀ x, Owned (backH w (backNames acc acc.length n h1) h1 ++ delAll h acc) own2 x → (∃ j b, find h1 j = some b ∧ x ∈ own1 j) ∨ (lentF F h own acc x ∧ Owned h own x)) := by
  rw [h0len] at hext H1
  have haccn : ∀ j x, acc[j]? = some x → x < n := fun j x hj => by
    obtain ⟨b, hb⟩ := hall x (List.mem_of_getElem? hj)
    exact H.lt x b hb
  have hgetD : ∀ j, j < acc.length → acc[j]? = some (acc.getD j 0) := fun j hj => by rw [List.getD_eq_getElem?_getD, List.getElem?_eq_getElem hj]; rfl
  have hinj : ∀ i j x, nameOf (backNames acc acc.length n h1) i = some x → nameOf (backNames acc acc.length n h1) j = some x → i = j := by
    intro i j x hi hj
    obtain ⟨⟨b, hb⟩, ei⟩ := nameOf_back hi
    obtain ⟨⟨b', hb'⟩, ej⟩ := nameOf_back hj
    by_cases h1 : i < acc.length <;> by_cases h2 : j < acc.length
    · rw [if_pos h1] at ei; rw [if_pos h2] at ej
      obtain ⟨l1, e1⟩ := List.getElem?_eq_some_iff.1 (hgetD i h1)
      obtain ⟨l2, e2⟩ := List.getElem?_eq_some_iff.1 (hgetD j h2)
      exact (List.getElem_inj hnd).1 (by rw [e1, e2, ← ei, ← ej])
    · rw [if_pos h1] at ei; rw [if_neg h2] at ej
      have := haccn _ _ (hgetD i h1); omega
    · rw [if_neg h1] at ei; rw [if_pos h2] at ej
      have := haccn _ _ (hgetD j h2); omega
    · rw [if_neg h1] at ei; rw [if_neg h2] at ej; omega
  let μ2 : Place := fun id p => if id < n then μ id p else if id < n + h1.length then μ1 (acc.length + (id - n)) p else none
  let own2 : Nat → List Nat := fun id => if id < n then (match nameOf (numbered acc 0) id with
    | some j => own1 j
    | none => own id) else own1 (acc.length + (id - n))
  have hpl : ∀ j x p, nameOf (backNames acc acc.length n h1) j = some x → μ2 x p = μ1 j p := by
    intro j x p hj
    obtain ⟨⟨b, hb⟩, e⟩ := nameOf_back hj
    have hlt := H1.lt j b hb
    by_cases h2 : j < acc.length
    · rw [if_pos h2] at e
      have hx := hgetD j h2
      have := haccn _ _ hx
      subst e
      simp only [μ2, this, if_true]
      rw [hext j p h2]
      simp only [lentPl, hx]
    · rw [if_neg h2] at e
      subst e
      have h3 : ¬ n + (j - acc.length) < n := by omega
      have h4 : n + (j - acc.length) < n + h1.length := by omega
      simp only [μ2, h3, h4, if_false, if_true]
      congr 1; omega
  have hown : ∀ j x, nameOf (backNames acc acc.length n h1) j = some x → own2 x = own1 j := by
    intro j x hj
    obtain ⟨⟨b, hb⟩, e⟩ := nameOf_back hj
    by_cases h2 : j < acc.length
    · rw [if_pos h2] at e
      have hx := hgetD j h2
      have hxn := haccn _ _ hx
      subst e
      simp only [own2, hxn, if_true]
      obtain ⟨j', hj'⟩ := nameOf_some (k := 0) (List.mem_of_getElem? hx)
      have := (nameOf_numbered hj').2
      simp only [Nat.sub_zero] at this
      obtain ⟨l1, e1⟩ := List.getElem?_eq_some_iff.1 this
      obtain ⟨l2, e2⟩ := List.getElem?_eq_some_iff.1 hx
      have : j' = j := (List.getElem_inj hnd).1 (by rw [e1, e2])
      subst this
      rw [hj']
    · rw [if_neg h2] at e
      subst e
      have h3 : ¬ n + (j - acc.length) < n := by omega
      simp only [own2, h3, if_false]
      congr 1; omega
  have hkeptOwn : ∀ id b, find h id = some b → id ∉ acc → own2 id = own id := by
    intro id b hb hna
    simp only [own2, H.lt id b hb, if_true, nameOf_none hna]
  have hcase : ∀ id b, find (backH w (backNames acc acc.length n h1) h1 ++ delAll h acc) id = some b → (∃ j b0, nameOf (backNames acc acc.length n h1) j = some id ∧ find h1 j = some b0 ∧ b = (b0.ren (backNames acc acc.length n h1)).tag w) ∨ (id ∉ acc ∧ find h id = some b) := by
    intro id b hf
    rw [find_append] at hf
    split at hf
    · rename_i b' hb'
      obtain rfl := Option.some.inj hf
      exact .inl (find_backH hinj hb')
    · rw [find_delAll] at hf
      split at hf
      · cases hf
      · rename_i hna; exact .inr ⟨hna, hf⟩
  have hFr' : ∀ x, (if w then Fr else F) x → (if w then Fr else F) x := fun _ h => h
  have hsameF := hs.onF H0
  have hkeptF : ∀ id b, find h id = some b → id ∉ acc → ∀ x ∈ own id, lentF F h own acc x := fun id b hb hna x hx => .inr ⟨id, b, hb, hna, hx⟩
  have hleads : Leads (backNames acc acc.length n h1) μ1 μ2 := fun id j p L e1 e2 => by rw [hpl id j p e1]; exact e2
  have hold : ∀ id p, id < n → μ2 id p = μ id p := fun id p hid => by simp [μ2, hid]
  refine ⟨μ2, own2, hold, ?_, hleads, ?_⟩
  · constructor
    · intro id b hf
      rcases hcase id b hf with ⟨j, b0, hj, hb0, rfl⟩ | ⟨hna, hb⟩
      · rw [hown j id hj]
        have hb1 := H1.blk j b0 hb0
        cases b0 with
        | box cs =>
          obtain ⟨L, csv, q1, q2, q3, q4, q5, q6⟩ := hb1
          exact ⟨L, csv, by rw [hpl j id none hj]; exact q1, ones_ren _ w q2, q3.carry rfl hleads (.inl ⟨mayH_box hmay hb0, hFr'⟩), q4, q5, q6⟩
        | arr sz rows =>
          obtain ⟨L, csv, o1, q1, q2, q3, q4, q5, q6, q7, q8, q9, q10⟩ := hb1
          exact ⟨L, csv, o1, by rw [hpl j id none hj]; exact q1, q2, q3, q4, q5, q6, q7, q8, q9, fun r c row sz' l e1 e2 => by rw [hpl j id _ hj]; exact q10 r c row sz' l e1 e2⟩
        | mp es => exact hb1.elim
      · rw [hkeptOwn id b hb hna]
        exact (H.blk id b hb).keep H.fr (fun x hx => hsameF x (.inl hx)) (fun x hx => hsameF x (hkeptF id b hb hna x hx)) (ext_of H hold)
    · intro id b hf
      rcases hcase id b hf with ⟨j, b0, hj, hb0, rfl⟩ | ⟨hna, hb⟩
      · rw [hown j id hj]; exact H1.nd j b0 hb0
      · rw [hkeptOwn id b hb hna]; exact H.nd id b hb
    · intro id id' b b' hf hf' hne x hx
      rcases hcase id b hf with ⟨j, b0, hj, hb0, rfl⟩ | ⟨hna, hb⟩ <;> rcases hcase id' b' hf' with ⟨j', b0', hj', hb0', rfl⟩ | ⟨hna', hb'⟩
      · rw [hown j id hj] at hx; rw [hown j' id' hj']
        exact H1.dis j j' b0 b0' hb0 hb0' (fun e => hne (by subst e; rw [hj] at hj'; exact Option.some.inj hj')) x hx
      · rw [hown j id hj] at hx; rw [hkeptOwn id' b' hb' hna']
        exact fun hx' => (H1.out j b0 hb0 x hx).1 (hkeptF id' b' hb' hna' x hx')
      · rw [hkeptOwn id b hb hna] at hx; rw [hown j' id' hj']
        exact fun hx' => (H1.out j' b0' hb0' x hx').1 (hkeptF id b hb hna x hx)
      · rw [hkeptOwn id b hb hna] at hx; rw [hkeptOwn id' b' hb' hna']
        exact H.dis id id' b b' hb hb' hne x hx
    · intro id b hf x hx
      rcases hcase id b hf with ⟨j, b0, hj, hb0, rfl⟩ | ⟨hna, hb⟩
      · rw [hown j id hj] at hx
        have := H1.out j b0 hb0 x hx
        exact ⟨fun hF => this.1 (.inl hF), this.2⟩
      · rw [hkeptOwn id b hb hna] at hx
        have := H.out id b hb x hx
        exact ⟨this.1, by have := hs.size; omega⟩
    · intro id b hf
      rcases hcase id b hf with ⟨j, b0, hj, hb0, rfl⟩ | ⟨hna, hb⟩
      · obtain ⟨_, e⟩ := nameOf_back hj
        have hlt := H1.lt j b0 hb0
        by_cases h2 : j < acc.length
        · rw [if_pos h2] at e
          have := haccn _ _ (hgetD j h2)
          omega
        · rw [if_neg h2] at e; omega
      · have := H.lt id b hb; omega
    · intro id p L hl
      simp only [μ2] at hl
      split at hl
      · omega
      · split at hl
        · omega
        · cases hl
    · exact H.fr
    · intro x hx; have := H.fsz x hx; have := hs.size; omega
  · rintro x ⟨id, b, hf, hx⟩
    rcases hcase id b hf with ⟨j, b0, hj, hb0, rfl⟩ | ⟨hna, hb⟩
    · rw [hown j id hj] at hx; exact .inl ⟨j, b0, hb0, hx⟩
    · rw [hkeptOwn id b hb hna] at hx; exact .inr ⟨hkeptF id b hb hna x hx, id, b, hb, hx⟩
theorem callOn_sound (HC : OracleOk P B C) {h : Heap} {own : Nat → List Nat} {n : Nat} (H : HInv W F Fr μ h own n) (hB : Based B W F) {f : Nat} {args : List AV} {mt : List Bool} {cargs : Array Value} (hargs : All2 (RV W F Fr μ) args cargs.toList) {v : AV} {h' : Heap} {n' : Nat}
    (hr : callOn C h n f args mt = some (v, h', n')) : Enters P f ∧ Calls P f cargs W fun e W' => ∃ cv, e = .returned cv ∧ After W F Fr μ h own n h' n' v cv W' := by
  unfold callOn at hr
  obtain ⟨acc, hacc⟩ : ∃ acc, acc = reach h fuel (placesOf args mt) [] := ⟨_, rfl⟩
  rw [← hacc] at hr
  obtain ⟨hm, hnd, _⟩ := reach_mem (h := h) fuel (placesOf args mt) [] (by simp)
  rw [← hacc] at hm hnd
  have hall : ∀ x ∈ acc, ∃ b, find h x = some b := fun x hx => (hm x hx).resolve_left (by simp)
  simp only at hr
  split at hr
  · cases hr
  · rename_i args' hargs'
    split at hr
    · cases hr
    · rename_i r h1 hC
      simp only [Option.some.injEq, Prod.mk.injEq] at hr
      obtain ⟨rfl, rfl, rfl⟩ := hr
      obtain ⟨w, hwe⟩ : ∃ w, w = (AV.mayBL args && mayH (pickH h (numbered acc 0) (numbered acc 0))) := ⟨_, rfl⟩
      rw [← hwe]
      have hw : w = true → AV.mayBL args = true ∧ mayH (pickH h (numbered acc 0) (numbered acc 0)) = true := fun e => by rw [e] at hwe; simpa using hwe.symm
      obtain ⟨hent, hcall⟩ := HC f args' _ r h1 hC
      refine ⟨hent, ?_⟩
      have H0 := lend_heap H hnd hall (w := w) (fun e => (hw e).2)
      have hA := lendA_rel H hargs hargs' (w := w) (fun e => (hw e).1)
      refine Calls.mono (hcall W _ _ _ _ cargs (hB.more fun x hx => .inl hx) H0 hA) ?_
      rintro e W' ⟨cv, rfl, hret⟩
      refine ⟨cv, rfl, ?_⟩
      obtain ⟨μ1, own1, o, hext, H1, hRR, hndo, ho, hdis⟩ := hret.ex
      have hlen : (tagH (pickH h (numbered acc 0) (numbered acc 0))).length = acc.length := by rw [length_tagH, pickH_length hall]
      have hh : ∀ j b, find (tagH (pickH h (numbered acc 0) (numbered acc 0))) j = some b → ∃ x b0, acc[j]? = some x ∧ find h x = some b0 := by
        intro j b hf
        obtain ⟨b1, h1, rfl⟩ := find_tagH hf
        obtain ⟨_, x, b0, h2, h3, rfl⟩ := find_pickH h1
        exact ⟨x, b0, by simpa using h2, h3⟩
      obtain ⟨μ2, own2, hold, H2, hld, howned⟩ := back_heap H hnd hall hlen hh H0 hret.step hret.may hext H1 (fun id b hf x hx => (hdis id b hf x hx).2)
      have hun : Unhad W' F (backH w (backNames acc acc.length n h1) h1 ++ delAll h acc) own2 o := by
        intro x hx
        obtain ⟨a1, a2, a3⟩ := ho x hx
        refine ⟨fun hF => a1 (.inl hF), a2, fun id b hf hm => ?_⟩
        rcases howned x ⟨id, b, hf, hm⟩ with ⟨j, b0, hj, hxj⟩ | ⟨hF, _⟩
        · exact (hdis j b0 hj x hxj).1 hx
        · exact a1 hF
      obtain ⟨μ3, own3, T, hv⟩ := give_rel H2 hld (fun _ hx => hx) hRR hndo hun (x := (give w (backNames acc acc.length n h1) (backH w (backNames acc acc.length n h1) h1 ++ delAll h acc) (n + h1.length) r).1)
        (h' := (give w (backNames acc acc.length n h1) (backH w (backNames acc acc.length n h1) h1 ++ delAll h acc) (n + h1.length) r).2.1) (n' := (give w (backNames acc acc.length n h1) (backH w (backNames acc acc.length n h1) h1 ++ delAll h acc) (n + h1.length) r).2.2) rfl
      refine ⟨⟨hret.step.os, hret.step.tape, hret.step.output, hret.step.size, fun x hx hno => hret.step.same x hx fun ho' => hno (ho'.lent hh)⟩, Nat.le_trans (Nat.le_add_right n _) T.le, μ3, own3, fun id p hid => by rw [T.ext id p (Nat.lt_of_lt_of_le hid (Nat.le_add_right n _)), hold id p hid], T.inv, hv, ?_⟩
      intro x hx
      rcases T.owned x hx with hx | hx
      · rcases howned x hx with ⟨j, b0, hj, hxj⟩ | ⟨_, hx⟩
        · exact ((hdis j b0 hj x hxj).2).imp id fun h => h.lent hh
        · exact .inr hx
      · exact ((ho x hx).2.2).imp id fun h => h.lent hh
end
end Go.Am
/- THE ABSTRACT MACHINE (AM): a call that is handed a slice in a row. No condition. -/
namespace Go.Am
set_option linter.unusedSimpArgs false
set_option linter.unusedVariables false

section
variable {P : Program} {B : Nat → Option Obj} {C : Oracle} {W : World} {F Fr : Nat → Prop} {μ : Place}
theorem nestArgs_inv {h : Heap} {args args' : List AV} {mt : List Bool} {id r c sz : Nat} {rows : List AV} (hn : nestArgs h args mt = some (args', id, r, c, sz, rows)) :
    ∃ off len cap ex l l', args = .ref id (some (r, c)) off len cap ex :: l ∧ args' = .ref 0 none off len cap ex :: l' ∧ rowsAt h id (some (r, c)) = some (sz, rows) ∧ lendA (delH h id) [] [] l = some l' := by
  unfold nestArgs at hn
  split at hn
  · rename_i id' r' c' off len cap ex l
    split at hn
    · split at hn
      · rename_i sz' rows' hra
        split at hn
        · rename_i l' hl
          split at hn
          · simp only [Option.some.injEq, Prod.mk.injEq] at hn
            obtain ⟨rfl, rfl, rfl, rfl, rfl, rfl⟩ := hn
            exact ⟨off, len, cap, ex, l, l', rfl, rfl, hra, hl⟩
          · cases hn
        · cases hn
      · cases hn
    · cases hn
  · cases hn
theorem scalar_rel {v : AV} {c : Value} {o : List Nat} {W' : World} {F' Fr' : Nat → Prop} {μ' : Place} (hs : scalarR v = true) (h : RR W F' Fr' μ' v c o) : RV W' F Fr μ v c := by
  have one : ∀ {v : AV} {c : Value} {o : List Nat}, flatC v = true → RRr W F' Fr' μ' v c o → RL W' F Fr μ [v] [c] [] := by
    intro v c o hf h
    have h' : RRs W F' Fr' μ' [v] [c] o := by cases v <;> first | exact h | simp [flatC] at hf
    cases h' with
    | un _ h1 _ => simp [flatC] at hf
    | val _ _ _ hv _ => exact RL.ofFlatC hf hv
  have many : ∀ {l : List AV} {cs : List Value} {o : List Nat}, flatCL l = true → RRt W F' Fr' μ' l cs o → l.length = cs.length ∧ ∀ (j : Nat) x, l[j]? = some x → ∃ c, cs[j]? = some c ∧ RV1 W' F Fr μ x c := by
    intro l
    induction l with
    | nil => intro cs o _ h; cases h; exact ⟨rfl, by simp⟩
    | cons v l ih =>
      intro cs o hf h
      simp [flatCL] at hf
      cases h with
      | cons h1 h2 =>
        obtain ⟨a1, a2⟩ := ih hf.2 h2
        refine ⟨by simp [a1], fun j x hj => ?_⟩
        cases j with
        | zero =>
          simp at hj; subst hj
          refine ⟨_, rfl, ?_⟩
          have := one hf.1 h1
          cases v <;> first | exact this | simp [flatC] at hf
        | succ j => simpa using a2 j x (by simpa using hj)
  cases v with
  | i k n => exact one rfl h
  | b x => exact one rfl h
  | s x => exact one rfl h
  | tup l =>
    obtain ⟨vs, rfl, hr⟩ := h
    obtain ⟨a1, a2⟩ := many (by simpa [scalarR] using hs) hr
    exact ⟨vs, rfl, by simpa using a1, fun j x hj => by simpa using a2 j x hj⟩
  | _ => simp [scalarR] at hs
theorem callNest_sound (HC : OracleOk P B C) {h : Heap} {own : Nat → List Nat} {n : Nat} (H : HInv W F Fr μ h own n) (hB : Based B W F) {f : Nat} {args : List AV} {mt : List Bool} {cargs : Array Value} (hargs : All2 (RV W F Fr μ) args cargs.toList) {v : AV} {h' : Heap} {n' : Nat}
    (hr : callNest C h n f args mt = some (v, h', n')) : Enters P f ∧ Calls P f cargs W fun e W' => ∃ cv, e = .returned cv ∧ After W F Fr μ h own n h' n' v cv W' := by
  unfold callNest at hr
  split at hr
  · cases hr
  · rename_i args' id r c sz rows hn
    obtain ⟨off, len, cap, ex, l, l', rfl, rfl, hra, hl⟩ := nestArgs_inv hn
    split at hr
    · rename_i v0 sz' rows' hC
      split at hr
      · rename_i hc
        obtain ⟨hsc, hpos, rfl, hlen⟩ := hc
        split at hr
        · rename_i h2 hset
          simp only [Option.some.injEq, Prod.mk.injEq] at hr
          obtain ⟨rfl, rfl, rfl⟩ := hr
          obtain ⟨hent, hcall⟩ := HC f _ _ _ _ hC
          refine ⟨hent, ?_⟩
          obtain ⟨sz0, rows0, row, sz', l0, hf, hrow, hx, hra', rfl⟩ := setRows_nest hset
          obtain ⟨rfl, rfl⟩ : sz' = sz ∧ l0 = rows := by rw [hra'] at hra; simp at hra; exact hra
          obtain ⟨L, A, o2, hμ, hsz, hA, hr2, ho2, hnd, hclose⟩ := nest_open H hf hrow hx
          -- the slice's place, for the callee
          obtain ⟨csv, o1, hu, hr1, hcap, hcell, hopen, eo⟩ : ∃ csv o1, uni sz' l0 ∧ RL W no no noPlace l0 csv o1 ∧ l0.length ≤ L.capT ∧ cellsAt W L.g L.o0 csv ∧ openAt W L.g L.o0 (L.capT * sz') ∧ o2 = (if L.capT = 0 then [] else [L.g]) ++ o1 := by
            obtain ⟨_, hq⟩ := hr2.un_inv
            rcases hq with ⟨e, rfl, rfl⟩ | ⟨g, o0, cs1, o1, eA, h0, hcap, hu, hcell, hopen, hr1, rfl⟩
            · exact ⟨[], [], trivial, .nil, by simp, fun k v hk => by simp at hk, fun k hk => by rw [e] at hk; omega, by rw [e]; rfl⟩
            · have := hA h0
              rw [eA] at this
              simp only [Option.some.injEq, Addr.mk.injEq] at this
              obtain ⟨rfl, rfl, _⟩ := this
              exact ⟨cs1, o1, hu, hr1, hcap, hcell, hopen, by rw [if_neg (by omega)]; rfl⟩
          let μc : Place := fun j p => if j = 0 then (match p with
            | none => some L
            | some q => nestPl sz' l0 csv (some q)) else none
          have H0 : HInv W (lentF F (delH h id) own []) F μc [(0, .arr sz' l0)] (fun _ => o2) 1 := by
            have hone : ∀ j b, find [(0, Blk.arr sz' l0)] j = some b → j = 0 ∧ b = .arr sz' l0 := by
              intro j b hj
              simp only [find] at hj
              split at hj
              · rename_i e; exact ⟨e.symm, (Option.some.inj hj).symm⟩
              · cases hj
            constructor
            · intro j b hj
              obtain ⟨rfl, rfl⟩ := hone j b hj
              refine ⟨L, csv, o1, rfl, hsz, hpos, hu, hr1, hcap, hcell, hopen, eo, ?_⟩
              intro r' c' row' sz'' l'' hrow' hx'
              obtain ⟨L', A', q1, q2, q3, q4⟩ := nestPl_ok hr1 hu r' c' row' sz'' l'' hrow' hx'
              exact ⟨L', A', by simpa [μc] using q1, q2, q3, q4⟩
            · intro j b hj; exact hnd
            · intro j j' b b' hj hj' hne
              exact absurd ((hone j b hj).1.trans (hone j' b' hj').1.symm) hne
            · intro j b hj x hx
              have := H.out id _ hf x (ho2 x hx)
              refine ⟨fun hh => ?_, this.2⟩
              rcases hh with hh | ⟨id', b', e1, _, e3⟩
              · exact this.1 hh
              · rw [find_delH] at e1
                split at e1
                · cases e1
                · rename_i hne
                  exact H.dis id id' _ b' hf e1 hne x (ho2 x hx) e3
            · intro j b hj; rw [(hone j b hj).1]; omega
            · intro j p L' hl'
              simp only [μc] at hl'
              split at hl'
              · omega
              · cases hl'
            · intro x hx; exact .inl hx
            · intro x hx
              rcases hx with hx | ⟨id', b', e1, _, e3⟩
              · exact H.fsz x hx
              · exact (H.out id' b' (Fewer.del h id _ _ e1) x e3).2
          obtain ⟨carg, crest, hce, hc0, hcr⟩ : ∃ carg crest, cargs.toList = carg :: crest ∧ RV W F Fr μ (.ref id (some (r, c)) off len cap ex) carg ∧ All2 (RV W F Fr μ) l crest := by
            cases hq : cargs.toList with
            | nil => rw [hq] at hargs; cases hargs
            | cons a b => rw [hq] at hargs; cases hargs with | cons h1 h2 => exact ⟨a, b, rfl, h1, h2⟩
          have hrest := lendA_rel (w := false) (H.fewer (Fewer.del h id)) (acc := []) hcr hl (by simp)
          have hplace : ∀ {vs : List AV} {cs : List Value}, All2 (RV W (lentF F (delH h id) own []) F (lentPl μ [])) vs cs → All2 (RV W (lentF F (delH h id) own []) F μc) vs cs := by
            intro vs cs h
            induction h with
            | nil => exact .nil
            | cons h _ ih => exact .cons (h.more (fun _ h => h) (fun _ h => h) (fun id p L hl => by simp [lentPl] at hl)) ih
          have hA0 : All2 (RV W (lentF F (delH h id) own []) F μc) (.ref 0 none off len cap ex :: l') cargs.toList := by
            rw [hce]
            refine .cons ?_ (hplace (by simpa using hrest))
            obtain ⟨L', A', c', hμ', q1, q2, q3, q4, q5, rfl⟩ := hc0.ref_inv
            obtain rfl : L = L' := by rw [hμ] at hμ'; exact Option.some.inj hμ'
            exact RL.ref 0 none off len cap ex L A' c' rfl q1 q2 q3 q4 q5 .nil
          refine Calls.mono (hcall W _ _ _ _ cargs (hB.more fun x hx => .inl hx) H0 hA0) ?_
          rintro e W' ⟨cv, rfl, hret⟩
          refine ⟨cv, rfl, ?_⟩
          obtain ⟨μ1, own1, o, hext, H1, hRR, hndo, ho, hdis⟩ := hret.ex
          have hf1 : find [(0, Blk.arr sz' rows')] 0 = some (.arr sz' rows') := by simp [find]
          have howned : ∀ x, Owned [(0, Blk.arr sz' l0)] (fun _ => o2) x → x ∈ o2 := fun x ⟨_, _, _, hx⟩ => hx
          obtain ⟨L1, csv1, o11, hμ1, hsz1, _, hu1, hrl1, hcap1, hcell1, hopen1, hown1, hnest1⟩ := H1.blk 0 _ hf1
          obtain rfl : L = L1 := by
            rw [hext 0 none (by simp)] at hμ1
            exact Option.some.inj hμ1
          have hsame : ∀ x, x < W.heap.size → x ∉ o2 → Same W W' x := fun x hx hno => hret.step.same x hx fun hh => hno (howned x hh)
          refine hclose (o2' := own1 0) ⟨hret.step.os, hret.step.tape, hret.step.output, hret.step.size, fun x hx hno => hsame x hx fun hh => hno ⟨id, _, hf, ho2 x hh⟩⟩ hsame ?_ (H1.nd 0 _ hf1) (fun x hx => ⟨(H1.out 0 _ hf1 x hx).2, ((hdis 0 _ hf1 x hx).2).imp (fun h => h) (howned x)⟩) (scalar_rel hsc hRR)
          by_cases h0 : L.capT = 0
          · have e : rows' = [] := List.length_eq_zero_iff.1 (by omega)
            subst e
            have e : l0 = [] := List.length_eq_zero_iff.1 (by simpa using hlen)
            subst e
            cases hrl1
            rw [hown1, if_pos h0, h0]
            exact .un0 sz' A .nil
          · rw [hown1, if_neg h0, hA (by omega), hlen]
            have := RL.un1 (vs := []) (cs := []) (o := []) (μ := noPlace) sz' rows' L.g L.o0 L.capT csv1 o11 (by omega) hcap1 hu1 hcell1 hopen1 hrl1 .nil
            simpa using this
        · cases hr
      · cases hr
    · cases hr
end
end Go.Am
/- THE ABSTRACT MACHINE (AM): each operation does what the machine's does. No condition. -/
namespace Go.Am
set_option linter.unusedSimpArgs false
set_option linter.unusedVariables false

section
variable {P : Program} {B : Nat → Option Obj} {C : Oracle} {W : World} {F Fr : Nat → Prop} {μ : Place}
theorem Done.v {o : Oper} {a : Act} {K : Value → World → Prop} {s : Sem Value} (e : execOp a.eval o = (do pure (.value (← s)))) {cv : Value} {W' : World} (h : s.run P W = .ok cv W') (k : K cv W') : Done P o a W K :=
  .inl ⟨cv, W', by rw [e]; simp [h], k⟩
theorem Done.u {o : Oper} {a : Act} {K : Value → World → Prop} {s : Sem Unit} (e : execOp a.eval o = (do s; pure .skip)) {W' : World} (h : s.run P W = .ok () W') (k : K Go.undef W') : Done P o a W K :=
  .inr (.inl ⟨W', by rw [e]; simp [h], k⟩)
theorem Done.call {o : Oper} {a : Act} {K : Value → World → Prop} {f : FuncId} {args : Array Value} (e : (execOp a.eval o).run P W = (callFunc f args).run P W) (hf : Enters P f) (k : Calls P f args W fun e W' => ∃ cv, e = .returned cv ∧ K cv W') : Done P o a W K :=
  .inr (.inr ⟨f, args, W, by rw [e, hf], k⟩)
theorem RV1.rv {v : AV} {c : Value} (h : RV1 W F Fr μ v c) : RV W F Fr μ v c := by
  cases v with
  | tup l => cases h
  | _ => exact h
theorem evL_rel {t : Temps} {a : Act} (ht : TInv W F Fr μ t a.tmps) : ∀ {l : List Operand} {ys : List Opd}, slimXs l = some ys → All2 (RV W F Fr μ) (evL t ys) (l.map a.eval)
  | [], ys, h => by simp [slimXs] at h; subst h; exact .nil
  | x :: l, ys, h => by
    simp only [slimXs] at h
    split at h
    · rename_i y ys' hy hys
      obtain rfl := Option.some.inj h
      exact .cons (opd_rel hy ht) (evL_rel ht hys)
    · cases h
theorem All2.append {α β : Type} {R : α → β → Prop} {l : List α} {m : List β} (h : All2 R l m) {l' : List α} {m' : List β} (h' : All2 R l' m') : All2 R (l ++ l') (m ++ m') := by
  induction h with
  | nil => exact h'
  | cons a _ ih => exact .cons a ih
theorem All2.index {α β : Type} {R : α → β → Prop} {l : List α} {m : List β} (h : All2 R l m) : l.length = m.length ∧ ∀ (j : Nat) x, l[j]? = some x → ∃ c, m[j]? = some c ∧ R x c := by
  induction h with
  | nil => exact ⟨rfl, by simp⟩
  | cons a _ ih =>
    refine ⟨by simp [ih.1], fun j x hj => ?_⟩
    cases j with
    | zero => simp at hj; subst hj; exact ⟨_, rfl, a⟩
    | succ j => simpa using ih.2 j x (by simpa using hj)
theorem caps_rel : ∀ {l : List AV} {cs : List Value}, All2 (RV W F Fr μ) l cs → boxableL l = true → RL W F Fr μ l cs []
  | _, _, .nil, _ => .nil
  | v :: l, c :: cs, .cons h hr, hb => by
    simp [boxableL] at hb
    have h1 := h.single (by rintro rfl; simp [boxable] at hb) (by rintro m rfl; simp [boxable] at hb) (by rintro m rfl; simp [boxable] at hb)
    exact RL.cons h1 (caps_rel hr hb.2)
theorem caps_all {l : List AV} {cs : List Value} {o : List Nat} (h : RL W F Fr μ l cs o) : o = [] → (∀ v ∈ l, ∀ m, v ≠ .agg m) → All2 (RV W F Fr μ) l cs := by
  induction l generalizing cs o with
  | nil => intro _ _; cases h; exact .nil
  | cons v l ih =>
    intro ho hna
    subst ho
    obtain ⟨c1, c2, o1, o2, rfl, eo, h1, h2⟩ := RL.uncons h
    have eo := List.append_eq_nil_iff.1 eo.symm
    rw [eo.1] at h1; rw [eo.2] at h2
    have hw := h1.width
    simp [AV.widthL, width_one (hna v (by simp))] at hw
    match c1, hw with
    | [c], _ => exact .cons (RV.ofSingle h1 (hna v (by simp))) (ih h2 rfl fun v hv => hna v (by simp [hv]))
theorem eqGuard_plain {op : BinOp} {t : TypeId} {x y : Operand} {a b : Value} (h1 : b ≠ .nilIface) (h2 : ∀ cs, b ≠ .agg cs) : (eqGuard op t x y a b).run P W = .ok () W := by
  unfold eqGuard
  split <;> simp
  all_goals
    split
    · exact absurd rfl h1
    · exact absurd rfl (h2 _)
    · simp
theorem doCall_sound (HC : OracleOk P B C) {h : Heap} {own : Nat → List Nat} {n : Nat} (H : HInv W F Fr μ h own n) (hB : Based B W F) {f : Nat} {args : List AV} {mt : List Bool} {cargs : Array Value} (hargs : All2 (RV W F Fr μ) args cargs.toList) {v : AV} {h' : Heap} {n' : Nat}
    (hr : doCall C h n f args mt = some (v, h', n')) : Enters P f ∧ Calls P f cargs W fun e W' => ∃ cv, e = .returned cv ∧ After W F Fr μ h own n h' n' v cv W' := by
  unfold doCall at hr
  split at hr
  · exact callNest_sound HC H hB hargs hr
  · exact callOn_sound HC H hB hargs hr
theorem binOp_sound {op : BinOp} {x y v : AV} {cx cy : Value} (hx : RV W F Fr μ x cx) (hy : RV W F Fr μ y cy) (hr : binOp op x y = some v) (t : TypeId) (xo yo : Operand) :
    ∃ cv, (do eqGuard op t xo yo cx cy; Go.binOp op t cx cy : Sem Value).run P W = .ok cv W ∧ RV W F Fr μ v cv := by
  unfold binOp at hr
  split at hr
  · rename_i k a k' b
    obtain rfl := hx.int; obtain rfl := hy.int
    have hg : (eqGuard op t xo yo (.int k a) (.int k' b)).run P W = .ok () W := eqGuard_plain (by simp) (by simp)
    have fin : ∀ {cv : Value}, (Go.binOp op t (.int k a) (.int k' b)).run P W = .ok cv W → (do eqGuard op t xo yo (.int k a) (.int k' b); Go.binOp op t (.int k a) (.int k' b) : Sem Value).run P W = .ok cv W := fun h => by simp [hg, h]
    split at hr
    · obtain ⟨cv, h1, h2⟩ := shift_run (P := P) (W := W) (F := F) (Fr := Fr) (μ := μ) (yk := k') hr t (.inl rfl); exact ⟨cv, fin h1, h2⟩
    · obtain ⟨cv, h1, h2⟩ := shift_run (P := P) (W := W) (F := F) (Fr := Fr) (μ := μ) (yk := k') hr t (.inr rfl); exact ⟨cv, fin h1, h2⟩
    · rename_i n1 n2
      split at hr
      · rename_i e; subst e
        obtain ⟨cv, h1, h2⟩ := binInt_run (P := P) (W := W) (F := F) (Fr := Fr) (μ := μ) (op := op) n1 n2 hr t
        exact ⟨cv, fin h1, h2⟩
      · cases hr
  · rename_i a b
    obtain rfl := hx.str; obtain rfl := hy.str
    obtain ⟨cv, h1, h2⟩ := strOp_run (P := P) (W := W) (F := F) (Fr := Fr) (μ := μ) hr t
    have hg : (eqGuard op t xo yo (.string a) (.string b)).run P W = .ok () W := eqGuard_plain (by simp) (by simp)
    exact ⟨cv, by simp [hg, h1], h2⟩
  · cases hr
end
end Go.Am
/- THE ABSTRACT MACHINE (AM): each operation does what the machine's does: all of them. No condition. -/
namespace Go.Am
set_option linter.unusedSimpArgs false
set_option linter.unusedVariables false

section
variable {P : Program} {B : Nat → Option Obj} {C : Oracle} {W : World} {F Fr : Nat → Prop} {μ : Place}
theorem slimO_mx {hi mx : Option Operand} {hi' mx' : Option Opd} (h1 : slimO hi = some hi') (h2 : slimO mx = some mx') (hc : (mx'.isSome && hi'.isNone) = false) {a : Act} : mx.map a.eval ≠ none → hi.map a.eval ≠ none := by
  cases hi with
  | none => 
    simp [slimO] at h1; subst h1
    cases mx with
    | none => simp
    | some m =>
      simp only [slimO] at h2
      split at h2
      · obtain rfl := Option.some.inj h2; simp at hc
      · cases h2
  | some x => simp
theorem some_of_map {α β : Type} {f : α → β} {x : Option α} {y : β} (h : x.map f = some y) : ∃ a, x = some a ∧ f a = y := Option.map_eq_some_iff.1 h
theorem builtin_sound {b : Builtin} {argTypes : Array TypeId} {args : List Operand} {sop : SOp} (hs : slimBuiltin P b argTypes args = some sop) {h : Heap} {own : Nat → List Nat} {n : Nat} (H : HInv W F Fr μ h own n) {t : Temps} {a : Act} (ht : TInv W F Fr μ t a.tmps)
    {v : AV} {h' : Heap} {n' : Nat} (hr : opRun C t h n sop = some (v, h', n')) (ty : TypeId) (cs : Array Bool) {cargs : Array Value} (hca : cargs = (args.map a.eval).toArray) :
    ∃ (s : Sem Value) (cv : Value) (W' : World), builtin b argTypes ty cs cargs = (do pure (.value (← s))) ∧ s.run P W = .ok cv W' ∧ After W F Fr μ h own n h' n' v cv W' := by
  subst hca
  unfold slimBuiltin at hs
  split at hs
  · -- len
    rename_i x
    split at hs
    · rename_i e hq
      obtain ⟨x', hx', rfl⟩ := some_of_map hs
      obtain ⟨u, hu1, hu2⟩ := Option.bind_eq_some_iff.1 hq
      simp only [opRun] at hr
      split at hr
      · rename_i m hm
        simp only [Option.some.injEq, Prod.mk.injEq] at hr
        obtain ⟨rfl, rfl, rfl⟩ := hr
        exact ⟨_, _, W, rfl, len_sound hu1 hu2 (opd_rel hx' ht) hm (.inl ⟨rfl, _, rfl⟩), After.pure H (RV.ofInt _ _)⟩
      · cases hr
    · rename_i hq
      obtain ⟨x', hx', rfl⟩ := some_of_map hs
      obtain ⟨u, hu1, hu2⟩ := Option.bind_eq_some_iff.1 hq
      simp only [opRun] at hr
      split at hr
      · rename_i m hm
        simp only [Option.some.injEq, Prod.mk.injEq] at hr
        obtain ⟨rfl, rfl, rfl⟩ := hr
        exact ⟨_, _, W, rfl, len_sound hu1 hu2 (opd_rel hx' ht) hm (.inr ⟨rfl, rfl⟩), After.pure H (RV.ofInt _ _)⟩
      · cases hr
    · obtain ⟨x', hx', rfl⟩ := some_of_map hs
      simp [opRun] at hr
    · cases hs
  · -- cap
    rename_i x
    split at hs
    · rename_i e hq
      obtain ⟨x', hx', rfl⟩ := some_of_map hs
      obtain ⟨u, hu1, hu2⟩ := Option.bind_eq_some_iff.1 hq
      have hv := opd_rel hx' ht
      have run : ∀ (A : Option Addr) (m c : Nat), a.eval x = .slice A m c → (Builtin.cap_ argTypes ty #[a.eval x]).run P W = .ok (.int .i64 c) W := by
        intro A m c e
        rw [e]
        simp [Builtin.cap_, hu1, run_und hu2, goInt]
      simp only [opRun] at hr
      split at hr
      · rename_i id p off len c e
        simp only [Option.some.injEq, Prod.mk.injEq] at hr
        obtain ⟨rfl, rfl, rfl⟩ := hr
        rw [e] at hv
        obtain ⟨L, A, c', _, _, _, hex, _, _, ecv⟩ := hv.ref_inv
        obtain rfl := hex rfl
        exact ⟨_, _, W, rfl, run A _ _ ecv, After.pure H (RV.ofInt _ _)⟩
      · rename_i e
        simp only [Option.some.injEq, Prod.mk.injEq] at hr
        obtain ⟨rfl, rfl, rfl⟩ := hr
        rw [e] at hv
        exact ⟨_, _, W, rfl, run _ _ 0 hv.nil_inv, After.pure H (RV.ofInt _ _)⟩
      · rename_i e
        simp only [Option.some.injEq, Prod.mk.injEq] at hr
        obtain ⟨rfl, rfl, rfl⟩ := hr
        rw [e] at hv
        obtain ⟨A, ecv⟩ := hv.emp_inv
        exact ⟨_, _, W, rfl, run _ _ 0 ecv, After.pure H (RV.ofInt _ _)⟩
      · cases hr
    · cases hs
  · -- append
    rename_i x y
    split at hs
    · rename_i tt u htl
      have hat : argTypes = #[tt, u] := by apply Array.ext'; simpa using htl
      subst hat
      split at hs
      · rename_i e e' he hu
        split at hs
        · rename_i z i x' y' hz hi hx hy
          split at hs
          · rename_i hc
            obtain rfl := Option.some.inj hs
            have het : P.underlying tt = some (.slice e) := by
              unfold sliceElem at he
              split at he
              · rename_i hq; simp at he; subst he; exact hq
              · cases he
            simp only [opRun] at hr
            obtain ⟨cv, W', h1, h2⟩ := app_sound (P := P) H het hu hz hi hc.2.1 hc.2.2.1 (opd_rel hx ht) (opd_rel hy ht) hr ty
            exact ⟨_, cv, W', rfl, h1, h2⟩
          · cases hs
        · cases hs
      · cases hs
    · cases hs
  · -- copy
    rename_i x y
    split at hs
    · rename_i tt u htl
      have hat : argTypes = #[tt, u] := by apply Array.ext'; simpa using htl
      subst hat
      have sl : ∀ {q e}, sliceElem P q = some e → P.underlying q = some (.slice e) := by
        intro q e he
        unfold sliceElem at he
        split at he
        · rename_i hq; simp at he; subst he; exact hq
        · cases he
      split at hs
      · rename_i e e' x' y' he hu hx hy
        split at hs
        · rename_i m hm
          split at hs
          · rename_i hc
            obtain rfl := Option.some.inj hs
            simp only [opRun] at hr
            split at hr
            · rename_i ys k hys hk
              split at hr
              · rename_i h2 hp
                simp only [Option.some.injEq, Prod.mk.injEq] at hr
                obtain ⟨rfl, rfl, rfl⟩ := hr
                obtain ⟨cv, W', h1, h2⟩ := copy_sound (P := P) H (sl he) (sl hu) hm hc.2 (opd_rel hx ht) (opd_rel hy ht) hys hk hp ty
                exact ⟨_, cv, W', rfl, h1, h2⟩
              · cases hr
            · cases hr
          · cases hs
        · cases hs
      · cases hs
    · cases hs
  · -- min
    skip
    obtain ⟨ys, hys, rfl⟩ := some_of_map hs
    have hev := evL_rel ht hys
    simp only [opRun] at hr
    split at hr
    · rename_i v0 vs e
      obtain ⟨e1, rfl, rfl⟩ := vhn_some hr
      rw [e] at hev
      obtain ⟨c, cl, ec⟩ : ∃ c cl, args.map a.eval = c :: cl := by
        cases hq : args.map a.eval with
        | nil => rw [hq] at hev; cases hev
        | cons c cl => exact ⟨c, cl, rfl⟩
      rw [ec] at hev ⊢
      cases hev with
      | cons q1 q2 =>
        obtain ⟨cv, h1, h2⟩ := min_sound (P := P) e1 q1 q2.index.1 q2.index.2
        exact ⟨Builtin.min_ argTypes ty (c :: cl).toArray, cv, W, rfl, h1, After.pure H h2⟩
    · cases hr
  · -- max
    skip
    obtain ⟨ys, hys, rfl⟩ := some_of_map hs
    have hev := evL_rel ht hys
    simp only [opRun] at hr
    split at hr
    · rename_i v0 vs e
      obtain ⟨e1, rfl, rfl⟩ := vhn_some hr
      rw [e] at hev
      obtain ⟨c, cl, ec⟩ : ∃ c cl, args.map a.eval = c :: cl := by
        cases hq : args.map a.eval with
        | nil => rw [hq] at hev; cases hev
        | cons c cl => exact ⟨c, cl, rfl⟩
      rw [ec] at hev ⊢
      cases hev with
      | cons q1 q2 =>
        obtain ⟨cv, h1, h2⟩ := max_sound (P := P) e1 q1 q2.index.1 q2.index.2
        exact ⟨Builtin.max_ argTypes ty (c :: cl).toArray, cv, W, rfl, h1, After.pure H h2⟩
    · cases hr
  · -- clear
    rename_i x
    split at hs
    · rename_i e he
      obtain ⟨u, hu1, hu2⟩ := Option.bind_eq_some_iff.1 he
      have hue : P.underlying u = some (.slice e) := by
        unfold sliceElem at hu2
        split at hu2
        · rename_i hq; simp at hu2; subst hu2; exact hq
        · cases hu2
      split at hs
      · rename_i z ag m x' hz ha hm hx
        split at hs
        · rename_i hc
          obtain rfl := Option.some.inj hs
          simp only [opRun] at hr
          split at hr
          · rename_i k zr hk
            split at hr
            · rename_i hfl
              split at hr
              · rename_i h2 hp
                simp only [Option.some.injEq, Prod.mk.injEq] at hr
                obtain ⟨rfl, rfl, rfl⟩ := hr
                obtain ⟨cv, W', h1, h2⟩ := clear_sound (P := P) H hu1 hue hz ha hm hc.1 hc.2 (opd_rel hx ht) hk hfl hp ty
                exact ⟨_, cv, W', rfl, h1, h2⟩
              · cases hr
            · cases hr
          · cases hr
        · cases hs
      · cases hs
    · cases hs
  · cases hs
end
end Go.Am
/- THE ABSTRACT MACHINE (AM): each operation does what the machine's does. No condition. -/
namespace Go.Am
set_option linter.unusedSimpArgs false
set_option linter.unusedVariables false

section
variable {P : Program} {B : Nat → Option Obj} {C : Oracle} {W : World} {F Fr : Nat → Prop} {μ : Place}
theorem some3 {α β γ : Type} {a a' : α} {b b' : β} {c c' : γ} (h : some (a, b, c) = some (a', b', c')) : a = a' ∧ b' = b ∧ c' = c := by
  simp only [Option.some.injEq, Prod.mk.injEq] at h; exact ⟨h.1, h.2.1.symm, h.2.2.symm⟩
theorem onesB_mem : ∀ {l : List AV}, onesB l = true → ∀ v ∈ l, ∀ m, v ≠ .agg m
  | [], _ => by simp
  | v :: l, h => by
    intro x hx m e
    rcases List.mem_cons.1 hx with rfl | hx
    · subst e; simp [onesB] at h
    · refine onesB_mem (l := l) ?_ x hx m e
      cases v <;> first | exact h | simp [onesB] at h
set_option maxHeartbeats 4000000 in
theorem op_sound (HC : OracleOk P B C) {ann : Nat → List Bool} {op : Op} {sop : SOp} (hs : slimOp P ann op = some sop) {o : Oper} (ho : o.op = op) {h : Heap} {own : Nat → List Nat} {n : Nat} (H : HInv W F Fr μ h own n) (hB : Based B W F) {t : Temps} {a : Act} (ht : TInv W F Fr μ t a.tmps)
    {v : AV} {h' : Heap} {n' : Nat} (hr : opRun C t h n sop = some (v, h', n')) : Done P o a W fun cv W' => After W F Fr μ h own n h' n' v cv W' := by
  subst ho
  have pure' : ∀ {s : Sem Value}, execOp a.eval o = (do pure (.value (← s))) → h' = h → n' = n → (∃ cv, s.run P W = .ok cv W ∧ RV W F Fr μ v cv) → Done P o a W fun cv W' => After W F Fr μ h own n h' n' v cv W' := by
    rintro s e rfl rfl ⟨cv, h1, h2⟩
    exact .v e h1 (After.pure H h2)
  have stepv : ∀ {s : Sem Value}, execOp a.eval o = (do pure (.value (← s))) → (∃ cv W', s.run P W = .ok cv W' ∧ After W F Fr μ h own n h' n' v cv W') → Done P o a W fun cv W' => After W F Fr μ h own n h' n' v cv W' := by
    rintro s e ⟨cv, W', h1, h2⟩
    exact .v e h1 h2
  have keep : ∀ {cv : Value}, execOp a.eval o = pure (.value cv) → h' = h → n' = n → RV W F Fr μ v cv → Done P o a W fun cv W' => After W F Fr μ h own n h' n' v cv W' := by
    rintro cv e rfl rfl hv
    exact .inl ⟨cv, W, by rw [e]; simp, After.pure H hv⟩
  unfold slimOp at hs
  split at hs
  · -- move
    rename_i x heq
    obtain ⟨x', hx, rfl⟩ := some_of_map hs
    simp only [opRun] at hr
    obtain ⟨rfl, e1, e2⟩ := some3 hr
    exact keep (by simp only [execOp, heq]) e1 e2 (opd_rel hx ht)
  · -- assign
    rename_i x heq
    obtain ⟨x', hx, rfl⟩ := some_of_map hs
    simp only [opRun] at hr
    obtain ⟨rfl, e1, e2⟩ := some3 hr
    exact keep (by simp only [execOp, heq]) e1 e2 (opd_rel hx ht)
  · -- pick
    rename_i c x y heq
    split at hs
    · rename_i c' x' y' hc hx hy
      obtain rfl := Option.some.inj hs
      simp only [opRun] at hr
      have hcv := opd_rel hc ht
      split at hr
      · rename_i e
        rw [e] at hcv
        obtain ⟨rfl, rfl, rfl⟩ := some3 hr
        exact .inl ⟨_, W, by simp [execOp, heq, hcv.bool, asBool], After.pure H (opd_rel hx ht)⟩
      · rename_i e
        rw [e] at hcv
        obtain ⟨rfl, rfl, rfl⟩ := some3 hr
        exact .inl ⟨_, W, by simp [execOp, heq, hcv.bool, asBool], After.pure H (opd_rel hy ht)⟩
      · cases hr
    · cases hs
  · -- alloc
    rename_i e heq
    obtain ⟨z, hz, rfl⟩ := some_of_map hs
    simp only [opRun] at hr
    obtain ⟨rfl, rfl, rfl⟩ := some3 hr
    exact stepv (by simp only [execOp, heq]) (alloc_sound H hz)
  · -- box
    rename_i e x heq
    split at hs
    · rename_i m x' hm hx
      obtain rfl := Option.some.inj hs
      simp only [opRun] at hr
      split at hr
      · rename_i hc
        obtain ⟨rfl, rfl, rfl⟩ := some3 hr
        exact stepv (by simp only [execOp, heq]) (box_sound H (opd_rel hx ht) hc.2 e)
      · cases hr
    · cases hs
  · -- load
    rename_i ty x heq
    split at hs
    · rename_i ag m x' ha hm hx
      obtain rfl := Option.some.inj hs
      simp only [opRun] at hr
      obtain ⟨e1, e2, e3⟩ := vhn_some hr
      exact pure' (by simp only [execOp, heq]) e2 e3 (load_sound H ha hm (opd_rel hx ht) e1)
    · cases hs
  · -- store
    rename_i ty x y heq
    split at hs
    · rename_i m x' y' hm hx hy
      obtain rfl := Option.some.inj hs
      simp only [opRun] at hr
      split at hr
      · rename_i h2 hst
        obtain ⟨rfl, rfl, rfl⟩ := some3 hr
        obtain ⟨W', h1, h2⟩ := store_sound (P := P) H hm (opd_rel hx ht) (opd_rel hy ht) hst
        exact .u (by simp only [execOp, heq]) h1 h2
      · cases hr
    · cases hs
  · -- binOp
    rename_i op ty x y ty2 heq
    split at hs
    · rename_i x' y' hx hy
      have hxv := opd_rel hx ht
      have hyv := opd_rel hy ht
      have ebin : execOp a.eval o = (do pure (.value (← (do eqGuard op ty x y (a.eval x) (a.eval y); Go.binOp op ty (a.eval x) (a.eval y) : Sem Value)))) := by simp only [execOp, heq]
      have plain : opRun C t h n (.bin op x' y') = some (v, h', n') → Done P o a W fun cv W' => After W F Fr μ h own n h' n' v cv W' := by
        intro hr
        simp only [opRun] at hr
        obtain ⟨e1, e2, e3⟩ := vhn_some hr
        exact pure' ebin e2 e3 (binOp_sound hxv hyv e1 ty x y)
      split at hs
      · obtain rfl := Option.some.inj hs; exact plain hr
      · obtain rfl := Option.some.inj hs; exact plain hr
      · rename_i hu
        have hb : ∀ neg, sop = .beq neg x' y' → ((neg = false ∧ op = .eql) ∨ (neg = true ∧ op = .neq)) → Done P o a W fun cv W' => After W F Fr μ h own n h' n' v cv W' := by
          rintro neg rfl hop
          simp only [opRun] at hr
          split at hr
          · rename_i p q ep eq
            rw [ep] at hxv; rw [eq] at hyv
            obtain ⟨rfl, e2, e3⟩ := some3 hr
            refine pure' ebin e2 e3 ?_
            have hg : (eqGuard op ty x y (.bool p) (.bool q)).run P W = .ok () W := eqGuard_plain (by simp) (by simp)
            have he : (Op.equal ty (.bool p) (.bool q)).run P W = .ok (p == q) W := run_equalIn_bool' W 9999 ty p q hu
            rw [hxv.bool, hyv.bool]
            rcases hop with ⟨rfl, rfl⟩ | ⟨rfl, rfl⟩
            · exact ⟨.bool (p == q), by simp [hg, Go.binOp, he], RV.ofBool _⟩
            · exact ⟨.bool (!(p == q)), by simp [hg, Go.binOp, he], RV.ofBool _⟩
          · cases hr
        split at hs
        · exact hb false (Option.some.inj hs).symm (.inl ⟨rfl, rfl⟩)
        · exact hb true (Option.some.inj hs).symm (.inr ⟨rfl, rfl⟩)
        · cases hs
      · rename_i fs hu
        have hb : ∀ neg cs, eqCellsOf P ty = some cs → sop = .eqs neg cs x' y' → ((neg = false ∧ op = .eql) ∨ (neg = true ∧ op = .neq)) → Done P o a W fun cv W' => After W F Fr μ h own n h' n' v cv W' := by
          rintro neg cs hcs rfl hop
          simp only [opRun] at hr
          split at hr
          · rename_i xs ys ep eq
            rw [ep] at hxv; rw [eq] at hyv
            split at hr
            · rename_i e he
              obtain ⟨rfl, e2, e3⟩ := some3 hr
              refine pure' ebin e2 e3 ?_
              obtain ⟨q1, q2, q3⟩ := eqs_sound (P := P) hcs hxv hyv he op x y
              rcases hop with ⟨rfl, rfl⟩ | ⟨rfl, rfl⟩
              · exact ⟨.bool e, by simp [q1, q2], RV.ofBool _⟩
              · exact ⟨.bool (!e), by simp [q1, q3], RV.ofBool _⟩
            · cases hr
          · cases hr
        split at hs
        · rename_i cs hcs; exact hb false cs hcs (Option.some.inj hs).symm (.inl ⟨rfl, rfl⟩)
        · rename_i cs hcs; exact hb true cs hcs (Option.some.inj hs).symm (.inr ⟨rfl, rfl⟩)
        · cases hs
      · rename_i el hu
        have hb : ∀ neg, isNilSl y = true → sop = .isnil false neg x' → ((neg = false ∧ op = .eql) ∨ (neg = true ∧ op = .neq)) → Done P o a W fun cv W' => After W F Fr μ h own n h' n' v cv W' := by
          rintro neg hny rfl hop
          have ey : a.eval y = .slice none 0 0 := by
            unfold isNilSl at hny
            split at hny
            · rfl
            · cases hny
          simp only [opRun] at hr
          split at hr
          · rename_i e he
            obtain ⟨rfl, e2, e3⟩ := some3 hr
            refine pure' ebin e2 e3 ?_
            have q := isNil_sound (P := P) (W := W) hu hxv he (.inl ⟨rfl, ⟨_, rfl⟩, rfl⟩)
            have hg : (eqGuard op ty x y (a.eval x) (.slice none 0 0)).run P W = .ok () W := eqGuard_plain (by simp) (by simp)
            rw [ey]
            have hq1 : (Go.binOp .eql ty (a.eval x) (.slice none 0 0)).run P W = .ok (.bool e) W := by
              have : Go.binOp .eql ty (a.eval x) (.slice none 0 0) = (do pure (.bool (← Op.equal ty (a.eval x) (.slice none 0 0)))) := by cases a.eval x <;> rfl
              rw [this]; simp [q]
            have hq2 : (Go.binOp .neq ty (a.eval x) (.slice none 0 0)).run P W = .ok (.bool (!e)) W := by
              have : Go.binOp .neq ty (a.eval x) (.slice none 0 0) = (do pure (.bool (!(← Op.equal ty (a.eval x) (.slice none 0 0))))) := by cases a.eval x <;> rfl
              rw [this]; simp [q]
            rcases hop with ⟨rfl, rfl⟩ | ⟨rfl, rfl⟩
            · exact ⟨_, by simp [hg, hq1], RV.ofBool _⟩
            · exact ⟨_, by simp [hg, hq2], RV.ofBool _⟩
          · cases hr
        split at hs
        · split at hs
          · rename_i hny; exact hb false hny (Option.some.inj hs).symm (.inl ⟨rfl, rfl⟩)
          · cases hs
        · split at hs
          · rename_i hny; exact hb true hny (Option.some.inj hs).symm (.inr ⟨rfl, rfl⟩)
          · cases hs
        · cases hs
      · rename_i el hu
        have hb : ∀ neg, isNilPt y = true → sop = .isnil true neg x' → ((neg = false ∧ op = .eql) ∨ (neg = true ∧ op = .neq)) → Done P o a W fun cv W' => After W F Fr μ h own n h' n' v cv W' := by
          rintro neg hny rfl hop
          have ey : a.eval y = .pointer none := by
            unfold isNilPt at hny
            split at hny
            · rfl
            · cases hny
          simp only [opRun] at hr
          split at hr
          · rename_i e he
            obtain ⟨rfl, e2, e3⟩ := some3 hr
            refine pure' ebin e2 e3 ?_
            have q := isNil_sound (P := P) (W := W) (p := true) (b := e) hu hxv (by simpa using he) (.inr ⟨rfl, ⟨_, rfl⟩, rfl⟩)
            have hg : (eqGuard op ty x y (a.eval x) (.pointer none)).run P W = .ok () W := eqGuard_plain (by simp) (by simp)
            rw [ey]
            have hq1 : (Go.binOp .eql ty (a.eval x) (.pointer none)).run P W = .ok (.bool e) W := by
              have : Go.binOp .eql ty (a.eval x) (.pointer none) = (do pure (.bool (← Op.equal ty (a.eval x) (.pointer none)))) := by cases a.eval x <;> rfl
              rw [this]; simp [q]
            have hq2 : (Go.binOp .neq ty (a.eval x) (.pointer none)).run P W = .ok (.bool (!e)) W := by
              have : Go.binOp .neq ty (a.eval x) (.pointer none) = (do pure (.bool (!(← Op.equal ty (a.eval x) (.pointer none))))) := by cases a.eval x <;> rfl
              rw [this]; simp [q]
            rcases hop with ⟨rfl, rfl⟩ | ⟨rfl, rfl⟩
            · exact ⟨_, by simp [hg, hq1], RV.ofBool _⟩
            · exact ⟨_, by simp [hg, hq2], RV.ofBool _⟩
          · cases hr
        split at hs
        · split at hs
          · rename_i hny; exact hb false hny (Option.some.inj hs).symm (.inl ⟨rfl, rfl⟩)
          · cases hs
        · split at hs
          · rename_i hny; exact hb true hny (Option.some.inj hs).symm (.inr ⟨rfl, rfl⟩)
          · cases hs
        · cases hs
      · cases hs
    · cases hs
  · -- unOp
    rename_i op ty x heq
    obtain ⟨x', hx, rfl⟩ := some_of_map hs
    simp only [opRun] at hr
    obtain ⟨e1, e2, e3⟩ := vhn_some hr
    exact pure' (by simp only [execOp, heq]) e2 e3 (unOp_sound (opd_rel hx ht) e1)
  · -- convert
    rename_i src dst x heq
    have ex : execOp a.eval o = (do pure (.value (← Go.convert src dst (a.eval x)))) := by simp only [execOp, heq]
    split at hs
    · rename_i ks kd x' hu1 hu2 hx
      obtain rfl := Option.some.inj hs
      have hxv := opd_rel hx ht
      simp only [opRun] at hr
      split at hr
      · rename_i k m e
        rw [e] at hxv
        obtain ⟨rfl, e2, e3⟩ := some3 hr
        exact pure' ex e2 e3 ⟨.int kd (kd.wrap m), by rw [hxv.int]; simp [Go.convert, run_und hu1, run_und hu2, Conv.intToInt], RV.ofInt _ _⟩
      · cases hr
    · rename_i x' hu1 hu2 hx
      obtain rfl := Option.some.inj hs
      have hxv := opd_rel hx ht
      simp only [opRun] at hr
      split at hr
      · rename_i s e
        rw [e] at hxv
        obtain ⟨rfl, e2, e3⟩ := some3 hr
        exact pure' ex e2 e3 ⟨.string s, by rw [hxv.str]; simp [Go.convert, run_und hu1, run_und hu2], RV.ofStr _⟩
      · cases hr
    · rename_i e x' hu1 hu2 hx
      split at hs
      · rename_i he
        obtain rfl := Option.some.inj hs
        have hxv := opd_rel hx ht
        simp only [opRun] at hr
        split at hr
        · rename_i l hl
          split at hr
          · rename_i hb
            obtain ⟨rfl, rfl, rfl⟩ := some3 hr
            exact pure' ex rfl rfl ⟨_, str_sound hu1 he hu2 H hxv hl hb, RV.ofStr _⟩
          · cases hr
        · cases hr
      · cases hs
    · rename_i e x' hu1 hu2 hx
      split at hs
      · rename_i he
        obtain rfl := Option.some.inj hs
        have hxv := opd_rel hx ht
        simp only [opRun] at hr
        split at hr
        · rename_i s es
          rw [es] at hxv
          split at hr
          · obtain ⟨rfl, rfl, rfl⟩ := some3 hr
            refine stepv ex ?_
            rw [hxv.str]
            exact bytes_sound H hu1 hu2 he s
          · cases hr
        · cases hr
      · cases hs
    · cases hs
  · -- build
    rename_i ty parts heq
    have ex : execOp a.eval o = (do pure (.value (← Instr.build ty (parts.map fun (i, x) => (i, a.eval x))))) := by simp only [execOp, heq]
    have fin : ∀ {z : Zero} {ps : List (Nat × Nat × Opd)} {d : TypeDesc}, P.underlying ty = some d → zeroOf P ty = some z → sop = .build z ps → ((∃ fs pl, d = .struct fs ∧ fieldPlaces P fs.toList = some pl ∧ slimFields pl parts.toList = some ps) ∨ (∃ n e m, d = .array n e ∧ szOf P e = some m ∧ slimElems m parts.toList = some ps)) →
        Done P o a W fun cv W' => After W F Fr μ h own n h' n' v cv W' := by
      rintro z ps d hu hz rfl hp
      simp only [opRun] at hr
      split at hr
      · rename_i cs hf
        obtain ⟨rfl, e2, e3⟩ := some3 hr
        exact pure' ex e2 e3 (build_sound hu hz ht hp hf)
      · cases hr
    split at hs
    · rename_i fs z hu hz
      split at hs
      · rename_i pl hpl
        obtain ⟨ps, hps, rfl⟩ := some_of_map hs
        exact fin hu hz rfl (.inl ⟨_, _, rfl, hpl, hps⟩)
      · cases hs
    · rename_i k e z hu hz
      split at hs
      · rename_i m hm
        obtain ⟨ps, hps, rfl⟩ := some_of_map hs
        exact fin hu hz rfl (.inr ⟨_, _, _, rfl, hm, hps⟩)
      · cases hs
    · cases hs
  · -- buildSlice
    rename_i ty len parts heq
    split at hs
    · rename_i e he
      have hue : P.underlying ty = some (.slice e) := by
        unfold sliceElem at he
        split at he
        · rename_i hq; simp at he; subst he; exact hq
        · cases he
      split at hs
      · rename_i z ag m ps hz ha hm hps
        split at hs
        · rename_i hc
          obtain rfl := Option.some.inj hs
          simp only [opRun] at hr
          split at hr
          · rename_i rows h2 hk
            obtain ⟨rfl, rfl, rfl⟩ := some3 hr
            exact stepv (s := Instr.buildSlice ty len (parts.map fun (i, x) => (i, a.eval x))) (by simp only [execOp, heq]) (bsl_sound H ht hue hz ha hm hc.2.1 hc.2.2 hc.1 hps hk)
          · cases hr
        · cases hs
      · cases hs
    · cases hs
  · -- makeSlice
    rename_i ty l c heq
    split at hs
    · rename_i e he
      have hue : P.underlying ty = some (.slice e) := by
        unfold sliceElem at he
        split at he
        · rename_i hq; simp at he; subst he; exact hq
        · cases he
      split at hs
      · rename_i z ag i l' c' hz ha hi hl hc
        split at hs
        · rename_i hcc
          obtain rfl := Option.some.inj hs
          have hlv := opd_rel hl ht
          have hcv := opd_rel hc ht
          simp only [opRun] at hr
          split at hr
          · rename_i ln cn e1 e2
            rw [e1] at hlv; rw [e2] at hcv
            split at hr
            · rename_i hb
              obtain ⟨rfl, rfl, rfl⟩ := some3 hr
              refine stepv (s := Instr.makeSlice ty (a.eval l) (a.eval c)) (by simp only [execOp, heq]) ?_
              rw [hlv.int, hcv.int]
              exact made_sound H hue hz ha hi hcc.1 hcc.2.1 hcc.2.2 hb.1 hb.2.1 hb.2.2
            · cases hr
          · cases hr
        · cases hs
      · cases hs
    · cases hs
  · -- slice
    rename_i ty x lo hi mx heq
    have ex : execOp a.eval o = (do pure (.value (← Instr.sliceAt ty (a.eval x) (lo.map a.eval) (hi.map a.eval) (mx.map a.eval)))) := by simp only [execOp, heq]
    split at hs
    · rename_i x' lo' hi' hu hx hlo hhi hmx
      obtain rfl := Option.some.inj hs
      simp only [opRun] at hr
      split at hr
      · rename_i rl rh e1 e2
        obtain ⟨q1, q2, q3⟩ := vhn_some hr
        have hm0 : mx = none := by
          cases mx with
          | none => rfl
          | some m =>
            simp only [slimO] at hmx
            split at hmx <;> cases hmx
        subst hm0
        exact pure' ex q2 q3 (sub_sound hu (opd_rel hx ht) (evO_rel ht hlo e1) (evO_rel ht hhi e2) q1)
      · cases hr
    · rename_i e x' lo' hi' mx' hu hx hlo hhi hmx
      split at hs
      · rename_i m hm
        split at hs
        · cases hs
        · rename_i hcc
          obtain rfl := Option.some.inj hs
          simp only [opRun] at hr
          split at hr
          · rename_i rl rh rm e1 e2 e3
            obtain ⟨q1, q2, q3⟩ := vhn_some hr
            exact pure' ex q2 q3 (slice_sound H hu hm (opd_rel hx ht) (evO_rel ht hlo e1) (evO_rel ht hhi e2) (evO_rel ht hmx e3) (slimO_mx hhi hmx (by revert hcc; cases mx'.isSome <;> cases hi'.isNone <;> simp)) q1)
          · cases hr
      · cases hs
    · cases hs
  · -- fieldAddr
    rename_i sty x f heq
    split at hs
    · rename_i fs x' hu hx
      split at hs
      · rename_i fd hf
        split at hs
        · rename_i m hm
          obtain rfl := Option.some.inj hs
          simp only [opRun] at hr
          have q : h' = h ∧ n' = n ∧ shiftAddr (x'.ev t) fd.offset = some v := by
            split at hr
            · obtain ⟨rfl, rfl, rfl⟩ := some3 hr; rename_i e; simp [e, shiftAddr]
            · obtain ⟨rfl, rfl, rfl⟩ := some3 hr; rename_i e; simp [e, shiftAddr]
            · cases hr
          exact pure' (s := Instr.fieldAt sty (a.eval x) f) (by simp only [execOp, heq]) q.1 q.2.1 (faddr_sound hu hf hm (opd_rel hx ht) q.2.2)
        · cases hs
      · cases hs
    · cases hs
  · -- field
    rename_i ty x f heq
    split at hs
    · rename_i fs x' hu hx
      split at hs
      · rename_i fd hf
        split at hs
        · rename_i ag m ha hm
          obtain rfl := Option.some.inj hs
          have hxv := opd_rel hx ht
          simp only [opRun] at hr
          split at hr
          · rename_i l e
            rw [e] at hxv
            obtain ⟨q1, q2, q3⟩ := vhn_some hr
            exact pure' (s := Instr.field ty (a.eval x) f) (by simp only [execOp, heq]) q2 q3 (field_sound hu hf ha hm hxv q1)
          · cases hr
        · cases hs
      · cases hs
    · cases hs
  · -- indexAddr
    rename_i ty x ix heq
    have ex : execOp a.eval o = (do pure (.value (← Instr.indexAt ty (a.eval x) (a.eval ix)))) := by simp only [execOp, heq]
    split at hs
    · rename_i e x' ix' hu hx hix
      split at hs
      · rename_i m hm
        obtain rfl := Option.some.inj hs
        obtain ⟨q1, q2, q3⟩ := iaddr_sound H hu hm (opd_rel hx ht) (opd_rel hix ht) hr
        exact pure' ex q1 q2 q3
      · cases hs
    · rename_i k e x' ix' hu hx hix
      split at hs
      · rename_i m hm
        obtain rfl := Option.some.inj hs
        have hxv := opd_rel hx ht
        have hiv := opd_rel hix ht
        simp only [opRun] at hr
        split at hr
        · rename_i id p r c kd i e1 e2
          rw [e2] at hiv
          split at hr
          · rename_i hc
            obtain ⟨rfl, q2, q3⟩ := some3 hr
            refine pure' ex q2 q3 ?_
            rw [hiv.int]
            exact iaddrA_sound hu hm hxv hc.1 hc.2 (by rw [e1]; rfl)
          · cases hr
        · rename_i row c kd i e1 e2
          rw [e2] at hiv
          split at hr
          · rename_i hc
            obtain ⟨rfl, q2, q3⟩ := some3 hr
            refine pure' ex q2 q3 ?_
            rw [hiv.int]
            exact iaddrA_sound hu hm hxv hc.1 hc.2 (by rw [e1]; rfl)
          · cases hr
        · cases hr
      · cases hs
    · cases hs
  · -- index
    rename_i ty x ix heq
    have ex : execOp a.eval o = (do pure (.value (← Instr.index ty (a.eval x) (a.eval ix)))) := by simp only [execOp, heq]
    split at hs
    · rename_i x' ix' hu hx hix
      obtain rfl := Option.some.inj hs
      have hxv := opd_rel hx ht
      have hiv := opd_rel hix ht
      simp only [opRun] at hr
      split at hr
      · rename_i s kd i e1 e2
        rw [e1] at hxv; rw [e2] at hiv
        split at hr
        · rename_i h0
          split at hr
          · rename_i b hb
            obtain ⟨rfl, q2, q3⟩ := some3 hr
            refine pure' ex q2 q3 ?_
            rw [hiv.int]
            exact ⟨_, at_sound hu hxv h0 hb, RV.ofInt _ _⟩
          · cases hr
        · cases hr
      · cases hr
    · rename_i k e x' ix' hu hx hix
      split at hs
      · rename_i ag m ha hm
        obtain rfl := Option.some.inj hs
        have hxv := opd_rel hx ht
        have hiv := opd_rel hix ht
        simp only [opRun] at hr
        split at hr
        · rename_i l kd i e1 e2
          rw [e1] at hxv; rw [e2] at hiv
          split at hr
          · rename_i hc
            obtain ⟨q1, q2, q3⟩ := vhn_some hr
            refine pure' ex q2 q3 ?_
            rw [hiv.int]
            exact atA_sound hu ha hm hxv hc.1 hc.2 q1
          · cases hr
        · cases hr
      · cases hs
    · cases hs
  · -- makeFunc
    rename_i fn first captured heq
    split at hs
    · rename_i f
      split at hs
      · rename_i hfirst
        obtain ⟨xs, hxs, rfl⟩ := some_of_map hs
        simp only [opRun] at hr
        split at hr
        · rename_i hb
          obtain ⟨rfl, q2, q3⟩ := some3 hr
          have hev := evL_rel ht hxs
          have hf0 : first = #[] := by simpa using hfirst
          subst hf0
          refine keep (cv := .func (.func f) #[] (captured.map a.eval)) (by simp [execOp, heq, Instr.makeFunc]) q2 q3 ?_
          exact RL.fn f _ (captured.map a.eval) (by rw [Array.toList_map]; exact caps_rel hev hb) .nil
        · cases hr
      · cases hs
    · cases hs
  · -- extract
    rename_i x j heq
    obtain ⟨x', hx, rfl⟩ := some_of_map hs
    have hxv := opd_rel hx ht
    simp only [opRun] at hr
    split at hr
    · rename_i l e
      rw [e] at hxv
      obtain ⟨q1, q2, q3⟩ := vhn_some hr
      obtain ⟨vs, hvs, hl, hj⟩ := hxv
      obtain ⟨c, hc, hrv⟩ := hj j v q1
      exact pure' (s := Instr.extract (a.eval x) j) (by simp only [execOp, heq]) q2 q3 ⟨c, by rw [hvs]; simp [Instr.extract, hc], hrv.rv⟩
    · cases hr
  · -- nilCheck
    rename_i x heq
    obtain ⟨x', hx, rfl⟩ := some_of_map hs
    have hxv := opd_rel hx ht
    simp only [opRun] at hr
    split at hr
    · rename_i id p r c e
      rw [e] at hxv
      obtain ⟨rfl, q2, q3⟩ := some3 hr
      obtain ⟨L, hμ, ecv⟩ := hxv.ptr_inv
      exact keep (cv := a.eval x) (by rw [ecv]; simp [execOp, heq, ecv]) q2 q3 hxv
    · rename_i row c e
      rw [e] at hxv
      obtain ⟨rfl, q2, q3⟩ := some3 hr
      obtain ⟨g, o0, cs1, ecv, _⟩ := hxv.rp_inv
      exact keep (cv := a.eval x) (by rw [ecv]; simp [execOp, heq, ecv]) q2 q3 hxv
    · rename_i f caps e
      rw [e] at hxv
      obtain ⟨rfl, q2, q3⟩ := some3 hr
      have hq : RL W F Fr μ [.fn f caps] [a.eval x] [] := hxv
      obtain ⟨capsv, ecv⟩ : ∃ capsv, a.eval x = .func (.func f) #[] capsv := by
        generalize a.eval x = cx at hq
        cases hq
        exact ⟨_, rfl⟩
      exact keep (cv := a.eval x) (by rw [ecv]; simp [execOp, heq, ecv]) q2 q3 hxv
    · cases hr
  · -- makeInterface
    rename_i ty x heq
    split at hs
    · cases hs
    · rename_i d hd hu
      obtain rfl := Option.some.inj hs
      simp only [opRun] at hr
      obtain ⟨rfl, q2, q3⟩ := some3 hr
      refine pure' (s := Instr.makeInterface ty (a.eval x)) (by simp only [execOp, heq]) q2 q3 ⟨.iface ty (a.eval x), ?_, trivial⟩
      simp only [Instr.makeInterface, Sem.run_bind, run_und hu, Result.andThen_ok]
      rfl
    · cases hs
  · -- panic
    obtain rfl := Option.some.inj hs
    simp [opRun] at hr
  · -- call
    rename_i c heq
    have hargs : ∀ {xs : List Opd}, slimXs c.args.toList = some xs → All2 (RV W F Fr μ) (evL t xs) (c.args.map a.eval).toList := fun hxs => by rw [Array.toList_map]; exact evL_rel ht hxs
    split at hs
    · rename_i f hcal
      obtain ⟨xs, hxs, rfl⟩ := some_of_map hs
      simp only [opRun] at hr
      obtain ⟨q1, q2⟩ := doCall_sound HC H hB (hargs hxs) hr
      refine .call (f := f) (args := c.args.map a.eval) ?_ q1 q2
      simp [execOp, heq, resolve, hcal, Act.eval, Deferred.ofValue, invoke]
    · rename_i tt hcal
      obtain ⟨xs, hxs, rfl⟩ := some_of_map hs
      simp only [opRun] at hr
      have htv : RV W F Fr μ ((Opd.t tt).ev t) (a.eval (.tmp tt)) := opd_rel (x := .tmp tt) rfl ht
      split at hr
      · rename_i f caps e
        rw [e] at htv
        have hq : RL W F Fr μ [.fn f caps] [a.eval (.tmp tt)] [] := htv
        obtain ⟨capsv, ecv, hcaps⟩ : ∃ capsv, a.eval (.tmp tt) = .func (.func f) #[] capsv ∧ RL W F Fr μ caps capsv.toList [] := by
          generalize a.eval (.tmp tt) = cx at hq
          cases hq with
          | fn f caps capsv h1 h2 => exact ⟨capsv, rfl, h1⟩
        split at hr
        · rename_i hob
          obtain ⟨q1, q2⟩ := callOn_sound HC H hB (cargs := c.args.map a.eval ++ capsv) (by rw [Array.toList_append]; exact (hargs hxs).append (caps_all hcaps rfl (onesB_mem hob))) hr
          refine .call (f := f) (args := c.args.map a.eval ++ capsv) ?_ q1 q2
          simp [execOp, heq, resolve, hcal, ecv, Deferred.ofValue, invoke]
        · cases hr
      · cases hr
    · cases hs
    · cases hs
    · rename_i b hcal
      obtain ⟨s, cv, W', e1, e2, e3⟩ := builtin_sound hs H ht hr o.type (c.args.map fun | .const _ => true | _ => false) (cargs := c.args.map a.eval) (by apply Array.ext'; simp)
      refine .v (s := s) ?_ e2 e3
      simp only [execOp, heq, resolve, hcal, invoke, pure_bind, ← e1]
      rfl
  · cases hs
end
end Go.Am
/- THE ABSTRACT MACHINE (AM): its code does what the machine's does: regions in one order. No condition. -/
namespace Go.Am
set_option linter.unusedSimpArgs false
set_option linter.unusedVariables false

/-- What a call began with. -/
structure Ctx where
  P : Program
  B : Nat → Option Obj
  W0 : World
  F : Nat → Prop
  Fr : Nat → Prop
  μ0 : Place
  h0 : Heap
  own0 : Nat → List Nat
  k : Nat
/-- What holds between the abstract state and the machine's. -/
structure Holds (X : Ctx) (nt : Nat) (st : St) (a : Act) (W : World) (μ : Place) (own : Nat → List Nat) : Prop where
  inv : HInv W X.F X.Fr μ st.h own st.n
  tmp : TInv W X.F X.Fr μ st.t a.tmps
  base : Based X.B W X.F
  pl : ∀ id p, id < X.k → μ id p = X.μ0 id p
  step : Step X.h0 X.own0 X.W0 W
  owned : ∀ x, Owned st.h own x → X.W0.heap.size ≤ x ∨ Owned X.h0 X.own0 x
  le : X.k ≤ st.n
  nt : nt ≤ a.tmps.size
  df : a.defers = []
def SInv (X : Ctx) (nt : Nat) (st : St) (a : Act) (W : World) : Prop := ∃ μ own, Holds X nt st a W μ own

section
variable {X : Ctx} {nt : Nat} {C : Oracle}
theorem Act.put_size (a : Act) (dst : Option Nat) (v : Value) : (a.put dst v).tmps.size = a.tmps.size := by
  cases dst <;> simp [Act.put]
theorem Act.put_df (a : Act) (dst : Option Nat) (v : Value) : (a.put dst v).defers = a.defers := by
  cases dst <;> rfl
theorem Holds.after {st : St} {a : Act} {W : World} {μ : Place} {own : Nat → List Nat} (H : Holds X nt st a W μ own) {h' : Heap} {n' : Nat} {v : AV} {cv : Value} {W' : World} (A : After W X.F X.Fr μ st.h own st.n h' n' v cv W') {dst : Option Nat} (hd : dstOk nt dst = true) :
    SInv X nt { t := putT st.t dst v, h := h', n := n' } (a.put dst cv) W' := by
  obtain ⟨μ', own', hext, hinv, hv, hown⟩ := A.ex
  have hsF := A.step.onF H.inv
  have hdst : ∀ d, dst = some d → d < a.tmps.size := by
    rintro d rfl
    have := H.nt
    simp [dstOk] at hd; omega
  refine ⟨μ', own', hinv, ?_, H.base.step hsF, fun id p hid => by rw [hext id p (by have := H.le; omega), H.pl id p hid], ?_, ?_, by have := H.le; have := A.le; show X.k ≤ n'; omega, by rw [Act.put_size]; exact H.nt, by rw [Act.put_df]; exact H.df⟩
  · have ht : TInv W' X.F X.Fr μ' st.t a.tmps := fun j => ((H.tmp j).same H.inv.fr hsF).more (fun _ h => h) (fun _ h => h) (ext_of H.inv hext)
    have := ht.put (ds := a.defers) dst hv hdst
    exact this
  · have s1 := H.step
    have s2 := A.step
    refine ⟨s2.os.trans s1.os, s2.tape.trans s1.tape, s2.output.trans s1.output, Nat.le_trans s1.size s2.size, fun x hx ho => ?_⟩
    have e2 := s2.same x (Nat.lt_of_lt_of_le hx s1.size) (fun hh => by
      rcases H.owned x hh with h | h
      · omega
      · exact ho h)
    exact e2.trans (s1.same x hx ho)
  · intro x hx
    rcases hown x hx with h | h
    · left; have := H.step.size; omega
    · exact H.owned x h
theorem Holds.skip {st : St} {a : Act} {W : World} {μ : Place} {own : Nat → List Nat} (H : Holds X nt st a W μ own) {dst : Option Nat} (hd : dstOk nt dst = true) : SInv X nt { st with t := putT st.t dst (.tup []) } (a.put dst Go.undef) W :=
  H.after (After.pure H.inv RV.undef) hd
/-- Is an operation carried out? -/
theorem wanted_rel {ops : Array Oper} {o : Oper} {g : Option (Nat × Bool)} (hg : slimGuard ops o.guard = some g) {W : World} {F Fr : Nat → Prop} {μ : Place} {t : Temps} {tmps : Array Value} (ht : TInv W F Fr μ t tmps) {b : Bool} (hw : wanted t g = some b) :
    Region.wanted o (yielded ops tmps) = b := by
  unfold slimGuard at hg
  unfold Region.wanted
  split at hg
  · rename_i e
    obtain rfl := Option.some.inj hg
    simp [wanted] at hw
    rw [e]; exact hw.symm
  · rename_i j w e
    rw [e]
    split at hg
    · rename_i oj hoj
      split at hg
      · rename_i d hd
        obtain rfl := Option.some.inj hg
        simp only [wanted] at hw
        have hv := ht d
        simp only [yielded, hoj, hd, Option.bind_some]
        split at hw
        · rename_i x e2
          rw [e2] at hv
          have hx := hv.bool
          have hlt : d < tmps.size := by
            rcases Nat.lt_or_ge d tmps.size with h | h
            · exact h
            · rw [Array.getD_eq_getD_getElem?, Array.getElem?_eq_none h] at hx; cases hx
          rw [Array.getD_eq_getD_getElem?, Array.getElem?_eq_getElem hlt] at hx
          simp only [Option.getD_some] at hx
          rw [Array.getElem?_eq_getElem hlt, hx]
          simp at hw
          rw [← hw]
          cases x <;> cases w <;> rfl
        · rename_i e2
          rw [e2] at hv
          obtain ⟨vs, hvs, _⟩ := hv
          simp at hw
          subst hw
          rw [Array.getD_eq_getD_getElem?] at hvs
          cases hq : tmps[d]? with
          | none => rfl
          | some c => rw [hq] at hvs; simp only [Option.getD_some] at hvs; subst hvs; rfl
        · cases hw
      · cases hg
    · cases hg
theorem slimOper_inv {P : Program} {ann : Nat → List Bool} {ops : Array Oper} {o : Oper} {so : SOper} (h : slimOper P ann nt ops o = some so) : ∃ g sop, slimGuard ops o.guard = some g ∧ slimOp P ann o.op = some sop ∧ dstOk nt o.dst = true ∧ so = { dst := o.dst, guard := g, op := sop } := by
  unfold slimOper at h
  split at h
  · rename_i g sop hg hs
    split at h
    · rename_i hd; exact ⟨g, sop, hg, hs, hd, (Option.some.inj h).symm⟩
    · cases h
  · cases h
/-- One operation, then the rest. -/
theorem stepOp_sound (HC : OracleOk X.P X.B C) {ann : Nat → List Bool} {ops : Array Oper} {i : Nat} {o : Oper} {so : SOper} (hi : ops[i]? = some o) (hs : slimOper X.P ann nt ops o = some so) {st st' : St} (hr : stepOp C st so = some st') {a : Act} {W : World} (hS : SInv X nt st a W)
    {K : Act → World → Prop} {Q : Exit → Act → World → Prop} (hk : ∀ a' W', SInv X nt st' a' W' → K a' W') : wpOp X.P ops Q i K a W := by
  obtain ⟨g, sop, hg, hop, hd, rfl⟩ := slimOper_inv hs
  obtain ⟨μ, own, H⟩ := hS
  unfold stepOp at hr
  unfold wpOp
  simp only [hi]
  split at hr
  · cases hr
  · rename_i hw
    obtain rfl := Option.some.inj hr
    rw [wanted_rel hg H.tmp hw]
    simp only [Bool.false_eq_true, if_false]
    exact hk _ _ (H.skip hd)
  · rename_i hw
    rw [wanted_rel hg H.tmp hw]
    simp only [if_true]
    split at hr
    · rename_i v h' n' hrun
      obtain rfl := Option.some.inj hr
      exact .inl ((op_sound HC hop rfl H.inv H.base H.tmp hrun).wp fun cv W' A => hk _ _ (H.after A hd))
    · cases hr
theorem runOps_sound (HC : OracleOk X.P X.B C) {ann : Nat → List Bool} {ops : Array Oper} {Q : Exit → Act → World → Prop} : ∀ {rest : List Oper} {l : List SOper} {i : Nat}, ops.toList.drop i = rest → slimOpers X.P ann nt ops rest = some l → ∀ {st st' : St}, runOps C l st = some st' → ∀ {a : Act} {W : World}, SInv X nt st a W →
    (∀ a' W', SInv X nt st' a' W' → Q .normal a' W') → wpOps X.P ops Q (List.range' i rest.length) a W
  | [], l, i, hd, hs, st, st', hr, a, W, hS, hq => by
    simp [slimOpers] at hs; subst hs
    simp [runOps] at hr; subst hr
    simpa [wpOps] using hq a W hS
  | o :: rest, l, i, hd, hs, st, st', hr, a, W, hS, hq => by
    simp only [slimOpers] at hs
    split at hs
    · rename_i so ls hso hls
      obtain rfl := Option.some.inj hs
      simp only [runOps] at hr
      split at hr
      · rename_i st1 h1
        have hi : ops[i]? = some o := by
          have := congrArg (·[0]?) hd
          simpa using this
        have hd' : ops.toList.drop (i + 1) = rest := by rw [← List.drop_drop, hd]; rfl
        simp only [List.length_cons, List.range'_succ]
        rw [wpOps_cons]
        exact stepOp_sound HC hi hso h1 hS fun a' W' hS' => runOps_sound HC hd' hls hr hS' hq
      · cases hr
    · cases hs
theorem region_sound (HC : OracleOk X.P X.B C) {ann : Nat → List Bool} {ops : Array Oper} {Q : Exit → Act → World → Prop} {l : List SOper} (hs : slimOpers X.P ann nt ops ops.toList = some l) {st st' : St} (hr : runOps C l st = some st') {a : Act} {W : World} (hS : SInv X nt st a W)
    (hq : ∀ a' W', SInv X nt st' a' W' → Q .normal a' W') (id : Nat) : (Code.region id ops false).wp X.P Q a W := by
  refine wp_region ?_
  have := runOps_sound HC (rest := ops.toList) (i := 0) rfl hs hr hS hq
  rwa [Array.length_toList, ← List.range_eq_range'] at this
end
end Go.Am
/- THE ABSTRACT MACHINE (AM): blocks under new names. No condition. -/
namespace Go.Am
set_option linter.unusedSimpArgs false
set_option linter.unusedVariables false

theorem ren_noagg' {ρ : List (Nat × Nat)} {v : AV} (h : ∀ m, v ≠ .agg m) (m : List AV) : v.ren ρ ≠ .agg m := by
  cases v with
  | agg l => exact absurd rfl (h l)
  | ref => simp only [AV.ren]; split <;> simp
  | ptr => simp only [AV.ren]; split <;> simp
  | map => simp only [AV.ren]; split <;> simp
  | _ => simp [AV.ren]
theorem ones_ren' (ρ : List (Nat × Nat)) : ∀ {l : List AV}, ones l → ones (AV.renL ρ l)
  | [], _ => trivial
  | v :: l, h => by
    simp only [AV.renL]
    exact ⟨ren_noagg' h.1, ones_ren' ρ h.2⟩
theorem upTo_length : ∀ k, (upTo k).length = k
  | 0 => rfl
  | k + 1 => by simp [upTo, upTo_length k]
theorem upTo_get : ∀ {k j : Nat}, j < k → (upTo k)[j]? = some j
  | k + 1, j, h => by
    simp only [upTo]
    by_cases e : j < k
    · rw [List.getElem?_append_left (by rw [upTo_length]; exact e)]; exact upTo_get e
    · have : j = k := by omega
      subst this
      rw [List.getElem?_append_right (by rw [upTo_length]; exact Nat.le_refl _), upTo_length]
      simp
theorem upTo_mem {k x : Nat} : x ∈ upTo k ↔ x < k := by
  induction k with
  | zero => simp [upTo]
  | succ k ih => simp only [upTo, List.mem_append, ih, List.mem_singleton]; omega
theorem upTo_nodup : ∀ k, (upTo k).Nodup
  | 0 => by simp [upTo]
  | k + 1 => by
    simp only [upTo]
    rw [List.nodup_append]
    refine ⟨upTo_nodup k, by simp, fun a ha b hb e => ?_⟩
    have := upTo_mem.1 ha
    simp at hb; omega
section
variable {W : World} {F Fr : Nat → Prop} {μ : Place}
theorem RL.ren {l : List AV} {cs : List Value} {o : List Nat} (h : RL W F Fr μ l cs o) : ∀ {μ2 : Place} {ρ : List (Nat × Nat)}, Leads ρ μ μ2 → RL W F Fr μ2 (AV.renL ρ l) cs o := by
  induction h with
  | nil => intros; exact .nil
  | i _ ih => intro μ2 ρ c; exact .i (ih c)
  | b _ ih => intro μ2 ρ c; exact .b (ih c)
  | s _ ih => intro μ2 ρ c; exact .s (ih c)
  | junk c hc _ ih => intro μ2 ρ x; exact .junk c hc (ih x)
  | niL _ ih => intro μ2 ρ c; exact .niL (ih c)
  | emp A _ ih => intro μ2 ρ c; exact .emp A (ih c)
  | nilp _ ih => intro μ2 ρ c; exact .nilp (ih c)
  | nilf _ ih => intro μ2 ρ c; exact .nilf (ih c)
  | nilm _ ih => intro μ2 ρ c; exact .nilm (ih c)
  | agg hone _ _ ih1 ih2 => intro μ2 ρ c; exact .agg (ones_ren' ρ hone) (ih1 c) (ih2 c)
  | sl0 sz w A c _ ih => intro μ2 ρ x; exact .sl0 sz w A c (ih x)
  | sl1 sz w l g o0 c G cs1 o1 hl hG hc hu hg ho1 hcell h h' ih1 ih2 => intro μ2 ρ x; exact .sl1 sz w l g o0 c G cs1 o1 hl hG hc hu hg ho1 hcell h (ih2 x)
  | un0 sz A _ ih => intro μ2 ρ c; exact .un0 sz A (ih c)
  | un1 sz l g o0 c cs1 o1 h0 hc hu hcell hopen h _ ih1 ih2 => intro μ2 ρ x; exact .un1 sz l g o0 c cs1 o1 h0 hc hu hcell hopen h (ih2 x)
  | ref id p off len cap ex L A c hμ hl hcap hex hfit hA _ ih =>
    intro μ2 ρ x
    simp only [AV.renL, AV.ren]
    split
    · rename_i j hj; exact .ref j p off len cap ex L A c (x _ _ _ _ hj hμ) hl hcap hex hfit hA (ih x)
    · exact .junk _ rfl (ih x)
  | ptr id p r c L hμ _ ih =>
    intro μ2 ρ x
    simp only [AV.renL, AV.ren]
    split
    · rename_i j hj; exact .ptr j p r c L (x _ _ _ _ hj hμ) (ih x)
    · exact .junk _ rfl (ih x)
  | rp row c g o0 cs1 hg hcell h _ ih1 ih2 => intro μ2 ρ x; exact .rp row c g o0 cs1 hg hcell h (ih2 x)
  | fn f caps capsv _ _ ih1 ih2 => intro μ2 ρ x; exact .fn f _ capsv (ih1 x) (ih2 x)
  | map id L hμ _ ih =>
    intro μ2 ρ x
    simp only [AV.renL, AV.ren]
    split
    · rename_i j hj; exact .map j L (x _ _ _ _ hj hμ) (ih x)
    · exact .junk _ rfl (ih x)
theorem renL_get (ρ : List (Nat × Nat)) : ∀ (l : List AV) (j : Nat), (AV.renL ρ l)[j]? = (l[j]?).map (AV.ren ρ)
  | [], j => by simp [AV.renL]
  | v :: l, 0 => by simp [AV.renL]
  | v :: l, j + 1 => by simp [AV.renL, renL_get ρ l j]
theorem renL_length (ρ : List (Nat × Nat)) : ∀ (l : List AV), (AV.renL ρ l).length = l.length
  | [] => rfl
  | v :: l => by simp [AV.renL, renL_length ρ l]
theorem RV1.ren {v : AV} {c : Value} (h : RV1 W F Fr μ v c) {μ2 : Place} {ρ : List (Nat × Nat)} (hl : Leads ρ μ μ2) : RV1 W F Fr μ2 (v.ren ρ) c := by
  by_cases hj : v = .junk
  · subst hj; trivial
  · by_cases ha : ∃ l, v = .agg l
    · obtain ⟨l, rfl⟩ := ha
      obtain ⟨cs, rfl, hr⟩ := h
      exact ⟨cs, rfl, by simpa [AV.renL, AV.ren] using hr.ren hl⟩
    · have h1 : RL W F Fr μ [v] [c] [] := by cases v <;> first | exact h | exact absurd rfl hj | exact absurd ⟨_, rfl⟩ ha
      have h2 := h1.ren hl
      simp only [AV.renL] at h2
      have h3 := ren_noagg' (ρ := ρ) (fun m e => ha ⟨m, e⟩ : ∀ m, v ≠ .agg m)
      cases hq : v.ren ρ with
      | junk => trivial
      | agg l => exact absurd hq (h3 l)
      | _ => rw [hq] at h2; exact h2
theorem RV.ren {v : AV} {c : Value} (h : RV W F Fr μ v c) {μ2 : Place} {ρ : List (Nat × Nat)} (hl : Leads ρ μ μ2) : RV W F Fr μ2 (v.ren ρ) c := by
  by_cases ht : ∃ l, v = .tup l
  · obtain ⟨l, rfl⟩ := ht
    obtain ⟨vs, rfl, h1, h2⟩ := h
    simp only [AV.ren]
    refine ⟨vs, rfl, by rw [renL_length]; exact h1, fun j x hj => ?_⟩
    rw [renL_get] at hj
    obtain ⟨y, hy, rfl⟩ := Option.map_eq_some_iff.1 hj
    obtain ⟨c, hc, hr⟩ := h2 j y hy
    exact ⟨c, hc, hr.ren hl⟩
  · have h1 : RV1 W F Fr μ v c := by rw [RV.eq1 (fun l e => ht ⟨l, e⟩)] at h; exact h
    exact (h1.ren hl).rv
/-- Some blocks of a heap, under new names. -/
theorem HInv.pick {h : Heap} {own : Nat → List Nat} {n : Nat} (H : HInv W F Fr μ h own n) {acc : List Nat} (hnd : acc.Nodup) :
    HInv W F Fr (lentPl μ acc) (pickH h (numbered acc 0) (numbered acc 0)) (lentOwn own acc) acc.length := by
  have hfind : ∀ j b, find (pickH h (numbered acc 0) (numbered acc 0)) j = some b → ∃ x b0, acc[j]? = some x ∧ find h x = some b0 ∧ b = b0.ren (numbered acc 0) := by
    intro j b hf
    obtain ⟨_, x, b0, h2, h3, rfl⟩ := find_pickH hf
    exact ⟨x, b0, by simpa using h2, h3, rfl⟩
  constructor
  · intro j b hf
    obtain ⟨x, b0, hj, hx, rfl⟩ := hfind j b hf
    have hb := H.blk x b0 hx
    have hpl : ∀ p, lentPl μ acc j p = μ x p := fun p => by simp [lentPl, hj]
    have how : lentOwn own acc j = own x := by unfold lentOwn; rw [getD_of hj]
    rw [how]
    cases b0 with
    | box cs =>
      obtain ⟨L, csv, h1, h2, h3, h4, h5, h6⟩ := hb
      exact ⟨L, csv, by rw [hpl]; exact h1, ones_ren' _ h2, h3.ren lent_names, h4, h5, h6⟩
    | arr sz rows =>
      obtain ⟨L, csv, o1, h1, h2, h3, h4, h5, h6, h7, h8, h9, h10⟩ := hb
      exact ⟨L, csv, o1, by rw [hpl]; exact h1, h2, h3, h4, h5, h6, h7, h8, h9, fun r c row sz' l e1 e2 => by rw [hpl]; exact h10 r c row sz' l e1 e2⟩
    | mp es => exact hb.elim
  · intro j b hf
    obtain ⟨x, b0, hj, hx, _⟩ := hfind j b hf
    unfold lentOwn; rw [getD_of hj]
    exact H.nd x b0 hx
  · intro j j' b b' hf hf' hne y hy
    obtain ⟨x, b0, hj, hx, _⟩ := hfind j b hf
    obtain ⟨x', b0', hj', hx', _⟩ := hfind j' b' hf'
    unfold lentOwn at hy ⊢
    rw [getD_of hj] at hy
    rw [getD_of hj']
    refine H.dis x x' b0 b0' hx hx' (fun e => hne ?_) y hy
    subst e
    obtain ⟨l1, e1⟩ := List.getElem?_eq_some_iff.1 hj
    obtain ⟨l2, e2⟩ := List.getElem?_eq_some_iff.1 hj'
    exact (List.getElem_inj hnd).1 (e1.trans e2.symm)
  · intro j b hf y hy
    obtain ⟨x, b0, hj, hx, _⟩ := hfind j b hf
    unfold lentOwn at hy
    rw [getD_of hj] at hy
    exact H.out x b0 hx y hy
  · intro j b hf
    obtain ⟨x, b0, hj, hx, _⟩ := hfind j b hf
    exact (List.getElem?_eq_some_iff.1 hj).1
  · intro j p L hl
    unfold lentPl at hl
    split at hl
    · rename_i id hid; exact (List.getElem?_eq_some_iff.1 hid).1
    · cases hl
  · exact H.fr
  · exact H.fsz
theorem owned_pick {h : Heap} {own : Nat → List Nat} {acc : List Nat} {x : Nat} (ho : Owned (pickH h (numbered acc 0) (numbered acc 0)) (lentOwn own acc) x) : Owned h own x :=
  Owned.lent (h := h) (fun j b hf => by
    obtain ⟨_, x, b0, h2, h3, rfl⟩ := find_pickH hf
    exact ⟨x, b0, by simpa using h2, h3⟩) ho
theorem get_maskT {ρ : List (Nat × Nat)} {t : Temps} : ∀ {live : List Nat} {j : Nat}, get (maskT ρ t live) j = .junk ∨ get (maskT ρ t live) j = (get t j).ren ρ
  | [], j => .inl rfl
  | i :: l, j => by
    simp only [maskT, get]
    split
    · rename_i e; subst e; exact .inr rfl
    · exact get_maskT
end
/-- At a loop's head. -/
theorem norm_sound {X : Ctx} {nt : Nat} {st : St} {a : Act} {W : World} (h : SInv X nt st a W) (live : List Nat) : SInv X nt (norm X.k live st) a W := by
  obtain ⟨μ, own, H⟩ := h
  unfold norm
  obtain ⟨acc, hacc⟩ : ∃ acc, acc = reach st.h fuel (idsOf st.h (upTo X.k) ++ idsT st.t live) (upTo X.k) := ⟨_, rfl⟩
  rw [← hacc]
  obtain ⟨_, hnd, m, hm⟩ := reach_mem (h := st.h) fuel (idsOf st.h (upTo X.k) ++ idsT st.t live) (upTo X.k) (upTo_nodup _)
  rw [← hacc] at hnd hm
  have hk : ∀ id, id < X.k → acc[id]? = some id := fun id hid => by
    rw [hm, List.getElem?_append_left (by rw [upTo_length]; exact hid)]; exact upTo_get hid
  refine ⟨lentPl μ acc, lentOwn own acc, H.inv.pick hnd, ?_, H.base, ?_, H.step, fun x hx => H.owned x (owned_pick hx), ?_, H.nt, H.df⟩
  · intro j
    rcases get_maskT (ρ := numbered acc 0) (t := st.t) (live := live) (j := j) with e | e
    · rw [e]; trivial
    · rw [e]; exact (H.tmp j).ren lent_names
  · intro id p hid
    rw [← H.pl id p hid]
    simp only [lentPl, hk id hid]
  · show X.k ≤ acc.length
    rw [hm, List.length_append, upTo_length]; omega
end Go.Am
/- THE ABSTRACT MACHINE (AM): a call's end. No condition. -/
namespace Go.Am
set_option linter.unusedSimpArgs false
set_option linter.unusedVariables false

section
variable {P : Program} {W : World} {F Fr : Nat → Prop} {μ : Place}
theorem expC_rel {h h' : Heap} {own : Nat → List Nat} {n : Nat} (H : HInv W F Fr μ h own n) {k : Nat} {v x : AV} {c : Value} (hv : RL W F Fr μ [v] [c] []) (he : expC k h v = some (x, h')) :
    ∃ o, RRs W F Fr μ [x] [c] o ∧ o.Nodup ∧ (∀ y ∈ o, Gone h h' own y) ∧ Fewer h h' ∧ (∀ m, x ≠ .agg m) ∧ ∀ m, x ≠ .tup m := by
  have val : ∀ {v : AV}, RL W F Fr μ [v] [c] [] → (∀ m, v ≠ .agg m) → (∀ m, v ≠ .tup m) → (∀ sz l, v ≠ .un sz l) → v.mayB = true → some (v, h) = some (x, h') → ∃ o, RRs W F Fr μ [x] [c] o ∧ o.Nodup ∧ (∀ y ∈ o, Gone h h' own y) ∧ Fewer h h' ∧ (∀ m, x ≠ .agg m) ∧ ∀ m, x ≠ .tup m := by
    intro v hv h1 h1' h2 h3 e
    simp only [Option.some.injEq, Prod.mk.injEq] at e
    obtain ⟨rfl, rfl⟩ := e
    exact ⟨[], .val h1 h2 h3 hv .nil, by simp, by simp, .refl _, h1, h1'⟩
  cases v with
  | ref id p off len cap ex =>
    cases p with
    | some q => simp [expC] at he
    | none =>
      simp only [expC] at he
      split at he
      · exact val hv (by simp) (by simp) (by simp) rfl he
      · split at he
        · rename_i sz rows hra
          split at he
          · rename_i l hl
            simp only [Option.some.injEq, Prod.mk.injEq] at he
            obtain ⟨rfl, rfl⟩ := he
            obtain ⟨o, h1, h2, h3, b, h4⟩ := take_ref H (RV.ofSingle hv (by simp)) hra hl
            have hpos : 0 < sz := by
              obtain ⟨_, _, _, _, _, hp, _⟩ := H.blk id _ (rowsAt_none hra)
              exact hp
            refine ⟨o ++ [], .un hpos h1 .nil, by simpa using h2, fun y hy => ⟨id, b, h4, h3 y (by simpa using hy), by rw [find_delH, if_pos rfl]⟩, .del _ _, by simp, by simp⟩
          · cases he
        · cases he
  | sl sz w l =>
    cases w with
    | true => exact val hv (by simp) (by simp) (by simp) rfl he
    | false => simp [expC] at he
  | ptr id p r cc =>
    cases p with
    | none => exact val hv (by simp) (by simp) (by simp) rfl he
    | some q => simp [expC] at he
  | i k m => exact val hv (by simp) (by simp) (by simp) rfl he
  | b y => exact val hv (by simp) (by simp) (by simp) rfl he
  | s y => exact val hv (by simp) (by simp) (by simp) rfl he
  | nil => exact val hv (by simp) (by simp) (by simp) rfl he
  | emp => exact val hv (by simp) (by simp) (by simp) rfl he
  | nilp => exact val hv (by simp) (by simp) (by simp) rfl he
  | nilf => exact val hv (by simp) (by simp) (by simp) rfl he
  | nilm => exact val hv (by simp) (by simp) (by simp) rfl he
  | map id => exact val hv (by simp) (by simp) (by simp) rfl he
  | un sz l => simp [expC] at he
  | rp row cc => simp [expC] at he
  | agg l => simp [expC] at he
  | tup l => simp [expC] at he
  | fn f l => simp [expC] at he
  | junk => simp [expC] at he
theorem RRs.cons1 {x : AV} {xs : List AV} {c : Value} {cs : List Value} {o o' : List Nat} (h : RRs W F Fr μ [x] [c] o) (h' : RRs W F Fr μ xs cs o') : RRs W F Fr μ (x :: xs) (c :: cs) (o ++ o') := by
  cases h with
  | un hp h1 h2 => cases h2; simpa using RRs.un hp h1 h'
  | val a b d e h2 => cases h2; simpa using RRs.val a b d e h'
theorem expL_rel {k : Nat} {own : Nat → List Nat} {n : Nat} : ∀ {l xs : List AV} {h h' : Heap} (H : HInv W F Fr μ h own n) {cs : List Value}, RL W F Fr μ l cs [] → ones l → expL k h l = some (xs, h') →
    ∃ o, RRs W F Fr μ xs cs o ∧ o.Nodup ∧ (∀ y ∈ o, Gone h h' own y) ∧ Fewer h h'
  | [], xs, h, h', H, cs, hv, _, he => by
    simp [expL] at he
    obtain ⟨rfl, rfl⟩ := he
    cases hv
    exact ⟨[], .nil, by simp, by simp, .refl _⟩
  | v :: l, xs, h, h', H, cs, hv, hone, he => by
    simp only [expL] at he
    split at he
    · rename_i x h1 hx
      split at he
      · rename_i xs' h2 hxs
        simp only [Option.some.injEq, Prod.mk.injEq] at he
        obtain ⟨rfl, rfl⟩ := he
        obtain ⟨c1, c2, o1, o2, rfl, eo, q1, q2⟩ := RL.uncons hv
        have eo := List.append_eq_nil_iff.1 eo.symm
        rw [eo.1] at q1; rw [eo.2] at q2
        have hw := q1.width
        simp [AV.widthL, width_one hone.1] at hw
        match c1, hw with
        | [c], _ =>
          obtain ⟨o, a1, a2, a3, a4, _⟩ := expC_rel H q1 hx
          obtain ⟨o', b1, b2, b3, b4⟩ := expL_rel (H.fewer a4) q2 hone.2 hxs
          refine ⟨o ++ o', a1.cons1 b1, ?_, fun y hy => ?_, a4.trans b4⟩
          · rw [List.nodup_append]
            exact ⟨a2, b2, fun y hy z hz e => Gone.apart H a4 (a3 y hy) (e ▸ b3 z hz)⟩
          · rcases List.mem_append.1 hy with hy | hy
            · exact (a3 y hy).mono b4
            · exact (b3 y hy).later a4
      · cases he
    · cases he
theorem expR_rel {k : Nat} {own : Nat → List Nat} {n : Nat} {h h' : Heap} (H : HInv W F Fr μ h own n) {v x : AV} {c : Value} (hv : RV W F Fr μ v c) (he : expR k h v = some (x, h')) :
    ∃ o, RRr W F Fr μ x c o ∧ o.Nodup ∧ (∀ y ∈ o, Gone h h' own y) ∧ Fewer h h' ∧ ∀ m, x ≠ .tup m := by
  by_cases hag : ∃ l, v = .agg l
  · obtain ⟨l, rfl⟩ := hag
    simp only [expR] at he
    split at he
    · rename_i xs h1 hxs
      simp only [Option.some.injEq, Prod.mk.injEq] at he
      obtain ⟨rfl, rfl⟩ := he
      obtain ⟨cs, rfl, hone, hr⟩ := hv.agg
      obtain ⟨o, a1, a2, a3, a4⟩ := expL_rel H hr hone hxs
      exact ⟨o, ⟨cs, rfl, a1⟩, a2, a3, a4, by simp⟩
    · cases he
  · have he' : expC k h v = some (x, h') := by cases v <;> first | exact he | exact absurd ⟨_, rfl⟩ hag
    have h1 := hv.single (by rintro rfl; simp [expC] at he') (fun m e => hag ⟨m, e⟩) (by rintro m rfl; simp [expC] at he')
    obtain ⟨o, a1, a2, a3, a4, a5, a6⟩ := expC_rel H h1 he'
    refine ⟨o, ?_, a2, a3, a4, a6⟩
    cases x <;> first | exact a1 | exact absurd rfl (a5 _)
theorem expT_rel {k : Nat} {own : Nat → List Nat} {n : Nat} : ∀ {l xs : List AV} {h h' : Heap} (H : HInv W F Fr μ h own n) {cs : List Value}, All2 (RV W F Fr μ) l cs → expT k h l = some (xs, h') →
    ∃ o, RRt W F Fr μ xs cs o ∧ o.Nodup ∧ (∀ y ∈ o, Gone h h' own y) ∧ Fewer h h' ∧ ∀ x ∈ xs, ∀ m, x ≠ .tup m
  | _, xs, h, h', H, _, .nil, he => by
    simp [expT] at he
    obtain ⟨rfl, rfl⟩ := he
    exact ⟨[], .nil, by simp, by simp, .refl _, by simp⟩
  | v :: l, xs, h, h', H, c :: cs, .cons hv hr, he => by
    simp only [expT] at he
    split at he
    · rename_i x h1 hx
      split at he
      · rename_i xs' h2 hxs
        simp only [Option.some.injEq, Prod.mk.injEq] at he
        obtain ⟨rfl, rfl⟩ := he
        obtain ⟨o, a1, a2, a3, a4, a5⟩ := expR_rel H hv hx
        obtain ⟨o', b1, b2, b3, b4, b5⟩ := expT_rel (H.fewer a4) hr hxs
        refine ⟨o ++ o', .cons a1 b1, ?_, fun y hy => ?_, a4.trans b4, fun y hy => ?_⟩
        · rw [List.nodup_append]
          exact ⟨a2, b2, fun y hy z hz e => Gone.apart H a4 (a3 y hy) (e ▸ b3 z hz)⟩
        · rcases List.mem_append.1 hy with hy | hy
          · exact (a3 y hy).mono b4
          · exact (b3 y hy).later a4
        · rcases List.mem_cons.1 hy with rfl | hy
          · exact a5
          · exact b5 y hy
      · cases he
    · cases he
/-! ### Under new names -/
theorem RRs.ren {l : List AV} {cs : List Value} {o : List Nat} (h : RRs W F Fr μ l cs o) {μ2 : Place} {ρ : List (Nat × Nat)} (hl : Leads ρ μ μ2) : RRs W F Fr μ2 (AV.renL ρ l) cs o := by
  induction h with
  | nil => exact .nil
  | un hp h1 _ ih => exact .un hp h1 ih
  | @val v vs c cs o a b d e _ ih =>
    refine .val (ren_noagg' a) ?_ (by rw [may_ren]; exact d) (by simpa [AV.renL] using e.ren hl) ih
    intro sz l e2
    cases v <;> simp only [AV.ren] at e2 <;> (try split at e2) <;> first | (cases e2; done) | exact b _ _ rfl
theorem RRr.ren {v : AV} {c : Value} {o : List Nat} (h : RRr W F Fr μ v c o) {μ2 : Place} {ρ : List (Nat × Nat)} (hl : Leads ρ μ μ2) : RRr W F Fr μ2 (v.ren ρ) c o := by
  by_cases hag : ∃ l, v = .agg l
  · obtain ⟨l, rfl⟩ := hag
    obtain ⟨cs, rfl, hr⟩ := h
    exact ⟨cs, rfl, hr.ren hl⟩
  · have h' : RRs W F Fr μ [v] [c] o := by cases v <;> first | exact h | exact absurd ⟨_, rfl⟩ hag
    have h2 := h'.ren hl
    simp only [AV.renL] at h2
    have h3 := ren_noagg' (ρ := ρ) (fun m e => hag ⟨m, e⟩ : ∀ m, v ≠ .agg m)
    cases hq : v.ren ρ <;> first | exact absurd hq (h3 _) | (rw [hq] at h2; exact h2)
theorem RRt.ren {l : List AV} {cs : List Value} {o : List Nat} (h : RRt W F Fr μ l cs o) {μ2 : Place} {ρ : List (Nat × Nat)} (hl : Leads ρ μ μ2) : RRt W F Fr μ2 (AV.renL ρ l) cs o := by
  induction h with
  | nil => exact .nil
  | cons h1 _ ih => exact .cons (h1.ren hl) ih
theorem ren_notup {ρ : List (Nat × Nat)} {v : AV} (h : ∀ m, v ≠ .tup m) (m : List AV) : v.ren ρ ≠ .tup m := by
  cases v with
  | tup l => exact absurd rfl (h l)
  | ref => simp only [AV.ren]; split <;> simp
  | ptr => simp only [AV.ren]; split <;> simp
  | map => simp only [AV.ren]; split <;> simp
  | _ => simp [AV.ren]
/-! ### The results -/
theorem resVals_run {t : Temps} {h : Heap} {own : Nat → List Nat} {n : Nat} (H : HInv W F Fr μ h own n) {tmps : Array Value} (ht : TInv W F Fr μ t tmps) : ∀ {rs : List ResultVar} {l : List Res} {vs : List AV}, slimR P rs = some l → resVals t h l = some vs →
    ∃ cs : List Value, (rs.mapM (m := Sem) fun
      | .tmp t => pure (tmps.getD t undef)
      | .cell a t => do loadVar t (← asAddr (tmps.getD a undef))).run P W = .ok cs W ∧ All2 (RV W F Fr μ) vs cs
  | [], l, vs, hs, hr => by
    simp [slimR] at hs; subst hs
    simp [resVals] at hr; subst hr
    exact ⟨[], by simp, .nil⟩
  | .tmp j :: rs, l, vs, hs, hr => by
    simp only [slimR] at hs
    obtain ⟨l', hl', rfl⟩ := some_of_map hs
    simp only [resVals] at hr
    split at hr
    · rename_i vs' hvs
      obtain rfl := Option.some.inj hr
      obtain ⟨cs, h1, h2⟩ := resVals_run H ht hl' hvs
      exact ⟨tmps.getD j undef :: cs, by simp only [List.mapM_cons, Sem.run_bind, Sem.run_pure, Result.andThen_ok, h1], .cons (ht j) h2⟩
    · cases hr
  | .cell j ty :: rs, l, vs, hs, hr => by
    simp only [slimR] at hs
    split at hs
    · rename_i ag m ha hm
      obtain ⟨l', hl', rfl⟩ := some_of_map hs
      simp only [resVals] at hr
      split at hr
      · rename_i v vs' hv hvs
        obtain rfl := Option.some.inj hr
        obtain ⟨cs, h1, h2⟩ := resVals_run H ht hl' hvs
        obtain ⟨c, h3, h4⟩ := load_sound (P := P) H ha hm (ht j) hv
        obtain ⟨A, hA⟩ : ∃ A, tmps.getD j undef = .pointer (some A) := by
          have hj := ht j
          unfold loadVal at hv
          split at hv
          · rename_i e; rw [e] at hj; obtain ⟨L, _, e2⟩ := hj.ptr_inv; exact ⟨_, e2⟩
          · rename_i e; rw [e] at hj; obtain ⟨L, _, e2⟩ := hj.ptr_inv; exact ⟨_, e2⟩
          · rename_i e; rw [e] at hj; obtain ⟨g, o0, cs1, e2, _⟩ := hj.rp_inv; exact ⟨_, e2⟩
          · cases hv
        rw [hA] at h3
        simp only [Instr.loadAt, Instr.sureAddr, Sem.run_bind, Sem.run_pure, Result.andThen_ok] at h3
        refine ⟨c :: cs, ?_, .cons h4 h2⟩
        have hadr : (asAddr (.pointer (some A))).run P W = .ok A W := rfl
        simp only [List.mapM_cons, Sem.run_bind, hA, hadr, Sem.run_pure, Result.andThen_ok, h3, h1]
      · cases hr
    · cases hs
end
theorem finish_sound {X : Ctx} {nt : Nat} {st : St} {a : Act} {W : World} (hS : SInv X nt st a W) (hk : X.k = X.h0.length) {fn : Func} {rs : List Res} (hrs : slimR X.P fn.results.toList = some rs) {r : AV} {h1 : Heap} (hf : finish X.k rs st = some (r, h1)) :
    ∃ cv, (results fn a.tmps).run X.P W = .ok cv W ∧ Ret X.W0 X.F X.Fr X.μ0 X.h0 X.own0 r h1 cv W := by
  obtain ⟨μ, own, H⟩ := hS
  unfold finish at hf
  split at hf
  · cases hf
  · rename_i vs hvs
    split at hf
    · cases hf
    · rename_i xs h' hexp
      obtain ⟨cs, hrun, hall⟩ := resVals_run (P := X.P) H.inv H.tmp hrs hvs
      obtain ⟨o, hRt, hndo, hgone, hfew, hnt⟩ := expT_rel H.inv hall hexp
      simp only at hf
      obtain ⟨acc, hacc⟩ : ∃ acc, acc = reach h' fuel (idsOf h' (upTo X.k) ++ AV.idsL xs) (upTo X.k) := ⟨_, rfl⟩
      rw [← hacc] at hf
      obtain ⟨hmem, hnd, m, hm⟩ := reach_mem (h := h') fuel (idsOf h' (upTo X.k) ++ AV.idsL xs) (upTo X.k) (upTo_nodup _)
      rw [← hacc] at hmem hnd hm
      split at hf
      · rename_i hmay
        simp only [Option.some.injEq, Prod.mk.injEq] at hf
        obtain ⟨rfl, rfl⟩ := hf
        have hkk : ∀ id, id < X.k → acc[id]? = some id := fun id hid => by
          rw [hm, List.getElem?_append_left (by rw [upTo_length]; exact hid)]; exact upTo_get hid
        have hlen : acc.length ≤ X.h0.length + (pickH h' (numbered acc 0) (numbered acc 0)).length := by
          have hml : m.length ≤ (pickH h' (numbered acc 0) (numbered acc 0)).length := by
            have gen : ∀ (l1 l2 : List Nat) (q : Nat), (∀ x ∈ l2, ∃ b, find h' x = some b) → l2.length ≤ (pickH h' (numbered acc 0) (numbered (l1 ++ l2) q)).length := by
              intro l1
              induction l1 with
              | nil => intro l2 q hall2; rw [List.nil_append, pickH_length hall2]; exact Nat.le_refl _
              | cons y l1 ih =>
                intro l2 q hall2
                simp only [List.cons_append, numbered, pickH]
                have := ih l2 (q + 1) hall2
                split
                · simp only [List.length_cons]; omega
                · exact this
            have hfound : ∀ x ∈ m, ∃ b, find h' x = some b := by
              intro x hx
              rcases hmem x (by rw [hm]; simp [hx]) with h | h
              · exfalso
                rw [hm, List.nodup_append] at hnd
                exact hnd.2.2 x h x hx rfl
              · exact h
            have := gen (upTo X.k) m 0 hfound
            rw [← hm] at this
            exact this
          have e : acc.length = X.k + m.length := by rw [hm, List.length_append, upTo_length]
          omega
        have H1 := (H.inv.fewer hfew).pick (acc := acc) hnd
        refine ⟨if h : cs.toArray.size = 1 then cs.toArray[0] else .tuple cs.toArray, ?_, H.step, hmay, lentPl μ acc, lentOwn own acc, o, ?_, ?_, ?_, hndo, ?_, ?_⟩
        · have hmm : (fn.results.mapM (m := Sem) fun
              | .tmp t => pure (a.tmps.getD t undef)
              | .cell b t => do loadVar t (← asAddr (a.tmps.getD b undef))).run X.P W = .ok cs.toArray W := by
            rw [← Array.toArray_toList (xs := fn.results), List.mapM_toArray]
            simp only [Sem.run_map, hrun, Result.andThen_ok]
          have e : (results fn a.tmps).run X.P W = ((fn.results.mapM (m := Sem) fun
              | .tmp t => pure (a.tmps.getD t undef)
              | .cell b t => do loadVar t (← asAddr (a.tmps.getD b undef))).run X.P W).andThen fun vs w' => .ok (if h : vs.size = 1 then vs[0] else .tuple vs) w' := by
            unfold results
            rw [Sem.run_bind]
            rfl
          rw [e, hmm]
          rfl
        · intro id p hid
          rw [← H.pl id p (by omega)]
          simp only [lentPl, hkk id (by omega)]
        · exact ⟨H1.blk, H1.nd, H1.dis, H1.out, fun id b hb => by have := H1.lt id b hb; omega, fun id p L hl => by have := H1.pl id p L hl; omega, H1.fr, H1.fsz⟩
        · have hR2 := hRt.ren (ρ := numbered acc 0) (μ2 := lentPl μ acc) lent_names
          have hnt2 : ∀ x ∈ AV.renL (numbered acc 0) xs, ∀ m, x ≠ .tup m := by
            intro x hx
            obtain ⟨j, hj⟩ := List.mem_iff_getElem?.1 hx
            rw [renL_get] at hj
            obtain ⟨y, hy, rfl⟩ := Option.map_eq_some_iff.1 hj
            exact ren_notup (hnt y (List.mem_of_getElem? hy))
          generalize AV.renL (numbered acc 0) xs = ys at hR2 hnt2 ⊢
          cases hR2 with
          | nil => exact ⟨#[], by simp, .nil⟩
          | @cons v l c cs' o1 o2 q1 q2 =>
            have hntv := hnt2 v (by simp_all)
            cases q2 with
            | nil =>
              simp only [List.append_nil]
              simp
              cases v <;> first | exact q1 | exact absurd rfl (hntv _)
            | cons q2 q3 => exact ⟨_, by simp, .cons q1 (.cons q2 q3)⟩
        · intro x hx
          obtain ⟨id, b, e1, e2, e3⟩ := hgone x hx
          have := H.inv.out id b e1 x e2
          exact ⟨this.1, this.2, H.owned x ⟨id, b, e1, e2⟩⟩
        · intro id b hb x hx
          obtain ⟨id', b', e1, e2⟩ := owned_pick ⟨id, b, hb, hx⟩
          refine ⟨fun hxo => ?_, H.owned x ⟨id', b', hfew id' b' e1, e2⟩⟩
          obtain ⟨id2, b2, q1, q2, q3⟩ := hgone x hxo
          by_cases e : id' = id2
          · subst e; rw [q3] at e1; cases e1
          · exact H.inv.dis id' id2 b' b2 (hfew id' b' e1) q1 e x e2 q2
      · cases hf
end Go.Am
/- THE ABSTRACT MACHINE (AM): an operation looks at its operands and at their blocks alone. No condition. -/
namespace Go.Am
set_option linter.unusedSimpArgs false
set_option linter.unusedVariables false

theorem evL_congr {t t' : Temps} : ∀ {l : List Opd}, (∀ x ∈ l, x.ev t = x.ev t') → evL t l = evL t' l
  | [], _ => rfl
  | x :: l, h => by simp only [evL]; rw [h x (by simp), evL_congr fun y hy => h y (by simp [hy])]
theorem evO_congr {t t' : Temps} {x : Option Opd} (h : ∀ y ∈ oL x, y.ev t = y.ev t') : evO t x = evO t' x := by
  cases x with
  | none => rfl
  | some y => simp only [evO]; rw [h y (by simp [oL])]
theorem evParts_congr {t t' : Temps} : ∀ {l : List (Nat × Opd)}, (∀ x ∈ sndL l, x.ev t = x.ev t') → evParts t l = evParts t' l
  | [], _ => rfl
  | (j, x) :: l, h => by simp only [evParts]; rw [h x (by simp [sndL]), evParts_congr fun y hy => h y (by simp [sndL, hy])]
theorem fillParts_congr {t t' : Temps} : ∀ {l : List (Nat × Nat × Opd)} {cs : List AV}, (∀ x ∈ trdL l, x.ev t = x.ev t') → fillParts t cs l = fillParts t' cs l
  | [], _, _ => rfl
  | (j, m, x) :: l, cs, h => by
    simp only [fillParts]
    rw [h x (by simp [trdL])]
    split
    · exact fillParts_congr fun y hy => h y (by simp [trdL, hy])
    · rfl
theorem opRun_congr {C : Oracle} {t t' : Temps} {h : Heap} {n : Nat} {op : SOp} (he : ∀ x ∈ op.opds, x.ev t = x.ev t') : opRun C t h n op = opRun C t' h n op := by
  cases op with
  | mov x => simp only [opRun]; rw [he x (by simp [SOp.opds])]
  | pick c x y => simp only [opRun]; rw [he c (by simp [SOp.opds]), he x (by simp [SOp.opds]), he y (by simp [SOp.opds])]
  | alloc z => rfl
  | box m x => simp only [opRun]; rw [he x (by simp [SOp.opds])]
  | load m a x => simp only [opRun]; rw [he x (by simp [SOp.opds])]
  | store m x v => simp only [opRun]; rw [he x (by simp [SOp.opds]), he v (by simp [SOp.opds])]
  | bin op x y => simp only [opRun]; rw [he x (by simp [SOp.opds]), he y (by simp [SOp.opds])]
  | eqs neg cs x y => simp only [opRun]; rw [he x (by simp [SOp.opds]), he y (by simp [SOp.opds])]
  | beq neg x y => simp only [opRun]; rw [he x (by simp [SOp.opds]), he y (by simp [SOp.opds])]
  | isnil p neg x => simp only [opRun]; rw [he x (by simp [SOp.opds])]
  | un op x => simp only [opRun]; rw [he x (by simp [SOp.opds])]
  | conv k x => simp only [opRun]; rw [he x (by simp [SOp.opds])]
  | sid x => simp only [opRun]; rw [he x (by simp [SOp.opds])]
  | str x => simp only [opRun]; rw [he x (by simp [SOp.opds])]
  | bytes x => simp only [opRun]; rw [he x (by simp [SOp.opds])]
  | build z ps => simp only [opRun]; rw [fillParts_congr (by simpa [SOp.opds] using he)]
  | bsl sz a z len ps => simp only [opRun]; rw [evParts_congr (by simpa [SOp.opds] using he)]
  | msl sz by_ a z l c => simp only [opRun]; rw [he l (by simp [SOp.opds]), he c (by simp [SOp.opds])]
  | slice sz x lo hi mx =>
    simp only [opRun]
    rw [he x (by simp [SOp.opds]), evO_congr (x := lo) fun y hy => he y (by simp [SOp.opds, hy]), evO_congr (x := hi) fun y hy => he y (by simp [SOp.opds, hy]), evO_congr (x := mx) fun y hy => he y (by simp [SOp.opds, hy])]
  | sub x lo hi =>
    simp only [opRun]
    rw [he x (by simp [SOp.opds]), evO_congr (x := lo) fun y hy => he y (by simp [SOp.opds, hy]), evO_congr (x := hi) fun y hy => he y (by simp [SOp.opds, hy])]
  | faddr off x => simp only [opRun]; rw [he x (by simp [SOp.opds])]
  | field off m a x => simp only [opRun]; rw [he x (by simp [SOp.opds])]
  | iaddr sz x ix => simp only [opRun]; rw [he x (by simp [SOp.opds]), he ix (by simp [SOp.opds])]
  | iaddrA k sz x ix => simp only [opRun]; rw [he x (by simp [SOp.opds]), he ix (by simp [SOp.opds])]
  | «at» x ix => simp only [opRun]; rw [he x (by simp [SOp.opds]), he ix (by simp [SOp.opds])]
  | atA k sz m a x ix => simp only [opRun]; rw [he x (by simp [SOp.opds]), he ix (by simp [SOp.opds])]
  | mkfn f caps => simp only [opRun]; rw [evL_congr (by simpa [SOp.opds] using he)]
  | extract x j => simp only [opRun]; rw [he x (by simp [SOp.opds])]
  | call f args mt => simp only [opRun]; rw [evL_congr (by simpa [SOp.opds] using he)]
  | callv x args mt => simp only [opRun]; rw [he x (by simp [SOp.opds]), evL_congr (l := args) fun y hy => he y (by simp [SOp.opds, hy])]
  | len s x => simp only [opRun]; rw [he x (by simp [SOp.opds])]
  | cap x => simp only [opRun]; rw [he x (by simp [SOp.opds])]
  | app sz by_ d x y => simp only [opRun]; rw [he x (by simp [SOp.opds]), he y (by simp [SOp.opds])]
  | copy sz x y => simp only [opRun]; rw [he x (by simp [SOp.opds]), he y (by simp [SOp.opds])]
  | min l => simp only [opRun]; rw [evL_congr (by simpa [SOp.opds] using he)]
  | max l => simp only [opRun]; rw [evL_congr (by simpa [SOp.opds] using he)]
  | clear a z x => simp only [opRun]; rw [he x (by simp [SOp.opds])]
  | nilchk x => simp only [opRun]; rw [he x (by simp [SOp.opds])]
  | mkmap => rfl
  | look z a ok x k => rfl
  | mupd x k v => rfl
  | mlen x => rfl
  | del x k => rfl
  | unknown => rfl
  | fail => rfl
/-- Operations of kind 0 leave the heap. -/
theorem kind0 {C : Oracle} {t : Temps} {h : Heap} {n : Nat} {op : SOp} (hk : opKind t op = 0) {v : AV} {h' : Heap} {n' : Nat} (hr : opRun C t h n op = some (v, h', n')) : h' = h ∧ n' = n := by
  cases op <;> simp only [opKind] at hk <;> first
    | (exfalso; simp at hk; done)
    | (exfalso; revert hk; split <;> simp; done)
    | (exfalso; revert hk; (repeat' split) <;> simp; done)
    | (simp only [opRun] at hr
       (repeat' split at hr) <;> first
         | (cases hr; done)
         | exact (some3 hr).2
         | exact (vhn_some hr).2)
theorem reach_empty (h : Heap) (k : Nat) : reach h k [] [] = [] := by cases k <;> rfl
theorem find_giveC {w : Bool} {ρ : List (Nat × Nat)} {h : Heap} {n id : Nat} (hid : id < n) (v : AV) : find (giveC w ρ h n v).2.1 id = find h id ∧ n ≤ (giveC w ρ h n v).2.2 := by
  cases v with
  | un sz l => simp only [giveC]; rw [find_cons, if_neg (by omega)]; exact ⟨rfl, Nat.le_succ _⟩
  | _ => exact ⟨rfl, Nat.le_refl _⟩
theorem find_giveL {w : Bool} {ρ : List (Nat × Nat)} : ∀ (l : List AV) {h : Heap} {n id : Nat}, id < n → find (giveL w ρ h n l).2.1 id = find h id ∧ n ≤ (giveL w ρ h n l).2.2
  | [], h, n, id, _ => ⟨rfl, Nat.le_refl _⟩
  | v :: l, h, n, id, hid => by
    simp only [giveL]
    obtain ⟨e1, e2⟩ := find_giveC (w := w) (ρ := ρ) (h := h) hid v
    obtain ⟨e3, e4⟩ := find_giveL (w := w) (ρ := ρ) l (h := (giveC w ρ h n v).2.1) (n := (giveC w ρ h n v).2.2) (id := id) (by omega)
    exact ⟨e3.trans e1, Nat.le_trans e2 e4⟩
theorem find_giveR {w : Bool} {ρ : List (Nat × Nat)} {h : Heap} {n id : Nat} (hid : id < n) (v : AV) : find (giveR w ρ h n v).2.1 id = find h id ∧ n ≤ (giveR w ρ h n v).2.2 := by
  cases v with
  | agg l => exact find_giveL l hid
  | _ => exact find_giveC hid _
theorem find_giveT {w : Bool} {ρ : List (Nat × Nat)} : ∀ (l : List AV) {h : Heap} {n id : Nat}, id < n → find (giveT w ρ h n l).2.1 id = find h id ∧ n ≤ (giveT w ρ h n l).2.2
  | [], h, n, id, _ => ⟨rfl, Nat.le_refl _⟩
  | v :: l, h, n, id, hid => by
    simp only [giveT]
    obtain ⟨e1, e2⟩ := find_giveR (w := w) (ρ := ρ) (h := h) hid v
    obtain ⟨e3, e4⟩ := find_giveT (w := w) (ρ := ρ) l (h := (giveR w ρ h n v).2.1) (n := (giveR w ρ h n v).2.2) (id := id) (by omega)
    exact ⟨e3.trans e1, Nat.le_trans e2 e4⟩
theorem find_give {w : Bool} {ρ : List (Nat × Nat)} {h : Heap} {n id : Nat} (hid : id < n) (v : AV) : find (give w ρ h n v).2.1 id = find h id := by
  cases v with
  | tup l => exact (find_giveT l hid).1
  | _ => exact (find_giveR hid _).1
theorem find_backH_none {w : Bool} {ρ : List (Nat × Nat)} {id : Nat} : ∀ {h : Heap}, (∀ j x, nameOf ρ j = some x → x ≠ id) → find (backH w ρ h) id = none
  | [], _ => rfl
  | (i, c) :: h, hne => by
    simp only [backH]
    split
    · rename_i y hy
      rw [find_cons, if_neg (hne i y hy)]
      exact find_backH_none hne
    · exact find_backH_none hne
/-- A call that may write nothing leaves the blocks that there are. -/
theorem callOn_old {C : Oracle} {h : Heap} {n f : Nat} {args : List AV} {mt : List Bool} (hp : placesOf args mt = []) {v : AV} {h' : Heap} {n' : Nat} (hr : callOn C h n f args mt = some (v, h', n')) {id : Nat} (hid : id < n) : find h' id = find h id := by
  unfold callOn at hr
  rw [hp] at hr
  simp only [reach_empty] at hr
  split at hr
  · cases hr
  · split at hr
    · cases hr
    · rename_i r h1 hC
      simp only [Option.some.injEq, Prod.mk.injEq] at hr
      obtain ⟨_, rfl, _⟩ := hr
      rw [find_give (by omega : id < n + h1.length)]
      rw [find_append, find_backH_none]
      · rfl
      · intro j x hj e
        obtain ⟨_, e2⟩ := nameOf_back hj
        simp at e2
        omega
theorem takeCell_same {h h' : Heap} {v x : AV} (hv : v.ids = []) (ht : takeCell h v = some (x, h')) : h' = h := by
  cases v <;> simp only [takeCell] at ht <;> first | (cases ht; done) | (simp only [Option.some.injEq, Prod.mk.injEq] at ht; exact ht.2.symm) | skip
  simp [AV.ids] at hv
theorem takeCells_same : ∀ {l xs : List AV} {h h' : Heap}, AV.idsL l = [] → takeCells h l = some (xs, h') → h' = h
  | [], xs, h, h', _, ht => by simp [takeCells] at ht; exact ht.2.symm
  | v :: l, xs, h, h', hv, ht => by
    simp only [AV.idsL, List.append_eq_nil_iff] at hv
    simp only [takeCells] at ht
    split at ht
    · rename_i x h1 hx
      split at ht
      · rename_i xs' h2 hxs
        simp only [Option.some.injEq, Prod.mk.injEq] at ht
        obtain ⟨_, rfl⟩ := ht
        rw [takeCells_same hv.2 hxs, takeCell_same hv.1 hx]
      · cases ht
    · cases ht
theorem takeRow_same {h h' : Heap} {sz : Nat} {v x : AV} (hv : v.ids = []) (ht : takeRow h sz v = some (x, h')) : h' = h := by
  unfold takeRow at ht
  split at ht
  · split at ht
    · split at ht
      · rename_i xs h1 hxs
        simp only [Option.some.injEq, Prod.mk.injEq] at ht
        obtain ⟨_, rfl⟩ := ht
        exact takeCells_same (by simpa [AV.ids] using hv) hxs
      · cases ht
    · cases ht
  · split at ht
    · exact takeCell_same hv ht
    · cases ht
theorem takeRows_same {t : Temps} {sz : Nat} : ∀ {ps : List (Nat × Opd)} {h h' : Heap} {rows rows' : List AV}, opdIds t (sndL ps) = [] → takeRows h sz rows (evParts t ps) = some (rows', h') → h' = h
  | [], h, h', rows, rows', _, ht => by simp [takeRows, evParts] at ht; exact ht.2.symm
  | (j, x) :: ps, h, h', rows, rows', hv, ht => by
    simp only [sndL, opdIds, List.append_eq_nil_iff] at hv
    simp only [takeRows, evParts] at ht
    split at ht
    · rename_i z h1 hz
      split at ht
      · rw [takeRows_same hv.2 ht, takeRow_same hv.1 hz]
      · cases ht
    · cases ht
/-- Operations of kind 1 leave the blocks that there are. -/
theorem kind1 {C : Oracle} {t : Temps} {h : Heap} {n : Nat} {op : SOp} (hk : opKind t op = 1) {v : AV} {h' : Heap} {n' : Nat} (hr : opRun C t h n op = some (v, h', n')) {id : Nat} (hid : id < n) : find h' id = find h id := by
  cases op <;> simp only [opKind] at hk <;> try (exfalso; simp at hk; done)
  case alloc z => simp only [opRun] at hr; obtain ⟨_, rfl, _⟩ := some3 hr; rw [find_cons, if_neg (by omega)]
  case box m x =>
    simp only [opRun] at hr
    split at hr
    · obtain ⟨_, rfl, _⟩ := some3 hr; rw [find_cons, if_neg (by omega)]
    · cases hr
  case bytes x =>
    simp only [opRun] at hr
    split at hr
    · split at hr
      · obtain ⟨_, rfl, _⟩ := some3 hr; rw [find_cons, if_neg (by omega)]
      · cases hr
    · cases hr
  case msl =>
    simp only [opRun] at hr
    split at hr
    · split at hr
      · obtain ⟨_, rfl, _⟩ := some3 hr; rw [find_cons, if_neg (by omega)]
      · cases hr
    · cases hr
  case bsl sz a z len ps =>
    split at hk
    · rename_i hp
      simp only [opRun] at hr
      split at hr
      · rename_i rows h1 ht
        obtain ⟨_, rfl, _⟩ := some3 hr
        rw [find_cons, if_neg (by omega), takeRows_same hp ht]
      · cases hr
    · cases hk
  case call f args mt =>
    split at hk
    · cases hk
    · rename_i hn
      split at hk
      · rename_i hp
        simp only [opRun, doCall] at hr
        rw [if_neg hn] at hr
        exact callOn_old hp hr hid
      · cases hk
  case callv x args mt =>
    simp only [opRun] at hr
    split at hr
    · rename_i f caps e
      rw [e] at hk
      simp only at hk
      split at hk
      · rename_i hp
        split at hr
        · exact callOn_old hp hr hid
        · cases hr
      · cases hk
    · cases hr
end Go.Am
/- THE ABSTRACT MACHINE (AM): a region in its listed order, step by step. No condition. -/
namespace Go.Am
set_option linter.unusedSimpArgs false
set_option linter.unusedVariables false

/-- What an operation did. -/
structure Ev where
  w : Bool
  v : AV
  fp : List Nat
  kd : Nat
  hh : Heap
  deriving Inhabited
def nextSt (n0 i : Nat) (st : St) (o : SOper) (e : Ev) : St :=
  { t := putT st.t o.dst e.v, h := match e.kd with
    | 0 => st.h
    | 1 => only [] (n0 + 64 * i) e.hh ++ st.h
    | _ => only e.fp (n0 + 64 * i) e.hh ++ delAll st.h e.fp, n := st.n }
def stF (n0 : Nat) (st : St) (o : Nat → SOper) (e : Nat → Ev) : Nat → St
  | 0 => st
  | i + 1 => nextSt n0 i (stF n0 st o e i) (o i) (e i)
def recsF (e : Nat → Ev) : Nat → List Rec
  | 0 => []
  | i + 1 => recsF e i ++ [((e i).fp, (e i).kd)]
theorem recsF_length (e : Nat → Ev) : ∀ i, (recsF e i).length = i
  | 0 => rfl
  | i + 1 => by simp [recsF, recsF_length e i]
theorem recsF_get (e : Nat → Ev) : ∀ {i j : Nat}, j < i → (recsF e i)[j]? = some ((e j).fp, (e j).kd)
  | i + 1, j, h => by
    simp only [recsF]
    by_cases hj : j < i
    · rw [List.getElem?_append_left (by rw [recsF_length]; exact hj)]; exact recsF_get e hj
    · have : j = i := by omega
      subst this
      rw [List.getElem?_append_right (by rw [recsF_length]; exact Nat.le_refl _), recsF_length]
      simp
theorem stF_congr {n0 : Nat} {st : St} {o : Nat → SOper} {e e' : Nat → Ev} : ∀ {i : Nat}, (∀ j, j < i → e j = e' j) → stF n0 st o e i = stF n0 st o e' i
  | 0, _ => rfl
  | i + 1, h => by simp only [stF]; rw [stF_congr fun j hj => h j (by omega), h i (by omega)]
theorem recsF_congr {e e' : Nat → Ev} : ∀ {i : Nat}, (∀ j, j < i → e j = e' j) → recsF e i = recsF e' i
  | 0, _ => rfl
  | i + 1, h => by simp only [recsF]; rw [recsF_congr fun j hj => h j (by omega), h i (by omega)]
/-- What the listed evaluation saw at an operation. -/
structure Good (C : Oracle) (n0 i : Nat) (recs : List Rec) (free : List Nat) (st : St) (o : SOper) (e : Ev) : Prop where
  want : wanted st.t o.guard = some e.w
  off : e.w = false → e.v = .tup [] ∧ e.kd = 0 ∧ e.fp = []
  on : e.w = true → e.kd = opKind st.t o.op ∧ recOk recs (e.fp, e.kd) free = true ∧ belowB (n0 + 64 * i) (opdIds st.t o.op.opds) = true ∧ belowB (n0 + 64 * i) (idsOf st.h e.fp) = true ∧ belowB (n0 + 64 * i) e.fp = true ∧ freshOk n0 e.fp free = true ∧
    ∃ n', opRun C st.t (keepH st.h e.fp) (n0 + 64 * i) o.op = some (e.v, e.hh, n') ∧ n' ≤ n0 + 64 * i + 64
theorem stepD_good {C : Oracle} {n0 : Nat} {recs : List Rec} {free : List Nat} {st st1 : St} {o : SOper} {r : Rec} (h : stepD C n0 recs free st o = some (st1, r)) : ∃ e : Ev, Good C n0 recs.length recs free st o e ∧ st1 = nextSt n0 recs.length st o e ∧ r = (e.fp, e.kd) := by
  unfold stepD at h
  split at h
  · cases h
  · rename_i hw
    simp only [Option.some.injEq, Prod.mk.injEq] at h
    obtain ⟨rfl, rfl⟩ := h
    exact ⟨⟨false, .tup [], [], 0, []⟩, ⟨hw, fun _ => ⟨rfl, rfl, rfl⟩, fun h => by cases h⟩, rfl, rfl⟩
  · rename_i hw
    simp only at h
    split at h
    · rename_i hc
      split at h
      · rename_i v h' n' hr
        split at h
        · rename_i hn
          simp only [Option.some.injEq, Prod.mk.injEq] at h
          obtain ⟨rfl, rfl⟩ := h
          exact ⟨⟨true, v, _, _, h'⟩, ⟨hw, fun h => (by cases h), fun _ => ⟨rfl, hc.1, hc.2.1, hc.2.2.1, hc.2.2.2.1, hc.2.2.2.2, n', hr, hn⟩⟩, rfl, rfl⟩
        · cases h
      · cases h
    · cases h
theorem drop_get {α : Type} {l : List α} {k : Nat} {x : α} {r : List α} (h : l.drop k = x :: r) : l[k]? = some x ∧ l.drop (k + 1) = r := by
  refine ⟨?_, ?_⟩
  · have := congrArg (·[0]?) h
    simpa using this
  · rw [← List.drop_drop, h]; rfl
theorem headD_drop {α : Type} (l : List α) (k : Nat) (d : α) : (l.drop k).headD d = l.getD k d := by
  rw [List.headD_eq_head?_getD, List.head?_drop, List.getD_eq_getElem?_getD]
theorem runD_good {C : Oracle} {n0 : Nat} {l : List SOper} {fr : List (List Nat)} {st st' : St} (h : runD C n0 l fr [] st = some st') : ∃ e : Nat → Ev,
    (∀ i, i < l.length → Good C n0 i (recsF e i) (fr.getD i []) (stF n0 st (fun i => l.getD i default) e i) (l.getD i default) (e i)) ∧ st' = { stF n0 st (fun i => l.getD i default) e l.length with n := n0 + 64 * l.length } := by
  have key : ∀ k, k ≤ l.length → ∃ e : Nat → Ev, (∀ i, i < k → Good C n0 i (recsF e i) (fr.getD i []) (stF n0 st (fun i => l.getD i default) e i) (l.getD i default) (e i)) ∧
      runD C n0 (l.drop k) (fr.drop k) (recsF e k) (stF n0 st (fun i => l.getD i default) e k) = some st' := by
    intro k
    induction k with
    | zero => intro _; exact ⟨fun _ => default, fun i hi => by omega, by simpa [recsF, stF] using h⟩
    | succ k ih =>
      intro hk
      obtain ⟨e, h1, h2⟩ := ih (by omega)
      obtain ⟨o, r, hd⟩ : ∃ o r, l.drop k = o :: r := ⟨l[k], l.drop (k + 1), List.drop_eq_getElem_cons (by omega)⟩
      obtain ⟨hg, hr⟩ := drop_get hd
      have ho : l.getD k default = o := by rw [List.getD_eq_getElem?_getD, hg]; rfl
      rw [hd] at h2
      simp only [runD] at h2
      split at h2
      · rename_i st1 rc hs
        obtain ⟨ev, hgood, rfl, rfl⟩ := stepD_good hs
        rw [recsF_length] at hgood
        rw [recsF_length] at h2
        let e' : Nat → Ev := fun i => if i = k then ev else e i
        have hlt : ∀ j, j < k → e j = e' j := fun j hj => by simp [e', show j ≠ k by omega]
        have hek : e' k = ev := by simp [e']
        refine ⟨e', fun i hi => ?_, ?_⟩
        · by_cases hik : i = k
          · subst hik
            rw [← recsF_congr hlt, ← stF_congr hlt, hek, ho, ← headD_drop]
            exact hgood
          · have hi' : i < k := by omega
            have := h1 i hi'
            rw [recsF_congr (e' := e') fun j hj => hlt j (by omega), stF_congr (e' := e') fun j hj => hlt j (by omega), hlt i hi'] at this
            exact this
        · rw [hr]
          simp only [recsF, stF, hek, ← recsF_congr hlt, ← stF_congr hlt, ho]
          have ht : (fr.drop k).tail = fr.drop (k + 1) := by rw [List.tail_drop]
          rw [← ht]
          exact h2
      · cases h2
  obtain ⟨e, h1, h2⟩ := key l.length (Nat.le_refl _)
  rw [List.drop_length] at h2
  simp only [runD, Option.some.injEq, recsF_length] at h2
  exact ⟨e, h1, h2.symm⟩
end Go.Am
/- THE ABSTRACT MACHINE (AM): temporaries and blocks behind some of a region's operations. No condition. -/
namespace Go.Am
set_option linter.unusedSimpArgs false
set_option linter.unusedVariables false

def TT (t0 : Temps) (o : Nat → SOper) (e : Nat → Ev) (S : Nat → Bool) : Nat → Nat → AV
  | 0, x => get t0 x
  | k + 1, x => if S k = true ∧ (o k).dst = some x then (e k).v else TT t0 o e S k x
def newR (n0 i id : Nat) : Prop := n0 + 64 * i ≤ id ∧ id < n0 + 64 * i + 64
instance {n0 i id : Nat} : Decidable (newR n0 i id) := by unfold newR; infer_instance
/-- Does an operation decide on a block? -/
def touch (n0 : Nat) (e : Nat → Ev) (i id : Nat) : Prop := match (e i).kd with
  | 0 => False
  | 1 => newR n0 i id
  | _ => id ∈ (e i).fp ∨ newR n0 i id
instance {n0 : Nat} {e : Nat → Ev} {i id : Nat} : Decidable (touch n0 e i id) := by unfold touch; split <;> infer_instance
def HH (h0 : Heap) (n0 : Nat) (e : Nat → Ev) (S : Nat → Bool) : Nat → Nat → Option Blk
  | 0, id => find h0 id
  | k + 1, id => if S k = true ∧ touch n0 e k id then find (e k).hh id else HH h0 n0 e S k id
theorem get_putT (t : Temps) (d : Option Nat) (v : AV) (x : Nat) : get (putT t d v) x = if d = some x then v else get t x := by
  cases d with
  | none => simp [putT]
  | some d => simp only [putT, get, Option.some.injEq]
theorem belowB_mem {b : Nat} : ∀ {l : List Nat}, belowB b l = true → ∀ x ∈ l, x < b
  | [], _ => by simp
  | y :: l, h => by
    simp [belowB] at h
    intro x hx
    rcases List.mem_cons.1 hx with rfl | hx
    · exact h.1
    · exact belowB_mem h.2 x hx
theorem find_only {fp : List Nat} {b id : Nat} : ∀ {h : Heap}, find (only fp b h) id = if id ∈ fp ∨ (b ≤ id ∧ id < b + 64) then find h id else none
  | [] => by simp [only, find]
  | (i, x) :: h => by
    have ih := find_only (fp := fp) (b := b) (id := id) (h := h)
    simp only [only]
    split
    · rename_i hc
      simp only [find]
      split
      · rename_i e
        subst e
        have : i ∈ fp ∨ (b ≤ i ∧ i < b + 64) := by
          simp only [Bool.or_eq_true, Bool.and_eq_true, decide_eq_true_eq, mem_iff] at hc
          exact hc
        rw [if_pos this]
      · exact ih
    · rename_i hc
      rw [ih]
      simp only [find]
      by_cases e : i = id
      · subst e
        have : ¬ (i ∈ fp ∨ (b ≤ i ∧ i < b + 64)) := by
          intro hh
          apply hc
          simp only [Bool.or_eq_true, Bool.and_eq_true, decide_eq_true_eq, mem_iff]
          exact hh
        rw [if_neg this, if_neg this]
      · rw [if_neg e]
section
variable {C : Oracle} {n0 m : Nat} {st : St} {o : Nat → SOper} {e : Nat → Ev} {free : Nat → List Nat}
/-- All that the listed evaluation saw. -/
structure Facts (C : Oracle) (n0 m : Nat) (st : St) (o : Nat → SOper) (e : Nat → Ev) (free : Nat → List Nat) : Prop where
  good : ∀ i, i < m → Good C n0 i (recsF e i) (free i) (stF n0 st o e i) (o i) (e i)
  low : ∀ id b, find st.h id = some b → id < n0
theorem Facts.fpLow (X : Facts C n0 m st o e free) {i : Nat} (hi : i < m) : ∀ x ∈ (e i).fp, x < n0 + 64 * i := by
  intro x hx
  have g := X.good i hi
  cases hw : (e i).w with
  | false => rw [(g.off hw).2.2] at hx; simp at hx
  | true => exact belowB_mem (g.on hw).2.2.2.2.1 x hx
theorem stF_low (X : Facts C n0 m st o e free) : ∀ {k : Nat}, k ≤ m → ∀ id b, find (stF n0 st o e k).h id = some b → id < n0 + 64 * k
  | 0, _, id, b, h => by have := X.low id b h; omega
  | k + 1, hk, id, b, h => by
    have ih := stF_low X (k := k) (by omega)
    simp only [stF, nextSt] at h
    split at h
    · have := ih id b h; omega
    · rw [find_append] at h
      split at h
      · rename_i b' hb
        rw [find_only] at hb
        split at hb
        · rename_i hc; simp at hc; omega
        · cases hb
      · have := ih id b h; omega
    · rw [find_append] at h
      split at h
      · rename_i b' hb
        rw [find_only] at hb
        split at hb
        · rename_i hc
          rcases hc with hc | hc
          · have := X.fpLow (i := k) (by omega) id hc; omega
          · omega
        · cases hb
      · rw [find_delAll] at h
        split at h
        · cases h
        · have := ih id b h; omega
theorem stF_TT : ∀ {k : Nat} {x : Nat}, get (stF n0 st o e k).t x = TT st.t o e (fun _ => true) k x
  | 0, x => rfl
  | k + 1, x => by
    simp only [stF, nextSt, get_putT, TT, true_and]
    rw [stF_TT]
theorem stF_HH (X : Facts C n0 m st o e free) : ∀ {k : Nat}, k ≤ m → ∀ id, find (stF n0 st o e k).h id = HH st.h n0 e (fun _ => true) k id
  | 0, _, id => rfl
  | k + 1, hk, id => by
    have ih := stF_HH X (k := k) (by omega)
    have hlow : newR n0 k id → find (stF n0 st o e k).h id = none := fun hn => by
      cases hq : find (stF n0 st o e k).h id with
      | none => rfl
      | some b => have := stF_low X (k := k) (by omega) id b hq; unfold newR at hn; omega
    have hnr : newR n0 k id ↔ (n0 + 64 * k ≤ id ∧ id < n0 + 64 * k + 64) := Iff.rfl
    match hkd : (e k).kd with
    | 0 =>
      have ht : ¬ touch n0 e k id := by unfold touch; rw [hkd]; exact fun h => h
      simp only [stF, nextSt, HH, hkd, ht, and_false, if_false]
      exact ih id
    | 1 =>
      have ht : touch n0 e k id ↔ newR n0 k id := by unfold touch; rw [hkd]; exact Iff.rfl
      simp only [stF, nextSt, HH, hkd, true_and]
      rw [find_append, find_only]
      by_cases hn : newR n0 k id
      · rw [if_pos (ht.2 hn), if_pos (.inr (hnr.1 hn)), hlow hn]
        cases find (e k).hh id <;> rfl
      · rw [if_neg (fun h => hn (ht.1 h)), if_neg (fun h => h.elim (by simp) fun h => hn (hnr.2 h))]
        exact ih id
    | q + 2 =>
      have ht : touch n0 e k id ↔ id ∈ (e k).fp ∨ newR n0 k id := by unfold touch; rw [hkd]; exact Iff.rfl
      simp only [stF, nextSt, HH, hkd, true_and]
      rw [find_append, find_only, find_delAll]
      by_cases hfp : id ∈ (e k).fp
      · rw [if_pos (.inl hfp), if_pos (ht.2 (.inl hfp)), if_pos hfp]
        cases find (e k).hh id <;> rfl
      · by_cases hn : newR n0 k id
        · rw [if_pos (.inr (hnr.1 hn)), if_pos (ht.2 (.inr hn)), if_neg hfp, hlow hn]
          cases find (e k).hh id <;> rfl
        · rw [if_neg (fun h => h.elim hfp fun h => hn (hnr.2 h)), if_neg (fun h => (ht.1 h).elim hfp hn), if_neg hfp]
          exact ih id
end
end Go.Am
/- THE ABSTRACT MACHINE (AM): an operation that comes out of its listed turn sees what it saw there. No condition. -/
namespace Go.Am
set_option linter.unusedSimpArgs false
set_option linter.unusedVariables false

section
variable {C : Oracle} {n0 m : Nat} {st : St} {o : Nat → SOper} {e : Nat → Ev} {free : Nat → List Nat} {S : Nat → Bool}
theorem TT_eq {j x : Nat} (hlt : ∀ i, i < j → S i = false → (o i).dst ≠ some x) : ∀ {k : Nat}, k ≤ j → TT st.t o e S k x = TT st.t o e (fun _ => true) k x
  | 0, _ => rfl
  | k + 1, hk => by
    simp only [TT, true_and]
    rw [TT_eq hlt (k := k) (by omega)]
    cases hs : S k with
    | true => simp
    | false => rw [if_neg (by simp), if_neg (hlt k (by omega) hs)]
theorem TT_beyond {j x : Nat} (hge : ∀ i, j ≤ i → S i = true → (o i).dst ≠ some x) : ∀ {k : Nat}, j ≤ k → TT st.t o e S k x = TT st.t o e S j x
  | 0, h => by rw [show j = 0 by omega]
  | k + 1, h => by
    by_cases hj : j = k + 1
    · rw [hj]
    · simp only [TT]
      rw [if_neg (fun hc => hge k (by omega) hc.1 hc.2)]
      exact TT_beyond hge (by omega)
theorem HH_eq {j id : Nat} (hlt : ∀ i, i < j → S i = false → ¬ touch n0 e i id) : ∀ {k : Nat}, k ≤ j → HH st.h n0 e S k id = HH st.h n0 e (fun _ => true) k id
  | 0, _ => rfl
  | k + 1, hk => by
    simp only [HH, true_and]
    rw [HH_eq hlt (k := k) (by omega)]
    cases hs : S k with
    | true => simp
    | false => rw [if_neg (by simp), if_neg (hlt k (by omega) hs)]
theorem HH_beyond {j id : Nat} (hge : ∀ i, j ≤ i → S i = true → ¬ touch n0 e i id) : ∀ {k : Nat}, j ≤ k → HH st.h n0 e S k id = HH st.h n0 e S j id
  | 0, h => by rw [show j = 0 by omega]
  | k + 1, h => by
    by_cases hj : j = k + 1
    · rw [hj]
    · simp only [HH]
      rw [if_neg (fun hc => hge k (by omega) hc.1 hc.2)]
      exact HH_beyond hge (by omega)
/-- One operation more. -/
def with1 (S : Nat → Bool) (j : Nat) : Nat → Bool := fun i => if i = j then true else S i
theorem with1_self (S : Nat → Bool) (j : Nat) : with1 S j j = true := by simp [with1]
theorem with1_other {S : Nat → Bool} {i j : Nat} (h : i ≠ j) : with1 S j i = S i := by simp [with1, h]
theorem TT_with {j x : Nat} : ∀ {k : Nat}, k ≤ j → TT st.t o e (with1 S j) k x = TT st.t o e S k x
  | 0, _ => rfl
  | k + 1, hk => by simp only [TT]; rw [with1_other (by omega), TT_with (by omega)]
theorem HH_with {j id : Nat} : ∀ {k : Nat}, k ≤ j → HH st.h n0 e (with1 S j) k id = HH st.h n0 e S k id
  | 0, _ => rfl
  | k + 1, hk => by simp only [HH]; rw [with1_other (by omega), HH_with (by omega)]
/-- What j writes comes last where no later operation of S writes there. -/
theorem TT_step {j x : Nat} (hap : ∀ i, j < i → S i = true → ∀ d, (o i).dst = some d → (o j).dst ≠ some d) : ∀ {k : Nat}, j < k → TT st.t o e (with1 S j) k x = if (o j).dst = some x then (e j).v else TT st.t o e S k x
  | k + 1, h => by
    simp only [TT]
    by_cases hj : j = k
    · subst hj
      rw [with1_self, TT_with (Nat.le_refl _)]
      by_cases hd : (o j).dst = some x
      · simp [hd]
      · simp [hd]
    · rw [with1_other (fun h => hj h.symm), TT_step hap (k := k) (by omega)]
      by_cases hc : S k = true ∧ (o k).dst = some x
      · rw [if_pos hc, if_pos hc, if_neg (hap k (by omega) hc.1 x hc.2)]
      · rw [if_neg hc, if_neg hc]
theorem HH_step {j id : Nat} (hS : S j = false) (hap : ∀ i, j < i → S i = true → touch n0 e i id → ¬ touch n0 e j id) : ∀ {k : Nat}, j < k → HH st.h n0 e (with1 S j) k id = if touch n0 e j id then find (e j).hh id else HH st.h n0 e S k id
  | k + 1, h => by
    simp only [HH]
    by_cases hj : j = k
    · subst hj
      rw [with1_self, HH_with (Nat.le_refl _), hS]
      by_cases hd : touch n0 e j id
      · simp [hd]
      · simp [hd]
    · rw [with1_other (fun h => hj h.symm), HH_step hS hap (k := k) (by omega)]
      by_cases hc : S k = true ∧ touch n0 e k id
      · rw [if_pos hc, if_pos hc, if_neg (hap k (by omega) hc.1 hc.2)]
      · rw [if_neg hc, if_neg hc]
/-! ### What is free of what -/
theorem tmpsOf_mem : ∀ {l : List Opd} {i : Nat}, Opd.t i ∈ l → i ∈ tmpsOf l
  | .t j :: l, i, h => by
    simp only [tmpsOf, List.mem_cons]
    rcases List.mem_cons.1 h with h | h
    · cases h; exact .inl rfl
    · exact .inr (tmpsOf_mem h)
  | .c v :: l, i, h => by
    simp only [tmpsOf]
    rcases List.mem_cons.1 h with h | h
    · cases h
    · exact tmpsOf_mem h
theorem apartS_spec {x y : SOper} (h : apartS x y = true) : (∀ d, x.dst = some d → d ∉ looksS y) ∧ (∀ d, y.dst = some d → d ∉ looksS x) ∧ ∀ d, x.dst = some d → y.dst ≠ some d := by
  unfold apartS at h
  simp only [Bool.and_eq_true] at h
  obtain ⟨⟨h1, h2⟩, h3⟩ := h
  have ni : ∀ {d : Option Nat} {l : List Nat}, notIn d l = true → ∀ q, d = some q → q ∉ l := by
    rintro d l hn q rfl hq
    simp only [notIn, Bool.not_eq_true'] at hn
    rw [mem_iff.2 hq] at hn; cases hn
  refine ⟨ni h1, ni h2, fun d hd he => ?_⟩
  rw [hd, he] at h3
  simp at h3
theorem apartB_spec : ∀ {a b : List Nat}, apartB a b = true → ∀ x ∈ b, x ∉ a
  | a, [], _ => by simp
  | a, y :: b, h => by
    simp only [apartB, Bool.and_eq_true, Bool.not_eq_true'] at h
    intro x hx hxa
    rcases List.mem_cons.1 hx with rfl | hx
    · rw [mem_iff.2 hxa] at h; cases h.1
    · exact apartB_spec h.2 x hx hxa
theorem recOk_spec {recs : List Rec} {r : Rec} : ∀ {l : List Nat}, recOk recs r l = true → ∀ i ∈ l, ∀ q, recs[i]? = some q → (q.2 = 2 ∨ r.2 = 2) → ∀ x ∈ r.1, x ∉ q.1
  | [], _ => by simp
  | j :: l, h => by
    simp only [recOk, Bool.and_eq_true] at h
    intro i hi q hq hk
    rcases List.mem_cons.1 hi with rfl | hi
    · have h1 := h.1
      rw [hq] at h1
      simp only at h1
      split at h1
      · exact apartB_spec h1
      · rename_i h2
        split at h1
        · exact apartB_spec h1
        · rename_i h3; exact absurd hk (fun hk => hk.elim h2 h3)
    · exact recOk_spec h.2 i hi q hq hk
theorem freshOk_spec {n0 : Nat} {fp : List Nat} : ∀ {l : List Nat}, freshOk n0 fp l = true → ∀ i ∈ l, ∀ x ∈ fp, ¬ newR n0 i x
  | [], _ => by simp
  | j :: l, h => by
    simp only [freshOk, Bool.and_eq_true, List.all_eq_true, Bool.or_eq_true, decide_eq_true_eq] at h
    intro i hi x hx hn
    rcases List.mem_cons.1 hi with rfl | hi
    · have := h.1 x hx
      unfold newR at hn; omega
    · exact freshOk_spec h.2 i hi x hx hn
end
end Go.Am
/- THE ABSTRACT MACHINE (AM): a part of the heap and of the temporaries. No condition. -/
namespace Go.Am
set_option linter.unusedSimpArgs false
set_option linter.unusedVariables false

def lowPl (μ : Place) (b : Nat) : Place := fun id p => if id < b then μ id p else none
theorem lowPl_some {μ : Place} {b id : Nat} {p : Option (Nat × Nat)} {L : Loc} (h : lowPl μ b id p = some L) : id < b ∧ μ id p = some L := by
  unfold lowPl at h
  split at h
  · rename_i hb; exact ⟨hb, h⟩
  · cases h
theorem lowPl_of {μ : Place} {b id : Nat} {p : Option (Nat × Nat)} (h : id < b) : lowPl μ b id p = μ id p := by simp [lowPl, h]
section
variable {W : World} {F Fr : Nat → Prop} {μ : Place}
theorem RL.lows {b : Nat} {l : List AV} {cs : List Value} {o : List Nat} (h : RL W F Fr μ l cs o) : (∀ x ∈ AV.idsL l, x < b) → RL W F Fr (lowPl μ b) l cs o := by
  have tl : ∀ {v : AV} {l : List AV}, (∀ x ∈ AV.idsL (v :: l), x < b) → ∀ x ∈ AV.idsL l, x < b := fun h x hx => h x (by simp [AV.idsL, hx])
  induction h with
  | nil => intros; exact .nil
  | i _ ih => intro d; exact .i (ih (tl d))
  | b _ ih => intro d; exact .b (ih (tl d))
  | s _ ih => intro d; exact .s (ih (tl d))
  | junk c hc _ ih => intro d; exact .junk c hc (ih (tl d))
  | niL _ ih => intro d; exact .niL (ih (tl d))
  | emp A _ ih => intro d; exact .emp A (ih (tl d))
  | nilp _ ih => intro d; exact .nilp (ih (tl d))
  | nilf _ ih => intro d; exact .nilf (ih (tl d))
  | nilm _ ih => intro d; exact .nilm (ih (tl d))
  | agg hone _ _ ih1 ih2 => intro d; exact .agg hone (ih1 fun x hx => d x (by simp [AV.idsL, AV.ids, hx])) (ih2 (tl d))
  | sl0 sz w A c _ ih => intro d; exact .sl0 sz w A c (ih (tl d))
  | sl1 sz w l g o0 c G cs1 o1 hl hG hc hu hg ho1 hcell h h' ih1 ih2 => intro d; exact .sl1 sz w l g o0 c G cs1 o1 hl hG hc hu hg ho1 hcell h (ih2 (tl d))
  | un0 sz A _ ih => intro d; exact .un0 sz A (ih (tl d))
  | un1 sz l g o0 c cs1 o1 h0 hc hu hcell hopen h _ ih1 ih2 => intro d; exact .un1 sz l g o0 c cs1 o1 h0 hc hu hcell hopen h (ih2 (tl d))
  | ref id p off len cap ex L A c hμ hl hcap hex hfit hA _ ih =>
    intro d
    exact .ref id p off len cap ex L A c (by rw [lowPl_of (d id (by simp [AV.idsL, AV.ids]))]; exact hμ) hl hcap hex hfit hA (ih (tl d))
  | ptr id p r c L hμ _ ih =>
    intro d
    exact .ptr id p r c L (by rw [lowPl_of (d id (by simp [AV.idsL, AV.ids]))]; exact hμ) (ih (tl d))
  | rp row c g o0 cs1 hg hcell h _ ih1 ih2 => intro d; exact .rp row c g o0 cs1 hg hcell h (ih2 (tl d))
  | fn f caps capsv _ _ ih1 ih2 => intro d; exact .fn f caps capsv (ih1 fun x hx => d x (by simp [AV.idsL, AV.ids, hx])) (ih2 (tl d))
  | map id L hμ _ ih =>
    intro d
    exact .map id L (by rw [lowPl_of (d id (by simp [AV.idsL, AV.ids]))]; exact hμ) (ih (tl d))
theorem RV1.lows {b : Nat} {v : AV} {c : Value} (h : RV1 W F Fr μ v c) (hb : ∀ x ∈ v.ids, x < b) : RV1 W F Fr (lowPl μ b) v c := by
  have hb' : ∀ x ∈ AV.idsL [v], x < b := fun x hx => hb x (by simpa [AV.idsL] using hx)
  cases v with
  | junk => trivial
  | agg l => obtain ⟨cs, rfl, hr⟩ := h; exact ⟨cs, rfl, hr.lows hb'⟩
  | _ => exact RL.lows h hb'
theorem idsL_mem : ∀ {l : List AV} {v : AV}, v ∈ l → ∀ x ∈ v.ids, x ∈ AV.idsL l
  | y :: l, v, hv, x, hx => by
    simp only [AV.idsL, List.mem_append]
    rcases List.mem_cons.1 hv with rfl | hv
    · exact .inl hx
    · exact .inr (idsL_mem hv x hx)
theorem RV.lows {b : Nat} {v : AV} {c : Value} (h : RV W F Fr μ v c) (hb : ∀ x ∈ v.ids, x < b) : RV W F Fr (lowPl μ b) v c := by
  by_cases ht : ∃ l, v = .tup l
  · obtain ⟨l, rfl⟩ := ht
    obtain ⟨vs, rfl, h1, h2⟩ := h
    exact ⟨vs, rfl, h1, fun j x hj => let ⟨c, hc, hr⟩ := h2 j x hj; ⟨c, hc, hr.lows fun y hy => hb y (by simp only [AV.ids]; exact idsL_mem (List.mem_of_getElem? hj) y hy)⟩⟩
  · have h1 : RV1 W F Fr μ v c := by rw [RV.eq1 (fun l e => ht ⟨l, e⟩)] at h; exact h
    exact (h1.lows hb).rv
theorem find_keepH {h : Heap} {id : Nat} : ∀ {fp : List Nat}, find (keepH h fp) id = if id ∈ fp then find h id else none
  | [] => by simp [keepH, find]
  | x :: l => by
    have ih := find_keepH (h := h) (id := id) (fp := l)
    simp only [keepH]
    split
    · rename_i b hb
      simp only [find]
      split
      · rename_i e; subst e; simp [hb]
      · rename_i e
        rw [ih]
        have : ¬ id = x := fun h => e h.symm
        simp [this]
    · rename_i hb
      rw [ih]
      by_cases e : id = x
      · subst e; simp [hb]
      · simp [e]
theorem keepH_congr {h h' : Heap} : ∀ {fp : List Nat}, (∀ id ∈ fp, find h id = find h' id) → keepH h fp = keepH h' fp
  | [], _ => rfl
  | x :: l, hh => by
    simp only [keepH]
    rw [hh x (by simp), keepH_congr fun id hid => hh id (by simp [hid])]
theorem idsOf_mem {h : Heap} : ∀ {fp : List Nat} {id : Nat} {b : Blk}, id ∈ fp → find h id = some b → ∀ x ∈ b.ids, x ∈ idsOf h fp
  | y :: l, id, b, hm, hf, x, hx => by
    simp only [idsOf]
    rcases List.mem_cons.1 hm with rfl | hm
    · rw [hf]; simp [hx]
    · split
      · exact List.mem_append_right _ (idsOf_mem hm hf x hx)
      · exact idsOf_mem hm hf x hx
theorem HInv.low {h : Heap} {own : Nat → List Nat} {n : Nat} (H : HInv W F Fr μ h own n) {fp : List Nat} {b : Nat} (h1 : ∀ x ∈ fp, x < b) (h2 : ∀ x ∈ idsOf h fp, x < b) : HInv W F Fr (lowPl μ b) (keepH h fp) own b := by
  have hf : ∀ id q, find (keepH h fp) id = some q → id ∈ fp ∧ find h id = some q := by
    intro id q hq
    rw [find_keepH] at hq
    split at hq
    · rename_i hm; exact ⟨hm, hq⟩
    · cases hq
  constructor
  · intro id q hq
    obtain ⟨hm, hq⟩ := hf id q hq
    have hb := H.blk id q hq
    have hlt := h1 id hm
    cases q with
    | box cs =>
      obtain ⟨L, csv, q1, q2, q3, q4, q5, q6⟩ := hb
      exact ⟨L, csv, by rw [lowPl_of hlt]; exact q1, q2, q3.lows fun x hx => h2 x (idsOf_mem hm hq x hx), q4, q5, q6⟩
    | arr sz rows =>
      obtain ⟨L, csv, o1, q1, q2, q3, q4, q5, q6, q7, q8, q9, q10⟩ := hb
      exact ⟨L, csv, o1, by rw [lowPl_of hlt]; exact q1, q2, q3, q4, q5, q6, q7, q8, q9, fun r c row sz' l e1 e2 => by rw [lowPl_of hlt]; exact q10 r c row sz' l e1 e2⟩
    | mp es => exact hb.elim
  · intro id q hq; exact H.nd id q (hf id q hq).2
  · intro id id' q q' hq hq'; exact H.dis id id' q q' (hf id q hq).2 (hf id' q' hq').2
  · intro id q hq; exact H.out id q (hf id q hq).2
  · intro id q hq; exact h1 id (hf id q hq).1
  · intro id p L hl; exact (lowPl_some hl).1
  · exact H.fr
  · exact H.fsz
/-- Some of the temporaries. -/
def subT (t : Temps) : List Nat → Temps
  | [] => []
  | i :: l => (i, get t i) :: subT t l
theorem get_subT {t : Temps} {x : Nat} : ∀ {l : List Nat}, get (subT t l) x = if x ∈ l then get t x else .junk
  | [] => by simp [subT, get]
  | i :: l => by
    simp only [subT, get]
    split
    · rename_i e; subst e; simp
    · rename_i e
      rw [get_subT]
      have : ¬ x = i := fun h => e h.symm
      simp [this]
end
end Go.Am
/- THE ABSTRACT MACHINE (AM): one operation of a region that may come in several orders. No condition. -/
namespace Go.Am
set_option linter.unusedSimpArgs false
set_option linter.unusedVariables false

/-- What holds behind some of a region's operations. -/
structure SD (X : Ctx) (nt : Nat) (st : St) (o : Nat → SOper) (e : Nat → Ev) (n0 m : Nat) (S : Nat → Bool) (a : Act) (W : World) (μ : Place) (own : Nat → List Nat) (h : Heap) (t : Temps) : Prop where
  H : Holds X nt { t := t, h := h, n := n0 + 64 * m } a W μ own
  tt : ∀ x, get t x = TT st.t o e S m x
  hh : ∀ id, find h id = HH st.h n0 e S m id
  rg : ∀ id p L, μ id p = some L → id < n0 ∨ ∃ i, i < m ∧ S i = true ∧ newR n0 i id
def SDx (X : Ctx) (nt : Nat) (st : St) (o : Nat → SOper) (e : Nat → Ev) (n0 m : Nat) (S : Nat → Bool) (a : Act) (W : World) : Prop := ∃ μ own h t, SD X nt st o e n0 m S a W μ own h t
theorem opdIds_mem {t : Temps} : ∀ {l : List Opd} {x : Opd}, x ∈ l → ∀ y ∈ (x.ev t).ids, y ∈ opdIds t l
  | z :: l, x, hx, y, hy => by
    simp only [opdIds, List.mem_append]
    rcases List.mem_cons.1 hx with rfl | hx
    · exact .inl hy
    · exact .inr (opdIds_mem hx y hy)
section
variable {X : Ctx} {nt : Nat} {C : Oracle} {n0 m : Nat} {st : St} {o : Nat → SOper} {e : Nat → Ev} {free : Nat → List Nat} {S : Nat → Bool}
theorem opKind_le (t : Temps) (op : SOp) : opKind t op ≤ 2 := by
  cases op <;> simp only [opKind] <;> first
    | omega
    | (split <;> omega)
    | (split <;> first | omega | (split <;> omega))
theorem kd_le (Fx : Facts C n0 m st o e free) {i : Nat} (hi : i < m) : (e i).kd ≤ 2 := by
  have g := Fx.good i hi
  cases hw : (e i).w with
  | false => rw [(g.off hw).2.1]; omega
  | true => rw [(g.on hw).1]; exact opKind_le _ _
/-- What the operation finds is what it found in its listed turn. -/
theorem draw_same (Fx : Facts C n0 m st o e free) (hap : ∀ j i, j < m → i ∈ free j → i < j ∧ apartS (o i) (o j) = true) {j : Nat} (hj : j < m) (hSj : S j = false) (hD1 : ∀ i, i < j → S i = false → i ∈ free j) (hD2 : ∀ i, j < i → i < m → S i = true → j ∈ free i) (hSm : ∀ i, S i = true → i < m) :
    (∀ x ∈ looksS (o j), TT st.t o e S m x = get (stF n0 st o e j).t x) ∧ ((e j).w = true → ∀ id ∈ (e j).fp, HH st.h n0 e S m id = find (stF n0 st o e j).h id) := by
  constructor
  · intro x hx
    rw [stF_TT, TT_beyond (j := j) (k := m) ?_ (by omega), TT_eq ?_ (Nat.le_refl j)]
    · intro i hi hs hd
      exact (apartS_spec (hap j i hj (hD1 i hi hs)).2).1 x hd hx
    · intro i hi hs hd
      have hij : i ≠ j := fun h => by rw [h, hSj] at hs; cases hs
      have := hap i j (hSm i hs) (hD2 i (by omega) (hSm i hs) hs)
      exact (apartS_spec this.2).2.1 x hd hx
  · intro hw id hid
    have g := (Fx.good j hj).on hw
    have hlow := Fx.fpLow hj id hid
    rw [stF_HH Fx (by omega : j ≤ m), HH_beyond (j := j) (k := m) ?_ (by omega), HH_eq ?_ (Nat.le_refl j)]
    · intro i hi hs ht
      have hfr := hD1 i hi hs
      unfold touch at ht
      split at ht
      · exact ht
      · exact freshOk_spec g.2.2.2.2.2.1 i hfr id hid ht
      · rename_i h0 h1
        rcases ht with ht | ht
        · have hk2 : (e i).kd = 2 := by have := kd_le Fx (i := i) (by omega); have a0 : (e i).kd ≠ 0 := h0; have a1 : (e i).kd ≠ 1 := h1; omega
          exact recOk_spec g.2.1 i hfr _ (recsF_get e hi) (.inl hk2) id hid ht
        · exact freshOk_spec g.2.2.2.2.2.1 i hfr id hid ht
    · intro i hi hs ht
      have hij : i ≠ j := fun h => by rw [h, hSj] at hs; cases hs
      have him := hSm i hs
      have hfr := hD2 i (by omega) him hs
      have hnn : ¬ newR n0 i id := fun hn => by unfold newR at hn; omega
      unfold touch at ht
      split at ht
      · exact ht
      · exact hnn ht
      · rename_i h0 h1
        rcases ht with ht | ht
        · have hk2 : (e i).kd = 2 := by have := kd_le Fx him; have a0 : (e i).kd ≠ 0 := h0; have a1 : (e i).kd ≠ 1 := h1; omega
          have hwi : (e i).w = true := by
            cases hq : (e i).w with
            | true => rfl
            | false => rw [((Fx.good i him).off hq).2.2] at ht; simp at ht
          have gi := (Fx.good i him).on hwi
          exact recOk_spec gi.2.1 j hfr _ (recsF_get e (by omega)) (.inr hk2) id ht hid
        · exact hnn ht
end
end Go.Am
/- THE ABSTRACT MACHINE (AM): one operation of a region that may come in several orders: the step. No condition. -/
namespace Go.Am
set_option linter.unusedSimpArgs false
set_option linter.unusedVariables false
section
variable {X : Ctx} {nt : Nat} {C : Oracle} {n0 m : Nat} {st : St} {o : Nat → SOper} {e : Nat → Ev} {free : Nat → List Nat} {S : Nat → Bool}
theorem with1_of {S : Nat → Bool} {i j : Nat} (h : S i = true) : with1 S j i = true := by
  unfold with1; split <;> simp [h]
theorem Holds.putT {t : Temps} {h : Heap} {n : Nat} {a : Act} {W : World} {μ : Place} {own : Nat → List Nat} (H : Holds X nt { t := t, h := h, n := n } a W μ own) {dst : Option Nat} (hd : dstOk nt dst = true) {v : AV} {cv : Value} (hv : RV W X.F X.Fr μ v cv) :
    Holds X nt { t := Am.putT t dst v, h := h, n := n } (a.put dst cv) W μ own := by
  have hdst : ∀ d, dst = some d → d < a.tmps.size := by
    rintro d rfl
    have := H.nt
    simp [dstOk] at hd; omega
  exact ⟨H.inv, H.tmp.put (ds := a.defers) dst hv hdst, H.base, H.pl, H.step, H.owned, H.le, by rw [Act.put_size]; exact H.nt, by rw [Act.put_df]; exact H.df⟩
/-- What an operation did to its part of the heap, in the whole heap. -/
theorem Holds.frame {t : Temps} {h : Heap} {n : Nat} {a : Act} {W : World} {μ : Place} {own : Nat → List Nat} (H : Holds X nt { t := t, h := h, n := n } a W μ own) {fp : List Nat} {b j : Nat} (hb : b = n0 + 64 * j) (hkb : X.k ≤ b) (hbn : b + 64 ≤ n) (h1 : ∀ x ∈ fp, x < b)
    (hμ : ∀ id p, newR n0 j id → μ id p = none) {hh : Heap} {n' : Nat} {v : AV} {cv : Value} {W' : World} (A : After W X.F X.Fr (lowPl μ b) (keepH h fp) own b hh n' v cv W') (hn' : n' ≤ b + 64) {h' : Heap}
    (hh' : ∀ id q, find h' id = some q → ((id ∈ fp ∨ newR n0 j id) ∧ find hh id = some q) ∨ (¬ (id ∈ fp ∨ newR n0 j id) ∧ find h id = some q)) {dst : Option Nat} (hd : dstOk nt dst = true) :
    ∃ μ2 own2, Holds X nt { t := Am.putT t dst v, h := h', n := n } (a.put dst cv) W' μ2 own2 ∧ ∀ id p, ¬ newR n0 j id → μ2 id p = μ id p := by
  obtain ⟨μ', own', hext, hinv, hv, hown⟩ := A.ex
  have Hi := H.inv
  have hgone : ∀ x, Owned (keepH h fp) own x → Owned h own x := fun x ⟨id, q, hf, hm⟩ => by
    rw [find_keepH] at hf
    split at hf
    · exact ⟨id, q, hf, hm⟩
    · cases hf
  have hsF : ∀ x, X.F x → Same W W' x := fun x hx => A.step.same x (Hi.fsz x hx) fun hq => not_owned Hi hx (hgone x hq)
  let μ2 : Place := fun id p => if newR n0 j id then μ' id p else μ id p
  let own2 : Nat → List Nat := fun id => if id ∈ fp ∨ newR n0 j id then own' id else own id
  have hm2 : ∀ id p, ¬ newR n0 j id → μ2 id p = μ id p := fun id p hn => by simp [μ2, hn]
  have ext1 : ∀ id p L, μ id p = some L → μ2 id p = some L := fun id p L hl => by
    by_cases hn : newR n0 j id
    · rw [hμ id p hn] at hl; cases hl
    · rw [hm2 id p hn]; exact hl
  have ext2 : ∀ id p L, μ' id p = some L → μ2 id p = some L := fun id p L hl => by
    by_cases hn : newR n0 j id
    · simp [μ2, hn, hl]
    · rw [hm2 id p hn]
      have hlt := hinv.pl id p L hl
      have hlb : id < b := by unfold newR at hn; omega
      rw [hext id p hlb] at hl
      exact (lowPl_some hl).2
  have hkeep : ∀ id q, find h id = some q → ¬ (id ∈ fp ∨ newR n0 j id) → ∀ x ∈ own id, Same W W' x := fun id q hf hn x hx =>
    A.step.same x (Hi.out id q hf x hx).2 fun ⟨id', q', hf', hm'⟩ => by
      rw [find_keepH] at hf'
      split at hf'
      · rename_i hm; exact Hi.dis id id' q q' hf hf' (fun e => hn (.inl (e ▸ hm))) x hx hm'
      · cases hf'
  have hapart : ∀ id q, find h id = some q → ¬ (id ∈ fp ∨ newR n0 j id) → ∀ id2 q2, find hh id2 = some q2 → ∀ x ∈ own id, x ∉ own' id2 := by
    intro id q hf hn id2 q2 hf2 x hx hx2
    rcases hown x ⟨id2, q2, hf2, hx2⟩ with hs | ⟨id', q', hf', hm'⟩
    · have := (Hi.out id q hf x hx).2; omega
    · rw [find_keepH] at hf'
      split at hf'
      · rename_i hm; exact Hi.dis id id' q q' hf hf' (fun e => hn (.inl (e ▸ hm))) x hx hm'
      · cases hf'
  have o1 : ∀ id, (id ∈ fp ∨ newR n0 j id) → own2 id = own' id := fun id hc => by simp [own2, hc]
  have o2 : ∀ id, ¬ (id ∈ fp ∨ newR n0 j id) → own2 id = own id := fun id hc => by simp only [own2, hc, if_false]
  have Hinv : HInv W' X.F X.Fr μ2 h' own2 n := by
    constructor
    · intro id q hf
      rcases hh' id q hf with ⟨hc, hq⟩ | ⟨hc, hq⟩
      · rw [o1 id hc]
        exact (hinv.blk id q hq).keep hinv.fr (fun _ _ => rfl) (fun _ _ => rfl) ext2
      · rw [o2 id hc]
        exact (Hi.blk id q hq).keep Hi.fr hsF (hkeep id q hq hc) ext1
    · intro id q hf
      rcases hh' id q hf with ⟨hc, hq⟩ | ⟨hc, hq⟩
      · rw [o1 id hc]; exact hinv.nd id q hq
      · rw [o2 id hc]; exact Hi.nd id q hq
    · intro id id2 q q2 hf hf2 hne x hx
      rcases hh' id q hf with ⟨hc, hq⟩ | ⟨hc, hq⟩ <;> rcases hh' id2 q2 hf2 with ⟨hc2, hq2⟩ | ⟨hc2, hq2⟩
      · rw [o1 id hc] at hx; rw [o1 id2 hc2]; exact hinv.dis id id2 q q2 hq hq2 hne x hx
      · rw [o1 id hc] at hx; rw [o2 id2 hc2]; exact fun hx2 => hapart id2 q2 hq2 hc2 id q hq x hx2 hx
      · rw [o2 id hc] at hx; rw [o1 id2 hc2]; exact hapart id q hq hc id2 q2 hq2 x hx
      · rw [o2 id hc] at hx; rw [o2 id2 hc2]; exact Hi.dis id id2 q q2 hq hq2 hne x hx
    · intro id q hf x hx
      rcases hh' id q hf with ⟨hc, hq⟩ | ⟨hc, hq⟩
      · rw [o1 id hc] at hx; exact hinv.out id q hq x hx
      · rw [o2 id hc] at hx
        have := Hi.out id q hq x hx
        exact ⟨this.1, by have := A.step.size; omega⟩
    · intro id q hf
      rcases hh' id q hf with ⟨hc, hq⟩ | ⟨hc, hq⟩
      · have := hinv.lt id q hq; show id < n; omega
      · exact Hi.lt id q hq
    · intro id p L hl
      by_cases hn : newR n0 j id
      · unfold newR at hn; show id < n; omega
      · rw [hm2 id p hn] at hl; exact Hi.pl id p L hl
    · exact Hi.fr
    · intro x hx; have := Hi.fsz x hx; have := A.step.size; omega
  refine ⟨μ2, own2, ⟨Hinv, ?_, H.base.step hsF, fun id p hid => by rw [hm2 id p (by unfold newR; omega)]; exact H.pl id p hid, ?_, ?_, H.le, by rw [Act.put_size]; exact H.nt, by rw [Act.put_df]; exact H.df⟩, hm2⟩
  · have ht : TInv W' X.F X.Fr μ2 t a.tmps := fun x => ((H.tmp x).same Hi.fr hsF).more (fun _ h => h) (fun _ h => h) ext1
    have hdst : ∀ d, dst = some d → d < a.tmps.size := by
      rintro d rfl
      have := H.nt
      simp [dstOk] at hd; omega
    exact ht.put (ds := a.defers) dst (hv.more (fun _ h => h) (fun _ h => h) ext2) hdst
  · have s1 := H.step
    have s2 := A.step
    refine ⟨s2.os.trans s1.os, s2.tape.trans s1.tape, s2.output.trans s1.output, Nat.le_trans s1.size s2.size, fun x hx ho => ?_⟩
    have e2 := s2.same x (Nat.lt_of_lt_of_le hx s1.size) (fun hq => by
      rcases H.owned x (hgone x hq) with h | h
      · omega
      · exact ho h)
    exact e2.trans (s1.same x hx ho)
  · rintro x ⟨id, q, hf, hx⟩
    rcases hh' id q hf with ⟨hc, hq⟩ | ⟨hc, hq⟩
    · rw [o1 id hc] at hx
      rcases hown x ⟨id, q, hq, hx⟩ with h | h
      · left; have := H.step.size; omega
      · exact H.owned x (hgone x h)
    · rw [o2 id hc] at hx; exact H.owned x ⟨id, q, hq, hx⟩
end
end Go.Am
/- THE ABSTRACT MACHINE (AM): one operation of a region that may come in several orders: the step. No condition. -/
namespace Go.Am
set_option linter.unusedSimpArgs false
set_option linter.unusedVariables false
section
variable {X : Ctx} {nt : Nat} {C : Oracle} {n0 m : Nat} {st : St} {o : Nat → SOper} {e : Nat → Ev} {free : Nat → List Nat} {S : Nat → Bool}
theorem wanted_congr {t t' : Temps} {g : Option (Nat × Bool)} (h : ∀ j w, g = some (j, w) → get t j = get t' j) : wanted t g = wanted t' g := by
  cases g with
  | none => rfl
  | some p => obtain ⟨j, w⟩ := p; simp only [wanted]; rw [h j w rfl]
theorem opdIds_congr {t t' : Temps} : ∀ {l : List Opd}, (∀ x ∈ l, x.ev t = x.ev t') → opdIds t l = opdIds t' l
  | [], _ => rfl
  | x :: l, h => by simp only [opdIds]; rw [h x (by simp), opdIds_congr fun y hy => h y (by simp [hy])]
theorem opKind_congr {t t' : Temps} {op : SOp} (he : ∀ x ∈ op.opds, x.ev t = x.ev t') : opKind t op = opKind t' op := by
  cases op with
  | bsl sz a z len ps => simp only [opKind]; rw [opdIds_congr (by simpa [SOp.opds] using he)]
  | call f args mt => simp only [opKind]; rw [evL_congr (l := args) (by simpa [SOp.opds] using he)]
  | callv x args mt => simp only [opKind]; rw [he x (by simp [SOp.opds]), evL_congr (l := args) fun y hy => he y (by simp [SOp.opds, hy])]
  | _ => rfl
theorem draw_step (HC : OracleOk X.P X.B C) (Fx : Facts C n0 m st o e free) (hap : ∀ j i, j < m → i ∈ free j → i < j ∧ apartS (o i) (o j) = true) {ann : Nat → List Bool} {ops : Array Oper} {Q : Exit → Act → World → Prop} {K : Act → World → Prop}
    {j : Nat} (hj : j < m) (hSj : S j = false) (hD1 : ∀ i, i < j → S i = false → i ∈ free j) (hD2 : ∀ i, j < i → i < m → S i = true → j ∈ free i) (hSm : ∀ i, S i = true → i < m) {oj : Oper} (hoj : ops[j]? = some oj) (hso : slimOper X.P ann nt ops oj = some (o j)) (hn0 : X.k ≤ n0)
    {a : Act} {W : World} (hS : SDx X nt st o e n0 m S a W) (hk : ∀ a' W', SDx X nt st o e n0 m (with1 S j) a' W' → K a' W') : wpOp X.P ops Q j K a W := by
  obtain ⟨g, sop, hg, hop, hd, hoe⟩ := slimOper_inv hso
  obtain ⟨μ, own, h, t, D⟩ := hS
  obtain ⟨hT, hHH⟩ := draw_same Fx hap hj hSj hD1 hD2 hSm
  have good := Fx.good j hj
  have hTt : ∀ x ∈ looksS (o j), get t x = get (stF n0 st o e j).t x := fun x hx => by rw [D.tt, hT x hx]
  have hdst : (o j).dst = oj.dst := by rw [hoe]
  have hopeq : (o j).op = sop := by rw [hoe]
  have hguard : (o j).guard = g := by rw [hoe]
  have hapT : ∀ i, j < i → S i = true → ∀ d, (o i).dst = some d → (o j).dst ≠ some d := fun i hi hs d hd1 hd2 =>
    (apartS_spec (hap i j (hSm i hs) (hD2 i hi (hSm i hs) hs)).2).2.2 d hd2 hd1
  have hw : wanted t g = some (e j).w := by
    rw [← good.want, hguard]
    refine wanted_congr fun x w hx => hTt x ?_
    unfold looksS
    rw [hguard, hx]
    simp
  have hTT : ∀ x, get (putT t oj.dst (e j).v) x = TT st.t o e (with1 S j) m x := fun x => by
    rw [get_putT, TT_step hapT hj, D.tt, hdst]
  unfold wpOp
  simp only [hoj]
  have hwant := wanted_rel hg D.H.tmp hw
  cases hwv : (e j).w with
  | false =>
    rw [hwv] at hwant
    rw [hwant]
    simp only [Bool.false_eq_true, if_false]
    obtain ⟨ev, ek, ef⟩ := good.off hwv
    refine hk _ _ ⟨μ, own, h, putT t oj.dst (.tup []), D.H.putT hd RV.undef, fun x => by rw [← hTT x, ev], fun id => ?_, fun id p L hl => (D.rg id p L hl).imp (fun h => h) fun ⟨i, hi, hs, hn⟩ => ⟨i, hi, with1_of hs, hn⟩⟩
    have hnt : ¬ touch n0 e j id := by unfold touch; rw [ek]; exact fun h => h
    rw [HH_step hSj (fun i _ _ _ => by intro h; unfold touch at h; rw [ek] at h; exact h) hj, if_neg hnt, D.hh]
  | true =>
    rw [hwv] at hwant
    rw [hwant]
    simp only [if_true]
    obtain ⟨hkd, hrec, hb1, hb2, hb3, hfr, n', hrun, hn'⟩ := good.on hwv
    rw [hopeq] at hrun hb1 hkd
    have hfind : ∀ id ∈ (e j).fp, find h id = find (stF n0 st o e j).h id := fun id hid => by rw [D.hh, hHH hwv id hid]
    have hlow := belowB_mem hb3
    -- the part of the state
    have hops : ∀ x ∈ sop.opds, x.ev (subT t (tmpsOf sop.opds)) = x.ev (stF n0 st o e j).t := by
      intro x hx
      cases x with
      | c v => rfl
      | t i =>
        have hi := tmpsOf_mem hx
        simp only [Opd.ev]
        rw [get_subT, if_pos hi]
        exact hTt i (by unfold looksS; rw [hopeq]; simp [hi])
    have hrun' : opRun C (subT t (tmpsOf sop.opds)) (keepH h (e j).fp) (n0 + 64 * j) sop = some ((e j).v, (e j).hh, n') := by
      rw [opRun_congr hops, keepH_congr hfind]; exact hrun
    have hidsOf : ∀ x ∈ idsOf h (e j).fp, x < n0 + 64 * j := by
      have : idsOf h (e j).fp = idsOf (stF n0 st o e j).h (e j).fp := by
        have gen : ∀ l : List Nat, (∀ id ∈ l, find h id = find (stF n0 st o e j).h id) → idsOf h l = idsOf (stF n0 st o e j).h l := by
          intro l
          induction l with
          | nil => intro _; rfl
          | cons y l ih => intro hl; simp only [idsOf]; rw [hl y (by simp), ih fun id hid => hl id (by simp [hid])]
        exact gen _ hfind
      rw [this]; exact belowB_mem hb2
    have HL := D.H.inv.low hlow hidsOf
    have hTI : TInv W X.F X.Fr (lowPl μ (n0 + 64 * j)) (subT t (tmpsOf sop.opds)) a.tmps := by
      intro x
      rw [get_subT]
      split
      · rename_i hx
        refine (D.H.tmp x).lows fun y hy => ?_
        have hmem : Opd.t x ∈ sop.opds := by
          have gen : ∀ l : List Opd, x ∈ tmpsOf l → Opd.t x ∈ l := by
            intro l
            induction l with
            | nil => intro h; simp [tmpsOf] at h
            | cons z l ih =>
              intro h
              cases z with
              | t i => simp only [tmpsOf, List.mem_cons] at h; rcases h with rfl | h <;> simp [*]
              | c v => simp only [tmpsOf] at h; simp [ih h]
          exact gen _ hx
        refine belowB_mem hb1 y (opdIds_mem hmem y ?_)
        simp only [Opd.ev]
        rw [← hTt x (by unfold looksS; rw [hopeq]; simp [hx])]
        exact hy
      · trivial
    have hdone := op_sound HC hop rfl HL D.H.base hTI hrun'
    refine .inl (hdone.wp fun cv W' A => ?_)
    -- the new heap
    have hnone : ∀ id p, newR n0 j id → μ id p = none := by
      intro id p hn
      cases hq : μ id p with
      | none => rfl
      | some L =>
        rcases D.rg id p L hq with h | ⟨i, _, hs, hni⟩
        · unfold newR at hn; omega
        · have : i ≠ j := fun h => by rw [h, hSj] at hs; cases hs
          unfold newR at hn hni; omega
    have hfresh : ∀ id, newR n0 j id → find h id = none := by
      intro id hn
      cases hq : find h id with
      | none => rfl
      | some b =>
        have hb := D.H.inv.blk id b hq
        have : ∃ L, μ id none = some L := by
          cases b with
          | box cs => obtain ⟨L, _, hl, _⟩ := hb; exact ⟨L, hl⟩
          | arr sz rows => obtain ⟨L, _, _, hl, _⟩ := hb; exact ⟨L, hl⟩
          | mp es => exact hb.elim
        obtain ⟨L, hl⟩ := this
        rw [hnone id none hn] at hl; cases hl
    have hapH : ∀ i, j < i → S i = true → ∀ id, touch n0 e i id → ¬ touch n0 e j id := by
      intro i hi hs id hti htj
      have him := hSm i hs
      have hfri := hD2 i hi him hs
      have key : ∀ {q : Nat}, touch n0 e q id → (newR n0 q id) ∨ ((e q).kd ≠ 0 ∧ (e q).kd ≠ 1 ∧ id ∈ (e q).fp) := by
        intro q ht
        unfold touch at ht
        split at ht
        · exact ht.elim
        · exact .inl ht
        · rename_i h0 h1
          rcases ht with ht | ht
          · exact .inr ⟨h0, h1, ht⟩
          · exact .inl ht
      rcases key hti with hi1 | ⟨i1, i2, i3⟩
      · rcases key htj with hj1 | ⟨j1, j2, j3⟩
        · unfold newR at hi1 hj1; omega
        · have := hlow id j3; unfold newR at hi1; omega
      · have hwi : (e i).w = true := by
          cases hq : (e i).w with
          | true => rfl
          | false => exact absurd ((Fx.good i him).off hq).2.1 i1
        have gi := (Fx.good i him).on hwi
        rcases key htj with hj1 | ⟨j1, j2, j3⟩
        · exact freshOk_spec gi.2.2.2.2.2.1 j hfri id i3 hj1
        · have hk2 : (e i).kd = 2 := by have := kd_le Fx him; omega
          exact recOk_spec gi.2.1 j hfri _ (recsF_get e hi) (.inr hk2) id i3 j3
    have hstepH : ∀ id, HH st.h n0 e (with1 S j) m id = if touch n0 e j id then find (e j).hh id else find h id := fun id => by
      rw [HH_step hSj (fun i hi hs ht => hapH i hi hs id ht) hj, D.hh]
    -- for each kind
    have fin : ∀ {h' : Heap}, (∀ id, find h' id = if touch n0 e j id then find (e j).hh id else find h id) →
        (∀ id q, find h' id = some q → ((id ∈ (e j).fp ∨ newR n0 j id) ∧ find (e j).hh id = some q) ∨ (¬ (id ∈ (e j).fp ∨ newR n0 j id) ∧ find h id = some q)) → K (a.put oj.dst cv) W' := by
      intro h' hf1 hf2
      obtain ⟨μ2, own2, H2, hm2⟩ := D.H.frame (n0 := n0) (j := j) rfl (by omega) (by omega) hlow hnone A hn' hf2 hd
      refine hk _ _ ⟨μ2, own2, h', putT t oj.dst (e j).v, H2, hTT, fun id => by rw [hf1, hstepH], fun id p L hl => ?_⟩
      by_cases hn : newR n0 j id
      · exact .inr ⟨j, hj, with1_self S j, hn⟩
      · rw [hm2 id p hn] at hl
        exact (D.rg id p L hl).imp (fun h => h) fun ⟨i, hi, hs, hn⟩ => ⟨i, hi, with1_of hs, hn⟩
    have hopk : opKind (subT t (tmpsOf sop.opds)) sop = (e j).kd := by
      rw [hkd]; exact opKind_congr hops
    have hnr : ∀ id, newR n0 j id ↔ (n0 + 64 * j ≤ id ∧ id < n0 + 64 * j + 64) := fun _ => Iff.rfl
    have hkeepF : ∀ id, find (keepH h (e j).fp) id = if id ∈ (e j).fp then find h id else none := fun id => find_keepH
    match hq : (e j).kd with
    | 0 =>
      have hnt : ∀ id, ¬ touch n0 e j id := fun id => by unfold touch; rw [hq]; exact fun h => h
      obtain ⟨e1, _⟩ := kind0 (hopk.trans hq) hrun'
      refine fin (h' := h) (fun id => by rw [if_neg (hnt id)]) fun id q hf => ?_
      by_cases hfp : id ∈ (e j).fp
      · exact .inl ⟨.inl hfp, by rw [e1, hkeepF, if_pos hfp]; exact hf⟩
      · refine .inr ⟨fun hc => hc.elim hfp fun hn => ?_, hf⟩
        rw [hfresh id hn] at hf; cases hf
    | 1 =>
      have hnt : ∀ id, touch n0 e j id ↔ newR n0 j id := fun id => by unfold touch; rw [hq]; exact Iff.rfl
      have hf1 : ∀ id, find (only [] (n0 + 64 * j) (e j).hh ++ h) id = if touch n0 e j id then find (e j).hh id else find h id := by
        intro id
        rw [find_append, find_only]
        by_cases hn : newR n0 j id
        · rw [if_pos (.inr ((hnr id).1 hn)), if_pos ((hnt id).2 hn), hfresh id hn]
          cases find (e j).hh id <;> rfl
        · rw [if_neg (fun hc => hc.elim (by simp) fun hc => hn ((hnr id).2 hc)), if_neg (fun hc => hn ((hnt id).1 hc))]
      refine fin hf1 fun id q hf => ?_
      rw [hf1] at hf
      by_cases hn : newR n0 j id
      · rw [if_pos ((hnt id).2 hn)] at hf
        exact .inl ⟨.inr hn, hf⟩
      · rw [if_neg (fun hc => hn ((hnt id).1 hc))] at hf
        by_cases hfp : id ∈ (e j).fp
        · refine .inl ⟨.inl hfp, ?_⟩
          rw [kind1 (hopk.trans hq) hrun' (hlow id hfp), hkeepF, if_pos hfp]; exact hf
        · exact .inr ⟨fun hc => hc.elim hfp hn, hf⟩
    | k + 2 =>
      have hnt : ∀ id, touch n0 e j id ↔ (id ∈ (e j).fp ∨ newR n0 j id) := fun id => by unfold touch; rw [hq]; exact Iff.rfl
      have hf1 : ∀ id, find (only (e j).fp (n0 + 64 * j) (e j).hh ++ delAll h (e j).fp) id = if touch n0 e j id then find (e j).hh id else find h id := by
        intro id
        rw [find_append, find_only, find_delAll]
        by_cases hfp : id ∈ (e j).fp
        · rw [if_pos (.inl hfp), if_pos ((hnt id).2 (.inl hfp)), if_pos hfp]
          cases find (e j).hh id <;> rfl
        · by_cases hn : newR n0 j id
          · rw [if_pos (.inr ((hnr id).1 hn)), if_pos ((hnt id).2 (.inr hn)), if_neg hfp, hfresh id hn]
            cases find (e j).hh id <;> rfl
          · rw [if_neg (fun hc => hc.elim hfp fun hc => hn ((hnr id).2 hc)), if_neg (fun hc => ((hnt id).1 hc).elim hfp hn), if_neg hfp]
      refine fin hf1 fun id q hf => ?_
      rw [hf1] at hf
      by_cases hc : id ∈ (e j).fp ∨ newR n0 j id
      · rw [if_pos ((hnt id).2 hc)] at hf; exact .inl ⟨hc, hf⟩
      · rw [if_neg (fun h => hc ((hnt id).1 h))] at hf; exact .inr ⟨hc, hf⟩
end
end Go.Am
/- THE ABSTRACT MACHINE (AM): regions that may come in several orders. No condition. -/
namespace Go.Am
set_option linter.unusedSimpArgs false
set_option linter.unusedVariables false

theorem getD_some' {α : Type} {l : List α} {i : Nat} (h : i < l.length) (d : α) : l[i]? = some (l.getD i d) := by
  rw [List.getD_eq_getElem?_getD, List.getElem?_eq_getElem h]; rfl
/-! ### What comes before an operation -/
theorem beforeFold {ops : List Oper} : ∀ {acc : Array Nat}, (ops.foldl (fun acc o => acc.push (o.after.foldl (fun s e => if Region.binds .any e then s ||| 2 ^ e.on ||| acc.getD e.on 0 else s) 0)) acc).size = acc.size + ops.length ∧
    ∀ j, j < acc.size → (ops.foldl (fun acc o => acc.push (o.after.foldl (fun s e => if Region.binds .any e then s ||| 2 ^ e.on ||| acc.getD e.on 0 else s) 0)) acc).getD j 0 = acc.getD j 0 := by
  induction ops with
  | nil => intro acc; exact ⟨rfl, fun j _ => rfl⟩
  | cons o ops ih =>
    intro acc
    simp only [List.foldl_cons]
    obtain ⟨h1, h2⟩ := ih (acc := acc.push (o.after.foldl (fun s e => if Region.binds .any e then s ||| 2 ^ e.on ||| acc.getD e.on 0 else s) 0))
    refine ⟨by rw [h1]; simp; omega, fun j hj => ?_⟩
    rw [h2 j (by simp; omega)]
    rw [Array.getD_eq_getD_getElem?, Array.getD_eq_getD_getElem?, Array.getElem?_push, if_neg (by omega)]
theorem afterBits {acc : Array Nat} {i : Nat} : ∀ (l : List Edge) {s : Nat}, (l.foldl (fun s e => if Region.binds .any e then s ||| 2 ^ e.on ||| acc.getD e.on 0 else s) s).testBit i = true →
    s.testBit i = true ∨ ∃ e ∈ l, Region.binds .any e = true ∧ (i = e.on ∨ (acc.getD e.on 0).testBit i = true)
  | [], s, h => .inl h
  | e :: l, s, h => by
    simp only [List.foldl_cons] at h
    rcases afterBits l h with h | ⟨e', he, hb⟩
    · split at h
      · rename_i hbind
        simp only [Nat.testBit_or, Bool.or_eq_true, Nat.testBit_two_pow, decide_eq_true_eq] at h
        rcases h with (h | h) | h
        · exact .inl h
        · exact .inr ⟨e, by simp, hbind, .inl h.symm⟩
        · exact .inr ⟨e, by simp, hbind, .inr h⟩
      · exact .inl h
    · exact .inr ⟨e', by simp [he], hb⟩

def bF (acc : Array Nat) (o : Oper) : Array Nat := acc.push (o.after.foldl (fun s e => if Region.binds .any e then s ||| 2 ^ e.on ||| acc.getD e.on 0 else s) 0)
theorem before_eq (ops : Array Oper) : Region.before ops = ops.toList.foldl bF #[] := by
  unfold Region.before
  rw [← Array.foldl_toList]; rfl
theorem bF_size (l : List Oper) (acc : Array Nat) : (l.foldl bF acc).size = acc.size + l.length := (beforeFold (ops := l) (acc := acc)).1
theorem bF_old (l : List Oper) (acc : Array Nat) {j : Nat} (hj : j < acc.size) : (l.foldl bF acc).getD j 0 = acc.getD j 0 := (beforeFold (ops := l) (acc := acc)).2 j hj
theorem before_spec {ops : Array Oper} {j i : Nat} (h : ((Region.before ops).getD j 0).testBit i = true) : ∃ o, ops[j]? = some o ∧ ∃ e ∈ o.after, Region.binds .any e = true ∧ (i = e.on ∨ ((Region.before ops).getD e.on 0).testBit i = true) := by
  by_cases hj : j < ops.toList.length
  · have hsplit : ops.toList = ops.toList.take j ++ ops.toList[j] :: ops.toList.drop (j + 1) := by
      rw [← List.drop_eq_getElem_cons hj, List.take_append_drop]
    have hacc : ((ops.toList.take j).foldl bF #[]).size = j := by rw [bF_size]; simp at hj ⊢; omega
    have hbe : Region.before ops = (ops.toList.drop (j + 1)).foldl bF (bF ((ops.toList.take j).foldl bF #[]) ops.toList[j]) := by
      rw [before_eq]
      conv => lhs; rw [hsplit]
      rw [List.foldl_append, List.foldl_cons]
    have hsz : (bF ((ops.toList.take j).foldl bF #[]) ops.toList[j]).size = j + 1 := by simp only [bF, Array.size_push, hacc]
    have hjv : (Region.before ops).getD j 0 = ops.toList[j].after.foldl (fun s e => if Region.binds .any e then s ||| 2 ^ e.on ||| ((ops.toList.take j).foldl bF #[]).getD e.on 0 else s) 0 := by
      rw [hbe, bF_old _ _ (by omega)]
      rw [Array.getD_eq_getD_getElem?, bF, Array.getElem?_push, if_pos (by omega)]; rfl
    rw [hjv, ← Array.foldl_toList] at h
    rcases afterBits _ h with h | ⟨e, he, hb, hi⟩
    · simp at h
    · refine ⟨ops.toList[j], by simp at hj ⊢, e, by simpa using he, hb, hi.imp (fun h => h) fun hi => ?_⟩
      have hlt : e.on < j := by
        rcases Nat.lt_or_ge e.on j with h | h
        · exact h
        · rw [Array.getD_eq_getD_getElem?, Array.getElem?_eq_none (by omega)] at hi; simp at hi
      rw [hbe, bF_old _ _ (by omega)]
      rw [Array.getD_eq_getD_getElem?, bF, Array.getElem?_push, if_neg (by omega), ← Array.getD_eq_getD_getElem?]
      exact hi
  · exfalso
    rw [Array.getD_eq_getD_getElem?, Array.getElem?_eq_none (by rw [before_eq, bF_size]; simp at hj ⊢; omega)] at h
    simp at h
theorem freeOf_mem {ops : Array Oper} {i j : Nat} (hj : j < ops.size) : i ∈ (freeOf ops).getD j [] ↔ i < j ∧ ((Region.before ops).getD j 0).testBit i = false := by
  unfold freeOf
  rw [List.getD_eq_getElem?_getD, List.getElem?_map, List.getElem?_range hj]
  simp
theorem freeOf_len (ops : Array Oper) : (freeOf ops).length = ops.size := by simp [freeOf]
theorem apartAll_spec {ops : Array Oper} {l : List SOper} (h : apartAll ops l (freeOf ops) = true) (hl : l.length = ops.size) : (∀ j i, j < ops.size → i ∈ (freeOf ops).getD j [] → apartS (l.getD i default) (l.getD j default) = true) ∧
    ∀ j o, ops[j]? = some o → ∀ e ∈ o.after, Region.binds .any e = true → e.on < j := by
  unfold apartAll at h
  simp only [Bool.and_eq_true, List.all_eq_true] at h
  obtain ⟨h1, h2⟩ := h
  refine ⟨fun j i hj hi => ?_, fun j o ho e he hb => ?_⟩
  · have hij := (freeOf_mem hj).1 hi
    have hm : ((freeOf ops).getD j [], j) ∈ (freeOf ops).zipIdx := by
      rw [List.mem_zipIdx_iff_getElem?]
      exact getD_some' (by rw [freeOf_len]; exact hj) _
    have := h1 _ hm
    simp only [List.all_eq_true] at this
    have := this i hi
    rw [getD_some' (l := l) (i := i) (by omega) default, getD_some' (l := l) (i := j) (by omega) default] at this
    exact this
  · have hm : (o, j) ∈ ops.toList.zipIdx := by
      rw [List.mem_zipIdx_iff_getElem?]; simpa using ho
    have := h2 _ hm
    simp only [Array.all_eq_true_iff_forall_mem] at this
    have := this e he
    rw [hb] at this
    simpa using this
theorem slimOpers_get {P : Program} {ann : Nat → List Bool} {nt : Nat} {ops : Array Oper} : ∀ {rest : List Oper} {l : List SOper}, slimOpers P ann nt ops rest = some l → l.length = rest.length ∧ ∀ j o, rest[j]? = some o → slimOper P ann nt ops o = some (l.getD j default)
  | [], l, h => by simp [slimOpers] at h; subst h; exact ⟨rfl, fun j o h => by simp at h⟩
  | x :: rest, l, h => by
    simp only [slimOpers] at h
    split at h
    · rename_i so ls hso hls
      obtain rfl := Option.some.inj h
      obtain ⟨h1, h2⟩ := slimOpers_get hls
      refine ⟨by simp [h1], fun j o ho => ?_⟩
      cases j with
      | zero => simp at ho; subst ho; simpa using hso
      | succ j => simp at ho; simpa using h2 j o ho
    · cases h
theorem ready_mem {ops : Array Oper} {listed : Array Bool} {j : Nat} (hsz : listed.size = ops.size) (h : j ∈ Region.ready .any ops listed) : j < ops.size ∧ listed.getD j false = false ∧ ∃ o, ops[j]? = some o ∧ ∀ e ∈ o.after, Region.binds .any e = true → listed.getD e.on false = true := by
  unfold Region.ready at h
  simp only [List.mem_filter, List.mem_range, Bool.and_eq_true, Bool.not_eq_true'] at h
  obtain ⟨h1, h2, h3⟩ := h
  refine ⟨h1, ?_, ops[j], by simp [h1], fun e he hb => ?_⟩
  · rw [Array.getD_eq_getD_getElem?, Array.getElem?_eq_getElem (by omega)] at h2 ⊢; exact h2
  · rw [Array.getElem?_eq_getElem h1] at h3
    simp only [Option.map_some, Option.getD_some, Array.all_eq_true_iff_forall_mem] at h3
    have := h3 e he
    rw [hb] at this; simpa using this
theorem ready_nil {ops : Array Oper} {listed : Array Bool} (hsz : listed.size = ops.size) (hed : ∀ j o, ops[j]? = some o → ∀ e ∈ o.after, Region.binds .any e = true → e.on < j) (h : Region.ready .any ops listed = []) : ∀ j, j < ops.size → listed.getD j false = true := by
  intro j
  induction j using Nat.strongRecOn with
  | ind j ih =>
    intro hj
    cases hq : listed.getD j false with
    | true => rfl
    | false =>
      have : j ∈ Region.ready .any ops listed := by
        unfold Region.ready
        simp only [List.mem_filter, List.mem_range, Bool.and_eq_true, Bool.not_eq_true']
        refine ⟨hj, ?_, ?_⟩
        · rw [Array.getD_eq_getD_getElem?, Array.getElem?_eq_getElem (by omega)] at hq ⊢; exact hq
        · rw [Array.getElem?_eq_getElem hj]
          simp only [Option.map_some, Option.getD_some, Array.all_eq_true_iff_forall_mem]
          intro e he
          cases hb : Region.binds .any e with
          | false => rfl
          | true =>
            have hlt := hed j _ (Array.getElem?_eq_getElem hj) e he hb
            simp [ih e.on hlt (by omega)]
      rw [h] at this; simp at this
theorem getD_set (listed : Array Bool) (i j : Nat) : (listed.setIfInBounds i true).getD j false = if i = j ∧ j < listed.size then true else listed.getD j false := by
  rw [Array.getD_eq_getD_getElem?, Array.getD_eq_getD_getElem?, Array.getElem?_setIfInBounds]
  by_cases h : i = j
  · subst h
    by_cases h2 : i < listed.size
    · simp [h2]
    · simp [h2]
  · simp [h]
section
variable {X : Ctx} {nt : Nat}
theorem Holds.drawn {st : St} {a : Act} {W : World} {μ : Place} {own : Nat → List Nat} (H : Holds X nt st a W μ own) : Holds X nt st a { W with drawn := W.drawn + 1 } μ own := by
  have hsF : ∀ x, Same W { W with drawn := W.drawn + 1 } x := fun x => rfl
  refine ⟨⟨fun id b hf => (H.inv.blk id b hf).keep H.inv.fr (fun x _ => hsF x) (fun x _ => hsF x) (fun _ _ _ h => h), H.inv.nd, H.inv.dis, H.inv.out, H.inv.lt, H.inv.pl, H.inv.fr, H.inv.fsz⟩,
    fun x => (H.tmp x).same H.inv.fr fun x _ => hsF x, H.base.step fun x _ => hsF x, H.pl, ⟨H.step.os, H.step.tape, H.step.output, H.step.size, H.step.same⟩, H.owned, H.le, H.nt, H.df⟩
theorem Holds.ext {st st' : St} {a : Act} {W : World} {μ : Place} {own : Nat → List Nat} (H : Holds X nt st a W μ own) (ht : ∀ x, get st'.t x = get st.t x) (hh : ∀ id, find st'.h id = find st.h id) (hn : st.n ≤ st'.n) : Holds X nt st' a W μ own := by
  refine ⟨⟨fun id b hf => H.inv.blk id b (by rw [← hh]; exact hf), fun id b hf => H.inv.nd id b (by rw [← hh]; exact hf), fun id id' b b' hf hf' => H.inv.dis id id' b b' (by rw [← hh]; exact hf) (by rw [← hh]; exact hf'), fun id b hf => H.inv.out id b (by rw [← hh]; exact hf),
    fun id b hf => Nat.lt_of_lt_of_le (H.inv.lt id b (by rw [← hh]; exact hf)) hn, fun id p L hl => Nat.lt_of_lt_of_le (H.inv.pl id p L hl) hn, H.inv.fr, H.inv.fsz⟩,
    fun x => by rw [ht]; exact H.tmp x, H.base, H.pl, H.step, fun x ⟨id, b, hf, hx⟩ => H.owned x ⟨id, b, by rw [← hh]; exact hf, hx⟩, Nat.le_trans H.le hn, H.nt, H.df⟩
theorem TT_none {t0 : Temps} {o : Nat → SOper} {e : Nat → Ev} {S : Nat → Bool} (hS : ∀ i, S i = false) : ∀ k x, TT t0 o e S k x = get t0 x
  | 0, _ => rfl
  | k + 1, x => by simp only [TT, hS k, Bool.false_eq_true, false_and, if_false]; exact TT_none hS k x
theorem HH_none {h0 : Heap} {n0 : Nat} {e : Nat → Ev} {S : Nat → Bool} (hS : ∀ i, S i = false) : ∀ k id, HH h0 n0 e S k id = find h0 id
  | 0, _ => rfl
  | k + 1, id => by simp only [HH, hS k, Bool.false_eq_true, false_and, if_false]; exact HH_none hS k id
theorem TT_all {t0 : Temps} {o : Nat → SOper} {e : Nat → Ev} {S : Nat → Bool} : ∀ {k : Nat} {x : Nat}, (∀ i, i < k → S i = true) → TT t0 o e S k x = TT t0 o e (fun _ => true) k x
  | 0, _, _ => rfl
  | k + 1, x, hS => by simp only [TT, hS k (by omega), true_and]; rw [TT_all fun i hi => hS i (by omega)]
theorem HH_all {h0 : Heap} {n0 : Nat} {e : Nat → Ev} {S : Nat → Bool} : ∀ {k : Nat} {id : Nat}, (∀ i, i < k → S i = true) → HH h0 n0 e S k id = HH h0 n0 e (fun _ => true) k id
  | 0, _, _ => rfl
  | k + 1, id, hS => by simp only [HH, hS k (by omega), true_and]; rw [HH_all fun i hi => hS i (by omega)]
end
theorem draw_sound {X : Ctx} {nt : Nat} {C : Oracle} (HC : OracleOk X.P X.B C) (hm : X.P.follows .mixedOrders = true) {ann : Nat → List Bool} {ops : Array Oper} {Q : Exit → Act → World → Prop} {l : List SOper} (hs : slimOpers X.P ann nt ops ops.toList = some l) (ha : apartAll ops l (freeOf ops) = true)
    {st st' : St} (hr : runD C st.n l (freeOf ops) [] st = some st') {a : Act} {W : World} (hS : SInv X nt st a W) (hq : ∀ a' W', SInv X nt st' a' W' → Q .normal a' W') (id : Nat) : (Code.region id ops true).wp X.P Q a W := by
  obtain ⟨hlen, hget⟩ := slimOpers_get hs
  have hlen : l.length = ops.size := by rw [hlen, Array.length_toList]
  obtain ⟨hap1, hed⟩ := apartAll_spec ha hlen
  obtain ⟨e, hgood, rfl⟩ := runD_good hr
  rw [hlen] at hgood hq
  obtain ⟨μ, own, H0⟩ := hS
  have Fx : Facts C st.n ops.size st (fun i => l.getD i default) e (fun j => (freeOf ops).getD j []) := ⟨hgood, fun id b hf => H0.inv.lt id b hf⟩
  have hap : ∀ j i, j < ops.size → i ∈ (fun j => (freeOf ops).getD j []) j → i < j ∧ apartS ((fun i => l.getD i default) i) ((fun i => l.getD i default) j) = true := fun j i hj hi => ⟨((freeOf_mem hj).1 hi).1, hap1 j i hj hi⟩
  refine wp_region_any hm ?_
  have main : ∀ (fuel : Nat) (listed : Array Bool) (a : Act) (W : World), listed.size = ops.size → ((List.range ops.size).filter fun i => !listed.getD i false).length ≤ fuel →
      (∀ k i, listed.getD k false = true → ((Region.before ops).getD k 0).testBit i = true → listed.getD i false = true) →
      SDx X nt st (fun i => l.getD i default) e st.n ops.size (fun i => listed.getD i false) a W → wpAny X.P .any ops Q fuel listed a W := by
    have hend : ∀ (listed : Array Bool) (a : Act) (W : World), listed.size = ops.size → (∀ j, j < ops.size → listed.getD j false = true) → SDx X nt st (fun i => l.getD i default) e st.n ops.size (fun i => listed.getD i false) a W → Q .normal a W := by
      rintro listed a W hsz hall ⟨μ, own, h, t, D⟩
      refine hq a W ⟨μ, own, D.H.ext (fun x => ?_) (fun id => ?_) (Nat.le_refl _)⟩
      · rw [D.tt, TT_all hall]; exact stF_TT
      · rw [D.hh, HH_all hall]; exact stF_HH Fx (Nat.le_refl _) id
    intro fuel
    induction fuel with
    | zero =>
      intro listed a W hsz hfuel hcl hSD
      have hall : ∀ j, j < ops.size → listed.getD j false = true := fun j hj => by
        cases hq : listed.getD j false with
        | true => rfl
        | false =>
          have : j ∈ (List.range ops.size).filter fun i => !listed.getD i false := by rw [List.mem_filter, List.mem_range]; exact ⟨hj, by rw [hq]; rfl⟩
          rw [List.length_eq_zero_iff.1 (Nat.le_zero.1 hfuel)] at this; simp at this
      refine ⟨?_, hend listed a W hsz hall hSD⟩
      rw [List.eq_nil_iff_forall_not_mem]
      intro j hj
      obtain ⟨h1, h2, _⟩ := ready_mem hsz hj
      rw [hall j h1] at h2; cases h2
    | succ fuel ih =>
      intro listed a W hsz hfuel hcl hSD
      refine ⟨fun hn => hend listed a W hsz (ready_nil hsz hed hn) hSD, fun j hj => ?_⟩
      obtain ⟨hjm, hjl, o, ho, hedge⟩ := ready_mem hsz hj
      have hbits : ∀ i, ((Region.before ops).getD j 0).testBit i = true → listed.getD i false = true := fun i hi => by
        obtain ⟨o', ho', e', he', hb', hi'⟩ := before_spec hi
        rw [ho] at ho'; obtain rfl := Option.some.inj ho'
        have hl := hedge e' he' hb'
        rcases hi' with rfl | hi'
        · exact hl
        · exact hcl _ i hl hi'
      have hinl : ∀ i, listed.getD i false = true → i < ops.size := fun i hi => by
        rcases Nat.lt_or_ge i ops.size with h | h
        · exact h
        · rw [Array.getD_eq_getD_getElem?, Array.getElem?_eq_none (by omega)] at hi; cases hi
      refine draw_step (oj := o) HC Fx hap hjm hjl (fun i hi hs => (freeOf_mem hjm).2 ⟨hi, ?_⟩) (fun i hi him hs => (freeOf_mem him).2 ⟨hi, ?_⟩) hinl ho (hget j o (by simpa using ho)) H0.le hSD fun a' W' hSD' => ?_
      · cases hb : ((Region.before ops).getD j 0).testBit i with
        | false => rfl
        | true => rw [hbits i hb] at hs; cases hs
      · cases hb : ((Region.before ops).getD i 0).testBit j with
        | false => rfl
        | true => rw [hcl i j hs hb] at hjl; cases hjl
      · have hset : ∀ i, (listed.setIfInBounds j true).getD i false = with1 (fun i => listed.getD i false) j i := fun i => by
          rw [getD_set]
          by_cases h : j = i
          · subst h; rw [with1_self, if_pos ⟨rfl, by omega⟩]
          · rw [with1_other (fun e => h e.symm), if_neg (fun e => h e.1)]
        refine ih (listed.setIfInBounds j true) a' W' (by simpa using hsz) ?_ ?_ ?_
        · have hsub : ((List.range ops.size).filter fun i => !(listed.setIfInBounds j true).getD i false).length < ((List.range ops.size).filter fun i => !listed.getD i false).length := by
            have e1 : (List.range ops.size).filter (fun i => !(listed.setIfInBounds j true).getD i false) = ((List.range ops.size).filter fun i => !listed.getD i false).filter fun i => !decide (i = j) := by
              rw [List.filter_filter]
              refine List.filter_congr fun i _ => ?_
              rw [hset]
              by_cases h : i = j
              · subst h; simp [with1_self]
              · simp [with1_other h, h]
            rw [e1]
            refine List.length_filter_lt_length_iff_exists.2 ⟨j, ?_, by simp⟩
            simp only [List.mem_filter, List.mem_range]
            exact ⟨hjm, by rw [hjl]; rfl⟩
          omega
        · intro k i hk hi
          rw [hset] at hk ⊢
          by_cases hkj : k = j
          · subst hkj; exact with1_of (hbits i hi)
          · rw [with1_other hkj] at hk; exact with1_of (hcl k i hk hi)
        · have : (fun i => (listed.setIfInBounds j true).getD i false) = with1 (fun i => listed.getD i false) j := funext hset
          rw [this]; exact hSD'
  have hno : ∀ i, (Array.replicate ops.size false).getD i false = false := fun i => by
    rw [Array.getD_eq_getD_getElem?, Array.getElem?_replicate]; split <;> rfl
  refine main ops.size _ a _ (by simp) (by refine Nat.le_trans (List.length_filter_le _ _) ?_; simp) (fun k i hk => by rw [hno] at hk; cases hk) ?_
  refine ⟨μ, own, st.h, st.t, ?_, fun x => (TT_none hno _ x).symm, fun id => (HH_none hno _ id).symm, fun id p L hl => .inl (H0.inv.pl id p L hl)⟩
  exact H0.drawn.ext (fun _ => rfl) (fun _ => rfl) (by show st.n ≤ st.n + 64 * ops.size; omega)
end Go.Am
/- THE ABSTRACT MACHINE (AM): its code does what the machine's does. No condition. -/
namespace Go.Am
set_option linter.unusedSimpArgs false
set_option linter.unusedVariables false

def toExit : Ex → Exit
  | .norm => .normal
  | .exit id => .exit id
  | .ret => .ret
/-- The loops' bodies, in the text's order. -/
def loopsC : Code → List Code
  | .seq a b => loopsC a ++ loopsC b
  | .cond _ a b => loopsC a ++ loopsC b
  | .block _ a => loopsC a
  | .loop a => a :: loopsC a
  | _ => []
theorem slimC_len {P : Program} {ann : Nat → List Bool} {nt f : Nat} {lives : List (List Nat)} : ∀ {c : Code} {n : Nat} {s : SCode} {ls : List (List Nat × SCode)} {m : Nat}, slimC P ann nt f lives c n = some (s, ls, m) → m = n + ls.length ∧ ls.length = (loopsC c).length := by
  intro c
  induction c with
  | skip => intro n s ls m h; simp [slimC] at h; obtain ⟨_, rfl, rfl⟩ := h; simp [loopsC]
  | region id ops draw =>
    intro n s ls m h
    simp only [slimC] at h
    split at h
    · split at h
      · split at h
        · simp at h; obtain ⟨_, rfl, rfl⟩ := h; simp [loopsC]
        · cases h
      · simp at h; obtain ⟨_, rfl, rfl⟩ := h; simp [loopsC]
    · cases h
  | seq a b iha ihb =>
    intro n s ls m h
    simp only [slimC] at h
    split at h
    · rename_i a' la k1 h1
      split at h
      · rename_i b' lb k2 h2
        simp at h; obtain ⟨_, rfl, rfl⟩ := h
        have e1 := iha h1
        have e2 := ihb h2
        simp [loopsC]; omega
      · cases h
    · cases h
  | cond c a b iha ihb =>
    intro n s ls m h
    simp only [slimC] at h
    split at h
    · rename_i c' a' la k1 hc h1
      split at h
      · rename_i b' lb k2 h2
        simp at h; obtain ⟨_, rfl, rfl⟩ := h
        have e1 := iha h1
        have e2 := ihb h2
        simp [loopsC]; omega
      · cases h
    · cases h
  | block id a iha =>
    intro n s ls m h
    simp only [slimC] at h
    split at h
    · rename_i a' la k1 h1
      simp at h; obtain ⟨_, rfl, rfl⟩ := h
      have e1 := iha h1
      simp [loopsC]; omega
    · cases h
  | loop a iha =>
    intro n s ls m h
    simp only [slimC] at h
    split at h
    · rename_i a' la k1 h1
      simp at h; obtain ⟨_, rfl, rfl⟩ := h
      have e1 := iha h1
      simp [loopsC]; omega
    · cases h
  | exit id => intro n s ls m h; simp [slimC] at h; obtain ⟨_, rfl, rfl⟩ := h; simp [loopsC]
  | ret => intro n s ls m h; simp [slimC] at h; obtain ⟨_, rfl, rfl⟩ := h; simp [loopsC]
  | _ => intro n s ls m h; simp [slimC] at h
/-- Where a loop's body stands: its form. -/
theorem slimC_loop {P : Program} {ann : Nat → List Bool} {nt f : Nat} {lives : List (List Nat)} : ∀ {c : Code} {n : Nat} {s : SCode} {ls : List (List Nat × SCode)} {m : Nat}, slimC P ann nt f lives c n = some (s, ls, m) → ∀ {i : Nat} {body : Code}, (loopsC c)[i]? = some body →
    ∃ s' ls' m', slimC P ann nt f lives body (n + i + 1) = some (s', ls', m') ∧ ls[i]? = some (lives.getD (n + i) [], s') ∧ ∀ j b, (loopsC body)[j]? = some b → (loopsC c)[i + 1 + j]? = some b := by
  intro c
  induction c with
  | seq a b iha ihb =>
    intro n s ls m h i body hi
    simp only [slimC] at h
    split at h
    · rename_i a' la k1 h1
      split at h
      · rename_i b' lb k2 h2
        simp at h; obtain ⟨_, rfl, rfl⟩ := h
        have e1 := slimC_len h1
        simp only [loopsC] at hi ⊢
        by_cases hlt : i < (loopsC a).length
        · rw [List.getElem?_append_left hlt] at hi
          obtain ⟨s', ls', m', q1, q2, q3⟩ := iha h1 hi
          refine ⟨s', ls', m', q1, by rw [List.getElem?_append_left (by omega)]; exact q2, fun j b' hj => ?_⟩
          have := q3 j b' hj
          rw [List.getElem?_append_left (List.getElem?_eq_some_iff.1 this).1]; exact this
        · rw [List.getElem?_append_right (by omega)] at hi
          obtain ⟨s', ls', m', q1, q2, q3⟩ := ihb h2 hi
          refine ⟨s', ls', m', ?_, ?_, fun j b' hj => ?_⟩
          · rw [show n + i + 1 = k1 + (i - (loopsC a).length) + 1 by omega]; exact q1
          · rw [List.getElem?_append_right (by omega), show i - la.length = i - (loopsC a).length by omega, show n + i = k1 + (i - (loopsC a).length) by omega]; exact q2
          · have := q3 j b' hj
            rw [List.getElem?_append_right (by omega), show i + 1 + j - (loopsC a).length = i - (loopsC a).length + 1 + j by omega]; exact this
      · cases h
    · cases h
  | cond c a b iha ihb =>
    intro n s ls m h i body hi
    simp only [slimC] at h
    split at h
    · rename_i c' a' la k1 hc h1
      split at h
      · rename_i b' lb k2 h2
        simp at h; obtain ⟨_, rfl, rfl⟩ := h
        have e1 := slimC_len h1
        simp only [loopsC] at hi ⊢
        by_cases hlt : i < (loopsC a).length
        · rw [List.getElem?_append_left hlt] at hi
          obtain ⟨s', ls', m', q1, q2, q3⟩ := iha h1 hi
          refine ⟨s', ls', m', q1, by rw [List.getElem?_append_left (by omega)]; exact q2, fun j b' hj => ?_⟩
          have := q3 j b' hj
          rw [List.getElem?_append_left (List.getElem?_eq_some_iff.1 this).1]; exact this
        · rw [List.getElem?_append_right (by omega)] at hi
          obtain ⟨s', ls', m', q1, q2, q3⟩ := ihb h2 hi
          refine ⟨s', ls', m', ?_, ?_, fun j b' hj => ?_⟩
          · rw [show n + i + 1 = k1 + (i - (loopsC a).length) + 1 by omega]; exact q1
          · rw [List.getElem?_append_right (by omega), show i - la.length = i - (loopsC a).length by omega, show n + i = k1 + (i - (loopsC a).length) by omega]; exact q2
          · have := q3 j b' hj
            rw [List.getElem?_append_right (by omega), show i + 1 + j - (loopsC a).length = i - (loopsC a).length + 1 + j by omega]; exact this
      · cases h
    · cases h
  | block id a iha =>
    intro n s ls m h i body hi
    simp only [slimC] at h
    split at h
    · rename_i a' la k1 h1
      simp at h; obtain ⟨_, rfl, rfl⟩ := h
      simp only [loopsC] at hi ⊢
      exact iha h1 hi
    · cases h
  | loop a iha =>
    intro n s ls m h i body hi
    simp only [slimC] at h
    split at h
    · rename_i a' la k1 h1
      simp at h; obtain ⟨_, rfl, rfl⟩ := h
      simp only [loopsC] at hi ⊢
      cases i with
      | zero =>
        simp at hi; subst hi
        exact ⟨a', la, k1, by simpa using h1, by simp, fun j b hj => by rw [show 0 + 1 + j = j + 1 by omega]; simpa using hj⟩
      | succ i =>
        simp at hi
        obtain ⟨s', ls', m', q1, q2, q3⟩ := iha h1 hi
        refine ⟨s', ls', m', by rw [show n + (i + 1) + 1 = n + 1 + i + 1 by omega]; exact q1, ?_, fun j b hj => ?_⟩
        · rw [show n + (i + 1) = n + 1 + i by omega]; simpa using q2
        · rw [show i + 1 + 1 + j = (i + 1 + j) + 1 by omega]; simpa using q3 j b hj
    · cases h
  | _ => intro n s ls m h i body hi; simp [loopsC] at hi
/-- The oracle's word on a function's loops holds in the machine. -/
def LoopOk (P : Program) (B : Nat → Option Obj) (f : Nat) (nt : Nat) (bodies : List Code) (L : LOracle) : Prop :=
  ∀ l k st ex st', L f l k st = some (ex, st') → ∀ body, bodies[l]? = some body → ∀ (X : Ctx), X.P = P → X.B = B → X.k = k → ∀ a W, SInv X nt st a W → ∀ Q : Exit → Act → World → Prop, (∀ a' W', SInv X nt st' a' W' → Q (toExit ex) a' W') → (Code.loop body).wp P Q a W
theorem code_sound {X : Ctx} {nt f : Nat} {C : Oracle} {L : LOracle} {bodies : List Code} (HC : OracleOk X.P X.B C) (HL : LoopOk X.P X.B f nt bodies L) (hmx : X.P.follows .mixedOrders = true) {ann : Nat → List Bool} {lives : List (List Nat)} : ∀ {c : Code} {n : Nat} {s : SCode} {ls : List (List Nat × SCode)} {m : Nat}, slimC X.P ann nt f lives c n = some (s, ls, m) →
    (∀ j b, (loopsC c)[j]? = some b → bodies[n + j]? = some b) → ∀ {st st' : St} {ex : Ex}, evalCode C L X.k s st = some (ex, st') → ∀ {a : Act} {W : World}, SInv X nt st a W → ∀ {Q : Exit → Act → World → Prop}, (∀ a' W', SInv X nt st' a' W' → Q (toExit ex) a' W') → c.wp X.P Q a W := by
  intro c
  induction c with
  | skip =>
    intro n s ls m h hb st st' ex hr a W hS Q hq
    simp [slimC] at h; obtain ⟨rfl, _, _⟩ := h
    simp [evalCode] at hr; obtain ⟨rfl, rfl⟩ := hr
    exact wp_skip (hq a W hS)
  | region id ops draw =>
    intro n s ls m h hb st st' ex hr a W hS Q hq
    simp only [slimC] at h
    split at h
    · rename_i l hl
      split at h
      · rename_i hd
        split at h
        · rename_i ha
          simp at h; obtain ⟨rfl, _, _⟩ := h
          simp only [evalCode] at hr
          split at hr
          · rename_i st1 h1
            simp at hr; obtain ⟨rfl, rfl⟩ := hr
            subst hd
            exact draw_sound HC hmx hl ha h1 hS hq id
          · cases hr
        · cases h
      · rename_i hd
        simp at h; obtain ⟨rfl, _, _⟩ := h
        simp only [evalCode] at hr
        split at hr
        · rename_i st1 h1
          simp at hr; obtain ⟨rfl, rfl⟩ := hr
          have : draw = false := by simpa using hd
          subst this
          exact region_sound HC hl h1 hS hq id
        · cases hr
    · cases h
  | seq x y iha ihb =>
    intro n s ls m h hb st st' ex hr a W hS Q hq
    simp only [slimC] at h
    split at h
    · rename_i a' la k1 h1
      split at h
      · rename_i b' lb k2 h2
        simp at h; obtain ⟨rfl, _, _⟩ := h
        have e1 := slimC_len h1
        have hbx : ∀ j b, (loopsC x)[j]? = some b → bodies[n + j]? = some b := fun j b hj => hb j b (by simp only [loopsC]; rw [List.getElem?_append_left (List.getElem?_eq_some_iff.1 hj).1]; exact hj)
        have hby : ∀ j b, (loopsC y)[j]? = some b → bodies[k1 + j]? = some b := fun j b hj => by
          rw [show k1 + j = n + ((loopsC x).length + j) by omega]
          refine hb _ b ?_
          simp only [loopsC]
          rw [List.getElem?_append_right (by omega), show (loopsC x).length + j - (loopsC x).length = j by omega]; exact hj
        simp only [evalCode] at hr
        refine wp_seq ?_
        split at hr
        · rename_i st1 hr1
          exact iha h1 hbx hr1 hS fun a1 W1 hS1 => ihb h2 hby hr hS1 hq
        · rename_i id st1 hr1
          simp at hr; obtain ⟨rfl, rfl⟩ := hr
          exact iha h1 hbx hr1 hS hq
        · rename_i st1 hr1
          simp at hr; obtain ⟨rfl, rfl⟩ := hr
          exact iha h1 hbx hr1 hS hq
        · cases hr
      · cases h
    · cases h
  | cond c x y iha ihb =>
    intro n s ls m h hb st st' ex hr a W hS Q hq
    simp only [slimC] at h
    split at h
    · rename_i c' a' la k1 hc h1
      split at h
      · rename_i b' lb k2 h2
        simp at h; obtain ⟨rfl, _, _⟩ := h
        have e1 := slimC_len h1
        have hbx : ∀ j b, (loopsC x)[j]? = some b → bodies[n + j]? = some b := fun j b hj => hb j b (by simp only [loopsC]; rw [List.getElem?_append_left (List.getElem?_eq_some_iff.1 hj).1]; exact hj)
        have hby : ∀ j b, (loopsC y)[j]? = some b → bodies[k1 + j]? = some b := fun j b hj => by
          rw [show k1 + j = n + ((loopsC x).length + j) by omega]
          refine hb _ b ?_
          simp only [loopsC]
          rw [List.getElem?_append_right (by omega), show (loopsC x).length + j - (loopsC x).length = j by omega]; exact hj
        have hcv : ∃ μ own, Holds X nt st a W μ own := hS
        obtain ⟨μ, own, H⟩ := hcv
        have hv := opd_rel hc H.tmp
        simp only [evalCode] at hr
        split at hr
        · rename_i e
          rw [e] at hv
          exact wp_cond_true hv.bool (iha h1 hbx hr hS hq)
        · rename_i e
          rw [e] at hv
          exact wp_cond_false hv.bool (ihb h2 hby hr hS hq)
        · cases hr
      · cases h
    · cases h
  | block id x iha =>
    intro n s ls m h hb st st' ex hr a W hS Q hq
    simp only [slimC] at h
    split at h
    · rename_i a' la k1 h1
      simp at h; obtain ⟨rfl, _, _⟩ := h
      simp only [evalCode] at hr
      refine wp_block ?_
      split at hr
      · rename_i id' st1 hr1
        split at hr
        · rename_i e
          simp at hr; obtain ⟨rfl, rfl⟩ := hr
          exact iha h1 hb hr1 hS fun a1 W1 hS1 => by simp only [toExit, Exit.inBlock, e, if_true]; exact hq a1 W1 hS1
        · rename_i e
          simp at hr; obtain ⟨rfl, rfl⟩ := hr
          exact iha h1 hb hr1 hS fun a1 W1 hS1 => by simp only [toExit, Exit.inBlock, e, if_false]; exact hq a1 W1 hS1
      · rename_i st1 hr1
        simp at hr; obtain ⟨rfl, rfl⟩ := hr
        exact iha h1 hb hr1 hS hq
      · rename_i st1 hr1
        simp at hr; obtain ⟨rfl, rfl⟩ := hr
        exact iha h1 hb hr1 hS hq
      · cases hr
    · cases h
  | loop x iha =>
    intro n s ls m h hb st st' ex hr a W hS Q hq
    simp only [slimC] at h
    split at h
    · rename_i a' la k1 h1
      simp at h; obtain ⟨rfl, _, _⟩ := h
      simp only [evalCode] at hr
      exact HL n X.k _ ex st' hr x (by have := hb 0 x (by simp [loopsC]); simpa using this) X rfl rfl rfl a W (norm_sound hS _) Q hq
    · cases h
  | exit id =>
    intro n s ls m h hb st st' ex hr a W hS Q hq
    simp [slimC] at h; obtain ⟨rfl, _, _⟩ := h
    simp [evalCode] at hr; obtain ⟨rfl, rfl⟩ := hr
    exact wp_exit (hq a W hS)
  | ret =>
    intro n s ls m h hb st st' ex hr a W hS Q hq
    simp [slimC] at h; obtain ⟨rfl, _, _⟩ := h
    simp [evalCode] at hr; obtain ⟨rfl, rfl⟩ := hr
    exact wp_ret (hq a W hS)
  | _ => intro n s ls m h; simp [slimC] at h
end Go.Am
/- THE ABSTRACT MACHINE (AM): what it comes to, the machine comes to. No condition. -/
namespace Go.Am
set_option linter.unusedSimpArgs false
set_option linter.unusedVariables false

theorem least (p : Nat → Prop) (h : ∃ n, p n) : ∃ n, p n ∧ ∀ m, p m → n ≤ m := by
  obtain ⟨n, hn⟩ := h
  induction n using Nat.strongRecOn with
  | _ n ih =>
    by_cases hx : ∃ m, m < n ∧ p m
    · obtain ⟨m, hm, hp⟩ := hx; exact ih m hm hp
    · exact ⟨n, hn, fun m hm => Nat.le_of_not_lt fun hlt => hx ⟨m, hlt, hm⟩⟩
/-- Each function's form is that of the program's code. -/
def FuncsOk (P : Program) (ann : Nat → List Bool) (F : Funcs) : Prop := ∀ f fn ls, F f = some (fn, ls) → ∃ lives, slimF P ann lives f = some (fn, ls)
def ExtOk (P : Program) (B : Nat → Option Obj) (E : Ext) : Prop := ∀ f g, E f = some g → ∀ args h0 r h1, g args h0 = some (r, h1) → CallOk P B f args h0 r h1
theorem slimF_inv {P : Program} {ann : Nat → List Bool} {lives : List (List Nat)} {f : Nat} {fn : SFunc} {ls : List (List Nat × SCode)} (h : slimF P ann lives f = some (fn, ls)) :
    ∃ g c rs s m, P.funcs[f]? = some g ∧ g.body = some c ∧ g.name ≠ "runtime.NumGoroutine" ∧ slimR P g.results.toList = some rs ∧ slimC P ann g.ntmps f lives c 0 = some (s, ls, m) ∧ fn = { nargs := g.params.size + g.nfree, results := rs, body := s } := by
  unfold slimF at h
  split at h
  · rename_i g hg
    split at h
    · rename_i c rs hc hrs
      split at h
      · cases h
      · rename_i hn
        split at h
        · rename_i s ls' m hs
          simp at h
          obtain ⟨rfl, rfl⟩ := h
          exact ⟨g, c, rs, s, m, hg, hc, hn, hrs, hs, rfl⟩
        · cases h
    · cases h
  · cases h
theorem enters_of {P : Program} {f : FuncId} {g : Func} {c : Code} (hg : P.funcs[f]? = some g) (hc : g.body = some c) (hn : g.name ≠ "runtime.NumGoroutine") : Enters P f := by
  intro args W
  simp [callFunc, hg, hc, hn]
def AllLoops (P : Program) (B : Nat → Option Obj) (L : LOracle) : Prop := ∀ f g c, P.funcs[f]? = some g → g.body = some c → LoopOk P B f g.ntmps (loopsC c) L
theorem get_args : ∀ (l : List AV) (i j : Nat), get (argTemps l i) j = .junk ∨ (i ≤ j ∧ ∃ x, l[j - i]? = some x ∧ get (argTemps l i) j = x)
  | [], i, j => .inl rfl
  | v :: l, i, j => by
    simp only [argTemps, get]
    split
    · rename_i e; subst e; exact .inr ⟨Nat.le_refl _, v, by simp, rfl⟩
    · rename_i e
      rcases get_args l (i + 1) j with h | ⟨h1, x, h2, h3⟩
      · exact .inl h
      · refine .inr ⟨by omega, x, ?_, h3⟩
        rw [show j - i = (j - (i + 1)) + 1 by omega]; simpa using h2
section
variable {P : Program} {B : Nat → Option Obj} {ann : Nat → List Bool} {E : Ext} {F : Funcs}
theorem fn_sound {C : Oracle} {L : LOracle} (hF : FuncsOk P ann F) (hmx : P.follows .mixedOrders = true) (HC : OracleOk P B C) (HL : AllLoops P B L) {f : Nat} {args : List AV} {h : Heap} {r : AV} {h1 : Heap} (hr : evalFn C L F f args h = some (r, h1)) : CallOk P B f args h r h1 := by
  unfold evalFn at hr
  split at hr
  · cases hr
  · rename_i fn ls hf
    obtain ⟨lives, hsl⟩ := hF f fn ls hf
    obtain ⟨g, c, rs, s, m, hg, hc, hn, hrs, hs, rfl⟩ := slimF_inv hsl
    refine ⟨enters_of hg hc hn, ?_⟩
    intro W Fx Fr μ own cargs hB H hargs
    split at hr
    · let X : Ctx := ⟨P, B, W, Fx, Fr, μ, h, own, h.length⟩
      have hS : SInv X g.ntmps { t := argTemps args 0, h := h, n := h.length } { tmps := cargs ++ Array.replicate (g.ntmps - cargs.size) undef, defers := [] } W := by
        refine ⟨μ, own, H, ?_, hB, fun _ _ _ => rfl, .refl _ _ _, fun x hx => .inr hx, Nat.le_refl _, by simp; omega, rfl⟩
        intro j
        rcases get_args args 0 j with e | ⟨_, x, hx, e⟩
        · simp only [e]; trivial
        · simp only [Nat.sub_zero] at hx
          obtain ⟨cv, hcv, hrv⟩ := hargs.index.2 j x hx
          simp only [e]
          have hcv' : cargs[j]? = some cv := by simpa using hcv
          have hlt := (Array.getElem?_eq_some_iff.1 hcv').1
          have : (cargs ++ Array.replicate (g.ntmps - cargs.size) undef).getD j undef = cv := by
            rw [Array.getD_eq_getD_getElem?, Array.getElem?_append_left hlt, hcv']; rfl
          rw [this]; exact hrv
      have fin : ∀ {ex : Ex} {st : St}, (ex = .norm ∨ ex = .ret) → evalCode C L h.length s { t := argTemps args 0, h := h, n := h.length } = some (ex, st) → finish h.length rs st = some (r, h1) → Calls P f cargs W fun e W' => ∃ cv, e = .returned cv ∧ Ret W Fx Fr μ h own r h1 cv W' := by
        intro ex st hex he hfin
        refine calls_of_wp hg hc ?_
        refine code_sound (X := X) HC (HL f g c hg hc) hmx hs (fun j b hj => by simpa using hj) he hS ?_
        intro a' W' hS'
        obtain ⟨cv, h2, h3⟩ := finish_sound (X := X) (fn := g) hS' rfl hrs hfin
        have hd : a'.defers = [] := by obtain ⟨_, _, H'⟩ := hS'; exact H'.df
        rcases hex with rfl | rfl
        · exact ⟨hd, cv, h2, cv, rfl, h3⟩
        · exact ⟨hd, cv, h2, cv, rfl, h3⟩
      split at hr
      · rename_i st he; exact fin (.inl rfl) he hr
      · rename_i st he; exact fin (.inr rfl) he hr
      · cases hr
    · cases hr
theorem loops_sound (hF : FuncsOk P ann F) (hmx : P.follows .mixedOrders = true) {n : Nat} (IH : ∀ m, m < n → OracleOk P B (iter E F m).1 ∧ AllLoops P B (iter E F m).2) : AllLoops P B (iter E F n).2 := by
  intro f g c hg hc l k st ex st' hr body hbody X hP hB hk a W hS Q hq
  subst hP; subst hB; subst hk
  let p : Act → World → Nat → Prop := fun a w j => j ≤ n ∧ ∃ st, (iter E F j).2 f l X.k st = some (ex, st') ∧ SInv X g.ntmps st a w
  let μ : Act → World → Nat := fun a w => open Classical in if h : ∃ j, p a w j then Classical.choose (least _ h) else 0
  have hμ : ∀ a w (h : ∃ j, p a w j), p a w (μ a w) ∧ ∀ m, p a w m → μ a w ≤ m := by
    intro a w h
    have := Classical.choose_spec (least _ h)
    simp only [μ, h, dite_true]
    exact this
  refine wp_loop (fun a w => ∃ j, p a w j) μ ⟨n, Nat.le_refl _, st, hr, hS⟩ ?_
  intro a1 w1 hI
  obtain ⟨⟨hle, st1, hr1, hS1⟩, hmin⟩ := hμ a1 w1 hI
  obtain ⟨j, hj⟩ : ∃ j, μ a1 w1 = j := ⟨_, rfl⟩
  rw [hj] at hle hr1 hmin
  rw [hj]
  cases j with
  | zero => simp [iter] at hr1
  | succ i =>
    obtain ⟨HC, HL⟩ := IH i (by omega)
    simp only [iter] at hr1
    unfold evalLoop at hr1
    split at hr1
    · cases hr1
    · rename_i fn ls hf
      obtain ⟨lives, hsl⟩ := hF f fn ls hf
      obtain ⟨g', c', rs, s, m, hg', hc', hn, hrs, hs, rfl⟩ := slimF_inv hsl
      obtain rfl : g = g' := by rw [hg] at hg'; exact Option.some.inj hg'
      obtain rfl : c = c' := by rw [hc] at hc'; exact Option.some.inj hc'
      obtain ⟨s', ls', m', q1, q2, q3⟩ := slimC_loop hs hbody
      rw [q2] at hr1
      simp only at hr1
      have hloc : ∀ j b, (loopsC body)[j]? = some b → (loopsC c)[0 + l + 1 + j]? = some b := fun j b hj => by
        rw [show 0 + l + 1 + j = l + 1 + j by omega]; exact q3 j b hj
      split at hr1
      · rename_i st2 he
        refine code_sound HC (HL f g c hg hc) hmx q1 hloc he hS1 ?_
        intro a2 w2 hS2
        have hp : p a2 w2 i := ⟨by omega, _, hr1, norm_sound hS2 _⟩
        have := (hμ a2 w2 ⟨i, hp⟩).2 i hp
        exact ⟨⟨i, hp⟩, by omega⟩
      · rename_i id st2 he
        simp at hr1
        obtain ⟨rfl, rfl⟩ := hr1
        exact code_sound HC (HL f g c hg hc) hmx q1 hloc he hS1 hq
      · rename_i st2 he
        simp at hr1
        obtain ⟨rfl, rfl⟩ := hr1
        exact code_sound HC (HL f g c hg hc) hmx q1 hloc he hS1 hq
      · cases hr1
theorem iter_sound (hE : ExtOk P B E) (hF : FuncsOk P ann F) (hmx : P.follows .mixedOrders = true) : ∀ n, OracleOk P B (iter E F n).1 ∧ AllLoops P B (iter E F n).2 := by
  intro n
  induction n using Nat.strongRecOn with
  | _ n ih =>
    refine ⟨?_, loops_sound hF hmx ih⟩
    cases n with
    | zero => intro f args h0 r h1 h; simp [iter] at h
    | succ n =>
      intro f args h0 r h1 h
      simp only [iter] at h
      split at h
      · rename_i g hg; exact hE f g hg args h0 r h1 h
      · exact fn_sound hF hmx (ih n (by omega)).1 (ih n (by omega)).2 h
end
end Go.Am
/- THE ABSTRACT MACHINE (AM): the limit of its runs: what a call comes to with enough rounds. No condition. -/
namespace Go.Am
set_option linter.unusedSimpArgs false
set_option linter.unusedVariables false

/-- An operation asks its oracle at one place at most. -/
theorem callOn_one (h : Heap) (n f : Nat) (args : List AV) (mt : List Bool) : ∃ g a h0, ∀ C C' : Oracle, C g a h0 = C' g a h0 → callOn C h n f args mt = callOn C' h n f args mt := by
  unfold callOn
  simp only
  cases hl : lendA h (reach h fuel (placesOf args mt) []) (numbered (reach h fuel (placesOf args mt) []) 0) args with
  | none => exact ⟨0, [], [], fun _ _ _ => rfl⟩
  | some args' => exact ⟨f, args', _, fun C C' e => by simp only; rw [e]⟩
theorem callNest_one (h : Heap) (n f : Nat) (args : List AV) (mt : List Bool) : ∃ g a h0, ∀ C C' : Oracle, C g a h0 = C' g a h0 → callNest C h n f args mt = callNest C' h n f args mt := by
  unfold callNest
  cases hl : nestArgs h args mt with
  | none => exact ⟨0, [], [], fun _ _ _ => rfl⟩
  | some q =>
    obtain ⟨args', id, r, c, sz, rows⟩ := q
    exact ⟨f, args', _, fun C C' e => by simp only; rw [e]⟩
theorem doCall_one (h : Heap) (n f : Nat) (args : List AV) (mt : List Bool) : ∃ g a h0, ∀ C C' : Oracle, C g a h0 = C' g a h0 → doCall C h n f args mt = doCall C' h n f args mt := by
  unfold doCall
  split
  · exact callNest_one h n f args mt
  · exact callOn_one h n f args mt
theorem opRun_one (t : Temps) (h : Heap) (n : Nat) (op : SOp) : ∃ g a h0, ∀ C C' : Oracle, C g a h0 = C' g a h0 → opRun C t h n op = opRun C' t h n op := by
  cases op with
  | call f args mt => exact doCall_one h n f (evL t args) mt
  | callv x args mt =>
    simp only [opRun]
    split
    · split
      · exact callOn_one ..
      · exact ⟨0, [], [], fun _ _ _ => rfl⟩
    · exact ⟨0, [], [], fun _ _ _ => rfl⟩
  | _ => exact ⟨0, [], [], fun _ _ _ => rfl⟩
/-- A row of oracles that know more and more, and their limit. -/
structure Tower (Cs : Nat → Oracle) (Ls : Nat → LOracle) (C : Oracle) (L : LOracle) : Prop where
  c : ∀ f a h r, C f a h = some r → ∃ n, ∀ m, n ≤ m → Cs m f a h = some r
  l : ∀ f l k st r, L f l k st = some r → ∃ n, ∀ m, n ≤ m → Ls m f l k st = some r
section
variable {Cs : Nat → Oracle} {Ls : Nat → LOracle} {C : Oracle} {L : LOracle}
theorem callOn_bot {h : Heap} {n f : Nat} {args : List AV} {mt : List Bool} {r : AV × Heap × Nat} {C' : Oracle} (hr : callOn (fun _ _ _ => none) h n f args mt = some r) : callOn C' h n f args mt = some r := by
  unfold callOn at hr
  simp only at hr
  split at hr <;> cases hr
theorem callNest_bot {h : Heap} {n f : Nat} {args : List AV} {mt : List Bool} {r : AV × Heap × Nat} {C' : Oracle} (hr : callNest (fun _ _ _ => none) h n f args mt = some r) : callNest C' h n f args mt = some r := by
  unfold callNest at hr
  split at hr <;> cases hr
/-- What an operation does with no oracle at all it does with any. -/
theorem opRun_bot {t : Temps} {h : Heap} {n : Nat} {op : SOp} {r : AV × Heap × Nat} {C' : Oracle} (hr : opRun (fun _ _ _ => none) t h n op = some r) : opRun C' t h n op = some r := by
  cases op with
  | call f args mt =>
    simp only [opRun, doCall] at hr ⊢
    split at hr
    · rename_i hc; rw [if_pos hc]; exact callNest_bot hr
    · rename_i hc; rw [if_neg hc]; exact callOn_bot hr
  | callv x args mt =>
    simp only [opRun] at hr ⊢
    split at hr
    · split at hr
      · rename_i hc; rw [if_pos hc]; exact callOn_bot hr
      · cases hr
    · cases hr
  | _ => exact hr
theorem Tower.op (T : Tower Cs Ls C L) {t : Temps} {h : Heap} {n : Nat} {op : SOp} {r : AV × Heap × Nat} (hr : opRun C t h n op = some r) : ∃ N, ∀ m, N ≤ m → opRun (Cs m) t h n op = some r := by
  obtain ⟨g, a, h0, hone⟩ := opRun_one t h n op
  cases hc : C g a h0 with
  | none =>
    rw [hone C (fun _ _ _ => none) hc] at hr
    exact ⟨0, fun m _ => opRun_bot hr⟩
  | some q =>
    obtain ⟨N, hN⟩ := T.c _ _ _ _ hc
    exact ⟨N, fun m hm => by rw [← hone C (Cs m) (by rw [hc, hN m hm])]; exact hr⟩
theorem Tower.step (T : Tower Cs Ls C L) {st st' : St} {o : SOper} (hr : stepOp C st o = some st') : ∃ N, ∀ m, N ≤ m → stepOp (Cs m) st o = some st' := by
  unfold stepOp at hr ⊢
  split at hr
  · cases hr
  · rename_i hw; exact ⟨0, fun m _ => by first | exact hr | (rw [hw]; exact hr)⟩
  · rename_i hw
    split at hr
    · rename_i v h n hop
      obtain ⟨N, hN⟩ := T.op hop
      exact ⟨N, fun m hm => by first | (rw [hN m hm]; exact hr) | (rw [hw]; simp only; rw [hN m hm]; exact hr)⟩
    · cases hr
theorem Tower.ops (T : Tower Cs Ls C L) : ∀ {l : List SOper} {st st' : St}, runOps C l st = some st' → ∃ N, ∀ m, N ≤ m → runOps (Cs m) l st = some st'
  | [], st, st', hr => ⟨0, fun m _ => hr⟩
  | o :: l, st, st', hr => by
    simp only [runOps] at hr ⊢
    split at hr
    · rename_i st1 h1
      obtain ⟨N1, hN1⟩ := T.step h1
      obtain ⟨N2, hN2⟩ := T.ops hr
      exact ⟨max N1 N2, fun m hm => by rw [hN1 m (by omega)]; exact hN2 m (by omega)⟩
    · cases hr
theorem Tower.stepD (T : Tower Cs Ls C L) {n0 : Nat} {recs : List Rec} {free : List Nat} {st : St} {o : SOper} {r : St × Rec} (hr : Am.stepD C n0 recs free st o = some r) : ∃ N, ∀ m, N ≤ m → Am.stepD (Cs m) n0 recs free st o = some r := by
  unfold Am.stepD at hr ⊢
  split at hr
  · cases hr
  · rename_i hw; exact ⟨0, fun m _ => by first | exact hr | (rw [hw]; exact hr)⟩
  · rename_i hw
    simp only at hr
    split at hr
    · rename_i hc
      split at hr
      · rename_i v h' n' hop
        obtain ⟨N, hN⟩ := T.op hop
        exact ⟨N, fun m hm => by first | (rw [if_pos hc, hN m hm]; exact hr) | (rw [hw]; simp only; rw [if_pos hc, hN m hm]; exact hr) | (rw [hN m hm]; exact hr)⟩
      · cases hr
    · cases hr
theorem Tower.runD (T : Tower Cs Ls C L) {n0 : Nat} : ∀ {l : List SOper} {fr : List (List Nat)} {recs : List Rec} {st st' : St}, Am.runD C n0 l fr recs st = some st' → ∃ N, ∀ m, N ≤ m → Am.runD (Cs m) n0 l fr recs st = some st'
  | [], fr, recs, st, st', hr => ⟨0, fun m _ => hr⟩
  | o :: l, fr, recs, st, st', hr => by
    simp only [Am.runD] at hr ⊢
    split at hr
    · rename_i st1 r h1
      obtain ⟨N1, hN1⟩ := T.stepD h1
      obtain ⟨N2, hN2⟩ := T.runD hr
      exact ⟨max N1 N2, fun m hm => by rw [hN1 m (by omega)]; exact hN2 m (by omega)⟩
    · cases hr
theorem Tower.code (T : Tower Cs Ls C L) {k : Nat} : ∀ {c : SCode} {st : St} {r : Ex × St}, evalCode C L k c st = some r → ∃ N, ∀ m, N ≤ m → evalCode (Cs m) (Ls m) k c st = some r := by
  intro c
  induction c with
  | skip => intro st r hr; exact ⟨0, fun m _ => hr⟩
  | region ops =>
    intro st r hr
    simp only [evalCode] at hr ⊢
    split at hr
    · rename_i st1 h1
      obtain ⟨N, hN⟩ := T.ops h1
      exact ⟨N, fun m hm => by rw [hN m hm]; exact hr⟩
    · cases hr
  | draw ops free =>
    intro st r hr
    simp only [evalCode] at hr ⊢
    split at hr
    · rename_i st1 h1
      obtain ⟨N, hN⟩ := T.runD h1
      exact ⟨N, fun m hm => by rw [hN m hm]; exact hr⟩
    · cases hr
  | seq a b iha ihb =>
    intro st r hr
    simp only [evalCode] at hr ⊢
    split at hr
    · rename_i st1 h1
      obtain ⟨N1, hN1⟩ := iha h1
      obtain ⟨N2, hN2⟩ := ihb hr
      exact ⟨max N1 N2, fun m hm => by rw [hN1 m (by omega)]; exact hN2 m (by omega)⟩
    · rename_i id st1 h1
      obtain ⟨N1, hN1⟩ := iha h1
      exact ⟨N1, fun m hm => by rw [hN1 m hm]; exact hr⟩
    · rename_i st1 h1
      obtain ⟨N1, hN1⟩ := iha h1
      exact ⟨N1, fun m hm => by rw [hN1 m hm]; exact hr⟩
    · cases hr
  | cond c a b iha ihb =>
    intro st r hr
    simp only [evalCode] at hr ⊢
    split at hr
    · rename_i hc; obtain ⟨N, hN⟩ := iha hr; exact ⟨N, fun m hm => by first | exact hN m hm | (rw [hc]; exact hN m hm)⟩
    · rename_i hc; obtain ⟨N, hN⟩ := ihb hr; exact ⟨N, fun m hm => by first | exact hN m hm | (rw [hc]; exact hN m hm)⟩
    · cases hr
  | block id a iha =>
    intro st r hr
    simp only [evalCode] at hr ⊢
    split at hr
    · rename_i id' st1 h1
      obtain ⟨N1, hN1⟩ := iha h1
      exact ⟨N1, fun m hm => by rw [hN1 m hm]; exact hr⟩
    · rename_i st1 h1
      obtain ⟨N1, hN1⟩ := iha h1
      exact ⟨N1, fun m hm => by rw [hN1 m hm]; exact hr⟩
    · rename_i st1 h1
      obtain ⟨N1, hN1⟩ := iha h1
      exact ⟨N1, fun m hm => by rw [hN1 m hm]; exact hr⟩
    · cases hr
  | loop f l live => intro st r hr; exact T.l _ _ _ _ _ hr
  | exit id => intro st r hr; exact ⟨0, fun m _ => hr⟩
  | ret => intro st r hr; exact ⟨0, fun m _ => hr⟩
theorem Tower.fn (T : Tower Cs Ls C L) {F : Funcs} {f : Nat} {args : List AV} {h : Heap} {r : AV × Heap} (hr : evalFn C L F f args h = some r) : ∃ N, ∀ m, N ≤ m → evalFn (Cs m) (Ls m) F f args h = some r := by
  unfold evalFn at hr ⊢
  split at hr
  · cases hr
  · rename_i fn ls hf
    split at hr
    · rename_i hc
      split at hr
      · rename_i st h1
        obtain ⟨N, hN⟩ := T.code h1
        exact ⟨N, fun m hm => by first | (rw [if_pos hc, hN m hm]; exact hr) | (rw [hf]; simp only; rw [if_pos hc, hN m hm]; exact hr) | (rw [hN m hm]; exact hr)⟩
      · rename_i st h1
        obtain ⟨N, hN⟩ := T.code h1
        exact ⟨N, fun m hm => by first | (rw [if_pos hc, hN m hm]; exact hr) | (rw [hf]; simp only; rw [if_pos hc, hN m hm]; exact hr) | (rw [hN m hm]; exact hr)⟩
      · cases hr
    · cases hr
theorem Tower.loop (T : Tower Cs Ls C L) {F : Funcs} {f l k : Nat} {st : St} {r : Ex × St} (hr : evalLoop C L F f l k st = some r) : ∃ N, ∀ m, N ≤ m → evalLoop (Cs m) (Ls m) F f l k st = some r := by
  unfold evalLoop at hr ⊢
  split at hr
  · cases hr
  · rename_i fn ls hf
    split at hr
    · cases hr
    · rename_i live body hl
      split at hr
      · rename_i st1 h1
        obtain ⟨N1, hN1⟩ := T.code h1
        obtain ⟨N2, hN2⟩ := T.l _ _ _ _ _ hr
        exact ⟨max N1 N2, fun m hm => by first | (rw [hN1 m (by omega)]; exact hN2 m (by omega)) | (rw [hf]; simp only; rw [hl]; simp only; rw [hN1 m (by omega)]; exact hN2 m (by omega))⟩
      · rename_i id st1 h1
        obtain ⟨N1, hN1⟩ := T.code h1
        exact ⟨N1, fun m hm => by first | (rw [hN1 m hm]; exact hr) | (rw [hf]; simp only; rw [hl]; simp only; rw [hN1 m hm]; exact hr)⟩
      · rename_i st1 h1
        obtain ⟨N1, hN1⟩ := T.code h1
        exact ⟨N1, fun m hm => by first | (rw [hN1 m hm]; exact hr) | (rw [hf]; simp only; rw [hl]; simp only; rw [hN1 m hm]; exact hr)⟩
      · cases hr
end
section
variable {E : Ext} {F : Funcs}
theorem tower_of {C : Oracle} {L : LOracle} {Cs : Nat → Oracle} {Ls : Nat → LOracle} (hc : ∀ f a h r, C f a h = some r → ∀ m, Cs m f a h = some r) (hl : ∀ f l k st r, L f l k st = some r → ∀ m, Ls m f l k st = some r) : Tower Cs Ls C L :=
  ⟨fun f a h r e => ⟨0, fun m _ => hc f a h r e m⟩, fun f l k st r e => ⟨0, fun m _ => hl f l k st r e m⟩⟩
theorem iter_mono1 : ∀ n, (∀ f a h r, (iter E F n).1 f a h = some r → (iter E F (n + 1)).1 f a h = some r) ∧ (∀ f l k st r, (iter E F n).2 f l k st = some r → (iter E F (n + 1)).2 f l k st = some r)
  | 0 => ⟨fun _ _ _ _ h => by simp [iter] at h, fun _ _ _ _ _ h => by simp [iter] at h⟩
  | n + 1 => by
    obtain ⟨h1, h2⟩ := iter_mono1 n
    have T : Tower (fun _ => (iter E F (n + 1)).1) (fun _ => (iter E F (n + 1)).2) (iter E F n).1 (iter E F n).2 := tower_of (fun f a h r e _ => h1 f a h r e) (fun f l k st r e _ => h2 f l k st r e)
    constructor
    · intro f a h r hr
      rw [iter] at hr ⊢
      simp only at hr ⊢
      split at hr
      · exact hr
      · obtain ⟨N, hN⟩ := T.fn hr
        exact hN N (Nat.le_refl _)
    · intro f l k st r hr
      rw [iter] at hr ⊢
      simp only at hr ⊢
      obtain ⟨N, hN⟩ := T.loop hr
      exact hN N (Nat.le_refl _)
theorem iter_mono {n m : Nat} (h : n ≤ m) : (∀ f a h r, (iter E F n).1 f a h = some r → (iter E F m).1 f a h = some r) ∧ (∀ f l k st r, (iter E F n).2 f l k st = some r → (iter E F m).2 f l k st = some r) := by
  induction m with
  | zero => rw [show n = 0 by omega]; exact ⟨fun _ _ _ _ h => h, fun _ _ _ _ _ h => h⟩
  | succ m ih =>
    by_cases hn : n = m + 1
    · subst hn; exact ⟨fun _ _ _ _ h => h, fun _ _ _ _ _ h => h⟩
    · obtain ⟨h1, h2⟩ := ih (by omega)
      obtain ⟨h3, h4⟩ := iter_mono1 (E := E) (F := F) m
      exact ⟨fun f a h r e => h3 _ _ _ _ (h1 _ _ _ _ e), fun f l k st r e => h4 _ _ _ _ _ (h2 _ _ _ _ _ e)⟩
open Classical in
/-- What a call comes to. -/
noncomputable def lim (E : Ext) (F : Funcs) : Oracle := fun f a h => if c : ∃ n r, (iter E F n).1 f a h = some r then some c.choose_spec.choose else none
open Classical in
/-- What a loop comes to. -/
noncomputable def limL (E : Ext) (F : Funcs) : LOracle := fun f l k st => if c : ∃ n r, (iter E F n).2 f l k st = some r then some c.choose_spec.choose else none
theorem lim_some {f : Nat} {a : List AV} {h : Heap} {r : AV × Heap} : lim E F f a h = some r ↔ ∃ n, (iter E F n).1 f a h = some r := by
  unfold lim
  split
  · rename_i c
    have hc := c.choose_spec.choose_spec
    constructor
    · intro e; rw [Option.some.inj e] at hc; exact ⟨_, hc⟩
    · rintro ⟨n, e⟩
      have e1 := (iter_mono (E := E) (F := F) (Nat.le_max_left n c.choose)).1 _ _ _ _ e
      have e2 := (iter_mono (E := E) (F := F) (Nat.le_max_right n c.choose)).1 _ _ _ _ hc
      rw [e1] at e2; exact e2.symm
  · rename_i c
    exact ⟨fun e => (by cases e), fun ⟨n, e⟩ => absurd ⟨n, r, e⟩ c⟩
theorem limL_some {f l k : Nat} {st : St} {r : Ex × St} : limL E F f l k st = some r ↔ ∃ n, (iter E F n).2 f l k st = some r := by
  unfold limL
  split
  · rename_i c
    have hc := c.choose_spec.choose_spec
    constructor
    · intro e; rw [Option.some.inj e] at hc; exact ⟨_, hc⟩
    · rintro ⟨n, e⟩
      have e1 := (iter_mono (E := E) (F := F) (Nat.le_max_left n c.choose)).2 _ _ _ _ _ e
      have e2 := (iter_mono (E := E) (F := F) (Nat.le_max_right n c.choose)).2 _ _ _ _ _ hc
      rw [e1] at e2; exact e2.symm
  · rename_i c
    exact ⟨fun e => (by cases e), fun ⟨n, e⟩ => absurd ⟨n, r, e⟩ c⟩
theorem lim_tower : Tower (fun n => (iter E F n).1) (fun n => (iter E F n).2) (lim E F) (limL E F) :=
  ⟨fun f a h r e => let ⟨n, hn⟩ := lim_some.1 e; ⟨n, fun m hm => (iter_mono hm).1 _ _ _ _ hn⟩, fun f l k st r e => let ⟨n, hn⟩ := limL_some.1 e; ⟨n, fun m hm => (iter_mono hm).2 _ _ _ _ _ hn⟩⟩
/-- A function of the program: its code, by the limit. -/
theorem lim_fn {f : Nat} {a : List AV} {h : Heap} {r : AV × Heap} (hE : E f = none) (hr : evalFn (lim E F) (limL E F) F f a h = some r) : lim E F f a h = some r := by
  obtain ⟨N, hN⟩ := lim_tower.fn hr
  refine lim_some.2 ⟨N + 1, ?_⟩
  simp only [iter, hE]
  exact hN N (Nat.le_refl _)
theorem lim_ext {f : Nat} {a : List AV} {h : Heap} {r : AV × Heap} {g : List AV → Heap → Option (AV × Heap)} (hE : E f = some g) (hr : g a h = some r) : lim E F f a h = some r :=
  lim_some.2 ⟨1, by simp only [iter, hE]; exact hr⟩
theorem lim_loop {f l k : Nat} {st : St} {r : Ex × St} (hr : evalLoop (lim E F) (limL E F) F f l k st = some r) : limL E F f l k st = some r := by
  obtain ⟨N, hN⟩ := lim_tower.loop hr
  refine limL_some.2 ⟨N + 1, ?_⟩
  simp only [iter]
  exact hN N (Nat.le_refl _)
theorem lim_sound {P : Program} {B : Nat → Option Obj} {ann : Nat → List Bool} (hE : ExtOk P B E) (hF : FuncsOk P ann F) (hmx : P.follows .mixedOrders = true) : OracleOk P B (lim E F) := by
  intro f args h0 r h1 h
  obtain ⟨n, hn⟩ := lim_some.1 h
  exact (iter_sound hE hF hmx n).1 f args h0 r h1 hn
end
end Go.Am
/- THE ABSTRACT MACHINE (AM): its code, step by step, with what is to hold behind it. No condition. -/
namespace Go.Am
set_option linter.unusedSimpArgs false
set_option linter.unusedVariables false

/-- What is still to be done behind a piece of code. -/
inductive Fr where
  | seq (b : SCode)
  | blk (id : Nat)
section
variable (C : Oracle) (L : LOracle) (k : Nat)
def KQ : List Fr → (Ex → St → Prop) → Ex → St → Prop
  | [], Q, e, st => Q e st
  | .seq b :: ks, Q, .norm, st => ∃ e' st', evalCode C L k b st = some (e', st') ∧ KQ ks Q e' st'
  | .seq _ :: ks, Q, .exit id, st => KQ ks Q (.exit id) st
  | .seq _ :: ks, Q, .ret, st => KQ ks Q .ret st
  | .blk id :: ks, Q, .exit id', st => if id' = id then KQ ks Q .norm st else KQ ks Q (.exit id') st
  | .blk _ :: ks, Q, .norm, st => KQ ks Q .norm st
  | .blk _ :: ks, Q, .ret, st => KQ ks Q .ret st
def G (ks : List Fr) (c : SCode) (st : St) (Q : Ex → St → Prop) : Prop := ∃ e st', evalCode C L k c st = some (e, st') ∧ KQ C L k ks Q e st'
/-- A loop: what holds behind it. -/
def LW (f l : Nat) (st : St) (Q : Ex → St → Prop) : Prop := ∃ e st', L f l k st = some (e, st') ∧ Q e st'
def R (ops : List SOper) (ks : List Fr) (st : St) (Q : Ex → St → Prop) : Prop := ∃ st', runOps C ops st = some st' ∧ KQ C L k ks Q .norm st'
def R1 (r : Option (AV × Heap × Nat)) (d : Option Nat) (l : List SOper) (ks : List Fr) (t : Temps) (Q : Ex → St → Prop) : Prop := match r with
  | some (v, h, n) => R C L k l ks ⟨putT t d v, h, n⟩ Q
  | none => False
def RG (w : Option Bool) (d : Option Nat) (op : SOp) (l : List SOper) (ks : List Fr) (t : Temps) (h : Heap) (n : Nat) (Q : Ex → St → Prop) : Prop := match w with
  | some true => R1 C L k (opRun C t h n op) d l ks t Q
  | some false => R C L k l ks ⟨putT t d (.tup []), h, n⟩ Q
  | none => False
def D (n0 : Nat) (ops : List SOper) (fr : List (List Nat)) (recs : List Rec) (ks : List Fr) (st : St) (Q : Ex → St → Prop) : Prop := ∃ st', runD C n0 ops fr recs st = some st' ∧ KQ C L k ks Q .norm st'
def D1 (r : Option (St × Rec)) (n0 : Nat) (l : List SOper) (fr : List (List Nat)) (recs : List Rec) (ks : List Fr) (Q : Ex → St → Prop) : Prop := match r with
  | some (st, q) => D C L k n0 l fr (recs ++ [q]) ks st Q
  | none => False
/-- A branch on a value. -/
def wpB (v : AV) (A B : Prop) : Prop := match v with
  | .b true => A
  | .b false => B
  | _ => False
end
section
variable {C : Oracle} {L : LOracle} {k : Nat}
theorem ex_some {e : Ex} {st : St} {P : Ex → St → Prop} : (∃ e' st', some (e, st) = some (e', st') ∧ P e' st') = P e st := by
  refine propext ⟨fun ⟨e', st', h, hp⟩ => ?_, fun h => ⟨e, st, rfl, h⟩⟩
  obtain ⟨rfl, rfl⟩ := Prod.mk.inj (Option.some.inj h); exact hp
theorem KQ_nil {Q : Ex → St → Prop} {e : Ex} {st : St} : KQ C L k [] Q e st = Q e st := by cases e <;> rfl
theorem KQ_seq {b : SCode} {ks : List Fr} {Q : Ex → St → Prop} {st : St} : KQ C L k (.seq b :: ks) Q .norm st = G C L k ks b st Q := rfl
theorem KQ_seqE {b : SCode} {ks : List Fr} {Q : Ex → St → Prop} {st : St} {id : Nat} : KQ C L k (.seq b :: ks) Q (.exit id) st = KQ C L k ks Q (.exit id) st := rfl
theorem KQ_ret {ks : List Fr} {Q : Ex → St → Prop} {st : St} : KQ C L k ks Q .ret st = Q .ret st := by
  induction ks with
  | nil => rfl
  | cons x ks ih => cases x <;> exact ih
theorem KQ_blk {id : Nat} {ks : List Fr} {Q : Ex → St → Prop} {st : St} : KQ C L k (.blk id :: ks) Q .norm st = KQ C L k ks Q .norm st := rfl
theorem KQ_blkE {id id' : Nat} {ks : List Fr} {Q : Ex → St → Prop} {st : St} : KQ C L k (.blk id :: ks) Q (.exit id') st = if id' = id then KQ C L k ks Q .norm st else KQ C L k ks Q (.exit id') st := rfl
theorem G_skip {ks : List Fr} {Q : Ex → St → Prop} {st : St} : G C L k ks .skip st Q = KQ C L k ks Q .norm st := ex_some
theorem G_exit {ks : List Fr} {Q : Ex → St → Prop} {st : St} {id : Nat} : G C L k ks (.exit id) st Q = KQ C L k ks Q (.exit id) st := ex_some
theorem G_ret {ks : List Fr} {Q : Ex → St → Prop} {st : St} : G C L k ks .ret st Q = Q .ret st := by unfold G; simp only [evalCode, ex_some, KQ_ret]
theorem G_seq {a b : SCode} {ks : List Fr} {Q : Ex → St → Prop} {st : St} : G C L k ks (.seq a b) st Q = G C L k (.seq b :: ks) a st Q := by
  unfold G
  simp only [evalCode]
  cases evalCode C L k a st with
  | none => simp
  | some r =>
    obtain ⟨e, st1⟩ := r
    cases e with
    | norm => simp only [ex_some]; rfl
    | exit id => simp only [ex_some]; rfl
    | ret => simp only [ex_some]; rfl
theorem G_block {id : Nat} {a : SCode} {ks : List Fr} {Q : Ex → St → Prop} {st : St} : G C L k ks (.block id a) st Q = G C L k (.blk id :: ks) a st Q := by
  unfold G
  simp only [evalCode]
  cases evalCode C L k a st with
  | none => simp
  | some r =>
    obtain ⟨e, st1⟩ := r
    cases e with
    | norm => simp only [ex_some]; rfl
    | exit id' =>
      by_cases h : id' = id
      · simp only [h, if_true, ex_some, KQ]
      · simp only [h, if_false, ex_some, KQ]
    | ret => simp only [ex_some]; rfl
theorem G_cond {c : Opd} {a b : SCode} {ks : List Fr} {Q : Ex → St → Prop} {st : St} : G C L k ks (.cond c a b) st Q = wpB (c.ev st.t) (G C L k ks a st Q) (G C L k ks b st Q) := by
  unfold G
  simp only [evalCode]
  cases c.ev st.t with
  | b x => cases x <;> rfl
  | _ => simp [wpB]
theorem G_loop {f l : Nat} {live : List Nat} {ks : List Fr} {Q : Ex → St → Prop} {st : St} : G C L k ks (.loop f l live) st Q = LW L k f l (norm k live st) (KQ C L k ks Q) := rfl
theorem G_region {ops : List SOper} {ks : List Fr} {Q : Ex → St → Prop} {st : St} : G C L k ks (.region ops) st Q = R C L k ops ks st Q := by
  unfold G R
  simp only [evalCode]
  cases runOps C ops st with
  | none => simp
  | some st1 => simp only [ex_some]; simp
theorem G_draw {ops : List SOper} {fr : List (List Nat)} {ks : List Fr} {Q : Ex → St → Prop} {st : St} : G C L k ks (.draw ops fr) st Q = D C L k st.n ops fr [] ks st Q := by
  unfold G D
  simp only [evalCode]
  cases runD C st.n ops fr [] st with
  | none => simp
  | some st1 => simp only [ex_some]; simp
theorem R_nil {ks : List Fr} {Q : Ex → St → Prop} {st : St} : R C L k [] ks st Q = KQ C L k ks Q .norm st := by simp [R, runOps]
theorem R_cons {d : Option Nat} {op : SOp} {l : List SOper} {ks : List Fr} {Q : Ex → St → Prop} {t : Temps} {h : Heap} {n : Nat} : R C L k (⟨d, none, op⟩ :: l) ks ⟨t, h, n⟩ Q = R1 C L k (opRun C t h n op) d l ks t Q := by
  unfold R R1
  simp only [runOps, stepOp, wanted]
  cases opRun C t h n op with
  | none => simp
  | some r => obtain ⟨v, h', n'⟩ := r; simp [R]
theorem R_guard {d : Option Nat} {op : SOp} {g : Nat × Bool} {l : List SOper} {ks : List Fr} {Q : Ex → St → Prop} {t : Temps} {h : Heap} {n : Nat} : R C L k (⟨d, some g, op⟩ :: l) ks ⟨t, h, n⟩ Q = RG C L k (wanted t (some g)) d op l ks t h n Q := by
  unfold R RG
  simp only [runOps, stepOp]
  cases wanted t (some g) with
  | none => simp
  | some b =>
    cases b with
    | false => simp [R]
    | true =>
      cases hq : opRun C t h n op with
      | none => simp [R1, hq]
      | some r => obtain ⟨v, h', n'⟩ := r; simp [R, R1, hq]
theorem R1_some {v : AV} {d : Option Nat} {l : List SOper} {ks : List Fr} {Q : Ex → St → Prop} {t : Temps} {h : Heap} {n : Nat} : R1 C L k (some (v, h, n)) d l ks t Q = R C L k l ks ⟨putT t d v, h, n⟩ Q := rfl
theorem R1_none {d : Option Nat} {l : List SOper} {ks : List Fr} {Q : Ex → St → Prop} {t : Temps} : R1 C L k none d l ks t Q = False := rfl
theorem R1_if {c : Prop} [Decidable c] {x : Option (AV × Heap × Nat)} {d : Option Nat} {l : List SOper} {ks : List Fr} {Q : Ex → St → Prop} {t : Temps} : R1 C L k (if c then x else none) d l ks t Q = (c ∧ R1 C L k x d l ks t Q) := by
  by_cases h : c <;> simp [h, R1]
theorem RG_true {d : Option Nat} {op : SOp} {l : List SOper} {ks : List Fr} {Q : Ex → St → Prop} {t : Temps} {h : Heap} {n : Nat} : RG C L k (some true) d op l ks t h n Q = R1 C L k (opRun C t h n op) d l ks t Q := rfl
theorem RG_false {d : Option Nat} {op : SOp} {l : List SOper} {ks : List Fr} {Q : Ex → St → Prop} {t : Temps} {h : Heap} {n : Nat} : RG C L k (some false) d op l ks t h n Q = R C L k l ks ⟨putT t d (.tup []), h, n⟩ Q := rfl
theorem D_nil {n0 : Nat} {fr : List (List Nat)} {recs : List Rec} {ks : List Fr} {Q : Ex → St → Prop} {t : Temps} {h : Heap} {n : Nat} : D C L k n0 [] fr recs ks ⟨t, h, n⟩ Q = KQ C L k ks Q .norm ⟨t, h, n0 + 64 * recs.length⟩ := by simp [D, runD]
theorem D_cons {n0 : Nat} {o : SOper} {l : List SOper} {fr : List Nat} {frs : List (List Nat)} {recs : List Rec} {ks : List Fr} {Q : Ex → St → Prop} {st : St} : D C L k n0 (o :: l) (fr :: frs) recs ks st Q = D1 C L k (stepD C n0 recs fr st o) n0 l frs recs ks Q := by
  unfold D D1
  simp only [runD, List.headD_cons, List.tail_cons]
  cases stepD C n0 recs fr st o with
  | none => simp
  | some r => obtain ⟨st', q⟩ := r; simp [D]
theorem D1_some {st : St} {q : Rec} {n0 : Nat} {l : List SOper} {fr : List (List Nat)} {recs : List Rec} {ks : List Fr} {Q : Ex → St → Prop} : D1 C L k (some (st, q)) n0 l fr recs ks Q = D C L k n0 l fr (recs ++ [q]) ks st Q := rfl
theorem D1_if {c : Prop} [Decidable c] {x : Option (St × Rec)} {n0 : Nat} {l : List SOper} {fr : List (List Nat)} {recs : List Rec} {ks : List Fr} {Q : Ex → St → Prop} : D1 C L k (if c then x else none) n0 l fr recs ks Q = (c ∧ D1 C L k x n0 l fr recs ks Q) := by
  by_cases h : c <;> simp [h, D1]
theorem wpB_true {A B : Prop} : wpB (.b true) A B = A := rfl
theorem wpB_false {A B : Prop} : wpB (.b false) A B = B := rfl
theorem wpB_b {x : Bool} {A B : Prop} : wpB (.b x) A B = ((x = true → A) ∧ (x = false → B)) := by cases x <;> simp [wpB]
end
theorem beq_tt : (true == true) = true := rfl
theorem beq_tf : (true == false) = false := rfl
theorem beq_ft : (false == true) = false := rfl
theorem beq_ff : (false == false) = true := rfl
/-! ### Functions and loops -/
def FQ (k : Nat) (rs : List Res) (r : AV × Heap) (e : Ex) (st : St) : Prop := match e with
  | .exit _ => False
  | _ => finish k rs st = some r
section
variable {E : Ext} {F : Funcs}
theorem fn_of {f : Nat} {args : List AV} {h : Heap} {r : AV × Heap} {fn : SFunc} {ls : List (List Nat × SCode)} (hF : F f = some (fn, ls)) (hE : E f = none) (ha : args.length = fn.nargs) (hn : namedH h 0 = true) (hG : G (lim E F) (limL E F) h.length [] fn.body ⟨argTemps args 0, h, h.length⟩ (FQ h.length fn.results r)) :
    lim E F f args h = some r := by
  refine lim_fn hE ?_
  unfold evalFn
  rw [hF]
  simp only
  rw [if_pos ⟨ha, hn⟩]
  obtain ⟨e, st', he, hq⟩ := hG
  rw [he]
  rw [KQ_nil] at hq
  cases e with
  | norm => exact hq
  | ret => exact hq
  | exit id => exact hq.elim
def LQ (E : Ext) (F : Funcs) (k f l : Nat) (live : List Nat) (Q : Ex → St → Prop) (e : Ex) (st : St) : Prop := match e with
  | .norm => LW (limL E F) k f l (norm k live st) Q
  | e => Q e st
theorem LQ_norm {k f l : Nat} {live : List Nat} {Q : Ex → St → Prop} {st : St} : LQ E F k f l live Q .norm st = LW (limL E F) k f l (norm k live st) Q := rfl
theorem LQ_exit {k f l : Nat} {live : List Nat} {Q : Ex → St → Prop} {st : St} {id : Nat} : LQ E F k f l live Q (.exit id) st = Q (.exit id) st := rfl
theorem LQ_ret {k f l : Nat} {live : List Nat} {Q : Ex → St → Prop} {st : St} : LQ E F k f l live Q .ret st = Q .ret st := rfl
theorem loop_of {f l k : Nat} {st : St} {Q : Ex → St → Prop} {fn : SFunc} {ls : List (List Nat × SCode)} {live : List Nat} {body : SCode} (hF : F f = some (fn, ls)) (hl : ls[l]? = some (live, body)) (hG : G (lim E F) (limL E F) k [] body st (LQ E F k f l live Q)) : LW (limL E F) k f l st Q := by
  obtain ⟨e, st', he, hq⟩ := hG
  rw [KQ_nil] at hq
  have key : ∀ r, evalLoop (lim E F) (limL E F) F f l k st = some r → Q r.1 r.2 → LW (limL E F) k f l st Q := fun r hr hQ => ⟨r.1, r.2, lim_loop hr, hQ⟩
  cases e with
  | norm =>
    obtain ⟨e2, st2, h2, hq2⟩ := hq
    refine key (e2, st2) ?_ hq2
    unfold evalLoop; rw [hF]; simp only; rw [hl]; simp only; rw [he]; exact h2
  | exit id =>
    refine key (.exit id, st') ?_ hq
    unfold evalLoop; rw [hF]; simp only; rw [hl]; simp only; rw [he]
  | ret =>
    refine key (.ret, st') ?_ hq
    unfold evalLoop; rw [hF]; simp only; rw [hl]; simp only; rw [he]
end
end Go.Am
/- THE ABSTRACT MACHINE (AM): small facts for the walks over its code. No condition. -/
namespace Go.Am
set_option linter.unusedSimpArgs false
set_option linter.unusedVariables false
abbrev I (n : Int) : AV := .i .i64 n
/-- Whole numbers, as a slice's rows. -/
def ints (l : List Int) : List AV := l.map fun n => .i .i64 n
theorem imp_tt {A : Prop} : (True → A) = A := propext ⟨fun h => h trivial, fun h _ => h⟩
theorem imp_ff {A : Prop} : (False → A) = True := propext ⟨fun _ => trivial, fun _ h => h.elim⟩
theorem nat_nn {n : Nat} : (0 ≤ (n : Int)) = True := by simp
theorem ints_len {l : List Int} : (ints l).length = l.length := by simp [ints]
theorem ints_get {l : List Int} {i : Nat} : (ints l)[i]? = (l[i]?).map fun n => AV.i .i64 n := by simp [ints]
theorem ints_set {l : List Int} {i : Nat} {n : Int} : (ints l).set i (.i .i64 n) = ints (l.set i n) := by simp [ints, List.map_set]
theorem ints_append {l m : List Int} : ints l ++ ints m = ints (l ++ m) := by simp [ints]
theorem ints_snoc {l : List Int} {x : Int} : ints l ++ [.i .i64 x] = ints (l ++ [x]) := by simp [ints]
theorem flat_ints : ∀ {l : List Int}, flatL (ints l) = true
  | [] => rfl
  | x :: l => by simp only [ints, List.map_cons, flatL, flatR, flatC, Bool.true_and]; exact flat_ints (l := l)
theorem view_full {l : List AV} : view l 0 l.length = some l := by simp [view]
theorem wrap_id {n : Int} (h1 : -9223372036854775808 ≤ n) (h2 : n ≤ 9223372036854775807) : IntKind.i64.wrap n = n := by
  simp only [IntKind.wrap, IntKind.signed, IntKind.bits]
  first | omega | (simp; omega)
theorem wrap_succ {i : Nat} (h : i < 9223372036854775807) : IntKind.i64.wrap ((i : Int) + 1) = ((i + 1 : Nat) : Int) := by
  rw [wrap_id (by omega) (by omega)]; omega
end Go.Am
