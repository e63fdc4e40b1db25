/- THE ABSTRACT MACHINE (AM): new blocks. No condition. -/
import Derived.Test.YtgjjhcaammcpaaaDoorAm1
import Derived.Laws.MakeOwn
import Derived.Deep.Upon
namespace Go.Am
set_option linter.unusedSimpArgs false
set_option linter.unusedVariables false

/-- The places of the slices that lie in an owned block's rows. -/
def nestPl (sz : Nat) (rows : List AV) (csv : List Value) : Option (Nat × Nat) → Option Loc
  | none => none
  | some (r, c) => match rows[r]? with
    | some row => match (cellsOf row)[c]?, csv[r * sz + c]? with
      | some (.un sz' _), some (.slice A _ cap) => some (match A with
        | some a => { g := a.block, o0 := a.off, capT := cap, sz := sz' }
        | none => { g := 0, o0 := 0, capT := cap, sz := sz' })
      | _, _ => none
    | none => none
section
variable {P : Program} {W : World} {F Fr : Nat → Prop} {μ : Place}
theorem RL.un_shape {sz : Nat} {l : List AV} {cs : List Value} {o : List Nat} (h : RL W F Fr μ [.un sz l] cs o) : ∃ A c, cs = [.slice A l.length c] ∧ (0 < c → ∃ g o0, A = some ⟨g, o0, none⟩) := by
  cases h with
  | un0 sz A h => cases h; exact ⟨A, 0, rfl, by simp⟩
  | un1 sz l g o0 c cs1 o1 h0 hc hu hcell hopen h h' => cases h'; exact ⟨_, c, rfl, fun _ => ⟨g, o0, rfl⟩⟩
theorem cell_in {l : List AV} {cs : List Value} {o : List Nat} (hone : ones l) (h : RL W F Fr μ l cs o) {c : Nat} {x : AV} (hx : l[c]? = some x) : ∃ o', RL W F Fr μ [x] ((cs.drop c).take 1) o' ∧ ∀ y ∈ o', y ∈ o := by
  obtain ⟨_, _, _, o', h4, h5⟩ := h.sub hone (c := c) (m := 1) (l' := [x]) (by
    unfold sub?
    rw [if_pos (by have := (List.getElem?_eq_some_iff.1 hx).1; omega), getElem?_take1 hx])
  exact ⟨o', h4, h5⟩
/-- A cell of a row of a block. -/
theorem cell_row {rows : List AV} {csv : List Value} {o1 : List Nat} {sz : Nat} (hrl : RL W F Fr μ rows csv o1) (hu : uni sz rows) {r c : Nat} {row x : AV} (hrow : rows[r]? = some row) (hx : (cellsOf row)[c]? = some x) :
    ∃ v o', csv[r * sz + c]? = some v ∧ RL W F Fr μ [x] [v] o' ∧ c < sz ∧ (∀ y ∈ o', y ∈ o1) ∧ ∀ m, x ≠ .agg m := by
  obtain ⟨o2, h2, hlen, hsub⟩ := row_at hrl hu hrow
  obtain ⟨hone, h2⟩ := h2.cells
  obtain ⟨o', h3, hs⟩ := cell_in hone h2 hx
  have hc := (List.getElem?_eq_some_iff.1 hx).1
  have hw := h2.width
  rw [ones_widthL hone] at hw
  have hc1 : c < sz := by omega
  have hlt : r * sz + c < csv.length := by
    have := hlen
    rw [List.length_take, List.length_drop] at this
    omega
  refine ⟨csv[r * sz + c], o', by simp [hlt], ?_, hc1, fun y hy => hsub y (hs y hy), fun m => ones_mem hone x (List.mem_of_getElem? hx) m⟩
  have e : (((csv.drop (r * sz)).take sz).drop c).take 1 = [csv[r * sz + c]] := by
    rw [List.drop_take, List.drop_drop, List.take_take, Nat.min_eq_left (by omega), List.drop_eq_getElem_cons hlt]
    rfl
  rw [e] at h3
  exact h3
theorem nestPl_ok {rows : List AV} {csv : List Value} {o1 : List Nat} {sz : Nat} (hrl : RL W F Fr μ rows csv o1) (hu : uni sz rows) : ∀ r c row sz' l, rows[r]? = some row → (cellsOf row)[c]? = some (.un sz' l) →
    ∃ (L' : Loc) (A : Option Addr), nestPl sz rows csv (some (r, c)) = some L' ∧ L'.sz = sz' ∧ csv[r * sz + c]? = some (.slice A l.length L'.capT) ∧ (0 < L'.capT → A = some ⟨L'.g, L'.o0, none⟩) := by
  intro r c row sz' l hrow hx
  obtain ⟨v, o', hv, hr, hc, hs, _⟩ := cell_row hrl hu hrow hx
  obtain ⟨A, cap, he, hA⟩ := hr.un_shape
  simp only [List.cons.injEq, and_true] at he
  subst he
  simp only [nestPl, hrow, hx, hv]
  cases A with
  | none => exact ⟨_, none, rfl, rfl, rfl, fun h => by obtain ⟨_, _, h⟩ := hA h; cases h⟩
  | some a =>
    refine ⟨_, some a, rfl, rfl, rfl, fun h => ?_⟩
    obtain ⟨g, o0, h⟩ := hA h
    simp only [Option.some.injEq] at h
    subst h; rfl
/-- A new block of rows. -/
theorem After.lay {h h' : Heap} {own : Nat → List Nat} {n : Nat} (H : HInv W F Fr μ h own n) {W' : World} (hs : Step h own W W') (hsz' : W'.heap.size = W.heap.size + 1) (hold : ∀ x, x < W.heap.size → Same W W' x)
    {sz capT : Nat} {rows : List AV} {csv : List Value} {o1 : List Nat} (hsz : 0 < sz) (hu : uni sz rows) (hr : RL W no no noPlace rows csv o1) (hcap : rows.length ≤ capT) (hcell : cellsAt W' W.heap.size 0 csv) (hopen : openAt W' W.heap.size 0 (capT * sz))
    (hfew : ∀ id b, find h' id = some b → find h id = some b) (hnd : o1.Nodup) (ho : ∀ x ∈ o1, ∃ id0 b0, find h id0 = some b0 ∧ x ∈ own id0 ∧ find h' id0 = none)
    {len cap : Nat} {ex : Bool} (hl : len ≤ cap) (hc : cap ≤ capT) (hex : ex = true → cap = capT) :
    After W F Fr μ h own n ((n, .arr sz rows) :: h') (n + 1) (.ref n none 0 len cap ex) (.slice (some ⟨W.heap.size, 0, none⟩) len capT) W' := by
  have hlt : ∀ x ∈ o1, x < W.heap.size := fun x hx => let ⟨id0, b0, h1, h2, _⟩ := ho x hx; (H.out id0 b0 h1 x h2).2
  let pl : Option (Nat × Nat) → Option Loc := fun p => match p with
    | none => some ⟨W.heap.size, 0, capT, sz⟩
    | some q => nestPl sz rows csv (some q)
  have hr' : RL W' no no noPlace rows csv o1 := hr.same0 (fun x hx => hold x (hlt x hx))
  refine After.one H n (.arr sz rows) ((if capT = 0 then [] else [W.heap.size]) ++ o1) hs (μ' := addPl μ n pl) (fun id p hid => addPl_old hid p) (addPl_lt H) (by omega) (by omega) ?_ ?_ ?_ ?_ ?_
  · intro id b hf
    rw [find_cons] at hf
    split at hf
    · rename_i e; subst e; exact .inl ⟨rfl, (Option.some.inj hf).symm⟩
    · rename_i e
      have hf' := hfew id b hf
      exact .inr ⟨fun e' => e e'.symm, hf', fun x hx => hold x (H.out id b hf' x hx).2⟩
  · refine ⟨⟨W.heap.size, 0, capT, sz⟩, csv, o1, addPl_new none, rfl, hsz, hu, hr', hcap, hcell, hopen, rfl, ?_⟩
    intro r c row sz' l hrow hx
    obtain ⟨L', A, h1, h2, h3, h4⟩ := nestPl_ok hr hu r c row sz' l hrow hx
    exact ⟨L', A, by rw [addPl_new]; exact h1, h2, h3, h4⟩
  · split
    · simpa using hnd
    · simp only [List.singleton_append, List.nodup_cons]
      exact ⟨fun hx => by have := hlt _ hx; omega, hnd⟩
  · intro x hx
    rcases List.mem_append.1 hx with hx | hx
    · split at hx
      · simp at hx
      · simp at hx; subst hx; exact ⟨by omega, .inl (Nat.le_refl _)⟩
    · refine ⟨by have := hlt x hx; omega, .inr ?_⟩
      obtain ⟨id0, b0, h1, h2, h3⟩ := ho x hx
      refine ⟨id0, b0, h1, h2, .inr ?_⟩
      rw [find_cons, if_neg (by have := H.lt id0 b0 h1; omega)]
      exact h3
  · exact RL.ref n none 0 len cap ex ⟨W.heap.size, 0, capT, sz⟩ _ capT (addPl_new none) hl hc hex (by simp) (fun _ => by simp) .nil
/-- A new variable. -/
theorem After.layBox {h : Heap} {own : Nat → List Nat} {n : Nat} (H : HInv W F Fr μ h own n) {cs : List AV} {csv : Array Value} (e : TypeId) (hone : ones cs) (hr : RL W F Fr μ cs csv.toList []) :
    After W F Fr μ h own n ((n, .box cs) :: h) (n + 1) (.ptr n none 0 0) (.pointer (some ⟨W.heap.size, 0, none⟩)) (W.alloc (.cells csv e)) := by
  have hold : ∀ x, x < W.heap.size → Same W (W.alloc (.cells csv e)) x := fun x hx => heap_alloc_old W _ x hx
  let pl : Option (Nat × Nat) → Option Loc := fun p => match p with
    | none => some ⟨W.heap.size, 0, 0, 0⟩
    | some q => none
  refine After.one H n (.box cs) [W.heap.size] ((Step.refl h own W).alloc _) (μ' := addPl μ n pl) (fun id p hid => addPl_old hid p) (addPl_lt H) (by omega) (by omega) ?_ ?_ (by simp) ?_ ?_
  · intro id b hf
    rw [find_cons] at hf
    split at hf
    · rename_i e; subst e; exact .inl ⟨rfl, (Option.some.inj hf).symm⟩
    · rename_i e
      exact .inr ⟨fun e' => e e'.symm, hf, fun x hx => hold x (H.out id b hf x hx).2⟩
  · refine ⟨⟨W.heap.size, 0, 0, 0⟩, csv.toList, addPl_new none, hone, ?_, cellsAt_new, openAt_new (by simp), rfl⟩
    exact (hr.same H.fr (fun x hx => hold x (H.fsz x hx)) (by simp)).more (fun _ h => h) (fun _ h => h) (ext_of H fun id p hid => addPl_old hid p)
  · intro x hx; simp at hx; subst hx; exact ⟨by simp, .inl (Nat.le_refl _)⟩
  · exact RL.ptr (W := W.alloc (.cells csv e)) (F := F) (Fr := Fr) (o := []) n none 0 0 ⟨W.heap.size, 0, 0, 0⟩ (addPl_new (μ := μ) (m := pl) none) .nil
theorem alloc_sound {h : Heap} {own : Nat → List Nat} {n : Nat} (H : HInv W F Fr μ h own n) {e : TypeId} {z : Zero} (hz : zeroOf P e = some z) :
    ∃ cv W', (Instr.alloc e true (.tuple #[])).run P W = .ok cv W' ∧ After W F Fr μ h own n ((n, .box (zcells z)) :: h) (n + 1) (.ptr n none 0 0) cv W' := by
  obtain ⟨i, zv, hi, hzv, hsz, hlen, hone, hr⟩ := zeroOf_rel hz
  refine ⟨_, _, ?_, After.layBox H (csv := zv.cells) e hone hr⟩
  simp [Instr.alloc, run_zeroValue hi hzv, newVar, newRow]
theorem box_sound {h : Heap} {own : Nat → List Nat} {n : Nat} (H : HInv W F Fr μ h own n) {x : AV} {cx : Value} (hx : RV W F Fr μ x cx) (hb : boxableL (cellsOf x) = true) (e : TypeId) :
    ∃ cv W', (Instr.box e cx).run P W = .ok cv W' ∧ After W F Fr μ h own n ((n, .box (cellsOf x)) :: h) (n + 1) (.ptr n none 0 0) cv W' := by
  obtain ⟨h1, h2⟩ := hx.cells (.inl hb)
  exact ⟨_, _, by simp [Instr.box, newVar, newRow], After.layBox H e h1 h2⟩
/-! ### Zero rows -/
theorem zrow_rel {e : TypeId} {z : Zero} {a : Bool} (hz : zeroOf P e = some z) (ha : isAggB P e = some a) {i : TypeInfo} {zv : Value} (hi : P.info? e = some i) (hzv : i.zero = some zv) (hsz : 0 < i.size) (h1 : a = false → i.size = 1) :
    zv.cells.size = i.size ∧ (zrow a z).width = i.size ∧ ∀ {W : World} {F Fr : Nat → Prop} {μ : Place}, RL W F Fr μ [zrow a z] zv.cells.toList [] := by
  obtain ⟨i', zv', hi', hzv', hsz', hlen, hone, hr⟩ := zeroOf_rel hz
  obtain rfl : i = i' := by rw [hi] at hi'; exact Option.some.inj hi'
  obtain rfl : zv = zv' := by rw [hzv] at hzv'; exact Option.some.inj hzv'
  refine ⟨hsz', ?_, ?_⟩
  · cases a with
    | true => simp [zrow, AV.width, ones_widthL hone, hlen]
    | false =>
      have h1 := h1 rfl
      match hq : zcells z with
      | [v] =>
        rw [hq] at hone
        simp [zrow, hq, width_one hone.1, h1]
      | [] => rw [hq] at hlen; simp at hlen; omega
      | x :: y :: l => rw [hq] at hlen; simp at hlen; omega
  · intro W F Fr μ
    cases a with
    | true => exact .toAgg hone hr
    | false =>
      have h1 := h1 rfl
      have hr := hr (W := W) (F := F) (Fr := Fr) (μ := μ)
      match hq : zcells z with
      | [v] => rw [hq] at hr; simpa [zrow, hq] using hr
      | [] => rw [hq] at hlen; simp at hlen; omega
      | x :: y :: l => rw [hq] at hlen; simp at hlen; omega
theorem uni_replicate {sz : Nat} {v : AV} (h : v.width = sz) : ∀ k, uni sz (List.replicate k v)
  | 0 => trivial
  | k + 1 => ⟨h, uni_replicate h k⟩
theorem RL.replicate {v : AV} {cs : List Value} (h : RL W F Fr μ [v] cs []) : ∀ k, RL W F Fr μ (List.replicate k v) (List.replicate k cs).flatten []
  | 0 => .nil
  | k + 1 => by
    have := RL.cons h (RL.replicate h k)
    simpa [List.replicate_succ] using this
theorem made_list {zc : Array Value} {sz : Nat} (h : zc.size = sz) (h0 : 0 < sz) (k : Nat) : ((Array.range (k * sz)).map (zc[· % zc.size]!)).toList = (List.replicate k zc.toList).flatten := by
  induction k with
  | zero => simp
  | succ k ih =>
    apply List.ext_getElem?
    intro j
    have hl : ((List.replicate k zc.toList).flatten).length = k * sz := by simp [h]
    simp only [Array.toList_map, Array.toList_range] at ih ⊢
    rw [List.replicate_succ', List.flatten_append, ← ih]
    simp only [List.flatten_cons, List.flatten_nil, List.append_nil]
    by_cases hj : j < k * sz
    · rw [List.getElem?_append_left (by simpa using hj)]
      have : j < (k + 1) * sz := by rw [Nat.add_mul]; omega
      simp [List.getElem?_range, hj, this]
    · rw [List.getElem?_append_right (by simpa using hj)]
      simp only [List.length_map, List.length_range, List.getElem?_map]
      by_cases hj2 : j < (k + 1) * sz
      · have hd : j - k * sz < sz := by rw [Nat.add_mul] at hj2; omega
        have hm : j % zc.size = j - k * sz := by
          rw [h, show j = (j - k * sz) + sz * k by rw [Nat.mul_comm sz]; omega, Nat.add_mul_mod_self_left, Nat.mod_eq_of_lt hd]
          rw [Nat.mul_comm sz]; omega
        rw [List.getElem?_range hj2]
        simp only [Option.map_some, hm]
        simp [h, hd]
      · have : ¬ (j - k * sz < zc.size) := by rw [h]; rw [Nat.add_mul] at hj2; omega
        rw [List.getElem?_eq_none (by simpa using hj2)]
        simp [this, Array.getElem?_eq_none (by omega : zc.size ≤ j - k * sz)]
end
end Go.Am
/- THE ABSTRACT MACHINE (AM): made slices; bytes of strings; cells written. No condition. -/
namespace Go.Am
set_option linter.unusedSimpArgs false
set_option linter.unusedVariables false

section
variable {P : Program} {W : World} {F Fr : Nat → Prop} {μ : Place}
theorem same_alloc (o : Obj) : ∀ x, x < W.heap.size → Same W (W.alloc o) x := fun x hx => heap_alloc_old W o x hx
theorem flatC_open {h : Heap} : True := trivial
theorem made_sound {h : Heap} {own : Nat → List Nat} {n : Nat} (H : HInv W F Fr μ h own n) {t e : TypeId} (ht : P.underlying t = some (.slice e)) {z : Zero} {a : Bool} (hz : zeroOf P e = some z) (ha : isAggB P e = some a) {i : TypeInfo} (hi : P.info? e = some i)
    (hpos : 0 < i.size) (hby : 0 < i.bytes) (h1 : a = true ∨ i.size = 1) {l c : Int} (h0 : 0 ≤ l) (hlc : l ≤ c) (hc : c * i.bytes ≤ 140737488355328) {kl kc : IntKind} :
    ∃ cv W', (Instr.makeSlice t (.int kl l) (.int kc c)).run P W = .ok cv W' ∧
      After W F Fr μ h own n ((n, .arr i.size (List.replicate c.toNat (zrow a z))) :: h) (n + 1) (.ref n none 0 l.toNat c.toNat true) cv W' := by
  obtain ⟨i', zv, hi', hzv, _⟩ := zeroOf_rel hz
  obtain rfl : i = i' := by rw [hi] at hi'; exact Option.some.inj hi'
  obtain ⟨hs, hw, hr⟩ := zrow_rel hz ha hi hzv hpos (fun e => by rcases h1 with h1 | h1 <;> simp_all)
  have hcb : c ≤ 140737488355328 := by
    have : c * 1 ≤ c * i.bytes := Int.mul_le_mul_of_nonneg_left (by omega) (by omega)
    omega
  have hrun := run_make (P := P) W t e i zv ht hi hzv kl kc l c h0 hlc (by rw [Int.mul_comm]; omega) (by omega)
  have hcells : (madeCells zv.cells (c.toNat * i.size)).toList = (List.replicate c.toNat zv.cells.toList).flatten := made_list hs hpos c.toNat
  refine ⟨_, _, hrun, ?_⟩
  refine After.lay H ((Step.refl h own W).alloc _) (by simp) (same_alloc _) (csv := (List.replicate c.toNat zv.cells.toList).flatten) (o1 := []) hpos (uni_replicate hw _) ((hr (W := W) (F := no) (Fr := no) (μ := noPlace)).replicate _) (by simp) ?_ ?_ (fun _ _ h => h) (by simp) (by simp) (by omega) (Nat.le_refl _) (fun _ => rfl)
  · rw [← hcells]; exact cellsAt_new
  · exact openAt_new (by rw [← Array.length_toList, hcells]; simp [hs])
/-- The bytes of a string. -/
theorem bytes_list (s : ByteArray) : ofStr s = s.data.toList.map fun x => .i .u8 x.toNat := by
  unfold ofStr
  rw [ByteArray.toList_eq]
theorem bytes_rel (l : List UInt8) : RL W F Fr μ (l.map fun x => AV.i .u8 x.toNat) (l.map fun x => Value.int .u8 x.toNat) [] := by
  induction l with
  | nil => exact .nil
  | cons x l ih => exact .i ih
theorem uni_bytes (l : List UInt8) : uni 1 (l.map fun x => AV.i .u8 x.toNat) := uni_of fun v hv => by
  obtain ⟨x, _, rfl⟩ := List.mem_map.1 hv; rfl
theorem bytes_sound {h : Heap} {own : Nat → List Nat} {n : Nat} (H : HInv W F Fr μ h own n) {src dst e : TypeId} (hs : P.underlying src = some .string) (hd : P.underlying dst = some (.slice e)) (he : P.underlying e = some (.int .u8)) (s : ByteArray) :
    ∃ cv W', (Go.convert src dst (.string s)).run P W = .ok cv W' ∧ After W F Fr μ h own n ((n, .arr 1 (ofStr s)) :: h) (n + 1) (.ref n none 0 s.size s.size false) cv W' := by
  refine ⟨_, _, Lib.run_convert_string_bytes W src dst e s hs hd he, ?_⟩
  have hge := grownCap_ge W s.size 0 e
  have hlen : (ofStr s).length = s.size := by rw [bytes_list]; simp
  have hcs : (Lib.bytesCells W e s).size = grownCap W s.size 0 e := by
    simp only [Lib.bytesCells, Array.size_append, Array.size_map, Array.size_replicate]
    have : s.data.size = s.size := rfl
    omega
  have hst : Step h own W (Lib.bytesWorld W e s) := ⟨rfl, rfl, rfl, by rw [Lib.bytesWorld_size]; omega, fun x hx _ => Lib.bytesWorld_at_old W e s x hx⟩
  refine After.lay H hst (Lib.bytesWorld_size W e s) (fun x hx => Lib.bytesWorld_at_old W e s x hx) (csv := s.data.toList.map fun x => Value.int .u8 x.toNat) (o1 := []) (by omega) (by rw [bytes_list]; exact uni_bytes _) (by rw [bytes_list]; exact bytes_rel _) (by omega) ?_ ?_ (fun _ _ h => h) (by simp) (by simp) (Nat.le_refl _) hge (by simp)
  · intro k v hk
    have hj : k < s.size := by
      have := (List.getElem?_eq_some_iff.1 hk).1
      simp at this; exact this
    rw [Nat.zero_add, Lib.bytesWorld_cell W e s k hj]
    rw [List.getElem?_map] at hk
    have hj' : k < s.data.toList.length := by simpa using hj
    rw [List.getElem?_eq_getElem hj'] at hk
    simp only [Option.map_some, Option.some.injEq] at hk
    rw [← hk]
    rw [List.getD_eq_getElem?_getD, List.getElem?_eq_getElem hj']; rfl
  · intro k hk
    rw [Nat.zero_add]
    have hnew := Lib.bytesWorld_at_new W e s
    refine ⟨⟨(Lib.bytesCells W e s)[k]'(by omega), ?_⟩, ?_⟩
    · have : k < (Lib.bytesCells W e s).size := by omega
      simp [World.cell?, hnew, this]
    · simp only [World.frozen?, hnew]
      simp
      omega
/-! ### Cells written -/
theorem setCells_size (b : Nat) : ∀ (vs : List Value) (o : Nat) (w : World), (w.setCells b o vs).heap.size = w.heap.size
  | [], _, _ => rfl
  | v :: vs, o, w => by rw [World.setCells, setCells_size b vs]; simp
theorem setCells_same (b : Nat) {x : Nat} (hx : x ≠ b) : ∀ (vs : List Value) (o : Nat) (w : World), Same w (w.setCells b o vs) x
  | [], _, _ => rfl
  | v :: vs, o, w => by
    have h1 : Same w (w.setCell ⟨b, o, none⟩ v) x := by
      unfold Same World.setCell
      simp only
      rw [Array.getElem?_modify, if_neg (fun e => hx e.symm)]
    exact (setCells_same b hx vs (o + 1) _).trans h1
theorem setCells_step (b : Nat) : ∀ (vs : List Value) (o : Nat) (w : World), (w.setCells b o vs).os = w.os ∧ (w.setCells b o vs).tape = w.tape ∧ (w.setCells b o vs).output = w.output
  | [], _, _ => ⟨rfl, rfl, rfl⟩
  | v :: vs, o, w => by
    have := setCells_step b vs (o + 1) (w.setCell ⟨b, o, none⟩ v)
    exact this
theorem setCells_cells {g o0 : Nat} {cs : List Value} (h : cellsAt W g o0 cs) {k : Nat} {vs : List Value} (hle : k + vs.length ≤ cs.length) : cellsAt (W.setCells g (o0 + k) vs) g o0 (cs.take k ++ vs ++ cs.drop (k + vs.length)) := by
  intro j v hj
  have hin := World.cell?_setCells_in g vs (o0 + k) W (fun j hj => by
    have := h (k + j) cs[k + j] (by simp [show k + j < cs.length by omega])
    rw [show o0 + k + j = o0 + (k + j) by omega, this]; rfl)
  by_cases h1 : j < k
  · rw [World.cell?_setCells_out g vs (o0 + k) W _ (fun _ _ => Or.inl (by simp; omega))]
    rw [List.append_assoc, List.getElem?_append_left (by simp; omega), List.getElem?_take, if_pos h1] at hj
    exact h j v hj
  · by_cases h2 : j < k + vs.length
    · rw [List.append_assoc, List.getElem?_append_right (by simp; omega), List.getElem?_append_left (by simp; omega)] at hj
      simp only [List.length_take] at hj
      have hmin : min k cs.length = k := by omega
      rw [hmin] at hj
      have := hin (j - k) (by omega)
      rw [show o0 + k + (j - k) = o0 + j by omega] at this
      rw [this]
      rw [List.getElem?_eq_getElem (by omega)] at hj
      exact hj
    · rw [World.cell?_setCells_out g vs (o0 + k) W _ (fun _ _ => Or.inr (by simp; omega))]
      rw [List.getElem?_append_right (by simp; omega), List.getElem?_drop] at hj
      simp only [List.length_append, List.length_take] at hj
      have hmin : min k cs.length = k := by omega
      rw [hmin, show k + vs.length + (j - (k + vs.length)) = j by omega] at hj
      exact h j v hj
theorem setCells_open {g o0 n : Nat} (h : openAt W g o0 n) {k : Nat} {vs : List Value} (hle : k + vs.length ≤ n) : openAt (W.setCells g (o0 + k) vs) g o0 n := by
  intro j hj
  obtain ⟨⟨v, hv⟩, hf⟩ := h j hj
  refine ⟨?_, by rw [World.frozen?_setCells]; exact hf⟩
  by_cases h1 : j < k ∨ k + vs.length ≤ j
  · rw [World.cell?_setCells_out g vs (o0 + k) W _ (fun _ _ => by simp; omega)]
    exact ⟨v, hv⟩
  · have := World.cell?_setCells_in g vs (o0 + k) W (fun i hi => by
      obtain ⟨⟨v, hv⟩, _⟩ := h (k + i) (by omega)
      rw [show o0 + k + i = o0 + (k + i) by omega, hv]; rfl) (j - k) (by omega)
    rw [show o0 + k + (j - k) = o0 + j by omega] at this
    exact ⟨_, this⟩
/-- Open cells that are written: others may be unknown. -/
theorem setCells_run {g o0 n : Nat} (h : openAt W g o0 n) {k : Nat} {vs : List Value} (hle : k + vs.length ≤ n) (h1 : ∀ v ∈ vs, v.oneCell' = true) : (storeCells ⟨g, o0 + k, none⟩ vs).run P W = .ok () (W.setCells g (o0 + k) vs) := by
  have := run_storeCells_cells (P := P) g (o0 + k) vs 0 W (fun j hj => by
    obtain ⟨⟨v, hv⟩, _⟩ := h (k + j) (by omega)
    rw [show o0 + k + 0 + j = o0 + (k + j) by omega, hv]; rfl) (fun j hj => by
    obtain ⟨_, hf⟩ := h (k + j) (by omega)
    rw [show o0 + k + 0 + j = o0 + (k + j) by omega, hf]) h1
  simpa using this
theorem storeAt_run {g o0 n : Nat} (h : openAt W g o0 n) {k : Nat} {t : TypeId} {m : Nat} (hm : szOf P t = some m) {cv : Value} (hs : cv.cells.toList.length = m) (hle : k + m ≤ n) (h1 : ∀ v ∈ cv.cells.toList, v.oneCell' = true) :
    (Instr.storeAt t (.pointer (some ⟨g, o0 + k, none⟩)) cv).run P W = .ok () (W.setCells g (o0 + k) cv.cells.toList) := by
  have hq : cv.cells.size = m := by simpa using hs
  simp only [Instr.storeAt, Instr.sureAddr, Sem.run_bind, Sem.run_pure, Result.andThen_ok, storeVar, run_szOf hm, hq, ne_eq, not_true_eq_false, if_false]
  exact setCells_run h (by rw [hs]; exact hle) h1
theorem Step.set {h : Heap} {own : Nat → List Nat} {g o : Nat} {vs : List Value} (hg : Owned h own g) : Step h own W (W.setCells g o vs) :=
  ⟨(setCells_step g vs o W).1, (setCells_step g vs o W).2.1, (setCells_step g vs o W).2.2, by rw [setCells_size]; exact Nat.le_refl _, fun x _ hx => setCells_same g (fun e => hx (by rw [e]; exact hg)) vs o W⟩
theorem setCells_nil {g o : Nat} : W.setCells g o [] = W := rfl
end
end Go.Am
/- THE ABSTRACT MACHINE (AM): rows with other cells; a nested slice with other rows. No condition. -/
namespace Go.Am
set_option linter.unusedSimpArgs false
set_option linter.unusedVariables false

section
variable {P : Program} {W : World} {F Fr : Nat → Prop} {μ : Place}
theorem set_split {α : Type} {l : List α} {r : Nat} {x : α} (hr : l[r]? = some x) (y : α) : l = l.take r ++ (x :: l.drop (r + 1)) ∧ l.set r y = l.take r ++ (y :: l.drop (r + 1)) := by
  obtain ⟨hlt, rfl⟩ := List.getElem?_eq_some_iff.1 hr
  refine ⟨?_, ?_⟩
  · rw [← List.drop_eq_getElem_cons hlt, List.take_append_drop]
  · rw [List.set_eq_take_append_cons_drop, if_pos hlt]
theorem flat_cellsOf {v : AV} (h : flatR v = true) : flatCL (cellsOf v) = true := by
  cases v <;> simp_all [flatR, cellsOf, flatCL]
theorem flat_boxable {v : AV} (h : flatC v = true) : boxable v = true := by cases v <;> simp_all [flatC, boxable]
theorem flatCL_append : ∀ {l m : List AV}, flatCL (l ++ m) = (flatCL l && flatCL m)
  | [], _ => by simp [flatCL]
  | v :: l, m => by simp [flatCL, flatCL_append (l := l), Bool.and_assoc]
theorem flatCL_mem : ∀ {l : List AV}, flatCL l = true → ∀ v ∈ l, flatC v = true
  | [], _ => by simp
  | v :: l, h => by
    simp [flatCL] at h
    intro x hx
    rcases List.mem_cons.1 hx with rfl | hx
    · exact h.1
    · exact flatCL_mem h.2 x hx
theorem flatCL_of : ∀ {l : List AV}, (∀ v ∈ l, flatC v = true) → flatCL l = true
  | [], _ => rfl
  | v :: l, h => by
    have h2 : flatCL l = true := flatCL_of fun x hx => h x (List.mem_cons_of_mem _ hx)
    simp [flatCL, h v (by simp), h2]
theorem flatCL_putAt {l vs : List AV} (h : flatCL l = true) (hv : flatCL vs = true) (c : Nat) : flatCL (putAt l c vs) = true := by
  unfold putAt
  rw [flatCL_append, flatCL_append]
  simp [flatCL_of fun v hm => flatCL_mem h v (List.mem_of_mem_take hm), hv, flatCL_of fun v hm => flatCL_mem h v (List.mem_of_mem_drop hm)]
/-- A flat row with other cells. -/
theorem putRow_rel {row row' : AV} {c : Nat} {vs : List AV} (hp : putRow row c vs = some row') (hf : flatR row = true) (hvf : flatCL vs = true) (hvo : ones vs) {cs vcs : List Value} {o : List Nat} (h : RL W F Fr μ [row] cs o) (hv : RL W F Fr μ vs vcs []) :
    flatR row' = true ∧ row'.width = row.width ∧ RL W F Fr μ [row'] (cs.take c ++ vcs ++ cs.drop (c + vcs.length)) [] ∧ c + vcs.length ≤ cs.length := by
  have ho := RL.own_flatR hf h
  subst ho
  unfold putRow at hp
  split at hp
  · rename_i l
    split at hp
    · rename_i hle
      obtain rfl := Option.some.inj hp
      obtain ⟨hone, h2⟩ := h.inAgg
      obtain ⟨h3, h4, h5⟩ := RL.putAt hone hvo h2 hv hle
      have hw := h2.width
      rw [ones_widthL hone] at hw
      refine ⟨flatCL_putAt (by simpa [flatR] using hf) hvf c, ?_, .toAgg h3 h4, by omega⟩
      have := h4.width
      rw [ones_widthL h3] at this
      simp only [AV.width, ones_widthL h3, ones_widthL hone]
      unfold Am.putAt
      simp
      omega
    · cases hp
  · split at hp
    · rename_i hna _ v
      split at hp
      · rename_i hc
        subst hc
        obtain rfl := Option.some.inj hp
        simp [flatCL] at hvf
        have hw := h.width
        have hv1 := hv.width
        have hrw : row.width = 1 := width_one (fun m e => by subst e; exact hna _ rfl)
        simp [AV.widthL, hrw, width_one hvo.1] at hw hv1
        match cs, hw, vcs, hv1 with
        | [x], _, [y], _ =>
          refine ⟨?_, by rw [hrw]; exact width_one hvo.1, by simpa using hv, by simp⟩
          cases v <;> simp_all [flatC, flatR]
      · cases hp
    · cases hp
theorem list_put_mid {c1 c2 c3 v : List Value} {k : Nat} (h : k + v.length ≤ c2.length) :
    c1 ++ ((c2.take k ++ v ++ c2.drop (k + v.length)) ++ c3) = (c1 ++ (c2 ++ c3)).take (c1.length + k) ++ v ++ (c1 ++ (c2 ++ c3)).drop (c1.length + k + v.length) := by
  have h1 : (c1 ++ (c2 ++ c3)).take (c1.length + k) = c1 ++ c2.take k := by
    rw [List.take_append, List.take_of_length_le (by omega : c1.length ≤ c1.length + k), show c1.length + k - c1.length = k by omega, List.take_append, show k - c2.length = 0 by omega]
    simp
  have h2 : (c1 ++ (c2 ++ c3)).drop (c1.length + k + v.length) = c2.drop (k + v.length) ++ c3 := by
    rw [Nat.add_assoc, ← List.drop_drop, List.drop_left' rfl, List.drop_append, show k + v.length - c2.length = 0 by omega]
    simp
  rw [h1, h2]
  simp [List.append_assoc]
/-- One flat row of many. -/
theorem setRow_rel {rows : List AV} {csv : List Value} {o1 : List Nat} {sz : Nat} (hrl : RL W F Fr μ rows csv o1) (hu : uni sz rows) {r : Nat} {row row' : AV} (hrow : rows[r]? = some row) (hf : flatR row = true) {c : Nat} {vs : List AV}
    (hp : putRow row c vs = some row') (hvf : flatCL vs = true) (hvo : ones vs) {vcs : List Value} (hv : RL W F Fr μ vs vcs []) :
    uni sz (rows.set r row') ∧ RL W F Fr μ (rows.set r row') (csv.take (r * sz + c) ++ vcs ++ csv.drop (r * sz + c + vcs.length)) o1 ∧ flatR row' = true ∧ c + vcs.length ≤ sz ∧ r * sz + c + vcs.length ≤ csv.length := by
  obtain ⟨e1, e2⟩ := set_split hrow row'
  have hrw : row.width = sz := uni_mem hu row (List.mem_of_getElem? hrow)
  have hlt := (List.getElem?_eq_some_iff.1 hrow).1
  rw [e1] at hrl
  obtain ⟨c1, c2, o1, o2, rfl, rfl, h1, h2⟩ := hrl.split
  obtain ⟨c3, c4, o3, o4, rfl, rfl, h3, h4⟩ := RL.uncons h2
  obtain ⟨h5, h6, h7, h8⟩ := putRow_rel hp hf hvf hvo h3 hv
  have w1 := h1.width
  rw [uni_widthL (uni_sub hu fun v hv => List.mem_of_mem_take hv)] at w1
  simp only [List.length_take] at w1
  rw [Nat.min_eq_left (by omega)] at w1
  have w3 := h3.width
  simp [AV.widthL, hrw] at w3
  have ho3 := RL.own_flatR hf h3
  subst ho3
  refine ⟨uni_of fun v hv => ?_, ?_, h5, by omega, ?_⟩
  · rcases List.mem_or_eq_of_mem_set hv with hv | rfl
    · exact uni_mem hu v hv
    · rw [h6, hrw]
  · rw [e2]
    have hh := h1.append (RL.cons h7 h4)
    rw [list_put_mid h8, w1] at hh
    simpa using hh
  · simp only [List.length_append]; rw [w1]; omega
/-- What a nested slice's cell tells stays where only flat rows changed. -/
theorem nest_keep {sz : Nat} {rows rows' : List AV} {csv csv' : List Value} {id : Nat}
    (hn : ∀ r c row sz' l, rows[r]? = some row → (cellsOf row)[c]? = some (.un sz' l) → ∃ (L' : Loc) (A : Option Addr), μ id (some (r, c)) = some L' ∧ L'.sz = sz' ∧ csv[r * sz + c]? = some (.slice A l.length L'.capT) ∧ (0 < L'.capT → A = some ⟨L'.g, L'.o0, none⟩))
    (hk : ∀ r c row sz' l, rows'[r]? = some row → (cellsOf row)[c]? = some (.un sz' l) → rows[r]? = some row ∧ csv'[r * sz + c]? = csv[r * sz + c]?) :
    ∀ r c row sz' l, rows'[r]? = some row → (cellsOf row)[c]? = some (.un sz' l) → ∃ (L' : Loc) (A : Option Addr), μ id (some (r, c)) = some L' ∧ L'.sz = sz' ∧ csv'[r * sz + c]? = some (.slice A l.length L'.capT) ∧ (0 < L'.capT → A = some ⟨L'.g, L'.o0, none⟩) := by
  intro r c row sz' l h1 h2
  obtain ⟨h3, h4⟩ := hk r c row sz' l h1 h2
  rw [h4]
  exact hn r c row sz' l h3 h2
theorem flat_no_un {row : AV} (h : flatR row = true) {c : Nat} {sz' : Nat} {l : List AV} : (cellsOf row)[c]? ≠ some (.un sz' l) := by
  intro e
  have := flatCL_mem (flat_cellsOf h) _ (List.mem_of_getElem? e)
  simp [flatC] at this
theorem getElem?_put {cs vs : List Value} {k j : Nat} (h : k + vs.length ≤ cs.length) (hj : j < k ∨ k + vs.length ≤ j) : (cs.take k ++ vs ++ cs.drop (k + vs.length))[j]? = cs[j]? := by
  rcases hj with hj | hj
  · rw [List.append_assoc, List.getElem?_append_left (by simp; omega), List.getElem?_take, if_pos hj]
  · rw [List.getElem?_append_right (by simp; omega), List.getElem?_drop]
    congr 1
    simp
    omega
/-! ### A nested slice with other rows -/
def setCell (row : AV) (c : Nat) (x : AV) : AV := match row with
  | .agg cs => .agg (cs.set c x)
  | _ => x
theorem nest_split {rows : List AV} {csv : List Value} {o1 : List Nat} {sz : Nat} (hrl : RL W F Fr μ rows csv o1) (hu : uni sz rows) {r c : Nat} {row : AV} (hrow : rows[r]? = some row) {sz' : Nat} {l : List AV} (hx : (cellsOf row)[c]? = some (.un sz' l)) :
    ∃ p o2 q cv, o1 = p ++ (o2 ++ q) ∧ csv[r * sz + c]? = some cv ∧ RL W F Fr μ [.un sz' l] [cv] o2 ∧ c < sz ∧
      ∀ {W' : World} {l' : List AV} {o2' : List Nat}, (∀ x, Fr x → F x) → (∀ x, F x → Same W W' x) → (∀ x ∈ p, Same W W' x) → (∀ x ∈ q, Same W W' x) → RL W' F Fr μ [.un sz' l'] [cv] o2' →
        uni sz (rows.set r (setCell row c (.un sz' l'))) ∧ RL W' F Fr μ (rows.set r (setCell row c (.un sz' l'))) csv (p ++ (o2' ++ q)) := by
  obtain ⟨e1, _⟩ := set_split hrow row
  have hrw : row.width = sz := uni_mem hu row (List.mem_of_getElem? hrow)
  have hlt := (List.getElem?_eq_some_iff.1 hrow).1
  have hcl := (List.getElem?_eq_some_iff.1 hx).1
  have hrl0 := hrl
  rw [e1] at hrl
  obtain ⟨c1, c2, o1, o2, rfl, rfl, h1, h2⟩ := hrl.split
  obtain ⟨c3, c4, o3, o4, rfl, rfl, h3, h4⟩ := RL.uncons h2
  have w1 := h1.width
  rw [uni_widthL (uni_sub hu fun v hv => List.mem_of_mem_take hv)] at w1
  simp only [List.length_take] at w1
  rw [Nat.min_eq_left (by omega)] at w1
  have w3 := h3.width
  simp [AV.widthL, hrw] at w3
  obtain ⟨hone, h3'⟩ := h3.cells
  obtain ⟨f1, _⟩ := set_split hx (.un sz' l)
  rw [f1] at h3'
  obtain ⟨d1, d2, p1, p2, ec, eo, g1, g2⟩ := h3'.split
  obtain ⟨d3, d4, p3, p4, rfl, rfl, g3, g4⟩ := RL.uncons g2
  subst ec; subst eo
  have hs : ∀ {m : List AV}, (∀ v ∈ m, v ∈ cellsOf row) → ones m := fun hm => ones_sub hone hm
  have wd1 := g1.width
  rw [ones_widthL (hs fun v hv => List.mem_of_mem_take hv)] at wd1
  simp only [List.length_take] at wd1
  rw [Nat.min_eq_left (by omega)] at wd1
  have wd3 := g3.width
  simp [AV.widthL, AV.width] at wd3
  match d3, wd3 with
  | [cv], _ =>
    have hc : c < sz := by simp at w3; omega
    refine ⟨o1 ++ p1, p3, p4 ++ o4, cv, by simp [List.append_assoc], ?_, g3, hc, ?_⟩
    · rw [List.getElem?_append_right (by omega), w1, show r * sz + c - r * sz = c by omega, List.getElem?_append_left (by simp; omega), List.getElem?_append_right (by omega), wd1]
      simp
    · intro W' l' o2' hFr hF hp hq hn
      obtain ⟨_, e2⟩ := set_split hrow (setCell row c (.un sz' l'))
      have a1 : RL W' F Fr μ (rows.take r) c1 o1 := h1.same hFr hF (fun x hx => hp x (by simp [hx]))
      have a4 : RL W' F Fr μ (rows.drop (r + 1)) c4 o4 := h4.same hFr hF (fun x hx => hq x (by simp [hx]))
      have b1 := g1.same hFr hF (fun x hx => hp x (by simp [hx]))
      have b4 := g4.same hFr hF (fun x hx => hq x (by simp [hx]))
      obtain ⟨_, f2⟩ := set_split hx (.un sz' l')
      have b : RL W' F Fr μ ((cellsOf row).set c (.un sz' l')) (d1 ++ ([cv] ++ d4)) (p1 ++ (o2' ++ p4)) := by
        rw [f2]; exact b1.append (RL.cons hn b4)
      have hrow' : RL W' F Fr μ [setCell row c (.un sz' l')] (d1 ++ ([cv] ++ d4)) (p1 ++ (o2' ++ p4)) ∧ (setCell row c (.un sz' l')).width = sz := by
        have ho' : ones ((cellsOf row).set c (.un sz' l')) := ones_of fun v hv => by
          rcases List.mem_or_eq_of_mem_set hv with hv | rfl
          · exact ones_mem hone v hv
          · simp
        cases row with
        | agg cs =>
          simp only [setCell, cellsOf] at b ho' ⊢
          refine ⟨.toAgg ho' b, ?_⟩
          simp only [AV.width] at hrw ⊢
          rw [ones_widthL ho', List.length_set]
          have hone : ones cs := hone
          rw [← ones_widthL hone]
          exact hrw
        | _ =>
          simp only [cellsOf, List.length_cons, List.length_nil] at hcl
          have : c = 0 := by omega
          subst this
          simp only [cellsOf, List.set_cons_zero] at b
          exact ⟨b, by rw [← hrw]; rfl⟩
      refine ⟨uni_of fun v hv => ?_, ?_⟩
      · rcases List.mem_or_eq_of_mem_set hv with hv | rfl
        · exact uni_mem hu v hv
        · exact hrow'.2
      · rw [e2]
        have := a1.append (RL.cons hrow'.1 a4)
        simpa [List.append_assoc] using this
end
end Go.Am
/- THE ABSTRACT MACHINE (AM): stores. No condition. -/
namespace Go.Am
set_option linter.unusedSimpArgs false
set_option linter.unusedVariables false

section
variable {P : Program} {W : World} {F Fr : Nat → Prop} {μ : Place}
theorem set_hh {h : Heap} {own : Nat → List Nat} {n : Nat} (H : HInv W F Fr μ h own n) {id : Nat} {b0 b : Blk} (hf : find h id = some b0) {W' : World} {S : Nat → Prop} (hS : ∀ x, S x → x ∈ own id) (hs : ∀ x, x < W.heap.size → ¬ S x → Same W W' x) :
    ∀ j b1, find (setH h id b) j = some b1 → (j = id ∧ b1 = b) ∨ (j ≠ id ∧ find h j = some b1 ∧ ∀ x ∈ own j, Same W W' x) := by
  intro j b1 hj
  rw [find_setH] at hj
  split at hj
  · rename_i e; exact .inl ⟨e.symm, (Option.some.inj hj).symm⟩
  · rename_i e
    exact .inr ⟨fun e' => e e'.symm, hj, fun x hx => hs x (H.out j b1 hj x hx).2 (fun hSx => H.dis j id b1 b0 hj hf (fun e' => e e'.symm) x hx (hS x hSx))⟩
/-- A slice that lies in a row of a block: what it is; what comes of other rows there. -/
theorem nest_open {h : Heap} {own : Nat → List Nat} {n : Nat} (H : HInv W F Fr μ h own n) {id sz0 : Nat} {rows0 : List AV} (hf : find h id = some (.arr sz0 rows0)) {r c : Nat} {row : AV} (hrow : rows0[r]? = some row) {sz : Nat} {l : List AV}
    (hx : (cellsOf row)[c]? = some (.un sz l)) :
    ∃ (L : Loc) (A : Option Addr) (o2 : List Nat), μ id (some (r, c)) = some L ∧ L.sz = sz ∧ (0 < L.capT → A = some ⟨L.g, L.o0, none⟩) ∧ RL W no no noPlace [.un sz l] [.slice A l.length L.capT] o2 ∧ (∀ x ∈ o2, x ∈ own id) ∧ o2.Nodup ∧
      ∀ {W' : World} {l' : List AV} {o2' : List Nat}, Step h own W W' → (∀ x, x < W.heap.size → x ∉ o2 → Same W W' x) → RL W' no no noPlace [.un sz l'] [.slice A l.length L.capT] o2' → o2'.Nodup →
        (∀ x ∈ o2', x < W'.heap.size ∧ (W.heap.size ≤ x ∨ x ∈ o2)) → ∀ {v : AV} {cv : Value}, RV W' F Fr μ v cv → After W F Fr μ h own n (setH h id (.arr sz0 (rows0.set r (setCell row c (.un sz l'))))) n v cv W' := by
  obtain ⟨L0, csv, o1, hμ0, hsz0, hpos, hu, hrl, hcap, hcell, hopen, hown, hnest⟩ := H.blk id _ hf
  obtain ⟨L, A, hμ, hsz, hcs, hA⟩ := hnest r c row sz l hrow hx
  obtain ⟨p, o2, q, cv, eo, hcv, hr2, hc, hclose⟩ := nest_split hrl hu hrow hx
  have ecv : cv = .slice A l.length L.capT := by rw [hcs] at hcv; exact (Option.some.inj hcv).symm
  subst ecv
  have hnd : (own id).Nodup := H.nd id _ hf
  have hr0 : ∃ h0, (if L0.capT = 0 then [] else [L0.g]) = h0 := ⟨_, rfl⟩
  obtain ⟨h0, eh0⟩ := hr0
  rw [eh0, eo] at hown
  have ho2 : ∀ x ∈ o2, x ∈ own id := fun x hx => by rw [hown]; simp [hx]
  rw [hown] at hnd
  have hnd2 := hnd
  rw [List.nodup_append, List.nodup_append, List.nodup_append] at hnd2
  obtain ⟨n1, ⟨n2, ⟨n3, n4, n5⟩, n6⟩, n7⟩ := hnd2
  refine ⟨L, A, o2, hμ, hsz, hA, hr2, ho2, n3, ?_⟩
  intro W' l' o2' hst hsame hr2' hnd' ho2' v cv hv
  have hsame2 : ∀ x ∈ own id, x ∉ o2 → Same W W' x := fun x hx hx2 => hsame x (H.out id _ hf x hx).2 hx2
  have hp2 : ∀ x ∈ p, x ∉ o2 := fun x hxp hx2 => n6 x hxp x (by simp [hx2]) rfl
  have hq2 : ∀ x ∈ q, x ∉ o2 := fun x hxq hx2 => n5 x hx2 x hxq rfl
  obtain ⟨hu', hrl'⟩ := hclose (W' := W') (l' := l') (o2' := o2') (fun _ h => h) (fun _ h => h.elim) (fun x hx => hsame2 x (by rw [hown]; simp [hx]) (hp2 x hx)) (fun x hx => hsame2 x (by rw [hown]; simp [hx]) (hq2 x hx)) hr2'
  have hlen : l'.length = l.length := by
    obtain ⟨A', c', e, _⟩ := hr2'.un_shape
    simp at e; exact e.2.1.symm
  have hg0 : ∀ x ∈ h0, Same W W' x := fun x hx => hsame2 x (by rw [hown]; simp [hx]) (fun hx2 => n7 x hx x (by simp [hx2]) rfl)
  refine After.one H id _ (h0 ++ (p ++ (o2' ++ q))) hst (μ' := μ) (fun _ _ _ => rfl) H.pl (Nat.le_refl _) (H.lt id _ hf) (set_hh H hf (S := (· ∈ o2)) ho2 hsame) ?_ ?_ ?_ hv
  · have hc1 : cellsAt W' L0.g L0.o0 csv ∧ openAt W' L0.g L0.o0 (L0.capT * sz0) := by
      by_cases h0c : L0.capT = 0
      · have e0 : rows0 = [] := List.length_eq_zero_iff.1 (by omega)
        subst e0; simp at hrow
      · have := hg0 L0.g (by rw [← eh0, if_neg h0c]; simp)
        exact ⟨hcell.same this, hopen.same this⟩
    refine ⟨L0, csv, p ++ (o2' ++ q), hμ0, hsz0, hpos, hu', hrl', by simpa using hcap, hc1.1, hc1.2, by rw [eh0], ?_⟩
    intro r' c' row' sz'' l'' hrow' hx'
    by_cases er : r' = r
    · subst er
      have hlt := (List.getElem?_eq_some_iff.1 hrow).1
      rw [List.getElem?_set_self hlt] at hrow'
      obtain rfl := Option.some.inj hrow'
      by_cases ec : c' = c
      · subst ec
        have : (cellsOf (setCell row c' (.un sz l')))[c']? = some (.un sz l') := by
          have hcl := (List.getElem?_eq_some_iff.1 hx).1
          cases row <;> simp only [setCell, cellsOf] at hcl ⊢
          all_goals first
            | rw [List.getElem?_set_self hcl]
            | (simp at hcl; subst hcl; simp)
        rw [this] at hx'
        simp only [Option.some.injEq, AV.un.injEq] at hx'
        obtain ⟨rfl, rfl⟩ := hx'
        exact ⟨L, A, hμ, hsz, by rw [hlen]; exact hcs, hA⟩
      · refine hnest r' c' row sz'' l'' hrow ?_
        have hcl := (List.getElem?_eq_some_iff.1 hx).1
        cases row <;> simp only [setCell, cellsOf] at hcl hx' ⊢
        case agg => rwa [List.getElem?_set_ne (fun e => ec e.symm)] at hx'
        all_goals
          have h1 := (List.getElem?_eq_some_iff.1 hx').1
          simp at h1 hcl
          omega
    · rw [List.getElem?_set_ne (fun e => er e.symm)] at hrow'
      exact hnest r' c' row' sz'' l'' hrow' hx'
  · -- no block twice
    have hfr : ∀ x ∈ o2', ∀ y ∈ h0 ++ (p ++ q), x ≠ y := by
      intro x hx y hy e
      subst e
      have hyo : x ∈ own id := by rw [hown]; simp only [List.mem_append] at hy ⊢; rcases hy with hy | hy | hy <;> simp [hy]
      rcases (ho2' x hx).2 with h1 | h1
      · have := (H.out id _ hf x hyo).2; omega
      · simp only [List.mem_append] at hy
        rcases hy with hy | hy | hy
        · exact n7 x hy x (by simp [h1]) rfl
        · exact hp2 x hy h1
        · exact hq2 x hy h1
    rw [List.nodup_append, List.nodup_append, List.nodup_append]
    refine ⟨n1, ⟨n2, ⟨hnd', n4, fun x hx y hy e => hfr x hx y (by simp [hy]) e⟩, ?_⟩, ?_⟩
    · intro x hx y hy e
      rcases List.mem_append.1 hy with hy | hy
      · exact hfr y hy x (by simp [hx]) e.symm
      · exact n6 x hx y (by simp [hy]) e
    · intro x hx y hy e
      rcases List.mem_append.1 hy with hy | hy
      · exact n7 x hx y (by simp [hy]) e
      · rcases List.mem_append.1 hy with hy | hy
        · exact hfr y hy x (by simp [hx]) e.symm
        · exact n7 x hx y (by simp [hy]) e
  · intro x hx
    have old : ∀ x ∈ own id, x < W'.heap.size ∧ (W.heap.size ≤ x ∨ ∃ id0 b0, find h id0 = some b0 ∧ x ∈ own id0 ∧ (id0 = id ∨ find (setH h id (.arr sz0 (rows0.set r (setCell row c (.un sz l'))))) id0 = none)) := fun x hx =>
      ⟨by have := (H.out id _ hf x hx).2; have := hst.size; omega, .inr ⟨id, _, hf, hx, .inl rfl⟩⟩
    simp only [List.mem_append] at hx
    rcases hx with hx | hx | hx | hx
    · exact old x (by rw [hown]; simp [hx])
    · exact old x (by rw [hown]; simp [hx])
    · obtain ⟨h1, h2⟩ := ho2' x hx
      rcases h2 with h2 | h2
      · exact ⟨h1, .inl h2⟩
      · exact old x (ho2 x h2)
    · exact old x (by rw [hown]; simp [hx])
theorem setRows_nest {h h' : Heap} {id r c : Nat} {rows' : List AV} (hs : setRows h id (some (r, c)) rows' = some h') : ∃ sz0 rows0 row sz l, find h id = some (.arr sz0 rows0) ∧ rows0[r]? = some row ∧ (cellsOf row)[c]? = some (.un sz l) ∧ rowsAt h id (some (r, c)) = some (sz, l) ∧
    h' = setH h id (.arr sz0 (rows0.set r (setCell row c (.un sz rows')))) := by
  unfold setRows at hs
  split at hs
  · rename_i hp; cases hp
  · rename_i sz0 rows0 r' c' hf hp
    simp only [Option.some.injEq, Prod.mk.injEq] at hp
    obtain ⟨rfl, rfl⟩ := hp
    split at hs
    · rename_i cs hrow
      split at hs
      · rename_i sz' l hc
        obtain rfl := Option.some.inj hs
        exact ⟨sz0, rows0, _, sz', l, hf, hrow, hc, by simp [rowsAt, hf, hrow, cellsOf, hc], rfl⟩
      · cases hs
    · rename_i sz' l hrow
      split at hs
      · rename_i hc
        subst hc
        obtain rfl := Option.some.inj hs
        exact ⟨sz0, rows0, _, sz', l, hf, hrow, rfl, by simp [rowsAt, hf, hrow, cellsOf], rfl⟩
      · cases hs
    · cases hs
  · cases hs
/-- Rows of a slice in a row of a block written in place: cells from k on. -/
theorem nest_write {h h' : Heap} {own : Nat → List Nat} {n : Nat} (H : HInv W F Fr μ h own n) {id r c sz : Nat} {rows rows' : List AV} (hra : rowsAt h id (some (r, c)) = some (sz, rows)) (hs : setRows h id (some (r, c)) rows' = some h') {L : Loc} (hL : μ id (some (r, c)) = some L)
    {k : Nat} {vcs : List Value} (hprod : ∀ {csv : List Value} {o1 : List Nat}, uni sz rows → RL W no no noPlace rows csv o1 → cellsAt W L.g L.o0 csv → openAt W L.g L.o0 (L.capT * sz) → uni sz rows' ∧ RL W no no noPlace rows' (csv.take k ++ vcs ++ csv.drop (k + vcs.length)) o1 ∧ k + vcs.length ≤ csv.length)
    (hlen : rows'.length = rows.length) (h0 : 0 < rows.length) {v : AV} {cv : Value} (hv : RV (W.setCells L.g (L.o0 + k) vcs) F Fr μ v cv) : After W F Fr μ h own n h' n v cv (W.setCells L.g (L.o0 + k) vcs) := by
  obtain ⟨sz0, rows0, row, sz', l, hf, hrow, hx, hra', rfl⟩ := setRows_nest hs
  obtain ⟨rfl, rfl⟩ : sz' = sz ∧ l = rows := by rw [hra'] at hra; simp at hra; exact hra
  obtain ⟨L', A, o2, hμ, hsz, hA, hr2, ho2, hnd, hclose⟩ := nest_open H hf hrow hx
  obtain rfl : L = L' := by rw [hL] at hμ; exact Option.some.inj hμ
  obtain ⟨_, hq⟩ := hr2.un_inv
  rcases hq with ⟨_, e, _⟩ | ⟨g, o0, cs1, o1', eA, hc0, hcap, hu, hcell1, hopen, hr1, eo⟩
  · subst e; simp at h0
  · have := hA hc0
    rw [eA] at this
    simp only [Option.some.injEq, Addr.mk.injEq] at this
    obtain ⟨rfl, rfl, _⟩ := this
    obtain ⟨hu', hr', hle⟩ := hprod hu hr1 hcell1 hopen
    have hw1 := hr1.width
    have hlc : cs1.length = l.length * sz' := by rw [hw1]; exact uni_widthL hu
    have hle2 : k + vcs.length ≤ L.capT * sz' := by
      have : l.length * sz' ≤ L.capT * sz' := Nat.mul_le_mul_right _ hcap
      omega
    have hsame : ∀ x, x ≠ L.g → Same W (W.setCells L.g (L.o0 + k) vcs) x := fun x hx => setCells_same _ hx vcs _ W
    have hgo : L.g ∈ own id := ho2 _ (by rw [eo]; simp)
    have hst : Step h own W (W.setCells L.g (L.o0 + k) vcs) := Step.set ⟨id, _, hf, hgo⟩
    have hnd1 : L.g ∉ o1' := by rw [eo] at hnd; exact (List.nodup_cons.1 hnd).1
    have hr'' := hr'.same0 (fun x hx => hsame x (fun e => hnd1 (e ▸ hx)))
    refine hclose hst (fun x _ hx => hsame x (fun e => hx (by rw [eo, e]; simp))) (o2' := o2) ?_ hnd (fun x hx => ⟨by rw [setCells_size]; exact (H.out id _ hf x (ho2 x hx)).2, .inr hx⟩) hv
    rw [eA, eo, ← hlen]
    have := RL.un1 (vs := []) (cs := []) (o := []) (μ := noPlace) sz' rows' L.g L.o0 L.capT _ o1' hc0 (by omega) hu' (setCells_cells hcell1 hle) (setCells_open hopen hle2) hr'' .nil
    simpa using this
/-- Rows of a block written in place: cells from k on. -/
theorem arr_write {h : Heap} {own : Nat → List Nat} {n : Nat} (H : HInv W F Fr μ h own n) {id sz : Nat} {rows rows' : List AV} (hf : find h id = some (.arr sz rows)) {L : Loc} (hL : μ id none = some L) {k : Nat} {vcs : List Value}
    (hprod : ∀ {csv : List Value} {o1 : List Nat}, uni sz rows → RL W no no noPlace rows csv o1 → rows.length ≤ L.capT → uni sz rows' ∧ RL W no no noPlace rows' (csv.take k ++ vcs ++ csv.drop (k + vcs.length)) o1 ∧ k + vcs.length ≤ csv.length ∧
      ∀ r c row sz' l, rows'[r]? = some row → (cellsOf row)[c]? = some (.un sz' l) → rows[r]? = some row ∧ (csv.take k ++ vcs ++ csv.drop (k + vcs.length))[r * sz + c]? = csv[r * sz + c]?)
    (hlen : rows'.length = rows.length) (h0 : 0 < rows.length) {v : AV} {cv : Value} (hv : RV (W.setCells L.g (L.o0 + k) vcs) F Fr μ v cv) : After W F Fr μ h own n (setH h id (.arr sz rows')) n v cv (W.setCells L.g (L.o0 + k) vcs) := by
  obtain ⟨L', csv, o1, hμ, hsz, hpos, hu, hrl, hcap, hcell, hopen, hown, hnest⟩ := H.blk id _ hf
  obtain rfl : L = L' := by rw [hL] at hμ; exact Option.some.inj hμ
  obtain ⟨hu', hr', hle, hk⟩ := hprod hu hrl hcap
  have hlc : csv.length = rows.length * sz := by rw [hrl.width]; exact uni_widthL hu
  have hle2 : k + vcs.length ≤ L.capT * sz := by
    have : rows.length * sz ≤ L.capT * sz := Nat.mul_le_mul_right _ hcap
    omega
  rw [if_neg (by omega)] at hown
  have hsame : ∀ x, x ≠ L.g → Same W (W.setCells L.g (L.o0 + k) vcs) x := fun x hx => setCells_same _ hx vcs _ W
  have hgo : L.g ∈ own id := by rw [hown]; simp
  have hnd := H.nd id _ hf
  have hnd1 : L.g ∉ o1 := by rw [hown] at hnd; exact (List.nodup_cons.1 hnd).1
  have hst : Step h own W (W.setCells L.g (L.o0 + k) vcs) := Step.set ⟨id, _, hf, hgo⟩
  refine After.one H id _ (own id) hst (μ' := μ) (fun _ _ _ => rfl) H.pl (Nat.le_refl _) (H.lt id _ hf) (set_hh H hf (S := (· = L.g)) (fun x hx => hx ▸ hgo) (fun x _ hx => hsame x hx)) ?_ hnd (fun x hx => ⟨by rw [setCells_size]; exact (H.out id _ hf x hx).2, .inr ⟨id, _, hf, hx, .inl rfl⟩⟩) hv
  refine ⟨L, _, o1, hL, hsz, hpos, hu', hr'.same0 (fun x hx => hsame x (fun e => hnd1 (e ▸ hx))), by omega, setCells_cells hcell hle, setCells_open hopen hle2, by rw [if_neg (by omega)]; exact hown, nest_keep hnest hk⟩
/-- A variable's cells written. -/
theorem box_write {h : Heap} {own : Nat → List Nat} {n : Nat} (H : HInv W F Fr μ h own n) {id : Nat} {cs : List AV} (hf : find h id = some (.box cs)) {L : Loc} (hL : μ id none = some L) {c : Nat} {vs : List AV} {vcs : List Value} (hvo : ones vs) (hvr : RL W F Fr μ vs vcs []) (hle : c + vs.length ≤ cs.length)
    {v : AV} {cv : Value} (hv : RV (W.setCells L.g (L.o0 + c) vcs) F Fr μ v cv) : After W F Fr μ h own n (setH h id (.box (putAt cs c vs))) n v cv (W.setCells L.g (L.o0 + c) vcs) := by
  obtain ⟨L', csv, hμ, hone, hrl, hcell, hopen, hown⟩ := box_at H hf
  obtain rfl : L = L' := by rw [hL] at hμ; exact Option.some.inj hμ
  obtain ⟨h1, h2, h3⟩ := RL.putAt hone hvo hrl hvr hle
  have hw := hrl.width
  rw [ones_widthL hone] at hw
  have hle2 : c + vcs.length ≤ csv.length := by omega
  have hsame : ∀ x, x ≠ L.g → Same W (W.setCells L.g (L.o0 + c) vcs) x := fun x hx => setCells_same _ hx vcs _ W
  have hgo : L.g ∈ own id := by rw [hown]; simp
  have hst : Step h own W (W.setCells L.g (L.o0 + c) vcs) := Step.set ⟨id, _, hf, hgo⟩
  refine After.one H id _ (own id) hst (μ' := μ) (fun _ _ _ => rfl) H.pl (Nat.le_refl _) (H.lt id _ hf) (set_hh H hf (S := (· = L.g)) (fun x hx => hx ▸ hgo) (fun x _ hx => hsame x hx)) ?_ (H.nd id _ hf) (fun x hx => ⟨by rw [setCells_size]; exact (H.out id _ hf x hx).2, .inr ⟨id, _, hf, hx, .inl rfl⟩⟩) hv
  refine ⟨L, _, hL, h1, h2.same H.fr (hst.onF H) (by simp), setCells_cells hcell hle2, ?_, hown⟩
  have : (csv.take c ++ vcs ++ csv.drop (c + vcs.length)).length = csv.length := by simp; omega
  rw [this]
  exact setCells_open hopen hle2
theorem store_sound {h h' : Heap} {own : Nat → List Nat} {n : Nat} (H : HInv W F Fr μ h own n) {t : TypeId} {m : Nat} (hm : szOf P t = some m) {x v : AV} {cx cv : Value} (hx : RV W F Fr μ x cx) (hv : RV W F Fr μ v cv) (hr : storeVal h m v x = some h') :
    ∃ W', (Instr.storeAt t cx cv).run P W = .ok () W' ∧ After W F Fr μ h own n h' n (.tup []) Go.undef W' := by
  unfold storeVal at hr
  split at hr
  · rename_i id r c
    obtain ⟨L, hL, rfl⟩ := hx.ptr_inv
    split at hr
    · rename_i cs hf
      split at hr
      · rename_i hc
        obtain ⟨rfl, hle, hlen, hb⟩ := hc
        obtain rfl := Option.some.inj hr
        obtain ⟨L', csv, hμ, hone, hrl, hcell, hopen, hown⟩ := box_at H hf
        obtain rfl : L = L' := by rw [hL] at hμ; exact Option.some.inj hμ
        obtain ⟨h1, h2⟩ := hv.cells (.inl hb)
        have hw := h2.width
        rw [ones_widthL h1] at hw
        have hw2 := hrl.width
        rw [ones_widthL hone] at hw2
        have hrun := storeAt_run (P := P) hopen (k := c) hm (cv := cv) (by omega) (by omega) h2.oneCell
        refine ⟨_, by simpa using hrun, box_write H hf hL h1 h2 (by omega) RV.undef⟩
      · cases hr
    · rename_i sz rows hf
      split at hr
      · rename_i row hrow
        split at hr
        · rename_i hc
          obtain ⟨hfl, hlen, hvf⟩ := hc
          split at hr
          · rename_i row' hp
            obtain rfl := Option.some.inj hr
            obtain ⟨h1, h2⟩ := hv.cells (.inr ⟨fun e => by subst e; simp [cellsOf, flatCL, flatC] at hvf, fun l e => by subst e; simp [cellsOf, flatCL, flatC] at hvf⟩)
            have hw := h2.width
            rw [ones_widthL h1] at hw
            obtain ⟨L', csv, o1, hμ, hsz, hpos, hu, hrl, hcap, hcell, hopen, hown, hnest⟩ := H.blk id _ hf
            obtain rfl : L = L' := by rw [hL] at hμ; exact Option.some.inj hμ
            have hlt := (List.getElem?_eq_some_iff.1 hrow).1
            obtain ⟨_, _, _, q1, q2⟩ := setRow_rel hrl hu hrow hfl hp hvf h1 (RL.ofFlatCL hvf h2 (μ' := noPlace))
            have hlc : csv.length = rows.length * sz := by rw [hrl.width]; exact uni_widthL hu
            have hle2 : rows.length * sz ≤ L.capT * sz := Nat.mul_le_mul_right _ hcap
            have hrun := storeAt_run (P := P) hopen (k := r * sz + c) hm (cv := cv) (by omega) (by omega) h2.oneCell
            refine ⟨_, by simpa [hsz, Nat.add_assoc] using hrun, ?_⟩
            refine arr_write H hf hL (fun {csv o1} hu hrl hcap => ?_) (by simp) (by omega) RV.undef
            obtain ⟨a1, a2, a3, a4, a5⟩ := setRow_rel hrl hu hrow hfl hp hvf h1 (RL.ofFlatCL hvf h2 (μ' := noPlace))
            refine ⟨a1, a2, a5, ?_⟩
            intro r' c' row1 sz' l hrow1 hc1
            by_cases er : r' = r
            · subst er
              rw [List.getElem?_set_self hlt] at hrow1
              obtain rfl := Option.some.inj hrow1
              exact absurd hc1 (flat_no_un a3)
            · rw [List.getElem?_set_ne (fun e => er e.symm)] at hrow1
              refine ⟨hrow1, ?_⟩
              obtain ⟨_, _, _, _, hc', _⟩ := cell_row hrl hu hrow1 hc1
              rw [getElem?_put a5]
              rcases Nat.lt_or_gt_of_ne er with h | h
              · left
                have : (r' + 1) * sz ≤ r * sz := Nat.mul_le_mul_right _ h
                rw [Nat.add_mul] at this; omega
              · right
                have : (r + 1) * sz ≤ r' * sz := Nat.mul_le_mul_right _ h
                rw [Nat.add_mul] at this; omega
          · cases hr
        · cases hr
      · cases hr
    · cases hr
  · rename_i id p r c
    obtain ⟨L, hL, rfl⟩ := hx.ptr_inv
    split at hr
    · rename_i sz rows hra
      split at hr
      · rename_i row hrow
        split at hr
        · rename_i hc
          obtain ⟨hfl, hlen, hvf⟩ := hc
          split at hr
          · rename_i row' hp
            obtain ⟨h1, h2⟩ := hv.cells (.inr ⟨fun e => by subst e; simp [cellsOf, flatCL, flatC] at hvf, fun l e => by subst e; simp [cellsOf, flatCL, flatC] at hvf⟩)
            have hw := h2.width
            rw [ones_widthL h1] at hw
            obtain ⟨L', csv, o1, hμ, hsz, hu, hrl, hcap, hcell, hopen, hown, hg, _⟩ := rowsAt_rel H hra
            obtain rfl : L = L' := by rw [hL] at hμ; exact Option.some.inj hμ
            have hlt := (List.getElem?_eq_some_iff.1 hrow).1
            obtain ⟨_, _, _, q1, q2⟩ := setRow_rel hrl hu hrow hfl hp hvf h1 (RL.ofFlatCL hvf h2 (μ' := noPlace))
            have hlc : csv.length = rows.length * sz := by rw [hrl.width]; exact uni_widthL hu
            have hle2 : rows.length * sz ≤ L.capT * sz := Nat.mul_le_mul_right _ hcap
            have hrun := storeAt_run (P := P) hopen (k := r * sz + c) hm (cv := cv) (by omega) (by omega) h2.oneCell
            obtain ⟨pr, pc⟩ := p
            refine ⟨_, by simpa [hsz, Nat.add_assoc] using hrun, ?_⟩
            refine nest_write H hra hr hL (fun {csv o1} hu hrl _ _ => ?_) (by simp) (by omega) RV.undef
            obtain ⟨a1, a2, a3, a4, a5⟩ := setRow_rel hrl hu hrow hfl hp hvf h1 (RL.ofFlatCL hvf h2 (μ' := noPlace))
            exact ⟨a1, a2, a5⟩
          · cases hr
        · cases hr
      · cases hr
    · cases hr
  · cases hr
end
end Go.Am
/- THE ABSTRACT MACHINE (AM): slices moved into rows; slices' literals. No condition. -/
namespace Go.Am
set_option linter.unusedSimpArgs false
set_option linter.unusedVariables false

section
variable {P : Program} {W : World} {F Fr : Nat → Prop} {μ : Place}
/-- Blocks that went out of the heap. -/
def Gone (h h' : Heap) (own : Nat → List Nat) (x : Nat) : Prop := ∃ id b, find h id = some b ∧ x ∈ own id ∧ find h' id = none
def Fewer (h h' : Heap) : Prop := ∀ id b, find h' id = some b → find h id = some b
theorem Fewer.refl (h : Heap) : Fewer h h := fun _ _ e => e
theorem Fewer.trans {h h1 h2 : Heap} (a : Fewer h h1) (b : Fewer h1 h2) : Fewer h h2 := fun id x e => a id x (b id x e)
theorem Fewer.none {h h' : Heap} (a : Fewer h h') {id : Nat} (e : find h id = .none) : find h' id = .none := by
  cases hq : find h' id with
  | none => rfl
  | some b => rw [a id b hq] at e; cases e
theorem Fewer.del (h : Heap) (j : Nat) : Fewer h (delH h j) := fun id b hf => by rw [find_delH] at hf; split at hf <;> first | cases hf | exact hf
theorem Gone.mono {h h1 h2 : Heap} {own : Nat → List Nat} {x : Nat} (g : Gone h h1 own x) (b : Fewer h1 h2) : Gone h h2 own x := let ⟨id, q, e1, e2, e3⟩ := g; ⟨id, q, e1, e2, b.none e3⟩
theorem Gone.later {h h1 h2 : Heap} {own : Nat → List Nat} {x : Nat} (a : Fewer h h1) (g : Gone h1 h2 own x) : Gone h h2 own x := let ⟨id, q, e1, e2, e3⟩ := g; ⟨id, q, a id q e1, e2, e3⟩
/-- What went first and what went later have nothing in common. -/
theorem Gone.apart {h h1 h2 : Heap} {own : Nat → List Nat} {n : Nat} (H : HInv W F Fr μ h own n) (a : Fewer h h1) {x : Nat} (g1 : Gone h h1 own x) (g2 : Gone h1 h2 own x) : False := by
  obtain ⟨id, b, e1, e2, e3⟩ := g1
  obtain ⟨id', b', f1, f2, f3⟩ := g2
  by_cases e : id = id'
  · subst e; rw [e3] at f1; cases f1
  · exact H.dis id id' b b' e1 (a id' b' f1) e x e2 f2
theorem rows_mid {rows : List AV} {csv : List Value} {o1 : List Nat} {sz : Nat} (hrl : RL W F Fr μ rows csv o1) (hu : uni sz rows) {r : Nat} {row : AV} (hrow : rows[r]? = some row) :
    ∃ c1 c3 c4 p o2 q, csv = c1 ++ (c3 ++ c4) ∧ o1 = p ++ (o2 ++ q) ∧ c1.length = r * sz ∧ c3.length = sz ∧ RL W F Fr μ [row] c3 o2 ∧
      ∀ {row' : AV} {cs' : List Value} {o2' : List Nat}, RL W F Fr μ [row'] cs' o2' → row'.width = sz → uni sz (rows.set r row') ∧ RL W F Fr μ (rows.set r row') (c1 ++ (cs' ++ c4)) (p ++ (o2' ++ q)) := by
  obtain ⟨e1, _⟩ := set_split hrow row
  have hrw : row.width = sz := uni_mem hu row (List.mem_of_getElem? hrow)
  have hlt := (List.getElem?_eq_some_iff.1 hrow).1
  rw [e1] at hrl
  obtain ⟨c1, c2, o1, o2, rfl, rfl, h1, h2⟩ := hrl.split
  obtain ⟨c3, c4, o3, o4, rfl, rfl, h3, h4⟩ := RL.uncons h2
  have w1 := h1.width
  rw [uni_widthL (uni_sub hu fun v hv => List.mem_of_mem_take hv)] at w1
  simp only [List.length_take] at w1
  rw [Nat.min_eq_left (by omega)] at w1
  have w3 := h3.width
  simp [AV.widthL, hrw] at w3
  refine ⟨c1, c3, c4, o1, o3, o4, rfl, rfl, w1, w3, h3, ?_⟩
  intro row' cs' o2' hr' hw'
  obtain ⟨_, e2⟩ := set_split hrow row'
  refine ⟨uni_of fun v hv => ?_, ?_⟩
  · rcases List.mem_or_eq_of_mem_set hv with hv | rfl
    · exact uni_mem hu v hv
    · exact hw'
  · rw [e2]
    exact h1.append (RL.cons hr' h4)
theorem openAt.sub {g o0 n : Nat} (h : openAt W g o0 n) {k m : Nat} (hle : k + m ≤ n) : openAt W g (o0 + k) m := fun j hj => by
  have := h (k + j) (by omega)
  rwa [← Nat.add_assoc] at this
/-- A block's view, taken out of the heap. -/
theorem take_ref {h : Heap} {own : Nat → List Nat} {n : Nat} (H : HInv W F Fr μ h own n) {id off len cap : Nat} {ex : Bool} {cv : Value} (hv : RV W F Fr μ (.ref id none off len cap ex) cv) {sz : Nat} {rows l : List AV} (hra : rowsAt h id none = some (sz, rows)) (hl : view rows off len = some l) :
    ∃ o, RL W no no noPlace [.un sz l] [cv] o ∧ o.Nodup ∧ (∀ x ∈ o, x ∈ own id) ∧ ∃ b, find h id = some b := by
  obtain ⟨L, A, c, hμ, hle, hcap, hex, hfit, hA, rfl⟩ := hv.ref_inv
  have hf : find h id = some (.arr sz rows) := by
    unfold rowsAt at hra
    split at hra
    · rename_i hf _; simp at hra; rw [hf, hra.1, hra.2]
    · rename_i hp; cases hp
    · cases hra
  obtain ⟨L', csv, o1, hμ', hsz, hpos, hu, hrl, hcT, hcell, hopen, hown, hnest⟩ := H.blk id _ hf
  obtain rfl : L = L' := by rw [hμ] at hμ'; exact Option.some.inj hμ'
  obtain ⟨rfl, hle2, hlen⟩ := view_mem hl
  by_cases hc : c = 0
  · subst hc
    have : len = 0 := by omega
    subst this
    exact ⟨[], by simpa using RL.un0 sz A .nil, by simp, by simp, _, hf⟩
  · have hA := hA (by omega)
    subst hA
    obtain ⟨c1, c3, p1, p2, p3, e1, e2, e3, e4, _, h2, _⟩ := hrl.rows hu hle2
    rw [if_neg (by omega)] at hown
    have hnd := H.nd id _ hf
    rw [hown, List.singleton_append, List.nodup_cons] at hnd
    have hnd2 := hnd.2
    rw [e4, List.nodup_append, List.nodup_append] at hnd2
    refine ⟨L.g :: p2, ?_, List.nodup_cons.2 ⟨fun hx => hnd.1 (by rw [e4]; simp [hx]), hnd2.2.1.1⟩, fun x hx => by rw [hown, e4]; simp at hx ⊢; rcases hx with rfl | hx <;> simp [*], _, hf⟩
    have := RL.un1 (vs := []) (cs := []) (o := []) (μ := noPlace) sz ((rows.drop off).take len) L.g (L.o0 + off * L.sz) c _ p2 (by omega) (by rw [hlen]; omega) (uni_sub hu fun v hv => List.mem_of_mem_drop (List.mem_of_mem_take hv)) (by rw [hsz]; exact hcell.sub _ _)
      (by rw [hsz]; exact hopen.sub (by rw [← Nat.add_mul]; exact Nat.mul_le_mul_right _ hfit)) h2 .nil
    rw [hlen] at this
    simpa using this
theorem takeCell_rel {h h' : Heap} {own : Nat → List Nat} {n : Nat} (H : HInv W F Fr μ h own n) {v x : AV} {cs : List Value} (hv : RL W F Fr μ [v] cs []) (ht : takeCell h v = some (x, h')) :
    (∃ o, RL W no no noPlace [x] cs o ∧ o.Nodup ∧ ∀ y ∈ o, Gone h h' own y) ∧ (∀ m, x ≠ .agg m) ∧ Fewer h h' := by
  cases v <;> simp only [takeCell] at ht <;> try cases ht
  case i => cases hv; rename_i hv; cases hv; exact ⟨⟨[], .i .nil, by simp, by simp⟩, by simp, .refl _⟩
  case b => cases hv; rename_i hv; cases hv; exact ⟨⟨[], .b .nil, by simp, by simp⟩, by simp, .refl _⟩
  case s => cases hv; rename_i hv; cases hv; exact ⟨⟨[], .s .nil, by simp, by simp⟩, by simp, .refl _⟩
  case nil => cases hv; rename_i hv; cases hv; exact ⟨⟨[], .niL .nil, by simp, by simp⟩, by simp, .refl _⟩
  case emp => cases hv; rename_i hv; cases hv; exact ⟨⟨[], .emp _ .nil, by simp, by simp⟩, by simp, .refl _⟩
  case ref id p off len cap ex =>
    cases p with
    | some q => simp at ht
    | none =>
      simp only at ht
      split at ht
      · rename_i sz rows hra
        split at ht
        · rename_i l hl
          simp only [Option.some.injEq, Prod.mk.injEq] at ht
          obtain ⟨rfl, rfl⟩ := ht
          have hw := hv.width
          simp [AV.widthL, AV.width] at hw
          match cs, hw with
          | [cv], _ =>
            obtain ⟨o, h1, h2, h3, b, h4⟩ := take_ref H (RV.ofSingle hv (by simp)) hra hl
            exact ⟨⟨o, h1, h2, fun y hy => ⟨id, b, h4, h3 y hy, by rw [find_delH, if_pos rfl]⟩⟩, by simp, .del _ _⟩
        · cases ht
      · cases ht
theorem takeCells_rel {own : Nat → List Nat} {n : Nat} : ∀ {l xs : List AV} {h h' : Heap} (H : HInv W F Fr μ h own n) {cs : List Value} (hv : RL W F Fr μ l cs []) (ht : takeCells h l = some (xs, h')),
    (∃ o, RL W no no noPlace xs cs o ∧ o.Nodup ∧ ∀ y ∈ o, Gone h h' own y) ∧ ones xs ∧ xs.length = l.length ∧ Fewer h h'
  | [], xs, h, h', H, cs, hv, ht => by
    simp [takeCells] at ht
    obtain ⟨rfl, rfl⟩ := ht
    cases hv
    exact ⟨⟨[], .nil, by simp, by simp⟩, trivial, rfl, .refl _⟩
  | v :: l, xs, h, h', H, cs, hv, ht => by
    simp only [takeCells] at ht
    split at ht
    · rename_i x h1 hx
      split at ht
      · rename_i xs' h2 hxs
        simp only [Option.some.injEq, Prod.mk.injEq] at ht
        obtain ⟨rfl, rfl⟩ := ht
        obtain ⟨c1, c2, o1, o2, rfl, eo, h3, h4⟩ := RL.uncons hv
        have eo := List.append_eq_nil_iff.1 eo.symm
        rw [eo.1] at h3; rw [eo.2] at h4
        obtain ⟨⟨o, a1, a2, a3⟩, a4, a5⟩ := takeCell_rel H h3 hx
        obtain ⟨⟨o', b1, b2, b3⟩, b4, b5, b6⟩ := takeCells_rel (H.fewer a5) h4 hxs
        refine ⟨⟨o ++ o', RL.cons a1 b1, ?_, fun y hy => ?_⟩, ⟨a4, b4⟩, by simp [b5], a5.trans b6⟩
        · rw [List.nodup_append]
          exact ⟨a2, b2, fun y hy z hz e => Gone.apart H a5 (a3 y hy) (e ▸ b3 z hz)⟩
        · rcases List.mem_append.1 hy with hy | hy
          · exact (a3 y hy).mono b6
          · exact (b3 y hy).later a5
      · cases ht
    · cases ht
/-- A value that becomes a row. -/
theorem takeRow_rel {h h' : Heap} {own : Nat → List Nat} {n : Nat} (H : HInv W F Fr μ h own n) {sz : Nat} {v x : AV} {cv : Value} (hv : RV W F Fr μ v cv) (ht : takeRow h sz v = some (x, h')) :
    (∃ o, RL W no no noPlace [x] cv.cells.toList o ∧ o.Nodup ∧ ∀ y ∈ o, Gone h h' own y) ∧ x.width = sz ∧ cv.cells.size = sz ∧ Fewer h h' := by
  unfold takeRow at ht
  split at ht
  · rename_i l
    split at ht
    · rename_i hl
      split at ht
      · rename_i xs h1 hxs
        simp only [Option.some.injEq, Prod.mk.injEq] at ht
        obtain ⟨rfl, rfl⟩ := ht
        obtain ⟨cs, rfl, hone, hr⟩ := hv.agg
        obtain ⟨⟨o, a1, a2, a3⟩, a4, a5, a6⟩ := takeCells_rel H hr hxs
        have hw := hr.width
        rw [ones_widthL hone] at hw
        exact ⟨⟨o, .toAgg a4 a1, a2, a3⟩, by simp [AV.width, ones_widthL a4, a5, hl], by simp [Value.cells]; simp at hw; omega, a6⟩
      · cases ht
    · cases ht
  · split at ht
    · rename_i hs
      subst hs
      have hj : v ≠ .junk := by rintro rfl; simp [takeCell] at ht
      have ht' : ∀ l, v ≠ .tup l := by rintro l rfl; simp [takeCell] at ht
      have ha : ∀ l, v ≠ .agg l := by rintro l rfl; rename_i hna; exact hna _ rfl
      have h1 := hv.single hj ha ht'
      have hc := cells_one (h1.oneCell cv (by simp))
      obtain ⟨a1, a2, a3⟩ := takeCell_rel H h1 ht
      rw [hc]
      exact ⟨a1, width_one a2, rfl, a3⟩
    · cases ht
theorem slimParts_rel : ∀ {parts : List (Nat × Operand)} {ps : List (Nat × Opd)}, slimParts parts = some ps → All2 (fun (p : Nat × Operand) (q : Nat × Opd) => p.1 = q.1 ∧ slimX p.2 = some q.2) parts ps
  | [], ps, h => by simp [slimParts] at h; subst h; exact .nil
  | (j, x) :: l, ps, h => by
    simp only [slimParts] at h
    split at h
    · rename_i y ys h1 h2
      obtain rfl := Option.some.inj h
      exact .cons ⟨rfl, h1⟩ (slimParts_rel h2)
    · cases h
theorem takeRows_run {t : Temps} {a : Act} (ht : TInv W F Fr μ t a.tmps) {own : Nat → List Nat} {n sz : Nat} {h0 : Heap} (H0 : HInv W F Fr μ h0 own n) : ∀ {parts : List (Nat × Operand)} {ps : List (Nat × Opd)}, All2 (fun (p : Nat × Operand) (q : Nat × Opd) => p.1 = q.1 ∧ slimX p.2 = some q.2) parts ps →
    ∀ {h h' : Heap} {rows rows' : List AV} {csv : Array Value} {o : List Nat}, Fewer h0 h → uni sz rows → RL W no no noPlace rows csv.toList o → o.Nodup → (∀ y ∈ o, Gone h0 h own y) → takeRows h sz rows (evParts t ps) = some (rows', h') →
    ∃ csv' o', Instr.fill (fun i => some (i * sz, sz)) csv (parts.map fun (i, x) => (i, a.eval x)) = some csv' ∧ csv'.size = csv.size ∧ rows'.length = rows.length ∧ Fewer h0 h' ∧ uni sz rows' ∧ RL W no no noPlace rows' csv'.toList o' ∧ o'.Nodup ∧ ∀ y ∈ o', Gone h0 h' own y
  | _, _, .nil, h, h', rows, rows', csv, o, hf, hu, hr, hnd, ho, hk => by
    simp [takeRows, evParts] at hk
    obtain ⟨rfl, rfl⟩ := hk
    exact ⟨csv, o, rfl, rfl, rfl, hf, hu, hr, hnd, ho⟩
  | (i, x) :: parts, (j, y) :: ps, .cons ⟨hp, hx⟩ hrest, h, h', rows, rows', csv, o, hf, hu, hr, hnd, ho, hk => by
    obtain rfl : i = j := hp
    have hx : slimX x = some y := hx
    simp only [takeRows, evParts] at hk
    split at hk
    · rename_i z h1 hz
      split at hk
      · rename_i hj
        have hv := opd_rel hx ht
        obtain ⟨⟨o2', a1, a2, a3⟩, a4, a5, a6⟩ := takeRow_rel (H0.fewer hf) hv hz
        obtain ⟨row, hrow⟩ : ∃ row, rows[i]? = some row := ⟨rows[i], by simp [hj]⟩
        obtain ⟨c1, c3, c4, p, o2, q, ec, eo, e1, e2, _, hset⟩ := rows_mid hr hu hrow
        obtain ⟨b1, b2⟩ := hset a1 a4
        have hcl : csv.size = c1.length + (c3.length + c4.length) := by
          have := congrArg List.length ec; simpa using this
        have hle : i * sz + (a.eval x).cells.size ≤ csv.size := by omega
        have hone := fill_one (cells := csv) (v := a.eval x) (off := i * sz) hle
        have hlist : ((a.eval x).cells.zipIdx.foldl (fun cs (x : Value × Nat) => cs.setIfInBounds (i * sz + x.2) x.1) csv).toList = c1 ++ ((a.eval x).cells.toList ++ c4) := by
          rw [hone, ec, List.take_left' e1]
          have : (c1 ++ (c3 ++ c4)).drop (i * sz + (a.eval x).cells.toList.length) = c4 := by
            rw [← List.drop_drop, List.drop_left' e1, List.drop_left' (by rw [e2]; simp [a5])]
          rw [this, List.append_assoc]
        have hgl : ∀ y ∈ p ++ (o2' ++ q), Gone h0 h1 own y := fun y hy => by
          simp only [List.mem_append] at hy
          rcases hy with hy | hy | hy
          · exact (ho y (by rw [eo]; simp [hy])).mono a6
          · exact (a3 y hy).later hf
          · exact (ho y (by rw [eo]; simp [hy])).mono a6
        have hap : ∀ y ∈ o, ∀ z ∈ o2', y ≠ z := fun y hy z hz e => Gone.apart H0 hf (ho y hy) (e ▸ a3 z hz)
        rw [eo, List.nodup_append, List.nodup_append] at hnd
        obtain ⟨n1, ⟨n2, n3, n4⟩, n5⟩ := hnd
        have hnd' : (p ++ (o2' ++ q)).Nodup := by
          rw [List.nodup_append, List.nodup_append]
          refine ⟨n1, ⟨a2, n3, fun y hy z hz e => hap z (by rw [eo]; simp [hz]) y hy e.symm⟩, fun y hy z hz e => ?_⟩
          rcases List.mem_append.1 hz with hz | hz
          · exact hap y (by rw [eo]; simp [hy]) z hz e
          · exact n5 y hy z (by simp [hz]) e
        obtain ⟨csv', o', k1, k2, k3, k4, k5, k6, k7, k8⟩ := takeRows_run ht H0 hrest (csv := ((a.eval x).cells.zipIdx.foldl (fun cs (x : Value × Nat) => cs.setIfInBounds (i * sz + x.2) x.1) csv)) (hf.trans a6) b1 (by rw [hlist]; exact b2) hnd' hgl hk
        refine ⟨csv', o', ?_, ?_, by simpa using k3, k4, k5, k6, k7, k8⟩
        · simp only [List.map_cons, Instr.fill]
          rw [if_neg (by simp; omega)]
          exact k1
        · rw [k2]
          have := congrArg List.length hlist
          simp only [Array.length_toList, List.length_append] at this
          omega
      · cases hk
    · cases hk
theorem bsl_sound {h h' : Heap} {own : Nat → List Nat} {n : Nat} (H : HInv W F Fr μ h own n) {tt : Temps} {ac : Act} (ht : TInv W F Fr μ tt ac.tmps) {t e : TypeId} (hu : P.underlying t = some (.slice e)) {z : Zero} {a : Bool} (hz : zeroOf P e = some z) (ha : isAggB P e = some a) {m : Nat} (hm : szOf P e = some m)
    (hpos : 0 < m) (h1 : a = true ∨ m = 1) {len : Nat} (hbig : len * m ≤ 16777216) {parts : Array (Nat × Operand)} {ps : List (Nat × Opd)} (hps : slimParts parts.toList = some ps) {rows' : List AV} (hk : takeRows h m (List.replicate len (zrow a z)) (evParts tt ps) = some (rows', h')) :
    ∃ cv W', (Instr.buildSlice t len (parts.map fun (i, x) => (i, ac.eval x))).run P W = .ok cv W' ∧ After W F Fr μ h own n ((n, .arr m rows') :: h') (n + 1) (.ref n none 0 len len true) cv W' := by
  obtain ⟨i, zv, hi, hzv, _⟩ := zeroOf_rel hz
  obtain rfl : i.size = m := by unfold szOf at hm; rw [hi] at hm; simpa using hm
  obtain ⟨hs, hw, hr⟩ := zrow_rel hz ha hi hzv hpos (fun e => by rcases h1 with h1 | h1 <;> simp_all)
  have hlist := made_list hs hpos len
  obtain ⟨csv', o', k1, k2, k3, k4, k5, k6, k7, k8⟩ := takeRows_run ht H (slimParts_rel hps) (csv := (Array.range (len * i.size)).map (zv.cells[· % zv.cells.size]!)) (o := []) (.refl _) (uni_replicate hw len) (by rw [hlist]; exact (hr (W := W) (F := no) (Fr := no) (μ := noPlace)).replicate len) (by simp) (by simp) hk
  refine ⟨.slice (some ⟨W.heap.size, 0, none⟩) len len, W.alloc (.cells csv' e), ?_, ?_⟩
  · have hbig' : ¬ (len * i.size > 2 ^ 24) := by omega
    by_cases e0 : len * i.size = 0
    · rw [e0] at k1
      simp only [Array.range_zero', Array.map_empty] at k1
      simp [Instr.buildSlice, run_und hu, run_szOf hm, e0, Array.range_zero', k1, newRow]
    · simp [Instr.buildSlice, run_und hu, run_szOf hm, hbig', e0, run_zeroValue hi hzv, newRow]
      simp at k1
      simp [k1]
  · have hsz : csv'.size = len * i.size := by rw [k2]; simp
    have hwid := k6.width
    rw [uni_widthL k5, k3] at hwid
    refine After.lay H ((Step.refl h own W).alloc _) (by simp) (same_alloc _) hpos k5 k6 (by simp [k3]) cellsAt_new (openAt_new (by omega)) k4 k7 (fun y hy => k8 y hy) (Nat.le_refl _) (Nat.le_refl _) (fun _ => rfl)
end
end Go.Am
/- THE ABSTRACT MACHINE (AM): append. No condition. -/
namespace Go.Am
set_option linter.unusedSimpArgs false
set_option linter.unusedVariables false

section
variable {P : Program} {W : World} {F Fr : Nat → Prop} {μ : Place}
theorem SliceAt.src {cx : Value} {sz : Nat} {ys : List AV} {o : List Nat} (h : SliceAt W no no cx sz ys o) {tx e' : TypeId} (hk : P.underlying tx = some (.slice e')) :
    ∃ news, Src P sz tx cx ys.length news W ∧ uni sz ys ∧ RL W no no noPlace ys news o ∧ news.length = ys.length * sz := by
  obtain ⟨A, c, news, rfl, hc, hu, hr, hl, hA⟩ := h
  by_cases h0 : 0 < ys.length
  · obtain ⟨g, b, rfl, hcell⟩ := hA h0
    exact ⟨news, Src.ofSlice W hk ⟨g, b, none⟩ ys.length c news hl (fun j u hj => by rw [add_at]; exact hcell j u hj) hr.oneCell, hu, hr, hl⟩
  · have e : ys = [] := List.length_eq_zero_iff.1 (by omega)
    subst e
    cases hr
    refine ⟨[], ?_, trivial, .nil, by simp⟩
    cases A with
    | none => exact Src.ofNil W hk c
    | some a => exact Src.ofSlice W hk a 0 c [] (by simp) (by simp) (by simp)
/-- What came of a heap with fewer blocks. -/
theorem After.fewer {h h1 h' : Heap} {own : Nat → List Nat} {n n' : Nat} {v : AV} {cv : Value} {W' : World} (hf : Fewer h h1) (A : After W F Fr μ h1 own n h' n' v cv W') : After W F Fr μ h own n h' n' v cv W' := by
  have hO : ∀ x, Owned h1 own x → Owned h own x := fun x ⟨id, b, e, m⟩ => ⟨id, b, hf id b e, m⟩
  obtain ⟨μ', own', h1', h2, h3, h4⟩ := A.ex
  exact ⟨⟨A.step.os, A.step.tape, A.step.output, A.step.size, fun x hx ho => A.step.same x hx (fun hx' => ho (hO x hx'))⟩, A.le, μ', own', h1', h2, h3, fun x hx => (h4 x hx).imp id (hO x)⟩
theorem Step.fewer {h h1 : Heap} {own : Nat → List Nat} {W' : World} (hf : Fewer h h1) (s : Step h1 own W W') : Step h own W W' :=
  ⟨s.os, s.tape, s.output, s.size, fun x hx ho => s.same x hx (fun ⟨id, b, e, m⟩ => ho ⟨id, b, hf id b e, m⟩)⟩
/-- A new block of rows in memory that blocks which went out owned, or that is new. -/
theorem After.layAt {h h' : Heap} {own : Nat → List Nat} {n : Nat} (H : HInv W F Fr μ h own n) {W' : World} (hs : Step h own W W') (hsame : ∀ id b, find h' id = some b → ∀ x ∈ own id, Same W W' x)
    {g o0 sz capT : Nat} {rows : List AV} {csv : List Value} {o1 : List Nat} (hsz : 0 < sz) (hu : uni sz rows) (hr : RL W' no no noPlace rows csv o1) (hcap : rows.length ≤ capT) (hcell : cellsAt W' g o0 csv) (hopen : openAt W' g o0 (capT * sz))
    (hfew : Fewer h h') (hnd : ((if capT = 0 then [] else [g]) ++ o1).Nodup) (ho : ∀ x ∈ (if capT = 0 then [] else [g]) ++ o1, x < W'.heap.size ∧ (W.heap.size ≤ x ∨ Gone h h' own x))
    {len cap : Nat} {ex : Bool} (hl : len ≤ cap) (hc : cap ≤ capT) (hex : ex = true → cap = capT) {A : Option Addr} (hA : 0 < capT → A = some ⟨g, o0, none⟩) :
    After W F Fr μ h own n ((n, .arr sz rows) :: h') (n + 1) (.ref n none 0 len cap ex) (.slice A len capT) W' := by
  let pl : Option (Nat × Nat) → Option Loc := fun p => match p with
    | none => some ⟨g, o0, capT, sz⟩
    | some q => nestPl sz rows csv (some q)
  refine After.one H n (.arr sz rows) ((if capT = 0 then [] else [g]) ++ o1) hs (μ' := addPl μ n pl) (fun id p hid => addPl_old hid p) (addPl_lt H) (by omega) (by omega) ?_ ?_ hnd ?_ ?_
  · intro id b hf
    rw [find_cons] at hf
    split at hf
    · rename_i e; subst e; exact .inl ⟨rfl, (Option.some.inj hf).symm⟩
    · rename_i e
      have hf' := hfew id b hf
      exact .inr ⟨fun e' => e e'.symm, hf', hsame id b hf⟩
  · refine ⟨⟨g, o0, capT, sz⟩, csv, o1, addPl_new none, rfl, hsz, hu, hr, hcap, hcell, hopen, rfl, ?_⟩
    intro r c row sz' l hrow hx
    obtain ⟨L', A, h1, h2, h3, h4⟩ := nestPl_ok hr hu r c row sz' l hrow hx
    exact ⟨L', A, by rw [addPl_new]; exact h1, h2, h3, h4⟩
  · intro x hx
    obtain ⟨h1, h2⟩ := ho x hx
    refine ⟨h1, h2.imp id fun ⟨id0, b0, e1, e2, e3⟩ => ⟨id0, b0, e1, e2, .inr ?_⟩⟩
    rw [find_cons, if_neg (by have := H.lt id0 b0 e1; omega)]
    exact e3
  · exact RL.ref n none 0 len cap ex ⟨g, o0, capT, sz⟩ A capT (addPl_new none) hl hc hex (by simp) (fun h => by simpa using hA h) .nil
theorem maxLen_of {need bytes : Nat} (hb : 0 < bytes) (h : need * bytes ≤ 140737488355328) : need ≤ 140737488355328 := by
  have : need * 1 ≤ need * bytes := Nat.mul_le_mul_left _ hb
  omega
/-- Rows that are appended to none, or beyond the room: a new row. -/
theorem grow_sound {h h1 : Heap} {own : Nat → List Nat} {n : Nat} (H : HInv W F Fr μ h own n) (hf : Fewer h h1) {t u e e' : TypeId} (ht : P.underlying t = some (.slice e)) (hk : P.underlying u = some (.slice e')) {z : Zero} (hz : zeroOf P e = some z) {i : TypeInfo} (hi : P.info? e = some i)
    (hpos : 0 < i.size) (hby : 0 < i.bytes) {A : Option Addr} {len cap : Nat} {l : List AV} {olds : List Value} {ol : List Nat} (hlen : l.length = len) (hul : uni i.size l) (hrl : RL W no no noPlace l olds ol)
    (hold : (Builtin.firstCells i.size len (.slice A len cap)).run P W.drew = .ok olds.toArray W.drew) {cy : Value} {ys : List AV} {oy : List Nat} (hy : SliceAt W no no cy i.size ys oy) (hg : cap < len + ys.length) (hb : (len + ys.length) * i.bytes ≤ 140737488355328)
    (hnd : (ol ++ oy).Nodup) (ho : ∀ x ∈ ol ++ oy, Gone h h1 own x) (ty : TypeId) : ∃ cv W', (Builtin.append_ #[t, u] ty #[.slice A len cap, cy]).run P W = .ok cv W' ∧
      After W F Fr μ h own n ((n, .arr i.size (l ++ ys)) :: h1) (n + 1) (.ref n none 0 (len + ys.length) (len + ys.length) false) cv W' := by
  obtain ⟨i', zv, hi', hzv, hzs, _⟩ := zeroOf_rel hz
  obtain rfl : i = i' := by rw [hi] at hi'; exact Option.some.inj hi'
  obtain ⟨news, hsrc, hu, hr, hnl⟩ := hy.src (P := P) hk
  have hm := maxLen_of hby hb
  have hrun := run_append_grow_src (P := P) W t u ty e i zv ht hi hzv A len cap olds hold cy ys.length news hsrc hg (by omega) (growslice_fits hg hb)
  have hge := grownCap_ge W (len + ys.length) cap e
  refine ⟨_, _, hrun, ?_⟩
  have hwl := hrl.width
  rw [uni_widthL hul] at hwl
  have hsz : ((olds ++ news).toArray ++ Builtin.zeroCells zv.cells (grownCap W (len + ys.length) cap e - (len + ys.length))).size = grownCap W (len + ys.length) cap e * i.size := by
    simp only [Array.size_append, List.size_toArray, List.length_append, size_zeroCells, hzs, hwl, hnl, hlen, ← Nat.add_mul]
    congr 1; omega
  refine After.lay H ((Step.refl h own W).drew.alloc _) (by simp) (fun x hx => heap_alloc_old W.drew _ x hx) hpos (uni_append.2 ⟨hul, hu⟩) (hrl.append hr) (by simp; omega) ?_ ?_ hf hnd ho (Nat.le_refl _) hge (by simp)
  · have := cellsAt_new (w := W.drew) (cs := (olds ++ news).toArray ++ Builtin.zeroCells zv.cells (grownCap W (len + ys.length) cap e - (len + ys.length))) (t := e)
    intro k v hk
    refine this k v ?_
    have hlt := (List.getElem?_eq_some_iff.1 hk).1
    rw [Array.toList_append, List.getElem?_append_left (by simpa using hlt)]
    exact hk
  · exact openAt_new (w := W.drew) (by rw [hsz]; exact Nat.le_refl _)
theorem firstCells_zero {A : Option Addr} {size len cap : Nat} {W : World} : (Builtin.firstCells size 0 (.slice A len cap)).run P W = .ok #[] W := by
  cases A with
  | none => exact run_firstCells_none W size 0 len cap
  | some a => simpa using run_firstCells_some (P := P) W size 0 a len cap [] (by simp) (by simp)
/-- Nothing is appended. -/
theorem app_none {A : Option Addr} {len cap : Nat} (hle : len ≤ cap) {t u e e' : TypeId} (ht : P.underlying t = some (.slice e)) (hk : P.underlying u = some (.slice e')) {i : TypeInfo} (hi : P.info? e = some i) {cy : Value} {ys : List AV} {oy : List Nat} (hy : SliceAt W no no cy i.size ys oy) (h0 : ys.length = 0) (ty : TypeId) :
    (Builtin.append_ #[t, u] ty #[.slice A len cap, cy]).run P W = .ok (.slice A len cap) W := by
  obtain ⟨news, hsrc, hu, hr, hnl⟩ := hy.src (P := P) hk
  rw [h0] at hsrc hnl
  have : news = [] := List.length_eq_zero_iff.1 (by omega)
  subst this
  exact run_append_nothing W t u ty e i ht hi A len cap hle cy hsrc
theorem splice_rel {rows ys : List AV} {csv news : List Value} {o1 : List Nat} {sz k : Nat} (hrl : RL W F Fr μ rows csv o1) (hu : uni sz rows) (hf : flatL rows = true) (hfy : flatL ys = true) (huy : uni sz ys) {o2 : List Nat} {μ2 : Place} (hy : RL W F Fr μ2 ys news o2) (hle : k + ys.length ≤ rows.length) :
    uni sz (rows.take k ++ ys ++ rows.drop (k + ys.length)) ∧ RL W F Fr μ (rows.take k ++ ys ++ rows.drop (k + ys.length)) (csv.take (k * sz) ++ news ++ csv.drop (k * sz + news.length)) o1 ∧ k * sz + news.length ≤ csv.length ∧
      (rows.take k ++ ys ++ rows.drop (k + ys.length)).length = rows.length ∧ flatL (rows.take k ++ ys ++ rows.drop (k + ys.length)) = true := by
  have ho := RL.own_flatL hf hrl
  subst ho
  obtain ⟨c1, c3, p1, p2, p3, e1, e2, e3, e4, h1, h2, h3⟩ := hrl.rows hu hle
  have hny : news.length = ys.length * sz := by rw [hy.width]; exact uni_widthL huy
  have e4 := List.append_eq_nil_iff.1 e4.symm
  have e5 := List.append_eq_nil_iff.1 e4.2
  rw [e4.1] at h1; rw [e5.2] at h3
  have hcl := congrArg List.length e1
  simp only [List.length_append] at hcl
  refine ⟨uni_append.2 ⟨uni_append.2 ⟨uni_sub hu fun v hv => List.mem_of_mem_take hv, huy⟩, uni_sub hu fun v hv => List.mem_of_mem_drop hv⟩, ?_, by omega, by simp; omega, ?_⟩
  · have ht : csv.take (k * sz) = c1 := by rw [e1, List.take_left' e2]
    have hd : csv.drop (k * sz + news.length) = c3 := by
      rw [e1, ← List.drop_drop, List.drop_left' e2, List.drop_left' (by rw [e3, hny])]
    rw [ht, hd]
    simpa using (h1.append (RL.ofFlatL hfy hy)).append h3
  · rw [flatL_append, flatL_append, hfy, flatL_sub hf fun v hv => List.mem_of_mem_take hv, flatL_sub hf fun v hv => List.mem_of_mem_drop hv]
    rfl
theorem flat_rows_no_un {rows : List AV} (h : flatL rows = true) {r c : Nat} {row : AV} (hr : rows[r]? = some row) {sz' : Nat} {l : List AV} : (cellsOf row)[c]? ≠ some (.un sz' l) :=
  flat_no_un (flatL_mem h _ (List.mem_of_getElem? hr))
end
end Go.Am
/- THE ABSTRACT MACHINE (AM): append, its cases. No condition. -/
namespace Go.Am
set_option linter.unusedSimpArgs false
set_option linter.unusedVariables false

section
variable {P : Program} {W : World} {F Fr : Nat → Prop} {μ : Place}
theorem setCells_append {g o0 n : Nat} {cs vs : List Value} (h : cellsAt W g o0 cs) (ho : openAt W g o0 n) (hle : cs.length + vs.length ≤ n) : cellsAt (W.setCells g (o0 + cs.length) vs) g o0 (cs ++ vs) := by
  intro j v hj
  by_cases h1 : j < cs.length
  · rw [World.cell?_setCells_out g vs _ W _ (fun _ _ => Or.inl (by simp; omega))]
    rw [List.getElem?_append_left h1] at hj
    exact h j v hj
  · rw [List.getElem?_append_right (by omega)] at hj
    have hlt := (List.getElem?_eq_some_iff.1 hj).1
    have := World.cell?_setCells_in g vs (o0 + cs.length) W (fun i hi => by
      obtain ⟨⟨v, hv⟩, _⟩ := ho (cs.length + i) (by omega)
      rw [show o0 + cs.length + i = o0 + (cs.length + i) by omega, hv]; rfl) (j - cs.length) hlt
    rw [show o0 + cs.length + (j - cs.length) = o0 + j by omega] at this
    rw [this]
    rw [List.getElem?_eq_getElem hlt] at hj
    exact hj
theorem rowsAt_none {h : Heap} {id sz : Nat} {rows : List AV} (hra : rowsAt h id none = some (sz, rows)) : find h id = some (.arr sz rows) := by
  unfold rowsAt at hra
  split at hra
  · rename_i hf _; simp at hra; rw [hf, hra.1, hra.2]
  · rename_i hp; cases hp
  · cases hra
theorem appOnto_sound {h h1 h' : Heap} {own : Nat → List Nat} {n n' : Nat} (H : HInv W F Fr μ h own n) (hf : Fewer h h1) {t u e e' : TypeId} (ht : P.underlying t = some (.slice e)) (hk : P.underlying u = some (.slice e')) {z : Zero} (hz : zeroOf P e = some z) {i : TypeInfo} (hi : P.info? e = some i)
    (hpos : 0 < i.size) (hby : 0 < i.bytes) {x v : AV} {cx cy : Value} (hx : RV W F Fr μ x cx) {ys : List AV} {oy : List Nat} (hy : SliceAt W no no cy i.size ys oy) (hnd : oy.Nodup) (ho : ∀ y ∈ oy, Gone h h1 own y) (hr : appOnto h1 n i.size i.bytes x ys = some (v, h', n')) (ty : TypeId) :
    ∃ cv W', (Builtin.append_ #[t, u] ty #[cx, cy]).run P W = .ok cv W' ∧ After W F Fr μ h own n h' n' v cv W' := by
  have H1 := H.fewer hf
  -- onto none
  have hnone : ∀ {A : Option Addr}, cx = .slice A 0 0 → ∀ {v0 : AV}, v0 = x → (if ys.length = 0 then some (v0, h1, n) else if ys.length * i.bytes ≤ 140737488355328 then
      some (.ref n none 0 ys.length ys.length false, (n, .arr i.size ys) :: h1, n + 1) else none) = some (v, h', n') → ∃ cv W', (Builtin.append_ #[t, u] ty #[cx, cy]).run P W = .ok cv W' ∧ After W F Fr μ h own n h' n' v cv W' := by
    intro A hcx v0 hv0 hq
    subst hcx; subst hv0
    split at hq
    · rename_i h0
      simp only [Option.some.injEq, Prod.mk.injEq] at hq
      obtain ⟨rfl, rfl, rfl⟩ := hq
      exact ⟨_, _, app_none (by omega) ht hk hi hy h0 ty, After.fewer hf (After.pure H1 hx)⟩
    · rename_i h0
      split at hq
      · rename_i hb
        simp only [Option.some.injEq, Prod.mk.injEq] at hq
        obtain ⟨rfl, rfl, rfl⟩ := hq
        have := grow_sound (P := P) H hf ht hk hz hi hpos hby (A := A) (len := 0) (cap := 0) (l := []) (olds := []) (ol := []) rfl trivial .nil firstCells_zero hy (by omega) (by simpa using hb) (by simpa using hnd) (by simpa using ho) ty
        simpa using this
      · cases hq
  unfold appOnto at hr
  split at hr
  · exact hnone hx.nil_inv rfl hr
  · obtain ⟨A, hcx⟩ := hx.emp_inv
    exact hnone hcx rfl hr
  · rename_i id off len cap ex
    obtain ⟨L, A, c, hμ, hle, hcap, hex, hfit, hA, rfl⟩ := hx.ref_inv
    split at hr
    · rename_i sz' rows hra
      split at hr
      · rename_i hsz
        subst hsz
        have hfi := rowsAt_none hra
        split at hr
        · rename_i h0
          simp only [Option.some.injEq, Prod.mk.injEq] at hr
          obtain ⟨rfl, rfl, rfl⟩ := hr
          exact ⟨_, _, app_none (by omega) ht hk hi hy h0 ty, After.fewer hf (After.pure H1 hx)⟩
        · rename_i h0
          obtain ⟨L', csv, o1, hμ', hsz', huni, hrl, hcT, hcell, hopen, hown, hgo, _⟩ := rowsAt_rel H1 hra
          obtain rfl : L = L' := by rw [hμ] at hμ'; exact Option.some.inj hμ'
          obtain ⟨news, hsrc, hu, hrn, hnl⟩ := hy.src (P := P) hk
          split at hr
          · rename_i hroom
            split at hr
            · rename_i hc
              obtain ⟨hfl, hfy, hle2⟩ := hc
              simp only [Option.some.injEq, Prod.mk.injEq] at hr
              obtain ⟨rfl, rfl, rfl⟩ := hr
              have hA := hA (by omega)
              subst hA
              have hk' : L.o0 + off * L.sz + len * i.size = L.o0 + (off + len) * i.size := by rw [hsz', Nat.add_mul]; omega
              have hbnd : (off + len) * i.size + news.length ≤ L.capT * i.size := by
                rw [hnl, ← Nat.add_mul]; exact Nat.mul_le_mul_right _ (by omega)
              have hrun := run_append_room_src (P := P) W t u ty e i ht hi L.g (L.o0 + off * L.sz) len c cy ys.length news hsrc (by omega)
                (fun j hj => by
                  obtain ⟨⟨w, hw⟩, _⟩ := hopen ((off + len) * i.size + j) (by omega)
                  rw [hk', Nat.add_assoc, hw]; rfl)
                (fun j hj => by
                  obtain ⟨_, hw⟩ := hopen ((off + len) * i.size + j) (by omega)
                  rw [hk', Nat.add_assoc, hw])
              refine ⟨_, _, hrun, After.fewer hf ?_⟩
              rw [hk']
              refine arr_write H1 hfi hμ (fun {csv o1} hu2 hrl2 hcap2 => ?_) ?_ (by omega) ?_
              · obtain ⟨a1, a2, a3, a4, a5⟩ := splice_rel hrl2 hu2 hfl hfy hu hrn (k := off + len) (by omega)
                exact ⟨a1, a2, a3, fun r c row sz' l hrow hc => absurd hc (flat_rows_no_un a5 hrow)⟩
              · simp; omega
              · exact RL.ref id none off (len + ys.length) cap ex L _ c hμ hroom hcap hex hfit (fun _ => rfl) .nil
            · cases hr
          · rename_i hroom
            split at hr
            · rename_i hb
              split at hr
              · rename_i l hl
                simp only [Option.some.injEq, Prod.mk.injEq] at hr
                obtain ⟨rfl, rfl, rfl⟩ := hr
                obtain ⟨o, hro, hno, hoo, bb, hbb⟩ := take_ref H1 hx hra hl
                have hlen : l.length = len := (view_mem hl).2.2
                obtain ⟨_, hq⟩ := hro.un_inv
                have hm := maxLen_of hby hb
                -- what is kept of the old block
                have hf2 : ∀ {hh : Heap}, (hh = h1 ∨ hh = delH h1 id) → Fewer h hh := by
                  rintro hh (rfl | rfl)
                  · exact hf
                  · exact hf.trans (.del _ _)
                have hgone : ∀ y ∈ oy, Gone h (delH h1 id) own y := fun y hy => (ho y hy).mono (.del _ _)
                have hidgone : ∀ y ∈ o, Gone h (delH h1 id) own y := fun y hy => ⟨id, bb, hf id bb hbb, hoo y hy, by rw [find_delH, if_pos rfl]⟩
                have hapart : ∀ y ∈ o, ∀ z ∈ oy, y ≠ z := by
                  intro y hy z hz e
                  subst e
                  obtain ⟨id2, b2, e1, e2, e3⟩ := ho y hz
                  by_cases e : id = id2
                  · subst e; rw [hbb] at e3; cases e3
                  · exact H.dis id id2 bb b2 (hf id bb hbb) e1 e y (hoo y hy) e2
                -- a new row
                have hnew : c < len + ys.length → ∃ cv W', (Builtin.append_ #[t, u] ty #[.slice A len c, cy]).run P W = .ok cv W' ∧
                    After W F Fr μ h own n ((n, .arr i.size (l ++ ys)) :: (if ex = true ∧ flatL rows = true then h1 else delH h1 id)) (n + 1) (.ref n none 0 (len + ys.length) (len + ys.length) false) cv W' := by
                  intro hgr
                  obtain ⟨olds, ol, hul, hrl', hold, hsub, hndl⟩ : ∃ olds ol, uni i.size l ∧ RL W no no noPlace l olds ol ∧ (Builtin.firstCells i.size len (.slice A len c)).run P W.drew = .ok olds.toArray W.drew ∧ (∀ y ∈ ol, y ∈ o) ∧ ol.Nodup := by
                    rcases hq with ⟨rfl, rfl, rfl⟩ | ⟨g, o0, cs1, o1', rfl, hc0, hcl, hul, hcell1, hopen1, hr1, rfl⟩
                    · have : len = 0 := by simpa using hlen.symm
                      subst this
                      exact ⟨[], [], trivial, .nil, firstCells_zero, by simp, by simp⟩
                    · refine ⟨cs1, o1', hul, hr1, ?_, fun y hy => by simp [hy], (List.nodup_cons.1 hno).2⟩
                      refine run_firstCells_some (P := P) W.drew i.size len ⟨g, o0, none⟩ len c cs1 (by rw [hr1.width, uni_widthL hul, hlen]) (fun j v hj => by rw [add_at]; exact hcell1 j v hj)
                  split
                  · rename_i hc
                    have hfl := hc.2
                    have : ol = [] := RL.own_flatL (by rw [(view_mem hl).1]; exact flatL_sub hfl fun v hv => List.mem_of_mem_drop (List.mem_of_mem_take hv)) hrl'
                    subst this
                    exact grow_sound (P := P) H hf ht hk hz hi hpos hby hlen hul hrl' hold hy hgr hb (by simpa using hnd) (by simpa using ho) ty
                  · refine grow_sound (P := P) H (hf2 (.inr rfl)) ht hk hz hi hpos hby hlen hul hrl' hold hy hgr hb ?_ ?_ ty
                    · rw [List.nodup_append]; exact ⟨hndl, hnd, fun y hy z hz => hapart y (hsub y hy) z hz⟩
                    · intro y hy
                      rcases List.mem_append.1 hy with hy | hy
                      · exact hidgone y (hsub y hy)
                      · exact hgone y hy
                by_cases hgr : c < len + ys.length
                · exact hnew hgr
                · have hexf : ¬ (ex = true ∧ flatL rows = true) := fun h => by have := hex h.1; omega
                  rw [if_neg hexf]
                  rcases hq with ⟨rfl, _, _⟩ | ⟨g, o0, cs1, o1', rfl, hc0, hcl, hul, hcell1, hopen1, hr1, rfl⟩
                  · omega
                  · have hcs : cs1.length = len * i.size := by rw [hr1.width, uni_widthL hul, hlen]
                    have hbnd : cs1.length + news.length ≤ c * i.size := by
                      rw [hcs, hnl, ← Nat.add_mul]; exact Nat.mul_le_mul_right _ (by omega)
                    have hrun := run_append_room_src (P := P) W t u ty e i ht hi g o0 len c cy ys.length news hsrc (by omega)
                      (fun j hj => by
                        obtain ⟨⟨w, hw⟩, _⟩ := hopen1 (cs1.length + j) (by omega)
                        rw [← hcs, Nat.add_assoc, hw]; rfl)
                      (fun j hj => by
                        obtain ⟨_, hw⟩ := hopen1 (cs1.length + j) (by omega)
                        rw [← hcs, Nat.add_assoc, hw])
                    refine ⟨_, _, hrun, ?_⟩
                    rw [← hcs]
                    have hgid : g ∈ own id := hoo g (by simp)
                    have hst : Step h own W (W.setCells g (o0 + cs1.length) news) := Step.set ⟨id, bb, hf id bb hbb, hgid⟩
                    have hsame : ∀ y, y ≠ g → Same W (W.setCells g (o0 + cs1.length) news) y := fun y hy => setCells_same _ hy news _ W
                    have hng := List.nodup_cons.1 hno
                    refine After.layAt H hst ?_ hpos (uni_append.2 ⟨hul, hu⟩) (o1 := o1' ++ oy) ?_ (by simp; omega) (setCells_append hcell1 hopen1 hbnd) (setCells_open hopen1 hbnd) (hf2 (.inr rfl)) ?_ ?_ (Nat.le_refl _) (by omega) (by simp) (fun _ => rfl)
                    · intro id' b' hf' y hy
                      refine hsame y fun e => ?_
                      subst e
                      rw [find_delH] at hf'
                      split at hf'
                      · cases hf'
                      · rename_i hne
                        exact H1.dis id' id b' bb hf' hbb (fun e => hne e.symm) y hy hgid
                    · refine RL.append (hr1.same0 fun y hy => hsame y fun e => hng.1 (e ▸ hy)) (hrn.same0 fun y hy => hsame y fun e => hapart g (by simp) y hy e.symm)
                    · rw [if_neg (by omega)]
                      simp only [List.singleton_append, List.nodup_cons, List.mem_append, List.nodup_append]
                      exact ⟨fun hh => hh.elim hng.1 fun hh => hapart g (by simp) g hh rfl, hng.2, hnd, fun y hy z hz => hapart y (by simp [hy]) z hz⟩
                    · rw [if_neg (by omega)]
                      intro y hy
                      simp only [List.singleton_append, List.mem_cons, List.mem_append] at hy
                      have hyg : Gone h (delH h1 id) own y := by
                        rcases hy with rfl | hy | hy
                        · exact hidgone y (by simp)
                        · exact hidgone y (by simp [hy])
                        · exact hgone y hy
                      obtain ⟨id2, b2, e1, e2, _⟩ := hyg
                      exact ⟨by rw [setCells_size]; exact (H.out id2 b2 e1 y e2).2, .inr (by
                        rcases hy with rfl | hy | hy
                        · exact hidgone y (by simp)
                        · exact hidgone y (by simp [hy])
                        · exact hgone y hy)⟩
              · cases hr
            · cases hr
      · cases hr
    · cases hr
  · cases hr
theorem moved_rel {h h1 : Heap} {own : Nat → List Nat} {n : Nat} (H : HInv W F Fr μ h own n) {sz : Nat} {y : AV} {cy : Value} (hy : RV W F Fr μ y cy) {ys : List AV} (hm : moved h sz y = some (ys, h1)) :
    ∃ oy, SliceAt W no no cy sz ys oy ∧ oy.Nodup ∧ (∀ x ∈ oy, Gone h h1 own x) ∧ Fewer h h1 := by
  unfold moved at hm
  split at hm
  · simp at hm; obtain ⟨rfl, rfl⟩ := hm; obtain rfl := hy.nil_inv
    exact ⟨[], ⟨none, 0, [], rfl, by simp, trivial, .nil, by simp, by simp⟩, by simp, by simp, .refl _⟩
  · simp at hm; obtain ⟨rfl, rfl⟩ := hm; obtain ⟨A, rfl⟩ := hy.emp_inv
    exact ⟨[], ⟨A, 0, [], rfl, by simp, trivial, .nil, by simp, by simp⟩, by simp, by simp, .refl _⟩
  · rename_i id off len cap ex
    split at hm
    · rename_i sz' rows hra
      split at hm
      · rename_i l hl
        split at hm
        · rename_i hs
          subst hs
          simp only [Option.some.injEq, Prod.mk.injEq] at hm
          obtain ⟨rfl, rfl⟩ := hm
          obtain ⟨L, A, c, hμ, hle, hcap, hex, hfit, hA, rfl⟩ := hy.ref_inv
          obtain ⟨o, hro, hno, hoo, bb, hbb⟩ := take_ref H hy hra hl
          have hlen : l.length = len := (view_mem hl).2.2
          obtain ⟨_, hq⟩ := hro.un_inv
          rcases hq with ⟨rfl, rfl, rfl⟩ | ⟨g, o0, cs1, o1', rfl, hc0, hcl, hul, hcell1, hopen1, hr1, rfl⟩
          · refine ⟨[], ⟨A, 0, [], by rw [hlen], by simp, trivial, .nil, by simp, by simp⟩, by simp, by simp, .del _ _⟩
          · exact ⟨o1', ⟨_, c, cs1, by rw [hlen], hcl, hul, hr1, by rw [hr1.width, uni_widthL hul], fun _ => ⟨g, o0, rfl, hcell1⟩⟩, (List.nodup_cons.1 hno).2, fun y hy => ⟨id, bb, hbb, hoo y (by simp [hy]), by rw [find_delH, if_pos rfl]⟩, .del _ _⟩
        · cases hm
      · cases hm
    · cases hm
  · cases hm
theorem app_sound {h h' : Heap} {own : Nat → List Nat} {n n' : Nat} (H : HInv W F Fr μ h own n) {t u e e' : TypeId} (ht : P.underlying t = some (.slice e)) (hk : P.underlying u = some (.slice e')) {z : Zero} (hz : zeroOf P e = some z) {i : TypeInfo} (hi : P.info? e = some i)
    (hpos : 0 < i.size) (hby : 0 < i.bytes) {d : Bool} {x y v : AV} {cx cy : Value} (hx : RV W F Fr μ x cx) (hy : RV W F Fr μ y cy) (hr : appVal h n i.size i.bytes d x y = some (v, h', n')) (ty : TypeId) :
    ∃ cv W', (Builtin.append_ #[t, u] ty #[cx, cy]).run P W = .ok cv W' ∧ After W F Fr μ h own n h' n' v cv W' := by
  unfold appVal at hr
  split at hr
  · split at hr
    · rename_i ys h1 hm
      obtain ⟨oy, a1, a2, a3, a4⟩ := moved_rel H hy hm
      exact appOnto_sound H a4 ht hk hz hi hpos hby hx a1 a2 a3 hr ty
    · cases hr
  · split at hr
    · rename_i ys hm
      exact appOnto_sound H (.refl _) ht hk hz hi hpos hby hx (elems_at H hy hm).2 (by simp) (by simp) hr ty
    · cases hr
end
end Go.Am
/- THE ABSTRACT MACHINE (AM): copy, clear. No condition. -/
namespace Go.Am
set_option linter.unusedSimpArgs false
set_option linter.unusedVariables false

section
variable {P : Program} {W : World} {F Fr : Nat → Prop} {μ : Place}
theorem After.lessH {h h' : Heap} {own : Nat → List Nat} {n : Nat} (H : HInv W F Fr μ h own n) (hf : Fewer h h') {v : AV} {cv : Value} (hv : RV W F Fr μ v cv) : After W F Fr μ h own n h' n v cv W :=
  After.fewer hf (After.pure (H.fewer hf) hv)
theorem setCell_self {row : AV} {c : Nat} {x : AV} (h : (cellsOf row)[c]? = some x) : setCell row c x = row := by
  cases row with
  | agg cs =>
    simp only [setCell, cellsOf] at h ⊢
    obtain ⟨hl, rfl⟩ := List.getElem?_eq_some_iff.1 h
    rw [List.set_getElem_self]
  | _ =>
    simp only [setCell, cellsOf] at h ⊢
    cases c with
    | zero => simpa using h.symm
    | succ c => simp at h
theorem set_self? {α : Type} {l : List α} {r : Nat} {x : α} (h : l[r]? = some x) : l.set r x = l := by
  obtain ⟨hl, rfl⟩ := List.getElem?_eq_some_iff.1 h
  rw [List.set_getElem_self]
theorem setRows_self {h h' : Heap} {id sz : Nat} {p : Option (Nat × Nat)} {rows : List AV} (hra : rowsAt h id p = some (sz, rows)) (hs : setRows h id p rows = some h') : Fewer h h' := by
  intro j b hj
  cases p with
  | none =>
    have hf := rowsAt_none hra
    simp only [setRows, hf] at hs
    obtain rfl := Option.some.inj hs
    rw [find_setH] at hj
    split at hj
    · rename_i e; subst e; rw [hf]; exact hj
    · exact hj
  | some q =>
    obtain ⟨r, c⟩ := q
    obtain ⟨sz0, rows0, row, sz', l, hf, hrow, hx, hra', rfl⟩ := setRows_nest hs
    rw [hra'] at hra
    simp at hra
    obtain ⟨rfl, rfl⟩ := hra
    rw [setCell_self hx, set_self? hrow, find_setH] at hj
    split at hj
    · rename_i e; subst e; rw [hf]; exact hj
    · exact hj
/-- Flat rows of a view written. -/
theorem putRows_sound {h h' : Heap} {own : Nat → List Nat} {n : Nat} (H : HInv W F Fr μ h own n) {x : AV} {cx : Value} (hx : RV W F Fr μ x cx) {sz : Nat} {ys : List AV} (hr : putRows h sz ys x = some h') {k : Int} (hk : lenVal x = some k) (hle : (ys.length : Int) ≤ k) (hu : uni sz ys)
    {news : List Value} {o : List Nat} {μ2 : Place} (hn : RL W no no μ2 ys news o) {v : AV} {cv : Value} (hv : ∀ W', RV W' F Fr μ v cv) :
    ∃ A len c W', cx = .slice A len c ∧ (len : Int) = k ∧ (∀ a, A = some a → (storeCells a news).run P W = .ok () W') ∧ (A = none → W' = W) ∧ After W F Fr μ h own n h' n v cv W' := by
  unfold putRows at hr
  split at hr
  · rename_i id p off len cap ex
    obtain ⟨L, A, c, hμ, hlc, hcap, hex, hfit, hA, rfl⟩ := hx.ref_inv
    simp only [lenVal, Option.some.injEq] at hk
    split at hr
    · rename_i sz' rows hra
      split at hr
      · rename_i hc
        obtain ⟨rfl, hfl, hfy, hle2⟩ := hc
        by_cases h0 : ys.length = 0
        · have e : ys = [] := List.length_eq_zero_iff.1 h0
          subst e
          cases hn
          simp only [List.append_nil, List.length_nil, Nat.add_zero, List.take_append_drop] at hr
          exact ⟨A, len, c, W, rfl, hk, fun a _ => rfl, fun _ => rfl, After.lessH H (setRows_self hra hr) (hv W)⟩
        · have hA := hA (by omega)
          subst hA
          obtain ⟨L', csv, o1, hμ', hsz', huni, hrl, hcT, hcell, hopen, hown, hgo, _⟩ := rowsAt_rel H hra
          obtain rfl : L = L' := by rw [hμ] at hμ'; exact Option.some.inj hμ'
          have hny : news.length = ys.length * sz := by rw [hn.width, uni_widthL hu]
          have hbnd : off * sz + news.length ≤ L.capT * sz := by rw [hny, ← Nat.add_mul]; exact Nat.mul_le_mul_right _ (by omega)
          have hlen : (rows.take off ++ ys ++ rows.drop (off + ys.length)).length = rows.length := by simp; omega
          refine ⟨_, len, c, W.setCells L.g (L.o0 + off * sz) news, rfl, hk, ?_, fun e => (by cases e), ?_⟩
          · rintro a ⟨⟩
            rw [hsz']
            exact setCells_run hopen hbnd hn.oneCell
          · cases p with
            | none =>
              have hf := rowsAt_none hra
              simp only [setRows, hf] at hr
              obtain rfl := Option.some.inj hr
              refine arr_write H hf hμ (fun {csv o1} hu2 hrl2 hcap2 => ?_) hlen (by omega) (hv _)
              obtain ⟨a1, a2, a3, a4, a5⟩ := splice_rel hrl2 hu2 hfl hfy hu hn (k := off) (by omega)
              exact ⟨a1, a2, a3, fun r c row sz' l hrow hc => absurd hc (flat_rows_no_un a5 hrow)⟩
            | some q =>
              obtain ⟨r, c'⟩ := q
              refine nest_write H hra hr hμ (fun {csv o1} hu2 hrl2 _ _ => ?_) hlen (by omega) (hv _)
              obtain ⟨a1, a2, a3, a4, a5⟩ := splice_rel hrl2 hu2 hfl hfy hu hn (k := off) (by omega)
              exact ⟨a1, a2, a3⟩
      · cases hr
    · cases hr
  · cases hr
theorem copy_sound {h h' : Heap} {own : Nat → List Nat} {n : Nat} (H : HInv W F Fr μ h own n) {t u e e' : TypeId} (ht : P.underlying t = some (.slice e)) (hku : P.underlying u = some (.slice e')) {m : Nat} (hm : szOf P e = some m) (hpos : 0 < m)
    {x y : AV} {cx cy : Value} (hx : RV W F Fr μ x cx) (hy : RV W F Fr μ y cy) {ys : List AV} (he : elems h m y = some ys) {k : Int} (hk : lenVal x = some k) (hr : putRows h m (ys.take k.toNat) x = some h') (ty : TypeId) :
    ∃ cv W', (Builtin.copy_ #[t, u] ty #[cx, cy]).run P W = .ok cv W' ∧ After W F Fr μ h own n h' n (.i .i64 (min ys.length k)) cv W' := by
  obtain ⟨hfl, hat⟩ := elems_at H hy he
  obtain ⟨news, hsrc, hu, hrl, hnl⟩ := hat.src (P := P) hku
  have hk0 : 0 ≤ k := by
    unfold lenVal at hk
    split at hk <;> first | (simp only [Option.some.injEq] at hk; omega) | cases hk
  -- the first of them
  have hlt : (ys.take k.toNat).length = min k.toNat ys.length := by simp
  obtain ⟨c1, c3, p1, p2, p3, e1, e2, e3, e4, _, h2, _⟩ := hrl.rows hu (i := 0) (m := min k.toNat ys.length) (by omega)
  simp only [Nat.zero_mul, List.drop_zero] at e1 e3 h2
  have hta : ys.take (min k.toNat ys.length) = ys.take k.toNat := by
    rw [← List.take_take, List.take_length]
  rw [hta] at h2
  obtain ⟨A, len, c, W', rfl, hlen, hst, hno, haf⟩ := putRows_sound (P := P) H hx hr hk (by rw [hlt]; omega) (uni_sub hu fun v hv => List.mem_of_mem_take hv) h2 (v := .i .i64 (min ys.length k)) (cv := .int .i64 (min ys.length k)) (fun W' => RV.ofInt _ _)
  refine ⟨_, W', ?_, haf⟩
  have hfc : (Builtin.firstCells m (Nat.min ys.length len) cy).run P W = .ok (news.take (min k.toNat ys.length * m)).toArray W := by
    have hmn : Nat.min ys.length len = min k.toNat ys.length := by
      show min ys.length len = _
      omega
    rw [hmn]
    obtain ⟨A2, c2, news2, rfl, q1, q2, q3, q4, q5⟩ := hat
    by_cases h0 : 0 < ys.length
    · obtain ⟨g, b, rfl, hcell⟩ := q5 h0
      have hnn : news2 = news := by
        have a := run_firstCells_some (P := P) W m ys.length ⟨g, b, none⟩ ys.length c2 news2 q4 (fun j v hj => by rw [add_at]; exact hcell j v hj)
        have b := hsrc.cells
        rw [a] at b
        simpa using b
      subst hnn
      refine run_firstCells_some (P := P) W m _ ⟨g, b, none⟩ ys.length c2 _ e3 (fun j v hj => ?_)
      rw [add_at]
      refine hcell j v ?_
      rw [List.getElem?_take] at hj
      split at hj
      · exact hj
      · cases hj
    · have e : ys = [] := List.length_eq_zero_iff.1 (by omega)
      subst e
      simp only [List.length_nil, Nat.min_zero, Nat.zero_mul, List.take_zero]
      exact firstCells_zero
  have hval : (min ys.length len : Nat) = (min (ys.length : Int) k) := by omega
  have hval2 : ((Nat.min ys.length len : Nat) : Int) = min (ys.length : Int) k := hval
  cases A with
  | none =>
    have := hno rfl
    subst this
    simp only [Builtin.copy_, Sem.run_bind, run_und ht, Result.andThen_ok, hsrc.len, run_szOf hm, hfc]
    simp [run_und ht, hsrc.len, run_szOf hm, hfc, goInt, hval2]
  | some a =>
    have hst := hst a rfl
    simp [Builtin.copy_, run_und ht, hsrc.len, run_szOf hm, hfc, hst, goInt, hval2]
theorem clear_sound {h h' : Heap} {own : Nat → List Nat} {n : Nat} (H : HInv W F Fr μ h own n) {argTypes : Array TypeId} {t e : TypeId} (hat : argTypes[0]? = some t) (ht : P.underlying t = some (.slice e)) {z : Zero} {a : Bool} (hz : zeroOf P e = some z) (ha : isAggB P e = some a) {m : Nat} (hm : szOf P e = some m) (hpos : 0 < m) (h1 : a = true ∨ m = 1)
    {x : AV} {cx : Value} (hx : RV W F Fr μ x cx) {k : Int} (hk : lenVal x = some k) (hfl : flatR (zrow a z) = true) (hr : putRows h (cellsOf (zrow a z)).length (List.replicate k.toNat (zrow a z)) x = some h') (ty : TypeId) :
    ∃ cv W', (Builtin.clear_ argTypes ty #[cx]).run P W = .ok cv W' ∧ After W F Fr μ h own n h' n (.tup []) cv W' := by
  obtain ⟨i, zv, hi, hzv, _⟩ := zeroOf_rel hz
  obtain rfl : i.size = m := by unfold szOf at hm; rw [hi] at hm; simpa using hm
  obtain ⟨hs, hw, hrz⟩ := zrow_rel hz ha hi hzv hpos (fun e => by rcases h1 with h1 | h1 <;> simp_all)
  have hcw : (cellsOf (zrow a z)).length = i.size := by
    have := (hrz (W := W) (F := no) (Fr := no) (μ := noPlace)).cells
    have hw2 := this.2.width
    rw [ones_widthL this.1] at hw2
    simp at hw2; omega
  rw [hcw] at hr
  have hk0 : 0 ≤ k := by
    unfold lenVal at hk
    split at hk <;> first | (simp only [Option.some.injEq] at hk; omega) | cases hk
  have hrl := (hrz (W := W) (F := no) (Fr := no) (μ := noPlace)).replicate k.toNat
  obtain ⟨A, len, c, W', rfl, hlen, hst, hno, haf⟩ := putRows_sound (P := P) H hx hr hk (by simp; omega) (uni_replicate hw _) hrl (v := .tup []) (cv := Go.undef) (fun W' => RV.undef)
  have hkl : k.toNat = len := by omega
  rw [hkl] at hst
  have hzc : (Builtin.zeroCells zv.cells len).toList = (List.replicate len zv.cells.toList).flatten := by
    have := made_list hs hpos len
    unfold Builtin.zeroCells
    rw [hs] at this ⊢
    exact this
  refine ⟨_, W', ?_, haf⟩
  cases A with
  | none =>
    have := hno rfl
    subst this
    simp [Builtin.clear_, hat, run_und ht, Go.undef]
  | some a =>
    have hst := hst a rfl
    cases len with
    | zero =>
      simp only [List.replicate_zero, List.flatten_nil, storeCells, Sem.run_pure] at hst
      simp only [Result.ok.injEq, true_and] at hst
      subst hst
      simp [Builtin.clear_, hat, run_und ht, Go.undef]
    | succ len => simp [Builtin.clear_, hat, run_und ht, run_zeroValue hi hzv, hzc, hst, Go.undef]
end
end Go.Am
/- THE ABSTRACT MACHINE (AM): calls: what is lent. No condition. -/
namespace Go.Am
set_option linter.unusedSimpArgs false
set_option linter.unusedVariables false

/-! ### Names -/
theorem mem_iff {l : List Nat} {x : Nat} : mem l x = true ↔ x ∈ l := by
  induction l with
  | nil => simp [mem]
  | cons y l ih =>
    simp only [mem, List.mem_cons]
    split
    · rename_i e; simp [e]
    · rename_i e; rw [ih]; exact ⟨.inr, fun h => h.resolve_left fun e' => e e'.symm⟩
theorem nameOf_numbered {acc : List Nat} {k x j : Nat} (h : nameOf (numbered acc k) x = some j) : k ≤ j ∧ acc[j - k]? = some x := by
  induction acc generalizing k with
  | nil => simp [numbered, nameOf] at h
  | cons y acc ih =>
    simp only [numbered, nameOf] at h
    split at h
    · rename_i e; simp at h; subst h; subst e; simp
    · obtain ⟨h1, h2⟩ := ih h
      refine ⟨by omega, ?_⟩
      rw [show j - k = (j - (k + 1)) + 1 by omega]
      simpa using h2
theorem nameOf_none {acc : List Nat} {k x : Nat} (h : x ∉ acc) : nameOf (numbered acc k) x = none := by
  cases e : nameOf (numbered acc k) x with
  | none => rfl
  | some j => exact absurd (List.mem_of_getElem? (nameOf_numbered e).2) h
theorem nameOf_some {acc : List Nat} {k x : Nat} (h : x ∈ acc) : ∃ j, nameOf (numbered acc k) x = some j := by
  induction acc generalizing k with
  | nil => simp at h
  | cons y acc ih =>
    simp only [numbered, nameOf]
    split
    · exact ⟨k, rfl⟩
    · rename_i e
      rcases List.mem_cons.1 h with rfl | h
      · exact absurd rfl e
      · exact ih h
theorem reach_mem {h : Heap} : ∀ (k : Nat) (ws acc : List Nat), acc.Nodup → (∀ x ∈ reach h k ws acc, x ∈ acc ∨ ∃ b, find h x = some b) ∧ (reach h k ws acc).Nodup ∧ ∃ m, reach h k ws acc = acc ++ m
  | 0, ws, acc, hn => ⟨fun x hx => .inl hx, hn, [], by simp [reach]⟩
  | k + 1, [], acc, hn => ⟨fun x hx => .inl hx, hn, [], by simp [reach]⟩
  | k + 1, y :: ws, acc, hn => by
    simp only [reach]
    cases hm : mem acc y with
    | true => simpa using reach_mem k ws acc hn
    | false =>
      simp only [cond_false]
      cases hb : find h y with
      | none => simpa using reach_mem k ws acc hn
      | some b =>
        have hy : y ∉ acc := fun hy => by rw [mem_iff.2 hy] at hm; cases hm
        obtain ⟨h1, h2, m, h3⟩ := reach_mem k (b.ids ++ ws) (acc ++ [y]) (by
          rw [List.nodup_append]; exact ⟨hn, by simp, fun a ha b hb e => by simp at hb; subst hb; subst e; exact hy ha⟩)
        refine ⟨fun x hx => ?_, h2, y :: m, by show reach h k (b.ids ++ ws) (acc ++ [y]) = _; rw [h3]; simp⟩
        rcases h1 x hx with h1 | h1
        · rcases List.mem_append.1 h1 with h1 | h1
          · exact .inl h1
          · simp at h1; subst h1; exact .inr ⟨b, hb⟩
        · exact .inr h1
theorem find_pickH {h : Heap} {ρ : List (Nat × Nat)} {acc : List Nat} {k j : Nat} {b : Blk} (hf : find (pickH h ρ (numbered acc k)) j = some b) : k ≤ j ∧ ∃ x b0, acc[j - k]? = some x ∧ find h x = some b0 ∧ b = b0.ren ρ := by
  induction acc generalizing k with
  | nil => simp [numbered, pickH, find] at hf
  | cons y acc ih =>
    simp only [numbered, pickH] at hf
    have step : find (pickH h ρ (numbered acc (k + 1))) j = some b → k ≤ j ∧ ∃ x b0, (y :: acc)[j - k]? = some x ∧ find h x = some b0 ∧ b = b0.ren ρ := by
      intro hf
      obtain ⟨h1, x, b0, h2, h3⟩ := ih hf
      refine ⟨by omega, x, b0, ?_, h3⟩
      rw [show j - k = (j - (k + 1)) + 1 by omega]
      simpa using h2
    split at hf
    · rename_i b0 hb
      simp only [find] at hf
      split at hf
      · rename_i e
        subst e
        exact ⟨Nat.le_refl _, y, b0, by simp, hb, (Option.some.inj hf).symm⟩
      · exact step hf
    · exact step hf
theorem pickH_length {h : Heap} {ρ : List (Nat × Nat)} {acc : List Nat} {k : Nat} (hall : ∀ x ∈ acc, ∃ b, find h x = some b) : (pickH h ρ (numbered acc k)).length = acc.length := by
  induction acc generalizing k with
  | nil => rfl
  | cons y acc ih =>
    obtain ⟨b, hb⟩ := hall y (by simp)
    simp only [numbered, pickH, hb, List.length_cons, ih fun x hx => hall x (by simp [hx])]
theorem find_tagH {h : Heap} {j : Nat} {b : Blk} (hf : find (tagH h) j = some b) : ∃ b0, find h j = some b0 ∧ b = b0.tag true := by
  induction h with
  | nil => simp [tagH, find] at hf
  | cons x h ih =>
    obtain ⟨i, c⟩ := x
    simp only [tagH, find] at hf ⊢
    split at hf
    · rename_i e; subst e; exact ⟨c, by simp, (Option.some.inj hf).symm⟩
    · rename_i e; rw [if_neg e]; exact ih hf
theorem length_tagH : ∀ h : Heap, (tagH h).length = h.length
  | [] => rfl
  | (j, b) :: h => by simp [tagH, length_tagH h]
theorem mayH_box : ∀ {h : Heap}, mayH h = true → ∀ {j : Nat} {cs : List AV}, find h j = some (.box cs) → AV.mayBL cs = true
  | [], _, j, cs, hf => by simp [find] at hf
  | (i, b) :: h, hm, j, cs, hf => by
    simp only [find] at hf
    split at hf
    · obtain rfl := Option.some.inj hf; simp [mayH] at hm; exact hm.1
    · refine mayH_box (h := h) ?_ hf
      cases b <;> simp_all [mayH]

/-! ### Values under other names, for other blocks that nobody writes -/
theorem ren_noagg {ρ : List (Nat × Nat)} {w : Bool} {v : AV} (h : ∀ m, v ≠ .agg m) (m : List AV) : (v.ren ρ).tag w ≠ .agg m := by
  cases v with
  | agg l => exact absurd rfl (h l)
  | ref => simp only [AV.ren]; split <;> simp [AV.tag]
  | ptr => simp only [AV.ren]; split <;> simp [AV.tag]
  | map => simp only [AV.ren]; split <;> simp [AV.tag]
  | _ => simp [AV.ren, AV.tag]
theorem ones_ren (ρ : List (Nat × Nat)) (w : Bool) : ∀ {l : List AV}, ones l → ones (AV.tagL w (AV.renL ρ l))
  | [], _ => trivial
  | v :: l, h => by
    simp only [AV.renL, AV.tagL]
    exact ⟨ren_noagg h.1, ones_ren ρ w h.2⟩
section
variable {P : Program} {W : World} {F Fr : Nat → Prop} {μ : Place}
theorem RL.carry {l : List AV} {cs : List Value} {o : List Nat} (h : RL W F Fr μ l cs o) : o = [] → ∀ {F2 Fr2 : Nat → Prop} {μ2 : Place} {ρ : List (Nat × Nat)} {w : Bool},
    (∀ id j p L, nameOf ρ id = some j → μ id p = some L → μ2 j p = some L) →
    ((AV.mayBL l = true ∧ ∀ x, Fr x → (if w then Fr2 else F2) x) ∨ ((∀ x, F x → (if w then Fr2 else F2) x) ∧ (∀ x, Fr x → F x) ∧ (∀ x, F x → F2 x) ∧ (∀ x, Fr x → Fr2 x))) →
    RL W F2 Fr2 μ2 (AV.tagL w (AV.renL ρ l)) cs [] := by
  have tl : ∀ {v : AV} {l : List AV} {A B : Prop}, (AV.mayBL (v :: l) = true ∧ A) ∨ B → (AV.mayBL l = true ∧ A) ∨ B := by
    intro v l A B h
    rcases h with ⟨h1, h2⟩ | h
    · simp [AV.mayBL] at h1; exact .inl ⟨h1.2, h2⟩
    · exact .inr h
  induction h with
  | nil => intros; exact .nil
  | i _ ih => intro a F2 Fr2 μ2 ρ w c d; exact .i (ih a c (tl d))
  | b _ ih => intro a F2 Fr2 μ2 ρ w c d; exact .b (ih a c (tl d))
  | s _ ih => intro a F2 Fr2 μ2 ρ w c d; exact .s (ih a c (tl d))
  | junk c hc _ ih => intro a F2 Fr2 μ2 ρ w c' d; exact .junk c hc (ih a c' (tl d))
  | niL _ ih => intro a F2 Fr2 μ2 ρ w c d; exact .niL (ih a c (tl d))
  | emp A _ ih => intro a F2 Fr2 μ2 ρ w c d; exact .emp A (ih a c (tl d))
  | nilp _ ih => intro a F2 Fr2 μ2 ρ w c d; exact .nilp (ih a c (tl d))
  | nilf _ ih => intro a F2 Fr2 μ2 ρ w c d; exact .nilf (ih a c (tl d))
  | nilm _ ih => intro a F2 Fr2 μ2 ρ w c d; exact .nilm (ih a c (tl d))
  | agg hone _ _ ih1 ih2 =>
    intro a F2 Fr2 μ2 ρ w c d
    obtain ⟨a1, a2⟩ := List.append_eq_nil_iff.1 a
    refine .agg (o1 := []) (o := []) (ones_ren ρ w hone) (ih1 a1 c ?_) (ih2 a2 c (tl d))
    rcases d with ⟨h1, h2⟩ | d
    · simp [AV.mayBL, AV.mayB] at h1; exact .inl ⟨h1.1, h2⟩
    · exact .inr d
  | sl0 sz w' A c _ ih => intro a F2 Fr2 μ2 ρ w x d; exact .sl0 sz w A c (ih a x (tl d))
  | @sl1 F Fr μ vs cs o sz w' l g o0 c G cs1 o1 hl hG hc hu hg ho1 hcell h h' ih1 ih2 =>
    intro a F2 Fr2 μ2 ρ w x d
    have hGG : ∀ y, G y → (if w then Fr2 else F2) y := by
      intro y hy
      subst hG
      rcases d with ⟨h1, h2⟩ | ⟨d1, d2, d3⟩
      · simp [AV.mayBL, AV.mayB] at h1
        simp only [h1.1, if_true] at hy
        exact h2 y hy
      · cases w'
        · exact d1 y hy
        · exact d1 y (d2 y hy)
    exact .sl1 sz w l g o0 c _ cs1 o1 hl rfl hc hu (hGG g hg) (fun y hy => hGG y (ho1 y hy)) hcell (h.more hGG hGG (fun _ _ _ h => h)) (ih2 a x (tl d))
  | un0 sz A _ ih => intro a F2 Fr2 μ2 ρ w c d; exact .un0 sz A (ih a c (tl d))
  | un1 sz l g o0 c cs1 o1 h0 hc hu hcell hopen _ _ ih1 ih2 => intro a; simp at a
  | ref id p off len cap ex L A c hμ hl hcap hex hfit hA _ ih =>
    intro a F2 Fr2 μ2 ρ w x d
    simp only [AV.renL, AV.ren]
    split
    · rename_i j hj; exact .ref j p off len cap ex L A c (x _ _ _ _ hj hμ) hl hcap hex hfit hA (ih a x (tl d))
    · exact .junk _ rfl (ih a x (tl d))
  | ptr id p r c L hμ _ ih =>
    intro a F2 Fr2 μ2 ρ w x d
    simp only [AV.renL, AV.ren]
    split
    · rename_i j hj; exact .ptr j p r c L (x _ _ _ _ hj hμ) (ih a x (tl d))
    · exact .junk _ rfl (ih a x (tl d))
  | rp row c g o0 cs1 hg hcell h _ ih1 ih2 =>
    intro a F2 Fr2 μ2 ρ w x d
    rcases d with ⟨h1, h2⟩ | ⟨d1, d2, d3, d4⟩
    · simp [AV.mayBL, AV.mayB] at h1
    · exact .rp row c g o0 cs1 (d3 g hg) hcell (h.more d3 d4 (fun _ _ _ h => h)) (ih2 a x (.inr ⟨d1, d2, d3, d4⟩))
  | fn f caps capsv _ _ ih1 ih2 =>
    intro a F2 Fr2 μ2 ρ w x d
    refine .fn f _ capsv (ih1 rfl x ?_) (ih2 a x (tl d))
    rcases d with ⟨h1, h2⟩ | d
    · simp [AV.mayBL, AV.mayB] at h1; exact .inl ⟨h1.1, h2⟩
    · exact .inr d
  | map id L hμ _ ih =>
    intro a F2 Fr2 μ2 ρ w x d
    simp only [AV.renL, AV.ren]
    split
    · rename_i j hj; exact .map j L (x _ _ _ _ hj hμ) (ih a x (tl d))
    · exact .junk _ rfl (ih a x (tl d))
end

/-! ### What a call promises -/
/-- Blocks that are known and that nobody writes. -/
def Based (B : Nat → Option Obj) (W : World) (F : Nat → Prop) : Prop := ∀ x o, B x = some o → F x ∧ W.heap[x]? = some o
theorem Based.step {B : Nat → Option Obj} {W W' : World} {F : Nat → Prop} (h : Based B W F) (hs : ∀ x, F x → Same W W' x) : Based B W' F := fun x o e => ⟨(h x o e).1, by rw [hs x (h x o e).1]; exact (h x o e).2⟩
theorem Based.more {B : Nat → Option Obj} {W : World} {F F' : Nat → Prop} (h : Based B W F) (hs : ∀ x, F x → F' x) : Based B W F' := fun x o e => ⟨hs x (h x o e).1, (h x o e).2⟩
/-- A result's cells. -/
inductive RRs (W : World) (F Fr : Nat → Prop) (μ : Place) : List AV → List Value → List Nat → Prop
  | nil : RRs W F Fr μ [] [] []
  | un {sz : Nat} {l vs : List AV} {c : Value} {cs : List Value} {o1 o : List Nat} : 0 < sz → RL W no no noPlace [.un sz l] [c] o1 → RRs W F Fr μ vs cs o → RRs W F Fr μ (.un sz l :: vs) (c :: cs) (o1 ++ o)
  | val {v : AV} {vs : List AV} {c : Value} {cs : List Value} {o : List Nat} : (∀ m, v ≠ .agg m) → (∀ sz l, v ≠ .un sz l) → v.mayB = true → RL W F Fr μ [v] [c] [] → RRs W F Fr μ vs cs o → RRs W F Fr μ (v :: vs) (c :: cs) o
def RRr (W : World) (F Fr : Nat → Prop) (μ : Place) (v : AV) (c : Value) (o : List Nat) : Prop :=
  match v with
  | .agg l => ∃ cs : Array Value, c = .agg cs ∧ RRs W F Fr μ l cs.toList o
  | v => RRs W F Fr μ [v] [c] o
inductive RRt (W : World) (F Fr : Nat → Prop) (μ : Place) : List AV → List Value → List Nat → Prop
  | nil : RRt W F Fr μ [] [] []
  | cons {v : AV} {vs : List AV} {c : Value} {cs : List Value} {o1 o : List Nat} : RRr W F Fr μ v c o1 → RRt W F Fr μ vs cs o → RRt W F Fr μ (v :: vs) (c :: cs) (o1 ++ o)
def RR (W : World) (F Fr : Nat → Prop) (μ : Place) (v : AV) (c : Value) (o : List Nat) : Prop :=
  match v with
  | .tup l => ∃ vs : Array Value, c = .tuple vs ∧ RRt W F Fr μ l vs.toList o
  | v => RRr W F Fr μ v c o
structure Ret (W : World) (F Fr : Nat → Prop) (μ : Place) (h0 : Heap) (own : Nat → List Nat) (r : AV) (h1 : Heap) (cv : Value) (W' : World) : Prop where
  step : Step h0 own W W'
  may : mayH h1 = true
  ex : ∃ (μ' : Place) (own' : Nat → List Nat) (o : List Nat), (∀ id p, id < h0.length → μ' id p = μ id p) ∧ HInv W' F Fr μ' h1 own' (h0.length + h1.length) ∧ RR W' F Fr μ' r cv o ∧ o.Nodup ∧
    (∀ x ∈ o, ¬ F x ∧ x < W'.heap.size ∧ (W.heap.size ≤ x ∨ Owned h0 own x)) ∧ (∀ id b, find h1 id = some b → ∀ x ∈ own' id, x ∉ o ∧ (W.heap.size ≤ x ∨ Owned h0 own x))
def Enters (P : Program) (f : FuncId) : Prop := ∀ args W, (callFunc f args).run P W = .ok (.enter f args) W
/-- A call of f at these arguments comes to r, the heap to h1: in the machine too. -/
def CallOk (P : Program) (B : Nat → Option Obj) (f : FuncId) (args : List AV) (h0 : Heap) (r : AV) (h1 : Heap) : Prop :=
  Enters P f ∧ ∀ (W : World) (F Fr : Nat → Prop) (μ : Place) (own : Nat → List Nat) (cargs : Array Value), Based B W F → HInv W F Fr μ h0 own h0.length → All2 (RV W F Fr μ) args cargs.toList →
    Calls P f cargs W fun e W' => ∃ cv, e = .returned cv ∧ Ret W F Fr μ h0 own r h1 cv W'
def OracleOk (P : Program) (B : Nat → Option Obj) (C : Oracle) : Prop := ∀ f args h0 r h1, C f args h0 = some (r, h1) → CallOk P B f args h0 r h1
end Go.Am
/- THE ABSTRACT MACHINE (AM): calls: what is lent, what comes back. No condition. -/
namespace Go.Am
set_option linter.unusedSimpArgs false
set_option linter.unusedVariables false

mutual
theorem may_ren (ρ : List (Nat × Nat)) : ∀ v : AV, (v.ren ρ).mayB = v.mayB
  | .agg l => by simp only [AV.ren, AV.mayB]; exact may_renL ρ l
  | .tup l => by simp only [AV.ren, AV.mayB]; exact may_renL ρ l
  | .fn f l => by simp only [AV.ren, AV.mayB]; exact may_renL ρ l
  | .ref id p o l c e => by simp only [AV.ren]; split <;> simp [AV.mayB]
  | .ptr id p r c => by simp only [AV.ren]; split <;> simp [AV.mayB]
  | .map id => by simp only [AV.ren]; split <;> simp [AV.mayB]
  | .i _ _ => rfl
  | .b _ => rfl
  | .s _ => rfl
  | .sl _ _ _ => rfl
  | .un _ _ => rfl
  | .nil => rfl
  | .emp => rfl
  | .rp _ _ => rfl
  | .nilp => rfl
  | .nilf => rfl
  | .nilm => rfl
  | .junk => rfl
theorem may_renL (ρ : List (Nat × Nat)) : ∀ l : List AV, AV.mayBL (AV.renL ρ l) = AV.mayBL l
  | [] => rfl
  | v :: l => by simp only [AV.renL, AV.mayBL, may_ren ρ v, may_renL ρ l]
end
section
variable {P : Program} {W : World} {F Fr : Nat → Prop} {μ : Place}
/-- What nobody writes while a call runs. -/
def lentF (F : Nat → Prop) (h : Heap) (own : Nat → List Nat) (acc : List Nat) : Nat → Prop := fun x => F x ∨ ∃ id b, find h id = some b ∧ id ∉ acc ∧ x ∈ own id
def lentPl (μ : Place) (acc : List Nat) : Place := fun j p => match acc[j]? with
  | some id => μ id p
  | none => none
def lentOwn (own : Nat → List Nat) (acc : List Nat) : Nat → List Nat := fun j => own (acc.getD j 0)
theorem getD_of {acc : List Nat} {j x : Nat} (h : acc[j]? = some x) : acc.getD j 0 = x := by rw [List.getD_eq_getElem?_getD, h]; rfl
theorem lent_names {acc : List Nat} : ∀ id j p L, nameOf (numbered acc 0) id = some j → μ id p = some L → lentPl μ acc j p = some L := by
  intro id j p L h1 h2
  have := (nameOf_numbered h1).2
  simp only [Nat.sub_zero] at this
  simp only [lentPl, this]
  exact h2
theorem lend_heap {h : Heap} {own : Nat → List Nat} {n : Nat} (H : HInv W F Fr μ h own n) {acc : List Nat} (hnd : acc.Nodup) (hall : ∀ x ∈ acc, ∃ b, find h x = some b) {w : Bool} (hw : w = true → mayH (pickH h (numbered acc 0) (numbered acc 0)) = true) :
    HInv W (lentF F h own acc) (if w then Fr else F) (lentPl μ acc) (tagH (pickH h (numbered acc 0) (numbered acc 0))) (lentOwn own acc) (tagH (pickH h (numbered acc 0) (numbered acc 0))).length := by
  have hlen : (tagH (pickH h (numbered acc 0) (numbered acc 0))).length = acc.length := by rw [length_tagH, pickH_length hall]
  -- a block: whose it is
  have hfind : ∀ j b, find (tagH (pickH h (numbered acc 0) (numbered acc 0))) j = some b → ∃ x b0, acc[j]? = some x ∧ find h x = some b0 ∧ b = (b0.ren (numbered acc 0)).tag true ∧ find (pickH h (numbered acc 0) (numbered acc 0)) j = some (b0.ren (numbered acc 0)) := by
    intro j b hf
    obtain ⟨b1, h1, rfl⟩ := find_tagH hf
    obtain ⟨_, x, b0, h2, h3, rfl⟩ := find_pickH h1
    exact ⟨x, b0, by simpa using h2, h3, rfl, h1⟩
  have hFF : ∀ x, F x → lentF F h own acc x := fun x hx => .inl hx
  have hFr : ∀ x, (if w then Fr else F) x → F x := fun x hx => by cases w <;> simp_all [H.fr]
  constructor
  · intro j b hf
    obtain ⟨x, b0, hj, hx, rfl, hp⟩ := hfind j b hf
    have hb := H.blk x b0 hx
    have hpl : ∀ p, lentPl μ acc j p = μ x p := fun p => by simp [lentPl, hj]
    have how : lentOwn own acc j = own x := by unfold lentOwn; rw [getD_of hj]
    rw [how]
    cases b0 with
    | box cs =>
      obtain ⟨L, csv, h1, h2, h3, h4, h5, h6⟩ := hb
      refine ⟨L, csv, by rw [hpl]; exact h1, ones_ren _ true h2, ?_, h4, h5, h6⟩
      refine h3.carry rfl lent_names ?_
      cases w with
      | true =>
        have := mayH_box (hw rfl) hp
        rw [may_renL] at this
        exact .inl ⟨this, fun x hx => hx⟩
      | false => exact .inr ⟨fun x hx => hx, H.fr, hFF, fun x hx => H.fr x hx⟩
    | arr sz rows =>
      obtain ⟨L, csv, o1, h1, h2, h3, h4, h5, h6, h7, h8, h9, h10⟩ := hb
      exact ⟨L, csv, o1, by rw [hpl]; exact h1, h2, h3, h4, h5, h6, h7, h8, h9, fun r c row sz' l e1 e2 => by rw [hpl]; exact h10 r c row sz' l e1 e2⟩
    | mp es => exact hb.elim
  · intro j b hf
    obtain ⟨x, b0, hj, hx, _, _⟩ := hfind j b hf
    unfold lentOwn; rw [getD_of hj]
    exact H.nd x b0 hx
  · intro j j' b b' hf hf' hne y hy
    obtain ⟨x, b0, hj, hx, _, _⟩ := hfind j b hf
    obtain ⟨x', b0', hj', hx', _, _⟩ := hfind j' b' hf'
    unfold lentOwn at hy ⊢
    rw [getD_of hj] at hy
    rw [getD_of hj']
    refine H.dis x x' b0 b0' hx hx' (fun e => hne ?_) y hy
    subst e
    obtain ⟨l1, e1⟩ := List.getElem?_eq_some_iff.1 hj
    obtain ⟨l2, e2⟩ := List.getElem?_eq_some_iff.1 hj'
    exact (List.getElem_inj hnd).1 (e1.trans e2.symm)
  · intro j b hf y hy
    obtain ⟨x, b0, hj, hx, _, _⟩ := hfind j b hf
    unfold lentOwn at hy
    rw [getD_of hj] at hy
    obtain ⟨h1, h2⟩ := H.out x b0 hx y hy
    refine ⟨fun hh => ?_, h2⟩
    rcases hh with hh | ⟨id, b1, e1, e2, e3⟩
    · exact h1 hh
    · exact H.dis x id b0 b1 hx e1 (fun e => e2 (e ▸ List.mem_of_getElem? hj)) y hy e3
  · intro j b hf
    obtain ⟨x, b0, hj, hx, _, _⟩ := hfind j b hf
    rw [hlen]
    exact (List.getElem?_eq_some_iff.1 hj).1
  · intro j p L hl
    rw [hlen]
    unfold lentPl at hl
    split at hl
    · rename_i id hid; exact (List.getElem?_eq_some_iff.1 hid).1
    · cases hl
  · intro x hx; exact .inl (hFr x hx)
  · intro x hx
    rcases hx with hx | ⟨id, b, e1, _, e3⟩
    · exact H.fsz x hx
    · exact (H.out id b e1 x e3).2
theorem lend_rel {h : Heap} {own : Nat → List Nat} {n : Nat} (H : HInv W F Fr μ h own n) {acc : List Nat} {w : Bool} {v x : AV} {c : Value} (hv : RL W F Fr μ [v] [c] []) (hl : lend h acc (numbered acc 0) v = some x) (hw : w = true → v.mayB = true) :
    RL W (lentF F h own acc) (if w then Fr else F) (lentPl μ acc) [x] [c] [] ∧ (∀ m, x ≠ .agg m) ∧ x ≠ .junk ∧ ∀ m, x ≠ .tup m := by
  have hFF : ∀ x, F x → lentF F h own acc x := fun x hx => .inl hx
  have hm : (AV.mayBL [v] = true ∧ ∀ x, Fr x → (if true then (if w then Fr else F) else lentF F h own acc) x) ∨ ((∀ x, F x → (if true then (if w then Fr else F) else lentF F h own acc) x) ∧ (∀ x, Fr x → F x) ∧ (∀ x, F x → lentF F h own acc x) ∧ ∀ x, Fr x → (if w then Fr else F) x) := by
    cases w with
    | true => exact .inl ⟨by simp [AV.mayBL, hw rfl], fun x hx => hx⟩
    | false => exact .inr ⟨fun x hx => hx, H.fr, hFF, fun x hx => H.fr x hx⟩
  have hc := hv.carry (ρ := numbered acc 0) (w := true) rfl lent_names hm
  simp only [AV.renL, AV.tagL] at hc
  cases v with
  | ref id p off len c' e =>
    simp only [lend] at hl
    cases hmm : mem acc id with
    | true =>
      rw [hmm] at hl
      simp only [cond_true] at hl
      cases p with
      | some q => cases hl
      | none =>
        obtain rfl := Option.some.inj hl
        obtain ⟨j, hj⟩ := nameOf_some (k := 0) (mem_iff.1 hmm)
        simp only [AV.ren, hj, AV.tag] at hc ⊢
        exact ⟨hc, by simp, by simp, by simp⟩
    | false =>
      rw [hmm] at hl
      simp only [cond_false] at hl
      split at hl
      · rename_i sz rows hra
        split at hl
        · rename_i l hvw
          obtain rfl := Option.some.inj hl
          refine ⟨?_, by simp, by simp, by simp⟩
          have hna : id ∉ acc := fun hh => by rw [mem_iff.2 hh] at hmm; cases hmm
          obtain ⟨o, ⟨A, cc, news, rfl, h2, h3, h4, h5, h6⟩, hsub⟩ := view_at H hv hra hvw
          obtain ⟨L', csv, o1, hμ', hsz', huni, hrl, hcT, hcell, hopen, hown, hg, b, hb⟩ := rowsAt_rel H hra
          by_cases h0 : 0 < l.length
          · obtain ⟨g, bb, rfl, hcell⟩ := h6 h0
            obtain ⟨L, A, cc', hμ, hle, hcap, hex, hfit, hA, e⟩ := RV.ref_inv hv
            obtain rfl : L = L' := by rw [hμ] at hμ'; exact Option.some.inj hμ'
            simp only [Value.slice.injEq] at e
            obtain ⟨e1, e2, rfl⟩ := e
            have hA := hA (by omega)
            rw [← e1] at hA
            simp only [Option.some.injEq, Addr.mk.injEq] at hA
            obtain ⟨rfl, rfl, _⟩ := hA
            have hgF : lentF F h own acc L.g := .inr ⟨id, b, hb, hna, hg (by omega)⟩
            exact .sl1 sz false l _ _ _ (lentF F h own acc) news o h0 rfl h2 h3 hgF (fun x hx => .inr ⟨id, b, hb, hna, hsub x hx⟩) hcell h4.up .nil
          · have e : l = [] := List.length_eq_zero_iff.1 (by omega)
            subst e
            exact .sl0 sz false A cc .nil
        · cases hl
      · cases hl
  | ptr id p r cc =>
    simp only [lend] at hl
    cases p with
    | some q => cases hl
    | none =>
      simp only at hl
      cases hmm : mem acc id with
      | false => rw [hmm] at hl; cases hl
      | true =>
        rw [hmm] at hl
        simp only [cond_true] at hl
        obtain rfl := Option.some.inj hl
        obtain ⟨j, hj⟩ := nameOf_some (k := 0) (mem_iff.1 hmm)
        simp only [AV.ren, hj, AV.tag] at hc ⊢
        exact ⟨hc, by simp, by simp, by simp⟩
  | map id =>
    simp only [lend] at hl
    cases hmm : mem acc id with
    | false => rw [hmm] at hl; cases hl
    | true =>
      rw [hmm] at hl
      simp only [cond_true] at hl
      obtain rfl := Option.some.inj hl
      obtain ⟨j, hj⟩ := nameOf_some (k := 0) (mem_iff.1 hmm)
      simp only [AV.ren, hj, AV.tag] at hc ⊢
      exact ⟨hc, by simp, by simp, by simp⟩
  | sl sz w' l => simp only [lend, Option.some.injEq] at hl; subst hl; exact ⟨hc, by simp, by simp, by simp⟩
  | fn f caps => simp only [lend, Option.some.injEq] at hl; subst hl; exact ⟨hc, by simp, by simp, by simp⟩
  | i k m => simp only [lend, Option.some.injEq] at hl; subst hl; exact ⟨hc, by simp, by simp, by simp⟩
  | b y => simp only [lend, Option.some.injEq] at hl; subst hl; exact ⟨hc, by simp, by simp, by simp⟩
  | s y => simp only [lend, Option.some.injEq] at hl; subst hl; exact ⟨hc, by simp, by simp, by simp⟩
  | nil => simp only [lend, Option.some.injEq] at hl; subst hl; exact ⟨hc, by simp, by simp, by simp⟩
  | emp => simp only [lend, Option.some.injEq] at hl; subst hl; exact ⟨hc, by simp, by simp, by simp⟩
  | nilp => simp only [lend, Option.some.injEq] at hl; subst hl; exact ⟨hc, by simp, by simp, by simp⟩
  | nilf => simp only [lend, Option.some.injEq] at hl; subst hl; exact ⟨hc, by simp, by simp, by simp⟩
  | nilm => simp only [lend, Option.some.injEq] at hl; subst hl; exact ⟨hc, by simp, by simp, by simp⟩
  | rp row cc => simp only [lend, Option.some.injEq] at hl; subst hl; exact ⟨hc, by simp, by simp, by simp⟩
  | un sz l => simp [lend] at hl
  | agg l => simp [lend] at hl
  | tup l => simp [lend] at hl
  | junk => simp [lend] at hl
theorem lendL_rel {h : Heap} {own : Nat → List Nat} {n : Nat} (H : HInv W F Fr μ h own n) {acc : List Nat} {w : Bool} : ∀ {l xs : List AV} {cs : List Value}, RL W F Fr μ l cs [] → ones l → lendL h acc (numbered acc 0) l = some xs → (w = true → AV.mayBL l = true) →
    RL W (lentF F h own acc) (if w then Fr else F) (lentPl μ acc) xs cs [] ∧ ones xs
  | [], xs, cs, hv, _, hl, _ => by simp [lendL] at hl; subst hl; cases hv; exact ⟨.nil, trivial⟩
  | v :: l, xs, cs, hv, hone, hl, hw => by
    simp only [lendL] at hl
    split at hl
    · rename_i x hx
      split at hl
      · rename_i xs' hxs
        obtain rfl := Option.some.inj hl
        obtain ⟨c1, c2, o1, o2, rfl, eo, h1, h2⟩ := RL.uncons hv
        have eo := List.append_eq_nil_iff.1 eo.symm
        rw [eo.1] at h1; rw [eo.2] at h2
        have hw1 := h1.width
        simp [AV.widthL, width_one hone.1] at hw1
        match c1, hw1 with
        | [c], _ =>
          obtain ⟨a1, a2, _⟩ := lend_rel (w := w) H h1 hx (fun e => by have := hw e; simp [AV.mayBL] at this; exact this.1)
          obtain ⟨b1, b2⟩ := lendL_rel H h2 hone.2 hxs (fun e => by have := hw e; simp [AV.mayBL] at this; exact this.2)
          exact ⟨RL.cons a1 b1, a2, b2⟩
      · cases hl
    · cases hl
theorem lendA_rel {h : Heap} {own : Nat → List Nat} {n : Nat} (H : HInv W F Fr μ h own n) {acc : List Nat} {w : Bool} : ∀ {l xs : List AV} {cs : List Value}, All2 (RV W F Fr μ) l cs → lendA h acc (numbered acc 0) l = some xs → (w = true → AV.mayBL l = true) →
    All2 (RV W (lentF F h own acc) (if w then Fr else F) (lentPl μ acc)) xs cs
  | _, xs, _, .nil, hl, _ => by simp [lendA] at hl; subst hl; exact .nil
  | v :: l, xs, c :: cs, .cons hv hr, hl, hw => by
    have hw1 : w = true → v.mayB = true := fun e => by have := hw e; simp [AV.mayBL] at this; exact this.1
    have hw2 : w = true → AV.mayBL l = true := fun e => by have := hw e; simp [AV.mayBL] at this; exact this.2
    by_cases hag : ∃ m, v = .agg m
    · obtain ⟨m, rfl⟩ := hag
      simp only [lendA] at hl
      split at hl
      · rename_i ys hys
        split at hl
        · rename_i zs hzs
          obtain rfl := Option.some.inj hl
          obtain ⟨cs', rfl, hone, hrm⟩ := hv.agg
          obtain ⟨a1, a2⟩ := lendL_rel H hrm hone hys (w := w) (fun e => by have := hw1 e; simpa [AV.mayB] using this)
          exact .cons ⟨cs', rfl, .toAgg a2 a1⟩ (lendA_rel H hr hzs hw2)
        · cases hl
      · cases hl
    · have hl' : (match lend h acc (numbered acc 0) v with
          | some x => match lendA h acc (numbered acc 0) l with
            | some ys => some (x :: ys)
            | none => none
          | none => none) = some xs := by
        cases v <;> first | exact hl | exact absurd ⟨_, rfl⟩ hag
      split at hl'
      · rename_i x hx
        split at hl'
        · rename_i zs hzs
          obtain rfl := Option.some.inj hl'
          have hj : v ≠ .junk := by rintro rfl; simp [lend] at hx
          have ht : ∀ m, v ≠ .tup m := by rintro m rfl; simp [lend] at hx
          obtain ⟨a1, a2, a3, a4⟩ := lend_rel (w := w) H (hv.single hj (fun m e => hag ⟨m, e⟩) ht) hx hw1
          exact .cons (RV.ofSingle a1 a2) (lendA_rel H hr hzs hw2)
        · cases hl'
      · cases hl'
end
end Go.Am
/- THE ABSTRACT MACHINE (AM): calls: what comes back. No condition. -/
namespace Go.Am
set_option linter.unusedSimpArgs false
set_option linter.unusedVariables false

section
variable {P : Program} {W : World} {F Fr : Nat → Prop} {μ : Place}
/-- A block that no heap had becomes one of the heap's. -/
theorem HInv.adopt {h : Heap} {own : Nat → List Nat} {n : Nat} (H : HInv W F Fr μ h own n) {m : Option (Nat × Nat) → Option Loc} {b : Blk} {oc : List Nat} (hb : BRel W F Fr (addPl μ n m) n b oc) (hnd : oc.Nodup) (ho : ∀ x ∈ oc, ¬ F x ∧ x < W.heap.size ∧ ∀ id b, find h id = some b → x ∉ own id) :
    HInv W F Fr (addPl μ n m) ((n, b) :: h) (fun id => if id = n then oc else own id) (n + 1) := by
  have hne : ∀ id b, find h id = some b → id ≠ n := fun id b hf => by have := H.lt id b hf; omega
  have hcase : ∀ id b', find ((n, b) :: h) id = some b' → (id = n ∧ b' = b) ∨ (id ≠ n ∧ find h id = some b') := by
    intro id b' hf
    rw [find_cons] at hf
    split at hf
    · rename_i e; subst e; exact .inl ⟨rfl, (Option.some.inj hf).symm⟩
    · rename_i e; exact .inr ⟨fun e' => e e'.symm, hf⟩
  constructor
  · intro id b' hf
    rcases hcase id b' hf with ⟨rfl, rfl⟩ | ⟨h1, h2⟩
    · simpa using hb
    · simp only [h1, if_false]
      exact (H.blk id b' h2).keep H.fr (fun _ _ => rfl) (fun _ _ => rfl) (ext_of H fun id p hid => addPl_old hid p)
  · intro id b' hf
    rcases hcase id b' hf with ⟨rfl, rfl⟩ | ⟨h1, h2⟩
    · simpa using hnd
    · simp only [h1, if_false]; exact H.nd id b' h2
  · intro id id' b1 b2 hf hf' hd x hx
    rcases hcase id b1 hf with ⟨rfl, rfl⟩ | ⟨h1, h2⟩ <;> rcases hcase id' b2 hf' with ⟨rfl, rfl⟩ | ⟨h3, h4⟩
    · exact absurd rfl hd
    · simp only [if_true] at hx
      simp only [h3, if_false]
      exact (ho x hx).2.2 id' b2 h4
    · simp only [h1, if_false] at hx
      simp only [if_true]
      exact fun hx' => (ho x hx').2.2 id b1 h2 hx
    · simp only [h1, if_false] at hx
      simp only [h3, if_false]
      exact H.dis id id' b1 b2 h2 h4 hd x hx
  · intro id b' hf x hx
    rcases hcase id b' hf with ⟨rfl, rfl⟩ | ⟨h1, h2⟩
    · simp only [if_true] at hx; exact ⟨(ho x hx).1, (ho x hx).2.1⟩
    · simp only [h1, if_false] at hx; exact H.out id b' h2 x hx
  · intro id b' hf
    rcases hcase id b' hf with ⟨rfl, rfl⟩ | ⟨h1, h2⟩
    · omega
    · have := H.lt id b' h2; omega
  · exact addPl_lt H
  · exact H.fr
  · exact H.fsz
/-- A slice that nobody has: a block. -/
theorem adopt_un {h : Heap} {own : Nat → List Nat} {n : Nat} (H : HInv W F Fr μ h own n) {sz : Nat} {l : List AV} {c : Value} {o : List Nat} (hpos : 0 < sz) (hr : RL W no no noPlace [.un sz l] [c] o) (hnd : o.Nodup) (ho : ∀ x ∈ o, ¬ F x ∧ x < W.heap.size ∧ ∀ id b, find h id = some b → x ∉ own id) :
    ∃ m, HInv W F Fr (addPl μ n m) ((n, .arr sz l) :: h) (fun id => if id = n then o else own id) (n + 1) ∧ RL W F Fr (addPl μ n m) [.ref n none 0 l.length l.length false] [c] [] := by
  obtain ⟨A, cap, hc, _⟩ := hr.un_shape
  simp only [List.cons.injEq, and_true] at hc
  subst hc
  obtain ⟨_, hq⟩ := hr.un_inv
  rcases hq with ⟨rfl, rfl, rfl⟩ | ⟨g, o0, cs1, o1, rfl, h0, hcap, hu, hcell, hopen, hr1, rfl⟩
  · refine ⟨fun p => match p with | none => some ⟨0, 0, 0, sz⟩ | some _ => none, H.adopt ?_ (by simp) (by simp), ?_⟩
    · exact ⟨⟨0, 0, 0, sz⟩, [], [], addPl_new none, rfl, hpos, trivial, .nil, by simp, fun k v hk => by simp at hk, fun k hk => by simp at hk, rfl, fun r c row sz' l hrow => by simp at hrow⟩
    · exact .ref n none 0 0 0 false ⟨0, 0, 0, sz⟩ A 0 (addPl_new none) (by simp) (by simp) (by simp) (by simp) (by simp) .nil
  · refine ⟨fun p => match p with | none => some ⟨g, o0, cap, sz⟩ | some q => nestPl sz l cs1 (some q), H.adopt ?_ hnd ho, ?_⟩
    · refine ⟨⟨g, o0, cap, sz⟩, cs1, o1, addPl_new none, rfl, hpos, hu, hr1, hcap, hcell, hopen, by rw [if_neg (by omega : ¬ cap = 0)]; rfl, ?_⟩
      intro r c row sz' l' hrow hx
      obtain ⟨L', A, e1, e2, e3, e4⟩ := nestPl_ok hr1 hu r c row sz' l' hrow hx
      exact ⟨L', A, by rw [addPl_new]; exact e1, e2, e3, e4⟩
    · exact .ref n none 0 l.length l.length false ⟨g, o0, cap, sz⟩ _ cap (addPl_new none) (Nat.le_refl _) hcap (by simp) (by simp) (fun _ => by simp) .nil
/-- The state while a result is taken over. -/
structure Took (W : World) (F Fr : Nat → Prop) (μ : Place) (h : Heap) (own : Nat → List Nat) (n : Nat) (o : List Nat) (h' : Heap) (n' : Nat) (μ' : Place) (own' : Nat → List Nat) : Prop where
  le : n ≤ n'
  ext : ∀ id p, id < n → μ' id p = μ id p
  inv : HInv W F Fr μ' h' own' n'
  owned : ∀ x, Owned h' own' x → Owned h own x ∨ x ∈ o
theorem Took.refl {h : Heap} {own : Nat → List Nat} {n : Nat} (H : HInv W F Fr μ h own n) : Took W F Fr μ h own n [] h n μ own := ⟨Nat.le_refl _, fun _ _ _ => rfl, H, fun _ h => .inl h⟩
theorem Took.trans {h h1 h2 : Heap} {own own1 own2 : Nat → List Nat} {n n1 n2 : Nat} {o1 o2 : List Nat} {μ1 μ2 : Place} (a : Took W F Fr μ h own n o1 h1 n1 μ1 own1) (b : Took W F Fr μ1 h1 own1 n1 o2 h2 n2 μ2 own2) : Took W F Fr μ h own n (o1 ++ o2) h2 n2 μ2 own2 :=
  ⟨Nat.le_trans a.le b.le, fun id p hid => by rw [b.ext id p (by have := a.le; omega), a.ext id p hid], b.inv, fun x hx => by
    rcases b.owned x hx with hx | hx
    · rcases a.owned x hx with hx | hx
      · exact .inl hx
      · exact .inr (by simp [hx])
    · exact .inr (by simp [hx])⟩
def Unhad (W : World) (F : Nat → Prop) (h : Heap) (own : Nat → List Nat) (o : List Nat) : Prop := ∀ x ∈ o, ¬ F x ∧ x < W.heap.size ∧ ∀ id b, find h id = some b → x ∉ own id
theorem Took.unhad {h h1 : Heap} {own own1 : Nat → List Nat} {n n1 : Nat} {o1 o2 : List Nat} {μ1 : Place} (a : Took W F Fr μ h own n o1 h1 n1 μ1 own1) (hu : Unhad W F h own (o1 ++ o2)) (hnd : (o1 ++ o2).Nodup) : Unhad W F h1 own1 o2 := by
  intro x hx
  obtain ⟨h1', h2, h3⟩ := hu x (by simp [hx])
  refine ⟨h1', h2, fun id b hf hm => ?_⟩
  rcases a.owned x ⟨id, b, hf, hm⟩ with ⟨id', b', hf', hm'⟩ | hx1
  · exact h3 id' b' hf' hm'
  · rw [List.nodup_append] at hnd; exact hnd.2.2 x hx1 x hx rfl
variable {F' Fr' : Nat → Prop} {μ' : Place} {ρ : List (Nat × Nat)} {w : Bool}
/-- Names that lead to the caller's places. -/
def Leads (ρ : List (Nat × Nat)) (μ1 μ2 : Place) : Prop := ∀ id j p L, nameOf ρ id = some j → μ1 id p = some L → μ2 j p = some L
theorem Leads.ext {μ1 μ2 μ3 : Place} {n : Nat} (h : Leads ρ μ1 μ2) (hpl : ∀ id p L, μ2 id p = some L → id < n) (he : ∀ id p, id < n → μ3 id p = μ2 id p) : Leads ρ μ1 μ3 := fun id j p L h1 h2 => by
  have := h id j p L h1 h2
  rw [he j p (hpl j p L this)]; exact this
theorem giveC_rel {h : Heap} {own : Nat → List Nat} {n : Nat} (H : HInv W F Fr μ h own n) (hld : Leads ρ μ' μ) (hFr : ∀ x, Fr' x → (if w then Fr else F) x) {v : AV} {c : Value} {cs : List Value} {vs : List AV} {o : List Nat} (hr : RRs W F' Fr' μ' (v :: vs) (c :: cs) o)
    (hnd : o.Nodup) (hu : Unhad W F h own o) {x : AV} {h' : Heap} {n' : Nat} (hg : giveC w ρ h n v = (x, h', n')) :
    ∃ o1 o2 μ2 own2, o = o1 ++ o2 ∧ RRs W F' Fr' μ' vs cs o2 ∧ Took W F Fr μ h own n o1 h' n' μ2 own2 ∧ RL W F Fr μ2 [x] [c] [] ∧ (∀ m, x ≠ .agg m) ∧ ∀ m, x ≠ .tup m := by
  cases hr with
  | @un sz l vs c cs o1 o hp h1 h2 =>
    simp only [giveC, Prod.mk.injEq] at hg
    obtain ⟨rfl, rfl, rfl⟩ := hg
    rw [List.nodup_append] at hnd
    obtain ⟨m, a1, a2⟩ := adopt_un H hp h1 hnd.1 (fun y hy => hu y (by simp [hy]))
    refine ⟨o1, o, _, _, rfl, h2, ⟨Nat.le_succ _, fun id p hid => addPl_old hid p, a1, ?_⟩, a2, by simp, by simp⟩
    rintro y ⟨id, b, hf, hm⟩
    rw [find_cons] at hf
    split at hf
    · rename_i e; subst e; simp only [if_true] at hm; exact .inr hm
    · rename_i e
      have e' : ¬ id = n := fun e' => e e'.symm
      simp only [e', if_false] at hm
      exact .inl ⟨id, b, hf, hm⟩
  | val hna hnu hmay hv h2 =>
    have hx : x = (v.ren ρ).tag w ∧ h' = h ∧ n' = n := by
      cases v with
      | un sz l => exact absurd rfl (hnu sz l)
      | _ => simp only [giveC, Prod.mk.injEq] at hg; exact ⟨hg.1.symm, hg.2.1.symm, hg.2.2.symm⟩
    obtain ⟨rfl, rfl, rfl⟩ := hx
    have := hv.carry (ρ := ρ) (w := w) (F2 := F) (Fr2 := Fr) (μ2 := μ) rfl hld (.inl ⟨by simp [AV.mayBL, hmay], hFr⟩)
    refine ⟨[], o, μ, own, rfl, h2, .refl H, this, ren_noagg hna, ?_⟩
    intro m e
    have hnt : ∀ m, v ≠ .tup m := by rintro m rfl; cases hv
    cases v <;> simp only [AV.ren] at e <;> (try split at e) <;> simp [AV.tag] at e
    exact hnt _ rfl
theorem giveL_rel : ∀ {l xs : List AV} {cs : List Value} {o : List Nat} {h h' : Heap} {own : Nat → List Nat} {n n' : Nat} {μ : Place}, HInv W F Fr μ h own n → Leads ρ μ' μ → (∀ x, Fr' x → (if w then Fr else F) x) → RRs W F' Fr' μ' l cs o → o.Nodup → Unhad W F h own o →
    giveL w ρ h n l = (xs, h', n') → ∃ μ2 own2, Took W F Fr μ h own n o h' n' μ2 own2 ∧ RL W F Fr μ2 xs cs [] ∧ ones xs
  | [], xs, cs, o, h, h', own, n, n', μ, H, hld, hFr, hr, hnd, hu, hg => by
    simp only [giveL, Prod.mk.injEq] at hg
    obtain ⟨rfl, rfl, rfl⟩ := hg
    cases hr
    exact ⟨μ, own, .refl H, .nil, trivial⟩
  | v :: l, xs, cs, o, h, h', own, n, n', μ, H, hld, hFr, hr, hnd, hu, hg => by
    have hcs : ∃ c cs', cs = c :: cs' := by cases hr <;> exact ⟨_, _, rfl⟩
    obtain ⟨c, cs', rfl⟩ := hcs
    simp only [giveL, Prod.mk.injEq] at hg
    obtain ⟨rfl, e2, e3⟩ := hg
    obtain ⟨o1, o2, μ2, own2, rfl, hr2, T1, hx, hna, _⟩ := giveC_rel H hld hFr hr hnd hu (x := (giveC w ρ h n v).1) (h' := (giveC w ρ h n v).2.1) (n' := (giveC w ρ h n v).2.2) rfl
    have hnd' := hnd
    rw [List.nodup_append] at hnd'
    obtain ⟨μ3, own3, T2, hxs, hone⟩ := giveL_rel T1.inv (hld.ext H.pl T1.ext) hFr hr2 hnd'.2.1 (T1.unhad hu hnd) (xs := (giveL w ρ (giveC w ρ h n v).2.1 (giveC w ρ h n v).2.2 l).1) (h' := h') (n' := n') (by rw [← e2, ← e3])
    refine ⟨μ3, own3, T1.trans T2, RL.cons (hx.more (fun _ h => h) (fun _ h => h) (ext_of T1.inv T2.ext)) hxs, hna, hone⟩
theorem giveR_rel {v x : AV} {c : Value} {o : List Nat} {h h' : Heap} {own : Nat → List Nat} {n n' : Nat} {μ : Place} (H : HInv W F Fr μ h own n) (hld : Leads ρ μ' μ) (hFr : ∀ x, Fr' x → (if w then Fr else F) x) (hr : RRr W F' Fr' μ' v c o) (hnd : o.Nodup) (hu : Unhad W F h own o)
    (hg : giveR w ρ h n v = (x, h', n')) : ∃ μ2 own2, Took W F Fr μ h own n o h' n' μ2 own2 ∧ RV1 W F Fr μ2 x c ∧ ∀ m, x ≠ .tup m := by
  by_cases hag : ∃ l, v = .agg l
  · obtain ⟨l, rfl⟩ := hag
    obtain ⟨cs, rfl, hr⟩ := hr
    simp only [giveR, Prod.mk.injEq] at hg
    obtain ⟨rfl, rfl, rfl⟩ := hg
    obtain ⟨μ2, own2, T, h1, h2⟩ := giveL_rel H hld hFr hr hnd hu rfl
    exact ⟨μ2, own2, T, ⟨cs, rfl, .toAgg h2 h1⟩, by simp⟩
  · have hr' : RRs W F' Fr' μ' [v] [c] o := by cases v <;> first | exact hr | exact absurd ⟨_, rfl⟩ hag
    have hg' : giveC w ρ h n v = (x, h', n') := by cases v <;> first | exact hg | exact absurd ⟨_, rfl⟩ hag
    obtain ⟨o1, o2, μ2, own2, rfl, hr2, T1, hx, hna, hnt⟩ := giveC_rel H hld hFr hr' hnd hu hg'
    cases hr2
    refine ⟨μ2, own2, by simpa using T1, ?_, hnt⟩
    have := RV.ofSingle hx hna
    rwa [RV.eq1 hnt] at this
theorem giveT_rel : ∀ {l xs : List AV} {cs : List Value} {o : List Nat} {h h' : Heap} {own : Nat → List Nat} {n n' : Nat} {μ : Place}, HInv W F Fr μ h own n → Leads ρ μ' μ → (∀ x, Fr' x → (if w then Fr else F) x) → RRt W F' Fr' μ' l cs o → o.Nodup → Unhad W F h own o →
    giveT w ρ h n l = (xs, h', n') → ∃ μ2 own2, Took W F Fr μ h own n o h' n' μ2 own2 ∧ xs.length = cs.length ∧ ∀ (j : Nat) x, xs[j]? = some x → ∃ c, cs[j]? = some c ∧ RV1 W F Fr μ2 x c
  | [], xs, cs, o, h, h', own, n, n', μ, H, hld, hFr, hr, hnd, hu, hg => by
    simp only [giveT, Prod.mk.injEq] at hg
    obtain ⟨rfl, rfl, rfl⟩ := hg
    cases hr
    exact ⟨μ, own, .refl H, rfl, by simp⟩
  | v :: l, xs, _, _, h, h', own, n, n', μ, H, hld, hFr, @RRt.cons _ _ _ _ _ _ c cs o1 o2 h1 h2, hnd, hu, hg => by
    simp only [giveT, Prod.mk.injEq] at hg
    obtain ⟨rfl, e2, e3⟩ := hg
    have hnd' := hnd
    rw [List.nodup_append] at hnd'
    obtain ⟨μ2, own2, T1, hx, _⟩ := giveR_rel H hld hFr h1 hnd'.1 (fun y hy => hu y (by simp [hy])) (x := (giveR w ρ h n v).1) (h' := (giveR w ρ h n v).2.1) (n' := (giveR w ρ h n v).2.2) rfl
    obtain ⟨μ3, own3, T2, hl, hxs⟩ := giveT_rel T1.inv (hld.ext H.pl T1.ext) hFr h2 hnd'.2.1 (T1.unhad hu hnd) (xs := (giveT w ρ (giveR w ρ h n v).2.1 (giveR w ρ h n v).2.2 l).1) (h' := h') (n' := n') (by rw [← e2, ← e3])
    refine ⟨μ3, own3, T1.trans T2, by simp [hl], fun j x hj => ?_⟩
    cases j with
    | zero =>
      simp at hj; subst hj
      exact ⟨c, rfl, hx.more (fun _ h => h) (fun _ h => h) (ext_of T1.inv T2.ext)⟩
    | succ j => simpa using hxs j x (by simpa using hj)
theorem give_rel {v x : AV} {c : Value} {o : List Nat} {h h' : Heap} {own : Nat → List Nat} {n n' : Nat} {μ : Place} (H : HInv W F Fr μ h own n) (hld : Leads ρ μ' μ) (hFr : ∀ x, Fr' x → (if w then Fr else F) x) (hr : RR W F' Fr' μ' v c o) (hnd : o.Nodup) (hu : Unhad W F h own o)
    (hg : give w ρ h n v = (x, h', n')) : ∃ μ2 own2, Took W F Fr μ h own n o h' n' μ2 own2 ∧ RV W F Fr μ2 x c := by
  by_cases ht : ∃ l, v = .tup l
  · obtain ⟨l, rfl⟩ := ht
    obtain ⟨vs, rfl, hr⟩ := hr
    simp only [give, Prod.mk.injEq] at hg
    obtain ⟨rfl, rfl, rfl⟩ := hg
    obtain ⟨μ2, own2, T, h1, h2⟩ := giveT_rel H hld hFr hr hnd hu rfl
    exact ⟨μ2, own2, T, vs, rfl, by simpa using h1, fun j x hj => by simpa using h2 j x hj⟩
  · have hr' : RRr W F' Fr' μ' v c o := by cases v <;> first | exact hr | exact absurd ⟨_, rfl⟩ ht
    have hg' : giveR w ρ h n v = (x, h', n') := by cases v <;> first | exact hg | exact absurd ⟨_, rfl⟩ ht
    obtain ⟨μ2, own2, T, h1, h2⟩ := giveR_rel H hld hFr hr' hnd hu hg'
    exact ⟨μ2, own2, T, by rw [RV.eq1 h2]; exact h1⟩
end
end Go.Am
