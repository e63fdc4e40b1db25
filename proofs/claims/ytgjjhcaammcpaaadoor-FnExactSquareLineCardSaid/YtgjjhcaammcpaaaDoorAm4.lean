/- THE ABSTRACT MACHINE (AM): from a call of it to a given row. No condition. -/
import Derived.Test.YtgjjhcaammcpaaaDoorAm3
import Derived.ProofKit
import Derived.Carry
import Derived.OpenShut
namespace Go.Am
open Go.ChangeShapes Go.WideShapes Go.RowKit
set_option linter.unusedSimpArgs false
set_option linter.unusedVariables false
section
variable {H : Type} {enc : TypeId × Value → H} {P : Program}
theorem wholeLt {ts : List TypeId} {vars : List String} {apart : Bool} {W : World} {vs : List Value} {ds gs : List (DataW H)} {ps : List MemPlace} (hW : DataW.Whole enc P ts vars apart W vs ds gs ps) : ∀ p ∈ ps, p.block < W.heap.size := fun p hp => hW.lt p hp
/-- What a reading asks behind a call that left all old blocks as they were. -/
theorem post_of_step {f : Func} {s : ChangeSpec} {apart fresh handsOn again : Bool} {W W' : World} {args : Array Value} {v : Value} {ds gs : List (DataW H)} {before pa pv : List MemPlace}
    (hW : DataW.Whole enc P f.params.toList s.vars apart W args.toList ds gs before)
    (hres : ∀ (b : Nat) (sp : Nat → Bool) (hd : Bool), DataW.TrodAll enc P W' b sp hd f.resultTypes.toList (v.resultList f.resultTypes.size) (s.fn H (ds ++ gs)).results [])
    (hargs : ∀ sp : Nat → Bool, (∀ p ∈ before, sp p.block = true) → DataW.TrodAll enc P W' 0 sp true f.params.toList args.toList (s.fn H (ds ++ gs)).args pa)
    (hvars : ∀ sp : Nat → Bool, (∀ p ∈ before, sp p.block = true) → DataW.TrodVars enc P W' sp s.vars (s.fn H (ds ++ gs)).vars pv)
    (hps : before = pa ++ pv) (hs : Step [] (fun _ => []) W W')
    (hok : ∀ (j : Nat) (t : TypeId) (r : Value), f.resultTypes[j]? = some t → (v.resultList f.resultTypes.size)[j]? = some r → Value.okWide P W' .any 0 t r) :
    s.post enc P f apart fresh handsOn again W args v W' := by
  have hsame : ∀ x, x < W.heap.size → Same W W' x := fun x hx => hs.same x hx fun ⟨id, b, hf, _⟩ => by simp [find] at hf
  have hold : ∀ p ∈ before, (fun b => decide (b < W.heap.size)) p.block = true := fun p hp => by simpa using hW.lt p hp
  have hk : W.keptBut W' (fun _ => False) := by
    refine ⟨hs.os, hs.output, fun i hi => ?_⟩
    have := hsame i hi
    unfold Same at this
    rw [this]
    cases hq : W.heap[i]? with
    | none => rfl
    | some o => cases o <;> simp
  refine ⟨ds, gs, before, [], pa, pv, hW, hres _ _ _, hargs _ hold, hvars _ hold, World.keptBut_mono (fun _ h => h.elim) hk, fun _ => ?_⟩
  obtain ⟨_, _, _, _, _, hz, hn⟩ := id hW
  refine ⟨hok, _, _, ([] ++ pa) ++ pv, ⟨[] ++ pa, pv, trodAll_append (hargs _ (fun _ _ => rfl)) (hres _ _ _), hvars _ (fun _ _ => rfl), rfl, ?_, ?_⟩, ?_⟩
  · intro b off hp
    have hp' : MemPlace.cell b off ∈ before := by rw [hps]; simpa using hp
    have hlt := hW.lt _ hp'
    rw [(hsame b hlt).frozen off]
    exact hz b off hp'
  · intro ha
    have := hn ha
    rw [hps] at this
    simpa using this
  · intro p hp _
    rw [hps]
    simpa using hp
theorem rl_nums {W : World} {F Fr : Nat → Prop} {μ : Place} {k : IntKind} : ∀ (l : List Int), RL W F Fr μ (l.map fun n => AV.i k n) (l.map fun n => Value.int k n) []
  | [] => .nil
  | x :: l => .i (rl_nums l)
/-- A slice of whole numbers that came in. -/
theorem arg_nums {W : World} {t e : TypeId} {k : IntKind} (ht : P.underlying t = some (.slice e)) (he : P.underlying e = some (.int k)) (hc : P.cellsOf e = 1) {v : Value} {d : DataW H} {ps : List MemPlace}
    (h : DataW.Trod enc P W 0 (fun _ => true) true t v d ps) (hv : v.cells = #[v]) :
    ∃ zs : List Int, (∀ F : Nat → Prop, (∀ x ∈ ps, F x.block) → RV W F F noPlace (.sl 1 true (zs.map fun n => AV.i k n)) v) ∧ (∀ n ∈ zs, (Lit.int k n).wf = true) := by
  obtain ⟨fuel, hf⟩ := h
  rw [hv] at hf
  rcases open_ints ht he hc hf with ⟨e1, _⟩ | ⟨a, len, cap, zs, e1, _, hl, _, hz, e2, hcell, hw⟩
  · obtain rfl : v = .slice none 0 0 := by simpa using e1
    exact ⟨[], fun F _ => RV1.rv (show RL W F F noPlace [_] [_] [] from .sl0 1 true none 0 .nil), by simp⟩
  · obtain rfl : v = .slice (some a) len cap := by simpa using e1
    simp only [if_true] at hz
    by_cases h0 : len = 0
    · subst h0
      exact ⟨[], fun F _ => RV1.rv (show RL W F F noPlace [_] [_] [] from .sl0 1 true _ _ .nil), by simp⟩
    · have hc0 := hcell 0 (by omega)
      have hspot : a.spot = none := by simpa [Addr.add] using World.cell?_spot hc0
      have hpath : a = ⟨a.block, a.off, none⟩ := by rw [← hspot]
      have hadd : ∀ i, a.add i = ⟨a.block, a.off + i, none⟩ := fun i => by
        unfold Addr.add
        by_cases hi : i = 0
        · subst hi; rw [if_pos rfl]; exact hpath
        · rw [if_neg hi]
      refine ⟨zs.take len, fun F hF => RV1.rv ?_, fun n hn => hw n (List.mem_of_mem_take hn)⟩
      have hpl : MemPlace.cell a.block (a.off + 0) ∈ ps := by
        rw [show ps = MemPlace.row a zs.length from congrArg Prod.snd e2]
        unfold MemPlace.row
        exact List.mem_map.2 ⟨0, by simp; omega, rfl⟩
      have hFb : F a.block := hF _ hpl
      have hlen : (zs.take len).length = len := by rw [List.length_take]; omega
      have key : RL W F F noPlace [AV.sl 1 true ((zs.take len).map fun n => AV.i k n)] [Value.slice (some ⟨a.block, a.off, none⟩) ((zs.take len).map fun n => AV.i k n).length cap] [] := by
        refine .sl1 1 true _ a.block a.off cap F ((zs.take len).map fun n => Value.int k n) [] (by simp; omega) rfl (by simp; omega) (uni_of fun v hv => ?_) hFb (by simp) ?_ (rl_nums _) .nil
        · obtain ⟨n, _, rfl⟩ := List.mem_map.1 hv; rfl
        · intro i v hi
          rw [List.getElem?_map, Option.map_eq_some_iff] at hi
          obtain ⟨n, hn, rfl⟩ := hi
          have hi' := (List.getElem?_eq_some_iff.1 hn).1
          rw [hlen] at hi'
          have := hcell i (by omega)
          rw [List.getElem?_take, if_pos hi'] at hn
          rw [List.getD_eq_getElem?_getD, hn, hadd] at this
          exact this
      rw [List.length_map, hlen] at key
      rw [hpath]
      exact key
/-- A call of the machine that left the old blocks as they were. -/
theorem stepBelow {W W' : World} (hs : Step [] (fun _ => []) W W') : Below W.heap.size W W' :=
  ⟨hs.os, hs.tape, hs.output, hs.size, fun k hk => hs.same k hk fun ⟨id, b, hf, _⟩ => by simp [find] at hf⟩
/-- A call of a law that comes to 'true'. -/
theorem calls_law {B : Nat → Option Obj} {C : Oracle} (HC : OracleOk P B C) {f : FuncId} {avs : List AV} (hr : C f avs [] = some (.b true, [])) {W : World} {F : Nat → Prop} (hB : Based B W F) (hF : ∀ x, F x → x < W.heap.size) {args : Array Value} (ha : All2 (RV W F F noPlace) avs args.toList) :
    Calls P f args W fun e W' => e = .returned (.bool true) ∧ Step [] (fun _ => []) W W' := by
  have hH : HInv W F F noPlace [] (fun _ => []) 0 :=
    ⟨fun id b h => by simp [find] at h, fun id b h => by simp [find] at h, fun id id' b b' h => by simp [find] at h, fun id b h => by simp [find] at h, fun id b h => by simp [find] at h, fun id p L h => by simp [noPlace] at h, fun _ h => h, hF⟩
  refine ((HC f avs [] _ _ hr).2 W F F noPlace (fun _ => []) args hB hH ha).mono ?_
  rintro e W' ⟨cv, rfl, R⟩
  obtain ⟨μ', own', o, _, _, hrr, _⟩ := R.ex
  have : cv = .bool true := by
    change RRs W' F F μ' [.b true] [cv] o at hrr
    cases hrr with
    | val _ _ _ hv _ => cases hv with
      | b _ => rfl
  exact ⟨by rw [this], R.step⟩
end
end Go.Am
