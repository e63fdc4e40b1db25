/- FnExactRulerLineCardSaid: proved for every input. No condition. -/
import Derived.Test.YtgnebimiogphgaaDoorRl3
import Derived.Test.YtgnebimiogphgaaDoorAm4
import Derived.Test.YtgnebimiogphgaaDoorRows
import Derived.Test.YtgnebimiogphgaaDoorCards
import Derived.Test.YtgnebimiogphgaaDoorTie
import Derived.Test.YtgnebimiogphgaaDoorShelf
import Derived.ProofKit
import Derived.LaidMore
import Derived.OpenShut
import Derived.Stop.Joined
import Derived.SevenTiedAt
import Derived.MakeChecks
namespace Go.Proofs.YtgnebimiogphgaaDoor.fnExactRulerLine
open Go Go.ChangeShapes Go.WideShapes Go.ChangeAt Go.RowKit Go.Am Go.Am.S
set_option linter.unusedVariables false
set_option linter.unusedSimpArgs false
set_option maxRecDepth 100000
theorem lit5 : slimF Tryd.prog annS (f5.2.map (·.1)) 5 = some f5 := by kernel_rfl
theorem lit7 : slimF Tryd.prog annS (f7.2.map (·.1)) 7 = some f7 := by kernel_rfl
theorem lit9 : slimF Tryd.prog annS (f9.2.map (·.1)) 9 = some f9 := by kernel_rfl
theorem lit15 : slimF Tryd.prog annS (f15.2.map (·.1)) 15 = some f15 := by kernel_rfl
theorem lit16 : slimF Tryd.prog annS (f16.2.map (·.1)) 16 = some f16 := by kernel_rfl
theorem lit17 : slimF Tryd.prog annS (f17.2.map (·.1)) 17 = some f17 := by kernel_rfl
theorem lit19 : slimF Tryd.prog annS (f19.2.map (·.1)) 19 = some f19 := by kernel_rfl
theorem lit23 : slimF Tryd.prog annS (f23.2.map (·.1)) 23 = some f23 := by kernel_rfl
theorem lit24 : slimF Tryd.prog annS (f24.2.map (·.1)) 24 = some f24 := by kernel_rfl
theorem lit25 : slimF Tryd.prog annS (f25.2.map (·.1)) 25 = some f25 := by kernel_rfl
theorem lit26 : slimF Tryd.prog annS (f26.2.map (·.1)) 26 = some f26 := by kernel_rfl
theorem lit27 : slimF Tryd.prog annS (f27.2.map (·.1)) 27 = some f27 := by kernel_rfl
theorem lit28 : slimF Tryd.prog annS (f28.2.map (·.1)) 28 = some f28 := by kernel_rfl
theorem lit31 : slimF Tryd.prog annS (f31.2.map (·.1)) 31 = some f31 := by kernel_rfl
theorem lit32 : slimF Tryd.prog annS (f32.2.map (·.1)) 32 = some f32 := by kernel_rfl
theorem lit33 : slimF Tryd.prog annS (f33.2.map (·.1)) 33 = some f33 := by kernel_rfl
theorem lit34 : slimF Tryd.prog annS (f34.2.map (·.1)) 34 = some f34 := by kernel_rfl
theorem lit35 : slimF Tryd.prog annS (f35.2.map (·.1)) 35 = some f35 := by kernel_rfl
theorem lit36 : slimF Tryd.prog annS (f36.2.map (·.1)) 36 = some f36 := by kernel_rfl
theorem lit39 : slimF Tryd.prog annS (f39.2.map (·.1)) 39 = some f39 := by kernel_rfl
theorem lit40 : slimF Tryd.prog annS (f40.2.map (·.1)) 40 = some f40 := by kernel_rfl
theorem lit41 : slimF Tryd.prog annS (f41.2.map (·.1)) 41 = some f41 := by kernel_rfl
theorem lit42 : slimF Tryd.prog annS (f42.2.map (·.1)) 42 = some f42 := by kernel_rfl
theorem lit43 : slimF Tryd.prog annS (f43.2.map (·.1)) 43 = some f43 := by kernel_rfl
theorem lit44 : slimF Tryd.prog annS (f44.2.map (·.1)) 44 = some f44 := by kernel_rfl
theorem lit45 : slimF Tryd.prog annS (f45.2.map (·.1)) 45 = some f45 := by kernel_rfl
theorem lit50 : slimF Tryd.prog annS (f50.2.map (·.1)) 50 = some f50 := by kernel_rfl
theorem funcs : FuncsOk Tryd.prog annS FF := by
  intro f fn ls h
  unfold FF at h
  split at h
  · obtain h := Option.some.inj h; exact ⟨_, h ▸ lit5⟩
  · obtain h := Option.some.inj h; exact ⟨_, h ▸ lit7⟩
  · obtain h := Option.some.inj h; exact ⟨_, h ▸ lit9⟩
  · obtain h := Option.some.inj h; exact ⟨_, h ▸ lit15⟩
  · obtain h := Option.some.inj h; exact ⟨_, h ▸ lit16⟩
  · obtain h := Option.some.inj h; exact ⟨_, h ▸ lit17⟩
  · obtain h := Option.some.inj h; exact ⟨_, h ▸ lit19⟩
  · obtain h := Option.some.inj h; exact ⟨_, h ▸ lit23⟩
  · obtain h := Option.some.inj h; exact ⟨_, h ▸ lit24⟩
  · obtain h := Option.some.inj h; exact ⟨_, h ▸ lit25⟩
  · obtain h := Option.some.inj h; exact ⟨_, h ▸ lit26⟩
  · obtain h := Option.some.inj h; exact ⟨_, h ▸ lit27⟩
  · obtain h := Option.some.inj h; exact ⟨_, h ▸ lit28⟩
  · obtain h := Option.some.inj h; exact ⟨_, h ▸ lit31⟩
  · obtain h := Option.some.inj h; exact ⟨_, h ▸ lit32⟩
  · obtain h := Option.some.inj h; exact ⟨_, h ▸ lit33⟩
  · obtain h := Option.some.inj h; exact ⟨_, h ▸ lit34⟩
  · obtain h := Option.some.inj h; exact ⟨_, h ▸ lit35⟩
  · obtain h := Option.some.inj h; exact ⟨_, h ▸ lit36⟩
  · obtain h := Option.some.inj h; exact ⟨_, h ▸ lit39⟩
  · obtain h := Option.some.inj h; exact ⟨_, h ▸ lit40⟩
  · obtain h := Option.some.inj h; exact ⟨_, h ▸ lit41⟩
  · obtain h := Option.some.inj h; exact ⟨_, h ▸ lit42⟩
  · obtain h := Option.some.inj h; exact ⟨_, h ▸ lit43⟩
  · obtain h := Option.some.inj h; exact ⟨_, h ▸ lit44⟩
  · obtain h := Option.some.inj h; exact ⟨_, h ▸ lit45⟩
  · obtain h := Option.some.inj h; exact ⟨_, h ▸ lit50⟩
  · cases h
theorem own : ownKnob Tryd.prog.godebug = none := by kernel_rfl
theorem laidOut : laidOutB Tryd.prog = true := by kernel_rfl
theorem gPow : Tryd.prog.globalNamed "internal/strconv.uint64pow10" = some 0 := by kernel_rfl
theorem oracle (B : Nat → Option Obj) (hB : ∀ W F, Based B W F → Lib.TabIs Tryd.prog W "internal/strconv.uint64pow10" .u64 Lib.pow10Tab) : OracleOk Tryd.prog B (lim EE FF) := by
  refine lim_sound (fun f g h => ?_) funcs (by kernel_rfl)
  unfold EE at h
  split at h
  · obtain rfl := Option.some.inj h
    exact itoa_ok (Am.enters_of Tryd.func29 rfl (by decide)) hB fun n h0 h1 w ht => Tryd.strconv_Itoa n h0 h1 w ht
  · obtain rfl := Option.some.inj h
    exact max_ok (Am.enters_of Tryd.func51 rfl (by decide)) fun b off n c zs w h1 h2 h3 h4 => Tryd.slices_Max_int b off n c zs w h1 h2 h3 h4
  · obtain rfl := Option.some.inj h
    exact min_ok (Am.enters_of Tryd.func52 rfl (by decide)) fun b off n c zs w h1 h2 h3 h4 => Tryd.slices_Min_int b off n c zs w h1 h2 h3 h4
  · cases h
abbrev laid : List (String × DataW Unit) := [("math/bits.deBruijn32tab", Rows.laid_math_bits_deBruijn32tab), ("math/bits.deBruijn64tab", Rows.laid_math_bits_deBruijn64tab), ("internal/strconv.uint64pow10", Rows.laid_internal_strconv_uint64pow10)]
theorem door_met (os : Os) (args : Array Value) : laidMetH Tryd.prog laid ((World.doorLaid Tryd.prog 2000 os).forCall (fun _ _ => 0) ⟨#[], args, []⟩).memory :=
  laidMetH_of_parts3 (fuel := 8) (laidMet_of_run' 8 (by kernel_rfl) (by kernel_rfl)) (by kernel_rfl) (by kernel_rfl)
theorem pow_data : (Rows.laid_internal_strconv_uint64pow10 : DataW Unit) = Lib.tabData .u64 Lib.pow10Tab := by kernel_rfl
theorem of_laid {W : World} (h : laidMetH Tryd.prog laid W) : Lib.TabIs Tryd.prog W "internal/strconv.uint64pow10" .u64 Lib.pow10Tab := by
  rw [MakeChecks.laidMetH_plain _ _ _ (by kernel_rfl)] at h
  obtain ⟨ps, ⟨g0, t0, cs0, f0, p0, q0, _, _, _, _, ⟨g1, t1, cs1, f1, p1, q1, _, _, _, _, ⟨g2, t2, cs2, f2, p2, q2, hg2, ht2, hv2, hd2, _, _⟩, _⟩, _⟩, _⟩ := h
  obtain rfl := Option.some.inj (gPow.symm.trans hg2)
  obtain rfl := Option.some.inj ((show (Tryd.prog.globals[0]?).map (·.type) = some 74 by kernel_rfl).symm.trans ht2)
  rw [pow_data] at hd2
  have := Lib.cells_of_tab (n := 20) (e := 66) (by kernel_rfl) (by kernel_rfl) (by kernel_rfl) (by kernel_rfl) hd2
  unfold Lib.TabIs
  rw [hv2, ← this]
theorem contract (H : Type) (enc : TypeId × Value → H) (W : World) (base : Nat) (args : Array Value) (ds gs : List (DataW H)) (before : List MemPlace)
    (hval : ∀ (j : Nat) t v, Tryd.f5.params[j]? = some t → args[j]? = some v → Value.okWide Tryd.prog W .any base t v)
    (hW : DataW.Whole enc Tryd.prog Tryd.f5.params.toList Rows.fnExactRulerLineSpec.vars false W args.toList ds gs before) (hL : laidMetH Tryd.prog laid W) :
    Calls Tryd.prog 5 args W fun e W' => ∃ v, e = .returned v ∧ Rows.fnExactRulerLineSpec.post enc Tryd.prog Tryd.f5 false true false false W args v W' := by
  have hW' := hW
  obtain ⟨p, q, hA0, hV, rfl, hfz, hnd⟩ := hW
  have hA : DataW.TrodAll enc Tryd.prog W 0 (fun _ => true) true Tryd.f5.params.toList args.toList ds p := hA0
  rw [Tryd.params5] at hA hval
  obtain ⟨v1, vs1, d1, ds1, p1, q1, hargs, rfl, rfl, h1, r1⟩ := trodAll_cons hA
  obtain ⟨rfl, rfl, rfl⟩ := trodAll_nil r1
  obtain rfl : args = #[v1] := by cases args; simp_all
  obtain ⟨rfl, rfl⟩ := trodVars_none hV
  obtain ⟨ad, len, cap, rfl⟩ := okWide_slice Tryd.underlying22 (hval 0 22 v1 rfl rfl)
  clear hA0
  simp only [List.append_nil] at hW'
  have hlt : ∀ x ∈ p1, x.block < W.heap.size := fun x hx => hW'.lt x (by simpa using hx)
  have hT := of_laid hL
  have hg : 0 < W.heap.size := by
    have := Lib.TabIs.cell hT gPow 0 (by decide)
    simp only [World.cell?] at this
    split at this
    · rename_i e; exact (Array.getElem?_eq_some_iff.1 e).1
    · cases this
  obtain ⟨zs, hrel, hwf⟩ := arg_nums Tryd.underlying22 Tryd.underlying3 (by kernel_rfl) h1 rfl
  have hO := oracle (fun x => if x = 0 then W.heap[0]? else none) (fun W2 F hB => by
    have hb := hB 0
    have e : W2.heap[0]? = W.heap[0]? := by
      rw [Array.getElem?_eq_getElem hg]
      exact (hb _ (by simp [hg])).2
    unfold Lib.TabIs World.var? at hT ⊢
    rw [gPow] at hT ⊢
    simp only [Option.bind_some] at hT ⊢
    rw [e]; exact hT)
  refine (calls_law hO (law_ruler zs (fun x hx => by
      have := hwf x hx
      simpa [Lit.wf, IntKind.min, IntKind.max, IntKind.signed, IntKind.bits] using this)) (W := W) (F := fun b => b = 0 ∨ ∃ x ∈ p1, x.block = b) (fun x o e => by
      by_cases hx : x = 0
      · subst hx; exact ⟨.inl rfl, by simpa using e⟩
      · simp [hx] at e) (fun b hb => hb.elim (fun e => e ▸ hg) fun ⟨x, hx, e⟩ => e ▸ hlt x hx) (args := #[.slice ad len cap])
    (.cons (hrel _ fun x hx => .inr ⟨x, hx, rfl⟩) .nil)).mono fun e W' ⟨he, hs⟩ => ?_
  subst he
  exact ⟨_, rfl, post_of_step (pa := p1 ++ []) (pv := []) hW' (fun _ _ _ => (trodAll_cons_mk (shut_bool Tryd.underlying4 _) trodAll_mk0)) (fun sp hsp => trodAll_cons_mk (WideElems.Trod_stays laidOut (by kernel_rfl) (of_decide_eq_true (by kernel_rfl)) h1 (fun x hx => (stepBelow hs).same (hlt x hx)) (fun x hx => hsp x (by simpa using hx))) trodAll_mk0) (fun _ _ => rfl) (by simp) hs (ok_one (by kernel_rfl) rfl (okWide_bool_mk Tryd.underlying4 _))⟩
theorem lifted (os : Os) (started : os.Started) (H : Type) (enc : TypeId × Value → H) :
    ReturnsInHanded {} Tryd.checked os 5 .any (fun w args => (Rows.fnExactRulerLineSpec.pre enc Tryd.prog Tryd.f5 [] false w args ∧ laidMetH Tryd.prog laid w) ∧ sizedMet enc Tryd.prog Tryd.f5 (OpenSpec.ofChange Rows.fnExactRulerLineSpec) false w args)
      (Rows.fnExactRulerLineSpec.post enc Tryd.prog Tryd.f5 false true false false) := by
  refine returnsInHanded_of_change_and (C := Tryd.checked) (X := fun w _ => laidMetH Tryd.prog laid w) (fun _ _ _ hh h => h.of_heap hh) own started (by kernel_rfl) Tryd.func5
    (ChangeSpec.witness_shaped (enc := enc) (C := Tryd.checked) (os := os) (X := fun w _ => laidMetH Tryd.prog laid w) false (World.doorLaid Tryd.prog 2000 os) #[.slice none 0 0] 8 rfl (World.shaped_of_RefB (by kernel_rfl) (by kernel_rfl)) (by kernel_rfl) (by kernel_rfl) (by kernel_rfl) (door_met os _)) ?_
  intro W base args ds gs before hval hW _ _ hL _
  exact contract H enc W base args ds gs before hval hW hL
theorem holds : Rows.FnExactRulerLineSaid :=
  OpenClaim.holds_of_wide 5 Tryd.f5 rfl rfl rfl rfl rfl rfl rfl ⟨rfl, rfl, rfl, rfl, rfl⟩ rfl rfl rfl rfl rfl (by kernel_rfl) Tryd.func5 (by kernel_rfl)
    (of_decide_eq_true (by kernel_rfl)) (by unfold Func.isWrapper; first | (rw [if_pos (by decide +kernel)]; kernel_rfl) | (rw [if_neg (by decide +kernel)]; exact ⟨rfl, rfl⟩))
    (fun os started H enc _ => lifted os started H enc)
theorem card_holds : Rows.FnExactRulerLineCardSaid :=
  Claim7.holds_tied_plain_at .later [] [.data, .data, .data] true Rows.fnExactRulerLineCard.stood.harness false
    holds (fun _ h => by cases h) (by kernel_rfl) (fun _ h => by cases h) fnExactRulerLine_row_tie rfl ⟨rfl, rfl⟩ (by kernel_rfl) rfl
    (fun f fn hf hfn => by
      obtain rfl : f = 5 := Option.some.inj ((show Tryd.prog.funcNamed "loop.example/g03208/laws.FnExactRulerLine" = some 5 by kernel_rfl).symm.trans hf) |>.symm
      obtain rfl : fn = Tryd.f5 := (Option.some.inj (Tryd.func5.symm.trans hfn)).symm
      exact ⟨by kernel_rfl, fun j t ht => by
        rw [Tryd.params5] at ht
        have hm : t ∈ [22] := by simpa using Array.mem_of_getElem? ht
        have hall : ([22].all fun u => !Tryd.prog.wantsStandIn u) = true := by kernel_rfl
        exact (show Tryd.prog.wantsStandIn t = false by simpa using List.all_eq_true.1 hall t hm)⟩)
    (by kernel_rfl)
#print axioms card_holds
end Go.Proofs.YtgnebimiogphgaaDoor.fnExactRulerLine
