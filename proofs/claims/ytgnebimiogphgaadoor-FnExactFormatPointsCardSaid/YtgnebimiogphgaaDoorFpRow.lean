/- FnExactFormatPointsCardSaid: proved for every input. No condition. -/
import Derived.Test.YtgnebimiogphgaaDoorFp1
import Derived.Test.YtgnebimiogphgaaDoorAm6
import Derived.Test.YtgnebimiogphgaaDoorRows
import Derived.Test.YtgnebimiogphgaaDoorCards
import Derived.Test.YtgnebimiogphgaaDoorTie
import Derived.Test.YtgnebimiogphgaaDoorShelf
import Derived.ProofKit
import Derived.LaidMore
import Derived.OpenShut
import Derived.Stop.Joined
import Derived.SevenTiedAt
import Derived.MakeChecks
namespace Go.Proofs.YtgnebimiogphgaaDoor.fnExactFormatPoints
open Go Go.ChangeShapes Go.WideShapes Go.ChangeAt Go.RowKit Go.Am Go.Am.S
set_option linter.unusedVariables false
set_option linter.unusedSimpArgs false
set_option maxRecDepth 100000
theorem lit4 : slimF Tryd.prog annS (f4.2.map (·.1)) 4 = some f4 := by kernel_rfl
theorem lit10 : slimF Tryd.prog annS (f10.2.map (·.1)) 10 = some f10 := by kernel_rfl
theorem lit11 : slimF Tryd.prog annS (f11.2.map (·.1)) 11 = some f11 := by kernel_rfl
theorem lit12 : slimF Tryd.prog annS (f12.2.map (·.1)) 12 = some f12 := by kernel_rfl
theorem lit13 : slimF Tryd.prog annS (f13.2.map (·.1)) 13 = some f13 := by kernel_rfl
theorem lit14 : slimF Tryd.prog annS (f14.2.map (·.1)) 14 = some f14 := by kernel_rfl
theorem lit17 : slimF Tryd.prog annS (f17.2.map (·.1)) 17 = some f17 := by kernel_rfl
theorem lit18 : slimF Tryd.prog annS (f18.2.map (·.1)) 18 = some f18 := by kernel_rfl
theorem lit19 : slimF Tryd.prog annS (f19.2.map (·.1)) 19 = some f19 := by kernel_rfl
theorem lit20 : slimF Tryd.prog annS (f20.2.map (·.1)) 20 = some f20 := by kernel_rfl
theorem lit21 : slimF Tryd.prog annS (f21.2.map (·.1)) 21 = some f21 := by kernel_rfl
theorem lit22 : slimF Tryd.prog annS (f22.2.map (·.1)) 22 = some f22 := by kernel_rfl
theorem lit30 : slimF Tryd.prog annS (f30.2.map (·.1)) 30 = some f30 := by kernel_rfl
theorem funcs : FuncsOk Tryd.prog annS FF := by
  intro f fn ls h
  unfold FF at h
  split at h
  · obtain h := Option.some.inj h; exact ⟨_, h ▸ lit4⟩
  · obtain h := Option.some.inj h; exact ⟨_, h ▸ lit10⟩
  · obtain h := Option.some.inj h; exact ⟨_, h ▸ lit11⟩
  · obtain h := Option.some.inj h; exact ⟨_, h ▸ lit12⟩
  · obtain h := Option.some.inj h; exact ⟨_, h ▸ lit13⟩
  · obtain h := Option.some.inj h; exact ⟨_, h ▸ lit14⟩
  · obtain h := Option.some.inj h; exact ⟨_, h ▸ lit17⟩
  · obtain h := Option.some.inj h; exact ⟨_, h ▸ lit18⟩
  · obtain h := Option.some.inj h; exact ⟨_, h ▸ lit19⟩
  · obtain h := Option.some.inj h; exact ⟨_, h ▸ lit20⟩
  · obtain h := Option.some.inj h; exact ⟨_, h ▸ lit21⟩
  · obtain h := Option.some.inj h; exact ⟨_, h ▸ lit22⟩
  · obtain h := Option.some.inj h; exact ⟨_, h ▸ lit30⟩
  · cases h
theorem own : ownKnob Tryd.prog.godebug = none := by kernel_rfl
theorem laidOut : laidOutB Tryd.prog = true := by kernel_rfl
theorem gPow : Tryd.prog.globalNamed "internal/strconv.uint64pow10" = some 0 := by kernel_rfl
theorem oracle (B : Nat → Option Obj) (hB : ∀ W F, Based B W F → Lib.TabIs Tryd.prog W "internal/strconv.uint64pow10" .u64 Lib.pow10Tab) : OracleOk Tryd.prog B (lim EE FF) := by
  refine lim_sound (fun f g h => ?_) funcs (by kernel_rfl)
  unfold EE at h
  split at h
  · obtain rfl := Option.some.inj h
    exact itoa_ok (Am.enters_of Tryd.func29 rfl (by decide)) hB fun n h0 h1 w ht => Tryd.strconv_Itoa n h0 h1 w ht
  · obtain rfl := Option.some.inj h
    exact join_ok (Am.enters_of Tryd.func38 rfl (by decide)) (fun a c sep w => Tryd.strings_Join_none a c sep w) (fun bk o c xs sep w h1 h2 h3 h4 h5 => Tryd.strings_Join bk o c xs sep w h1 h2 h3 h4 h5)
  · cases h
abbrev laid : List (String × DataW Unit) := [("math/bits.deBruijn32tab", Rows.laid_math_bits_deBruijn32tab), ("math/bits.deBruijn64tab", Rows.laid_math_bits_deBruijn64tab), ("internal/strconv.uint64pow10", Rows.laid_internal_strconv_uint64pow10)]
theorem door_met (os : Os) (args : Array Value) : laidMetH Tryd.prog laid ((World.doorLaid Tryd.prog 2000 os).forCall (fun _ _ => 0) ⟨#[], args, []⟩).memory :=
  laidMetH_of_parts3 (fuel := 8) (laidMet_of_run' 8 (by kernel_rfl) (by kernel_rfl)) (by kernel_rfl) (by kernel_rfl)
theorem pow_data : (Rows.laid_internal_strconv_uint64pow10 : DataW Unit) = Lib.tabData .u64 Lib.pow10Tab := by kernel_rfl
theorem of_laid {W : World} (h : laidMetH Tryd.prog laid W) : Lib.TabIs Tryd.prog W "internal/strconv.uint64pow10" .u64 Lib.pow10Tab := by
  rw [MakeChecks.laidMetH_plain _ _ _ (by kernel_rfl)] at h
  obtain ⟨ps, ⟨g0, t0, cs0, f0, p0, q0, _, _, _, _, ⟨g1, t1, cs1, f1, p1, q1, _, _, _, _, ⟨g2, t2, cs2, f2, p2, q2, hg2, ht2, hv2, hd2, _, _⟩, _⟩, _⟩, _⟩ := h
  obtain rfl := Option.some.inj (gPow.symm.trans hg2)
  obtain rfl := Option.some.inj ((show (Tryd.prog.globals[0]?).map (·.type) = some 74 by kernel_rfl).symm.trans ht2)
  rw [pow_data] at hd2
  have := Lib.cells_of_tab (n := 20) (e := 66) (by kernel_rfl) (by kernel_rfl) (by kernel_rfl) (by kernel_rfl) hd2
  unfold Lib.TabIs
  rw [hv2, ← this]
theorem pts_of : ∀ {rows : List AV}, (∀ r ∈ rows, ∃ a b : Int, r = .agg [I a, I b] ∧ (Lit.int .i64 a).wf = true ∧ (Lit.int .i64 b).wf = true) → ∃ zs : List (Int × Int), rows = pts zs ∧ ∀ x ∈ zs, okP x
  | [], _ => ⟨[], rfl, by simp⟩
  | r :: rows, h => by
    obtain ⟨a, b, rfl, wa, wb⟩ := h r (by simp)
    obtain ⟨zs, rfl, hz⟩ := pts_of (rows := rows) fun r hr => h r (by simp [hr])
    refine ⟨(a, b) :: zs, rfl, fun x hx => ?_⟩
    rcases List.mem_cons.1 hx with rfl | hx
    · simp only [Lit.wf, IntKind.min, IntKind.max, IntKind.signed, IntKind.bits] at wa wb
      unfold okP
      simp at wa wb
      omega
    · exact hz x hx
theorem contract (H : Type) (enc : TypeId × Value → H) (W : World) (base : Nat) (args : Array Value) (ds gs : List (DataW H)) (before : List MemPlace)
    (hval : ∀ (j : Nat) t v, Tryd.f4.params[j]? = some t → args[j]? = some v → Value.okWide Tryd.prog W .any base t v)
    (hW : DataW.Whole enc Tryd.prog Tryd.f4.params.toList Rows.fnExactFormatPointsSpec.vars false W args.toList ds gs before) (hL : laidMetH Tryd.prog laid W) :
    Calls Tryd.prog 4 args W fun e W' => ∃ v, e = .returned v ∧ Rows.fnExactFormatPointsSpec.post enc Tryd.prog Tryd.f4 false true false false W args v W' := by
  have hW' := hW
  obtain ⟨p, q, hA0, hV, rfl, hfz, hnd⟩ := hW
  have hA : DataW.TrodAll enc Tryd.prog W 0 (fun _ => true) true Tryd.f4.params.toList args.toList ds p := hA0
  rw [Tryd.params4] at hA hval
  obtain ⟨v1, vs1, d1, ds1, p1, q1, hargs, rfl, rfl, h1, r1⟩ := trodAll_cons hA
  obtain ⟨rfl, rfl, rfl⟩ := trodAll_nil r1
  obtain rfl : args = #[v1] := by cases args; simp_all
  obtain ⟨rfl, rfl⟩ := trodVars_none hV
  obtain ⟨ad, len, cap, rfl⟩ := okWide_slice Tryd.underlying27 (hval 0 27 v1 rfl rfl)
  clear hA0
  simp only [List.append_nil] at hW'
  have hlt : ∀ x ∈ p1, x.block < W.heap.size := fun x hx => hW'.lt x (by simpa using hx)
  have hT := of_laid hL
  have hg : 0 < W.heap.size := by
    have := Lib.TabIs.cell hT gPow 0 (by decide)
    simp only [World.cell?] at this
    split at this
    · rename_i e; exact (Array.getElem?_eq_some_iff.1 e).1
    · cases this
  obtain ⟨rows, hrel, hgood, hmax⟩ := arg_rows (sz := 2) Tryd.underlying27 (by kernel_rfl) (by omega) (pt_of (i := 3) Tryd.underlying40 rfl rfl Tryd.underlying3 rfl rfl (by kernel_rfl) (by kernel_rfl)) h1 rfl
  obtain ⟨zs, rfl, hwf⟩ := pts_of hgood
  have hO := oracle (fun x => if x = 0 then W.heap[0]? else none) (fun W2 F hB => by
    have hb := hB 0
    have e : W2.heap[0]? = W.heap[0]? := by
      rw [Array.getElem?_eq_getElem hg]
      exact (hb _ (by simp [hg])).2
    unfold Lib.TabIs World.var? at hT ⊢
    rw [gPow] at hT ⊢
    simp only [Option.bind_some] at hT ⊢
    rw [e]; exact hT)
  refine (calls_law hO (law_fmtPts zs (by simpa [pts] using hmax) hwf) (W := W) (F := fun b => b = 0 ∨ ∃ x ∈ p1, x.block = b) (fun x o e => by
      by_cases hx : x = 0
      · subst hx; exact ⟨.inl rfl, by simpa using e⟩
      · simp [hx] at e) (fun b hb => hb.elim (fun e => e ▸ hg) fun ⟨x, hx, e⟩ => e ▸ hlt x hx) (args := #[.slice ad len cap])
    (.cons (hrel _ fun x hx => .inr ⟨x, hx, rfl⟩) .nil)).mono fun e W' ⟨he, hs⟩ => ?_
  subst he
  exact ⟨_, rfl, post_of_step (pa := p1 ++ []) (pv := []) hW' (fun _ _ _ => (trodAll_cons_mk (shut_bool Tryd.underlying4 _) trodAll_mk0)) (fun sp hsp => trodAll_cons_mk (WideElems.Trod_stays laidOut (by kernel_rfl) (of_decide_eq_true (by kernel_rfl)) h1 (fun x hx => (stepBelow hs).same (hlt x hx)) (fun x hx => hsp x (by simpa using hx))) trodAll_mk0) (fun _ _ => rfl) (by simp) hs (ok_one (by kernel_rfl) rfl (okWide_bool_mk Tryd.underlying4 _))⟩
theorem lifted (os : Os) (started : os.Started) (H : Type) (enc : TypeId × Value → H) :
    ReturnsInHanded {} Tryd.checked os 4 .any (fun w args => (Rows.fnExactFormatPointsSpec.pre enc Tryd.prog Tryd.f4 [] false w args ∧ laidMetH Tryd.prog laid w) ∧ sizedMet enc Tryd.prog Tryd.f4 (OpenSpec.ofChange Rows.fnExactFormatPointsSpec) false w args)
      (Rows.fnExactFormatPointsSpec.post enc Tryd.prog Tryd.f4 false true false false) := by
  refine returnsInHanded_of_change_and (C := Tryd.checked) (X := fun w _ => laidMetH Tryd.prog laid w) (fun _ _ _ hh h => h.of_heap hh) own started (by kernel_rfl) Tryd.func4
    (ChangeSpec.witness_shaped (enc := enc) (C := Tryd.checked) (os := os) (X := fun w _ => laidMetH Tryd.prog laid w) false (World.doorLaid Tryd.prog 2000 os) #[.slice none 0 0] 8 rfl (World.shaped_of_RefB (by kernel_rfl) (by kernel_rfl)) (by kernel_rfl) (by kernel_rfl) (by kernel_rfl) (door_met os _)) ?_
  intro W base args ds gs before hval hW _ _ hL _
  exact contract H enc W base args ds gs before hval hW hL
theorem holds : Rows.FnExactFormatPointsSaid :=
  OpenClaim.holds_of_wide 4 Tryd.f4 rfl rfl rfl rfl rfl rfl rfl ⟨rfl, rfl, rfl, rfl, rfl⟩ rfl rfl rfl rfl rfl (by kernel_rfl) Tryd.func4 (by kernel_rfl)
    (of_decide_eq_true (by kernel_rfl)) (by unfold Func.isWrapper; first | (rw [if_pos (by decide +kernel)]; kernel_rfl) | (rw [if_neg (by decide +kernel)]; exact ⟨rfl, rfl⟩))
    (fun os started H enc _ => lifted os started H enc)
theorem card_holds : Rows.FnExactFormatPointsCardSaid :=
  Claim7.holds_tied_plain_at .later [] [.data, .data, .data] true Rows.fnExactFormatPointsCard.stood.harness false
    holds (fun _ h => by cases h) (by kernel_rfl) (fun _ h => by cases h) fnExactFormatPoints_row_tie rfl ⟨rfl, rfl⟩ (by kernel_rfl) rfl
    (fun f fn hf hfn => by
      obtain rfl : f = 4 := Option.some.inj ((show Tryd.prog.funcNamed "loop.example/g03208/laws.FnExactFormatPoints" = some 4 by kernel_rfl).symm.trans hf) |>.symm
      obtain rfl : fn = Tryd.f4 := (Option.some.inj (Tryd.func4.symm.trans hfn)).symm
      exact ⟨by kernel_rfl, fun j t ht => by
        rw [Tryd.params4] at ht
        have hm : t ∈ [27] := by simpa using Array.mem_of_getElem? ht
        have hall : ([27].all fun u => !Tryd.prog.wantsStandIn u) = true := by kernel_rfl
        exact (show Tryd.prog.wantsStandIn t = false by simpa using List.all_eq_true.1 hall t hm)⟩)
    (by kernel_rfl)
#print axioms card_holds
end Go.Proofs.YtgnebimiogphgaaDoor.fnExactFormatPoints
