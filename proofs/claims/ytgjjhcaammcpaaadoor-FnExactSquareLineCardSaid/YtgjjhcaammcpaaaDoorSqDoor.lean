/- A law of a seat with a door: from the machine's answer to the given card. No condition. -/
import Derived.Test.YtgjjhcaammcpaaaDoorSq4
import Derived.Test.YtgjjhcaammcpaaaDoorAm4
import Derived.Test.YtgjjhcaammcpaaaDoorRows
import Derived.Test.YtgjjhcaammcpaaaDoorCards
import Derived.Test.YtgjjhcaammcpaaaDoorTie
import Derived.Test.YtgjjhcaammcpaaaDoorShelf
import Derived.ProofKit
import Derived.LaidMore
import Derived.OpenShut
import Derived.Stop.Joined
import Derived.SevenTiedAt
import Derived.MakeChecks
namespace Go.Proofs.YtgjjhcaammcpaaaDoor.fnExactSquareLine
open Go Go.ChangeShapes Go.WideShapes Go.ChangeAt Go.RowKit Go.Am Go.Am.S
set_option linter.unusedVariables false
set_option linter.unusedSimpArgs false
set_option maxRecDepth 100000
theorem lit4 : slimF Tryd.prog annS (f4.2.map (·.1)) 4 = some f4 := by kernel_rfl
theorem lit17 : slimF Tryd.prog annS (f17.2.map (·.1)) 17 = some f17 := by kernel_rfl
theorem lit18 : slimF Tryd.prog annS (f18.2.map (·.1)) 18 = some f18 := by kernel_rfl
theorem lit44 : slimF Tryd.prog annS (f44.2.map (·.1)) 44 = some f44 := by kernel_rfl
theorem lit47 : slimF Tryd.prog annS (f47.2.map (·.1)) 47 = some f47 := by kernel_rfl
theorem lit49 : slimF Tryd.prog annS (f49.2.map (·.1)) 49 = some f49 := by kernel_rfl
theorem lit50 : slimF Tryd.prog annS (f50.2.map (·.1)) 50 = some f50 := by kernel_rfl
theorem lit51 : slimF Tryd.prog annS (f51.2.map (·.1)) 51 = some f51 := by kernel_rfl
theorem lit52 : slimF Tryd.prog annS (f52.2.map (·.1)) 52 = some f52 := by kernel_rfl
theorem lit53 : slimF Tryd.prog annS (f53.2.map (·.1)) 53 = some f53 := by kernel_rfl
theorem lit54 : slimF Tryd.prog annS (f54.2.map (·.1)) 54 = some f54 := by kernel_rfl
theorem lit81 : slimF Tryd.prog annS (f81.2.map (·.1)) 81 = some f81 := by kernel_rfl
theorem lit85 : slimF Tryd.prog annS (f85.2.map (·.1)) 85 = some f85 := by kernel_rfl
theorem lit100 : slimF Tryd.prog annS (f100.2.map (·.1)) 100 = some f100 := by kernel_rfl
theorem lit101 : slimF Tryd.prog annS (f101.2.map (·.1)) 101 = some f101 := by kernel_rfl
theorem lit102 : slimF Tryd.prog annS (f102.2.map (·.1)) 102 = some f102 := by kernel_rfl
theorem lit103 : slimF Tryd.prog annS (f103.2.map (·.1)) 103 = some f103 := by kernel_rfl
theorem lit104 : slimF Tryd.prog annS (f104.2.map (·.1)) 104 = some f104 := by kernel_rfl
theorem funcs : FuncsOk Tryd.prog annS FF := by
  intro f fn ls h
  unfold FF at h
  split at h
  · obtain h := Option.some.inj h; exact ⟨_, h ▸ lit4⟩
  · obtain h := Option.some.inj h; exact ⟨_, h ▸ lit17⟩
  · obtain h := Option.some.inj h; exact ⟨_, h ▸ lit18⟩
  · obtain h := Option.some.inj h; exact ⟨_, h ▸ lit44⟩
  · obtain h := Option.some.inj h; exact ⟨_, h ▸ lit47⟩
  · obtain h := Option.some.inj h; exact ⟨_, h ▸ lit49⟩
  · obtain h := Option.some.inj h; exact ⟨_, h ▸ lit50⟩
  · obtain h := Option.some.inj h; exact ⟨_, h ▸ lit51⟩
  · obtain h := Option.some.inj h; exact ⟨_, h ▸ lit52⟩
  · obtain h := Option.some.inj h; exact ⟨_, h ▸ lit53⟩
  · obtain h := Option.some.inj h; exact ⟨_, h ▸ lit54⟩
  · obtain h := Option.some.inj h; exact ⟨_, h ▸ lit81⟩
  · obtain h := Option.some.inj h; exact ⟨_, h ▸ lit85⟩
  · obtain h := Option.some.inj h; exact ⟨_, h ▸ lit100⟩
  · obtain h := Option.some.inj h; exact ⟨_, h ▸ lit101⟩
  · obtain h := Option.some.inj h; exact ⟨_, h ▸ lit102⟩
  · obtain h := Option.some.inj h; exact ⟨_, h ▸ lit103⟩
  · obtain h := Option.some.inj h; exact ⟨_, h ▸ lit104⟩
  · cases h
theorem own : ownKnob Tryd.prog.godebug = none := by kernel_rfl
theorem laidOut : laidOutB Tryd.prog = true := by kernel_rfl
theorem gPow : Tryd.prog.globalNamed "internal/strconv.uint64pow10" = some 3 := by kernel_rfl
theorem oracle (B : Nat → Option Obj) (hB : ∀ W F, Based B W F → Lib.TabIs Tryd.prog W "internal/strconv.uint64pow10" .u64 Lib.pow10Tab) : OracleOk Tryd.prog B (lim EE FF) := by
  refine lim_sound (fun f g h => ?_) funcs (by kernel_rfl)
  unfold EE at h
  split at h
  · obtain rfl := Option.some.inj h
    exact itoa_ok (Am.enters_of Tryd.func98 rfl (by decide)) hB fun n h0 h1 w ht => Tryd.strconv_Itoa n h0 h1 w ht
  · obtain rfl := Option.some.inj h
    exact join_ok (Am.enters_of Tryd.func131 rfl (by decide)) (fun a c sep w => Tryd.strings_Join_none a c sep w) (fun bk o c xs sep w h1 h2 h3 h4 h5 => Tryd.strings_Join bk o c xs sep w h1 h2 h3 h4 h5)
  · cases h
abbrev laid : List (String × DataW Unit) := [("math/bits.deBruijn32tab", Rows.laid_math_bits_deBruijn32tab), ("math/bits.deBruijn64tab", Rows.laid_math_bits_deBruijn64tab), ("internal/strconv.uint64pow10", Rows.laid_internal_strconv_uint64pow10)]
theorem door_met (os : Os) (args : Array Value) : laidMetH Tryd.prog laid ((World.doorLaid Tryd.prog 2000 os).forCall (fun _ _ => 0) ⟨#[], args, []⟩).memory :=
  laidMetH_of_parts3 (fuel := 8) (laidMet_of_run' 8 (by kernel_rfl) (by kernel_rfl)) (by kernel_rfl) (by kernel_rfl)
theorem pow_data : (Rows.laid_internal_strconv_uint64pow10 : DataW Unit) = Lib.tabData .u64 Lib.pow10Tab := by kernel_rfl
theorem of_laid {W : World} (h : laidMetH Tryd.prog laid W) : Lib.TabIs Tryd.prog W "internal/strconv.uint64pow10" .u64 Lib.pow10Tab := by
  rw [MakeChecks.laidMetH_plain _ _ _ (by kernel_rfl)] at h
  obtain ⟨ps, ⟨g0, t0, cs0, f0, p0, q0, _, _, _, _, ⟨g1, t1, cs1, f1, p1, q1, _, _, _, _, ⟨g2, t2, cs2, f2, p2, q2, hg2, ht2, hv2, hd2, _, _⟩, _⟩, _⟩, _⟩ := h
  obtain rfl := Option.some.inj (gPow.symm.trans hg2)
  obtain rfl := Option.some.inj ((show (Tryd.prog.globals[3]?).map (·.type) = some 230 by kernel_rfl).symm.trans ht2)
  rw [pow_data] at hd2
  have := Lib.cells_of_tab (n := 20) (e := 192) (by kernel_rfl) (by kernel_rfl) (by kernel_rfl) (by kernel_rfl) hd2
  unfold Lib.TabIs
  rw [hv2, ← this]
theorem contract (H : Type) (enc : TypeId × Value → H) (W : World) (base : Nat) (args : Array Value) (ds gs : List (DataW H)) (before : List MemPlace)
    (hval : ∀ (j : Nat) t v, Tryd.f4.params[j]? = some t → args[j]? = some v → Value.okWide Tryd.prog W .any base t v)
    (hW : DataW.Whole enc Tryd.prog Tryd.f4.params.toList Rows.fnExactSquareLineSpec.vars false W args.toList ds gs before) (hL : laidMetH Tryd.prog laid W) :
    Calls Tryd.prog 4 args W fun e W' => ∃ v, e = .returned v ∧ Rows.fnExactSquareLineSpec.post enc Tryd.prog Tryd.f4 false true false false W args v W' := by
  have hW' := hW
  obtain ⟨p, q, hA0, hV, rfl, hfz, hnd⟩ := hW
  have hA : DataW.TrodAll enc Tryd.prog W 0 (fun _ => true) true Tryd.f4.params.toList args.toList ds p := hA0
  rw [Tryd.params4] at hA hval
  obtain ⟨v0, vs0, d0, ds0, p0, q0, hargs, rfl, rfl, h0, r0⟩ := trodAll_cons hA
  obtain ⟨v1, vs1, d1, ds1, p1, q1, rfl, rfl, rfl, h1, r1⟩ := trodAll_cons r0
  obtain ⟨rfl, rfl, rfl⟩ := trodAll_nil r1
  obtain rfl : args = #[v0, v1] := by cases args; simp_all
  obtain ⟨rfl, rfl⟩ := trodVars_none hV
  obtain ⟨a0, rfl, rfl, rfl, w0⟩ := open_int Tryd.underlying3 (hval 0 3 v0 rfl rfl) h0
  obtain ⟨a1, rfl, rfl, rfl, w1⟩ := open_int Tryd.underlying3 (hval 1 3 v1 rfl rfl) h1
  clear hA0
  have hT := of_laid hL
  have hg : 3 < W.heap.size := by
    have := Lib.TabIs.cell hT gPow 0 (by decide)
    simp only [World.cell?] at this
    split at this
    · rename_i e; exact (Array.getElem?_eq_some_iff.1 e).1
    · cases this
  have hO := oracle (fun x => if x = 3 then W.heap[3]? else none) (fun W2 F hB => by
    have hb := hB 3
    have e : W2.heap[3]? = W.heap[3]? := by
      rw [Array.getElem?_eq_getElem hg]
      exact (hb _ (by simp [hg])).2
    unfold Lib.TabIs World.var? at hT ⊢
    rw [gPow] at hT ⊢
    simp only [Option.bind_some] at hT ⊢
    rw [e]; exact hT)
  refine (calls_law hO (law_square a0 a1) (W := W) (F := fun b => b = 3) (fun x o e => by
      by_cases hx : x = 3
      · subst hx; exact ⟨rfl, by simpa using e⟩
      · simp [hx] at e) (fun b hb => hb ▸ hg) (args := #[.int .i64 a0, .int .i64 a1])
    (.cons (RV1.rv (show RL _ _ _ _ [_] [_] [] from .i .nil)) (.cons (RV1.rv (show RL _ _ _ _ [_] [_] [] from .i .nil)) .nil))).mono fun e W' ⟨he, hs⟩ => ?_
  subst he
  exact ⟨_, rfl, post_of_step (pa := [] ++ ([] ++ [])) (pv := []) hW' (fun _ _ _ => (trodAll_cons_mk (shut_bool Tryd.underlying4 _) trodAll_mk0)) (fun sp hsp => trodAll_cons_mk (shut_int Tryd.underlying3 w0) (trodAll_cons_mk (shut_int Tryd.underlying3 w1) trodAll_mk0)) (fun _ _ => rfl) (by simp) hs (ok_one (by kernel_rfl) rfl (okWide_bool_mk Tryd.underlying4 _))⟩
theorem wit_ref (os : Os) : ((World.doorLaid Tryd.prog 2000 os).forCall (fun _ _ => 0) ⟨#[], #[.int .i64 0, .int .i64 0], []⟩).variablesRefB Tryd.prog = true := by kernel_rfl
theorem wit_heap (os : Os) : (((World.doorLaid Tryd.prog 2000 os).forCall (fun _ _ => 0) ⟨#[], #[.int .i64 0, .int .i64 0], []⟩).heap.toList.drop Tryd.prog.globals.size).take ((begin Tryd.prog (fun _ _ => 0) default).world.heap.size - Tryd.prog.globals.size) =
      (begin Tryd.prog (fun _ _ => 0) default).world.heap.toList.drop Tryd.prog.globals.size := by kernel_rfl
theorem lifted (os : Os) (started : os.Started) (H : Type) (enc : TypeId × Value → H) :
    ReturnsInHanded {} Tryd.checked os 4 .any (fun w args => (Rows.fnExactSquareLineSpec.pre enc Tryd.prog Tryd.f4 [] false w args ∧ laidMetH Tryd.prog laid w) ∧ sizedMet enc Tryd.prog Tryd.f4 (OpenSpec.ofChange Rows.fnExactSquareLineSpec) false w args)
      (Rows.fnExactSquareLineSpec.post enc Tryd.prog Tryd.f4 false true false false) := by
  refine returnsInHanded_of_change_and (C := Tryd.checked) (X := fun w _ => laidMetH Tryd.prog laid w) (fun _ _ _ hh h => h.of_heap hh) own started (by kernel_rfl) Tryd.func4
    (ChangeSpec.witness_shaped (enc := enc) (C := Tryd.checked) (os := os) (X := fun w _ => laidMetH Tryd.prog laid w) false (World.doorLaid Tryd.prog 2000 os) #[.int .i64 0, .int .i64 0] 8 rfl (World.shaped_of_RefB (wit_ref os) (wit_heap os)) (by kernel_rfl) (by kernel_rfl) (by kernel_rfl) (door_met os _)) ?_
  intro W base args ds gs before hval hW _ _ hL _
  exact contract H enc W base args ds gs before hval hW hL
end Go.Proofs.YtgjjhcaammcpaaaDoor.fnExactSquareLine
