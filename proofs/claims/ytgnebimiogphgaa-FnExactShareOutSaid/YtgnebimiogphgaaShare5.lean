/- Lemmas of this claim. No condition. -/
import Derived.Test.YtgnebimiogphgaaShare4
import Derived.Test.YtgnebimiogphgaaAm4
import Derived.Test.YtgnebimiogphgaaRows
import Derived.ProofKit
import Derived.OpenShut
namespace Go.Proofs.Ytgnebimiogphgaa.fnExactShareOut
open Go.ChangeShapes Go.WideShapes Go.ChangeAt Go.RowKit Go.Am Go.Am.S
set_option linter.unusedVariables false
set_option linter.unusedSimpArgs false
theorem lit3 : slimF Try.prog annS (f3.2.map (·.1)) 3 = some f3 := by kernel_rfl
theorem lit6 : slimF Try.prog annS (f6.2.map (·.1)) 6 = some f6 := by kernel_rfl
theorem lit7 : slimF Try.prog annS (f7.2.map (·.1)) 7 = some f7 := by kernel_rfl
theorem lit8 : slimF Try.prog annS (f8.2.map (·.1)) 8 = some f8 := by kernel_rfl
theorem lit9 : slimF Try.prog annS (f9.2.map (·.1)) 9 = some f9 := by kernel_rfl
theorem lit10 : slimF Try.prog annS (f10.2.map (·.1)) 10 = some f10 := by kernel_rfl
theorem lit11 : slimF Try.prog annS (f11.2.map (·.1)) 11 = some f11 := by kernel_rfl
theorem lit29 : slimF Try.prog annS (f29.2.map (·.1)) 29 = some f29 := by kernel_rfl
theorem lit30 : slimF Try.prog annS (f30.2.map (·.1)) 30 = some f30 := by kernel_rfl
theorem lit31 : slimF Try.prog annS (f31.2.map (·.1)) 31 = some f31 := by kernel_rfl
theorem lit32 : slimF Try.prog annS (f32.2.map (·.1)) 32 = some f32 := by kernel_rfl
theorem lit33 : slimF Try.prog annS (f33.2.map (·.1)) 33 = some f33 := by kernel_rfl
theorem lit34 : slimF Try.prog annS (f34.2.map (·.1)) 34 = some f34 := by kernel_rfl
theorem lit35 : slimF Try.prog annS (f35.2.map (·.1)) 35 = some f35 := by kernel_rfl
theorem lit51 : slimF Try.prog annS (f51.2.map (·.1)) 51 = some f51 := by kernel_rfl
theorem lit52 : slimF Try.prog annS (f52.2.map (·.1)) 52 = some f52 := by kernel_rfl
theorem lit53 : slimF Try.prog annS (f53.2.map (·.1)) 53 = some f53 := by kernel_rfl
theorem lit59 : slimF Try.prog annS (f59.2.map (·.1)) 59 = some f59 := by kernel_rfl
theorem lit60 : slimF Try.prog annS (f60.2.map (·.1)) 60 = some f60 := by kernel_rfl
theorem funcs : FuncsOk Try.prog annS FF := by
  intro f fn ls h
  unfold FF at h
  split at h
  · obtain h := Option.some.inj h; exact ⟨_, h ▸ lit3⟩
  · obtain h := Option.some.inj h; exact ⟨_, h ▸ lit6⟩
  · obtain h := Option.some.inj h; exact ⟨_, h ▸ lit7⟩
  · obtain h := Option.some.inj h; exact ⟨_, h ▸ lit8⟩
  · obtain h := Option.some.inj h; exact ⟨_, h ▸ lit9⟩
  · obtain h := Option.some.inj h; exact ⟨_, h ▸ lit10⟩
  · obtain h := Option.some.inj h; exact ⟨_, h ▸ lit11⟩
  · obtain h := Option.some.inj h; exact ⟨_, h ▸ lit29⟩
  · obtain h := Option.some.inj h; exact ⟨_, h ▸ lit30⟩
  · obtain h := Option.some.inj h; exact ⟨_, h ▸ lit31⟩
  · obtain h := Option.some.inj h; exact ⟨_, h ▸ lit32⟩
  · obtain h := Option.some.inj h; exact ⟨_, h ▸ lit33⟩
  · obtain h := Option.some.inj h; exact ⟨_, h ▸ lit34⟩
  · obtain h := Option.some.inj h; exact ⟨_, h ▸ lit35⟩
  · obtain h := Option.some.inj h; exact ⟨_, h ▸ lit51⟩
  · obtain h := Option.some.inj h; exact ⟨_, h ▸ lit52⟩
  · obtain h := Option.some.inj h; exact ⟨_, h ▸ lit53⟩
  · obtain h := Option.some.inj h; exact ⟨_, h ▸ lit59⟩
  · obtain h := Option.some.inj h; exact ⟨_, h ▸ lit60⟩
  · cases h
theorem own : ownKnob Try.prog.godebug = none := by kernel_rfl
theorem laidOut : laidOutB Try.prog = true := by kernel_rfl
theorem oracle : OracleOk Try.prog (fun _ => none) (lim EE FF) := lim_sound (fun f g h => by simp [EE] at h) funcs (by kernel_rfl)
theorem contract (H : Type) (enc : TypeId × Value → H) (W : World) (base : Nat) (args : Array Value) (ds gs : List (DataW H)) (before : List MemPlace)
    (hval : ∀ (j : Nat) t v, Try.f3.params[j]? = some t → args[j]? = some v → Value.okWide Try.prog W .any base t v)
    (hW : DataW.Whole enc Try.prog Try.f3.params.toList Rows.fnExactShareOutSpec.vars false W args.toList ds gs before) :
    Calls Try.prog 3 args W fun e W' => ∃ v, e = .returned v ∧ Rows.fnExactShareOutSpec.post enc Try.prog Try.f3 false true false false W args v W' := by
  have hW' := hW
  obtain ⟨p, q, hA0, hV, rfl, hfz, hnd⟩ := hW
  have hA : DataW.TrodAll enc Try.prog W 0 (fun _ => true) true Try.f3.params.toList args.toList ds p := hA0
  rw [Try.params3] at hA hval
  obtain ⟨v0, vs0, d0, ds0, p0, q0, hargs, rfl, rfl, h0, r0⟩ := trodAll_cons hA
  obtain ⟨v1, vs1, d1, ds1, p1, q1, rfl, rfl, rfl, h1, r1⟩ := trodAll_cons r0
  obtain ⟨rfl, rfl, rfl⟩ := trodAll_nil r1
  obtain rfl : args = #[v0, v1] := by cases args; simp_all
  obtain ⟨rfl, rfl⟩ := trodVars_none hV
  obtain ⟨a0, rfl, rfl, rfl, w0⟩ := open_int Try.underlying3 (hval 0 3 v0 rfl rfl) h0
  obtain ⟨ad, len, cap, rfl⟩ := okWide_slice Try.underlying22 (hval 1 22 v1 rfl rfl)
  clear hA0
  simp only [List.append_nil] at hW'
  have hlt : ∀ x ∈ p1, x.block < W.heap.size := fun x hx => hW'.lt x (by simpa using hx)
  obtain ⟨zs, hrel, _⟩ := arg_nums Try.underlying22 Try.underlying3 (by kernel_rfl) h1 rfl
  refine (calls_law oracle (law_share a0 zs true) (W := W) (F := fun b => ∃ x ∈ p1, x.block = b) (fun x o e => by cases e) (fun b ⟨x, hx, e⟩ => e ▸ hlt x hx) (args := #[.int .i64 a0, .slice ad len cap])
    (.cons (RV1.rv (show RL _ _ _ _ [_] [_] [] from .i .nil)) (.cons (hrel _ fun x hx => ⟨x, hx, rfl⟩) .nil))).mono fun e W' ⟨he, hs⟩ => ?_
  subst he
  exact ⟨_, rfl, post_of_step (pa := [] ++ (p1 ++ [])) (pv := []) hW' (fun _ _ _ => (trodAll_cons_mk (shut_bool Try.underlying4 _) trodAll_mk0)) (fun sp hsp => trodAll_cons_mk (shut_int Try.underlying3 w0) (trodAll_cons_mk (WideElems.Trod_stays laidOut (by kernel_rfl) (of_decide_eq_true (by kernel_rfl)) h1 (fun x hx => (stepBelow hs).same (hlt x hx)) (fun x hx => hsp x (by simpa using hx))) trodAll_mk0)) (fun _ _ => rfl) (by simp) hs (ok_one (by kernel_rfl) rfl (okWide_bool_mk Try.underlying4 _))⟩
set_option maxRecDepth 100000 in
theorem lifted (os : Os) (started : os.Started) (H : Type) (enc : TypeId × Value → H) :
    ReturnsInHanded {} Try.checked os 3 .any (Rows.fnExactShareOutSpec.pre6 enc Try.prog Try.f3 Rows.fnExactShareOutRow.domain false) (Rows.fnExactShareOutSpec.post enc Try.prog Try.f3 false true false false) := by
  refine returnsInHanded_of_change (C := Try.checked) own started (by kernel_rfl) Try.func3
    (ChangeSpec.witness6 (enc := enc) (C := Try.checked) false ⟨#[], #[.int .i64 0, .slice none 0 0], []⟩ 8 (by kernel_rfl) (by kernel_rfl) (by kernel_rfl) (by kernel_rfl)) ?_
  intro W base args ds gs before hval hW _ _
  exact contract H enc W base args ds gs before hval hW
theorem holds : Rows.FnExactShareOutSaid :=
  OpenClaim.holds_of_wide 3 Try.f3 rfl rfl rfl rfl rfl rfl rfl ⟨rfl, rfl, rfl, rfl, rfl⟩ rfl rfl rfl rfl rfl (by kernel_rfl) Try.func3 (by kernel_rfl)
    (of_decide_eq_true (by kernel_rfl)) (by unfold Func.isWrapper; first | (rw [if_pos (by decide +kernel)]; kernel_rfl) | (rw [if_neg (by decide +kernel)]; exact ⟨rfl, rfl⟩))
    (fun os started H enc _ => lifted os started H enc)
#print axioms holds
end Go.Proofs.Ytgnebimiogphgaa.fnExactShareOut
