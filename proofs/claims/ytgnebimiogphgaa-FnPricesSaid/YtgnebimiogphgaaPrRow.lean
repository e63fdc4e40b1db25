/- FnPricesSaid: proved for every input. No condition. -/
import Derived.Test.YtgnebimiogphgaaPr4
import Derived.Test.YtgnebimiogphgaaAm4
import Derived.Test.YtgnebimiogphgaaRows
import Derived.ProofKit
import Derived.OpenShut
namespace Go.Proofs.Ytgnebimiogphgaa.fnPrices
open Go Go.ChangeShapes Go.WideShapes Go.ChangeAt Go.RowKit Go.Am Go.Am.S
set_option linter.unusedVariables false
set_option linter.unusedSimpArgs false
set_option maxRecDepth 100000
theorem lit4 : slimF Try.prog annS (f4.2.map (·.1)) 4 = some f4 := by kernel_rfl
theorem lit8 : slimF Try.prog annS (f8.2.map (·.1)) 8 = some f8 := by kernel_rfl
theorem lit12 : slimF Try.prog annS (f12.2.map (·.1)) 12 = some f12 := by kernel_rfl
theorem lit13 : slimF Try.prog annS (f13.2.map (·.1)) 13 = some f13 := by kernel_rfl
theorem lit14 : slimF Try.prog annS (f14.2.map (·.1)) 14 = some f14 := by kernel_rfl
theorem lit15 : slimF Try.prog annS (f15.2.map (·.1)) 15 = some f15 := by kernel_rfl
theorem lit16 : slimF Try.prog annS (f16.2.map (·.1)) 16 = some f16 := by kernel_rfl
theorem lit17 : slimF Try.prog annS (f17.2.map (·.1)) 17 = some f17 := by kernel_rfl
theorem lit18 : slimF Try.prog annS (f18.2.map (·.1)) 18 = some f18 := by kernel_rfl
theorem lit19 : slimF Try.prog annS (f19.2.map (·.1)) 19 = some f19 := by kernel_rfl
theorem lit20 : slimF Try.prog annS (f20.2.map (·.1)) 20 = some f20 := by kernel_rfl
theorem lit21 : slimF Try.prog annS (f21.2.map (·.1)) 21 = some f21 := by kernel_rfl
theorem lit22 : slimF Try.prog annS (f22.2.map (·.1)) 22 = some f22 := by kernel_rfl
theorem lit23 : slimF Try.prog annS (f23.2.map (·.1)) 23 = some f23 := by kernel_rfl
theorem lit30 : slimF Try.prog annS (f30.2.map (·.1)) 30 = some f30 := by kernel_rfl
theorem lit31 : slimF Try.prog annS (f31.2.map (·.1)) 31 = some f31 := by kernel_rfl
theorem lit32 : slimF Try.prog annS (f32.2.map (·.1)) 32 = some f32 := by kernel_rfl
theorem lit33 : slimF Try.prog annS (f33.2.map (·.1)) 33 = some f33 := by kernel_rfl
theorem lit34 : slimF Try.prog annS (f34.2.map (·.1)) 34 = some f34 := by kernel_rfl
theorem lit35 : slimF Try.prog annS (f35.2.map (·.1)) 35 = some f35 := by kernel_rfl
theorem lit36 : slimF Try.prog annS (f36.2.map (·.1)) 36 = some f36 := by kernel_rfl
theorem lit37 : slimF Try.prog annS (f37.2.map (·.1)) 37 = some f37 := by kernel_rfl
theorem lit38 : slimF Try.prog annS (f38.2.map (·.1)) 38 = some f38 := by kernel_rfl
theorem lit39 : slimF Try.prog annS (f39.2.map (·.1)) 39 = some f39 := by kernel_rfl
theorem lit40 : slimF Try.prog annS (f40.2.map (·.1)) 40 = some f40 := by kernel_rfl
theorem lit51 : slimF Try.prog annS (f51.2.map (·.1)) 51 = some f51 := by kernel_rfl
theorem lit52 : slimF Try.prog annS (f52.2.map (·.1)) 52 = some f52 := by kernel_rfl
theorem lit53 : slimF Try.prog annS (f53.2.map (·.1)) 53 = some f53 := by kernel_rfl
theorem lit54 : slimF Try.prog annS (f54.2.map (·.1)) 54 = some f54 := by kernel_rfl
theorem lit59 : slimF Try.prog annS (f59.2.map (·.1)) 59 = some f59 := by kernel_rfl
theorem lit60 : slimF Try.prog annS (f60.2.map (·.1)) 60 = some f60 := by kernel_rfl
theorem funcs : FuncsOk Try.prog annS FF := by
  intro f fn ls h
  unfold FF at h
  split at h
  · obtain h := Option.some.inj h; exact ⟨_, h ▸ lit4⟩
  · obtain h := Option.some.inj h; exact ⟨_, h ▸ lit8⟩
  · obtain h := Option.some.inj h; exact ⟨_, h ▸ lit12⟩
  · obtain h := Option.some.inj h; exact ⟨_, h ▸ lit13⟩
  · obtain h := Option.some.inj h; exact ⟨_, h ▸ lit14⟩
  · obtain h := Option.some.inj h; exact ⟨_, h ▸ lit15⟩
  · obtain h := Option.some.inj h; exact ⟨_, h ▸ lit16⟩
  · obtain h := Option.some.inj h; exact ⟨_, h ▸ lit17⟩
  · obtain h := Option.some.inj h; exact ⟨_, h ▸ lit18⟩
  · obtain h := Option.some.inj h; exact ⟨_, h ▸ lit19⟩
  · obtain h := Option.some.inj h; exact ⟨_, h ▸ lit20⟩
  · obtain h := Option.some.inj h; exact ⟨_, h ▸ lit21⟩
  · obtain h := Option.some.inj h; exact ⟨_, h ▸ lit22⟩
  · obtain h := Option.some.inj h; exact ⟨_, h ▸ lit23⟩
  · obtain h := Option.some.inj h; exact ⟨_, h ▸ lit30⟩
  · obtain h := Option.some.inj h; exact ⟨_, h ▸ lit31⟩
  · obtain h := Option.some.inj h; exact ⟨_, h ▸ lit32⟩
  · obtain h := Option.some.inj h; exact ⟨_, h ▸ lit33⟩
  · obtain h := Option.some.inj h; exact ⟨_, h ▸ lit34⟩
  · obtain h := Option.some.inj h; exact ⟨_, h ▸ lit35⟩
  · obtain h := Option.some.inj h; exact ⟨_, h ▸ lit36⟩
  · obtain h := Option.some.inj h; exact ⟨_, h ▸ lit37⟩
  · obtain h := Option.some.inj h; exact ⟨_, h ▸ lit38⟩
  · obtain h := Option.some.inj h; exact ⟨_, h ▸ lit39⟩
  · obtain h := Option.some.inj h; exact ⟨_, h ▸ lit40⟩
  · obtain h := Option.some.inj h; exact ⟨_, h ▸ lit51⟩
  · obtain h := Option.some.inj h; exact ⟨_, h ▸ lit52⟩
  · obtain h := Option.some.inj h; exact ⟨_, h ▸ lit53⟩
  · obtain h := Option.some.inj h; exact ⟨_, h ▸ lit54⟩
  · obtain h := Option.some.inj h; exact ⟨_, h ▸ lit59⟩
  · obtain h := Option.some.inj h; exact ⟨_, h ▸ lit60⟩
  · cases h
theorem own : ownKnob Try.prog.godebug = none := by kernel_rfl
theorem laidOut : laidOutB Try.prog = true := by kernel_rfl
theorem oracle : OracleOk Try.prog (fun _ => none) (lim EE FF) := lim_sound (fun f g h => by simp [EE] at h) funcs (by kernel_rfl)
theorem bytes_of : ∀ (zs : List Int), (∀ n ∈ zs, (Lit.int .u8 n).wf = true) → ∃ bs : List UInt8, (zs.map fun n => AV.i .u8 n) = u8s bs
  | [], _ => ⟨[], rfl⟩
  | z :: zs, h => by
    obtain ⟨bs, hb⟩ := bytes_of zs fun n hn => h n (by simp [hn])
    have hz := h z (by simp)
    have hz' : 0 ≤ z ∧ z ≤ 255 := by simpa [Lit.wf, IntKind.min, IntKind.max, IntKind.signed, IntKind.bits] using hz
    refine ⟨UInt8.ofNat z.toNat :: bs, ?_⟩
    simp only [List.map_cons, u8s] at hb ⊢
    rw [hb]
    congr 2
    have : (UInt8.ofNat z.toNat).toNat = z.toNat := by
      rw [UInt8.toNat_ofNat']; omega
    rw [this]; omega
theorem contract (H : Type) (enc : TypeId × Value → H) (W : World) (base : Nat) (args : Array Value) (ds gs : List (DataW H)) (before : List MemPlace)
    (hval : ∀ (j : Nat) t v, Try.f4.params[j]? = some t → args[j]? = some v → Value.okWide Try.prog W .any base t v)
    (hW : DataW.Whole enc Try.prog Try.f4.params.toList Rows.fnPricesSpec.vars false W args.toList ds gs before) :
    Calls Try.prog 4 args W fun e W' => ∃ v, e = .returned v ∧ Rows.fnPricesSpec.post enc Try.prog Try.f4 false true false false W args v W' := by
  have hW' := hW
  obtain ⟨p, q, hA0, hV, rfl, hfz, hnd⟩ := hW
  have hA : DataW.TrodAll enc Try.prog W 0 (fun _ => true) true Try.f4.params.toList args.toList ds p := hA0
  rw [Try.params4] at hA hval
  obtain ⟨v1, vs1, d1, ds1, p1, q1, hargs, rfl, rfl, h1, r1⟩ := trodAll_cons hA
  obtain ⟨rfl, rfl, rfl⟩ := trodAll_nil r1
  obtain rfl : args = #[v1] := by cases args; simp_all
  obtain ⟨rfl, rfl⟩ := trodVars_none hV
  obtain ⟨ad, len, cap, rfl⟩ := okWide_slice Try.underlying28 (hval 0 28 v1 rfl rfl)
  clear hA0
  simp only [List.append_nil] at hW'
  have hlt : ∀ x ∈ p1, x.block < W.heap.size := fun x hx => hW'.lt x (by simpa using hx)
  obtain ⟨zs, hrel, hwf⟩ := arg_nums Try.underlying28 Try.underlying5 (by kernel_rfl) h1 rfl
  obtain ⟨bs, hbs⟩ := bytes_of zs hwf
  rw [hbs] at hrel
  refine (calls_law oracle (law_prices bs) (W := W) (F := fun b => ∃ x ∈ p1, x.block = b) (fun x o e => by cases e) (fun b ⟨x, hx, e⟩ => e ▸ hlt x hx) (args := #[.slice ad len cap])
    (.cons (hrel _ fun x hx => ⟨x, hx, rfl⟩) .nil)).mono fun e W' ⟨he, hs⟩ => ?_
  subst he
  exact ⟨_, rfl, post_of_step (pa := p1 ++ []) (pv := []) hW' (fun _ _ _ => (trodAll_cons_mk (shut_bool Try.underlying4 _) trodAll_mk0)) (fun sp hsp => trodAll_cons_mk (WideElems.Trod_stays laidOut (by kernel_rfl) (of_decide_eq_true (by kernel_rfl)) h1 (fun x hx => (stepBelow hs).same (hlt x hx)) (fun x hx => hsp x (by simpa using hx))) trodAll_mk0) (fun _ _ => rfl) (by simp) hs (ok_one (by kernel_rfl) rfl (okWide_bool_mk Try.underlying4 _))⟩
theorem lifted (os : Os) (started : os.Started) (H : Type) (enc : TypeId × Value → H) :
    ReturnsInHanded {} Try.checked os 4 .any (Rows.fnPricesSpec.pre6 enc Try.prog Try.f4 Rows.fnPricesRow.domain false) (Rows.fnPricesSpec.post enc Try.prog Try.f4 false true false false) := by
  refine returnsInHanded_of_change (C := Try.checked) own started (by kernel_rfl) Try.func4
    (ChangeSpec.witness6 (enc := enc) (C := Try.checked) false ⟨#[], #[.slice none 0 0], []⟩ 8 (by kernel_rfl) (by kernel_rfl) (by kernel_rfl) (by kernel_rfl)) ?_
  intro W base args ds gs before hval hW _ _
  exact contract H enc W base args ds gs before hval hW
theorem holds : Rows.FnPricesSaid :=
  OpenClaim.holds_of_wide 4 Try.f4 rfl rfl rfl rfl rfl rfl rfl ⟨rfl, rfl, rfl, rfl, rfl⟩ rfl rfl rfl rfl rfl (by kernel_rfl) Try.func4 (by kernel_rfl)
    (of_decide_eq_true (by kernel_rfl)) (by unfold Func.isWrapper; first | (rw [if_pos (by decide +kernel)]; kernel_rfl) | (rw [if_neg (by decide +kernel)]; exact ⟨rfl, rfl⟩))
    (fun os started H enc _ => lifted os started H enc)
#print axioms holds
end Go.Proofs.Ytgnebimiogphgaa.fnPrices
