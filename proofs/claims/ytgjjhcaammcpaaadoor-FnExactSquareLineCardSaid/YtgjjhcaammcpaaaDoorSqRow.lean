/- FnExactSquareLineCardSaid: proved for every input. No condition. -/
import Derived.Test.YtgjjhcaammcpaaaDoorSqDoor
import Derived.Test.YtgjjhcaammcpaaaDoorCards
import Derived.Test.YtgjjhcaammcpaaaDoorTie
import Derived.JoinedOf
import Derived.SevenTiedAt
namespace Go.Proofs.YtgjjhcaammcpaaaDoor.fnExactSquareLine
open Go Go.ChangeShapes Go.WideShapes Go.ChangeAt Go.RowKit
set_option maxRecDepth 100000
theorem jf0 : ((Rows.fnExactSquareLineRow).wf (OpenSpec.ofChange Rows.fnExactSquareLineSpec)) = true := by kernel_rfl
theorem jf1 : (laidOutB Tryd.prog) = true := by kernel_rfl
theorem jf2 : (mapsRowed Tryd.prog) = true := by kernel_rfl
theorem jf3 : ((Tryd.f4).params.all ((Tryd.prog).readableRec ·)) = true := by kernel_rfl
theorem jf4 : (namedTie Tryd.prog (Rows.fnExactSquareLineRow).named (Rows.fnExactSquareLineSpec).vars) = true := by kernel_rfl
theorem jf5 : (((Rows.fnExactSquareLineRow).stops == [])) = true := by kernel_rfl
theorem jf6 : (((Tryd.prog).stops == [])) = true := by kernel_rfl
theorem jf7 : (((Rows.fnExactSquareLineRow).knobs == [])) = true := by kernel_rfl
theorem jf8 : (((Tryd.prog).stopKnobs == [])) = true := by kernel_rfl
theorem jf9 : (((Rows.fnExactSquareLineRow).inPlace == (Tryd.prog).inPlace 4)) = true := by kernel_rfl
theorem jf10 : (((Rows.fnExactSquareLineRow).unfollowed == (Tryd.prog).unfollowed 4)) = true := by kernel_rfl
theorem jf11 : (((Rows.fnExactSquareLineRow).recurses == (Tryd.prog).recurses 4)) = true := by kernel_rfl
theorem jf12 : (((Rows.fnExactSquareLineRow).named == (Tryd.prog).varsNamed 4)) = true := by kernel_rfl
theorem jf13 : (((Rows.fnExactSquareLineRow).maps == ((Tryd.f4).params.toList ++ (Rows.fnExactSquareLineSpec).plain.varTypes Tryd.prog).any ((Tryd.prog).mapsRec ·))) = true := by kernel_rfl
theorem jf14 : (((Rows.fnExactSquareLineRow).ifaces == ((Tryd.f4).params.toList ++ (Rows.fnExactSquareLineSpec).plain.varTypes Tryd.prog).any ((Tryd.prog).ifacesRec ·))) = true := by kernel_rfl
theorem jf15 : (((Rows.fnExactSquareLineRow).mapsOut == (Tryd.prog).mapsAmong (Tryd.f4).resultTypes.toList)) = true := by kernel_rfl
theorem jf16 : (((Rows.fnExactSquareLineRow).loops == ((Tryd.f4).params.toList ++ (Rows.fnExactSquareLineSpec).plain.varTypes Tryd.prog).any ((Tryd.prog).loopsFrom ·))) = true := by kernel_rfl
theorem jf17 : (((Rows.fnExactSquareLineRow).wideKeys == ((Tryd.f4).params.toList ++ (Rows.fnExactSquareLineSpec).plain.varTypes Tryd.prog ++ (Tryd.f4).resultTypes.toList).any ((Tryd.prog).wideKeysFrom ·))) = true := by kernel_rfl
theorem jf18 : ((Rows.fnExactSquareLineSpec).vars.all ((Tryd.prog).varReadable ·)) = true := by kernel_rfl
theorem jf19 : ((Tryd.f4).resultTypes.all (fun t => (Tryd.prog).readableRec t && decide (t < (Tryd.prog).types.size))) = true := by kernel_rfl
theorem jf20 : (((Rows.fnExactSquareLineRow).ifacesOut == (Tryd.f4).resultTypes.toList.any ((Tryd.prog).ifacesRec ·))) = true := by kernel_rfl
theorem jf21 : (((Rows.fnExactSquareLineRow).loopsOut == (Tryd.f4).resultTypes.toList.any ((Tryd.prog).loopsFrom ·))) = true := by kernel_rfl
theorem jf22 : (((Rows.fnExactSquareLineRow).plainKeys == (Tryd.prog).plainKeys)) = true := by kernel_rfl
theorem jf23 : ((Rows.fnExactSquareLineRow).shortTexts.isNone) = true := by kernel_rfl
theorem jf24 : ((Tryd.prog).stopsHeard) = true := by kernel_rfl
theorem jf25 : ((Tryd.prog).mayEnter) = true := by kernel_rfl
theorem jf26 : (((Rows.fnExactSquareLineRow).lifted == (Tryd.prog).liftsFinal)) = true := by kernel_rfl
theorem jf27 : (((Tryd.prog).make == some (Rows.fnExactSquareLineRow).make)) = true := by kernel_rfl
theorem jf28 : (((Rows.fnExactSquareLineRow).kinds == (if (Rows.fnExactSquareLineRow).domain.isEmpty then [] else (Tryd.f4).params.toList.map fun t => match (Tryd.prog).underlying t with | some (.int k) => some k | _ => none))) = true := by kernel_rfl
theorem jf29 : (((Rows.fnExactSquareLineRow).pinned == (Rows.fnExactSquareLineRow).pinnedBy)) = true := by kernel_rfl
theorem jf30 : (((Rows.fnExactSquareLineRow).veiled == ((Tryd.f4).params.toList ++ (Rows.fnExactSquareLineSpec).plain.varTypes Tryd.prog ++ (Tryd.f4).resultTypes.toList).any ((Tryd.prog).veiledRec ·))) = true := by kernel_rfl
theorem jf31 : ((Rows.fnExactSquareLineRow).veiledFits Tryd.prog (Tryd.f4).params.toList ((Tryd.f4).params.toList ++ (Rows.fnExactSquareLineSpec).plain.varTypes Tryd.prog ++ (Tryd.f4).resultTypes.toList)) = true := by kernel_rfl
theorem closed : joinedFacts Tryd.prog 4 Tryd.f4 Rows.fnExactSquareLineSpec Rows.fnExactSquareLineRow = true := by
  unfold joinedFacts
  exact Bool.and_eq_true_iff.2 ⟨Bool.and_eq_true_iff.2 ⟨Bool.and_eq_true_iff.2 ⟨Bool.and_eq_true_iff.2 ⟨Bool.and_eq_true_iff.2 ⟨Bool.and_eq_true_iff.2 ⟨Bool.and_eq_true_iff.2 ⟨Bool.and_eq_true_iff.2 ⟨Bool.and_eq_true_iff.2 ⟨Bool.and_eq_true_iff.2 ⟨Bool.and_eq_true_iff.2 ⟨Bool.and_eq_true_iff.2 ⟨Bool.and_eq_true_iff.2 ⟨Bool.and_eq_true_iff.2 ⟨Bool.and_eq_true_iff.2 ⟨Bool.and_eq_true_iff.2 ⟨Bool.and_eq_true_iff.2 ⟨Bool.and_eq_true_iff.2 ⟨Bool.and_eq_true_iff.2 ⟨Bool.and_eq_true_iff.2 ⟨Bool.and_eq_true_iff.2 ⟨Bool.and_eq_true_iff.2 ⟨Bool.and_eq_true_iff.2 ⟨Bool.and_eq_true_iff.2 ⟨Bool.and_eq_true_iff.2 ⟨Bool.and_eq_true_iff.2 ⟨Bool.and_eq_true_iff.2 ⟨Bool.and_eq_true_iff.2 ⟨Bool.and_eq_true_iff.2 ⟨Bool.and_eq_true_iff.2 ⟨Bool.and_eq_true_iff.2 ⟨jf0, jf1⟩, jf2⟩, jf3⟩, jf4⟩, jf5⟩, jf6⟩, jf7⟩, jf8⟩, jf9⟩, jf10⟩, jf11⟩, jf12⟩, jf13⟩, jf14⟩, jf15⟩, jf16⟩, jf17⟩, jf18⟩, jf19⟩, jf20⟩, jf21⟩, jf22⟩, jf23⟩, jf24⟩, jf25⟩, jf26⟩, jf27⟩, jf28⟩, jf29⟩, jf30⟩, jf31⟩
theorem holds : Rows.FnExactSquareLineSaid :=
  OpenClaim.holds_of_wide 4 Tryd.f4 rfl rfl rfl rfl rfl rfl rfl ⟨rfl, rfl, rfl, rfl, rfl⟩ rfl rfl rfl rfl rfl (by kernel_rfl) Tryd.func4 closed
    (of_decide_eq_true (by kernel_rfl)) (by unfold Func.isWrapper; first | (rw [if_pos (by decide +kernel)]; kernel_rfl) | (rw [if_neg (by decide +kernel)]; exact ⟨rfl, rfl⟩))
    (fun os started H enc _ => lifted os started H enc)
theorem card_holds : Rows.FnExactSquareLineCardSaid :=
  Claim7.holds_tied_plain_at .later [] [.data, .data, .data] true Rows.fnExactSquareLineCard.stood.harness true
    holds (fun _ h => by cases h) (by kernel_rfl) (fun _ h => by cases h) fnExactSquareLine_row_tie rfl ⟨rfl, rfl⟩ (by kernel_rfl) rfl
    (fun f fn hf hfn => by
      obtain rfl : f = 4 := Option.some.inj ((show Tryd.prog.funcNamed "loop.example/g03208/laws.FnExactSquareLine" = some 4 by kernel_rfl).symm.trans hf) |>.symm
      obtain rfl : fn = Tryd.f4 := (Option.some.inj (Tryd.func4.symm.trans hfn)).symm
      exact ⟨by kernel_rfl, fun j t ht => by
        rw [Tryd.params4] at ht
        have hm : t ∈ [3, 3] := by simpa using Array.mem_of_getElem? ht
        have hall : ([3, 3].all fun u => !Tryd.prog.wantsStandIn u) = true := by kernel_rfl
        exact (show Tryd.prog.wantsStandIn t = false by simpa using List.all_eq_true.1 hall t hm)⟩)
    (by kernel_rfl)
#print axioms card_holds
end Go.Proofs.YtgjjhcaammcpaaaDoor.fnExactSquareLine
