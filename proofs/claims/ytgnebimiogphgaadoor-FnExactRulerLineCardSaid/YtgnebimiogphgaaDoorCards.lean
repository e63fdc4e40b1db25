/-
  DERIVED. GIVEN WITH THE SEED: THE CARDS: each row of YtgnebimiogphgaaDoorRows.lean that lists a variable, with what it lists TIED to the program's text (the seventh form; the later family's looks); each row that meets fmt, with fmt's text TOLD by the authors' own Lean function (tested against real Go, not proved from fmt's source: count such statements apart). THE CARD IS WHAT COUNTS. Prove the row's statement (the work); the ties are given (YtgnebimiogphgaaDoorTie.lean); close each card by the builder's one call (the guide's Derived/Test/ToyasCard.lean, 'card_holds'). Laid BY PROGRAM, IN A SANDBOX (cutbox-door.mjs). By AI agents, Wed Nov 11 2026. No macro, syntax, notation, axiom, sorry.
-/
import Derived.Test.YtgnebimiogphgaaDoorRows
import GoSem.ClaimSeven
namespace Go.Proofs.YtgnebimiogphgaaDoor
namespace Rows

/-- THE TIED CARD OF 'laws.FnExactFormatNumbers'. -/
def fnExactFormatNumbersCard : Claim7 := { stood := { row := fnExactFormatNumbersRow, standIns := [], harness := (true, "9b83cae5c9d4581b8caeb4f01fe2544e1bcc57319ad2169facf34a5c69ac86ca"), looks := false }, kinds := [], alts := [], laidByText := true, laidKinds := [.data, .data, .data], laidTests := true, laidLooks := .later }
def FnExactFormatNumbersCardSaid : Prop := Claim7.holds Tryd.pinned (.plain (OpenSpec.ofChange fnExactFormatNumbersSpec)) fnExactFormatNumbersCard

/-- THE TIED CARD OF 'laws.FnExactFormatPoints'. -/
def fnExactFormatPointsCard : Claim7 := { stood := { row := fnExactFormatPointsRow, standIns := [], harness := (true, "9b83cae5c9d4581b8caeb4f01fe2544e1bcc57319ad2169facf34a5c69ac86ca"), looks := false }, kinds := [], alts := [], laidByText := true, laidKinds := [.data, .data, .data], laidTests := true, laidLooks := .later }
def FnExactFormatPointsCardSaid : Prop := Claim7.holds Tryd.pinned (.plain (OpenSpec.ofChange fnExactFormatPointsSpec)) fnExactFormatPointsCard

/-- THE TIED CARD OF 'laws.FnExactRulerLine'. -/
def fnExactRulerLineCard : Claim7 := { stood := { row := fnExactRulerLineRow, standIns := [], harness := (true, "9b83cae5c9d4581b8caeb4f01fe2544e1bcc57319ad2169facf34a5c69ac86ca"), looks := false }, kinds := [], alts := [], laidByText := true, laidKinds := [.data, .data, .data], laidTests := true, laidLooks := .later }
def FnExactRulerLineCardSaid : Prop := Claim7.holds Tryd.pinned (.plain (OpenSpec.ofChange fnExactRulerLineSpec)) fnExactRulerLineCard

/-- THE SECOND FORM's CARD OF 'laws.FnExactFormatNumbers'. -/
def fnExactFormatNumbersUptoCard : Claim7 := { stood := { row := fnExactFormatNumbersUptoRow, standIns := [], harness := (true, "9b83cae5c9d4581b8caeb4f01fe2544e1bcc57319ad2169facf34a5c69ac86ca"), looks := false }, kinds := [], alts := [], laidByText := true, laidKinds := [.data, .data, .data], laidTests := true, laidLooks := .later }
def FnExactFormatNumbersUptoCardSaid : Prop := Claim7.holds Tryd.pinned (.plain (OpenSpec.upto fnExactFormatNumbersSpec)) fnExactFormatNumbersUptoCard

/-- THE SECOND FORM's CARD OF 'laws.FnExactFormatPoints'. -/
def fnExactFormatPointsUptoCard : Claim7 := { stood := { row := fnExactFormatPointsUptoRow, standIns := [], harness := (true, "9b83cae5c9d4581b8caeb4f01fe2544e1bcc57319ad2169facf34a5c69ac86ca"), looks := false }, kinds := [], alts := [], laidByText := true, laidKinds := [.data, .data, .data], laidTests := true, laidLooks := .later }
def FnExactFormatPointsUptoCardSaid : Prop := Claim7.holds Tryd.pinned (.plain (OpenSpec.upto fnExactFormatPointsSpec)) fnExactFormatPointsUptoCard

/-- THE SECOND FORM's CARD OF 'laws.FnExactRulerLine'. -/
def fnExactRulerLineUptoCard : Claim7 := { stood := { row := fnExactRulerLineUptoRow, standIns := [], harness := (true, "9b83cae5c9d4581b8caeb4f01fe2544e1bcc57319ad2169facf34a5c69ac86ca"), looks := false }, kinds := [], alts := [], laidByText := true, laidKinds := [.data, .data, .data], laidTests := true, laidLooks := .later }
def FnExactRulerLineUptoCardSaid : Prop := Claim7.holds Tryd.pinned (.plain (OpenSpec.upto fnExactRulerLineSpec)) fnExactRulerLineUptoCard
end Rows
end Go.Proofs.YtgnebimiogphgaaDoor
