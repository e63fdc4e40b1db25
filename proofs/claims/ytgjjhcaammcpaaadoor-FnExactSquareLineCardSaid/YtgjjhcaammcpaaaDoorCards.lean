/-
  DERIVED. GIVEN WITH THE SEED: THE CARDS: each row of YtgjjhcaammcpaaaDoorRows.lean that lists a variable, with what it lists TIED to the program's text (the seventh form; the later family's looks); each row that meets fmt, with fmt's text TOLD by the authors' own Lean function (tested against real Go, not proved from fmt's source: count such statements apart). THE CARD IS WHAT COUNTS. Prove the row's statement (the work); the ties are given (YtgjjhcaammcpaaaDoorTie.lean); close each card by the builder's one call (the guide's Derived/Test/ToyasCard.lean, 'card_holds'). Laid BY PROGRAM, IN A SANDBOX (cutbox-door.mjs). By AI agents, Wed Nov 11 2026. No macro, syntax, notation, axiom, sorry.
-/
import Derived.Test.YtgjjhcaammcpaaaDoorRows
import GoSem.ClaimSeven
namespace Go.Proofs.YtgjjhcaammcpaaaDoor
namespace Rows

/-- THE TIED CARD OF 'laws.FnExactPlanLine'. -/
def fnExactPlanLineCard : Claim7 := { stood := { row := fnExactPlanLineRow, standIns := [], harness := (true, "af53f77932b043ca49f9c9e8a0966c95eefe0a1e24de7c63333f40258506ac1f"), looks := true }, kinds := [], alts := [], laidByText := true, laidKinds := [.data, .data, .data], laidTests := true, laidLooks := .later }
def FnExactPlanLineCardSaid : Prop := Claim7.holds Tryd.pinned (.plain (OpenSpec.ofChange fnExactPlanLineSpec)) fnExactPlanLineCard

/-- THE TIED CARD OF 'laws.FnExactSquareLine'. -/
def fnExactSquareLineCard : Claim7 := { stood := { row := fnExactSquareLineRow, standIns := [], harness := (true, "af53f77932b043ca49f9c9e8a0966c95eefe0a1e24de7c63333f40258506ac1f"), looks := true }, kinds := [], alts := [], laidByText := true, laidKinds := [.data, .data, .data], laidTests := true, laidLooks := .later }
def FnExactSquareLineCardSaid : Prop := Claim7.holds Tryd.pinned (.plain (OpenSpec.ofChange fnExactSquareLineSpec)) fnExactSquareLineCard

/-- THE TIED CARD OF 'laws.FnExactBarLine'. -/
def fnExactBarLineCard : Claim7 := { stood := { row := fnExactBarLineRow, standIns := [], harness := (true, "af53f77932b043ca49f9c9e8a0966c95eefe0a1e24de7c63333f40258506ac1f"), looks := true }, kinds := [], alts := [], laidByText := true, laidKinds := [.data, .data, .data], laidTests := true, laidLooks := .later }
def FnExactBarLineCardSaid : Prop := Claim7.holds Tryd.pinned (.plain (OpenSpec.ofChange fnExactBarLineSpec)) fnExactBarLineCard

/-- THE TIED CARD OF 'laws.FnExactPolygonLine'. -/
def fnExactPolygonLineCard : Claim7 := { stood := { row := fnExactPolygonLineRow, standIns := [], harness := (true, "af53f77932b043ca49f9c9e8a0966c95eefe0a1e24de7c63333f40258506ac1f"), looks := true }, kinds := [], alts := [], laidByText := true, laidKinds := [.data, .data, .data], laidTests := true, laidLooks := .later }
def FnExactPolygonLineCardSaid : Prop := Claim7.holds Tryd.pinned (.plain (OpenSpec.ofChange fnExactPolygonLineSpec)) fnExactPolygonLineCard

/-- THE TIED CARD OF 'laws.FnExactMirrorWord'. -/
def fnExactMirrorWordCard : Claim7 := { stood := { row := fnExactMirrorWordRow, standIns := [], harness := (true, "af53f77932b043ca49f9c9e8a0966c95eefe0a1e24de7c63333f40258506ac1f"), looks := true }, kinds := [], alts := [], laidByText := true, laidKinds := [.data, .pinned], laidTests := true, laidLooks := .later }
def FnExactMirrorWordCardSaid : Prop := Claim7.holds Tryd.pinned (.plain (OpenSpec.ofChange fnExactMirrorWordSpec)) fnExactMirrorWordCard

/-- THE TIED CARD OF 'laws.FnExactStoreLine'. -/
def fnExactStoreLineCard : Claim7 := { stood := { row := fnExactStoreLineRow, standIns := [], harness := (true, "af53f77932b043ca49f9c9e8a0966c95eefe0a1e24de7c63333f40258506ac1f"), looks := true }, kinds := [], alts := [], laidByText := true, laidKinds := [.data, .data, .data], laidTests := true, laidLooks := .later }
def FnExactStoreLineCardSaid : Prop := Claim7.holds Tryd.pinned (.plain (OpenSpec.ofChange fnExactStoreLineSpec)) fnExactStoreLineCard

/-- THE TIED CARD OF 'laws.FnExactParseNumbers'. -/
def fnExactParseNumbersCard : Claim7 := { stood := { row := fnExactParseNumbersRow, standIns := [], harness := (true, "af53f77932b043ca49f9c9e8a0966c95eefe0a1e24de7c63333f40258506ac1f"), looks := true }, kinds := [], alts := [], laidByText := true, laidKinds := [.data, .data, .data, .data, .sentinel, .sentinel, .pinned], laidTests := true, laidLooks := .later }
def FnExactParseNumbersCardSaid : Prop := Claim7.holds Tryd.pinned (.plain (OpenSpec.ofChange fnExactParseNumbersSpec)) fnExactParseNumbersCard

/-- THE TIED CARD OF 'laws.FnExactParsePoints'. -/
def fnExactParsePointsCard : Claim7 := { stood := { row := fnExactParsePointsRow, standIns := [], harness := (true, "af53f77932b043ca49f9c9e8a0966c95eefe0a1e24de7c63333f40258506ac1f"), looks := true }, kinds := [], alts := [], laidByText := true, laidKinds := [.data, .data, .data, .data, .sentinel, .sentinel, .pinned], laidTests := true, laidLooks := .later }
def FnExactParsePointsCardSaid : Prop := Claim7.holds Tryd.pinned (.plain (OpenSpec.ofChange fnExactParsePointsSpec)) fnExactParsePointsCard

/-- THE TIED CARD OF 'laws.FnExactMeasureLine'. -/
def fnExactMeasureLineCard : Claim7 := { stood := { row := fnExactMeasureLineRow, standIns := [], harness := (true, "af53f77932b043ca49f9c9e8a0966c95eefe0a1e24de7c63333f40258506ac1f"), looks := true }, kinds := [], alts := [], laidByText := true, laidKinds := [.data, .data, .data], laidTests := true, laidLooks := .later }
def FnExactMeasureLineCardSaid : Prop := Claim7.holds Tryd.pinned (.plain (OpenSpec.ofChange fnExactMeasureLineSpec)) fnExactMeasureLineCard

/-- THE SECOND FORM's CARD OF 'laws.FnExactPlanLine'. -/
def fnExactPlanLineUptoCard : Claim7 := { stood := { row := fnExactPlanLineUptoRow, standIns := [], harness := (true, "af53f77932b043ca49f9c9e8a0966c95eefe0a1e24de7c63333f40258506ac1f"), looks := true }, kinds := [], alts := [], laidByText := true, laidKinds := [.data, .data, .data], laidTests := true, laidLooks := .later }
def FnExactPlanLineUptoCardSaid : Prop := Claim7.holds Tryd.pinned (.plain (OpenSpec.upto fnExactPlanLineSpec)) fnExactPlanLineUptoCard

/-- THE SECOND FORM's CARD OF 'laws.FnExactSquareLine'. -/
def fnExactSquareLineUptoCard : Claim7 := { stood := { row := fnExactSquareLineUptoRow, standIns := [], harness := (true, "af53f77932b043ca49f9c9e8a0966c95eefe0a1e24de7c63333f40258506ac1f"), looks := true }, kinds := [], alts := [], laidByText := true, laidKinds := [.data, .data, .data], laidTests := true, laidLooks := .later }
def FnExactSquareLineUptoCardSaid : Prop := Claim7.holds Tryd.pinned (.plain (OpenSpec.upto fnExactSquareLineSpec)) fnExactSquareLineUptoCard

/-- THE SECOND FORM's CARD OF 'laws.FnExactBarLine'. -/
def fnExactBarLineUptoCard : Claim7 := { stood := { row := fnExactBarLineUptoRow, standIns := [], harness := (true, "af53f77932b043ca49f9c9e8a0966c95eefe0a1e24de7c63333f40258506ac1f"), looks := true }, kinds := [], alts := [], laidByText := true, laidKinds := [.data, .data, .data], laidTests := true, laidLooks := .later }
def FnExactBarLineUptoCardSaid : Prop := Claim7.holds Tryd.pinned (.plain (OpenSpec.upto fnExactBarLineSpec)) fnExactBarLineUptoCard

/-- THE SECOND FORM's CARD OF 'laws.FnExactPolygonLine'. -/
def fnExactPolygonLineUptoCard : Claim7 := { stood := { row := fnExactPolygonLineUptoRow, standIns := [], harness := (true, "af53f77932b043ca49f9c9e8a0966c95eefe0a1e24de7c63333f40258506ac1f"), looks := true }, kinds := [], alts := [], laidByText := true, laidKinds := [.data, .data, .data], laidTests := true, laidLooks := .later }
def FnExactPolygonLineUptoCardSaid : Prop := Claim7.holds Tryd.pinned (.plain (OpenSpec.upto fnExactPolygonLineSpec)) fnExactPolygonLineUptoCard

/-- THE SECOND FORM's CARD OF 'laws.FnExactMirrorWord'. -/
def fnExactMirrorWordUptoCard : Claim7 := { stood := { row := fnExactMirrorWordUptoRow, standIns := [], harness := (true, "af53f77932b043ca49f9c9e8a0966c95eefe0a1e24de7c63333f40258506ac1f"), looks := true }, kinds := [], alts := [], laidByText := true, laidKinds := [.data, .pinned], laidTests := true, laidLooks := .later }
def FnExactMirrorWordUptoCardSaid : Prop := Claim7.holds Tryd.pinned (.plain (OpenSpec.upto fnExactMirrorWordSpec)) fnExactMirrorWordUptoCard

/-- THE SECOND FORM's CARD OF 'laws.FnExactStoreLine'. -/
def fnExactStoreLineUptoCard : Claim7 := { stood := { row := fnExactStoreLineUptoRow, standIns := [], harness := (true, "af53f77932b043ca49f9c9e8a0966c95eefe0a1e24de7c63333f40258506ac1f"), looks := true }, kinds := [], alts := [], laidByText := true, laidKinds := [.data, .data, .data], laidTests := true, laidLooks := .later }
def FnExactStoreLineUptoCardSaid : Prop := Claim7.holds Tryd.pinned (.plain (OpenSpec.upto fnExactStoreLineSpec)) fnExactStoreLineUptoCard

/-- THE SECOND FORM's CARD OF 'laws.FnExactParseNumbers'. -/
def fnExactParseNumbersUptoCard : Claim7 := { stood := { row := fnExactParseNumbersUptoRow, standIns := [], harness := (true, "af53f77932b043ca49f9c9e8a0966c95eefe0a1e24de7c63333f40258506ac1f"), looks := true }, kinds := [], alts := [], laidByText := true, laidKinds := [.data, .data, .data, .data, .sentinel, .sentinel, .pinned], laidTests := true, laidLooks := .later }
def FnExactParseNumbersUptoCardSaid : Prop := Claim7.holds Tryd.pinned (.plain (OpenSpec.upto fnExactParseNumbersSpec)) fnExactParseNumbersUptoCard

/-- THE SECOND FORM's CARD OF 'laws.FnExactParsePoints'. -/
def fnExactParsePointsUptoCard : Claim7 := { stood := { row := fnExactParsePointsUptoRow, standIns := [], harness := (true, "af53f77932b043ca49f9c9e8a0966c95eefe0a1e24de7c63333f40258506ac1f"), looks := true }, kinds := [], alts := [], laidByText := true, laidKinds := [.data, .data, .data, .data, .sentinel, .sentinel, .pinned], laidTests := true, laidLooks := .later }
def FnExactParsePointsUptoCardSaid : Prop := Claim7.holds Tryd.pinned (.plain (OpenSpec.upto fnExactParsePointsSpec)) fnExactParsePointsUptoCard

/-- THE SECOND FORM's CARD OF 'laws.FnExactMeasureLine'. -/
def fnExactMeasureLineUptoCard : Claim7 := { stood := { row := fnExactMeasureLineUptoRow, standIns := [], harness := (true, "af53f77932b043ca49f9c9e8a0966c95eefe0a1e24de7c63333f40258506ac1f"), looks := true }, kinds := [], alts := [], laidByText := true, laidKinds := [.data, .data, .data], laidTests := true, laidLooks := .later }
def FnExactMeasureLineUptoCardSaid : Prop := Claim7.holds Tryd.pinned (.plain (OpenSpec.upto fnExactMeasureLineSpec)) fnExactMeasureLineUptoCard
end Rows
end Go.Proofs.YtgjjhcaammcpaaaDoor
