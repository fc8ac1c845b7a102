/-
  DERIVED. GIVEN WITH THE SEED: THE CARDS: each row of YtimjblnglhmakaaDoorRows.lean that lists a variable, with what it lists TIED to the program's text (the seventh form; the later family's looks); each row that meets fmt, with fmt's text TOLD by the authors' own Lean function (tested against real Go, not proved from fmt's source: count such statements apart). THE CARD IS WHAT COUNTS. Prove the row's statement (the work); the ties are given (YtimjblnglhmakaaDoorTie.lean); close each card by the builder's one call (the guide's Derived/Test/ToyasCard.lean, 'card_holds'). Laid BY PROGRAM, IN A SANDBOX (cutbox-door.mjs). By AI agents, Wed Nov 11 2026. No macro, syntax, notation, axiom, sorry.
-/
import Derived.Test.YtimjblnglhmakaaDoorRows
import GoSem.ClaimSeven
namespace Go.Proofs.YtimjblnglhmakaaDoor
namespace Rows

/-- THE TIED CARD OF 'laws.FnExactStairOf'. -/
def fnExactStairOfCard : Claim7 := { stood := { row := fnExactStairOfRow, standIns := [], harness := (true, "db67f5b5a54c9f31397de544f55d48fa9d1bcc0f366770764b110f372f5e00c3"), looks := true }, kinds := [], alts := [], laidByText := true, laidKinds := [.data, .data], laidTests := true, laidLooks := .later }
def FnExactStairOfCardSaid : Prop := Claim7.holds Tryd.pinned (.plain (OpenSpec.ofChange fnExactStairOfSpec)) fnExactStairOfCard

/-- THE TIED CARD OF 'laws.FnExactTraceOf'. -/
def fnExactTraceOfCard : Claim7 := { stood := { row := fnExactTraceOfRow, standIns := [], harness := (true, "db67f5b5a54c9f31397de544f55d48fa9d1bcc0f366770764b110f372f5e00c3"), looks := true }, kinds := [], alts := [], laidByText := true, laidKinds := [.data, .data], laidTests := true, laidLooks := .later }
def FnExactTraceOfCardSaid : Prop := Claim7.holds Tryd.pinned (.plain (OpenSpec.ofChange fnExactTraceOfSpec)) fnExactTraceOfCard

/-- THE TIED CARD OF 'laws.FnStairs'. -/
def fnStairsCard : Claim7 := { stood := { row := fnStairsRow, standIns := [], harness := (true, "db67f5b5a54c9f31397de544f55d48fa9d1bcc0f366770764b110f372f5e00c3"), looks := true }, kinds := [], alts := [], laidByText := true, laidKinds := [.data, .data], laidTests := true, laidLooks := .later }
def FnStairsCardSaid : Prop := Claim7.holds Tryd.pinned (.plain (OpenSpec.ofChange fnStairsSpec)) fnStairsCard

/-- THE TIED CARD OF 'laws.FnEndsAreLeast'. -/
def fnEndsAreLeastCard : Claim7 := { stood := { row := fnEndsAreLeastRow, standIns := [], harness := (true, "db67f5b5a54c9f31397de544f55d48fa9d1bcc0f366770764b110f372f5e00c3"), looks := true }, kinds := [], alts := [], laidByText := true, laidKinds := [.data, .data], laidTests := true, laidLooks := .later }
def FnEndsAreLeastCardSaid : Prop := Claim7.holds Tryd.pinned (.plain (OpenSpec.ofChange fnEndsAreLeastSpec)) fnEndsAreLeastCard

/-- THE TIED CARD OF 'laws.FnFourRefuse'. -/
def fnFourRefuseCard : Claim7 := { stood := { row := fnFourRefuseRow, standIns := [], harness := (true, "db67f5b5a54c9f31397de544f55d48fa9d1bcc0f366770764b110f372f5e00c3"), looks := true }, kinds := [], alts := [], laidByText := true, laidKinds := [.data, .data], laidTests := true, laidLooks := .later }
def FnFourRefuseCardSaid : Prop := Claim7.holds Tryd.pinned (.plain (OpenSpec.ofChange fnFourRefuseSpec)) fnFourRefuseCard

/-- THE TIED CARD OF 'laws.FnLevelRanks'. -/
def fnLevelRanksCard : Claim7 := { stood := { row := fnLevelRanksRow, standIns := [], harness := (true, "db67f5b5a54c9f31397de544f55d48fa9d1bcc0f366770764b110f372f5e00c3"), looks := true }, kinds := [], alts := [], laidByText := true, laidKinds := [.data, .data], laidTests := true, laidLooks := .later }
def FnLevelRanksCardSaid : Prop := Claim7.holds Tryd.pinned (.plain (OpenSpec.ofChange fnLevelRanksSpec)) fnLevelRanksCard

/-- THE TIED CARD OF 'laws.FnExactParseAscent'. -/
def fnExactParseAscentCard : Claim7 := { stood := { row := fnExactParseAscentRow, standIns := [], harness := (true, "db67f5b5a54c9f31397de544f55d48fa9d1bcc0f366770764b110f372f5e00c3"), looks := true }, kinds := [], alts := [], laidByText := true, laidKinds := [.data, .data, .data, .data, .sentinel, .sentinel, .pinned], laidTests := true, laidLooks := .later }
def FnExactParseAscentCardSaid : Prop := Claim7.holds Tryd.pinned (.plain (OpenSpec.ofChange fnExactParseAscentSpec)) fnExactParseAscentCard

/-- THE TIED CARD OF 'laws.FnRefinements'. -/
def fnRefinementsCard : Claim7 := { stood := { row := fnRefinementsRow, standIns := [], harness := (true, "db67f5b5a54c9f31397de544f55d48fa9d1bcc0f366770764b110f372f5e00c3"), looks := true }, kinds := [], alts := [], laidByText := true, laidKinds := [.data, .data], laidTests := true, laidLooks := .later }
def FnRefinementsCardSaid : Prop := Claim7.holds Tryd.pinned (.plain (OpenSpec.ofChange fnRefinementsSpec)) fnRefinementsCard

/-- THE TIED CARD OF 'laws.FnMirroredEnds'. -/
def fnMirroredEndsCard : Claim7 := { stood := { row := fnMirroredEndsRow, standIns := [], harness := (true, "db67f5b5a54c9f31397de544f55d48fa9d1bcc0f366770764b110f372f5e00c3"), looks := true }, kinds := [], alts := [], laidByText := true, laidKinds := [.data, .data], laidTests := true, laidLooks := .later }
def FnMirroredEndsCardSaid : Prop := Claim7.holds Tryd.pinned (.plain (OpenSpec.ofChange fnMirroredEndsSpec)) fnMirroredEndsCard

/-- THE TIED CARD OF 'laws.FnStretchedIntervals'. -/
def fnStretchedIntervalsCard : Claim7 := { stood := { row := fnStretchedIntervalsRow, standIns := [], harness := (true, "db67f5b5a54c9f31397de544f55d48fa9d1bcc0f366770764b110f372f5e00c3"), looks := true }, kinds := [], alts := [], laidByText := true, laidKinds := [.data, .data], laidTests := true, laidLooks := .later }
def FnStretchedIntervalsCardSaid : Prop := Claim7.holds Tryd.pinned (.plain (OpenSpec.ofChange fnStretchedIntervalsSpec)) fnStretchedIntervalsCard

/-- THE TIED CARD OF 'laws.FnSetsAlong'. -/
def fnSetsAlongCard : Claim7 := { stood := { row := fnSetsAlongRow, standIns := [], harness := (true, "db67f5b5a54c9f31397de544f55d48fa9d1bcc0f366770764b110f372f5e00c3"), looks := true }, kinds := [], alts := [], laidByText := true, laidKinds := [.data, .data], laidTests := true, laidLooks := .later }
def FnSetsAlongCardSaid : Prop := Claim7.holds Tryd.pinned (.plain (OpenSpec.ofChange fnSetsAlongSpec)) fnSetsAlongCard

/-- THE SECOND FORM's CARD OF 'laws.FnExactStairOf'. -/
def fnExactStairOfUptoCard : Claim7 := { stood := { row := fnExactStairOfUptoRow, standIns := [], harness := (true, "db67f5b5a54c9f31397de544f55d48fa9d1bcc0f366770764b110f372f5e00c3"), looks := true }, kinds := [], alts := [], laidByText := true, laidKinds := [.data, .data], laidTests := true, laidLooks := .later }
def FnExactStairOfUptoCardSaid : Prop := Claim7.holds Tryd.pinned (.plain (OpenSpec.upto fnExactStairOfSpec)) fnExactStairOfUptoCard

/-- THE SECOND FORM's CARD OF 'laws.FnExactTraceOf'. -/
def fnExactTraceOfUptoCard : Claim7 := { stood := { row := fnExactTraceOfUptoRow, standIns := [], harness := (true, "db67f5b5a54c9f31397de544f55d48fa9d1bcc0f366770764b110f372f5e00c3"), looks := true }, kinds := [], alts := [], laidByText := true, laidKinds := [.data, .data], laidTests := true, laidLooks := .later }
def FnExactTraceOfUptoCardSaid : Prop := Claim7.holds Tryd.pinned (.plain (OpenSpec.upto fnExactTraceOfSpec)) fnExactTraceOfUptoCard

/-- THE SECOND FORM's CARD OF 'laws.FnStairs'. -/
def fnStairsUptoCard : Claim7 := { stood := { row := fnStairsUptoRow, standIns := [], harness := (true, "db67f5b5a54c9f31397de544f55d48fa9d1bcc0f366770764b110f372f5e00c3"), looks := true }, kinds := [], alts := [], laidByText := true, laidKinds := [.data, .data], laidTests := true, laidLooks := .later }
def FnStairsUptoCardSaid : Prop := Claim7.holds Tryd.pinned (.plain (OpenSpec.upto fnStairsSpec)) fnStairsUptoCard

/-- THE SECOND FORM's CARD OF 'laws.FnEndsAreLeast'. -/
def fnEndsAreLeastUptoCard : Claim7 := { stood := { row := fnEndsAreLeastUptoRow, standIns := [], harness := (true, "db67f5b5a54c9f31397de544f55d48fa9d1bcc0f366770764b110f372f5e00c3"), looks := true }, kinds := [], alts := [], laidByText := true, laidKinds := [.data, .data], laidTests := true, laidLooks := .later }
def FnEndsAreLeastUptoCardSaid : Prop := Claim7.holds Tryd.pinned (.plain (OpenSpec.upto fnEndsAreLeastSpec)) fnEndsAreLeastUptoCard

/-- THE SECOND FORM's CARD OF 'laws.FnFourRefuse'. -/
def fnFourRefuseUptoCard : Claim7 := { stood := { row := fnFourRefuseUptoRow, standIns := [], harness := (true, "db67f5b5a54c9f31397de544f55d48fa9d1bcc0f366770764b110f372f5e00c3"), looks := true }, kinds := [], alts := [], laidByText := true, laidKinds := [.data, .data], laidTests := true, laidLooks := .later }
def FnFourRefuseUptoCardSaid : Prop := Claim7.holds Tryd.pinned (.plain (OpenSpec.upto fnFourRefuseSpec)) fnFourRefuseUptoCard

/-- THE SECOND FORM's CARD OF 'laws.FnLevelRanks'. -/
def fnLevelRanksUptoCard : Claim7 := { stood := { row := fnLevelRanksUptoRow, standIns := [], harness := (true, "db67f5b5a54c9f31397de544f55d48fa9d1bcc0f366770764b110f372f5e00c3"), looks := true }, kinds := [], alts := [], laidByText := true, laidKinds := [.data, .data], laidTests := true, laidLooks := .later }
def FnLevelRanksUptoCardSaid : Prop := Claim7.holds Tryd.pinned (.plain (OpenSpec.upto fnLevelRanksSpec)) fnLevelRanksUptoCard

/-- THE SECOND FORM's CARD OF 'laws.FnExactParseAscent'. -/
def fnExactParseAscentUptoCard : Claim7 := { stood := { row := fnExactParseAscentUptoRow, standIns := [], harness := (true, "db67f5b5a54c9f31397de544f55d48fa9d1bcc0f366770764b110f372f5e00c3"), looks := true }, kinds := [], alts := [], laidByText := true, laidKinds := [.data, .data, .data, .data, .sentinel, .sentinel, .pinned], laidTests := true, laidLooks := .later }
def FnExactParseAscentUptoCardSaid : Prop := Claim7.holds Tryd.pinned (.plain (OpenSpec.upto fnExactParseAscentSpec)) fnExactParseAscentUptoCard

/-- THE SECOND FORM's CARD OF 'laws.FnRefinements'. -/
def fnRefinementsUptoCard : Claim7 := { stood := { row := fnRefinementsUptoRow, standIns := [], harness := (true, "db67f5b5a54c9f31397de544f55d48fa9d1bcc0f366770764b110f372f5e00c3"), looks := true }, kinds := [], alts := [], laidByText := true, laidKinds := [.data, .data], laidTests := true, laidLooks := .later }
def FnRefinementsUptoCardSaid : Prop := Claim7.holds Tryd.pinned (.plain (OpenSpec.upto fnRefinementsSpec)) fnRefinementsUptoCard

/-- THE SECOND FORM's CARD OF 'laws.FnMirroredEnds'. -/
def fnMirroredEndsUptoCard : Claim7 := { stood := { row := fnMirroredEndsUptoRow, standIns := [], harness := (true, "db67f5b5a54c9f31397de544f55d48fa9d1bcc0f366770764b110f372f5e00c3"), looks := true }, kinds := [], alts := [], laidByText := true, laidKinds := [.data, .data], laidTests := true, laidLooks := .later }
def FnMirroredEndsUptoCardSaid : Prop := Claim7.holds Tryd.pinned (.plain (OpenSpec.upto fnMirroredEndsSpec)) fnMirroredEndsUptoCard

/-- THE SECOND FORM's CARD OF 'laws.FnStretchedIntervals'. -/
def fnStretchedIntervalsUptoCard : Claim7 := { stood := { row := fnStretchedIntervalsUptoRow, standIns := [], harness := (true, "db67f5b5a54c9f31397de544f55d48fa9d1bcc0f366770764b110f372f5e00c3"), looks := true }, kinds := [], alts := [], laidByText := true, laidKinds := [.data, .data], laidTests := true, laidLooks := .later }
def FnStretchedIntervalsUptoCardSaid : Prop := Claim7.holds Tryd.pinned (.plain (OpenSpec.upto fnStretchedIntervalsSpec)) fnStretchedIntervalsUptoCard

/-- THE SECOND FORM's CARD OF 'laws.FnSetsAlong'. -/
def fnSetsAlongUptoCard : Claim7 := { stood := { row := fnSetsAlongUptoRow, standIns := [], harness := (true, "db67f5b5a54c9f31397de544f55d48fa9d1bcc0f366770764b110f372f5e00c3"), looks := true }, kinds := [], alts := [], laidByText := true, laidKinds := [.data, .data], laidTests := true, laidLooks := .later }
def FnSetsAlongUptoCardSaid : Prop := Claim7.holds Tryd.pinned (.plain (OpenSpec.upto fnSetsAlongSpec)) fnSetsAlongUptoCard
end Rows
end Go.Proofs.YtimjblnglhmakaaDoor
