/-
  DERIVED. GIVEN WITH THE SEED: THE CARDS: each row of YtjdkcafpgebjfaaDoorRows.lean that lists a variable, with what it lists TIED to the program's text (the seventh form; the later family's looks); each row that meets fmt, with fmt's text TOLD by the authors' own Lean function (tested against real Go, not proved from fmt's source: count such statements apart). THE CARD IS WHAT COUNTS. Prove the row's statement (the work); the ties are given (YtjdkcafpgebjfaaDoorTie.lean); close each card by the builder's one call (the guide's Derived/Test/ToyasCard.lean, 'card_holds'). Laid BY PROGRAM, IN A SANDBOX (cutbox-door.mjs). By AI agents, Wed Nov 11 2026. No macro, syntax, notation, axiom, sorry.
-/
import Derived.Test.YtjdkcafpgebjfaaDoorRows
import GoSem.ClaimSeven
namespace Go.Proofs.YtjdkcafpgebjfaaDoor
namespace Rows

/-- THE TIED CARD OF 'laws.FnExactMeetOrders'. -/
def fnExactMeetOrdersCard : Claim7 := { stood := { row := fnExactMeetOrdersRow, standIns := [], harness := (true, "5d58891a245336e29b7e5b518917121b9d138b4959fb48b1af33e9c76743e3aa"), looks := false }, kinds := [], alts := [], laidByText := true, laidKinds := [.data, .data], laidTests := true, laidLooks := .later }
def FnExactMeetOrdersCardSaid : Prop := Claim7.holds Tryd.pinned (.plain (OpenSpec.ofChange fnExactMeetOrdersSpec)) fnExactMeetOrdersCard

/-- THE TIED CARD OF 'laws.FnOrdersOfPlaces'. -/
def fnOrdersOfPlacesCard : Claim7 := { stood := { row := fnOrdersOfPlacesRow, standIns := [], harness := (true, "5d58891a245336e29b7e5b518917121b9d138b4959fb48b1af33e9c76743e3aa"), looks := false }, kinds := [], alts := [], laidByText := true, laidKinds := [.data, .data], laidTests := true, laidLooks := .later }
def FnOrdersOfPlacesCardSaid : Prop := Claim7.holds Tryd.pinned (.plain (OpenSpec.ofChange fnOrdersOfPlacesSpec)) fnOrdersOfPlacesCard

/-- THE TIED CARD OF 'laws.FnMirrors'. -/
def fnMirrorsCard : Claim7 := { stood := { row := fnMirrorsRow, standIns := [], harness := (true, "5d58891a245336e29b7e5b518917121b9d138b4959fb48b1af33e9c76743e3aa"), looks := false }, kinds := [], alts := [], laidByText := true, laidKinds := [.data, .data], laidTests := true, laidLooks := .later }
def FnMirrorsCardSaid : Prop := Claim7.holds Tryd.pinned (.plain (OpenSpec.ofChange fnMirrorsSpec)) fnMirrorsCard

/-- THE TIED CARD OF 'laws.FnClosures'. -/
def fnClosuresCard : Claim7 := { stood := { row := fnClosuresRow, standIns := [], harness := (true, "5d58891a245336e29b7e5b518917121b9d138b4959fb48b1af33e9c76743e3aa"), looks := false }, kinds := [], alts := [], laidByText := true, laidKinds := [.data, .data], laidTests := true, laidLooks := .later }
def FnClosuresCardSaid : Prop := Claim7.holds Tryd.pinned (.plain (OpenSpec.ofChange fnClosuresSpec)) fnClosuresCard

/-- THE TIED CARD OF 'laws.FnExtensions'. -/
def fnExtensionsCard : Claim7 := { stood := { row := fnExtensionsRow, standIns := [], harness := (true, "5d58891a245336e29b7e5b518917121b9d138b4959fb48b1af33e9c76743e3aa"), looks := false }, kinds := [], alts := [], laidByText := true, laidKinds := [.data, .data], laidTests := true, laidLooks := .later }
def FnExtensionsCardSaid : Prop := Claim7.holds Tryd.pinned (.plain (OpenSpec.ofChange fnExtensionsSpec)) fnExtensionsCard

/-- THE TIED CARD OF 'laws.FnExactAscentText'. -/
def fnExactAscentTextCard : Claim7 := { stood := { row := fnExactAscentTextRow, standIns := [], harness := (true, "5d58891a245336e29b7e5b518917121b9d138b4959fb48b1af33e9c76743e3aa"), looks := false }, kinds := [], alts := [], laidByText := true, laidKinds := [.data, .data, .data], laidTests := true, laidLooks := .later }
def FnExactAscentTextCardSaid : Prop := Claim7.holds Tryd.pinned (.plain (OpenSpec.ofChange fnExactAscentTextSpec)) fnExactAscentTextCard

/-- THE TIED CARD OF 'laws.FnExtensionsAccepted'. -/
def fnExtensionsAcceptedCard : Claim7 := { stood := { row := fnExtensionsAcceptedRow, standIns := [], harness := (true, "5d58891a245336e29b7e5b518917121b9d138b4959fb48b1af33e9c76743e3aa"), looks := false }, kinds := [], alts := [], laidByText := true, laidKinds := [.data, .data], laidTests := true, laidLooks := .later }
def FnExtensionsAcceptedCardSaid : Prop := Claim7.holds Tryd.pinned (.plain (OpenSpec.ofChange fnExtensionsAcceptedSpec)) fnExtensionsAcceptedCard

/-- THE TIED CARD OF 'laws.FnPatterns'. -/
def fnPatternsCard : Claim7 := { stood := { row := fnPatternsRow, standIns := [], harness := (true, "5d58891a245336e29b7e5b518917121b9d138b4959fb48b1af33e9c76743e3aa"), looks := false }, kinds := [], alts := [], laidByText := true, laidKinds := [.data, .data], laidTests := true, laidLooks := .later }
def FnPatternsCardSaid : Prop := Claim7.holds Tryd.pinned (.plain (OpenSpec.ofChange fnPatternsSpec)) fnPatternsCard

/-- THE TIED CARD OF 'laws.FnThresholds'. -/
def fnThresholdsCard : Claim7 := { stood := { row := fnThresholdsRow, standIns := [], harness := (true, "5d58891a245336e29b7e5b518917121b9d138b4959fb48b1af33e9c76743e3aa"), looks := false }, kinds := [], alts := [], laidByText := true, laidKinds := [.data, .data], laidTests := true, laidLooks := .later }
def FnThresholdsCardSaid : Prop := Claim7.holds Tryd.pinned (.plain (OpenSpec.ofChange fnThresholdsSpec)) fnThresholdsCard

/-- THE TIED CARD OF 'laws.FnChainsAndAntichains'. -/
def fnChainsAndAntichainsCard : Claim7 := { stood := { row := fnChainsAndAntichainsRow, standIns := [], harness := (true, "5d58891a245336e29b7e5b518917121b9d138b4959fb48b1af33e9c76743e3aa"), looks := false }, kinds := [], alts := [], laidByText := true, laidKinds := [.data, .data], laidTests := true, laidLooks := .later }
def FnChainsAndAntichainsCardSaid : Prop := Claim7.holds Tryd.pinned (.plain (OpenSpec.ofChange fnChainsAndAntichainsSpec)) fnChainsAndAntichainsCard

/-- THE SECOND FORM's CARD OF 'laws.FnExactMeetOrders'. -/
def fnExactMeetOrdersUptoCard : Claim7 := { stood := { row := fnExactMeetOrdersUptoRow, standIns := [], harness := (true, "5d58891a245336e29b7e5b518917121b9d138b4959fb48b1af33e9c76743e3aa"), looks := false }, kinds := [], alts := [], laidByText := true, laidKinds := [.data, .data], laidTests := true, laidLooks := .later }
def FnExactMeetOrdersUptoCardSaid : Prop := Claim7.holds Tryd.pinned (.plain (OpenSpec.upto fnExactMeetOrdersSpec)) fnExactMeetOrdersUptoCard

/-- THE SECOND FORM's CARD OF 'laws.FnOrdersOfPlaces'. -/
def fnOrdersOfPlacesUptoCard : Claim7 := { stood := { row := fnOrdersOfPlacesUptoRow, standIns := [], harness := (true, "5d58891a245336e29b7e5b518917121b9d138b4959fb48b1af33e9c76743e3aa"), looks := false }, kinds := [], alts := [], laidByText := true, laidKinds := [.data, .data], laidTests := true, laidLooks := .later }
def FnOrdersOfPlacesUptoCardSaid : Prop := Claim7.holds Tryd.pinned (.plain (OpenSpec.upto fnOrdersOfPlacesSpec)) fnOrdersOfPlacesUptoCard

/-- THE SECOND FORM's CARD OF 'laws.FnMirrors'. -/
def fnMirrorsUptoCard : Claim7 := { stood := { row := fnMirrorsUptoRow, standIns := [], harness := (true, "5d58891a245336e29b7e5b518917121b9d138b4959fb48b1af33e9c76743e3aa"), looks := false }, kinds := [], alts := [], laidByText := true, laidKinds := [.data, .data], laidTests := true, laidLooks := .later }
def FnMirrorsUptoCardSaid : Prop := Claim7.holds Tryd.pinned (.plain (OpenSpec.upto fnMirrorsSpec)) fnMirrorsUptoCard

/-- THE SECOND FORM's CARD OF 'laws.FnClosures'. -/
def fnClosuresUptoCard : Claim7 := { stood := { row := fnClosuresUptoRow, standIns := [], harness := (true, "5d58891a245336e29b7e5b518917121b9d138b4959fb48b1af33e9c76743e3aa"), looks := false }, kinds := [], alts := [], laidByText := true, laidKinds := [.data, .data], laidTests := true, laidLooks := .later }
def FnClosuresUptoCardSaid : Prop := Claim7.holds Tryd.pinned (.plain (OpenSpec.upto fnClosuresSpec)) fnClosuresUptoCard

/-- THE SECOND FORM's CARD OF 'laws.FnExtensions'. -/
def fnExtensionsUptoCard : Claim7 := { stood := { row := fnExtensionsUptoRow, standIns := [], harness := (true, "5d58891a245336e29b7e5b518917121b9d138b4959fb48b1af33e9c76743e3aa"), looks := false }, kinds := [], alts := [], laidByText := true, laidKinds := [.data, .data], laidTests := true, laidLooks := .later }
def FnExtensionsUptoCardSaid : Prop := Claim7.holds Tryd.pinned (.plain (OpenSpec.upto fnExtensionsSpec)) fnExtensionsUptoCard

/-- THE SECOND FORM's CARD OF 'laws.FnExactAscentText'. -/
def fnExactAscentTextUptoCard : Claim7 := { stood := { row := fnExactAscentTextUptoRow, standIns := [], harness := (true, "5d58891a245336e29b7e5b518917121b9d138b4959fb48b1af33e9c76743e3aa"), looks := false }, kinds := [], alts := [], laidByText := true, laidKinds := [.data, .data, .data], laidTests := true, laidLooks := .later }
def FnExactAscentTextUptoCardSaid : Prop := Claim7.holds Tryd.pinned (.plain (OpenSpec.upto fnExactAscentTextSpec)) fnExactAscentTextUptoCard

/-- THE SECOND FORM's CARD OF 'laws.FnExtensionsAccepted'. -/
def fnExtensionsAcceptedUptoCard : Claim7 := { stood := { row := fnExtensionsAcceptedUptoRow, standIns := [], harness := (true, "5d58891a245336e29b7e5b518917121b9d138b4959fb48b1af33e9c76743e3aa"), looks := false }, kinds := [], alts := [], laidByText := true, laidKinds := [.data, .data], laidTests := true, laidLooks := .later }
def FnExtensionsAcceptedUptoCardSaid : Prop := Claim7.holds Tryd.pinned (.plain (OpenSpec.upto fnExtensionsAcceptedSpec)) fnExtensionsAcceptedUptoCard

/-- THE SECOND FORM's CARD OF 'laws.FnPatterns'. -/
def fnPatternsUptoCard : Claim7 := { stood := { row := fnPatternsUptoRow, standIns := [], harness := (true, "5d58891a245336e29b7e5b518917121b9d138b4959fb48b1af33e9c76743e3aa"), looks := false }, kinds := [], alts := [], laidByText := true, laidKinds := [.data, .data], laidTests := true, laidLooks := .later }
def FnPatternsUptoCardSaid : Prop := Claim7.holds Tryd.pinned (.plain (OpenSpec.upto fnPatternsSpec)) fnPatternsUptoCard

/-- THE SECOND FORM's CARD OF 'laws.FnThresholds'. -/
def fnThresholdsUptoCard : Claim7 := { stood := { row := fnThresholdsUptoRow, standIns := [], harness := (true, "5d58891a245336e29b7e5b518917121b9d138b4959fb48b1af33e9c76743e3aa"), looks := false }, kinds := [], alts := [], laidByText := true, laidKinds := [.data, .data], laidTests := true, laidLooks := .later }
def FnThresholdsUptoCardSaid : Prop := Claim7.holds Tryd.pinned (.plain (OpenSpec.upto fnThresholdsSpec)) fnThresholdsUptoCard

/-- THE SECOND FORM's CARD OF 'laws.FnChainsAndAntichains'. -/
def fnChainsAndAntichainsUptoCard : Claim7 := { stood := { row := fnChainsAndAntichainsUptoRow, standIns := [], harness := (true, "5d58891a245336e29b7e5b518917121b9d138b4959fb48b1af33e9c76743e3aa"), looks := false }, kinds := [], alts := [], laidByText := true, laidKinds := [.data, .data], laidTests := true, laidLooks := .later }
def FnChainsAndAntichainsUptoCardSaid : Prop := Claim7.holds Tryd.pinned (.plain (OpenSpec.upto fnChainsAndAntichainsSpec)) fnChainsAndAntichainsUptoCard
end Rows
end Go.Proofs.YtjdkcafpgebjfaaDoor
