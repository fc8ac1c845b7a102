/-
  DERIVED. GIVEN WITH THE SEED: THE CARDS: each row of YtfjpilcmjabikaaDoorRows.lean that lists a variable, with what it lists TIED to the program's text (the seventh form; the later family's looks); each row that meets fmt, with fmt's text TOLD by the authors' own Lean function (tested against real Go, not proved from fmt's source: count such statements apart). THE CARD IS WHAT COUNTS. Prove the row's statement (the work); the ties are given (YtfjpilcmjabikaaDoorTie.lean); close each card by the builder's one call (the guide's Derived/Test/ToyasCard.lean, 'card_holds'). Laid BY PROGRAM, IN A SANDBOX (cutbox-door.mjs). By AI agents, Wed Nov 11 2026. No macro, syntax, notation, axiom, sorry.
-/
import Derived.Test.YtfjpilcmjabikaaDoorRows
import GoSem.ClaimSeven
namespace Go.Proofs.YtfjpilcmjabikaaDoor
namespace Rows

/-- THE TIED CARD OF 'laws.FnClosures'. -/
def fnClosuresCard : Claim7 := { stood := { row := fnClosuresRow, standIns := [], harness := (true, "cbc73dea4075ecc5178c1d86ac8785e85380fe9f1c42682a40ca8edfcba2920b"), looks := false }, kinds := [], alts := [], laidByText := true, laidKinds := [.data, .data], laidTests := true, laidLooks := .later }
def FnClosuresCardSaid : Prop := Claim7.holds Tryd.pinned (.plain (OpenSpec.ofChange fnClosuresSpec)) fnClosuresCard

/-- THE TIED CARD OF 'laws.FnExactAscentText'. -/
def fnExactAscentTextCard : Claim7 := { stood := { row := fnExactAscentTextRow, standIns := [], harness := (true, "cbc73dea4075ecc5178c1d86ac8785e85380fe9f1c42682a40ca8edfcba2920b"), looks := false }, kinds := [], alts := [], laidByText := true, laidKinds := [.data, .data, .data], laidTests := true, laidLooks := .later }
def FnExactAscentTextCardSaid : Prop := Claim7.holds Tryd.pinned (.plain (OpenSpec.ofChange fnExactAscentTextSpec)) fnExactAscentTextCard

/-- THE TIED CARD OF 'laws.FnPatterns'. -/
def fnPatternsCard : Claim7 := { stood := { row := fnPatternsRow, standIns := [], harness := (true, "cbc73dea4075ecc5178c1d86ac8785e85380fe9f1c42682a40ca8edfcba2920b"), looks := false }, kinds := [], alts := [], laidByText := true, laidKinds := [.data, .data], laidTests := true, laidLooks := .later }
def FnPatternsCardSaid : Prop := Claim7.holds Tryd.pinned (.plain (OpenSpec.ofChange fnPatternsSpec)) fnPatternsCard

/-- THE TIED CARD OF 'laws.FnThresholds'. -/
def fnThresholdsCard : Claim7 := { stood := { row := fnThresholdsRow, standIns := [], harness := (true, "cbc73dea4075ecc5178c1d86ac8785e85380fe9f1c42682a40ca8edfcba2920b"), looks := false }, kinds := [], alts := [], laidByText := true, laidKinds := [.data, .data], laidTests := true, laidLooks := .later }
def FnThresholdsCardSaid : Prop := Claim7.holds Tryd.pinned (.plain (OpenSpec.ofChange fnThresholdsSpec)) fnThresholdsCard

/-- THE TIED CARD OF 'laws.FnChainsAndAntichains'. -/
def fnChainsAndAntichainsCard : Claim7 := { stood := { row := fnChainsAndAntichainsRow, standIns := [], harness := (true, "cbc73dea4075ecc5178c1d86ac8785e85380fe9f1c42682a40ca8edfcba2920b"), looks := false }, kinds := [], alts := [], laidByText := true, laidKinds := [.data, .data], laidTests := true, laidLooks := .later }
def FnChainsAndAntichainsCardSaid : Prop := Claim7.holds Tryd.pinned (.plain (OpenSpec.ofChange fnChainsAndAntichainsSpec)) fnChainsAndAntichainsCard

/-- THE TIED CARD OF 'laws.FnFourRefuse'. -/
def fnFourRefuseCard : Claim7 := { stood := { row := fnFourRefuseRow, standIns := [], harness := (true, "cbc73dea4075ecc5178c1d86ac8785e85380fe9f1c42682a40ca8edfcba2920b"), looks := false }, kinds := [], alts := [], laidByText := true, laidKinds := [.data, .data], laidTests := true, laidLooks := .later }
def FnFourRefuseCardSaid : Prop := Claim7.holds Tryd.pinned (.plain (OpenSpec.ofChange fnFourRefuseSpec)) fnFourRefuseCard

/-- THE SECOND FORM's CARD OF 'laws.FnClosures'. -/
def fnClosuresUptoCard : Claim7 := { stood := { row := fnClosuresUptoRow, standIns := [], harness := (true, "cbc73dea4075ecc5178c1d86ac8785e85380fe9f1c42682a40ca8edfcba2920b"), looks := false }, kinds := [], alts := [], laidByText := true, laidKinds := [.data, .data], laidTests := true, laidLooks := .later }
def FnClosuresUptoCardSaid : Prop := Claim7.holds Tryd.pinned (.plain (OpenSpec.upto fnClosuresSpec)) fnClosuresUptoCard

/-- THE SECOND FORM's CARD OF 'laws.FnExactAscentText'. -/
def fnExactAscentTextUptoCard : Claim7 := { stood := { row := fnExactAscentTextUptoRow, standIns := [], harness := (true, "cbc73dea4075ecc5178c1d86ac8785e85380fe9f1c42682a40ca8edfcba2920b"), looks := false }, kinds := [], alts := [], laidByText := true, laidKinds := [.data, .data, .data], laidTests := true, laidLooks := .later }
def FnExactAscentTextUptoCardSaid : Prop := Claim7.holds Tryd.pinned (.plain (OpenSpec.upto fnExactAscentTextSpec)) fnExactAscentTextUptoCard

/-- THE SECOND FORM's CARD OF 'laws.FnPatterns'. -/
def fnPatternsUptoCard : Claim7 := { stood := { row := fnPatternsUptoRow, standIns := [], harness := (true, "cbc73dea4075ecc5178c1d86ac8785e85380fe9f1c42682a40ca8edfcba2920b"), looks := false }, kinds := [], alts := [], laidByText := true, laidKinds := [.data, .data], laidTests := true, laidLooks := .later }
def FnPatternsUptoCardSaid : Prop := Claim7.holds Tryd.pinned (.plain (OpenSpec.upto fnPatternsSpec)) fnPatternsUptoCard

/-- THE SECOND FORM's CARD OF 'laws.FnThresholds'. -/
def fnThresholdsUptoCard : Claim7 := { stood := { row := fnThresholdsUptoRow, standIns := [], harness := (true, "cbc73dea4075ecc5178c1d86ac8785e85380fe9f1c42682a40ca8edfcba2920b"), looks := false }, kinds := [], alts := [], laidByText := true, laidKinds := [.data, .data], laidTests := true, laidLooks := .later }
def FnThresholdsUptoCardSaid : Prop := Claim7.holds Tryd.pinned (.plain (OpenSpec.upto fnThresholdsSpec)) fnThresholdsUptoCard

/-- THE SECOND FORM's CARD OF 'laws.FnChainsAndAntichains'. -/
def fnChainsAndAntichainsUptoCard : Claim7 := { stood := { row := fnChainsAndAntichainsUptoRow, standIns := [], harness := (true, "cbc73dea4075ecc5178c1d86ac8785e85380fe9f1c42682a40ca8edfcba2920b"), looks := false }, kinds := [], alts := [], laidByText := true, laidKinds := [.data, .data], laidTests := true, laidLooks := .later }
def FnChainsAndAntichainsUptoCardSaid : Prop := Claim7.holds Tryd.pinned (.plain (OpenSpec.upto fnChainsAndAntichainsSpec)) fnChainsAndAntichainsUptoCard

/-- THE SECOND FORM's CARD OF 'laws.FnFourRefuse'. -/
def fnFourRefuseUptoCard : Claim7 := { stood := { row := fnFourRefuseUptoRow, standIns := [], harness := (true, "cbc73dea4075ecc5178c1d86ac8785e85380fe9f1c42682a40ca8edfcba2920b"), looks := false }, kinds := [], alts := [], laidByText := true, laidKinds := [.data, .data], laidTests := true, laidLooks := .later }
def FnFourRefuseUptoCardSaid : Prop := Claim7.holds Tryd.pinned (.plain (OpenSpec.upto fnFourRefuseSpec)) fnFourRefuseUptoCard
end Rows
end Go.Proofs.YtfjpilcmjabikaaDoor
