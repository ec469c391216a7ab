/-
  DERIVED. GIVEN WITH THE SEED: THE CARDS: each row of YtjabgjlkemfofaaDoorRows.lean that lists a variable, with what it lists TIED to the program's text (the seventh form; the later family's looks); each row that meets fmt, with fmt's text TOLD by the authors' own Lean function (tested against real Go, not proved from fmt's source: count such statements apart). THE CARD IS WHAT COUNTS. Prove the row's statement (the work); the ties are given (YtjabgjlkemfofaaDoorTie.lean); close each card by the builder's one call (the guide's Derived/Test/ToyasCard.lean, 'card_holds'). Laid BY PROGRAM, IN A SANDBOX (cutbox-door.mjs). By AI agents, Wed Nov 11 2026. No macro, syntax, notation, axiom, sorry.
-/
import Derived.Test.YtjabgjlkemfofaaDoorRows
import GoSem.ClaimSeven
namespace Go.Proofs.YtjabgjlkemfofaaDoor
namespace Rows

/-- THE TIED CARD OF 'laws.FnExactPercentText'. -/
def fnExactPercentTextCard : Claim7 := { stood := { row := fnExactPercentTextRow, standIns := [], harness := (true, "72c8dd8d8db6843e6151c69bc1b923baf4e427840799edc99e1d1430de65834f"), looks := false }, kinds := [], alts := [], laidByText := true, laidKinds := [.data, .data, .data], laidTests := true, laidLooks := .later }
def FnExactPercentTextCardSaid : Prop := Claim7.holds Tryd.pinned (.plain (OpenSpec.ofChange fnExactPercentTextSpec)) fnExactPercentTextCard

/-- THE TIED CARD OF 'laws.FnExactReadLabel'. -/
def fnExactReadLabelCard : Claim7 := { stood := { row := fnExactReadLabelRow, standIns := [], harness := (true, "72c8dd8d8db6843e6151c69bc1b923baf4e427840799edc99e1d1430de65834f"), looks := false }, kinds := [], alts := [], laidByText := true, laidKinds := [.data, .pinned], laidTests := true, laidLooks := .later }
def FnExactReadLabelCardSaid : Prop := Claim7.holds Tryd.pinned (.plain (OpenSpec.ofChange fnExactReadLabelSpec)) fnExactReadLabelCard

/-- THE TIED CARD OF 'laws.FnLabels'. -/
def fnLabelsCard : Claim7 := { stood := { row := fnLabelsRow, standIns := [], harness := (true, "72c8dd8d8db6843e6151c69bc1b923baf4e427840799edc99e1d1430de65834f"), looks := false }, kinds := [], alts := [], laidByText := true, laidKinds := [.data, .data, .data, .data, .pinned], laidTests := true, laidLooks := .later }
def FnLabelsCardSaid : Prop := Claim7.holds Tryd.pinned (.plain (OpenSpec.ofChange fnLabelsSpec)) fnLabelsCard

/-- THE SECOND FORM's CARD OF 'laws.FnExactPercentText'. -/
def fnExactPercentTextUptoCard : Claim7 := { stood := { row := fnExactPercentTextUptoRow, standIns := [], harness := (true, "72c8dd8d8db6843e6151c69bc1b923baf4e427840799edc99e1d1430de65834f"), looks := false }, kinds := [], alts := [], laidByText := true, laidKinds := [.data, .data, .data], laidTests := true, laidLooks := .later }
def FnExactPercentTextUptoCardSaid : Prop := Claim7.holds Tryd.pinned (.plain (OpenSpec.upto fnExactPercentTextSpec)) fnExactPercentTextUptoCard

/-- THE SECOND FORM's CARD OF 'laws.FnExactReadLabel'. -/
def fnExactReadLabelUptoCard : Claim7 := { stood := { row := fnExactReadLabelUptoRow, standIns := [], harness := (true, "72c8dd8d8db6843e6151c69bc1b923baf4e427840799edc99e1d1430de65834f"), looks := false }, kinds := [], alts := [], laidByText := true, laidKinds := [.data, .pinned], laidTests := true, laidLooks := .later }
def FnExactReadLabelUptoCardSaid : Prop := Claim7.holds Tryd.pinned (.plain (OpenSpec.upto fnExactReadLabelSpec)) fnExactReadLabelUptoCard

/-- THE SECOND FORM's CARD OF 'laws.FnLabels'. -/
def fnLabelsUptoCard : Claim7 := { stood := { row := fnLabelsUptoRow, standIns := [], harness := (true, "72c8dd8d8db6843e6151c69bc1b923baf4e427840799edc99e1d1430de65834f"), looks := false }, kinds := [], alts := [], laidByText := true, laidKinds := [.data, .data, .data, .data, .pinned], laidTests := true, laidLooks := .later }
def FnLabelsUptoCardSaid : Prop := Claim7.holds Tryd.pinned (.plain (OpenSpec.upto fnLabelsSpec)) fnLabelsUptoCard
end Rows
end Go.Proofs.YtjabgjlkemfofaaDoor
