/-
  DERIVED. GIVEN WITH THE SEED: THE CARDS: each row of YtckaaaebegemoaaDoorRows.lean that lists a variable, with what it lists TIED to the program's text (the seventh form; the later family's looks); each row that meets fmt, with fmt's text TOLD by the authors' own Lean function (tested against real Go, not proved from fmt's source: count such statements apart). THE CARD IS WHAT COUNTS. Prove the row's statement (the work); the ties are given (YtckaaaebegemoaaDoorTie.lean); close each card by the builder's one call (the guide's Derived/Test/ToyasCard.lean, 'card_holds'). Laid BY PROGRAM, IN A SANDBOX (cutbox-door.mjs). By AI agents, Wed Nov 11 2026. No macro, syntax, notation, axiom, sorry.
-/
import Derived.Test.YtckaaaebegemoaaDoorRows
import GoSem.ClaimSeven
namespace Go.Proofs.YtckaaaebegemoaaDoor
namespace Rows

/-- THE TIED CARD OF 'gasworkslaw08.DialPairs'. -/
def dialPairsCard : Claim7 := { stood := { row := dialPairsRow, standIns := [], harness := (true, "ee6b914237f3c3cc930a80bccfe7fa7ce077ed56b0908110a287c14031545929"), looks := false }, kinds := [], alts := [], laidByText := true, laidKinds := [.data], laidTests := true, laidLooks := .later }
def DialPairsCardSaid : Prop := Claim7.holds Tryd.pinned (.plain (OpenSpec.ofChange dialPairsSpec)) dialPairsCard

/-- THE TIED CARD OF 'gasworkslaw08.DialGas'. -/
def dialGasCard : Claim7 := { stood := { row := dialGasRow, standIns := [], harness := (true, "ee6b914237f3c3cc930a80bccfe7fa7ce077ed56b0908110a287c14031545929"), looks := false }, kinds := [], alts := [], laidByText := true, laidKinds := [.data], laidTests := true, laidLooks := .later }
def DialGasCardSaid : Prop := Claim7.holds Tryd.pinned (.plain (OpenSpec.ofChange dialGasSpec)) dialGasCard

/-- THE TIED CARD OF 'gasworkslaw08.DialTrue'. -/
def dialTrueCard : Claim7 := { stood := { row := dialTrueRow, standIns := [], harness := (true, "ee6b914237f3c3cc930a80bccfe7fa7ce077ed56b0908110a287c14031545929"), looks := false }, kinds := [], alts := [], laidByText := true, laidKinds := [.data], laidTests := true, laidLooks := .later }
def DialTrueCardSaid : Prop := Claim7.holds Tryd.pinned (.plain (OpenSpec.ofChange dialTrueSpec)) dialTrueCard

/-- THE TIED CARD OF 'gasworkslaw08.DialEnds'. -/
def dialEndsCard : Claim7 := { stood := { row := dialEndsRow, standIns := [], harness := (true, "ee6b914237f3c3cc930a80bccfe7fa7ce077ed56b0908110a287c14031545929"), looks := false }, kinds := [], alts := [], laidByText := true, laidKinds := [.data], laidTests := true, laidLooks := .later }
def DialEndsCardSaid : Prop := Claim7.holds Tryd.pinned (.plain (OpenSpec.ofChange dialEndsSpec)) dialEndsCard

/-- THE TIED CARD OF 'gasworkslaw08.DialSplit'. -/
def dialSplitCard : Claim7 := { stood := { row := dialSplitRow, standIns := [], harness := (true, "ee6b914237f3c3cc930a80bccfe7fa7ce077ed56b0908110a287c14031545929"), looks := false }, kinds := [], alts := [], laidByText := true, laidKinds := [.data], laidTests := true, laidLooks := .later }
def DialSplitCardSaid : Prop := Claim7.holds Tryd.pinned (.plain (OpenSpec.ofChange dialSplitSpec)) dialSplitCard

/-- THE TIED CARD OF 'gasworkslaw08.DialMore'. -/
def dialMoreCard : Claim7 := { stood := { row := dialMoreRow, standIns := [], harness := (true, "ee6b914237f3c3cc930a80bccfe7fa7ce077ed56b0908110a287c14031545929"), looks := false }, kinds := [], alts := [], laidByText := true, laidKinds := [.data], laidTests := true, laidLooks := .later }
def DialMoreCardSaid : Prop := Claim7.holds Tryd.pinned (.plain (OpenSpec.ofChange dialMoreSpec)) dialMoreCard

/-- THE SECOND FORM's CARD OF 'gasworkslaw08.DialPairs'. -/
def dialPairsUptoCard : Claim7 := { stood := { row := dialPairsUptoRow, standIns := [], harness := (true, "ee6b914237f3c3cc930a80bccfe7fa7ce077ed56b0908110a287c14031545929"), looks := false }, kinds := [], alts := [], laidByText := true, laidKinds := [.data], laidTests := true, laidLooks := .later }
def DialPairsUptoCardSaid : Prop := Claim7.holds Tryd.pinned (.plain (OpenSpec.upto dialPairsSpec)) dialPairsUptoCard

/-- THE SECOND FORM's CARD OF 'gasworkslaw08.DialGas'. -/
def dialGasUptoCard : Claim7 := { stood := { row := dialGasUptoRow, standIns := [], harness := (true, "ee6b914237f3c3cc930a80bccfe7fa7ce077ed56b0908110a287c14031545929"), looks := false }, kinds := [], alts := [], laidByText := true, laidKinds := [.data], laidTests := true, laidLooks := .later }
def DialGasUptoCardSaid : Prop := Claim7.holds Tryd.pinned (.plain (OpenSpec.upto dialGasSpec)) dialGasUptoCard

/-- THE SECOND FORM's CARD OF 'gasworkslaw08.DialTrue'. -/
def dialTrueUptoCard : Claim7 := { stood := { row := dialTrueUptoRow, standIns := [], harness := (true, "ee6b914237f3c3cc930a80bccfe7fa7ce077ed56b0908110a287c14031545929"), looks := false }, kinds := [], alts := [], laidByText := true, laidKinds := [.data], laidTests := true, laidLooks := .later }
def DialTrueUptoCardSaid : Prop := Claim7.holds Tryd.pinned (.plain (OpenSpec.upto dialTrueSpec)) dialTrueUptoCard

/-- THE SECOND FORM's CARD OF 'gasworkslaw08.DialEnds'. -/
def dialEndsUptoCard : Claim7 := { stood := { row := dialEndsUptoRow, standIns := [], harness := (true, "ee6b914237f3c3cc930a80bccfe7fa7ce077ed56b0908110a287c14031545929"), looks := false }, kinds := [], alts := [], laidByText := true, laidKinds := [.data], laidTests := true, laidLooks := .later }
def DialEndsUptoCardSaid : Prop := Claim7.holds Tryd.pinned (.plain (OpenSpec.upto dialEndsSpec)) dialEndsUptoCard

/-- THE SECOND FORM's CARD OF 'gasworkslaw08.DialSplit'. -/
def dialSplitUptoCard : Claim7 := { stood := { row := dialSplitUptoRow, standIns := [], harness := (true, "ee6b914237f3c3cc930a80bccfe7fa7ce077ed56b0908110a287c14031545929"), looks := false }, kinds := [], alts := [], laidByText := true, laidKinds := [.data], laidTests := true, laidLooks := .later }
def DialSplitUptoCardSaid : Prop := Claim7.holds Tryd.pinned (.plain (OpenSpec.upto dialSplitSpec)) dialSplitUptoCard

/-- THE SECOND FORM's CARD OF 'gasworkslaw08.DialMore'. -/
def dialMoreUptoCard : Claim7 := { stood := { row := dialMoreUptoRow, standIns := [], harness := (true, "ee6b914237f3c3cc930a80bccfe7fa7ce077ed56b0908110a287c14031545929"), looks := false }, kinds := [], alts := [], laidByText := true, laidKinds := [.data], laidTests := true, laidLooks := .later }
def DialMoreUptoCardSaid : Prop := Claim7.holds Tryd.pinned (.plain (OpenSpec.upto dialMoreSpec)) dialMoreUptoCard
end Rows
end Go.Proofs.YtckaaaebegemoaaDoor
