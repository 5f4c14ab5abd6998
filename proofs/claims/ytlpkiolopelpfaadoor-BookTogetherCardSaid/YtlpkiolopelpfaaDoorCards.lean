/-
  DERIVED. GIVEN WITH THE SEED: THE CARDS: each row of YtlpkiolopelpfaaDoorRows.lean that lists a variable, with what it lists TIED to the program's text (the seventh form; the later family's looks); each row that meets fmt, with fmt's text TOLD by the authors' own Lean function (tested against real Go, not proved from fmt's source: count such statements apart). THE CARD IS WHAT COUNTS. Prove the row's statement (the work); the ties are given (YtlpkiolopelpfaaDoorTie.lean); close each card by the builder's one call (the guide's Derived/Test/ToyasCard.lean, 'card_holds'). Laid BY PROGRAM, IN A SANDBOX (cutbox-door.mjs). By AI agents, Wed Nov 11 2026. No macro, syntax, notation, axiom, sorry.
-/
import Derived.Test.YtlpkiolopelpfaaDoorRows
import GoSem.ClaimSeven
namespace Go.Proofs.YtlpkiolopelpfaaDoor
namespace Rows

/-- THE TIED CARD OF 'gasworkslaw14.BookLogs'. -/
def bookLogsCard : Claim7 := { stood := { row := bookLogsRow, standIns := [], harness := (true, "30b139ea9b53af5b1f84ad9d48e5e56c6c66238d62ec1b789d861d36b69babc7"), looks := true }, kinds := [], alts := [], laidByText := true, laidKinds := [.data, .data, .data, .sentinel], laidTests := true, laidLooks := .later }
def BookLogsCardSaid : Prop := Claim7.holds Tryd.pinned (.plain (OpenSpec.ofChange bookLogsSpec)) bookLogsCard

/-- THE TIED CARD OF 'gasworkslaw14.BookTogether'. -/
def bookTogetherCard : Claim7 := { stood := { row := bookTogetherRow, standIns := [], harness := (true, "30b139ea9b53af5b1f84ad9d48e5e56c6c66238d62ec1b789d861d36b69babc7"), looks := true }, kinds := [], alts := [], laidByText := true, laidKinds := [.data, .data, .data, .sentinel], laidTests := true, laidLooks := .later }
def BookTogetherCardSaid : Prop := Claim7.holds Tryd.pinned (.plain (OpenSpec.ofChange bookTogetherSpec)) bookTogetherCard

/-- THE SECOND FORM's CARD OF 'gasworkslaw14.BookLogs'. -/
def bookLogsUptoCard : Claim7 := { stood := { row := bookLogsUptoRow, standIns := [], harness := (true, "30b139ea9b53af5b1f84ad9d48e5e56c6c66238d62ec1b789d861d36b69babc7"), looks := true }, kinds := [], alts := [], laidByText := true, laidKinds := [.data, .data, .data, .sentinel], laidTests := true, laidLooks := .later }
def BookLogsUptoCardSaid : Prop := Claim7.holds Tryd.pinned (.plain (OpenSpec.upto bookLogsSpec)) bookLogsUptoCard

/-- THE SECOND FORM's CARD OF 'gasworkslaw14.BookTogether'. -/
def bookTogetherUptoCard : Claim7 := { stood := { row := bookTogetherUptoRow, standIns := [], harness := (true, "30b139ea9b53af5b1f84ad9d48e5e56c6c66238d62ec1b789d861d36b69babc7"), looks := true }, kinds := [], alts := [], laidByText := true, laidKinds := [.data, .data, .data, .sentinel], laidTests := true, laidLooks := .later }
def BookTogetherUptoCardSaid : Prop := Claim7.holds Tryd.pinned (.plain (OpenSpec.upto bookTogetherSpec)) bookTogetherUptoCard
end Rows
end Go.Proofs.YtlpkiolopelpfaaDoor
