/-
  No cell of these rows narrows 'for every input' (looked for: loops, veiled, ifaces, maps, wideKeys, modest, calm, conditions, laid).
  DERIVED. THE GIVEN ROWS OF THIS SEAT. 6 by the template 'for every input the law returns true; each argument reads behind the call as it read before'; 0 by the template 'total and deterministic' (their statements: YtlailecnbdlknaaTotals.lean).
  GIVEN WITH THE SEED: the statements are not yours to turn. If you find one false, say at which input.
  Laid BY PROGRAM, IN A SANDBOX (cutbox-rows.mjs): the forced cells as the released guide's own fill.sh prints them over the translation 15de2edf1b50f5df… (all of the seat's roots in one cut). By AI agents, Wed Nov 11 2026. No macro, syntax, notation, axiom, sorry.
-/
import Derived.Test.YtlailecnbdlknaaChecked
import GoSem.Claim
import GoSem.ClaimJoined
import GoSem.ClaimMapViews
import Derived.JoinedTies
import Derived.KernelRfl
namespace Go.Proofs.Ytlailecnbdlknaa
/- THE CELL 'sum', in the pinned program and in every row, IS THE sha256 OF THE DUMP (.gsa) THAT YtlailecnbdlknaaProg.lean LOADS. Nothing in Lean hashes anything: it is a label: what it is worth is what the hold of that sum in a sandbox is worth. -/
noncomputable def Try.pinned : Pinned := { name := "ytlailecnbdlknaa", sum := "15de2edf1b50f5df6247a9c9dc687ad79cfc3f38c4fba69b240ecab19a7de4e7", checked := Try.checked }
namespace Rows
def none {H : Type} : Left H := { results := [], args := [] }

/-- 'gasworkslaw11.TarPlans': WHATEVER THE INPUT: true; the input reads as it did. -/
def tarPlansSpec : ChangeSpec := { name := "tarPlans", fn := fun _ => fun
  | [d] => { results := [.lit (.bool true)], args := [d] }
  | _ => none }
def tarPlansRow : OpenClaim := { program := "ytlailecnbdlknaa", sum := "15de2edf1b50f5df6247a9c9dc687ad79cfc3f38c4fba69b240ecab19a7de4e7", func := "gasworks/gasworkslaw11.TarPlans", spec := "tarPlans", unfollowed := true, recurses := true, apart := false }
def TarPlansSaid : Prop := tarPlansRow.holds Try.pinned (OpenSpec.ofChange tarPlansSpec)

/-- ITS FALSE NEIGHBOUR: 'it returns false'. Refute it at one input. -/
def tarPlansWrong : ChangeSpec := { name := "tarPlans", fn := fun _ => fun
  | [d] => { results := [.lit (.bool false)], args := [d] }
  | _ => none }
def TarPlansWrongFalsely : Prop := tarPlansRow.holds Try.pinned (OpenSpec.ofChange tarPlansWrong)

/-- 'gasworkslaw11.TarIncomes': WHATEVER THE INPUT: true; the input reads as it did. -/
def tarIncomesSpec : ChangeSpec := { name := "tarIncomes", fn := fun _ => fun
  | [d1, d2, d3] => { results := [.lit (.bool true)], args := [d1, d2, d3] }
  | _ => none }
def tarIncomesRow : OpenClaim := { program := "ytlailecnbdlknaa", sum := "15de2edf1b50f5df6247a9c9dc687ad79cfc3f38c4fba69b240ecab19a7de4e7", func := "gasworks/gasworkslaw11.TarIncomes", spec := "tarIncomes", unfollowed := true, recurses := true, apart := false }
def TarIncomesSaid : Prop := tarIncomesRow.holds Try.pinned (OpenSpec.ofChange tarIncomesSpec)

/-- ITS FALSE NEIGHBOUR: 'it returns false'. Refute it at one input. -/
def tarIncomesWrong : ChangeSpec := { name := "tarIncomes", fn := fun _ => fun
  | [d1, d2, d3] => { results := [.lit (.bool false)], args := [d1, d2, d3] }
  | _ => none }
def TarIncomesWrongFalsely : Prop := tarIncomesRow.holds Try.pinned (OpenSpec.ofChange tarIncomesWrong)

/-- 'gasworkslaw11.TarTrue': WHATEVER THE INPUT: true; the input reads as it did. -/
def tarTrueSpec : ChangeSpec := { name := "tarTrue", fn := fun _ => fun
  | [d1, d2, d3] => { results := [.lit (.bool true)], args := [d1, d2, d3] }
  | _ => none }
def tarTrueRow : OpenClaim := { program := "ytlailecnbdlknaa", sum := "15de2edf1b50f5df6247a9c9dc687ad79cfc3f38c4fba69b240ecab19a7de4e7", func := "gasworks/gasworkslaw11.TarTrue", spec := "tarTrue", unfollowed := true, recurses := true, apart := false }
def TarTrueSaid : Prop := tarTrueRow.holds Try.pinned (OpenSpec.ofChange tarTrueSpec)

/-- ITS FALSE NEIGHBOUR: 'it returns false'. Refute it at one input. -/
def tarTrueWrong : ChangeSpec := { name := "tarTrue", fn := fun _ => fun
  | [d1, d2, d3] => { results := [.lit (.bool false)], args := [d1, d2, d3] }
  | _ => none }
def TarTrueWrongFalsely : Prop := tarTrueRow.holds Try.pinned (OpenSpec.ofChange tarTrueWrong)

/-- 'gasworkslaw11.TarBest': WHATEVER THE INPUT: true; the input reads as it did. -/
def tarBestSpec : ChangeSpec := { name := "tarBest", fn := fun _ => fun
  | [d1, d2] => { results := [.lit (.bool true)], args := [d1, d2] }
  | _ => none }
def tarBestRow : OpenClaim := { program := "ytlailecnbdlknaa", sum := "15de2edf1b50f5df6247a9c9dc687ad79cfc3f38c4fba69b240ecab19a7de4e7", func := "gasworks/gasworkslaw11.TarBest", spec := "tarBest", unfollowed := true, recurses := true, apart := false }
def TarBestSaid : Prop := tarBestRow.holds Try.pinned (OpenSpec.ofChange tarBestSpec)

/-- ITS FALSE NEIGHBOUR: 'it returns false'. Refute it at one input. -/
def tarBestWrong : ChangeSpec := { name := "tarBest", fn := fun _ => fun
  | [d1, d2] => { results := [.lit (.bool false)], args := [d1, d2] }
  | _ => none }
def TarBestWrongFalsely : Prop := tarBestRow.holds Try.pinned (OpenSpec.ofChange tarBestWrong)

/-- 'gasworkslaw11.TarMore': WHATEVER THE INPUT: true; the input reads as it did. -/
def tarMoreSpec : ChangeSpec := { name := "tarMore", fn := fun _ => fun
  | [d1, d2, d3] => { results := [.lit (.bool true)], args := [d1, d2, d3] }
  | _ => none }
def tarMoreRow : OpenClaim := { program := "ytlailecnbdlknaa", sum := "15de2edf1b50f5df6247a9c9dc687ad79cfc3f38c4fba69b240ecab19a7de4e7", func := "gasworks/gasworkslaw11.TarMore", spec := "tarMore", unfollowed := true, recurses := true, apart := false }
def TarMoreSaid : Prop := tarMoreRow.holds Try.pinned (OpenSpec.ofChange tarMoreSpec)

/-- ITS FALSE NEIGHBOUR: 'it returns false'. Refute it at one input. -/
def tarMoreWrong : ChangeSpec := { name := "tarMore", fn := fun _ => fun
  | [d1, d2, d3] => { results := [.lit (.bool false)], args := [d1, d2, d3] }
  | _ => none }
def TarMoreWrongFalsely : Prop := tarMoreRow.holds Try.pinned (OpenSpec.ofChange tarMoreWrong)

/-- 'gasworkslaw11.TarCarts': WHATEVER THE INPUT: true; the input reads as it did. -/
def tarCartsSpec : ChangeSpec := { name := "tarCarts", fn := fun _ => fun
  | [d1, d2, d3] => { results := [.lit (.bool true)], args := [d1, d2, d3] }
  | _ => none }
def tarCartsRow : OpenClaim := { program := "ytlailecnbdlknaa", sum := "15de2edf1b50f5df6247a9c9dc687ad79cfc3f38c4fba69b240ecab19a7de4e7", func := "gasworks/gasworkslaw11.TarCarts", spec := "tarCarts", unfollowed := true, recurses := true, apart := false }
def TarCartsSaid : Prop := tarCartsRow.holds Try.pinned (OpenSpec.ofChange tarCartsSpec)

/-- ITS FALSE NEIGHBOUR: 'it returns false'. Refute it at one input. -/
def tarCartsWrong : ChangeSpec := { name := "tarCarts", fn := fun _ => fun
  | [d1, d2, d3] => { results := [.lit (.bool false)], args := [d1, d2, d3] }
  | _ => none }
def TarCartsWrongFalsely : Prop := tarCartsRow.holds Try.pinned (OpenSpec.ofChange tarCartsWrong)

/- THE SECOND FORM. 'bulk': how many values and letters a reading holds, each counted each time it is reached (what is shared counts as often as it is met; a slice's spare places count too). A statement '..UptoSaid' is the law's where the arguments, and the package variables that the reading takes, are together of bulk at most 1048576: NARROWER than '..Said'. Prove '..Said' where nothing that the law and all that it calls make is longer than what came in: it says more and counts as full. Else prove '..UptoSaid'. A law counts once. -/
mutual
def uptoBulk {H : Type} : DataW H → Nat
  | .lit (.string bytes) => bytes.length + 1
  | .lit _ => 1
  | .nil => 1
  | .ptr d => uptoBulk d + 1
  | .slice elems spare => uptoBulkAll elems + uptoBulkAll spare + 1
  | .agg parts => uptoBulkAll parts + 1
  | .iface _ d => uptoBulk d + 1
  | .map entries => uptoBulkEntries entries + 1
  | .held _ => 1
def uptoBulkAll {H : Type} : List (DataW H) → Nat
  | [] => 0
  | d :: r => uptoBulk d + uptoBulkAll r
def uptoBulkEntries {H : Type} : List (Lit × DataW H) → Nat
  | [] => 0
  | x :: r => uptoBulkEntry x + uptoBulkEntries r
def uptoBulkEntry {H : Type} : Lit × DataW H → Nat
  | (.string bytes, d) => bytes.length + uptoBulk d + 1
  | (_, d) => uptoBulk d + 1
 end
def uptoSmall : (H : Type) → List (DataW H) → Bool := fun _ ds => decide (uptoBulkAll ds ≤ 1048576)
def OpenSpec.upto (s : _root_.Go.ChangeSpec) : _root_.Go.OpenSpec := { _root_.Go.OpenSpec.ofChange s with cond := some uptoSmall }

/-- 'gasworkslaw11.TarPlans', WHERE WHAT IT READS IS OF BULK AT MOST 1048576: true; the input reads as it did. -/
def tarPlansUptoRow : OpenClaim := { program := "ytlailecnbdlknaa", sum := "15de2edf1b50f5df6247a9c9dc687ad79cfc3f38c4fba69b240ecab19a7de4e7", func := "gasworks/gasworkslaw11.TarPlans", spec := "tarPlans", unfollowed := true, recurses := true, apart := false, narrowed := true }
def TarPlansUptoSaid : Prop := tarPlansUptoRow.holds Try.pinned (OpenSpec.upto tarPlansSpec)

/-- 'gasworkslaw11.TarIncomes', WHERE WHAT IT READS IS OF BULK AT MOST 1048576: true; the input reads as it did. -/
def tarIncomesUptoRow : OpenClaim := { program := "ytlailecnbdlknaa", sum := "15de2edf1b50f5df6247a9c9dc687ad79cfc3f38c4fba69b240ecab19a7de4e7", func := "gasworks/gasworkslaw11.TarIncomes", spec := "tarIncomes", unfollowed := true, recurses := true, apart := false, narrowed := true }
def TarIncomesUptoSaid : Prop := tarIncomesUptoRow.holds Try.pinned (OpenSpec.upto tarIncomesSpec)

/-- 'gasworkslaw11.TarTrue', WHERE WHAT IT READS IS OF BULK AT MOST 1048576: true; the input reads as it did. -/
def tarTrueUptoRow : OpenClaim := { program := "ytlailecnbdlknaa", sum := "15de2edf1b50f5df6247a9c9dc687ad79cfc3f38c4fba69b240ecab19a7de4e7", func := "gasworks/gasworkslaw11.TarTrue", spec := "tarTrue", unfollowed := true, recurses := true, apart := false, narrowed := true }
def TarTrueUptoSaid : Prop := tarTrueUptoRow.holds Try.pinned (OpenSpec.upto tarTrueSpec)

/-- 'gasworkslaw11.TarBest', WHERE WHAT IT READS IS OF BULK AT MOST 1048576: true; the input reads as it did. -/
def tarBestUptoRow : OpenClaim := { program := "ytlailecnbdlknaa", sum := "15de2edf1b50f5df6247a9c9dc687ad79cfc3f38c4fba69b240ecab19a7de4e7", func := "gasworks/gasworkslaw11.TarBest", spec := "tarBest", unfollowed := true, recurses := true, apart := false, narrowed := true }
def TarBestUptoSaid : Prop := tarBestUptoRow.holds Try.pinned (OpenSpec.upto tarBestSpec)

/-- 'gasworkslaw11.TarMore', WHERE WHAT IT READS IS OF BULK AT MOST 1048576: true; the input reads as it did. -/
def tarMoreUptoRow : OpenClaim := { program := "ytlailecnbdlknaa", sum := "15de2edf1b50f5df6247a9c9dc687ad79cfc3f38c4fba69b240ecab19a7de4e7", func := "gasworks/gasworkslaw11.TarMore", spec := "tarMore", unfollowed := true, recurses := true, apart := false, narrowed := true }
def TarMoreUptoSaid : Prop := tarMoreUptoRow.holds Try.pinned (OpenSpec.upto tarMoreSpec)

/-- 'gasworkslaw11.TarCarts', WHERE WHAT IT READS IS OF BULK AT MOST 1048576: true; the input reads as it did. -/
def tarCartsUptoRow : OpenClaim := { program := "ytlailecnbdlknaa", sum := "15de2edf1b50f5df6247a9c9dc687ad79cfc3f38c4fba69b240ecab19a7de4e7", func := "gasworks/gasworkslaw11.TarCarts", spec := "tarCarts", unfollowed := true, recurses := true, apart := false, narrowed := true }
def TarCartsUptoSaid : Prop := tarCartsUptoRow.holds Try.pinned (OpenSpec.upto tarCartsSpec)

end Rows
end Go.Proofs.Ytlailecnbdlknaa
