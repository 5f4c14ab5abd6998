/-
  No cell of these rows narrows 'for every input' (looked for: loops, veiled, ifaces, maps, wideKeys, modest, calm, conditions, laid).
  DERIVED. THE GIVEN ROWS OF THIS SEAT. 8 by the template 'for every input the law returns true; each argument reads behind the call as it read before'; 0 by the template 'total and deterministic' (their statements: YtlcdbjgfeoagbaaTotals.lean).
  GIVEN WITH THE SEED: the statements are not yours to turn. If you find one false, say at which input.
  Laid BY PROGRAM, IN A SANDBOX (cutbox-rows.mjs): the forced cells as the released guide's own fill.sh prints them over the translation cab1221045b4a34b… (all of the seat's roots in one cut). By AI agents, Wed Nov 11 2026. No macro, syntax, notation, axiom, sorry.
-/
import Derived.Test.YtlcdbjgfeoagbaaChecked
import GoSem.Claim
import GoSem.ClaimJoined
import GoSem.ClaimMapViews
import Derived.JoinedTies
import Derived.KernelRfl
namespace Go.Proofs.Ytlcdbjgfeoagbaa
/- THE CELL 'sum', in the pinned program and in every row, IS THE sha256 OF THE DUMP (.gsa) THAT YtlcdbjgfeoagbaaProg.lean LOADS. Nothing in Lean hashes anything: it is a label: what it is worth is what the hold of that sum in a sandbox is worth. -/
noncomputable def Try.pinned : Pinned := { name := "ytlcdbjgfeoagbaa", sum := "cab1221045b4a34b77336e0029a406c8ab505d95e6f55a297843423d8843ab34", checked := Try.checked }
namespace Rows
def none {H : Type} : Left H := { results := [], args := [] }

/-- 'gasworkslaw09.PennyPlays': WHATEVER THE INPUT: true; the input reads as it did. -/
def pennyPlaysSpec : ChangeSpec := { name := "pennyPlays", fn := fun _ => fun
  | [d1, d2] => { results := [.lit (.bool true)], args := [d1, d2] }
  | _ => none }
def pennyPlaysRow : OpenClaim := { program := "ytlcdbjgfeoagbaa", sum := "cab1221045b4a34b77336e0029a406c8ab505d95e6f55a297843423d8843ab34", func := "gasworks/gasworkslaw09.PennyPlays", spec := "pennyPlays", unfollowed := true, recurses := true, apart := false }
def PennyPlaysSaid : Prop := pennyPlaysRow.holds Try.pinned (OpenSpec.ofChange pennyPlaysSpec)

/-- ITS FALSE NEIGHBOUR: 'it returns false'. Refute it at one input. -/
def pennyPlaysWrong : ChangeSpec := { name := "pennyPlays", fn := fun _ => fun
  | [d1, d2] => { results := [.lit (.bool false)], args := [d1, d2] }
  | _ => none }
def PennyPlaysWrongFalsely : Prop := pennyPlaysRow.holds Try.pinned (OpenSpec.ofChange pennyPlaysWrong)

/-- 'gasworkslaw09.PennyOrder': WHATEVER THE INPUT: true; the input reads as it did. -/
def pennyOrderSpec : ChangeSpec := { name := "pennyOrder", fn := fun _ => fun
  | [d1, d2, d3] => { results := [.lit (.bool true)], args := [d1, d2, d3] }
  | _ => none }
def pennyOrderRow : OpenClaim := { program := "ytlcdbjgfeoagbaa", sum := "cab1221045b4a34b77336e0029a406c8ab505d95e6f55a297843423d8843ab34", func := "gasworks/gasworkslaw09.PennyOrder", spec := "pennyOrder", unfollowed := true, recurses := true, apart := false }
def PennyOrderSaid : Prop := pennyOrderRow.holds Try.pinned (OpenSpec.ofChange pennyOrderSpec)

/-- ITS FALSE NEIGHBOUR: 'it returns false'. Refute it at one input. -/
def pennyOrderWrong : ChangeSpec := { name := "pennyOrder", fn := fun _ => fun
  | [d1, d2, d3] => { results := [.lit (.bool false)], args := [d1, d2, d3] }
  | _ => none }
def PennyOrderWrongFalsely : Prop := pennyOrderRow.holds Try.pinned (OpenSpec.ofChange pennyOrderWrong)

/-- 'gasworkslaw09.PennySpans': WHATEVER THE INPUT: true; the input reads as it did. -/
def pennySpansSpec : ChangeSpec := { name := "pennySpans", fn := fun _ => fun
  | [d] => { results := [.lit (.bool true)], args := [d] }
  | _ => none }
def pennySpansRow : OpenClaim := { program := "ytlcdbjgfeoagbaa", sum := "cab1221045b4a34b77336e0029a406c8ab505d95e6f55a297843423d8843ab34", func := "gasworks/gasworkslaw09.PennySpans", spec := "pennySpans", unfollowed := true, recurses := true, apart := false }
def PennySpansSaid : Prop := pennySpansRow.holds Try.pinned (OpenSpec.ofChange pennySpansSpec)

/-- ITS FALSE NEIGHBOUR: 'it returns false'. Refute it at one input. -/
def pennySpansWrong : ChangeSpec := { name := "pennySpans", fn := fun _ => fun
  | [d] => { results := [.lit (.bool false)], args := [d] }
  | _ => none }
def PennySpansWrongFalsely : Prop := pennySpansRow.holds Try.pinned (OpenSpec.ofChange pennySpansWrong)

/-- 'gasworkslaw09.PennyNames': WHATEVER THE INPUT: true; the input reads as it did. -/
def pennyNamesSpec : ChangeSpec := { name := "pennyNames", fn := fun _ => fun
  | [] => { results := [.lit (.bool true)], args := [] }
  | _ => none }
def pennyNamesRow : OpenClaim := { program := "ytlcdbjgfeoagbaa", sum := "cab1221045b4a34b77336e0029a406c8ab505d95e6f55a297843423d8843ab34", func := "gasworks/gasworkslaw09.PennyNames", spec := "pennyNames", unfollowed := true, recurses := true, apart := false }
def PennyNamesSaid : Prop := pennyNamesRow.holds Try.pinned (OpenSpec.ofChange pennyNamesSpec)

/-- ITS FALSE NEIGHBOUR: 'it returns false'. Refute it at one input. -/
def pennyNamesWrong : ChangeSpec := { name := "pennyNames", fn := fun _ => fun
  | [] => { results := [.lit (.bool false)], args := [] }
  | _ => none }
def PennyNamesWrongFalsely : Prop := pennyNamesRow.holds Try.pinned (OpenSpec.ofChange pennyNamesWrong)

/-- 'gasworkslaw09.PennyTrue': WHATEVER THE INPUT: true; the input reads as it did. -/
def pennyTrueSpec : ChangeSpec := { name := "pennyTrue", fn := fun _ => fun
  | [d1, d2] => { results := [.lit (.bool true)], args := [d1, d2] }
  | _ => none }
def pennyTrueRow : OpenClaim := { program := "ytlcdbjgfeoagbaa", sum := "cab1221045b4a34b77336e0029a406c8ab505d95e6f55a297843423d8843ab34", func := "gasworks/gasworkslaw09.PennyTrue", spec := "pennyTrue", unfollowed := true, recurses := true, apart := false }
def PennyTrueSaid : Prop := pennyTrueRow.holds Try.pinned (OpenSpec.ofChange pennyTrueSpec)

/-- ITS FALSE NEIGHBOUR: 'it returns false'. Refute it at one input. -/
def pennyTrueWrong : ChangeSpec := { name := "pennyTrue", fn := fun _ => fun
  | [d1, d2] => { results := [.lit (.bool false)], args := [d1, d2] }
  | _ => none }
def PennyTrueWrongFalsely : Prop := pennyTrueRow.holds Try.pinned (OpenSpec.ofChange pennyTrueWrong)

/-- 'gasworkslaw09.PennyEnds': WHATEVER THE INPUT: true; the input reads as it did. -/
def pennyEndsSpec : ChangeSpec := { name := "pennyEnds", fn := fun _ => fun
  | [d] => { results := [.lit (.bool true)], args := [d] }
  | _ => none }
def pennyEndsRow : OpenClaim := { program := "ytlcdbjgfeoagbaa", sum := "cab1221045b4a34b77336e0029a406c8ab505d95e6f55a297843423d8843ab34", func := "gasworks/gasworkslaw09.PennyEnds", spec := "pennyEnds", unfollowed := true, recurses := true, apart := false }
def PennyEndsSaid : Prop := pennyEndsRow.holds Try.pinned (OpenSpec.ofChange pennyEndsSpec)

/-- ITS FALSE NEIGHBOUR: 'it returns false'. Refute it at one input. -/
def pennyEndsWrong : ChangeSpec := { name := "pennyEnds", fn := fun _ => fun
  | [d] => { results := [.lit (.bool false)], args := [d] }
  | _ => none }
def PennyEndsWrongFalsely : Prop := pennyEndsRow.holds Try.pinned (OpenSpec.ofChange pennyEndsWrong)

/-- 'gasworkslaw09.PennyMore': WHATEVER THE INPUT: true; the input reads as it did. -/
def pennyMoreSpec : ChangeSpec := { name := "pennyMore", fn := fun _ => fun
  | [d1, d2, d3, d4] => { results := [.lit (.bool true)], args := [d1, d2, d3, d4] }
  | _ => none }
def pennyMoreRow : OpenClaim := { program := "ytlcdbjgfeoagbaa", sum := "cab1221045b4a34b77336e0029a406c8ab505d95e6f55a297843423d8843ab34", func := "gasworks/gasworkslaw09.PennyMore", spec := "pennyMore", unfollowed := true, recurses := true, apart := false }
def PennyMoreSaid : Prop := pennyMoreRow.holds Try.pinned (OpenSpec.ofChange pennyMoreSpec)

/-- ITS FALSE NEIGHBOUR: 'it returns false'. Refute it at one input. -/
def pennyMoreWrong : ChangeSpec := { name := "pennyMore", fn := fun _ => fun
  | [d1, d2, d3, d4] => { results := [.lit (.bool false)], args := [d1, d2, d3, d4] }
  | _ => none }
def PennyMoreWrongFalsely : Prop := pennyMoreRow.holds Try.pinned (OpenSpec.ofChange pennyMoreWrong)

/-- 'gasworkslaw09.PennyOwns': WHATEVER THE INPUT: true; the input reads as it did. -/
def pennyOwnsSpec : ChangeSpec := { name := "pennyOwns", fn := fun _ => fun
  | [d1, d2] => { results := [.lit (.bool true)], args := [d1, d2] }
  | _ => none }
def pennyOwnsRow : OpenClaim := { program := "ytlcdbjgfeoagbaa", sum := "cab1221045b4a34b77336e0029a406c8ab505d95e6f55a297843423d8843ab34", func := "gasworks/gasworkslaw09.PennyOwns", spec := "pennyOwns", unfollowed := true, recurses := true, apart := false }
def PennyOwnsSaid : Prop := pennyOwnsRow.holds Try.pinned (OpenSpec.ofChange pennyOwnsSpec)

/-- ITS FALSE NEIGHBOUR: 'it returns false'. Refute it at one input. -/
def pennyOwnsWrong : ChangeSpec := { name := "pennyOwns", fn := fun _ => fun
  | [d1, d2] => { results := [.lit (.bool false)], args := [d1, d2] }
  | _ => none }
def PennyOwnsWrongFalsely : Prop := pennyOwnsRow.holds Try.pinned (OpenSpec.ofChange pennyOwnsWrong)

/- THE SECOND FORM. 'bulk': how many values and letters a reading holds, each counted each time it is reached (what is shared counts as often as it is met; a slice's spare places count too). A statement '..UptoSaid' is the law's where the arguments, and the package variables that the reading takes, are together of bulk at most 1048576: NARROWER than '..Said'. Prove '..Said' where nothing that the law and all that it calls make is longer than what came in: it says more and counts as full. Else prove '..UptoSaid'. A law counts once. -/
mutual
def uptoBulk {H : Type} : DataW H → Nat
  | .lit (.string bytes) => bytes.length + 1
  | .lit _ => 1
  | .nil => 1
  | .ptr d => uptoBulk d + 1
  | .slice elems spare => uptoBulkAll elems + uptoBulkAll spare + 1
  | .agg parts => uptoBulkAll parts + 1
  | .iface _ d => uptoBulk d + 1
  | .map entries => uptoBulkEntries entries + 1
  | .held _ => 1
def uptoBulkAll {H : Type} : List (DataW H) → Nat
  | [] => 0
  | d :: r => uptoBulk d + uptoBulkAll r
def uptoBulkEntries {H : Type} : List (Lit × DataW H) → Nat
  | [] => 0
  | x :: r => uptoBulkEntry x + uptoBulkEntries r
def uptoBulkEntry {H : Type} : Lit × DataW H → Nat
  | (.string bytes, d) => bytes.length + uptoBulk d + 1
  | (_, d) => uptoBulk d + 1
 end
def uptoSmall : (H : Type) → List (DataW H) → Bool := fun _ ds => decide (uptoBulkAll ds ≤ 1048576)
def OpenSpec.upto (s : _root_.Go.ChangeSpec) : _root_.Go.OpenSpec := { _root_.Go.OpenSpec.ofChange s with cond := some uptoSmall }

/-- 'gasworkslaw09.PennyPlays', WHERE WHAT IT READS IS OF BULK AT MOST 1048576: true; the input reads as it did. -/
def pennyPlaysUptoRow : OpenClaim := { program := "ytlcdbjgfeoagbaa", sum := "cab1221045b4a34b77336e0029a406c8ab505d95e6f55a297843423d8843ab34", func := "gasworks/gasworkslaw09.PennyPlays", spec := "pennyPlays", unfollowed := true, recurses := true, apart := false, narrowed := true }
def PennyPlaysUptoSaid : Prop := pennyPlaysUptoRow.holds Try.pinned (OpenSpec.upto pennyPlaysSpec)

/-- 'gasworkslaw09.PennyOrder', WHERE WHAT IT READS IS OF BULK AT MOST 1048576: true; the input reads as it did. -/
def pennyOrderUptoRow : OpenClaim := { program := "ytlcdbjgfeoagbaa", sum := "cab1221045b4a34b77336e0029a406c8ab505d95e6f55a297843423d8843ab34", func := "gasworks/gasworkslaw09.PennyOrder", spec := "pennyOrder", unfollowed := true, recurses := true, apart := false, narrowed := true }
def PennyOrderUptoSaid : Prop := pennyOrderUptoRow.holds Try.pinned (OpenSpec.upto pennyOrderSpec)

/-- 'gasworkslaw09.PennySpans', WHERE WHAT IT READS IS OF BULK AT MOST 1048576: true; the input reads as it did. -/
def pennySpansUptoRow : OpenClaim := { program := "ytlcdbjgfeoagbaa", sum := "cab1221045b4a34b77336e0029a406c8ab505d95e6f55a297843423d8843ab34", func := "gasworks/gasworkslaw09.PennySpans", spec := "pennySpans", unfollowed := true, recurses := true, apart := false, narrowed := true }
def PennySpansUptoSaid : Prop := pennySpansUptoRow.holds Try.pinned (OpenSpec.upto pennySpansSpec)

/-- 'gasworkslaw09.PennyNames', WHERE WHAT IT READS IS OF BULK AT MOST 1048576: true; the input reads as it did. -/
def pennyNamesUptoRow : OpenClaim := { program := "ytlcdbjgfeoagbaa", sum := "cab1221045b4a34b77336e0029a406c8ab505d95e6f55a297843423d8843ab34", func := "gasworks/gasworkslaw09.PennyNames", spec := "pennyNames", unfollowed := true, recurses := true, apart := false, narrowed := true }
def PennyNamesUptoSaid : Prop := pennyNamesUptoRow.holds Try.pinned (OpenSpec.upto pennyNamesSpec)

/-- 'gasworkslaw09.PennyTrue', WHERE WHAT IT READS IS OF BULK AT MOST 1048576: true; the input reads as it did. -/
def pennyTrueUptoRow : OpenClaim := { program := "ytlcdbjgfeoagbaa", sum := "cab1221045b4a34b77336e0029a406c8ab505d95e6f55a297843423d8843ab34", func := "gasworks/gasworkslaw09.PennyTrue", spec := "pennyTrue", unfollowed := true, recurses := true, apart := false, narrowed := true }
def PennyTrueUptoSaid : Prop := pennyTrueUptoRow.holds Try.pinned (OpenSpec.upto pennyTrueSpec)

/-- 'gasworkslaw09.PennyEnds', WHERE WHAT IT READS IS OF BULK AT MOST 1048576: true; the input reads as it did. -/
def pennyEndsUptoRow : OpenClaim := { program := "ytlcdbjgfeoagbaa", sum := "cab1221045b4a34b77336e0029a406c8ab505d95e6f55a297843423d8843ab34", func := "gasworks/gasworkslaw09.PennyEnds", spec := "pennyEnds", unfollowed := true, recurses := true, apart := false, narrowed := true }
def PennyEndsUptoSaid : Prop := pennyEndsUptoRow.holds Try.pinned (OpenSpec.upto pennyEndsSpec)

/-- 'gasworkslaw09.PennyMore', WHERE WHAT IT READS IS OF BULK AT MOST 1048576: true; the input reads as it did. -/
def pennyMoreUptoRow : OpenClaim := { program := "ytlcdbjgfeoagbaa", sum := "cab1221045b4a34b77336e0029a406c8ab505d95e6f55a297843423d8843ab34", func := "gasworks/gasworkslaw09.PennyMore", spec := "pennyMore", unfollowed := true, recurses := true, apart := false, narrowed := true }
def PennyMoreUptoSaid : Prop := pennyMoreUptoRow.holds Try.pinned (OpenSpec.upto pennyMoreSpec)

/-- 'gasworkslaw09.PennyOwns', WHERE WHAT IT READS IS OF BULK AT MOST 1048576: true; the input reads as it did. -/
def pennyOwnsUptoRow : OpenClaim := { program := "ytlcdbjgfeoagbaa", sum := "cab1221045b4a34b77336e0029a406c8ab505d95e6f55a297843423d8843ab34", func := "gasworks/gasworkslaw09.PennyOwns", spec := "pennyOwns", unfollowed := true, recurses := true, apart := false, narrowed := true }
def PennyOwnsUptoSaid : Prop := pennyOwnsUptoRow.holds Try.pinned (OpenSpec.upto pennyOwnsSpec)

end Rows
end Go.Proofs.Ytlcdbjgfeoagbaa
