/-
  No cell of these rows narrows 'for every input' (looked for: loops, veiled, ifaces, maps, wideKeys, modest, calm, conditions, laid).
  DERIVED. THE GIVEN ROWS OF THIS SEAT. 6 by the template 'for every input the law returns true; each argument reads behind the call as it read before'; 0 by the template 'total and deterministic' (their statements: YtjmailhoidenaaaTotals.lean).
  GIVEN WITH THE SEED: the statements are not yours to turn. If you find one false, say at which input.
  Laid BY PROGRAM, IN A SANDBOX (cutbox-rows.mjs): the forced cells as the released guide's own fill.sh prints them over the translation 5186693234f94acf… (all of the seat's roots in one cut). By AI agents, Wed Nov 11 2026. No macro, syntax, notation, axiom, sorry.
-/
import Derived.Test.YtjmailhoidenaaaChecked
import GoSem.Claim
import GoSem.ClaimJoined
import GoSem.ClaimMapViews
import Derived.JoinedTies
import Derived.KernelRfl
namespace Go.Proofs.Ytjmailhoidenaaa
/- THE CELL 'sum', in the pinned program and in every row, IS THE sha256 OF THE DUMP (.gsa) THAT YtjmailhoidenaaaProg.lean LOADS. Nothing in Lean hashes anything: it is a label: what it is worth is what the hold of that sum in a sandbox is worth. -/
noncomputable def Try.pinned : Pinned := { name := "ytjmailhoidenaaa", sum := "5186693234f94acffbc19d5541b02c92b2d1bb60f031e2b3e47d6f53af219a2d", checked := Try.checked }
namespace Rows
def none {H : Type} : Left H := { results := [], args := [] }

/-- 'gasworkslaw02.RetortPlays': WHATEVER THE INPUT: true; the input reads as it did. -/
def retortPlaysSpec : ChangeSpec := { name := "retortPlays", fn := fun _ => fun
  | [d1, d2, d3] => { results := [.lit (.bool true)], args := [d1, d2, d3] }
  | _ => none }
def retortPlaysRow : OpenClaim := { program := "ytjmailhoidenaaa", sum := "5186693234f94acffbc19d5541b02c92b2d1bb60f031e2b3e47d6f53af219a2d", func := "gasworks/gasworkslaw02.RetortPlays", spec := "retortPlays", unfollowed := true, recurses := true, apart := false }
def RetortPlaysSaid : Prop := retortPlaysRow.holds Try.pinned (OpenSpec.ofChange retortPlaysSpec)

/-- ITS FALSE NEIGHBOUR: 'it returns false'. Refute it at one input. -/
def retortPlaysWrong : ChangeSpec := { name := "retortPlays", fn := fun _ => fun
  | [d1, d2, d3] => { results := [.lit (.bool false)], args := [d1, d2, d3] }
  | _ => none }
def RetortPlaysWrongFalsely : Prop := retortPlaysRow.holds Try.pinned (OpenSpec.ofChange retortPlaysWrong)

/-- 'gasworkslaw02.RetortMakes': WHATEVER THE INPUT: true; the input reads as it did. -/
def retortMakesSpec : ChangeSpec := { name := "retortMakes", fn := fun _ => fun
  | [d1, d2, d3, d4] => { results := [.lit (.bool true)], args := [d1, d2, d3, d4] }
  | _ => none }
def retortMakesRow : OpenClaim := { program := "ytjmailhoidenaaa", sum := "5186693234f94acffbc19d5541b02c92b2d1bb60f031e2b3e47d6f53af219a2d", func := "gasworks/gasworkslaw02.RetortMakes", spec := "retortMakes", unfollowed := true, recurses := true, apart := false }
def RetortMakesSaid : Prop := retortMakesRow.holds Try.pinned (OpenSpec.ofChange retortMakesSpec)

/-- ITS FALSE NEIGHBOUR: 'it returns false'. Refute it at one input. -/
def retortMakesWrong : ChangeSpec := { name := "retortMakes", fn := fun _ => fun
  | [d1, d2, d3, d4] => { results := [.lit (.bool false)], args := [d1, d2, d3, d4] }
  | _ => none }
def RetortMakesWrongFalsely : Prop := retortMakesRow.holds Try.pinned (OpenSpec.ofChange retortMakesWrong)

/-- 'gasworkslaw02.RetortWhole': WHATEVER THE INPUT: true; the input reads as it did. -/
def retortWholeSpec : ChangeSpec := { name := "retortWhole", fn := fun _ => fun
  | [d1, d2, d3, d4] => { results := [.lit (.bool true)], args := [d1, d2, d3, d4] }
  | _ => none }
def retortWholeRow : OpenClaim := { program := "ytjmailhoidenaaa", sum := "5186693234f94acffbc19d5541b02c92b2d1bb60f031e2b3e47d6f53af219a2d", func := "gasworks/gasworkslaw02.RetortWhole", spec := "retortWhole", unfollowed := true, recurses := true, apart := false }
def RetortWholeSaid : Prop := retortWholeRow.holds Try.pinned (OpenSpec.ofChange retortWholeSpec)

/-- ITS FALSE NEIGHBOUR: 'it returns false'. Refute it at one input. -/
def retortWholeWrong : ChangeSpec := { name := "retortWhole", fn := fun _ => fun
  | [d1, d2, d3, d4] => { results := [.lit (.bool false)], args := [d1, d2, d3, d4] }
  | _ => none }
def RetortWholeWrongFalsely : Prop := retortWholeRow.holds Try.pinned (OpenSpec.ofChange retortWholeWrong)

/-- 'gasworkslaw02.RetortSwap': WHATEVER THE INPUT: true; the input reads as it did. -/
def retortSwapSpec : ChangeSpec := { name := "retortSwap", fn := fun _ => fun
  | [d1, d2, d3, d4, d5] => { results := [.lit (.bool true)], args := [d1, d2, d3, d4, d5] }
  | _ => none }
def retortSwapRow : OpenClaim := { program := "ytjmailhoidenaaa", sum := "5186693234f94acffbc19d5541b02c92b2d1bb60f031e2b3e47d6f53af219a2d", func := "gasworks/gasworkslaw02.RetortSwap", spec := "retortSwap", unfollowed := true, recurses := true, apart := false }
def RetortSwapSaid : Prop := retortSwapRow.holds Try.pinned (OpenSpec.ofChange retortSwapSpec)

/-- ITS FALSE NEIGHBOUR: 'it returns false'. Refute it at one input. -/
def retortSwapWrong : ChangeSpec := { name := "retortSwap", fn := fun _ => fun
  | [d1, d2, d3, d4, d5] => { results := [.lit (.bool false)], args := [d1, d2, d3, d4, d5] }
  | _ => none }
def RetortSwapWrongFalsely : Prop := retortSwapRow.holds Try.pinned (OpenSpec.ofChange retortSwapWrong)

/-- 'gasworkslaw02.RetortSoon': WHATEVER THE INPUT: true; the input reads as it did. -/
def retortSoonSpec : ChangeSpec := { name := "retortSoon", fn := fun _ => fun
  | [d1, d2, d3, d4] => { results := [.lit (.bool true)], args := [d1, d2, d3, d4] }
  | _ => none }
def retortSoonRow : OpenClaim := { program := "ytjmailhoidenaaa", sum := "5186693234f94acffbc19d5541b02c92b2d1bb60f031e2b3e47d6f53af219a2d", func := "gasworks/gasworkslaw02.RetortSoon", spec := "retortSoon", unfollowed := true, recurses := true, apart := false }
def RetortSoonSaid : Prop := retortSoonRow.holds Try.pinned (OpenSpec.ofChange retortSoonSpec)

/-- ITS FALSE NEIGHBOUR: 'it returns false'. Refute it at one input. -/
def retortSoonWrong : ChangeSpec := { name := "retortSoon", fn := fun _ => fun
  | [d1, d2, d3, d4] => { results := [.lit (.bool false)], args := [d1, d2, d3, d4] }
  | _ => none }
def RetortSoonWrongFalsely : Prop := retortSoonRow.holds Try.pinned (OpenSpec.ofChange retortSoonWrong)

/-- 'gasworkslaw02.RetortStates': WHATEVER THE INPUT: true; the input reads as it did. -/
def retortStatesSpec : ChangeSpec := { name := "retortStates", fn := fun _ => fun
  | [d1, d2] => { results := [.lit (.bool true)], args := [d1, d2] }
  | _ => none }
def retortStatesRow : OpenClaim := { program := "ytjmailhoidenaaa", sum := "5186693234f94acffbc19d5541b02c92b2d1bb60f031e2b3e47d6f53af219a2d", func := "gasworks/gasworkslaw02.RetortStates", spec := "retortStates", unfollowed := true, recurses := true, apart := false }
def RetortStatesSaid : Prop := retortStatesRow.holds Try.pinned (OpenSpec.ofChange retortStatesSpec)

/-- ITS FALSE NEIGHBOUR: 'it returns false'. Refute it at one input. -/
def retortStatesWrong : ChangeSpec := { name := "retortStates", fn := fun _ => fun
  | [d1, d2] => { results := [.lit (.bool false)], args := [d1, d2] }
  | _ => none }
def RetortStatesWrongFalsely : Prop := retortStatesRow.holds Try.pinned (OpenSpec.ofChange retortStatesWrong)

/- THE SECOND FORM. 'bulk': how many values and letters a reading holds, each counted each time it is reached (what is shared counts as often as it is met; a slice's spare places count too). A statement '..UptoSaid' is the law's where the arguments, and the package variables that the reading takes, are together of bulk at most 1048576: NARROWER than '..Said'. Prove '..Said' where nothing that the law and all that it calls make is longer than what came in: it says more and counts as full. Else prove '..UptoSaid'. A law counts once. -/
mutual
def uptoBulk {H : Type} : DataW H → Nat
  | .lit (.string bytes) => bytes.length + 1
  | .lit _ => 1
  | .nil => 1
  | .ptr d => uptoBulk d + 1
  | .slice elems spare => uptoBulkAll elems + uptoBulkAll spare + 1
  | .agg parts => uptoBulkAll parts + 1
  | .iface _ d => uptoBulk d + 1
  | .map entries => uptoBulkEntries entries + 1
  | .held _ => 1
def uptoBulkAll {H : Type} : List (DataW H) → Nat
  | [] => 0
  | d :: r => uptoBulk d + uptoBulkAll r
def uptoBulkEntries {H : Type} : List (Lit × DataW H) → Nat
  | [] => 0
  | x :: r => uptoBulkEntry x + uptoBulkEntries r
def uptoBulkEntry {H : Type} : Lit × DataW H → Nat
  | (.string bytes, d) => bytes.length + uptoBulk d + 1
  | (_, d) => uptoBulk d + 1
 end
def uptoSmall : (H : Type) → List (DataW H) → Bool := fun _ ds => decide (uptoBulkAll ds ≤ 1048576)
def OpenSpec.upto (s : _root_.Go.ChangeSpec) : _root_.Go.OpenSpec := { _root_.Go.OpenSpec.ofChange s with cond := some uptoSmall }

/-- 'gasworkslaw02.RetortPlays', WHERE WHAT IT READS IS OF BULK AT MOST 1048576: true; the input reads as it did. -/
def retortPlaysUptoRow : OpenClaim := { program := "ytjmailhoidenaaa", sum := "5186693234f94acffbc19d5541b02c92b2d1bb60f031e2b3e47d6f53af219a2d", func := "gasworks/gasworkslaw02.RetortPlays", spec := "retortPlays", unfollowed := true, recurses := true, apart := false, narrowed := true }
def RetortPlaysUptoSaid : Prop := retortPlaysUptoRow.holds Try.pinned (OpenSpec.upto retortPlaysSpec)

/-- 'gasworkslaw02.RetortMakes', WHERE WHAT IT READS IS OF BULK AT MOST 1048576: true; the input reads as it did. -/
def retortMakesUptoRow : OpenClaim := { program := "ytjmailhoidenaaa", sum := "5186693234f94acffbc19d5541b02c92b2d1bb60f031e2b3e47d6f53af219a2d", func := "gasworks/gasworkslaw02.RetortMakes", spec := "retortMakes", unfollowed := true, recurses := true, apart := false, narrowed := true }
def RetortMakesUptoSaid : Prop := retortMakesUptoRow.holds Try.pinned (OpenSpec.upto retortMakesSpec)

/-- 'gasworkslaw02.RetortWhole', WHERE WHAT IT READS IS OF BULK AT MOST 1048576: true; the input reads as it did. -/
def retortWholeUptoRow : OpenClaim := { program := "ytjmailhoidenaaa", sum := "5186693234f94acffbc19d5541b02c92b2d1bb60f031e2b3e47d6f53af219a2d", func := "gasworks/gasworkslaw02.RetortWhole", spec := "retortWhole", unfollowed := true, recurses := true, apart := false, narrowed := true }
def RetortWholeUptoSaid : Prop := retortWholeUptoRow.holds Try.pinned (OpenSpec.upto retortWholeSpec)

/-- 'gasworkslaw02.RetortSwap', WHERE WHAT IT READS IS OF BULK AT MOST 1048576: true; the input reads as it did. -/
def retortSwapUptoRow : OpenClaim := { program := "ytjmailhoidenaaa", sum := "5186693234f94acffbc19d5541b02c92b2d1bb60f031e2b3e47d6f53af219a2d", func := "gasworks/gasworkslaw02.RetortSwap", spec := "retortSwap", unfollowed := true, recurses := true, apart := false, narrowed := true }
def RetortSwapUptoSaid : Prop := retortSwapUptoRow.holds Try.pinned (OpenSpec.upto retortSwapSpec)

/-- 'gasworkslaw02.RetortSoon', WHERE WHAT IT READS IS OF BULK AT MOST 1048576: true; the input reads as it did. -/
def retortSoonUptoRow : OpenClaim := { program := "ytjmailhoidenaaa", sum := "5186693234f94acffbc19d5541b02c92b2d1bb60f031e2b3e47d6f53af219a2d", func := "gasworks/gasworkslaw02.RetortSoon", spec := "retortSoon", unfollowed := true, recurses := true, apart := false, narrowed := true }
def RetortSoonUptoSaid : Prop := retortSoonUptoRow.holds Try.pinned (OpenSpec.upto retortSoonSpec)

/-- 'gasworkslaw02.RetortStates', WHERE WHAT IT READS IS OF BULK AT MOST 1048576: true; the input reads as it did. -/
def retortStatesUptoRow : OpenClaim := { program := "ytjmailhoidenaaa", sum := "5186693234f94acffbc19d5541b02c92b2d1bb60f031e2b3e47d6f53af219a2d", func := "gasworks/gasworkslaw02.RetortStates", spec := "retortStates", unfollowed := true, recurses := true, apart := false, narrowed := true }
def RetortStatesUptoSaid : Prop := retortStatesUptoRow.holds Try.pinned (OpenSpec.upto retortStatesSpec)

end Rows
end Go.Proofs.Ytjmailhoidenaaa
