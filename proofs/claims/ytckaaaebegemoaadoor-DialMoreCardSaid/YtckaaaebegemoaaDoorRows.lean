/-
  NARROWER THAN 'FOR EVERY INPUT', by the rows' own cells (each row's printed sentence says how): DialPairs: laid · DialGas: laid · DialTrue: laid · DialEnds: laid · DialSplit: laid · DialMore: laid.
  DERIVED. THE GIVEN ROWS OF THIS SEAT. 6 by the template 'for every input the law returns true; each argument reads behind the call as it read before'; 0 by the template 'total and deterministic' (their statements: YtckaaaebegemoaaDoorTotals.lean).
  GIVEN WITH THE SEED: the statements are not yours to turn. If you find one false, say at which input.
  Laid BY PROGRAM, IN A SANDBOX (cutbox-rows.mjs): the forced cells as the released guide's own fill.sh prints them over the translation aa0330f3f5b3e036… (all of the seat's roots in one cut). By AI agents, Wed Nov 11 2026. No macro, syntax, notation, axiom, sorry.
-/
import Derived.Test.YtckaaaebegemoaaDoorChecked
import GoSem.Claim
import GoSem.ClaimJoined
import GoSem.ClaimMapViews
import Derived.JoinedTies
import Derived.KernelRfl
namespace Go.Proofs.YtckaaaebegemoaaDoor
/- THE CELL 'sum', in the pinned program and in every row, IS THE sha256 OF THE DUMP (.gsa) THAT YtckaaaebegemoaaDoorProg.lean LOADS. Nothing in Lean hashes anything: it is a label: what it is worth is what the hold of that sum in a sandbox is worth. -/
noncomputable def Tryd.pinned : Pinned := { name := "ytckaaaebegemoaadoor", sum := "aa0330f3f5b3e036e6dbabb116a11c5ad386f328471994c3548bfdf7576f905d", checked := Tryd.checked }
namespace Rows
def none {H : Type} : Left H := { results := [], args := [] }

/- WHAT THE LISTED PACKAGE-LEVEL VARIABLES READ AS WHEN THE CALL BEGINS. Each datum BY PROGRAM (the guide's laid-datum.mjs) off the statement by which the dump's own 'gosem.cut.vars' lays the variable. In a bare row this is a premise. The card (YtckaaaebegemoaaDoorCards.lean) ties it to the program's text. -/
def laid_gasworks_dial_turns {H : Type} : DataW H := .agg [.lit (.int .i64 1), .lit (.int .i64 10), .lit (.int .i64 100), .lit (.int .i64 1000), .lit (.int .i64 10000), .lit (.int .i64 100000), .lit (.int .i64 1000000)]

/-- 'gasworkslaw08.DialPairs': WHATEVER THE INPUT: true; the input reads as it did. -/
def dialPairsSpec : ChangeSpec := { name := "dialPairs", fn := fun _ => fun
  | [d1, d2] => { results := [.lit (.bool true)], args := [d1, d2] }
  | _ => none }
def dialPairsRow : OpenClaim := { program := "ytckaaaebegemoaadoor", sum := "aa0330f3f5b3e036e6dbabb116a11c5ad386f328471994c3548bfdf7576f905d", func := "gasworks/gasworkslaw08.DialPairs", spec := "dialPairs", unfollowed := true, recurses := true, named := ["gasworks/dial.turns"], plainKeys := false, apart := false, laid := [("gasworks/dial.turns", laid_gasworks_dial_turns)] }
def DialPairsSaid : Prop := dialPairsRow.holds Tryd.pinned (OpenSpec.ofChange dialPairsSpec)

/-- ITS FALSE NEIGHBOUR: 'it returns false'. Refute it at one input. -/
def dialPairsWrong : ChangeSpec := { name := "dialPairs", fn := fun _ => fun
  | [d1, d2] => { results := [.lit (.bool false)], args := [d1, d2] }
  | _ => none }
def DialPairsWrongFalsely : Prop := dialPairsRow.holds Tryd.pinned (OpenSpec.ofChange dialPairsWrong)

/-- 'gasworkslaw08.DialGas': WHATEVER THE INPUT: true; the input reads as it did. -/
def dialGasSpec : ChangeSpec := { name := "dialGas", fn := fun _ => fun
  | [d1, d2, d3, d4] => { results := [.lit (.bool true)], args := [d1, d2, d3, d4] }
  | _ => none }
def dialGasRow : OpenClaim := { program := "ytckaaaebegemoaadoor", sum := "aa0330f3f5b3e036e6dbabb116a11c5ad386f328471994c3548bfdf7576f905d", func := "gasworks/gasworkslaw08.DialGas", spec := "dialGas", unfollowed := true, recurses := true, named := ["gasworks/dial.turns"], plainKeys := false, apart := false, laid := [("gasworks/dial.turns", laid_gasworks_dial_turns)] }
def DialGasSaid : Prop := dialGasRow.holds Tryd.pinned (OpenSpec.ofChange dialGasSpec)

/-- ITS FALSE NEIGHBOUR: 'it returns false'. Refute it at one input. -/
def dialGasWrong : ChangeSpec := { name := "dialGas", fn := fun _ => fun
  | [d1, d2, d3, d4] => { results := [.lit (.bool false)], args := [d1, d2, d3, d4] }
  | _ => none }
def DialGasWrongFalsely : Prop := dialGasRow.holds Tryd.pinned (OpenSpec.ofChange dialGasWrong)

/-- 'gasworkslaw08.DialTrue': WHATEVER THE INPUT: true; the input reads as it did. -/
def dialTrueSpec : ChangeSpec := { name := "dialTrue", fn := fun _ => fun
  | [d1, d2, d3, d4, d5] => { results := [.lit (.bool true)], args := [d1, d2, d3, d4, d5] }
  | _ => none }
def dialTrueRow : OpenClaim := { program := "ytckaaaebegemoaadoor", sum := "aa0330f3f5b3e036e6dbabb116a11c5ad386f328471994c3548bfdf7576f905d", func := "gasworks/gasworkslaw08.DialTrue", spec := "dialTrue", unfollowed := true, recurses := true, named := ["gasworks/dial.turns"], plainKeys := false, apart := false, laid := [("gasworks/dial.turns", laid_gasworks_dial_turns)] }
def DialTrueSaid : Prop := dialTrueRow.holds Tryd.pinned (OpenSpec.ofChange dialTrueSpec)

/-- ITS FALSE NEIGHBOUR: 'it returns false'. Refute it at one input. -/
def dialTrueWrong : ChangeSpec := { name := "dialTrue", fn := fun _ => fun
  | [d1, d2, d3, d4, d5] => { results := [.lit (.bool false)], args := [d1, d2, d3, d4, d5] }
  | _ => none }
def DialTrueWrongFalsely : Prop := dialTrueRow.holds Tryd.pinned (OpenSpec.ofChange dialTrueWrong)

/-- 'gasworkslaw08.DialEnds': WHATEVER THE INPUT: true; the input reads as it did. -/
def dialEndsSpec : ChangeSpec := { name := "dialEnds", fn := fun _ => fun
  | [d1, d2, d3, d4, d5] => { results := [.lit (.bool true)], args := [d1, d2, d3, d4, d5] }
  | _ => none }
def dialEndsRow : OpenClaim := { program := "ytckaaaebegemoaadoor", sum := "aa0330f3f5b3e036e6dbabb116a11c5ad386f328471994c3548bfdf7576f905d", func := "gasworks/gasworkslaw08.DialEnds", spec := "dialEnds", unfollowed := true, recurses := true, named := ["gasworks/dial.turns"], plainKeys := false, apart := false, laid := [("gasworks/dial.turns", laid_gasworks_dial_turns)] }
def DialEndsSaid : Prop := dialEndsRow.holds Tryd.pinned (OpenSpec.ofChange dialEndsSpec)

/-- ITS FALSE NEIGHBOUR: 'it returns false'. Refute it at one input. -/
def dialEndsWrong : ChangeSpec := { name := "dialEnds", fn := fun _ => fun
  | [d1, d2, d3, d4, d5] => { results := [.lit (.bool false)], args := [d1, d2, d3, d4, d5] }
  | _ => none }
def DialEndsWrongFalsely : Prop := dialEndsRow.holds Tryd.pinned (OpenSpec.ofChange dialEndsWrong)

/-- 'gasworkslaw08.DialSplit': WHATEVER THE INPUT: true; the input reads as it did. -/
def dialSplitSpec : ChangeSpec := { name := "dialSplit", fn := fun _ => fun
  | [d1, d2, d3, d4, d5, d6] => { results := [.lit (.bool true)], args := [d1, d2, d3, d4, d5, d6] }
  | _ => none }
def dialSplitRow : OpenClaim := { program := "ytckaaaebegemoaadoor", sum := "aa0330f3f5b3e036e6dbabb116a11c5ad386f328471994c3548bfdf7576f905d", func := "gasworks/gasworkslaw08.DialSplit", spec := "dialSplit", unfollowed := true, recurses := true, named := ["gasworks/dial.turns"], plainKeys := false, apart := false, laid := [("gasworks/dial.turns", laid_gasworks_dial_turns)] }
def DialSplitSaid : Prop := dialSplitRow.holds Tryd.pinned (OpenSpec.ofChange dialSplitSpec)

/-- ITS FALSE NEIGHBOUR: 'it returns false'. Refute it at one input. -/
def dialSplitWrong : ChangeSpec := { name := "dialSplit", fn := fun _ => fun
  | [d1, d2, d3, d4, d5, d6] => { results := [.lit (.bool false)], args := [d1, d2, d3, d4, d5, d6] }
  | _ => none }
def DialSplitWrongFalsely : Prop := dialSplitRow.holds Tryd.pinned (OpenSpec.ofChange dialSplitWrong)

/-- 'gasworkslaw08.DialMore': WHATEVER THE INPUT: true; the input reads as it did. -/
def dialMoreSpec : ChangeSpec := { name := "dialMore", fn := fun _ => fun
  | [d1, d2, d3, d4, d5, d6] => { results := [.lit (.bool true)], args := [d1, d2, d3, d4, d5, d6] }
  | _ => none }
def dialMoreRow : OpenClaim := { program := "ytckaaaebegemoaadoor", sum := "aa0330f3f5b3e036e6dbabb116a11c5ad386f328471994c3548bfdf7576f905d", func := "gasworks/gasworkslaw08.DialMore", spec := "dialMore", unfollowed := true, recurses := true, named := ["gasworks/dial.turns"], plainKeys := false, apart := false, laid := [("gasworks/dial.turns", laid_gasworks_dial_turns)] }
def DialMoreSaid : Prop := dialMoreRow.holds Tryd.pinned (OpenSpec.ofChange dialMoreSpec)

/-- ITS FALSE NEIGHBOUR: 'it returns false'. Refute it at one input. -/
def dialMoreWrong : ChangeSpec := { name := "dialMore", fn := fun _ => fun
  | [d1, d2, d3, d4, d5, d6] => { results := [.lit (.bool false)], args := [d1, d2, d3, d4, d5, d6] }
  | _ => none }
def DialMoreWrongFalsely : Prop := dialMoreRow.holds Tryd.pinned (OpenSpec.ofChange dialMoreWrong)

/- THE SECOND FORM. 'bulk': how many values and letters a reading holds, each counted each time it is reached (what is shared counts as often as it is met; a slice's spare places count too). A statement '..UptoSaid' is the law's where the arguments, and the package variables that the reading takes, are together of bulk at most 1048576: NARROWER than '..Said'. Prove '..Said' where nothing that the law and all that it calls make is longer than what came in: it says more and counts as full. Else prove '..UptoSaid'. A law counts once. -/
mutual
def uptoBulk {H : Type} : DataW H → Nat
  | .lit (.string bytes) => bytes.length + 1
  | .lit _ => 1
  | .nil => 1
  | .ptr d => uptoBulk d + 1
  | .slice elems spare => uptoBulkAll elems + uptoBulkAll spare + 1
  | .agg parts => uptoBulkAll parts + 1
  | .iface _ d => uptoBulk d + 1
  | .map entries => uptoBulkEntries entries + 1
  | .held _ => 1
def uptoBulkAll {H : Type} : List (DataW H) → Nat
  | [] => 0
  | d :: r => uptoBulk d + uptoBulkAll r
def uptoBulkEntries {H : Type} : List (Lit × DataW H) → Nat
  | [] => 0
  | x :: r => uptoBulkEntry x + uptoBulkEntries r
def uptoBulkEntry {H : Type} : Lit × DataW H → Nat
  | (.string bytes, d) => bytes.length + uptoBulk d + 1
  | (_, d) => uptoBulk d + 1
 end
def uptoSmall : (H : Type) → List (DataW H) → Bool := fun _ ds => decide (uptoBulkAll ds ≤ 1048576)
def OpenSpec.upto (s : _root_.Go.ChangeSpec) : _root_.Go.OpenSpec := { _root_.Go.OpenSpec.ofChange s with cond := some uptoSmall }

/-- 'gasworkslaw08.DialPairs', WHERE WHAT IT READS IS OF BULK AT MOST 1048576: true; the input reads as it did. -/
def dialPairsUptoRow : OpenClaim := { program := "ytckaaaebegemoaadoor", sum := "aa0330f3f5b3e036e6dbabb116a11c5ad386f328471994c3548bfdf7576f905d", func := "gasworks/gasworkslaw08.DialPairs", spec := "dialPairs", unfollowed := true, recurses := true, named := ["gasworks/dial.turns"], plainKeys := false, apart := false, laid := [("gasworks/dial.turns", laid_gasworks_dial_turns)], narrowed := true }
def DialPairsUptoSaid : Prop := dialPairsUptoRow.holds Tryd.pinned (OpenSpec.upto dialPairsSpec)

/-- 'gasworkslaw08.DialGas', WHERE WHAT IT READS IS OF BULK AT MOST 1048576: true; the input reads as it did. -/
def dialGasUptoRow : OpenClaim := { program := "ytckaaaebegemoaadoor", sum := "aa0330f3f5b3e036e6dbabb116a11c5ad386f328471994c3548bfdf7576f905d", func := "gasworks/gasworkslaw08.DialGas", spec := "dialGas", unfollowed := true, recurses := true, named := ["gasworks/dial.turns"], plainKeys := false, apart := false, laid := [("gasworks/dial.turns", laid_gasworks_dial_turns)], narrowed := true }
def DialGasUptoSaid : Prop := dialGasUptoRow.holds Tryd.pinned (OpenSpec.upto dialGasSpec)

/-- 'gasworkslaw08.DialTrue', WHERE WHAT IT READS IS OF BULK AT MOST 1048576: true; the input reads as it did. -/
def dialTrueUptoRow : OpenClaim := { program := "ytckaaaebegemoaadoor", sum := "aa0330f3f5b3e036e6dbabb116a11c5ad386f328471994c3548bfdf7576f905d", func := "gasworks/gasworkslaw08.DialTrue", spec := "dialTrue", unfollowed := true, recurses := true, named := ["gasworks/dial.turns"], plainKeys := false, apart := false, laid := [("gasworks/dial.turns", laid_gasworks_dial_turns)], narrowed := true }
def DialTrueUptoSaid : Prop := dialTrueUptoRow.holds Tryd.pinned (OpenSpec.upto dialTrueSpec)

/-- 'gasworkslaw08.DialEnds', WHERE WHAT IT READS IS OF BULK AT MOST 1048576: true; the input reads as it did. -/
def dialEndsUptoRow : OpenClaim := { program := "ytckaaaebegemoaadoor", sum := "aa0330f3f5b3e036e6dbabb116a11c5ad386f328471994c3548bfdf7576f905d", func := "gasworks/gasworkslaw08.DialEnds", spec := "dialEnds", unfollowed := true, recurses := true, named := ["gasworks/dial.turns"], plainKeys := false, apart := false, laid := [("gasworks/dial.turns", laid_gasworks_dial_turns)], narrowed := true }
def DialEndsUptoSaid : Prop := dialEndsUptoRow.holds Tryd.pinned (OpenSpec.upto dialEndsSpec)

/-- 'gasworkslaw08.DialSplit', WHERE WHAT IT READS IS OF BULK AT MOST 1048576: true; the input reads as it did. -/
def dialSplitUptoRow : OpenClaim := { program := "ytckaaaebegemoaadoor", sum := "aa0330f3f5b3e036e6dbabb116a11c5ad386f328471994c3548bfdf7576f905d", func := "gasworks/gasworkslaw08.DialSplit", spec := "dialSplit", unfollowed := true, recurses := true, named := ["gasworks/dial.turns"], plainKeys := false, apart := false, laid := [("gasworks/dial.turns", laid_gasworks_dial_turns)], narrowed := true }
def DialSplitUptoSaid : Prop := dialSplitUptoRow.holds Tryd.pinned (OpenSpec.upto dialSplitSpec)

/-- 'gasworkslaw08.DialMore', WHERE WHAT IT READS IS OF BULK AT MOST 1048576: true; the input reads as it did. -/
def dialMoreUptoRow : OpenClaim := { program := "ytckaaaebegemoaadoor", sum := "aa0330f3f5b3e036e6dbabb116a11c5ad386f328471994c3548bfdf7576f905d", func := "gasworks/gasworkslaw08.DialMore", spec := "dialMore", unfollowed := true, recurses := true, named := ["gasworks/dial.turns"], plainKeys := false, apart := false, laid := [("gasworks/dial.turns", laid_gasworks_dial_turns)], narrowed := true }
def DialMoreUptoSaid : Prop := dialMoreUptoRow.holds Tryd.pinned (OpenSpec.upto dialMoreSpec)

end Rows
end Go.Proofs.YtckaaaebegemoaaDoor
