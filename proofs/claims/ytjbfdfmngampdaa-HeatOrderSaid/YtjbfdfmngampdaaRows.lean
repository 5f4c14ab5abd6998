/-
  No cell of these rows narrows 'for every input' (looked for: loops, veiled, ifaces, maps, wideKeys, modest, calm, conditions, laid).
  DERIVED. THE GIVEN ROWS OF THIS SEAT. 6 by the template 'for every input the law returns true; each argument reads behind the call as it read before'; 0 by the template 'total and deterministic' (their statements: YtjbfdfmngampdaaTotals.lean).
  GIVEN WITH THE SEED: the statements are not yours to turn. If you find one false, say at which input.
  Laid BY PROGRAM, IN A SANDBOX (cutbox-rows.mjs): the forced cells as the released guide's own fill.sh prints them over the translation c6b04fd764010de1… (all of the seat's roots in one cut). By AI agents, Wed Nov 11 2026. No macro, syntax, notation, axiom, sorry.
-/
import Derived.Test.YtjbfdfmngampdaaChecked
import GoSem.Claim
import GoSem.ClaimJoined
import GoSem.ClaimMapViews
import Derived.JoinedTies
import Derived.KernelRfl
namespace Go.Proofs.Ytjbfdfmngampdaa
/- THE CELL 'sum', in the pinned program and in every row, IS THE sha256 OF THE DUMP (.gsa) THAT YtjbfdfmngampdaaProg.lean LOADS. Nothing in Lean hashes anything: it is a label: what it is worth is what the hold of that sum in a sandbox is worth. -/
noncomputable def Try.pinned : Pinned := { name := "ytjbfdfmngampdaa", sum := "c6b04fd764010de1268cf63e251c95cfa343929c3e3ce340e653f5005c873fa0", checked := Try.checked }
namespace Rows
def none {H : Type} : Left H := { results := [], args := [] }

/-- 'gasworkslaw10.HeatMixes': WHATEVER THE INPUT: true; the input reads as it did. -/
def heatMixesSpec : ChangeSpec := { name := "heatMixes", fn := fun _ => fun
  | [d1, d2, d3, d4] => { results := [.lit (.bool true)], args := [d1, d2, d3, d4] }
  | _ => none }
def heatMixesRow : OpenClaim := { program := "ytjbfdfmngampdaa", sum := "c6b04fd764010de1268cf63e251c95cfa343929c3e3ce340e653f5005c873fa0", func := "gasworks/gasworkslaw10.HeatMixes", spec := "heatMixes", unfollowed := true, recurses := true, apart := false }
def HeatMixesSaid : Prop := heatMixesRow.holds Try.pinned (OpenSpec.ofChange heatMixesSpec)

/-- ITS FALSE NEIGHBOUR: 'it returns false'. Refute it at one input. -/
def heatMixesWrong : ChangeSpec := { name := "heatMixes", fn := fun _ => fun
  | [d1, d2, d3, d4] => { results := [.lit (.bool false)], args := [d1, d2, d3, d4] }
  | _ => none }
def HeatMixesWrongFalsely : Prop := heatMixesRow.holds Try.pinned (OpenSpec.ofChange heatMixesWrong)

/-- 'gasworkslaw10.HeatTests': WHATEVER THE INPUT: true; the input reads as it did. -/
def heatTestsSpec : ChangeSpec := { name := "heatTests", fn := fun _ => fun
  | [d1, d2, d3, d4, d5, d6] => { results := [.lit (.bool true)], args := [d1, d2, d3, d4, d5, d6] }
  | _ => none }
def heatTestsRow : OpenClaim := { program := "ytjbfdfmngampdaa", sum := "c6b04fd764010de1268cf63e251c95cfa343929c3e3ce340e653f5005c873fa0", func := "gasworks/gasworkslaw10.HeatTests", spec := "heatTests", unfollowed := true, recurses := true, apart := false }
def HeatTestsSaid : Prop := heatTestsRow.holds Try.pinned (OpenSpec.ofChange heatTestsSpec)

/-- ITS FALSE NEIGHBOUR: 'it returns false'. Refute it at one input. -/
def heatTestsWrong : ChangeSpec := { name := "heatTests", fn := fun _ => fun
  | [d1, d2, d3, d4, d5, d6] => { results := [.lit (.bool false)], args := [d1, d2, d3, d4, d5, d6] }
  | _ => none }
def HeatTestsWrongFalsely : Prop := heatTestsRow.holds Try.pinned (OpenSpec.ofChange heatTestsWrong)

/-- 'gasworkslaw10.HeatTrue': WHATEVER THE INPUT: true; the input reads as it did. -/
def heatTrueSpec : ChangeSpec := { name := "heatTrue", fn := fun _ => fun
  | [d1, d2, d3, d4, d5] => { results := [.lit (.bool true)], args := [d1, d2, d3, d4, d5] }
  | _ => none }
def heatTrueRow : OpenClaim := { program := "ytjbfdfmngampdaa", sum := "c6b04fd764010de1268cf63e251c95cfa343929c3e3ce340e653f5005c873fa0", func := "gasworks/gasworkslaw10.HeatTrue", spec := "heatTrue", unfollowed := true, recurses := true, apart := false }
def HeatTrueSaid : Prop := heatTrueRow.holds Try.pinned (OpenSpec.ofChange heatTrueSpec)

/-- ITS FALSE NEIGHBOUR: 'it returns false'. Refute it at one input. -/
def heatTrueWrong : ChangeSpec := { name := "heatTrue", fn := fun _ => fun
  | [d1, d2, d3, d4, d5] => { results := [.lit (.bool false)], args := [d1, d2, d3, d4, d5] }
  | _ => none }
def HeatTrueWrongFalsely : Prop := heatTrueRow.holds Try.pinned (OpenSpec.ofChange heatTrueWrong)

/-- 'gasworkslaw10.HeatMore': WHATEVER THE INPUT: true; the input reads as it did. -/
def heatMoreSpec : ChangeSpec := { name := "heatMore", fn := fun _ => fun
  | [d1, d2, d3, d4, d5, d6, d7] => { results := [.lit (.bool true)], args := [d1, d2, d3, d4, d5, d6, d7] }
  | _ => none }
def heatMoreRow : OpenClaim := { program := "ytjbfdfmngampdaa", sum := "c6b04fd764010de1268cf63e251c95cfa343929c3e3ce340e653f5005c873fa0", func := "gasworks/gasworkslaw10.HeatMore", spec := "heatMore", unfollowed := true, recurses := true, apart := false }
def HeatMoreSaid : Prop := heatMoreRow.holds Try.pinned (OpenSpec.ofChange heatMoreSpec)

/-- ITS FALSE NEIGHBOUR: 'it returns false'. Refute it at one input. -/
def heatMoreWrong : ChangeSpec := { name := "heatMore", fn := fun _ => fun
  | [d1, d2, d3, d4, d5, d6, d7] => { results := [.lit (.bool false)], args := [d1, d2, d3, d4, d5, d6, d7] }
  | _ => none }
def HeatMoreWrongFalsely : Prop := heatMoreRow.holds Try.pinned (OpenSpec.ofChange heatMoreWrong)

/-- 'gasworkslaw10.HeatDue': WHATEVER THE INPUT: true; the input reads as it did. -/
def heatDueSpec : ChangeSpec := { name := "heatDue", fn := fun _ => fun
  | [d1, d2, d3, d4] => { results := [.lit (.bool true)], args := [d1, d2, d3, d4] }
  | _ => none }
def heatDueRow : OpenClaim := { program := "ytjbfdfmngampdaa", sum := "c6b04fd764010de1268cf63e251c95cfa343929c3e3ce340e653f5005c873fa0", func := "gasworks/gasworkslaw10.HeatDue", spec := "heatDue", unfollowed := true, recurses := true, apart := false }
def HeatDueSaid : Prop := heatDueRow.holds Try.pinned (OpenSpec.ofChange heatDueSpec)

/-- ITS FALSE NEIGHBOUR: 'it returns false'. Refute it at one input. -/
def heatDueWrong : ChangeSpec := { name := "heatDue", fn := fun _ => fun
  | [d1, d2, d3, d4] => { results := [.lit (.bool false)], args := [d1, d2, d3, d4] }
  | _ => none }
def HeatDueWrongFalsely : Prop := heatDueRow.holds Try.pinned (OpenSpec.ofChange heatDueWrong)

/-- 'gasworkslaw10.HeatOrder': WHATEVER THE INPUT: true; the input reads as it did. -/
def heatOrderSpec : ChangeSpec := { name := "heatOrder", fn := fun _ => fun
  | [d1, d2, d3, d4, d5, d6, d7] => { results := [.lit (.bool true)], args := [d1, d2, d3, d4, d5, d6, d7] }
  | _ => none }
def heatOrderRow : OpenClaim := { program := "ytjbfdfmngampdaa", sum := "c6b04fd764010de1268cf63e251c95cfa343929c3e3ce340e653f5005c873fa0", func := "gasworks/gasworkslaw10.HeatOrder", spec := "heatOrder", unfollowed := true, recurses := true, apart := false }
def HeatOrderSaid : Prop := heatOrderRow.holds Try.pinned (OpenSpec.ofChange heatOrderSpec)

/-- ITS FALSE NEIGHBOUR: 'it returns false'. Refute it at one input. -/
def heatOrderWrong : ChangeSpec := { name := "heatOrder", fn := fun _ => fun
  | [d1, d2, d3, d4, d5, d6, d7] => { results := [.lit (.bool false)], args := [d1, d2, d3, d4, d5, d6, d7] }
  | _ => none }
def HeatOrderWrongFalsely : Prop := heatOrderRow.holds Try.pinned (OpenSpec.ofChange heatOrderWrong)

/- THE SECOND FORM. 'bulk': how many values and letters a reading holds, each counted each time it is reached (what is shared counts as often as it is met; a slice's spare places count too). A statement '..UptoSaid' is the law's where the arguments, and the package variables that the reading takes, are together of bulk at most 1048576: NARROWER than '..Said'. Prove '..Said' where nothing that the law and all that it calls make is longer than what came in: it says more and counts as full. Else prove '..UptoSaid'. A law counts once. -/
mutual
def uptoBulk {H : Type} : DataW H → Nat
  | .lit (.string bytes) => bytes.length + 1
  | .lit _ => 1
  | .nil => 1
  | .ptr d => uptoBulk d + 1
  | .slice elems spare => uptoBulkAll elems + uptoBulkAll spare + 1
  | .agg parts => uptoBulkAll parts + 1
  | .iface _ d => uptoBulk d + 1
  | .map entries => uptoBulkEntries entries + 1
  | .held _ => 1
def uptoBulkAll {H : Type} : List (DataW H) → Nat
  | [] => 0
  | d :: r => uptoBulk d + uptoBulkAll r
def uptoBulkEntries {H : Type} : List (Lit × DataW H) → Nat
  | [] => 0
  | x :: r => uptoBulkEntry x + uptoBulkEntries r
def uptoBulkEntry {H : Type} : Lit × DataW H → Nat
  | (.string bytes, d) => bytes.length + uptoBulk d + 1
  | (_, d) => uptoBulk d + 1
 end
def uptoSmall : (H : Type) → List (DataW H) → Bool := fun _ ds => decide (uptoBulkAll ds ≤ 1048576)
def OpenSpec.upto (s : _root_.Go.ChangeSpec) : _root_.Go.OpenSpec := { _root_.Go.OpenSpec.ofChange s with cond := some uptoSmall }

/-- 'gasworkslaw10.HeatMixes', WHERE WHAT IT READS IS OF BULK AT MOST 1048576: true; the input reads as it did. -/
def heatMixesUptoRow : OpenClaim := { program := "ytjbfdfmngampdaa", sum := "c6b04fd764010de1268cf63e251c95cfa343929c3e3ce340e653f5005c873fa0", func := "gasworks/gasworkslaw10.HeatMixes", spec := "heatMixes", unfollowed := true, recurses := true, apart := false, narrowed := true }
def HeatMixesUptoSaid : Prop := heatMixesUptoRow.holds Try.pinned (OpenSpec.upto heatMixesSpec)

/-- 'gasworkslaw10.HeatTests', WHERE WHAT IT READS IS OF BULK AT MOST 1048576: true; the input reads as it did. -/
def heatTestsUptoRow : OpenClaim := { program := "ytjbfdfmngampdaa", sum := "c6b04fd764010de1268cf63e251c95cfa343929c3e3ce340e653f5005c873fa0", func := "gasworks/gasworkslaw10.HeatTests", spec := "heatTests", unfollowed := true, recurses := true, apart := false, narrowed := true }
def HeatTestsUptoSaid : Prop := heatTestsUptoRow.holds Try.pinned (OpenSpec.upto heatTestsSpec)

/-- 'gasworkslaw10.HeatTrue', WHERE WHAT IT READS IS OF BULK AT MOST 1048576: true; the input reads as it did. -/
def heatTrueUptoRow : OpenClaim := { program := "ytjbfdfmngampdaa", sum := "c6b04fd764010de1268cf63e251c95cfa343929c3e3ce340e653f5005c873fa0", func := "gasworks/gasworkslaw10.HeatTrue", spec := "heatTrue", unfollowed := true, recurses := true, apart := false, narrowed := true }
def HeatTrueUptoSaid : Prop := heatTrueUptoRow.holds Try.pinned (OpenSpec.upto heatTrueSpec)

/-- 'gasworkslaw10.HeatMore', WHERE WHAT IT READS IS OF BULK AT MOST 1048576: true; the input reads as it did. -/
def heatMoreUptoRow : OpenClaim := { program := "ytjbfdfmngampdaa", sum := "c6b04fd764010de1268cf63e251c95cfa343929c3e3ce340e653f5005c873fa0", func := "gasworks/gasworkslaw10.HeatMore", spec := "heatMore", unfollowed := true, recurses := true, apart := false, narrowed := true }
def HeatMoreUptoSaid : Prop := heatMoreUptoRow.holds Try.pinned (OpenSpec.upto heatMoreSpec)

/-- 'gasworkslaw10.HeatDue', WHERE WHAT IT READS IS OF BULK AT MOST 1048576: true; the input reads as it did. -/
def heatDueUptoRow : OpenClaim := { program := "ytjbfdfmngampdaa", sum := "c6b04fd764010de1268cf63e251c95cfa343929c3e3ce340e653f5005c873fa0", func := "gasworks/gasworkslaw10.HeatDue", spec := "heatDue", unfollowed := true, recurses := true, apart := false, narrowed := true }
def HeatDueUptoSaid : Prop := heatDueUptoRow.holds Try.pinned (OpenSpec.upto heatDueSpec)

/-- 'gasworkslaw10.HeatOrder', WHERE WHAT IT READS IS OF BULK AT MOST 1048576: true; the input reads as it did. -/
def heatOrderUptoRow : OpenClaim := { program := "ytjbfdfmngampdaa", sum := "c6b04fd764010de1268cf63e251c95cfa343929c3e3ce340e653f5005c873fa0", func := "gasworks/gasworkslaw10.HeatOrder", spec := "heatOrder", unfollowed := true, recurses := true, apart := false, narrowed := true }
def HeatOrderUptoSaid : Prop := heatOrderUptoRow.holds Try.pinned (OpenSpec.upto heatOrderSpec)

end Rows
end Go.Proofs.Ytjbfdfmngampdaa
