/-
  No cell of these rows narrows 'for every input' (looked for: loops, veiled, ifaces, maps, wideKeys, modest, calm, conditions, laid).
  DERIVED. THE GIVEN ROWS OF THIS SEAT. 6 by the template 'for every input the law returns true; each argument reads behind the call as it read before'; 0 by the template 'total and deterministic' (their statements: YtpefpafijadfmaaTotals.lean).
  GIVEN WITH THE SEED: the statements are not yours to turn. If you find one false, say at which input.
  Laid BY PROGRAM, IN A SANDBOX (cutbox-rows.mjs): the forced cells as the released guide's own fill.sh prints them over the translation 92434d176e4f1f86… (all of the seat's roots in one cut). By AI agents, Wed Nov 11 2026. No macro, syntax, notation, axiom, sorry.
-/
import Derived.Test.YtpefpafijadfmaaChecked
import GoSem.Claim
import GoSem.ClaimJoined
import GoSem.ClaimMapViews
import Derived.JoinedTies
import Derived.KernelRfl
namespace Go.Proofs.Ytpefpafijadfmaa
/- THE CELL 'sum', in the pinned program and in every row, IS THE sha256 OF THE DUMP (.gsa) THAT YtpefpafijadfmaaProg.lean LOADS. Nothing in Lean hashes anything: it is a label: what it is worth is what the hold of that sum in a sandbox is worth. -/
noncomputable def Try.pinned : Pinned := { name := "ytpefpafijadfmaa", sum := "92434d176e4f1f86ad6d269ab573f0ccf60fa3f4681ba0b4799ae69088903fab", checked := Try.checked }
namespace Rows
def none {H : Type} : Left H := { results := [], args := [] }

/-- 'gasworkslaw01.CoalSpans': WHATEVER THE INPUT: true; the input reads as it did. -/
def coalSpansSpec : ChangeSpec := { name := "coalSpans", fn := fun _ => fun
  | [d1, d2, d3, d4, d5] => { results := [.lit (.bool true)], args := [d1, d2, d3, d4, d5] }
  | _ => none }
def coalSpansRow : OpenClaim := { program := "ytpefpafijadfmaa", sum := "92434d176e4f1f86ad6d269ab573f0ccf60fa3f4681ba0b4799ae69088903fab", func := "gasworks/gasworkslaw01.CoalSpans", spec := "coalSpans", unfollowed := true, recurses := true, apart := false }
def CoalSpansSaid : Prop := coalSpansRow.holds Try.pinned (OpenSpec.ofChange coalSpansSpec)

/-- ITS FALSE NEIGHBOUR: 'it returns false'. Refute it at one input. -/
def coalSpansWrong : ChangeSpec := { name := "coalSpans", fn := fun _ => fun
  | [d1, d2, d3, d4, d5] => { results := [.lit (.bool false)], args := [d1, d2, d3, d4, d5] }
  | _ => none }
def CoalSpansWrongFalsely : Prop := coalSpansRow.holds Try.pinned (OpenSpec.ofChange coalSpansWrong)

/-- 'gasworkslaw01.CoalBlends': WHATEVER THE INPUT: true; the input reads as it did. -/
def coalBlendsSpec : ChangeSpec := { name := "coalBlends", fn := fun _ => fun
  | [d1, d2, d3] => { results := [.lit (.bool true)], args := [d1, d2, d3] }
  | _ => none }
def coalBlendsRow : OpenClaim := { program := "ytpefpafijadfmaa", sum := "92434d176e4f1f86ad6d269ab573f0ccf60fa3f4681ba0b4799ae69088903fab", func := "gasworks/gasworkslaw01.CoalBlends", spec := "coalBlends", unfollowed := true, recurses := true, apart := false }
def CoalBlendsSaid : Prop := coalBlendsRow.holds Try.pinned (OpenSpec.ofChange coalBlendsSpec)

/-- ITS FALSE NEIGHBOUR: 'it returns false'. Refute it at one input. -/
def coalBlendsWrong : ChangeSpec := { name := "coalBlends", fn := fun _ => fun
  | [d1, d2, d3] => { results := [.lit (.bool false)], args := [d1, d2, d3] }
  | _ => none }
def CoalBlendsWrongFalsely : Prop := coalBlendsRow.holds Try.pinned (OpenSpec.ofChange coalBlendsWrong)

/-- 'gasworkslaw01.CoalEnds': WHATEVER THE INPUT: true; the input reads as it did. -/
def coalEndsSpec : ChangeSpec := { name := "coalEnds", fn := fun _ => fun
  | [d1, d2, d3] => { results := [.lit (.bool true)], args := [d1, d2, d3] }
  | _ => none }
def coalEndsRow : OpenClaim := { program := "ytpefpafijadfmaa", sum := "92434d176e4f1f86ad6d269ab573f0ccf60fa3f4681ba0b4799ae69088903fab", func := "gasworks/gasworkslaw01.CoalEnds", spec := "coalEnds", unfollowed := true, recurses := true, apart := false }
def CoalEndsSaid : Prop := coalEndsRow.holds Try.pinned (OpenSpec.ofChange coalEndsSpec)

/-- ITS FALSE NEIGHBOUR: 'it returns false'. Refute it at one input. -/
def coalEndsWrong : ChangeSpec := { name := "coalEnds", fn := fun _ => fun
  | [d1, d2, d3] => { results := [.lit (.bool false)], args := [d1, d2, d3] }
  | _ => none }
def CoalEndsWrongFalsely : Prop := coalEndsRow.holds Try.pinned (OpenSpec.ofChange coalEndsWrong)

/-- 'gasworkslaw01.CoalDraws': WHATEVER THE INPUT: true; the input reads as it did. -/
def coalDrawsSpec : ChangeSpec := { name := "coalDraws", fn := fun _ => fun
  | [d1, d2] => { results := [.lit (.bool true)], args := [d1, d2] }
  | _ => none }
def coalDrawsRow : OpenClaim := { program := "ytpefpafijadfmaa", sum := "92434d176e4f1f86ad6d269ab573f0ccf60fa3f4681ba0b4799ae69088903fab", func := "gasworks/gasworkslaw01.CoalDraws", spec := "coalDraws", unfollowed := true, recurses := true, apart := false }
def CoalDrawsSaid : Prop := coalDrawsRow.holds Try.pinned (OpenSpec.ofChange coalDrawsSpec)

/-- ITS FALSE NEIGHBOUR: 'it returns false'. Refute it at one input. -/
def coalDrawsWrong : ChangeSpec := { name := "coalDraws", fn := fun _ => fun
  | [d1, d2] => { results := [.lit (.bool false)], args := [d1, d2] }
  | _ => none }
def CoalDrawsWrongFalsely : Prop := coalDrawsRow.holds Try.pinned (OpenSpec.ofChange coalDrawsWrong)

/-- 'gasworkslaw01.CoalTrue': WHATEVER THE INPUT: true; the input reads as it did. -/
def coalTrueSpec : ChangeSpec := { name := "coalTrue", fn := fun _ => fun
  | [d1, d2, d3, d4] => { results := [.lit (.bool true)], args := [d1, d2, d3, d4] }
  | _ => none }
def coalTrueRow : OpenClaim := { program := "ytpefpafijadfmaa", sum := "92434d176e4f1f86ad6d269ab573f0ccf60fa3f4681ba0b4799ae69088903fab", func := "gasworks/gasworkslaw01.CoalTrue", spec := "coalTrue", unfollowed := true, recurses := true, apart := false }
def CoalTrueSaid : Prop := coalTrueRow.holds Try.pinned (OpenSpec.ofChange coalTrueSpec)

/-- ITS FALSE NEIGHBOUR: 'it returns false'. Refute it at one input. -/
def coalTrueWrong : ChangeSpec := { name := "coalTrue", fn := fun _ => fun
  | [d1, d2, d3, d4] => { results := [.lit (.bool false)], args := [d1, d2, d3, d4] }
  | _ => none }
def CoalTrueWrongFalsely : Prop := coalTrueRow.holds Try.pinned (OpenSpec.ofChange coalTrueWrong)

/-- 'gasworkslaw01.CoalLayers': WHATEVER THE INPUT: true; the input reads as it did. -/
def coalLayersSpec : ChangeSpec := { name := "coalLayers", fn := fun _ => fun
  | [d1, d2, d3, d4] => { results := [.lit (.bool true)], args := [d1, d2, d3, d4] }
  | _ => none }
def coalLayersRow : OpenClaim := { program := "ytpefpafijadfmaa", sum := "92434d176e4f1f86ad6d269ab573f0ccf60fa3f4681ba0b4799ae69088903fab", func := "gasworks/gasworkslaw01.CoalLayers", spec := "coalLayers", unfollowed := true, recurses := true, apart := false }
def CoalLayersSaid : Prop := coalLayersRow.holds Try.pinned (OpenSpec.ofChange coalLayersSpec)

/-- ITS FALSE NEIGHBOUR: 'it returns false'. Refute it at one input. -/
def coalLayersWrong : ChangeSpec := { name := "coalLayers", fn := fun _ => fun
  | [d1, d2, d3, d4] => { results := [.lit (.bool false)], args := [d1, d2, d3, d4] }
  | _ => none }
def CoalLayersWrongFalsely : Prop := coalLayersRow.holds Try.pinned (OpenSpec.ofChange coalLayersWrong)

/- THE SECOND FORM. 'bulk': how many values and letters a reading holds, each counted each time it is reached (what is shared counts as often as it is met; a slice's spare places count too). A statement '..UptoSaid' is the law's where the arguments, and the package variables that the reading takes, are together of bulk at most 1048576: NARROWER than '..Said'. Prove '..Said' where nothing that the law and all that it calls make is longer than what came in: it says more and counts as full. Else prove '..UptoSaid'. A law counts once. -/
mutual
def uptoBulk {H : Type} : DataW H → Nat
  | .lit (.string bytes) => bytes.length + 1
  | .lit _ => 1
  | .nil => 1
  | .ptr d => uptoBulk d + 1
  | .slice elems spare => uptoBulkAll elems + uptoBulkAll spare + 1
  | .agg parts => uptoBulkAll parts + 1
  | .iface _ d => uptoBulk d + 1
  | .map entries => uptoBulkEntries entries + 1
  | .held _ => 1
def uptoBulkAll {H : Type} : List (DataW H) → Nat
  | [] => 0
  | d :: r => uptoBulk d + uptoBulkAll r
def uptoBulkEntries {H : Type} : List (Lit × DataW H) → Nat
  | [] => 0
  | x :: r => uptoBulkEntry x + uptoBulkEntries r
def uptoBulkEntry {H : Type} : Lit × DataW H → Nat
  | (.string bytes, d) => bytes.length + uptoBulk d + 1
  | (_, d) => uptoBulk d + 1
 end
def uptoSmall : (H : Type) → List (DataW H) → Bool := fun _ ds => decide (uptoBulkAll ds ≤ 1048576)
def OpenSpec.upto (s : _root_.Go.ChangeSpec) : _root_.Go.OpenSpec := { _root_.Go.OpenSpec.ofChange s with cond := some uptoSmall }

/-- 'gasworkslaw01.CoalSpans', WHERE WHAT IT READS IS OF BULK AT MOST 1048576: true; the input reads as it did. -/
def coalSpansUptoRow : OpenClaim := { program := "ytpefpafijadfmaa", sum := "92434d176e4f1f86ad6d269ab573f0ccf60fa3f4681ba0b4799ae69088903fab", func := "gasworks/gasworkslaw01.CoalSpans", spec := "coalSpans", unfollowed := true, recurses := true, apart := false, narrowed := true }
def CoalSpansUptoSaid : Prop := coalSpansUptoRow.holds Try.pinned (OpenSpec.upto coalSpansSpec)

/-- 'gasworkslaw01.CoalBlends', WHERE WHAT IT READS IS OF BULK AT MOST 1048576: true; the input reads as it did. -/
def coalBlendsUptoRow : OpenClaim := { program := "ytpefpafijadfmaa", sum := "92434d176e4f1f86ad6d269ab573f0ccf60fa3f4681ba0b4799ae69088903fab", func := "gasworks/gasworkslaw01.CoalBlends", spec := "coalBlends", unfollowed := true, recurses := true, apart := false, narrowed := true }
def CoalBlendsUptoSaid : Prop := coalBlendsUptoRow.holds Try.pinned (OpenSpec.upto coalBlendsSpec)

/-- 'gasworkslaw01.CoalEnds', WHERE WHAT IT READS IS OF BULK AT MOST 1048576: true; the input reads as it did. -/
def coalEndsUptoRow : OpenClaim := { program := "ytpefpafijadfmaa", sum := "92434d176e4f1f86ad6d269ab573f0ccf60fa3f4681ba0b4799ae69088903fab", func := "gasworks/gasworkslaw01.CoalEnds", spec := "coalEnds", unfollowed := true, recurses := true, apart := false, narrowed := true }
def CoalEndsUptoSaid : Prop := coalEndsUptoRow.holds Try.pinned (OpenSpec.upto coalEndsSpec)

/-- 'gasworkslaw01.CoalDraws', WHERE WHAT IT READS IS OF BULK AT MOST 1048576: true; the input reads as it did. -/
def coalDrawsUptoRow : OpenClaim := { program := "ytpefpafijadfmaa", sum := "92434d176e4f1f86ad6d269ab573f0ccf60fa3f4681ba0b4799ae69088903fab", func := "gasworks/gasworkslaw01.CoalDraws", spec := "coalDraws", unfollowed := true, recurses := true, apart := false, narrowed := true }
def CoalDrawsUptoSaid : Prop := coalDrawsUptoRow.holds Try.pinned (OpenSpec.upto coalDrawsSpec)

/-- 'gasworkslaw01.CoalTrue', WHERE WHAT IT READS IS OF BULK AT MOST 1048576: true; the input reads as it did. -/
def coalTrueUptoRow : OpenClaim := { program := "ytpefpafijadfmaa", sum := "92434d176e4f1f86ad6d269ab573f0ccf60fa3f4681ba0b4799ae69088903fab", func := "gasworks/gasworkslaw01.CoalTrue", spec := "coalTrue", unfollowed := true, recurses := true, apart := false, narrowed := true }
def CoalTrueUptoSaid : Prop := coalTrueUptoRow.holds Try.pinned (OpenSpec.upto coalTrueSpec)

/-- 'gasworkslaw01.CoalLayers', WHERE WHAT IT READS IS OF BULK AT MOST 1048576: true; the input reads as it did. -/
def coalLayersUptoRow : OpenClaim := { program := "ytpefpafijadfmaa", sum := "92434d176e4f1f86ad6d269ab573f0ccf60fa3f4681ba0b4799ae69088903fab", func := "gasworks/gasworkslaw01.CoalLayers", spec := "coalLayers", unfollowed := true, recurses := true, apart := false, narrowed := true }
def CoalLayersUptoSaid : Prop := coalLayersUptoRow.holds Try.pinned (OpenSpec.upto coalLayersSpec)

end Rows
end Go.Proofs.Ytpefpafijadfmaa
