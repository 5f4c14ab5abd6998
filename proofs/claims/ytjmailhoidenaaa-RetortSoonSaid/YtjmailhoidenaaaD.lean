/-
  The data of the retort house, as plain structures; their cells.
-/
import Derived.Test.YtjmailhoidenaaaH13
set_option linter.all false
namespace Go.Proofs.Ytjmailhoidenaaa
open Go Go.H
structure Span where
  lo : Int
  hi : Int
  deriving DecidableEq
structure Stoke where
  hour : Int
  ret : Int
  kind : Int
  tons : Int
  deriving DecidableEq
structure House where
  curve : List Span
  least : Int
  runs : Int
  scurf : Int
  cool : Int
  gang : Int
abbrev I (n : Int) : Value := .int .i64 n
def eSpan (s : Span) : List Value := [I s.lo, I s.hi]
def eStoke (x : Stoke) : List Value := [I x.hour, I x.ret, I x.kind, I x.tons]
def eHouse (a : Option Addr) (c : Nat) (w : House) : List Value := [.slice a w.curve.length c, I w.least, I w.runs, I w.scurf, I w.cool, I w.gang]
def badSpan (s : Span) : Bool := !(decide (0 ≤ s.hi) && decide (s.hi ≤ 100000)) || !(decide (0 ≤ s.lo) && decide (s.lo ≤ s.hi))
def goodHouse (w : House) : Prop := 1 ≤ w.curve.length ∧ w.curve.length ≤ 24 ∧ w.curve.any badSpan = false ∧ (1 ≤ w.least ∧ w.least ≤ 24) ∧ (1 ≤ w.runs ∧ w.runs ≤ 100) ∧ (1 ≤ w.scurf ∧ w.scurf ≤ 100) ∧ (1 ≤ w.gang ∧ w.gang ≤ 100) ∧ (0 ≤ w.cool ∧ w.cool ≤ 100)
def goodStoke (x : Stoke) : Prop := (0 ≤ x.hour ∧ x.hour ≤ 1048576) ∧ (0 ≤ x.ret ∧ x.ret ≤ 7) ∧ (0 ≤ x.kind ∧ x.kind ≤ 4) ∧ (x.kind = 0 → 1 ≤ x.tons ∧ x.tons ≤ 100) ∧ (x.kind ≠ 0 → x.tons = 0)
end Go.Proofs.Ytjmailhoidenaaa
