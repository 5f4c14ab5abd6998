/-
  The data of the meter readings, as plain structures; their cells.
-/
import Derived.Test.YtckaaaebegemoaaDoorHT
set_option linter.all false
namespace Go.Proofs.YtckaaaebegemoaaDoor
open Go Go.H
structure Span where
  lo : Int
  hi : Int
  deriving DecidableEq, Inhabited
structure Dial where
  digits : Int
  rate : Span
  sticks : Bool
  deriving DecidableEq, Inhabited
structure Card where
  house : Int
  hour : Int
  shows : Int
  deriving DecidableEq, Inhabited
abbrev I (n : Int) : Value := .int .i64 n
def eI (n : Int) : List Value := [I n]
def eSpan (s : Span) : List Value := [I s.lo, I s.hi]
def eDial (d : Dial) : List Value := [I d.digits, I d.rate.lo, I d.rate.hi, .bool d.sticks]
def eCard (c : Card) : List Value := [I c.house, I c.hour, I c.shows]
theorem eI_len (x : Int) : (eI x).length = 1 := rfl
theorem eSpan_len (x : Span) : (eSpan x).length = 2 := rfl
theorem eDial_len (x : Dial) : (eDial x).length = 4 := rfl
theorem eCard_len (x : Card) : (eCard x).length = 3 := rfl
theorem eCard_1 (x : Card) : (eCard x).all Value.oneCell' = true := rfl
end Go.Proofs.YtckaaaebegemoaaDoor
