/-
  The data of the mixtures and the tests, as plain structures; their cells.
-/
import Derived.Test.YtjbfdfmngampdaaHT
import Derived.Test.YtjbfdfmngampdaaHV
set_option linter.all false
namespace Go.Proofs.Ytjbfdfmngampdaa
open Go Go.H
structure Span where
  lo : Int
  hi : Int
  deriving DecidableEq, Inhabited
structure Supply where
  heat : Span
  volume : Int
  most : Int
  pay : Int
  deriving DecidableEq, Inhabited
structure Test where
  hour : Int
  station : Int
  heat : Span
  deriving DecidableEq, Inhabited
structure Decree where
  window : Int
  declared : Int
  slack : Int
  pay : Int
  deriving DecidableEq, Inhabited
abbrev I (n : Int) : Value := .int .i64 n
def eI (n : Int) : List Value := [I n]
def eSpan (s : Span) : List Value := [I s.lo, I s.hi]
def eSup (x : Supply) : List Value := [I x.heat.lo, I x.heat.hi, I x.volume, I x.most, I x.pay]
def eTest (t : Test) : List Value := [I t.hour, I t.station, I t.heat.lo, I t.heat.hi]
def eDec (d : Decree) : List Value := [I d.window, I d.declared, I d.slack, I d.pay]
theorem eI_len (x : Int) : (eI x).length = 1 := rfl
theorem eSup_len (x : Supply) : (eSup x).length = 5 := rfl
theorem eTest_len (x : Test) : (eTest x).length = 4 := rfl
theorem eI_1 (x : Int) : (eI x).all Value.oneCell' = true := rfl
theorem eTest_1 (x : Test) : (eTest x).all Value.oneCell' = true := rfl
end Go.Proofs.Ytjbfdfmngampdaa
