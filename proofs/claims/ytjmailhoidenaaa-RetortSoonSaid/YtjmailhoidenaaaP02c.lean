/-
  What the document's functions compute, as plain functions.
-/
import Derived.Test.YtjmailhoidenaaaP02b
set_option linter.all false
namespace Go.Proofs.Ytjmailhoidenaaa
open Go Go.H
theorem ovDo_err {w : House} {o : Oven} {x : Stoke} {e : Int} (h : ovDo w o x = .error e) : e ≠ 0 := by
  unfold ovDo at h
  repeat' split at h
  all_goals first | (cases h; done) | (cases h; decide)
section
variable {w : House} {S S1 : St} {x : Stoke} {l : List Stoke} {k : Nat} {e : Int} {p0 : Except (Nat × Int) St}
theorem doE1 (h : ¬ goodStoke x) : doStoke w S x = .error 1 := by unfold doStoke; rw [if_pos h]
theorem doE7 (hg : goodStoke x) (h : x.hour < S.last) : doStoke w S x = .error 7 := by unfold doStoke; rw [if_neg (by simpa using hg), if_pos h]
theorem doE9 (hg : goodStoke x) (h : ¬ x.hour < S.last) (h2 : w.gang ≤ S.done x.hour) : doStoke w S x = .error 9 := by unfold doStoke; rw [if_neg (by simpa using hg), if_neg h, if_pos h2]
theorem doEk (hg : goodStoke x) (h : ¬ x.hour < S.last) (h2 : ¬ w.gang ≤ S.done x.hour) (hk : kindDo w S x = .error e) : doStoke w S x = .error e := by unfold doStoke; rw [if_neg (by simpa using hg), if_neg h, if_neg h2, hk]
theorem doOk (hg : goodStoke x) (h : ¬ x.hour < S.last) (h2 : ¬ w.gang ≤ S.done x.hour) (hk : kindDo w S x = .ok S1) : doStoke w S x = .ok { S1 with last := x.hour, done := setd S.done x.hour (S.done x.hour + 1) } := by unfold doStoke; rw [if_neg (by simpa using hg), if_neg h, if_neg h2, hk]
theorem pf_err (hrun : p0 = playFrom w S (l.drop k) k) (hdrop : l.drop k = x :: l.drop (k + 1)) (hd : doStoke w S x = .error e) : p0 = .error (k, e) := by
  rw [hrun, hdrop]; simp only [playFrom, hd]
theorem pf_ok (hrun : p0 = playFrom w S (l.drop k) k) (hdrop : l.drop k = x :: l.drop (k + 1)) (hd : doStoke w S x = .ok S1) : p0 = playFrom w S1 (l.drop (k + 1)) (k + 1) := by
  rw [hrun, hdrop]; simp only [playFrom, hd]
end
/-- What the rounds of the document's play keep. -/
structure PlayI (w : House) (l : List Stoke) (k : Nat) (S : St) : Prop where
  le : k ≤ l.length
  run : playFrom w .init l 0 = playFrom w S (l.drop k) k
  ok : S.Ok k
  aft : After w (l.take k) S
  prev : ∀ y, 0 < k → l[k - 1]? = some y → y.hour = S.last
  zero : k = 0 → S.last = 0
theorem PlayI.init {w : House} (hw : goodHouse w) (l : List Stoke) : PlayI w l 0 .init :=
  ⟨Nat.zero_le _, rfl, St.init_ok, ⟨fun i hi => OvT.init hw, fun h => ⟨rfl, by have := hw.2.2.2.2.2.2.1; show (0 : Int) ≤ _; omega⟩, fun _ hx => (by cases hx), fun _ hx => (by cases hx)⟩, fun _ h => absurd h (by omega), fun _ => rfl⟩
theorem drop_at {α : Type} {l : List α} {k : Nat} {x : α} (hk : l[k]? = some x) : l.drop k = x :: l.drop (k + 1) := by
  obtain ⟨hlt, rfl⟩ := List.getElem?_eq_some_iff.1 hk
  rw [List.drop_eq_getElem_cons hlt]
theorem take_at {α : Type} {l : List α} {k : Nat} {x : α} (hk : l[k]? = some x) : l.take (k + 1) = l.take k ++ [x] := by
  rw [List.take_add_one, hk]; rfl
theorem PlayI.step {w : House} (hw : goodHouse w) {l : List Stoke} {k : Nat} {S S' : St} {x : Stoke} (H : PlayI w l k S) (hk : l[k]? = some x) (hd : doStoke w S x = .ok S') : PlayI w l (k + 1) S' :=
  ⟨(List.getElem?_eq_some_iff.1 hk).1, pf_ok H.run (drop_at hk) hd, doStoke_ok hw H.ok hd, by rw [take_at hk]; exact H.aft.step hw hd,
   fun y _ hy => by
     rw [show k + 1 - 1 = k from rfl, hk] at hy
     cases hy
     unfold doStoke at hd
     repeat' split at hd
     all_goals first | (cases hd; done) | (injection hd with hd; subst hd; rfl),
   fun h => absurd h (by omega)⟩
theorem eOvens_len (ov : Nat → Oven) : (eOvens ov).length = 40 := rfl
theorem ovs_set {ov : Nat → Oven} {i : Nat} {o : Oven} (hi : i < 8) : splice (eOvens ov) (0 + i * 5) (eOven o) = eOvens (upd ov i o) := by
  rcases i with _ | _ | _ | _ | _ | _ | _ | _ | i <;> first | (exfalso; omega) | rfl
/-- The hour in which a charge is emptied. -/
def endFrom (r : Int) : List Stoke → Int
  | [] => 4194304
  | y :: t => if y.ret = r ∧ y.kind = 1 then y.hour else endFrom r t
theorem endFrom_yes {r : Int} {y : Stoke} {t : List Stoke} (h : y.ret = r ∧ y.kind = 1) : endFrom r (y :: t) = y.hour := by simp only [endFrom, if_pos h]
theorem endFrom_no {r : Int} {y : Stoke} {t : List Stoke} (h : ¬ (y.ret = r ∧ y.kind = 1)) : endFrom r (y :: t) = endFrom r t := by simp only [endFrom, if_neg h]
/-- The gas of one hour. -/
def gasOne (w : House) (x : Stoke) (t : List Stoke) (hour : Int) : Option Span :=
  if x.kind = 0 ∧ 0 ≤ hour - x.hour ∧ hour - x.hour < w.curve.length ∧ hour < endFrom x.ret t then (w.curve[(hour - x.hour).toNat]?).map fun c => ⟨x.tons * c.lo, x.tons * c.hi⟩ else none
def rGas (w : House) (hour : Int) : Span → List Stoke → Span
  | acc, [] => acc
  | acc, x :: t => rGas w hour (match gasOne w x t hour with
    | some s => addS acc s
    | none => acc) t
theorem endFrom_bound {r : Int} : ∀ {l : List Stoke}, (∀ x ∈ l, goodStoke x) → 0 ≤ endFrom r l ∧ endFrom r l ≤ 4194304
  | [], _ => by unfold endFrom; omega
  | y :: t, h => by
    unfold endFrom
    split
    · have := (h y List.mem_cons_self).1; omega
    · exact endFrom_bound fun x hx => h x (List.mem_cons_of_mem _ hx)
end Go.Proofs.Ytjmailhoidenaaa
