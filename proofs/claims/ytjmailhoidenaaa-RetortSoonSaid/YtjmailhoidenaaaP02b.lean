/-
  One retort's stoke by itself, as the document tells it.
-/
import Derived.Test.YtjmailhoidenaaaP02
set_option linter.all false
namespace Go.Proofs.Ytjmailhoidenaaa
open Go Go.H
/-- A retort after a stoke, or its error. -/
def ovDo (w : House) (o : Oven) (x : Stoke) : Except Int Oven :=
  if x.kind = 0 then
    if o.state ≠ 0 then .error 6 else if x.hour < o.since then .error 7 else if w.runs ≤ o.runs then .error 11 else .ok ⟨1, x.hour, x.tons, o.runs + 1, o.cool⟩
  else if x.kind = 1 then
    if o.state ≠ 1 then .error 6 else if x.hour < o.since + w.least then .error 7 else .ok ⟨0, x.hour, 0, o.runs, o.cool⟩
  else if x.kind = 2 then
    if o.state ≠ 0 then .error 6 else if x.hour < o.since then .error 7 else .ok ⟨o.state, x.hour + w.scurf, o.tons, 0, o.cool⟩
  else if x.kind = 3 then
    if o.state ≠ 0 then .error 6 else if x.hour < o.since then .error 7 else .ok ⟨2, x.hour, o.tons, o.runs, o.cool⟩
  else
    if o.state ≠ 2 then .error 6 else .ok ⟨if o.cool = w.cool then 3 else 0, x.hour, o.tons, o.runs, o.cool + 1⟩
theorem kindDo_err {w : House} {S : St} {x : Stoke} {e : Int} : kindDo w S x = .error e ↔ ovDo w (S.ov x.ret.toNat) x = .error e := by
  unfold kindDo ovDo charge empty scour letOut lightUp
  dsimp only
  repeat' split
  all_goals simp_all
theorem kindDo_good {w : House} {S S' : St} {x : Stoke} (h : kindDo w S x = .ok S') : ∃ o', ovDo w (S.ov x.ret.toNat) x = .ok o' ∧ S'.ov = upd S.ov x.ret.toNat o' ∧ S'.done = S.done ∧ S'.last = S.last := by
  unfold kindDo charge empty scour letOut lightUp at h
  unfold ovDo
  dsimp only at h
  repeat' split at h
  all_goals first | (cases h; done) | skip
  all_goals
    injection h with h
    subst h
    refine ⟨_, ?_, rfl, rfl, rfl⟩
    (repeat' split) <;> first
      | rfl
      | contradiction
      | (exfalso; omega)
      | (simp_all; done)
theorem kindDo_of {w : House} {S : St} {x : Stoke} {o' : Oven} (h : ovDo w (S.ov x.ret.toNat) x = .ok o') : ∃ S', kindDo w S x = .ok S' := by
  cases hk : kindDo w S x with
  | ok S' => exact ⟨S', rfl⟩
  | error e => rw [kindDo_err.1 hk] at h; cases h
theorem playFrom_append {w : House} : ∀ (l l2 : List Stoke) (S : St) (k : Nat), playFrom w S (l ++ l2) k = (match playFrom w S l k with
    | .ok S' => playFrom w S' l2 (k + l.length)
    | .error e => .error e)
  | [], l2, S, k => rfl
  | x :: l, l2, S, k => by
    simp only [List.cons_append, playFrom]
    cases doStoke w S x with
    | error e => rfl
    | ok S' =>
      simp only
      rw [playFrom_append l l2 S' (k + 1), show k + 1 + l.length = k + (x :: l).length by simp only [List.length_cons]; omega]
theorem playFrom_ok {w : House} (hw : goodHouse w) : ∀ (l : List Stoke) (S S' : St) (n k : Nat), S.Ok n → playFrom w S l k = .ok S' → S'.Ok (n + l.length)
  | [], S, S', n, k, hS, hh => by cases hh; exact hS
  | x :: l, S, S', n, k, hS, hh => by
    simp only [playFrom] at hh
    split at hh
    · cases hh
    · rename_i S1 h1
      have := playFrom_ok hw l S1 S' (n + 1) (k + 1) (doStoke_ok hw hS h1) hh
      rwa [show n + 1 + l.length = n + (x :: l).length by simp only [List.length_cons]; omega] at this
end Go.Proofs.Ytjmailhoidenaaa
