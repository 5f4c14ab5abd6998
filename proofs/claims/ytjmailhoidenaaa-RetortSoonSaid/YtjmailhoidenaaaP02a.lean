/-
  What the stokes of a retort come to: the plain part of RetortStates.
-/
import Derived.Test.YtjmailhoidenaaaS2
set_option linter.all false
namespace Go.Proofs.Ytjmailhoidenaaa
open Go Go.H
structure Tal where
  runs : Int
  lit : Int
  tons : Int
  out : Bool
def tal (i : Int) (T : Tal) (x : Stoke) : Tal :=
  if x.ret ≠ i then T
  else if x.kind = 0 then { T with runs := T.runs + 1, tons := x.tons }
  else if x.kind = 1 then { T with tons := 0 }
  else if x.kind = 2 then { T with runs := 0 }
  else if x.kind = 3 then { T with out := true }
  else if x.kind = 4 then { T with lit := T.lit + 1, out := false }
  else T
def tals (i : Int) (l : List Stoke) : Tal := l.foldl (tal i) ⟨0, 0, 0, false⟩
/-- An oven beside its tally. -/
structure OvT (w : House) (o : Oven) (T : Tal) : Prop where
  runs : o.runs = T.runs ∧ 0 ≤ T.runs ∧ T.runs ≤ w.runs
  tons : o.tons = T.tons ∧ 0 ≤ T.tons ∧ T.tons ≤ 100
  cool : o.cool = T.lit ∧ 0 ≤ T.lit ∧ T.lit ≤ w.cool + 1
  bake : o.state = 1 ↔ 0 < T.tons
  cold : o.state = 2 ↔ T.out = true
  crack : o.state = 3 ↔ T.lit = w.cool + 1
  st : 0 ≤ o.state ∧ o.state ≤ 3
theorem OvT.init {w : House} (hw : goodHouse w) : OvT w ⟨0, 0, 0, 0, 0⟩ ⟨0, 0, 0, false⟩ := by
  obtain ⟨hl1, hl2, hl3, ⟨hle0, hle1⟩, ⟨hru0, hru1⟩, ⟨hsc0, hsc1⟩, ⟨hga0, hga1⟩, ⟨hco0, hco1⟩⟩ := hw
  constructor <;> simp <;> omega
theorem OvT.step {w : House} {S S' : St} {x : Stoke} (hw : goodHouse w) (hx : goodStoke x) (hh : kindDo w S x = .ok S') {i : Nat} (hi : i < 8) {T : Tal} (H : OvT w (S.ov i) T) : OvT w (S'.ov i) (tal i T x) := by
  obtain ⟨⟨hh0, hh1⟩, ⟨ht0, ht1⟩, ⟨hk0, hk1⟩, ht, htn⟩ := hx
  obtain ⟨hl1, hl2, hl3, ⟨hle0, hle1⟩, ⟨hru0, hru1⟩, ⟨hsc0, hsc1⟩, ⟨hga0, hga1⟩, ⟨hco0, hco1⟩⟩ := hw
  obtain ⟨k, hk⟩ : ∃ k, x.ret.toNat = k := ⟨_, rfl⟩
  obtain ⟨⟨a1, a2, a3⟩, ⟨b1, b2, b3⟩, ⟨c1, c2, c3⟩, d, e, f, g1, g2⟩ := H
  unfold kindDo at hh
  simp only [charge, empty, scour, letOut, lightUp, hk] at hh
  by_cases hik : i = k
  · subst hik
    have hr : ¬ x.ret ≠ (i : Int) := by omega
    unfold tal
    rw [if_neg hr]
    repeat' split at hh
    all_goals first | (cases hh; done) | skip
    all_goals
      injection hh with hh
      subst hh
      dsimp only
      rw [upd_same]
      repeat' split
      all_goals first
        | (exfalso; omega)
        | (constructor <;> dsimp only <;> first | omega | (simp_all; done) | (simp_all; omega))
  · have hr : x.ret ≠ (i : Int) := by omega
    unfold tal
    rw [if_pos hr]
    have : S'.ov i = S.ov i := by
      repeat' split at hh
      all_goals first | (cases hh; done) | skip
      all_goals
        injection hh with hh
        subst hh
        simp only [upd, if_neg hik]
    rw [this]
    exact ⟨⟨a1, a2, a3⟩, ⟨b1, b2, b3⟩, ⟨c1, c2, c3⟩, d, e, f, g1, g2⟩
/-- How many stokes are of an hour. -/
def cntH (h : Int) (l : List Stoke) : Int := (l.filter fun x => decide (x.hour = h)).length
theorem cntH_snoc (h : Int) (l : List Stoke) (x : Stoke) : cntH h (l ++ [x]) = cntH h l + (if x.hour = h then 1 else 0) := by
  unfold cntH
  by_cases hx : x.hour = h <;> simp [List.filter_append, hx]
/-- What is so of a shop after some stokes. -/
structure After (w : House) (l : List Stoke) (S : St) : Prop where
  ov : ∀ i, i < 8 → OvT w (S.ov i) (tals i l)
  done : ∀ h, S.done h = cntH h l ∧ S.done h ≤ w.gang
  good : ∀ x ∈ l, goodStoke x
  last : ∀ x ∈ l, x.hour ≤ S.last
theorem tals_snoc (i : Int) (l : List Stoke) (x : Stoke) : tals i (l ++ [x]) = tal i (tals i l) x := by simp [tals, List.foldl_append]
theorem After.step {w : House} {S S' : St} {l : List Stoke} {x : Stoke} (hw : goodHouse w) (H : After w l S) (hh : doStoke w S x = .ok S') : After w (l ++ [x]) S' := by
  unfold doStoke at hh
  repeat' split at hh
  all_goals first | (cases hh; done) | skip
  rename_i hg0 hlast hga _ S1 hk
  have hg : goodStoke x := by simpa using hg0
  injection hh with hh
  subst hh
  have hS1 : S1.done = S.done := by
    unfold kindDo charge empty scour letOut lightUp at hk
    dsimp only at hk
    repeat' split at hk
    all_goals first | (cases hk; done) | (injection hk with hk; subst hk; rfl)
  refine ⟨fun i hi => ?_, fun h => ?_, fun y hy => ?_, fun y hy => ?_⟩
  · rw [tals_snoc]; exact OvT.step hw hg hk hi (H.ov i hi)
  · have h1 := H.done h
    have h2 := H.done x.hour
    rw [cntH_snoc]
    simp only [setd]
    by_cases hx : x.hour = h
    · subst hx; simp only [if_true]; omega
    · rw [if_neg hx, if_neg (fun hq => hx hq.symm)]; omega
  · rcases List.mem_append.1 hy with hy | hy
    · exact H.good y hy
    · simp only [List.mem_singleton] at hy; subst hy; exact hg
  · rcases List.mem_append.1 hy with hy | hy
    · have := H.last y hy; dsimp only; omega
    · simp only [List.mem_singleton] at hy; subst hy; exact Int.le_refl _
theorem playFrom_after {w : House} (hw : goodHouse w) : ∀ (l : List Stoke) (l0 : List Stoke) {S S' : St} {k : Nat}, After w l0 S → playFrom w S l k = .ok S' → After w (l0 ++ l) S'
  | [], l0, S, S', k, H, hh => by cases hh; simpa using H
  | x :: l, l0, S, S', k, H, hh => by
    simp only [playFrom] at hh
    split at hh
    · cases hh
    · rename_i S1 h1
      have := playFrom_after hw l (l0 ++ [x]) (H.step hw h1) hh
      simpa using this
theorem play_after {w : House} {l : List Stoke} {S : St} (hh : play w l = .ok S) : After w l S := by
  have hw := (play_ok hh).1
  unfold play at hh
  split at hh
  · cases hh
  split at hh
  · cases hh
  exact playFrom_after hw l [] ⟨fun i hi => OvT.init hw, fun h => ⟨rfl, by have := hw.2.2.2.2.2.2.1; show (0 : Int) ≤ _; omega⟩, fun _ hx => (by cases hx), fun _ hx => (by cases hx)⟩ hh
end Go.Proofs.Ytjmailhoidenaaa
