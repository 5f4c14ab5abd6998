/-
  The document's search for the soonest hour, stage by stage, beside the program's.
-/
import Derived.Test.YtjmailhoidenaaaP02e
set_option linter.all false
namespace Go.Proofs.Ytjmailhoidenaaa
open Go Go.H
def At1 (w : House) (S : St) (own : Int) (S' : St) : Prop := ∃ P f b, 1048576 ≤ b ∧ soon1 w S (S.ov own.toNat) = (P, f) ∧ Stage w own.toNat P S' f (S.ov own.toNat).runs b
def At2 (w : House) (S : St) (own : Int) (S' : St) : Prop := ∃ P f r b, soon2 w (soon1 w S (S.ov own.toNat)).1 (S.ov own.toNat) (soon1 w S (S.ov own.toNat)).2 = (P, f) ∧ Stage w own.toNat P S' f r b ∧ r < w.runs
section
variable {w : House} {S S' S2 : St} {own t : Int} {n : Nat}
theorem at1_hot (hS : S.Ok n) (hn : n ≤ 1000) (hown : 0 ≤ own ∧ own ≤ 7) (h0 : (S.ov own.toNat).state = 0) : At1 w S own S :=
  ⟨S, (S.ov own.toNat).since, 1048676, by decide, by unfold soon1; rw [if_neg (by omega)], ⟨rfl, rfl, h0, rfl, rfl, hS.fr hn, (hS.ov _ (by omega)).1.1⟩⟩
theorem at1_emp (hw : goodHouse w) (hS : S.Ok n) (hn : n ≤ 1000) (hown : 0 ≤ own ∧ own ≤ 7) (h1 : (S.ov own.toNat).state = 1) (h : Early w S own 1 (some (t, S'))) : At1 w S own S' := by
  obtain ⟨e, hst⟩ := stage_empty hw (hS.fr hn) (by decide) hown h1 (hS.ov _ (by omega)).1.1 h
  exact ⟨_, _, _, by decide, by unfold soon1; rw [if_pos h1, ← e], hst⟩
theorem at2_no (H : At1 w S own S') (hr : (S.ov own.toNat).runs ≤ w.runs) (hne : (S.ov own.toNat).runs ≠ w.runs) : At2 w S own S' := by
  obtain ⟨P, f, b, hb, e, hst⟩ := H
  exact ⟨P, f, _, b, by rw [e]; unfold soon2; rw [if_neg hne], hst, by omega⟩
theorem at2_sc (hw : goodHouse w) (H : At1 w S own S') (hown : 0 ≤ own ∧ own ≤ 7) (hr : (S.ov own.toNat).runs = w.runs) (h : Early w S' own 2 (some (t, S2))) : At2 w S own S2 := by
  obtain ⟨P, f, b, hb, e, hst⟩ := H
  obtain ⟨e2, hst2⟩ := stage_scour hw hst hb hown h
  exact ⟨P.taken t, t + w.scurf, 0, b + 1, by rw [e]; unfold soon2; rw [if_pos hr, e2], hst2, by have := hw.2.2.2.2.1; omega⟩
theorem soonR_ok (hw : goodHouse w) (H : At2 w S own S') (hown : 0 ≤ own ∧ own ≤ 7) (hst : ¬ ((S.ov own.toNat).state = 2 ∨ (S.ov own.toNat).state = 3)) (h : Early w S' own 0 (some (t, S2))) : soonest w S (S.ov own.toNat) = .ok t := by
  obtain ⟨P, f, r, b, e, hs, hr⟩ := H
  obtain ⟨e2, h2⟩ := (stage_charge hw hs hown hr).1 t S2 h
  have h3 := hs.frS.last
  have h4 := h.1
  exact soon_ok hst (by rw [e]; exact e2) (by omega) h2
theorem soonR_no (hw : goodHouse w) (H : At2 w S own S') (hown : 0 ≤ own ∧ own ≤ 7) (hst : ¬ ((S.ov own.toNat).state = 2 ∨ (S.ov own.toNat).state = 3)) (h : Early w S' own 0 none) : soonest w S (S.ov own.toNat) = .error 7 := by
  obtain ⟨P, f, r, b, e, hs, hr⟩ := H
  have e2 := (stage_charge hw hs hown hr).2 h
  exact soon_err hst (.inr (.inr (.inr (.inr (by rw [e]; exact e2))))) hw
theorem soonR_no2 (hw : goodHouse w) (H : At1 w S own S') (hown : 0 ≤ own ∧ own ≤ 7) (hst : ¬ ((S.ov own.toNat).state = 2 ∨ (S.ov own.toNat).state = 3)) (hr : (S.ov own.toNat).runs = w.runs) (h : Early w S' own 2 none) : soonest w S (S.ov own.toNat) = .error 7 := by
  obtain ⟨P, f, b, hb, e, hs⟩ := H
  have e2 := none_scour hw hs hown h
  exact soon_err hst (.inr (.inr (.inr (.inl (by rw [e]; unfold soon2; rw [if_pos hr]; exact e2))))) hw
theorem soonR_no1 (hw : goodHouse w) (hS : S.Ok n) (hn : n ≤ 1000) (hown : 0 ≤ own ∧ own ≤ 7) (hst : ¬ ((S.ov own.toNat).state = 2 ∨ (S.ov own.toNat).state = 3)) (h1 : (S.ov own.toNat).state = 1) (h : Early w S own 1 none) : soonest w S (S.ov own.toNat) = .error 7 := by
  have e2 := none_empty hw (hS.fr hn) hown h1 (hS.ov _ (by omega)).1.1 h
  exact soon_err hst (.inl (by unfold soon1; rw [if_pos h1]; exact e2)) hw
theorem soonR_st (h : (S.ov own.toNat).state = 2 ∨ (S.ov own.toNat).state = 3) : soonest w S (S.ov own.toNat) = .error 6 := by
  unfold soonest; rw [if_pos h]
end
end Go.Proofs.Ytjmailhoidenaaa
