/-
  The tests in another order: nothing changes.
-/
import Derived.Test.YtjbfdfmngampdaaP10
import Derived.Test.YtjbfdfmngampdaaP3
set_option linter.all false
namespace Go.Proofs.Ytjbfdfmngampdaa
open Go Go.H
theorem tmod_nat {a b : Int} {m n : Nat} (ha : a = m) (hb : b = n) : a.tmod b = ((m % n : Nat) : Int) := by subst ha; subst hb; rfl
def w0 : Test := ⟨0, 0, ⟨0, 0⟩⟩
def turnL (l : List Test) (t : Nat) (k : Nat) : List Test := (List.range k).map fun i => l.getD ((i + t) % l.length) w0
theorem turnL_len {l : List Test} {t k : Nat} : (turnL l t k).length = k := by simp [turnL]
theorem turnL_succ {l : List Test} {t k : Nat} {x : Test} (h : l[(k + t) % l.length]? = some x) : turnL l t (k + 1) = turnL l t k ++ [x] := by
  simp [turnL, List.range_succ, List.getD, h]
theorem turnL_all {l : List Test} {t : Nat} (h : 0 < l.length) : (turnL l t l.length).Perm l := by
  have hs : t % l.length < l.length := Nat.mod_lt _ h
  have key : turnL l t l.length = l.drop (t % l.length) ++ l.take (t % l.length) := by
    refine List.ext_getElem? fun i => ?_
    by_cases hi : i < l.length
    · have h1 : (turnL l t l.length)[i]? = some (l.getD ((i + t) % l.length) w0) := by simp [turnL, hi]
      have h2 : (i + t) % l.length < l.length := Nat.mod_lt _ h
      have h3 : l.getD ((i + t) % l.length) w0 = l[(i + t) % l.length] := by simp [List.getD, h2]
      rw [h1, h3]
      have h4 : (i + t) % l.length = (i + t % l.length) % l.length := by rw [Nat.add_mod, Nat.mod_eq_of_lt hi, Nat.add_mod i (t % l.length), Nat.mod_mod, Nat.mod_eq_of_lt hi]
      by_cases hc : i + t % l.length < l.length
      · have h5 : (i + t) % l.length = i + t % l.length := by rw [h4, Nat.mod_eq_of_lt hc]
        rw [List.getElem?_append_left (by rw [List.length_drop]; omega), List.getElem?_drop, List.getElem?_eq_getElem (by omega)]
        simp only [h5]
        congr 2
        omega
      · have h5 : (i + t) % l.length = i + t % l.length - l.length := by rw [h4, Nat.mod_eq_sub_mod (by omega), Nat.mod_eq_of_lt (by omega)]
        rw [List.getElem?_append_right (by rw [List.length_drop]; omega), List.length_drop, List.getElem?_take_of_lt (by omega), List.getElem?_eq_getElem (by omega)]
        simp only [h5]
        congr 2
        omega
    · rw [List.getElem?_eq_none (by rw [turnL_len]; omega), List.getElem?_eq_none (by simp; omega)]
  rw [key]
  exact List.perm_append_comm.trans (by rw [List.take_append_drop])
theorem sum_perm {a b : List Int} (h : a.Perm b) : a.sum = b.sum := by
  induction h with
  | nil => rfl
  | cons x _ ih => simp [ih]
  | swap x y l => simp; omega
  | trans _ _ ih1 ih2 => exact ih1.trans ih2
theorem turnL_perm (l : List Test) (t : Nat) : (turnL l t l.length).Perm l := by
  rcases Nat.eq_zero_or_pos l.length with h | h
  · rw [List.length_eq_zero_iff.1 h]; exact List.Perm.refl _
  · exact turnL_all h
section
variable {d : Decree} {l l2 : List Test} (hp : l2.Perm l)
include hp
theorem allOk_perm : AllOk l2 ↔ AllOk l := ⟨fun h t ht => h t (hp.mem_iff.2 ht), fun h t ht => h t (hp.mem_iff.1 ht)⟩
theorem errT_perm : errT l2 = errT l := by
  unfold errT
  rw [hp.length_eq]
  simp only [allOk_perm hp]
theorem startE_perm : startE d l2 = startE d l := by
  unfold startE
  rw [hp.length_eq]
  simp only [allOk_perm hp]
theorem lackN_perm (h : Int) : lackN d l2 h = lackN d l h := by
  unfold lackN winL
  rw [(hp.filter _).length_eq]
theorem lackF_perm (h : Int) : lackF d l2 h = lackF d l h := by
  have e := hp.filter fun t => decide (inWin d h t)
  unfold lackF winL
  rw [lackS_sum, lackS_sum, e.length_eq]
  unfold sumW
  rw [sum_perm (e.map _), sum_perm (e.map _)]
theorem kept_perm (h : Int) : keptA d l2 h = keptA d l h := by
  unfold keptA
  rw [startE_perm hp, lackN_perm hp, lackF_perm hp]
theorem due_perm (h : Int) : dueA d l2 h = dueA d l h := by
  unfold dueA
  rw [kept_perm hp, lackN_perm hp, lackF_perm hp]
theorem worst_perm : worstA d l2 = worstA d l := by
  unfold worstA
  rw [startE_perm hp, hp.length_eq]
  by_cases hl : l.length = 0
  · rw [if_pos hl, if_pos hl]
  · have h1 : l ≠ [] := fun h => hl (by rw [h]; rfl)
    have h2 : l2 ≠ [] := fun h => hl (by rw [← hp.length_eq, h]; rfl)
    obtain ⟨t, ht, e⟩ := worst_in (d := d) (all := l) l h1
    obtain ⟨t2, ht2, e2⟩ := worst_in (d := d) (all := l2) l2 h2
    have a := worst_least (d := d) (all := l) l t2 (hp.mem_iff.1 ht2)
    have b := worst_least (d := d) (all := l2) l2 t (hp.mem_iff.2 ht)
    rw [e] at a
    rw [e2] at b
    rw [lackF_perm hp, lackF_perm hp] at b
    dsimp only at a b
    have e1 : ansF (lackF d l t.hour) = ansF (lackF d l t2.hour) := by omega
    have e3 : t.hour = t2.hour := by have := a.2 e1; have := b.2 e1.symm; omega
    rw [e, e2, lackF_perm hp, e3]
theorem tested_perm (s f t : Int) : TestedIn l2 s f t ↔ TestedIn l s f t :=
  ⟨fun ⟨x, h, q⟩ => ⟨x, hp.mem_iff.1 h, q⟩, fun ⟨x, h, q⟩ => ⟨x, hp.mem_iff.2 h, q⟩⟩
theorem miss_perm {st p : Int} {own : Span} {x : Int × Int × Int} : MissR l2 st p own x ↔ MissR l st p own x := by
  unfold MissR
  rw [errT_perm hp]
  simp only [tested_perm hp]
end
theorem miss_cases {l : List Test} {st p : Int} {own : Span} {x y z : Int} (h : MissR l st p own (x, y, z)) : (x = 0 ∧ y = 0 ∧ z ≠ 0 ∧ z ≠ 4) ∨ (x = 0 ∧ y = 0 ∧ z = 4 ∧ MissB st p own ∧ ∀ h s, own.lo + p - 1 ≤ h → h ≤ own.hi → 0 ≤ s → s < st → TestedIn l s (h - p + 1) h) ∨
    (z = 0 ∧ MissB st p own ∧ (own.lo + p - 1 ≤ x ∧ x ≤ own.hi ∧ 0 ≤ y ∧ y < st) ∧ ¬ TestedIn l y (x - p + 1) x ∧ (∀ h' s', own.lo + p - 1 ≤ h' → h' < x → 0 ≤ s' → s' < st → TestedIn l s' (h' - p + 1) h') ∧ ∀ s', 0 ≤ s' → s' < y → TestedIn l s' (x - p + 1) x) := by
  rcases h with ⟨a, e⟩ | ⟨a, b, e⟩ | ⟨a, b, e, c⟩ | ⟨a, b, h, s, e, c1, c2, c3, c4, c5, c6, c7⟩
  · injection e with e1 e2; injection e2 with e2 e3
    refine .inl ⟨e1, e2, by rw [e3]; exact a, ?_⟩
    rw [e3]
    unfold errT
    split <;> (try split) <;> decide
  · injection e with e1 e2; injection e2 with e2 e3
    exact .inl ⟨e1, e2, by rw [e3]; decide, by rw [e3]; decide⟩
  · injection e with e1 e2; injection e2 with e2 e3
    exact .inr (.inl ⟨e1, e2, e3, b, c⟩)
  · injection e with e1 e2; injection e2 with e2 e3
    subst e1 e2 e3
    exact .inr (.inr ⟨rfl, b, ⟨c1, c2, c3, c4⟩, c5, c6, c7⟩)
theorem tested_take {l : List Test} {k : Nat} {x : Test} (hk : l[k]? = some x) (s f t : Int) : TestedIn (l.take (k + 1)) s f t ↔ TestedIn (l.take k) s f t ∨ (x.station = s ∧ f ≤ x.hour ∧ x.hour ≤ t) := by
  rw [List.take_add_one, hk]
  unfold TestedIn
  constructor
  · rintro ⟨y, hy, h⟩
    rcases List.mem_append.1 hy with hy | hy
    · exact .inl ⟨y, hy, h⟩
    · simp at hy; subst hy; exact .inr h
  · rintro (⟨y, hy, h⟩ | h)
    · exact ⟨y, List.mem_append_left _ hy, h⟩
    · exact ⟨x, by simp, h⟩
theorem cl_cases {l : List Test} {k : Nat} {s p hh : Int} {b : Bool} (hb : b = decide (TestedIn (l.take k) s (hh - p + 1) hh)) (hk : k < l.length) : ∃ x, l[k]? = some x ∧
    ((b = true ∧ true = decide (TestedIn (l.take (k + 1)) s (hh - p + 1) hh)) ∨ (b = false ∧ x.station ≠ s ∧ false = decide (TestedIn (l.take (k + 1)) s (hh - p + 1) hh)) ∨ (b = false ∧ x.station = s ∧ ¬ x.hour ≤ hh ∧ false = decide (TestedIn (l.take (k + 1)) s (hh - p + 1) hh)) ∨
     (b = false ∧ x.station = s ∧ x.hour ≤ hh ∧ x.hour > hh - p ∧ true = decide (TestedIn (l.take (k + 1)) s (hh - p + 1) hh)) ∨ (b = false ∧ x.station = s ∧ x.hour ≤ hh ∧ ¬ x.hour > hh - p ∧ false = decide (TestedIn (l.take (k + 1)) s (hh - p + 1) hh))) := by
  obtain ⟨x, hx⟩ : ∃ q, l[k]? = some q := ⟨_, List.getElem?_eq_getElem hk⟩
  refine ⟨x, hx, ?_⟩
  have ht := tested_take hx s (hh - p + 1) hh
  by_cases h0 : TestedIn (l.take k) s (hh - p + 1) hh
  · exact .inl ⟨by rw [hb, decide_eq_true h0], (decide_eq_true (ht.2 (.inl h0))).symm⟩
  · have hb0 : b = false := by rw [hb, decide_eq_false h0]
    have no : ¬ (x.station = s ∧ hh - p + 1 ≤ x.hour ∧ x.hour ≤ hh) → false = decide (TestedIn (l.take (k + 1)) s (hh - p + 1) hh) := fun hn => (decide_eq_false (fun h => (ht.1 h).elim h0 hn)).symm
    by_cases h1 : x.station = s
    · by_cases h2 : x.hour ≤ hh
      · by_cases h3 : x.hour > hh - p
        · exact .inr (.inr (.inr (.inl ⟨hb0, h1, h2, h3, (decide_eq_true (ht.2 (.inr ⟨h1, by omega, h2⟩))).symm⟩)))
        · exact .inr (.inr (.inr (.inr ⟨hb0, h1, h2, h3, no (fun h => h3 (by omega))⟩)))
      · exact .inr (.inr (.inl ⟨hb0, h1, h2, no (fun h => h2 h.2.2)⟩))
    · exact .inr (.inl ⟨hb0, h1, no (fun h => h1 h.1)⟩)
end Go.Proofs.Ytjbfdfmngampdaa
