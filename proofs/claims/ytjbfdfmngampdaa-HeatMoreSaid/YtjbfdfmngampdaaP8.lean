/-
  The best mixture: right, cheapest, and the first of those.
-/
import Derived.Test.YtjbfdfmngampdaaP7
set_option linter.all false
namespace Go.Proofs.Ytjbfdfmngampdaa
open Go Go.H
def lexL : List Int → List Int → Prop
  | a :: as, b :: bs => a < b ∨ a = b ∧ lexL as bs
  | _, _ => False
theorem allM_lex : ∀ l : List Supply, (allM l).Pairwise lexL
  | [] => by simp [allM]
  | x :: l => by
    have ih := allM_lex l
    have key : ∀ n : Nat, ((List.range n).flatMap fun (n : Nat) => (allM l).map ((n : Int) :: ·)).Pairwise lexL := by
      intro n
      induction n with
      | zero => simp
      | succ n ihn =>
        rw [List.range_succ, List.flatMap_append, List.pairwise_append]
        refine ⟨ihn, ?_, fun a ha b hb => ?_⟩
        · simp only [List.flatMap_cons, List.flatMap_nil, List.append_nil]
          exact List.pairwise_map.2 (ih.imp fun h => .inr ⟨rfl, h⟩)
        · simp only [List.flatMap_cons, List.flatMap_nil, List.append_nil, List.mem_map] at hb
          obtain ⟨t, _, rfl⟩ := hb
          simp only [List.mem_flatMap, List.mem_range, List.mem_map] at ha
          obtain ⟨m, hm, u, _, rfl⟩ := ha
          exact .inl (by omega)
    exact key _
structure Best1 (l : List Supply) (q : Ask) (ms : List (List Int)) (m : List Int) (c : Int) : Prop where
  mem : m ∈ ms
  right : rightP l q m
  cost : c = costM l m
  least : ∀ m' ∈ ms, rightP l q m' → c ≤ costM l m' ∧ (costM l m' = c → m' = m ∨ lexL m m')
theorem fold_best {l : List Supply} {q : Ask} (ms : List (List Int)) : ms.Pairwise lexL → (ms.foldl (updB l q) none = none ∧ ∀ m ∈ ms, ¬ rightP l q m) ∨ ∃ m c, ms.foldl (updB l q) none = some (m, c) ∧ Best1 l q ms m c := by
  induction ms using snoc_ind with
  | h0 => intro _; exact .inl ⟨rfl, fun m hm => by cases hm⟩
  | h1 ms t ih =>
    intro hp
    have hp2 := List.pairwise_append.1 hp
    rw [List.foldl_append]
    simp only [List.foldl_cons, List.foldl_nil]
    rcases ih hp2.1 with ⟨h1, h2⟩ | ⟨m, c, h1, h2⟩
    · rw [h1]
      by_cases hr : rightP l q t
      · refine .inr ⟨t, costM l t, if_pos ⟨hr, trivial⟩, by simp, hr, rfl, fun m' hm' hr' => ?_⟩
        rcases List.mem_append.1 hm' with hm' | hm'
        · exact absurd hr' (h2 m' hm')
        · rw [List.mem_singleton.1 hm']; exact ⟨Int.le_refl _, fun _ => .inl rfl⟩
      · refine .inl ⟨if_neg (fun hq => hr hq.1), fun m' hm' => ?_⟩
        rcases List.mem_append.1 hm' with hm' | hm'
        · exact h2 m' hm'
        · rw [List.mem_singleton.1 hm']; exact hr
    · rw [h1]
      by_cases hr : rightP l q t ∧ costM l t < c
      · refine .inr ⟨t, costM l t, if_pos hr, by simp, hr.1, rfl, fun m' hm' hr' => ?_⟩
        rcases List.mem_append.1 hm' with hm' | hm'
        · have := h2.least m' hm' hr'
          exact ⟨by omega, fun h => by omega⟩
        · rw [List.mem_singleton.1 hm']; exact ⟨Int.le_refl _, fun _ => .inl rfl⟩
      · refine .inr ⟨m, c, if_neg hr, List.mem_append_left _ h2.mem, h2.right, h2.cost, fun m' hm' hr' => ?_⟩
        rcases List.mem_append.1 hm' with hm' | hm'
        · exact h2.least m' hm' hr'
        · rw [List.mem_singleton.1 hm'] at hr' ⊢
          exact ⟨by by_cases h9 : costM l t < c
                    · exact absurd ⟨hr', h9⟩ hr
                    · omega, fun _ => .inr (hp2.2.2 m h2.mem t (by simp))⟩
theorem mix_best (l : List Supply) (q : Ask) : (mixF l q = none ∧ ∀ m ∈ allM l, ¬ rightP l q m) ∨ ∃ m c, mixF l q = some (m, c) ∧ Best1 l q (allM l) m c := fold_best _ (allM_lex l)
theorem mix_cases1 {l : List Supply} {q : Ask} : (l.length > 4 ∧ mixA l q = ([], 0, 3)) ∨ (¬ l.length > 4 ∧ ¬ SupsOk l ∧ mixA l q = ([], 0, 1)) ∨ (¬ l.length > 4 ∧ SupsOk l) := by
  by_cases h : l.length > 4
  · exact .inl ⟨h, mixA_3 h⟩
  · by_cases h2 : SupsOk l
    · exact .inr (.inr ⟨h, h2⟩)
    · exact .inr (.inl ⟨h, h2, mixA_1 h h2⟩)
theorem mix_cases2 {l : List Supply} {q : Ask} (h : ¬ l.length > 4) (h2 : SupsOk l) : (¬ MixB q ∧ mixA l q = ([], 0, 2)) ∨ (MixB q ∧ (∀ m ∈ allM l, ¬ rightP l q m) ∧ mixA l q = ([], 0, 4)) ∨ ∃ m c, MixB q ∧ Best1 l q (allM l) m c ∧ mixA l q = (m, c, 0) := by
  by_cases h3 : MixB q
  · rcases mix_best l q with ⟨h4, h5⟩ | ⟨m, c, h4, h5⟩
    · exact .inr (.inl ⟨h3, h5, mixA_n h h2 h3 h4⟩)
    · exact .inr (.inr ⟨m, c, h3, h5, mixA_s h h2 h3 h4⟩)
  · exact .inl ⟨h3, mixA_2 h h2 h3⟩
end Go.Proofs.Ytjbfdfmngampdaa
