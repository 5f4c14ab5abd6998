/-
  The program's runs are the document's charges; the gas of the hours is the same.
-/
import Derived.Test.YtjmailhoidenaaaP02d
set_option linter.all false
namespace Go.Proofs.Ytjmailhoidenaaa
open Go Go.H
theorem Span.ext' {a b : Span} (h1 : a.lo = b.lo) (h2 : a.hi = b.hi) : a = b := by cases a; cases b; simp_all
theorem addS_assoc (a b c : Span) : addS (addS a b) c = addS a (addS b c) := Span.ext' (Int.add_assoc _ _ _) (Int.add_assoc _ _ _)
theorem addS_comm (a b : Span) : addS a b = addS b a := Span.ext' (Int.add_comm _ _) (Int.add_comm _ _)
theorem addS_zero (a : Span) : addS a ⟨0, 0⟩ = a := Span.ext' (Int.add_zero _) (Int.add_zero _)
theorem zero_addS (a : Span) : addS ⟨0, 0⟩ a = a := Span.ext' (Int.zero_add _) (Int.zero_add _)
theorem foldl_addS : ∀ (xs : List Span) (a : Span), xs.foldl addS a = addS a (xs.foldl addS ⟨0, 0⟩)
  | [], a => (addS_zero a).symm
  | x :: xs, a => by
    rw [List.foldl_cons, List.foldl_cons, foldl_addS xs (addS a x), foldl_addS xs (addS ⟨0, 0⟩ x), zero_addS, addS_assoc]
theorem sumS_cons (x : Span) (xs : List Span) : sumS (x :: xs) = addS x (sumS xs) := by unfold sumS; rw [List.foldl_cons, foldl_addS, zero_addS]
theorem sumS_append (xs ys : List Span) : sumS (xs ++ ys) = addS (sumS xs) (sumS ys) := by unfold sumS; rw [List.foldl_append, foldl_addS]
theorem sumS_nil : sumS [] = ⟨0, 0⟩ := rfl
theorem pick_append (f t : Int) (a b : List (Int × Span)) : pick f t (a ++ b) = pick f t a ++ pick f t b := by simp [pick]
theorem pick_cons (f t : Int) (x : Int × Span) (b : List (Int × Span)) : pick f t (x :: b) = (if f ≤ x.1 ∧ x.1 ≤ t then [x.2] else []) ++ pick f t b := by
  unfold pick
  rw [List.filter_cons]
  by_cases h1 : f ≤ x.1 <;> by_cases h2 : x.1 ≤ t <;> simp [h1, h2]
/-- The charges, each with its retort and until when it is in. -/
def runsR : List Stoke → List (Int × Run)
  | [] => []
  | x :: t => (if x.kind = 0 then [(x.ret, (⟨x.tons, x.hour, endFrom x.ret t⟩ : Run))] else []) ++ runsR t
theorem endFrom_snoc {r : Int} {x : Stoke} : ∀ {t : List Stoke}, (∀ y ∈ t, y.hour ≠ 4194304) → endFrom r (t ++ [x]) = if endFrom r t = 4194304 then (if x.ret = r ∧ x.kind = 1 then x.hour else 4194304) else endFrom r t
  | [], _ => by simp [endFrom]
  | y :: t, h => by
    have hy := h y List.mem_cons_self
    have ih := endFrom_snoc (r := r) (x := x) (t := t) (fun z hz => h z (List.mem_cons_of_mem _ hz))
    by_cases hq : y.ret = r ∧ y.kind = 1
    · rw [List.cons_append, endFrom_yes hq, endFrom_yes hq, if_neg hy]
    · rw [List.cons_append, endFrom_no hq, endFrom_no hq, ih]
def updR (x : Stoke) (p : Int × Run) : Int × Run := if p.2.until_ = 4194304 ∧ x.ret = p.1 ∧ x.kind = 1 then (p.1, { p.2 with until_ := x.hour }) else p
theorem runsR_snoc {x : Stoke} : ∀ {l : List Stoke}, (∀ y ∈ l, y.hour ≠ 4194304) → runsR (l ++ [x]) = (runsR l).map (updR x) ++ (if x.kind = 0 then [(x.ret, (⟨x.tons, x.hour, 4194304⟩ : Run))] else [])
  | [], _ => by simp [runsR, endFrom]
  | y :: t, h => by
    have ht := fun z hz => h z (List.mem_cons_of_mem _ hz)
    have ih := runsR_snoc (x := x) (l := t) ht
    simp only [List.cons_append, runsR]
    rw [ih, endFrom_snoc ht, List.map_append, List.append_assoc]
    congr 1
    split
    · simp only [List.map_cons, List.map_nil, updR]
      by_cases h1 : endFrom y.ret t = 4194304
      · by_cases h2 : x.ret = y.ret ∧ x.kind = 1 <;> simp [h1, h2]
      · simp [h1]
    · rfl
def fixU (r : Run) : Run := if r.until_ = 4194304 then { r with until_ := 1073741824 } else r
structure RunsI (l : List Stoke) (S : St) : Prop where
  eq : S.runs = (runsR l).map (fun p => fixU p.2)
  opn : ∀ (j : Nat) (p : Int × Run), (runsR l)[j]? = some p → p.2.until_ = 4194304 → (S.ov p.1.toNat).state = 1 ∧ S.op p.1.toNat = j
  bake : ∀ i, i < 8 → (S.ov i).state = 1 → ∃ p, (runsR l)[(S.op i).toNat]? = some p ∧ p.1 = (i : Int) ∧ p.2.until_ = 4194304
theorem runsR_ret {l : List Stoke} (hg : ∀ x ∈ l, goodStoke x) : ∀ p ∈ runsR l, 0 ≤ p.1 ∧ p.1 ≤ 7 := by
  induction l with
  | nil => intro p hp; cases hp
  | cons x t ih =>
    intro p hp
    simp only [runsR] at hp
    rcases List.mem_append.1 hp with hp | hp
    · split at hp
      · simp only [List.mem_singleton] at hp; subst hp; exact (hg x List.mem_cons_self).2.1
      · cases hp
    · exact ih (fun y hy => hg y (List.mem_cons_of_mem _ hy)) p hp
theorem updR_id {x : Stoke} (h : x.kind ≠ 1) (l : List (Int × Run)) : l.map (updR x) = l := by
  induction l with
  | nil => rfl
  | cons p l ih => rw [List.map_cons, ih]; unfold updR; rw [if_neg (fun hq => h hq.2.2)]
theorem RunsI.step {w : House} {l : List Stoke} {S S1 : St} {x : Stoke} (hg : ∀ y ∈ l, goodStoke y) (hx : goodStoke x) (H : RunsI l S) (hk : kindDo w S x = .ok S1) : RunsI (l ++ [x]) S1 := by
  have hne : ∀ y ∈ l, y.hour ≠ 4194304 := fun y hy => by have := (hg y hy).1; omega
  have hret := runsR_ret hg
  obtain ⟨⟨hh0, hh1⟩, ⟨ht0, ht1⟩, ⟨hk0, hk1⟩, _, _⟩ := hx
  obtain ⟨i, hi⟩ : ∃ i, x.ret.toNat = i := ⟨_, rfl⟩
  have hi8 : i < 8 := by omega
  have hR := runsR_snoc (x := x) hne
  have hlen : S.runs.length = (runsR l).length := by rw [H.eq, List.length_map]
  by_cases hk0' : x.kind = 0
  · -- a charge
    rw [updR_id (by omega), if_pos hk0'] at hR
    unfold kindDo at hk
    rw [if_pos hk0'] at hk
    unfold charge at hk
    simp only [hi] at hk
    split at hk
    · cases hk
    rename_i hst
    split at hk
    · cases hk
    split at hk
    · cases hk
    injection hk with hk
    subst hk
    refine ⟨?_, ?_, ?_⟩
    · rw [hR, List.map_append, ← H.eq]; rfl
    · intro j p hj hp
      rw [hR] at hj
      by_cases hjl : j < (runsR l).length
      · rw [List.getElem?_append_left hjl] at hj
        have h1 := H.opn j p hj hp
        have : p.1.toNat ≠ i := fun hq => by rw [hq] at h1; omega
        simp only [upd, if_neg this]; exact h1
      · rw [List.getElem?_append_right (by omega)] at hj
        have hj0 : j - (runsR l).length = 0 := by
          have := (List.getElem?_eq_some_iff.1 hj).1
          simp at this; omega
        rw [hj0] at hj
        simp at hj
        subst hj
        simp only [hi, upd_same]
        exact ⟨trivial, by omega⟩
    · intro i' hi' hst'
      by_cases hii : i' = i
      · subst hii
        refine ⟨(x.ret, ⟨x.tons, x.hour, 4194304⟩), ?_, by simp only; omega, rfl⟩
        simp only [upd_same]
        rw [hR, hlen, Int.toNat_natCast, List.getElem?_append_right (Nat.le_refl _)]; simp
      · simp only [upd, if_neg hii] at hst' ⊢
        obtain ⟨p, h1, h2, h3⟩ := H.bake i' hi' hst'
        refine ⟨p, ?_, h2, h3⟩
        rw [hR, List.getElem?_append_left (List.getElem?_eq_some_iff.1 h1).1]; exact h1
  · rw [if_neg hk0', List.append_nil] at hR
    by_cases hk1' : x.kind = 1
    · -- emptied
      unfold kindDo at hk
      rw [if_neg hk0', if_pos hk1'] at hk
      unfold empty at hk
      simp only [hi] at hk
      split at hk
      · cases hk
      rename_i hst
      split at hk
      · cases hk
      injection hk with hk
      subst hk
      have hst1 : (S.ov i).state = 1 := by simpa using hst
      obtain ⟨p0, hp0, hp1, hp2⟩ := H.bake i hi8 hst1
      have hother : ∀ (j : Nat) (p : Int × Run), (runsR l)[j]? = some p → p.2.until_ = 4194304 → x.ret = p.1 → j = (S.op i).toNat := fun j p hj hp hr => by
        have := (H.opn j p hj hp).2
        rw [← hr, hi] at this
        omega
      refine ⟨?_, ?_, ?_⟩
      · apply List.ext_getElem?
        intro j
        rw [hR, List.map_map, List.getElem?_map]
        simp only [List.getElem?_modify]
        rw [H.eq, List.getElem?_map]
        cases hj : (runsR l)[j]? with
        | none => simp
        | some p =>
          simp only [Option.map_some, Option.map_eq_map, Function.comp]
          by_cases hjj : (S.op i).toNat = j
          · rw [if_pos hjj]
            rw [← hjj, hp0] at hj
            cases hj
            have : updR x p0 = (p0.1, { p0.2 with until_ := x.hour }) := by unfold updR; rw [if_pos ⟨hp2, by omega, hk1'⟩]
            rw [this]
            simp only [fixU, hp2, if_true]
            rw [if_neg (by omega)]
          · rw [if_neg hjj]
            have : updR x p = p := by
              unfold updR
              rw [if_neg (fun hq => hjj (hother j p hj hq.1 hq.2.1).symm)]
            rw [this]
      · intro j p hj hp
        rw [hR, List.getElem?_map] at hj
        cases hq : (runsR l)[j]? with
        | none => rw [hq] at hj; cases hj
        | some p' =>
          rw [hq] at hj
          simp only [Option.map_some, Option.some.injEq] at hj
          subst hj
          by_cases hc : p'.2.until_ = 4194304 ∧ x.ret = p'.1 ∧ x.kind = 1
          · unfold updR at hp
            rw [if_pos hc] at hp
            simp only at hp
            omega
          · have he : updR x p' = p' := by unfold updR; rw [if_neg hc]
            rw [he] at hp ⊢
            have h1 := H.opn j p' hq hp
            have hr := hret p' (List.mem_of_getElem? hq)
            have : p'.1.toNat ≠ i := fun hqq => hc ⟨hp, by omega, hk1'⟩
            simp only [upd, if_neg this]; exact h1
      · intro i' hi' hst'
        have hii : i' ≠ i := fun hq => by subst hq; simp [upd_same] at hst'
        simp only [upd, if_neg hii] at hst'
        obtain ⟨p, h1, h2, h3⟩ := H.bake i' hi' hst'
        refine ⟨p, ?_, h2, h3⟩
        rw [hR, List.getElem?_map, h1]
        have : updR x p = p := by unfold updR; rw [if_neg (fun hq => hii (by omega))]
        simp [this]
    · -- the others
      rw [updR_id hk1'] at hR
      have hrest : S1.runs = S.runs ∧ S1.op = S.op ∧ ∃ o', S1.ov = upd S.ov i o' ∧ o'.state ≠ 1 ∧ (S.ov i).state ≠ 1 := by
        unfold kindDo at hk
        rw [if_neg hk0', if_neg hk1'] at hk
        unfold scour letOut lightUp at hk
        simp only [hi] at hk
        repeat' split at hk
        all_goals first | (cases hk; done) | skip
        all_goals
          injection hk with hk
          subst hk
          refine ⟨rfl, rfl, _, rfl, ?_, ?_⟩ <;> (try simp only) <;> first
            | omega
            | (split <;> omega)
      obtain ⟨h1, h2, o', h3, h4, h5⟩ := hrest
      refine ⟨by rw [hR, h1]; exact H.eq, ?_, ?_⟩
      · intro j p hj hp
        rw [hR] at hj
        have hq := H.opn j p hj hp
        have : p.1.toNat ≠ i := fun hqq => by rw [hqq] at hq; exact h5 hq.1
        rw [h2, h3]
        simp only [upd, if_neg this]; exact hq
      · intro i' hi' hst'
        rw [h3] at hst'
        have hii : i' ≠ i := fun hq => by subst hq; rw [upd_same] at hst'; exact h4 hst'
        simp only [upd, if_neg hii] at hst'
        rw [h2, hR]; exact H.bake i' hi' hst'
theorem RunsI.doStep {w : House} {l : List Stoke} {S S' : St} {x : Stoke} (hg : ∀ y ∈ l, goodStoke y) (H : RunsI l S) (hd : doStoke w S x = .ok S') : RunsI (l ++ [x]) S' := by
  unfold doStoke at hd
  repeat' split at hd
  all_goals first | (cases hd; done) | skip
  rename_i hg0 _ _ _ S1 hk
  injection hd with hd
  subst hd
  have := H.step hg (by simpa using hg0) hk
  exact ⟨this.eq, this.opn, this.bake⟩
theorem playFrom_runs {w : House} (hw : goodHouse w) : ∀ (l l0 : List Stoke) {S S' : St} {k : Nat}, After w l0 S → RunsI l0 S → playFrom w S l k = .ok S' → RunsI (l0 ++ l) S'
  | [], l0, S, S', k, A, H, hh => by cases hh; simpa using H
  | x :: l, l0, S, S', k, A, H, hh => by
    simp only [playFrom] at hh
    split at hh
    · cases hh
    · rename_i S1 h1
      have := playFrom_runs hw l (l0 ++ [x]) (A.step hw h1) (H.doStep A.good h1) hh
      simpa using this
theorem play_runs {w : House} {l : List Stoke} {S : St} (hh : play w l = .ok S) : RunsI l S := by
  have hw := (play_ok hh).1
  unfold play at hh
  split at hh
  · cases hh
  split at hh
  · cases hh
  exact playFrom_runs hw l [] ⟨fun i hi => OvT.init hw, fun h => ⟨rfl, by have := hw.2.2.2.2.2.2.1; show (0 : Int) ≤ _; omega⟩, fun _ hx => (by cases hx), fun _ hx => (by cases hx)⟩ ⟨rfl, fun j p hj => by simp [runsR] at hj, fun i hi hs => by simp [St.init] at hs⟩ hh
def runsP (l : List Stoke) : List Run := (runsR l).map (·.2)
theorem gasFrom_fix (r : Run) : ∀ (k : Nat) (cs : List Span), gasFrom (fixU r) k cs = gasFrom r k cs
  | _, [] => rfl
  | k, c :: cs => by
    simp only [gasFrom]
    rw [gasFrom_fix r (k + 1) cs]
    congr 1
    unfold fixU
    by_cases h : r.until_ = 4194304
    · rw [if_pos h]
      simp only
      by_cases h2 : 0 ≤ r.from_ + (k : Int) ∧ r.from_ + (k : Int) ≤ 1048576
      · rw [if_pos ⟨by omega, h2⟩, if_pos ⟨by omega, h2⟩]
      · rw [if_neg (fun hq => h2 hq.2), if_neg (fun hq => h2 hq.2)]
    · rw [if_neg h]
theorem gasRuns_fix (curve : List Span) : ∀ (rs : List (Int × Run)), gasRuns curve (rs.map (fun p => fixU p.2)) = gasRuns curve (rs.map (·.2))
  | [] => rfl
  | p :: rs => by simp only [List.map_cons, gasRuns]; rw [gasFrom_fix, gasRuns_fix curve rs]
theorem play_gas {w : House} {l : List Stoke} {S : St} (hh : play w l = .ok S) : gasRuns w.curve S.runs = gasRuns w.curve (runsP l) := by
  rw [(play_runs hh).eq, gasRuns_fix]; rfl
end Go.Proofs.Ytjmailhoidenaaa
