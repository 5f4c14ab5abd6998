/-
  When a retort can be charged, however it is emptied and scurfed: the plain part of RetortSoon.
-/
import Derived.Test.YtjmailhoidenaaaP02f
set_option linter.all false
namespace Go.Proofs.Ytjmailhoidenaaa
open Go Go.H
/-- What a step finds: the first hour, from a wait on, in which it can be done. -/
def StepR (w : House) (S : St) (own kind e wait : Int) : Option (Int × St) → Prop
  | some (t, S') => ∃ n, wait ≤ n ∧ n ≤ wait + w.least + w.scurf + 4 ∧ t = min e (S.last + n) ∧ doStoke w S (stk own kind t) = .ok S' ∧ ∀ m, wait ≤ m → m < n → Fails w S (stk own kind (min e (S.last + m)))
  | none => ∀ m, wait ≤ m → m ≤ wait + w.least + w.scurf + 4 → Fails w S (stk own kind (min e (S.last + m)))
/-- How far hours in the houses reach. -/
structure Near (w : House) (S : St) : Prop where
  since : ∀ i, i < 8 → (S.ov i).since ≤ S.last + w.scurf
theorem near_step {w : House} (hw : goodHouse w) {S S' : St} {x : Stoke} (H : Near w S) (h : doStoke w S x = .ok S') : Near w S' := by
  obtain ⟨g1, g2, g3, o', g4, g5, g6, g7⟩ := doStoke_good h
  have hsc := hw.2.2.2.2.2.1
  refine ⟨fun i hi => ?_⟩
  rw [g5, g7]
  by_cases hii : i = x.ret.toNat
  · subst hii
    rw [upd_same]
    unfold ovDo at g4
    repeat' split at g4
    all_goals first | (cases g4; done) | skip
    all_goals
      injection g4 with g4
      subst g4
      simp only
      omega
  · simp only [upd, if_neg hii]
    have := H.since i hi
    omega
theorem near_from {w : House} (hw : goodHouse w) : ∀ (l : List Stoke) {S S' : St} {k : Nat}, Near w S → playFrom w S l k = .ok S' → Near w S'
  | [], S, S', k, H, hh => by cases hh; exact H
  | x :: l, S, S', k, H, hh => by
    simp only [playFrom] at hh
    split at hh
    · cases hh
    · rename_i S1 h1
      exact near_from hw l (near_step hw H h1) hh
theorem play_near {w : House} {l : List Stoke} {S : St} (h : play w l = .ok S) : Near w S := by
  have hw := (play_ok h).1
  have hsc := hw.2.2.2.2.2.1
  exact near_from hw l (S := .init) ⟨fun i hi => by show (0 : Int) ≤ 0 + w.scurf; omega⟩ (play_from h)
/-- A step without a wait finds the earliest hour, if it is near and not too late. -/
theorem step_early {w : House} {S : St} {own kind e F : Int} {r : Option (Int × St)} (h : StepR w S own kind e 0 r) (h1 : S.last ≤ F) (h2 : F ≤ S.last + w.least + w.scurf + 4) (h3 : F ≤ e) (hF : ¬ Fails w S (stk own kind F)) (hmin : ∀ j, S.last ≤ j → j < F → Fails w S (stk own kind j)) :
    ∃ S', r = some (F, S') ∧ Early w S own kind (some (F, S')) := by
  cases r with
  | none =>
    have := h (F - S.last) (by omega) (by omega)
    rw [show min e (S.last + (F - S.last)) = F by omega] at this
    exact absurd this hF
  | some p =>
    obtain ⟨t, S'⟩ := p
    obtain ⟨n, n1, n2, n3, n4, n5⟩ := h
    have hnF : ¬ F - S.last < n := fun hq => by
      have := n5 (F - S.last) (by omega) hq
      rw [show min e (S.last + (F - S.last)) = F by omega] at this
      exact hF this
    have htF : ¬ t < F := fun hq => by
      obtain ⟨e', he'⟩ := hmin t (by omega) hq
      rw [n4] at he'; cases he'
    have : t = F := by omega
    subst this
    exact ⟨S', rfl, h1, hmin, n4⟩
/-- What must be so for a stage: the hour found is no earlier than the gang's next free one. -/
theorem free_le {w : House} {S : St} {b f t : Int} (hw : goodHouse w) (hS : S.Fr b) (h1 : f ≤ t) (h2 : S.last ≤ t) (h3 : S.done t < w.gang) : freeHour w S f ≤ t := by
  have h4 := (free_spec (f := f) hw hS).2.2 t h1 h2
  by_cases h : t < freeHour w S f
  · have := h4 h; omega
  · omega
theorem ok_empty {w : House} {S S' : St} {own t : Int} (h : doStoke w S (stk own 1 t) = .ok S') : (S.ov own.toNat).state = 1 ∧ (S.ov own.toNat).since + w.least ≤ t ∧ S.last ≤ t ∧ S.done t < w.gang ∧ S'.ov own.toNat = ⟨0, t, 0, (S.ov own.toNat).runs, (S.ov own.toNat).cool⟩ ∧ S'.done = setd S.done t (S.done t + 1) ∧ S'.last = t := by
  obtain ⟨g1, g2, g3, o', g4, g5, g6, g7⟩ := doStoke_good h
  replace g4 : ovDo w (S.ov own.toNat) (stk own 1 t) = .ok o' := g4
  rw [ovDo_empty] at g4
  split at g4
  · cases g4
  split at g4
  · cases g4
  injection g4 with g4
  exact ⟨by simp_all, by omega, g2, g3, by rw [g5, ← g4]; exact upd_same _ _ _, g6, g7⟩
theorem ok_scour {w : House} {S S' : St} {own t : Int} (h : doStoke w S (stk own 2 t) = .ok S') : (S.ov own.toNat).state = 0 ∧ (S.ov own.toNat).since ≤ t ∧ S.last ≤ t ∧ S.done t < w.gang ∧ S'.ov own.toNat = ⟨(S.ov own.toNat).state, t + w.scurf, (S.ov own.toNat).tons, 0, (S.ov own.toNat).cool⟩ ∧ S'.done = setd S.done t (S.done t + 1) ∧ S'.last = t := by
  obtain ⟨g1, g2, g3, o', g4, g5, g6, g7⟩ := doStoke_good h
  replace g4 : ovDo w (S.ov own.toNat) (stk own 2 t) = .ok o' := g4
  rw [ovDo_scour] at g4
  split at g4
  · cases g4
  split at g4
  · cases g4
  injection g4 with g4
  exact ⟨by simp_all, by omega, g2, g3, by rw [g5, ← g4]; exact upd_same _ _ _, g6, g7⟩
theorem ok_charge {w : House} {S S' : St} {own t : Int} (h : doStoke w S (stk own 0 t) = .ok S') : (S.ov own.toNat).state = 0 ∧ (S.ov own.toNat).since ≤ t ∧ S.last ≤ t ∧ S.done t < w.gang ∧ (S.ov own.toNat).runs < w.runs := by
  obtain ⟨g1, g2, g3, o', g4, g5, g6, g7⟩ := doStoke_good h
  replace g4 : ovDo w (S.ov own.toNat) (stk own 0 t) = .ok o' := g4
  rw [ovDo_charge] at g4
  split at g4
  · cases g4
  split at g4
  · cases g4
  split at g4
  · cases g4
  exact ⟨by simp_all, by omega, g2, g3, by omega⟩
/-- One way: emptied and scurfed as is needed. -/
def Way (w : House) (S : St) (own e : Int) (wt : Int) (S2 : St) : Prop :=
  ∃ S1, (if (S.ov own.toNat).state = 1 then ∃ wait r, (wt = 0 → wait = 0) ∧ StepR w S own 1 e wait r ∧ S1 = (match r with | some (_, S') => S' | none => S) else S1 = S) ∧
    (if (S.ov own.toNat).runs = w.runs then ∃ wait r, (wt = 0 → wait = 0) ∧ StepR w S1 own 2 e wait r ∧ S2 = (match r with | some (_, S') => S' | none => S1) else S2 = S1)
theorem soon_val {w : House} {S : St} {o : Oven} {h : Int} (hs : soonest w S o = .ok h) : ¬ (o.state = 2 ∨ o.state = 3) ∧ h = freeHour w (soon2 w (soon1 w S o).1 o (soon1 w S o).2).1 (soon2 w (soon1 w S o).1 o (soon1 w S o).2).2 ∧ 0 ≤ h ∧ h ≤ 1048576 := by
  unfold soonest at hs
  split at hs
  · cases hs
  · rename_i hst
    dsimp only at hs
    split at hs
    · rename_i hb; cases hs; exact ⟨hst, rfl, hb.1, hb.2⟩
    · cases hs
/-- No way is sooner. -/
theorem no_sooner {w : House} {S S2 S3 : St} {n : Nat} {own h e wt : Int} (hw : goodHouse w) (hS : S.Ok n) (hn : n ≤ 1000) (hown : 0 ≤ own ∧ own ≤ 7) (hrr : (S.ov own.toNat).runs ≤ w.runs) (hs : soonest w S (S.ov own.toNat) = .ok h) (hW : Way w S own e wt S2) (hc : doStoke w S2 (stk own 0 e) = .ok S3) : h ≤ e := by
  obtain ⟨hst, hh, _, _⟩ := soon_val hs
  have hfr := hS.fr hn
  have hsc := hw.2.2.2.2.2.1
  obtain ⟨S1, hw1, hw2⟩ := hW
  obtain ⟨c1, c2, c3, c4, c5⟩ := ok_charge hc
  have hov := hS.ov own.toNat (by omega)
  by_cases h1 : (S.ov own.toNat).state = 1
  · -- emptied
    rw [if_pos h1] at hw1
    obtain ⟨wait, r, _, hr, rfl⟩ := hw1
    have hs1 : soon1 w S (S.ov own.toNat) = (S.taken (freeHour w S ((S.ov own.toNat).since + w.least)), freeHour w S ((S.ov own.toNat).since + w.least)) := by unfold soon1; rw [if_pos h1]
    rw [hs1] at hh
    simp only at hh
    generalize hF1 : freeHour w S ((S.ov own.toNat).since + w.least) = F1 at hh
    have hb1 := freeHour_bound w S ((S.ov own.toNat).since + w.least)
    rw [hF1] at hb1
    cases r with
    | none =>
      -- not emptied: nothing else can be
      exfalso
      simp only at hw2
      have hS2 : S2 = S := by
        split at hw2
        · obtain ⟨wait2, r2, _, hr2, rfl⟩ := hw2
          cases r2 with
          | none => rfl
          | some p =>
            obtain ⟨t2, S2'⟩ := p
            obtain ⟨_, _, _, _, h4, _⟩ := hr2
            have := (ok_scour h4).1
            omega
        · exact hw2
      rw [hS2, h1] at c1
      omega
    | some p =>
      obtain ⟨t1, S1⟩ := p
      obtain ⟨_, _, _, _, h4, _⟩ := hr
      obtain ⟨d1, d2, d3, d4, d5, d6, d7⟩ := ok_empty h4
      simp only at hw2
      have hF : F1 ≤ t1 := by rw [← hF1]; exact free_le hw hfr d2 d3 d4
      have hl := hS.last
      have hf1 : (S.taken F1).Fr (F1 + 1048678) := St.Fr.le (taken_fr' (w := w) (t := F1) (b := F1 + 1048677) (hfr.le (by omega)) (by omega) (by omega)) (by omega)
      by_cases h2 : (S.ov own.toNat).runs = w.runs
      · rw [if_pos h2] at hw2
        have hs2 : soon2 w (S.taken F1) (S.ov own.toNat) F1 = ((S.taken F1).taken (freeHour w (S.taken F1) F1), freeHour w (S.taken F1) F1 + w.scurf) := by unfold soon2; rw [if_pos h2]
        rw [hs2] at hh
        simp only at hh
        have hb2 := freeHour_bound w (S.taken F1) F1
        have hb2' : (S.taken F1).last = F1 := rfl
        generalize hF2 : freeHour w (S.taken F1) F1 = F2 at hh hb2
        obtain ⟨wait2, r2, _, hr2, rfl⟩ := hw2
        cases r2 with
        | none =>
          exfalso
          simp only at c5
          rw [d5] at c5
          simp only at c5
          omega
        | some p =>
          obtain ⟨t2, S2'⟩ := p
          obtain ⟨_, _, _, _, g4, _⟩ := hr2
          obtain ⟨q1, q2, q3, q4, q5, q6, q7⟩ := ok_scour g4
          simp only at c1 c2 c3 c4 c5
          rw [q5] at c2
          simp only at c2
          rw [d5] at q2
          simp only at q2
          rw [d7] at q3
          have ht2 : F2 ≤ t2 := by
            by_cases ht : t1 = F1
            · rw [← hF2]
              refine free_le hw hf1 (by omega) (by rw [hb2']; omega) ?_
              rw [d6, ht] at q4
              exact q4
            · omega
          have hdone : S.done e < w.gang := by
            rw [q6, d6] at c4
            simp only [setd] at c4
            rw [if_neg (by omega), if_neg (by omega)] at c4
            exact c4
          have hf2 : ((S.taken F1).taken F2).Fr (F2 + F1 + 1048680) := St.Fr.le (taken_fr' (w := w) (t := F2) (b := F2 + F1 + 1048679) (hf1.le (by omega)) (by rw [hb2']; omega) (by omega)) (by omega)
          rw [hh]
          refine free_le hw hf2 (by omega) (by show F2 ≤ e; omega) ?_
          show setd (setd S.done F1 (S.done F1 + 1)) F2 _ e < w.gang
          simp only [setd]
          rw [if_neg (by omega), if_neg (by omega)]
          exact hdone
      · rw [if_neg h2] at hw2
        subst hw2
        have hs2 : soon2 w (S.taken F1) (S.ov own.toNat) F1 = (S.taken F1, F1) := by unfold soon2; rw [if_neg h2]
        rw [hs2] at hh
        simp only at hh
        rw [d5] at c2
        simp only at c2
        have hb2 := freeHour_bound w (S.taken F1) F1
        have hb2' : (S.taken F1).last = F1 := rfl
        by_cases ht : t1 = F1
        · rw [hh]
          refine free_le hw hf1 (by omega) (by rw [hb2']; omega) ?_
          rw [d6, ht] at c4
          exact c4
        · omega
  · rw [if_neg h1] at hw1
    subst hw1
    have hs1 : soon1 w S1 (S1.ov own.toNat) = (S1, (S1.ov own.toNat).since) := by unfold soon1; rw [if_neg h1]
    rw [hs1] at hh
    simp only at hh
    have hl := hS.last
    by_cases h2 : (S1.ov own.toNat).runs = w.runs
    · rw [if_pos h2] at hw2
      have hs2 : soon2 w S1 (S1.ov own.toNat) (S1.ov own.toNat).since = (S1.taken (freeHour w S1 (S1.ov own.toNat).since), freeHour w S1 (S1.ov own.toNat).since + w.scurf) := by unfold soon2; rw [if_pos h2]
      rw [hs2] at hh
      simp only at hh
      have hb2 := freeHour_bound w S1 (S1.ov own.toNat).since
      generalize hF2 : freeHour w S1 (S1.ov own.toNat).since = F2 at hh hb2
      obtain ⟨wait2, r2, _, hr2, rfl⟩ := hw2
      cases r2 with
      | none => exfalso; simp only at c5; omega
      | some p =>
        obtain ⟨t2, S2'⟩ := p
        obtain ⟨_, _, _, _, g4, _⟩ := hr2
        obtain ⟨q1, q2, q3, q4, q5, q6, q7⟩ := ok_scour g4
        simp only at c1 c2 c3 c4 c5
        rw [q5] at c2
        simp only at c2
        have ht2 : F2 ≤ t2 := by rw [← hF2]; exact free_le hw hfr q2 q3 q4
        have hf2 : (S1.taken F2).Fr (F2 + 1048680) := St.Fr.le (taken_fr' (w := w) (t := F2) (b := F2 + 1048679) (hfr.le (by omega)) (by omega) (by omega)) (by omega)
        rw [hh]
        refine free_le hw hf2 (by omega) (by show F2 ≤ e; omega) ?_
        show setd S1.done F2 _ e < w.gang
        rw [q6] at c4
        simp only [setd] at c4 ⊢
        rw [if_neg (by omega)] at c4
        rw [if_neg (by omega)]
        exact c4
    · rw [if_neg h2] at hw2
      subst hw2
      have hs2 : soon2 w S2 (S2.ov own.toNat) (S2.ov own.toNat).since = (S2, (S2.ov own.toNat).since) := by unfold soon2; rw [if_neg h2]
      rw [hs2] at hh
      simp only at hh
      rw [hh]
      exact free_le hw hfr c2 c3 c4
/-- In the hour itself it can. -/
theorem in_hour {w : House} {S S2 : St} {n : Nat} {own h : Int} (hw : goodHouse w) (hS : S.Ok n) (hn : n ≤ 1000) (hown : 0 ≤ own ∧ own ≤ 7) (hrr : (S.ov own.toNat).runs ≤ w.runs) (hst0 : 0 ≤ (S.ov own.toNat).state ∧ (S.ov own.toNat).state ≤ 3) (hne : Near w S) (hs : soonest w S (S.ov own.toNat) = .ok h) (hW : Way w S own h 0 S2) : ¬ Fails w S2 (stk own 0 h) := by
  obtain ⟨hst, hh, hh0, hh1⟩ := soon_val hs
  have hfr := hS.fr hn
  have hsc := hw.2.2.2.2.2.1
  have hle := hw.2.2.2.1
  have hov := hS.ov own.toNat (by omega)
  have hnr := hne.since own.toNat (by omega)
  have hl := hS.last
  obtain ⟨S1, hw1, hw2⟩ := hW
  have hgd : ∀ kind j, 0 ≤ kind → kind ≤ 4 → 0 ≤ j → j ≤ 1048576 → goodStoke (stk own kind j) := fun kind j k1 k2 h1 h2 => by
    unfold stk tnK goodStoke
    refine ⟨⟨h1, h2⟩, hown, ⟨k1, k2⟩, fun h => ?_, fun h => ?_⟩
    · simp only; rw [if_pos h]; omega
    · simp only; rw [if_neg h]
  have hA1 : At1 w S own S1 ∧ (soon1 w S (S.ov own.toNat)).2 ≤ S.last + w.least + w.scurf + 1 := by
    by_cases h1 : (S.ov own.toNat).state = 1
    · rw [if_pos h1] at hw1
      obtain ⟨wait, r, hwt, hr, rfl⟩ := hw1
      have hwt0 := hwt rfl
      subst hwt0
      have hs1 : soon1 w S (S.ov own.toNat) = (S.taken (freeHour w S ((S.ov own.toNat).since + w.least)), freeHour w S ((S.ov own.toNat).since + w.least)) := by unfold soon1; rw [if_pos h1]
      have hb1 := freeHour_bound w S ((S.ov own.toNat).since + w.least)
      obtain ⟨f1, f2, f3⟩ := free_spec (f := (S.ov own.toNat).since + w.least) hw hfr
      have hF1h : freeHour w S ((S.ov own.toNat).since + w.least) ≤ h := by
        rw [hs1] at hh
        simp only at hh
        have hb3 := freeHour_bound w (soon2 w (S.taken (freeHour w S ((S.ov own.toNat).since + w.least))) (S.ov own.toNat) (freeHour w S ((S.ov own.toNat).since + w.least))).1 (soon2 w (S.taken (freeHour w S ((S.ov own.toNat).since + w.least))) (S.ov own.toNat) (freeHour w S ((S.ov own.toNat).since + w.least))).2
        have hb4 : freeHour w S ((S.ov own.toNat).since + w.least) ≤ (soon2 w (S.taken (freeHour w S ((S.ov own.toNat).since + w.least))) (S.ov own.toNat) (freeHour w S ((S.ov own.toNat).since + w.least))).2 := by
          unfold soon2
          split
          · simp only
            have := freeHour_bound w (S.taken (freeHour w S ((S.ov own.toNat).since + w.least))) (freeHour w S ((S.ov own.toNat).since + w.least))
            omega
          · exact Int.le_refl _
        omega
      generalize hF1 : freeHour w S ((S.ov own.toNat).since + w.least) = F1 at *
      have hok : ¬ Fails w S (stk own 1 F1) := not_fails (o' := ⟨0, F1, 0, (S.ov own.toNat).runs, (S.ov own.toNat).cool⟩) (hgd 1 F1 (by decide) (by decide) (by omega) (by omega)) (by show S.last ≤ F1; omega) f2 (by show ovDo w (S.ov own.toNat) (stk own 1 F1) = _; rw [ovDo_empty, if_neg (by simp [h1]), if_neg (by omega)])
      have hmin : ∀ j, S.last ≤ j → j < F1 → Fails w S (stk own 1 j) := fun j j1 j2 => by
        cases hd : doStoke w S (stk own 1 j) with
        | error e => exact ⟨e, hd⟩
        | ok S' =>
          obtain ⟨_, d2, d3, d4, _⟩ := ok_empty hd
          have := f3 j d2 d3 j2
          omega
      obtain ⟨S', hr', hE⟩ := step_early hr (by omega) (by omega) hF1h hok hmin
      subst hr'
      exact ⟨at1_emp hw hS hn hown h1 hE, by rw [hs1]; simp only; omega⟩
    · rw [if_neg h1] at hw1
      subst hw1
      exact ⟨at1_hot hS hn hown (by omega), by unfold soon1; rw [if_neg h1]; simp only; omega⟩
  have hA2 : At2 w S own S2 := by
    by_cases h2 : (S.ov own.toNat).runs = w.runs
    · rw [if_pos h2] at hw2
      obtain ⟨wait, r, hwt, hr, rfl⟩ := hw2
      have hwt0 := hwt rfl
      subst hwt0
      obtain ⟨hA1, hnear⟩ := hA1
      have hA1' := hA1
      obtain ⟨P, f, b, hb, hP, hsg⟩ := hA1
      rw [hP] at hh hnear
      simp only at hh hnear
      have hs2 : soon2 w P (S.ov own.toNat) f = (P.taken (freeHour w P f), freeHour w P f + w.scurf) := by unfold soon2; rw [if_pos h2]
      rw [hs2] at hh
      simp only at hh
      have hb2 := freeHour_bound w P f
      have hb3 := freeHour_bound w (P.taken (freeHour w P f)) (freeHour w P f + w.scurf)
      obtain ⟨f1, f2, f3⟩ := free_spec (f := f) hw hsg.frS
      have hcg := freeHour_congr (w := w) hsg.done hsg.last f
      rw [← hcg] at f1 f2 f3
      generalize hF2 : freeHour w P f = F2 at *
      have hlast : S.last ≤ S1.last := by
        by_cases h1 : (S.ov own.toNat).state = 1
        · rw [if_pos h1] at hw1
          obtain ⟨_, r1, _, hr1, rfl⟩ := hw1
          cases r1 with
          | none => exact Int.le_refl _
          | some p =>
            obtain ⟨t1, S1'⟩ := p
            obtain ⟨_, _, _, _, h4, _⟩ := hr1
            obtain ⟨_, _, d3, _, _, _, d7⟩ := ok_empty h4
            simp only; omega
        · rw [if_neg h1] at hw1; subst hw1; exact Int.le_refl _
      have hok : ¬ Fails w S1 (stk own 2 F2) := not_fails (o' := ⟨(S1.ov own.toNat).state, F2 + w.scurf, (S1.ov own.toNat).tons, 0, (S1.ov own.toNat).cool⟩) (hgd 2 F2 (by decide) (by decide) (by omega) (by omega)) (by show S1.last ≤ F2; omega) f2 (by show ovDo w (S1.ov own.toNat) (stk own 2 F2) = _; rw [ovDo_scour, if_neg (by simp [hsg.hot]), if_neg (by rw [hsg.since]; omega)])
      have hmin : ∀ j, S1.last ≤ j → j < F2 → Fails w S1 (stk own 2 j) := fun j j1 j2 => by
        cases hd : doStoke w S1 (stk own 2 j) with
        | error e => exact ⟨e, hd⟩
        | ok S' =>
          obtain ⟨_, d2, d3, d4, _⟩ := ok_scour hd
          rw [hsg.since] at d2
          have := f3 j d2 d3 j2
          omega
      have hPl := hsg.last
      obtain ⟨S', hr', hE⟩ := step_early hr (by omega) (by omega) (by omega) hok hmin
      subst hr'
      exact at2_sc hw hA1' hown h2 hE
    · rw [if_neg h2] at hw2
      subst hw2
      exact at2_no hA1.1 hrr h2
  obtain ⟨P, f, r, b, hP, hsg, hr⟩ := hA2
  rw [hP] at hh
  simp only at hh
  obtain ⟨f1, f2, f3⟩ := free_spec (f := f) hw hsg.frS
  have hcg := freeHour_congr (w := w) hsg.done hsg.last f
  rw [← hcg, ← hh] at f1 f2
  exact not_fails (o' := ⟨1, h, 1, (S2.ov own.toNat).runs + 1, (S2.ov own.toNat).cool⟩) (hgd 0 h (by decide) (by decide) hh0 hh1) f1.2 f2 (by show ovDo w (S2.ov own.toNat) (stk own 0 h) = _; rw [ovDo_charge, if_neg (by simp [hsg.hot]), if_neg (by rw [hsg.since]; omega), if_neg (by rw [hsg.runs]; omega)])
/-- Where no hour is told, there is none before the last one. -/
theorem soon_late {w : House} {S : St} {n : Nat} {i : Nat} (hw : goodHouse w) (hS : S.Ok n) (hi : i < 8) (hst : ¬ ((S.ov i).state = 2 ∨ (S.ov i).state = 3)) {e : Int} (hs : soonest w S (S.ov i) = .error e) : e = 7 ∧ 1048576 < max S.last (S.ov i).since + 2 * w.gang + w.least + w.scurf + 4 := by
  have hsc := hw.2.2.2.2.2.1
  have hle := hw.2.2.2.1
  have hga := hw.2.2.2.2.2.2.1
  have hov := hS.ov i hi
  have hl := hS.last
  unfold soonest at hs
  rw [if_neg hst] at hs
  dsimp only at hs
  have hb1 : (soon1 w S (S.ov i)).1.last ≤ max S.last (S.ov i).since + w.least + 1 ∧ (soon1 w S (S.ov i)).2 ≤ max S.last (S.ov i).since + w.least + 1 ∧ S.last ≤ (soon1 w S (S.ov i)).1.last ∧ 0 ≤ (soon1 w S (S.ov i)).2 := by
    have := freeHour_bound w S ((S.ov i).since + w.least)
    unfold soon1
    split
    · simp only [St.taken]; omega
    · simp only; omega
  have hb2 : (soon2 w (soon1 w S (S.ov i)).1 (S.ov i) (soon1 w S (S.ov i)).2).1.last ≤ max S.last (S.ov i).since + w.least + 2 ∧ (soon2 w (soon1 w S (S.ov i)).1 (S.ov i) (soon1 w S (S.ov i)).2).2 ≤ max S.last (S.ov i).since + w.least + 2 + w.scurf ∧ 0 ≤ (soon2 w (soon1 w S (S.ov i)).1 (S.ov i) (soon1 w S (S.ov i)).2).2 := by
    have := freeHour_bound w (soon1 w S (S.ov i)).1 (soon1 w S (S.ov i)).2
    unfold soon2
    split
    · simp only [St.taken]; omega
    · simp only; omega
  have hb3 := freeHour_bound w (soon2 w (soon1 w S (S.ov i)).1 (S.ov i) (soon1 w S (S.ov i)).2).1 (soon2 w (soon1 w S (S.ov i)).1 (S.ov i) (soon1 w S (S.ov i)).2).2
  split at hs
  · cases hs
  · cases hs
    exact ⟨rfl, by omega⟩
theorem soon_ge {w : House} {S : St} {o : Oven} {h : Int} (hs : soonest w S o = .ok h) : S.last ≤ h ∧ h ≤ 1048576 := by
  obtain ⟨_, hh, _, h1⟩ := soon_val hs
  have hb1 : S.last ≤ (soon1 w S o).1.last := by
    have := freeHour_bound w S (o.since + w.least)
    unfold soon1
    split
    · simp only [St.taken]; omega
    · exact Int.le_refl _
  have hb2 : (soon1 w S o).1.last ≤ (soon2 w (soon1 w S o).1 o (soon1 w S o).2).1.last := by
    have := freeHour_bound w (soon1 w S o).1 (soon1 w S o).2
    unfold soon2
    split
    · simp only [St.taken]; omega
    · exact Int.le_refl _
  have hb3 := freeHour_bound w (soon2 w (soon1 w S o).1 o (soon1 w S o).2).1 (soon2 w (soon1 w S o).1 o (soon1 w S o).2).2
  omega
end Go.Proofs.Ytjmailhoidenaaa
