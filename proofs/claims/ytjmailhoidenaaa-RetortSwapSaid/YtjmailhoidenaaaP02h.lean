/-
  The document's sums over the hours are the program's.
-/
import Derived.Test.YtjmailhoidenaaaP02g
set_option linter.all false
namespace Go.Proofs.Ytjmailhoidenaaa
open Go Go.H
/-- One hour of one charge. -/
def runAt (r : Run) (h : Int) (k : Nat) (cs : List Span) : List Span :=
  if 0 ≤ h - r.from_ - k ∧ h < r.until_ then ((cs[(h - r.from_ - k).toNat]?).map fun c => (⟨r.tons * c.lo, r.tons * c.hi⟩ : Span)).toList else []
theorem gasFrom_pick {r : Run} {h : Int} (hh : 0 ≤ h ∧ h ≤ 1048576) : ∀ (k : Nat) (cs : List Span), pick h h (gasFrom r k cs) = runAt r h k cs
  | k, [] => by simp [gasFrom, pick, runAt]
  | k, c :: cs => by
    simp only [gasFrom]
    rw [pick_append, gasFrom_pick hh (k + 1) cs]
    unfold runAt
    by_cases h1 : r.from_ + (k : Int) = h
    · have e1 : ¬ (0 ≤ h - r.from_ - ((k + 1 : Nat) : Int) ∧ h < r.until_) := fun hq => by omega
      rw [if_neg e1, List.append_nil]
      by_cases h2 : h < r.until_
      · rw [if_pos ⟨by omega, by omega, by omega⟩, if_pos ⟨by omega, h2⟩, show (h - r.from_ - (k : Int)).toNat = 0 by omega]
        simp [pick, h1]
      · rw [if_neg (fun hq => by omega), if_neg (fun hq => h2 hq.2)]; rfl
    · have e0 : pick h h (if r.from_ + (k : Int) < r.until_ ∧ 0 ≤ r.from_ + (k : Int) ∧ r.from_ + (k : Int) ≤ 1048576 then [(r.from_ + (k : Int), (⟨r.tons * c.lo, r.tons * c.hi⟩ : Span))] else []) = [] := by
        split
        · rw [pick_cons, if_neg (fun hq => by simp only at hq; omega)]; rfl
        · rfl
      rw [e0, List.nil_append]
      by_cases h3 : 0 ≤ h - r.from_ - (k : Int) ∧ h < r.until_
      · have h4 : 0 ≤ h - r.from_ - ((k + 1 : Nat) : Int) := by omega
        rw [if_pos ⟨h4, h3.2⟩, if_pos h3, show (h - r.from_ - (k : Int)).toNat = (h - r.from_ - ((k + 1 : Nat) : Int)).toNat + 1 by omega]
        rfl
      · rw [if_neg h3, if_neg (fun hq => h3 ⟨by omega, hq.2⟩)]
theorem runsP_cons (x : Stoke) (t : List Stoke) : runsP (x :: t) = (if x.kind = 0 then [(⟨x.tons, x.hour, endFrom x.ret t⟩ : Run)] else []) ++ runsP t := by
  unfold runsP
  simp only [runsR, List.map_append]
  congr 1
  split <;> rfl
/-- One hour's gas. -/
theorem rGas_pick {w : House} {h : Int} (hh : 0 ≤ h ∧ h ≤ 1048576) : ∀ (l : List Stoke) (acc : Span), rGas w h acc l = addS acc (sumS (pick h h (gasRuns w.curve (runsP l))))
  | [], acc => (addS_zero acc).symm
  | x :: t, acc => by
    rw [runsP_cons]
    by_cases hk : x.kind = 0
    · rw [if_pos hk, List.cons_append, List.nil_append]
      simp only [gasRuns]
      rw [pick_append, sumS_append, gasFrom_pick hh, ← addS_assoc]
      unfold runAt
      simp only [Int.natCast_zero, Int.sub_zero]
      by_cases h1 : 0 ≤ h - x.hour ∧ h < endFrom x.ret t
      · rw [if_pos h1]
        cases hc : w.curve[(h - x.hour).toNat]? with
        | none =>
          have : gasOne w x t h = none := by unfold gasOne; split <;> first | (rw [hc]; rfl) | rfl
          rw [rGas_none this, rGas_pick hh t acc]
          simp [sumS_nil, addS_zero]
        | some c =>
          have hlt := (List.getElem?_eq_some_iff.1 hc).1
          rw [rGas_some (gasOne_some hk h1.1 (by omega) h1.2 rfl hc), rGas_pick hh t]
          simp only [Option.map_some, Option.toList_some]
          rw [sumS_cons, sumS_nil, addS_zero]
      · have : gasOne w x t h = none := gasOne_none (fun hq => h1 ⟨hq.2.1, hq.2.2.2⟩)
        rw [if_neg h1, rGas_none this, rGas_pick hh t acc, sumS_nil, addS_zero]
    · rw [if_neg hk, List.nil_append, rGas_none (gasOne_none (fun hq => hk hq.1)), rGas_pick hh t acc]
/-- The sum over some hours. -/
def tot (G : List (Int × Span)) (f t : Int) : List Int → Span
  | [] => ⟨0, 0⟩
  | h :: r => addS (if f ≤ h ∧ h ≤ t then sumS (pick h h G) else ⟨0, 0⟩) (tot G f t r)
theorem rMake_tot {w : House} {l : List Stoke} {f t : Int} : ∀ (B : List Int) (acc : Span), (∀ h ∈ B, 0 ≤ h ∧ h ≤ 1048576) → rMake w l f t acc B = addS acc (tot (gasRuns w.curve (runsP l)) f t B)
  | [], acc, _ => (addS_zero acc).symm
  | h :: r, acc, hB => by
    simp only [rMake, tot]
    rw [rMake_tot r _ (fun z hz => hB z (List.mem_cons_of_mem _ hz)), rGas_pick (hB h List.mem_cons_self), zero_addS]
    split
    · rw [addS_assoc]
    · rw [zero_addS]
theorem tot_nil {f t : Int} : ∀ (B : List Int), tot [] f t B = ⟨0, 0⟩
  | [] => rfl
  | h :: r => by
    simp only [tot]; rw [tot_nil r]
    split <;> rfl
theorem tot_cons {e : Int × Span} {G : List (Int × Span)} {f t : Int} : ∀ {B : List Int}, B.Nodup → tot (e :: G) f t B = addS (if e.1 ∈ B ∧ f ≤ e.1 ∧ e.1 ≤ t then e.2 else ⟨0, 0⟩) (tot G f t B)
  | [], _ => by simp [tot, zero_addS]
  | h :: r, hn => by
    have hn' := List.nodup_cons.1 hn
    simp only [tot]
    rw [tot_cons hn'.2, pick_cons, sumS_append]
    by_cases he : h = e.1
    · subst he
      have h1 : ¬ (e.1 ∈ r ∧ f ≤ e.1 ∧ e.1 ≤ t) := fun hq => hn'.1 hq.1
      rw [if_neg h1, zero_addS]
      by_cases h2 : f ≤ e.1 ∧ e.1 ≤ t
      · rw [if_pos h2, if_pos ⟨Int.le_refl _, Int.le_refl _⟩, if_pos ⟨List.mem_cons_self, h2⟩, if_pos h2, sumS_cons, sumS_nil, addS_zero, addS_assoc]
      · rw [if_neg h2, if_neg (fun hq => h2 hq.2), if_neg h2, zero_addS, zero_addS]
    · have h1 : ¬ (h ≤ e.1 ∧ e.1 ≤ h) := fun hq => he (by omega)
      rw [if_neg h1, sumS_nil, zero_addS]
      have h2 : (e.1 ∈ h :: r ∧ f ≤ e.1 ∧ e.1 ≤ t) ↔ (e.1 ∈ r ∧ f ≤ e.1 ∧ e.1 ≤ t) := by
        simp only [List.mem_cons]
        constructor
        · rintro ⟨h3 | h3, h4⟩
          · exact absurd h3.symm he
          · exact ⟨h3, h4⟩
        · rintro ⟨h3, h4⟩; exact ⟨.inr h3, h4⟩
      by_cases h3 : e.1 ∈ r ∧ f ≤ e.1 ∧ e.1 ≤ t
      · rw [if_pos h3, if_pos (h2.2 h3), ← addS_assoc, addS_comm _ e.2, addS_assoc]
      · rw [if_neg h3, if_neg (fun hq => h3 (h2.1 hq)), zero_addS, zero_addS]
theorem tot_pick {f t : Int} {B : List Int} (hB : B.Nodup) : ∀ (G : List (Int × Span)), (∀ e ∈ G, e.1 ∈ B) → tot G f t B = sumS (pick f t G)
  | [], _ => by rw [tot_nil]; rfl
  | e :: G, h => by
    rw [tot_cons hB, tot_pick hB G (fun z hz => h z (List.mem_cons_of_mem _ hz)), pick_cons, sumS_append]
    have he := h e List.mem_cons_self
    by_cases h2 : f ≤ e.1 ∧ e.1 ≤ t
    · rw [if_pos ⟨he, h2⟩, if_pos h2, sumS_cons, sumS_nil, addS_zero]
    · rw [if_neg (fun hq => h2 hq.2), if_neg h2, sumS_nil]
/-! ### The hours are rising, and all are there -/
def Rising (l : List Stoke) : Prop := List.Pairwise (fun a b : Stoke => a.hour ≤ b.hour) l
theorem hrs_sorted (a b : Int) : (hrs a b).Pairwise (· < ·) := by
  unfold hrs
  rw [List.pairwise_map]
  exact List.Pairwise.imp (fun {x y} h => by omega) List.pairwise_lt_range
theorem busyL_gt {n : Int} : ∀ (l : List Stoke) (last : Int), ∀ h ∈ busyL n last l, last < h
  | [], _, h, hh => by cases hh
  | x :: t, last, h, hh => by
    unfold busyL at hh
    split at hh
    · exact busyL_gt t _ h hh
    · split at hh
      · rcases List.mem_append.1 hh with hh | hh
        · rw [hrs_mem] at hh; omega
        · have := busyL_gt t _ h hh; omega
      · exact busyL_gt t _ h hh
theorem busyL_sorted {n : Int} : ∀ (l : List Stoke) (last : Int), (busyL n last l).Pairwise (· < ·)
  | [], _ => List.Pairwise.nil
  | x :: t, last => by
    unfold busyL
    split
    · exact busyL_sorted t _
    · split
      · rw [List.pairwise_append]
        refine ⟨hrs_sorted _ _, busyL_sorted t _, fun a ha b hb => ?_⟩
        rw [hrs_mem] at ha
        have := busyL_gt t _ b hb
        omega
      · exact busyL_sorted t _
theorem busyL_nodup {n : Int} (l : List Stoke) (last : Int) : (busyL n last l).Nodup := List.Pairwise.imp (fun {x y} (h : x < y) => by omega) (busyL_sorted l last)
theorem busyL_all {n : Int} : ∀ (l : List Stoke) (last : Int), Rising l → ∀ x ∈ l, x.kind = 0 → ∀ h, x.hour ≤ h → h < x.hour + n → h ≤ 1048576 → h ≤ last ∨ h ∈ busyL n last l
  | [], _, _, x, hx, _, _, _, _, _ => by cases hx
  | y :: t, last, hr, x, hx, hk, h, h1, h2, h3 => by
    obtain ⟨hr1, hr2⟩ := List.pairwise_cons.1 hr
    unfold busyL
    rcases List.mem_cons.1 hx with rfl | hx
    · rw [if_neg (by omega)]
      split
      · by_cases hl : h ≤ last
        · exact .inl hl
        · exact .inr (List.mem_append_left _ (hrs_mem.2 (by omega)))
      · exact .inl (by omega)
    · have hyx := hr1 x hx
      split
      · exact busyL_all t last hr2 x hx hk h h1 h2 h3
      · split
        · rcases busyL_all t (min (y.hour + n) 1048577 - 1) hr2 x hx hk h h1 h2 h3 with h4 | h4
          · by_cases hl : h ≤ last
            · exact .inl hl
            · exact .inr (List.mem_append_left _ (hrs_mem.2 (by omega)))
          · exact .inr (List.mem_append_right _ h4)
        · exact busyL_all t last hr2 x hx hk h h1 h2 h3
theorem gasFrom_mem {r : Run} : ∀ (k : Nat) (cs : List Span), ∀ e ∈ gasFrom r k cs, r.from_ + k ≤ e.1 ∧ e.1 < r.from_ + k + cs.length ∧ 0 ≤ e.1 ∧ e.1 ≤ 1048576
  | _, [], e, he => by cases he
  | k, c :: cs, e, he => by
    simp only [gasFrom] at he
    rcases List.mem_append.1 he with he | he
    · split at he
      · simp only [List.mem_singleton] at he
        subst he
        simp only [List.length_cons]; omega
      · cases he
    · have := gasFrom_mem (k + 1) cs e he
      simp only [List.length_cons]; omega
theorem gasRuns_mem {curve : List Span} : ∀ {rs : List Run}, ∀ e ∈ gasRuns curve rs, ∃ r ∈ rs, r.from_ ≤ e.1 ∧ e.1 < r.from_ + curve.length ∧ 0 ≤ e.1 ∧ e.1 ≤ 1048576
  | [], e, he => by cases he
  | r :: rs, e, he => by
    simp only [gasRuns] at he
    rcases List.mem_append.1 he with he | he
    · have := gasFrom_mem 0 curve e he
      exact ⟨r, List.mem_cons_self, by omega⟩
    · obtain ⟨r', h1, h2⟩ := gasRuns_mem e he
      exact ⟨r', List.mem_cons_of_mem _ h1, h2⟩
theorem runsP_mem : ∀ {l : List Stoke}, ∀ r ∈ runsP l, ∃ x ∈ l, x.kind = 0 ∧ r.from_ = x.hour
  | [], r, hr => by cases hr
  | x :: t, r, hr => by
    rw [runsP_cons] at hr
    rcases List.mem_append.1 hr with hr | hr
    · split at hr
      · rename_i hk
        simp only [List.mem_singleton] at hr; subst hr; exact ⟨x, List.mem_cons_self, hk, rfl⟩
      · cases hr
    · obtain ⟨y, h1, h2⟩ := runsP_mem r hr
      exact ⟨y, List.mem_cons_of_mem _ h1, h2⟩
theorem busy_all {w : House} {l : List Stoke} (hr : Rising l) : ∀ e ∈ gasRuns w.curve (runsP l), e.1 ∈ busyL w.curve.length (-1) l := fun e he => by
  obtain ⟨r, h1, h2, h3, h4, h5⟩ := gasRuns_mem e he
  obtain ⟨x, hx, hk, hf⟩ := runsP_mem r h1
  rcases busyL_all (n := w.curve.length) l (-1) hr x hx hk e.1 (by omega) (by omega) h5 with h6 | h6
  · omega
  · exact h6
theorem doStoke_hour {w : House} {S S' : St} {x : Stoke} (h : doStoke w S x = .ok S') : S.last ≤ x.hour := by
  unfold doStoke at h
  repeat' split at h
  all_goals first | (cases h; done) | omega
/-- The hours of stokes that are accepted rise. -/
theorem After.rising {w : House} : ∀ {l l0 : List Stoke} {S S' : St} {k : Nat}, goodHouse w → After w l0 S → Rising l0 → playFrom w S l k = .ok S' → Rising (l0 ++ l)
  | [], l0, S, S', k, hw, A, hr, hh => by simpa using hr
  | x :: l, l0, S, S', k, hw, A, hr, hh => by
    simp only [playFrom] at hh
    split at hh
    · cases hh
    · rename_i S1 h1
      have := After.rising hw (A.step hw h1) (by
        unfold Rising
        rw [List.pairwise_append]
        refine ⟨hr, List.pairwise_singleton _ _, fun a ha b hb => ?_⟩
        simp only [List.mem_singleton] at hb; subst hb
        have h2 := A.last a ha
        have h3 := (doStoke_hour h1)
        omega) hh
      simpa using this
theorem play_rising {w : House} {l : List Stoke} {S : St} (hh : play w l = .ok S) : Rising l := by
  have hw := (play_ok hh).1
  unfold play at hh
  split at hh
  · cases hh
  split at hh
  · cases hh
  exact After.rising (l0 := []) hw ⟨fun i hi => OvT.init hw, fun h => ⟨rfl, by have := hw.2.2.2.2.2.2.1; show (0 : Int) ≤ _; omega⟩, fun _ hx => (by cases hx), fun _ hx => (by cases hx)⟩ List.Pairwise.nil hh
/-- The document's Make is the program's. -/
theorem make_eq {w : House} {l : List Stoke} {S : St} (hh : play w l = .ok S) (f t : Int) : rMake w l f t ⟨0, 0⟩ (busyL w.curve.length (-1) l) = makeS w S f t := by
  have hA := play_after hh
  rw [rMake_tot _ _ (busyL_mem l (-1) hA.good), zero_addS, tot_pick (busyL_nodup _ _) _ (busy_all (play_rising hh))]
  unfold makeS
  rw [play_gas hh]
theorem rGas_make {w : House} {l : List Stoke} {S : St} (hh : play w l = .ok S) {h : Int} (hb : 0 ≤ h ∧ h ≤ 1048576) : rGas w h ⟨0, 0⟩ l = makeS w S h h := by
  rw [rGas_pick hb, zero_addS]; unfold makeS; rw [play_gas hh]
theorem rPeak_inv {w : House} {l : List Stoke} {S : St} {n : Nat} (hh : play w l = .ok S) (hS : S.Ok n) : ∀ (B : List Int) (A : Int → Prop) (p : Int × Span), (∀ h ∈ B, 0 ≤ h ∧ h ≤ 1048576) → B.Pairwise (· < ·) → (∀ h ∈ B, p.1 ≤ h) → PeakI w S A p.1 p.2 → PeakI w S (fun k => A k ∨ k ∈ B) (rPeak w l p B).1 (rPeak w l p B).2
  | [], A, p, _, _, _, H => ⟨H.eq, H.lo, H.pos, fun k hk => H.top k (by rcases hk with (hk | hk) | hk; exact .inl hk; cases hk; exact .inr hk)⟩
  | h :: r, A, p, hB, hs, hp, H => by
    have hw := (play_ok hh).1
    obtain ⟨hs1, hs2⟩ := List.pairwise_cons.1 hs
    have hb := hB h List.mem_cons_self
    have hmk := rGas_make hh hb
    simp only [rPeak]
    rw [hmk]
    have h0 := makeS_le hw hS p.1 p.1
    rw [← H.eq] at h0
    by_cases hc : p.2.hi < (makeS w S h h).hi
    · rw [if_pos hc]
      have := rPeak_inv hh hS r (fun k => A k ∨ k = h) (h, makeS w S h h) (fun z hz => hB z (List.mem_cons_of_mem _ hz)) hs2 (fun z hz => by have := hs1 z hz; dsimp only; omega) (show PeakI w S (fun k => A k ∨ k = h) h (makeS w S h h) from H.new (fun j hj => hj) hb (by omega) (.inl hc))
      exact ⟨this.eq, this.lo, this.pos, fun k hk => this.top k (by
        rcases hk with (hk | hk) | hk
        · exact .inl (.inl (.inl hk))
        · rcases List.mem_cons.1 hk with rfl | hk
          · exact .inl (.inl (.inr rfl))
          · exact .inl (.inr hk)
        · exact .inr hk)⟩
    · rw [if_neg hc]
      have := rPeak_inv hh hS r (fun k => A k ∨ k = h) p (fun z hz => hB z (List.mem_cons_of_mem _ hz)) hs2 (fun z hz => hp z (List.mem_cons_of_mem _ hz)) (H.add (fun j hj => hj) (by omega) (fun _ => hp h List.mem_cons_self))
      exact ⟨this.eq, this.lo, this.pos, fun k hk => this.top k (by
        rcases hk with (hk | hk) | hk
        · exact .inl (.inl (.inl hk))
        · rcases List.mem_cons.1 hk with rfl | hk
          · exact .inl (.inl (.inr rfl))
          · exact .inl (.inr hk)
        · exact .inr hk)⟩
theorem peak_is {w : House} {l : List Stoke} {S : St} {n : Nat} (hh : play w l = .ok S) (hS : S.Ok n) : IsPeak w S (rPeak w l (0, rGas w 0 ⟨0, 0⟩ l) (busyL w.curve.length (-1) l)).1 (rPeak w l (0, rGas w 0 ⟨0, 0⟩ l) (busyL w.curve.length (-1) l)).2 := by
  have hw := (play_ok hh).1
  have hA := play_after hh
  have h0 := rGas_make hh (h := 0) (by decide)
  refine (rPeak_inv hh hS (busyL w.curve.length (-1) l) (fun _ => False) (0, rGas w 0 ⟨0, 0⟩ l) (busyL_mem l (-1) hA.good) (busyL_sorted _ _) (fun h hb => (busyL_mem l (-1) hA.good h hb).1) ?_).done hw hS ?_
  · exact ⟨h0, ⟨Int.le_refl _, by show (0 : Int) ≤ 1048576; decide⟩, fun hq => absurd rfl hq, fun k hk => by
      rcases hk with hk | rfl
      · exact hk.elim
      · rw [h0]; exact ⟨Int.le_refl _, fun _ => Int.le_refl _⟩⟩
  · intro k hk
    refine Classical.byContradiction fun hne => hk (.inr ?_)
    obtain ⟨e, he, hek⟩ := pick_hour hne
    rw [play_gas hh] at he
    rw [← hek]
    exact busy_all (play_rising hh) e he
theorem IsPeak.unique {w : House} {S : St} {h1 h2 : Int} {g1 g2 : Span} (A : IsPeak w S h1 g1) (B : IsPeak w S h2 g2) : h1 = h2 ∧ g1 = g2 := by
  have a1 := A.top h2 B.lo.1
  have b1 := B.top h1 A.lo.1
  rw [← B.eq] at a1
  rw [← A.eq] at b1
  have e : h1 = h2 := by
    have h3 := a1.2 (by omega)
    have h4 := b1.2 (by omega)
    omega
  exact ⟨e, by rw [A.eq, B.eq, e]⟩
end Go.Proofs.Ytjmailhoidenaaa
