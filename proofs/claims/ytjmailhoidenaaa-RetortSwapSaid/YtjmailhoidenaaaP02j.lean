/-
  The gas is that of the coal: the plain part of RetortWhole.
-/
import Derived.Test.YtjmailhoidenaaaP02
set_option linter.all false
namespace Go.Proofs.Ytjmailhoidenaaa
open Go Go.H
theorem Span.ext2 {a b : Span} (h1 : a.lo = b.lo) (h2 : a.hi = b.hi) : a = b := by cases a; cases b; simp_all
theorem foldl_addS2 : ∀ (xs : List Span) (a : Span), xs.foldl addS a = addS a (xs.foldl addS ⟨0, 0⟩)
  | [], a => Span.ext2 (by simp [addS]) (by simp [addS])
  | x :: xs, a => by
    rw [List.foldl_cons, List.foldl_cons, foldl_addS2 xs (addS a x), foldl_addS2 xs (addS ⟨0, 0⟩ x)]
    exact Span.ext2 (by simp [addS]; omega) (by simp [addS]; omega)
theorem sumS_cons2 (x : Span) (xs : List Span) : sumS (x :: xs) = addS x (sumS xs) := by
  unfold sumS; rw [List.foldl_cons, foldl_addS2]
  exact Span.ext2 (by simp [addS]) (by simp [addS])
theorem sumS_append2 (xs ys : List Span) : sumS (xs ++ ys) = addS (sumS xs) (sumS ys) := by unfold sumS; rw [List.foldl_append, foldl_addS2]
theorem sumS_nil2 : sumS [] = ⟨0, 0⟩ := rfl
/-- What the rounds over the stokes count. -/
structure WF where
  tons : Int
  since : Nat → Int
  whole : Bool
def wf1 (n : Int) (F : WF) (x : Stoke) : WF := if x.kind = 0 then ⟨F.tons + x.tons, upd F.since x.ret.toNat x.hour, F.whole && decide (x.hour + n ≤ 1048576)⟩ else F
def wfStep (n : Int) (F : WF) (x : Stoke) : WF := if x.kind = 1 ∧ x.hour < F.since x.ret.toNat + n then { wf1 n F x with whole := false } else wf1 n F x
def wf (n : Int) (l : List Stoke) : WF := l.foldl (wfStep n) ⟨0, fun _ => 0, true⟩
theorem wf_snoc (n : Int) (l : List Stoke) (x : Stoke) : wf n (l ++ [x]) = wfStep n (wf n l) x := by simp [wf, List.foldl_append]
theorem wf_take {n : Int} {l : List Stoke} {k : Nat} {x : Stoke} (hk : l[k]? = some x) : wf n (l.take (k + 1)) = wfStep n (wf n (l.take k)) x := by
  rw [List.take_add_one, hk]; exact wf_snoc _ _ _
def tonsOf (rs : List Run) : Int := (rs.map (·.tons)).sum
/-- Beside the house. -/
structure WholeI (n : Int) (l : List Stoke) (S : St) : Prop where
  tons : (wf n l).tons = tonsOf S.runs ∧ 0 ≤ (wf n l).tons ∧ (wf n l).tons ≤ 100 * l.length
  since : ∀ i, i < 8 → 0 ≤ (wf n l).since i ∧ (wf n l).since i ≤ 1048576
  bake : ∀ i, i < 8 → (S.ov i).state = 1 → (wf n l).since i = (S.ov i).since ∧ ∃ r, S.runs[(S.op i).toNat]? = some r ∧ r.from_ = (S.ov i).since
  whole : (wf n l).whole = true → ∀ r ∈ S.runs, r.from_ + n ≤ 1048576 ∧ r.from_ + n ≤ r.until_
theorem tonsOf_modify (f : Run → Run) (hf : ∀ r, (f r).tons = r.tons) : ∀ (rs : List Run) (j : Nat), tonsOf (rs.modify j f) = tonsOf rs
  | [], j => by simp [tonsOf]
  | r :: rs, 0 => by simp [tonsOf, hf]
  | r :: rs, j + 1 => by
    have := tonsOf_modify f hf rs j
    simp only [tonsOf, List.modify_succ_cons, List.map_cons, List.sum_cons] at this ⊢
    rw [this]
theorem WholeI.step {w : House} {n : Int} {l : List Stoke} {S S1 : St} {m : Nat} {x : Stoke} (hn : 0 ≤ n ∧ n ≤ 24) (hx : goodStoke x) (hS : S.Ok m) (H : WholeI n l S) (hk : kindDo w S x = .ok S1) : WholeI n (l ++ [x]) S1 := by
  obtain ⟨⟨hh0, hh1⟩, ⟨ht0, ht1⟩, ⟨hk0, hk1⟩, hto, _⟩ := hx
  obtain ⟨i, hi⟩ : ∃ i, x.ret.toNat = i := ⟨_, rfl⟩
  have hi8 : i < 8 := by omega
  obtain ⟨hto1, hto2, hto3⟩ := H.tons
  have hW := wf_snoc n l x
  unfold wfStep wf1 at hW
  rw [hi] at hW
  by_cases h0 : x.kind = 0
  · rw [if_neg (fun hq => by omega), if_pos h0] at hW
    have htn := hto h0
    unfold kindDo at hk
    rw [if_pos h0] at hk
    unfold charge at hk
    simp only [hi] at hk
    split at hk
    · cases hk
    split at hk
    · cases hk
    split at hk
    · cases hk
    injection hk with hk
    subst hk
    refine ⟨?_, ?_, ?_, ?_⟩
    · rw [hW]
      simp only [tonsOf, List.map_append, List.sum_append, List.map_cons, List.map_nil, List.sum_cons, List.sum_nil, List.length_append, List.length_singleton] at hto1 ⊢
      omega
    · intro i' hi'
      rw [hW]
      have := H.since i' hi'
      by_cases hii : i' = i
      · simp only [upd, if_pos hii]; omega
      · simp only [upd, if_neg hii]; omega
    · intro i' hi' hst
      rw [hW]
      by_cases hii : i' = i
      · subst hii
        simp only [upd_same]
        exact ⟨trivial, _, by rw [Int.toNat_natCast, List.getElem?_append_right (Nat.le_refl _), Nat.sub_self]; rfl, rfl⟩
      · simp only [upd, if_neg hii] at hst ⊢
        obtain ⟨b1, r, b2, b3⟩ := H.bake i' hi' hst
        exact ⟨b1, r, by rw [List.getElem?_append_left (List.getElem?_eq_some_iff.1 b2).1]; exact b2, b3⟩
    · intro hwh r hr
      rw [hW] at hwh
      simp only [Bool.and_eq_true, decide_eq_true_eq] at hwh
      rcases List.mem_append.1 hr with hr | hr
      · exact H.whole hwh.1 r hr
      · simp only [List.mem_singleton] at hr; subst hr; simp only; omega
  · rw [if_neg h0] at hW
    by_cases h1 : x.kind = 1
    · unfold kindDo at hk
      rw [if_neg h0, if_pos h1] at hk
      unfold empty at hk
      simp only [hi] at hk
      split at hk
      · cases hk
      rename_i hst
      split at hk
      · cases hk
      injection hk with hk
      subst hk
      have hst1 : (S.ov i).state = 1 := by simpa using hst
      obtain ⟨b1, r0, b2, b3⟩ := H.bake i hi8 hst1
      have hw1 : (wf n (l ++ [x])).tons = (wf n l).tons ∧ (wf n (l ++ [x])).since = (wf n l).since := by rw [hW]; split <;> exact ⟨rfl, rfl⟩
      refine ⟨?_, ?_, ?_, ?_⟩
      · rw [hw1.1, List.length_append, List.length_singleton]
        exact ⟨hto1.trans (tonsOf_modify (fun r => { r with until_ := x.hour }) (fun _ => rfl) S.runs _).symm, hto2, by omega⟩
      · intro i' hi'; rw [hw1.2]; exact H.since i' hi'
      · intro i' hi' hst'
        have hii : i' ≠ i := fun hq => by subst hq; simp [upd_same] at hst'
        simp only [upd, if_neg hii] at hst' ⊢
        rw [hw1.2]
        obtain ⟨c1, r, c2, c3⟩ := H.bake i' hi' hst'
        refine ⟨c1, ?_⟩
        rw [List.getElem?_modify, c2]
        by_cases hq : (S.op i).toNat = (S.op i').toNat
        · exact ⟨{ r with until_ := x.hour }, by simp [hq], c3⟩
        · exact ⟨r, by simp [hq], c3⟩
      · intro hwh r hr
        rw [hW] at hwh
        split at hwh
        · cases hwh
        rename_i hno
        have hge : (S.ov i).since + n ≤ x.hour := by rw [← b1]; omega
        obtain ⟨j, hj⟩ := List.mem_iff_getElem?.1 hr
        rw [List.getElem?_modify] at hj
        cases hq : S.runs[j]? with
        | none => simp [hq] at hj
        | some r1 =>
          have hr1 := H.whole hwh r1 (List.mem_of_getElem? hq)
          simp only [hq] at hj
          split at hj
          · rename_i hjj
            rw [hjj, hq] at b2
            cases b2
            simp only [Option.map_eq_map, Option.map_some, Option.some.injEq] at hj
            subst hj
            simp only
            omega
          · simp only [Option.map_eq_map, Option.map_some, Option.some.injEq, id] at hj
            subst hj; exact hr1
    · rw [if_neg (fun hq => h1 hq.1)] at hW
      have hrest : S1.runs = S.runs ∧ S1.op = S.op ∧ ∃ o', S1.ov = upd S.ov i o' ∧ o'.state ≠ 1 := by
        unfold kindDo at hk
        rw [if_neg h0, if_neg h1] at hk
        unfold scour letOut lightUp at hk
        simp only [hi] at hk
        repeat' split at hk
        all_goals first | (cases hk; done) | skip
        all_goals
          injection hk with hk
          subst hk
          refine ⟨rfl, rfl, _, rfl, ?_⟩ <;> (try simp only) <;> first
            | omega
            | (split <;> omega)
      obtain ⟨r1, r2, o', r3, r4⟩ := hrest
      refine ⟨?_, ?_, ?_, ?_⟩
      · rw [hW, r1, List.length_append, List.length_singleton]; exact ⟨hto1, hto2, by omega⟩
      · rw [hW]; exact H.since
      · intro i' hi' hst'
        rw [r3] at hst'
        have hii : i' ≠ i := fun hq => by subst hq; rw [upd_same] at hst'; exact r4 hst'
        simp only [upd, if_neg hii] at hst'
        rw [hW, r1, r2, r3]
        simp only [upd, if_neg hii]
        exact H.bake i' hi' hst'
      · rw [hW, r1]; exact H.whole
theorem WholeI.doStep {w : House} {n : Int} {l : List Stoke} {S S' : St} {m : Nat} {x : Stoke} (hn : 0 ≤ n ∧ n ≤ 24) (hS : S.Ok m) (H : WholeI n l S) (hd : doStoke w S x = .ok S') : WholeI n (l ++ [x]) S' := by
  unfold doStoke at hd
  repeat' split at hd
  all_goals first | (cases hd; done) | skip
  rename_i hg0 _ _ _ S1 hk
  injection hd with hd
  subst hd
  have := H.step hn (by simpa using hg0) hS hk
  exact ⟨this.tons, this.since, this.bake, this.whole⟩
theorem playFrom_whole {w : House} (hw : goodHouse w) : ∀ (l l0 : List Stoke) {S S' : St} {k m : Nat}, S.Ok m → WholeI w.curve.length l0 S → playFrom w S l k = .ok S' → WholeI w.curve.length (l0 ++ l) S'
  | [], l0, S, S', k, m, hS, H, hh => by cases hh; simpa using H
  | x :: l, l0, S, S', k, m, hS, H, hh => by
    simp only [playFrom] at hh
    split at hh
    · cases hh
    · rename_i S1 h1
      have hc := hw.2.1
      have := playFrom_whole hw l (l0 ++ [x]) (doStoke_ok hw hS h1) (H.doStep ⟨by omega, by omega⟩ hS h1) hh
      simpa using this
theorem play_whole {w : House} {l : List Stoke} {S : St} (hh : play w l = .ok S) : WholeI w.curve.length l S := by
  have hw := (play_ok hh).1
  unfold play at hh
  split at hh
  · cases hh
  split at hh
  · cases hh
  exact playFrom_whole hw l [] St.init_ok ⟨⟨rfl, Int.le_refl _, by show (0 : Int) ≤ 0; decide⟩, fun i hi => ⟨Int.le_refl _, by show (0 : Int) ≤ 1048576; decide⟩, fun i hi hs => by simp [St.init] at hs, fun _ r hr => by cases hr⟩ hh
/-! ### The gas -/
theorem gasFrom_sum {r : Run} (hr : 1 ≤ r.tons) : ∀ (k : Nat) (cs : List Span), (∀ c ∈ cs, 0 ≤ c.lo ∧ 0 ≤ c.hi) →
    ((sumS ((gasFrom r k cs).map (·.2))).lo ≤ r.tons * (sumS cs).lo ∧ (sumS ((gasFrom r k cs).map (·.2))).hi ≤ r.tons * (sumS cs).hi) ∧
    (0 ≤ r.from_ → r.from_ + k + cs.length ≤ 1048577 → r.from_ + k + cs.length ≤ r.until_ → sumS ((gasFrom r k cs).map (·.2)) = ⟨r.tons * (sumS cs).lo, r.tons * (sumS cs).hi⟩)
  | _, [], _ => by simp [gasFrom, sumS]
  | k, c :: cs, hb => by
    have hc := hb c List.mem_cons_self
    obtain ⟨⟨i1, i2⟩, i3⟩ := gasFrom_sum hr (k + 1) cs (fun z hz => hb z (List.mem_cons_of_mem _ hz))
    have hm1 : 0 ≤ r.tons * c.lo := Int.mul_nonneg (by omega) hc.1
    have hm2 : 0 ≤ r.tons * c.hi := Int.mul_nonneg (by omega) hc.2
    simp only [gasFrom]
    rw [List.map_append, sumS_append2, sumS_cons2 c cs]
    simp only [addS]
    rw [Int.mul_add, Int.mul_add]
    refine ⟨?_, fun h1 h2 h3 => ?_⟩
    · split
      · simp only [List.map_cons, List.map_nil, sumS_cons2, sumS_nil2, addS]
        omega
      · simp only [List.map_nil, sumS_nil2]
        omega
    · simp only [List.length_cons] at h2 h3
      rw [if_pos ⟨by omega, by omega, by omega⟩, i3 h1 (by omega) (by omega)]
      simp only [List.map_cons, List.map_nil, sumS_cons2, sumS_nil2, addS, Int.add_zero]
theorem gasRuns_sum {curve : List Span} (hb : ∀ c ∈ curve, 0 ≤ c.lo ∧ 0 ≤ c.hi) : ∀ (rs : List Run), (∀ r ∈ rs, 1 ≤ r.tons ∧ 0 ≤ r.from_) →
    ((sumS ((gasRuns curve rs).map (·.2))).lo ≤ tonsOf rs * (sumS curve).lo ∧ (sumS ((gasRuns curve rs).map (·.2))).hi ≤ tonsOf rs * (sumS curve).hi) ∧
    ((∀ r ∈ rs, r.from_ + curve.length ≤ 1048576 ∧ r.from_ + curve.length ≤ r.until_) → sumS ((gasRuns curve rs).map (·.2)) = ⟨tonsOf rs * (sumS curve).lo, tonsOf rs * (sumS curve).hi⟩)
  | [], _ => by simp [gasRuns, tonsOf, sumS]
  | r :: rs, hr => by
    obtain ⟨⟨i1, i2⟩, i3⟩ := gasRuns_sum hb rs (fun z hz => hr z (List.mem_cons_of_mem _ hz))
    have h0 := hr r List.mem_cons_self
    obtain ⟨⟨j1, j2⟩, j3⟩ := gasFrom_sum h0.1 0 curve hb
    have ht : tonsOf (r :: rs) = r.tons + tonsOf rs := by simp [tonsOf]
    simp only [gasRuns]
    rw [List.map_append, sumS_append2, ht, Int.add_mul, Int.add_mul]
    refine ⟨?_, fun hq => ?_⟩
    · simp only [addS]; omega
    · have h1 := hq r List.mem_cons_self
      rw [i3 (fun z hz => hq z (List.mem_cons_of_mem _ hz)), j3 h0.2 (by simp only [Int.natCast_zero]; omega) (by simp only [Int.natCast_zero]; omega)]
      rfl
theorem pick_all {l : List (Int × Span)} (h : ∀ x ∈ l, 0 ≤ x.1 ∧ x.1 ≤ 1048576) : pick 0 1048576 l = l.map (·.2) := by
  unfold pick
  rw [List.filter_eq_self.2 (fun x hx => by have := h x hx; simp [this])]
theorem curve_pos {w : House} (hw : goodHouse w) : ∀ c ∈ w.curve, 0 ≤ c.lo ∧ 0 ≤ c.hi := fun c hc => by have := goodSpan hw.2.2.1 hc; omega
/-- What the law asks of all gas. -/
theorem whole_law {w : House} {l : List Stoke} {S : St} {n : Nat} (hh : play w l = .ok S) (hS : S.Ok n) :
    ((makeS w S 0 1048576).lo ≤ (wf w.curve.length l).tons * (sumS w.curve).lo ∧ (makeS w S 0 1048576).hi ≤ (wf w.curve.length l).tons * (sumS w.curve).hi) ∧
    ((wf w.curve.length l).whole = true → makeS w S 0 1048576 = ⟨(wf w.curve.length l).tons * (sumS w.curve).lo, (wf w.curve.length l).tons * (sumS w.curve).hi⟩) := by
  have hw := (play_ok hh).1
  have hW := play_whole hh
  have hf := gasRuns_fit hw.2.2.1 S.runs hS.rn
  unfold makeS
  rw [pick_all (fun x hx => (hf x hx).1), hW.tons.1]
  obtain ⟨h1, h2⟩ := gasRuns_sum (curve_pos hw) S.runs (fun r hr => by have := hS.rn r hr; omega)
  exact ⟨h1, fun hq => h2 (hW.whole hq)⟩
theorem pick_split {a b c : Int} (h1 : a ≤ b + 1) (h2 : b ≤ c) : ∀ (l : List (Int × Span)), addS (sumS (pick a b l)) (sumS (pick (b + 1) c l)) = sumS (pick a c l)
  | [] => rfl
  | x :: l => by
    have ih := pick_split h1 h2 l
    have hc : ∀ f t : Int, pick f t (x :: l) = (if f ≤ x.1 ∧ x.1 ≤ t then [x.2] else []) ++ pick f t l := fun f t => by
      unfold pick
      rw [List.filter_cons]
      by_cases g1 : f ≤ x.1 <;> by_cases g2 : x.1 ≤ t <;> simp [g1, g2]
    rw [hc, hc, hc, sumS_append2, sumS_append2, sumS_append2, ← ih]
    by_cases g1 : a ≤ x.1 ∧ x.1 ≤ b
    · rw [if_pos g1, if_neg (fun hq => by omega), if_pos ⟨by omega, by omega⟩]
      exact Span.ext2 (by simp [addS, sumS]; omega) (by simp [addS, sumS]; omega)
    · by_cases g2 : b + 1 ≤ x.1 ∧ x.1 ≤ c
      · rw [if_neg g1, if_pos g2, if_pos ⟨by omega, by omega⟩]
        exact Span.ext2 (by simp [addS, sumS]; omega) (by simp [addS, sumS]; omega)
      · rw [if_neg g1, if_neg g2, if_neg (fun hq => by omega)]
        exact Span.ext2 (by simp [addS, sumS]) (by simp [addS, sumS])
theorem make_split {w : House} {S : St} {a b c : Int} (h1 : a ≤ b + 1) (h2 : b ≤ c) : addS (makeS w S a b) (makeS w S (b + 1) c) = makeS w S a c := pick_split h1 h2 _
end Go.Proofs.Ytjmailhoidenaaa
