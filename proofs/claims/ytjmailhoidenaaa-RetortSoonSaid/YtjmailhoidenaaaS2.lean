/-
  The greatest hour: the plain part.
-/
import Derived.Test.YtjmailhoidenaaaS
import Derived.Test.YtjmailhoidenaaaH17
set_option linter.all false
namespace Go.Proofs.Ytjmailhoidenaaa
open Go Go.H
def eV (s : Span) : Value := .agg ⟨eSpan s⟩
def optS (xs : List Span) : Option Span := if xs = [] then none else some (sumS xs)
theorem optS_get (xs : List Span) : ((optS xs).map eV).getD (.agg ⟨[I 0, I 0]⟩) = eV (sumS xs) := by
  unfold optS
  split
  · rename_i hx; subst hx; rfl
  · rfl
theorem sumS_snoc (xs : List Span) (y : Span) : sumS [sumS xs, y] = sumS (xs ++ [y]) := by
  simp [sumS, addS, List.foldl_append]
theorem optS_snoc (xs : List Span) (y : Span) : optS (xs ++ [y]) = some (sumS [sumS xs, y]) := by
  rw [sumS_snoc]; simp [optS]
theorem pick_other {l : List (Int × Span)} {k : Nat} {x : Int × Span} (hk : l[k]? = some x) {j : Int} (hj : j ≠ x.1) : pick j j (l.take (k + 1)) = pick j j (l.take k) := by
  rw [pick_take hk, if_neg (by omega), List.append_nil]
theorem pick_self {l : List (Int × Span)} {k : Nat} {x : Int × Span} (hk : l[k]? = some x) : pick x.1 x.1 (l.take (k + 1)) = pick x.1 x.1 (l.take k) ++ [x.2] := by
  rw [pick_take hk, if_pos ⟨Int.le_refl _, Int.le_refl _⟩]
theorem slv2 {h : Hp} {b : Nat} {t : TypeId} {fz : Nat × Nat} {x y : Span} (hm : (b, .cells ⟨[I x.lo, I x.hi, I y.lo, I y.hi]⟩ t fz) ∈ h) : SlV h 2 eSpan (some ⟨b, 0, none⟩) [x, y] :=
  .inr ⟨b, 0, _, t, fz, rfl, hm, fun i z hz => by
    rcases i with _ | _ | i
    · simp at hz; subst hz; rfl
    · simp at hz; subst hz; rfl
    · simp at hz⟩
/-- The greatest hour. -/
structure IsPeak (w : House) (S : St) (hour : Int) (gas : Span) : Prop where
  eq : gas = makeS w S hour hour
  lo : 0 ≤ hour ∧ hour ≤ 1048576
  pos : hour ≠ 0 → 0 < gas.hi
  top : ∀ k, 0 ≤ k → (makeS w S k k).hi ≤ gas.hi ∧ ((makeS w S k k).hi = gas.hi → hour ≤ k)
theorem fit_sum {l : List Span} {B : Int} (hB : 0 ≤ B) (hb : ∀ x ∈ l, (0 ≤ x.lo ∧ x.lo ≤ B) ∧ (0 ≤ x.hi ∧ x.hi ≤ B)) : (0 ≤ (sumS l).lo ∧ (sumS l).lo ≤ l.length * B) ∧ (0 ≤ (sumS l).hi ∧ (sumS l).hi ≤ l.length * B) := by
  have := sumS_bound hB hb l.length (Nat.le_refl _)
  rwa [List.take_length] at this
theorem sumS_le : ∀ (k : Nat) (l : List Span), (∀ x ∈ l, x.lo ≤ x.hi) → (sumS (l.take k)).lo ≤ (sumS (l.take k)).hi := by
  intro k l hl
  induction k with
  | zero => simp [sumS]
  | succ k ih =>
    cases hk : l[k]? with
    | none => rw [List.take_of_length_le (by rw [List.getElem?_eq_none_iff] at hk; omega)] ; rw [List.getElem?_eq_none_iff] at hk; rw [List.take_of_length_le hk] at ih; exact ih
    | some x =>
      rw [sumS_take hk]
      have := hl x (List.mem_of_getElem? hk)
      simp only [addS]; omega
theorem gasFrom_le {r : Run} (hr : 0 ≤ r.tons) : ∀ (k : Nat) (cs : List Span), (∀ c ∈ cs, c.lo ≤ c.hi) → ∀ x ∈ gasFrom r k cs, x.2.lo ≤ x.2.hi
  | _, [], _, x, hx => by cases hx
  | k, c :: cs, hb, x, hx => by
    simp only [gasFrom, List.mem_append] at hx
    rcases hx with hx | hx
    · split at hx
      · simp only [List.mem_singleton] at hx
        subst hx
        exact Int.mul_le_mul_of_nonneg_left (hb c List.mem_cons_self) hr
      · cases hx
    · exact gasFrom_le hr (k + 1) cs (fun c hc => hb c (List.mem_cons_of_mem _ hc)) x hx
theorem gasRuns_le {curve : List Span} (hb : curve.any badSpan = false) : ∀ (rs : List Run), (∀ r ∈ rs, (1 ≤ r.tons ∧ r.tons ≤ 100) ∧ (0 ≤ r.from_ ∧ r.from_ ≤ 1048576)) → ∀ x ∈ gasRuns curve rs, x.2.lo ≤ x.2.hi
  | [], _, x, hx => by cases hx
  | r :: rs, hr, x, hx => by
    simp only [gasRuns, List.mem_append] at hx
    rcases hx with hx | hx
    · have := hr r List.mem_cons_self
      exact gasFrom_le (by omega) 0 curve (fun c hc => by have h1 := List.any_eq_false.1 hb c hc; simp [badSpan] at h1; omega) x hx
    · exact gasRuns_le hb rs (fun r hm => hr r (List.mem_cons_of_mem _ hm)) x hx
/-- What is known on the way over the hours, whichever came already. -/
structure PeakI (w : House) (S : St) (A : Int → Prop) (hour : Int) (gas : Span) : Prop where
  eq : gas = makeS w S hour hour
  lo : 0 ≤ hour ∧ hour ≤ 1048576
  pos : hour ≠ 0 → 0 < gas.hi
  top : ∀ k, A k ∨ k = 0 → (makeS w S k k).hi ≤ gas.hi ∧ ((makeS w S k k).hi = gas.hi → hour ≤ k)
theorem PeakI.add {w : House} {S : St} {A A' : Int → Prop} {hour k : Int} {gas : Span} (H : PeakI w S A hour gas) (hA : ∀ j, A' j → A j ∨ j = k) (h1 : (makeS w S k k).hi ≤ gas.hi) (h2 : (makeS w S k k).hi = gas.hi → hour ≤ k) : PeakI w S A' hour gas :=
  ⟨H.eq, H.lo, H.pos, fun j hj => by
    rcases hj with hj | hj
    · rcases hA j hj with hj | rfl
      · exact H.top j (.inl hj)
      · exact ⟨h1, h2⟩
    · exact H.top j (.inr hj)⟩
theorem PeakI.new {w : House} {S : St} {A A' : Int → Prop} {hour k : Int} {gas : Span} (H : PeakI w S A hour gas) (hA : ∀ j, A' j → A j ∨ j = k) (hk : 0 ≤ k ∧ k ≤ 1048576) (h0 : 0 < (makeS w S k k).hi) (h1 : gas.hi < (makeS w S k k).hi ∨ gas.hi = (makeS w S k k).hi ∧ k < hour) : PeakI w S A' k (makeS w S k k) :=
  ⟨rfl, hk, fun _ => h0, fun j hj => by
    have hj' : (A j ∨ j = 0) ∨ j = k := by
      rcases hj with hj | hj
      · rcases hA j hj with hj | hj
        · exact .inl (.inl hj)
        · exact .inr hj
      · exact .inl (.inr hj)
    rcases hj' with hj' | rfl
    · have := H.top j hj'
      omega
    · exact ⟨Int.le_refl _, fun _ => Int.le_refl _⟩⟩
theorem makeS_le {w : House} {S : St} {n : Nat} (hw : goodHouse w) (hS : S.Ok n) (f t : Int) : 0 ≤ (makeS w S f t).lo ∧ (makeS w S f t).lo ≤ (makeS w S f t).hi := by
  have h1 := gasRuns_fit hw.2.2.1 S.runs hS.rn
  have h2 := gasRuns_le hw.2.2.1 S.runs hS.rn
  have h3 := fit_sum (l := pick f t (gasRuns w.curve S.runs)) (B := 10000000) (by omega) (fun y hy => by obtain ⟨z, hz, rfl⟩ := pick_mem hy; exact (h1 z hz).2)
  have h4 := sumS_le (pick f t (gasRuns w.curve S.runs)).length (pick f t (gasRuns w.curve S.runs)) (fun y hy => by obtain ⟨z, hz, rfl⟩ := pick_mem hy; exact h2 z hz)
  rw [List.take_length] at h4
  exact ⟨h3.1.1, h4⟩
theorem makeS_none {w : House} {S : St} {k : Int} (hk : pick k k (gasRuns w.curve S.runs) = []) : makeS w S k k = ⟨0, 0⟩ := by
  unfold makeS; rw [hk]; rfl
theorem PeakI.done {w : House} {S : St} {n : Nat} {A : Int → Prop} {hour : Int} {gas : Span} (hw : goodHouse w) (hS : S.Ok n) (H : PeakI w S A hour gas) (hA : ∀ k, ¬ A k → pick k k (gasRuns w.curve S.runs) = []) : IsPeak w S hour gas :=
  ⟨H.eq, H.lo, H.pos, fun k hk => by
    by_cases hq : A k
    · exact H.top k (.inl hq)
    · rw [makeS_none (hA k hq)]
      have h0 := makeS_le hw hS hour hour
      rw [← H.eq] at h0
      have := H.pos
      have := H.lo
      dsimp only
      omega⟩
/-- What the search for a free hour needs. -/
structure St.Fr (b : Int) (S : St) : Prop where
  done : ∀ k, 0 ≤ S.done k ∧ S.done k ≤ b
  last : 0 ≤ S.last ∧ S.last ≤ b
  after : ∀ k, S.last < k → S.done k = 0
theorem St.Ok.fr {n : Nat} {S : St} (H : S.Ok n) (hn : n ≤ 1000) : S.Fr 1048676 :=
  ⟨fun k => by have := H.done k; omega, by have := H.last; omega, H.after⟩
theorem St.Fr.le {b b' : Int} {S : St} (H : S.Fr b) (hb : b ≤ b') : S.Fr b' :=
  ⟨fun k => by have := H.done k; omega, by have := H.last; omega, H.after⟩
theorem freeHour_bound (w : House) (S : St) (f : Int) : f ≤ freeHour w S f ∧ S.last ≤ freeHour w S f ∧ freeHour w S f ≤ max f S.last + 1 := by
  unfold freeHour; split <;> omega
theorem taken_fr {w : House} {S : St} {b f : Int} (hS : S.Fr b) (hf : 0 ≤ f ∧ f ≤ b) : (S.taken (freeHour w S f)).Fr (b + 1) := by
  have h1 := freeHour_bound w S f
  have h2 := hS.last
  refine ⟨fun k => ?_, by simp only [St.taken]; omega, fun k hk => ?_⟩
  · have := hS.done k
    have := hS.done (freeHour w S f)
    simp only [St.taken, setd]
    split <;> omega
  · simp only [St.taken] at hk
    simp only [St.taken, setd]
    rw [if_neg (by omega)]
    exact hS.after k (by omega)
/-- When a retort can be charged. -/
def soon1 (w : House) (S : St) (o : Oven) : St × Int := if o.state = 1 then (S.taken (freeHour w S (o.since + w.least)), freeHour w S (o.since + w.least)) else (S, o.since)
def soon2 (w : House) (S : St) (o : Oven) (f : Int) : St × Int := if o.runs = w.runs then (S.taken (freeHour w S f), freeHour w S f + w.scurf) else (S, f)
def soonest (w : House) (S : St) (o : Oven) : Except Int Int :=
  if o.state = 2 ∨ o.state = 3 then .error 6
  else
    let hour := freeHour w (soon2 w (soon1 w S o).1 o (soon1 w S o).2).1 (soon2 w (soon1 w S o).1 o (soon1 w S o).2).2
    if 0 ≤ hour ∧ hour ≤ 1048576 then .ok hour else .error 7
theorem sc_ovA {hs : List Value} {ov : Nat → Oven} {m : Nat} {last : Int} {rv : Value} {op : Nat → Int} {h6 : hs.length = 6} {i : Nat} (hi : i < 8) : ((shopC hs ov m last rv op).drop (0 + 6 + i * 5)).take 5 = eOven (ov i) := by
  unfold shopC
  rw [show 0 + 6 + i * 5 = hs.length + i * 5 by omega, ← List.drop_drop, List.drop_left]
  rcases i with _ | _ | _ | _ | _ | _ | _ | _ | i <;> first | (exfalso; omega) | rfl
theorem pick_hour {l : List (Int × Span)} {j : Int} (hp : pick j j l ≠ []) : ∃ x ∈ l, x.1 = j := by
  unfold pick at hp
  obtain ⟨x, hx⟩ := List.exists_mem_of_ne_nil _ hp
  obtain ⟨y, hy, _⟩ := List.mem_map.1 hx
  obtain ⟨h1, h2⟩ := List.mem_filter.1 hy
  simp only [Bool.and_eq_true, decide_eq_true_eq] at h2
  exact ⟨y, h1, by omega⟩
/-- What the map of the hours says of an entry. -/
theorem hour_entry {w : House} {S : St} {n : Nat} (hw : goodHouse w) (hS : S.Ok n) {es : List MapEntry} (hG : ∀ j, mget es j = (optS (pick j j (gasRuns w.curve S.runs))).map eV) {j : Int} {v : Value} (hj : mget es j = some v) : v = eV (makeS w S j j) ∧ 0 ≤ j ∧ j ≤ 1048576 := by
  have h1 := hG j
  rw [hj] at h1
  unfold optS at h1
  split at h1
  · cases h1
  · rename_i hne
    refine ⟨Option.some.inj h1, ?_⟩
    obtain ⟨x, hx, rfl⟩ := pick_hour hne
    exact (gasRuns_fit hw.2.2.1 S.runs hS.rn x hx).1
theorem hour_none {w : House} {S : St} {es : List MapEntry} {c : Nat} {seen : Array Nat} (hL : Lay es c) (hG : ∀ j, mget es j = (optS (pick j j (gasRuns w.curve S.runs))).map eV) (hz : (leftOf ⟨es⟩ seen).size = 0) (k : Int)
    (hk : ¬ ∃ e, e ∈ es ∧ e.key = .int .i64 k ∧ seen.contains e.born = true) : pick k k (gasRuns w.curve S.runs) = [] := by
  refine Classical.byContradiction fun hne => hk ?_
  have h1 := hG k
  unfold optS at h1
  rw [if_neg hne] at h1
  obtain ⟨e, he, hke, _⟩ := mget_some hL.ai h1
  exact ⟨e, he, hke, all_seen ⟨es⟩ seen hz e he⟩
theorem hour_seen {es : List MapEntry} {c : Nat} {seen : Array Nat} {e : MapEntry} {j : Int} (hL : Lay es c) (he : e ∈ es) (hk : e.key = .int .i64 j) : ∀ i, (∃ z, z ∈ es ∧ z.key = .int .i64 i ∧ (seen.push e.born).contains z.born = true) → (∃ z, z ∈ es ∧ z.key = .int .i64 i ∧ seen.contains z.born = true) ∨ i = j := by
  rintro i ⟨z, hz, hzk, hc⟩
  rw [contains_push] at hc
  cases hs : seen.contains z.born with
  | true => exact .inl ⟨z, hz, hzk, hs⟩
  | false =>
    rw [hs] at hc
    simp only [Bool.false_or, beq_iff_eq] at hc
    have := born_inj hL.nd hz he hc
    subst this
    rw [hk] at hzk
    injection hzk with _ hzk
    exact .inr hzk.symm
end Go.Proofs.Ytjmailhoidenaaa
