/-
  What the program asks of the pennies of one tariff, and which divisions it finds.
-/
import Derived.Test.YtlcdbjgfeoagbaaP10
set_option linter.all false
namespace Go.Proofs.Ytlcdbjgfeoagbaa
open Go Go.H
theorem forceN_mono {l : List Tariff} {h h' : Int} (hh : h ≤ h') : ∀ k, forceN l h k ≤ forceN l h' k
  | 0 => Nat.le_refl _
  | i + 1 => by
    have ih := forceN_mono (l := l) hh i
    have hle := forceN_le l h i
    unfold forceN
    cases hg : l[i]? with
    | none => exact ih
    | some t =>
      dsimp only
      by_cases h1 : t.frm ≤ h
      · rw [if_pos h1, if_pos (by omega)]; exact Nat.le_refl _
      · rw [if_neg h1]
        by_cases h2 : t.frm ≤ h'
        · rw [if_pos h2]; omega
        · rw [if_neg h2]; exact ih
theorem force_mono {l : List Tariff} {h h' : Int} (hh : h ≤ h') : force l h ≤ force l h' := forceN_mono hh _
theorem forceN_skip {l : List Tariff} {hour : Int} {k : Nat} : ∀ (d : Nat), (∀ j x, k ≤ j → l[j]? = some x → hour < x.frm) → forceN l hour (k + d) = forceN l hour k
  | 0, _ => rfl
  | d + 1, h => by
    have ih := forceN_skip (l := l) (hour := hour) (k := k) d h
    rw [← Nat.add_assoc]
    cases hg : l[k + d]? with
    | none => rw [← ih]; unfold forceN; rw [hg]; cases k + d <;> rfl
    | some t => rw [forceN_out hg (by have := h (k + d) t (by omega) hg; omega)]; exact ih
theorem force_eq {l : List Tariff} {hour : Int} {k : Nat} {t : Tariff} (hk : l[k]? = some t) (h1 : t.frm ≤ hour) (h2 : ∀ j x, k + 1 ≤ j → l[j]? = some x → hour < x.frm) : force l hour = k := by
  have hlt := (List.getElem?_eq_some_iff.1 hk).1
  unfold force
  have := forceN_skip (l := l) (hour := hour) (k := k + 1) (l.length - (k + 1)) h2
  rw [show k + 1 + (l.length - (k + 1)) = l.length by omega] at this
  rw [this, forceN_in hk h1]
def needP (f L b : Int) : Int := if L > b * f then (L + f - 1).tdiv f else b
theorem ceil_bd {f L : Int} (hf : 1 ≤ f) (hL : 1 ≤ L) : L ≤ (L + f - 1).tdiv f * f ∧ ((L + f - 1).tdiv f - 1) * f < L := by
  rw [Int.tdiv_eq_ediv_of_nonneg (by omega)]
  have h1 := Int.mul_ediv_add_emod (L + f - 1) f
  have h2 := Int.emod_nonneg (L + f - 1) (show f ≠ 0 by omega)
  have h3 := Int.emod_lt_of_pos (L + f - 1) (show 0 < f by omega)
  rw [Int.mul_comm] at h1
  rw [Int.sub_mul, Int.one_mul]
  omega
theorem needP_ge {f L b : Int} (hf : 1 ≤ f) (hb : 0 ≤ b) : b ≤ needP f L b ∧ L ≤ needP f L b * f := by
  unfold needP
  split
  · rename_i h
    have hbf := Int.mul_nonneg hb (show 0 ≤ f by omega)
    obtain ⟨c1, c2⟩ := ceil_bd hf (show 1 ≤ L by omega)
    refine ⟨?_, c1⟩
    have : b * f < (L + f - 1).tdiv f * f := by omega
    have := Int.lt_of_mul_lt_mul_right this (by omega)
    omega
  · exact ⟨Int.le_refl _, by omega⟩
theorem grow_need {sm f used nk : Int} (hf : 1 ≤ f) : ∀ (q : Nat) (b : Int), (nk - b).toNat = q → 0 ≤ b → b ≤ nk →
    (needP f (used - sm) b ≤ nk → grow sm f used nk b = needP f (used - sm) b) ∧ (nk < needP f (used - sm) b → grow sm f used nk b = nk ∧ sm + nk * f < used) := by
  intro q
  induction q with
  | zero =>
    intro b hq h0 hb
    obtain rfl : b = nk := by omega
    rw [grow_stop (by omega)]
    refine ⟨fun h => ?_, fun h => ⟨rfl, ?_⟩⟩
    · have := needP_ge (f := f) (L := used - sm) hf h0; omega
    · unfold needP at h; split at h <;> omega
  | succ q ih =>
    intro b hq h0 hb
    by_cases hc : b < nk ∧ sm + b * f < used
    · rw [grow_step hc.1 hc.2]
      have := ih (b + 1) (by omega) (by omega) (by omega)
      have e : needP f (used - sm) (b + 1) = needP f (used - sm) b := by
        unfold needP
        rw [if_pos (show used - sm > b * f by omega)]
        split
        · rfl
        · rename_i h
          have hbf := Int.mul_nonneg h0 (show 0 ≤ f by omega)
          obtain ⟨c1, c2⟩ := ceil_bd hf (show 1 ≤ used - sm by omega)
          have l1 : b * f < (used - sm + f - 1).tdiv f * f := by omega
          have l2 := Int.lt_of_mul_lt_mul_right l1 (by omega)
          have l3 : ((used - sm + f - 1).tdiv f - 1) * f < (b + 1) * f := by omega
          have l4 := Int.lt_of_mul_lt_mul_right l3 (by omega)
          omega
      rw [e] at this; exact this
    · rw [grow_stop hc]
      refine ⟨fun h => ?_, fun h => ?_⟩
      · have h9 := needP_ge (f := f) (L := used - sm) hf h0
        by_cases hbn : b < nk
        · unfold needP; rw [if_neg (by omega)]
        · omega
      · unfold needP at h; split at h <;> omega
def feetK (s : Slot) (k : Nat) : Int := (s.tars.getD k default).feet
def capP (s : Slot) (k : Nat) (pen : Int) (m : Mark) (c : Int) : Int := if m.hour = endT s k then pen else c
def stepP (s : Slot) (k : Nat) (pen has : Int) (m : Mark) (b : Int) : Option Int :=
  if needP (feetK s k) (m.used - has) b > pen then none
  else if has + capP s k pen m (needP (feetK s k) (m.used - has) b) * feetK s k > m.used + s.hold then none
  else some (capP s k pen m (needP (feetK s k) (m.used - has) b))
def fitsP (s : Slot) (k : Nat) (pen has : Int) (l : List Mark) (b : Int) : Option Int := l.foldl (fun z m => z.bind (stepP s k pen has m)) (some b)
def fitsB (s : Slot) (k : Nat) (pen has : Int) : Bool := (fitsP s k pen has (ofT s k (dmS s)) 0).isSome
theorem stepP_bd {s : Slot} {k : Nat} {pen has b B : Int} {m : Mark} (hf : 1 ≤ feetK s k) (hb : 0 ≤ b ∧ b ≤ pen) (h : stepP s k pen has m b = some B) : b ≤ B ∧ B ≤ pen := by
  have h1 := (needP_ge (L := m.used - has) hf hb.1).1
  unfold stepP at h
  split at h
  · cases h
  · split at h
    · cases h
    · have := Option.some.inj h
      unfold capP at this
      split at this <;> omega
theorem stepQ_P {s : Slot} {n : List Int} {m : Mark} {k : Nat} {b : Int} (hk : force s.tars m.hour = k) (hf : 1 ≤ feetK s k) (hb : 0 ≤ b ∧ b ≤ n.getD k 0) : stepQ s n m b = stepP s k (n.getD k 0) (s.start + worthN s n k) m b := by
  have e1 : feetAt s m.hour = feetK s k := by unfold feetAt feetK; rw [hk]
  have e2 : smAt s n m.hour = s.start + worthN s n k := by unfold smAt; rw [hk]
  have e3 : nAt s n m.hour = n.getD k 0 := by unfold nAt; rw [hk]
  unfold stepQ stepP qB fitM capP
  simp only [e1, e2, e3, hk]
  generalize hsm : s.start + worthN s n k = sm
  generalize hnk : n.getD k 0 = nk at hb
  generalize feetK s k = f at hf
  obtain ⟨g1, g2⟩ := grow_need (sm := sm) (used := m.used) (nk := nk) hf _ b rfl hb.1 hb.2
  have hge := needP_ge (f := f) (L := m.used - sm) hf hb.1
  by_cases hc : needP f (m.used - sm) b > nk
  · rw [if_pos hc]
    obtain ⟨g3, g4⟩ := g2 hc
    rw [g3]
    have e : (if m.hour = endT s k then nk else nk) = nk := by split <;> rfl
    rw [e]
    exact if_neg fun q => by omega
  · rw [if_neg hc, g1 (by omega)]
    by_cases he : m.hour = endT s k
    · rw [if_pos he]
      have hm : needP f (m.used - sm) b * f ≤ nk * f := Int.mul_le_mul_of_nonneg_right (by omega) (by omega)
      by_cases hq : sm + nk * f > m.used + s.hold
      · rw [if_pos hq]; exact if_neg fun q => by omega
      · rw [if_neg hq]; exact if_pos ⟨by omega, by omega⟩
    · rw [if_neg he]
      by_cases hq : sm + needP f (m.used - sm) b * f > m.used + s.hold
      · rw [if_pos hq]; exact if_neg fun q => by omega
      · rw [if_neg hq]; exact if_pos ⟨by omega, by omega⟩
theorem fitsP_none {s : Slot} {k : Nat} {pen has : Int} : ∀ (l : List Mark), l.foldl (fun (z : Option Int) m => z.bind (stepP s k pen has m)) none = none
  | [] => rfl
  | x :: l => fitsP_none l
theorem fitsP_cons {s : Slot} {k : Nat} {pen has : Int} {m : Mark} {l : List Mark} {b : Int} : fitsP s k pen has (m :: l) b = (stepP s k pen has m b).bind (fitsP s k pen has l) := by
  unfold fitsP
  rw [List.foldl_cons]
  show l.foldl _ (stepP s k pen has m b) = _
  cases stepP s k pen has m b with
  | none => exact fitsP_none l
  | some B => rfl
theorem foldQ_P {s : Slot} {n : List Int} {k : Nat} (hf : 1 ≤ feetK s k) : ∀ {l : List Mark} {b : Int}, (∀ m ∈ l, force s.tars m.hour = k) → 0 ≤ b ∧ b ≤ n.getD k 0 → foldQ s n l b = fitsP s k (n.getD k 0) (s.start + worthN s n k) l b
  | [], b, _, _ => rfl
  | m :: l, b, hl, hb => by
    rw [foldQ_cons, fitsP_cons, stepQ_P (hl m List.mem_cons_self) hf hb]
    cases hs : stepP s k (n.getD k 0) (s.start + worthN s n k) m b with
    | none => rfl
    | some B =>
      have := stepP_bd hf hb hs
      exact foldQ_P hf (fun x hx => hl x (List.mem_cons_of_mem _ hx)) ⟨by omega, this.2⟩
theorem feetK_1 {s : Slot} (hg : GoodSlot s) {k : Nat} (hk : k < s.tars.length) : 1 ≤ feetK s k ∧ feetK s k ≤ 10000 := by
  have h1 : s.tars[k]? = some s.tars[k] := List.getElem?_eq_getElem hk
  have h2 := (tarsOk_at hg.2.2.2.1 h1).2
  have h3 := hg.1.1
  unfold feetK
  rw [List.getD_eq_getElem?_getD, h1]
  simp only [Option.getD_some]
  omega
theorem possB_fits {s : Slot} (h : errS s = 0) {n : List Int} (hn : ∀ k, k < s.tars.length → 0 ≤ n.getD k 0) : possB s n = true ↔ ∀ k, k < s.tars.length → fitsB s k (n.getD k 0) (s.start + worthN s n k) = true := by
  have hg := (errS_0 h).1
  have hp : (dmS s).Pairwise (fun x y => force s.tars x.hour ≤ force s.tars y.hour) := (dm_strict s).imp fun hxy => force_mono (by omega)
  rw [possB_dm h, groups hp (fun m _ => by omega)]
  have key : ∀ k, k < s.tars.length → ((foldQ s n (ofT s k (dmS s)) 0).isSome = true ↔ fitsB s k (n.getD k 0) (s.start + worthN s n k) = true) := fun k hk => by
    unfold fitsB
    rw [foldQ_P (feetK_1 hg hk).1 (fun m hm => by have h9 := of_decide_eq_true (List.mem_filter.1 hm).2; omega) ⟨by omega, hn k hk⟩]
  constructor
  · rintro ⟨_, h2⟩ k hk
    exact (key k hk).1 (h2 k (by omega))
  · intro hall
    refine ⟨by rw [ofT_none fun m _ => by omega]; rfl, fun k hk => ?_⟩
    obtain ⟨K, rfl⟩ : ∃ K : Nat, k = K := ⟨k.toNat, by omega⟩
    by_cases hK : K < s.tars.length
    · exact (key K hK).2 (hall K hK)
    · rw [ofT_none fun m _ => by have := force_lt hg.ne m.hour; omega]; rfl
def allP (s : Slot) : Nat → Nat → Int → Int → List Int → List (List Int)
  | 0, k, left, has, b => if fitsB s k left has then [b ++ [left]] else []
  | d + 1, k, left, has, b => (List.range (left.toNat + 1)).flatMap fun (i : Nat) => if fitsB s k (i : Int) has then allP s d (k + 1) (left - (i : Int)) (has + (i : Int) * feetK s k) (b ++ [(i : Int)]) else []
theorem worthN_app {s : Slot} {b q : List Int} : ∀ k, k ≤ b.length → worthN s (b ++ q) k = worthN s b k
  | 0, _ => rfl
  | k + 1, h => by
    rw [worthN, worthN, worthN_app k (by omega), List.getD_eq_getElem?_getD, List.getElem?_append_left (by omega), ← List.getD_eq_getElem?_getD]
theorem getD_app {b q : List Int} {j : Nat} (h : j < b.length) : (b ++ q).getD j 0 = b.getD j 0 := by
  rw [List.getD_eq_getElem?_getD, List.getElem?_append_left h, ← List.getD_eq_getElem?_getD]
theorem getD_at {b q : List Int} {x : Int} : (b ++ x :: q).getD b.length 0 = x := by
  rw [List.getD_eq_getElem?_getD, List.getElem?_append_right (Nat.le_refl _), Nat.sub_self]; rfl
theorem worthN_step {s : Slot} {b : List Int} {x : Int} : worthN s (b ++ [x]) (b.length + 1) = worthN s b b.length + x * feetK s b.length := by
  rw [worthN, worthN_app _ (Nat.le_refl _), getD_at]; rfl
theorem allP_eq {s : Slot} (h : errS s = 0) : ∀ {d : Nat} {left has : Int} {b : List Int}, b.length + d + 1 = s.tars.length → (∀ x ∈ b, 0 ≤ x) → 0 ≤ left → has = s.start + worthN s b b.length →
    (∀ j, j < b.length → fitsB s j (b.getD j 0) (s.start + worthN s b j) = true) → allP s d b.length left has b = allS s d left b
  | 0, left, has, b, hl, hb, h0, hh, hf => by
    unfold allP allS
    have e : possB s (b ++ [left]) = fitsB s b.length left has := by
      rw [Bool.eq_iff_iff, possB_fits h fun k hk => ?_]
      · constructor
        · intro hall
          have := hall b.length (by omega)
          rw [getD_at, worthN_app _ (Nat.le_refl _), ← hh] at this; exact this
        · intro hfit k hk
          by_cases hkb : k < b.length
          · rw [getD_app hkb, worthN_app _ (by omega)]; exact hf k hkb
          · obtain rfl : k = b.length := by omega
            rw [getD_at, worthN_app _ (Nat.le_refl _), ← hh]; exact hfit
      · by_cases hkb : k < b.length
        · rw [getD_app hkb, List.getD_eq_getElem?_getD, List.getElem?_eq_getElem hkb]; exact hb _ (List.getElem_mem hkb)
        · obtain rfl : k = b.length := by omega
          rw [getD_at]; exact h0
    rw [e]
  | d + 1, left, has, b, hl, hb, h0, hh, hf => by
    unfold allP allS
    have hfl : ∀ {α β : Type} (l : List α) (f g : α → List β), (∀ x ∈ l, f x = g x) → l.flatMap f = l.flatMap g := fun l f g hfg => by
      induction l with
      | nil => rfl
      | cons x l ih => rw [List.flatMap_cons, List.flatMap_cons, hfg x List.mem_cons_self, ih fun y hy => hfg y (List.mem_cons_of_mem _ hy)]
    refine hfl _ _ _ fun i hi => ?_
    rw [List.mem_range] at hi
    have hlen : (b ++ [(i : Int)]).length = b.length + 1 := by simp
    by_cases hfit : fitsB s b.length (i : Int) has = true
    · rw [if_pos hfit]
      have ih := allP_eq h (d := d) (left := left - (i : Int)) (has := has + (i : Int) * feetK s b.length) (b := b ++ [(i : Int)]) (by omega) (fun x hx => by
        rcases List.mem_append.1 hx with hx | hx
        · exact hb x hx
        · rw [List.mem_singleton.1 hx]; omega) (by omega) (by rw [hlen, worthN_step, hh]; omega) (fun j hj => by
        by_cases hjb : j < b.length
        · rw [getD_app hjb, worthN_app _ (by omega)]; exact hf j hjb
        · obtain rfl : j = b.length := by omega
          rw [getD_at, worthN_app _ (Nat.le_refl _), ← hh]; exact hfit)
      rw [hlen] at ih; exact ih
    · rw [if_neg hfit]
      symm
      rw [List.eq_nil_iff_forall_not_mem]
      intro n hn
      obtain ⟨q, e, hql, hqb, _, hp⟩ := allS_mem (by omega) hn
      have hnn : n = b ++ (i : Int) :: q := by rw [e]; simp
      have := (possB_fits h fun k hk => ?_).1 hp b.length (by omega)
      · rw [hnn, getD_at, worthN_app _ (Nat.le_refl _), ← hh] at this; exact hfit this
      · rw [List.getD_eq_getElem?_getD]
        cases hg : n[k]? with
        | none => simp
        | some y =>
          have hy := List.mem_of_getElem? hg
          rw [hnn] at hy
          simp only [Option.getD_some]
          rcases List.mem_append.1 hy with hy | hy
          · exact hb y hy
          · rcases List.mem_cons.1 hy with rfl | hy
            · omega
            · exact (hqb y hy).1
theorem divsP {s : Slot} (h : errS s = 0) : allP s (s.tars.length - 1) 0 s.coins s.start [] = divsS s := by
  have hg := (errS_0 h).1
  have h1 := hg.2.1.1
  have h2 := hg.1.2.2.1
  have := allP_eq h (d := s.tars.length - 1) (left := s.coins) (has := s.start) (b := []) (by simp; omega) (fun x hx => (List.not_mem_nil hx).elim) h2.1 (by simp [worthN]) (fun j hj => by simp at hj)
  exact this
end Go.Proofs.Ytlcdbjgfeoagbaa

/-
  How the program takes the marks in; the account of divisions; the credit.
-/
set_option linter.all false
namespace Go.Proofs.Ytlcdbjgfeoagbaa
open Go Go.H
def usedAt (l : List Mark) (h : Int) : Option Int := (l.find? fun x => decide (x.hour = h)).map Mark.used
theorem usedAt_none {l : List Mark} {h : Int} (H : usedAt l h = none) : ∀ x ∈ l, x.hour ≠ h := fun x hx e => by
  unfold usedAt at H
  rw [Option.map_eq_none_iff, List.find?_eq_none] at H
  exact H x hx (decide_eq_true e)
theorem usedAt_some {l : List Mark} {h u : Int} (H : usedAt l h = some u) : (⟨h, u⟩ : Mark) ∈ l := by
  unfold usedAt at H
  obtain ⟨x, hx, rfl⟩ := Option.map_eq_some_iff.1 H
  have h1 := List.mem_of_find?_eq_some hx
  have h2 := List.find?_some hx
  simp only [decide_eq_true_eq] at h2
  subst h2; exact h1
theorem usedAt_snoc {l : List Mark} {x : Mark} {h : Int} (H : usedAt l x.hour = none) : usedAt (l ++ [x]) h = if h = x.hour then some x.used else usedAt l h := by
  unfold usedAt
  rw [List.find?_append]
  by_cases e : h = x.hour
  · subst e
    unfold usedAt at H
    rw [Option.map_eq_none_iff] at H
    rw [H, if_pos rfl]; simp
  · rw [if_neg e]
    have : List.find? (fun y => decide (y.hour = h)) [x] = none := by
      rw [List.find?_eq_none]; intro y hy; rw [List.mem_singleton.1 hy]; simpa using fun q => e q.symm
    rw [this]; simp
structure Got (l out : List Mark) : Prop where
  mem : ∀ x, x ∈ out ↔ x ∈ l
  one : out.Pairwise fun a b => a.hour ≠ b.hour
theorem Got.nil : Got [] [] := ⟨fun _ => Iff.rfl, List.Pairwise.nil⟩
theorem Got.more {l out : List Mark} {x : Mark} (H : Got l out) (h : usedAt out x.hour = none) : Got (l ++ [x]) (out ++ [x]) :=
  ⟨fun y => by rw [List.mem_append, List.mem_append, H.mem], List.pairwise_append.2 ⟨H.one, List.pairwise_singleton _ _, fun a ha b hb => by rw [List.mem_singleton.1 hb]; exact usedAt_none h a ha⟩⟩
theorem Got.same {l out : List Mark} {x : Mark} (H : Got l out) (h : usedAt out x.hour = some x.used) : Got (l ++ [x]) out :=
  ⟨fun y => by
    have := usedAt_some h
    rw [List.mem_append, H.mem]
    refine ⟨.inl, fun q => q.elim id fun q => ?_⟩
    rw [List.mem_singleton.1 q]; exact (H.mem _).1 this, H.one⟩
theorem Got.twice {l r out : List Mark} {x : Mark} {u : Int} (H : Got l out) (h : usedAt out x.hour = some u) (hne : u ≠ x.used) : twiceB (l ++ x :: r) = true :=
  twice_at (a := ⟨x.hour, u⟩) (b := x) (List.mem_append_left _ ((H.mem _).1 (usedAt_some h))) (List.mem_append_right _ List.mem_cons_self) (decide_eq_true ⟨rfl, hne⟩)
theorem Got.noTwice {l out : List Mark} (H : Got l out) : twiceB l = false := by
  rw [twiceB_eq, List.any_eq_false]
  intro a ha
  rw [Bool.not_eq_true, List.any_eq_false]
  intro b hb hp
  have hp2 := of_decide_eq_true hp
  have ha2 := (H.mem a).2 ha
  have hb2 := (H.mem b).2 hb
  have : a = b := by
    obtain ⟨i, hi, ei⟩ := List.mem_iff_getElem.1 ha2
    obtain ⟨j, hj, ej⟩ := List.mem_iff_getElem.1 hb2
    have := List.pairwise_iff_getElem.1 H.one
    rcases Nat.lt_trichotomy i j with q | q | q
    · exact absurd hp2.1 (by rw [← ei, ← ej]; exact this i j hi hj q)
    · subst q; rw [← ei, ← ej]
    · exact absurd hp2.1.symm (by rw [← ei, ← ej]; exact this j i hj hi q)
  exact hp2.2 (by rw [this])
theorem Got.dm {s : Slot} {out ys : List Mark} (H : Got s.marks out) (hp : ys.Perm out) (hs : ys.Pairwise fun a b => a.hour ≤ b.hour) : ys = dmS s := by
  have ht := noTwice_of H.noTwice
  refine strict_ext ?_ (dm_strict s) fun x => ?_
  · have hn : ys.Pairwise fun a b => a.hour ≠ b.hour := (hp.pairwise_iff (fun {a b} h => fun e => h e.symm)).2 H.one
    exact (hs.and hn).imp fun h => by have := h.1; have := h.2; omega
  · unfold dmS
    rw [hp.mem_iff, H.mem, dd_mem ht.sorted, sortM_mem]
def sortedU (l : List Mark) : Prop := ∀ i a b, l[i]? = some a → l[i + 1]? = some b → a.used ≤ b.used
theorem sortedU_le {l : List Mark} (h : sortedU l) : ∀ {i j : Nat} {a b : Mark}, i ≤ j → l[i]? = some a → l[j]? = some b → a.used ≤ b.used := by
  intro i j a b hij ha hb
  obtain ⟨d, rfl⟩ : ∃ d, j = i + d := ⟨j - i, by omega⟩
  induction d generalizing b with
  | zero => rw [Nat.add_zero, ha] at hb; cases hb; exact Int.le_refl _
  | succ d ih =>
    have hlt := (List.getElem?_eq_some_iff.1 hb).1
    have hc : l[i + d]? = some (l[i + d]'(by omega)) := List.getElem?_eq_getElem (by omega)
    have h1 := ih (by omega) hc
    have h2 := h (i + d) _ b hc hb
    omega
theorem cross_dm {s : Slot} (ht : NoTwice s.marks) : crossB s.marks = false ↔ sortedU (dmS s) := by
  have hm : ∀ x, x ∈ dmS s ↔ x ∈ s.marks := fun x => by unfold dmS; rw [dd_mem ht.sorted, sortM_mem]
  have hst := dm_strict s
  rw [crossB_eq, List.any_eq_false]
  constructor
  · intro h i a b ha hb
    have h1 := h a ((hm a).1 (List.mem_of_getElem? ha))
    rw [Bool.not_eq_true, List.any_eq_false] at h1
    have h2 := h1 b ((hm b).1 (List.mem_of_getElem? hb))
    unfold crP at h2
    rw [decide_eq_true_iff] at h2
    obtain ⟨i1, i2⟩ := List.getElem?_eq_some_iff.1 ha
    obtain ⟨j1, j2⟩ := List.getElem?_eq_some_iff.1 hb
    have h3 := List.pairwise_iff_getElem.1 hst i (i + 1) i1 j1 (by omega)
    rw [i2, j2] at h3
    omega
  · intro h a ha
    rw [Bool.not_eq_true, List.any_eq_false]
    intro b hb hp
    have hp2 := of_decide_eq_true hp
    obtain ⟨i, hi⟩ := List.getElem?_of_mem ((hm a).2 ha)
    obtain ⟨j, hj⟩ := List.getElem?_of_mem ((hm b).2 hb)
    obtain ⟨i1, i2⟩ := List.getElem?_eq_some_iff.1 hi
    obtain ⟨j1, j2⟩ := List.getElem?_eq_some_iff.1 hj
    rcases Nat.lt_trichotomy i j with q | q | q
    · have := sortedU_le h (by omega) hi hj; omega
    · subst q; rw [hi] at hj; cases hj; omega
    · have h3 := List.pairwise_iff_getElem.1 hst j i j1 i1 q
      rw [i2, j2] at h3; omega
theorem errS_dm {s : Slot} (hg : GoodSlot s) {out : List Mark} (H : Got s.marks out) : (sortedU (dmS s) → errS s = 0) ∧ (¬ sortedU (dmS s) → errS s = 7) := by
  have ht := H.noTwice
  have hc := cross_dm (noTwice_of ht)
  rw [errS_n hg ht]
  constructor
  · intro h; rw [hc.2 h]; rfl
  · intro h
    cases hx : crossB s.marks with
    | false => exact absurd (hc.1 hx) h
    | true => rfl
theorem spanL_snoc {l : List Int} {x : Int} (h : l ≠ []) : spanL (l ++ [x]) = ⟨min (spanL l).lo x, max (spanL l).hi x⟩ := by
  obtain ⟨y, q, rfl⟩ := List.exists_cons_of_ne_nil h
  unfold spanL
  rw [List.foldl_append]; rfl
def accC (L : List (List Int)) (k : Nat) : Span := spanL (L.map fun n => n.getD k 0)
def accB (s : Slot) (L : List (List Int)) : Span := spanL (L.map fun n => worthN s n n.length)
def eAcc (s : Slot) (L : List (List Int)) : List Value := .bool (!L.isEmpty) :: ((List.range 5).flatMap (fun k => eSpan (accC L k)) ++ eSpan (accB s L))
theorem accC_snoc {L : List (List Int)} {n : List Int} (k : Nat) (h : L ≠ []) : accC (L ++ [n]) k = ⟨min (accC L k).lo (n.getD k 0), max (accC L k).hi (n.getD k 0)⟩ := by
  unfold accC
  rw [List.map_append]; exact spanL_snoc fun q => h (List.map_eq_nil_iff.1 q)
theorem accB_snoc {s : Slot} {L : List (List Int)} {n : List Int} (h : L ≠ []) : accB s (L ++ [n]) = ⟨min (accB s L).lo (worthN s n n.length), max (accB s L).hi (worthN s n n.length)⟩ := by
  unfold accB
  rw [List.map_append]; exact spanL_snoc fun q => h (List.map_eq_nil_iff.1 q)
theorem lastM_dm (s : Slot) : lastM s = match (dmS s).getLast? with
    | none => (0, false)
    | some m => (m.used, decide (m.hour = s.now)) := by unfold lastM dmS; rw [dd_last]; cases (sortM s.marks).getLast? <;> rfl
theorem lastD_0 {s : Slot} (h : (dmS s).length = 0) : lastM s = (0, false) := by rw [lastM_dm, List.length_eq_zero_iff.1 h]; rfl
theorem lastD_p {s : Slot} {m : Mark} (h : (dmS s)[(dmS s).length - 1]? = some m) : lastM s = (m.used, decide (m.hour = s.now)) := by rw [lastM_dm, List.getLast?_eq_getElem?, h]
theorem lastF_bd {hold now : Int} (hn : 0 ≤ now ∧ now ≤ 1048576) : ∀ {last : Int} {l : List Tariff}, (-1 ≤ last ∧ last ≤ 1048576) → tarsOk hold now last l → -1 ≤ lastF last l ∧ lastF last l ≤ 1048576
  | last, [], h, _ => h
  | last, t :: l, h, ht => lastF_bd (last := t.frm) (l := l) hn (by have := ht.1.1; omega) ht.2
end Go.Proofs.Ytlcdbjgfeoagbaa
