/-
  Walks.
-/
import Derived.Test.YtlcdbjgfeoagbaaP28
import Derived.Test.YtlcdbjgfeoagbaaP1
namespace Go.Proofs.Ytlcdbjgfeoagbaa
open Go Go.H
set_option maxRecDepth 100000
set_option maxHeartbeats 8000000
set_option linter.all false
structure L25 where
  i : Nat
  VM : Vec
  VH : Vec
  hs : List Int
  ms : List Mark
  cr : Int
  us : Int
  hr : Int
end Go.Proofs.Ytlcdbjgfeoagbaa

/-
  Walks.
-/
namespace Go.Proofs.Ytlcdbjgfeoagbaa
open Go Go.H
set_option maxRecDepth 100000
set_option maxHeartbeats 8000000
set_option linter.all false
theorem lssF_ {a b : Int} (h : ¬ a < b) : cmpB .lss a b = some false := by simp [cmpB]; omega
theorem gtrF_ {a b : Int} (h : ¬ a > b) : cmpB .gtr a b = some false := by simp [cmpB]; omega
end Go.Proofs.Ytlcdbjgfeoagbaa

/-
  All courses with the pennies at the beginnings of tariffs and at marks: what Play accepts of them reaches both ends.
-/
set_option linter.all false
namespace Go.Proofs.Ytlcdbjgfeoagbaa
open Go Go.H
def leaves (w : List Int) : Nat → Nat → List Int → List (List Int)
  | 0, _, p => [p]
  | d + 1, f, p => (List.range' f (w.length - f)).flatMap fun i => leaves w d i (p ++ [w.getD i 0])
def leavesN (w : List Int) (d f : Nat) (p : List Int) (i : Nat) : List (List Int) := (List.range' f (i - f)).flatMap fun i => leaves w d i (p ++ [w.getD i 0])
theorem leavesN_0 {w : List Int} {d f : Nat} {p : List Int} : leavesN w d f p f = [] := by unfold leavesN; rw [Nat.sub_self]; rfl
theorem leavesN_more {w : List Int} {d f i : Nat} {p : List Int} {x : Int} (h : f ≤ i) (hx : w[i]? = some x) : leavesN w d f p (i + 1) = leavesN w d f p i ++ leaves w d i (p ++ [x]) := by
  unfold leavesN
  rw [show i + 1 - f = (i - f) + 1 by omega, List.range'_1_concat, List.flatMap_append, show f + (i - f) = i by omega, List.flatMap_singleton, List.getD_eq_getElem?_getD, hx]; rfl
theorem leaves_perm (w : List Int) : ∀ (n f : Nat) (q p : List Int), (w.length - f) + q.length ≤ n → (∀ x ∈ q, ∃ i, f ≤ i ∧ w[i]? = some x) → ∃ r, r.Perm q ∧ p ++ r ∈ leaves w q.length f p
  | n, f, [], p, _, _ => ⟨[], List.Perm.refl _, by rw [List.append_nil]; exact List.mem_cons_self⟩
  | 0, f, x :: q, p, hn, _ => absurd hn (by rw [List.length_cons]; omega)
  | n + 1, f, x :: q, p, hn, h => by
    rw [List.length_cons] at hn
    by_cases hw : ∃ y ∈ x :: q, w[f]? = some y
    · obtain ⟨y, hy, hf⟩ := hw
      have hp := List.perm_cons_erase hy
      have hl : ((x :: q).erase y).length = q.length := by rw [List.length_erase_of_mem hy]; simp
      obtain ⟨r, h1, h2⟩ := leaves_perm w n f ((x :: q).erase y) (p ++ [y]) (by rw [hl]; omega) (fun z hz => h z (List.mem_of_mem_erase hz))
      refine ⟨y :: r, (h1.cons y).trans hp.symm, ?_⟩
      rw [hl] at h2
      rw [List.length_cons]
      have hfl := (List.getElem?_eq_some_iff.1 hf).1
      refine List.mem_flatMap.2 ⟨f, List.mem_range'_1.2 ⟨Nat.le_refl _, by omega⟩, ?_⟩
      rw [List.getD_eq_getElem?_getD, hf]
      have e : p ++ y :: r = p ++ [y] ++ r := by simp
      rw [e]; exact h2
    · have h' : ∀ z ∈ x :: q, ∃ i, f + 1 ≤ i ∧ w[i]? = some z := fun z hz => by
        obtain ⟨i, h1, h2⟩ := h z hz
        by_cases e : i = f
        · subst e; exact absurd ⟨z, hz, h2⟩ hw
        · exact ⟨i, by omega, h2⟩
      obtain ⟨i, h1, h2⟩ := h' x List.mem_cons_self
      have hil := (List.getElem?_eq_some_iff.1 h2).1
      obtain ⟨r, h3, h4⟩ := leaves_perm w n (f + 1) (x :: q) p (by rw [List.length_cons]; omega) h'
      refine ⟨r, h3, ?_⟩
      rw [List.length_cons] at h4 ⊢
      obtain ⟨j, h5, h6⟩ := List.mem_flatMap.1 h4
      rw [List.mem_range'_1] at h5
      exact List.mem_flatMap.2 ⟨j, List.mem_range'_1.2 ⟨by omega, by omega⟩, h6⟩
  termination_by n _ _ _ => n
theorem badM_inv {s : Slot} {f : Int → Int} : ∀ {l : List Mark}, badM s f l = none → ∀ m ∈ l, m.used ≤ s.start + f m.hour ∧ s.start + f m.hour ≤ m.used + s.hold
  | [], _, m, hm => absurd hm List.not_mem_nil
  | x :: l, h, m, hm => by
    rw [badM_cons] at h
    split at h
    · exact absurd h (by simp)
    · split at h
      · exact absurd h (by simp)
      · rcases List.mem_cons.1 hm with rfl | q
        · omega
        · exact badM_inv h m q
theorem badM_e {s : Slot} {f : Int → Int} : ∀ {l : List Mark} {z : Int × Int}, badM s f l = some z → z.2 ≠ 0
  | [], z, h => absurd h (by simp [badM])
  | x :: l, z, h => by
    rw [badM_cons] at h
    split at h
    · cases h; exact (by decide : (10 : Int) ≠ 0)
    · split at h
      · cases h; exact (by decide : (9 : Int) ≠ 0)
      · exact badM_e h
theorem play_ok {s : Slot} {t : List Int} {a h e : Int} {x : Span} (he : errS s = 0) (E : playA s t = (a, x, h, e)) (h0 : e = 0) : Course s t ∧ a = byH s t s.now := by
  unfold playA at E
  rw [if_pos he] at E
  split at E
  · rename_i hc
    split at E
    · rename_i z hz
      exact absurd (badM_e hz) (by cases E; simpa using h0)
    · rename_i hz
      cases E
      exact ⟨⟨hc.1, hc.2, fun m hm => badM_inv hz m (sortM_mem.2 hm)⟩, rfl⟩
  · cases E; exact absurd h0 (by decide)
def acc (s : Slot) (t : List Int) : Bool := decide ((playA s t).2.2.2 = 0)
def lowT (s : Slot) (cs : List Span) (T : List (List Int)) (k : Nat) : Bool := T.any fun t => acc s t && decide (cntK s t k = (cs.getD k default).lo)
def highT (s : Slot) (cs : List Span) (T : List (List Int)) (k : Nat) : Bool := T.any fun t => acc s t && decide (cntK s t k = (cs.getD k default).hi)
def leastT (s : Slot) (b : Span) (T : List (List Int)) : Bool := T.any fun t => acc s t && decide (byH s t s.now = b.lo)
def mostT (s : Slot) (b : Span) (T : List (List Int)) : Bool := T.any fun t => acc s t && decide (byH s t s.now = b.hi)
def flagM (f g : Nat → Bool) (n i : Nat) : List Bool := (List.range n).map fun k => if k < i then g k else f k
section
variable {s : Slot} {cs : List Span} {b : Span} {T : List (List Int)} {t : List Int} {k : Nat}
theorem lowT_snoc : lowT s cs (T ++ [t]) k = (lowT s cs T k || (acc s t && decide (cntK s t k = (cs.getD k default).lo))) := by unfold lowT; rw [List.any_append]; simp
theorem highT_snoc : highT s cs (T ++ [t]) k = (highT s cs T k || (acc s t && decide (cntK s t k = (cs.getD k default).hi))) := by unfold highT; rw [List.any_append]; simp
theorem leastT_snoc : leastT s b (T ++ [t]) = (leastT s b T || (acc s t && decide (byH s t s.now = b.lo))) := by unfold leastT; rw [List.any_append]; simp
theorem mostT_snoc : mostT s b (T ++ [t]) = (mostT s b T || (acc s t && decide (byH s t s.now = b.hi))) := by unfold mostT; rw [List.any_append]; simp
theorem no_acc (h : acc s t = false) : lowT s cs (T ++ [t]) = lowT s cs T ∧ highT s cs (T ++ [t]) = highT s cs T ∧ leastT s b (T ++ [t]) = leastT s b T ∧ mostT s b (T ++ [t]) = mostT s b T :=
  ⟨funext fun k => by rw [lowT_snoc, h]; simp, funext fun k => by rw [highT_snoc, h]; simp, by rw [leastT_snoc, h]; simp, by rw [mostT_snoc, h]; simp⟩
theorem flagM_0 {f g : Nat → Bool} {n : Nat} : flagM f g n 0 = (List.range n).map f := by unfold flagM; exact List.map_congr_left fun k _ => if_neg (Nat.not_lt_zero k)
theorem flagM_n {f g : Nat → Bool} {n : Nat} : flagM f g n n = (List.range n).map g := by unfold flagM; exact List.map_congr_left fun k hk => if_pos (List.mem_range.1 hk)
theorem flagM_len {f g : Nat → Bool} {n i : Nat} : (flagM f g n i).length = n := by unfold flagM; rw [List.length_map, List.length_range]
theorem flagM_at {f g : Nat → Bool} {n i : Nat} (h : i < n) : (flagM f g n i)[i]? = some (f i) := by
  unfold flagM; rw [List.getElem?_map, List.getElem?_range h, Option.map_some, if_neg (Nat.lt_irrefl _)]
theorem flagM_set {f g : Nat → Bool} {n i : Nat} (h : i < n) : flagM f g n (i + 1) = (flagM f g n i).set i (g i) := by
  apply List.ext_getElem?
  intro j
  by_cases hj : j < n
  · by_cases e : j = i
    · subst e
      rw [List.getElem?_set_self (by rw [flagM_len]; exact h)]
      unfold flagM; rw [List.getElem?_map, List.getElem?_range h, Option.map_some, if_pos (by omega)]
    · rw [List.getElem?_set_ne (Ne.symm e)]
      unfold flagM
      rw [List.getElem?_map, List.getElem?_map, List.getElem?_range hj, Option.map_some, Option.map_some]
      by_cases q : j < i
      · rw [if_pos q, if_pos (by omega)]
      · rw [if_neg q, if_neg (by omega)]
  · rw [List.getElem?_eq_none (by rw [flagM_len]; omega), List.getElem?_eq_none (by rw [List.length_set, flagM_len]; omega)]
end
theorem cntK_perm {s : Slot} {l q : List Int} (h : l.Perm q) (k : Nat) : cntK s l k = cntK s q k := by unfold cntK; rw [(h.filter _).length_eq]
theorem course_perm {s : Slot} {l q : List Int} (h : l.Perm q) (hc : Course s q) : Course s l :=
  ⟨by rw [h.length_eq]; exact hc.1, fun x hx => hc.2.rng x (h.mem_iff.1 hx), fun m hm => by rw [byH_perm h]; exact hc.2.fit m hm⟩
theorem acc_course {s : Slot} {t : List Int} (he : errS s = 0) (hc : Course s t) : acc s t = true := by
  unfold acc; rw [(course_true he hc).play]; rfl
theorem div_leaf {s : Slot} (he : errS s = 0) {n : List Int} (hn : n ∈ divsS s) : ∃ t ∈ leaves (whenL s) s.coins.toNat 0 [], acc s t = true ∧ (∀ k, cntK s t k = n.getD k 0) ∧ byH s t s.now = worthN s n n.length := by
  have hg := (errS_0 he).1
  obtain ⟨hours, h1, h2, h3, h4⟩ := course_of he hn
  obtain ⟨r, h5, h6⟩ := leaves_perm (whenL s) _ 0 hours [] (Nat.le_refl _) fun x hx => by
    obtain ⟨i, hi⟩ := List.getElem?_of_mem (h4 x hx)
    exact ⟨i, Nat.zero_le _, hi⟩
  refine ⟨r, ?_, acc_course he (course_perm h5 ⟨h1, h2⟩), fun k => ?_, ?_⟩
  · rw [show s.coins.toNat = hours.length by omega]; simpa using h6
  · rw [cntK_perm h5, ← h3, cntV_get hg.ne]
  · rw [byH_perm h5, ← h3, byH_now hg h2.rng, cntV_len]
theorem ends_reached {s : Slot} (hd : errD s = 0) : leastT s (boughtS s) (leaves (whenL s) s.coins.toNat 0 []) = true ∧ mostT s (boughtS s) (leaves (whenL s) s.coins.toNat 0 []) = true ∧
    ∀ k, k < s.tars.length → lowT s (coinsS s) (leaves (whenL s) s.coins.toNat 0 []) k = true ∧ highT s (coinsS s) (leaves (whenL s) s.coins.toNat 0 []) k = true := by
  have he := errD_errS hd
  have hne := errD_ne hd
  obtain ⟨b1, b2⟩ := spanL_mem (l := (divsS s).map fun n => worthN s n n.length) (fun q => hne (List.map_eq_nil_iff.1 q))
  obtain ⟨n1, m1, e1⟩ := List.mem_map.1 b1
  obtain ⟨n2, m2, e2⟩ := List.mem_map.1 b2
  obtain ⟨t1, i1, a1, _, w1⟩ := div_leaf he m1
  obtain ⟨t2, i2, a2, _, w2⟩ := div_leaf he m2
  refine ⟨List.any_eq_true.2 ⟨t1, i1, ?_⟩, List.any_eq_true.2 ⟨t2, i2, ?_⟩, fun k hk => ?_⟩
  · rw [a1, decide_eq_true (show byH s t1 s.now = (boughtS s).lo by rw [w1]; exact e1)]; rfl
  · rw [a2, decide_eq_true (show byH s t2 s.now = (boughtS s).hi by rw [w2]; exact e2)]; rfl
  · obtain ⟨c1, c2⟩ := spanL_mem (l := (divsS s).map fun n => n.getD k 0) (fun q => hne (List.map_eq_nil_iff.1 q))
    obtain ⟨n3, m3, e3⟩ := List.mem_map.1 c1
    obtain ⟨n4, m4, e4⟩ := List.mem_map.1 c2
    obtain ⟨t3, i3, a3, k3, _⟩ := div_leaf he m3
    obtain ⟨t4, i4, a4, k4, _⟩ := div_leaf he m4
    have hgd : (coinsS s).getD k default = spanL ((divsS s).map fun n => n.getD k 0) := by rw [List.getD_eq_getElem?_getD, coinsS_get hk]; rfl
    refine ⟨List.any_eq_true.2 ⟨t3, i3, ?_⟩, List.any_eq_true.2 ⟨t4, i4, ?_⟩⟩
    · rw [a3, decide_eq_true (show cntK s t3 k = ((coinsS s).getD k default).lo by rw [k3, hgd]; exact e3)]; rfl
    · rw [a4, decide_eq_true (show cntK s t4 k = ((coinsS s).getD k default).hi by rw [k4, hgd]; exact e4)]; rfl
end Go.Proofs.Ytlcdbjgfeoagbaa
