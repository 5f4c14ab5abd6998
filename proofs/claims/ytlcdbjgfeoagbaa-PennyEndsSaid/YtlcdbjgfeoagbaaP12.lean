/-
  All divisions that can be, as the document counts them.
-/
import Derived.Test.YtlcdbjgfeoagbaaP8
set_option linter.all false
namespace Go.Proofs.Ytlcdbjgfeoagbaa
open Go Go.H
structure Hd where
  a : Option Addr
  m : List Int
  c : Nat
def eHd (z : Hd) : List Value := [.slice z.a z.m.length z.c]
theorem eHd_len (z : Hd) : (eHd z).length = 1 := rfl
theorem hd_flat (hds : List Hd) (a : Option Addr) (m : List Int) (c : Nat) : (hds ++ [(⟨a, m, c⟩ : Hd)]).flatMap eHd = hds.flatMap eHd ++ [.slice a m.length c] := by simp [eHd]
def allS (s : Slot) : Nat → Int → List Int → List (List Int)
  | 0, left, b => if possB s (b ++ [left]) then [b ++ [left]] else []
  | d + 1, left, b => (List.range (left.toNat + 1)).flatMap fun (i : Nat) => allS s d (left - (i : Int)) (b ++ [(i : Int)])
def allN (s : Slot) (d : Nat) (left : Int) (b : List Int) (k : Nat) : List (List Int) := (List.range k).flatMap fun (i : Nat) => allS s d (left - (i : Int)) (b ++ [(i : Int)])
theorem allN_0 {s : Slot} {d : Nat} {left : Int} {b : List Int} : allN s d left b 0 = [] := rfl
theorem allN_more {s : Slot} {d : Nat} {left : Int} {b : List Int} {k : Nat} : allN s d left b (k + 1) = allN s d left b k ++ allS s d (left - (k : Int)) (b ++ [(k : Int)]) := by
  unfold allN; rw [List.range_succ, List.flatMap_append]; simp
theorem allS_s {s : Slot} {d : Nat} {left : Int} {b : List Int} {k : Nat} (h0 : 0 ≤ left) (h : left + 1 = (k : Int)) : allS s (d + 1) left b = allN s d left b k := by
  unfold allN
  rw [allS, show left.toNat + 1 = k by omega]
theorem allS_0 {s : Slot} {left : Int} {b : List Int} (h : possB s (b ++ [left]) = true) : allS s 0 left b = [b ++ [left]] := by unfold allS; rw [if_pos h]
theorem allS_n {s : Slot} {left : Int} {b : List Int} (h : possB s (b ++ [left]) = false) : allS s 0 left b = [] := by unfold allS; rw [h]; rfl
theorem flatMap_len {α β : Type} {f : α → List β} {c : Nat} : ∀ {l : List α}, (∀ x ∈ l, (f x).length ≤ c) → (l.flatMap f).length ≤ l.length * c
  | [], _ => by simp
  | x :: l, h => by
    rw [List.flatMap_cons, List.length_append, List.length_cons, Nat.add_mul, Nat.one_mul]
    have := h x List.mem_cons_self
    have := flatMap_len (l := l) fun y hy => h y (List.mem_cons_of_mem _ hy)
    omega
theorem allS_len {s : Slot} : ∀ {d : Nat} {left : Int} {b : List Int}, left ≤ 24 → (allS s d left b).length ≤ 25 ^ d
  | 0, left, b, _ => by unfold allS; split <;> simp
  | d + 1, left, b, h => by
    unfold allS
    refine Nat.le_trans (flatMap_len (c := 25 ^ d) fun i hi => allS_len (by omega)) ?_
    rw [List.length_range, Nat.pow_succ, Nat.mul_comm]
    exact Nat.mul_le_mul_left _ (by omega)
theorem allN_len {s : Slot} {d : Nat} {left : Int} {b : List Int} {k : Nat} (h : left ≤ 24) : (allN s d left b k).length ≤ k * 25 ^ d := by
  unfold allN
  refine Nat.le_trans (flatMap_len (c := 25 ^ d) fun i hi => allS_len (by omega)) ?_
  rw [List.length_range]; exact Nat.le_refl _
theorem allN_room {s : Slot} {d : Nat} {left : Int} {b : List Int} {k n : Nat} (h : left ≤ 24) (hk : k ≤ 24) (hn : n + 25 ^ (d + 1) ≤ 10000000000) : n + (allN s d left b k).length + 25 ^ d ≤ 10000000000 := by
  have h1 := allN_len (s := s) (d := d) (b := b) (k := k) h
  have h2 : k * 25 ^ d ≤ 24 * 25 ^ d := Nat.mul_le_mul_right _ hk
  rw [Nat.pow_succ] at hn
  omega
theorem allS_mem {s : Slot} : ∀ {d : Nat} {left : Int} {b n : List Int}, 0 ≤ left → n ∈ allS s d left b → ∃ q, n = b ++ q ∧ q.length = d + 1 ∧ (∀ x ∈ q, 0 ≤ x ∧ x ≤ left) ∧ q.sum = left ∧ possB s n = true
  | 0, left, b, n, h0, h => by
    unfold allS at h
    split at h
    · rename_i hp
      obtain rfl := List.mem_singleton.1 h
      exact ⟨[left], rfl, rfl, fun x hx => by obtain rfl := List.mem_singleton.1 hx; omega, by simp, hp⟩
    · exact (List.not_mem_nil h).elim
  | d + 1, left, b, n, h0, h => by
    unfold allS at h
    obtain ⟨i, hi, h⟩ := List.mem_flatMap.1 h
    rw [List.mem_range] at hi
    obtain ⟨q, e, hl, hb, hs, hp⟩ := allS_mem (by omega) h
    refine ⟨(i : Int) :: q, by rw [e]; simp, by simp [hl], fun x hx => ?_, by rw [List.sum_cons, hs]; omega, hp⟩
    rcases List.mem_cons.1 hx with rfl | hx
    · omega
    · have := hb x hx; omega
theorem allS_in {s : Slot} : ∀ {d : Nat} {left : Int} {b q : List Int}, q.length = d + 1 → (∀ x ∈ q, 0 ≤ x) → q.sum = left → possB s (b ++ q) = true → b ++ q ∈ allS s d left b
  | 0, left, b, q, hl, _, hs, hp => by
    obtain ⟨x, rfl⟩ := List.length_eq_one_iff.1 hl
    obtain rfl : x = left := by simpa using hs
    rw [allS_0 hp]; exact List.mem_singleton.2 rfl
  | d + 1, left, b, [], hl, _, _, _ => by simp at hl
  | d + 1, left, b, x :: q, hl, h0, hs, hp => by
    have hx := h0 x List.mem_cons_self
    have hq : 0 ≤ q.sum := by
      have : ∀ l : List Int, (∀ y ∈ l, 0 ≤ y) → 0 ≤ l.sum := fun l => by
        induction l with
        | nil => intro _; simp
        | cons y l ih => intro h; rw [List.sum_cons]; have := ih fun z hz => h z (List.mem_cons_of_mem _ hz); have := h y List.mem_cons_self; omega
      exact this q fun y hy => h0 y (List.mem_cons_of_mem _ hy)
    rw [List.sum_cons] at hs
    unfold allS
    refine List.mem_flatMap.2 ⟨x.toNat, List.mem_range.2 (by omega), ?_⟩
    have e : ((x.toNat : Nat) : Int) = x := by omega
    rw [e]
    have := allS_in (s := s) (d := d) (left := left - x) (b := b ++ [x]) (q := q) (by simpa using hl) (fun y hy => h0 y (List.mem_cons_of_mem _ hy)) (by omega) (by simpa using hp)
    simpa using this
def divsS (s : Slot) : List (List Int) := allS s (s.tars.length - 1) s.coins []
def errD (s : Slot) : Int := if errS s = 0 then (if divsS s = [] then 6 else 0) else errS s
theorem divs_mem {s : Slot} (hg : GoodSlot s) {n : List Int} (h : n ∈ divsS s) : n.length = s.tars.length ∧ ∀ x ∈ n, 0 ≤ x ∧ x ≤ 24 := by
  have h1 := hg.2.1.1
  have h2 := hg.1.2.2.1
  obtain ⟨q, e, hl, hb, _⟩ := allS_mem h2.1 h
  rw [List.nil_append] at e
  subst e
  exact ⟨by omega, fun x hx => by have := hb x hx; omega⟩
theorem divs_len {s : Slot} (hg : GoodSlot s) : (divsS s).length ≤ 390625 := by
  have h1 := hg.2.1.1
  have h2 := hg.1.2.2.1
  refine Nat.le_trans (allS_len h2.2) ?_
  have : 25 ^ (s.tars.length - 1) ≤ 25 ^ 4 := Nat.pow_le_pow_right (by decide) (by omega)
  omega
def spanL (l : List Int) : Span := l.foldl (fun x n => ⟨min x.lo n, max x.hi n⟩) ⟨l.headD 0, l.headD 0⟩
def spanN (l : List Int) (k : Nat) : Span := (l.take k).foldl (fun x n => ⟨min x.lo n, max x.hi n⟩) ⟨l.headD 0, l.headD 0⟩
theorem spanN_0 {l : List Int} : spanN l 0 = ⟨l.headD 0, l.headD 0⟩ := rfl
theorem spanN_more {l : List Int} {k : Nat} {x : Int} (h : l[k]? = some x) : spanN l (k + 1) = ⟨min (spanN l k).lo x, max (spanN l k).hi x⟩ := by
  unfold spanN; rw [List.take_add_one, h, List.foldl_append]; rfl
theorem spanN_all {l : List Int} {k : Nat} (h : l.length = k) : spanN l k = spanL l := by
  subst h; unfold spanN; rw [List.take_length]; rfl
def coinsS (s : Slot) : List Span := (List.range s.tars.length).map fun k => spanL ((divsS s).map fun n => n.getD k 0)
def boughtS (s : Slot) : Span := spanL ((divsS s).map fun n => worthN s n n.length)
def leftS (s : Slot) : Span := ⟨(creditA s (boughtS s).lo).lo, (creditA s (boughtS s).hi).hi⟩
theorem spanL_in {P : Int → Prop} {l : List Int} (h0 : l ≠ []) (h : ∀ x ∈ l, P x) : P (spanL l).lo ∧ P (spanL l).hi := by
  have key : ∀ (q : List Int) (x : Span), P x.lo → P x.hi → (∀ y ∈ q, P y) → P (q.foldl (fun x n => (⟨min x.lo n, max x.hi n⟩ : Span)) x).lo ∧ P (q.foldl (fun x n => (⟨min x.lo n, max x.hi n⟩ : Span)) x).hi := by
    intro q
    induction q with
    | nil => intro x a b _; exact ⟨a, b⟩
    | cons y q ih =>
      intro x a b c
      have hy := c y List.mem_cons_self
      refine ih _ ?_ ?_ fun z hz => c z (List.mem_cons_of_mem _ hz)
      · show P (min x.lo y); rcases Int.le_total x.lo y with q | q
        · rw [Int.min_eq_left q]; exact a
        · rw [Int.min_eq_right q]; exact hy
      · show P (max x.hi y); rcases Int.le_total x.hi y with q | q
        · rw [Int.max_eq_right q]; exact hy
        · rw [Int.max_eq_left q]; exact b
  obtain ⟨y, q, rfl⟩ := List.exists_cons_of_ne_nil h0
  exact key _ _ (h y List.mem_cons_self) (h y List.mem_cons_self) h
theorem bought_bd {s : Slot} (hg : GoodSlot s) (h : errD s = 0) : (0 ≤ (boughtS s).lo ∧ (boughtS s).lo ≤ 1000000000000) ∧ (0 ≤ (boughtS s).hi ∧ (boughtS s).hi ≤ 1000000000000) := by
  have hd : divsS s ≠ [] := fun q => by
    unfold errD at h
    by_cases h0 : errS s = 0
    · rw [if_pos h0, if_pos q] at h; exact absurd h (by decide)
    · rw [if_neg h0] at h; exact h0 h
  refine spanL_in (P := fun x => 0 ≤ x ∧ x ≤ 1000000000000) (fun q => hd (List.map_eq_nil_iff.1 q)) fun x hx => ?_
  obtain ⟨n, hn, rfl⟩ := List.mem_map.1 hx
  obtain ⟨hl, hb⟩ := divs_mem hg hn
  have h1 := worthN_bd hg.feet hb (by omega) n.length (by omega)
  have h2 := hg.2.1.1
  omega
theorem perm_all {α : Type _} {X V P K : List α} {x : α} : List.Perm (V ++ (P ++ (X ++ x :: K))) (X ++ x :: (V ++ (P ++ K))) := by
  have : List.Perm ((V ++ P) ++ ((X ++ [x]) ++ K)) ((X ++ [x]) ++ ((V ++ P) ++ K)) := by
    rw [← List.append_assoc, ← List.append_assoc (X ++ [x])]; exact List.perm_append_comm.append_right K
  simpa using this
theorem perm_in {α : Type _} {V P K : List α} {x : α} : List.Perm (V ++ (P ++ x :: K)) (x :: (V ++ (P ++ K))) := by
  have := List.perm_middle (a := x) (l₁ := V ++ P) (l₂ := K)
  simpa using this
end Go.Proofs.Ytlcdbjgfeoagbaa

/-
  Marks that are there twice make no difference; marks of each tariff by themselves.
-/
set_option linter.all false
namespace Go.Proofs.Ytlcdbjgfeoagbaa
open Go Go.H
def ddc (x : Mark) : List Mark → List Mark
  | [] => [x]
  | y :: r => if y.hour = x.hour then y :: r else x :: y :: r
def dd : List Mark → List Mark
  | [] => []
  | x :: l => ddc x (dd l)
theorem dd_cons {x : Mark} {l : List Mark} : dd (x :: l) = ddc x (dd l) := rfl
def dmS (s : Slot) : List Mark := dd (sortM s.marks)
def NoTwice (l : List Mark) : Prop := ∀ a ∈ l, ∀ b ∈ l, a.hour = b.hour → a = b
theorem NoTwice.tail {x : Mark} {l : List Mark} (h : NoTwice (x :: l)) : NoTwice l := fun a ha b hb => h a (List.mem_cons_of_mem _ ha) b (List.mem_cons_of_mem _ hb)
theorem dd_sub : ∀ {l : List Mark} {x : Mark}, x ∈ dd l → x ∈ l
  | [], x, h => h
  | y :: l, x, h => by
    rw [dd_cons] at h; unfold ddc at h
    cases hd : dd l with
    | nil => rw [hd] at h; exact List.mem_cons.2 (.inl (List.mem_singleton.1 h))
    | cons z r =>
      rw [hd] at h
      dsimp only at h
      split at h
      · exact List.mem_cons_of_mem _ (dd_sub (by rw [hd]; exact h))
      · rcases List.mem_cons.1 h with rfl | h
        · exact List.mem_cons_self
        · exact List.mem_cons_of_mem _ (dd_sub (by rw [hd]; exact h))
theorem dd_mem : ∀ {l : List Mark} {x : Mark}, NoTwice l → (x ∈ dd l ↔ x ∈ l)
  | [], x, _ => Iff.rfl
  | y :: l, x, ht => by
    refine ⟨dd_sub, fun h => ?_⟩
    have ih := fun z => dd_mem (l := l) (x := z) ht.tail
    rw [dd_cons]; unfold ddc
    cases hd : dd l with
    | nil =>
      rcases List.mem_cons.1 h with rfl | h
      · exact List.mem_singleton.2 rfl
      · rw [← ih, hd] at h; exact (List.not_mem_nil h).elim
    | cons z r =>
      dsimp only
      split
      · rename_i he
        have hz : z ∈ l := (ih z).1 (by rw [hd]; exact List.mem_cons_self)
        have : z = y := ht z (List.mem_cons_of_mem _ hz) y List.mem_cons_self he
        rcases List.mem_cons.1 h with rfl | h
        · rw [this]; exact List.mem_cons_self
        · rw [← hd]; exact (ih x).2 h
      · rcases List.mem_cons.1 h with rfl | h
        · exact List.mem_cons_self
        · rw [← hd]; exact List.mem_cons_of_mem _ ((ih x).2 h)
def strictM (l : List Mark) : Prop := l.Pairwise fun a b => a.hour < b.hour
theorem dd_strict : ∀ {l : List Mark}, srtd l → strictM (dd l)
  | [], _ => List.Pairwise.nil
  | y :: l, h => by
    have ih := dd_strict h.2
    rw [dd_cons]; unfold ddc
    cases hd : dd l with
    | nil => exact List.pairwise_singleton _ _
    | cons z r =>
      rw [hd] at ih
      dsimp only
      split
      · exact ih
      · rename_i he
        have hz := h.1 z (dd_sub (by rw [hd]; exact List.mem_cons_self))
        refine List.pairwise_cons.2 ⟨fun w hw => ?_, ih⟩
        rcases List.mem_cons.1 hw with rfl | hw
        · omega
        · have := (List.pairwise_cons.1 ih).1 w hw; omega
theorem dd_fold {β : Type} {f : β → Mark → β} (hf : ∀ b x, f (f b x) x = f b x) : ∀ {l : List Mark} {b : β}, NoTwice l → l.foldl f b = (dd l).foldl f b
  | [], b, _ => rfl
  | x :: l, b, ht => by
    rw [List.foldl_cons, dd_fold hf ht.tail]
    rw [dd_cons]; unfold ddc
    cases hd : dd l with
    | nil => rfl
    | cons z r =>
      dsimp only
      split
      · rename_i he
        have hz : z ∈ l := dd_sub (by rw [hd]; exact List.mem_cons_self)
        have e : z = x := ht z (List.mem_cons_of_mem _ hz) x List.mem_cons_self he
        subst e
        rw [List.foldl_cons, List.foldl_cons, hf]
      · rfl
theorem dd_last : ∀ {l : List Mark}, (dd l).getLast? = l.getLast?
  | [] => rfl
  | x :: l => by
    have ih := dd_last (l := l)
    rw [dd_cons]; unfold ddc
    cases hd : dd l with
    | nil =>
      rw [hd] at ih
      have : l = [] := by rw [List.getLast?_nil] at ih; exact List.getLast?_eq_none_iff.1 ih.symm
      subst this; rfl
    | cons z r =>
      rw [hd] at ih
      have hl : l ≠ [] := fun e => by subst e; rw [List.getLast?_nil] at ih; rw [List.getLast?_eq_none_iff] at ih; cases ih
      obtain ⟨w, q, rfl⟩ := List.exists_cons_of_ne_nil hl
      dsimp only
      split
      · rw [List.getLast?_cons_cons]; exact ih
      · rw [List.getLast?_cons_cons, List.getLast?_cons_cons]; exact ih
theorem badM_dd {s : Slot} {f : Int → Int} : ∀ {l : List Mark}, NoTwice l → badM s f (dd l) = badM s f l
  | [], _ => rfl
  | x :: l, ht => by
    have ih := badM_dd (s := s) (f := f) ht.tail
    rw [badM_cons, ← ih]
    rw [dd_cons]; unfold ddc
    cases hd : dd l with
    | nil => rw [badM_cons]
    | cons z r =>
      dsimp only
      split
      · rename_i he
        have hz : z ∈ l := dd_sub (by rw [hd]; exact List.mem_cons_self)
        have e : z = x := ht z (List.mem_cons_of_mem _ hz) x List.mem_cons_self he
        subst e
        rw [badM_cons]
        split
        · rfl
        · split <;> rfl
      · rw [badM_cons]
theorem strict_ext : ∀ {l q : List Mark}, strictM l → strictM q → (∀ x, x ∈ l ↔ x ∈ q) → l = q
  | [], [], _, _, _ => rfl
  | [], y :: q, _, _, h => ((h y).2 List.mem_cons_self |> List.not_mem_nil).elim
  | x :: l, [], _, _, h => ((h x).1 List.mem_cons_self |> List.not_mem_nil).elim
  | x :: l, y :: q, hl, hq, h => by
    obtain ⟨l1, l2⟩ := List.pairwise_cons.1 hl
    obtain ⟨q1, q2⟩ := List.pairwise_cons.1 hq
    have e : x = y := by
      rcases List.mem_cons.1 ((h x).1 List.mem_cons_self) with e | hx
      · exact e
      · rcases List.mem_cons.1 ((h y).2 List.mem_cons_self) with e | hy
        · exact e.symm
        · have := q1 x hx; have := l1 y hy; omega
    subst e
    rw [strict_ext l2 q2 fun z => ?_]
    constructor
    · intro hz
      rcases List.mem_cons.1 ((h z).1 (List.mem_cons_of_mem _ hz)) with rfl | hz2
      · exact absurd (l1 z hz) (by omega)
      · exact hz2
    · intro hz
      rcases List.mem_cons.1 ((h z).2 (List.mem_cons_of_mem _ hz)) with rfl | hz2
      · exact absurd (q1 z hz) (by omega)
      · exact hz2
theorem noTwice_of {l : List Mark} (h : twiceB l = false) : NoTwice l := fun a ha b hb he => by
  rw [twiceB_eq, List.any_eq_false] at h
  have h1 := h a ha
  rw [Bool.not_eq_true, List.any_eq_false] at h1
  have h2 := h1 b hb
  unfold twP at h2
  rw [decide_eq_true_iff] at h2
  have : a.used = b.used := Decidable.byContradiction fun q => h2 ⟨he, q⟩
  cases a; cases b; simp_all
theorem NoTwice.sorted {l : List Mark} (h : NoTwice l) : NoTwice (sortM l) := fun a ha b hb => h a (sortM_mem.1 ha) b (sortM_mem.1 hb)
theorem errS_0 {s : Slot} (h : errS s = 0) : GoodSlot s ∧ twiceB s.marks = false ∧ crossB s.marks = false := by
  have hg := good_of h
  refine ⟨hg, ?_⟩
  cases ht : twiceB s.marks with
  | true => rw [errS_5 hg ht] at h; exact absurd h (by decide)
  | false =>
    rw [errS_n hg ht] at h
    cases hc : crossB s.marks with
    | true => rw [hc] at h; exact absurd h (by decide)
    | false => exact ⟨rfl, rfl⟩
theorem errS_nt {s : Slot} (h : errS s = 0) : NoTwice s.marks := noTwice_of (errS_0 h).2.1
theorem dm_mem {s : Slot} (h : errS s = 0) {x : Mark} : x ∈ dmS s ↔ x ∈ s.marks := by
  unfold dmS; rw [dd_mem (errS_nt h).sorted]; exact sortM_mem
theorem dm_strict (s : Slot) : strictM (dmS s) := dd_strict (sortM_srtd _)
def qB (s : Slot) (n : List Int) (m : Mark) (b : Int) : Int := if m.hour = endT s (force s.tars m.hour) then nAt s n m.hour else grow (smAt s n m.hour) (feetAt s m.hour) m.used (nAt s n m.hour) b
def stepQ (s : Slot) (n : List Int) (m : Mark) (b : Int) : Option Int := if fitM s n m (qB s n m b) then some (qB s n m b) else none
def foldQ (s : Slot) (n : List Int) (l : List Mark) (b : Int) : Option Int := l.foldl (fun z m => z.bind (stepQ s n m)) (some b)
def stepZ (s : Slot) (n : List Int) (z : Option (Int × Int)) (m : Mark) : Option (Int × Int) := match z with
  | none => none
  | some (a, b) => (stepQ s n m (if (force s.tars m.hour : Int) = a then b else 0)).map fun B => ((force s.tars m.hour : Int), B)
theorem possM_Z (s : Slot) (n : List Int) (l : List Mark) : possM s n l = l.foldl (stepZ s n) (some (-1, 0)) := by
  unfold possM
  refine congrArg (fun f => l.foldl f (some (-1, 0))) (funext fun z => funext fun m => ?_)
  cases z with
  | none => rfl
  | some p =>
    obtain ⟨a, b⟩ := p
    show (if fitM s n m (stepB s n m a b) then some ((force s.tars m.hour : Int), stepB s n m a b) else none) = (stepQ s n m (if (force s.tars m.hour : Int) = a then b else 0)).map fun B => ((force s.tars m.hour : Int), B)
    have e : stepB s n m a b = qB s n m (if (force s.tars m.hour : Int) = a then b else 0) := rfl
    rw [e]
    generalize (if (force s.tars m.hour : Int) = a then b else 0) = c
    unfold stepQ
    split <;> rfl
theorem grow_again {sm f used nk b : Int} : grow sm f used nk (grow sm f used nk b) = grow sm f used nk b := by
  refine grow_stop fun ⟨h1, h2⟩ => ?_
  have key : ∀ (q : Nat) (b : Int), (nk - b).toNat = q → ¬ (grow sm f used nk b < nk ∧ sm + grow sm f used nk b * f < used) := by
    intro q
    induction q with
    | zero =>
      intro b hb
      rw [grow_stop (by omega)]; omega
    | succ q ih =>
      intro b hb
      by_cases hc : b < nk ∧ sm + b * f < used
      · rw [grow_step hc.1 hc.2]; exact ih (b + 1) (by omega)
      · rw [grow_stop hc]; exact hc
  exact key _ b rfl ⟨h1, h2⟩
theorem qB_again {s : Slot} {n : List Int} {m : Mark} {b : Int} : qB s n m (qB s n m b) = qB s n m b := by
  by_cases h : m.hour = endT s (force s.tars m.hour)
  · unfold qB; rw [if_pos h, if_pos h]
  · unfold qB; rw [if_neg h, if_neg h]; exact grow_again
theorem stepQ_again {s : Slot} {n : List Int} {m : Mark} {b B : Int} (h : stepQ s n m b = some B) : stepQ s n m B = some B := by
  unfold stepQ at h
  by_cases hf : fitM s n m (qB s n m b)
  · rw [if_pos hf] at h
    have e := Option.some.inj h
    unfold stepQ
    rw [← e, qB_again, if_pos hf]
  · rw [if_neg hf] at h; cases h
theorem stepZ_again {s : Slot} {n : List Int} (z : Option (Int × Int)) (m : Mark) : stepZ s n (stepZ s n z m) m = stepZ s n z m := by
  cases z with
  | none => rfl
  | some p =>
    obtain ⟨a, b⟩ := p
    cases h : stepQ s n m (if (force s.tars m.hour : Int) = a then b else 0) with
    | none =>
      have e : stepZ s n (some (a, b)) m = none := by unfold stepZ; dsimp only; rw [h]; rfl
      rw [e]; rfl
    | some B =>
      have e : stepZ s n (some (a, b)) m = some ((force s.tars m.hour : Int), B) := by unfold stepZ; dsimp only; rw [h]; rfl
      rw [e]
      unfold stepZ
      dsimp only
      rw [if_pos rfl, stepQ_again h]; rfl
theorem possB_dm {s : Slot} (h : errS s = 0) (n : List Int) : possB s n = ((dmS s).foldl (stepZ s n) (some (-1, 0))).isSome := by
  unfold possB dmS
  rw [possM_Z, dd_fold stepZ_again (errS_nt h).sorted]
theorem foldQ_none {s : Slot} {n : List Int} : ∀ (l : List Mark), l.foldl (fun (z : Option Int) m => z.bind (stepQ s n m)) none = none
  | [] => rfl
  | x :: l => foldQ_none l
theorem foldZ_none {s : Slot} {n : List Int} : ∀ (l : List Mark), l.foldl (stepZ s n) none = none
  | [] => rfl
  | x :: l => foldZ_none l
def ofT (s : Slot) (k : Int) (l : List Mark) : List Mark := l.filter fun m => (force s.tars m.hour : Int) = k
theorem ofT_none {s : Slot} {k : Int} {l : List Mark} (h : ∀ m ∈ l, (force s.tars m.hour : Int) ≠ k) : ofT s k l = [] := List.filter_eq_nil_iff.2 fun m hm => by simpa using h m hm
theorem foldQ_cons {s : Slot} {n : List Int} {m : Mark} {l : List Mark} {b : Int} : foldQ s n (m :: l) b = (stepQ s n m b).bind (foldQ s n l) := by
  unfold foldQ
  rw [List.foldl_cons]
  show l.foldl _ (stepQ s n m b) = _
  cases stepQ s n m b with
  | none => exact foldQ_none l
  | some B => rfl
theorem foldZ_cons {s : Slot} {n : List Int} {m : Mark} {l : List Mark} {a b : Int} : ((m :: l).foldl (stepZ s n) (some (a, b))) = (stepQ s n m (if (force s.tars m.hour : Int) = a then b else 0)).bind fun B => l.foldl (stepZ s n) (some ((force s.tars m.hour : Int), B)) := by
  rw [List.foldl_cons]
  show l.foldl (stepZ s n) ((stepQ s n m _).map _) = _
  cases stepQ s n m _ with
  | none => exact foldZ_none l
  | some B => rfl
theorem groups {s : Slot} {n : List Int} : ∀ {l : List Mark} {a b : Int}, l.Pairwise (fun x y => force s.tars x.hour ≤ force s.tars y.hour) → (∀ m ∈ l, a ≤ (force s.tars m.hour : Int)) →
    ((l.foldl (stepZ s n) (some (a, b))).isSome = true ↔ (foldQ s n (ofT s a l) b).isSome = true ∧ ∀ k : Int, a < k → (foldQ s n (ofT s k l) 0).isSome = true)
  | [], a, b, _, _ => ⟨fun _ => ⟨rfl, fun _ _ => rfl⟩, fun _ => rfl⟩
  | m :: l, a, b, hp, ha => by
    obtain ⟨p1, p2⟩ := List.pairwise_cons.1 hp
    have hma := ha m List.mem_cons_self
    obtain ⟨K, hK⟩ : ∃ K : Int, (force s.tars m.hour : Int) = K := ⟨_, rfl⟩
    rw [hK] at hma
    have hl : ∀ x ∈ l, K ≤ (force s.tars x.hour : Int) := fun x hx => by have := p1 x hx; omega
    rw [foldZ_cons, hK]
    have hKc : ofT s K (m :: l) = m :: ofT s K l := by unfold ofT; rw [List.filter_cons_of_pos (by simpa using hK)]
    have hoc : ∀ k : Int, k ≠ K → ofT s k (m :: l) = ofT s k l := fun k hk => by unfold ofT; rw [List.filter_cons_of_neg (by simpa [hK] using fun e => hk e.symm)]
    by_cases e : K = a
    · subst e
      rw [if_pos rfl, hKc, foldQ_cons]
      cases hs : stepQ s n m b with
      | none => simp
      | some B =>
        rw [Option.bind_some, Option.bind_some, groups p2 hl]
        constructor
        · rintro ⟨h1, h2⟩; exact ⟨h1, fun k hk => by rw [hoc k (by omega)]; exact h2 k hk⟩
        · rintro ⟨h1, h2⟩; exact ⟨h1, fun k hk => by rw [← hoc k (by omega)]; exact h2 k hk⟩
    · rw [if_neg e]
      have hno : ofT s a (m :: l) = [] := ofT_none fun x hx => by
        rcases List.mem_cons.1 hx with rfl | hx
        · omega
        · have := hl x hx; omega
      rw [hno]
      cases hs : stepQ s n m 0 with
      | none =>
        constructor
        · intro h; exact absurd h (by simp)
        · rintro ⟨_, h2⟩
          have := h2 K (by omega)
          rw [hKc, foldQ_cons, hs] at this
          exact absurd this (by simp)
      | some B =>
        rw [Option.bind_some, groups p2 hl]
        constructor
        · rintro ⟨h1, h2⟩
          refine ⟨rfl, fun k hk => ?_⟩
          by_cases ek : k = K
          · subst ek; rw [hKc, foldQ_cons, hs]; exact h1
          · rw [hoc k ek]
            by_cases hkK : K < k
            · exact h2 k hkK
            · rw [ofT_none fun x hx => by have := hl x hx; omega]; rfl
        · rintro ⟨_, h2⟩
          have hk := h2 K (by omega)
          rw [hKc, foldQ_cons, hs] at hk
          exact ⟨hk, fun k hk => by rw [← hoc k (by omega)]; exact h2 k (by omega)⟩
end Go.Proofs.Ytlcdbjgfeoagbaa

/-
  What the program asks of the pennies of one tariff, and which divisions it finds.
-/
set_option linter.all false
namespace Go.Proofs.Ytlcdbjgfeoagbaa
open Go Go.H
theorem forceN_mono {l : List Tariff} {h h' : Int} (hh : h ≤ h') : ∀ k, forceN l h k ≤ forceN l h' k
  | 0 => Nat.le_refl _
  | i + 1 => by
    have ih := forceN_mono (l := l) hh i
    have hle := forceN_le l h i
    unfold forceN
    cases hg : l[i]? with
    | none => exact ih
    | some t =>
      dsimp only
      by_cases h1 : t.frm ≤ h
      · rw [if_pos h1, if_pos (by omega)]; exact Nat.le_refl _
      · rw [if_neg h1]
        by_cases h2 : t.frm ≤ h'
        · rw [if_pos h2]; omega
        · rw [if_neg h2]; exact ih
theorem force_mono {l : List Tariff} {h h' : Int} (hh : h ≤ h') : force l h ≤ force l h' := forceN_mono hh _
theorem forceN_skip {l : List Tariff} {hour : Int} {k : Nat} : ∀ (d : Nat), (∀ j x, k ≤ j → l[j]? = some x → hour < x.frm) → forceN l hour (k + d) = forceN l hour k
  | 0, _ => rfl
  | d + 1, h => by
    have ih := forceN_skip (l := l) (hour := hour) (k := k) d h
    rw [← Nat.add_assoc]
    cases hg : l[k + d]? with
    | none => rw [← ih]; unfold forceN; rw [hg]; cases k + d <;> rfl
    | some t => rw [forceN_out hg (by have := h (k + d) t (by omega) hg; omega)]; exact ih
theorem force_eq {l : List Tariff} {hour : Int} {k : Nat} {t : Tariff} (hk : l[k]? = some t) (h1 : t.frm ≤ hour) (h2 : ∀ j x, k + 1 ≤ j → l[j]? = some x → hour < x.frm) : force l hour = k := by
  have hlt := (List.getElem?_eq_some_iff.1 hk).1
  unfold force
  have := forceN_skip (l := l) (hour := hour) (k := k + 1) (l.length - (k + 1)) h2
  rw [show k + 1 + (l.length - (k + 1)) = l.length by omega] at this
  rw [this, forceN_in hk h1]
def needP (f L b : Int) : Int := if L > b * f then (L + f - 1).tdiv f else b
theorem ceil_bd {f L : Int} (hf : 1 ≤ f) (hL : 1 ≤ L) : L ≤ (L + f - 1).tdiv f * f ∧ ((L + f - 1).tdiv f - 1) * f < L := by
  rw [Int.tdiv_eq_ediv_of_nonneg (by omega)]
  have h1 := Int.mul_ediv_add_emod (L + f - 1) f
  have h2 := Int.emod_nonneg (L + f - 1) (show f ≠ 0 by omega)
  have h3 := Int.emod_lt_of_pos (L + f - 1) (show 0 < f by omega)
  rw [Int.mul_comm] at h1
  rw [Int.sub_mul, Int.one_mul]
  omega
theorem needP_ge {f L b : Int} (hf : 1 ≤ f) (hb : 0 ≤ b) : b ≤ needP f L b ∧ L ≤ needP f L b * f := by
  unfold needP
  split
  · rename_i h
    have hbf := Int.mul_nonneg hb (show 0 ≤ f by omega)
    obtain ⟨c1, c2⟩ := ceil_bd hf (show 1 ≤ L by omega)
    refine ⟨?_, c1⟩
    have : b * f < (L + f - 1).tdiv f * f := by omega
    have := Int.lt_of_mul_lt_mul_right this (by omega)
    omega
  · exact ⟨Int.le_refl _, by omega⟩
theorem grow_need {sm f used nk : Int} (hf : 1 ≤ f) : ∀ (q : Nat) (b : Int), (nk - b).toNat = q → 0 ≤ b → b ≤ nk →
    (needP f (used - sm) b ≤ nk → grow sm f used nk b = needP f (used - sm) b) ∧ (nk < needP f (used - sm) b → grow sm f used nk b = nk ∧ sm + nk * f < used) := by
  intro q
  induction q with
  | zero =>
    intro b hq h0 hb
    obtain rfl : b = nk := by omega
    rw [grow_stop (by omega)]
    refine ⟨fun h => ?_, fun h => ⟨rfl, ?_⟩⟩
    · have := needP_ge (f := f) (L := used - sm) hf h0; omega
    · unfold needP at h; split at h <;> omega
  | succ q ih =>
    intro b hq h0 hb
    by_cases hc : b < nk ∧ sm + b * f < used
    · rw [grow_step hc.1 hc.2]
      have := ih (b + 1) (by omega) (by omega) (by omega)
      have e : needP f (used - sm) (b + 1) = needP f (used - sm) b := by
        unfold needP
        rw [if_pos (show used - sm > b * f by omega)]
        split
        · rfl
        · rename_i h
          have hbf := Int.mul_nonneg h0 (show 0 ≤ f by omega)
          obtain ⟨c1, c2⟩ := ceil_bd hf (show 1 ≤ used - sm by omega)
          have l1 : b * f < (used - sm + f - 1).tdiv f * f := by omega
          have l2 := Int.lt_of_mul_lt_mul_right l1 (by omega)
          have l3 : ((used - sm + f - 1).tdiv f - 1) * f < (b + 1) * f := by omega
          have l4 := Int.lt_of_mul_lt_mul_right l3 (by omega)
          omega
      rw [e] at this; exact this
    · rw [grow_stop hc]
      refine ⟨fun h => ?_, fun h => ?_⟩
      · have h9 := needP_ge (f := f) (L := used - sm) hf h0
        by_cases hbn : b < nk
        · unfold needP; rw [if_neg (by omega)]
        · omega
      · unfold needP at h; split at h <;> omega
def feetK (s : Slot) (k : Nat) : Int := (s.tars.getD k default).feet
def capP (s : Slot) (k : Nat) (pen : Int) (m : Mark) (c : Int) : Int := if m.hour = endT s k then pen else c
def stepP (s : Slot) (k : Nat) (pen has : Int) (m : Mark) (b : Int) : Option Int :=
  if needP (feetK s k) (m.used - has) b > pen then none
  else if has + capP s k pen m (needP (feetK s k) (m.used - has) b) * feetK s k > m.used + s.hold then none
  else some (capP s k pen m (needP (feetK s k) (m.used - has) b))
def fitsP (s : Slot) (k : Nat) (pen has : Int) (l : List Mark) (b : Int) : Option Int := l.foldl (fun z m => z.bind (stepP s k pen has m)) (some b)
def fitsB (s : Slot) (k : Nat) (pen has : Int) : Bool := (fitsP s k pen has (ofT s k (dmS s)) 0).isSome
theorem stepP_bd {s : Slot} {k : Nat} {pen has b B : Int} {m : Mark} (hf : 1 ≤ feetK s k) (hb : 0 ≤ b ∧ b ≤ pen) (h : stepP s k pen has m b = some B) : b ≤ B ∧ B ≤ pen := by
  have h1 := (needP_ge (L := m.used - has) hf hb.1).1
  unfold stepP at h
  split at h
  · cases h
  · split at h
    · cases h
    · have := Option.some.inj h
      unfold capP at this
      split at this <;> omega
theorem stepQ_P {s : Slot} {n : List Int} {m : Mark} {k : Nat} {b : Int} (hk : force s.tars m.hour = k) (hf : 1 ≤ feetK s k) (hb : 0 ≤ b ∧ b ≤ n.getD k 0) : stepQ s n m b = stepP s k (n.getD k 0) (s.start + worthN s n k) m b := by
  have e1 : feetAt s m.hour = feetK s k := by unfold feetAt feetK; rw [hk]
  have e2 : smAt s n m.hour = s.start + worthN s n k := by unfold smAt; rw [hk]
  have e3 : nAt s n m.hour = n.getD k 0 := by unfold nAt; rw [hk]
  unfold stepQ stepP qB fitM capP
  simp only [e1, e2, e3, hk]
  generalize hsm : s.start + worthN s n k = sm
  generalize hnk : n.getD k 0 = nk at hb
  generalize feetK s k = f at hf
  obtain ⟨g1, g2⟩ := grow_need (sm := sm) (used := m.used) (nk := nk) hf _ b rfl hb.1 hb.2
  have hge := needP_ge (f := f) (L := m.used - sm) hf hb.1
  by_cases hc : needP f (m.used - sm) b > nk
  · rw [if_pos hc]
    obtain ⟨g3, g4⟩ := g2 hc
    rw [g3]
    have e : (if m.hour = endT s k then nk else nk) = nk := by split <;> rfl
    rw [e]
    exact if_neg fun q => by omega
  · rw [if_neg hc, g1 (by omega)]
    by_cases he : m.hour = endT s k
    · rw [if_pos he]
      have hm : needP f (m.used - sm) b * f ≤ nk * f := Int.mul_le_mul_of_nonneg_right (by omega) (by omega)
      by_cases hq : sm + nk * f > m.used + s.hold
      · rw [if_pos hq]; exact if_neg fun q => by omega
      · rw [if_neg hq]; exact if_pos ⟨by omega, by omega⟩
    · rw [if_neg he]
      by_cases hq : sm + needP f (m.used - sm) b * f > m.used + s.hold
      · rw [if_pos hq]; exact if_neg fun q => by omega
      · rw [if_neg hq]; exact if_pos ⟨by omega, by omega⟩
theorem fitsP_none {s : Slot} {k : Nat} {pen has : Int} : ∀ (l : List Mark), l.foldl (fun (z : Option Int) m => z.bind (stepP s k pen has m)) none = none
  | [] => rfl
  | x :: l => fitsP_none l
theorem fitsP_cons {s : Slot} {k : Nat} {pen has : Int} {m : Mark} {l : List Mark} {b : Int} : fitsP s k pen has (m :: l) b = (stepP s k pen has m b).bind (fitsP s k pen has l) := by
  unfold fitsP
  rw [List.foldl_cons]
  show l.foldl _ (stepP s k pen has m b) = _
  cases stepP s k pen has m b with
  | none => exact fitsP_none l
  | some B => rfl
theorem foldQ_P {s : Slot} {n : List Int} {k : Nat} (hf : 1 ≤ feetK s k) : ∀ {l : List Mark} {b : Int}, (∀ m ∈ l, force s.tars m.hour = k) → 0 ≤ b ∧ b ≤ n.getD k 0 → foldQ s n l b = fitsP s k (n.getD k 0) (s.start + worthN s n k) l b
  | [], b, _, _ => rfl
  | m :: l, b, hl, hb => by
    rw [foldQ_cons, fitsP_cons, stepQ_P (hl m List.mem_cons_self) hf hb]
    cases hs : stepP s k (n.getD k 0) (s.start + worthN s n k) m b with
    | none => rfl
    | some B =>
      have := stepP_bd hf hb hs
      exact foldQ_P hf (fun x hx => hl x (List.mem_cons_of_mem _ hx)) ⟨by omega, this.2⟩
theorem feetK_1 {s : Slot} (hg : GoodSlot s) {k : Nat} (hk : k < s.tars.length) : 1 ≤ feetK s k ∧ feetK s k ≤ 10000 := by
  have h1 : s.tars[k]? = some s.tars[k] := List.getElem?_eq_getElem hk
  have h2 := (tarsOk_at hg.2.2.2.1 h1).2
  have h3 := hg.1.1
  unfold feetK
  rw [List.getD_eq_getElem?_getD, h1]
  simp only [Option.getD_some]
  omega
theorem possB_fits {s : Slot} (h : errS s = 0) {n : List Int} (hn : ∀ k, k < s.tars.length → 0 ≤ n.getD k 0) : possB s n = true ↔ ∀ k, k < s.tars.length → fitsB s k (n.getD k 0) (s.start + worthN s n k) = true := by
  have hg := (errS_0 h).1
  have hp : (dmS s).Pairwise (fun x y => force s.tars x.hour ≤ force s.tars y.hour) := (dm_strict s).imp fun hxy => force_mono (by omega)
  rw [possB_dm h, groups hp (fun m _ => by omega)]
  have key : ∀ k, k < s.tars.length → ((foldQ s n (ofT s k (dmS s)) 0).isSome = true ↔ fitsB s k (n.getD k 0) (s.start + worthN s n k) = true) := fun k hk => by
    unfold fitsB
    rw [foldQ_P (feetK_1 hg hk).1 (fun m hm => by have h9 := of_decide_eq_true (List.mem_filter.1 hm).2; omega) ⟨by omega, hn k hk⟩]
  constructor
  · rintro ⟨_, h2⟩ k hk
    exact (key k hk).1 (h2 k (by omega))
  · intro hall
    refine ⟨by rw [ofT_none fun m _ => by omega]; rfl, fun k hk => ?_⟩
    obtain ⟨K, rfl⟩ : ∃ K : Nat, k = K := ⟨k.toNat, by omega⟩
    by_cases hK : K < s.tars.length
    · exact (key K hK).2 (hall K hK)
    · rw [ofT_none fun m _ => by have := force_lt hg.ne m.hour; omega]; rfl
def allP (s : Slot) : Nat → Nat → Int → Int → List Int → List (List Int)
  | 0, k, left, has, b => if fitsB s k left has then [b ++ [left]] else []
  | d + 1, k, left, has, b => (List.range (left.toNat + 1)).flatMap fun (i : Nat) => if fitsB s k (i : Int) has then allP s d (k + 1) (left - (i : Int)) (has + (i : Int) * feetK s k) (b ++ [(i : Int)]) else []
theorem worthN_app {s : Slot} {b q : List Int} : ∀ k, k ≤ b.length → worthN s (b ++ q) k = worthN s b k
  | 0, _ => rfl
  | k + 1, h => by
    rw [worthN, worthN, worthN_app k (by omega), List.getD_eq_getElem?_getD, List.getElem?_append_left (by omega), ← List.getD_eq_getElem?_getD]
theorem getD_app {b q : List Int} {j : Nat} (h : j < b.length) : (b ++ q).getD j 0 = b.getD j 0 := by
  rw [List.getD_eq_getElem?_getD, List.getElem?_append_left h, ← List.getD_eq_getElem?_getD]
theorem getD_at {b q : List Int} {x : Int} : (b ++ x :: q).getD b.length 0 = x := by
  rw [List.getD_eq_getElem?_getD, List.getElem?_append_right (Nat.le_refl _), Nat.sub_self]; rfl
theorem worthN_step {s : Slot} {b : List Int} {x : Int} : worthN s (b ++ [x]) (b.length + 1) = worthN s b b.length + x * feetK s b.length := by
  rw [worthN, worthN_app _ (Nat.le_refl _), getD_at]; rfl
theorem allP_eq {s : Slot} (h : errS s = 0) : ∀ {d : Nat} {left has : Int} {b : List Int}, b.length + d + 1 = s.tars.length → (∀ x ∈ b, 0 ≤ x) → 0 ≤ left → has = s.start + worthN s b b.length →
    (∀ j, j < b.length → fitsB s j (b.getD j 0) (s.start + worthN s b j) = true) → allP s d b.length left has b = allS s d left b
  | 0, left, has, b, hl, hb, h0, hh, hf => by
    unfold allP allS
    have e : possB s (b ++ [left]) = fitsB s b.length left has := by
      rw [Bool.eq_iff_iff, possB_fits h fun k hk => ?_]
      · constructor
        · intro hall
          have := hall b.length (by omega)
          rw [getD_at, worthN_app _ (Nat.le_refl _), ← hh] at this; exact this
        · intro hfit k hk
          by_cases hkb : k < b.length
          · rw [getD_app hkb, worthN_app _ (by omega)]; exact hf k hkb
          · obtain rfl : k = b.length := by omega
            rw [getD_at, worthN_app _ (Nat.le_refl _), ← hh]; exact hfit
      · by_cases hkb : k < b.length
        · rw [getD_app hkb, List.getD_eq_getElem?_getD, List.getElem?_eq_getElem hkb]; exact hb _ (List.getElem_mem hkb)
        · obtain rfl : k = b.length := by omega
          rw [getD_at]; exact h0
    rw [e]
  | d + 1, left, has, b, hl, hb, h0, hh, hf => by
    unfold allP allS
    have hfl : ∀ {α β : Type} (l : List α) (f g : α → List β), (∀ x ∈ l, f x = g x) → l.flatMap f = l.flatMap g := fun l f g hfg => by
      induction l with
      | nil => rfl
      | cons x l ih => rw [List.flatMap_cons, List.flatMap_cons, hfg x List.mem_cons_self, ih fun y hy => hfg y (List.mem_cons_of_mem _ hy)]
    refine hfl _ _ _ fun i hi => ?_
    rw [List.mem_range] at hi
    have hlen : (b ++ [(i : Int)]).length = b.length + 1 := by simp
    by_cases hfit : fitsB s b.length (i : Int) has = true
    · rw [if_pos hfit]
      have ih := allP_eq h (d := d) (left := left - (i : Int)) (has := has + (i : Int) * feetK s b.length) (b := b ++ [(i : Int)]) (by omega) (fun x hx => by
        rcases List.mem_append.1 hx with hx | hx
        · exact hb x hx
        · rw [List.mem_singleton.1 hx]; omega) (by omega) (by rw [hlen, worthN_step, hh]; omega) (fun j hj => by
        by_cases hjb : j < b.length
        · rw [getD_app hjb, worthN_app _ (by omega)]; exact hf j hjb
        · obtain rfl : j = b.length := by omega
          rw [getD_at, worthN_app _ (Nat.le_refl _), ← hh]; exact hfit)
      rw [hlen] at ih; exact ih
    · rw [if_neg hfit]
      symm
      rw [List.eq_nil_iff_forall_not_mem]
      intro n hn
      obtain ⟨q, e, hql, hqb, _, hp⟩ := allS_mem (by omega) hn
      have hnn : n = b ++ (i : Int) :: q := by rw [e]; simp
      have := (possB_fits h fun k hk => ?_).1 hp b.length (by omega)
      · rw [hnn, getD_at, worthN_app _ (Nat.le_refl _), ← hh] at this; exact hfit this
      · rw [List.getD_eq_getElem?_getD]
        cases hg : n[k]? with
        | none => simp
        | some y =>
          have hy := List.mem_of_getElem? hg
          rw [hnn] at hy
          simp only [Option.getD_some]
          rcases List.mem_append.1 hy with hy | hy
          · exact hb y hy
          · rcases List.mem_cons.1 hy with rfl | hy
            · omega
            · exact (hqb y hy).1
theorem divsP {s : Slot} (h : errS s = 0) : allP s (s.tars.length - 1) 0 s.coins s.start [] = divsS s := by
  have hg := (errS_0 h).1
  have h1 := hg.2.1.1
  have h2 := hg.1.2.2.1
  have := allP_eq h (d := s.tars.length - 1) (left := s.coins) (has := s.start) (b := []) (by simp; omega) (fun x hx => (List.not_mem_nil hx).elim) h2.1 (by simp [worthN]) (fun j hj => by simp at hj)
  exact this
end Go.Proofs.Ytlcdbjgfeoagbaa

/-
  How the program takes the marks in; the account of divisions; the credit.
-/
set_option linter.all false
namespace Go.Proofs.Ytlcdbjgfeoagbaa
open Go Go.H
def usedAt (l : List Mark) (h : Int) : Option Int := (l.find? fun x => decide (x.hour = h)).map Mark.used
theorem usedAt_none {l : List Mark} {h : Int} (H : usedAt l h = none) : ∀ x ∈ l, x.hour ≠ h := fun x hx e => by
  unfold usedAt at H
  rw [Option.map_eq_none_iff, List.find?_eq_none] at H
  exact H x hx (decide_eq_true e)
theorem usedAt_some {l : List Mark} {h u : Int} (H : usedAt l h = some u) : (⟨h, u⟩ : Mark) ∈ l := by
  unfold usedAt at H
  obtain ⟨x, hx, rfl⟩ := Option.map_eq_some_iff.1 H
  have h1 := List.mem_of_find?_eq_some hx
  have h2 := List.find?_some hx
  simp only [decide_eq_true_eq] at h2
  subst h2; exact h1
theorem usedAt_snoc {l : List Mark} {x : Mark} {h : Int} (H : usedAt l x.hour = none) : usedAt (l ++ [x]) h = if h = x.hour then some x.used else usedAt l h := by
  unfold usedAt
  rw [List.find?_append]
  by_cases e : h = x.hour
  · subst e
    unfold usedAt at H
    rw [Option.map_eq_none_iff] at H
    rw [H, if_pos rfl]; simp
  · rw [if_neg e]
    have : List.find? (fun y => decide (y.hour = h)) [x] = none := by
      rw [List.find?_eq_none]; intro y hy; rw [List.mem_singleton.1 hy]; simpa using fun q => e q.symm
    rw [this]; simp
structure Got (l out : List Mark) : Prop where
  mem : ∀ x, x ∈ out ↔ x ∈ l
  one : out.Pairwise fun a b => a.hour ≠ b.hour
theorem Got.nil : Got [] [] := ⟨fun _ => Iff.rfl, List.Pairwise.nil⟩
theorem Got.more {l out : List Mark} {x : Mark} (H : Got l out) (h : usedAt out x.hour = none) : Got (l ++ [x]) (out ++ [x]) :=
  ⟨fun y => by rw [List.mem_append, List.mem_append, H.mem], List.pairwise_append.2 ⟨H.one, List.pairwise_singleton _ _, fun a ha b hb => by rw [List.mem_singleton.1 hb]; exact usedAt_none h a ha⟩⟩
theorem Got.same {l out : List Mark} {x : Mark} (H : Got l out) (h : usedAt out x.hour = some x.used) : Got (l ++ [x]) out :=
  ⟨fun y => by
    have := usedAt_some h
    rw [List.mem_append, H.mem]
    refine ⟨.inl, fun q => q.elim id fun q => ?_⟩
    rw [List.mem_singleton.1 q]; exact (H.mem _).1 this, H.one⟩
theorem Got.twice {l r out : List Mark} {x : Mark} {u : Int} (H : Got l out) (h : usedAt out x.hour = some u) (hne : u ≠ x.used) : twiceB (l ++ x :: r) = true :=
  twice_at (a := ⟨x.hour, u⟩) (b := x) (List.mem_append_left _ ((H.mem _).1 (usedAt_some h))) (List.mem_append_right _ List.mem_cons_self) (decide_eq_true ⟨rfl, hne⟩)
theorem Got.noTwice {l out : List Mark} (H : Got l out) : twiceB l = false := by
  rw [twiceB_eq, List.any_eq_false]
  intro a ha
  rw [Bool.not_eq_true, List.any_eq_false]
  intro b hb hp
  have hp2 := of_decide_eq_true hp
  have ha2 := (H.mem a).2 ha
  have hb2 := (H.mem b).2 hb
  have : a = b := by
    obtain ⟨i, hi, ei⟩ := List.mem_iff_getElem.1 ha2
    obtain ⟨j, hj, ej⟩ := List.mem_iff_getElem.1 hb2
    have := List.pairwise_iff_getElem.1 H.one
    rcases Nat.lt_trichotomy i j with q | q | q
    · exact absurd hp2.1 (by rw [← ei, ← ej]; exact this i j hi hj q)
    · subst q; rw [← ei, ← ej]
    · exact absurd hp2.1.symm (by rw [← ei, ← ej]; exact this j i hj hi q)
  exact hp2.2 (by rw [this])
theorem Got.dm {s : Slot} {out ys : List Mark} (H : Got s.marks out) (hp : ys.Perm out) (hs : ys.Pairwise fun a b => a.hour ≤ b.hour) : ys = dmS s := by
  have ht := noTwice_of H.noTwice
  refine strict_ext ?_ (dm_strict s) fun x => ?_
  · have hn : ys.Pairwise fun a b => a.hour ≠ b.hour := (hp.pairwise_iff (fun {a b} h => fun e => h e.symm)).2 H.one
    exact (hs.and hn).imp fun h => by have := h.1; have := h.2; omega
  · unfold dmS
    rw [hp.mem_iff, H.mem, dd_mem ht.sorted, sortM_mem]
def sortedU (l : List Mark) : Prop := ∀ i a b, l[i]? = some a → l[i + 1]? = some b → a.used ≤ b.used
theorem sortedU_le {l : List Mark} (h : sortedU l) : ∀ {i j : Nat} {a b : Mark}, i ≤ j → l[i]? = some a → l[j]? = some b → a.used ≤ b.used := by
  intro i j a b hij ha hb
  obtain ⟨d, rfl⟩ : ∃ d, j = i + d := ⟨j - i, by omega⟩
  induction d generalizing b with
  | zero => rw [Nat.add_zero, ha] at hb; cases hb; exact Int.le_refl _
  | succ d ih =>
    have hlt := (List.getElem?_eq_some_iff.1 hb).1
    have hc : l[i + d]? = some (l[i + d]'(by omega)) := List.getElem?_eq_getElem (by omega)
    have h1 := ih (by omega) hc
    have h2 := h (i + d) _ b hc hb
    omega
theorem cross_dm {s : Slot} (ht : NoTwice s.marks) : crossB s.marks = false ↔ sortedU (dmS s) := by
  have hm : ∀ x, x ∈ dmS s ↔ x ∈ s.marks := fun x => by unfold dmS; rw [dd_mem ht.sorted, sortM_mem]
  have hst := dm_strict s
  rw [crossB_eq, List.any_eq_false]
  constructor
  · intro h i a b ha hb
    have h1 := h a ((hm a).1 (List.mem_of_getElem? ha))
    rw [Bool.not_eq_true, List.any_eq_false] at h1
    have h2 := h1 b ((hm b).1 (List.mem_of_getElem? hb))
    unfold crP at h2
    rw [decide_eq_true_iff] at h2
    obtain ⟨i1, i2⟩ := List.getElem?_eq_some_iff.1 ha
    obtain ⟨j1, j2⟩ := List.getElem?_eq_some_iff.1 hb
    have h3 := List.pairwise_iff_getElem.1 hst i (i + 1) i1 j1 (by omega)
    rw [i2, j2] at h3
    omega
  · intro h a ha
    rw [Bool.not_eq_true, List.any_eq_false]
    intro b hb hp
    have hp2 := of_decide_eq_true hp
    obtain ⟨i, hi⟩ := List.getElem?_of_mem ((hm a).2 ha)
    obtain ⟨j, hj⟩ := List.getElem?_of_mem ((hm b).2 hb)
    obtain ⟨i1, i2⟩ := List.getElem?_eq_some_iff.1 hi
    obtain ⟨j1, j2⟩ := List.getElem?_eq_some_iff.1 hj
    rcases Nat.lt_trichotomy i j with q | q | q
    · have := sortedU_le h (by omega) hi hj; omega
    · subst q; rw [hi] at hj; cases hj; omega
    · have h3 := List.pairwise_iff_getElem.1 hst j i j1 i1 q
      rw [i2, j2] at h3; omega
theorem errS_dm {s : Slot} (hg : GoodSlot s) {out : List Mark} (H : Got s.marks out) : (sortedU (dmS s) → errS s = 0) ∧ (¬ sortedU (dmS s) → errS s = 7) := by
  have ht := H.noTwice
  have hc := cross_dm (noTwice_of ht)
  rw [errS_n hg ht]
  constructor
  · intro h; rw [hc.2 h]; rfl
  · intro h
    cases hx : crossB s.marks with
    | false => exact absurd (hc.1 hx) h
    | true => rfl
theorem spanL_snoc {l : List Int} {x : Int} (h : l ≠ []) : spanL (l ++ [x]) = ⟨min (spanL l).lo x, max (spanL l).hi x⟩ := by
  obtain ⟨y, q, rfl⟩ := List.exists_cons_of_ne_nil h
  unfold spanL
  rw [List.foldl_append]; rfl
def accC (L : List (List Int)) (k : Nat) : Span := spanL (L.map fun n => n.getD k 0)
def accB (s : Slot) (L : List (List Int)) : Span := spanL (L.map fun n => worthN s n n.length)
def eAcc (s : Slot) (L : List (List Int)) : List Value := .bool (!L.isEmpty) :: ((List.range 5).flatMap (fun k => eSpan (accC L k)) ++ eSpan (accB s L))
theorem accC_snoc {L : List (List Int)} {n : List Int} (k : Nat) (h : L ≠ []) : accC (L ++ [n]) k = ⟨min (accC L k).lo (n.getD k 0), max (accC L k).hi (n.getD k 0)⟩ := by
  unfold accC
  rw [List.map_append]; exact spanL_snoc fun q => h (List.map_eq_nil_iff.1 q)
theorem accB_snoc {s : Slot} {L : List (List Int)} {n : List Int} (h : L ≠ []) : accB s (L ++ [n]) = ⟨min (accB s L).lo (worthN s n n.length), max (accB s L).hi (worthN s n n.length)⟩ := by
  unfold accB
  rw [List.map_append]; exact spanL_snoc fun q => h (List.map_eq_nil_iff.1 q)
theorem lastM_dm (s : Slot) : lastM s = match (dmS s).getLast? with
    | none => (0, false)
    | some m => (m.used, decide (m.hour = s.now)) := by unfold lastM dmS; rw [dd_last]; cases (sortM s.marks).getLast? <;> rfl
theorem lastD_0 {s : Slot} (h : (dmS s).length = 0) : lastM s = (0, false) := by rw [lastM_dm, List.length_eq_zero_iff.1 h]; rfl
theorem lastD_p {s : Slot} {m : Mark} (h : (dmS s)[(dmS s).length - 1]? = some m) : lastM s = (m.used, decide (m.hour = s.now)) := by rw [lastM_dm, List.getLast?_eq_getElem?, h]
theorem lastF_bd {hold now : Int} (hn : 0 ≤ now ∧ now ≤ 1048576) : ∀ {last : Int} {l : List Tariff}, (-1 ≤ last ∧ last ≤ 1048576) → tarsOk hold now last l → -1 ≤ lastF last l ∧ lastF last l ≤ 1048576
  | last, [], h, _ => h
  | last, t :: l, h, ht => lastF_bd (last := t.frm) (l := l) hn (by have := ht.1.1; omega) ht.2
end Go.Proofs.Ytlcdbjgfeoagbaa
