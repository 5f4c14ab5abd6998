/-
  One round of the document's least.
-/
import Derived.Test.YtpefpafijadfmaaW20
import Derived.Test.YtpefpafijadfmaaHT
set_option linter.all false
namespace Go.Proofs.Ytpefpafijadfmaa
open Go Go.H
def subL (r l : List Int) : List Int := (r.zip l).map fun z => z.1 - z.2
theorem subL_len {r l : List Int} (h : l.length = r.length) : (subL r l).length = r.length := by simp [subL, h]
theorem subL_get {r l : List Int} {i : Nat} {a b : Int} (h : r[i]? = some a) (h2 : l[i]? = some b) : (subL r l)[i]? = some (a - b) := by
  unfold subL
  rw [List.getElem?_map, (List.getElem?_zip_eq_some (z := (a, b))).2 ⟨h, h2⟩]; rfl
theorem subL_set : ∀ {r l : List Int} {k : Nat} {a b n : Int}, r[k]? = some a → l[k]? = some b → subL r (l.set k (b - n)) = (subL r l).set k ((a - b) + n)
  | [], l, k, a, b, n, h, _ => by simp at h
  | x :: r, [], k, a, b, n, _, h => by simp at h
  | x :: r, y :: l, 0, a, b, n, h, h2 => by
    simp at h h2; subst h h2
    have e : subL (x :: r) ((y :: l).set 0 (y - n)) = (x - (y - n)) :: subL r l := rfl
    have e2 : (subL (x :: r) (y :: l)).set 0 (x - y + n) = (x - y + n) :: subL r l := rfl
    rw [e, e2]; congr 1; omega
  | x :: r, y :: l, k + 1, a, b, n, h, h2 => by
    have e : subL (x :: r) ((y :: l).set (k + 1) (b - n)) = (x - y) :: subL r (l.set k (b - n)) := rfl
    have e2 : (subL (x :: r) (y :: l)).set (k + 1) (a - b + n) = (x - y) :: (subL r l).set k (a - b + n) := rfl
    rw [e, e2, subL_set (by simpa using h) (by simpa using h2)]
theorem mul_bdE {n e N : Int} (h0 : 0 ≤ n) (h1 : n ≤ N) (he : -100000 ≤ e ∧ e ≤ 100000) : -(100000 * N) ≤ n * e ∧ n * e ≤ 100000 * N := by
  have m1 := Int.mul_le_mul_of_nonneg_left he.1 h0
  have m2 := Int.mul_le_mul_of_nonneg_left he.2 h0
  omega
structure LInv (room each : List Int) (need0 need : Int) (lf : List Int) : Prop where
  len : lf.length = room.length
  gr : Greedy room each (need0 - need) (subL room lf)
  sum : sumI lf = sumI room - (need0 - need)
  nn : ∀ a ∈ lf, 0 ≤ a
  n0 : 0 ≤ need
theorem LInv.next {room each lf : List Int} {need0 need lb eb : Int} {b : Nat} (H : LInv room each need0 need lf) (hb : lf[b]? = some lb) (h0 : 0 < lb) (he : each[b]? = some eb) (hmin : ∀ (j : Nat) (l e : Int), lf[j]? = some l → 0 < l → each[j]? = some e → eb ≤ e) (hn : 0 < need) :
    LInv room each need0 (need - min need lb) (lf.set b (lb - min need lb)) ∧ dotI (subL room (lf.set b (lb - min need lb))) each = dotI (subL room lf) each + min need lb * eb := by
  have hlt := (List.getElem?_eq_some_iff.1 hb).1
  obtain ⟨rb, hrb⟩ : ∃ r, room[b]? = some r := ⟨_, List.getElem?_eq_getElem (by rw [← H.len]; exact hlt)⟩
  have hs := subL_get hrb hb
  have e := subL_set (n := min need lb) hrb hb
  have hg := H.gr
  have hbb := hg.bd b _ rb hs hrb
  refine ⟨⟨by rw [List.length_set]; exact H.len, ?_, ?_, fun a ha => ?_, by omega⟩, by rw [e]; exact dot_set hs he⟩
  · rw [e]
    have hlen : b < (subL room lf).length := by rw [subL_len H.len, ← H.len]; exact hlt
    refine ⟨by rw [List.length_set]; exact hg.len, fun i a r ha hr => ?_, by rw [sumI_set hs, hg.sum]; omega, fun i j a r ei d ej ha hr hei hd hej hlt2 hpos => ?_⟩
    · rw [List.getElem?_set] at ha
      split at ha
      · rename_i h9; subst h9
        rw [hrb] at hr; cases hr
        first
        | (rw [if_pos hlen] at ha; cases ha; omega)
        | (cases ha; omega)
      · exact hg.bd i a r ha hr
    · rw [List.getElem?_set] at ha hd
      by_cases hi : b = i
      · subst hi
        rw [he] at hei; cases hei
        -- something dearer than b is taken: not before b is full
        by_cases hj : b = j
        · subst hj; rw [he] at hej; cases hej; omega
        · rw [if_neg hj] at hd
          have := hg.fst b j _ rb eb d ej hs hrb he hd hej hlt2 hpos
          omega
      · rw [if_neg hi] at ha
        by_cases hj : b = j
        · subst hj
          rw [he] at hej; cases hej
          -- what is cheaper than b has nothing left
          obtain ⟨li, hli⟩ : ∃ l, lf[i]? = some l := ⟨_, List.getElem?_eq_getElem (by have := (List.getElem?_eq_some_iff.1 hr).1; rw [H.len]; exact this)⟩
          have h8 := subL_get hr hli
          rw [ha] at h8
          have h7 := Option.some.inj h8
          have h6 := H.nn li (List.mem_of_getElem? hli)
          by_cases h5 : 0 < li
          · have := hmin i li ei hli h5 hei; omega
          · omega
        · rw [if_neg hj] at hd
          exact hg.fst i j a r ei d ej ha hr hei hd hej hlt2 hpos
  · have := sumI_set (d := -(min need lb)) hb
    rw [show lb + -(min need lb) = lb - min need lb by omega] at this
    rw [this, H.sum]; omega
  · rcases List.mem_or_eq_of_mem_set ha with h | h
    · exact H.nn a h
    · subst h; omega
theorem LInv.some {room each lf : List Int} {need0 need : Int} (H : LInv room each need0 need lf) (hn : 0 < need) (hr : need0 ≤ sumI room) : ∃ (i : Nat) (a : Int), lf[i]? = some a ∧ 0 < a := by
  refine Classical.byContradiction fun hx => ?_
  have h0 : ∀ a ∈ lf, 0 ≤ a ∧ a ≤ 0 := fun a ha => by
    obtain ⟨i, hi⟩ := List.getElem?_of_mem ha
    refine ⟨H.nn a ha, ?_⟩
    by_cases h : 0 < a
    · exact absurd ⟨i, a, hi, h⟩ hx
    · omega
  have := (sumI_bd h0).2
  have := H.sum
  omega
theorem dot_bd {x e : List Int} (hx : ∀ a ∈ x, 0 ≤ a) (he : ∀ b ∈ e, -100000 ≤ b ∧ b ≤ 100000) : -100000 * sumI x ≤ dotI x e ∧ dotI x e ≤ 100000 * sumI x := by
  induction x generalizing e with
  | nil => simp [dotI, sumI]
  | cons a x ih =>
    have e1 : sumI (a :: x) = a + sumI x := by unfold sumI; simp
    have hx2 : ∀ y ∈ x, 0 ≤ y := fun y hy => hx y (List.mem_cons_of_mem _ hy)
    have ha := hx a List.mem_cons_self
    have hs := sumI_nn hx2
    cases e with
    | nil => rw [e1]; have : dotI (a :: x) [] = 0 := rfl; rw [this]; omega
    | cons b e =>
      have := ih (e := e) hx2 fun y hy => he y (List.mem_cons_of_mem _ hy)
      have hb := he b List.mem_cons_self
      have m1 := Int.mul_le_mul_of_nonneg_left hb.1 ha
      have m2 := Int.mul_le_mul_of_nonneg_left hb.2 ha
      rw [e1, dot_cons]; omega
end Go.Proofs.Ytpefpafijadfmaa

/-
  The yield of some draws, as the document sums it.
-/
set_option linter.all false
namespace Go.Proofs.Ytpefpafijadfmaa
open Go Go.H
open Classical in
noncomputable def gval (room each : List Int) (need : Int) : Int := if h : ∃ x, Greedy room each need x then dotI h.choose each else 0
theorem gval_eq {room each x : List Int} {need : Int} (he : each.length = room.length) (h : Greedy room each need x) : dotI x each = gval room each need := by
  have hx : ∃ x, Greedy room each need x := ⟨x, h⟩
  unfold gval
  rw [dif_pos hx]
  exact greedy_same he h hx.choose_spec
theorem gval_bd {room each : List Int} {need : Int} (he : each.length = room.length) (heb : ∀ b ∈ each, -100000 ≤ b ∧ b ≤ 100000) (hn : 0 ≤ need) : -100000 * need ≤ gval room each need ∧ gval room each need ≤ 100000 * need := by
  by_cases hx : ∃ x, Greedy room each need x
  · obtain ⟨x, h⟩ := hx
    have h2 : ∀ a ∈ x, 0 ≤ a := fun a ha => by
      obtain ⟨i, hi⟩ := List.getElem?_of_mem ha
      obtain ⟨r, hr⟩ : ∃ r, room[i]? = some r := ⟨_, List.getElem?_eq_getElem (by have := (List.getElem?_eq_some_iff.1 hi).1; rw [h.len] at this; exact this)⟩
      exact (h.bd i a r hi hr).1
    have := dot_bd h2 heb
    rw [h.sum, gval_eq he h] at this
    exact this
  · unfold gval; rw [dif_neg hx]; omega
theorem taken_app (a b : List (List Int)) (j : Nat) : takenR (a ++ b) j = takenR a j + takenR b j := by
  unfold takenR; rw [List.map_append, List.sum_append_int]
theorem taken_part {vs : List (List Int)} (h : ∀ v ∈ vs, ∀ x ∈ v, 0 ≤ x ∧ x ≤ 1048576) (f n j : Nat) : 0 ≤ takenR ((vs.drop f).take n) j ∧ takenR ((vs.drop f).take n) j ≤ takenR vs j := by
  have e1 := taken_app (vs.take f) (vs.drop f) j
  have e2 := taken_app ((vs.drop f).take n) ((vs.drop f).drop n) j
  rw [List.take_append_drop] at e1 e2
  have b1 := taken_bd (prev := vs.take f) (fun v hv => h v (List.mem_of_mem_take hv)) j
  have b2 := taken_bd (prev := (vs.drop f).take n) (fun v hv => h v (List.mem_of_mem_drop (List.mem_of_mem_take hv))) j
  have b3 := taken_bd (prev := (vs.drop f).drop n) (fun v hv => h v (List.mem_of_mem_drop (List.mem_of_mem_drop hv))) j
  omega
def lows (y : Yard) (w : Int) : List Int := y.coals.map fun c => (ofF c w).lo
def highs (y : Yard) (w : Int) : List Int := y.coals.map fun c => -(ofF c w).hi
noncomputable def yLo (y : Yard) (w : Int) (need : Nat → Int) : Nat → Int
  | 0 => 0
  | j + 1 => yLo y w need j + gval (contE y j) (lows y w) (need j)
noncomputable def yHi (y : Yard) (w : Int) (need : Nat → Int) : Nat → Int
  | 0 => 0
  | j + 1 => yHi y w need j - gval (contE y j) (highs y w) (need j)
theorem ofF_ok {c : Coal} {w : Int} (h : coalOk c) (h0 : 0 ≤ w) (h1 : w ≤ 3) : spanOk (ofF c w) := by
  have hm := List.mem_of_getElem? (ofL_get (c := c) h0 h1)
  unfold ofL at hm
  simp only [List.mem_cons, List.not_mem_nil, or_false] at hm
  obtain ⟨a, b, d, e⟩ := h
  rcases hm with q | q | q | q <;> rw [q] <;> assumption
theorem lows_bd {y : Yard} {w : Int} (h : CoalsOk y.coals) (h0 : 0 ≤ w) (h1 : w ≤ 3) : ∀ b ∈ lows y w, -100000 ≤ b ∧ b ≤ 100000 := fun b hb => by
  obtain ⟨c, hc, rfl⟩ := List.mem_map.1 hb
  obtain ⟨a, d, e⟩ := ofF_ok (h c hc) h0 h1
  omega
theorem highs_bd {y : Yard} {w : Int} (h : CoalsOk y.coals) (h0 : 0 ≤ w) (h1 : w ≤ 3) : ∀ b ∈ highs y w, -100000 ≤ b ∧ b ≤ 100000 := fun b hb => by
  obtain ⟨c, hc, rfl⟩ := List.mem_map.1 hb
  obtain ⟨a, d, e⟩ := ofF_ok (h c hc) h0 h1
  omega
theorem lows_len (y : Yard) (w : Int) : (lows y w).length = y.coals.length := by simp [lows]
theorem highs_len (y : Yard) (w : Int) : (highs y w).length = y.coals.length := by simp [highs]
def needF (vs : List (List Int)) (f t : Int) (j : Nat) : Int := takenR ((vs.drop f.toNat).take (t.toNat + 1 - f.toNat)) j
noncomputable def yieldA (y : Yard) (f t w : Int) : Span × Int :=
  if GoodYard y then (match vecsR y with
    | none => (⟨0, 0⟩, 10)
    | some vs => if (0 ≤ f ∧ f ≤ t ∧ t < (vs.length : Int)) ∧ 0 ≤ w ∧ w ≤ 3 then (⟨yLo y w (needF vs f t) (opn y.moves).1, yHi y w (needF vs f t) (opn y.moves).1⟩, 0) else (⟨0, 0⟩, 2)) else (⟨0, 0⟩, 1)
section
variable {y : Yard} {f t w : Int} {vs : List (List Int)}
theorem yieldA_1 (h : ¬ GoodYard y) : yieldA y f t w = (⟨0, 0⟩, 1) := by unfold yieldA; exact if_neg h
theorem yieldA_10 (h : GoodYard y) (h2 : vecsR y = none) : yieldA y f t w = (⟨0, 0⟩, 10) := by unfold yieldA; rw [if_pos h, h2]
theorem yieldA_2 (h : GoodYard y) (h2 : vecsR y = some vs) (h3 : ¬ ((0 ≤ f ∧ f ≤ t ∧ t < (vs.length : Int)) ∧ 0 ≤ w ∧ w ≤ 3)) : yieldA y f t w = (⟨0, 0⟩, 2) := by unfold yieldA; rw [if_pos h, h2]; exact if_neg h3
theorem yieldA_0 (h : GoodYard y) (h2 : vecsR y = some vs) (h3 : (0 ≤ f ∧ f ≤ t ∧ t < (vs.length : Int)) ∧ 0 ≤ w ∧ w ≤ 3) : yieldA y f t w = (⟨yLo y w (needF vs f t) (opn y.moves).1, yHi y w (needF vs f t) (opn y.moves).1⟩, 0) := by unfold yieldA; rw [if_pos h, h2]; exact if_pos h3
end
end Go.Proofs.Ytpefpafijadfmaa

/-
  What some draws take of each layer together; what the program's parts yields.
-/
set_option linter.all false
namespace Go.Proofs.Ytpefpafijadfmaa
open Go Go.H
theorem ShedV.part {h : Hp} {y : Yard} {vs : List (List Int)} {b : Nat} {la : Option Addr} {lc : Nat} {bs : List Nat} {da : Option Addr} {dc : Nat} {ds : List PH} (H : ShedV h y vs b la lc bs da dc ds) {i : Nat} {z : PH} (hz : ds[i]? = some z) : ∃ v, vs[i]? = some v ∧ z.m = nzF (fun i => v.getD i 0) (opn y.moves).1 := by
  have h1 : (ds.map PH.m)[i]? = some z.m := by rw [List.getElem?_map, hz]; rfl
  rw [H.are, List.getElem?_map] at h1
  cases hv : vs[i]? with
  | none => rw [hv] at h1; cases h1
  | some v => rw [hv] at h1; exact ⟨v, rfl, (Option.some.inj h1).symm⟩
theorem ShedV.cnt {h : Hp} {y : Yard} {vs : List (List Int)} {b : Nat} {la : Option Addr} {lc : Nat} {bs : List Nat} {da : Option Addr} {dc : Nat} {ds : List PH} (H : ShedV h y vs b la lc bs da dc ds) : ds.length = vs.length := by
  have := congrArg List.length H.are
  simpa using this
def addP (l : List Part) (i : Nat) : Int := (l.map fun p => if p.layer = (i : Int) then p.tons else 0).sum
theorem addP_take {l : List Part} {k i : Nat} {p : Part} (h : l[k]? = some p) : addP (l.take (k + 1)) i = addP (l.take k) i + if p.layer = (i : Int) then p.tons else 0 := by
  unfold addP; rw [List.take_add_one, h, List.map_append, List.sum_append_int]; simp
theorem addP_nil (i : Nat) : addP [] i = 0 := rfl
theorem addP_app (a b : List Part) (i : Nat) : addP (a ++ b) i = addP a i + addP b i := by unfold addP; rw [List.map_append, List.sum_append_int]
theorem addP_nn {l : List Part} (h : ∀ p ∈ l, 0 ≤ p.tons) (i : Nat) : 0 ≤ addP l i := by
  refine sumI_nn fun x hx => ?_
  obtain ⟨p, hp, rfl⟩ := List.mem_map.1 hx
  split
  · exact h p hp
  · exact Int.le_refl _
theorem addP_bd {l : List Part} (h : ∀ p ∈ l, 0 ≤ p.tons) (i k : Nat) : 0 ≤ addP (l.take k) i ∧ addP (l.take k) i ≤ addP l i := by
  have h1 := addP_nn (l := l.take k) (fun p hp => h p (List.mem_of_mem_take hp)) i
  have h2 := addP_nn (l := l.drop k) (fun p hp => h p (List.mem_of_mem_drop hp)) i
  have h3 := addP_app (l.take k) (l.drop k) i
  rw [List.take_append_drop] at h3
  omega
theorem addP_nz {f : Nat → Int} (h : ∀ j, 0 ≤ f j) (i : Nat) : ∀ L, addP (nzF f L) i = if i < L then f i else 0
  | 0 => rfl
  | L + 1 => by
    have ih := addP_nz h i L
    have hf := h L
    rw [nzF_succ]
    by_cases hp : f L > 0
    · rw [if_pos hp, addP_app, ih]
      have e : addP [⟨(L : Int), f L⟩] i = if (L : Int) = (i : Int) then f L else 0 := by simp [addP]
      rw [e]
      by_cases hi : i < L
      · rw [if_pos hi, if_neg (by omega), if_pos (by omega)]; omega
      · by_cases he : i = L
        · subst he; rw [if_neg hi, if_pos rfl, if_pos (by omega)]; omega
        · rw [if_neg hi, if_neg (by omega), if_neg (by omega)]; rfl
    · rw [if_neg hp, ih]
      by_cases hi : i < L
      · rw [if_pos hi, if_pos (by omega)]
      · by_cases he : i = L
        · subst he; rw [if_neg hi, if_pos (by omega)]; omega
        · rw [if_neg hi, if_neg (by omega)]
theorem nzF_mem {f : Nat → Int} {L : Nat} {p : Part} (h : p ∈ nzF f L) : 0 < p.tons ∧ 0 ≤ p.layer ∧ p.layer < (L : Int) ∧ p.tons = f p.layer.toNat := by
  unfold nzF at h
  rw [List.mem_filterMap] at h
  obtain ⟨j, hj, he⟩ := h
  rw [List.mem_range] at hj
  split at he
  · cases he; exact ⟨by assumption, by dsimp only; omega, by dsimp only; omega, rfl⟩
  · cases he
def tkV (L : Nat) (us : List (List Int)) (l : List Part) : List Int := (List.range L).map fun i => takenR us i + addP l i
theorem tkV_len (L : Nat) (us : List (List Int)) (l : List Part) : (tkV L us l).length = L := by simp [tkV]
theorem tkV_get {L : Nat} {us : List (List Int)} {l : List Part} {i : Nat} (h : i < L) : (tkV L us l)[i]? = some (takenR us i + addP l i) := by simp [tkV, h]
theorem tkV_set {L : Nat} {us : List (List Int)} {l : List Part} {k i : Nat} {p : Part} (hp : l[k]? = some p) (he : p.layer = (i : Int)) (h : i < L) : (tkV L us (l.take k)).set i (takenR us i + addP (l.take k) i + p.tons) = tkV L us (l.take (k + 1)) := by
  refine List.ext_getElem? fun j => ?_
  rw [List.getElem?_set]
  by_cases hj : j < L
  · rw [tkV_get hj, tkV_get hj, addP_take hp]
    by_cases hi : i = j
    · subst hi; rw [if_pos rfl, if_pos (by rw [tkV_len]; omega), if_pos he, Int.add_assoc]
    · rw [if_neg hi, if_neg (by omega), Int.add_zero]
  · have : ¬ i = j := by omega
    rw [if_neg this, List.getElem?_eq_none (by rw [tkV_len]; omega), List.getElem?_eq_none (by rw [tkV_len]; omega)]
theorem tkV_next {L k : Nat} {us : List (List Int)} {v : List Int} (h : us[k]? = some v) (hl : v.length = L) (hn : ∀ x ∈ v, 0 ≤ x) : tkV L (us.take k) (nzF (fun i => v.getD i 0) L) = tkV L (us.take (k + 1)) [] := by
  refine List.map_congr_left fun i hi => ?_
  rw [List.mem_range] at hi
  rw [addP_nz (fun j => by
    rw [List.getD_eq_getElem?_getD]
    cases hg : v[j]? with
    | none => simp
    | some y => simpa using hn y (List.mem_of_getElem? hg)), if_pos hi, taken_take h, addP_nil, Int.add_zero]
theorem tkV_0 (L : Nat) : tkV L [] [] = List.replicate L 0 := by
  refine List.eq_replicate_iff.2 ⟨tkV_len _ _ _, fun x hx => ?_⟩
  simp only [tkV, List.mem_map] at hx
  obtain ⟨i, _, rfl⟩ := hx
  rfl
/-- What parts yields of the first layers. -/
def partsN (y : Yard) (us : List (List Int)) (i : Nat) : List (List Int × Int) := (List.range i).filterMap fun j => if takenR us j > 0 then some (contF 6 (y.moves.take y.moves.length) (j : Int), takenR us j) else none
def partsL (y : Yard) (us : List (List Int)) : List (List Int × Int) := partsN y us (opn y.moves).1
def ePc (z : List Int × Int) : List Value := [.agg ⟨z.1.flatMap eI⟩, I z.2]
theorem partsN_succ (y : Yard) (us : List (List Int)) (j : Nat) : partsN y us (j + 1) = if takenR us j > 0 then partsN y us j ++ [(contF 6 (y.moves.take y.moves.length) (j : Int), takenR us j)] else partsN y us j := by
  unfold partsN
  rw [List.range_succ, List.filterMap_append]
  by_cases h : takenR us j > 0 <;> simp [h]
theorem partsN_more (y : Yard) (us : List (List Int)) (j : Nat) : ∀ d, ∃ r, partsN y us (j + d) = partsN y us j ++ r
  | 0 => ⟨[], by simp⟩
  | d + 1 => by
    obtain ⟨r, hr⟩ := partsN_more y us j d
    rw [← Nat.add_assoc, partsN_succ, hr]
    split
    · exact ⟨r ++ [_], by rw [List.append_assoc]⟩
    · exact ⟨r, rfl⟩
theorem partsN_at {y : Yard} {us : List (List Int)} {j : Nat} (h : takenR us j > 0) (hj : j < (opn y.moves).1) : (partsL y us)[(partsN y us j).length]? = some (contF 6 (y.moves.take y.moves.length) (j : Int), takenR us j) := by
  obtain ⟨r, hr⟩ := partsN_more y us (j + 1) ((opn y.moves).1 - (j + 1))
  rw [show j + 1 + ((opn y.moves).1 - (j + 1)) = (opn y.moves).1 by omega] at hr
  unfold partsL
  rw [hr, partsN_succ, if_pos h, List.append_assoc, List.getElem?_append_right (Nat.le_refl _), Nat.sub_self]; rfl
theorem partsN_lenS {y : Yard} {us : List (List Int)} {j : Nat} (h : takenR us j > 0) : (partsN y us (j + 1)).length = (partsN y us j).length + 1 := by rw [partsN_succ, if_pos h]; simp
theorem partsN_eq {y : Yard} {us : List (List Int)} {j : Nat} (h : ¬ takenR us j > 0) : partsN y us (j + 1) = partsN y us j := by rw [partsN_succ, if_neg h]
/-- A part of the draws. -/
structure SubV (core : Hp) (y : Yard) (us : List (List Int)) (a : Option Addr) (es : List PH) : Prop where
  sl : SlV core 1 ePH a es
  parts : ∀ z ∈ es, SlV core 2 ePart z.a z.m
  are : es.map PH.m = us.map fun v => nzF (fun i => v.getD i 0) (opn y.moves).1
  len : ∀ v ∈ us, v.length = (opn y.moves).1
  bd : ∀ v ∈ us, ∀ x ∈ v, 0 ≤ x ∧ x ≤ 1048576
  few : us.length ≤ 32
  lay : (opn y.moves).1 ≤ 32
theorem SubV.part {core : Hp} {y : Yard} {us : List (List Int)} {a : Option Addr} {es : List PH} (H : SubV core y us a es) {i : Nat} {z : PH} (hz : es[i]? = some z) : ∃ v, us[i]? = some v ∧ z.m = nzF (fun i => v.getD i 0) (opn y.moves).1 := by
  have h1 : (es.map PH.m)[i]? = some z.m := by rw [List.getElem?_map, hz]; rfl
  rw [H.are, List.getElem?_map] at h1
  cases hv : us[i]? with
  | none => rw [hv] at h1; cases h1
  | some v => rw [hv] at h1; exact ⟨v, rfl, (Option.some.inj h1).symm⟩
theorem SubV.cnt {core : Hp} {y : Yard} {us : List (List Int)} {a : Option Addr} {es : List PH} (H : SubV core y us a es) : es.length = us.length := by
  have := congrArg List.length H.are
  simpa using this
end Go.Proofs.Ytpefpafijadfmaa

/-
  Walks.
-/
namespace Go.Proofs.Ytpefpafijadfmaa
open Go Go.H
set_option maxRecDepth 100000
set_option maxHeartbeats 8000000
set_option linter.all false
theorem Drawn_c {y : Yard} {h : Hp} {R : Ending → Hp → Prop} (hy : YardV h y) (hs : Small y) {draw : Int} (H : ∀ a c G, SlV G 2 ePart a (drawnA y draw).1 → R (.returned (.tuple ⟨[.slice a (drawnA y draw).1.length c, I (drawnA y draw).2]⟩)) (G ++ h)) : ACalls Try.prog 19 ⟨[.agg ⟨eYard y⟩, I draw]⟩ h R := by
  refine calls_of_xc (N := 34) Try.func19 rfl (by rfl) ?_
  obtain ⟨hs1, hs2⟩ := id hs
  refine xc_seq (xc_region ?_)
  refine xr_op rfl rfl (xv_box rfl (fun b2 hb2 => ?_))
  refine xr_op rfl rfl (xv_assign rfl ?_)
  refine xr_op rfl rfl (xv_assign rfl ?_)
  refine xr_end rfl ?_
  refine th_n ?_
  refine xc_seq (xc_region ?_)
  refine xr_op rfl rfl (xv_loadA ty25 rfl rfl (by ((repeat first|exact z_0|assumption|refine z_1 ?_|(refine z_l ?_;(repeat first|exact z_0|assumption|refine z_1 ?_);done)|refine z_r ?_);done)) (by ((try apply evl_some rfl);(repeat (first|exact (rfl : _ = [])|apply evl_cons rfl (by (first|exact v_1|exact v_2|exact v_3|exact v_4|exact v_5|exact v_6|exact v_7|exact v_8|exact v_9|exact rfl))|exact rfl)))) (by rfl) ?_)
  refine xr_op rfl rfl (xv_calls rfl hb30 (newShed_c (hy.sub (by intro z hz; ((repeat first|exact z_0|assumption|refine z_1 ?_|(refine z_l ?_;(repeat first|exact z_0|assumption|refine z_1 ?_);done)|refine z_r ?_);done))) hs (fun hng => up_ret ?_) (fun hgy hpn => up_ret ?_) (fun vs b la lc bs da dc ds G hgy hvs hsh => up_ret ?_)))
  · refine xr_op rfl rfl (xv_move rfl ?_)
    refine xr_op rfl rfl (xv_extract rfl rfl ?_)
    refine xr_op rfl rfl (xv_extract rfl rfl ?_)
    refine xr_op rfl rfl (xv_assign rfl ?_)
    refine xr_op rfl rfl (xv_assign rfl ?_)
    refine xr_end rfl ?_
    refine th_n ?_
    refine xc_seq ?_
    refine xc_block ?_
    refine xc_seq (xc_region ?_)
    refine xr_op rfl rfl (xv_move rfl ?_)
    refine xr_op rfl rfl (xv_neqT rfl rfl (by decide) ?_)
    refine xr_op rfl rfl (xv_assign rfl ?_)
    refine xr_end rfl ?_
    refine th_n ?_
    refine xc_true rfl ?_
    refine xc_seq (xc_region ?_)
    refine xr_op rfl rfl (xv_move rfl ?_)
    refine xr_op rfl rfl (xv_assign rfl ?_)
    refine xr_op rfl rfl (xv_assign rfl ?_)
    refine xr_end rfl ?_
    refine th_n ?_
    refine xc_ret ?_
    refine bk_r ?_
    refine th_r ?_
    refine body_ret (h' := ([] ++ h)) rfl (ro_tmp rfl (ro_tmp rfl ro_nil)) (by (first|((repeat first|exact s_0|exact s_1|exact s_3|refine s_4 ?_|refine s_5 ?_|refine s_6 ?_|refine s_7 ?_);done)|((repeat first|exact s_0|exact s_1|exact s_3|refine s_4 ?_|refine s_5 ?_|refine s_6 ?_|refine s_8 ?_);done))) ?_
    first | (rw [eans] at H; exact H xw.a xw.c G (hsh.parts xw (List.mem_of_getElem? hkw))) | (rw [drawnA_1 hng] at H; exact H none 0 [] (.inl rfl)) | (rw [drawnA_10 hgy hpn] at H; exact H none 0 [] (.inl rfl)) | (rw [drawnA_2 hgy hvs (by omega)] at H; exact H none 0 [] (.inl rfl))
  · refine xr_op rfl rfl (xv_move rfl ?_)
    refine xr_op rfl rfl (xv_extract rfl rfl ?_)
    refine xr_op rfl rfl (xv_extract rfl rfl ?_)
    refine xr_op rfl rfl (xv_assign rfl ?_)
    refine xr_op rfl rfl (xv_assign rfl ?_)
    refine xr_end rfl ?_
    refine th_n ?_
    refine xc_seq ?_
    refine xc_block ?_
    refine xc_seq (xc_region ?_)
    refine xr_op rfl rfl (xv_move rfl ?_)
    refine xr_op rfl rfl (xv_neqT rfl rfl (by decide) ?_)
    refine xr_op rfl rfl (xv_assign rfl ?_)
    refine xr_end rfl ?_
    refine th_n ?_
    refine xc_true rfl ?_
    refine xc_seq (xc_region ?_)
    refine xr_op rfl rfl (xv_move rfl ?_)
    refine xr_op rfl rfl (xv_assign rfl ?_)
    refine xr_op rfl rfl (xv_assign rfl ?_)
    refine xr_end rfl ?_
    refine th_n ?_
    refine xc_ret ?_
    refine bk_r ?_
    refine th_r ?_
    refine body_ret (h' := ([] ++ h)) rfl (ro_tmp rfl (ro_tmp rfl ro_nil)) (by (first|((repeat first|exact s_0|exact s_1|exact s_3|refine s_4 ?_|refine s_5 ?_|refine s_6 ?_|refine s_7 ?_);done)|((repeat first|exact s_0|exact s_1|exact s_3|refine s_4 ?_|refine s_5 ?_|refine s_6 ?_|refine s_8 ?_);done))) ?_
    first | (rw [eans] at H; exact H xw.a xw.c G (hsh.parts xw (List.mem_of_getElem? hkw))) | (rw [drawnA_1 hng] at H; exact H none 0 [] (.inl rfl)) | (rw [drawnA_10 hgy hpn] at H; exact H none 0 [] (.inl rfl)) | (rw [drawnA_2 hgy hvs (by omega)] at H; exact H none 0 [] (.inl rfl))
  · refine xr_op rfl rfl (xv_move rfl ?_)
    refine xr_op rfl rfl (xv_extract rfl rfl ?_)
    refine xr_op rfl rfl (xv_extract rfl rfl ?_)
    refine xr_op rfl rfl (xv_assign rfl ?_)
    refine xr_op rfl rfl (xv_assign rfl ?_)
    refine xr_end rfl ?_
    refine th_n ?_
    refine xc_seq ?_
    refine xc_block ?_
    refine xc_seq (xc_region ?_)
    refine xr_op rfl rfl (xv_move rfl ?_)
    refine xr_op rfl rfl (xv_neqF rfl rfl rfl ?_)
    refine xr_op rfl rfl (xv_assign rfl ?_)
    refine xr_end rfl ?_
    refine th_n ?_
    refine xc_false rfl ?_
    refine xc_seq (xc_region ?_)
    have hcn := hsh.cnt
    have hml := hsh.inv.few
    have hyl : y.moves.length ≤ 32 := hgy.2.2.2
    refine xr_op rfl rfl (xv_move rfl ?_)
    refine xr_op rfl rfl (xv_move rfl ?_)
    refine xr_op rfl rfl (xv_nilp rfl ?_)
    refine xr_op rfl rfl (xv_faddr fl73_2 rfl ?_)
    refine xr_op rfl rfl (xv_load1 ty71 rfl rfl (z_l hsh.top) (by rfl) ?_)
    refine xr_op rfl rfl (xv_len sl71 rfl ?_)
    refine xr_op rfl rfl (xv_sub rfl rfl (wrap_i64 (by (first | omega | (dsimp only at *; omega) | (simp at *; omega))) (by (first | omega | (dsimp only at *; omega) | (simp at *; omega)))) ?_)
    refine xr_op rfl rfl (xv_calls rfl hb31 (within_c _ _ _ (fun hl1 hu2 => up_ret ?_) (fun hn3 => up_ret ?_)))
    · refine xr_op rfl rfl (xv_not rfl ?_)
      refine xr_op rfl rfl (xv_assign rfl ?_)
      refine xr_end rfl ?_
      refine th_n ?_
      refine xc_false rfl ?_
      refine xc_skip ?_
      refine bk_n ?_
      refine th_n ?_
      refine xc_seq (xc_region ?_)
      have hdn : draw.toNat < ds.length := by (first | omega | (dsimp only at *; omega) | (simp at *; omega))
      have hltw : draw.toNat < ds.length := hdn
      obtain ⟨bw, ow, lw, tw, fzw, haw, hmw, hxw⟩ := (hsh.draws).at hltw
      obtain ⟨xw, hkw⟩ : ∃ qq_, ds[draw.toNat]? = some qq_ := ⟨_, List.getElem?_eq_getElem hltw⟩
      obtain ⟨v, hv, hvm⟩ := hsh.part hkw
      have eans := drawnA_0 (draw := draw) hgy hvs (by omega)
      rw [show vs.getD draw.toNat [] = v from by rw [List.getD_eq_getElem?_getD, hv]; rfl, ← hvm] at eans
      refine xr_op rfl rfl (xv_move rfl ?_)
      refine xr_op rfl rfl (xv_nilp rfl ?_)
      refine xr_op rfl rfl (xv_faddr fl73_2 rfl ?_)
      refine xr_op rfl rfl (xv_load1 ty71 rfl rfl (z_l hsh.top) (by rfl) ?_)
      refine xr_op rfl rfl (xv_move rfl ?_)
      refine xr_op rfl rfl (xv_ia (sz := 1) (j := draw.toNat) sl71 ty39 rfl (by rw [haw]; rfl) rfl (by (first | assumption | with_reducible exact Int.toNat_natCast _ | with_reducible rfl | rfl)) (by (first | omega | (dsimp only at *; omega) | (simp at *; omega))) (by (first | omega | (dsimp only at *; omega) | (simp at *; omega))) ?_)
      refine xr_op rfl rfl (xv_load1 ty39 rfl rfl (by ((repeat first|exact z_0|assumption|refine z_1 ?_|(refine z_l ?_;(repeat first|exact z_0|assumption|refine z_1 ?_);done)|refine z_r ?_);done)) (take_get (hxw (draw.toNat) xw hkw) (j := 0) rfl) ?_)
      refine xr_op rfl rfl (xv_assign rfl ?_)
      refine xr_op rfl rfl (xv_assign rfl ?_)
      refine xr_end rfl ?_
      refine th_n ?_
      refine xc_ret ?_
      refine body_ret (h' := (G ++ h)) rfl (ro_tmp rfl (ro_tmp rfl ro_nil)) (by (first|((repeat first|exact s_0|exact s_1|exact s_3|refine s_4 ?_|refine s_5 ?_|refine s_6 ?_|refine s_7 ?_);done)|((repeat first|exact s_0|exact s_1|exact s_3|refine s_4 ?_|refine s_5 ?_|refine s_6 ?_|refine s_8 ?_);done))) ?_
      first | (rw [eans] at H; exact H xw.a xw.c G (hsh.parts xw (List.mem_of_getElem? hkw))) | (rw [drawnA_1 hng] at H; exact H none 0 [] (.inl rfl)) | (rw [drawnA_10 hgy hpn] at H; exact H none 0 [] (.inl rfl)) | (rw [drawnA_2 hgy hvs (by omega)] at H; exact H none 0 [] (.inl rfl))
    · refine xr_op rfl rfl (xv_not rfl ?_)
      refine xr_op rfl rfl (xv_assign rfl ?_)
      refine xr_end rfl ?_
      refine th_n ?_
      refine xc_true rfl ?_
      refine xc_seq (xc_region ?_)
      refine xr_op rfl rfl (xv_assign rfl ?_)
      refine xr_op rfl rfl (xv_assign rfl ?_)
      refine xr_end rfl ?_
      refine th_n ?_
      refine xc_ret ?_
      refine bk_r ?_
      refine th_r ?_
      refine body_ret (h' := ([] ++ h)) rfl (ro_tmp rfl (ro_tmp rfl ro_nil)) (by (first|((repeat first|exact s_0|exact s_1|exact s_3|refine s_4 ?_|refine s_5 ?_|refine s_6 ?_|refine s_7 ?_);done)|((repeat first|exact s_0|exact s_1|exact s_3|refine s_4 ?_|refine s_5 ?_|refine s_6 ?_|refine s_8 ?_);done))) ?_
      first | (rw [eans] at H; exact H xw.a xw.c G (hsh.parts xw (List.mem_of_getElem? hkw))) | (rw [drawnA_1 hng] at H; exact H none 0 [] (.inl rfl)) | (rw [drawnA_10 hgy hpn] at H; exact H none 0 [] (.inl rfl)) | (rw [drawnA_2 hgy hvs (by omega)] at H; exact H none 0 [] (.inl rfl))

theorem Left_c {y : Yard} {h : Hp} {R : Ending → Hp → Prop} (hy : YardV h y) (hs : Small y) (H : ∀ a c G, SlV G 2 ePart a (leftA y).1 → R (.returned (.tuple ⟨[.slice a (leftA y).1.length c, I (leftA y).2]⟩)) (G ++ h)) : ACalls Try.prog 21 ⟨[.agg ⟨eYard y⟩]⟩ h R := by
  refine calls_of_xc (N := 41) Try.func21 rfl (by rfl) ?_
  obtain ⟨hs1, hs2⟩ := id hs
  refine xc_seq (xc_region ?_)
  refine xr_op rfl rfl (xv_box rfl (fun b1 hb1 => ?_))
  refine xr_op rfl rfl (xv_assign rfl ?_)
  refine xr_op rfl rfl (xv_assign rfl ?_)
  refine xr_end rfl ?_
  refine th_n ?_
  refine xc_seq (xc_region ?_)
  refine xr_op rfl rfl (xv_loadA ty25 rfl rfl (by ((repeat first|exact z_0|assumption|refine z_1 ?_|(refine z_l ?_;(repeat first|exact z_0|assumption|refine z_1 ?_);done)|refine z_r ?_);done)) (by ((try apply evl_some rfl);(repeat (first|exact (rfl : _ = [])|apply evl_cons rfl (by (first|exact v_1|exact v_2|exact v_3|exact v_4|exact v_5|exact v_6|exact v_7|exact v_8|exact v_9|exact rfl))|exact rfl)))) (by rfl) ?_)
  refine xr_op rfl rfl (xv_calls rfl hb30 (newShed_c (hy.sub (by intro z hz; ((repeat first|exact z_0|assumption|refine z_1 ?_|(refine z_l ?_;(repeat first|exact z_0|assumption|refine z_1 ?_);done)|refine z_r ?_);done))) hs (fun hng => up_ret ?_) (fun hgy hpn => up_ret ?_) (fun vs b la lc bs da dc ds G hgy hvs hsh => up_ret ?_)))
  · refine xr_op rfl rfl (xv_move rfl ?_)
    refine xr_op rfl rfl (xv_extract rfl rfl ?_)
    refine xr_op rfl rfl (xv_extract rfl rfl ?_)
    refine xr_op rfl rfl (xv_assign rfl ?_)
    refine xr_op rfl rfl (xv_assign rfl ?_)
    refine xr_end rfl ?_
    refine th_n ?_
    refine xc_seq ?_
    refine xc_seq (xc_region ?_)
    refine xr_op rfl rfl (xv_move rfl ?_)
    refine xr_op rfl rfl (xv_neqT rfl rfl (by decide) ?_)
    refine xr_end rfl ?_
    refine th_n ?_
    refine xc_true rfl ?_
    refine xc_seq (xc_region ?_)
    refine xr_op rfl rfl (xv_move rfl ?_)
    refine xr_op rfl rfl (xv_assign rfl ?_)
    refine xr_op rfl rfl (xv_assign rfl ?_)
    refine xr_end rfl ?_
    refine th_n ?_
    refine xc_ret ?_
    refine th_r ?_
    refine body_ret (h' := ([] ++ h)) rfl (ro_tmp rfl (ro_tmp rfl ro_nil)) (by (first|((repeat first|exact s_0|exact s_1|exact s_3|refine s_4 ?_|refine s_5 ?_|refine s_6 ?_|refine s_7 ?_);done)|((repeat first|exact s_0|exact s_1|exact s_3|refine s_4 ?_|refine s_5 ?_|refine s_6 ?_|refine s_8 ?_);done))) ?_
    first | (rw [eans] at H; rw [Vec.val_ad hU]; exact H U.ad U.cp _ (Vec.slvA ePart_len rfl hU)) | (rw [leftA_1 hng] at H; exact H none 0 [] (.inl rfl)) | (rw [leftA_10 hgy hpn] at H; exact H none 0 [] (.inl rfl))
  · refine xr_op rfl rfl (xv_move rfl ?_)
    refine xr_op rfl rfl (xv_extract rfl rfl ?_)
    refine xr_op rfl rfl (xv_extract rfl rfl ?_)
    refine xr_op rfl rfl (xv_assign rfl ?_)
    refine xr_op rfl rfl (xv_assign rfl ?_)
    refine xr_end rfl ?_
    refine th_n ?_
    refine xc_seq ?_
    refine xc_seq (xc_region ?_)
    refine xr_op rfl rfl (xv_move rfl ?_)
    refine xr_op rfl rfl (xv_neqT rfl rfl (by decide) ?_)
    refine xr_end rfl ?_
    refine th_n ?_
    refine xc_true rfl ?_
    refine xc_seq (xc_region ?_)
    refine xr_op rfl rfl (xv_move rfl ?_)
    refine xr_op rfl rfl (xv_assign rfl ?_)
    refine xr_op rfl rfl (xv_assign rfl ?_)
    refine xr_end rfl ?_
    refine th_n ?_
    refine xc_ret ?_
    refine th_r ?_
    refine body_ret (h' := ([] ++ h)) rfl (ro_tmp rfl (ro_tmp rfl ro_nil)) (by (first|((repeat first|exact s_0|exact s_1|exact s_3|refine s_4 ?_|refine s_5 ?_|refine s_6 ?_|refine s_7 ?_);done)|((repeat first|exact s_0|exact s_1|exact s_3|refine s_4 ?_|refine s_5 ?_|refine s_6 ?_|refine s_8 ?_);done))) ?_
    first | (rw [eans] at H; rw [Vec.val_ad hU]; exact H U.ad U.cp _ (Vec.slvA ePart_len rfl hU)) | (rw [leftA_1 hng] at H; exact H none 0 [] (.inl rfl)) | (rw [leftA_10 hgy hpn] at H; exact H none 0 [] (.inl rfl))
  · refine xr_op rfl rfl (xv_move rfl ?_)
    refine xr_op rfl rfl (xv_extract rfl rfl ?_)
    refine xr_op rfl rfl (xv_extract rfl rfl ?_)
    refine xr_op rfl rfl (xv_assign rfl ?_)
    refine xr_op rfl rfl (xv_assign rfl ?_)
    refine xr_end rfl ?_
    refine th_n ?_
    refine xc_seq ?_
    refine xc_seq (xc_region ?_)
    refine xr_op rfl rfl (xv_move rfl ?_)
    refine xr_op rfl rfl (xv_neqF rfl rfl rfl ?_)
    refine xr_end rfl ?_
    refine th_n ?_
    refine xc_false rfl ?_
    refine xc_skip ?_
    refine th_n ?_
    refine xc_seq ?_
    refine xc_seq (xc_region ?_)
    refine xr_op rfl rfl (xv_move rfl ?_)
    refine xr_op rfl rfl (xv_nilp rfl ?_)
    refine xr_op rfl rfl (xv_faddr fl73_1 rfl ?_)
    refine xr_op rfl rfl (xv_load1 ty70 rfl rfl (z_l hsh.top) (by rfl) ?_)
    refine xr_op rfl rfl (xv_len sl70 rfl ?_)
    refine xr_op rfl rfl (xv_move rfl ?_)
    refine xr_end rfl ?_
    refine th_n ?_
    refine xc_block ?_
    obtain ⟨hg1, hmv, ⟨hn1, hn6⟩, hl32⟩ := id hgy
    have hop := opn_le y.moves
    have hbn := hsh.len
    refine xc_loop (σ := Nat × Vec) (fun z => z.1 ≤ bs.length ∧ z.2.ok 2 (nzF (roomR y.coals.length y.moves y.moves.length vs) z.1).length ((nzF (roomR y.coals.length y.moves y.moves.length vs) z.1).flatMap ePart)) (fun z => (((((emp.put (some 1) (.pointer (some ⟨b1, 0, none⟩))).put (some 2) (z.2.val (nzF (roomR y.coals.length y.moves y.moves.length vs) z.1).length)).put (some 18) (.slice la bs.length lc)).put (some 19) (I bs.length)).put (some 20) (I z.1))) (fun z => (z.2.hp 43 ((nzF (roomR y.coals.length y.moves y.moves.length vs) z.1).flatMap ePart) ++ (G ++ (b1, .cells ⟨eYard y⟩ 25) :: h))) (fun z => bs.length - z.1) ((0, .nil) : Nat × Vec) ⟨Nat.zero_le _, rfl, rfl⟩ (le_put (le_put (le_put (le_put (le_put (le_emp _) rfl) rfl) rfl) rfl) rfl) (by (first|((repeat first|exact s_0|exact s_1|exact s_3|refine s_4 ?_|refine s_5 ?_|refine s_6 ?_|refine s_7 ?_);done)|((repeat first|exact s_0|exact s_1|exact s_3|refine s_4 ?_|refine s_5 ?_|refine s_6 ?_|refine s_8 ?_);done))) ?_
    rintro ⟨j, U⟩ ⟨hj, hU⟩
    dsimp only at hj hU
    have hnl := nzF_len (roomR y.coals.length y.moves y.moves.length vs) j
    refine xc_seq (xc_region ?_)
    refine xr_op rfl rfl (xv_lss2 rfl rfl (fun q1 => ?_) (fun q1 => ?_))
    · refine xr_end rfl ?_
      refine th_n ?_
      refine xc_seq ?_
      refine xc_true rfl ?_
      refine xc_skip ?_
      refine th_n ?_
      refine xc_seq ?_
      refine xc_block ?_
      refine xc_seq (xc_region ?_)
      have hltl : j < bs.length := by (first | omega | (dsimp only at *; omega) | (simp at *; omega))
      obtain ⟨bl, ol, ll, tl, fzl, hal, hml, hxl⟩ := (hsh.lays).at hltl
      obtain ⟨xl, hkl⟩ : ∃ qq_, bs[j]? = some qq_ := ⟨_, List.getElem?_eq_getElem hltl⟩
      have hlay := hsh.lay j xl hkl
      have hrj := room_nn hsh.inv j
      have hrj2 := room_le hmv hsh.inv j
      have hbig : (y.coals.length : Int) * (1048576 * (y.moves.length : Int)) ≤ 6 * (1048576 * 32) := Int.mul_le_mul (by omega) (by omega) (by omega) (by omega)
      refine xr_op rfl rfl (xv_move rfl ?_)
      refine xr_op rfl rfl (xv_ia (sz := 1) (j := j) sl70 ty105 rfl (by rw [hal]; rfl) rfl (by (first | assumption | with_reducible exact Int.toNat_natCast _ | with_reducible rfl | rfl)) (by (first | omega | (dsimp only at *; omega) | (simp at *; omega))) (by (first | omega | (dsimp only at *; omega) | (simp at *; omega))) ?_)
      refine xr_op rfl rfl (xv_load1 ty105 rfl rfl (z_r (z_l hml)) (take_get (hxl (j) xl hkl) (j := 0) rfl) ?_)
      refine xr_op rfl rfl (xv_assign rfl ?_)
      refine xr_op rfl rfl (xv_assign rfl ?_)
      refine xr_end rfl ?_
      refine th_n ?_
      refine xc_seq (xc_region ?_)
      refine xr_op rfl rfl (xv_move rfl ?_)
      refine xr_op rfl rfl (xv_nilp rfl ?_)
      refine xr_op rfl rfl (xv_faddr fl107_1 rfl ?_)
      refine xr_op rfl rfl (xv_load1 ty3 rfl rfl (z_r (z_l hlay)) (layF_left (by omega)) ?_)
      refine xr_op rfl rfl (xv_gtr2 rfl rfl (fun q2 => ?_) (fun q2 => ?_))
      · refine xr_end rfl ?_
        refine th_n ?_
        refine xc_true rfl ?_
        refine xc_region ?_
        refine xr_op rfl rfl (xv_move rfl ?_)
        refine xr_op rfl rfl (xv_move rfl ?_)
        refine xr_op rfl rfl (xv_move rfl ?_)
        refine xr_op rfl rfl (xv_nilp rfl ?_)
        refine xr_op rfl rfl (xv_faddr fl107_1 rfl ?_)
        refine xr_op rfl rfl (xv_load1 ty3 rfl rfl (z_r (z_l hlay)) (layF_left (by omega)) ?_)
        refine xr_op rfl rfl (xv_build bt43 rfl (by ((try apply evl_some rfl);(repeat (first|exact (rfl : _ = [])|apply evl_cons rfl (by (first|exact v_1|exact v_2|exact v_3|exact v_4|exact v_5|exact v_6|exact v_7|exact v_8|exact v_9|exact rfl))|exact rfl)))) ?_)
        refine xr_op rfl rfl ((al_buildSlice sl39 ty43 rfl rfl rfl rfl rfl (by ((try apply evl_some rfl);(repeat (first|exact (rfl : _ = [])|apply evl_cons rfl (by (first|exact v_1|exact v_2|exact v_3|exact v_4|exact v_5|exact v_6|exact v_7|exact v_8|exact v_9|exact rfl))|exact rfl))))).xv (fun b3 hb3 => ?_))
        refine xr_op rfl rfl (xv_append (V := U) (n := (nzF (roomR y.coals.length y.moves y.moves.length vs) j).length) (xs := (nzF (roomR y.coals.length y.moves y.moves.length vs) j).flatMap ePart) sl39 ty43 rfl rfl rfl hU (.there .here) (by ((repeat first|exact z_0|assumption|refine z_1 ?_|(refine z_l ?_;(repeat first|exact z_0|assumption|refine z_1 ?_);done)|refine z_r ?_);done)) (by ((try apply evl_some rfl);(repeat (first|exact (rfl : _ = [])|apply evl_cons rfl (by (first|exact v_1|exact v_2|exact v_3|exact v_4|exact v_5|exact v_6|exact v_7|exact v_8|exact v_9|exact rfl))|exact rfl)))) rfl rfl (by (first | omega | (dsimp only at *; omega) | (simp at *; omega))) (by simp only []; (first | omega | (dsimp only at *; omega) | (simp at *; omega))) (by (first | omega | (dsimp only at *; omega) | (simp at *; omega))) (fun U2 hU2 => ?_))
        refine xr_op rfl rfl (xv_assign rfl ?_)
        refine xr_end rfl ?_
        refine bk_n ?_
        refine th_n ?_
        refine xc_region ?_
        refine xr_op rfl rfl (xv_add rfl rfl (wrap_i64 (by (first | omega | (dsimp only at *; omega) | (simp at *; omega))) (by (first | omega | (dsimp only at *; omega) | (simp at *; omega)))) ?_)
        refine xr_op rfl rfl (xv_move rfl ?_)
        refine xr_end rfl ?_
        have hnz : nzF (roomR y.coals.length y.moves y.moves.length vs) (j + 1) = nzF (roomR y.coals.length y.moves y.moves.length vs) j ++ [⟨(j : Int), (roomR y.coals.length y.moves y.moves.length vs) j⟩] := by rw [nzF_succ]; exact if_pos (by (first | omega | (dsimp only at *; omega) | (simp at *; omega)))
        exact rnd ((j + 1, U2) : Nat × Vec) ⟨by (first | omega | (dsimp only at *; omega) | (simp at *; omega)), by dsimp only; rw [hnz, List.length_append, List.flatMap_append]; exact hU2⟩ (by (first | omega | (dsimp only at *; omega) | (simp at *; omega))) (le_put (le_put (le_put (le_put (le_put (le_emp _) rfl) (by dsimp only; rw [hnz, List.length_append]; rfl)) rfl) rfl) rfl) (by dsimp only; rw [hnz, List.flatMap_append]; (first|((repeat first|exact s_0|exact s_1|exact s_3|refine s_4 ?_|refine s_5 ?_|refine s_6 ?_|refine s_7 ?_);done)|((repeat first|exact s_0|exact s_1|exact s_3|refine s_4 ?_|refine s_5 ?_|refine s_6 ?_|refine s_8 ?_);done)))
      · refine xr_end rfl ?_
        refine th_n ?_
        refine xc_false rfl ?_
        refine xc_skip ?_
        refine bk_n ?_
        refine th_n ?_
        refine xc_region ?_
        refine xr_op rfl rfl (xv_add rfl rfl (wrap_i64 (by (first | omega | (dsimp only at *; omega) | (simp at *; omega))) (by (first | omega | (dsimp only at *; omega) | (simp at *; omega)))) ?_)
        refine xr_op rfl rfl (xv_move rfl ?_)
        refine xr_end rfl ?_
        have hnz : nzF (roomR y.coals.length y.moves y.moves.length vs) (j + 1) = nzF (roomR y.coals.length y.moves y.moves.length vs) j := by rw [nzF_succ]; exact if_neg (by (first | omega | (dsimp only at *; omega) | (simp at *; omega)))
        exact rnd ((j + 1, U) : Nat × Vec) ⟨by (first | omega | (dsimp only at *; omega) | (simp at *; omega)), by dsimp only; rw [hnz]; exact hU⟩ (by (first | omega | (dsimp only at *; omega) | (simp at *; omega))) (le_put (le_put (le_put (le_put (le_put (le_emp _) rfl) (by dsimp only; rw [hnz]; rfl)) rfl) rfl) rfl) (by dsimp only; rw [hnz]; (first|((repeat first|exact s_0|exact s_1|exact s_3|refine s_4 ?_|refine s_5 ?_|refine s_6 ?_|refine s_7 ?_);done)|((repeat first|exact s_0|exact s_1|exact s_3|refine s_4 ?_|refine s_5 ?_|refine s_6 ?_|refine s_8 ?_);done)))
    · refine xr_end rfl ?_
      refine th_n ?_
      refine xc_seq ?_
      refine xc_false rfl ?_
      refine xc_exit ?_
      refine th_x ?_
      refine th_x ?_
      refine bk_same ?_
      refine th_n ?_
      refine xc_seq (xc_region ?_)
      obtain rfl : bs.length = j := by (first | omega | (dsimp only at *; omega) | (simp at *; omega))
      have eans := leftA_0 hgy hvs
      rw [← hbn] at eans
      refine xr_op rfl rfl (xv_move rfl ?_)
      refine xr_op rfl rfl (xv_assign rfl ?_)
      refine xr_op rfl rfl (xv_assign rfl ?_)
      refine xr_end rfl ?_
      refine th_n ?_
      refine xc_ret ?_
      refine body_ret (h' := (U.hp 43 ((nzF (roomR y.coals.length y.moves y.moves.length vs) bs.length).flatMap ePart) ++ h)) rfl (ro_tmp rfl (ro_tmp rfl ro_nil)) (by (first|((repeat first|exact s_0|exact s_1|exact s_3|refine s_4 ?_|refine s_5 ?_|refine s_6 ?_|refine s_7 ?_);done)|((repeat first|exact s_0|exact s_1|exact s_3|refine s_4 ?_|refine s_5 ?_|refine s_6 ?_|refine s_8 ?_);done))) ?_
      first | (rw [eans] at H; rw [Vec.val_ad hU]; exact H U.ad U.cp _ (Vec.slvA ePart_len rfl hU)) | (rw [leftA_1 hng] at H; exact H none 0 [] (.inl rfl)) | (rw [leftA_10 hgy hpn] at H; exact H none 0 [] (.inl rfl))

end Go.Proofs.Ytpefpafijadfmaa
