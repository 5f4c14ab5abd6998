/-
  Carts whose order is turned; what the laws ask of carts.
-/
import Derived.Test.YtlailecnbdlknaaW19
set_option linter.all false
namespace Go.Proofs.Ytlailecnbdlknaa
open Go Go.H
set_option maxRecDepth 100000
def eW (n : Int) : List Value := [.int .u32 n]
theorem eW_len (x : Int) : (eW x).length = 1 := rfl
theorem tmod_bd {a d : Int} (ha : 0 ≤ a) (hd : 0 < d) : 0 ≤ a.tmod d ∧ a.tmod d < d := ⟨Int.tmod_nonneg _ ha, Int.tmod_lt_of_pos _ hd⟩
theorem tmod_nat {a b : Int} {m n : Nat} (ha : a = m) (hb : b = n) : a.tmod b = ((m % n : Nat) : Int) := by subst ha; subst hb; rfl
def w0 : Weigh := ⟨⟨0, 0⟩, ⟨0, 0⟩⟩
def turnL (l : List Weigh) (t : Nat) (k : Nat) : List Weigh := (List.range k).map fun i => l.getD ((i + t) % l.length) w0
theorem turnL_len {l : List Weigh} {t k : Nat} : (turnL l t k).length = k := by simp [turnL]
theorem turnL_succ {l : List Weigh} {t k : Nat} {x : Weigh} (h : l[(k + t) % l.length]? = some x) : turnL l t (k + 1) = turnL l t k ++ [x] := by
  simp [turnL, List.range_succ, List.getD, h]
theorem map_getD (l : List Weigh) : (List.range l.length).map (fun i => l.getD i w0) = l := by
  refine List.ext_getElem? fun i => ?_
  by_cases h : i < l.length
  · simp [List.getD, h]
  · simp [List.getElem?_eq_none (Nat.le_of_not_lt h)]; omega
theorem turnL_all {l : List Weigh} {t : Nat} (h : 0 < l.length) : (turnL l t l.length).Perm l := by
  have hs : t % l.length < l.length := Nat.mod_lt _ h
  have key : turnL l t l.length = l.drop (t % l.length) ++ l.take (t % l.length) := by
    refine List.ext_getElem? fun i => ?_
    by_cases hi : i < l.length
    · have h1 : (turnL l t l.length)[i]? = some (l.getD ((i + t) % l.length) w0) := by simp [turnL, hi]
      have h2 : (i + t) % l.length < l.length := Nat.mod_lt _ h
      have h3 : l.getD ((i + t) % l.length) w0 = l[(i + t) % l.length] := by simp [List.getD, h2]
      rw [h1, h3]
      have h4 : (i + t) % l.length = (i + t % l.length) % l.length := by rw [Nat.add_mod, Nat.mod_eq_of_lt hi, Nat.add_mod i (t % l.length), Nat.mod_mod, Nat.mod_eq_of_lt hi]
      by_cases hc : i + t % l.length < l.length
      · have h5 : (i + t) % l.length = i + t % l.length := by rw [h4, Nat.mod_eq_of_lt hc]
        rw [List.getElem?_append_left (by rw [List.length_drop]; omega), List.getElem?_drop, List.getElem?_eq_getElem (by omega)]
        simp only [h5]
        congr 2
        omega
      · have h5 : (i + t) % l.length = i + t % l.length - l.length := by rw [h4, Nat.mod_eq_sub_mod (by omega), Nat.mod_eq_of_lt (by omega)]
        rw [List.getElem?_append_right (by rw [List.length_drop]; omega), List.length_drop, List.getElem?_take_of_lt (by omega), List.getElem?_eq_getElem (by omega)]
        simp only [h5]
        congr 2
        omega
    · rw [List.getElem?_eq_none (by rw [turnL_len]; omega), List.getElem?_eq_none (by simp; omega)]
  rw [key]
  exact List.perm_append_comm.trans (by rw [List.take_append_drop])
theorem sum_perm {a b : List Int} (h : a.Perm b) : a.sum = b.sum := by
  induction h with
  | nil => rfl
  | cons x _ ih => simp [ih]
  | swap x y l => simp; omega
  | trans _ _ ih1 ih2 => exact ih1.trans ih2
theorem sumS_perm {a b : List Span} (h : a.Perm b) : sumS a = sumS b := by
  unfold sumS
  rw [sum_perm (h.map Span.lo), sum_perm (h.map Span.hi)]
theorem turn_sum {l : List Weigh} {t : Nat} : sumS ((turnL l t l.length).map cart) = sumS (l.map cart) := by
  rcases Nat.eq_zero_or_pos l.length with h | h
  · rw [List.length_eq_zero_iff.1 h]; rfl
  · exact sumS_perm ((turnL_all h).map cart)
theorem turn_ok {l : List Weigh} {t : Nat} (H : ∀ x ∈ l, weighOk x) : ∀ x ∈ turnL l t l.length, weighOk x := fun x hx => by
  rcases Nat.eq_zero_or_pos l.length with h | h
  · have h1 : (turnL l t l.length).length = 0 := by rw [turnL_len, h]
    rw [List.length_eq_zero_iff.1 h1] at hx
    cases hx
  · exact H x ((turnL_all h).mem_iff.1 hx)
theorem take_all {α : Type} {P : α → Prop} {l : List α} {k : Nat} {x : α} (h : l[k]? = some x) : (∀ y ∈ l.take (k + 1), P y) ↔ (∀ y ∈ l.take k, P y) ∧ P x := by
  rw [List.take_add_one, h]
  simp [or_imp, forall_and]
section
variable {h : Hp} {R : Ending → Hp → Prop}
theorem WeighingT_c {x : Weigh} (hw : weighOk x) (H : R (.returned (.bool true)) h) : ACalls Try.prog 22 ⟨[.agg ⟨eWeigh x⟩]⟩ h R := Weighing_c (fun _ => H) (fun hn => absurd hw hn)
theorem CarriedB_c {a : Option Addr} {c : Nat} {l : List Weigh} (hl : SlV h 4 eWeigh a l) (hlm : l.length ≤ 1000)
    (H1 : ∀ e : Int, e ≠ 0 → ¬ (l.length ≤ 32 ∧ ∀ x ∈ l, weighOk x) → R (.returned (.tuple ⟨[.slice none 0 0, .agg ⟨[I 0, I 0]⟩, I e]⟩)) h)
    (H3 : l.length ≤ 32 → (∀ x ∈ l, weighOk x) → ∀ a c q, SlV q 2 eSpan a (l.map cart) → R (.returned (.tuple ⟨[.slice a l.length c, .agg ⟨eSpan (sumS (l.map cart))⟩, I 0]⟩)) (q ++ h)) :
    ACalls Try.prog 18 ⟨[.slice a l.length c]⟩ h R := by
  refine Carried_c hl hlm (fun hn => H1 3 (by decide) (fun hq => by have := hq.1; omega)) (fun _ hn => H1 1 (by decide) (fun hq => hn hq.2)) (fun V h32 hok hV => ?_)
  have hV' : V.ok 2 (l.map cart).length ((l.map cart).flatMap eSpan) := by rw [List.length_map]; exact hV
  obtain ⟨a, c, hv, hs⟩ := Vec.slv (enc := eSpan) (t := 41) (h := V.hp 41 ((l.map cart).flatMap eSpan)) eSpan_len hV' (fun _ hz => hz)
  rw [List.length_map] at hv
  rw [hv]
  exact H3 h32 hok a c _ hs
theorem CarriedT_c {a : Option Addr} {c : Nat} {l : List Weigh} {n : Nat} (hn : l.length = n) (hl : SlV h 4 eWeigh a l) (h32 : l.length ≤ 32) (hok : ∀ x ∈ l, weighOk x)
    (H3 : ∀ a c q, SlV q 2 eSpan a (l.map cart) → R (.returned (.tuple ⟨[.slice a l.length c, .agg ⟨eSpan (sumS (l.map cart))⟩, I 0]⟩)) (q ++ h)) :
    ACalls Try.prog 18 ⟨[.slice a n c]⟩ h R := by
  subst hn
  exact CarriedB_c hl (by omega) (fun _ _ hn => absurd ⟨h32, hok⟩ hn) (fun _ _ a c q hs => H3 a c q hs)
end
end Go.Proofs.Ytlailecnbdlknaa
