/-
  The order of sales; sorting by insertion, in plain lists.
-/
import Derived.Test.YtlailecnbdlknaaP1
set_option linter.all false
namespace Go.Proofs.Ytlailecnbdlknaa
open Go Go.H
def sale (ss : List Sale) (i : Nat) : Sale := ss.getD i ⟨0, 0, 0⟩
theorem sale_at {ss : List Sale} {i : Nat} {x : Sale} (h : ss[i]? = some x) : sale ss i = x := by simp [sale, List.getD, h]
def cmpS (ss : List Sale) (i k : Int) : Int := if (sale ss k.toNat).price - (sale ss i.toNat).price ≠ 0 then (sale ss k.toNat).price - (sale ss i.toNat).price else i - k
structure Cmp (cm : Int → Int → Int) : Prop where
  asy : ∀ {a b : Int}, cm a b < 0 → ¬ cm b a < 0
  tra : ∀ {a b c : Int}, ¬ cm b a < 0 → ¬ cm c b < 0 → ¬ cm c a < 0
theorem cmpS_neg (ss : List Sale) (i k : Int) : cmpS ss i k < 0 ↔ (sale ss k.toNat).price < (sale ss i.toNat).price ∨ ((sale ss k.toNat).price = (sale ss i.toNat).price ∧ i < k) := by
  unfold cmpS; split <;> omega
theorem cmpS_ok (ss : List Sale) : Cmp (cmpS ss) where
  asy := by intro a b; rw [cmpS_neg, cmpS_neg]; omega
  tra := by intro a b c; rw [cmpS_neg, cmpS_neg, cmpS_neg]; omega
def nat (zs : List Int) (p : Nat) : Int := zs.getD p 0
theorem nat_at {zs : List Int} {p : Nat} {x : Int} (h : zs[p]? = some x) : nat zs p = x := by simp [nat, List.getD, h]
theorem nat_eq {zs : List Int} {p : Nat} (h : p < zs.length) : nat zs p = zs[p] := by simp [nat, List.getD, h]
structure Ins (cm : Int → Int → Int) (xs zs : List Int) (i j : Nat) : Prop where
  perm : zs.Perm xs
  ji : j ≤ i
  ord : ∀ p q, p < q → q ≤ i → p ≠ j → q ≠ j → ¬ cm (nat zs q) (nat zs p) < 0
  aft : ∀ q, j < q → q ≤ i → ¬ cm (nat zs q) (nat zs j) < 0
def Srt (cm : Int → Int → Int) (xs zs : List Int) (i : Nat) : Prop := zs.Perm xs ∧ ∀ p q, p < q → q < i → ¬ cm (nat zs q) (nat zs p) < 0
theorem Srt.one {cm : Int → Int → Int} {xs : List Int} : Srt cm xs xs 1 := ⟨List.Perm.refl _, fun p q h1 h2 => by omega⟩
theorem Srt.ins {cm : Int → Int → Int} {xs zs : List Int} {i : Nat} (H : Srt cm xs zs i) : Ins cm xs zs i i :=
  ⟨H.1, Nat.le_refl _, fun p q h1 h2 h3 h4 => H.2 p q h1 (by omega), fun q h1 h2 => by omega⟩
theorem Ins.done0 {cm : Int → Int → Int} {xs zs : List Int} {i : Nat} (H : Ins cm xs zs i 0) : Srt cm xs zs (i + 1) :=
  ⟨H.perm, fun p q h1 h2 => by
    by_cases hp : p = 0
    · subst hp; exact H.aft q h1 (by omega)
    · exact H.ord p q h1 (by omega) hp (by omega)⟩
theorem Ins.done {cm : Int → Int → Int} (hc : Cmp cm) {xs zs : List Int} {i j : Nat} (H : Ins cm xs zs i j) (hj : 0 < j) (hl : ¬ cm (nat zs j) (nat zs (j - 1)) < 0) : Srt cm xs zs (i + 1) :=
  ⟨H.perm, fun p q h1 h2 => by
    by_cases hp : p = j
    · subst hp; exact H.aft q h1 (by omega)
    · by_cases hq : q = j
      · subst hq
        by_cases hp1 : p = q - 1
        · subst hp1; exact hl
        · exact hc.tra (H.ord p (q - 1) (by omega) (by have := H.ji; omega) hp (by omega)) hl
      · exact H.ord p q h1 (by omega) hp hq⟩
def swp (zs : List Int) (j : Nat) : List Int := (zs.set j (nat zs (j - 1))).set (j - 1) (nat zs j)
theorem swp_perm {zs : List Int} {j : Nat} (hj : j < zs.length) : (swp zs j).Perm zs := by
  unfold swp
  rw [nat_eq hj, nat_eq (show j - 1 < zs.length by omega)]
  exact List.set_set_perm hj (by omega)
theorem swp_nat {zs : List Int} {j p : Nat} (h0 : 0 < j) (hj : j < zs.length) : nat (swp zs j) p = if p = j then nat zs (j - 1) else if p = j - 1 then nat zs j else nat zs p := by
  simp only [swp, nat, List.getD, List.getElem?_set, List.length_set]
  by_cases h1 : p = j
  · subst h1
    rw [if_neg (by omega), if_pos rfl, if_pos hj, if_pos rfl]; rfl
  · rw [if_neg h1]
    by_cases h2 : p = j - 1
    · subst h2
      rw [if_pos rfl, if_pos (by omega), if_pos rfl]; rfl
    · rw [if_neg (by omega), if_neg (by omega), if_neg h2]
theorem Ins.step {cm : Int → Int → Int} (hc : Cmp cm) {xs zs : List Int} {i j : Nat} (H : Ins cm xs zs i j) (hi : i < zs.length) (hj : 0 < j) (hl : cm (nat zs j) (nat zs (j - 1)) < 0) : Ins cm xs (swp zs j) i (j - 1) := by
  have hji := H.ji
  have hjl : j < zs.length := by omega
  refine ⟨(swp_perm hjl).trans H.perm, by omega, fun p q h1 h2 h3 h4 => ?_, fun q h1 h2 => ?_⟩
  · rw [swp_nat hj hjl, swp_nat hj hjl]
    by_cases hq : q = j
    · subst hq
      rw [if_pos rfl, if_neg (by omega), if_neg h3]
      exact H.ord p (q - 1) (by omega) (by omega) (by omega) (by omega)
    · rw [if_neg hq, if_neg h4]
      by_cases hp : p = j
      · subst hp
        rw [if_pos rfl]
        exact H.ord (p - 1) q (by omega) h2 (by omega) hq
      · rw [if_neg hp, if_neg h3]
        exact H.ord p q h1 h2 hp hq
  · rw [swp_nat hj hjl, swp_nat hj hjl, if_neg (show ¬ j - 1 = j by omega), if_pos rfl]
    by_cases hq : q = j
    · subst hq; rw [if_pos rfl]; exact hc.asy hl
    · rw [if_neg hq, if_neg (by omega)]; exact H.aft q (by omega) h2
theorem Srt.sorted {cm : Int → Int → Int} {xs zs : List Int} {n : Nat} (H : Srt cm xs zs n) (hn : xs.length ≤ n) : zs.Pairwise (fun a b => ¬ cm b a < 0) := by
  rw [List.pairwise_iff_getElem]
  intro i j hi hj hij
  have hl := H.1.length_eq
  have := H.2 i j hij (by omega)
  rwa [nat_eq hi, nat_eq hj] at this
theorem ints_at {zs sp : List Value} {l : List Int} {k : Nat} {x : Int} (h : l[k]? = some x) : (l.flatMap eI ++ sp)[0 + k * 1]? = some (I x) := take_get (flat_at eI_len sp l k h) (j := 0) rfl
theorem ints_set {l : List Int} {k : Nat} {v : Int} {sp : List Value} (h : k < l.length) : (l.flatMap eI ++ sp).set (0 + k * 1) (I v) = (l.set k v).flatMap eI ++ sp :=
  set_flat eI_len (x := l[k]) sp (j := 0) (by omega) rfl l k (List.getElem?_eq_getElem h)
theorem ints_len (l : List Int) : (l.flatMap eI).length = l.length := by rw [flat_lenM eI_len]; omega
end Go.Proofs.Ytlailecnbdlknaa
