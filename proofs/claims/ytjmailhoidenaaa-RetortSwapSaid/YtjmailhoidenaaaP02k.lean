/-
  Calls whose play is known; small facts for the walk of RetortWhole.
-/
import Derived.Test.YtjmailhoidenaaaP02j
import Derived.Test.YtjmailhoidenaaaV1
import Derived.Test.YtjmailhoidenaaaH20
set_option linter.all false
namespace Go.Proofs.Ytjmailhoidenaaa
open Go Go.H
theorem eqc_self2 : ∀ {xs : List Value}, (∀ x ∈ xs, Num x) → eqc xs xs = true
  | [], _ => rfl
  | x :: xs, h => by
    obtain ⟨n, rfl⟩ := h x List.mem_cons_self
    simp only [eqc, beq_self_eq_true, Bool.true_and]
    exact eqc_self2 fun y hy => h y (List.mem_cons_of_mem _ hy)
theorem eqc_span {a b : Span} (h : a = b) : eqc [I a.lo, I a.hi] [I b.lo, I b.hi] = true := by subst h; simp [eqc]
section
variable {a al : Option Addr} {c cl : Nat} {w : House} {l : List Stoke} {f t : Int} {h : Hp} {R : Ending → Hp → Prop} {S : St} {i : Nat} {e : Int} (hs : SlV h 2 eSpan a w.curve) (hlen : w.curve.length ≤ 4611686018427387904) (hl : SlV h 4 eStoke al l)
include hs hlen hl
theorem Make_2 (hr : 0 ≤ f ∧ f ≤ t ∧ t ≤ 1048576) (H1 : ∀ i e, play w l = .error (i, e) → R (.returned (.tuple ⟨[.agg ⟨[I 0, I 0]⟩, I e]⟩)) h) (H2 : ∀ S, play w l = .ok S → S.Ok l.length → R (.returned (.tuple ⟨[.agg ⟨eSpan (makeS w S f t)⟩, I 0]⟩)) h) :
    ACalls Try.prog 15 ⟨[.agg ⟨eHouse a c w⟩, .slice al l.length cl, I f, I t]⟩ h R :=
  Make_c hs hlen hl H1 (fun _ _ hn => absurd hr hn) (fun S hp hS _ => H2 S hp hS)
theorem Make_o (hpo : play w l = .ok S) (hr : 0 ≤ f ∧ f ≤ t ∧ t ≤ 1048576) (H : R (.returned (.tuple ⟨[.agg ⟨eSpan (makeS w S f t)⟩, I 0]⟩)) h) :
    ACalls Try.prog 15 ⟨[.agg ⟨eHouse a c w⟩, .slice al l.length cl, I f, I t]⟩ h R :=
  Make_2 hs hlen hl hr (fun i e hp => by rw [hpo] at hp; cases hp) (fun S' hp _ => by rw [hpo] at hp; cases hp; exact H)
theorem Peak_e (hpe : play w l = .error (i, e)) (H : R (.returned (.tuple ⟨[I 0, .agg ⟨[I 0, I 0]⟩, I e]⟩)) h) : ACalls Try.prog 17 ⟨[.agg ⟨eHouse a c w⟩, .slice al l.length cl]⟩ h R :=
  Peak_c hs hlen hl (fun i e hp => by rw [hpe] at hp; cases hp; exact H) (fun S hour gas hp _ _ => by rw [hpe] at hp; cases hp)
theorem Peak_o (hpo : play w l = .ok S) (H : ∀ hour gas, IsPeak w S hour gas → R (.returned (.tuple ⟨[I hour, .agg ⟨eSpan gas⟩, I 0]⟩)) h) : ACalls Try.prog 17 ⟨[.agg ⟨eHouse a c w⟩, .slice al l.length cl]⟩ h R :=
  Peak_c hs hlen hl (fun i e hp => by rw [hpo] at hp; cases hp) (fun S' hour gas hp _ hk => by rw [hpo] at hp; cases hp; exact H _ _ hk)
omit hl
theorem refHouse_T (hg : goodHouse w) (H : R (.returned (.bool true)) h) : ACalls Try.prog 19 ⟨[.agg ⟨eHouse a c w⟩]⟩ h R :=
  refHouse_c hs hlen (fun _ => H) (fun hn => absurd hg hn)
end
def eSince (f : Nat → Int) : List Value := [I (f 0), I (f 1), I (f 2), I (f 3), I (f 4), I (f 5), I (f 6), I (f 7)]
theorem since_set {f : Nat → Int} {i : Nat} {v : Int} (hi : i < 8) : (eSince f).set (0 + i * 1) (I v) = eSince (upd f i v) := by
  rcases i with _ | _ | _ | _ | _ | _ | _ | _ | i <;> first | (exfalso; omega) | rfl
theorem since_at {f : Nat → Int} {i : Nat} (hi : i < 8) : (eSince f)[0 + i * 1]? = some (I (f i)) := by
  rcases i with _ | _ | _ | _ | _ | _ | _ | _ | i <;> first | (exfalso; omega) | rfl
section
variable {n : Int} {l : List Stoke} {k i : Nat} {x : Stoke} (hk : l[k]? = some x) (hi : x.ret.toNat = i)
include hk
theorem wf_tons0 (h0 : x.kind = 0) : (wf n (l.take (k + 1))).tons = (wf n (l.take k)).tons + x.tons := by
  rw [wf_take hk]; unfold wfStep wf1; rw [if_neg (fun hq => by omega), if_pos h0]
theorem wf_tons1 (h0 : ¬ x.kind = 0) : (wf n (l.take (k + 1))).tons = (wf n (l.take k)).tons := by
  rw [wf_take hk]; unfold wfStep wf1; rw [if_neg h0]; split <;> rfl
theorem wf_since1 (h0 : ¬ x.kind = 0) : (wf n (l.take (k + 1))).since = (wf n (l.take k)).since := by
  rw [wf_take hk]; unfold wfStep wf1; rw [if_neg h0]; split <;> rfl
theorem wf_whole0 (h0 : x.kind = 0) : (wf n (l.take (k + 1))).whole = ((wf n (l.take k)).whole && decide (x.hour + n ≤ 1048576)) := by
  rw [wf_take hk]; unfold wfStep wf1; rw [if_neg (fun hq => by omega), if_pos h0]
include hi
theorem wf_since0 (h0 : x.kind = 0) : (wf n (l.take (k + 1))).since = upd (wf n (l.take k)).since i x.hour := by
  rw [wf_take hk]; unfold wfStep wf1; rw [if_neg (fun hq => by omega), if_pos h0, hi]
theorem wf_whole1 (h0 : ¬ x.kind = 0) (h1 : x.kind = 1 ∧ x.hour < (wf n (l.take k)).since i + n) : (wf n (l.take (k + 1))).whole = false := by
  rw [wf_take hk]; unfold wfStep wf1; rw [hi, if_pos h1]
theorem wf_whole2 (h0 : ¬ x.kind = 0) (h1 : ¬ (x.kind = 1 ∧ x.hour < (wf n (l.take k)).since i + n)) : (wf n (l.take (k + 1))).whole = (wf n (l.take k)).whole := by
  rw [wf_take hk]; unfold wfStep wf1; rw [hi, if_neg h1, if_neg h0]
end
theorem wf_bound (n : Int) : ∀ (l : List Stoke), (∀ x ∈ l, goodStoke x) → (0 ≤ (wf n l).tons ∧ (wf n l).tons ≤ 100 * l.length) ∧ ∀ i, 0 ≤ (wf n l).since i ∧ (wf n l).since i ≤ 1048576 := by
  intro l hg
  have key : ∀ k, k ≤ l.length → (0 ≤ (wf n (l.take k)).tons ∧ (wf n (l.take k)).tons ≤ 100 * k) ∧ ∀ i, 0 ≤ (wf n (l.take k)).since i ∧ (wf n (l.take k)).since i ≤ 1048576 := by
    intro k
    induction k with
    | zero => intro _; exact ⟨⟨Int.le_refl _, by show (0 : Int) ≤ _; omega⟩, fun i => ⟨Int.le_refl _, by show (0 : Int) ≤ 1048576; decide⟩⟩
    | succ k ih =>
      intro hk
      obtain ⟨x, hx⟩ : ∃ x, l[k]? = some x := ⟨_, List.getElem?_eq_getElem (by omega)⟩
      obtain ⟨ih1, ih2⟩ := ih (by omega)
      obtain ⟨⟨hh0, hh1⟩, _, _, hto, _⟩ := hg x (List.mem_of_getElem? hx)
      by_cases h0 : x.kind = 0
      · have := hto h0
        rw [wf_tons0 hx h0, wf_since0 hx rfl h0]
        refine ⟨by omega, fun i => ?_⟩
        have := ih2 i
        simp only [upd]
        split <;> omega
      · rw [wf_tons1 hx h0, wf_since1 hx h0]
        exact ⟨by omega, ih2⟩
  have := key l.length (Nat.le_refl _)
  rwa [List.take_length] at this
theorem makeS_fit {w : House} {S : St} {n : Nat} (hw : goodHouse w) (hS : S.Ok n) (hn : n ≤ 48) (f t : Int) : (makeS w S f t).hi ≤ 20000000000 := by
  have h1 := gasRuns_fit hw.2.2.1 S.runs hS.rn
  have h3 := fit_sum (l := pick f t (gasRuns w.curve S.runs)) (B := 10000000) (by omega) (fun y hy => by obtain ⟨z, hz, rfl⟩ := pick_mem hy; exact (h1 z hz).2)
  have h4 := pick_len f t (gasRuns w.curve S.runs)
  have h5 := gasRuns_len w.curve S.runs
  have h6 := Nat.mul_le_mul hS.runs hw.2.1
  unfold makeS
  omega
theorem mul_fit2 {t c : Int} (h1 : 0 ≤ t ∧ t ≤ 4800) (h2 : 0 ≤ c ∧ c ≤ 2400000) : 0 ≤ t * c ∧ t * c ≤ 11520000000 := by
  have hm1 : 0 ≤ t * c := Int.mul_nonneg (by omega) (by omega)
  have hm2 : t * c ≤ 4800 * 2400000 := Int.mul_le_mul (by omega) (by omega) (by omega) (by omega)
  omega
end Go.Proofs.Ytjmailhoidenaaa
