/-
  Calls for the walk of RetortSwap.
-/
import Derived.Test.YtjmailhoidenaaaP02k
import Derived.Test.YtjmailhoidenaaaP02n
import Derived.Test.YtjmailhoidenaaaP02l
set_option linter.all false
namespace Go.Proofs.Ytjmailhoidenaaa
open Go Go.H
theorem eStoke_one (x : Stoke) : (eStoke x).all Value.oneCell' = true := rfl
section
variable {a al : Option Addr} {c cl n : Nat} {w : House} {l : List Stoke} {f t : Int} {h : Hp} {R : Ending → Hp → Prop} {S : St} {i : Nat} {e : Int} {V : Vec}
theorem Play_o (hs : SlV h 2 eSpan a w.curve) (hlen : w.curve.length ≤ 4611686018427387904) (hl : SlV h 4 eStoke al l) (hpo : play w l = .ok S) (H : R (.returned (.tuple ⟨[.agg ⟨eOvens S.ov⟩, I l.length, I 0]⟩)) h) : ACalls Try.prog 11 ⟨[.agg ⟨eHouse a c w⟩, .slice al l.length cl]⟩ h R :=
  Play_c hs hlen hl (fun i e hp => by rw [hpo] at hp; cases hp) (fun S' hp _ => by rw [hpo] at hp; cases hp; exact H)
theorem Play_e (hs : SlV h 2 eSpan a w.curve) (hlen : w.curve.length ≤ 4611686018427387904) (hl : SlV h 4 eStoke al l) (hpe : play w l = .error (i, e)) (H : R (.returned (.tuple ⟨[.agg ⟨eOvens (fun _ => ⟨0, 0, 0, 0, 0⟩)⟩, I i, I e]⟩)) h) : ACalls Try.prog 11 ⟨[.agg ⟨eHouse a c w⟩, .slice al l.length cl]⟩ h R :=
  Play_c hs hlen hl (fun i e hp => by rw [hpe] at hp; cases hp; exact H) (fun S' hp _ => by rw [hpe] at hp; cases hp)
theorem play_bad (hg : ¬ goodHouse w) : play w l = .error (0, 1) := by unfold play; rw [if_pos (by simpa using hg)]
theorem refHouse_F (hs : SlV h 2 eSpan a w.curve) (hlen : w.curve.length ≤ 4611686018427387904) (hg : ¬ goodHouse w) (H : R (.returned (.bool false)) h) : ACalls Try.prog 19 ⟨[.agg ⟨eHouse a c w⟩]⟩ h R :=
  refHouse_c hs hlen (fun hn => absurd hn hg) (fun _ => H)
theorem PlayV_v (hs : SlV h 2 eSpan a w.curve) (hlen : w.curve.length ≤ 4611686018427387904) (hV : V.ok 4 n (l.flatMap eStoke)) (hn : n = l.length) (hsub : V.hp 48 (l.flatMap eStoke) ⊆ h) (H : R (.returned (.tuple ⟨[.agg ⟨eOvens (playV w l).1⟩, I (playV w l).2.1, I (playV w l).2.2]⟩)) h) : ACalls Try.prog 11 ⟨[.agg ⟨eHouse a c w⟩, V.val n]⟩ h R := by
  subst hn
  obtain ⟨sa, sc, e, hl⟩ := Vec.slv eStoke_len hV hsub
  rw [e]; exact Play_v hs hlen hl H
theorem MakeV_v (hs : SlV h 2 eSpan a w.curve) (hlen : w.curve.length ≤ 4611686018427387904) (hV : V.ok 4 n (l.flatMap eStoke)) (hn : n = l.length) (hsub : V.hp 48 (l.flatMap eStoke) ⊆ h) (H : R (.returned (.tuple ⟨[.agg ⟨eSpan (makeV w l f t).1⟩, I (makeV w l f t).2]⟩)) h) : ACalls Try.prog 15 ⟨[.agg ⟨eHouse a c w⟩, V.val n, I f, I t]⟩ h R := by
  subst hn
  obtain ⟨sa, sc, e, hl⟩ := Vec.slv eStoke_len hV hsub
  rw [e]; exact Make_v hs hlen hl H
theorem PlayV_o (hs : SlV h 2 eSpan a w.curve) (hlen : w.curve.length ≤ 4611686018427387904) (hV : V.ok 4 n (l.flatMap eStoke)) (hn : n = l.length) (hsub : V.hp 48 (l.flatMap eStoke) ⊆ h) (hpo : play w l = .ok S) (H : R (.returned (.tuple ⟨[.agg ⟨eOvens S.ov⟩, I n, I 0]⟩)) h) : ACalls Try.prog 11 ⟨[.agg ⟨eHouse a c w⟩, V.val n]⟩ h R :=
  PlayV_v hs hlen hV hn hsub (by rw [playV_o hpo]; subst hn; exact H)
theorem MakeV_o (hs : SlV h 2 eSpan a w.curve) (hlen : w.curve.length ≤ 4611686018427387904) (hV : V.ok 4 n (l.flatMap eStoke)) (hn : n = l.length) (hsub : V.hp 48 (l.flatMap eStoke) ⊆ h) (hpo : play w l = .ok S) (hr : 0 ≤ f ∧ f ≤ t ∧ t ≤ 1048576) (H : R (.returned (.tuple ⟨[.agg ⟨eSpan (makeS w S f t)⟩, I 0]⟩)) h) : ACalls Try.prog 15 ⟨[.agg ⟨eHouse a c w⟩, V.val n, I f, I t]⟩ h R :=
  MakeV_v hs hlen hV hn hsub (by rw [makeV_o hpo hr]; exact H)
end
/-- The last hour in which anything of these stokes is done. -/
def mst (c : Int) (l : List Stoke) : Int := l.foldl (fun m x => max m (x.hour + c)) 0
theorem mst_take {c : Int} {l : List Stoke} {k : Nat} {x : Stoke} (hk : l[k]? = some x) : mst c (l.take (k + 1)) = max (mst c (l.take k)) (x.hour + c) := by
  rw [List.take_add_one, hk]; simp [mst, List.foldl_append]
theorem mst_ge {c : Int} : ∀ (l : List Stoke) (m : Int), m ≤ l.foldl (fun m x => max m (x.hour + c)) m ∧ ∀ x ∈ l, x.hour + c ≤ l.foldl (fun m x => max m (x.hour + c)) m
  | [], m => ⟨Int.le_refl _, fun x hx => by cases hx⟩
  | y :: l, m => by
    obtain ⟨h1, h2⟩ := mst_ge (c := c) l (max m (y.hour + c))
    simp only [List.foldl_cons]
    refine ⟨by omega, fun x hx => ?_⟩
    rcases List.mem_cons.1 hx with rfl | hx
    · omega
    · exact h2 x hx
theorem mst_all {c : Int} {l : List Stoke} {x : Stoke} (hx : x ∈ l) : x.hour + c ≤ mst c l := (mst_ge l 0).2 x hx
theorem mst_bound {c : Int} (hc : 0 ≤ c ∧ c ≤ 1000000) : ∀ {l : List Stoke}, (∀ x ∈ l, goodStoke x) → 0 ≤ mst c l ∧ mst c l ≤ 2048576 := by
  intro l hg
  have key : ∀ (l : List Stoke) (m : Int), 0 ≤ m ∧ m ≤ 2048576 → (∀ x ∈ l, goodStoke x) → 0 ≤ l.foldl (fun m x => max m (x.hour + c)) m ∧ l.foldl (fun m x => max m (x.hour + c)) m ≤ 2048576 := by
    intro l
    induction l with
    | nil => intro m hm _; exact hm
    | cons y l ih =>
      intro m hm hg
      have := (hg y List.mem_cons_self).1
      exact ih (max m (y.hour + c)) ⟨by omega, by omega⟩ (fun x hx => hg x (List.mem_cons_of_mem _ hx))
  exact key l 0 ⟨by omega, by omega⟩ hg
/-- The first stokes are later already. -/
def mix (d : Int) (l : List Stoke) (k : Nat) : List Stoke := (l.take k).map (sh d) ++ l.drop k
theorem mix_len (d : Int) (l : List Stoke) (k : Nat) : (mix d l k).length = l.length := by simp [mix]; omega
theorem mix_at {d : Int} {l : List Stoke} {k : Nat} {x : Stoke} (hk : l[k]? = some x) : (mix d l k)[k]? = some x := by
  have hlt := (List.getElem?_eq_some_iff.1 hk).1
  unfold mix
  rw [List.getElem?_append_right (by simp; omega)]
  simp only [List.length_map, List.length_take]
  rw [List.getElem?_drop, ← hk]; congr 1; omega
theorem mix_set {d : Int} {l : List Stoke} {k : Nat} {x : Stoke} (hk : l[k]? = some x) : (mix d l k).set k (sh d x) = mix d l (k + 1) := by
  have hlt := (List.getElem?_eq_some_iff.1 hk).1
  unfold mix
  rw [List.set_append_right _ _ (by simp; omega), take_at hk, List.map_append, List.append_assoc, drop_at hk]
  congr 1
  simp only [List.length_map, List.length_take, List.map_cons, List.map_nil, List.singleton_append]
  rw [show k - min k l.length = 0 by omega]; rfl
theorem mix_at2 {d : Int} {l : List Stoke} {k : Nat} {x : Stoke} (hk : l[k]? = some x) : (mix d l (k + 1))[k]? = some (sh d x) := by
  have hlt := (List.getElem?_eq_some_iff.1 hk).1
  rw [← mix_set hk, List.getElem?_set_self (by rw [mix_len]; exact hlt)]
theorem mix_all (d : Int) (l : List Stoke) : mix d l l.length = l.map (sh d) := by simp [mix]
theorem swap_list {α : Type} {l : List α} {j : Nat} {x y : α} (hx : l[j]? = some x) (hy : l[j + 1]? = some y) : l = l.take j ++ x :: y :: l.drop (j + 2) ∧ (l.set j y).set (j + 1) x = l.take j ++ y :: x :: l.drop (j + 2) := by
  have h1 := drop_at hx
  have h2 := drop_at hy
  rw [h2] at h1
  have hl : l = l.take j ++ x :: y :: l.drop (j + 2) := by
    conv => lhs; rw [← List.take_append_drop j l, h1]
  have hlt := (List.getElem?_eq_some_iff.1 hx).1
  have ht : (l.take j).length = j := by rw [List.length_take]; omega
  refine ⟨hl, ?_⟩
  conv => lhs; rw [hl]
  rw [List.set_append_right _ _ (by omega), List.set_append_right _ _ (by omega), ht]
  simp
theorem ov_back {d : Int} {S S' : St} {i : Nat} (hd : 0 ≤ d) (hs0 : 0 ≤ (S.ov i).since) (H : Sim d S S') : (S'.ov i = zov ∧ S.ov i = zov) ∨ (S'.ov i ≠ zov ∧ S'.ov i = shO d (S.ov i)) := by
  by_cases hz : S'.ov i = zov
  · refine .inl ⟨hz, ?_⟩
    rcases H.ov i with ⟨h1, _⟩ | h1
    · exact h1
    · rw [hz] at h1
      have e1 : (zov).since = (S.ov i).since + d := by rw [h1]; rfl
      have e2 : (S.ov i).since = 0 := by simp only [zov] at e1; omega
      have e3 : d = 0 := by simp only [zov] at e1; omega
      subst e3
      cases ho : S.ov i with
      | mk a b c d' e =>
        rw [ho] at h1 e2
        simp only [shO, zov, Oven.mk.injEq] at h1 ⊢
        simp only at e2
        omega
  · refine .inr ⟨hz, ?_⟩
    rcases H.ov i with ⟨_, h1⟩ | h1
    · exact absurd h1 hz
    · exact h1
theorem eqc_oven {o o2 : Oven} : eqc (eOven o) (eOven o2) = true ↔ o = o2 := by
  cases o; cases o2
  simp [eOven, eqc]
end Go.Proofs.Ytjmailhoidenaaa
