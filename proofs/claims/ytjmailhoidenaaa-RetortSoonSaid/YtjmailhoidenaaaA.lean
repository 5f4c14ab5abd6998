/-
  The document's example: what the house of the sample comes to.
-/
import Derived.Test.YtjmailhoidenaaaW12
import Derived.Test.YtjmailhoidenaaaH18
set_option linter.all false
namespace Go.Proofs.Ytjmailhoidenaaa
open Go Go.H
set_option maxRecDepth 100000
theorem eStoke_len (x : Stoke) : (eStoke x).length = 4 := rfl
theorem eSpan_len (x : Span) : (eSpan x).length = 2 := rfl
def sW : House := ⟨[⟨10, 12⟩, ⟨20, 25⟩, ⟨5, 8⟩], 2, 2, 3, 1, 2⟩
def sL : List Stoke := [⟨10, 0, 0, 4⟩, ⟨10, 1, 0, 2⟩, ⟨12, 0, 1, 0⟩, ⟨12, 0, 0, 3⟩, ⟨14, 0, 1, 0⟩]
def sX : Stoke := ⟨15, 0, 0, 1⟩
def sS : St := match play sW sL with
  | .ok S => S
  | .error _ => .init
theorem sPlay : play sW sL = .ok sS := by rfl
theorem sPlay2 : play sW (sL ++ [sX]) = .error (5, 11) := by rfl
theorem sMake : makeS sW sS 10 20 = ⟨280, 349⟩ := by decide
theorem sSoon : soonest sW sS (sS.ov (0 : Int).toNat) = .ok 17 := by rfl
theorem sGas : gasRuns sW.curve sS.runs = [(10, ⟨40, 48⟩), (11, ⟨80, 100⟩), (10, ⟨20, 24⟩), (11, ⟨40, 50⟩), (12, ⟨10, 16⟩), (12, ⟨30, 36⟩), (13, ⟨60, 75⟩)] := by decide
theorem sPeak {hour : Int} {gas : Span} (H : IsPeak sW sS hour gas) : hour = 11 ∧ gas = ⟨120, 150⟩ := by
  have h1 := (H.top 11 (by decide)).1
  have h2 : (makeS sW sS 11 11).hi = 150 := by decide
  have h3 := H.eq
  have hh : hour = 11 := by
    by_cases hp : pick hour hour (gasRuns sW.curve sS.runs) = []
    · rw [makeS_none hp] at h3
      rw [h3, h2] at h1
      simp at h1
    · obtain ⟨x, hx, hx1⟩ := pick_hour hp
      rw [sGas] at hx
      simp only [List.mem_cons, List.not_mem_nil, or_false] at hx
      rcases hx with rfl | rfl | rfl | rfl | rfl | rfl | rfl
      all_goals
        simp only at hx1
        subst hx1
      all_goals first
        | rfl
        | (exfalso
           rw [h2, h3] at h1
           revert h1
           decide)
  refine ⟨hh, ?_⟩
  rw [h3, hh]
  decide
section
variable {bc bl : Nat} {h : Hp} {R : Ending → Hp → Prop}
def aArgs (bc bl : Nat) : List Value := [.agg ⟨eHouse (some ⟨bc, 0, none⟩) 3 sW⟩, .slice (some ⟨bl, 0, none⟩) 5 5]
def sC (bc bl : Nat) : Hp := [(bl, .cells ⟨sL.flatMap eStoke⟩ 48 (0, 0)), (bc, .cells ⟨sW.curve.flatMap eSpan⟩ 38 (0, 0))]
theorem aPlay (h1 : (bc, .cells ⟨sW.curve.flatMap eSpan⟩ 38 (0, 0)) ∈ h) (h2 : (bl, .cells ⟨sL.flatMap eStoke⟩ 48 (0, 0)) ∈ h) (H : R (.returned (.tuple ⟨[.agg ⟨eOvens sS.ov⟩, I 5, I 0]⟩)) h) :
    ACalls Try.prog 11 ⟨[.agg ⟨eHouse (some ⟨bc, 0, none⟩) 3 sW⟩, .slice (some ⟨bl, 0, none⟩) 5 5]⟩ h R :=
  Play_c (l := sL) (slvL eSpan_len h1) (by decide) (slvL eStoke_len h2) (fun i e hp => by rw [sPlay] at hp; cases hp) (fun S hp _ => by rw [sPlay] at hp; cases hp; exact H)
theorem aMake (h1 : (bc, .cells ⟨sW.curve.flatMap eSpan⟩ 38 (0, 0)) ∈ h) (h2 : (bl, .cells ⟨sL.flatMap eStoke⟩ 48 (0, 0)) ∈ h) (H : R (.returned (.tuple ⟨[.agg ⟨[I 280, I 349]⟩, I 0]⟩)) h) :
    ACalls Try.prog 15 ⟨[.agg ⟨eHouse (some ⟨bc, 0, none⟩) 3 sW⟩, .slice (some ⟨bl, 0, none⟩) 5 5, I 10, I 20]⟩ h R :=
  Make_c (l := sL) (slvL eSpan_len h1) (by decide) (slvL eStoke_len h2) (fun i e hp => by rw [sPlay] at hp; cases hp) (fun S _ hn => absurd (by decide) hn) (fun S hp _ _ => by rw [sPlay] at hp; cases hp; rw [sMake]; exact H)
theorem aPeak (h1 : (bc, .cells ⟨sW.curve.flatMap eSpan⟩ 38 (0, 0)) ∈ h) (h2 : (bl, .cells ⟨sL.flatMap eStoke⟩ 48 (0, 0)) ∈ h) (H : R (.returned (.tuple ⟨[I 11, .agg ⟨[I 120, I 150]⟩, I 0]⟩)) h) :
    ACalls Try.prog 17 ⟨[.agg ⟨eHouse (some ⟨bc, 0, none⟩) 3 sW⟩, .slice (some ⟨bl, 0, none⟩) 5 5]⟩ h R :=
  Peak_c (l := sL) (slvL eSpan_len h1) (by decide) (slvL eStoke_len h2) (fun i e hp => by rw [sPlay] at hp; cases hp) (fun S hour gas hp _ hk => by rw [sPlay] at hp; cases hp; obtain ⟨rfl, rfl⟩ := sPeak hk; exact H)
theorem aSoon (h1 : (bc, .cells ⟨sW.curve.flatMap eSpan⟩ 38 (0, 0)) ∈ h) (h2 : (bl, .cells ⟨sL.flatMap eStoke⟩ 48 (0, 0)) ∈ h) (H : R (.returned (.tuple ⟨[I 17, I 0]⟩)) h) :
    ACalls Try.prog 13 ⟨[.agg ⟨eHouse (some ⟨bc, 0, none⟩) 3 sW⟩, .slice (some ⟨bl, 0, none⟩) 5 5, I 0]⟩ h R :=
  Soonest_c (l := sL) (slvL eSpan_len h1) (by decide) (slvL eStoke_len h2) (fun i e hp => by rw [sPlay] at hp; cases hp) (fun S _ hn => absurd (by decide) hn) (fun S e hp _ _ hs => by rw [sPlay] at hp; cases hp; rw [sSoon] at hs; cases hs) (fun S e hp _ _ hs => by rw [sPlay] at hp; cases hp; rw [sSoon] at hs; cases hs; exact H)
theorem aPlay2 {V : Vec} (h1 : (bc, .cells ⟨sW.curve.flatMap eSpan⟩ 38 (0, 0)) ∈ h) (hV : V.ok 4 6 ((sL ++ [sX]).flatMap eStoke)) (h2 : V.hp 48 ((sL ++ [sX]).flatMap eStoke) ⊆ h) (H : R (.returned (.tuple ⟨[.agg ⟨eOvens (fun _ => ⟨0, 0, 0, 0, 0⟩)⟩, I 5, I 11]⟩)) h) :
    ACalls Try.prog 11 ⟨[.agg ⟨eHouse (some ⟨bc, 0, none⟩) 3 sW⟩, V.val 6]⟩ h R := by
  obtain ⟨a, c, e, hs⟩ := Vec.slv eStoke_len (xs := sL ++ [sX]) hV h2
  rw [show (sL ++ [sX]).length = 6 from rfl] at e
  rw [e]
  exact Play_c (l := sL ++ [sX]) (slvL eSpan_len h1) (by decide) hs (fun i e hp => by rw [sPlay2] at hp; cases hp; exact H) (fun S hp _ => by rw [sPlay2] at hp; cases hp)
end
end Go.Proofs.Ytjmailhoidenaaa
