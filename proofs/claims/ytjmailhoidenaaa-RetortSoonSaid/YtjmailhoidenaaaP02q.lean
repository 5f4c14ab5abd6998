/-
  Calls for the walk of RetortSoon.
-/
import Derived.Test.YtjmailhoidenaaaP02o
import Derived.Test.YtjmailhoidenaaaW13
import Derived.Test.YtjmailhoidenaaaH21
set_option linter.all false
namespace Go.Proofs.Ytjmailhoidenaaa
open Go Go.H
def Byte : Type := { n : Int // 0 ≤ n ∧ n ≤ 255 }
def eBy (b : Byte) : List Value := [.int .u8 b.1]
theorem eBy_len (b : Byte) : (eBy b).length = 1 := rfl
theorem eStoke_1 (x : Stoke) : (eStoke x).all Value.oneCell' = true := rfl
theorem PlayV_2 {a : Option Addr} {c n : Nat} {w : House} {l : List Stoke} {V : Vec} {h : Hp} {R : Ending → Hp → Prop} (hs : SlV h 2 eSpan a w.curve) (hlen : w.curve.length ≤ 4611686018427387904) (hV : V.ok 4 n (l.flatMap eStoke)) (hn : n = l.length) (hsub : V.hp 48 (l.flatMap eStoke) ⊆ h)
    (H1 : ∀ i e, play w l = .error (i, e) → R (.returned (.tuple ⟨[.agg ⟨eOvens (fun _ => ⟨0, 0, 0, 0, 0⟩)⟩, I i, I e]⟩)) h)
    (H2 : ∀ S, play w l = .ok S → R (.returned (.tuple ⟨[.agg ⟨eOvens S.ov⟩, I l.length, I 0]⟩)) h) : ACalls Try.prog 11 ⟨[.agg ⟨eHouse a c w⟩, V.val n]⟩ h R := by
  subst hn
  obtain ⟨sa, sc, e, hl⟩ := Vec.slv eStoke_len hV hsub
  rw [e]; exact Play_c hs hlen hl H1 (fun S hp _ => H2 S hp)
theorem play_more_ok {w : House} {l : List Stoke} {S S' : St} {x : Stoke} (H : PlayI w l l.length S) (h : play w (l ++ [x]) = .ok S') : doStoke w S x = .ok S' := last_ok H (play_from h)
theorem play_more_err {w : House} {l : List Stoke} {S : St} {x : Stoke} {i : Nat} {e : Int} (hw : goodHouse w) (hl : l.length ≤ 47) (H : PlayI w l l.length S) (h : play w (l ++ [x]) = .error (i, e)) : Fails w S x := by
  unfold play at h
  rw [if_neg (by simpa using hw), if_neg (by rw [List.length_append, List.length_singleton]; omega)] at h
  exact last_err H h
end Go.Proofs.Ytjmailhoidenaaa
