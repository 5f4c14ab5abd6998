/-
  The document's example: what the walked functions return for the yard of the sample.
-/
import Derived.Test.YtlailecnbdlknaaW18
set_option linter.all false
namespace Go.Proofs.Ytlailecnbdlknaa
open Go Go.H
set_option maxRecDepth 100000
section
variable {bs o1 o2 bt bl bp : Nat} {h : Hp} {R : Ending → Hp → Prop}
theorem aLeft (h1 : sH bs o1 o2 bt bl ⊆ h) (h2 : (bp, .cells ⟨[I 3, I 1]⟩ 3 (0, 0)) ∈ h) (H : ∀ a c q, SlV q 2 eSpan a [⟨2, 2⟩, ⟨2, 5⟩, ⟨7, 10⟩] → R (.returned (.tuple ⟨[.slice a 3 c, I 0]⟩)) (q ++ h)) :
    ACalls Try.prog 14 ⟨[.agg ⟨eYard (sY bs o1 o2 bt bl)⟩, .slice (some ⟨bp, 0, none⟩) 2 2]⟩ h R := by
  have hp : SlV h 1 eI (some ⟨bp, 0, none⟩) [3, 1] := slvL eI_len h2
  refine Left_c (plan := [3, 1]) (sYV h1) sSmall hp (fun hn => (hn sGood).elim) (fun _ hn => (hn ⟨rfl, sOk (by decide) (by decide)⟩).elim) (fun _ _ _ hn => by rw [sAfter] at hn; cases hn) (fun _ _ _ g V hg _ hV => ?_)
  rw [sAfter] at hg
  cases hg
  rw [sGl] at hV ⊢
  obtain ⟨a, c, hv, hs⟩ := Vec.slv (enc := eSpan) (t := 41) (h := V.hp 41 (List.flatMap eSpan [⟨2, 2⟩, ⟨2, 5⟩, ⟨7, 10⟩])) eSpan_len (xs := [⟨2, 2⟩, ⟨2, 5⟩, ⟨7, 10⟩]) hV (fun _ hz => hz)
  have hv' : V.val 3 = .slice a 3 c := hv
  show R (.returned (.tuple ⟨[V.val 3, I 0]⟩)) _
  rw [hv']
  exact H a c _ hs
theorem aLeft0 (h1 : sH bs o1 o2 bt bl ⊆ h) (h2 : (bp, .cells ⟨[I 1, I 1]⟩ 3 (0, 0)) ∈ h) (H : R (.returned (.tuple ⟨[.slice none 0 0, I 10]⟩)) h) :
    ACalls Try.prog 14 ⟨[.agg ⟨eYard (sY bs o1 o2 bt bl)⟩, .slice (some ⟨bp, 0, none⟩) 2 2]⟩ h R := by
  have hp : SlV h 1 eI (some ⟨bp, 0, none⟩) [1, 1] := slvL eI_len h2
  exact Left_c (plan := [1, 1]) (sYV h1) sSmall hp (fun hn => (hn sGood).elim) (fun _ hn => (hn ⟨rfl, sOk (by decide) (by decide)⟩).elim) (fun _ _ _ _ => H) (fun _ _ _ g V hg _ hV => by rw [sAfter0] at hg; cases hg)
theorem aIncome (h1 : sH bs o1 o2 bt bl ⊆ h) (h2 : (bp, .cells ⟨[I 3, I 1]⟩ 3 (0, 0)) ∈ h) (H : ∀ b, R (.returned (.tuple ⟨[I 41, .slice (some ⟨b, 0, none⟩) 3 3, I 0]⟩)) ((b, .cells ⟨[I 5, I 2, I 2]⟩ 3) :: h)) :
    ACalls Try.prog 16 ⟨[.agg ⟨eYard (sY bs o1 o2 bt bl)⟩, .slice (some ⟨bp, 0, none⟩) 2 2]⟩ h R := by
  have hp : SlV h 1 eI (some ⟨bp, 0, none⟩) [3, 1] := slvL eI_len h2
  refine Income_c (plan := [3, 1]) (sYV h1) sSmall hp (fun hn => (hn sGood).elim) (fun _ hn => (hn ⟨rfl, sOk (by decide) (by decide)⟩).elim) (fun _ _ _ hn => by rw [sAfter] at hn; cases hn) (fun _ _ _ g b hg _ => ?_)
  rw [sAfter] at hg
  cases hg
  rw [sIncome, sSold]
  exact H b
theorem aPlan (h1 : sH bs o1 o2 bt bl ⊆ h) (H : ∀ a c q, SlV q 1 eI a [2, 1] → R (.returned (.tuple ⟨[.slice a 2 c, I 50, I 0]⟩)) (q ++ h)) :
    ACalls Try.prog 11 ⟨[.agg ⟨eYard (sY bs o1 o2 bt bl)⟩]⟩ h R := by
  refine Plan_c (sYV h1) sSmall (fun hn => (hn sGood).elim) (fun _ a c q hs => ?_)
  rw [sBest] at hs ⊢
  exact H a c q hs
theorem aCarried (h1 : (bp, .cells ⟨[I 10, I 12, I 30, I 31, I 5, I 9, I 7, I 8]⟩ 61 (0, 0)) ∈ h) (H : ∀ a c q, SlV q 2 eSpan a [⟨18, 21⟩, ⟨0, 3⟩] → R (.returned (.tuple ⟨[.slice a 2 c, .agg ⟨[I 18, I 24]⟩, I 0]⟩)) (q ++ h)) :
    ACalls Try.prog 18 ⟨[.slice (some ⟨bp, 0, none⟩) 2 2]⟩ h R := by
  have hp : SlV h 4 eWeigh (some ⟨bp, 0, none⟩) [⟨⟨10, 12⟩, ⟨30, 31⟩⟩, ⟨⟨5, 9⟩, ⟨7, 8⟩⟩] := slvL eWeigh_len h1
  refine Carried_c (l := [⟨⟨10, 12⟩, ⟨30, 31⟩⟩, ⟨⟨5, 9⟩, ⟨7, 8⟩⟩]) hp (by decide) (fun hn => absurd hn (by decide)) (fun _ hn => absurd (fun x hx => ?_) hn) (fun V _ _ hV => ?_)
  · simp only [List.mem_cons, List.not_mem_nil, or_false] at hx
    rcases hx with rfl | rfl <;> (simp [weighOk, spanOk])
  · obtain ⟨a, c, hv, hs⟩ := Vec.slv (enc := eSpan) (t := 41) (h := V.hp 41 (List.flatMap eSpan [⟨18, 21⟩, ⟨0, 3⟩])) eSpan_len (xs := [⟨18, 21⟩, ⟨0, 3⟩]) hV (fun _ hz => hz)
    have hv' : V.val 2 = .slice a 2 c := hv
    show R (.returned (.tuple ⟨[V.val 2, .agg ⟨[I 18, I 24]⟩, I 0]⟩)) (V.hp 41 (List.flatMap eSpan [⟨18, 21⟩, ⟨0, 3⟩]) ++ h)
    rw [hv']
    exact H a c _ hs
theorem IntsT_c {a a2 : Option Addr} {c c2 : Nat} {xs : List Int} (hs : SlV h 1 eI a xs) (hs2 : SlV h 1 eI a2 xs) (hl : xs.length ≤ 1000000) (H : R (.returned (.bool true)) h) :
    ACalls Try.prog 13 ⟨[.slice a xs.length c, .slice a2 xs.length c2]⟩ h R := Ints_c hs hs2 hl (by omega) (by rw [decide_eq_true rfl]; exact H)
theorem SpansT_c {a a2 : Option Addr} {c c2 : Nat} {xs : List Span} (hs : SlV h 2 eSpan a xs) (hs2 : SlV h 2 eSpan a2 xs) (hl : xs.length ≤ 1000000) (H : R (.returned (.bool true)) h) :
    ACalls Try.prog 20 ⟨[.slice a xs.length c, .slice a2 xs.length c2]⟩ h R := Spans_c hs hs2 hl (by omega) (by rw [decide_eq_true rfl]; exact H)
end
end Go.Proofs.Ytlailecnbdlknaa
