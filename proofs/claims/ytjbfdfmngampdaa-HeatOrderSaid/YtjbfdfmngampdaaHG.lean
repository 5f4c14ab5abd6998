/-
  Openers: what a law's argument reads as.
-/
import Derived.Test.YtjbfdfmngampdaaHF
import Derived.KernelRfl
set_option linter.all false
namespace Go.H
open Go
section
variable {P : Program} {H : Type} {enc : TypeId × Value → H} {w : World} {sp : Nat → Bool} {held : Bool}
theorem open_num {t : TypeId} {k : IntKind} (ht : P.underlying t = some (.int k)) {fuel : Nat} {cs : List Value} {x : DataW H × List MemPlace} (h : DataW.trod enc P w 0 sp held fuel t cs = some x) : ∃ n, cs = [.int k n] ∧ (Lit.int k n).wf = true := by
  cases fuel with
  | zero => simp [DataW.trod] at h
  | succ fuel =>
    unfold DataW.trod at h
    rw [ht] at h
    split at h <;> first | (simp at *; done) | skip
    rename_i k k' n hq
    cases hq
    split at h
    · rename_i hc
      obtain ⟨rfl, hw⟩ := hc
      exact ⟨n, rfl, hw⟩
    · cases h
theorem SlV.map {α β : Type} {f : β → α} {h : Hp} {sz : Nat} {en : α → List Value} {a : Option Addr} {xs : List β} (H : SlV h sz (fun x => en (f x)) a xs) : SlV h sz en a (xs.map f) := by
  rcases H with rfl | ⟨b, o, l, t, fz, ha, hm, hx⟩
  · exact .inl rfl
  · refine .inr ⟨b, o, l, t, fz, ha, hm, fun i x hi => ?_⟩
    rw [List.getElem?_map] at hi
    cases hq : xs[i]? with
    | none => rw [hq] at hi; cases hi
    | some y => rw [hq] at hi; cases hi; exact hx i y hq
theorem cells_sl {t e : TypeId} (ht : P.underlying t = some (.slice e)) {v : Value} {r : Reach} {b : Nat} (hv : Value.okWide P w r b t v) : v.cells.toList = [v] := by
  unfold Value.okWide at hv
  rw [ht] at hv
  simp only [Cell.okWide, Cell.ok, ht] at hv
  cases v <;> first | rfl | (simp at hv; done)
theorem open_arg {α β : Type} {f : β → α} {en : α → List Value} {t e : TypeId} {sz : Nat} (ht : P.underlying t = some (.slice e)) (hsz : P.cellsOf e = sz) (h0 : 0 < sz) (he : ∀ n l y, DataW.trod enc P w 0 sp held n e l = some y → ∃ x : β, l = en (f x))
    {v : Value} {d : DataW H} {ps : List MemPlace} {r : Reach} {b : Nat} (hv : Value.okWide P w r b t v) (h : DataW.Trod enc P w 0 sp held t v d ps) : ∃ a c, ∃ xs : List β, v = .slice a (xs.map f).length c ∧ (xs.map f).length ≤ 9223372036854775807 ∧ SlV (full w) sz en a (xs.map f) := by
  obtain ⟨n, hn⟩ := h
  obtain ⟨a, c, l, e, h1, h2⟩ := open_slv (en := fun x => en (f x)) ht hsz h0 he hn
  rw [cells_sl ht hv] at e
  cases e
  exact ⟨a, c, l, by rw [List.length_map], by rw [List.length_map]; exact h1, h2.map⟩
end
section
variable {P : Program} {E : Env} {dst : Option Nat} {ty : TypeId} {pos : String} {af : Array Edge} {gd : Option (Nat × Bool)}
end
def Vec.ad : Vec → Option Addr
  | .nil => none
  | .at b _ _ => some ⟨b, 0, none⟩
theorem hp_at {b c : Nat} {sp xs : List Value} {t : TypeId} : Vec.hp (.at b c sp) t xs = [(b, .cells ⟨xs ++ sp⟩ t (0, 0))] := rfl
theorem Vec.at_pos {V : Vec} {sz n : Nat} {xs : List Value} (h : V.ok sz n xs) (hn : 0 < n) : ∃ b cap sp, V = .at b cap sp := by
  cases V with
  | nil => exact absurd h.2 (by omega)
  | «at» b cap sp => exact ⟨b, cap, sp, rfl⟩
section
variable {P : Program} {r : Option Nat} {E : Env} {h g : Hp}
variable {K : Value → Hp → Prop} {T : List PanicEntry → Hp → Prop} {dst : Option Nat} {ty : TypeId} {pos : String} {af : Array Edge} {gd : Option (Nat × Bool)}
end
theorem list2 {α : Type} {l : List α} (h : l.length = 2) : ∃ a b, l = [a, b] := by
  rcases l with _ | ⟨a, _ | ⟨b, _ | ⟨c, l⟩⟩⟩ <;> simp at h
  exact ⟨_, _, rfl⟩
theorem list4 {α : Type} {l : List α} (h : l.length = 4) : ∃ a b c d, l = [a, b, c, d] := by
  rcases l with _ | ⟨a, _ | ⟨b, _ | ⟨c, _ | ⟨d, _ | ⟨e, l⟩⟩⟩⟩⟩ <;> simp at h
  exact ⟨_, _, _, _, rfl⟩
end Go.H
