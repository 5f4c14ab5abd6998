/-
  Openers: what a law's argument reads as.
-/
import Derived.Test.YtjbfdfmngampdaaHF
import Derived.KernelRfl
set_option linter.all false
namespace Go.H
open Go
section
variable {P : Program} {H : Type} {enc : TypeId × Value → H} {w : World} {sp : Nat → Bool} {held : Bool}
theorem open_num {t : TypeId} {k : IntKind} (ht : P.underlying t = some (.int k)) {fuel : Nat} {cs : List Value} {x : DataW H × List MemPlace} (h : DataW.trod enc P w 0 sp held fuel t cs = some x) : ∃ n, cs = [.int k n] ∧ (Lit.int k n).wf = true := by
  cases fuel with
  | zero => simp [DataW.trod] at h
  | succ fuel =>
    unfold DataW.trod at h
    rw [ht] at h
    split at h <;> first | (simp at *; done) | skip
    rename_i k k' n hq
    cases hq
    split at h
    · rename_i hc
      obtain ⟨rfl, hw⟩ := hc
      exact ⟨n, rfl, hw⟩
    · cases h
theorem SlV.map {α β : Type} {f : β → α} {h : Hp} {sz : Nat} {en : α → List Value} {a : Option Addr} {xs : List β} (H : SlV h sz (fun x => en (f x)) a xs) : SlV h sz en a (xs.map f) := by
  rcases H with rfl | ⟨b, o, l, t, fz, ha, hm, hx⟩
  · exact .inl rfl
  · refine .inr ⟨b, o, l, t, fz, ha, hm, fun i x hi => ?_⟩
    rw [List.getElem?_map] at hi
    cases hq : xs[i]? with
    | none => rw [hq] at hi; cases hi
    | some y => rw [hq] at hi; cases hi; exact hx i y hq
theorem cells_sl {t e : TypeId} (ht : P.underlying t = some (.slice e)) {v : Value} {r : Reach} {b : Nat} (hv : Value.okWide P w r b t v) : v.cells.toList = [v] := by
  unfold Value.okWide at hv
  rw [ht] at hv
  simp only [Cell.okWide, Cell.ok, ht] at hv
  cases v <;> first | rfl | (simp at hv; done)
theorem open_arg {α β : Type} {f : β → α} {en : α → List Value} {t e : TypeId} {sz : Nat} (ht : P.underlying t = some (.slice e)) (hsz : P.cellsOf e = sz) (h0 : 0 < sz) (he : ∀ n l y, DataW.trod enc P w 0 sp held n e l = some y → ∃ x : β, l = en (f x))
    {v : Value} {d : DataW H} {ps : List MemPlace} {r : Reach} {b : Nat} (hv : Value.okWide P w r b t v) (h : DataW.Trod enc P w 0 sp held t v d ps) : ∃ a c, ∃ xs : List β, v = .slice a (xs.map f).length c ∧ (xs.map f).length ≤ 9223372036854775807 ∧ SlV (full w) sz en a (xs.map f) := by
  obtain ⟨n, hn⟩ := h
  obtain ⟨a, c, l, e, h1, h2⟩ := open_slv (en := fun x => en (f x)) ht hsz h0 he hn
  rw [cells_sl ht hv] at e
  cases e
  exact ⟨a, c, l, by rw [List.length_map], by rw [List.length_map]; exact h1, h2.map⟩
end
section
variable {P : Program} {E : Env} {dst : Option Nat} {ty : TypeId} {pos : String} {af : Array Edge} {gd : Option (Nat × Bool)}
end
def Vec.ad : Vec → Option Addr
  | .nil => none
  | .at b _ _ => some ⟨b, 0, none⟩
def Vec.cp : Vec → Nat
  | .nil => 0
  | .at _ c _ => c
theorem hp_at {b c : Nat} {sp xs : List Value} {t : TypeId} : Vec.hp (.at b c sp) t xs = [(b, .cells ⟨xs ++ sp⟩ t (0, 0))] := rfl
theorem Vec.val_ad {V : Vec} {sz n : Nat} {xs : List Value} (h : V.ok sz n xs) : V.val n = .slice V.ad n V.cp := by
  cases V with
  | nil => rw [h.2]; rfl
  | «at» b c sp => rfl
theorem Vec.at_pos {V : Vec} {sz n : Nat} {xs : List Value} (h : V.ok sz n xs) (hn : 0 < n) : ∃ b cap sp, V = .at b cap sp := by
  cases V with
  | nil => exact absurd h.2 (by omega)
  | «at» b cap sp => exact ⟨b, cap, sp, rfl⟩
section
variable {P : Program} {r : Option Nat} {E : Env} {h g : Hp}
variable {K : Value → Hp → Prop} {T : List PanicEntry → Hp → Prop} {dst : Option Nat} {ty : TypeId} {pos : String} {af : Array Edge} {gd : Option (Nat × Bool)}
/-- All of a slice onto one of one's own. -/
theorem xv_appendL {α : Type} {enc : α → List Value} {x y : Operand} {t e : TypeId} {d : TD} {V : Vec} {n cl sz : Nat} {al : Option Addr} {xs : List Value} {ys : List α} (ht : SlT P t e) (hd : TyOk P e d) (hzs : d.zero.cells.size = d.size) (hsz : d.size = sz)
    (hx : ev E x = some (V.val n)) (hy : ev E y = some (.slice al ys.length cl)) (hV : V.ok sz n xs) (hp : Tk (V.hp e xs) h g) (hl : SlV g sz enc al ys) (henc : ∀ x, (enc x).length = sz) (h1 : ∀ x, (enc x).all Value.oneCell' = true)
    (hb : 2 * (n + ys.length) * d.bytes ≤ 281474976710656) (h63 : n + ys.length ≤ 9223372036854775807)
    (H : ∀ V' : Vec, V'.ok sz (n + ys.length) (xs ++ ys.flatMap enc) → K (V'.val (n + ys.length)) (V'.hp e (xs ++ ys.flatMap enc) ++ g)) : XV P r ⟨dst, .call ⟨.builtin .append, #[x, y], #[t, t]⟩, ty, pos, af, gd⟩ K T E h := by
  subst hsz
  cases ys with
  | nil =>
    have hv := V.val_ad hV
    have hn : n ≤ V.cp := by
      cases V with
      | nil => rw [hV.2]; exact Nat.le_refl _
      | «at» b c sp => exact hV.2.1
    refine XV.perm hp.perm.symm ?_
    refine xv_append0 ht hd (hx.trans (congrArg some hv)) (c' := cl) (a' := al) hy hn ?_
    rw [← hv]
    have := H V (by simpa using hV)
    simpa using this
  | cons x0 xs0 =>
    obtain ⟨b9, o9, li, t9, fz, hal, hm, hx9⟩ := hl.at (i := 0) (by simp)
    subst hal
    exact xv_append (V := V) (n := n) (xs := xs) ht hd hzs hx hy hV hp hm (slv_flat2 henc hx9) (flat_lenM henc _) (flat_all h1 _) (by simp) hb h63 H
end
theorem list2 {α : Type} {l : List α} (h : l.length = 2) : ∃ a b, l = [a, b] := by
  rcases l with _ | ⟨a, _ | ⟨b, _ | ⟨c, l⟩⟩⟩ <;> simp at h
  exact ⟨_, _, rfl⟩
theorem list5 {α : Type} {l : List α} (h : l.length = 5) : ∃ a b c d e, l = [a, b, c, d, e] := by
  rcases l with _ | ⟨a, _ | ⟨b, _ | ⟨c, _ | ⟨d, _ | ⟨e, _ | ⟨g, l⟩⟩⟩⟩⟩⟩ <;> simp at h
  exact ⟨_, _, _, _, _, rfl⟩
end Go.H
