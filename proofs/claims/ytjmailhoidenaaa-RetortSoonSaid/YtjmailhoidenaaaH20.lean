/-
  Rules: numbers of other kinds as int; the first part of a slice.
-/
import Derived.Test.YtjmailhoidenaaaH18
import Derived.Test.YtjmailhoidenaaaH19
set_option linter.all false
namespace Go.H
open Go
variable {P : Program} {r : Option Nat} {E : Env} {h h' : Hp}
variable {K : Value → Hp → Prop} {T : List PanicEntry → Hp → Prop} {dst : Option Nat} {ty : TypeId} {pos : String} {af : Array Edge} {gd : Option (Nat × Bool)}
def intLike : TypeDesc → Bool
  | .int _ => true
  | _ => false
theorem xv_convI {s t : TypeId} {x : Operand} {k k' : IntKind} {n m : Int} (hs : P.underlying s = some (.int k)) (ht : P.underlying t = some (.int k')) (hx : ev E x = some (.int k n)) (hw : k'.wrap n = m) (H : K (.int k' m) h) : XV P r ⟨dst, .convert s t x, ty, pos, af, gd⟩ K T E h :=
  xv_of_run (by simp [plainOp]) fun w ρ ho he => ⟨_, h, w, by
    simp only [execOp, he _ _ hx]
    simp [Go.convert, run_underlying hs, run_underlying ht, Conv.intToInt, hw], H, .refl ho⟩
theorem addr_add0 (a : Addr) : a.add 0 = a := rfl
theorem xv_sliceTo {x y : Operand} {t e : TypeId} {d : TD} {a : Option Addr} {n c : Nat} {k : IntKind} {i : Int} (ht : SlT P t e) (hd : TyOk P e d) (hx : ev E x = some (.slice a n c)) (hy : ev E y = some (.int k i)) (h0 : 0 ≤ i) (h1 : i ≤ c)
    (H : K (.slice a i.toNat c) h) : XV P r ⟨dst, .slice t x none (some y) none, ty, pos, af, gd⟩ K T E h :=
  xv_of_run (by simp [plainOp]) fun w ρ ho he => ⟨_, h, w, by
    have hadd : (if c = 0 then a else a.map (fun z => z.add (0 * d.size))) = a := by
      split
      · rfl
      · cases a <;> simp [addr_add0]
    simp only [execOp, he _ _ hx, Option.map_none, Option.map_some, he _ _ hy]
    simp [Instr.sliceAt, run_underlying ht, Instr.slice, Instr.sliceBounds, run_sliceBoundH h0 h1, hd.run_size, hadd]
    intro _
    cases a <;> simp [addr_add0], H, .refl ho⟩
theorem xv_sliceToN {x y : Operand} {t e : TypeId} {d : TD} {a : Option Addr} {n c m : Nat} {k : IntKind} {i : Int} (ht : SlT P t e) (hd : TyOk P e d) (hx : ev E x = some (.slice a n c)) (hy : ev E y = some (.int k i)) (h0 : 0 ≤ i) (h1 : i ≤ c) (hm : i.toNat = m)
    (H : K (.slice a m c) h) : XV P r ⟨dst, .slice t x none (some y) none, ty, pos, af, gd⟩ K T E h := by
  subst hm; exact xv_sliceTo ht hd hx hy h0 h1 H
theorem SlV.take {α : Type} {sz : Nat} {enc : α → List Value} {a : Option Addr} {xs : List α} (H : SlV h sz enc a xs) (k : Nat) : SlV h sz enc a (xs.take k) := by
  rcases H with rfl | ⟨b, o, l, t, fz, h1, h2, h3⟩
  · exact .inl (by simp)
  · refine .inr ⟨b, o, l, t, fz, h1, h2, fun i x hx => h3 i x ?_⟩
    rw [List.getElem?_take] at hx
    split at hx
    · exact hx
    · cases hx
theorem in16_of {n : Int} (hw : (Lit.int .u16 n).wf = true) : 0 ≤ n ∧ n ≤ 65535 := by
  simp only [Lit.wf, Bool.and_eq_true, decide_eq_true_eq] at hw
  exact ⟨hw.1, hw.2⟩
theorem in8_of {n : Int} (hw : (Lit.int .u8 n).wf = true) : 0 ≤ n ∧ n ≤ 255 := by
  simp only [Lit.wf, Bool.and_eq_true, decide_eq_true_eq] at hw
  exact ⟨hw.1, hw.2⟩
theorem tmod_fit {a b : Int} (ha : 0 ≤ a) (hb : 0 < b) : 0 ≤ a.tmod b ∧ a.tmod b < b := ⟨Int.tmod_nonneg _ ha, Int.tmod_lt_of_pos _ hb⟩
/-- What a slice reads as, all of it. -/
theorem slv_flat2 {α : Type} {enc : α → List Value} {sz : Nat} (henc : ∀ x, (enc x).length = sz) : ∀ {xs : List α} {l : List Value} {o : Nat}, (∀ (i : Nat) (x : α), xs[i]? = some x → (l.drop (o + i * sz)).take sz = enc x) → (l.drop o).take (xs.length * sz) = xs.flatMap enc
  | [], l, o, _ => by simp
  | x :: xs, l, o, h => by
    have h0 := h 0 x rfl
    rw [Nat.zero_mul, Nat.add_zero] at h0
    have ih := slv_flat2 henc (xs := xs) (l := l) (o := o + sz) (fun i y hy => by have := h (i + 1) y (by simpa using hy); rwa [Nat.add_mul, Nat.one_mul, Nat.add_comm (i * sz) sz, ← Nat.add_assoc] at this)
    rw [List.flatMap_cons, ← h0, ← ih, List.length_cons, Nat.add_mul, Nat.one_mul, Nat.add_comm (xs.length * sz) sz, List.take_add, List.drop_drop]
theorem flat_all {α : Type} {enc : α → List Value} (h1 : ∀ x, (enc x).all Value.oneCell' = true) (xs : List α) : (xs.flatMap enc).all Value.oneCell' = true := by
  induction xs with
  | nil => rfl
  | cons x xs ih => rw [List.flatMap_cons, List.all_append, h1, ih]; rfl
theorem flat_lenM {α : Type} {enc : α → List Value} {sz : Nat} (henc : ∀ x, (enc x).length = sz) (xs : List α) : (xs.flatMap enc).length = xs.length * sz := by
  induction xs with
  | nil => simp
  | cons x xs ih => rw [List.flatMap_cons, List.length_append, henc, ih, List.length_cons, Nat.add_mul]; omega
/-- A copy: 'append([]T{}, xs...)'. -/
theorem xv_copy {α : Type} {enc : α → List Value} {x y : Operand} {t e : TypeId} {d : TD} {b cl sz : Nat} {al : Option Addr} {xs : List α} {g : Hp} (ht : SlT P t e) (hd : TyOk P e d) (hzs : d.zero.cells.size = d.size) (hsz : d.size = sz)
    (hx : ev E x = some (.slice (some ⟨b, 0, none⟩) 0 0)) (hy : ev E y = some (.slice al xs.length cl)) (hl : SlV g sz enc al xs) (henc : ∀ x, (enc x).length = sz) (h1 : ∀ x, (enc x).all Value.oneCell' = true)
    (hb : 2 * xs.length * d.bytes ≤ 281474976710656) (h63 : xs.length ≤ 9223372036854775807)
    (H : ∀ V : Vec, V.ok sz xs.length (xs.flatMap enc) → K (V.val xs.length) (V.hp e (xs.flatMap enc) ++ g)) : XV P r ⟨dst, .call ⟨.builtin .append, #[x, y], #[t, t]⟩, ty, pos, af, gd⟩ K T E ((b, .cells ⟨[]⟩ e (0, 0)) :: g) := by
  subst hsz
  cases xs with
  | nil =>
    refine xv_append0 ht hd hx (c' := cl) (a' := al) hy (Nat.le_refl _) ?_
    exact H (.at b 0 []) ⟨by simp, Nat.le_refl _, by simp⟩
  | cons x0 xs0 =>
    obtain ⟨b9, o9, li, t9, fz, hal, hm, hx9⟩ := hl.at (i := 0) (by simp)
    subst hal
    refine xv_append (V := .at b 0 []) (n := 0) (xs := []) ht hd hzs hx hy ⟨by simp, Nat.le_refl _, by simp⟩ .here hm (slv_flat2 henc hx9) (flat_lenM henc _) (flat_all h1 _) (by simp) (by simpa using hb) (by simpa using h63) ?_
    intro V hV
    have hn : 0 + (x0 :: xs0).length = (x0 :: xs0).length := Nat.zero_add _
    rw [hn] at hV ⊢
    exact H V hV
/-- One cell of one element. -/
theorem set_flat {α : Type} {enc : α → List Value} {sz : Nat} (henc : ∀ x, (enc x).length = sz) {x y : α} {v : Value} {j : Nat} (sp : List Value) (hj : j < sz) (hy : (enc x).set j v = enc y) : ∀ (xs : List α) (k : Nat), xs[k]? = some x → (xs.flatMap enc ++ sp).set (0 + k * sz + j) v = (xs.set k y).flatMap enc ++ sp
  | [], k, hk => by simp at hk
  | q :: rs, 0, hk => by
    simp at hk; subst hk
    simp only [List.flatMap_cons, List.append_assoc, List.set_cons_zero, Nat.zero_mul, Nat.add_zero, Nat.zero_add]
    rw [List.set_append_left _ _ (by rw [henc]; exact hj), hy]
  | q :: rs, k + 1, hk => by
    have ih := set_flat henc (v := v) sp hj hy rs k (by simpa using hk)
    simp only [List.flatMap_cons, List.append_assoc, List.set_cons_succ]
    rw [List.set_append_right _ _ (by rw [henc, Nat.add_mul]; omega)]
    congr 1
    rw [← ih, henc]; congr 1
    rw [Nat.add_mul]; omega
/-- One element. -/
theorem splice_flat {α : Type} {enc : α → List Value} {sz : Nat} (henc : ∀ x, (enc x).length = sz) {y : α} (sp : List Value) : ∀ (xs : List α) (k : Nat), k < xs.length → splice (xs.flatMap enc ++ sp) (0 + k * sz) (enc y) = (xs.set k y).flatMap enc ++ sp := by
  intro xs k hk
  have hsp : ∀ (l : List Value) (o : Nat) (vs : List Value), splice l o vs = l.take o ++ vs ++ l.drop (o + vs.length) := fun l o vs => rfl
  rw [hsp, henc, Nat.zero_add]
  induction xs generalizing k with
  | nil => simp at hk
  | cons q rs ih =>
    cases k with
    | zero =>
      simp only [List.flatMap_cons, List.append_assoc, List.set_cons_zero, Nat.zero_mul, List.take_zero, List.nil_append, Nat.zero_add]
      rw [List.drop_append_of_le_length (by rw [henc]; exact Nat.le_refl _), List.drop_of_length_le (by rw [henc]; exact Nat.le_refl _), List.nil_append]
    | succ k =>
      have ih := ih k (by simpa using hk)
      simp only [List.flatMap_cons, List.append_assoc, List.set_cons_succ] at ih ⊢
      rw [← ih]
      have e : (k + 1) * sz = sz + k * sz := by rw [Nat.add_mul]; omega
      rw [e, List.take_append, henc, List.drop_append, henc, List.take_of_length_le (by rw [henc]; omega), List.drop_of_length_le (by rw [henc]; omega), show sz + k * sz - sz = k * sz by omega, show sz + k * sz + sz - sz = k * sz + sz by omega]
      simp only [List.append_assoc, List.nil_append]
end Go.H
