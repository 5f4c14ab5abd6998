/-
  Rules on operations: literals, appends, maps, interfaces, panics.
-/
import Derived.Test.YtjmailhoidenaaaH7
import Derived.MapKept
set_option linter.all false
namespace Go.H
open Go
variable {P : Program} {r : Option Nat} {N : Nat} {Q : Post} {E : Env} {D : List Deferred} {h h' : Hp}
variable {K : Value → Hp → Prop} {T : List PanicEntry → Hp → Prop} {dst : Option Nat} {ty : TypeId} {pos : String} {af : Array Edge} {gd : Option (Nat × Bool)}
/-! ### Literals -/
def putL : List Value → Nat → List Value → List Value
  | l, _, [] => l
  | l, o, v :: vs => putL (l.set o v) (o + 1) vs
def bld (z : List Value) (pl : Nat → Option (Nat × Nat)) : List (Nat × Value) → Option (List Value)
  | [] => some z
  | (i, v) :: rest => match pl i with
    | none => none
    | some (off, size) => if v.cells.toList.length = size ∧ off + size ≤ z.length then bld (putL z off v.cells.toList) pl rest else none
theorem foldl_putL : ∀ (vs : List Value) (j off : Nat) (cs : Array Value), (vs.zipIdx j).foldl (fun cs (c, j) => cs.setIfInBounds (off + j) c) cs = ⟨putL cs.toList (off + j) vs⟩
  | [], j, off, cs => rfl
  | v :: vs, j, off, cs => by
    simp only [List.zipIdx_cons, List.foldl_cons, putL]
    rw [foldl_putL vs (j + 1) off]
    simp [Nat.add_assoc]
theorem putL_length : ∀ (vs l : List Value) (o : Nat), (putL l o vs).length = l.length
  | [], l, o => rfl
  | v :: vs, l, o => by rw [putL, putL_length vs]; simp
theorem bld_fill (pl : Nat → Option (Nat × Nat)) : ∀ (parts : List (Nat × Value)) (z l : List Value), bld z pl parts = some l → Instr.fill pl ⟨z⟩ parts = some ⟨l⟩
  | [], z, l, hh => by cases hh; rfl
  | (i, v) :: rest, z, l, hh => by
    simp only [bld] at hh
    simp only [Instr.fill]
    cases hp : pl i with
    | none => simp [hp] at hh
    | some p =>
      obtain ⟨off, size⟩ := p
      simp only [hp] at hh ⊢
      split at hh
      · rename_i hc
        have h1 : v.cells.size = size := by simpa using hc.1
        have hne : ¬ (decide (v.cells.size ≠ size) || decide (off + v.cells.size > z.toArray.size)) = true := by simp [h1]; omega
        have e : (v.cells.zipIdx.foldl (fun cs (c, j) => cs.setIfInBounds (off + j) c) (⟨z⟩ : Array Value)) = ⟨putL z off v.cells.toList⟩ := by
          have := foldl_putL v.cells.toList 0 off ⟨z⟩
          simp only [Nat.add_zero] at this
          rw [← this, ← Array.foldl_toList]
          simp
        rw [if_neg hne, e]
        exact bld_fill pl rest _ l hh
      · cases hh
/-- What a literal of a type is made of: its zero, each part's place. -/
def BtOk (P : Program) (t : TypeId) (z : List Value) (pl : Nat → Option (Nat × Nat)) : Prop := ∀ parts, P.built t parts = Instr.fill pl ⟨z⟩ parts
def evps (E : Env) : List (Nat × Operand) → Option (List (Nat × Value))
  | [] => some []
  | (i, x) :: xs => match ev E x, evps E xs with
    | some v, some vs => some ((i, v) :: vs)
    | _, _ => none
theorem evps_map {ρ : Operand → Value} (he : ∀ x v, ev E x = some v → ρ x = v) : ∀ (l : List (Nat × Operand)) (vs : List (Nat × Value)), evps E l = some vs → (l.map fun (i, x) => (i, ρ x)) = vs
  | [], _, hh => by cases hh; rfl
  | (i, x) :: xs, _, hh => by
    simp only [evps] at hh
    cases h1 : ev E x with
    | none => simp [h1] at hh
    | some v =>
      cases h2 : evps E xs with
      | none => simp [h1, h2] at hh
      | some vs => simp [h1, h2] at hh; subst hh; simp [he _ _ h1, evps_map he xs vs h2]
theorem xv_build {t : TypeId} {ps : Array (Nat × Operand)} {vs : List (Nat × Value)} {z l : List Value} {pl : Nat → Option (Nat × Nat)} (hb : BtOk P t z pl) (hv : evps E ps.toList = some vs) (hl : bld z pl vs = some l)
    (H : K (.agg ⟨l⟩) h) : XV P r ⟨dst, .build t ps, ty, pos, af, gd⟩ K T E h :=
  xv_of_run (by simp [plainOp]) fun w ρ ho he => ⟨_, h, w, by
    have hm := evps_map he _ _ hv
    have hmm : (ps.map fun (i, x) => (i, ρ x)).toList = vs := by rw [← hm]; simp
    have := run_build (P := P) w t (ps.map fun (i, x) => (i, ρ x)) ⟨l⟩ (by rw [hmm, hb]; exact bld_fill pl vs z l hl)
    simp only [execOp, Sem.run_bind, this, Result.andThen_ok, Sem.run_pure], H, .refl ho⟩
def zeros (z : List Value) : Nat → List Value
  | 0 => []
  | n + 1 => z ++ zeros z n
theorem zeros_length (z : List Value) (n : Nat) : (zeros z n).length = n * z.length := by
  induction n with
  | zero => simp [zeros]
  | succ n ih => simp [zeros, ih, Nat.add_mul, Nat.add_comm]
theorem zeros_get (z : List Value) : ∀ (n i : Nat), i < n * z.length → (zeros z n)[i]? = z[i % z.length]?
  | 0, i, hi => by simp at hi
  | n + 1, i, hi => by
    simp only [zeros]
    by_cases h1 : i < z.length
    · rw [List.getElem?_append_left h1, Nat.mod_eq_of_lt h1]
    · rw [List.getElem?_append_right (by omega), zeros_get z n _ (by rw [Nat.add_mul] at hi; omega)]
      congr 1
      rw [Nat.mod_eq_sub_mod (a := i) (by omega)]
theorem zeros_arr (z : List Value) (n : Nat) (hz : 0 < z.length) : (Array.range (n * z.length)).map (fun i => (⟨z⟩ : Array Value)[i % (⟨z⟩ : Array Value).size]!) = ⟨zeros z n⟩ := by
  apply Array.ext'
  apply List.ext_getElem?
  intro i
  simp only [Array.toList_map, Array.toList_range]
  rw [List.getElem?_map]
  by_cases hi : i < n * z.length
  · rw [List.getElem?_range hi, zeros_get z n i hi]
    have hlt : i % z.length < z.length := Nat.mod_lt _ hz
    simp [hlt]
  · rw [List.getElem?_eq_none (by simpa using Nat.le_of_not_lt hi), List.getElem?_eq_none (by rw [zeros_length]; omega)]
    rfl
theorem run_buildSlice {t e : TypeId} {d : TD} {n : Nat} {parts : Array (Nat × Value)} {zl l : List Value} {w : World} (ht : SlT P t e) (hd : TyOk P e d) (hz : d.zero.cells.toList = zl) (hzs : zl.length = d.size) (h0 : 0 < d.size) (hn : n * d.size ≤ 16777216)
    (hl : bld (zeros zl n) (fun i => some (i * d.size, d.size)) parts.toList = some l) :
    (Instr.buildSlice t n parts).run P w = .ok (.slice (some ⟨w.heap.size, 0, none⟩) n n) (w.alloc (.cells ⟨l⟩ e)) := by
  have hfill := bld_fill _ _ _ _ hl
  have hzc : d.zero.cells = ⟨zl⟩ := by apply Array.ext'; simpa using hz
  have hna : ¬ (n * d.size > 2 ^ 24) := by omega
  unfold Instr.buildSlice
  by_cases hn0 : n = 0
  · subst hn0
    simp only [zeros] at hfill
    simp [run_underlying ht, hd.run_size, Array.range_zero', hfill, newRow]
  · have hne : ¬ (n * d.size = 0) := fun e => by rcases Nat.mul_eq_zero.1 e with h1 | h1 <;> omega
    have ha := zeros_arr zl n (by omega)
    rw [hzs] at ha
    have hna' : ¬ (16777216 < n * d.size) := by omega
    simp only [List.size_toArray] at ha
    simp [run_underlying ht, hd.run_size, hna', hne, hd.run_zero, hzc, newRow]
    simp only [hzs] at ha ⊢
    rw [show (Array.map (fun x => zl[x % d.size]?.getD default) (Array.range (n * d.size))) = ⟨zeros zl n⟩ from ?_]
    · rw [hfill]; simp
    · rw [← ha]
      apply Array.map_congr_left
      intro x _
      simp
end Go.H
