/-
  Rules: words of 64 bits; bytes of a text that is known.
-/
import Derived.Test.YtjbfdfmngampdaaHS
import Derived.Sort.LotD1
set_option linter.all false
namespace Go.H
open Go
variable {P : Program} {r : Option Nat} {E : Env} {h : Hp}
variable {K : Value → Hp → Prop} {T : List PanicEntry → Hp → Prop} {dst : Option Nat} {ty : TypeId} {pos : String} {af : Array Edge} {gd : Option (Nat × Bool)}
abbrev U (w : UInt64) : Value := .int .u64 (w.toNat : Int)
theorem xv_shlU {xt yt : TypeId} {x y : Operand} {yk : IntKind} {w w' : UInt64} {s : Nat} (hx : ev E x = some (U w)) (hy : ev E y = some (.int yk (s : Int))) (hs : s < 64) (hw : w <<< (UInt64.ofNat s) = w') (H : K (U w') h) : XV P r ⟨dst, .binOp .shl xt x y yt, ty, pos, af, gd⟩ K T E h :=
  xv_of_run (by simp [plainOp]) fun W ρ ho he => ⟨_, h, W, by
    rw [run_bin (he _ _ hx) (he _ _ hy) (fun _ => by simp [eqGuard])]
    have h1 : ¬ ((s : Int) < 0) := by omega
    have h2 : min (s : Int).toNat IntKind.u64.bits = s := by simp [IntKind.bits]; omega
    have h3 : IntKind.u64.wrap ((w.toNat : Int) * 2 ^ s) = (w'.toNat : Int) := by
      have hq : (UInt64.ofNat s).toNat % 64 = s := by rw [UInt64.toNat_ofNat']; omega
      rw [IntKind.wrap_u64, ← hw, UInt64.toNat_shiftLeft, hq, Nat.shiftLeft_eq, Int.natCast_emod, Int.natCast_mul, Int.natCast_pow]
      rfl
    simp only [binOp, Op.shift, if_neg h1, h2, h3]
    rfl, H, .refl ho⟩
theorem xv_shrU {xt yt : TypeId} {x y : Operand} {yk : IntKind} {w w' : UInt64} {s : Nat} (hx : ev E x = some (U w)) (hy : ev E y = some (.int yk (s : Int))) (hs : s < 64) (hw : w >>> (UInt64.ofNat s) = w') (H : K (U w') h) : XV P r ⟨dst, .binOp .shr xt x y yt, ty, pos, af, gd⟩ K T E h :=
  xv_of_run (by simp [plainOp]) fun W ρ ho he => ⟨_, h, W, by
    rw [run_bin (he _ _ hx) (he _ _ hy) (fun _ => by simp [eqGuard])]
    have h1 : ¬ ((s : Int) < 0) := by omega
    have h2 : min (s : Int).toNat IntKind.u64.bits = s := by simp [IntKind.bits]; omega
    have h3 : (w.toNat : Int).fdiv (2 ^ s) = (w'.toNat : Int) := by
      have hq : (UInt64.ofNat s).toNat % 64 = s := by rw [UInt64.toNat_ofNat']; omega
      rw [← hw, UInt64.toNat_shiftRight, hq, Nat.shiftRight_eq_div_pow]
      rw [Int.fdiv_eq_ediv_of_nonneg _ (by exact Int.le_of_lt (Int.pow_pos (by decide)))]
      push_cast
      rfl
    simp only [binOp, Op.shift, if_neg h1, h2, h3]
    rfl, H, .refl ho⟩
theorem bv_of (w : UInt64) : BitVec.ofInt 64 (w.toNat : Int) = w.toBitVec := by
  rw [BitVec.ofInt_natCast]
  simp
theorem xv_xorU {xt yt : TypeId} {x y : Operand} {a b c : UInt64} (hx : ev E x = some (U a)) (hy : ev E y = some (U b)) (hw : a ^^^ b = c) (H : K (U c) h) : XV P r ⟨dst, .binOp .xor xt x y yt, ty, pos, af, gd⟩ K T E h :=
  xv_of_run (by simp [plainOp]) fun W ρ ho he => ⟨_, h, W, by
    rw [run_bin (he _ _ hx) (he _ _ hy) (eqGuard_int _ _ _ _ _ _ _)]
    have h3 : IntKind.u64.wrap (((BitVec.ofInt 64 (a.toNat : Int) ^^^ BitVec.ofInt 64 (b.toNat : Int)).toNat : Nat) : Int) = (c.toNat : Int) := by
      rw [IntKind.wrap_u64, bv_of, bv_of, ← hw]
      have := (a ^^^ b).toNat_lt
      show ((((a ^^^ b).toNat : Nat) : Int)) % _ = _
      omega
    simp only [binOp, Op.intBits, ne_eq, not_true_eq_false, if_false]
    exact congrArg (fun z => ((pure (Value.int IntKind.u64 z) : Sem Value).run P W).andThen fun z w' => Result.ok (Next.value z) w') h3, H, .refl ho⟩
theorem xv_andU {xt yt : TypeId} {x y : Operand} {a b c : UInt64} (hx : ev E x = some (U a)) (hy : ev E y = some (U b)) (hw : a &&& b = c) (H : K (U c) h) : XV P r ⟨dst, .binOp .and xt x y yt, ty, pos, af, gd⟩ K T E h :=
  xv_of_run (by simp [plainOp]) fun W ρ ho he => ⟨_, h, W, by
    rw [run_bin (he _ _ hx) (he _ _ hy) (eqGuard_int _ _ _ _ _ _ _)]
    have h3 : IntKind.u64.wrap (((BitVec.ofInt 64 (a.toNat : Int) &&& BitVec.ofInt 64 (b.toNat : Int)).toNat : Nat) : Int) = (c.toNat : Int) := by
      rw [IntKind.wrap_u64, bv_of, bv_of, ← hw]
      have := (a &&& b).toNat_lt
      show ((((a &&& b).toNat : Nat) : Int)) % _ = _
      omega
    simp only [binOp, Op.intBits, ne_eq, not_true_eq_false, if_false]
    exact congrArg (fun z => ((pure (Value.int IntKind.u64 z) : Sem Value).run P W).andThen fun z w' => Result.ok (Next.value z) w') h3, H, .refl ho⟩
theorem xv_indexT {x y : Operand} {t : TypeId} {s : ByteArray} {k : IntKind} {i : Int} {f : Nat → Nat} {m : Nat} (ht : P.underlying t = some .string) (hx : ev E x = some (.string s)) (hy : ev E y = some (.int k i)) (h0 : 0 ≤ i) (h1 : i < m) (h2 : (List.range m).all (fun j => if h : j < s.size then s[j] == UInt8.ofNat (f j) else false) = true)
    (H : K (.int .u8 (((UInt8.ofNat (f i.toNat)).toNat : Nat) : Int)) h) : XV P r ⟨dst, .index t x y, ty, pos, af, gd⟩ K T E h :=
  xv_of_run (by simp [plainOp]) fun w ρ ho he => by
    have hs := List.all_eq_true.1 h2 i.toNat (List.mem_range.2 (by omega))
    have hlt : i.toNat < s.size := by
      by_cases hlt : i.toNat < s.size
      · exact hlt
      · rw [dif_neg hlt] at hs; cases hs
    rw [dif_pos hlt] at hs
    have hv := eq_of_beq hs
    refine ⟨_, h, w, ?_, H, .refl ho⟩
    simp [execOp, he _ _ hx, he _ _ hy, Instr.index, asIntOf, run_underlying ht, h0, hlt, hv]
theorem len8 : ∀ {n : Nat}, n ≤ 49 → (UInt8.ofNat (Go.Sort.bitsLen n)).toNat = Go.Sort.bitsLen n ∧ Go.Sort.bitsLen n ≤ 6 := fun {n} h => by
  have hb : Go.Sort.bitsLen n ≤ 6 := (Go.Sort.bitsLen_le_iff n 6).2 (by omega)
  exact ⟨by rw [UInt8.toNat_ofNat']; omega, hb⟩
theorem mod_facts {n : Nat} (h8 : 8 ≤ n) (h : n ≤ 49) : ((1 : UInt64) <<< UInt64.ofNat (Go.Sort.bitsLen n)).toNat = 1 <<< Go.Sort.bitsLen n ∧ n < 1 <<< Go.Sort.bitsLen n ∧ 1 <<< Go.Sort.bitsLen n ≤ 2 * n := by
  have hb := (len8 h).2
  have h1 : n < 2 ^ Go.Sort.bitsLen n := Go.Sort.lt_two_pow_bitsLen n
  have h2 : ¬ n < 2 ^ (Go.Sort.bitsLen n - 1) := fun hc => by
    have := (Go.Sort.bitsLen_le_iff n (Go.Sort.bitsLen n - 1)).2 hc
    have h0 : 0 < Go.Sort.bitsLen n := Nat.pos_of_ne_zero (fun h0 => by rw [h0] at h1; simp at h1; omega)
    omega
  have h0 : 0 < Go.Sort.bitsLen n := Nat.pos_of_ne_zero (fun h0 => by rw [h0] at h1; simp at h1; omega)
  have h3 : 2 ^ Go.Sort.bitsLen n = 2 * 2 ^ (Go.Sort.bitsLen n - 1) := by
    rw [show Go.Sort.bitsLen n = (Go.Sort.bitsLen n - 1) + 1 by omega, Nat.pow_succ, Nat.add_sub_cancel]; omega
  rw [Nat.shiftLeft_eq, Nat.one_mul]
  refine ⟨?_, h1, by omega⟩
  have hq : (UInt64.ofNat (Go.Sort.bitsLen n)).toNat % 64 = Go.Sort.bitsLen n := by rw [UInt64.toNat_ofNat']; omega
  have hp : 2 ^ Go.Sort.bitsLen n ≤ 2 ^ 6 := Nat.pow_le_pow_right (by decide) hb
  rw [UInt64.toNat_shiftLeft, hq, Nat.shiftLeft_eq]
  show 1 * 2 ^ Go.Sort.bitsLen n % 2 ^ 64 = _
  rw [Nat.one_mul, Nat.mod_eq_of_lt (by omega)]
end Go.H
