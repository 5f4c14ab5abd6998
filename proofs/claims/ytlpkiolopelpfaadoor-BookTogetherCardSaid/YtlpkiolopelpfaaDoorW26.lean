/-
  Walks.
-/
import Derived.Test.YtlpkiolopelpfaaDoorP14
namespace Go.Proofs.YtlpkiolopelpfaaDoor
open Go Go.H
set_option maxRecDepth 100000
set_option maxHeartbeats 8000000
set_option linter.all false
theorem bool2_c {b : Bool} {h : Hp} {R : Ending → Hp → Prop} (H : R (.returned (I (if b then 1 else 0))) h) : ACalls Tryd.prog 91 ⟨[.bool b]⟩ h R := by
  refine calls_of_xc (N := 4) Tryd.func91 rfl (by rfl) ?_
  refine xc_seq (xc_region ?_)
  refine xr_op rfl rfl (xv_assign rfl ?_)
  refine xr_end rfl ?_
  refine th_n ?_
  refine xc_seq ?_
  refine xc_seq (xc_region ?_)
  cases b
  · refine xr_op rfl rfl (xv_move rfl ?_)
    refine xr_end rfl ?_
    refine th_n ?_
    refine xc_false rfl ?_
    refine xc_skip ?_
    refine th_n ?_
    refine xc_seq (xc_region ?_)
    refine xr_op rfl rfl (xv_assign rfl ?_)
    refine xr_end rfl ?_
    refine th_n ?_
    refine xc_ret ?_
    refine body_ret (h' := h) rfl (ro_tmp rfl ro_nil) (by (first|((repeat first|exact s_0|exact s_1|exact s_3|refine s_4 ?_|refine s_5 ?_|refine s_6 ?_|refine s_7 ?_);done)|((repeat first|exact s_0|exact s_1|exact s_3|refine s_4 ?_|refine s_5 ?_|refine s_6 ?_|refine s_8 ?_);done))) ?_
    exact H
  · refine xr_op rfl rfl (xv_move rfl ?_)
    refine xr_end rfl ?_
    refine th_n ?_
    refine xc_true rfl ?_
    refine xc_seq (xc_region ?_)
    refine xr_op rfl rfl (xv_assign rfl ?_)
    refine xr_end rfl ?_
    refine th_n ?_
    refine xc_ret ?_
    refine th_r ?_
    refine body_ret (h' := h) rfl (ro_tmp rfl ro_nil) (by (first|((repeat first|exact s_0|exact s_1|exact s_3|refine s_4 ?_|refine s_5 ?_|refine s_6 ?_|refine s_7 ?_);done)|((repeat first|exact s_0|exact s_1|exact s_3|refine s_4 ?_|refine s_5 ?_|refine s_6 ?_|refine s_8 ?_);done))) ?_
    exact H

theorem len64_c {n : Nat} {h : Hp} {R : Ending → Hp → Prop} (hn : n < 134217728) (H : R (.returned (I (Go.Sort.bitsLen n : Nat))) h) : ACalls Tryd.prog 90 ⟨[.int .u64 n]⟩ h R := by
  refine calls_of_xc (N := 25) Tryd.func90 rfl (by rfl) ?_
  refine xc_seq (xc_region ?_)
  refine xr_op rfl rfl (xv_assign rfl ?_)
  refine xr_end rfl ?_
  refine th_n ?_
  refine xc_seq ?_
  refine xc_seq (xc_region ?_)
  rcases (show (65536 ≤ n ∧ 256 ≤ n / 2 ^ 16) ∨ (65536 ≤ n ∧ n / 2 ^ 16 < 256) ∨ (256 ≤ n ∧ n < 65536) ∨ n < 256 by omega) with ⟨h1, h2⟩ | ⟨h1, h2⟩ | ⟨h1, h2⟩ | h1
  · refine xr_op rfl rfl (xv_move rfl ?_)
    refine xr_op rfl rfl (xv_cmpK rfl rfl (cmpF rfl (by simp only [cmpP]; (first|omega|(dsimp only at *;omega)|(simp at *;omega)))) ?_)
    refine xr_end rfl ?_
    refine th_n ?_
    refine xc_false rfl ?_
    refine xc_skip ?_
    refine th_n ?_
    refine xc_seq ?_
    refine xc_seq (xc_region ?_)
    refine xr_op rfl rfl (xv_move rfl ?_)
    refine xr_op rfl rfl (xv_cmpK rfl rfl (cmpT (by simp only [cmpP]; (first|omega|(dsimp only at *;omega)|(simp at *;omega)))) ?_)
    refine xr_end rfl ?_
    refine th_n ?_
    refine xc_true rfl ?_
    refine xc_seq (xc_region ?_)
    refine xr_op rfl rfl (xv_move rfl ?_)
    refine xr_op rfl rfl (xv_shrN (a := n) (s := 16) rfl rfl (by decide) ?_)
    refine xr_op rfl rfl (xv_assign rfl ?_)
    refine xr_end rfl ?_
    refine th_n ?_
    refine xc_region ?_
    refine xr_op rfl rfl (xv_move rfl ?_)
    refine xr_op rfl rfl (xv_add (c := 16) rfl rfl (by decide) ?_)
    refine xr_op rfl rfl (xv_assign rfl ?_)
    refine xr_end rfl ?_
    refine th_n ?_
    refine xc_seq ?_
    refine xc_seq (xc_region ?_)
    refine xr_op rfl rfl (xv_move rfl ?_)
    refine xr_op rfl rfl (xv_cmpK rfl rfl (cmpT (by simp only [cmpP]; (first|omega|(dsimp only at *;omega)|(simp at *;omega)))) ?_)
    refine xr_end rfl ?_
    refine th_n ?_
    refine xc_true rfl ?_
    refine xc_seq (xc_region ?_)
    refine xr_op rfl rfl (xv_move rfl ?_)
    refine xr_op rfl rfl (xv_shrN (a := n / 2 ^ 16) (s := 8) rfl rfl (by decide) ?_)
    refine xr_op rfl rfl (xv_assign rfl ?_)
    refine xr_end rfl ?_
    refine th_n ?_
    refine xc_region ?_
    refine xr_op rfl rfl (xv_move rfl ?_)
    refine xr_op rfl rfl (xv_add (c := 24) rfl rfl (by decide) ?_)
    refine xr_op rfl rfl (xv_assign rfl ?_)
    refine xr_end rfl ?_
    refine th_n ?_
    refine xc_seq (xc_region ?_)
    refine xr_op rfl rfl (xv_move rfl ?_)
    refine xr_op rfl rfl (xv_move rfl ?_)
    refine xr_op rfl rfl (xv_convI (m := ((n / 2 ^ 16 / 2 ^ 8 : Nat) : Int)) Tryd.underlying132 Tryd.underlying5 rfl (wrap_u8 (by omega) (by omega)) ?_)
    refine xr_op rfl rfl (xv_indexT (m := 256) (f := Go.Sort.bitsLen) Tryd.underlying9 rfl rfl (by omega) (by omega) (by kernel_rfl) ?_)
    refine xr_op rfl rfl (xv_convI (m := ((Go.Sort.bitsLen (n / 2 ^ 16 / 2 ^ 8) : Nat) : Int)) Tryd.underlying5 Tryd.underlying3 rfl (by rw [Int.toNat_natCast, bl_256 (by omega)]; have := (Go.Sort.bitsLen_le_iff (n / 2 ^ 16 / 2 ^ 8) 8).2 (by omega); exact wrap_i64 (by omega) (by omega)) ?_)
    refine xr_op rfl rfl (xv_add (c := ((Go.Sort.bitsLen n : Nat) : Int)) rfl rfl (acc_wrap (a := 24) (b := Go.Sort.bitsLen (n / 2 ^ 16 / 2 ^ 8)) (by rw [bl_shift (n := n) (k := 16) (by omega), bl_shift (n := n / 2 ^ 16) (k := 8) (by omega)]; omega) (bl_le hn)) ?_)
    refine xr_op rfl rfl (xv_assign rfl ?_)
    refine xr_end rfl ?_
    refine th_n ?_
    refine xc_ret ?_
    refine body_ret (h' := h) rfl (ro_tmp rfl ro_nil) (by (first|((repeat first|exact s_0|exact s_1|exact s_3|refine s_4 ?_|refine s_5 ?_|refine s_6 ?_|refine s_7 ?_);done)|((repeat first|exact s_0|exact s_1|exact s_3|refine s_4 ?_|refine s_5 ?_|refine s_6 ?_|refine s_8 ?_);done))) ?_
    exact H
  · refine xr_op rfl rfl (xv_move rfl ?_)
    refine xr_op rfl rfl (xv_cmpK rfl rfl (cmpF rfl (by simp only [cmpP]; (first|omega|(dsimp only at *;omega)|(simp at *;omega)))) ?_)
    refine xr_end rfl ?_
    refine th_n ?_
    refine xc_false rfl ?_
    refine xc_skip ?_
    refine th_n ?_
    refine xc_seq ?_
    refine xc_seq (xc_region ?_)
    refine xr_op rfl rfl (xv_move rfl ?_)
    refine xr_op rfl rfl (xv_cmpK rfl rfl (cmpT (by simp only [cmpP]; (first|omega|(dsimp only at *;omega)|(simp at *;omega)))) ?_)
    refine xr_end rfl ?_
    refine th_n ?_
    refine xc_true rfl ?_
    refine xc_seq (xc_region ?_)
    refine xr_op rfl rfl (xv_move rfl ?_)
    refine xr_op rfl rfl (xv_shrN (a := n) (s := 16) rfl rfl (by decide) ?_)
    refine xr_op rfl rfl (xv_assign rfl ?_)
    refine xr_end rfl ?_
    refine th_n ?_
    refine xc_region ?_
    refine xr_op rfl rfl (xv_move rfl ?_)
    refine xr_op rfl rfl (xv_add (c := 16) rfl rfl (by decide) ?_)
    refine xr_op rfl rfl (xv_assign rfl ?_)
    refine xr_end rfl ?_
    refine th_n ?_
    refine xc_seq ?_
    refine xc_seq (xc_region ?_)
    refine xr_op rfl rfl (xv_move rfl ?_)
    refine xr_op rfl rfl (xv_cmpK rfl rfl (cmpF rfl (by simp only [cmpP]; (first|omega|(dsimp only at *;omega)|(simp at *;omega)))) ?_)
    refine xr_end rfl ?_
    refine th_n ?_
    refine xc_false rfl ?_
    refine xc_skip ?_
    refine th_n ?_
    refine xc_seq (xc_region ?_)
    refine xr_op rfl rfl (xv_move rfl ?_)
    refine xr_op rfl rfl (xv_move rfl ?_)
    refine xr_op rfl rfl (xv_convI (m := ((n / 2 ^ 16 : Nat) : Int)) Tryd.underlying132 Tryd.underlying5 rfl (wrap_u8 (by omega) (by omega)) ?_)
    refine xr_op rfl rfl (xv_indexT (m := 256) (f := Go.Sort.bitsLen) Tryd.underlying9 rfl rfl (by omega) (by omega) (by kernel_rfl) ?_)
    refine xr_op rfl rfl (xv_convI (m := ((Go.Sort.bitsLen (n / 2 ^ 16) : Nat) : Int)) Tryd.underlying5 Tryd.underlying3 rfl (by rw [Int.toNat_natCast, bl_256 (by omega)]; have := (Go.Sort.bitsLen_le_iff (n / 2 ^ 16) 8).2 (by omega); exact wrap_i64 (by omega) (by omega)) ?_)
    refine xr_op rfl rfl (xv_add (c := ((Go.Sort.bitsLen n : Nat) : Int)) rfl rfl (acc_wrap (a := 16) (b := Go.Sort.bitsLen (n / 2 ^ 16)) (by rw [bl_shift (n := n) (k := 16) (by omega)]; omega) (bl_le hn)) ?_)
    refine xr_op rfl rfl (xv_assign rfl ?_)
    refine xr_end rfl ?_
    refine th_n ?_
    refine xc_ret ?_
    refine body_ret (h' := h) rfl (ro_tmp rfl ro_nil) (by (first|((repeat first|exact s_0|exact s_1|exact s_3|refine s_4 ?_|refine s_5 ?_|refine s_6 ?_|refine s_7 ?_);done)|((repeat first|exact s_0|exact s_1|exact s_3|refine s_4 ?_|refine s_5 ?_|refine s_6 ?_|refine s_8 ?_);done))) ?_
    exact H
  · refine xr_op rfl rfl (xv_move rfl ?_)
    refine xr_op rfl rfl (xv_cmpK rfl rfl (cmpF rfl (by simp only [cmpP]; (first|omega|(dsimp only at *;omega)|(simp at *;omega)))) ?_)
    refine xr_end rfl ?_
    refine th_n ?_
    refine xc_false rfl ?_
    refine xc_skip ?_
    refine th_n ?_
    refine xc_seq ?_
    refine xc_seq (xc_region ?_)
    refine xr_op rfl rfl (xv_move rfl ?_)
    refine xr_op rfl rfl (xv_cmpK rfl rfl (cmpF rfl (by simp only [cmpP]; (first|omega|(dsimp only at *;omega)|(simp at *;omega)))) ?_)
    refine xr_end rfl ?_
    refine th_n ?_
    refine xc_false rfl ?_
    refine xc_skip ?_
    refine th_n ?_
    refine xc_seq ?_
    refine xc_seq (xc_region ?_)
    refine xr_op rfl rfl (xv_move rfl ?_)
    refine xr_op rfl rfl (xv_cmpK rfl rfl (cmpT (by simp only [cmpP]; (first|omega|(dsimp only at *;omega)|(simp at *;omega)))) ?_)
    refine xr_end rfl ?_
    refine th_n ?_
    refine xc_true rfl ?_
    refine xc_seq (xc_region ?_)
    refine xr_op rfl rfl (xv_move rfl ?_)
    refine xr_op rfl rfl (xv_shrN (a := n) (s := 8) rfl rfl (by decide) ?_)
    refine xr_op rfl rfl (xv_assign rfl ?_)
    refine xr_end rfl ?_
    refine th_n ?_
    refine xc_region ?_
    refine xr_op rfl rfl (xv_move rfl ?_)
    refine xr_op rfl rfl (xv_add (c := 8) rfl rfl (by decide) ?_)
    refine xr_op rfl rfl (xv_assign rfl ?_)
    refine xr_end rfl ?_
    refine th_n ?_
    refine xc_seq (xc_region ?_)
    refine xr_op rfl rfl (xv_move rfl ?_)
    refine xr_op rfl rfl (xv_move rfl ?_)
    refine xr_op rfl rfl (xv_convI (m := ((n / 2 ^ 8 : Nat) : Int)) Tryd.underlying132 Tryd.underlying5 rfl (wrap_u8 (by omega) (by omega)) ?_)
    refine xr_op rfl rfl (xv_indexT (m := 256) (f := Go.Sort.bitsLen) Tryd.underlying9 rfl rfl (by omega) (by omega) (by kernel_rfl) ?_)
    refine xr_op rfl rfl (xv_convI (m := ((Go.Sort.bitsLen (n / 2 ^ 8) : Nat) : Int)) Tryd.underlying5 Tryd.underlying3 rfl (by rw [Int.toNat_natCast, bl_256 (by omega)]; have := (Go.Sort.bitsLen_le_iff (n / 2 ^ 8) 8).2 (by omega); exact wrap_i64 (by omega) (by omega)) ?_)
    refine xr_op rfl rfl (xv_add (c := ((Go.Sort.bitsLen n : Nat) : Int)) rfl rfl (acc_wrap (a := 8) (b := Go.Sort.bitsLen (n / 2 ^ 8)) (by rw [bl_shift (n := n) (k := 8) (by omega)]; omega) (bl_le hn)) ?_)
    refine xr_op rfl rfl (xv_assign rfl ?_)
    refine xr_end rfl ?_
    refine th_n ?_
    refine xc_ret ?_
    refine body_ret (h' := h) rfl (ro_tmp rfl ro_nil) (by (first|((repeat first|exact s_0|exact s_1|exact s_3|refine s_4 ?_|refine s_5 ?_|refine s_6 ?_|refine s_7 ?_);done)|((repeat first|exact s_0|exact s_1|exact s_3|refine s_4 ?_|refine s_5 ?_|refine s_6 ?_|refine s_8 ?_);done))) ?_
    exact H
  · refine xr_op rfl rfl (xv_move rfl ?_)
    refine xr_op rfl rfl (xv_cmpK rfl rfl (cmpF rfl (by simp only [cmpP]; (first|omega|(dsimp only at *;omega)|(simp at *;omega)))) ?_)
    refine xr_end rfl ?_
    refine th_n ?_
    refine xc_false rfl ?_
    refine xc_skip ?_
    refine th_n ?_
    refine xc_seq ?_
    refine xc_seq (xc_region ?_)
    refine xr_op rfl rfl (xv_move rfl ?_)
    refine xr_op rfl rfl (xv_cmpK rfl rfl (cmpF rfl (by simp only [cmpP]; (first|omega|(dsimp only at *;omega)|(simp at *;omega)))) ?_)
    refine xr_end rfl ?_
    refine th_n ?_
    refine xc_false rfl ?_
    refine xc_skip ?_
    refine th_n ?_
    refine xc_seq ?_
    refine xc_seq (xc_region ?_)
    refine xr_op rfl rfl (xv_move rfl ?_)
    refine xr_op rfl rfl (xv_cmpK rfl rfl (cmpF rfl (by simp only [cmpP]; (first|omega|(dsimp only at *;omega)|(simp at *;omega)))) ?_)
    refine xr_end rfl ?_
    refine th_n ?_
    refine xc_false rfl ?_
    refine xc_skip ?_
    refine th_n ?_
    refine xc_seq (xc_region ?_)
    refine xr_op rfl rfl (xv_move rfl ?_)
    refine xr_op rfl rfl (xv_move rfl ?_)
    refine xr_op rfl rfl (xv_convI (m := ((n : Nat) : Int)) Tryd.underlying132 Tryd.underlying5 rfl (wrap_u8 (by omega) (by omega)) ?_)
    refine xr_op rfl rfl (xv_indexT (m := 256) (f := Go.Sort.bitsLen) Tryd.underlying9 rfl rfl (by omega) (by omega) (by kernel_rfl) ?_)
    refine xr_op rfl rfl (xv_convI (m := ((Go.Sort.bitsLen (n) : Nat) : Int)) Tryd.underlying5 Tryd.underlying3 rfl (by rw [Int.toNat_natCast, bl_256 (by omega)]; have := (Go.Sort.bitsLen_le_iff (n) 8).2 (by omega); exact wrap_i64 (by omega) (by omega)) ?_)
    refine xr_op rfl rfl (xv_add (c := ((Go.Sort.bitsLen n : Nat) : Int)) rfl rfl (acc_wrap (a := 0) (b := Go.Sort.bitsLen (n)) (by omega) (bl_le hn)) ?_)
    refine xr_op rfl rfl (xv_assign rfl ?_)
    refine xr_end rfl ?_
    refine th_n ?_
    refine xc_ret ?_
    refine body_ret (h' := h) rfl (ro_tmp rfl ro_nil) (by (first|((repeat first|exact s_0|exact s_1|exact s_3|refine s_4 ?_|refine s_5 ?_|refine s_6 ?_|refine s_7 ?_);done)|((repeat first|exact s_0|exact s_1|exact s_3|refine s_4 ?_|refine s_5 ?_|refine s_6 ?_|refine s_8 ?_);done))) ?_
    exact H

theorem log10_c {n : Nat} {h : Hp} {R : Ending → Hp → Prop} (hn : n < 134217728) (H : R (.returned (I (l10 n : Nat))) h) : ACalls Tryd.prog 89 ⟨[I (Go.Sort.bitsLen n : Nat)]⟩ h R := by
  refine calls_of_xc (N := 6) Tryd.func89 rfl (by rfl) ?_
  have hb := bl_le hn
  refine xc_seq (xc_region ?_)
  refine xr_op rfl rfl (xv_assign rfl ?_)
  refine xr_end rfl ?_
  refine th_n ?_
  refine xc_seq (xc_region ?_)
  refine xr_op rfl rfl (xv_move rfl ?_)
  refine xr_op rfl rfl (xv_mul (c := ((Go.Sort.bitsLen n * 78913 : Nat) : Int)) rfl rfl (by rw [show (78913 : Int) = ((78913 : Nat) : Int) from rfl, ← Int.natCast_mul]; exact sm64 _ (by omega)) ?_)
  refine xr_op rfl rfl (xv_shrN (a := Go.Sort.bitsLen n * 78913) (s := 18) rfl rfl (by decide) ?_)
  refine xr_op rfl rfl (xv_assign rfl ?_)
  refine xr_end rfl ?_
  refine th_n ?_
  refine xc_ret ?_
  refine body_ret (h' := h) rfl (ro_tmp rfl ro_nil) (by (first|((repeat first|exact s_0|exact s_1|exact s_3|refine s_4 ?_|refine s_5 ?_|refine s_6 ?_|refine s_7 ?_);done)|((repeat first|exact s_0|exact s_1|exact s_3|refine s_4 ?_|refine s_5 ?_|refine s_6 ?_|refine s_8 ?_);done))) ?_
  exact H

theorem numDigits_c {n d : Nat} {h : Hp} {R : Ending → Hp → Prop} (hp : PowV h) (h1 : 1 ≤ n) (hn : n < 100000000) (hd : (dec n).length = d) (H : R (.returned (I (d : Nat))) h) : ACalls Tryd.prog 86 ⟨[.int .u64 n]⟩ h R := by
  refine calls_of_xc (N := 15) Tryd.func86 rfl (by rfl) ?_
  have hl := l10_le (n := n) (by omega)
  have hnd := nd_eq h1 hn
  rw [hd] at hnd
  obtain ⟨tp, hpm⟩ := hp
  refine xc_seq (xc_region ?_)
  refine xr_op rfl rfl (xv_assign rfl ?_)
  refine xr_end rfl ?_
  refine th_n ?_
  refine xc_seq (xc_region ?_)
  refine xr_op rfl rfl (xv_move rfl ?_)
  refine xr_op rfl rfl (xv_calls rfl hb90 (len64_c (by omega) (up_ret ?_)))
  refine xr_op rfl rfl (xv_calls rfl hb89 (log10_c (by omega) (up_ret ?_)))
  refine xr_op rfl rfl (xv_assign rfl ?_)
  refine xr_end rfl ?_
  refine th_n ?_
  refine xc_seq (xc_region ?_)
  refine xr_op rfl rfl (xv_move rfl ?_)
  refine xr_op rfl rfl (xv_move rfl ?_)
  refine xr_op rfl rfl (xv_move rfl ?_)
  refine xr_op rfl rfl (xv_iaA (sz := 1) (j := l10 n) Tryd.underlying138 ty132 rfl rfl rfl (by (first | assumption | with_reducible exact Int.toNat_natCast _ | with_reducible rfl | rfl)) (by (first|omega|(dsimp only at *;omega)|(simp at *;omega))) (by (first|omega|(dsimp only at *;omega)|(simp at *;omega))) ?_)
  refine xr_op rfl rfl (xv_load1 ty132 rfl rfl hpm (pow_at hl) ?_)
  refine xr_op rfl rfl (xv_cmpK (c := decide (((10 ^ l10 n : Nat) : Int) ≤ (n : Int))) rfl rfl rfl ?_)
  refine xr_op rfl rfl (xv_calls rfl hb91 (bool2_c (up_ret ?_)))
  refine xr_op rfl rfl (xv_add (c := (d : Int)) rfl rfl (nd_val hnd (by have := dec_len (n := n) 8 (by omega); omega)) ?_)
  refine xr_op rfl rfl (xv_assign rfl ?_)
  refine xr_end rfl ?_
  refine th_n ?_
  refine xc_ret ?_
  refine body_ret (h' := h) rfl (ro_tmp rfl ro_nil) (by (first|((repeat first|exact s_0|exact s_1|exact s_3|refine s_4 ?_|refine s_5 ?_|refine s_6 ?_|refine s_7 ?_);done)|((repeat first|exact s_0|exact s_1|exact s_3|refine s_4 ?_|refine s_5 ?_|refine s_6 ?_|refine s_8 ?_);done))) ?_
  exact H

end Go.Proofs.YtlpkiolopelpfaaDoor
