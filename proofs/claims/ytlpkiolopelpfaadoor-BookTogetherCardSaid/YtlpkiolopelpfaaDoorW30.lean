/-
  Walks.
-/
import Derived.Test.YtlpkiolopelpfaaDoorW26
import Derived.Test.YtlpkiolopelpfaaDoorP14
namespace Go.Proofs.YtlpkiolopelpfaaDoor
open Go Go.H
set_option maxRecDepth 100000
set_option maxHeartbeats 8000000
set_option linter.all false
theorem fb10_c {n d d1 b : Nat} {h : Hp} {R : Ending → Hp → Prop} (hd3 : 3 ≤ d) (hd8 : d ≤ 8) (hn : n < 10 ^ d) (e1 : d1 = d) (H : R (.returned (.tuple #[])) ((b, .cells ⟨(tl d d n).flatMap eB⟩ 131) :: h)) : ACalls Tryd.prog 87 ⟨[.slice (some ⟨b, 1, none⟩) d1 23, .int .u64 n]⟩ ((b, .cells ⟨(tl d 0 n).flatMap eB⟩ 131) :: h) R := by
  subst e1
  refine calls_of_xc (N := 167) Tryd.func87 rfl (by rfl) ?_
  have hn8 : n < 100000000 := Nat.lt_of_lt_of_le hn (Nat.pow_le_pow_right (by decide) hd8 : 10 ^ d1 ≤ 10 ^ 8)
  refine xc_seq (xc_region ?_)
  refine xr_op rfl rfl (xv_move rfl ?_)
  refine xr_op rfl rfl (xv_len sl23 rfl ?_)
  refine xr_op rfl rfl (xv_assign rfl ?_)
  refine xr_end rfl ?_
  refine th_n ?_
  refine xc_seq ?_
  refine xc_block ?_
  refine xc_loop (σ := Nat) (fun k => k ≤ 1 ∧ (k = 1 → d1 = 8)) (fun k => (((emp.put (some 0) (.slice (some ⟨b, 1, none⟩) d1 23)).put (some 1) (.int .u64 ((n / 100000000 ^ k : Nat) : Int))).put (some 4) (I ((d1 - 8 * k : Nat) : Int)))) (fun k => ((b, .cells ⟨(tl d1 (8 * k) n).flatMap eB⟩ 131) :: h)) (fun k => 1 - k) 0 ⟨by omega, fun h9 => by omega⟩ (le_put (le_put (le_put (le_emp _) rfl) (by show _ = some _; rw [Nat.pow_zero, Nat.div_one]; rfl)) rfl) (by (first|((repeat first|exact s_0|exact s_1|exact s_3|refine s_4 ?_|refine s_5 ?_|refine s_6 ?_|refine s_7 ?_);done)|((repeat first|exact s_0|exact s_1|exact s_3|refine s_4 ?_|refine s_5 ?_|refine s_6 ?_|refine s_8 ?_);done))) ?_
  rintro k ⟨hk, hk1⟩
  refine xc_seq ?_
  refine xc_seq (xc_region ?_)
  refine xr_op rfl rfl (xv_move rfl ?_)
  refine xr_op rfl rfl (xv_geq2 rfl rfl (fun q1 => ?_) (fun q1 => ?_))
  · refine xr_end rfl ?_
    refine th_n ?_
    refine xc_true rfl ?_
    refine xc_skip ?_
    refine th_n ?_
    refine xc_block ?_
    refine xc_seq (xc_region ?_)
    obtain ⟨rfl, rfl⟩ : k = 0 ∧ d1 = 8 := by (first|omega|(dsimp only at *;omega)|(simp at *;omega))
    refine xr_op rfl rfl (xv_move rfl ?_)
    refine xr_op rfl rfl (xv_remN (a := n / 100000000 ^ 0) (m := 100000000) rfl rfl (by decide) ?_)
    refine xr_op rfl rfl (xv_convI (m := ((n : Nat) : Int)) Tryd.underlying132 Tryd.underlying139 rfl (by rw [show n / 100000000 ^ 0 % 100000000 = n by omega]; exact smU32 _ (by omega)) ?_)
    refine xr_op rfl rfl (xv_assign rfl ?_)
    refine xr_end rfl ?_
    refine th_n ?_
    refine xc_seq (xc_region ?_)
    refine xr_op rfl rfl (xv_move rfl ?_)
    refine xr_op rfl rfl (xv_quoN (a := n / 100000000 ^ 0) (m := 100000000) smU64 rfl rfl (by decide) (by omega) ?_)
    refine xr_op rfl rfl (xv_assign rfl ?_)
    refine xr_end rfl ?_
    refine th_n ?_
    refine xc_seq (xc_region ?_)
    refine xr_op rfl rfl (xv_move rfl ?_)
    refine xr_op rfl rfl (xv_quoN (a := n) (m := 10000) smU32 rfl rfl (by decide) (by omega) ?_)
    refine xr_op rfl rfl (xv_move rfl ?_)
    refine xr_op rfl rfl (xv_remN (a := n) (m := 10000) rfl rfl (by decide) ?_)
    refine xr_op rfl rfl (xv_assign rfl ?_)
    refine xr_op rfl rfl (xv_assign rfl ?_)
    refine xr_end rfl ?_
    refine th_n ?_
    refine xc_seq (xc_region ?_)
    refine xr_op rfl rfl (xv_move rfl ?_)
    refine xr_op rfl rfl (xv_quoN (a := n % 10000) (m := 100) smU32 rfl rfl (by decide) (by omega) ?_)
    refine xr_op rfl rfl (xv_mulN (a := n % 10000 / 100) (m := 2) smU32 rfl rfl (by omega) ?_)
    refine xr_op rfl rfl (xv_move rfl ?_)
    refine xr_op rfl rfl (xv_remN (a := n % 10000) (m := 100) rfl rfl (by decide) ?_)
    refine xr_op rfl rfl (xv_mulN (a := n % 10000 % 100) (m := 2) smU32 rfl rfl (by omega) ?_)
    refine xr_op rfl rfl (xv_assign rfl ?_)
    refine xr_op rfl rfl (xv_assign rfl ?_)
    refine xr_end rfl ?_
    refine th_n ?_
    refine xc_seq (xc_region ?_)
    refine xr_op rfl rfl (xv_move rfl ?_)
    refine xr_op rfl rfl (xv_quoN (a := n / 10000) (m := 100) smU32 rfl rfl (by decide) (by omega) ?_)
    refine xr_op rfl rfl (xv_mulN (a := n / 10000 / 100) (m := 2) smU32 rfl rfl (by omega) ?_)
    refine xr_op rfl rfl (xv_move rfl ?_)
    refine xr_op rfl rfl (xv_remN (a := n / 10000) (m := 100) rfl rfl (by decide) ?_)
    refine xr_op rfl rfl (xv_mulN (a := n / 10000 % 100) (m := 2) smU32 rfl rfl (by omega) ?_)
    refine xr_op rfl rfl (xv_assign rfl ?_)
    refine xr_op rfl rfl (xv_assign rfl ?_)
    refine xr_end rfl ?_
    refine th_n ?_
    refine xc_seq ?_
    refine xc_draw0 [(0, .S), (1, .S), (2, .S), (3, .S), (4, .S), (5, .S), (6, .S), (7, .S), (8, .S), (9, .S), (10, .S), (11, .S), (12, .O), (13, .S), (14, .O)] mixed (by kernel_rfl) ?_
    refine js_S rfl rfl (.inl rfl) (xv_move rfl ⟨rfl, rfl⟩) ?_
    refine js_S rfl rfl (.inl rfl) (xv_move rfl ⟨rfl, rfl⟩) ?_
    refine js_S rfl rfl (.inl rfl) (xv_subN (a := 8 - 8 * 0) (m := 1) sm64 rfl rfl (by decide) (by decide) ⟨rfl, rfl⟩) ?_
    refine js_S rfl rfl (.inl rfl) (xv_move rfl ⟨rfl, rfl⟩) ?_
    refine js_S rfl rfl (.inl rfl) (xv_move rfl ⟨rfl, rfl⟩) ?_
    refine js_S rfl rfl (.inl rfl) (xv_subN (a := 8 - 8 * 0) (m := 2) sm64 rfl rfl (by decide) (by decide) ⟨rfl, rfl⟩) ?_
    refine js_S rfl rfl (.inl rfl) (xv_move rfl ⟨rfl, rfl⟩) ?_
    refine js_S rfl rfl (.inl rfl) (xv_addN (a := 2 * (n % 10000 % 100)) (m := 1) smU32 rfl rfl (by omega) ⟨rfl, rfl⟩) ?_
    refine js_S rfl rfl (.inl rfl) (xv_ix1 (a := n % 10000 % 100) Tryd.underlying9 rfl rfl (by omega) (by kernel_rfl) ⟨rfl, rfl⟩) ?_
    refine js_S rfl rfl (.inl rfl) (xv_move rfl ⟨rfl, rfl⟩) ?_
    refine js_S rfl rfl (.inl rfl) (xv_ix0 (a := n % 10000 % 100) Tryd.underlying9 rfl rfl (by omega) (by kernel_rfl) ⟨rfl, rfl⟩) ?_
    refine js_S rfl rfl (.inl rfl) (xv_ia (sz := 1) (j := 7) sl23 ty5 rfl rfl rfl (by decide) (by decide) (by decide) ⟨rfl, rfl⟩) ?_
    refine js_O0 rfl rfl (.inl rfl) (xv_s1 (l' := (tl 8 1 n).flatMap eB) ty5 rfl rfl rfl (by (first|(apply u_3;(repeat first|exact u_0|assumption|apply u_1|apply u_2);done)|((repeat first|exact u_0|assumption|apply u_1|apply u_2);done)|(apply u_3;apply u_3;(repeat first|exact u_0|assumption|apply u_1|apply u_2);done)|((repeat first|exact u_0|assumption|apply u_3|apply u_1);done))) rfl (by rw [eB_flen, tl_len]; decide) (bytes_tl (d := 8) (j := 0) (k := 7) (by decide) (by decide) (by decide) (by omega)) ?_)
    refine js_S rfl rfl (.inl rfl) (xv_ia (sz := 1) (j := 6) sl23 ty5 rfl rfl rfl (by decide) (by decide) (by decide) ⟨rfl, rfl⟩) ?_
    refine js_O0 rfl rfl (.inl rfl) (xv_s1 (l' := (tl 8 2 n).flatMap eB) ty5 rfl rfl rfl (by (first|(apply u_3;(repeat first|exact u_0|assumption|apply u_1|apply u_2);done)|((repeat first|exact u_0|assumption|apply u_1|apply u_2);done)|(apply u_3;apply u_3;(repeat first|exact u_0|assumption|apply u_1|apply u_2);done)|((repeat first|exact u_0|assumption|apply u_3|apply u_1);done))) rfl (by rw [eB_flen, tl_len]; decide) (bytes_tl (d := 8) (j := 1) (k := 6) (by decide) (by decide) (by decide) (by omega)) ?_)
    refine j_end0 ?_
    refine th_n ?_
    refine xc_seq ?_
    refine xc_draw0 [(0, .S), (1, .S), (2, .S), (3, .S), (4, .S), (5, .S), (6, .S), (7, .S), (8, .S), (9, .S), (10, .S), (11, .S), (12, .O), (13, .S), (14, .O)] mixed (by kernel_rfl) ?_
    refine js_S rfl rfl (.inl rfl) (xv_move rfl ⟨rfl, rfl⟩) ?_
    refine js_S rfl rfl (.inl rfl) (xv_move rfl ⟨rfl, rfl⟩) ?_
    refine js_S rfl rfl (.inl rfl) (xv_subN (a := 8 - 8 * 0) (m := 3) sm64 rfl rfl (by decide) (by decide) ⟨rfl, rfl⟩) ?_
    refine js_S rfl rfl (.inl rfl) (xv_move rfl ⟨rfl, rfl⟩) ?_
    refine js_S rfl rfl (.inl rfl) (xv_move rfl ⟨rfl, rfl⟩) ?_
    refine js_S rfl rfl (.inl rfl) (xv_subN (a := 8 - 8 * 0) (m := 4) sm64 rfl rfl (by decide) (by decide) ⟨rfl, rfl⟩) ?_
    refine js_S rfl rfl (.inl rfl) (xv_move rfl ⟨rfl, rfl⟩) ?_
    refine js_S rfl rfl (.inl rfl) (xv_addN (a := 2 * (n % 10000 / 100)) (m := 1) smU32 rfl rfl (by omega) ⟨rfl, rfl⟩) ?_
    refine js_S rfl rfl (.inl rfl) (xv_ix1 (a := n % 10000 / 100) Tryd.underlying9 rfl rfl (by omega) (by kernel_rfl) ⟨rfl, rfl⟩) ?_
    refine js_S rfl rfl (.inl rfl) (xv_move rfl ⟨rfl, rfl⟩) ?_
    refine js_S rfl rfl (.inl rfl) (xv_ix0 (a := n % 10000 / 100) Tryd.underlying9 rfl rfl (by omega) (by kernel_rfl) ⟨rfl, rfl⟩) ?_
    refine js_S rfl rfl (.inl rfl) (xv_ia (sz := 1) (j := 5) sl23 ty5 rfl rfl rfl (by decide) (by decide) (by decide) ⟨rfl, rfl⟩) ?_
    refine js_O0 rfl rfl (.inl rfl) (xv_s1 (l' := (tl 8 3 n).flatMap eB) ty5 rfl rfl rfl (by (first|(apply u_3;(repeat first|exact u_0|assumption|apply u_1|apply u_2);done)|((repeat first|exact u_0|assumption|apply u_1|apply u_2);done)|(apply u_3;apply u_3;(repeat first|exact u_0|assumption|apply u_1|apply u_2);done)|((repeat first|exact u_0|assumption|apply u_3|apply u_1);done))) rfl (by rw [eB_flen, tl_len]; decide) (bytes_tl (d := 8) (j := 2) (k := 5) (by decide) (by decide) (by decide) (by omega)) ?_)
    refine js_S rfl rfl (.inl rfl) (xv_ia (sz := 1) (j := 4) sl23 ty5 rfl rfl rfl (by decide) (by decide) (by decide) ⟨rfl, rfl⟩) ?_
    refine js_O0 rfl rfl (.inl rfl) (xv_s1 (l' := (tl 8 4 n).flatMap eB) ty5 rfl rfl rfl (by (first|(apply u_3;(repeat first|exact u_0|assumption|apply u_1|apply u_2);done)|((repeat first|exact u_0|assumption|apply u_1|apply u_2);done)|(apply u_3;apply u_3;(repeat first|exact u_0|assumption|apply u_1|apply u_2);done)|((repeat first|exact u_0|assumption|apply u_3|apply u_1);done))) rfl (by rw [eB_flen, tl_len]; decide) (bytes_tl (d := 8) (j := 3) (k := 4) (by decide) (by decide) (by decide) (by omega)) ?_)
    refine j_end0 ?_
    refine th_n ?_
    refine xc_seq ?_
    refine xc_draw0 [(0, .S), (1, .S), (2, .S), (3, .S), (4, .S), (5, .S), (6, .S), (7, .S), (8, .S), (9, .S), (10, .S), (11, .S), (12, .O), (13, .S), (14, .O)] mixed (by kernel_rfl) ?_
    refine js_S rfl rfl (.inl rfl) (xv_move rfl ⟨rfl, rfl⟩) ?_
    refine js_S rfl rfl (.inl rfl) (xv_move rfl ⟨rfl, rfl⟩) ?_
    refine js_S rfl rfl (.inl rfl) (xv_subN (a := 8 - 8 * 0) (m := 5) sm64 rfl rfl (by decide) (by decide) ⟨rfl, rfl⟩) ?_
    refine js_S rfl rfl (.inl rfl) (xv_move rfl ⟨rfl, rfl⟩) ?_
    refine js_S rfl rfl (.inl rfl) (xv_move rfl ⟨rfl, rfl⟩) ?_
    refine js_S rfl rfl (.inl rfl) (xv_subN (a := 8 - 8 * 0) (m := 6) sm64 rfl rfl (by decide) (by decide) ⟨rfl, rfl⟩) ?_
    refine js_S rfl rfl (.inl rfl) (xv_move rfl ⟨rfl, rfl⟩) ?_
    refine js_S rfl rfl (.inl rfl) (xv_addN (a := 2 * (n / 10000 % 100)) (m := 1) smU32 rfl rfl (by omega) ⟨rfl, rfl⟩) ?_
    refine js_S rfl rfl (.inl rfl) (xv_ix1 (a := n / 10000 % 100) Tryd.underlying9 rfl rfl (by omega) (by kernel_rfl) ⟨rfl, rfl⟩) ?_
    refine js_S rfl rfl (.inl rfl) (xv_move rfl ⟨rfl, rfl⟩) ?_
    refine js_S rfl rfl (.inl rfl) (xv_ix0 (a := n / 10000 % 100) Tryd.underlying9 rfl rfl (by omega) (by kernel_rfl) ⟨rfl, rfl⟩) ?_
    refine js_S rfl rfl (.inl rfl) (xv_ia (sz := 1) (j := 3) sl23 ty5 rfl rfl rfl (by decide) (by decide) (by decide) ⟨rfl, rfl⟩) ?_
    refine js_O0 rfl rfl (.inl rfl) (xv_s1 (l' := (tl 8 5 n).flatMap eB) ty5 rfl rfl rfl (by (first|(apply u_3;(repeat first|exact u_0|assumption|apply u_1|apply u_2);done)|((repeat first|exact u_0|assumption|apply u_1|apply u_2);done)|(apply u_3;apply u_3;(repeat first|exact u_0|assumption|apply u_1|apply u_2);done)|((repeat first|exact u_0|assumption|apply u_3|apply u_1);done))) rfl (by rw [eB_flen, tl_len]; decide) (bytes_tl (d := 8) (j := 4) (k := 3) (by decide) (by decide) (by decide) (by omega)) ?_)
    refine js_S rfl rfl (.inl rfl) (xv_ia (sz := 1) (j := 2) sl23 ty5 rfl rfl rfl (by decide) (by decide) (by decide) ⟨rfl, rfl⟩) ?_
    refine js_O0 rfl rfl (.inl rfl) (xv_s1 (l' := (tl 8 6 n).flatMap eB) ty5 rfl rfl rfl (by (first|(apply u_3;(repeat first|exact u_0|assumption|apply u_1|apply u_2);done)|((repeat first|exact u_0|assumption|apply u_1|apply u_2);done)|(apply u_3;apply u_3;(repeat first|exact u_0|assumption|apply u_1|apply u_2);done)|((repeat first|exact u_0|assumption|apply u_3|apply u_1);done))) rfl (by rw [eB_flen, tl_len]; decide) (bytes_tl (d := 8) (j := 5) (k := 2) (by decide) (by decide) (by decide) (by omega)) ?_)
    refine j_end0 ?_
    refine th_n ?_
    refine xc_seq ?_
    refine xc_draw0 [(0, .S), (1, .S), (2, .S), (3, .S), (4, .S), (5, .S), (6, .S), (7, .S), (8, .S), (9, .S), (10, .S), (11, .S), (12, .O), (13, .S), (14, .O)] mixed (by kernel_rfl) ?_
    refine js_S rfl rfl (.inl rfl) (xv_move rfl ⟨rfl, rfl⟩) ?_
    refine js_S rfl rfl (.inl rfl) (xv_move rfl ⟨rfl, rfl⟩) ?_
    refine js_S rfl rfl (.inl rfl) (xv_subN (a := 8 - 8 * 0) (m := 7) sm64 rfl rfl (by decide) (by decide) ⟨rfl, rfl⟩) ?_
    refine js_S rfl rfl (.inl rfl) (xv_move rfl ⟨rfl, rfl⟩) ?_
    refine js_S rfl rfl (.inl rfl) (xv_move rfl ⟨rfl, rfl⟩) ?_
    refine js_S rfl rfl (.inl rfl) (xv_subN (a := 8 - 8 * 0) (m := 8) sm64 rfl rfl (by decide) (by decide) ⟨rfl, rfl⟩) ?_
    refine js_S rfl rfl (.inl rfl) (xv_move rfl ⟨rfl, rfl⟩) ?_
    refine js_S rfl rfl (.inl rfl) (xv_addN (a := 2 * (n / 10000 / 100)) (m := 1) smU32 rfl rfl (by omega) ⟨rfl, rfl⟩) ?_
    refine js_S rfl rfl (.inl rfl) (xv_ix1 (a := n / 10000 / 100) Tryd.underlying9 rfl rfl (by omega) (by kernel_rfl) ⟨rfl, rfl⟩) ?_
    refine js_S rfl rfl (.inl rfl) (xv_move rfl ⟨rfl, rfl⟩) ?_
    refine js_S rfl rfl (.inl rfl) (xv_ix0 (a := n / 10000 / 100) Tryd.underlying9 rfl rfl (by omega) (by kernel_rfl) ⟨rfl, rfl⟩) ?_
    refine js_S rfl rfl (.inl rfl) (xv_ia (sz := 1) (j := 1) sl23 ty5 rfl rfl rfl (by decide) (by decide) (by decide) ⟨rfl, rfl⟩) ?_
    refine js_O0 rfl rfl (.inl rfl) (xv_s1 (l' := (tl 8 7 n).flatMap eB) ty5 rfl rfl rfl (by (first|(apply u_3;(repeat first|exact u_0|assumption|apply u_1|apply u_2);done)|((repeat first|exact u_0|assumption|apply u_1|apply u_2);done)|(apply u_3;apply u_3;(repeat first|exact u_0|assumption|apply u_1|apply u_2);done)|((repeat first|exact u_0|assumption|apply u_3|apply u_1);done))) rfl (by rw [eB_flen, tl_len]; decide) (bytes_tl (d := 8) (j := 6) (k := 1) (by decide) (by decide) (by decide) (by omega)) ?_)
    refine js_S rfl rfl (.inl rfl) (xv_ia (sz := 1) (j := 0) sl23 ty5 rfl rfl rfl (by decide) (by decide) (by decide) ⟨rfl, rfl⟩) ?_
    refine js_O0 rfl rfl (.inl rfl) (xv_s1 (l' := (tl 8 8 n).flatMap eB) ty5 rfl rfl rfl (by (first|(apply u_3;(repeat first|exact u_0|assumption|apply u_1|apply u_2);done)|((repeat first|exact u_0|assumption|apply u_1|apply u_2);done)|(apply u_3;apply u_3;(repeat first|exact u_0|assumption|apply u_1|apply u_2);done)|((repeat first|exact u_0|assumption|apply u_3|apply u_1);done))) rfl (by rw [eB_flen, tl_len]; decide) (bytes_tl (d := 8) (j := 7) (k := 0) (by decide) (by decide) (by decide) (by omega)) ?_)
    refine j_end0 ?_
    refine th_n ?_
    refine xc_region ?_
    refine xr_op rfl rfl (xv_move rfl ?_)
    refine xr_op rfl rfl (xv_subN (a := 8 - 8 * 0) (m := 8) sm64 rfl rfl (by decide) (by decide) ?_)
    refine xr_op rfl rfl (xv_assign rfl ?_)
    refine xr_end rfl ?_
    refine bk_n ?_
    exact rnd 1 ⟨by omega, fun _ => rfl⟩ (by omega) (le_put (le_put (le_put (le_emp _) rfl) (by show _ = some _; rw [Nat.pow_succ, ← Nat.div_div_eq_div_mul]; rfl)) rfl) (by (first|((repeat first|exact s_0|exact s_1|exact s_3|refine s_4 ?_|refine s_5 ?_|refine s_6 ?_|refine s_7 ?_);done)|((repeat first|exact s_0|exact s_1|exact s_3|refine s_4 ?_|refine s_5 ?_|refine s_6 ?_|refine s_8 ?_);done)))
  · refine xr_end rfl ?_
    refine th_n ?_
    refine xc_false rfl ?_
    refine xc_exit ?_
    refine th_x ?_
    refine th_x ?_
    refine bk_same ?_
    refine th_n ?_
    refine xc_seq (xc_region ?_)
    rcases (show k = 1 ∧ d1 = 8 ∨ k = 0 ∧ d1 = 3 ∨ k = 0 ∧ d1 = 4 ∨ k = 0 ∧ d1 = 5 ∨ k = 0 ∧ d1 = 6 ∨ k = 0 ∧ d1 = 7 by (first|omega|(dsimp only at *;omega)|(simp at *;omega))) with ⟨rfl, rfl⟩ | ⟨rfl, rfl⟩ | ⟨rfl, rfl⟩ | ⟨rfl, rfl⟩ | ⟨rfl, rfl⟩ | ⟨rfl, rfl⟩
    · refine xr_op rfl rfl (xv_move rfl ?_)
      refine xr_op rfl rfl (xv_convI (m := ((0 : Nat) : Int)) Tryd.underlying132 Tryd.underlying139 rfl (by rw [show n / 100000000 ^ 1 = 0 by omega]; exact smU32 _ (by omega)) ?_)
      refine xr_op rfl rfl (xv_assign rfl ?_)
      refine xr_end rfl ?_
      refine th_n ?_
      refine xc_seq ?_
      refine xc_seq (xc_region ?_)
      refine xr_op rfl rfl (xv_move rfl ?_)
      refine xr_op rfl rfl (xv_cmpK rfl rfl (cmpF rfl (by simp only [cmpP]; (first|omega|(dsimp only at *;omega)|(simp at *;omega)))) ?_)
      refine xr_end rfl ?_
      refine th_n ?_
      refine xc_false rfl ?_
      refine xc_skip ?_
      refine th_n ?_
      refine xc_seq ?_
      refine xc_seq (xc_region ?_)
      refine xr_op rfl rfl (xv_move rfl ?_)
      refine xr_op rfl rfl (xv_cmpK rfl rfl (cmpF rfl (by simp only [cmpP]; (first|omega|(dsimp only at *;omega)|(simp at *;omega)))) ?_)
      refine xr_end rfl ?_
      refine th_n ?_
      refine xc_false rfl ?_
      refine xc_skip ?_
      refine th_n ?_
      refine xc_seq (xc_region ?_)
      refine xr_op rfl rfl (xv_move rfl ?_)
      refine xr_op rfl rfl (xv_cmpK rfl rfl (cmpF rfl (by simp only [cmpP]; (first|omega|(dsimp only at *;omega)|(simp at *;omega)))) ?_)
      refine xr_end rfl ?_
      refine th_n ?_
      refine xc_false rfl ?_
      refine xc_skip ?_
      refine body_end (h' := (_ :: h)) rfl ro_nil (by (first|((repeat first|exact s_0|exact s_1|exact s_3|refine s_4 ?_|refine s_5 ?_|refine s_6 ?_|refine s_7 ?_);done)|((repeat first|exact s_0|exact s_1|exact s_3|refine s_4 ?_|refine s_5 ?_|refine s_6 ?_|refine s_8 ?_);done))) ?_
      exact H
    · refine xr_op rfl rfl (xv_move rfl ?_)
      refine xr_op rfl rfl (xv_convI (m := ((n : Nat) : Int)) Tryd.underlying132 Tryd.underlying139 rfl (by rw [show n / 100000000 ^ 0 = n by omega]; exact smU32 _ (by omega)) ?_)
      refine xr_op rfl rfl (xv_assign rfl ?_)
      refine xr_end rfl ?_
      refine th_n ?_
      refine xc_seq ?_
      refine xc_seq (xc_region ?_)
      refine xr_op rfl rfl (xv_move rfl ?_)
      refine xr_op rfl rfl (xv_cmpK rfl rfl (cmpF rfl (by simp only [cmpP]; (first|omega|(dsimp only at *;omega)|(simp at *;omega)))) ?_)
      refine xr_end rfl ?_
      refine th_n ?_
      refine xc_false rfl ?_
      refine xc_skip ?_
      refine th_n ?_
      refine xc_seq ?_
      refine xc_seq (xc_region ?_)
      refine xr_op rfl rfl (xv_move rfl ?_)
      refine xr_op rfl rfl (xv_cmpK rfl rfl (cmpT (by simp only [cmpP]; (first|omega|(dsimp only at *;omega)|(simp at *;omega)))) ?_)
      refine xr_end rfl ?_
      refine th_n ?_
      refine xc_true rfl ?_
      refine xc_seq (xc_region ?_)
      refine xr_op rfl rfl (xv_move rfl ?_)
      refine xr_op rfl rfl (xv_remN (a := n) (m := 100) rfl rfl (by decide) ?_)
      refine xr_op rfl rfl (xv_mulN (a := n % 100) (m := 2) smU32 rfl rfl (by omega) ?_)
      refine xr_op rfl rfl (xv_assign rfl ?_)
      refine xr_end rfl ?_
      refine th_n ?_
      refine xc_seq (xc_region ?_)
      refine xr_op rfl rfl (xv_move rfl ?_)
      refine xr_op rfl rfl (xv_quoN (a := n) (m := 100) smU32 rfl rfl (by decide) (by omega) ?_)
      refine xr_op rfl rfl (xv_assign rfl ?_)
      refine xr_end rfl ?_
      refine th_n ?_
      refine xc_seq ?_
      refine xc_draw0 [(0, .S), (1, .S), (2, .S), (3, .S), (4, .S), (5, .S), (6, .S), (7, .S), (8, .S), (9, .S), (10, .S), (11, .S), (12, .O), (13, .S), (14, .O)] mixed (by kernel_rfl) ?_
      refine js_S rfl rfl (.inl rfl) (xv_move rfl ⟨rfl, rfl⟩) ?_
      refine js_S rfl rfl (.inl rfl) (xv_move rfl ⟨rfl, rfl⟩) ?_
      refine js_S rfl rfl (.inl rfl) (xv_subN (a := 3 - 8 * 0) (m := 1) sm64 rfl rfl (by decide) (by decide) ⟨rfl, rfl⟩) ?_
      refine js_S rfl rfl (.inl rfl) (xv_move rfl ⟨rfl, rfl⟩) ?_
      refine js_S rfl rfl (.inl rfl) (xv_move rfl ⟨rfl, rfl⟩) ?_
      refine js_S rfl rfl (.inl rfl) (xv_subN (a := 3 - 8 * 0) (m := 2) sm64 rfl rfl (by decide) (by decide) ⟨rfl, rfl⟩) ?_
      refine js_S rfl rfl (.inl rfl) (xv_move rfl ⟨rfl, rfl⟩) ?_
      refine js_S rfl rfl (.inl rfl) (xv_addN (a := 2 * (n % 100)) (m := 1) smU32 rfl rfl (by omega) ⟨rfl, rfl⟩) ?_
      refine js_S rfl rfl (.inl rfl) (xv_ix1 (a := n % 100) Tryd.underlying9 rfl rfl (by omega) (by kernel_rfl) ⟨rfl, rfl⟩) ?_
      refine js_S rfl rfl (.inl rfl) (xv_move rfl ⟨rfl, rfl⟩) ?_
      refine js_S rfl rfl (.inl rfl) (xv_ix0 (a := n % 100) Tryd.underlying9 rfl rfl (by omega) (by kernel_rfl) ⟨rfl, rfl⟩) ?_
      refine js_S rfl rfl (.inl rfl) (xv_ia (sz := 1) (j := 2) sl23 ty5 rfl rfl rfl (by decide) (by decide) (by decide) ⟨rfl, rfl⟩) ?_
      refine js_O0 rfl rfl (.inl rfl) (xv_s1 (l' := (tl 3 1 n).flatMap eB) ty5 rfl rfl rfl (by (first|(apply u_3;(repeat first|exact u_0|assumption|apply u_1|apply u_2);done)|((repeat first|exact u_0|assumption|apply u_1|apply u_2);done)|(apply u_3;apply u_3;(repeat first|exact u_0|assumption|apply u_1|apply u_2);done)|((repeat first|exact u_0|assumption|apply u_3|apply u_1);done))) rfl (by rw [eB_flen, tl_len]; decide) (bytes_tl (d := 3) (j := 0) (k := 2) (by decide) (by decide) (by decide) (by omega)) ?_)
      refine js_S rfl rfl (.inl rfl) (xv_ia (sz := 1) (j := 1) sl23 ty5 rfl rfl rfl (by decide) (by decide) (by decide) ⟨rfl, rfl⟩) ?_
      refine js_O0 rfl rfl (.inl rfl) (xv_s1 (l' := (tl 3 2 n).flatMap eB) ty5 rfl rfl rfl (by (first|(apply u_3;(repeat first|exact u_0|assumption|apply u_1|apply u_2);done)|((repeat first|exact u_0|assumption|apply u_1|apply u_2);done)|(apply u_3;apply u_3;(repeat first|exact u_0|assumption|apply u_1|apply u_2);done)|((repeat first|exact u_0|assumption|apply u_3|apply u_1);done))) rfl (by rw [eB_flen, tl_len]; decide) (bytes_tl (d := 3) (j := 1) (k := 1) (by decide) (by decide) (by decide) (by omega)) ?_)
      refine j_end0 ?_
      refine th_n ?_
      refine xc_region ?_
      refine xr_op rfl rfl (xv_move rfl ?_)
      refine xr_op rfl rfl (xv_subN (a := 3 - 8 * 0) (m := 2) sm64 rfl rfl (by decide) (by decide) ?_)
      refine xr_op rfl rfl (xv_assign rfl ?_)
      refine xr_end rfl ?_
      refine th_n ?_
      refine xc_seq (xc_region ?_)
      refine xr_op rfl rfl (xv_move rfl ?_)
      refine xr_op rfl rfl (xv_cmpK rfl rfl (cmpT (by simp only [cmpP]; (first|omega|(dsimp only at *;omega)|(simp at *;omega)))) ?_)
      refine xr_end rfl ?_
      refine th_n ?_
      refine xc_true rfl ?_
      refine xc_region ?_
      refine xr_op rfl rfl (xv_move rfl ?_)
      refine xr_op rfl rfl (xv_move rfl ?_)
      refine xr_op rfl rfl (xv_addN (a := 48) (m := n / 100) smU32 rfl rfl (by omega) ?_)
      refine xr_op rfl rfl (xv_convI (m := ((48 + n / 100 : Nat) : Int)) Tryd.underlying139 Tryd.underlying5 rfl (wrap_u8 (by omega) (by omega)) ?_)
      refine xr_op rfl rfl (xv_ia (sz := 1) (j := 0) sl23 ty5 rfl rfl rfl (by decide) (by decide) (by decide) ?_)
      refine xr_op rfl rfl (xv_s1 (l' := (tl 3 3 n).flatMap eB) ty5 rfl rfl rfl (by (first|(apply u_3;(repeat first|exact u_0|assumption|apply u_1|apply u_2);done)|((repeat first|exact u_0|assumption|apply u_1|apply u_2);done)|(apply u_3;apply u_3;(repeat first|exact u_0|assumption|apply u_1|apply u_2);done)|((repeat first|exact u_0|assumption|apply u_3|apply u_1);done))) rfl (by rw [eB_flen, tl_len]; decide) (bytes_tl (d := 3) (j := 2) (k := 0) (by decide) (by decide) (by decide) (by omega)) ?_)
      refine xr_end rfl ?_
      refine body_end (h' := (_ :: h)) rfl ro_nil (by (first|((repeat first|exact s_0|exact s_1|exact s_3|refine s_4 ?_|refine s_5 ?_|refine s_6 ?_|refine s_7 ?_);done)|((repeat first|exact s_0|exact s_1|exact s_3|refine s_4 ?_|refine s_5 ?_|refine s_6 ?_|refine s_8 ?_);done))) ?_
      exact H
    · refine xr_op rfl rfl (xv_move rfl ?_)
      refine xr_op rfl rfl (xv_convI (m := ((n : Nat) : Int)) Tryd.underlying132 Tryd.underlying139 rfl (by rw [show n / 100000000 ^ 0 = n by omega]; exact smU32 _ (by omega)) ?_)
      refine xr_op rfl rfl (xv_assign rfl ?_)
      refine xr_end rfl ?_
      refine th_n ?_
      refine xc_seq ?_
      refine xc_seq (xc_region ?_)
      refine xr_op rfl rfl (xv_move rfl ?_)
      refine xr_op rfl rfl (xv_cmpK rfl rfl (cmpT (by simp only [cmpP]; (first|omega|(dsimp only at *;omega)|(simp at *;omega)))) ?_)
      refine xr_end rfl ?_
      refine th_n ?_
      refine xc_true rfl ?_
      refine xc_seq (xc_region ?_)
      refine xr_op rfl rfl (xv_move rfl ?_)
      refine xr_op rfl rfl (xv_remN (a := n) (m := 10000) rfl rfl (by decide) ?_)
      refine xr_op rfl rfl (xv_assign rfl ?_)
      refine xr_end rfl ?_
      refine th_n ?_
      refine xc_seq (xc_region ?_)
      refine xr_op rfl rfl (xv_move rfl ?_)
      refine xr_op rfl rfl (xv_quoN (a := n) (m := 10000) smU32 rfl rfl (by decide) (by omega) ?_)
      refine xr_op rfl rfl (xv_assign rfl ?_)
      refine xr_end rfl ?_
      refine th_n ?_
      refine xc_seq (xc_region ?_)
      refine xr_op rfl rfl (xv_move rfl ?_)
      refine xr_op rfl rfl (xv_quoN (a := n % 10000) (m := 100) smU32 rfl rfl (by decide) (by omega) ?_)
      refine xr_op rfl rfl (xv_mulN (a := n % 10000 / 100) (m := 2) smU32 rfl rfl (by omega) ?_)
      refine xr_op rfl rfl (xv_move rfl ?_)
      refine xr_op rfl rfl (xv_remN (a := n % 10000) (m := 100) rfl rfl (by decide) ?_)
      refine xr_op rfl rfl (xv_mulN (a := n % 10000 % 100) (m := 2) smU32 rfl rfl (by omega) ?_)
      refine xr_op rfl rfl (xv_assign rfl ?_)
      refine xr_op rfl rfl (xv_assign rfl ?_)
      refine xr_end rfl ?_
      refine th_n ?_
      refine xc_seq ?_
      refine xc_draw0 [(0, .S), (1, .S), (2, .S), (3, .S), (4, .S), (5, .S), (6, .S), (7, .S), (8, .S), (9, .S), (10, .S), (11, .S), (12, .O), (13, .S), (14, .O)] mixed (by kernel_rfl) ?_
      refine js_S rfl rfl (.inl rfl) (xv_move rfl ⟨rfl, rfl⟩) ?_
      refine js_S rfl rfl (.inl rfl) (xv_move rfl ⟨rfl, rfl⟩) ?_
      refine js_S rfl rfl (.inl rfl) (xv_subN (a := 4 - 8 * 0) (m := 1) sm64 rfl rfl (by decide) (by decide) ⟨rfl, rfl⟩) ?_
      refine js_S rfl rfl (.inl rfl) (xv_move rfl ⟨rfl, rfl⟩) ?_
      refine js_S rfl rfl (.inl rfl) (xv_move rfl ⟨rfl, rfl⟩) ?_
      refine js_S rfl rfl (.inl rfl) (xv_subN (a := 4 - 8 * 0) (m := 2) sm64 rfl rfl (by decide) (by decide) ⟨rfl, rfl⟩) ?_
      refine js_S rfl rfl (.inl rfl) (xv_move rfl ⟨rfl, rfl⟩) ?_
      refine js_S rfl rfl (.inl rfl) (xv_addN (a := 2 * (n % 10000 % 100)) (m := 1) smU32 rfl rfl (by omega) ⟨rfl, rfl⟩) ?_
      refine js_S rfl rfl (.inl rfl) (xv_ix1 (a := n % 10000 % 100) Tryd.underlying9 rfl rfl (by omega) (by kernel_rfl) ⟨rfl, rfl⟩) ?_
      refine js_S rfl rfl (.inl rfl) (xv_move rfl ⟨rfl, rfl⟩) ?_
      refine js_S rfl rfl (.inl rfl) (xv_ix0 (a := n % 10000 % 100) Tryd.underlying9 rfl rfl (by omega) (by kernel_rfl) ⟨rfl, rfl⟩) ?_
      refine js_S rfl rfl (.inl rfl) (xv_ia (sz := 1) (j := 3) sl23 ty5 rfl rfl rfl (by decide) (by decide) (by decide) ⟨rfl, rfl⟩) ?_
      refine js_O0 rfl rfl (.inl rfl) (xv_s1 (l' := (tl 4 1 n).flatMap eB) ty5 rfl rfl rfl (by (first|(apply u_3;(repeat first|exact u_0|assumption|apply u_1|apply u_2);done)|((repeat first|exact u_0|assumption|apply u_1|apply u_2);done)|(apply u_3;apply u_3;(repeat first|exact u_0|assumption|apply u_1|apply u_2);done)|((repeat first|exact u_0|assumption|apply u_3|apply u_1);done))) rfl (by rw [eB_flen, tl_len]; decide) (bytes_tl (d := 4) (j := 0) (k := 3) (by decide) (by decide) (by decide) (by omega)) ?_)
      refine js_S rfl rfl (.inl rfl) (xv_ia (sz := 1) (j := 2) sl23 ty5 rfl rfl rfl (by decide) (by decide) (by decide) ⟨rfl, rfl⟩) ?_
      refine js_O0 rfl rfl (.inl rfl) (xv_s1 (l' := (tl 4 2 n).flatMap eB) ty5 rfl rfl rfl (by (first|(apply u_3;(repeat first|exact u_0|assumption|apply u_1|apply u_2);done)|((repeat first|exact u_0|assumption|apply u_1|apply u_2);done)|(apply u_3;apply u_3;(repeat first|exact u_0|assumption|apply u_1|apply u_2);done)|((repeat first|exact u_0|assumption|apply u_3|apply u_1);done))) rfl (by rw [eB_flen, tl_len]; decide) (bytes_tl (d := 4) (j := 1) (k := 2) (by decide) (by decide) (by decide) (by omega)) ?_)
      refine j_end0 ?_
      refine th_n ?_
      refine xc_seq ?_
      refine xc_draw0 [(0, .S), (1, .S), (2, .S), (3, .S), (4, .S), (5, .S), (6, .S), (7, .S), (8, .S), (9, .S), (10, .S), (11, .S), (12, .O), (13, .S), (14, .O)] mixed (by kernel_rfl) ?_
      refine js_S rfl rfl (.inl rfl) (xv_move rfl ⟨rfl, rfl⟩) ?_
      refine js_S rfl rfl (.inl rfl) (xv_move rfl ⟨rfl, rfl⟩) ?_
      refine js_S rfl rfl (.inl rfl) (xv_subN (a := 4 - 8 * 0) (m := 3) sm64 rfl rfl (by decide) (by decide) ⟨rfl, rfl⟩) ?_
      refine js_S rfl rfl (.inl rfl) (xv_move rfl ⟨rfl, rfl⟩) ?_
      refine js_S rfl rfl (.inl rfl) (xv_move rfl ⟨rfl, rfl⟩) ?_
      refine js_S rfl rfl (.inl rfl) (xv_subN (a := 4 - 8 * 0) (m := 4) sm64 rfl rfl (by decide) (by decide) ⟨rfl, rfl⟩) ?_
      refine js_S rfl rfl (.inl rfl) (xv_move rfl ⟨rfl, rfl⟩) ?_
      refine js_S rfl rfl (.inl rfl) (xv_addN (a := 2 * (n % 10000 / 100)) (m := 1) smU32 rfl rfl (by omega) ⟨rfl, rfl⟩) ?_
      refine js_S rfl rfl (.inl rfl) (xv_ix1 (a := n % 10000 / 100) Tryd.underlying9 rfl rfl (by omega) (by kernel_rfl) ⟨rfl, rfl⟩) ?_
      refine js_S rfl rfl (.inl rfl) (xv_move rfl ⟨rfl, rfl⟩) ?_
      refine js_S rfl rfl (.inl rfl) (xv_ix0 (a := n % 10000 / 100) Tryd.underlying9 rfl rfl (by omega) (by kernel_rfl) ⟨rfl, rfl⟩) ?_
      refine js_S rfl rfl (.inl rfl) (xv_ia (sz := 1) (j := 1) sl23 ty5 rfl rfl rfl (by decide) (by decide) (by decide) ⟨rfl, rfl⟩) ?_
      refine js_O0 rfl rfl (.inl rfl) (xv_s1 (l' := (tl 4 3 n).flatMap eB) ty5 rfl rfl rfl (by (first|(apply u_3;(repeat first|exact u_0|assumption|apply u_1|apply u_2);done)|((repeat first|exact u_0|assumption|apply u_1|apply u_2);done)|(apply u_3;apply u_3;(repeat first|exact u_0|assumption|apply u_1|apply u_2);done)|((repeat first|exact u_0|assumption|apply u_3|apply u_1);done))) rfl (by rw [eB_flen, tl_len]; decide) (bytes_tl (d := 4) (j := 2) (k := 1) (by decide) (by decide) (by decide) (by omega)) ?_)
      refine js_S rfl rfl (.inl rfl) (xv_ia (sz := 1) (j := 0) sl23 ty5 rfl rfl rfl (by decide) (by decide) (by decide) ⟨rfl, rfl⟩) ?_
      refine js_O0 rfl rfl (.inl rfl) (xv_s1 (l' := (tl 4 4 n).flatMap eB) ty5 rfl rfl rfl (by (first|(apply u_3;(repeat first|exact u_0|assumption|apply u_1|apply u_2);done)|((repeat first|exact u_0|assumption|apply u_1|apply u_2);done)|(apply u_3;apply u_3;(repeat first|exact u_0|assumption|apply u_1|apply u_2);done)|((repeat first|exact u_0|assumption|apply u_3|apply u_1);done))) rfl (by rw [eB_flen, tl_len]; decide) (bytes_tl (d := 4) (j := 3) (k := 0) (by decide) (by decide) (by decide) (by omega)) ?_)
      refine j_end0 ?_
      refine th_n ?_
      refine xc_region ?_
      refine xr_op rfl rfl (xv_move rfl ?_)
      refine xr_op rfl rfl (xv_subN (a := 4 - 8 * 0) (m := 4) sm64 rfl rfl (by decide) (by decide) ?_)
      refine xr_op rfl rfl (xv_assign rfl ?_)
      refine xr_end rfl ?_
      refine th_n ?_
      refine xc_seq ?_
      refine xc_seq (xc_region ?_)
      refine xr_op rfl rfl (xv_move rfl ?_)
      refine xr_op rfl rfl (xv_cmpK rfl rfl (cmpF rfl (by simp only [cmpP]; (first|omega|(dsimp only at *;omega)|(simp at *;omega)))) ?_)
      refine xr_end rfl ?_
      refine th_n ?_
      refine xc_false rfl ?_
      refine xc_skip ?_
      refine th_n ?_
      refine xc_seq (xc_region ?_)
      refine xr_op rfl rfl (xv_move rfl ?_)
      refine xr_op rfl rfl (xv_cmpK rfl rfl (cmpF rfl (by simp only [cmpP]; (first|omega|(dsimp only at *;omega)|(simp at *;omega)))) ?_)
      refine xr_end rfl ?_
      refine th_n ?_
      refine xc_false rfl ?_
      refine xc_skip ?_
      refine body_end (h' := (_ :: h)) rfl ro_nil (by (first|((repeat first|exact s_0|exact s_1|exact s_3|refine s_4 ?_|refine s_5 ?_|refine s_6 ?_|refine s_7 ?_);done)|((repeat first|exact s_0|exact s_1|exact s_3|refine s_4 ?_|refine s_5 ?_|refine s_6 ?_|refine s_8 ?_);done))) ?_
      exact H
    · refine xr_op rfl rfl (xv_move rfl ?_)
      refine xr_op rfl rfl (xv_convI (m := ((n : Nat) : Int)) Tryd.underlying132 Tryd.underlying139 rfl (by rw [show n / 100000000 ^ 0 = n by omega]; exact smU32 _ (by omega)) ?_)
      refine xr_op rfl rfl (xv_assign rfl ?_)
      refine xr_end rfl ?_
      refine th_n ?_
      refine xc_seq ?_
      refine xc_seq (xc_region ?_)
      refine xr_op rfl rfl (xv_move rfl ?_)
      refine xr_op rfl rfl (xv_cmpK rfl rfl (cmpT (by simp only [cmpP]; (first|omega|(dsimp only at *;omega)|(simp at *;omega)))) ?_)
      refine xr_end rfl ?_
      refine th_n ?_
      refine xc_true rfl ?_
      refine xc_seq (xc_region ?_)
      refine xr_op rfl rfl (xv_move rfl ?_)
      refine xr_op rfl rfl (xv_remN (a := n) (m := 10000) rfl rfl (by decide) ?_)
      refine xr_op rfl rfl (xv_assign rfl ?_)
      refine xr_end rfl ?_
      refine th_n ?_
      refine xc_seq (xc_region ?_)
      refine xr_op rfl rfl (xv_move rfl ?_)
      refine xr_op rfl rfl (xv_quoN (a := n) (m := 10000) smU32 rfl rfl (by decide) (by omega) ?_)
      refine xr_op rfl rfl (xv_assign rfl ?_)
      refine xr_end rfl ?_
      refine th_n ?_
      refine xc_seq (xc_region ?_)
      refine xr_op rfl rfl (xv_move rfl ?_)
      refine xr_op rfl rfl (xv_quoN (a := n % 10000) (m := 100) smU32 rfl rfl (by decide) (by omega) ?_)
      refine xr_op rfl rfl (xv_mulN (a := n % 10000 / 100) (m := 2) smU32 rfl rfl (by omega) ?_)
      refine xr_op rfl rfl (xv_move rfl ?_)
      refine xr_op rfl rfl (xv_remN (a := n % 10000) (m := 100) rfl rfl (by decide) ?_)
      refine xr_op rfl rfl (xv_mulN (a := n % 10000 % 100) (m := 2) smU32 rfl rfl (by omega) ?_)
      refine xr_op rfl rfl (xv_assign rfl ?_)
      refine xr_op rfl rfl (xv_assign rfl ?_)
      refine xr_end rfl ?_
      refine th_n ?_
      refine xc_seq ?_
      refine xc_draw0 [(0, .S), (1, .S), (2, .S), (3, .S), (4, .S), (5, .S), (6, .S), (7, .S), (8, .S), (9, .S), (10, .S), (11, .S), (12, .O), (13, .S), (14, .O)] mixed (by kernel_rfl) ?_
      refine js_S rfl rfl (.inl rfl) (xv_move rfl ⟨rfl, rfl⟩) ?_
      refine js_S rfl rfl (.inl rfl) (xv_move rfl ⟨rfl, rfl⟩) ?_
      refine js_S rfl rfl (.inl rfl) (xv_subN (a := 5 - 8 * 0) (m := 1) sm64 rfl rfl (by decide) (by decide) ⟨rfl, rfl⟩) ?_
      refine js_S rfl rfl (.inl rfl) (xv_move rfl ⟨rfl, rfl⟩) ?_
      refine js_S rfl rfl (.inl rfl) (xv_move rfl ⟨rfl, rfl⟩) ?_
      refine js_S rfl rfl (.inl rfl) (xv_subN (a := 5 - 8 * 0) (m := 2) sm64 rfl rfl (by decide) (by decide) ⟨rfl, rfl⟩) ?_
      refine js_S rfl rfl (.inl rfl) (xv_move rfl ⟨rfl, rfl⟩) ?_
      refine js_S rfl rfl (.inl rfl) (xv_addN (a := 2 * (n % 10000 % 100)) (m := 1) smU32 rfl rfl (by omega) ⟨rfl, rfl⟩) ?_
      refine js_S rfl rfl (.inl rfl) (xv_ix1 (a := n % 10000 % 100) Tryd.underlying9 rfl rfl (by omega) (by kernel_rfl) ⟨rfl, rfl⟩) ?_
      refine js_S rfl rfl (.inl rfl) (xv_move rfl ⟨rfl, rfl⟩) ?_
      refine js_S rfl rfl (.inl rfl) (xv_ix0 (a := n % 10000 % 100) Tryd.underlying9 rfl rfl (by omega) (by kernel_rfl) ⟨rfl, rfl⟩) ?_
      refine js_S rfl rfl (.inl rfl) (xv_ia (sz := 1) (j := 4) sl23 ty5 rfl rfl rfl (by decide) (by decide) (by decide) ⟨rfl, rfl⟩) ?_
      refine js_O0 rfl rfl (.inl rfl) (xv_s1 (l' := (tl 5 1 n).flatMap eB) ty5 rfl rfl rfl (by (first|(apply u_3;(repeat first|exact u_0|assumption|apply u_1|apply u_2);done)|((repeat first|exact u_0|assumption|apply u_1|apply u_2);done)|(apply u_3;apply u_3;(repeat first|exact u_0|assumption|apply u_1|apply u_2);done)|((repeat first|exact u_0|assumption|apply u_3|apply u_1);done))) rfl (by rw [eB_flen, tl_len]; decide) (bytes_tl (d := 5) (j := 0) (k := 4) (by decide) (by decide) (by decide) (by omega)) ?_)
      refine js_S rfl rfl (.inl rfl) (xv_ia (sz := 1) (j := 3) sl23 ty5 rfl rfl rfl (by decide) (by decide) (by decide) ⟨rfl, rfl⟩) ?_
      refine js_O0 rfl rfl (.inl rfl) (xv_s1 (l' := (tl 5 2 n).flatMap eB) ty5 rfl rfl rfl (by (first|(apply u_3;(repeat first|exact u_0|assumption|apply u_1|apply u_2);done)|((repeat first|exact u_0|assumption|apply u_1|apply u_2);done)|(apply u_3;apply u_3;(repeat first|exact u_0|assumption|apply u_1|apply u_2);done)|((repeat first|exact u_0|assumption|apply u_3|apply u_1);done))) rfl (by rw [eB_flen, tl_len]; decide) (bytes_tl (d := 5) (j := 1) (k := 3) (by decide) (by decide) (by decide) (by omega)) ?_)
      refine j_end0 ?_
      refine th_n ?_
      refine xc_seq ?_
      refine xc_draw0 [(0, .S), (1, .S), (2, .S), (3, .S), (4, .S), (5, .S), (6, .S), (7, .S), (8, .S), (9, .S), (10, .S), (11, .S), (12, .O), (13, .S), (14, .O)] mixed (by kernel_rfl) ?_
      refine js_S rfl rfl (.inl rfl) (xv_move rfl ⟨rfl, rfl⟩) ?_
      refine js_S rfl rfl (.inl rfl) (xv_move rfl ⟨rfl, rfl⟩) ?_
      refine js_S rfl rfl (.inl rfl) (xv_subN (a := 5 - 8 * 0) (m := 3) sm64 rfl rfl (by decide) (by decide) ⟨rfl, rfl⟩) ?_
      refine js_S rfl rfl (.inl rfl) (xv_move rfl ⟨rfl, rfl⟩) ?_
      refine js_S rfl rfl (.inl rfl) (xv_move rfl ⟨rfl, rfl⟩) ?_
      refine js_S rfl rfl (.inl rfl) (xv_subN (a := 5 - 8 * 0) (m := 4) sm64 rfl rfl (by decide) (by decide) ⟨rfl, rfl⟩) ?_
      refine js_S rfl rfl (.inl rfl) (xv_move rfl ⟨rfl, rfl⟩) ?_
      refine js_S rfl rfl (.inl rfl) (xv_addN (a := 2 * (n % 10000 / 100)) (m := 1) smU32 rfl rfl (by omega) ⟨rfl, rfl⟩) ?_
      refine js_S rfl rfl (.inl rfl) (xv_ix1 (a := n % 10000 / 100) Tryd.underlying9 rfl rfl (by omega) (by kernel_rfl) ⟨rfl, rfl⟩) ?_
      refine js_S rfl rfl (.inl rfl) (xv_move rfl ⟨rfl, rfl⟩) ?_
      refine js_S rfl rfl (.inl rfl) (xv_ix0 (a := n % 10000 / 100) Tryd.underlying9 rfl rfl (by omega) (by kernel_rfl) ⟨rfl, rfl⟩) ?_
      refine js_S rfl rfl (.inl rfl) (xv_ia (sz := 1) (j := 2) sl23 ty5 rfl rfl rfl (by decide) (by decide) (by decide) ⟨rfl, rfl⟩) ?_
      refine js_O0 rfl rfl (.inl rfl) (xv_s1 (l' := (tl 5 3 n).flatMap eB) ty5 rfl rfl rfl (by (first|(apply u_3;(repeat first|exact u_0|assumption|apply u_1|apply u_2);done)|((repeat first|exact u_0|assumption|apply u_1|apply u_2);done)|(apply u_3;apply u_3;(repeat first|exact u_0|assumption|apply u_1|apply u_2);done)|((repeat first|exact u_0|assumption|apply u_3|apply u_1);done))) rfl (by rw [eB_flen, tl_len]; decide) (bytes_tl (d := 5) (j := 2) (k := 2) (by decide) (by decide) (by decide) (by omega)) ?_)
      refine js_S rfl rfl (.inl rfl) (xv_ia (sz := 1) (j := 1) sl23 ty5 rfl rfl rfl (by decide) (by decide) (by decide) ⟨rfl, rfl⟩) ?_
      refine js_O0 rfl rfl (.inl rfl) (xv_s1 (l' := (tl 5 4 n).flatMap eB) ty5 rfl rfl rfl (by (first|(apply u_3;(repeat first|exact u_0|assumption|apply u_1|apply u_2);done)|((repeat first|exact u_0|assumption|apply u_1|apply u_2);done)|(apply u_3;apply u_3;(repeat first|exact u_0|assumption|apply u_1|apply u_2);done)|((repeat first|exact u_0|assumption|apply u_3|apply u_1);done))) rfl (by rw [eB_flen, tl_len]; decide) (bytes_tl (d := 5) (j := 3) (k := 1) (by decide) (by decide) (by decide) (by omega)) ?_)
      refine j_end0 ?_
      refine th_n ?_
      refine xc_region ?_
      refine xr_op rfl rfl (xv_move rfl ?_)
      refine xr_op rfl rfl (xv_subN (a := 5 - 8 * 0) (m := 4) sm64 rfl rfl (by decide) (by decide) ?_)
      refine xr_op rfl rfl (xv_assign rfl ?_)
      refine xr_end rfl ?_
      refine th_n ?_
      refine xc_seq ?_
      refine xc_seq (xc_region ?_)
      refine xr_op rfl rfl (xv_move rfl ?_)
      refine xr_op rfl rfl (xv_cmpK rfl rfl (cmpF rfl (by simp only [cmpP]; (first|omega|(dsimp only at *;omega)|(simp at *;omega)))) ?_)
      refine xr_end rfl ?_
      refine th_n ?_
      refine xc_false rfl ?_
      refine xc_skip ?_
      refine th_n ?_
      refine xc_seq (xc_region ?_)
      refine xr_op rfl rfl (xv_move rfl ?_)
      refine xr_op rfl rfl (xv_cmpK rfl rfl (cmpT (by simp only [cmpP]; (first|omega|(dsimp only at *;omega)|(simp at *;omega)))) ?_)
      refine xr_end rfl ?_
      refine th_n ?_
      refine xc_true rfl ?_
      refine xc_region ?_
      refine xr_op rfl rfl (xv_move rfl ?_)
      refine xr_op rfl rfl (xv_move rfl ?_)
      refine xr_op rfl rfl (xv_addN (a := 48) (m := n / 10000) smU32 rfl rfl (by omega) ?_)
      refine xr_op rfl rfl (xv_convI (m := ((48 + n / 10000 : Nat) : Int)) Tryd.underlying139 Tryd.underlying5 rfl (wrap_u8 (by omega) (by omega)) ?_)
      refine xr_op rfl rfl (xv_ia (sz := 1) (j := 0) sl23 ty5 rfl rfl rfl (by decide) (by decide) (by decide) ?_)
      refine xr_op rfl rfl (xv_s1 (l' := (tl 5 5 n).flatMap eB) ty5 rfl rfl rfl (by (first|(apply u_3;(repeat first|exact u_0|assumption|apply u_1|apply u_2);done)|((repeat first|exact u_0|assumption|apply u_1|apply u_2);done)|(apply u_3;apply u_3;(repeat first|exact u_0|assumption|apply u_1|apply u_2);done)|((repeat first|exact u_0|assumption|apply u_3|apply u_1);done))) rfl (by rw [eB_flen, tl_len]; decide) (bytes_tl (d := 5) (j := 4) (k := 0) (by decide) (by decide) (by decide) (by omega)) ?_)
      refine xr_end rfl ?_
      refine body_end (h' := (_ :: h)) rfl ro_nil (by (first|((repeat first|exact s_0|exact s_1|exact s_3|refine s_4 ?_|refine s_5 ?_|refine s_6 ?_|refine s_7 ?_);done)|((repeat first|exact s_0|exact s_1|exact s_3|refine s_4 ?_|refine s_5 ?_|refine s_6 ?_|refine s_8 ?_);done))) ?_
      exact H
    · refine xr_op rfl rfl (xv_move rfl ?_)
      refine xr_op rfl rfl (xv_convI (m := ((n : Nat) : Int)) Tryd.underlying132 Tryd.underlying139 rfl (by rw [show n / 100000000 ^ 0 = n by omega]; exact smU32 _ (by omega)) ?_)
      refine xr_op rfl rfl (xv_assign rfl ?_)
      refine xr_end rfl ?_
      refine th_n ?_
      refine xc_seq ?_
      refine xc_seq (xc_region ?_)
      refine xr_op rfl rfl (xv_move rfl ?_)
      refine xr_op rfl rfl (xv_cmpK rfl rfl (cmpT (by simp only [cmpP]; (first|omega|(dsimp only at *;omega)|(simp at *;omega)))) ?_)
      refine xr_end rfl ?_
      refine th_n ?_
      refine xc_true rfl ?_
      refine xc_seq (xc_region ?_)
      refine xr_op rfl rfl (xv_move rfl ?_)
      refine xr_op rfl rfl (xv_remN (a := n) (m := 10000) rfl rfl (by decide) ?_)
      refine xr_op rfl rfl (xv_assign rfl ?_)
      refine xr_end rfl ?_
      refine th_n ?_
      refine xc_seq (xc_region ?_)
      refine xr_op rfl rfl (xv_move rfl ?_)
      refine xr_op rfl rfl (xv_quoN (a := n) (m := 10000) smU32 rfl rfl (by decide) (by omega) ?_)
      refine xr_op rfl rfl (xv_assign rfl ?_)
      refine xr_end rfl ?_
      refine th_n ?_
      refine xc_seq (xc_region ?_)
      refine xr_op rfl rfl (xv_move rfl ?_)
      refine xr_op rfl rfl (xv_quoN (a := n % 10000) (m := 100) smU32 rfl rfl (by decide) (by omega) ?_)
      refine xr_op rfl rfl (xv_mulN (a := n % 10000 / 100) (m := 2) smU32 rfl rfl (by omega) ?_)
      refine xr_op rfl rfl (xv_move rfl ?_)
      refine xr_op rfl rfl (xv_remN (a := n % 10000) (m := 100) rfl rfl (by decide) ?_)
      refine xr_op rfl rfl (xv_mulN (a := n % 10000 % 100) (m := 2) smU32 rfl rfl (by omega) ?_)
      refine xr_op rfl rfl (xv_assign rfl ?_)
      refine xr_op rfl rfl (xv_assign rfl ?_)
      refine xr_end rfl ?_
      refine th_n ?_
      refine xc_seq ?_
      refine xc_draw0 [(0, .S), (1, .S), (2, .S), (3, .S), (4, .S), (5, .S), (6, .S), (7, .S), (8, .S), (9, .S), (10, .S), (11, .S), (12, .O), (13, .S), (14, .O)] mixed (by kernel_rfl) ?_
      refine js_S rfl rfl (.inl rfl) (xv_move rfl ⟨rfl, rfl⟩) ?_
      refine js_S rfl rfl (.inl rfl) (xv_move rfl ⟨rfl, rfl⟩) ?_
      refine js_S rfl rfl (.inl rfl) (xv_subN (a := 6 - 8 * 0) (m := 1) sm64 rfl rfl (by decide) (by decide) ⟨rfl, rfl⟩) ?_
      refine js_S rfl rfl (.inl rfl) (xv_move rfl ⟨rfl, rfl⟩) ?_
      refine js_S rfl rfl (.inl rfl) (xv_move rfl ⟨rfl, rfl⟩) ?_
      refine js_S rfl rfl (.inl rfl) (xv_subN (a := 6 - 8 * 0) (m := 2) sm64 rfl rfl (by decide) (by decide) ⟨rfl, rfl⟩) ?_
      refine js_S rfl rfl (.inl rfl) (xv_move rfl ⟨rfl, rfl⟩) ?_
      refine js_S rfl rfl (.inl rfl) (xv_addN (a := 2 * (n % 10000 % 100)) (m := 1) smU32 rfl rfl (by omega) ⟨rfl, rfl⟩) ?_
      refine js_S rfl rfl (.inl rfl) (xv_ix1 (a := n % 10000 % 100) Tryd.underlying9 rfl rfl (by omega) (by kernel_rfl) ⟨rfl, rfl⟩) ?_
      refine js_S rfl rfl (.inl rfl) (xv_move rfl ⟨rfl, rfl⟩) ?_
      refine js_S rfl rfl (.inl rfl) (xv_ix0 (a := n % 10000 % 100) Tryd.underlying9 rfl rfl (by omega) (by kernel_rfl) ⟨rfl, rfl⟩) ?_
      refine js_S rfl rfl (.inl rfl) (xv_ia (sz := 1) (j := 5) sl23 ty5 rfl rfl rfl (by decide) (by decide) (by decide) ⟨rfl, rfl⟩) ?_
      refine js_O0 rfl rfl (.inl rfl) (xv_s1 (l' := (tl 6 1 n).flatMap eB) ty5 rfl rfl rfl (by (first|(apply u_3;(repeat first|exact u_0|assumption|apply u_1|apply u_2);done)|((repeat first|exact u_0|assumption|apply u_1|apply u_2);done)|(apply u_3;apply u_3;(repeat first|exact u_0|assumption|apply u_1|apply u_2);done)|((repeat first|exact u_0|assumption|apply u_3|apply u_1);done))) rfl (by rw [eB_flen, tl_len]; decide) (bytes_tl (d := 6) (j := 0) (k := 5) (by decide) (by decide) (by decide) (by omega)) ?_)
      refine js_S rfl rfl (.inl rfl) (xv_ia (sz := 1) (j := 4) sl23 ty5 rfl rfl rfl (by decide) (by decide) (by decide) ⟨rfl, rfl⟩) ?_
      refine js_O0 rfl rfl (.inl rfl) (xv_s1 (l' := (tl 6 2 n).flatMap eB) ty5 rfl rfl rfl (by (first|(apply u_3;(repeat first|exact u_0|assumption|apply u_1|apply u_2);done)|((repeat first|exact u_0|assumption|apply u_1|apply u_2);done)|(apply u_3;apply u_3;(repeat first|exact u_0|assumption|apply u_1|apply u_2);done)|((repeat first|exact u_0|assumption|apply u_3|apply u_1);done))) rfl (by rw [eB_flen, tl_len]; decide) (bytes_tl (d := 6) (j := 1) (k := 4) (by decide) (by decide) (by decide) (by omega)) ?_)
      refine j_end0 ?_
      refine th_n ?_
      refine xc_seq ?_
      refine xc_draw0 [(0, .S), (1, .S), (2, .S), (3, .S), (4, .S), (5, .S), (6, .S), (7, .S), (8, .S), (9, .S), (10, .S), (11, .S), (12, .O), (13, .S), (14, .O)] mixed (by kernel_rfl) ?_
      refine js_S rfl rfl (.inl rfl) (xv_move rfl ⟨rfl, rfl⟩) ?_
      refine js_S rfl rfl (.inl rfl) (xv_move rfl ⟨rfl, rfl⟩) ?_
      refine js_S rfl rfl (.inl rfl) (xv_subN (a := 6 - 8 * 0) (m := 3) sm64 rfl rfl (by decide) (by decide) ⟨rfl, rfl⟩) ?_
      refine js_S rfl rfl (.inl rfl) (xv_move rfl ⟨rfl, rfl⟩) ?_
      refine js_S rfl rfl (.inl rfl) (xv_move rfl ⟨rfl, rfl⟩) ?_
      refine js_S rfl rfl (.inl rfl) (xv_subN (a := 6 - 8 * 0) (m := 4) sm64 rfl rfl (by decide) (by decide) ⟨rfl, rfl⟩) ?_
      refine js_S rfl rfl (.inl rfl) (xv_move rfl ⟨rfl, rfl⟩) ?_
      refine js_S rfl rfl (.inl rfl) (xv_addN (a := 2 * (n % 10000 / 100)) (m := 1) smU32 rfl rfl (by omega) ⟨rfl, rfl⟩) ?_
      refine js_S rfl rfl (.inl rfl) (xv_ix1 (a := n % 10000 / 100) Tryd.underlying9 rfl rfl (by omega) (by kernel_rfl) ⟨rfl, rfl⟩) ?_
      refine js_S rfl rfl (.inl rfl) (xv_move rfl ⟨rfl, rfl⟩) ?_
      refine js_S rfl rfl (.inl rfl) (xv_ix0 (a := n % 10000 / 100) Tryd.underlying9 rfl rfl (by omega) (by kernel_rfl) ⟨rfl, rfl⟩) ?_
      refine js_S rfl rfl (.inl rfl) (xv_ia (sz := 1) (j := 3) sl23 ty5 rfl rfl rfl (by decide) (by decide) (by decide) ⟨rfl, rfl⟩) ?_
      refine js_O0 rfl rfl (.inl rfl) (xv_s1 (l' := (tl 6 3 n).flatMap eB) ty5 rfl rfl rfl (by (first|(apply u_3;(repeat first|exact u_0|assumption|apply u_1|apply u_2);done)|((repeat first|exact u_0|assumption|apply u_1|apply u_2);done)|(apply u_3;apply u_3;(repeat first|exact u_0|assumption|apply u_1|apply u_2);done)|((repeat first|exact u_0|assumption|apply u_3|apply u_1);done))) rfl (by rw [eB_flen, tl_len]; decide) (bytes_tl (d := 6) (j := 2) (k := 3) (by decide) (by decide) (by decide) (by omega)) ?_)
      refine js_S rfl rfl (.inl rfl) (xv_ia (sz := 1) (j := 2) sl23 ty5 rfl rfl rfl (by decide) (by decide) (by decide) ⟨rfl, rfl⟩) ?_
      refine js_O0 rfl rfl (.inl rfl) (xv_s1 (l' := (tl 6 4 n).flatMap eB) ty5 rfl rfl rfl (by (first|(apply u_3;(repeat first|exact u_0|assumption|apply u_1|apply u_2);done)|((repeat first|exact u_0|assumption|apply u_1|apply u_2);done)|(apply u_3;apply u_3;(repeat first|exact u_0|assumption|apply u_1|apply u_2);done)|((repeat first|exact u_0|assumption|apply u_3|apply u_1);done))) rfl (by rw [eB_flen, tl_len]; decide) (bytes_tl (d := 6) (j := 3) (k := 2) (by decide) (by decide) (by decide) (by omega)) ?_)
      refine j_end0 ?_
      refine th_n ?_
      refine xc_region ?_
      refine xr_op rfl rfl (xv_move rfl ?_)
      refine xr_op rfl rfl (xv_subN (a := 6 - 8 * 0) (m := 4) sm64 rfl rfl (by decide) (by decide) ?_)
      refine xr_op rfl rfl (xv_assign rfl ?_)
      refine xr_end rfl ?_
      refine th_n ?_
      refine xc_seq ?_
      refine xc_seq (xc_region ?_)
      refine xr_op rfl rfl (xv_move rfl ?_)
      refine xr_op rfl rfl (xv_cmpK rfl rfl (cmpT (by simp only [cmpP]; (first|omega|(dsimp only at *;omega)|(simp at *;omega)))) ?_)
      refine xr_end rfl ?_
      refine th_n ?_
      refine xc_true rfl ?_
      refine xc_seq (xc_region ?_)
      refine xr_op rfl rfl (xv_move rfl ?_)
      refine xr_op rfl rfl (xv_remN (a := n / 10000) (m := 100) rfl rfl (by decide) ?_)
      refine xr_op rfl rfl (xv_mulN (a := n / 10000 % 100) (m := 2) smU32 rfl rfl (by omega) ?_)
      refine xr_op rfl rfl (xv_assign rfl ?_)
      refine xr_end rfl ?_
      refine th_n ?_
      refine xc_seq (xc_region ?_)
      refine xr_op rfl rfl (xv_move rfl ?_)
      refine xr_op rfl rfl (xv_quoN (a := n / 10000) (m := 100) smU32 rfl rfl (by decide) (by omega) ?_)
      refine xr_op rfl rfl (xv_assign rfl ?_)
      refine xr_end rfl ?_
      refine th_n ?_
      refine xc_seq ?_
      refine xc_draw0 [(0, .S), (1, .S), (2, .S), (3, .S), (4, .S), (5, .S), (6, .S), (7, .S), (8, .S), (9, .S), (10, .S), (11, .S), (12, .O), (13, .S), (14, .O)] mixed (by kernel_rfl) ?_
      refine js_S rfl rfl (.inl rfl) (xv_move rfl ⟨rfl, rfl⟩) ?_
      refine js_S rfl rfl (.inl rfl) (xv_move rfl ⟨rfl, rfl⟩) ?_
      refine js_S rfl rfl (.inl rfl) (xv_subN (a := 6 - 8 * 0 - 4) (m := 1) sm64 rfl rfl (by decide) (by decide) ⟨rfl, rfl⟩) ?_
      refine js_S rfl rfl (.inl rfl) (xv_move rfl ⟨rfl, rfl⟩) ?_
      refine js_S rfl rfl (.inl rfl) (xv_move rfl ⟨rfl, rfl⟩) ?_
      refine js_S rfl rfl (.inl rfl) (xv_subN (a := 6 - 8 * 0 - 4) (m := 2) sm64 rfl rfl (by decide) (by decide) ⟨rfl, rfl⟩) ?_
      refine js_S rfl rfl (.inl rfl) (xv_move rfl ⟨rfl, rfl⟩) ?_
      refine js_S rfl rfl (.inl rfl) (xv_addN (a := 2 * (n / 10000 % 100)) (m := 1) smU32 rfl rfl (by omega) ⟨rfl, rfl⟩) ?_
      refine js_S rfl rfl (.inl rfl) (xv_ix1 (a := n / 10000 % 100) Tryd.underlying9 rfl rfl (by omega) (by kernel_rfl) ⟨rfl, rfl⟩) ?_
      refine js_S rfl rfl (.inl rfl) (xv_move rfl ⟨rfl, rfl⟩) ?_
      refine js_S rfl rfl (.inl rfl) (xv_ix0 (a := n / 10000 % 100) Tryd.underlying9 rfl rfl (by omega) (by kernel_rfl) ⟨rfl, rfl⟩) ?_
      refine js_S rfl rfl (.inl rfl) (xv_ia (sz := 1) (j := 1) sl23 ty5 rfl rfl rfl (by decide) (by decide) (by decide) ⟨rfl, rfl⟩) ?_
      refine js_O0 rfl rfl (.inl rfl) (xv_s1 (l' := (tl 6 5 n).flatMap eB) ty5 rfl rfl rfl (by (first|(apply u_3;(repeat first|exact u_0|assumption|apply u_1|apply u_2);done)|((repeat first|exact u_0|assumption|apply u_1|apply u_2);done)|(apply u_3;apply u_3;(repeat first|exact u_0|assumption|apply u_1|apply u_2);done)|((repeat first|exact u_0|assumption|apply u_3|apply u_1);done))) rfl (by rw [eB_flen, tl_len]; decide) (bytes_tl (d := 6) (j := 4) (k := 1) (by decide) (by decide) (by decide) (by omega)) ?_)
      refine js_S rfl rfl (.inl rfl) (xv_ia (sz := 1) (j := 0) sl23 ty5 rfl rfl rfl (by decide) (by decide) (by decide) ⟨rfl, rfl⟩) ?_
      refine js_O0 rfl rfl (.inl rfl) (xv_s1 (l' := (tl 6 6 n).flatMap eB) ty5 rfl rfl rfl (by (first|(apply u_3;(repeat first|exact u_0|assumption|apply u_1|apply u_2);done)|((repeat first|exact u_0|assumption|apply u_1|apply u_2);done)|(apply u_3;apply u_3;(repeat first|exact u_0|assumption|apply u_1|apply u_2);done)|((repeat first|exact u_0|assumption|apply u_3|apply u_1);done))) rfl (by rw [eB_flen, tl_len]; decide) (bytes_tl (d := 6) (j := 5) (k := 0) (by decide) (by decide) (by decide) (by omega)) ?_)
      refine j_end0 ?_
      refine th_n ?_
      refine xc_region ?_
      refine xr_op rfl rfl (xv_move rfl ?_)
      refine xr_op rfl rfl (xv_subN (a := 6 - 8 * 0 - 4) (m := 2) sm64 rfl rfl (by decide) (by decide) ?_)
      refine xr_op rfl rfl (xv_assign rfl ?_)
      refine xr_end rfl ?_
      refine th_n ?_
      refine xc_seq (xc_region ?_)
      refine xr_op rfl rfl (xv_move rfl ?_)
      refine xr_op rfl rfl (xv_cmpK rfl rfl (cmpF rfl (by simp only [cmpP]; (first|omega|(dsimp only at *;omega)|(simp at *;omega)))) ?_)
      refine xr_end rfl ?_
      refine th_n ?_
      refine xc_false rfl ?_
      refine xc_skip ?_
      refine body_end (h' := (_ :: h)) rfl ro_nil (by (first|((repeat first|exact s_0|exact s_1|exact s_3|refine s_4 ?_|refine s_5 ?_|refine s_6 ?_|refine s_7 ?_);done)|((repeat first|exact s_0|exact s_1|exact s_3|refine s_4 ?_|refine s_5 ?_|refine s_6 ?_|refine s_8 ?_);done))) ?_
      exact H
    · refine xr_op rfl rfl (xv_move rfl ?_)
      refine xr_op rfl rfl (xv_convI (m := ((n : Nat) : Int)) Tryd.underlying132 Tryd.underlying139 rfl (by rw [show n / 100000000 ^ 0 = n by omega]; exact smU32 _ (by omega)) ?_)
      refine xr_op rfl rfl (xv_assign rfl ?_)
      refine xr_end rfl ?_
      refine th_n ?_
      refine xc_seq ?_
      refine xc_seq (xc_region ?_)
      refine xr_op rfl rfl (xv_move rfl ?_)
      refine xr_op rfl rfl (xv_cmpK rfl rfl (cmpT (by simp only [cmpP]; (first|omega|(dsimp only at *;omega)|(simp at *;omega)))) ?_)
      refine xr_end rfl ?_
      refine th_n ?_
      refine xc_true rfl ?_
      refine xc_seq (xc_region ?_)
      refine xr_op rfl rfl (xv_move rfl ?_)
      refine xr_op rfl rfl (xv_remN (a := n) (m := 10000) rfl rfl (by decide) ?_)
      refine xr_op rfl rfl (xv_assign rfl ?_)
      refine xr_end rfl ?_
      refine th_n ?_
      refine xc_seq (xc_region ?_)
      refine xr_op rfl rfl (xv_move rfl ?_)
      refine xr_op rfl rfl (xv_quoN (a := n) (m := 10000) smU32 rfl rfl (by decide) (by omega) ?_)
      refine xr_op rfl rfl (xv_assign rfl ?_)
      refine xr_end rfl ?_
      refine th_n ?_
      refine xc_seq (xc_region ?_)
      refine xr_op rfl rfl (xv_move rfl ?_)
      refine xr_op rfl rfl (xv_quoN (a := n % 10000) (m := 100) smU32 rfl rfl (by decide) (by omega) ?_)
      refine xr_op rfl rfl (xv_mulN (a := n % 10000 / 100) (m := 2) smU32 rfl rfl (by omega) ?_)
      refine xr_op rfl rfl (xv_move rfl ?_)
      refine xr_op rfl rfl (xv_remN (a := n % 10000) (m := 100) rfl rfl (by decide) ?_)
      refine xr_op rfl rfl (xv_mulN (a := n % 10000 % 100) (m := 2) smU32 rfl rfl (by omega) ?_)
      refine xr_op rfl rfl (xv_assign rfl ?_)
      refine xr_op rfl rfl (xv_assign rfl ?_)
      refine xr_end rfl ?_
      refine th_n ?_
      refine xc_seq ?_
      refine xc_draw0 [(0, .S), (1, .S), (2, .S), (3, .S), (4, .S), (5, .S), (6, .S), (7, .S), (8, .S), (9, .S), (10, .S), (11, .S), (12, .O), (13, .S), (14, .O)] mixed (by kernel_rfl) ?_
      refine js_S rfl rfl (.inl rfl) (xv_move rfl ⟨rfl, rfl⟩) ?_
      refine js_S rfl rfl (.inl rfl) (xv_move rfl ⟨rfl, rfl⟩) ?_
      refine js_S rfl rfl (.inl rfl) (xv_subN (a := 7 - 8 * 0) (m := 1) sm64 rfl rfl (by decide) (by decide) ⟨rfl, rfl⟩) ?_
      refine js_S rfl rfl (.inl rfl) (xv_move rfl ⟨rfl, rfl⟩) ?_
      refine js_S rfl rfl (.inl rfl) (xv_move rfl ⟨rfl, rfl⟩) ?_
      refine js_S rfl rfl (.inl rfl) (xv_subN (a := 7 - 8 * 0) (m := 2) sm64 rfl rfl (by decide) (by decide) ⟨rfl, rfl⟩) ?_
      refine js_S rfl rfl (.inl rfl) (xv_move rfl ⟨rfl, rfl⟩) ?_
      refine js_S rfl rfl (.inl rfl) (xv_addN (a := 2 * (n % 10000 % 100)) (m := 1) smU32 rfl rfl (by omega) ⟨rfl, rfl⟩) ?_
      refine js_S rfl rfl (.inl rfl) (xv_ix1 (a := n % 10000 % 100) Tryd.underlying9 rfl rfl (by omega) (by kernel_rfl) ⟨rfl, rfl⟩) ?_
      refine js_S rfl rfl (.inl rfl) (xv_move rfl ⟨rfl, rfl⟩) ?_
      refine js_S rfl rfl (.inl rfl) (xv_ix0 (a := n % 10000 % 100) Tryd.underlying9 rfl rfl (by omega) (by kernel_rfl) ⟨rfl, rfl⟩) ?_
      refine js_S rfl rfl (.inl rfl) (xv_ia (sz := 1) (j := 6) sl23 ty5 rfl rfl rfl (by decide) (by decide) (by decide) ⟨rfl, rfl⟩) ?_
      refine js_O0 rfl rfl (.inl rfl) (xv_s1 (l' := (tl 7 1 n).flatMap eB) ty5 rfl rfl rfl (by (first|(apply u_3;(repeat first|exact u_0|assumption|apply u_1|apply u_2);done)|((repeat first|exact u_0|assumption|apply u_1|apply u_2);done)|(apply u_3;apply u_3;(repeat first|exact u_0|assumption|apply u_1|apply u_2);done)|((repeat first|exact u_0|assumption|apply u_3|apply u_1);done))) rfl (by rw [eB_flen, tl_len]; decide) (bytes_tl (d := 7) (j := 0) (k := 6) (by decide) (by decide) (by decide) (by omega)) ?_)
      refine js_S rfl rfl (.inl rfl) (xv_ia (sz := 1) (j := 5) sl23 ty5 rfl rfl rfl (by decide) (by decide) (by decide) ⟨rfl, rfl⟩) ?_
      refine js_O0 rfl rfl (.inl rfl) (xv_s1 (l' := (tl 7 2 n).flatMap eB) ty5 rfl rfl rfl (by (first|(apply u_3;(repeat first|exact u_0|assumption|apply u_1|apply u_2);done)|((repeat first|exact u_0|assumption|apply u_1|apply u_2);done)|(apply u_3;apply u_3;(repeat first|exact u_0|assumption|apply u_1|apply u_2);done)|((repeat first|exact u_0|assumption|apply u_3|apply u_1);done))) rfl (by rw [eB_flen, tl_len]; decide) (bytes_tl (d := 7) (j := 1) (k := 5) (by decide) (by decide) (by decide) (by omega)) ?_)
      refine j_end0 ?_
      refine th_n ?_
      refine xc_seq ?_
      refine xc_draw0 [(0, .S), (1, .S), (2, .S), (3, .S), (4, .S), (5, .S), (6, .S), (7, .S), (8, .S), (9, .S), (10, .S), (11, .S), (12, .O), (13, .S), (14, .O)] mixed (by kernel_rfl) ?_
      refine js_S rfl rfl (.inl rfl) (xv_move rfl ⟨rfl, rfl⟩) ?_
      refine js_S rfl rfl (.inl rfl) (xv_move rfl ⟨rfl, rfl⟩) ?_
      refine js_S rfl rfl (.inl rfl) (xv_subN (a := 7 - 8 * 0) (m := 3) sm64 rfl rfl (by decide) (by decide) ⟨rfl, rfl⟩) ?_
      refine js_S rfl rfl (.inl rfl) (xv_move rfl ⟨rfl, rfl⟩) ?_
      refine js_S rfl rfl (.inl rfl) (xv_move rfl ⟨rfl, rfl⟩) ?_
      refine js_S rfl rfl (.inl rfl) (xv_subN (a := 7 - 8 * 0) (m := 4) sm64 rfl rfl (by decide) (by decide) ⟨rfl, rfl⟩) ?_
      refine js_S rfl rfl (.inl rfl) (xv_move rfl ⟨rfl, rfl⟩) ?_
      refine js_S rfl rfl (.inl rfl) (xv_addN (a := 2 * (n % 10000 / 100)) (m := 1) smU32 rfl rfl (by omega) ⟨rfl, rfl⟩) ?_
      refine js_S rfl rfl (.inl rfl) (xv_ix1 (a := n % 10000 / 100) Tryd.underlying9 rfl rfl (by omega) (by kernel_rfl) ⟨rfl, rfl⟩) ?_
      refine js_S rfl rfl (.inl rfl) (xv_move rfl ⟨rfl, rfl⟩) ?_
      refine js_S rfl rfl (.inl rfl) (xv_ix0 (a := n % 10000 / 100) Tryd.underlying9 rfl rfl (by omega) (by kernel_rfl) ⟨rfl, rfl⟩) ?_
      refine js_S rfl rfl (.inl rfl) (xv_ia (sz := 1) (j := 4) sl23 ty5 rfl rfl rfl (by decide) (by decide) (by decide) ⟨rfl, rfl⟩) ?_
      refine js_O0 rfl rfl (.inl rfl) (xv_s1 (l' := (tl 7 3 n).flatMap eB) ty5 rfl rfl rfl (by (first|(apply u_3;(repeat first|exact u_0|assumption|apply u_1|apply u_2);done)|((repeat first|exact u_0|assumption|apply u_1|apply u_2);done)|(apply u_3;apply u_3;(repeat first|exact u_0|assumption|apply u_1|apply u_2);done)|((repeat first|exact u_0|assumption|apply u_3|apply u_1);done))) rfl (by rw [eB_flen, tl_len]; decide) (bytes_tl (d := 7) (j := 2) (k := 4) (by decide) (by decide) (by decide) (by omega)) ?_)
      refine js_S rfl rfl (.inl rfl) (xv_ia (sz := 1) (j := 3) sl23 ty5 rfl rfl rfl (by decide) (by decide) (by decide) ⟨rfl, rfl⟩) ?_
      refine js_O0 rfl rfl (.inl rfl) (xv_s1 (l' := (tl 7 4 n).flatMap eB) ty5 rfl rfl rfl (by (first|(apply u_3;(repeat first|exact u_0|assumption|apply u_1|apply u_2);done)|((repeat first|exact u_0|assumption|apply u_1|apply u_2);done)|(apply u_3;apply u_3;(repeat first|exact u_0|assumption|apply u_1|apply u_2);done)|((repeat first|exact u_0|assumption|apply u_3|apply u_1);done))) rfl (by rw [eB_flen, tl_len]; decide) (bytes_tl (d := 7) (j := 3) (k := 3) (by decide) (by decide) (by decide) (by omega)) ?_)
      refine j_end0 ?_
      refine th_n ?_
      refine xc_region ?_
      refine xr_op rfl rfl (xv_move rfl ?_)
      refine xr_op rfl rfl (xv_subN (a := 7 - 8 * 0) (m := 4) sm64 rfl rfl (by decide) (by decide) ?_)
      refine xr_op rfl rfl (xv_assign rfl ?_)
      refine xr_end rfl ?_
      refine th_n ?_
      refine xc_seq ?_
      refine xc_seq (xc_region ?_)
      refine xr_op rfl rfl (xv_move rfl ?_)
      refine xr_op rfl rfl (xv_cmpK rfl rfl (cmpT (by simp only [cmpP]; (first|omega|(dsimp only at *;omega)|(simp at *;omega)))) ?_)
      refine xr_end rfl ?_
      refine th_n ?_
      refine xc_true rfl ?_
      refine xc_seq (xc_region ?_)
      refine xr_op rfl rfl (xv_move rfl ?_)
      refine xr_op rfl rfl (xv_remN (a := n / 10000) (m := 100) rfl rfl (by decide) ?_)
      refine xr_op rfl rfl (xv_mulN (a := n / 10000 % 100) (m := 2) smU32 rfl rfl (by omega) ?_)
      refine xr_op rfl rfl (xv_assign rfl ?_)
      refine xr_end rfl ?_
      refine th_n ?_
      refine xc_seq (xc_region ?_)
      refine xr_op rfl rfl (xv_move rfl ?_)
      refine xr_op rfl rfl (xv_quoN (a := n / 10000) (m := 100) smU32 rfl rfl (by decide) (by omega) ?_)
      refine xr_op rfl rfl (xv_assign rfl ?_)
      refine xr_end rfl ?_
      refine th_n ?_
      refine xc_seq ?_
      refine xc_draw0 [(0, .S), (1, .S), (2, .S), (3, .S), (4, .S), (5, .S), (6, .S), (7, .S), (8, .S), (9, .S), (10, .S), (11, .S), (12, .O), (13, .S), (14, .O)] mixed (by kernel_rfl) ?_
      refine js_S rfl rfl (.inl rfl) (xv_move rfl ⟨rfl, rfl⟩) ?_
      refine js_S rfl rfl (.inl rfl) (xv_move rfl ⟨rfl, rfl⟩) ?_
      refine js_S rfl rfl (.inl rfl) (xv_subN (a := 7 - 8 * 0 - 4) (m := 1) sm64 rfl rfl (by decide) (by decide) ⟨rfl, rfl⟩) ?_
      refine js_S rfl rfl (.inl rfl) (xv_move rfl ⟨rfl, rfl⟩) ?_
      refine js_S rfl rfl (.inl rfl) (xv_move rfl ⟨rfl, rfl⟩) ?_
      refine js_S rfl rfl (.inl rfl) (xv_subN (a := 7 - 8 * 0 - 4) (m := 2) sm64 rfl rfl (by decide) (by decide) ⟨rfl, rfl⟩) ?_
      refine js_S rfl rfl (.inl rfl) (xv_move rfl ⟨rfl, rfl⟩) ?_
      refine js_S rfl rfl (.inl rfl) (xv_addN (a := 2 * (n / 10000 % 100)) (m := 1) smU32 rfl rfl (by omega) ⟨rfl, rfl⟩) ?_
      refine js_S rfl rfl (.inl rfl) (xv_ix1 (a := n / 10000 % 100) Tryd.underlying9 rfl rfl (by omega) (by kernel_rfl) ⟨rfl, rfl⟩) ?_
      refine js_S rfl rfl (.inl rfl) (xv_move rfl ⟨rfl, rfl⟩) ?_
      refine js_S rfl rfl (.inl rfl) (xv_ix0 (a := n / 10000 % 100) Tryd.underlying9 rfl rfl (by omega) (by kernel_rfl) ⟨rfl, rfl⟩) ?_
      refine js_S rfl rfl (.inl rfl) (xv_ia (sz := 1) (j := 2) sl23 ty5 rfl rfl rfl (by decide) (by decide) (by decide) ⟨rfl, rfl⟩) ?_
      refine js_O0 rfl rfl (.inl rfl) (xv_s1 (l' := (tl 7 5 n).flatMap eB) ty5 rfl rfl rfl (by (first|(apply u_3;(repeat first|exact u_0|assumption|apply u_1|apply u_2);done)|((repeat first|exact u_0|assumption|apply u_1|apply u_2);done)|(apply u_3;apply u_3;(repeat first|exact u_0|assumption|apply u_1|apply u_2);done)|((repeat first|exact u_0|assumption|apply u_3|apply u_1);done))) rfl (by rw [eB_flen, tl_len]; decide) (bytes_tl (d := 7) (j := 4) (k := 2) (by decide) (by decide) (by decide) (by omega)) ?_)
      refine js_S rfl rfl (.inl rfl) (xv_ia (sz := 1) (j := 1) sl23 ty5 rfl rfl rfl (by decide) (by decide) (by decide) ⟨rfl, rfl⟩) ?_
      refine js_O0 rfl rfl (.inl rfl) (xv_s1 (l' := (tl 7 6 n).flatMap eB) ty5 rfl rfl rfl (by (first|(apply u_3;(repeat first|exact u_0|assumption|apply u_1|apply u_2);done)|((repeat first|exact u_0|assumption|apply u_1|apply u_2);done)|(apply u_3;apply u_3;(repeat first|exact u_0|assumption|apply u_1|apply u_2);done)|((repeat first|exact u_0|assumption|apply u_3|apply u_1);done))) rfl (by rw [eB_flen, tl_len]; decide) (bytes_tl (d := 7) (j := 5) (k := 1) (by decide) (by decide) (by decide) (by omega)) ?_)
      refine j_end0 ?_
      refine th_n ?_
      refine xc_region ?_
      refine xr_op rfl rfl (xv_move rfl ?_)
      refine xr_op rfl rfl (xv_subN (a := 7 - 8 * 0 - 4) (m := 2) sm64 rfl rfl (by decide) (by decide) ?_)
      refine xr_op rfl rfl (xv_assign rfl ?_)
      refine xr_end rfl ?_
      refine th_n ?_
      refine xc_seq (xc_region ?_)
      refine xr_op rfl rfl (xv_move rfl ?_)
      refine xr_op rfl rfl (xv_cmpK rfl rfl (cmpT (by simp only [cmpP]; (first|omega|(dsimp only at *;omega)|(simp at *;omega)))) ?_)
      refine xr_end rfl ?_
      refine th_n ?_
      refine xc_true rfl ?_
      refine xc_region ?_
      refine xr_op rfl rfl (xv_move rfl ?_)
      refine xr_op rfl rfl (xv_move rfl ?_)
      refine xr_op rfl rfl (xv_addN (a := 48) (m := n / 10000 / 100) smU32 rfl rfl (by omega) ?_)
      refine xr_op rfl rfl (xv_convI (m := ((48 + n / 10000 / 100 : Nat) : Int)) Tryd.underlying139 Tryd.underlying5 rfl (wrap_u8 (by omega) (by omega)) ?_)
      refine xr_op rfl rfl (xv_ia (sz := 1) (j := 0) sl23 ty5 rfl rfl rfl (by decide) (by decide) (by decide) ?_)
      refine xr_op rfl rfl (xv_s1 (l' := (tl 7 7 n).flatMap eB) ty5 rfl rfl rfl (by (first|(apply u_3;(repeat first|exact u_0|assumption|apply u_1|apply u_2);done)|((repeat first|exact u_0|assumption|apply u_1|apply u_2);done)|(apply u_3;apply u_3;(repeat first|exact u_0|assumption|apply u_1|apply u_2);done)|((repeat first|exact u_0|assumption|apply u_3|apply u_1);done))) rfl (by rw [eB_flen, tl_len]; decide) (bytes_tl (d := 7) (j := 6) (k := 0) (by decide) (by decide) (by decide) (by omega)) ?_)
      refine xr_end rfl ?_
      refine body_end (h' := (_ :: h)) rfl ro_nil (by (first|((repeat first|exact s_0|exact s_1|exact s_3|refine s_4 ?_|refine s_5 ?_|refine s_6 ?_|refine s_7 ?_);done)|((repeat first|exact s_0|exact s_1|exact s_3|refine s_4 ?_|refine s_5 ?_|refine s_6 ?_|refine s_8 ?_);done))) ?_
      exact H

end Go.Proofs.YtlpkiolopelpfaaDoor

/-
  Walks.
-/
namespace Go.Proofs.YtlpkiolopelpfaaDoor
open Go Go.H
set_option maxRecDepth 100000
set_option maxHeartbeats 8000000
set_option linter.all false
theorem formN_c {n : Nat} {h : Hp} {R : Ending → Hp → Prop} (hp : PowV h) (h1 : 100 ≤ n) (hn : n < 100000000) (H : R (.returned (S (dec n))) h) : ACalls Tryd.prog 82 ⟨[I n, I 10]⟩ h R := by
  refine calls_of_xc (N := 54) Tryd.func82 rfl (by rfl) ?_
  obtain ⟨d, hd⟩ : ∃ d, (dec n).length = d := ⟨_, rfl⟩
  have hd3 : 3 ≤ d := by
      rw [← hd, dec, dif_pos (by omega), List.length_append, List.length_singleton, dec, dif_pos (by omega), List.length_append, List.length_singleton]
      have := dec_pos (n := n / 10 / 10); omega
  have hd8 : d ≤ 8 := by have := dec_len (n := n) 8 (by omega); omega
  have hnd := dec_top hd
  have hdd : dec n = u8 (dl d n) := by rw [← hd]; exact dec_dl n
  refine xc_seq (xc_region ?_)
  refine xr_op rfl rfl (xv_assign rfl ?_)
  refine xr_end rfl ?_
  refine th_n ?_
  refine xc_seq ?_
  refine xc_seq (xc_region ?_)
  refine xr_op rfl rfl (xv_move rfl ?_)
  refine xr_op rfl rfl (xv_eqlT rfl rfl rfl ?_)
  refine xr_end rfl ?_
  refine th_n ?_
  refine xc_true rfl ?_
  refine xc_seq ?_
  refine xc_seq (xc_region ?_)
  refine xr_op rfl rfl (xv_move rfl ?_)
  refine xr_op rfl rfl (xv_cmpK rfl rfl (cmpT (by simp only [cmpP]; (first|omega|(dsimp only at *;omega)|(simp at *;omega)))) ?_)
  refine xr_op rfl rfl (xv_move rfl ?_)
  refine xr_gd rfl rfl rfl (xv_move rfl ?_)
  refine xr_gd rfl rfl rfl (xv_cmpK rfl rfl (cmpF rfl (by simp only [cmpP]; (first|omega|(dsimp only at *;omega)|(simp at *;omega)))) ?_)
  refine xr_op rfl rfl (xv_pick rfl rfl ?_)
  refine xr_end rfl ?_
  refine th_n ?_
  refine xc_false rfl ?_
  refine xc_skip ?_
  refine th_n ?_
  refine xc_seq (xc_region ?_)
  refine xr_op rfl rfl (xv_alloc ty131 (fun bA hbA => ?_))
  refine xr_end rfl ?_
  refine th_n ?_
  refine xc_seq (xc_region ?_)
  refine xr_op rfl rfl (xv_move rfl ?_)
  refine xr_op rfl rfl (xv_convI (m := (n : Int)) Tryd.underlying2 Tryd.underlying132 rfl (wrap_u64 (by omega) (by omega)) ?_)
  refine xr_op rfl rfl (xv_assign rfl ?_)
  refine xr_end rfl ?_
  refine th_n ?_
  refine xc_seq ?_
  refine xc_seq (xc_region ?_)
  refine xr_op rfl rfl (xv_move rfl ?_)
  refine xr_op rfl rfl (xv_cmpK rfl rfl (cmpF rfl (by simp only [cmpP]; (first|omega|(dsimp only at *;omega)|(simp at *;omega)))) ?_)
  refine xr_end rfl ?_
  refine th_n ?_
  refine xc_false rfl ?_
  refine xc_skip ?_
  refine th_n ?_
  refine xc_seq (xc_region ?_)
  refine XR.perm (h := (bA, .cells ⟨(tl d 0 n).flatMap eB⟩ 131 (0, 0)) :: h) (by rw [tl_0]; exact List.Perm.refl _) ?_
  refine xr_op rfl rfl (xv_move rfl ?_)
  refine xr_op rfl rfl (xv_calls rfl hb86 (numDigits_c (hp.sub (by intro z9 hz9; ((repeat first|exact z_0|assumption|refine z_1 ?_|(refine z_l ?_;(repeat first|exact z_0|assumption|refine z_1 ?_);done)|refine z_r ?_);done))) (by omega) hn hd (up_ret ?_)))
  refine xr_op rfl rfl (xv_assign rfl ?_)
  refine xr_end rfl ?_
  refine th_n ?_
  refine xc_seq (xc_region ?_)
  refine xr_op rfl rfl (xv_move rfl ?_)
  refine xr_op rfl rfl (xv_addN (a := 1) (m := d) sm64 rfl rfl (by omega) ?_)
  refine xr_op rfl rfl (xv_slArr2 (m := 1) (q := 1 + d) Tryd.underlying131 ty5 rfl rfl rfl rfl rfl rfl (by omega) (by omega) (by decide) ?_)
  refine xr_op rfl rfl (xv_move rfl ?_)
  refine xr_op rfl rfl (xv_calls rfl hb87 (fb10_c hd3 hd8 hnd (by omega) (up_ret ?_)))
  refine xr_end rfl ?_
  refine th_n ?_
  refine xc_seq ?_
  refine xc_seq (xc_region ?_)
  refine xr_op rfl rfl (xv_move rfl ?_)
  refine xr_op rfl rfl (xv_cmpK rfl rfl (cmpF rfl (by simp only [cmpP]; (first|omega|(dsimp only at *;omega)|(simp at *;omega)))) ?_)
  refine xr_end rfl ?_
  refine th_n ?_
  refine xc_false rfl ?_
  refine xc_skip ?_
  refine th_n ?_
  refine xc_seq (xc_region ?_)
  refine xr_op rfl rfl (xv_move rfl ?_)
  refine xr_op rfl rfl (xv_addN (a := 1) (m := d) sm64 rfl rfl (by omega) ?_)
  refine xr_op rfl rfl (xv_slArr2 (m := 1) (q := 1 + d) Tryd.underlying131 ty5 rfl rfl rfl rfl rfl rfl (by omega) (by omega) (by decide) ?_)
  refine xr_op rfl rfl (xv_cvB (bs := dl d n) sl23 Tryd.underlying5 Tryd.underlying9 rfl (by rw [dl_len]; omega) (dl_byt _ _) (tl_slv (by omega) rfl (by ((repeat first|exact z_0|assumption|refine z_1 ?_|(refine z_l ?_;(repeat first|exact z_0|assumption|refine z_1 ?_);done)|refine z_r ?_);done))) ?_)
  refine xr_op rfl rfl (xv_assign rfl ?_)
  refine xr_end rfl ?_
  refine th_n ?_
  refine xc_ret ?_
  refine th_r ?_
  refine body_ret (h' := h) rfl (ro_tmp rfl ro_nil) (by (first|((repeat first|exact s_0|exact s_1|exact s_3|refine s_4 ?_|refine s_5 ?_|refine s_6 ?_|refine s_7 ?_);done)|((repeat first|exact s_0|exact s_1|exact s_3|refine s_4 ?_|refine s_5 ?_|refine s_6 ?_|refine s_8 ?_);done))) ?_
  (rw [hdd] at H; exact H)

theorem itoaN2_c {n : Nat} {h : Hp} {R : Ending → Hp → Prop} (hp : PowV h) (h1 : 100 ≤ n) (hn : n < 100000000) (H : R (.returned (S (dec n))) h) : ACalls Tryd.prog 75 ⟨[I n]⟩ h R := by
  refine calls_of_xc (N := 5) Tryd.func75 rfl (by rfl) ?_
  refine xc_seq (xc_region ?_)
  refine xr_op rfl rfl (xv_assign rfl ?_)
  refine xr_end rfl ?_
  refine th_n ?_
  refine xc_seq (xc_region ?_)
  refine xr_op rfl rfl (xv_move rfl ?_)
  refine xr_op rfl rfl (xv_calls rfl hb82 (formN_c hp h1 hn (up_ret ?_)))
  refine xr_op rfl rfl (xv_assign rfl ?_)
  refine xr_end rfl ?_
  refine th_n ?_
  refine xc_ret ?_
  refine body_ret (h' := h) rfl (ro_tmp rfl ro_nil) (by (first|((repeat first|exact s_0|exact s_1|exact s_3|refine s_4 ?_|refine s_5 ?_|refine s_6 ?_|refine s_7 ?_);done)|((repeat first|exact s_0|exact s_1|exact s_3|refine s_4 ?_|refine s_5 ?_|refine s_6 ?_|refine s_8 ?_);done))) ?_
  exact H

theorem itoaN_c {n : Nat} {h : Hp} {R : Ending → Hp → Prop} (hp : PowV h) (h1 : 100 ≤ n) (hn : n < 100000000) (H : R (.returned (S (dec n))) h) : ACalls Tryd.prog 62 ⟨[I n]⟩ h R := by
  refine calls_of_xc (N := 5) Tryd.func62 rfl (by rfl) ?_
  refine xc_seq (xc_region ?_)
  refine xr_op rfl rfl (xv_assign rfl ?_)
  refine xr_end rfl ?_
  refine th_n ?_
  refine xc_seq (xc_region ?_)
  refine xr_op rfl rfl (xv_move rfl ?_)
  refine xr_op rfl rfl (xv_calls rfl hb75 (itoaN2_c hp h1 hn (up_ret ?_)))
  refine xr_op rfl rfl (xv_assign rfl ?_)
  refine xr_end rfl ?_
  refine th_n ?_
  refine xc_ret ?_
  refine body_ret (h' := h) rfl (ro_tmp rfl ro_nil) (by (first|((repeat first|exact s_0|exact s_1|exact s_3|refine s_4 ?_|refine s_5 ?_|refine s_6 ?_|refine s_7 ?_);done)|((repeat first|exact s_0|exact s_1|exact s_3|refine s_4 ?_|refine s_5 ?_|refine s_6 ?_|refine s_8 ?_);done))) ?_
  exact H

theorem itoaN {n : Int} {h : Hp} (hp : PowV h) (h0 : 0 ≤ n) (h1 : n < 100000000) : ItoaC n h := fun h' R hs H => by
  obtain ⟨m, rfl⟩ := Int.eq_ofNat_of_zero_le h0
  by_cases hm : m < 100
  · exact itoaS_c hm H
  · exact itoaN_c (hp.sub hs) (by omega) (by omega) H

end Go.Proofs.YtlpkiolopelpfaaDoor

/-
  Texts: a letter, a beginning; equal texts.
-/
set_option linter.all false
namespace Go.H
section
variable {P : Program} {r : Option Nat} {E : Env} {h h' g : Hp} {K : Value → Hp → Prop} {T : List PanicEntry → Hp → Prop} {dst : Option Nat} {ty : TypeId} {pos : String} {af : Array Edge} {gd : Option (Nat × Bool)}
theorem xv_ixS {x y : Operand} {t : TypeId} {k : IntKind} {a : List UInt8} {i : Nat} {v : UInt8} (ht : P.underlying t = some .string) (hx : ev E x = some (S a)) (hy : ev E y = some (.int k (i : Int))) (hv : a[i]? = some v)
    (H : K (.int .u8 ((v.toNat : Nat) : Int)) h) : XV P r ⟨dst, .index t x y, ty, pos, af, gd⟩ K T E h :=
  xv_of_run (by simp [plainOp]) fun w ρ ho he => by
    have hlt : i < a.length := (List.getElem?_eq_some_iff.1 hv).1
    have hs : i < (⟨a.toArray⟩ : ByteArray).size := by simpa [ByteArray.size] using hlt
    have he2 : (⟨a.toArray⟩ : ByteArray)[i] = v := by
      have := (List.getElem?_eq_some_iff.1 hv).2
      exact this
    refine ⟨_, h, w, ?_, H, .refl ho⟩
    simp only [execOp, he _ _ hx, he _ _ hy]
    simp [Instr.index, asIntOf, run_underlying ht, hs, he2]
theorem xv_slST {x z : Operand} {t : TypeId} {k : IntKind} {a : List UInt8} {n : Nat} (ht : P.underlying t = some .string) (hx : ev E x = some (S a)) (hz : ev E z = some (.int k (n : Int))) (hn : n ≤ a.length)
    (H : K (S (a.take n)) h) : XV P r ⟨dst, .slice t x none (some z) none, ty, pos, af, gd⟩ K T E h :=
  xv_of_run (by simp [plainOp]) fun w ρ ho he => by
    have hs : ((n : Nat) : Int) ≤ (((⟨a.toArray⟩ : ByteArray).size : Nat) : Int) := by simpa [ByteArray.size] using hn
    have hb := run_sliceBoundH (P := P) (k := k) (i := (n : Int)) (y := (⟨a.toArray⟩ : ByteArray).size) (code := .sliceAlen) (w := w) (by omega) hs
    have hx2 : (⟨a.toArray⟩ : ByteArray).extract 0 n = ⟨(a.take n).toArray⟩ := by
      apply ByteArray.ext
      simp
    refine ⟨_, h, w, ?_, H, .refl ho⟩
    simp only [execOp, he _ _ hx, he _ _ hz, Option.map_none, Option.map_some]
    simp [Instr.sliceAt, run_underlying ht, Instr.slice, Instr.sliceBounds, hb, hx2]
theorem xv_neSF {xt yt : TypeId} {x y : Operand} {a c : List UInt8} (hx : ev E x = some (S a)) (hy : ev E y = some (S c)) (hq : a = c) (H : K (.bool false) h) : XV P r ⟨dst, .binOp .neq xt x y yt, ty, pos, af, gd⟩ K T E h :=
  xv_of_run (by simp [plainOp]) fun w ρ ho he => ⟨.bool false, h, w, by
    subst hq
    rw [run_bin (he _ _ hx) (he _ _ hy) (fun _ => by simp [eqGuard])]
    simp [binOp, Op.stringOp], H, .refl ho⟩
end
end Go.H

/-
  A beginning of charges; the end of a text; meters cut in two.
-/
set_option linter.all false
namespace Go.Proofs.YtlpkiolopelpfaaDoor
open Go Go.H
theorem asc_take {α : Type} {lt : α → α → Prop} {xs : List α} (H : Asc lt xs xs.length) (k : Nat) : Asc lt (xs.take k) (xs.take k).length := fun i a b h ha hb => by
  rw [List.length_take] at h
  rw [List.getElem?_take_of_lt (by omega)] at ha hb
  exact H i a b (by omega) ha hb
theorem asc_drop {α : Type} {lt : α → α → Prop} {xs : List α} (H : Asc lt xs xs.length) (k : Nat) : Asc lt (xs.drop k) (xs.drop k).length := fun i a b h ha hb => by
  rw [List.length_drop] at h
  rw [List.getElem?_drop] at ha hb
  exact H (k + i) a b (by omega) ha (by rw [← hb, Nat.add_assoc])
theorem errL_take {α : Type} {n : Nat} {ok : α → Prop} {lt : α → α → Prop} {xs : List α} (H : errL n ok lt xs = 0) (k : Nat) : errL n ok lt (xs.take k) = 0 := by
  obtain ⟨h1, h2, h3⟩ := errL_is H
  exact errL_0 (by rw [List.length_take]; omega) (fun x hx => h2 x (List.mem_of_mem_take hx)) (asc_take h3 k)
theorem errL_drop {α : Type} {n : Nat} {ok : α → Prop} {lt : α → α → Prop} {xs : List α} (H : errL n ok lt xs = 0) (k : Nat) : errL n ok lt (xs.drop k) = 0 := by
  obtain ⟨h1, h2, h3⟩ := errL_is H
  exact errL_0 (by rw [List.length_drop]; omega) (fun x hx => h2 x (List.mem_of_mem_drop hx)) (asc_drop h3 k)
theorem dec_no (n : Nat) : (10 : UInt8) ∉ dec n := by
  induction n using Nat.strongRecOn with
  | _ n ih =>
    rw [dec]
    intro h
    rcases List.mem_append.1 h with h | h
    · split at h
      · exact ih (n / 10) (by omega) h
      · cases h
    · have h2 := congrArg UInt8.toNat (List.mem_singleton.1 h)
      rw [UInt8.toNat_ofNat'] at h2
      have : (10 : UInt8).toNat = 10 := rfl
      omega
theorem jn_no : ∀ {ws : List Str}, (∀ w ∈ ws, (10 : UInt8) ∉ w) → (10 : UInt8) ∉ jn ws
  | [], _ => by simp [jn]
  | [w], h => h w List.mem_cons_self
  | w :: x :: ws, h => by
    rw [jn_cons]
    intro hm
    rcases List.mem_append.1 hm with hm | hm
    · exact h w List.mem_cons_self hm
    · rcases List.mem_cons.1 hm with hm | hm
      · exact absurd hm (by decide)
      · exact jn_no (ws := x :: ws) (fun y hy => h y (List.mem_cons_of_mem _ hy)) hm
theorem tot_split (l : List Load) : ∃ q, totS l = q ++ [10] ∧ (10 : UInt8) ∉ q := ⟨_, rfl, jn_no fun w hw => by
  rcases List.mem_cons.1 hw with rfl | hw
  · decide
  · obtain ⟨n, _, rfl⟩ := List.mem_map.1 hw
    exact dec_no _⟩
theorem lds_end {l : List Load} (h : 0 < (ldsS l).length) : (ldsS l)[(ldsS l).length - 1]? = some 10 := by
  rcases List.eq_nil_or_concat l with rfl | ⟨a, x, e⟩
  · exact absurd h (by decide)
  · rw [e]
    rw [List.concat_eq_append, ldsS_snoc, ldS, lineS, ← List.append_assoc, List.length_append, List.length_singleton, Nat.add_sub_cancel, List.getElem?_append_right (Nat.le_refl _), Nat.sub_self]; rfl
theorem nl_in {l : List Load} {n : Nat} (h : (ldsS l).length < n) (h2 : n < (chgS l).length) : ∃ v, (chgS l)[n - 1]? = some v ∧ v ≠ 10 := by
  obtain ⟨q, e, hq⟩ := tot_split l
  unfold chgS at h2 ⊢
  rw [List.length_append, e, List.length_append, List.length_singleton] at h2
  rw [List.getElem?_append_right (by omega), e, List.getElem?_append_left (by omega), List.getElem?_eq_getElem (by omega)]
  exact ⟨_, rfl, fun hc => hq (by rw [← hc]; exact List.getElem_mem _)⟩
theorem nl_at {l : List Load} (h : 0 < (ldsS l).length) : (chgS l)[(ldsS l).length - 1]? = some 10 := by
  unfold chgS
  rw [List.getElem?_append_left (by omega)]
  exact lds_end h
theorem chg_len (l : List Load) : (ldsS l).length + 1 ≤ (chgS l).length := by
  obtain ⟨q, e, hq⟩ := tot_split l
  unfold chgS
  rw [List.length_append, e, List.length_append, List.length_singleton]; omega
theorem lds_app (l : List Load) (k : Nat) : ldsS l = ldsS (l.take k) ++ ldsS (l.drop k) := by
  unfold ldsS
  rw [← List.flatMap_append, List.take_append_drop]
theorem chg_take (l : List Load) (k : Nat) : (chgS l).take (ldsS (l.take k)).length = ldsS (l.take k) := by
  unfold chgS
  rw [lds_app l k, List.append_assoc, List.take_left']
  rfl
theorem chg_le (l : List Load) (k : Nat) : (ldsS (l.take k)).length ≤ (chgS l).length := by
  have := chg_len l
  rw [lds_app l k, List.length_append] at this; omega
theorem chg_take0 (l : List Load) : (chgS l).take (ldsS l).length = ldsS l := by
  unfold chgS
  rw [List.take_left']
  rfl
theorem mtr_app (m : List Leaf) (k : Nat) : mtrS m = mtrS (m.take k) ++ mtrS (m.drop k) := by
  unfold mtrS
  rw [← List.flatMap_append, List.take_append_drop]
theorem chg_num {l : List Load} (h : errL 64 loadOk ltLoad l = 0) : ∀ n ∈ chgN l, 0 ≤ n ∧ n < 100000000 := fun n hn => by
  obtain ⟨h1, h2, _⟩ := errL_is h
  have hb := wsum_bd h2
  rcases List.mem_append.1 hn with hn | hn
  · obtain ⟨x, hx, hn⟩ := List.mem_flatMap.1 hn
    obtain ⟨⟨a1, a2⟩, ⟨b1, b2⟩, ⟨c1, c2⟩, d1, d2⟩ := h2 x hx
    simp only [ldN, List.mem_cons, List.not_mem_nil, or_false] at hn
    rcases hn with rfl | rfl | rfl | rfl <;> omega
  · simp only [List.mem_cons, List.not_mem_nil, or_false] at hn
    rcases hn with rfl | rfl <;> omega
theorem chg_size {l : List Load} (h : errL 64 loadOk ltLoad l = 0) : (chgS l).length ≤ 100000 := by
  obtain ⟨h1, h2, _⟩ := errL_is h
  have a := ldsS_len h2
  have b := totS_len h2 h1
  unfold chgS
  rw [List.length_append]; omega
theorem mtr_size {l : List Leaf} (h : errL 32 leafOk ltLeaf l = 0) : (mtrS l).length ≤ 100000 := by
  obtain ⟨h1, h2, _⟩ := errL_is h
  have := mtrS_len h2
  omega
theorem LeavesV.take {h : Hp} {a : Option Addr} {l : List Leaf} (H : LeavesV h a l) (k : Nat) : LeavesV h a (l.take k) := ⟨H.leaves.take k, fun x hx => H.rds x (List.mem_of_mem_take hx)⟩
theorem LeavesV.dropA {h : Hp} {a : Option Addr} {l : List Leaf} {c : Nat} (H : LeavesV h a l) (hc : l.length ≤ c) (k : Nat) : LeavesV h (Go.H.dropA a c k 2) (l.drop k) := ⟨slv_dropA H.leaves hc, fun x hx => H.rds x (List.mem_of_mem_drop hx)⟩
end Go.Proofs.YtlpkiolopelpfaaDoor

/-
  Walks.
-/
namespace Go.Proofs.YtlpkiolopelpfaaDoor
open Go Go.H
set_option maxRecDepth 100000
set_option maxHeartbeats 8000000
set_option linter.all false
theorem long_c {l : List Leaf} {a : Option Addr} {c : Nat} {h : Hp} {R : Ending → Hp → Prop} (hs : LeavesV h a l) (hl : l.length ≤ 9223372036854775807) (H1 : R (.returned (.bool true)) h) (H2 : l.length ≤ 40 → (∀ x ∈ l, x.rds.length ≤ 12) → R (.returned (.bool false)) h) : ACalls Tryd.prog 11 ⟨[.slice a l.length c]⟩ h R := by
  refine calls_of_xc (N := 19) Tryd.func11 rfl (by rfl) ?_
  refine xc_seq (xc_region ?_)
  refine xr_op rfl rfl (xv_assign rfl ?_)
  refine xr_end rfl ?_
  refine th_n ?_
  refine xc_seq ?_
  refine xc_seq (xc_region ?_)
  refine xr_op rfl rfl (xv_move rfl ?_)
  refine xr_op rfl rfl (xv_len sl33 rfl ?_)
  refine xr_op rfl rfl (xv_move rfl ?_)
  refine xr_end rfl ?_
  refine th_n ?_
  refine xc_block ?_
  refine xc_loop (σ := Nat) (fun k => k ≤ l.length ∧ ∀ i x, i < k → l[i]? = some x → x.rds.length ≤ 12) (fun k => ((((emp.put (some 0) (.slice a l.length c)).put (some 5) (.slice a l.length c)).put (some 6) (I l.length)).put (some 7) (I k))) (fun k => h) (fun k => l.length - k) 0 ⟨Nat.zero_le _, fun i x h9 => absurd h9 (Nat.not_lt_zero _)⟩ (le_put (le_put (le_put (le_put (le_emp _) rfl) rfl) rfl) rfl) (by (first|((repeat first|exact s_0|exact s_1|exact s_3|refine s_4 ?_|refine s_5 ?_|refine s_6 ?_|refine s_7 ?_);done)|((repeat first|exact s_0|exact s_1|exact s_3|refine s_4 ?_|refine s_5 ?_|refine s_6 ?_|refine s_8 ?_);done))) ?_
  rintro k ⟨hk, hka⟩
  refine xc_seq (xc_region ?_)
  refine xr_op rfl rfl (xv_lss2 rfl rfl (fun q1 => ?_) (fun q1 => ?_))
  · refine xr_end rfl ?_
    refine th_n ?_
    refine xc_seq ?_
    refine xc_true rfl ?_
    refine xc_skip ?_
    refine th_n ?_
    refine xc_seq ?_
    refine xc_block ?_
    refine xc_seq (xc_region ?_)
    have hlto : k < l.length := by (first|omega|(dsimp only at *;omega)|(simp at *;omega))
    obtain ⟨bo, oo, lo, to, fzo, hao, hmo, hxo⟩ := (hs.leaves).at hlto
    obtain ⟨xo, hko⟩ : ∃ qq_, l[k]? = some qq_ := ⟨_, List.getElem?_eq_getElem hlto⟩
    refine xr_op rfl rfl (xv_ia (sz := 2) (j := k) sl33 ty72 rfl (by rw [hao]; rfl) rfl (by (first | assumption | with_reducible exact Int.toNat_natCast _ | with_reducible rfl | rfl)) (by (first|omega|(dsimp only at *;omega)|(simp at *;omega))) (by (first|omega|(dsimp only at *;omega)|(simp at *;omega))) ?_)
    refine xr_op rfl rfl (xv_loadA ty72 rfl rfl (by ((repeat first|exact z_0|assumption|refine z_1 ?_|(refine z_l ?_;(repeat first|exact z_0|assumption|refine z_1 ?_);done)|refine z_r ?_);done)) (hxo (k) xo hko) rfl ?_)
    refine xr_op rfl rfl (xv_alloc ty72 (fun bX hbX => ?_))
    refine xr_op rfl rfl (xv_s ty72 rfl rfl (by (first|(apply u_3;(repeat first|exact u_0|assumption|apply u_1|apply u_2);done)|((repeat first|exact u_0|assumption|apply u_1|apply u_2);done)|(apply u_3;apply u_3;(repeat first|exact u_0|assumption|apply u_1|apply u_2);done)|((repeat first|exact u_0|assumption|apply u_3|apply u_1);done))) (by ((try apply evl_some rfl);(repeat (first|exact (rfl : _ = [])|apply evl_cons rfl (by (first|exact v_1|exact v_2|exact v_3|exact v_4|exact v_5|exact v_6|exact v_7|exact v_8|exact v_9|exact rfl))|exact rfl)))) (by rfl) (by rfl) (by rfl) (by ((try apply evl_some rfl);(repeat (first|exact (rfl : _ = [])|apply evl_cons rfl (by (first|exact v_1|exact v_2|exact v_3|exact v_4|exact v_5|exact v_6|exact v_7|exact v_8|exact v_9|exact rfl))|exact rfl)))) ?_)
    refine xr_end rfl ?_
    refine th_n ?_
    refine xc_seq (xc_region ?_)
    refine xr_op rfl rfl (xv_faddr fl72_1 rfl ?_)
    refine xr_op rfl rfl (xv_load1 ty60 rfl rfl (by ((repeat first|exact z_0|assumption|refine z_1 ?_|(refine z_l ?_;(repeat first|exact z_0|assumption|refine z_1 ?_);done)|refine z_r ?_);done)) (by rfl) ?_)
    refine xr_op rfl rfl (xv_len sl60 rfl ?_)
    refine xr_op rfl rfl (xv_gtr2 rfl rfl (fun q2 => ?_) (fun q2 => ?_))
    · refine xr_end rfl ?_
      refine th_n ?_
      refine xc_true rfl ?_
      refine xc_seq (xc_region ?_)
      refine xr_op rfl rfl (xv_assign rfl ?_)
      refine xr_end rfl ?_
      refine th_n ?_
      refine xc_ret ?_
      refine bk_r ?_
      refine th_r ?_
      refine th_r ?_
      refine bk_r ?_
      refine th_r ?_
      refine body_ret (h' := h) rfl (ro_tmp rfl ro_nil) (by (first|((repeat first|exact s_0|exact s_1|exact s_3|refine s_4 ?_|refine s_5 ?_|refine s_6 ?_|refine s_7 ?_);done)|((repeat first|exact s_0|exact s_1|exact s_3|refine s_4 ?_|refine s_5 ?_|refine s_6 ?_|refine s_8 ?_);done))) ?_
      first | exact H1 | exact H2 (by omega) (fun x hx => by obtain ⟨i, hi⟩ := List.getElem?_of_mem hx; exact hka i x (by have h7 := (List.getElem?_eq_some_iff.1 hi).1; omega) hi)
    · refine xr_end rfl ?_
      refine th_n ?_
      refine xc_false rfl ?_
      refine xc_skip ?_
      refine bk_n ?_
      refine th_n ?_
      refine xc_region ?_
      refine xr_op rfl rfl (xv_add rfl rfl (wrap_i64 (by (first|omega|(dsimp only at *;omega)|(simp at *;omega))) (by (first|omega|(dsimp only at *;omega)|(simp at *;omega)))) ?_)
      refine xr_op rfl rfl (xv_move rfl ?_)
      refine xr_end rfl ?_
      exact rnd (k + 1) ⟨by (first|omega|(dsimp only at *;omega)|(simp at *;omega)), fun i x h9 h8 => by
        rcases Nat.lt_succ_iff_lt_or_eq.1 h9 with h7 | h7
        · exact hka i x h7 h8
        · subst h7; rw [hko] at h8; cases h8; (first|omega|(dsimp only at *;omega)|(simp at *;omega))⟩ (by (first|omega|(dsimp only at *;omega)|(simp at *;omega))) (le_put (le_put (le_put (le_put (le_emp _) rfl) rfl) rfl) rfl) (by (first|((repeat first|exact s_0|exact s_1|exact s_3|refine s_4 ?_|refine s_5 ?_|refine s_6 ?_|refine s_7 ?_);done)|((repeat first|exact s_0|exact s_1|exact s_3|refine s_4 ?_|refine s_5 ?_|refine s_6 ?_|refine s_8 ?_);done)))
  · refine xr_end rfl ?_
    refine th_n ?_
    refine xc_seq ?_
    refine xc_false rfl ?_
    refine xc_exit ?_
    refine th_x ?_
    refine th_x ?_
    refine bk_same ?_
    refine th_n ?_
    refine xc_seq (xc_region ?_)
    refine xr_op rfl rfl (xv_move rfl ?_)
    refine xr_op rfl rfl (xv_len sl33 rfl ?_)
    refine xr_op rfl rfl (xv_gtr2 rfl rfl (fun q3 => ?_) (fun q3 => ?_))
    · refine xr_op rfl rfl (xv_assign rfl ?_)
      refine xr_end rfl ?_
      refine th_n ?_
      refine xc_ret ?_
      refine body_ret (h' := h) rfl (ro_tmp rfl ro_nil) (by (first|((repeat first|exact s_0|exact s_1|exact s_3|refine s_4 ?_|refine s_5 ?_|refine s_6 ?_|refine s_7 ?_);done)|((repeat first|exact s_0|exact s_1|exact s_3|refine s_4 ?_|refine s_5 ?_|refine s_6 ?_|refine s_8 ?_);done))) ?_
      first | exact H1 | exact H2 (by omega) (fun x hx => by obtain ⟨i, hi⟩ := List.getElem?_of_mem hx; exact hka i x (by have h7 := (List.getElem?_eq_some_iff.1 hi).1; omega) hi)
    · refine xr_op rfl rfl (xv_assign rfl ?_)
      refine xr_end rfl ?_
      refine th_n ?_
      refine xc_ret ?_
      refine body_ret (h' := h) rfl (ro_tmp rfl ro_nil) (by (first|((repeat first|exact s_0|exact s_1|exact s_3|refine s_4 ?_|refine s_5 ?_|refine s_6 ?_|refine s_7 ?_);done)|((repeat first|exact s_0|exact s_1|exact s_3|refine s_4 ?_|refine s_5 ?_|refine s_6 ?_|refine s_8 ?_);done))) ?_
      first | exact H1 | exact H2 (by omega) (fun x hx => by obtain ⟨i, hi⟩ := List.getElem?_of_mem hx; exact hka i x (by have h7 := (List.getElem?_eq_some_iff.1 hi).1; omega) hi)

end Go.Proofs.YtlpkiolopelpfaaDoor

/-
  Walks.
-/
namespace Go.Proofs.YtlpkiolopelpfaaDoor
open Go Go.H
set_option maxRecDepth 100000
set_option maxHeartbeats 8000000
set_option linter.all false
theorem WriteChargesN_c {l : List Load} {a : Option Addr} {c n : Nat} {h : Hp} {R : Ending → Hp → Prop} (hn : n = l.length) (hs : SlV h 4 eLoad a l) (hl : l.length ≤ 1000000) (hI : (errL 64 loadOk ltLoad l) = 0 → ∀ n ∈ chgN l, ItoaC n h) (H1 : (errL 64 loadOk ltLoad l) ≠ 0 → R (.returned (.tuple ⟨[S [], I (errL 64 loadOk ltLoad l)]⟩)) h)
    (H2 : (errL 64 loadOk ltLoad l) = 0 → R (.returned (.tuple ⟨[S (chgS l), I 0]⟩)) h) : ACalls Tryd.prog 12 ⟨[.slice a n c]⟩ h R := by
  subst hn; exact WriteCharges_c hs hl hI H1 H2

theorem WriteMetersN_c {l : List Leaf} {a : Option Addr} {c n : Nat} {h : Hp} {R : Ending → Hp → Prop} (hn : n = l.length) (hs : LeavesV h a l) (hl : l.length ≤ 1000000) (hrl : ∀ x ∈ l, x.rds.length ≤ 1000000) (hI : (errL 32 leafOk ltLeaf l) = 0 → ∀ x ∈ l, ItoaC x.house h) (H1 : (errL 32 leafOk ltLeaf l) ≠ 0 → R (.returned (.tuple ⟨[S [], I (errL 32 leafOk ltLeaf l)]⟩)) h)
    (H2 : (errL 32 leafOk ltLeaf l) = 0 → R (.returned (.tuple ⟨[S (mtrS l), I 0]⟩)) h) : ACalls Tryd.prog 13 ⟨[.slice a n c]⟩ h R := by
  subst hn; exact WriteMeters_c hs hl hrl hI H1 H2

theorem BookTogether_c {l : List Load} {m : List Leaf} {cut : Nat} {a b : Option Addr} {c d : Nat} {h : Hp} {R : Ending → Hp → Prop} (hs : SlV h 4 eLoad a l) (hlc : l.length ≤ c) (hm : LeavesV h b m) (hml : m.length ≤ 9223372036854775807) (hmc : m.length ≤ d) (hcut : cut ≤ 255) (hp : PowV h) (H : R (.returned (.bool true)) h) : ACalls Tryd.prog 4 ⟨[.slice a l.length c, .slice b m.length d, .int .u8 cut]⟩ h R := by
  refine calls_of_xc (N := 128) Tryd.func4 rfl (by rfl) ?_
  refine xc_seq (xc_region ?_)
  refine xr_op rfl rfl (xv_assign rfl ?_)
  refine xr_end rfl ?_
  refine th_n ?_
  refine xc_seq ?_
  refine xc_seq (xc_region ?_)
  refine xr_op rfl rfl (xv_move rfl ?_)
  refine xr_op rfl rfl (xv_len sl32 rfl ?_)
  refine xr_op rfl rfl (xv_gtr2 rfl rfl (fun q1 => ?_) (fun q1 => ?_))
  · refine xr_op rfl rfl (xv_move rfl ?_)
    refine xr_no rfl rfl rfl rfl ?_
    refine xr_no rfl rfl rfl rfl ?_
    refine xr_op rfl rfl (xv_pick rfl rfl ?_)
    refine xr_end rfl ?_
    refine th_n ?_
    refine xc_true rfl ?_
    refine xc_seq (xc_region ?_)
    refine xr_op rfl rfl (xv_calls rfl hb5 (alive_c (up_ret ?_)))
    refine xr_op rfl rfl (xv_assign rfl ?_)
    refine xr_end rfl ?_
    refine th_n ?_
    refine xc_ret ?_
    refine th_r ?_
    refine body_ret (h' := h) rfl (ro_tmp rfl ro_nil) (by (first|((repeat first|exact s_0|exact s_1|exact s_3|refine s_4 ?_|refine s_5 ?_|refine s_6 ?_|refine s_7 ?_);done)|((repeat first|exact s_0|exact s_1|exact s_3|refine s_4 ?_|refine s_5 ?_|refine s_6 ?_|refine s_8 ?_);done))) ?_
    exact H
  · refine xr_op rfl rfl (xv_move rfl ?_)
    refine xr_gd rfl rfl rfl (xv_move rfl ?_)
    refine xr_gd rfl rfl rfl (xv_calls rfl hb11 (long_c hm hml (up_ret ?_) (fun hm40 hm12 => up_ret ?_)))
    · refine xr_op rfl rfl (xv_pick rfl rfl ?_)
      refine xr_end rfl ?_
      refine th_n ?_
      refine xc_true rfl ?_
      refine xc_seq (xc_region ?_)
      refine xr_op rfl rfl (xv_calls rfl hb5 (alive_c (up_ret ?_)))
      refine xr_op rfl rfl (xv_assign rfl ?_)
      refine xr_end rfl ?_
      refine th_n ?_
      refine xc_ret ?_
      refine th_r ?_
      refine body_ret (h' := h) rfl (ro_tmp rfl ro_nil) (by (first|((repeat first|exact s_0|exact s_1|exact s_3|refine s_4 ?_|refine s_5 ?_|refine s_6 ?_|refine s_7 ?_);done)|((repeat first|exact s_0|exact s_1|exact s_3|refine s_4 ?_|refine s_5 ?_|refine s_6 ?_|refine s_8 ?_);done))) ?_
      exact H
    · refine xr_op rfl rfl (xv_pick rfl rfl ?_)
      refine xr_end rfl ?_
      refine th_n ?_
      refine xc_false rfl ?_
      refine xc_skip ?_
      refine th_n ?_
      refine xc_seq (xc_region ?_)
      refine xr_op rfl rfl (xv_move rfl ?_)
      refine xr_op rfl rfl (xv_calls rfl hb12 (WriteCharges_c hs (by omega) (fun h9 n9 hn9 => itoaN hp (chg_num h9 n9 hn9).1 (chg_num h9 n9 hn9).2) (fun hne => up_ret ?_) (fun he => up_ret ?_)))
      · refine xr_op rfl rfl (xv_move rfl ?_)
        refine xr_op rfl rfl (xv_extract rfl rfl ?_)
        refine xr_op rfl rfl (xv_extract rfl rfl ?_)
        refine xr_op rfl rfl (xv_assign rfl ?_)
        refine xr_op rfl rfl (xv_assign rfl ?_)
        refine xr_end rfl ?_
        refine th_n ?_
        refine xc_seq ?_
        refine xc_seq (xc_region ?_)
        refine xr_op rfl rfl (xv_move rfl ?_)
        refine xr_op rfl rfl (xv_eqlF rfl rfl hne ?_)
        refine xr_op rfl rfl (xv_move rfl ?_)
        refine xr_no rfl rfl rfl rfl ?_
        refine xr_no rfl rfl rfl rfl ?_
        refine xr_no rfl rfl rfl rfl ?_
        refine xr_op rfl rfl (xv_pick rfl rfl ?_)
        refine xr_end rfl ?_
        refine th_n ?_
        refine xc_false rfl ?_
        refine xc_skip ?_
        refine th_n ?_
        refine xc_seq (xc_region ?_)
        refine xr_op rfl rfl (xv_move rfl ?_)
        refine xr_op rfl rfl (xv_calls rfl hb13 (WriteMeters_c (l := m) hm (by omega) (fun x9 hx9 => (by have := hm12 x9 hx9; omega)) (fun h9 x9 hx9 => itoaN hp (by have := (errL_is h9).2.1 x9 hx9; exact this.1.1) (by have := (errL_is h9).2.1 x9 hx9; have := this.1.2; omega)) (fun hme => up_ret ?_) (fun hm0 => up_ret ?_)))
        · refine xr_op rfl rfl (xv_move rfl ?_)
          refine xr_op rfl rfl (xv_extract rfl rfl ?_)
          refine xr_op rfl rfl (xv_extract rfl rfl ?_)
          refine xr_op rfl rfl (xv_assign rfl ?_)
          refine xr_op rfl rfl (xv_assign rfl ?_)
          refine xr_end rfl ?_
          refine th_n ?_
          refine xc_seq ?_
          refine xc_seq (xc_region ?_)
          refine xr_op rfl rfl (xv_move rfl ?_)
          refine xr_op rfl rfl (xv_neqT rfl rfl hme ?_)
          refine xr_end rfl ?_
          refine th_n ?_
          refine xc_true rfl ?_
          refine xc_seq (xc_region ?_)
          refine xr_op rfl rfl (xv_move rfl ?_)
          refine xr_op rfl rfl (xv_eqS (a := []) (c := []) rfl rfl (decide_eq_true rfl) ?_)
          refine xr_op rfl rfl (xv_move rfl ?_)
          refine xr_gd rfl rfl rfl (xv_calls rfl hb5 (alive_c (up_ret ?_)))
          refine xr_op rfl rfl (xv_pick rfl rfl ?_)
          refine xr_op rfl rfl (xv_assign rfl ?_)
          refine xr_end rfl ?_
          refine th_n ?_
          refine xc_ret ?_
          refine th_r ?_
          refine body_ret (h' := h) rfl (ro_tmp rfl ro_nil) (by (first|((repeat first|exact s_0|exact s_1|exact s_3|refine s_4 ?_|refine s_5 ?_|refine s_6 ?_|refine s_7 ?_);done)|((repeat first|exact s_0|exact s_1|exact s_3|refine s_4 ?_|refine s_5 ?_|refine s_6 ?_|refine s_8 ?_);done))) ?_
          exact H
        · refine xr_op rfl rfl (xv_move rfl ?_)
          refine xr_op rfl rfl (xv_extract rfl rfl ?_)
          refine xr_op rfl rfl (xv_extract rfl rfl ?_)
          refine xr_op rfl rfl (xv_assign rfl ?_)
          refine xr_op rfl rfl (xv_assign rfl ?_)
          refine xr_end rfl ?_
          refine th_n ?_
          refine xc_seq ?_
          refine xc_seq (xc_region ?_)
          refine xr_op rfl rfl (xv_move rfl ?_)
          refine xr_op rfl rfl (xv_neqF rfl rfl rfl ?_)
          refine xr_end rfl ?_
          refine th_n ?_
          refine xc_false rfl ?_
          refine xc_skip ?_
          refine th_n ?_
          refine xc_seq (xc_region ?_)
          refine xr_op rfl rfl (xv_move rfl ?_)
          refine xr_op rfl rfl (xv_convI (m := (cut : Int)) Tryd.underlying5 Tryd.underlying3 rfl (wrap_i64 (by omega) (by omega)) ?_)
          refine xr_op rfl rfl (xv_move rfl ?_)
          refine xr_op rfl rfl (xv_len sl33 rfl ?_)
          refine xr_op rfl rfl (xv_addN (a := m.length) (m := 1) sm64 rfl rfl (by omega) ?_)
          refine xr_op rfl rfl (xv_remN (a := cut) (m := m.length + 1) rfl rfl (by omega) ?_)
          refine xr_op rfl rfl (xv_assign rfl ?_)
          refine xr_end rfl ?_
          refine th_n ?_
          refine xc_seq (xc_region ?_)
          obtain ⟨q, hq⟩ : ∃ q, cut % (m.length + 1) = q := ⟨_, rfl⟩
          rw [hq]
          have hqm : q ≤ m.length := by have := Nat.mod_lt cut (show 0 < m.length + 1 by omega); omega
          have hmz := mtr_size hm0
          have hma := mtr_app m q
          have ltq : (m.take q).length = q := by rw [List.length_take]; omega
          have ldq : (m.drop q).length = m.length - q := List.length_drop
          refine xr_op rfl rfl (xv_move rfl ?_)
          refine xr_op rfl rfl (xv_move rfl ?_)
          refine xr_op rfl rfl (xv_sliceToN (m := q) sl33 ty72 rfl rfl (by omega) (by omega) (by omega) ?_)
          refine xr_op rfl rfl (xv_calls rfl hb13 (WriteMetersN_c (l := m.take q) ltq.symm (hm.take _) (by rw [List.length_take]; omega) (fun x9 hx9 => (by have := hm12 x9 (List.mem_of_mem_take hx9); omega)) (fun h9 x9 hx9 => itoaN hp (by have := (errL_is h9).2.1 x9 hx9; exact this.1.1) (by have := (errL_is h9).2.1 x9 hx9; have := this.1.2; omega)) (fun h9 => absurd (errL_take hm0 _) h9) (fun hm1 => up_ret ?_)))
          refine xr_op rfl rfl (xv_move rfl ?_)
          refine xr_op rfl rfl (xv_extract rfl rfl ?_)
          refine xr_op rfl rfl (xv_extract rfl rfl ?_)
          refine xr_op rfl rfl (xv_assign rfl ?_)
          refine xr_op rfl rfl (xv_assign rfl ?_)
          refine xr_end rfl ?_
          refine th_n ?_
          refine xc_seq (xc_region ?_)
          refine xr_op rfl rfl (xv_move rfl ?_)
          refine xr_op rfl rfl (xv_move rfl ?_)
          refine xr_op rfl rfl (xv_sliceFrom (m := q) sl33 ty72 rfl rfl rfl (by omega) (by omega) (by omega) ?_)
          refine xr_op rfl rfl (xv_calls rfl hb13 (WriteMetersN_c (l := m.drop q) ldq.symm (hm.dropA hmc q) (by rw [List.length_drop]; omega) (fun x9 hx9 => (by have := hm12 x9 (List.mem_of_mem_drop hx9); omega)) (fun h9 x9 hx9 => itoaN hp (by have := (errL_is h9).2.1 x9 hx9; exact this.1.1) (by have := (errL_is h9).2.1 x9 hx9; have := this.1.2; omega)) (fun h9 => absurd (errL_drop hm0 _) h9) (fun hm2 => up_ret ?_)))
          refine xr_op rfl rfl (xv_move rfl ?_)
          refine xr_op rfl rfl (xv_extract rfl rfl ?_)
          refine xr_op rfl rfl (xv_extract rfl rfl ?_)
          refine xr_op rfl rfl (xv_assign rfl ?_)
          refine xr_op rfl rfl (xv_assign rfl ?_)
          refine xr_end rfl ?_
          refine th_n ?_
          refine xc_seq (xc_region ?_)
          have hl9 : (mtrS (m.take q)).length + (mtrS (m.drop q)).length ≤ 100000 := by rw [← List.length_append, ← hma]; exact hmz
          refine xr_op rfl rfl (xv_move rfl ?_)
          refine xr_op rfl rfl (xv_eqlT rfl rfl rfl ?_)
          refine xr_op rfl rfl (xv_move rfl ?_)
          refine xr_gd rfl rfl rfl (xv_move rfl ?_)
          refine xr_gd rfl rfl rfl (xv_eqlT rfl rfl rfl ?_)
          refine xr_op rfl rfl (xv_pick rfl rfl ?_)
          refine xr_op rfl rfl (xv_move rfl ?_)
          refine xr_gd rfl rfl rfl (xv_move rfl ?_)
          refine xr_gd rfl rfl rfl (xv_move rfl ?_)
          refine xr_gd rfl rfl rfl (xv_move rfl ?_)
          refine xr_gd rfl rfl rfl (xv_addS rfl rfl (by omega) ?_)
          refine xr_gd rfl rfl rfl (xv_eqS rfl rfl (decide_eq_true hma) ?_)
          refine xr_op rfl rfl (xv_pick rfl rfl ?_)
          refine xr_op rfl rfl (xv_move rfl ?_)
          refine xr_gd rfl rfl rfl (xv_calls rfl hb5 (alive_c (up_ret ?_)))
          refine xr_op rfl rfl (xv_pick rfl rfl ?_)
          refine xr_op rfl rfl (xv_assign rfl ?_)
          refine xr_end rfl ?_
          refine th_n ?_
          refine xc_ret ?_
          refine body_ret (h' := h) rfl (ro_tmp rfl ro_nil) (by (first|((repeat first|exact s_0|exact s_1|exact s_3|refine s_4 ?_|refine s_5 ?_|refine s_6 ?_|refine s_7 ?_);done)|((repeat first|exact s_0|exact s_1|exact s_3|refine s_4 ?_|refine s_5 ?_|refine s_6 ?_|refine s_8 ?_);done))) ?_
          exact H
      · refine xr_op rfl rfl (xv_move rfl ?_)
        refine xr_op rfl rfl (xv_extract rfl rfl ?_)
        refine xr_op rfl rfl (xv_extract rfl rfl ?_)
        refine xr_op rfl rfl (xv_assign rfl ?_)
        refine xr_op rfl rfl (xv_assign rfl ?_)
        refine xr_end rfl ?_
        refine th_n ?_
        refine xc_seq ?_
        refine xc_seq (xc_region ?_)
        refine xr_op rfl rfl (xv_move rfl ?_)
        refine xr_op rfl rfl (xv_eqlT rfl rfl rfl ?_)
        refine xr_op rfl rfl (xv_move rfl ?_)
        refine xr_gd rfl rfl rfl (xv_move rfl ?_)
        refine xr_gd rfl rfl rfl (xv_len sl32 rfl ?_)
        refine xr_gd rfl rfl rfl (xv_gtr2 rfl rfl (fun hq => ?_) (fun hq => ?_))
        · refine xr_op rfl rfl (xv_pick rfl rfl ?_)
          refine xr_end rfl ?_
          refine th_n ?_
          refine xc_true rfl ?_
          refine xc_seq (xc_region ?_)
          have ltk : (l.take (l.length - 1)).length = l.length - 1 := by rw [List.length_take]; omega
          refine xr_op rfl rfl (xv_move rfl ?_)
          refine xr_op rfl rfl (xv_move rfl ?_)
          refine xr_op rfl rfl (xv_len sl32 rfl ?_)
          refine xr_op rfl rfl (xv_subN (a := l.length) (m := 1) sm64 rfl rfl (by omega) (by omega) ?_)
          refine xr_op rfl rfl (xv_sliceToN (m := l.length - 1) sl32 ty75 rfl rfl (by omega) (by omega) (by omega) ?_)
          refine xr_op rfl rfl (xv_calls rfl hb12 (WriteChargesN_c (l := (l.take (l.length - 1))) ltk.symm (hs.take _) (by rw [List.length_take]; omega) (fun h9 n9 hn9 => itoaN hp (chg_num h9 n9 hn9).1 (chg_num h9 n9 hn9).2) (fun h9 => absurd (errL_take he _) h9) (fun he2 => up_ret ?_)))
          refine xr_op rfl rfl (xv_move rfl ?_)
          refine xr_op rfl rfl (xv_extract rfl rfl ?_)
          refine xr_op rfl rfl (xv_extract rfl rfl ?_)
          refine xr_op rfl rfl (xv_assign rfl ?_)
          refine xr_op rfl rfl (xv_assign rfl ?_)
          refine xr_end rfl ?_
          refine th_n ?_
          refine xc_seq ?_
          refine xc_seq (xc_region ?_)
          refine xr_op rfl rfl (xv_move rfl ?_)
          refine xr_op rfl rfl (xv_neqF rfl rfl rfl ?_)
          refine xr_end rfl ?_
          refine th_n ?_
          refine xc_false rfl ?_
          refine xc_skip ?_
          refine th_n ?_
          refine xc_seq (xc_region ?_)
          refine xr_op rfl rfl (xv_move rfl ?_)
          refine xr_op rfl rfl (xv_lenStr Tryd.underlying9 rfl ?_)
          refine xr_op rfl rfl (xv_subN (a := (chgS (l.take (l.length - 1))).length) (m := 1) sm64 rfl rfl (by have := chg_len (l.take (l.length - 1)); omega) (by have := chg_size he2; omega) ?_)
          refine xr_op rfl rfl (xv_assign rfl ?_)
          refine xr_end rfl ?_
          refine th_n ?_
          refine xc_seq ?_
          refine xc_block ?_
          have hcl := chg_len (l.take (l.length - 1))
          refine xc_loop (σ := Nat) (fun n => (ldsS (l.take (l.length - 1))).length ≤ n ∧ n < (chgS (l.take (l.length - 1))).length) (fun n => ((((((emp.put (some 0) (.slice a l.length c)).put (some 1) (.slice b m.length d)).put (some 2) (.int .u8 cut)).put (some 7) (S (chgS l))).put (some 9) (S (chgS (l.take (l.length - 1))))).put (some 11) (I n))) (fun n => h) (fun n => n - (ldsS (l.take (l.length - 1))).length) ((chgS (l.take (l.length - 1))).length - 1) ⟨by omega, by omega⟩ (le_put (le_put (le_put (le_put (le_put (le_put (le_emp _) rfl) rfl) rfl) rfl) rfl) rfl) (by (first|((repeat first|exact s_0|exact s_1|exact s_3|refine s_4 ?_|refine s_5 ?_|refine s_6 ?_|refine s_7 ?_);done)|((repeat first|exact s_0|exact s_1|exact s_3|refine s_4 ?_|refine s_5 ?_|refine s_6 ?_|refine s_8 ?_);done))) ?_
          rintro n ⟨hn1, hn2⟩
          have hsz := chg_size he2
          refine xc_seq ?_
          refine xc_seq (xc_region ?_)
          rcases (show (n = (ldsS (l.take (l.length - 1))).length ∧ n = 0) ∨ (n = (ldsS (l.take (l.length - 1))).length ∧ 0 < n) ∨ (ldsS (l.take (l.length - 1))).length < n by omega) with ⟨hnp, hn0⟩ | ⟨hnp, hn0⟩ | hnp
          · refine xr_op rfl rfl (xv_move rfl ?_)
            refine xr_op rfl rfl (xv_cmpK rfl rfl (cmpF rfl (by simp only [cmpP]; (first|omega|(dsimp only at *;omega)|(simp at *;omega)))) ?_)
            refine xr_op rfl rfl (xv_move rfl ?_)
            refine xr_no rfl rfl rfl rfl ?_
            refine xr_no rfl rfl rfl rfl ?_
            refine xr_no rfl rfl rfl rfl ?_
            refine xr_no rfl rfl rfl rfl ?_
            refine xr_no rfl rfl rfl rfl ?_
            refine xr_op rfl rfl (xv_pick rfl rfl ?_)
            refine xr_end rfl ?_
            refine th_n ?_
            refine xc_false rfl ?_
            refine xc_exit ?_
            refine th_x ?_
            refine th_x ?_
            refine bk_same ?_
            refine th_n ?_
            refine xc_seq ?_
            refine xc_draw0 [(0, .S), (1, .S), (2, .S), (3, .S), (4, .S), (5, .S), (6, .S), (7, .S), (8, .S), (9, .S), (10, .S), (11, .S), (12, .S), (13, .S), (14, .S), (15, .S), (16, .S)] mixed (by kernel_rfl) ?_
            have hnl := chg_le l (l.length - 1)
            rw [← hnp] at hnl
            have htk : (chgS l).take n = (chgS (l.take (l.length - 1))).take n := by rw [hnp, chg_take, chg_take0]
            refine js_S rfl rfl (.inl rfl) (xv_move rfl ⟨rfl, rfl⟩) ?_
            refine js_S rfl rfl (.inl rfl) (xv_cmpK rfl rfl (cmpF rfl (by simp only [cmpP]; (first|omega|(dsimp only at *;omega)|(simp at *;omega)))) ⟨rfl, rfl⟩) ?_
            refine js_S rfl rfl (.inl rfl) (xv_move rfl ⟨rfl, rfl⟩) ?_
            refine js_S rfl rfl (.inr ⟨_, _, rfl, rfl⟩) (xv_move rfl ⟨rfl, rfl⟩) ?_
            refine js_S rfl rfl (.inr ⟨_, _, rfl, rfl⟩) (xv_lenStr Tryd.underlying9 rfl ⟨rfl, rfl⟩) ?_
            refine js_S rfl rfl (.inr ⟨_, _, rfl, rfl⟩) (xv_move rfl ⟨rfl, rfl⟩) ?_
            refine js_S rfl rfl (.inr ⟨_, _, rfl, rfl⟩) (xv_cmpK rfl rfl (cmpF rfl (by simp only [cmpP]; show ¬ ((((chgS l).length : Nat) : Int) < (n : Int)); omega)) ⟨rfl, rfl⟩) ?_
            refine js_S rfl rfl (.inl rfl) (xv_pick rfl rfl ⟨rfl, rfl⟩) ?_
            refine js_S rfl rfl (.inl rfl) (xv_move rfl ⟨rfl, rfl⟩) ?_
            refine js_S rfl rfl (.inr ⟨_, _, rfl, rfl⟩) (xv_move rfl ⟨rfl, rfl⟩) ?_
            refine js_S rfl rfl (.inr ⟨_, _, rfl, rfl⟩) (xv_move rfl ⟨rfl, rfl⟩) ?_
            refine js_S rfl rfl (.inr ⟨_, _, rfl, rfl⟩) (xv_slST (n := n) Tryd.underlying9 rfl rfl hnl ⟨rfl, rfl⟩) ?_
            refine js_S rfl rfl (.inr ⟨_, _, rfl, rfl⟩) (xv_move rfl ⟨rfl, rfl⟩) ?_
            refine js_S rfl rfl (.inr ⟨_, _, rfl, rfl⟩) (xv_move rfl ⟨rfl, rfl⟩) ?_
            refine js_S rfl rfl (.inr ⟨_, _, rfl, rfl⟩) (xv_slST (n := n) Tryd.underlying9 rfl rfl (by omega) ⟨rfl, rfl⟩) ?_
            refine js_S rfl rfl (.inr ⟨_, _, rfl, rfl⟩) (xv_neSF rfl rfl htk ⟨rfl, rfl⟩) ?_
            refine js_S rfl rfl (.inl rfl) (xv_pick rfl rfl ⟨rfl, rfl⟩) ?_
            refine j_end0 ?_
            refine th_n ?_
            refine xc_false rfl ?_
            refine xc_skip ?_
            refine th_n ?_
            refine xc_seq (xc_region ?_)
            refine xr_op rfl rfl (xv_move rfl ?_)
            refine xr_op rfl rfl (xv_calls rfl hb13 (WriteMeters_c (l := m) hm (by omega) (fun x9 hx9 => (by have := hm12 x9 hx9; omega)) (fun h9 x9 hx9 => itoaN hp (by have := (errL_is h9).2.1 x9 hx9; exact this.1.1) (by have := (errL_is h9).2.1 x9 hx9; have := this.1.2; omega)) (fun hme => up_ret ?_) (fun hm0 => up_ret ?_)))
            · refine xr_op rfl rfl (xv_move rfl ?_)
              refine xr_op rfl rfl (xv_extract rfl rfl ?_)
              refine xr_op rfl rfl (xv_extract rfl rfl ?_)
              refine xr_op rfl rfl (xv_assign rfl ?_)
              refine xr_op rfl rfl (xv_assign rfl ?_)
              refine xr_end rfl ?_
              refine th_n ?_
              refine xc_seq ?_
              refine xc_seq (xc_region ?_)
              refine xr_op rfl rfl (xv_move rfl ?_)
              refine xr_op rfl rfl (xv_neqT rfl rfl hme ?_)
              refine xr_end rfl ?_
              refine th_n ?_
              refine xc_true rfl ?_
              refine xc_seq (xc_region ?_)
              refine xr_op rfl rfl (xv_move rfl ?_)
              refine xr_op rfl rfl (xv_eqS (a := []) (c := []) rfl rfl (decide_eq_true rfl) ?_)
              refine xr_op rfl rfl (xv_move rfl ?_)
              refine xr_gd rfl rfl rfl (xv_calls rfl hb5 (alive_c (up_ret ?_)))
              refine xr_op rfl rfl (xv_pick rfl rfl ?_)
              refine xr_op rfl rfl (xv_assign rfl ?_)
              refine xr_end rfl ?_
              refine th_n ?_
              refine xc_ret ?_
              refine th_r ?_
              refine body_ret (h' := h) rfl (ro_tmp rfl ro_nil) (by (first|((repeat first|exact s_0|exact s_1|exact s_3|refine s_4 ?_|refine s_5 ?_|refine s_6 ?_|refine s_7 ?_);done)|((repeat first|exact s_0|exact s_1|exact s_3|refine s_4 ?_|refine s_5 ?_|refine s_6 ?_|refine s_8 ?_);done))) ?_
              exact H
            · refine xr_op rfl rfl (xv_move rfl ?_)
              refine xr_op rfl rfl (xv_extract rfl rfl ?_)
              refine xr_op rfl rfl (xv_extract rfl rfl ?_)
              refine xr_op rfl rfl (xv_assign rfl ?_)
              refine xr_op rfl rfl (xv_assign rfl ?_)
              refine xr_end rfl ?_
              refine th_n ?_
              refine xc_seq ?_
              refine xc_seq (xc_region ?_)
              refine xr_op rfl rfl (xv_move rfl ?_)
              refine xr_op rfl rfl (xv_neqF rfl rfl rfl ?_)
              refine xr_end rfl ?_
              refine th_n ?_
              refine xc_false rfl ?_
              refine xc_skip ?_
              refine th_n ?_
              refine xc_seq (xc_region ?_)
              refine xr_op rfl rfl (xv_move rfl ?_)
              refine xr_op rfl rfl (xv_convI (m := (cut : Int)) Tryd.underlying5 Tryd.underlying3 rfl (wrap_i64 (by omega) (by omega)) ?_)
              refine xr_op rfl rfl (xv_move rfl ?_)
              refine xr_op rfl rfl (xv_len sl33 rfl ?_)
              refine xr_op rfl rfl (xv_addN (a := m.length) (m := 1) sm64 rfl rfl (by omega) ?_)
              refine xr_op rfl rfl (xv_remN (a := cut) (m := m.length + 1) rfl rfl (by omega) ?_)
              refine xr_op rfl rfl (xv_assign rfl ?_)
              refine xr_end rfl ?_
              refine th_n ?_
              refine xc_seq (xc_region ?_)
              obtain ⟨q, hq⟩ : ∃ q, cut % (m.length + 1) = q := ⟨_, rfl⟩
              rw [hq]
              have hqm : q ≤ m.length := by have := Nat.mod_lt cut (show 0 < m.length + 1 by omega); omega
              have hmz := mtr_size hm0
              have hma := mtr_app m q
              have ltq : (m.take q).length = q := by rw [List.length_take]; omega
              have ldq : (m.drop q).length = m.length - q := List.length_drop
              refine xr_op rfl rfl (xv_move rfl ?_)
              refine xr_op rfl rfl (xv_move rfl ?_)
              refine xr_op rfl rfl (xv_sliceToN (m := q) sl33 ty72 rfl rfl (by omega) (by omega) (by omega) ?_)
              refine xr_op rfl rfl (xv_calls rfl hb13 (WriteMetersN_c (l := m.take q) ltq.symm (hm.take _) (by rw [List.length_take]; omega) (fun x9 hx9 => (by have := hm12 x9 (List.mem_of_mem_take hx9); omega)) (fun h9 x9 hx9 => itoaN hp (by have := (errL_is h9).2.1 x9 hx9; exact this.1.1) (by have := (errL_is h9).2.1 x9 hx9; have := this.1.2; omega)) (fun h9 => absurd (errL_take hm0 _) h9) (fun hm1 => up_ret ?_)))
              refine xr_op rfl rfl (xv_move rfl ?_)
              refine xr_op rfl rfl (xv_extract rfl rfl ?_)
              refine xr_op rfl rfl (xv_extract rfl rfl ?_)
              refine xr_op rfl rfl (xv_assign rfl ?_)
              refine xr_op rfl rfl (xv_assign rfl ?_)
              refine xr_end rfl ?_
              refine th_n ?_
              refine xc_seq (xc_region ?_)
              refine xr_op rfl rfl (xv_move rfl ?_)
              refine xr_op rfl rfl (xv_move rfl ?_)
              refine xr_op rfl rfl (xv_sliceFrom (m := q) sl33 ty72 rfl rfl rfl (by omega) (by omega) (by omega) ?_)
              refine xr_op rfl rfl (xv_calls rfl hb13 (WriteMetersN_c (l := m.drop q) ldq.symm (hm.dropA hmc q) (by rw [List.length_drop]; omega) (fun x9 hx9 => (by have := hm12 x9 (List.mem_of_mem_drop hx9); omega)) (fun h9 x9 hx9 => itoaN hp (by have := (errL_is h9).2.1 x9 hx9; exact this.1.1) (by have := (errL_is h9).2.1 x9 hx9; have := this.1.2; omega)) (fun h9 => absurd (errL_drop hm0 _) h9) (fun hm2 => up_ret ?_)))
              refine xr_op rfl rfl (xv_move rfl ?_)
              refine xr_op rfl rfl (xv_extract rfl rfl ?_)
              refine xr_op rfl rfl (xv_extract rfl rfl ?_)
              refine xr_op rfl rfl (xv_assign rfl ?_)
              refine xr_op rfl rfl (xv_assign rfl ?_)
              refine xr_end rfl ?_
              refine th_n ?_
              refine xc_seq (xc_region ?_)
              have hl9 : (mtrS (m.take q)).length + (mtrS (m.drop q)).length ≤ 100000 := by rw [← List.length_append, ← hma]; exact hmz
              refine xr_op rfl rfl (xv_move rfl ?_)
              refine xr_op rfl rfl (xv_eqlT rfl rfl rfl ?_)
              refine xr_op rfl rfl (xv_move rfl ?_)
              refine xr_gd rfl rfl rfl (xv_move rfl ?_)
              refine xr_gd rfl rfl rfl (xv_eqlT rfl rfl rfl ?_)
              refine xr_op rfl rfl (xv_pick rfl rfl ?_)
              refine xr_op rfl rfl (xv_move rfl ?_)
              refine xr_gd rfl rfl rfl (xv_move rfl ?_)
              refine xr_gd rfl rfl rfl (xv_move rfl ?_)
              refine xr_gd rfl rfl rfl (xv_move rfl ?_)
              refine xr_gd rfl rfl rfl (xv_addS rfl rfl (by omega) ?_)
              refine xr_gd rfl rfl rfl (xv_eqS rfl rfl (decide_eq_true hma) ?_)
              refine xr_op rfl rfl (xv_pick rfl rfl ?_)
              refine xr_op rfl rfl (xv_move rfl ?_)
              refine xr_gd rfl rfl rfl (xv_calls rfl hb5 (alive_c (up_ret ?_)))
              refine xr_op rfl rfl (xv_pick rfl rfl ?_)
              refine xr_op rfl rfl (xv_assign rfl ?_)
              refine xr_end rfl ?_
              refine th_n ?_
              refine xc_ret ?_
              refine body_ret (h' := h) rfl (ro_tmp rfl ro_nil) (by (first|((repeat first|exact s_0|exact s_1|exact s_3|refine s_4 ?_|refine s_5 ?_|refine s_6 ?_|refine s_7 ?_);done)|((repeat first|exact s_0|exact s_1|exact s_3|refine s_4 ?_|refine s_5 ?_|refine s_6 ?_|refine s_8 ?_);done))) ?_
              exact H
          · have hv := nl_at (l := (l.take (l.length - 1))) (by omega)
            rw [← hnp] at hv
            refine xr_op rfl rfl (xv_move rfl ?_)
            refine xr_op rfl rfl (xv_cmpK rfl rfl (cmpT (by simp only [cmpP]; (first|omega|(dsimp only at *;omega)|(simp at *;omega)))) ?_)
            refine xr_op rfl rfl (xv_move rfl ?_)
            refine xr_gd rfl rfl rfl (xv_move rfl ?_)
            refine xr_gd rfl rfl rfl (xv_move rfl ?_)
            refine xr_gd rfl rfl rfl (xv_subN (a := n) (m := 1) sm64 rfl rfl (by omega) (by omega) ?_)
            refine xr_gd rfl rfl rfl (xv_ixS (i := n - 1) Tryd.underlying9 rfl rfl hv ?_)
            refine xr_gd rfl rfl rfl (xv_neqF rfl rfl rfl ?_)
            refine xr_op rfl rfl (xv_pick rfl rfl ?_)
            refine xr_end rfl ?_
            refine th_n ?_
            refine xc_false rfl ?_
            refine xc_exit ?_
            refine th_x ?_
            refine th_x ?_
            refine bk_same ?_
            refine th_n ?_
            refine xc_seq ?_
            refine xc_draw0 [(0, .S), (1, .S), (2, .S), (3, .S), (4, .S), (5, .S), (6, .S), (7, .S), (8, .S), (9, .S), (10, .S), (11, .S), (12, .S), (13, .S), (14, .S), (15, .S), (16, .S)] mixed (by kernel_rfl) ?_
            have hnl := chg_le l (l.length - 1)
            rw [← hnp] at hnl
            have htk : (chgS l).take n = (chgS (l.take (l.length - 1))).take n := by rw [hnp, chg_take, chg_take0]
            refine js_S rfl rfl (.inl rfl) (xv_move rfl ⟨rfl, rfl⟩) ?_
            refine js_S rfl rfl (.inl rfl) (xv_cmpK rfl rfl (cmpF rfl (by simp only [cmpP]; (first|omega|(dsimp only at *;omega)|(simp at *;omega)))) ⟨rfl, rfl⟩) ?_
            refine js_S rfl rfl (.inl rfl) (xv_move rfl ⟨rfl, rfl⟩) ?_
            refine js_S rfl rfl (.inr ⟨_, _, rfl, rfl⟩) (xv_move rfl ⟨rfl, rfl⟩) ?_
            refine js_S rfl rfl (.inr ⟨_, _, rfl, rfl⟩) (xv_lenStr Tryd.underlying9 rfl ⟨rfl, rfl⟩) ?_
            refine js_S rfl rfl (.inr ⟨_, _, rfl, rfl⟩) (xv_move rfl ⟨rfl, rfl⟩) ?_
            refine js_S rfl rfl (.inr ⟨_, _, rfl, rfl⟩) (xv_cmpK rfl rfl (cmpF rfl (by simp only [cmpP]; show ¬ ((((chgS l).length : Nat) : Int) < (n : Int)); omega)) ⟨rfl, rfl⟩) ?_
            refine js_S rfl rfl (.inl rfl) (xv_pick rfl rfl ⟨rfl, rfl⟩) ?_
            refine js_S rfl rfl (.inl rfl) (xv_move rfl ⟨rfl, rfl⟩) ?_
            refine js_S rfl rfl (.inr ⟨_, _, rfl, rfl⟩) (xv_move rfl ⟨rfl, rfl⟩) ?_
            refine js_S rfl rfl (.inr ⟨_, _, rfl, rfl⟩) (xv_move rfl ⟨rfl, rfl⟩) ?_
            refine js_S rfl rfl (.inr ⟨_, _, rfl, rfl⟩) (xv_slST (n := n) Tryd.underlying9 rfl rfl hnl ⟨rfl, rfl⟩) ?_
            refine js_S rfl rfl (.inr ⟨_, _, rfl, rfl⟩) (xv_move rfl ⟨rfl, rfl⟩) ?_
            refine js_S rfl rfl (.inr ⟨_, _, rfl, rfl⟩) (xv_move rfl ⟨rfl, rfl⟩) ?_
            refine js_S rfl rfl (.inr ⟨_, _, rfl, rfl⟩) (xv_slST (n := n) Tryd.underlying9 rfl rfl (by omega) ⟨rfl, rfl⟩) ?_
            refine js_S rfl rfl (.inr ⟨_, _, rfl, rfl⟩) (xv_neSF rfl rfl htk ⟨rfl, rfl⟩) ?_
            refine js_S rfl rfl (.inl rfl) (xv_pick rfl rfl ⟨rfl, rfl⟩) ?_
            refine j_end0 ?_
            refine th_n ?_
            refine xc_false rfl ?_
            refine xc_skip ?_
            refine th_n ?_
            refine xc_seq (xc_region ?_)
            refine xr_op rfl rfl (xv_move rfl ?_)
            refine xr_op rfl rfl (xv_calls rfl hb13 (WriteMeters_c (l := m) hm (by omega) (fun x9 hx9 => (by have := hm12 x9 hx9; omega)) (fun h9 x9 hx9 => itoaN hp (by have := (errL_is h9).2.1 x9 hx9; exact this.1.1) (by have := (errL_is h9).2.1 x9 hx9; have := this.1.2; omega)) (fun hme => up_ret ?_) (fun hm0 => up_ret ?_)))
            · refine xr_op rfl rfl (xv_move rfl ?_)
              refine xr_op rfl rfl (xv_extract rfl rfl ?_)
              refine xr_op rfl rfl (xv_extract rfl rfl ?_)
              refine xr_op rfl rfl (xv_assign rfl ?_)
              refine xr_op rfl rfl (xv_assign rfl ?_)
              refine xr_end rfl ?_
              refine th_n ?_
              refine xc_seq ?_
              refine xc_seq (xc_region ?_)
              refine xr_op rfl rfl (xv_move rfl ?_)
              refine xr_op rfl rfl (xv_neqT rfl rfl hme ?_)
              refine xr_end rfl ?_
              refine th_n ?_
              refine xc_true rfl ?_
              refine xc_seq (xc_region ?_)
              refine xr_op rfl rfl (xv_move rfl ?_)
              refine xr_op rfl rfl (xv_eqS (a := []) (c := []) rfl rfl (decide_eq_true rfl) ?_)
              refine xr_op rfl rfl (xv_move rfl ?_)
              refine xr_gd rfl rfl rfl (xv_calls rfl hb5 (alive_c (up_ret ?_)))
              refine xr_op rfl rfl (xv_pick rfl rfl ?_)
              refine xr_op rfl rfl (xv_assign rfl ?_)
              refine xr_end rfl ?_
              refine th_n ?_
              refine xc_ret ?_
              refine th_r ?_
              refine body_ret (h' := h) rfl (ro_tmp rfl ro_nil) (by (first|((repeat first|exact s_0|exact s_1|exact s_3|refine s_4 ?_|refine s_5 ?_|refine s_6 ?_|refine s_7 ?_);done)|((repeat first|exact s_0|exact s_1|exact s_3|refine s_4 ?_|refine s_5 ?_|refine s_6 ?_|refine s_8 ?_);done))) ?_
              exact H
            · refine xr_op rfl rfl (xv_move rfl ?_)
              refine xr_op rfl rfl (xv_extract rfl rfl ?_)
              refine xr_op rfl rfl (xv_extract rfl rfl ?_)
              refine xr_op rfl rfl (xv_assign rfl ?_)
              refine xr_op rfl rfl (xv_assign rfl ?_)
              refine xr_end rfl ?_
              refine th_n ?_
              refine xc_seq ?_
              refine xc_seq (xc_region ?_)
              refine xr_op rfl rfl (xv_move rfl ?_)
              refine xr_op rfl rfl (xv_neqF rfl rfl rfl ?_)
              refine xr_end rfl ?_
              refine th_n ?_
              refine xc_false rfl ?_
              refine xc_skip ?_
              refine th_n ?_
              refine xc_seq (xc_region ?_)
              refine xr_op rfl rfl (xv_move rfl ?_)
              refine xr_op rfl rfl (xv_convI (m := (cut : Int)) Tryd.underlying5 Tryd.underlying3 rfl (wrap_i64 (by omega) (by omega)) ?_)
              refine xr_op rfl rfl (xv_move rfl ?_)
              refine xr_op rfl rfl (xv_len sl33 rfl ?_)
              refine xr_op rfl rfl (xv_addN (a := m.length) (m := 1) sm64 rfl rfl (by omega) ?_)
              refine xr_op rfl rfl (xv_remN (a := cut) (m := m.length + 1) rfl rfl (by omega) ?_)
              refine xr_op rfl rfl (xv_assign rfl ?_)
              refine xr_end rfl ?_
              refine th_n ?_
              refine xc_seq (xc_region ?_)
              obtain ⟨q, hq⟩ : ∃ q, cut % (m.length + 1) = q := ⟨_, rfl⟩
              rw [hq]
              have hqm : q ≤ m.length := by have := Nat.mod_lt cut (show 0 < m.length + 1 by omega); omega
              have hmz := mtr_size hm0
              have hma := mtr_app m q
              have ltq : (m.take q).length = q := by rw [List.length_take]; omega
              have ldq : (m.drop q).length = m.length - q := List.length_drop
              refine xr_op rfl rfl (xv_move rfl ?_)
              refine xr_op rfl rfl (xv_move rfl ?_)
              refine xr_op rfl rfl (xv_sliceToN (m := q) sl33 ty72 rfl rfl (by omega) (by omega) (by omega) ?_)
              refine xr_op rfl rfl (xv_calls rfl hb13 (WriteMetersN_c (l := m.take q) ltq.symm (hm.take _) (by rw [List.length_take]; omega) (fun x9 hx9 => (by have := hm12 x9 (List.mem_of_mem_take hx9); omega)) (fun h9 x9 hx9 => itoaN hp (by have := (errL_is h9).2.1 x9 hx9; exact this.1.1) (by have := (errL_is h9).2.1 x9 hx9; have := this.1.2; omega)) (fun h9 => absurd (errL_take hm0 _) h9) (fun hm1 => up_ret ?_)))
              refine xr_op rfl rfl (xv_move rfl ?_)
              refine xr_op rfl rfl (xv_extract rfl rfl ?_)
              refine xr_op rfl rfl (xv_extract rfl rfl ?_)
              refine xr_op rfl rfl (xv_assign rfl ?_)
              refine xr_op rfl rfl (xv_assign rfl ?_)
              refine xr_end rfl ?_
              refine th_n ?_
              refine xc_seq (xc_region ?_)
              refine xr_op rfl rfl (xv_move rfl ?_)
              refine xr_op rfl rfl (xv_move rfl ?_)
              refine xr_op rfl rfl (xv_sliceFrom (m := q) sl33 ty72 rfl rfl rfl (by omega) (by omega) (by omega) ?_)
              refine xr_op rfl rfl (xv_calls rfl hb13 (WriteMetersN_c (l := m.drop q) ldq.symm (hm.dropA hmc q) (by rw [List.length_drop]; omega) (fun x9 hx9 => (by have := hm12 x9 (List.mem_of_mem_drop hx9); omega)) (fun h9 x9 hx9 => itoaN hp (by have := (errL_is h9).2.1 x9 hx9; exact this.1.1) (by have := (errL_is h9).2.1 x9 hx9; have := this.1.2; omega)) (fun h9 => absurd (errL_drop hm0 _) h9) (fun hm2 => up_ret ?_)))
              refine xr_op rfl rfl (xv_move rfl ?_)
              refine xr_op rfl rfl (xv_extract rfl rfl ?_)
              refine xr_op rfl rfl (xv_extract rfl rfl ?_)
              refine xr_op rfl rfl (xv_assign rfl ?_)
              refine xr_op rfl rfl (xv_assign rfl ?_)
              refine xr_end rfl ?_
              refine th_n ?_
              refine xc_seq (xc_region ?_)
              have hl9 : (mtrS (m.take q)).length + (mtrS (m.drop q)).length ≤ 100000 := by rw [← List.length_append, ← hma]; exact hmz
              refine xr_op rfl rfl (xv_move rfl ?_)
              refine xr_op rfl rfl (xv_eqlT rfl rfl rfl ?_)
              refine xr_op rfl rfl (xv_move rfl ?_)
              refine xr_gd rfl rfl rfl (xv_move rfl ?_)
              refine xr_gd rfl rfl rfl (xv_eqlT rfl rfl rfl ?_)
              refine xr_op rfl rfl (xv_pick rfl rfl ?_)
              refine xr_op rfl rfl (xv_move rfl ?_)
              refine xr_gd rfl rfl rfl (xv_move rfl ?_)
              refine xr_gd rfl rfl rfl (xv_move rfl ?_)
              refine xr_gd rfl rfl rfl (xv_move rfl ?_)
              refine xr_gd rfl rfl rfl (xv_addS rfl rfl (by omega) ?_)
              refine xr_gd rfl rfl rfl (xv_eqS rfl rfl (decide_eq_true hma) ?_)
              refine xr_op rfl rfl (xv_pick rfl rfl ?_)
              refine xr_op rfl rfl (xv_move rfl ?_)
              refine xr_gd rfl rfl rfl (xv_calls rfl hb5 (alive_c (up_ret ?_)))
              refine xr_op rfl rfl (xv_pick rfl rfl ?_)
              refine xr_op rfl rfl (xv_assign rfl ?_)
              refine xr_end rfl ?_
              refine th_n ?_
              refine xc_ret ?_
              refine body_ret (h' := h) rfl (ro_tmp rfl ro_nil) (by (first|((repeat first|exact s_0|exact s_1|exact s_3|refine s_4 ?_|refine s_5 ?_|refine s_6 ?_|refine s_7 ?_);done)|((repeat first|exact s_0|exact s_1|exact s_3|refine s_4 ?_|refine s_5 ?_|refine s_6 ?_|refine s_8 ?_);done))) ?_
              exact H
          · obtain ⟨v, hv, hv10⟩ := nl_in hnp hn2
            have hv11 : ((v.toNat : Nat) : Int) ≠ 10 := fun h9 => hv10 (UInt8.toNat_inj.1 (by show v.toNat = 10; omega))
            refine xr_op rfl rfl (xv_move rfl ?_)
            refine xr_op rfl rfl (xv_cmpK rfl rfl (cmpT (by simp only [cmpP]; (first|omega|(dsimp only at *;omega)|(simp at *;omega)))) ?_)
            refine xr_op rfl rfl (xv_move rfl ?_)
            refine xr_gd rfl rfl rfl (xv_move rfl ?_)
            refine xr_gd rfl rfl rfl (xv_move rfl ?_)
            refine xr_gd rfl rfl rfl (xv_subN (a := n) (m := 1) sm64 rfl rfl (by omega) (by omega) ?_)
            refine xr_gd rfl rfl rfl (xv_ixS (i := n - 1) Tryd.underlying9 rfl rfl hv ?_)
            refine xr_gd rfl rfl rfl (xv_neqT rfl rfl hv11 ?_)
            refine xr_op rfl rfl (xv_pick rfl rfl ?_)
            refine xr_end rfl ?_
            refine th_n ?_
            refine xc_true rfl ?_
            refine xc_skip ?_
            refine th_n ?_
            refine xc_block ?_
            refine xc_region ?_
            refine xr_op rfl rfl (xv_move rfl ?_)
            refine xr_op rfl rfl (xv_subN (a := n) (m := 1) sm64 rfl rfl (by omega) (by omega) ?_)
            refine xr_op rfl rfl (xv_assign rfl ?_)
            refine xr_end rfl ?_
            refine bk_n ?_
            exact rnd (n - 1) ⟨by omega, by omega⟩ (by omega) (le_put (le_put (le_put (le_put (le_put (le_put (le_emp _) rfl) rfl) rfl) rfl) rfl) rfl) (by (first|((repeat first|exact s_0|exact s_1|exact s_3|refine s_4 ?_|refine s_5 ?_|refine s_6 ?_|refine s_7 ?_);done)|((repeat first|exact s_0|exact s_1|exact s_3|refine s_4 ?_|refine s_5 ?_|refine s_6 ?_|refine s_8 ?_);done)))
        · refine xr_op rfl rfl (xv_pick rfl rfl ?_)
          refine xr_end rfl ?_
          refine th_n ?_
          refine xc_false rfl ?_
          refine xc_skip ?_
          refine th_n ?_
          refine xc_seq (xc_region ?_)
          refine xr_op rfl rfl (xv_move rfl ?_)
          refine xr_op rfl rfl (xv_calls rfl hb13 (WriteMeters_c (l := m) hm (by omega) (fun x9 hx9 => (by have := hm12 x9 hx9; omega)) (fun h9 x9 hx9 => itoaN hp (by have := (errL_is h9).2.1 x9 hx9; exact this.1.1) (by have := (errL_is h9).2.1 x9 hx9; have := this.1.2; omega)) (fun hme => up_ret ?_) (fun hm0 => up_ret ?_)))
          · refine xr_op rfl rfl (xv_move rfl ?_)
            refine xr_op rfl rfl (xv_extract rfl rfl ?_)
            refine xr_op rfl rfl (xv_extract rfl rfl ?_)
            refine xr_op rfl rfl (xv_assign rfl ?_)
            refine xr_op rfl rfl (xv_assign rfl ?_)
            refine xr_end rfl ?_
            refine th_n ?_
            refine xc_seq ?_
            refine xc_seq (xc_region ?_)
            refine xr_op rfl rfl (xv_move rfl ?_)
            refine xr_op rfl rfl (xv_neqT rfl rfl hme ?_)
            refine xr_end rfl ?_
            refine th_n ?_
            refine xc_true rfl ?_
            refine xc_seq (xc_region ?_)
            refine xr_op rfl rfl (xv_move rfl ?_)
            refine xr_op rfl rfl (xv_eqS (a := []) (c := []) rfl rfl (decide_eq_true rfl) ?_)
            refine xr_op rfl rfl (xv_move rfl ?_)
            refine xr_gd rfl rfl rfl (xv_calls rfl hb5 (alive_c (up_ret ?_)))
            refine xr_op rfl rfl (xv_pick rfl rfl ?_)
            refine xr_op rfl rfl (xv_assign rfl ?_)
            refine xr_end rfl ?_
            refine th_n ?_
            refine xc_ret ?_
            refine th_r ?_
            refine body_ret (h' := h) rfl (ro_tmp rfl ro_nil) (by (first|((repeat first|exact s_0|exact s_1|exact s_3|refine s_4 ?_|refine s_5 ?_|refine s_6 ?_|refine s_7 ?_);done)|((repeat first|exact s_0|exact s_1|exact s_3|refine s_4 ?_|refine s_5 ?_|refine s_6 ?_|refine s_8 ?_);done))) ?_
            exact H
          · refine xr_op rfl rfl (xv_move rfl ?_)
            refine xr_op rfl rfl (xv_extract rfl rfl ?_)
            refine xr_op rfl rfl (xv_extract rfl rfl ?_)
            refine xr_op rfl rfl (xv_assign rfl ?_)
            refine xr_op rfl rfl (xv_assign rfl ?_)
            refine xr_end rfl ?_
            refine th_n ?_
            refine xc_seq ?_
            refine xc_seq (xc_region ?_)
            refine xr_op rfl rfl (xv_move rfl ?_)
            refine xr_op rfl rfl (xv_neqF rfl rfl rfl ?_)
            refine xr_end rfl ?_
            refine th_n ?_
            refine xc_false rfl ?_
            refine xc_skip ?_
            refine th_n ?_
            refine xc_seq (xc_region ?_)
            refine xr_op rfl rfl (xv_move rfl ?_)
            refine xr_op rfl rfl (xv_convI (m := (cut : Int)) Tryd.underlying5 Tryd.underlying3 rfl (wrap_i64 (by omega) (by omega)) ?_)
            refine xr_op rfl rfl (xv_move rfl ?_)
            refine xr_op rfl rfl (xv_len sl33 rfl ?_)
            refine xr_op rfl rfl (xv_addN (a := m.length) (m := 1) sm64 rfl rfl (by omega) ?_)
            refine xr_op rfl rfl (xv_remN (a := cut) (m := m.length + 1) rfl rfl (by omega) ?_)
            refine xr_op rfl rfl (xv_assign rfl ?_)
            refine xr_end rfl ?_
            refine th_n ?_
            refine xc_seq (xc_region ?_)
            obtain ⟨q, hq⟩ : ∃ q, cut % (m.length + 1) = q := ⟨_, rfl⟩
            rw [hq]
            have hqm : q ≤ m.length := by have := Nat.mod_lt cut (show 0 < m.length + 1 by omega); omega
            have hmz := mtr_size hm0
            have hma := mtr_app m q
            have ltq : (m.take q).length = q := by rw [List.length_take]; omega
            have ldq : (m.drop q).length = m.length - q := List.length_drop
            refine xr_op rfl rfl (xv_move rfl ?_)
            refine xr_op rfl rfl (xv_move rfl ?_)
            refine xr_op rfl rfl (xv_sliceToN (m := q) sl33 ty72 rfl rfl (by omega) (by omega) (by omega) ?_)
            refine xr_op rfl rfl (xv_calls rfl hb13 (WriteMetersN_c (l := m.take q) ltq.symm (hm.take _) (by rw [List.length_take]; omega) (fun x9 hx9 => (by have := hm12 x9 (List.mem_of_mem_take hx9); omega)) (fun h9 x9 hx9 => itoaN hp (by have := (errL_is h9).2.1 x9 hx9; exact this.1.1) (by have := (errL_is h9).2.1 x9 hx9; have := this.1.2; omega)) (fun h9 => absurd (errL_take hm0 _) h9) (fun hm1 => up_ret ?_)))
            refine xr_op rfl rfl (xv_move rfl ?_)
            refine xr_op rfl rfl (xv_extract rfl rfl ?_)
            refine xr_op rfl rfl (xv_extract rfl rfl ?_)
            refine xr_op rfl rfl (xv_assign rfl ?_)
            refine xr_op rfl rfl (xv_assign rfl ?_)
            refine xr_end rfl ?_
            refine th_n ?_
            refine xc_seq (xc_region ?_)
            refine xr_op rfl rfl (xv_move rfl ?_)
            refine xr_op rfl rfl (xv_move rfl ?_)
            refine xr_op rfl rfl (xv_sliceFrom (m := q) sl33 ty72 rfl rfl rfl (by omega) (by omega) (by omega) ?_)
            refine xr_op rfl rfl (xv_calls rfl hb13 (WriteMetersN_c (l := m.drop q) ldq.symm (hm.dropA hmc q) (by rw [List.length_drop]; omega) (fun x9 hx9 => (by have := hm12 x9 (List.mem_of_mem_drop hx9); omega)) (fun h9 x9 hx9 => itoaN hp (by have := (errL_is h9).2.1 x9 hx9; exact this.1.1) (by have := (errL_is h9).2.1 x9 hx9; have := this.1.2; omega)) (fun h9 => absurd (errL_drop hm0 _) h9) (fun hm2 => up_ret ?_)))
            refine xr_op rfl rfl (xv_move rfl ?_)
            refine xr_op rfl rfl (xv_extract rfl rfl ?_)
            refine xr_op rfl rfl (xv_extract rfl rfl ?_)
            refine xr_op rfl rfl (xv_assign rfl ?_)
            refine xr_op rfl rfl (xv_assign rfl ?_)
            refine xr_end rfl ?_
            refine th_n ?_
            refine xc_seq (xc_region ?_)
            have hl9 : (mtrS (m.take q)).length + (mtrS (m.drop q)).length ≤ 100000 := by rw [← List.length_append, ← hma]; exact hmz
            refine xr_op rfl rfl (xv_move rfl ?_)
            refine xr_op rfl rfl (xv_eqlT rfl rfl rfl ?_)
            refine xr_op rfl rfl (xv_move rfl ?_)
            refine xr_gd rfl rfl rfl (xv_move rfl ?_)
            refine xr_gd rfl rfl rfl (xv_eqlT rfl rfl rfl ?_)
            refine xr_op rfl rfl (xv_pick rfl rfl ?_)
            refine xr_op rfl rfl (xv_move rfl ?_)
            refine xr_gd rfl rfl rfl (xv_move rfl ?_)
            refine xr_gd rfl rfl rfl (xv_move rfl ?_)
            refine xr_gd rfl rfl rfl (xv_move rfl ?_)
            refine xr_gd rfl rfl rfl (xv_addS rfl rfl (by omega) ?_)
            refine xr_gd rfl rfl rfl (xv_eqS rfl rfl (decide_eq_true hma) ?_)
            refine xr_op rfl rfl (xv_pick rfl rfl ?_)
            refine xr_op rfl rfl (xv_move rfl ?_)
            refine xr_gd rfl rfl rfl (xv_calls rfl hb5 (alive_c (up_ret ?_)))
            refine xr_op rfl rfl (xv_pick rfl rfl ?_)
            refine xr_op rfl rfl (xv_assign rfl ?_)
            refine xr_end rfl ?_
            refine th_n ?_
            refine xc_ret ?_
            refine body_ret (h' := h) rfl (ro_tmp rfl ro_nil) (by (first|((repeat first|exact s_0|exact s_1|exact s_3|refine s_4 ?_|refine s_5 ?_|refine s_6 ?_|refine s_7 ?_);done)|((repeat first|exact s_0|exact s_1|exact s_3|refine s_4 ?_|refine s_5 ?_|refine s_6 ?_|refine s_8 ?_);done))) ?_
            exact H

end Go.Proofs.YtlpkiolopelpfaaDoor
