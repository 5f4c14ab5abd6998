/-
  Walks.
-/
import Derived.Test.YtlailecnbdlknaaTy
import Derived.Test.YtlailecnbdlknaaD
import Derived.Test.YtlailecnbdlknaaHF
namespace Go.Proofs.Ytlailecnbdlknaa
open Go Go.H
set_option maxRecDepth 100000
set_option maxHeartbeats 2000000
set_option linter.all false
theorem within_c (n l u : Int) {h : Hp} {R : Ending → Hp → Prop} (H1 : l ≤ n → n ≤ u → R (.returned (.bool true)) h) (H2 : ¬ (l ≤ n ∧ n ≤ u) → R (.returned (.bool false)) h) :
    ACalls Try.prog 41 ⟨[.int .i64 n, .int .i64 l, .int .i64 u]⟩ h R := by
  refine calls_of_xc (N := 15) Try.func41 rfl (by rfl) ?_
  refine xc_seq (xc_region ?_)
  refine xr_op rfl rfl (xv_assign rfl ?_)
  refine xr_end rfl ?_
  refine th_n ?_
  refine xc_seq (xc_region ?_)
  refine xr_op rfl rfl (xv_move rfl ?_)
  refine xr_op rfl rfl (xv_move rfl ?_)
  refine xr_op rfl rfl (xv_leq2 rfl rfl (fun q1 => ?_) (fun q1 => ?_))
  · refine xr_op rfl rfl (xv_move rfl ?_)
    refine xr_gd rfl rfl rfl (xv_move rfl ?_)
    refine xr_gd rfl rfl rfl (xv_move rfl ?_)
    refine xr_gd rfl rfl rfl (xv_leq2 rfl rfl (fun q2 => ?_) (fun q2 => ?_))
    · refine xr_op rfl rfl (xv_pick rfl rfl ?_)
      refine xr_op rfl rfl (xv_assign rfl ?_)
      refine xr_end rfl ?_
      refine th_n ?_
      refine xc_ret ?_
      refine body_ret (h' := h) rfl (ro_tmp rfl ro_nil) (by (first|((repeat first|exact s_0|exact s_1|exact s_3|refine s_4 ?_|refine s_5 ?_|refine s_6 ?_|refine s_7 ?_);done)|((repeat first|exact s_0|exact s_1|exact s_3|refine s_4 ?_|refine s_5 ?_|refine s_6 ?_|refine s_8 ?_);done))) ?_
      first | exact H1 (by omega) (by omega) | exact H2 (by omega)
    · refine xr_op rfl rfl (xv_pick rfl rfl ?_)
      refine xr_op rfl rfl (xv_assign rfl ?_)
      refine xr_end rfl ?_
      refine th_n ?_
      refine xc_ret ?_
      refine body_ret (h' := h) rfl (ro_tmp rfl ro_nil) (by (first|((repeat first|exact s_0|exact s_1|exact s_3|refine s_4 ?_|refine s_5 ?_|refine s_6 ?_|refine s_7 ?_);done)|((repeat first|exact s_0|exact s_1|exact s_3|refine s_4 ?_|refine s_5 ?_|refine s_6 ?_|refine s_8 ?_);done))) ?_
      first | exact H1 (by omega) (by omega) | exact H2 (by omega)
  · refine xr_op rfl rfl (xv_move rfl ?_)
    refine xr_no rfl rfl rfl rfl ?_
    refine xr_no rfl rfl rfl rfl ?_
    refine xr_no rfl rfl rfl rfl ?_
    refine xr_op rfl rfl (xv_pick rfl rfl ?_)
    refine xr_op rfl rfl (xv_assign rfl ?_)
    refine xr_end rfl ?_
    refine th_n ?_
    refine xc_ret ?_
    refine body_ret (h' := h) rfl (ro_tmp rfl ro_nil) (by (first|((repeat first|exact s_0|exact s_1|exact s_3|refine s_4 ?_|refine s_5 ?_|refine s_6 ?_|refine s_7 ?_);done)|((repeat first|exact s_0|exact s_1|exact s_3|refine s_4 ?_|refine s_5 ?_|refine s_6 ?_|refine s_8 ?_);done))) ?_
    first | exact H1 (by omega) (by omega) | exact H2 (by omega)

theorem in_c (n l u : Int) {h : Hp} {R : Ending → Hp → Prop} (H1 : l ≤ n → n ≤ u → R (.returned (.bool true)) h) (H2 : ¬ (l ≤ n ∧ n ≤ u) → R (.returned (.bool false)) h) :
    ACalls Try.prog 32 ⟨[.int .i64 n, .int .i64 l, .int .i64 u]⟩ h R := by
  refine calls_of_xc (N := 15) Try.func32 rfl (by rfl) ?_
  refine xc_seq (xc_region ?_)
  refine xr_op rfl rfl (xv_assign rfl ?_)
  refine xr_end rfl ?_
  refine th_n ?_
  refine xc_seq (xc_region ?_)
  refine xr_op rfl rfl (xv_move rfl ?_)
  refine xr_op rfl rfl (xv_move rfl ?_)
  refine xr_op rfl rfl (xv_leq2 rfl rfl (fun q1 => ?_) (fun q1 => ?_))
  · refine xr_op rfl rfl (xv_move rfl ?_)
    refine xr_gd rfl rfl rfl (xv_move rfl ?_)
    refine xr_gd rfl rfl rfl (xv_move rfl ?_)
    refine xr_gd rfl rfl rfl (xv_leq2 rfl rfl (fun q2 => ?_) (fun q2 => ?_))
    · refine xr_op rfl rfl (xv_pick rfl rfl ?_)
      refine xr_op rfl rfl (xv_assign rfl ?_)
      refine xr_end rfl ?_
      refine th_n ?_
      refine xc_ret ?_
      refine body_ret (h' := h) rfl (ro_tmp rfl ro_nil) (by (first|((repeat first|exact s_0|exact s_1|exact s_3|refine s_4 ?_|refine s_5 ?_|refine s_6 ?_|refine s_7 ?_);done)|((repeat first|exact s_0|exact s_1|exact s_3|refine s_4 ?_|refine s_5 ?_|refine s_6 ?_|refine s_8 ?_);done))) ?_
      first | exact H1 (by omega) (by omega) | exact H2 (by omega)
    · refine xr_op rfl rfl (xv_pick rfl rfl ?_)
      refine xr_op rfl rfl (xv_assign rfl ?_)
      refine xr_end rfl ?_
      refine th_n ?_
      refine xc_ret ?_
      refine body_ret (h' := h) rfl (ro_tmp rfl ro_nil) (by (first|((repeat first|exact s_0|exact s_1|exact s_3|refine s_4 ?_|refine s_5 ?_|refine s_6 ?_|refine s_7 ?_);done)|((repeat first|exact s_0|exact s_1|exact s_3|refine s_4 ?_|refine s_5 ?_|refine s_6 ?_|refine s_8 ?_);done))) ?_
      first | exact H1 (by omega) (by omega) | exact H2 (by omega)
  · refine xr_op rfl rfl (xv_move rfl ?_)
    refine xr_no rfl rfl rfl rfl ?_
    refine xr_no rfl rfl rfl rfl ?_
    refine xr_no rfl rfl rfl rfl ?_
    refine xr_op rfl rfl (xv_pick rfl rfl ?_)
    refine xr_op rfl rfl (xv_assign rfl ?_)
    refine xr_end rfl ?_
    refine th_n ?_
    refine xc_ret ?_
    refine body_ret (h' := h) rfl (ro_tmp rfl ro_nil) (by (first|((repeat first|exact s_0|exact s_1|exact s_3|refine s_4 ?_|refine s_5 ?_|refine s_6 ?_|refine s_7 ?_);done)|((repeat first|exact s_0|exact s_1|exact s_3|refine s_4 ?_|refine s_5 ?_|refine s_6 ?_|refine s_8 ?_);done))) ?_
    first | exact H1 (by omega) (by omega) | exact H2 (by omega)

theorem isTons_c (n : Int) {h : Hp} {R : Ending → Hp → Prop} (H1 : 0 ≤ n → n ≤ 1048576 → R (.returned (.bool true)) h) (H2 : ¬ (0 ≤ n ∧ n ≤ 1048576) → R (.returned (.bool false)) h) :
    ACalls Try.prog 43 ⟨[.int .i64 n]⟩ h R := by
  refine calls_of_xc (N := 5) Try.func43 rfl (by rfl) ?_
  refine xc_seq (xc_region ?_)
  refine xr_op rfl rfl (xv_assign rfl ?_)
  refine xr_end rfl ?_
  refine th_n ?_
  refine xc_seq (xc_region ?_)
  refine xr_op rfl rfl (xv_move rfl ?_)
  refine xr_op rfl rfl (xv_calls rfl hb41 (within_c _ _ _ (fun hl1 hu2 => up_ret ?_) (fun hn3 => up_ret ?_)))
  · refine xr_op rfl rfl (xv_assign rfl ?_)
    refine xr_end rfl ?_
    refine th_n ?_
    refine xc_ret ?_
    refine body_ret (h' := h) rfl (ro_tmp rfl ro_nil) (by (first|((repeat first|exact s_0|exact s_1|exact s_3|refine s_4 ?_|refine s_5 ?_|refine s_6 ?_|refine s_7 ?_);done)|((repeat first|exact s_0|exact s_1|exact s_3|refine s_4 ?_|refine s_5 ?_|refine s_6 ?_|refine s_8 ?_);done))) ?_
    first | exact H1 (by omega) (by omega) | exact H2 (by omega)
  · refine xr_op rfl rfl (xv_assign rfl ?_)
    refine xr_end rfl ?_
    refine th_n ?_
    refine xc_ret ?_
    refine body_ret (h' := h) rfl (ro_tmp rfl ro_nil) (by (first|((repeat first|exact s_0|exact s_1|exact s_3|refine s_4 ?_|refine s_5 ?_|refine s_6 ?_|refine s_7 ?_);done)|((repeat first|exact s_0|exact s_1|exact s_3|refine s_4 ?_|refine s_5 ?_|refine s_6 ?_|refine s_8 ?_);done))) ?_
    first | exact H1 (by omega) (by omega) | exact H2 (by omega)

theorem isSpan_c (s : Span) (m : Int) {h : Hp} {R : Ending → Hp → Prop} (H1 : spanOk s m → R (.returned (.bool true)) h) (H2 : ¬ spanOk s m → R (.returned (.bool false)) h) :
    ACalls Try.prog 36 ⟨[.agg ⟨eSpan s⟩, I m]⟩ h R := by
  refine calls_of_xc (N := 16) Try.func36 rfl (by rfl) ?_
  refine xc_seq (xc_region ?_)
  refine xr_op rfl rfl (xv_box rfl (fun b1 hb1 => ?_))
  refine xr_op rfl rfl (xv_assign rfl ?_)
  refine xr_end rfl ?_
  refine th_n ?_
  refine xc_seq (xc_region ?_)
  refine xr_op rfl rfl (xv_faddr fl41_1 rfl ?_)
  refine xr_op rfl rfl (xv_load1 ty3 rfl rfl (by (first|((repeat first|exact z_0|assumption|refine z_1 ?_|refine z_r ?_);done)|((repeat refine z_1 ?_);refine z_l ?_;(repeat first|exact z_0|assumption|refine z_1 ?_|refine z_r ?_);done)|((repeat refine z_1 ?_);refine z_r ?_;(repeat refine z_1 ?_);refine z_l ?_;(repeat first|exact z_0|assumption|refine z_1 ?_|refine z_r ?_);done)|((repeat first|exact z_0|assumption|refine z_1 ?_|refine z_l ?_);done))) (by rfl) ?_)
  refine xr_op rfl rfl (xv_move rfl ?_)
  refine xr_op rfl rfl (xv_calls rfl hb41 (within_c _ _ _ (fun hl2 hu3 => up_ret ?_) (fun hn4 => up_ret ?_)))
  · refine xr_op rfl rfl (xv_move rfl ?_)
    refine xr_gd rfl rfl rfl (xv_faddr fl41_0 rfl ?_)
    refine xr_gd rfl rfl rfl (xv_load1 ty3 rfl rfl (by (first|((repeat first|exact z_0|assumption|refine z_1 ?_|refine z_r ?_);done)|((repeat refine z_1 ?_);refine z_l ?_;(repeat first|exact z_0|assumption|refine z_1 ?_|refine z_r ?_);done)|((repeat refine z_1 ?_);refine z_r ?_;(repeat refine z_1 ?_);refine z_l ?_;(repeat first|exact z_0|assumption|refine z_1 ?_|refine z_r ?_);done)|((repeat first|exact z_0|assumption|refine z_1 ?_|refine z_l ?_);done))) (by rfl) ?_)
    refine xr_gd rfl rfl rfl (xv_faddr fl41_1 rfl ?_)
    refine xr_gd rfl rfl rfl (xv_load1 ty3 rfl rfl (by (first|((repeat first|exact z_0|assumption|refine z_1 ?_|refine z_r ?_);done)|((repeat refine z_1 ?_);refine z_l ?_;(repeat first|exact z_0|assumption|refine z_1 ?_|refine z_r ?_);done)|((repeat refine z_1 ?_);refine z_r ?_;(repeat refine z_1 ?_);refine z_l ?_;(repeat first|exact z_0|assumption|refine z_1 ?_|refine z_r ?_);done)|((repeat first|exact z_0|assumption|refine z_1 ?_|refine z_l ?_);done))) (by rfl) ?_)
    refine xr_gd rfl rfl rfl (xv_calls rfl hb41 (within_c _ _ _ (fun hl5 hu6 => up_ret ?_) (fun hn7 => up_ret ?_)))
    · refine xr_op rfl rfl (xv_pick rfl rfl ?_)
      refine xr_op rfl rfl (xv_assign rfl ?_)
      refine xr_end rfl ?_
      refine th_n ?_
      refine xc_ret ?_
      refine body_ret (h' := h) rfl (ro_tmp rfl ro_nil) (by (first|((repeat first|exact s_0|exact s_1|exact s_3|refine s_4 ?_|refine s_5 ?_|refine s_6 ?_|refine s_7 ?_);done)|((repeat first|exact s_0|exact s_1|exact s_3|refine s_4 ?_|refine s_5 ?_|refine s_6 ?_|refine s_8 ?_);done))) ?_
      first | exact H1 (by unfold spanOk; omega) | exact H2 (by unfold spanOk; omega)
    · refine xr_op rfl rfl (xv_pick rfl rfl ?_)
      refine xr_op rfl rfl (xv_assign rfl ?_)
      refine xr_end rfl ?_
      refine th_n ?_
      refine xc_ret ?_
      refine body_ret (h' := h) rfl (ro_tmp rfl ro_nil) (by (first|((repeat first|exact s_0|exact s_1|exact s_3|refine s_4 ?_|refine s_5 ?_|refine s_6 ?_|refine s_7 ?_);done)|((repeat first|exact s_0|exact s_1|exact s_3|refine s_4 ?_|refine s_5 ?_|refine s_6 ?_|refine s_8 ?_);done))) ?_
      first | exact H1 (by unfold spanOk; omega) | exact H2 (by unfold spanOk; omega)
  · refine xr_op rfl rfl (xv_move rfl ?_)
    refine xr_no rfl rfl rfl rfl ?_
    refine xr_no rfl rfl rfl rfl ?_
    refine xr_no rfl rfl rfl rfl ?_
    refine xr_no rfl rfl rfl rfl ?_
    refine xr_no rfl rfl rfl rfl ?_
    refine xr_op rfl rfl (xv_pick rfl rfl ?_)
    refine xr_op rfl rfl (xv_assign rfl ?_)
    refine xr_end rfl ?_
    refine th_n ?_
    refine xc_ret ?_
    refine body_ret (h' := h) rfl (ro_tmp rfl ro_nil) (by (first|((repeat first|exact s_0|exact s_1|exact s_3|refine s_4 ?_|refine s_5 ?_|refine s_6 ?_|refine s_7 ?_);done)|((repeat first|exact s_0|exact s_1|exact s_3|refine s_4 ?_|refine s_5 ?_|refine s_6 ?_|refine s_8 ?_);done))) ?_
    first | exact H1 (by unfold spanOk; omega) | exact H2 (by unfold spanOk; omega)

theorem refspan_c (s : Span) (m : Int) {h : Hp} {R : Ending → Hp → Prop} (H1 : spanOk s m → R (.returned (.bool true)) h) (H2 : ¬ spanOk s m → R (.returned (.bool false)) h) :
    ACalls Try.prog 39 ⟨[.agg ⟨eSpan s⟩, I m]⟩ h R := by
  refine calls_of_xc (N := 21) Try.func39 rfl (by rfl) ?_
  refine xc_seq (xc_region ?_)
  refine xr_op rfl rfl (xv_box rfl (fun b1 hb1 => ?_))
  refine xr_op rfl rfl (xv_assign rfl ?_)
  refine xr_end rfl ?_
  refine th_n ?_
  refine xc_seq (xc_region ?_)
  refine xr_op rfl rfl (xv_faddr fl41_0 rfl ?_)
  refine xr_op rfl rfl (xv_load1 ty3 rfl rfl (by (first|((repeat first|exact z_0|assumption|refine z_1 ?_|refine z_r ?_);done)|((repeat refine z_1 ?_);refine z_l ?_;(repeat first|exact z_0|assumption|refine z_1 ?_|refine z_r ?_);done)|((repeat refine z_1 ?_);refine z_r ?_;(repeat refine z_1 ?_);refine z_l ?_;(repeat first|exact z_0|assumption|refine z_1 ?_|refine z_r ?_);done)|((repeat first|exact z_0|assumption|refine z_1 ?_|refine z_l ?_);done))) (by rfl) ?_)
  refine xr_op rfl rfl (xv_geq2 rfl rfl (fun q2 => ?_) (fun q2 => ?_))
  · refine xr_op rfl rfl (xv_move rfl ?_)
    refine xr_gd rfl rfl rfl (xv_faddr fl41_0 rfl ?_)
    refine xr_gd rfl rfl rfl (xv_load1 ty3 rfl rfl (by (first|((repeat first|exact z_0|assumption|refine z_1 ?_|refine z_r ?_);done)|((repeat refine z_1 ?_);refine z_l ?_;(repeat first|exact z_0|assumption|refine z_1 ?_|refine z_r ?_);done)|((repeat refine z_1 ?_);refine z_r ?_;(repeat refine z_1 ?_);refine z_l ?_;(repeat first|exact z_0|assumption|refine z_1 ?_|refine z_r ?_);done)|((repeat first|exact z_0|assumption|refine z_1 ?_|refine z_l ?_);done))) (by rfl) ?_)
    refine xr_gd rfl rfl rfl (xv_faddr fl41_1 rfl ?_)
    refine xr_gd rfl rfl rfl (xv_load1 ty3 rfl rfl (by (first|((repeat first|exact z_0|assumption|refine z_1 ?_|refine z_r ?_);done)|((repeat refine z_1 ?_);refine z_l ?_;(repeat first|exact z_0|assumption|refine z_1 ?_|refine z_r ?_);done)|((repeat refine z_1 ?_);refine z_r ?_;(repeat refine z_1 ?_);refine z_l ?_;(repeat first|exact z_0|assumption|refine z_1 ?_|refine z_r ?_);done)|((repeat first|exact z_0|assumption|refine z_1 ?_|refine z_l ?_);done))) (by rfl) ?_)
    refine xr_gd rfl rfl rfl (xv_leq2 rfl rfl (fun q3 => ?_) (fun q3 => ?_))
    · refine xr_op rfl rfl (xv_pick rfl rfl ?_)
      refine xr_op rfl rfl (xv_move rfl ?_)
      refine xr_gd rfl rfl rfl (xv_faddr fl41_1 rfl ?_)
      refine xr_gd rfl rfl rfl (xv_load1 ty3 rfl rfl (by (first|((repeat first|exact z_0|assumption|refine z_1 ?_|refine z_r ?_);done)|((repeat refine z_1 ?_);refine z_l ?_;(repeat first|exact z_0|assumption|refine z_1 ?_|refine z_r ?_);done)|((repeat refine z_1 ?_);refine z_r ?_;(repeat refine z_1 ?_);refine z_l ?_;(repeat first|exact z_0|assumption|refine z_1 ?_|refine z_r ?_);done)|((repeat first|exact z_0|assumption|refine z_1 ?_|refine z_l ?_);done))) (by rfl) ?_)
      refine xr_gd rfl rfl rfl (xv_move rfl ?_)
      refine xr_gd rfl rfl rfl (xv_leq2 rfl rfl (fun q4 => ?_) (fun q4 => ?_))
      · refine xr_op rfl rfl (xv_pick rfl rfl ?_)
        refine xr_op rfl rfl (xv_assign rfl ?_)
        refine xr_end rfl ?_
        refine th_n ?_
        refine xc_ret ?_
        refine body_ret (h' := h) rfl (ro_tmp rfl ro_nil) (by (first|((repeat first|exact s_0|exact s_1|exact s_3|refine s_4 ?_|refine s_5 ?_|refine s_6 ?_|refine s_7 ?_);done)|((repeat first|exact s_0|exact s_1|exact s_3|refine s_4 ?_|refine s_5 ?_|refine s_6 ?_|refine s_8 ?_);done))) ?_
        first | exact H1 (by unfold spanOk; omega) | exact H2 (by unfold spanOk; omega)
      · refine xr_op rfl rfl (xv_pick rfl rfl ?_)
        refine xr_op rfl rfl (xv_assign rfl ?_)
        refine xr_end rfl ?_
        refine th_n ?_
        refine xc_ret ?_
        refine body_ret (h' := h) rfl (ro_tmp rfl ro_nil) (by (first|((repeat first|exact s_0|exact s_1|exact s_3|refine s_4 ?_|refine s_5 ?_|refine s_6 ?_|refine s_7 ?_);done)|((repeat first|exact s_0|exact s_1|exact s_3|refine s_4 ?_|refine s_5 ?_|refine s_6 ?_|refine s_8 ?_);done))) ?_
        first | exact H1 (by unfold spanOk; omega) | exact H2 (by unfold spanOk; omega)
    · refine xr_op rfl rfl (xv_pick rfl rfl ?_)
      refine xr_op rfl rfl (xv_move rfl ?_)
      refine xr_no rfl rfl rfl rfl ?_
      refine xr_no rfl rfl rfl rfl ?_
      refine xr_no rfl rfl rfl rfl ?_
      refine xr_no rfl rfl rfl rfl ?_
      refine xr_op rfl rfl (xv_pick rfl rfl ?_)
      refine xr_op rfl rfl (xv_assign rfl ?_)
      refine xr_end rfl ?_
      refine th_n ?_
      refine xc_ret ?_
      refine body_ret (h' := h) rfl (ro_tmp rfl ro_nil) (by (first|((repeat first|exact s_0|exact s_1|exact s_3|refine s_4 ?_|refine s_5 ?_|refine s_6 ?_|refine s_7 ?_);done)|((repeat first|exact s_0|exact s_1|exact s_3|refine s_4 ?_|refine s_5 ?_|refine s_6 ?_|refine s_8 ?_);done))) ?_
      first | exact H1 (by unfold spanOk; omega) | exact H2 (by unfold spanOk; omega)
  · refine xr_op rfl rfl (xv_move rfl ?_)
    refine xr_no rfl rfl rfl rfl ?_
    refine xr_no rfl rfl rfl rfl ?_
    refine xr_no rfl rfl rfl rfl ?_
    refine xr_no rfl rfl rfl rfl ?_
    refine xr_no rfl rfl rfl rfl ?_
    refine xr_op rfl rfl (xv_pick rfl rfl ?_)
    refine xr_op rfl rfl (xv_move rfl ?_)
    refine xr_no rfl rfl rfl rfl ?_
    refine xr_no rfl rfl rfl rfl ?_
    refine xr_no rfl rfl rfl rfl ?_
    refine xr_no rfl rfl rfl rfl ?_
    refine xr_op rfl rfl (xv_pick rfl rfl ?_)
    refine xr_op rfl rfl (xv_assign rfl ?_)
    refine xr_end rfl ?_
    refine th_n ?_
    refine xc_ret ?_
    refine body_ret (h' := h) rfl (ro_tmp rfl ro_nil) (by (first|((repeat first|exact s_0|exact s_1|exact s_3|refine s_4 ?_|refine s_5 ?_|refine s_6 ?_|refine s_7 ?_);done)|((repeat first|exact s_0|exact s_1|exact s_3|refine s_4 ?_|refine s_5 ?_|refine s_6 ?_|refine s_8 ?_);done))) ?_
    first | exact H1 (by unfold spanOk; omega) | exact H2 (by unfold spanOk; omega)

theorem span_c (a b : Int) {h : Hp} {R : Ending → Hp → Prop} (H : R (.returned (.agg ⟨[I a, I b]⟩)) h) :
    ACalls Try.prog 23 ⟨[I a, I b]⟩ h R := by
  refine calls_of_xc (N := 8) Try.func23 rfl (by rfl) ?_
  refine xc_seq (xc_region ?_)
  refine xr_op rfl rfl (xv_alloc ty41 (fun b1 hb1 => ?_))
  refine xr_end rfl ?_
  refine th_n ?_
  refine xc_seq (xc_region ?_)
  refine xr_op rfl rfl (xv_move rfl ?_)
  refine xr_op rfl rfl (xv_move rfl ?_)
  refine xr_op rfl rfl (xv_build bt41 rfl (by ((try apply evl_some rfl);(repeat (first|exact (rfl : _ = [])|apply evl_cons rfl (by (first|exact v_1|exact v_2|exact v_3|exact v_4|exact v_5|exact v_6|exact v_7|exact v_8|exact v_9|exact rfl))|exact rfl)))) ?_)
  refine xr_op rfl rfl (xv_s ty41 rfl rfl (by (first|(apply u_3;(repeat first|exact u_0|assumption|apply u_1|apply u_2);done)|((repeat first|exact u_0|assumption|apply u_1|apply u_2);done)|(apply u_3;apply u_3;(repeat first|exact u_0|assumption|apply u_1|apply u_2);done)|((repeat first|exact u_0|assumption|apply u_3|apply u_1);done))) (by ((try apply evl_some rfl);(repeat (first|exact (rfl : _ = [])|apply evl_cons rfl (by (first|exact v_1|exact v_2|exact v_3|exact v_4|exact v_5|exact v_6|exact v_7|exact v_8|exact v_9|exact rfl))|exact rfl)))) (by rfl) (by rfl) (by rfl) (by ((try apply evl_some rfl);(repeat (first|exact (rfl : _ = [])|apply evl_cons rfl (by (first|exact v_1|exact v_2|exact v_3|exact v_4|exact v_5|exact v_6|exact v_7|exact v_8|exact v_9|exact rfl))|exact rfl)))) ?_)
  refine xr_end rfl ?_
  refine th_n ?_
  refine xc_ret ?_
  refine body_ret (h' := h) rfl (ro_cellA ty41 rfl rfl (by (first|((repeat first|exact z_0|assumption|refine z_1 ?_|refine z_r ?_);done)|((repeat refine z_1 ?_);refine z_l ?_;(repeat first|exact z_0|assumption|refine z_1 ?_|refine z_r ?_);done)|((repeat refine z_1 ?_);refine z_r ?_;(repeat refine z_1 ?_);refine z_l ?_;(repeat first|exact z_0|assumption|refine z_1 ?_|refine z_r ?_);done)|((repeat first|exact z_0|assumption|refine z_1 ?_|refine z_l ?_);done))) (by rfl) (by rfl) ro_nil) (by (first|((repeat first|exact s_0|exact s_1|exact s_3|refine s_4 ?_|refine s_5 ?_|refine s_6 ?_|refine s_7 ?_);done)|((repeat first|exact s_0|exact s_1|exact s_3|refine s_4 ?_|refine s_5 ?_|refine s_6 ?_|refine s_8 ?_);done))) ?_
  exact H

theorem stock_c (t : Int) {h : Hp} {R : Ending → Hp → Prop} (H : R (.returned (.bool (badTons t))) h) :
    ACalls Try.prog 44 ⟨[I t]⟩ h R := by
  refine calls_of_xc (N := 6) Try.func44 rfl (by rfl) ?_
  refine xc_seq (xc_region ?_)
  refine xr_op rfl rfl (xv_assign rfl ?_)
  refine xr_end rfl ?_
  refine th_n ?_
  refine xc_seq (xc_region ?_)
  refine xr_op rfl rfl (xv_move rfl ?_)
  refine xr_op rfl rfl (xv_calls rfl hb43 (isTons_c _ (fun hl1 hu2 => up_ret ?_) (fun hn3 => up_ret ?_)))
  · refine xr_op rfl rfl (xv_not rfl ?_)
    refine xr_op rfl rfl (xv_assign rfl ?_)
    refine xr_end rfl ?_
    refine th_n ?_
    refine xc_ret ?_
    refine body_ret (h' := h) rfl (ro_tmp rfl ro_nil) (by (first|((repeat first|exact s_0|exact s_1|exact s_3|refine s_4 ?_|refine s_5 ?_|refine s_6 ?_|refine s_7 ?_);done)|((repeat first|exact s_0|exact s_1|exact s_3|refine s_4 ?_|refine s_5 ?_|refine s_6 ?_|refine s_8 ?_);done))) ?_
    exact Eq.mp (congrArg (fun b => R (.returned (.bool b)) h) (by simp [badTons]; omega)) H
  · refine xr_op rfl rfl (xv_not rfl ?_)
    refine xr_op rfl rfl (xv_assign rfl ?_)
    refine xr_end rfl ?_
    refine th_n ?_
    refine xc_ret ?_
    refine body_ret (h' := h) rfl (ro_tmp rfl ro_nil) (by (first|((repeat first|exact s_0|exact s_1|exact s_3|refine s_4 ?_|refine s_5 ?_|refine s_6 ?_|refine s_7 ?_);done)|((repeat first|exact s_0|exact s_1|exact s_3|refine s_4 ?_|refine s_5 ?_|refine s_6 ?_|refine s_8 ?_);done))) ?_
    exact Eq.mp (congrArg (fun b => R (.returned (.bool b)) h) (by simp [badTons]; omega)) H

theorem indexInt_c {a : Option Addr} {c : Nat} {xs : List Int} {f : Value} {p : Int → Bool} {h : Hp} {R : Ending → Hp → Prop} (hs : SlV h 1 eI a xs) (hlen : xs.length ≤ 4611686018427387904)
    (hf : ∀ x ∈ xs, ∀ R', R' (.returned (.bool (p x))) h → AFn Try.prog f [I x] h R')
    (H1 : ∀ (k : Nat) (x : Int), xs[k]? = some x → p x = true → R (.returned (I k)) h) (H2 : (∀ (k : Nat) (x : Int), xs[k]? = some x → p x = false) → R (.returned (I (-1))) h) :
    ACalls Try.prog 56 ⟨[.slice a xs.length c, f]⟩ h R := by
  refine calls_of_xc (N := 19) Try.func56 rfl (by rfl) ?_
  refine xc_seq (xc_region ?_)
  refine xr_op rfl rfl (xv_assign rfl ?_)
  refine xr_end rfl ?_
  refine th_n ?_
  refine xc_seq ?_
  refine xc_seq (xc_region ?_)
  refine xr_op rfl rfl (xv_move rfl ?_)
  refine xr_op rfl rfl (xv_len sl22 rfl ?_)
  refine xr_op rfl rfl (xv_move rfl ?_)
  refine xr_end rfl ?_
  refine th_n ?_
  refine xc_block ?_
  refine xc_loop (σ := Nat) (fun k => k ≤ xs.length ∧ ∀ j x, j < k → xs[j]? = some x → p x = false) (fun k => ((((emp.put (some 0) (.slice a xs.length c)).put (some 1) (f)).put (some 7) (I xs.length)).put (some 8) (I k))) (fun k => h) (fun k => xs.length - k) 0 ⟨Nat.zero_le _, fun _ _ h0 => absurd h0 (Nat.not_lt_zero _)⟩ (le_put (le_put (le_put (le_put (le_emp _) rfl) rfl) rfl) rfl) (by (first|((repeat first|exact s_0|exact s_1|exact s_3|refine s_4 ?_|refine s_5 ?_|refine s_6 ?_|refine s_7 ?_);done)|((repeat first|exact s_0|exact s_1|exact s_3|refine s_4 ?_|refine s_5 ?_|refine s_6 ?_|refine s_8 ?_);done))) ?_
  rintro k ⟨hk, hall⟩
  refine xc_seq (xc_region ?_)
  refine xr_op rfl rfl (xv_lss2 rfl rfl (fun q1 => ?_) (fun q1 => ?_))
  · refine xr_end rfl ?_
    refine th_n ?_
    refine xc_seq ?_
    refine xc_true rfl ?_
    refine xc_skip ?_
    refine th_n ?_
    refine xc_seq ?_
    refine xc_block ?_
    refine xc_seq (xc_region ?_)
    refine xr_op rfl rfl (xv_move rfl ?_)
    refine xr_op rfl rfl (xv_assign rfl ?_)
    refine xr_end rfl ?_
    refine th_n ?_
    refine xc_seq (xc_region ?_)
    refine xr_op rfl rfl (xv_move rfl ?_)
    refine xr_op rfl rfl (xv_move rfl ?_)
    refine xr_op rfl rfl (xv_move rfl ?_)
    have hlt : k < xs.length := by omega
    obtain ⟨b, o, l, t, fz, rfl, hm, hx⟩ := hs.at hlt
    obtain ⟨x, hkx⟩ : ∃ x, xs[k]? = some x := ⟨_, List.getElem?_eq_getElem hlt⟩
    refine xr_op rfl rfl (xv_ia (sz := 1) sl22 ty3 rfl rfl rfl (by (first | assumption | with_reducible exact Int.toNat_natCast _ | with_reducible rfl | rfl)) (by (first | omega | (dsimp only at *; omega) | (simp at *; omega))) (by (first | omega | (dsimp only at *; omega) | (simp at *; omega))) ?_)
    refine xr_op rfl rfl (xv_load1 ty3 rfl rfl hm (take_get (hx k x hkx) (j := 0) rfl) ?_)
    refine xr_op rfl rfl (xv_fn rfl rfl (hf x (List.mem_of_getElem? hkx) _ (up_ret ?_)))
    refine xr_end rfl ?_
    refine th_n ?_
    refine xc_bool rfl (fun q2 => ?_) (fun q2 => ?_)
    · refine xc_seq (xc_region ?_)
      refine xr_op rfl rfl (xv_move rfl ?_)
      refine xr_op rfl rfl (xv_assign rfl ?_)
      refine xr_end rfl ?_
      refine th_n ?_
      refine xc_ret ?_
      refine bk_r ?_
      refine th_r ?_
      refine th_r ?_
      refine bk_r ?_
      refine th_r ?_
      refine body_ret (h' := h) rfl (ro_tmp rfl ro_nil) (by (first|((repeat first|exact s_0|exact s_1|exact s_3|refine s_4 ?_|refine s_5 ?_|refine s_6 ?_|refine s_7 ?_);done)|((repeat first|exact s_0|exact s_1|exact s_3|refine s_4 ?_|refine s_5 ?_|refine s_6 ?_|refine s_8 ?_);done))) ?_
      first | exact H1 k x hkx (by assumption) | exact H2 (fun j x hj => hall j x (List.getElem?_eq_some_iff.1 hj).1 hj)
    · refine xc_skip ?_
      refine bk_n ?_
      refine th_n ?_
      refine xc_region ?_
      refine xr_op rfl rfl (xv_add rfl rfl (wrap_i64 (by (first | omega | (dsimp only at *; omega) | (simp at *; omega))) (by (first | omega | (dsimp only at *; omega) | (simp at *; omega)))) ?_)
      refine xr_op rfl rfl (xv_move rfl ?_)
      refine xr_end rfl ?_
      exact rnd (k + 1) ⟨by omega, fun j y hj hy => by
        rcases Nat.lt_succ_iff_lt_or_eq.1 hj with hj | rfl
        · exact hall j y hj hy
        · rw [hkx] at hy; cases hy; assumption⟩ (by omega) (le_put (le_put (le_put (le_put (le_emp _) rfl) rfl) rfl) rfl) (by (first|((repeat first|exact s_0|exact s_1|exact s_3|refine s_4 ?_|refine s_5 ?_|refine s_6 ?_|refine s_7 ?_);done)|((repeat first|exact s_0|exact s_1|exact s_3|refine s_4 ?_|refine s_5 ?_|refine s_6 ?_|refine s_8 ?_);done)))
  · refine xr_end rfl ?_
    refine th_n ?_
    refine xc_seq ?_
    refine xc_false rfl ?_
    refine xc_exit ?_
    refine th_x ?_
    refine th_x ?_
    refine bk_same ?_
    refine th_n ?_
    refine xc_seq (xc_region ?_)
    obtain rfl : k = xs.length := by omega
    refine xr_op rfl rfl (xv_assign rfl ?_)
    refine xr_end rfl ?_
    refine th_n ?_
    refine xc_ret ?_
    refine body_ret (h' := h) rfl (ro_tmp rfl ro_nil) (by (first|((repeat first|exact s_0|exact s_1|exact s_3|refine s_4 ?_|refine s_5 ?_|refine s_6 ?_|refine s_7 ?_);done)|((repeat first|exact s_0|exact s_1|exact s_3|refine s_4 ?_|refine s_5 ?_|refine s_6 ?_|refine s_8 ?_);done))) ?_
    first | exact H1 k x hkx (by assumption) | exact H2 (fun j x hj => hall j x (List.getElem?_eq_some_iff.1 hj).1 hj)

theorem containsInt_c {a : Option Addr} {c : Nat} {xs : List Int} {f : Value} {p : Int → Bool} {h : Hp} {R : Ending → Hp → Prop} (hs : SlV h 1 eI a xs) (hlen : xs.length ≤ 4611686018427387904)
    (hf : ∀ x ∈ xs, ∀ R', R' (.returned (.bool (p x))) h → AFn Try.prog f [I x] h R')
    (H1 : ∀ x ∈ xs, p x = true → R (.returned (.bool true)) h) (H2 : (∀ x ∈ xs, p x = false) → R (.returned (.bool false)) h) :
    ACalls Try.prog 45 ⟨[.slice a xs.length c, f]⟩ h R := by
  refine calls_of_xc (N := 9) Try.func45 rfl (by rfl) ?_
  refine xc_seq (xc_region ?_)
  refine xr_op rfl rfl (xv_assign rfl ?_)
  refine xr_end rfl ?_
  refine th_n ?_
  refine xc_seq (xc_region ?_)
  refine xr_op rfl rfl (xv_move rfl ?_)
  refine xr_op rfl rfl (xv_move rfl ?_)
  refine xr_op rfl rfl (xv_calls rfl hb56 (indexInt_c hs hlen hf (fun k x hkx hpx => up_ret ?_) (fun hno => up_ret ?_)))
  · refine xr_op rfl rfl (xv_geq2 rfl rfl (fun q1 => ?_) (fun q1 => ?_))
    · refine xr_op rfl rfl (xv_assign rfl ?_)
      refine xr_end rfl ?_
      refine th_n ?_
      refine xc_ret ?_
      refine body_ret (h' := h) rfl (ro_tmp rfl ro_nil) (by (first|((repeat first|exact s_0|exact s_1|exact s_3|refine s_4 ?_|refine s_5 ?_|refine s_6 ?_|refine s_7 ?_);done)|((repeat first|exact s_0|exact s_1|exact s_3|refine s_4 ?_|refine s_5 ?_|refine s_6 ?_|refine s_8 ?_);done))) ?_
      first | (exfalso; omega) | exact H1 x (List.mem_of_getElem? hkx) hpx | exact H2 (fun y hy => by obtain ⟨j, hj⟩ := List.getElem?_of_mem hy; exact hno j y hj)
    · refine xr_op rfl rfl (xv_assign rfl ?_)
      refine xr_end rfl ?_
      refine th_n ?_
      refine xc_ret ?_
      refine body_ret (h' := h) rfl (ro_tmp rfl ro_nil) (by (first|((repeat first|exact s_0|exact s_1|exact s_3|refine s_4 ?_|refine s_5 ?_|refine s_6 ?_|refine s_7 ?_);done)|((repeat first|exact s_0|exact s_1|exact s_3|refine s_4 ?_|refine s_5 ?_|refine s_6 ?_|refine s_8 ?_);done))) ?_
      first | (exfalso; omega) | exact H1 x (List.mem_of_getElem? hkx) hpx | exact H2 (fun y hy => by obtain ⟨j, hj⟩ := List.getElem?_of_mem hy; exact hno j y hj)
  · refine xr_op rfl rfl (xv_geq2 rfl rfl (fun q2 => ?_) (fun q2 => ?_))
    · refine xr_op rfl rfl (xv_assign rfl ?_)
      refine xr_end rfl ?_
      refine th_n ?_
      refine xc_ret ?_
      refine body_ret (h' := h) rfl (ro_tmp rfl ro_nil) (by (first|((repeat first|exact s_0|exact s_1|exact s_3|refine s_4 ?_|refine s_5 ?_|refine s_6 ?_|refine s_7 ?_);done)|((repeat first|exact s_0|exact s_1|exact s_3|refine s_4 ?_|refine s_5 ?_|refine s_6 ?_|refine s_8 ?_);done))) ?_
      first | (exfalso; omega) | exact H1 x (List.mem_of_getElem? hkx) hpx | exact H2 (fun y hy => by obtain ⟨j, hj⟩ := List.getElem?_of_mem hy; exact hno j y hj)
    · refine xr_op rfl rfl (xv_assign rfl ?_)
      refine xr_end rfl ?_
      refine th_n ?_
      refine xc_ret ?_
      refine body_ret (h' := h) rfl (ro_tmp rfl ro_nil) (by (first|((repeat first|exact s_0|exact s_1|exact s_3|refine s_4 ?_|refine s_5 ?_|refine s_6 ?_|refine s_7 ?_);done)|((repeat first|exact s_0|exact s_1|exact s_3|refine s_4 ?_|refine s_5 ?_|refine s_6 ?_|refine s_8 ?_);done))) ?_
      first | (exfalso; omega) | exact H1 x (List.mem_of_getElem? hkx) hpx | exact H2 (fun y hy => by obtain ⟨j, hj⟩ := List.getElem?_of_mem hy; exact hno j y hj)

theorem indexStill_c {a : Option Addr} {c : Nat} {xs : List Still} {f : Value} {p : Nat → Bool} {HS : Nat → Hp} {R : Ending → Hp → Prop} (hs : ∀ k, SlV (HS k) 5 eStill a xs) (hlen : xs.length ≤ 4611686018427387904)
    (hf : ∀ k x, xs[k]? = some x → ∀ R', R' (.returned (.bool (p k))) (HS (k + 1)) → AFn Try.prog f [.agg ⟨eStill x⟩] (HS k) R')
    (H1 : ∀ (k : Nat) (x : Still), xs[k]? = some x → p k = true → (∀ j x, j < k → xs[j]? = some x → p j = false) → R (.returned (I k)) (HS (k + 1))) (H2 : (∀ (k : Nat) (x : Still), xs[k]? = some x → p k = false) → R (.returned (I (-1))) (HS xs.length)) :
    ACalls Try.prog 57 ⟨[.slice a xs.length c, f]⟩ (HS 0) R := by
  refine calls_of_xc (N := 19) Try.func57 rfl (by rfl) ?_
  refine xc_seq (xc_region ?_)
  refine xr_op rfl rfl (xv_assign rfl ?_)
  refine xr_end rfl ?_
  refine th_n ?_
  refine xc_seq ?_
  refine xc_seq (xc_region ?_)
  refine xr_op rfl rfl (xv_move rfl ?_)
  refine xr_op rfl rfl (xv_len sl23 rfl ?_)
  refine xr_op rfl rfl (xv_move rfl ?_)
  refine xr_end rfl ?_
  refine th_n ?_
  refine xc_block ?_
  refine xc_loop (σ := Nat) (fun k => k ≤ xs.length ∧ ∀ j x, j < k → xs[j]? = some x → p j = false) (fun k => ((((emp.put (some 0) (.slice a xs.length c)).put (some 1) (f)).put (some 7) (I xs.length)).put (some 8) (I k))) (fun k => (HS k)) (fun k => xs.length - k) 0 ⟨Nat.zero_le _, fun _ _ h0 => absurd h0 (Nat.not_lt_zero _)⟩ (le_put (le_put (le_put (le_put (le_emp _) rfl) rfl) rfl) rfl) (by (first|((repeat first|exact s_0|exact s_1|exact s_3|refine s_4 ?_|refine s_5 ?_|refine s_6 ?_|refine s_7 ?_);done)|((repeat first|exact s_0|exact s_1|exact s_3|refine s_4 ?_|refine s_5 ?_|refine s_6 ?_|refine s_8 ?_);done))) ?_
  rintro k ⟨hk, hall⟩
  refine xc_seq (xc_region ?_)
  refine xr_op rfl rfl (xv_lss2 rfl rfl (fun q1 => ?_) (fun q1 => ?_))
  · refine xr_end rfl ?_
    refine th_n ?_
    refine xc_seq ?_
    refine xc_true rfl ?_
    refine xc_skip ?_
    refine th_n ?_
    refine xc_seq ?_
    refine xc_block ?_
    refine xc_seq (xc_region ?_)
    refine xr_op rfl rfl (xv_move rfl ?_)
    refine xr_op rfl rfl (xv_assign rfl ?_)
    refine xr_end rfl ?_
    refine th_n ?_
    refine xc_seq (xc_region ?_)
    refine xr_op rfl rfl (xv_move rfl ?_)
    refine xr_op rfl rfl (xv_move rfl ?_)
    refine xr_op rfl rfl (xv_move rfl ?_)
    have hlt : k < xs.length := by omega
    obtain ⟨b, o, l, t, fz, rfl, hm, hx⟩ := (hs k).at hlt
    obtain ⟨x, hkx⟩ : ∃ x, xs[k]? = some x := ⟨_, List.getElem?_eq_getElem hlt⟩
    refine xr_op rfl rfl (xv_ia (sz := 5) sl23 ty48 rfl rfl rfl (by (first | assumption | with_reducible exact Int.toNat_natCast _ | with_reducible rfl | rfl)) (by (first | omega | (dsimp only at *; omega) | (simp at *; omega))) (by (first | omega | (dsimp only at *; omega) | (simp at *; omega))) ?_)
    refine xr_op rfl rfl (xv_loadA ty48 rfl rfl hm (hx k x hkx) rfl ?_)
    refine xr_op rfl rfl (xv_fn rfl rfl (hf k x hkx _ (up_ret ?_)))
    refine xr_end rfl ?_
    refine th_n ?_
    refine xc_bool rfl (fun q2 => ?_) (fun q2 => ?_)
    · refine xc_seq (xc_region ?_)
      refine xr_op rfl rfl (xv_move rfl ?_)
      refine xr_op rfl rfl (xv_assign rfl ?_)
      refine xr_end rfl ?_
      refine th_n ?_
      refine xc_ret ?_
      refine bk_r ?_
      refine th_r ?_
      refine th_r ?_
      refine bk_r ?_
      refine th_r ?_
      refine body_ret (h' := HS (k + 1)) rfl (ro_tmp rfl ro_nil) (by (first|((repeat first|exact s_0|exact s_1|exact s_3|refine s_4 ?_|refine s_5 ?_|refine s_6 ?_|refine s_7 ?_);done)|((repeat first|exact s_0|exact s_1|exact s_3|refine s_4 ?_|refine s_5 ?_|refine s_6 ?_|refine s_8 ?_);done))) ?_
      first | exact H1 k x hkx (by assumption) hall | exact H2 (fun j x hj => hall j x (List.getElem?_eq_some_iff.1 hj).1 hj)
    · refine xc_skip ?_
      refine bk_n ?_
      refine th_n ?_
      refine xc_region ?_
      refine xr_op rfl rfl (xv_add rfl rfl (wrap_i64 (by (first | omega | (dsimp only at *; omega) | (simp at *; omega))) (by (first | omega | (dsimp only at *; omega) | (simp at *; omega)))) ?_)
      refine xr_op rfl rfl (xv_move rfl ?_)
      refine xr_end rfl ?_
      exact rnd (k + 1) ⟨by omega, fun j y hj hy => by
        rcases Nat.lt_succ_iff_lt_or_eq.1 hj with hj | rfl
        · exact hall j y hj hy
        · rw [hkx] at hy; cases hy; assumption⟩ (by omega) (le_put (le_put (le_put (le_put (le_emp _) rfl) rfl) rfl) rfl) (by (first|((repeat first|exact s_0|exact s_1|exact s_3|refine s_4 ?_|refine s_5 ?_|refine s_6 ?_|refine s_7 ?_);done)|((repeat first|exact s_0|exact s_1|exact s_3|refine s_4 ?_|refine s_5 ?_|refine s_6 ?_|refine s_8 ?_);done)))
  · refine xr_end rfl ?_
    refine th_n ?_
    refine xc_seq ?_
    refine xc_false rfl ?_
    refine xc_exit ?_
    refine th_x ?_
    refine th_x ?_
    refine bk_same ?_
    refine th_n ?_
    refine xc_seq (xc_region ?_)
    obtain rfl : k = xs.length := by omega
    refine xr_op rfl rfl (xv_assign rfl ?_)
    refine xr_end rfl ?_
    refine th_n ?_
    refine xc_ret ?_
    refine body_ret (h' := HS xs.length) rfl (ro_tmp rfl ro_nil) (by (first|((repeat first|exact s_0|exact s_1|exact s_3|refine s_4 ?_|refine s_5 ?_|refine s_6 ?_|refine s_7 ?_);done)|((repeat first|exact s_0|exact s_1|exact s_3|refine s_4 ?_|refine s_5 ?_|refine s_6 ?_|refine s_8 ?_);done))) ?_
    first | exact H1 k x hkx (by assumption) hall | exact H2 (fun j x hj => hall j x (List.getElem?_eq_some_iff.1 hj).1 hj)

theorem containsStill_c {a : Option Addr} {c : Nat} {xs : List Still} {f : Value} {p : Nat → Bool} {HS : Nat → Hp} {R : Ending → Hp → Prop} (hs : ∀ k, SlV (HS k) 5 eStill a xs) (hlen : xs.length ≤ 4611686018427387904)
    (hf : ∀ k x, xs[k]? = some x → ∀ R', R' (.returned (.bool (p k))) (HS (k + 1)) → AFn Try.prog f [.agg ⟨eStill x⟩] (HS k) R')
    (H1 : ∀ (k : Nat) (x : Still), xs[k]? = some x → p k = true → R (.returned (.bool true)) (HS (k + 1))) (H2 : (∀ k x, xs[k]? = some x → p k = false) → R (.returned (.bool false)) (HS xs.length)) :
    ACalls Try.prog 46 ⟨[.slice a xs.length c, f]⟩ (HS 0) R := by
  refine calls_of_xc (N := 9) Try.func46 rfl (by rfl) ?_
  refine xc_seq (xc_region ?_)
  refine xr_op rfl rfl (xv_assign rfl ?_)
  refine xr_end rfl ?_
  refine th_n ?_
  refine xc_seq (xc_region ?_)
  refine xr_op rfl rfl (xv_move rfl ?_)
  refine xr_op rfl rfl (xv_move rfl ?_)
  refine xr_op rfl rfl (xv_calls rfl hb57 (indexStill_c hs hlen hf (fun k x hkx hpx hfirst => up_ret ?_) (fun hno => up_ret ?_)))
  · refine xr_op rfl rfl (xv_geq2 rfl rfl (fun q1 => ?_) (fun q1 => ?_))
    · refine xr_op rfl rfl (xv_assign rfl ?_)
      refine xr_end rfl ?_
      refine th_n ?_
      refine xc_ret ?_
      refine body_ret (h' := HS (k + 1)) rfl (ro_tmp rfl ro_nil) (by (first|((repeat first|exact s_0|exact s_1|exact s_3|refine s_4 ?_|refine s_5 ?_|refine s_6 ?_|refine s_7 ?_);done)|((repeat first|exact s_0|exact s_1|exact s_3|refine s_4 ?_|refine s_5 ?_|refine s_6 ?_|refine s_8 ?_);done))) ?_
      first | (exfalso; omega) | exact H1 k x hkx hpx | exact H2 hno
    · refine xr_op rfl rfl (xv_assign rfl ?_)
      refine xr_end rfl ?_
      refine th_n ?_
      refine xc_ret ?_
      refine body_ret (h' := HS (k + 1)) rfl (ro_tmp rfl ro_nil) (by (first|((repeat first|exact s_0|exact s_1|exact s_3|refine s_4 ?_|refine s_5 ?_|refine s_6 ?_|refine s_7 ?_);done)|((repeat first|exact s_0|exact s_1|exact s_3|refine s_4 ?_|refine s_5 ?_|refine s_6 ?_|refine s_8 ?_);done))) ?_
      first | (exfalso; omega) | exact H1 k x hkx hpx | exact H2 hno
  · refine xr_op rfl rfl (xv_geq2 rfl rfl (fun q2 => ?_) (fun q2 => ?_))
    · refine xr_op rfl rfl (xv_assign rfl ?_)
      refine xr_end rfl ?_
      refine th_n ?_
      refine xc_ret ?_
      refine body_ret (h' := HS xs.length) rfl (ro_tmp rfl ro_nil) (by (first|((repeat first|exact s_0|exact s_1|exact s_3|refine s_4 ?_|refine s_5 ?_|refine s_6 ?_|refine s_7 ?_);done)|((repeat first|exact s_0|exact s_1|exact s_3|refine s_4 ?_|refine s_5 ?_|refine s_6 ?_|refine s_8 ?_);done))) ?_
      first | (exfalso; omega) | exact H1 k x hkx hpx | exact H2 hno
    · refine xr_op rfl rfl (xv_assign rfl ?_)
      refine xr_end rfl ?_
      refine th_n ?_
      refine xc_ret ?_
      refine body_ret (h' := HS xs.length) rfl (ro_tmp rfl ro_nil) (by (first|((repeat first|exact s_0|exact s_1|exact s_3|refine s_4 ?_|refine s_5 ?_|refine s_6 ?_|refine s_7 ?_);done)|((repeat first|exact s_0|exact s_1|exact s_3|refine s_4 ?_|refine s_5 ?_|refine s_6 ?_|refine s_8 ?_);done))) ?_
      first | (exfalso; omega) | exact H1 k x hkx hpx | exact H2 hno

theorem indexSale_c {a : Option Addr} {c : Nat} {xs : List Sale} {f : Value} {p : Sale → Bool} {h : Hp} {R : Ending → Hp → Prop} (hs : SlV h 3 eSale a xs) (hlen : xs.length ≤ 4611686018427387904)
    (hf : ∀ x ∈ xs, ∀ R', R' (.returned (.bool (p x))) h → AFn Try.prog f [.agg ⟨eSale x⟩] h R')
    (H1 : ∀ (k : Nat) (x : Sale), xs[k]? = some x → p x = true → R (.returned (I k)) h) (H2 : (∀ (k : Nat) (x : Sale), xs[k]? = some x → p x = false) → R (.returned (I (-1))) h) :
    ACalls Try.prog 58 ⟨[.slice a xs.length c, f]⟩ h R := by
  refine calls_of_xc (N := 19) Try.func58 rfl (by rfl) ?_
  refine xc_seq (xc_region ?_)
  refine xr_op rfl rfl (xv_assign rfl ?_)
  refine xr_end rfl ?_
  refine th_n ?_
  refine xc_seq ?_
  refine xc_seq (xc_region ?_)
  refine xr_op rfl rfl (xv_move rfl ?_)
  refine xr_op rfl rfl (xv_len sl24 rfl ?_)
  refine xr_op rfl rfl (xv_move rfl ?_)
  refine xr_end rfl ?_
  refine th_n ?_
  refine xc_block ?_
  refine xc_loop (σ := Nat) (fun k => k ≤ xs.length ∧ ∀ j x, j < k → xs[j]? = some x → p x = false) (fun k => ((((emp.put (some 0) (.slice a xs.length c)).put (some 1) (f)).put (some 7) (I xs.length)).put (some 8) (I k))) (fun k => h) (fun k => xs.length - k) 0 ⟨Nat.zero_le _, fun _ _ h0 => absurd h0 (Nat.not_lt_zero _)⟩ (le_put (le_put (le_put (le_put (le_emp _) rfl) rfl) rfl) rfl) (by (first|((repeat first|exact s_0|exact s_1|exact s_3|refine s_4 ?_|refine s_5 ?_|refine s_6 ?_|refine s_7 ?_);done)|((repeat first|exact s_0|exact s_1|exact s_3|refine s_4 ?_|refine s_5 ?_|refine s_6 ?_|refine s_8 ?_);done))) ?_
  rintro k ⟨hk, hall⟩
  refine xc_seq (xc_region ?_)
  refine xr_op rfl rfl (xv_lss2 rfl rfl (fun q1 => ?_) (fun q1 => ?_))
  · refine xr_end rfl ?_
    refine th_n ?_
    refine xc_seq ?_
    refine xc_true rfl ?_
    refine xc_skip ?_
    refine th_n ?_
    refine xc_seq ?_
    refine xc_block ?_
    refine xc_seq (xc_region ?_)
    refine xr_op rfl rfl (xv_move rfl ?_)
    refine xr_op rfl rfl (xv_assign rfl ?_)
    refine xr_end rfl ?_
    refine th_n ?_
    refine xc_seq (xc_region ?_)
    refine xr_op rfl rfl (xv_move rfl ?_)
    refine xr_op rfl rfl (xv_move rfl ?_)
    refine xr_op rfl rfl (xv_move rfl ?_)
    have hlt : k < xs.length := by omega
    obtain ⟨b, o, l, t, fz, rfl, hm, hx⟩ := hs.at hlt
    obtain ⟨x, hkx⟩ : ∃ x, xs[k]? = some x := ⟨_, List.getElem?_eq_getElem hlt⟩
    refine xr_op rfl rfl (xv_ia (sz := 3) sl24 ty51 rfl rfl rfl (by (first | assumption | with_reducible exact Int.toNat_natCast _ | with_reducible rfl | rfl)) (by (first | omega | (dsimp only at *; omega) | (simp at *; omega))) (by (first | omega | (dsimp only at *; omega) | (simp at *; omega))) ?_)
    refine xr_op rfl rfl (xv_loadA ty51 rfl rfl hm (hx k x hkx) rfl ?_)
    refine xr_op rfl rfl (xv_fn rfl rfl (hf x (List.mem_of_getElem? hkx) _ (up_ret ?_)))
    refine xr_end rfl ?_
    refine th_n ?_
    refine xc_bool rfl (fun q2 => ?_) (fun q2 => ?_)
    · refine xc_seq (xc_region ?_)
      refine xr_op rfl rfl (xv_move rfl ?_)
      refine xr_op rfl rfl (xv_assign rfl ?_)
      refine xr_end rfl ?_
      refine th_n ?_
      refine xc_ret ?_
      refine bk_r ?_
      refine th_r ?_
      refine th_r ?_
      refine bk_r ?_
      refine th_r ?_
      refine body_ret (h' := h) rfl (ro_tmp rfl ro_nil) (by (first|((repeat first|exact s_0|exact s_1|exact s_3|refine s_4 ?_|refine s_5 ?_|refine s_6 ?_|refine s_7 ?_);done)|((repeat first|exact s_0|exact s_1|exact s_3|refine s_4 ?_|refine s_5 ?_|refine s_6 ?_|refine s_8 ?_);done))) ?_
      first | exact H1 k x hkx (by assumption) | exact H2 (fun j x hj => hall j x (List.getElem?_eq_some_iff.1 hj).1 hj)
    · refine xc_skip ?_
      refine bk_n ?_
      refine th_n ?_
      refine xc_region ?_
      refine xr_op rfl rfl (xv_add rfl rfl (wrap_i64 (by (first | omega | (dsimp only at *; omega) | (simp at *; omega))) (by (first | omega | (dsimp only at *; omega) | (simp at *; omega)))) ?_)
      refine xr_op rfl rfl (xv_move rfl ?_)
      refine xr_end rfl ?_
      exact rnd (k + 1) ⟨by omega, fun j y hj hy => by
        rcases Nat.lt_succ_iff_lt_or_eq.1 hj with hj | rfl
        · exact hall j y hj hy
        · rw [hkx] at hy; cases hy; assumption⟩ (by omega) (le_put (le_put (le_put (le_put (le_emp _) rfl) rfl) rfl) rfl) (by (first|((repeat first|exact s_0|exact s_1|exact s_3|refine s_4 ?_|refine s_5 ?_|refine s_6 ?_|refine s_7 ?_);done)|((repeat first|exact s_0|exact s_1|exact s_3|refine s_4 ?_|refine s_5 ?_|refine s_6 ?_|refine s_8 ?_);done)))
  · refine xr_end rfl ?_
    refine th_n ?_
    refine xc_seq ?_
    refine xc_false rfl ?_
    refine xc_exit ?_
    refine th_x ?_
    refine th_x ?_
    refine bk_same ?_
    refine th_n ?_
    refine xc_seq (xc_region ?_)
    obtain rfl : k = xs.length := by omega
    refine xr_op rfl rfl (xv_assign rfl ?_)
    refine xr_end rfl ?_
    refine th_n ?_
    refine xc_ret ?_
    refine body_ret (h' := h) rfl (ro_tmp rfl ro_nil) (by (first|((repeat first|exact s_0|exact s_1|exact s_3|refine s_4 ?_|refine s_5 ?_|refine s_6 ?_|refine s_7 ?_);done)|((repeat first|exact s_0|exact s_1|exact s_3|refine s_4 ?_|refine s_5 ?_|refine s_6 ?_|refine s_8 ?_);done))) ?_
    first | exact H1 k x hkx (by assumption) | exact H2 (fun j x hj => hall j x (List.getElem?_eq_some_iff.1 hj).1 hj)

theorem containsSale_c {a : Option Addr} {c : Nat} {xs : List Sale} {f : Value} {p : Sale → Bool} {h : Hp} {R : Ending → Hp → Prop} (hs : SlV h 3 eSale a xs) (hlen : xs.length ≤ 4611686018427387904)
    (hf : ∀ x ∈ xs, ∀ R', R' (.returned (.bool (p x))) h → AFn Try.prog f [.agg ⟨eSale x⟩] h R')
    (H1 : ∀ x ∈ xs, p x = true → R (.returned (.bool true)) h) (H2 : (∀ x ∈ xs, p x = false) → R (.returned (.bool false)) h) :
    ACalls Try.prog 47 ⟨[.slice a xs.length c, f]⟩ h R := by
  refine calls_of_xc (N := 9) Try.func47 rfl (by rfl) ?_
  refine xc_seq (xc_region ?_)
  refine xr_op rfl rfl (xv_assign rfl ?_)
  refine xr_end rfl ?_
  refine th_n ?_
  refine xc_seq (xc_region ?_)
  refine xr_op rfl rfl (xv_move rfl ?_)
  refine xr_op rfl rfl (xv_move rfl ?_)
  refine xr_op rfl rfl (xv_calls rfl hb58 (indexSale_c hs hlen hf (fun k x hkx hpx => up_ret ?_) (fun hno => up_ret ?_)))
  · refine xr_op rfl rfl (xv_geq2 rfl rfl (fun q1 => ?_) (fun q1 => ?_))
    · refine xr_op rfl rfl (xv_assign rfl ?_)
      refine xr_end rfl ?_
      refine th_n ?_
      refine xc_ret ?_
      refine body_ret (h' := h) rfl (ro_tmp rfl ro_nil) (by (first|((repeat first|exact s_0|exact s_1|exact s_3|refine s_4 ?_|refine s_5 ?_|refine s_6 ?_|refine s_7 ?_);done)|((repeat first|exact s_0|exact s_1|exact s_3|refine s_4 ?_|refine s_5 ?_|refine s_6 ?_|refine s_8 ?_);done))) ?_
      first | (exfalso; omega) | exact H1 x (List.mem_of_getElem? hkx) hpx | exact H2 (fun y hy => by obtain ⟨j, hj⟩ := List.getElem?_of_mem hy; exact hno j y hj)
    · refine xr_op rfl rfl (xv_assign rfl ?_)
      refine xr_end rfl ?_
      refine th_n ?_
      refine xc_ret ?_
      refine body_ret (h' := h) rfl (ro_tmp rfl ro_nil) (by (first|((repeat first|exact s_0|exact s_1|exact s_3|refine s_4 ?_|refine s_5 ?_|refine s_6 ?_|refine s_7 ?_);done)|((repeat first|exact s_0|exact s_1|exact s_3|refine s_4 ?_|refine s_5 ?_|refine s_6 ?_|refine s_8 ?_);done))) ?_
      first | (exfalso; omega) | exact H1 x (List.mem_of_getElem? hkx) hpx | exact H2 (fun y hy => by obtain ⟨j, hj⟩ := List.getElem?_of_mem hy; exact hno j y hj)
  · refine xr_op rfl rfl (xv_geq2 rfl rfl (fun q2 => ?_) (fun q2 => ?_))
    · refine xr_op rfl rfl (xv_assign rfl ?_)
      refine xr_end rfl ?_
      refine th_n ?_
      refine xc_ret ?_
      refine body_ret (h' := h) rfl (ro_tmp rfl ro_nil) (by (first|((repeat first|exact s_0|exact s_1|exact s_3|refine s_4 ?_|refine s_5 ?_|refine s_6 ?_|refine s_7 ?_);done)|((repeat first|exact s_0|exact s_1|exact s_3|refine s_4 ?_|refine s_5 ?_|refine s_6 ?_|refine s_8 ?_);done))) ?_
      first | (exfalso; omega) | exact H1 x (List.mem_of_getElem? hkx) hpx | exact H2 (fun y hy => by obtain ⟨j, hj⟩ := List.getElem?_of_mem hy; exact hno j y hj)
    · refine xr_op rfl rfl (xv_assign rfl ?_)
      refine xr_end rfl ?_
      refine th_n ?_
      refine xc_ret ?_
      refine body_ret (h' := h) rfl (ro_tmp rfl ro_nil) (by (first|((repeat first|exact s_0|exact s_1|exact s_3|refine s_4 ?_|refine s_5 ?_|refine s_6 ?_|refine s_7 ?_);done)|((repeat first|exact s_0|exact s_1|exact s_3|refine s_4 ?_|refine s_5 ?_|refine s_6 ?_|refine s_8 ?_);done))) ?_
      first | (exfalso; omega) | exact H1 x (List.mem_of_getElem? hkx) hpx | exact H2 (fun y hy => by obtain ⟨j, hj⟩ := List.getElem?_of_mem hy; exact hno j y hj)

theorem indexWeigh_c {a : Option Addr} {c : Nat} {xs : List Weigh} {f : Value} {p : Weigh → Bool} {h : Hp} {R : Ending → Hp → Prop} (hs : SlV h 4 eWeigh a xs) (hlen : xs.length ≤ 4611686018427387904)
    (hf : ∀ x ∈ xs, ∀ R', R' (.returned (.bool (p x))) h → AFn Try.prog f [.agg ⟨eWeigh x⟩] h R')
    (H1 : ∀ (k : Nat) (x : Weigh), xs[k]? = some x → p x = true → R (.returned (I k)) h) (H2 : (∀ (k : Nat) (x : Weigh), xs[k]? = some x → p x = false) → R (.returned (I (-1))) h) :
    ACalls Try.prog 55 ⟨[.slice a xs.length c, f]⟩ h R := by
  refine calls_of_xc (N := 19) Try.func55 rfl (by rfl) ?_
  refine xc_seq (xc_region ?_)
  refine xr_op rfl rfl (xv_assign rfl ?_)
  refine xr_end rfl ?_
  refine th_n ?_
  refine xc_seq ?_
  refine xc_seq (xc_region ?_)
  refine xr_op rfl rfl (xv_move rfl ?_)
  refine xr_op rfl rfl (xv_len sl34 rfl ?_)
  refine xr_op rfl rfl (xv_move rfl ?_)
  refine xr_end rfl ?_
  refine th_n ?_
  refine xc_block ?_
  refine xc_loop (σ := Nat) (fun k => k ≤ xs.length ∧ ∀ j x, j < k → xs[j]? = some x → p x = false) (fun k => ((((emp.put (some 0) (.slice a xs.length c)).put (some 1) (f)).put (some 7) (I xs.length)).put (some 8) (I k))) (fun k => h) (fun k => xs.length - k) 0 ⟨Nat.zero_le _, fun _ _ h0 => absurd h0 (Nat.not_lt_zero _)⟩ (le_put (le_put (le_put (le_put (le_emp _) rfl) rfl) rfl) rfl) (by (first|((repeat first|exact s_0|exact s_1|exact s_3|refine s_4 ?_|refine s_5 ?_|refine s_6 ?_|refine s_7 ?_);done)|((repeat first|exact s_0|exact s_1|exact s_3|refine s_4 ?_|refine s_5 ?_|refine s_6 ?_|refine s_8 ?_);done))) ?_
  rintro k ⟨hk, hall⟩
  refine xc_seq (xc_region ?_)
  refine xr_op rfl rfl (xv_lss2 rfl rfl (fun q1 => ?_) (fun q1 => ?_))
  · refine xr_end rfl ?_
    refine th_n ?_
    refine xc_seq ?_
    refine xc_true rfl ?_
    refine xc_skip ?_
    refine th_n ?_
    refine xc_seq ?_
    refine xc_block ?_
    refine xc_seq (xc_region ?_)
    refine xr_op rfl rfl (xv_move rfl ?_)
    refine xr_op rfl rfl (xv_assign rfl ?_)
    refine xr_end rfl ?_
    refine th_n ?_
    refine xc_seq (xc_region ?_)
    refine xr_op rfl rfl (xv_move rfl ?_)
    refine xr_op rfl rfl (xv_move rfl ?_)
    refine xr_op rfl rfl (xv_move rfl ?_)
    have hlt : k < xs.length := by omega
    obtain ⟨b, o, l, t, fz, rfl, hm, hx⟩ := hs.at hlt
    obtain ⟨x, hkx⟩ : ∃ x, xs[k]? = some x := ⟨_, List.getElem?_eq_getElem hlt⟩
    refine xr_op rfl rfl (xv_ia (sz := 4) sl34 ty61 rfl rfl rfl (by (first | assumption | with_reducible exact Int.toNat_natCast _ | with_reducible rfl | rfl)) (by (first | omega | (dsimp only at *; omega) | (simp at *; omega))) (by (first | omega | (dsimp only at *; omega) | (simp at *; omega))) ?_)
    refine xr_op rfl rfl (xv_loadA ty61 rfl rfl hm (hx k x hkx) rfl ?_)
    refine xr_op rfl rfl (xv_fn rfl rfl (hf x (List.mem_of_getElem? hkx) _ (up_ret ?_)))
    refine xr_end rfl ?_
    refine th_n ?_
    refine xc_bool rfl (fun q2 => ?_) (fun q2 => ?_)
    · refine xc_seq (xc_region ?_)
      refine xr_op rfl rfl (xv_move rfl ?_)
      refine xr_op rfl rfl (xv_assign rfl ?_)
      refine xr_end rfl ?_
      refine th_n ?_
      refine xc_ret ?_
      refine bk_r ?_
      refine th_r ?_
      refine th_r ?_
      refine bk_r ?_
      refine th_r ?_
      refine body_ret (h' := h) rfl (ro_tmp rfl ro_nil) (by (first|((repeat first|exact s_0|exact s_1|exact s_3|refine s_4 ?_|refine s_5 ?_|refine s_6 ?_|refine s_7 ?_);done)|((repeat first|exact s_0|exact s_1|exact s_3|refine s_4 ?_|refine s_5 ?_|refine s_6 ?_|refine s_8 ?_);done))) ?_
      first | exact H1 k x hkx (by assumption) | exact H2 (fun j x hj => hall j x (List.getElem?_eq_some_iff.1 hj).1 hj)
    · refine xc_skip ?_
      refine bk_n ?_
      refine th_n ?_
      refine xc_region ?_
      refine xr_op rfl rfl (xv_add rfl rfl (wrap_i64 (by (first | omega | (dsimp only at *; omega) | (simp at *; omega))) (by (first | omega | (dsimp only at *; omega) | (simp at *; omega)))) ?_)
      refine xr_op rfl rfl (xv_move rfl ?_)
      refine xr_end rfl ?_
      exact rnd (k + 1) ⟨by omega, fun j y hj hy => by
        rcases Nat.lt_succ_iff_lt_or_eq.1 hj with hj | rfl
        · exact hall j y hj hy
        · rw [hkx] at hy; cases hy; assumption⟩ (by omega) (le_put (le_put (le_put (le_put (le_emp _) rfl) rfl) rfl) rfl) (by (first|((repeat first|exact s_0|exact s_1|exact s_3|refine s_4 ?_|refine s_5 ?_|refine s_6 ?_|refine s_7 ?_);done)|((repeat first|exact s_0|exact s_1|exact s_3|refine s_4 ?_|refine s_5 ?_|refine s_6 ?_|refine s_8 ?_);done)))
  · refine xr_end rfl ?_
    refine th_n ?_
    refine xc_seq ?_
    refine xc_false rfl ?_
    refine xc_exit ?_
    refine th_x ?_
    refine th_x ?_
    refine bk_same ?_
    refine th_n ?_
    refine xc_seq (xc_region ?_)
    obtain rfl : k = xs.length := by omega
    refine xr_op rfl rfl (xv_assign rfl ?_)
    refine xr_end rfl ?_
    refine th_n ?_
    refine xc_ret ?_
    refine body_ret (h' := h) rfl (ro_tmp rfl ro_nil) (by (first|((repeat first|exact s_0|exact s_1|exact s_3|refine s_4 ?_|refine s_5 ?_|refine s_6 ?_|refine s_7 ?_);done)|((repeat first|exact s_0|exact s_1|exact s_3|refine s_4 ?_|refine s_5 ?_|refine s_6 ?_|refine s_8 ?_);done))) ?_
    first | exact H1 k x hkx (by assumption) | exact H2 (fun j x hj => hall j x (List.getElem?_eq_some_iff.1 hj).1 hj)

theorem containsWeigh_c {a : Option Addr} {c : Nat} {xs : List Weigh} {f : Value} {p : Weigh → Bool} {h : Hp} {R : Ending → Hp → Prop} (hs : SlV h 4 eWeigh a xs) (hlen : xs.length ≤ 4611686018427387904)
    (hf : ∀ x ∈ xs, ∀ R', R' (.returned (.bool (p x))) h → AFn Try.prog f [.agg ⟨eWeigh x⟩] h R')
    (H1 : ∀ x ∈ xs, p x = true → R (.returned (.bool true)) h) (H2 : (∀ x ∈ xs, p x = false) → R (.returned (.bool false)) h) :
    ACalls Try.prog 37 ⟨[.slice a xs.length c, f]⟩ h R := by
  refine calls_of_xc (N := 9) Try.func37 rfl (by rfl) ?_
  refine xc_seq (xc_region ?_)
  refine xr_op rfl rfl (xv_assign rfl ?_)
  refine xr_end rfl ?_
  refine th_n ?_
  refine xc_seq (xc_region ?_)
  refine xr_op rfl rfl (xv_move rfl ?_)
  refine xr_op rfl rfl (xv_move rfl ?_)
  refine xr_op rfl rfl (xv_calls rfl hb55 (indexWeigh_c hs hlen hf (fun k x hkx hpx => up_ret ?_) (fun hno => up_ret ?_)))
  · refine xr_op rfl rfl (xv_geq2 rfl rfl (fun q1 => ?_) (fun q1 => ?_))
    · refine xr_op rfl rfl (xv_assign rfl ?_)
      refine xr_end rfl ?_
      refine th_n ?_
      refine xc_ret ?_
      refine body_ret (h' := h) rfl (ro_tmp rfl ro_nil) (by (first|((repeat first|exact s_0|exact s_1|exact s_3|refine s_4 ?_|refine s_5 ?_|refine s_6 ?_|refine s_7 ?_);done)|((repeat first|exact s_0|exact s_1|exact s_3|refine s_4 ?_|refine s_5 ?_|refine s_6 ?_|refine s_8 ?_);done))) ?_
      first | (exfalso; omega) | exact H1 x (List.mem_of_getElem? hkx) hpx | exact H2 (fun y hy => by obtain ⟨j, hj⟩ := List.getElem?_of_mem hy; exact hno j y hj)
    · refine xr_op rfl rfl (xv_assign rfl ?_)
      refine xr_end rfl ?_
      refine th_n ?_
      refine xc_ret ?_
      refine body_ret (h' := h) rfl (ro_tmp rfl ro_nil) (by (first|((repeat first|exact s_0|exact s_1|exact s_3|refine s_4 ?_|refine s_5 ?_|refine s_6 ?_|refine s_7 ?_);done)|((repeat first|exact s_0|exact s_1|exact s_3|refine s_4 ?_|refine s_5 ?_|refine s_6 ?_|refine s_8 ?_);done))) ?_
      first | (exfalso; omega) | exact H1 x (List.mem_of_getElem? hkx) hpx | exact H2 (fun y hy => by obtain ⟨j, hj⟩ := List.getElem?_of_mem hy; exact hno j y hj)
  · refine xr_op rfl rfl (xv_geq2 rfl rfl (fun q2 => ?_) (fun q2 => ?_))
    · refine xr_op rfl rfl (xv_assign rfl ?_)
      refine xr_end rfl ?_
      refine th_n ?_
      refine xc_ret ?_
      refine body_ret (h' := h) rfl (ro_tmp rfl ro_nil) (by (first|((repeat first|exact s_0|exact s_1|exact s_3|refine s_4 ?_|refine s_5 ?_|refine s_6 ?_|refine s_7 ?_);done)|((repeat first|exact s_0|exact s_1|exact s_3|refine s_4 ?_|refine s_5 ?_|refine s_6 ?_|refine s_8 ?_);done))) ?_
      first | (exfalso; omega) | exact H1 x (List.mem_of_getElem? hkx) hpx | exact H2 (fun y hy => by obtain ⟨j, hj⟩ := List.getElem?_of_mem hy; exact hno j y hj)
    · refine xr_op rfl rfl (xv_assign rfl ?_)
      refine xr_end rfl ?_
      refine th_n ?_
      refine xc_ret ?_
      refine body_ret (h' := h) rfl (ro_tmp rfl ro_nil) (by (first|((repeat first|exact s_0|exact s_1|exact s_3|refine s_4 ?_|refine s_5 ?_|refine s_6 ?_|refine s_7 ?_);done)|((repeat first|exact s_0|exact s_1|exact s_3|refine s_4 ?_|refine s_5 ?_|refine s_6 ?_|refine s_8 ?_);done))) ?_
      first | (exfalso; omega) | exact H1 x (List.mem_of_getElem? hkx) hpx | exact H2 (fun y hy => by obtain ⟨j, hj⟩ := List.getElem?_of_mem hy; exact hno j y hj)

end Go.Proofs.Ytlailecnbdlknaa
