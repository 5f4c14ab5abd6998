/-
  Walks.
-/
import Derived.Test.YtckaaaebegemoaaDoorW16
namespace Go.Proofs.YtckaaaebegemoaaDoor
open Go Go.H
set_option maxRecDepth 100000
set_option maxHeartbeats 2000000
set_option linter.all false
theorem Fits_c {d : Dial} {a b : Card} {gas : Int} {h : Hp} {R : Ending → Hp → Prop} (hd : dialOk d) (ha : ReadOk d a) (hb : ReadOk d b) (hab : a.hour ≤ b.hour)
    (H1 : fitsP d a b gas → R (.returned (.bool true)) h) (H2 : ¬ fitsP d a b gas → R (.returned (.bool false)) h) :
    ACalls Tryd.prog 29 ⟨[.agg ⟨eDial d⟩, .agg ⟨eCard a⟩, .agg ⟨eCard b⟩, I gas]⟩ h R := by
  refine calls_of_xc (N := 57) Tryd.func29 rfl (by rfl) ?_
  have htb := turn_bd (n := d.digits) hd.1 hd.2.1
  obtain ⟨l0, l1⟩ := least_bd (a := a) (b := b) hd
  obtain ⟨g1, g2, g3, g4, g5⟩ := id hd
  obtain ⟨⟨a1, a2⟩, a3, a4⟩ := id ha
  obtain ⟨⟨e1, e2⟩, e3, e4⟩ := id hb
  have m1 : 0 ≤ (d.rate.lo * (b.hour - a.hour)) := Int.mul_nonneg g3 (by omega)
  have m2 : (d.rate.lo * (b.hour - a.hour)) ≤ 10000 * 1048576 := Int.mul_le_mul (by omega) (by omega) (by omega) (by omega)
  have m3 : 0 ≤ (d.rate.hi * (b.hour - a.hour)) := Int.mul_nonneg (by omega) (by omega)
  have m4 : (d.rate.hi * (b.hour - a.hour)) ≤ 10000 * 1048576 := Int.mul_le_mul (by omega) (by omega) (by omega) (by omega)
  refine xc_seq (xc_region ?_)
  refine xr_op rfl rfl (xv_box rfl (fun c4 hc4 => ?_))
  refine xr_op rfl rfl (xv_box rfl (fun c5 hc5 => ?_))
  refine xr_op rfl rfl (xv_box rfl (fun c6 hc6 => ?_))
  refine xr_op rfl rfl (xv_assign rfl ?_)
  refine xr_end rfl ?_
  refine th_n ?_
  refine xc_seq (xc_region ?_)
  refine xr_op rfl rfl (xv_faddr fl59_1 rfl ?_)
  refine xr_op rfl rfl (xv_load1 ty3 rfl rfl (by ((repeat first|exact z_0|assumption|refine z_1 ?_|(refine z_l ?_;(repeat first|exact z_0|assumption|refine z_1 ?_);done)|refine z_r ?_);done)) (by rfl) ?_)
  refine xr_op rfl rfl (xv_faddr fl59_1 rfl ?_)
  refine xr_op rfl rfl (xv_load1 ty3 rfl rfl (by ((repeat first|exact z_0|assumption|refine z_1 ?_|(refine z_l ?_;(repeat first|exact z_0|assumption|refine z_1 ?_);done)|refine z_r ?_);done)) (by rfl) ?_)
  refine xr_op rfl rfl (xv_sub rfl rfl (wrap_i64 (by (first | omega | (dsimp only at *; omega) | (simp at *; omega))) (by (first | omega | (dsimp only at *; omega) | (simp at *; omega)))) ?_)
  refine xr_op rfl rfl (xv_assign rfl ?_)
  refine xr_end rfl ?_
  refine th_n ?_
  refine xc_seq ?_
  refine xc_seq (xc_region ?_)
  refine xr_op rfl rfl (xv_move rfl ?_)
  refine xr_op rfl rfl (xv_faddr fl45_1 rfl ?_)
  refine xr_op rfl rfl (xv_faddr fl38_0 rfl ?_)
  refine xr_op rfl rfl (xv_load1 ty3 rfl rfl (by ((repeat first|exact z_0|assumption|refine z_1 ?_|(refine z_l ?_;(repeat first|exact z_0|assumption|refine z_1 ?_);done)|refine z_r ?_);done)) (by rfl) ?_)
  refine xr_op rfl rfl (xv_move rfl ?_)
  refine xr_op rfl rfl (xv_mul rfl rfl (wrap_i64 (by (first | omega | (dsimp only at *; omega) | (simp at *; omega))) (by (first | omega | (dsimp only at *; omega) | (simp at *; omega)))) ?_)
  refine xr_op rfl rfl (xv_faddr fl45_1 rfl ?_)
  refine xr_op rfl rfl (xv_faddr fl38_1 rfl ?_)
  refine xr_op rfl rfl (xv_load1 ty3 rfl rfl (by ((repeat first|exact z_0|assumption|refine z_1 ?_|(refine z_l ?_;(repeat first|exact z_0|assumption|refine z_1 ?_);done)|refine z_r ?_);done)) (by rfl) ?_)
  refine xr_op rfl rfl (xv_move rfl ?_)
  refine xr_op rfl rfl (xv_mul rfl rfl (wrap_i64 (by (first | omega | (dsimp only at *; omega) | (simp at *; omega))) (by (first | omega | (dsimp only at *; omega) | (simp at *; omega)))) ?_)
  refine xr_op rfl rfl (xv_calls rfl hb39 (in_c _ _ _ (fun hl1 hu2 => up_ret ?_) (fun hn3 => up_ret ?_)))
  · refine xr_op rfl rfl (xv_not rfl ?_)
    refine xr_end rfl ?_
    refine th_n ?_
    refine xc_false rfl ?_
    refine xc_skip ?_
    refine th_n ?_
    refine xc_seq (xc_region ?_)
    refine xr_op rfl rfl (xv_faddr fl45_0 rfl ?_)
    refine xr_op rfl rfl (xv_load1 ty3 rfl rfl (by ((repeat first|exact z_0|assumption|refine z_1 ?_|(refine z_l ?_;(repeat first|exact z_0|assumption|refine z_1 ?_);done)|refine z_r ?_);done)) (by rfl) ?_)
    refine xr_op rfl rfl (xv_calls rfl hb26 (Turn_c (by omega) (by omega) (up_ret ?_)))
    refine xr_op rfl rfl (xv_assign rfl ?_)
    refine xr_end rfl ?_
    refine th_n ?_
    refine xc_seq (xc_region ?_)
    refine xr_op rfl rfl (xv_faddr fl59_2 rfl ?_)
    refine xr_op rfl rfl (xv_load1 ty3 rfl rfl (by ((repeat first|exact z_0|assumption|refine z_1 ?_|(refine z_l ?_;(repeat first|exact z_0|assumption|refine z_1 ?_);done)|refine z_r ?_);done)) (by rfl) ?_)
    refine xr_op rfl rfl (xv_faddr fl59_2 rfl ?_)
    refine xr_op rfl rfl (xv_load1 ty3 rfl rfl (by ((repeat first|exact z_0|assumption|refine z_1 ?_|(refine z_l ?_;(repeat first|exact z_0|assumption|refine z_1 ?_);done)|refine z_r ?_);done)) (by rfl) ?_)
    refine xr_op rfl rfl (xv_sub rfl rfl (wrap_i64 (by (first | omega | (dsimp only at *; omega) | (simp at *; omega))) (by (first | omega | (dsimp only at *; omega) | (simp at *; omega)))) ?_)
    refine xr_op rfl rfl (xv_move rfl ?_)
    refine xr_op rfl rfl (xv_add rfl rfl (wrap_i64 (by (first | omega | (dsimp only at *; omega) | (simp at *; omega))) (by (first | omega | (dsimp only at *; omega) | (simp at *; omega)))) ?_)
    refine xr_op rfl rfl (xv_move rfl ?_)
    refine xr_op rfl rfl (xv_rem (c := leastF d a b) rfl rfl (by omega) (Int.tmod_eq_emod_of_nonneg (by omega)) ?_)
    refine xr_op rfl rfl (xv_assign rfl ?_)
    refine xr_end rfl ?_
    refine th_n ?_
    refine xc_seq (xc_region ?_)
    cases hst : d.sticks
    · refine xr_op rfl rfl (xv_move rfl ?_)
      refine xr_op rfl rfl (xv_move rfl ?_)
      refine xr_op rfl rfl (xv_geq2 rfl rfl (fun q4 => ?_) (fun q4 => ?_))
      · refine xr_op rfl rfl (xv_move rfl ?_)
        refine xr_gd rfl rfl rfl (xv_faddr fl45_2 rfl ?_)
        refine xr_gd rfl rfl rfl (xv_load1 (v := .bool false) ty4 rfl rfl (by ((repeat first|exact z_0|assumption|refine z_1 ?_|(refine z_l ?_;(repeat first|exact z_0|assumption|refine z_1 ?_);done)|refine z_r ?_);done)) (congrArg (fun x => some (Value.bool x)) hst) ?_)
        refine xr_gd rfl rfl rfl (xv_move rfl ?_)
        refine xr_gd rfl rfl rfl (xv_move rfl ?_)
        refine xr_gd rfl rfl rfl (xv_move rfl ?_)
        refine xr_gd rfl rfl rfl (xv_sub rfl rfl (wrap_i64 (by (first | omega | (dsimp only at *; omega) | (simp at *; omega))) (by (first | omega | (dsimp only at *; omega) | (simp at *; omega)))) ?_)
        refine xr_gd rfl rfl rfl (xv_move rfl ?_)
        refine xr_gd rfl rfl rfl (xv_rem (c := (gas - leastF d a b) % turnI d.digits) rfl rfl (by omega) (Int.tmod_eq_emod_of_nonneg (by omega)) ?_)
        refine xr_gd rfl rfl rfl (xv_eql2 rfl rfl (fun q5 => ?_) (fun q5 => ?_))
        · refine xr_gd rfl rfl rfl (xv_pick rfl rfl ?_)
          refine xr_op rfl rfl (xv_pick rfl rfl ?_)
          refine xr_op rfl rfl (xv_assign rfl ?_)
          refine xr_end rfl ?_
          refine th_n ?_
          refine xc_ret ?_
          refine body_ret (h' := h) rfl (ro_tmp rfl ro_nil) (by (first|((repeat first|exact s_0|exact s_1|exact s_3|refine s_4 ?_|refine s_5 ?_|refine s_6 ?_|refine s_7 ?_);done)|((repeat first|exact s_0|exact s_1|exact s_3|refine s_4 ?_|refine s_5 ?_|refine s_6 ?_|refine s_8 ?_);done))) ?_
          first | (exact H2 (fun hq9 => by have := hq9.1; have := hq9.2.1; omega)) | (exact H2 (fun hq9 => by have := hq9.2.2.1; omega)) | (exact H1 ⟨by omega, by omega, by omega, .inl hst⟩) | (exact H1 ⟨by omega, by omega, by omega, .inr (by omega)⟩) | (exact H2 (fun hq9 => by rcases hq9.2.2.2 with h9 | h9; (rw [hst] at h9; cases h9); omega))
        · refine xr_gd rfl rfl rfl (xv_pick rfl rfl ?_)
          refine xr_op rfl rfl (xv_pick rfl rfl ?_)
          refine xr_op rfl rfl (xv_assign rfl ?_)
          refine xr_end rfl ?_
          refine th_n ?_
          refine xc_ret ?_
          refine body_ret (h' := h) rfl (ro_tmp rfl ro_nil) (by (first|((repeat first|exact s_0|exact s_1|exact s_3|refine s_4 ?_|refine s_5 ?_|refine s_6 ?_|refine s_7 ?_);done)|((repeat first|exact s_0|exact s_1|exact s_3|refine s_4 ?_|refine s_5 ?_|refine s_6 ?_|refine s_8 ?_);done))) ?_
          first | (exact H2 (fun hq9 => by have := hq9.1; have := hq9.2.1; omega)) | (exact H2 (fun hq9 => by have := hq9.2.2.1; omega)) | (exact H1 ⟨by omega, by omega, by omega, .inl hst⟩) | (exact H1 ⟨by omega, by omega, by omega, .inr (by omega)⟩) | (exact H2 (fun hq9 => by rcases hq9.2.2.2 with h9 | h9; (rw [hst] at h9; cases h9); omega))
      · refine xr_op rfl rfl (xv_move rfl ?_)
        refine xr_no rfl rfl rfl rfl ?_
        refine xr_no rfl rfl rfl rfl ?_
        refine xr_no rfl rfl rfl rfl ?_
        refine xr_nu rfl rfl rfl ?_
        refine xr_nu rfl rfl rfl ?_
        refine xr_nu rfl rfl rfl ?_
        refine xr_nu rfl rfl rfl ?_
        refine xr_nu rfl rfl rfl ?_
        refine xr_nu rfl rfl rfl ?_
        refine xr_no rfl rfl rfl rfl ?_
        refine xr_op rfl rfl (xv_pick rfl rfl ?_)
        refine xr_op rfl rfl (xv_assign rfl ?_)
        refine xr_end rfl ?_
        refine th_n ?_
        refine xc_ret ?_
        refine body_ret (h' := h) rfl (ro_tmp rfl ro_nil) (by (first|((repeat first|exact s_0|exact s_1|exact s_3|refine s_4 ?_|refine s_5 ?_|refine s_6 ?_|refine s_7 ?_);done)|((repeat first|exact s_0|exact s_1|exact s_3|refine s_4 ?_|refine s_5 ?_|refine s_6 ?_|refine s_8 ?_);done))) ?_
        first | (exact H2 (fun hq9 => by have := hq9.1; have := hq9.2.1; omega)) | (exact H2 (fun hq9 => by have := hq9.2.2.1; omega)) | (exact H1 ⟨by omega, by omega, by omega, .inl hst⟩) | (exact H1 ⟨by omega, by omega, by omega, .inr (by omega)⟩) | (exact H2 (fun hq9 => by rcases hq9.2.2.2 with h9 | h9; (rw [hst] at h9; cases h9); omega))
    · refine xr_op rfl rfl (xv_move rfl ?_)
      refine xr_op rfl rfl (xv_move rfl ?_)
      refine xr_op rfl rfl (xv_geq2 rfl rfl (fun q6 => ?_) (fun q6 => ?_))
      · refine xr_op rfl rfl (xv_move rfl ?_)
        refine xr_gd rfl rfl rfl (xv_faddr fl45_2 rfl ?_)
        refine xr_gd rfl rfl rfl (xv_load1 (v := .bool true) ty4 rfl rfl (by ((repeat first|exact z_0|assumption|refine z_1 ?_|(refine z_l ?_;(repeat first|exact z_0|assumption|refine z_1 ?_);done)|refine z_r ?_);done)) (congrArg (fun x => some (Value.bool x)) hst) ?_)
        refine xr_gd rfl rfl rfl (xv_move rfl ?_)
        refine xr_no rfl rfl rfl rfl ?_
        refine xr_no rfl rfl rfl rfl ?_
        refine xr_no rfl rfl rfl rfl ?_
        refine xr_no rfl rfl rfl rfl ?_
        refine xr_no rfl rfl rfl rfl ?_
        refine xr_no rfl rfl rfl rfl ?_
        refine xr_gd rfl rfl rfl (xv_pick rfl rfl ?_)
        refine xr_op rfl rfl (xv_pick rfl rfl ?_)
        refine xr_op rfl rfl (xv_assign rfl ?_)
        refine xr_end rfl ?_
        refine th_n ?_
        refine xc_ret ?_
        refine body_ret (h' := h) rfl (ro_tmp rfl ro_nil) (by (first|((repeat first|exact s_0|exact s_1|exact s_3|refine s_4 ?_|refine s_5 ?_|refine s_6 ?_|refine s_7 ?_);done)|((repeat first|exact s_0|exact s_1|exact s_3|refine s_4 ?_|refine s_5 ?_|refine s_6 ?_|refine s_8 ?_);done))) ?_
        first | (exact H2 (fun hq9 => by have := hq9.1; have := hq9.2.1; omega)) | (exact H2 (fun hq9 => by have := hq9.2.2.1; omega)) | (exact H1 ⟨by omega, by omega, by omega, .inl hst⟩) | (exact H1 ⟨by omega, by omega, by omega, .inr (by omega)⟩) | (exact H2 (fun hq9 => by rcases hq9.2.2.2 with h9 | h9; (rw [hst] at h9; cases h9); omega))
      · refine xr_op rfl rfl (xv_move rfl ?_)
        refine xr_no rfl rfl rfl rfl ?_
        refine xr_no rfl rfl rfl rfl ?_
        refine xr_no rfl rfl rfl rfl ?_
        refine xr_nu rfl rfl rfl ?_
        refine xr_nu rfl rfl rfl ?_
        refine xr_nu rfl rfl rfl ?_
        refine xr_nu rfl rfl rfl ?_
        refine xr_nu rfl rfl rfl ?_
        refine xr_nu rfl rfl rfl ?_
        refine xr_no rfl rfl rfl rfl ?_
        refine xr_op rfl rfl (xv_pick rfl rfl ?_)
        refine xr_op rfl rfl (xv_assign rfl ?_)
        refine xr_end rfl ?_
        refine th_n ?_
        refine xc_ret ?_
        refine body_ret (h' := h) rfl (ro_tmp rfl ro_nil) (by (first|((repeat first|exact s_0|exact s_1|exact s_3|refine s_4 ?_|refine s_5 ?_|refine s_6 ?_|refine s_7 ?_);done)|((repeat first|exact s_0|exact s_1|exact s_3|refine s_4 ?_|refine s_5 ?_|refine s_6 ?_|refine s_8 ?_);done))) ?_
        first | (exact H2 (fun hq9 => by have := hq9.1; have := hq9.2.1; omega)) | (exact H2 (fun hq9 => by have := hq9.2.2.1; omega)) | (exact H1 ⟨by omega, by omega, by omega, .inl hst⟩) | (exact H1 ⟨by omega, by omega, by omega, .inr (by omega)⟩) | (exact H2 (fun hq9 => by rcases hq9.2.2.2 with h9 | h9; (rw [hst] at h9; cases h9); omega))
  · refine xr_op rfl rfl (xv_not rfl ?_)
    refine xr_end rfl ?_
    refine th_n ?_
    refine xc_true rfl ?_
    refine xc_seq (xc_region ?_)
    refine xr_op rfl rfl (xv_assign rfl ?_)
    refine xr_end rfl ?_
    refine th_n ?_
    refine xc_ret ?_
    refine th_r ?_
    refine body_ret (h' := h) rfl (ro_tmp rfl ro_nil) (by (first|((repeat first|exact s_0|exact s_1|exact s_3|refine s_4 ?_|refine s_5 ?_|refine s_6 ?_|refine s_7 ?_);done)|((repeat first|exact s_0|exact s_1|exact s_3|refine s_4 ?_|refine s_5 ?_|refine s_6 ?_|refine s_8 ?_);done))) ?_
    first | (exact H2 (fun hq9 => by have := hq9.1; have := hq9.2.1; omega)) | (exact H2 (fun hq9 => by have := hq9.2.2.1; omega)) | (exact H1 ⟨by omega, by omega, by omega, .inl hst⟩) | (exact H1 ⟨by omega, by omega, by omega, .inr (by omega)⟩) | (exact H2 (fun hq9 => by rcases hq9.2.2.2 with h9 | h9; (rw [hst] at h9; cases h9); omega))

theorem pair_c {d : Dial} {a b : Card} {h : Hp} {R : Ending → Hp → Prop} (hd : dialOk d) (ha : ReadOk d a) (hb : ReadOk d b) (hab : a.hour ≤ b.hour)
    (H1 : ∀ s, btw d a b = none → R (.returned (.tuple ⟨[.agg ⟨eSpan s⟩, .bool false]⟩)) h) (H2 : ∀ s, btw d a b = some s → R (.returned (.tuple ⟨[.agg ⟨eSpan s⟩, .bool true]⟩)) h) :
    ACalls Tryd.prog 49 ⟨[.agg ⟨eDial d⟩, .agg ⟨eCard a⟩, .agg ⟨eCard b⟩]⟩ h R := by
  refine calls_of_xc (N := 45) Tryd.func49 rfl (by rfl) ?_
  have htb := turn_bd (n := d.digits) hd.1 hd.2.1
  obtain ⟨l0, l1⟩ := least_bd (a := a) (b := b) hd
  obtain ⟨g1, g2, g3, g4, g5⟩ := id hd
  obtain ⟨⟨a1, a2⟩, a3, a4⟩ := id ha
  obtain ⟨⟨e1, e2⟩, e3, e4⟩ := id hb
  have m1 : 0 ≤ (d.rate.lo * (b.hour - a.hour)) := Int.mul_nonneg g3 (by omega)
  have m2 : (d.rate.lo * (b.hour - a.hour)) ≤ 10000 * 1048576 := Int.mul_le_mul (by omega) (by omega) (by omega) (by omega)
  have m3 : 0 ≤ (d.rate.hi * (b.hour - a.hour)) := Int.mul_nonneg (by omega) (by omega)
  have m4 : (d.rate.hi * (b.hour - a.hour)) ≤ 10000 * 1048576 := Int.mul_le_mul (by omega) (by omega) (by omega) (by omega)
  refine xc_seq (xc_region ?_)
  refine xr_op rfl rfl (xv_box rfl (fun c3 hc3 => ?_))
  refine xr_op rfl rfl (xv_box rfl (fun c4 hc4 => ?_))
  refine xr_op rfl rfl (xv_box rfl (fun c5 hc5 => ?_))
  refine xr_op rfl rfl (xv_alloc ty38 (fun c6 hc6 => ?_))
  refine xr_op rfl rfl (xv_assign rfl ?_)
  refine xr_end rfl ?_
  refine th_n ?_
  refine xc_seq (xc_region ?_)
  refine xr_op rfl rfl (xv_faddr fl59_1 rfl ?_)
  refine xr_op rfl rfl (xv_load1 ty3 rfl rfl (by ((repeat first|exact z_0|assumption|refine z_1 ?_|(refine z_l ?_;(repeat first|exact z_0|assumption|refine z_1 ?_);done)|refine z_r ?_);done)) (by rfl) ?_)
  refine xr_op rfl rfl (xv_faddr fl59_1 rfl ?_)
  refine xr_op rfl rfl (xv_load1 ty3 rfl rfl (by ((repeat first|exact z_0|assumption|refine z_1 ?_|(refine z_l ?_;(repeat first|exact z_0|assumption|refine z_1 ?_);done)|refine z_r ?_);done)) (by rfl) ?_)
  refine xr_op rfl rfl (xv_sub rfl rfl (wrap_i64 (by (first | omega | (dsimp only at *; omega) | (simp at *; omega))) (by (first | omega | (dsimp only at *; omega) | (simp at *; omega)))) ?_)
  refine xr_op rfl rfl (xv_assign rfl ?_)
  refine xr_end rfl ?_
  refine th_n ?_
  refine xc_seq (xc_region ?_)
  refine xr_op rfl rfl (xv_alloc ty38 (fun c9 hc9 => ?_))
  refine xr_end rfl ?_
  refine th_n ?_
  refine xc_seq (xc_region ?_)
  refine xr_op rfl rfl (xv_assign rfl ?_)
  refine xr_end rfl ?_
  refine th_n ?_
  refine xc_seq ?_
  refine xc_seq (xc_region ?_)
  refine xr_op rfl rfl (xv_faddr fl45_1 rfl ?_)
  refine xr_op rfl rfl (xv_faddr fl38_0 rfl ?_)
  refine xr_op rfl rfl (xv_load1 ty3 rfl rfl (by ((repeat first|exact z_0|assumption|refine z_1 ?_|(refine z_l ?_;(repeat first|exact z_0|assumption|refine z_1 ?_);done)|refine z_r ?_);done)) (by rfl) ?_)
  refine xr_op rfl rfl (xv_move rfl ?_)
  refine xr_op rfl rfl (xv_mul rfl rfl (wrap_i64 (by (first | omega | (dsimp only at *; omega) | (simp at *; omega))) (by (first | omega | (dsimp only at *; omega) | (simp at *; omega)))) ?_)
  refine xr_op rfl rfl (xv_assign rfl ?_)
  refine xr_end rfl ?_
  refine th_n ?_
  refine xc_block ?_
  refine xc_loop (σ := Int × Span × Bool) (fun z => (d.rate.lo * (b.hour - a.hour)) ≤ z.1 ∧ z.1 ≤ (d.rate.hi * (b.hour - a.hour)) + 1 ∧ btwH d a b (z.1 - 1) = (if z.2.2 then some z.2.1 else none)) (fun z => ((((((((emp.put (some 3) (.pointer (some ⟨c3, 0, none⟩))).put (some 4) (.pointer (some ⟨c4, 0, none⟩))).put (some 5) (.pointer (some ⟨c5, 0, none⟩))).put (some 6) (.pointer (some ⟨c6, 0, none⟩))).put (some 8) (I (b.hour - a.hour))).put (some 9) (.pointer (some ⟨c9, 0, none⟩))).put (some 10) (.bool z.2.2)).put (some 11) (I z.1))) (fun z => ((c9, .cells ⟨eSpan z.2.1⟩ 38) :: (c6, .cells ⟨[I 0, I 0]⟩ 38) :: (c5, .cells ⟨eCard b⟩ 59) :: (c4, .cells ⟨eCard a⟩ 59) :: (c3, .cells ⟨eDial d⟩ 45) :: h)) (fun z => ((d.rate.hi * (b.hour - a.hour)) + 1 - z.1).toNat) (((d.rate.lo * (b.hour - a.hour)), ⟨0, 0⟩, false) : Int × Span × Bool) ⟨Int.le_refl _, by have := Int.mul_le_mul_of_nonneg_right g4 (show 0 ≤ b.hour - a.hour by omega); dsimp only; omega, btwH_none hd hab⟩ (le_put (le_put (le_put (le_put (le_put (le_put (le_put (le_put (le_emp _) rfl) rfl) rfl) rfl) rfl) rfl) rfl) rfl) (by (first|((repeat first|exact s_0|exact s_1|exact s_3|refine s_4 ?_|refine s_5 ?_|refine s_6 ?_|refine s_7 ?_);done)|((repeat first|exact s_0|exact s_1|exact s_3|refine s_4 ?_|refine s_5 ?_|refine s_6 ?_|refine s_8 ?_);done))) ?_
  rintro ⟨g, s0, fo⟩ ⟨hg1, hg2, hst⟩
  dsimp only at hg1 hg2 hst
  refine xc_seq ?_
  refine xc_seq (xc_region ?_)
  refine xr_op rfl rfl (xv_move rfl ?_)
  refine xr_op rfl rfl (xv_faddr fl45_1 rfl ?_)
  refine xr_op rfl rfl (xv_faddr fl38_1 rfl ?_)
  refine xr_op rfl rfl (xv_load1 ty3 rfl rfl (by ((repeat first|exact z_0|assumption|refine z_1 ?_|(refine z_l ?_;(repeat first|exact z_0|assumption|refine z_1 ?_);done)|refine z_r ?_);done)) (by rfl) ?_)
  refine xr_op rfl rfl (xv_move rfl ?_)
  refine xr_op rfl rfl (xv_mul rfl rfl (wrap_i64 (by (first | omega | (dsimp only at *; omega) | (simp at *; omega))) (by (first | omega | (dsimp only at *; omega) | (simp at *; omega)))) ?_)
  refine xr_op rfl rfl (xv_leq2 rfl rfl (fun q1 => ?_) (fun q1 => ?_))
  · refine xr_end rfl ?_
    refine th_n ?_
    refine xc_true rfl ?_
    refine xc_skip ?_
    refine th_n ?_
    refine xc_seq ?_
    refine xc_block ?_
    refine xc_seq ?_
    refine xc_seq (xc_region ?_)
    refine xr_op rfl rfl (xv_loadA ty45 rfl rfl (by ((repeat first|exact z_0|assumption|refine z_1 ?_|(refine z_l ?_;(repeat first|exact z_0|assumption|refine z_1 ?_);done)|refine z_r ?_);done)) (by ((try apply evl_some rfl);(repeat (first|exact (rfl : _ = [])|apply evl_cons rfl (by (first|exact v_1|exact v_2|exact v_3|exact v_4|exact v_5|exact v_6|exact v_7|exact v_8|exact v_9|exact rfl))|exact rfl)))) (by rfl) ?_)
    refine xr_op rfl rfl (xv_loadA ty59 rfl rfl (by ((repeat first|exact z_0|assumption|refine z_1 ?_|(refine z_l ?_;(repeat first|exact z_0|assumption|refine z_1 ?_);done)|refine z_r ?_);done)) (by ((try apply evl_some rfl);(repeat (first|exact (rfl : _ = [])|apply evl_cons rfl (by (first|exact v_1|exact v_2|exact v_3|exact v_4|exact v_5|exact v_6|exact v_7|exact v_8|exact v_9|exact rfl))|exact rfl)))) (by rfl) ?_)
    refine xr_op rfl rfl (xv_loadA ty59 rfl rfl (by ((repeat first|exact z_0|assumption|refine z_1 ?_|(refine z_l ?_;(repeat first|exact z_0|assumption|refine z_1 ?_);done)|refine z_r ?_);done)) (by ((try apply evl_some rfl);(repeat (first|exact (rfl : _ = [])|apply evl_cons rfl (by (first|exact v_1|exact v_2|exact v_3|exact v_4|exact v_5|exact v_6|exact v_7|exact v_8|exact v_9|exact rfl))|exact rfl)))) (by rfl) ?_)
    refine xr_op rfl rfl (xv_move rfl ?_)
    refine xr_op rfl rfl (xv_calls rfl hb29 (Fits_c hd ha hb hab (fun hft => up_ret ?_) (fun hft => up_ret ?_)))
    · refine xr_op rfl rfl (xv_not rfl ?_)
      refine xr_end rfl ?_
      refine th_n ?_
      refine xc_false rfl ?_
      refine xc_skip ?_
      refine th_n ?_
      refine xc_seq ?_
      refine xc_seq (xc_region ?_)
      cases fo
      · refine xr_op rfl rfl (xv_move rfl ?_)
        refine xr_op rfl rfl (xv_not rfl ?_)
        refine xr_end rfl ?_
        refine th_n ?_
        refine xc_true rfl ?_
        refine xc_region ?_
        refine xr_op rfl rfl (xv_move rfl ?_)
        refine xr_op rfl rfl (xv_faddr fl38_0 rfl ?_)
        refine xr_op rfl rfl (xv_s1 ty3 rfl rfl rfl (by (first|(apply u_3;(repeat first|exact u_0|assumption|apply u_1|apply u_2);done)|((repeat first|exact u_0|assumption|apply u_1|apply u_2);done)|(apply u_3;apply u_3;(repeat first|exact u_0|assumption|apply u_1|apply u_2);done)|((repeat first|exact u_0|assumption|apply u_3|apply u_1);done))) (by (first | rfl | exact Vec.one _ _)) (by (first | decide | exact Nat.le_of_ble_eq_true rfl | (simp only [List.length_cons, List.length_nil]; omega) | (simp; done))) (by ((try apply evl_some rfl);(repeat (first|exact (rfl : _ = [])|apply evl_cons rfl (by (first|exact v_1|exact v_2|exact v_3|exact v_4|exact v_5|exact v_6|exact v_7|exact v_8|exact v_9|exact rfl))|exact rfl)))) ?_)
        refine xr_end rfl ?_
        refine th_n ?_
        refine xc_seq (xc_region ?_)
        refine xr_op rfl rfl (xv_move rfl ?_)
        refine xr_op rfl rfl (xv_faddr fl38_1 rfl ?_)
        refine xr_op rfl rfl (xv_s1 ty3 rfl rfl rfl (by (first|(apply u_3;(repeat first|exact u_0|assumption|apply u_1|apply u_2);done)|((repeat first|exact u_0|assumption|apply u_1|apply u_2);done)|(apply u_3;apply u_3;(repeat first|exact u_0|assumption|apply u_1|apply u_2);done)|((repeat first|exact u_0|assumption|apply u_3|apply u_1);done))) (by (first | rfl | exact Vec.one _ _)) (by (first | decide | exact Nat.le_of_ble_eq_true rfl | (simp only [List.length_cons, List.length_nil]; omega) | (simp; done))) (by ((try apply evl_some rfl);(repeat (first|exact (rfl : _ = [])|apply evl_cons rfl (by (first|exact v_1|exact v_2|exact v_3|exact v_4|exact v_5|exact v_6|exact v_7|exact v_8|exact v_9|exact rfl))|exact rfl)))) ?_)
        refine xr_end rfl ?_
        refine th_n ?_
        refine xc_region ?_
        refine xr_op rfl rfl (xv_assign rfl ?_)
        refine xr_end rfl ?_
        refine bk_n ?_
        refine th_n ?_
        refine xc_region ?_
        refine xr_op rfl rfl (xv_move rfl ?_)
        refine xr_op rfl rfl (xv_add rfl rfl (wrap_i64 (by (first | omega | (dsimp only at *; omega) | (simp at *; omega))) (by (first | omega | (dsimp only at *; omega) | (simp at *; omega)))) ?_)
        refine xr_op rfl rfl (xv_assign rfl ?_)
        refine xr_end rfl ?_
        have hstp := (btwH_step hd hab hg1 (by (first | omega | (dsimp only at *; omega) | (simp at *; omega)))).1 hft
        rw [hst] at hstp
        exact rnd ((g + 1, ⟨g, g⟩, true) : Int × Span × Bool) ⟨by (first | omega | (dsimp only at *; omega) | (simp at *; omega)), by (first | omega | (dsimp only at *; omega) | (simp at *; omega)), by dsimp only; rw [show g + 1 - 1 = g by omega, hstp]; first | exact hst | rfl⟩ (by (first | omega | (dsimp only at *; omega) | (simp at *; omega))) (le_put (le_put (le_put (le_put (le_put (le_put (le_put (le_put (le_emp _) rfl) rfl) rfl) rfl) rfl) rfl) rfl) rfl) (by (first|((repeat first|exact s_0|exact s_1|exact s_3|refine s_4 ?_|refine s_5 ?_|refine s_6 ?_|refine s_7 ?_);done)|((repeat first|exact s_0|exact s_1|exact s_3|refine s_4 ?_|refine s_5 ?_|refine s_6 ?_|refine s_8 ?_);done)))
      · refine xr_op rfl rfl (xv_move rfl ?_)
        refine xr_op rfl rfl (xv_not rfl ?_)
        refine xr_end rfl ?_
        refine th_n ?_
        refine xc_false rfl ?_
        refine xc_skip ?_
        refine th_n ?_
        refine xc_seq (xc_region ?_)
        refine xr_op rfl rfl (xv_move rfl ?_)
        refine xr_op rfl rfl (xv_faddr fl38_1 rfl ?_)
        refine xr_op rfl rfl (xv_s1 ty3 rfl rfl rfl (by (first|(apply u_3;(repeat first|exact u_0|assumption|apply u_1|apply u_2);done)|((repeat first|exact u_0|assumption|apply u_1|apply u_2);done)|(apply u_3;apply u_3;(repeat first|exact u_0|assumption|apply u_1|apply u_2);done)|((repeat first|exact u_0|assumption|apply u_3|apply u_1);done))) (by (first | rfl | exact Vec.one _ _)) (by (first | decide | exact Nat.le_of_ble_eq_true rfl | (simp only [List.length_cons, List.length_nil]; omega) | (simp; done))) (by ((try apply evl_some rfl);(repeat (first|exact (rfl : _ = [])|apply evl_cons rfl (by (first|exact v_1|exact v_2|exact v_3|exact v_4|exact v_5|exact v_6|exact v_7|exact v_8|exact v_9|exact rfl))|exact rfl)))) ?_)
        refine xr_end rfl ?_
        refine th_n ?_
        refine xc_region ?_
        refine xr_op rfl rfl (xv_assign rfl ?_)
        refine xr_end rfl ?_
        refine bk_n ?_
        refine th_n ?_
        refine xc_region ?_
        refine xr_op rfl rfl (xv_move rfl ?_)
        refine xr_op rfl rfl (xv_add rfl rfl (wrap_i64 (by (first | omega | (dsimp only at *; omega) | (simp at *; omega))) (by (first | omega | (dsimp only at *; omega) | (simp at *; omega)))) ?_)
        refine xr_op rfl rfl (xv_assign rfl ?_)
        refine xr_end rfl ?_
        have hstp := (btwH_step hd hab hg1 (by (first | omega | (dsimp only at *; omega) | (simp at *; omega)))).1 hft
        rw [hst] at hstp
        exact rnd ((g + 1, ⟨s0.lo, g⟩, true) : Int × Span × Bool) ⟨by (first | omega | (dsimp only at *; omega) | (simp at *; omega)), by (first | omega | (dsimp only at *; omega) | (simp at *; omega)), by dsimp only; rw [show g + 1 - 1 = g by omega, hstp]; first | exact hst | rfl⟩ (by (first | omega | (dsimp only at *; omega) | (simp at *; omega))) (le_put (le_put (le_put (le_put (le_put (le_put (le_put (le_put (le_emp _) rfl) rfl) rfl) rfl) rfl) rfl) rfl) rfl) (by (first|((repeat first|exact s_0|exact s_1|exact s_3|refine s_4 ?_|refine s_5 ?_|refine s_6 ?_|refine s_7 ?_);done)|((repeat first|exact s_0|exact s_1|exact s_3|refine s_4 ?_|refine s_5 ?_|refine s_6 ?_|refine s_8 ?_);done)))
    · refine xr_op rfl rfl (xv_not rfl ?_)
      refine xr_end rfl ?_
      refine th_n ?_
      refine xc_true rfl ?_
      refine xc_exit ?_
      refine th_x ?_
      refine bk_same ?_
      refine th_n ?_
      refine xc_region ?_
      refine xr_op rfl rfl (xv_move rfl ?_)
      refine xr_op rfl rfl (xv_add rfl rfl (wrap_i64 (by (first | omega | (dsimp only at *; omega) | (simp at *; omega))) (by (first | omega | (dsimp only at *; omega) | (simp at *; omega)))) ?_)
      refine xr_op rfl rfl (xv_assign rfl ?_)
      refine xr_end rfl ?_
      have hstp := (btwH_step hd hab hg1 (by (first | omega | (dsimp only at *; omega) | (simp at *; omega)))).2 hft
      exact rnd ((g + 1, s0, fo) : Int × Span × Bool) ⟨by (first | omega | (dsimp only at *; omega) | (simp at *; omega)), by (first | omega | (dsimp only at *; omega) | (simp at *; omega)), by dsimp only; rw [show g + 1 - 1 = g by omega, hstp]; first | exact hst | rfl⟩ (by (first | omega | (dsimp only at *; omega) | (simp at *; omega))) (le_put (le_put (le_put (le_put (le_put (le_put (le_put (le_put (le_emp _) rfl) rfl) rfl) rfl) rfl) rfl) rfl) rfl) (by (first|((repeat first|exact s_0|exact s_1|exact s_3|refine s_4 ?_|refine s_5 ?_|refine s_6 ?_|refine s_7 ?_);done)|((repeat first|exact s_0|exact s_1|exact s_3|refine s_4 ?_|refine s_5 ?_|refine s_6 ?_|refine s_8 ?_);done)))
  · refine xr_end rfl ?_
    refine th_n ?_
    refine xc_false rfl ?_
    refine xc_exit ?_
    refine th_x ?_
    refine th_x ?_
    refine bk_same ?_
    refine th_n ?_
    refine xc_seq (xc_region ?_)
    have hge : g = (d.rate.hi * (b.hour - a.hour)) + 1 := by (first | omega | (dsimp only at *; omega) | (simp at *; omega))
    rw [hge, show (d.rate.hi * (b.hour - a.hour)) + 1 - 1 = (d.rate.hi * (b.hour - a.hour)) by omega, btwH_all] at hst
    refine xr_op rfl rfl (xv_loadA ty38 rfl rfl (by ((repeat first|exact z_0|assumption|refine z_1 ?_|(refine z_l ?_;(repeat first|exact z_0|assumption|refine z_1 ?_);done)|refine z_r ?_);done)) (by ((try apply evl_some rfl);(repeat (first|exact (rfl : _ = [])|apply evl_cons rfl (by (first|exact v_1|exact v_2|exact v_3|exact v_4|exact v_5|exact v_6|exact v_7|exact v_8|exact v_9|exact rfl))|exact rfl)))) (by rfl) ?_)
    refine xr_op rfl rfl (xv_move rfl ?_)
    refine xr_op rfl rfl (xv_s ty38 rfl rfl (by (first|(apply u_3;(repeat first|exact u_0|assumption|apply u_1|apply u_2);done)|((repeat first|exact u_0|assumption|apply u_1|apply u_2);done)|(apply u_3;apply u_3;(repeat first|exact u_0|assumption|apply u_1|apply u_2);done)|((repeat first|exact u_0|assumption|apply u_3|apply u_1);done))) (by ((try apply evl_some rfl);(repeat (first|exact (rfl : _ = [])|apply evl_cons rfl (by (first|exact v_1|exact v_2|exact v_3|exact v_4|exact v_5|exact v_6|exact v_7|exact v_8|exact v_9|exact rfl))|exact rfl)))) (by rfl) (by rfl) (by rfl) (by ((try apply evl_some rfl);(repeat (first|exact (rfl : _ = [])|apply evl_cons rfl (by (first|exact v_1|exact v_2|exact v_3|exact v_4|exact v_5|exact v_6|exact v_7|exact v_8|exact v_9|exact rfl))|exact rfl)))) ?_)
    refine xr_op rfl rfl (xv_assign rfl ?_)
    refine xr_end rfl ?_
    refine th_n ?_
    refine xc_ret ?_
    refine body_ret (h' := h) rfl (ro_cellA ty38 rfl rfl (by ((repeat first|exact z_0|assumption|refine z_1 ?_|(refine z_l ?_;(repeat first|exact z_0|assumption|refine z_1 ?_);done)|refine z_r ?_);done)) (by rfl) (by rfl) (ro_tmp rfl ro_nil)) (by (first|((repeat first|exact s_0|exact s_1|exact s_3|refine s_4 ?_|refine s_5 ?_|refine s_6 ?_|refine s_7 ?_);done)|((repeat first|exact s_0|exact s_1|exact s_3|refine s_4 ?_|refine s_5 ?_|refine s_6 ?_|refine s_8 ?_);done))) ?_
    cases fo
    · exact H1 s0 hst
    · exact H2 s0 hst

theorem rpairs_c {d : Dial} {l : List Card} {sl : Option Addr} {sc : Nat} {h : Hp} {R : Ending → Hp → Prop} (hd : dialOk d) (hl : SlV h 3 eCard sl l) (hll : l.length ≤ 48) (hr : Rise l) (ho : ∀ c ∈ l, ReadOk d c)
    (H1 : pairsL d l = none → R (.returned (.tuple ⟨[.slice none 0 0, .bool false]⟩)) h) (H2 : ∀ out V, pairsL d l = some out → Vec.ok V 2 out.length (out.flatMap eSpan) → R (.returned (.tuple ⟨[V.val out.length, .bool true]⟩)) (V.hp 38 (out.flatMap eSpan) ++ h)) :
    ACalls Tryd.prog 35 ⟨[.agg ⟨eDial d⟩, .slice sl l.length sc]⟩ h R := by
  refine calls_of_xc (N := 37) Tryd.func35 rfl (by rfl) ?_
  refine xc_seq (xc_region ?_)
  refine xr_op rfl rfl (xv_box rfl (fun b2 hb2 => ?_))
  refine xr_op rfl rfl (xv_assign rfl ?_)
  refine xr_op rfl rfl (xv_assign rfl ?_)
  refine xr_end rfl ?_
  refine th_n ?_
  refine xc_seq (xc_region ?_)
  refine xr_op rfl rfl (xv_assign rfl ?_)
  refine xr_end rfl ?_
  refine th_n ?_
  refine xc_seq ?_
  refine xc_seq (xc_region ?_)
  refine xr_op rfl rfl (xv_assign rfl ?_)
  refine xr_end rfl ?_
  refine th_n ?_
  refine xc_block ?_
  refine xc_loop (σ := Nat × List Span × Vec) (fun z => 1 ≤ z.1 ∧ z.2.1.length + 1 = z.1 ∧ pairsL d l = (pairsL d (l.drop (z.1 - 1))).map (z.2.1 ++ ·) ∧ z.2.2.ok 2 z.2.1.length (z.2.1.flatMap eSpan)) (fun z => ((((emp.put (some 1) (.slice sl l.length sc)).put (some 2) (.pointer (some ⟨b2, 0, none⟩))).put (some 6) (z.2.2.val z.2.1.length)).put (some 7) (I z.1))) (fun z => (z.2.2.hp 38 (z.2.1.flatMap eSpan) ++ (b2, .cells ⟨eDial d⟩ 45) :: h)) (fun z => l.length - z.1) ((1, [], .nil) : Nat × List Span × Vec) ⟨Nat.le_refl _, rfl, by simp, rfl, rfl⟩ (le_put (le_put (le_put (le_put (le_emp _) rfl) rfl) rfl) rfl) (by (first|((repeat first|exact s_0|exact s_1|exact s_3|refine s_4 ?_|refine s_5 ?_|refine s_6 ?_|refine s_7 ?_);done)|((repeat first|exact s_0|exact s_1|exact s_3|refine s_4 ?_|refine s_5 ?_|refine s_6 ?_|refine s_8 ?_);done))) ?_
  rintro ⟨i, out, V⟩ ⟨hi1, hol, heq, hV⟩
  dsimp only at hi1 hol heq hV
  refine xc_seq ?_
  refine xc_seq (xc_region ?_)
  refine xr_op rfl rfl (xv_move rfl ?_)
  refine xr_op rfl rfl (xv_move rfl ?_)
  refine xr_op rfl rfl (xv_len sl23 rfl ?_)
  refine xr_op rfl rfl (xv_lss2 rfl rfl (fun q1 => ?_) (fun q1 => ?_))
  · refine xr_end rfl ?_
    refine th_n ?_
    refine xc_true rfl ?_
    refine xc_skip ?_
    refine th_n ?_
    refine xc_seq ?_
    refine xc_block ?_
    refine xc_seq ?_
    refine xc_draw0 [(0, .R), (1, .S), (2, .S), (3, .S), (4, .S), (5, .R), (6, .S), (7, .S), (8, .S), (9, .R), (14, .P), (10, .O), (11, .S), (12, .S), (13, .S), (14, .A), (15, .O), (16, .S)] mixed (by kernel_rfl) ?_
    refine js_R0 rfl rfl (.inl rfl) (xv_loadA ty45 rfl rfl (by ((repeat first|exact z_0|assumption|refine z_1 ?_|(refine z_l ?_;(repeat first|exact z_0|assumption|refine z_1 ?_);done)|refine z_r ?_);done)) (by ((try apply evl_some rfl);(repeat (first|exact (rfl : _ = [])|apply evl_cons rfl (by (first|exact v_1|exact v_2|exact v_3|exact v_4|exact v_5|exact v_6|exact v_7|exact v_8|exact v_9|exact rfl))|exact rfl)))) (by rfl) ⟨rfl, rfl⟩) ?_
    refine js_S rfl rfl (.inl rfl) (xv_move rfl ⟨rfl, rfl⟩) ?_
    refine js_S rfl rfl (.inl rfl) (xv_move rfl ⟨rfl, rfl⟩) ?_
    refine js_S rfl rfl (.inl rfl) (xv_sub rfl rfl (wrap_i64 (by (first | omega | (dsimp only at *; omega) | (simp at *; omega))) (by (first | omega | (dsimp only at *; omega) | (simp at *; omega)))) ⟨rfl, rfl⟩) ?_
    have hltp : (i - 1) < l.length := by (first | omega | (dsimp only at *; omega) | (simp at *; omega))
    obtain ⟨bp, op, lp, tp, fzp, hap, hmp, hxp⟩ := (hl).at hltp
    obtain ⟨xp, hkp⟩ : ∃ qq_, l[(i - 1)]? = some qq_ := ⟨_, List.getElem?_eq_getElem hltp⟩
    have hltq : i < l.length := by (first | omega | (dsimp only at *; omega) | (simp at *; omega))
    obtain ⟨bq, oq, lq, tq, fzq, haq, hmq, hxq⟩ := (hl).at hltq
    obtain ⟨xq, hkq⟩ : ∃ qq_, l[i]? = some qq_ := ⟨_, List.getElem?_eq_getElem hltq⟩
    refine js_S rfl rfl (.inl rfl) (xv_ia (sz := 3) (j := i - 1) sl23 ty59 rfl (by rw [hap]; rfl) rfl (by (first | omega | (dsimp only at *; omega) | (simp at *; omega))) (by (first | omega | (dsimp only at *; omega) | (simp at *; omega))) (by (first | omega | (dsimp only at *; omega) | (simp at *; omega))) ⟨rfl, rfl⟩) ?_
    refine js_R0 rfl rfl (.inl rfl) (xv_loadA ty59 rfl rfl (by ((repeat first|exact z_0|assumption|refine z_1 ?_|(refine z_l ?_;(repeat first|exact z_0|assumption|refine z_1 ?_);done)|refine z_r ?_);done)) (hxp (i - 1) xp hkp) rfl ⟨rfl, rfl⟩) ?_
    refine js_S rfl rfl (.inl rfl) (xv_move rfl ⟨rfl, rfl⟩) ?_
    refine js_S rfl rfl (.inl rfl) (xv_move rfl ⟨rfl, rfl⟩) ?_
    refine js_S rfl rfl (.inl rfl) (xv_ia (sz := 3) sl23 ty59 rfl (by rw [haq]; rfl) rfl (by (first | assumption | with_reducible exact Int.toNat_natCast _ | with_reducible rfl | rfl)) (by (first | omega | (dsimp only at *; omega) | (simp at *; omega))) (by (first | omega | (dsimp only at *; omega) | (simp at *; omega))) ⟨rfl, rfl⟩) ?_
    refine js_R0 rfl rfl (.inl rfl) (xv_loadA ty59 rfl rfl (by ((repeat first|exact z_0|assumption|refine z_1 ?_|(refine z_l ?_;(repeat first|exact z_0|assumption|refine z_1 ?_);done)|refine z_r ?_);done)) (hxq (i) xq hkq) rfl ⟨rfl, rfl⟩) ?_
    refine js_P rfl rfl rfl (al_alloc ty38) ?_
    refine js_O0 rfl rfl (.inl rfl) (xv_calls rfl hb49 (pair_c hd (ho _ (List.mem_of_getElem? hkp)) (ho _ (List.mem_of_getElem? hkq)) (Int.le_of_lt (hr.get (by omega) hkp hkq)) (fun s hbn => up_ret ?_) (fun s hbs => up_ret ?_)))
    · refine js_S rfl rfl (.inl rfl) (xv_move rfl ⟨rfl, rfl⟩) ?_
      refine js_S rfl rfl (.inl rfl) (xv_extract rfl rfl ⟨rfl, rfl⟩) ?_
      refine js_S rfl rfl (.inl rfl) (xv_extract rfl rfl ⟨rfl, rfl⟩) ?_
      refine js_A0 rfl rfl rfl rfl rfl trivial (fun b8 hb8 => ?_)
      refine js_O0 rfl rfl (.inl rfl) (xv_s ty38 rfl rfl (by (first|(apply u_3;(repeat first|exact u_0|assumption|apply u_1|apply u_2);done)|((repeat first|exact u_0|assumption|apply u_1|apply u_2);done)|(apply u_3;apply u_3;(repeat first|exact u_0|assumption|apply u_1|apply u_2);done)|((repeat first|exact u_0|assumption|apply u_3|apply u_1);done))) (by ((try apply evl_some rfl);(repeat (first|exact (rfl : _ = [])|apply evl_cons rfl (by (first|exact v_1|exact v_2|exact v_3|exact v_4|exact v_5|exact v_6|exact v_7|exact v_8|exact v_9|exact rfl))|exact rfl)))) (by rfl) (by rfl) (by rfl) (by ((try apply evl_some rfl);(repeat (first|exact (rfl : _ = [])|apply evl_cons rfl (by (first|exact v_1|exact v_2|exact v_3|exact v_4|exact v_5|exact v_6|exact v_7|exact v_8|exact v_9|exact rfl))|exact rfl)))) ?_)
      refine js_S rfl rfl (.inl rfl) (xv_assign rfl ⟨rfl, rfl⟩) ?_
      refine j_end0 ?_
      refine th_n ?_
      refine xc_seq ?_
      refine xc_seq (xc_region ?_)
      refine xr_op rfl rfl (xv_move rfl ?_)
      refine xr_op rfl rfl (xv_not rfl ?_)
      refine xr_end rfl ?_
      refine th_n ?_
      refine xc_true rfl ?_
      refine xc_seq (xc_region ?_)
      refine xr_op rfl rfl (xv_assign rfl ?_)
      refine xr_op rfl rfl (xv_assign rfl ?_)
      refine xr_end rfl ?_
      refine th_n ?_
      refine xc_ret ?_
      refine th_r ?_
      refine bk_r ?_
      refine th_r ?_
      refine th_r ?_
      refine bk_r ?_
      refine th_r ?_
      refine body_ret (h' := h) rfl (ro_tmp rfl (ro_tmp rfl ro_nil)) (by (first|((repeat first|exact s_0|exact s_1|exact s_3|refine s_4 ?_|refine s_5 ?_|refine s_6 ?_|refine s_7 ?_);done)|((repeat first|exact s_0|exact s_1|exact s_3|refine s_4 ?_|refine s_5 ?_|refine s_6 ?_|refine s_8 ?_);done))) ?_
      first | exact H1 (by rw [heq, pairs_drop (by omega) hkp hkq, hbn]; rfl) | exact H2 out V (by rw [heq, pairs_end (by (first | omega | (dsimp only at *; omega) | (simp at *; omega)))]; simp) hV
    · refine js_S rfl rfl (.inl rfl) (xv_move rfl ⟨rfl, rfl⟩) ?_
      refine js_S rfl rfl (.inl rfl) (xv_extract rfl rfl ⟨rfl, rfl⟩) ?_
      refine js_S rfl rfl (.inl rfl) (xv_extract rfl rfl ⟨rfl, rfl⟩) ?_
      refine js_A0 rfl rfl rfl rfl rfl trivial (fun b8 hb8 => ?_)
      refine js_O0 rfl rfl (.inl rfl) (xv_s ty38 rfl rfl (by (first|(apply u_3;(repeat first|exact u_0|assumption|apply u_1|apply u_2);done)|((repeat first|exact u_0|assumption|apply u_1|apply u_2);done)|(apply u_3;apply u_3;(repeat first|exact u_0|assumption|apply u_1|apply u_2);done)|((repeat first|exact u_0|assumption|apply u_3|apply u_1);done))) (by ((try apply evl_some rfl);(repeat (first|exact (rfl : _ = [])|apply evl_cons rfl (by (first|exact v_1|exact v_2|exact v_3|exact v_4|exact v_5|exact v_6|exact v_7|exact v_8|exact v_9|exact rfl))|exact rfl)))) (by rfl) (by rfl) (by rfl) (by ((try apply evl_some rfl);(repeat (first|exact (rfl : _ = [])|apply evl_cons rfl (by (first|exact v_1|exact v_2|exact v_3|exact v_4|exact v_5|exact v_6|exact v_7|exact v_8|exact v_9|exact rfl))|exact rfl)))) ?_)
      refine js_S rfl rfl (.inl rfl) (xv_assign rfl ⟨rfl, rfl⟩) ?_
      refine j_end0 ?_
      refine th_n ?_
      refine xc_seq ?_
      refine xc_seq (xc_region ?_)
      refine xr_op rfl rfl (xv_move rfl ?_)
      refine xr_op rfl rfl (xv_not rfl ?_)
      refine xr_end rfl ?_
      refine th_n ?_
      refine xc_false rfl ?_
      refine xc_skip ?_
      refine th_n ?_
      refine xc_region ?_
      refine xr_op rfl rfl (xv_move rfl ?_)
      refine xr_op rfl rfl (xv_loadA ty38 rfl rfl (by ((repeat first|exact z_0|assumption|refine z_1 ?_|(refine z_l ?_;(repeat first|exact z_0|assumption|refine z_1 ?_);done)|refine z_r ?_);done)) (by ((try apply evl_some rfl);(repeat (first|exact (rfl : _ = [])|apply evl_cons rfl (by (first|exact v_1|exact v_2|exact v_3|exact v_4|exact v_5|exact v_6|exact v_7|exact v_8|exact v_9|exact rfl))|exact rfl)))) (by rfl) ?_)
      refine xr_op rfl rfl ((al_buildSlice sl28 ty38 rfl rfl rfl rfl rfl (by ((try apply evl_some rfl);(repeat (first|exact (rfl : _ = [])|apply evl_cons rfl (by (first|exact v_1|exact v_2|exact v_3|exact v_4|exact v_5|exact v_6|exact v_7|exact v_8|exact v_9|exact rfl))|exact rfl))))).xv (fun b5 hb5 => ?_))
      refine xr_op rfl rfl (xv_append (V := V) (n := out.length) (xs := out.flatMap eSpan) sl28 ty38 rfl rfl rfl hV (.there (.there .here)) (by ((repeat first|exact z_0|assumption|refine z_1 ?_|(refine z_l ?_;(repeat first|exact z_0|assumption|refine z_1 ?_);done)|refine z_r ?_);done)) (by ((try apply evl_some rfl);(repeat (first|exact (rfl : _ = [])|apply evl_cons rfl (by (first|exact v_1|exact v_2|exact v_3|exact v_4|exact v_5|exact v_6|exact v_7|exact v_8|exact v_9|exact rfl))|exact rfl)))) rfl rfl (by (first | omega | (dsimp only at *; omega) | (simp at *; omega))) (by simp only []; (first | omega | (dsimp only at *; omega) | (simp at *; omega))) (by (first | omega | (dsimp only at *; omega) | (simp at *; omega))) (fun V2 hV2 => ?_))
      refine xr_op rfl rfl (xv_assign rfl ?_)
      refine xr_end rfl ?_
      refine bk_n ?_
      refine th_n ?_
      refine xc_region ?_
      refine xr_op rfl rfl (xv_move rfl ?_)
      refine xr_op rfl rfl (xv_add rfl rfl (wrap_i64 (by (first | omega | (dsimp only at *; omega) | (simp at *; omega))) (by (first | omega | (dsimp only at *; omega) | (simp at *; omega)))) ?_)
      refine xr_op rfl rfl (xv_assign rfl ?_)
      refine xr_end rfl ?_
      exact rnd ((i + 1, out ++ [s], V2) : Nat × List Span × Vec) ⟨by (first | omega | (dsimp only at *; omega) | (simp at *; omega)), by simp only [List.length_append, List.length_singleton]; (first | omega | (dsimp only at *; omega) | (simp at *; omega)), by dsimp only; rw [heq, pairs_drop (by omega) hkp hkq, hbs, Nat.add_sub_cancel]; simp [Option.map_map, Function.comp_def], by simpa [eSpan] using hV2⟩ (by (first | omega | (dsimp only at *; omega) | (simp at *; omega))) (le_put (le_put (le_put (le_put (le_emp _) rfl) rfl) (by dsimp only; rw [List.length_append]; rfl)) rfl) (by simp only [List.flatMap_append, List.flatMap_cons, List.flatMap_nil, List.append_nil]; (first|((repeat first|exact s_0|exact s_1|exact s_3|refine s_4 ?_|refine s_5 ?_|refine s_6 ?_|refine s_7 ?_);done)|((repeat first|exact s_0|exact s_1|exact s_3|refine s_4 ?_|refine s_5 ?_|refine s_6 ?_|refine s_8 ?_);done)))
  · refine xr_end rfl ?_
    refine th_n ?_
    refine xc_false rfl ?_
    refine xc_exit ?_
    refine th_x ?_
    refine th_x ?_
    refine bk_same ?_
    refine th_n ?_
    refine xc_seq (xc_region ?_)
    refine xr_op rfl rfl (xv_move rfl ?_)
    refine xr_op rfl rfl (xv_assign rfl ?_)
    refine xr_op rfl rfl (xv_assign rfl ?_)
    refine xr_end rfl ?_
    refine th_n ?_
    refine xc_ret ?_
    refine body_ret (h' := (V.hp 38 (out.flatMap eSpan) ++ h)) rfl (ro_tmp rfl (ro_tmp rfl ro_nil)) (by (first|((repeat first|exact s_0|exact s_1|exact s_3|refine s_4 ?_|refine s_5 ?_|refine s_6 ?_|refine s_7 ?_);done)|((repeat first|exact s_0|exact s_1|exact s_3|refine s_4 ?_|refine s_5 ?_|refine s_6 ?_|refine s_8 ?_);done))) ?_
    first | exact H1 (by rw [heq, pairs_drop (by omega) hkp hkq, hbn]; rfl) | exact H2 out V (by rw [heq, pairs_end (by (first | omega | (dsimp only at *; omega) | (simp at *; omega)))]; simp) hV

theorem rpart_c {d : Dial} {s : Span} {so re : Int} {h : Hp} {R : Ending → Hp → Prop} (hp : PartBd d so re s) (H : R (.returned (.agg ⟨eSpan (partF d so re s)⟩)) h) : ACalls Tryd.prog 38 ⟨[.agg ⟨eDial d⟩, .agg ⟨eSpan s⟩, I so, I re]⟩ h R := by
  refine calls_of_xc (N := 38) Tryd.func38 rfl (by rfl) ?_
  obtain ⟨z0, z1, z2, z3, z4, z5, z6, z7, z8, z9, z10, z11, z12⟩ := hp
  refine xc_seq (xc_region ?_)
  refine xr_op rfl rfl (xv_box rfl (fun b4 hb4 => ?_))
  refine xr_op rfl rfl (xv_box rfl (fun b5 hb5 => ?_))
  refine xr_op rfl rfl (xv_alloc ty38 (fun b8 hb8 => ?_))
  refine xr_end rfl ?_
  refine th_n ?_
  refine xc_seq (xc_region ?_)
  refine xr_op rfl rfl (xv_faddr fl45_1 rfl ?_)
  refine xr_op rfl rfl (xv_faddr fl38_0 rfl ?_)
  refine xr_op rfl rfl (xv_load1 ty3 rfl rfl (by ((repeat first|exact z_0|assumption|refine z_1 ?_|(refine z_l ?_;(repeat first|exact z_0|assumption|refine z_1 ?_);done)|refine z_r ?_);done)) (by rfl) ?_)
  refine xr_op rfl rfl (xv_move rfl ?_)
  refine xr_op rfl rfl (xv_mul rfl rfl (wrap_i64 (by (first | omega | (dsimp only at *; omega) | (simp at *; omega))) (by (first | omega | (dsimp only at *; omega) | (simp at *; omega)))) ?_)
  refine xr_op rfl rfl (xv_faddr fl38_0 rfl ?_)
  refine xr_op rfl rfl (xv_load1 ty3 rfl rfl (by ((repeat first|exact z_0|assumption|refine z_1 ?_|(refine z_l ?_;(repeat first|exact z_0|assumption|refine z_1 ?_);done)|refine z_r ?_);done)) (by rfl) ?_)
  refine xr_op rfl rfl (xv_faddr fl45_1 rfl ?_)
  refine xr_op rfl rfl (xv_faddr fl38_1 rfl ?_)
  refine xr_op rfl rfl (xv_load1 ty3 rfl rfl (by ((repeat first|exact z_0|assumption|refine z_1 ?_|(refine z_l ?_;(repeat first|exact z_0|assumption|refine z_1 ?_);done)|refine z_r ?_);done)) (by rfl) ?_)
  refine xr_op rfl rfl (xv_move rfl ?_)
  refine xr_op rfl rfl (xv_mul rfl rfl (wrap_i64 (by (first | omega | (dsimp only at *; omega) | (simp at *; omega))) (by (first | omega | (dsimp only at *; omega) | (simp at *; omega)))) ?_)
  refine xr_op rfl rfl (xv_sub rfl rfl (wrap_i64 (by (first | omega | (dsimp only at *; omega) | (simp at *; omega))) (by (first | omega | (dsimp only at *; omega) | (simp at *; omega)))) ?_)
  refine xr_op rfl rfl (xv_max rfl rfl rfl ?_)
  refine xr_op rfl rfl (xv_faddr fl45_1 rfl ?_)
  refine xr_op rfl rfl (xv_faddr fl38_1 rfl ?_)
  refine xr_op rfl rfl (xv_load1 ty3 rfl rfl (by ((repeat first|exact z_0|assumption|refine z_1 ?_|(refine z_l ?_;(repeat first|exact z_0|assumption|refine z_1 ?_);done)|refine z_r ?_);done)) (by rfl) ?_)
  refine xr_op rfl rfl (xv_move rfl ?_)
  refine xr_op rfl rfl (xv_mul rfl rfl (wrap_i64 (by (first | omega | (dsimp only at *; omega) | (simp at *; omega))) (by (first | omega | (dsimp only at *; omega) | (simp at *; omega)))) ?_)
  refine xr_op rfl rfl (xv_faddr fl38_1 rfl ?_)
  refine xr_op rfl rfl (xv_load1 ty3 rfl rfl (by ((repeat first|exact z_0|assumption|refine z_1 ?_|(refine z_l ?_;(repeat first|exact z_0|assumption|refine z_1 ?_);done)|refine z_r ?_);done)) (by rfl) ?_)
  refine xr_op rfl rfl (xv_faddr fl45_1 rfl ?_)
  refine xr_op rfl rfl (xv_faddr fl38_0 rfl ?_)
  refine xr_op rfl rfl (xv_load1 ty3 rfl rfl (by ((repeat first|exact z_0|assumption|refine z_1 ?_|(refine z_l ?_;(repeat first|exact z_0|assumption|refine z_1 ?_);done)|refine z_r ?_);done)) (by rfl) ?_)
  refine xr_op rfl rfl (xv_move rfl ?_)
  refine xr_op rfl rfl (xv_mul rfl rfl (wrap_i64 (by (first | omega | (dsimp only at *; omega) | (simp at *; omega))) (by (first | omega | (dsimp only at *; omega) | (simp at *; omega)))) ?_)
  refine xr_op rfl rfl (xv_sub rfl rfl (wrap_i64 (by (first | omega | (dsimp only at *; omega) | (simp at *; omega))) (by (first | omega | (dsimp only at *; omega) | (simp at *; omega)))) ?_)
  refine xr_op rfl rfl (xv_min rfl rfl rfl ?_)
  refine xr_op rfl rfl (xv_build bt38 rfl (by ((try apply evl_some rfl);(repeat (first|exact (rfl : _ = [])|apply evl_cons rfl (by (first|exact v_1|exact v_2|exact v_3|exact v_4|exact v_5|exact v_6|exact v_7|exact v_8|exact v_9|exact rfl))|exact rfl)))) ?_)
  refine xr_op rfl rfl (xv_s ty38 rfl rfl (by (first|(apply u_3;(repeat first|exact u_0|assumption|apply u_1|apply u_2);done)|((repeat first|exact u_0|assumption|apply u_1|apply u_2);done)|(apply u_3;apply u_3;(repeat first|exact u_0|assumption|apply u_1|apply u_2);done)|((repeat first|exact u_0|assumption|apply u_3|apply u_1);done))) (by ((try apply evl_some rfl);(repeat (first|exact (rfl : _ = [])|apply evl_cons rfl (by (first|exact v_1|exact v_2|exact v_3|exact v_4|exact v_5|exact v_6|exact v_7|exact v_8|exact v_9|exact rfl))|exact rfl)))) (by rfl) (by rfl) (by rfl) (by ((try apply evl_some rfl);(repeat (first|exact (rfl : _ = [])|apply evl_cons rfl (by (first|exact v_1|exact v_2|exact v_3|exact v_4|exact v_5|exact v_6|exact v_7|exact v_8|exact v_9|exact rfl))|exact rfl)))) ?_)
  refine xr_end rfl ?_
  refine th_n ?_
  refine xc_ret ?_
  refine body_ret (h' := h) rfl (ro_cellA ty38 rfl rfl (by ((repeat first|exact z_0|assumption|refine z_1 ?_|(refine z_l ?_;(repeat first|exact z_0|assumption|refine z_1 ?_);done)|refine z_r ?_);done)) (by rfl) (by rfl) ro_nil) (by (first|((repeat first|exact s_0|exact s_1|exact s_3|refine s_4 ?_|refine s_5 ?_|refine s_6 ?_|refine s_7 ?_);done)|((repeat first|exact s_0|exact s_1|exact s_3|refine s_4 ?_|refine s_5 ?_|refine s_6 ?_|refine s_8 ?_);done))) ?_
  exact H

end Go.Proofs.YtckaaaebegemoaaDoor
