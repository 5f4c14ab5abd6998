/-
  Walks.
-/
import Derived.Test.YtckaaaebegemoaaDoorW9
namespace Go.Proofs.YtckaaaebegemoaaDoor
open Go Go.H
set_option maxRecDepth 100000
set_option maxHeartbeats 2000000
set_option linter.all false
theorem meth93 : MethOk Tryd.prog 106 "gasworks/dial.within" 93 := by unfold MethOk; kernel_rfl
theorem meth94 : MethOk Tryd.prog 109 "gasworks/dial.within" 94 := by unfold MethOk; kernel_rfl

theorem exact_c {least turn low high : Int} {h : Hp} {R : Ending → Hp → Prop} (h0 : 0 ≤ least) (h1 : least < turn) (ht : turn ≤ 1000000) (hl : 0 ≤ low) (hh : high ≤ 100000000000) (hlh : low ≤ 100000000000)
    (H1 : wiX least turn low high = none → R (.returned (.tuple ⟨[.agg ⟨eSpan ⟨0, 0⟩⟩, .bool false]⟩)) h) (H2 : ∀ s, wiX least turn low high = some s → R (.returned (.tuple ⟨[.agg ⟨eSpan s⟩, .bool true]⟩)) h) :
    ACalls Tryd.prog 93 ⟨[.agg ⟨[I least, I turn]⟩, I low, I high]⟩ h R := by
  refine calls_of_xc (N := 44) Tryd.func93 rfl (by rfl) ?_
  obtain ⟨k0, k1, k2, k3⟩ := kX_bd h0 h1 hl
  have k4 : 0 ≤ kX least turn low * turn := Int.mul_nonneg k0 (by omega)
  refine xc_seq (xc_region ?_)
  refine xr_op rfl rfl (xv_box rfl (fun b3 hb3 => ?_))
  refine xr_op rfl rfl (xv_alloc ty38 (fun b6 hb6 => ?_))
  refine xr_op rfl rfl (xv_assign rfl ?_)
  refine xr_end rfl ?_
  refine th_n ?_
  refine xc_seq ?_
  refine xc_draw0 [(0, .S), (1, .R), (2, .S), (3, .S), (4, .R), (5, .S), (6, .S), (7, .R), (8, .S), (9, .S), (10, .S), (11, .R), (12, .S), (13, .S), (14, .S), (15, .R), (16, .S), (17, .S), (18, .S)] mixed (by kernel_rfl) ?_
  refine js_S rfl rfl (.inl rfl) (xv_faddr fl106_0 rfl ⟨rfl, rfl⟩) ?_
  refine js_R0 rfl rfl (.inl rfl) (xv_load1 ty3 rfl rfl (by ((repeat first|exact z_0|assumption|refine z_1 ?_|(refine z_l ?_;(repeat first|exact z_0|assumption|refine z_1 ?_);done)|refine z_r ?_);done)) (by rfl) ⟨rfl, rfl⟩) ?_
  refine js_S rfl rfl (.inl rfl) (xv_move rfl ⟨rfl, rfl⟩) ?_
  refine js_S rfl rfl (.inl rfl) (xv_faddr fl106_0 rfl ⟨rfl, rfl⟩) ?_
  refine js_R0 rfl rfl (.inl rfl) (xv_load1 ty3 rfl rfl (by ((repeat first|exact z_0|assumption|refine z_1 ?_|(refine z_l ?_;(repeat first|exact z_0|assumption|refine z_1 ?_);done)|refine z_r ?_);done)) (by rfl) ⟨rfl, rfl⟩) ?_
  refine js_S rfl rfl (.inl rfl) (xv_sub rfl rfl (wrap_i64 (by (first | omega | (dsimp only at *; omega) | (simp at *; omega))) (by (first | omega | (dsimp only at *; omega) | (simp at *; omega)))) ⟨rfl, rfl⟩) ?_
  refine js_S rfl rfl (.inl rfl) (xv_faddr fl106_1 rfl ⟨rfl, rfl⟩) ?_
  refine js_R0 rfl rfl (.inl rfl) (xv_load1 ty3 rfl rfl (by ((repeat first|exact z_0|assumption|refine z_1 ?_|(refine z_l ?_;(repeat first|exact z_0|assumption|refine z_1 ?_);done)|refine z_r ?_);done)) (by rfl) ⟨rfl, rfl⟩) ?_
  refine js_S rfl rfl (.inl rfl) (xv_add rfl rfl (wrap_i64 (by (first | omega | (dsimp only at *; omega) | (simp at *; omega))) (by (first | omega | (dsimp only at *; omega) | (simp at *; omega)))) ⟨rfl, rfl⟩) ?_
  refine js_S rfl rfl (.inl rfl) (xv_sub rfl rfl (wrap_i64 (by (first | omega | (dsimp only at *; omega) | (simp at *; omega))) (by (first | omega | (dsimp only at *; omega) | (simp at *; omega)))) ⟨rfl, rfl⟩) ?_
  refine js_S rfl rfl (.inl rfl) (xv_faddr fl106_1 rfl ⟨rfl, rfl⟩) ?_
  refine js_R0 rfl rfl (.inl rfl) (xv_load1 ty3 rfl rfl (by ((repeat first|exact z_0|assumption|refine z_1 ?_|(refine z_l ?_;(repeat first|exact z_0|assumption|refine z_1 ?_);done)|refine z_r ?_);done)) (by rfl) ⟨rfl, rfl⟩) ?_
  refine js_S rfl rfl (.inl rfl) (xv_quo (c := kX least turn low) rfl rfl (by omega) (by rw [Int.tdiv_eq_ediv_of_nonneg (by omega)]; have e9 : kX least turn low ≤ kX least turn low * turn := le_mulR k0 (by omega); exact wrap_i64 (by unfold kX at *; omega) (by unfold kX at *; omega)) ⟨rfl, rfl⟩) ?_
  refine js_S rfl rfl (.inl rfl) (xv_max rfl rfl rfl ⟨rfl, rfl⟩) ?_
  refine js_S rfl rfl (.inl rfl) (xv_faddr fl106_1 rfl ⟨rfl, rfl⟩) ?_
  refine js_R0 rfl rfl (.inl rfl) (xv_load1 ty3 rfl rfl (by ((repeat first|exact z_0|assumption|refine z_1 ?_|(refine z_l ?_;(repeat first|exact z_0|assumption|refine z_1 ?_);done)|refine z_r ?_);done)) (by rfl) ⟨rfl, rfl⟩) ?_
  refine js_S rfl rfl (.inl rfl) (xv_mul (c := (max 0 (kX least turn low)) * turn) rfl rfl (by rw [k3]; exact wrap_i64 (by omega) (by omega)) ⟨rfl, rfl⟩) ?_
  refine js_S rfl rfl (.inl rfl) (xv_add (c := (least + max 0 (kX least turn low) * turn)) rfl rfl (by rw [k3]; exact wrap_i64 (by omega) (by omega)) ⟨rfl, rfl⟩) ?_
  refine js_S rfl rfl (.inl rfl) (xv_assign rfl ⟨rfl, rfl⟩) ?_
  refine j_end0 ?_
  refine th_n ?_
  refine xc_seq ?_
  refine xc_seq (xc_region ?_)
  refine xr_op rfl rfl (xv_move rfl ?_)
  refine xr_op rfl rfl (xv_move rfl ?_)
  refine xr_op rfl rfl (xv_gtr2 rfl rfl (fun q1 => ?_) (fun q1 => ?_))
  · refine xr_end rfl ?_
    refine th_n ?_
    refine xc_true rfl ?_
    refine xc_seq (xc_region ?_)
    refine xr_op rfl rfl (xv_build bt38 rfl (by ((try apply evl_some rfl);(repeat (first|exact (rfl : _ = [])|apply evl_cons rfl (by (first|exact v_1|exact v_2|exact v_3|exact v_4|exact v_5|exact v_6|exact v_7|exact v_8|exact v_9|exact rfl))|exact rfl)))) ?_)
    refine xr_op rfl rfl (xv_s ty38 rfl rfl (by (first|(apply u_3;(repeat first|exact u_0|assumption|apply u_1|apply u_2);done)|((repeat first|exact u_0|assumption|apply u_1|apply u_2);done)|(apply u_3;apply u_3;(repeat first|exact u_0|assumption|apply u_1|apply u_2);done)|((repeat first|exact u_0|assumption|apply u_3|apply u_1);done))) (by ((try apply evl_some rfl);(repeat (first|exact (rfl : _ = [])|apply evl_cons rfl (by (first|exact v_1|exact v_2|exact v_3|exact v_4|exact v_5|exact v_6|exact v_7|exact v_8|exact v_9|exact rfl))|exact rfl)))) (by rfl) (by rfl) (by rfl) (by ((try apply evl_some rfl);(repeat (first|exact (rfl : _ = [])|apply evl_cons rfl (by (first|exact v_1|exact v_2|exact v_3|exact v_4|exact v_5|exact v_6|exact v_7|exact v_8|exact v_9|exact rfl))|exact rfl)))) ?_)
    refine xr_op rfl rfl (xv_assign rfl ?_)
    refine xr_end rfl ?_
    refine th_n ?_
    refine xc_ret ?_
    refine th_r ?_
    refine body_ret (h' := h) rfl (ro_cellA ty38 rfl rfl (by ((repeat first|exact z_0|assumption|refine z_1 ?_|(refine z_l ?_;(repeat first|exact z_0|assumption|refine z_1 ?_);done)|refine z_r ?_);done)) (by rfl) (by rfl) (ro_tmp rfl ro_nil)) (by (first|((repeat first|exact s_0|exact s_1|exact s_3|refine s_4 ?_|refine s_5 ?_|refine s_6 ?_|refine s_7 ?_);done)|((repeat first|exact s_0|exact s_1|exact s_3|refine s_4 ?_|refine s_5 ?_|refine s_6 ?_|refine s_8 ?_);done))) ?_
    have hun : wiX least turn low high = (if (least + max 0 (kX least turn low) * turn) > high then none else some ⟨(least + max 0 (kX least turn low) * turn), (least + max 0 (kX least turn low) * turn) + ((high - (least + max 0 (kX least turn low) * turn)) / turn) * turn⟩) := rfl
    first | exact H1 (by rw [hun]; exact if_pos (by (first | omega | (dsimp only at *; omega) | (simp at *; omega)))) | exact H2 ⟨(least + max 0 (kX least turn low) * turn), (least + max 0 (kX least turn low) * turn) + ((high - (least + max 0 (kX least turn low) * turn)) / turn) * turn⟩ (by rw [hun]; exact if_neg (by (first | omega | (dsimp only at *; omega) | (simp at *; omega))))
  · refine xr_end rfl ?_
    refine th_n ?_
    refine xc_false rfl ?_
    refine xc_skip ?_
    refine th_n ?_
    refine xc_seq ?_
    refine xc_draw0 [(0, .S), (1, .S), (2, .S), (3, .S), (4, .S), (5, .S), (6, .R), (7, .S), (8, .S), (9, .R), (10, .S), (11, .S), (12, .S), (13, .O), (14, .S)] mixed (by kernel_rfl) ?_
    have hle9 : (least + max 0 (kX least turn low) * turn) ≤ high := by (first | omega | (dsimp only at *; omega) | (simp at *; omega))
    obtain ⟨q0, q1, q2⟩ := div_bd (x := high - (least + max 0 (kX least turn low) * turn)) (t := turn) (by (first | omega | (dsimp only at *; omega) | (simp at *; omega))) (by (first | omega | (dsimp only at *; omega) | (simp at *; omega)))
    have q3 : 0 ≤ ((high - (least + max 0 (kX least turn low) * turn)) / turn) * turn := Int.mul_nonneg q0 (by omega)
    have q4 : ((high - (least + max 0 (kX least turn low) * turn)) / turn) ≤ ((high - (least + max 0 (kX least turn low) * turn)) / turn) * turn := le_mulR q0 (by omega)
    have k5 : (least + max 0 (kX least turn low) * turn) = least + kX least turn low * turn := by rw [k3]
    have k6 : 0 ≤ (least + max 0 (kX least turn low) * turn) := by omega
    refine js_S rfl rfl (.inl rfl) (xv_move rfl ⟨rfl, rfl⟩) ?_
    refine js_S rfl rfl (.inl rfl) (xv_move rfl ⟨rfl, rfl⟩) ?_
    refine js_S rfl rfl (.inl rfl) (xv_move rfl ⟨rfl, rfl⟩) ?_
    refine js_S rfl rfl (.inl rfl) (xv_move rfl ⟨rfl, rfl⟩) ?_
    refine js_S rfl rfl (.inl rfl) (xv_sub (c := high - (least + max 0 (kX least turn low) * turn)) rfl rfl (by rw [k3]; exact wrap_i64 (by omega) (by omega)) ⟨rfl, rfl⟩) ?_
    refine js_S rfl rfl (.inl rfl) (xv_faddr fl106_1 rfl ⟨rfl, rfl⟩) ?_
    refine js_R0 rfl rfl (.inl rfl) (xv_load1 ty3 rfl rfl (by ((repeat first|exact z_0|assumption|refine z_1 ?_|(refine z_l ?_;(repeat first|exact z_0|assumption|refine z_1 ?_);done)|refine z_r ?_);done)) (by rfl) ⟨rfl, rfl⟩) ?_
    refine js_S rfl rfl (.inl rfl) (xv_quo (c := ((high - (least + max 0 (kX least turn low) * turn)) / turn)) rfl rfl (by omega) (by rw [Int.tdiv_eq_ediv_of_nonneg (by (first | omega | (dsimp only at *; omega) | (simp at *; omega)))]; exact wrap_i64 (by omega) (by omega)) ⟨rfl, rfl⟩) ?_
    refine js_S rfl rfl (.inl rfl) (xv_faddr fl106_1 rfl ⟨rfl, rfl⟩) ?_
    refine js_R0 rfl rfl (.inl rfl) (xv_load1 ty3 rfl rfl (by ((repeat first|exact z_0|assumption|refine z_1 ?_|(refine z_l ?_;(repeat first|exact z_0|assumption|refine z_1 ?_);done)|refine z_r ?_);done)) (by rfl) ⟨rfl, rfl⟩) ?_
    refine js_S rfl rfl (.inl rfl) (xv_mul (c := ((high - (least + max 0 (kX least turn low) * turn)) / turn) * turn) rfl rfl (wrap_i64 (by omega) (by omega)) ⟨rfl, rfl⟩) ?_
    refine js_S rfl rfl (.inl rfl) (xv_add (c := (least + max 0 (kX least turn low) * turn) + ((high - (least + max 0 (kX least turn low) * turn)) / turn) * turn) rfl rfl (wrap_i64 (by omega) (by omega)) ⟨rfl, rfl⟩) ?_
    refine js_S rfl rfl (.inl rfl) (xv_build bt38 rfl (by ((try apply evl_some rfl);(repeat (first|exact (rfl : _ = [])|apply evl_cons rfl (by (first|exact v_1|exact v_2|exact v_3|exact v_4|exact v_5|exact v_6|exact v_7|exact v_8|exact v_9|exact rfl))|exact rfl)))) ⟨rfl, rfl⟩) ?_
    refine js_O0 rfl rfl (.inl rfl) (xv_s ty38 rfl rfl (by (first|(apply u_3;(repeat first|exact u_0|assumption|apply u_1|apply u_2);done)|((repeat first|exact u_0|assumption|apply u_1|apply u_2);done)|(apply u_3;apply u_3;(repeat first|exact u_0|assumption|apply u_1|apply u_2);done)|((repeat first|exact u_0|assumption|apply u_3|apply u_1);done))) (by ((try apply evl_some rfl);(repeat (first|exact (rfl : _ = [])|apply evl_cons rfl (by (first|exact v_1|exact v_2|exact v_3|exact v_4|exact v_5|exact v_6|exact v_7|exact v_8|exact v_9|exact rfl))|exact rfl)))) (by rfl) (by rfl) (by rfl) (by ((try apply evl_some rfl);(repeat (first|exact (rfl : _ = [])|apply evl_cons rfl (by (first|exact v_1|exact v_2|exact v_3|exact v_4|exact v_5|exact v_6|exact v_7|exact v_8|exact v_9|exact rfl))|exact rfl)))) ?_)
    refine js_S rfl rfl (.inl rfl) (xv_assign rfl ⟨rfl, rfl⟩) ?_
    refine j_end0 ?_
    refine th_n ?_
    refine xc_ret ?_
    refine body_ret (h' := h) rfl (ro_cellA ty38 rfl rfl (by ((repeat first|exact z_0|assumption|refine z_1 ?_|(refine z_l ?_;(repeat first|exact z_0|assumption|refine z_1 ?_);done)|refine z_r ?_);done)) (by rfl) (by rfl) (ro_tmp rfl ro_nil)) (by (first|((repeat first|exact s_0|exact s_1|exact s_3|refine s_4 ?_|refine s_5 ?_|refine s_6 ?_|refine s_7 ?_);done)|((repeat first|exact s_0|exact s_1|exact s_3|refine s_4 ?_|refine s_5 ?_|refine s_6 ?_|refine s_8 ?_);done))) ?_
    have hun : wiX least turn low high = (if (least + max 0 (kX least turn low) * turn) > high then none else some ⟨(least + max 0 (kX least turn low) * turn), (least + max 0 (kX least turn low) * turn) + ((high - (least + max 0 (kX least turn low) * turn)) / turn) * turn⟩) := rfl
    first | exact H1 (by rw [hun]; exact if_pos (by (first | omega | (dsimp only at *; omega) | (simp at *; omega)))) | exact H2 ⟨(least + max 0 (kX least turn low) * turn), (least + max 0 (kX least turn low) * turn) + ((high - (least + max 0 (kX least turn low) * turn)) / turn) * turn⟩ (by rw [hun]; exact if_neg (by (first | omega | (dsimp only at *; omega) | (simp at *; omega))))

theorem loose_c {least low high : Int} {h : Hp} {R : Ending → Hp → Prop}
    (H1 : ∀ s, wiL least low high = none → R (.returned (.tuple ⟨[.agg ⟨eSpan s⟩, .bool false]⟩)) h) (H2 : ∀ s, wiL least low high = some s → R (.returned (.tuple ⟨[.agg ⟨eSpan s⟩, .bool true]⟩)) h) :
    ACalls Tryd.prog 94 ⟨[I least, I low, I high]⟩ h R := by
  refine calls_of_xc (N := 20) Tryd.func94 rfl (by rfl) ?_
  refine xc_seq (xc_region ?_)
  refine xr_op rfl rfl (xv_alloc ty38 (fun b6 hb6 => ?_))
  refine xr_op rfl rfl (xv_assign rfl ?_)
  refine xr_end rfl ?_
  refine th_n ?_
  refine xc_seq (xc_region ?_)
  refine xr_op rfl rfl (xv_move rfl ?_)
  refine xr_op rfl rfl (xv_move rfl ?_)
  refine xr_op rfl rfl (xv_max rfl rfl rfl ?_)
  refine xr_op rfl rfl (xv_move rfl ?_)
  refine xr_op rfl rfl (xv_build bt38 rfl (by ((try apply evl_some rfl);(repeat (first|exact (rfl : _ = [])|apply evl_cons rfl (by (first|exact v_1|exact v_2|exact v_3|exact v_4|exact v_5|exact v_6|exact v_7|exact v_8|exact v_9|exact rfl))|exact rfl)))) ?_)
  refine xr_op rfl rfl (xv_alloc ty38 (fun b8 hb8 => ?_))
  refine xr_op rfl rfl (xv_s ty38 rfl rfl (by (first|(apply u_3;(repeat first|exact u_0|assumption|apply u_1|apply u_2);done)|((repeat first|exact u_0|assumption|apply u_1|apply u_2);done)|(apply u_3;apply u_3;(repeat first|exact u_0|assumption|apply u_1|apply u_2);done)|((repeat first|exact u_0|assumption|apply u_3|apply u_1);done))) (by ((try apply evl_some rfl);(repeat (first|exact (rfl : _ = [])|apply evl_cons rfl (by (first|exact v_1|exact v_2|exact v_3|exact v_4|exact v_5|exact v_6|exact v_7|exact v_8|exact v_9|exact rfl))|exact rfl)))) (by rfl) (by rfl) (by rfl) (by ((try apply evl_some rfl);(repeat (first|exact (rfl : _ = [])|apply evl_cons rfl (by (first|exact v_1|exact v_2|exact v_3|exact v_4|exact v_5|exact v_6|exact v_7|exact v_8|exact v_9|exact rfl))|exact rfl)))) ?_)
  refine xr_end rfl ?_
  refine th_n ?_
  refine xc_seq ?_
  refine xc_drawL (L := [(b8, fun o => o = .cells ⟨[I (max least low), I high]⟩ 38 (0, 0))]) [(0, .R), (1, .S), (2, .S), (3, .S), (4, .S), (5, .S), (6, .O), (7, .S)] [] _ mixed (by kernel_rfl) (by rw [List.append_nil]) (holds1 (by ((repeat first|exact z_0|assumption|refine z_1 ?_|(refine z_l ?_;(repeat first|exact z_0|assumption|refine z_1 ?_);done)|refine z_r ?_);done)) rfl) ?_
  refine js_R0 rfl rfl (.inl rfl) (xv_loadA ty38 rfl rfl (by ((repeat first|exact z_0|assumption|refine z_1 ?_|(refine z_l ?_;(repeat first|exact z_0|assumption|refine z_1 ?_);done)|refine z_r ?_);done)) (by ((try apply evl_some rfl);(repeat (first|exact (rfl : _ = [])|apply evl_cons rfl (by (first|exact v_1|exact v_2|exact v_3|exact v_4|exact v_5|exact v_6|exact v_7|exact v_8|exact v_9|exact rfl))|exact rfl)))) (by rfl) ⟨rfl, rfl⟩) ?_
  refine js_S rfl rfl (.inl rfl) (xv_faddr fl38_0 rfl ⟨rfl, rfl⟩) ?_
  refine js_I rfl rfl (.inl rfl) (fun hh hv => by obtain ⟨o, hm, rfl⟩ := hv b8 _ List.mem_cons_self; exact xv_load1 ty3 rfl rfl (List.mem_append_left _ hm) rfl ⟨rfl, rfl⟩) ?_
  refine js_S rfl rfl (.inl rfl) (xv_faddr fl38_1 rfl ⟨rfl, rfl⟩) ?_
  refine js_I rfl rfl (.inl rfl) (fun hh hv => by obtain ⟨o, hm, rfl⟩ := hv b8 _ List.mem_cons_self; exact xv_load1 ty3 rfl rfl (List.mem_append_left _ hm) rfl ⟨rfl, rfl⟩) ?_
  refine js_S rfl rfl (.inl rfl) (xv_cmp rfl rfl rfl ⟨rfl, rfl⟩) ?_
  refine js_OL0 rfl rfl (.inl rfl) (xv_s ty38 rfl rfl (by (first|(apply u_3;(repeat first|exact u_0|assumption|apply u_1|apply u_2);done)|((repeat first|exact u_0|assumption|apply u_1|apply u_2);done)|(apply u_3;apply u_3;(repeat first|exact u_0|assumption|apply u_1|apply u_2);done)|((repeat first|exact u_0|assumption|apply u_3|apply u_1);done))) (by ((try apply evl_some rfl);(repeat (first|exact (rfl : _ = [])|apply evl_cons rfl (by (first|exact v_1|exact v_2|exact v_3|exact v_4|exact v_5|exact v_6|exact v_7|exact v_8|exact v_9|exact rfl))|exact rfl)))) (by rfl) (by rfl) (by rfl) (by ((try apply evl_some rfl);(repeat (first|exact (rfl : _ = [])|apply evl_cons rfl (by (first|exact v_1|exact v_2|exact v_3|exact v_4|exact v_5|exact v_6|exact v_7|exact v_8|exact v_9|exact rfl))|exact rfl)))) ?_)
  refine ⟨holds1 (by ((repeat first|exact z_0|assumption|refine z_1 ?_|(refine z_l ?_;(repeat first|exact z_0|assumption|refine z_1 ?_);done)|refine z_r ?_);done)) rfl, ?_⟩
  refine js_S rfl rfl (.inl rfl) (xv_assign rfl ⟨rfl, rfl⟩) ?_
  refine j_end0 ?_
  refine th_n ?_
  refine xc_ret ?_
  refine body_ret (h' := h) rfl (ro_cellA ty38 rfl rfl (by ((repeat first|exact z_0|assumption|refine z_1 ?_|(refine z_l ?_;(repeat first|exact z_0|assumption|refine z_1 ?_);done)|refine z_r ?_);done)) (by rfl) (by rfl) (ro_tmp rfl ro_nil)) (by (first|((repeat first|exact s_0|exact s_1|exact s_3|refine s_4 ?_|refine s_5 ?_|refine s_6 ?_|refine s_7 ?_);done)|((repeat first|exact s_0|exact s_1|exact s_3|refine s_4 ?_|refine s_5 ?_|refine s_6 ?_|refine s_8 ?_);done))) ?_
  by_cases hc9 : max least low ≤ high
  · exact Eq.mp (congrArg (fun b => R (.returned (.tuple ⟨[.agg ⟨[I (max least low), I high]⟩, .bool b]⟩)) h) (by simp [hc9])) (H2 ⟨max least low, high⟩ (if_pos hc9))
  · exact Eq.mp (congrArg (fun b => R (.returned (.tuple ⟨[.agg ⟨[I (max least low), I high]⟩, .bool b]⟩)) h) (by simp [hc9])) (H1 ⟨max least low, high⟩ (if_neg hc9))

theorem between_c {d : Dial} {a b : Card} {bw : Nat} {v : Value} {h : Hp} {R : Ending → Hp → Prop} (hm : (bw, .cells ⟨eDial d ++ [v]⟩ 74 (0, 0)) ∈ h) (hT : TurnsV h) (hd : dialOk d) (ha : ReadOk d a) (hb : ReadOk d b) (hab : a.hour ≤ b.hour)
    (H1 : ∀ s, btw d a b = none → R (.returned (.tuple ⟨[.agg ⟨eSpan s⟩, .bool false]⟩)) h) (H2 : ∀ s, btw d a b = some s → R (.returned (.tuple ⟨[.agg ⟨eSpan s⟩, .bool true]⟩)) h) :
    ACalls Tryd.prog 48 ⟨[.pointer (some ⟨bw, 0, none⟩), .agg ⟨eCard a⟩, .agg ⟨eCard b⟩]⟩ h R := by
  refine calls_of_xc (N := 67) Tryd.func48 rfl (by rfl) ?_
  obtain ⟨tt, hT⟩ := hT
  have htb := turn_bd (n := d.digits) hd.1 hd.2.1
  obtain ⟨l0, l1⟩ := least_bd (a := a) (b := b) hd
  obtain ⟨g1, g2, g3, g4, g5⟩ := hd
  obtain ⟨⟨a1, a2⟩, a3, a4⟩ := ha
  obtain ⟨⟨e1, e2⟩, e3, e4⟩ := hb
  have m1 : 0 ≤ (d.rate.lo * (b.hour - a.hour)) := Int.mul_nonneg g3 (by omega)
  have m2 : (d.rate.lo * (b.hour - a.hour)) ≤ 10000 * 1048576 := Int.mul_le_mul (by omega) (by omega) (by omega) (by omega)
  have m3 : 0 ≤ (d.rate.hi * (b.hour - a.hour)) := Int.mul_nonneg (by omega) (by omega)
  have m4 : (d.rate.hi * (b.hour - a.hour)) ≤ 10000 * 1048576 := Int.mul_le_mul (by omega) (by omega) (by omega) (by omega)
  refine xc_seq (xc_region ?_)
  refine xr_op rfl rfl (xv_box rfl (fun c4 hc4 => ?_))
  refine xr_op rfl rfl (xv_box rfl (fun c5 hc5 => ?_))
  refine xr_op rfl rfl (xv_alloc ty38 (fun c6 hc6 => ?_))
  refine xr_op rfl rfl (xv_assign rfl ?_)
  refine xr_end rfl ?_
  refine th_n ?_
  refine xc_seq ?_
  refine xc_draw0 [(0, .S), (1, .S), (2, .S), (3, .S), (4, .R), (5, .S), (6, .R), (7, .S), (8, .R), (9, .S), (10, .R), (11, .S), (12, .S), (13, .S)] mixed (by kernel_rfl) ?_
  refine js_S rfl rfl (.inl rfl) (xv_move rfl ⟨rfl, rfl⟩) ?_
  refine js_S rfl rfl (.inl rfl) (xv_nilp rfl ⟨rfl, rfl⟩) ?_
  refine js_S rfl rfl (.inl rfl) (xv_faddr fl74_0 rfl ⟨rfl, rfl⟩) ?_
  refine js_S rfl rfl (.inl rfl) (xv_faddr fl45_0 rfl ⟨rfl, rfl⟩) ?_
  refine js_R0 rfl rfl (.inl rfl) (xv_load1 ty3 rfl rfl (by ((repeat first|exact z_0|assumption|refine z_1 ?_|(refine z_l ?_;(repeat first|exact z_0|assumption|refine z_1 ?_);done)|refine z_r ?_);done)) (by rfl) ⟨rfl, rfl⟩) ?_
  refine js_S rfl rfl (.inl rfl) (xv_iaA (sz := 1) (j := (d.digits).toNat) Tryd.underlying82 ty3 rfl rfl rfl rfl (by (first | omega | (dsimp only at *; omega) | (simp at *; omega))) (by (first | omega | (dsimp only at *; omega) | (simp at *; omega))) ⟨rfl, rfl⟩) ?_
  refine js_R0 rfl rfl (.inl rfl) (xv_load1 ty3 rfl rfl (by ((repeat first|exact z_0|assumption|refine z_1 ?_|(refine z_l ?_;(repeat first|exact z_0|assumption|refine z_1 ?_);done)|refine z_r ?_);done)) (by rw [Nat.zero_add, Nat.mul_one]; exact turns_at (n := d.digits) (by (first | omega | (dsimp only at *; omega) | (simp at *; omega))) (by (first | omega | (dsimp only at *; omega) | (simp at *; omega)))) ⟨rfl, rfl⟩) ?_
  refine js_S rfl rfl (.inl rfl) (xv_faddr fl78_1 rfl ⟨rfl, rfl⟩) ?_
  refine js_R0 rfl rfl (.inl rfl) (xv_load1 ty3 rfl rfl (by ((repeat first|exact z_0|assumption|refine z_1 ?_|(refine z_l ?_;(repeat first|exact z_0|assumption|refine z_1 ?_);done)|refine z_r ?_);done)) (by rfl) ⟨rfl, rfl⟩) ?_
  refine js_S rfl rfl (.inl rfl) (xv_faddr fl78_1 rfl ⟨rfl, rfl⟩) ?_
  refine js_R0 rfl rfl (.inl rfl) (xv_load1 ty3 rfl rfl (by ((repeat first|exact z_0|assumption|refine z_1 ?_|(refine z_l ?_;(repeat first|exact z_0|assumption|refine z_1 ?_);done)|refine z_r ?_);done)) (by rfl) ⟨rfl, rfl⟩) ?_
  refine js_S rfl rfl (.inl rfl) (xv_sub rfl rfl (wrap_i64 (by (first | omega | (dsimp only at *; omega) | (simp at *; omega))) (by (first | omega | (dsimp only at *; omega) | (simp at *; omega)))) ⟨rfl, rfl⟩) ?_
  refine js_S rfl rfl (.inl rfl) (xv_assign rfl ⟨rfl, rfl⟩) ?_
  refine js_S rfl rfl (.inl rfl) (xv_assign rfl ⟨rfl, rfl⟩) ?_
  refine j_end0 ?_
  refine th_n ?_
  refine xc_seq (xc_region ?_)
  refine xr_op rfl rfl (xv_faddr fl78_2 rfl ?_)
  refine xr_op rfl rfl (xv_load1 ty3 rfl rfl (by ((repeat first|exact z_0|assumption|refine z_1 ?_|(refine z_l ?_;(repeat first|exact z_0|assumption|refine z_1 ?_);done)|refine z_r ?_);done)) (by rfl) ?_)
  refine xr_op rfl rfl (xv_faddr fl78_2 rfl ?_)
  refine xr_op rfl rfl (xv_load1 ty3 rfl rfl (by ((repeat first|exact z_0|assumption|refine z_1 ?_|(refine z_l ?_;(repeat first|exact z_0|assumption|refine z_1 ?_);done)|refine z_r ?_);done)) (by rfl) ?_)
  refine xr_op rfl rfl (xv_sub rfl rfl (wrap_i64 (by (first | omega | (dsimp only at *; omega) | (simp at *; omega))) (by (first | omega | (dsimp only at *; omega) | (simp at *; omega)))) ?_)
  refine xr_op rfl rfl (xv_move rfl ?_)
  refine xr_op rfl rfl (xv_add rfl rfl (wrap_i64 (by (first | omega | (dsimp only at *; omega) | (simp at *; omega))) (by (first | omega | (dsimp only at *; omega) | (simp at *; omega)))) ?_)
  refine xr_op rfl rfl (xv_move rfl ?_)
  refine xr_op rfl rfl (xv_rem (c := leastF d a b) rfl rfl (by omega) (Int.tmod_eq_emod_of_nonneg (by omega)) ?_)
  refine xr_op rfl rfl (xv_assign rfl ?_)
  refine xr_end rfl ?_
  refine th_n ?_
  refine xc_seq (xc_region ?_)
  refine xr_op rfl rfl (xv_move rfl ?_)
  refine xr_op rfl rfl (xv_move rfl ?_)
  refine xr_op rfl rfl (xv_build bt106 rfl (by ((try apply evl_some rfl);(repeat (first|exact (rfl : _ = [])|apply evl_cons rfl (by (first|exact v_1|exact v_2|exact v_3|exact v_4|exact v_5|exact v_6|exact v_7|exact v_8|exact v_9|exact rfl))|exact rfl)))) ?_)
  refine xr_op rfl rfl (xv_iface ty106 rfl rfl ?_)
  refine xr_op rfl rfl (xv_assign rfl ?_)
  refine xr_end rfl ?_
  refine th_n ?_
  refine xc_seq ?_
  refine xc_seq (xc_region ?_)
  refine xr_op rfl rfl (xv_move rfl ?_)
  refine xr_op rfl rfl (xv_nilp rfl ?_)
  refine xr_op rfl rfl (xv_faddr fl74_0 rfl ?_)
  refine xr_op rfl rfl (xv_faddr fl45_2 rfl ?_)
  refine xr_op rfl rfl (xv_load1 ty4 rfl rfl (by ((repeat first|exact z_0|assumption|refine z_1 ?_|(refine z_l ?_;(repeat first|exact z_0|assumption|refine z_1 ?_);done)|refine z_r ?_);done)) (by rfl) ?_)
  refine xr_end rfl ?_
  refine th_n ?_
  refine xc_bool rfl (fun q1 => ?_) (fun q1 => ?_)
  · refine xc_region ?_
    refine xr_op rfl rfl (xv_move rfl ?_)
    refine xr_op rfl rfl (xv_iface ty109 rfl rfl ?_)
    refine xr_op rfl rfl (xv_assign rfl ?_)
    refine xr_end rfl ?_
    refine th_n ?_
    refine xc_seq ?_
    refine xc_draw0 [(0, .S), (1, .S), (2, .S), (3, .S), (4, .S), (5, .S), (6, .R), (7, .S), (8, .S), (9, .S), (10, .S), (11, .S), (12, .S), (13, .S), (14, .R), (15, .S), (16, .S), (17, .S), (18, .S), (19, .S), (20, .O), (21, .S), (22, .S), (23, .O), (24, .S)] mixed (by kernel_rfl) ?_
    refine js_S rfl rfl (.inl rfl) (xv_move rfl ⟨rfl, rfl⟩) ?_
    refine js_S rfl rfl (.inl rfl) (xv_move rfl ⟨rfl, rfl⟩) ?_
    refine js_S rfl rfl (.inl rfl) (xv_nilp rfl ⟨rfl, rfl⟩) ?_
    refine js_S rfl rfl (.inl rfl) (xv_faddr fl74_0 rfl ⟨rfl, rfl⟩) ?_
    refine js_S rfl rfl (.inl rfl) (xv_faddr fl45_1 rfl ⟨rfl, rfl⟩) ?_
    refine js_S rfl rfl (.inl rfl) (xv_faddr fl38_0 rfl ⟨rfl, rfl⟩) ?_
    refine js_R0 rfl rfl (.inl rfl) (xv_load1 ty3 rfl rfl (by ((repeat first|exact z_0|assumption|refine z_1 ?_|(refine z_l ?_;(repeat first|exact z_0|assumption|refine z_1 ?_);done)|refine z_r ?_);done)) (by rfl) ⟨rfl, rfl⟩) ?_
    refine js_S rfl rfl (.inl rfl) (xv_move rfl ⟨rfl, rfl⟩) ?_
    refine js_S rfl rfl (.inl rfl) (xv_mul rfl rfl (wrap_i64 (by (first | omega | (dsimp only at *; omega) | (simp at *; omega))) (by (first | omega | (dsimp only at *; omega) | (simp at *; omega)))) ⟨rfl, rfl⟩) ?_
    refine js_S rfl rfl (.inl rfl) (xv_move rfl ⟨rfl, rfl⟩) ?_
    refine js_S rfl rfl (.inl rfl) (xv_nilp rfl ⟨rfl, rfl⟩) ?_
    refine js_S rfl rfl (.inl rfl) (xv_faddr fl74_0 rfl ⟨rfl, rfl⟩) ?_
    refine js_S rfl rfl (.inl rfl) (xv_faddr fl45_1 rfl ⟨rfl, rfl⟩) ?_
    refine js_S rfl rfl (.inl rfl) (xv_faddr fl38_1 rfl ⟨rfl, rfl⟩) ?_
    refine js_R0 rfl rfl (.inl rfl) (xv_load1 ty3 rfl rfl (by ((repeat first|exact z_0|assumption|refine z_1 ?_|(refine z_l ?_;(repeat first|exact z_0|assumption|refine z_1 ?_);done)|refine z_r ?_);done)) (by rfl) ⟨rfl, rfl⟩) ?_
    refine js_S rfl rfl (.inl rfl) (xv_move rfl ⟨rfl, rfl⟩) ?_
    refine js_S rfl rfl (.inl rfl) (xv_mul rfl rfl (wrap_i64 (by (first | omega | (dsimp only at *; omega) | (simp at *; omega))) (by (first | omega | (dsimp only at *; omega) | (simp at *; omega)))) ⟨rfl, rfl⟩) ?_
    refine js_S rfl rfl (.inl rfl) (xv_func rfl rfl ⟨rfl, rfl⟩) ?_
    refine js_S rfl rfl (.inl rfl) (xv_nilm ty109 rfl meth94 rfl ⟨rfl, rfl⟩) ?_
    refine js_S rfl rfl (.inl rfl) (xv_move rfl ⟨rfl, rfl⟩) ?_
    refine js_O0 rfl rfl (.inl rfl) (xv_invoke ty109 rfl meth94 rfl rfl hb94 (loose_c (least := leastF d a b) (low := (d.rate.lo * (b.hour - a.hour))) (high := (d.rate.hi * (b.hour - a.hour))) (fun s ho => up_ret ?_) (fun s ho => up_ret ?_)))
    · refine js_S rfl rfl (.inl rfl) (xv_extract rfl rfl ⟨rfl, rfl⟩) ?_
      refine js_S rfl rfl (.inl rfl) (xv_extract rfl rfl ⟨rfl, rfl⟩) ?_
      refine js_O0 rfl rfl (.inl rfl) (xv_s ty38 rfl rfl (by (first|(apply u_3;(repeat first|exact u_0|assumption|apply u_1|apply u_2);done)|((repeat first|exact u_0|assumption|apply u_1|apply u_2);done)|(apply u_3;apply u_3;(repeat first|exact u_0|assumption|apply u_1|apply u_2);done)|((repeat first|exact u_0|assumption|apply u_3|apply u_1);done))) (by ((try apply evl_some rfl);(repeat (first|exact (rfl : _ = [])|apply evl_cons rfl (by (first|exact v_1|exact v_2|exact v_3|exact v_4|exact v_5|exact v_6|exact v_7|exact v_8|exact v_9|exact rfl))|exact rfl)))) (by rfl) (by rfl) (by rfl) (by ((try apply evl_some rfl);(repeat (first|exact (rfl : _ = [])|apply evl_cons rfl (by (first|exact v_1|exact v_2|exact v_3|exact v_4|exact v_5|exact v_6|exact v_7|exact v_8|exact v_9|exact rfl))|exact rfl)))) ?_)
      refine js_S rfl rfl (.inl rfl) (xv_assign rfl ⟨rfl, rfl⟩) ?_
      refine j_end0 ?_
      refine th_n ?_
      refine xc_ret ?_
      refine body_ret (h' := h) rfl (ro_cellA ty38 rfl rfl (by ((repeat first|exact z_0|assumption|refine z_1 ?_|(refine z_l ?_;(repeat first|exact z_0|assumption|refine z_1 ?_);done)|refine z_r ?_);done)) (by rfl) (by rfl) (ro_tmp rfl ro_nil)) (by (first|((repeat first|exact s_0|exact s_1|exact s_3|refine s_4 ?_|refine s_5 ?_|refine s_6 ?_|refine s_7 ?_);done)|((repeat first|exact s_0|exact s_1|exact s_3|refine s_4 ?_|refine s_5 ?_|refine s_6 ?_|refine s_8 ?_);done))) ?_
      first | exact H1 s (by unfold btw; rw [if_pos (by assumption)]; exact ho) | exact H2 s (by unfold btw; rw [if_pos (by assumption)]; exact ho) | exact H1 ⟨0, 0⟩ (by unfold btw; rw [if_neg (by simp [*])]; exact ho) | exact H2 s (by unfold btw; rw [if_neg (by simp [*])]; exact ho)
    · refine js_S rfl rfl (.inl rfl) (xv_extract rfl rfl ⟨rfl, rfl⟩) ?_
      refine js_S rfl rfl (.inl rfl) (xv_extract rfl rfl ⟨rfl, rfl⟩) ?_
      refine js_O0 rfl rfl (.inl rfl) (xv_s ty38 rfl rfl (by (first|(apply u_3;(repeat first|exact u_0|assumption|apply u_1|apply u_2);done)|((repeat first|exact u_0|assumption|apply u_1|apply u_2);done)|(apply u_3;apply u_3;(repeat first|exact u_0|assumption|apply u_1|apply u_2);done)|((repeat first|exact u_0|assumption|apply u_3|apply u_1);done))) (by ((try apply evl_some rfl);(repeat (first|exact (rfl : _ = [])|apply evl_cons rfl (by (first|exact v_1|exact v_2|exact v_3|exact v_4|exact v_5|exact v_6|exact v_7|exact v_8|exact v_9|exact rfl))|exact rfl)))) (by rfl) (by rfl) (by rfl) (by ((try apply evl_some rfl);(repeat (first|exact (rfl : _ = [])|apply evl_cons rfl (by (first|exact v_1|exact v_2|exact v_3|exact v_4|exact v_5|exact v_6|exact v_7|exact v_8|exact v_9|exact rfl))|exact rfl)))) ?_)
      refine js_S rfl rfl (.inl rfl) (xv_assign rfl ⟨rfl, rfl⟩) ?_
      refine j_end0 ?_
      refine th_n ?_
      refine xc_ret ?_
      refine body_ret (h' := h) rfl (ro_cellA ty38 rfl rfl (by ((repeat first|exact z_0|assumption|refine z_1 ?_|(refine z_l ?_;(repeat first|exact z_0|assumption|refine z_1 ?_);done)|refine z_r ?_);done)) (by rfl) (by rfl) (ro_tmp rfl ro_nil)) (by (first|((repeat first|exact s_0|exact s_1|exact s_3|refine s_4 ?_|refine s_5 ?_|refine s_6 ?_|refine s_7 ?_);done)|((repeat first|exact s_0|exact s_1|exact s_3|refine s_4 ?_|refine s_5 ?_|refine s_6 ?_|refine s_8 ?_);done))) ?_
      first | exact H1 s (by unfold btw; rw [if_pos (by assumption)]; exact ho) | exact H2 s (by unfold btw; rw [if_pos (by assumption)]; exact ho) | exact H1 ⟨0, 0⟩ (by unfold btw; rw [if_neg (by simp [*])]; exact ho) | exact H2 s (by unfold btw; rw [if_neg (by simp [*])]; exact ho)
  · refine xc_skip ?_
    refine th_n ?_
    refine xc_seq ?_
    refine xc_draw0 [(0, .S), (1, .S), (2, .S), (3, .S), (4, .S), (5, .S), (6, .R), (7, .S), (8, .S), (9, .S), (10, .S), (11, .S), (12, .S), (13, .S), (14, .R), (15, .S), (16, .S), (17, .S), (18, .S), (19, .S), (20, .O), (21, .S), (22, .S), (23, .O), (24, .S)] mixed (by kernel_rfl) ?_
    refine js_S rfl rfl (.inl rfl) (xv_move rfl ⟨rfl, rfl⟩) ?_
    refine js_S rfl rfl (.inl rfl) (xv_move rfl ⟨rfl, rfl⟩) ?_
    refine js_S rfl rfl (.inl rfl) (xv_nilp rfl ⟨rfl, rfl⟩) ?_
    refine js_S rfl rfl (.inl rfl) (xv_faddr fl74_0 rfl ⟨rfl, rfl⟩) ?_
    refine js_S rfl rfl (.inl rfl) (xv_faddr fl45_1 rfl ⟨rfl, rfl⟩) ?_
    refine js_S rfl rfl (.inl rfl) (xv_faddr fl38_0 rfl ⟨rfl, rfl⟩) ?_
    refine js_R0 rfl rfl (.inl rfl) (xv_load1 ty3 rfl rfl (by ((repeat first|exact z_0|assumption|refine z_1 ?_|(refine z_l ?_;(repeat first|exact z_0|assumption|refine z_1 ?_);done)|refine z_r ?_);done)) (by rfl) ⟨rfl, rfl⟩) ?_
    refine js_S rfl rfl (.inl rfl) (xv_move rfl ⟨rfl, rfl⟩) ?_
    refine js_S rfl rfl (.inl rfl) (xv_mul rfl rfl (wrap_i64 (by (first | omega | (dsimp only at *; omega) | (simp at *; omega))) (by (first | omega | (dsimp only at *; omega) | (simp at *; omega)))) ⟨rfl, rfl⟩) ?_
    refine js_S rfl rfl (.inl rfl) (xv_move rfl ⟨rfl, rfl⟩) ?_
    refine js_S rfl rfl (.inl rfl) (xv_nilp rfl ⟨rfl, rfl⟩) ?_
    refine js_S rfl rfl (.inl rfl) (xv_faddr fl74_0 rfl ⟨rfl, rfl⟩) ?_
    refine js_S rfl rfl (.inl rfl) (xv_faddr fl45_1 rfl ⟨rfl, rfl⟩) ?_
    refine js_S rfl rfl (.inl rfl) (xv_faddr fl38_1 rfl ⟨rfl, rfl⟩) ?_
    refine js_R0 rfl rfl (.inl rfl) (xv_load1 ty3 rfl rfl (by ((repeat first|exact z_0|assumption|refine z_1 ?_|(refine z_l ?_;(repeat first|exact z_0|assumption|refine z_1 ?_);done)|refine z_r ?_);done)) (by rfl) ⟨rfl, rfl⟩) ?_
    refine js_S rfl rfl (.inl rfl) (xv_move rfl ⟨rfl, rfl⟩) ?_
    refine js_S rfl rfl (.inl rfl) (xv_mul rfl rfl (wrap_i64 (by (first | omega | (dsimp only at *; omega) | (simp at *; omega))) (by (first | omega | (dsimp only at *; omega) | (simp at *; omega)))) ⟨rfl, rfl⟩) ?_
    refine js_S rfl rfl (.inl rfl) (xv_func rfl rfl ⟨rfl, rfl⟩) ?_
    refine js_S rfl rfl (.inl rfl) (xv_nilm ty106 rfl meth93 rfl ⟨rfl, rfl⟩) ?_
    refine js_S rfl rfl (.inl rfl) (xv_move rfl ⟨rfl, rfl⟩) ?_
    refine js_O0 rfl rfl (.inl rfl) (xv_invoke ty106 rfl meth93 rfl rfl hb93 (exact_c (least := leastF d a b) (turn := turnI d.digits) (low := (d.rate.lo * (b.hour - a.hour))) (high := (d.rate.hi * (b.hour - a.hour))) (by omega) (by omega) (by omega) (by omega) (by omega) (by omega) (fun ho => up_ret ?_) (fun s ho => up_ret ?_)))
    · refine js_S rfl rfl (.inl rfl) (xv_extract rfl rfl ⟨rfl, rfl⟩) ?_
      refine js_S rfl rfl (.inl rfl) (xv_extract rfl rfl ⟨rfl, rfl⟩) ?_
      refine js_O0 rfl rfl (.inl rfl) (xv_s ty38 rfl rfl (by (first|(apply u_3;(repeat first|exact u_0|assumption|apply u_1|apply u_2);done)|((repeat first|exact u_0|assumption|apply u_1|apply u_2);done)|(apply u_3;apply u_3;(repeat first|exact u_0|assumption|apply u_1|apply u_2);done)|((repeat first|exact u_0|assumption|apply u_3|apply u_1);done))) (by ((try apply evl_some rfl);(repeat (first|exact (rfl : _ = [])|apply evl_cons rfl (by (first|exact v_1|exact v_2|exact v_3|exact v_4|exact v_5|exact v_6|exact v_7|exact v_8|exact v_9|exact rfl))|exact rfl)))) (by rfl) (by rfl) (by rfl) (by ((try apply evl_some rfl);(repeat (first|exact (rfl : _ = [])|apply evl_cons rfl (by (first|exact v_1|exact v_2|exact v_3|exact v_4|exact v_5|exact v_6|exact v_7|exact v_8|exact v_9|exact rfl))|exact rfl)))) ?_)
      refine js_S rfl rfl (.inl rfl) (xv_assign rfl ⟨rfl, rfl⟩) ?_
      refine j_end0 ?_
      refine th_n ?_
      refine xc_ret ?_
      refine body_ret (h' := h) rfl (ro_cellA ty38 rfl rfl (by ((repeat first|exact z_0|assumption|refine z_1 ?_|(refine z_l ?_;(repeat first|exact z_0|assumption|refine z_1 ?_);done)|refine z_r ?_);done)) (by rfl) (by rfl) (ro_tmp rfl ro_nil)) (by (first|((repeat first|exact s_0|exact s_1|exact s_3|refine s_4 ?_|refine s_5 ?_|refine s_6 ?_|refine s_7 ?_);done)|((repeat first|exact s_0|exact s_1|exact s_3|refine s_4 ?_|refine s_5 ?_|refine s_6 ?_|refine s_8 ?_);done))) ?_
      first | exact H1 s (by unfold btw; rw [if_pos (by assumption)]; exact ho) | exact H2 s (by unfold btw; rw [if_pos (by assumption)]; exact ho) | exact H1 ⟨0, 0⟩ (by unfold btw; rw [if_neg (by simp [*])]; exact ho) | exact H2 s (by unfold btw; rw [if_neg (by simp [*])]; exact ho)
    · refine js_S rfl rfl (.inl rfl) (xv_extract rfl rfl ⟨rfl, rfl⟩) ?_
      refine js_S rfl rfl (.inl rfl) (xv_extract rfl rfl ⟨rfl, rfl⟩) ?_
      refine js_O0 rfl rfl (.inl rfl) (xv_s ty38 rfl rfl (by (first|(apply u_3;(repeat first|exact u_0|assumption|apply u_1|apply u_2);done)|((repeat first|exact u_0|assumption|apply u_1|apply u_2);done)|(apply u_3;apply u_3;(repeat first|exact u_0|assumption|apply u_1|apply u_2);done)|((repeat first|exact u_0|assumption|apply u_3|apply u_1);done))) (by ((try apply evl_some rfl);(repeat (first|exact (rfl : _ = [])|apply evl_cons rfl (by (first|exact v_1|exact v_2|exact v_3|exact v_4|exact v_5|exact v_6|exact v_7|exact v_8|exact v_9|exact rfl))|exact rfl)))) (by rfl) (by rfl) (by rfl) (by ((try apply evl_some rfl);(repeat (first|exact (rfl : _ = [])|apply evl_cons rfl (by (first|exact v_1|exact v_2|exact v_3|exact v_4|exact v_5|exact v_6|exact v_7|exact v_8|exact v_9|exact rfl))|exact rfl)))) ?_)
      refine js_S rfl rfl (.inl rfl) (xv_assign rfl ⟨rfl, rfl⟩) ?_
      refine j_end0 ?_
      refine th_n ?_
      refine xc_ret ?_
      refine body_ret (h' := h) rfl (ro_cellA ty38 rfl rfl (by ((repeat first|exact z_0|assumption|refine z_1 ?_|(refine z_l ?_;(repeat first|exact z_0|assumption|refine z_1 ?_);done)|refine z_r ?_);done)) (by rfl) (by rfl) (ro_tmp rfl ro_nil)) (by (first|((repeat first|exact s_0|exact s_1|exact s_3|refine s_4 ?_|refine s_5 ?_|refine s_6 ?_|refine s_7 ?_);done)|((repeat first|exact s_0|exact s_1|exact s_3|refine s_4 ?_|refine s_5 ?_|refine s_6 ?_|refine s_8 ?_);done))) ?_
      first | exact H1 s (by unfold btw; rw [if_pos (by assumption)]; exact ho) | exact H2 s (by unfold btw; rw [if_pos (by assumption)]; exact ho) | exact H1 ⟨0, 0⟩ (by unfold btw; rw [if_neg (by simp [*])]; exact ho) | exact H2 s (by unfold btw; rw [if_neg (by simp [*])]; exact ho)

end Go.Proofs.YtckaaaebegemoaaDoor
