/-
  Walks.
-/
import Derived.Test.YtlailecnbdlknaaP16
namespace Go.Proofs.Ytlailecnbdlknaa
open Go Go.H
set_option maxRecDepth 100000
set_option maxHeartbeats 2000000
set_option linter.all false
theorem TarMore_c {y : Yard} {kn bn : Nat} {h : Hp} {R : Ending → Hp → Prop} (hv : YardV h y) (hkn : kn ≤ 255) (hbn : bn ≤ 255) (H : R (.returned (.bool true)) h) :
    ACalls Try.prog 7 ⟨[.agg ⟨eYard y⟩, .int .u8 kn, .int .u8 bn]⟩ h R := by
  refine calls_of_xc (N := 232) Try.func7 rfl (by rfl) ?_
  have hv0 := hv
  refine xc_seq (xc_region ?_)
  refine xr_op rfl rfl (xv_box rfl (fun b3 hb3 => ?_))
  refine xr_op rfl rfl (xv_assign rfl ?_)
  refine xr_end rfl ?_
  refine th_n ?_
  refine xc_seq ?_
  refine xc_seq (xc_region ?_)
  refine xr_op rfl rfl (xv_loadA ty26 rfl rfl (by (first|((repeat first|exact z_0|assumption|refine z_1 ?_|refine z_r ?_);done)|((repeat refine z_1 ?_);refine z_l ?_;(repeat first|exact z_0|assumption|refine z_1 ?_|refine z_r ?_);done)|((repeat refine z_1 ?_);refine z_r ?_;(repeat refine z_1 ?_);refine z_l ?_;(repeat first|exact z_0|assumption|refine z_1 ?_|refine z_r ?_);done)|((repeat first|exact z_0|assumption|refine z_1 ?_|refine z_l ?_);done))) (by ((try apply evl_some rfl);(repeat (first|exact (rfl : _ = [])|apply evl_cons rfl (by (first|exact v_1|exact v_2|exact v_3|exact v_4|exact v_5|exact v_6|exact v_7|exact v_8|exact v_9|exact rfl))|exact rfl)))) (by rfl) ?_)
  refine xr_op rfl rfl (xv_calls rfl hb9 (large_c (hv.sub (by intro z hz; (first|((repeat first|exact z_0|assumption|refine z_1 ?_|refine z_r ?_);done)|((repeat refine z_1 ?_);refine z_l ?_;(repeat first|exact z_0|assumption|refine z_1 ?_|refine z_r ?_);done)|((repeat refine z_1 ?_);refine z_r ?_;(repeat refine z_1 ?_);refine z_l ?_;(repeat first|exact z_0|assumption|refine z_1 ?_|refine z_r ?_);done)|((repeat first|exact z_0|assumption|refine z_1 ?_|refine z_l ?_);done)))) (up_ret ?_) (fun hs => up_ret ?_)))
  · refine xr_end rfl ?_
    refine th_n ?_
    refine xc_true rfl ?_
    refine xc_seq (xc_region ?_)
    refine xr_op rfl rfl (xv_calls rfl hb10 (awake_c (up_ret ?_)))
    refine xr_op rfl rfl (xv_assign rfl ?_)
    refine xr_end rfl ?_
    refine th_n ?_
    refine xc_ret ?_
    refine th_r ?_
    refine body_ret (h' := h) rfl (ro_tmp rfl ro_nil) (by (first|((repeat first|exact s_0|exact s_1|exact s_3|refine s_4 ?_|refine s_5 ?_|refine s_6 ?_|refine s_7 ?_);done)|((repeat first|exact s_0|exact s_1|exact s_3|refine s_4 ?_|refine s_5 ?_|refine s_6 ?_|refine s_8 ?_);done))) ?_
    exact H
  · refine xr_end rfl ?_
    refine th_n ?_
    refine xc_false rfl ?_
    refine xc_skip ?_
    refine th_n ?_
    refine xc_seq (xc_region ?_)
    refine xr_op rfl rfl (xv_loadA ty26 rfl rfl (by (first|((repeat first|exact z_0|assumption|refine z_1 ?_|refine z_r ?_);done)|((repeat refine z_1 ?_);refine z_l ?_;(repeat first|exact z_0|assumption|refine z_1 ?_|refine z_r ?_);done)|((repeat refine z_1 ?_);refine z_r ?_;(repeat refine z_1 ?_);refine z_l ?_;(repeat first|exact z_0|assumption|refine z_1 ?_|refine z_r ?_);done)|((repeat first|exact z_0|assumption|refine z_1 ?_|refine z_l ?_);done))) (by ((try apply evl_some rfl);(repeat (first|exact (rfl : _ = [])|apply evl_cons rfl (by (first|exact v_1|exact v_2|exact v_3|exact v_4|exact v_5|exact v_6|exact v_7|exact v_8|exact v_9|exact rfl))|exact rfl)))) (by rfl) ?_)
    refine xr_op rfl rfl (xv_calls rfl hb11 (PlanB_c (hv.sub (by intro z hz; (first|((repeat first|exact z_0|assumption|refine z_1 ?_|refine z_r ?_);done)|((repeat refine z_1 ?_);refine z_l ?_;(repeat first|exact z_0|assumption|refine z_1 ?_|refine z_r ?_);done)|((repeat refine z_1 ?_);refine z_r ?_;(repeat refine z_1 ?_);refine z_l ?_;(repeat first|exact z_0|assumption|refine z_1 ?_|refine z_r ?_);done)|((repeat first|exact z_0|assumption|refine z_1 ?_|refine z_l ?_);done)))) hs (fun hbad => up_ret ?_) (fun hy q m hbest hB pa pc pq hsl => up_ret ?_)))
    · refine xr_op rfl rfl (xv_move rfl ?_)
      refine xr_op rfl rfl (xv_extract rfl rfl ?_)
      refine xr_op rfl rfl (xv_extract rfl rfl ?_)
      refine xr_op rfl rfl (xv_extract rfl rfl ?_)
      refine xr_op rfl rfl (xv_assign rfl ?_)
      refine xr_op rfl rfl (xv_assign rfl ?_)
      refine xr_op rfl rfl (xv_assign rfl ?_)
      refine xr_end rfl ?_
      refine th_n ?_
      refine xc_seq ?_
      refine xc_seq (xc_region ?_)
      refine xr_op rfl rfl (xv_move rfl ?_)
      refine xr_op rfl rfl (xv_neqT rfl rfl (by decide) ?_)
      refine xr_end rfl ?_
      refine th_n ?_
      refine xc_true rfl ?_
      refine xc_seq (xc_region ?_)
      refine xr_op rfl rfl (xv_move rfl ?_)
      refine xr_op rfl rfl (xv_eqlT rfl rfl rfl ?_)
      refine xr_op rfl rfl (xv_move rfl ?_)
      refine xr_gd rfl rfl rfl (xv_calls rfl hb10 (awake_c (up_ret ?_)))
      refine xr_op rfl rfl (xv_pick rfl rfl ?_)
      refine xr_op rfl rfl (xv_assign rfl ?_)
      refine xr_end rfl ?_
      refine th_n ?_
      refine xc_ret ?_
      refine th_r ?_
      refine body_ret (h' := h) rfl (ro_tmp rfl ro_nil) (by (first|((repeat first|exact s_0|exact s_1|exact s_3|refine s_4 ?_|refine s_5 ?_|refine s_6 ?_|refine s_7 ?_);done)|((repeat first|exact s_0|exact s_1|exact s_3|refine s_4 ?_|refine s_5 ?_|refine s_6 ?_|refine s_8 ?_);done))) ?_
      exact H
    · refine xr_op rfl rfl (xv_move rfl ?_)
      refine xr_op rfl rfl (xv_extract rfl rfl ?_)
      refine xr_op rfl rfl (xv_extract rfl rfl ?_)
      refine xr_op rfl rfl (xv_extract rfl rfl ?_)
      refine xr_op rfl rfl (xv_assign rfl ?_)
      refine xr_op rfl rfl (xv_assign rfl ?_)
      refine xr_op rfl rfl (xv_assign rfl ?_)
      refine xr_end rfl ?_
      refine th_n ?_
      refine xc_seq ?_
      refine xc_seq (xc_region ?_)
      refine xr_op rfl rfl (xv_move rfl ?_)
      refine xr_op rfl rfl (xv_neqF rfl rfl rfl ?_)
      refine xr_end rfl ?_
      refine th_n ?_
      refine xc_false rfl ?_
      refine xc_skip ?_
      refine th_n ?_
      refine xc_seq ?_
      refine xc_seq (xc_region ?_)
      refine xr_op rfl rfl (xv_loadA ty26 rfl rfl (by (first|((repeat first|exact z_0|assumption|refine z_1 ?_|refine z_r ?_);done)|((repeat refine z_1 ?_);refine z_l ?_;(repeat first|exact z_0|assumption|refine z_1 ?_|refine z_r ?_);done)|((repeat refine z_1 ?_);refine z_r ?_;(repeat refine z_1 ?_);refine z_l ?_;(repeat first|exact z_0|assumption|refine z_1 ?_|refine z_r ?_);done)|((repeat first|exact z_0|assumption|refine z_1 ?_|refine z_l ?_);done))) (by ((try apply evl_some rfl);(repeat (first|exact (rfl : _ = [])|apply evl_cons rfl (by (first|exact v_1|exact v_2|exact v_3|exact v_4|exact v_5|exact v_6|exact v_7|exact v_8|exact v_9|exact rfl))|exact rfl)))) (by rfl) ?_)
      refine xr_op rfl rfl (xv_calls rfl hb21 (YardsT_c (hv.sub (by intro z hz; (first|((repeat first|exact z_0|assumption|refine z_1 ?_|refine z_r ?_);done)|((repeat refine z_1 ?_);refine z_l ?_;(repeat first|exact z_0|assumption|refine z_1 ?_|refine z_r ?_);done)|((repeat refine z_1 ?_);refine z_r ?_;(repeat refine z_1 ?_);refine z_l ?_;(repeat first|exact z_0|assumption|refine z_1 ?_|refine z_r ?_);done)|((repeat first|exact z_0|assumption|refine z_1 ?_|refine z_l ?_);done)))) hy (up_ret ?_)))
      refine xr_op rfl rfl (xv_not rfl ?_)
      refine xr_end rfl ?_
      refine th_n ?_
      refine xc_false rfl ?_
      refine xc_skip ?_
      refine th_n ?_
      refine xc_seq (xc_region ?_)
      refine xr_op rfl rfl (xv_move rfl ?_)
      refine xr_op rfl rfl (xv_convI Try.underlying5 Try.underlying3 rfl (wrap_i64 (by (first | omega | (dsimp only at *; omega) | (simp at *; omega))) (by (first | omega | (dsimp only at *; omega) | (simp at *; omega)))) ?_)
      refine xr_op rfl rfl (xv_assign rfl ?_)
      refine xr_end rfl ?_
      refine th_n ?_
      refine xc_seq (xc_region ?_)
      refine xr_op rfl rfl (xv_loadA ty26 rfl rfl (by (first|((repeat first|exact z_0|assumption|refine z_1 ?_|refine z_r ?_);done)|((repeat refine z_1 ?_);refine z_l ?_;(repeat first|exact z_0|assumption|refine z_1 ?_|refine z_r ?_);done)|((repeat refine z_1 ?_);refine z_r ?_;(repeat refine z_1 ?_);refine z_l ?_;(repeat first|exact z_0|assumption|refine z_1 ?_|refine z_r ?_);done)|((repeat first|exact z_0|assumption|refine z_1 ?_|refine z_l ?_);done))) (by ((try apply evl_some rfl);(repeat (first|exact (rfl : _ = [])|apply evl_cons rfl (by (first|exact v_1|exact v_2|exact v_3|exact v_4|exact v_5|exact v_6|exact v_7|exact v_8|exact v_9|exact rfl))|exact rfl)))) (by rfl) ?_)
      refine xr_op rfl rfl (xv_alloc ty26 (fun bR hbR => ?_))
      refine xr_op rfl rfl (xv_s ty26 rfl rfl (by (first|(apply u_3;(repeat first|exact u_0|assumption|apply u_1|apply u_2);done)|((repeat first|exact u_0|assumption|apply u_1|apply u_2);done)|(apply u_3;apply u_3;(repeat first|exact u_0|assumption|apply u_1|apply u_2);done)|((repeat first|exact u_0|assumption|apply u_3|apply u_1);done))) (by ((try apply evl_some rfl);(repeat (first|exact (rfl : _ = [])|apply evl_cons rfl (by (first|exact v_1|exact v_2|exact v_3|exact v_4|exact v_5|exact v_6|exact v_7|exact v_8|exact v_9|exact rfl))|exact rfl)))) (by rfl) (by rfl) (by rfl) (by ((try apply evl_some rfl);(repeat (first|exact (rfl : _ = [])|apply evl_cons rfl (by (first|exact v_1|exact v_2|exact v_3|exact v_4|exact v_5|exact v_6|exact v_7|exact v_8|exact v_9|exact rfl))|exact rfl)))) ?_)
      refine xr_end rfl ?_
      refine th_n ?_
      refine xc_seq ?_
      refine xc_drawL (L := [(b3, fun o => o = .cells ⟨eYard y⟩ 26 (0, 0))]) [(0, .P), (1, .S), (2, .S), (4, .P), (5, .S), (6, .S), (8, .P), (9, .S), (10, .S), (0, .A), (3, .O), (12, .S), (4, .A), (7, .O), (8, .A), (11, .O), (13, .O), (14, .S), (15, .O), (16, .S), (17, .O)] [] _ mixed (by kernel_rfl) (by rw [List.append_nil]) ((holds1 (by (first|((repeat first|exact z_0|assumption|refine z_1 ?_|refine z_r ?_);done)|((repeat refine z_1 ?_);refine z_l ?_;(repeat first|exact z_0|assumption|refine z_1 ?_|refine z_r ?_);done)|((repeat refine z_1 ?_);refine z_r ?_;(repeat refine z_1 ?_);refine z_l ?_;(repeat first|exact z_0|assumption|refine z_1 ?_|refine z_r ?_);done)|((repeat first|exact z_0|assumption|refine z_1 ?_|refine z_l ?_);done))) rfl)) ?_
      have hn1 := hy.n1
      have hn6 := hy.n6
      have hs4 := hy.s4
      have hs6 := hy.s6
      refine js_P rfl rfl rfl (al_buildSlice sl22 ty3 rfl rfl rfl rfl rfl (by ((try apply evl_some rfl);(repeat (first|exact (rfl : _ = [])|apply evl_cons rfl (by (first|exact v_1|exact v_2|exact v_3|exact v_4|exact v_5|exact v_6|exact v_7|exact v_8|exact v_9|exact rfl))|exact rfl))))) ?_
      refine js_S rfl rfl (.inl rfl) (xv_faddr fl26_0 rfl ⟨rfl, rfl⟩) ?_
      refine js_I rfl rfl (.inl rfl) (fun hh hv => by obtain ⟨o, hm, rfl⟩ := hv b3 _ List.mem_cons_self; exact xv_load1 ty22 rfl rfl (List.mem_append_left _ hm) rfl ⟨rfl, rfl⟩) ?_
      refine js_P rfl rfl rfl (al_buildSlice sl23 ty48 rfl rfl rfl rfl rfl (by ((try apply evl_some rfl);(repeat (first|exact (rfl : _ = [])|apply evl_cons rfl (by (first|exact v_1|exact v_2|exact v_3|exact v_4|exact v_5|exact v_6|exact v_7|exact v_8|exact v_9|exact rfl))|exact rfl))))) ?_
      refine js_S rfl rfl (.inl rfl) (xv_faddr fl26_1 rfl ⟨rfl, rfl⟩) ?_
      refine js_I rfl rfl (.inl rfl) (fun hh hv => by obtain ⟨o, hm, rfl⟩ := hv b3 _ List.mem_cons_self; exact xv_load1 ty23 rfl rfl (List.mem_append_left _ hm) rfl ⟨rfl, rfl⟩) ?_
      refine js_P rfl rfl rfl (al_buildSlice sl24 ty51 rfl rfl rfl rfl rfl (by ((try apply evl_some rfl);(repeat (first|exact (rfl : _ = [])|apply evl_cons rfl (by (first|exact v_1|exact v_2|exact v_3|exact v_4|exact v_5|exact v_6|exact v_7|exact v_8|exact v_9|exact rfl))|exact rfl))))) ?_
      refine js_S rfl rfl (.inl rfl) (xv_faddr fl26_2 rfl ⟨rfl, rfl⟩) ?_
      refine js_I rfl rfl (.inl rfl) (fun hh hv => by obtain ⟨o, hm, rfl⟩ := hv b3 _ List.mem_cons_self; exact xv_load1 ty24 rfl rfl (List.mem_append_left _ hm) rfl ⟨rfl, rfl⟩) ?_
      have hn1 := hy.n1
      have hn6 := hy.n6
      have hs4 := hy.s4
      have hs6 := hy.s6
      refine js_A0 rfl rfl rfl rfl rfl trivial (fun b49 hb49 => ?_)
      refine js_OL0 rfl rfl (.inl rfl) (xv_copy (enc := eI) (xs := y.stock) sl22 ty3 rfl rfl rfl rfl (hv0.stock.sub (by ((intro q0 hq0;(repeat first|(with_reducible exact hq0)|(with_reducible exact z_l hq0)|(with_reducible refine z_1 ?_)|(with_reducible refine z_r ?_)))))) eI_len eI_1 (by simp only []; omega) (by omega) (fun VS hVS => ?_))
      refine ⟨(holds1 (by (first|((repeat first|exact z_0|assumption|refine z_1 ?_|refine z_r ?_);done)|((repeat refine z_1 ?_);refine z_l ?_;(repeat first|exact z_0|assumption|refine z_1 ?_|refine z_r ?_);done)|((repeat refine z_1 ?_);refine z_r ?_;(repeat refine z_1 ?_);refine z_l ?_;(repeat first|exact z_0|assumption|refine z_1 ?_|refine z_r ?_);done)|((repeat first|exact z_0|assumption|refine z_1 ?_|refine z_l ?_);done))) rfl), ?_⟩
      refine js_S rfl rfl (.inl rfl) (xv_faddr fl26_0 rfl ⟨rfl, rfl⟩) ?_
      refine js_A0 rfl rfl rfl rfl rfl trivial (fun b53 hb53 => ?_)
      refine js_OL0 rfl rfl (.inl rfl) (xv_copy (enc := eStill) (xs := y.stills) sl23 ty48 rfl rfl rfl rfl (hv0.stills.sub (by ((intro q0 hq0;(repeat first|(with_reducible exact hq0)|(with_reducible exact z_l hq0)|(with_reducible refine z_1 ?_)|(with_reducible refine z_r ?_)))))) eStill_len eStill_1 (by simp only []; omega) (by omega) (fun VT hVT => ?_))
      refine ⟨(holds1 (by (first|((repeat first|exact z_0|assumption|refine z_1 ?_|refine z_r ?_);done)|((repeat refine z_1 ?_);refine z_l ?_;(repeat first|exact z_0|assumption|refine z_1 ?_|refine z_r ?_);done)|((repeat refine z_1 ?_);refine z_r ?_;(repeat refine z_1 ?_);refine z_l ?_;(repeat first|exact z_0|assumption|refine z_1 ?_|refine z_r ?_);done)|((repeat first|exact z_0|assumption|refine z_1 ?_|refine z_l ?_);done))) rfl), ?_⟩
      refine js_A0 rfl rfl rfl rfl rfl trivial (fun b57 hb57 => ?_)
      refine js_OL0 rfl rfl (.inl rfl) (xv_copy (enc := eSale) (xs := y.sales) sl24 ty51 rfl rfl rfl rfl (hv0.sales.sub (by ((intro q0 hq0;(repeat first|(with_reducible exact hq0)|(with_reducible exact z_l hq0)|(with_reducible refine z_1 ?_)|(with_reducible refine z_r ?_)))))) eSale_len eSale_1 (by simp only []; omega) (by omega) (fun VL hVL => ?_))
      refine ⟨(holds1 (by (first|((repeat first|exact z_0|assumption|refine z_1 ?_|refine z_r ?_);done)|((repeat refine z_1 ?_);refine z_l ?_;(repeat first|exact z_0|assumption|refine z_1 ?_|refine z_r ?_);done)|((repeat refine z_1 ?_);refine z_r ?_;(repeat refine z_1 ?_);refine z_l ?_;(repeat first|exact z_0|assumption|refine z_1 ?_|refine z_r ?_);done)|((repeat first|exact z_0|assumption|refine z_1 ?_|refine z_l ?_);done))) rfl), ?_⟩
      refine js_OL0 rfl rfl (.inl rfl) (xv_s1 ty22 rfl rfl rfl (by (first|(apply u_3;(repeat first|exact u_0|assumption|apply u_1|apply u_2);done)|((repeat first|exact u_0|assumption|apply u_1|apply u_2);done)|(apply u_3;apply u_3;(repeat first|exact u_0|assumption|apply u_1|apply u_2);done)|((repeat first|exact u_0|assumption|apply u_3|apply u_1);done))) (by (first | rfl | exact Vec.one _ _)) (by (first | decide | exact Nat.le_of_ble_eq_true rfl | (simp only [List.length_cons, List.length_nil]; omega) | (simp; done))) (by ((try apply evl_some rfl);(repeat (first|exact (rfl : _ = [])|apply evl_cons rfl (by (first|exact v_1|exact v_2|exact v_3|exact v_4|exact v_5|exact v_6|exact v_7|exact v_8|exact v_9|exact rfl))|exact rfl)))) ?_)
      refine ⟨(holds1 (by (first|((repeat first|exact z_0|assumption|refine z_1 ?_|refine z_r ?_);done)|((repeat refine z_1 ?_);refine z_l ?_;(repeat first|exact z_0|assumption|refine z_1 ?_|refine z_r ?_);done)|((repeat refine z_1 ?_);refine z_r ?_;(repeat refine z_1 ?_);refine z_l ?_;(repeat first|exact z_0|assumption|refine z_1 ?_|refine z_r ?_);done)|((repeat first|exact z_0|assumption|refine z_1 ?_|refine z_l ?_);done))) rfl), ?_⟩
      refine js_S rfl rfl (.inl rfl) (xv_faddr fl26_1 rfl ⟨rfl, rfl⟩) ?_
      refine js_OL0 rfl rfl (.inl rfl) (xv_s1 ty23 rfl rfl rfl (by (first|(apply u_3;(repeat first|exact u_0|assumption|apply u_1|apply u_2);done)|((repeat first|exact u_0|assumption|apply u_1|apply u_2);done)|(apply u_3;apply u_3;(repeat first|exact u_0|assumption|apply u_1|apply u_2);done)|((repeat first|exact u_0|assumption|apply u_3|apply u_1);done))) (by (first | rfl | exact Vec.one _ _)) (by (first | decide | exact Nat.le_of_ble_eq_true rfl | (simp only [List.length_cons, List.length_nil]; omega) | (simp; done))) (by ((try apply evl_some rfl);(repeat (first|exact (rfl : _ = [])|apply evl_cons rfl (by (first|exact v_1|exact v_2|exact v_3|exact v_4|exact v_5|exact v_6|exact v_7|exact v_8|exact v_9|exact rfl))|exact rfl)))) ?_)
      refine ⟨(holds1 (by (first|((repeat first|exact z_0|assumption|refine z_1 ?_|refine z_r ?_);done)|((repeat refine z_1 ?_);refine z_l ?_;(repeat first|exact z_0|assumption|refine z_1 ?_|refine z_r ?_);done)|((repeat refine z_1 ?_);refine z_r ?_;(repeat refine z_1 ?_);refine z_l ?_;(repeat first|exact z_0|assumption|refine z_1 ?_|refine z_r ?_);done)|((repeat first|exact z_0|assumption|refine z_1 ?_|refine z_l ?_);done))) rfl), ?_⟩
      refine js_S rfl rfl (.inl rfl) (xv_faddr fl26_2 rfl ⟨rfl, rfl⟩) ?_
      refine js_OL0 rfl rfl (.inl rfl) (xv_s1 ty24 rfl rfl rfl (by (first|(apply u_3;(repeat first|exact u_0|assumption|apply u_1|apply u_2);done)|((repeat first|exact u_0|assumption|apply u_1|apply u_2);done)|(apply u_3;apply u_3;(repeat first|exact u_0|assumption|apply u_1|apply u_2);done)|((repeat first|exact u_0|assumption|apply u_3|apply u_1);done))) (by (first | rfl | exact Vec.one _ _)) (by (first | decide | exact Nat.le_of_ble_eq_true rfl | (simp only [List.length_cons, List.length_nil]; omega) | (simp; done))) (by ((try apply evl_some rfl);(repeat (first|exact (rfl : _ = [])|apply evl_cons rfl (by (first|exact v_1|exact v_2|exact v_3|exact v_4|exact v_5|exact v_6|exact v_7|exact v_8|exact v_9|exact rfl))|exact rfl)))) ?_)
      refine ⟨(holds1 (by (first|((repeat first|exact z_0|assumption|refine z_1 ?_|refine z_r ?_);done)|((repeat refine z_1 ?_);refine z_l ?_;(repeat first|exact z_0|assumption|refine z_1 ?_|refine z_r ?_);done)|((repeat refine z_1 ?_);refine z_r ?_;(repeat refine z_1 ?_);refine z_l ?_;(repeat first|exact z_0|assumption|refine z_1 ?_|refine z_r ?_);done)|((repeat first|exact z_0|assumption|refine z_1 ?_|refine z_l ?_);done))) rfl), ?_⟩
      refine j_end0 ?_
      refine th_n ?_
      refine xc_seq ?_
      refine xc_draw0 [(0, .S), (1, .R), (2, .S), (3, .S), (4, .R), (5, .S), (6, .S), (7, .S), (8, .R), (9, .S), (10, .S), (11, .R), (12, .S), (13, .S), (14, .S), (15, .R), (16, .S), (17, .S), (18, .S), (19, .S), (20, .S), (21, .S), (22, .O)] mixed (by kernel_rfl) ?_
      obtain ⟨bS, cS, spS, rfl⟩ := Vec.at_pos hVS (by omega)
      rw [Vec.val_ad hVT, Vec.val_ad hVL]
      simp only [hp_at, val_at, List.cons_append, List.nil_append]
      have hIl : kn % y.stock.length < y.stock.length := Nat.mod_lt _ (by omega)
      obtain ⟨xi, hki⟩ : ∃ qq_, y.stock[kn % y.stock.length]? = some qq_ := ⟨_, List.getElem?_eq_getElem hIl⟩
      have htn := hy.stock xi (List.mem_of_getElem? hki)
      unfold tonsOk at htn
      have hr9 := tmod_bd (a := bn) (d := 9) (by omega) (by decide)
      have hr5 := tmod_bd (a := bn) (d := 5) (by omega) (by decide)
      have hr7 := tmod_bd (a := bn) (d := 7) (by omega) (by decide)
      have hg1 : GoodYard (yd (some ⟨bS, 0, none⟩) cS (y.stock.set (kn % y.stock.length) (min 1048576 (xi + (bn : Int).tmod 9))) VT.ad VT.cp y.stills VL.ad VL.cp y.sales) := good_stock (i := kn % y.stock.length) (v := min 1048576 (xi + (bn : Int).tmod 9)) hy (by unfold tonsOk; omega) rfl rfl rfl
      have hls : y.sales.length = y.sales.length := rfl
      have hts : y.stills.length = y.stills.length := rfl
      refine js_S rfl rfl (.inl rfl) (xv_faddr fl26_0 rfl ⟨rfl, rfl⟩) ?_
      refine js_R0 rfl rfl (.inl rfl) (xv_load1 ty22 rfl rfl (by (first|((repeat first|exact z_0|assumption|refine z_1 ?_|refine z_r ?_);done)|((repeat refine z_1 ?_);refine z_l ?_;(repeat first|exact z_0|assumption|refine z_1 ?_|refine z_r ?_);done)|((repeat refine z_1 ?_);refine z_r ?_;(repeat refine z_1 ?_);refine z_l ?_;(repeat first|exact z_0|assumption|refine z_1 ?_|refine z_r ?_);done)|((repeat first|exact z_0|assumption|refine z_1 ?_|refine z_l ?_);done))) (by rfl) ⟨rfl, rfl⟩) ?_
      refine js_S rfl rfl (.inl rfl) (xv_move rfl ⟨rfl, rfl⟩) ?_
      refine js_S rfl rfl (.inl rfl) (xv_faddr fl26_0 rfl ⟨rfl, rfl⟩) ?_
      refine js_R0 rfl rfl (.inl rfl) (xv_load1 ty22 rfl rfl (by (first|((repeat first|exact z_0|assumption|refine z_1 ?_|refine z_r ?_);done)|((repeat refine z_1 ?_);refine z_l ?_;(repeat first|exact z_0|assumption|refine z_1 ?_|refine z_r ?_);done)|((repeat refine z_1 ?_);refine z_r ?_;(repeat refine z_1 ?_);refine z_l ?_;(repeat first|exact z_0|assumption|refine z_1 ?_|refine z_r ?_);done)|((repeat first|exact z_0|assumption|refine z_1 ?_|refine z_l ?_);done))) (by rfl) ⟨rfl, rfl⟩) ?_
      refine js_S rfl rfl (.inl rfl) (xv_len sl22 rfl ⟨rfl, rfl⟩) ?_
      refine js_S rfl rfl (.inl rfl) (xv_rem (c := ((kn % y.stock.length : Nat) : Int)) rfl rfl (by omega) (tmod_nat rfl rfl) ⟨rfl, rfl⟩) ?_
      refine js_S rfl rfl (.inl rfl) (xv_faddr fl26_0 rfl ⟨rfl, rfl⟩) ?_
      refine js_R0 rfl rfl (.inl rfl) (xv_load1 ty22 rfl rfl (by (first|((repeat first|exact z_0|assumption|refine z_1 ?_|refine z_r ?_);done)|((repeat refine z_1 ?_);refine z_l ?_;(repeat first|exact z_0|assumption|refine z_1 ?_|refine z_r ?_);done)|((repeat refine z_1 ?_);refine z_r ?_;(repeat refine z_1 ?_);refine z_l ?_;(repeat first|exact z_0|assumption|refine z_1 ?_|refine z_r ?_);done)|((repeat first|exact z_0|assumption|refine z_1 ?_|refine z_l ?_);done))) (by rfl) ⟨rfl, rfl⟩) ?_
      refine js_S rfl rfl (.inl rfl) (xv_move rfl ⟨rfl, rfl⟩) ?_
      refine js_S rfl rfl (.inl rfl) (xv_faddr fl26_0 rfl ⟨rfl, rfl⟩) ?_
      refine js_R0 rfl rfl (.inl rfl) (xv_load1 ty22 rfl rfl (by (first|((repeat first|exact z_0|assumption|refine z_1 ?_|refine z_r ?_);done)|((repeat refine z_1 ?_);refine z_l ?_;(repeat first|exact z_0|assumption|refine z_1 ?_|refine z_r ?_);done)|((repeat refine z_1 ?_);refine z_r ?_;(repeat refine z_1 ?_);refine z_l ?_;(repeat first|exact z_0|assumption|refine z_1 ?_|refine z_r ?_);done)|((repeat first|exact z_0|assumption|refine z_1 ?_|refine z_l ?_);done))) (by rfl) ⟨rfl, rfl⟩) ?_
      refine js_S rfl rfl (.inl rfl) (xv_len sl22 rfl ⟨rfl, rfl⟩) ?_
      refine js_S rfl rfl (.inl rfl) (xv_rem (c := ((kn % y.stock.length : Nat) : Int)) rfl rfl (by omega) (tmod_nat rfl rfl) ⟨rfl, rfl⟩) ?_
      refine js_S rfl rfl (.inl rfl) (xv_ia (sz := 1) (j := (kn % y.stock.length)) sl22 ty3 rfl rfl rfl (by (first | assumption | with_reducible exact Int.toNat_natCast _ | with_reducible rfl | rfl)) (by (first | omega | (dsimp only at *; omega) | (simp at *; omega))) (by (first | omega | (dsimp only at *; omega) | (simp at *; omega))) ⟨rfl, rfl⟩) ?_
      refine js_R0 rfl rfl (.inl rfl) (xv_load1 ty3 rfl rfl (by (first|((repeat first|exact z_0|assumption|refine z_1 ?_|refine z_r ?_);done)|((repeat refine z_1 ?_);refine z_l ?_;(repeat first|exact z_0|assumption|refine z_1 ?_|refine z_r ?_);done)|((repeat refine z_1 ?_);refine z_r ?_;(repeat refine z_1 ?_);refine z_l ?_;(repeat first|exact z_0|assumption|refine z_1 ?_|refine z_r ?_);done)|((repeat first|exact z_0|assumption|refine z_1 ?_|refine z_l ?_);done))) (ints_at (zs := []) hki) ⟨rfl, rfl⟩) ?_
      refine js_S rfl rfl (.inl rfl) (xv_move rfl ⟨rfl, rfl⟩) ?_
      refine js_S rfl rfl (.inl rfl) (xv_convI Try.underlying5 Try.underlying3 rfl (wrap_i64 (by (first | omega | (dsimp only at *; omega) | (simp at *; omega))) (by (first | omega | (dsimp only at *; omega) | (simp at *; omega)))) ⟨rfl, rfl⟩) ?_
      refine js_S rfl rfl (.inl rfl) (xv_rem rfl rfl (by omega) rfl ⟨rfl, rfl⟩) ?_
      refine js_S rfl rfl (.inl rfl) (xv_add rfl rfl (wrap_i64 (by (first | omega | (dsimp only at *; omega) | (simp at *; omega))) (by (first | omega | (dsimp only at *; omega) | (simp at *; omega)))) ⟨rfl, rfl⟩) ?_
      refine js_S rfl rfl (.inl rfl) (xv_min rfl rfl rfl ⟨rfl, rfl⟩) ?_
      refine js_S rfl rfl (.inl rfl) (xv_ia (sz := 1) (j := (kn % y.stock.length)) sl22 ty3 rfl rfl rfl (by (first | assumption | with_reducible exact Int.toNat_natCast _ | with_reducible rfl | rfl)) (by (first | omega | (dsimp only at *; omega) | (simp at *; omega))) (by (first | omega | (dsimp only at *; omega) | (simp at *; omega))) ⟨rfl, rfl⟩) ?_
      refine js_O0 rfl rfl (.inl rfl) (xv_s1 ty3 rfl rfl rfl (by (first|(apply u_3;(repeat first|exact u_0|assumption|apply u_1|apply u_2);done)|((repeat first|exact u_0|assumption|apply u_1|apply u_2);done)|(apply u_3;apply u_3;(repeat first|exact u_0|assumption|apply u_1|apply u_2);done)|((repeat first|exact u_0|assumption|apply u_3|apply u_1);done))) rfl (len_ints hIl) (ints_set hIl) ?_)
      refine j_end0 ?_
      refine th_n ?_
      refine xc_seq (xc_region ?_)
      refine xr_op rfl rfl (xv_loadA ty26 rfl rfl (by (first|((repeat first|exact z_0|assumption|refine z_1 ?_|refine z_r ?_);done)|((repeat refine z_1 ?_);refine z_l ?_;(repeat first|exact z_0|assumption|refine z_1 ?_|refine z_r ?_);done)|((repeat refine z_1 ?_);refine z_r ?_;(repeat refine z_1 ?_);refine z_l ?_;(repeat first|exact z_0|assumption|refine z_1 ?_|refine z_r ?_);done)|((repeat first|exact z_0|assumption|refine z_1 ?_|refine z_l ?_);done))) (by ((try apply evl_some rfl);(repeat (first|exact (rfl : _ = [])|apply evl_cons rfl (by (first|exact v_1|exact v_2|exact v_3|exact v_4|exact v_5|exact v_6|exact v_7|exact v_8|exact v_9|exact rfl))|exact rfl)))) (by rfl) ?_)
      refine xr_op rfl rfl (xv_calls rfl hb11 (PlanT_c (yd (some ⟨bS, 0, none⟩) cS (y.stock.set (kn % y.stock.length) (min 1048576 (xi + (bn : Int).tmod 9))) VT.ad VT.cp y.stills VL.ad VL.cp y.sales) (by simp only [eYard, yd, List.length_set, hls, hts]) (yardV_mk (by (first|((repeat first|exact z_0|assumption|refine z_1 ?_|refine z_r ?_);done)|((repeat refine z_1 ?_);refine z_l ?_;(repeat first|exact z_0|assumption|refine z_1 ?_|refine z_r ?_);done)|((repeat refine z_1 ?_);refine z_r ?_;(repeat refine z_1 ?_);refine z_l ?_;(repeat first|exact z_0|assumption|refine z_1 ?_|refine z_r ?_);done)|((repeat first|exact z_0|assumption|refine z_1 ?_|refine z_l ?_);done))) rfl hVT (by ((intro q0 hq0;(repeat first|(with_reducible exact hq0)|(with_reducible exact z_l hq0)|(with_reducible refine z_1 ?_)|(with_reducible refine z_r ?_))))) rfl hVL (by ((intro q0 hq0;(repeat first|(with_reducible exact hq0)|(with_reducible exact z_l hq0)|(with_reducible refine z_1 ?_)|(with_reducible refine z_r ?_))))) (fun x hx => (hv.out x hx).sub (by ((intro q0 hq0;(repeat first|(with_reducible exact hq0)|(with_reducible exact z_l hq0)|(with_reducible refine z_1 ?_)|(with_reducible refine z_r ?_))))))) hg1 (fun q1 m1 hB1 pa1 pc1 pq1 hsl1 => up_ret ?_)))
      refine xr_op rfl rfl (xv_move rfl ?_)
      refine xr_op rfl rfl (xv_extract rfl rfl ?_)
      refine xr_op rfl rfl (xv_extract rfl rfl ?_)
      refine xr_op rfl rfl (xv_extract rfl rfl ?_)
      refine xr_op rfl rfl (xv_assign rfl ?_)
      refine xr_op rfl rfl (xv_assign rfl ?_)
      refine xr_op rfl rfl (xv_assign rfl ?_)
      refine xr_end rfl ?_
      refine th_n ?_
      refine xc_seq ?_
      refine xc_seq (xc_region ?_)
      have hle1 : m ≤ m1 := more_stock hy hB hB1 rfl rfl (newG_le hki (by omega) rfl)
      refine xr_op rfl rfl (xv_move rfl ?_)
      refine xr_op rfl rfl (xv_neqF rfl rfl rfl ?_)
      refine xr_op rfl rfl (xv_move rfl ?_)
      refine xr_gd rfl rfl rfl (xv_move rfl ?_)
      refine xr_gd rfl rfl rfl (xv_move rfl ?_)
      refine xr_gd rfl rfl rfl (xv_cmpK rfl rfl (cmpF rfl (by simp only [cmpP]; (first | omega | (dsimp only at *; omega) | (simp at *; omega)))) ?_)
      refine xr_op rfl rfl (xv_pick rfl rfl ?_)
      refine xr_end rfl ?_
      refine th_n ?_
      refine xc_false rfl ?_
      refine xc_skip ?_
      refine th_n ?_
      refine xc_join (σ := List Sale) (fun ls => ls.length = y.sales.length ∧ salesOk y.stock.length y.sales ls ∧ VL.ok 3 y.sales.length (ls.flatMap eSale)) (fun ls => ((((((emp.put (some 2) (.int .u8 bn)).put (some 3) (.pointer (some ⟨b3, 0, none⟩))).put (some 8) (I m)).put (some 10) (I kn)).put (some 11) (.pointer (some ⟨bR, 0, none⟩))).put (some 13) (I m1))) (fun ls => (VL.hp 51 (ls.flatMap eSale) ++ (VT.hp 48 (y.stills.flatMap eStill) ++ ((bS, .cells ⟨(y.stock.set (kn % y.stock.length) (min 1048576 (xi + (bn : Int).tmod 9))).flatMap eI ++ spS⟩ 3) :: (bR, .cells ⟨[.slice (some ⟨bS, 0, none⟩) y.stock.length cS, .slice VT.ad y.stills.length VT.cp, .slice VL.ad y.sales.length VL.cp]⟩ 26) :: (pq ++ (b3, .cells ⟨eYard y⟩ 26) :: h))))) ?_ ?_
      · refine xc_seq (xc_region ?_)
        refine xr_op rfl rfl (xv_faddr fl26_2 rfl ?_)
        refine xr_op rfl rfl (xv_load1 ty24 rfl rfl (by (first|((repeat first|exact z_0|assumption|refine z_1 ?_|refine z_r ?_);done)|((repeat refine z_1 ?_);refine z_l ?_;(repeat first|exact z_0|assumption|refine z_1 ?_|refine z_r ?_);done)|((repeat refine z_1 ?_);refine z_r ?_;(repeat refine z_1 ?_);refine z_l ?_;(repeat first|exact z_0|assumption|refine z_1 ?_|refine z_r ?_);done)|((repeat first|exact z_0|assumption|refine z_1 ?_|refine z_l ?_);done))) (by rfl) ?_)
        refine xr_op rfl rfl (xv_len sl24 rfl ?_)
        refine xr_op rfl rfl (xv_gtr2 rfl rfl (fun q5 => ?_) (fun q5 => ?_))
        · refine xr_end rfl ?_
          refine th_n ?_
          refine xc_true rfl ?_
          refine xc_seq ?_
          refine xc_draw0 [(0, .S), (1, .R), (2, .S), (3, .S), (4, .R), (5, .S), (6, .S), (7, .S), (8, .S)] mixed (by kernel_rfl) ?_
          obtain ⟨bL, cL, spL, rfl⟩ := Vec.at_pos hVL (by (first | omega | (dsimp only at *; omega) | (simp at *; omega)))
          simp only [hp_at, ad_at, cp_at, List.cons_append, List.nil_append]
          have hJ : kn % y.sales.length < y.sales.length := Nat.mod_lt _ (by (first | omega | (dsimp only at *; omega) | (simp at *; omega)))
          obtain ⟨xj, hkj⟩ : ∃ qq_, y.sales[kn % y.sales.length]? = some qq_ := ⟨_, List.getElem?_eq_getElem hJ⟩
          obtain ⟨sg, sm, sp⟩ := hy.sales xj (List.mem_of_getElem? hkj)
          have hkj2 : (y.sales.set (kn % y.sales.length) ⟨xj.good, xj.most, min 1000000 (xj.price + (bn : Int).tmod 5)⟩)[(kn % y.sales.length)]? = some ⟨xj.good, xj.most, min 1000000 (xj.price + (bn : Int).tmod 5)⟩ := List.getElem?_set_self hJ
          have hJ2 : (kn % y.sales.length) < (y.sales.set (kn % y.sales.length) ⟨xj.good, xj.most, min 1000000 (xj.price + (bn : Int).tmod 5)⟩).length := by rw [List.length_set]; exact hJ
          have hso2 : salesOk y.stock.length y.sales (y.sales.set (kn % y.sales.length) ⟨xj.good, min 1048576 (xj.most + (bn : Int).tmod 7), min 1000000 (xj.price + (bn : Int).tmod 5)⟩) := salesOk.set hy.sales hkj rfl (by dsimp only; omega) (by dsimp only; omega) ⟨sg, by dsimp only; omega, by dsimp only; omega⟩
          refine js_S rfl rfl (.inl rfl) (xv_faddr fl26_2 rfl ⟨rfl, rfl⟩) ?_
          refine js_R0 rfl rfl (.inl rfl) (xv_load1 ty24 rfl rfl (by (first|((repeat first|exact z_0|assumption|refine z_1 ?_|refine z_r ?_);done)|((repeat refine z_1 ?_);refine z_l ?_;(repeat first|exact z_0|assumption|refine z_1 ?_|refine z_r ?_);done)|((repeat refine z_1 ?_);refine z_r ?_;(repeat refine z_1 ?_);refine z_l ?_;(repeat first|exact z_0|assumption|refine z_1 ?_|refine z_r ?_);done)|((repeat first|exact z_0|assumption|refine z_1 ?_|refine z_l ?_);done))) (by rfl) ⟨rfl, rfl⟩) ?_
          refine js_S rfl rfl (.inl rfl) (xv_move rfl ⟨rfl, rfl⟩) ?_
          refine js_S rfl rfl (.inl rfl) (xv_faddr fl26_2 rfl ⟨rfl, rfl⟩) ?_
          refine js_R0 rfl rfl (.inl rfl) (xv_load1 ty24 rfl rfl (by (first|((repeat first|exact z_0|assumption|refine z_1 ?_|refine z_r ?_);done)|((repeat refine z_1 ?_);refine z_l ?_;(repeat first|exact z_0|assumption|refine z_1 ?_|refine z_r ?_);done)|((repeat refine z_1 ?_);refine z_r ?_;(repeat refine z_1 ?_);refine z_l ?_;(repeat first|exact z_0|assumption|refine z_1 ?_|refine z_r ?_);done)|((repeat first|exact z_0|assumption|refine z_1 ?_|refine z_l ?_);done))) (by rfl) ⟨rfl, rfl⟩) ?_
          refine js_S rfl rfl (.inl rfl) (xv_len sl24 rfl ⟨rfl, rfl⟩) ?_
          refine js_S rfl rfl (.inl rfl) (xv_rem (c := ((kn % y.sales.length : Nat) : Int)) rfl rfl (by omega) (tmod_nat rfl rfl) ⟨rfl, rfl⟩) ?_
          refine js_S rfl rfl (.inl rfl) (xv_ia (sz := 3) (j := (kn % y.sales.length)) sl24 ty51 rfl rfl rfl (by (first | assumption | with_reducible exact Int.toNat_natCast _ | with_reducible rfl | rfl)) (by (first | omega | (dsimp only at *; omega) | (simp at *; omega))) (by (first | omega | (dsimp only at *; omega) | (simp at *; omega))) ⟨rfl, rfl⟩) ?_
          refine js_S rfl rfl (.inl rfl) (xv_assign rfl ⟨rfl, rfl⟩) ?_
          refine j_end0 ?_
          refine th_n ?_
          refine xc_draw0 [(0, .S), (1, .S), (2, .S), (3, .S), (4, .S), (5, .R), (6, .S), (7, .S), (8, .S), (9, .S), (10, .S), (11, .S), (12, .S), (13, .S), (14, .R), (15, .S), (16, .S), (17, .S), (18, .S), (19, .S), (20, .S), (21, .S), (22, .O), (23, .S), (24, .S), (25, .O)] mixed (by kernel_rfl) ?_
          refine js_S rfl rfl (.inl rfl) (xv_move rfl ⟨rfl, rfl⟩) ?_
          refine js_S rfl rfl (.inl rfl) (xv_move rfl ⟨rfl, rfl⟩) ?_
          refine js_S rfl rfl (.inl rfl) (xv_move rfl ⟨rfl, rfl⟩) ?_
          refine js_S rfl rfl (.inl rfl) (xv_nilp rfl ⟨rfl, rfl⟩) ?_
          refine js_S rfl rfl (.inl rfl) (xv_faddr fl51_2 rfl ⟨rfl, rfl⟩) ?_
          refine js_R0 rfl rfl (.inl rfl) (xv_load1 ty3 rfl rfl (by (first|((repeat first|exact z_0|assumption|refine z_1 ?_|refine z_r ?_);done)|((repeat refine z_1 ?_);refine z_l ?_;(repeat first|exact z_0|assumption|refine z_1 ?_|refine z_r ?_);done)|((repeat refine z_1 ?_);refine z_r ?_;(repeat refine z_1 ?_);refine z_l ?_;(repeat first|exact z_0|assumption|refine z_1 ?_|refine z_r ?_);done)|((repeat first|exact z_0|assumption|refine z_1 ?_|refine z_l ?_);done))) (take_get (flat_at eSale_len spL _ _ hkj) (j := 2) rfl) ⟨rfl, rfl⟩) ?_
          refine js_S rfl rfl (.inl rfl) (xv_move rfl ⟨rfl, rfl⟩) ?_
          refine js_S rfl rfl (.inl rfl) (xv_convI Try.underlying5 Try.underlying3 rfl (wrap_i64 (by (first | omega | (dsimp only at *; omega) | (simp at *; omega))) (by (first | omega | (dsimp only at *; omega) | (simp at *; omega)))) ⟨rfl, rfl⟩) ?_
          refine js_S rfl rfl (.inl rfl) (xv_rem rfl rfl (by omega) rfl ⟨rfl, rfl⟩) ?_
          refine js_S rfl rfl (.inl rfl) (xv_add rfl rfl (wrap_i64 (by (first | omega | (dsimp only at *; omega) | (simp at *; omega))) (by (first | omega | (dsimp only at *; omega) | (simp at *; omega)))) ⟨rfl, rfl⟩) ?_
          refine js_S rfl rfl (.inl rfl) (xv_min rfl rfl rfl ⟨rfl, rfl⟩) ?_
          refine js_S rfl rfl (.inl rfl) (xv_move rfl ⟨rfl, rfl⟩) ?_
          refine js_S rfl rfl (.inl rfl) (xv_nilp rfl ⟨rfl, rfl⟩) ?_
          refine js_S rfl rfl (.inl rfl) (xv_faddr fl51_1 rfl ⟨rfl, rfl⟩) ?_
          refine js_R0 rfl rfl (.inl rfl) (xv_load1 ty3 rfl rfl (by (first|((repeat first|exact z_0|assumption|refine z_1 ?_|refine z_r ?_);done)|((repeat refine z_1 ?_);refine z_l ?_;(repeat first|exact z_0|assumption|refine z_1 ?_|refine z_r ?_);done)|((repeat refine z_1 ?_);refine z_r ?_;(repeat refine z_1 ?_);refine z_l ?_;(repeat first|exact z_0|assumption|refine z_1 ?_|refine z_r ?_);done)|((repeat first|exact z_0|assumption|refine z_1 ?_|refine z_l ?_);done))) (take_get (flat_at eSale_len spL _ _ hkj) (j := 1) rfl) ⟨rfl, rfl⟩) ?_
          refine js_S rfl rfl (.inl rfl) (xv_move rfl ⟨rfl, rfl⟩) ?_
          refine js_S rfl rfl (.inl rfl) (xv_convI Try.underlying5 Try.underlying3 rfl (wrap_i64 (by (first | omega | (dsimp only at *; omega) | (simp at *; omega))) (by (first | omega | (dsimp only at *; omega) | (simp at *; omega)))) ⟨rfl, rfl⟩) ?_
          refine js_S rfl rfl (.inl rfl) (xv_rem rfl rfl (by omega) rfl ⟨rfl, rfl⟩) ?_
          refine js_S rfl rfl (.inl rfl) (xv_add rfl rfl (wrap_i64 (by (first | omega | (dsimp only at *; omega) | (simp at *; omega))) (by (first | omega | (dsimp only at *; omega) | (simp at *; omega)))) ⟨rfl, rfl⟩) ?_
          refine js_S rfl rfl (.inl rfl) (xv_min rfl rfl rfl ⟨rfl, rfl⟩) ?_
          refine js_S rfl rfl (.inl rfl) (xv_nilp rfl ⟨rfl, rfl⟩) ?_
          refine js_S rfl rfl (.inl rfl) (xv_faddr fl51_2 rfl ⟨rfl, rfl⟩) ?_
          refine js_O0 rfl rfl (.inl rfl) (xv_s1 ty3 rfl rfl rfl (by (first|(apply u_3;(repeat first|exact u_0|assumption|apply u_1|apply u_2);done)|((repeat first|exact u_0|assumption|apply u_1|apply u_2);done)|(apply u_3;apply u_3;(repeat first|exact u_0|assumption|apply u_1|apply u_2);done)|((repeat first|exact u_0|assumption|apply u_3|apply u_1);done))) rfl (sale_lt hJ (by decide)) (set_flat eSale_len (x := xj) (y := ⟨xj.good, xj.most, min 1000000 (xj.price + (bn : Int).tmod 5)⟩) spL (j := 2) (by decide) rfl _ _ hkj) ?_)
          refine js_S rfl rfl (.inl rfl) (xv_nilp rfl ⟨rfl, rfl⟩) ?_
          refine js_S rfl rfl (.inl rfl) (xv_faddr fl51_1 rfl ⟨rfl, rfl⟩) ?_
          refine js_O0 rfl rfl (.inl rfl) (xv_s1 ty3 rfl rfl rfl (by (first|(apply u_3;(repeat first|exact u_0|assumption|apply u_1|apply u_2);done)|((repeat first|exact u_0|assumption|apply u_1|apply u_2);done)|(apply u_3;apply u_3;(repeat first|exact u_0|assumption|apply u_1|apply u_2);done)|((repeat first|exact u_0|assumption|apply u_3|apply u_1);done))) rfl (sale_lt hJ2 (by decide)) (set_flat eSale_len (x := ⟨xj.good, xj.most, min 1000000 (xj.price + (bn : Int).tmod 5)⟩) (y := ⟨xj.good, min 1048576 (xj.most + (bn : Int).tmod 7), min 1000000 (xj.price + (bn : Int).tmod 5)⟩) spL (j := 1) (by decide) rfl _ _ hkj2) ?_)
          refine j_end0 ?_
          exact jn_n (y.sales.set (kn % y.sales.length) ⟨xj.good, min 1048576 (xj.most + (bn : Int).tmod 7), min 1000000 (xj.price + (bn : Int).tmod 5)⟩) ⟨List.length_set, hso2, Vec.ok_set hVL (by rw [flat_lenM eSale_len, flat_lenM eSale_len, List.length_set])⟩ (le_put (le_put (le_put (le_put (le_put (le_put (le_emp _) rfl) rfl) rfl) rfl) rfl) rfl) (by simp only [hp_at, ad_at, cp_at, List.cons_append, List.nil_append, List.set_set]; (first|((repeat first|exact s_0|exact s_1|exact s_3|refine s_4 ?_|refine s_5 ?_|refine s_6 ?_|refine s_7 ?_);done)|((repeat first|exact s_0|exact s_1|exact s_3|refine s_4 ?_|refine s_5 ?_|refine s_6 ?_|refine s_8 ?_);done)))
        · refine xr_end rfl ?_
          refine th_n ?_
          refine xc_false rfl ?_
          refine xc_skip ?_
          exact jn_n y.sales ⟨rfl, salesOk.refl hy.sales, hVL⟩ (le_put (le_put (le_put (le_put (le_put (le_put (le_emp _) rfl) rfl) rfl) rfl) rfl) rfl) (by (first|((repeat first|exact s_0|exact s_1|exact s_3|refine s_4 ?_|refine s_5 ?_|refine s_6 ?_|refine s_7 ?_);done)|((repeat first|exact s_0|exact s_1|exact s_3|refine s_4 ?_|refine s_5 ?_|refine s_6 ?_|refine s_8 ?_);done)))
      · rintro ls ⟨hls, hso, hVL2⟩
        have hts : y.stills.length = y.stills.length := rfl
        have hg2 : GoodYard (yd (some ⟨bS, 0, none⟩) cS (y.stock.set (kn % y.stock.length) (min 1048576 (xi + (bn : Int).tmod 9))) VT.ad VT.cp y.stills VL.ad VL.cp ls) := good_sales hg1 rfl rfl hls (by simp only [yd, List.length_set]; exact hso.2)
        refine xc_seq (xc_region ?_)
        refine xr_op rfl rfl (xv_loadA ty26 rfl rfl (by (first|((repeat first|exact z_0|assumption|refine z_1 ?_|refine z_r ?_);done)|((repeat refine z_1 ?_);refine z_l ?_;(repeat first|exact z_0|assumption|refine z_1 ?_|refine z_r ?_);done)|((repeat refine z_1 ?_);refine z_r ?_;(repeat refine z_1 ?_);refine z_l ?_;(repeat first|exact z_0|assumption|refine z_1 ?_|refine z_r ?_);done)|((repeat first|exact z_0|assumption|refine z_1 ?_|refine z_l ?_);done))) (by ((try apply evl_some rfl);(repeat (first|exact (rfl : _ = [])|apply evl_cons rfl (by (first|exact v_1|exact v_2|exact v_3|exact v_4|exact v_5|exact v_6|exact v_7|exact v_8|exact v_9|exact rfl))|exact rfl)))) (by rfl) ?_)
        refine xr_op rfl rfl (xv_calls rfl hb11 (PlanT_c (yd (some ⟨bS, 0, none⟩) cS (y.stock.set (kn % y.stock.length) (min 1048576 (xi + (bn : Int).tmod 9))) VT.ad VT.cp y.stills VL.ad VL.cp ls) (by simp only [eYard, yd, List.length_set, hls, hts]) (yardV_mk (by (first|((repeat first|exact z_0|assumption|refine z_1 ?_|refine z_r ?_);done)|((repeat refine z_1 ?_);refine z_l ?_;(repeat first|exact z_0|assumption|refine z_1 ?_|refine z_r ?_);done)|((repeat refine z_1 ?_);refine z_r ?_;(repeat refine z_1 ?_);refine z_l ?_;(repeat first|exact z_0|assumption|refine z_1 ?_|refine z_r ?_);done)|((repeat first|exact z_0|assumption|refine z_1 ?_|refine z_l ?_);done))) rfl hVT (by ((intro q0 hq0;(repeat first|(with_reducible exact hq0)|(with_reducible exact z_l hq0)|(with_reducible refine z_1 ?_)|(with_reducible refine z_r ?_))))) hls hVL2 (by ((intro q0 hq0;(repeat first|(with_reducible exact hq0)|(with_reducible exact z_l hq0)|(with_reducible refine z_1 ?_)|(with_reducible refine z_r ?_))))) (fun x hx => (hv.out x hx).sub (by ((intro q0 hq0;(repeat first|(with_reducible exact hq0)|(with_reducible exact z_l hq0)|(with_reducible refine z_1 ?_)|(with_reducible refine z_r ?_))))))) hg2 (fun q2 m2 hB2 pa2 pc2 pq2 hsl2 => up_ret ?_)))
        refine xr_op rfl rfl (xv_move rfl ?_)
        refine xr_op rfl rfl (xv_extract rfl rfl ?_)
        refine xr_op rfl rfl (xv_extract rfl rfl ?_)
        refine xr_op rfl rfl (xv_extract rfl rfl ?_)
        refine xr_op rfl rfl (xv_assign rfl ?_)
        refine xr_op rfl rfl (xv_assign rfl ?_)
        refine xr_op rfl rfl (xv_assign rfl ?_)
        refine xr_end rfl ?_
        refine th_n ?_
        refine xc_seq ?_
        refine xc_seq (xc_region ?_)
        have hle2 : m1 ≤ m2 := more_sales hg1 hg2 hB1 hB2 rfl rfl hso.1
        refine xr_op rfl rfl (xv_move rfl ?_)
        refine xr_op rfl rfl (xv_neqF rfl rfl rfl ?_)
        refine xr_op rfl rfl (xv_move rfl ?_)
        refine xr_gd rfl rfl rfl (xv_move rfl ?_)
        refine xr_gd rfl rfl rfl (xv_move rfl ?_)
        refine xr_gd rfl rfl rfl (xv_cmpK rfl rfl (cmpF rfl (by simp only [cmpP]; (first | omega | (dsimp only at *; omega) | (simp at *; omega)))) ?_)
        refine xr_op rfl rfl (xv_pick rfl rfl ?_)
        refine xr_end rfl ?_
        refine th_n ?_
        refine xc_false rfl ?_
        refine xc_skip ?_
        refine th_n ?_
        refine xc_join (σ := List Still) (fun ts => ts.length = y.stills.length ∧ stillsOk y.stills ts ∧ VT.ok 5 y.stills.length (ts.flatMap eStill)) (fun ts => ((((((emp.put (some 2) (.int .u8 bn)).put (some 3) (.pointer (some ⟨b3, 0, none⟩))).put (some 8) (I m)).put (some 10) (I kn)).put (some 11) (.pointer (some ⟨bR, 0, none⟩))).put (some 17) (I m2))) (fun ts => (VL.hp 51 (ls.flatMap eSale) ++ (VT.hp 48 (ts.flatMap eStill) ++ ((bS, .cells ⟨(y.stock.set (kn % y.stock.length) (min 1048576 (xi + (bn : Int).tmod 9))).flatMap eI ++ spS⟩ 3) :: (bR, .cells ⟨[.slice (some ⟨bS, 0, none⟩) y.stock.length cS, .slice VT.ad y.stills.length VT.cp, .slice VL.ad y.sales.length VL.cp]⟩ 26) :: (pq ++ (b3, .cells ⟨eYard y⟩ 26) :: h))))) ?_ ?_
        · refine xc_seq (xc_region ?_)
          refine xr_op rfl rfl (xv_faddr fl26_1 rfl ?_)
          refine xr_op rfl rfl (xv_load1 ty23 rfl rfl (by (first|((repeat first|exact z_0|assumption|refine z_1 ?_|refine z_r ?_);done)|((repeat refine z_1 ?_);refine z_l ?_;(repeat first|exact z_0|assumption|refine z_1 ?_|refine z_r ?_);done)|((repeat refine z_1 ?_);refine z_r ?_;(repeat refine z_1 ?_);refine z_l ?_;(repeat first|exact z_0|assumption|refine z_1 ?_|refine z_r ?_);done)|((repeat first|exact z_0|assumption|refine z_1 ?_|refine z_l ?_);done))) (by rfl) ?_)
          refine xr_op rfl rfl (xv_len sl23 rfl ?_)
          refine xr_op rfl rfl (xv_gtr2 rfl rfl (fun q6 => ?_) (fun q6 => ?_))
          · refine xr_end rfl ?_
            refine th_n ?_
            refine xc_true rfl ?_
            refine xc_seq ?_
            refine xc_draw0 [(0, .S), (1, .R), (2, .S), (3, .S), (4, .R), (5, .S), (6, .S), (7, .S), (8, .S)] mixed (by kernel_rfl) ?_
            obtain ⟨bT, cT, spT, rfl⟩ := Vec.at_pos hVT (by (first | omega | (dsimp only at *; omega) | (simp at *; omega)))
            simp only [hp_at, ad_at, cp_at, List.cons_append, List.nil_append]
            have hL : kn % y.stills.length < y.stills.length := Nat.mod_lt _ (by (first | omega | (dsimp only at *; omega) | (simp at *; omega)))
            obtain ⟨xt, hkt⟩ : ∃ qq_, y.stills[kn % y.stills.length]? = some qq_ := ⟨_, List.getElem?_eq_getElem hL⟩
            have hpt := (hy.stills _ xt hkt).2.2.2.1
            have hto2 : stillsOk y.stills (y.stills.set (kn % y.stills.length) { xt with pay := (max 0 (xt.pay - (bn : Int).tmod 5)) }) := stillsOk.set hy.pay hkt (by omega) (by omega)
            refine js_S rfl rfl (.inl rfl) (xv_faddr fl26_1 rfl ⟨rfl, rfl⟩) ?_
            refine js_R0 rfl rfl (.inl rfl) (xv_load1 ty23 rfl rfl (by (first|((repeat first|exact z_0|assumption|refine z_1 ?_|refine z_r ?_);done)|((repeat refine z_1 ?_);refine z_l ?_;(repeat first|exact z_0|assumption|refine z_1 ?_|refine z_r ?_);done)|((repeat refine z_1 ?_);refine z_r ?_;(repeat refine z_1 ?_);refine z_l ?_;(repeat first|exact z_0|assumption|refine z_1 ?_|refine z_r ?_);done)|((repeat first|exact z_0|assumption|refine z_1 ?_|refine z_l ?_);done))) (by rfl) ⟨rfl, rfl⟩) ?_
            refine js_S rfl rfl (.inl rfl) (xv_move rfl ⟨rfl, rfl⟩) ?_
            refine js_S rfl rfl (.inl rfl) (xv_faddr fl26_1 rfl ⟨rfl, rfl⟩) ?_
            refine js_R0 rfl rfl (.inl rfl) (xv_load1 ty23 rfl rfl (by (first|((repeat first|exact z_0|assumption|refine z_1 ?_|refine z_r ?_);done)|((repeat refine z_1 ?_);refine z_l ?_;(repeat first|exact z_0|assumption|refine z_1 ?_|refine z_r ?_);done)|((repeat refine z_1 ?_);refine z_r ?_;(repeat refine z_1 ?_);refine z_l ?_;(repeat first|exact z_0|assumption|refine z_1 ?_|refine z_r ?_);done)|((repeat first|exact z_0|assumption|refine z_1 ?_|refine z_l ?_);done))) (by rfl) ⟨rfl, rfl⟩) ?_
            refine js_S rfl rfl (.inl rfl) (xv_len sl23 rfl ⟨rfl, rfl⟩) ?_
            refine js_S rfl rfl (.inl rfl) (xv_rem (c := ((kn % y.stills.length : Nat) : Int)) rfl rfl (by omega) (tmod_nat rfl rfl) ⟨rfl, rfl⟩) ?_
            refine js_S rfl rfl (.inl rfl) (xv_ia (sz := 5) (j := (kn % y.stills.length)) sl23 ty48 rfl rfl rfl (by (first | assumption | with_reducible exact Int.toNat_natCast _ | with_reducible rfl | rfl)) (by (first | omega | (dsimp only at *; omega) | (simp at *; omega))) (by (first | omega | (dsimp only at *; omega) | (simp at *; omega))) ⟨rfl, rfl⟩) ?_
            refine js_S rfl rfl (.inl rfl) (xv_assign rfl ⟨rfl, rfl⟩) ?_
            refine j_end0 ?_
            refine th_n ?_
            refine xc_region ?_
            refine xr_op rfl rfl (xv_move rfl ?_)
            refine xr_op rfl rfl (xv_move rfl ?_)
            refine xr_op rfl rfl (xv_nilp rfl ?_)
            refine xr_op rfl rfl (xv_faddr fl48_3 rfl ?_)
            refine xr_op rfl rfl (xv_load1 ty3 rfl rfl (by (first|((repeat first|exact z_0|assumption|refine z_1 ?_|refine z_r ?_);done)|((repeat refine z_1 ?_);refine z_l ?_;(repeat first|exact z_0|assumption|refine z_1 ?_|refine z_r ?_);done)|((repeat refine z_1 ?_);refine z_r ?_;(repeat refine z_1 ?_);refine z_l ?_;(repeat first|exact z_0|assumption|refine z_1 ?_|refine z_r ?_);done)|((repeat first|exact z_0|assumption|refine z_1 ?_|refine z_l ?_);done))) (take_get (flat_at eStill_len spT _ _ hkt) (j := 3) rfl) ?_)
            refine xr_op rfl rfl (xv_move rfl ?_)
            refine xr_op rfl rfl (xv_convI Try.underlying5 Try.underlying3 rfl (wrap_i64 (by (first | omega | (dsimp only at *; omega) | (simp at *; omega))) (by (first | omega | (dsimp only at *; omega) | (simp at *; omega)))) ?_)
            refine xr_op rfl rfl (xv_rem rfl rfl (by omega) rfl ?_)
            refine xr_op rfl rfl (xv_sub rfl rfl (wrap_i64 (by (first | omega | (dsimp only at *; omega) | (simp at *; omega))) (by (first | omega | (dsimp only at *; omega) | (simp at *; omega)))) ?_)
            refine xr_op rfl rfl (xv_max rfl rfl rfl ?_)
            refine xr_op rfl rfl (xv_nilp rfl ?_)
            refine xr_op rfl rfl (xv_faddr fl48_3 rfl ?_)
            refine xr_op rfl rfl (xv_s1 ty3 rfl rfl rfl (by (first|(apply u_3;(repeat first|exact u_0|assumption|apply u_1|apply u_2);done)|((repeat first|exact u_0|assumption|apply u_1|apply u_2);done)|(apply u_3;apply u_3;(repeat first|exact u_0|assumption|apply u_1|apply u_2);done)|((repeat first|exact u_0|assumption|apply u_3|apply u_1);done))) rfl (still_lt hL (by decide)) (set_flat eStill_len (x := xt) (y := { xt with pay := (max 0 (xt.pay - (bn : Int).tmod 5)) }) spT (j := 3) (by decide) rfl _ _ hkt) ?_)
            refine xr_end rfl ?_
            exact jn_n (y.stills.set (kn % y.stills.length) { xt with pay := (max 0 (xt.pay - (bn : Int).tmod 5)) }) ⟨List.length_set, hto2, Vec.ok_set hVT (by rw [flat_lenM eStill_len, flat_lenM eStill_len, List.length_set])⟩ (le_put (le_put (le_put (le_put (le_put (le_put (le_emp _) rfl) rfl) rfl) rfl) rfl) rfl) (by (try simp only [hp_at, ad_at, cp_at, List.cons_append, List.nil_append]); (first|((repeat first|exact s_0|exact s_1|exact s_3|refine s_4 ?_|refine s_5 ?_|refine s_6 ?_|refine s_7 ?_);done)|((repeat first|exact s_0|exact s_1|exact s_3|refine s_4 ?_|refine s_5 ?_|refine s_6 ?_|refine s_8 ?_);done)))
          · refine xr_end rfl ?_
            refine th_n ?_
            refine xc_false rfl ?_
            refine xc_skip ?_
            exact jn_n y.stills ⟨rfl, stillsOk.refl hy.pay, hVT⟩ (le_put (le_put (le_put (le_put (le_put (le_put (le_emp _) rfl) rfl) rfl) rfl) rfl) rfl) (by (first|((repeat first|exact s_0|exact s_1|exact s_3|refine s_4 ?_|refine s_5 ?_|refine s_6 ?_|refine s_7 ?_);done)|((repeat first|exact s_0|exact s_1|exact s_3|refine s_4 ?_|refine s_5 ?_|refine s_6 ?_|refine s_8 ?_);done)))
        · rintro ts ⟨hts, hto, hVT2⟩
          have hg3 : GoodYard (yd (some ⟨bS, 0, none⟩) cS (y.stock.set (kn % y.stock.length) (min 1048576 (xi + (bn : Int).tmod 9))) VT.ad VT.cp ts VL.ad VL.cp ls) := good_stills (y := (yd (some ⟨bS, 0, none⟩) cS (y.stock.set (kn % y.stock.length) (min 1048576 (xi + (bn : Int).tmod 9))) VT.ad VT.cp y.stills VL.ad VL.cp ls)) hg2 rfl hto.1 rfl hto.2.1
          refine xc_seq (xc_region ?_)
          refine xr_op rfl rfl (xv_loadA ty26 rfl rfl (by (first|((repeat first|exact z_0|assumption|refine z_1 ?_|refine z_r ?_);done)|((repeat refine z_1 ?_);refine z_l ?_;(repeat first|exact z_0|assumption|refine z_1 ?_|refine z_r ?_);done)|((repeat refine z_1 ?_);refine z_r ?_;(repeat refine z_1 ?_);refine z_l ?_;(repeat first|exact z_0|assumption|refine z_1 ?_|refine z_r ?_);done)|((repeat first|exact z_0|assumption|refine z_1 ?_|refine z_l ?_);done))) (by ((try apply evl_some rfl);(repeat (first|exact (rfl : _ = [])|apply evl_cons rfl (by (first|exact v_1|exact v_2|exact v_3|exact v_4|exact v_5|exact v_6|exact v_7|exact v_8|exact v_9|exact rfl))|exact rfl)))) (by rfl) ?_)
          refine xr_op rfl rfl (xv_calls rfl hb11 (PlanT_c (yd (some ⟨bS, 0, none⟩) cS (y.stock.set (kn % y.stock.length) (min 1048576 (xi + (bn : Int).tmod 9))) VT.ad VT.cp ts VL.ad VL.cp ls) (by simp only [eYard, yd, List.length_set, hls, hts]) (yardV_mk (by (first|((repeat first|exact z_0|assumption|refine z_1 ?_|refine z_r ?_);done)|((repeat refine z_1 ?_);refine z_l ?_;(repeat first|exact z_0|assumption|refine z_1 ?_|refine z_r ?_);done)|((repeat refine z_1 ?_);refine z_r ?_;(repeat refine z_1 ?_);refine z_l ?_;(repeat first|exact z_0|assumption|refine z_1 ?_|refine z_r ?_);done)|((repeat first|exact z_0|assumption|refine z_1 ?_|refine z_l ?_);done))) hts hVT2 (by ((intro q0 hq0;(repeat first|(with_reducible exact hq0)|(with_reducible exact z_l hq0)|(with_reducible refine z_1 ?_)|(with_reducible refine z_r ?_))))) hls hVL2 (by ((intro q0 hq0;(repeat first|(with_reducible exact hq0)|(with_reducible exact z_l hq0)|(with_reducible refine z_1 ?_)|(with_reducible refine z_r ?_))))) (hto.2.2 _ (fun x hx => (hv.out x hx).sub (by ((intro q0 hq0;(repeat first|(with_reducible exact hq0)|(with_reducible exact z_l hq0)|(with_reducible refine z_1 ?_)|(with_reducible refine z_r ?_)))))))) hg3 (fun q3 m3 hB3 pa3 pc3 pq3 hsl3 => up_ret ?_)))
          refine xr_op rfl rfl (xv_move rfl ?_)
          refine xr_op rfl rfl (xv_extract rfl rfl ?_)
          refine xr_op rfl rfl (xv_extract rfl rfl ?_)
          refine xr_op rfl rfl (xv_extract rfl rfl ?_)
          refine xr_op rfl rfl (xv_assign rfl ?_)
          refine xr_op rfl rfl (xv_assign rfl ?_)
          refine xr_op rfl rfl (xv_assign rfl ?_)
          refine xr_end rfl ?_
          refine th_n ?_
          refine xc_seq ?_
          refine xc_seq (xc_region ?_)
          have hle3 : m2 ≤ m3 := more_stills hB2 hB3 rfl rfl hto.1
          refine xr_op rfl rfl (xv_move rfl ?_)
          refine xr_op rfl rfl (xv_neqF rfl rfl rfl ?_)
          refine xr_op rfl rfl (xv_move rfl ?_)
          refine xr_gd rfl rfl rfl (xv_move rfl ?_)
          refine xr_gd rfl rfl rfl (xv_move rfl ?_)
          refine xr_gd rfl rfl rfl (xv_cmpK rfl rfl (cmpF rfl (by simp only [cmpP]; (first | omega | (dsimp only at *; omega) | (simp at *; omega)))) ?_)
          refine xr_op rfl rfl (xv_pick rfl rfl ?_)
          refine xr_end rfl ?_
          refine th_n ?_
          refine xc_false rfl ?_
          refine xc_skip ?_
          refine th_n ?_
          refine xc_seq ?_
          refine xc_seq (xc_region ?_)
          refine xr_op rfl rfl (xv_faddr fl26_1 rfl ?_)
          refine xr_op rfl rfl (xv_load1 ty23 rfl rfl (by (first|((repeat first|exact z_0|assumption|refine z_1 ?_|refine z_r ?_);done)|((repeat refine z_1 ?_);refine z_l ?_;(repeat first|exact z_0|assumption|refine z_1 ?_|refine z_r ?_);done)|((repeat refine z_1 ?_);refine z_r ?_;(repeat refine z_1 ?_);refine z_l ?_;(repeat first|exact z_0|assumption|refine z_1 ?_|refine z_r ?_);done)|((repeat first|exact z_0|assumption|refine z_1 ?_|refine z_l ?_);done))) (by rfl) ?_)
          refine xr_op rfl rfl (xv_len sl23 rfl ?_)
          refine xr_op rfl rfl (xv_geq2 rfl rfl (fun q7 => ?_) (fun q7 => ?_))
          · refine xr_end rfl ?_
            refine th_n ?_
            refine xc_true rfl ?_
            refine xc_seq (xc_region ?_)
            refine xr_op rfl rfl (xv_calls rfl hb10 (awake_c (up_ret ?_)))
            refine xr_op rfl rfl (xv_assign rfl ?_)
            refine xr_end rfl ?_
            refine th_n ?_
            refine xc_ret ?_
            refine th_r ?_
            refine body_ret (h' := h) rfl (ro_tmp rfl ro_nil) (by (first|((repeat first|exact s_0|exact s_1|exact s_3|refine s_4 ?_|refine s_5 ?_|refine s_6 ?_|refine s_7 ?_);done)|((repeat first|exact s_0|exact s_1|exact s_3|refine s_4 ?_|refine s_5 ?_|refine s_6 ?_|refine s_8 ?_);done))) ?_
            exact H
          · refine xr_end rfl ?_
            refine th_n ?_
            refine xc_false rfl ?_
            refine xc_skip ?_
            refine th_n ?_
            refine xc_seq (xc_region ?_)
            refine xr_op rfl rfl (xv_loadA ty26 rfl rfl (by (first|((repeat first|exact z_0|assumption|refine z_1 ?_|refine z_r ?_);done)|((repeat refine z_1 ?_);refine z_l ?_;(repeat first|exact z_0|assumption|refine z_1 ?_|refine z_r ?_);done)|((repeat refine z_1 ?_);refine z_r ?_;(repeat refine z_1 ?_);refine z_l ?_;(repeat first|exact z_0|assumption|refine z_1 ?_|refine z_r ?_);done)|((repeat first|exact z_0|assumption|refine z_1 ?_|refine z_l ?_);done))) (by ((try apply evl_some rfl);(repeat (first|exact (rfl : _ = [])|apply evl_cons rfl (by (first|exact v_1|exact v_2|exact v_3|exact v_4|exact v_5|exact v_6|exact v_7|exact v_8|exact v_9|exact rfl))|exact rfl)))) (by rfl) ?_)
            refine xr_op rfl rfl (xv_alloc ty26 (fun bQ hbQ => ?_))
            refine xr_op rfl rfl (xv_s ty26 rfl rfl (by (first|(apply u_3;(repeat first|exact u_0|assumption|apply u_1|apply u_2);done)|((repeat first|exact u_0|assumption|apply u_1|apply u_2);done)|(apply u_3;apply u_3;(repeat first|exact u_0|assumption|apply u_1|apply u_2);done)|((repeat first|exact u_0|assumption|apply u_3|apply u_1);done))) (by ((try apply evl_some rfl);(repeat (first|exact (rfl : _ = [])|apply evl_cons rfl (by (first|exact v_1|exact v_2|exact v_3|exact v_4|exact v_5|exact v_6|exact v_7|exact v_8|exact v_9|exact rfl))|exact rfl)))) (by rfl) (by rfl) (by rfl) (by ((try apply evl_some rfl);(repeat (first|exact (rfl : _ = [])|apply evl_cons rfl (by (first|exact v_1|exact v_2|exact v_3|exact v_4|exact v_5|exact v_6|exact v_7|exact v_8|exact v_9|exact rfl))|exact rfl)))) ?_)
            refine xr_end rfl ?_
            refine th_n ?_
            refine xc_seq ?_
            refine xc_draw0 [(0, .S), (1, .R), (2, .S), (3, .P), (6, .S), (7, .R), (3, .A), (4, .S), (5, .P), (5, .A), (8, .O), (9, .S), (10, .O)] mixed (by kernel_rfl) ?_
            refine js_S rfl rfl (.inl rfl) (xv_faddr fl26_0 rfl ⟨rfl, rfl⟩) ?_
            refine js_R0 rfl rfl (.inl rfl) (xv_load1 ty22 rfl rfl (by (first|((repeat first|exact z_0|assumption|refine z_1 ?_|refine z_r ?_);done)|((repeat refine z_1 ?_);refine z_l ?_;(repeat first|exact z_0|assumption|refine z_1 ?_|refine z_r ?_);done)|((repeat refine z_1 ?_);refine z_r ?_;(repeat refine z_1 ?_);refine z_l ?_;(repeat first|exact z_0|assumption|refine z_1 ?_|refine z_r ?_);done)|((repeat first|exact z_0|assumption|refine z_1 ?_|refine z_l ?_);done))) (by rfl) ⟨rfl, rfl⟩) ?_
            refine js_S rfl rfl (.inl rfl) (xv_len sl22 rfl ⟨rfl, rfl⟩) ?_
            refine js_P rfl rfl rfl (al_make sl35 ty41 rfl rfl (by omega) (by simp only []; omega) (by simp only []; omega) (make_spans _)) ?_
            refine js_S rfl rfl (.inl rfl) (xv_faddr fl26_1 rfl ⟨rfl, rfl⟩) ?_
            refine js_R0 rfl rfl (.inl rfl) (xv_load1 ty23 rfl rfl (by (first|((repeat first|exact z_0|assumption|refine z_1 ?_|refine z_r ?_);done)|((repeat refine z_1 ?_);refine z_l ?_;(repeat first|exact z_0|assumption|refine z_1 ?_|refine z_r ?_);done)|((repeat refine z_1 ?_);refine z_r ?_;(repeat refine z_1 ?_);refine z_l ?_;(repeat first|exact z_0|assumption|refine z_1 ?_|refine z_r ?_);done)|((repeat first|exact z_0|assumption|refine z_1 ?_|refine z_l ?_);done))) (by rfl) ⟨rfl, rfl⟩) ?_
            refine js_A0 rfl rfl rfl rfl rfl ⟨rfl, rfl, trivial⟩ (fun b94 hb94 => ?_)
            refine js_S rfl rfl (.inl rfl) (xv_build bt48 rfl (by ((try apply evl_some rfl);(repeat (first|exact (rfl : _ = [])|apply evl_cons rfl (by (first|exact v_1|exact v_2|exact v_3|exact v_4|exact v_5|exact v_6|exact v_7|exact v_8|exact v_9|exact rfl))|exact rfl)))) ⟨rfl, rfl⟩) ?_
            refine js_P rfl rfl rfl (al_buildSlice sl23 ty48 rfl rfl rfl rfl rfl (by ((try apply evl_some rfl);(repeat (first|exact (rfl : _ = [])|apply evl_cons rfl (by (first|exact v_1|exact v_2|exact v_3|exact v_4|exact v_5|exact v_6|exact v_7|exact v_8|exact v_9|exact rfl))|exact rfl))))) ?_
            refine js_A0 rfl rfl rfl rfl rfl ⟨rfl, trivial⟩ (fun b96 hb96 => ?_)
            refine js_O0 rfl rfl (.inl rfl) (xv_appendL (V := .at b96 1 []) (n := 1) (xs := [I 0, I 1, .slice (some ⟨b94, 0, none⟩) y.stock.length y.stock.length, I 0, I 0]) sl23 ty48 rfl rfl rfl rfl ⟨rfl, Nat.le_refl _, rfl⟩ .here (hv.stills.sub (by ((intro q0 hq0;(repeat first|(with_reducible exact hq0)|(with_reducible exact z_l hq0)|(with_reducible refine z_1 ?_)|(with_reducible refine z_r ?_)))))) eStill_len eStill_1 (by simp only []; omega) (by omega) (fun V9 hV9 => ?_))
            refine js_S rfl rfl (.inl rfl) (xv_faddr fl26_1 rfl ⟨rfl, rfl⟩) ?_
            refine js_O0 rfl rfl (.inl rfl) (xv_s1 ty23 rfl rfl rfl (by (first|(apply u_3;(repeat first|exact u_0|assumption|apply u_1|apply u_2);done)|((repeat first|exact u_0|assumption|apply u_1|apply u_2);done)|(apply u_3;apply u_3;(repeat first|exact u_0|assumption|apply u_1|apply u_2);done)|((repeat first|exact u_0|assumption|apply u_3|apply u_1);done))) (by (first | rfl | exact Vec.one _ _)) (by (first | decide | exact Nat.le_of_ble_eq_true rfl | (simp only [List.length_cons, List.length_nil]; omega) | (simp; done))) (by ((try apply evl_some rfl);(repeat (first|exact (rfl : _ = [])|apply evl_cons rfl (by (first|exact v_1|exact v_2|exact v_3|exact v_4|exact v_5|exact v_6|exact v_7|exact v_8|exact v_9|exact rfl))|exact rfl)))) ?_)
            refine j_end0 ?_
            refine th_n ?_
            refine xc_seq (xc_region ?_)
            have hei : eStill (idle (some ⟨b94, 0, none⟩) y.stock.length y.stock.length) = [I 0, I 1, .slice (some ⟨b94, 0, none⟩) y.stock.length y.stock.length, I 0, I 0] := eIdle
            rw [← hei] at hV9 ⊢
            rw [Vec.val_ad hV9]
            have hg4 := good_idle (y' := ⟨y.sa, y.sc, y.stock, V9.ad, V9.cp, idle (some ⟨b94, 0, none⟩) y.stock.length y.stock.length :: y.stills, y.la, y.lc, y.sales⟩) hy (by (first | omega | (dsimp only at *; omega) | (simp at *; omega))) rfl rfl rfl
            refine xr_op rfl rfl (xv_loadA ty26 rfl rfl (by (first|((repeat first|exact z_0|assumption|refine z_1 ?_|refine z_r ?_);done)|((repeat refine z_1 ?_);refine z_l ?_;(repeat first|exact z_0|assumption|refine z_1 ?_|refine z_r ?_);done)|((repeat refine z_1 ?_);refine z_r ?_;(repeat refine z_1 ?_);refine z_l ?_;(repeat first|exact z_0|assumption|refine z_1 ?_|refine z_r ?_);done)|((repeat first|exact z_0|assumption|refine z_1 ?_|refine z_l ?_);done))) (by ((try apply evl_some rfl);(repeat (first|exact (rfl : _ = [])|apply evl_cons rfl (by (first|exact v_1|exact v_2|exact v_3|exact v_4|exact v_5|exact v_6|exact v_7|exact v_8|exact v_9|exact rfl))|exact rfl)))) (by rfl) ?_)
            have hv4 := YardV.mk (y := ⟨y.sa, y.sc, y.stock, V9.ad, V9.cp, idle (some ⟨b94, 0, none⟩) y.stock.length y.stock.length :: y.stills, y.la, y.lc, y.sales⟩) (h := (V9.hp 48 (eStill (idle (some ⟨b94, 0, none⟩) y.stock.length y.stock.length) ++ y.stills.flatMap eStill) ++ (b94, .cells ⟨(List.replicate y.stock.length ⟨0, 0⟩).flatMap eSpan⟩ 41) :: (bQ, .cells ⟨[.slice y.sa y.stock.length y.sc, .slice V9.ad (1 + y.stills.length) V9.cp, .slice y.la y.sales.length y.lc]⟩ 26) :: (pq3 ++ (VL.hp 51 (ls.flatMap eSale) ++ (VT.hp 48 (ts.flatMap eStill) ++ ((bS, .cells ⟨(y.stock.set (kn % y.stock.length) (min 1048576 (xi + (bn : Int).tmod 9))).flatMap eI ++ spS⟩ 3) :: (bR, .cells ⟨[.slice (some ⟨bS, 0, none⟩) y.stock.length cS, .slice VT.ad y.stills.length VT.cp, .slice VL.ad y.sales.length VL.cp]⟩ 26) :: (pq ++ (b3, .cells ⟨eYard y⟩ 26) :: h))))))) (hv.stock.sub (by ((intro q0 hq0;(repeat first|(with_reducible exact hq0)|(with_reducible exact z_l hq0)|(with_reducible refine z_1 ?_)|(with_reducible refine z_r ?_)))))) ((Vec.slvA (t := 48) (xs := idle (some ⟨b94, 0, none⟩) y.stock.length y.stock.length :: y.stills) eStill_len (by rw [List.length_cons, Nat.add_comm]) hV9).sub (fun z hz => List.mem_append_left _ hz)) (hv.sales.sub (by ((intro q0 hq0;(repeat first|(with_reducible exact hq0)|(with_reducible exact z_l hq0)|(with_reducible refine z_1 ?_)|(with_reducible refine z_r ?_)))))) (fun x hx => by
              rcases List.mem_cons.1 hx with rfl | hx
              · refine slvL (b := b94) (t := 41) (fz := (0, 0)) (xs := List.replicate y.stock.length ⟨0, 0⟩) eSpan_len ?_
                (first|((repeat first|exact z_0|assumption|refine z_1 ?_|refine z_r ?_);done)|((repeat refine z_1 ?_);refine z_l ?_;(repeat first|exact z_0|assumption|refine z_1 ?_|refine z_r ?_);done)|((repeat refine z_1 ?_);refine z_r ?_;(repeat refine z_1 ?_);refine z_l ?_;(repeat first|exact z_0|assumption|refine z_1 ?_|refine z_r ?_);done)|((repeat first|exact z_0|assumption|refine z_1 ?_|refine z_l ?_);done))
              · exact (hv.out x hx).sub (by ((intro q0 hq0;(repeat first|(with_reducible exact hq0)|(with_reducible exact z_l hq0)|(with_reducible refine z_1 ?_)|(with_reducible refine z_r ?_))))))
            refine xr_op rfl rfl (xv_calls rfl hb11 (PlanT_c ⟨y.sa, y.sc, y.stock, V9.ad, V9.cp, idle (some ⟨b94, 0, none⟩) y.stock.length y.stock.length :: y.stills, y.la, y.lc, y.sales⟩ (by simp only [eYard, List.length_cons, Nat.add_comm 1]) hv4 hg4 (fun q4 m4 hB4 pa4 pc4 pq4 hsl4 => up_ret ?_)))
            refine xr_op rfl rfl (xv_move rfl ?_)
            refine xr_op rfl rfl (xv_extract rfl rfl ?_)
            refine xr_op rfl rfl (xv_extract rfl rfl ?_)
            refine xr_op rfl rfl (xv_extract rfl rfl ?_)
            refine xr_op rfl rfl (xv_assign rfl ?_)
            refine xr_op rfl rfl (xv_assign rfl ?_)
            refine xr_op rfl rfl (xv_assign rfl ?_)
            refine xr_end rfl ?_
            refine th_n ?_
            refine xc_seq (xc_region ?_)
            have hid := idle_best hy hB hB4 rfl rfl rfl
            refine xr_op rfl rfl (xv_move rfl ?_)
            refine xr_op rfl rfl (xv_move rfl ?_)
            refine xr_op rfl rfl (xv_eqlT rfl rfl hid.1 ?_)
            refine xr_op rfl rfl (xv_move rfl ?_)
            refine xr_gd rfl rfl rfl (xv_move rfl ?_)
            refine xr_gd rfl rfl rfl (xv_eqlT rfl rfl rfl ?_)
            refine xr_op rfl rfl (xv_pick rfl rfl ?_)
            refine xr_op rfl rfl (xv_move rfl ?_)
            refine xr_gd rfl rfl rfl (xv_move rfl ?_)
            refine xr_gd rfl rfl rfl (xv_len sl22 rfl ?_)
            refine xr_gd rfl rfl rfl (xv_faddr fl26_1 rfl ?_)
            refine xr_gd rfl rfl rfl (xv_load1 ty23 rfl rfl (by (first|((repeat first|exact z_0|assumption|refine z_1 ?_|refine z_r ?_);done)|((repeat refine z_1 ?_);refine z_l ?_;(repeat first|exact z_0|assumption|refine z_1 ?_|refine z_r ?_);done)|((repeat refine z_1 ?_);refine z_r ?_;(repeat refine z_1 ?_);refine z_l ?_;(repeat first|exact z_0|assumption|refine z_1 ?_|refine z_r ?_);done)|((repeat first|exact z_0|assumption|refine z_1 ?_|refine z_l ?_);done))) (by rfl) ?_)
            refine xr_gd rfl rfl rfl (xv_len sl23 rfl ?_)
            refine xr_gd rfl rfl rfl (xv_add rfl rfl (wrap_i64 (by (first | omega | (dsimp only at *; omega) | (simp at *; omega))) (by (first | omega | (dsimp only at *; omega) | (simp at *; omega)))) ?_)
            refine xr_gd rfl rfl rfl (xv_eqlT rfl rfl (by have := hid.2.2; omega) ?_)
            refine xr_op rfl rfl (xv_pick rfl rfl ?_)
            refine xr_op rfl rfl (xv_move rfl ?_)
            refine xr_gd rfl rfl rfl (xv_move rfl ?_)
            have hltz : 0 < q4.length := by have := hid.2.2; omega
            obtain ⟨bz, oz, lz, tz, fzz, haz, hmz, hxz⟩ := (hsl4).at hltz
            obtain ⟨xz, hkz⟩ : ∃ qq_, q4[0]? = some qq_ := ⟨_, List.getElem?_eq_getElem hltz⟩
            have hz0 : xz = 0 := by have := hid.2.1; rw [hkz] at this; cases this; rfl
            refine xr_gd rfl rfl rfl (xv_ia (sz := 1) (j := 0) sl22 ty3 rfl (by rw [haz]; rfl) rfl rfl (by (first | omega | (dsimp only at *; omega) | (simp at *; omega))) (by have := hid.2.2; (first | omega | (dsimp only at *; omega) | (simp at *; omega))) ?_)
            refine xr_gd rfl rfl rfl (xv_load1 ty3 rfl rfl (by (first|((repeat first|exact z_0|assumption|refine z_1 ?_|refine z_r ?_);done)|((repeat refine z_1 ?_);refine z_l ?_;(repeat first|exact z_0|assumption|refine z_1 ?_|refine z_r ?_);done)|((repeat refine z_1 ?_);refine z_r ?_;(repeat refine z_1 ?_);refine z_l ?_;(repeat first|exact z_0|assumption|refine z_1 ?_|refine z_r ?_);done)|((repeat first|exact z_0|assumption|refine z_1 ?_|refine z_l ?_);done))) (take_get (hxz (0) xz hkz) (j := 0) rfl) ?_)
            refine xr_gd rfl rfl rfl (xv_eqlT rfl rfl hz0 ?_)
            refine xr_op rfl rfl (xv_pick rfl rfl ?_)
            refine xr_op rfl rfl (xv_move rfl ?_)
            refine xr_gd rfl rfl rfl (xv_calls rfl hb10 (awake_c (up_ret ?_)))
            refine xr_op rfl rfl (xv_pick rfl rfl ?_)
            refine xr_op rfl rfl (xv_assign rfl ?_)
            refine xr_end rfl ?_
            refine th_n ?_
            refine xc_ret ?_
            refine body_ret (h' := h) rfl (ro_tmp rfl ro_nil) (by (first|((repeat first|exact s_0|exact s_1|exact s_3|refine s_4 ?_|refine s_5 ?_|refine s_6 ?_|refine s_7 ?_);done)|((repeat first|exact s_0|exact s_1|exact s_3|refine s_4 ?_|refine s_5 ?_|refine s_6 ?_|refine s_8 ?_);done))) ?_
            exact H

end Go.Proofs.Ytlailecnbdlknaa
