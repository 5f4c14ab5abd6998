/-
  Walks.
-/
import Derived.Test.YtpefpafijadfmaaHT
import Derived.Test.YtpefpafijadfmaaP12
import Derived.Test.YtpefpafijadfmaaP23
namespace Go.Proofs.Ytpefpafijadfmaa
open Go Go.H
set_option maxRecDepth 100000
set_option maxHeartbeats 8000000
set_option linter.all false
theorem within_c (n l u : Int) {h : Hp} {R : Ending → Hp → Prop} (H1 : l ≤ n → n ≤ u → R (.returned (.bool true)) h) (H2 : ¬ (l ≤ n ∧ n ≤ u) → R (.returned (.bool false)) h) :
    ACalls Try.prog 31 ⟨[.int .i64 n, .int .i64 l, .int .i64 u]⟩ h R := by
  refine calls_of_xc (N := 15) Try.func31 rfl (by rfl) ?_
  refine xc_seq (xc_region ?_)
  refine xr_op rfl rfl (xv_assign rfl ?_)
  refine xr_end rfl ?_
  refine th_n ?_
  refine xc_seq (xc_region ?_)
  refine xr_op rfl rfl (xv_move rfl ?_)
  refine xr_op rfl rfl (xv_move rfl ?_)
  refine xr_op rfl rfl (xv_leq2 rfl rfl (fun q1 => ?_) (fun q1 => ?_))
  · refine xr_op rfl rfl (xv_move rfl ?_)
    refine xr_gd rfl rfl rfl (xv_move rfl ?_)
    refine xr_gd rfl rfl rfl (xv_move rfl ?_)
    refine xr_gd rfl rfl rfl (xv_leq2 rfl rfl (fun q2 => ?_) (fun q2 => ?_))
    · refine xr_op rfl rfl (xv_pick rfl rfl ?_)
      refine xr_op rfl rfl (xv_assign rfl ?_)
      refine xr_end rfl ?_
      refine th_n ?_
      refine xc_ret ?_
      refine body_ret (h' := h) rfl (ro_tmp rfl ro_nil) (by (first|((repeat first|exact s_0|exact s_1|exact s_3|refine s_4 ?_|refine s_5 ?_|refine s_6 ?_|refine s_7 ?_);done)|((repeat first|exact s_0|exact s_1|exact s_3|refine s_4 ?_|refine s_5 ?_|refine s_6 ?_|refine s_8 ?_);done))) ?_
      first | exact H1 (by omega) (by omega) | exact H2 (by omega)
    · refine xr_op rfl rfl (xv_pick rfl rfl ?_)
      refine xr_op rfl rfl (xv_assign rfl ?_)
      refine xr_end rfl ?_
      refine th_n ?_
      refine xc_ret ?_
      refine body_ret (h' := h) rfl (ro_tmp rfl ro_nil) (by (first|((repeat first|exact s_0|exact s_1|exact s_3|refine s_4 ?_|refine s_5 ?_|refine s_6 ?_|refine s_7 ?_);done)|((repeat first|exact s_0|exact s_1|exact s_3|refine s_4 ?_|refine s_5 ?_|refine s_6 ?_|refine s_8 ?_);done))) ?_
      first | exact H1 (by omega) (by omega) | exact H2 (by omega)
  · refine xr_op rfl rfl (xv_move rfl ?_)
    refine xr_no rfl rfl rfl rfl ?_
    refine xr_no rfl rfl rfl rfl ?_
    refine xr_no rfl rfl rfl rfl ?_
    refine xr_op rfl rfl (xv_pick rfl rfl ?_)
    refine xr_op rfl rfl (xv_assign rfl ?_)
    refine xr_end rfl ?_
    refine th_n ?_
    refine xc_ret ?_
    refine body_ret (h' := h) rfl (ro_tmp rfl ro_nil) (by (first|((repeat first|exact s_0|exact s_1|exact s_3|refine s_4 ?_|refine s_5 ?_|refine s_6 ?_|refine s_7 ?_);done)|((repeat first|exact s_0|exact s_1|exact s_3|refine s_4 ?_|refine s_5 ?_|refine s_6 ?_|refine s_8 ?_);done))) ?_
    first | exact H1 (by omega) (by omega) | exact H2 (by omega)

theorem in_c (n l u : Int) {h : Hp} {R : Ending → Hp → Prop} (H1 : l ≤ n → n ≤ u → R (.returned (.bool true)) h) (H2 : ¬ (l ≤ n ∧ n ≤ u) → R (.returned (.bool false)) h) :
    ACalls Try.prog 37 ⟨[.int .i64 n, .int .i64 l, .int .i64 u]⟩ h R := by
  refine calls_of_xc (N := 15) Try.func37 rfl (by rfl) ?_
  refine xc_seq (xc_region ?_)
  refine xr_op rfl rfl (xv_assign rfl ?_)
  refine xr_end rfl ?_
  refine th_n ?_
  refine xc_seq (xc_region ?_)
  refine xr_op rfl rfl (xv_move rfl ?_)
  refine xr_op rfl rfl (xv_move rfl ?_)
  refine xr_op rfl rfl (xv_leq2 rfl rfl (fun q1 => ?_) (fun q1 => ?_))
  · refine xr_op rfl rfl (xv_move rfl ?_)
    refine xr_gd rfl rfl rfl (xv_move rfl ?_)
    refine xr_gd rfl rfl rfl (xv_move rfl ?_)
    refine xr_gd rfl rfl rfl (xv_leq2 rfl rfl (fun q2 => ?_) (fun q2 => ?_))
    · refine xr_op rfl rfl (xv_pick rfl rfl ?_)
      refine xr_op rfl rfl (xv_assign rfl ?_)
      refine xr_end rfl ?_
      refine th_n ?_
      refine xc_ret ?_
      refine body_ret (h' := h) rfl (ro_tmp rfl ro_nil) (by (first|((repeat first|exact s_0|exact s_1|exact s_3|refine s_4 ?_|refine s_5 ?_|refine s_6 ?_|refine s_7 ?_);done)|((repeat first|exact s_0|exact s_1|exact s_3|refine s_4 ?_|refine s_5 ?_|refine s_6 ?_|refine s_8 ?_);done))) ?_
      first | exact H1 (by omega) (by omega) | exact H2 (by omega)
    · refine xr_op rfl rfl (xv_pick rfl rfl ?_)
      refine xr_op rfl rfl (xv_assign rfl ?_)
      refine xr_end rfl ?_
      refine th_n ?_
      refine xc_ret ?_
      refine body_ret (h' := h) rfl (ro_tmp rfl ro_nil) (by (first|((repeat first|exact s_0|exact s_1|exact s_3|refine s_4 ?_|refine s_5 ?_|refine s_6 ?_|refine s_7 ?_);done)|((repeat first|exact s_0|exact s_1|exact s_3|refine s_4 ?_|refine s_5 ?_|refine s_6 ?_|refine s_8 ?_);done))) ?_
      first | exact H1 (by omega) (by omega) | exact H2 (by omega)
  · refine xr_op rfl rfl (xv_move rfl ?_)
    refine xr_no rfl rfl rfl rfl ?_
    refine xr_no rfl rfl rfl rfl ?_
    refine xr_no rfl rfl rfl rfl ?_
    refine xr_op rfl rfl (xv_pick rfl rfl ?_)
    refine xr_op rfl rfl (xv_assign rfl ?_)
    refine xr_end rfl ?_
    refine th_n ?_
    refine xc_ret ?_
    refine body_ret (h' := h) rfl (ro_tmp rfl ro_nil) (by (first|((repeat first|exact s_0|exact s_1|exact s_3|refine s_4 ?_|refine s_5 ?_|refine s_6 ?_|refine s_7 ?_);done)|((repeat first|exact s_0|exact s_1|exact s_3|refine s_4 ?_|refine s_5 ?_|refine s_6 ?_|refine s_8 ?_);done))) ?_
    first | exact H1 (by omega) (by omega) | exact H2 (by omega)

theorem rspan_c {s : Span} {h : Hp} {R : Ending → Hp → Prop} (H1 : spanOk s → R (.returned (.bool true)) h) (H2 : ¬ spanOk s → R (.returned (.bool false)) h) :
    ACalls Try.prog 51 ⟨[.agg ⟨eSpan s⟩]⟩ h R := by
  refine calls_of_xc (N := 18) Try.func51 rfl (by rfl) ?_
  refine xc_seq (xc_region ?_)
  refine xr_op rfl rfl (xv_box rfl (fun b1 hb1 => ?_))
  refine xr_op rfl rfl (xv_assign rfl ?_)
  refine xr_end rfl ?_
  refine th_n ?_
  refine xc_seq (xc_region ?_)
  refine xr_op rfl rfl (xv_faddr fl33_0 rfl ?_)
  refine xr_op rfl rfl (xv_load1 ty3 rfl rfl (by ((repeat first|exact z_0|assumption|refine z_1 ?_|(refine z_l ?_;(repeat first|exact z_0|assumption|refine z_1 ?_);done)|refine z_r ?_);done)) (by rfl) ?_)
  refine xr_op rfl rfl (xv_geq2 rfl rfl (fun q2 => ?_) (fun q2 => ?_))
  · refine xr_op rfl rfl (xv_move rfl ?_)
    refine xr_gd rfl rfl rfl (xv_faddr fl33_0 rfl ?_)
    refine xr_gd rfl rfl rfl (xv_load1 ty3 rfl rfl (by ((repeat first|exact z_0|assumption|refine z_1 ?_|(refine z_l ?_;(repeat first|exact z_0|assumption|refine z_1 ?_);done)|refine z_r ?_);done)) (by rfl) ?_)
    refine xr_gd rfl rfl rfl (xv_faddr fl33_1 rfl ?_)
    refine xr_gd rfl rfl rfl (xv_load1 ty3 rfl rfl (by ((repeat first|exact z_0|assumption|refine z_1 ?_|(refine z_l ?_;(repeat first|exact z_0|assumption|refine z_1 ?_);done)|refine z_r ?_);done)) (by rfl) ?_)
    refine xr_gd rfl rfl rfl (xv_leq2 rfl rfl (fun q3 => ?_) (fun q3 => ?_))
    · refine xr_op rfl rfl (xv_pick rfl rfl ?_)
      refine xr_op rfl rfl (xv_move rfl ?_)
      refine xr_gd rfl rfl rfl (xv_faddr fl33_1 rfl ?_)
      refine xr_gd rfl rfl rfl (xv_load1 ty3 rfl rfl (by ((repeat first|exact z_0|assumption|refine z_1 ?_|(refine z_l ?_;(repeat first|exact z_0|assumption|refine z_1 ?_);done)|refine z_r ?_);done)) (by rfl) ?_)
      refine xr_gd rfl rfl rfl (xv_leq2 rfl rfl (fun q4 => ?_) (fun q4 => ?_))
      · refine xr_op rfl rfl (xv_pick rfl rfl ?_)
        refine xr_op rfl rfl (xv_assign rfl ?_)
        refine xr_end rfl ?_
        refine th_n ?_
        refine xc_ret ?_
        refine body_ret (h' := h) rfl (ro_tmp rfl ro_nil) (by (first|((repeat first|exact s_0|exact s_1|exact s_3|refine s_4 ?_|refine s_5 ?_|refine s_6 ?_|refine s_7 ?_);done)|((repeat first|exact s_0|exact s_1|exact s_3|refine s_4 ?_|refine s_5 ?_|refine s_6 ?_|refine s_8 ?_);done))) ?_
        first | exact H1 (by unfold spanOk; omega) | exact H2 (fun hq9 => by unfold spanOk at hq9; omega)
      · refine xr_op rfl rfl (xv_pick rfl rfl ?_)
        refine xr_op rfl rfl (xv_assign rfl ?_)
        refine xr_end rfl ?_
        refine th_n ?_
        refine xc_ret ?_
        refine body_ret (h' := h) rfl (ro_tmp rfl ro_nil) (by (first|((repeat first|exact s_0|exact s_1|exact s_3|refine s_4 ?_|refine s_5 ?_|refine s_6 ?_|refine s_7 ?_);done)|((repeat first|exact s_0|exact s_1|exact s_3|refine s_4 ?_|refine s_5 ?_|refine s_6 ?_|refine s_8 ?_);done))) ?_
        first | exact H1 (by unfold spanOk; omega) | exact H2 (fun hq9 => by unfold spanOk at hq9; omega)
    · refine xr_op rfl rfl (xv_pick rfl rfl ?_)
      refine xr_op rfl rfl (xv_move rfl ?_)
      refine xr_no rfl rfl rfl rfl ?_
      refine xr_no rfl rfl rfl rfl ?_
      refine xr_no rfl rfl rfl rfl ?_
      refine xr_op rfl rfl (xv_pick rfl rfl ?_)
      refine xr_op rfl rfl (xv_assign rfl ?_)
      refine xr_end rfl ?_
      refine th_n ?_
      refine xc_ret ?_
      refine body_ret (h' := h) rfl (ro_tmp rfl ro_nil) (by (first|((repeat first|exact s_0|exact s_1|exact s_3|refine s_4 ?_|refine s_5 ?_|refine s_6 ?_|refine s_7 ?_);done)|((repeat first|exact s_0|exact s_1|exact s_3|refine s_4 ?_|refine s_5 ?_|refine s_6 ?_|refine s_8 ?_);done))) ?_
      first | exact H1 (by unfold spanOk; omega) | exact H2 (fun hq9 => by unfold spanOk at hq9; omega)
  · refine xr_op rfl rfl (xv_move rfl ?_)
    refine xr_no rfl rfl rfl rfl ?_
    refine xr_no rfl rfl rfl rfl ?_
    refine xr_no rfl rfl rfl rfl ?_
    refine xr_no rfl rfl rfl rfl ?_
    refine xr_no rfl rfl rfl rfl ?_
    refine xr_op rfl rfl (xv_pick rfl rfl ?_)
    refine xr_op rfl rfl (xv_move rfl ?_)
    refine xr_no rfl rfl rfl rfl ?_
    refine xr_no rfl rfl rfl rfl ?_
    refine xr_no rfl rfl rfl rfl ?_
    refine xr_op rfl rfl (xv_pick rfl rfl ?_)
    refine xr_op rfl rfl (xv_assign rfl ?_)
    refine xr_end rfl ?_
    refine th_n ?_
    refine xc_ret ?_
    refine body_ret (h' := h) rfl (ro_tmp rfl ro_nil) (by (first|((repeat first|exact s_0|exact s_1|exact s_3|refine s_4 ?_|refine s_5 ?_|refine s_6 ?_|refine s_7 ?_);done)|((repeat first|exact s_0|exact s_1|exact s_3|refine s_4 ?_|refine s_5 ?_|refine s_6 ?_|refine s_8 ?_);done))) ?_
    first | exact H1 (by unfold spanOk; omega) | exact H2 (fun hq9 => by unfold spanOk at hq9; omega)

theorem Yard_c {y : Yard} {h : Hp} {R : Ending → Hp → Prop} (hy : YardV h y) (hs : Small y) (H1 : GoodYard y → R (.returned (.bool true)) h) (H2 : ¬ GoodYard y → R (.returned (.bool false)) h) :
    ACalls Try.prog 24 ⟨[.agg ⟨eYard y⟩]⟩ h R := by
  refine calls_of_xc (N := 99) Try.func24 rfl (by rfl) ?_
  obtain ⟨hs1, hs2⟩ := hs
  refine xc_seq (xc_region ?_)
  refine xr_op rfl rfl (xv_box rfl (fun b1 hb1 => ?_))
  refine xr_op rfl rfl (xv_assign rfl ?_)
  refine xr_end rfl ?_
  refine th_n ?_
  refine xc_seq ?_
  refine xc_seq (xc_region ?_)
  refine xr_op rfl rfl (xv_assign rfl ?_)
  refine xr_end rfl ?_
  refine th_n ?_
  refine xc_block ?_
  refine xc_loop (σ := Nat) (fun k => k ≤ y.coals.length ∧ ∀ x ∈ y.coals.take k, coalOk x) (fun k => ((emp.put (some 1) (.pointer (some ⟨b1, 0, none⟩))).put (some 3) (I k))) (fun k => ((b1, .cells ⟨eYard y⟩ 25) :: h)) (fun k => y.coals.length - k) 0 ⟨Nat.zero_le _, fun x hx => by simp at hx⟩ (le_put (le_put (le_emp _) rfl) rfl) (by (first|((repeat first|exact s_0|exact s_1|exact s_3|refine s_4 ?_|refine s_5 ?_|refine s_6 ?_|refine s_7 ?_);done)|((repeat first|exact s_0|exact s_1|exact s_3|refine s_4 ?_|refine s_5 ?_|refine s_6 ?_|refine s_8 ?_);done))) ?_
  rintro k ⟨hk, hal⟩
  refine xc_seq ?_
  refine xc_seq (xc_region ?_)
  refine xr_op rfl rfl (xv_move rfl ?_)
  refine xr_op rfl rfl (xv_faddr fl25_0 rfl ?_)
  refine xr_op rfl rfl (xv_load1 ty22 rfl rfl (by ((repeat first|exact z_0|assumption|refine z_1 ?_|(refine z_l ?_;(repeat first|exact z_0|assumption|refine z_1 ?_);done)|refine z_r ?_);done)) (by rfl) ?_)
  refine xr_op rfl rfl (xv_len sl22 rfl ?_)
  refine xr_op rfl rfl (xv_lss2 rfl rfl (fun q1 => ?_) (fun q1 => ?_))
  · refine xr_end rfl ?_
    refine th_n ?_
    refine xc_true rfl ?_
    refine xc_skip ?_
    refine th_n ?_
    refine xc_seq ?_
    refine xc_block ?_
    refine xc_seq (xc_region ?_)
    refine xr_op rfl rfl (xv_faddr fl25_0 rfl ?_)
    refine xr_op rfl rfl (xv_load1 ty22 rfl rfl (by ((repeat first|exact z_0|assumption|refine z_1 ?_|(refine z_l ?_;(repeat first|exact z_0|assumption|refine z_1 ?_);done)|refine z_r ?_);done)) (by rfl) ?_)
    refine xr_op rfl rfl (xv_move rfl ?_)
    have hlto : k < y.coals.length := by (first|omega|(dsimp only at *;omega)|(simp at *;omega))
    obtain ⟨bo, oo, lo, to, fzo, hao, hmo, hxo⟩ := (hy.coals).at hlto
    obtain ⟨xo, hko⟩ : ∃ qq_, y.coals[k]? = some qq_ := ⟨_, List.getElem?_eq_getElem hlto⟩
    refine xr_op rfl rfl (xv_ia (sz := 8) (j := k) sl22 ty59 rfl (by rw [hao]; rfl) rfl (by (first | assumption | with_reducible exact Int.toNat_natCast _ | with_reducible rfl | rfl)) (by (first|omega|(dsimp only at *;omega)|(simp at *;omega))) (by (first|omega|(dsimp only at *;omega)|(simp at *;omega))) ?_)
    refine xr_op rfl rfl (xv_loadA ty59 rfl rfl (by ((repeat first|exact z_0|assumption|refine z_1 ?_|(refine z_l ?_;(repeat first|exact z_0|assumption|refine z_1 ?_);done)|refine z_r ?_);done)) (hxo (k) xo hko) rfl ?_)
    refine xr_op rfl rfl (xv_alloc ty59 (fun b4 hb4 => ?_))
    refine xr_op rfl rfl (xv_s ty59 rfl rfl (by (first|(apply u_3;(repeat first|exact u_0|assumption|apply u_1|apply u_2);done)|((repeat first|exact u_0|assumption|apply u_1|apply u_2);done)|(apply u_3;apply u_3;(repeat first|exact u_0|assumption|apply u_1|apply u_2);done)|((repeat first|exact u_0|assumption|apply u_3|apply u_1);done))) (by ((try apply evl_some rfl);(repeat (first|exact (rfl : _ = [])|apply evl_cons rfl (by (first|exact v_1|exact v_2|exact v_3|exact v_4|exact v_5|exact v_6|exact v_7|exact v_8|exact v_9|exact rfl))|exact rfl)))) (by rfl) (by rfl) (by rfl) (by ((try apply evl_some rfl);(repeat (first|exact (rfl : _ = [])|apply evl_cons rfl (by (first|exact v_1|exact v_2|exact v_3|exact v_4|exact v_5|exact v_6|exact v_7|exact v_8|exact v_9|exact rfl))|exact rfl)))) ?_)
    refine xr_end rfl ?_
    refine th_n ?_
    refine xc_seq (xc_region ?_)
    refine xr_op rfl rfl (xv_faddr fl59_0 rfl ?_)
    refine xr_op rfl rfl (xv_loadA ty33 rfl rfl (by ((repeat first|exact z_0|assumption|refine z_1 ?_|(refine z_l ?_;(repeat first|exact z_0|assumption|refine z_1 ?_);done)|refine z_r ?_);done)) (by ((try apply evl_some rfl);(repeat (first|exact (rfl : _ = [])|apply evl_cons rfl (by (first|exact v_1|exact v_2|exact v_3|exact v_4|exact v_5|exact v_6|exact v_7|exact v_8|exact v_9|exact rfl))|exact rfl)))) (by rfl) ?_)
    refine xr_op rfl rfl (xv_calls rfl hb51 (rspan_c (s := xo.gas) (fun ha => up_ret ?_) (fun ha => up_ret ?_)))
    · refine xr_op rfl rfl (xv_not rfl ?_)
      refine xr_op rfl rfl (xv_move rfl ?_)
      refine xr_gd rfl rfl rfl (xv_faddr fl59_1 rfl ?_)
      refine xr_gd rfl rfl rfl (xv_loadA ty33 rfl rfl (by ((repeat first|exact z_0|assumption|refine z_1 ?_|(refine z_l ?_;(repeat first|exact z_0|assumption|refine z_1 ?_);done)|refine z_r ?_);done)) (by ((try apply evl_some rfl);(repeat (first|exact (rfl : _ = [])|apply evl_cons rfl (by (first|exact v_1|exact v_2|exact v_3|exact v_4|exact v_5|exact v_6|exact v_7|exact v_8|exact v_9|exact rfl))|exact rfl)))) (by rfl) ?_)
      refine xr_gd rfl rfl rfl (xv_calls rfl hb51 (rspan_c (s := xo.tar) (fun hb => up_ret ?_) (fun hb => up_ret ?_)))
      · refine xr_gd rfl rfl rfl (xv_not rfl ?_)
        refine xr_op rfl rfl (xv_pick rfl rfl ?_)
        refine xr_op rfl rfl (xv_move rfl ?_)
        refine xr_gd rfl rfl rfl (xv_faddr fl59_2 rfl ?_)
        refine xr_gd rfl rfl rfl (xv_loadA ty33 rfl rfl (by ((repeat first|exact z_0|assumption|refine z_1 ?_|(refine z_l ?_;(repeat first|exact z_0|assumption|refine z_1 ?_);done)|refine z_r ?_);done)) (by ((try apply evl_some rfl);(repeat (first|exact (rfl : _ = [])|apply evl_cons rfl (by (first|exact v_1|exact v_2|exact v_3|exact v_4|exact v_5|exact v_6|exact v_7|exact v_8|exact v_9|exact rfl))|exact rfl)))) (by rfl) ?_)
        refine xr_gd rfl rfl rfl (xv_calls rfl hb51 (rspan_c (s := xo.sulphur) (fun hc => up_ret ?_) (fun hc => up_ret ?_)))
        · refine xr_gd rfl rfl rfl (xv_not rfl ?_)
          refine xr_op rfl rfl (xv_pick rfl rfl ?_)
          refine xr_op rfl rfl (xv_move rfl ?_)
          refine xr_gd rfl rfl rfl (xv_faddr fl59_3 rfl ?_)
          refine xr_gd rfl rfl rfl (xv_loadA ty33 rfl rfl (by ((repeat first|exact z_0|assumption|refine z_1 ?_|(refine z_l ?_;(repeat first|exact z_0|assumption|refine z_1 ?_);done)|refine z_r ?_);done)) (by ((try apply evl_some rfl);(repeat (first|exact (rfl : _ = [])|apply evl_cons rfl (by (first|exact v_1|exact v_2|exact v_3|exact v_4|exact v_5|exact v_6|exact v_7|exact v_8|exact v_9|exact rfl))|exact rfl)))) (by rfl) ?_)
          refine xr_gd rfl rfl rfl (xv_calls rfl hb51 (rspan_c (s := xo.coke) (fun hd => up_ret ?_) (fun hd => up_ret ?_)))
          · refine xr_gd rfl rfl rfl (xv_not rfl ?_)
            refine xr_op rfl rfl (xv_pick rfl rfl ?_)
            refine xr_end rfl ?_
            refine th_n ?_
            refine xc_false rfl ?_
            refine xc_skip ?_
            refine bk_n ?_
            refine th_n ?_
            refine xc_region ?_
            refine xr_op rfl rfl (xv_move rfl ?_)
            refine xr_op rfl rfl (xv_add rfl rfl (wrap_i64 (by (first|omega|(dsimp only at *;omega)|(simp at *;omega))) (by (first|omega|(dsimp only at *;omega)|(simp at *;omega)))) ?_)
            refine xr_op rfl rfl (xv_assign rfl ?_)
            refine xr_end rfl ?_
            exact rnd (k + 1) ⟨by (first|omega|(dsimp only at *;omega)|(simp at *;omega)), (take_all hko).2 ⟨hal, ha, hb, hc, hd⟩⟩ (by (first|omega|(dsimp only at *;omega)|(simp at *;omega))) (le_put (le_put (le_emp _) rfl) rfl) (by (first|((repeat first|exact s_0|exact s_1|exact s_3|refine s_4 ?_|refine s_5 ?_|refine s_6 ?_|refine s_7 ?_);done)|((repeat first|exact s_0|exact s_1|exact s_3|refine s_4 ?_|refine s_5 ?_|refine s_6 ?_|refine s_8 ?_);done)))
          · refine xr_gd rfl rfl rfl (xv_not rfl ?_)
            refine xr_op rfl rfl (xv_pick rfl rfl ?_)
            refine xr_end rfl ?_
            refine th_n ?_
            refine xc_true rfl ?_
            refine xc_seq (xc_region ?_)
            have hbc : ¬ coalOk xo := by
              rintro ⟨z1, z2, z3, z4⟩
              first | exact absurd z1 (by assumption) | exact absurd z2 (by assumption) | exact absurd z3 (by assumption) | exact absurd z4 (by assumption)
            refine xr_op rfl rfl (xv_assign rfl ?_)
            refine xr_end rfl ?_
            refine th_n ?_
            refine xc_ret ?_
            refine bk_r ?_
            refine th_r ?_
            refine th_r ?_
            refine bk_r ?_
            refine th_r ?_
            refine body_ret (h' := h) rfl (ro_tmp rfl ro_nil) (by (first|((repeat first|exact s_0|exact s_1|exact s_3|refine s_4 ?_|refine s_5 ?_|refine s_6 ?_|refine s_7 ?_);done)|((repeat first|exact s_0|exact s_1|exact s_3|refine s_4 ?_|refine s_5 ?_|refine s_6 ?_|refine s_8 ?_);done))) ?_
            first | exact H2 (fun hq9 => hbc (hq9.1 xo (List.mem_of_getElem? hko))) | exact H2 (fun hq9 => hbm (movesOk_at hq9.2.1 hko)) | exact H1 ⟨hco, hmo, by omega, by omega⟩ | exact H2 (fun hq9 => by have h9 := hq9.2.2; omega)
        · refine xr_gd rfl rfl rfl (xv_not rfl ?_)
          refine xr_op rfl rfl (xv_pick rfl rfl ?_)
          refine xr_op rfl rfl (xv_move rfl ?_)
          refine xr_no rfl rfl rfl rfl ?_
          refine xr_no rfl rfl rfl rfl ?_
          refine xr_no rfl rfl rfl rfl ?_
          refine xr_no rfl rfl rfl rfl ?_
          refine xr_op rfl rfl (xv_pick rfl rfl ?_)
          refine xr_end rfl ?_
          refine th_n ?_
          refine xc_true rfl ?_
          refine xc_seq (xc_region ?_)
          have hbc : ¬ coalOk xo := by
            rintro ⟨z1, z2, z3, z4⟩
            first | exact absurd z1 (by assumption) | exact absurd z2 (by assumption) | exact absurd z3 (by assumption) | exact absurd z4 (by assumption)
          refine xr_op rfl rfl (xv_assign rfl ?_)
          refine xr_end rfl ?_
          refine th_n ?_
          refine xc_ret ?_
          refine bk_r ?_
          refine th_r ?_
          refine th_r ?_
          refine bk_r ?_
          refine th_r ?_
          refine body_ret (h' := h) rfl (ro_tmp rfl ro_nil) (by (first|((repeat first|exact s_0|exact s_1|exact s_3|refine s_4 ?_|refine s_5 ?_|refine s_6 ?_|refine s_7 ?_);done)|((repeat first|exact s_0|exact s_1|exact s_3|refine s_4 ?_|refine s_5 ?_|refine s_6 ?_|refine s_8 ?_);done))) ?_
          first | exact H2 (fun hq9 => hbc (hq9.1 xo (List.mem_of_getElem? hko))) | exact H2 (fun hq9 => hbm (movesOk_at hq9.2.1 hko)) | exact H1 ⟨hco, hmo, by omega, by omega⟩ | exact H2 (fun hq9 => by have h9 := hq9.2.2; omega)
      · refine xr_gd rfl rfl rfl (xv_not rfl ?_)
        refine xr_op rfl rfl (xv_pick rfl rfl ?_)
        refine xr_op rfl rfl (xv_move rfl ?_)
        refine xr_no rfl rfl rfl rfl ?_
        refine xr_no rfl rfl rfl rfl ?_
        refine xr_no rfl rfl rfl rfl ?_
        refine xr_no rfl rfl rfl rfl ?_
        refine xr_op rfl rfl (xv_pick rfl rfl ?_)
        refine xr_op rfl rfl (xv_move rfl ?_)
        refine xr_no rfl rfl rfl rfl ?_
        refine xr_no rfl rfl rfl rfl ?_
        refine xr_no rfl rfl rfl rfl ?_
        refine xr_no rfl rfl rfl rfl ?_
        refine xr_op rfl rfl (xv_pick rfl rfl ?_)
        refine xr_end rfl ?_
        refine th_n ?_
        refine xc_true rfl ?_
        refine xc_seq (xc_region ?_)
        have hbc : ¬ coalOk xo := by
          rintro ⟨z1, z2, z3, z4⟩
          first | exact absurd z1 (by assumption) | exact absurd z2 (by assumption) | exact absurd z3 (by assumption) | exact absurd z4 (by assumption)
        refine xr_op rfl rfl (xv_assign rfl ?_)
        refine xr_end rfl ?_
        refine th_n ?_
        refine xc_ret ?_
        refine bk_r ?_
        refine th_r ?_
        refine th_r ?_
        refine bk_r ?_
        refine th_r ?_
        refine body_ret (h' := h) rfl (ro_tmp rfl ro_nil) (by (first|((repeat first|exact s_0|exact s_1|exact s_3|refine s_4 ?_|refine s_5 ?_|refine s_6 ?_|refine s_7 ?_);done)|((repeat first|exact s_0|exact s_1|exact s_3|refine s_4 ?_|refine s_5 ?_|refine s_6 ?_|refine s_8 ?_);done))) ?_
        first | exact H2 (fun hq9 => hbc (hq9.1 xo (List.mem_of_getElem? hko))) | exact H2 (fun hq9 => hbm (movesOk_at hq9.2.1 hko)) | exact H1 ⟨hco, hmo, by omega, by omega⟩ | exact H2 (fun hq9 => by have h9 := hq9.2.2; omega)
    · refine xr_op rfl rfl (xv_not rfl ?_)
      refine xr_op rfl rfl (xv_move rfl ?_)
      refine xr_no rfl rfl rfl rfl ?_
      refine xr_no rfl rfl rfl rfl ?_
      refine xr_no rfl rfl rfl rfl ?_
      refine xr_no rfl rfl rfl rfl ?_
      refine xr_op rfl rfl (xv_pick rfl rfl ?_)
      refine xr_op rfl rfl (xv_move rfl ?_)
      refine xr_no rfl rfl rfl rfl ?_
      refine xr_no rfl rfl rfl rfl ?_
      refine xr_no rfl rfl rfl rfl ?_
      refine xr_no rfl rfl rfl rfl ?_
      refine xr_op rfl rfl (xv_pick rfl rfl ?_)
      refine xr_op rfl rfl (xv_move rfl ?_)
      refine xr_no rfl rfl rfl rfl ?_
      refine xr_no rfl rfl rfl rfl ?_
      refine xr_no rfl rfl rfl rfl ?_
      refine xr_no rfl rfl rfl rfl ?_
      refine xr_op rfl rfl (xv_pick rfl rfl ?_)
      refine xr_end rfl ?_
      refine th_n ?_
      refine xc_true rfl ?_
      refine xc_seq (xc_region ?_)
      have hbc : ¬ coalOk xo := by
        rintro ⟨z1, z2, z3, z4⟩
        first | exact absurd z1 (by assumption) | exact absurd z2 (by assumption) | exact absurd z3 (by assumption) | exact absurd z4 (by assumption)
      refine xr_op rfl rfl (xv_assign rfl ?_)
      refine xr_end rfl ?_
      refine th_n ?_
      refine xc_ret ?_
      refine bk_r ?_
      refine th_r ?_
      refine th_r ?_
      refine bk_r ?_
      refine th_r ?_
      refine body_ret (h' := h) rfl (ro_tmp rfl ro_nil) (by (first|((repeat first|exact s_0|exact s_1|exact s_3|refine s_4 ?_|refine s_5 ?_|refine s_6 ?_|refine s_7 ?_);done)|((repeat first|exact s_0|exact s_1|exact s_3|refine s_4 ?_|refine s_5 ?_|refine s_6 ?_|refine s_8 ?_);done))) ?_
      first | exact H2 (fun hq9 => hbc (hq9.1 xo (List.mem_of_getElem? hko))) | exact H2 (fun hq9 => hbm (movesOk_at hq9.2.1 hko)) | exact H1 ⟨hco, hmo, by omega, by omega⟩ | exact H2 (fun hq9 => by have h9 := hq9.2.2; omega)
  · refine xr_end rfl ?_
    refine th_n ?_
    refine xc_false rfl ?_
    refine xc_exit ?_
    refine th_x ?_
    refine th_x ?_
    refine bk_same ?_
    refine th_n ?_
    refine xc_seq ?_
    refine xc_seq (xc_region ?_)
    have hco : CoalsOk y.coals := by
      have e9 : k = y.coals.length := by (first|omega|(dsimp only at *;omega)|(simp at *;omega))
      rw [e9, List.take_length] at hal; exact hal
    refine xr_op rfl rfl (xv_assign rfl ?_)
    refine xr_end rfl ?_
    refine th_n ?_
    refine xc_block ?_
    refine xc_loop (σ := Nat) (fun k => k ≤ y.moves.length ∧ movesOk y.coals.length 0 (y.moves.take k)) (fun k => ((emp.put (some 1) (.pointer (some ⟨b1, 0, none⟩))).put (some 5) (I k))) (fun k => ((b1, .cells ⟨eYard y⟩ 25) :: h)) (fun k => y.moves.length - k) 0 ⟨Nat.zero_le _, trivial⟩ (le_put (le_put (le_emp _) rfl) rfl) (by (first|((repeat first|exact s_0|exact s_1|exact s_3|refine s_4 ?_|refine s_5 ?_|refine s_6 ?_|refine s_7 ?_);done)|((repeat first|exact s_0|exact s_1|exact s_3|refine s_4 ?_|refine s_5 ?_|refine s_6 ?_|refine s_8 ?_);done))) ?_
    rintro k ⟨hk, hmv⟩
    refine xc_seq ?_
    refine xc_seq (xc_region ?_)
    refine xr_op rfl rfl (xv_move rfl ?_)
    refine xr_op rfl rfl (xv_faddr fl25_1 rfl ?_)
    refine xr_op rfl rfl (xv_load1 ty23 rfl rfl (by ((repeat first|exact z_0|assumption|refine z_1 ?_|(refine z_l ?_;(repeat first|exact z_0|assumption|refine z_1 ?_);done)|refine z_r ?_);done)) (by rfl) ?_)
    refine xr_op rfl rfl (xv_len sl23 rfl ?_)
    refine xr_op rfl rfl (xv_lss2 rfl rfl (fun q2 => ?_) (fun q2 => ?_))
    · refine xr_end rfl ?_
      refine th_n ?_
      refine xc_true rfl ?_
      refine xc_skip ?_
      refine th_n ?_
      refine xc_seq ?_
      refine xc_block ?_
      refine xc_seq (xc_region ?_)
      refine xr_op rfl rfl (xv_faddr fl25_1 rfl ?_)
      refine xr_op rfl rfl (xv_load1 ty23 rfl rfl (by ((repeat first|exact z_0|assumption|refine z_1 ?_|(refine z_l ?_;(repeat first|exact z_0|assumption|refine z_1 ?_);done)|refine z_r ?_);done)) (by rfl) ?_)
      refine xr_op rfl rfl (xv_move rfl ?_)
      have hlto : k < y.moves.length := by (first|omega|(dsimp only at *;omega)|(simp at *;omega))
      obtain ⟨bo, oo, lo, to, fzo, hao, hmo, hxo⟩ := (hy.moves).at hlto
      obtain ⟨xo, hko⟩ : ∃ qq_, y.moves[k]? = some qq_ := ⟨_, List.getElem?_eq_getElem hlto⟩
      refine xr_op rfl rfl (xv_ia (sz := 3) (j := k) sl23 ty63 rfl (by rw [hao]; rfl) rfl (by (first | assumption | with_reducible exact Int.toNat_natCast _ | with_reducible rfl | rfl)) (by (first|omega|(dsimp only at *;omega)|(simp at *;omega))) (by (first|omega|(dsimp only at *;omega)|(simp at *;omega))) ?_)
      refine xr_op rfl rfl (xv_loadA ty63 rfl rfl (by ((repeat first|exact z_0|assumption|refine z_1 ?_|(refine z_l ?_;(repeat first|exact z_0|assumption|refine z_1 ?_);done)|refine z_r ?_);done)) (hxo (k) xo hko) rfl ?_)
      refine xr_op rfl rfl (xv_alloc ty63 (fun b6 hb6 => ?_))
      refine xr_op rfl rfl (xv_s ty63 rfl rfl (by (first|(apply u_3;(repeat first|exact u_0|assumption|apply u_1|apply u_2);done)|((repeat first|exact u_0|assumption|apply u_1|apply u_2);done)|(apply u_3;apply u_3;(repeat first|exact u_0|assumption|apply u_1|apply u_2);done)|((repeat first|exact u_0|assumption|apply u_3|apply u_1);done))) (by ((try apply evl_some rfl);(repeat (first|exact (rfl : _ = [])|apply evl_cons rfl (by (first|exact v_1|exact v_2|exact v_3|exact v_4|exact v_5|exact v_6|exact v_7|exact v_8|exact v_9|exact rfl))|exact rfl)))) (by rfl) (by rfl) (by rfl) (by ((try apply evl_some rfl);(repeat (first|exact (rfl : _ = [])|apply evl_cons rfl (by (first|exact v_1|exact v_2|exact v_3|exact v_4|exact v_5|exact v_6|exact v_7|exact v_8|exact v_9|exact rfl))|exact rfl)))) ?_)
      refine xr_end rfl ?_
      refine th_n ?_
      refine xc_seq ?_
      refine xc_draw0 [(0, .S), (1, .R), (2, .O), (3, .S), (4, .S), (5, .S), (6, .O), (7, .S), (8, .S), (9, .R), (10, .S), (11, .R), (12, .S), (13, .S), (14, .S), (15, .S), (16, .R), (17, .O), (18, .S), (19, .S), (20, .S), (21, .S), (22, .R), (23, .S), (24, .R), (25, .S), (26, .S), (27, .O), (28, .S), (29, .S), (30, .S), (31, .S), (32, .R), (33, .O), (34, .S), (35, .S)] mixed (by kernel_rfl) ?_
      refine js_S rfl rfl (.inl rfl) (xv_faddr fl63_0 rfl ⟨rfl, rfl⟩) ?_
      refine js_R0 rfl rfl (.inl rfl) (xv_load1 ty3 rfl rfl (by ((repeat first|exact z_0|assumption|refine z_1 ?_|(refine z_l ?_;(repeat first|exact z_0|assumption|refine z_1 ?_);done)|refine z_r ?_);done)) (by rfl) ⟨rfl, rfl⟩) ?_
      refine js_O0 rfl rfl (.inl rfl) (xv_calls rfl hb37 (in_c _ _ _ (fun hl3 hu4 => up_ret ?_) (fun hn5 => up_ret ?_)))
      · refine js_S rfl rfl (.inl rfl) (xv_not rfl ⟨rfl, rfl⟩) ?_
        refine js_S rfl rfl (.inl rfl) (xv_move rfl ⟨rfl, rfl⟩) ?_
        refine js_S rfl rfl (.inr ⟨_, _, rfl, rfl⟩) (xv_move rfl ⟨rfl, rfl⟩) ?_
        refine js_O0 rfl rfl (.inr ⟨_, _, rfl, rfl⟩) (xv_gtr2 rfl rfl (fun hq => ?_) (fun hq => ?_))
        · have hltp : (k - 1) < y.moves.length := by (first|omega|(dsimp only at *;omega)|(simp at *;omega))
          obtain ⟨bp, op, lp, tp, fzp, hap, hmp, hxp⟩ := (hy.moves).at hltp
          obtain ⟨xp, hkp⟩ : ∃ qq_, y.moves[(k - 1)]? = some qq_ := ⟨_, List.getElem?_eq_getElem hltp⟩
          have hlp : lastH 0 (y.moves.take k) = xp.hour := lastH_p (by (first|omega|(dsimp only at *;omega)|(simp at *;omega))) hkp
          have hpm := ((movesOk_take (show y.moves[k - 1]? = some xp from hkp)).1 (by rw [show k - 1 + 1 = k by (first|omega|(dsimp only at *;omega)|(simp at *;omega))]; exact hmv)).2.1
          have hp0 : 0 ≤ xp.hour := by
            have h9 : 0 ≤ lastH 0 (y.moves.take (k - 1)) := lastH_0le hmv (by omega)
            omega
          refine js_S rfl rfl (.inr ⟨_, _, rfl, rfl⟩) (xv_move rfl ⟨rfl, rfl⟩) ?_
          refine js_S rfl rfl (.inr ⟨_, _, rfl, rfl⟩) (xv_faddr fl63_0 rfl ⟨rfl, rfl⟩) ?_
          refine js_R0 rfl rfl (.inr ⟨_, _, rfl, rfl⟩) (xv_load1 ty3 rfl rfl (by ((repeat first|exact z_0|assumption|refine z_1 ?_|(refine z_l ?_;(repeat first|exact z_0|assumption|refine z_1 ?_);done)|refine z_r ?_);done)) (by rfl) ⟨rfl, rfl⟩) ?_
          refine js_S rfl rfl (.inr ⟨_, _, rfl, rfl⟩) (xv_faddr fl25_1 rfl ⟨rfl, rfl⟩) ?_
          refine js_R0 rfl rfl (.inr ⟨_, _, rfl, rfl⟩) (xv_load1 ty23 rfl rfl (by ((repeat first|exact z_0|assumption|refine z_1 ?_|(refine z_l ?_;(repeat first|exact z_0|assumption|refine z_1 ?_);done)|refine z_r ?_);done)) (by rfl) ⟨rfl, rfl⟩) ?_
          refine js_S rfl rfl (.inr ⟨_, _, rfl, rfl⟩) (xv_move rfl ⟨rfl, rfl⟩) ?_
          refine js_S rfl rfl (.inr ⟨_, _, rfl, rfl⟩) (xv_sub rfl rfl (wrap_i64 (by (first|omega|(dsimp only at *;omega)|(simp at *;omega))) (by (first|omega|(dsimp only at *;omega)|(simp at *;omega)))) ⟨rfl, rfl⟩) ?_
          refine js_S rfl rfl (.inr ⟨_, _, rfl, rfl⟩) (xv_ia (sz := 3) (j := (k - 1)) sl23 ty63 rfl (by rw [hap]; rfl) rfl (by omega) (by (first|omega|(dsimp only at *;omega)|(simp at *;omega))) (by (first|omega|(dsimp only at *;omega)|(simp at *;omega))) ⟨rfl, rfl⟩) ?_
          refine js_S rfl rfl (.inr ⟨_, _, rfl, rfl⟩) (xv_faddr fl63_0 rfl ⟨rfl, rfl⟩) ?_
          refine js_R0 rfl rfl (.inr ⟨_, _, rfl, rfl⟩) (xv_load1 ty3 rfl rfl (by ((repeat first|exact z_0|assumption|refine z_1 ?_|(refine z_l ?_;(repeat first|exact z_0|assumption|refine z_1 ?_);done)|refine z_r ?_);done)) (take_get (hxp (k - 1) xp hkp) (j := 0) rfl) ⟨rfl, rfl⟩) ?_
          refine js_O0 rfl rfl (.inr ⟨_, _, rfl, rfl⟩) (xv_lss2 rfl rfl (fun hq => ?_) (fun hq => ?_))
          · refine js_S rfl rfl (.inr ⟨_, _, rfl, rfl⟩) (xv_pick rfl rfl ⟨rfl, rfl⟩) ?_
            refine js_S rfl rfl (.inl rfl) (xv_pick rfl rfl ⟨rfl, rfl⟩) ?_
            refine js_S rfl rfl (.inl rfl) (xv_move rfl ⟨rfl, rfl⟩) ?_
            refine js_Ss rfl rfl ⟨_, _, _, rfl, rfl, rfl⟩ ?_
            refine js_Rs rfl rfl ⟨_, _, _, rfl, rfl, rfl⟩ ?_
            refine js_Ss rfl rfl ⟨_, _, _, rfl, rfl, rfl⟩ ?_
            refine js_Rs rfl rfl ⟨_, _, _, rfl, rfl, rfl⟩ ?_
            refine js_Ss rfl rfl ⟨_, _, _, rfl, rfl, rfl⟩ ?_
            refine js_Ss rfl rfl ⟨_, _, _, rfl, rfl, rfl⟩ ?_
            refine js_Os rfl rfl ⟨_, _, _, rfl, rfl, rfl⟩ ?_
            refine js_Ss rfl rfl ⟨_, _, _, rfl, rfl, rfl⟩ ?_
            refine js_S rfl rfl (.inl rfl) (xv_pick rfl rfl ⟨rfl, rfl⟩) ?_
            refine js_S rfl rfl (.inl rfl) (xv_move rfl ⟨rfl, rfl⟩) ?_
            refine js_Ss rfl rfl ⟨_, _, _, rfl, rfl, rfl⟩ ?_
            refine js_Rs rfl rfl ⟨_, _, _, rfl, rfl, rfl⟩ ?_
            refine js_Os rfl rfl ⟨_, _, _, rfl, rfl, rfl⟩ ?_
            refine js_Ss rfl rfl ⟨_, _, _, rfl, rfl, rfl⟩ ?_
            refine js_S rfl rfl (.inl rfl) (xv_pick rfl rfl ⟨rfl, rfl⟩) ?_
            refine j_end0 ?_
            refine th_n ?_
            refine xc_true rfl ?_
            refine xc_seq (xc_region ?_)
            have hbm : ¬ moveOk y.coals.length (lastH 0 (y.moves.take k)) xo := by
              unfold moveOk
              first | omega | (have h8 := lastH_0le hmv (Nat.le_refl k); omega)
            refine xr_op rfl rfl (xv_assign rfl ?_)
            refine xr_end rfl ?_
            refine th_n ?_
            refine xc_ret ?_
            refine bk_r ?_
            refine th_r ?_
            refine th_r ?_
            refine bk_r ?_
            refine th_r ?_
            refine body_ret (h' := h) rfl (ro_tmp rfl ro_nil) (by (first|((repeat first|exact s_0|exact s_1|exact s_3|refine s_4 ?_|refine s_5 ?_|refine s_6 ?_|refine s_7 ?_);done)|((repeat first|exact s_0|exact s_1|exact s_3|refine s_4 ?_|refine s_5 ?_|refine s_6 ?_|refine s_8 ?_);done))) ?_
            first | exact H2 (fun hq9 => hbc (hq9.1 xo (List.mem_of_getElem? hko))) | exact H2 (fun hq9 => hbm (movesOk_at hq9.2.1 hko)) | exact H1 ⟨hco, hmo, by omega, by omega⟩ | exact H2 (fun hq9 => by have h9 := hq9.2.2; omega)
          · refine js_S rfl rfl (.inr ⟨_, _, rfl, rfl⟩) (xv_pick rfl rfl ⟨rfl, rfl⟩) ?_
            refine js_S rfl rfl (.inl rfl) (xv_pick rfl rfl ⟨rfl, rfl⟩) ?_
            refine js_S rfl rfl (.inl rfl) (xv_move rfl ⟨rfl, rfl⟩) ?_
            refine js_S rfl rfl (.inr ⟨_, _, rfl, rfl⟩) (xv_faddr fl63_1 rfl ⟨rfl, rfl⟩) ?_
            refine js_R0 rfl rfl (.inr ⟨_, _, rfl, rfl⟩) (xv_load1 ty3 rfl rfl (by ((repeat first|exact z_0|assumption|refine z_1 ?_|(refine z_l ?_;(repeat first|exact z_0|assumption|refine z_1 ?_);done)|refine z_r ?_);done)) (by rfl) ⟨rfl, rfl⟩) ?_
            refine js_S rfl rfl (.inr ⟨_, _, rfl, rfl⟩) (xv_faddr fl25_0 rfl ⟨rfl, rfl⟩) ?_
            refine js_R0 rfl rfl (.inr ⟨_, _, rfl, rfl⟩) (xv_load1 ty22 rfl rfl (by ((repeat first|exact z_0|assumption|refine z_1 ?_|(refine z_l ?_;(repeat first|exact z_0|assumption|refine z_1 ?_);done)|refine z_r ?_);done)) (by rfl) ⟨rfl, rfl⟩) ?_
            refine js_S rfl rfl (.inr ⟨_, _, rfl, rfl⟩) (xv_len sl22 rfl ⟨rfl, rfl⟩) ?_
            refine js_S rfl rfl (.inr ⟨_, _, rfl, rfl⟩) (xv_sub rfl rfl (wrap_i64 (by (first|omega|(dsimp only at *;omega)|(simp at *;omega))) (by (first|omega|(dsimp only at *;omega)|(simp at *;omega)))) ⟨rfl, rfl⟩) ?_
            refine js_O0 rfl rfl (.inr ⟨_, _, rfl, rfl⟩) (xv_calls rfl hb37 (in_c _ _ _ (fun hl6 hu7 => up_ret ?_) (fun hn8 => up_ret ?_)))
            · refine js_S rfl rfl (.inr ⟨_, _, rfl, rfl⟩) (xv_not rfl ⟨rfl, rfl⟩) ?_
              refine js_S rfl rfl (.inl rfl) (xv_pick rfl rfl ⟨rfl, rfl⟩) ?_
              refine js_S rfl rfl (.inl rfl) (xv_move rfl ⟨rfl, rfl⟩) ?_
              refine js_S rfl rfl (.inr ⟨_, _, rfl, rfl⟩) (xv_faddr fl63_2 rfl ⟨rfl, rfl⟩) ?_
              refine js_R0 rfl rfl (.inr ⟨_, _, rfl, rfl⟩) (xv_load1 ty3 rfl rfl (by ((repeat first|exact z_0|assumption|refine z_1 ?_|(refine z_l ?_;(repeat first|exact z_0|assumption|refine z_1 ?_);done)|refine z_r ?_);done)) (by rfl) ⟨rfl, rfl⟩) ?_
              refine js_O0 rfl rfl (.inr ⟨_, _, rfl, rfl⟩) (xv_calls rfl hb37 (in_c _ _ _ (fun hl9 hu10 => up_ret ?_) (fun hn11 => up_ret ?_)))
              · refine js_S rfl rfl (.inr ⟨_, _, rfl, rfl⟩) (xv_not rfl ⟨rfl, rfl⟩) ?_
                refine js_S rfl rfl (.inl rfl) (xv_pick rfl rfl ⟨rfl, rfl⟩) ?_
                refine j_end0 ?_
                refine th_n ?_
                refine xc_false rfl ?_
                refine xc_skip ?_
                refine bk_n ?_
                refine th_n ?_
                refine xc_region ?_
                refine xr_op rfl rfl (xv_move rfl ?_)
                refine xr_op rfl rfl (xv_add rfl rfl (wrap_i64 (by (first|omega|(dsimp only at *;omega)|(simp at *;omega))) (by (first|omega|(dsimp only at *;omega)|(simp at *;omega)))) ?_)
                refine xr_op rfl rfl (xv_assign rfl ?_)
                refine xr_end rfl ?_
                exact rnd (k + 1) ⟨by (first|omega|(dsimp only at *;omega)|(simp at *;omega)), (movesOk_take hko).2 ⟨hmv, by unfold moveOk; omega⟩⟩ (by (first|omega|(dsimp only at *;omega)|(simp at *;omega))) (le_put (le_put (le_emp _) rfl) rfl) (by (first|((repeat first|exact s_0|exact s_1|exact s_3|refine s_4 ?_|refine s_5 ?_|refine s_6 ?_|refine s_7 ?_);done)|((repeat first|exact s_0|exact s_1|exact s_3|refine s_4 ?_|refine s_5 ?_|refine s_6 ?_|refine s_8 ?_);done)))
              · refine js_S rfl rfl (.inr ⟨_, _, rfl, rfl⟩) (xv_not rfl ⟨rfl, rfl⟩) ?_
                refine js_S rfl rfl (.inl rfl) (xv_pick rfl rfl ⟨rfl, rfl⟩) ?_
                refine j_end0 ?_
                refine th_n ?_
                refine xc_true rfl ?_
                refine xc_seq (xc_region ?_)
                have hbm : ¬ moveOk y.coals.length (lastH 0 (y.moves.take k)) xo := by
                  unfold moveOk
                  first | omega | (have h8 := lastH_0le hmv (Nat.le_refl k); omega)
                refine xr_op rfl rfl (xv_assign rfl ?_)
                refine xr_end rfl ?_
                refine th_n ?_
                refine xc_ret ?_
                refine bk_r ?_
                refine th_r ?_
                refine th_r ?_
                refine bk_r ?_
                refine th_r ?_
                refine body_ret (h' := h) rfl (ro_tmp rfl ro_nil) (by (first|((repeat first|exact s_0|exact s_1|exact s_3|refine s_4 ?_|refine s_5 ?_|refine s_6 ?_|refine s_7 ?_);done)|((repeat first|exact s_0|exact s_1|exact s_3|refine s_4 ?_|refine s_5 ?_|refine s_6 ?_|refine s_8 ?_);done))) ?_
                first | exact H2 (fun hq9 => hbc (hq9.1 xo (List.mem_of_getElem? hko))) | exact H2 (fun hq9 => hbm (movesOk_at hq9.2.1 hko)) | exact H1 ⟨hco, hmo, by omega, by omega⟩ | exact H2 (fun hq9 => by have h9 := hq9.2.2; omega)
            · refine js_S rfl rfl (.inr ⟨_, _, rfl, rfl⟩) (xv_not rfl ⟨rfl, rfl⟩) ?_
              refine js_S rfl rfl (.inl rfl) (xv_pick rfl rfl ⟨rfl, rfl⟩) ?_
              refine js_S rfl rfl (.inl rfl) (xv_move rfl ⟨rfl, rfl⟩) ?_
              refine js_Ss rfl rfl ⟨_, _, _, rfl, rfl, rfl⟩ ?_
              refine js_Rs rfl rfl ⟨_, _, _, rfl, rfl, rfl⟩ ?_
              refine js_Os rfl rfl ⟨_, _, _, rfl, rfl, rfl⟩ ?_
              refine js_Ss rfl rfl ⟨_, _, _, rfl, rfl, rfl⟩ ?_
              refine js_S rfl rfl (.inl rfl) (xv_pick rfl rfl ⟨rfl, rfl⟩) ?_
              refine j_end0 ?_
              refine th_n ?_
              refine xc_true rfl ?_
              refine xc_seq (xc_region ?_)
              have hbm : ¬ moveOk y.coals.length (lastH 0 (y.moves.take k)) xo := by
                unfold moveOk
                first | omega | (have h8 := lastH_0le hmv (Nat.le_refl k); omega)
              refine xr_op rfl rfl (xv_assign rfl ?_)
              refine xr_end rfl ?_
              refine th_n ?_
              refine xc_ret ?_
              refine bk_r ?_
              refine th_r ?_
              refine th_r ?_
              refine bk_r ?_
              refine th_r ?_
              refine body_ret (h' := h) rfl (ro_tmp rfl ro_nil) (by (first|((repeat first|exact s_0|exact s_1|exact s_3|refine s_4 ?_|refine s_5 ?_|refine s_6 ?_|refine s_7 ?_);done)|((repeat first|exact s_0|exact s_1|exact s_3|refine s_4 ?_|refine s_5 ?_|refine s_6 ?_|refine s_8 ?_);done))) ?_
              first | exact H2 (fun hq9 => hbc (hq9.1 xo (List.mem_of_getElem? hko))) | exact H2 (fun hq9 => hbm (movesOk_at hq9.2.1 hko)) | exact H1 ⟨hco, hmo, by omega, by omega⟩ | exact H2 (fun hq9 => by have h9 := hq9.2.2; omega)
        · have hlp : lastH 0 (y.moves.take k) = 0 := by rw [show k = 0 by (first|omega|(dsimp only at *;omega)|(simp at *;omega))]; rfl
          refine js_S rfl rfl (.inr ⟨_, _, rfl, rfl⟩) (xv_move rfl ⟨rfl, rfl⟩) ?_
          refine js_Ss rfl rfl ⟨_, _, _, rfl, rfl, rfl⟩ ?_
          refine js_Rs rfl rfl ⟨_, _, _, rfl, rfl, rfl⟩ ?_
          refine js_Ss rfl rfl ⟨_, _, _, rfl, rfl, rfl⟩ ?_
          refine js_Rs rfl rfl ⟨_, _, _, rfl, rfl, rfl⟩ ?_
          refine js_Ss rfl rfl ⟨_, _, _, rfl, rfl, rfl⟩ ?_
          refine js_Ss rfl rfl ⟨_, _, _, rfl, rfl, rfl⟩ ?_
          refine js_Ss rfl rfl ⟨_, _, _, rfl, rfl, rfl⟩ ?_
          refine js_Ss rfl rfl ⟨_, _, _, rfl, rfl, rfl⟩ ?_
          refine js_Rs rfl rfl ⟨_, _, _, rfl, rfl, rfl⟩ ?_
          refine js_Os rfl rfl ⟨_, _, _, rfl, rfl, rfl⟩ ?_
          refine js_S rfl rfl (.inr ⟨_, _, rfl, rfl⟩) (xv_pick rfl rfl ⟨rfl, rfl⟩) ?_
          refine js_S rfl rfl (.inl rfl) (xv_pick rfl rfl ⟨rfl, rfl⟩) ?_
          refine js_S rfl rfl (.inl rfl) (xv_move rfl ⟨rfl, rfl⟩) ?_
          refine js_S rfl rfl (.inr ⟨_, _, rfl, rfl⟩) (xv_faddr fl63_1 rfl ⟨rfl, rfl⟩) ?_
          refine js_R0 rfl rfl (.inr ⟨_, _, rfl, rfl⟩) (xv_load1 ty3 rfl rfl (by ((repeat first|exact z_0|assumption|refine z_1 ?_|(refine z_l ?_;(repeat first|exact z_0|assumption|refine z_1 ?_);done)|refine z_r ?_);done)) (by rfl) ⟨rfl, rfl⟩) ?_
          refine js_S rfl rfl (.inr ⟨_, _, rfl, rfl⟩) (xv_faddr fl25_0 rfl ⟨rfl, rfl⟩) ?_
          refine js_R0 rfl rfl (.inr ⟨_, _, rfl, rfl⟩) (xv_load1 ty22 rfl rfl (by ((repeat first|exact z_0|assumption|refine z_1 ?_|(refine z_l ?_;(repeat first|exact z_0|assumption|refine z_1 ?_);done)|refine z_r ?_);done)) (by rfl) ⟨rfl, rfl⟩) ?_
          refine js_S rfl rfl (.inr ⟨_, _, rfl, rfl⟩) (xv_len sl22 rfl ⟨rfl, rfl⟩) ?_
          refine js_S rfl rfl (.inr ⟨_, _, rfl, rfl⟩) (xv_sub rfl rfl (wrap_i64 (by (first|omega|(dsimp only at *;omega)|(simp at *;omega))) (by (first|omega|(dsimp only at *;omega)|(simp at *;omega)))) ⟨rfl, rfl⟩) ?_
          refine js_O0 rfl rfl (.inr ⟨_, _, rfl, rfl⟩) (xv_calls rfl hb37 (in_c _ _ _ (fun hl12 hu13 => up_ret ?_) (fun hn14 => up_ret ?_)))
          · refine js_S rfl rfl (.inr ⟨_, _, rfl, rfl⟩) (xv_not rfl ⟨rfl, rfl⟩) ?_
            refine js_S rfl rfl (.inl rfl) (xv_pick rfl rfl ⟨rfl, rfl⟩) ?_
            refine js_S rfl rfl (.inl rfl) (xv_move rfl ⟨rfl, rfl⟩) ?_
            refine js_S rfl rfl (.inr ⟨_, _, rfl, rfl⟩) (xv_faddr fl63_2 rfl ⟨rfl, rfl⟩) ?_
            refine js_R0 rfl rfl (.inr ⟨_, _, rfl, rfl⟩) (xv_load1 ty3 rfl rfl (by ((repeat first|exact z_0|assumption|refine z_1 ?_|(refine z_l ?_;(repeat first|exact z_0|assumption|refine z_1 ?_);done)|refine z_r ?_);done)) (by rfl) ⟨rfl, rfl⟩) ?_
            refine js_O0 rfl rfl (.inr ⟨_, _, rfl, rfl⟩) (xv_calls rfl hb37 (in_c _ _ _ (fun hl15 hu16 => up_ret ?_) (fun hn17 => up_ret ?_)))
            · refine js_S rfl rfl (.inr ⟨_, _, rfl, rfl⟩) (xv_not rfl ⟨rfl, rfl⟩) ?_
              refine js_S rfl rfl (.inl rfl) (xv_pick rfl rfl ⟨rfl, rfl⟩) ?_
              refine j_end0 ?_
              refine th_n ?_
              refine xc_false rfl ?_
              refine xc_skip ?_
              refine bk_n ?_
              refine th_n ?_
              refine xc_region ?_
              refine xr_op rfl rfl (xv_move rfl ?_)
              refine xr_op rfl rfl (xv_add rfl rfl (wrap_i64 (by (first|omega|(dsimp only at *;omega)|(simp at *;omega))) (by (first|omega|(dsimp only at *;omega)|(simp at *;omega)))) ?_)
              refine xr_op rfl rfl (xv_assign rfl ?_)
              refine xr_end rfl ?_
              exact rnd (k + 1) ⟨by (first|omega|(dsimp only at *;omega)|(simp at *;omega)), (movesOk_take hko).2 ⟨hmv, by unfold moveOk; omega⟩⟩ (by (first|omega|(dsimp only at *;omega)|(simp at *;omega))) (le_put (le_put (le_emp _) rfl) rfl) (by (first|((repeat first|exact s_0|exact s_1|exact s_3|refine s_4 ?_|refine s_5 ?_|refine s_6 ?_|refine s_7 ?_);done)|((repeat first|exact s_0|exact s_1|exact s_3|refine s_4 ?_|refine s_5 ?_|refine s_6 ?_|refine s_8 ?_);done)))
            · refine js_S rfl rfl (.inr ⟨_, _, rfl, rfl⟩) (xv_not rfl ⟨rfl, rfl⟩) ?_
              refine js_S rfl rfl (.inl rfl) (xv_pick rfl rfl ⟨rfl, rfl⟩) ?_
              refine j_end0 ?_
              refine th_n ?_
              refine xc_true rfl ?_
              refine xc_seq (xc_region ?_)
              have hbm : ¬ moveOk y.coals.length (lastH 0 (y.moves.take k)) xo := by
                unfold moveOk
                first | omega | (have h8 := lastH_0le hmv (Nat.le_refl k); omega)
              refine xr_op rfl rfl (xv_assign rfl ?_)
              refine xr_end rfl ?_
              refine th_n ?_
              refine xc_ret ?_
              refine bk_r ?_
              refine th_r ?_
              refine th_r ?_
              refine bk_r ?_
              refine th_r ?_
              refine body_ret (h' := h) rfl (ro_tmp rfl ro_nil) (by (first|((repeat first|exact s_0|exact s_1|exact s_3|refine s_4 ?_|refine s_5 ?_|refine s_6 ?_|refine s_7 ?_);done)|((repeat first|exact s_0|exact s_1|exact s_3|refine s_4 ?_|refine s_5 ?_|refine s_6 ?_|refine s_8 ?_);done))) ?_
              first | exact H2 (fun hq9 => hbc (hq9.1 xo (List.mem_of_getElem? hko))) | exact H2 (fun hq9 => hbm (movesOk_at hq9.2.1 hko)) | exact H1 ⟨hco, hmo, by omega, by omega⟩ | exact H2 (fun hq9 => by have h9 := hq9.2.2; omega)
          · refine js_S rfl rfl (.inr ⟨_, _, rfl, rfl⟩) (xv_not rfl ⟨rfl, rfl⟩) ?_
            refine js_S rfl rfl (.inl rfl) (xv_pick rfl rfl ⟨rfl, rfl⟩) ?_
            refine js_S rfl rfl (.inl rfl) (xv_move rfl ⟨rfl, rfl⟩) ?_
            refine js_Ss rfl rfl ⟨_, _, _, rfl, rfl, rfl⟩ ?_
            refine js_Rs rfl rfl ⟨_, _, _, rfl, rfl, rfl⟩ ?_
            refine js_Os rfl rfl ⟨_, _, _, rfl, rfl, rfl⟩ ?_
            refine js_Ss rfl rfl ⟨_, _, _, rfl, rfl, rfl⟩ ?_
            refine js_S rfl rfl (.inl rfl) (xv_pick rfl rfl ⟨rfl, rfl⟩) ?_
            refine j_end0 ?_
            refine th_n ?_
            refine xc_true rfl ?_
            refine xc_seq (xc_region ?_)
            have hbm : ¬ moveOk y.coals.length (lastH 0 (y.moves.take k)) xo := by
              unfold moveOk
              first | omega | (have h8 := lastH_0le hmv (Nat.le_refl k); omega)
            refine xr_op rfl rfl (xv_assign rfl ?_)
            refine xr_end rfl ?_
            refine th_n ?_
            refine xc_ret ?_
            refine bk_r ?_
            refine th_r ?_
            refine th_r ?_
            refine bk_r ?_
            refine th_r ?_
            refine body_ret (h' := h) rfl (ro_tmp rfl ro_nil) (by (first|((repeat first|exact s_0|exact s_1|exact s_3|refine s_4 ?_|refine s_5 ?_|refine s_6 ?_|refine s_7 ?_);done)|((repeat first|exact s_0|exact s_1|exact s_3|refine s_4 ?_|refine s_5 ?_|refine s_6 ?_|refine s_8 ?_);done))) ?_
            first | exact H2 (fun hq9 => hbc (hq9.1 xo (List.mem_of_getElem? hko))) | exact H2 (fun hq9 => hbm (movesOk_at hq9.2.1 hko)) | exact H1 ⟨hco, hmo, by omega, by omega⟩ | exact H2 (fun hq9 => by have h9 := hq9.2.2; omega)
      · refine js_S rfl rfl (.inl rfl) (xv_not rfl ⟨rfl, rfl⟩) ?_
        refine js_S rfl rfl (.inl rfl) (xv_move rfl ⟨rfl, rfl⟩) ?_
        refine js_Ss rfl rfl ⟨_, _, _, rfl, rfl, rfl⟩ ?_
        refine js_Os rfl rfl ⟨_, _, _, rfl, rfl, rfl⟩ ?_
        refine js_Ss rfl rfl ⟨_, _, _, rfl, rfl, rfl⟩ ?_
        refine js_Ss rfl rfl ⟨_, _, _, rfl, rfl, rfl⟩ ?_
        refine js_Rs rfl rfl ⟨_, _, _, rfl, rfl, rfl⟩ ?_
        refine js_Ss rfl rfl ⟨_, _, _, rfl, rfl, rfl⟩ ?_
        refine js_Rs rfl rfl ⟨_, _, _, rfl, rfl, rfl⟩ ?_
        refine js_Ss rfl rfl ⟨_, _, _, rfl, rfl, rfl⟩ ?_
        refine js_Ss rfl rfl ⟨_, _, _, rfl, rfl, rfl⟩ ?_
        refine js_Ss rfl rfl ⟨_, _, _, rfl, rfl, rfl⟩ ?_
        refine js_Ss rfl rfl ⟨_, _, _, rfl, rfl, rfl⟩ ?_
        refine js_Rs rfl rfl ⟨_, _, _, rfl, rfl, rfl⟩ ?_
        refine js_Os rfl rfl ⟨_, _, _, rfl, rfl, rfl⟩ ?_
        refine js_Ss rfl rfl ⟨_, _, _, rfl, rfl, rfl⟩ ?_
        refine js_S rfl rfl (.inl rfl) (xv_pick rfl rfl ⟨rfl, rfl⟩) ?_
        refine js_S rfl rfl (.inl rfl) (xv_move rfl ⟨rfl, rfl⟩) ?_
        refine js_Ss rfl rfl ⟨_, _, _, rfl, rfl, rfl⟩ ?_
        refine js_Rs rfl rfl ⟨_, _, _, rfl, rfl, rfl⟩ ?_
        refine js_Ss rfl rfl ⟨_, _, _, rfl, rfl, rfl⟩ ?_
        refine js_Rs rfl rfl ⟨_, _, _, rfl, rfl, rfl⟩ ?_
        refine js_Ss rfl rfl ⟨_, _, _, rfl, rfl, rfl⟩ ?_
        refine js_Ss rfl rfl ⟨_, _, _, rfl, rfl, rfl⟩ ?_
        refine js_Os rfl rfl ⟨_, _, _, rfl, rfl, rfl⟩ ?_
        refine js_Ss rfl rfl ⟨_, _, _, rfl, rfl, rfl⟩ ?_
        refine js_S rfl rfl (.inl rfl) (xv_pick rfl rfl ⟨rfl, rfl⟩) ?_
        refine js_S rfl rfl (.inl rfl) (xv_move rfl ⟨rfl, rfl⟩) ?_
        refine js_Ss rfl rfl ⟨_, _, _, rfl, rfl, rfl⟩ ?_
        refine js_Rs rfl rfl ⟨_, _, _, rfl, rfl, rfl⟩ ?_
        refine js_Os rfl rfl ⟨_, _, _, rfl, rfl, rfl⟩ ?_
        refine js_Ss rfl rfl ⟨_, _, _, rfl, rfl, rfl⟩ ?_
        refine js_S rfl rfl (.inl rfl) (xv_pick rfl rfl ⟨rfl, rfl⟩) ?_
        refine j_end0 ?_
        refine th_n ?_
        refine xc_true rfl ?_
        refine xc_seq (xc_region ?_)
        have hbm : ¬ moveOk y.coals.length (lastH 0 (y.moves.take k)) xo := by
          unfold moveOk
          first | omega | (have h8 := lastH_0le hmv (Nat.le_refl k); omega)
        refine xr_op rfl rfl (xv_assign rfl ?_)
        refine xr_end rfl ?_
        refine th_n ?_
        refine xc_ret ?_
        refine bk_r ?_
        refine th_r ?_
        refine th_r ?_
        refine bk_r ?_
        refine th_r ?_
        refine body_ret (h' := h) rfl (ro_tmp rfl ro_nil) (by (first|((repeat first|exact s_0|exact s_1|exact s_3|refine s_4 ?_|refine s_5 ?_|refine s_6 ?_|refine s_7 ?_);done)|((repeat first|exact s_0|exact s_1|exact s_3|refine s_4 ?_|refine s_5 ?_|refine s_6 ?_|refine s_8 ?_);done))) ?_
        first | exact H2 (fun hq9 => hbc (hq9.1 xo (List.mem_of_getElem? hko))) | exact H2 (fun hq9 => hbm (movesOk_at hq9.2.1 hko)) | exact H1 ⟨hco, hmo, by omega, by omega⟩ | exact H2 (fun hq9 => by have h9 := hq9.2.2; omega)
    · refine xr_end rfl ?_
      refine th_n ?_
      refine xc_false rfl ?_
      refine xc_exit ?_
      refine th_x ?_
      refine th_x ?_
      refine bk_same ?_
      refine th_n ?_
      refine xc_seq (xc_region ?_)
      have hmo : movesOk y.coals.length 0 y.moves := by
        have e9 : k = y.moves.length := by (first|omega|(dsimp only at *;omega)|(simp at *;omega))
        rw [e9, List.take_length] at hmv; exact hmv
      refine xr_op rfl rfl (xv_faddr fl25_0 rfl ?_)
      refine xr_op rfl rfl (xv_load1 ty22 rfl rfl (by ((repeat first|exact z_0|assumption|refine z_1 ?_|(refine z_l ?_;(repeat first|exact z_0|assumption|refine z_1 ?_);done)|refine z_r ?_);done)) (by rfl) ?_)
      refine xr_op rfl rfl (xv_len sl22 rfl ?_)
      refine xr_op rfl rfl (xv_calls rfl hb37 (in_c _ _ _ (fun hl18 hu19 => up_ret ?_) (fun hn20 => up_ret ?_)))
      · refine xr_op rfl rfl (xv_move rfl ?_)
        refine xr_gd rfl rfl rfl (xv_faddr fl25_1 rfl ?_)
        refine xr_gd rfl rfl rfl (xv_load1 ty23 rfl rfl (by ((repeat first|exact z_0|assumption|refine z_1 ?_|(refine z_l ?_;(repeat first|exact z_0|assumption|refine z_1 ?_);done)|refine z_r ?_);done)) (by rfl) ?_)
        refine xr_gd rfl rfl rfl (xv_len sl23 rfl ?_)
        refine xr_gd rfl rfl rfl (xv_leq2 rfl rfl (fun q21 => ?_) (fun q21 => ?_))
        · refine xr_op rfl rfl (xv_pick rfl rfl ?_)
          refine xr_op rfl rfl (xv_assign rfl ?_)
          refine xr_end rfl ?_
          refine th_n ?_
          refine xc_ret ?_
          refine body_ret (h' := h) rfl (ro_tmp rfl ro_nil) (by (first|((repeat first|exact s_0|exact s_1|exact s_3|refine s_4 ?_|refine s_5 ?_|refine s_6 ?_|refine s_7 ?_);done)|((repeat first|exact s_0|exact s_1|exact s_3|refine s_4 ?_|refine s_5 ?_|refine s_6 ?_|refine s_8 ?_);done))) ?_
          first | exact H2 (fun hq9 => hbc (hq9.1 xo (List.mem_of_getElem? hko))) | exact H2 (fun hq9 => hbm (movesOk_at hq9.2.1 hko)) | exact H1 ⟨hco, hmo, by omega, by omega⟩ | exact H2 (fun hq9 => by have h9 := hq9.2.2; omega)
        · refine xr_op rfl rfl (xv_pick rfl rfl ?_)
          refine xr_op rfl rfl (xv_assign rfl ?_)
          refine xr_end rfl ?_
          refine th_n ?_
          refine xc_ret ?_
          refine body_ret (h' := h) rfl (ro_tmp rfl ro_nil) (by (first|((repeat first|exact s_0|exact s_1|exact s_3|refine s_4 ?_|refine s_5 ?_|refine s_6 ?_|refine s_7 ?_);done)|((repeat first|exact s_0|exact s_1|exact s_3|refine s_4 ?_|refine s_5 ?_|refine s_6 ?_|refine s_8 ?_);done))) ?_
          first | exact H2 (fun hq9 => hbc (hq9.1 xo (List.mem_of_getElem? hko))) | exact H2 (fun hq9 => hbm (movesOk_at hq9.2.1 hko)) | exact H1 ⟨hco, hmo, by omega, by omega⟩ | exact H2 (fun hq9 => by have h9 := hq9.2.2; omega)
      · refine xr_op rfl rfl (xv_move rfl ?_)
        refine xr_no rfl rfl rfl rfl ?_
        refine xr_no rfl rfl rfl rfl ?_
        refine xr_no rfl rfl rfl rfl ?_
        refine xr_no rfl rfl rfl rfl ?_
        refine xr_op rfl rfl (xv_pick rfl rfl ?_)
        refine xr_op rfl rfl (xv_assign rfl ?_)
        refine xr_end rfl ?_
        refine th_n ?_
        refine xc_ret ?_
        refine body_ret (h' := h) rfl (ro_tmp rfl ro_nil) (by (first|((repeat first|exact s_0|exact s_1|exact s_3|refine s_4 ?_|refine s_5 ?_|refine s_6 ?_|refine s_7 ?_);done)|((repeat first|exact s_0|exact s_1|exact s_3|refine s_4 ?_|refine s_5 ?_|refine s_6 ?_|refine s_8 ?_);done))) ?_
        first | exact H2 (fun hq9 => hbc (hq9.1 xo (List.mem_of_getElem? hko))) | exact H2 (fun hq9 => hbm (movesOk_at hq9.2.1 hko)) | exact H1 ⟨hco, hmo, by omega, by omega⟩ | exact H2 (fun hq9 => by have h9 := hq9.2.2; omega)

theorem layer_c {y : Yard} {n : Nat} {h : Hp} {R : Ending → Hp → Prop} (hy : YardV h y) (hmv : movesOk n 0 y.moves) {i : Nat} {ii : Int} (ei : ii = i) (hi : i < y.moves.length) (hl : y.moves.length ≤ 1000) (H : R (.returned (I (((opn (y.moves.take (i + 1))).1 : Int) - 1))) h) :
    ACalls Try.prog 50 ⟨[.agg ⟨eYard y⟩, I ii]⟩ h R := by
  refine calls_of_xc (N := 48) Try.func50 rfl (by rfl) ?_
  subst ei
  refine xc_seq (xc_region ?_)
  refine xr_op rfl rfl (xv_box rfl (fun b2 hb2 => ?_))
  refine xr_op rfl rfl (xv_assign rfl ?_)
  refine xr_end rfl ?_
  refine th_n ?_
  refine xc_seq (xc_region ?_)
  refine xr_op rfl rfl (xv_assign rfl ?_)
  refine xr_end rfl ?_
  refine th_n ?_
  refine xc_seq ?_
  refine xc_seq (xc_region ?_)
  refine xr_op rfl rfl (xv_assign rfl ?_)
  refine xr_end rfl ?_
  refine th_n ?_
  refine xc_block ?_
  refine xc_loop (σ := Nat) (fun k => k ≤ i + 1) (fun k => ((((emp.put (some 1) (I (i : Int))).put (some 2) (.pointer (some ⟨b2, 0, none⟩))).put (some 5) (I (((opn (y.moves.take k)).1 : Int) - 1))).put (some 6) (I k))) (fun k => ((b2, .cells ⟨eYard y⟩ 25) :: h)) (fun k => i + 1 - k) 0 (Nat.zero_le _) (le_put (le_put (le_put (le_put (le_emp _) rfl) rfl) rfl) rfl) (by (first|((repeat first|exact s_0|exact s_1|exact s_3|refine s_4 ?_|refine s_5 ?_|refine s_6 ?_|refine s_7 ?_);done)|((repeat first|exact s_0|exact s_1|exact s_3|refine s_4 ?_|refine s_5 ?_|refine s_6 ?_|refine s_8 ?_);done))) ?_
  rintro k hk
  refine xc_seq ?_
  refine xc_seq (xc_region ?_)
  refine xr_op rfl rfl (xv_move rfl ?_)
  refine xr_op rfl rfl (xv_move rfl ?_)
  refine xr_op rfl rfl (xv_leq2 rfl rfl (fun q1 => ?_) (fun q1 => ?_))
  · refine xr_end rfl ?_
    refine th_n ?_
    refine xc_true rfl ?_
    refine xc_skip ?_
    refine th_n ?_
    refine xc_seq ?_
    refine xc_block ?_
    refine xc_seq (xc_region ?_)
    refine xr_op rfl rfl (xv_faddr fl25_1 rfl ?_)
    refine xr_op rfl rfl (xv_load1 ty23 rfl rfl (by ((repeat first|exact z_0|assumption|refine z_1 ?_|(refine z_l ?_;(repeat first|exact z_0|assumption|refine z_1 ?_);done)|refine z_r ?_);done)) (by rfl) ?_)
    refine xr_op rfl rfl (xv_move rfl ?_)
    have hlto : k < y.moves.length := by (first|omega|(dsimp only at *;omega)|(simp at *;omega))
    obtain ⟨bo, oo, lo, to, fzo, hao, hmo, hxo⟩ := (hy.moves).at hlto
    obtain ⟨xo, hko⟩ : ∃ qq_, y.moves[k]? = some qq_ := ⟨_, List.getElem?_eq_getElem hlto⟩
    have hmk := movesOk_at hmv hko
    have hh0 := lastH_0le (movesOk_mono k hmv) (Nat.le_refl k)
    have hh1 := hmk.1.1
    have hol := opn_le (y.moves.take k)
    rw [List.length_take] at hol
    refine xr_op rfl rfl (xv_ia (sz := 3) (j := k) sl23 ty63 rfl (by rw [hao]; rfl) rfl (by (first | assumption | with_reducible exact Int.toNat_natCast _ | with_reducible rfl | rfl)) (by (first|omega|(dsimp only at *;omega)|(simp at *;omega))) (by (first|omega|(dsimp only at *;omega)|(simp at *;omega))) ?_)
    refine xr_op rfl rfl (xv_loadA ty63 rfl rfl (by ((repeat first|exact z_0|assumption|refine z_1 ?_|(refine z_l ?_;(repeat first|exact z_0|assumption|refine z_1 ?_);done)|refine z_r ?_);done)) (hxo (k) xo hko) rfl ?_)
    refine xr_op rfl rfl (xv_alloc ty63 (fun b7 hb7 => ?_))
    refine xr_op rfl rfl (xv_s ty63 rfl rfl (by (first|(apply u_3;(repeat first|exact u_0|assumption|apply u_1|apply u_2);done)|((repeat first|exact u_0|assumption|apply u_1|apply u_2);done)|(apply u_3;apply u_3;(repeat first|exact u_0|assumption|apply u_1|apply u_2);done)|((repeat first|exact u_0|assumption|apply u_3|apply u_1);done))) (by ((try apply evl_some rfl);(repeat (first|exact (rfl : _ = [])|apply evl_cons rfl (by (first|exact v_1|exact v_2|exact v_3|exact v_4|exact v_5|exact v_6|exact v_7|exact v_8|exact v_9|exact rfl))|exact rfl)))) (by rfl) (by rfl) (by rfl) (by ((try apply evl_some rfl);(repeat (first|exact (rfl : _ = [])|apply evl_cons rfl (by (first|exact v_1|exact v_2|exact v_3|exact v_4|exact v_5|exact v_6|exact v_7|exact v_8|exact v_9|exact rfl))|exact rfl)))) ?_)
    refine xr_end rfl ?_
    refine th_n ?_
    refine xc_seq ?_
    refine xc_seq (xc_region ?_)
    refine xr_op rfl rfl (xv_faddr fl63_1 rfl ?_)
    refine xr_op rfl rfl (xv_load1 ty3 rfl rfl (by ((repeat first|exact z_0|assumption|refine z_1 ?_|(refine z_l ?_;(repeat first|exact z_0|assumption|refine z_1 ?_);done)|refine z_r ?_);done)) (by rfl) ?_)
    refine xr_op rfl rfl (xv_eql2 rfl rfl (fun q2 => ?_) (fun q2 => ?_))
    · refine xr_end rfl ?_
      refine th_n ?_
      refine xc_true rfl ?_
      refine xc_exit ?_
      refine th_x ?_
      refine bk_same ?_
      refine th_n ?_
      refine xc_region ?_
      refine xr_op rfl rfl (xv_move rfl ?_)
      refine xr_op rfl rfl (xv_add rfl rfl (wrap_i64 (by (first|omega|(dsimp only at *;omega)|(simp at *;omega))) (by (first|omega|(dsimp only at *;omega)|(simp at *;omega)))) ?_)
      refine xr_op rfl rfl (xv_assign rfl ?_)
      refine xr_end rfl ?_
      have hst : opn (y.moves.take (k + 1)) = ((opn (y.moves.take k)).1, -1) := by
        rw [opn_take hko]; unfold stepO
        first | (rw [if_pos (by (first|omega|(dsimp only at *;omega)|(simp at *;omega)))]; done) | (rw [if_neg (by (first|omega|(dsimp only at *;omega)|(simp at *;omega))), if_pos (by (first|omega|(dsimp only at *;omega)|(simp at *;omega)))]; done) | (rw [if_neg (by (first|omega|(dsimp only at *;omega)|(simp at *;omega))), if_neg (by (first|omega|(dsimp only at *;omega)|(simp at *;omega)))]; done)
      have hsi : ((opn (y.moves.take (k + 1))).1 : Int) - 1 = ((opn (y.moves.take k)).1 : Int) - 1 := by rw [hst]
      exact rnd (k + 1) (by (first|omega|(dsimp only at *;omega)|(simp at *;omega))) (by (first|omega|(dsimp only at *;omega)|(simp at *;omega))) (le_put (le_put (le_put (le_put (le_emp _) rfl) rfl) (by rw [hsi]; rfl)) rfl) (by (first|((repeat first|exact s_0|exact s_1|exact s_3|refine s_4 ?_|refine s_5 ?_|refine s_6 ?_|refine s_7 ?_);done)|((repeat first|exact s_0|exact s_1|exact s_3|refine s_4 ?_|refine s_5 ?_|refine s_6 ?_|refine s_8 ?_);done)))
    · refine xr_end rfl ?_
      refine th_n ?_
      refine xc_false rfl ?_
      refine xc_skip ?_
      refine th_n ?_
      refine xc_seq ?_
      refine xc_draw0 [(0, .S), (1, .O), (2, .S), (3, .S), (4, .R), (5, .S), (6, .S), (7, .S), (8, .S), (9, .R), (10, .O), (11, .S), (12, .S), (13, .S), (14, .R), (15, .S), (16, .S), (17, .S), (18, .S), (19, .R), (20, .S), (21, .R), (22, .O), (23, .S)] mixed (by kernel_rfl) ?_
      refine js_S rfl rfl (.inl rfl) (xv_move rfl ⟨rfl, rfl⟩) ?_
      refine js_O0 rfl rfl (.inl rfl) (xv_eql2 rfl rfl (fun hq => ?_) (fun hq => ?_))
      · refine js_S rfl rfl (.inl rfl) (xv_move rfl ⟨rfl, rfl⟩) ?_
        refine js_Ss rfl rfl ⟨_, _, _, rfl, rfl, rfl⟩ ?_
        refine js_Rs rfl rfl ⟨_, _, _, rfl, rfl, rfl⟩ ?_
        refine js_Ss rfl rfl ⟨_, _, _, rfl, rfl, rfl⟩ ?_
        refine js_Ss rfl rfl ⟨_, _, _, rfl, rfl, rfl⟩ ?_
        refine js_Ss rfl rfl ⟨_, _, _, rfl, rfl, rfl⟩ ?_
        refine js_Ss rfl rfl ⟨_, _, _, rfl, rfl, rfl⟩ ?_
        refine js_Rs rfl rfl ⟨_, _, _, rfl, rfl, rfl⟩ ?_
        refine js_Os rfl rfl ⟨_, _, _, rfl, rfl, rfl⟩ ?_
        have hop : (opn (y.moves.take k)).2 = -1 := by rw [show k = 0 by (first|omega|(dsimp only at *;omega)|(simp at *;omega))]; rfl
        refine js_S rfl rfl (.inl rfl) (xv_pick rfl rfl ⟨rfl, rfl⟩) ?_
        refine js_S rfl rfl (.inl rfl) (xv_move rfl ⟨rfl, rfl⟩) ?_
        refine js_Ss rfl rfl ⟨_, _, _, rfl, rfl, rfl⟩ ?_
        refine js_Rs rfl rfl ⟨_, _, _, rfl, rfl, rfl⟩ ?_
        refine js_Ss rfl rfl ⟨_, _, _, rfl, rfl, rfl⟩ ?_
        refine js_Ss rfl rfl ⟨_, _, _, rfl, rfl, rfl⟩ ?_
        refine js_Ss rfl rfl ⟨_, _, _, rfl, rfl, rfl⟩ ?_
        refine js_Ss rfl rfl ⟨_, _, _, rfl, rfl, rfl⟩ ?_
        refine js_Rs rfl rfl ⟨_, _, _, rfl, rfl, rfl⟩ ?_
        refine js_Ss rfl rfl ⟨_, _, _, rfl, rfl, rfl⟩ ?_
        refine js_Rs rfl rfl ⟨_, _, _, rfl, rfl, rfl⟩ ?_
        refine js_Os rfl rfl ⟨_, _, _, rfl, rfl, rfl⟩ ?_
        refine js_S rfl rfl (.inl rfl) (xv_pick rfl rfl ⟨rfl, rfl⟩) ?_
        refine j_end0 ?_
        refine th_n ?_
        refine xc_true rfl ?_
        refine xc_region ?_
        refine xr_op rfl rfl (xv_move rfl ?_)
        refine xr_op rfl rfl (xv_add rfl rfl (wrap_i64 (by (first|omega|(dsimp only at *;omega)|(simp at *;omega))) (by (first|omega|(dsimp only at *;omega)|(simp at *;omega)))) ?_)
        refine xr_op rfl rfl (xv_assign rfl ?_)
        refine xr_end rfl ?_
        refine bk_n ?_
        refine th_n ?_
        refine xc_region ?_
        refine xr_op rfl rfl (xv_move rfl ?_)
        refine xr_op rfl rfl (xv_add rfl rfl (wrap_i64 (by (first|omega|(dsimp only at *;omega)|(simp at *;omega))) (by (first|omega|(dsimp only at *;omega)|(simp at *;omega)))) ?_)
        refine xr_op rfl rfl (xv_assign rfl ?_)
        refine xr_end rfl ?_
        have hst : opn (y.moves.take (k + 1)) = ((opn (y.moves.take k)).1 + 1, xo.hour) := by
          rw [opn_take hko]; unfold stepO
          first | (rw [if_pos (by (first|omega|(dsimp only at *;omega)|(simp at *;omega)))]; done) | (rw [if_neg (by (first|omega|(dsimp only at *;omega)|(simp at *;omega))), if_pos (by (first|omega|(dsimp only at *;omega)|(simp at *;omega)))]; done) | (rw [if_neg (by (first|omega|(dsimp only at *;omega)|(simp at *;omega))), if_neg (by (first|omega|(dsimp only at *;omega)|(simp at *;omega)))]; done)
        have hsi : ((opn (y.moves.take (k + 1))).1 : Int) - 1 = ((opn (y.moves.take k)).1 : Int) - 1 + 1 := by rw [hst]; push_cast; omega
        exact rnd (k + 1) (by (first|omega|(dsimp only at *;omega)|(simp at *;omega))) (by (first|omega|(dsimp only at *;omega)|(simp at *;omega))) (le_put (le_put (le_put (le_put (le_emp _) rfl) rfl) (by rw [hsi]; rfl)) rfl) (by (first|((repeat first|exact s_0|exact s_1|exact s_3|refine s_4 ?_|refine s_5 ?_|refine s_6 ?_|refine s_7 ?_);done)|((repeat first|exact s_0|exact s_1|exact s_3|refine s_4 ?_|refine s_5 ?_|refine s_6 ?_|refine s_8 ?_);done)))
      · refine js_S rfl rfl (.inl rfl) (xv_move rfl ⟨rfl, rfl⟩) ?_
        have hltp : (k - 1) < y.moves.length := by (first|omega|(dsimp only at *;omega)|(simp at *;omega))
        obtain ⟨bp, op, lp, tp, fzp, hap, hmp, hxp⟩ := (hy.moves).at hltp
        obtain ⟨xp, hkp⟩ : ∃ qq_, y.moves[(k - 1)]? = some qq_ := ⟨_, List.getElem?_eq_getElem hltp⟩
        have hop := opn_open (by (first|omega|(dsimp only at *;omega)|(simp at *;omega))) hkp
        refine js_S rfl rfl (.inr ⟨_, _, rfl, rfl⟩) (xv_faddr fl25_1 rfl ⟨rfl, rfl⟩) ?_
        refine js_R0 rfl rfl (.inr ⟨_, _, rfl, rfl⟩) (xv_load1 ty23 rfl rfl (by ((repeat first|exact z_0|assumption|refine z_1 ?_|(refine z_l ?_;(repeat first|exact z_0|assumption|refine z_1 ?_);done)|refine z_r ?_);done)) (by rfl) ⟨rfl, rfl⟩) ?_
        refine js_S rfl rfl (.inr ⟨_, _, rfl, rfl⟩) (xv_move rfl ⟨rfl, rfl⟩) ?_
        refine js_S rfl rfl (.inr ⟨_, _, rfl, rfl⟩) (xv_sub rfl rfl (wrap_i64 (by (first|omega|(dsimp only at *;omega)|(simp at *;omega))) (by (first|omega|(dsimp only at *;omega)|(simp at *;omega)))) ⟨rfl, rfl⟩) ?_
        refine js_S rfl rfl (.inr ⟨_, _, rfl, rfl⟩) (xv_ia (sz := 3) (j := (k - 1)) sl23 ty63 rfl (by rw [hap]; rfl) rfl (by omega) (by (first|omega|(dsimp only at *;omega)|(simp at *;omega))) (by (first|omega|(dsimp only at *;omega)|(simp at *;omega))) ⟨rfl, rfl⟩) ?_
        refine js_S rfl rfl (.inr ⟨_, _, rfl, rfl⟩) (xv_faddr fl63_1 rfl ⟨rfl, rfl⟩) ?_
        refine js_R0 rfl rfl (.inr ⟨_, _, rfl, rfl⟩) (xv_load1 ty3 rfl rfl (by ((repeat first|exact z_0|assumption|refine z_1 ?_|(refine z_l ?_;(repeat first|exact z_0|assumption|refine z_1 ?_);done)|refine z_r ?_);done)) (take_get (hxp (k - 1) xp hkp) (j := 1) rfl) ⟨rfl, rfl⟩) ?_
        refine js_O0 rfl rfl (.inr ⟨_, _, rfl, rfl⟩) (xv_eql2 rfl rfl (fun hq => ?_) (fun hq => ?_))
        · refine js_S rfl rfl (.inl rfl) (xv_pick rfl rfl ⟨rfl, rfl⟩) ?_
          refine js_S rfl rfl (.inl rfl) (xv_move rfl ⟨rfl, rfl⟩) ?_
          refine js_Ss rfl rfl ⟨_, _, _, rfl, rfl, rfl⟩ ?_
          refine js_Rs rfl rfl ⟨_, _, _, rfl, rfl, rfl⟩ ?_
          refine js_Ss rfl rfl ⟨_, _, _, rfl, rfl, rfl⟩ ?_
          refine js_Ss rfl rfl ⟨_, _, _, rfl, rfl, rfl⟩ ?_
          refine js_Ss rfl rfl ⟨_, _, _, rfl, rfl, rfl⟩ ?_
          refine js_Ss rfl rfl ⟨_, _, _, rfl, rfl, rfl⟩ ?_
          refine js_Rs rfl rfl ⟨_, _, _, rfl, rfl, rfl⟩ ?_
          refine js_Ss rfl rfl ⟨_, _, _, rfl, rfl, rfl⟩ ?_
          refine js_Rs rfl rfl ⟨_, _, _, rfl, rfl, rfl⟩ ?_
          refine js_Os rfl rfl ⟨_, _, _, rfl, rfl, rfl⟩ ?_
          refine js_S rfl rfl (.inl rfl) (xv_pick rfl rfl ⟨rfl, rfl⟩) ?_
          refine j_end0 ?_
          refine th_n ?_
          refine xc_true rfl ?_
          refine xc_region ?_
          refine xr_op rfl rfl (xv_move rfl ?_)
          refine xr_op rfl rfl (xv_add rfl rfl (wrap_i64 (by (first|omega|(dsimp only at *;omega)|(simp at *;omega))) (by (first|omega|(dsimp only at *;omega)|(simp at *;omega)))) ?_)
          refine xr_op rfl rfl (xv_assign rfl ?_)
          refine xr_end rfl ?_
          refine bk_n ?_
          refine th_n ?_
          refine xc_region ?_
          refine xr_op rfl rfl (xv_move rfl ?_)
          refine xr_op rfl rfl (xv_add rfl rfl (wrap_i64 (by (first|omega|(dsimp only at *;omega)|(simp at *;omega))) (by (first|omega|(dsimp only at *;omega)|(simp at *;omega)))) ?_)
          refine xr_op rfl rfl (xv_assign rfl ?_)
          refine xr_end rfl ?_
          have hst : opn (y.moves.take (k + 1)) = ((opn (y.moves.take k)).1 + 1, xo.hour) := by
            rw [opn_take hko]; unfold stepO
            first | (rw [if_pos (by (first|omega|(dsimp only at *;omega)|(simp at *;omega)))]; done) | (rw [if_neg (by (first|omega|(dsimp only at *;omega)|(simp at *;omega))), if_pos (by (first|omega|(dsimp only at *;omega)|(simp at *;omega)))]; done) | (rw [if_neg (by (first|omega|(dsimp only at *;omega)|(simp at *;omega))), if_neg (by (first|omega|(dsimp only at *;omega)|(simp at *;omega)))]; done)
          have hsi : ((opn (y.moves.take (k + 1))).1 : Int) - 1 = ((opn (y.moves.take k)).1 : Int) - 1 + 1 := by rw [hst]; push_cast; omega
          exact rnd (k + 1) (by (first|omega|(dsimp only at *;omega)|(simp at *;omega))) (by (first|omega|(dsimp only at *;omega)|(simp at *;omega))) (le_put (le_put (le_put (le_put (le_emp _) rfl) rfl) (by rw [hsi]; rfl)) rfl) (by (first|((repeat first|exact s_0|exact s_1|exact s_3|refine s_4 ?_|refine s_5 ?_|refine s_6 ?_|refine s_7 ?_);done)|((repeat first|exact s_0|exact s_1|exact s_3|refine s_4 ?_|refine s_5 ?_|refine s_6 ?_|refine s_8 ?_);done)))
        · refine js_S rfl rfl (.inl rfl) (xv_pick rfl rfl ⟨rfl, rfl⟩) ?_
          refine js_S rfl rfl (.inl rfl) (xv_move rfl ⟨rfl, rfl⟩) ?_
          refine js_S rfl rfl (.inr ⟨_, _, rfl, rfl⟩) (xv_faddr fl25_1 rfl ⟨rfl, rfl⟩) ?_
          refine js_R0 rfl rfl (.inr ⟨_, _, rfl, rfl⟩) (xv_load1 ty23 rfl rfl (by ((repeat first|exact z_0|assumption|refine z_1 ?_|(refine z_l ?_;(repeat first|exact z_0|assumption|refine z_1 ?_);done)|refine z_r ?_);done)) (by rfl) ⟨rfl, rfl⟩) ?_
          refine js_S rfl rfl (.inr ⟨_, _, rfl, rfl⟩) (xv_move rfl ⟨rfl, rfl⟩) ?_
          refine js_S rfl rfl (.inr ⟨_, _, rfl, rfl⟩) (xv_sub rfl rfl (wrap_i64 (by (first|omega|(dsimp only at *;omega)|(simp at *;omega))) (by (first|omega|(dsimp only at *;omega)|(simp at *;omega)))) ⟨rfl, rfl⟩) ?_
          refine js_S rfl rfl (.inr ⟨_, _, rfl, rfl⟩) (xv_ia (sz := 3) (j := (k - 1)) sl23 ty63 rfl (by rw [hap]; rfl) rfl (by omega) (by (first|omega|(dsimp only at *;omega)|(simp at *;omega))) (by (first|omega|(dsimp only at *;omega)|(simp at *;omega))) ⟨rfl, rfl⟩) ?_
          refine js_S rfl rfl (.inr ⟨_, _, rfl, rfl⟩) (xv_faddr fl63_0 rfl ⟨rfl, rfl⟩) ?_
          refine js_R0 rfl rfl (.inr ⟨_, _, rfl, rfl⟩) (xv_load1 ty3 rfl rfl (by ((repeat first|exact z_0|assumption|refine z_1 ?_|(refine z_l ?_;(repeat first|exact z_0|assumption|refine z_1 ?_);done)|refine z_r ?_);done)) (take_get (hxp (k - 1) xp hkp) (j := 0) rfl) ⟨rfl, rfl⟩) ?_
          refine js_S rfl rfl (.inr ⟨_, _, rfl, rfl⟩) (xv_faddr fl63_0 rfl ⟨rfl, rfl⟩) ?_
          refine js_R0 rfl rfl (.inr ⟨_, _, rfl, rfl⟩) (xv_load1 ty3 rfl rfl (by ((repeat first|exact z_0|assumption|refine z_1 ?_|(refine z_l ?_;(repeat first|exact z_0|assumption|refine z_1 ?_);done)|refine z_r ?_);done)) (by rfl) ⟨rfl, rfl⟩) ?_
          refine js_O0 rfl rfl (.inr ⟨_, _, rfl, rfl⟩) (xv_neq2 rfl rfl (fun hq => ?_) (fun hq => ?_))
          · refine js_S rfl rfl (.inl rfl) (xv_pick rfl rfl ⟨rfl, rfl⟩) ?_
            refine j_end0 ?_
            refine th_n ?_
            refine xc_true rfl ?_
            refine xc_region ?_
            refine xr_op rfl rfl (xv_move rfl ?_)
            refine xr_op rfl rfl (xv_add rfl rfl (wrap_i64 (by (first|omega|(dsimp only at *;omega)|(simp at *;omega))) (by (first|omega|(dsimp only at *;omega)|(simp at *;omega)))) ?_)
            refine xr_op rfl rfl (xv_assign rfl ?_)
            refine xr_end rfl ?_
            refine bk_n ?_
            refine th_n ?_
            refine xc_region ?_
            refine xr_op rfl rfl (xv_move rfl ?_)
            refine xr_op rfl rfl (xv_add rfl rfl (wrap_i64 (by (first|omega|(dsimp only at *;omega)|(simp at *;omega))) (by (first|omega|(dsimp only at *;omega)|(simp at *;omega)))) ?_)
            refine xr_op rfl rfl (xv_assign rfl ?_)
            refine xr_end rfl ?_
            have hst : opn (y.moves.take (k + 1)) = ((opn (y.moves.take k)).1 + 1, xo.hour) := by
              rw [opn_take hko]; unfold stepO
              first | (rw [if_pos (by (first|omega|(dsimp only at *;omega)|(simp at *;omega)))]; done) | (rw [if_neg (by (first|omega|(dsimp only at *;omega)|(simp at *;omega))), if_pos (by (first|omega|(dsimp only at *;omega)|(simp at *;omega)))]; done) | (rw [if_neg (by (first|omega|(dsimp only at *;omega)|(simp at *;omega))), if_neg (by (first|omega|(dsimp only at *;omega)|(simp at *;omega)))]; done)
            have hsi : ((opn (y.moves.take (k + 1))).1 : Int) - 1 = ((opn (y.moves.take k)).1 : Int) - 1 + 1 := by rw [hst]; push_cast; omega
            exact rnd (k + 1) (by (first|omega|(dsimp only at *;omega)|(simp at *;omega))) (by (first|omega|(dsimp only at *;omega)|(simp at *;omega))) (le_put (le_put (le_put (le_put (le_emp _) rfl) rfl) (by rw [hsi]; rfl)) rfl) (by (first|((repeat first|exact s_0|exact s_1|exact s_3|refine s_4 ?_|refine s_5 ?_|refine s_6 ?_|refine s_7 ?_);done)|((repeat first|exact s_0|exact s_1|exact s_3|refine s_4 ?_|refine s_5 ?_|refine s_6 ?_|refine s_8 ?_);done)))
          · refine js_S rfl rfl (.inl rfl) (xv_pick rfl rfl ⟨rfl, rfl⟩) ?_
            refine j_end0 ?_
            refine th_n ?_
            refine xc_false rfl ?_
            refine xc_skip ?_
            refine bk_n ?_
            refine th_n ?_
            refine xc_region ?_
            refine xr_op rfl rfl (xv_move rfl ?_)
            refine xr_op rfl rfl (xv_add rfl rfl (wrap_i64 (by (first|omega|(dsimp only at *;omega)|(simp at *;omega))) (by (first|omega|(dsimp only at *;omega)|(simp at *;omega)))) ?_)
            refine xr_op rfl rfl (xv_assign rfl ?_)
            refine xr_end rfl ?_
            have hst : opn (y.moves.take (k + 1)) = opn (y.moves.take k) := by
              rw [opn_take hko]; unfold stepO
              first | (rw [if_pos (by (first|omega|(dsimp only at *;omega)|(simp at *;omega)))]; done) | (rw [if_neg (by (first|omega|(dsimp only at *;omega)|(simp at *;omega))), if_pos (by (first|omega|(dsimp only at *;omega)|(simp at *;omega)))]; done) | (rw [if_neg (by (first|omega|(dsimp only at *;omega)|(simp at *;omega))), if_neg (by (first|omega|(dsimp only at *;omega)|(simp at *;omega)))]; done)
            have hsi : ((opn (y.moves.take (k + 1))).1 : Int) - 1 = ((opn (y.moves.take k)).1 : Int) - 1 := by rw [hst]
            exact rnd (k + 1) (by (first|omega|(dsimp only at *;omega)|(simp at *;omega))) (by (first|omega|(dsimp only at *;omega)|(simp at *;omega))) (le_put (le_put (le_put (le_put (le_emp _) rfl) rfl) (by rw [hsi]; rfl)) rfl) (by (first|((repeat first|exact s_0|exact s_1|exact s_3|refine s_4 ?_|refine s_5 ?_|refine s_6 ?_|refine s_7 ?_);done)|((repeat first|exact s_0|exact s_1|exact s_3|refine s_4 ?_|refine s_5 ?_|refine s_6 ?_|refine s_8 ?_);done)))
  · refine xr_end rfl ?_
    refine th_n ?_
    refine xc_false rfl ?_
    refine xc_exit ?_
    refine th_x ?_
    refine th_x ?_
    refine bk_same ?_
    refine th_n ?_
    refine xc_seq (xc_region ?_)
    obtain rfl : k = i + 1 := by (first|omega|(dsimp only at *;omega)|(simp at *;omega))
    refine xr_op rfl rfl (xv_move rfl ?_)
    refine xr_op rfl rfl (xv_assign rfl ?_)
    refine xr_end rfl ?_
    refine th_n ?_
    refine xc_ret ?_
    refine body_ret (h' := h) rfl (ro_tmp rfl ro_nil) (by (first|((repeat first|exact s_0|exact s_1|exact s_3|refine s_4 ?_|refine s_5 ?_|refine s_6 ?_|refine s_7 ?_);done)|((repeat first|exact s_0|exact s_1|exact s_3|refine s_4 ?_|refine s_5 ?_|refine s_6 ?_|refine s_8 ?_);done))) ?_
    exact H

end Go.Proofs.Ytpefpafijadfmaa

/-
  Walks.
-/
namespace Go.Proofs.Ytpefpafijadfmaa
open Go Go.H
set_option maxRecDepth 100000
set_option maxHeartbeats 8000000
set_option linter.all false
theorem Layers_c {y : Yard} {n : Nat} {h : Hp} {R : Ending → Hp → Prop} (hy : YardV h y) (hmv : movesOk n 0 y.moves) (hl : y.moves.length ≤ 1000) (H : R (.returned (I ((opn y.moves).1 : Int))) h) : ACalls Try.prog 38 ⟨[.agg ⟨eYard y⟩]⟩ h R := by
  refine calls_of_xc (N := 14) Try.func38 rfl (by rfl) ?_
  refine xc_seq (xc_region ?_)
  refine xr_op rfl rfl (xv_box rfl (fun b1 hb1 => ?_))
  refine xr_op rfl rfl (xv_assign rfl ?_)
  refine xr_end rfl ?_
  refine th_n ?_
  refine xc_seq ?_
  refine xc_seq (xc_region ?_)
  refine xr_op rfl rfl (xv_faddr fl25_1 rfl ?_)
  refine xr_op rfl rfl (xv_load1 ty23 rfl rfl (by ((repeat first|exact z_0|assumption|refine z_1 ?_|(refine z_l ?_;(repeat first|exact z_0|assumption|refine z_1 ?_);done)|refine z_r ?_);done)) (by rfl) ?_)
  refine xr_op rfl rfl (xv_len sl23 rfl ?_)
  refine xr_op rfl rfl (xv_eql2 rfl rfl (fun q1 => ?_) (fun q1 => ?_))
  · refine xr_end rfl ?_
    refine th_n ?_
    refine xc_true rfl ?_
    refine xc_seq (xc_region ?_)
    have e0 : ((opn y.moves).1 : Int) = 0 := by rw [List.length_eq_zero_iff.1 (show y.moves.length = 0 by (first|omega|(dsimp only at *;omega)|(simp at *;omega)))]; rfl
    refine xr_op rfl rfl (xv_assign rfl ?_)
    refine xr_end rfl ?_
    refine th_n ?_
    refine xc_ret ?_
    refine th_r ?_
    refine body_ret (h' := h) rfl (ro_tmp rfl ro_nil) (by (first|((repeat first|exact s_0|exact s_1|exact s_3|refine s_4 ?_|refine s_5 ?_|refine s_6 ?_|refine s_7 ?_);done)|((repeat first|exact s_0|exact s_1|exact s_3|refine s_4 ?_|refine s_5 ?_|refine s_6 ?_|refine s_8 ?_);done))) ?_
    first | exact H | (rw [e0] at H; exact H)
  · refine xr_end rfl ?_
    refine th_n ?_
    refine xc_false rfl ?_
    refine xc_skip ?_
    refine th_n ?_
    refine xc_seq (xc_region ?_)
    have hob := opn_le y.moves
    refine xr_op rfl rfl (xv_loadA ty25 rfl rfl (by ((repeat first|exact z_0|assumption|refine z_1 ?_|(refine z_l ?_;(repeat first|exact z_0|assumption|refine z_1 ?_);done)|refine z_r ?_);done)) (by ((try apply evl_some rfl);(repeat (first|exact (rfl : _ = [])|apply evl_cons rfl (by (first|exact v_1|exact v_2|exact v_3|exact v_4|exact v_5|exact v_6|exact v_7|exact v_8|exact v_9|exact rfl))|exact rfl)))) (by rfl) ?_)
    refine xr_op rfl rfl (xv_faddr fl25_1 rfl ?_)
    refine xr_op rfl rfl (xv_load1 ty23 rfl rfl (by ((repeat first|exact z_0|assumption|refine z_1 ?_|(refine z_l ?_;(repeat first|exact z_0|assumption|refine z_1 ?_);done)|refine z_r ?_);done)) (by rfl) ?_)
    refine xr_op rfl rfl (xv_len sl23 rfl ?_)
    refine xr_op rfl rfl (xv_sub rfl rfl (wrap_i64 (by (first|omega|(dsimp only at *;omega)|(simp at *;omega))) (by (first|omega|(dsimp only at *;omega)|(simp at *;omega)))) ?_)
    refine xr_op rfl rfl (xv_calls rfl hb50 (layer_c (i := y.moves.length - 1) (hy.sub (by intro z hz; ((repeat first|exact z_0|assumption|refine z_1 ?_|(refine z_l ?_;(repeat first|exact z_0|assumption|refine z_1 ?_);done)|refine z_r ?_);done))) hmv (by (first|omega|(dsimp only at *;omega)|(simp at *;omega))) (by (first|omega|(dsimp only at *;omega)|(simp at *;omega))) hl (up_ret ?_)))
    rw [show y.moves.length - 1 + 1 = y.moves.length by (first|omega|(dsimp only at *;omega)|(simp at *;omega)), List.take_length]
    refine xr_op rfl rfl (xv_add rfl rfl (wrap_i64 (by (first|omega|(dsimp only at *;omega)|(simp at *;omega))) (by (first|omega|(dsimp only at *;omega)|(simp at *;omega)))) ?_)
    rw [show (1 : Int) + (((opn y.moves).1 : Int) - 1) = (opn y.moves).1 by omega]
    refine xr_op rfl rfl (xv_assign rfl ?_)
    refine xr_end rfl ?_
    refine th_n ?_
    refine xc_ret ?_
    refine body_ret (h' := h) rfl (ro_tmp rfl ro_nil) (by (first|((repeat first|exact s_0|exact s_1|exact s_3|refine s_4 ?_|refine s_5 ?_|refine s_6 ?_|refine s_7 ?_);done)|((repeat first|exact s_0|exact s_1|exact s_3|refine s_4 ?_|refine s_5 ?_|refine s_6 ?_|refine s_8 ?_);done))) ?_
    first | exact H | (rw [e0] at H; exact H)

theorem rsum_c {a : Option Addr} {c : Nat} {xs : List Int} {h : Hp} {R : Ending → Hp → Prop} (hs : SlV h 1 eI a xs) (hlen : xs.length ≤ 1000) (hb : ∀ x ∈ xs, 0 ≤ x ∧ x ≤ 2000000000) (H : R (.returned (I (sumI xs))) h) : ACalls Try.prog 39 ⟨[.slice a xs.length c]⟩ h R := by
  refine calls_of_xc (N := 18) Try.func39 rfl (by rfl) ?_
  refine xc_seq (xc_region ?_)
  refine xr_op rfl rfl (xv_assign rfl ?_)
  refine xr_end rfl ?_
  refine th_n ?_
  refine xc_seq (xc_region ?_)
  refine xr_op rfl rfl (xv_assign rfl ?_)
  refine xr_end rfl ?_
  refine th_n ?_
  refine xc_seq ?_
  refine xc_seq (xc_region ?_)
  refine xr_op rfl rfl (xv_assign rfl ?_)
  refine xr_end rfl ?_
  refine th_n ?_
  refine xc_block ?_
  refine xc_loop (σ := Nat) (fun k => k ≤ xs.length) (fun k => (((emp.put (some 0) (.slice a xs.length c)).put (some 3) (I (sumI (xs.take k)))).put (some 4) (I k))) (fun k => h) (fun k => xs.length - k) 0 (Nat.zero_le _) (le_put (le_put (le_put (le_emp _) rfl) rfl) rfl) (by (first|((repeat first|exact s_0|exact s_1|exact s_3|refine s_4 ?_|refine s_5 ?_|refine s_6 ?_|refine s_7 ?_);done)|((repeat first|exact s_0|exact s_1|exact s_3|refine s_4 ?_|refine s_5 ?_|refine s_6 ?_|refine s_8 ?_);done))) ?_
  rintro k hk
  refine xc_seq ?_
  refine xc_seq (xc_region ?_)
  refine xr_op rfl rfl (xv_move rfl ?_)
  refine xr_op rfl rfl (xv_move rfl ?_)
  refine xr_op rfl rfl (xv_len sl38 rfl ?_)
  refine xr_op rfl rfl (xv_lss2 rfl rfl (fun q1 => ?_) (fun q1 => ?_))
  · refine xr_end rfl ?_
    refine th_n ?_
    refine xc_true rfl ?_
    refine xc_skip ?_
    refine th_n ?_
    refine xc_seq ?_
    refine xc_block ?_
    refine xc_region ?_
    refine xr_op rfl rfl (xv_move rfl ?_)
    refine xr_op rfl rfl (xv_move rfl ?_)
    refine xr_op rfl rfl (xv_move rfl ?_)
    have hlto : k < xs.length := by (first|omega|(dsimp only at *;omega)|(simp at *;omega))
    obtain ⟨bo, oo, lo, to, fzo, hao, hmo, hxo⟩ := (hs).at hlto
    obtain ⟨xo, hko⟩ : ∃ qq_, xs[k]? = some qq_ := ⟨_, List.getElem?_eq_getElem hlto⟩
    have hxb := hb xo (List.mem_of_getElem? hko)
    have hsb := sumI_bd (l := xs.take k) (fun x hx => hb x (List.mem_of_mem_take hx))
    rw [List.length_take, Nat.min_eq_left hk] at hsb
    refine xr_op rfl rfl (xv_ia (sz := 1) (j := k) sl38 ty3 rfl (by rw [hao]; rfl) rfl (by (first | assumption | with_reducible exact Int.toNat_natCast _ | with_reducible rfl | rfl)) (by (first|omega|(dsimp only at *;omega)|(simp at *;omega))) (by (first|omega|(dsimp only at *;omega)|(simp at *;omega))) ?_)
    refine xr_op rfl rfl (xv_load1 ty3 rfl rfl (by ((repeat first|exact z_0|assumption|refine z_1 ?_|(refine z_l ?_;(repeat first|exact z_0|assumption|refine z_1 ?_);done)|refine z_r ?_);done)) (take_get (hxo (k) xo hko) (j := 0) rfl) ?_)
    refine xr_op rfl rfl (xv_add rfl rfl (wrap_i64 (by (first|omega|(dsimp only at *;omega)|(simp at *;omega))) (by (first|omega|(dsimp only at *;omega)|(simp at *;omega)))) ?_)
    refine xr_op rfl rfl (xv_assign rfl ?_)
    refine xr_end rfl ?_
    refine bk_n ?_
    refine th_n ?_
    refine xc_region ?_
    refine xr_op rfl rfl (xv_move rfl ?_)
    refine xr_op rfl rfl (xv_add rfl rfl (wrap_i64 (by (first|omega|(dsimp only at *;omega)|(simp at *;omega))) (by (first|omega|(dsimp only at *;omega)|(simp at *;omega)))) ?_)
    refine xr_op rfl rfl (xv_assign rfl ?_)
    refine xr_end rfl ?_
    exact rnd (k + 1) (by (first|omega|(dsimp only at *;omega)|(simp at *;omega))) (by (first|omega|(dsimp only at *;omega)|(simp at *;omega))) (le_put (le_put (le_put (le_emp _) rfl) (by rw [sumI_take hko]; rfl)) rfl) (by (first|((repeat first|exact s_0|exact s_1|exact s_3|refine s_4 ?_|refine s_5 ?_|refine s_6 ?_|refine s_7 ?_);done)|((repeat first|exact s_0|exact s_1|exact s_3|refine s_4 ?_|refine s_5 ?_|refine s_6 ?_|refine s_8 ?_);done)))
  · refine xr_end rfl ?_
    refine th_n ?_
    refine xc_false rfl ?_
    refine xc_exit ?_
    refine th_x ?_
    refine th_x ?_
    refine bk_same ?_
    refine th_n ?_
    refine xc_seq (xc_region ?_)
    obtain rfl : k = xs.length := by (first|omega|(dsimp only at *;omega)|(simp at *;omega))
    rw [List.take_length]
    refine xr_op rfl rfl (xv_move rfl ?_)
    refine xr_op rfl rfl (xv_assign rfl ?_)
    refine xr_end rfl ?_
    refine th_n ?_
    refine xc_ret ?_
    refine body_ret (h' := h) rfl (ro_tmp rfl ro_nil) (by (first|((repeat first|exact s_0|exact s_1|exact s_3|refine s_4 ?_|refine s_5 ?_|refine s_6 ?_|refine s_7 ?_);done)|((repeat first|exact s_0|exact s_1|exact s_3|refine s_4 ?_|refine s_5 ?_|refine s_6 ?_|refine s_8 ?_);done))) ?_
    exact H

theorem Contents_c {y : Yard} {h : Hp} {R : Ending → Hp → Prop} (hy : YardV h y) {j : Int} {upto : Nat} (hmv : movesOk y.coals.length 0 y.moves) (hcl : y.coals.length ≤ 1000) (hl : y.moves.length ≤ 1000) (hu : upto ≤ y.moves.length)
    (H : ∀ b, R (.returned (.slice (some ⟨b, 0, none⟩) y.coals.length y.coals.length)) ((b, .cells ⟨(contF y.coals.length (y.moves.take upto) j).flatMap eI⟩ 3) :: h)) : ACalls Try.prog 20 ⟨[.agg ⟨eYard y⟩, I j, I (upto : Int)]⟩ h R := by
  refine calls_of_xc (N := 47) Try.func20 rfl (by rfl) ?_
  refine xc_seq (xc_region ?_)
  refine xr_op rfl rfl (xv_box rfl (fun b3 hb3 => ?_))
  refine xr_op rfl rfl (xv_assign rfl ?_)
  refine xr_end rfl ?_
  refine th_n ?_
  refine xc_seq (xc_region ?_)
  refine xr_op rfl rfl (xv_faddr fl25_0 rfl ?_)
  refine xr_op rfl rfl (xv_load1 ty22 rfl rfl (by ((repeat first|exact z_0|assumption|refine z_1 ?_|(refine z_l ?_;(repeat first|exact z_0|assumption|refine z_1 ?_);done)|refine z_r ?_);done)) (by rfl) ?_)
  refine xr_op rfl rfl (xv_len sl22 rfl ?_)
  refine xr_op rfl rfl (xv_make (l := (contF y.coals.length (y.moves.take 0) j).flatMap eI) sl38 ty3 rfl rfl (by (first|omega|(dsimp only at *;omega)|(simp at *;omega))) (by simp only []; (first|omega|(dsimp only at *;omega)|(simp at *;omega))) (by simp only []; (first|omega|(dsimp only at *;omega)|(simp at *;omega))) (make_ints _) (fun b13 hb13 => ?_))
  refine xr_op rfl rfl (xv_assign rfl ?_)
  refine xr_end rfl ?_
  refine th_n ?_
  refine xc_seq ?_
  refine xc_seq (xc_region ?_)
  refine xr_op rfl rfl (xv_assign rfl ?_)
  refine xr_end rfl ?_
  refine th_n ?_
  refine xc_block ?_
  refine xc_loop (σ := Nat) (fun k => k ≤ upto) (fun k => (((((emp.put (some 1) (I j)).put (some 2) (I (upto : Int))).put (some 3) (.pointer (some ⟨b3, 0, none⟩))).put (some 7) (.slice (some ⟨b13, 0, none⟩) y.coals.length y.coals.length)).put (some 8) (I k))) (fun k => ((b13, .cells ⟨(contF y.coals.length (y.moves.take k) j).flatMap eI⟩ 3) :: (b3, .cells ⟨eYard y⟩ 25) :: h)) (fun k => upto - k) 0 (Nat.zero_le _) (le_put (le_put (le_put (le_put (le_put (le_emp _) rfl) rfl) rfl) rfl) rfl) (by (first|((repeat first|exact s_0|exact s_1|exact s_3|refine s_4 ?_|refine s_5 ?_|refine s_6 ?_|refine s_7 ?_);done)|((repeat first|exact s_0|exact s_1|exact s_3|refine s_4 ?_|refine s_5 ?_|refine s_6 ?_|refine s_8 ?_);done))) ?_
  rintro k hk
  refine xc_seq ?_
  refine xc_seq (xc_region ?_)
  refine xr_op rfl rfl (xv_move rfl ?_)
  refine xr_op rfl rfl (xv_move rfl ?_)
  refine xr_op rfl rfl (xv_lss2 rfl rfl (fun q1 => ?_) (fun q1 => ?_))
  · refine xr_end rfl ?_
    refine th_n ?_
    refine xc_true rfl ?_
    refine xc_skip ?_
    refine th_n ?_
    refine xc_seq ?_
    refine xc_block ?_
    refine xc_seq (xc_region ?_)
    refine xr_op rfl rfl (xv_faddr fl25_1 rfl ?_)
    refine xr_op rfl rfl (xv_load1 ty23 rfl rfl (by ((repeat first|exact z_0|assumption|refine z_1 ?_|(refine z_l ?_;(repeat first|exact z_0|assumption|refine z_1 ?_);done)|refine z_r ?_);done)) (by rfl) ?_)
    refine xr_op rfl rfl (xv_move rfl ?_)
    have hlto : k < y.moves.length := by (first|omega|(dsimp only at *;omega)|(simp at *;omega))
    obtain ⟨bo, oo, lo, to, fzo, hao, hmo, hxo⟩ := (hy.moves).at hlto
    obtain ⟨xo, hko⟩ : ∃ qq_, y.moves[k]? = some qq_ := ⟨_, List.getElem?_eq_getElem hlto⟩
    obtain ⟨⟨m1, m2⟩, ⟨m3, m4⟩, m5, m6⟩ := movesOk_at hmv hko
    have hcl2 := contF_len y.coals.length (y.moves.take k) j
    have hcb := contF_bd (j := j) (movesOk_mono k hmv)
    refine xr_op rfl rfl (xv_ia (sz := 3) (j := k) sl23 ty63 rfl (by rw [hao]; rfl) rfl (by (first | assumption | with_reducible exact Int.toNat_natCast _ | with_reducible rfl | rfl)) (by (first|omega|(dsimp only at *;omega)|(simp at *;omega))) (by (first|omega|(dsimp only at *;omega)|(simp at *;omega))) ?_)
    refine xr_op rfl rfl (xv_loadA ty63 rfl rfl (by ((repeat first|exact z_0|assumption|refine z_1 ?_|(refine z_l ?_;(repeat first|exact z_0|assumption|refine z_1 ?_);done)|refine z_r ?_);done)) (hxo (k) xo hko) rfl ?_)
    refine xr_op rfl rfl (xv_alloc ty63 (fun b9 hb9 => ?_))
    refine xr_op rfl rfl (xv_s ty63 rfl rfl (by (first|(apply u_3;(repeat first|exact u_0|assumption|apply u_1|apply u_2);done)|((repeat first|exact u_0|assumption|apply u_1|apply u_2);done)|(apply u_3;apply u_3;(repeat first|exact u_0|assumption|apply u_1|apply u_2);done)|((repeat first|exact u_0|assumption|apply u_3|apply u_1);done))) (by ((try apply evl_some rfl);(repeat (first|exact (rfl : _ = [])|apply evl_cons rfl (by (first|exact v_1|exact v_2|exact v_3|exact v_4|exact v_5|exact v_6|exact v_7|exact v_8|exact v_9|exact rfl))|exact rfl)))) (by rfl) (by rfl) (by rfl) (by ((try apply evl_some rfl);(repeat (first|exact (rfl : _ = [])|apply evl_cons rfl (by (first|exact v_1|exact v_2|exact v_3|exact v_4|exact v_5|exact v_6|exact v_7|exact v_8|exact v_9|exact rfl))|exact rfl)))) ?_)
    refine xr_end rfl ?_
    refine th_n ?_
    refine xc_seq (xc_region ?_)
    refine xr_op rfl rfl (xv_faddr fl63_1 rfl ?_)
    refine xr_op rfl rfl (xv_load1 ty3 rfl rfl (by ((repeat first|exact z_0|assumption|refine z_1 ?_|(refine z_l ?_;(repeat first|exact z_0|assumption|refine z_1 ?_);done)|refine z_r ?_);done)) (by rfl) ?_)
    refine xr_op rfl rfl (xv_neq2 rfl rfl (fun q2 => ?_) (fun q2 => ?_))
    · refine xr_op rfl rfl (xv_move rfl ?_)
      refine xr_gd rfl rfl rfl (xv_loadA ty25 rfl rfl (by ((repeat first|exact z_0|assumption|refine z_1 ?_|(refine z_l ?_;(repeat first|exact z_0|assumption|refine z_1 ?_);done)|refine z_r ?_);done)) (by ((try apply evl_some rfl);(repeat (first|exact (rfl : _ = [])|apply evl_cons rfl (by (first|exact v_1|exact v_2|exact v_3|exact v_4|exact v_5|exact v_6|exact v_7|exact v_8|exact v_9|exact rfl))|exact rfl)))) (by rfl) ?_)
      refine xr_gd rfl rfl rfl (xv_move rfl ?_)
      refine xr_gd rfl rfl rfl (xv_calls rfl hb50 (layer_c (i := k) (hy.sub (by intro z hz; ((repeat first|exact z_0|assumption|refine z_1 ?_|(refine z_l ?_;(repeat first|exact z_0|assumption|refine z_1 ?_);done)|refine z_r ?_);done))) hmv rfl (by (first|omega|(dsimp only at *;omega)|(simp at *;omega))) hl (up_ret ?_)))
      refine xr_gd rfl rfl rfl (xv_move rfl ?_)
      refine xr_gd rfl rfl rfl (xv_eql2 rfl rfl (fun q3 => ?_) (fun q3 => ?_))
      · refine xr_op rfl rfl (xv_pick rfl rfl ?_)
        refine xr_end rfl ?_
        refine th_n ?_
        refine xc_true rfl ?_
        refine xc_draw0 [(0, .S), (1, .S), (2, .R), (3, .S), (4, .S), (5, .R), (6, .S), (7, .R), (8, .S), (9, .R), (10, .S), (11, .S), (12, .O)] mixed (by kernel_rfl) ?_
        obtain ⟨v, hkv⟩ : ∃ v, (contF y.coals.length (y.moves.take k) j)[xo.coal.toNat]? = some v := ⟨_, List.getElem?_eq_getElem (by (first|omega|(dsimp only at *;omega)|(simp at *;omega)))⟩
        have hgd : (contF y.coals.length (y.moves.take k) j).getD xo.coal.toNat 0 = v := by rw [List.getD_eq_getElem?_getD, hkv]; rfl
        have hvb := hcb v (List.mem_of_getElem? hkv)
        rw [List.length_take] at hvb
        refine js_S rfl rfl (.inl rfl) (xv_move rfl ⟨rfl, rfl⟩) ?_
        refine js_S rfl rfl (.inl rfl) (xv_faddr fl63_1 rfl ⟨rfl, rfl⟩) ?_
        refine js_R0 rfl rfl (.inl rfl) (xv_load1 ty3 rfl rfl (by ((repeat first|exact z_0|assumption|refine z_1 ?_|(refine z_l ?_;(repeat first|exact z_0|assumption|refine z_1 ?_);done)|refine z_r ?_);done)) (by rfl) ⟨rfl, rfl⟩) ?_
        refine js_S rfl rfl (.inl rfl) (xv_move rfl ⟨rfl, rfl⟩) ?_
        refine js_S rfl rfl (.inl rfl) (xv_faddr fl63_1 rfl ⟨rfl, rfl⟩) ?_
        refine js_R0 rfl rfl (.inl rfl) (xv_load1 ty3 rfl rfl (by ((repeat first|exact z_0|assumption|refine z_1 ?_|(refine z_l ?_;(repeat first|exact z_0|assumption|refine z_1 ?_);done)|refine z_r ?_);done)) (by rfl) ⟨rfl, rfl⟩) ?_
        refine js_S rfl rfl (.inl rfl) (xv_ia (sz := 1) (j := xo.coal.toNat) sl38 ty3 rfl rfl rfl (by omega) (by (first|omega|(dsimp only at *;omega)|(simp at *;omega))) (by (first|omega|(dsimp only at *;omega)|(simp at *;omega))) ⟨rfl, rfl⟩) ?_
        refine js_R0 rfl rfl (.inl rfl) (xv_load1 ty3 rfl rfl (by ((repeat first|exact z_0|assumption|refine z_1 ?_|(refine z_l ?_;(repeat first|exact z_0|assumption|refine z_1 ?_);done)|refine z_r ?_);done)) (ints_get hkv) ⟨rfl, rfl⟩) ?_
        refine js_S rfl rfl (.inl rfl) (xv_faddr fl63_2 rfl ⟨rfl, rfl⟩) ?_
        refine js_R0 rfl rfl (.inl rfl) (xv_load1 ty3 rfl rfl (by ((repeat first|exact z_0|assumption|refine z_1 ?_|(refine z_l ?_;(repeat first|exact z_0|assumption|refine z_1 ?_);done)|refine z_r ?_);done)) (by rfl) ⟨rfl, rfl⟩) ?_
        refine js_S rfl rfl (.inl rfl) (xv_add rfl rfl (wrap_i64 (by (first|omega|(dsimp only at *;omega)|(simp at *;omega))) (by (first|omega|(dsimp only at *;omega)|(simp at *;omega)))) ⟨rfl, rfl⟩) ?_
        refine js_S rfl rfl (.inl rfl) (xv_ia (sz := 1) (j := xo.coal.toNat) sl38 ty3 rfl rfl rfl (by omega) (by (first|omega|(dsimp only at *;omega)|(simp at *;omega))) (by (first|omega|(dsimp only at *;omega)|(simp at *;omega))) ⟨rfl, rfl⟩) ?_
        refine js_O0 rfl rfl (.inl rfl) (xv_s1 (l := (contF y.coals.length (y.moves.take k) j).flatMap eI) (l' := ((contF y.coals.length (y.moves.take k) j).set xo.coal.toNat ((contF y.coals.length (y.moves.take k) j).getD xo.coal.toNat 0 + xo.tons)).flatMap eI) ty3 rfl rfl rfl (by (first|(apply u_3;(repeat first|exact u_0|assumption|apply u_1|apply u_2);done)|((repeat first|exact u_0|assumption|apply u_1|apply u_2);done)|(apply u_3;apply u_3;(repeat first|exact u_0|assumption|apply u_1|apply u_2);done)|((repeat first|exact u_0|assumption|apply u_3|apply u_1);done))) rfl (by rw [ints_len]; (first|omega|(dsimp only at *;omega)|(simp at *;omega))) (by rw [hgd]; exact ints_setN (by (first|omega|(dsimp only at *;omega)|(simp at *;omega)))) ?_)
        refine j_end0 ?_
        refine bk_n ?_
        refine th_n ?_
        refine xc_region ?_
        refine xr_op rfl rfl (xv_move rfl ?_)
        refine xr_op rfl rfl (xv_add rfl rfl (wrap_i64 (by (first|omega|(dsimp only at *;omega)|(simp at *;omega))) (by (first|omega|(dsimp only at *;omega)|(simp at *;omega)))) ?_)
        refine xr_op rfl rfl (xv_assign rfl ?_)
        refine xr_end rfl ?_
        have hcn : (contF y.coals.length (y.moves.take (k + 1)) j) = (contF y.coals.length (y.moves.take k) j).set xo.coal.toNat ((contF y.coals.length (y.moves.take k) j).getD xo.coal.toNat 0 + xo.tons) := by rw [contF_take hko]; first | exact if_pos ⟨by (first|omega|(dsimp only at *;omega)|(simp at *;omega)), by (first|omega|(dsimp only at *;omega)|(simp at *;omega))⟩ | exact if_neg (fun hq9 => by omega)
        exact rnd (k + 1) (by (first|omega|(dsimp only at *;omega)|(simp at *;omega))) (by (first|omega|(dsimp only at *;omega)|(simp at *;omega))) (le_put (le_put (le_put (le_put (le_put (le_emp _) rfl) rfl) rfl) rfl) rfl) (by rw [hcn]; (first|((repeat first|exact s_0|exact s_1|exact s_3|refine s_4 ?_|refine s_5 ?_|refine s_6 ?_|refine s_7 ?_);done)|((repeat first|exact s_0|exact s_1|exact s_3|refine s_4 ?_|refine s_5 ?_|refine s_6 ?_|refine s_8 ?_);done)))
      · refine xr_op rfl rfl (xv_pick rfl rfl ?_)
        refine xr_end rfl ?_
        refine th_n ?_
        refine xc_false rfl ?_
        refine xc_skip ?_
        refine bk_n ?_
        refine th_n ?_
        refine xc_region ?_
        refine xr_op rfl rfl (xv_move rfl ?_)
        refine xr_op rfl rfl (xv_add rfl rfl (wrap_i64 (by (first|omega|(dsimp only at *;omega)|(simp at *;omega))) (by (first|omega|(dsimp only at *;omega)|(simp at *;omega)))) ?_)
        refine xr_op rfl rfl (xv_assign rfl ?_)
        refine xr_end rfl ?_
        have hcn : (contF y.coals.length (y.moves.take (k + 1)) j) = (contF y.coals.length (y.moves.take k) j) := by rw [contF_take hko]; first | exact if_pos ⟨by (first|omega|(dsimp only at *;omega)|(simp at *;omega)), by (first|omega|(dsimp only at *;omega)|(simp at *;omega))⟩ | exact if_neg (fun hq9 => by omega)
        exact rnd (k + 1) (by (first|omega|(dsimp only at *;omega)|(simp at *;omega))) (by (first|omega|(dsimp only at *;omega)|(simp at *;omega))) (le_put (le_put (le_put (le_put (le_put (le_emp _) rfl) rfl) rfl) rfl) rfl) (by rw [hcn]; (first|((repeat first|exact s_0|exact s_1|exact s_3|refine s_4 ?_|refine s_5 ?_|refine s_6 ?_|refine s_7 ?_);done)|((repeat first|exact s_0|exact s_1|exact s_3|refine s_4 ?_|refine s_5 ?_|refine s_6 ?_|refine s_8 ?_);done)))
    · refine xr_op rfl rfl (xv_move rfl ?_)
      refine xr_no rfl rfl rfl rfl ?_
      refine xr_no rfl rfl rfl rfl ?_
      refine xr_no rfl rfl rfl rfl ?_
      refine xr_no rfl rfl rfl rfl ?_
      refine xr_no rfl rfl rfl rfl ?_
      refine xr_op rfl rfl (xv_pick rfl rfl ?_)
      refine xr_end rfl ?_
      refine th_n ?_
      refine xc_false rfl ?_
      refine xc_skip ?_
      refine bk_n ?_
      refine th_n ?_
      refine xc_region ?_
      refine xr_op rfl rfl (xv_move rfl ?_)
      refine xr_op rfl rfl (xv_add rfl rfl (wrap_i64 (by (first|omega|(dsimp only at *;omega)|(simp at *;omega))) (by (first|omega|(dsimp only at *;omega)|(simp at *;omega)))) ?_)
      refine xr_op rfl rfl (xv_assign rfl ?_)
      refine xr_end rfl ?_
      have hcn : (contF y.coals.length (y.moves.take (k + 1)) j) = (contF y.coals.length (y.moves.take k) j) := by rw [contF_take hko]; first | exact if_pos ⟨by (first|omega|(dsimp only at *;omega)|(simp at *;omega)), by (first|omega|(dsimp only at *;omega)|(simp at *;omega))⟩ | exact if_neg (fun hq9 => by omega)
      exact rnd (k + 1) (by (first|omega|(dsimp only at *;omega)|(simp at *;omega))) (by (first|omega|(dsimp only at *;omega)|(simp at *;omega))) (le_put (le_put (le_put (le_put (le_put (le_emp _) rfl) rfl) rfl) rfl) rfl) (by rw [hcn]; (first|((repeat first|exact s_0|exact s_1|exact s_3|refine s_4 ?_|refine s_5 ?_|refine s_6 ?_|refine s_7 ?_);done)|((repeat first|exact s_0|exact s_1|exact s_3|refine s_4 ?_|refine s_5 ?_|refine s_6 ?_|refine s_8 ?_);done)))
  · refine xr_end rfl ?_
    refine th_n ?_
    refine xc_false rfl ?_
    refine xc_exit ?_
    refine th_x ?_
    refine th_x ?_
    refine bk_same ?_
    refine th_n ?_
    refine xc_seq (xc_region ?_)
    obtain rfl : upto = k := by (first|omega|(dsimp only at *;omega)|(simp at *;omega))
    refine xr_op rfl rfl (xv_move rfl ?_)
    refine xr_op rfl rfl (xv_assign rfl ?_)
    refine xr_end rfl ?_
    refine th_n ?_
    refine xc_ret ?_
    refine body_ret (h' := ((b13, .cells ⟨(contF y.coals.length (y.moves.take upto) j).flatMap eI⟩ 3) :: h)) rfl (ro_tmp rfl ro_nil) (by (first|((repeat first|exact s_0|exact s_1|exact s_3|refine s_4 ?_|refine s_5 ?_|refine s_6 ?_|refine s_7 ?_);done)|((repeat first|exact s_0|exact s_1|exact s_3|refine s_4 ?_|refine s_5 ?_|refine s_6 ?_|refine s_8 ?_);done))) ?_
    exact H b13

theorem Spans_c {a a2 : Option Addr} {c c2 : Nat} {xs ys : List Span} {h : Hp} {R : Ending → Hp → Prop} (hs : SlV h 2 eSpan a xs) (hs2 : SlV h 2 eSpan a2 ys) (hl : xs.length ≤ 1000000) (hl2 : ys.length ≤ 4611686018427387904)
    (H : R (.returned (.bool (decide (xs = ys)))) h) :
    ACalls Try.prog 15 ⟨[.slice a xs.length c, .slice a2 ys.length c2]⟩ h R := by
  refine calls_of_xc (N := 26) Try.func15 rfl (by rfl) ?_
  refine xc_seq (xc_region ?_)
  refine xr_op rfl rfl (xv_assign rfl ?_)
  refine xr_end rfl ?_
  refine th_n ?_
  refine xc_seq ?_
  refine xc_seq (xc_region ?_)
  refine xr_op rfl rfl (xv_move rfl ?_)
  refine xr_op rfl rfl (xv_len sl28 rfl ?_)
  refine xr_op rfl rfl (xv_move rfl ?_)
  refine xr_op rfl rfl (xv_len sl28 rfl ?_)
  refine xr_op rfl rfl (xv_neq2 rfl rfl (fun q1 => ?_) (fun q1 => ?_))
  · refine xr_end rfl ?_
    refine th_n ?_
    refine xc_true rfl ?_
    refine xc_seq (xc_region ?_)
    refine xr_op rfl rfl (xv_assign rfl ?_)
    refine xr_end rfl ?_
    refine th_n ?_
    refine xc_ret ?_
    refine th_r ?_
    refine body_ret (h' := h) rfl (ro_tmp rfl ro_nil) (by (first|((repeat first|exact s_0|exact s_1|exact s_3|refine s_4 ?_|refine s_5 ?_|refine s_6 ?_|refine s_7 ?_);done)|((repeat first|exact s_0|exact s_1|exact s_3|refine s_4 ?_|refine s_5 ?_|refine s_6 ?_|refine s_8 ?_);done))) ?_
    first | (rw [decide_eq_true hxy] at H; exact H) | (rw [decide_eq_false hne] at H; exact H) | (rw [decide_eq_false (fun hq => by subst hq; omega)] at H; exact H)
  · refine xr_end rfl ?_
    refine th_n ?_
    refine xc_false rfl ?_
    refine xc_skip ?_
    refine th_n ?_
    refine xc_seq ?_
    refine xc_seq (xc_region ?_)
    refine xr_op rfl rfl (xv_assign rfl ?_)
    refine xr_end rfl ?_
    refine th_n ?_
    refine xc_block ?_
    have hle : xs.length = ys.length := by (first|omega|(dsimp only at *;omega)|(simp at *;omega))
    refine xc_loop (σ := Nat) (fun k => k ≤ xs.length ∧ xs.take k = ys.take k) (fun k => (((emp.put (some 0) (.slice a xs.length c)).put (some 1) (.slice a2 ys.length c2)).put (some 5) (I k))) (fun k => h) (fun k => xs.length - k) 0 ⟨Nat.zero_le _, rfl⟩ (le_put (le_put (le_put (le_emp _) rfl) rfl) rfl) (by (first|((repeat first|exact s_0|exact s_1|exact s_3|refine s_4 ?_|refine s_5 ?_|refine s_6 ?_|refine s_7 ?_);done)|((repeat first|exact s_0|exact s_1|exact s_3|refine s_4 ?_|refine s_5 ?_|refine s_6 ?_|refine s_8 ?_);done))) ?_
    rintro k ⟨hk, hall⟩
    refine xc_seq ?_
    refine xc_seq (xc_region ?_)
    refine xr_op rfl rfl (xv_move rfl ?_)
    refine xr_op rfl rfl (xv_move rfl ?_)
    refine xr_op rfl rfl (xv_len sl28 rfl ?_)
    refine xr_op rfl rfl (xv_lss2 rfl rfl (fun q2 => ?_) (fun q2 => ?_))
    · refine xr_end rfl ?_
      refine th_n ?_
      refine xc_true rfl ?_
      refine xc_skip ?_
      refine th_n ?_
      refine xc_seq ?_
      refine xc_block ?_
      refine xc_seq ?_
      refine xc_draw0 [(0, .S), (1, .S), (2, .S), (3, .R), (4, .S), (5, .S), (6, .S), (7, .R), (8, .S)] mixed (by kernel_rfl) ?_
      have hlto : k < xs.length := by (first|omega|(dsimp only at *;omega)|(simp at *;omega))
      obtain ⟨bo, oo, lo, to, fzo, hao, hmo, hxo⟩ := (hs).at hlto
      obtain ⟨xo, hko⟩ : ∃ qq_, xs[k]? = some qq_ := ⟨_, List.getElem?_eq_getElem hlto⟩
      have hltp : k < ys.length := by (first|omega|(dsimp only at *;omega)|(simp at *;omega))
      obtain ⟨bp, op, lp, tp, fzp, hap, hmp, hxp⟩ := (hs2).at hltp
      obtain ⟨xp, hkp⟩ : ∃ qq_, ys[k]? = some qq_ := ⟨_, List.getElem?_eq_getElem hltp⟩
      refine js_S rfl rfl (.inl rfl) (xv_move rfl ⟨rfl, rfl⟩) ?_
      refine js_S rfl rfl (.inl rfl) (xv_move rfl ⟨rfl, rfl⟩) ?_
      refine js_S rfl rfl (.inl rfl) (xv_ia (sz := 2) (j := k) sl28 ty33 rfl (by rw [hao]; rfl) rfl (by (first | assumption | with_reducible exact Int.toNat_natCast _ | with_reducible rfl | rfl)) (by (first|omega|(dsimp only at *;omega)|(simp at *;omega))) (by (first|omega|(dsimp only at *;omega)|(simp at *;omega))) ⟨rfl, rfl⟩) ?_
      refine js_R0 rfl rfl (.inl rfl) (xv_loadA ty33 rfl rfl (by ((repeat first|exact z_0|assumption|refine z_1 ?_|(refine z_l ?_;(repeat first|exact z_0|assumption|refine z_1 ?_);done)|refine z_r ?_);done)) (hxo (k) xo hko) rfl ⟨rfl, rfl⟩) ?_
      refine js_S rfl rfl (.inl rfl) (xv_move rfl ⟨rfl, rfl⟩) ?_
      refine js_S rfl rfl (.inl rfl) (xv_move rfl ⟨rfl, rfl⟩) ?_
      refine js_S rfl rfl (.inl rfl) (xv_ia (sz := 2) (j := k) sl28 ty33 rfl (by rw [hap]; rfl) rfl (by (first | assumption | with_reducible exact Int.toNat_natCast _ | with_reducible rfl | rfl)) (by (first|omega|(dsimp only at *;omega)|(simp at *;omega))) (by (first|omega|(dsimp only at *;omega)|(simp at *;omega))) ⟨rfl, rfl⟩) ?_
      refine js_R0 rfl rfl (.inl rfl) (xv_loadA ty33 rfl rfl (by ((repeat first|exact z_0|assumption|refine z_1 ?_|(refine z_l ?_;(repeat first|exact z_0|assumption|refine z_1 ?_);done)|refine z_r ?_);done)) (hxp (k) xp hkp) rfl ⟨rfl, rfl⟩) ?_
      refine js_S rfl rfl (.inl rfl) (xv_neA (b := !decide (xo = xp)) fq33 rfl eg33 rfl rfl rfl rfl (by ((repeat' first | assumption | exact numNil | refine numCons ?_ | refine numApp ?_ ?_); done)) (by ((repeat' first | assumption | exact numNil | refine numCons ?_ | refine numApp ?_ ?_); done)) (eqc_spanD xo xp) ⟨rfl, rfl⟩) ?_
      refine j_end0 ?_
      refine th_n ?_
      refine xc_bool rfl (fun q3 => ?_) (fun q3 => ?_)
      · refine xc_seq (xc_region ?_)
        have hne : ¬ xs = ys := fun hq => by subst hq; have hq2 := Option.some.inj (hko.symm.trans hkp); simp_all
        refine xr_op rfl rfl (xv_assign rfl ?_)
        refine xr_end rfl ?_
        refine th_n ?_
        refine xc_ret ?_
        refine bk_r ?_
        refine th_r ?_
        refine th_r ?_
        refine bk_r ?_
        refine th_r ?_
        refine body_ret (h' := h) rfl (ro_tmp rfl ro_nil) (by (first|((repeat first|exact s_0|exact s_1|exact s_3|refine s_4 ?_|refine s_5 ?_|refine s_6 ?_|refine s_7 ?_);done)|((repeat first|exact s_0|exact s_1|exact s_3|refine s_4 ?_|refine s_5 ?_|refine s_6 ?_|refine s_8 ?_);done))) ?_
        first | (rw [decide_eq_true hxy] at H; exact H) | (rw [decide_eq_false hne] at H; exact H) | (rw [decide_eq_false (fun hq => by subst hq; omega)] at H; exact H)
      · refine xc_skip ?_
        refine bk_n ?_
        refine th_n ?_
        refine xc_region ?_
        have heq : xo = xp := by simp_all
        refine xr_op rfl rfl (xv_move rfl ?_)
        refine xr_op rfl rfl (xv_add rfl rfl (wrap_i64 (by (first|omega|(dsimp only at *;omega)|(simp at *;omega))) (by (first|omega|(dsimp only at *;omega)|(simp at *;omega)))) ?_)
        refine xr_op rfl rfl (xv_assign rfl ?_)
        refine xr_end rfl ?_
        exact rnd (k + 1) ⟨by (first|omega|(dsimp only at *;omega)|(simp at *;omega)), by rw [List.take_add_one, List.take_add_one, hko, hkp, hall, heq]⟩ (by (first|omega|(dsimp only at *;omega)|(simp at *;omega))) (le_put (le_put (le_put (le_emp _) rfl) rfl) rfl) (by (first|((repeat first|exact s_0|exact s_1|exact s_3|refine s_4 ?_|refine s_5 ?_|refine s_6 ?_|refine s_7 ?_);done)|((repeat first|exact s_0|exact s_1|exact s_3|refine s_4 ?_|refine s_5 ?_|refine s_6 ?_|refine s_8 ?_);done)))
    · refine xr_end rfl ?_
      refine th_n ?_
      refine xc_false rfl ?_
      refine xc_exit ?_
      refine th_x ?_
      refine th_x ?_
      refine bk_same ?_
      refine th_n ?_
      refine xc_seq (xc_region ?_)
      obtain rfl : k = xs.length := by (first|omega|(dsimp only at *;omega)|(simp at *;omega))
      have hxy : xs = ys := by rw [List.take_length] at hall; rw [hall, hle, List.take_length]
      refine xr_op rfl rfl (xv_assign rfl ?_)
      refine xr_end rfl ?_
      refine th_n ?_
      refine xc_ret ?_
      refine body_ret (h' := h) rfl (ro_tmp rfl ro_nil) (by (first|((repeat first|exact s_0|exact s_1|exact s_3|refine s_4 ?_|refine s_5 ?_|refine s_6 ?_|refine s_7 ?_);done)|((repeat first|exact s_0|exact s_1|exact s_3|refine s_4 ?_|refine s_5 ?_|refine s_6 ?_|refine s_8 ?_);done))) ?_
      first | (rw [decide_eq_true hxy] at H; exact H) | (rw [decide_eq_false hne] at H; exact H) | (rw [decide_eq_false (fun hq => by subst hq; omega)] at H; exact H)

theorem Lists_c {a a2 : Option Addr} {c c2 : Nat} {xs ys : List Part} {h : Hp} {R : Ending → Hp → Prop} (hs : SlV h 2 ePart a xs) (hs2 : SlV h 2 ePart a2 ys) (hl : xs.length ≤ 1000000) (hl2 : ys.length ≤ 4611686018427387904)
    (H : R (.returned (.bool (decide (xs = ys)))) h) :
    ACalls Try.prog 23 ⟨[.slice a xs.length c, .slice a2 ys.length c2]⟩ h R := by
  refine calls_of_xc (N := 26) Try.func23 rfl (by rfl) ?_
  refine xc_seq (xc_region ?_)
  refine xr_op rfl rfl (xv_assign rfl ?_)
  refine xr_end rfl ?_
  refine th_n ?_
  refine xc_seq ?_
  refine xc_seq (xc_region ?_)
  refine xr_op rfl rfl (xv_move rfl ?_)
  refine xr_op rfl rfl (xv_len sl39 rfl ?_)
  refine xr_op rfl rfl (xv_move rfl ?_)
  refine xr_op rfl rfl (xv_len sl39 rfl ?_)
  refine xr_op rfl rfl (xv_neq2 rfl rfl (fun q1 => ?_) (fun q1 => ?_))
  · refine xr_end rfl ?_
    refine th_n ?_
    refine xc_true rfl ?_
    refine xc_seq (xc_region ?_)
    refine xr_op rfl rfl (xv_assign rfl ?_)
    refine xr_end rfl ?_
    refine th_n ?_
    refine xc_ret ?_
    refine th_r ?_
    refine body_ret (h' := h) rfl (ro_tmp rfl ro_nil) (by (first|((repeat first|exact s_0|exact s_1|exact s_3|refine s_4 ?_|refine s_5 ?_|refine s_6 ?_|refine s_7 ?_);done)|((repeat first|exact s_0|exact s_1|exact s_3|refine s_4 ?_|refine s_5 ?_|refine s_6 ?_|refine s_8 ?_);done))) ?_
    first | (rw [decide_eq_true hxy] at H; exact H) | (rw [decide_eq_false hne] at H; exact H) | (rw [decide_eq_false (fun hq => by subst hq; omega)] at H; exact H)
  · refine xr_end rfl ?_
    refine th_n ?_
    refine xc_false rfl ?_
    refine xc_skip ?_
    refine th_n ?_
    refine xc_seq ?_
    refine xc_seq (xc_region ?_)
    refine xr_op rfl rfl (xv_assign rfl ?_)
    refine xr_end rfl ?_
    refine th_n ?_
    refine xc_block ?_
    have hle : xs.length = ys.length := by (first|omega|(dsimp only at *;omega)|(simp at *;omega))
    refine xc_loop (σ := Nat) (fun k => k ≤ xs.length ∧ xs.take k = ys.take k) (fun k => (((emp.put (some 0) (.slice a xs.length c)).put (some 1) (.slice a2 ys.length c2)).put (some 5) (I k))) (fun k => h) (fun k => xs.length - k) 0 ⟨Nat.zero_le _, rfl⟩ (le_put (le_put (le_put (le_emp _) rfl) rfl) rfl) (by (first|((repeat first|exact s_0|exact s_1|exact s_3|refine s_4 ?_|refine s_5 ?_|refine s_6 ?_|refine s_7 ?_);done)|((repeat first|exact s_0|exact s_1|exact s_3|refine s_4 ?_|refine s_5 ?_|refine s_6 ?_|refine s_8 ?_);done))) ?_
    rintro k ⟨hk, hall⟩
    refine xc_seq ?_
    refine xc_seq (xc_region ?_)
    refine xr_op rfl rfl (xv_move rfl ?_)
    refine xr_op rfl rfl (xv_move rfl ?_)
    refine xr_op rfl rfl (xv_len sl39 rfl ?_)
    refine xr_op rfl rfl (xv_lss2 rfl rfl (fun q2 => ?_) (fun q2 => ?_))
    · refine xr_end rfl ?_
      refine th_n ?_
      refine xc_true rfl ?_
      refine xc_skip ?_
      refine th_n ?_
      refine xc_seq ?_
      refine xc_block ?_
      refine xc_seq ?_
      refine xc_draw0 [(0, .S), (1, .S), (2, .S), (3, .R), (4, .S), (5, .S), (6, .S), (7, .R), (8, .S)] mixed (by kernel_rfl) ?_
      have hlto : k < xs.length := by (first|omega|(dsimp only at *;omega)|(simp at *;omega))
      obtain ⟨bo, oo, lo, to, fzo, hao, hmo, hxo⟩ := (hs).at hlto
      obtain ⟨xo, hko⟩ : ∃ qq_, xs[k]? = some qq_ := ⟨_, List.getElem?_eq_getElem hlto⟩
      have hltp : k < ys.length := by (first|omega|(dsimp only at *;omega)|(simp at *;omega))
      obtain ⟨bp, op, lp, tp, fzp, hap, hmp, hxp⟩ := (hs2).at hltp
      obtain ⟨xp, hkp⟩ : ∃ qq_, ys[k]? = some qq_ := ⟨_, List.getElem?_eq_getElem hltp⟩
      refine js_S rfl rfl (.inl rfl) (xv_move rfl ⟨rfl, rfl⟩) ?_
      refine js_S rfl rfl (.inl rfl) (xv_move rfl ⟨rfl, rfl⟩) ?_
      refine js_S rfl rfl (.inl rfl) (xv_ia (sz := 2) (j := k) sl39 ty43 rfl (by rw [hao]; rfl) rfl (by (first | assumption | with_reducible exact Int.toNat_natCast _ | with_reducible rfl | rfl)) (by (first|omega|(dsimp only at *;omega)|(simp at *;omega))) (by (first|omega|(dsimp only at *;omega)|(simp at *;omega))) ⟨rfl, rfl⟩) ?_
      refine js_R0 rfl rfl (.inl rfl) (xv_loadA ty43 rfl rfl (by ((repeat first|exact z_0|assumption|refine z_1 ?_|(refine z_l ?_;(repeat first|exact z_0|assumption|refine z_1 ?_);done)|refine z_r ?_);done)) (hxo (k) xo hko) rfl ⟨rfl, rfl⟩) ?_
      refine js_S rfl rfl (.inl rfl) (xv_move rfl ⟨rfl, rfl⟩) ?_
      refine js_S rfl rfl (.inl rfl) (xv_move rfl ⟨rfl, rfl⟩) ?_
      refine js_S rfl rfl (.inl rfl) (xv_ia (sz := 2) (j := k) sl39 ty43 rfl (by rw [hap]; rfl) rfl (by (first | assumption | with_reducible exact Int.toNat_natCast _ | with_reducible rfl | rfl)) (by (first|omega|(dsimp only at *;omega)|(simp at *;omega))) (by (first|omega|(dsimp only at *;omega)|(simp at *;omega))) ⟨rfl, rfl⟩) ?_
      refine js_R0 rfl rfl (.inl rfl) (xv_loadA ty43 rfl rfl (by ((repeat first|exact z_0|assumption|refine z_1 ?_|(refine z_l ?_;(repeat first|exact z_0|assumption|refine z_1 ?_);done)|refine z_r ?_);done)) (hxp (k) xp hkp) rfl ⟨rfl, rfl⟩) ?_
      refine js_S rfl rfl (.inl rfl) (xv_neA (b := !decide (xo = xp)) fq43 rfl eg43 rfl rfl rfl rfl (by ((repeat' first | assumption | exact numNil | refine numCons ?_ | refine numApp ?_ ?_); done)) (by ((repeat' first | assumption | exact numNil | refine numCons ?_ | refine numApp ?_ ?_); done)) (eqc_partD xo xp) ⟨rfl, rfl⟩) ?_
      refine j_end0 ?_
      refine th_n ?_
      refine xc_bool rfl (fun q3 => ?_) (fun q3 => ?_)
      · refine xc_seq (xc_region ?_)
        have hne : ¬ xs = ys := fun hq => by subst hq; have hq2 := Option.some.inj (hko.symm.trans hkp); simp_all
        refine xr_op rfl rfl (xv_assign rfl ?_)
        refine xr_end rfl ?_
        refine th_n ?_
        refine xc_ret ?_
        refine bk_r ?_
        refine th_r ?_
        refine th_r ?_
        refine bk_r ?_
        refine th_r ?_
        refine body_ret (h' := h) rfl (ro_tmp rfl ro_nil) (by (first|((repeat first|exact s_0|exact s_1|exact s_3|refine s_4 ?_|refine s_5 ?_|refine s_6 ?_|refine s_7 ?_);done)|((repeat first|exact s_0|exact s_1|exact s_3|refine s_4 ?_|refine s_5 ?_|refine s_6 ?_|refine s_8 ?_);done))) ?_
        first | (rw [decide_eq_true hxy] at H; exact H) | (rw [decide_eq_false hne] at H; exact H) | (rw [decide_eq_false (fun hq => by subst hq; omega)] at H; exact H)
      · refine xc_skip ?_
        refine bk_n ?_
        refine th_n ?_
        refine xc_region ?_
        have heq : xo = xp := by simp_all
        refine xr_op rfl rfl (xv_move rfl ?_)
        refine xr_op rfl rfl (xv_add rfl rfl (wrap_i64 (by (first|omega|(dsimp only at *;omega)|(simp at *;omega))) (by (first|omega|(dsimp only at *;omega)|(simp at *;omega)))) ?_)
        refine xr_op rfl rfl (xv_assign rfl ?_)
        refine xr_end rfl ?_
        exact rnd (k + 1) ⟨by (first|omega|(dsimp only at *;omega)|(simp at *;omega)), by rw [List.take_add_one, List.take_add_one, hko, hkp, hall, heq]⟩ (by (first|omega|(dsimp only at *;omega)|(simp at *;omega))) (le_put (le_put (le_put (le_emp _) rfl) rfl) rfl) (by (first|((repeat first|exact s_0|exact s_1|exact s_3|refine s_4 ?_|refine s_5 ?_|refine s_6 ?_|refine s_7 ?_);done)|((repeat first|exact s_0|exact s_1|exact s_3|refine s_4 ?_|refine s_5 ?_|refine s_6 ?_|refine s_8 ?_);done)))
    · refine xr_end rfl ?_
      refine th_n ?_
      refine xc_false rfl ?_
      refine xc_exit ?_
      refine th_x ?_
      refine th_x ?_
      refine bk_same ?_
      refine th_n ?_
      refine xc_seq (xc_region ?_)
      obtain rfl : k = xs.length := by (first|omega|(dsimp only at *;omega)|(simp at *;omega))
      have hxy : xs = ys := by rw [List.take_length] at hall; rw [hall, hle, List.take_length]
      refine xr_op rfl rfl (xv_assign rfl ?_)
      refine xr_end rfl ?_
      refine th_n ?_
      refine xc_ret ?_
      refine body_ret (h' := h) rfl (ro_tmp rfl ro_nil) (by (first|((repeat first|exact s_0|exact s_1|exact s_3|refine s_4 ?_|refine s_5 ?_|refine s_6 ?_|refine s_7 ?_);done)|((repeat first|exact s_0|exact s_1|exact s_3|refine s_4 ?_|refine s_5 ?_|refine s_6 ?_|refine s_8 ?_);done))) ?_
      first | (rw [decide_eq_true hxy] at H; exact H) | (rw [decide_eq_false hne] at H; exact H) | (rw [decide_eq_false (fun hq => by subst hq; omega)] at H; exact H)

end Go.Proofs.Ytpefpafijadfmaa

/-
  The order of coals that arrive in a layer; what is drawn and left is all that arrived; later moves.
-/
set_option linter.all false
namespace Go.Proofs.Ytpefpafijadfmaa
open Go Go.H
section
variable {a b : Move}
end
structure SameY (y z : Yard) : Prop where
  coals : z.coals = y.coals
  good : GoodYard z
  vecs : vecsR z = vecsR y
  lays : (opn z.moves).1 = (opn y.moves).1
  cont : ∀ j, contE z j = contE y j
theorem SameY.blend {y z : Yard} (H : SameY y z) (hg : GoodYard y) (draw : Int) : blendA z draw = blendA y draw := by
  unfold blendA
  rw [if_pos H.good, if_pos hg, H.vecs, H.lays, H.coals]
  have e : contE z = contE y := funext H.cont
  rw [e]
theorem SameY.yield {y z : Yard} (H : SameY y z) (hg : GoodYard y) (f t w : Int) : yieldA z f t w = yieldA y f t w := by
  unfold yieldA
  rw [if_pos H.good, if_pos hg, H.vecs, H.lays]
  have e : contE z = contE y := funext H.cont
  have e1 : lows z w = lows y w := by unfold lows; rw [H.coals]
  have e2 : highs z w = highs y w := by unfold highs; rw [H.coals]
  have k1 : ∀ need L, yLo z w need L = yLo y w need L := fun need L => by rw [yLo_sF, yLo_sF, e1, e]
  have k2 : ∀ need L, yHi z w need L = yHi y w need L := fun need L => by rw [yHi_sF, yHi_sF, e2, e]
  simp only [k1, k2]
theorem sF_set {f g : Nat → Int} {a : Nat} {m : Int} {n : Nat} (ha : a < n) (h1 : g a = f a + m) (h2 : ∀ i, i ≠ a → g i = f i) : sF g n = sF f n + m := by
  have : sF g n = sF (fun q => if q = a then f q + m else f q) n := sF_congr fun i _ => by
    by_cases h : i = a
    · subst h; rw [if_pos rfl, h1]
    · rw [if_neg h, h2 i h]
  rw [this, sF_upd, if_pos ha]
end Go.Proofs.Ytpefpafijadfmaa

/-
  What passes the test of every set of coals can be divided: unit by unit, from the least critical set.
-/
set_option linter.all false
namespace Go.Proofs.Ytpefpafijadfmaa
open Go Go.H
def sS (f : Nat → Int) (S : Nat → Bool) (n : Nat) : Int := sF (fun i => if S i then f i else 0) n
theorem sS_succ (f : Nat → Int) (S : Nat → Bool) (n : Nat) : sS f S (n + 1) = sS f S n + (if S n then f n else 0) := rfl
theorem sS_mod (f : Nat → Int) (S T : Nat → Bool) : ∀ n, sS f (fun i => S i && T i) n + sS f (fun i => S i || T i) n = sS f S n + sS f T n
  | 0 => rfl
  | n + 1 => by
    have ih := sS_mod f S T n
    rw [sS_succ, sS_succ, sS_succ, sS_succ]
    cases S n <;> cases T n <;> simp only [Bool.true_and, Bool.false_and, Bool.true_or, Bool.false_or, if_true, Bool.false_eq_true, if_false] <;> omega
theorem sS_mono {f : Nat → Int} {S T : Nat → Bool} {n : Nat} (hf : ∀ i, i < n → 0 ≤ f i) (h : ∀ i, S i = true → T i = true) : sS f S n ≤ sS f T n := by
  refine sF_le fun i hi => ?_
  have := hf i hi
  by_cases hs : S i = true
  · rw [if_pos hs, if_pos (h i hs)]; exact Int.le_refl _
  · rw [if_neg hs]; split <;> omega
theorem sS_nn {f : Nat → Int} {S : Nat → Bool} {n : Nat} (hf : ∀ i, i < n → 0 ≤ f i) : 0 ≤ sS f S n := by
  refine sF_nn fun i hi => ?_
  have := hf i hi
  split <;> omega
theorem sF_z {f : Nat → Int} : ∀ {m : Nat}, (∀ j, j < m → 0 ≤ f j) → sF f m = 0 → ∀ j, j < m → f j = 0
  | 0, _, _, j, hj => by omega
  | m + 1, h, h0, j, hj => by
    rw [sF_succ] at h0
    have h1 := sF_nn (f := f) (n := m) fun j hj => h j (by omega)
    have h2 := h m (by omega)
    by_cases e : j = m
    · subst e; omega
    · exact sF_z (m := m) (fun j hj => h j (by omega)) (by omega) j (by omega)
theorem sF_le1 {f g : Nat → Int} {k : Nat} {d : Int} : ∀ {m : Nat}, (∀ j, j < m → j ≠ k → f j ≤ g j) → k < m → f k + d ≤ g k → sF f m + d ≤ sF g m
  | 0, _, h, _ => by omega
  | m + 1, h, hk, hd => by
    rw [sF_succ, sF_succ]
    by_cases e : k = m
    · subst e
      have := sF_le (f := f) (g := g) (n := k) fun j hj => h j (by omega) (by omega)
      omega
    · have := sF_le1 (m := m) (fun j hj => h j (by omega)) (by omega) hd
      have := h m (by omega) (fun q => e q.symm)
      omega
section
variable {n m : Nat} {t r : Nat → Int} {C : Nat → Nat → Int}
def totS (n m : Nat) (r : Nat → Int) (C : Nat → Nat → Int) (S : Nat → Bool) : Int := sF (fun j => min (r j) (sS (C j) S n)) m
structure HallX (n m : Nat) (t r : Nat → Int) (C : Nat → Nat → Int) : Prop where
  t0 : ∀ i, i < n → 0 ≤ t i
  r0 : ∀ j, j < m → 0 ≤ r j
  c0 : ∀ j i, j < m → i < n → 0 ≤ C j i
  sum : sF t n = sF r m
  hall : ∀ S, sS t S n ≤ totS n m r C S
def Crit (n m : Nat) (t r : Nat → Int) (C : Nat → Nat → Int) (k : Nat) (S : Nat → Bool) : Prop := sS t S n = totS n m r C S ∧ r k ≤ sS (C k) S n
theorem HallX.sub (H : HallX n m t r C) (S T : Nat → Bool) {j : Nat} (hj : j < m) : min (r j) (sS (C j) (fun i => S i && T i) n) + min (r j) (sS (C j) (fun i => S i || T i) n) ≤ min (r j) (sS (C j) S n) + min (r j) (sS (C j) T n) := by
  have h1 := sS_mod (C j) S T n
  have h2 := sS_mono (S := fun i => S i && T i) (T := S) (H.c0 j · hj) fun i h => by simp at h; exact h.1
  have h3 := sS_mono (S := fun i => S i && T i) (T := T) (H.c0 j · hj) fun i h => by simp at h; exact h.2
  omega
theorem HallX.crit_and (H : HallX n m t r C) {k : Nat} (hk : k < m) {S T : Nat → Bool} (hS : Crit n m t r C k S) (hT : Crit n m t r C k T) : Crit n m t r C k (fun i => S i && T i) := by
  have h1 := sS_mod t S T n
  have h2 := H.hall (fun i => S i && T i)
  have h3 := H.hall (fun i => S i || T i)
  have h4 : totS n m r C (fun i => S i && T i) + totS n m r C (fun i => S i || T i) ≤ totS n m r C S + totS n m r C T := by
    unfold totS
    rw [← sF_add, ← sF_add]
    exact sF_le fun j hj => H.sub S T hj
  obtain ⟨a1, a2⟩ := hS
  obtain ⟨b1, b2⟩ := hT
  refine ⟨by omega, ?_⟩
  have h5 : sF (fun j => (min (r j) (sS (C j) S n) + min (r j) (sS (C j) T n)) - (min (r j) (sS (C j) (fun i => S i && T i) n) + min (r j) (sS (C j) (fun i => S i || T i) n))) m = 0 := by
    rw [sF_sub, sF_add, sF_add]
    unfold totS at h4 a1 b1 h2 h3
    omega
  have h6 := sF_z (fun j hj => by have := H.sub S T hj; omega) h5 k hk
  omega
theorem HallX.crit_all (H : HallX n m t r C) {k : Nat} (hk : k < m) : Crit n m t r C k (fun _ => true) := by
  have h1 := H.hall (fun _ => true)
  have h2 : sS t (fun _ => true) n = sF t n := sF_congr fun i _ => if_pos rfl
  have h3 : totS n m r C (fun _ => true) ≤ sF r m := sF_le fun j _ => by omega
  have h4 := H.sum
  refine ⟨by omega, ?_⟩
  have h5 : sF (fun j => r j - min (r j) (sS (C j) (fun _ => true) n)) m = 0 := by
    rw [sF_sub]
    unfold totS at h1 h3
    omega
  have h6 := sF_z (fun j _ => by omega) h5 k hk
  omega
theorem HallX.least (H : HallX n m t r C) {k : Nat} (hk : k < m) : ∀ q, ∃ U, Crit n m t r C k U ∧ ∀ i, i < q → U i = true → ∀ S, Crit n m t r C k S → S i = true
  | 0 => ⟨_, H.crit_all hk, fun i hi => by omega⟩
  | q + 1 => by
    obtain ⟨U, hU, h⟩ := H.least hk q
    by_cases e : ∃ S, Crit n m t r C k S ∧ S q = false
    · obtain ⟨S, hS, hq⟩ := e
      refine ⟨_, H.crit_and hk hU hS, fun i hi hu T hT => ?_⟩
      simp only [Bool.and_eq_true] at hu
      by_cases ei : i = q
      · subst ei; rw [hq] at hu; exact absurd hu.2 (by decide)
      · exact h i (by omega) hu.1 T hT
    · refine ⟨U, hU, fun i hi hu T hT => ?_⟩
      by_cases ei : i = q
      · subst ei
        by_cases hb : T i = true
        · exact hb
        · exact absurd ⟨T, hT, by simpa using hb⟩ e
      · exact h i (by omega) hu T hT
theorem HallX.pick (H : HallX n m t r C) {k : Nat} (hk : k < m) (hr : 0 < r k) : ∃ c, c < n ∧ 0 < C k c ∧ 0 < t c ∧ ∀ S, Crit n m t r C k S → S c = true := by
  obtain ⟨U, ⟨hu1, hu2⟩, hU⟩ := H.least hk n
  by_cases e : ∃ c, c < n ∧ U c = true ∧ 0 < C k c ∧ 0 < t c
  · obtain ⟨c, h1, h2, h3, h4⟩ := e
    exact ⟨c, h1, h3, h4, fun S hS => hU c h1 h2 S hS⟩
  · exfalso
    have h1 := H.hall (fun i => U i && decide (C k i ≤ 0))
    have h2 : sS t (fun i => U i && decide (C k i ≤ 0)) n = sS t U n := sF_congr fun i hi => by
      have a := H.t0 i hi
      by_cases hu : U i = true
      · by_cases hc : C k i ≤ 0
        · rw [if_pos (by simp [hu, hc]), if_pos hu]
        · rw [if_neg (by simp [hu, hc]), if_pos hu]
          by_cases ht : 0 < t i
          · exact absurd ⟨i, hi, hu, by omega, ht⟩ e
          · omega
      · rw [if_neg (by simp [hu]), if_neg hu]
    have h3 : sS (C k) (fun i => U i && decide (C k i ≤ 0)) n = 0 := by
      have : sS (C k) (fun i => U i && decide (C k i ≤ 0)) n = sF (fun _ => 0) n := sF_congr fun i hi => by
        have a := H.c0 k i hk hi
        split
        · rename_i hh
          simp at hh
          omega
        · rfl
      rw [this, sF_zero]
    have h4 : totS n m r C (fun i => U i && decide (C k i ≤ 0)) + r k ≤ totS n m r C U := by
      refine sF_le1 (fun j hj _ => ?_) hk ?_
      · have := sS_mono (f := C j) (S := fun i => U i && decide (C k i ≤ 0)) (T := U) (H.c0 j · hj) fun i h => by simp at h; exact h.1
        omega
      · rw [h3]; omega
    omega
def dec1 (f : Nat → Int) (c : Nat) : Nat → Int := fun i => if i = c then f i - 1 else f i
def dec2 (C : Nat → Nat → Int) (k c : Nat) : Nat → Nat → Int := fun j => if j = k then dec1 (C j) c else C j
theorem dec1_at (f : Nat → Int) (c : Nat) : dec1 f c c = f c - 1 := if_pos rfl
theorem dec1_ne {f : Nat → Int} {c i : Nat} (h : i ≠ c) : dec1 f c i = f i := if_neg h
theorem sF_dec {f : Nat → Int} {c n : Nat} (h : c < n) : sF (dec1 f c) n = sF f n - 1 := by
  have := sF_set (f := f) (g := dec1 f c) (m := -1) h (by rw [dec1_at]; omega) fun i hi => dec1_ne hi
  omega
theorem sS_dec {f : Nat → Int} {c n : Nat} {S : Nat → Bool} (h : c < n) : sS (dec1 f c) S n = sS f S n - (if S c then 1 else 0) := by
  have := sF_set (f := fun i => if S i then f i else 0) (g := fun i => if S i then dec1 f c i else 0) (m := -(if S c then 1 else 0)) h (by rw [dec1_at]; split <;> omega) fun i hi => by rw [dec1_ne hi]
  unfold sS
  omega
theorem HallX.dec (H : HallX n m t r C) {k c : Nat} (hk : k < m) (hr : 0 < r k) (hc : c < n) (h1 : 0 < C k c) (h2 : 0 < t c) (h3 : ∀ S, Crit n m t r C k S → S c = true) : HallX n m (dec1 t c) (dec1 r k) (dec2 C k c) := by
  refine ⟨fun i hi => ?_, fun j hj => ?_, fun j i hj hi => ?_, ?_, fun S => ?_⟩
  · have := H.t0 i hi
    unfold dec1; split
    · subst i; omega
    · omega
  · have := H.r0 j hj
    unfold dec1; split
    · subst j; omega
    · omega
  · have := H.c0 j i hj hi
    unfold dec2; split
    · subst j
      unfold dec1; split
      · subst i; omega
      · omega
    · omega
  · rw [sF_dec hc, sF_dec hk, H.sum]
  · have h4 := H.hall S
    rw [sS_dec hc]
    have ek : sS (dec2 C k c k) S n = sS (C k) S n - (if S c then 1 else 0) := by unfold dec2; rw [if_pos rfl]; exact sS_dec hc
    have ej : ∀ j, j ≠ k → min (dec1 r k j) (sS (dec2 C k c j) S n) = min (r j) (sS (C j) S n) := fun j hj => by rw [dec1_ne hj]; unfold dec2; rw [if_neg hj]
    have h6 : totS n m r C S - 1 ≤ totS n m (dec1 r k) (dec2 C k c) S := by
      have := sF_le1 (f := fun j => min (r j) (sS (C j) S n)) (g := fun j => min (dec1 r k j) (sS (dec2 C k c j) S n)) (d := -1) (fun j hj hn => by rw [ej j hn]; exact Int.le_refl _) hk (by rw [ek, dec1_at]; split <;> omega)
      unfold totS
      omega
    by_cases hs : S c = true
    · rw [if_pos hs]; omega
    · rw [if_neg hs] at ek ⊢
      by_cases h7 : sS t S n = totS n m r C S
      · have h8 : sS (C k) S n < r k := by
          by_cases h9 : r k ≤ sS (C k) S n
          · exact absurd (h3 S ⟨h7, h9⟩) hs
          · omega
        have h9 : totS n m r C S ≤ totS n m (dec1 r k) (dec2 C k c) S := sF_le fun j hj => by
          by_cases e : j = k
          · subst e; rw [ek, dec1_at]; omega
          · rw [ej j e]; exact Int.le_refl _
        omega
      · omega
theorem HallX.div {n m : Nat} : ∀ (q : Nat) {t r : Nat → Int} {C : Nat → Nat → Int}, HallX n m t r C → sF r m = (q : Int) → ∃ x : Nat → Nat → Int, (∀ j i, j < m → i < n → 0 ≤ x j i ∧ x j i ≤ C j i) ∧ (∀ j, j < m → sF (x j) n = r j) ∧ (∀ i, i < n → sF (fun j => x j i) m = t i)
  | 0, t, r, C, H, hq => by
    refine ⟨fun _ _ => 0, fun j i hj hi => ⟨Int.le_refl _, H.c0 j i hj hi⟩, fun j hj => ?_, fun i hi => ?_⟩
    · rw [sF_zero]; exact (sF_z H.r0 (by omega) j hj).symm
    · rw [sF_zero]; exact (sF_z H.t0 (by rw [H.sum]; omega) i hi).symm
  | q + 1, t, r, C, H, hq => by
    have hex : ∃ k, k < m ∧ 0 < r k := by
      by_cases e : ∃ k, k < m ∧ 0 < r k
      · exact e
      · exfalso
        have : sF r m = sF (fun _ => 0) m := sF_congr fun j hj => by
          have := H.r0 j hj
          by_cases h : 0 < r j
          · exact absurd ⟨j, hj, h⟩ e
          · omega
        rw [sF_zero] at this
        omega
    obtain ⟨k, hk, hr⟩ := hex
    obtain ⟨c, hc, h1, h2, h3⟩ := H.pick hk hr
    obtain ⟨x, x1, x2, x3⟩ := HallX.div q (H.dec hk hr hc h1 h2 h3) (by rw [sF_dec hk]; omega)
    refine ⟨fun j i => if j = k ∧ i = c then x j i + 1 else x j i, fun j i hj hi => ?_, fun j hj => ?_, fun i hi => ?_⟩
    · have h := x1 j i hj hi
      unfold dec2 at h
      show 0 ≤ (if j = k ∧ i = c then x j i + 1 else x j i) ∧ (if j = k ∧ i = c then x j i + 1 else x j i) ≤ C j i
      split
      · rename_i e
        obtain ⟨rfl, rfl⟩ := e
        rw [if_pos rfl, dec1_at] at h; omega
      · rename_i e
        by_cases ej : j = k
        · subst ej
          rw [if_pos rfl, dec1_ne (fun q => e ⟨rfl, q⟩)] at h; exact h
        · rw [if_neg ej] at h; exact h
    · have h := x2 j hj
      by_cases ej : j = k
      · subst ej
        have := sF_set (f := x j) (g := fun i => if j = j ∧ i = c then x j i + 1 else x j i) (m := 1) hc (if_pos ⟨rfl, rfl⟩) fun i hi => if_neg fun q => hi q.2
        rw [this, h, dec1_at]; omega
      · rw [dec1_ne ej] at h
        rw [← h]
        exact sF_congr fun i _ => if_neg fun q => ej q.1
    · have h := x3 i hi
      by_cases ei : i = c
      · subst ei
        have := sF_set (f := fun j => x j i) (g := fun j => if j = k ∧ i = i then x j i + 1 else x j i) (m := 1) hk (if_pos ⟨rfl, rfl⟩) fun j hj => if_neg fun q => hj q.1
        rw [this, h, dec1_at]; omega
      · rw [dec1_ne ei] at h
        rw [← h]
        exact sF_congr fun j _ => if_neg fun q => ei q.2
end
end Go.Proofs.Ytpefpafijadfmaa

/-
  The division that the reference tries, and the test of every set of coals.
-/
set_option linter.all false
namespace Go.Proofs.Ytpefpafijadfmaa
open Go Go.H
def subF (W : Nat → Int) (c : Nat) (v : Int) : Nat → Int := fun i => if i = c then W i - v else W i
def Sm (D : (Nat → Int) → Prop) (C : Nat → Int) : Nat → Nat → (Nat → Int) → Int → Prop
  | 0, _, W, o => o = 0 ∧ D W
  | f + 1, c, W, o => ∃ v : Int, 0 ≤ v ∧ v ≤ o ∧ v ≤ C c ∧ v ≤ W c ∧ Sm D C f (c + 1) (subF W c v) (o - v)
def Dv (n : Nat) (ct : Nat → Nat → Int) (r : Nat → Int) : Nat → Nat → (Nat → Int) → Prop
  | 0, _, W => ∀ i, i < n → W i = 0
  | f + 1, k, W => Sm (Dv n ct r f (k + 1)) (ct k) n 0 W (r k)
theorem Sm_to {D : (Nat → Int) → Prop} {C : Nat → Int} : ∀ (f c : Nat) (W : Nat → Int) (o : Int), Sm D C f c W o → ∃ x : Nat → Int, (∀ i, c ≤ i → i < c + f → 0 ≤ x i ∧ x i ≤ C i) ∧ (∀ i, ¬ (c ≤ i ∧ i < c + f) → x i = 0) ∧ sF x (c + f) = o ∧ D (fun i => W i - x i)
  | 0, c, W, o, h => by
    refine ⟨fun _ => 0, fun i h1 h2 => by omega, fun _ _ => rfl, by rw [sF_zero]; exact h.1.symm, ?_⟩
    rw [show (fun i => W i - 0) = W from funext fun i => Int.sub_zero _]
    exact h.2
  | f + 1, c, W, o, h => by
    obtain ⟨v, h1, h2, h3, h4, h5⟩ := h
    obtain ⟨x, x1, x2, x3, x4⟩ := Sm_to f (c + 1) (subF W c v) (o - v) h5
    have xc : x c = 0 := x2 c (by omega)
    refine ⟨fun i => if i = c then v else x i, fun i ha hb => ?_, fun i hi => ?_, ?_, ?_⟩
    · dsimp only
      split
      · subst i; exact ⟨h1, h3⟩
      · exact x1 i (by omega) (by omega)
    · dsimp only
      rw [if_neg (by omega)]; exact x2 i (by omega)
    · have := sF_set (f := x) (g := fun i => if i = c then v else x i) (a := c) (m := v) (n := c + (f + 1)) (by omega) (by rw [if_pos rfl, xc]; omega) fun i hi => if_neg hi
      rw [this, show c + (f + 1) = c + 1 + f by omega, x3]; omega
    · have e : (fun i => W i - (if i = c then v else x i)) = fun i => subF W c v i - x i := funext fun i => by
        unfold subF
        by_cases ei : i = c
        · subst ei; rw [if_pos rfl, if_pos rfl, xc]; omega
        · rw [if_neg ei, if_neg ei]
      rw [e]; exact x4
theorem Sm_of {D : (Nat → Int) → Prop} {C : Nat → Int} : ∀ (f c : Nat) (W : Nat → Int) (o : Int) (x : Nat → Int), (∀ i, c ≤ i → i < c + f → 0 ≤ x i ∧ x i ≤ C i ∧ x i ≤ W i) → (∀ i, ¬ (c ≤ i ∧ i < c + f) → x i = 0) → sF x (c + f) = o → D (fun i => W i - x i) → Sm D C f c W o
  | 0, c, W, o, x, x1, x2, x3, x4 => by
    have e : ∀ i, x i = 0 := fun i => x2 i (by omega)
    refine ⟨?_, ?_⟩
    · rw [← x3, show x = fun _ => 0 from funext e, sF_zero]
    · rw [show W = fun i => W i - x i from funext fun i => by rw [e i]; omega]; exact x4
  | f + 1, c, W, o, x, x1, x2, x3, x4 => by
    obtain ⟨a1, a2, a3⟩ := x1 c (by omega) (by omega)
    have hs := sF_set (f := x) (g := fun i => if i = c then 0 else x i) (a := c) (m := -(x c)) (n := c + (f + 1)) (by omega) (by rw [if_pos rfl]; omega) fun i hi => if_neg hi
    have hn : 0 ≤ sF (fun i => if i = c then 0 else x i) (c + (f + 1)) := sF_nn fun i hi => by
      split
      · omega
      · by_cases h : c ≤ i
        · exact (x1 i h hi).1
        · rw [x2 i (by omega)]; omega
    refine ⟨x c, a1, by omega, a2, a3, Sm_of f (c + 1) _ _ (fun i => if i = c then 0 else x i) (fun i ha hb => ?_) (fun i hi => ?_) ?_ ?_⟩
    · unfold subF
      rw [if_neg (by omega), if_neg (by omega)]
      exact x1 i (by omega) (by omega)
    · by_cases ei : i = c
      · rw [if_pos ei]
      · rw [if_neg ei]; exact x2 i (by omega)
    · rw [show c + 1 + f = c + (f + 1) by omega]; omega
    · have e : (fun i => subF W c (x c) i - (if i = c then 0 else x i)) = fun i => W i - x i := funext fun i => by
        unfold subF
        by_cases ei : i = c
        · subst ei; rw [if_pos rfl, if_pos rfl]; omega
        · rw [if_neg ei, if_neg ei]
      rw [e]; exact x4
theorem Dv_iff {n : Nat} {ct : Nat → Nat → Int} {r : Nat → Int} : ∀ (f k : Nat) (W : Nat → Int), Dv n ct r f k W ↔ ∃ X : Nat → Nat → Int, (∀ j i, k ≤ j → j < k + f → i < n → 0 ≤ X j i ∧ X j i ≤ ct j i) ∧ (∀ j, k ≤ j → j < k + f → sF (X j) n = r j) ∧ ∀ i, i < n → sF (fun j => X (k + j) i) f = W i
  | 0, k, W => by
    constructor
    · intro h
      exact ⟨fun _ _ => 0, fun j i h1 h2 => by omega, fun j h1 h2 => by omega, fun i hi => (h i hi).symm⟩
    · rintro ⟨X, _, _, h⟩ i hi
      exact (h i hi).symm
  | f + 1, k, W => by
    constructor
    · intro h
      obtain ⟨x, x1, x2, x3, x4⟩ := Sm_to n 0 W (r k) h
      obtain ⟨X, X1, X2, X3⟩ := (Dv_iff f (k + 1) _).1 x4
      refine ⟨fun j => if j = k then x else X j, fun j i h1 h2 hi => ?_, fun j h1 h2 => ?_, fun i hi => ?_⟩
      · dsimp only
        split
        · subst j; exact x1 i (by omega) (by omega)
        · exact X1 j i (by omega) (by omega) hi
      · dsimp only
        split
        · subst j; rw [← x3, Nat.zero_add]
        · exact X2 j (by omega) (by omega)
      · rw [sF_shift]
        dsimp only
        rw [Nat.add_zero, if_pos rfl]
        have e := sF_congr (f := fun j => (if k + (j + 1) = k then x else X (k + (j + 1))) i) (g := fun j => X (k + 1 + j) i) (n := f) fun j hj => by rw [if_neg (by omega), show k + (j + 1) = k + 1 + j by omega]
        rw [e, X3 i hi]; omega
    · rintro ⟨X, X1, X2, X3⟩
      have hk : ∀ i, i < n → W i = X k i + sF (fun j => X (k + 1 + j) i) f := fun i hi => by
        have h := X3 i hi
        rw [sF_shift] at h
        rw [← h]
        have e := sF_congr (f := fun j => X (k + (j + 1)) i) (g := fun j => X (k + 1 + j) i) (n := f) fun j hj => by rw [show k + (j + 1) = k + 1 + j by omega]
        rw [e]; rfl
      have hn : ∀ i, i < n → 0 ≤ sF (fun j => X (k + 1 + j) i) f := fun i hi => sF_nn fun j hj => (X1 _ i (by omega) (by omega) hi).1
      refine Sm_of n 0 W (r k) (fun i => if i < n then X k i else 0) (fun i _ hi => ?_) (fun i hi => if_neg (by omega)) ?_ ?_
      · have h := X1 k i (by omega) (by omega) (by omega)
        have h2 := hk i (by omega)
        have h3 := hn i (by omega)
        rw [if_pos (by omega)]
        omega
      · rw [Nat.zero_add, ← X2 k (by omega) (by omega)]
        exact sF_congr fun i hi => if_pos hi
      · refine (Dv_iff f (k + 1) _).2 ⟨X, fun j i h1 h2 hi => X1 j i (by omega) (by omega) hi, fun j h1 h2 => X2 j (by omega) (by omega), fun i hi => ?_⟩
        have h2 := hk i hi
        rw [if_pos hi]; omega
section
variable {y : Yard} {v ts : List Int}
def dvY (y : Yard) (v ts : List Int) : Prop := Dv y.coals.length (fun k i => (contE y k).getD i 0) (fun k => v.getD k 0) (opn y.moves).1 0 (fun i => ts.getD i 0)
theorem cE_nn (hg : GoodYard y) (j i : Nat) : 0 ≤ (contE y j).getD i 0 := by
  have hc := contF_bd (j := (j : Int)) (movesOk_mono y.moves.length hg.2.1)
  unfold contE
  by_cases h : i < (contF y.coals.length (y.moves.take y.moves.length) (j : Int)).length
  · rw [List.getD_eq_getElem?_getD, List.getElem?_eq_getElem h]
    exact (hc _ (List.getElem_mem h)).1
  · rw [List.getD_eq_getElem?_getD, List.getElem?_eq_none (by omega)]; exact Int.le_refl _
theorem nz_at (hE : EndsV y v (nzF (fun i => v.getD i 0) (opn y.moves).1)) {j : Nat} (hj : j < (nzF (fun i => v.getD i 0) (opn y.moves).1).length) : ((nzF (fun i => v.getD i 0) (opn y.moves).1).getD j ⟨0, 0⟩).layer.toNat < (opn y.moves).1 ∧ cPt y (nzF (fun i => v.getD i 0) (opn y.moves).1) j = contE y ((nzF (fun i => v.getD i 0) (opn y.moves).1).getD j ⟨0, 0⟩).layer.toNat ∧ tPt (nzF (fun i => v.getD i 0) (opn y.moves).1) j = v.getD ((nzF (fun i => v.getD i 0) (opn y.moves).1).getD j ⟨0, 0⟩).layer.toNat 0 := by
  have hk := List.getElem?_eq_getElem hj
  obtain ⟨a, b, c, e⟩ := nzF_mem (List.mem_of_getElem? hk)
  unfold cPt tPt contE
  rw [part_at hk]
  refine ⟨by omega, by rw [show (((nzF (fun i => v.getD i 0) (opn y.moves).1)[j].layer.toNat : Nat) : Int) = (nzF (fun i => v.getD i 0) (opn y.moves).1)[j].layer by omega], e⟩
theorem can_dv (hE : EndsV y v (nzF (fun i => v.getD i 0) (opn y.moves).1)) (hl : ts.length = y.coals.length) : canB (partsL y [v]) ts = true ↔ dvY y v ts := by
  have hr : ∀ j, 0 ≤ v.getD j 0 := fun j => (getD_bd (B := 1048576) (by decide) hE.nn j).1
  unfold dvY
  rw [Dv_iff]
  constructor
  · intro h
    obtain ⟨h0, hs, hh⟩ := canB_iff.1 h
    have hall : allT (partsL y [v]) = sF (fun k => v.getD k 0) (opn y.moves).1 := by
      rw [allT_sF, ← nz_sum (f := fun k => v.getD k 0) (g := fun k => v.getD k 0) (fun j hj => by have := hr j; omega), hE.len]
      refine sF_congr fun j hj => ?_
      have h1 := hE.room hj
      unfold roomL at h1
      rw [h1]
      exact (nz_at hE hj).2.2
    have H : HallX y.coals.length (opn y.moves).1 (fun i => ts.getD i 0) (fun k => v.getD k 0) (fun k i => (contE y k).getD i 0) := by
      refine ⟨fun i hi => ?_, fun j _ => hr j, fun j i _ _ => cE_nn hE.gy j i, ?_, fun S => ?_⟩
      · rw [List.getD_eq_getElem?_getD, List.getElem?_eq_getElem (by omega)]
        exact (h0 _ (List.getElem_mem _)).1
      · rw [← hall, ← hs, sumI_sF, hl]
      · have h1 := hh S
        rw [hl] at h1
        refine Int.le_trans h1 (Int.le_of_eq ?_)
        unfold totS
        have hz : ∀ j, ¬ v.getD j 0 > 0 → min (v.getD j 0) (sS (fun i => (contE y j).getD i 0) S y.coals.length) = 0 := fun j hj => by
          have a := hr j
          have b := sS_nn (f := fun i => (contE y j).getD i 0) (S := S) (n := y.coals.length) fun i _ => cE_nn hE.gy j i
          omega
        rw [← nz_sum hz, hE.len]
        refine sF_congr fun j hj => ?_
        obtain ⟨_, a2, a3⟩ := nz_at hE hj
        rw [hE.room hj, a3]
        congr 1
        refine sF_congr fun i hi => ?_
        rw [hE.cont hj hi, a2]
    obtain ⟨q, hq⟩ := Int.eq_ofNat_of_zero_le (sF_nn (f := fun k => v.getD k 0) (n := (opn y.moves).1) fun j _ => hr j)
    obtain ⟨x, x1, x2, x3⟩ := H.div q hq
    refine ⟨x, fun j i _ h2 hi => x1 j i (by omega) hi, fun j _ h2 => x2 j (by omega), fun i hi => ?_⟩
    rw [← x3 i hi]
    exact sF_congr fun j _ => by rw [Nat.zero_add]
  · rintro ⟨X, X1, X2, X3⟩
    refine can_div (x := fun j i => X ((nzF (fun i => v.getD i 0) (opn y.moves).1).getD j ⟨0, 0⟩).layer.toNat i) (fun i hi => ?_) (fun j i hj hi => ?_) fun j hj => ?_
    · rw [hl] at hi
      rw [hE.len, ← X3 i hi]
      have hz : ∀ j, ¬ v.getD j 0 > 0 → (if j < (opn y.moves).1 then X j i else 0) = 0 := fun j hj => by
        split
        · rename_i hlt
          have e := X2 j (by omega) (by omega)
          have := hr j
          exact sF_z (f := X j) (m := y.coals.length) (fun q hq => (X1 j q (by omega) (by omega) hq).1) (by omega) i hi
        · rfl
      have := nz_sum (f := fun j => if j < (opn y.moves).1 then X j i else 0) (g := fun i => v.getD i 0) hz (opn y.moves).1
      rw [sF_congr (f := fun j => if j < (opn y.moves).1 then X j i else 0) (g := fun j => X (0 + j) i) fun k hk => by rw [if_pos hk, Nat.zero_add]] at this
      rw [← this]
      exact sF_congr fun k hk => if_pos (nz_at hE hk).1
    · rw [hE.len] at hj
      rw [hl] at hi
      obtain ⟨h1, h2, _⟩ := nz_at hE hj
      rw [hE.cont hj hi, h2]
      exact X1 _ i (by omega) (by omega) hi
    · rw [hE.len] at hj
      obtain ⟨h1, _, h3⟩ := nz_at hE hj
      rw [hl, hE.room hj, h3]
      exact X2 _ (by omega) (by omega)
end
end Go.Proofs.Ytpefpafijadfmaa
