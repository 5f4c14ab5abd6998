/-
  Walks.
-/
import Derived.Test.YtpefpafijadfmaaHT
import Derived.Test.YtpefpafijadfmaaP12
import Derived.Test.YtpefpafijadfmaaHW
namespace Go.Proofs.Ytpefpafijadfmaa
open Go Go.H
set_option maxRecDepth 100000
set_option maxHeartbeats 8000000
set_option linter.all false
theorem within_c (n l u : Int) {h : Hp} {R : Ending → Hp → Prop} (H1 : l ≤ n → n ≤ u → R (.returned (.bool true)) h) (H2 : ¬ (l ≤ n ∧ n ≤ u) → R (.returned (.bool false)) h) :
    ACalls Try.prog 31 ⟨[.int .i64 n, .int .i64 l, .int .i64 u]⟩ h R := by
  refine calls_of_xc (N := 15) Try.func31 rfl (by rfl) ?_
  refine xc_seq (xc_region ?_)
  refine xr_op rfl rfl (xv_assign rfl ?_)
  refine xr_end rfl ?_
  refine th_n ?_
  refine xc_seq (xc_region ?_)
  refine xr_op rfl rfl (xv_move rfl ?_)
  refine xr_op rfl rfl (xv_move rfl ?_)
  refine xr_op rfl rfl (xv_leq2 rfl rfl (fun q1 => ?_) (fun q1 => ?_))
  · refine xr_op rfl rfl (xv_move rfl ?_)
    refine xr_gd rfl rfl rfl (xv_move rfl ?_)
    refine xr_gd rfl rfl rfl (xv_move rfl ?_)
    refine xr_gd rfl rfl rfl (xv_leq2 rfl rfl (fun q2 => ?_) (fun q2 => ?_))
    · refine xr_op rfl rfl (xv_pick rfl rfl ?_)
      refine xr_op rfl rfl (xv_assign rfl ?_)
      refine xr_end rfl ?_
      refine th_n ?_
      refine xc_ret ?_
      refine body_ret (h' := h) rfl (ro_tmp rfl ro_nil) (by (first|((repeat first|exact s_0|exact s_1|exact s_3|refine s_4 ?_|refine s_5 ?_|refine s_6 ?_|refine s_7 ?_);done)|((repeat first|exact s_0|exact s_1|exact s_3|refine s_4 ?_|refine s_5 ?_|refine s_6 ?_|refine s_8 ?_);done))) ?_
      first | exact H1 (by omega) (by omega) | exact H2 (by omega)
    · refine xr_op rfl rfl (xv_pick rfl rfl ?_)
      refine xr_op rfl rfl (xv_assign rfl ?_)
      refine xr_end rfl ?_
      refine th_n ?_
      refine xc_ret ?_
      refine body_ret (h' := h) rfl (ro_tmp rfl ro_nil) (by (first|((repeat first|exact s_0|exact s_1|exact s_3|refine s_4 ?_|refine s_5 ?_|refine s_6 ?_|refine s_7 ?_);done)|((repeat first|exact s_0|exact s_1|exact s_3|refine s_4 ?_|refine s_5 ?_|refine s_6 ?_|refine s_8 ?_);done))) ?_
      first | exact H1 (by omega) (by omega) | exact H2 (by omega)
  · refine xr_op rfl rfl (xv_move rfl ?_)
    refine xr_no rfl rfl rfl rfl ?_
    refine xr_no rfl rfl rfl rfl ?_
    refine xr_no rfl rfl rfl rfl ?_
    refine xr_op rfl rfl (xv_pick rfl rfl ?_)
    refine xr_op rfl rfl (xv_assign rfl ?_)
    refine xr_end rfl ?_
    refine th_n ?_
    refine xc_ret ?_
    refine body_ret (h' := h) rfl (ro_tmp rfl ro_nil) (by (first|((repeat first|exact s_0|exact s_1|exact s_3|refine s_4 ?_|refine s_5 ?_|refine s_6 ?_|refine s_7 ?_);done)|((repeat first|exact s_0|exact s_1|exact s_3|refine s_4 ?_|refine s_5 ?_|refine s_6 ?_|refine s_8 ?_);done))) ?_
    first | exact H1 (by omega) (by omega) | exact H2 (by omega)

theorem in_c (n l u : Int) {h : Hp} {R : Ending → Hp → Prop} (H1 : l ≤ n → n ≤ u → R (.returned (.bool true)) h) (H2 : ¬ (l ≤ n ∧ n ≤ u) → R (.returned (.bool false)) h) :
    ACalls Try.prog 37 ⟨[.int .i64 n, .int .i64 l, .int .i64 u]⟩ h R := by
  refine calls_of_xc (N := 15) Try.func37 rfl (by rfl) ?_
  refine xc_seq (xc_region ?_)
  refine xr_op rfl rfl (xv_assign rfl ?_)
  refine xr_end rfl ?_
  refine th_n ?_
  refine xc_seq (xc_region ?_)
  refine xr_op rfl rfl (xv_move rfl ?_)
  refine xr_op rfl rfl (xv_move rfl ?_)
  refine xr_op rfl rfl (xv_leq2 rfl rfl (fun q1 => ?_) (fun q1 => ?_))
  · refine xr_op rfl rfl (xv_move rfl ?_)
    refine xr_gd rfl rfl rfl (xv_move rfl ?_)
    refine xr_gd rfl rfl rfl (xv_move rfl ?_)
    refine xr_gd rfl rfl rfl (xv_leq2 rfl rfl (fun q2 => ?_) (fun q2 => ?_))
    · refine xr_op rfl rfl (xv_pick rfl rfl ?_)
      refine xr_op rfl rfl (xv_assign rfl ?_)
      refine xr_end rfl ?_
      refine th_n ?_
      refine xc_ret ?_
      refine body_ret (h' := h) rfl (ro_tmp rfl ro_nil) (by (first|((repeat first|exact s_0|exact s_1|exact s_3|refine s_4 ?_|refine s_5 ?_|refine s_6 ?_|refine s_7 ?_);done)|((repeat first|exact s_0|exact s_1|exact s_3|refine s_4 ?_|refine s_5 ?_|refine s_6 ?_|refine s_8 ?_);done))) ?_
      first | exact H1 (by omega) (by omega) | exact H2 (by omega)
    · refine xr_op rfl rfl (xv_pick rfl rfl ?_)
      refine xr_op rfl rfl (xv_assign rfl ?_)
      refine xr_end rfl ?_
      refine th_n ?_
      refine xc_ret ?_
      refine body_ret (h' := h) rfl (ro_tmp rfl ro_nil) (by (first|((repeat first|exact s_0|exact s_1|exact s_3|refine s_4 ?_|refine s_5 ?_|refine s_6 ?_|refine s_7 ?_);done)|((repeat first|exact s_0|exact s_1|exact s_3|refine s_4 ?_|refine s_5 ?_|refine s_6 ?_|refine s_8 ?_);done))) ?_
      first | exact H1 (by omega) (by omega) | exact H2 (by omega)
  · refine xr_op rfl rfl (xv_move rfl ?_)
    refine xr_no rfl rfl rfl rfl ?_
    refine xr_no rfl rfl rfl rfl ?_
    refine xr_no rfl rfl rfl rfl ?_
    refine xr_op rfl rfl (xv_pick rfl rfl ?_)
    refine xr_op rfl rfl (xv_assign rfl ?_)
    refine xr_end rfl ?_
    refine th_n ?_
    refine xc_ret ?_
    refine body_ret (h' := h) rfl (ro_tmp rfl ro_nil) (by (first|((repeat first|exact s_0|exact s_1|exact s_3|refine s_4 ?_|refine s_5 ?_|refine s_6 ?_|refine s_7 ?_);done)|((repeat first|exact s_0|exact s_1|exact s_3|refine s_4 ?_|refine s_5 ?_|refine s_6 ?_|refine s_8 ?_);done))) ?_
    first | exact H1 (by omega) (by omega) | exact H2 (by omega)

theorem rspan_c {s : Span} {h : Hp} {R : Ending → Hp → Prop} (H1 : spanOk s → R (.returned (.bool true)) h) (H2 : ¬ spanOk s → R (.returned (.bool false)) h) :
    ACalls Try.prog 51 ⟨[.agg ⟨eSpan s⟩]⟩ h R := by
  refine calls_of_xc (N := 18) Try.func51 rfl (by rfl) ?_
  refine xc_seq (xc_region ?_)
  refine xr_op rfl rfl (xv_box rfl (fun b1 hb1 => ?_))
  refine xr_op rfl rfl (xv_assign rfl ?_)
  refine xr_end rfl ?_
  refine th_n ?_
  refine xc_seq (xc_region ?_)
  refine xr_op rfl rfl (xv_faddr fl33_0 rfl ?_)
  refine xr_op rfl rfl (xv_load1 ty3 rfl rfl (by ((repeat first|exact z_0|assumption|refine z_1 ?_|(refine z_l ?_;(repeat first|exact z_0|assumption|refine z_1 ?_);done)|refine z_r ?_);done)) (by rfl) ?_)
  refine xr_op rfl rfl (xv_geq2 rfl rfl (fun q2 => ?_) (fun q2 => ?_))
  · refine xr_op rfl rfl (xv_move rfl ?_)
    refine xr_gd rfl rfl rfl (xv_faddr fl33_0 rfl ?_)
    refine xr_gd rfl rfl rfl (xv_load1 ty3 rfl rfl (by ((repeat first|exact z_0|assumption|refine z_1 ?_|(refine z_l ?_;(repeat first|exact z_0|assumption|refine z_1 ?_);done)|refine z_r ?_);done)) (by rfl) ?_)
    refine xr_gd rfl rfl rfl (xv_faddr fl33_1 rfl ?_)
    refine xr_gd rfl rfl rfl (xv_load1 ty3 rfl rfl (by ((repeat first|exact z_0|assumption|refine z_1 ?_|(refine z_l ?_;(repeat first|exact z_0|assumption|refine z_1 ?_);done)|refine z_r ?_);done)) (by rfl) ?_)
    refine xr_gd rfl rfl rfl (xv_leq2 rfl rfl (fun q3 => ?_) (fun q3 => ?_))
    · refine xr_op rfl rfl (xv_pick rfl rfl ?_)
      refine xr_op rfl rfl (xv_move rfl ?_)
      refine xr_gd rfl rfl rfl (xv_faddr fl33_1 rfl ?_)
      refine xr_gd rfl rfl rfl (xv_load1 ty3 rfl rfl (by ((repeat first|exact z_0|assumption|refine z_1 ?_|(refine z_l ?_;(repeat first|exact z_0|assumption|refine z_1 ?_);done)|refine z_r ?_);done)) (by rfl) ?_)
      refine xr_gd rfl rfl rfl (xv_leq2 rfl rfl (fun q4 => ?_) (fun q4 => ?_))
      · refine xr_op rfl rfl (xv_pick rfl rfl ?_)
        refine xr_op rfl rfl (xv_assign rfl ?_)
        refine xr_end rfl ?_
        refine th_n ?_
        refine xc_ret ?_
        refine body_ret (h' := h) rfl (ro_tmp rfl ro_nil) (by (first|((repeat first|exact s_0|exact s_1|exact s_3|refine s_4 ?_|refine s_5 ?_|refine s_6 ?_|refine s_7 ?_);done)|((repeat first|exact s_0|exact s_1|exact s_3|refine s_4 ?_|refine s_5 ?_|refine s_6 ?_|refine s_8 ?_);done))) ?_
        first | exact H1 (by unfold spanOk; omega) | exact H2 (fun hq9 => by unfold spanOk at hq9; omega)
      · refine xr_op rfl rfl (xv_pick rfl rfl ?_)
        refine xr_op rfl rfl (xv_assign rfl ?_)
        refine xr_end rfl ?_
        refine th_n ?_
        refine xc_ret ?_
        refine body_ret (h' := h) rfl (ro_tmp rfl ro_nil) (by (first|((repeat first|exact s_0|exact s_1|exact s_3|refine s_4 ?_|refine s_5 ?_|refine s_6 ?_|refine s_7 ?_);done)|((repeat first|exact s_0|exact s_1|exact s_3|refine s_4 ?_|refine s_5 ?_|refine s_6 ?_|refine s_8 ?_);done))) ?_
        first | exact H1 (by unfold spanOk; omega) | exact H2 (fun hq9 => by unfold spanOk at hq9; omega)
    · refine xr_op rfl rfl (xv_pick rfl rfl ?_)
      refine xr_op rfl rfl (xv_move rfl ?_)
      refine xr_no rfl rfl rfl rfl ?_
      refine xr_no rfl rfl rfl rfl ?_
      refine xr_no rfl rfl rfl rfl ?_
      refine xr_op rfl rfl (xv_pick rfl rfl ?_)
      refine xr_op rfl rfl (xv_assign rfl ?_)
      refine xr_end rfl ?_
      refine th_n ?_
      refine xc_ret ?_
      refine body_ret (h' := h) rfl (ro_tmp rfl ro_nil) (by (first|((repeat first|exact s_0|exact s_1|exact s_3|refine s_4 ?_|refine s_5 ?_|refine s_6 ?_|refine s_7 ?_);done)|((repeat first|exact s_0|exact s_1|exact s_3|refine s_4 ?_|refine s_5 ?_|refine s_6 ?_|refine s_8 ?_);done))) ?_
      first | exact H1 (by unfold spanOk; omega) | exact H2 (fun hq9 => by unfold spanOk at hq9; omega)
  · refine xr_op rfl rfl (xv_move rfl ?_)
    refine xr_no rfl rfl rfl rfl ?_
    refine xr_no rfl rfl rfl rfl ?_
    refine xr_no rfl rfl rfl rfl ?_
    refine xr_no rfl rfl rfl rfl ?_
    refine xr_no rfl rfl rfl rfl ?_
    refine xr_op rfl rfl (xv_pick rfl rfl ?_)
    refine xr_op rfl rfl (xv_move rfl ?_)
    refine xr_no rfl rfl rfl rfl ?_
    refine xr_no rfl rfl rfl rfl ?_
    refine xr_no rfl rfl rfl rfl ?_
    refine xr_op rfl rfl (xv_pick rfl rfl ?_)
    refine xr_op rfl rfl (xv_assign rfl ?_)
    refine xr_end rfl ?_
    refine th_n ?_
    refine xc_ret ?_
    refine body_ret (h' := h) rfl (ro_tmp rfl ro_nil) (by (first|((repeat first|exact s_0|exact s_1|exact s_3|refine s_4 ?_|refine s_5 ?_|refine s_6 ?_|refine s_7 ?_);done)|((repeat first|exact s_0|exact s_1|exact s_3|refine s_4 ?_|refine s_5 ?_|refine s_6 ?_|refine s_8 ?_);done))) ?_
    first | exact H1 (by unfold spanOk; omega) | exact H2 (fun hq9 => by unfold spanOk at hq9; omega)

theorem Yard_c {y : Yard} {h : Hp} {R : Ending → Hp → Prop} (hy : YardV h y) (hs : Small y) (H1 : GoodYard y → R (.returned (.bool true)) h) (H2 : ¬ GoodYard y → R (.returned (.bool false)) h) :
    ACalls Try.prog 24 ⟨[.agg ⟨eYard y⟩]⟩ h R := by
  refine calls_of_xc (N := 99) Try.func24 rfl (by rfl) ?_
  obtain ⟨hs1, hs2⟩ := hs
  refine xc_seq (xc_region ?_)
  refine xr_op rfl rfl (xv_box rfl (fun b1 hb1 => ?_))
  refine xr_op rfl rfl (xv_assign rfl ?_)
  refine xr_end rfl ?_
  refine th_n ?_
  refine xc_seq ?_
  refine xc_seq (xc_region ?_)
  refine xr_op rfl rfl (xv_assign rfl ?_)
  refine xr_end rfl ?_
  refine th_n ?_
  refine xc_block ?_
  refine xc_loop (σ := Nat) (fun k => k ≤ y.coals.length ∧ ∀ x ∈ y.coals.take k, coalOk x) (fun k => ((emp.put (some 1) (.pointer (some ⟨b1, 0, none⟩))).put (some 3) (I k))) (fun k => ((b1, .cells ⟨eYard y⟩ 25) :: h)) (fun k => y.coals.length - k) 0 ⟨Nat.zero_le _, fun x hx => by simp at hx⟩ (le_put (le_put (le_emp _) rfl) rfl) (by (first|((repeat first|exact s_0|exact s_1|exact s_3|refine s_4 ?_|refine s_5 ?_|refine s_6 ?_|refine s_7 ?_);done)|((repeat first|exact s_0|exact s_1|exact s_3|refine s_4 ?_|refine s_5 ?_|refine s_6 ?_|refine s_8 ?_);done))) ?_
  rintro k ⟨hk, hal⟩
  refine xc_seq ?_
  refine xc_seq (xc_region ?_)
  refine xr_op rfl rfl (xv_move rfl ?_)
  refine xr_op rfl rfl (xv_faddr fl25_0 rfl ?_)
  refine xr_op rfl rfl (xv_load1 ty22 rfl rfl (by ((repeat first|exact z_0|assumption|refine z_1 ?_|(refine z_l ?_;(repeat first|exact z_0|assumption|refine z_1 ?_);done)|refine z_r ?_);done)) (by rfl) ?_)
  refine xr_op rfl rfl (xv_len sl22 rfl ?_)
  refine xr_op rfl rfl (xv_lss2 rfl rfl (fun q1 => ?_) (fun q1 => ?_))
  · refine xr_end rfl ?_
    refine th_n ?_
    refine xc_true rfl ?_
    refine xc_skip ?_
    refine th_n ?_
    refine xc_seq ?_
    refine xc_block ?_
    refine xc_seq (xc_region ?_)
    refine xr_op rfl rfl (xv_faddr fl25_0 rfl ?_)
    refine xr_op rfl rfl (xv_load1 ty22 rfl rfl (by ((repeat first|exact z_0|assumption|refine z_1 ?_|(refine z_l ?_;(repeat first|exact z_0|assumption|refine z_1 ?_);done)|refine z_r ?_);done)) (by rfl) ?_)
    refine xr_op rfl rfl (xv_move rfl ?_)
    have hlto : k < y.coals.length := by (first|omega|(dsimp only at *;omega)|(simp at *;omega))
    obtain ⟨bo, oo, lo, to, fzo, hao, hmo, hxo⟩ := (hy.coals).at hlto
    obtain ⟨xo, hko⟩ : ∃ qq_, y.coals[k]? = some qq_ := ⟨_, List.getElem?_eq_getElem hlto⟩
    refine xr_op rfl rfl (xv_ia (sz := 8) (j := k) sl22 ty59 rfl (by rw [hao]; rfl) rfl (by (first | assumption | with_reducible exact Int.toNat_natCast _ | with_reducible rfl | rfl)) (by (first|omega|(dsimp only at *;omega)|(simp at *;omega))) (by (first|omega|(dsimp only at *;omega)|(simp at *;omega))) ?_)
    refine xr_op rfl rfl (xv_loadA ty59 rfl rfl (by ((repeat first|exact z_0|assumption|refine z_1 ?_|(refine z_l ?_;(repeat first|exact z_0|assumption|refine z_1 ?_);done)|refine z_r ?_);done)) (hxo (k) xo hko) rfl ?_)
    refine xr_op rfl rfl (xv_alloc ty59 (fun b4 hb4 => ?_))
    refine xr_op rfl rfl (xv_s ty59 rfl rfl (by (first|(apply u_3;(repeat first|exact u_0|assumption|apply u_1|apply u_2);done)|((repeat first|exact u_0|assumption|apply u_1|apply u_2);done)|(apply u_3;apply u_3;(repeat first|exact u_0|assumption|apply u_1|apply u_2);done)|((repeat first|exact u_0|assumption|apply u_3|apply u_1);done))) (by ((try apply evl_some rfl);(repeat (first|exact (rfl : _ = [])|apply evl_cons rfl (by (first|exact v_1|exact v_2|exact v_3|exact v_4|exact v_5|exact v_6|exact v_7|exact v_8|exact v_9|exact rfl))|exact rfl)))) (by rfl) (by rfl) (by rfl) (by ((try apply evl_some rfl);(repeat (first|exact (rfl : _ = [])|apply evl_cons rfl (by (first|exact v_1|exact v_2|exact v_3|exact v_4|exact v_5|exact v_6|exact v_7|exact v_8|exact v_9|exact rfl))|exact rfl)))) ?_)
    refine xr_end rfl ?_
    refine th_n ?_
    refine xc_seq (xc_region ?_)
    refine xr_op rfl rfl (xv_faddr fl59_0 rfl ?_)
    refine xr_op rfl rfl (xv_loadA ty33 rfl rfl (by ((repeat first|exact z_0|assumption|refine z_1 ?_|(refine z_l ?_;(repeat first|exact z_0|assumption|refine z_1 ?_);done)|refine z_r ?_);done)) (by ((try apply evl_some rfl);(repeat (first|exact (rfl : _ = [])|apply evl_cons rfl (by (first|exact v_1|exact v_2|exact v_3|exact v_4|exact v_5|exact v_6|exact v_7|exact v_8|exact v_9|exact rfl))|exact rfl)))) (by rfl) ?_)
    refine xr_op rfl rfl (xv_calls rfl hb51 (rspan_c (s := xo.gas) (fun ha => up_ret ?_) (fun ha => up_ret ?_)))
    · refine xr_op rfl rfl (xv_not rfl ?_)
      refine xr_op rfl rfl (xv_move rfl ?_)
      refine xr_gd rfl rfl rfl (xv_faddr fl59_1 rfl ?_)
      refine xr_gd rfl rfl rfl (xv_loadA ty33 rfl rfl (by ((repeat first|exact z_0|assumption|refine z_1 ?_|(refine z_l ?_;(repeat first|exact z_0|assumption|refine z_1 ?_);done)|refine z_r ?_);done)) (by ((try apply evl_some rfl);(repeat (first|exact (rfl : _ = [])|apply evl_cons rfl (by (first|exact v_1|exact v_2|exact v_3|exact v_4|exact v_5|exact v_6|exact v_7|exact v_8|exact v_9|exact rfl))|exact rfl)))) (by rfl) ?_)
      refine xr_gd rfl rfl rfl (xv_calls rfl hb51 (rspan_c (s := xo.tar) (fun hb => up_ret ?_) (fun hb => up_ret ?_)))
      · refine xr_gd rfl rfl rfl (xv_not rfl ?_)
        refine xr_op rfl rfl (xv_pick rfl rfl ?_)
        refine xr_op rfl rfl (xv_move rfl ?_)
        refine xr_gd rfl rfl rfl (xv_faddr fl59_2 rfl ?_)
        refine xr_gd rfl rfl rfl (xv_loadA ty33 rfl rfl (by ((repeat first|exact z_0|assumption|refine z_1 ?_|(refine z_l ?_;(repeat first|exact z_0|assumption|refine z_1 ?_);done)|refine z_r ?_);done)) (by ((try apply evl_some rfl);(repeat (first|exact (rfl : _ = [])|apply evl_cons rfl (by (first|exact v_1|exact v_2|exact v_3|exact v_4|exact v_5|exact v_6|exact v_7|exact v_8|exact v_9|exact rfl))|exact rfl)))) (by rfl) ?_)
        refine xr_gd rfl rfl rfl (xv_calls rfl hb51 (rspan_c (s := xo.sulphur) (fun hc => up_ret ?_) (fun hc => up_ret ?_)))
        · refine xr_gd rfl rfl rfl (xv_not rfl ?_)
          refine xr_op rfl rfl (xv_pick rfl rfl ?_)
          refine xr_op rfl rfl (xv_move rfl ?_)
          refine xr_gd rfl rfl rfl (xv_faddr fl59_3 rfl ?_)
          refine xr_gd rfl rfl rfl (xv_loadA ty33 rfl rfl (by ((repeat first|exact z_0|assumption|refine z_1 ?_|(refine z_l ?_;(repeat first|exact z_0|assumption|refine z_1 ?_);done)|refine z_r ?_);done)) (by ((try apply evl_some rfl);(repeat (first|exact (rfl : _ = [])|apply evl_cons rfl (by (first|exact v_1|exact v_2|exact v_3|exact v_4|exact v_5|exact v_6|exact v_7|exact v_8|exact v_9|exact rfl))|exact rfl)))) (by rfl) ?_)
          refine xr_gd rfl rfl rfl (xv_calls rfl hb51 (rspan_c (s := xo.coke) (fun hd => up_ret ?_) (fun hd => up_ret ?_)))
          · refine xr_gd rfl rfl rfl (xv_not rfl ?_)
            refine xr_op rfl rfl (xv_pick rfl rfl ?_)
            refine xr_end rfl ?_
            refine th_n ?_
            refine xc_false rfl ?_
            refine xc_skip ?_
            refine bk_n ?_
            refine th_n ?_
            refine xc_region ?_
            refine xr_op rfl rfl (xv_move rfl ?_)
            refine xr_op rfl rfl (xv_add rfl rfl (wrap_i64 (by (first|omega|(dsimp only at *;omega)|(simp at *;omega))) (by (first|omega|(dsimp only at *;omega)|(simp at *;omega)))) ?_)
            refine xr_op rfl rfl (xv_assign rfl ?_)
            refine xr_end rfl ?_
            exact rnd (k + 1) ⟨by (first|omega|(dsimp only at *;omega)|(simp at *;omega)), (take_all hko).2 ⟨hal, ha, hb, hc, hd⟩⟩ (by (first|omega|(dsimp only at *;omega)|(simp at *;omega))) (le_put (le_put (le_emp _) rfl) rfl) (by (first|((repeat first|exact s_0|exact s_1|exact s_3|refine s_4 ?_|refine s_5 ?_|refine s_6 ?_|refine s_7 ?_);done)|((repeat first|exact s_0|exact s_1|exact s_3|refine s_4 ?_|refine s_5 ?_|refine s_6 ?_|refine s_8 ?_);done)))
          · refine xr_gd rfl rfl rfl (xv_not rfl ?_)
            refine xr_op rfl rfl (xv_pick rfl rfl ?_)
            refine xr_end rfl ?_
            refine th_n ?_
            refine xc_true rfl ?_
            refine xc_seq (xc_region ?_)
            have hbc : ¬ coalOk xo := by
              rintro ⟨z1, z2, z3, z4⟩
              first | exact absurd z1 (by assumption) | exact absurd z2 (by assumption) | exact absurd z3 (by assumption) | exact absurd z4 (by assumption)
            refine xr_op rfl rfl (xv_assign rfl ?_)
            refine xr_end rfl ?_
            refine th_n ?_
            refine xc_ret ?_
            refine bk_r ?_
            refine th_r ?_
            refine th_r ?_
            refine bk_r ?_
            refine th_r ?_
            refine body_ret (h' := h) rfl (ro_tmp rfl ro_nil) (by (first|((repeat first|exact s_0|exact s_1|exact s_3|refine s_4 ?_|refine s_5 ?_|refine s_6 ?_|refine s_7 ?_);done)|((repeat first|exact s_0|exact s_1|exact s_3|refine s_4 ?_|refine s_5 ?_|refine s_6 ?_|refine s_8 ?_);done))) ?_
            first | exact H2 (fun hq9 => hbc (hq9.1 xo (List.mem_of_getElem? hko))) | exact H2 (fun hq9 => hbm (movesOk_at hq9.2.1 hko)) | exact H1 ⟨hco, hmo, by omega, by omega⟩ | exact H2 (fun hq9 => by have h9 := hq9.2.2; omega)
        · refine xr_gd rfl rfl rfl (xv_not rfl ?_)
          refine xr_op rfl rfl (xv_pick rfl rfl ?_)
          refine xr_op rfl rfl (xv_move rfl ?_)
          refine xr_no rfl rfl rfl rfl ?_
          refine xr_no rfl rfl rfl rfl ?_
          refine xr_no rfl rfl rfl rfl ?_
          refine xr_no rfl rfl rfl rfl ?_
          refine xr_op rfl rfl (xv_pick rfl rfl ?_)
          refine xr_end rfl ?_
          refine th_n ?_
          refine xc_true rfl ?_
          refine xc_seq (xc_region ?_)
          have hbc : ¬ coalOk xo := by
            rintro ⟨z1, z2, z3, z4⟩
            first | exact absurd z1 (by assumption) | exact absurd z2 (by assumption) | exact absurd z3 (by assumption) | exact absurd z4 (by assumption)
          refine xr_op rfl rfl (xv_assign rfl ?_)
          refine xr_end rfl ?_
          refine th_n ?_
          refine xc_ret ?_
          refine bk_r ?_
          refine th_r ?_
          refine th_r ?_
          refine bk_r ?_
          refine th_r ?_
          refine body_ret (h' := h) rfl (ro_tmp rfl ro_nil) (by (first|((repeat first|exact s_0|exact s_1|exact s_3|refine s_4 ?_|refine s_5 ?_|refine s_6 ?_|refine s_7 ?_);done)|((repeat first|exact s_0|exact s_1|exact s_3|refine s_4 ?_|refine s_5 ?_|refine s_6 ?_|refine s_8 ?_);done))) ?_
          first | exact H2 (fun hq9 => hbc (hq9.1 xo (List.mem_of_getElem? hko))) | exact H2 (fun hq9 => hbm (movesOk_at hq9.2.1 hko)) | exact H1 ⟨hco, hmo, by omega, by omega⟩ | exact H2 (fun hq9 => by have h9 := hq9.2.2; omega)
      · refine xr_gd rfl rfl rfl (xv_not rfl ?_)
        refine xr_op rfl rfl (xv_pick rfl rfl ?_)
        refine xr_op rfl rfl (xv_move rfl ?_)
        refine xr_no rfl rfl rfl rfl ?_
        refine xr_no rfl rfl rfl rfl ?_
        refine xr_no rfl rfl rfl rfl ?_
        refine xr_no rfl rfl rfl rfl ?_
        refine xr_op rfl rfl (xv_pick rfl rfl ?_)
        refine xr_op rfl rfl (xv_move rfl ?_)
        refine xr_no rfl rfl rfl rfl ?_
        refine xr_no rfl rfl rfl rfl ?_
        refine xr_no rfl rfl rfl rfl ?_
        refine xr_no rfl rfl rfl rfl ?_
        refine xr_op rfl rfl (xv_pick rfl rfl ?_)
        refine xr_end rfl ?_
        refine th_n ?_
        refine xc_true rfl ?_
        refine xc_seq (xc_region ?_)
        have hbc : ¬ coalOk xo := by
          rintro ⟨z1, z2, z3, z4⟩
          first | exact absurd z1 (by assumption) | exact absurd z2 (by assumption) | exact absurd z3 (by assumption) | exact absurd z4 (by assumption)
        refine xr_op rfl rfl (xv_assign rfl ?_)
        refine xr_end rfl ?_
        refine th_n ?_
        refine xc_ret ?_
        refine bk_r ?_
        refine th_r ?_
        refine th_r ?_
        refine bk_r ?_
        refine th_r ?_
        refine body_ret (h' := h) rfl (ro_tmp rfl ro_nil) (by (first|((repeat first|exact s_0|exact s_1|exact s_3|refine s_4 ?_|refine s_5 ?_|refine s_6 ?_|refine s_7 ?_);done)|((repeat first|exact s_0|exact s_1|exact s_3|refine s_4 ?_|refine s_5 ?_|refine s_6 ?_|refine s_8 ?_);done))) ?_
        first | exact H2 (fun hq9 => hbc (hq9.1 xo (List.mem_of_getElem? hko))) | exact H2 (fun hq9 => hbm (movesOk_at hq9.2.1 hko)) | exact H1 ⟨hco, hmo, by omega, by omega⟩ | exact H2 (fun hq9 => by have h9 := hq9.2.2; omega)
    · refine xr_op rfl rfl (xv_not rfl ?_)
      refine xr_op rfl rfl (xv_move rfl ?_)
      refine xr_no rfl rfl rfl rfl ?_
      refine xr_no rfl rfl rfl rfl ?_
      refine xr_no rfl rfl rfl rfl ?_
      refine xr_no rfl rfl rfl rfl ?_
      refine xr_op rfl rfl (xv_pick rfl rfl ?_)
      refine xr_op rfl rfl (xv_move rfl ?_)
      refine xr_no rfl rfl rfl rfl ?_
      refine xr_no rfl rfl rfl rfl ?_
      refine xr_no rfl rfl rfl rfl ?_
      refine xr_no rfl rfl rfl rfl ?_
      refine xr_op rfl rfl (xv_pick rfl rfl ?_)
      refine xr_op rfl rfl (xv_move rfl ?_)
      refine xr_no rfl rfl rfl rfl ?_
      refine xr_no rfl rfl rfl rfl ?_
      refine xr_no rfl rfl rfl rfl ?_
      refine xr_no rfl rfl rfl rfl ?_
      refine xr_op rfl rfl (xv_pick rfl rfl ?_)
      refine xr_end rfl ?_
      refine th_n ?_
      refine xc_true rfl ?_
      refine xc_seq (xc_region ?_)
      have hbc : ¬ coalOk xo := by
        rintro ⟨z1, z2, z3, z4⟩
        first | exact absurd z1 (by assumption) | exact absurd z2 (by assumption) | exact absurd z3 (by assumption) | exact absurd z4 (by assumption)
      refine xr_op rfl rfl (xv_assign rfl ?_)
      refine xr_end rfl ?_
      refine th_n ?_
      refine xc_ret ?_
      refine bk_r ?_
      refine th_r ?_
      refine th_r ?_
      refine bk_r ?_
      refine th_r ?_
      refine body_ret (h' := h) rfl (ro_tmp rfl ro_nil) (by (first|((repeat first|exact s_0|exact s_1|exact s_3|refine s_4 ?_|refine s_5 ?_|refine s_6 ?_|refine s_7 ?_);done)|((repeat first|exact s_0|exact s_1|exact s_3|refine s_4 ?_|refine s_5 ?_|refine s_6 ?_|refine s_8 ?_);done))) ?_
      first | exact H2 (fun hq9 => hbc (hq9.1 xo (List.mem_of_getElem? hko))) | exact H2 (fun hq9 => hbm (movesOk_at hq9.2.1 hko)) | exact H1 ⟨hco, hmo, by omega, by omega⟩ | exact H2 (fun hq9 => by have h9 := hq9.2.2; omega)
  · refine xr_end rfl ?_
    refine th_n ?_
    refine xc_false rfl ?_
    refine xc_exit ?_
    refine th_x ?_
    refine th_x ?_
    refine bk_same ?_
    refine th_n ?_
    refine xc_seq ?_
    refine xc_seq (xc_region ?_)
    have hco : CoalsOk y.coals := by
      have e9 : k = y.coals.length := by (first|omega|(dsimp only at *;omega)|(simp at *;omega))
      rw [e9, List.take_length] at hal; exact hal
    refine xr_op rfl rfl (xv_assign rfl ?_)
    refine xr_end rfl ?_
    refine th_n ?_
    refine xc_block ?_
    refine xc_loop (σ := Nat) (fun k => k ≤ y.moves.length ∧ movesOk y.coals.length 0 (y.moves.take k)) (fun k => ((emp.put (some 1) (.pointer (some ⟨b1, 0, none⟩))).put (some 5) (I k))) (fun k => ((b1, .cells ⟨eYard y⟩ 25) :: h)) (fun k => y.moves.length - k) 0 ⟨Nat.zero_le _, trivial⟩ (le_put (le_put (le_emp _) rfl) rfl) (by (first|((repeat first|exact s_0|exact s_1|exact s_3|refine s_4 ?_|refine s_5 ?_|refine s_6 ?_|refine s_7 ?_);done)|((repeat first|exact s_0|exact s_1|exact s_3|refine s_4 ?_|refine s_5 ?_|refine s_6 ?_|refine s_8 ?_);done))) ?_
    rintro k ⟨hk, hmv⟩
    refine xc_seq ?_
    refine xc_seq (xc_region ?_)
    refine xr_op rfl rfl (xv_move rfl ?_)
    refine xr_op rfl rfl (xv_faddr fl25_1 rfl ?_)
    refine xr_op rfl rfl (xv_load1 ty23 rfl rfl (by ((repeat first|exact z_0|assumption|refine z_1 ?_|(refine z_l ?_;(repeat first|exact z_0|assumption|refine z_1 ?_);done)|refine z_r ?_);done)) (by rfl) ?_)
    refine xr_op rfl rfl (xv_len sl23 rfl ?_)
    refine xr_op rfl rfl (xv_lss2 rfl rfl (fun q2 => ?_) (fun q2 => ?_))
    · refine xr_end rfl ?_
      refine th_n ?_
      refine xc_true rfl ?_
      refine xc_skip ?_
      refine th_n ?_
      refine xc_seq ?_
      refine xc_block ?_
      refine xc_seq (xc_region ?_)
      refine xr_op rfl rfl (xv_faddr fl25_1 rfl ?_)
      refine xr_op rfl rfl (xv_load1 ty23 rfl rfl (by ((repeat first|exact z_0|assumption|refine z_1 ?_|(refine z_l ?_;(repeat first|exact z_0|assumption|refine z_1 ?_);done)|refine z_r ?_);done)) (by rfl) ?_)
      refine xr_op rfl rfl (xv_move rfl ?_)
      have hlto : k < y.moves.length := by (first|omega|(dsimp only at *;omega)|(simp at *;omega))
      obtain ⟨bo, oo, lo, to, fzo, hao, hmo, hxo⟩ := (hy.moves).at hlto
      obtain ⟨xo, hko⟩ : ∃ qq_, y.moves[k]? = some qq_ := ⟨_, List.getElem?_eq_getElem hlto⟩
      refine xr_op rfl rfl (xv_ia (sz := 3) (j := k) sl23 ty63 rfl (by rw [hao]; rfl) rfl (by (first | assumption | with_reducible exact Int.toNat_natCast _ | with_reducible rfl | rfl)) (by (first|omega|(dsimp only at *;omega)|(simp at *;omega))) (by (first|omega|(dsimp only at *;omega)|(simp at *;omega))) ?_)
      refine xr_op rfl rfl (xv_loadA ty63 rfl rfl (by ((repeat first|exact z_0|assumption|refine z_1 ?_|(refine z_l ?_;(repeat first|exact z_0|assumption|refine z_1 ?_);done)|refine z_r ?_);done)) (hxo (k) xo hko) rfl ?_)
      refine xr_op rfl rfl (xv_alloc ty63 (fun b6 hb6 => ?_))
      refine xr_op rfl rfl (xv_s ty63 rfl rfl (by (first|(apply u_3;(repeat first|exact u_0|assumption|apply u_1|apply u_2);done)|((repeat first|exact u_0|assumption|apply u_1|apply u_2);done)|(apply u_3;apply u_3;(repeat first|exact u_0|assumption|apply u_1|apply u_2);done)|((repeat first|exact u_0|assumption|apply u_3|apply u_1);done))) (by ((try apply evl_some rfl);(repeat (first|exact (rfl : _ = [])|apply evl_cons rfl (by (first|exact v_1|exact v_2|exact v_3|exact v_4|exact v_5|exact v_6|exact v_7|exact v_8|exact v_9|exact rfl))|exact rfl)))) (by rfl) (by rfl) (by rfl) (by ((try apply evl_some rfl);(repeat (first|exact (rfl : _ = [])|apply evl_cons rfl (by (first|exact v_1|exact v_2|exact v_3|exact v_4|exact v_5|exact v_6|exact v_7|exact v_8|exact v_9|exact rfl))|exact rfl)))) ?_)
      refine xr_end rfl ?_
      refine th_n ?_
      refine xc_seq ?_
      refine xc_draw0 [(0, .S), (1, .R), (2, .O), (3, .S), (4, .S), (5, .S), (6, .O), (7, .S), (8, .S), (9, .R), (10, .S), (11, .R), (12, .S), (13, .S), (14, .S), (15, .S), (16, .R), (17, .O), (18, .S), (19, .S), (20, .S), (21, .S), (22, .R), (23, .S), (24, .R), (25, .S), (26, .S), (27, .O), (28, .S), (29, .S), (30, .S), (31, .S), (32, .R), (33, .O), (34, .S), (35, .S)] mixed (by kernel_rfl) ?_
      refine js_S rfl rfl (.inl rfl) (xv_faddr fl63_0 rfl ⟨rfl, rfl⟩) ?_
      refine js_R0 rfl rfl (.inl rfl) (xv_load1 ty3 rfl rfl (by ((repeat first|exact z_0|assumption|refine z_1 ?_|(refine z_l ?_;(repeat first|exact z_0|assumption|refine z_1 ?_);done)|refine z_r ?_);done)) (by rfl) ⟨rfl, rfl⟩) ?_
      refine js_O0 rfl rfl (.inl rfl) (xv_calls rfl hb37 (in_c _ _ _ (fun hl3 hu4 => up_ret ?_) (fun hn5 => up_ret ?_)))
      · refine js_S rfl rfl (.inl rfl) (xv_not rfl ⟨rfl, rfl⟩) ?_
        refine js_S rfl rfl (.inl rfl) (xv_move rfl ⟨rfl, rfl⟩) ?_
        refine js_S rfl rfl (.inr ⟨_, _, rfl, rfl⟩) (xv_move rfl ⟨rfl, rfl⟩) ?_
        refine js_O0 rfl rfl (.inr ⟨_, _, rfl, rfl⟩) (xv_gtr2 rfl rfl (fun hq => ?_) (fun hq => ?_))
        · have hltp : (k - 1) < y.moves.length := by (first|omega|(dsimp only at *;omega)|(simp at *;omega))
          obtain ⟨bp, op, lp, tp, fzp, hap, hmp, hxp⟩ := (hy.moves).at hltp
          obtain ⟨xp, hkp⟩ : ∃ qq_, y.moves[(k - 1)]? = some qq_ := ⟨_, List.getElem?_eq_getElem hltp⟩
          have hlp : lastH 0 (y.moves.take k) = xp.hour := lastH_p (by (first|omega|(dsimp only at *;omega)|(simp at *;omega))) hkp
          have hpm := ((movesOk_take (show y.moves[k - 1]? = some xp from hkp)).1 (by rw [show k - 1 + 1 = k by (first|omega|(dsimp only at *;omega)|(simp at *;omega))]; exact hmv)).2.1
          have hp0 : 0 ≤ xp.hour := by
            have h9 : 0 ≤ lastH 0 (y.moves.take (k - 1)) := lastH_0le hmv (by omega)
            omega
          refine js_S rfl rfl (.inr ⟨_, _, rfl, rfl⟩) (xv_move rfl ⟨rfl, rfl⟩) ?_
          refine js_S rfl rfl (.inr ⟨_, _, rfl, rfl⟩) (xv_faddr fl63_0 rfl ⟨rfl, rfl⟩) ?_
          refine js_R0 rfl rfl (.inr ⟨_, _, rfl, rfl⟩) (xv_load1 ty3 rfl rfl (by ((repeat first|exact z_0|assumption|refine z_1 ?_|(refine z_l ?_;(repeat first|exact z_0|assumption|refine z_1 ?_);done)|refine z_r ?_);done)) (by rfl) ⟨rfl, rfl⟩) ?_
          refine js_S rfl rfl (.inr ⟨_, _, rfl, rfl⟩) (xv_faddr fl25_1 rfl ⟨rfl, rfl⟩) ?_
          refine js_R0 rfl rfl (.inr ⟨_, _, rfl, rfl⟩) (xv_load1 ty23 rfl rfl (by ((repeat first|exact z_0|assumption|refine z_1 ?_|(refine z_l ?_;(repeat first|exact z_0|assumption|refine z_1 ?_);done)|refine z_r ?_);done)) (by rfl) ⟨rfl, rfl⟩) ?_
          refine js_S rfl rfl (.inr ⟨_, _, rfl, rfl⟩) (xv_move rfl ⟨rfl, rfl⟩) ?_
          refine js_S rfl rfl (.inr ⟨_, _, rfl, rfl⟩) (xv_sub rfl rfl (wrap_i64 (by (first|omega|(dsimp only at *;omega)|(simp at *;omega))) (by (first|omega|(dsimp only at *;omega)|(simp at *;omega)))) ⟨rfl, rfl⟩) ?_
          refine js_S rfl rfl (.inr ⟨_, _, rfl, rfl⟩) (xv_ia (sz := 3) (j := (k - 1)) sl23 ty63 rfl (by rw [hap]; rfl) rfl (by omega) (by (first|omega|(dsimp only at *;omega)|(simp at *;omega))) (by (first|omega|(dsimp only at *;omega)|(simp at *;omega))) ⟨rfl, rfl⟩) ?_
          refine js_S rfl rfl (.inr ⟨_, _, rfl, rfl⟩) (xv_faddr fl63_0 rfl ⟨rfl, rfl⟩) ?_
          refine js_R0 rfl rfl (.inr ⟨_, _, rfl, rfl⟩) (xv_load1 ty3 rfl rfl (by ((repeat first|exact z_0|assumption|refine z_1 ?_|(refine z_l ?_;(repeat first|exact z_0|assumption|refine z_1 ?_);done)|refine z_r ?_);done)) (take_get (hxp (k - 1) xp hkp) (j := 0) rfl) ⟨rfl, rfl⟩) ?_
          refine js_O0 rfl rfl (.inr ⟨_, _, rfl, rfl⟩) (xv_lss2 rfl rfl (fun hq => ?_) (fun hq => ?_))
          · refine js_S rfl rfl (.inr ⟨_, _, rfl, rfl⟩) (xv_pick rfl rfl ⟨rfl, rfl⟩) ?_
            refine js_S rfl rfl (.inl rfl) (xv_pick rfl rfl ⟨rfl, rfl⟩) ?_
            refine js_S rfl rfl (.inl rfl) (xv_move rfl ⟨rfl, rfl⟩) ?_
            refine js_Ss rfl rfl ⟨_, _, _, rfl, rfl, rfl⟩ ?_
            refine js_Rs rfl rfl ⟨_, _, _, rfl, rfl, rfl⟩ ?_
            refine js_Ss rfl rfl ⟨_, _, _, rfl, rfl, rfl⟩ ?_
            refine js_Rs rfl rfl ⟨_, _, _, rfl, rfl, rfl⟩ ?_
            refine js_Ss rfl rfl ⟨_, _, _, rfl, rfl, rfl⟩ ?_
            refine js_Ss rfl rfl ⟨_, _, _, rfl, rfl, rfl⟩ ?_
            refine js_Os rfl rfl ⟨_, _, _, rfl, rfl, rfl⟩ ?_
            refine js_Ss rfl rfl ⟨_, _, _, rfl, rfl, rfl⟩ ?_
            refine js_S rfl rfl (.inl rfl) (xv_pick rfl rfl ⟨rfl, rfl⟩) ?_
            refine js_S rfl rfl (.inl rfl) (xv_move rfl ⟨rfl, rfl⟩) ?_
            refine js_Ss rfl rfl ⟨_, _, _, rfl, rfl, rfl⟩ ?_
            refine js_Rs rfl rfl ⟨_, _, _, rfl, rfl, rfl⟩ ?_
            refine js_Os rfl rfl ⟨_, _, _, rfl, rfl, rfl⟩ ?_
            refine js_Ss rfl rfl ⟨_, _, _, rfl, rfl, rfl⟩ ?_
            refine js_S rfl rfl (.inl rfl) (xv_pick rfl rfl ⟨rfl, rfl⟩) ?_
            refine j_end0 ?_
            refine th_n ?_
            refine xc_true rfl ?_
            refine xc_seq (xc_region ?_)
            have hbm : ¬ moveOk y.coals.length (lastH 0 (y.moves.take k)) xo := by
              unfold moveOk
              first | omega | (have h8 := lastH_0le hmv (Nat.le_refl k); omega)
            refine xr_op rfl rfl (xv_assign rfl ?_)
            refine xr_end rfl ?_
            refine th_n ?_
            refine xc_ret ?_
            refine bk_r ?_
            refine th_r ?_
            refine th_r ?_
            refine bk_r ?_
            refine th_r ?_
            refine body_ret (h' := h) rfl (ro_tmp rfl ro_nil) (by (first|((repeat first|exact s_0|exact s_1|exact s_3|refine s_4 ?_|refine s_5 ?_|refine s_6 ?_|refine s_7 ?_);done)|((repeat first|exact s_0|exact s_1|exact s_3|refine s_4 ?_|refine s_5 ?_|refine s_6 ?_|refine s_8 ?_);done))) ?_
            first | exact H2 (fun hq9 => hbc (hq9.1 xo (List.mem_of_getElem? hko))) | exact H2 (fun hq9 => hbm (movesOk_at hq9.2.1 hko)) | exact H1 ⟨hco, hmo, by omega, by omega⟩ | exact H2 (fun hq9 => by have h9 := hq9.2.2; omega)
          · refine js_S rfl rfl (.inr ⟨_, _, rfl, rfl⟩) (xv_pick rfl rfl ⟨rfl, rfl⟩) ?_
            refine js_S rfl rfl (.inl rfl) (xv_pick rfl rfl ⟨rfl, rfl⟩) ?_
            refine js_S rfl rfl (.inl rfl) (xv_move rfl ⟨rfl, rfl⟩) ?_
            refine js_S rfl rfl (.inr ⟨_, _, rfl, rfl⟩) (xv_faddr fl63_1 rfl ⟨rfl, rfl⟩) ?_
            refine js_R0 rfl rfl (.inr ⟨_, _, rfl, rfl⟩) (xv_load1 ty3 rfl rfl (by ((repeat first|exact z_0|assumption|refine z_1 ?_|(refine z_l ?_;(repeat first|exact z_0|assumption|refine z_1 ?_);done)|refine z_r ?_);done)) (by rfl) ⟨rfl, rfl⟩) ?_
            refine js_S rfl rfl (.inr ⟨_, _, rfl, rfl⟩) (xv_faddr fl25_0 rfl ⟨rfl, rfl⟩) ?_
            refine js_R0 rfl rfl (.inr ⟨_, _, rfl, rfl⟩) (xv_load1 ty22 rfl rfl (by ((repeat first|exact z_0|assumption|refine z_1 ?_|(refine z_l ?_;(repeat first|exact z_0|assumption|refine z_1 ?_);done)|refine z_r ?_);done)) (by rfl) ⟨rfl, rfl⟩) ?_
            refine js_S rfl rfl (.inr ⟨_, _, rfl, rfl⟩) (xv_len sl22 rfl ⟨rfl, rfl⟩) ?_
            refine js_S rfl rfl (.inr ⟨_, _, rfl, rfl⟩) (xv_sub rfl rfl (wrap_i64 (by (first|omega|(dsimp only at *;omega)|(simp at *;omega))) (by (first|omega|(dsimp only at *;omega)|(simp at *;omega)))) ⟨rfl, rfl⟩) ?_
            refine js_O0 rfl rfl (.inr ⟨_, _, rfl, rfl⟩) (xv_calls rfl hb37 (in_c _ _ _ (fun hl6 hu7 => up_ret ?_) (fun hn8 => up_ret ?_)))
            · refine js_S rfl rfl (.inr ⟨_, _, rfl, rfl⟩) (xv_not rfl ⟨rfl, rfl⟩) ?_
              refine js_S rfl rfl (.inl rfl) (xv_pick rfl rfl ⟨rfl, rfl⟩) ?_
              refine js_S rfl rfl (.inl rfl) (xv_move rfl ⟨rfl, rfl⟩) ?_
              refine js_S rfl rfl (.inr ⟨_, _, rfl, rfl⟩) (xv_faddr fl63_2 rfl ⟨rfl, rfl⟩) ?_
              refine js_R0 rfl rfl (.inr ⟨_, _, rfl, rfl⟩) (xv_load1 ty3 rfl rfl (by ((repeat first|exact z_0|assumption|refine z_1 ?_|(refine z_l ?_;(repeat first|exact z_0|assumption|refine z_1 ?_);done)|refine z_r ?_);done)) (by rfl) ⟨rfl, rfl⟩) ?_
              refine js_O0 rfl rfl (.inr ⟨_, _, rfl, rfl⟩) (xv_calls rfl hb37 (in_c _ _ _ (fun hl9 hu10 => up_ret ?_) (fun hn11 => up_ret ?_)))
              · refine js_S rfl rfl (.inr ⟨_, _, rfl, rfl⟩) (xv_not rfl ⟨rfl, rfl⟩) ?_
                refine js_S rfl rfl (.inl rfl) (xv_pick rfl rfl ⟨rfl, rfl⟩) ?_
                refine j_end0 ?_
                refine th_n ?_
                refine xc_false rfl ?_
                refine xc_skip ?_
                refine bk_n ?_
                refine th_n ?_
                refine xc_region ?_
                refine xr_op rfl rfl (xv_move rfl ?_)
                refine xr_op rfl rfl (xv_add rfl rfl (wrap_i64 (by (first|omega|(dsimp only at *;omega)|(simp at *;omega))) (by (first|omega|(dsimp only at *;omega)|(simp at *;omega)))) ?_)
                refine xr_op rfl rfl (xv_assign rfl ?_)
                refine xr_end rfl ?_
                exact rnd (k + 1) ⟨by (first|omega|(dsimp only at *;omega)|(simp at *;omega)), (movesOk_take hko).2 ⟨hmv, by unfold moveOk; omega⟩⟩ (by (first|omega|(dsimp only at *;omega)|(simp at *;omega))) (le_put (le_put (le_emp _) rfl) rfl) (by (first|((repeat first|exact s_0|exact s_1|exact s_3|refine s_4 ?_|refine s_5 ?_|refine s_6 ?_|refine s_7 ?_);done)|((repeat first|exact s_0|exact s_1|exact s_3|refine s_4 ?_|refine s_5 ?_|refine s_6 ?_|refine s_8 ?_);done)))
              · refine js_S rfl rfl (.inr ⟨_, _, rfl, rfl⟩) (xv_not rfl ⟨rfl, rfl⟩) ?_
                refine js_S rfl rfl (.inl rfl) (xv_pick rfl rfl ⟨rfl, rfl⟩) ?_
                refine j_end0 ?_
                refine th_n ?_
                refine xc_true rfl ?_
                refine xc_seq (xc_region ?_)
                have hbm : ¬ moveOk y.coals.length (lastH 0 (y.moves.take k)) xo := by
                  unfold moveOk
                  first | omega | (have h8 := lastH_0le hmv (Nat.le_refl k); omega)
                refine xr_op rfl rfl (xv_assign rfl ?_)
                refine xr_end rfl ?_
                refine th_n ?_
                refine xc_ret ?_
                refine bk_r ?_
                refine th_r ?_
                refine th_r ?_
                refine bk_r ?_
                refine th_r ?_
                refine body_ret (h' := h) rfl (ro_tmp rfl ro_nil) (by (first|((repeat first|exact s_0|exact s_1|exact s_3|refine s_4 ?_|refine s_5 ?_|refine s_6 ?_|refine s_7 ?_);done)|((repeat first|exact s_0|exact s_1|exact s_3|refine s_4 ?_|refine s_5 ?_|refine s_6 ?_|refine s_8 ?_);done))) ?_
                first | exact H2 (fun hq9 => hbc (hq9.1 xo (List.mem_of_getElem? hko))) | exact H2 (fun hq9 => hbm (movesOk_at hq9.2.1 hko)) | exact H1 ⟨hco, hmo, by omega, by omega⟩ | exact H2 (fun hq9 => by have h9 := hq9.2.2; omega)
            · refine js_S rfl rfl (.inr ⟨_, _, rfl, rfl⟩) (xv_not rfl ⟨rfl, rfl⟩) ?_
              refine js_S rfl rfl (.inl rfl) (xv_pick rfl rfl ⟨rfl, rfl⟩) ?_
              refine js_S rfl rfl (.inl rfl) (xv_move rfl ⟨rfl, rfl⟩) ?_
              refine js_Ss rfl rfl ⟨_, _, _, rfl, rfl, rfl⟩ ?_
              refine js_Rs rfl rfl ⟨_, _, _, rfl, rfl, rfl⟩ ?_
              refine js_Os rfl rfl ⟨_, _, _, rfl, rfl, rfl⟩ ?_
              refine js_Ss rfl rfl ⟨_, _, _, rfl, rfl, rfl⟩ ?_
              refine js_S rfl rfl (.inl rfl) (xv_pick rfl rfl ⟨rfl, rfl⟩) ?_
              refine j_end0 ?_
              refine th_n ?_
              refine xc_true rfl ?_
              refine xc_seq (xc_region ?_)
              have hbm : ¬ moveOk y.coals.length (lastH 0 (y.moves.take k)) xo := by
                unfold moveOk
                first | omega | (have h8 := lastH_0le hmv (Nat.le_refl k); omega)
              refine xr_op rfl rfl (xv_assign rfl ?_)
              refine xr_end rfl ?_
              refine th_n ?_
              refine xc_ret ?_
              refine bk_r ?_
              refine th_r ?_
              refine th_r ?_
              refine bk_r ?_
              refine th_r ?_
              refine body_ret (h' := h) rfl (ro_tmp rfl ro_nil) (by (first|((repeat first|exact s_0|exact s_1|exact s_3|refine s_4 ?_|refine s_5 ?_|refine s_6 ?_|refine s_7 ?_);done)|((repeat first|exact s_0|exact s_1|exact s_3|refine s_4 ?_|refine s_5 ?_|refine s_6 ?_|refine s_8 ?_);done))) ?_
              first | exact H2 (fun hq9 => hbc (hq9.1 xo (List.mem_of_getElem? hko))) | exact H2 (fun hq9 => hbm (movesOk_at hq9.2.1 hko)) | exact H1 ⟨hco, hmo, by omega, by omega⟩ | exact H2 (fun hq9 => by have h9 := hq9.2.2; omega)
        · have hlp : lastH 0 (y.moves.take k) = 0 := by rw [show k = 0 by (first|omega|(dsimp only at *;omega)|(simp at *;omega))]; rfl
          refine js_S rfl rfl (.inr ⟨_, _, rfl, rfl⟩) (xv_move rfl ⟨rfl, rfl⟩) ?_
          refine js_Ss rfl rfl ⟨_, _, _, rfl, rfl, rfl⟩ ?_
          refine js_Rs rfl rfl ⟨_, _, _, rfl, rfl, rfl⟩ ?_
          refine js_Ss rfl rfl ⟨_, _, _, rfl, rfl, rfl⟩ ?_
          refine js_Rs rfl rfl ⟨_, _, _, rfl, rfl, rfl⟩ ?_
          refine js_Ss rfl rfl ⟨_, _, _, rfl, rfl, rfl⟩ ?_
          refine js_Ss rfl rfl ⟨_, _, _, rfl, rfl, rfl⟩ ?_
          refine js_Ss rfl rfl ⟨_, _, _, rfl, rfl, rfl⟩ ?_
          refine js_Ss rfl rfl ⟨_, _, _, rfl, rfl, rfl⟩ ?_
          refine js_Rs rfl rfl ⟨_, _, _, rfl, rfl, rfl⟩ ?_
          refine js_Os rfl rfl ⟨_, _, _, rfl, rfl, rfl⟩ ?_
          refine js_S rfl rfl (.inr ⟨_, _, rfl, rfl⟩) (xv_pick rfl rfl ⟨rfl, rfl⟩) ?_
          refine js_S rfl rfl (.inl rfl) (xv_pick rfl rfl ⟨rfl, rfl⟩) ?_
          refine js_S rfl rfl (.inl rfl) (xv_move rfl ⟨rfl, rfl⟩) ?_
          refine js_S rfl rfl (.inr ⟨_, _, rfl, rfl⟩) (xv_faddr fl63_1 rfl ⟨rfl, rfl⟩) ?_
          refine js_R0 rfl rfl (.inr ⟨_, _, rfl, rfl⟩) (xv_load1 ty3 rfl rfl (by ((repeat first|exact z_0|assumption|refine z_1 ?_|(refine z_l ?_;(repeat first|exact z_0|assumption|refine z_1 ?_);done)|refine z_r ?_);done)) (by rfl) ⟨rfl, rfl⟩) ?_
          refine js_S rfl rfl (.inr ⟨_, _, rfl, rfl⟩) (xv_faddr fl25_0 rfl ⟨rfl, rfl⟩) ?_
          refine js_R0 rfl rfl (.inr ⟨_, _, rfl, rfl⟩) (xv_load1 ty22 rfl rfl (by ((repeat first|exact z_0|assumption|refine z_1 ?_|(refine z_l ?_;(repeat first|exact z_0|assumption|refine z_1 ?_);done)|refine z_r ?_);done)) (by rfl) ⟨rfl, rfl⟩) ?_
          refine js_S rfl rfl (.inr ⟨_, _, rfl, rfl⟩) (xv_len sl22 rfl ⟨rfl, rfl⟩) ?_
          refine js_S rfl rfl (.inr ⟨_, _, rfl, rfl⟩) (xv_sub rfl rfl (wrap_i64 (by (first|omega|(dsimp only at *;omega)|(simp at *;omega))) (by (first|omega|(dsimp only at *;omega)|(simp at *;omega)))) ⟨rfl, rfl⟩) ?_
          refine js_O0 rfl rfl (.inr ⟨_, _, rfl, rfl⟩) (xv_calls rfl hb37 (in_c _ _ _ (fun hl12 hu13 => up_ret ?_) (fun hn14 => up_ret ?_)))
          · refine js_S rfl rfl (.inr ⟨_, _, rfl, rfl⟩) (xv_not rfl ⟨rfl, rfl⟩) ?_
            refine js_S rfl rfl (.inl rfl) (xv_pick rfl rfl ⟨rfl, rfl⟩) ?_
            refine js_S rfl rfl (.inl rfl) (xv_move rfl ⟨rfl, rfl⟩) ?_
            refine js_S rfl rfl (.inr ⟨_, _, rfl, rfl⟩) (xv_faddr fl63_2 rfl ⟨rfl, rfl⟩) ?_
            refine js_R0 rfl rfl (.inr ⟨_, _, rfl, rfl⟩) (xv_load1 ty3 rfl rfl (by ((repeat first|exact z_0|assumption|refine z_1 ?_|(refine z_l ?_;(repeat first|exact z_0|assumption|refine z_1 ?_);done)|refine z_r ?_);done)) (by rfl) ⟨rfl, rfl⟩) ?_
            refine js_O0 rfl rfl (.inr ⟨_, _, rfl, rfl⟩) (xv_calls rfl hb37 (in_c _ _ _ (fun hl15 hu16 => up_ret ?_) (fun hn17 => up_ret ?_)))
            · refine js_S rfl rfl (.inr ⟨_, _, rfl, rfl⟩) (xv_not rfl ⟨rfl, rfl⟩) ?_
              refine js_S rfl rfl (.inl rfl) (xv_pick rfl rfl ⟨rfl, rfl⟩) ?_
              refine j_end0 ?_
              refine th_n ?_
              refine xc_false rfl ?_
              refine xc_skip ?_
              refine bk_n ?_
              refine th_n ?_
              refine xc_region ?_
              refine xr_op rfl rfl (xv_move rfl ?_)
              refine xr_op rfl rfl (xv_add rfl rfl (wrap_i64 (by (first|omega|(dsimp only at *;omega)|(simp at *;omega))) (by (first|omega|(dsimp only at *;omega)|(simp at *;omega)))) ?_)
              refine xr_op rfl rfl (xv_assign rfl ?_)
              refine xr_end rfl ?_
              exact rnd (k + 1) ⟨by (first|omega|(dsimp only at *;omega)|(simp at *;omega)), (movesOk_take hko).2 ⟨hmv, by unfold moveOk; omega⟩⟩ (by (first|omega|(dsimp only at *;omega)|(simp at *;omega))) (le_put (le_put (le_emp _) rfl) rfl) (by (first|((repeat first|exact s_0|exact s_1|exact s_3|refine s_4 ?_|refine s_5 ?_|refine s_6 ?_|refine s_7 ?_);done)|((repeat first|exact s_0|exact s_1|exact s_3|refine s_4 ?_|refine s_5 ?_|refine s_6 ?_|refine s_8 ?_);done)))
            · refine js_S rfl rfl (.inr ⟨_, _, rfl, rfl⟩) (xv_not rfl ⟨rfl, rfl⟩) ?_
              refine js_S rfl rfl (.inl rfl) (xv_pick rfl rfl ⟨rfl, rfl⟩) ?_
              refine j_end0 ?_
              refine th_n ?_
              refine xc_true rfl ?_
              refine xc_seq (xc_region ?_)
              have hbm : ¬ moveOk y.coals.length (lastH 0 (y.moves.take k)) xo := by
                unfold moveOk
                first | omega | (have h8 := lastH_0le hmv (Nat.le_refl k); omega)
              refine xr_op rfl rfl (xv_assign rfl ?_)
              refine xr_end rfl ?_
              refine th_n ?_
              refine xc_ret ?_
              refine bk_r ?_
              refine th_r ?_
              refine th_r ?_
              refine bk_r ?_
              refine th_r ?_
              refine body_ret (h' := h) rfl (ro_tmp rfl ro_nil) (by (first|((repeat first|exact s_0|exact s_1|exact s_3|refine s_4 ?_|refine s_5 ?_|refine s_6 ?_|refine s_7 ?_);done)|((repeat first|exact s_0|exact s_1|exact s_3|refine s_4 ?_|refine s_5 ?_|refine s_6 ?_|refine s_8 ?_);done))) ?_
              first | exact H2 (fun hq9 => hbc (hq9.1 xo (List.mem_of_getElem? hko))) | exact H2 (fun hq9 => hbm (movesOk_at hq9.2.1 hko)) | exact H1 ⟨hco, hmo, by omega, by omega⟩ | exact H2 (fun hq9 => by have h9 := hq9.2.2; omega)
          · refine js_S rfl rfl (.inr ⟨_, _, rfl, rfl⟩) (xv_not rfl ⟨rfl, rfl⟩) ?_
            refine js_S rfl rfl (.inl rfl) (xv_pick rfl rfl ⟨rfl, rfl⟩) ?_
            refine js_S rfl rfl (.inl rfl) (xv_move rfl ⟨rfl, rfl⟩) ?_
            refine js_Ss rfl rfl ⟨_, _, _, rfl, rfl, rfl⟩ ?_
            refine js_Rs rfl rfl ⟨_, _, _, rfl, rfl, rfl⟩ ?_
            refine js_Os rfl rfl ⟨_, _, _, rfl, rfl, rfl⟩ ?_
            refine js_Ss rfl rfl ⟨_, _, _, rfl, rfl, rfl⟩ ?_
            refine js_S rfl rfl (.inl rfl) (xv_pick rfl rfl ⟨rfl, rfl⟩) ?_
            refine j_end0 ?_
            refine th_n ?_
            refine xc_true rfl ?_
            refine xc_seq (xc_region ?_)
            have hbm : ¬ moveOk y.coals.length (lastH 0 (y.moves.take k)) xo := by
              unfold moveOk
              first | omega | (have h8 := lastH_0le hmv (Nat.le_refl k); omega)
            refine xr_op rfl rfl (xv_assign rfl ?_)
            refine xr_end rfl ?_
            refine th_n ?_
            refine xc_ret ?_
            refine bk_r ?_
            refine th_r ?_
            refine th_r ?_
            refine bk_r ?_
            refine th_r ?_
            refine body_ret (h' := h) rfl (ro_tmp rfl ro_nil) (by (first|((repeat first|exact s_0|exact s_1|exact s_3|refine s_4 ?_|refine s_5 ?_|refine s_6 ?_|refine s_7 ?_);done)|((repeat first|exact s_0|exact s_1|exact s_3|refine s_4 ?_|refine s_5 ?_|refine s_6 ?_|refine s_8 ?_);done))) ?_
            first | exact H2 (fun hq9 => hbc (hq9.1 xo (List.mem_of_getElem? hko))) | exact H2 (fun hq9 => hbm (movesOk_at hq9.2.1 hko)) | exact H1 ⟨hco, hmo, by omega, by omega⟩ | exact H2 (fun hq9 => by have h9 := hq9.2.2; omega)
      · refine js_S rfl rfl (.inl rfl) (xv_not rfl ⟨rfl, rfl⟩) ?_
        refine js_S rfl rfl (.inl rfl) (xv_move rfl ⟨rfl, rfl⟩) ?_
        refine js_Ss rfl rfl ⟨_, _, _, rfl, rfl, rfl⟩ ?_
        refine js_Os rfl rfl ⟨_, _, _, rfl, rfl, rfl⟩ ?_
        refine js_Ss rfl rfl ⟨_, _, _, rfl, rfl, rfl⟩ ?_
        refine js_Ss rfl rfl ⟨_, _, _, rfl, rfl, rfl⟩ ?_
        refine js_Rs rfl rfl ⟨_, _, _, rfl, rfl, rfl⟩ ?_
        refine js_Ss rfl rfl ⟨_, _, _, rfl, rfl, rfl⟩ ?_
        refine js_Rs rfl rfl ⟨_, _, _, rfl, rfl, rfl⟩ ?_
        refine js_Ss rfl rfl ⟨_, _, _, rfl, rfl, rfl⟩ ?_
        refine js_Ss rfl rfl ⟨_, _, _, rfl, rfl, rfl⟩ ?_
        refine js_Ss rfl rfl ⟨_, _, _, rfl, rfl, rfl⟩ ?_
        refine js_Ss rfl rfl ⟨_, _, _, rfl, rfl, rfl⟩ ?_
        refine js_Rs rfl rfl ⟨_, _, _, rfl, rfl, rfl⟩ ?_
        refine js_Os rfl rfl ⟨_, _, _, rfl, rfl, rfl⟩ ?_
        refine js_Ss rfl rfl ⟨_, _, _, rfl, rfl, rfl⟩ ?_
        refine js_S rfl rfl (.inl rfl) (xv_pick rfl rfl ⟨rfl, rfl⟩) ?_
        refine js_S rfl rfl (.inl rfl) (xv_move rfl ⟨rfl, rfl⟩) ?_
        refine js_Ss rfl rfl ⟨_, _, _, rfl, rfl, rfl⟩ ?_
        refine js_Rs rfl rfl ⟨_, _, _, rfl, rfl, rfl⟩ ?_
        refine js_Ss rfl rfl ⟨_, _, _, rfl, rfl, rfl⟩ ?_
        refine js_Rs rfl rfl ⟨_, _, _, rfl, rfl, rfl⟩ ?_
        refine js_Ss rfl rfl ⟨_, _, _, rfl, rfl, rfl⟩ ?_
        refine js_Ss rfl rfl ⟨_, _, _, rfl, rfl, rfl⟩ ?_
        refine js_Os rfl rfl ⟨_, _, _, rfl, rfl, rfl⟩ ?_
        refine js_Ss rfl rfl ⟨_, _, _, rfl, rfl, rfl⟩ ?_
        refine js_S rfl rfl (.inl rfl) (xv_pick rfl rfl ⟨rfl, rfl⟩) ?_
        refine js_S rfl rfl (.inl rfl) (xv_move rfl ⟨rfl, rfl⟩) ?_
        refine js_Ss rfl rfl ⟨_, _, _, rfl, rfl, rfl⟩ ?_
        refine js_Rs rfl rfl ⟨_, _, _, rfl, rfl, rfl⟩ ?_
        refine js_Os rfl rfl ⟨_, _, _, rfl, rfl, rfl⟩ ?_
        refine js_Ss rfl rfl ⟨_, _, _, rfl, rfl, rfl⟩ ?_
        refine js_S rfl rfl (.inl rfl) (xv_pick rfl rfl ⟨rfl, rfl⟩) ?_
        refine j_end0 ?_
        refine th_n ?_
        refine xc_true rfl ?_
        refine xc_seq (xc_region ?_)
        have hbm : ¬ moveOk y.coals.length (lastH 0 (y.moves.take k)) xo := by
          unfold moveOk
          first | omega | (have h8 := lastH_0le hmv (Nat.le_refl k); omega)
        refine xr_op rfl rfl (xv_assign rfl ?_)
        refine xr_end rfl ?_
        refine th_n ?_
        refine xc_ret ?_
        refine bk_r ?_
        refine th_r ?_
        refine th_r ?_
        refine bk_r ?_
        refine th_r ?_
        refine body_ret (h' := h) rfl (ro_tmp rfl ro_nil) (by (first|((repeat first|exact s_0|exact s_1|exact s_3|refine s_4 ?_|refine s_5 ?_|refine s_6 ?_|refine s_7 ?_);done)|((repeat first|exact s_0|exact s_1|exact s_3|refine s_4 ?_|refine s_5 ?_|refine s_6 ?_|refine s_8 ?_);done))) ?_
        first | exact H2 (fun hq9 => hbc (hq9.1 xo (List.mem_of_getElem? hko))) | exact H2 (fun hq9 => hbm (movesOk_at hq9.2.1 hko)) | exact H1 ⟨hco, hmo, by omega, by omega⟩ | exact H2 (fun hq9 => by have h9 := hq9.2.2; omega)
    · refine xr_end rfl ?_
      refine th_n ?_
      refine xc_false rfl ?_
      refine xc_exit ?_
      refine th_x ?_
      refine th_x ?_
      refine bk_same ?_
      refine th_n ?_
      refine xc_seq (xc_region ?_)
      have hmo : movesOk y.coals.length 0 y.moves := by
        have e9 : k = y.moves.length := by (first|omega|(dsimp only at *;omega)|(simp at *;omega))
        rw [e9, List.take_length] at hmv; exact hmv
      refine xr_op rfl rfl (xv_faddr fl25_0 rfl ?_)
      refine xr_op rfl rfl (xv_load1 ty22 rfl rfl (by ((repeat first|exact z_0|assumption|refine z_1 ?_|(refine z_l ?_;(repeat first|exact z_0|assumption|refine z_1 ?_);done)|refine z_r ?_);done)) (by rfl) ?_)
      refine xr_op rfl rfl (xv_len sl22 rfl ?_)
      refine xr_op rfl rfl (xv_calls rfl hb37 (in_c _ _ _ (fun hl18 hu19 => up_ret ?_) (fun hn20 => up_ret ?_)))
      · refine xr_op rfl rfl (xv_move rfl ?_)
        refine xr_gd rfl rfl rfl (xv_faddr fl25_1 rfl ?_)
        refine xr_gd rfl rfl rfl (xv_load1 ty23 rfl rfl (by ((repeat first|exact z_0|assumption|refine z_1 ?_|(refine z_l ?_;(repeat first|exact z_0|assumption|refine z_1 ?_);done)|refine z_r ?_);done)) (by rfl) ?_)
        refine xr_gd rfl rfl rfl (xv_len sl23 rfl ?_)
        refine xr_gd rfl rfl rfl (xv_leq2 rfl rfl (fun q21 => ?_) (fun q21 => ?_))
        · refine xr_op rfl rfl (xv_pick rfl rfl ?_)
          refine xr_op rfl rfl (xv_assign rfl ?_)
          refine xr_end rfl ?_
          refine th_n ?_
          refine xc_ret ?_
          refine body_ret (h' := h) rfl (ro_tmp rfl ro_nil) (by (first|((repeat first|exact s_0|exact s_1|exact s_3|refine s_4 ?_|refine s_5 ?_|refine s_6 ?_|refine s_7 ?_);done)|((repeat first|exact s_0|exact s_1|exact s_3|refine s_4 ?_|refine s_5 ?_|refine s_6 ?_|refine s_8 ?_);done))) ?_
          first | exact H2 (fun hq9 => hbc (hq9.1 xo (List.mem_of_getElem? hko))) | exact H2 (fun hq9 => hbm (movesOk_at hq9.2.1 hko)) | exact H1 ⟨hco, hmo, by omega, by omega⟩ | exact H2 (fun hq9 => by have h9 := hq9.2.2; omega)
        · refine xr_op rfl rfl (xv_pick rfl rfl ?_)
          refine xr_op rfl rfl (xv_assign rfl ?_)
          refine xr_end rfl ?_
          refine th_n ?_
          refine xc_ret ?_
          refine body_ret (h' := h) rfl (ro_tmp rfl ro_nil) (by (first|((repeat first|exact s_0|exact s_1|exact s_3|refine s_4 ?_|refine s_5 ?_|refine s_6 ?_|refine s_7 ?_);done)|((repeat first|exact s_0|exact s_1|exact s_3|refine s_4 ?_|refine s_5 ?_|refine s_6 ?_|refine s_8 ?_);done))) ?_
          first | exact H2 (fun hq9 => hbc (hq9.1 xo (List.mem_of_getElem? hko))) | exact H2 (fun hq9 => hbm (movesOk_at hq9.2.1 hko)) | exact H1 ⟨hco, hmo, by omega, by omega⟩ | exact H2 (fun hq9 => by have h9 := hq9.2.2; omega)
      · refine xr_op rfl rfl (xv_move rfl ?_)
        refine xr_no rfl rfl rfl rfl ?_
        refine xr_no rfl rfl rfl rfl ?_
        refine xr_no rfl rfl rfl rfl ?_
        refine xr_no rfl rfl rfl rfl ?_
        refine xr_op rfl rfl (xv_pick rfl rfl ?_)
        refine xr_op rfl rfl (xv_assign rfl ?_)
        refine xr_end rfl ?_
        refine th_n ?_
        refine xc_ret ?_
        refine body_ret (h' := h) rfl (ro_tmp rfl ro_nil) (by (first|((repeat first|exact s_0|exact s_1|exact s_3|refine s_4 ?_|refine s_5 ?_|refine s_6 ?_|refine s_7 ?_);done)|((repeat first|exact s_0|exact s_1|exact s_3|refine s_4 ?_|refine s_5 ?_|refine s_6 ?_|refine s_8 ?_);done))) ?_
        first | exact H2 (fun hq9 => hbc (hq9.1 xo (List.mem_of_getElem? hko))) | exact H2 (fun hq9 => hbm (movesOk_at hq9.2.1 hko)) | exact H1 ⟨hco, hmo, by omega, by omega⟩ | exact H2 (fun hq9 => by have h9 := hq9.2.2; omega)

theorem layer_c {y : Yard} {n : Nat} {h : Hp} {R : Ending → Hp → Prop} (hy : YardV h y) (hmv : movesOk n 0 y.moves) {i : Nat} {ii : Int} (ei : ii = i) (hi : i < y.moves.length) (hl : y.moves.length ≤ 1000) (H : R (.returned (I (((opn (y.moves.take (i + 1))).1 : Int) - 1))) h) :
    ACalls Try.prog 50 ⟨[.agg ⟨eYard y⟩, I ii]⟩ h R := by
  refine calls_of_xc (N := 48) Try.func50 rfl (by rfl) ?_
  subst ei
  refine xc_seq (xc_region ?_)
  refine xr_op rfl rfl (xv_box rfl (fun b2 hb2 => ?_))
  refine xr_op rfl rfl (xv_assign rfl ?_)
  refine xr_end rfl ?_
  refine th_n ?_
  refine xc_seq (xc_region ?_)
  refine xr_op rfl rfl (xv_assign rfl ?_)
  refine xr_end rfl ?_
  refine th_n ?_
  refine xc_seq ?_
  refine xc_seq (xc_region ?_)
  refine xr_op rfl rfl (xv_assign rfl ?_)
  refine xr_end rfl ?_
  refine th_n ?_
  refine xc_block ?_
  refine xc_loop (σ := Nat) (fun k => k ≤ i + 1) (fun k => ((((emp.put (some 1) (I (i : Int))).put (some 2) (.pointer (some ⟨b2, 0, none⟩))).put (some 5) (I (((opn (y.moves.take k)).1 : Int) - 1))).put (some 6) (I k))) (fun k => ((b2, .cells ⟨eYard y⟩ 25) :: h)) (fun k => i + 1 - k) 0 (Nat.zero_le _) (le_put (le_put (le_put (le_put (le_emp _) rfl) rfl) rfl) rfl) (by (first|((repeat first|exact s_0|exact s_1|exact s_3|refine s_4 ?_|refine s_5 ?_|refine s_6 ?_|refine s_7 ?_);done)|((repeat first|exact s_0|exact s_1|exact s_3|refine s_4 ?_|refine s_5 ?_|refine s_6 ?_|refine s_8 ?_);done))) ?_
  rintro k hk
  refine xc_seq ?_
  refine xc_seq (xc_region ?_)
  refine xr_op rfl rfl (xv_move rfl ?_)
  refine xr_op rfl rfl (xv_move rfl ?_)
  refine xr_op rfl rfl (xv_leq2 rfl rfl (fun q1 => ?_) (fun q1 => ?_))
  · refine xr_end rfl ?_
    refine th_n ?_
    refine xc_true rfl ?_
    refine xc_skip ?_
    refine th_n ?_
    refine xc_seq ?_
    refine xc_block ?_
    refine xc_seq (xc_region ?_)
    refine xr_op rfl rfl (xv_faddr fl25_1 rfl ?_)
    refine xr_op rfl rfl (xv_load1 ty23 rfl rfl (by ((repeat first|exact z_0|assumption|refine z_1 ?_|(refine z_l ?_;(repeat first|exact z_0|assumption|refine z_1 ?_);done)|refine z_r ?_);done)) (by rfl) ?_)
    refine xr_op rfl rfl (xv_move rfl ?_)
    have hlto : k < y.moves.length := by (first|omega|(dsimp only at *;omega)|(simp at *;omega))
    obtain ⟨bo, oo, lo, to, fzo, hao, hmo, hxo⟩ := (hy.moves).at hlto
    obtain ⟨xo, hko⟩ : ∃ qq_, y.moves[k]? = some qq_ := ⟨_, List.getElem?_eq_getElem hlto⟩
    have hmk := movesOk_at hmv hko
    have hh0 := lastH_0le (movesOk_mono k hmv) (Nat.le_refl k)
    have hh1 := hmk.1.1
    have hol := opn_le (y.moves.take k)
    rw [List.length_take] at hol
    refine xr_op rfl rfl (xv_ia (sz := 3) (j := k) sl23 ty63 rfl (by rw [hao]; rfl) rfl (by (first | assumption | with_reducible exact Int.toNat_natCast _ | with_reducible rfl | rfl)) (by (first|omega|(dsimp only at *;omega)|(simp at *;omega))) (by (first|omega|(dsimp only at *;omega)|(simp at *;omega))) ?_)
    refine xr_op rfl rfl (xv_loadA ty63 rfl rfl (by ((repeat first|exact z_0|assumption|refine z_1 ?_|(refine z_l ?_;(repeat first|exact z_0|assumption|refine z_1 ?_);done)|refine z_r ?_);done)) (hxo (k) xo hko) rfl ?_)
    refine xr_op rfl rfl (xv_alloc ty63 (fun b7 hb7 => ?_))
    refine xr_op rfl rfl (xv_s ty63 rfl rfl (by (first|(apply u_3;(repeat first|exact u_0|assumption|apply u_1|apply u_2);done)|((repeat first|exact u_0|assumption|apply u_1|apply u_2);done)|(apply u_3;apply u_3;(repeat first|exact u_0|assumption|apply u_1|apply u_2);done)|((repeat first|exact u_0|assumption|apply u_3|apply u_1);done))) (by ((try apply evl_some rfl);(repeat (first|exact (rfl : _ = [])|apply evl_cons rfl (by (first|exact v_1|exact v_2|exact v_3|exact v_4|exact v_5|exact v_6|exact v_7|exact v_8|exact v_9|exact rfl))|exact rfl)))) (by rfl) (by rfl) (by rfl) (by ((try apply evl_some rfl);(repeat (first|exact (rfl : _ = [])|apply evl_cons rfl (by (first|exact v_1|exact v_2|exact v_3|exact v_4|exact v_5|exact v_6|exact v_7|exact v_8|exact v_9|exact rfl))|exact rfl)))) ?_)
    refine xr_end rfl ?_
    refine th_n ?_
    refine xc_seq ?_
    refine xc_seq (xc_region ?_)
    refine xr_op rfl rfl (xv_faddr fl63_1 rfl ?_)
    refine xr_op rfl rfl (xv_load1 ty3 rfl rfl (by ((repeat first|exact z_0|assumption|refine z_1 ?_|(refine z_l ?_;(repeat first|exact z_0|assumption|refine z_1 ?_);done)|refine z_r ?_);done)) (by rfl) ?_)
    refine xr_op rfl rfl (xv_eql2 rfl rfl (fun q2 => ?_) (fun q2 => ?_))
    · refine xr_end rfl ?_
      refine th_n ?_
      refine xc_true rfl ?_
      refine xc_exit ?_
      refine th_x ?_
      refine bk_same ?_
      refine th_n ?_
      refine xc_region ?_
      refine xr_op rfl rfl (xv_move rfl ?_)
      refine xr_op rfl rfl (xv_add rfl rfl (wrap_i64 (by (first|omega|(dsimp only at *;omega)|(simp at *;omega))) (by (first|omega|(dsimp only at *;omega)|(simp at *;omega)))) ?_)
      refine xr_op rfl rfl (xv_assign rfl ?_)
      refine xr_end rfl ?_
      have hst : opn (y.moves.take (k + 1)) = ((opn (y.moves.take k)).1, -1) := by
        rw [opn_take hko]; unfold stepO
        first | (rw [if_pos (by (first|omega|(dsimp only at *;omega)|(simp at *;omega)))]; done) | (rw [if_neg (by (first|omega|(dsimp only at *;omega)|(simp at *;omega))), if_pos (by (first|omega|(dsimp only at *;omega)|(simp at *;omega)))]; done) | (rw [if_neg (by (first|omega|(dsimp only at *;omega)|(simp at *;omega))), if_neg (by (first|omega|(dsimp only at *;omega)|(simp at *;omega)))]; done)
      have hsi : ((opn (y.moves.take (k + 1))).1 : Int) - 1 = ((opn (y.moves.take k)).1 : Int) - 1 := by rw [hst]
      exact rnd (k + 1) (by (first|omega|(dsimp only at *;omega)|(simp at *;omega))) (by (first|omega|(dsimp only at *;omega)|(simp at *;omega))) (le_put (le_put (le_put (le_put (le_emp _) rfl) rfl) (by rw [hsi]; rfl)) rfl) (by (first|((repeat first|exact s_0|exact s_1|exact s_3|refine s_4 ?_|refine s_5 ?_|refine s_6 ?_|refine s_7 ?_);done)|((repeat first|exact s_0|exact s_1|exact s_3|refine s_4 ?_|refine s_5 ?_|refine s_6 ?_|refine s_8 ?_);done)))
    · refine xr_end rfl ?_
      refine th_n ?_
      refine xc_false rfl ?_
      refine xc_skip ?_
      refine th_n ?_
      refine xc_seq ?_
      refine xc_draw0 [(0, .S), (1, .O), (2, .S), (3, .S), (4, .R), (5, .S), (6, .S), (7, .S), (8, .S), (9, .R), (10, .O), (11, .S), (12, .S), (13, .S), (14, .R), (15, .S), (16, .S), (17, .S), (18, .S), (19, .R), (20, .S), (21, .R), (22, .O), (23, .S)] mixed (by kernel_rfl) ?_
      refine js_S rfl rfl (.inl rfl) (xv_move rfl ⟨rfl, rfl⟩) ?_
      refine js_O0 rfl rfl (.inl rfl) (xv_eql2 rfl rfl (fun hq => ?_) (fun hq => ?_))
      · refine js_S rfl rfl (.inl rfl) (xv_move rfl ⟨rfl, rfl⟩) ?_
        refine js_Ss rfl rfl ⟨_, _, _, rfl, rfl, rfl⟩ ?_
        refine js_Rs rfl rfl ⟨_, _, _, rfl, rfl, rfl⟩ ?_
        refine js_Ss rfl rfl ⟨_, _, _, rfl, rfl, rfl⟩ ?_
        refine js_Ss rfl rfl ⟨_, _, _, rfl, rfl, rfl⟩ ?_
        refine js_Ss rfl rfl ⟨_, _, _, rfl, rfl, rfl⟩ ?_
        refine js_Ss rfl rfl ⟨_, _, _, rfl, rfl, rfl⟩ ?_
        refine js_Rs rfl rfl ⟨_, _, _, rfl, rfl, rfl⟩ ?_
        refine js_Os rfl rfl ⟨_, _, _, rfl, rfl, rfl⟩ ?_
        have hop : (opn (y.moves.take k)).2 = -1 := by rw [show k = 0 by (first|omega|(dsimp only at *;omega)|(simp at *;omega))]; rfl
        refine js_S rfl rfl (.inl rfl) (xv_pick rfl rfl ⟨rfl, rfl⟩) ?_
        refine js_S rfl rfl (.inl rfl) (xv_move rfl ⟨rfl, rfl⟩) ?_
        refine js_Ss rfl rfl ⟨_, _, _, rfl, rfl, rfl⟩ ?_
        refine js_Rs rfl rfl ⟨_, _, _, rfl, rfl, rfl⟩ ?_
        refine js_Ss rfl rfl ⟨_, _, _, rfl, rfl, rfl⟩ ?_
        refine js_Ss rfl rfl ⟨_, _, _, rfl, rfl, rfl⟩ ?_
        refine js_Ss rfl rfl ⟨_, _, _, rfl, rfl, rfl⟩ ?_
        refine js_Ss rfl rfl ⟨_, _, _, rfl, rfl, rfl⟩ ?_
        refine js_Rs rfl rfl ⟨_, _, _, rfl, rfl, rfl⟩ ?_
        refine js_Ss rfl rfl ⟨_, _, _, rfl, rfl, rfl⟩ ?_
        refine js_Rs rfl rfl ⟨_, _, _, rfl, rfl, rfl⟩ ?_
        refine js_Os rfl rfl ⟨_, _, _, rfl, rfl, rfl⟩ ?_
        refine js_S rfl rfl (.inl rfl) (xv_pick rfl rfl ⟨rfl, rfl⟩) ?_
        refine j_end0 ?_
        refine th_n ?_
        refine xc_true rfl ?_
        refine xc_region ?_
        refine xr_op rfl rfl (xv_move rfl ?_)
        refine xr_op rfl rfl (xv_add rfl rfl (wrap_i64 (by (first|omega|(dsimp only at *;omega)|(simp at *;omega))) (by (first|omega|(dsimp only at *;omega)|(simp at *;omega)))) ?_)
        refine xr_op rfl rfl (xv_assign rfl ?_)
        refine xr_end rfl ?_
        refine bk_n ?_
        refine th_n ?_
        refine xc_region ?_
        refine xr_op rfl rfl (xv_move rfl ?_)
        refine xr_op rfl rfl (xv_add rfl rfl (wrap_i64 (by (first|omega|(dsimp only at *;omega)|(simp at *;omega))) (by (first|omega|(dsimp only at *;omega)|(simp at *;omega)))) ?_)
        refine xr_op rfl rfl (xv_assign rfl ?_)
        refine xr_end rfl ?_
        have hst : opn (y.moves.take (k + 1)) = ((opn (y.moves.take k)).1 + 1, xo.hour) := by
          rw [opn_take hko]; unfold stepO
          first | (rw [if_pos (by (first|omega|(dsimp only at *;omega)|(simp at *;omega)))]; done) | (rw [if_neg (by (first|omega|(dsimp only at *;omega)|(simp at *;omega))), if_pos (by (first|omega|(dsimp only at *;omega)|(simp at *;omega)))]; done) | (rw [if_neg (by (first|omega|(dsimp only at *;omega)|(simp at *;omega))), if_neg (by (first|omega|(dsimp only at *;omega)|(simp at *;omega)))]; done)
        have hsi : ((opn (y.moves.take (k + 1))).1 : Int) - 1 = ((opn (y.moves.take k)).1 : Int) - 1 + 1 := by rw [hst]; push_cast; omega
        exact rnd (k + 1) (by (first|omega|(dsimp only at *;omega)|(simp at *;omega))) (by (first|omega|(dsimp only at *;omega)|(simp at *;omega))) (le_put (le_put (le_put (le_put (le_emp _) rfl) rfl) (by rw [hsi]; rfl)) rfl) (by (first|((repeat first|exact s_0|exact s_1|exact s_3|refine s_4 ?_|refine s_5 ?_|refine s_6 ?_|refine s_7 ?_);done)|((repeat first|exact s_0|exact s_1|exact s_3|refine s_4 ?_|refine s_5 ?_|refine s_6 ?_|refine s_8 ?_);done)))
      · refine js_S rfl rfl (.inl rfl) (xv_move rfl ⟨rfl, rfl⟩) ?_
        have hltp : (k - 1) < y.moves.length := by (first|omega|(dsimp only at *;omega)|(simp at *;omega))
        obtain ⟨bp, op, lp, tp, fzp, hap, hmp, hxp⟩ := (hy.moves).at hltp
        obtain ⟨xp, hkp⟩ : ∃ qq_, y.moves[(k - 1)]? = some qq_ := ⟨_, List.getElem?_eq_getElem hltp⟩
        have hop := opn_open (by (first|omega|(dsimp only at *;omega)|(simp at *;omega))) hkp
        refine js_S rfl rfl (.inr ⟨_, _, rfl, rfl⟩) (xv_faddr fl25_1 rfl ⟨rfl, rfl⟩) ?_
        refine js_R0 rfl rfl (.inr ⟨_, _, rfl, rfl⟩) (xv_load1 ty23 rfl rfl (by ((repeat first|exact z_0|assumption|refine z_1 ?_|(refine z_l ?_;(repeat first|exact z_0|assumption|refine z_1 ?_);done)|refine z_r ?_);done)) (by rfl) ⟨rfl, rfl⟩) ?_
        refine js_S rfl rfl (.inr ⟨_, _, rfl, rfl⟩) (xv_move rfl ⟨rfl, rfl⟩) ?_
        refine js_S rfl rfl (.inr ⟨_, _, rfl, rfl⟩) (xv_sub rfl rfl (wrap_i64 (by (first|omega|(dsimp only at *;omega)|(simp at *;omega))) (by (first|omega|(dsimp only at *;omega)|(simp at *;omega)))) ⟨rfl, rfl⟩) ?_
        refine js_S rfl rfl (.inr ⟨_, _, rfl, rfl⟩) (xv_ia (sz := 3) (j := (k - 1)) sl23 ty63 rfl (by rw [hap]; rfl) rfl (by omega) (by (first|omega|(dsimp only at *;omega)|(simp at *;omega))) (by (first|omega|(dsimp only at *;omega)|(simp at *;omega))) ⟨rfl, rfl⟩) ?_
        refine js_S rfl rfl (.inr ⟨_, _, rfl, rfl⟩) (xv_faddr fl63_1 rfl ⟨rfl, rfl⟩) ?_
        refine js_R0 rfl rfl (.inr ⟨_, _, rfl, rfl⟩) (xv_load1 ty3 rfl rfl (by ((repeat first|exact z_0|assumption|refine z_1 ?_|(refine z_l ?_;(repeat first|exact z_0|assumption|refine z_1 ?_);done)|refine z_r ?_);done)) (take_get (hxp (k - 1) xp hkp) (j := 1) rfl) ⟨rfl, rfl⟩) ?_
        refine js_O0 rfl rfl (.inr ⟨_, _, rfl, rfl⟩) (xv_eql2 rfl rfl (fun hq => ?_) (fun hq => ?_))
        · refine js_S rfl rfl (.inl rfl) (xv_pick rfl rfl ⟨rfl, rfl⟩) ?_
          refine js_S rfl rfl (.inl rfl) (xv_move rfl ⟨rfl, rfl⟩) ?_
          refine js_Ss rfl rfl ⟨_, _, _, rfl, rfl, rfl⟩ ?_
          refine js_Rs rfl rfl ⟨_, _, _, rfl, rfl, rfl⟩ ?_
          refine js_Ss rfl rfl ⟨_, _, _, rfl, rfl, rfl⟩ ?_
          refine js_Ss rfl rfl ⟨_, _, _, rfl, rfl, rfl⟩ ?_
          refine js_Ss rfl rfl ⟨_, _, _, rfl, rfl, rfl⟩ ?_
          refine js_Ss rfl rfl ⟨_, _, _, rfl, rfl, rfl⟩ ?_
          refine js_Rs rfl rfl ⟨_, _, _, rfl, rfl, rfl⟩ ?_
          refine js_Ss rfl rfl ⟨_, _, _, rfl, rfl, rfl⟩ ?_
          refine js_Rs rfl rfl ⟨_, _, _, rfl, rfl, rfl⟩ ?_
          refine js_Os rfl rfl ⟨_, _, _, rfl, rfl, rfl⟩ ?_
          refine js_S rfl rfl (.inl rfl) (xv_pick rfl rfl ⟨rfl, rfl⟩) ?_
          refine j_end0 ?_
          refine th_n ?_
          refine xc_true rfl ?_
          refine xc_region ?_
          refine xr_op rfl rfl (xv_move rfl ?_)
          refine xr_op rfl rfl (xv_add rfl rfl (wrap_i64 (by (first|omega|(dsimp only at *;omega)|(simp at *;omega))) (by (first|omega|(dsimp only at *;omega)|(simp at *;omega)))) ?_)
          refine xr_op rfl rfl (xv_assign rfl ?_)
          refine xr_end rfl ?_
          refine bk_n ?_
          refine th_n ?_
          refine xc_region ?_
          refine xr_op rfl rfl (xv_move rfl ?_)
          refine xr_op rfl rfl (xv_add rfl rfl (wrap_i64 (by (first|omega|(dsimp only at *;omega)|(simp at *;omega))) (by (first|omega|(dsimp only at *;omega)|(simp at *;omega)))) ?_)
          refine xr_op rfl rfl (xv_assign rfl ?_)
          refine xr_end rfl ?_
          have hst : opn (y.moves.take (k + 1)) = ((opn (y.moves.take k)).1 + 1, xo.hour) := by
            rw [opn_take hko]; unfold stepO
            first | (rw [if_pos (by (first|omega|(dsimp only at *;omega)|(simp at *;omega)))]; done) | (rw [if_neg (by (first|omega|(dsimp only at *;omega)|(simp at *;omega))), if_pos (by (first|omega|(dsimp only at *;omega)|(simp at *;omega)))]; done) | (rw [if_neg (by (first|omega|(dsimp only at *;omega)|(simp at *;omega))), if_neg (by (first|omega|(dsimp only at *;omega)|(simp at *;omega)))]; done)
          have hsi : ((opn (y.moves.take (k + 1))).1 : Int) - 1 = ((opn (y.moves.take k)).1 : Int) - 1 + 1 := by rw [hst]; push_cast; omega
          exact rnd (k + 1) (by (first|omega|(dsimp only at *;omega)|(simp at *;omega))) (by (first|omega|(dsimp only at *;omega)|(simp at *;omega))) (le_put (le_put (le_put (le_put (le_emp _) rfl) rfl) (by rw [hsi]; rfl)) rfl) (by (first|((repeat first|exact s_0|exact s_1|exact s_3|refine s_4 ?_|refine s_5 ?_|refine s_6 ?_|refine s_7 ?_);done)|((repeat first|exact s_0|exact s_1|exact s_3|refine s_4 ?_|refine s_5 ?_|refine s_6 ?_|refine s_8 ?_);done)))
        · refine js_S rfl rfl (.inl rfl) (xv_pick rfl rfl ⟨rfl, rfl⟩) ?_
          refine js_S rfl rfl (.inl rfl) (xv_move rfl ⟨rfl, rfl⟩) ?_
          refine js_S rfl rfl (.inr ⟨_, _, rfl, rfl⟩) (xv_faddr fl25_1 rfl ⟨rfl, rfl⟩) ?_
          refine js_R0 rfl rfl (.inr ⟨_, _, rfl, rfl⟩) (xv_load1 ty23 rfl rfl (by ((repeat first|exact z_0|assumption|refine z_1 ?_|(refine z_l ?_;(repeat first|exact z_0|assumption|refine z_1 ?_);done)|refine z_r ?_);done)) (by rfl) ⟨rfl, rfl⟩) ?_
          refine js_S rfl rfl (.inr ⟨_, _, rfl, rfl⟩) (xv_move rfl ⟨rfl, rfl⟩) ?_
          refine js_S rfl rfl (.inr ⟨_, _, rfl, rfl⟩) (xv_sub rfl rfl (wrap_i64 (by (first|omega|(dsimp only at *;omega)|(simp at *;omega))) (by (first|omega|(dsimp only at *;omega)|(simp at *;omega)))) ⟨rfl, rfl⟩) ?_
          refine js_S rfl rfl (.inr ⟨_, _, rfl, rfl⟩) (xv_ia (sz := 3) (j := (k - 1)) sl23 ty63 rfl (by rw [hap]; rfl) rfl (by omega) (by (first|omega|(dsimp only at *;omega)|(simp at *;omega))) (by (first|omega|(dsimp only at *;omega)|(simp at *;omega))) ⟨rfl, rfl⟩) ?_
          refine js_S rfl rfl (.inr ⟨_, _, rfl, rfl⟩) (xv_faddr fl63_0 rfl ⟨rfl, rfl⟩) ?_
          refine js_R0 rfl rfl (.inr ⟨_, _, rfl, rfl⟩) (xv_load1 ty3 rfl rfl (by ((repeat first|exact z_0|assumption|refine z_1 ?_|(refine z_l ?_;(repeat first|exact z_0|assumption|refine z_1 ?_);done)|refine z_r ?_);done)) (take_get (hxp (k - 1) xp hkp) (j := 0) rfl) ⟨rfl, rfl⟩) ?_
          refine js_S rfl rfl (.inr ⟨_, _, rfl, rfl⟩) (xv_faddr fl63_0 rfl ⟨rfl, rfl⟩) ?_
          refine js_R0 rfl rfl (.inr ⟨_, _, rfl, rfl⟩) (xv_load1 ty3 rfl rfl (by ((repeat first|exact z_0|assumption|refine z_1 ?_|(refine z_l ?_;(repeat first|exact z_0|assumption|refine z_1 ?_);done)|refine z_r ?_);done)) (by rfl) ⟨rfl, rfl⟩) ?_
          refine js_O0 rfl rfl (.inr ⟨_, _, rfl, rfl⟩) (xv_neq2 rfl rfl (fun hq => ?_) (fun hq => ?_))
          · refine js_S rfl rfl (.inl rfl) (xv_pick rfl rfl ⟨rfl, rfl⟩) ?_
            refine j_end0 ?_
            refine th_n ?_
            refine xc_true rfl ?_
            refine xc_region ?_
            refine xr_op rfl rfl (xv_move rfl ?_)
            refine xr_op rfl rfl (xv_add rfl rfl (wrap_i64 (by (first|omega|(dsimp only at *;omega)|(simp at *;omega))) (by (first|omega|(dsimp only at *;omega)|(simp at *;omega)))) ?_)
            refine xr_op rfl rfl (xv_assign rfl ?_)
            refine xr_end rfl ?_
            refine bk_n ?_
            refine th_n ?_
            refine xc_region ?_
            refine xr_op rfl rfl (xv_move rfl ?_)
            refine xr_op rfl rfl (xv_add rfl rfl (wrap_i64 (by (first|omega|(dsimp only at *;omega)|(simp at *;omega))) (by (first|omega|(dsimp only at *;omega)|(simp at *;omega)))) ?_)
            refine xr_op rfl rfl (xv_assign rfl ?_)
            refine xr_end rfl ?_
            have hst : opn (y.moves.take (k + 1)) = ((opn (y.moves.take k)).1 + 1, xo.hour) := by
              rw [opn_take hko]; unfold stepO
              first | (rw [if_pos (by (first|omega|(dsimp only at *;omega)|(simp at *;omega)))]; done) | (rw [if_neg (by (first|omega|(dsimp only at *;omega)|(simp at *;omega))), if_pos (by (first|omega|(dsimp only at *;omega)|(simp at *;omega)))]; done) | (rw [if_neg (by (first|omega|(dsimp only at *;omega)|(simp at *;omega))), if_neg (by (first|omega|(dsimp only at *;omega)|(simp at *;omega)))]; done)
            have hsi : ((opn (y.moves.take (k + 1))).1 : Int) - 1 = ((opn (y.moves.take k)).1 : Int) - 1 + 1 := by rw [hst]; push_cast; omega
            exact rnd (k + 1) (by (first|omega|(dsimp only at *;omega)|(simp at *;omega))) (by (first|omega|(dsimp only at *;omega)|(simp at *;omega))) (le_put (le_put (le_put (le_put (le_emp _) rfl) rfl) (by rw [hsi]; rfl)) rfl) (by (first|((repeat first|exact s_0|exact s_1|exact s_3|refine s_4 ?_|refine s_5 ?_|refine s_6 ?_|refine s_7 ?_);done)|((repeat first|exact s_0|exact s_1|exact s_3|refine s_4 ?_|refine s_5 ?_|refine s_6 ?_|refine s_8 ?_);done)))
          · refine js_S rfl rfl (.inl rfl) (xv_pick rfl rfl ⟨rfl, rfl⟩) ?_
            refine j_end0 ?_
            refine th_n ?_
            refine xc_false rfl ?_
            refine xc_skip ?_
            refine bk_n ?_
            refine th_n ?_
            refine xc_region ?_
            refine xr_op rfl rfl (xv_move rfl ?_)
            refine xr_op rfl rfl (xv_add rfl rfl (wrap_i64 (by (first|omega|(dsimp only at *;omega)|(simp at *;omega))) (by (first|omega|(dsimp only at *;omega)|(simp at *;omega)))) ?_)
            refine xr_op rfl rfl (xv_assign rfl ?_)
            refine xr_end rfl ?_
            have hst : opn (y.moves.take (k + 1)) = opn (y.moves.take k) := by
              rw [opn_take hko]; unfold stepO
              first | (rw [if_pos (by (first|omega|(dsimp only at *;omega)|(simp at *;omega)))]; done) | (rw [if_neg (by (first|omega|(dsimp only at *;omega)|(simp at *;omega))), if_pos (by (first|omega|(dsimp only at *;omega)|(simp at *;omega)))]; done) | (rw [if_neg (by (first|omega|(dsimp only at *;omega)|(simp at *;omega))), if_neg (by (first|omega|(dsimp only at *;omega)|(simp at *;omega)))]; done)
            have hsi : ((opn (y.moves.take (k + 1))).1 : Int) - 1 = ((opn (y.moves.take k)).1 : Int) - 1 := by rw [hst]
            exact rnd (k + 1) (by (first|omega|(dsimp only at *;omega)|(simp at *;omega))) (by (first|omega|(dsimp only at *;omega)|(simp at *;omega))) (le_put (le_put (le_put (le_put (le_emp _) rfl) rfl) (by rw [hsi]; rfl)) rfl) (by (first|((repeat first|exact s_0|exact s_1|exact s_3|refine s_4 ?_|refine s_5 ?_|refine s_6 ?_|refine s_7 ?_);done)|((repeat first|exact s_0|exact s_1|exact s_3|refine s_4 ?_|refine s_5 ?_|refine s_6 ?_|refine s_8 ?_);done)))
  · refine xr_end rfl ?_
    refine th_n ?_
    refine xc_false rfl ?_
    refine xc_exit ?_
    refine th_x ?_
    refine th_x ?_
    refine bk_same ?_
    refine th_n ?_
    refine xc_seq (xc_region ?_)
    obtain rfl : k = i + 1 := by (first|omega|(dsimp only at *;omega)|(simp at *;omega))
    refine xr_op rfl rfl (xv_move rfl ?_)
    refine xr_op rfl rfl (xv_assign rfl ?_)
    refine xr_end rfl ?_
    refine th_n ?_
    refine xc_ret ?_
    refine body_ret (h' := h) rfl (ro_tmp rfl ro_nil) (by (first|((repeat first|exact s_0|exact s_1|exact s_3|refine s_4 ?_|refine s_5 ?_|refine s_6 ?_|refine s_7 ?_);done)|((repeat first|exact s_0|exact s_1|exact s_3|refine s_4 ?_|refine s_5 ?_|refine s_6 ?_|refine s_8 ?_);done))) ?_
    exact H

end Go.Proofs.Ytpefpafijadfmaa

/-
  Walks.
-/
namespace Go.Proofs.Ytpefpafijadfmaa
open Go Go.H
set_option maxRecDepth 100000
set_option maxHeartbeats 8000000
set_option linter.all false
theorem Layers_c {y : Yard} {n : Nat} {h : Hp} {R : Ending → Hp → Prop} (hy : YardV h y) (hmv : movesOk n 0 y.moves) (hl : y.moves.length ≤ 1000) (H : R (.returned (I ((opn y.moves).1 : Int))) h) : ACalls Try.prog 38 ⟨[.agg ⟨eYard y⟩]⟩ h R := by
  refine calls_of_xc (N := 14) Try.func38 rfl (by rfl) ?_
  refine xc_seq (xc_region ?_)
  refine xr_op rfl rfl (xv_box rfl (fun b1 hb1 => ?_))
  refine xr_op rfl rfl (xv_assign rfl ?_)
  refine xr_end rfl ?_
  refine th_n ?_
  refine xc_seq ?_
  refine xc_seq (xc_region ?_)
  refine xr_op rfl rfl (xv_faddr fl25_1 rfl ?_)
  refine xr_op rfl rfl (xv_load1 ty23 rfl rfl (by ((repeat first|exact z_0|assumption|refine z_1 ?_|(refine z_l ?_;(repeat first|exact z_0|assumption|refine z_1 ?_);done)|refine z_r ?_);done)) (by rfl) ?_)
  refine xr_op rfl rfl (xv_len sl23 rfl ?_)
  refine xr_op rfl rfl (xv_eql2 rfl rfl (fun q1 => ?_) (fun q1 => ?_))
  · refine xr_end rfl ?_
    refine th_n ?_
    refine xc_true rfl ?_
    refine xc_seq (xc_region ?_)
    have e0 : ((opn y.moves).1 : Int) = 0 := by rw [List.length_eq_zero_iff.1 (show y.moves.length = 0 by (first|omega|(dsimp only at *;omega)|(simp at *;omega)))]; rfl
    refine xr_op rfl rfl (xv_assign rfl ?_)
    refine xr_end rfl ?_
    refine th_n ?_
    refine xc_ret ?_
    refine th_r ?_
    refine body_ret (h' := h) rfl (ro_tmp rfl ro_nil) (by (first|((repeat first|exact s_0|exact s_1|exact s_3|refine s_4 ?_|refine s_5 ?_|refine s_6 ?_|refine s_7 ?_);done)|((repeat first|exact s_0|exact s_1|exact s_3|refine s_4 ?_|refine s_5 ?_|refine s_6 ?_|refine s_8 ?_);done))) ?_
    first | exact H | (rw [e0] at H; exact H)
  · refine xr_end rfl ?_
    refine th_n ?_
    refine xc_false rfl ?_
    refine xc_skip ?_
    refine th_n ?_
    refine xc_seq (xc_region ?_)
    have hob := opn_le y.moves
    refine xr_op rfl rfl (xv_loadA ty25 rfl rfl (by ((repeat first|exact z_0|assumption|refine z_1 ?_|(refine z_l ?_;(repeat first|exact z_0|assumption|refine z_1 ?_);done)|refine z_r ?_);done)) (by ((try apply evl_some rfl);(repeat (first|exact (rfl : _ = [])|apply evl_cons rfl (by (first|exact v_1|exact v_2|exact v_3|exact v_4|exact v_5|exact v_6|exact v_7|exact v_8|exact v_9|exact rfl))|exact rfl)))) (by rfl) ?_)
    refine xr_op rfl rfl (xv_faddr fl25_1 rfl ?_)
    refine xr_op rfl rfl (xv_load1 ty23 rfl rfl (by ((repeat first|exact z_0|assumption|refine z_1 ?_|(refine z_l ?_;(repeat first|exact z_0|assumption|refine z_1 ?_);done)|refine z_r ?_);done)) (by rfl) ?_)
    refine xr_op rfl rfl (xv_len sl23 rfl ?_)
    refine xr_op rfl rfl (xv_sub rfl rfl (wrap_i64 (by (first|omega|(dsimp only at *;omega)|(simp at *;omega))) (by (first|omega|(dsimp only at *;omega)|(simp at *;omega)))) ?_)
    refine xr_op rfl rfl (xv_calls rfl hb50 (layer_c (i := y.moves.length - 1) (hy.sub (by intro z hz; ((repeat first|exact z_0|assumption|refine z_1 ?_|(refine z_l ?_;(repeat first|exact z_0|assumption|refine z_1 ?_);done)|refine z_r ?_);done))) hmv (by (first|omega|(dsimp only at *;omega)|(simp at *;omega))) (by (first|omega|(dsimp only at *;omega)|(simp at *;omega))) hl (up_ret ?_)))
    rw [show y.moves.length - 1 + 1 = y.moves.length by (first|omega|(dsimp only at *;omega)|(simp at *;omega)), List.take_length]
    refine xr_op rfl rfl (xv_add rfl rfl (wrap_i64 (by (first|omega|(dsimp only at *;omega)|(simp at *;omega))) (by (first|omega|(dsimp only at *;omega)|(simp at *;omega)))) ?_)
    rw [show (1 : Int) + (((opn y.moves).1 : Int) - 1) = (opn y.moves).1 by omega]
    refine xr_op rfl rfl (xv_assign rfl ?_)
    refine xr_end rfl ?_
    refine th_n ?_
    refine xc_ret ?_
    refine body_ret (h' := h) rfl (ro_tmp rfl ro_nil) (by (first|((repeat first|exact s_0|exact s_1|exact s_3|refine s_4 ?_|refine s_5 ?_|refine s_6 ?_|refine s_7 ?_);done)|((repeat first|exact s_0|exact s_1|exact s_3|refine s_4 ?_|refine s_5 ?_|refine s_6 ?_|refine s_8 ?_);done))) ?_
    first | exact H | (rw [e0] at H; exact H)

theorem rsum_c {a : Option Addr} {c : Nat} {xs : List Int} {h : Hp} {R : Ending → Hp → Prop} (hs : SlV h 1 eI a xs) (hlen : xs.length ≤ 1000) (hb : ∀ x ∈ xs, 0 ≤ x ∧ x ≤ 2000000000) (H : R (.returned (I (sumI xs))) h) : ACalls Try.prog 39 ⟨[.slice a xs.length c]⟩ h R := by
  refine calls_of_xc (N := 18) Try.func39 rfl (by rfl) ?_
  refine xc_seq (xc_region ?_)
  refine xr_op rfl rfl (xv_assign rfl ?_)
  refine xr_end rfl ?_
  refine th_n ?_
  refine xc_seq (xc_region ?_)
  refine xr_op rfl rfl (xv_assign rfl ?_)
  refine xr_end rfl ?_
  refine th_n ?_
  refine xc_seq ?_
  refine xc_seq (xc_region ?_)
  refine xr_op rfl rfl (xv_assign rfl ?_)
  refine xr_end rfl ?_
  refine th_n ?_
  refine xc_block ?_
  refine xc_loop (σ := Nat) (fun k => k ≤ xs.length) (fun k => (((emp.put (some 0) (.slice a xs.length c)).put (some 3) (I (sumI (xs.take k)))).put (some 4) (I k))) (fun k => h) (fun k => xs.length - k) 0 (Nat.zero_le _) (le_put (le_put (le_put (le_emp _) rfl) rfl) rfl) (by (first|((repeat first|exact s_0|exact s_1|exact s_3|refine s_4 ?_|refine s_5 ?_|refine s_6 ?_|refine s_7 ?_);done)|((repeat first|exact s_0|exact s_1|exact s_3|refine s_4 ?_|refine s_5 ?_|refine s_6 ?_|refine s_8 ?_);done))) ?_
  rintro k hk
  refine xc_seq ?_
  refine xc_seq (xc_region ?_)
  refine xr_op rfl rfl (xv_move rfl ?_)
  refine xr_op rfl rfl (xv_move rfl ?_)
  refine xr_op rfl rfl (xv_len sl38 rfl ?_)
  refine xr_op rfl rfl (xv_lss2 rfl rfl (fun q1 => ?_) (fun q1 => ?_))
  · refine xr_end rfl ?_
    refine th_n ?_
    refine xc_true rfl ?_
    refine xc_skip ?_
    refine th_n ?_
    refine xc_seq ?_
    refine xc_block ?_
    refine xc_region ?_
    refine xr_op rfl rfl (xv_move rfl ?_)
    refine xr_op rfl rfl (xv_move rfl ?_)
    refine xr_op rfl rfl (xv_move rfl ?_)
    have hlto : k < xs.length := by (first|omega|(dsimp only at *;omega)|(simp at *;omega))
    obtain ⟨bo, oo, lo, to, fzo, hao, hmo, hxo⟩ := (hs).at hlto
    obtain ⟨xo, hko⟩ : ∃ qq_, xs[k]? = some qq_ := ⟨_, List.getElem?_eq_getElem hlto⟩
    have hxb := hb xo (List.mem_of_getElem? hko)
    have hsb := sumI_bd (l := xs.take k) (fun x hx => hb x (List.mem_of_mem_take hx))
    rw [List.length_take, Nat.min_eq_left hk] at hsb
    refine xr_op rfl rfl (xv_ia (sz := 1) (j := k) sl38 ty3 rfl (by rw [hao]; rfl) rfl (by (first | assumption | with_reducible exact Int.toNat_natCast _ | with_reducible rfl | rfl)) (by (first|omega|(dsimp only at *;omega)|(simp at *;omega))) (by (first|omega|(dsimp only at *;omega)|(simp at *;omega))) ?_)
    refine xr_op rfl rfl (xv_load1 ty3 rfl rfl (by ((repeat first|exact z_0|assumption|refine z_1 ?_|(refine z_l ?_;(repeat first|exact z_0|assumption|refine z_1 ?_);done)|refine z_r ?_);done)) (take_get (hxo (k) xo hko) (j := 0) rfl) ?_)
    refine xr_op rfl rfl (xv_add rfl rfl (wrap_i64 (by (first|omega|(dsimp only at *;omega)|(simp at *;omega))) (by (first|omega|(dsimp only at *;omega)|(simp at *;omega)))) ?_)
    refine xr_op rfl rfl (xv_assign rfl ?_)
    refine xr_end rfl ?_
    refine bk_n ?_
    refine th_n ?_
    refine xc_region ?_
    refine xr_op rfl rfl (xv_move rfl ?_)
    refine xr_op rfl rfl (xv_add rfl rfl (wrap_i64 (by (first|omega|(dsimp only at *;omega)|(simp at *;omega))) (by (first|omega|(dsimp only at *;omega)|(simp at *;omega)))) ?_)
    refine xr_op rfl rfl (xv_assign rfl ?_)
    refine xr_end rfl ?_
    exact rnd (k + 1) (by (first|omega|(dsimp only at *;omega)|(simp at *;omega))) (by (first|omega|(dsimp only at *;omega)|(simp at *;omega))) (le_put (le_put (le_put (le_emp _) rfl) (by rw [sumI_take hko]; rfl)) rfl) (by (first|((repeat first|exact s_0|exact s_1|exact s_3|refine s_4 ?_|refine s_5 ?_|refine s_6 ?_|refine s_7 ?_);done)|((repeat first|exact s_0|exact s_1|exact s_3|refine s_4 ?_|refine s_5 ?_|refine s_6 ?_|refine s_8 ?_);done)))
  · refine xr_end rfl ?_
    refine th_n ?_
    refine xc_false rfl ?_
    refine xc_exit ?_
    refine th_x ?_
    refine th_x ?_
    refine bk_same ?_
    refine th_n ?_
    refine xc_seq (xc_region ?_)
    obtain rfl : k = xs.length := by (first|omega|(dsimp only at *;omega)|(simp at *;omega))
    rw [List.take_length]
    refine xr_op rfl rfl (xv_move rfl ?_)
    refine xr_op rfl rfl (xv_assign rfl ?_)
    refine xr_end rfl ?_
    refine th_n ?_
    refine xc_ret ?_
    refine body_ret (h' := h) rfl (ro_tmp rfl ro_nil) (by (first|((repeat first|exact s_0|exact s_1|exact s_3|refine s_4 ?_|refine s_5 ?_|refine s_6 ?_|refine s_7 ?_);done)|((repeat first|exact s_0|exact s_1|exact s_3|refine s_4 ?_|refine s_5 ?_|refine s_6 ?_|refine s_8 ?_);done))) ?_
    exact H

theorem Contents_c {y : Yard} {h : Hp} {R : Ending → Hp → Prop} (hy : YardV h y) {j : Int} {upto : Nat} (hmv : movesOk y.coals.length 0 y.moves) (hcl : y.coals.length ≤ 1000) (hl : y.moves.length ≤ 1000) (hu : upto ≤ y.moves.length)
    (H : ∀ b, R (.returned (.slice (some ⟨b, 0, none⟩) y.coals.length y.coals.length)) ((b, .cells ⟨(contF y.coals.length (y.moves.take upto) j).flatMap eI⟩ 3) :: h)) : ACalls Try.prog 20 ⟨[.agg ⟨eYard y⟩, I j, I (upto : Int)]⟩ h R := by
  refine calls_of_xc (N := 47) Try.func20 rfl (by rfl) ?_
  refine xc_seq (xc_region ?_)
  refine xr_op rfl rfl (xv_box rfl (fun b3 hb3 => ?_))
  refine xr_op rfl rfl (xv_assign rfl ?_)
  refine xr_end rfl ?_
  refine th_n ?_
  refine xc_seq (xc_region ?_)
  refine xr_op rfl rfl (xv_faddr fl25_0 rfl ?_)
  refine xr_op rfl rfl (xv_load1 ty22 rfl rfl (by ((repeat first|exact z_0|assumption|refine z_1 ?_|(refine z_l ?_;(repeat first|exact z_0|assumption|refine z_1 ?_);done)|refine z_r ?_);done)) (by rfl) ?_)
  refine xr_op rfl rfl (xv_len sl22 rfl ?_)
  refine xr_op rfl rfl (xv_make (l := (contF y.coals.length (y.moves.take 0) j).flatMap eI) sl38 ty3 rfl rfl (by (first|omega|(dsimp only at *;omega)|(simp at *;omega))) (by simp only []; (first|omega|(dsimp only at *;omega)|(simp at *;omega))) (by simp only []; (first|omega|(dsimp only at *;omega)|(simp at *;omega))) (make_ints _) (fun b13 hb13 => ?_))
  refine xr_op rfl rfl (xv_assign rfl ?_)
  refine xr_end rfl ?_
  refine th_n ?_
  refine xc_seq ?_
  refine xc_seq (xc_region ?_)
  refine xr_op rfl rfl (xv_assign rfl ?_)
  refine xr_end rfl ?_
  refine th_n ?_
  refine xc_block ?_
  refine xc_loop (σ := Nat) (fun k => k ≤ upto) (fun k => (((((emp.put (some 1) (I j)).put (some 2) (I (upto : Int))).put (some 3) (.pointer (some ⟨b3, 0, none⟩))).put (some 7) (.slice (some ⟨b13, 0, none⟩) y.coals.length y.coals.length)).put (some 8) (I k))) (fun k => ((b13, .cells ⟨(contF y.coals.length (y.moves.take k) j).flatMap eI⟩ 3) :: (b3, .cells ⟨eYard y⟩ 25) :: h)) (fun k => upto - k) 0 (Nat.zero_le _) (le_put (le_put (le_put (le_put (le_put (le_emp _) rfl) rfl) rfl) rfl) rfl) (by (first|((repeat first|exact s_0|exact s_1|exact s_3|refine s_4 ?_|refine s_5 ?_|refine s_6 ?_|refine s_7 ?_);done)|((repeat first|exact s_0|exact s_1|exact s_3|refine s_4 ?_|refine s_5 ?_|refine s_6 ?_|refine s_8 ?_);done))) ?_
  rintro k hk
  refine xc_seq ?_
  refine xc_seq (xc_region ?_)
  refine xr_op rfl rfl (xv_move rfl ?_)
  refine xr_op rfl rfl (xv_move rfl ?_)
  refine xr_op rfl rfl (xv_lss2 rfl rfl (fun q1 => ?_) (fun q1 => ?_))
  · refine xr_end rfl ?_
    refine th_n ?_
    refine xc_true rfl ?_
    refine xc_skip ?_
    refine th_n ?_
    refine xc_seq ?_
    refine xc_block ?_
    refine xc_seq (xc_region ?_)
    refine xr_op rfl rfl (xv_faddr fl25_1 rfl ?_)
    refine xr_op rfl rfl (xv_load1 ty23 rfl rfl (by ((repeat first|exact z_0|assumption|refine z_1 ?_|(refine z_l ?_;(repeat first|exact z_0|assumption|refine z_1 ?_);done)|refine z_r ?_);done)) (by rfl) ?_)
    refine xr_op rfl rfl (xv_move rfl ?_)
    have hlto : k < y.moves.length := by (first|omega|(dsimp only at *;omega)|(simp at *;omega))
    obtain ⟨bo, oo, lo, to, fzo, hao, hmo, hxo⟩ := (hy.moves).at hlto
    obtain ⟨xo, hko⟩ : ∃ qq_, y.moves[k]? = some qq_ := ⟨_, List.getElem?_eq_getElem hlto⟩
    obtain ⟨⟨m1, m2⟩, ⟨m3, m4⟩, m5, m6⟩ := movesOk_at hmv hko
    have hcl2 := contF_len y.coals.length (y.moves.take k) j
    have hcb := contF_bd (j := j) (movesOk_mono k hmv)
    refine xr_op rfl rfl (xv_ia (sz := 3) (j := k) sl23 ty63 rfl (by rw [hao]; rfl) rfl (by (first | assumption | with_reducible exact Int.toNat_natCast _ | with_reducible rfl | rfl)) (by (first|omega|(dsimp only at *;omega)|(simp at *;omega))) (by (first|omega|(dsimp only at *;omega)|(simp at *;omega))) ?_)
    refine xr_op rfl rfl (xv_loadA ty63 rfl rfl (by ((repeat first|exact z_0|assumption|refine z_1 ?_|(refine z_l ?_;(repeat first|exact z_0|assumption|refine z_1 ?_);done)|refine z_r ?_);done)) (hxo (k) xo hko) rfl ?_)
    refine xr_op rfl rfl (xv_alloc ty63 (fun b9 hb9 => ?_))
    refine xr_op rfl rfl (xv_s ty63 rfl rfl (by (first|(apply u_3;(repeat first|exact u_0|assumption|apply u_1|apply u_2);done)|((repeat first|exact u_0|assumption|apply u_1|apply u_2);done)|(apply u_3;apply u_3;(repeat first|exact u_0|assumption|apply u_1|apply u_2);done)|((repeat first|exact u_0|assumption|apply u_3|apply u_1);done))) (by ((try apply evl_some rfl);(repeat (first|exact (rfl : _ = [])|apply evl_cons rfl (by (first|exact v_1|exact v_2|exact v_3|exact v_4|exact v_5|exact v_6|exact v_7|exact v_8|exact v_9|exact rfl))|exact rfl)))) (by rfl) (by rfl) (by rfl) (by ((try apply evl_some rfl);(repeat (first|exact (rfl : _ = [])|apply evl_cons rfl (by (first|exact v_1|exact v_2|exact v_3|exact v_4|exact v_5|exact v_6|exact v_7|exact v_8|exact v_9|exact rfl))|exact rfl)))) ?_)
    refine xr_end rfl ?_
    refine th_n ?_
    refine xc_seq (xc_region ?_)
    refine xr_op rfl rfl (xv_faddr fl63_1 rfl ?_)
    refine xr_op rfl rfl (xv_load1 ty3 rfl rfl (by ((repeat first|exact z_0|assumption|refine z_1 ?_|(refine z_l ?_;(repeat first|exact z_0|assumption|refine z_1 ?_);done)|refine z_r ?_);done)) (by rfl) ?_)
    refine xr_op rfl rfl (xv_neq2 rfl rfl (fun q2 => ?_) (fun q2 => ?_))
    · refine xr_op rfl rfl (xv_move rfl ?_)
      refine xr_gd rfl rfl rfl (xv_loadA ty25 rfl rfl (by ((repeat first|exact z_0|assumption|refine z_1 ?_|(refine z_l ?_;(repeat first|exact z_0|assumption|refine z_1 ?_);done)|refine z_r ?_);done)) (by ((try apply evl_some rfl);(repeat (first|exact (rfl : _ = [])|apply evl_cons rfl (by (first|exact v_1|exact v_2|exact v_3|exact v_4|exact v_5|exact v_6|exact v_7|exact v_8|exact v_9|exact rfl))|exact rfl)))) (by rfl) ?_)
      refine xr_gd rfl rfl rfl (xv_move rfl ?_)
      refine xr_gd rfl rfl rfl (xv_calls rfl hb50 (layer_c (i := k) (hy.sub (by intro z hz; ((repeat first|exact z_0|assumption|refine z_1 ?_|(refine z_l ?_;(repeat first|exact z_0|assumption|refine z_1 ?_);done)|refine z_r ?_);done))) hmv rfl (by (first|omega|(dsimp only at *;omega)|(simp at *;omega))) hl (up_ret ?_)))
      refine xr_gd rfl rfl rfl (xv_move rfl ?_)
      refine xr_gd rfl rfl rfl (xv_eql2 rfl rfl (fun q3 => ?_) (fun q3 => ?_))
      · refine xr_op rfl rfl (xv_pick rfl rfl ?_)
        refine xr_end rfl ?_
        refine th_n ?_
        refine xc_true rfl ?_
        refine xc_draw0 [(0, .S), (1, .S), (2, .R), (3, .S), (4, .S), (5, .R), (6, .S), (7, .R), (8, .S), (9, .R), (10, .S), (11, .S), (12, .O)] mixed (by kernel_rfl) ?_
        obtain ⟨v, hkv⟩ : ∃ v, (contF y.coals.length (y.moves.take k) j)[xo.coal.toNat]? = some v := ⟨_, List.getElem?_eq_getElem (by (first|omega|(dsimp only at *;omega)|(simp at *;omega)))⟩
        have hgd : (contF y.coals.length (y.moves.take k) j).getD xo.coal.toNat 0 = v := by rw [List.getD_eq_getElem?_getD, hkv]; rfl
        have hvb := hcb v (List.mem_of_getElem? hkv)
        rw [List.length_take] at hvb
        refine js_S rfl rfl (.inl rfl) (xv_move rfl ⟨rfl, rfl⟩) ?_
        refine js_S rfl rfl (.inl rfl) (xv_faddr fl63_1 rfl ⟨rfl, rfl⟩) ?_
        refine js_R0 rfl rfl (.inl rfl) (xv_load1 ty3 rfl rfl (by ((repeat first|exact z_0|assumption|refine z_1 ?_|(refine z_l ?_;(repeat first|exact z_0|assumption|refine z_1 ?_);done)|refine z_r ?_);done)) (by rfl) ⟨rfl, rfl⟩) ?_
        refine js_S rfl rfl (.inl rfl) (xv_move rfl ⟨rfl, rfl⟩) ?_
        refine js_S rfl rfl (.inl rfl) (xv_faddr fl63_1 rfl ⟨rfl, rfl⟩) ?_
        refine js_R0 rfl rfl (.inl rfl) (xv_load1 ty3 rfl rfl (by ((repeat first|exact z_0|assumption|refine z_1 ?_|(refine z_l ?_;(repeat first|exact z_0|assumption|refine z_1 ?_);done)|refine z_r ?_);done)) (by rfl) ⟨rfl, rfl⟩) ?_
        refine js_S rfl rfl (.inl rfl) (xv_ia (sz := 1) (j := xo.coal.toNat) sl38 ty3 rfl rfl rfl (by omega) (by (first|omega|(dsimp only at *;omega)|(simp at *;omega))) (by (first|omega|(dsimp only at *;omega)|(simp at *;omega))) ⟨rfl, rfl⟩) ?_
        refine js_R0 rfl rfl (.inl rfl) (xv_load1 ty3 rfl rfl (by ((repeat first|exact z_0|assumption|refine z_1 ?_|(refine z_l ?_;(repeat first|exact z_0|assumption|refine z_1 ?_);done)|refine z_r ?_);done)) (ints_get hkv) ⟨rfl, rfl⟩) ?_
        refine js_S rfl rfl (.inl rfl) (xv_faddr fl63_2 rfl ⟨rfl, rfl⟩) ?_
        refine js_R0 rfl rfl (.inl rfl) (xv_load1 ty3 rfl rfl (by ((repeat first|exact z_0|assumption|refine z_1 ?_|(refine z_l ?_;(repeat first|exact z_0|assumption|refine z_1 ?_);done)|refine z_r ?_);done)) (by rfl) ⟨rfl, rfl⟩) ?_
        refine js_S rfl rfl (.inl rfl) (xv_add rfl rfl (wrap_i64 (by (first|omega|(dsimp only at *;omega)|(simp at *;omega))) (by (first|omega|(dsimp only at *;omega)|(simp at *;omega)))) ⟨rfl, rfl⟩) ?_
        refine js_S rfl rfl (.inl rfl) (xv_ia (sz := 1) (j := xo.coal.toNat) sl38 ty3 rfl rfl rfl (by omega) (by (first|omega|(dsimp only at *;omega)|(simp at *;omega))) (by (first|omega|(dsimp only at *;omega)|(simp at *;omega))) ⟨rfl, rfl⟩) ?_
        refine js_O0 rfl rfl (.inl rfl) (xv_s1 (l := (contF y.coals.length (y.moves.take k) j).flatMap eI) (l' := ((contF y.coals.length (y.moves.take k) j).set xo.coal.toNat ((contF y.coals.length (y.moves.take k) j).getD xo.coal.toNat 0 + xo.tons)).flatMap eI) ty3 rfl rfl rfl (by (first|(apply u_3;(repeat first|exact u_0|assumption|apply u_1|apply u_2);done)|((repeat first|exact u_0|assumption|apply u_1|apply u_2);done)|(apply u_3;apply u_3;(repeat first|exact u_0|assumption|apply u_1|apply u_2);done)|((repeat first|exact u_0|assumption|apply u_3|apply u_1);done))) rfl (by rw [ints_len]; (first|omega|(dsimp only at *;omega)|(simp at *;omega))) (by rw [hgd]; exact ints_setN (by (first|omega|(dsimp only at *;omega)|(simp at *;omega)))) ?_)
        refine j_end0 ?_
        refine bk_n ?_
        refine th_n ?_
        refine xc_region ?_
        refine xr_op rfl rfl (xv_move rfl ?_)
        refine xr_op rfl rfl (xv_add rfl rfl (wrap_i64 (by (first|omega|(dsimp only at *;omega)|(simp at *;omega))) (by (first|omega|(dsimp only at *;omega)|(simp at *;omega)))) ?_)
        refine xr_op rfl rfl (xv_assign rfl ?_)
        refine xr_end rfl ?_
        have hcn : (contF y.coals.length (y.moves.take (k + 1)) j) = (contF y.coals.length (y.moves.take k) j).set xo.coal.toNat ((contF y.coals.length (y.moves.take k) j).getD xo.coal.toNat 0 + xo.tons) := by rw [contF_take hko]; first | exact if_pos ⟨by (first|omega|(dsimp only at *;omega)|(simp at *;omega)), by (first|omega|(dsimp only at *;omega)|(simp at *;omega))⟩ | exact if_neg (fun hq9 => by omega)
        exact rnd (k + 1) (by (first|omega|(dsimp only at *;omega)|(simp at *;omega))) (by (first|omega|(dsimp only at *;omega)|(simp at *;omega))) (le_put (le_put (le_put (le_put (le_put (le_emp _) rfl) rfl) rfl) rfl) rfl) (by rw [hcn]; (first|((repeat first|exact s_0|exact s_1|exact s_3|refine s_4 ?_|refine s_5 ?_|refine s_6 ?_|refine s_7 ?_);done)|((repeat first|exact s_0|exact s_1|exact s_3|refine s_4 ?_|refine s_5 ?_|refine s_6 ?_|refine s_8 ?_);done)))
      · refine xr_op rfl rfl (xv_pick rfl rfl ?_)
        refine xr_end rfl ?_
        refine th_n ?_
        refine xc_false rfl ?_
        refine xc_skip ?_
        refine bk_n ?_
        refine th_n ?_
        refine xc_region ?_
        refine xr_op rfl rfl (xv_move rfl ?_)
        refine xr_op rfl rfl (xv_add rfl rfl (wrap_i64 (by (first|omega|(dsimp only at *;omega)|(simp at *;omega))) (by (first|omega|(dsimp only at *;omega)|(simp at *;omega)))) ?_)
        refine xr_op rfl rfl (xv_assign rfl ?_)
        refine xr_end rfl ?_
        have hcn : (contF y.coals.length (y.moves.take (k + 1)) j) = (contF y.coals.length (y.moves.take k) j) := by rw [contF_take hko]; first | exact if_pos ⟨by (first|omega|(dsimp only at *;omega)|(simp at *;omega)), by (first|omega|(dsimp only at *;omega)|(simp at *;omega))⟩ | exact if_neg (fun hq9 => by omega)
        exact rnd (k + 1) (by (first|omega|(dsimp only at *;omega)|(simp at *;omega))) (by (first|omega|(dsimp only at *;omega)|(simp at *;omega))) (le_put (le_put (le_put (le_put (le_put (le_emp _) rfl) rfl) rfl) rfl) rfl) (by rw [hcn]; (first|((repeat first|exact s_0|exact s_1|exact s_3|refine s_4 ?_|refine s_5 ?_|refine s_6 ?_|refine s_7 ?_);done)|((repeat first|exact s_0|exact s_1|exact s_3|refine s_4 ?_|refine s_5 ?_|refine s_6 ?_|refine s_8 ?_);done)))
    · refine xr_op rfl rfl (xv_move rfl ?_)
      refine xr_no rfl rfl rfl rfl ?_
      refine xr_no rfl rfl rfl rfl ?_
      refine xr_no rfl rfl rfl rfl ?_
      refine xr_no rfl rfl rfl rfl ?_
      refine xr_no rfl rfl rfl rfl ?_
      refine xr_op rfl rfl (xv_pick rfl rfl ?_)
      refine xr_end rfl ?_
      refine th_n ?_
      refine xc_false rfl ?_
      refine xc_skip ?_
      refine bk_n ?_
      refine th_n ?_
      refine xc_region ?_
      refine xr_op rfl rfl (xv_move rfl ?_)
      refine xr_op rfl rfl (xv_add rfl rfl (wrap_i64 (by (first|omega|(dsimp only at *;omega)|(simp at *;omega))) (by (first|omega|(dsimp only at *;omega)|(simp at *;omega)))) ?_)
      refine xr_op rfl rfl (xv_assign rfl ?_)
      refine xr_end rfl ?_
      have hcn : (contF y.coals.length (y.moves.take (k + 1)) j) = (contF y.coals.length (y.moves.take k) j) := by rw [contF_take hko]; first | exact if_pos ⟨by (first|omega|(dsimp only at *;omega)|(simp at *;omega)), by (first|omega|(dsimp only at *;omega)|(simp at *;omega))⟩ | exact if_neg (fun hq9 => by omega)
      exact rnd (k + 1) (by (first|omega|(dsimp only at *;omega)|(simp at *;omega))) (by (first|omega|(dsimp only at *;omega)|(simp at *;omega))) (le_put (le_put (le_put (le_put (le_put (le_emp _) rfl) rfl) rfl) rfl) rfl) (by rw [hcn]; (first|((repeat first|exact s_0|exact s_1|exact s_3|refine s_4 ?_|refine s_5 ?_|refine s_6 ?_|refine s_7 ?_);done)|((repeat first|exact s_0|exact s_1|exact s_3|refine s_4 ?_|refine s_5 ?_|refine s_6 ?_|refine s_8 ?_);done)))
  · refine xr_end rfl ?_
    refine th_n ?_
    refine xc_false rfl ?_
    refine xc_exit ?_
    refine th_x ?_
    refine th_x ?_
    refine bk_same ?_
    refine th_n ?_
    refine xc_seq (xc_region ?_)
    obtain rfl : upto = k := by (first|omega|(dsimp only at *;omega)|(simp at *;omega))
    refine xr_op rfl rfl (xv_move rfl ?_)
    refine xr_op rfl rfl (xv_assign rfl ?_)
    refine xr_end rfl ?_
    refine th_n ?_
    refine xc_ret ?_
    refine body_ret (h' := ((b13, .cells ⟨(contF y.coals.length (y.moves.take upto) j).flatMap eI⟩ 3) :: h)) rfl (ro_tmp rfl ro_nil) (by (first|((repeat first|exact s_0|exact s_1|exact s_3|refine s_4 ?_|refine s_5 ?_|refine s_6 ?_|refine s_7 ?_);done)|((repeat first|exact s_0|exact s_1|exact s_3|refine s_4 ?_|refine s_5 ?_|refine s_6 ?_|refine s_8 ?_);done))) ?_
    exact H b13

theorem Spans_c {a a2 : Option Addr} {c c2 : Nat} {xs ys : List Span} {h : Hp} {R : Ending → Hp → Prop} (hs : SlV h 2 eSpan a xs) (hs2 : SlV h 2 eSpan a2 ys) (hl : xs.length ≤ 1000000) (hl2 : ys.length ≤ 4611686018427387904)
    (H : R (.returned (.bool (decide (xs = ys)))) h) :
    ACalls Try.prog 15 ⟨[.slice a xs.length c, .slice a2 ys.length c2]⟩ h R := by
  refine calls_of_xc (N := 26) Try.func15 rfl (by rfl) ?_
  refine xc_seq (xc_region ?_)
  refine xr_op rfl rfl (xv_assign rfl ?_)
  refine xr_end rfl ?_
  refine th_n ?_
  refine xc_seq ?_
  refine xc_seq (xc_region ?_)
  refine xr_op rfl rfl (xv_move rfl ?_)
  refine xr_op rfl rfl (xv_len sl28 rfl ?_)
  refine xr_op rfl rfl (xv_move rfl ?_)
  refine xr_op rfl rfl (xv_len sl28 rfl ?_)
  refine xr_op rfl rfl (xv_neq2 rfl rfl (fun q1 => ?_) (fun q1 => ?_))
  · refine xr_end rfl ?_
    refine th_n ?_
    refine xc_true rfl ?_
    refine xc_seq (xc_region ?_)
    refine xr_op rfl rfl (xv_assign rfl ?_)
    refine xr_end rfl ?_
    refine th_n ?_
    refine xc_ret ?_
    refine th_r ?_
    refine body_ret (h' := h) rfl (ro_tmp rfl ro_nil) (by (first|((repeat first|exact s_0|exact s_1|exact s_3|refine s_4 ?_|refine s_5 ?_|refine s_6 ?_|refine s_7 ?_);done)|((repeat first|exact s_0|exact s_1|exact s_3|refine s_4 ?_|refine s_5 ?_|refine s_6 ?_|refine s_8 ?_);done))) ?_
    first | (rw [decide_eq_true hxy] at H; exact H) | (rw [decide_eq_false hne] at H; exact H) | (rw [decide_eq_false (fun hq => by subst hq; omega)] at H; exact H)
  · refine xr_end rfl ?_
    refine th_n ?_
    refine xc_false rfl ?_
    refine xc_skip ?_
    refine th_n ?_
    refine xc_seq ?_
    refine xc_seq (xc_region ?_)
    refine xr_op rfl rfl (xv_assign rfl ?_)
    refine xr_end rfl ?_
    refine th_n ?_
    refine xc_block ?_
    have hle : xs.length = ys.length := by (first|omega|(dsimp only at *;omega)|(simp at *;omega))
    refine xc_loop (σ := Nat) (fun k => k ≤ xs.length ∧ xs.take k = ys.take k) (fun k => (((emp.put (some 0) (.slice a xs.length c)).put (some 1) (.slice a2 ys.length c2)).put (some 5) (I k))) (fun k => h) (fun k => xs.length - k) 0 ⟨Nat.zero_le _, rfl⟩ (le_put (le_put (le_put (le_emp _) rfl) rfl) rfl) (by (first|((repeat first|exact s_0|exact s_1|exact s_3|refine s_4 ?_|refine s_5 ?_|refine s_6 ?_|refine s_7 ?_);done)|((repeat first|exact s_0|exact s_1|exact s_3|refine s_4 ?_|refine s_5 ?_|refine s_6 ?_|refine s_8 ?_);done))) ?_
    rintro k ⟨hk, hall⟩
    refine xc_seq ?_
    refine xc_seq (xc_region ?_)
    refine xr_op rfl rfl (xv_move rfl ?_)
    refine xr_op rfl rfl (xv_move rfl ?_)
    refine xr_op rfl rfl (xv_len sl28 rfl ?_)
    refine xr_op rfl rfl (xv_lss2 rfl rfl (fun q2 => ?_) (fun q2 => ?_))
    · refine xr_end rfl ?_
      refine th_n ?_
      refine xc_true rfl ?_
      refine xc_skip ?_
      refine th_n ?_
      refine xc_seq ?_
      refine xc_block ?_
      refine xc_seq ?_
      refine xc_draw0 [(0, .S), (1, .S), (2, .S), (3, .R), (4, .S), (5, .S), (6, .S), (7, .R), (8, .S)] mixed (by kernel_rfl) ?_
      have hlto : k < xs.length := by (first|omega|(dsimp only at *;omega)|(simp at *;omega))
      obtain ⟨bo, oo, lo, to, fzo, hao, hmo, hxo⟩ := (hs).at hlto
      obtain ⟨xo, hko⟩ : ∃ qq_, xs[k]? = some qq_ := ⟨_, List.getElem?_eq_getElem hlto⟩
      have hltp : k < ys.length := by (first|omega|(dsimp only at *;omega)|(simp at *;omega))
      obtain ⟨bp, op, lp, tp, fzp, hap, hmp, hxp⟩ := (hs2).at hltp
      obtain ⟨xp, hkp⟩ : ∃ qq_, ys[k]? = some qq_ := ⟨_, List.getElem?_eq_getElem hltp⟩
      refine js_S rfl rfl (.inl rfl) (xv_move rfl ⟨rfl, rfl⟩) ?_
      refine js_S rfl rfl (.inl rfl) (xv_move rfl ⟨rfl, rfl⟩) ?_
      refine js_S rfl rfl (.inl rfl) (xv_ia (sz := 2) (j := k) sl28 ty33 rfl (by rw [hao]; rfl) rfl (by (first | assumption | with_reducible exact Int.toNat_natCast _ | with_reducible rfl | rfl)) (by (first|omega|(dsimp only at *;omega)|(simp at *;omega))) (by (first|omega|(dsimp only at *;omega)|(simp at *;omega))) ⟨rfl, rfl⟩) ?_
      refine js_R0 rfl rfl (.inl rfl) (xv_loadA ty33 rfl rfl (by ((repeat first|exact z_0|assumption|refine z_1 ?_|(refine z_l ?_;(repeat first|exact z_0|assumption|refine z_1 ?_);done)|refine z_r ?_);done)) (hxo (k) xo hko) rfl ⟨rfl, rfl⟩) ?_
      refine js_S rfl rfl (.inl rfl) (xv_move rfl ⟨rfl, rfl⟩) ?_
      refine js_S rfl rfl (.inl rfl) (xv_move rfl ⟨rfl, rfl⟩) ?_
      refine js_S rfl rfl (.inl rfl) (xv_ia (sz := 2) (j := k) sl28 ty33 rfl (by rw [hap]; rfl) rfl (by (first | assumption | with_reducible exact Int.toNat_natCast _ | with_reducible rfl | rfl)) (by (first|omega|(dsimp only at *;omega)|(simp at *;omega))) (by (first|omega|(dsimp only at *;omega)|(simp at *;omega))) ⟨rfl, rfl⟩) ?_
      refine js_R0 rfl rfl (.inl rfl) (xv_loadA ty33 rfl rfl (by ((repeat first|exact z_0|assumption|refine z_1 ?_|(refine z_l ?_;(repeat first|exact z_0|assumption|refine z_1 ?_);done)|refine z_r ?_);done)) (hxp (k) xp hkp) rfl ⟨rfl, rfl⟩) ?_
      refine js_S rfl rfl (.inl rfl) (xv_neA (b := !decide (xo = xp)) fq33 rfl eg33 rfl rfl rfl rfl (by ((repeat' first | assumption | exact numNil | refine numCons ?_ | refine numApp ?_ ?_); done)) (by ((repeat' first | assumption | exact numNil | refine numCons ?_ | refine numApp ?_ ?_); done)) (eqc_spanD xo xp) ⟨rfl, rfl⟩) ?_
      refine j_end0 ?_
      refine th_n ?_
      refine xc_bool rfl (fun q3 => ?_) (fun q3 => ?_)
      · refine xc_seq (xc_region ?_)
        have hne : ¬ xs = ys := fun hq => by subst hq; have hq2 := Option.some.inj (hko.symm.trans hkp); simp_all
        refine xr_op rfl rfl (xv_assign rfl ?_)
        refine xr_end rfl ?_
        refine th_n ?_
        refine xc_ret ?_
        refine bk_r ?_
        refine th_r ?_
        refine th_r ?_
        refine bk_r ?_
        refine th_r ?_
        refine body_ret (h' := h) rfl (ro_tmp rfl ro_nil) (by (first|((repeat first|exact s_0|exact s_1|exact s_3|refine s_4 ?_|refine s_5 ?_|refine s_6 ?_|refine s_7 ?_);done)|((repeat first|exact s_0|exact s_1|exact s_3|refine s_4 ?_|refine s_5 ?_|refine s_6 ?_|refine s_8 ?_);done))) ?_
        first | (rw [decide_eq_true hxy] at H; exact H) | (rw [decide_eq_false hne] at H; exact H) | (rw [decide_eq_false (fun hq => by subst hq; omega)] at H; exact H)
      · refine xc_skip ?_
        refine bk_n ?_
        refine th_n ?_
        refine xc_region ?_
        have heq : xo = xp := by simp_all
        refine xr_op rfl rfl (xv_move rfl ?_)
        refine xr_op rfl rfl (xv_add rfl rfl (wrap_i64 (by (first|omega|(dsimp only at *;omega)|(simp at *;omega))) (by (first|omega|(dsimp only at *;omega)|(simp at *;omega)))) ?_)
        refine xr_op rfl rfl (xv_assign rfl ?_)
        refine xr_end rfl ?_
        exact rnd (k + 1) ⟨by (first|omega|(dsimp only at *;omega)|(simp at *;omega)), by rw [List.take_add_one, List.take_add_one, hko, hkp, hall, heq]⟩ (by (first|omega|(dsimp only at *;omega)|(simp at *;omega))) (le_put (le_put (le_put (le_emp _) rfl) rfl) rfl) (by (first|((repeat first|exact s_0|exact s_1|exact s_3|refine s_4 ?_|refine s_5 ?_|refine s_6 ?_|refine s_7 ?_);done)|((repeat first|exact s_0|exact s_1|exact s_3|refine s_4 ?_|refine s_5 ?_|refine s_6 ?_|refine s_8 ?_);done)))
    · refine xr_end rfl ?_
      refine th_n ?_
      refine xc_false rfl ?_
      refine xc_exit ?_
      refine th_x ?_
      refine th_x ?_
      refine bk_same ?_
      refine th_n ?_
      refine xc_seq (xc_region ?_)
      obtain rfl : k = xs.length := by (first|omega|(dsimp only at *;omega)|(simp at *;omega))
      have hxy : xs = ys := by rw [List.take_length] at hall; rw [hall, hle, List.take_length]
      refine xr_op rfl rfl (xv_assign rfl ?_)
      refine xr_end rfl ?_
      refine th_n ?_
      refine xc_ret ?_
      refine body_ret (h' := h) rfl (ro_tmp rfl ro_nil) (by (first|((repeat first|exact s_0|exact s_1|exact s_3|refine s_4 ?_|refine s_5 ?_|refine s_6 ?_|refine s_7 ?_);done)|((repeat first|exact s_0|exact s_1|exact s_3|refine s_4 ?_|refine s_5 ?_|refine s_6 ?_|refine s_8 ?_);done))) ?_
      first | (rw [decide_eq_true hxy] at H; exact H) | (rw [decide_eq_false hne] at H; exact H) | (rw [decide_eq_false (fun hq => by subst hq; omega)] at H; exact H)

theorem Lists_c {a a2 : Option Addr} {c c2 : Nat} {xs ys : List Part} {h : Hp} {R : Ending → Hp → Prop} (hs : SlV h 2 ePart a xs) (hs2 : SlV h 2 ePart a2 ys) (hl : xs.length ≤ 1000000) (hl2 : ys.length ≤ 4611686018427387904)
    (H : R (.returned (.bool (decide (xs = ys)))) h) :
    ACalls Try.prog 23 ⟨[.slice a xs.length c, .slice a2 ys.length c2]⟩ h R := by
  refine calls_of_xc (N := 26) Try.func23 rfl (by rfl) ?_
  refine xc_seq (xc_region ?_)
  refine xr_op rfl rfl (xv_assign rfl ?_)
  refine xr_end rfl ?_
  refine th_n ?_
  refine xc_seq ?_
  refine xc_seq (xc_region ?_)
  refine xr_op rfl rfl (xv_move rfl ?_)
  refine xr_op rfl rfl (xv_len sl39 rfl ?_)
  refine xr_op rfl rfl (xv_move rfl ?_)
  refine xr_op rfl rfl (xv_len sl39 rfl ?_)
  refine xr_op rfl rfl (xv_neq2 rfl rfl (fun q1 => ?_) (fun q1 => ?_))
  · refine xr_end rfl ?_
    refine th_n ?_
    refine xc_true rfl ?_
    refine xc_seq (xc_region ?_)
    refine xr_op rfl rfl (xv_assign rfl ?_)
    refine xr_end rfl ?_
    refine th_n ?_
    refine xc_ret ?_
    refine th_r ?_
    refine body_ret (h' := h) rfl (ro_tmp rfl ro_nil) (by (first|((repeat first|exact s_0|exact s_1|exact s_3|refine s_4 ?_|refine s_5 ?_|refine s_6 ?_|refine s_7 ?_);done)|((repeat first|exact s_0|exact s_1|exact s_3|refine s_4 ?_|refine s_5 ?_|refine s_6 ?_|refine s_8 ?_);done))) ?_
    first | (rw [decide_eq_true hxy] at H; exact H) | (rw [decide_eq_false hne] at H; exact H) | (rw [decide_eq_false (fun hq => by subst hq; omega)] at H; exact H)
  · refine xr_end rfl ?_
    refine th_n ?_
    refine xc_false rfl ?_
    refine xc_skip ?_
    refine th_n ?_
    refine xc_seq ?_
    refine xc_seq (xc_region ?_)
    refine xr_op rfl rfl (xv_assign rfl ?_)
    refine xr_end rfl ?_
    refine th_n ?_
    refine xc_block ?_
    have hle : xs.length = ys.length := by (first|omega|(dsimp only at *;omega)|(simp at *;omega))
    refine xc_loop (σ := Nat) (fun k => k ≤ xs.length ∧ xs.take k = ys.take k) (fun k => (((emp.put (some 0) (.slice a xs.length c)).put (some 1) (.slice a2 ys.length c2)).put (some 5) (I k))) (fun k => h) (fun k => xs.length - k) 0 ⟨Nat.zero_le _, rfl⟩ (le_put (le_put (le_put (le_emp _) rfl) rfl) rfl) (by (first|((repeat first|exact s_0|exact s_1|exact s_3|refine s_4 ?_|refine s_5 ?_|refine s_6 ?_|refine s_7 ?_);done)|((repeat first|exact s_0|exact s_1|exact s_3|refine s_4 ?_|refine s_5 ?_|refine s_6 ?_|refine s_8 ?_);done))) ?_
    rintro k ⟨hk, hall⟩
    refine xc_seq ?_
    refine xc_seq (xc_region ?_)
    refine xr_op rfl rfl (xv_move rfl ?_)
    refine xr_op rfl rfl (xv_move rfl ?_)
    refine xr_op rfl rfl (xv_len sl39 rfl ?_)
    refine xr_op rfl rfl (xv_lss2 rfl rfl (fun q2 => ?_) (fun q2 => ?_))
    · refine xr_end rfl ?_
      refine th_n ?_
      refine xc_true rfl ?_
      refine xc_skip ?_
      refine th_n ?_
      refine xc_seq ?_
      refine xc_block ?_
      refine xc_seq ?_
      refine xc_draw0 [(0, .S), (1, .S), (2, .S), (3, .R), (4, .S), (5, .S), (6, .S), (7, .R), (8, .S)] mixed (by kernel_rfl) ?_
      have hlto : k < xs.length := by (first|omega|(dsimp only at *;omega)|(simp at *;omega))
      obtain ⟨bo, oo, lo, to, fzo, hao, hmo, hxo⟩ := (hs).at hlto
      obtain ⟨xo, hko⟩ : ∃ qq_, xs[k]? = some qq_ := ⟨_, List.getElem?_eq_getElem hlto⟩
      have hltp : k < ys.length := by (first|omega|(dsimp only at *;omega)|(simp at *;omega))
      obtain ⟨bp, op, lp, tp, fzp, hap, hmp, hxp⟩ := (hs2).at hltp
      obtain ⟨xp, hkp⟩ : ∃ qq_, ys[k]? = some qq_ := ⟨_, List.getElem?_eq_getElem hltp⟩
      refine js_S rfl rfl (.inl rfl) (xv_move rfl ⟨rfl, rfl⟩) ?_
      refine js_S rfl rfl (.inl rfl) (xv_move rfl ⟨rfl, rfl⟩) ?_
      refine js_S rfl rfl (.inl rfl) (xv_ia (sz := 2) (j := k) sl39 ty43 rfl (by rw [hao]; rfl) rfl (by (first | assumption | with_reducible exact Int.toNat_natCast _ | with_reducible rfl | rfl)) (by (first|omega|(dsimp only at *;omega)|(simp at *;omega))) (by (first|omega|(dsimp only at *;omega)|(simp at *;omega))) ⟨rfl, rfl⟩) ?_
      refine js_R0 rfl rfl (.inl rfl) (xv_loadA ty43 rfl rfl (by ((repeat first|exact z_0|assumption|refine z_1 ?_|(refine z_l ?_;(repeat first|exact z_0|assumption|refine z_1 ?_);done)|refine z_r ?_);done)) (hxo (k) xo hko) rfl ⟨rfl, rfl⟩) ?_
      refine js_S rfl rfl (.inl rfl) (xv_move rfl ⟨rfl, rfl⟩) ?_
      refine js_S rfl rfl (.inl rfl) (xv_move rfl ⟨rfl, rfl⟩) ?_
      refine js_S rfl rfl (.inl rfl) (xv_ia (sz := 2) (j := k) sl39 ty43 rfl (by rw [hap]; rfl) rfl (by (first | assumption | with_reducible exact Int.toNat_natCast _ | with_reducible rfl | rfl)) (by (first|omega|(dsimp only at *;omega)|(simp at *;omega))) (by (first|omega|(dsimp only at *;omega)|(simp at *;omega))) ⟨rfl, rfl⟩) ?_
      refine js_R0 rfl rfl (.inl rfl) (xv_loadA ty43 rfl rfl (by ((repeat first|exact z_0|assumption|refine z_1 ?_|(refine z_l ?_;(repeat first|exact z_0|assumption|refine z_1 ?_);done)|refine z_r ?_);done)) (hxp (k) xp hkp) rfl ⟨rfl, rfl⟩) ?_
      refine js_S rfl rfl (.inl rfl) (xv_neA (b := !decide (xo = xp)) fq43 rfl eg43 rfl rfl rfl rfl (by ((repeat' first | assumption | exact numNil | refine numCons ?_ | refine numApp ?_ ?_); done)) (by ((repeat' first | assumption | exact numNil | refine numCons ?_ | refine numApp ?_ ?_); done)) (eqc_partD xo xp) ⟨rfl, rfl⟩) ?_
      refine j_end0 ?_
      refine th_n ?_
      refine xc_bool rfl (fun q3 => ?_) (fun q3 => ?_)
      · refine xc_seq (xc_region ?_)
        have hne : ¬ xs = ys := fun hq => by subst hq; have hq2 := Option.some.inj (hko.symm.trans hkp); simp_all
        refine xr_op rfl rfl (xv_assign rfl ?_)
        refine xr_end rfl ?_
        refine th_n ?_
        refine xc_ret ?_
        refine bk_r ?_
        refine th_r ?_
        refine th_r ?_
        refine bk_r ?_
        refine th_r ?_
        refine body_ret (h' := h) rfl (ro_tmp rfl ro_nil) (by (first|((repeat first|exact s_0|exact s_1|exact s_3|refine s_4 ?_|refine s_5 ?_|refine s_6 ?_|refine s_7 ?_);done)|((repeat first|exact s_0|exact s_1|exact s_3|refine s_4 ?_|refine s_5 ?_|refine s_6 ?_|refine s_8 ?_);done))) ?_
        first | (rw [decide_eq_true hxy] at H; exact H) | (rw [decide_eq_false hne] at H; exact H) | (rw [decide_eq_false (fun hq => by subst hq; omega)] at H; exact H)
      · refine xc_skip ?_
        refine bk_n ?_
        refine th_n ?_
        refine xc_region ?_
        have heq : xo = xp := by simp_all
        refine xr_op rfl rfl (xv_move rfl ?_)
        refine xr_op rfl rfl (xv_add rfl rfl (wrap_i64 (by (first|omega|(dsimp only at *;omega)|(simp at *;omega))) (by (first|omega|(dsimp only at *;omega)|(simp at *;omega)))) ?_)
        refine xr_op rfl rfl (xv_assign rfl ?_)
        refine xr_end rfl ?_
        exact rnd (k + 1) ⟨by (first|omega|(dsimp only at *;omega)|(simp at *;omega)), by rw [List.take_add_one, List.take_add_one, hko, hkp, hall, heq]⟩ (by (first|omega|(dsimp only at *;omega)|(simp at *;omega))) (le_put (le_put (le_put (le_emp _) rfl) rfl) rfl) (by (first|((repeat first|exact s_0|exact s_1|exact s_3|refine s_4 ?_|refine s_5 ?_|refine s_6 ?_|refine s_7 ?_);done)|((repeat first|exact s_0|exact s_1|exact s_3|refine s_4 ?_|refine s_5 ?_|refine s_6 ?_|refine s_8 ?_);done)))
    · refine xr_end rfl ?_
      refine th_n ?_
      refine xc_false rfl ?_
      refine xc_exit ?_
      refine th_x ?_
      refine th_x ?_
      refine bk_same ?_
      refine th_n ?_
      refine xc_seq (xc_region ?_)
      obtain rfl : k = xs.length := by (first|omega|(dsimp only at *;omega)|(simp at *;omega))
      have hxy : xs = ys := by rw [List.take_length] at hall; rw [hall, hle, List.take_length]
      refine xr_op rfl rfl (xv_assign rfl ?_)
      refine xr_end rfl ?_
      refine th_n ?_
      refine xc_ret ?_
      refine body_ret (h' := h) rfl (ro_tmp rfl ro_nil) (by (first|((repeat first|exact s_0|exact s_1|exact s_3|refine s_4 ?_|refine s_5 ?_|refine s_6 ?_|refine s_7 ?_);done)|((repeat first|exact s_0|exact s_1|exact s_3|refine s_4 ?_|refine s_5 ?_|refine s_6 ?_|refine s_8 ?_);done))) ?_
      first | (rw [decide_eq_true hxy] at H; exact H) | (rw [decide_eq_false hne] at H; exact H) | (rw [decide_eq_false (fun hq => by subst hq; omega)] at H; exact H)

end Go.Proofs.Ytpefpafijadfmaa

/-
  Walks.
-/
namespace Go.Proofs.Ytpefpafijadfmaa
open Go Go.H
set_option maxRecDepth 100000
set_option maxHeartbeats 8000000
set_option linter.all false
theorem rsumN_c {a : Option Addr} {c n : Nat} {xs : List Int} {h : Hp} {R : Ending → Hp → Prop} (hn : n = xs.length) (hs : SlV h 1 eI a xs) (hlen : xs.length ≤ 1000) (hb : ∀ x ∈ xs, 0 ≤ x ∧ x ≤ 2000000000) (H : R (.returned (I (sumI xs))) h) : ACalls Try.prog 39 ⟨[.slice a n c]⟩ h R := by
  subst hn; exact rsum_c hs hlen hb H

theorem Parts_c {y : Yard} {h : Hp} {R : Ending → Hp → Prop} (hy : YardV h y) {L : Nat} (hL : L = (opn y.moves).1) (hmv : movesOk y.coals.length 0 y.moves) (hcl : y.coals.length ≤ 1000) (hl : y.moves.length ≤ 1000)
    (H1 : partsR y.coals.length y.moves L y.moves.length = none → R (.returned (.tuple ⟨[.slice none 0 0, .bool false]⟩)) h)
    (H2 : ∀ (hds : List Hd) (V : Vec) (P : Hp), PInv y.coals.length y.moves L y.moves.length (hds.map Hd.m) → Vec.ok V 1 hds.length (hds.flatMap eHd) → (∀ z ∈ hds, SlV P 1 eI z.a z.m) → R (.returned (.tuple ⟨[V.val hds.length, .bool true]⟩)) (V.hp 38 (hds.flatMap eHd) ++ (P ++ h))) :
    ACalls Try.prog 25 ⟨[.agg ⟨eYard y⟩]⟩ h R := by
  refine calls_of_xc (N := 80) Try.func25 rfl (by rfl) ?_
  have hob := opn_le y.moves
  refine xc_seq (xc_region ?_)
  refine xr_op rfl rfl (xv_box rfl (fun b1 hb1 => ?_))
  refine xr_op rfl rfl (xv_assign rfl ?_)
  refine xr_op rfl rfl (xv_assign rfl ?_)
  refine xr_end rfl ?_
  refine th_n ?_
  refine xc_seq (xc_region ?_)
  refine xr_op rfl rfl (xv_assign rfl ?_)
  refine xr_end rfl ?_
  refine th_n ?_
  refine xc_seq (xc_region ?_)
  refine xr_op rfl rfl (xv_loadA ty25 rfl rfl (by ((repeat first|exact z_0|assumption|refine z_1 ?_|(refine z_l ?_;(repeat first|exact z_0|assumption|refine z_1 ?_);done)|refine z_r ?_);done)) (by ((try apply evl_some rfl);(repeat (first|exact (rfl : _ = [])|apply evl_cons rfl (by (first|exact v_1|exact v_2|exact v_3|exact v_4|exact v_5|exact v_6|exact v_7|exact v_8|exact v_9|exact rfl))|exact rfl)))) (by rfl) ?_)
  refine xr_op rfl rfl (xv_calls rfl hb38 (Layers_c (hy.sub (by intro z hz; ((repeat first|exact z_0|assumption|refine z_1 ?_|(refine z_l ?_;(repeat first|exact z_0|assumption|refine z_1 ?_);done)|refine z_r ?_);done))) hmv hl (up_ret ?_)))
  refine xr_op rfl rfl (xv_assign rfl ?_)
  refine xr_end rfl ?_
  refine th_n ?_
  refine xc_seq ?_
  refine xc_seq (xc_region ?_)
  refine xr_op rfl rfl (xv_assign rfl ?_)
  refine xr_end rfl ?_
  refine th_n ?_
  refine xc_block ?_
  refine xc_loop (σ := Nat × List Hd × Vec × Hp) (fun z => z.1 ≤ y.moves.length ∧ PInv y.coals.length y.moves L z.1 (z.2.1.map Hd.m) ∧ z.2.2.1.ok 1 z.2.1.length (z.2.1.flatMap eHd) ∧ ∀ w ∈ z.2.1, SlV z.2.2.2 1 eI w.a w.m) (fun z => ((((emp.put (some 1) (.pointer (some ⟨b1, 0, none⟩))).put (some 4) (z.2.2.1.val z.2.1.length)).put (some 5) (I (L : Int))).put (some 6) (I z.1))) (fun z => (z.2.2.1.hp 38 (z.2.1.flatMap eHd) ++ (z.2.2.2 ++ ((b1, .cells ⟨eYard y⟩ 25) :: h)))) (fun z => y.moves.length - z.1) ((0, [], .nil, []) : Nat × List Hd × Vec × Hp) ⟨Nat.zero_le _, pinv_0, ⟨rfl, rfl⟩, fun w hw => (List.not_mem_nil hw).elim⟩ (le_put (le_put (le_put (le_put (le_emp _) rfl) rfl) (by rw [hL]; rfl)) rfl) (by (first|((repeat first|exact s_0|exact s_1|exact s_3|refine s_4 ?_|refine s_5 ?_|refine s_6 ?_|refine s_7 ?_);done)|((repeat first|exact s_0|exact s_1|exact s_3|refine s_4 ?_|refine s_5 ?_|refine s_6 ?_|refine s_8 ?_);done))) ?_
  rintro ⟨k, hds, V, P⟩ ⟨hk, hP, hV, hS⟩
  dsimp only at hk hP hV hS
  obtain ⟨qa, qc, hqv, hqs⟩ := Vec.slv (enc := eHd) (t := 38) (h := V.hp 38 (hds.flatMap eHd)) eHd_len hV (fun _ hz => hz)
  rw [hqv]
  refine xc_seq ?_
  refine xc_seq (xc_region ?_)
  refine xr_op rfl rfl (xv_move rfl ?_)
  refine xr_op rfl rfl (xv_faddr fl25_1 rfl ?_)
  refine xr_op rfl rfl (xv_load1 ty23 rfl rfl (by ((repeat first|exact z_0|assumption|refine z_1 ?_|(refine z_l ?_;(repeat first|exact z_0|assumption|refine z_1 ?_);done)|refine z_r ?_);done)) (by rfl) ?_)
  refine xr_op rfl rfl (xv_len sl23 rfl ?_)
  refine xr_op rfl rfl (xv_lss2 rfl rfl (fun q1 => ?_) (fun q1 => ?_))
  · refine xr_end rfl ?_
    refine th_n ?_
    refine xc_true rfl ?_
    refine xc_skip ?_
    refine th_n ?_
    refine xc_seq ?_
    refine xc_block ?_
    refine xc_seq ?_
    refine xc_seq (xc_region ?_)
    refine xr_op rfl rfl (xv_faddr fl25_1 rfl ?_)
    refine xr_op rfl rfl (xv_load1 ty23 rfl rfl (by ((repeat first|exact z_0|assumption|refine z_1 ?_|(refine z_l ?_;(repeat first|exact z_0|assumption|refine z_1 ?_);done)|refine z_r ?_);done)) (by rfl) ?_)
    refine xr_op rfl rfl (xv_move rfl ?_)
    have hlto : k < y.moves.length := by (first|omega|(dsimp only at *;omega)|(simp at *;omega))
    obtain ⟨bo, oo, lo, to, fzo, hao, hmo, hxo⟩ := (hy.moves).at hlto
    obtain ⟨xo, hko⟩ : ∃ qq_, y.moves[k]? = some qq_ := ⟨_, List.getElem?_eq_getElem hlto⟩
    obtain ⟨_, ⟨mc1, mc2⟩, mt1, mt2⟩ := movesOk_at hmv hko
    refine xr_op rfl rfl (xv_ia (sz := 3) (j := k) sl23 ty63 rfl (by rw [hao]; rfl) rfl (by (first | assumption | with_reducible exact Int.toNat_natCast _ | with_reducible rfl | rfl)) (by (first|omega|(dsimp only at *;omega)|(simp at *;omega))) (by (first|omega|(dsimp only at *;omega)|(simp at *;omega))) ?_)
    refine xr_op rfl rfl (xv_faddr fl63_1 rfl ?_)
    refine xr_op rfl rfl (xv_load1 ty3 rfl rfl (by ((repeat first|exact z_0|assumption|refine z_1 ?_|(refine z_l ?_;(repeat first|exact z_0|assumption|refine z_1 ?_);done)|refine z_r ?_);done)) (take_get (hxo (k) xo hko) (j := 1) rfl) ?_)
    refine xr_op rfl rfl (xv_neq2 rfl rfl (fun q2 => ?_) (fun q2 => ?_))
    · refine xr_end rfl ?_
      refine th_n ?_
      refine xc_true rfl ?_
      refine xc_exit ?_
      refine th_x ?_
      refine bk_same ?_
      refine th_n ?_
      refine xc_region ?_
      refine xr_op rfl rfl (xv_move rfl ?_)
      refine xr_op rfl rfl (xv_add rfl rfl (wrap_i64 (by (first|omega|(dsimp only at *;omega)|(simp at *;omega))) (by (first|omega|(dsimp only at *;omega)|(simp at *;omega)))) ?_)
      refine xr_op rfl rfl (xv_assign rfl ?_)
      refine xr_end rfl ?_
      exact rnd ((k + 1, hds, V, P) : Nat × List Hd × Vec × Hp) ⟨by (first|omega|(dsimp only at *;omega)|(simp at *;omega)), hP.skip hmv hko (by (first|omega|(dsimp only at *;omega)|(simp at *;omega))), hV, hS⟩ (by (first|omega|(dsimp only at *;omega)|(simp at *;omega))) (le_put (le_put (le_put (le_put (le_emp _) rfl) (by dsimp only; rw [hqv]; rfl)) rfl) rfl) (by (first|((repeat first|exact s_0|exact s_1|exact s_3|refine s_4 ?_|refine s_5 ?_|refine s_6 ?_|refine s_7 ?_);done)|((repeat first|exact s_0|exact s_1|exact s_3|refine s_4 ?_|refine s_5 ?_|refine s_6 ?_|refine s_8 ?_);done)))
    · refine xr_end rfl ?_
      refine th_n ?_
      refine xc_false rfl ?_
      refine xc_skip ?_
      refine th_n ?_
      refine xc_seq (xc_region ?_)
      refine xr_op rfl rfl (xv_faddr fl25_1 rfl ?_)
      refine xr_op rfl rfl (xv_load1 ty23 rfl rfl (by ((repeat first|exact z_0|assumption|refine z_1 ?_|(refine z_l ?_;(repeat first|exact z_0|assumption|refine z_1 ?_);done)|refine z_r ?_);done)) (by rfl) ?_)
      refine xr_op rfl rfl (xv_move rfl ?_)
      refine xr_op rfl rfl (xv_ia (sz := 3) (j := k) sl23 ty63 rfl (by rw [hao]; rfl) rfl (by (first | assumption | with_reducible exact Int.toNat_natCast _ | with_reducible rfl | rfl)) (by (first|omega|(dsimp only at *;omega)|(simp at *;omega))) (by (first|omega|(dsimp only at *;omega)|(simp at *;omega))) ?_)
      refine xr_op rfl rfl (xv_faddr fl63_2 rfl ?_)
      refine xr_op rfl rfl (xv_load1 ty3 rfl rfl (by ((repeat first|exact z_0|assumption|refine z_1 ?_|(refine z_l ?_;(repeat first|exact z_0|assumption|refine z_1 ?_);done)|refine z_r ?_);done)) (take_get (hxo (k) xo hko) (j := 2) rfl) ?_)
      refine xr_op rfl rfl (xv_assign rfl ?_)
      refine xr_end rfl ?_
      refine th_n ?_
      refine xc_seq (xc_region ?_)
      refine xr_op rfl rfl (xv_move rfl ?_)
      refine xr_op rfl rfl (xv_make (l := ((vecR (roomR y.coals.length y.moves k (hds.map Hd.m)) 0 xo.tons).1 ++ List.replicate (L - 0) 0).flatMap eI) sl38 ty3 rfl rfl (by (first|omega|(dsimp only at *;omega)|(simp at *;omega))) (by simp only []; (first|omega|(dsimp only at *;omega)|(simp at *;omega))) (by simp only []; (first|omega|(dsimp only at *;omega)|(simp at *;omega))) (make_ints _) (fun b8 hb8 => ?_))
      refine xr_op rfl rfl (xv_assign rfl ?_)
      refine xr_end rfl ?_
      refine th_n ?_
      refine xc_seq ?_
      refine xc_seq (xc_region ?_)
      refine xr_op rfl rfl (xv_assign rfl ?_)
      refine xr_end rfl ?_
      refine th_n ?_
      refine xc_block ?_
      refine xc_loop (σ := Nat) (fun j => j ≤ L) (fun j => (((((((emp.put (some 1) (.pointer (some ⟨b1, 0, none⟩))).put (some 4) (.slice qa hds.length qc)).put (some 5) (I (L : Int))).put (some 6) (I k)).put (some 7) (I (vecR (roomR y.coals.length y.moves k (hds.map Hd.m)) j xo.tons).2)).put (some 8) (.slice (some ⟨b8, 0, none⟩) L L)).put (some 9) (I j))) (fun j => ((b8, .cells ⟨((vecR (roomR y.coals.length y.moves k (hds.map Hd.m)) j xo.tons).1 ++ List.replicate (L - j) 0).flatMap eI⟩ 3) :: (V.hp 38 (hds.flatMap eHd) ++ (P ++ ((b1, .cells ⟨eYard y⟩ 25) :: h))))) (fun j => L - j) 0 (Nat.zero_le _) (le_put (le_put (le_put (le_put (le_put (le_put (le_put (le_emp _) rfl) rfl) rfl) rfl) rfl) rfl) rfl) (by (first|((repeat first|exact s_0|exact s_1|exact s_3|refine s_4 ?_|refine s_5 ?_|refine s_6 ?_|refine s_7 ?_);done)|((repeat first|exact s_0|exact s_1|exact s_3|refine s_4 ?_|refine s_5 ?_|refine s_6 ?_|refine s_8 ?_);done))) ?_
      rintro j hj
      have hcb := contF_bd (j := (j : Int)) (movesOk_mono k hmv)
      have htb := taken_bd hP.bd j
      have hpf := hP.few
      obtain ⟨⟨va, vb⟩, vc, vd⟩ := vecR_bd (room := (roomR y.coals.length y.moves k (hds.map Hd.m))) (t := xo.tons) (by omega) j (fun i hi => hP.room i (by omega))
      have hvl := vecR_len (roomR y.coals.length y.moves k (hds.map Hd.m)) xo.tons j
      refine xc_seq ?_
      refine xc_seq (xc_region ?_)
      refine xr_op rfl rfl (xv_move rfl ?_)
      refine xr_op rfl rfl (xv_move rfl ?_)
      refine xr_op rfl rfl (xv_lss2 rfl rfl (fun q3 => ?_) (fun q3 => ?_))
      · refine xr_end rfl ?_
        refine th_n ?_
        refine xc_true rfl ?_
        refine xc_skip ?_
        refine th_n ?_
        refine xc_seq ?_
        refine xc_block ?_
        refine xc_seq (xc_region ?_)
        refine xr_op rfl rfl (xv_loadA ty25 rfl rfl (by ((repeat first|exact z_0|assumption|refine z_1 ?_|(refine z_l ?_;(repeat first|exact z_0|assumption|refine z_1 ?_);done)|refine z_r ?_);done)) (by ((try apply evl_some rfl);(repeat (first|exact (rfl : _ = [])|apply evl_cons rfl (by (first|exact v_1|exact v_2|exact v_3|exact v_4|exact v_5|exact v_6|exact v_7|exact v_8|exact v_9|exact rfl))|exact rfl)))) (by rfl) ?_)
        refine xr_op rfl rfl (xv_move rfl ?_)
        refine xr_op rfl rfl (xv_move rfl ?_)
        refine xr_op rfl rfl (xv_calls rfl hb20 (Contents_c (hy.sub (by intro z hz; ((repeat first|exact z_0|assumption|refine z_1 ?_|(refine z_l ?_;(repeat first|exact z_0|assumption|refine z_1 ?_);done)|refine z_r ?_);done))) (j := (j : Int)) (upto := k) hmv hcl hl hk (fun bc => up_ret ?_)))
        refine xr_op rfl rfl (xv_calls rfl hb39 (rsumN_c (xs := contF y.coals.length (y.moves.take k) (j : Int)) (contF_len _ _ _).symm (slvL eI_len (by ((repeat first|exact z_0|assumption|refine z_1 ?_|(refine z_l ?_;(repeat first|exact z_0|assumption|refine z_1 ?_);done)|refine z_r ?_);done))) (by rw [contF_len]; exact hcl) (fun x hx => by have := hcb x hx; rw [List.length_take] at this; omega) (up_ret ?_)))
        refine xr_op rfl rfl (xv_assign rfl ?_)
        refine xr_end rfl ?_
        refine th_n ?_
        refine xc_seq ?_
        refine xc_seq (xc_region ?_)
        have hsb := sumI_bd hcb
        rw [contF_len, List.length_take, Nat.min_eq_left hk] at hsb
        have hbig : (y.coals.length : Int) * (1048576 * (k : Int)) ≤ 1000 * (1048576 * 1000) := Int.mul_le_mul (by omega) (by omega) (by omega) (by omega)
        refine xr_op rfl rfl (xv_assign rfl ?_)
        refine xr_end rfl ?_
        refine th_n ?_
        refine xc_block ?_
        refine xc_loop (σ := Nat) (fun p => p ≤ hds.length) (fun p => (((((((((emp.put (some 1) (.pointer (some ⟨b1, 0, none⟩))).put (some 4) (.slice qa hds.length qc)).put (some 5) (I (L : Int))).put (some 6) (I k)).put (some 7) (I (vecR (roomR y.coals.length y.moves k (hds.map Hd.m)) j xo.tons).2)).put (some 8) (.slice (some ⟨b8, 0, none⟩) L L)).put (some 9) (I j)).put (some 10) (I (sumI (contF y.coals.length (y.moves.take k) (j : Int)) - (takenR ((hds.map Hd.m).take p) j)))).put (some 11) (I p))) (fun p => ((b8, .cells ⟨((vecR (roomR y.coals.length y.moves k (hds.map Hd.m)) j xo.tons).1 ++ List.replicate (L - j) 0).flatMap eI⟩ 3) :: (V.hp 38 (hds.flatMap eHd) ++ (P ++ ((b1, .cells ⟨eYard y⟩ 25) :: h))))) (fun p => hds.length - p) 0 (Nat.zero_le _) (le_put (le_put (le_put (le_put (le_put (le_put (le_put (le_put (le_put (le_emp _) rfl) rfl) rfl) rfl) rfl) rfl) rfl) (by show _ = some (I (_ - 0)); rw [Int.sub_zero]; rfl)) rfl) (by (first|((repeat first|exact s_0|exact s_1|exact s_3|refine s_4 ?_|refine s_5 ?_|refine s_6 ?_|refine s_7 ?_);done)|((repeat first|exact s_0|exact s_1|exact s_3|refine s_4 ?_|refine s_5 ?_|refine s_6 ?_|refine s_8 ?_);done))) ?_
        rintro p hp
        refine xc_seq ?_
        refine xc_seq (xc_region ?_)
        refine xr_op rfl rfl (xv_move rfl ?_)
        refine xr_op rfl rfl (xv_move rfl ?_)
        refine xr_op rfl rfl (xv_len sl53 rfl ?_)
        refine xr_op rfl rfl (xv_lss2 rfl rfl (fun q4 => ?_) (fun q4 => ?_))
        · refine xr_end rfl ?_
          refine th_n ?_
          refine xc_true rfl ?_
          refine xc_skip ?_
          refine th_n ?_
          refine xc_seq ?_
          refine xc_block ?_
          refine xc_region ?_
          refine xr_op rfl rfl (xv_move rfl ?_)
          have hltw : p < hds.length := by (first|omega|(dsimp only at *;omega)|(simp at *;omega))
          obtain ⟨bw, ow, lw, tw, fzw, haw, hmw, hxw⟩ := ((hqs.sub (by intro z hz; ((repeat first|exact z_0|assumption|refine z_1 ?_|(refine z_l ?_;(repeat first|exact z_0|assumption|refine z_1 ?_);done)|refine z_r ?_);done)) : SlV ((b8, .cells ⟨((vecR (roomR y.coals.length y.moves k (hds.map Hd.m)) j xo.tons).1 ++ List.replicate (L - j) 0).flatMap eI⟩ 3) :: (V.hp 38 (hds.flatMap eHd) ++ (P ++ ((b1, .cells ⟨eYard y⟩ 25) :: h)))) 1 eHd qa hds)).at hltw
          obtain ⟨xw, hkw⟩ : ∃ qq_, hds[p]? = some qq_ := ⟨_, List.getElem?_eq_getElem hltw⟩
          have hxw9 := List.mem_of_getElem? hkw
          have hpm : (hds.map Hd.m)[p]? = some xw.m := by rw [List.getElem?_map, hkw]; rfl
          have hwl := hP.len xw.m (List.mem_map.2 ⟨xw, hxw9, rfl⟩)
          have hlte : j < xw.m.length := by (first|omega|(dsimp only at *;omega)|(simp at *;omega))
          obtain ⟨be, oe, le, te, fze, hae, hme, hxe⟩ := (((hS xw hxw9).sub (by intro z hz; ((repeat first|exact z_0|assumption|refine z_1 ?_|(refine z_l ?_;(repeat first|exact z_0|assumption|refine z_1 ?_);done)|refine z_r ?_);done)) : SlV ((b8, .cells ⟨((vecR (roomR y.coals.length y.moves k (hds.map Hd.m)) j xo.tons).1 ++ List.replicate (L - j) 0).flatMap eI⟩ 3) :: (V.hp 38 (hds.flatMap eHd) ++ (P ++ ((b1, .cells ⟨eYard y⟩ 25) :: h)))) 1 eI xw.a xw.m)).at hlte
          obtain ⟨xe, hke⟩ : ∃ qq_, xw.m[j]? = some qq_ := ⟨_, List.getElem?_eq_getElem hlte⟩
          have heb := hP.bd xw.m (List.mem_map.2 ⟨xw, hxw9, rfl⟩) xe (List.mem_of_getElem? hke)
          have hgd : xw.m.getD j 0 = xe := by rw [List.getD_eq_getElem?_getD, hke]; rfl
          have htb2 := taken_bd (prev := (hds.map Hd.m).take p) (fun v hv => hP.bd v (List.mem_of_mem_take hv)) j
          rw [List.length_take, List.length_map] at htb2
          rw [List.length_map] at hpf
          refine xr_op rfl rfl (xv_move rfl ?_)
          refine xr_op rfl rfl (xv_move rfl ?_)
          refine xr_op rfl rfl (xv_ia (sz := 1) (j := p) sl53 ty38 rfl (by rw [haw]; rfl) rfl (by (first | assumption | with_reducible exact Int.toNat_natCast _ | with_reducible rfl | rfl)) (by (first|omega|(dsimp only at *;omega)|(simp at *;omega))) (by (first|omega|(dsimp only at *;omega)|(simp at *;omega))) ?_)
          refine xr_op rfl rfl (xv_load1 ty38 rfl rfl (by ((repeat first|exact z_0|assumption|refine z_1 ?_|(refine z_l ?_;(repeat first|exact z_0|assumption|refine z_1 ?_);done)|refine z_r ?_);done)) (take_get (hxw (p) xw hkw) (j := 0) rfl) ?_)
          refine xr_op rfl rfl (xv_move rfl ?_)
          refine xr_op rfl rfl (xv_ia (sz := 1) (j := j) sl38 ty3 rfl (by rw [hae]; rfl) rfl (by (first | assumption | with_reducible exact Int.toNat_natCast _ | with_reducible rfl | rfl)) (by (first|omega|(dsimp only at *;omega)|(simp at *;omega))) (by (first|omega|(dsimp only at *;omega)|(simp at *;omega))) ?_)
          refine xr_op rfl rfl (xv_load1 ty3 rfl rfl (by ((repeat first|exact z_0|assumption|refine z_1 ?_|(refine z_l ?_;(repeat first|exact z_0|assumption|refine z_1 ?_);done)|refine z_r ?_);done)) (take_get (hxe (j) xe hke) (j := 0) rfl) ?_)
          refine xr_op rfl rfl (xv_sub rfl rfl (wrap_i64 (by (first|omega|(dsimp only at *;omega)|(simp at *;omega))) (by (first|omega|(dsimp only at *;omega)|(simp at *;omega)))) ?_)
          refine xr_op rfl rfl (xv_assign rfl ?_)
          refine xr_end rfl ?_
          refine bk_n ?_
          refine th_n ?_
          refine xc_region ?_
          refine xr_op rfl rfl (xv_move rfl ?_)
          refine xr_op rfl rfl (xv_add rfl rfl (wrap_i64 (by (first|omega|(dsimp only at *;omega)|(simp at *;omega))) (by (first|omega|(dsimp only at *;omega)|(simp at *;omega)))) ?_)
          refine xr_op rfl rfl (xv_assign rfl ?_)
          refine xr_end rfl ?_
          exact rnd (p + 1) (by (first|omega|(dsimp only at *;omega)|(simp at *;omega))) (by (first|omega|(dsimp only at *;omega)|(simp at *;omega))) (le_put (le_put (le_put (le_put (le_put (le_put (le_put (le_put (le_put (le_emp _) rfl) rfl) rfl) rfl) rfl) rfl) rfl) (by rw [taken_take hpm, hgd, ← Int.sub_sub]; rfl)) rfl) (by (first|((repeat first|exact s_0|exact s_1|exact s_3|refine s_4 ?_|refine s_5 ?_|refine s_6 ?_|refine s_7 ?_);done)|((repeat first|exact s_0|exact s_1|exact s_3|refine s_4 ?_|refine s_5 ?_|refine s_6 ?_|refine s_8 ?_);done)))
        · refine xr_end rfl ?_
          refine th_n ?_
          refine xc_false rfl ?_
          refine xc_exit ?_
          refine th_x ?_
          refine th_x ?_
          refine bk_same ?_
          refine th_n ?_
          refine xc_seq (xc_region ?_)
          have hrj := hP.room j (by (first|omega|(dsimp only at *;omega)|(simp at *;omega)))
          obtain rfl : hds.length = p := by (first|omega|(dsimp only at *;omega)|(simp at *;omega))
          rw [show (hds.map Hd.m).take hds.length = hds.map Hd.m from by rw [← List.length_map (f := Hd.m), List.take_length]]
          rw [show sumI (contF y.coals.length (y.moves.take k) (j : Int)) - takenR (hds.map Hd.m) j = (roomR y.coals.length y.moves k (hds.map Hd.m)) j from rfl]
          obtain ⟨rj, hrje⟩ : ∃ r, (roomR y.coals.length y.moves k (hds.map Hd.m)) j = r := ⟨_, rfl⟩
          rw [hrje] at hrj ⊢
          refine xr_op rfl rfl (xv_move rfl ?_)
          refine xr_op rfl rfl (xv_move rfl ?_)
          refine xr_op rfl rfl (xv_move rfl ?_)
          refine xr_op rfl rfl (xv_move rfl ?_)
          refine xr_op rfl rfl (xv_min rfl rfl rfl ?_)
          refine xr_op rfl rfl (xv_ia (sz := 1) (j := j) sl38 ty3 rfl rfl rfl (by (first | assumption | with_reducible exact Int.toNat_natCast _ | with_reducible rfl | rfl)) (by (first|omega|(dsimp only at *;omega)|(simp at *;omega))) (by (first|omega|(dsimp only at *;omega)|(simp at *;omega))) ?_)
          refine xr_op rfl rfl (xv_s1 (l := ((vecR (roomR y.coals.length y.moves k (hds.map Hd.m)) j xo.tons).1 ++ List.replicate (L - j) 0).flatMap eI) (l' := ((vecR (roomR y.coals.length y.moves k (hds.map Hd.m)) j xo.tons).1 ++ [min rj (vecR (roomR y.coals.length y.moves k (hds.map Hd.m)) j xo.tons).2] ++ List.replicate (L - (j + 1)) 0).flatMap eI) ty3 rfl rfl rfl (by (first|(apply u_3;(repeat first|exact u_0|assumption|apply u_1|apply u_2);done)|((repeat first|exact u_0|assumption|apply u_1|apply u_2);done)|(apply u_3;apply u_3;(repeat first|exact u_0|assumption|apply u_1|apply u_2);done)|((repeat first|exact u_0|assumption|apply u_3|apply u_1);done))) rfl (by rw [ints_len, List.length_append, List.length_replicate]; (first|omega|(dsimp only at *;omega)|(simp at *;omega))) ((ints_setN (by rw [List.length_append, List.length_replicate]; (first|omega|(dsimp only at *;omega)|(simp at *;omega)))).trans (by rw [vset hvl (by (first|omega|(dsimp only at *;omega)|(simp at *;omega)))])) ?_)
          refine xr_end rfl ?_
          refine th_n ?_
          refine xc_region ?_
          have hvn : ((vecR (roomR y.coals.length y.moves k (hds.map Hd.m)) (j + 1) xo.tons).1 ++ List.replicate (L - (j + 1)) 0) = (vecR (roomR y.coals.length y.moves k (hds.map Hd.m)) j xo.tons).1 ++ [min rj (vecR (roomR y.coals.length y.moves k (hds.map Hd.m)) j xo.tons).2] ++ List.replicate (L - (j + 1)) 0 := by rw [vecR, hrje]
          have hvs : (vecR (roomR y.coals.length y.moves k (hds.map Hd.m)) (j + 1) xo.tons).2 = (vecR (roomR y.coals.length y.moves k (hds.map Hd.m)) j xo.tons).2 - min rj (vecR (roomR y.coals.length y.moves k (hds.map Hd.m)) j xo.tons).2 := by rw [vecR, hrje]
          refine xr_op rfl rfl (xv_move rfl ?_)
          refine xr_op rfl rfl (xv_move rfl ?_)
          refine xr_op rfl rfl (xv_move rfl ?_)
          refine xr_op rfl rfl (xv_ia (sz := 1) (j := j) sl38 ty3 rfl rfl rfl (by (first | assumption | with_reducible exact Int.toNat_natCast _ | with_reducible rfl | rfl)) (by (first|omega|(dsimp only at *;omega)|(simp at *;omega))) (by (first|omega|(dsimp only at *;omega)|(simp at *;omega))) ?_)
          refine xr_op rfl rfl (xv_load1 ty3 rfl rfl (by ((repeat first|exact z_0|assumption|refine z_1 ?_|(refine z_l ?_;(repeat first|exact z_0|assumption|refine z_1 ?_);done)|refine z_r ?_);done)) (ints_get (vget hvl)) ?_)
          refine xr_op rfl rfl (xv_sub rfl rfl (wrap_i64 (by (first|omega|(dsimp only at *;omega)|(simp at *;omega))) (by (first|omega|(dsimp only at *;omega)|(simp at *;omega)))) ?_)
          refine xr_op rfl rfl (xv_assign rfl ?_)
          refine xr_end rfl ?_
          refine bk_n ?_
          refine th_n ?_
          refine xc_region ?_
          refine xr_op rfl rfl (xv_move rfl ?_)
          refine xr_op rfl rfl (xv_add rfl rfl (wrap_i64 (by (first|omega|(dsimp only at *;omega)|(simp at *;omega))) (by (first|omega|(dsimp only at *;omega)|(simp at *;omega)))) ?_)
          refine xr_op rfl rfl (xv_assign rfl ?_)
          refine xr_end rfl ?_
          exact rnd (j + 1) (by (first|omega|(dsimp only at *;omega)|(simp at *;omega))) (by (first|omega|(dsimp only at *;omega)|(simp at *;omega))) (le_put (le_put (le_put (le_put (le_put (le_put (le_put (le_emp _) rfl) rfl) rfl) rfl) (by rw [hvs]; rfl)) rfl) rfl) (by rw [hvn]; (first|((repeat first|exact s_0|exact s_1|exact s_3|refine s_4 ?_|refine s_5 ?_|refine s_6 ?_|refine s_7 ?_);done)|((repeat first|exact s_0|exact s_1|exact s_3|refine s_4 ?_|refine s_5 ?_|refine s_6 ?_|refine s_8 ?_);done)))
      · refine xr_end rfl ?_
        refine th_n ?_
        refine xc_false rfl ?_
        refine xc_exit ?_
        refine th_x ?_
        refine th_x ?_
        refine bk_same ?_
        refine th_n ?_
        refine xc_seq ?_
        refine xc_seq (xc_region ?_)
        obtain rfl : L = j := by (first|omega|(dsimp only at *;omega)|(simp at *;omega))
        rw [Nat.sub_self, List.replicate_zero, List.append_nil]
        refine xr_op rfl rfl (xv_move rfl ?_)
        refine xr_op rfl rfl (xv_gtr2 rfl rfl (fun q5 => ?_) (fun q5 => ?_))
        · refine xr_end rfl ?_
          refine th_n ?_
          refine xc_true rfl ?_
          refine xc_seq (xc_region ?_)
          refine xr_op rfl rfl (xv_assign rfl ?_)
          refine xr_op rfl rfl (xv_assign rfl ?_)
          refine xr_end rfl ?_
          refine th_n ?_
          refine xc_ret ?_
          refine th_r ?_
          refine bk_r ?_
          refine th_r ?_
          refine th_r ?_
          refine bk_r ?_
          refine th_r ?_
          refine body_ret (h' := h) rfl (ro_tmp rfl (ro_tmp rfl ro_nil)) (by (first|((repeat first|exact s_0|exact s_1|exact s_3|refine s_4 ?_|refine s_5 ?_|refine s_6 ?_|refine s_7 ?_);done)|((repeat first|exact s_0|exact s_1|exact s_3|refine s_4 ?_|refine s_5 ?_|refine s_6 ?_|refine s_8 ?_);done))) ?_
          first | (rw [← hqv]; exact H2 hds V P hP hV hS) | exact H1 (parts_end (parts_bad hP.is hko (by (first|omega|(dsimp only at *;omega)|(simp at *;omega))) (by (first|omega|(dsimp only at *;omega)|(simp at *;omega)))) (by (first|omega|(dsimp only at *;omega)|(simp at *;omega))))
        · refine xr_end rfl ?_
          refine th_n ?_
          refine xc_false rfl ?_
          refine xc_skip ?_
          refine th_n ?_
          refine xc_region ?_
          have e21 : (hds ++ [(⟨some ⟨b8, 0, none⟩, (vecR (roomR y.coals.length y.moves k (hds.map Hd.m)) L xo.tons).1, L⟩ : Hd)]).flatMap eHd = hds.flatMap eHd ++ [.slice (some ⟨b8, 0, none⟩) L L] := by rw [hd_flat, vecR_len]
          refine xr_op rfl rfl (xv_move rfl ?_)
          refine xr_op rfl rfl (xv_move rfl ?_)
          refine xr_op rfl rfl ((al_buildSlice sl53 ty38 rfl rfl rfl rfl rfl (by ((try apply evl_some rfl);(repeat (first|exact (rfl : _ = [])|apply evl_cons rfl (by (first|exact v_1|exact v_2|exact v_3|exact v_4|exact v_5|exact v_6|exact v_7|exact v_8|exact v_9|exact rfl))|exact rfl))))).xv (fun b77 hb77 => ?_))
          refine xr_op rfl rfl (xv_append (V := V) (n := hds.length) (xs := hds.flatMap eHd) sl53 ty38 rfl (by rw [hqv]; rfl) rfl hV (.there (.there .here)) (by ((repeat first|exact z_0|assumption|refine z_1 ?_|(refine z_l ?_;(repeat first|exact z_0|assumption|refine z_1 ?_);done)|refine z_r ?_);done)) (by ((try apply evl_some rfl);(repeat (first|exact (rfl : _ = [])|apply evl_cons rfl (by (first|exact v_1|exact v_2|exact v_3|exact v_4|exact v_5|exact v_6|exact v_7|exact v_8|exact v_9|exact rfl))|exact rfl)))) rfl rfl (by (first|omega|(dsimp only at *;omega)|(simp at *;omega))) (by simp only []; (first|omega|(dsimp only at *;omega)|(simp at *;omega))) (by (first|omega|(dsimp only at *;omega)|(simp at *;omega))) (fun V2 hV2 => ?_))
          refine xr_op rfl rfl (xv_assign rfl ?_)
          refine xr_end rfl ?_
          refine bk_n ?_
          refine th_n ?_
          refine xc_region ?_
          refine xr_op rfl rfl (xv_move rfl ?_)
          refine xr_op rfl rfl (xv_add rfl rfl (wrap_i64 (by (first|omega|(dsimp only at *;omega)|(simp at *;omega))) (by (first|omega|(dsimp only at *;omega)|(simp at *;omega)))) ?_)
          refine xr_op rfl rfl (xv_assign rfl ?_)
          refine xr_end rfl ?_
          exact rnd ((k + 1, hds ++ [⟨some ⟨b8, 0, none⟩, (vecR (roomR y.coals.length y.moves k (hds.map Hd.m)) L xo.tons).1, L⟩], V2, (b8, .cells ⟨(vecR (roomR y.coals.length y.moves k (hds.map Hd.m)) L xo.tons).1.flatMap eI⟩ 3) :: P) : Nat × List Hd × Vec × Hp) ⟨by (first|omega|(dsimp only at *;omega)|(simp at *;omega)), by dsimp only; rw [List.map_append]; exact hP.more hmv hko (by (first|omega|(dsimp only at *;omega)|(simp at *;omega))) (by (first|omega|(dsimp only at *;omega)|(simp at *;omega))), by dsimp only; rw [List.length_append, e21]; exact hV2, fun w hw => by
            rcases List.mem_append.1 hw with hw | hw
            · exact (hS w hw).sub (fun z hz => List.mem_cons_of_mem _ hz)
            · rw [List.mem_singleton.1 hw]; exact slvL eI_len List.mem_cons_self⟩ (by (first|omega|(dsimp only at *;omega)|(simp at *;omega))) (le_put (le_put (le_put (le_put (le_emp _) rfl) (by dsimp only; rw [List.length_append]; rfl)) rfl) rfl) (by dsimp only; rw [e21]; (first|((repeat first|exact s_0|exact s_1|exact s_3|refine s_4 ?_|refine s_5 ?_|refine s_6 ?_|refine s_7 ?_);done)|((repeat first|exact s_0|exact s_1|exact s_3|refine s_4 ?_|refine s_5 ?_|refine s_6 ?_|refine s_8 ?_);done)))
  · refine xr_end rfl ?_
    refine th_n ?_
    refine xc_false rfl ?_
    refine xc_exit ?_
    refine th_x ?_
    refine th_x ?_
    refine bk_same ?_
    refine th_n ?_
    refine xc_seq (xc_region ?_)
    obtain rfl : y.moves.length = k := by (first|omega|(dsimp only at *;omega)|(simp at *;omega))
    refine xr_op rfl rfl (xv_move rfl ?_)
    refine xr_op rfl rfl (xv_assign rfl ?_)
    refine xr_op rfl rfl (xv_assign rfl ?_)
    refine xr_end rfl ?_
    refine th_n ?_
    refine xc_ret ?_
    refine body_ret (h' := (V.hp 38 (hds.flatMap eHd) ++ (P ++ h))) rfl (ro_tmp rfl (ro_tmp rfl ro_nil)) (by (first|((repeat first|exact s_0|exact s_1|exact s_3|refine s_4 ?_|refine s_5 ?_|refine s_6 ?_|refine s_7 ?_);done)|((repeat first|exact s_0|exact s_1|exact s_3|refine s_4 ?_|refine s_5 ?_|refine s_6 ?_|refine s_8 ?_);done))) ?_
    first | (rw [← hqv]; exact H2 hds V P hP hV hS) | exact H1 (parts_end (parts_bad hP.is hko (by (first|omega|(dsimp only at *;omega)|(simp at *;omega))) (by (first|omega|(dsimp only at *;omega)|(simp at *;omega)))) (by (first|omega|(dsimp only at *;omega)|(simp at *;omega))))

end Go.Proofs.Ytpefpafijadfmaa

/-
  Walks.
-/
namespace Go.Proofs.Ytpefpafijadfmaa
open Go Go.H
set_option maxRecDepth 100000
set_option maxHeartbeats 8000000
set_option linter.all false
end Go.Proofs.Ytpefpafijadfmaa

/-
  Walks.
-/
namespace Go.Proofs.Ytpefpafijadfmaa
open Go Go.H
set_option maxRecDepth 100000
set_option maxHeartbeats 8000000
set_option linter.all false
end Go.Proofs.Ytpefpafijadfmaa
