/-
  Walks.
-/
import Derived.Test.YtjmailhoidenaaaW4
import Derived.Test.YtjmailhoidenaaaH15
namespace Go.Proofs.Ytjmailhoidenaaa
open Go Go.H
set_option maxRecDepth 100000
set_option maxHeartbeats 2000000
set_option linter.all false
theorem playdef_ret {ps pe : Nat} {h : Hp} {R : Ending → FrameMode → Hp → Prop} (H : R (.returned (.tuple #[])) .returning h) :
    DCalls Try.prog 35 ⟨[.pointer (some ⟨ps, 0, none⟩), .pointer (some ⟨pe, 0, none⟩)]⟩ .returning h R := by
  refine dcalls_rec (N := 18) Try.func35 (by rfl) rfl (by rfl) rfl rfl ?_
  refine xc_seq (xc_region ?_)
  refine xr_op rfl rfl (xv_move rfl ?_)
  refine xr_op rfl rfl (xv_neNil0 ⟨_, Try.underlying20⟩ rfl ?_)
  refine xr_end rfl ?_
  refine th_n ?_
  refine xc_false rfl ?_
  refine xc_skip ?_
  refine ⟨rfl, _, (by (first|((repeat first|exact s_0|exact s_1|exact s_3|refine s_4 ?_|refine s_5 ?_|refine s_6 ?_|refine s_7 ?_);done)|((repeat first|exact s_0|exact s_1|exact s_3|refine s_4 ?_|refine s_5 ?_|refine s_6 ?_|refine s_8 ?_);done))), ?_⟩
  exact H

theorem playdef_pan {ps pe : Nat} {e : Int} {h h1 h2 : Hp} {u v : Value} {R : Ending → FrameMode → Hp → Prop}
    (hs : Upd h ps (.cells ⟨[u]⟩ 57 (0, 0)) (.cells ⟨[.pointer none]⟩ 57 (0, 0)) h1) (he : Upd h1 pe (.cells ⟨[v]⟩ 31 (0, 0)) (.cells ⟨[I e]⟩ 31 (0, 0)) h2)
    (H : R (.returned (.tuple #[])) (.panicking [{ v := .iface 78 (.agg #[.int .i64 e]), recovered := true }]) h2) :
    DCalls Try.prog 35 ⟨[.pointer (some ⟨ps, 0, none⟩), .pointer (some ⟨pe, 0, none⟩)]⟩ (.panicking (mis e)) h R := by
  refine dcalls_rec (N := 18) Try.func35 (by rfl) rfl (by rfl) rfl rfl ?_
  refine xc_seq (xc_region ?_)
  refine xr_op rfl rfl (xv_move rfl ?_)
  refine xr_op rfl rfl (xv_neNil ⟨_, Try.underlying20⟩ rfl rfl ?_)
  refine xr_end rfl ?_
  refine th_n ?_
  refine xc_true rfl ?_
  refine xc_seq (xc_region ?_)
  refine xr_op rfl rfl (xv_move rfl ?_)
  refine xr_op rfl rfl (xv_assertOk ty78 rfl rfl ?_)
  refine xr_op rfl rfl (xv_move rfl ?_)
  refine xr_op rfl rfl (xv_extract rfl rfl ?_)
  refine xr_op rfl rfl (xv_extract rfl rfl ?_)
  refine xr_op rfl rfl (xv_alloc ty78 (fun b1 hb1 => ?_))
  refine xr_op rfl rfl (xv_s ty78 rfl rfl (by (first|(apply u_3;(repeat first|exact u_0|assumption|apply u_1|apply u_2);done)|((repeat first|exact u_0|assumption|apply u_1|apply u_2);done)|(apply u_3;apply u_3;(repeat first|exact u_0|assumption|apply u_1|apply u_2);done)|((repeat first|exact u_0|assumption|apply u_3|apply u_1);done))) (by ((try apply evl_some rfl);(repeat (first|exact (rfl : _ = [])|apply evl_cons rfl (by (first|exact v_1|exact v_2|exact v_3|exact v_4|exact v_5|exact v_6|exact v_7|exact v_8|exact v_9|exact rfl))|exact rfl)))) (by rfl) (by rfl) (by rfl) (by ((try apply evl_some rfl);(repeat (first|exact (rfl : _ = [])|apply evl_cons rfl (by (first|exact v_1|exact v_2|exact v_3|exact v_4|exact v_5|exact v_6|exact v_7|exact v_8|exact v_9|exact rfl))|exact rfl)))) ?_)
  refine xr_op rfl rfl (xv_assign rfl ?_)
  refine xr_end rfl ?_
  refine th_n ?_
  refine xc_seq ?_
  refine xc_seq (xc_region ?_)
  refine xr_op rfl rfl (xv_move rfl ?_)
  refine xr_op rfl rfl (xv_not rfl ?_)
  refine xr_end rfl ?_
  refine th_n ?_
  refine xc_false rfl ?_
  refine xc_skip ?_
  refine th_n ?_
  refine xc_draw [(0, .S), (1, .S), (2, .O), (3, .O)] [(b1, .cells ⟨[I e]⟩ 78)] h mixed (by kernel_rfl) (List.perm_append_singleton _ _) ?_
  refine js_S rfl rfl (.inl rfl) (xv_faddr fl78_0 rfl ⟨rfl, rfl⟩) ?_
  refine js_S rfl rfl (.inl rfl) (xv_load1 ty31 rfl rfl (by (first|((repeat first|exact z_0|assumption|refine z_1 ?_|refine z_r ?_);done)|((repeat refine z_1 ?_);refine z_l ?_;(repeat first|exact z_0|assumption|refine z_1 ?_|refine z_r ?_);done)|((repeat refine z_1 ?_);refine z_r ?_;(repeat refine z_1 ?_);refine z_l ?_;(repeat first|exact z_0|assumption|refine z_1 ?_|refine z_r ?_);done)|((repeat first|exact z_0|assumption|refine z_1 ?_|refine z_l ?_);done))) (by rfl) ⟨rfl, rfl⟩) ?_
  refine js_O rfl rfl (.inl rfl) (xv_s1 ty57 rfl rfl rfl (by (first|(apply u_3;(repeat first|exact u_0|assumption|apply u_1|apply u_2);done)|((repeat first|exact u_0|assumption|apply u_1|apply u_2);done)|(apply u_3;apply u_3;(repeat first|exact u_0|assumption|apply u_1|apply u_2);done)|((repeat first|exact u_0|assumption|apply u_3|apply u_1);done))) (by (first | rfl | exact Vec.one _ _)) (by (first | decide | exact Nat.le_of_ble_eq_true rfl | (simp only [List.length_cons, List.length_nil]; omega) | (simp; done))) (by ((try apply evl_some rfl);(repeat (first|exact (rfl : _ = [])|apply evl_cons rfl (by (first|exact v_1|exact v_2|exact v_3|exact v_4|exact v_5|exact v_6|exact v_7|exact v_8|exact v_9|exact rfl))|exact rfl)))) ?_)
  refine jo_same ?_
  refine js_O rfl rfl (.inl rfl) (xv_s1 ty31 rfl rfl rfl (by (first|(apply u_3;(repeat first|exact u_0|assumption|apply u_1|apply u_2);done)|((repeat first|exact u_0|assumption|apply u_1|apply u_2);done)|(apply u_3;apply u_3;(repeat first|exact u_0|assumption|apply u_1|apply u_2);done)|((repeat first|exact u_0|assumption|apply u_3|apply u_1);done))) (by (first | rfl | exact Vec.one _ _)) (by (first | decide | exact Nat.le_of_ble_eq_true rfl | (simp only [List.length_cons, List.length_nil]; omega) | (simp; done))) (by ((try apply evl_some rfl);(repeat (first|exact (rfl : _ = [])|apply evl_cons rfl (by (first|exact v_1|exact v_2|exact v_3|exact v_4|exact v_5|exact v_6|exact v_7|exact v_8|exact v_9|exact rfl))|exact rfl)))) ?_)
  refine jo_same ?_
  refine j_endp (List.perm_append_singleton _ _) ?_
  refine ⟨rfl, h2, (by (first|((repeat first|exact s_0|exact s_1|exact s_3|refine s_4 ?_|refine s_5 ?_|refine s_6 ?_|refine s_7 ?_);done)|((repeat first|exact s_0|exact s_1|exact s_3|refine s_4 ?_|refine s_5 ?_|refine s_6 ?_|refine s_8 ?_);done))), ?_⟩
  exact H

end Go.Proofs.Ytjmailhoidenaaa
