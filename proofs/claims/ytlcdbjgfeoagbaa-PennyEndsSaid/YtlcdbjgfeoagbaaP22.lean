/-
  Walks.
-/
import Derived.Test.YtlcdbjgfeoagbaaV11
import Derived.KernelRfl
import Derived.Test.YtlcdbjgfeoagbaaW10
import Derived.Test.YtlcdbjgfeoagbaaW7
namespace Go.Proofs.Ytlcdbjgfeoagbaa
open Go Go.H
set_option maxRecDepth 100000
set_option maxHeartbeats 8000000
set_option linter.all false
theorem PPlay_c {s : Slot} {h : Hp} {R : Ending → Hp → Prop} (hs : SlotV h s) (hsm : Small s) {ha : Option Addr} {hc : Nat} {hours : List Int} (hh : SlV h 1 eI ha hours) (hhl : hours.length ≤ 1000) (H : R (.returned (.tuple ⟨[I (playA s hours).1, .agg ⟨eSpan (playA s hours).2.1⟩, I (playA s hours).2.2.1, I (playA s hours).2.2.2]⟩)) h) : ACalls Try.prog 13 ⟨[.agg ⟨eSlot s⟩, .slice ha hours.length hc]⟩ h R := by
  refine calls_of_xc (N := 94) Try.func13 rfl (by rfl) ?_
  obtain ⟨hsl9, hsk⟩ := id hsm
  refine xc_seq (xc_region ?_)
  refine xr_op rfl rfl (xv_box rfl (fun b2 hb2 => ?_))
  refine xr_op rfl rfl (xv_assign rfl ?_)
  refine xr_op rfl rfl (xv_alloc ty30 (fun b5 hb5 => ?_))
  refine xr_op rfl rfl (xv_assign rfl ?_)
  refine xr_op rfl rfl (xv_assign rfl ?_)
  refine xr_end rfl ?_
  refine th_n ?_
  refine xc_seq (xc_region ?_)
  refine xr_op rfl rfl (xv_loadA ty25 rfl rfl (by ((repeat first|exact z_0|assumption|refine z_1 ?_|(refine z_l ?_;(repeat first|exact z_0|assumption|refine z_1 ?_);done)|refine z_r ?_);done)) (by ((try apply evl_some rfl);(repeat (first|exact (rfl : _ = [])|apply evl_cons rfl (by (first|exact v_1|exact v_2|exact v_3|exact v_4|exact v_5|exact v_6|exact v_7|exact v_8|exact v_9|exact rfl))|exact rfl)))) (by rfl) ?_)
  refine xr_op rfl rfl (xv_calls rfl hb30 (newMeter_c (hs.sub (by intro z hz; ((repeat first|exact z_0|assumption|refine z_1 ?_|(refine z_l ?_;(repeat first|exact z_0|assumption|refine z_1 ?_);done)|refine z_r ?_);done))) hsm (fun hes => up_ret ?_) (fun hes0 bm ma mc G hmet => up_ret ?_)))
  · refine xr_op rfl rfl (xv_move rfl ?_)
    refine xr_op rfl rfl (xv_extract rfl rfl ?_)
    refine xr_op rfl rfl (xv_extract rfl rfl ?_)
    refine xr_op rfl rfl (xv_alloc ty60 (fun b8 hb8 => ?_))
    refine xr_op rfl rfl (xv_s1 ty60 rfl rfl rfl (by (first|(apply u_3;(repeat first|exact u_0|assumption|apply u_1|apply u_2);done)|((repeat first|exact u_0|assumption|apply u_1|apply u_2);done)|(apply u_3;apply u_3;(repeat first|exact u_0|assumption|apply u_1|apply u_2);done)|((repeat first|exact u_0|assumption|apply u_3|apply u_1);done))) (by (first | rfl | exact Vec.one _ _)) (by (first | decide | exact Nat.le_of_ble_eq_true rfl | (simp only [List.length_cons, List.length_nil]; omega) | (simp; done))) (by ((try apply evl_some rfl);(repeat (first|exact (rfl : _ = [])|apply evl_cons rfl (by (first|exact v_1|exact v_2|exact v_3|exact v_4|exact v_5|exact v_6|exact v_7|exact v_8|exact v_9|exact rfl))|exact rfl)))) ?_)
    refine xr_op rfl rfl (xv_assign rfl ?_)
    refine xr_end rfl ?_
    refine th_n ?_
    refine xc_seq ?_
    refine xc_block ?_
    refine xc_seq (xc_region ?_)
    refine xr_op rfl rfl (xv_move rfl ?_)
    refine xr_op rfl rfl (xv_neqT rfl rfl hes ?_)
    refine xr_op rfl rfl (xv_assign rfl ?_)
    refine xr_end rfl ?_
    refine th_n ?_
    refine xc_true rfl ?_
    refine xc_seq ?_
    refine xc_draw0 [(0, .R), (1, .S), (2, .S), (3, .O), (4, .S), (5, .S)] mixed (by kernel_rfl) ?_
    have hpl := playA_e (hours := hours) hes
    have hed9 := hes
    refine js_R0 rfl rfl (.inl rfl) (xv_loadA ty30 rfl rfl (by ((repeat first|exact z_0|assumption|refine z_1 ?_|(refine z_l ?_;(repeat first|exact z_0|assumption|refine z_1 ?_);done)|refine z_r ?_);done)) (by ((try apply evl_some rfl);(repeat (first|exact (rfl : _ = [])|apply evl_cons rfl (by (first|exact v_1|exact v_2|exact v_3|exact v_4|exact v_5|exact v_6|exact v_7|exact v_8|exact v_9|exact rfl))|exact rfl)))) (by rfl) ⟨rfl, rfl⟩) ?_
    refine js_S rfl rfl (.inl rfl) (xv_move rfl ⟨rfl, rfl⟩) ?_
    refine js_S rfl rfl (.inl rfl) (xv_assign rfl ⟨rfl, rfl⟩) ?_
    refine js_O0 rfl rfl (.inl rfl) (xv_s ty30 rfl rfl (by (first|(apply u_3;(repeat first|exact u_0|assumption|apply u_1|apply u_2);done)|((repeat first|exact u_0|assumption|apply u_1|apply u_2);done)|(apply u_3;apply u_3;(repeat first|exact u_0|assumption|apply u_1|apply u_2);done)|((repeat first|exact u_0|assumption|apply u_3|apply u_1);done))) (by ((try apply evl_some rfl);(repeat (first|exact (rfl : _ = [])|apply evl_cons rfl (by (first|exact v_1|exact v_2|exact v_3|exact v_4|exact v_5|exact v_6|exact v_7|exact v_8|exact v_9|exact rfl))|exact rfl)))) (by rfl) (by rfl) (by rfl) (by ((try apply evl_some rfl);(repeat (first|exact (rfl : _ = [])|apply evl_cons rfl (by (first|exact v_1|exact v_2|exact v_3|exact v_4|exact v_5|exact v_6|exact v_7|exact v_8|exact v_9|exact rfl))|exact rfl)))) ?_)
    refine js_S rfl rfl (.inl rfl) (xv_assign rfl ⟨rfl, rfl⟩) ?_
    refine js_S rfl rfl (.inl rfl) (xv_assign rfl ⟨rfl, rfl⟩) ?_
    refine j_end0 ?_
    refine th_n ?_
    refine xc_ret ?_
    refine bk_r ?_
    refine th_r ?_
    refine body_ret (h' := h) rfl (ro_tmp rfl (ro_cellA ty30 rfl rfl (by ((repeat first|exact z_0|assumption|refine z_1 ?_|(refine z_l ?_;(repeat first|exact z_0|assumption|refine z_1 ?_);done)|refine z_r ?_);done)) (by rfl) (by rfl) (ro_tmp rfl (ro_tmp rfl ro_nil)))) (by (first|((repeat first|exact s_0|exact s_1|exact s_3|refine s_4 ?_|refine s_5 ?_|refine s_6 ?_|refine s_7 ?_);done)|((repeat first|exact s_0|exact s_1|exact s_3|refine s_4 ?_|refine s_5 ?_|refine s_6 ?_|refine s_8 ?_);done))) ?_
    (rw [hpl] at H; exact H)
  · refine xr_op rfl rfl (xv_move rfl ?_)
    refine xr_op rfl rfl (xv_extract rfl rfl ?_)
    refine xr_op rfl rfl (xv_extract rfl rfl ?_)
    refine xr_op rfl rfl (xv_alloc ty60 (fun b8 hb8 => ?_))
    refine xr_op rfl rfl (xv_s1 ty60 rfl rfl rfl (by (first|(apply u_3;(repeat first|exact u_0|assumption|apply u_1|apply u_2);done)|((repeat first|exact u_0|assumption|apply u_1|apply u_2);done)|(apply u_3;apply u_3;(repeat first|exact u_0|assumption|apply u_1|apply u_2);done)|((repeat first|exact u_0|assumption|apply u_3|apply u_1);done))) (by (first | rfl | exact Vec.one _ _)) (by (first | decide | exact Nat.le_of_ble_eq_true rfl | (simp only [List.length_cons, List.length_nil]; omega) | (simp; done))) (by ((try apply evl_some rfl);(repeat (first|exact (rfl : _ = [])|apply evl_cons rfl (by (first|exact v_1|exact v_2|exact v_3|exact v_4|exact v_5|exact v_6|exact v_7|exact v_8|exact v_9|exact rfl))|exact rfl)))) ?_)
    refine xr_op rfl rfl (xv_assign rfl ?_)
    refine xr_end rfl ?_
    refine th_n ?_
    refine xc_seq ?_
    refine xc_block ?_
    refine xc_seq (xc_region ?_)
    refine xr_op rfl rfl (xv_move rfl ?_)
    refine xr_op rfl rfl (xv_neqF rfl rfl rfl ?_)
    refine xr_op rfl rfl (xv_assign rfl ?_)
    refine xr_end rfl ?_
    refine th_n ?_
    refine xc_false rfl ?_
    refine xc_seq (xc_region ?_)
    have he0 : errS s = 0 := hes0
    have hgm := hmet.m
    obtain ⟨hgs, htw, hcr⟩ := errS_0 he0
    obtain ⟨⟨hn1, hn2⟩, ⟨hn3, hn4⟩, ⟨hn5, hn6⟩, hn7, hn8⟩ := id hgs.1
    have hdl := dm_len hgs.2.1.2
    refine xr_op rfl rfl (xv_move rfl ?_)
    refine xr_op rfl rfl (xv_len sl26 rfl ?_)
    refine xr_op rfl rfl (xv_faddr fl25_2 rfl ?_)
    refine xr_op rfl rfl (xv_load1 ty3 rfl rfl (by ((repeat first|exact z_0|assumption|refine z_1 ?_|(refine z_l ?_;(repeat first|exact z_0|assumption|refine z_1 ?_);done)|refine z_r ?_);done)) (by rfl) ?_)
    refine xr_op rfl rfl (xv_neq2 rfl rfl (fun q1 => ?_) (fun q1 => ?_))
    · refine xr_op rfl rfl (xv_move rfl ?_)
      refine xr_no rfl rfl rfl rfl ?_
      refine xr_no rfl rfl rfl rfl ?_
      refine xr_no rfl rfl rfl rfl ?_
      refine xr_op rfl rfl (xv_pick rfl rfl ?_)
      refine xr_op rfl rfl (xv_assign rfl ?_)
      refine xr_end rfl ?_
      refine th_n ?_
      refine xc_true rfl ?_
      refine xc_seq ?_
      refine xc_draw0 [(0, .R), (1, .S), (2, .O), (3, .S), (4, .S)] mixed (by kernel_rfl) ?_
      have hpl : playA s hours = (0, ⟨0, 0⟩, 0, 2) := playA_2 he0 (fun q9 => by first | (have := q9.1; (first|omega|(dsimp only at *;omega)|(simp at *;omega))) | (exact of_decide_eq_true hmo (q9.2 x9 hx9)))
      refine js_R0 rfl rfl (.inl rfl) (xv_loadA ty30 rfl rfl (by ((repeat first|exact z_0|assumption|refine z_1 ?_|(refine z_l ?_;(repeat first|exact z_0|assumption|refine z_1 ?_);done)|refine z_r ?_);done)) (by ((try apply evl_some rfl);(repeat (first|exact (rfl : _ = [])|apply evl_cons rfl (by (first|exact v_1|exact v_2|exact v_3|exact v_4|exact v_5|exact v_6|exact v_7|exact v_8|exact v_9|exact rfl))|exact rfl)))) (by rfl) ⟨rfl, rfl⟩) ?_
      refine js_S rfl rfl (.inl rfl) (xv_assign rfl ⟨rfl, rfl⟩) ?_
      refine js_O0 rfl rfl (.inl rfl) (xv_s ty30 rfl rfl (by (first|(apply u_3;(repeat first|exact u_0|assumption|apply u_1|apply u_2);done)|((repeat first|exact u_0|assumption|apply u_1|apply u_2);done)|(apply u_3;apply u_3;(repeat first|exact u_0|assumption|apply u_1|apply u_2);done)|((repeat first|exact u_0|assumption|apply u_3|apply u_1);done))) (by ((try apply evl_some rfl);(repeat (first|exact (rfl : _ = [])|apply evl_cons rfl (by (first|exact v_1|exact v_2|exact v_3|exact v_4|exact v_5|exact v_6|exact v_7|exact v_8|exact v_9|exact rfl))|exact rfl)))) (by rfl) (by rfl) (by rfl) (by ((try apply evl_some rfl);(repeat (first|exact (rfl : _ = [])|apply evl_cons rfl (by (first|exact v_1|exact v_2|exact v_3|exact v_4|exact v_5|exact v_6|exact v_7|exact v_8|exact v_9|exact rfl))|exact rfl)))) ?_)
      refine js_S rfl rfl (.inl rfl) (xv_assign rfl ⟨rfl, rfl⟩) ?_
      refine js_S rfl rfl (.inl rfl) (xv_assign rfl ⟨rfl, rfl⟩) ?_
      refine j_end0 ?_
      refine th_n ?_
      refine xc_ret ?_
      refine bk_r ?_
      refine th_r ?_
      refine body_ret (h' := h) rfl (ro_tmp rfl (ro_cellA ty30 rfl rfl (by ((repeat first|exact z_0|assumption|refine z_1 ?_|(refine z_l ?_;(repeat first|exact z_0|assumption|refine z_1 ?_);done)|refine z_r ?_);done)) (by rfl) (by rfl) (ro_tmp rfl (ro_tmp rfl ro_nil)))) (by (first|((repeat first|exact s_0|exact s_1|exact s_3|refine s_4 ?_|refine s_5 ?_|refine s_6 ?_|refine s_7 ?_);done)|((repeat first|exact s_0|exact s_1|exact s_3|refine s_4 ?_|refine s_5 ?_|refine s_6 ?_|refine s_8 ?_);done))) ?_
      (rw [hpl] at H; exact H)
    · refine xr_op rfl rfl (xv_move rfl ?_)
      refine xr_gd rfl rfl rfl (xv_move rfl ?_)
      refine xr_gd rfl rfl rfl (xv_func rfl rfl ?_)
      refine xr_gd rfl rfl rfl (xv_calls rfl hb31 (containsI_c (hh.sub (by intro z hz; ((repeat first|exact z_0|assumption|refine z_1 ?_|(refine z_l ?_;(repeat first|exact z_0|assumption|refine z_1 ?_);done)|refine z_r ?_);done))) (by (first|omega|(dsimp only at *;omega)|(simp at *;omega))) (p := fun x => decide (¬ (0 ≤ x ∧ x ≤ s.now))) (fun x hx R' hR => afn_func hb32 (hourC_c (by ((repeat first|exact z_0|assumption|refine z_1 ?_|(refine z_l ?_;(repeat first|exact z_0|assumption|refine z_1 ?_);done)|refine z_r ?_);done)) hR)) (fun x9 hx9 hmo => up_ret ?_) (fun hmo => up_ret ?_)))
      · refine xr_op rfl rfl (xv_pick rfl rfl ?_)
        refine xr_op rfl rfl (xv_assign rfl ?_)
        refine xr_end rfl ?_
        refine th_n ?_
        refine xc_true rfl ?_
        refine xc_seq ?_
        refine xc_draw0 [(0, .R), (1, .S), (2, .O), (3, .S), (4, .S)] mixed (by kernel_rfl) ?_
        have hpl : playA s hours = (0, ⟨0, 0⟩, 0, 2) := playA_2 he0 (fun q9 => by first | (have := q9.1; (first|omega|(dsimp only at *;omega)|(simp at *;omega))) | (exact of_decide_eq_true hmo (q9.2 x9 hx9)))
        refine js_R0 rfl rfl (.inl rfl) (xv_loadA ty30 rfl rfl (by ((repeat first|exact z_0|assumption|refine z_1 ?_|(refine z_l ?_;(repeat first|exact z_0|assumption|refine z_1 ?_);done)|refine z_r ?_);done)) (by ((try apply evl_some rfl);(repeat (first|exact (rfl : _ = [])|apply evl_cons rfl (by (first|exact v_1|exact v_2|exact v_3|exact v_4|exact v_5|exact v_6|exact v_7|exact v_8|exact v_9|exact rfl))|exact rfl)))) (by rfl) ⟨rfl, rfl⟩) ?_
        refine js_S rfl rfl (.inl rfl) (xv_assign rfl ⟨rfl, rfl⟩) ?_
        refine js_O0 rfl rfl (.inl rfl) (xv_s ty30 rfl rfl (by (first|(apply u_3;(repeat first|exact u_0|assumption|apply u_1|apply u_2);done)|((repeat first|exact u_0|assumption|apply u_1|apply u_2);done)|(apply u_3;apply u_3;(repeat first|exact u_0|assumption|apply u_1|apply u_2);done)|((repeat first|exact u_0|assumption|apply u_3|apply u_1);done))) (by ((try apply evl_some rfl);(repeat (first|exact (rfl : _ = [])|apply evl_cons rfl (by (first|exact v_1|exact v_2|exact v_3|exact v_4|exact v_5|exact v_6|exact v_7|exact v_8|exact v_9|exact rfl))|exact rfl)))) (by rfl) (by rfl) (by rfl) (by ((try apply evl_some rfl);(repeat (first|exact (rfl : _ = [])|apply evl_cons rfl (by (first|exact v_1|exact v_2|exact v_3|exact v_4|exact v_5|exact v_6|exact v_7|exact v_8|exact v_9|exact rfl))|exact rfl)))) ?_)
        refine js_S rfl rfl (.inl rfl) (xv_assign rfl ⟨rfl, rfl⟩) ?_
        refine js_S rfl rfl (.inl rfl) (xv_assign rfl ⟨rfl, rfl⟩) ?_
        refine j_end0 ?_
        refine th_n ?_
        refine xc_ret ?_
        refine bk_r ?_
        refine th_r ?_
        refine body_ret (h' := h) rfl (ro_tmp rfl (ro_cellA ty30 rfl rfl (by ((repeat first|exact z_0|assumption|refine z_1 ?_|(refine z_l ?_;(repeat first|exact z_0|assumption|refine z_1 ?_);done)|refine z_r ?_);done)) (by rfl) (by rfl) (ro_tmp rfl (ro_tmp rfl ro_nil)))) (by (first|((repeat first|exact s_0|exact s_1|exact s_3|refine s_4 ?_|refine s_5 ?_|refine s_6 ?_|refine s_7 ?_);done)|((repeat first|exact s_0|exact s_1|exact s_3|refine s_4 ?_|refine s_5 ?_|refine s_6 ?_|refine s_8 ?_);done))) ?_
        (rw [hpl] at H; exact H)
      · refine xr_op rfl rfl (xv_pick rfl rfl ?_)
        refine xr_op rfl rfl (xv_assign rfl ?_)
        refine xr_end rfl ?_
        refine th_n ?_
        refine xc_false rfl ?_
        refine xc_skip ?_
        refine bk_n ?_
        refine th_n ?_
        refine xc_seq (xc_region ?_)
        have hpc : (hours.length : Int) = s.coins ∧ ∀ h ∈ hours, 0 ≤ h ∧ h ≤ s.now := ⟨by (first|omega|(dsimp only at *;omega)|(simp at *;omega)), fun x hx => Decidable.not_not.1 (of_decide_eq_false (hmo x hx))⟩
        obtain ⟨hpc1, hpc2⟩ := id hpc
        refine xr_op rfl rfl (xv_move rfl ?_)
        refine xr_op rfl rfl (xv_len sl26 rfl ?_)
        refine xr_op rfl rfl (xv_make (l := (List.replicate hours.length (0 : Int)).flatMap eI) sl26 ty3 rfl rfl (by (first|omega|(dsimp only at *;omega)|(simp at *;omega))) (by simp only []; (first|omega|(dsimp only at *;omega)|(simp at *;omega))) (by simp only []; (first|omega|(dsimp only at *;omega)|(simp at *;omega))) (make_ints _) (fun b38 hb38 => ?_))
        refine xr_op rfl rfl (xv_alloc ty26 (fun b9 hb9 => ?_))
        refine xr_op rfl rfl (xv_s1 ty26 rfl rfl rfl (by (first|(apply u_3;(repeat first|exact u_0|assumption|apply u_1|apply u_2);done)|((repeat first|exact u_0|assumption|apply u_1|apply u_2);done)|(apply u_3;apply u_3;(repeat first|exact u_0|assumption|apply u_1|apply u_2);done)|((repeat first|exact u_0|assumption|apply u_3|apply u_1);done))) (by (first | rfl | exact Vec.one _ _)) (by (first | decide | exact Nat.le_of_ble_eq_true rfl | (simp only [List.length_cons, List.length_nil]; omega) | (simp; done))) (by ((try apply evl_some rfl);(repeat (first|exact (rfl : _ = [])|apply evl_cons rfl (by (first|exact v_1|exact v_2|exact v_3|exact v_4|exact v_5|exact v_6|exact v_7|exact v_8|exact v_9|exact rfl))|exact rfl)))) ?_)
        refine xr_end rfl ?_
        refine th_n ?_
        refine xc_seq (xc_region ?_)
        refine xr_op rfl rfl (xv_load1 ty26 rfl rfl (by ((repeat first|exact z_0|assumption|refine z_1 ?_|(refine z_l ?_;(repeat first|exact z_0|assumption|refine z_1 ?_);done)|refine z_r ?_);done)) (by rfl) ?_)
        refine xr_op rfl rfl (xv_move rfl ?_)
        refine xr_op rfl rfl (xv_copy1 (enc := eI) (ys := hours) (l := (List.replicate hours.length (0 : Int)).flatMap eI) sl26 ty3 rfl rfl rfl rfl (hh.sub (by intro z hz; ((repeat first|exact z_0|assumption|refine z_1 ?_|(refine z_l ?_;(repeat first|exact z_0|assumption|refine z_1 ?_);done)|refine z_r ?_);done))) eI_len eI_1 (by rw [flat_I]; simp) (by (first|(apply u_3;(repeat first|exact u_0|assumption|apply u_1|apply u_2);done)|((repeat first|exact u_0|assumption|apply u_1|apply u_2);done)|(apply u_3;apply u_3;(repeat first|exact u_0|assumption|apply u_1|apply u_2);done)|((repeat first|exact u_0|assumption|apply u_3|apply u_1);done))) ?_)
        refine xr_end rfl ?_
        refine th_n ?_
        refine xc_seq (xc_region ?_)
        refine xr_op rfl rfl (xv_load1 ty26 rfl rfl (by ((repeat first|exact z_0|assumption|refine z_1 ?_|(refine z_l ?_;(repeat first|exact z_0|assumption|refine z_1 ?_);done)|refine z_r ?_);done)) (by rfl) ?_)
        refine xr_op rfl rfl (xv_calls rfl hb34 (sortOwn_c (xs := hours) rfl (by (first|omega|(dsimp only at *;omega)|(simp at *;omega))) (fun ys hyp hys => up_ret ?_)))
        refine xr_end rfl ?_
        refine th_n ?_
        refine xc_seq (xc_region ?_)
        have hy0 : ∀ x ∈ ys, 0 ≤ x := fun x hx => (hpc2 x (hyp.mem_iff.1 hx)).1
        have hyl := hyp.length_eq
        refine xr_op rfl rfl (xv_faddr fl25_0 rfl ?_)
        refine xr_op rfl rfl (xv_load1 ty3 rfl rfl (by ((repeat first|exact z_0|assumption|refine z_1 ?_|(refine z_l ?_;(repeat first|exact z_0|assumption|refine z_1 ?_);done)|refine z_r ?_);done)) (by rfl) ?_)
        refine xr_op rfl rfl (xv_alloc ty3 (fun b10 hb10 => ?_))
        refine xr_op rfl rfl (xv_s1 ty3 rfl rfl rfl (by (first|(apply u_3;(repeat first|exact u_0|assumption|apply u_1|apply u_2);done)|((repeat first|exact u_0|assumption|apply u_1|apply u_2);done)|(apply u_3;apply u_3;(repeat first|exact u_0|assumption|apply u_1|apply u_2);done)|((repeat first|exact u_0|assumption|apply u_3|apply u_1);done))) (by (first | rfl | exact Vec.one _ _)) (by (first | decide | exact Nat.le_of_ble_eq_true rfl | (simp only [List.length_cons, List.length_nil]; omega) | (simp; done))) (by ((try apply evl_some rfl);(repeat (first|exact (rfl : _ = [])|apply evl_cons rfl (by (first|exact v_1|exact v_2|exact v_3|exact v_4|exact v_5|exact v_6|exact v_7|exact v_8|exact v_9|exact rfl))|exact rfl)))) ?_)
        refine xr_end rfl ?_
        refine th_n ?_
        refine xc_seq (xc_region ?_)
        refine xr_op rfl rfl (xv_func rfl rfl ?_)
        refine xr_op rfl rfl (xv_assign rfl ?_)
        refine xr_end rfl ?_
        refine th_n ?_
        refine xc_seq ?_
        refine xc_seq (xc_region ?_)
        refine xr_op rfl rfl (xv_load1 ty60 rfl rfl (by ((repeat first|exact z_0|assumption|refine z_1 ?_|(refine z_l ?_;(repeat first|exact z_0|assumption|refine z_1 ?_);done)|refine z_r ?_);done)) (by rfl) ?_)
        refine xr_op rfl rfl (xv_nilp rfl ?_)
        refine xr_op rfl rfl (xv_faddr fl70_1 rfl ?_)
        refine xr_op rfl rfl (xv_load1 ty23 rfl rfl (by ((repeat first|exact z_0|assumption|refine z_1 ?_|(refine z_l ?_;(repeat first|exact z_0|assumption|refine z_1 ?_);done)|refine z_r ?_);done)) (by rfl) ?_)
        refine xr_op rfl rfl (xv_len sl23 rfl ?_)
        refine xr_op rfl rfl (xv_move rfl ?_)
        refine xr_end rfl ?_
        refine th_n ?_
        refine xc_block ?_
        refine xc_loop (σ := Nat × Int × Option Addr × Nat) (fun z => z.1 ≤ (dmS s).length ∧ badM s (byH s hours) ((dmS s).take z.1) = none ∧ (-1 ≤ z.2.1 ∧ z.2.1 ≤ s.now) ∧ (∀ (j : Nat) x, z.1 ≤ j → (dmS s)[j]? = some x → z.2.1 ≤ x.hour) ∧ SlV ((b38, .cells ⟨ys.flatMap eI⟩ 3) :: (b8, .cells ⟨[.pointer (some ⟨bm, 0, none⟩)]⟩ 60) :: (G ++ (b5, .cells ⟨[I 0, I 0]⟩ 30) :: (b2, .cells ⟨eSlot s⟩ 25) :: h)) 1 eI z.2.2.1 (hiF z.2.1 ys) ∧ (hiF z.2.1 ys).length ≤ z.2.2.2) (fun z => (((((((((((((emp.put (some 1) (.slice ha hours.length hc)).put (some 2) (.pointer (some ⟨b2, 0, none⟩))).put (some 4) (I 0)).put (some 5) (.pointer (some ⟨b5, 0, none⟩))).put (some 6) (I 0)).put (some 7) (I 0)).put (some 8) (.pointer (some ⟨b8, 0, none⟩))).put (some 9) (.pointer (some ⟨b9, 0, none⟩))).put (some 10) (.pointer (some ⟨b10, 0, none⟩))).put (some 11) (.func (.func 35) ⟨[]⟩ ⟨[.pointer (some ⟨b9, 0, none⟩), .pointer (some ⟨b10, 0, none⟩), .pointer (some ⟨b2, 0, none⟩), .pointer (some ⟨b8, 0, none⟩)]⟩)).put (some 50) (.slice ma (dmS s).length mc)).put (some 51) (I (dmS s).length)).put (some 52) (I z.1))) (fun z => ((b10, .cells ⟨[I (s.start + sumF s (loF z.2.1 ys))]⟩ 3) :: (b9, .cells ⟨[.slice z.2.2.1 (hiF z.2.1 ys).length z.2.2.2]⟩ 26) :: (b38, .cells ⟨ys.flatMap eI⟩ 3) :: (b8, .cells ⟨[.pointer (some ⟨bm, 0, none⟩)]⟩ 60) :: (G ++ (b5, .cells ⟨[I 0, I 0]⟩ 30) :: (b2, .cells ⟨eSlot s⟩ 25) :: h))) (fun z => (dmS s).length - z.1) ((0, -1, some ⟨b38, 0, none⟩, hours.length) : Nat × Int × Option Addr × Nat) ⟨Nat.zero_le _, rfl, ⟨Int.le_refl _, by dsimp only; omega⟩, fun j x _ hx => by have := (dm_bd he0 (List.mem_of_getElem? hx)).1; dsimp only; omega, by dsimp only; rw [hiF_all hy0]; exact slvL eI_len List.mem_cons_self, by dsimp only; rw [hiF_all hy0, hyp.length_eq]; exact Nat.le_refl _⟩ (le_put (le_put (le_put (le_put (le_put (le_put (le_put (le_put (le_put (le_put (le_put (le_put (le_put (le_emp _) rfl) rfl) rfl) rfl) rfl) rfl) rfl) rfl) rfl) rfl) rfl) rfl) rfl) (by dsimp only; rw [hiF_all hy0, loF_none hy0, hyp.length_eq, show s.start + sumF s [] = s.start by simp [sumF]]; (first|((repeat first|exact s_0|exact s_1|exact s_3|refine s_4 ?_|refine s_5 ?_|refine s_6 ?_|refine s_7 ?_);done)|((repeat first|exact s_0|exact s_1|exact s_3|refine s_4 ?_|refine s_5 ?_|refine s_6 ?_|refine s_8 ?_);done))) ?_
        rintro ⟨i, p, a1, c1⟩ ⟨hi, hbn, ⟨hp1, hp2⟩, hpn, hqa, hjc⟩
        dsimp only at hi hbn hp1 hp2 hpn hqa hjc
        have hsb := sumF_bd hgs.feet hgs.ne (loF p ys)
        have hsbl := List.length_filter_le (fun x : Int => decide (x ≤ p)) ys
        have hq9 : (hiF p ys).length ≤ 100 := by have := hiF_len p ys; have := hyp.length_eq; omega
        have hsbl2 : (loF p ys).length ≤ 24 := by have := hyp.length_eq; unfold loF; omega
        refine xc_seq (xc_region ?_)
        refine xr_op rfl rfl (xv_lss2 rfl rfl (fun q2 => ?_) (fun q2 => ?_))
        · refine xr_end rfl ?_
          refine th_n ?_
          refine xc_seq ?_
          refine xc_true rfl ?_
          refine xc_skip ?_
          refine th_n ?_
          refine xc_seq ?_
          refine xc_block ?_
          refine xc_seq (xc_region ?_)
          have hlto : i < (dmS s).length := by (first|omega|(dsimp only at *;omega)|(simp at *;omega))
          obtain ⟨bo, oo, lo, to, fzo, hao, hmo, hxo⟩ := (hmet.dm).at hlto
          obtain ⟨xo, hko⟩ : ∃ qq_, (dmS s)[i]? = some qq_ := ⟨_, List.getElem?_eq_getElem hlto⟩
          have hxm := List.mem_of_getElem? hko
          have hxb := dm_bd he0 hxm
          obtain ⟨⟨hx1, hx2⟩, hx3, hx4⟩ := id hxb
          have hpx := hpn i xo (Nat.le_refl _) hko
          refine xr_op rfl rfl (xv_ia (sz := 2) (j := i) sl23 ty42 rfl (by rw [hao]; rfl) rfl (by (first | assumption | with_reducible exact Int.toNat_natCast _ | with_reducible rfl | rfl)) (by (first|omega|(dsimp only at *;omega)|(simp at *;omega))) (by (first|omega|(dsimp only at *;omega)|(simp at *;omega))) ?_)
          refine xr_op rfl rfl (xv_loadA ty42 rfl rfl (by ((repeat first|exact z_0|assumption|refine z_1 ?_|(refine z_l ?_;(repeat first|exact z_0|assumption|refine z_1 ?_);done)|refine z_r ?_);done)) (hxo (i) xo hko) rfl ?_)
          refine xr_op rfl rfl (xv_alloc ty42 (fun b13 hb13 => ?_))
          refine xr_op rfl rfl (xv_s ty42 rfl rfl (by (first|(apply u_3;(repeat first|exact u_0|assumption|apply u_1|apply u_2);done)|((repeat first|exact u_0|assumption|apply u_1|apply u_2);done)|(apply u_3;apply u_3;(repeat first|exact u_0|assumption|apply u_1|apply u_2);done)|((repeat first|exact u_0|assumption|apply u_3|apply u_1);done))) (by ((try apply evl_some rfl);(repeat (first|exact (rfl : _ = [])|apply evl_cons rfl (by (first|exact v_1|exact v_2|exact v_3|exact v_4|exact v_5|exact v_6|exact v_7|exact v_8|exact v_9|exact rfl))|exact rfl)))) (by rfl) (by rfl) (by rfl) (by ((try apply evl_some rfl);(repeat (first|exact (rfl : _ = [])|apply evl_cons rfl (by (first|exact v_1|exact v_2|exact v_3|exact v_4|exact v_5|exact v_6|exact v_7|exact v_8|exact v_9|exact rfl))|exact rfl)))) ?_)
          refine xr_end rfl ?_
          refine th_n ?_
          refine xc_seq (xc_region ?_)
          refine xr_op rfl rfl (xv_move rfl ?_)
          refine xr_op rfl rfl (xv_faddr fl42_0 rfl ?_)
          refine xr_op rfl rfl (xv_load1 ty3 rfl rfl (by ((repeat first|exact z_0|assumption|refine z_1 ?_|(refine z_l ?_;(repeat first|exact z_0|assumption|refine z_1 ?_);done)|refine z_r ?_);done)) (by rfl) ?_)
          refine xr_op rfl rfl (xv_fn rfl rfl (afn_func (fi := []) (lb := [.pointer (some ⟨b9, 0, none⟩), .pointer (some ⟨b10, 0, none⟩), .pointer (some ⟨b2, 0, none⟩), .pointer (some ⟨b8, 0, none⟩)]) hb35 (ACalls.perm mv2.symm (put_c (C := (b13, .cells ⟨eMark xo⟩ 42) :: (b38, .cells ⟨ys.flatMap eI⟩ 3) :: (b8, .cells ⟨[.pointer (some ⟨bm, 0, none⟩)]⟩ 60) :: (G ++ (b5, .cells ⟨[I 0, I 0]⟩ 30) :: (b2, .cells ⟨eSlot s⟩ 25) :: h)) (b := bm) (ma := ma) (mc := mc) (q := hiF p ys) hsm he0 (by ((repeat first|exact z_0|assumption|refine z_1 ?_|(refine z_l ?_;(repeat first|exact z_0|assumption|refine z_1 ?_);done)|refine z_r ?_);done)) (by ((repeat first|exact z_0|assumption|refine z_1 ?_|(refine z_l ?_;(repeat first|exact z_0|assumption|refine z_1 ?_);done)|refine z_r ?_);done)) (by ((repeat first|exact z_0|assumption|refine z_1 ?_|(refine z_l ?_;(repeat first|exact z_0|assumption|refine z_1 ?_);done)|refine z_r ?_);done)) (hmet.dm.sub (by intro z hz; ((repeat first|exact z_0|assumption|refine z_1 ?_|(refine z_l ?_;(repeat first|exact z_0|assumption|refine z_1 ?_);done)|refine z_r ?_);done))) (hs.sub (by intro z hz; ((repeat first|exact z_0|assumption|refine z_1 ?_|(refine z_l ?_;(repeat first|exact z_0|assumption|refine z_1 ?_);done)|refine z_r ?_);done))) (D := (b38, .cells ⟨ys.flatMap eI⟩ 3) :: (b8, .cells ⟨[.pointer (some ⟨bm, 0, none⟩)]⟩ 60) :: (G ++ (b5, .cells ⟨[I 0, I 0]⟩ 30) :: (b2, .cells ⟨eSlot s⟩ 25) :: h)) (by intro z hz; ((repeat first|exact z_0|assumption|refine z_1 ?_|(refine z_l ?_;(repeat first|exact z_0|assumption|refine z_1 ?_);done)|refine z_r ?_);done)) hqa rfl hjc hq9 (fun x hx => hy0 x (hiF_sub hx)) (has := s.start + sumF s (loF p ys)) (hiF_sorted hys p) (by omega) (fun a2 c2 hqa2 hjc2 => up_ret ?_)))))
          refine xr_end rfl ?_
          refine th_n ?_
          refine xc_block ?_
          refine xc_seq (xc_region ?_)
          have hhh : hiF xo.hour (hiF p ys) = hiF xo.hour ys := hiF_hiF hpx ys
          have hsl8 : s.start + sumF s (loF p ys) + sumF s (loF xo.hour (hiF p ys)) = s.start + sumF s (loF xo.hour ys) := by have := sumF_lo (s := s) hpx ys; omega
          rw [hhh, hsl8]
          have hby : byH s hours xo.hour = sumF s (loF xo.hour ys) := by rw [← byH_perm hyp]; exact byH_loF s _ _
          have hbb := byH_bd hgs.feet hgs.ne xo.hour hours
          refine xr_op rfl rfl (xv_load1 ty3 rfl rfl (by ((repeat first|exact z_0|assumption|refine z_1 ?_|(refine z_l ?_;(repeat first|exact z_0|assumption|refine z_1 ?_);done)|refine z_r ?_);done)) (by rfl) ?_)
          refine xr_op rfl rfl (xv_faddr fl42_1 rfl ?_)
          refine xr_op rfl rfl (xv_load1 ty3 rfl rfl (by ((repeat first|exact z_0|assumption|refine z_1 ?_|(refine z_l ?_;(repeat first|exact z_0|assumption|refine z_1 ?_);done)|refine z_r ?_);done)) (by rfl) ?_)
          refine xr_op rfl rfl (xv_lss2 rfl rfl (fun q3 => ?_) (fun q3 => ?_))
          · refine xr_op rfl rfl (xv_assign rfl ?_)
            refine xr_end rfl ?_
            refine th_n ?_
            refine xc_true rfl ?_
            refine xc_seq ?_
            refine xc_drawX0 [(2, [(b13, fun o => o = .cells ⟨eMark xo⟩ 42 (0, 0))])] [(0, .R), (1, .S), (2, .S), (3, .S), (4, .O), (5, .S), (6, .S)] mixed (by kernel_rfl) (iv_cons (holds1 (by ((repeat first|exact z_0|assumption|refine z_1 ?_|(refine z_l ?_;(repeat first|exact z_0|assumption|refine z_1 ?_);done)|refine z_r ?_);done)) rfl) iv_nil) ?_
            have hbm := badM_at hbn hko (badM_10 (by rw [hby]; (first|omega|(dsimp only at *;omega)|(simp at *;omega))))
            have hpl : playA s hours = (0, ⟨0, 0⟩, xo.hour, 10) := playA_b he0 hpc (by rw [← badM_dd (errS_nt he0).sorted]; exact hbm)
            refine jx_R rfl rfl (.inl rfl) (xv_loadA ty30 rfl rfl (by ((repeat first|exact z_0|assumption|refine z_1 ?_|(refine z_l ?_;(repeat first|exact z_0|assumption|refine z_1 ?_);done)|refine z_r ?_);done)) (by ((try apply evl_some rfl);(repeat (first|exact (rfl : _ = [])|apply evl_cons rfl (by (first|exact v_1|exact v_2|exact v_3|exact v_4|exact v_5|exact v_6|exact v_7|exact v_8|exact v_9|exact rfl))|exact rfl)))) (by rfl) ⟨rfl, rfl⟩) ?_
            refine jx_S rfl rfl (.inl rfl) (xv_faddr fl42_0 rfl ⟨rfl, rfl⟩) ?_
            refine jx_I rfl rfl (.inl rfl) (fun hh hv => by have hv2 : Holds [(b13, fun o => o = .cells ⟨eMark xo⟩ 42 (0, 0))] hh := hv; obtain ⟨o9, hm9, e9⟩ := hv2 _ _ List.mem_cons_self; subst e9; exact xv_load1 ty3 rfl rfl hm9 rfl ⟨rfl, rfl⟩) ?_
            refine jx_S rfl rfl (.inl rfl) (xv_assign rfl ⟨rfl, rfl⟩) ?_
            refine jx_O rfl rfl (.inl rfl) (xv_s ty30 rfl rfl (by (first|(apply u_3;(repeat first|exact u_0|assumption|apply u_1|apply u_2);done)|((repeat first|exact u_0|assumption|apply u_1|apply u_2);done)|(apply u_3;apply u_3;(repeat first|exact u_0|assumption|apply u_1|apply u_2);done)|((repeat first|exact u_0|assumption|apply u_3|apply u_1);done))) (by ((try apply evl_some rfl);(repeat (first|exact (rfl : _ = [])|apply evl_cons rfl (by (first|exact v_1|exact v_2|exact v_3|exact v_4|exact v_5|exact v_6|exact v_7|exact v_8|exact v_9|exact rfl))|exact rfl)))) (by rfl) (by rfl) (by rfl) (by ((try apply evl_some rfl);(repeat (first|exact (rfl : _ = [])|apply evl_cons rfl (by (first|exact v_1|exact v_2|exact v_3|exact v_4|exact v_5|exact v_6|exact v_7|exact v_8|exact v_9|exact rfl))|exact rfl)))) ?_)
            refine ⟨(kp_in (holds1 (by ((repeat first|exact z_0|assumption|refine z_1 ?_|(refine z_l ?_;(repeat first|exact z_0|assumption|refine z_1 ?_);done)|refine z_r ?_);done)) rfl) kp_nil), ?_⟩
            refine jx_S rfl rfl (.inl rfl) (xv_assign rfl ⟨rfl, rfl⟩) ?_
            refine jx_S rfl rfl (.inl rfl) (xv_assign rfl ⟨rfl, rfl⟩) ?_
            refine jx_end ?_
            refine th_n ?_
            refine xc_ret ?_
            refine bk_r ?_
            refine bk_r ?_
            refine th_r ?_
            refine th_r ?_
            refine bk_r ?_
            refine th_r ?_
            refine body_ret (h' := h) rfl (ro_tmp rfl (ro_cellA ty30 rfl rfl (by ((repeat first|exact z_0|assumption|refine z_1 ?_|(refine z_l ?_;(repeat first|exact z_0|assumption|refine z_1 ?_);done)|refine z_r ?_);done)) (by rfl) (by rfl) (ro_tmp rfl (ro_tmp rfl ro_nil)))) (by (first|((repeat first|exact s_0|exact s_1|exact s_3|refine s_4 ?_|refine s_5 ?_|refine s_6 ?_|refine s_7 ?_);done)|((repeat first|exact s_0|exact s_1|exact s_3|refine s_4 ?_|refine s_5 ?_|refine s_6 ?_|refine s_8 ?_);done))) ?_
            (rw [hpl] at H; exact H)
          · refine xr_op rfl rfl (xv_assign rfl ?_)
            refine xr_end rfl ?_
            refine th_n ?_
            refine xc_false rfl ?_
            refine xc_seq (xc_region ?_)
            refine xr_op rfl rfl (xv_load1 ty3 rfl rfl (by ((repeat first|exact z_0|assumption|refine z_1 ?_|(refine z_l ?_;(repeat first|exact z_0|assumption|refine z_1 ?_);done)|refine z_r ?_);done)) (by rfl) ?_)
            refine xr_op rfl rfl (xv_faddr fl42_1 rfl ?_)
            refine xr_op rfl rfl (xv_load1 ty3 rfl rfl (by ((repeat first|exact z_0|assumption|refine z_1 ?_|(refine z_l ?_;(repeat first|exact z_0|assumption|refine z_1 ?_);done)|refine z_r ?_);done)) (by rfl) ?_)
            refine xr_op rfl rfl (xv_faddr fl25_1 rfl ?_)
            refine xr_op rfl rfl (xv_load1 ty3 rfl rfl (by ((repeat first|exact z_0|assumption|refine z_1 ?_|(refine z_l ?_;(repeat first|exact z_0|assumption|refine z_1 ?_);done)|refine z_r ?_);done)) (by rfl) ?_)
            refine xr_op rfl rfl (xv_add rfl rfl (wrap_i64 (by (first|omega|(dsimp only at *;omega)|(simp at *;omega))) (by (first|omega|(dsimp only at *;omega)|(simp at *;omega)))) ?_)
            refine xr_op rfl rfl (xv_gtr2 rfl rfl (fun q4 => ?_) (fun q4 => ?_))
            · refine xr_op rfl rfl (xv_assign rfl ?_)
              refine xr_end rfl ?_
              refine th_n ?_
              refine xc_true rfl ?_
              refine xc_seq ?_
              refine xc_drawX0 [(2, [(b13, fun o => o = .cells ⟨eMark xo⟩ 42 (0, 0))])] [(0, .R), (1, .S), (2, .S), (3, .S), (4, .O), (5, .S), (6, .S)] mixed (by kernel_rfl) (iv_cons (holds1 (by ((repeat first|exact z_0|assumption|refine z_1 ?_|(refine z_l ?_;(repeat first|exact z_0|assumption|refine z_1 ?_);done)|refine z_r ?_);done)) rfl) iv_nil) ?_
              have hbm := badM_at hbn hko (badM_9 (by rw [hby]; (first|omega|(dsimp only at *;omega)|(simp at *;omega))) (by rw [hby]; (first|omega|(dsimp only at *;omega)|(simp at *;omega))))
              have hpl : playA s hours = (0, ⟨0, 0⟩, xo.hour, 9) := playA_b he0 hpc (by rw [← badM_dd (errS_nt he0).sorted]; exact hbm)
              refine jx_R rfl rfl (.inl rfl) (xv_loadA ty30 rfl rfl (by ((repeat first|exact z_0|assumption|refine z_1 ?_|(refine z_l ?_;(repeat first|exact z_0|assumption|refine z_1 ?_);done)|refine z_r ?_);done)) (by ((try apply evl_some rfl);(repeat (first|exact (rfl : _ = [])|apply evl_cons rfl (by (first|exact v_1|exact v_2|exact v_3|exact v_4|exact v_5|exact v_6|exact v_7|exact v_8|exact v_9|exact rfl))|exact rfl)))) (by rfl) ⟨rfl, rfl⟩) ?_
              refine jx_S rfl rfl (.inl rfl) (xv_faddr fl42_0 rfl ⟨rfl, rfl⟩) ?_
              refine jx_I rfl rfl (.inl rfl) (fun hh hv => by have hv2 : Holds [(b13, fun o => o = .cells ⟨eMark xo⟩ 42 (0, 0))] hh := hv; obtain ⟨o9, hm9, e9⟩ := hv2 _ _ List.mem_cons_self; subst e9; exact xv_load1 ty3 rfl rfl hm9 rfl ⟨rfl, rfl⟩) ?_
              refine jx_S rfl rfl (.inl rfl) (xv_assign rfl ⟨rfl, rfl⟩) ?_
              refine jx_O rfl rfl (.inl rfl) (xv_s ty30 rfl rfl (by (first|(apply u_3;(repeat first|exact u_0|assumption|apply u_1|apply u_2);done)|((repeat first|exact u_0|assumption|apply u_1|apply u_2);done)|(apply u_3;apply u_3;(repeat first|exact u_0|assumption|apply u_1|apply u_2);done)|((repeat first|exact u_0|assumption|apply u_3|apply u_1);done))) (by ((try apply evl_some rfl);(repeat (first|exact (rfl : _ = [])|apply evl_cons rfl (by (first|exact v_1|exact v_2|exact v_3|exact v_4|exact v_5|exact v_6|exact v_7|exact v_8|exact v_9|exact rfl))|exact rfl)))) (by rfl) (by rfl) (by rfl) (by ((try apply evl_some rfl);(repeat (first|exact (rfl : _ = [])|apply evl_cons rfl (by (first|exact v_1|exact v_2|exact v_3|exact v_4|exact v_5|exact v_6|exact v_7|exact v_8|exact v_9|exact rfl))|exact rfl)))) ?_)
              refine ⟨(kp_in (holds1 (by ((repeat first|exact z_0|assumption|refine z_1 ?_|(refine z_l ?_;(repeat first|exact z_0|assumption|refine z_1 ?_);done)|refine z_r ?_);done)) rfl) kp_nil), ?_⟩
              refine jx_S rfl rfl (.inl rfl) (xv_assign rfl ⟨rfl, rfl⟩) ?_
              refine jx_S rfl rfl (.inl rfl) (xv_assign rfl ⟨rfl, rfl⟩) ?_
              refine jx_end ?_
              refine th_n ?_
              refine xc_ret ?_
              refine bk_r ?_
              refine bk_r ?_
              refine th_r ?_
              refine th_r ?_
              refine bk_r ?_
              refine th_r ?_
              refine body_ret (h' := h) rfl (ro_tmp rfl (ro_cellA ty30 rfl rfl (by ((repeat first|exact z_0|assumption|refine z_1 ?_|(refine z_l ?_;(repeat first|exact z_0|assumption|refine z_1 ?_);done)|refine z_r ?_);done)) (by rfl) (by rfl) (ro_tmp rfl (ro_tmp rfl ro_nil)))) (by (first|((repeat first|exact s_0|exact s_1|exact s_3|refine s_4 ?_|refine s_5 ?_|refine s_6 ?_|refine s_7 ?_);done)|((repeat first|exact s_0|exact s_1|exact s_3|refine s_4 ?_|refine s_5 ?_|refine s_6 ?_|refine s_8 ?_);done))) ?_
              (rw [hpl] at H; exact H)
            · refine xr_op rfl rfl (xv_assign rfl ?_)
              refine xr_end rfl ?_
              refine th_n ?_
              refine xc_false rfl ?_
              refine xc_skip ?_
              refine bk_n ?_
              refine bk_n ?_
              refine th_n ?_
              refine xc_region ?_
              refine xr_op rfl rfl (xv_add rfl rfl (wrap_i64 (by (first|omega|(dsimp only at *;omega)|(simp at *;omega))) (by (first|omega|(dsimp only at *;omega)|(simp at *;omega)))) ?_)
              refine xr_op rfl rfl (xv_move rfl ?_)
              refine xr_end rfl ?_
              exact rnd ((i + 1, xo.hour, a2, c2) : Nat × Int × Option Addr × Nat) ⟨by (first|omega|(dsimp only at *;omega)|(simp at *;omega)), badM_more hbn hko (by rw [hby]; (first|omega|(dsimp only at *;omega)|(simp at *;omega))) (by rw [hby]; (first|omega|(dsimp only at *;omega)|(simp at *;omega))), by (first|omega|(dsimp only at *;omega)|(simp at *;omega)), fun j x hj hx => by have h9 := strict_at (dm_strict s) (show i < j by dsimp only at hj; omega) hko hx; dsimp only; omega, by dsimp only; rw [hhh] at hqa2; exact hqa2, by dsimp only; rw [hhh] at hjc2; exact hjc2⟩ (by (first|omega|(dsimp only at *;omega)|(simp at *;omega))) (le_put (le_put (le_put (le_put (le_put (le_put (le_put (le_put (le_put (le_put (le_put (le_put (le_put (le_emp _) rfl) rfl) rfl) rfl) rfl) rfl) rfl) rfl) rfl) rfl) rfl) rfl) rfl) (by dsimp only; (first|((repeat first|exact s_0|exact s_1|exact s_3|refine s_4 ?_|refine s_5 ?_|refine s_6 ?_|refine s_7 ?_);done)|((repeat first|exact s_0|exact s_1|exact s_3|refine s_4 ?_|refine s_5 ?_|refine s_6 ?_|refine s_8 ?_);done)))
        · refine xr_end rfl ?_
          refine th_n ?_
          refine xc_seq ?_
          refine xc_false rfl ?_
          refine xc_exit ?_
          refine th_x ?_
          refine th_x ?_
          refine bk_same ?_
          refine th_n ?_
          refine xc_seq (xc_region ?_)
          obtain rfl : (dmS s).length = i := by (first|omega|(dsimp only at *;omega)|(simp at *;omega))
          rw [List.take_length] at hbn
          refine xr_op rfl rfl (xv_move rfl ?_)
          refine xr_op rfl rfl (xv_faddr fl25_3 rfl ?_)
          refine xr_op rfl rfl (xv_load1 ty3 rfl rfl (by ((repeat first|exact z_0|assumption|refine z_1 ?_|(refine z_l ?_;(repeat first|exact z_0|assumption|refine z_1 ?_);done)|refine z_r ?_);done)) (by rfl) ?_)
          refine xr_op rfl rfl (xv_fn rfl rfl (afn_func (fi := []) (lb := [.pointer (some ⟨b9, 0, none⟩), .pointer (some ⟨b10, 0, none⟩), .pointer (some ⟨b2, 0, none⟩), .pointer (some ⟨b8, 0, none⟩)]) hb35 (ACalls.perm (List.Perm.refl _) (put_c (C := (b38, .cells ⟨ys.flatMap eI⟩ 3) :: (b8, .cells ⟨[.pointer (some ⟨bm, 0, none⟩)]⟩ 60) :: (G ++ (b5, .cells ⟨[I 0, I 0]⟩ 30) :: (b2, .cells ⟨eSlot s⟩ 25) :: h)) (b := bm) (ma := ma) (mc := mc) (q := hiF p ys) hsm he0 (by ((repeat first|exact z_0|assumption|refine z_1 ?_|(refine z_l ?_;(repeat first|exact z_0|assumption|refine z_1 ?_);done)|refine z_r ?_);done)) (by ((repeat first|exact z_0|assumption|refine z_1 ?_|(refine z_l ?_;(repeat first|exact z_0|assumption|refine z_1 ?_);done)|refine z_r ?_);done)) (by ((repeat first|exact z_0|assumption|refine z_1 ?_|(refine z_l ?_;(repeat first|exact z_0|assumption|refine z_1 ?_);done)|refine z_r ?_);done)) (hmet.dm.sub (by intro z hz; ((repeat first|exact z_0|assumption|refine z_1 ?_|(refine z_l ?_;(repeat first|exact z_0|assumption|refine z_1 ?_);done)|refine z_r ?_);done))) (hs.sub (by intro z hz; ((repeat first|exact z_0|assumption|refine z_1 ?_|(refine z_l ?_;(repeat first|exact z_0|assumption|refine z_1 ?_);done)|refine z_r ?_);done))) (D := (b38, .cells ⟨ys.flatMap eI⟩ 3) :: (b8, .cells ⟨[.pointer (some ⟨bm, 0, none⟩)]⟩ 60) :: (G ++ (b5, .cells ⟨[I 0, I 0]⟩ 30) :: (b2, .cells ⟨eSlot s⟩ 25) :: h)) (by intro z hz; ((repeat first|exact z_0|assumption|refine z_1 ?_|(refine z_l ?_;(repeat first|exact z_0|assumption|refine z_1 ?_);done)|refine z_r ?_);done)) hqa rfl hjc hq9 (fun x hx => hy0 x (hiF_sub hx)) (has := s.start + sumF s (loF p ys)) (hiF_sorted hys p) (by omega) (fun a2 c2 hqa2 hjc2 => up_ret ?_)))))
          refine xr_end rfl ?_
          refine th_n ?_
          refine xc_seq (xc_region ?_)
          have hsl8 : s.start + sumF s (loF p ys) + sumF s (loF s.now (hiF p ys)) = s.start + byH s hours s.now := by have := sumF_lo (s := s) hp2 ys; rw [← byH_perm hyp, byH_loF]; omega
          rw [hsl8]
          have hbb := byH_bd hgs.feet hgs.ne s.now hours
          have hpl := playA_0 he0 hpc (by rw [← badM_dd (errS_nt he0).sorted]; exact hbn)
          refine xr_op rfl rfl (xv_load1 ty3 rfl rfl (by ((repeat first|exact z_0|assumption|refine z_1 ?_|(refine z_l ?_;(repeat first|exact z_0|assumption|refine z_1 ?_);done)|refine z_r ?_);done)) (by rfl) ?_)
          refine xr_op rfl rfl (xv_faddr fl25_0 rfl ?_)
          refine xr_op rfl rfl (xv_load1 ty3 rfl rfl (by ((repeat first|exact z_0|assumption|refine z_1 ?_|(refine z_l ?_;(repeat first|exact z_0|assumption|refine z_1 ?_);done)|refine z_r ?_);done)) (by rfl) ?_)
          refine xr_op rfl rfl (xv_sub rfl rfl (wrap_i64 (by (first|omega|(dsimp only at *;omega)|(simp at *;omega))) (by (first|omega|(dsimp only at *;omega)|(simp at *;omega)))) ?_)
          refine xr_op rfl rfl (xv_assign rfl ?_)
          refine xr_end rfl ?_
          refine th_n ?_
          refine xc_seq ?_
          refine xc_drawX0 [(5, [(b2, fun o => o = .cells ⟨eSlot s⟩ 25 (0, 0))])] [(0, .S), (1, .R), (2, .S), (3, .R), (4, .S), (5, .S), (6, .S), (7, .O), (8, .S), (9, .S)] mixed (by kernel_rfl) (iv_cons (holds1 (by ((repeat first|exact z_0|assumption|refine z_1 ?_|(refine z_l ?_;(repeat first|exact z_0|assumption|refine z_1 ?_);done)|refine z_r ?_);done)) rfl) iv_nil) ?_
          rw [show s.start + byH s hours s.now - s.start = byH s hours s.now by omega]
          refine jx_S rfl rfl (.inl rfl) (xv_move rfl ⟨rfl, rfl⟩) ?_
          refine jx_R rfl rfl (.inl rfl) (xv_load1 ty60 rfl rfl (by ((repeat first|exact z_0|assumption|refine z_1 ?_|(refine z_l ?_;(repeat first|exact z_0|assumption|refine z_1 ?_);done)|refine z_r ?_);done)) (by rfl) ⟨rfl, rfl⟩) ?_
          refine jx_S rfl rfl (.inl rfl) (xv_move rfl ⟨rfl, rfl⟩) ?_
          refine jx_R rfl rfl (.inl rfl) (xv_calls rfl hb37 (pcredit_c (by ((repeat first|exact z_0|assumption|refine z_1 ?_|(refine z_l ?_;(repeat first|exact z_0|assumption|refine z_1 ?_);done)|refine z_r ?_);done)) (hmet.dm.sub (by intro z hz; ((repeat first|exact z_0|assumption|refine z_1 ?_|(refine z_l ?_;(repeat first|exact z_0|assumption|refine z_1 ?_);done)|refine z_r ?_);done))) (hs.sub (by intro z hz; ((repeat first|exact z_0|assumption|refine z_1 ?_|(refine z_l ?_;(repeat first|exact z_0|assumption|refine z_1 ?_);done)|refine z_r ?_);done))) hsm he0 (by omega) (up_ret ⟨rfl, rfl⟩))) ?_
          refine jx_S rfl rfl (.inl rfl) (xv_faddr fl25_3 rfl ⟨rfl, rfl⟩) ?_
          refine jx_I rfl rfl (.inl rfl) (fun hh hv => by have hv2 : Holds [(b2, fun o => o = .cells ⟨eSlot s⟩ 25 (0, 0))] hh := hv; obtain ⟨o9, hm9, e9⟩ := hv2 _ _ List.mem_cons_self; subst e9; exact xv_load1 ty3 rfl rfl hm9 rfl ⟨rfl, rfl⟩) ?_
          refine jx_S rfl rfl (.inl rfl) (xv_assign rfl ⟨rfl, rfl⟩) ?_
          refine jx_O rfl rfl (.inl rfl) (xv_s ty30 rfl rfl (by (first|(apply u_3;(repeat first|exact u_0|assumption|apply u_1|apply u_2);done)|((repeat first|exact u_0|assumption|apply u_1|apply u_2);done)|(apply u_3;apply u_3;(repeat first|exact u_0|assumption|apply u_1|apply u_2);done)|((repeat first|exact u_0|assumption|apply u_3|apply u_1);done))) (by ((try apply evl_some rfl);(repeat (first|exact (rfl : _ = [])|apply evl_cons rfl (by (first|exact v_1|exact v_2|exact v_3|exact v_4|exact v_5|exact v_6|exact v_7|exact v_8|exact v_9|exact rfl))|exact rfl)))) (by rfl) (by rfl) (by rfl) (by ((try apply evl_some rfl);(repeat (first|exact (rfl : _ = [])|apply evl_cons rfl (by (first|exact v_1|exact v_2|exact v_3|exact v_4|exact v_5|exact v_6|exact v_7|exact v_8|exact v_9|exact rfl))|exact rfl)))) ?_)
          refine ⟨(kp_in (holds1 (by ((repeat first|exact z_0|assumption|refine z_1 ?_|(refine z_l ?_;(repeat first|exact z_0|assumption|refine z_1 ?_);done)|refine z_r ?_);done)) rfl) kp_nil), ?_⟩
          refine jx_S rfl rfl (.inl rfl) (xv_assign rfl ⟨rfl, rfl⟩) ?_
          refine jx_S rfl rfl (.inl rfl) (xv_assign rfl ⟨rfl, rfl⟩) ?_
          refine jx_end ?_
          refine th_n ?_
          refine xc_ret ?_
          refine body_ret (h' := h) rfl (ro_tmp rfl (ro_cellA ty30 rfl rfl (by ((repeat first|exact z_0|assumption|refine z_1 ?_|(refine z_l ?_;(repeat first|exact z_0|assumption|refine z_1 ?_);done)|refine z_r ?_);done)) (by rfl) (by rfl) (ro_tmp rfl (ro_tmp rfl ro_nil)))) (by (first|((repeat first|exact s_0|exact s_1|exact s_3|refine s_4 ?_|refine s_5 ?_|refine s_6 ?_|refine s_7 ?_);done)|((repeat first|exact s_0|exact s_1|exact s_3|refine s_4 ?_|refine s_5 ?_|refine s_6 ?_|refine s_8 ?_);done))) ?_
          (rw [hpl] at H; exact H)

end Go.Proofs.Ytlcdbjgfeoagbaa

/-
  The document's example.
-/
set_option linter.all false
namespace Go.Proofs.Ytlcdbjgfeoagbaa
open Go Go.H
def sampS (ta : Option Addr) (tc : Nat) (ma : Option Addr) (mc : Nat) (l : List Mark) : Slot := ⟨5, 60, 6, 100, ta, tc, [⟨0, 25⟩, ⟨50, 20⟩], ma, mc, [⟨40, 40⟩, ⟨80, 100⟩] ++ l⟩
theorem samp_small {ta : Option Addr} {tc : Nat} {ma : Option Addr} {mc : Nat} {l : List Mark} (h : l.length ≤ 10) : Small (sampS ta tc ma mc l) := ⟨by show 2 ≤ 1000; decide, by show (_ ++ l).length ≤ 1000; rw [List.length_append]; show 2 + _ ≤ _; omega⟩
theorem eqc_self : ∀ {xs : List Value}, (∀ x ∈ xs, Num x) → eqc xs xs = true
  | [], _ => rfl
  | x :: xs, h => by
    obtain ⟨n, rfl⟩ := h x List.mem_cons_self
    simp only [eqc, beq_self_eq_true, Bool.true_and]
    exact eqc_self fun y hy => h y (List.mem_cons_of_mem _ hy)
section
variable {ta ma : Option Addr} {tc mc : Nat}
theorem ex1 : playA (sampS ta tc ma mc []) [10, 20, 30, 60, 70, 90] = (135, ⟨0, 40⟩, 100, 0) := by kernel_rfl
theorem ex2 : errD (sampS ta tc ma mc []) = 0 := by kernel_rfl
theorem ex3 : coinsS (sampS ta tc ma mc []) = [⟨2, 6⟩, ⟨0, 4⟩] := by kernel_rfl
theorem ex4 : errD (sampS ta tc ma mc [⟨100, 150⟩]) = 0 := by kernel_rfl
theorem ex5 : leftS (sampS ta tc ma mc [⟨100, 150⟩]) = ⟨0, 5⟩ := by kernel_rfl
end
end Go.Proofs.Ytlcdbjgfeoagbaa

/-
  Walks.
-/
namespace Go.Proofs.Ytlcdbjgfeoagbaa
open Go Go.H
set_option maxRecDepth 100000
set_option maxHeartbeats 8000000
set_option linter.all false
theorem great_c {s : Slot} {c : Int} {h : Hp} {R : Ending → Hp → Prop} (H1 : R (.returned (.bool true)) h) (H2 : s.tars.length ≤ 9 → s.marks.length ≤ 20 → (s.coins ≤ c ∨ 24 < s.coins) → R (.returned (.bool false)) h) : ACalls Try.prog 11 ⟨[.agg ⟨eSlot s⟩, I c]⟩ h R := by
  refine calls_of_xc (N := 26) Try.func11 rfl (by rfl) ?_
  refine xc_seq (xc_region ?_)
  refine xr_op rfl rfl (xv_box rfl (fun b2 hb2 => ?_))
  refine xr_op rfl rfl (xv_assign rfl ?_)
  refine xr_end rfl ?_
  refine th_n ?_
  refine xc_seq (xc_region ?_)
  refine xr_op rfl rfl (xv_faddr fl25_2 rfl ?_)
  refine xr_op rfl rfl (xv_load1 ty3 rfl rfl (by ((repeat first|exact z_0|assumption|refine z_1 ?_|(refine z_l ?_;(repeat first|exact z_0|assumption|refine z_1 ?_);done)|refine z_r ?_);done)) (by rfl) ?_)
  refine xr_op rfl rfl (xv_move rfl ?_)
  refine xr_op rfl rfl (xv_gtr2 rfl rfl (fun q1 => ?_) (fun q1 => ?_))
  · refine xr_op rfl rfl (xv_move rfl ?_)
    refine xr_gd rfl rfl rfl (xv_faddr fl25_2 rfl ?_)
    refine xr_gd rfl rfl rfl (xv_load1 ty3 rfl rfl (by ((repeat first|exact z_0|assumption|refine z_1 ?_|(refine z_l ?_;(repeat first|exact z_0|assumption|refine z_1 ?_);done)|refine z_r ?_);done)) (by rfl) ?_)
    refine xr_gd rfl rfl rfl (xv_leq2 rfl rfl (fun q2 => ?_) (fun q2 => ?_))
    · refine xr_op rfl rfl (xv_pick rfl rfl ?_)
      refine xr_op rfl rfl (xv_move rfl ?_)
      refine xr_no rfl rfl rfl rfl ?_
      refine xr_no rfl rfl rfl rfl ?_
      refine xr_no rfl rfl rfl rfl ?_
      refine xr_no rfl rfl rfl rfl ?_
      refine xr_op rfl rfl (xv_pick rfl rfl ?_)
      refine xr_op rfl rfl (xv_move rfl ?_)
      refine xr_no rfl rfl rfl rfl ?_
      refine xr_no rfl rfl rfl rfl ?_
      refine xr_no rfl rfl rfl rfl ?_
      refine xr_no rfl rfl rfl rfl ?_
      refine xr_op rfl rfl (xv_pick rfl rfl ?_)
      refine xr_op rfl rfl (xv_assign rfl ?_)
      refine xr_end rfl ?_
      refine th_n ?_
      refine xc_ret ?_
      refine body_ret (h' := h) rfl (ro_tmp rfl ro_nil) (by (first|((repeat first|exact s_0|exact s_1|exact s_3|refine s_4 ?_|refine s_5 ?_|refine s_6 ?_|refine s_7 ?_);done)|((repeat first|exact s_0|exact s_1|exact s_3|refine s_4 ?_|refine s_5 ?_|refine s_6 ?_|refine s_8 ?_);done))) ?_
      first | exact H1 | exact H2 (by (first|omega|(dsimp only at *;omega)|(simp at *;omega))) (by (first|omega|(dsimp only at *;omega)|(simp at *;omega))) (by (first|omega|(dsimp only at *;omega)|(simp at *;omega)))
    · refine xr_op rfl rfl (xv_pick rfl rfl ?_)
      refine xr_op rfl rfl (xv_move rfl ?_)
      refine xr_gd rfl rfl rfl (xv_faddr fl25_4 rfl ?_)
      refine xr_gd rfl rfl rfl (xv_load1 ty22 rfl rfl (by ((repeat first|exact z_0|assumption|refine z_1 ?_|(refine z_l ?_;(repeat first|exact z_0|assumption|refine z_1 ?_);done)|refine z_r ?_);done)) (by rfl) ?_)
      refine xr_gd rfl rfl rfl (xv_len sl22 rfl ?_)
      refine xr_gd rfl rfl rfl (xv_gtr2 rfl rfl (fun q3 => ?_) (fun q3 => ?_))
      · refine xr_op rfl rfl (xv_pick rfl rfl ?_)
        refine xr_op rfl rfl (xv_move rfl ?_)
        refine xr_no rfl rfl rfl rfl ?_
        refine xr_no rfl rfl rfl rfl ?_
        refine xr_no rfl rfl rfl rfl ?_
        refine xr_no rfl rfl rfl rfl ?_
        refine xr_op rfl rfl (xv_pick rfl rfl ?_)
        refine xr_op rfl rfl (xv_assign rfl ?_)
        refine xr_end rfl ?_
        refine th_n ?_
        refine xc_ret ?_
        refine body_ret (h' := h) rfl (ro_tmp rfl ro_nil) (by (first|((repeat first|exact s_0|exact s_1|exact s_3|refine s_4 ?_|refine s_5 ?_|refine s_6 ?_|refine s_7 ?_);done)|((repeat first|exact s_0|exact s_1|exact s_3|refine s_4 ?_|refine s_5 ?_|refine s_6 ?_|refine s_8 ?_);done))) ?_
        first | exact H1 | exact H2 (by (first|omega|(dsimp only at *;omega)|(simp at *;omega))) (by (first|omega|(dsimp only at *;omega)|(simp at *;omega))) (by (first|omega|(dsimp only at *;omega)|(simp at *;omega)))
      · refine xr_op rfl rfl (xv_pick rfl rfl ?_)
        refine xr_op rfl rfl (xv_move rfl ?_)
        refine xr_gd rfl rfl rfl (xv_faddr fl25_5 rfl ?_)
        refine xr_gd rfl rfl rfl (xv_load1 ty23 rfl rfl (by ((repeat first|exact z_0|assumption|refine z_1 ?_|(refine z_l ?_;(repeat first|exact z_0|assumption|refine z_1 ?_);done)|refine z_r ?_);done)) (by rfl) ?_)
        refine xr_gd rfl rfl rfl (xv_len sl23 rfl ?_)
        refine xr_gd rfl rfl rfl (xv_gtr2 rfl rfl (fun q4 => ?_) (fun q4 => ?_))
        · refine xr_op rfl rfl (xv_pick rfl rfl ?_)
          refine xr_op rfl rfl (xv_assign rfl ?_)
          refine xr_end rfl ?_
          refine th_n ?_
          refine xc_ret ?_
          refine body_ret (h' := h) rfl (ro_tmp rfl ro_nil) (by (first|((repeat first|exact s_0|exact s_1|exact s_3|refine s_4 ?_|refine s_5 ?_|refine s_6 ?_|refine s_7 ?_);done)|((repeat first|exact s_0|exact s_1|exact s_3|refine s_4 ?_|refine s_5 ?_|refine s_6 ?_|refine s_8 ?_);done))) ?_
          first | exact H1 | exact H2 (by (first|omega|(dsimp only at *;omega)|(simp at *;omega))) (by (first|omega|(dsimp only at *;omega)|(simp at *;omega))) (by (first|omega|(dsimp only at *;omega)|(simp at *;omega)))
        · refine xr_op rfl rfl (xv_pick rfl rfl ?_)
          refine xr_op rfl rfl (xv_assign rfl ?_)
          refine xr_end rfl ?_
          refine th_n ?_
          refine xc_ret ?_
          refine body_ret (h' := h) rfl (ro_tmp rfl ro_nil) (by (first|((repeat first|exact s_0|exact s_1|exact s_3|refine s_4 ?_|refine s_5 ?_|refine s_6 ?_|refine s_7 ?_);done)|((repeat first|exact s_0|exact s_1|exact s_3|refine s_4 ?_|refine s_5 ?_|refine s_6 ?_|refine s_8 ?_);done))) ?_
          first | exact H1 | exact H2 (by (first|omega|(dsimp only at *;omega)|(simp at *;omega))) (by (first|omega|(dsimp only at *;omega)|(simp at *;omega))) (by (first|omega|(dsimp only at *;omega)|(simp at *;omega)))
  · refine xr_op rfl rfl (xv_move rfl ?_)
    refine xr_no rfl rfl rfl rfl ?_
    refine xr_no rfl rfl rfl rfl ?_
    refine xr_no rfl rfl rfl rfl ?_
    refine xr_op rfl rfl (xv_pick rfl rfl ?_)
    refine xr_op rfl rfl (xv_move rfl ?_)
    refine xr_gd rfl rfl rfl (xv_faddr fl25_4 rfl ?_)
    refine xr_gd rfl rfl rfl (xv_load1 ty22 rfl rfl (by ((repeat first|exact z_0|assumption|refine z_1 ?_|(refine z_l ?_;(repeat first|exact z_0|assumption|refine z_1 ?_);done)|refine z_r ?_);done)) (by rfl) ?_)
    refine xr_gd rfl rfl rfl (xv_len sl22 rfl ?_)
    refine xr_gd rfl rfl rfl (xv_gtr2 rfl rfl (fun q5 => ?_) (fun q5 => ?_))
    · refine xr_op rfl rfl (xv_pick rfl rfl ?_)
      refine xr_op rfl rfl (xv_move rfl ?_)
      refine xr_no rfl rfl rfl rfl ?_
      refine xr_no rfl rfl rfl rfl ?_
      refine xr_no rfl rfl rfl rfl ?_
      refine xr_no rfl rfl rfl rfl ?_
      refine xr_op rfl rfl (xv_pick rfl rfl ?_)
      refine xr_op rfl rfl (xv_assign rfl ?_)
      refine xr_end rfl ?_
      refine th_n ?_
      refine xc_ret ?_
      refine body_ret (h' := h) rfl (ro_tmp rfl ro_nil) (by (first|((repeat first|exact s_0|exact s_1|exact s_3|refine s_4 ?_|refine s_5 ?_|refine s_6 ?_|refine s_7 ?_);done)|((repeat first|exact s_0|exact s_1|exact s_3|refine s_4 ?_|refine s_5 ?_|refine s_6 ?_|refine s_8 ?_);done))) ?_
      first | exact H1 | exact H2 (by (first|omega|(dsimp only at *;omega)|(simp at *;omega))) (by (first|omega|(dsimp only at *;omega)|(simp at *;omega))) (by (first|omega|(dsimp only at *;omega)|(simp at *;omega)))
    · refine xr_op rfl rfl (xv_pick rfl rfl ?_)
      refine xr_op rfl rfl (xv_move rfl ?_)
      refine xr_gd rfl rfl rfl (xv_faddr fl25_5 rfl ?_)
      refine xr_gd rfl rfl rfl (xv_load1 ty23 rfl rfl (by ((repeat first|exact z_0|assumption|refine z_1 ?_|(refine z_l ?_;(repeat first|exact z_0|assumption|refine z_1 ?_);done)|refine z_r ?_);done)) (by rfl) ?_)
      refine xr_gd rfl rfl rfl (xv_len sl23 rfl ?_)
      refine xr_gd rfl rfl rfl (xv_gtr2 rfl rfl (fun q6 => ?_) (fun q6 => ?_))
      · refine xr_op rfl rfl (xv_pick rfl rfl ?_)
        refine xr_op rfl rfl (xv_assign rfl ?_)
        refine xr_end rfl ?_
        refine th_n ?_
        refine xc_ret ?_
        refine body_ret (h' := h) rfl (ro_tmp rfl ro_nil) (by (first|((repeat first|exact s_0|exact s_1|exact s_3|refine s_4 ?_|refine s_5 ?_|refine s_6 ?_|refine s_7 ?_);done)|((repeat first|exact s_0|exact s_1|exact s_3|refine s_4 ?_|refine s_5 ?_|refine s_6 ?_|refine s_8 ?_);done))) ?_
        first | exact H1 | exact H2 (by (first|omega|(dsimp only at *;omega)|(simp at *;omega))) (by (first|omega|(dsimp only at *;omega)|(simp at *;omega))) (by (first|omega|(dsimp only at *;omega)|(simp at *;omega)))
      · refine xr_op rfl rfl (xv_pick rfl rfl ?_)
        refine xr_op rfl rfl (xv_assign rfl ?_)
        refine xr_end rfl ?_
        refine th_n ?_
        refine xc_ret ?_
        refine body_ret (h' := h) rfl (ro_tmp rfl ro_nil) (by (first|((repeat first|exact s_0|exact s_1|exact s_3|refine s_4 ?_|refine s_5 ?_|refine s_6 ?_|refine s_7 ?_);done)|((repeat first|exact s_0|exact s_1|exact s_3|refine s_4 ?_|refine s_5 ?_|refine s_6 ?_|refine s_8 ?_);done))) ?_
        first | exact H1 | exact H2 (by (first|omega|(dsimp only at *;omega)|(simp at *;omega))) (by (first|omega|(dsimp only at *;omega)|(simp at *;omega))) (by (first|omega|(dsimp only at *;omega)|(simp at *;omega)))

theorem span_c {a b : Int} {h : Hp} {R : Ending → Hp → Prop} (H : R (.returned (.agg ⟨[I a, I b]⟩)) h) :
    ACalls Try.prog 24 ⟨[I a, I b]⟩ h R := by
  refine calls_of_xc (N := 8) Try.func24 rfl (by rfl) ?_
  refine xc_seq (xc_region ?_)
  refine xr_op rfl rfl (xv_alloc ty30 (fun b4 hb4 => ?_))
  refine xr_end rfl ?_
  refine th_n ?_
  refine xc_seq (xc_region ?_)
  refine xr_op rfl rfl (xv_move rfl ?_)
  refine xr_op rfl rfl (xv_move rfl ?_)
  refine xr_op rfl rfl (xv_build bt30 rfl (by ((try apply evl_some rfl);(repeat (first|exact (rfl : _ = [])|apply evl_cons rfl (by (first|exact v_1|exact v_2|exact v_3|exact v_4|exact v_5|exact v_6|exact v_7|exact v_8|exact v_9|exact rfl))|exact rfl)))) ?_)
  refine xr_op rfl rfl (xv_s ty30 rfl rfl (by (first|(apply u_3;(repeat first|exact u_0|assumption|apply u_1|apply u_2);done)|((repeat first|exact u_0|assumption|apply u_1|apply u_2);done)|(apply u_3;apply u_3;(repeat first|exact u_0|assumption|apply u_1|apply u_2);done)|((repeat first|exact u_0|assumption|apply u_3|apply u_1);done))) (by ((try apply evl_some rfl);(repeat (first|exact (rfl : _ = [])|apply evl_cons rfl (by (first|exact v_1|exact v_2|exact v_3|exact v_4|exact v_5|exact v_6|exact v_7|exact v_8|exact v_9|exact rfl))|exact rfl)))) (by rfl) (by rfl) (by rfl) (by ((try apply evl_some rfl);(repeat (first|exact (rfl : _ = [])|apply evl_cons rfl (by (first|exact v_1|exact v_2|exact v_3|exact v_4|exact v_5|exact v_6|exact v_7|exact v_8|exact v_9|exact rfl))|exact rfl)))) ?_)
  refine xr_end rfl ?_
  refine th_n ?_
  refine xc_ret ?_
  refine body_ret (h' := h) rfl (ro_cellA ty30 rfl rfl (by ((repeat first|exact z_0|assumption|refine z_1 ?_|(refine z_l ?_;(repeat first|exact z_0|assumption|refine z_1 ?_);done)|refine z_r ?_);done)) (by rfl) (by rfl) ro_nil) (by (first|((repeat first|exact s_0|exact s_1|exact s_3|refine s_4 ?_|refine s_5 ?_|refine s_6 ?_|refine s_7 ?_);done)|((repeat first|exact s_0|exact s_1|exact s_3|refine s_4 ?_|refine s_5 ?_|refine s_6 ?_|refine s_8 ?_);done))) ?_
  exact H

theorem sample_c {l : List Mark} {a : Option Addr} {c : Nat} {h : Hp} {R : Ending → Hp → Prop} (hl : SlV h 2 eMark a l) (hln : l.length ≤ 10)
    (H : ∀ (ta : Option Addr) (tc : Nat) (ma : Option Addr) (mc : Nat) (G : Hp), SlotV G (sampS ta tc ma mc l) → R (.returned (.agg ⟨eSlot (sampS ta tc ma mc l)⟩)) (G ++ h)) :
    ACalls Try.prog 23 ⟨[.slice a l.length c]⟩ h R := by
  refine calls_of_xc (N := 14) Try.func23 rfl (by rfl) ?_
  refine xc_seq (xc_region ?_)
  refine xr_op rfl rfl (xv_alloc ty25 (fun b2 hb2 => ?_))
  refine xr_end rfl ?_
  refine th_n ?_
  refine xc_seq (xc_region ?_)
  refine xr_op rfl rfl (xv_build bt42 rfl (by ((try apply evl_some rfl);(repeat (first|exact (rfl : _ = [])|apply evl_cons rfl (by (first|exact v_1|exact v_2|exact v_3|exact v_4|exact v_5|exact v_6|exact v_7|exact v_8|exact v_9|exact rfl))|exact rfl)))) ?_)
  refine xr_op rfl rfl (xv_build bt42 rfl (by ((try apply evl_some rfl);(repeat (first|exact (rfl : _ = [])|apply evl_cons rfl (by (first|exact v_1|exact v_2|exact v_3|exact v_4|exact v_5|exact v_6|exact v_7|exact v_8|exact v_9|exact rfl))|exact rfl)))) ?_)
  refine xr_op rfl rfl ((al_buildSlice sl23 ty42 rfl rfl rfl rfl rfl (by ((try apply evl_some rfl);(repeat (first|exact (rfl : _ = [])|apply evl_cons rfl (by (first|exact v_1|exact v_2|exact v_3|exact v_4|exact v_5|exact v_6|exact v_7|exact v_8|exact v_9|exact rfl))|exact rfl))))).xv (fun b6 hb6 => ?_))
  refine xr_op rfl rfl (xv_assign rfl ?_)
  refine xr_end rfl ?_
  refine th_n ?_
  refine xc_seq (xc_region ?_)
  refine xr_op rfl rfl (xv_build bt54 rfl (by ((try apply evl_some rfl);(repeat (first|exact (rfl : _ = [])|apply evl_cons rfl (by (first|exact v_1|exact v_2|exact v_3|exact v_4|exact v_5|exact v_6|exact v_7|exact v_8|exact v_9|exact rfl))|exact rfl)))) ?_)
  refine xr_op rfl rfl (xv_build bt54 rfl (by ((try apply evl_some rfl);(repeat (first|exact (rfl : _ = [])|apply evl_cons rfl (by (first|exact v_1|exact v_2|exact v_3|exact v_4|exact v_5|exact v_6|exact v_7|exact v_8|exact v_9|exact rfl))|exact rfl)))) ?_)
  refine xr_op rfl rfl ((al_buildSlice sl22 ty54 rfl rfl rfl rfl rfl (by ((try apply evl_some rfl);(repeat (first|exact (rfl : _ = [])|apply evl_cons rfl (by (first|exact v_1|exact v_2|exact v_3|exact v_4|exact v_5|exact v_6|exact v_7|exact v_8|exact v_9|exact rfl))|exact rfl))))).xv (fun b9 hb9 => ?_))
  refine xr_op rfl rfl (xv_move rfl ?_)
  refine xr_op rfl rfl (xv_move rfl ?_)
  refine xr_op rfl rfl (xv_appendL (V := .at b6 2 []) (n := 2) (xs := ([⟨40, 40⟩, ⟨80, 100⟩] : List Mark).flatMap eMark) (ys := l) sl23 ty42 rfl rfl rfl rfl ⟨rfl, Nat.le_refl _, rfl⟩ (.there .here) (hl.sub (by intro z hz; ((repeat first|exact z_0|assumption|refine z_1 ?_|(refine z_l ?_;(repeat first|exact z_0|assumption|refine z_1 ?_);done)|refine z_r ?_);done))) eMark_len eMark_1 (by simp only []; omega) (by omega) (fun V hV => ?_))
  have hcn : 2 + l.length = (([⟨40, 40⟩, ⟨80, 100⟩] : List Mark) ++ l).length := by rw [List.length_append]; rfl
  have hcf : ([⟨40, 40⟩, ⟨80, 100⟩] : List Mark).flatMap eMark ++ l.flatMap eMark = (([⟨40, 40⟩, ⟨80, 100⟩] : List Mark) ++ l).flatMap eMark := by rw [List.flatMap_append]
  rw [Vec.val_ad hV, hcn, hcf]
  rw [hcn, hcf] at hV
  refine xr_op rfl rfl (xv_build bt25 rfl (by ((try apply evl_some rfl);(repeat (first|exact (rfl : _ = [])|apply evl_cons rfl (by (first|exact v_1|exact v_2|exact v_3|exact v_4|exact v_5|exact v_6|exact v_7|exact v_8|exact v_9|exact rfl))|exact rfl)))) ?_)
  refine xr_op rfl rfl (xv_s ty25 rfl rfl (by (first|(apply u_3;(repeat first|exact u_0|assumption|apply u_1|apply u_2);done)|((repeat first|exact u_0|assumption|apply u_1|apply u_2);done)|(apply u_3;apply u_3;(repeat first|exact u_0|assumption|apply u_1|apply u_2);done)|((repeat first|exact u_0|assumption|apply u_3|apply u_1);done))) (by ((try apply evl_some rfl);(repeat (first|exact (rfl : _ = [])|apply evl_cons rfl (by (first|exact v_1|exact v_2|exact v_3|exact v_4|exact v_5|exact v_6|exact v_7|exact v_8|exact v_9|exact rfl))|exact rfl)))) (by rfl) (by rfl) (by rfl) (by ((try apply evl_some rfl);(repeat (first|exact (rfl : _ = [])|apply evl_cons rfl (by (first|exact v_1|exact v_2|exact v_3|exact v_4|exact v_5|exact v_6|exact v_7|exact v_8|exact v_9|exact rfl))|exact rfl)))) ?_)
  refine xr_end rfl ?_
  refine th_n ?_
  refine xc_ret ?_
  refine body_ret (h' := (V.hp 42 ((([⟨40, 40⟩, ⟨80, 100⟩] : List Mark) ++ l).flatMap eMark) ++ (b9, .cells ⟨([⟨0, 25⟩, ⟨50, 20⟩] : List Tariff).flatMap eTariff⟩ 54) :: h)) rfl (ro_cellA ty25 rfl rfl (by ((repeat first|exact z_0|assumption|refine z_1 ?_|(refine z_l ?_;(repeat first|exact z_0|assumption|refine z_1 ?_);done)|refine z_r ?_);done)) (by rfl) (by rfl) ro_nil) (by (first|((repeat first|exact s_0|exact s_1|exact s_3|refine s_4 ?_|refine s_5 ?_|refine s_6 ?_|refine s_7 ?_);done)|((repeat first|exact s_0|exact s_1|exact s_3|refine s_4 ?_|refine s_5 ?_|refine s_6 ?_|refine s_8 ?_);done))) ?_
  (have h9 := H (some ⟨b9, 0, none⟩) 2 V.ad V.cp (V.hp 42 ((([⟨40, 40⟩, ⟨80, 100⟩] : List Mark) ++ l).flatMap eMark) ++ [(b9, .cells ⟨([⟨0, 25⟩, ⟨50, 20⟩] : List Tariff).flatMap eTariff⟩ 54)]) ⟨slvL eTariff_len (List.mem_append_right _ List.mem_cons_self), (Vec.slvA (t := 42) eMark_len rfl hV).sub (fun z hz => List.mem_append_left _ hz)⟩; rw [List.append_assoc] at h9; exact h9)

theorem PPlayE_c {s : Slot} {h : Hp} {R : Ending → Hp → Prop} (hs : SlotV h s) (hsm : Small s) {ha : Option Addr} {hc n : Nat} {hours : List Int} (hn : n = hours.length) (hh : SlV h 1 eI ha hours) (hhl : hours.length ≤ 1000) {a hr e : Int} {x : Span} (E : playA s hours = (a, x, hr, e)) (H : R (.returned (.tuple ⟨[I a, .agg ⟨eSpan x⟩, I hr, I e]⟩)) h) : ACalls Try.prog 13 ⟨[.agg ⟨eSlot s⟩, .slice ha n hc]⟩ h R := by
  subst hn
  exact PPlay_c hs hsm hh hhl (by rw [E]; exact H)
theorem PCoinsE_c {s : Slot} {h : Hp} {R : Ending → Hp → Prop} (hs : SlotV h s) (hsm : Small s) {l : List Span} (E0 : errD s = 0) (E : coinsS s = l) (H : ∀ V : Vec, V.ok 2 l.length (l.flatMap eSpan) → R (.returned (.tuple ⟨[V.val l.length, I 0]⟩)) (V.hp 30 (l.flatMap eSpan) ++ h)) : ACalls Try.prog 15 ⟨[.agg ⟨eSlot s⟩]⟩ h R := by
  subst E
  exact PCoins_c hs hsm (fun q => absurd E0 q) (fun _ => H)
theorem PLeftE_c {s : Slot} {h : Hp} {R : Ending → Hp → Prop} (hs : SlotV h s) (hsm : Small s) {x : Span} (E0 : errD s = 0) (E : leftS s = x) (H : R (.returned (.tuple ⟨[.agg ⟨eSpan x⟩, I 0]⟩)) h) : ACalls Try.prog 16 ⟨[.agg ⟨eSlot s⟩]⟩ h R := by
  subst E
  exact PLeft_c hs hsm (fun q => absurd E0 q) (fun _ => H)
theorem SpansT_c {a a2 : Option Addr} {c c2 n n2 : Nat} {xs : List Span} {h : Hp} {R : Ending → Hp → Prop} (hn : n = xs.length) (hn2 : n2 = xs.length) (hs : SlV h 2 eSpan a xs) (hs2 : SlV h 2 eSpan a2 xs) (hl : xs.length ≤ 1000000) (H : R (.returned (.bool true)) h) : ACalls Try.prog 18 ⟨[.slice a n c, .slice a2 n2 c2]⟩ h R := by
  subst hn hn2
  exact Spans_c hs hs2 hl (by omega) (by rw [decide_eq_true rfl]; exact H)

end Go.Proofs.Ytlcdbjgfeoagbaa

/-
  Walks.
-/
namespace Go.Proofs.Ytlcdbjgfeoagbaa
open Go Go.H
set_option maxRecDepth 100000
set_option maxHeartbeats 8000000
set_option linter.all false
theorem alive_c {h : Hp} {R : Ending → Hp → Prop} (H : R (.returned (.bool true)) h) : ACalls Try.prog 12 ⟨[]⟩ h R := by
  refine calls_of_xc (N := 66) Try.func12 rfl (by rfl) ?_
  refine xc_seq (xc_region ?_)
  refine xr_op rfl rfl (xv_assign rfl ?_)
  refine xr_end rfl ?_
  refine th_n ?_
  refine xc_seq (xc_region ?_)
  refine xr_op rfl rfl (xv_calls rfl hb23 (sample_c (l := []) (.inl rfl) (by decide) (fun ta tc ma mc G hsv => up_ret ?_)))
  refine xr_op rfl rfl (xv_alloc ty25 (fun c1 hc1 => ?_))
  refine xr_op rfl rfl (xv_s ty25 rfl rfl (by (first|(apply u_3;(repeat first|exact u_0|assumption|apply u_1|apply u_2);done)|((repeat first|exact u_0|assumption|apply u_1|apply u_2);done)|(apply u_3;apply u_3;(repeat first|exact u_0|assumption|apply u_1|apply u_2);done)|((repeat first|exact u_0|assumption|apply u_3|apply u_1);done))) (by ((try apply evl_some rfl);(repeat (first|exact (rfl : _ = [])|apply evl_cons rfl (by (first|exact v_1|exact v_2|exact v_3|exact v_4|exact v_5|exact v_6|exact v_7|exact v_8|exact v_9|exact rfl))|exact rfl)))) (by rfl) (by rfl) (by rfl) (by ((try apply evl_some rfl);(repeat (first|exact (rfl : _ = [])|apply evl_cons rfl (by (first|exact v_1|exact v_2|exact v_3|exact v_4|exact v_5|exact v_6|exact v_7|exact v_8|exact v_9|exact rfl))|exact rfl)))) ?_)
  refine xr_end rfl ?_
  refine th_n ?_
  refine xc_seq (xc_region ?_)
  refine xr_op rfl rfl (xv_loadA ty25 rfl rfl (by ((repeat first|exact z_0|assumption|refine z_1 ?_|(refine z_l ?_;(repeat first|exact z_0|assumption|refine z_1 ?_);done)|refine z_r ?_);done)) (by ((try apply evl_some rfl);(repeat (first|exact (rfl : _ = [])|apply evl_cons rfl (by (first|exact v_1|exact v_2|exact v_3|exact v_4|exact v_5|exact v_6|exact v_7|exact v_8|exact v_9|exact rfl))|exact rfl)))) (by rfl) ?_)
  refine xr_op rfl rfl ((al_buildSlice sl26 ty3 rfl rfl rfl rfl rfl (by ((try apply evl_some rfl);(repeat (first|exact (rfl : _ = [])|apply evl_cons rfl (by (first|exact v_1|exact v_2|exact v_3|exact v_4|exact v_5|exact v_6|exact v_7|exact v_8|exact v_9|exact rfl))|exact rfl))))).xv (fun c2 hc2 => ?_))
  refine xr_op rfl rfl (xv_calls rfl hb13 (PPlayE_c (hours := [10, 20, 30, 60, 70, 90]) (hsv.sub (by intro z hz; ((repeat first|exact z_0|assumption|refine z_1 ?_|(refine z_l ?_;(repeat first|exact z_0|assumption|refine z_1 ?_);done)|refine z_r ?_);done))) (samp_small (by decide)) rfl (slvL (xs := ([10, 20, 30, 60, 70, 90] : List Int)) eI_len (by ((repeat first|exact z_0|assumption|refine z_1 ?_|(refine z_l ?_;(repeat first|exact z_0|assumption|refine z_1 ?_);done)|refine z_r ?_);done))) (by decide) ex1 (up_ret ?_)))
  refine xr_op rfl rfl (xv_move rfl ?_)
  refine xr_op rfl rfl (xv_extract rfl rfl ?_)
  refine xr_op rfl rfl (xv_extract rfl rfl ?_)
  refine xr_op rfl rfl (xv_extract rfl rfl ?_)
  refine xr_op rfl rfl (xv_extract rfl rfl ?_)
  refine xr_op rfl rfl (xv_alloc ty30 (fun c3 hc3 => ?_))
  refine xr_op rfl rfl (xv_assign rfl ?_)
  refine xr_op rfl rfl (xv_s ty30 rfl rfl (by (first|(apply u_3;(repeat first|exact u_0|assumption|apply u_1|apply u_2);done)|((repeat first|exact u_0|assumption|apply u_1|apply u_2);done)|(apply u_3;apply u_3;(repeat first|exact u_0|assumption|apply u_1|apply u_2);done)|((repeat first|exact u_0|assumption|apply u_3|apply u_1);done))) (by ((try apply evl_some rfl);(repeat (first|exact (rfl : _ = [])|apply evl_cons rfl (by (first|exact v_1|exact v_2|exact v_3|exact v_4|exact v_5|exact v_6|exact v_7|exact v_8|exact v_9|exact rfl))|exact rfl)))) (by rfl) (by rfl) (by rfl) (by ((try apply evl_some rfl);(repeat (first|exact (rfl : _ = [])|apply evl_cons rfl (by (first|exact v_1|exact v_2|exact v_3|exact v_4|exact v_5|exact v_6|exact v_7|exact v_8|exact v_9|exact rfl))|exact rfl)))) ?_)
  refine xr_op rfl rfl (xv_assign rfl ?_)
  refine xr_op rfl rfl (xv_assign rfl ?_)
  refine xr_end rfl ?_
  refine th_n ?_
  refine xc_seq (xc_region ?_)
  refine xr_op rfl rfl (xv_loadA ty25 rfl rfl (by ((repeat first|exact z_0|assumption|refine z_1 ?_|(refine z_l ?_;(repeat first|exact z_0|assumption|refine z_1 ?_);done)|refine z_r ?_);done)) (by ((try apply evl_some rfl);(repeat (first|exact (rfl : _ = [])|apply evl_cons rfl (by (first|exact v_1|exact v_2|exact v_3|exact v_4|exact v_5|exact v_6|exact v_7|exact v_8|exact v_9|exact rfl))|exact rfl)))) (by rfl) ?_)
  refine xr_op rfl rfl (xv_calls rfl hb15 (PCoinsE_c (hsv.sub (by intro z hz; ((repeat first|exact z_0|assumption|refine z_1 ?_|(refine z_l ?_;(repeat first|exact z_0|assumption|refine z_1 ?_);done)|refine z_r ?_);done))) (samp_small (by decide)) ex2 ex3 (fun V hV => up_ret ?_)))
  refine xr_op rfl rfl (xv_move rfl ?_)
  refine xr_op rfl rfl (xv_extract rfl rfl ?_)
  refine xr_op rfl rfl (xv_extract rfl rfl ?_)
  refine xr_op rfl rfl (xv_assign rfl ?_)
  refine xr_op rfl rfl (xv_assign rfl ?_)
  refine xr_end rfl ?_
  refine th_n ?_
  refine xc_seq (xc_region ?_)
  obtain ⟨qa, qc, qv, qs⟩ := Vec.slv (enc := eSpan) (t := 30) (h := V.hp 30 (([⟨2, 6⟩, ⟨0, 4⟩] : List Span).flatMap eSpan)) (xs := ([⟨2, 6⟩, ⟨0, 4⟩] : List Span)) eSpan_len hV (fun _ hz => hz)
  rw [qv]
  refine xr_op rfl rfl (xv_build bt42 rfl (by ((try apply evl_some rfl);(repeat (first|exact (rfl : _ = [])|apply evl_cons rfl (by (first|exact v_1|exact v_2|exact v_3|exact v_4|exact v_5|exact v_6|exact v_7|exact v_8|exact v_9|exact rfl))|exact rfl)))) ?_)
  refine xr_op rfl rfl ((al_buildSlice sl23 ty42 rfl rfl rfl rfl rfl (by ((try apply evl_some rfl);(repeat (first|exact (rfl : _ = [])|apply evl_cons rfl (by (first|exact v_1|exact v_2|exact v_3|exact v_4|exact v_5|exact v_6|exact v_7|exact v_8|exact v_9|exact rfl))|exact rfl))))).xv (fun c4 hc4 => ?_))
  refine xr_op rfl rfl (xv_calls rfl hb23 (sample_c (l := [⟨100, 150⟩]) (slvL (xs := ([⟨100, 150⟩] : List Mark)) eMark_len (by ((repeat first|exact z_0|assumption|refine z_1 ?_|(refine z_l ?_;(repeat first|exact z_0|assumption|refine z_1 ?_);done)|refine z_r ?_);done))) (by decide) (fun ta2 tc2 ma2 mc2 G2 hsv2 => up_ret ?_)))
  refine xr_op rfl rfl (xv_calls rfl hb16 (PLeftE_c (hsv2.sub (by intro z hz; ((repeat first|exact z_0|assumption|refine z_1 ?_|(refine z_l ?_;(repeat first|exact z_0|assumption|refine z_1 ?_);done)|refine z_r ?_);done))) (samp_small (by decide)) ex4 ex5 (up_ret ?_)))
  refine xr_op rfl rfl (xv_move rfl ?_)
  refine xr_op rfl rfl (xv_extract rfl rfl ?_)
  refine xr_op rfl rfl (xv_extract rfl rfl ?_)
  refine xr_op rfl rfl (xv_alloc ty30 (fun c5 hc5 => ?_))
  refine xr_op rfl rfl (xv_s ty30 rfl rfl (by (first|(apply u_3;(repeat first|exact u_0|assumption|apply u_1|apply u_2);done)|((repeat first|exact u_0|assumption|apply u_1|apply u_2);done)|(apply u_3;apply u_3;(repeat first|exact u_0|assumption|apply u_1|apply u_2);done)|((repeat first|exact u_0|assumption|apply u_3|apply u_1);done))) (by ((try apply evl_some rfl);(repeat (first|exact (rfl : _ = [])|apply evl_cons rfl (by (first|exact v_1|exact v_2|exact v_3|exact v_4|exact v_5|exact v_6|exact v_7|exact v_8|exact v_9|exact rfl))|exact rfl)))) (by rfl) (by rfl) (by rfl) (by ((try apply evl_some rfl);(repeat (first|exact (rfl : _ = [])|apply evl_cons rfl (by (first|exact v_1|exact v_2|exact v_3|exact v_4|exact v_5|exact v_6|exact v_7|exact v_8|exact v_9|exact rfl))|exact rfl)))) ?_)
  refine xr_op rfl rfl (xv_assign rfl ?_)
  refine xr_end rfl ?_
  refine th_n ?_
  refine xc_seq ?_
  refine xc_draw0 [(0, .S), (1, .S), (2, .S), (3, .R), (4, .R), (5, .S), (6, .S), (7, .S), (8, .S), (9, .S), (10, .S), (11, .S), (12, .S), (13, .S), (14, .S), (15, .S), (16, .S), (17, .R), (18, .R), (19, .O), (20, .O), (21, .S), (22, .S), (23, .S), (24, .S), (25, .S), (26, .S), (27, .R), (28, .R), (29, .S), (30, .S), (31, .S), (32, .S), (33, .S), (34, .S), (35, .S)] mixed (by kernel_rfl) ?_
  refine js_S rfl rfl (.inl rfl) (xv_move rfl ⟨rfl, rfl⟩) ?_
  refine js_S rfl rfl (.inl rfl) (xv_eqlT rfl rfl rfl ⟨rfl, rfl⟩) ?_
  refine js_S rfl rfl (.inl rfl) (xv_move rfl ⟨rfl, rfl⟩) ?_
  refine js_R0 rfl rfl (.inr ⟨_, _, rfl, rfl⟩) (xv_loadA ty30 rfl rfl (by ((repeat first|exact z_0|assumption|refine z_1 ?_|(refine z_l ?_;(repeat first|exact z_0|assumption|refine z_1 ?_);done)|refine z_r ?_);done)) (by ((try apply evl_some rfl);(repeat (first|exact (rfl : _ = [])|apply evl_cons rfl (by (first|exact v_1|exact v_2|exact v_3|exact v_4|exact v_5|exact v_6|exact v_7|exact v_8|exact v_9|exact rfl))|exact rfl)))) (by rfl) ⟨rfl, rfl⟩) ?_
  refine js_R0 rfl rfl (.inr ⟨_, _, rfl, rfl⟩) (xv_calls rfl hb24 (span_c (up_ret ⟨rfl, rfl⟩))) ?_
  refine js_S rfl rfl (.inr ⟨_, _, rfl, rfl⟩) (xv_eqA (b := true) fq30 rfl eg30 rfl rfl rfl rfl (by ((repeat' first | assumption | exact numNil | refine numCons ?_ | refine numApp ?_ ?_); done)) (by ((repeat' first | assumption | exact numNil | refine numCons ?_ | refine numApp ?_ ?_); done)) (eqc_self (by ((repeat' first | assumption | exact numNil | refine numCons ?_ | refine numApp ?_ ?_); done))) ⟨rfl, rfl⟩) ?_
  refine js_S rfl rfl (.inl rfl) (xv_pick rfl rfl ⟨rfl, rfl⟩) ?_
  refine js_S rfl rfl (.inl rfl) (xv_move rfl ⟨rfl, rfl⟩) ?_
  refine js_S rfl rfl (.inr ⟨_, _, rfl, rfl⟩) (xv_move rfl ⟨rfl, rfl⟩) ?_
  refine js_S rfl rfl (.inr ⟨_, _, rfl, rfl⟩) (xv_eqlT rfl rfl rfl ⟨rfl, rfl⟩) ?_
  refine js_S rfl rfl (.inl rfl) (xv_pick rfl rfl ⟨rfl, rfl⟩) ?_
  refine js_S rfl rfl (.inl rfl) (xv_move rfl ⟨rfl, rfl⟩) ?_
  refine js_S rfl rfl (.inr ⟨_, _, rfl, rfl⟩) (xv_move rfl ⟨rfl, rfl⟩) ?_
  refine js_S rfl rfl (.inr ⟨_, _, rfl, rfl⟩) (xv_eqlT rfl rfl rfl ⟨rfl, rfl⟩) ?_
  refine js_S rfl rfl (.inl rfl) (xv_pick rfl rfl ⟨rfl, rfl⟩) ?_
  refine js_S rfl rfl (.inl rfl) (xv_move rfl ⟨rfl, rfl⟩) ?_
  refine js_S rfl rfl (.inr ⟨_, _, rfl, rfl⟩) (xv_move rfl ⟨rfl, rfl⟩) ?_
  refine js_R0 rfl rfl (.inr ⟨_, _, rfl, rfl⟩) (xv_calls rfl hb24 (span_c (up_ret ⟨rfl, rfl⟩))) ?_
  refine js_R0 rfl rfl (.inr ⟨_, _, rfl, rfl⟩) (xv_calls rfl hb24 (span_c (up_ret ⟨rfl, rfl⟩))) ?_
  refine js_O0 rfl rfl (.inr ⟨_, _, rfl, rfl⟩) ((al_buildSlice sl35 ty30 rfl rfl rfl rfl rfl (by ((try apply evl_some rfl);(repeat (first|exact (rfl : _ = [])|apply evl_cons rfl (by (first|exact v_1|exact v_2|exact v_3|exact v_4|exact v_5|exact v_6|exact v_7|exact v_8|exact v_9|exact rfl))|exact rfl))))).xv (fun c6 hc6 => ?_))
  refine js_O0 rfl rfl (.inr ⟨_, _, rfl, rfl⟩) (xv_calls rfl hb18 (SpansT_c (xs := ([⟨2, 6⟩, ⟨0, 4⟩] : List Span)) rfl rfl (qs.sub (by intro z hz; ((repeat first|exact z_0|assumption|refine z_1 ?_|(refine z_l ?_;(repeat first|exact z_0|assumption|refine z_1 ?_);done)|refine z_r ?_);done))) (slvL eSpan_len (by ((repeat first|exact z_0|assumption|refine z_1 ?_|(refine z_l ?_;(repeat first|exact z_0|assumption|refine z_1 ?_);done)|refine z_r ?_);done))) (by decide) (up_ret ?_)))
  refine js_S rfl rfl (.inl rfl) (xv_pick rfl rfl ⟨rfl, rfl⟩) ?_
  refine js_S rfl rfl (.inl rfl) (xv_move rfl ⟨rfl, rfl⟩) ?_
  refine js_S rfl rfl (.inr ⟨_, _, rfl, rfl⟩) (xv_move rfl ⟨rfl, rfl⟩) ?_
  refine js_S rfl rfl (.inr ⟨_, _, rfl, rfl⟩) (xv_eqlT rfl rfl rfl ⟨rfl, rfl⟩) ?_
  refine js_S rfl rfl (.inl rfl) (xv_pick rfl rfl ⟨rfl, rfl⟩) ?_
  refine js_S rfl rfl (.inl rfl) (xv_move rfl ⟨rfl, rfl⟩) ?_
  refine js_R0 rfl rfl (.inr ⟨_, _, rfl, rfl⟩) (xv_loadA ty30 rfl rfl (by ((repeat first|exact z_0|assumption|refine z_1 ?_|(refine z_l ?_;(repeat first|exact z_0|assumption|refine z_1 ?_);done)|refine z_r ?_);done)) (by ((try apply evl_some rfl);(repeat (first|exact (rfl : _ = [])|apply evl_cons rfl (by (first|exact v_1|exact v_2|exact v_3|exact v_4|exact v_5|exact v_6|exact v_7|exact v_8|exact v_9|exact rfl))|exact rfl)))) (by rfl) ⟨rfl, rfl⟩) ?_
  refine js_R0 rfl rfl (.inr ⟨_, _, rfl, rfl⟩) (xv_calls rfl hb24 (span_c (up_ret ⟨rfl, rfl⟩))) ?_
  refine js_S rfl rfl (.inr ⟨_, _, rfl, rfl⟩) (xv_eqA (b := true) fq30 rfl eg30 rfl rfl rfl rfl (by ((repeat' first | assumption | exact numNil | refine numCons ?_ | refine numApp ?_ ?_); done)) (by ((repeat' first | assumption | exact numNil | refine numCons ?_ | refine numApp ?_ ?_); done)) (eqc_self (by ((repeat' first | assumption | exact numNil | refine numCons ?_ | refine numApp ?_ ?_); done))) ⟨rfl, rfl⟩) ?_
  refine js_S rfl rfl (.inl rfl) (xv_pick rfl rfl ⟨rfl, rfl⟩) ?_
  refine js_S rfl rfl (.inl rfl) (xv_move rfl ⟨rfl, rfl⟩) ?_
  refine js_S rfl rfl (.inr ⟨_, _, rfl, rfl⟩) (xv_move rfl ⟨rfl, rfl⟩) ?_
  refine js_S rfl rfl (.inr ⟨_, _, rfl, rfl⟩) (xv_eqlT rfl rfl rfl ⟨rfl, rfl⟩) ?_
  refine js_S rfl rfl (.inl rfl) (xv_pick rfl rfl ⟨rfl, rfl⟩) ?_
  refine js_S rfl rfl (.inl rfl) (xv_assign rfl ⟨rfl, rfl⟩) ?_
  refine j_end0 ?_
  refine th_n ?_
  refine xc_ret ?_
  refine body_ret (h' := h) rfl (ro_tmp rfl ro_nil) (by (first|((repeat first|exact s_0|exact s_1|exact s_3|refine s_4 ?_|refine s_5 ?_|refine s_6 ?_|refine s_7 ?_);done)|((repeat first|exact s_0|exact s_1|exact s_3|refine s_4 ?_|refine s_5 ?_|refine s_6 ?_|refine s_8 ?_);done))) ?_
  exact H

end Go.Proofs.Ytlcdbjgfeoagbaa

/-
  Walks.
-/
namespace Go.Proofs.Ytlcdbjgfeoagbaa
open Go Go.H
set_option maxRecDepth 100000
set_option maxHeartbeats 8000000
set_option linter.all false
theorem Coins2_c {f : FuncId} {s : Slot} {h : Hp} {R : Ending → Hp → Prop} (hs : SlotV h s) (hsm : Small s) (hf : f = 15 ∨ f = 19) (H1 : errD s ≠ 0 → R (.returned (.tuple ⟨[.slice none 0 0, I (errD s)]⟩)) h)
    (H2 : errD s = 0 → ∀ V : Vec, V.ok 2 (coinsS s).length ((coinsS s).flatMap eSpan) → R (.returned (.tuple ⟨[.slice V.ad s.tars.length V.cp, I 0]⟩)) (V.hp 30 ((coinsS s).flatMap eSpan) ++ h)) : ACalls Try.prog f ⟨[.agg ⟨eSlot s⟩]⟩ h R := by
  have H3 : errD s = 0 → ∀ V : Vec, V.ok 2 (coinsS s).length ((coinsS s).flatMap eSpan) → R (.returned (.tuple ⟨[V.val (coinsS s).length, I 0]⟩)) (V.hp 30 ((coinsS s).flatMap eSpan) ++ h) := fun e V hV => by
    have h9 := H2 e V hV
    rw [Vec.val_ad hV, coins_len]; exact h9
  rcases hf with rfl | rfl
  · exact PCoins_c hs hsm H1 H3
  · exact RCoins_c hs hsm H1 H3
def boS (s : Slot) : Span := if errD s = 0 then boughtS s else ⟨0, 0⟩
theorem boS_0 {s : Slot} (h : errD s = 0) : boS s = boughtS s := if_pos h
theorem Bought2_c {f : FuncId} {s : Slot} {h : Hp} {R : Ending → Hp → Prop} (hs : SlotV h s) (hsm : Small s) (hf : f = 20 ∨ f = 21) (H : R (.returned (.tuple ⟨[.agg ⟨eSpan (boS s)⟩, I (errD s)]⟩)) h) : ACalls Try.prog f ⟨[.agg ⟨eSlot s⟩]⟩ h R := by
  have H1 : errD s ≠ 0 → R (.returned (.tuple ⟨[.agg ⟨eSpan ⟨0, 0⟩⟩, I (errD s)]⟩)) h := fun q => by unfold boS at H; rw [if_neg q] at H; exact H
  have H2 : errD s = 0 → R (.returned (.tuple ⟨[.agg ⟨eSpan (boughtS s)⟩, I 0]⟩)) h := fun q => by unfold boS at H; rw [if_pos q, q] at H; exact H
  rcases hf with rfl | rfl
  · exact PBought_c hs hsm H1 H2
  · exact RBought_c hs hsm H1 H2
end Go.Proofs.Ytlcdbjgfeoagbaa

/-
  Writing into a vector of one's own.
-/
set_option linter.all false
namespace Go.Proofs.Ytlcdbjgfeoagbaa
open Go Go.H
end Go.Proofs.Ytlcdbjgfeoagbaa

/-
  Walks.
-/
namespace Go.Proofs.Ytlcdbjgfeoagbaa
open Go Go.H
set_option maxRecDepth 100000
set_option maxHeartbeats 8000000
set_option linter.all false
theorem Coins4_c {f : FuncId} {s : Slot} {h : Hp} {R : Ending → Hp → Prop} (hs : SlotV h s) (hsm : Small s) (hf : f = 15 ∨ f = 19) (H : ∀ (V : Vec) (l : List Span), l = (if errD s = 0 then coinsS s else []) → l.length ≤ 1000 → V.ok 2 l.length (l.flatMap eSpan) → R (.returned (.tuple ⟨[.slice V.ad l.length V.cp, I (errD s)]⟩)) (V.hp 30 (l.flatMap eSpan) ++ h)) : ACalls Try.prog f ⟨[.agg ⟨eSlot s⟩]⟩ h R := by
  refine Coins2_c hs hsm hf (fun hed => ?_) (fun hed V hV => ?_)
  · exact H .nil [] (if_neg hed).symm (Nat.zero_le _) ⟨rfl, rfl⟩
  · have h9 := H V (coinsS s) (if_pos hed).symm (by rw [coins_len]; exact hsm.tars) hV
    rw [hed, coins_len] at h9; exact h9

end Go.Proofs.Ytlcdbjgfeoagbaa

/-
  The marks, and the pennies, in another order: nothing changes.
-/
set_option linter.all false
namespace Go.Proofs.Ytlcdbjgfeoagbaa
open Go Go.H
section
variable {α : Type} [Inhabited α]
end
section
variable {s : Slot} {ma : Option Addr} {mc : Nat} {ms : List Mark}
end
def coS (s : Slot) : List Span := if errD s = 0 then coinsS s else []
theorem errS_1' {s : Slot} : errS s = 1 ↔ ¬ GoodSlot s := by
  constructor
  · intro h hg
    unfold errS at h
    rw [if_pos hg] at h
    split at h
    · exact absurd h (by decide)
    · split at h <;> exact absurd h (by decide)
  · exact errS_1
end Go.Proofs.Ytlcdbjgfeoagbaa
