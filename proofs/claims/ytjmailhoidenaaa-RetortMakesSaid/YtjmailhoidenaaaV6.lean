/-
  Walks.
-/
import Derived.Test.YtjmailhoidenaaaV5
import Derived.Test.YtjmailhoidenaaaP02f
namespace Go.Proofs.Ytjmailhoidenaaa
open Go Go.H
set_option maxRecDepth 100000
set_option maxHeartbeats 2000000
set_option linter.all false
theorem refSoonest_c {a al : Option Addr} {c cl : Nat} {w : House} {l : List Stoke} {own : Int} {h : Hp} {R : Ending → Hp → Prop} (hs : SlV h 2 eSpan a w.curve) (hlen : w.curve.length ≤ 4611686018427387904) (hl : SlV h 4 eStoke al l)
    (H1 : ∀ i e, play w l = .error (i, e) → R (.returned (.tuple ⟨[I 0, I e]⟩)) h)
    (H2 : ∀ S, play w l = .ok S → ¬ (0 ≤ own ∧ own ≤ 7) → R (.returned (.tuple ⟨[I 0, I 2]⟩)) h)
    (H3 : ∀ S e, play w l = .ok S → S.Ok l.length → (0 ≤ own ∧ own ≤ 7) → soonest w S (S.ov own.toNat) = .error e → R (.returned (.tuple ⟨[I 0, I e]⟩)) h)
    (H4 : ∀ S hour, play w l = .ok S → S.Ok l.length → (0 ≤ own ∧ own ≤ 7) → soonest w S (S.ov own.toNat) = .ok hour → R (.returned (.tuple ⟨[I hour, I 0]⟩)) h) :
    ACalls Try.prog 14 ⟨[.agg ⟨eHouse a c w⟩, .slice al l.length cl, I own]⟩ h R := by
  refine calls_of_xc (N := 81) Try.func14 rfl (by rfl) ?_
  refine xc_seq (xc_region ?_)
  refine xr_op rfl rfl (xv_box rfl (fun b3 hb3 => ?_))
  refine xr_op rfl rfl (xv_assign rfl ?_)
  refine xr_op rfl rfl (xv_assign rfl ?_)
  refine xr_end rfl ?_
  refine th_n ?_
  refine xc_seq (xc_region ?_)
  refine xr_op rfl rfl (xv_loadA ty24 rfl rfl (by (first|((repeat first|exact z_0|assumption|refine z_1 ?_|refine z_r ?_);done)|((repeat refine z_1 ?_);refine z_l ?_;(repeat first|exact z_0|assumption|refine z_1 ?_|refine z_r ?_);done)|((repeat refine z_1 ?_);refine z_r ?_;(repeat refine z_1 ?_);refine z_l ?_;(repeat first|exact z_0|assumption|refine z_1 ?_|refine z_r ?_);done)|((repeat first|exact z_0|assumption|refine z_1 ?_|refine z_l ?_);done))) (by ((try apply evl_some rfl);(repeat (first|exact (rfl : _ = [])|apply evl_cons rfl (by (first|exact v_1|exact v_2|exact v_3|exact v_4|exact v_5|exact v_6|exact v_7|exact v_8|exact v_9|exact rfl))|exact rfl)))) (by rfl) ?_)
  refine xr_op rfl rfl (xv_move rfl ?_)
  refine xr_op rfl rfl (xv_calls rfl hb12 (refPlay_c (hs.sub (by intro z hz; (first|((repeat first|exact z_0|assumption|refine z_1 ?_|refine z_r ?_);done)|((repeat refine z_1 ?_);refine z_l ?_;(repeat first|exact z_0|assumption|refine z_1 ?_|refine z_r ?_);done)|((repeat refine z_1 ?_);refine z_r ?_;(repeat refine z_1 ?_);refine z_l ?_;(repeat first|exact z_0|assumption|refine z_1 ?_|refine z_r ?_);done)|((repeat first|exact z_0|assumption|refine z_1 ?_|refine z_l ?_);done)))) hlen (hl.sub (by intro z hz; (first|((repeat first|exact z_0|assumption|refine z_1 ?_|refine z_r ?_);done)|((repeat refine z_1 ?_);refine z_l ?_;(repeat first|exact z_0|assumption|refine z_1 ?_|refine z_r ?_);done)|((repeat refine z_1 ?_);refine z_r ?_;(repeat refine z_1 ?_);refine z_l ?_;(repeat first|exact z_0|assumption|refine z_1 ?_|refine z_r ?_);done)|((repeat first|exact z_0|assumption|refine z_1 ?_|refine z_l ?_);done)))) (fun i e hpe => up_ret ?_) (fun S hpo hS => up_ret ?_)))
  · refine xr_op rfl rfl (xv_move rfl ?_)
    refine xr_op rfl rfl (xv_extract rfl rfl ?_)
    refine xr_op rfl rfl (xv_extract rfl rfl ?_)
    refine xr_op rfl rfl (xv_extract rfl rfl ?_)
    refine xr_op rfl rfl (xv_alloc ty30 (fun b8 hb8 => ?_))
    refine xr_op rfl rfl (xv_s ty30 rfl rfl (by (first|(apply u_3;(repeat first|exact u_0|assumption|apply u_1|apply u_2);done)|((repeat first|exact u_0|assumption|apply u_1|apply u_2);done)|(apply u_3;apply u_3;(repeat first|exact u_0|assumption|apply u_1|apply u_2);done)|((repeat first|exact u_0|assumption|apply u_3|apply u_1);done))) (by ((try apply evl_some rfl);(repeat (first|exact (rfl : _ = [])|apply evl_cons rfl (by (first|exact v_1|exact v_2|exact v_3|exact v_4|exact v_5|exact v_6|exact v_7|exact v_8|exact v_9|exact rfl))|exact rfl)))) (by rfl) (by rfl) (by rfl) (by ((try apply evl_some rfl);(repeat (first|exact (rfl : _ = [])|apply evl_cons rfl (by (first|exact v_1|exact v_2|exact v_3|exact v_4|exact v_5|exact v_6|exact v_7|exact v_8|exact v_9|exact rfl))|exact rfl)))) ?_)
    refine xr_op rfl rfl (xv_assign rfl ?_)
    refine xr_op rfl rfl (xv_assign rfl ?_)
    refine xr_end rfl ?_
    refine th_n ?_
    refine xc_seq ?_
    refine xc_seq (xc_region ?_)
    refine xr_op rfl rfl (xv_move rfl ?_)
    refine xr_op rfl rfl (xv_neqT rfl rfl (play_err hpe) ?_)
    refine xr_end rfl ?_
    refine th_n ?_
    refine xc_true rfl ?_
    refine xc_seq (xc_region ?_)
    refine xr_op rfl rfl (xv_move rfl ?_)
    refine xr_op rfl rfl (xv_assign rfl ?_)
    refine xr_op rfl rfl (xv_assign rfl ?_)
    refine xr_end rfl ?_
    refine th_n ?_
    refine xc_ret ?_
    refine th_r ?_
    refine body_ret (h' := h) rfl (ro_tmp rfl (ro_tmp rfl ro_nil)) (by (first|((repeat first|exact s_0|exact s_1|exact s_3|refine s_4 ?_|refine s_5 ?_|refine s_6 ?_|refine s_7 ?_);done)|((repeat first|exact s_0|exact s_1|exact s_3|refine s_4 ?_|refine s_5 ?_|refine s_6 ?_|refine s_8 ?_);done))) ?_
    first | exact H1 _ _ hpe | exact H2 S hpo hno | exact H3 S _ hpo hS hown (soonR_st (by omega)) | exact H3 S _ hpo hS hown (soonR_no hpk.1 hA2 hown hst he3) | exact H3 S _ hpo hS hown (soonR_no2 hpk.1 hA1 hown hst (by omega) he2) | exact H3 S _ hpo hS hown (soonR_no1 hpk.1 hS (by omega) hown hst (by omega) he1) | exact H4 S _ hpo hS hown (soonR_ok hpk.1 hA2 hown hst he3)
  · refine xr_op rfl rfl (xv_move rfl ?_)
    refine xr_op rfl rfl (xv_extract rfl rfl ?_)
    refine xr_op rfl rfl (xv_extract rfl rfl ?_)
    refine xr_op rfl rfl (xv_extract rfl rfl ?_)
    refine xr_op rfl rfl (xv_alloc ty30 (fun b8 hb8 => ?_))
    refine xr_op rfl rfl (xv_s ty30 rfl rfl (by (first|(apply u_3;(repeat first|exact u_0|assumption|apply u_1|apply u_2);done)|((repeat first|exact u_0|assumption|apply u_1|apply u_2);done)|(apply u_3;apply u_3;(repeat first|exact u_0|assumption|apply u_1|apply u_2);done)|((repeat first|exact u_0|assumption|apply u_3|apply u_1);done))) (by ((try apply evl_some rfl);(repeat (first|exact (rfl : _ = [])|apply evl_cons rfl (by (first|exact v_1|exact v_2|exact v_3|exact v_4|exact v_5|exact v_6|exact v_7|exact v_8|exact v_9|exact rfl))|exact rfl)))) (by rfl) (by rfl) (by rfl) (by ((try apply evl_some rfl);(repeat (first|exact (rfl : _ = [])|apply evl_cons rfl (by (first|exact v_1|exact v_2|exact v_3|exact v_4|exact v_5|exact v_6|exact v_7|exact v_8|exact v_9|exact rfl))|exact rfl)))) ?_)
    refine xr_op rfl rfl (xv_assign rfl ?_)
    refine xr_op rfl rfl (xv_assign rfl ?_)
    refine xr_end rfl ?_
    refine th_n ?_
    refine xc_seq ?_
    refine xc_seq (xc_region ?_)
    refine xr_op rfl rfl (xv_move rfl ?_)
    refine xr_op rfl rfl (xv_neqF rfl rfl rfl ?_)
    refine xr_end rfl ?_
    refine th_n ?_
    refine xc_false rfl ?_
    refine xc_skip ?_
    refine th_n ?_
    refine xc_seq ?_
    refine xc_seq (xc_region ?_)
    refine xr_op rfl rfl (xv_move rfl ?_)
    refine xr_op rfl rfl (xv_calls rfl hb28 (in_c _ _ _ (fun hol hou => up_ret ?_) (fun hno => up_ret ?_)))
    · refine xr_op rfl rfl (xv_not rfl ?_)
      refine xr_end rfl ?_
      refine th_n ?_
      refine xc_false rfl ?_
      refine xc_skip ?_
      refine th_n ?_
      refine xc_seq (xc_region ?_)
      have hown : 0 ≤ own ∧ own ≤ 7 := ⟨hol, hou⟩
      have hpk := play_ok hpo
      have hA := play_after hpo
      have hI := PlayI.of hpk.1 _ rfl (play_from hpo)
      obtain ⟨i, hi⟩ : ∃ i, own.toNat = i := ⟨_, rfl⟩
      have hi8 : own.toNat < 8 := by omega
      have hO := hA.ov _ hi8
      obtain ⟨⟨hr1, hr2, hr3⟩, ⟨ht1, ht2, ht3⟩, ⟨hc1, hc2, hc3⟩, hb1, hb2, hb3, hb4, hb5⟩ := hO
      have hrr : (S.ov own.toNat).runs ≤ w.runs := by omega
      refine xr_op rfl rfl (xv_move rfl ?_)
      refine xr_op rfl rfl (xv_iaA (sz := 5) (j := own.toNat) Try.underlying30 ty29 rfl rfl rfl rfl (by omega) (by omega) ?_)
      refine xr_op rfl rfl (xv_loadA ty29 rfl rfl (by (first|((repeat first|exact z_0|assumption|refine z_1 ?_|refine z_r ?_);done)|((repeat refine z_1 ?_);refine z_l ?_;(repeat first|exact z_0|assumption|refine z_1 ?_|refine z_r ?_);done)|((repeat refine z_1 ?_);refine z_r ?_;(repeat refine z_1 ?_);refine z_l ?_;(repeat first|exact z_0|assumption|refine z_1 ?_|refine z_r ?_);done)|((repeat first|exact z_0|assumption|refine z_1 ?_|refine z_l ?_);done))) (ov_at hi8) rfl ?_)
      refine xr_op rfl rfl (xv_alloc ty29 (fun b11 hb11 => ?_))
      refine xr_op rfl rfl (xv_s ty29 rfl rfl (by (first|(apply u_3;(repeat first|exact u_0|assumption|apply u_1|apply u_2);done)|((repeat first|exact u_0|assumption|apply u_1|apply u_2);done)|(apply u_3;apply u_3;(repeat first|exact u_0|assumption|apply u_1|apply u_2);done)|((repeat first|exact u_0|assumption|apply u_3|apply u_1);done))) (by ((try apply evl_some rfl);(repeat (first|exact (rfl : _ = [])|apply evl_cons rfl (by (first|exact v_1|exact v_2|exact v_3|exact v_4|exact v_5|exact v_6|exact v_7|exact v_8|exact v_9|exact rfl))|exact rfl)))) (by rfl) (by rfl) (by rfl) (by ((try apply evl_some rfl);(repeat (first|exact (rfl : _ = [])|apply evl_cons rfl (by (first|exact v_1|exact v_2|exact v_3|exact v_4|exact v_5|exact v_6|exact v_7|exact v_8|exact v_9|exact rfl))|exact rfl)))) ?_)
      refine xr_end rfl ?_
      refine th_n ?_
      refine xc_seq ?_
      refine xc_seq (xc_region ?_)
      refine xr_op rfl rfl (xv_faddr fl29_0 rfl ?_)
      refine xr_op rfl rfl (xv_load1 ty3 rfl rfl (by (first|((repeat first|exact z_0|assumption|refine z_1 ?_|refine z_r ?_);done)|((repeat refine z_1 ?_);refine z_l ?_;(repeat first|exact z_0|assumption|refine z_1 ?_|refine z_r ?_);done)|((repeat refine z_1 ?_);refine z_r ?_;(repeat refine z_1 ?_);refine z_l ?_;(repeat first|exact z_0|assumption|refine z_1 ?_|refine z_r ?_);done)|((repeat first|exact z_0|assumption|refine z_1 ?_|refine z_l ?_);done))) (by rfl) ?_)
      refine xr_op rfl rfl (xv_eql2 rfl rfl (fun q1 => ?_) (fun q1 => ?_))
      · refine xr_op rfl rfl (xv_move rfl ?_)
        refine xr_no rfl rfl rfl rfl ?_
        refine xr_no rfl rfl rfl rfl ?_
        refine xr_no rfl rfl rfl rfl ?_
        refine xr_op rfl rfl (xv_pick rfl rfl ?_)
        refine xr_end rfl ?_
        refine th_n ?_
        refine xc_true rfl ?_
        refine xc_seq (xc_region ?_)
        refine xr_op rfl rfl (xv_assign rfl ?_)
        refine xr_op rfl rfl (xv_assign rfl ?_)
        refine xr_end rfl ?_
        refine th_n ?_
        refine xc_ret ?_
        refine th_r ?_
        refine body_ret (h' := h) rfl (ro_tmp rfl (ro_tmp rfl ro_nil)) (by (first|((repeat first|exact s_0|exact s_1|exact s_3|refine s_4 ?_|refine s_5 ?_|refine s_6 ?_|refine s_7 ?_);done)|((repeat first|exact s_0|exact s_1|exact s_3|refine s_4 ?_|refine s_5 ?_|refine s_6 ?_|refine s_8 ?_);done))) ?_
        first | exact H1 _ _ hpe | exact H2 S hpo hno | exact H3 S _ hpo hS hown (soonR_st (by omega)) | exact H3 S _ hpo hS hown (soonR_no hpk.1 hA2 hown hst he3) | exact H3 S _ hpo hS hown (soonR_no2 hpk.1 hA1 hown hst (by omega) he2) | exact H3 S _ hpo hS hown (soonR_no1 hpk.1 hS (by omega) hown hst (by omega) he1) | exact H4 S _ hpo hS hown (soonR_ok hpk.1 hA2 hown hst he3)
      · refine xr_op rfl rfl (xv_move rfl ?_)
        refine xr_gd rfl rfl rfl (xv_faddr fl29_0 rfl ?_)
        refine xr_gd rfl rfl rfl (xv_load1 ty3 rfl rfl (by (first|((repeat first|exact z_0|assumption|refine z_1 ?_|refine z_r ?_);done)|((repeat refine z_1 ?_);refine z_l ?_;(repeat first|exact z_0|assumption|refine z_1 ?_|refine z_r ?_);done)|((repeat refine z_1 ?_);refine z_r ?_;(repeat refine z_1 ?_);refine z_l ?_;(repeat first|exact z_0|assumption|refine z_1 ?_|refine z_r ?_);done)|((repeat first|exact z_0|assumption|refine z_1 ?_|refine z_l ?_);done))) (by rfl) ?_)
        refine xr_gd rfl rfl rfl (xv_eql2 rfl rfl (fun q2 => ?_) (fun q2 => ?_))
        · refine xr_op rfl rfl (xv_pick rfl rfl ?_)
          refine xr_end rfl ?_
          refine th_n ?_
          refine xc_true rfl ?_
          refine xc_seq (xc_region ?_)
          refine xr_op rfl rfl (xv_assign rfl ?_)
          refine xr_op rfl rfl (xv_assign rfl ?_)
          refine xr_end rfl ?_
          refine th_n ?_
          refine xc_ret ?_
          refine th_r ?_
          refine body_ret (h' := h) rfl (ro_tmp rfl (ro_tmp rfl ro_nil)) (by (first|((repeat first|exact s_0|exact s_1|exact s_3|refine s_4 ?_|refine s_5 ?_|refine s_6 ?_|refine s_7 ?_);done)|((repeat first|exact s_0|exact s_1|exact s_3|refine s_4 ?_|refine s_5 ?_|refine s_6 ?_|refine s_8 ?_);done))) ?_
          first | exact H1 _ _ hpe | exact H2 S hpo hno | exact H3 S _ hpo hS hown (soonR_st (by omega)) | exact H3 S _ hpo hS hown (soonR_no hpk.1 hA2 hown hst he3) | exact H3 S _ hpo hS hown (soonR_no2 hpk.1 hA1 hown hst (by omega) he2) | exact H3 S _ hpo hS hown (soonR_no1 hpk.1 hS (by omega) hown hst (by omega) he1) | exact H4 S _ hpo hS hown (soonR_ok hpk.1 hA2 hown hst he3)
        · refine xr_op rfl rfl (xv_pick rfl rfl ?_)
          refine xr_end rfl ?_
          refine th_n ?_
          refine xc_false rfl ?_
          refine xc_skip ?_
          refine th_n ?_
          refine xc_seq (xc_region ?_)
          have hst : ¬ ((S.ov own.toNat).state = 2 ∨ (S.ov own.toNat).state = 3) := by omega
          refine xr_op rfl rfl (xv_move rfl ?_)
          refine xr_op rfl rfl (xv_assign rfl ?_)
          refine xr_op rfl rfl (xv_assign rfl ?_)
          refine xr_end rfl ?_
          refine th_n ?_
          refine xc_seq ?_
          refine xc_seq (xc_region ?_)
          refine xr_op rfl rfl (xv_faddr fl29_0 rfl ?_)
          refine xr_op rfl rfl (xv_load1 ty3 rfl rfl (by (first|((repeat first|exact z_0|assumption|refine z_1 ?_|refine z_r ?_);done)|((repeat refine z_1 ?_);refine z_l ?_;(repeat first|exact z_0|assumption|refine z_1 ?_|refine z_r ?_);done)|((repeat refine z_1 ?_);refine z_r ?_;(repeat refine z_1 ?_);refine z_l ?_;(repeat first|exact z_0|assumption|refine z_1 ?_|refine z_r ?_);done)|((repeat first|exact z_0|assumption|refine z_1 ?_|refine z_l ?_);done))) (by rfl) ?_)
          refine xr_op rfl rfl (xv_eql2 rfl rfl (fun q3 => ?_) (fun q3 => ?_))
          · refine xr_end rfl ?_
            refine th_n ?_
            refine xc_true rfl ?_
            refine xc_region ?_
            refine xr_op rfl rfl (xv_loadA ty24 rfl rfl (by (first|((repeat first|exact z_0|assumption|refine z_1 ?_|refine z_r ?_);done)|((repeat refine z_1 ?_);refine z_l ?_;(repeat first|exact z_0|assumption|refine z_1 ?_|refine z_r ?_);done)|((repeat refine z_1 ?_);refine z_r ?_;(repeat refine z_1 ?_);refine z_l ?_;(repeat first|exact z_0|assumption|refine z_1 ?_|refine z_r ?_);done)|((repeat first|exact z_0|assumption|refine z_1 ?_|refine z_l ?_);done))) (by ((try apply evl_some rfl);(repeat (first|exact (rfl : _ = [])|apply evl_cons rfl (by (first|exact v_1|exact v_2|exact v_3|exact v_4|exact v_5|exact v_6|exact v_7|exact v_8|exact v_9|exact rfl))|exact rfl)))) (by rfl) ?_)
            refine xr_op rfl rfl (xv_move rfl ?_)
            refine xr_op rfl rfl (xv_move rfl ?_)
            refine xr_op rfl rfl (xv_calls rfl hb29 (early_c (hl.sub (by intro z hz; (first|((repeat first|exact z_0|assumption|refine z_1 ?_|refine z_r ?_);done)|((repeat refine z_1 ?_);refine z_l ?_;(repeat first|exact z_0|assumption|refine z_1 ?_|refine z_r ?_);done)|((repeat refine z_1 ?_);refine z_r ?_;(repeat refine z_1 ?_);refine z_l ?_;(repeat first|exact z_0|assumption|refine z_1 ?_|refine z_r ?_);done)|((repeat first|exact z_0|assumption|refine z_1 ?_|refine z_l ?_);done)))) hpk.1 hI (by omega) (fun t1 S1 V1 he1 hV1 => up_ret ?_) (fun he1 => up_ret ?_)))
            · have hI1 := hI.snoc hpk.1 he1.2.2
              refine xr_op rfl rfl (xv_move rfl ?_)
              refine xr_op rfl rfl (xv_extract rfl rfl ?_)
              refine xr_op rfl rfl (xv_extract rfl rfl ?_)
              refine xr_op rfl rfl (xv_assign rfl ?_)
              refine xr_op rfl rfl (xv_assign rfl ?_)
              refine xr_end rfl ?_
              refine th_n ?_
              refine xc_seq ?_
              refine xc_seq (xc_region ?_)
              have hA1 := at1_emp hpk.1 hS (by omega) hown (by omega) he1
              refine xr_op rfl rfl (xv_move rfl ?_)
              refine xr_op rfl rfl (xv_move rfl ?_)
              refine xr_gd rfl rfl rfl (xv_faddr fl29_3 rfl ?_)
              refine xr_gd rfl rfl rfl (xv_load1 ty3 rfl rfl (by (first|((repeat first|exact z_0|assumption|refine z_1 ?_|refine z_r ?_);done)|((repeat refine z_1 ?_);refine z_l ?_;(repeat first|exact z_0|assumption|refine z_1 ?_|refine z_r ?_);done)|((repeat refine z_1 ?_);refine z_r ?_;(repeat refine z_1 ?_);refine z_l ?_;(repeat first|exact z_0|assumption|refine z_1 ?_|refine z_r ?_);done)|((repeat first|exact z_0|assumption|refine z_1 ?_|refine z_l ?_);done))) (by rfl) ?_)
              refine xr_gd rfl rfl rfl (xv_faddr fl24_2 rfl ?_)
              refine xr_gd rfl rfl rfl (xv_load1 ty3 rfl rfl (by (first|((repeat first|exact z_0|assumption|refine z_1 ?_|refine z_r ?_);done)|((repeat refine z_1 ?_);refine z_l ?_;(repeat first|exact z_0|assumption|refine z_1 ?_|refine z_r ?_);done)|((repeat refine z_1 ?_);refine z_r ?_;(repeat refine z_1 ?_);refine z_l ?_;(repeat first|exact z_0|assumption|refine z_1 ?_|refine z_r ?_);done)|((repeat first|exact z_0|assumption|refine z_1 ?_|refine z_l ?_);done))) (by rfl) ?_)
              refine xr_gd rfl rfl rfl (xv_eql2 rfl rfl (fun q4 => ?_) (fun q4 => ?_))
              · refine xr_op rfl rfl (xv_pick rfl rfl ?_)
                refine xr_end rfl ?_
                refine th_n ?_
                refine xc_true rfl ?_
                refine xc_region ?_
                refine xr_op rfl rfl (xv_loadA ty24 rfl rfl (by (first|((repeat first|exact z_0|assumption|refine z_1 ?_|refine z_r ?_);done)|((repeat refine z_1 ?_);refine z_l ?_;(repeat first|exact z_0|assumption|refine z_1 ?_|refine z_r ?_);done)|((repeat refine z_1 ?_);refine z_r ?_;(repeat refine z_1 ?_);refine z_l ?_;(repeat first|exact z_0|assumption|refine z_1 ?_|refine z_r ?_);done)|((repeat first|exact z_0|assumption|refine z_1 ?_|refine z_l ?_);done))) (by ((try apply evl_some rfl);(repeat (first|exact (rfl : _ = [])|apply evl_cons rfl (by (first|exact v_1|exact v_2|exact v_3|exact v_4|exact v_5|exact v_6|exact v_7|exact v_8|exact v_9|exact rfl))|exact rfl)))) (by rfl) ?_)
                refine xr_op rfl rfl (xv_move rfl ?_)
                refine xr_op rfl rfl (xv_move rfl ?_)
                refine xr_op rfl rfl (xv_calls rfl hb29 (earlyV_c (l := (l ++ [stk own 1 t1])) (S := S1) hV1 rfl (by intro z hz; (first|((repeat first|exact z_0|assumption|refine z_1 ?_|refine z_r ?_);done)|((repeat refine z_1 ?_);refine z_l ?_;(repeat first|exact z_0|assumption|refine z_1 ?_|refine z_r ?_);done)|((repeat refine z_1 ?_);refine z_r ?_;(repeat refine z_1 ?_);refine z_l ?_;(repeat first|exact z_0|assumption|refine z_1 ?_|refine z_r ?_);done)|((repeat first|exact z_0|assumption|refine z_1 ?_|refine z_l ?_);done))) hpk.1 hI1 (by simp; omega) (fun t2 S2 V2 he2 hV2 => up_ret ?_) (fun he2 => up_ret ?_)))
                · have hI2 := hI1.snoc hpk.1 he2.2.2
                  refine xr_op rfl rfl (xv_move rfl ?_)
                  refine xr_op rfl rfl (xv_extract rfl rfl ?_)
                  refine xr_op rfl rfl (xv_extract rfl rfl ?_)
                  refine xr_op rfl rfl (xv_assign rfl ?_)
                  refine xr_op rfl rfl (xv_assign rfl ?_)
                  refine xr_end rfl ?_
                  refine th_n ?_
                  refine xc_seq ?_
                  refine xc_seq (xc_region ?_)
                  have hA2 := at2_sc hpk.1 hA1 hown (by omega) he2
                  refine xr_op rfl rfl (xv_move rfl ?_)
                  refine xr_end rfl ?_
                  refine th_n ?_
                  refine xc_true rfl ?_
                  refine xc_region ?_
                  refine xr_op rfl rfl (xv_loadA ty24 rfl rfl (by (first|((repeat first|exact z_0|assumption|refine z_1 ?_|refine z_r ?_);done)|((repeat refine z_1 ?_);refine z_l ?_;(repeat first|exact z_0|assumption|refine z_1 ?_|refine z_r ?_);done)|((repeat refine z_1 ?_);refine z_r ?_;(repeat refine z_1 ?_);refine z_l ?_;(repeat first|exact z_0|assumption|refine z_1 ?_|refine z_r ?_);done)|((repeat first|exact z_0|assumption|refine z_1 ?_|refine z_l ?_);done))) (by ((try apply evl_some rfl);(repeat (first|exact (rfl : _ = [])|apply evl_cons rfl (by (first|exact v_1|exact v_2|exact v_3|exact v_4|exact v_5|exact v_6|exact v_7|exact v_8|exact v_9|exact rfl))|exact rfl)))) (by rfl) ?_)
                  refine xr_op rfl rfl (xv_move rfl ?_)
                  refine xr_op rfl rfl (xv_move rfl ?_)
                  refine xr_op rfl rfl (xv_calls rfl hb29 (earlyV_c (l := ((l ++ [stk own 1 t1]) ++ [stk own 2 t2])) (S := S2) hV2 rfl (by intro z hz; (first|((repeat first|exact z_0|assumption|refine z_1 ?_|refine z_r ?_);done)|((repeat refine z_1 ?_);refine z_l ?_;(repeat first|exact z_0|assumption|refine z_1 ?_|refine z_r ?_);done)|((repeat refine z_1 ?_);refine z_r ?_;(repeat refine z_1 ?_);refine z_l ?_;(repeat first|exact z_0|assumption|refine z_1 ?_|refine z_r ?_);done)|((repeat first|exact z_0|assumption|refine z_1 ?_|refine z_l ?_);done))) hpk.1 hI2 (by simp; omega) (fun t3 S3 V3 he3 hV3 => up_ret ?_) (fun he3 => up_ret ?_)))
                  · refine xr_op rfl rfl (xv_move rfl ?_)
                    refine xr_op rfl rfl (xv_extract rfl rfl ?_)
                    refine xr_op rfl rfl (xv_extract rfl rfl ?_)
                    refine xr_op rfl rfl (xv_assign rfl ?_)
                    refine xr_op rfl rfl (xv_assign rfl ?_)
                    refine xr_end rfl ?_
                    refine th_n ?_
                    refine xc_seq ?_
                    refine xc_seq (xc_region ?_)
                    refine xr_op rfl rfl (xv_move rfl ?_)
                    refine xr_op rfl rfl (xv_not rfl ?_)
                    refine xr_end rfl ?_
                    refine th_n ?_
                    refine xc_false rfl ?_
                    refine xc_skip ?_
                    refine th_n ?_
                    refine xc_seq (xc_region ?_)
                    refine xr_op rfl rfl (xv_move rfl ?_)
                    refine xr_op rfl rfl (xv_move rfl ?_)
                    refine xr_op rfl rfl (xv_lenV sl25 hV3 rfl ?_)
                    refine xr_op rfl rfl (xv_sub rfl rfl (wrap_i64 (by (first | omega | (dsimp only at *; omega) | (simp at *; omega))) (by (first | omega | (dsimp only at *; omega) | (simp at *; omega)))) ?_)
                    obtain ⟨b, cap, ls, tt, fz, hve, hmv, hlv⟩ := last_at hV3 rfl (h := V3.hp 48 ((((l ++ [stk own 1 t1]) ++ [stk own 2 t2]) ++ [stk own 0 t3]).flatMap eStoke)) (fun _ hz => hz)
                    refine xr_op rfl rfl (xv_ia (sz := 4) (j := ((l ++ [stk own 1 t1]) ++ [stk own 2 t2]).length) sl25 ty48 rfl (by rw [hve]; rfl) rfl (by simp <;> omega) (by simp <;> omega) (by simp <;> omega) ?_)
                    refine xr_op rfl rfl (xv_faddr fl48_0 rfl ?_)
                    refine xr_op rfl rfl (xv_load1 ty3 rfl rfl (by (first|((repeat first|exact z_0|assumption|refine z_1 ?_|refine z_r ?_);done)|((repeat refine z_1 ?_);refine z_l ?_;(repeat first|exact z_0|assumption|refine z_1 ?_|refine z_r ?_);done)|((repeat refine z_1 ?_);refine z_r ?_;(repeat refine z_1 ?_);refine z_l ?_;(repeat first|exact z_0|assumption|refine z_1 ?_|refine z_r ?_);done)|((repeat first|exact z_0|assumption|refine z_1 ?_|refine z_l ?_);done))) hlv ?_)
                    refine xr_op rfl rfl (xv_assign rfl ?_)
                    refine xr_op rfl rfl (xv_assign rfl ?_)
                    refine xr_end rfl ?_
                    refine th_n ?_
                    refine xc_ret ?_
                    refine body_ret (h' := h) rfl (ro_tmp rfl (ro_tmp rfl ro_nil)) (by (first|((repeat first|exact s_0|exact s_1|exact s_3|refine s_4 ?_|refine s_5 ?_|refine s_6 ?_|refine s_7 ?_);done)|((repeat first|exact s_0|exact s_1|exact s_3|refine s_4 ?_|refine s_5 ?_|refine s_6 ?_|refine s_8 ?_);done))) ?_
                    first | exact H1 _ _ hpe | exact H2 S hpo hno | exact H3 S _ hpo hS hown (soonR_st (by omega)) | exact H3 S _ hpo hS hown (soonR_no hpk.1 hA2 hown hst he3) | exact H3 S _ hpo hS hown (soonR_no2 hpk.1 hA1 hown hst (by omega) he2) | exact H3 S _ hpo hS hown (soonR_no1 hpk.1 hS (by omega) hown hst (by omega) he1) | exact H4 S _ hpo hS hown (soonR_ok hpk.1 hA2 hown hst he3)
                  · refine xr_op rfl rfl (xv_move rfl ?_)
                    refine xr_op rfl rfl (xv_extract rfl rfl ?_)
                    refine xr_op rfl rfl (xv_extract rfl rfl ?_)
                    refine xr_op rfl rfl (xv_assign rfl ?_)
                    refine xr_op rfl rfl (xv_assign rfl ?_)
                    refine xr_end rfl ?_
                    refine th_n ?_
                    refine xc_seq ?_
                    refine xc_seq (xc_region ?_)
                    refine xr_op rfl rfl (xv_move rfl ?_)
                    refine xr_op rfl rfl (xv_not rfl ?_)
                    refine xr_end rfl ?_
                    refine th_n ?_
                    refine xc_true rfl ?_
                    refine xc_seq (xc_region ?_)
                    refine xr_op rfl rfl (xv_assign rfl ?_)
                    refine xr_op rfl rfl (xv_assign rfl ?_)
                    refine xr_end rfl ?_
                    refine th_n ?_
                    refine xc_ret ?_
                    refine th_r ?_
                    refine body_ret (h' := h) rfl (ro_tmp rfl (ro_tmp rfl ro_nil)) (by (first|((repeat first|exact s_0|exact s_1|exact s_3|refine s_4 ?_|refine s_5 ?_|refine s_6 ?_|refine s_7 ?_);done)|((repeat first|exact s_0|exact s_1|exact s_3|refine s_4 ?_|refine s_5 ?_|refine s_6 ?_|refine s_8 ?_);done))) ?_
                    first | exact H1 _ _ hpe | exact H2 S hpo hno | exact H3 S _ hpo hS hown (soonR_st (by omega)) | exact H3 S _ hpo hS hown (soonR_no hpk.1 hA2 hown hst he3) | exact H3 S _ hpo hS hown (soonR_no2 hpk.1 hA1 hown hst (by omega) he2) | exact H3 S _ hpo hS hown (soonR_no1 hpk.1 hS (by omega) hown hst (by omega) he1) | exact H4 S _ hpo hS hown (soonR_ok hpk.1 hA2 hown hst he3)
                · refine xr_op rfl rfl (xv_move rfl ?_)
                  refine xr_op rfl rfl (xv_extract rfl rfl ?_)
                  refine xr_op rfl rfl (xv_extract rfl rfl ?_)
                  refine xr_op rfl rfl (xv_assign rfl ?_)
                  refine xr_op rfl rfl (xv_assign rfl ?_)
                  refine xr_end rfl ?_
                  refine th_n ?_
                  refine xc_seq ?_
                  refine xc_seq (xc_region ?_)
                  refine xr_op rfl rfl (xv_move rfl ?_)
                  refine xr_end rfl ?_
                  refine th_n ?_
                  refine xc_false rfl ?_
                  refine xc_skip ?_
                  refine th_n ?_
                  refine xc_seq ?_
                  refine xc_seq (xc_region ?_)
                  refine xr_op rfl rfl (xv_move rfl ?_)
                  refine xr_op rfl rfl (xv_not rfl ?_)
                  refine xr_end rfl ?_
                  refine th_n ?_
                  refine xc_true rfl ?_
                  refine xc_seq (xc_region ?_)
                  refine xr_op rfl rfl (xv_assign rfl ?_)
                  refine xr_op rfl rfl (xv_assign rfl ?_)
                  refine xr_end rfl ?_
                  refine th_n ?_
                  refine xc_ret ?_
                  refine th_r ?_
                  refine body_ret (h' := h) rfl (ro_tmp rfl (ro_tmp rfl ro_nil)) (by (first|((repeat first|exact s_0|exact s_1|exact s_3|refine s_4 ?_|refine s_5 ?_|refine s_6 ?_|refine s_7 ?_);done)|((repeat first|exact s_0|exact s_1|exact s_3|refine s_4 ?_|refine s_5 ?_|refine s_6 ?_|refine s_8 ?_);done))) ?_
                  first | exact H1 _ _ hpe | exact H2 S hpo hno | exact H3 S _ hpo hS hown (soonR_st (by omega)) | exact H3 S _ hpo hS hown (soonR_no hpk.1 hA2 hown hst he3) | exact H3 S _ hpo hS hown (soonR_no2 hpk.1 hA1 hown hst (by omega) he2) | exact H3 S _ hpo hS hown (soonR_no1 hpk.1 hS (by omega) hown hst (by omega) he1) | exact H4 S _ hpo hS hown (soonR_ok hpk.1 hA2 hown hst he3)
              · refine xr_op rfl rfl (xv_pick rfl rfl ?_)
                refine xr_end rfl ?_
                refine th_n ?_
                refine xc_false rfl ?_
                refine xc_skip ?_
                refine th_n ?_
                refine xc_seq ?_
                refine xc_seq (xc_region ?_)
                have hA2 := at2_no hA1 hrr (by omega)
                refine xr_op rfl rfl (xv_move rfl ?_)
                refine xr_end rfl ?_
                refine th_n ?_
                refine xc_true rfl ?_
                refine xc_region ?_
                refine xr_op rfl rfl (xv_loadA ty24 rfl rfl (by (first|((repeat first|exact z_0|assumption|refine z_1 ?_|refine z_r ?_);done)|((repeat refine z_1 ?_);refine z_l ?_;(repeat first|exact z_0|assumption|refine z_1 ?_|refine z_r ?_);done)|((repeat refine z_1 ?_);refine z_r ?_;(repeat refine z_1 ?_);refine z_l ?_;(repeat first|exact z_0|assumption|refine z_1 ?_|refine z_r ?_);done)|((repeat first|exact z_0|assumption|refine z_1 ?_|refine z_l ?_);done))) (by ((try apply evl_some rfl);(repeat (first|exact (rfl : _ = [])|apply evl_cons rfl (by (first|exact v_1|exact v_2|exact v_3|exact v_4|exact v_5|exact v_6|exact v_7|exact v_8|exact v_9|exact rfl))|exact rfl)))) (by rfl) ?_)
                refine xr_op rfl rfl (xv_move rfl ?_)
                refine xr_op rfl rfl (xv_move rfl ?_)
                refine xr_op rfl rfl (xv_calls rfl hb29 (earlyV_c (l := (l ++ [stk own 1 t1])) (S := S1) hV1 rfl (by intro z hz; (first|((repeat first|exact z_0|assumption|refine z_1 ?_|refine z_r ?_);done)|((repeat refine z_1 ?_);refine z_l ?_;(repeat first|exact z_0|assumption|refine z_1 ?_|refine z_r ?_);done)|((repeat refine z_1 ?_);refine z_r ?_;(repeat refine z_1 ?_);refine z_l ?_;(repeat first|exact z_0|assumption|refine z_1 ?_|refine z_r ?_);done)|((repeat first|exact z_0|assumption|refine z_1 ?_|refine z_l ?_);done))) hpk.1 hI1 (by simp; omega) (fun t3 S3 V3 he3 hV3 => up_ret ?_) (fun he3 => up_ret ?_)))
                · refine xr_op rfl rfl (xv_move rfl ?_)
                  refine xr_op rfl rfl (xv_extract rfl rfl ?_)
                  refine xr_op rfl rfl (xv_extract rfl rfl ?_)
                  refine xr_op rfl rfl (xv_assign rfl ?_)
                  refine xr_op rfl rfl (xv_assign rfl ?_)
                  refine xr_end rfl ?_
                  refine th_n ?_
                  refine xc_seq ?_
                  refine xc_seq (xc_region ?_)
                  refine xr_op rfl rfl (xv_move rfl ?_)
                  refine xr_op rfl rfl (xv_not rfl ?_)
                  refine xr_end rfl ?_
                  refine th_n ?_
                  refine xc_false rfl ?_
                  refine xc_skip ?_
                  refine th_n ?_
                  refine xc_seq (xc_region ?_)
                  refine xr_op rfl rfl (xv_move rfl ?_)
                  refine xr_op rfl rfl (xv_move rfl ?_)
                  refine xr_op rfl rfl (xv_lenV sl25 hV3 rfl ?_)
                  refine xr_op rfl rfl (xv_sub rfl rfl (wrap_i64 (by (first | omega | (dsimp only at *; omega) | (simp at *; omega))) (by (first | omega | (dsimp only at *; omega) | (simp at *; omega)))) ?_)
                  obtain ⟨b, cap, ls, tt, fz, hve, hmv, hlv⟩ := last_at hV3 rfl (h := V3.hp 48 (((l ++ [stk own 1 t1]) ++ [stk own 0 t3]).flatMap eStoke)) (fun _ hz => hz)
                  refine xr_op rfl rfl (xv_ia (sz := 4) (j := (l ++ [stk own 1 t1]).length) sl25 ty48 rfl (by rw [hve]; rfl) rfl (by simp <;> omega) (by simp <;> omega) (by simp <;> omega) ?_)
                  refine xr_op rfl rfl (xv_faddr fl48_0 rfl ?_)
                  refine xr_op rfl rfl (xv_load1 ty3 rfl rfl (by (first|((repeat first|exact z_0|assumption|refine z_1 ?_|refine z_r ?_);done)|((repeat refine z_1 ?_);refine z_l ?_;(repeat first|exact z_0|assumption|refine z_1 ?_|refine z_r ?_);done)|((repeat refine z_1 ?_);refine z_r ?_;(repeat refine z_1 ?_);refine z_l ?_;(repeat first|exact z_0|assumption|refine z_1 ?_|refine z_r ?_);done)|((repeat first|exact z_0|assumption|refine z_1 ?_|refine z_l ?_);done))) hlv ?_)
                  refine xr_op rfl rfl (xv_assign rfl ?_)
                  refine xr_op rfl rfl (xv_assign rfl ?_)
                  refine xr_end rfl ?_
                  refine th_n ?_
                  refine xc_ret ?_
                  refine body_ret (h' := h) rfl (ro_tmp rfl (ro_tmp rfl ro_nil)) (by (first|((repeat first|exact s_0|exact s_1|exact s_3|refine s_4 ?_|refine s_5 ?_|refine s_6 ?_|refine s_7 ?_);done)|((repeat first|exact s_0|exact s_1|exact s_3|refine s_4 ?_|refine s_5 ?_|refine s_6 ?_|refine s_8 ?_);done))) ?_
                  first | exact H1 _ _ hpe | exact H2 S hpo hno | exact H3 S _ hpo hS hown (soonR_st (by omega)) | exact H3 S _ hpo hS hown (soonR_no hpk.1 hA2 hown hst he3) | exact H3 S _ hpo hS hown (soonR_no2 hpk.1 hA1 hown hst (by omega) he2) | exact H3 S _ hpo hS hown (soonR_no1 hpk.1 hS (by omega) hown hst (by omega) he1) | exact H4 S _ hpo hS hown (soonR_ok hpk.1 hA2 hown hst he3)
                · refine xr_op rfl rfl (xv_move rfl ?_)
                  refine xr_op rfl rfl (xv_extract rfl rfl ?_)
                  refine xr_op rfl rfl (xv_extract rfl rfl ?_)
                  refine xr_op rfl rfl (xv_assign rfl ?_)
                  refine xr_op rfl rfl (xv_assign rfl ?_)
                  refine xr_end rfl ?_
                  refine th_n ?_
                  refine xc_seq ?_
                  refine xc_seq (xc_region ?_)
                  refine xr_op rfl rfl (xv_move rfl ?_)
                  refine xr_op rfl rfl (xv_not rfl ?_)
                  refine xr_end rfl ?_
                  refine th_n ?_
                  refine xc_true rfl ?_
                  refine xc_seq (xc_region ?_)
                  refine xr_op rfl rfl (xv_assign rfl ?_)
                  refine xr_op rfl rfl (xv_assign rfl ?_)
                  refine xr_end rfl ?_
                  refine th_n ?_
                  refine xc_ret ?_
                  refine th_r ?_
                  refine body_ret (h' := h) rfl (ro_tmp rfl (ro_tmp rfl ro_nil)) (by (first|((repeat first|exact s_0|exact s_1|exact s_3|refine s_4 ?_|refine s_5 ?_|refine s_6 ?_|refine s_7 ?_);done)|((repeat first|exact s_0|exact s_1|exact s_3|refine s_4 ?_|refine s_5 ?_|refine s_6 ?_|refine s_8 ?_);done))) ?_
                  first | exact H1 _ _ hpe | exact H2 S hpo hno | exact H3 S _ hpo hS hown (soonR_st (by omega)) | exact H3 S _ hpo hS hown (soonR_no hpk.1 hA2 hown hst he3) | exact H3 S _ hpo hS hown (soonR_no2 hpk.1 hA1 hown hst (by omega) he2) | exact H3 S _ hpo hS hown (soonR_no1 hpk.1 hS (by omega) hown hst (by omega) he1) | exact H4 S _ hpo hS hown (soonR_ok hpk.1 hA2 hown hst he3)
            · refine xr_op rfl rfl (xv_move rfl ?_)
              refine xr_op rfl rfl (xv_extract rfl rfl ?_)
              refine xr_op rfl rfl (xv_extract rfl rfl ?_)
              refine xr_op rfl rfl (xv_assign rfl ?_)
              refine xr_op rfl rfl (xv_assign rfl ?_)
              refine xr_end rfl ?_
              refine th_n ?_
              refine xc_seq ?_
              refine xc_seq (xc_region ?_)
              refine xr_op rfl rfl (xv_move rfl ?_)
              refine xr_op rfl rfl (xv_move rfl ?_)
              refine xr_no rfl rfl rfl rfl ?_
              refine xr_no rfl rfl rfl rfl ?_
              refine xr_no rfl rfl rfl rfl ?_
              refine xr_no rfl rfl rfl rfl ?_
              refine xr_no rfl rfl rfl rfl ?_
              refine xr_op rfl rfl (xv_pick rfl rfl ?_)
              refine xr_end rfl ?_
              refine th_n ?_
              refine xc_false rfl ?_
              refine xc_skip ?_
              refine th_n ?_
              refine xc_seq ?_
              refine xc_seq (xc_region ?_)
              refine xr_op rfl rfl (xv_move rfl ?_)
              refine xr_end rfl ?_
              refine th_n ?_
              refine xc_false rfl ?_
              refine xc_skip ?_
              refine th_n ?_
              refine xc_seq ?_
              refine xc_seq (xc_region ?_)
              refine xr_op rfl rfl (xv_move rfl ?_)
              refine xr_op rfl rfl (xv_not rfl ?_)
              refine xr_end rfl ?_
              refine th_n ?_
              refine xc_true rfl ?_
              refine xc_seq (xc_region ?_)
              refine xr_op rfl rfl (xv_assign rfl ?_)
              refine xr_op rfl rfl (xv_assign rfl ?_)
              refine xr_end rfl ?_
              refine th_n ?_
              refine xc_ret ?_
              refine th_r ?_
              refine body_ret (h' := h) rfl (ro_tmp rfl (ro_tmp rfl ro_nil)) (by (first|((repeat first|exact s_0|exact s_1|exact s_3|refine s_4 ?_|refine s_5 ?_|refine s_6 ?_|refine s_7 ?_);done)|((repeat first|exact s_0|exact s_1|exact s_3|refine s_4 ?_|refine s_5 ?_|refine s_6 ?_|refine s_8 ?_);done))) ?_
              first | exact H1 _ _ hpe | exact H2 S hpo hno | exact H3 S _ hpo hS hown (soonR_st (by omega)) | exact H3 S _ hpo hS hown (soonR_no hpk.1 hA2 hown hst he3) | exact H3 S _ hpo hS hown (soonR_no2 hpk.1 hA1 hown hst (by omega) he2) | exact H3 S _ hpo hS hown (soonR_no1 hpk.1 hS (by omega) hown hst (by omega) he1) | exact H4 S _ hpo hS hown (soonR_ok hpk.1 hA2 hown hst he3)
          · refine xr_end rfl ?_
            refine th_n ?_
            refine xc_false rfl ?_
            refine xc_skip ?_
            refine th_n ?_
            refine xc_seq ?_
            refine xc_seq (xc_region ?_)
            have hA1 := at1_hot (w := w) hS (by omega) hown (by omega)
            refine xr_op rfl rfl (xv_move rfl ?_)
            refine xr_op rfl rfl (xv_move rfl ?_)
            refine xr_gd rfl rfl rfl (xv_faddr fl29_3 rfl ?_)
            refine xr_gd rfl rfl rfl (xv_load1 ty3 rfl rfl (by (first|((repeat first|exact z_0|assumption|refine z_1 ?_|refine z_r ?_);done)|((repeat refine z_1 ?_);refine z_l ?_;(repeat first|exact z_0|assumption|refine z_1 ?_|refine z_r ?_);done)|((repeat refine z_1 ?_);refine z_r ?_;(repeat refine z_1 ?_);refine z_l ?_;(repeat first|exact z_0|assumption|refine z_1 ?_|refine z_r ?_);done)|((repeat first|exact z_0|assumption|refine z_1 ?_|refine z_l ?_);done))) (by rfl) ?_)
            refine xr_gd rfl rfl rfl (xv_faddr fl24_2 rfl ?_)
            refine xr_gd rfl rfl rfl (xv_load1 ty3 rfl rfl (by (first|((repeat first|exact z_0|assumption|refine z_1 ?_|refine z_r ?_);done)|((repeat refine z_1 ?_);refine z_l ?_;(repeat first|exact z_0|assumption|refine z_1 ?_|refine z_r ?_);done)|((repeat refine z_1 ?_);refine z_r ?_;(repeat refine z_1 ?_);refine z_l ?_;(repeat first|exact z_0|assumption|refine z_1 ?_|refine z_r ?_);done)|((repeat first|exact z_0|assumption|refine z_1 ?_|refine z_l ?_);done))) (by rfl) ?_)
            refine xr_gd rfl rfl rfl (xv_eql2 rfl rfl (fun q5 => ?_) (fun q5 => ?_))
            · refine xr_op rfl rfl (xv_pick rfl rfl ?_)
              refine xr_end rfl ?_
              refine th_n ?_
              refine xc_true rfl ?_
              refine xc_region ?_
              refine xr_op rfl rfl (xv_loadA ty24 rfl rfl (by (first|((repeat first|exact z_0|assumption|refine z_1 ?_|refine z_r ?_);done)|((repeat refine z_1 ?_);refine z_l ?_;(repeat first|exact z_0|assumption|refine z_1 ?_|refine z_r ?_);done)|((repeat refine z_1 ?_);refine z_r ?_;(repeat refine z_1 ?_);refine z_l ?_;(repeat first|exact z_0|assumption|refine z_1 ?_|refine z_r ?_);done)|((repeat first|exact z_0|assumption|refine z_1 ?_|refine z_l ?_);done))) (by ((try apply evl_some rfl);(repeat (first|exact (rfl : _ = [])|apply evl_cons rfl (by (first|exact v_1|exact v_2|exact v_3|exact v_4|exact v_5|exact v_6|exact v_7|exact v_8|exact v_9|exact rfl))|exact rfl)))) (by rfl) ?_)
              refine xr_op rfl rfl (xv_move rfl ?_)
              refine xr_op rfl rfl (xv_move rfl ?_)
              refine xr_op rfl rfl (xv_calls rfl hb29 (early_c (hl.sub (by intro z hz; (first|((repeat first|exact z_0|assumption|refine z_1 ?_|refine z_r ?_);done)|((repeat refine z_1 ?_);refine z_l ?_;(repeat first|exact z_0|assumption|refine z_1 ?_|refine z_r ?_);done)|((repeat refine z_1 ?_);refine z_r ?_;(repeat refine z_1 ?_);refine z_l ?_;(repeat first|exact z_0|assumption|refine z_1 ?_|refine z_r ?_);done)|((repeat first|exact z_0|assumption|refine z_1 ?_|refine z_l ?_);done)))) hpk.1 hI (by omega) (fun t2 S2 V2 he2 hV2 => up_ret ?_) (fun he2 => up_ret ?_)))
              · have hI2 := hI.snoc hpk.1 he2.2.2
                refine xr_op rfl rfl (xv_move rfl ?_)
                refine xr_op rfl rfl (xv_extract rfl rfl ?_)
                refine xr_op rfl rfl (xv_extract rfl rfl ?_)
                refine xr_op rfl rfl (xv_assign rfl ?_)
                refine xr_op rfl rfl (xv_assign rfl ?_)
                refine xr_end rfl ?_
                refine th_n ?_
                refine xc_seq ?_
                refine xc_seq (xc_region ?_)
                have hA2 := at2_sc hpk.1 hA1 hown (by omega) he2
                refine xr_op rfl rfl (xv_move rfl ?_)
                refine xr_end rfl ?_
                refine th_n ?_
                refine xc_true rfl ?_
                refine xc_region ?_
                refine xr_op rfl rfl (xv_loadA ty24 rfl rfl (by (first|((repeat first|exact z_0|assumption|refine z_1 ?_|refine z_r ?_);done)|((repeat refine z_1 ?_);refine z_l ?_;(repeat first|exact z_0|assumption|refine z_1 ?_|refine z_r ?_);done)|((repeat refine z_1 ?_);refine z_r ?_;(repeat refine z_1 ?_);refine z_l ?_;(repeat first|exact z_0|assumption|refine z_1 ?_|refine z_r ?_);done)|((repeat first|exact z_0|assumption|refine z_1 ?_|refine z_l ?_);done))) (by ((try apply evl_some rfl);(repeat (first|exact (rfl : _ = [])|apply evl_cons rfl (by (first|exact v_1|exact v_2|exact v_3|exact v_4|exact v_5|exact v_6|exact v_7|exact v_8|exact v_9|exact rfl))|exact rfl)))) (by rfl) ?_)
                refine xr_op rfl rfl (xv_move rfl ?_)
                refine xr_op rfl rfl (xv_move rfl ?_)
                refine xr_op rfl rfl (xv_calls rfl hb29 (earlyV_c (l := (l ++ [stk own 2 t2])) (S := S2) hV2 rfl (by intro z hz; (first|((repeat first|exact z_0|assumption|refine z_1 ?_|refine z_r ?_);done)|((repeat refine z_1 ?_);refine z_l ?_;(repeat first|exact z_0|assumption|refine z_1 ?_|refine z_r ?_);done)|((repeat refine z_1 ?_);refine z_r ?_;(repeat refine z_1 ?_);refine z_l ?_;(repeat first|exact z_0|assumption|refine z_1 ?_|refine z_r ?_);done)|((repeat first|exact z_0|assumption|refine z_1 ?_|refine z_l ?_);done))) hpk.1 hI2 (by simp; omega) (fun t3 S3 V3 he3 hV3 => up_ret ?_) (fun he3 => up_ret ?_)))
                · refine xr_op rfl rfl (xv_move rfl ?_)
                  refine xr_op rfl rfl (xv_extract rfl rfl ?_)
                  refine xr_op rfl rfl (xv_extract rfl rfl ?_)
                  refine xr_op rfl rfl (xv_assign rfl ?_)
                  refine xr_op rfl rfl (xv_assign rfl ?_)
                  refine xr_end rfl ?_
                  refine th_n ?_
                  refine xc_seq ?_
                  refine xc_seq (xc_region ?_)
                  refine xr_op rfl rfl (xv_move rfl ?_)
                  refine xr_op rfl rfl (xv_not rfl ?_)
                  refine xr_end rfl ?_
                  refine th_n ?_
                  refine xc_false rfl ?_
                  refine xc_skip ?_
                  refine th_n ?_
                  refine xc_seq (xc_region ?_)
                  refine xr_op rfl rfl (xv_move rfl ?_)
                  refine xr_op rfl rfl (xv_move rfl ?_)
                  refine xr_op rfl rfl (xv_lenV sl25 hV3 rfl ?_)
                  refine xr_op rfl rfl (xv_sub rfl rfl (wrap_i64 (by (first | omega | (dsimp only at *; omega) | (simp at *; omega))) (by (first | omega | (dsimp only at *; omega) | (simp at *; omega)))) ?_)
                  obtain ⟨b, cap, ls, tt, fz, hve, hmv, hlv⟩ := last_at hV3 rfl (h := V3.hp 48 (((l ++ [stk own 2 t2]) ++ [stk own 0 t3]).flatMap eStoke)) (fun _ hz => hz)
                  refine xr_op rfl rfl (xv_ia (sz := 4) (j := (l ++ [stk own 2 t2]).length) sl25 ty48 rfl (by rw [hve]; rfl) rfl (by simp <;> omega) (by simp <;> omega) (by simp <;> omega) ?_)
                  refine xr_op rfl rfl (xv_faddr fl48_0 rfl ?_)
                  refine xr_op rfl rfl (xv_load1 ty3 rfl rfl (by (first|((repeat first|exact z_0|assumption|refine z_1 ?_|refine z_r ?_);done)|((repeat refine z_1 ?_);refine z_l ?_;(repeat first|exact z_0|assumption|refine z_1 ?_|refine z_r ?_);done)|((repeat refine z_1 ?_);refine z_r ?_;(repeat refine z_1 ?_);refine z_l ?_;(repeat first|exact z_0|assumption|refine z_1 ?_|refine z_r ?_);done)|((repeat first|exact z_0|assumption|refine z_1 ?_|refine z_l ?_);done))) hlv ?_)
                  refine xr_op rfl rfl (xv_assign rfl ?_)
                  refine xr_op rfl rfl (xv_assign rfl ?_)
                  refine xr_end rfl ?_
                  refine th_n ?_
                  refine xc_ret ?_
                  refine body_ret (h' := h) rfl (ro_tmp rfl (ro_tmp rfl ro_nil)) (by (first|((repeat first|exact s_0|exact s_1|exact s_3|refine s_4 ?_|refine s_5 ?_|refine s_6 ?_|refine s_7 ?_);done)|((repeat first|exact s_0|exact s_1|exact s_3|refine s_4 ?_|refine s_5 ?_|refine s_6 ?_|refine s_8 ?_);done))) ?_
                  first | exact H1 _ _ hpe | exact H2 S hpo hno | exact H3 S _ hpo hS hown (soonR_st (by omega)) | exact H3 S _ hpo hS hown (soonR_no hpk.1 hA2 hown hst he3) | exact H3 S _ hpo hS hown (soonR_no2 hpk.1 hA1 hown hst (by omega) he2) | exact H3 S _ hpo hS hown (soonR_no1 hpk.1 hS (by omega) hown hst (by omega) he1) | exact H4 S _ hpo hS hown (soonR_ok hpk.1 hA2 hown hst he3)
                · refine xr_op rfl rfl (xv_move rfl ?_)
                  refine xr_op rfl rfl (xv_extract rfl rfl ?_)
                  refine xr_op rfl rfl (xv_extract rfl rfl ?_)
                  refine xr_op rfl rfl (xv_assign rfl ?_)
                  refine xr_op rfl rfl (xv_assign rfl ?_)
                  refine xr_end rfl ?_
                  refine th_n ?_
                  refine xc_seq ?_
                  refine xc_seq (xc_region ?_)
                  refine xr_op rfl rfl (xv_move rfl ?_)
                  refine xr_op rfl rfl (xv_not rfl ?_)
                  refine xr_end rfl ?_
                  refine th_n ?_
                  refine xc_true rfl ?_
                  refine xc_seq (xc_region ?_)
                  refine xr_op rfl rfl (xv_assign rfl ?_)
                  refine xr_op rfl rfl (xv_assign rfl ?_)
                  refine xr_end rfl ?_
                  refine th_n ?_
                  refine xc_ret ?_
                  refine th_r ?_
                  refine body_ret (h' := h) rfl (ro_tmp rfl (ro_tmp rfl ro_nil)) (by (first|((repeat first|exact s_0|exact s_1|exact s_3|refine s_4 ?_|refine s_5 ?_|refine s_6 ?_|refine s_7 ?_);done)|((repeat first|exact s_0|exact s_1|exact s_3|refine s_4 ?_|refine s_5 ?_|refine s_6 ?_|refine s_8 ?_);done))) ?_
                  first | exact H1 _ _ hpe | exact H2 S hpo hno | exact H3 S _ hpo hS hown (soonR_st (by omega)) | exact H3 S _ hpo hS hown (soonR_no hpk.1 hA2 hown hst he3) | exact H3 S _ hpo hS hown (soonR_no2 hpk.1 hA1 hown hst (by omega) he2) | exact H3 S _ hpo hS hown (soonR_no1 hpk.1 hS (by omega) hown hst (by omega) he1) | exact H4 S _ hpo hS hown (soonR_ok hpk.1 hA2 hown hst he3)
              · refine xr_op rfl rfl (xv_move rfl ?_)
                refine xr_op rfl rfl (xv_extract rfl rfl ?_)
                refine xr_op rfl rfl (xv_extract rfl rfl ?_)
                refine xr_op rfl rfl (xv_assign rfl ?_)
                refine xr_op rfl rfl (xv_assign rfl ?_)
                refine xr_end rfl ?_
                refine th_n ?_
                refine xc_seq ?_
                refine xc_seq (xc_region ?_)
                refine xr_op rfl rfl (xv_move rfl ?_)
                refine xr_end rfl ?_
                refine th_n ?_
                refine xc_false rfl ?_
                refine xc_skip ?_
                refine th_n ?_
                refine xc_seq ?_
                refine xc_seq (xc_region ?_)
                refine xr_op rfl rfl (xv_move rfl ?_)
                refine xr_op rfl rfl (xv_not rfl ?_)
                refine xr_end rfl ?_
                refine th_n ?_
                refine xc_true rfl ?_
                refine xc_seq (xc_region ?_)
                refine xr_op rfl rfl (xv_assign rfl ?_)
                refine xr_op rfl rfl (xv_assign rfl ?_)
                refine xr_end rfl ?_
                refine th_n ?_
                refine xc_ret ?_
                refine th_r ?_
                refine body_ret (h' := h) rfl (ro_tmp rfl (ro_tmp rfl ro_nil)) (by (first|((repeat first|exact s_0|exact s_1|exact s_3|refine s_4 ?_|refine s_5 ?_|refine s_6 ?_|refine s_7 ?_);done)|((repeat first|exact s_0|exact s_1|exact s_3|refine s_4 ?_|refine s_5 ?_|refine s_6 ?_|refine s_8 ?_);done))) ?_
                first | exact H1 _ _ hpe | exact H2 S hpo hno | exact H3 S _ hpo hS hown (soonR_st (by omega)) | exact H3 S _ hpo hS hown (soonR_no hpk.1 hA2 hown hst he3) | exact H3 S _ hpo hS hown (soonR_no2 hpk.1 hA1 hown hst (by omega) he2) | exact H3 S _ hpo hS hown (soonR_no1 hpk.1 hS (by omega) hown hst (by omega) he1) | exact H4 S _ hpo hS hown (soonR_ok hpk.1 hA2 hown hst he3)
            · refine xr_op rfl rfl (xv_pick rfl rfl ?_)
              refine xr_end rfl ?_
              refine th_n ?_
              refine xc_false rfl ?_
              refine xc_skip ?_
              refine th_n ?_
              refine xc_seq ?_
              refine xc_seq (xc_region ?_)
              have hA2 := at2_no hA1 hrr (by omega)
              refine xr_op rfl rfl (xv_move rfl ?_)
              refine xr_end rfl ?_
              refine th_n ?_
              refine xc_true rfl ?_
              refine xc_region ?_
              refine xr_op rfl rfl (xv_loadA ty24 rfl rfl (by (first|((repeat first|exact z_0|assumption|refine z_1 ?_|refine z_r ?_);done)|((repeat refine z_1 ?_);refine z_l ?_;(repeat first|exact z_0|assumption|refine z_1 ?_|refine z_r ?_);done)|((repeat refine z_1 ?_);refine z_r ?_;(repeat refine z_1 ?_);refine z_l ?_;(repeat first|exact z_0|assumption|refine z_1 ?_|refine z_r ?_);done)|((repeat first|exact z_0|assumption|refine z_1 ?_|refine z_l ?_);done))) (by ((try apply evl_some rfl);(repeat (first|exact (rfl : _ = [])|apply evl_cons rfl (by (first|exact v_1|exact v_2|exact v_3|exact v_4|exact v_5|exact v_6|exact v_7|exact v_8|exact v_9|exact rfl))|exact rfl)))) (by rfl) ?_)
              refine xr_op rfl rfl (xv_move rfl ?_)
              refine xr_op rfl rfl (xv_move rfl ?_)
              refine xr_op rfl rfl (xv_calls rfl hb29 (early_c (hl.sub (by intro z hz; (first|((repeat first|exact z_0|assumption|refine z_1 ?_|refine z_r ?_);done)|((repeat refine z_1 ?_);refine z_l ?_;(repeat first|exact z_0|assumption|refine z_1 ?_|refine z_r ?_);done)|((repeat refine z_1 ?_);refine z_r ?_;(repeat refine z_1 ?_);refine z_l ?_;(repeat first|exact z_0|assumption|refine z_1 ?_|refine z_r ?_);done)|((repeat first|exact z_0|assumption|refine z_1 ?_|refine z_l ?_);done)))) hpk.1 hI (by omega) (fun t3 S3 V3 he3 hV3 => up_ret ?_) (fun he3 => up_ret ?_)))
              · refine xr_op rfl rfl (xv_move rfl ?_)
                refine xr_op rfl rfl (xv_extract rfl rfl ?_)
                refine xr_op rfl rfl (xv_extract rfl rfl ?_)
                refine xr_op rfl rfl (xv_assign rfl ?_)
                refine xr_op rfl rfl (xv_assign rfl ?_)
                refine xr_end rfl ?_
                refine th_n ?_
                refine xc_seq ?_
                refine xc_seq (xc_region ?_)
                refine xr_op rfl rfl (xv_move rfl ?_)
                refine xr_op rfl rfl (xv_not rfl ?_)
                refine xr_end rfl ?_
                refine th_n ?_
                refine xc_false rfl ?_
                refine xc_skip ?_
                refine th_n ?_
                refine xc_seq (xc_region ?_)
                refine xr_op rfl rfl (xv_move rfl ?_)
                refine xr_op rfl rfl (xv_move rfl ?_)
                refine xr_op rfl rfl (xv_lenV sl25 hV3 rfl ?_)
                refine xr_op rfl rfl (xv_sub rfl rfl (wrap_i64 (by (first | omega | (dsimp only at *; omega) | (simp at *; omega))) (by (first | omega | (dsimp only at *; omega) | (simp at *; omega)))) ?_)
                obtain ⟨b, cap, ls, tt, fz, hve, hmv, hlv⟩ := last_at hV3 rfl (h := V3.hp 48 ((l ++ [stk own 0 t3]).flatMap eStoke)) (fun _ hz => hz)
                refine xr_op rfl rfl (xv_ia (sz := 4) (j := l.length) sl25 ty48 rfl (by rw [hve]; rfl) rfl (by simp <;> omega) (by simp <;> omega) (by simp <;> omega) ?_)
                refine xr_op rfl rfl (xv_faddr fl48_0 rfl ?_)
                refine xr_op rfl rfl (xv_load1 ty3 rfl rfl (by (first|((repeat first|exact z_0|assumption|refine z_1 ?_|refine z_r ?_);done)|((repeat refine z_1 ?_);refine z_l ?_;(repeat first|exact z_0|assumption|refine z_1 ?_|refine z_r ?_);done)|((repeat refine z_1 ?_);refine z_r ?_;(repeat refine z_1 ?_);refine z_l ?_;(repeat first|exact z_0|assumption|refine z_1 ?_|refine z_r ?_);done)|((repeat first|exact z_0|assumption|refine z_1 ?_|refine z_l ?_);done))) hlv ?_)
                refine xr_op rfl rfl (xv_assign rfl ?_)
                refine xr_op rfl rfl (xv_assign rfl ?_)
                refine xr_end rfl ?_
                refine th_n ?_
                refine xc_ret ?_
                refine body_ret (h' := h) rfl (ro_tmp rfl (ro_tmp rfl ro_nil)) (by (first|((repeat first|exact s_0|exact s_1|exact s_3|refine s_4 ?_|refine s_5 ?_|refine s_6 ?_|refine s_7 ?_);done)|((repeat first|exact s_0|exact s_1|exact s_3|refine s_4 ?_|refine s_5 ?_|refine s_6 ?_|refine s_8 ?_);done))) ?_
                first | exact H1 _ _ hpe | exact H2 S hpo hno | exact H3 S _ hpo hS hown (soonR_st (by omega)) | exact H3 S _ hpo hS hown (soonR_no hpk.1 hA2 hown hst he3) | exact H3 S _ hpo hS hown (soonR_no2 hpk.1 hA1 hown hst (by omega) he2) | exact H3 S _ hpo hS hown (soonR_no1 hpk.1 hS (by omega) hown hst (by omega) he1) | exact H4 S _ hpo hS hown (soonR_ok hpk.1 hA2 hown hst he3)
              · refine xr_op rfl rfl (xv_move rfl ?_)
                refine xr_op rfl rfl (xv_extract rfl rfl ?_)
                refine xr_op rfl rfl (xv_extract rfl rfl ?_)
                refine xr_op rfl rfl (xv_assign rfl ?_)
                refine xr_op rfl rfl (xv_assign rfl ?_)
                refine xr_end rfl ?_
                refine th_n ?_
                refine xc_seq ?_
                refine xc_seq (xc_region ?_)
                refine xr_op rfl rfl (xv_move rfl ?_)
                refine xr_op rfl rfl (xv_not rfl ?_)
                refine xr_end rfl ?_
                refine th_n ?_
                refine xc_true rfl ?_
                refine xc_seq (xc_region ?_)
                refine xr_op rfl rfl (xv_assign rfl ?_)
                refine xr_op rfl rfl (xv_assign rfl ?_)
                refine xr_end rfl ?_
                refine th_n ?_
                refine xc_ret ?_
                refine th_r ?_
                refine body_ret (h' := h) rfl (ro_tmp rfl (ro_tmp rfl ro_nil)) (by (first|((repeat first|exact s_0|exact s_1|exact s_3|refine s_4 ?_|refine s_5 ?_|refine s_6 ?_|refine s_7 ?_);done)|((repeat first|exact s_0|exact s_1|exact s_3|refine s_4 ?_|refine s_5 ?_|refine s_6 ?_|refine s_8 ?_);done))) ?_
                first | exact H1 _ _ hpe | exact H2 S hpo hno | exact H3 S _ hpo hS hown (soonR_st (by omega)) | exact H3 S _ hpo hS hown (soonR_no hpk.1 hA2 hown hst he3) | exact H3 S _ hpo hS hown (soonR_no2 hpk.1 hA1 hown hst (by omega) he2) | exact H3 S _ hpo hS hown (soonR_no1 hpk.1 hS (by omega) hown hst (by omega) he1) | exact H4 S _ hpo hS hown (soonR_ok hpk.1 hA2 hown hst he3)
    · refine xr_op rfl rfl (xv_not rfl ?_)
      refine xr_end rfl ?_
      refine th_n ?_
      refine xc_true rfl ?_
      refine xc_seq (xc_region ?_)
      refine xr_op rfl rfl (xv_assign rfl ?_)
      refine xr_op rfl rfl (xv_assign rfl ?_)
      refine xr_end rfl ?_
      refine th_n ?_
      refine xc_ret ?_
      refine th_r ?_
      refine body_ret (h' := h) rfl (ro_tmp rfl (ro_tmp rfl ro_nil)) (by (first|((repeat first|exact s_0|exact s_1|exact s_3|refine s_4 ?_|refine s_5 ?_|refine s_6 ?_|refine s_7 ?_);done)|((repeat first|exact s_0|exact s_1|exact s_3|refine s_4 ?_|refine s_5 ?_|refine s_6 ?_|refine s_8 ?_);done))) ?_
      first | exact H1 _ _ hpe | exact H2 S hpo hno | exact H3 S _ hpo hS hown (soonR_st (by omega)) | exact H3 S _ hpo hS hown (soonR_no hpk.1 hA2 hown hst he3) | exact H3 S _ hpo hS hown (soonR_no2 hpk.1 hA1 hown hst (by omega) he2) | exact H3 S _ hpo hS hown (soonR_no1 hpk.1 hS (by omega) hown hst (by omega) he1) | exact H4 S _ hpo hS hown (soonR_ok hpk.1 hA2 hown hst he3)

end Go.Proofs.Ytjmailhoidenaaa
