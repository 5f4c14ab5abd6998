/-
  Walks.
-/
import Derived.Test.YtckaaaebegemoaaDoorW11
namespace Go.Proofs.YtckaaaebegemoaaDoor
open Go Go.H
set_option maxRecDepth 100000
set_option maxHeartbeats 2000000
set_option linter.all false
theorem Due_c {r : Rnd} {house : Int} {h : Hp} {R : Ending → Hp → Prop} (hv : RndV h r) (hs : Small r) (hT : TurnsV h) (H : R (.returned (.tuple ⟨[I (dueAns r house).1, I (dueAns r house).2]⟩)) h) :
    ACalls Tryd.prog 19 ⟨[.agg ⟨eRnd r⟩, I house]⟩ h R := by
  refine calls_of_xc (N := 84) Tryd.func19 rfl (by rfl) ?_
  obtain ⟨tt, hTm⟩ := id hT
  refine xc_seq (xc_region ?_)
  refine xr_op rfl rfl (xv_box rfl (fun b2 hb2 => ?_))
  refine xr_op rfl rfl (xv_assign rfl ?_)
  refine xr_op rfl rfl (xv_assign rfl ?_)
  refine xr_end rfl ?_
  refine th_n ?_
  refine xc_seq (xc_region ?_)
  refine xr_op rfl rfl (xv_loadA ty25 rfl rfl (by ((repeat first|exact z_0|assumption|refine z_1 ?_|(refine z_l ?_;(repeat first|exact z_0|assumption|refine z_1 ?_);done)|refine z_r ?_);done)) (by ((try apply evl_some rfl);(repeat (first|exact (rfl : _ = [])|apply evl_cons rfl (by (first|exact v_1|exact v_2|exact v_3|exact v_4|exact v_5|exact v_6|exact v_7|exact v_8|exact v_9|exact rfl))|exact rfl)))) (by rfl) ?_)
  refine xr_op rfl rfl (xv_move rfl ?_)
  refine xr_op rfl rfl (xv_calls rfl hb32 (open_c (hrs := []) (ah := none) (ch := 0) (hv.sub (by intro z hz; ((repeat first|exact z_0|assumption|refine z_1 ?_|(refine z_l ?_;(repeat first|exact z_0|assumption|refine z_1 ?_);done)|refine z_r ?_);done))) hs (hT.sub (by intro z hz; ((repeat first|exact z_0|assumption|refine z_1 ?_|(refine z_l ?_;(repeat first|exact z_0|assumption|refine z_1 ?_);done)|refine z_r ?_);done))) (.inl rfl) (by decide) (fun hgood => up_ret ?_) (fun hgood hbad => up_ret ?_) (fun hgood hho hhr hrn => up_ret ?_) (fun bw sa sc G l hgood hho hhr hrs hG hsc => up_ret ?_)))
  · refine xr_op rfl rfl (xv_move rfl ?_)
    refine xr_op rfl rfl (xv_extract rfl rfl ?_)
    refine xr_op rfl rfl (xv_extract rfl rfl ?_)
    refine xr_op rfl rfl (xv_assign rfl ?_)
    refine xr_op rfl rfl (xv_assign rfl ?_)
    refine xr_end rfl ?_
    refine th_n ?_
    refine xc_seq (xc_region ?_)
    refine xr_op rfl rfl (xv_assign rfl ?_)
    refine xr_end rfl ?_
    refine th_n ?_
    refine xc_seq ?_
    refine xc_block ?_
    refine xc_seq (xc_region ?_)
    refine xr_op rfl rfl (xv_move rfl ?_)
    refine xr_op rfl rfl (xv_neqT rfl rfl (by decide) ?_)
    refine xr_op rfl rfl (xv_assign rfl ?_)
    refine xr_end rfl ?_
    refine th_n ?_
    refine xc_true rfl ?_
    refine xc_seq (xc_region ?_)
    refine xr_op rfl rfl (xv_move rfl ?_)
    refine xr_op rfl rfl (xv_assign rfl ?_)
    refine xr_op rfl rfl (xv_assign rfl ?_)
    refine xr_end rfl ?_
    refine th_n ?_
    refine xc_ret ?_
    refine bk_r ?_
    refine th_r ?_
    refine body_ret (h' := h) rfl (ro_tmp rfl (ro_tmp rfl ro_nil)) (by (first|((repeat first|exact s_0|exact s_1|exact s_3|refine s_4 ?_|refine s_5 ?_|refine s_6 ?_|refine s_7 ?_);done)|((repeat first|exact s_0|exact s_1|exact s_3|refine s_4 ?_|refine s_5 ?_|refine s_6 ?_|refine s_8 ?_);done))) ?_
    first | (rw [dueAns_e (start_1 hgood)] at H; exact H) | (rw [dueAns_e (start_2 hgood hbad)] at H; exact H) | (rw [dueAns_e (start_5 hgood hho hhr hrn)] at H; exact H) | (rw [dueAns_0 (start_0 hgood hho hhr hrs) (by (first | omega | (dsimp only at *; omega) | (simp at *; omega)))] at H; exact H) | (rw [dueAns_t (start_0 hgood hho hhr hrs) (List.getElem?_eq_getElem (by omega)) (by assumption)] at H; exact H) | (have hdn : dueN (dialAt r.dials house) = 1048576 := if_pos (by assumption); rw [dueAns_s (start_0 hgood hho hhr hrs) hkc (by simp [*]), hdn] at H; exact H) | (have hdn : dueN (dialAt r.dials house) = ((turnI (dialAt r.dials house).digits - 1) / ((dialAt r.dials house).rate.hi - (dialAt r.dials house).rate.lo)) := if_neg (by assumption); rw [dueAns_s (start_0 hgood hho hhr hrs) hkc (by simp [*]), hdn] at H; exact H)
  · refine xr_op rfl rfl (xv_move rfl ?_)
    refine xr_op rfl rfl (xv_extract rfl rfl ?_)
    refine xr_op rfl rfl (xv_extract rfl rfl ?_)
    refine xr_op rfl rfl (xv_assign rfl ?_)
    refine xr_op rfl rfl (xv_assign rfl ?_)
    refine xr_end rfl ?_
    refine th_n ?_
    refine xc_seq (xc_region ?_)
    refine xr_op rfl rfl (xv_assign rfl ?_)
    refine xr_end rfl ?_
    refine th_n ?_
    refine xc_seq ?_
    refine xc_block ?_
    refine xc_seq (xc_region ?_)
    refine xr_op rfl rfl (xv_move rfl ?_)
    refine xr_op rfl rfl (xv_neqT rfl rfl (by decide) ?_)
    refine xr_op rfl rfl (xv_assign rfl ?_)
    refine xr_end rfl ?_
    refine th_n ?_
    refine xc_true rfl ?_
    refine xc_seq (xc_region ?_)
    refine xr_op rfl rfl (xv_move rfl ?_)
    refine xr_op rfl rfl (xv_assign rfl ?_)
    refine xr_op rfl rfl (xv_assign rfl ?_)
    refine xr_end rfl ?_
    refine th_n ?_
    refine xc_ret ?_
    refine bk_r ?_
    refine th_r ?_
    refine body_ret (h' := h) rfl (ro_tmp rfl (ro_tmp rfl ro_nil)) (by (first|((repeat first|exact s_0|exact s_1|exact s_3|refine s_4 ?_|refine s_5 ?_|refine s_6 ?_|refine s_7 ?_);done)|((repeat first|exact s_0|exact s_1|exact s_3|refine s_4 ?_|refine s_5 ?_|refine s_6 ?_|refine s_8 ?_);done))) ?_
    first | (rw [dueAns_e (start_1 hgood)] at H; exact H) | (rw [dueAns_e (start_2 hgood hbad)] at H; exact H) | (rw [dueAns_e (start_5 hgood hho hhr hrn)] at H; exact H) | (rw [dueAns_0 (start_0 hgood hho hhr hrs) (by (first | omega | (dsimp only at *; omega) | (simp at *; omega)))] at H; exact H) | (rw [dueAns_t (start_0 hgood hho hhr hrs) (List.getElem?_eq_getElem (by omega)) (by assumption)] at H; exact H) | (have hdn : dueN (dialAt r.dials house) = 1048576 := if_pos (by assumption); rw [dueAns_s (start_0 hgood hho hhr hrs) hkc (by simp [*]), hdn] at H; exact H) | (have hdn : dueN (dialAt r.dials house) = ((turnI (dialAt r.dials house).digits - 1) / ((dialAt r.dials house).rate.hi - (dialAt r.dials house).rate.lo)) := if_neg (by assumption); rw [dueAns_s (start_0 hgood hho hhr hrs) hkc (by simp [*]), hdn] at H; exact H)
  · refine xr_op rfl rfl (xv_move rfl ?_)
    refine xr_op rfl rfl (xv_extract rfl rfl ?_)
    refine xr_op rfl rfl (xv_extract rfl rfl ?_)
    refine xr_op rfl rfl (xv_assign rfl ?_)
    refine xr_op rfl rfl (xv_assign rfl ?_)
    refine xr_end rfl ?_
    refine th_n ?_
    refine xc_seq (xc_region ?_)
    refine xr_op rfl rfl (xv_assign rfl ?_)
    refine xr_end rfl ?_
    refine th_n ?_
    refine xc_seq ?_
    refine xc_block ?_
    refine xc_seq (xc_region ?_)
    refine xr_op rfl rfl (xv_move rfl ?_)
    refine xr_op rfl rfl (xv_neqT rfl rfl (by decide) ?_)
    refine xr_op rfl rfl (xv_assign rfl ?_)
    refine xr_end rfl ?_
    refine th_n ?_
    refine xc_true rfl ?_
    refine xc_seq (xc_region ?_)
    refine xr_op rfl rfl (xv_move rfl ?_)
    refine xr_op rfl rfl (xv_assign rfl ?_)
    refine xr_op rfl rfl (xv_assign rfl ?_)
    refine xr_end rfl ?_
    refine th_n ?_
    refine xc_ret ?_
    refine bk_r ?_
    refine th_r ?_
    refine body_ret (h' := h) rfl (ro_tmp rfl (ro_tmp rfl ro_nil)) (by (first|((repeat first|exact s_0|exact s_1|exact s_3|refine s_4 ?_|refine s_5 ?_|refine s_6 ?_|refine s_7 ?_);done)|((repeat first|exact s_0|exact s_1|exact s_3|refine s_4 ?_|refine s_5 ?_|refine s_6 ?_|refine s_8 ?_);done))) ?_
    first | (rw [dueAns_e (start_1 hgood)] at H; exact H) | (rw [dueAns_e (start_2 hgood hbad)] at H; exact H) | (rw [dueAns_e (start_5 hgood hho hhr hrn)] at H; exact H) | (rw [dueAns_0 (start_0 hgood hho hhr hrs) (by (first | omega | (dsimp only at *; omega) | (simp at *; omega)))] at H; exact H) | (rw [dueAns_t (start_0 hgood hho hhr hrs) (List.getElem?_eq_getElem (by omega)) (by assumption)] at H; exact H) | (have hdn : dueN (dialAt r.dials house) = 1048576 := if_pos (by assumption); rw [dueAns_s (start_0 hgood hho hhr hrs) hkc (by simp [*]), hdn] at H; exact H) | (have hdn : dueN (dialAt r.dials house) = ((turnI (dialAt r.dials house).digits - 1) / ((dialAt r.dials house).rate.hi - (dialAt r.dials house).rate.lo)) := if_neg (by assumption); rw [dueAns_s (start_0 hgood hho hhr hrs) hkc (by simp [*]), hdn] at H; exact H)
  · refine xr_op rfl rfl (xv_move rfl ?_)
    refine xr_op rfl rfl (xv_extract rfl rfl ?_)
    refine xr_op rfl rfl (xv_extract rfl rfl ?_)
    refine xr_op rfl rfl (xv_assign rfl ?_)
    refine xr_op rfl rfl (xv_assign rfl ?_)
    refine xr_end rfl ?_
    refine th_n ?_
    refine xc_seq (xc_region ?_)
    refine xr_op rfl rfl (xv_assign rfl ?_)
    refine xr_end rfl ?_
    refine th_n ?_
    refine xc_seq ?_
    refine xc_block ?_
    refine xc_seq (xc_region ?_)
    refine xr_op rfl rfl (xv_move rfl ?_)
    refine xr_op rfl rfl (xv_neqF rfl rfl rfl ?_)
    refine xr_op rfl rfl (xv_assign rfl ?_)
    refine xr_end rfl ?_
    refine th_n ?_
    refine xc_false rfl ?_
    refine xc_seq (xc_region ?_)
    refine xr_op rfl rfl (xv_move rfl ?_)
    refine xr_op rfl rfl (xv_nilp rfl ?_)
    refine xr_op rfl rfl (xv_faddr fl74_1 rfl ?_)
    refine xr_op rfl rfl (xv_load1 ty72 rfl rfl (by ((repeat first|exact z_0|assumption|refine z_1 ?_|(refine z_l ?_;(repeat first|exact z_0|assumption|refine z_1 ?_);done)|refine z_r ?_);done)) (by rfl) ?_)
    refine xr_op rfl rfl (xv_len sl72 rfl ?_)
    refine xr_op rfl rfl (xv_eql2 rfl rfl (fun q1 => ?_) (fun q1 => ?_))
    · refine xr_op rfl rfl (xv_assign rfl ?_)
      refine xr_end rfl ?_
      refine th_n ?_
      refine xc_true rfl ?_
      refine xc_seq (xc_region ?_)
      refine xr_op rfl rfl (xv_assign rfl ?_)
      refine xr_op rfl rfl (xv_assign rfl ?_)
      refine xr_end rfl ?_
      refine th_n ?_
      refine xc_ret ?_
      refine bk_r ?_
      refine th_r ?_
      refine body_ret (h' := h) rfl (ro_tmp rfl (ro_tmp rfl ro_nil)) (by (first|((repeat first|exact s_0|exact s_1|exact s_3|refine s_4 ?_|refine s_5 ?_|refine s_6 ?_|refine s_7 ?_);done)|((repeat first|exact s_0|exact s_1|exact s_3|refine s_4 ?_|refine s_5 ?_|refine s_6 ?_|refine s_8 ?_);done))) ?_
      first | (rw [dueAns_e (start_1 hgood)] at H; exact H) | (rw [dueAns_e (start_2 hgood hbad)] at H; exact H) | (rw [dueAns_e (start_5 hgood hho hhr hrn)] at H; exact H) | (rw [dueAns_0 (start_0 hgood hho hhr hrs) (by (first | omega | (dsimp only at *; omega) | (simp at *; omega)))] at H; exact H) | (rw [dueAns_t (start_0 hgood hho hhr hrs) (List.getElem?_eq_getElem (by omega)) (by assumption)] at H; exact H) | (have hdn : dueN (dialAt r.dials house) = 1048576 := if_pos (by assumption); rw [dueAns_s (start_0 hgood hho hhr hrs) hkc (by simp [*]), hdn] at H; exact H) | (have hdn : dueN (dialAt r.dials house) = ((turnI (dialAt r.dials house).digits - 1) / ((dialAt r.dials house).rate.hi - (dialAt r.dials house).rate.lo)) := if_neg (by assumption); rw [dueAns_s (start_0 hgood hho hhr hrs) hkc (by simp [*]), hdn] at H; exact H)
    · refine xr_op rfl rfl (xv_assign rfl ?_)
      refine xr_end rfl ?_
      refine th_n ?_
      refine xc_false rfl ?_
      refine xc_seq (xc_region ?_)
      obtain ⟨hdo, hri, hll, hro⟩ := reads_ok hgood hho hrs
      obtain ⟨g1, g2, g3, g4, g5⟩ := id hdo
      have htb := turn_bd g1 g2
      refine xr_op rfl rfl (xv_move rfl ?_)
      refine xr_op rfl rfl (xv_nilp rfl ?_)
      refine xr_op rfl rfl (xv_faddr fl74_0 rfl ?_)
      refine xr_op rfl rfl (xv_faddr fl45_2 rfl ?_)
      refine xr_op rfl rfl (xv_load1 ty4 rfl rfl (by ((repeat first|exact z_0|assumption|refine z_1 ?_|(refine z_l ?_;(repeat first|exact z_0|assumption|refine z_1 ?_);done)|refine z_r ?_);done)) (by rfl) ?_)
      refine xr_op rfl rfl (xv_assign rfl ?_)
      refine xr_end rfl ?_
      refine th_n ?_
      refine xc_bool rfl (fun q2 => ?_) (fun q2 => ?_)
      · refine xc_seq (xc_region ?_)
        refine xr_op rfl rfl (xv_assign rfl ?_)
        refine xr_op rfl rfl (xv_assign rfl ?_)
        refine xr_end rfl ?_
        refine th_n ?_
        refine xc_ret ?_
        refine bk_r ?_
        refine th_r ?_
        refine body_ret (h' := h) rfl (ro_tmp rfl (ro_tmp rfl ro_nil)) (by (first|((repeat first|exact s_0|exact s_1|exact s_3|refine s_4 ?_|refine s_5 ?_|refine s_6 ?_|refine s_7 ?_);done)|((repeat first|exact s_0|exact s_1|exact s_3|refine s_4 ?_|refine s_5 ?_|refine s_6 ?_|refine s_8 ?_);done))) ?_
        first | (rw [dueAns_e (start_1 hgood)] at H; exact H) | (rw [dueAns_e (start_2 hgood hbad)] at H; exact H) | (rw [dueAns_e (start_5 hgood hho hhr hrn)] at H; exact H) | (rw [dueAns_0 (start_0 hgood hho hhr hrs) (by (first | omega | (dsimp only at *; omega) | (simp at *; omega)))] at H; exact H) | (rw [dueAns_t (start_0 hgood hho hhr hrs) (List.getElem?_eq_getElem (by omega)) (by assumption)] at H; exact H) | (have hdn : dueN (dialAt r.dials house) = 1048576 := if_pos (by assumption); rw [dueAns_s (start_0 hgood hho hhr hrs) hkc (by simp [*]), hdn] at H; exact H) | (have hdn : dueN (dialAt r.dials house) = ((turnI (dialAt r.dials house).digits - 1) / ((dialAt r.dials house).rate.hi - (dialAt r.dials house).rate.lo)) := if_neg (by assumption); rw [dueAns_s (start_0 hgood hho hhr hrs) hkc (by simp [*]), hdn] at H; exact H)
      · refine xc_seq ?_
        refine xc_draw0 [(0, .S), (1, .S), (2, .S), (3, .S), (4, .S), (5, .R), (6, .S), (7, .S), (8, .S), (9, .S), (10, .S), (11, .R), (12, .O), (13, .S)] mixed (by kernel_rfl) ?_
        refine js_S rfl rfl (.inl rfl) (xv_move rfl ⟨rfl, rfl⟩) ?_
        refine js_S rfl rfl (.inl rfl) (xv_nilp rfl ⟨rfl, rfl⟩) ?_
        refine js_S rfl rfl (.inl rfl) (xv_faddr fl74_0 rfl ⟨rfl, rfl⟩) ?_
        refine js_S rfl rfl (.inl rfl) (xv_faddr fl45_1 rfl ⟨rfl, rfl⟩) ?_
        refine js_S rfl rfl (.inl rfl) (xv_faddr fl38_0 rfl ⟨rfl, rfl⟩) ?_
        refine js_R0 rfl rfl (.inl rfl) (xv_load1 ty3 rfl rfl (by ((repeat first|exact z_0|assumption|refine z_1 ?_|(refine z_l ?_;(repeat first|exact z_0|assumption|refine z_1 ?_);done)|refine z_r ?_);done)) (by rfl) ⟨rfl, rfl⟩) ?_
        refine js_S rfl rfl (.inl rfl) (xv_move rfl ⟨rfl, rfl⟩) ?_
        refine js_S rfl rfl (.inl rfl) (xv_nilp rfl ⟨rfl, rfl⟩) ?_
        refine js_S rfl rfl (.inl rfl) (xv_faddr fl74_0 rfl ⟨rfl, rfl⟩) ?_
        refine js_S rfl rfl (.inl rfl) (xv_faddr fl45_1 rfl ⟨rfl, rfl⟩) ?_
        refine js_S rfl rfl (.inl rfl) (xv_faddr fl38_1 rfl ⟨rfl, rfl⟩) ?_
        refine js_R0 rfl rfl (.inl rfl) (xv_load1 ty3 rfl rfl (by ((repeat first|exact z_0|assumption|refine z_1 ?_|(refine z_l ?_;(repeat first|exact z_0|assumption|refine z_1 ?_);done)|refine z_r ?_);done)) (by rfl) ⟨rfl, rfl⟩) ?_
        refine js_O0 rfl rfl (.inl rfl) (xv_eql2 rfl rfl (fun hq => ?_) (fun hq => ?_))
        · refine js_S rfl rfl (.inl rfl) (xv_assign rfl ⟨rfl, rfl⟩) ?_
          refine j_end0 ?_
          refine th_n ?_
          refine xc_true rfl ?_
          refine xc_region ?_
          refine xr_op rfl rfl (xv_assign rfl ?_)
          refine xr_end rfl ?_
          refine bk_n ?_
          refine th_n ?_
          refine xc_seq ?_
          refine xc_draw0 [(0, .S), (1, .S), (2, .S), (3, .R), (4, .S), (5, .S), (6, .S), (7, .R), (8, .S), (9, .S), (10, .S), (11, .S), (12, .R), (13, .S), (14, .S), (15, .S), (16, .S), (17, .S)] mixed (by kernel_rfl) ?_
          refine js_S rfl rfl (.inl rfl) (xv_move rfl ⟨rfl, rfl⟩) ?_
          refine js_S rfl rfl (.inl rfl) (xv_nilp rfl ⟨rfl, rfl⟩) ?_
          refine js_S rfl rfl (.inl rfl) (xv_faddr fl74_1 rfl ⟨rfl, rfl⟩) ?_
          refine js_R0 rfl rfl (.inl rfl) (xv_load1 ty72 rfl rfl (by ((repeat first|exact z_0|assumption|refine z_1 ?_|(refine z_l ?_;(repeat first|exact z_0|assumption|refine z_1 ?_);done)|refine z_r ?_);done)) (by rfl) ⟨rfl, rfl⟩) ?_
          refine js_S rfl rfl (.inl rfl) (xv_move rfl ⟨rfl, rfl⟩) ?_
          refine js_S rfl rfl (.inl rfl) (xv_nilp rfl ⟨rfl, rfl⟩) ?_
          refine js_S rfl rfl (.inl rfl) (xv_faddr fl74_1 rfl ⟨rfl, rfl⟩) ?_
          refine js_R0 rfl rfl (.inl rfl) (xv_load1 ty72 rfl rfl (by ((repeat first|exact z_0|assumption|refine z_1 ?_|(refine z_l ?_;(repeat first|exact z_0|assumption|refine z_1 ?_);done)|refine z_r ?_);done)) (by rfl) ⟨rfl, rfl⟩) ?_
          refine js_S rfl rfl (.inl rfl) (xv_len sl72 rfl ⟨rfl, rfl⟩) ?_
          refine js_S rfl rfl (.inl rfl) (xv_sub rfl rfl (wrap_i64 (by (first | omega | (dsimp only at *; omega) | (simp at *; omega))) (by (first | omega | (dsimp only at *; omega) | (simp at *; omega)))) ⟨rfl, rfl⟩) ?_
          have hltc : (l.length - 1) < l.length := by (first | omega | (dsimp only at *; omega) | (simp at *; omega))
          obtain ⟨bc, oc, lc, tc, fzc, hac, hmc, hxc⟩ := (hG).at hltc
          obtain ⟨xc, hkc⟩ : ∃ qq_, l[(l.length - 1)]? = some qq_ := ⟨_, List.getElem?_eq_getElem hltc⟩
          have hoc := (hro xc (List.mem_of_getElem? hkc)).1
          unfold hourOk at hoc
          refine js_S rfl rfl (.inl rfl) (xv_ia (sz := 3) (j := l.length - 1) sl72 ty78 rfl (by rw [hac]; rfl) rfl (by (first | omega | (dsimp only at *; omega) | (simp at *; omega))) (by (first | omega | (dsimp only at *; omega) | (simp at *; omega))) (by (first | omega | (dsimp only at *; omega) | (simp at *; omega))) ⟨rfl, rfl⟩) ?_
          refine js_S rfl rfl (.inl rfl) (xv_faddr fl78_1 rfl ⟨rfl, rfl⟩) ?_
          refine js_R0 rfl rfl (.inl rfl) (xv_load1 ty3 rfl rfl (by ((repeat first|exact z_0|assumption|refine z_1 ?_|(refine z_l ?_;(repeat first|exact z_0|assumption|refine z_1 ?_);done)|refine z_r ?_);done)) (take_get (hxc (l.length - 1) xc hkc) (j := 1) rfl) ⟨rfl, rfl⟩) ?_
          refine js_S rfl rfl (.inl rfl) (xv_move rfl ⟨rfl, rfl⟩) ?_
          refine js_S rfl rfl (.inl rfl) (xv_add rfl rfl (wrap_i64 (by (first | omega | (dsimp only at *; omega) | (simp at *; omega))) (by (first | omega | (dsimp only at *; omega) | (simp at *; omega)))) ⟨rfl, rfl⟩) ?_
          refine js_S rfl rfl (.inl rfl) (xv_min rfl rfl rfl ⟨rfl, rfl⟩) ?_
          refine js_S rfl rfl (.inl rfl) (xv_assign rfl ⟨rfl, rfl⟩) ?_
          refine js_S rfl rfl (.inl rfl) (xv_assign rfl ⟨rfl, rfl⟩) ?_
          refine j_end0 ?_
          refine th_n ?_
          refine xc_ret ?_
          refine body_ret (h' := h) rfl (ro_tmp rfl (ro_tmp rfl ro_nil)) (by (first|((repeat first|exact s_0|exact s_1|exact s_3|refine s_4 ?_|refine s_5 ?_|refine s_6 ?_|refine s_7 ?_);done)|((repeat first|exact s_0|exact s_1|exact s_3|refine s_4 ?_|refine s_5 ?_|refine s_6 ?_|refine s_8 ?_);done))) ?_
          first | (rw [dueAns_e (start_1 hgood)] at H; exact H) | (rw [dueAns_e (start_2 hgood hbad)] at H; exact H) | (rw [dueAns_e (start_5 hgood hho hhr hrn)] at H; exact H) | (rw [dueAns_0 (start_0 hgood hho hhr hrs) (by (first | omega | (dsimp only at *; omega) | (simp at *; omega)))] at H; exact H) | (rw [dueAns_t (start_0 hgood hho hhr hrs) (List.getElem?_eq_getElem (by omega)) (by assumption)] at H; exact H) | (have hdn : dueN (dialAt r.dials house) = 1048576 := if_pos (by assumption); rw [dueAns_s (start_0 hgood hho hhr hrs) hkc (by simp [*]), hdn] at H; exact H) | (have hdn : dueN (dialAt r.dials house) = ((turnI (dialAt r.dials house).digits - 1) / ((dialAt r.dials house).rate.hi - (dialAt r.dials house).rate.lo)) := if_neg (by assumption); rw [dueAns_s (start_0 hgood hho hhr hrs) hkc (by simp [*]), hdn] at H; exact H)
        · refine js_S rfl rfl (.inl rfl) (xv_assign rfl ⟨rfl, rfl⟩) ?_
          refine j_end0 ?_
          refine th_n ?_
          refine xc_false rfl ?_
          refine xc_draw0 [(0, .S), (1, .S), (2, .S), (3, .S), (4, .R), (5, .S), (6, .R), (7, .S), (8, .S), (9, .S), (10, .S), (11, .S), (12, .S), (13, .R), (14, .S), (15, .S), (16, .S), (17, .S), (18, .S), (19, .R), (20, .S), (21, .S), (22, .S)] mixed (by kernel_rfl) ?_
          refine js_S rfl rfl (.inl rfl) (xv_move rfl ⟨rfl, rfl⟩) ?_
          refine js_S rfl rfl (.inl rfl) (xv_nilp rfl ⟨rfl, rfl⟩) ?_
          refine js_S rfl rfl (.inl rfl) (xv_faddr fl74_0 rfl ⟨rfl, rfl⟩) ?_
          refine js_S rfl rfl (.inl rfl) (xv_faddr fl45_0 rfl ⟨rfl, rfl⟩) ?_
          refine js_R0 rfl rfl (.inl rfl) (xv_load1 ty3 rfl rfl (by ((repeat first|exact z_0|assumption|refine z_1 ?_|(refine z_l ?_;(repeat first|exact z_0|assumption|refine z_1 ?_);done)|refine z_r ?_);done)) (by rfl) ⟨rfl, rfl⟩) ?_
          refine js_S rfl rfl (.inl rfl) (xv_iaA (sz := 1) (j := ((dialAt r.dials house).digits).toNat) Tryd.underlying82 ty3 rfl rfl rfl rfl (by (first | omega | (dsimp only at *; omega) | (simp at *; omega))) (by (first | omega | (dsimp only at *; omega) | (simp at *; omega))) ⟨rfl, rfl⟩) ?_
          refine js_R0 rfl rfl (.inl rfl) (xv_load1 ty3 rfl rfl (by ((repeat first|exact z_0|assumption|refine z_1 ?_|(refine z_l ?_;(repeat first|exact z_0|assumption|refine z_1 ?_);done)|refine z_r ?_);done)) (by rw [Nat.zero_add, Nat.mul_one]; exact turns_at (n := (dialAt r.dials house).digits) (by (first | omega | (dsimp only at *; omega) | (simp at *; omega))) (by (first | omega | (dsimp only at *; omega) | (simp at *; omega)))) ⟨rfl, rfl⟩) ?_
          refine js_S rfl rfl (.inl rfl) (xv_sub rfl rfl (wrap_i64 (by (first | omega | (dsimp only at *; omega) | (simp at *; omega))) (by (first | omega | (dsimp only at *; omega) | (simp at *; omega)))) ⟨rfl, rfl⟩) ?_
          refine js_S rfl rfl (.inl rfl) (xv_move rfl ⟨rfl, rfl⟩) ?_
          refine js_S rfl rfl (.inl rfl) (xv_nilp rfl ⟨rfl, rfl⟩) ?_
          refine js_S rfl rfl (.inl rfl) (xv_faddr fl74_0 rfl ⟨rfl, rfl⟩) ?_
          refine js_S rfl rfl (.inl rfl) (xv_faddr fl45_1 rfl ⟨rfl, rfl⟩) ?_
          refine js_S rfl rfl (.inl rfl) (xv_faddr fl38_1 rfl ⟨rfl, rfl⟩) ?_
          refine js_R0 rfl rfl (.inl rfl) (xv_load1 ty3 rfl rfl (by ((repeat first|exact z_0|assumption|refine z_1 ?_|(refine z_l ?_;(repeat first|exact z_0|assumption|refine z_1 ?_);done)|refine z_r ?_);done)) (by rfl) ⟨rfl, rfl⟩) ?_
          refine js_S rfl rfl (.inl rfl) (xv_move rfl ⟨rfl, rfl⟩) ?_
          refine js_S rfl rfl (.inl rfl) (xv_nilp rfl ⟨rfl, rfl⟩) ?_
          refine js_S rfl rfl (.inl rfl) (xv_faddr fl74_0 rfl ⟨rfl, rfl⟩) ?_
          refine js_S rfl rfl (.inl rfl) (xv_faddr fl45_1 rfl ⟨rfl, rfl⟩) ?_
          refine js_S rfl rfl (.inl rfl) (xv_faddr fl38_0 rfl ⟨rfl, rfl⟩) ?_
          refine js_R0 rfl rfl (.inl rfl) (xv_load1 ty3 rfl rfl (by ((repeat first|exact z_0|assumption|refine z_1 ?_|(refine z_l ?_;(repeat first|exact z_0|assumption|refine z_1 ?_);done)|refine z_r ?_);done)) (by rfl) ⟨rfl, rfl⟩) ?_
          refine js_S rfl rfl (.inl rfl) (xv_sub rfl rfl (wrap_i64 (by (first | omega | (dsimp only at *; omega) | (simp at *; omega))) (by (first | omega | (dsimp only at *; omega) | (simp at *; omega)))) ⟨rfl, rfl⟩) ?_
          obtain ⟨q0, q1, q2⟩ := div_bd (x := turnI (dialAt r.dials house).digits - 1) (t := (dialAt r.dials house).rate.hi - (dialAt r.dials house).rate.lo) (by omega) (by omega)
          have q3 : ((turnI (dialAt r.dials house).digits - 1) / ((dialAt r.dials house).rate.hi - (dialAt r.dials house).rate.lo)) ≤ ((turnI (dialAt r.dials house).digits - 1) / ((dialAt r.dials house).rate.hi - (dialAt r.dials house).rate.lo)) * ((dialAt r.dials house).rate.hi - (dialAt r.dials house).rate.lo) := le_mulR q0 (by omega)
          refine js_S rfl rfl (.inl rfl) (xv_quo (c := ((turnI (dialAt r.dials house).digits - 1) / ((dialAt r.dials house).rate.hi - (dialAt r.dials house).rate.lo))) rfl rfl (by omega) (by rw [Int.tdiv_eq_ediv_of_nonneg (by omega)]; exact wrap_i64 (by omega) (by omega)) ⟨rfl, rfl⟩) ?_
          refine js_S rfl rfl (.inl rfl) (xv_assign rfl ⟨rfl, rfl⟩) ?_
          refine j_end0 ?_
          refine bk_n ?_
          refine th_n ?_
          refine xc_seq ?_
          refine xc_draw0 [(0, .S), (1, .S), (2, .S), (3, .R), (4, .S), (5, .S), (6, .S), (7, .R), (8, .S), (9, .S), (10, .S), (11, .S), (12, .R), (13, .S), (14, .S), (15, .S), (16, .S), (17, .S)] mixed (by kernel_rfl) ?_
          refine js_S rfl rfl (.inl rfl) (xv_move rfl ⟨rfl, rfl⟩) ?_
          refine js_S rfl rfl (.inl rfl) (xv_nilp rfl ⟨rfl, rfl⟩) ?_
          refine js_S rfl rfl (.inl rfl) (xv_faddr fl74_1 rfl ⟨rfl, rfl⟩) ?_
          refine js_R0 rfl rfl (.inl rfl) (xv_load1 ty72 rfl rfl (by ((repeat first|exact z_0|assumption|refine z_1 ?_|(refine z_l ?_;(repeat first|exact z_0|assumption|refine z_1 ?_);done)|refine z_r ?_);done)) (by rfl) ⟨rfl, rfl⟩) ?_
          refine js_S rfl rfl (.inl rfl) (xv_move rfl ⟨rfl, rfl⟩) ?_
          refine js_S rfl rfl (.inl rfl) (xv_nilp rfl ⟨rfl, rfl⟩) ?_
          refine js_S rfl rfl (.inl rfl) (xv_faddr fl74_1 rfl ⟨rfl, rfl⟩) ?_
          refine js_R0 rfl rfl (.inl rfl) (xv_load1 ty72 rfl rfl (by ((repeat first|exact z_0|assumption|refine z_1 ?_|(refine z_l ?_;(repeat first|exact z_0|assumption|refine z_1 ?_);done)|refine z_r ?_);done)) (by rfl) ⟨rfl, rfl⟩) ?_
          refine js_S rfl rfl (.inl rfl) (xv_len sl72 rfl ⟨rfl, rfl⟩) ?_
          refine js_S rfl rfl (.inl rfl) (xv_sub rfl rfl (wrap_i64 (by (first | omega | (dsimp only at *; omega) | (simp at *; omega))) (by (first | omega | (dsimp only at *; omega) | (simp at *; omega)))) ⟨rfl, rfl⟩) ?_
          have hltc : (l.length - 1) < l.length := by (first | omega | (dsimp only at *; omega) | (simp at *; omega))
          obtain ⟨bc, oc, lc, tc, fzc, hac, hmc, hxc⟩ := (hG).at hltc
          obtain ⟨xc, hkc⟩ : ∃ qq_, l[(l.length - 1)]? = some qq_ := ⟨_, List.getElem?_eq_getElem hltc⟩
          have hoc := (hro xc (List.mem_of_getElem? hkc)).1
          unfold hourOk at hoc
          refine js_S rfl rfl (.inl rfl) (xv_ia (sz := 3) (j := l.length - 1) sl72 ty78 rfl (by rw [hac]; rfl) rfl (by (first | omega | (dsimp only at *; omega) | (simp at *; omega))) (by (first | omega | (dsimp only at *; omega) | (simp at *; omega))) (by (first | omega | (dsimp only at *; omega) | (simp at *; omega))) ⟨rfl, rfl⟩) ?_
          refine js_S rfl rfl (.inl rfl) (xv_faddr fl78_1 rfl ⟨rfl, rfl⟩) ?_
          refine js_R0 rfl rfl (.inl rfl) (xv_load1 ty3 rfl rfl (by ((repeat first|exact z_0|assumption|refine z_1 ?_|(refine z_l ?_;(repeat first|exact z_0|assumption|refine z_1 ?_);done)|refine z_r ?_);done)) (take_get (hxc (l.length - 1) xc hkc) (j := 1) rfl) ⟨rfl, rfl⟩) ?_
          refine js_S rfl rfl (.inl rfl) (xv_move rfl ⟨rfl, rfl⟩) ?_
          refine js_S rfl rfl (.inl rfl) (xv_add rfl rfl (wrap_i64 (by (first | omega | (dsimp only at *; omega) | (simp at *; omega))) (by (first | omega | (dsimp only at *; omega) | (simp at *; omega)))) ⟨rfl, rfl⟩) ?_
          refine js_S rfl rfl (.inl rfl) (xv_min rfl rfl rfl ⟨rfl, rfl⟩) ?_
          refine js_S rfl rfl (.inl rfl) (xv_assign rfl ⟨rfl, rfl⟩) ?_
          refine js_S rfl rfl (.inl rfl) (xv_assign rfl ⟨rfl, rfl⟩) ?_
          refine j_end0 ?_
          refine th_n ?_
          refine xc_ret ?_
          refine body_ret (h' := h) rfl (ro_tmp rfl (ro_tmp rfl ro_nil)) (by (first|((repeat first|exact s_0|exact s_1|exact s_3|refine s_4 ?_|refine s_5 ?_|refine s_6 ?_|refine s_7 ?_);done)|((repeat first|exact s_0|exact s_1|exact s_3|refine s_4 ?_|refine s_5 ?_|refine s_6 ?_|refine s_8 ?_);done))) ?_
          first | (rw [dueAns_e (start_1 hgood)] at H; exact H) | (rw [dueAns_e (start_2 hgood hbad)] at H; exact H) | (rw [dueAns_e (start_5 hgood hho hhr hrn)] at H; exact H) | (rw [dueAns_0 (start_0 hgood hho hhr hrs) (by (first | omega | (dsimp only at *; omega) | (simp at *; omega)))] at H; exact H) | (rw [dueAns_t (start_0 hgood hho hhr hrs) (List.getElem?_eq_getElem (by omega)) (by assumption)] at H; exact H) | (have hdn : dueN (dialAt r.dials house) = 1048576 := if_pos (by assumption); rw [dueAns_s (start_0 hgood hho hhr hrs) hkc (by simp [*]), hdn] at H; exact H) | (have hdn : dueN (dialAt r.dials house) = ((turnI (dialAt r.dials house).digits - 1) / ((dialAt r.dials house).rate.hi - (dialAt r.dials house).rate.lo)) := if_neg (by assumption); rw [dueAns_s (start_0 hgood hho hhr hrs) hkc (by simp [*]), hdn] at H; exact H)

end Go.Proofs.YtckaaaebegemoaaDoor
