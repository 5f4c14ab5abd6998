/-
  Walks.
-/
import Derived.Test.YtckaaaebegemoaaDoorW18
import Derived.Test.YtckaaaebegemoaaDoorW13
namespace Go.Proofs.YtckaaaebegemoaaDoor
open Go Go.H
set_option maxRecDepth 100000
set_option maxHeartbeats 2000000
set_option linter.all false
theorem start_c {r : Rnd} {house f t : Int} {h : Hp} {R : Ending → Hp → Prop} (hv : RndV h r) (hs : Small r)
    (H1 : ¬ GoodRnd r → R (.returned (.tuple ⟨[.slice none 0 0, I 1]⟩)) h) (H2 : GoodRnd r → ¬ (houseOk r house ∧ HoursOk [f, t]) → R (.returned (.tuple ⟨[.slice none 0 0, I 2]⟩)) h) (H3 : GoodRnd r → houseOk r house → HoursOk [f, t] → readL r.cards house = none → R (.returned (.tuple ⟨[.slice none 0 0, I 5]⟩)) h)
    (H4 : ∀ sa sc G l, GoodRnd r → houseOk r house → HoursOk [f, t] → readL r.cards house = some l → SlV G 3 eCard sa l → l.length ≤ sc → R (.returned (.tuple ⟨[.slice sa l.length sc, I 0]⟩)) (G ++ h)) :
    ACalls Tryd.prog 34 ⟨[.agg ⟨eRnd r⟩, I house, I f, I t]⟩ h R := by
  refine calls_of_xc (N := 41) Tryd.func34 rfl (by rfl) ?_
  have hs2 := hs.cards
  have hs1 := hs.dials
  refine xc_seq (xc_region ?_)
  refine xr_op rfl rfl (xv_box rfl (fun b4 hb4 => ?_))
  refine xr_op rfl rfl (xv_assign rfl ?_)
  refine xr_op rfl rfl (xv_assign rfl ?_)
  refine xr_end rfl ?_
  refine th_n ?_
  refine xc_seq ?_
  refine xc_seq (xc_region ?_)
  refine xr_op rfl rfl (xv_loadA ty25 rfl rfl (by ((repeat first|exact z_0|assumption|refine z_1 ?_|(refine z_l ?_;(repeat first|exact z_0|assumption|refine z_1 ?_);done)|refine z_r ?_);done)) (by ((try apply evl_some rfl);(repeat (first|exact (rfl : _ = [])|apply evl_cons rfl (by (first|exact v_1|exact v_2|exact v_3|exact v_4|exact v_5|exact v_6|exact v_7|exact v_8|exact v_9|exact rfl))|exact rfl)))) (by rfl) ?_)
  refine xr_op rfl rfl (xv_calls rfl hb28 (Round_c (hv.sub (by intro z hz; ((repeat first|exact z_0|assumption|refine z_1 ?_|(refine z_l ?_;(repeat first|exact z_0|assumption|refine z_1 ?_);done)|refine z_r ?_);done))) hs (fun hgood => up_ret ?_) (fun hgood => up_ret ?_)))
  · refine xr_op rfl rfl (xv_not rfl ?_)
    refine xr_end rfl ?_
    refine th_n ?_
    refine xc_false rfl ?_
    refine xc_skip ?_
    refine th_n ?_
    refine xc_seq ?_
    refine xc_seq (xc_region ?_)
    refine xr_op rfl rfl (xv_move rfl ?_)
    refine xr_op rfl rfl (xv_faddr fl25_0 rfl ?_)
    refine xr_op rfl rfl (xv_load1 ty22 rfl rfl (by ((repeat first|exact z_0|assumption|refine z_1 ?_|(refine z_l ?_;(repeat first|exact z_0|assumption|refine z_1 ?_);done)|refine z_r ?_);done)) (by rfl) ?_)
    refine xr_op rfl rfl (xv_len sl22 rfl ?_)
    refine xr_op rfl rfl (xv_sub rfl rfl (wrap_i64 (by (first | omega | (dsimp only at *; omega) | (simp at *; omega))) (by (first | omega | (dsimp only at *; omega) | (simp at *; omega)))) ?_)
    refine xr_op rfl rfl (xv_calls rfl hb39 (in_c _ _ _ (fun hl1 hu2 => up_ret ?_) (fun hn3 => up_ret ?_)))
    · refine xr_op rfl rfl (xv_not rfl ?_)
      refine xr_op rfl rfl (xv_move rfl ?_)
      refine xr_gd rfl rfl rfl (xv_move rfl ?_)
      refine xr_gd rfl rfl rfl (xv_calls rfl hb39 (in_c _ _ _ (fun hl4 hu5 => up_ret ?_) (fun hn6 => up_ret ?_)))
      · refine xr_gd rfl rfl rfl (xv_not rfl ?_)
        refine xr_op rfl rfl (xv_pick rfl rfl ?_)
        refine xr_op rfl rfl (xv_move rfl ?_)
        refine xr_gd rfl rfl rfl (xv_move rfl ?_)
        refine xr_gd rfl rfl rfl (xv_calls rfl hb39 (in_c _ _ _ (fun hl7 hu8 => up_ret ?_) (fun hn9 => up_ret ?_)))
        · refine xr_gd rfl rfl rfl (xv_not rfl ?_)
          refine xr_op rfl rfl (xv_pick rfl rfl ?_)
          refine xr_end rfl ?_
          refine th_n ?_
          refine xc_false rfl ?_
          refine xc_skip ?_
          refine th_n ?_
          refine xc_seq (xc_region ?_)
          have hho : houseOk r house := ⟨by omega, by omega⟩
          have hhr : HoursOk [f, t] := fun x hx => by
            simp only [List.mem_cons, List.not_mem_nil, or_false] at hx
            rcases hx with rfl | rfl <;> exact ⟨by omega, by omega⟩
          refine xr_op rfl rfl (xv_loadA ty25 rfl rfl (by ((repeat first|exact z_0|assumption|refine z_1 ?_|(refine z_l ?_;(repeat first|exact z_0|assumption|refine z_1 ?_);done)|refine z_r ?_);done)) (by ((try apply evl_some rfl);(repeat (first|exact (rfl : _ = [])|apply evl_cons rfl (by (first|exact v_1|exact v_2|exact v_3|exact v_4|exact v_5|exact v_6|exact v_7|exact v_8|exact v_9|exact rfl))|exact rfl)))) (by rfl) ?_)
          refine xr_op rfl rfl (xv_move rfl ?_)
          refine xr_op rfl rfl (xv_calls rfl hb27 (Readings_c (hv.sub (by intro z hz; ((repeat first|exact z_0|assumption|refine z_1 ?_|(refine z_l ?_;(repeat first|exact z_0|assumption|refine z_1 ?_);done)|refine z_r ?_);done))) (by omega) (fun hrn => up_ret ?_) (fun l V hrs hV => up_ret ?_)))
          · refine xr_op rfl rfl (xv_move rfl ?_)
            refine xr_op rfl rfl (xv_extract rfl rfl ?_)
            refine xr_op rfl rfl (xv_extract rfl rfl ?_)
            refine xr_op rfl rfl (xv_assign rfl ?_)
            refine xr_op rfl rfl (xv_assign rfl ?_)
            refine xr_end rfl ?_
            refine th_n ?_
            refine xc_seq ?_
            refine xc_seq (xc_region ?_)
            refine xr_op rfl rfl (xv_move rfl ?_)
            refine xr_op rfl rfl (xv_not rfl ?_)
            refine xr_end rfl ?_
            refine th_n ?_
            refine xc_true rfl ?_
            refine xc_seq (xc_region ?_)
            refine xr_op rfl rfl (xv_assign rfl ?_)
            refine xr_op rfl rfl (xv_assign rfl ?_)
            refine xr_end rfl ?_
            refine th_n ?_
            refine xc_ret ?_
            refine th_r ?_
            refine body_ret (h' := h) rfl (ro_tmp rfl (ro_tmp rfl ro_nil)) (by (first|((repeat first|exact s_0|exact s_1|exact s_3|refine s_4 ?_|refine s_5 ?_|refine s_6 ?_|refine s_7 ?_);done)|((repeat first|exact s_0|exact s_1|exact s_3|refine s_4 ?_|refine s_5 ?_|refine s_6 ?_|refine s_8 ?_);done))) ?_
            first | (exact H1 hgood) | (exact H2 hgood (fun hq9 => by have := hq9.1.1; have := hq9.1.2; omega)) | (exact H2 hgood (fun hq9 => by have h8 := hq9.2 f (by simp); have h9 := hq9.2 t (by simp); unfold hourOk at h8 h9; omega)) | (exact H3 hgood hho hhr hrn) | (exact H4 sa sc _ l hgood hho hhr hrs hsl hsc)
          · refine xr_op rfl rfl (xv_move rfl ?_)
            refine xr_op rfl rfl (xv_extract rfl rfl ?_)
            refine xr_op rfl rfl (xv_extract rfl rfl ?_)
            refine xr_op rfl rfl (xv_assign rfl ?_)
            refine xr_op rfl rfl (xv_assign rfl ?_)
            refine xr_end rfl ?_
            refine th_n ?_
            refine xc_seq ?_
            refine xc_seq (xc_region ?_)
            refine xr_op rfl rfl (xv_move rfl ?_)
            refine xr_op rfl rfl (xv_not rfl ?_)
            refine xr_end rfl ?_
            refine th_n ?_
            refine xc_false rfl ?_
            refine xc_skip ?_
            refine th_n ?_
            refine xc_seq (xc_region ?_)
            obtain ⟨sa, sc, hsv, hsl⟩ := Vec.slv (enc := eCard) (t := 59) (h := V.hp 59 (l.flatMap eCard)) eCard_len hV (fun _ hz => hz)
            have hsc : l.length ≤ sc := by
              cases V with
              | nil => rw [hV.2]; exact Nat.zero_le _
              | «at» b cap sp => injection hsv with q1 q2 q3; rw [← q3]; exact hV.2.1
            rw [hsv]
            refine xr_op rfl rfl (xv_move rfl ?_)
            refine xr_op rfl rfl (xv_assign rfl ?_)
            refine xr_op rfl rfl (xv_assign rfl ?_)
            refine xr_end rfl ?_
            refine th_n ?_
            refine xc_ret ?_
            refine body_ret (h' := (V.hp 59 (l.flatMap eCard) ++ h)) rfl (ro_tmp rfl (ro_tmp rfl ro_nil)) (by (first|((repeat first|exact s_0|exact s_1|exact s_3|refine s_4 ?_|refine s_5 ?_|refine s_6 ?_|refine s_7 ?_);done)|((repeat first|exact s_0|exact s_1|exact s_3|refine s_4 ?_|refine s_5 ?_|refine s_6 ?_|refine s_8 ?_);done))) ?_
            first | (exact H1 hgood) | (exact H2 hgood (fun hq9 => by have := hq9.1.1; have := hq9.1.2; omega)) | (exact H2 hgood (fun hq9 => by have h8 := hq9.2 f (by simp); have h9 := hq9.2 t (by simp); unfold hourOk at h8 h9; omega)) | (exact H3 hgood hho hhr hrn) | (exact H4 sa sc _ l hgood hho hhr hrs hsl hsc)
        · refine xr_gd rfl rfl rfl (xv_not rfl ?_)
          refine xr_op rfl rfl (xv_pick rfl rfl ?_)
          refine xr_end rfl ?_
          refine th_n ?_
          refine xc_true rfl ?_
          refine xc_seq (xc_region ?_)
          refine xr_op rfl rfl (xv_assign rfl ?_)
          refine xr_op rfl rfl (xv_assign rfl ?_)
          refine xr_end rfl ?_
          refine th_n ?_
          refine xc_ret ?_
          refine th_r ?_
          refine body_ret (h' := h) rfl (ro_tmp rfl (ro_tmp rfl ro_nil)) (by (first|((repeat first|exact s_0|exact s_1|exact s_3|refine s_4 ?_|refine s_5 ?_|refine s_6 ?_|refine s_7 ?_);done)|((repeat first|exact s_0|exact s_1|exact s_3|refine s_4 ?_|refine s_5 ?_|refine s_6 ?_|refine s_8 ?_);done))) ?_
          first | (exact H1 hgood) | (exact H2 hgood (fun hq9 => by have := hq9.1.1; have := hq9.1.2; omega)) | (exact H2 hgood (fun hq9 => by have h8 := hq9.2 f (by simp); have h9 := hq9.2 t (by simp); unfold hourOk at h8 h9; omega)) | (exact H3 hgood hho hhr hrn) | (exact H4 sa sc _ l hgood hho hhr hrs hsl hsc)
      · refine xr_gd rfl rfl rfl (xv_not rfl ?_)
        refine xr_op rfl rfl (xv_pick rfl rfl ?_)
        refine xr_op rfl rfl (xv_move rfl ?_)
        refine xr_no rfl rfl rfl rfl ?_
        refine xr_no rfl rfl rfl rfl ?_
        refine xr_no rfl rfl rfl rfl ?_
        refine xr_op rfl rfl (xv_pick rfl rfl ?_)
        refine xr_end rfl ?_
        refine th_n ?_
        refine xc_true rfl ?_
        refine xc_seq (xc_region ?_)
        refine xr_op rfl rfl (xv_assign rfl ?_)
        refine xr_op rfl rfl (xv_assign rfl ?_)
        refine xr_end rfl ?_
        refine th_n ?_
        refine xc_ret ?_
        refine th_r ?_
        refine body_ret (h' := h) rfl (ro_tmp rfl (ro_tmp rfl ro_nil)) (by (first|((repeat first|exact s_0|exact s_1|exact s_3|refine s_4 ?_|refine s_5 ?_|refine s_6 ?_|refine s_7 ?_);done)|((repeat first|exact s_0|exact s_1|exact s_3|refine s_4 ?_|refine s_5 ?_|refine s_6 ?_|refine s_8 ?_);done))) ?_
        first | (exact H1 hgood) | (exact H2 hgood (fun hq9 => by have := hq9.1.1; have := hq9.1.2; omega)) | (exact H2 hgood (fun hq9 => by have h8 := hq9.2 f (by simp); have h9 := hq9.2 t (by simp); unfold hourOk at h8 h9; omega)) | (exact H3 hgood hho hhr hrn) | (exact H4 sa sc _ l hgood hho hhr hrs hsl hsc)
    · refine xr_op rfl rfl (xv_not rfl ?_)
      refine xr_op rfl rfl (xv_move rfl ?_)
      refine xr_no rfl rfl rfl rfl ?_
      refine xr_no rfl rfl rfl rfl ?_
      refine xr_no rfl rfl rfl rfl ?_
      refine xr_op rfl rfl (xv_pick rfl rfl ?_)
      refine xr_op rfl rfl (xv_move rfl ?_)
      refine xr_no rfl rfl rfl rfl ?_
      refine xr_no rfl rfl rfl rfl ?_
      refine xr_no rfl rfl rfl rfl ?_
      refine xr_op rfl rfl (xv_pick rfl rfl ?_)
      refine xr_end rfl ?_
      refine th_n ?_
      refine xc_true rfl ?_
      refine xc_seq (xc_region ?_)
      refine xr_op rfl rfl (xv_assign rfl ?_)
      refine xr_op rfl rfl (xv_assign rfl ?_)
      refine xr_end rfl ?_
      refine th_n ?_
      refine xc_ret ?_
      refine th_r ?_
      refine body_ret (h' := h) rfl (ro_tmp rfl (ro_tmp rfl ro_nil)) (by (first|((repeat first|exact s_0|exact s_1|exact s_3|refine s_4 ?_|refine s_5 ?_|refine s_6 ?_|refine s_7 ?_);done)|((repeat first|exact s_0|exact s_1|exact s_3|refine s_4 ?_|refine s_5 ?_|refine s_6 ?_|refine s_8 ?_);done))) ?_
      first | (exact H1 hgood) | (exact H2 hgood (fun hq9 => by have := hq9.1.1; have := hq9.1.2; omega)) | (exact H2 hgood (fun hq9 => by have h8 := hq9.2 f (by simp); have h9 := hq9.2 t (by simp); unfold hourOk at h8 h9; omega)) | (exact H3 hgood hho hhr hrn) | (exact H4 sa sc _ l hgood hho hhr hrs hsl hsc)
  · refine xr_op rfl rfl (xv_not rfl ?_)
    refine xr_end rfl ?_
    refine th_n ?_
    refine xc_true rfl ?_
    refine xc_seq (xc_region ?_)
    refine xr_op rfl rfl (xv_assign rfl ?_)
    refine xr_op rfl rfl (xv_assign rfl ?_)
    refine xr_end rfl ?_
    refine th_n ?_
    refine xc_ret ?_
    refine th_r ?_
    refine body_ret (h' := h) rfl (ro_tmp rfl (ro_tmp rfl ro_nil)) (by (first|((repeat first|exact s_0|exact s_1|exact s_3|refine s_4 ?_|refine s_5 ?_|refine s_6 ?_|refine s_7 ?_);done)|((repeat first|exact s_0|exact s_1|exact s_3|refine s_4 ?_|refine s_5 ?_|refine s_6 ?_|refine s_8 ?_);done))) ?_
    first | (exact H1 hgood) | (exact H2 hgood (fun hq9 => by have := hq9.1.1; have := hq9.1.2; omega)) | (exact H2 hgood (fun hq9 => by have h8 := hq9.2 f (by simp); have h9 := hq9.2 t (by simp); unfold hourOk at h8 h9; omega)) | (exact H3 hgood hho hhr hrn) | (exact H4 sa sc _ l hgood hho hhr hrs hsl hsc)

theorem RPairs_c {r : Rnd} {house : Int} {h : Hp} {R : Ending → Hp → Prop} (hv : RndV h r) (hs : Small r)
    (H : ∀ V, Vec.ok V 2 (pairsAns r house).1.length ((pairsAns r house).1.flatMap eSpan) → R (.returned (.tuple ⟨[V.val (pairsAns r house).1.length, I (pairsAns r house).2]⟩)) (V.hp 38 ((pairsAns r house).1.flatMap eSpan) ++ h)) :
    ACalls Tryd.prog 12 ⟨[.agg ⟨eRnd r⟩, I house]⟩ h R := by
  refine calls_of_xc (N := 32) Tryd.func12 rfl (by rfl) ?_
  refine xc_seq (xc_region ?_)
  refine xr_op rfl rfl (xv_box rfl (fun b2 hb2 => ?_))
  refine xr_op rfl rfl (xv_assign rfl ?_)
  refine xr_op rfl rfl (xv_assign rfl ?_)
  refine xr_end rfl ?_
  refine th_n ?_
  refine xc_seq (xc_region ?_)
  refine xr_op rfl rfl (xv_loadA ty25 rfl rfl (by ((repeat first|exact z_0|assumption|refine z_1 ?_|(refine z_l ?_;(repeat first|exact z_0|assumption|refine z_1 ?_);done)|refine z_r ?_);done)) (by ((try apply evl_some rfl);(repeat (first|exact (rfl : _ = [])|apply evl_cons rfl (by (first|exact v_1|exact v_2|exact v_3|exact v_4|exact v_5|exact v_6|exact v_7|exact v_8|exact v_9|exact rfl))|exact rfl)))) (by rfl) ?_)
  refine xr_op rfl rfl (xv_move rfl ?_)
  refine xr_op rfl rfl (xv_calls rfl hb34 (start_c (hv.sub (by intro z hz; ((repeat first|exact z_0|assumption|refine z_1 ?_|(refine z_l ?_;(repeat first|exact z_0|assumption|refine z_1 ?_);done)|refine z_r ?_);done))) hs (fun hgood => up_ret ?_) (fun hgood hbad => up_ret ?_) (fun hgood hho hhr hrn => up_ret ?_) (fun sa sc G l hgood hho hhr hrs hG hsc => up_ret ?_)))
  · refine xr_op rfl rfl (xv_move rfl ?_)
    refine xr_op rfl rfl (xv_extract rfl rfl ?_)
    refine xr_op rfl rfl (xv_extract rfl rfl ?_)
    refine xr_op rfl rfl (xv_assign rfl ?_)
    refine xr_op rfl rfl (xv_assign rfl ?_)
    refine xr_end rfl ?_
    refine th_n ?_
    refine xc_seq ?_
    refine xc_seq (xc_region ?_)
    refine xr_op rfl rfl (xv_move rfl ?_)
    refine xr_op rfl rfl (xv_neqT rfl rfl (by decide) ?_)
    refine xr_end rfl ?_
    refine th_n ?_
    refine xc_true rfl ?_
    refine xc_seq (xc_region ?_)
    refine xr_op rfl rfl (xv_move rfl ?_)
    refine xr_op rfl rfl (xv_assign rfl ?_)
    refine xr_op rfl rfl (xv_assign rfl ?_)
    refine xr_end rfl ?_
    refine th_n ?_
    refine xc_ret ?_
    refine th_r ?_
    refine body_ret (h' := h) rfl (ro_tmp rfl (ro_tmp rfl ro_nil)) (by (first|((repeat first|exact s_0|exact s_1|exact s_3|refine s_4 ?_|refine s_5 ?_|refine s_6 ?_|refine s_7 ?_);done)|((repeat first|exact s_0|exact s_1|exact s_3|refine s_4 ?_|refine s_5 ?_|refine s_6 ?_|refine s_8 ?_);done))) ?_
    first | (rw [pairsAns_e (start_1 hgood)] at H; exact H .nil ⟨rfl, rfl⟩) | (rw [pairsAns_e (start_2 hgood (bad00 hbad))] at H; exact H .nil ⟨rfl, rfl⟩) | (rw [pairsAns_e (start_5 hgood hho nohrs hrn)] at H; exact H .nil ⟨rfl, rfl⟩) | (rw [pairsAns_n (start_0 hgood hho nohrs hrs) hpn] at H; exact H .nil ⟨rfl, rfl⟩) | (rw [pairsAns_s (start_0 hgood hho nohrs hrs) hps] at H; exact H V hV)
  · refine xr_op rfl rfl (xv_move rfl ?_)
    refine xr_op rfl rfl (xv_extract rfl rfl ?_)
    refine xr_op rfl rfl (xv_extract rfl rfl ?_)
    refine xr_op rfl rfl (xv_assign rfl ?_)
    refine xr_op rfl rfl (xv_assign rfl ?_)
    refine xr_end rfl ?_
    refine th_n ?_
    refine xc_seq ?_
    refine xc_seq (xc_region ?_)
    refine xr_op rfl rfl (xv_move rfl ?_)
    refine xr_op rfl rfl (xv_neqT rfl rfl (by decide) ?_)
    refine xr_end rfl ?_
    refine th_n ?_
    refine xc_true rfl ?_
    refine xc_seq (xc_region ?_)
    refine xr_op rfl rfl (xv_move rfl ?_)
    refine xr_op rfl rfl (xv_assign rfl ?_)
    refine xr_op rfl rfl (xv_assign rfl ?_)
    refine xr_end rfl ?_
    refine th_n ?_
    refine xc_ret ?_
    refine th_r ?_
    refine body_ret (h' := h) rfl (ro_tmp rfl (ro_tmp rfl ro_nil)) (by (first|((repeat first|exact s_0|exact s_1|exact s_3|refine s_4 ?_|refine s_5 ?_|refine s_6 ?_|refine s_7 ?_);done)|((repeat first|exact s_0|exact s_1|exact s_3|refine s_4 ?_|refine s_5 ?_|refine s_6 ?_|refine s_8 ?_);done))) ?_
    first | (rw [pairsAns_e (start_1 hgood)] at H; exact H .nil ⟨rfl, rfl⟩) | (rw [pairsAns_e (start_2 hgood (bad00 hbad))] at H; exact H .nil ⟨rfl, rfl⟩) | (rw [pairsAns_e (start_5 hgood hho nohrs hrn)] at H; exact H .nil ⟨rfl, rfl⟩) | (rw [pairsAns_n (start_0 hgood hho nohrs hrs) hpn] at H; exact H .nil ⟨rfl, rfl⟩) | (rw [pairsAns_s (start_0 hgood hho nohrs hrs) hps] at H; exact H V hV)
  · refine xr_op rfl rfl (xv_move rfl ?_)
    refine xr_op rfl rfl (xv_extract rfl rfl ?_)
    refine xr_op rfl rfl (xv_extract rfl rfl ?_)
    refine xr_op rfl rfl (xv_assign rfl ?_)
    refine xr_op rfl rfl (xv_assign rfl ?_)
    refine xr_end rfl ?_
    refine th_n ?_
    refine xc_seq ?_
    refine xc_seq (xc_region ?_)
    refine xr_op rfl rfl (xv_move rfl ?_)
    refine xr_op rfl rfl (xv_neqT rfl rfl (by decide) ?_)
    refine xr_end rfl ?_
    refine th_n ?_
    refine xc_true rfl ?_
    refine xc_seq (xc_region ?_)
    refine xr_op rfl rfl (xv_move rfl ?_)
    refine xr_op rfl rfl (xv_assign rfl ?_)
    refine xr_op rfl rfl (xv_assign rfl ?_)
    refine xr_end rfl ?_
    refine th_n ?_
    refine xc_ret ?_
    refine th_r ?_
    refine body_ret (h' := h) rfl (ro_tmp rfl (ro_tmp rfl ro_nil)) (by (first|((repeat first|exact s_0|exact s_1|exact s_3|refine s_4 ?_|refine s_5 ?_|refine s_6 ?_|refine s_7 ?_);done)|((repeat first|exact s_0|exact s_1|exact s_3|refine s_4 ?_|refine s_5 ?_|refine s_6 ?_|refine s_8 ?_);done))) ?_
    first | (rw [pairsAns_e (start_1 hgood)] at H; exact H .nil ⟨rfl, rfl⟩) | (rw [pairsAns_e (start_2 hgood (bad00 hbad))] at H; exact H .nil ⟨rfl, rfl⟩) | (rw [pairsAns_e (start_5 hgood hho nohrs hrn)] at H; exact H .nil ⟨rfl, rfl⟩) | (rw [pairsAns_n (start_0 hgood hho nohrs hrs) hpn] at H; exact H .nil ⟨rfl, rfl⟩) | (rw [pairsAns_s (start_0 hgood hho nohrs hrs) hps] at H; exact H V hV)
  · refine xr_op rfl rfl (xv_move rfl ?_)
    refine xr_op rfl rfl (xv_extract rfl rfl ?_)
    refine xr_op rfl rfl (xv_extract rfl rfl ?_)
    refine xr_op rfl rfl (xv_assign rfl ?_)
    refine xr_op rfl rfl (xv_assign rfl ?_)
    refine xr_end rfl ?_
    refine th_n ?_
    refine xc_seq ?_
    refine xc_seq (xc_region ?_)
    refine xr_op rfl rfl (xv_move rfl ?_)
    refine xr_op rfl rfl (xv_neqF rfl rfl rfl ?_)
    refine xr_end rfl ?_
    refine th_n ?_
    refine xc_false rfl ?_
    refine xc_skip ?_
    refine th_n ?_
    refine xc_seq (xc_region ?_)
    obtain ⟨hdo, hri, hll, hro⟩ := reads_ok hgood hho hrs
    have hhb1 := hho.1
    have hhb2 := hho.2
    refine xr_op rfl rfl (xv_faddr fl25_0 rfl ?_)
    refine xr_op rfl rfl (xv_load1 ty22 rfl rfl (by ((repeat first|exact z_0|assumption|refine z_1 ?_|(refine z_l ?_;(repeat first|exact z_0|assumption|refine z_1 ?_);done)|refine z_r ?_);done)) (by rfl) ?_)
    refine xr_op rfl rfl (xv_move rfl ?_)
    have hltd : house.toNat < r.dials.length := by (first | omega | (dsimp only at *; omega) | (simp at *; omega))
    obtain ⟨bd, od, ld, td, fzd, had, hmd, hxd⟩ := (hv.dials).at hltd
    obtain ⟨xd, hkd⟩ : ∃ qq_, r.dials[house.toNat]? = some qq_ := ⟨_, List.getElem?_eq_getElem hltd⟩
    have hda : dialAt r.dials house = xd := by unfold dialAt; rw [hkd]; rfl
    refine xr_op rfl rfl (xv_ia (sz := 4) (j := house.toNat) sl22 ty45 rfl (by rw [had]; rfl) rfl rfl (by (first | omega | (dsimp only at *; omega) | (simp at *; omega))) (by (first | omega | (dsimp only at *; omega) | (simp at *; omega))) ?_)
    refine xr_op rfl rfl (xv_loadA ty45 rfl rfl (by ((repeat first|exact z_0|assumption|refine z_1 ?_|(refine z_l ?_;(repeat first|exact z_0|assumption|refine z_1 ?_);done)|refine z_r ?_);done)) (hxd (house.toNat) xd hkd) rfl ?_)
    subst hda
    refine xr_op rfl rfl (xv_move rfl ?_)
    refine xr_op rfl rfl (xv_calls rfl hb35 (rpairs_c (d := dialAt r.dials house) (l := l) hdo (hG.sub (by intro z hz; ((repeat first|exact z_0|assumption|refine z_1 ?_|(refine z_l ?_;(repeat first|exact z_0|assumption|refine z_1 ?_);done)|refine z_r ?_);done))) hll hri hro (fun hpn => up_ret ?_) (fun out V hps hV => up_ret ?_)))
    · refine xr_op rfl rfl (xv_move rfl ?_)
      refine xr_op rfl rfl (xv_extract rfl rfl ?_)
      refine xr_op rfl rfl (xv_extract rfl rfl ?_)
      refine xr_op rfl rfl (xv_assign rfl ?_)
      refine xr_op rfl rfl (xv_assign rfl ?_)
      refine xr_end rfl ?_
      refine th_n ?_
      refine xc_seq ?_
      refine xc_seq (xc_region ?_)
      refine xr_op rfl rfl (xv_move rfl ?_)
      refine xr_op rfl rfl (xv_not rfl ?_)
      refine xr_end rfl ?_
      refine th_n ?_
      refine xc_true rfl ?_
      refine xc_seq (xc_region ?_)
      refine xr_op rfl rfl (xv_assign rfl ?_)
      refine xr_op rfl rfl (xv_assign rfl ?_)
      refine xr_end rfl ?_
      refine th_n ?_
      refine xc_ret ?_
      refine th_r ?_
      refine body_ret (h' := h) rfl (ro_tmp rfl (ro_tmp rfl ro_nil)) (by (first|((repeat first|exact s_0|exact s_1|exact s_3|refine s_4 ?_|refine s_5 ?_|refine s_6 ?_|refine s_7 ?_);done)|((repeat first|exact s_0|exact s_1|exact s_3|refine s_4 ?_|refine s_5 ?_|refine s_6 ?_|refine s_8 ?_);done))) ?_
      first | (rw [pairsAns_e (start_1 hgood)] at H; exact H .nil ⟨rfl, rfl⟩) | (rw [pairsAns_e (start_2 hgood (bad00 hbad))] at H; exact H .nil ⟨rfl, rfl⟩) | (rw [pairsAns_e (start_5 hgood hho nohrs hrn)] at H; exact H .nil ⟨rfl, rfl⟩) | (rw [pairsAns_n (start_0 hgood hho nohrs hrs) hpn] at H; exact H .nil ⟨rfl, rfl⟩) | (rw [pairsAns_s (start_0 hgood hho nohrs hrs) hps] at H; exact H V hV)
    · refine xr_op rfl rfl (xv_move rfl ?_)
      refine xr_op rfl rfl (xv_extract rfl rfl ?_)
      refine xr_op rfl rfl (xv_extract rfl rfl ?_)
      refine xr_op rfl rfl (xv_assign rfl ?_)
      refine xr_op rfl rfl (xv_assign rfl ?_)
      refine xr_end rfl ?_
      refine th_n ?_
      refine xc_seq ?_
      refine xc_seq (xc_region ?_)
      refine xr_op rfl rfl (xv_move rfl ?_)
      refine xr_op rfl rfl (xv_not rfl ?_)
      refine xr_end rfl ?_
      refine th_n ?_
      refine xc_false rfl ?_
      refine xc_skip ?_
      refine th_n ?_
      refine xc_seq (xc_region ?_)
      refine xr_op rfl rfl (xv_move rfl ?_)
      refine xr_op rfl rfl (xv_assign rfl ?_)
      refine xr_op rfl rfl (xv_assign rfl ?_)
      refine xr_end rfl ?_
      refine th_n ?_
      refine xc_ret ?_
      refine body_ret (h' := (V.hp 38 (out.flatMap eSpan) ++ h)) rfl (ro_tmp rfl (ro_tmp rfl ro_nil)) (by (first|((repeat first|exact s_0|exact s_1|exact s_3|refine s_4 ?_|refine s_5 ?_|refine s_6 ?_|refine s_7 ?_);done)|((repeat first|exact s_0|exact s_1|exact s_3|refine s_4 ?_|refine s_5 ?_|refine s_6 ?_|refine s_8 ?_);done))) ?_
      first | (rw [pairsAns_e (start_1 hgood)] at H; exact H .nil ⟨rfl, rfl⟩) | (rw [pairsAns_e (start_2 hgood (bad00 hbad))] at H; exact H .nil ⟨rfl, rfl⟩) | (rw [pairsAns_e (start_5 hgood hho nohrs hrn)] at H; exact H .nil ⟨rfl, rfl⟩) | (rw [pairsAns_n (start_0 hgood hho nohrs hrs) hpn] at H; exact H .nil ⟨rfl, rfl⟩) | (rw [pairsAns_s (start_0 hgood hho nohrs hrs) hps] at H; exact H V hV)

end Go.Proofs.YtckaaaebegemoaaDoor
