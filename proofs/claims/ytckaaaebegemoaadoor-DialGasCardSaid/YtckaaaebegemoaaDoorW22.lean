/-
  Walks.
-/
import Derived.Test.YtckaaaebegemoaaDoorW19
import Derived.Test.YtckaaaebegemoaaDoorW15
namespace Go.Proofs.YtckaaaebegemoaaDoor
open Go Go.H
set_option maxRecDepth 100000
set_option maxHeartbeats 2000000
set_option linter.all false
theorem RDue_c {r : Rnd} {house : Int} {h : Hp} {R : Ending → Hp → Prop} (hv : RndV h r) (hs : Small r) (H : R (.returned (.tuple ⟨[I (dueAns r house).1, I (dueAns r house).2]⟩)) h) :
    ACalls Tryd.prog 20 ⟨[.agg ⟨eRnd r⟩, I house]⟩ h R := by
  refine calls_of_xc (N := 62) Tryd.func20 rfl (by rfl) ?_
  refine xc_seq (xc_region ?_)
  refine xr_op rfl rfl (xv_box rfl (fun b2 hb2 => ?_))
  refine xr_op rfl rfl (xv_assign rfl ?_)
  refine xr_op rfl rfl (xv_assign rfl ?_)
  refine xr_end rfl ?_
  refine th_n ?_
  refine xc_seq (xc_region ?_)
  refine xr_op rfl rfl (xv_loadA ty25 rfl rfl (by ((repeat first|exact z_0|assumption|refine z_1 ?_|(refine z_l ?_;(repeat first|exact z_0|assumption|refine z_1 ?_);done)|refine z_r ?_);done)) (by ((try apply evl_some rfl);(repeat (first|exact (rfl : _ = [])|apply evl_cons rfl (by (first|exact v_1|exact v_2|exact v_3|exact v_4|exact v_5|exact v_6|exact v_7|exact v_8|exact v_9|exact rfl))|exact rfl)))) (by rfl) ?_)
  refine xr_op rfl rfl (xv_move rfl ?_)
  refine xr_op rfl rfl (xv_calls rfl hb34 (start_c (hv.sub (by intro z hz; ((repeat first|exact z_0|assumption|refine z_1 ?_|(refine z_l ?_;(repeat first|exact z_0|assumption|refine z_1 ?_);done)|refine z_r ?_);done))) hs (fun hgood => up_ret ?_) (fun hgood hbad => up_ret ?_) (fun hgood hho hhr hrn => up_ret ?_) (fun sa sc G l hgood hho hhr hrs hG hsc => up_ret ?_)))
  · refine xr_op rfl rfl (xv_move rfl ?_)
    refine xr_op rfl rfl (xv_extract rfl rfl ?_)
    refine xr_op rfl rfl (xv_extract rfl rfl ?_)
    refine xr_op rfl rfl (xv_assign rfl ?_)
    refine xr_op rfl rfl (xv_assign rfl ?_)
    refine xr_end rfl ?_
    refine th_n ?_
    refine xc_seq ?_
    refine xc_seq (xc_region ?_)
    refine xr_op rfl rfl (xv_move rfl ?_)
    refine xr_op rfl rfl (xv_neqT rfl rfl (by decide) ?_)
    refine xr_end rfl ?_
    refine th_n ?_
    refine xc_true rfl ?_
    refine xc_seq (xc_region ?_)
    refine xr_op rfl rfl (xv_move rfl ?_)
    refine xr_op rfl rfl (xv_assign rfl ?_)
    refine xr_op rfl rfl (xv_assign rfl ?_)
    refine xr_end rfl ?_
    refine th_n ?_
    refine xc_ret ?_
    refine th_r ?_
    refine body_ret (h' := h) rfl (ro_tmp rfl (ro_tmp rfl ro_nil)) (by (first|((repeat first|exact s_0|exact s_1|exact s_3|refine s_4 ?_|refine s_5 ?_|refine s_6 ?_|refine s_7 ?_);done)|((repeat first|exact s_0|exact s_1|exact s_3|refine s_4 ?_|refine s_5 ?_|refine s_6 ?_|refine s_8 ?_);done))) ?_
    first | (rw [dueAns_e (start_1 hgood)] at H; exact H) | (rw [dueAns_e (start_2 hgood (bad00 hbad))] at H; exact H) | (rw [dueAns_e (start_5 hgood hho nohrs hrn)] at H; exact H) | (rw [dueAns_0 (start_0 hgood hho nohrs hrs) (by (first | omega | (dsimp only at *; omega) | (simp at *; omega)))] at H; exact H) | (rw [dueAns_t (start_0 hgood hho nohrs hrs) (List.getElem?_eq_getElem (by omega)) (by assumption)] at H; exact H) | (rw [dueAns_s (start_0 hgood hho nohrs hrs) hkc (by simp [*]), ← hfin] at H; exact H)
  · refine xr_op rfl rfl (xv_move rfl ?_)
    refine xr_op rfl rfl (xv_extract rfl rfl ?_)
    refine xr_op rfl rfl (xv_extract rfl rfl ?_)
    refine xr_op rfl rfl (xv_assign rfl ?_)
    refine xr_op rfl rfl (xv_assign rfl ?_)
    refine xr_end rfl ?_
    refine th_n ?_
    refine xc_seq ?_
    refine xc_seq (xc_region ?_)
    refine xr_op rfl rfl (xv_move rfl ?_)
    refine xr_op rfl rfl (xv_neqT rfl rfl (by decide) ?_)
    refine xr_end rfl ?_
    refine th_n ?_
    refine xc_true rfl ?_
    refine xc_seq (xc_region ?_)
    refine xr_op rfl rfl (xv_move rfl ?_)
    refine xr_op rfl rfl (xv_assign rfl ?_)
    refine xr_op rfl rfl (xv_assign rfl ?_)
    refine xr_end rfl ?_
    refine th_n ?_
    refine xc_ret ?_
    refine th_r ?_
    refine body_ret (h' := h) rfl (ro_tmp rfl (ro_tmp rfl ro_nil)) (by (first|((repeat first|exact s_0|exact s_1|exact s_3|refine s_4 ?_|refine s_5 ?_|refine s_6 ?_|refine s_7 ?_);done)|((repeat first|exact s_0|exact s_1|exact s_3|refine s_4 ?_|refine s_5 ?_|refine s_6 ?_|refine s_8 ?_);done))) ?_
    first | (rw [dueAns_e (start_1 hgood)] at H; exact H) | (rw [dueAns_e (start_2 hgood (bad00 hbad))] at H; exact H) | (rw [dueAns_e (start_5 hgood hho nohrs hrn)] at H; exact H) | (rw [dueAns_0 (start_0 hgood hho nohrs hrs) (by (first | omega | (dsimp only at *; omega) | (simp at *; omega)))] at H; exact H) | (rw [dueAns_t (start_0 hgood hho nohrs hrs) (List.getElem?_eq_getElem (by omega)) (by assumption)] at H; exact H) | (rw [dueAns_s (start_0 hgood hho nohrs hrs) hkc (by simp [*]), ← hfin] at H; exact H)
  · refine xr_op rfl rfl (xv_move rfl ?_)
    refine xr_op rfl rfl (xv_extract rfl rfl ?_)
    refine xr_op rfl rfl (xv_extract rfl rfl ?_)
    refine xr_op rfl rfl (xv_assign rfl ?_)
    refine xr_op rfl rfl (xv_assign rfl ?_)
    refine xr_end rfl ?_
    refine th_n ?_
    refine xc_seq ?_
    refine xc_seq (xc_region ?_)
    refine xr_op rfl rfl (xv_move rfl ?_)
    refine xr_op rfl rfl (xv_neqT rfl rfl (by decide) ?_)
    refine xr_end rfl ?_
    refine th_n ?_
    refine xc_true rfl ?_
    refine xc_seq (xc_region ?_)
    refine xr_op rfl rfl (xv_move rfl ?_)
    refine xr_op rfl rfl (xv_assign rfl ?_)
    refine xr_op rfl rfl (xv_assign rfl ?_)
    refine xr_end rfl ?_
    refine th_n ?_
    refine xc_ret ?_
    refine th_r ?_
    refine body_ret (h' := h) rfl (ro_tmp rfl (ro_tmp rfl ro_nil)) (by (first|((repeat first|exact s_0|exact s_1|exact s_3|refine s_4 ?_|refine s_5 ?_|refine s_6 ?_|refine s_7 ?_);done)|((repeat first|exact s_0|exact s_1|exact s_3|refine s_4 ?_|refine s_5 ?_|refine s_6 ?_|refine s_8 ?_);done))) ?_
    first | (rw [dueAns_e (start_1 hgood)] at H; exact H) | (rw [dueAns_e (start_2 hgood (bad00 hbad))] at H; exact H) | (rw [dueAns_e (start_5 hgood hho nohrs hrn)] at H; exact H) | (rw [dueAns_0 (start_0 hgood hho nohrs hrs) (by (first | omega | (dsimp only at *; omega) | (simp at *; omega)))] at H; exact H) | (rw [dueAns_t (start_0 hgood hho nohrs hrs) (List.getElem?_eq_getElem (by omega)) (by assumption)] at H; exact H) | (rw [dueAns_s (start_0 hgood hho nohrs hrs) hkc (by simp [*]), ← hfin] at H; exact H)
  · refine xr_op rfl rfl (xv_move rfl ?_)
    refine xr_op rfl rfl (xv_extract rfl rfl ?_)
    refine xr_op rfl rfl (xv_extract rfl rfl ?_)
    refine xr_op rfl rfl (xv_assign rfl ?_)
    refine xr_op rfl rfl (xv_assign rfl ?_)
    refine xr_end rfl ?_
    refine th_n ?_
    refine xc_seq ?_
    refine xc_seq (xc_region ?_)
    refine xr_op rfl rfl (xv_move rfl ?_)
    refine xr_op rfl rfl (xv_neqF rfl rfl rfl ?_)
    refine xr_end rfl ?_
    refine th_n ?_
    refine xc_false rfl ?_
    refine xc_skip ?_
    refine th_n ?_
    refine xc_seq ?_
    refine xc_seq (xc_region ?_)
    refine xr_op rfl rfl (xv_move rfl ?_)
    refine xr_op rfl rfl (xv_len sl23 rfl ?_)
    refine xr_op rfl rfl (xv_eql2 rfl rfl (fun q1 => ?_) (fun q1 => ?_))
    · refine xr_end rfl ?_
      refine th_n ?_
      refine xc_true rfl ?_
      refine xc_seq (xc_region ?_)
      refine xr_op rfl rfl (xv_assign rfl ?_)
      refine xr_op rfl rfl (xv_assign rfl ?_)
      refine xr_end rfl ?_
      refine th_n ?_
      refine xc_ret ?_
      refine th_r ?_
      refine body_ret (h' := h) rfl (ro_tmp rfl (ro_tmp rfl ro_nil)) (by (first|((repeat first|exact s_0|exact s_1|exact s_3|refine s_4 ?_|refine s_5 ?_|refine s_6 ?_|refine s_7 ?_);done)|((repeat first|exact s_0|exact s_1|exact s_3|refine s_4 ?_|refine s_5 ?_|refine s_6 ?_|refine s_8 ?_);done))) ?_
      first | (rw [dueAns_e (start_1 hgood)] at H; exact H) | (rw [dueAns_e (start_2 hgood (bad00 hbad))] at H; exact H) | (rw [dueAns_e (start_5 hgood hho nohrs hrn)] at H; exact H) | (rw [dueAns_0 (start_0 hgood hho nohrs hrs) (by (first | omega | (dsimp only at *; omega) | (simp at *; omega)))] at H; exact H) | (rw [dueAns_t (start_0 hgood hho nohrs hrs) (List.getElem?_eq_getElem (by omega)) (by assumption)] at H; exact H) | (rw [dueAns_s (start_0 hgood hho nohrs hrs) hkc (by simp [*]), ← hfin] at H; exact H)
    · refine xr_end rfl ?_
      refine th_n ?_
      refine xc_false rfl ?_
      refine xc_skip ?_
      refine th_n ?_
      refine xc_seq (xc_region ?_)
      have hhb1 := hho.1
      have hhb2 := hho.2
      obtain ⟨hdo, hri, hll, hro⟩ := reads_ok hgood hho hrs
      obtain ⟨g1, g2, g3, g4, g5⟩ := id hdo
      have htb := turn_bd g1 g2
      refine xr_op rfl rfl (xv_faddr fl25_0 rfl ?_)
      refine xr_op rfl rfl (xv_load1 ty22 rfl rfl (by ((repeat first|exact z_0|assumption|refine z_1 ?_|(refine z_l ?_;(repeat first|exact z_0|assumption|refine z_1 ?_);done)|refine z_r ?_);done)) (by rfl) ?_)
      refine xr_op rfl rfl (xv_move rfl ?_)
      have hltd : house.toNat < r.dials.length := by (first | omega | (dsimp only at *; omega) | (simp at *; omega))
      obtain ⟨bd, od, ld, td, fzd, had, hmd, hxd⟩ := (hv.dials).at hltd
      obtain ⟨xd, hkd⟩ : ∃ qq_, r.dials[house.toNat]? = some qq_ := ⟨_, List.getElem?_eq_getElem hltd⟩
      have hda : dialAt r.dials house = xd := by unfold dialAt; rw [hkd]; rfl
      refine xr_op rfl rfl (xv_ia (sz := 4) (j := house.toNat) sl22 ty45 rfl (by rw [had]; rfl) rfl rfl (by (first | omega | (dsimp only at *; omega) | (simp at *; omega))) (by (first | omega | (dsimp only at *; omega) | (simp at *; omega))) ?_)
      refine xr_op rfl rfl (xv_loadA ty45 rfl rfl (by ((repeat first|exact z_0|assumption|refine z_1 ?_|(refine z_l ?_;(repeat first|exact z_0|assumption|refine z_1 ?_);done)|refine z_r ?_);done)) (hxd (house.toNat) xd hkd) rfl ?_)
      subst hda
      refine xr_op rfl rfl (xv_alloc ty45 (fun b8 hb8 => ?_))
      refine xr_op rfl rfl (xv_s ty45 rfl rfl (by (first|(apply u_3;(repeat first|exact u_0|assumption|apply u_1|apply u_2);done)|((repeat first|exact u_0|assumption|apply u_1|apply u_2);done)|(apply u_3;apply u_3;(repeat first|exact u_0|assumption|apply u_1|apply u_2);done)|((repeat first|exact u_0|assumption|apply u_3|apply u_1);done))) (by ((try apply evl_some rfl);(repeat (first|exact (rfl : _ = [])|apply evl_cons rfl (by (first|exact v_1|exact v_2|exact v_3|exact v_4|exact v_5|exact v_6|exact v_7|exact v_8|exact v_9|exact rfl))|exact rfl)))) (by rfl) (by rfl) (by rfl) (by ((try apply evl_some rfl);(repeat (first|exact (rfl : _ = [])|apply evl_cons rfl (by (first|exact v_1|exact v_2|exact v_3|exact v_4|exact v_5|exact v_6|exact v_7|exact v_8|exact v_9|exact rfl))|exact rfl)))) ?_)
      refine xr_end rfl ?_
      refine th_n ?_
      refine xc_seq ?_
      refine xc_seq (xc_region ?_)
      refine xr_op rfl rfl (xv_faddr fl45_2 rfl ?_)
      refine xr_op rfl rfl (xv_load1 ty4 rfl rfl (by ((repeat first|exact z_0|assumption|refine z_1 ?_|(refine z_l ?_;(repeat first|exact z_0|assumption|refine z_1 ?_);done)|refine z_r ?_);done)) (by rfl) ?_)
      refine xr_end rfl ?_
      refine th_n ?_
      refine xc_bool rfl (fun q2 => ?_) (fun q2 => ?_)
      · refine xc_seq (xc_region ?_)
        refine xr_op rfl rfl (xv_assign rfl ?_)
        refine xr_op rfl rfl (xv_assign rfl ?_)
        refine xr_end rfl ?_
        refine th_n ?_
        refine xc_ret ?_
        refine th_r ?_
        refine body_ret (h' := h) rfl (ro_tmp rfl (ro_tmp rfl ro_nil)) (by (first|((repeat first|exact s_0|exact s_1|exact s_3|refine s_4 ?_|refine s_5 ?_|refine s_6 ?_|refine s_7 ?_);done)|((repeat first|exact s_0|exact s_1|exact s_3|refine s_4 ?_|refine s_5 ?_|refine s_6 ?_|refine s_8 ?_);done))) ?_
        first | (rw [dueAns_e (start_1 hgood)] at H; exact H) | (rw [dueAns_e (start_2 hgood (bad00 hbad))] at H; exact H) | (rw [dueAns_e (start_5 hgood hho nohrs hrn)] at H; exact H) | (rw [dueAns_0 (start_0 hgood hho nohrs hrs) (by (first | omega | (dsimp only at *; omega) | (simp at *; omega)))] at H; exact H) | (rw [dueAns_t (start_0 hgood hho nohrs hrs) (List.getElem?_eq_getElem (by omega)) (by assumption)] at H; exact H) | (rw [dueAns_s (start_0 hgood hho nohrs hrs) hkc (by simp [*]), ← hfin] at H; exact H)
      · refine xc_skip ?_
        refine th_n ?_
        refine xc_seq (xc_region ?_)
        refine xr_op rfl rfl (xv_move rfl ?_)
        refine xr_op rfl rfl (xv_move rfl ?_)
        refine xr_op rfl rfl (xv_len sl23 rfl ?_)
        refine xr_op rfl rfl (xv_sub rfl rfl (wrap_i64 (by (first | omega | (dsimp only at *; omega) | (simp at *; omega))) (by (first | omega | (dsimp only at *; omega) | (simp at *; omega)))) ?_)
        have hltc : (l.length - 1) < l.length := by (first | omega | (dsimp only at *; omega) | (simp at *; omega))
        obtain ⟨bc, oc, lc, tc, fzc, hac, hmc, hxc⟩ := (hG).at hltc
        obtain ⟨xc, hkc⟩ : ∃ qq_, l[(l.length - 1)]? = some qq_ := ⟨_, List.getElem?_eq_getElem hltc⟩
        have hoc := (hro xc (List.mem_of_getElem? hkc)).1
        unfold hourOk at hoc
        refine xr_op rfl rfl (xv_ia (sz := 3) (j := l.length - 1) sl23 ty59 rfl (by rw [hac]; rfl) rfl (by (first | omega | (dsimp only at *; omega) | (simp at *; omega))) (by (first | omega | (dsimp only at *; omega) | (simp at *; omega))) (by (first | omega | (dsimp only at *; omega) | (simp at *; omega))) ?_)
        refine xr_op rfl rfl (xv_faddr fl59_1 rfl ?_)
        refine xr_op rfl rfl (xv_load1 ty3 rfl rfl (by ((repeat first|exact z_0|assumption|refine z_1 ?_|(refine z_l ?_;(repeat first|exact z_0|assumption|refine z_1 ?_);done)|refine z_r ?_);done)) (take_get (hxc (l.length - 1) xc hkc) (j := 1) rfl) ?_)
        refine xr_op rfl rfl (xv_assign rfl ?_)
        refine xr_end rfl ?_
        refine th_n ?_
        refine xc_seq (xc_region ?_)
        refine xr_op rfl rfl (xv_assign rfl ?_)
        refine xr_end rfl ?_
        refine th_n ?_
        refine xc_seq ?_
        refine xc_block ?_
        refine xc_loop (σ := Nat) (fun i => (xc.hour + i ≤ 1048576) ∧ (i : Int) ≤ dueN (dialAt r.dials house)) (fun i => (((emp.put (some 8) (.pointer (some ⟨b8, 0, none⟩))).put (some 9) (I xc.hour)).put (some 10) (I i))) (fun i => ((b8, .cells ⟨eDial (dialAt r.dials house)⟩ 45) :: h)) (fun i => (1048576 - xc.hour).toNat - i) 0 ⟨by omega, due_0 hdo⟩ (le_put (le_put (le_put (le_emp _) rfl) rfl) rfl) (by (first|((repeat first|exact s_0|exact s_1|exact s_3|refine s_4 ?_|refine s_5 ?_|refine s_6 ?_|refine s_7 ?_);done)|((repeat first|exact s_0|exact s_1|exact s_3|refine s_4 ?_|refine s_5 ?_|refine s_6 ?_|refine s_8 ?_);done))) ?_
        rintro i ⟨hi1, hi2⟩
        refine xc_seq ?_
        refine xc_seq ?_
        refine xc_drawL (L := [(b8, fun o => o = .cells ⟨eDial (dialAt r.dials house)⟩ 45 (0, 0))]) [(0, .S), (1, .S), (2, .S), (3, .O), (4, .S), (5, .S), (6, .S), (7, .S), (8, .S), (9, .S), (10, .S), (11, .S), (12, .S), (13, .S), (14, .S), (15, .S), (16, .R), (17, .O), (18, .O), (19, .S)] [] _ mixed (by kernel_rfl) (by rw [List.append_nil]) (holds1 (by ((repeat first|exact z_0|assumption|refine z_1 ?_|(refine z_l ?_;(repeat first|exact z_0|assumption|refine z_1 ?_);done)|refine z_r ?_);done)) rfl) ?_
        refine js_S rfl rfl (.inl rfl) (xv_move rfl ⟨rfl, rfl⟩) ?_
        refine js_S rfl rfl (.inl rfl) (xv_move rfl ⟨rfl, rfl⟩) ?_
        refine js_S rfl rfl (.inl rfl) (xv_add rfl rfl (wrap_i64 (by (first | omega | (dsimp only at *; omega) | (simp at *; omega))) (by (first | omega | (dsimp only at *; omega) | (simp at *; omega)))) ⟨rfl, rfl⟩) ?_
        refine js_OL0 rfl rfl (.inl rfl) (xv_lss2 rfl rfl (fun hq => ?_) (fun hq => ?_))
        · refine ⟨holds1 (by ((repeat first|exact z_0|assumption|refine z_1 ?_|(refine z_l ?_;(repeat first|exact z_0|assumption|refine z_1 ?_);done)|refine z_r ?_);done)) rfl, ?_⟩
          refine js_S rfl rfl (.inl rfl) (xv_move rfl ⟨rfl, rfl⟩) ?_
          refine js_S rfl rfl (.inr ⟨_, _, rfl, rfl⟩) (xv_faddr fl45_1 rfl ⟨rfl, rfl⟩) ?_
          refine js_S rfl rfl (.inr ⟨_, _, rfl, rfl⟩) (xv_faddr fl38_1 rfl ⟨rfl, rfl⟩) ?_
          refine js_I rfl rfl (.inr ⟨_, _, rfl, rfl⟩) (fun hh hv => by obtain ⟨o, hm, rfl⟩ := hv b8 _ List.mem_cons_self; exact xv_load1 ty3 rfl rfl (List.mem_append_left _ hm) rfl ⟨rfl, rfl⟩) ?_
          refine js_S rfl rfl (.inr ⟨_, _, rfl, rfl⟩) (xv_faddr fl45_1 rfl ⟨rfl, rfl⟩) ?_
          refine js_S rfl rfl (.inr ⟨_, _, rfl, rfl⟩) (xv_faddr fl38_0 rfl ⟨rfl, rfl⟩) ?_
          refine js_I rfl rfl (.inr ⟨_, _, rfl, rfl⟩) (fun hh hv => by obtain ⟨o, hm, rfl⟩ := hv b8 _ List.mem_cons_self; exact xv_load1 ty3 rfl rfl (List.mem_append_left _ hm) rfl ⟨rfl, rfl⟩) ?_
          refine js_S rfl rfl (.inr ⟨_, _, rfl, rfl⟩) (xv_sub rfl rfl (wrap_i64 (by (first | omega | (dsimp only at *; omega) | (simp at *; omega))) (by (first | omega | (dsimp only at *; omega) | (simp at *; omega)))) ⟨rfl, rfl⟩) ?_
          refine js_S rfl rfl (.inr ⟨_, _, rfl, rfl⟩) (xv_move rfl ⟨rfl, rfl⟩) ?_
          refine js_S rfl rfl (.inr ⟨_, _, rfl, rfl⟩) (xv_add rfl rfl (wrap_i64 (by (first | omega | (dsimp only at *; omega) | (simp at *; omega))) (by (first | omega | (dsimp only at *; omega) | (simp at *; omega)))) ⟨rfl, rfl⟩) ?_
          have hmb := Int.mul_le_mul (show (dialAt r.dials house).rate.hi - (dialAt r.dials house).rate.lo ≤ 10000 by omega) (show (i : Int) + 1 ≤ 1048577 by (first | omega | (dsimp only at *; omega) | (simp at *; omega))) (by omega) (by omega)
          have hmz : 0 ≤ ((dialAt r.dials house).rate.hi - (dialAt r.dials house).rate.lo) * ((i : Int) + 1) := Int.mul_nonneg (by omega) (by omega)
          refine js_S rfl rfl (.inr ⟨_, _, rfl, rfl⟩) (xv_mul rfl rfl (wrap_i64 (by (first | omega | (dsimp only at *; omega) | (simp at *; omega))) (by (first | omega | (dsimp only at *; omega) | (simp at *; omega)))) ⟨rfl, rfl⟩) ?_
          refine js_S rfl rfl (.inr ⟨_, _, rfl, rfl⟩) (xv_faddr fl45_0 rfl ⟨rfl, rfl⟩) ?_
          refine js_R0 rfl rfl (.inr ⟨_, _, rfl, rfl⟩) (xv_load1 ty3 rfl rfl (by ((repeat first|exact z_0|assumption|refine z_1 ?_|(refine z_l ?_;(repeat first|exact z_0|assumption|refine z_1 ?_);done)|refine z_r ?_);done)) (by rfl) ⟨rfl, rfl⟩) ?_
          refine js_OL0 rfl rfl (.inr ⟨_, _, rfl, rfl⟩) (xv_calls rfl hb26 (Turn_c (by omega) (by omega) (up_ret ?_)))
          refine ⟨holds1 (by ((repeat first|exact z_0|assumption|refine z_1 ?_|(refine z_l ?_;(repeat first|exact z_0|assumption|refine z_1 ?_);done)|refine z_r ?_);done)) rfl, ?_⟩
          refine js_OL0 rfl rfl (.inr ⟨_, _, rfl, rfl⟩) (xv_lss2 rfl rfl (fun hq => ?_) (fun hq => ?_))
          · refine ⟨holds1 (by ((repeat first|exact z_0|assumption|refine z_1 ?_|(refine z_l ?_;(repeat first|exact z_0|assumption|refine z_1 ?_);done)|refine z_r ?_);done)) rfl, ?_⟩
            refine js_S rfl rfl (.inl rfl) (xv_pick rfl rfl ⟨rfl, rfl⟩) ?_
            refine j_end0 ?_
            refine th_n ?_
            refine xc_true rfl ?_
            refine xc_skip ?_
            refine th_n ?_
            refine xc_block ?_
            refine xc_region ?_
            refine xr_op rfl rfl (xv_move rfl ?_)
            refine xr_op rfl rfl (xv_add rfl rfl (wrap_i64 (by (first | omega | (dsimp only at *; omega) | (simp at *; omega))) (by (first | omega | (dsimp only at *; omega) | (simp at *; omega)))) ?_)
            refine xr_op rfl rfl (xv_assign rfl ?_)
            refine xr_end rfl ?_
            refine bk_n ?_
            exact rnd (i + 1) ⟨by (first | omega | (dsimp only at *; omega) | (simp at *; omega)), due_step hdo hi2 (by (first | omega | (dsimp only at *; omega) | (simp at *; omega))) (by (first | omega | (dsimp only at *; omega) | (simp at *; omega)))⟩ (by (first | omega | (dsimp only at *; omega) | (simp at *; omega))) (le_put (le_put (le_put (le_emp _) rfl) rfl) rfl) (by (first|((repeat first|exact s_0|exact s_1|exact s_3|refine s_4 ?_|refine s_5 ?_|refine s_6 ?_|refine s_7 ?_);done)|((repeat first|exact s_0|exact s_1|exact s_3|refine s_4 ?_|refine s_5 ?_|refine s_6 ?_|refine s_8 ?_);done)))
          · refine ⟨holds1 (by ((repeat first|exact z_0|assumption|refine z_1 ?_|(refine z_l ?_;(repeat first|exact z_0|assumption|refine z_1 ?_);done)|refine z_r ?_);done)) rfl, ?_⟩
            refine js_S rfl rfl (.inl rfl) (xv_pick rfl rfl ⟨rfl, rfl⟩) ?_
            refine j_end0 ?_
            refine th_n ?_
            refine xc_false rfl ?_
            refine xc_exit ?_
            refine th_x ?_
            refine th_x ?_
            refine bk_same ?_
            refine th_n ?_
            refine xc_seq (xc_region ?_)
            have hfin : xc.hour + i = min 1048576 (xc.hour + dueN (dialAt r.dials house)) := due_stop hdo hi2 hi1 (by first | exact .inl (by (first | omega | (dsimp only at *; omega) | (simp at *; omega))) | exact .inr (by (first | omega | (dsimp only at *; omega) | (simp at *; omega))))
            refine xr_op rfl rfl (xv_move rfl ?_)
            refine xr_op rfl rfl (xv_move rfl ?_)
            refine xr_op rfl rfl (xv_add rfl rfl (wrap_i64 (by (first | omega | (dsimp only at *; omega) | (simp at *; omega))) (by (first | omega | (dsimp only at *; omega) | (simp at *; omega)))) ?_)
            refine xr_op rfl rfl (xv_assign rfl ?_)
            refine xr_op rfl rfl (xv_assign rfl ?_)
            refine xr_end rfl ?_
            refine th_n ?_
            refine xc_ret ?_
            refine body_ret (h' := h) rfl (ro_tmp rfl (ro_tmp rfl ro_nil)) (by (first|((repeat first|exact s_0|exact s_1|exact s_3|refine s_4 ?_|refine s_5 ?_|refine s_6 ?_|refine s_7 ?_);done)|((repeat first|exact s_0|exact s_1|exact s_3|refine s_4 ?_|refine s_5 ?_|refine s_6 ?_|refine s_8 ?_);done))) ?_
            first | (rw [dueAns_e (start_1 hgood)] at H; exact H) | (rw [dueAns_e (start_2 hgood (bad00 hbad))] at H; exact H) | (rw [dueAns_e (start_5 hgood hho nohrs hrn)] at H; exact H) | (rw [dueAns_0 (start_0 hgood hho nohrs hrs) (by (first | omega | (dsimp only at *; omega) | (simp at *; omega)))] at H; exact H) | (rw [dueAns_t (start_0 hgood hho nohrs hrs) (List.getElem?_eq_getElem (by omega)) (by assumption)] at H; exact H) | (rw [dueAns_s (start_0 hgood hho nohrs hrs) hkc (by simp [*]), ← hfin] at H; exact H)
        · refine ⟨holds1 (by ((repeat first|exact z_0|assumption|refine z_1 ?_|(refine z_l ?_;(repeat first|exact z_0|assumption|refine z_1 ?_);done)|refine z_r ?_);done)) rfl, ?_⟩
          refine js_S rfl rfl (.inl rfl) (xv_move rfl ⟨rfl, rfl⟩) ?_
          refine js_Ss rfl rfl ⟨_, _, _, rfl, rfl, rfl⟩ ?_
          refine js_Ss rfl rfl ⟨_, _, _, rfl, rfl, rfl⟩ ?_
          refine js_Ss rfl rfl ⟨_, _, _, rfl, rfl, rfl⟩ ?_
          refine js_Ss rfl rfl ⟨_, _, _, rfl, rfl, rfl⟩ ?_
          refine js_Ss rfl rfl ⟨_, _, _, rfl, rfl, rfl⟩ ?_
          refine js_Ss rfl rfl ⟨_, _, _, rfl, rfl, rfl⟩ ?_
          refine js_Ss rfl rfl ⟨_, _, _, rfl, rfl, rfl⟩ ?_
          refine js_Ss rfl rfl ⟨_, _, _, rfl, rfl, rfl⟩ ?_
          refine js_Ss rfl rfl ⟨_, _, _, rfl, rfl, rfl⟩ ?_
          refine js_Ss rfl rfl ⟨_, _, _, rfl, rfl, rfl⟩ ?_
          refine js_Ss rfl rfl ⟨_, _, _, rfl, rfl, rfl⟩ ?_
          refine js_Rs rfl rfl ⟨_, _, _, rfl, rfl, rfl⟩ ?_
          refine js_Os rfl rfl ⟨_, _, _, rfl, rfl, rfl⟩ ?_
          refine js_Os rfl rfl ⟨_, _, _, rfl, rfl, rfl⟩ ?_
          refine js_S rfl rfl (.inl rfl) (xv_pick rfl rfl ⟨rfl, rfl⟩) ?_
          refine j_end0 ?_
          refine th_n ?_
          refine xc_false rfl ?_
          refine xc_exit ?_
          refine th_x ?_
          refine th_x ?_
          refine bk_same ?_
          refine th_n ?_
          refine xc_seq (xc_region ?_)
          have hfin : xc.hour + i = min 1048576 (xc.hour + dueN (dialAt r.dials house)) := due_stop hdo hi2 hi1 (by first | exact .inl (by (first | omega | (dsimp only at *; omega) | (simp at *; omega))) | exact .inr (by (first | omega | (dsimp only at *; omega) | (simp at *; omega))))
          refine xr_op rfl rfl (xv_move rfl ?_)
          refine xr_op rfl rfl (xv_move rfl ?_)
          refine xr_op rfl rfl (xv_add rfl rfl (wrap_i64 (by (first | omega | (dsimp only at *; omega) | (simp at *; omega))) (by (first | omega | (dsimp only at *; omega) | (simp at *; omega)))) ?_)
          refine xr_op rfl rfl (xv_assign rfl ?_)
          refine xr_op rfl rfl (xv_assign rfl ?_)
          refine xr_end rfl ?_
          refine th_n ?_
          refine xc_ret ?_
          refine body_ret (h' := h) rfl (ro_tmp rfl (ro_tmp rfl ro_nil)) (by (first|((repeat first|exact s_0|exact s_1|exact s_3|refine s_4 ?_|refine s_5 ?_|refine s_6 ?_|refine s_7 ?_);done)|((repeat first|exact s_0|exact s_1|exact s_3|refine s_4 ?_|refine s_5 ?_|refine s_6 ?_|refine s_8 ?_);done))) ?_
          first | (rw [dueAns_e (start_1 hgood)] at H; exact H) | (rw [dueAns_e (start_2 hgood (bad00 hbad))] at H; exact H) | (rw [dueAns_e (start_5 hgood hho nohrs hrn)] at H; exact H) | (rw [dueAns_0 (start_0 hgood hho nohrs hrs) (by (first | omega | (dsimp only at *; omega) | (simp at *; omega)))] at H; exact H) | (rw [dueAns_t (start_0 hgood hho nohrs hrs) (List.getElem?_eq_getElem (by omega)) (by assumption)] at H; exact H) | (rw [dueAns_s (start_0 hgood hho nohrs hrs) hkc (by simp [*]), ← hfin] at H; exact H)

end Go.Proofs.YtckaaaebegemoaaDoor
