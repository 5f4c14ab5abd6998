/-
  Walks.
-/
import Derived.Test.YtpefpafijadfmaaW20
import Derived.Test.YtpefpafijadfmaaHW
namespace Go.Proofs.Ytpefpafijadfmaa
open Go Go.H
set_option maxRecDepth 100000
set_option maxHeartbeats 8000000
set_option linter.all false
theorem Drawn_c {y : Yard} {h : Hp} {R : Ending → Hp → Prop} (hy : YardV h y) (hs : Small y) {draw : Int} (H : ∀ a c G, SlV G 2 ePart a (drawnA y draw).1 → R (.returned (.tuple ⟨[.slice a (drawnA y draw).1.length c, I (drawnA y draw).2]⟩)) (G ++ h)) : ACalls Try.prog 19 ⟨[.agg ⟨eYard y⟩, I draw]⟩ h R := by
  refine calls_of_xc (N := 34) Try.func19 rfl (by rfl) ?_
  obtain ⟨hs1, hs2⟩ := id hs
  refine xc_seq (xc_region ?_)
  refine xr_op rfl rfl (xv_box rfl (fun b2 hb2 => ?_))
  refine xr_op rfl rfl (xv_assign rfl ?_)
  refine xr_op rfl rfl (xv_assign rfl ?_)
  refine xr_end rfl ?_
  refine th_n ?_
  refine xc_seq (xc_region ?_)
  refine xr_op rfl rfl (xv_loadA ty25 rfl rfl (by ((repeat first|exact z_0|assumption|refine z_1 ?_|(refine z_l ?_;(repeat first|exact z_0|assumption|refine z_1 ?_);done)|refine z_r ?_);done)) (by ((try apply evl_some rfl);(repeat (first|exact (rfl : _ = [])|apply evl_cons rfl (by (first|exact v_1|exact v_2|exact v_3|exact v_4|exact v_5|exact v_6|exact v_7|exact v_8|exact v_9|exact rfl))|exact rfl)))) (by rfl) ?_)
  refine xr_op rfl rfl (xv_calls rfl hb30 (newShed_c (hy.sub (by intro z hz; ((repeat first|exact z_0|assumption|refine z_1 ?_|(refine z_l ?_;(repeat first|exact z_0|assumption|refine z_1 ?_);done)|refine z_r ?_);done))) hs (fun hng => up_ret ?_) (fun hgy hpn => up_ret ?_) (fun vs b la lc bs da dc ds G hgy hvs hsh => up_ret ?_)))
  · refine xr_op rfl rfl (xv_move rfl ?_)
    refine xr_op rfl rfl (xv_extract rfl rfl ?_)
    refine xr_op rfl rfl (xv_extract rfl rfl ?_)
    refine xr_op rfl rfl (xv_assign rfl ?_)
    refine xr_op rfl rfl (xv_assign rfl ?_)
    refine xr_end rfl ?_
    refine th_n ?_
    refine xc_seq ?_
    refine xc_block ?_
    refine xc_seq (xc_region ?_)
    refine xr_op rfl rfl (xv_move rfl ?_)
    refine xr_op rfl rfl (xv_neqT rfl rfl (by decide) ?_)
    refine xr_op rfl rfl (xv_assign rfl ?_)
    refine xr_end rfl ?_
    refine th_n ?_
    refine xc_true rfl ?_
    refine xc_seq (xc_region ?_)
    refine xr_op rfl rfl (xv_move rfl ?_)
    refine xr_op rfl rfl (xv_assign rfl ?_)
    refine xr_op rfl rfl (xv_assign rfl ?_)
    refine xr_end rfl ?_
    refine th_n ?_
    refine xc_ret ?_
    refine bk_r ?_
    refine th_r ?_
    refine body_ret (h' := ([] ++ h)) rfl (ro_tmp rfl (ro_tmp rfl ro_nil)) (by (first|((repeat first|exact s_0|exact s_1|exact s_3|refine s_4 ?_|refine s_5 ?_|refine s_6 ?_|refine s_7 ?_);done)|((repeat first|exact s_0|exact s_1|exact s_3|refine s_4 ?_|refine s_5 ?_|refine s_6 ?_|refine s_8 ?_);done))) ?_
    first | (rw [eans] at H; exact H xw.a xw.c G (hsh.parts xw (List.mem_of_getElem? hkw))) | (rw [drawnA_1 hng] at H; exact H none 0 [] (.inl rfl)) | (rw [drawnA_10 hgy hpn] at H; exact H none 0 [] (.inl rfl)) | (rw [drawnA_2 hgy hvs (by omega)] at H; exact H none 0 [] (.inl rfl))
  · refine xr_op rfl rfl (xv_move rfl ?_)
    refine xr_op rfl rfl (xv_extract rfl rfl ?_)
    refine xr_op rfl rfl (xv_extract rfl rfl ?_)
    refine xr_op rfl rfl (xv_assign rfl ?_)
    refine xr_op rfl rfl (xv_assign rfl ?_)
    refine xr_end rfl ?_
    refine th_n ?_
    refine xc_seq ?_
    refine xc_block ?_
    refine xc_seq (xc_region ?_)
    refine xr_op rfl rfl (xv_move rfl ?_)
    refine xr_op rfl rfl (xv_neqT rfl rfl (by decide) ?_)
    refine xr_op rfl rfl (xv_assign rfl ?_)
    refine xr_end rfl ?_
    refine th_n ?_
    refine xc_true rfl ?_
    refine xc_seq (xc_region ?_)
    refine xr_op rfl rfl (xv_move rfl ?_)
    refine xr_op rfl rfl (xv_assign rfl ?_)
    refine xr_op rfl rfl (xv_assign rfl ?_)
    refine xr_end rfl ?_
    refine th_n ?_
    refine xc_ret ?_
    refine bk_r ?_
    refine th_r ?_
    refine body_ret (h' := ([] ++ h)) rfl (ro_tmp rfl (ro_tmp rfl ro_nil)) (by (first|((repeat first|exact s_0|exact s_1|exact s_3|refine s_4 ?_|refine s_5 ?_|refine s_6 ?_|refine s_7 ?_);done)|((repeat first|exact s_0|exact s_1|exact s_3|refine s_4 ?_|refine s_5 ?_|refine s_6 ?_|refine s_8 ?_);done))) ?_
    first | (rw [eans] at H; exact H xw.a xw.c G (hsh.parts xw (List.mem_of_getElem? hkw))) | (rw [drawnA_1 hng] at H; exact H none 0 [] (.inl rfl)) | (rw [drawnA_10 hgy hpn] at H; exact H none 0 [] (.inl rfl)) | (rw [drawnA_2 hgy hvs (by omega)] at H; exact H none 0 [] (.inl rfl))
  · refine xr_op rfl rfl (xv_move rfl ?_)
    refine xr_op rfl rfl (xv_extract rfl rfl ?_)
    refine xr_op rfl rfl (xv_extract rfl rfl ?_)
    refine xr_op rfl rfl (xv_assign rfl ?_)
    refine xr_op rfl rfl (xv_assign rfl ?_)
    refine xr_end rfl ?_
    refine th_n ?_
    refine xc_seq ?_
    refine xc_block ?_
    refine xc_seq (xc_region ?_)
    refine xr_op rfl rfl (xv_move rfl ?_)
    refine xr_op rfl rfl (xv_neqF rfl rfl rfl ?_)
    refine xr_op rfl rfl (xv_assign rfl ?_)
    refine xr_end rfl ?_
    refine th_n ?_
    refine xc_false rfl ?_
    refine xc_seq (xc_region ?_)
    have hcn := hsh.cnt
    have hml := hsh.inv.few
    have hyl : y.moves.length ≤ 32 := hgy.2.2.2
    refine xr_op rfl rfl (xv_move rfl ?_)
    refine xr_op rfl rfl (xv_move rfl ?_)
    refine xr_op rfl rfl (xv_nilp rfl ?_)
    refine xr_op rfl rfl (xv_faddr fl73_2 rfl ?_)
    refine xr_op rfl rfl (xv_load1 ty71 rfl rfl (z_l hsh.top) (by rfl) ?_)
    refine xr_op rfl rfl (xv_len sl71 rfl ?_)
    refine xr_op rfl rfl (xv_sub rfl rfl (wrap_i64 (by (first|omega|(dsimp only at *;omega)|(simp at *;omega))) (by (first|omega|(dsimp only at *;omega)|(simp at *;omega)))) ?_)
    refine xr_op rfl rfl (xv_calls rfl hb31 (within_c _ _ _ (fun hl1 hu2 => up_ret ?_) (fun hn3 => up_ret ?_)))
    · refine xr_op rfl rfl (xv_not rfl ?_)
      refine xr_op rfl rfl (xv_assign rfl ?_)
      refine xr_end rfl ?_
      refine th_n ?_
      refine xc_false rfl ?_
      refine xc_skip ?_
      refine bk_n ?_
      refine th_n ?_
      refine xc_seq (xc_region ?_)
      have hdn : draw.toNat < ds.length := by (first|omega|(dsimp only at *;omega)|(simp at *;omega))
      have hltw : draw.toNat < ds.length := hdn
      obtain ⟨bw, ow, lw, tw, fzw, haw, hmw, hxw⟩ := (hsh.draws).at hltw
      obtain ⟨xw, hkw⟩ : ∃ qq_, ds[draw.toNat]? = some qq_ := ⟨_, List.getElem?_eq_getElem hltw⟩
      obtain ⟨v, hv, hvm⟩ := hsh.part hkw
      have eans := drawnA_0 (draw := draw) hgy hvs (by omega)
      rw [show vs.getD draw.toNat [] = v from by rw [List.getD_eq_getElem?_getD, hv]; rfl, ← hvm] at eans
      refine xr_op rfl rfl (xv_move rfl ?_)
      refine xr_op rfl rfl (xv_nilp rfl ?_)
      refine xr_op rfl rfl (xv_faddr fl73_2 rfl ?_)
      refine xr_op rfl rfl (xv_load1 ty71 rfl rfl (z_l hsh.top) (by rfl) ?_)
      refine xr_op rfl rfl (xv_move rfl ?_)
      refine xr_op rfl rfl (xv_ia (sz := 1) (j := draw.toNat) sl71 ty39 rfl (by rw [haw]; rfl) rfl (by (first | assumption | with_reducible exact Int.toNat_natCast _ | with_reducible rfl | rfl)) (by (first|omega|(dsimp only at *;omega)|(simp at *;omega))) (by (first|omega|(dsimp only at *;omega)|(simp at *;omega))) ?_)
      refine xr_op rfl rfl (xv_load1 ty39 rfl rfl (by ((repeat first|exact z_0|assumption|refine z_1 ?_|(refine z_l ?_;(repeat first|exact z_0|assumption|refine z_1 ?_);done)|refine z_r ?_);done)) (take_get (hxw (draw.toNat) xw hkw) (j := 0) rfl) ?_)
      refine xr_op rfl rfl (xv_assign rfl ?_)
      refine xr_op rfl rfl (xv_assign rfl ?_)
      refine xr_end rfl ?_
      refine th_n ?_
      refine xc_ret ?_
      refine body_ret (h' := (G ++ h)) rfl (ro_tmp rfl (ro_tmp rfl ro_nil)) (by (first|((repeat first|exact s_0|exact s_1|exact s_3|refine s_4 ?_|refine s_5 ?_|refine s_6 ?_|refine s_7 ?_);done)|((repeat first|exact s_0|exact s_1|exact s_3|refine s_4 ?_|refine s_5 ?_|refine s_6 ?_|refine s_8 ?_);done))) ?_
      first | (rw [eans] at H; exact H xw.a xw.c G (hsh.parts xw (List.mem_of_getElem? hkw))) | (rw [drawnA_1 hng] at H; exact H none 0 [] (.inl rfl)) | (rw [drawnA_10 hgy hpn] at H; exact H none 0 [] (.inl rfl)) | (rw [drawnA_2 hgy hvs (by omega)] at H; exact H none 0 [] (.inl rfl))
    · refine xr_op rfl rfl (xv_not rfl ?_)
      refine xr_op rfl rfl (xv_assign rfl ?_)
      refine xr_end rfl ?_
      refine th_n ?_
      refine xc_true rfl ?_
      refine xc_seq (xc_region ?_)
      refine xr_op rfl rfl (xv_assign rfl ?_)
      refine xr_op rfl rfl (xv_assign rfl ?_)
      refine xr_end rfl ?_
      refine th_n ?_
      refine xc_ret ?_
      refine bk_r ?_
      refine th_r ?_
      refine body_ret (h' := ([] ++ h)) rfl (ro_tmp rfl (ro_tmp rfl ro_nil)) (by (first|((repeat first|exact s_0|exact s_1|exact s_3|refine s_4 ?_|refine s_5 ?_|refine s_6 ?_|refine s_7 ?_);done)|((repeat first|exact s_0|exact s_1|exact s_3|refine s_4 ?_|refine s_5 ?_|refine s_6 ?_|refine s_8 ?_);done))) ?_
      first | (rw [eans] at H; exact H xw.a xw.c G (hsh.parts xw (List.mem_of_getElem? hkw))) | (rw [drawnA_1 hng] at H; exact H none 0 [] (.inl rfl)) | (rw [drawnA_10 hgy hpn] at H; exact H none 0 [] (.inl rfl)) | (rw [drawnA_2 hgy hvs (by omega)] at H; exact H none 0 [] (.inl rfl))

theorem Left_c {y : Yard} {h : Hp} {R : Ending → Hp → Prop} (hy : YardV h y) (hs : Small y) (H : ∀ a c G, SlV G 2 ePart a (leftA y).1 → R (.returned (.tuple ⟨[.slice a (leftA y).1.length c, I (leftA y).2]⟩)) (G ++ h)) : ACalls Try.prog 21 ⟨[.agg ⟨eYard y⟩]⟩ h R := by
  refine calls_of_xc (N := 41) Try.func21 rfl (by rfl) ?_
  obtain ⟨hs1, hs2⟩ := id hs
  refine xc_seq (xc_region ?_)
  refine xr_op rfl rfl (xv_box rfl (fun b1 hb1 => ?_))
  refine xr_op rfl rfl (xv_assign rfl ?_)
  refine xr_op rfl rfl (xv_assign rfl ?_)
  refine xr_end rfl ?_
  refine th_n ?_
  refine xc_seq (xc_region ?_)
  refine xr_op rfl rfl (xv_loadA ty25 rfl rfl (by ((repeat first|exact z_0|assumption|refine z_1 ?_|(refine z_l ?_;(repeat first|exact z_0|assumption|refine z_1 ?_);done)|refine z_r ?_);done)) (by ((try apply evl_some rfl);(repeat (first|exact (rfl : _ = [])|apply evl_cons rfl (by (first|exact v_1|exact v_2|exact v_3|exact v_4|exact v_5|exact v_6|exact v_7|exact v_8|exact v_9|exact rfl))|exact rfl)))) (by rfl) ?_)
  refine xr_op rfl rfl (xv_calls rfl hb30 (newShed_c (hy.sub (by intro z hz; ((repeat first|exact z_0|assumption|refine z_1 ?_|(refine z_l ?_;(repeat first|exact z_0|assumption|refine z_1 ?_);done)|refine z_r ?_);done))) hs (fun hng => up_ret ?_) (fun hgy hpn => up_ret ?_) (fun vs b la lc bs da dc ds G hgy hvs hsh => up_ret ?_)))
  · refine xr_op rfl rfl (xv_move rfl ?_)
    refine xr_op rfl rfl (xv_extract rfl rfl ?_)
    refine xr_op rfl rfl (xv_extract rfl rfl ?_)
    refine xr_op rfl rfl (xv_assign rfl ?_)
    refine xr_op rfl rfl (xv_assign rfl ?_)
    refine xr_end rfl ?_
    refine th_n ?_
    refine xc_seq ?_
    refine xc_seq (xc_region ?_)
    refine xr_op rfl rfl (xv_move rfl ?_)
    refine xr_op rfl rfl (xv_neqT rfl rfl (by decide) ?_)
    refine xr_end rfl ?_
    refine th_n ?_
    refine xc_true rfl ?_
    refine xc_seq (xc_region ?_)
    refine xr_op rfl rfl (xv_move rfl ?_)
    refine xr_op rfl rfl (xv_assign rfl ?_)
    refine xr_op rfl rfl (xv_assign rfl ?_)
    refine xr_end rfl ?_
    refine th_n ?_
    refine xc_ret ?_
    refine th_r ?_
    refine body_ret (h' := ([] ++ h)) rfl (ro_tmp rfl (ro_tmp rfl ro_nil)) (by (first|((repeat first|exact s_0|exact s_1|exact s_3|refine s_4 ?_|refine s_5 ?_|refine s_6 ?_|refine s_7 ?_);done)|((repeat first|exact s_0|exact s_1|exact s_3|refine s_4 ?_|refine s_5 ?_|refine s_6 ?_|refine s_8 ?_);done))) ?_
    first | (rw [eans] at H; rw [Vec.val_ad hU]; exact H U.ad U.cp _ (Vec.slvA ePart_len rfl hU)) | (rw [leftA_1 hng] at H; exact H none 0 [] (.inl rfl)) | (rw [leftA_10 hgy hpn] at H; exact H none 0 [] (.inl rfl))
  · refine xr_op rfl rfl (xv_move rfl ?_)
    refine xr_op rfl rfl (xv_extract rfl rfl ?_)
    refine xr_op rfl rfl (xv_extract rfl rfl ?_)
    refine xr_op rfl rfl (xv_assign rfl ?_)
    refine xr_op rfl rfl (xv_assign rfl ?_)
    refine xr_end rfl ?_
    refine th_n ?_
    refine xc_seq ?_
    refine xc_seq (xc_region ?_)
    refine xr_op rfl rfl (xv_move rfl ?_)
    refine xr_op rfl rfl (xv_neqT rfl rfl (by decide) ?_)
    refine xr_end rfl ?_
    refine th_n ?_
    refine xc_true rfl ?_
    refine xc_seq (xc_region ?_)
    refine xr_op rfl rfl (xv_move rfl ?_)
    refine xr_op rfl rfl (xv_assign rfl ?_)
    refine xr_op rfl rfl (xv_assign rfl ?_)
    refine xr_end rfl ?_
    refine th_n ?_
    refine xc_ret ?_
    refine th_r ?_
    refine body_ret (h' := ([] ++ h)) rfl (ro_tmp rfl (ro_tmp rfl ro_nil)) (by (first|((repeat first|exact s_0|exact s_1|exact s_3|refine s_4 ?_|refine s_5 ?_|refine s_6 ?_|refine s_7 ?_);done)|((repeat first|exact s_0|exact s_1|exact s_3|refine s_4 ?_|refine s_5 ?_|refine s_6 ?_|refine s_8 ?_);done))) ?_
    first | (rw [eans] at H; rw [Vec.val_ad hU]; exact H U.ad U.cp _ (Vec.slvA ePart_len rfl hU)) | (rw [leftA_1 hng] at H; exact H none 0 [] (.inl rfl)) | (rw [leftA_10 hgy hpn] at H; exact H none 0 [] (.inl rfl))
  · refine xr_op rfl rfl (xv_move rfl ?_)
    refine xr_op rfl rfl (xv_extract rfl rfl ?_)
    refine xr_op rfl rfl (xv_extract rfl rfl ?_)
    refine xr_op rfl rfl (xv_assign rfl ?_)
    refine xr_op rfl rfl (xv_assign rfl ?_)
    refine xr_end rfl ?_
    refine th_n ?_
    refine xc_seq ?_
    refine xc_seq (xc_region ?_)
    refine xr_op rfl rfl (xv_move rfl ?_)
    refine xr_op rfl rfl (xv_neqF rfl rfl rfl ?_)
    refine xr_end rfl ?_
    refine th_n ?_
    refine xc_false rfl ?_
    refine xc_skip ?_
    refine th_n ?_
    refine xc_seq ?_
    refine xc_seq (xc_region ?_)
    refine xr_op rfl rfl (xv_move rfl ?_)
    refine xr_op rfl rfl (xv_nilp rfl ?_)
    refine xr_op rfl rfl (xv_faddr fl73_1 rfl ?_)
    refine xr_op rfl rfl (xv_load1 ty70 rfl rfl (z_l hsh.top) (by rfl) ?_)
    refine xr_op rfl rfl (xv_len sl70 rfl ?_)
    refine xr_op rfl rfl (xv_move rfl ?_)
    refine xr_end rfl ?_
    refine th_n ?_
    refine xc_block ?_
    obtain ⟨hg1, hmv, ⟨hn1, hn6⟩, hl32⟩ := id hgy
    have hop := opn_le y.moves
    have hbn := hsh.len
    refine xc_loop (σ := Nat × Vec) (fun z => z.1 ≤ bs.length ∧ z.2.ok 2 (nzF (roomR y.coals.length y.moves y.moves.length vs) z.1).length ((nzF (roomR y.coals.length y.moves y.moves.length vs) z.1).flatMap ePart)) (fun z => (((((emp.put (some 1) (.pointer (some ⟨b1, 0, none⟩))).put (some 2) (z.2.val (nzF (roomR y.coals.length y.moves y.moves.length vs) z.1).length)).put (some 18) (.slice la bs.length lc)).put (some 19) (I bs.length)).put (some 20) (I z.1))) (fun z => (z.2.hp 43 ((nzF (roomR y.coals.length y.moves y.moves.length vs) z.1).flatMap ePart) ++ (G ++ (b1, .cells ⟨eYard y⟩ 25) :: h))) (fun z => bs.length - z.1) ((0, .nil) : Nat × Vec) ⟨Nat.zero_le _, rfl, rfl⟩ (le_put (le_put (le_put (le_put (le_put (le_emp _) rfl) rfl) rfl) rfl) rfl) (by (first|((repeat first|exact s_0|exact s_1|exact s_3|refine s_4 ?_|refine s_5 ?_|refine s_6 ?_|refine s_7 ?_);done)|((repeat first|exact s_0|exact s_1|exact s_3|refine s_4 ?_|refine s_5 ?_|refine s_6 ?_|refine s_8 ?_);done))) ?_
    rintro ⟨j, U⟩ ⟨hj, hU⟩
    dsimp only at hj hU
    have hnl := nzF_len (roomR y.coals.length y.moves y.moves.length vs) j
    refine xc_seq (xc_region ?_)
    refine xr_op rfl rfl (xv_lss2 rfl rfl (fun q1 => ?_) (fun q1 => ?_))
    · refine xr_end rfl ?_
      refine th_n ?_
      refine xc_seq ?_
      refine xc_true rfl ?_
      refine xc_skip ?_
      refine th_n ?_
      refine xc_seq ?_
      refine xc_block ?_
      refine xc_seq (xc_region ?_)
      have hltl : j < bs.length := by (first|omega|(dsimp only at *;omega)|(simp at *;omega))
      obtain ⟨bl, ol, ll, tl, fzl, hal, hml, hxl⟩ := (hsh.lays).at hltl
      obtain ⟨xl, hkl⟩ : ∃ qq_, bs[j]? = some qq_ := ⟨_, List.getElem?_eq_getElem hltl⟩
      have hlay := hsh.lay j xl hkl
      have hrj := room_nn hsh.inv j
      have hrj2 := room_le hmv hsh.inv j
      have hbig : (y.coals.length : Int) * (1048576 * (y.moves.length : Int)) ≤ 6 * (1048576 * 32) := Int.mul_le_mul (by omega) (by omega) (by omega) (by omega)
      refine xr_op rfl rfl (xv_move rfl ?_)
      refine xr_op rfl rfl (xv_ia (sz := 1) (j := j) sl70 ty105 rfl (by rw [hal]; rfl) rfl (by (first | assumption | with_reducible exact Int.toNat_natCast _ | with_reducible rfl | rfl)) (by (first|omega|(dsimp only at *;omega)|(simp at *;omega))) (by (first|omega|(dsimp only at *;omega)|(simp at *;omega))) ?_)
      refine xr_op rfl rfl (xv_load1 ty105 rfl rfl (z_r (z_l hml)) (take_get (hxl (j) xl hkl) (j := 0) rfl) ?_)
      refine xr_op rfl rfl (xv_assign rfl ?_)
      refine xr_op rfl rfl (xv_assign rfl ?_)
      refine xr_end rfl ?_
      refine th_n ?_
      refine xc_seq (xc_region ?_)
      refine xr_op rfl rfl (xv_move rfl ?_)
      refine xr_op rfl rfl (xv_nilp rfl ?_)
      refine xr_op rfl rfl (xv_faddr fl107_1 rfl ?_)
      refine xr_op rfl rfl (xv_load1 ty3 rfl rfl (z_r (z_l hlay)) (layF_left (by omega)) ?_)
      refine xr_op rfl rfl (xv_gtr2 rfl rfl (fun q2 => ?_) (fun q2 => ?_))
      · refine xr_end rfl ?_
        refine th_n ?_
        refine xc_true rfl ?_
        refine xc_region ?_
        refine xr_op rfl rfl (xv_move rfl ?_)
        refine xr_op rfl rfl (xv_move rfl ?_)
        refine xr_op rfl rfl (xv_move rfl ?_)
        refine xr_op rfl rfl (xv_nilp rfl ?_)
        refine xr_op rfl rfl (xv_faddr fl107_1 rfl ?_)
        refine xr_op rfl rfl (xv_load1 ty3 rfl rfl (z_r (z_l hlay)) (layF_left (by omega)) ?_)
        refine xr_op rfl rfl (xv_build bt43 rfl (by ((try apply evl_some rfl);(repeat (first|exact (rfl : _ = [])|apply evl_cons rfl (by (first|exact v_1|exact v_2|exact v_3|exact v_4|exact v_5|exact v_6|exact v_7|exact v_8|exact v_9|exact rfl))|exact rfl)))) ?_)
        refine xr_op rfl rfl ((al_buildSlice sl39 ty43 rfl rfl rfl rfl rfl (by ((try apply evl_some rfl);(repeat (first|exact (rfl : _ = [])|apply evl_cons rfl (by (first|exact v_1|exact v_2|exact v_3|exact v_4|exact v_5|exact v_6|exact v_7|exact v_8|exact v_9|exact rfl))|exact rfl))))).xv (fun b3 hb3 => ?_))
        refine xr_op rfl rfl (xv_append (V := U) (n := (nzF (roomR y.coals.length y.moves y.moves.length vs) j).length) (xs := (nzF (roomR y.coals.length y.moves y.moves.length vs) j).flatMap ePart) sl39 ty43 rfl rfl rfl hU (.there .here) (by ((repeat first|exact z_0|assumption|refine z_1 ?_|(refine z_l ?_;(repeat first|exact z_0|assumption|refine z_1 ?_);done)|refine z_r ?_);done)) (by ((try apply evl_some rfl);(repeat (first|exact (rfl : _ = [])|apply evl_cons rfl (by (first|exact v_1|exact v_2|exact v_3|exact v_4|exact v_5|exact v_6|exact v_7|exact v_8|exact v_9|exact rfl))|exact rfl)))) rfl rfl (by (first|omega|(dsimp only at *;omega)|(simp at *;omega))) (by simp only []; (first|omega|(dsimp only at *;omega)|(simp at *;omega))) (by (first|omega|(dsimp only at *;omega)|(simp at *;omega))) (fun U2 hU2 => ?_))
        refine xr_op rfl rfl (xv_assign rfl ?_)
        refine xr_end rfl ?_
        refine bk_n ?_
        refine th_n ?_
        refine xc_region ?_
        refine xr_op rfl rfl (xv_add rfl rfl (wrap_i64 (by (first|omega|(dsimp only at *;omega)|(simp at *;omega))) (by (first|omega|(dsimp only at *;omega)|(simp at *;omega)))) ?_)
        refine xr_op rfl rfl (xv_move rfl ?_)
        refine xr_end rfl ?_
        have hnz : nzF (roomR y.coals.length y.moves y.moves.length vs) (j + 1) = nzF (roomR y.coals.length y.moves y.moves.length vs) j ++ [⟨(j : Int), (roomR y.coals.length y.moves y.moves.length vs) j⟩] := by rw [nzF_succ]; exact if_pos (by (first|omega|(dsimp only at *;omega)|(simp at *;omega)))
        exact rnd ((j + 1, U2) : Nat × Vec) ⟨by (first|omega|(dsimp only at *;omega)|(simp at *;omega)), by dsimp only; rw [hnz, List.length_append, List.flatMap_append]; exact hU2⟩ (by (first|omega|(dsimp only at *;omega)|(simp at *;omega))) (le_put (le_put (le_put (le_put (le_put (le_emp _) rfl) (by dsimp only; rw [hnz, List.length_append]; rfl)) rfl) rfl) rfl) (by dsimp only; rw [hnz, List.flatMap_append]; (first|((repeat first|exact s_0|exact s_1|exact s_3|refine s_4 ?_|refine s_5 ?_|refine s_6 ?_|refine s_7 ?_);done)|((repeat first|exact s_0|exact s_1|exact s_3|refine s_4 ?_|refine s_5 ?_|refine s_6 ?_|refine s_8 ?_);done)))
      · refine xr_end rfl ?_
        refine th_n ?_
        refine xc_false rfl ?_
        refine xc_skip ?_
        refine bk_n ?_
        refine th_n ?_
        refine xc_region ?_
        refine xr_op rfl rfl (xv_add rfl rfl (wrap_i64 (by (first|omega|(dsimp only at *;omega)|(simp at *;omega))) (by (first|omega|(dsimp only at *;omega)|(simp at *;omega)))) ?_)
        refine xr_op rfl rfl (xv_move rfl ?_)
        refine xr_end rfl ?_
        have hnz : nzF (roomR y.coals.length y.moves y.moves.length vs) (j + 1) = nzF (roomR y.coals.length y.moves y.moves.length vs) j := by rw [nzF_succ]; exact if_neg (by (first|omega|(dsimp only at *;omega)|(simp at *;omega)))
        exact rnd ((j + 1, U) : Nat × Vec) ⟨by (first|omega|(dsimp only at *;omega)|(simp at *;omega)), by dsimp only; rw [hnz]; exact hU⟩ (by (first|omega|(dsimp only at *;omega)|(simp at *;omega))) (le_put (le_put (le_put (le_put (le_put (le_emp _) rfl) (by dsimp only; rw [hnz]; rfl)) rfl) rfl) rfl) (by dsimp only; rw [hnz]; (first|((repeat first|exact s_0|exact s_1|exact s_3|refine s_4 ?_|refine s_5 ?_|refine s_6 ?_|refine s_7 ?_);done)|((repeat first|exact s_0|exact s_1|exact s_3|refine s_4 ?_|refine s_5 ?_|refine s_6 ?_|refine s_8 ?_);done)))
    · refine xr_end rfl ?_
      refine th_n ?_
      refine xc_seq ?_
      refine xc_false rfl ?_
      refine xc_exit ?_
      refine th_x ?_
      refine th_x ?_
      refine bk_same ?_
      refine th_n ?_
      refine xc_seq (xc_region ?_)
      obtain rfl : bs.length = j := by (first|omega|(dsimp only at *;omega)|(simp at *;omega))
      have eans := leftA_0 hgy hvs
      rw [← hbn] at eans
      refine xr_op rfl rfl (xv_move rfl ?_)
      refine xr_op rfl rfl (xv_assign rfl ?_)
      refine xr_op rfl rfl (xv_assign rfl ?_)
      refine xr_end rfl ?_
      refine th_n ?_
      refine xc_ret ?_
      refine body_ret (h' := (U.hp 43 ((nzF (roomR y.coals.length y.moves y.moves.length vs) bs.length).flatMap ePart) ++ h)) rfl (ro_tmp rfl (ro_tmp rfl ro_nil)) (by (first|((repeat first|exact s_0|exact s_1|exact s_3|refine s_4 ?_|refine s_5 ?_|refine s_6 ?_|refine s_7 ?_);done)|((repeat first|exact s_0|exact s_1|exact s_3|refine s_4 ?_|refine s_5 ?_|refine s_6 ?_|refine s_8 ?_);done))) ?_
      first | (rw [eans] at H; rw [Vec.val_ad hU]; exact H U.ad U.cp _ (Vec.slvA ePart_len rfl hU)) | (rw [leftA_1 hng] at H; exact H none 0 [] (.inl rfl)) | (rw [leftA_10 hgy hpn] at H; exact H none 0 [] (.inl rfl))

end Go.Proofs.Ytpefpafijadfmaa
