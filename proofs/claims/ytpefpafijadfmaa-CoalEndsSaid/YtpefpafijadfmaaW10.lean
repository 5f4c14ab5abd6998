/-
  Walks.
-/
import Derived.Test.YtpefpafijadfmaaP2
import Derived.Test.YtpefpafijadfmaaHT
namespace Go.Proofs.Ytpefpafijadfmaa
open Go Go.H
set_option maxRecDepth 100000
set_option maxHeartbeats 8000000
set_option linter.all false
theorem Contents_c {y : Yard} {h : Hp} {R : Ending → Hp → Prop} (hy : YardV h y) {j : Int} {upto : Nat} (hmv : movesOk y.coals.length 0 y.moves) (hcl : y.coals.length ≤ 1000) (hl : y.moves.length ≤ 1000) (hu : upto ≤ y.moves.length)
    (H : ∀ b, R (.returned (.slice (some ⟨b, 0, none⟩) y.coals.length y.coals.length)) ((b, .cells ⟨(contF y.coals.length (y.moves.take upto) j).flatMap eI⟩ 3) :: h)) : ACalls Try.prog 20 ⟨[.agg ⟨eYard y⟩, I j, I (upto : Int)]⟩ h R := by
  refine calls_of_xc (N := 47) Try.func20 rfl (by rfl) ?_
  refine xc_seq (xc_region ?_)
  refine xr_op rfl rfl (xv_box rfl (fun b3 hb3 => ?_))
  refine xr_op rfl rfl (xv_assign rfl ?_)
  refine xr_end rfl ?_
  refine th_n ?_
  refine xc_seq (xc_region ?_)
  refine xr_op rfl rfl (xv_faddr fl25_0 rfl ?_)
  refine xr_op rfl rfl (xv_load1 ty22 rfl rfl (by ((repeat first|exact z_0|assumption|refine z_1 ?_|(refine z_l ?_;(repeat first|exact z_0|assumption|refine z_1 ?_);done)|refine z_r ?_);done)) (by rfl) ?_)
  refine xr_op rfl rfl (xv_len sl22 rfl ?_)
  refine xr_op rfl rfl (xv_make (l := (contF y.coals.length (y.moves.take 0) j).flatMap eI) sl38 ty3 rfl rfl (by (first | omega | (dsimp only at *; omega) | (simp at *; omega))) (by simp only []; (first | omega | (dsimp only at *; omega) | (simp at *; omega))) (by simp only []; (first | omega | (dsimp only at *; omega) | (simp at *; omega))) (make_ints _) (fun b13 hb13 => ?_))
  refine xr_op rfl rfl (xv_assign rfl ?_)
  refine xr_end rfl ?_
  refine th_n ?_
  refine xc_seq ?_
  refine xc_seq (xc_region ?_)
  refine xr_op rfl rfl (xv_assign rfl ?_)
  refine xr_end rfl ?_
  refine th_n ?_
  refine xc_block ?_
  refine xc_loop (σ := Nat) (fun k => k ≤ upto) (fun k => (((((emp.put (some 1) (I j)).put (some 2) (I (upto : Int))).put (some 3) (.pointer (some ⟨b3, 0, none⟩))).put (some 7) (.slice (some ⟨b13, 0, none⟩) y.coals.length y.coals.length)).put (some 8) (I k))) (fun k => ((b13, .cells ⟨(contF y.coals.length (y.moves.take k) j).flatMap eI⟩ 3) :: (b3, .cells ⟨eYard y⟩ 25) :: h)) (fun k => upto - k) 0 (Nat.zero_le _) (le_put (le_put (le_put (le_put (le_put (le_emp _) rfl) rfl) rfl) rfl) rfl) (by (first|((repeat first|exact s_0|exact s_1|exact s_3|refine s_4 ?_|refine s_5 ?_|refine s_6 ?_|refine s_7 ?_);done)|((repeat first|exact s_0|exact s_1|exact s_3|refine s_4 ?_|refine s_5 ?_|refine s_6 ?_|refine s_8 ?_);done))) ?_
  rintro k hk
  refine xc_seq ?_
  refine xc_seq (xc_region ?_)
  refine xr_op rfl rfl (xv_move rfl ?_)
  refine xr_op rfl rfl (xv_move rfl ?_)
  refine xr_op rfl rfl (xv_lss2 rfl rfl (fun q1 => ?_) (fun q1 => ?_))
  · refine xr_end rfl ?_
    refine th_n ?_
    refine xc_true rfl ?_
    refine xc_skip ?_
    refine th_n ?_
    refine xc_seq ?_
    refine xc_block ?_
    refine xc_seq (xc_region ?_)
    refine xr_op rfl rfl (xv_faddr fl25_1 rfl ?_)
    refine xr_op rfl rfl (xv_load1 ty23 rfl rfl (by ((repeat first|exact z_0|assumption|refine z_1 ?_|(refine z_l ?_;(repeat first|exact z_0|assumption|refine z_1 ?_);done)|refine z_r ?_);done)) (by rfl) ?_)
    refine xr_op rfl rfl (xv_move rfl ?_)
    have hlto : k < y.moves.length := by (first | omega | (dsimp only at *; omega) | (simp at *; omega))
    obtain ⟨bo, oo, lo, to, fzo, hao, hmo, hxo⟩ := (hy.moves).at hlto
    obtain ⟨xo, hko⟩ : ∃ qq_, y.moves[k]? = some qq_ := ⟨_, List.getElem?_eq_getElem hlto⟩
    obtain ⟨⟨m1, m2⟩, ⟨m3, m4⟩, m5, m6⟩ := movesOk_at hmv hko
    have hcl2 := contF_len y.coals.length (y.moves.take k) j
    have hcb := contF_bd (j := j) (movesOk_mono k hmv)
    refine xr_op rfl rfl (xv_ia (sz := 3) (j := k) sl23 ty63 rfl (by rw [hao]; rfl) rfl (by (first | assumption | with_reducible exact Int.toNat_natCast _ | with_reducible rfl | rfl)) (by (first | omega | (dsimp only at *; omega) | (simp at *; omega))) (by (first | omega | (dsimp only at *; omega) | (simp at *; omega))) ?_)
    refine xr_op rfl rfl (xv_loadA ty63 rfl rfl (by ((repeat first|exact z_0|assumption|refine z_1 ?_|(refine z_l ?_;(repeat first|exact z_0|assumption|refine z_1 ?_);done)|refine z_r ?_);done)) (hxo (k) xo hko) rfl ?_)
    refine xr_op rfl rfl (xv_alloc ty63 (fun b9 hb9 => ?_))
    refine xr_op rfl rfl (xv_s ty63 rfl rfl (by (first|(apply u_3;(repeat first|exact u_0|assumption|apply u_1|apply u_2);done)|((repeat first|exact u_0|assumption|apply u_1|apply u_2);done)|(apply u_3;apply u_3;(repeat first|exact u_0|assumption|apply u_1|apply u_2);done)|((repeat first|exact u_0|assumption|apply u_3|apply u_1);done))) (by ((try apply evl_some rfl);(repeat (first|exact (rfl : _ = [])|apply evl_cons rfl (by (first|exact v_1|exact v_2|exact v_3|exact v_4|exact v_5|exact v_6|exact v_7|exact v_8|exact v_9|exact rfl))|exact rfl)))) (by rfl) (by rfl) (by rfl) (by ((try apply evl_some rfl);(repeat (first|exact (rfl : _ = [])|apply evl_cons rfl (by (first|exact v_1|exact v_2|exact v_3|exact v_4|exact v_5|exact v_6|exact v_7|exact v_8|exact v_9|exact rfl))|exact rfl)))) ?_)
    refine xr_end rfl ?_
    refine th_n ?_
    refine xc_seq (xc_region ?_)
    refine xr_op rfl rfl (xv_faddr fl63_1 rfl ?_)
    refine xr_op rfl rfl (xv_load1 ty3 rfl rfl (by ((repeat first|exact z_0|assumption|refine z_1 ?_|(refine z_l ?_;(repeat first|exact z_0|assumption|refine z_1 ?_);done)|refine z_r ?_);done)) (by rfl) ?_)
    refine xr_op rfl rfl (xv_neq2 rfl rfl (fun q2 => ?_) (fun q2 => ?_))
    · refine xr_op rfl rfl (xv_move rfl ?_)
      refine xr_gd rfl rfl rfl (xv_loadA ty25 rfl rfl (by ((repeat first|exact z_0|assumption|refine z_1 ?_|(refine z_l ?_;(repeat first|exact z_0|assumption|refine z_1 ?_);done)|refine z_r ?_);done)) (by ((try apply evl_some rfl);(repeat (first|exact (rfl : _ = [])|apply evl_cons rfl (by (first|exact v_1|exact v_2|exact v_3|exact v_4|exact v_5|exact v_6|exact v_7|exact v_8|exact v_9|exact rfl))|exact rfl)))) (by rfl) ?_)
      refine xr_gd rfl rfl rfl (xv_move rfl ?_)
      refine xr_gd rfl rfl rfl (xv_calls rfl hb50 (layer_c (i := k) (hy.sub (by intro z hz; ((repeat first|exact z_0|assumption|refine z_1 ?_|(refine z_l ?_;(repeat first|exact z_0|assumption|refine z_1 ?_);done)|refine z_r ?_);done))) hmv rfl (by (first | omega | (dsimp only at *; omega) | (simp at *; omega))) hl (up_ret ?_)))
      refine xr_gd rfl rfl rfl (xv_move rfl ?_)
      refine xr_gd rfl rfl rfl (xv_eql2 rfl rfl (fun q3 => ?_) (fun q3 => ?_))
      · refine xr_op rfl rfl (xv_pick rfl rfl ?_)
        refine xr_end rfl ?_
        refine th_n ?_
        refine xc_true rfl ?_
        refine xc_draw0 [(0, .S), (1, .S), (2, .R), (3, .S), (4, .S), (5, .R), (6, .S), (7, .R), (8, .S), (9, .R), (10, .S), (11, .S), (12, .O)] mixed (by kernel_rfl) ?_
        obtain ⟨v, hkv⟩ : ∃ v, (contF y.coals.length (y.moves.take k) j)[xo.coal.toNat]? = some v := ⟨_, List.getElem?_eq_getElem (by (first | omega | (dsimp only at *; omega) | (simp at *; omega)))⟩
        have hgd : (contF y.coals.length (y.moves.take k) j).getD xo.coal.toNat 0 = v := by rw [List.getD_eq_getElem?_getD, hkv]; rfl
        have hvb := hcb v (List.mem_of_getElem? hkv)
        rw [List.length_take] at hvb
        refine js_S rfl rfl (.inl rfl) (xv_move rfl ⟨rfl, rfl⟩) ?_
        refine js_S rfl rfl (.inl rfl) (xv_faddr fl63_1 rfl ⟨rfl, rfl⟩) ?_
        refine js_R0 rfl rfl (.inl rfl) (xv_load1 ty3 rfl rfl (by ((repeat first|exact z_0|assumption|refine z_1 ?_|(refine z_l ?_;(repeat first|exact z_0|assumption|refine z_1 ?_);done)|refine z_r ?_);done)) (by rfl) ⟨rfl, rfl⟩) ?_
        refine js_S rfl rfl (.inl rfl) (xv_move rfl ⟨rfl, rfl⟩) ?_
        refine js_S rfl rfl (.inl rfl) (xv_faddr fl63_1 rfl ⟨rfl, rfl⟩) ?_
        refine js_R0 rfl rfl (.inl rfl) (xv_load1 ty3 rfl rfl (by ((repeat first|exact z_0|assumption|refine z_1 ?_|(refine z_l ?_;(repeat first|exact z_0|assumption|refine z_1 ?_);done)|refine z_r ?_);done)) (by rfl) ⟨rfl, rfl⟩) ?_
        refine js_S rfl rfl (.inl rfl) (xv_ia (sz := 1) (j := xo.coal.toNat) sl38 ty3 rfl rfl rfl (by omega) (by (first | omega | (dsimp only at *; omega) | (simp at *; omega))) (by (first | omega | (dsimp only at *; omega) | (simp at *; omega))) ⟨rfl, rfl⟩) ?_
        refine js_R0 rfl rfl (.inl rfl) (xv_load1 ty3 rfl rfl (by ((repeat first|exact z_0|assumption|refine z_1 ?_|(refine z_l ?_;(repeat first|exact z_0|assumption|refine z_1 ?_);done)|refine z_r ?_);done)) (ints_get hkv) ⟨rfl, rfl⟩) ?_
        refine js_S rfl rfl (.inl rfl) (xv_faddr fl63_2 rfl ⟨rfl, rfl⟩) ?_
        refine js_R0 rfl rfl (.inl rfl) (xv_load1 ty3 rfl rfl (by ((repeat first|exact z_0|assumption|refine z_1 ?_|(refine z_l ?_;(repeat first|exact z_0|assumption|refine z_1 ?_);done)|refine z_r ?_);done)) (by rfl) ⟨rfl, rfl⟩) ?_
        refine js_S rfl rfl (.inl rfl) (xv_add rfl rfl (wrap_i64 (by (first | omega | (dsimp only at *; omega) | (simp at *; omega))) (by (first | omega | (dsimp only at *; omega) | (simp at *; omega)))) ⟨rfl, rfl⟩) ?_
        refine js_S rfl rfl (.inl rfl) (xv_ia (sz := 1) (j := xo.coal.toNat) sl38 ty3 rfl rfl rfl (by omega) (by (first | omega | (dsimp only at *; omega) | (simp at *; omega))) (by (first | omega | (dsimp only at *; omega) | (simp at *; omega))) ⟨rfl, rfl⟩) ?_
        refine js_O0 rfl rfl (.inl rfl) (xv_s1 (l := (contF y.coals.length (y.moves.take k) j).flatMap eI) (l' := ((contF y.coals.length (y.moves.take k) j).set xo.coal.toNat ((contF y.coals.length (y.moves.take k) j).getD xo.coal.toNat 0 + xo.tons)).flatMap eI) ty3 rfl rfl rfl (by (first|(apply u_3;(repeat first|exact u_0|assumption|apply u_1|apply u_2);done)|((repeat first|exact u_0|assumption|apply u_1|apply u_2);done)|(apply u_3;apply u_3;(repeat first|exact u_0|assumption|apply u_1|apply u_2);done)|((repeat first|exact u_0|assumption|apply u_3|apply u_1);done))) rfl (by rw [ints_len]; (first | omega | (dsimp only at *; omega) | (simp at *; omega))) (by rw [hgd]; exact ints_setN (by (first | omega | (dsimp only at *; omega) | (simp at *; omega)))) ?_)
        refine j_end0 ?_
        refine bk_n ?_
        refine th_n ?_
        refine xc_region ?_
        refine xr_op rfl rfl (xv_move rfl ?_)
        refine xr_op rfl rfl (xv_add rfl rfl (wrap_i64 (by (first | omega | (dsimp only at *; omega) | (simp at *; omega))) (by (first | omega | (dsimp only at *; omega) | (simp at *; omega)))) ?_)
        refine xr_op rfl rfl (xv_assign rfl ?_)
        refine xr_end rfl ?_
        have hcn : (contF y.coals.length (y.moves.take (k + 1)) j) = (contF y.coals.length (y.moves.take k) j).set xo.coal.toNat ((contF y.coals.length (y.moves.take k) j).getD xo.coal.toNat 0 + xo.tons) := by rw [contF_take hko]; first | exact if_pos ⟨by (first | omega | (dsimp only at *; omega) | (simp at *; omega)), by (first | omega | (dsimp only at *; omega) | (simp at *; omega))⟩ | exact if_neg (fun hq9 => by omega)
        exact rnd (k + 1) (by (first | omega | (dsimp only at *; omega) | (simp at *; omega))) (by (first | omega | (dsimp only at *; omega) | (simp at *; omega))) (le_put (le_put (le_put (le_put (le_put (le_emp _) rfl) rfl) rfl) rfl) rfl) (by rw [hcn]; (first|((repeat first|exact s_0|exact s_1|exact s_3|refine s_4 ?_|refine s_5 ?_|refine s_6 ?_|refine s_7 ?_);done)|((repeat first|exact s_0|exact s_1|exact s_3|refine s_4 ?_|refine s_5 ?_|refine s_6 ?_|refine s_8 ?_);done)))
      · refine xr_op rfl rfl (xv_pick rfl rfl ?_)
        refine xr_end rfl ?_
        refine th_n ?_
        refine xc_false rfl ?_
        refine xc_skip ?_
        refine bk_n ?_
        refine th_n ?_
        refine xc_region ?_
        refine xr_op rfl rfl (xv_move rfl ?_)
        refine xr_op rfl rfl (xv_add rfl rfl (wrap_i64 (by (first | omega | (dsimp only at *; omega) | (simp at *; omega))) (by (first | omega | (dsimp only at *; omega) | (simp at *; omega)))) ?_)
        refine xr_op rfl rfl (xv_assign rfl ?_)
        refine xr_end rfl ?_
        have hcn : (contF y.coals.length (y.moves.take (k + 1)) j) = (contF y.coals.length (y.moves.take k) j) := by rw [contF_take hko]; first | exact if_pos ⟨by (first | omega | (dsimp only at *; omega) | (simp at *; omega)), by (first | omega | (dsimp only at *; omega) | (simp at *; omega))⟩ | exact if_neg (fun hq9 => by omega)
        exact rnd (k + 1) (by (first | omega | (dsimp only at *; omega) | (simp at *; omega))) (by (first | omega | (dsimp only at *; omega) | (simp at *; omega))) (le_put (le_put (le_put (le_put (le_put (le_emp _) rfl) rfl) rfl) rfl) rfl) (by rw [hcn]; (first|((repeat first|exact s_0|exact s_1|exact s_3|refine s_4 ?_|refine s_5 ?_|refine s_6 ?_|refine s_7 ?_);done)|((repeat first|exact s_0|exact s_1|exact s_3|refine s_4 ?_|refine s_5 ?_|refine s_6 ?_|refine s_8 ?_);done)))
    · refine xr_op rfl rfl (xv_move rfl ?_)
      refine xr_no rfl rfl rfl rfl ?_
      refine xr_no rfl rfl rfl rfl ?_
      refine xr_no rfl rfl rfl rfl ?_
      refine xr_no rfl rfl rfl rfl ?_
      refine xr_no rfl rfl rfl rfl ?_
      refine xr_op rfl rfl (xv_pick rfl rfl ?_)
      refine xr_end rfl ?_
      refine th_n ?_
      refine xc_false rfl ?_
      refine xc_skip ?_
      refine bk_n ?_
      refine th_n ?_
      refine xc_region ?_
      refine xr_op rfl rfl (xv_move rfl ?_)
      refine xr_op rfl rfl (xv_add rfl rfl (wrap_i64 (by (first | omega | (dsimp only at *; omega) | (simp at *; omega))) (by (first | omega | (dsimp only at *; omega) | (simp at *; omega)))) ?_)
      refine xr_op rfl rfl (xv_assign rfl ?_)
      refine xr_end rfl ?_
      have hcn : (contF y.coals.length (y.moves.take (k + 1)) j) = (contF y.coals.length (y.moves.take k) j) := by rw [contF_take hko]; first | exact if_pos ⟨by (first | omega | (dsimp only at *; omega) | (simp at *; omega)), by (first | omega | (dsimp only at *; omega) | (simp at *; omega))⟩ | exact if_neg (fun hq9 => by omega)
      exact rnd (k + 1) (by (first | omega | (dsimp only at *; omega) | (simp at *; omega))) (by (first | omega | (dsimp only at *; omega) | (simp at *; omega))) (le_put (le_put (le_put (le_put (le_put (le_emp _) rfl) rfl) rfl) rfl) rfl) (by rw [hcn]; (first|((repeat first|exact s_0|exact s_1|exact s_3|refine s_4 ?_|refine s_5 ?_|refine s_6 ?_|refine s_7 ?_);done)|((repeat first|exact s_0|exact s_1|exact s_3|refine s_4 ?_|refine s_5 ?_|refine s_6 ?_|refine s_8 ?_);done)))
  · refine xr_end rfl ?_
    refine th_n ?_
    refine xc_false rfl ?_
    refine xc_exit ?_
    refine th_x ?_
    refine th_x ?_
    refine bk_same ?_
    refine th_n ?_
    refine xc_seq (xc_region ?_)
    obtain rfl : upto = k := by (first | omega | (dsimp only at *; omega) | (simp at *; omega))
    refine xr_op rfl rfl (xv_move rfl ?_)
    refine xr_op rfl rfl (xv_assign rfl ?_)
    refine xr_end rfl ?_
    refine th_n ?_
    refine xc_ret ?_
    refine body_ret (h' := ((b13, .cells ⟨(contF y.coals.length (y.moves.take upto) j).flatMap eI⟩ 3) :: h)) rfl (ro_tmp rfl ro_nil) (by (first|((repeat first|exact s_0|exact s_1|exact s_3|refine s_4 ?_|refine s_5 ?_|refine s_6 ?_|refine s_7 ?_);done)|((repeat first|exact s_0|exact s_1|exact s_3|refine s_4 ?_|refine s_5 ?_|refine s_6 ?_|refine s_8 ?_);done))) ?_
    exact H b13

theorem Spans_c {a a2 : Option Addr} {c c2 : Nat} {xs ys : List Span} {h : Hp} {R : Ending → Hp → Prop} (hs : SlV h 2 eSpan a xs) (hs2 : SlV h 2 eSpan a2 ys) (hl : xs.length ≤ 1000000) (hl2 : ys.length ≤ 4611686018427387904)
    (H : R (.returned (.bool (decide (xs = ys)))) h) :
    ACalls Try.prog 15 ⟨[.slice a xs.length c, .slice a2 ys.length c2]⟩ h R := by
  refine calls_of_xc (N := 26) Try.func15 rfl (by rfl) ?_
  refine xc_seq (xc_region ?_)
  refine xr_op rfl rfl (xv_assign rfl ?_)
  refine xr_end rfl ?_
  refine th_n ?_
  refine xc_seq ?_
  refine xc_seq (xc_region ?_)
  refine xr_op rfl rfl (xv_move rfl ?_)
  refine xr_op rfl rfl (xv_len sl28 rfl ?_)
  refine xr_op rfl rfl (xv_move rfl ?_)
  refine xr_op rfl rfl (xv_len sl28 rfl ?_)
  refine xr_op rfl rfl (xv_neq2 rfl rfl (fun q1 => ?_) (fun q1 => ?_))
  · refine xr_end rfl ?_
    refine th_n ?_
    refine xc_true rfl ?_
    refine xc_seq (xc_region ?_)
    refine xr_op rfl rfl (xv_assign rfl ?_)
    refine xr_end rfl ?_
    refine th_n ?_
    refine xc_ret ?_
    refine th_r ?_
    refine body_ret (h' := h) rfl (ro_tmp rfl ro_nil) (by (first|((repeat first|exact s_0|exact s_1|exact s_3|refine s_4 ?_|refine s_5 ?_|refine s_6 ?_|refine s_7 ?_);done)|((repeat first|exact s_0|exact s_1|exact s_3|refine s_4 ?_|refine s_5 ?_|refine s_6 ?_|refine s_8 ?_);done))) ?_
    first | (rw [decide_eq_true hxy] at H; exact H) | (rw [decide_eq_false hne] at H; exact H) | (rw [decide_eq_false (fun hq => by subst hq; omega)] at H; exact H)
  · refine xr_end rfl ?_
    refine th_n ?_
    refine xc_false rfl ?_
    refine xc_skip ?_
    refine th_n ?_
    refine xc_seq ?_
    refine xc_seq (xc_region ?_)
    refine xr_op rfl rfl (xv_assign rfl ?_)
    refine xr_end rfl ?_
    refine th_n ?_
    refine xc_block ?_
    have hle : xs.length = ys.length := by (first | omega | (dsimp only at *; omega) | (simp at *; omega))
    refine xc_loop (σ := Nat) (fun k => k ≤ xs.length ∧ xs.take k = ys.take k) (fun k => (((emp.put (some 0) (.slice a xs.length c)).put (some 1) (.slice a2 ys.length c2)).put (some 5) (I k))) (fun k => h) (fun k => xs.length - k) 0 ⟨Nat.zero_le _, rfl⟩ (le_put (le_put (le_put (le_emp _) rfl) rfl) rfl) (by (first|((repeat first|exact s_0|exact s_1|exact s_3|refine s_4 ?_|refine s_5 ?_|refine s_6 ?_|refine s_7 ?_);done)|((repeat first|exact s_0|exact s_1|exact s_3|refine s_4 ?_|refine s_5 ?_|refine s_6 ?_|refine s_8 ?_);done))) ?_
    rintro k ⟨hk, hall⟩
    refine xc_seq ?_
    refine xc_seq (xc_region ?_)
    refine xr_op rfl rfl (xv_move rfl ?_)
    refine xr_op rfl rfl (xv_move rfl ?_)
    refine xr_op rfl rfl (xv_len sl28 rfl ?_)
    refine xr_op rfl rfl (xv_lss2 rfl rfl (fun q2 => ?_) (fun q2 => ?_))
    · refine xr_end rfl ?_
      refine th_n ?_
      refine xc_true rfl ?_
      refine xc_skip ?_
      refine th_n ?_
      refine xc_seq ?_
      refine xc_block ?_
      refine xc_seq ?_
      refine xc_draw0 [(0, .S), (1, .S), (2, .S), (3, .R), (4, .S), (5, .S), (6, .S), (7, .R), (8, .S)] mixed (by kernel_rfl) ?_
      have hlto : k < xs.length := by (first | omega | (dsimp only at *; omega) | (simp at *; omega))
      obtain ⟨bo, oo, lo, to, fzo, hao, hmo, hxo⟩ := (hs).at hlto
      obtain ⟨xo, hko⟩ : ∃ qq_, xs[k]? = some qq_ := ⟨_, List.getElem?_eq_getElem hlto⟩
      have hltp : k < ys.length := by (first | omega | (dsimp only at *; omega) | (simp at *; omega))
      obtain ⟨bp, op, lp, tp, fzp, hap, hmp, hxp⟩ := (hs2).at hltp
      obtain ⟨xp, hkp⟩ : ∃ qq_, ys[k]? = some qq_ := ⟨_, List.getElem?_eq_getElem hltp⟩
      refine js_S rfl rfl (.inl rfl) (xv_move rfl ⟨rfl, rfl⟩) ?_
      refine js_S rfl rfl (.inl rfl) (xv_move rfl ⟨rfl, rfl⟩) ?_
      refine js_S rfl rfl (.inl rfl) (xv_ia (sz := 2) (j := k) sl28 ty33 rfl (by rw [hao]; rfl) rfl (by (first | assumption | with_reducible exact Int.toNat_natCast _ | with_reducible rfl | rfl)) (by (first | omega | (dsimp only at *; omega) | (simp at *; omega))) (by (first | omega | (dsimp only at *; omega) | (simp at *; omega))) ⟨rfl, rfl⟩) ?_
      refine js_R0 rfl rfl (.inl rfl) (xv_loadA ty33 rfl rfl (by ((repeat first|exact z_0|assumption|refine z_1 ?_|(refine z_l ?_;(repeat first|exact z_0|assumption|refine z_1 ?_);done)|refine z_r ?_);done)) (hxo (k) xo hko) rfl ⟨rfl, rfl⟩) ?_
      refine js_S rfl rfl (.inl rfl) (xv_move rfl ⟨rfl, rfl⟩) ?_
      refine js_S rfl rfl (.inl rfl) (xv_move rfl ⟨rfl, rfl⟩) ?_
      refine js_S rfl rfl (.inl rfl) (xv_ia (sz := 2) (j := k) sl28 ty33 rfl (by rw [hap]; rfl) rfl (by (first | assumption | with_reducible exact Int.toNat_natCast _ | with_reducible rfl | rfl)) (by (first | omega | (dsimp only at *; omega) | (simp at *; omega))) (by (first | omega | (dsimp only at *; omega) | (simp at *; omega))) ⟨rfl, rfl⟩) ?_
      refine js_R0 rfl rfl (.inl rfl) (xv_loadA ty33 rfl rfl (by ((repeat first|exact z_0|assumption|refine z_1 ?_|(refine z_l ?_;(repeat first|exact z_0|assumption|refine z_1 ?_);done)|refine z_r ?_);done)) (hxp (k) xp hkp) rfl ⟨rfl, rfl⟩) ?_
      refine js_S rfl rfl (.inl rfl) (xv_neA (b := !decide (xo = xp)) fq33 rfl eg33 rfl rfl rfl rfl (by ((repeat' first | assumption | exact numNil | refine numCons ?_ | refine numApp ?_ ?_); done)) (by ((repeat' first | assumption | exact numNil | refine numCons ?_ | refine numApp ?_ ?_); done)) (eqc_spanD xo xp) ⟨rfl, rfl⟩) ?_
      refine j_end0 ?_
      refine th_n ?_
      refine xc_bool rfl (fun q3 => ?_) (fun q3 => ?_)
      · refine xc_seq (xc_region ?_)
        have hne : ¬ xs = ys := fun hq => by subst hq; have hq2 := Option.some.inj (hko.symm.trans hkp); simp_all
        refine xr_op rfl rfl (xv_assign rfl ?_)
        refine xr_end rfl ?_
        refine th_n ?_
        refine xc_ret ?_
        refine bk_r ?_
        refine th_r ?_
        refine th_r ?_
        refine bk_r ?_
        refine th_r ?_
        refine body_ret (h' := h) rfl (ro_tmp rfl ro_nil) (by (first|((repeat first|exact s_0|exact s_1|exact s_3|refine s_4 ?_|refine s_5 ?_|refine s_6 ?_|refine s_7 ?_);done)|((repeat first|exact s_0|exact s_1|exact s_3|refine s_4 ?_|refine s_5 ?_|refine s_6 ?_|refine s_8 ?_);done))) ?_
        first | (rw [decide_eq_true hxy] at H; exact H) | (rw [decide_eq_false hne] at H; exact H) | (rw [decide_eq_false (fun hq => by subst hq; omega)] at H; exact H)
      · refine xc_skip ?_
        refine bk_n ?_
        refine th_n ?_
        refine xc_region ?_
        have heq : xo = xp := by simp_all
        refine xr_op rfl rfl (xv_move rfl ?_)
        refine xr_op rfl rfl (xv_add rfl rfl (wrap_i64 (by (first | omega | (dsimp only at *; omega) | (simp at *; omega))) (by (first | omega | (dsimp only at *; omega) | (simp at *; omega)))) ?_)
        refine xr_op rfl rfl (xv_assign rfl ?_)
        refine xr_end rfl ?_
        exact rnd (k + 1) ⟨by (first | omega | (dsimp only at *; omega) | (simp at *; omega)), by rw [List.take_add_one, List.take_add_one, hko, hkp, hall, heq]⟩ (by (first | omega | (dsimp only at *; omega) | (simp at *; omega))) (le_put (le_put (le_put (le_emp _) rfl) rfl) rfl) (by (first|((repeat first|exact s_0|exact s_1|exact s_3|refine s_4 ?_|refine s_5 ?_|refine s_6 ?_|refine s_7 ?_);done)|((repeat first|exact s_0|exact s_1|exact s_3|refine s_4 ?_|refine s_5 ?_|refine s_6 ?_|refine s_8 ?_);done)))
    · refine xr_end rfl ?_
      refine th_n ?_
      refine xc_false rfl ?_
      refine xc_exit ?_
      refine th_x ?_
      refine th_x ?_
      refine bk_same ?_
      refine th_n ?_
      refine xc_seq (xc_region ?_)
      obtain rfl : k = xs.length := by (first | omega | (dsimp only at *; omega) | (simp at *; omega))
      have hxy : xs = ys := by rw [List.take_length] at hall; rw [hall, hle, List.take_length]
      refine xr_op rfl rfl (xv_assign rfl ?_)
      refine xr_end rfl ?_
      refine th_n ?_
      refine xc_ret ?_
      refine body_ret (h' := h) rfl (ro_tmp rfl ro_nil) (by (first|((repeat first|exact s_0|exact s_1|exact s_3|refine s_4 ?_|refine s_5 ?_|refine s_6 ?_|refine s_7 ?_);done)|((repeat first|exact s_0|exact s_1|exact s_3|refine s_4 ?_|refine s_5 ?_|refine s_6 ?_|refine s_8 ?_);done))) ?_
      first | (rw [decide_eq_true hxy] at H; exact H) | (rw [decide_eq_false hne] at H; exact H) | (rw [decide_eq_false (fun hq => by subst hq; omega)] at H; exact H)

theorem Lists_c {a a2 : Option Addr} {c c2 : Nat} {xs ys : List Part} {h : Hp} {R : Ending → Hp → Prop} (hs : SlV h 2 ePart a xs) (hs2 : SlV h 2 ePart a2 ys) (hl : xs.length ≤ 1000000) (hl2 : ys.length ≤ 4611686018427387904)
    (H : R (.returned (.bool (decide (xs = ys)))) h) :
    ACalls Try.prog 23 ⟨[.slice a xs.length c, .slice a2 ys.length c2]⟩ h R := by
  refine calls_of_xc (N := 26) Try.func23 rfl (by rfl) ?_
  refine xc_seq (xc_region ?_)
  refine xr_op rfl rfl (xv_assign rfl ?_)
  refine xr_end rfl ?_
  refine th_n ?_
  refine xc_seq ?_
  refine xc_seq (xc_region ?_)
  refine xr_op rfl rfl (xv_move rfl ?_)
  refine xr_op rfl rfl (xv_len sl39 rfl ?_)
  refine xr_op rfl rfl (xv_move rfl ?_)
  refine xr_op rfl rfl (xv_len sl39 rfl ?_)
  refine xr_op rfl rfl (xv_neq2 rfl rfl (fun q1 => ?_) (fun q1 => ?_))
  · refine xr_end rfl ?_
    refine th_n ?_
    refine xc_true rfl ?_
    refine xc_seq (xc_region ?_)
    refine xr_op rfl rfl (xv_assign rfl ?_)
    refine xr_end rfl ?_
    refine th_n ?_
    refine xc_ret ?_
    refine th_r ?_
    refine body_ret (h' := h) rfl (ro_tmp rfl ro_nil) (by (first|((repeat first|exact s_0|exact s_1|exact s_3|refine s_4 ?_|refine s_5 ?_|refine s_6 ?_|refine s_7 ?_);done)|((repeat first|exact s_0|exact s_1|exact s_3|refine s_4 ?_|refine s_5 ?_|refine s_6 ?_|refine s_8 ?_);done))) ?_
    first | (rw [decide_eq_true hxy] at H; exact H) | (rw [decide_eq_false hne] at H; exact H) | (rw [decide_eq_false (fun hq => by subst hq; omega)] at H; exact H)
  · refine xr_end rfl ?_
    refine th_n ?_
    refine xc_false rfl ?_
    refine xc_skip ?_
    refine th_n ?_
    refine xc_seq ?_
    refine xc_seq (xc_region ?_)
    refine xr_op rfl rfl (xv_assign rfl ?_)
    refine xr_end rfl ?_
    refine th_n ?_
    refine xc_block ?_
    have hle : xs.length = ys.length := by (first | omega | (dsimp only at *; omega) | (simp at *; omega))
    refine xc_loop (σ := Nat) (fun k => k ≤ xs.length ∧ xs.take k = ys.take k) (fun k => (((emp.put (some 0) (.slice a xs.length c)).put (some 1) (.slice a2 ys.length c2)).put (some 5) (I k))) (fun k => h) (fun k => xs.length - k) 0 ⟨Nat.zero_le _, rfl⟩ (le_put (le_put (le_put (le_emp _) rfl) rfl) rfl) (by (first|((repeat first|exact s_0|exact s_1|exact s_3|refine s_4 ?_|refine s_5 ?_|refine s_6 ?_|refine s_7 ?_);done)|((repeat first|exact s_0|exact s_1|exact s_3|refine s_4 ?_|refine s_5 ?_|refine s_6 ?_|refine s_8 ?_);done))) ?_
    rintro k ⟨hk, hall⟩
    refine xc_seq ?_
    refine xc_seq (xc_region ?_)
    refine xr_op rfl rfl (xv_move rfl ?_)
    refine xr_op rfl rfl (xv_move rfl ?_)
    refine xr_op rfl rfl (xv_len sl39 rfl ?_)
    refine xr_op rfl rfl (xv_lss2 rfl rfl (fun q2 => ?_) (fun q2 => ?_))
    · refine xr_end rfl ?_
      refine th_n ?_
      refine xc_true rfl ?_
      refine xc_skip ?_
      refine th_n ?_
      refine xc_seq ?_
      refine xc_block ?_
      refine xc_seq ?_
      refine xc_draw0 [(0, .S), (1, .S), (2, .S), (3, .R), (4, .S), (5, .S), (6, .S), (7, .R), (8, .S)] mixed (by kernel_rfl) ?_
      have hlto : k < xs.length := by (first | omega | (dsimp only at *; omega) | (simp at *; omega))
      obtain ⟨bo, oo, lo, to, fzo, hao, hmo, hxo⟩ := (hs).at hlto
      obtain ⟨xo, hko⟩ : ∃ qq_, xs[k]? = some qq_ := ⟨_, List.getElem?_eq_getElem hlto⟩
      have hltp : k < ys.length := by (first | omega | (dsimp only at *; omega) | (simp at *; omega))
      obtain ⟨bp, op, lp, tp, fzp, hap, hmp, hxp⟩ := (hs2).at hltp
      obtain ⟨xp, hkp⟩ : ∃ qq_, ys[k]? = some qq_ := ⟨_, List.getElem?_eq_getElem hltp⟩
      refine js_S rfl rfl (.inl rfl) (xv_move rfl ⟨rfl, rfl⟩) ?_
      refine js_S rfl rfl (.inl rfl) (xv_move rfl ⟨rfl, rfl⟩) ?_
      refine js_S rfl rfl (.inl rfl) (xv_ia (sz := 2) (j := k) sl39 ty43 rfl (by rw [hao]; rfl) rfl (by (first | assumption | with_reducible exact Int.toNat_natCast _ | with_reducible rfl | rfl)) (by (first | omega | (dsimp only at *; omega) | (simp at *; omega))) (by (first | omega | (dsimp only at *; omega) | (simp at *; omega))) ⟨rfl, rfl⟩) ?_
      refine js_R0 rfl rfl (.inl rfl) (xv_loadA ty43 rfl rfl (by ((repeat first|exact z_0|assumption|refine z_1 ?_|(refine z_l ?_;(repeat first|exact z_0|assumption|refine z_1 ?_);done)|refine z_r ?_);done)) (hxo (k) xo hko) rfl ⟨rfl, rfl⟩) ?_
      refine js_S rfl rfl (.inl rfl) (xv_move rfl ⟨rfl, rfl⟩) ?_
      refine js_S rfl rfl (.inl rfl) (xv_move rfl ⟨rfl, rfl⟩) ?_
      refine js_S rfl rfl (.inl rfl) (xv_ia (sz := 2) (j := k) sl39 ty43 rfl (by rw [hap]; rfl) rfl (by (first | assumption | with_reducible exact Int.toNat_natCast _ | with_reducible rfl | rfl)) (by (first | omega | (dsimp only at *; omega) | (simp at *; omega))) (by (first | omega | (dsimp only at *; omega) | (simp at *; omega))) ⟨rfl, rfl⟩) ?_
      refine js_R0 rfl rfl (.inl rfl) (xv_loadA ty43 rfl rfl (by ((repeat first|exact z_0|assumption|refine z_1 ?_|(refine z_l ?_;(repeat first|exact z_0|assumption|refine z_1 ?_);done)|refine z_r ?_);done)) (hxp (k) xp hkp) rfl ⟨rfl, rfl⟩) ?_
      refine js_S rfl rfl (.inl rfl) (xv_neA (b := !decide (xo = xp)) fq43 rfl eg43 rfl rfl rfl rfl (by ((repeat' first | assumption | exact numNil | refine numCons ?_ | refine numApp ?_ ?_); done)) (by ((repeat' first | assumption | exact numNil | refine numCons ?_ | refine numApp ?_ ?_); done)) (eqc_partD xo xp) ⟨rfl, rfl⟩) ?_
      refine j_end0 ?_
      refine th_n ?_
      refine xc_bool rfl (fun q3 => ?_) (fun q3 => ?_)
      · refine xc_seq (xc_region ?_)
        have hne : ¬ xs = ys := fun hq => by subst hq; have hq2 := Option.some.inj (hko.symm.trans hkp); simp_all
        refine xr_op rfl rfl (xv_assign rfl ?_)
        refine xr_end rfl ?_
        refine th_n ?_
        refine xc_ret ?_
        refine bk_r ?_
        refine th_r ?_
        refine th_r ?_
        refine bk_r ?_
        refine th_r ?_
        refine body_ret (h' := h) rfl (ro_tmp rfl ro_nil) (by (first|((repeat first|exact s_0|exact s_1|exact s_3|refine s_4 ?_|refine s_5 ?_|refine s_6 ?_|refine s_7 ?_);done)|((repeat first|exact s_0|exact s_1|exact s_3|refine s_4 ?_|refine s_5 ?_|refine s_6 ?_|refine s_8 ?_);done))) ?_
        first | (rw [decide_eq_true hxy] at H; exact H) | (rw [decide_eq_false hne] at H; exact H) | (rw [decide_eq_false (fun hq => by subst hq; omega)] at H; exact H)
      · refine xc_skip ?_
        refine bk_n ?_
        refine th_n ?_
        refine xc_region ?_
        have heq : xo = xp := by simp_all
        refine xr_op rfl rfl (xv_move rfl ?_)
        refine xr_op rfl rfl (xv_add rfl rfl (wrap_i64 (by (first | omega | (dsimp only at *; omega) | (simp at *; omega))) (by (first | omega | (dsimp only at *; omega) | (simp at *; omega)))) ?_)
        refine xr_op rfl rfl (xv_assign rfl ?_)
        refine xr_end rfl ?_
        exact rnd (k + 1) ⟨by (first | omega | (dsimp only at *; omega) | (simp at *; omega)), by rw [List.take_add_one, List.take_add_one, hko, hkp, hall, heq]⟩ (by (first | omega | (dsimp only at *; omega) | (simp at *; omega))) (le_put (le_put (le_put (le_emp _) rfl) rfl) rfl) (by (first|((repeat first|exact s_0|exact s_1|exact s_3|refine s_4 ?_|refine s_5 ?_|refine s_6 ?_|refine s_7 ?_);done)|((repeat first|exact s_0|exact s_1|exact s_3|refine s_4 ?_|refine s_5 ?_|refine s_6 ?_|refine s_8 ?_);done)))
    · refine xr_end rfl ?_
      refine th_n ?_
      refine xc_false rfl ?_
      refine xc_exit ?_
      refine th_x ?_
      refine th_x ?_
      refine bk_same ?_
      refine th_n ?_
      refine xc_seq (xc_region ?_)
      obtain rfl : k = xs.length := by (first | omega | (dsimp only at *; omega) | (simp at *; omega))
      have hxy : xs = ys := by rw [List.take_length] at hall; rw [hall, hle, List.take_length]
      refine xr_op rfl rfl (xv_assign rfl ?_)
      refine xr_end rfl ?_
      refine th_n ?_
      refine xc_ret ?_
      refine body_ret (h' := h) rfl (ro_tmp rfl ro_nil) (by (first|((repeat first|exact s_0|exact s_1|exact s_3|refine s_4 ?_|refine s_5 ?_|refine s_6 ?_|refine s_7 ?_);done)|((repeat first|exact s_0|exact s_1|exact s_3|refine s_4 ?_|refine s_5 ?_|refine s_6 ?_|refine s_8 ?_);done))) ?_
      first | (rw [decide_eq_true hxy] at H; exact H) | (rw [decide_eq_false hne] at H; exact H) | (rw [decide_eq_false (fun hq => by subst hq; omega)] at H; exact H)

end Go.Proofs.Ytpefpafijadfmaa

/-
  The parts of the draws, as the document takes them.
-/
set_option linter.all false
namespace Go.Proofs.Ytpefpafijadfmaa
open Go Go.H
def takenR (prev : List (List Int)) (j : Nat) : Int := (prev.map (·.getD j 0)).sum
def roomR (n : Nat) (ms : List Move) (k : Nat) (prev : List (List Int)) (j : Nat) : Int := sumI (contF n (ms.take k) j) - takenR prev j
def vecR (room : Nat → Int) : Nat → Int → List Int × Int
  | 0, t => ([], t)
  | j + 1, t => ((vecR room j t).1 ++ [min (room j) (vecR room j t).2], (vecR room j t).2 - min (room j) (vecR room j t).2)
def partsR (n : Nat) (ms : List Move) (L : Nat) : Nat → Option (List (List Int))
  | 0 => some []
  | k + 1 => match partsR n ms L k, ms[k]? with
    | some prev, some m => if m.coal ≠ -1 then some prev else if (vecR (roomR n ms k prev) L m.tons).2 > 0 then none else some (prev ++ [(vecR (roomR n ms k prev) L m.tons).1])
    | some prev, none => some prev
    | none, _ => none
section
variable {n : Nat} {ms : List Move} {L k : Nat} {prev : List (List Int)} {m : Move}
theorem parts_skip (h : partsR n ms L k = some prev) (hk : ms[k]? = some m) (hc : m.coal ≠ -1) : partsR n ms L (k + 1) = some prev := by
  simp only [partsR, h, hk]; exact if_pos hc
theorem parts_bad (h : partsR n ms L k = some prev) (hk : ms[k]? = some m) (hc : m.coal = -1) (h2 : (vecR (roomR n ms k prev) L m.tons).2 > 0) : partsR n ms L (k + 1) = none := by
  simp only [partsR, h, hk]; rw [if_neg (by simp [hc]), if_pos h2]
theorem parts_more (h : partsR n ms L k = some prev) (hk : ms[k]? = some m) (hc : m.coal = -1) (h2 : ¬ (vecR (roomR n ms k prev) L m.tons).2 > 0) : partsR n ms L (k + 1) = some (prev ++ [(vecR (roomR n ms k prev) L m.tons).1]) := by
  simp only [partsR, h, hk]; rw [if_neg (by simp [hc]), if_neg h2]
theorem parts_none (h : partsR n ms L k = none) : ∀ j, partsR n ms L (k + j) = none
  | 0 => h
  | j + 1 => by
    have ih := parts_none h j
    show partsR n ms L ((k + j) + 1) = none
    simp only [partsR, ih]
theorem parts_end (h : partsR n ms L k = none) {q : Nat} (hq : k ≤ q) : partsR n ms L q = none := by
  have := parts_none h (q - k)
  rwa [show k + (q - k) = q by omega] at this
end
theorem taken_snoc (prev : List (List Int)) (v : List Int) (j : Nat) : takenR (prev ++ [v]) j = takenR prev j + v.getD j 0 := by
  unfold takenR; rw [List.map_append, List.sum_append_int]; simp
theorem taken_take {prev : List (List Int)} {p j : Nat} {v : List Int} (h : prev[p]? = some v) : takenR (prev.take (p + 1)) j = takenR (prev.take p) j + v.getD j 0 := by
  rw [List.take_add_one, h]; exact taken_snoc _ _ _
theorem vecR_len (room : Nat → Int) (t : Int) : ∀ L, (vecR room L t).1.length = L
  | 0 => rfl
  | L + 1 => by rw [vecR, List.length_append, vecR_len room t L]; rfl
theorem vecR_bd {room : Nat → Int} {t : Int} (ht : 0 ≤ t) : ∀ L, (∀ j, j < L → 0 ≤ room j) → (0 ≤ (vecR room L t).2 ∧ (vecR room L t).2 ≤ t) ∧ (∀ x ∈ (vecR room L t).1, 0 ≤ x ∧ x ≤ t) ∧ ∀ j, j < L → (vecR room L t).1.getD j 0 ≤ room j
  | 0, _ => ⟨⟨ht, Int.le_refl _⟩, fun x hx => by simp [vecR] at hx, fun j hj => by omega⟩
  | L + 1, h => by
    obtain ⟨a, b, c⟩ := vecR_bd ht L fun j hj => h j (by omega)
    have hr := h L (by omega)
    have hl := vecR_len room t L
    refine ⟨⟨by rw [vecR]; dsimp only; omega, by rw [vecR]; dsimp only; omega⟩, fun x hx => ?_, fun j hj => ?_⟩
    · rw [vecR] at hx
      rcases List.mem_append.1 hx with hx | hx
      · exact b x hx
      · rw [List.mem_singleton.1 hx]; omega
    · rw [vecR]
      rw [List.getD_eq_getElem?_getD]
      by_cases hq : j < L
      · rw [List.getElem?_append_left (by omega), ← List.getD_eq_getElem?_getD]; exact c j hq
      · obtain rfl : j = L := by omega
        rw [List.getElem?_append_right (by omega), hl]
        simp; omega
theorem sumI_nn {l : List Int} (h : ∀ x ∈ l, 0 ≤ x) : 0 ≤ sumI l := by
  unfold sumI
  induction l with
  | nil => simp
  | cons x l ih => rw [List.sum_cons]; have := ih fun y hy => h y (List.mem_cons_of_mem _ hy); have := h x List.mem_cons_self; omega
theorem sumI_set {l : List Int} {k : Nat} {x d : Int} (h : l[k]? = some x) : sumI (l.set k (x + d)) = sumI l + d := by
  unfold sumI
  induction l generalizing k with
  | nil => simp at h
  | cons a l ih =>
    cases k with
    | zero => simp at h; subst h; rw [List.set_cons_zero, List.sum_cons, List.sum_cons]; omega
    | succ k => rw [List.set_cons_succ, List.sum_cons, List.sum_cons, ih (by simpa using h)]; omega
theorem cont_sum_mono {n : Nat} {ms : List Move} (hm : movesOk n 0 ms) {k : Nat} {m : Move} (hk : ms[k]? = some m) (j : Int) : sumI (contF n (ms.take k) j) ≤ sumI (contF n (ms.take (k + 1)) j) ∧ (m.coal = -1 → contF n (ms.take (k + 1)) j = contF n (ms.take k) j) := by
  obtain ⟨_, ⟨c1, c2⟩, t1, t2⟩ := movesOk_at hm hk
  rw [contF_take hk]
  refine ⟨?_, fun h => if_neg (fun q => q.1 h)⟩
  split
  · rename_i hq
    have hl := contF_len n (ms.take k) j
    obtain ⟨v, hv⟩ : ∃ v, (contF n (ms.take k) j)[m.coal.toNat]? = some v := ⟨_, List.getElem?_eq_getElem (by have := hq.1; omega)⟩
    have hg : (contF n (ms.take k) j).getD m.coal.toNat 0 = v := by rw [List.getD_eq_getElem?_getD, hv]; rfl
    rw [hg, sumI_set hv]; omega
  · exact Int.le_refl _
/-- What holds after some moves. -/
structure PInv (n : Nat) (ms : List Move) (L k : Nat) (prev : List (List Int)) : Prop where
  is : partsR n ms L k = some prev
  len : ∀ v ∈ prev, v.length = L
  bd : ∀ v ∈ prev, ∀ x ∈ v, 0 ≤ x ∧ x ≤ 1048576
  room : ∀ j, j < L → 0 ≤ roomR n ms k prev j
  few : prev.length ≤ k
theorem pinv_0 {n : Nat} {ms : List Move} {L : Nat} : PInv n ms L 0 [] :=
  ⟨rfl, fun v h => (List.not_mem_nil h).elim, fun v h => (List.not_mem_nil h).elim, fun j _ => by
    unfold roomR takenR
    have := sumI_nn (l := contF n (ms.take 0) (j : Int)) (fun x hx => by rw [List.take_zero, contF_nil] at hx; rw [List.eq_of_mem_replicate hx]; exact Int.le_refl _)
    simpa using this, Nat.le_refl _⟩
theorem PInv.skip {n : Nat} {ms : List Move} {L k : Nat} {prev : List (List Int)} {m : Move} (H : PInv n ms L k prev) (hm : movesOk n 0 ms) (hk : ms[k]? = some m) (hc : m.coal ≠ -1) : PInv n ms L (k + 1) prev :=
  ⟨parts_skip H.is hk hc, H.len, H.bd, fun j hj => by
    have := H.room j hj; have := (cont_sum_mono hm hk (j : Int)).1; unfold roomR at *; omega, by have := H.few; omega⟩
theorem PInv.more {n : Nat} {ms : List Move} {L k : Nat} {prev : List (List Int)} {m : Move} (H : PInv n ms L k prev) (hm : movesOk n 0 ms) (hk : ms[k]? = some m) (hc : m.coal = -1) (h2 : ¬ (vecR (roomR n ms k prev) L m.tons).2 > 0) : PInv n ms L (k + 1) (prev ++ [(vecR (roomR n ms k prev) L m.tons).1]) := by
  obtain ⟨_, _, t1, t2⟩ := movesOk_at hm hk
  obtain ⟨a, b, c⟩ := vecR_bd (room := roomR n ms k prev) (t := m.tons) (by omega) L H.room
  refine ⟨parts_more H.is hk hc h2, fun v hv => ?_, fun v hv x hx => ?_, fun j hj => ?_, by rw [List.length_append, List.length_singleton]; have := H.few; omega⟩
  · rcases List.mem_append.1 hv with hv | hv
    · exact H.len v hv
    · rw [List.mem_singleton.1 hv]; exact vecR_len _ _ _
  · rcases List.mem_append.1 hv with hv | hv
    · exact H.bd v hv x hx
    · rw [List.mem_singleton.1 hv] at hx
      have := b x hx; omega
  · have h1 := (cont_sum_mono hm hk (j : Int)).2 hc
    have h3 := c j hj
    unfold roomR at *
    rw [h1, taken_snoc]
    omega
theorem taken_bd {prev : List (List Int)} (h : ∀ v ∈ prev, ∀ x ∈ v, 0 ≤ x ∧ x ≤ 1048576) (j : Nat) : 0 ≤ takenR prev j ∧ takenR prev j ≤ 1048576 * (prev.length : Int) := by
  unfold takenR
  have : ∀ x ∈ prev.map (·.getD j 0), 0 ≤ x ∧ x ≤ 1048576 := fun x hx => by
    obtain ⟨v, hv, rfl⟩ := List.mem_map.1 hx
    rw [List.getD_eq_getElem?_getD]
    cases hg : v[j]? with
    | none => simp
    | some y => simpa using h v hv y (List.mem_of_getElem? hg)
  have := sumI_bd this
  unfold sumI at this
  rw [List.length_map] at this
  omega
/-! ### Headers of vectors -/
structure Hd where
  a : Option Addr
  m : List Int
  c : Nat
end Go.Proofs.Ytpefpafijadfmaa

/-
  Walks.
-/
namespace Go.Proofs.Ytpefpafijadfmaa
open Go Go.H
set_option maxRecDepth 100000
set_option maxHeartbeats 8000000
set_option linter.all false
end Go.Proofs.Ytpefpafijadfmaa

/-
  The answers: the parts of a draw, what is left.
-/
set_option linter.all false
namespace Go.Proofs.Ytpefpafijadfmaa
open Go Go.H
instance decMoves (n : Nat) : (last : Int) → (l : List Move) → Decidable (movesOk n last l)
  | _, [] => .isTrue trivial
  | last, m :: l => @instDecidableAnd _ _ _ (decMoves n m.hour l)
instance (y : Yard) : Decidable (GoodYard y) := by unfold GoodYard; infer_instance
def nzF (f : Nat → Int) (L : Nat) : List Part := (List.range L).filterMap fun j => if f j > 0 then some ⟨(j : Int), f j⟩ else none
theorem nzF_succ (f : Nat → Int) (j : Nat) : nzF f (j + 1) = if f j > 0 then nzF f j ++ [⟨(j : Int), f j⟩] else nzF f j := by
  unfold nzF
  rw [List.range_succ, List.filterMap_append]
  by_cases h : f j > 0 <;> simp [h]
theorem nzF_len (f : Nat → Int) (L : Nat) : (nzF f L).length ≤ L := by
  have := List.length_filterMap_le (fun j : Nat => if f j > 0 then some (⟨(j : Int), f j⟩ : Part) else none) (List.range L)
  rwa [List.length_range] at this
def vecsR (y : Yard) : Option (List (List Int)) := partsR y.coals.length y.moves (opn y.moves).1 y.moves.length
def drawnA (y : Yard) (draw : Int) : List Part × Int :=
  if GoodYard y then (match vecsR y with
    | none => ([], 10)
    | some vs => if 0 ≤ draw ∧ draw ≤ (vs.length : Int) - 1 then (nzF (fun i => (vs.getD draw.toNat []).getD i 0) (opn y.moves).1, 0) else ([], 2)) else ([], 1)
section
variable {y : Yard} {draw : Int} {vs : List (List Int)}
theorem drawnA_1 (h : ¬ GoodYard y) : drawnA y draw = ([], 1) := by unfold drawnA; exact if_neg h
theorem drawnA_10 (h : GoodYard y) (h2 : vecsR y = none) : drawnA y draw = ([], 10) := by unfold drawnA; rw [if_pos h, h2]
theorem drawnA_2 (h : GoodYard y) (h2 : vecsR y = some vs) (h3 : ¬ (0 ≤ draw ∧ draw ≤ (vs.length : Int) - 1)) : drawnA y draw = ([], 2) := by unfold drawnA; rw [if_pos h, h2]; exact if_neg h3
theorem drawnA_0 (h : GoodYard y) (h2 : vecsR y = some vs) (h3 : 0 ≤ draw ∧ draw ≤ (vs.length : Int) - 1) : drawnA y draw = (nzF (fun i => (vs.getD draw.toNat []).getD i 0) (opn y.moves).1, 0) := by unfold drawnA; rw [if_pos h, h2]; exact if_pos h3
end
end Go.Proofs.Ytpefpafijadfmaa

/-
  Walks.
-/
namespace Go.Proofs.Ytpefpafijadfmaa
open Go Go.H
set_option maxRecDepth 100000
set_option maxHeartbeats 8000000
set_option linter.all false
end Go.Proofs.Ytpefpafijadfmaa

/-
  The blend of a draw, as the document sums it.
-/
set_option linter.all false
namespace Go.Proofs.Ytpefpafijadfmaa
open Go Go.H
def bLo (v : Nat → Int) (ct : Nat → List Int) (i : Nat) : Nat → Int
  | 0 => 0
  | j + 1 => bLo v ct i j + max 0 (v j - (sumI (ct j) - (ct j).getD i 0))
def bHi (v : Nat → Int) (ct : Nat → List Int) (i : Nat) : Nat → Int
  | 0 => 0
  | j + 1 => bHi v ct i j + min (v j) ((ct j).getD i 0)
def bSp (v : Nat → Int) (ct : Nat → List Int) (j i : Nat) : Span := ⟨bLo v ct i j, bHi v ct i j⟩
theorem getD_bd {l : List Int} {B : Int} (hB : 0 ≤ B) (h : ∀ x ∈ l, 0 ≤ x ∧ x ≤ B) (i : Nat) : 0 ≤ l.getD i 0 ∧ l.getD i 0 ≤ B := by
  rw [List.getD_eq_getElem?_getD]
  cases hg : l[i]? with
  | none => simpa using hB
  | some y => simpa using h y (List.mem_of_getElem? hg)
theorem getD_sum {l : List Int} (h : ∀ x ∈ l, 0 ≤ x) (i : Nat) : l.getD i 0 ≤ sumI l := by
  unfold sumI
  induction l generalizing i with
  | nil => simp
  | cons x l ih =>
    have hx := h x List.mem_cons_self
    have hl := sumI_nn (l := l) fun y hy => h y (List.mem_cons_of_mem _ hy)
    unfold sumI at hl
    rw [List.sum_cons]
    cases i with
    | zero => simp; omega
    | succ i => have := ih (fun y hy => h y (List.mem_cons_of_mem _ hy)) i; simp at this ⊢; omega
def contE (y : Yard) (j : Nat) : List Int := contF y.coals.length (y.moves.take y.moves.length) (j : Int)
def blendA (y : Yard) (draw : Int) : List Span × Int :=
  if GoodYard y then (match vecsR y with
    | none => ([], 10)
    | some vs => if 0 ≤ draw ∧ draw ≤ (vs.length : Int) - 1 then ((List.range y.coals.length).map (bSp (fun i => (vs.getD draw.toNat []).getD i 0) (contE y) (opn y.moves).1), 0) else ([], 2)) else ([], 1)
section
variable {y : Yard} {draw : Int} {vs : List (List Int)}
theorem blendA_1 (h : ¬ GoodYard y) : blendA y draw = ([], 1) := by unfold blendA; exact if_neg h
theorem blendA_10 (h : GoodYard y) (h2 : vecsR y = none) : blendA y draw = ([], 10) := by unfold blendA; rw [if_pos h, h2]
theorem blendA_2 (h : GoodYard y) (h2 : vecsR y = some vs) (h3 : ¬ (0 ≤ draw ∧ draw ≤ (vs.length : Int) - 1)) : blendA y draw = ([], 2) := by unfold blendA; rw [if_pos h, h2]; exact if_neg h3
end
theorem spans_len (l : List Span) : (l.flatMap eSpan).length = l.length * 2 := flat_lenM eSpan_len l
theorem contE_len (y : Yard) (j : Nat) : (contE y j).length = y.coals.length := contF_len _ _ _
theorem make_spans (n : Nat) : (madeCells (Value.agg ⟨[I 0, I 0]⟩).cells (n * 2)).toList = (List.replicate n (⟨0, 0⟩ : Span)).flatMap eSpan := by
  have h2 : ∀ m : Nat, List.replicate (m * 2) (I 0) = (List.replicate m (⟨0, 0⟩ : Span)).flatMap eSpan := fun m => by
    induction m with
    | zero => rfl
    | succ m ih => rw [List.replicate_succ, List.flatMap_cons, ← ih, show (m + 1) * 2 = m * 2 + 1 + 1 by omega, List.replicate_succ, List.replicate_succ]; rfl
  rw [← h2]
  refine List.eq_replicate_iff.2 ⟨by simp [madeCells], fun b hb => ?_⟩
  simp only [madeCells, Value.cells, Array.toList_map, List.mem_map] at hb
  obtain ⟨a, _, rfl⟩ := hb
  have h3 : a % 2 < 2 := Nat.mod_lt _ (by decide)
  have h4 : a % 2 = 0 ∨ a % 2 = 1 := by omega
  rcases h4 with h4 | h4 <;> simp [h4]
end Go.Proofs.Ytpefpafijadfmaa

/-
  Walks.
-/
namespace Go.Proofs.Ytpefpafijadfmaa
open Go Go.H
set_option maxRecDepth 100000
set_option maxHeartbeats 8000000
set_option linter.all false
end Go.Proofs.Ytpefpafijadfmaa

/-
  Walks.
-/
namespace Go.Proofs.Ytpefpafijadfmaa
open Go Go.H
set_option maxRecDepth 100000
set_option maxHeartbeats 8000000
set_option linter.all false
theorem span_c (a b : Int) {h : Hp} {R : Ending → Hp → Prop} (H : R (.returned (.agg ⟨[I a, I b]⟩)) h) :
    ACalls Try.prog 28 ⟨[I a, I b]⟩ h R := by
  refine calls_of_xc (N := 8) Try.func28 rfl (by rfl) ?_
  refine xc_seq (xc_region ?_)
  refine xr_op rfl rfl (xv_alloc ty33 (fun b4 hb4 => ?_))
  refine xr_end rfl ?_
  refine th_n ?_
  refine xc_seq (xc_region ?_)
  refine xr_op rfl rfl (xv_move rfl ?_)
  refine xr_op rfl rfl (xv_move rfl ?_)
  refine xr_op rfl rfl (xv_build bt33 rfl (by ((try apply evl_some rfl);(repeat (first|exact (rfl : _ = [])|apply evl_cons rfl (by (first|exact v_1|exact v_2|exact v_3|exact v_4|exact v_5|exact v_6|exact v_7|exact v_8|exact v_9|exact rfl))|exact rfl)))) ?_)
  refine xr_op rfl rfl (xv_s ty33 rfl rfl (by (first|(apply u_3;(repeat first|exact u_0|assumption|apply u_1|apply u_2);done)|((repeat first|exact u_0|assumption|apply u_1|apply u_2);done)|(apply u_3;apply u_3;(repeat first|exact u_0|assumption|apply u_1|apply u_2);done)|((repeat first|exact u_0|assumption|apply u_3|apply u_1);done))) (by ((try apply evl_some rfl);(repeat (first|exact (rfl : _ = [])|apply evl_cons rfl (by (first|exact v_1|exact v_2|exact v_3|exact v_4|exact v_5|exact v_6|exact v_7|exact v_8|exact v_9|exact rfl))|exact rfl)))) (by rfl) (by rfl) (by rfl) (by ((try apply evl_some rfl);(repeat (first|exact (rfl : _ = [])|apply evl_cons rfl (by (first|exact v_1|exact v_2|exact v_3|exact v_4|exact v_5|exact v_6|exact v_7|exact v_8|exact v_9|exact rfl))|exact rfl)))) ?_)
  refine xr_end rfl ?_
  refine th_n ?_
  refine xc_ret ?_
  refine body_ret (h' := h) rfl (ro_cellA ty33 rfl rfl (by ((repeat first|exact z_0|assumption|refine z_1 ?_|(refine z_l ?_;(repeat first|exact z_0|assumption|refine z_1 ?_);done)|refine z_r ?_);done)) (by rfl) (by rfl) ro_nil) (by (first|((repeat first|exact s_0|exact s_1|exact s_3|refine s_4 ?_|refine s_5 ?_|refine s_6 ?_|refine s_7 ?_);done)|((repeat first|exact s_0|exact s_1|exact s_3|refine s_4 ?_|refine s_5 ?_|refine s_6 ?_|refine s_8 ?_);done))) ?_
  exact H

theorem give54_c {c : Coal} {h : Hp} {R : Ending → Hp → Prop} (H : R (.returned (.agg ⟨eSpan c.gas⟩)) h) :
    ACalls Try.prog 54 ⟨[.agg ⟨eCoal c⟩]⟩ h R := by
  refine calls_of_xc (N := 5) Try.func54 rfl (by rfl) ?_
  refine xc_seq (xc_region ?_)
  refine xr_op rfl rfl (xv_box rfl (fun b1 hb1 => ?_))
  refine xr_op rfl rfl (xv_alloc ty33 (fun b2 hb2 => ?_))
  refine xr_end rfl ?_
  refine th_n ?_
  refine xc_seq (xc_region ?_)
  refine xr_op rfl rfl (xv_faddr fl59_0 rfl ?_)
  refine xr_op rfl rfl (xv_loadA ty33 rfl rfl (by ((repeat first|exact z_0|assumption|refine z_1 ?_|(refine z_l ?_;(repeat first|exact z_0|assumption|refine z_1 ?_);done)|refine z_r ?_);done)) (by ((try apply evl_some rfl);(repeat (first|exact (rfl : _ = [])|apply evl_cons rfl (by (first|exact v_1|exact v_2|exact v_3|exact v_4|exact v_5|exact v_6|exact v_7|exact v_8|exact v_9|exact rfl))|exact rfl)))) (by rfl) ?_)
  refine xr_op rfl rfl (xv_s ty33 rfl rfl (by (first|(apply u_3;(repeat first|exact u_0|assumption|apply u_1|apply u_2);done)|((repeat first|exact u_0|assumption|apply u_1|apply u_2);done)|(apply u_3;apply u_3;(repeat first|exact u_0|assumption|apply u_1|apply u_2);done)|((repeat first|exact u_0|assumption|apply u_3|apply u_1);done))) (by ((try apply evl_some rfl);(repeat (first|exact (rfl : _ = [])|apply evl_cons rfl (by (first|exact v_1|exact v_2|exact v_3|exact v_4|exact v_5|exact v_6|exact v_7|exact v_8|exact v_9|exact rfl))|exact rfl)))) (by rfl) (by rfl) (by rfl) (by ((try apply evl_some rfl);(repeat (first|exact (rfl : _ = [])|apply evl_cons rfl (by (first|exact v_1|exact v_2|exact v_3|exact v_4|exact v_5|exact v_6|exact v_7|exact v_8|exact v_9|exact rfl))|exact rfl)))) ?_)
  refine xr_end rfl ?_
  refine th_n ?_
  refine xc_ret ?_
  refine body_ret (h' := h) rfl (ro_cellA ty33 rfl rfl (by ((repeat first|exact z_0|assumption|refine z_1 ?_|(refine z_l ?_;(repeat first|exact z_0|assumption|refine z_1 ?_);done)|refine z_r ?_);done)) (by rfl) (by rfl) ro_nil) (by (first|((repeat first|exact s_0|exact s_1|exact s_3|refine s_4 ?_|refine s_5 ?_|refine s_6 ?_|refine s_7 ?_);done)|((repeat first|exact s_0|exact s_1|exact s_3|refine s_4 ?_|refine s_5 ?_|refine s_6 ?_|refine s_8 ?_);done))) ?_
  exact H

theorem give55_c {c : Coal} {h : Hp} {R : Ending → Hp → Prop} (H : R (.returned (.agg ⟨eSpan c.tar⟩)) h) :
    ACalls Try.prog 55 ⟨[.agg ⟨eCoal c⟩]⟩ h R := by
  refine calls_of_xc (N := 5) Try.func55 rfl (by rfl) ?_
  refine xc_seq (xc_region ?_)
  refine xr_op rfl rfl (xv_box rfl (fun b1 hb1 => ?_))
  refine xr_op rfl rfl (xv_alloc ty33 (fun b2 hb2 => ?_))
  refine xr_end rfl ?_
  refine th_n ?_
  refine xc_seq (xc_region ?_)
  refine xr_op rfl rfl (xv_faddr fl59_1 rfl ?_)
  refine xr_op rfl rfl (xv_loadA ty33 rfl rfl (by ((repeat first|exact z_0|assumption|refine z_1 ?_|(refine z_l ?_;(repeat first|exact z_0|assumption|refine z_1 ?_);done)|refine z_r ?_);done)) (by ((try apply evl_some rfl);(repeat (first|exact (rfl : _ = [])|apply evl_cons rfl (by (first|exact v_1|exact v_2|exact v_3|exact v_4|exact v_5|exact v_6|exact v_7|exact v_8|exact v_9|exact rfl))|exact rfl)))) (by rfl) ?_)
  refine xr_op rfl rfl (xv_s ty33 rfl rfl (by (first|(apply u_3;(repeat first|exact u_0|assumption|apply u_1|apply u_2);done)|((repeat first|exact u_0|assumption|apply u_1|apply u_2);done)|(apply u_3;apply u_3;(repeat first|exact u_0|assumption|apply u_1|apply u_2);done)|((repeat first|exact u_0|assumption|apply u_3|apply u_1);done))) (by ((try apply evl_some rfl);(repeat (first|exact (rfl : _ = [])|apply evl_cons rfl (by (first|exact v_1|exact v_2|exact v_3|exact v_4|exact v_5|exact v_6|exact v_7|exact v_8|exact v_9|exact rfl))|exact rfl)))) (by rfl) (by rfl) (by rfl) (by ((try apply evl_some rfl);(repeat (first|exact (rfl : _ = [])|apply evl_cons rfl (by (first|exact v_1|exact v_2|exact v_3|exact v_4|exact v_5|exact v_6|exact v_7|exact v_8|exact v_9|exact rfl))|exact rfl)))) ?_)
  refine xr_end rfl ?_
  refine th_n ?_
  refine xc_ret ?_
  refine body_ret (h' := h) rfl (ro_cellA ty33 rfl rfl (by ((repeat first|exact z_0|assumption|refine z_1 ?_|(refine z_l ?_;(repeat first|exact z_0|assumption|refine z_1 ?_);done)|refine z_r ?_);done)) (by rfl) (by rfl) ro_nil) (by (first|((repeat first|exact s_0|exact s_1|exact s_3|refine s_4 ?_|refine s_5 ?_|refine s_6 ?_|refine s_7 ?_);done)|((repeat first|exact s_0|exact s_1|exact s_3|refine s_4 ?_|refine s_5 ?_|refine s_6 ?_|refine s_8 ?_);done))) ?_
  exact H

theorem give56_c {c : Coal} {h : Hp} {R : Ending → Hp → Prop} (H : R (.returned (.agg ⟨eSpan c.sulphur⟩)) h) :
    ACalls Try.prog 56 ⟨[.agg ⟨eCoal c⟩]⟩ h R := by
  refine calls_of_xc (N := 5) Try.func56 rfl (by rfl) ?_
  refine xc_seq (xc_region ?_)
  refine xr_op rfl rfl (xv_box rfl (fun b1 hb1 => ?_))
  refine xr_op rfl rfl (xv_alloc ty33 (fun b2 hb2 => ?_))
  refine xr_end rfl ?_
  refine th_n ?_
  refine xc_seq (xc_region ?_)
  refine xr_op rfl rfl (xv_faddr fl59_2 rfl ?_)
  refine xr_op rfl rfl (xv_loadA ty33 rfl rfl (by ((repeat first|exact z_0|assumption|refine z_1 ?_|(refine z_l ?_;(repeat first|exact z_0|assumption|refine z_1 ?_);done)|refine z_r ?_);done)) (by ((try apply evl_some rfl);(repeat (first|exact (rfl : _ = [])|apply evl_cons rfl (by (first|exact v_1|exact v_2|exact v_3|exact v_4|exact v_5|exact v_6|exact v_7|exact v_8|exact v_9|exact rfl))|exact rfl)))) (by rfl) ?_)
  refine xr_op rfl rfl (xv_s ty33 rfl rfl (by (first|(apply u_3;(repeat first|exact u_0|assumption|apply u_1|apply u_2);done)|((repeat first|exact u_0|assumption|apply u_1|apply u_2);done)|(apply u_3;apply u_3;(repeat first|exact u_0|assumption|apply u_1|apply u_2);done)|((repeat first|exact u_0|assumption|apply u_3|apply u_1);done))) (by ((try apply evl_some rfl);(repeat (first|exact (rfl : _ = [])|apply evl_cons rfl (by (first|exact v_1|exact v_2|exact v_3|exact v_4|exact v_5|exact v_6|exact v_7|exact v_8|exact v_9|exact rfl))|exact rfl)))) (by rfl) (by rfl) (by rfl) (by ((try apply evl_some rfl);(repeat (first|exact (rfl : _ = [])|apply evl_cons rfl (by (first|exact v_1|exact v_2|exact v_3|exact v_4|exact v_5|exact v_6|exact v_7|exact v_8|exact v_9|exact rfl))|exact rfl)))) ?_)
  refine xr_end rfl ?_
  refine th_n ?_
  refine xc_ret ?_
  refine body_ret (h' := h) rfl (ro_cellA ty33 rfl rfl (by ((repeat first|exact z_0|assumption|refine z_1 ?_|(refine z_l ?_;(repeat first|exact z_0|assumption|refine z_1 ?_);done)|refine z_r ?_);done)) (by rfl) (by rfl) ro_nil) (by (first|((repeat first|exact s_0|exact s_1|exact s_3|refine s_4 ?_|refine s_5 ?_|refine s_6 ?_|refine s_7 ?_);done)|((repeat first|exact s_0|exact s_1|exact s_3|refine s_4 ?_|refine s_5 ?_|refine s_6 ?_|refine s_8 ?_);done))) ?_
  exact H

theorem give57_c {c : Coal} {h : Hp} {R : Ending → Hp → Prop} (H : R (.returned (.agg ⟨eSpan c.coke⟩)) h) :
    ACalls Try.prog 57 ⟨[.agg ⟨eCoal c⟩]⟩ h R := by
  refine calls_of_xc (N := 5) Try.func57 rfl (by rfl) ?_
  refine xc_seq (xc_region ?_)
  refine xr_op rfl rfl (xv_box rfl (fun b1 hb1 => ?_))
  refine xr_op rfl rfl (xv_alloc ty33 (fun b2 hb2 => ?_))
  refine xr_end rfl ?_
  refine th_n ?_
  refine xc_seq (xc_region ?_)
  refine xr_op rfl rfl (xv_faddr fl59_3 rfl ?_)
  refine xr_op rfl rfl (xv_loadA ty33 rfl rfl (by ((repeat first|exact z_0|assumption|refine z_1 ?_|(refine z_l ?_;(repeat first|exact z_0|assumption|refine z_1 ?_);done)|refine z_r ?_);done)) (by ((try apply evl_some rfl);(repeat (first|exact (rfl : _ = [])|apply evl_cons rfl (by (first|exact v_1|exact v_2|exact v_3|exact v_4|exact v_5|exact v_6|exact v_7|exact v_8|exact v_9|exact rfl))|exact rfl)))) (by rfl) ?_)
  refine xr_op rfl rfl (xv_s ty33 rfl rfl (by (first|(apply u_3;(repeat first|exact u_0|assumption|apply u_1|apply u_2);done)|((repeat first|exact u_0|assumption|apply u_1|apply u_2);done)|(apply u_3;apply u_3;(repeat first|exact u_0|assumption|apply u_1|apply u_2);done)|((repeat first|exact u_0|assumption|apply u_3|apply u_1);done))) (by ((try apply evl_some rfl);(repeat (first|exact (rfl : _ = [])|apply evl_cons rfl (by (first|exact v_1|exact v_2|exact v_3|exact v_4|exact v_5|exact v_6|exact v_7|exact v_8|exact v_9|exact rfl))|exact rfl)))) (by rfl) (by rfl) (by rfl) (by ((try apply evl_some rfl);(repeat (first|exact (rfl : _ = [])|apply evl_cons rfl (by (first|exact v_1|exact v_2|exact v_3|exact v_4|exact v_5|exact v_6|exact v_7|exact v_8|exact v_9|exact rfl))|exact rfl)))) ?_)
  refine xr_end rfl ?_
  refine th_n ?_
  refine xc_ret ?_
  refine body_ret (h' := h) rfl (ro_cellA ty33 rfl rfl (by ((repeat first|exact z_0|assumption|refine z_1 ?_|(refine z_l ?_;(repeat first|exact z_0|assumption|refine z_1 ?_);done)|refine z_r ?_);done)) (by rfl) (by rfl) ro_nil) (by (first|((repeat first|exact s_0|exact s_1|exact s_3|refine s_4 ?_|refine s_5 ?_|refine s_6 ?_|refine s_7 ?_);done)|((repeat first|exact s_0|exact s_1|exact s_3|refine s_4 ?_|refine s_5 ?_|refine s_6 ?_|refine s_8 ?_);done))) ?_
  exact H

theorem byEach_c {a b : Share} {h : Hp} {R : Ending → Hp → Prop} (ha : -100000 ≤ a.each ∧ a.each ≤ 100000) (hb : -100000 ≤ b.each ∧ b.each ≤ 100000) (H : R (.returned (I (a.each - b.each))) h) :
    ACalls Try.prog 41 ⟨[.agg ⟨eShare a⟩, .agg ⟨eShare b⟩]⟩ h R := by
  refine calls_of_xc (N := 10) Try.func41 rfl (by rfl) ?_
  refine xc_seq (xc_region ?_)
  refine xr_op rfl rfl (xv_box rfl (fun b1 hb1 => ?_))
  refine xr_op rfl rfl (xv_box rfl (fun b2 hb2 => ?_))
  refine xr_op rfl rfl (xv_assign rfl ?_)
  refine xr_end rfl ?_
  refine th_n ?_
  refine xc_seq (xc_region ?_)
  refine xr_op rfl rfl (xv_faddr fl93_1 rfl ?_)
  refine xr_op rfl rfl (xv_load1 ty3 rfl rfl (by ((repeat first|exact z_0|assumption|refine z_1 ?_|(refine z_l ?_;(repeat first|exact z_0|assumption|refine z_1 ?_);done)|refine z_r ?_);done)) (by rfl) ?_)
  refine xr_op rfl rfl (xv_faddr fl93_1 rfl ?_)
  refine xr_op rfl rfl (xv_load1 ty3 rfl rfl (by ((repeat first|exact z_0|assumption|refine z_1 ?_|(refine z_l ?_;(repeat first|exact z_0|assumption|refine z_1 ?_);done)|refine z_r ?_);done)) (by rfl) ?_)
  refine xr_op rfl rfl (xv_sub rfl rfl (wrap_i64 (by (first | omega | (dsimp only at *; omega) | (simp at *; omega))) (by (first | omega | (dsimp only at *; omega) | (simp at *; omega)))) ?_)
  refine xr_op rfl rfl (xv_assign rfl ?_)
  refine xr_end rfl ?_
  refine th_n ?_
  refine xc_ret ?_
  refine body_ret (h' := h) rfl (ro_tmp rfl ro_nil) (by (first|((repeat first|exact s_0|exact s_1|exact s_3|refine s_4 ?_|refine s_5 ?_|refine s_6 ?_|refine s_7 ?_);done)|((repeat first|exact s_0|exact s_1|exact s_3|refine s_4 ?_|refine s_5 ?_|refine s_6 ?_|refine s_8 ?_);done))) ?_
  exact H

theorem add_c {a b : Span} {h : Hp} {R : Ending → Hp → Prop} (ha : (-4000000000000000000 ≤ a.lo ∧ a.lo ≤ 4000000000000000000) ∧ -4000000000000000000 ≤ a.hi ∧ a.hi ≤ 4000000000000000000) (hb : (-4000000000000000000 ≤ b.lo ∧ b.lo ≤ 4000000000000000000) ∧ -4000000000000000000 ≤ b.hi ∧ b.hi ≤ 4000000000000000000) (H : R (.returned (.agg ⟨[I (a.lo + b.lo), I (a.hi + b.hi)]⟩)) h) :
    ACalls Try.prog 33 ⟨[.agg ⟨eSpan a⟩, .agg ⟨eSpan b⟩]⟩ h R := by
  refine calls_of_xc (N := 16) Try.func33 rfl (by rfl) ?_
  refine xc_seq (xc_region ?_)
  refine xr_op rfl rfl (xv_box rfl (fun b2 hb2 => ?_))
  refine xr_op rfl rfl (xv_box rfl (fun b3 hb3 => ?_))
  refine xr_op rfl rfl (xv_alloc ty75 (fun b4 hb4 => ?_))
  refine xr_end rfl ?_
  refine th_n ?_
  refine xc_seq (xc_region ?_)
  refine xr_op rfl rfl (xv_faddr fl75_0 rfl ?_)
  refine xr_op rfl rfl (xv_load1 ty3 rfl rfl (by ((repeat first|exact z_0|assumption|refine z_1 ?_|(refine z_l ?_;(repeat first|exact z_0|assumption|refine z_1 ?_);done)|refine z_r ?_);done)) (by rfl) ?_)
  refine xr_op rfl rfl (xv_faddr fl75_0 rfl ?_)
  refine xr_op rfl rfl (xv_load1 ty3 rfl rfl (by ((repeat first|exact z_0|assumption|refine z_1 ?_|(refine z_l ?_;(repeat first|exact z_0|assumption|refine z_1 ?_);done)|refine z_r ?_);done)) (by rfl) ?_)
  refine xr_op rfl rfl (xv_add rfl rfl (wrap_i64 (by (first | omega | (dsimp only at *; omega) | (simp at *; omega))) (by (first | omega | (dsimp only at *; omega) | (simp at *; omega)))) ?_)
  refine xr_op rfl rfl (xv_faddr fl75_1 rfl ?_)
  refine xr_op rfl rfl (xv_load1 ty3 rfl rfl (by ((repeat first|exact z_0|assumption|refine z_1 ?_|(refine z_l ?_;(repeat first|exact z_0|assumption|refine z_1 ?_);done)|refine z_r ?_);done)) (by rfl) ?_)
  refine xr_op rfl rfl (xv_faddr fl75_1 rfl ?_)
  refine xr_op rfl rfl (xv_load1 ty3 rfl rfl (by ((repeat first|exact z_0|assumption|refine z_1 ?_|(refine z_l ?_;(repeat first|exact z_0|assumption|refine z_1 ?_);done)|refine z_r ?_);done)) (by rfl) ?_)
  refine xr_op rfl rfl (xv_add rfl rfl (wrap_i64 (by (first | omega | (dsimp only at *; omega) | (simp at *; omega))) (by (first | omega | (dsimp only at *; omega) | (simp at *; omega)))) ?_)
  refine xr_op rfl rfl (xv_build bt75 rfl (by ((try apply evl_some rfl);(repeat (first|exact (rfl : _ = [])|apply evl_cons rfl (by (first|exact v_1|exact v_2|exact v_3|exact v_4|exact v_5|exact v_6|exact v_7|exact v_8|exact v_9|exact rfl))|exact rfl)))) ?_)
  refine xr_op rfl rfl (xv_s ty75 rfl rfl (by (first|(apply u_3;(repeat first|exact u_0|assumption|apply u_1|apply u_2);done)|((repeat first|exact u_0|assumption|apply u_1|apply u_2);done)|(apply u_3;apply u_3;(repeat first|exact u_0|assumption|apply u_1|apply u_2);done)|((repeat first|exact u_0|assumption|apply u_3|apply u_1);done))) (by ((try apply evl_some rfl);(repeat (first|exact (rfl : _ = [])|apply evl_cons rfl (by (first|exact v_1|exact v_2|exact v_3|exact v_4|exact v_5|exact v_6|exact v_7|exact v_8|exact v_9|exact rfl))|exact rfl)))) (by rfl) (by rfl) (by rfl) (by ((try apply evl_some rfl);(repeat (first|exact (rfl : _ = [])|apply evl_cons rfl (by (first|exact v_1|exact v_2|exact v_3|exact v_4|exact v_5|exact v_6|exact v_7|exact v_8|exact v_9|exact rfl))|exact rfl)))) ?_)
  refine xr_end rfl ?_
  refine th_n ?_
  refine xc_ret ?_
  refine body_ret (h' := h) rfl (ro_cellA ty75 rfl rfl (by ((repeat first|exact z_0|assumption|refine z_1 ?_|(refine z_l ?_;(repeat first|exact z_0|assumption|refine z_1 ?_);done)|refine z_r ?_);done)) (by rfl) (by rfl) ro_nil) (by (first|((repeat first|exact s_0|exact s_1|exact s_3|refine s_4 ?_|refine s_5 ?_|refine s_6 ?_|refine s_7 ?_);done)|((repeat first|exact s_0|exact s_1|exact s_3|refine s_4 ?_|refine s_5 ?_|refine s_6 ?_|refine s_8 ?_);done))) ?_
  exact H

theorem spanOf_c {a : Span} {h : Hp} {R : Ending → Hp → Prop} (H : R (.returned (.agg ⟨eSpan a⟩)) h) :
    ACalls Try.prog 35 ⟨[.agg ⟨eSpan a⟩]⟩ h R := by
  refine calls_of_xc (N := 8) Try.func35 rfl (by rfl) ?_
  refine xc_seq (xc_region ?_)
  refine xr_op rfl rfl (xv_box rfl (fun b1 hb1 => ?_))
  refine xr_op rfl rfl (xv_alloc ty33 (fun b2 hb2 => ?_))
  refine xr_end rfl ?_
  refine th_n ?_
  refine xc_seq (xc_region ?_)
  refine xr_op rfl rfl (xv_faddr fl75_0 rfl ?_)
  refine xr_op rfl rfl (xv_load1 ty3 rfl rfl (by ((repeat first|exact z_0|assumption|refine z_1 ?_|(refine z_l ?_;(repeat first|exact z_0|assumption|refine z_1 ?_);done)|refine z_r ?_);done)) (by rfl) ?_)
  refine xr_op rfl rfl (xv_faddr fl75_1 rfl ?_)
  refine xr_op rfl rfl (xv_load1 ty3 rfl rfl (by ((repeat first|exact z_0|assumption|refine z_1 ?_|(refine z_l ?_;(repeat first|exact z_0|assumption|refine z_1 ?_);done)|refine z_r ?_);done)) (by rfl) ?_)
  refine xr_op rfl rfl (xv_build bt33 rfl (by ((try apply evl_some rfl);(repeat (first|exact (rfl : _ = [])|apply evl_cons rfl (by (first|exact v_1|exact v_2|exact v_3|exact v_4|exact v_5|exact v_6|exact v_7|exact v_8|exact v_9|exact rfl))|exact rfl)))) ?_)
  refine xr_op rfl rfl (xv_s ty33 rfl rfl (by (first|(apply u_3;(repeat first|exact u_0|assumption|apply u_1|apply u_2);done)|((repeat first|exact u_0|assumption|apply u_1|apply u_2);done)|(apply u_3;apply u_3;(repeat first|exact u_0|assumption|apply u_1|apply u_2);done)|((repeat first|exact u_0|assumption|apply u_3|apply u_1);done))) (by ((try apply evl_some rfl);(repeat (first|exact (rfl : _ = [])|apply evl_cons rfl (by (first|exact v_1|exact v_2|exact v_3|exact v_4|exact v_5|exact v_6|exact v_7|exact v_8|exact v_9|exact rfl))|exact rfl)))) (by rfl) (by rfl) (by rfl) (by ((try apply evl_some rfl);(repeat (first|exact (rfl : _ = [])|apply evl_cons rfl (by (first|exact v_1|exact v_2|exact v_3|exact v_4|exact v_5|exact v_6|exact v_7|exact v_8|exact v_9|exact rfl))|exact rfl)))) ?_)
  refine xr_end rfl ?_
  refine th_n ?_
  refine xc_ret ?_
  refine body_ret (h' := h) rfl (ro_cellA ty33 rfl rfl (by ((repeat first|exact z_0|assumption|refine z_1 ?_|(refine z_l ?_;(repeat first|exact z_0|assumption|refine z_1 ?_);done)|refine z_r ?_);done)) (by rfl) (by rfl) ro_nil) (by (first|((repeat first|exact s_0|exact s_1|exact s_3|refine s_4 ?_|refine s_5 ?_|refine s_6 ?_|refine s_7 ?_);done)|((repeat first|exact s_0|exact s_1|exact s_3|refine s_4 ?_|refine s_5 ?_|refine s_6 ?_|refine s_8 ?_);done))) ?_
  exact H

theorem large_c {y : Yard} {h : Hp} {R : Ending → Hp → Prop} (hy : YardV h y) (hcl : y.coals.length ≤ 9223372036854775807) (hml : y.moves.length ≤ 9223372036854775807) (H1 : ¬ (y.coals.length ≤ 10 ∧ y.moves.length ≤ 36) → R (.returned (.bool true)) h) (H2 : y.coals.length ≤ 10 → y.moves.length ≤ 36 → R (.returned (.bool false)) h) : ACalls Try.prog 9 ⟨[.agg ⟨eYard y⟩]⟩ h R := by
  refine calls_of_xc (N := 13) Try.func9 rfl (by rfl) ?_
  refine xc_seq (xc_region ?_)
  refine xr_op rfl rfl (xv_box rfl (fun b1 hb1 => ?_))
  refine xr_op rfl rfl (xv_assign rfl ?_)
  refine xr_end rfl ?_
  refine th_n ?_
  refine xc_seq (xc_region ?_)
  refine xr_op rfl rfl (xv_faddr fl25_0 rfl ?_)
  refine xr_op rfl rfl (xv_load1 ty22 rfl rfl (by ((repeat first|exact z_0|assumption|refine z_1 ?_|(refine z_l ?_;(repeat first|exact z_0|assumption|refine z_1 ?_);done)|refine z_r ?_);done)) (by rfl) ?_)
  refine xr_op rfl rfl (xv_len sl22 rfl ?_)
  refine xr_op rfl rfl (xv_gtr2 rfl rfl (fun q1 => ?_) (fun q1 => ?_))
  · refine xr_op rfl rfl (xv_move rfl ?_)
    refine xr_no rfl rfl rfl rfl ?_
    refine xr_no rfl rfl rfl rfl ?_
    refine xr_no rfl rfl rfl rfl ?_
    refine xr_no rfl rfl rfl rfl ?_
    refine xr_op rfl rfl (xv_pick rfl rfl ?_)
    refine xr_op rfl rfl (xv_assign rfl ?_)
    refine xr_end rfl ?_
    refine th_n ?_
    refine xc_ret ?_
    refine body_ret (h' := h) rfl (ro_tmp rfl ro_nil) (by (first|((repeat first|exact s_0|exact s_1|exact s_3|refine s_4 ?_|refine s_5 ?_|refine s_6 ?_|refine s_7 ?_);done)|((repeat first|exact s_0|exact s_1|exact s_3|refine s_4 ?_|refine s_5 ?_|refine s_6 ?_|refine s_8 ?_);done))) ?_
    first | exact H1 (by omega) | exact H2 (by omega) (by omega)
  · refine xr_op rfl rfl (xv_move rfl ?_)
    refine xr_gd rfl rfl rfl (xv_faddr fl25_1 rfl ?_)
    refine xr_gd rfl rfl rfl (xv_load1 ty23 rfl rfl (by ((repeat first|exact z_0|assumption|refine z_1 ?_|(refine z_l ?_;(repeat first|exact z_0|assumption|refine z_1 ?_);done)|refine z_r ?_);done)) (by rfl) ?_)
    refine xr_gd rfl rfl rfl (xv_len sl23 rfl ?_)
    refine xr_gd rfl rfl rfl (xv_gtr2 rfl rfl (fun q2 => ?_) (fun q2 => ?_))
    · refine xr_op rfl rfl (xv_pick rfl rfl ?_)
      refine xr_op rfl rfl (xv_assign rfl ?_)
      refine xr_end rfl ?_
      refine th_n ?_
      refine xc_ret ?_
      refine body_ret (h' := h) rfl (ro_tmp rfl ro_nil) (by (first|((repeat first|exact s_0|exact s_1|exact s_3|refine s_4 ?_|refine s_5 ?_|refine s_6 ?_|refine s_7 ?_);done)|((repeat first|exact s_0|exact s_1|exact s_3|refine s_4 ?_|refine s_5 ?_|refine s_6 ?_|refine s_8 ?_);done))) ?_
      first | exact H1 (by omega) | exact H2 (by omega) (by omega)
    · refine xr_op rfl rfl (xv_pick rfl rfl ?_)
      refine xr_op rfl rfl (xv_assign rfl ?_)
      refine xr_end rfl ?_
      refine th_n ?_
      refine xc_ret ?_
      refine body_ret (h' := h) rfl (ro_tmp rfl ro_nil) (by (first|((repeat first|exact s_0|exact s_1|exact s_3|refine s_4 ?_|refine s_5 ?_|refine s_6 ?_|refine s_7 ?_);done)|((repeat first|exact s_0|exact s_1|exact s_3|refine s_4 ?_|refine s_5 ?_|refine s_6 ?_|refine s_8 ?_);done))) ?_
      first | exact H1 (by omega) | exact H2 (by omega) (by omega)

end Go.Proofs.Ytpefpafijadfmaa
