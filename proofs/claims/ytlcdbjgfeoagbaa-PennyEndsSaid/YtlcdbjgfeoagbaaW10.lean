/-
  Walks.
-/
import Derived.Test.YtlcdbjgfeoagbaaP8
import Derived.Test.YtlcdbjgfeoagbaaV6
import Derived.Test.YtlcdbjgfeoagbaaW7
import Derived.Test.YtlcdbjgfeoagbaaW8
namespace Go.Proofs.Ytlcdbjgfeoagbaa
open Go Go.H
set_option maxRecDepth 100000
set_option maxHeartbeats 8000000
set_option linter.all false
theorem Slot_c {s : Slot} {h : Hp} {R : Ending → Hp → Prop} (hs : SlotV h s) (hsm : Small s) (H1 : GoodSlot s → R (.returned (.bool true)) h) (H2 : ¬ GoodSlot s → R (.returned (.bool false)) h) : ACalls Try.prog 17 ⟨[.agg ⟨eSlot s⟩]⟩ h R := by
  refine calls_of_xc (N := 121) Try.func17 rfl (by rfl) ?_
  obtain ⟨hsl, hsk⟩ := id hsm
  refine xc_seq (xc_region ?_)
  refine xr_op rfl rfl (xv_box rfl (fun b1 hb1 => ?_))
  refine xr_op rfl rfl (xv_assign rfl ?_)
  refine xr_end rfl ?_
  refine th_n ?_
  refine xc_seq ?_
  refine xc_seq (xc_region ?_)
  refine xr_op rfl rfl (xv_faddr fl25_1 rfl ?_)
  refine xr_op rfl rfl (xv_load1 ty3 rfl rfl (by ((repeat first|exact z_0|assumption|refine z_1 ?_|(refine z_l ?_;(repeat first|exact z_0|assumption|refine z_1 ?_);done)|refine z_r ?_);done)) (by rfl) ?_)
  refine xr_op rfl rfl (xv_calls rfl hb39 (in_c _ _ _ (fun hl1 hu2 => up_ret ?_) (fun hn3 => up_ret ?_)))
  · refine xr_op rfl rfl (xv_not rfl ?_)
    refine xr_op rfl rfl (xv_move rfl ?_)
    refine xr_gd rfl rfl rfl (xv_faddr fl25_0 rfl ?_)
    refine xr_gd rfl rfl rfl (xv_load1 ty3 rfl rfl (by ((repeat first|exact z_0|assumption|refine z_1 ?_|(refine z_l ?_;(repeat first|exact z_0|assumption|refine z_1 ?_);done)|refine z_r ?_);done)) (by rfl) ?_)
    refine xr_gd rfl rfl rfl (xv_faddr fl25_1 rfl ?_)
    refine xr_gd rfl rfl rfl (xv_load1 ty3 rfl rfl (by ((repeat first|exact z_0|assumption|refine z_1 ?_|(refine z_l ?_;(repeat first|exact z_0|assumption|refine z_1 ?_);done)|refine z_r ?_);done)) (by rfl) ?_)
    refine xr_gd rfl rfl rfl (xv_calls rfl hb39 (in_c _ _ _ (fun hl4 hu5 => up_ret ?_) (fun hn6 => up_ret ?_)))
    · refine xr_gd rfl rfl rfl (xv_not rfl ?_)
      refine xr_op rfl rfl (xv_pick rfl rfl ?_)
      refine xr_op rfl rfl (xv_move rfl ?_)
      refine xr_gd rfl rfl rfl (xv_faddr fl25_2 rfl ?_)
      refine xr_gd rfl rfl rfl (xv_load1 ty3 rfl rfl (by ((repeat first|exact z_0|assumption|refine z_1 ?_|(refine z_l ?_;(repeat first|exact z_0|assumption|refine z_1 ?_);done)|refine z_r ?_);done)) (by rfl) ?_)
      refine xr_gd rfl rfl rfl (xv_calls rfl hb39 (in_c _ _ _ (fun hl7 hu8 => up_ret ?_) (fun hn9 => up_ret ?_)))
      · refine xr_gd rfl rfl rfl (xv_not rfl ?_)
        refine xr_op rfl rfl (xv_pick rfl rfl ?_)
        refine xr_op rfl rfl (xv_move rfl ?_)
        refine xr_gd rfl rfl rfl (xv_faddr fl25_3 rfl ?_)
        refine xr_gd rfl rfl rfl (xv_load1 ty3 rfl rfl (by ((repeat first|exact z_0|assumption|refine z_1 ?_|(refine z_l ?_;(repeat first|exact z_0|assumption|refine z_1 ?_);done)|refine z_r ?_);done)) (by rfl) ?_)
        refine xr_gd rfl rfl rfl (xv_calls rfl hb39 (in_c _ _ _ (fun hl10 hu11 => up_ret ?_) (fun hn12 => up_ret ?_)))
        · refine xr_gd rfl rfl rfl (xv_not rfl ?_)
          refine xr_op rfl rfl (xv_pick rfl rfl ?_)
          refine xr_op rfl rfl (xv_move rfl ?_)
          refine xr_gd rfl rfl rfl (xv_faddr fl25_4 rfl ?_)
          refine xr_gd rfl rfl rfl (xv_load1 ty22 rfl rfl (by ((repeat first|exact z_0|assumption|refine z_1 ?_|(refine z_l ?_;(repeat first|exact z_0|assumption|refine z_1 ?_);done)|refine z_r ?_);done)) (by rfl) ?_)
          refine xr_gd rfl rfl rfl (xv_len sl22 rfl ?_)
          refine xr_gd rfl rfl rfl (xv_calls rfl hb39 (in_c _ _ _ (fun hl13 hu14 => up_ret ?_) (fun hn15 => up_ret ?_)))
          · refine xr_gd rfl rfl rfl (xv_not rfl ?_)
            refine xr_op rfl rfl (xv_pick rfl rfl ?_)
            refine xr_op rfl rfl (xv_move rfl ?_)
            refine xr_gd rfl rfl rfl (xv_faddr fl25_5 rfl ?_)
            refine xr_gd rfl rfl rfl (xv_load1 ty23 rfl rfl (by ((repeat first|exact z_0|assumption|refine z_1 ?_|(refine z_l ?_;(repeat first|exact z_0|assumption|refine z_1 ?_);done)|refine z_r ?_);done)) (by rfl) ?_)
            refine xr_gd rfl rfl rfl (xv_len sl23 rfl ?_)
            refine xr_gd rfl rfl rfl (xv_gtr2 rfl rfl (fun q16 => ?_) (fun q16 => ?_))
            · refine xr_op rfl rfl (xv_pick rfl rfl ?_)
              refine xr_end rfl ?_
              refine th_n ?_
              refine xc_true rfl ?_
              refine xc_seq (xc_region ?_)
              have hbad : ¬ GoodSlot s := fun ⟨⟨a1, a2, a3, a4⟩, ⟨a5, a6⟩, _⟩ => by (first|omega|(dsimp only at *;omega)|(simp at *;omega))
              refine xr_op rfl rfl (xv_assign rfl ?_)
              refine xr_end rfl ?_
              refine th_n ?_
              refine xc_ret ?_
              refine th_r ?_
              refine body_ret (h' := h) rfl (ro_tmp rfl ro_nil) (by (first|((repeat first|exact s_0|exact s_1|exact s_3|refine s_4 ?_|refine s_5 ?_|refine s_6 ?_|refine s_7 ?_);done)|((repeat first|exact s_0|exact s_1|exact s_3|refine s_4 ?_|refine s_5 ?_|refine s_6 ?_|refine s_8 ?_);done))) ?_
              first | exact H2 hbad | exact H1 ⟨hnum, hsz, hfr, htk, hmk⟩
            · refine xr_op rfl rfl (xv_pick rfl rfl ?_)
              refine xr_end rfl ?_
              refine th_n ?_
              refine xc_false rfl ?_
              refine xc_skip ?_
              refine th_n ?_
              refine xc_seq ?_
              refine xc_seq (xc_region ?_)
              have hnum : numsOk s := by unfold numsOk; (first|omega|(dsimp only at *;omega)|(simp at *;omega))
              have hsz : sizesOk s := by unfold sizesOk; (first|omega|(dsimp only at *;omega)|(simp at *;omega))
              refine xr_op rfl rfl (xv_assign rfl ?_)
              refine xr_end rfl ?_
              refine th_n ?_
              refine xc_block ?_
              refine xc_loop (σ := Nat) (fun k => k ≤ s.tars.length ∧ tarsOk s.hold s.now (-1) (s.tars.take k) ∧ (0 < k → frm0 s)) (fun k => ((emp.put (some 1) (.pointer (some ⟨b1, 0, none⟩))).put (some 3) (I k))) (fun k => ((b1, .cells ⟨eSlot s⟩ 25) :: h)) (fun k => s.tars.length - k) 0 ⟨Nat.zero_le _, trivial, fun q => absurd q (by omega)⟩ (le_put (le_put (le_emp _) rfl) rfl) (by (first|((repeat first|exact s_0|exact s_1|exact s_3|refine s_4 ?_|refine s_5 ?_|refine s_6 ?_|refine s_7 ?_);done)|((repeat first|exact s_0|exact s_1|exact s_3|refine s_4 ?_|refine s_5 ?_|refine s_6 ?_|refine s_8 ?_);done))) ?_
              rintro k ⟨hk, htk, hfr0⟩
              refine xc_seq ?_
              refine xc_seq (xc_region ?_)
              refine xr_op rfl rfl (xv_move rfl ?_)
              refine xr_op rfl rfl (xv_faddr fl25_4 rfl ?_)
              refine xr_op rfl rfl (xv_load1 ty22 rfl rfl (by ((repeat first|exact z_0|assumption|refine z_1 ?_|(refine z_l ?_;(repeat first|exact z_0|assumption|refine z_1 ?_);done)|refine z_r ?_);done)) (by rfl) ?_)
              refine xr_op rfl rfl (xv_len sl22 rfl ?_)
              refine xr_op rfl rfl (xv_lss2 rfl rfl (fun q17 => ?_) (fun q17 => ?_))
              · refine xr_end rfl ?_
                refine th_n ?_
                refine xc_true rfl ?_
                refine xc_skip ?_
                refine th_n ?_
                refine xc_seq ?_
                refine xc_block ?_
                refine xc_seq (xc_region ?_)
                refine xr_op rfl rfl (xv_faddr fl25_4 rfl ?_)
                refine xr_op rfl rfl (xv_load1 ty22 rfl rfl (by ((repeat first|exact z_0|assumption|refine z_1 ?_|(refine z_l ?_;(repeat first|exact z_0|assumption|refine z_1 ?_);done)|refine z_r ?_);done)) (by rfl) ?_)
                refine xr_op rfl rfl (xv_move rfl ?_)
                have hlto : k < s.tars.length := by (first|omega|(dsimp only at *;omega)|(simp at *;omega))
                obtain ⟨bo, oo, lo, to, fzo, hao, hmo, hxo⟩ := (hs.tars).at hlto
                obtain ⟨xo, hko⟩ : ∃ qq_, s.tars[k]? = some qq_ := ⟨_, List.getElem?_eq_getElem hlto⟩
                refine xr_op rfl rfl (xv_ia (sz := 2) (j := k) sl22 ty54 rfl (by rw [hao]; rfl) rfl (by (first | assumption | with_reducible exact Int.toNat_natCast _ | with_reducible rfl | rfl)) (by (first|omega|(dsimp only at *;omega)|(simp at *;omega))) (by (first|omega|(dsimp only at *;omega)|(simp at *;omega))) ?_)
                refine xr_op rfl rfl (xv_loadA ty54 rfl rfl (by ((repeat first|exact z_0|assumption|refine z_1 ?_|(refine z_l ?_;(repeat first|exact z_0|assumption|refine z_1 ?_);done)|refine z_r ?_);done)) (hxo (k) xo hko) rfl ?_)
                refine xr_op rfl rfl (xv_alloc ty54 (fun b4 hb4 => ?_))
                refine xr_op rfl rfl (xv_s ty54 rfl rfl (by (first|(apply u_3;(repeat first|exact u_0|assumption|apply u_1|apply u_2);done)|((repeat first|exact u_0|assumption|apply u_1|apply u_2);done)|(apply u_3;apply u_3;(repeat first|exact u_0|assumption|apply u_1|apply u_2);done)|((repeat first|exact u_0|assumption|apply u_3|apply u_1);done))) (by ((try apply evl_some rfl);(repeat (first|exact (rfl : _ = [])|apply evl_cons rfl (by (first|exact v_1|exact v_2|exact v_3|exact v_4|exact v_5|exact v_6|exact v_7|exact v_8|exact v_9|exact rfl))|exact rfl)))) (by rfl) (by rfl) (by rfl) (by ((try apply evl_some rfl);(repeat (first|exact (rfl : _ = [])|apply evl_cons rfl (by (first|exact v_1|exact v_2|exact v_3|exact v_4|exact v_5|exact v_6|exact v_7|exact v_8|exact v_9|exact rfl))|exact rfl)))) ?_)
                refine xr_end rfl ?_
                refine th_n ?_
                refine xc_seq ?_
                refine xc_draw0 [(0, .S), (1, .R), (2, .S), (3, .R), (4, .O), (5, .S), (6, .S), (7, .S), (8, .R), (9, .S), (10, .R), (11, .O), (12, .S), (13, .S), (14, .S), (15, .S), (16, .O), (17, .S), (18, .S), (19, .R), (20, .O), (21, .S), (22, .S), (23, .S), (24, .S), (25, .O), (26, .S), (27, .S), (28, .R), (29, .S), (30, .R), (31, .S), (32, .S), (33, .S), (34, .S), (35, .R), (36, .O), (37, .S), (38, .S)] mixed (by kernel_rfl) ?_
                refine js_S rfl rfl (.inl rfl) (xv_faddr fl54_0 rfl ⟨rfl, rfl⟩) ?_
                refine js_R0 rfl rfl (.inl rfl) (xv_load1 ty3 rfl rfl (by ((repeat first|exact z_0|assumption|refine z_1 ?_|(refine z_l ?_;(repeat first|exact z_0|assumption|refine z_1 ?_);done)|refine z_r ?_);done)) (by rfl) ⟨rfl, rfl⟩) ?_
                refine js_S rfl rfl (.inl rfl) (xv_faddr fl25_3 rfl ⟨rfl, rfl⟩) ?_
                refine js_R0 rfl rfl (.inl rfl) (xv_load1 ty3 rfl rfl (by ((repeat first|exact z_0|assumption|refine z_1 ?_|(refine z_l ?_;(repeat first|exact z_0|assumption|refine z_1 ?_);done)|refine z_r ?_);done)) (by rfl) ⟨rfl, rfl⟩) ?_
                refine js_O0 rfl rfl (.inl rfl) (xv_calls rfl hb39 (in_c _ _ _ (fun hl18 hu19 => up_ret ?_) (fun hn20 => up_ret ?_)))
                · refine js_S rfl rfl (.inl rfl) (xv_not rfl ⟨rfl, rfl⟩) ?_
                  refine js_S rfl rfl (.inl rfl) (xv_move rfl ⟨rfl, rfl⟩) ?_
                  refine js_S rfl rfl (.inr ⟨_, _, rfl, rfl⟩) (xv_faddr fl54_1 rfl ⟨rfl, rfl⟩) ?_
                  refine js_R0 rfl rfl (.inr ⟨_, _, rfl, rfl⟩) (xv_load1 ty3 rfl rfl (by ((repeat first|exact z_0|assumption|refine z_1 ?_|(refine z_l ?_;(repeat first|exact z_0|assumption|refine z_1 ?_);done)|refine z_r ?_);done)) (by rfl) ⟨rfl, rfl⟩) ?_
                  refine js_S rfl rfl (.inr ⟨_, _, rfl, rfl⟩) (xv_faddr fl25_1 rfl ⟨rfl, rfl⟩) ?_
                  refine js_R0 rfl rfl (.inr ⟨_, _, rfl, rfl⟩) (xv_load1 ty3 rfl rfl (by ((repeat first|exact z_0|assumption|refine z_1 ?_|(refine z_l ?_;(repeat first|exact z_0|assumption|refine z_1 ?_);done)|refine z_r ?_);done)) (by rfl) ⟨rfl, rfl⟩) ?_
                  refine js_O0 rfl rfl (.inr ⟨_, _, rfl, rfl⟩) (xv_calls rfl hb39 (in_c _ _ _ (fun hl21 hu22 => up_ret ?_) (fun hn23 => up_ret ?_)))
                  · refine js_S rfl rfl (.inr ⟨_, _, rfl, rfl⟩) (xv_not rfl ⟨rfl, rfl⟩) ?_
                    refine js_S rfl rfl (.inl rfl) (xv_pick rfl rfl ⟨rfl, rfl⟩) ?_
                    refine js_S rfl rfl (.inl rfl) (xv_move rfl ⟨rfl, rfl⟩) ?_
                    refine js_S rfl rfl (.inr ⟨_, _, rfl, rfl⟩) (xv_move rfl ⟨rfl, rfl⟩) ?_
                    refine js_O0 rfl rfl (.inr ⟨_, _, rfl, rfl⟩) (xv_eql2 rfl rfl (fun hq => ?_) (fun hq => ?_))
                    · refine js_S rfl rfl (.inr ⟨_, _, rfl, rfl⟩) (xv_move rfl ⟨rfl, rfl⟩) ?_
                      refine js_S rfl rfl (.inr ⟨_, _, rfl, rfl⟩) (xv_faddr fl54_0 rfl ⟨rfl, rfl⟩) ?_
                      refine js_R0 rfl rfl (.inr ⟨_, _, rfl, rfl⟩) (xv_load1 ty3 rfl rfl (by ((repeat first|exact z_0|assumption|refine z_1 ?_|(refine z_l ?_;(repeat first|exact z_0|assumption|refine z_1 ?_);done)|refine z_r ?_);done)) (by rfl) ⟨rfl, rfl⟩) ?_
                      refine js_O0 rfl rfl (.inr ⟨_, _, rfl, rfl⟩) (xv_neq2 rfl rfl (fun hq => ?_) (fun hq => ?_))
                      · refine js_S rfl rfl (.inr ⟨_, _, rfl, rfl⟩) (xv_pick rfl rfl ⟨rfl, rfl⟩) ?_
                        refine js_S rfl rfl (.inl rfl) (xv_pick rfl rfl ⟨rfl, rfl⟩) ?_
                        refine js_S rfl rfl (.inl rfl) (xv_move rfl ⟨rfl, rfl⟩) ?_
                        refine js_Ss rfl rfl ⟨_, _, _, rfl, rfl, rfl⟩ ?_
                        refine js_Os rfl rfl ⟨_, _, _, rfl, rfl, rfl⟩ ?_
                        refine js_Ss rfl rfl ⟨_, _, _, rfl, rfl, rfl⟩ ?_
                        refine js_Ss rfl rfl ⟨_, _, _, rfl, rfl, rfl⟩ ?_
                        refine js_Rs rfl rfl ⟨_, _, _, rfl, rfl, rfl⟩ ?_
                        refine js_Ss rfl rfl ⟨_, _, _, rfl, rfl, rfl⟩ ?_
                        refine js_Rs rfl rfl ⟨_, _, _, rfl, rfl, rfl⟩ ?_
                        refine js_Ss rfl rfl ⟨_, _, _, rfl, rfl, rfl⟩ ?_
                        refine js_Ss rfl rfl ⟨_, _, _, rfl, rfl, rfl⟩ ?_
                        refine js_Ss rfl rfl ⟨_, _, _, rfl, rfl, rfl⟩ ?_
                        refine js_Ss rfl rfl ⟨_, _, _, rfl, rfl, rfl⟩ ?_
                        refine js_Rs rfl rfl ⟨_, _, _, rfl, rfl, rfl⟩ ?_
                        refine js_Os rfl rfl ⟨_, _, _, rfl, rfl, rfl⟩ ?_
                        refine js_Ss rfl rfl ⟨_, _, _, rfl, rfl, rfl⟩ ?_
                        refine js_S rfl rfl (.inl rfl) (xv_pick rfl rfl ⟨rfl, rfl⟩) ?_
                        refine j_end0 ?_
                        refine th_n ?_
                        refine xc_true rfl ?_
                        refine xc_seq (xc_region ?_)
                        have hbad : ¬ GoodSlot s := fun ⟨z1, z2, z3, z4, z0⟩ => by
                          have z5 := tarsOk_at z4 hko
                          have z6 := lastF_ge htk
                          unfold tarOk at z5
                          first | omega | (obtain rfl : k = 0 := (by (first|omega|(dsimp only at *;omega)|(simp at *;omega))); have z7 := frm0_at z3 hko; omega)
                        refine xr_op rfl rfl (xv_assign rfl ?_)
                        refine xr_end rfl ?_
                        refine th_n ?_
                        refine xc_ret ?_
                        refine bk_r ?_
                        refine th_r ?_
                        refine th_r ?_
                        refine bk_r ?_
                        refine th_r ?_
                        refine body_ret (h' := h) rfl (ro_tmp rfl ro_nil) (by (first|((repeat first|exact s_0|exact s_1|exact s_3|refine s_4 ?_|refine s_5 ?_|refine s_6 ?_|refine s_7 ?_);done)|((repeat first|exact s_0|exact s_1|exact s_3|refine s_4 ?_|refine s_5 ?_|refine s_6 ?_|refine s_8 ?_);done))) ?_
                        first | exact H2 hbad | exact H1 ⟨hnum, hsz, hfr, htk, hmk⟩
                      · refine js_S rfl rfl (.inr ⟨_, _, rfl, rfl⟩) (xv_pick rfl rfl ⟨rfl, rfl⟩) ?_
                        refine js_S rfl rfl (.inl rfl) (xv_pick rfl rfl ⟨rfl, rfl⟩) ?_
                        refine js_S rfl rfl (.inl rfl) (xv_move rfl ⟨rfl, rfl⟩) ?_
                        refine js_S rfl rfl (.inr ⟨_, _, rfl, rfl⟩) (xv_move rfl ⟨rfl, rfl⟩) ?_
                        refine js_O0 rfl rfl (.inr ⟨_, _, rfl, rfl⟩) (xv_gtr2 rfl rfl (fun hq => ?_) (fun hq => ?_))
                        · refine js_S rfl rfl (.inr ⟨_, _, rfl, rfl⟩) (xv_move rfl ⟨rfl, rfl⟩) ?_
                          have hltp : (k - 1) < s.tars.length := by (first|omega|(dsimp only at *;omega)|(simp at *;omega))
                          obtain ⟨bp, op, lp, tp, fzp, hap, hmp, hxp⟩ := (hs.tars).at hltp
                          obtain ⟨xp, hkp⟩ : ∃ qq_, s.tars[(k - 1)]? = some qq_ := ⟨_, List.getElem?_eq_getElem hltp⟩
                          refine js_S rfl rfl (.inr ⟨_, _, rfl, rfl⟩) (xv_faddr fl54_0 rfl ⟨rfl, rfl⟩) ?_
                          refine js_R0 rfl rfl (.inr ⟨_, _, rfl, rfl⟩) (xv_load1 ty3 rfl rfl (by ((repeat first|exact z_0|assumption|refine z_1 ?_|(refine z_l ?_;(repeat first|exact z_0|assumption|refine z_1 ?_);done)|refine z_r ?_);done)) (by rfl) ⟨rfl, rfl⟩) ?_
                          refine js_S rfl rfl (.inr ⟨_, _, rfl, rfl⟩) (xv_faddr fl25_4 rfl ⟨rfl, rfl⟩) ?_
                          refine js_R0 rfl rfl (.inr ⟨_, _, rfl, rfl⟩) (xv_load1 ty22 rfl rfl (by ((repeat first|exact z_0|assumption|refine z_1 ?_|(refine z_l ?_;(repeat first|exact z_0|assumption|refine z_1 ?_);done)|refine z_r ?_);done)) (by rfl) ⟨rfl, rfl⟩) ?_
                          refine js_S rfl rfl (.inr ⟨_, _, rfl, rfl⟩) (xv_move rfl ⟨rfl, rfl⟩) ?_
                          refine js_S rfl rfl (.inr ⟨_, _, rfl, rfl⟩) (xv_sub rfl rfl (wrap_i64 (by (first|omega|(dsimp only at *;omega)|(simp at *;omega))) (by (first|omega|(dsimp only at *;omega)|(simp at *;omega)))) ⟨rfl, rfl⟩) ?_
                          refine js_S rfl rfl (.inr ⟨_, _, rfl, rfl⟩) (xv_ia (sz := 2) (j := (k - 1)) sl22 ty54 rfl (by rw [hap]; rfl) rfl (by omega) (by (first|omega|(dsimp only at *;omega)|(simp at *;omega))) (by (first|omega|(dsimp only at *;omega)|(simp at *;omega))) ⟨rfl, rfl⟩) ?_
                          refine js_S rfl rfl (.inr ⟨_, _, rfl, rfl⟩) (xv_faddr fl54_0 rfl ⟨rfl, rfl⟩) ?_
                          refine js_R0 rfl rfl (.inr ⟨_, _, rfl, rfl⟩) (xv_load1 ty3 rfl rfl (by ((repeat first|exact z_0|assumption|refine z_1 ?_|(refine z_l ?_;(repeat first|exact z_0|assumption|refine z_1 ?_);done)|refine z_r ?_);done)) (take_get (hxp ((k - 1)) xp hkp) (j := 0) rfl) ⟨rfl, rfl⟩) ?_
                          have hlp : 0 < k → lastF (-1) (s.tars.take k) = xp.frm := fun q => lastF_p q hkp
                          have hlp2 := hlp (by (first|omega|(dsimp only at *;omega)|(simp at *;omega)))
                          refine js_O0 rfl rfl (.inr ⟨_, _, rfl, rfl⟩) (xv_leq2 rfl rfl (fun hq => ?_) (fun hq => ?_))
                          · refine js_S rfl rfl (.inr ⟨_, _, rfl, rfl⟩) (xv_pick rfl rfl ⟨rfl, rfl⟩) ?_
                            refine js_S rfl rfl (.inl rfl) (xv_pick rfl rfl ⟨rfl, rfl⟩) ?_
                            refine j_end0 ?_
                            refine th_n ?_
                            refine xc_true rfl ?_
                            refine xc_seq (xc_region ?_)
                            have hbad : ¬ GoodSlot s := fun ⟨z1, z2, z3, z4, z0⟩ => by
                              have z5 := tarsOk_at z4 hko
                              have z6 := lastF_ge htk
                              unfold tarOk at z5
                              first | omega | (obtain rfl : k = 0 := (by (first|omega|(dsimp only at *;omega)|(simp at *;omega))); have z7 := frm0_at z3 hko; omega)
                            refine xr_op rfl rfl (xv_assign rfl ?_)
                            refine xr_end rfl ?_
                            refine th_n ?_
                            refine xc_ret ?_
                            refine bk_r ?_
                            refine th_r ?_
                            refine th_r ?_
                            refine bk_r ?_
                            refine th_r ?_
                            refine body_ret (h' := h) rfl (ro_tmp rfl ro_nil) (by (first|((repeat first|exact s_0|exact s_1|exact s_3|refine s_4 ?_|refine s_5 ?_|refine s_6 ?_|refine s_7 ?_);done)|((repeat first|exact s_0|exact s_1|exact s_3|refine s_4 ?_|refine s_5 ?_|refine s_6 ?_|refine s_8 ?_);done))) ?_
                            first | exact H2 hbad | exact H1 ⟨hnum, hsz, hfr, htk, hmk⟩
                          · refine js_S rfl rfl (.inr ⟨_, _, rfl, rfl⟩) (xv_pick rfl rfl ⟨rfl, rfl⟩) ?_
                            refine js_S rfl rfl (.inl rfl) (xv_pick rfl rfl ⟨rfl, rfl⟩) ?_
                            refine j_end0 ?_
                            refine th_n ?_
                            refine xc_false rfl ?_
                            refine xc_skip ?_
                            refine bk_n ?_
                            refine th_n ?_
                            refine xc_region ?_
                            refine xr_op rfl rfl (xv_move rfl ?_)
                            refine xr_op rfl rfl (xv_add rfl rfl (wrap_i64 (by (first|omega|(dsimp only at *;omega)|(simp at *;omega))) (by (first|omega|(dsimp only at *;omega)|(simp at *;omega)))) ?_)
                            refine xr_op rfl rfl (xv_assign rfl ?_)
                            refine xr_end rfl ?_
                            have hlp : lastF (-1) (s.tars.take k) = -1 := by rw [show k = 0 by (first|omega|(dsimp only at *;omega)|(simp at *;omega))]; rfl
                            have hto : tarOk s.hold s.now (lastF (-1) (s.tars.take k)) xo := by unfold tarOk; (first|omega|(dsimp only at *;omega)|(simp at *;omega))
                            have hfr2 : frm0 s := by
                              rcases Nat.eq_zero_or_pos k with z | z
                              · subst z; exact frm0_of hko (by (first|omega|(dsimp only at *;omega)|(simp at *;omega)))
                              · exact hfr0 z
                            exact rnd (k + 1) ⟨by (first|omega|(dsimp only at *;omega)|(simp at *;omega)), tarsOk_more htk hko hto, fun _ => hfr2⟩ (by (first|omega|(dsimp only at *;omega)|(simp at *;omega))) (le_put (le_put (le_emp _) rfl) rfl) (by (first|((repeat first|exact s_0|exact s_1|exact s_3|refine s_4 ?_|refine s_5 ?_|refine s_6 ?_|refine s_7 ?_);done)|((repeat first|exact s_0|exact s_1|exact s_3|refine s_4 ?_|refine s_5 ?_|refine s_6 ?_|refine s_8 ?_);done)))
                        · refine js_S rfl rfl (.inr ⟨_, _, rfl, rfl⟩) (xv_move rfl ⟨rfl, rfl⟩) ?_
                          refine js_Ss rfl rfl ⟨_, _, _, rfl, rfl, rfl⟩ ?_
                          refine js_Rs rfl rfl ⟨_, _, _, rfl, rfl, rfl⟩ ?_
                          refine js_Ss rfl rfl ⟨_, _, _, rfl, rfl, rfl⟩ ?_
                          refine js_Rs rfl rfl ⟨_, _, _, rfl, rfl, rfl⟩ ?_
                          refine js_Ss rfl rfl ⟨_, _, _, rfl, rfl, rfl⟩ ?_
                          refine js_Ss rfl rfl ⟨_, _, _, rfl, rfl, rfl⟩ ?_
                          refine js_Ss rfl rfl ⟨_, _, _, rfl, rfl, rfl⟩ ?_
                          refine js_Ss rfl rfl ⟨_, _, _, rfl, rfl, rfl⟩ ?_
                          refine js_Rs rfl rfl ⟨_, _, _, rfl, rfl, rfl⟩ ?_
                          refine js_Os rfl rfl ⟨_, _, _, rfl, rfl, rfl⟩ ?_
                          refine js_S rfl rfl (.inr ⟨_, _, rfl, rfl⟩) (xv_pick rfl rfl ⟨rfl, rfl⟩) ?_
                          refine js_S rfl rfl (.inl rfl) (xv_pick rfl rfl ⟨rfl, rfl⟩) ?_
                          refine j_end0 ?_
                          refine th_n ?_
                          refine xc_false rfl ?_
                          refine xc_skip ?_
                          refine bk_n ?_
                          refine th_n ?_
                          refine xc_region ?_
                          refine xr_op rfl rfl (xv_move rfl ?_)
                          refine xr_op rfl rfl (xv_add rfl rfl (wrap_i64 (by (first|omega|(dsimp only at *;omega)|(simp at *;omega))) (by (first|omega|(dsimp only at *;omega)|(simp at *;omega)))) ?_)
                          refine xr_op rfl rfl (xv_assign rfl ?_)
                          refine xr_end rfl ?_
                          have hlp : lastF (-1) (s.tars.take k) = -1 := by rw [show k = 0 by (first|omega|(dsimp only at *;omega)|(simp at *;omega))]; rfl
                          have hto : tarOk s.hold s.now (lastF (-1) (s.tars.take k)) xo := by unfold tarOk; (first|omega|(dsimp only at *;omega)|(simp at *;omega))
                          have hfr2 : frm0 s := by
                            rcases Nat.eq_zero_or_pos k with z | z
                            · subst z; exact frm0_of hko (by (first|omega|(dsimp only at *;omega)|(simp at *;omega)))
                            · exact hfr0 z
                          exact rnd (k + 1) ⟨by (first|omega|(dsimp only at *;omega)|(simp at *;omega)), tarsOk_more htk hko hto, fun _ => hfr2⟩ (by (first|omega|(dsimp only at *;omega)|(simp at *;omega))) (le_put (le_put (le_emp _) rfl) rfl) (by (first|((repeat first|exact s_0|exact s_1|exact s_3|refine s_4 ?_|refine s_5 ?_|refine s_6 ?_|refine s_7 ?_);done)|((repeat first|exact s_0|exact s_1|exact s_3|refine s_4 ?_|refine s_5 ?_|refine s_6 ?_|refine s_8 ?_);done)))
                    · refine js_S rfl rfl (.inr ⟨_, _, rfl, rfl⟩) (xv_move rfl ⟨rfl, rfl⟩) ?_
                      refine js_Ss rfl rfl ⟨_, _, _, rfl, rfl, rfl⟩ ?_
                      refine js_Rs rfl rfl ⟨_, _, _, rfl, rfl, rfl⟩ ?_
                      refine js_Os rfl rfl ⟨_, _, _, rfl, rfl, rfl⟩ ?_
                      refine js_S rfl rfl (.inr ⟨_, _, rfl, rfl⟩) (xv_pick rfl rfl ⟨rfl, rfl⟩) ?_
                      refine js_S rfl rfl (.inl rfl) (xv_pick rfl rfl ⟨rfl, rfl⟩) ?_
                      refine js_S rfl rfl (.inl rfl) (xv_move rfl ⟨rfl, rfl⟩) ?_
                      refine js_S rfl rfl (.inr ⟨_, _, rfl, rfl⟩) (xv_move rfl ⟨rfl, rfl⟩) ?_
                      refine js_O0 rfl rfl (.inr ⟨_, _, rfl, rfl⟩) (xv_gtr2 rfl rfl (fun hq => ?_) (fun hq => ?_))
                      · refine js_S rfl rfl (.inr ⟨_, _, rfl, rfl⟩) (xv_move rfl ⟨rfl, rfl⟩) ?_
                        have hltp : (k - 1) < s.tars.length := by (first|omega|(dsimp only at *;omega)|(simp at *;omega))
                        obtain ⟨bp, op, lp, tp, fzp, hap, hmp, hxp⟩ := (hs.tars).at hltp
                        obtain ⟨xp, hkp⟩ : ∃ qq_, s.tars[(k - 1)]? = some qq_ := ⟨_, List.getElem?_eq_getElem hltp⟩
                        refine js_S rfl rfl (.inr ⟨_, _, rfl, rfl⟩) (xv_faddr fl54_0 rfl ⟨rfl, rfl⟩) ?_
                        refine js_R0 rfl rfl (.inr ⟨_, _, rfl, rfl⟩) (xv_load1 ty3 rfl rfl (by ((repeat first|exact z_0|assumption|refine z_1 ?_|(refine z_l ?_;(repeat first|exact z_0|assumption|refine z_1 ?_);done)|refine z_r ?_);done)) (by rfl) ⟨rfl, rfl⟩) ?_
                        refine js_S rfl rfl (.inr ⟨_, _, rfl, rfl⟩) (xv_faddr fl25_4 rfl ⟨rfl, rfl⟩) ?_
                        refine js_R0 rfl rfl (.inr ⟨_, _, rfl, rfl⟩) (xv_load1 ty22 rfl rfl (by ((repeat first|exact z_0|assumption|refine z_1 ?_|(refine z_l ?_;(repeat first|exact z_0|assumption|refine z_1 ?_);done)|refine z_r ?_);done)) (by rfl) ⟨rfl, rfl⟩) ?_
                        refine js_S rfl rfl (.inr ⟨_, _, rfl, rfl⟩) (xv_move rfl ⟨rfl, rfl⟩) ?_
                        refine js_S rfl rfl (.inr ⟨_, _, rfl, rfl⟩) (xv_sub rfl rfl (wrap_i64 (by (first|omega|(dsimp only at *;omega)|(simp at *;omega))) (by (first|omega|(dsimp only at *;omega)|(simp at *;omega)))) ⟨rfl, rfl⟩) ?_
                        refine js_S rfl rfl (.inr ⟨_, _, rfl, rfl⟩) (xv_ia (sz := 2) (j := (k - 1)) sl22 ty54 rfl (by rw [hap]; rfl) rfl (by omega) (by (first|omega|(dsimp only at *;omega)|(simp at *;omega))) (by (first|omega|(dsimp only at *;omega)|(simp at *;omega))) ⟨rfl, rfl⟩) ?_
                        refine js_S rfl rfl (.inr ⟨_, _, rfl, rfl⟩) (xv_faddr fl54_0 rfl ⟨rfl, rfl⟩) ?_
                        refine js_R0 rfl rfl (.inr ⟨_, _, rfl, rfl⟩) (xv_load1 ty3 rfl rfl (by ((repeat first|exact z_0|assumption|refine z_1 ?_|(refine z_l ?_;(repeat first|exact z_0|assumption|refine z_1 ?_);done)|refine z_r ?_);done)) (take_get (hxp ((k - 1)) xp hkp) (j := 0) rfl) ⟨rfl, rfl⟩) ?_
                        have hlp : 0 < k → lastF (-1) (s.tars.take k) = xp.frm := fun q => lastF_p q hkp
                        have hlp2 := hlp (by (first|omega|(dsimp only at *;omega)|(simp at *;omega)))
                        refine js_O0 rfl rfl (.inr ⟨_, _, rfl, rfl⟩) (xv_leq2 rfl rfl (fun hq => ?_) (fun hq => ?_))
                        · refine js_S rfl rfl (.inr ⟨_, _, rfl, rfl⟩) (xv_pick rfl rfl ⟨rfl, rfl⟩) ?_
                          refine js_S rfl rfl (.inl rfl) (xv_pick rfl rfl ⟨rfl, rfl⟩) ?_
                          refine j_end0 ?_
                          refine th_n ?_
                          refine xc_true rfl ?_
                          refine xc_seq (xc_region ?_)
                          have hbad : ¬ GoodSlot s := fun ⟨z1, z2, z3, z4, z0⟩ => by
                            have z5 := tarsOk_at z4 hko
                            have z6 := lastF_ge htk
                            unfold tarOk at z5
                            first | omega | (obtain rfl : k = 0 := (by (first|omega|(dsimp only at *;omega)|(simp at *;omega))); have z7 := frm0_at z3 hko; omega)
                          refine xr_op rfl rfl (xv_assign rfl ?_)
                          refine xr_end rfl ?_
                          refine th_n ?_
                          refine xc_ret ?_
                          refine bk_r ?_
                          refine th_r ?_
                          refine th_r ?_
                          refine bk_r ?_
                          refine th_r ?_
                          refine body_ret (h' := h) rfl (ro_tmp rfl ro_nil) (by (first|((repeat first|exact s_0|exact s_1|exact s_3|refine s_4 ?_|refine s_5 ?_|refine s_6 ?_|refine s_7 ?_);done)|((repeat first|exact s_0|exact s_1|exact s_3|refine s_4 ?_|refine s_5 ?_|refine s_6 ?_|refine s_8 ?_);done))) ?_
                          first | exact H2 hbad | exact H1 ⟨hnum, hsz, hfr, htk, hmk⟩
                        · refine js_S rfl rfl (.inr ⟨_, _, rfl, rfl⟩) (xv_pick rfl rfl ⟨rfl, rfl⟩) ?_
                          refine js_S rfl rfl (.inl rfl) (xv_pick rfl rfl ⟨rfl, rfl⟩) ?_
                          refine j_end0 ?_
                          refine th_n ?_
                          refine xc_false rfl ?_
                          refine xc_skip ?_
                          refine bk_n ?_
                          refine th_n ?_
                          refine xc_region ?_
                          refine xr_op rfl rfl (xv_move rfl ?_)
                          refine xr_op rfl rfl (xv_add rfl rfl (wrap_i64 (by (first|omega|(dsimp only at *;omega)|(simp at *;omega))) (by (first|omega|(dsimp only at *;omega)|(simp at *;omega)))) ?_)
                          refine xr_op rfl rfl (xv_assign rfl ?_)
                          refine xr_end rfl ?_
                          have hto : tarOk s.hold s.now (lastF (-1) (s.tars.take k)) xo := by unfold tarOk; (first|omega|(dsimp only at *;omega)|(simp at *;omega))
                          have hfr2 : frm0 s := by
                            rcases Nat.eq_zero_or_pos k with z | z
                            · subst z; exact frm0_of hko (by (first|omega|(dsimp only at *;omega)|(simp at *;omega)))
                            · exact hfr0 z
                          exact rnd (k + 1) ⟨by (first|omega|(dsimp only at *;omega)|(simp at *;omega)), tarsOk_more htk hko hto, fun _ => hfr2⟩ (by (first|omega|(dsimp only at *;omega)|(simp at *;omega))) (le_put (le_put (le_emp _) rfl) rfl) (by (first|((repeat first|exact s_0|exact s_1|exact s_3|refine s_4 ?_|refine s_5 ?_|refine s_6 ?_|refine s_7 ?_);done)|((repeat first|exact s_0|exact s_1|exact s_3|refine s_4 ?_|refine s_5 ?_|refine s_6 ?_|refine s_8 ?_);done)))
                      · refine js_S rfl rfl (.inr ⟨_, _, rfl, rfl⟩) (xv_move rfl ⟨rfl, rfl⟩) ?_
                        refine js_Ss rfl rfl ⟨_, _, _, rfl, rfl, rfl⟩ ?_
                        refine js_Rs rfl rfl ⟨_, _, _, rfl, rfl, rfl⟩ ?_
                        refine js_Ss rfl rfl ⟨_, _, _, rfl, rfl, rfl⟩ ?_
                        refine js_Rs rfl rfl ⟨_, _, _, rfl, rfl, rfl⟩ ?_
                        refine js_Ss rfl rfl ⟨_, _, _, rfl, rfl, rfl⟩ ?_
                        refine js_Ss rfl rfl ⟨_, _, _, rfl, rfl, rfl⟩ ?_
                        refine js_Ss rfl rfl ⟨_, _, _, rfl, rfl, rfl⟩ ?_
                        refine js_Ss rfl rfl ⟨_, _, _, rfl, rfl, rfl⟩ ?_
                        refine js_Rs rfl rfl ⟨_, _, _, rfl, rfl, rfl⟩ ?_
                        refine js_Os rfl rfl ⟨_, _, _, rfl, rfl, rfl⟩ ?_
                        refine js_S rfl rfl (.inr ⟨_, _, rfl, rfl⟩) (xv_pick rfl rfl ⟨rfl, rfl⟩) ?_
                        refine js_S rfl rfl (.inl rfl) (xv_pick rfl rfl ⟨rfl, rfl⟩) ?_
                        refine j_end0 ?_
                        refine th_n ?_
                        refine xc_false rfl ?_
                        refine xc_skip ?_
                        refine bk_n ?_
                        refine th_n ?_
                        refine xc_region ?_
                        refine xr_op rfl rfl (xv_move rfl ?_)
                        refine xr_op rfl rfl (xv_add rfl rfl (wrap_i64 (by (first|omega|(dsimp only at *;omega)|(simp at *;omega))) (by (first|omega|(dsimp only at *;omega)|(simp at *;omega)))) ?_)
                        refine xr_op rfl rfl (xv_assign rfl ?_)
                        refine xr_end rfl ?_
                        have hto : tarOk s.hold s.now (lastF (-1) (s.tars.take k)) xo := by unfold tarOk; (first|omega|(dsimp only at *;omega)|(simp at *;omega))
                        have hfr2 : frm0 s := by
                          rcases Nat.eq_zero_or_pos k with z | z
                          · subst z; exact frm0_of hko (by (first|omega|(dsimp only at *;omega)|(simp at *;omega)))
                          · exact hfr0 z
                        exact rnd (k + 1) ⟨by (first|omega|(dsimp only at *;omega)|(simp at *;omega)), tarsOk_more htk hko hto, fun _ => hfr2⟩ (by (first|omega|(dsimp only at *;omega)|(simp at *;omega))) (le_put (le_put (le_emp _) rfl) rfl) (by (first|((repeat first|exact s_0|exact s_1|exact s_3|refine s_4 ?_|refine s_5 ?_|refine s_6 ?_|refine s_7 ?_);done)|((repeat first|exact s_0|exact s_1|exact s_3|refine s_4 ?_|refine s_5 ?_|refine s_6 ?_|refine s_8 ?_);done)))
                  · refine js_S rfl rfl (.inr ⟨_, _, rfl, rfl⟩) (xv_not rfl ⟨rfl, rfl⟩) ?_
                    refine js_S rfl rfl (.inl rfl) (xv_pick rfl rfl ⟨rfl, rfl⟩) ?_
                    refine js_S rfl rfl (.inl rfl) (xv_move rfl ⟨rfl, rfl⟩) ?_
                    refine js_Ss rfl rfl ⟨_, _, _, rfl, rfl, rfl⟩ ?_
                    refine js_Os rfl rfl ⟨_, _, _, rfl, rfl, rfl⟩ ?_
                    refine js_Ss rfl rfl ⟨_, _, _, rfl, rfl, rfl⟩ ?_
                    refine js_Ss rfl rfl ⟨_, _, _, rfl, rfl, rfl⟩ ?_
                    refine js_Rs rfl rfl ⟨_, _, _, rfl, rfl, rfl⟩ ?_
                    refine js_Os rfl rfl ⟨_, _, _, rfl, rfl, rfl⟩ ?_
                    refine js_Ss rfl rfl ⟨_, _, _, rfl, rfl, rfl⟩ ?_
                    refine js_S rfl rfl (.inl rfl) (xv_pick rfl rfl ⟨rfl, rfl⟩) ?_
                    refine js_S rfl rfl (.inl rfl) (xv_move rfl ⟨rfl, rfl⟩) ?_
                    refine js_Ss rfl rfl ⟨_, _, _, rfl, rfl, rfl⟩ ?_
                    refine js_Os rfl rfl ⟨_, _, _, rfl, rfl, rfl⟩ ?_
                    refine js_Ss rfl rfl ⟨_, _, _, rfl, rfl, rfl⟩ ?_
                    refine js_Ss rfl rfl ⟨_, _, _, rfl, rfl, rfl⟩ ?_
                    refine js_Rs rfl rfl ⟨_, _, _, rfl, rfl, rfl⟩ ?_
                    refine js_Ss rfl rfl ⟨_, _, _, rfl, rfl, rfl⟩ ?_
                    refine js_Rs rfl rfl ⟨_, _, _, rfl, rfl, rfl⟩ ?_
                    refine js_Ss rfl rfl ⟨_, _, _, rfl, rfl, rfl⟩ ?_
                    refine js_Ss rfl rfl ⟨_, _, _, rfl, rfl, rfl⟩ ?_
                    refine js_Ss rfl rfl ⟨_, _, _, rfl, rfl, rfl⟩ ?_
                    refine js_Ss rfl rfl ⟨_, _, _, rfl, rfl, rfl⟩ ?_
                    refine js_Rs rfl rfl ⟨_, _, _, rfl, rfl, rfl⟩ ?_
                    refine js_Os rfl rfl ⟨_, _, _, rfl, rfl, rfl⟩ ?_
                    refine js_Ss rfl rfl ⟨_, _, _, rfl, rfl, rfl⟩ ?_
                    refine js_S rfl rfl (.inl rfl) (xv_pick rfl rfl ⟨rfl, rfl⟩) ?_
                    refine j_end0 ?_
                    refine th_n ?_
                    refine xc_true rfl ?_
                    refine xc_seq (xc_region ?_)
                    have hbad : ¬ GoodSlot s := fun ⟨z1, z2, z3, z4, z0⟩ => by
                      have z5 := tarsOk_at z4 hko
                      have z6 := lastF_ge htk
                      unfold tarOk at z5
                      first | omega | (obtain rfl : k = 0 := (by (first|omega|(dsimp only at *;omega)|(simp at *;omega))); have z7 := frm0_at z3 hko; omega)
                    refine xr_op rfl rfl (xv_assign rfl ?_)
                    refine xr_end rfl ?_
                    refine th_n ?_
                    refine xc_ret ?_
                    refine bk_r ?_
                    refine th_r ?_
                    refine th_r ?_
                    refine bk_r ?_
                    refine th_r ?_
                    refine body_ret (h' := h) rfl (ro_tmp rfl ro_nil) (by (first|((repeat first|exact s_0|exact s_1|exact s_3|refine s_4 ?_|refine s_5 ?_|refine s_6 ?_|refine s_7 ?_);done)|((repeat first|exact s_0|exact s_1|exact s_3|refine s_4 ?_|refine s_5 ?_|refine s_6 ?_|refine s_8 ?_);done))) ?_
                    first | exact H2 hbad | exact H1 ⟨hnum, hsz, hfr, htk, hmk⟩
                · refine js_S rfl rfl (.inl rfl) (xv_not rfl ⟨rfl, rfl⟩) ?_
                  refine js_S rfl rfl (.inl rfl) (xv_move rfl ⟨rfl, rfl⟩) ?_
                  refine js_Ss rfl rfl ⟨_, _, _, rfl, rfl, rfl⟩ ?_
                  refine js_Rs rfl rfl ⟨_, _, _, rfl, rfl, rfl⟩ ?_
                  refine js_Ss rfl rfl ⟨_, _, _, rfl, rfl, rfl⟩ ?_
                  refine js_Rs rfl rfl ⟨_, _, _, rfl, rfl, rfl⟩ ?_
                  refine js_Os rfl rfl ⟨_, _, _, rfl, rfl, rfl⟩ ?_
                  refine js_Ss rfl rfl ⟨_, _, _, rfl, rfl, rfl⟩ ?_
                  refine js_S rfl rfl (.inl rfl) (xv_pick rfl rfl ⟨rfl, rfl⟩) ?_
                  refine js_S rfl rfl (.inl rfl) (xv_move rfl ⟨rfl, rfl⟩) ?_
                  refine js_Ss rfl rfl ⟨_, _, _, rfl, rfl, rfl⟩ ?_
                  refine js_Os rfl rfl ⟨_, _, _, rfl, rfl, rfl⟩ ?_
                  refine js_Ss rfl rfl ⟨_, _, _, rfl, rfl, rfl⟩ ?_
                  refine js_Ss rfl rfl ⟨_, _, _, rfl, rfl, rfl⟩ ?_
                  refine js_Rs rfl rfl ⟨_, _, _, rfl, rfl, rfl⟩ ?_
                  refine js_Os rfl rfl ⟨_, _, _, rfl, rfl, rfl⟩ ?_
                  refine js_Ss rfl rfl ⟨_, _, _, rfl, rfl, rfl⟩ ?_
                  refine js_S rfl rfl (.inl rfl) (xv_pick rfl rfl ⟨rfl, rfl⟩) ?_
                  refine js_S rfl rfl (.inl rfl) (xv_move rfl ⟨rfl, rfl⟩) ?_
                  refine js_Ss rfl rfl ⟨_, _, _, rfl, rfl, rfl⟩ ?_
                  refine js_Os rfl rfl ⟨_, _, _, rfl, rfl, rfl⟩ ?_
                  refine js_Ss rfl rfl ⟨_, _, _, rfl, rfl, rfl⟩ ?_
                  refine js_Ss rfl rfl ⟨_, _, _, rfl, rfl, rfl⟩ ?_
                  refine js_Rs rfl rfl ⟨_, _, _, rfl, rfl, rfl⟩ ?_
                  refine js_Ss rfl rfl ⟨_, _, _, rfl, rfl, rfl⟩ ?_
                  refine js_Rs rfl rfl ⟨_, _, _, rfl, rfl, rfl⟩ ?_
                  refine js_Ss rfl rfl ⟨_, _, _, rfl, rfl, rfl⟩ ?_
                  refine js_Ss rfl rfl ⟨_, _, _, rfl, rfl, rfl⟩ ?_
                  refine js_Ss rfl rfl ⟨_, _, _, rfl, rfl, rfl⟩ ?_
                  refine js_Ss rfl rfl ⟨_, _, _, rfl, rfl, rfl⟩ ?_
                  refine js_Rs rfl rfl ⟨_, _, _, rfl, rfl, rfl⟩ ?_
                  refine js_Os rfl rfl ⟨_, _, _, rfl, rfl, rfl⟩ ?_
                  refine js_Ss rfl rfl ⟨_, _, _, rfl, rfl, rfl⟩ ?_
                  refine js_S rfl rfl (.inl rfl) (xv_pick rfl rfl ⟨rfl, rfl⟩) ?_
                  refine j_end0 ?_
                  refine th_n ?_
                  refine xc_true rfl ?_
                  refine xc_seq (xc_region ?_)
                  have hbad : ¬ GoodSlot s := fun ⟨z1, z2, z3, z4, z0⟩ => by
                    have z5 := tarsOk_at z4 hko
                    have z6 := lastF_ge htk
                    unfold tarOk at z5
                    first | omega | (obtain rfl : k = 0 := (by (first|omega|(dsimp only at *;omega)|(simp at *;omega))); have z7 := frm0_at z3 hko; omega)
                  refine xr_op rfl rfl (xv_assign rfl ?_)
                  refine xr_end rfl ?_
                  refine th_n ?_
                  refine xc_ret ?_
                  refine bk_r ?_
                  refine th_r ?_
                  refine th_r ?_
                  refine bk_r ?_
                  refine th_r ?_
                  refine body_ret (h' := h) rfl (ro_tmp rfl ro_nil) (by (first|((repeat first|exact s_0|exact s_1|exact s_3|refine s_4 ?_|refine s_5 ?_|refine s_6 ?_|refine s_7 ?_);done)|((repeat first|exact s_0|exact s_1|exact s_3|refine s_4 ?_|refine s_5 ?_|refine s_6 ?_|refine s_8 ?_);done))) ?_
                  first | exact H2 hbad | exact H1 ⟨hnum, hsz, hfr, htk, hmk⟩
              · refine xr_end rfl ?_
                refine th_n ?_
                refine xc_false rfl ?_
                refine xc_exit ?_
                refine th_x ?_
                refine th_x ?_
                refine bk_same ?_
                refine th_n ?_
                refine xc_seq ?_
                refine xc_seq (xc_region ?_)
                obtain rfl : s.tars.length = k := by (first|omega|(dsimp only at *;omega)|(simp at *;omega))
                rw [List.take_length] at htk
                have hfr := hfr0 (by have := hsz.1.1; omega)
                refine xr_op rfl rfl (xv_assign rfl ?_)
                refine xr_end rfl ?_
                refine th_n ?_
                refine xc_block ?_
                refine xc_loop (σ := Nat) (fun k => k ≤ s.marks.length ∧ ∀ x ∈ s.marks.take k, markOk s.now x) (fun k => ((emp.put (some 1) (.pointer (some ⟨b1, 0, none⟩))).put (some 5) (I k))) (fun k => ((b1, .cells ⟨eSlot s⟩ 25) :: h)) (fun k => s.marks.length - k) 0 ⟨Nat.zero_le _, fun x hx => by simp at hx⟩ (le_put (le_put (le_emp _) rfl) rfl) (by (first|((repeat first|exact s_0|exact s_1|exact s_3|refine s_4 ?_|refine s_5 ?_|refine s_6 ?_|refine s_7 ?_);done)|((repeat first|exact s_0|exact s_1|exact s_3|refine s_4 ?_|refine s_5 ?_|refine s_6 ?_|refine s_8 ?_);done))) ?_
                rintro k ⟨hk, hmk⟩
                refine xc_seq ?_
                refine xc_seq (xc_region ?_)
                refine xr_op rfl rfl (xv_move rfl ?_)
                refine xr_op rfl rfl (xv_faddr fl25_5 rfl ?_)
                refine xr_op rfl rfl (xv_load1 ty23 rfl rfl (by ((repeat first|exact z_0|assumption|refine z_1 ?_|(refine z_l ?_;(repeat first|exact z_0|assumption|refine z_1 ?_);done)|refine z_r ?_);done)) (by rfl) ?_)
                refine xr_op rfl rfl (xv_len sl23 rfl ?_)
                refine xr_op rfl rfl (xv_lss2 rfl rfl (fun q24 => ?_) (fun q24 => ?_))
                · refine xr_end rfl ?_
                  refine th_n ?_
                  refine xc_true rfl ?_
                  refine xc_skip ?_
                  refine th_n ?_
                  refine xc_seq ?_
                  refine xc_block ?_
                  refine xc_seq ?_
                  refine xc_draw0 [(0, .S), (1, .R), (2, .S), (3, .S), (4, .S), (5, .R), (6, .S), (7, .R), (8, .O), (9, .S), (10, .S), (11, .S), (12, .R), (13, .S), (14, .S), (15, .S), (16, .R), (17, .O), (18, .S), (19, .S)] mixed (by kernel_rfl) ?_
                  refine js_S rfl rfl (.inl rfl) (xv_faddr fl25_5 rfl ⟨rfl, rfl⟩) ?_
                  refine js_R0 rfl rfl (.inl rfl) (xv_load1 ty23 rfl rfl (by ((repeat first|exact z_0|assumption|refine z_1 ?_|(refine z_l ?_;(repeat first|exact z_0|assumption|refine z_1 ?_);done)|refine z_r ?_);done)) (by rfl) ⟨rfl, rfl⟩) ?_
                  refine js_S rfl rfl (.inl rfl) (xv_move rfl ⟨rfl, rfl⟩) ?_
                  have hlto : k < s.marks.length := by (first|omega|(dsimp only at *;omega)|(simp at *;omega))
                  obtain ⟨bo, oo, lo, to, fzo, hao, hmo, hxo⟩ := (hs.marks).at hlto
                  obtain ⟨xo, hko⟩ : ∃ qq_, s.marks[k]? = some qq_ := ⟨_, List.getElem?_eq_getElem hlto⟩
                  refine js_S rfl rfl (.inl rfl) (xv_ia (sz := 2) (j := k) sl23 ty42 rfl (by rw [hao]; rfl) rfl (by (first | assumption | with_reducible exact Int.toNat_natCast _ | with_reducible rfl | rfl)) (by (first|omega|(dsimp only at *;omega)|(simp at *;omega))) (by (first|omega|(dsimp only at *;omega)|(simp at *;omega))) ⟨rfl, rfl⟩) ?_
                  refine js_S rfl rfl (.inl rfl) (xv_faddr fl42_0 rfl ⟨rfl, rfl⟩) ?_
                  refine js_R0 rfl rfl (.inl rfl) (xv_load1 ty3 rfl rfl (by ((repeat first|exact z_0|assumption|refine z_1 ?_|(refine z_l ?_;(repeat first|exact z_0|assumption|refine z_1 ?_);done)|refine z_r ?_);done)) (take_get (hxo (k) xo hko) (j := 0) rfl) ⟨rfl, rfl⟩) ?_
                  refine js_S rfl rfl (.inl rfl) (xv_faddr fl25_3 rfl ⟨rfl, rfl⟩) ?_
                  refine js_R0 rfl rfl (.inl rfl) (xv_load1 ty3 rfl rfl (by ((repeat first|exact z_0|assumption|refine z_1 ?_|(refine z_l ?_;(repeat first|exact z_0|assumption|refine z_1 ?_);done)|refine z_r ?_);done)) (by rfl) ⟨rfl, rfl⟩) ?_
                  refine js_O0 rfl rfl (.inl rfl) (xv_calls rfl hb39 (in_c _ _ _ (fun hl25 hu26 => up_ret ?_) (fun hn27 => up_ret ?_)))
                  · refine js_S rfl rfl (.inl rfl) (xv_not rfl ⟨rfl, rfl⟩) ?_
                    refine js_S rfl rfl (.inl rfl) (xv_move rfl ⟨rfl, rfl⟩) ?_
                    refine js_S rfl rfl (.inr ⟨_, _, rfl, rfl⟩) (xv_faddr fl25_5 rfl ⟨rfl, rfl⟩) ?_
                    refine js_R0 rfl rfl (.inr ⟨_, _, rfl, rfl⟩) (xv_load1 ty23 rfl rfl (by ((repeat first|exact z_0|assumption|refine z_1 ?_|(refine z_l ?_;(repeat first|exact z_0|assumption|refine z_1 ?_);done)|refine z_r ?_);done)) (by rfl) ⟨rfl, rfl⟩) ?_
                    refine js_S rfl rfl (.inr ⟨_, _, rfl, rfl⟩) (xv_move rfl ⟨rfl, rfl⟩) ?_
                    refine js_S rfl rfl (.inr ⟨_, _, rfl, rfl⟩) (xv_ia (sz := 2) (j := k) sl23 ty42 rfl (by rw [hao]; rfl) rfl (by (first | assumption | with_reducible exact Int.toNat_natCast _ | with_reducible rfl | rfl)) (by (first|omega|(dsimp only at *;omega)|(simp at *;omega))) (by (first|omega|(dsimp only at *;omega)|(simp at *;omega))) ⟨rfl, rfl⟩) ?_
                    refine js_S rfl rfl (.inr ⟨_, _, rfl, rfl⟩) (xv_faddr fl42_1 rfl ⟨rfl, rfl⟩) ?_
                    refine js_R0 rfl rfl (.inr ⟨_, _, rfl, rfl⟩) (xv_load1 ty3 rfl rfl (by ((repeat first|exact z_0|assumption|refine z_1 ?_|(refine z_l ?_;(repeat first|exact z_0|assumption|refine z_1 ?_);done)|refine z_r ?_);done)) (take_get (hxo (k) xo hko) (j := 1) rfl) ⟨rfl, rfl⟩) ?_
                    refine js_O0 rfl rfl (.inr ⟨_, _, rfl, rfl⟩) (xv_calls rfl hb39 (in_c _ _ _ (fun hl28 hu29 => up_ret ?_) (fun hn30 => up_ret ?_)))
                    · refine js_S rfl rfl (.inr ⟨_, _, rfl, rfl⟩) (xv_not rfl ⟨rfl, rfl⟩) ?_
                      refine js_S rfl rfl (.inl rfl) (xv_pick rfl rfl ⟨rfl, rfl⟩) ?_
                      refine j_end0 ?_
                      refine th_n ?_
                      refine xc_false rfl ?_
                      refine xc_skip ?_
                      refine bk_n ?_
                      refine th_n ?_
                      refine xc_region ?_
                      refine xr_op rfl rfl (xv_move rfl ?_)
                      refine xr_op rfl rfl (xv_add rfl rfl (wrap_i64 (by (first|omega|(dsimp only at *;omega)|(simp at *;omega))) (by (first|omega|(dsimp only at *;omega)|(simp at *;omega)))) ?_)
                      refine xr_op rfl rfl (xv_assign rfl ?_)
                      refine xr_end rfl ?_
                      exact rnd (k + 1) ⟨by (first|omega|(dsimp only at *;omega)|(simp at *;omega)), fun x hx => by
                        rw [List.take_add_one, hko] at hx
                        rcases List.mem_append.1 hx with h9 | h9
                        · exact hmk x h9
                        · obtain rfl : x = xo := by simpa using h9
                          unfold markOk; (first|omega|(dsimp only at *;omega)|(simp at *;omega))⟩ (by (first|omega|(dsimp only at *;omega)|(simp at *;omega))) (le_put (le_put (le_emp _) rfl) rfl) (by (first|((repeat first|exact s_0|exact s_1|exact s_3|refine s_4 ?_|refine s_5 ?_|refine s_6 ?_|refine s_7 ?_);done)|((repeat first|exact s_0|exact s_1|exact s_3|refine s_4 ?_|refine s_5 ?_|refine s_6 ?_|refine s_8 ?_);done)))
                    · refine js_S rfl rfl (.inr ⟨_, _, rfl, rfl⟩) (xv_not rfl ⟨rfl, rfl⟩) ?_
                      refine js_S rfl rfl (.inl rfl) (xv_pick rfl rfl ⟨rfl, rfl⟩) ?_
                      refine j_end0 ?_
                      refine th_n ?_
                      refine xc_true rfl ?_
                      refine xc_seq (xc_region ?_)
                      have hbad : ¬ GoodSlot s := fun ⟨z1, z2, z3, z4, z0⟩ => by
                        have z5 := z0 xo (List.mem_of_getElem? hko)
                        unfold markOk at z5
                        omega
                      refine xr_op rfl rfl (xv_assign rfl ?_)
                      refine xr_end rfl ?_
                      refine th_n ?_
                      refine xc_ret ?_
                      refine bk_r ?_
                      refine th_r ?_
                      refine th_r ?_
                      refine bk_r ?_
                      refine th_r ?_
                      refine body_ret (h' := h) rfl (ro_tmp rfl ro_nil) (by (first|((repeat first|exact s_0|exact s_1|exact s_3|refine s_4 ?_|refine s_5 ?_|refine s_6 ?_|refine s_7 ?_);done)|((repeat first|exact s_0|exact s_1|exact s_3|refine s_4 ?_|refine s_5 ?_|refine s_6 ?_|refine s_8 ?_);done))) ?_
                      first | exact H2 hbad | exact H1 ⟨hnum, hsz, hfr, htk, hmk⟩
                  · refine js_S rfl rfl (.inl rfl) (xv_not rfl ⟨rfl, rfl⟩) ?_
                    refine js_S rfl rfl (.inl rfl) (xv_move rfl ⟨rfl, rfl⟩) ?_
                    refine js_Ss rfl rfl ⟨_, _, _, rfl, rfl, rfl⟩ ?_
                    refine js_Rs rfl rfl ⟨_, _, _, rfl, rfl, rfl⟩ ?_
                    refine js_Ss rfl rfl ⟨_, _, _, rfl, rfl, rfl⟩ ?_
                    refine js_Ss rfl rfl ⟨_, _, _, rfl, rfl, rfl⟩ ?_
                    refine js_Ss rfl rfl ⟨_, _, _, rfl, rfl, rfl⟩ ?_
                    refine js_Rs rfl rfl ⟨_, _, _, rfl, rfl, rfl⟩ ?_
                    refine js_Os rfl rfl ⟨_, _, _, rfl, rfl, rfl⟩ ?_
                    refine js_Ss rfl rfl ⟨_, _, _, rfl, rfl, rfl⟩ ?_
                    refine js_S rfl rfl (.inl rfl) (xv_pick rfl rfl ⟨rfl, rfl⟩) ?_
                    refine j_end0 ?_
                    refine th_n ?_
                    refine xc_true rfl ?_
                    refine xc_seq (xc_region ?_)
                    have hbad : ¬ GoodSlot s := fun ⟨z1, z2, z3, z4, z0⟩ => by
                      have z5 := z0 xo (List.mem_of_getElem? hko)
                      unfold markOk at z5
                      omega
                    refine xr_op rfl rfl (xv_assign rfl ?_)
                    refine xr_end rfl ?_
                    refine th_n ?_
                    refine xc_ret ?_
                    refine bk_r ?_
                    refine th_r ?_
                    refine th_r ?_
                    refine bk_r ?_
                    refine th_r ?_
                    refine body_ret (h' := h) rfl (ro_tmp rfl ro_nil) (by (first|((repeat first|exact s_0|exact s_1|exact s_3|refine s_4 ?_|refine s_5 ?_|refine s_6 ?_|refine s_7 ?_);done)|((repeat first|exact s_0|exact s_1|exact s_3|refine s_4 ?_|refine s_5 ?_|refine s_6 ?_|refine s_8 ?_);done))) ?_
                    first | exact H2 hbad | exact H1 ⟨hnum, hsz, hfr, htk, hmk⟩
                · refine xr_end rfl ?_
                  refine th_n ?_
                  refine xc_false rfl ?_
                  refine xc_exit ?_
                  refine th_x ?_
                  refine th_x ?_
                  refine bk_same ?_
                  refine th_n ?_
                  refine xc_seq (xc_region ?_)
                  obtain rfl : s.marks.length = k := by (first|omega|(dsimp only at *;omega)|(simp at *;omega))
                  rw [List.take_length] at hmk
                  refine xr_op rfl rfl (xv_assign rfl ?_)
                  refine xr_end rfl ?_
                  refine th_n ?_
                  refine xc_ret ?_
                  refine body_ret (h' := h) rfl (ro_tmp rfl ro_nil) (by (first|((repeat first|exact s_0|exact s_1|exact s_3|refine s_4 ?_|refine s_5 ?_|refine s_6 ?_|refine s_7 ?_);done)|((repeat first|exact s_0|exact s_1|exact s_3|refine s_4 ?_|refine s_5 ?_|refine s_6 ?_|refine s_8 ?_);done))) ?_
                  first | exact H2 hbad | exact H1 ⟨hnum, hsz, hfr, htk, hmk⟩
          · refine xr_gd rfl rfl rfl (xv_not rfl ?_)
            refine xr_op rfl rfl (xv_pick rfl rfl ?_)
            refine xr_op rfl rfl (xv_move rfl ?_)
            refine xr_no rfl rfl rfl rfl ?_
            refine xr_no rfl rfl rfl rfl ?_
            refine xr_no rfl rfl rfl rfl ?_
            refine xr_no rfl rfl rfl rfl ?_
            refine xr_op rfl rfl (xv_pick rfl rfl ?_)
            refine xr_end rfl ?_
            refine th_n ?_
            refine xc_true rfl ?_
            refine xc_seq (xc_region ?_)
            have hbad : ¬ GoodSlot s := fun ⟨⟨a1, a2, a3, a4⟩, ⟨a5, a6⟩, _⟩ => by (first|omega|(dsimp only at *;omega)|(simp at *;omega))
            refine xr_op rfl rfl (xv_assign rfl ?_)
            refine xr_end rfl ?_
            refine th_n ?_
            refine xc_ret ?_
            refine th_r ?_
            refine body_ret (h' := h) rfl (ro_tmp rfl ro_nil) (by (first|((repeat first|exact s_0|exact s_1|exact s_3|refine s_4 ?_|refine s_5 ?_|refine s_6 ?_|refine s_7 ?_);done)|((repeat first|exact s_0|exact s_1|exact s_3|refine s_4 ?_|refine s_5 ?_|refine s_6 ?_|refine s_8 ?_);done))) ?_
            first | exact H2 hbad | exact H1 ⟨hnum, hsz, hfr, htk, hmk⟩
        · refine xr_gd rfl rfl rfl (xv_not rfl ?_)
          refine xr_op rfl rfl (xv_pick rfl rfl ?_)
          refine xr_op rfl rfl (xv_move rfl ?_)
          refine xr_no rfl rfl rfl rfl ?_
          refine xr_no rfl rfl rfl rfl ?_
          refine xr_no rfl rfl rfl rfl ?_
          refine xr_no rfl rfl rfl rfl ?_
          refine xr_no rfl rfl rfl rfl ?_
          refine xr_op rfl rfl (xv_pick rfl rfl ?_)
          refine xr_op rfl rfl (xv_move rfl ?_)
          refine xr_no rfl rfl rfl rfl ?_
          refine xr_no rfl rfl rfl rfl ?_
          refine xr_no rfl rfl rfl rfl ?_
          refine xr_no rfl rfl rfl rfl ?_
          refine xr_op rfl rfl (xv_pick rfl rfl ?_)
          refine xr_end rfl ?_
          refine th_n ?_
          refine xc_true rfl ?_
          refine xc_seq (xc_region ?_)
          have hbad : ¬ GoodSlot s := fun ⟨⟨a1, a2, a3, a4⟩, ⟨a5, a6⟩, _⟩ => by (first|omega|(dsimp only at *;omega)|(simp at *;omega))
          refine xr_op rfl rfl (xv_assign rfl ?_)
          refine xr_end rfl ?_
          refine th_n ?_
          refine xc_ret ?_
          refine th_r ?_
          refine body_ret (h' := h) rfl (ro_tmp rfl ro_nil) (by (first|((repeat first|exact s_0|exact s_1|exact s_3|refine s_4 ?_|refine s_5 ?_|refine s_6 ?_|refine s_7 ?_);done)|((repeat first|exact s_0|exact s_1|exact s_3|refine s_4 ?_|refine s_5 ?_|refine s_6 ?_|refine s_8 ?_);done))) ?_
          first | exact H2 hbad | exact H1 ⟨hnum, hsz, hfr, htk, hmk⟩
      · refine xr_gd rfl rfl rfl (xv_not rfl ?_)
        refine xr_op rfl rfl (xv_pick rfl rfl ?_)
        refine xr_op rfl rfl (xv_move rfl ?_)
        refine xr_no rfl rfl rfl rfl ?_
        refine xr_no rfl rfl rfl rfl ?_
        refine xr_no rfl rfl rfl rfl ?_
        refine xr_no rfl rfl rfl rfl ?_
        refine xr_op rfl rfl (xv_pick rfl rfl ?_)
        refine xr_op rfl rfl (xv_move rfl ?_)
        refine xr_no rfl rfl rfl rfl ?_
        refine xr_no rfl rfl rfl rfl ?_
        refine xr_no rfl rfl rfl rfl ?_
        refine xr_no rfl rfl rfl rfl ?_
        refine xr_no rfl rfl rfl rfl ?_
        refine xr_op rfl rfl (xv_pick rfl rfl ?_)
        refine xr_op rfl rfl (xv_move rfl ?_)
        refine xr_no rfl rfl rfl rfl ?_
        refine xr_no rfl rfl rfl rfl ?_
        refine xr_no rfl rfl rfl rfl ?_
        refine xr_no rfl rfl rfl rfl ?_
        refine xr_op rfl rfl (xv_pick rfl rfl ?_)
        refine xr_end rfl ?_
        refine th_n ?_
        refine xc_true rfl ?_
        refine xc_seq (xc_region ?_)
        have hbad : ¬ GoodSlot s := fun ⟨⟨a1, a2, a3, a4⟩, ⟨a5, a6⟩, _⟩ => by (first|omega|(dsimp only at *;omega)|(simp at *;omega))
        refine xr_op rfl rfl (xv_assign rfl ?_)
        refine xr_end rfl ?_
        refine th_n ?_
        refine xc_ret ?_
        refine th_r ?_
        refine body_ret (h' := h) rfl (ro_tmp rfl ro_nil) (by (first|((repeat first|exact s_0|exact s_1|exact s_3|refine s_4 ?_|refine s_5 ?_|refine s_6 ?_|refine s_7 ?_);done)|((repeat first|exact s_0|exact s_1|exact s_3|refine s_4 ?_|refine s_5 ?_|refine s_6 ?_|refine s_8 ?_);done))) ?_
        first | exact H2 hbad | exact H1 ⟨hnum, hsz, hfr, htk, hmk⟩
    · refine xr_gd rfl rfl rfl (xv_not rfl ?_)
      refine xr_op rfl rfl (xv_pick rfl rfl ?_)
      refine xr_op rfl rfl (xv_move rfl ?_)
      refine xr_no rfl rfl rfl rfl ?_
      refine xr_no rfl rfl rfl rfl ?_
      refine xr_no rfl rfl rfl rfl ?_
      refine xr_no rfl rfl rfl rfl ?_
      refine xr_op rfl rfl (xv_pick rfl rfl ?_)
      refine xr_op rfl rfl (xv_move rfl ?_)
      refine xr_no rfl rfl rfl rfl ?_
      refine xr_no rfl rfl rfl rfl ?_
      refine xr_no rfl rfl rfl rfl ?_
      refine xr_no rfl rfl rfl rfl ?_
      refine xr_op rfl rfl (xv_pick rfl rfl ?_)
      refine xr_op rfl rfl (xv_move rfl ?_)
      refine xr_no rfl rfl rfl rfl ?_
      refine xr_no rfl rfl rfl rfl ?_
      refine xr_no rfl rfl rfl rfl ?_
      refine xr_no rfl rfl rfl rfl ?_
      refine xr_no rfl rfl rfl rfl ?_
      refine xr_op rfl rfl (xv_pick rfl rfl ?_)
      refine xr_op rfl rfl (xv_move rfl ?_)
      refine xr_no rfl rfl rfl rfl ?_
      refine xr_no rfl rfl rfl rfl ?_
      refine xr_no rfl rfl rfl rfl ?_
      refine xr_no rfl rfl rfl rfl ?_
      refine xr_op rfl rfl (xv_pick rfl rfl ?_)
      refine xr_end rfl ?_
      refine th_n ?_
      refine xc_true rfl ?_
      refine xc_seq (xc_region ?_)
      have hbad : ¬ GoodSlot s := fun ⟨⟨a1, a2, a3, a4⟩, ⟨a5, a6⟩, _⟩ => by (first|omega|(dsimp only at *;omega)|(simp at *;omega))
      refine xr_op rfl rfl (xv_assign rfl ?_)
      refine xr_end rfl ?_
      refine th_n ?_
      refine xc_ret ?_
      refine th_r ?_
      refine body_ret (h' := h) rfl (ro_tmp rfl ro_nil) (by (first|((repeat first|exact s_0|exact s_1|exact s_3|refine s_4 ?_|refine s_5 ?_|refine s_6 ?_|refine s_7 ?_);done)|((repeat first|exact s_0|exact s_1|exact s_3|refine s_4 ?_|refine s_5 ?_|refine s_6 ?_|refine s_8 ?_);done))) ?_
      first | exact H2 hbad | exact H1 ⟨hnum, hsz, hfr, htk, hmk⟩
  · refine xr_op rfl rfl (xv_not rfl ?_)
    refine xr_op rfl rfl (xv_move rfl ?_)
    refine xr_no rfl rfl rfl rfl ?_
    refine xr_no rfl rfl rfl rfl ?_
    refine xr_no rfl rfl rfl rfl ?_
    refine xr_no rfl rfl rfl rfl ?_
    refine xr_no rfl rfl rfl rfl ?_
    refine xr_no rfl rfl rfl rfl ?_
    refine xr_op rfl rfl (xv_pick rfl rfl ?_)
    refine xr_op rfl rfl (xv_move rfl ?_)
    refine xr_no rfl rfl rfl rfl ?_
    refine xr_no rfl rfl rfl rfl ?_
    refine xr_no rfl rfl rfl rfl ?_
    refine xr_no rfl rfl rfl rfl ?_
    refine xr_op rfl rfl (xv_pick rfl rfl ?_)
    refine xr_op rfl rfl (xv_move rfl ?_)
    refine xr_no rfl rfl rfl rfl ?_
    refine xr_no rfl rfl rfl rfl ?_
    refine xr_no rfl rfl rfl rfl ?_
    refine xr_no rfl rfl rfl rfl ?_
    refine xr_op rfl rfl (xv_pick rfl rfl ?_)
    refine xr_op rfl rfl (xv_move rfl ?_)
    refine xr_no rfl rfl rfl rfl ?_
    refine xr_no rfl rfl rfl rfl ?_
    refine xr_no rfl rfl rfl rfl ?_
    refine xr_no rfl rfl rfl rfl ?_
    refine xr_no rfl rfl rfl rfl ?_
    refine xr_op rfl rfl (xv_pick rfl rfl ?_)
    refine xr_op rfl rfl (xv_move rfl ?_)
    refine xr_no rfl rfl rfl rfl ?_
    refine xr_no rfl rfl rfl rfl ?_
    refine xr_no rfl rfl rfl rfl ?_
    refine xr_no rfl rfl rfl rfl ?_
    refine xr_op rfl rfl (xv_pick rfl rfl ?_)
    refine xr_end rfl ?_
    refine th_n ?_
    refine xc_true rfl ?_
    refine xc_seq (xc_region ?_)
    have hbad : ¬ GoodSlot s := fun ⟨⟨a1, a2, a3, a4⟩, ⟨a5, a6⟩, _⟩ => by (first|omega|(dsimp only at *;omega)|(simp at *;omega))
    refine xr_op rfl rfl (xv_assign rfl ?_)
    refine xr_end rfl ?_
    refine th_n ?_
    refine xc_ret ?_
    refine th_r ?_
    refine body_ret (h' := h) rfl (ro_tmp rfl ro_nil) (by (first|((repeat first|exact s_0|exact s_1|exact s_3|refine s_4 ?_|refine s_5 ?_|refine s_6 ?_|refine s_7 ?_);done)|((repeat first|exact s_0|exact s_1|exact s_3|refine s_4 ?_|refine s_5 ?_|refine s_6 ?_|refine s_8 ?_);done))) ?_
    first | exact H2 hbad | exact H1 ⟨hnum, hsz, hfr, htk, hmk⟩

end Go.Proofs.Ytlcdbjgfeoagbaa

/-
  Walks.
-/
namespace Go.Proofs.Ytlcdbjgfeoagbaa
open Go Go.H
set_option maxRecDepth 100000
set_option maxHeartbeats 8000000
set_option linter.all false
theorem errors_c {s : Slot} {h : Hp} {R : Ending → Hp → Prop} (hs : SlotV h s) (hsm : Small s) (H : R (.returned (I (errS s))) h) : ACalls Try.prog 38 ⟨[.agg ⟨eSlot s⟩]⟩ h R := by
  refine calls_of_xc (N := 60) Try.func38 rfl (by rfl) ?_
  obtain ⟨hsl, hsk⟩ := id hsm
  refine xc_seq (xc_region ?_)
  refine xr_op rfl rfl (xv_box rfl (fun b1 hb1 => ?_))
  refine xr_op rfl rfl (xv_assign rfl ?_)
  refine xr_end rfl ?_
  refine th_n ?_
  refine xc_seq ?_
  refine xc_seq (xc_region ?_)
  refine xr_op rfl rfl (xv_loadA ty25 rfl rfl (by ((repeat first|exact z_0|assumption|refine z_1 ?_|(refine z_l ?_;(repeat first|exact z_0|assumption|refine z_1 ?_);done)|refine z_r ?_);done)) (by ((try apply evl_some rfl);(repeat (first|exact (rfl : _ = [])|apply evl_cons rfl (by (first|exact v_1|exact v_2|exact v_3|exact v_4|exact v_5|exact v_6|exact v_7|exact v_8|exact v_9|exact rfl))|exact rfl)))) (by rfl) ?_)
  refine xr_op rfl rfl (xv_calls rfl hb17 (Slot_c (hs.sub (by intro z hz; ((repeat first|exact z_0|assumption|refine z_1 ?_|(refine z_l ?_;(repeat first|exact z_0|assumption|refine z_1 ?_);done)|refine z_r ?_);done))) hsm (fun hgs => up_ret ?_) (fun hgs => up_ret ?_)))
  · refine xr_op rfl rfl (xv_not rfl ?_)
    refine xr_end rfl ?_
    refine th_n ?_
    refine xc_false rfl ?_
    refine xc_skip ?_
    refine th_n ?_
    refine xc_seq (xc_region ?_)
    refine xr_op rfl rfl (xv_assign rfl ?_)
    refine xr_end rfl ?_
    refine th_n ?_
    refine xc_seq ?_
    refine xc_seq (xc_region ?_)
    refine xr_op rfl rfl (xv_assign rfl ?_)
    refine xr_end rfl ?_
    refine th_n ?_
    refine xc_block ?_
    refine xc_loop (σ := Nat) (fun k => k ≤ s.marks.length ∧ (s.marks.take k).any (fun a => s.marks.any (twP a)) = false) (fun k => (((emp.put (some 1) (.pointer (some ⟨b1, 0, none⟩))).put (some 3) (I (num7 ((s.marks.take k).any (fun a => s.marks.any (crP a)))))).put (some 4) (I k))) (fun k => ((b1, .cells ⟨eSlot s⟩ 25) :: h)) (fun k => s.marks.length - k) 0 ⟨Nat.zero_le _, rfl⟩ (le_put (le_put (le_put (le_emp _) rfl) rfl) rfl) (by (first|((repeat first|exact s_0|exact s_1|exact s_3|refine s_4 ?_|refine s_5 ?_|refine s_6 ?_|refine s_7 ?_);done)|((repeat first|exact s_0|exact s_1|exact s_3|refine s_4 ?_|refine s_5 ?_|refine s_6 ?_|refine s_8 ?_);done))) ?_
    rintro k ⟨hk, htw⟩
    refine xc_seq ?_
    refine xc_seq (xc_region ?_)
    refine xr_op rfl rfl (xv_move rfl ?_)
    refine xr_op rfl rfl (xv_faddr fl25_5 rfl ?_)
    refine xr_op rfl rfl (xv_load1 ty23 rfl rfl (by ((repeat first|exact z_0|assumption|refine z_1 ?_|(refine z_l ?_;(repeat first|exact z_0|assumption|refine z_1 ?_);done)|refine z_r ?_);done)) (by rfl) ?_)
    refine xr_op rfl rfl (xv_len sl23 rfl ?_)
    refine xr_op rfl rfl (xv_lss2 rfl rfl (fun q1 => ?_) (fun q1 => ?_))
    · refine xr_end rfl ?_
      refine th_n ?_
      refine xc_true rfl ?_
      refine xc_skip ?_
      refine th_n ?_
      refine xc_seq ?_
      refine xc_block ?_
      refine xc_seq (xc_region ?_)
      have hlto : k < s.marks.length := by (first|omega|(dsimp only at *;omega)|(simp at *;omega))
      obtain ⟨bo, oo, lo, to, fzo, hao, hmo, hxo⟩ := (hs.marks).at hlto
      obtain ⟨xo, hko⟩ : ∃ qq_, s.marks[k]? = some qq_ := ⟨_, List.getElem?_eq_getElem hlto⟩
      refine xr_op rfl rfl (xv_assign rfl ?_)
      refine xr_end rfl ?_
      refine th_n ?_
      refine xc_block ?_
      refine xc_loop (σ := Nat) (fun j => j ≤ s.marks.length ∧ (s.marks.take j).any (twP xo) = false) (fun j => ((((emp.put (some 1) (.pointer (some ⟨b1, 0, none⟩))).put (some 3) (I (num7 ((s.marks.take k).any (fun a => s.marks.any (crP a)) || (s.marks.take j).any (crP xo))))).put (some 4) (I k)).put (some 5) (I j))) (fun j => ((b1, .cells ⟨eSlot s⟩ 25) :: h)) (fun j => s.marks.length - j) 0 ⟨Nat.zero_le _, rfl⟩ (le_put (le_put (le_put (le_put (le_emp _) rfl) (by rw [List.take_zero, List.any_nil, Bool.or_false]; rfl)) rfl) rfl) (by (first|((repeat first|exact s_0|exact s_1|exact s_3|refine s_4 ?_|refine s_5 ?_|refine s_6 ?_|refine s_7 ?_);done)|((repeat first|exact s_0|exact s_1|exact s_3|refine s_4 ?_|refine s_5 ?_|refine s_6 ?_|refine s_8 ?_);done))) ?_
      rintro j ⟨hj, htj⟩
      refine xc_seq ?_
      refine xc_seq (xc_region ?_)
      refine xr_op rfl rfl (xv_move rfl ?_)
      refine xr_op rfl rfl (xv_faddr fl25_5 rfl ?_)
      refine xr_op rfl rfl (xv_load1 ty23 rfl rfl (by ((repeat first|exact z_0|assumption|refine z_1 ?_|(refine z_l ?_;(repeat first|exact z_0|assumption|refine z_1 ?_);done)|refine z_r ?_);done)) (by rfl) ?_)
      refine xr_op rfl rfl (xv_len sl23 rfl ?_)
      refine xr_op rfl rfl (xv_lss2 rfl rfl (fun q2 => ?_) (fun q2 => ?_))
      · refine xr_end rfl ?_
        refine th_n ?_
        refine xc_true rfl ?_
        refine xc_skip ?_
        refine th_n ?_
        refine xc_seq ?_
        refine xc_block ?_
        refine xc_seq ?_
        have hltp : j < s.marks.length := by (first|omega|(dsimp only at *;omega)|(simp at *;omega))
        obtain ⟨bp, op, lp, tp, fzp, hap, hmp, hxp⟩ := (hs.marks).at hltp
        obtain ⟨xp, hkp⟩ : ∃ qq_, s.marks[j]? = some qq_ := ⟨_, List.getElem?_eq_getElem hltp⟩
        · refine xc_drawX0 [(6, [(b1, fun o => o = .cells ⟨eSlot s⟩ 25 (0, 0))]), (9, [(bp, fun o => o = .cells ⟨lp⟩ tp fzp)])] [(0, .S), (1, .R), (2, .S), (3, .S), (4, .R), (5, .S), (6, .S), (7, .S), (8, .S), (9, .S), (10, .P), (11, .P), (10, .A), (11, .A), (12, .O), (13, .O)] mixed (by kernel_rfl) (iv_cons (holds1 (by ((repeat first|exact z_0|assumption|refine z_1 ?_|(refine z_l ?_;(repeat first|exact z_0|assumption|refine z_1 ?_);done)|refine z_r ?_);done)) rfl) (iv_cons (holds1 (by ((repeat first|exact z_0|assumption|refine z_1 ?_|(refine z_l ?_;(repeat first|exact z_0|assumption|refine z_1 ?_);done)|refine z_r ?_);done)) rfl) iv_nil)) ?_
          refine jx_S rfl rfl (.inl rfl) (xv_faddr fl25_5 rfl ⟨rfl, rfl⟩) ?_
          refine jx_R rfl rfl (.inl rfl) (xv_load1 ty23 rfl rfl (by ((repeat first|exact z_0|assumption|refine z_1 ?_|(refine z_l ?_;(repeat first|exact z_0|assumption|refine z_1 ?_);done)|refine z_r ?_);done)) (by rfl) ⟨rfl, rfl⟩) ?_
          refine jx_S rfl rfl (.inl rfl) (xv_move rfl ⟨rfl, rfl⟩) ?_
          refine jx_S rfl rfl (.inl rfl) (xv_ia (sz := 2) (j := k) sl23 ty42 rfl (by rw [hao]; rfl) rfl (by (first | assumption | with_reducible exact Int.toNat_natCast _ | with_reducible rfl | rfl)) (by (first|omega|(dsimp only at *;omega)|(simp at *;omega))) (by (first|omega|(dsimp only at *;omega)|(simp at *;omega))) ⟨rfl, rfl⟩) ?_
          refine jx_R rfl rfl (.inl rfl) (xv_loadA ty42 rfl rfl (by ((repeat first|exact z_0|assumption|refine z_1 ?_|(refine z_l ?_;(repeat first|exact z_0|assumption|refine z_1 ?_);done)|refine z_r ?_);done)) (hxo (k) xo hko) rfl ⟨rfl, rfl⟩) ?_
          refine jx_S rfl rfl (.inl rfl) (xv_faddr fl25_5 rfl ⟨rfl, rfl⟩) ?_
          refine jx_I rfl rfl (.inl rfl) (fun hh hv => by have hv2 : Holds [(b1, fun o => o = .cells ⟨eSlot s⟩ 25 (0, 0))] hh := hv; obtain ⟨o9, hm9, e9⟩ := hv2 _ _ List.mem_cons_self; subst e9; exact xv_load1 ty23 rfl rfl hm9 rfl ⟨rfl, rfl⟩) ?_
          refine jx_S rfl rfl (.inl rfl) (xv_move rfl ⟨rfl, rfl⟩) ?_
          refine jx_S rfl rfl (.inl rfl) (xv_ia (sz := 2) (j := j) sl23 ty42 rfl (by rw [hap]; rfl) rfl (by (first | assumption | with_reducible exact Int.toNat_natCast _ | with_reducible rfl | rfl)) (by (first|omega|(dsimp only at *;omega)|(simp at *;omega))) (by (first|omega|(dsimp only at *;omega)|(simp at *;omega))) ⟨rfl, rfl⟩) ?_
          refine jx_I rfl rfl (.inl rfl) (fun hh hv => by have hv2 : Holds [(bp, fun o => o = .cells ⟨lp⟩ tp fzp)] hh := hv; obtain ⟨o9, hm9, e9⟩ := hv2 _ _ List.mem_cons_self; subst e9; exact xv_loadA ty42 rfl rfl hm9 (hxp j xp hkp) rfl ⟨rfl, rfl⟩) ?_
          refine jx_P rfl rfl rfl (al_alloc ty42) ?_
          refine jx_P rfl rfl rfl (al_alloc ty42) ?_
          refine jx_A rfl rfl rfl rfl rfl trivial (fun b6 hb6 => ?_)
          refine jx_A rfl rfl rfl rfl rfl trivial (fun b7 hb7 => ?_)
          refine jx_O rfl rfl (.inl rfl) (xv_s ty42 rfl rfl (by (first|(apply u_3;(repeat first|exact u_0|assumption|apply u_1|apply u_2);done)|((repeat first|exact u_0|assumption|apply u_1|apply u_2);done)|(apply u_3;apply u_3;(repeat first|exact u_0|assumption|apply u_1|apply u_2);done)|((repeat first|exact u_0|assumption|apply u_3|apply u_1);done))) (by ((try apply evl_some rfl);(repeat (first|exact (rfl : _ = [])|apply evl_cons rfl (by (first|exact v_1|exact v_2|exact v_3|exact v_4|exact v_5|exact v_6|exact v_7|exact v_8|exact v_9|exact rfl))|exact rfl)))) (by rfl) (by rfl) (by rfl) (by ((try apply evl_some rfl);(repeat (first|exact (rfl : _ = [])|apply evl_cons rfl (by (first|exact v_1|exact v_2|exact v_3|exact v_4|exact v_5|exact v_6|exact v_7|exact v_8|exact v_9|exact rfl))|exact rfl)))) ?_)
          refine ⟨(kp_in (holds1 (by ((repeat first|exact z_0|assumption|refine z_1 ?_|(refine z_l ?_;(repeat first|exact z_0|assumption|refine z_1 ?_);done)|refine z_r ?_);done)) rfl) (kp_in (holds1 (by ((repeat first|exact z_0|assumption|refine z_1 ?_|(refine z_l ?_;(repeat first|exact z_0|assumption|refine z_1 ?_);done)|refine z_r ?_);done)) rfl) kp_nil)), ?_⟩
          refine jx_O rfl rfl (.inl rfl) (xv_s ty42 rfl rfl (by (first|(apply u_3;(repeat first|exact u_0|assumption|apply u_1|apply u_2);done)|((repeat first|exact u_0|assumption|apply u_1|apply u_2);done)|(apply u_3;apply u_3;(repeat first|exact u_0|assumption|apply u_1|apply u_2);done)|((repeat first|exact u_0|assumption|apply u_3|apply u_1);done))) (by ((try apply evl_some rfl);(repeat (first|exact (rfl : _ = [])|apply evl_cons rfl (by (first|exact v_1|exact v_2|exact v_3|exact v_4|exact v_5|exact v_6|exact v_7|exact v_8|exact v_9|exact rfl))|exact rfl)))) (by rfl) (by rfl) (by rfl) (by ((try apply evl_some rfl);(repeat (first|exact (rfl : _ = [])|apply evl_cons rfl (by (first|exact v_1|exact v_2|exact v_3|exact v_4|exact v_5|exact v_6|exact v_7|exact v_8|exact v_9|exact rfl))|exact rfl)))) ?_)
          refine ⟨(kp_go (by kernel_rfl) (kp_go (by kernel_rfl) kp_nil)), ?_⟩
          refine jx_end ?_
          refine th_n ?_
          refine xc_seq ?_
          refine xc_seq (xc_region ?_)
          refine xr_op rfl rfl (xv_faddr fl42_0 rfl ?_)
          refine xr_op rfl rfl (xv_load1 ty3 rfl rfl (by ((repeat first|exact z_0|assumption|refine z_1 ?_|(refine z_l ?_;(repeat first|exact z_0|assumption|refine z_1 ?_);done)|refine z_r ?_);done)) (by rfl) ?_)
          refine xr_op rfl rfl (xv_faddr fl42_0 rfl ?_)
          refine xr_op rfl rfl (xv_load1 ty3 rfl rfl (by ((repeat first|exact z_0|assumption|refine z_1 ?_|(refine z_l ?_;(repeat first|exact z_0|assumption|refine z_1 ?_);done)|refine z_r ?_);done)) (by rfl) ?_)
          refine xr_op rfl rfl (xv_eql2 rfl rfl (fun q5 => ?_) (fun q5 => ?_))
          · refine xr_op rfl rfl (xv_move rfl ?_)
            refine xr_gd rfl rfl rfl (xv_faddr fl42_1 rfl ?_)
            refine xr_gd rfl rfl rfl (xv_load1 ty3 rfl rfl (by ((repeat first|exact z_0|assumption|refine z_1 ?_|(refine z_l ?_;(repeat first|exact z_0|assumption|refine z_1 ?_);done)|refine z_r ?_);done)) (by rfl) ?_)
            refine xr_gd rfl rfl rfl (xv_faddr fl42_1 rfl ?_)
            refine xr_gd rfl rfl rfl (xv_load1 ty3 rfl rfl (by ((repeat first|exact z_0|assumption|refine z_1 ?_|(refine z_l ?_;(repeat first|exact z_0|assumption|refine z_1 ?_);done)|refine z_r ?_);done)) (by rfl) ?_)
            refine xr_gd rfl rfl rfl (xv_neq2 rfl rfl (fun q6 => ?_) (fun q6 => ?_))
            · refine xr_op rfl rfl (xv_pick rfl rfl ?_)
              refine xr_end rfl ?_
              refine th_n ?_
              refine xc_true rfl ?_
              refine xc_seq (xc_region ?_)
              have h5 := errS_5 hgs (twice_at (List.mem_of_getElem? hko) (List.mem_of_getElem? hkp) (decide_eq_true (by (first|omega|(dsimp only at *;omega)|(simp at *;omega)))))
              refine xr_op rfl rfl (xv_assign rfl ?_)
              refine xr_end rfl ?_
              refine th_n ?_
              refine xc_ret ?_
              refine th_r ?_
              refine bk_r ?_
              refine th_r ?_
              refine th_r ?_
              refine bk_r ?_
              refine bk_r ?_
              refine th_r ?_
              refine th_r ?_
              refine bk_r ?_
              refine th_r ?_
              refine body_ret (h' := h) rfl (ro_tmp rfl ro_nil) (by (first|((repeat first|exact s_0|exact s_1|exact s_3|refine s_4 ?_|refine s_5 ?_|refine s_6 ?_|refine s_7 ?_);done)|((repeat first|exact s_0|exact s_1|exact s_3|refine s_4 ?_|refine s_5 ?_|refine s_6 ?_|refine s_8 ?_);done))) ?_
              first | (rw [errS_1 hgs] at H; exact H) | (rw [h5] at H; exact H)
            · refine xr_op rfl rfl (xv_pick rfl rfl ?_)
              refine xr_end rfl ?_
              refine th_n ?_
              refine xc_false rfl ?_
              refine xc_skip ?_
              refine th_n ?_
              refine xc_seq (xc_region ?_)
              refine xr_op rfl rfl (xv_faddr fl42_0 rfl ?_)
              refine xr_op rfl rfl (xv_load1 ty3 rfl rfl (by ((repeat first|exact z_0|assumption|refine z_1 ?_|(refine z_l ?_;(repeat first|exact z_0|assumption|refine z_1 ?_);done)|refine z_r ?_);done)) (by rfl) ?_)
              refine xr_op rfl rfl (xv_faddr fl42_0 rfl ?_)
              refine xr_op rfl rfl (xv_load1 ty3 rfl rfl (by ((repeat first|exact z_0|assumption|refine z_1 ?_|(refine z_l ?_;(repeat first|exact z_0|assumption|refine z_1 ?_);done)|refine z_r ?_);done)) (by rfl) ?_)
              refine xr_op rfl rfl (xv_lss2 rfl rfl (fun q7 => ?_) (fun q7 => ?_))
              · refine xr_op rfl rfl (xv_move rfl ?_)
                refine xr_gd rfl rfl rfl (xv_faddr fl42_1 rfl ?_)
                refine xr_gd rfl rfl rfl (xv_load1 ty3 rfl rfl (by ((repeat first|exact z_0|assumption|refine z_1 ?_|(refine z_l ?_;(repeat first|exact z_0|assumption|refine z_1 ?_);done)|refine z_r ?_);done)) (by rfl) ?_)
                refine xr_gd rfl rfl rfl (xv_faddr fl42_1 rfl ?_)
                refine xr_gd rfl rfl rfl (xv_load1 ty3 rfl rfl (by ((repeat first|exact z_0|assumption|refine z_1 ?_|(refine z_l ?_;(repeat first|exact z_0|assumption|refine z_1 ?_);done)|refine z_r ?_);done)) (by rfl) ?_)
                refine xr_gd rfl rfl rfl (xv_gtr2 rfl rfl (fun q8 => ?_) (fun q8 => ?_))
                · refine xr_op rfl rfl (xv_pick rfl rfl ?_)
                  refine xr_end rfl ?_
                  refine th_n ?_
                  refine xc_true rfl ?_
                  refine xc_region ?_
                  refine xr_op rfl rfl (xv_assign rfl ?_)
                  refine xr_end rfl ?_
                  refine bk_n ?_
                  refine th_n ?_
                  refine xc_region ?_
                  refine xr_op rfl rfl (xv_move rfl ?_)
                  refine xr_op rfl rfl (xv_add rfl rfl (wrap_i64 (by (first|omega|(dsimp only at *;omega)|(simp at *;omega))) (by (first|omega|(dsimp only at *;omega)|(simp at *;omega)))) ?_)
                  refine xr_op rfl rfl (xv_assign rfl ?_)
                  refine xr_end rfl ?_
                  have htn : twP xo xp = false := decide_eq_false (by (first|omega|(dsimp only at *;omega)|(simp at *;omega)))
                  have hcr : crP xo xp = true := decide_eq_true (by (first|omega|(dsimp only at *;omega)|(simp at *;omega)))
                  exact rnd (j + 1) ⟨by (first|omega|(dsimp only at *;omega)|(simp at *;omega)), by rw [any_more hkp, htj, htn]; rfl⟩ (by (first|omega|(dsimp only at *;omega)|(simp at *;omega))) (le_put (le_put (le_put (le_put (le_emp _) rfl) (by rw [any_more hkp, hcr, Bool.or_true, Bool.or_true]; rfl)) rfl) rfl) (by (first|((repeat first|exact s_0|exact s_1|exact s_3|refine s_4 ?_|refine s_5 ?_|refine s_6 ?_|refine s_7 ?_);done)|((repeat first|exact s_0|exact s_1|exact s_3|refine s_4 ?_|refine s_5 ?_|refine s_6 ?_|refine s_8 ?_);done)))
                · refine xr_op rfl rfl (xv_pick rfl rfl ?_)
                  refine xr_end rfl ?_
                  refine th_n ?_
                  refine xc_false rfl ?_
                  refine xc_skip ?_
                  refine bk_n ?_
                  refine th_n ?_
                  refine xc_region ?_
                  refine xr_op rfl rfl (xv_move rfl ?_)
                  refine xr_op rfl rfl (xv_add rfl rfl (wrap_i64 (by (first|omega|(dsimp only at *;omega)|(simp at *;omega))) (by (first|omega|(dsimp only at *;omega)|(simp at *;omega)))) ?_)
                  refine xr_op rfl rfl (xv_assign rfl ?_)
                  refine xr_end rfl ?_
                  have htn : twP xo xp = false := decide_eq_false (by (first|omega|(dsimp only at *;omega)|(simp at *;omega)))
                  have hcr : crP xo xp = false := decide_eq_false (by (first|omega|(dsimp only at *;omega)|(simp at *;omega)))
                  exact rnd (j + 1) ⟨by (first|omega|(dsimp only at *;omega)|(simp at *;omega)), by rw [any_more hkp, htj, htn]; rfl⟩ (by (first|omega|(dsimp only at *;omega)|(simp at *;omega))) (le_put (le_put (le_put (le_put (le_emp _) rfl) (by rw [any_more hkp, hcr, Bool.or_false]; rfl)) rfl) rfl) (by (first|((repeat first|exact s_0|exact s_1|exact s_3|refine s_4 ?_|refine s_5 ?_|refine s_6 ?_|refine s_7 ?_);done)|((repeat first|exact s_0|exact s_1|exact s_3|refine s_4 ?_|refine s_5 ?_|refine s_6 ?_|refine s_8 ?_);done)))
              · refine xr_op rfl rfl (xv_move rfl ?_)
                refine xr_no rfl rfl rfl rfl ?_
                refine xr_no rfl rfl rfl rfl ?_
                refine xr_no rfl rfl rfl rfl ?_
                refine xr_no rfl rfl rfl rfl ?_
                refine xr_no rfl rfl rfl rfl ?_
                refine xr_op rfl rfl (xv_pick rfl rfl ?_)
                refine xr_end rfl ?_
                refine th_n ?_
                refine xc_false rfl ?_
                refine xc_skip ?_
                refine bk_n ?_
                refine th_n ?_
                refine xc_region ?_
                refine xr_op rfl rfl (xv_move rfl ?_)
                refine xr_op rfl rfl (xv_add rfl rfl (wrap_i64 (by (first|omega|(dsimp only at *;omega)|(simp at *;omega))) (by (first|omega|(dsimp only at *;omega)|(simp at *;omega)))) ?_)
                refine xr_op rfl rfl (xv_assign rfl ?_)
                refine xr_end rfl ?_
                have htn : twP xo xp = false := decide_eq_false (by (first|omega|(dsimp only at *;omega)|(simp at *;omega)))
                have hcr : crP xo xp = false := decide_eq_false (by (first|omega|(dsimp only at *;omega)|(simp at *;omega)))
                exact rnd (j + 1) ⟨by (first|omega|(dsimp only at *;omega)|(simp at *;omega)), by rw [any_more hkp, htj, htn]; rfl⟩ (by (first|omega|(dsimp only at *;omega)|(simp at *;omega))) (le_put (le_put (le_put (le_put (le_emp _) rfl) (by rw [any_more hkp, hcr, Bool.or_false]; rfl)) rfl) rfl) (by (first|((repeat first|exact s_0|exact s_1|exact s_3|refine s_4 ?_|refine s_5 ?_|refine s_6 ?_|refine s_7 ?_);done)|((repeat first|exact s_0|exact s_1|exact s_3|refine s_4 ?_|refine s_5 ?_|refine s_6 ?_|refine s_8 ?_);done)))
          · refine xr_op rfl rfl (xv_move rfl ?_)
            refine xr_no rfl rfl rfl rfl ?_
            refine xr_no rfl rfl rfl rfl ?_
            refine xr_no rfl rfl rfl rfl ?_
            refine xr_no rfl rfl rfl rfl ?_
            refine xr_no rfl rfl rfl rfl ?_
            refine xr_op rfl rfl (xv_pick rfl rfl ?_)
            refine xr_end rfl ?_
            refine th_n ?_
            refine xc_false rfl ?_
            refine xc_skip ?_
            refine th_n ?_
            refine xc_seq (xc_region ?_)
            refine xr_op rfl rfl (xv_faddr fl42_0 rfl ?_)
            refine xr_op rfl rfl (xv_load1 ty3 rfl rfl (by ((repeat first|exact z_0|assumption|refine z_1 ?_|(refine z_l ?_;(repeat first|exact z_0|assumption|refine z_1 ?_);done)|refine z_r ?_);done)) (by rfl) ?_)
            refine xr_op rfl rfl (xv_faddr fl42_0 rfl ?_)
            refine xr_op rfl rfl (xv_load1 ty3 rfl rfl (by ((repeat first|exact z_0|assumption|refine z_1 ?_|(refine z_l ?_;(repeat first|exact z_0|assumption|refine z_1 ?_);done)|refine z_r ?_);done)) (by rfl) ?_)
            refine xr_op rfl rfl (xv_lss2 rfl rfl (fun q9 => ?_) (fun q9 => ?_))
            · refine xr_op rfl rfl (xv_move rfl ?_)
              refine xr_gd rfl rfl rfl (xv_faddr fl42_1 rfl ?_)
              refine xr_gd rfl rfl rfl (xv_load1 ty3 rfl rfl (by ((repeat first|exact z_0|assumption|refine z_1 ?_|(refine z_l ?_;(repeat first|exact z_0|assumption|refine z_1 ?_);done)|refine z_r ?_);done)) (by rfl) ?_)
              refine xr_gd rfl rfl rfl (xv_faddr fl42_1 rfl ?_)
              refine xr_gd rfl rfl rfl (xv_load1 ty3 rfl rfl (by ((repeat first|exact z_0|assumption|refine z_1 ?_|(refine z_l ?_;(repeat first|exact z_0|assumption|refine z_1 ?_);done)|refine z_r ?_);done)) (by rfl) ?_)
              refine xr_gd rfl rfl rfl (xv_gtr2 rfl rfl (fun q10 => ?_) (fun q10 => ?_))
              · refine xr_op rfl rfl (xv_pick rfl rfl ?_)
                refine xr_end rfl ?_
                refine th_n ?_
                refine xc_true rfl ?_
                refine xc_region ?_
                refine xr_op rfl rfl (xv_assign rfl ?_)
                refine xr_end rfl ?_
                refine bk_n ?_
                refine th_n ?_
                refine xc_region ?_
                refine xr_op rfl rfl (xv_move rfl ?_)
                refine xr_op rfl rfl (xv_add rfl rfl (wrap_i64 (by (first|omega|(dsimp only at *;omega)|(simp at *;omega))) (by (first|omega|(dsimp only at *;omega)|(simp at *;omega)))) ?_)
                refine xr_op rfl rfl (xv_assign rfl ?_)
                refine xr_end rfl ?_
                have htn : twP xo xp = false := decide_eq_false (by (first|omega|(dsimp only at *;omega)|(simp at *;omega)))
                have hcr : crP xo xp = true := decide_eq_true (by (first|omega|(dsimp only at *;omega)|(simp at *;omega)))
                exact rnd (j + 1) ⟨by (first|omega|(dsimp only at *;omega)|(simp at *;omega)), by rw [any_more hkp, htj, htn]; rfl⟩ (by (first|omega|(dsimp only at *;omega)|(simp at *;omega))) (le_put (le_put (le_put (le_put (le_emp _) rfl) (by rw [any_more hkp, hcr, Bool.or_true, Bool.or_true]; rfl)) rfl) rfl) (by (first|((repeat first|exact s_0|exact s_1|exact s_3|refine s_4 ?_|refine s_5 ?_|refine s_6 ?_|refine s_7 ?_);done)|((repeat first|exact s_0|exact s_1|exact s_3|refine s_4 ?_|refine s_5 ?_|refine s_6 ?_|refine s_8 ?_);done)))
              · refine xr_op rfl rfl (xv_pick rfl rfl ?_)
                refine xr_end rfl ?_
                refine th_n ?_
                refine xc_false rfl ?_
                refine xc_skip ?_
                refine bk_n ?_
                refine th_n ?_
                refine xc_region ?_
                refine xr_op rfl rfl (xv_move rfl ?_)
                refine xr_op rfl rfl (xv_add rfl rfl (wrap_i64 (by (first|omega|(dsimp only at *;omega)|(simp at *;omega))) (by (first|omega|(dsimp only at *;omega)|(simp at *;omega)))) ?_)
                refine xr_op rfl rfl (xv_assign rfl ?_)
                refine xr_end rfl ?_
                have htn : twP xo xp = false := decide_eq_false (by (first|omega|(dsimp only at *;omega)|(simp at *;omega)))
                have hcr : crP xo xp = false := decide_eq_false (by (first|omega|(dsimp only at *;omega)|(simp at *;omega)))
                exact rnd (j + 1) ⟨by (first|omega|(dsimp only at *;omega)|(simp at *;omega)), by rw [any_more hkp, htj, htn]; rfl⟩ (by (first|omega|(dsimp only at *;omega)|(simp at *;omega))) (le_put (le_put (le_put (le_put (le_emp _) rfl) (by rw [any_more hkp, hcr, Bool.or_false]; rfl)) rfl) rfl) (by (first|((repeat first|exact s_0|exact s_1|exact s_3|refine s_4 ?_|refine s_5 ?_|refine s_6 ?_|refine s_7 ?_);done)|((repeat first|exact s_0|exact s_1|exact s_3|refine s_4 ?_|refine s_5 ?_|refine s_6 ?_|refine s_8 ?_);done)))
            · refine xr_op rfl rfl (xv_move rfl ?_)
              refine xr_no rfl rfl rfl rfl ?_
              refine xr_no rfl rfl rfl rfl ?_
              refine xr_no rfl rfl rfl rfl ?_
              refine xr_no rfl rfl rfl rfl ?_
              refine xr_no rfl rfl rfl rfl ?_
              refine xr_op rfl rfl (xv_pick rfl rfl ?_)
              refine xr_end rfl ?_
              refine th_n ?_
              refine xc_false rfl ?_
              refine xc_skip ?_
              refine bk_n ?_
              refine th_n ?_
              refine xc_region ?_
              refine xr_op rfl rfl (xv_move rfl ?_)
              refine xr_op rfl rfl (xv_add rfl rfl (wrap_i64 (by (first|omega|(dsimp only at *;omega)|(simp at *;omega))) (by (first|omega|(dsimp only at *;omega)|(simp at *;omega)))) ?_)
              refine xr_op rfl rfl (xv_assign rfl ?_)
              refine xr_end rfl ?_
              have htn : twP xo xp = false := decide_eq_false (by (first|omega|(dsimp only at *;omega)|(simp at *;omega)))
              have hcr : crP xo xp = false := decide_eq_false (by (first|omega|(dsimp only at *;omega)|(simp at *;omega)))
              exact rnd (j + 1) ⟨by (first|omega|(dsimp only at *;omega)|(simp at *;omega)), by rw [any_more hkp, htj, htn]; rfl⟩ (by (first|omega|(dsimp only at *;omega)|(simp at *;omega))) (le_put (le_put (le_put (le_put (le_emp _) rfl) (by rw [any_more hkp, hcr, Bool.or_false]; rfl)) rfl) rfl) (by (first|((repeat first|exact s_0|exact s_1|exact s_3|refine s_4 ?_|refine s_5 ?_|refine s_6 ?_|refine s_7 ?_);done)|((repeat first|exact s_0|exact s_1|exact s_3|refine s_4 ?_|refine s_5 ?_|refine s_6 ?_|refine s_8 ?_);done)))
      · refine xr_end rfl ?_
        refine th_n ?_
        refine xc_false rfl ?_
        refine xc_exit ?_
        refine th_x ?_
        refine th_x ?_
        refine bk_same ?_
        refine bk_n ?_
        refine th_n ?_
        refine xc_region ?_
        obtain rfl : s.marks.length = j := by (first|omega|(dsimp only at *;omega)|(simp at *;omega))
        rw [List.take_length] at htj
        rw [List.take_length]
        refine xr_op rfl rfl (xv_move rfl ?_)
        refine xr_op rfl rfl (xv_add rfl rfl (wrap_i64 (by (first|omega|(dsimp only at *;omega)|(simp at *;omega))) (by (first|omega|(dsimp only at *;omega)|(simp at *;omega)))) ?_)
        refine xr_op rfl rfl (xv_assign rfl ?_)
        refine xr_end rfl ?_
        exact rnd (k + 1) ⟨by (first|omega|(dsimp only at *;omega)|(simp at *;omega)), by rw [any_more hko, htw, htj]; rfl⟩ (by (first|omega|(dsimp only at *;omega)|(simp at *;omega))) (le_put (le_put (le_put (le_emp _) rfl) (by rw [any_more hko]; rfl)) rfl) (by (first|((repeat first|exact s_0|exact s_1|exact s_3|refine s_4 ?_|refine s_5 ?_|refine s_6 ?_|refine s_7 ?_);done)|((repeat first|exact s_0|exact s_1|exact s_3|refine s_4 ?_|refine s_5 ?_|refine s_6 ?_|refine s_8 ?_);done)))
    · refine xr_end rfl ?_
      refine th_n ?_
      refine xc_false rfl ?_
      refine xc_exit ?_
      refine th_x ?_
      refine th_x ?_
      refine bk_same ?_
      refine th_n ?_
      refine xc_seq (xc_region ?_)
      obtain rfl : s.marks.length = k := by (first|omega|(dsimp only at *;omega)|(simp at *;omega))
      rw [List.take_length] at htw
      rw [List.take_length]
      have h5 := errS_n hgs htw
      refine xr_op rfl rfl (xv_move rfl ?_)
      refine xr_op rfl rfl (xv_assign rfl ?_)
      refine xr_end rfl ?_
      refine th_n ?_
      refine xc_ret ?_
      refine body_ret (h' := h) rfl (ro_tmp rfl ro_nil) (by (first|((repeat first|exact s_0|exact s_1|exact s_3|refine s_4 ?_|refine s_5 ?_|refine s_6 ?_|refine s_7 ?_);done)|((repeat first|exact s_0|exact s_1|exact s_3|refine s_4 ?_|refine s_5 ?_|refine s_6 ?_|refine s_8 ?_);done))) ?_
      first | (rw [errS_1 hgs] at H; exact H) | (rw [h5] at H; exact H)
  · refine xr_op rfl rfl (xv_not rfl ?_)
    refine xr_end rfl ?_
    refine th_n ?_
    refine xc_true rfl ?_
    refine xc_seq (xc_region ?_)
    refine xr_op rfl rfl (xv_assign rfl ?_)
    refine xr_end rfl ?_
    refine th_n ?_
    refine xc_ret ?_
    refine th_r ?_
    refine body_ret (h' := h) rfl (ro_tmp rfl ro_nil) (by (first|((repeat first|exact s_0|exact s_1|exact s_3|refine s_4 ?_|refine s_5 ?_|refine s_6 ?_|refine s_7 ?_);done)|((repeat first|exact s_0|exact s_1|exact s_3|refine s_4 ?_|refine s_5 ?_|refine s_6 ?_|refine s_8 ?_);done))) ?_
    first | (rw [errS_1 hgs] at H; exact H) | (rw [h5] at H; exact H)

end Go.Proofs.Ytlcdbjgfeoagbaa

/-
  Walks.
-/
namespace Go.Proofs.Ytlcdbjgfeoagbaa
open Go Go.H
set_option maxRecDepth 100000
set_option maxHeartbeats 8000000
set_option linter.all false
def AllOk (s : Slot) (d : Nat) : Prop := ∀ {h g : Hp} {left : Int} {b : List Int} {nb : Nat} {ba : Option Addr} {bc : Nat} {V : Vec} {hds : List Hd} {P : Hp} {R : Ending → Hp → Prop},
  SlotV h s → List.Perm (V.hp 26 (hds.flatMap eHd) ++ (P ++ h)) g → SlV h 1 eI ba b → nb = b.length → b.length + d + 1 = s.tars.length → (∀ x ∈ b, 0 ≤ x ∧ x ≤ 24) → (0 ≤ left ∧ left ≤ 24) → V.ok 1 hds.length (hds.flatMap eHd) → (∀ w ∈ hds, SlV P 1 eI w.a w.m) → hds.length + 25 ^ d ≤ 10000000000 →
  (∀ (hds2 : List Hd) (V2 : Vec) (P2 : Hp), hds2.map Hd.m = hds.map Hd.m ++ allS s d left b → V2.ok 1 hds2.length (hds2.flatMap eHd) → (∀ w ∈ hds2, SlV P2 1 eI w.a w.m) → R (.returned (V2.val hds2.length)) (V2.hp 26 (hds2.flatMap eHd) ++ (P2 ++ h))) →
  ACalls Try.prog 61 ⟨[.agg ⟨eSlot s⟩, I left, .slice ba nb bc, V.val hds.length]⟩ g R

theorem all_step {s : Slot} {d : Nat} (hsm : Small s) (hgs : GoodSlot s) (ih : ∀ e, e < d → AllOk s e) : AllOk s d := by
  intro h g left b nb ba bc V hds P R hs hperm hb hnb hbd hbr hlr hV hP hroom H
  subst hnb
  refine ACalls.perm hperm ?_
  refine calls_of_xc (N := 50) Try.func61 rfl (by rfl) ?_
  obtain ⟨hsl9, hsk⟩ := id hsm
  have hsz := hgs.2.1.1.2
  refine xc_seq (xc_region ?_)
  refine xr_op rfl rfl (xv_box rfl (fun b4 hb4 => ?_))
  refine xr_op rfl rfl (xv_assign rfl ?_)
  refine xr_end rfl ?_
  refine th_n ?_
  refine xc_seq ?_
  refine xc_seq (xc_region ?_)
  refine XR.perm perm_in ?_
  refine xr_op rfl rfl (xv_move rfl ?_)
  refine xr_op rfl rfl (xv_len sl26 rfl ?_)
  refine xr_op rfl rfl (xv_faddr fl25_4 rfl ?_)
  refine xr_op rfl rfl (xv_load1 ty22 rfl rfl (by ((repeat first|exact z_0|assumption|refine z_1 ?_|(refine z_l ?_;(repeat first|exact z_0|assumption|refine z_1 ?_);done)|refine z_r ?_);done)) (by rfl) ?_)
  refine xr_op rfl rfl (xv_len sl22 rfl ?_)
  refine xr_op rfl rfl (xv_sub rfl rfl (wrap_i64 (by (first|omega|(dsimp only at *;omega)|(simp at *;omega))) (by (first|omega|(dsimp only at *;omega)|(simp at *;omega)))) ?_)
  refine xr_op rfl rfl (xv_eql2 rfl rfl (fun q1 => ?_) (fun q1 => ?_))
  · refine xr_end rfl ?_
    refine th_n ?_
    refine xc_true rfl ?_
    refine xc_seq (xc_region ?_)
    obtain rfl : d = 0 := by (first|omega|(dsimp only at *;omega)|(simp at *;omega))
    refine xr_op rfl rfl ((al_buildSlice sl26 ty3 rfl rfl rfl rfl rfl (by ((try apply evl_some rfl);(repeat (first|exact (rfl : _ = [])|apply evl_cons rfl (by (first|exact v_1|exact v_2|exact v_3|exact v_4|exact v_5|exact v_6|exact v_7|exact v_8|exact v_9|exact rfl))|exact rfl))))).xv (fun b18 hb18 => ?_))
    refine xr_op rfl rfl (xv_move rfl ?_)
    refine xr_op rfl rfl (xv_dup (enc := eI) (ys := b) sl26 ty3 rfl rfl rfl rfl rfl (hb.sub (by intro z hz; ((repeat first|exact z_0|assumption|refine z_1 ?_|(refine z_l ?_;(repeat first|exact z_0|assumption|refine z_1 ?_);done)|refine z_r ?_);done))) eI_len eI_1 (by simp only []; omega) (by omega) (fun X1 hX1 => ?_))
    refine xr_op rfl rfl (xv_move rfl ?_)
    refine xr_op rfl rfl ((al_buildSlice sl26 ty3 rfl rfl rfl rfl rfl (by ((try apply evl_some rfl);(repeat (first|exact (rfl : _ = [])|apply evl_cons rfl (by (first|exact v_1|exact v_2|exact v_3|exact v_4|exact v_5|exact v_6|exact v_7|exact v_8|exact v_9|exact rfl))|exact rfl))))).xv (fun b22 hb22 => ?_))
    refine xr_op rfl rfl (xv_append (V := X1) (n := b.length) (xs := [] ++ b.flatMap eI) sl26 ty3 rfl (by rw [Vec.val_ad hX1]; rfl) rfl hX1 (.there .here) (by ((repeat first|exact z_0|assumption|refine z_1 ?_|(refine z_l ?_;(repeat first|exact z_0|assumption|refine z_1 ?_);done)|refine z_r ?_);done)) (by ((try apply evl_some rfl);(repeat (first|exact (rfl : _ = [])|apply evl_cons rfl (by (first|exact v_1|exact v_2|exact v_3|exact v_4|exact v_5|exact v_6|exact v_7|exact v_8|exact v_9|exact rfl))|exact rfl)))) rfl rfl (by omega) (by simp only []; omega) (by omega) (fun X2 hX2 => ?_))
    refine xr_op rfl rfl (xv_assign rfl ?_)
    refine xr_end rfl ?_
    refine th_n ?_
    refine xc_seq ?_
    refine xc_seq (xc_region ?_)
    have hfb : (b ++ [left]).flatMap eI = [] ++ b.flatMap eI ++ [I left] := by simp [eI]
    have hqb : ∀ x ∈ b ++ [left], 0 ≤ x ∧ x ≤ 24 := fun x hx => by
      rcases List.mem_append.1 hx with h9 | h9
      · exact hbr x h9
      · rw [List.mem_singleton.1 h9]; exact hlr
    have hvX := Vec.val_ad hX2
    rw [hvX]
    refine xr_op rfl rfl (xv_loadA ty25 rfl rfl (by ((repeat first|exact z_0|assumption|refine z_1 ?_|(refine z_l ?_;(repeat first|exact z_0|assumption|refine z_1 ?_);done)|refine z_r ?_);done)) (by ((try apply evl_some rfl);(repeat (first|exact (rfl : _ = [])|apply evl_cons rfl (by (first|exact v_1|exact v_2|exact v_3|exact v_4|exact v_5|exact v_6|exact v_7|exact v_8|exact v_9|exact rfl))|exact rfl)))) (by rfl) ?_)
    refine xr_op rfl rfl (xv_move rfl ?_)
    refine xr_op rfl rfl (xv_calls rfl hb82 (possible2_c (hs.sub (by intro z hz; ((repeat first|exact z_0|assumption|refine z_1 ?_|(refine z_l ?_;(repeat first|exact z_0|assumption|refine z_1 ?_);done)|refine z_r ?_);done))) hsm hgs (b ++ [left]) (by simp) ((Vec.slvA (t := 3) (n := b.length + 1) eI_len (by simp) (by rw [hfb]; exact hX2)).sub (by intro z hz; rw [hfb] at hz; ((repeat first|exact z_0|assumption|refine z_1 ?_|(refine z_l ?_;(repeat first|exact z_0|assumption|refine z_1 ?_);done)|refine z_r ?_);done))) hqb (by simp; (first|omega|(dsimp only at *;omega)|(simp at *;omega))) (up_ret ?_)))
    refine xr_end rfl ?_
    refine th_n ?_
    refine xc_bool rfl (fun q2 => ?_) (fun q2 => ?_)
    · refine xc_seq (xc_region ?_)
      have hps : possB s (b ++ [left]) = true := by assumption
      have hf4 : (hds ++ [(⟨X2.ad, b ++ [left], X2.cp⟩ : Hd)]).flatMap eHd = hds.flatMap eHd ++ [.slice X2.ad (b.length + 1) X2.cp] := by rw [hd_flat, List.length_append]; rfl
      refine xr_op rfl rfl (xv_move rfl ?_)
      refine xr_op rfl rfl (xv_move rfl ?_)
      refine xr_op rfl rfl ((al_buildSlice sl82 ty26 rfl rfl rfl rfl rfl (by ((try apply evl_some rfl);(repeat (first|exact (rfl : _ = [])|apply evl_cons rfl (by (first|exact v_1|exact v_2|exact v_3|exact v_4|exact v_5|exact v_6|exact v_7|exact v_8|exact v_9|exact rfl))|exact rfl))))).xv (fun b29 hb29 => ?_))
      refine xr_op rfl rfl (xv_append (V := V) (n := hds.length) (xs := hds.flatMap eHd) sl82 ty26 rfl rfl rfl hV (.there (.skip (.there .here))) (by ((repeat first|exact z_0|assumption|refine z_1 ?_|(refine z_l ?_;(repeat first|exact z_0|assumption|refine z_1 ?_);done)|refine z_r ?_);done)) (by ((try apply evl_some rfl);(repeat (first|exact (rfl : _ = [])|apply evl_cons rfl (by (first|exact v_1|exact v_2|exact v_3|exact v_4|exact v_5|exact v_6|exact v_7|exact v_8|exact v_9|exact rfl))|exact rfl)))) rfl rfl (by (first|omega|(dsimp only at *;omega)|(simp at *;omega))) (by simp only []; (first|omega|(dsimp only at *;omega)|(simp at *;omega))) (by (first|omega|(dsimp only at *;omega)|(simp at *;omega))) (fun V2 hV2 => ?_))
      refine xr_op rfl rfl (xv_assign rfl ?_)
      refine xr_end rfl ?_
      refine th_n ?_
      refine xc_ret ?_
      refine th_r ?_
      refine th_r ?_
      refine body_ret (h' := (V2.hp 26 ((hds ++ [(⟨X2.ad, b ++ [left], X2.cp⟩ : Hd)]).flatMap eHd) ++ (X2.hp 3 ((b ++ [left]).flatMap eI) ++ (P ++ h)))) rfl (ro_tmp rfl ro_nil) (by rw [hf4, hfb]; (first|((repeat first|exact s_0|exact s_1|exact s_3|refine s_4 ?_|refine s_5 ?_|refine s_6 ?_|refine s_7 ?_);done)|((repeat first|exact s_0|exact s_1|exact s_3|refine s_4 ?_|refine s_5 ?_|refine s_6 ?_|refine s_8 ?_);done))) ?_
      have hfin := H (hds ++ [(⟨X2.ad, b ++ [left], X2.cp⟩ : Hd)]) V2 (X2.hp 3 ((b ++ [left]).flatMap eI) ++ P) (by rw [List.map_append, allS_0 hps]; rfl) (by rw [hf4, List.length_append]; exact hV2) (fun w hw => by
        rcases List.mem_append.1 hw with hw | hw
        · exact (hP w hw).sub (fun z hz => List.mem_append_right _ hz)
        · rw [List.mem_singleton.1 hw]; exact (Vec.slvA (t := 3) (n := b.length + 1) eI_len (by simp) (by rw [hfb]; exact hX2)).sub (fun z hz => List.mem_append_left _ hz))
      rw [List.length_append, List.append_assoc] at hfin; exact hfin
    · refine xc_skip ?_
      refine th_n ?_
      refine xc_seq (xc_region ?_)
      have hps : possB s (b ++ [left]) = false := by assumption
      refine xr_op rfl rfl (xv_move rfl ?_)
      refine xr_op rfl rfl (xv_assign rfl ?_)
      refine xr_end rfl ?_
      refine th_n ?_
      refine xc_ret ?_
      refine th_r ?_
      refine body_ret (h' := (V.hp 26 (hds.flatMap eHd) ++ (P ++ h))) rfl (ro_tmp rfl ro_nil) (by (first|((repeat first|exact s_0|exact s_1|exact s_3|refine s_4 ?_|refine s_5 ?_|refine s_6 ?_|refine s_7 ?_);done)|((repeat first|exact s_0|exact s_1|exact s_3|refine s_4 ?_|refine s_5 ?_|refine s_6 ?_|refine s_8 ?_);done))) ?_
      exact H hds V P (by rw [allS_n hps, List.append_nil]) hV hP
  · refine xr_end rfl ?_
    refine th_n ?_
    refine xc_false rfl ?_
    refine xc_skip ?_
    refine th_n ?_
    refine xc_seq ?_
    refine xc_seq (xc_region ?_)
    obtain ⟨d, rfl⟩ : ∃ e, d = e + 1 := ⟨d - 1, by (first|omega|(dsimp only at *;omega)|(simp at *;omega))⟩
    refine xr_op rfl rfl (xv_assign rfl ?_)
    refine xr_end rfl ?_
    refine th_n ?_
    refine xc_block ?_
    refine xc_loop (σ := Nat × List Hd × Vec × Hp) (fun z => z.1 ≤ left.toNat + 1 ∧ z.2.1.map Hd.m = hds.map Hd.m ++ allN s d left b z.1 ∧ z.2.2.1.ok 1 z.2.1.length (z.2.1.flatMap eHd) ∧ ∀ w ∈ z.2.1, SlV z.2.2.2 1 eI w.a w.m) (fun z => ((((((emp.put (some 1) (I left)).put (some 2) (.slice ba b.length bc)).put (some 3) (z.2.2.1.val z.2.1.length)).put (some 4) (.pointer (some ⟨b4, 0, none⟩))).put (some 8) (.slice none 0 0)).put (some 10) (I z.1))) (fun z => (z.2.2.1.hp 26 (z.2.1.flatMap eHd) ++ (z.2.2.2 ++ (b4, .cells ⟨eSlot s⟩ 25) :: h))) (fun z => left.toNat + 1 - z.1) ((0, hds, V, P) : Nat × List Hd × Vec × Hp) ⟨Nat.zero_le _, by rw [allN_0, List.append_nil], hV, hP⟩ (le_put (le_put (le_put (le_put (le_put (le_put (le_emp _) rfl) rfl) rfl) rfl) rfl) rfl) (by (first|((repeat first|exact s_0|exact s_1|exact s_3|refine s_4 ?_|refine s_5 ?_|refine s_6 ?_|refine s_7 ?_);done)|((repeat first|exact s_0|exact s_1|exact s_3|refine s_4 ?_|refine s_5 ?_|refine s_6 ?_|refine s_8 ?_);done))) ?_
    rintro ⟨k, es, W, Q⟩ ⟨hk, hes, hW, hQ⟩
    dsimp only at hk hes hW hQ
    refine xc_seq ?_
    refine xc_seq (xc_region ?_)
    refine xr_op rfl rfl (xv_move rfl ?_)
    refine xr_op rfl rfl (xv_move rfl ?_)
    refine xr_op rfl rfl (xv_leq2 rfl rfl (fun q3 => ?_) (fun q3 => ?_))
    · refine xr_end rfl ?_
      refine th_n ?_
      refine xc_true rfl ?_
      refine xc_skip ?_
      refine th_n ?_
      refine xc_seq ?_
      refine xc_block ?_
      refine xc_drawX0 [(0, [(b4, fun o => o = .cells ⟨eSlot s⟩ 25 (0, 0))])] [(0, .S), (1, .S), (2, .S), (3, .S), (4, .P), (5, .S), (7, .S), (8, .P), (10, .S), (4, .A), (6, .O), (8, .A), (9, .O), (11, .O), (12, .S)] mixed (by kernel_rfl) (iv_cons (holds1 (by ((repeat first|exact z_0|assumption|refine z_1 ?_|(refine z_l ?_;(repeat first|exact z_0|assumption|refine z_1 ?_);done)|refine z_r ?_);done)) rfl) iv_nil) ?_
      have hfb : (b ++ [(k : Int)]).flatMap eI = [] ++ b.flatMap eI ++ [I (k : Int)] := by simp [eI]
      have hqb : ∀ x ∈ b ++ [(k : Int)], 0 ≤ x ∧ x ≤ 24 := fun x hx => by
        rcases List.mem_append.1 hx with h9 | h9
        · exact hbr x h9
        · rw [List.mem_singleton.1 h9]; (first|omega|(dsimp only at *;omega)|(simp at *;omega))
      have hrm : es.length + 25 ^ d ≤ 10000000000 := by
        have h8 := congrArg List.length hes
        rw [List.length_map, List.length_append, List.length_map] at h8
        rw [h8]; exact allN_room hlr.2 (by (first|omega|(dsimp only at *;omega)|(simp at *;omega))) hroom
      refine jx_I rfl rfl (.inl rfl) (fun hh hv => by have hv2 : Holds [(b4, fun o => o = .cells ⟨eSlot s⟩ 25 (0, 0))] hh := hv; obtain ⟨o9, hm9, e9⟩ := hv2 _ _ List.mem_cons_self; subst e9; exact xv_loadA ty25 rfl rfl hm9 rfl rfl ⟨rfl, rfl⟩) ?_
      refine jx_S rfl rfl (.inl rfl) (xv_move rfl ⟨rfl, rfl⟩) ?_
      refine jx_S rfl rfl (.inl rfl) (xv_move rfl ⟨rfl, rfl⟩) ?_
      refine jx_S rfl rfl (.inl rfl) (xv_sub rfl rfl (wrap_i64 (by (first|omega|(dsimp only at *;omega)|(simp at *;omega))) (by (first|omega|(dsimp only at *;omega)|(simp at *;omega)))) ⟨rfl, rfl⟩) ?_
      refine jx_P rfl rfl rfl (al_buildSlice sl26 ty3 rfl rfl rfl rfl rfl (by ((try apply evl_some rfl);(repeat (first|exact (rfl : _ = [])|apply evl_cons rfl (by (first|exact v_1|exact v_2|exact v_3|exact v_4|exact v_5|exact v_6|exact v_7|exact v_8|exact v_9|exact rfl))|exact rfl))))) ?_
      refine jx_S rfl rfl (.inl rfl) (xv_move rfl ⟨rfl, rfl⟩) ?_
      refine jx_S rfl rfl (.inl rfl) (xv_move rfl ⟨rfl, rfl⟩) ?_
      refine jx_P rfl rfl rfl (al_buildSlice sl26 ty3 rfl rfl rfl rfl rfl (by ((try apply evl_some rfl);(repeat (first|exact (rfl : _ = [])|apply evl_cons rfl (by (first|exact v_1|exact v_2|exact v_3|exact v_4|exact v_5|exact v_6|exact v_7|exact v_8|exact v_9|exact rfl))|exact rfl))))) ?_
      refine jx_S rfl rfl (.inl rfl) (xv_move rfl ⟨rfl, rfl⟩) ?_
      refine jx_A rfl rfl rfl rfl rfl trivial (fun b41 hb41 => ?_)
      refine jx_O rfl rfl (.inl rfl) (xv_dup (enc := eI) (ys := b) sl26 ty3 rfl rfl rfl rfl rfl (hb.sub (by intro z hz; ((repeat first|exact z_0|assumption|refine z_1 ?_|(refine z_l ?_;(repeat first|exact z_0|assumption|refine z_1 ?_);done)|refine z_r ?_);done))) eI_len eI_1 (by simp only []; omega) (by omega) (fun X1 hX1 => ?_))
      refine ⟨(kp_in (holds1 (by ((repeat first|exact z_0|assumption|refine z_1 ?_|(refine z_l ?_;(repeat first|exact z_0|assumption|refine z_1 ?_);done)|refine z_r ?_);done)) rfl) kp_nil), ?_⟩
      refine jx_A rfl rfl rfl rfl rfl ⟨rfl, trivial⟩ (fun b45 hb45 => ?_)
      refine jx_O rfl rfl (.inl rfl) (xv_append (V := X1) (n := b.length) (xs := [] ++ b.flatMap eI) sl26 ty3 rfl (by rw [Vec.val_ad hX1]; rfl) rfl hX1 (.there .here) (by ((repeat first|exact z_0|assumption|refine z_1 ?_|(refine z_l ?_;(repeat first|exact z_0|assumption|refine z_1 ?_);done)|refine z_r ?_);done)) (by ((try apply evl_some rfl);(repeat (first|exact (rfl : _ = [])|apply evl_cons rfl (by (first|exact v_1|exact v_2|exact v_3|exact v_4|exact v_5|exact v_6|exact v_7|exact v_8|exact v_9|exact rfl))|exact rfl)))) rfl rfl (by omega) (by simp only []; omega) (by omega) (fun X2 hX2 => ?_))
      refine ⟨(kp_in (holds1 (by ((repeat first|exact z_0|assumption|refine z_1 ?_|(refine z_l ?_;(repeat first|exact z_0|assumption|refine z_1 ?_);done)|refine z_r ?_);done)) rfl) kp_nil), ?_⟩
      rw [Vec.val_ad hX2]
      refine jx_O rfl rfl (.inl rfl) (xv_calls rfl hb61 (ih d (by omega) (h := (X2.hp 3 (([] ++ b.flatMap eI) ++ [I (k : Int)]) ++ (b45, .cells ⟨[I (k : Int)]⟩ 3 (0, 0)) :: (b4, .cells ⟨eSlot s⟩ 25 (0, 0)) :: h)) (b := b ++ [(k : Int)]) (V := W) (hds := es) (P := Q) (hs.sub (by intro z hz; ((repeat first|exact z_0|assumption|refine z_1 ?_|(refine z_l ?_;(repeat first|exact z_0|assumption|refine z_1 ?_);done)|refine z_r ?_);done))) perm_all ((Vec.slvA (t := 3) (n := b.length + 1) eI_len (by simp) (by rw [hfb]; exact hX2)).sub (by intro z hz; rw [hfb] at hz; ((repeat first|exact z_0|assumption|refine z_1 ?_|(refine z_l ?_;(repeat first|exact z_0|assumption|refine z_1 ?_);done)|refine z_r ?_);done))) (by simp) (by simp; omega) hqb (by omega) hW hQ hrm (fun fs X Y hfs hX hY => up_ret ?_)))
      refine ⟨(kp_go (by kernel_rfl) kp_nil), ?_⟩
      refine jx_S rfl rfl (.inl rfl) (xv_assign rfl ⟨rfl, rfl⟩) ?_
      refine jx_end ?_
      refine bk_n ?_
      refine th_n ?_
      refine xc_region ?_
      refine xr_op rfl rfl (xv_move rfl ?_)
      refine xr_op rfl rfl (xv_add rfl rfl (wrap_i64 (by (first|omega|(dsimp only at *;omega)|(simp at *;omega))) (by (first|omega|(dsimp only at *;omega)|(simp at *;omega)))) ?_)
      refine xr_op rfl rfl (xv_assign rfl ?_)
      refine xr_end rfl ?_
      exact rnd ((k + 1, fs, X, Y) : Nat × List Hd × Vec × Hp) ⟨by (first|omega|(dsimp only at *;omega)|(simp at *;omega)), by dsimp only; rw [hfs, hes, allN_more, List.append_assoc], hX, hY⟩ (by (first|omega|(dsimp only at *;omega)|(simp at *;omega))) (le_put (le_put (le_put (le_put (le_put (le_put (le_emp _) rfl) rfl) rfl) rfl) rfl) rfl) (by (first|((repeat first|exact s_0|exact s_1|exact s_3|refine s_4 ?_|refine s_5 ?_|refine s_6 ?_|refine s_7 ?_);done)|((repeat first|exact s_0|exact s_1|exact s_3|refine s_4 ?_|refine s_5 ?_|refine s_6 ?_|refine s_8 ?_);done)))
    · refine xr_end rfl ?_
      refine th_n ?_
      refine xc_false rfl ?_
      refine xc_exit ?_
      refine th_x ?_
      refine th_x ?_
      refine bk_same ?_
      refine th_n ?_
      refine xc_seq (xc_region ?_)
      refine xr_op rfl rfl (xv_move rfl ?_)
      refine xr_op rfl rfl (xv_assign rfl ?_)
      refine xr_end rfl ?_
      refine th_n ?_
      refine xc_ret ?_
      refine body_ret (h' := (W.hp 26 (es.flatMap eHd) ++ (Q ++ h))) rfl (ro_tmp rfl ro_nil) (by (first|((repeat first|exact s_0|exact s_1|exact s_3|refine s_4 ?_|refine s_5 ?_|refine s_6 ?_|refine s_7 ?_);done)|((repeat first|exact s_0|exact s_1|exact s_3|refine s_4 ?_|refine s_5 ?_|refine s_6 ?_|refine s_8 ?_);done))) ?_
      exact H es W Q (by rw [hes, allS_s (k := k) (by omega) (by (first|omega|(dsimp only at *;omega)|(simp at *;omega)))]) hW hQ

theorem all_c {s : Slot} (hsm : Small s) (hgs : GoodSlot s) : ∀ d, AllOk s d := by
  intro d
  induction d using Nat.strongRecOn with
  | ind d ih => exact all_step hsm hgs ih

theorem divisions_c {s : Slot} {h : Hp} {R : Ending → Hp → Prop} (hs : SlotV h s) (hsm : Small s) (H1 : errD s ≠ 0 → R (.returned (.tuple ⟨[.slice none 0 0, I (errD s)]⟩)) h)
    (H2 : errS s = 0 → divsS s ≠ [] → ∀ (hds : List Hd) (V : Vec) (P : Hp), hds.map Hd.m = divsS s → V.ok 1 hds.length (hds.flatMap eHd) → (∀ w ∈ hds, SlV P 1 eI w.a w.m) → R (.returned (.tuple ⟨[V.val hds.length, I 0]⟩)) (V.hp 26 (hds.flatMap eHd) ++ (P ++ h))) :
    ACalls Try.prog 44 ⟨[.agg ⟨eSlot s⟩]⟩ h R := by
  refine calls_of_xc (N := 19) Try.func44 rfl (by rfl) ?_
  obtain ⟨hsl9, hsk⟩ := id hsm
  refine xc_seq (xc_region ?_)
  refine xr_op rfl rfl (xv_box rfl (fun b1 hb1 => ?_))
  refine xr_op rfl rfl (xv_assign rfl ?_)
  refine xr_op rfl rfl (xv_assign rfl ?_)
  refine xr_end rfl ?_
  refine th_n ?_
  refine xc_seq (xc_region ?_)
  refine xr_op rfl rfl (xv_loadA ty25 rfl rfl (by ((repeat first|exact z_0|assumption|refine z_1 ?_|(refine z_l ?_;(repeat first|exact z_0|assumption|refine z_1 ?_);done)|refine z_r ?_);done)) (by ((try apply evl_some rfl);(repeat (first|exact (rfl : _ = [])|apply evl_cons rfl (by (first|exact v_1|exact v_2|exact v_3|exact v_4|exact v_5|exact v_6|exact v_7|exact v_8|exact v_9|exact rfl))|exact rfl)))) (by rfl) ?_)
  refine xr_op rfl rfl (xv_calls rfl hb38 (errors_c (hs.sub (by intro z hz; ((repeat first|exact z_0|assumption|refine z_1 ?_|(refine z_l ?_;(repeat first|exact z_0|assumption|refine z_1 ?_);done)|refine z_r ?_);done))) hsm (up_ret ?_)))
  refine xr_op rfl rfl (xv_assign rfl ?_)
  refine xr_end rfl ?_
  refine th_n ?_
  refine xc_seq ?_
  refine xc_seq (xc_region ?_)
  refine xr_op rfl rfl (xv_move rfl ?_)
  refine xr_op rfl rfl (xv_neq2 rfl rfl (fun q1 => ?_) (fun q1 => ?_))
  · refine xr_end rfl ?_
    refine th_n ?_
    refine xc_true rfl ?_
    refine xc_seq (xc_region ?_)
    have hed : errD s = errS s := by unfold errD; exact if_neg (by (first|omega|(dsimp only at *;omega)|(simp at *;omega)))
    refine xr_op rfl rfl (xv_move rfl ?_)
    refine xr_op rfl rfl (xv_assign rfl ?_)
    refine xr_op rfl rfl (xv_assign rfl ?_)
    refine xr_end rfl ?_
    refine th_n ?_
    refine xc_ret ?_
    refine th_r ?_
    refine body_ret (h' := h) rfl (ro_tmp rfl (ro_tmp rfl ro_nil)) (by (first|((repeat first|exact s_0|exact s_1|exact s_3|refine s_4 ?_|refine s_5 ?_|refine s_6 ?_|refine s_7 ?_);done)|((repeat first|exact s_0|exact s_1|exact s_3|refine s_4 ?_|refine s_5 ?_|refine s_6 ?_|refine s_8 ?_);done))) ?_
    first | (have h9 := H1 (by (first|omega|(dsimp only at *;omega)|(simp at *;omega))); rw [hed] at h9; exact h9) | (rw [← hqv]; exact H2 he0 hdn hds V P hdv hV hP)
  · refine xr_end rfl ?_
    refine th_n ?_
    refine xc_false rfl ?_
    refine xc_skip ?_
    refine th_n ?_
    refine xc_seq (xc_region ?_)
    have he0 : errS s = 0 := by (first|omega|(dsimp only at *;omega)|(simp at *;omega))
    have hgs := good_of he0
    have hsz1 := hgs.2.1.1
    have hcn := hgs.1.2.2.1
    have hroom : ([] : List Hd).length + 25 ^ (s.tars.length - 1) ≤ 10000000000 := by
      have : 25 ^ (s.tars.length - 1) ≤ 25 ^ 4 := Nat.pow_le_pow_right (by decide) (by omega)
      simp only [List.length_nil]; omega
    refine xr_op rfl rfl (xv_loadA ty25 rfl rfl (by ((repeat first|exact z_0|assumption|refine z_1 ?_|(refine z_l ?_;(repeat first|exact z_0|assumption|refine z_1 ?_);done)|refine z_r ?_);done)) (by ((try apply evl_some rfl);(repeat (first|exact (rfl : _ = [])|apply evl_cons rfl (by (first|exact v_1|exact v_2|exact v_3|exact v_4|exact v_5|exact v_6|exact v_7|exact v_8|exact v_9|exact rfl))|exact rfl)))) (by rfl) ?_)
    refine xr_op rfl rfl (xv_faddr fl25_2 rfl ?_)
    refine xr_op rfl rfl (xv_load1 ty3 rfl rfl (by ((repeat first|exact z_0|assumption|refine z_1 ?_|(refine z_l ?_;(repeat first|exact z_0|assumption|refine z_1 ?_);done)|refine z_r ?_);done)) (by rfl) ?_)
    refine xr_op rfl rfl (xv_calls rfl hb61 (all_c hsm hgs (s.tars.length - 1) (h := (b1, .cells ⟨eSlot s⟩ 25) :: h) (b := []) (V := .nil) (hds := []) (P := []) (hs.sub (by intro z hz; ((repeat first|exact z_0|assumption|refine z_1 ?_|(refine z_l ?_;(repeat first|exact z_0|assumption|refine z_1 ?_);done)|refine z_r ?_);done))) (List.Perm.refl _) (.inl rfl) rfl (by simp only [List.length_nil]; omega) (fun x hx => (List.not_mem_nil hx).elim) (by omega) ⟨rfl, rfl⟩ (fun w hw => (List.not_mem_nil hw).elim) hroom (fun hds V P hds9 hV hP => up_ret ?_)))
    refine xr_op rfl rfl (xv_assign rfl ?_)
    refine xr_end rfl ?_
    refine th_n ?_
    refine xc_seq ?_
    refine xc_seq (xc_region ?_)
    have hdv : hds.map Hd.m = divsS s := hds9
    obtain ⟨qa, qc, hqv⟩ : ∃ a c, V.val hds.length = .slice a hds.length c := Vec.val_eq hV
    rw [hqv]
    refine xr_op rfl rfl (xv_move rfl ?_)
    refine xr_op rfl rfl (xv_len sl82 rfl ?_)
    refine xr_op rfl rfl (xv_eql2 rfl rfl (fun q2 => ?_) (fun q2 => ?_))
    · refine xr_end rfl ?_
      refine th_n ?_
      refine xc_true rfl ?_
      refine xc_seq (xc_region ?_)
      have hdn : divsS s = [] := by rw [← hdv, List.length_eq_zero_iff.1 (show hds.length = 0 by (first|omega|(dsimp only at *;omega)|(simp at *;omega)))]; rfl
      have hed : errD s = 6 := by unfold errD; rw [if_pos he0, if_pos hdn]
      refine xr_op rfl rfl (xv_assign rfl ?_)
      refine xr_op rfl rfl (xv_assign rfl ?_)
      refine xr_end rfl ?_
      refine th_n ?_
      refine xc_ret ?_
      refine th_r ?_
      refine body_ret (h' := h) rfl (ro_tmp rfl (ro_tmp rfl ro_nil)) (by (first|((repeat first|exact s_0|exact s_1|exact s_3|refine s_4 ?_|refine s_5 ?_|refine s_6 ?_|refine s_7 ?_);done)|((repeat first|exact s_0|exact s_1|exact s_3|refine s_4 ?_|refine s_5 ?_|refine s_6 ?_|refine s_8 ?_);done))) ?_
      first | (have h9 := H1 (by (first|omega|(dsimp only at *;omega)|(simp at *;omega))); rw [hed] at h9; exact h9) | (rw [← hqv]; exact H2 he0 hdn hds V P hdv hV hP)
    · refine xr_end rfl ?_
      refine th_n ?_
      refine xc_false rfl ?_
      refine xc_skip ?_
      refine th_n ?_
      refine xc_seq (xc_region ?_)
      have hdn : divsS s ≠ [] := fun q9 => by rw [q9] at hdv; have := List.map_eq_nil_iff.1 hdv; subst this; simp at *
      refine xr_op rfl rfl (xv_move rfl ?_)
      refine xr_op rfl rfl (xv_assign rfl ?_)
      refine xr_op rfl rfl (xv_assign rfl ?_)
      refine xr_end rfl ?_
      refine th_n ?_
      refine xc_ret ?_
      refine body_ret (h' := (V.hp 26 (hds.flatMap eHd) ++ (P ++ h))) rfl (ro_tmp rfl (ro_tmp rfl ro_nil)) (by (first|((repeat first|exact s_0|exact s_1|exact s_3|refine s_4 ?_|refine s_5 ?_|refine s_6 ?_|refine s_7 ?_);done)|((repeat first|exact s_0|exact s_1|exact s_3|refine s_4 ?_|refine s_5 ?_|refine s_6 ?_|refine s_8 ?_);done))) ?_
      first | (have h9 := H1 (by (first|omega|(dsimp only at *;omega)|(simp at *;omega))); rw [hed] at h9; exact h9) | (rw [← hqv]; exact H2 he0 hdn hds V P hdv hV hP)

end Go.Proofs.Ytlcdbjgfeoagbaa

/-
  Walks.
-/
namespace Go.Proofs.Ytlcdbjgfeoagbaa
open Go Go.H
set_option maxRecDepth 100000
set_option maxHeartbeats 8000000
set_option linter.all false
theorem RCoins_c {s : Slot} {h : Hp} {R : Ending → Hp → Prop} (hs : SlotV h s) (hsm : Small s) (H1 : errD s ≠ 0 → R (.returned (.tuple ⟨[.slice none 0 0, I (errD s)]⟩)) h)
    (H2 : errD s = 0 → ∀ V : Vec, V.ok 2 (coinsS s).length ((coinsS s).flatMap eSpan) → R (.returned (.tuple ⟨[V.val (coinsS s).length, I 0]⟩)) (V.hp 30 ((coinsS s).flatMap eSpan) ++ h)) :
    ACalls Try.prog 19 ⟨[.agg ⟨eSlot s⟩]⟩ h R := by
  refine calls_of_xc (N := 70) Try.func19 rfl (by rfl) ?_
  obtain ⟨hsl9, hsk⟩ := id hsm
  have hcl : (coinsS s).length = s.tars.length := by unfold coinsS; rw [List.length_map, List.length_range]
  refine xc_seq (xc_region ?_)
  refine xr_op rfl rfl (xv_box rfl (fun b1 hb1 => ?_))
  refine xr_op rfl rfl (xv_assign rfl ?_)
  refine xr_op rfl rfl (xv_assign rfl ?_)
  refine xr_end rfl ?_
  refine th_n ?_
  refine xc_seq (xc_region ?_)
  refine xr_op rfl rfl (xv_loadA ty25 rfl rfl (by ((repeat first|exact z_0|assumption|refine z_1 ?_|(refine z_l ?_;(repeat first|exact z_0|assumption|refine z_1 ?_);done)|refine z_r ?_);done)) (by ((try apply evl_some rfl);(repeat (first|exact (rfl : _ = [])|apply evl_cons rfl (by (first|exact v_1|exact v_2|exact v_3|exact v_4|exact v_5|exact v_6|exact v_7|exact v_8|exact v_9|exact rfl))|exact rfl)))) (by rfl) ?_)
  refine xr_op rfl rfl (xv_calls rfl hb44 (divisions_c (hs.sub (by intro z hz; ((repeat first|exact z_0|assumption|refine z_1 ?_|(refine z_l ?_;(repeat first|exact z_0|assumption|refine z_1 ?_);done)|refine z_r ?_);done))) hsm (fun hed => up_ret ?_) (fun he0 hdn hds V P hdv hV hP => up_ret ?_)))
  · refine xr_op rfl rfl (xv_move rfl ?_)
    refine xr_op rfl rfl (xv_extract rfl rfl ?_)
    refine xr_op rfl rfl (xv_extract rfl rfl ?_)
    refine xr_op rfl rfl (xv_assign rfl ?_)
    refine xr_op rfl rfl (xv_assign rfl ?_)
    refine xr_end rfl ?_
    refine th_n ?_
    refine xc_seq ?_
    refine xc_seq (xc_region ?_)
    refine xr_op rfl rfl (xv_move rfl ?_)
    refine xr_op rfl rfl (xv_neqT rfl rfl hed ?_)
    refine xr_end rfl ?_
    refine th_n ?_
    refine xc_true rfl ?_
    refine xc_seq (xc_region ?_)
    refine xr_op rfl rfl (xv_move rfl ?_)
    refine xr_op rfl rfl (xv_assign rfl ?_)
    refine xr_op rfl rfl (xv_assign rfl ?_)
    refine xr_end rfl ?_
    refine th_n ?_
    refine xc_ret ?_
    refine th_r ?_
    refine body_ret (h' := h) rfl (ro_tmp rfl (ro_tmp rfl ro_nil)) (by (first|((repeat first|exact s_0|exact s_1|exact s_3|refine s_4 ?_|refine s_5 ?_|refine s_6 ?_|refine s_7 ?_);done)|((repeat first|exact s_0|exact s_1|exact s_3|refine s_4 ?_|refine s_5 ?_|refine s_6 ?_|refine s_8 ?_);done))) ?_
    first | exact H1 hed | exact H2 hed U hU
  · refine xr_op rfl rfl (xv_move rfl ?_)
    refine xr_op rfl rfl (xv_extract rfl rfl ?_)
    refine xr_op rfl rfl (xv_extract rfl rfl ?_)
    refine xr_op rfl rfl (xv_assign rfl ?_)
    refine xr_op rfl rfl (xv_assign rfl ?_)
    refine xr_end rfl ?_
    refine th_n ?_
    refine xc_seq ?_
    refine xc_seq (xc_region ?_)
    refine xr_op rfl rfl (xv_move rfl ?_)
    refine xr_op rfl rfl (xv_neqF rfl rfl rfl ?_)
    refine xr_end rfl ?_
    refine th_n ?_
    refine xc_false rfl ?_
    refine xc_skip ?_
    refine th_n ?_
    refine xc_seq (xc_region ?_)
    obtain ⟨qa, qc, hqv, hqs⟩ := Vec.slv (enc := eHd) (t := 26) (h := V.hp 26 (hds.flatMap eHd)) eHd_len hV (fun _ hz => hz)
    rw [hqv]
    have hdl : hds.length = (divsS s).length := by rw [← hdv, List.length_map]
    have hd0 : 0 < hds.length := by rw [hdl]; exact List.length_pos_iff.2 hdn
    have hgs := good_of he0
    have hdb : hds.length ≤ 390625 := by rw [hdl]; exact divs_len hgs
    have hmem : ∀ w ∈ hds, w.m.length = s.tars.length ∧ ∀ x ∈ w.m, 0 ≤ x ∧ x ≤ 24 := fun w hw => divs_mem hgs (by rw [← hdv]; exact List.mem_map.2 ⟨w, hw, rfl⟩)
    refine xr_op rfl rfl (xv_assign rfl ?_)
    refine xr_end rfl ?_
    refine th_n ?_
    refine xc_seq ?_
    refine xc_seq (xc_region ?_)
    refine xr_op rfl rfl (xv_assign rfl ?_)
    refine xr_end rfl ?_
    refine th_n ?_
    refine xc_block ?_
    refine xc_loop (σ := Nat × Vec) (fun z => z.1 ≤ s.tars.length ∧ z.2.ok 2 ((coinsS s).take z.1).length (((coinsS s).take z.1).flatMap eSpan)) (fun z => (((((emp.put (some 1) (.pointer (some ⟨b1, 0, none⟩))).put (some 4) (.slice qa hds.length qc)).put (some 5) (I 0)).put (some 6) (z.2.val ((coinsS s).take z.1).length)).put (some 7) (I z.1))) (fun z => (z.2.hp 30 (((coinsS s).take z.1).flatMap eSpan) ++ (V.hp 26 (hds.flatMap eHd) ++ (P ++ (b1, .cells ⟨eSlot s⟩ 25) :: h)))) (fun z => s.tars.length - z.1) ((0, .nil) : Nat × Vec) ⟨Nat.zero_le _, ⟨rfl, rfl⟩⟩ (le_put (le_put (le_put (le_put (le_put (le_emp _) rfl) rfl) rfl) rfl) rfl) (by (first|((repeat first|exact s_0|exact s_1|exact s_3|refine s_4 ?_|refine s_5 ?_|refine s_6 ?_|refine s_7 ?_);done)|((repeat first|exact s_0|exact s_1|exact s_3|refine s_4 ?_|refine s_5 ?_|refine s_6 ?_|refine s_8 ?_);done))) ?_
    rintro ⟨k, U⟩ ⟨hk, hU⟩
    dsimp only at hk hU
    refine xc_seq ?_
    refine xc_seq (xc_region ?_)
    refine xr_op rfl rfl (xv_move rfl ?_)
    refine xr_op rfl rfl (xv_faddr fl25_4 rfl ?_)
    refine xr_op rfl rfl (xv_load1 ty22 rfl rfl (by ((repeat first|exact z_0|assumption|refine z_1 ?_|(refine z_l ?_;(repeat first|exact z_0|assumption|refine z_1 ?_);done)|refine z_r ?_);done)) (by rfl) ?_)
    refine xr_op rfl rfl (xv_len sl22 rfl ?_)
    refine xr_op rfl rfl (xv_lss2 rfl rfl (fun q1 => ?_) (fun q1 => ?_))
    · refine xr_end rfl ?_
      refine th_n ?_
      refine xc_true rfl ?_
      refine xc_skip ?_
      refine th_n ?_
      refine xc_seq ?_
      refine xc_block ?_
      refine xc_seq ?_
      refine xc_draw0 [(0, .S), (1, .S), (2, .R), (3, .S), (4, .S), (5, .R), (6, .S), (7, .S), (8, .R), (9, .S), (10, .S), (11, .R), (12, .S), (13, .P), (13, .A), (14, .O)] mixed (by kernel_rfl) ?_
      refine js_S rfl rfl (.inl rfl) (xv_move rfl ⟨rfl, rfl⟩) ?_
      have hltw : 0 < hds.length := hd0
      obtain ⟨bw, ow, lw, tw, fzw, haw, hmw, hxw⟩ := ((hqs.sub (by intro z hz; ((repeat first|exact z_0|assumption|refine z_1 ?_|(refine z_l ?_;(repeat first|exact z_0|assumption|refine z_1 ?_);done)|refine z_r ?_);done)) : SlV (U.hp 30 (((coinsS s).take k).flatMap eSpan) ++ (V.hp 26 (hds.flatMap eHd) ++ (P ++ (b1, .cells ⟨eSlot s⟩ 25) :: h))) 1 eHd qa hds)).at hltw
      obtain ⟨xw, hkw⟩ : ∃ qq_, hds[0]? = some qq_ := ⟨_, List.getElem?_eq_getElem hltw⟩
      have hmww := hmem xw (List.mem_of_getElem? hkw)
      have hdmw : (divsS s)[0]? = some xw.m := by rw [← hdv, List.getElem?_map, hkw]; rfl
      have hlte : k < xw.m.length := by (first|omega|(dsimp only at *;omega)|(simp at *;omega))
      obtain ⟨be, oe, le, te, fze, hae, hme, hxe⟩ := (((hP xw (List.mem_of_getElem? hkw)).sub (by intro z hz; ((repeat first|exact z_0|assumption|refine z_1 ?_|(refine z_l ?_;(repeat first|exact z_0|assumption|refine z_1 ?_);done)|refine z_r ?_);done)) : SlV (U.hp 30 (((coinsS s).take k).flatMap eSpan) ++ (V.hp 26 (hds.flatMap eHd) ++ (P ++ (b1, .cells ⟨eSlot s⟩ 25) :: h))) 1 eI xw.a xw.m)).at hlte
      obtain ⟨xe, hke⟩ : ∃ qq_, xw.m[k]? = some qq_ := ⟨_, List.getElem?_eq_getElem hlte⟩
      have hh0 : ((divsS s).map fun n => n.getD k 0).headD 0 = xe := by rw [List.headD_eq_head?_getD, List.head?_eq_getElem?, List.getElem?_map, hdmw]; show xw.m.getD k 0 = xe; rw [List.getD_eq_getElem?_getD, hke]; rfl
      refine js_S rfl rfl (.inl rfl) (xv_ia (sz := 1) (j := 0) sl82 ty26 rfl (by rw [haw]; rfl) rfl rfl (by (first|omega|(dsimp only at *;omega)|(simp at *;omega))) (by (first|omega|(dsimp only at *;omega)|(simp at *;omega))) ⟨rfl, rfl⟩) ?_
      refine js_R0 rfl rfl (.inl rfl) (xv_load1 ty26 rfl rfl (by ((repeat first|exact z_0|assumption|refine z_1 ?_|(refine z_l ?_;(repeat first|exact z_0|assumption|refine z_1 ?_);done)|refine z_r ?_);done)) (take_get (hxw (0) xw hkw) (j := 0) rfl) ⟨rfl, rfl⟩) ?_
      refine js_S rfl rfl (.inl rfl) (xv_move rfl ⟨rfl, rfl⟩) ?_
      refine js_S rfl rfl (.inl rfl) (xv_ia (sz := 1) (j := k) sl26 ty3 rfl (by rw [hae]; rfl) rfl (by (first | assumption | with_reducible exact Int.toNat_natCast _ | with_reducible rfl | rfl)) (by (first|omega|(dsimp only at *;omega)|(simp at *;omega))) (by (first|omega|(dsimp only at *;omega)|(simp at *;omega))) ⟨rfl, rfl⟩) ?_
      refine js_R0 rfl rfl (.inl rfl) (xv_load1 ty3 rfl rfl (by ((repeat first|exact z_0|assumption|refine z_1 ?_|(refine z_l ?_;(repeat first|exact z_0|assumption|refine z_1 ?_);done)|refine z_r ?_);done)) (take_get (hxe (k) xe hke) (j := 0) rfl) ⟨rfl, rfl⟩) ?_
      refine js_S rfl rfl (.inl rfl) (xv_move rfl ⟨rfl, rfl⟩) ?_
      refine js_S rfl rfl (.inl rfl) (xv_ia (sz := 1) (j := 0) sl82 ty26 rfl (by rw [haw]; rfl) rfl rfl (by (first|omega|(dsimp only at *;omega)|(simp at *;omega))) (by (first|omega|(dsimp only at *;omega)|(simp at *;omega))) ⟨rfl, rfl⟩) ?_
      refine js_R0 rfl rfl (.inl rfl) (xv_load1 ty26 rfl rfl (by ((repeat first|exact z_0|assumption|refine z_1 ?_|(refine z_l ?_;(repeat first|exact z_0|assumption|refine z_1 ?_);done)|refine z_r ?_);done)) (take_get (hxw (0) xw hkw) (j := 0) rfl) ⟨rfl, rfl⟩) ?_
      refine js_S rfl rfl (.inl rfl) (xv_move rfl ⟨rfl, rfl⟩) ?_
      refine js_S rfl rfl (.inl rfl) (xv_ia (sz := 1) (j := k) sl26 ty3 rfl (by rw [hae]; rfl) rfl (by (first | assumption | with_reducible exact Int.toNat_natCast _ | with_reducible rfl | rfl)) (by (first|omega|(dsimp only at *;omega)|(simp at *;omega))) (by (first|omega|(dsimp only at *;omega)|(simp at *;omega))) ⟨rfl, rfl⟩) ?_
      refine js_R0 rfl rfl (.inl rfl) (xv_load1 ty3 rfl rfl (by ((repeat first|exact z_0|assumption|refine z_1 ?_|(refine z_l ?_;(repeat first|exact z_0|assumption|refine z_1 ?_);done)|refine z_r ?_);done)) (take_get (hxe (k) xe hke) (j := 0) rfl) ⟨rfl, rfl⟩) ?_
      refine js_S rfl rfl (.inl rfl) (xv_build bt30 rfl (by ((try apply evl_some rfl);(repeat (first|exact (rfl : _ = [])|apply evl_cons rfl (by (first|exact v_1|exact v_2|exact v_3|exact v_4|exact v_5|exact v_6|exact v_7|exact v_8|exact v_9|exact rfl))|exact rfl)))) ⟨rfl, rfl⟩) ?_
      refine js_P rfl rfl rfl (al_alloc ty30) ?_
      refine js_A0 rfl rfl rfl rfl rfl trivial (fun b8 hb8 => ?_)
      refine js_O0 rfl rfl (.inl rfl) (xv_s ty30 rfl rfl (by (first|(apply u_3;(repeat first|exact u_0|assumption|apply u_1|apply u_2);done)|((repeat first|exact u_0|assumption|apply u_1|apply u_2);done)|(apply u_3;apply u_3;(repeat first|exact u_0|assumption|apply u_1|apply u_2);done)|((repeat first|exact u_0|assumption|apply u_3|apply u_1);done))) (by ((try apply evl_some rfl);(repeat (first|exact (rfl : _ = [])|apply evl_cons rfl (by (first|exact v_1|exact v_2|exact v_3|exact v_4|exact v_5|exact v_6|exact v_7|exact v_8|exact v_9|exact rfl))|exact rfl)))) (by rfl) (by rfl) (by rfl) (by ((try apply evl_some rfl);(repeat (first|exact (rfl : _ = [])|apply evl_cons rfl (by (first|exact v_1|exact v_2|exact v_3|exact v_4|exact v_5|exact v_6|exact v_7|exact v_8|exact v_9|exact rfl))|exact rfl)))) ?_)
      refine j_end0 ?_
      refine th_n ?_
      refine xc_seq ?_
      refine xc_seq (xc_region ?_)
      refine xr_op rfl rfl (xv_assign rfl ?_)
      refine xr_end rfl ?_
      refine th_n ?_
      refine xc_block ?_
      refine xc_loop (σ := Nat) (fun j => j ≤ hds.length) (fun j => (((((((emp.put (some 1) (.pointer (some ⟨b1, 0, none⟩))).put (some 4) (.slice qa hds.length qc)).put (some 5) (I 0)).put (some 6) (U.val ((coinsS s).take k).length)).put (some 7) (I k)).put (some 8) (.pointer (some ⟨b8, 0, none⟩))).put (some 9) (I j))) (fun j => ((b8, .cells ⟨eSpan (spanN ((divsS s).map fun n => n.getD k 0) j)⟩ 30) :: (U.hp 30 (((coinsS s).take k).flatMap eSpan) ++ (V.hp 26 (hds.flatMap eHd) ++ (P ++ (b1, .cells ⟨eSlot s⟩ 25) :: h))))) (fun j => hds.length - j) 0 (Nat.zero_le _) (le_put (le_put (le_put (le_put (le_put (le_put (le_put (le_emp _) rfl) rfl) rfl) rfl) rfl) rfl) rfl) (by rw [spanN_0, hh0]; (first|((repeat first|exact s_0|exact s_1|exact s_3|refine s_4 ?_|refine s_5 ?_|refine s_6 ?_|refine s_7 ?_);done)|((repeat first|exact s_0|exact s_1|exact s_3|refine s_4 ?_|refine s_5 ?_|refine s_6 ?_|refine s_8 ?_);done))) ?_
      rintro j hj
      refine xc_seq ?_
      refine xc_seq (xc_region ?_)
      refine xr_op rfl rfl (xv_move rfl ?_)
      refine xr_op rfl rfl (xv_move rfl ?_)
      refine xr_op rfl rfl (xv_len sl82 rfl ?_)
      refine xr_op rfl rfl (xv_lss2 rfl rfl (fun q3 => ?_) (fun q3 => ?_))
      · refine xr_end rfl ?_
        refine th_n ?_
        refine xc_true rfl ?_
        refine xc_skip ?_
        refine th_n ?_
        refine xc_seq ?_
        refine xc_block ?_
        have hltw : j < hds.length := by (first|omega|(dsimp only at *;omega)|(simp at *;omega))
        obtain ⟨bw, ow, lw, tw, fzw, haw, hmw, hxw⟩ := ((hqs.sub (by intro z hz; ((repeat first|exact z_0|assumption|refine z_1 ?_|(refine z_l ?_;(repeat first|exact z_0|assumption|refine z_1 ?_);done)|refine z_r ?_);done)) : SlV ((b8, .cells ⟨eSpan (spanN ((divsS s).map fun n => n.getD k 0) j)⟩ 30) :: (U.hp 30 (((coinsS s).take k).flatMap eSpan) ++ (V.hp 26 (hds.flatMap eHd) ++ (P ++ (b1, .cells ⟨eSlot s⟩ 25) :: h)))) 1 eHd qa hds)).at hltw
        obtain ⟨xw, hkw⟩ : ∃ qq_, hds[j]? = some qq_ := ⟨_, List.getElem?_eq_getElem hltw⟩
        have hmww := hmem xw (List.mem_of_getElem? hkw)
        have hdmw : (divsS s)[j]? = some xw.m := by rw [← hdv, List.getElem?_map, hkw]; rfl
        have hlte : k < xw.m.length := by (first|omega|(dsimp only at *;omega)|(simp at *;omega))
        obtain ⟨be, oe, le, te, fze, hae, hme, hxe⟩ := (((hP xw (List.mem_of_getElem? hkw)).sub (by intro z hz; ((repeat first|exact z_0|assumption|refine z_1 ?_|(refine z_l ?_;(repeat first|exact z_0|assumption|refine z_1 ?_);done)|refine z_r ?_);done)) : SlV ((b8, .cells ⟨eSpan (spanN ((divsS s).map fun n => n.getD k 0) j)⟩ 30) :: (U.hp 30 (((coinsS s).take k).flatMap eSpan) ++ (V.hp 26 (hds.flatMap eHd) ++ (P ++ (b1, .cells ⟨eSlot s⟩ 25) :: h)))) 1 eI xw.a xw.m)).at hlte
        obtain ⟨xe, hke⟩ : ∃ qq_, xw.m[k]? = some qq_ := ⟨_, List.getElem?_eq_getElem hlte⟩
        · refine xc_draw0 [(0, .S), (1, .R), (2, .S), (3, .S), (4, .S), (5, .R), (6, .S), (7, .S), (8, .R), (9, .S), (10, .S), (11, .R), (12, .S), (13, .S), (14, .S), (15, .R), (16, .S), (17, .S), (18, .R), (19, .S), (20, .S), (21, .O)] mixed (by kernel_rfl) ?_
          refine js_S rfl rfl (.inl rfl) (xv_faddr fl30_0 rfl ⟨rfl, rfl⟩) ?_
          refine js_R0 rfl rfl (.inl rfl) (xv_load1 ty3 rfl rfl (by ((repeat first|exact z_0|assumption|refine z_1 ?_|(refine z_l ?_;(repeat first|exact z_0|assumption|refine z_1 ?_);done)|refine z_r ?_);done)) (by rfl) ⟨rfl, rfl⟩) ?_
          refine js_S rfl rfl (.inl rfl) (xv_move rfl ⟨rfl, rfl⟩) ?_
          refine js_S rfl rfl (.inl rfl) (xv_move rfl ⟨rfl, rfl⟩) ?_
          refine js_S rfl rfl (.inl rfl) (xv_ia (sz := 1) (j := j) sl82 ty26 rfl (by rw [haw]; rfl) rfl (by (first | assumption | with_reducible exact Int.toNat_natCast _ | with_reducible rfl | rfl)) (by (first|omega|(dsimp only at *;omega)|(simp at *;omega))) (by (first|omega|(dsimp only at *;omega)|(simp at *;omega))) ⟨rfl, rfl⟩) ?_
          refine js_R0 rfl rfl (.inl rfl) (xv_load1 ty26 rfl rfl (by ((repeat first|exact z_0|assumption|refine z_1 ?_|(refine z_l ?_;(repeat first|exact z_0|assumption|refine z_1 ?_);done)|refine z_r ?_);done)) (take_get (hxw (j) xw hkw) (j := 0) rfl) ⟨rfl, rfl⟩) ?_
          refine js_S rfl rfl (.inl rfl) (xv_move rfl ⟨rfl, rfl⟩) ?_
          refine js_S rfl rfl (.inl rfl) (xv_ia (sz := 1) (j := k) sl26 ty3 rfl (by rw [hae]; rfl) rfl (by (first | assumption | with_reducible exact Int.toNat_natCast _ | with_reducible rfl | rfl)) (by (first|omega|(dsimp only at *;omega)|(simp at *;omega))) (by (first|omega|(dsimp only at *;omega)|(simp at *;omega))) ⟨rfl, rfl⟩) ?_
          refine js_R0 rfl rfl (.inl rfl) (xv_load1 ty3 rfl rfl (by ((repeat first|exact z_0|assumption|refine z_1 ?_|(refine z_l ?_;(repeat first|exact z_0|assumption|refine z_1 ?_);done)|refine z_r ?_);done)) (take_get (hxe (k) xe hke) (j := 0) rfl) ⟨rfl, rfl⟩) ?_
          refine js_S rfl rfl (.inl rfl) (xv_min rfl rfl rfl ⟨rfl, rfl⟩) ?_
          refine js_S rfl rfl (.inl rfl) (xv_faddr fl30_1 rfl ⟨rfl, rfl⟩) ?_
          refine js_R0 rfl rfl (.inl rfl) (xv_load1 ty3 rfl rfl (by ((repeat first|exact z_0|assumption|refine z_1 ?_|(refine z_l ?_;(repeat first|exact z_0|assumption|refine z_1 ?_);done)|refine z_r ?_);done)) (by rfl) ⟨rfl, rfl⟩) ?_
          refine js_S rfl rfl (.inl rfl) (xv_move rfl ⟨rfl, rfl⟩) ?_
          refine js_S rfl rfl (.inl rfl) (xv_move rfl ⟨rfl, rfl⟩) ?_
          refine js_S rfl rfl (.inl rfl) (xv_ia (sz := 1) (j := j) sl82 ty26 rfl (by rw [haw]; rfl) rfl (by (first | assumption | with_reducible exact Int.toNat_natCast _ | with_reducible rfl | rfl)) (by (first|omega|(dsimp only at *;omega)|(simp at *;omega))) (by (first|omega|(dsimp only at *;omega)|(simp at *;omega))) ⟨rfl, rfl⟩) ?_
          refine js_R0 rfl rfl (.inl rfl) (xv_load1 ty26 rfl rfl (by ((repeat first|exact z_0|assumption|refine z_1 ?_|(refine z_l ?_;(repeat first|exact z_0|assumption|refine z_1 ?_);done)|refine z_r ?_);done)) (take_get (hxw (j) xw hkw) (j := 0) rfl) ⟨rfl, rfl⟩) ?_
          refine js_S rfl rfl (.inl rfl) (xv_move rfl ⟨rfl, rfl⟩) ?_
          refine js_S rfl rfl (.inl rfl) (xv_ia (sz := 1) (j := k) sl26 ty3 rfl (by rw [hae]; rfl) rfl (by (first | assumption | with_reducible exact Int.toNat_natCast _ | with_reducible rfl | rfl)) (by (first|omega|(dsimp only at *;omega)|(simp at *;omega))) (by (first|omega|(dsimp only at *;omega)|(simp at *;omega))) ⟨rfl, rfl⟩) ?_
          refine js_R0 rfl rfl (.inl rfl) (xv_load1 ty3 rfl rfl (by ((repeat first|exact z_0|assumption|refine z_1 ?_|(refine z_l ?_;(repeat first|exact z_0|assumption|refine z_1 ?_);done)|refine z_r ?_);done)) (take_get (hxe (k) xe hke) (j := 0) rfl) ⟨rfl, rfl⟩) ?_
          refine js_S rfl rfl (.inl rfl) (xv_max rfl rfl rfl ⟨rfl, rfl⟩) ?_
          refine js_S rfl rfl (.inl rfl) (xv_build bt30 rfl (by ((try apply evl_some rfl);(repeat (first|exact (rfl : _ = [])|apply evl_cons rfl (by (first|exact v_1|exact v_2|exact v_3|exact v_4|exact v_5|exact v_6|exact v_7|exact v_8|exact v_9|exact rfl))|exact rfl)))) ⟨rfl, rfl⟩) ?_
          refine js_O0 rfl rfl (.inl rfl) (xv_s ty30 rfl rfl (by (first|(apply u_3;(repeat first|exact u_0|assumption|apply u_1|apply u_2);done)|((repeat first|exact u_0|assumption|apply u_1|apply u_2);done)|(apply u_3;apply u_3;(repeat first|exact u_0|assumption|apply u_1|apply u_2);done)|((repeat first|exact u_0|assumption|apply u_3|apply u_1);done))) (by ((try apply evl_some rfl);(repeat (first|exact (rfl : _ = [])|apply evl_cons rfl (by (first|exact v_1|exact v_2|exact v_3|exact v_4|exact v_5|exact v_6|exact v_7|exact v_8|exact v_9|exact rfl))|exact rfl)))) (by rfl) (by rfl) (by rfl) (by ((try apply evl_some rfl);(repeat (first|exact (rfl : _ = [])|apply evl_cons rfl (by (first|exact v_1|exact v_2|exact v_3|exact v_4|exact v_5|exact v_6|exact v_7|exact v_8|exact v_9|exact rfl))|exact rfl)))) ?_)
          refine j_end0 ?_
          refine bk_n ?_
          refine th_n ?_
          refine xc_region ?_
          refine xr_op rfl rfl (xv_move rfl ?_)
          refine xr_op rfl rfl (xv_add rfl rfl (wrap_i64 (by (first|omega|(dsimp only at *;omega)|(simp at *;omega))) (by (first|omega|(dsimp only at *;omega)|(simp at *;omega)))) ?_)
          refine xr_op rfl rfl (xv_assign rfl ?_)
          refine xr_end rfl ?_
          have hsj : (spanN ((divsS s).map fun n => n.getD k 0) (j + 1)) = ⟨min (spanN ((divsS s).map fun n => n.getD k 0) j).lo xe, max (spanN ((divsS s).map fun n => n.getD k 0) j).hi xe⟩ := spanN_more (by rw [List.getElem?_map, hdmw]; show some (xw.m.getD k 0) = _; rw [List.getD_eq_getElem?_getD, hke]; rfl)
          exact rnd (j + 1) (by (first|omega|(dsimp only at *;omega)|(simp at *;omega))) (by (first|omega|(dsimp only at *;omega)|(simp at *;omega))) (le_put (le_put (le_put (le_put (le_put (le_put (le_put (le_emp _) rfl) rfl) rfl) rfl) rfl) rfl) rfl) (by rw [hsj]; (first|((repeat first|exact s_0|exact s_1|exact s_3|refine s_4 ?_|refine s_5 ?_|refine s_6 ?_|refine s_7 ?_);done)|((repeat first|exact s_0|exact s_1|exact s_3|refine s_4 ?_|refine s_5 ?_|refine s_6 ?_|refine s_8 ?_);done)))
      · refine xr_end rfl ?_
        refine th_n ?_
        refine xc_false rfl ?_
        refine xc_exit ?_
        refine th_x ?_
        refine th_x ?_
        refine bk_same ?_
        refine th_n ?_
        refine xc_region ?_
        obtain rfl : j = hds.length := by (first|omega|(dsimp only at *;omega)|(simp at *;omega))
        have hsa : (spanN ((divsS s).map fun n => n.getD k 0) hds.length) = (spanL ((divsS s).map fun n => n.getD k 0)) := spanN_all (by rw [List.length_map, hdl])
        rw [hsa]
        refine xr_op rfl rfl (xv_move rfl ?_)
        refine xr_op rfl rfl (xv_loadA ty30 rfl rfl (by ((repeat first|exact z_0|assumption|refine z_1 ?_|(refine z_l ?_;(repeat first|exact z_0|assumption|refine z_1 ?_);done)|refine z_r ?_);done)) (by ((try apply evl_some rfl);(repeat (first|exact (rfl : _ = [])|apply evl_cons rfl (by (first|exact v_1|exact v_2|exact v_3|exact v_4|exact v_5|exact v_6|exact v_7|exact v_8|exact v_9|exact rfl))|exact rfl)))) (by rfl) ?_)
        refine xr_op rfl rfl ((al_buildSlice sl35 ty30 rfl rfl rfl rfl rfl (by ((try apply evl_some rfl);(repeat (first|exact (rfl : _ = [])|apply evl_cons rfl (by (first|exact v_1|exact v_2|exact v_3|exact v_4|exact v_5|exact v_6|exact v_7|exact v_8|exact v_9|exact rfl))|exact rfl))))).xv (fun b67 hb67 => ?_))
        refine xr_op rfl rfl (xv_append (V := U) (n := ((coinsS s).take k).length) (xs := ((coinsS s).take k).flatMap eSpan) sl35 ty30 rfl rfl rfl hU (.there (.there .here)) (by ((repeat first|exact z_0|assumption|refine z_1 ?_|(refine z_l ?_;(repeat first|exact z_0|assumption|refine z_1 ?_);done)|refine z_r ?_);done)) (by ((try apply evl_some rfl);(repeat (first|exact (rfl : _ = [])|apply evl_cons rfl (by (first|exact v_1|exact v_2|exact v_3|exact v_4|exact v_5|exact v_6|exact v_7|exact v_8|exact v_9|exact rfl))|exact rfl)))) rfl rfl (by (first|omega|(dsimp only at *;omega)|(simp at *;omega))) (by rw [List.length_take]; simp only []; (first|omega|(dsimp only at *;omega)|(simp at *;omega))) (by rw [List.length_take]; (first|omega|(dsimp only at *;omega)|(simp at *;omega))) (fun U2 hU2 => ?_))
        refine xr_op rfl rfl (xv_assign rfl ?_)
        refine xr_end rfl ?_
        refine bk_n ?_
        refine th_n ?_
        refine xc_region ?_
        refine xr_op rfl rfl (xv_move rfl ?_)
        refine xr_op rfl rfl (xv_add rfl rfl (wrap_i64 (by (first|omega|(dsimp only at *;omega)|(simp at *;omega))) (by (first|omega|(dsimp only at *;omega)|(simp at *;omega)))) ?_)
        refine xr_op rfl rfl (xv_assign rfl ?_)
        refine xr_end rfl ?_
        have hck : (coinsS s)[k]? = some (spanL ((divsS s).map fun n => n.getD k 0)) := by unfold coinsS; rw [List.getElem?_map, List.getElem?_range (by (first|omega|(dsimp only at *;omega)|(simp at *;omega)))]; rfl
        have hcf : ((coinsS s).take (k + 1)).flatMap eSpan = ((coinsS s).take k).flatMap eSpan ++ eSpan (spanL ((divsS s).map fun n => n.getD k 0)) := by rw [List.take_add_one, hck, List.flatMap_append]; simp
        have hcn : ((coinsS s).take (k + 1)).length = ((coinsS s).take k).length + 1 := by rw [List.take_add_one, hck, List.length_append]; rfl
        exact rnd ((k + 1, U2) : Nat × Vec) ⟨by (first|omega|(dsimp only at *;omega)|(simp at *;omega)), by dsimp only; rw [hcn, hcf]; exact hU2⟩ (by (first|omega|(dsimp only at *;omega)|(simp at *;omega))) (le_put (le_put (le_put (le_put (le_put (le_emp _) rfl) rfl) rfl) (by dsimp only; rw [hcn]; rfl)) rfl) (by dsimp only; rw [hcf]; (first|((repeat first|exact s_0|exact s_1|exact s_3|refine s_4 ?_|refine s_5 ?_|refine s_6 ?_|refine s_7 ?_);done)|((repeat first|exact s_0|exact s_1|exact s_3|refine s_4 ?_|refine s_5 ?_|refine s_6 ?_|refine s_8 ?_);done)))
    · refine xr_end rfl ?_
      refine th_n ?_
      refine xc_false rfl ?_
      refine xc_exit ?_
      refine th_x ?_
      refine th_x ?_
      refine bk_same ?_
      refine th_n ?_
      refine xc_seq (xc_region ?_)
      obtain rfl : k = s.tars.length := by (first|omega|(dsimp only at *;omega)|(simp at *;omega))
      have hct : ((coinsS s).take s.tars.length) = coinsS s := by rw [← hcl, List.take_length]
      rw [hct] at hU
      rw [hct]
      have hed : errD s = 0 := by unfold errD; rw [if_pos he0, if_neg hdn]
      refine xr_op rfl rfl (xv_move rfl ?_)
      refine xr_op rfl rfl (xv_assign rfl ?_)
      refine xr_op rfl rfl (xv_assign rfl ?_)
      refine xr_end rfl ?_
      refine th_n ?_
      refine xc_ret ?_
      refine body_ret (h' := (U.hp 30 ((coinsS s).flatMap eSpan) ++ h)) rfl (ro_tmp rfl (ro_tmp rfl ro_nil)) (by (first|((repeat first|exact s_0|exact s_1|exact s_3|refine s_4 ?_|refine s_5 ?_|refine s_6 ?_|refine s_7 ?_);done)|((repeat first|exact s_0|exact s_1|exact s_3|refine s_4 ?_|refine s_5 ?_|refine s_6 ?_|refine s_8 ?_);done))) ?_
      first | exact H1 hed | exact H2 hed U hU

end Go.Proofs.Ytlcdbjgfeoagbaa
