/-
  Walks.
-/
import Derived.Test.YtlcdbjgfeoagbaaP8
import Derived.Test.YtlcdbjgfeoagbaaP12
import Derived.Test.YtlcdbjgfeoagbaaP1
namespace Go.Proofs.Ytlcdbjgfeoagbaa
open Go Go.H
set_option maxRecDepth 100000
set_option maxHeartbeats 8000000
set_option linter.all false
theorem tarC_c {s : Slot} {b1 b3 : Nat} {last : Int} {t : Tariff} {h : Hp} {R : Ending → Hp → Prop} (hlb : -1 ≤ last ∧ last ≤ 1048576) (H1 : tarOk s.hold s.now last t → R (.returned (.bool false)) ((b3, .cells ⟨[I t.frm]⟩ 3) :: (b1, .cells ⟨eSlot s⟩ 25) :: h)) (H2 : ¬ tarOk s.hold s.now last t → R (.returned (.bool true)) ((b3, .cells ⟨[I t.frm]⟩ 3) :: (b1, .cells ⟨eSlot s⟩ 25) :: h)) :
    ACalls Try.prog 62 ⟨[.agg ⟨eTariff t⟩, .pointer (some ⟨b3, 0, none⟩), .pointer (some ⟨b1, 0, none⟩)]⟩ ((b3, .cells ⟨[I last]⟩ 3) :: (b1, .cells ⟨eSlot s⟩ 25) :: h) R := by
  refine calls_of_xc (N := 25) Try.func62 rfl (by rfl) ?_
  refine xc_seq (xc_region ?_)
  refine xr_op rfl rfl (xv_box rfl (fun bx hbx => ?_))
  refine xr_op rfl rfl (xv_assign rfl ?_)
  refine xr_end rfl ?_
  refine th_n ?_
  refine xc_seq (xc_region ?_)
  refine xr_op rfl rfl (xv_faddr fl54_0 rfl ?_)
  refine xr_op rfl rfl (xv_load1 ty3 rfl rfl (by ((repeat first|exact z_0|assumption|refine z_1 ?_|(refine z_l ?_;(repeat first|exact z_0|assumption|refine z_1 ?_);done)|refine z_r ?_);done)) (by rfl) ?_)
  refine xr_op rfl rfl (xv_load1 ty3 rfl rfl (by ((repeat first|exact z_0|assumption|refine z_1 ?_|(refine z_l ?_;(repeat first|exact z_0|assumption|refine z_1 ?_);done)|refine z_r ?_);done)) (by rfl) ?_)
  refine xr_op rfl rfl (xv_add rfl rfl (wrap_i64 (by (first|omega|(dsimp only at *;omega)|(simp at *;omega))) (by (first|omega|(dsimp only at *;omega)|(simp at *;omega)))) ?_)
  refine xr_op rfl rfl (xv_faddr fl25_3 rfl ?_)
  refine xr_op rfl rfl (xv_load1 ty3 rfl rfl (by ((repeat first|exact z_0|assumption|refine z_1 ?_|(refine z_l ?_;(repeat first|exact z_0|assumption|refine z_1 ?_);done)|refine z_r ?_);done)) (by rfl) ?_)
  refine xr_op rfl rfl (xv_calls rfl hb33 (within_c _ _ _ (fun hl1 hu2 => up_ret ?_) (fun hn3 => up_ret ?_)))
  · refine xr_op rfl rfl (xv_not rfl ?_)
    refine xr_op rfl rfl (xv_move rfl ?_)
    refine xr_gd rfl rfl rfl (xv_faddr fl54_1 rfl ?_)
    refine xr_gd rfl rfl rfl (xv_load1 ty3 rfl rfl (by ((repeat first|exact z_0|assumption|refine z_1 ?_|(refine z_l ?_;(repeat first|exact z_0|assumption|refine z_1 ?_);done)|refine z_r ?_);done)) (by rfl) ?_)
    refine xr_gd rfl rfl rfl (xv_faddr fl25_1 rfl ?_)
    refine xr_gd rfl rfl rfl (xv_load1 ty3 rfl rfl (by ((repeat first|exact z_0|assumption|refine z_1 ?_|(refine z_l ?_;(repeat first|exact z_0|assumption|refine z_1 ?_);done)|refine z_r ?_);done)) (by rfl) ?_)
    refine xr_gd rfl rfl rfl (xv_calls rfl hb33 (within_c _ _ _ (fun hl4 hu5 => up_ret ?_) (fun hn6 => up_ret ?_)))
    · refine xr_gd rfl rfl rfl (xv_not rfl ?_)
      refine xr_op rfl rfl (xv_pick rfl rfl ?_)
      refine xr_op rfl rfl (xv_assign rfl ?_)
      refine xr_end rfl ?_
      refine th_n ?_
      refine xc_seq (xc_region ?_)
      refine xr_op rfl rfl (xv_faddr fl54_0 rfl ?_)
      refine xr_op rfl rfl (xv_load1 ty3 rfl rfl (by ((repeat first|exact z_0|assumption|refine z_1 ?_|(refine z_l ?_;(repeat first|exact z_0|assumption|refine z_1 ?_);done)|refine z_r ?_);done)) (by rfl) ?_)
      refine xr_op rfl rfl (xv_s1 ty3 rfl rfl rfl (by (first|(apply u_3;(repeat first|exact u_0|assumption|apply u_1|apply u_2);done)|((repeat first|exact u_0|assumption|apply u_1|apply u_2);done)|(apply u_3;apply u_3;(repeat first|exact u_0|assumption|apply u_1|apply u_2);done)|((repeat first|exact u_0|assumption|apply u_3|apply u_1);done))) (by (first | rfl | exact Vec.one _ _)) (by (first | decide | exact Nat.le_of_ble_eq_true rfl | (simp only [List.length_cons, List.length_nil]; omega) | (simp; done))) (by ((try apply evl_some rfl);(repeat (first|exact (rfl : _ = [])|apply evl_cons rfl (by (first|exact v_1|exact v_2|exact v_3|exact v_4|exact v_5|exact v_6|exact v_7|exact v_8|exact v_9|exact rfl))|exact rfl)))) ?_)
      refine xr_end rfl ?_
      refine th_n ?_
      refine xc_seq (xc_region ?_)
      refine xr_op rfl rfl (xv_move rfl ?_)
      refine xr_op rfl rfl (xv_assign rfl ?_)
      refine xr_end rfl ?_
      refine th_n ?_
      refine xc_ret ?_
      refine body_ret (h' := ((b3, .cells ⟨[I t.frm]⟩ 3) :: (b1, .cells ⟨eSlot s⟩ 25) :: h)) rfl (ro_tmp rfl ro_nil) (by (first|((repeat first|exact s_0|exact s_1|exact s_3|refine s_4 ?_|refine s_5 ?_|refine s_6 ?_|refine s_7 ?_);done)|((repeat first|exact s_0|exact s_1|exact s_3|refine s_4 ?_|refine s_5 ?_|refine s_6 ?_|refine s_8 ?_);done))) ?_
      first | exact H1 (by unfold tarOk; (first|omega|(dsimp only at *;omega)|(simp at *;omega))) | exact H2 (by unfold tarOk; (first|omega|(dsimp only at *;omega)|(simp at *;omega)))
    · refine xr_gd rfl rfl rfl (xv_not rfl ?_)
      refine xr_op rfl rfl (xv_pick rfl rfl ?_)
      refine xr_op rfl rfl (xv_assign rfl ?_)
      refine xr_end rfl ?_
      refine th_n ?_
      refine xc_seq (xc_region ?_)
      refine xr_op rfl rfl (xv_faddr fl54_0 rfl ?_)
      refine xr_op rfl rfl (xv_load1 ty3 rfl rfl (by ((repeat first|exact z_0|assumption|refine z_1 ?_|(refine z_l ?_;(repeat first|exact z_0|assumption|refine z_1 ?_);done)|refine z_r ?_);done)) (by rfl) ?_)
      refine xr_op rfl rfl (xv_s1 ty3 rfl rfl rfl (by (first|(apply u_3;(repeat first|exact u_0|assumption|apply u_1|apply u_2);done)|((repeat first|exact u_0|assumption|apply u_1|apply u_2);done)|(apply u_3;apply u_3;(repeat first|exact u_0|assumption|apply u_1|apply u_2);done)|((repeat first|exact u_0|assumption|apply u_3|apply u_1);done))) (by (first | rfl | exact Vec.one _ _)) (by (first | decide | exact Nat.le_of_ble_eq_true rfl | (simp only [List.length_cons, List.length_nil]; omega) | (simp; done))) (by ((try apply evl_some rfl);(repeat (first|exact (rfl : _ = [])|apply evl_cons rfl (by (first|exact v_1|exact v_2|exact v_3|exact v_4|exact v_5|exact v_6|exact v_7|exact v_8|exact v_9|exact rfl))|exact rfl)))) ?_)
      refine xr_end rfl ?_
      refine th_n ?_
      refine xc_seq (xc_region ?_)
      refine xr_op rfl rfl (xv_move rfl ?_)
      refine xr_op rfl rfl (xv_assign rfl ?_)
      refine xr_end rfl ?_
      refine th_n ?_
      refine xc_ret ?_
      refine body_ret (h' := ((b3, .cells ⟨[I t.frm]⟩ 3) :: (b1, .cells ⟨eSlot s⟩ 25) :: h)) rfl (ro_tmp rfl ro_nil) (by (first|((repeat first|exact s_0|exact s_1|exact s_3|refine s_4 ?_|refine s_5 ?_|refine s_6 ?_|refine s_7 ?_);done)|((repeat first|exact s_0|exact s_1|exact s_3|refine s_4 ?_|refine s_5 ?_|refine s_6 ?_|refine s_8 ?_);done))) ?_
      first | exact H1 (by unfold tarOk; (first|omega|(dsimp only at *;omega)|(simp at *;omega))) | exact H2 (by unfold tarOk; (first|omega|(dsimp only at *;omega)|(simp at *;omega)))
  · refine xr_op rfl rfl (xv_not rfl ?_)
    refine xr_op rfl rfl (xv_move rfl ?_)
    refine xr_no rfl rfl rfl rfl ?_
    refine xr_no rfl rfl rfl rfl ?_
    refine xr_no rfl rfl rfl rfl ?_
    refine xr_no rfl rfl rfl rfl ?_
    refine xr_no rfl rfl rfl rfl ?_
    refine xr_no rfl rfl rfl rfl ?_
    refine xr_op rfl rfl (xv_pick rfl rfl ?_)
    refine xr_op rfl rfl (xv_assign rfl ?_)
    refine xr_end rfl ?_
    refine th_n ?_
    refine xc_seq (xc_region ?_)
    refine xr_op rfl rfl (xv_faddr fl54_0 rfl ?_)
    refine xr_op rfl rfl (xv_load1 ty3 rfl rfl (by ((repeat first|exact z_0|assumption|refine z_1 ?_|(refine z_l ?_;(repeat first|exact z_0|assumption|refine z_1 ?_);done)|refine z_r ?_);done)) (by rfl) ?_)
    refine xr_op rfl rfl (xv_s1 ty3 rfl rfl rfl (by (first|(apply u_3;(repeat first|exact u_0|assumption|apply u_1|apply u_2);done)|((repeat first|exact u_0|assumption|apply u_1|apply u_2);done)|(apply u_3;apply u_3;(repeat first|exact u_0|assumption|apply u_1|apply u_2);done)|((repeat first|exact u_0|assumption|apply u_3|apply u_1);done))) (by (first | rfl | exact Vec.one _ _)) (by (first | decide | exact Nat.le_of_ble_eq_true rfl | (simp only [List.length_cons, List.length_nil]; omega) | (simp; done))) (by ((try apply evl_some rfl);(repeat (first|exact (rfl : _ = [])|apply evl_cons rfl (by (first|exact v_1|exact v_2|exact v_3|exact v_4|exact v_5|exact v_6|exact v_7|exact v_8|exact v_9|exact rfl))|exact rfl)))) ?_)
    refine xr_end rfl ?_
    refine th_n ?_
    refine xc_seq (xc_region ?_)
    refine xr_op rfl rfl (xv_move rfl ?_)
    refine xr_op rfl rfl (xv_assign rfl ?_)
    refine xr_end rfl ?_
    refine th_n ?_
    refine xc_ret ?_
    refine body_ret (h' := ((b3, .cells ⟨[I t.frm]⟩ 3) :: (b1, .cells ⟨eSlot s⟩ 25) :: h)) rfl (ro_tmp rfl ro_nil) (by (first|((repeat first|exact s_0|exact s_1|exact s_3|refine s_4 ?_|refine s_5 ?_|refine s_6 ?_|refine s_7 ?_);done)|((repeat first|exact s_0|exact s_1|exact s_3|refine s_4 ?_|refine s_5 ?_|refine s_6 ?_|refine s_8 ?_);done))) ?_
    first | exact H1 (by unfold tarOk; (first|omega|(dsimp only at *;omega)|(simp at *;omega))) | exact H2 (by unfold tarOk; (first|omega|(dsimp only at *;omega)|(simp at *;omega)))

theorem tarsC_c {s : Slot} {b1 b3 : Nat} {h : Hp} {R : Ending → Hp → Prop} (hs : SlotV h s) (hsm : Small s) (hnw : 0 ≤ s.now ∧ s.now ≤ 1048576) (H1 : tarsOk s.hold s.now (-1) s.tars → R (.returned (I (-1))) ((b1, .cells ⟨eSlot s⟩ 25) :: h)) (H2 : ¬ tarsOk s.hold s.now (-1) s.tars → ∀ k : Nat, R (.returned (I (k : Int))) ((b1, .cells ⟨eSlot s⟩ 25) :: h)) :
    ACalls Try.prog 83 ⟨[.slice s.ta s.tars.length s.tc, .func (.func 62) ⟨[]⟩ ⟨[.pointer (some ⟨b3, 0, none⟩), .pointer (some ⟨b1, 0, none⟩)]⟩]⟩ ((b3, .cells ⟨[I (-1)]⟩ 3) :: (b1, .cells ⟨eSlot s⟩ 25) :: h) R := by
  refine calls_of_xc (N := 19) Try.func83 rfl (by rfl) ?_
  obtain ⟨hsl9, hsk⟩ := id hsm
  refine xc_seq (xc_region ?_)
  refine xr_op rfl rfl (xv_assign rfl ?_)
  refine xr_end rfl ?_
  refine th_n ?_
  refine xc_seq ?_
  refine xc_seq (xc_region ?_)
  refine xr_op rfl rfl (xv_move rfl ?_)
  refine xr_op rfl rfl (xv_len sl22 rfl ?_)
  refine xr_op rfl rfl (xv_move rfl ?_)
  refine xr_end rfl ?_
  refine th_n ?_
  refine xc_block ?_
  refine xc_loop (σ := Nat) (fun k => k ≤ s.tars.length ∧ tarsOk s.hold s.now (-1) (s.tars.take k)) (fun k => ((((emp.put (some 0) (.slice s.ta s.tars.length s.tc)).put (some 1) (.func (.func 62) ⟨[]⟩ ⟨[.pointer (some ⟨b3, 0, none⟩), .pointer (some ⟨b1, 0, none⟩)]⟩)).put (some 7) (I s.tars.length)).put (some 8) (I k))) (fun k => ((b3, .cells ⟨[I (lastF (-1) (s.tars.take k))]⟩ 3) :: (b1, .cells ⟨eSlot s⟩ 25) :: h)) (fun k => s.tars.length - k) 0 ⟨Nat.zero_le _, trivial⟩ (le_put (le_put (le_put (le_put (le_emp _) rfl) rfl) rfl) rfl) (by (first|((repeat first|exact s_0|exact s_1|exact s_3|refine s_4 ?_|refine s_5 ?_|refine s_6 ?_|refine s_7 ?_);done)|((repeat first|exact s_0|exact s_1|exact s_3|refine s_4 ?_|refine s_5 ?_|refine s_6 ?_|refine s_8 ?_);done))) ?_
  rintro k ⟨hk, htk⟩
  have hlb := lastF_bd hnw (by omega) htk
  refine xc_seq (xc_region ?_)
  refine xr_op rfl rfl (xv_lss2 rfl rfl (fun q1 => ?_) (fun q1 => ?_))
  · refine xr_end rfl ?_
    refine th_n ?_
    refine xc_seq ?_
    refine xc_true rfl ?_
    refine xc_skip ?_
    refine th_n ?_
    refine xc_seq ?_
    refine xc_block ?_
    refine xc_seq (xc_region ?_)
    refine xr_op rfl rfl (xv_move rfl ?_)
    refine xr_op rfl rfl (xv_assign rfl ?_)
    refine xr_end rfl ?_
    refine th_n ?_
    refine xc_seq (xc_region ?_)
    refine xr_op rfl rfl (xv_move rfl ?_)
    refine xr_op rfl rfl (xv_move rfl ?_)
    refine xr_op rfl rfl (xv_move rfl ?_)
    have hlto : k < s.tars.length := by (first|omega|(dsimp only at *;omega)|(simp at *;omega))
    obtain ⟨bo, oo, lo, to, fzo, hao, hmo, hxo⟩ := (hs.tars).at hlto
    obtain ⟨xo, hko⟩ : ∃ qq_, s.tars[k]? = some qq_ := ⟨_, List.getElem?_eq_getElem hlto⟩
    refine xr_op rfl rfl (xv_ia (sz := 2) (j := k) sl22 ty54 rfl (by rw [hao]; rfl) rfl (by (first | assumption | with_reducible exact Int.toNat_natCast _ | with_reducible rfl | rfl)) (by (first|omega|(dsimp only at *;omega)|(simp at *;omega))) (by (first|omega|(dsimp only at *;omega)|(simp at *;omega))) ?_)
    refine xr_op rfl rfl (xv_loadA ty54 rfl rfl (by ((repeat first|exact z_0|assumption|refine z_1 ?_|(refine z_l ?_;(repeat first|exact z_0|assumption|refine z_1 ?_);done)|refine z_r ?_);done)) (hxo (k) xo hko) rfl ?_)
    refine xr_op rfl rfl (xv_fn rfl rfl (afn_func hb62 (tarC_c (h := h) hlb (fun hto => up_ret ?_) (fun hto => up_ret ?_))))
    · refine xr_end rfl ?_
      refine th_n ?_
      refine xc_false rfl ?_
      refine xc_skip ?_
      refine bk_n ?_
      refine th_n ?_
      refine xc_region ?_
      refine xr_op rfl rfl (xv_add rfl rfl (wrap_i64 (by (first|omega|(dsimp only at *;omega)|(simp at *;omega))) (by (first|omega|(dsimp only at *;omega)|(simp at *;omega)))) ?_)
      refine xr_op rfl rfl (xv_move rfl ?_)
      refine xr_end rfl ?_
      exact rnd (k + 1) ⟨by (first|omega|(dsimp only at *;omega)|(simp at *;omega)), tarsOk_more htk hko hto⟩ (by (first|omega|(dsimp only at *;omega)|(simp at *;omega))) (le_put (le_put (le_put (le_put (le_emp _) rfl) rfl) rfl) rfl) (by rw [show lastF (-1) (s.tars.take (k + 1)) = xo.frm from lastF_p (Nat.succ_pos _) hko]; (first|((repeat first|exact s_0|exact s_1|exact s_3|refine s_4 ?_|refine s_5 ?_|refine s_6 ?_|refine s_7 ?_);done)|((repeat first|exact s_0|exact s_1|exact s_3|refine s_4 ?_|refine s_5 ?_|refine s_6 ?_|refine s_8 ?_);done)))
    · refine xr_end rfl ?_
      refine th_n ?_
      refine xc_true rfl ?_
      refine xc_seq (xc_region ?_)
      refine xr_op rfl rfl (xv_move rfl ?_)
      refine xr_op rfl rfl (xv_assign rfl ?_)
      refine xr_end rfl ?_
      refine th_n ?_
      refine xc_ret ?_
      refine bk_r ?_
      refine th_r ?_
      refine th_r ?_
      refine bk_r ?_
      refine th_r ?_
      refine body_ret (h' := ((b1, .cells ⟨eSlot s⟩ 25) :: h)) rfl (ro_tmp rfl ro_nil) (by (first|((repeat first|exact s_0|exact s_1|exact s_3|refine s_4 ?_|refine s_5 ?_|refine s_6 ?_|refine s_7 ?_);done)|((repeat first|exact s_0|exact s_1|exact s_3|refine s_4 ?_|refine s_5 ?_|refine s_6 ?_|refine s_8 ?_);done))) ?_
      first | exact H1 htk | exact H2 (fun q9 => hto (tarsOk_at q9 hko)) k
  · refine xr_end rfl ?_
    refine th_n ?_
    refine xc_seq ?_
    refine xc_false rfl ?_
    refine xc_exit ?_
    refine th_x ?_
    refine th_x ?_
    refine bk_same ?_
    refine th_n ?_
    refine xc_seq (xc_region ?_)
    obtain rfl : s.tars.length = k := by (first|omega|(dsimp only at *;omega)|(simp at *;omega))
    rw [List.take_length] at htk
    refine xr_op rfl rfl (xv_assign rfl ?_)
    refine xr_end rfl ?_
    refine th_n ?_
    refine xc_ret ?_
    refine body_ret (h' := ((b1, .cells ⟨eSlot s⟩ 25) :: h)) rfl (ro_tmp rfl ro_nil) (by (first|((repeat first|exact s_0|exact s_1|exact s_3|refine s_4 ?_|refine s_5 ?_|refine s_6 ?_|refine s_7 ?_);done)|((repeat first|exact s_0|exact s_1|exact s_3|refine s_4 ?_|refine s_5 ?_|refine s_6 ?_|refine s_8 ?_);done))) ?_
    first | exact H1 htk | exact H2 (fun q9 => hto (tarsOk_at q9 hko)) k

theorem anyTar_c {s : Slot} {b1 b3 : Nat} {h : Hp} {R : Ending → Hp → Prop} (hs : SlotV h s) (hsm : Small s) (hnw : 0 ≤ s.now ∧ s.now ≤ 1048576) (H1 : tarsOk s.hold s.now (-1) s.tars → R (.returned (.bool false)) ((b1, .cells ⟨eSlot s⟩ 25) :: h)) (H2 : ¬ tarsOk s.hold s.now (-1) s.tars → R (.returned (.bool true)) ((b1, .cells ⟨eSlot s⟩ 25) :: h)) :
    ACalls Try.prog 64 ⟨[.slice s.ta s.tars.length s.tc, .func (.func 62) ⟨[]⟩ ⟨[.pointer (some ⟨b3, 0, none⟩), .pointer (some ⟨b1, 0, none⟩)]⟩]⟩ ((b3, .cells ⟨[I (-1)]⟩ 3) :: (b1, .cells ⟨eSlot s⟩ 25) :: h) R := by
  refine calls_of_xc (N := 9) Try.func64 rfl (by rfl) ?_
  refine xc_seq (xc_region ?_)
  refine xr_op rfl rfl (xv_assign rfl ?_)
  refine xr_end rfl ?_
  refine th_n ?_
  refine xc_seq (xc_region ?_)
  refine xr_op rfl rfl (xv_move rfl ?_)
  refine xr_op rfl rfl (xv_move rfl ?_)
  refine xr_op rfl rfl (xv_calls rfl hb83 (tarsC_c hs hsm hnw (fun hto => up_ret ?_) (fun hto k9 => up_ret ?_)))
  · refine xr_op rfl rfl (xv_cmpK (c := false) rfl rfl (by simp [cmpB]) ?_)
    refine xr_op rfl rfl (xv_assign rfl ?_)
    refine xr_end rfl ?_
    refine th_n ?_
    refine xc_ret ?_
    refine body_ret (h' := ((b1, .cells ⟨eSlot s⟩ 25) :: h)) rfl (ro_tmp rfl ro_nil) (by (first|((repeat first|exact s_0|exact s_1|exact s_3|refine s_4 ?_|refine s_5 ?_|refine s_6 ?_|refine s_7 ?_);done)|((repeat first|exact s_0|exact s_1|exact s_3|refine s_4 ?_|refine s_5 ?_|refine s_6 ?_|refine s_8 ?_);done))) ?_
    first | exact H1 hto | exact H2 hto
  · refine xr_op rfl rfl (xv_cmpK (c := true) rfl rfl (cmpT (show (0 : Int) ≤ (k9 : Int) by omega)) ?_)
    refine xr_op rfl rfl (xv_assign rfl ?_)
    refine xr_end rfl ?_
    refine th_n ?_
    refine xc_ret ?_
    refine body_ret (h' := ((b1, .cells ⟨eSlot s⟩ 25) :: h)) rfl (ro_tmp rfl ro_nil) (by (first|((repeat first|exact s_0|exact s_1|exact s_3|refine s_4 ?_|refine s_5 ?_|refine s_6 ?_|refine s_7 ?_);done)|((repeat first|exact s_0|exact s_1|exact s_3|refine s_4 ?_|refine s_5 ?_|refine s_6 ?_|refine s_8 ?_);done))) ?_
    first | exact H1 hto | exact H2 hto

theorem markC_c {s : Slot} {b1 : Nat} {m : Mark} {h : Hp} {R : Ending → Hp → Prop} (hb : (b1, .cells ⟨eSlot s⟩ 25 (0, 0)) ∈ h) (H : R (.returned (.bool (decide (¬ markOk s.now m)))) h) : ACalls Try.prog 63 ⟨[.agg ⟨eMark m⟩, .pointer (some ⟨b1, 0, none⟩)]⟩ h R := by
  refine calls_of_xc (N := 16) Try.func63 rfl (by rfl) ?_
  refine xc_seq (xc_region ?_)
  refine xr_op rfl rfl (xv_box rfl (fun bx hbx => ?_))
  refine xr_op rfl rfl (xv_assign rfl ?_)
  refine xr_end rfl ?_
  refine th_n ?_
  refine xc_seq (xc_region ?_)
  refine xr_op rfl rfl (xv_faddr fl42_0 rfl ?_)
  refine xr_op rfl rfl (xv_load1 ty3 rfl rfl (by ((repeat first|exact z_0|assumption|refine z_1 ?_|(refine z_l ?_;(repeat first|exact z_0|assumption|refine z_1 ?_);done)|refine z_r ?_);done)) (by rfl) ?_)
  refine xr_op rfl rfl (xv_faddr fl25_3 rfl ?_)
  refine xr_op rfl rfl (xv_load1 ty3 rfl rfl (by ((repeat first|exact z_0|assumption|refine z_1 ?_|(refine z_l ?_;(repeat first|exact z_0|assumption|refine z_1 ?_);done)|refine z_r ?_);done)) (by rfl) ?_)
  refine xr_op rfl rfl (xv_calls rfl hb33 (within_c _ _ _ (fun hl1 hu2 => up_ret ?_) (fun hn3 => up_ret ?_)))
  · refine xr_op rfl rfl (xv_not rfl ?_)
    refine xr_op rfl rfl (xv_move rfl ?_)
    refine xr_gd rfl rfl rfl (xv_faddr fl42_1 rfl ?_)
    refine xr_gd rfl rfl rfl (xv_load1 ty3 rfl rfl (by ((repeat first|exact z_0|assumption|refine z_1 ?_|(refine z_l ?_;(repeat first|exact z_0|assumption|refine z_1 ?_);done)|refine z_r ?_);done)) (by rfl) ?_)
    refine xr_gd rfl rfl rfl (xv_calls rfl hb33 (within_c _ _ _ (fun hl4 hu5 => up_ret ?_) (fun hn6 => up_ret ?_)))
    · refine xr_gd rfl rfl rfl (xv_not rfl ?_)
      refine xr_op rfl rfl (xv_pick rfl rfl ?_)
      refine xr_op rfl rfl (xv_assign rfl ?_)
      refine xr_end rfl ?_
      refine th_n ?_
      refine xc_ret ?_
      refine body_ret (h' := h) rfl (ro_tmp rfl ro_nil) (by (first|((repeat first|exact s_0|exact s_1|exact s_3|refine s_4 ?_|refine s_5 ?_|refine s_6 ?_|refine s_7 ?_);done)|((repeat first|exact s_0|exact s_1|exact s_3|refine s_4 ?_|refine s_5 ?_|refine s_6 ?_|refine s_8 ?_);done))) ?_
      first | (rw [decide_eq_true (show ¬ markOk s.now m by unfold markOk; (first|omega|(dsimp only at *;omega)|(simp at *;omega)))] at H; exact H) | (rw [decide_eq_false (show ¬ ¬ markOk s.now m by unfold markOk; (first|omega|(dsimp only at *;omega)|(simp at *;omega)))] at H; exact H)
    · refine xr_gd rfl rfl rfl (xv_not rfl ?_)
      refine xr_op rfl rfl (xv_pick rfl rfl ?_)
      refine xr_op rfl rfl (xv_assign rfl ?_)
      refine xr_end rfl ?_
      refine th_n ?_
      refine xc_ret ?_
      refine body_ret (h' := h) rfl (ro_tmp rfl ro_nil) (by (first|((repeat first|exact s_0|exact s_1|exact s_3|refine s_4 ?_|refine s_5 ?_|refine s_6 ?_|refine s_7 ?_);done)|((repeat first|exact s_0|exact s_1|exact s_3|refine s_4 ?_|refine s_5 ?_|refine s_6 ?_|refine s_8 ?_);done))) ?_
      first | (rw [decide_eq_true (show ¬ markOk s.now m by unfold markOk; (first|omega|(dsimp only at *;omega)|(simp at *;omega)))] at H; exact H) | (rw [decide_eq_false (show ¬ ¬ markOk s.now m by unfold markOk; (first|omega|(dsimp only at *;omega)|(simp at *;omega)))] at H; exact H)
  · refine xr_op rfl rfl (xv_not rfl ?_)
    refine xr_op rfl rfl (xv_move rfl ?_)
    refine xr_no rfl rfl rfl rfl ?_
    refine xr_no rfl rfl rfl rfl ?_
    refine xr_no rfl rfl rfl rfl ?_
    refine xr_no rfl rfl rfl rfl ?_
    refine xr_op rfl rfl (xv_pick rfl rfl ?_)
    refine xr_op rfl rfl (xv_assign rfl ?_)
    refine xr_end rfl ?_
    refine th_n ?_
    refine xc_ret ?_
    refine body_ret (h' := h) rfl (ro_tmp rfl ro_nil) (by (first|((repeat first|exact s_0|exact s_1|exact s_3|refine s_4 ?_|refine s_5 ?_|refine s_6 ?_|refine s_7 ?_);done)|((repeat first|exact s_0|exact s_1|exact s_3|refine s_4 ?_|refine s_5 ?_|refine s_6 ?_|refine s_8 ?_);done))) ?_
    first | (rw [decide_eq_true (show ¬ markOk s.now m by unfold markOk; (first|omega|(dsimp only at *;omega)|(simp at *;omega)))] at H; exact H) | (rw [decide_eq_false (show ¬ ¬ markOk s.now m by unfold markOk; (first|omega|(dsimp only at *;omega)|(simp at *;omega)))] at H; exact H)

theorem indexM_c {a : Option Addr} {c : Nat} {xs : List Mark} {f : Value} {p : Mark → Bool} {h : Hp} {R : Ending → Hp → Prop} (hs : SlV h 2 eMark a xs) (hlen : xs.length ≤ 4611686018427387904)
    (hf : ∀ x ∈ xs, ∀ R', R' (.returned (.bool (p x))) h → AFn Try.prog f [.agg ⟨eMark x⟩] h R')
    (H1 : ∀ (k : Nat) (x : Mark), xs[k]? = some x → p x = true → R (.returned (I k)) h) (H2 : (∀ (k : Nat) (x : Mark), xs[k]? = some x → p x = false) → R (.returned (I (-1))) h) :
    ACalls Try.prog 84 ⟨[.slice a xs.length c, f]⟩ h R := by
  refine calls_of_xc (N := 19) Try.func84 rfl (by rfl) ?_
  refine xc_seq (xc_region ?_)
  refine xr_op rfl rfl (xv_assign rfl ?_)
  refine xr_end rfl ?_
  refine th_n ?_
  refine xc_seq ?_
  refine xc_seq (xc_region ?_)
  refine xr_op rfl rfl (xv_move rfl ?_)
  refine xr_op rfl rfl (xv_len sl23 rfl ?_)
  refine xr_op rfl rfl (xv_move rfl ?_)
  refine xr_end rfl ?_
  refine th_n ?_
  refine xc_block ?_
  refine xc_loop (σ := Nat) (fun k => k ≤ xs.length ∧ ∀ j x, j < k → xs[j]? = some x → p x = false) (fun k => ((((emp.put (some 0) (.slice a xs.length c)).put (some 1) (f)).put (some 7) (I xs.length)).put (some 8) (I k))) (fun k => h) (fun k => xs.length - k) 0 ⟨Nat.zero_le _, fun _ _ h0 => absurd h0 (Nat.not_lt_zero _)⟩ (le_put (le_put (le_put (le_put (le_emp _) rfl) rfl) rfl) rfl) (by (first|((repeat first|exact s_0|exact s_1|exact s_3|refine s_4 ?_|refine s_5 ?_|refine s_6 ?_|refine s_7 ?_);done)|((repeat first|exact s_0|exact s_1|exact s_3|refine s_4 ?_|refine s_5 ?_|refine s_6 ?_|refine s_8 ?_);done))) ?_
  rintro k ⟨hk, hall⟩
  refine xc_seq (xc_region ?_)
  refine xr_op rfl rfl (xv_lss2 rfl rfl (fun q1 => ?_) (fun q1 => ?_))
  · refine xr_end rfl ?_
    refine th_n ?_
    refine xc_seq ?_
    refine xc_true rfl ?_
    refine xc_skip ?_
    refine th_n ?_
    refine xc_seq ?_
    refine xc_block ?_
    refine xc_seq (xc_region ?_)
    refine xr_op rfl rfl (xv_move rfl ?_)
    refine xr_op rfl rfl (xv_assign rfl ?_)
    refine xr_end rfl ?_
    refine th_n ?_
    refine xc_seq (xc_region ?_)
    refine xr_op rfl rfl (xv_move rfl ?_)
    refine xr_op rfl rfl (xv_move rfl ?_)
    refine xr_op rfl rfl (xv_move rfl ?_)
    have hlt : k < xs.length := by omega
    obtain ⟨b, o, l, t, fz, rfl, hm, hx⟩ := hs.at hlt
    obtain ⟨x, hkx⟩ : ∃ x, xs[k]? = some x := ⟨_, List.getElem?_eq_getElem hlt⟩
    refine xr_op rfl rfl (xv_ia (sz := 2) sl23 ty42 rfl rfl rfl (by (first | assumption | with_reducible exact Int.toNat_natCast _ | with_reducible rfl | rfl)) (by (first|omega|(dsimp only at *;omega)|(simp at *;omega))) (by (first|omega|(dsimp only at *;omega)|(simp at *;omega))) ?_)
    refine xr_op rfl rfl (xv_loadA ty42 rfl rfl hm (hx k x hkx) rfl ?_)
    refine xr_op rfl rfl (xv_fn rfl rfl (hf x (List.mem_of_getElem? hkx) _ (up_ret ?_)))
    refine xr_end rfl ?_
    refine th_n ?_
    refine xc_bool rfl (fun q2 => ?_) (fun q2 => ?_)
    · refine xc_seq (xc_region ?_)
      refine xr_op rfl rfl (xv_move rfl ?_)
      refine xr_op rfl rfl (xv_assign rfl ?_)
      refine xr_end rfl ?_
      refine th_n ?_
      refine xc_ret ?_
      refine bk_r ?_
      refine th_r ?_
      refine th_r ?_
      refine bk_r ?_
      refine th_r ?_
      refine body_ret (h' := h) rfl (ro_tmp rfl ro_nil) (by (first|((repeat first|exact s_0|exact s_1|exact s_3|refine s_4 ?_|refine s_5 ?_|refine s_6 ?_|refine s_7 ?_);done)|((repeat first|exact s_0|exact s_1|exact s_3|refine s_4 ?_|refine s_5 ?_|refine s_6 ?_|refine s_8 ?_);done))) ?_
      first | exact H1 k x hkx (by assumption) | exact H2 (fun j x hj => hall j x (List.getElem?_eq_some_iff.1 hj).1 hj)
    · refine xc_skip ?_
      refine bk_n ?_
      refine th_n ?_
      refine xc_region ?_
      refine xr_op rfl rfl (xv_add rfl rfl (wrap_i64 (by (first|omega|(dsimp only at *;omega)|(simp at *;omega))) (by (first|omega|(dsimp only at *;omega)|(simp at *;omega)))) ?_)
      refine xr_op rfl rfl (xv_move rfl ?_)
      refine xr_end rfl ?_
      exact rnd (k + 1) ⟨by omega, fun j y hj hy => by
        rcases Nat.lt_succ_iff_lt_or_eq.1 hj with hj | rfl
        · exact hall j y hj hy
        · rw [hkx] at hy; cases hy; assumption⟩ (by omega) (le_put (le_put (le_put (le_put (le_emp _) rfl) rfl) rfl) rfl) (by (first|((repeat first|exact s_0|exact s_1|exact s_3|refine s_4 ?_|refine s_5 ?_|refine s_6 ?_|refine s_7 ?_);done)|((repeat first|exact s_0|exact s_1|exact s_3|refine s_4 ?_|refine s_5 ?_|refine s_6 ?_|refine s_8 ?_);done)))
  · refine xr_end rfl ?_
    refine th_n ?_
    refine xc_seq ?_
    refine xc_false rfl ?_
    refine xc_exit ?_
    refine th_x ?_
    refine th_x ?_
    refine bk_same ?_
    refine th_n ?_
    refine xc_seq (xc_region ?_)
    obtain rfl : k = xs.length := by omega
    refine xr_op rfl rfl (xv_assign rfl ?_)
    refine xr_end rfl ?_
    refine th_n ?_
    refine xc_ret ?_
    refine body_ret (h' := h) rfl (ro_tmp rfl ro_nil) (by (first|((repeat first|exact s_0|exact s_1|exact s_3|refine s_4 ?_|refine s_5 ?_|refine s_6 ?_|refine s_7 ?_);done)|((repeat first|exact s_0|exact s_1|exact s_3|refine s_4 ?_|refine s_5 ?_|refine s_6 ?_|refine s_8 ?_);done))) ?_
    first | exact H1 k x hkx (by assumption) | exact H2 (fun j x hj => hall j x (List.getElem?_eq_some_iff.1 hj).1 hj)

theorem containsM_c {a : Option Addr} {c : Nat} {xs : List Mark} {f : Value} {p : Mark → Bool} {h : Hp} {R : Ending → Hp → Prop} (hs : SlV h 2 eMark a xs) (hlen : xs.length ≤ 4611686018427387904)
    (hf : ∀ x ∈ xs, ∀ R', R' (.returned (.bool (p x))) h → AFn Try.prog f [.agg ⟨eMark x⟩] h R')
    (H1 : ∀ x ∈ xs, p x = true → R (.returned (.bool true)) h) (H2 : (∀ x ∈ xs, p x = false) → R (.returned (.bool false)) h) :
    ACalls Try.prog 65 ⟨[.slice a xs.length c, f]⟩ h R := by
  refine calls_of_xc (N := 9) Try.func65 rfl (by rfl) ?_
  refine xc_seq (xc_region ?_)
  refine xr_op rfl rfl (xv_assign rfl ?_)
  refine xr_end rfl ?_
  refine th_n ?_
  refine xc_seq (xc_region ?_)
  refine xr_op rfl rfl (xv_move rfl ?_)
  refine xr_op rfl rfl (xv_move rfl ?_)
  refine xr_op rfl rfl (xv_calls rfl hb84 (indexM_c hs hlen hf (fun k x hkx hpx => up_ret ?_) (fun hno => up_ret ?_)))
  · refine xr_op rfl rfl (xv_geq2 rfl rfl (fun q1 => ?_) (fun q1 => ?_))
    · refine xr_op rfl rfl (xv_assign rfl ?_)
      refine xr_end rfl ?_
      refine th_n ?_
      refine xc_ret ?_
      refine body_ret (h' := h) rfl (ro_tmp rfl ro_nil) (by (first|((repeat first|exact s_0|exact s_1|exact s_3|refine s_4 ?_|refine s_5 ?_|refine s_6 ?_|refine s_7 ?_);done)|((repeat first|exact s_0|exact s_1|exact s_3|refine s_4 ?_|refine s_5 ?_|refine s_6 ?_|refine s_8 ?_);done))) ?_
      first | (exfalso; omega) | exact H1 x (List.mem_of_getElem? hkx) hpx | exact H2 (fun y hy => by obtain ⟨j, hj⟩ := List.getElem?_of_mem hy; exact hno j y hj)
    · refine xr_op rfl rfl (xv_assign rfl ?_)
      refine xr_end rfl ?_
      refine th_n ?_
      refine xc_ret ?_
      refine body_ret (h' := h) rfl (ro_tmp rfl ro_nil) (by (first|((repeat first|exact s_0|exact s_1|exact s_3|refine s_4 ?_|refine s_5 ?_|refine s_6 ?_|refine s_7 ?_);done)|((repeat first|exact s_0|exact s_1|exact s_3|refine s_4 ?_|refine s_5 ?_|refine s_6 ?_|refine s_8 ?_);done))) ?_
      first | (exfalso; omega) | exact H1 x (List.mem_of_getElem? hkx) hpx | exact H2 (fun y hy => by obtain ⟨j, hj⟩ := List.getElem?_of_mem hy; exact hno j y hj)
  · refine xr_op rfl rfl (xv_geq2 rfl rfl (fun q2 => ?_) (fun q2 => ?_))
    · refine xr_op rfl rfl (xv_assign rfl ?_)
      refine xr_end rfl ?_
      refine th_n ?_
      refine xc_ret ?_
      refine body_ret (h' := h) rfl (ro_tmp rfl ro_nil) (by (first|((repeat first|exact s_0|exact s_1|exact s_3|refine s_4 ?_|refine s_5 ?_|refine s_6 ?_|refine s_7 ?_);done)|((repeat first|exact s_0|exact s_1|exact s_3|refine s_4 ?_|refine s_5 ?_|refine s_6 ?_|refine s_8 ?_);done))) ?_
      first | (exfalso; omega) | exact H1 x (List.mem_of_getElem? hkx) hpx | exact H2 (fun y hy => by obtain ⟨j, hj⟩ := List.getElem?_of_mem hy; exact hno j y hj)
    · refine xr_op rfl rfl (xv_assign rfl ?_)
      refine xr_end rfl ?_
      refine th_n ?_
      refine xc_ret ?_
      refine body_ret (h' := h) rfl (ro_tmp rfl ro_nil) (by (first|((repeat first|exact s_0|exact s_1|exact s_3|refine s_4 ?_|refine s_5 ?_|refine s_6 ?_|refine s_7 ?_);done)|((repeat first|exact s_0|exact s_1|exact s_3|refine s_4 ?_|refine s_5 ?_|refine s_6 ?_|refine s_8 ?_);done))) ?_
      first | (exfalso; omega) | exact H1 x (List.mem_of_getElem? hkx) hpx | exact H2 (fun y hy => by obtain ⟨j, hj⟩ := List.getElem?_of_mem hy; exact hno j y hj)

theorem isSlot_c {s : Slot} {h : Hp} {R : Ending → Hp → Prop} (hs : SlotV h s) (hsm : Small s) (H1 : GoodSlot s → R (.returned (.bool true)) h) (H2 : ¬ GoodSlot s → R (.returned (.bool false)) h) : ACalls Try.prog 46 ⟨[.agg ⟨eSlot s⟩]⟩ h R := by
  refine calls_of_xc (N := 66) Try.func46 rfl (by rfl) ?_
  obtain ⟨hsl9, hsk⟩ := id hsm
  refine xc_seq (xc_region ?_)
  refine xr_op rfl rfl (xv_box rfl (fun b1 hb1 => ?_))
  refine xr_op rfl rfl (xv_assign rfl ?_)
  refine xr_end rfl ?_
  refine th_n ?_
  refine xc_seq (xc_region ?_)
  refine xr_op rfl rfl (xv_alloc ty3 (fun b3 hb3 => ?_))
  refine xr_op rfl rfl (xv_s1 ty3 rfl rfl rfl (by (first|(apply u_3;(repeat first|exact u_0|assumption|apply u_1|apply u_2);done)|((repeat first|exact u_0|assumption|apply u_1|apply u_2);done)|(apply u_3;apply u_3;(repeat first|exact u_0|assumption|apply u_1|apply u_2);done)|((repeat first|exact u_0|assumption|apply u_3|apply u_1);done))) (by (first | rfl | exact Vec.one _ _)) (by (first | decide | exact Nat.le_of_ble_eq_true rfl | (simp only [List.length_cons, List.length_nil]; omega) | (simp; done))) (by ((try apply evl_some rfl);(repeat (first|exact (rfl : _ = [])|apply evl_cons rfl (by (first|exact v_1|exact v_2|exact v_3|exact v_4|exact v_5|exact v_6|exact v_7|exact v_8|exact v_9|exact rfl))|exact rfl)))) ?_)
  refine xr_end rfl ?_
  refine th_n ?_
  refine xc_seq (xc_region ?_)
  refine xr_op rfl rfl (xv_func rfl rfl ?_)
  refine xr_op rfl rfl (xv_assign rfl ?_)
  refine xr_end rfl ?_
  refine th_n ?_
  refine xc_seq (xc_region ?_)
  refine xr_op rfl rfl (xv_func rfl rfl ?_)
  refine xr_op rfl rfl (xv_assign rfl ?_)
  refine xr_end rfl ?_
  refine th_n ?_
  refine xc_seq (xc_region ?_)
  refine xr_op rfl rfl (xv_faddr fl25_4 rfl ?_)
  refine xr_op rfl rfl (xv_load1 ty22 rfl rfl (by ((repeat first|exact z_0|assumption|refine z_1 ?_|(refine z_l ?_;(repeat first|exact z_0|assumption|refine z_1 ?_);done)|refine z_r ?_);done)) (by rfl) ?_)
  refine xr_op rfl rfl (xv_len sl22 rfl ?_)
  refine xr_op rfl rfl (xv_calls rfl hb33 (within_c _ _ _ (fun hl1 hu2 => up_ret ?_) (fun hn3 => up_ret ?_)))
  · refine xr_op rfl rfl (xv_move rfl ?_)
    refine xr_gd rfl rfl rfl (xv_faddr fl25_5 rfl ?_)
    refine xr_gd rfl rfl rfl (xv_load1 ty23 rfl rfl (by ((repeat first|exact z_0|assumption|refine z_1 ?_|(refine z_l ?_;(repeat first|exact z_0|assumption|refine z_1 ?_);done)|refine z_r ?_);done)) (by rfl) ?_)
    refine xr_gd rfl rfl rfl (xv_len sl23 rfl ?_)
    refine xr_gd rfl rfl rfl (xv_leq2 rfl rfl (fun q4 => ?_) (fun q4 => ?_))
    · refine xr_op rfl rfl (xv_pick rfl rfl ?_)
      refine xr_op rfl rfl (xv_assign rfl ?_)
      refine xr_end rfl ?_
      refine th_n ?_
      refine xc_seq (xc_region ?_)
      refine xr_op rfl rfl (xv_faddr fl25_1 rfl ?_)
      refine xr_op rfl rfl (xv_load1 ty3 rfl rfl (by ((repeat first|exact z_0|assumption|refine z_1 ?_|(refine z_l ?_;(repeat first|exact z_0|assumption|refine z_1 ?_);done)|refine z_r ?_);done)) (by rfl) ?_)
      refine xr_op rfl rfl (xv_calls rfl hb33 (within_c _ _ _ (fun hl5 hu6 => up_ret ?_) (fun hn7 => up_ret ?_)))
      · refine xr_op rfl rfl (xv_move rfl ?_)
        refine xr_gd rfl rfl rfl (xv_faddr fl25_0 rfl ?_)
        refine xr_gd rfl rfl rfl (xv_load1 ty3 rfl rfl (by ((repeat first|exact z_0|assumption|refine z_1 ?_|(refine z_l ?_;(repeat first|exact z_0|assumption|refine z_1 ?_);done)|refine z_r ?_);done)) (by rfl) ?_)
        refine xr_gd rfl rfl rfl (xv_faddr fl25_1 rfl ?_)
        refine xr_gd rfl rfl rfl (xv_load1 ty3 rfl rfl (by ((repeat first|exact z_0|assumption|refine z_1 ?_|(refine z_l ?_;(repeat first|exact z_0|assumption|refine z_1 ?_);done)|refine z_r ?_);done)) (by rfl) ?_)
        refine xr_gd rfl rfl rfl (xv_calls rfl hb33 (within_c _ _ _ (fun hl8 hu9 => up_ret ?_) (fun hn10 => up_ret ?_)))
        · refine xr_op rfl rfl (xv_pick rfl rfl ?_)
          refine xr_op rfl rfl (xv_move rfl ?_)
          refine xr_gd rfl rfl rfl (xv_faddr fl25_2 rfl ?_)
          refine xr_gd rfl rfl rfl (xv_load1 ty3 rfl rfl (by ((repeat first|exact z_0|assumption|refine z_1 ?_|(refine z_l ?_;(repeat first|exact z_0|assumption|refine z_1 ?_);done)|refine z_r ?_);done)) (by rfl) ?_)
          refine xr_gd rfl rfl rfl (xv_calls rfl hb33 (within_c _ _ _ (fun hl11 hu12 => up_ret ?_) (fun hn13 => up_ret ?_)))
          · refine xr_op rfl rfl (xv_pick rfl rfl ?_)
            refine xr_op rfl rfl (xv_move rfl ?_)
            refine xr_gd rfl rfl rfl (xv_faddr fl25_3 rfl ?_)
            refine xr_gd rfl rfl rfl (xv_load1 ty3 rfl rfl (by ((repeat first|exact z_0|assumption|refine z_1 ?_|(refine z_l ?_;(repeat first|exact z_0|assumption|refine z_1 ?_);done)|refine z_r ?_);done)) (by rfl) ?_)
            refine xr_gd rfl rfl rfl (xv_calls rfl hb33 (within_c _ _ _ (fun hl14 hu15 => up_ret ?_) (fun hn16 => up_ret ?_)))
            · refine xr_op rfl rfl (xv_pick rfl rfl ?_)
              refine xr_op rfl rfl (xv_assign rfl ?_)
              refine xr_end rfl ?_
              refine th_n ?_
              refine xc_seq (xc_region ?_)
              refine xr_op rfl rfl (xv_move rfl ?_)
              refine xr_op rfl rfl (xv_move rfl ?_)
              refine xr_gd rfl rfl rfl (xv_move rfl ?_)
              refine xr_op rfl rfl (xv_pick rfl rfl ?_)
              refine xr_op rfl rfl (xv_move rfl ?_)
              refine xr_gd rfl rfl rfl (xv_faddr fl25_4 rfl ?_)
              refine xr_gd rfl rfl rfl (xv_load1 ty22 rfl rfl (by ((repeat first|exact z_0|assumption|refine z_1 ?_|(refine z_l ?_;(repeat first|exact z_0|assumption|refine z_1 ?_);done)|refine z_r ?_);done)) (by rfl) ?_)
              have hltt : 0 < s.tars.length := by (first|omega|(dsimp only at *;omega)|(simp at *;omega))
              obtain ⟨bt, ot, lt, tt, fzt, hat, hmt, hxt⟩ := (hs.tars).at hltt
              obtain ⟨xt, hkt⟩ : ∃ qq_, s.tars[0]? = some qq_ := ⟨_, List.getElem?_eq_getElem hltt⟩
              refine xr_gd rfl rfl rfl (xv_ia (sz := 2) (j := 0) sl22 ty54 rfl (by rw [hat]; rfl) rfl rfl (by (first|omega|(dsimp only at *;omega)|(simp at *;omega))) (by (first|omega|(dsimp only at *;omega)|(simp at *;omega))) ?_)
              refine xr_gd rfl rfl rfl (xv_faddr fl54_0 rfl ?_)
              refine xr_gd rfl rfl rfl (xv_load1 ty3 rfl rfl (by ((repeat first|exact z_0|assumption|refine z_1 ?_|(refine z_l ?_;(repeat first|exact z_0|assumption|refine z_1 ?_);done)|refine z_r ?_);done)) (take_get (hxt (0) xt hkt) (j := 0) rfl) ?_)
              refine xr_gd rfl rfl rfl (xv_eql2 rfl rfl (fun q17 => ?_) (fun q17 => ?_))
              · refine xr_op rfl rfl (xv_pick rfl rfl ?_)
                refine xr_op rfl rfl (xv_move rfl ?_)
                refine xr_gd rfl rfl rfl (xv_faddr fl25_4 rfl ?_)
                refine xr_gd rfl rfl rfl (xv_load1 ty22 rfl rfl (by ((repeat first|exact z_0|assumption|refine z_1 ?_|(refine z_l ?_;(repeat first|exact z_0|assumption|refine z_1 ?_);done)|refine z_r ?_);done)) (by rfl) ?_)
                refine xr_gd rfl rfl rfl (xv_move rfl ?_)
                refine xr_gd rfl rfl rfl (xv_calls rfl hb64 (anyTar_c (h := h) hs hsm (by omega) (fun hto => up_ret ?_) (fun hto => up_ret ?_)))
                · refine xr_gd rfl rfl rfl (xv_not rfl ?_)
                  refine xr_op rfl rfl (xv_pick rfl rfl ?_)
                  refine xr_op rfl rfl (xv_move rfl ?_)
                  refine xr_gd rfl rfl rfl (xv_faddr fl25_5 rfl ?_)
                  refine xr_gd rfl rfl rfl (xv_load1 ty23 rfl rfl (by ((repeat first|exact z_0|assumption|refine z_1 ?_|(refine z_l ?_;(repeat first|exact z_0|assumption|refine z_1 ?_);done)|refine z_r ?_);done)) (by rfl) ?_)
                  refine xr_gd rfl rfl rfl (xv_move rfl ?_)
                  refine xr_gd rfl rfl rfl (xv_calls rfl hb65 (containsM_c (hs.marks.sub (by intro z hz; ((repeat first|exact z_0|assumption|refine z_1 ?_|(refine z_l ?_;(repeat first|exact z_0|assumption|refine z_1 ?_);done)|refine z_r ?_);done))) (by (first|omega|(dsimp only at *;omega)|(simp at *;omega))) (p := fun m => decide (¬ markOk s.now m)) (fun x hx R' hR => afn_func hb63 (markC_c (by ((repeat first|exact z_0|assumption|refine z_1 ?_|(refine z_l ?_;(repeat first|exact z_0|assumption|refine z_1 ?_);done)|refine z_r ?_);done)) hR)) (fun x9 hx9 hmo => up_ret ?_) (fun hmo => up_ret ?_)))
                  · refine xr_gd rfl rfl rfl (xv_not rfl ?_)
                    refine xr_op rfl rfl (xv_pick rfl rfl ?_)
                    refine xr_op rfl rfl (xv_assign rfl ?_)
                    refine xr_end rfl ?_
                    refine th_n ?_
                    refine xc_ret ?_
                    refine body_ret (h' := h) rfl (ro_tmp rfl ro_nil) (by (first|((repeat first|exact s_0|exact s_1|exact s_3|refine s_4 ?_|refine s_5 ?_|refine s_6 ?_|refine s_7 ?_);done)|((repeat first|exact s_0|exact s_1|exact s_3|refine s_4 ?_|refine s_5 ?_|refine s_6 ?_|refine s_8 ?_);done))) ?_
                    first
                      | exact H1 ⟨by unfold numsOk; (first|omega|(dsimp only at *;omega)|(simp at *;omega)), by unfold sizesOk; (first|omega|(dsimp only at *;omega)|(simp at *;omega)), frm0_of hkt (by (first|omega|(dsimp only at *;omega)|(simp at *;omega))), hto, fun m hm => by have h9 := of_decide_eq_false (hmo m hm); exact Decidable.not_not.1 h9⟩
                      | exact H2 (fun ⟨q1, q2, q3, q4, q5⟩ => of_decide_eq_true hmo (q5 x9 hx9))
                      | exact H2 (fun ⟨q1, q2, q3, q4, q5⟩ => hto q4)
                      | exact H2 (fun ⟨q1, q2, q3, q4, q5⟩ => by have := frm0_at q3 hkt; (first|omega|(dsimp only at *;omega)|(simp at *;omega)))
                      | exact H2 (fun ⟨⟨⟨a1, a2⟩, ⟨a3, a4⟩, ⟨a5, a6⟩, ⟨a7, a8⟩⟩, ⟨⟨a9, b1⟩, b2⟩, _⟩ => by (first|omega|(dsimp only at *;omega)|(simp at *;omega)))
                  · refine xr_gd rfl rfl rfl (xv_not rfl ?_)
                    refine xr_op rfl rfl (xv_pick rfl rfl ?_)
                    refine xr_op rfl rfl (xv_assign rfl ?_)
                    refine xr_end rfl ?_
                    refine th_n ?_
                    refine xc_ret ?_
                    refine body_ret (h' := h) rfl (ro_tmp rfl ro_nil) (by (first|((repeat first|exact s_0|exact s_1|exact s_3|refine s_4 ?_|refine s_5 ?_|refine s_6 ?_|refine s_7 ?_);done)|((repeat first|exact s_0|exact s_1|exact s_3|refine s_4 ?_|refine s_5 ?_|refine s_6 ?_|refine s_8 ?_);done))) ?_
                    first
                      | exact H1 ⟨by unfold numsOk; (first|omega|(dsimp only at *;omega)|(simp at *;omega)), by unfold sizesOk; (first|omega|(dsimp only at *;omega)|(simp at *;omega)), frm0_of hkt (by (first|omega|(dsimp only at *;omega)|(simp at *;omega))), hto, fun m hm => by have h9 := of_decide_eq_false (hmo m hm); exact Decidable.not_not.1 h9⟩
                      | exact H2 (fun ⟨q1, q2, q3, q4, q5⟩ => of_decide_eq_true hmo (q5 x9 hx9))
                      | exact H2 (fun ⟨q1, q2, q3, q4, q5⟩ => hto q4)
                      | exact H2 (fun ⟨q1, q2, q3, q4, q5⟩ => by have := frm0_at q3 hkt; (first|omega|(dsimp only at *;omega)|(simp at *;omega)))
                      | exact H2 (fun ⟨⟨⟨a1, a2⟩, ⟨a3, a4⟩, ⟨a5, a6⟩, ⟨a7, a8⟩⟩, ⟨⟨a9, b1⟩, b2⟩, _⟩ => by (first|omega|(dsimp only at *;omega)|(simp at *;omega)))
                · refine xr_gd rfl rfl rfl (xv_not rfl ?_)
                  refine xr_op rfl rfl (xv_pick rfl rfl ?_)
                  refine xr_op rfl rfl (xv_move rfl ?_)
                  refine xr_no rfl rfl rfl rfl ?_
                  refine xr_no rfl rfl rfl rfl ?_
                  refine xr_no rfl rfl rfl rfl ?_
                  refine xr_no rfl rfl rfl rfl ?_
                  refine xr_no rfl rfl rfl rfl ?_
                  refine xr_op rfl rfl (xv_pick rfl rfl ?_)
                  refine xr_op rfl rfl (xv_assign rfl ?_)
                  refine xr_end rfl ?_
                  refine th_n ?_
                  refine xc_ret ?_
                  refine body_ret (h' := h) rfl (ro_tmp rfl ro_nil) (by (first|((repeat first|exact s_0|exact s_1|exact s_3|refine s_4 ?_|refine s_5 ?_|refine s_6 ?_|refine s_7 ?_);done)|((repeat first|exact s_0|exact s_1|exact s_3|refine s_4 ?_|refine s_5 ?_|refine s_6 ?_|refine s_8 ?_);done))) ?_
                  first
                    | exact H1 ⟨by unfold numsOk; (first|omega|(dsimp only at *;omega)|(simp at *;omega)), by unfold sizesOk; (first|omega|(dsimp only at *;omega)|(simp at *;omega)), frm0_of hkt (by (first|omega|(dsimp only at *;omega)|(simp at *;omega))), hto, fun m hm => by have h9 := of_decide_eq_false (hmo m hm); exact Decidable.not_not.1 h9⟩
                    | exact H2 (fun ⟨q1, q2, q3, q4, q5⟩ => of_decide_eq_true hmo (q5 x9 hx9))
                    | exact H2 (fun ⟨q1, q2, q3, q4, q5⟩ => hto q4)
                    | exact H2 (fun ⟨q1, q2, q3, q4, q5⟩ => by have := frm0_at q3 hkt; (first|omega|(dsimp only at *;omega)|(simp at *;omega)))
                    | exact H2 (fun ⟨⟨⟨a1, a2⟩, ⟨a3, a4⟩, ⟨a5, a6⟩, ⟨a7, a8⟩⟩, ⟨⟨a9, b1⟩, b2⟩, _⟩ => by (first|omega|(dsimp only at *;omega)|(simp at *;omega)))
              · refine xr_op rfl rfl (xv_pick rfl rfl ?_)
                refine xr_op rfl rfl (xv_move rfl ?_)
                refine xr_no rfl rfl rfl rfl ?_
                refine xr_no rfl rfl rfl rfl ?_
                refine xr_no rfl rfl rfl rfl ?_
                refine xr_no rfl rfl rfl rfl ?_
                refine xr_no rfl rfl rfl rfl ?_
                refine xr_op rfl rfl (xv_pick rfl rfl ?_)
                refine xr_op rfl rfl (xv_move rfl ?_)
                refine xr_no rfl rfl rfl rfl ?_
                refine xr_no rfl rfl rfl rfl ?_
                refine xr_no rfl rfl rfl rfl ?_
                refine xr_no rfl rfl rfl rfl ?_
                refine xr_no rfl rfl rfl rfl ?_
                refine xr_op rfl rfl (xv_pick rfl rfl ?_)
                refine xr_op rfl rfl (xv_assign rfl ?_)
                refine xr_end rfl ?_
                refine th_n ?_
                refine xc_ret ?_
                refine body_ret (h' := h) rfl (ro_tmp rfl ro_nil) (by (first|((repeat first|exact s_0|exact s_1|exact s_3|refine s_4 ?_|refine s_5 ?_|refine s_6 ?_|refine s_7 ?_);done)|((repeat first|exact s_0|exact s_1|exact s_3|refine s_4 ?_|refine s_5 ?_|refine s_6 ?_|refine s_8 ?_);done))) ?_
                first
                  | exact H1 ⟨by unfold numsOk; (first|omega|(dsimp only at *;omega)|(simp at *;omega)), by unfold sizesOk; (first|omega|(dsimp only at *;omega)|(simp at *;omega)), frm0_of hkt (by (first|omega|(dsimp only at *;omega)|(simp at *;omega))), hto, fun m hm => by have h9 := of_decide_eq_false (hmo m hm); exact Decidable.not_not.1 h9⟩
                  | exact H2 (fun ⟨q1, q2, q3, q4, q5⟩ => of_decide_eq_true hmo (q5 x9 hx9))
                  | exact H2 (fun ⟨q1, q2, q3, q4, q5⟩ => hto q4)
                  | exact H2 (fun ⟨q1, q2, q3, q4, q5⟩ => by have := frm0_at q3 hkt; (first|omega|(dsimp only at *;omega)|(simp at *;omega)))
                  | exact H2 (fun ⟨⟨⟨a1, a2⟩, ⟨a3, a4⟩, ⟨a5, a6⟩, ⟨a7, a8⟩⟩, ⟨⟨a9, b1⟩, b2⟩, _⟩ => by (first|omega|(dsimp only at *;omega)|(simp at *;omega)))
            · refine xr_op rfl rfl (xv_pick rfl rfl ?_)
              refine xr_op rfl rfl (xv_assign rfl ?_)
              refine xr_end rfl ?_
              refine th_n ?_
              refine xc_seq (xc_region ?_)
              refine xr_op rfl rfl (xv_move rfl ?_)
              refine xr_op rfl rfl (xv_move rfl ?_)
              refine xr_gd rfl rfl rfl (xv_move rfl ?_)
              refine xr_op rfl rfl (xv_pick rfl rfl ?_)
              refine xr_op rfl rfl (xv_move rfl ?_)
              refine xr_no rfl rfl rfl rfl ?_
              refine xr_no rfl rfl rfl rfl ?_
              refine xr_no rfl rfl rfl rfl ?_
              refine xr_no rfl rfl rfl rfl ?_
              refine xr_no rfl rfl rfl rfl ?_
              refine xr_no rfl rfl rfl rfl ?_
              refine xr_op rfl rfl (xv_pick rfl rfl ?_)
              refine xr_op rfl rfl (xv_move rfl ?_)
              refine xr_no rfl rfl rfl rfl ?_
              refine xr_no rfl rfl rfl rfl ?_
              refine xr_no rfl rfl rfl rfl ?_
              refine xr_no rfl rfl rfl rfl ?_
              refine xr_no rfl rfl rfl rfl ?_
              refine xr_op rfl rfl (xv_pick rfl rfl ?_)
              refine xr_op rfl rfl (xv_move rfl ?_)
              refine xr_no rfl rfl rfl rfl ?_
              refine xr_no rfl rfl rfl rfl ?_
              refine xr_no rfl rfl rfl rfl ?_
              refine xr_no rfl rfl rfl rfl ?_
              refine xr_no rfl rfl rfl rfl ?_
              refine xr_op rfl rfl (xv_pick rfl rfl ?_)
              refine xr_op rfl rfl (xv_assign rfl ?_)
              refine xr_end rfl ?_
              refine th_n ?_
              refine xc_ret ?_
              refine body_ret (h' := h) rfl (ro_tmp rfl ro_nil) (by (first|((repeat first|exact s_0|exact s_1|exact s_3|refine s_4 ?_|refine s_5 ?_|refine s_6 ?_|refine s_7 ?_);done)|((repeat first|exact s_0|exact s_1|exact s_3|refine s_4 ?_|refine s_5 ?_|refine s_6 ?_|refine s_8 ?_);done))) ?_
              first
                | exact H1 ⟨by unfold numsOk; (first|omega|(dsimp only at *;omega)|(simp at *;omega)), by unfold sizesOk; (first|omega|(dsimp only at *;omega)|(simp at *;omega)), frm0_of hkt (by (first|omega|(dsimp only at *;omega)|(simp at *;omega))), hto, fun m hm => by have h9 := of_decide_eq_false (hmo m hm); exact Decidable.not_not.1 h9⟩
                | exact H2 (fun ⟨q1, q2, q3, q4, q5⟩ => of_decide_eq_true hmo (q5 x9 hx9))
                | exact H2 (fun ⟨q1, q2, q3, q4, q5⟩ => hto q4)
                | exact H2 (fun ⟨q1, q2, q3, q4, q5⟩ => by have := frm0_at q3 hkt; (first|omega|(dsimp only at *;omega)|(simp at *;omega)))
                | exact H2 (fun ⟨⟨⟨a1, a2⟩, ⟨a3, a4⟩, ⟨a5, a6⟩, ⟨a7, a8⟩⟩, ⟨⟨a9, b1⟩, b2⟩, _⟩ => by (first|omega|(dsimp only at *;omega)|(simp at *;omega)))
          · refine xr_op rfl rfl (xv_pick rfl rfl ?_)
            refine xr_op rfl rfl (xv_move rfl ?_)
            refine xr_no rfl rfl rfl rfl ?_
            refine xr_no rfl rfl rfl rfl ?_
            refine xr_no rfl rfl rfl rfl ?_
            refine xr_op rfl rfl (xv_pick rfl rfl ?_)
            refine xr_op rfl rfl (xv_assign rfl ?_)
            refine xr_end rfl ?_
            refine th_n ?_
            refine xc_seq (xc_region ?_)
            refine xr_op rfl rfl (xv_move rfl ?_)
            refine xr_op rfl rfl (xv_move rfl ?_)
            refine xr_gd rfl rfl rfl (xv_move rfl ?_)
            refine xr_op rfl rfl (xv_pick rfl rfl ?_)
            refine xr_op rfl rfl (xv_move rfl ?_)
            refine xr_no rfl rfl rfl rfl ?_
            refine xr_no rfl rfl rfl rfl ?_
            refine xr_no rfl rfl rfl rfl ?_
            refine xr_no rfl rfl rfl rfl ?_
            refine xr_no rfl rfl rfl rfl ?_
            refine xr_no rfl rfl rfl rfl ?_
            refine xr_op rfl rfl (xv_pick rfl rfl ?_)
            refine xr_op rfl rfl (xv_move rfl ?_)
            refine xr_no rfl rfl rfl rfl ?_
            refine xr_no rfl rfl rfl rfl ?_
            refine xr_no rfl rfl rfl rfl ?_
            refine xr_no rfl rfl rfl rfl ?_
            refine xr_no rfl rfl rfl rfl ?_
            refine xr_op rfl rfl (xv_pick rfl rfl ?_)
            refine xr_op rfl rfl (xv_move rfl ?_)
            refine xr_no rfl rfl rfl rfl ?_
            refine xr_no rfl rfl rfl rfl ?_
            refine xr_no rfl rfl rfl rfl ?_
            refine xr_no rfl rfl rfl rfl ?_
            refine xr_no rfl rfl rfl rfl ?_
            refine xr_op rfl rfl (xv_pick rfl rfl ?_)
            refine xr_op rfl rfl (xv_assign rfl ?_)
            refine xr_end rfl ?_
            refine th_n ?_
            refine xc_ret ?_
            refine body_ret (h' := h) rfl (ro_tmp rfl ro_nil) (by (first|((repeat first|exact s_0|exact s_1|exact s_3|refine s_4 ?_|refine s_5 ?_|refine s_6 ?_|refine s_7 ?_);done)|((repeat first|exact s_0|exact s_1|exact s_3|refine s_4 ?_|refine s_5 ?_|refine s_6 ?_|refine s_8 ?_);done))) ?_
            first
              | exact H1 ⟨by unfold numsOk; (first|omega|(dsimp only at *;omega)|(simp at *;omega)), by unfold sizesOk; (first|omega|(dsimp only at *;omega)|(simp at *;omega)), frm0_of hkt (by (first|omega|(dsimp only at *;omega)|(simp at *;omega))), hto, fun m hm => by have h9 := of_decide_eq_false (hmo m hm); exact Decidable.not_not.1 h9⟩
              | exact H2 (fun ⟨q1, q2, q3, q4, q5⟩ => of_decide_eq_true hmo (q5 x9 hx9))
              | exact H2 (fun ⟨q1, q2, q3, q4, q5⟩ => hto q4)
              | exact H2 (fun ⟨q1, q2, q3, q4, q5⟩ => by have := frm0_at q3 hkt; (first|omega|(dsimp only at *;omega)|(simp at *;omega)))
              | exact H2 (fun ⟨⟨⟨a1, a2⟩, ⟨a3, a4⟩, ⟨a5, a6⟩, ⟨a7, a8⟩⟩, ⟨⟨a9, b1⟩, b2⟩, _⟩ => by (first|omega|(dsimp only at *;omega)|(simp at *;omega)))
        · refine xr_op rfl rfl (xv_pick rfl rfl ?_)
          refine xr_op rfl rfl (xv_move rfl ?_)
          refine xr_no rfl rfl rfl rfl ?_
          refine xr_no rfl rfl rfl rfl ?_
          refine xr_no rfl rfl rfl rfl ?_
          refine xr_op rfl rfl (xv_pick rfl rfl ?_)
          refine xr_op rfl rfl (xv_move rfl ?_)
          refine xr_no rfl rfl rfl rfl ?_
          refine xr_no rfl rfl rfl rfl ?_
          refine xr_no rfl rfl rfl rfl ?_
          refine xr_op rfl rfl (xv_pick rfl rfl ?_)
          refine xr_op rfl rfl (xv_assign rfl ?_)
          refine xr_end rfl ?_
          refine th_n ?_
          refine xc_seq (xc_region ?_)
          refine xr_op rfl rfl (xv_move rfl ?_)
          refine xr_op rfl rfl (xv_move rfl ?_)
          refine xr_gd rfl rfl rfl (xv_move rfl ?_)
          refine xr_op rfl rfl (xv_pick rfl rfl ?_)
          refine xr_op rfl rfl (xv_move rfl ?_)
          refine xr_no rfl rfl rfl rfl ?_
          refine xr_no rfl rfl rfl rfl ?_
          refine xr_no rfl rfl rfl rfl ?_
          refine xr_no rfl rfl rfl rfl ?_
          refine xr_no rfl rfl rfl rfl ?_
          refine xr_no rfl rfl rfl rfl ?_
          refine xr_op rfl rfl (xv_pick rfl rfl ?_)
          refine xr_op rfl rfl (xv_move rfl ?_)
          refine xr_no rfl rfl rfl rfl ?_
          refine xr_no rfl rfl rfl rfl ?_
          refine xr_no rfl rfl rfl rfl ?_
          refine xr_no rfl rfl rfl rfl ?_
          refine xr_no rfl rfl rfl rfl ?_
          refine xr_op rfl rfl (xv_pick rfl rfl ?_)
          refine xr_op rfl rfl (xv_move rfl ?_)
          refine xr_no rfl rfl rfl rfl ?_
          refine xr_no rfl rfl rfl rfl ?_
          refine xr_no rfl rfl rfl rfl ?_
          refine xr_no rfl rfl rfl rfl ?_
          refine xr_no rfl rfl rfl rfl ?_
          refine xr_op rfl rfl (xv_pick rfl rfl ?_)
          refine xr_op rfl rfl (xv_assign rfl ?_)
          refine xr_end rfl ?_
          refine th_n ?_
          refine xc_ret ?_
          refine body_ret (h' := h) rfl (ro_tmp rfl ro_nil) (by (first|((repeat first|exact s_0|exact s_1|exact s_3|refine s_4 ?_|refine s_5 ?_|refine s_6 ?_|refine s_7 ?_);done)|((repeat first|exact s_0|exact s_1|exact s_3|refine s_4 ?_|refine s_5 ?_|refine s_6 ?_|refine s_8 ?_);done))) ?_
          first
            | exact H1 ⟨by unfold numsOk; (first|omega|(dsimp only at *;omega)|(simp at *;omega)), by unfold sizesOk; (first|omega|(dsimp only at *;omega)|(simp at *;omega)), frm0_of hkt (by (first|omega|(dsimp only at *;omega)|(simp at *;omega))), hto, fun m hm => by have h9 := of_decide_eq_false (hmo m hm); exact Decidable.not_not.1 h9⟩
            | exact H2 (fun ⟨q1, q2, q3, q4, q5⟩ => of_decide_eq_true hmo (q5 x9 hx9))
            | exact H2 (fun ⟨q1, q2, q3, q4, q5⟩ => hto q4)
            | exact H2 (fun ⟨q1, q2, q3, q4, q5⟩ => by have := frm0_at q3 hkt; (first|omega|(dsimp only at *;omega)|(simp at *;omega)))
            | exact H2 (fun ⟨⟨⟨a1, a2⟩, ⟨a3, a4⟩, ⟨a5, a6⟩, ⟨a7, a8⟩⟩, ⟨⟨a9, b1⟩, b2⟩, _⟩ => by (first|omega|(dsimp only at *;omega)|(simp at *;omega)))
      · refine xr_op rfl rfl (xv_move rfl ?_)
        refine xr_no rfl rfl rfl rfl ?_
        refine xr_no rfl rfl rfl rfl ?_
        refine xr_no rfl rfl rfl rfl ?_
        refine xr_no rfl rfl rfl rfl ?_
        refine xr_no rfl rfl rfl rfl ?_
        refine xr_op rfl rfl (xv_pick rfl rfl ?_)
        refine xr_op rfl rfl (xv_move rfl ?_)
        refine xr_no rfl rfl rfl rfl ?_
        refine xr_no rfl rfl rfl rfl ?_
        refine xr_no rfl rfl rfl rfl ?_
        refine xr_op rfl rfl (xv_pick rfl rfl ?_)
        refine xr_op rfl rfl (xv_move rfl ?_)
        refine xr_no rfl rfl rfl rfl ?_
        refine xr_no rfl rfl rfl rfl ?_
        refine xr_no rfl rfl rfl rfl ?_
        refine xr_op rfl rfl (xv_pick rfl rfl ?_)
        refine xr_op rfl rfl (xv_assign rfl ?_)
        refine xr_end rfl ?_
        refine th_n ?_
        refine xc_seq (xc_region ?_)
        refine xr_op rfl rfl (xv_move rfl ?_)
        refine xr_op rfl rfl (xv_move rfl ?_)
        refine xr_gd rfl rfl rfl (xv_move rfl ?_)
        refine xr_op rfl rfl (xv_pick rfl rfl ?_)
        refine xr_op rfl rfl (xv_move rfl ?_)
        refine xr_no rfl rfl rfl rfl ?_
        refine xr_no rfl rfl rfl rfl ?_
        refine xr_no rfl rfl rfl rfl ?_
        refine xr_no rfl rfl rfl rfl ?_
        refine xr_no rfl rfl rfl rfl ?_
        refine xr_no rfl rfl rfl rfl ?_
        refine xr_op rfl rfl (xv_pick rfl rfl ?_)
        refine xr_op rfl rfl (xv_move rfl ?_)
        refine xr_no rfl rfl rfl rfl ?_
        refine xr_no rfl rfl rfl rfl ?_
        refine xr_no rfl rfl rfl rfl ?_
        refine xr_no rfl rfl rfl rfl ?_
        refine xr_no rfl rfl rfl rfl ?_
        refine xr_op rfl rfl (xv_pick rfl rfl ?_)
        refine xr_op rfl rfl (xv_move rfl ?_)
        refine xr_no rfl rfl rfl rfl ?_
        refine xr_no rfl rfl rfl rfl ?_
        refine xr_no rfl rfl rfl rfl ?_
        refine xr_no rfl rfl rfl rfl ?_
        refine xr_no rfl rfl rfl rfl ?_
        refine xr_op rfl rfl (xv_pick rfl rfl ?_)
        refine xr_op rfl rfl (xv_assign rfl ?_)
        refine xr_end rfl ?_
        refine th_n ?_
        refine xc_ret ?_
        refine body_ret (h' := h) rfl (ro_tmp rfl ro_nil) (by (first|((repeat first|exact s_0|exact s_1|exact s_3|refine s_4 ?_|refine s_5 ?_|refine s_6 ?_|refine s_7 ?_);done)|((repeat first|exact s_0|exact s_1|exact s_3|refine s_4 ?_|refine s_5 ?_|refine s_6 ?_|refine s_8 ?_);done))) ?_
        first
          | exact H1 ⟨by unfold numsOk; (first|omega|(dsimp only at *;omega)|(simp at *;omega)), by unfold sizesOk; (first|omega|(dsimp only at *;omega)|(simp at *;omega)), frm0_of hkt (by (first|omega|(dsimp only at *;omega)|(simp at *;omega))), hto, fun m hm => by have h9 := of_decide_eq_false (hmo m hm); exact Decidable.not_not.1 h9⟩
          | exact H2 (fun ⟨q1, q2, q3, q4, q5⟩ => of_decide_eq_true hmo (q5 x9 hx9))
          | exact H2 (fun ⟨q1, q2, q3, q4, q5⟩ => hto q4)
          | exact H2 (fun ⟨q1, q2, q3, q4, q5⟩ => by have := frm0_at q3 hkt; (first|omega|(dsimp only at *;omega)|(simp at *;omega)))
          | exact H2 (fun ⟨⟨⟨a1, a2⟩, ⟨a3, a4⟩, ⟨a5, a6⟩, ⟨a7, a8⟩⟩, ⟨⟨a9, b1⟩, b2⟩, _⟩ => by (first|omega|(dsimp only at *;omega)|(simp at *;omega)))
    · refine xr_op rfl rfl (xv_pick rfl rfl ?_)
      refine xr_op rfl rfl (xv_assign rfl ?_)
      refine xr_end rfl ?_
      refine th_n ?_
      refine xc_seq (xc_region ?_)
      refine xr_op rfl rfl (xv_faddr fl25_1 rfl ?_)
      refine xr_op rfl rfl (xv_load1 ty3 rfl rfl (by ((repeat first|exact z_0|assumption|refine z_1 ?_|(refine z_l ?_;(repeat first|exact z_0|assumption|refine z_1 ?_);done)|refine z_r ?_);done)) (by rfl) ?_)
      refine xr_op rfl rfl (xv_calls rfl hb33 (within_c _ _ _ (fun hl18 hu19 => up_ret ?_) (fun hn20 => up_ret ?_)))
      · refine xr_op rfl rfl (xv_move rfl ?_)
        refine xr_gd rfl rfl rfl (xv_faddr fl25_0 rfl ?_)
        refine xr_gd rfl rfl rfl (xv_load1 ty3 rfl rfl (by ((repeat first|exact z_0|assumption|refine z_1 ?_|(refine z_l ?_;(repeat first|exact z_0|assumption|refine z_1 ?_);done)|refine z_r ?_);done)) (by rfl) ?_)
        refine xr_gd rfl rfl rfl (xv_faddr fl25_1 rfl ?_)
        refine xr_gd rfl rfl rfl (xv_load1 ty3 rfl rfl (by ((repeat first|exact z_0|assumption|refine z_1 ?_|(refine z_l ?_;(repeat first|exact z_0|assumption|refine z_1 ?_);done)|refine z_r ?_);done)) (by rfl) ?_)
        refine xr_gd rfl rfl rfl (xv_calls rfl hb33 (within_c _ _ _ (fun hl21 hu22 => up_ret ?_) (fun hn23 => up_ret ?_)))
        · refine xr_op rfl rfl (xv_pick rfl rfl ?_)
          refine xr_op rfl rfl (xv_move rfl ?_)
          refine xr_gd rfl rfl rfl (xv_faddr fl25_2 rfl ?_)
          refine xr_gd rfl rfl rfl (xv_load1 ty3 rfl rfl (by ((repeat first|exact z_0|assumption|refine z_1 ?_|(refine z_l ?_;(repeat first|exact z_0|assumption|refine z_1 ?_);done)|refine z_r ?_);done)) (by rfl) ?_)
          refine xr_gd rfl rfl rfl (xv_calls rfl hb33 (within_c _ _ _ (fun hl24 hu25 => up_ret ?_) (fun hn26 => up_ret ?_)))
          · refine xr_op rfl rfl (xv_pick rfl rfl ?_)
            refine xr_op rfl rfl (xv_move rfl ?_)
            refine xr_gd rfl rfl rfl (xv_faddr fl25_3 rfl ?_)
            refine xr_gd rfl rfl rfl (xv_load1 ty3 rfl rfl (by ((repeat first|exact z_0|assumption|refine z_1 ?_|(refine z_l ?_;(repeat first|exact z_0|assumption|refine z_1 ?_);done)|refine z_r ?_);done)) (by rfl) ?_)
            refine xr_gd rfl rfl rfl (xv_calls rfl hb33 (within_c _ _ _ (fun hl27 hu28 => up_ret ?_) (fun hn29 => up_ret ?_)))
            · refine xr_op rfl rfl (xv_pick rfl rfl ?_)
              refine xr_op rfl rfl (xv_assign rfl ?_)
              refine xr_end rfl ?_
              refine th_n ?_
              refine xc_seq (xc_region ?_)
              refine xr_op rfl rfl (xv_move rfl ?_)
              refine xr_op rfl rfl (xv_move rfl ?_)
              refine xr_no rfl rfl rfl rfl ?_
              refine xr_op rfl rfl (xv_pick rfl rfl ?_)
              refine xr_op rfl rfl (xv_move rfl ?_)
              refine xr_no rfl rfl rfl rfl ?_
              refine xr_no rfl rfl rfl rfl ?_
              refine xr_no rfl rfl rfl rfl ?_
              refine xr_no rfl rfl rfl rfl ?_
              refine xr_no rfl rfl rfl rfl ?_
              refine xr_no rfl rfl rfl rfl ?_
              refine xr_op rfl rfl (xv_pick rfl rfl ?_)
              refine xr_op rfl rfl (xv_move rfl ?_)
              refine xr_no rfl rfl rfl rfl ?_
              refine xr_no rfl rfl rfl rfl ?_
              refine xr_no rfl rfl rfl rfl ?_
              refine xr_no rfl rfl rfl rfl ?_
              refine xr_no rfl rfl rfl rfl ?_
              refine xr_op rfl rfl (xv_pick rfl rfl ?_)
              refine xr_op rfl rfl (xv_move rfl ?_)
              refine xr_no rfl rfl rfl rfl ?_
              refine xr_no rfl rfl rfl rfl ?_
              refine xr_no rfl rfl rfl rfl ?_
              refine xr_no rfl rfl rfl rfl ?_
              refine xr_no rfl rfl rfl rfl ?_
              refine xr_op rfl rfl (xv_pick rfl rfl ?_)
              refine xr_op rfl rfl (xv_assign rfl ?_)
              refine xr_end rfl ?_
              refine th_n ?_
              refine xc_ret ?_
              refine body_ret (h' := h) rfl (ro_tmp rfl ro_nil) (by (first|((repeat first|exact s_0|exact s_1|exact s_3|refine s_4 ?_|refine s_5 ?_|refine s_6 ?_|refine s_7 ?_);done)|((repeat first|exact s_0|exact s_1|exact s_3|refine s_4 ?_|refine s_5 ?_|refine s_6 ?_|refine s_8 ?_);done))) ?_
              first
                | exact H1 ⟨by unfold numsOk; (first|omega|(dsimp only at *;omega)|(simp at *;omega)), by unfold sizesOk; (first|omega|(dsimp only at *;omega)|(simp at *;omega)), frm0_of hkt (by (first|omega|(dsimp only at *;omega)|(simp at *;omega))), hto, fun m hm => by have h9 := of_decide_eq_false (hmo m hm); exact Decidable.not_not.1 h9⟩
                | exact H2 (fun ⟨q1, q2, q3, q4, q5⟩ => of_decide_eq_true hmo (q5 x9 hx9))
                | exact H2 (fun ⟨q1, q2, q3, q4, q5⟩ => hto q4)
                | exact H2 (fun ⟨q1, q2, q3, q4, q5⟩ => by have := frm0_at q3 hkt; (first|omega|(dsimp only at *;omega)|(simp at *;omega)))
                | exact H2 (fun ⟨⟨⟨a1, a2⟩, ⟨a3, a4⟩, ⟨a5, a6⟩, ⟨a7, a8⟩⟩, ⟨⟨a9, b1⟩, b2⟩, _⟩ => by (first|omega|(dsimp only at *;omega)|(simp at *;omega)))
            · refine xr_op rfl rfl (xv_pick rfl rfl ?_)
              refine xr_op rfl rfl (xv_assign rfl ?_)
              refine xr_end rfl ?_
              refine th_n ?_
              refine xc_seq (xc_region ?_)
              refine xr_op rfl rfl (xv_move rfl ?_)
              refine xr_op rfl rfl (xv_move rfl ?_)
              refine xr_no rfl rfl rfl rfl ?_
              refine xr_op rfl rfl (xv_pick rfl rfl ?_)
              refine xr_op rfl rfl (xv_move rfl ?_)
              refine xr_no rfl rfl rfl rfl ?_
              refine xr_no rfl rfl rfl rfl ?_
              refine xr_no rfl rfl rfl rfl ?_
              refine xr_no rfl rfl rfl rfl ?_
              refine xr_no rfl rfl rfl rfl ?_
              refine xr_no rfl rfl rfl rfl ?_
              refine xr_op rfl rfl (xv_pick rfl rfl ?_)
              refine xr_op rfl rfl (xv_move rfl ?_)
              refine xr_no rfl rfl rfl rfl ?_
              refine xr_no rfl rfl rfl rfl ?_
              refine xr_no rfl rfl rfl rfl ?_
              refine xr_no rfl rfl rfl rfl ?_
              refine xr_no rfl rfl rfl rfl ?_
              refine xr_op rfl rfl (xv_pick rfl rfl ?_)
              refine xr_op rfl rfl (xv_move rfl ?_)
              refine xr_no rfl rfl rfl rfl ?_
              refine xr_no rfl rfl rfl rfl ?_
              refine xr_no rfl rfl rfl rfl ?_
              refine xr_no rfl rfl rfl rfl ?_
              refine xr_no rfl rfl rfl rfl ?_
              refine xr_op rfl rfl (xv_pick rfl rfl ?_)
              refine xr_op rfl rfl (xv_assign rfl ?_)
              refine xr_end rfl ?_
              refine th_n ?_
              refine xc_ret ?_
              refine body_ret (h' := h) rfl (ro_tmp rfl ro_nil) (by (first|((repeat first|exact s_0|exact s_1|exact s_3|refine s_4 ?_|refine s_5 ?_|refine s_6 ?_|refine s_7 ?_);done)|((repeat first|exact s_0|exact s_1|exact s_3|refine s_4 ?_|refine s_5 ?_|refine s_6 ?_|refine s_8 ?_);done))) ?_
              first
                | exact H1 ⟨by unfold numsOk; (first|omega|(dsimp only at *;omega)|(simp at *;omega)), by unfold sizesOk; (first|omega|(dsimp only at *;omega)|(simp at *;omega)), frm0_of hkt (by (first|omega|(dsimp only at *;omega)|(simp at *;omega))), hto, fun m hm => by have h9 := of_decide_eq_false (hmo m hm); exact Decidable.not_not.1 h9⟩
                | exact H2 (fun ⟨q1, q2, q3, q4, q5⟩ => of_decide_eq_true hmo (q5 x9 hx9))
                | exact H2 (fun ⟨q1, q2, q3, q4, q5⟩ => hto q4)
                | exact H2 (fun ⟨q1, q2, q3, q4, q5⟩ => by have := frm0_at q3 hkt; (first|omega|(dsimp only at *;omega)|(simp at *;omega)))
                | exact H2 (fun ⟨⟨⟨a1, a2⟩, ⟨a3, a4⟩, ⟨a5, a6⟩, ⟨a7, a8⟩⟩, ⟨⟨a9, b1⟩, b2⟩, _⟩ => by (first|omega|(dsimp only at *;omega)|(simp at *;omega)))
          · refine xr_op rfl rfl (xv_pick rfl rfl ?_)
            refine xr_op rfl rfl (xv_move rfl ?_)
            refine xr_no rfl rfl rfl rfl ?_
            refine xr_no rfl rfl rfl rfl ?_
            refine xr_no rfl rfl rfl rfl ?_
            refine xr_op rfl rfl (xv_pick rfl rfl ?_)
            refine xr_op rfl rfl (xv_assign rfl ?_)
            refine xr_end rfl ?_
            refine th_n ?_
            refine xc_seq (xc_region ?_)
            refine xr_op rfl rfl (xv_move rfl ?_)
            refine xr_op rfl rfl (xv_move rfl ?_)
            refine xr_no rfl rfl rfl rfl ?_
            refine xr_op rfl rfl (xv_pick rfl rfl ?_)
            refine xr_op rfl rfl (xv_move rfl ?_)
            refine xr_no rfl rfl rfl rfl ?_
            refine xr_no rfl rfl rfl rfl ?_
            refine xr_no rfl rfl rfl rfl ?_
            refine xr_no rfl rfl rfl rfl ?_
            refine xr_no rfl rfl rfl rfl ?_
            refine xr_no rfl rfl rfl rfl ?_
            refine xr_op rfl rfl (xv_pick rfl rfl ?_)
            refine xr_op rfl rfl (xv_move rfl ?_)
            refine xr_no rfl rfl rfl rfl ?_
            refine xr_no rfl rfl rfl rfl ?_
            refine xr_no rfl rfl rfl rfl ?_
            refine xr_no rfl rfl rfl rfl ?_
            refine xr_no rfl rfl rfl rfl ?_
            refine xr_op rfl rfl (xv_pick rfl rfl ?_)
            refine xr_op rfl rfl (xv_move rfl ?_)
            refine xr_no rfl rfl rfl rfl ?_
            refine xr_no rfl rfl rfl rfl ?_
            refine xr_no rfl rfl rfl rfl ?_
            refine xr_no rfl rfl rfl rfl ?_
            refine xr_no rfl rfl rfl rfl ?_
            refine xr_op rfl rfl (xv_pick rfl rfl ?_)
            refine xr_op rfl rfl (xv_assign rfl ?_)
            refine xr_end rfl ?_
            refine th_n ?_
            refine xc_ret ?_
            refine body_ret (h' := h) rfl (ro_tmp rfl ro_nil) (by (first|((repeat first|exact s_0|exact s_1|exact s_3|refine s_4 ?_|refine s_5 ?_|refine s_6 ?_|refine s_7 ?_);done)|((repeat first|exact s_0|exact s_1|exact s_3|refine s_4 ?_|refine s_5 ?_|refine s_6 ?_|refine s_8 ?_);done))) ?_
            first
              | exact H1 ⟨by unfold numsOk; (first|omega|(dsimp only at *;omega)|(simp at *;omega)), by unfold sizesOk; (first|omega|(dsimp only at *;omega)|(simp at *;omega)), frm0_of hkt (by (first|omega|(dsimp only at *;omega)|(simp at *;omega))), hto, fun m hm => by have h9 := of_decide_eq_false (hmo m hm); exact Decidable.not_not.1 h9⟩
              | exact H2 (fun ⟨q1, q2, q3, q4, q5⟩ => of_decide_eq_true hmo (q5 x9 hx9))
              | exact H2 (fun ⟨q1, q2, q3, q4, q5⟩ => hto q4)
              | exact H2 (fun ⟨q1, q2, q3, q4, q5⟩ => by have := frm0_at q3 hkt; (first|omega|(dsimp only at *;omega)|(simp at *;omega)))
              | exact H2 (fun ⟨⟨⟨a1, a2⟩, ⟨a3, a4⟩, ⟨a5, a6⟩, ⟨a7, a8⟩⟩, ⟨⟨a9, b1⟩, b2⟩, _⟩ => by (first|omega|(dsimp only at *;omega)|(simp at *;omega)))
        · refine xr_op rfl rfl (xv_pick rfl rfl ?_)
          refine xr_op rfl rfl (xv_move rfl ?_)
          refine xr_no rfl rfl rfl rfl ?_
          refine xr_no rfl rfl rfl rfl ?_
          refine xr_no rfl rfl rfl rfl ?_
          refine xr_op rfl rfl (xv_pick rfl rfl ?_)
          refine xr_op rfl rfl (xv_move rfl ?_)
          refine xr_no rfl rfl rfl rfl ?_
          refine xr_no rfl rfl rfl rfl ?_
          refine xr_no rfl rfl rfl rfl ?_
          refine xr_op rfl rfl (xv_pick rfl rfl ?_)
          refine xr_op rfl rfl (xv_assign rfl ?_)
          refine xr_end rfl ?_
          refine th_n ?_
          refine xc_seq (xc_region ?_)
          refine xr_op rfl rfl (xv_move rfl ?_)
          refine xr_op rfl rfl (xv_move rfl ?_)
          refine xr_no rfl rfl rfl rfl ?_
          refine xr_op rfl rfl (xv_pick rfl rfl ?_)
          refine xr_op rfl rfl (xv_move rfl ?_)
          refine xr_no rfl rfl rfl rfl ?_
          refine xr_no rfl rfl rfl rfl ?_
          refine xr_no rfl rfl rfl rfl ?_
          refine xr_no rfl rfl rfl rfl ?_
          refine xr_no rfl rfl rfl rfl ?_
          refine xr_no rfl rfl rfl rfl ?_
          refine xr_op rfl rfl (xv_pick rfl rfl ?_)
          refine xr_op rfl rfl (xv_move rfl ?_)
          refine xr_no rfl rfl rfl rfl ?_
          refine xr_no rfl rfl rfl rfl ?_
          refine xr_no rfl rfl rfl rfl ?_
          refine xr_no rfl rfl rfl rfl ?_
          refine xr_no rfl rfl rfl rfl ?_
          refine xr_op rfl rfl (xv_pick rfl rfl ?_)
          refine xr_op rfl rfl (xv_move rfl ?_)
          refine xr_no rfl rfl rfl rfl ?_
          refine xr_no rfl rfl rfl rfl ?_
          refine xr_no rfl rfl rfl rfl ?_
          refine xr_no rfl rfl rfl rfl ?_
          refine xr_no rfl rfl rfl rfl ?_
          refine xr_op rfl rfl (xv_pick rfl rfl ?_)
          refine xr_op rfl rfl (xv_assign rfl ?_)
          refine xr_end rfl ?_
          refine th_n ?_
          refine xc_ret ?_
          refine body_ret (h' := h) rfl (ro_tmp rfl ro_nil) (by (first|((repeat first|exact s_0|exact s_1|exact s_3|refine s_4 ?_|refine s_5 ?_|refine s_6 ?_|refine s_7 ?_);done)|((repeat first|exact s_0|exact s_1|exact s_3|refine s_4 ?_|refine s_5 ?_|refine s_6 ?_|refine s_8 ?_);done))) ?_
          first
            | exact H1 ⟨by unfold numsOk; (first|omega|(dsimp only at *;omega)|(simp at *;omega)), by unfold sizesOk; (first|omega|(dsimp only at *;omega)|(simp at *;omega)), frm0_of hkt (by (first|omega|(dsimp only at *;omega)|(simp at *;omega))), hto, fun m hm => by have h9 := of_decide_eq_false (hmo m hm); exact Decidable.not_not.1 h9⟩
            | exact H2 (fun ⟨q1, q2, q3, q4, q5⟩ => of_decide_eq_true hmo (q5 x9 hx9))
            | exact H2 (fun ⟨q1, q2, q3, q4, q5⟩ => hto q4)
            | exact H2 (fun ⟨q1, q2, q3, q4, q5⟩ => by have := frm0_at q3 hkt; (first|omega|(dsimp only at *;omega)|(simp at *;omega)))
            | exact H2 (fun ⟨⟨⟨a1, a2⟩, ⟨a3, a4⟩, ⟨a5, a6⟩, ⟨a7, a8⟩⟩, ⟨⟨a9, b1⟩, b2⟩, _⟩ => by (first|omega|(dsimp only at *;omega)|(simp at *;omega)))
      · refine xr_op rfl rfl (xv_move rfl ?_)
        refine xr_no rfl rfl rfl rfl ?_
        refine xr_no rfl rfl rfl rfl ?_
        refine xr_no rfl rfl rfl rfl ?_
        refine xr_no rfl rfl rfl rfl ?_
        refine xr_no rfl rfl rfl rfl ?_
        refine xr_op rfl rfl (xv_pick rfl rfl ?_)
        refine xr_op rfl rfl (xv_move rfl ?_)
        refine xr_no rfl rfl rfl rfl ?_
        refine xr_no rfl rfl rfl rfl ?_
        refine xr_no rfl rfl rfl rfl ?_
        refine xr_op rfl rfl (xv_pick rfl rfl ?_)
        refine xr_op rfl rfl (xv_move rfl ?_)
        refine xr_no rfl rfl rfl rfl ?_
        refine xr_no rfl rfl rfl rfl ?_
        refine xr_no rfl rfl rfl rfl ?_
        refine xr_op rfl rfl (xv_pick rfl rfl ?_)
        refine xr_op rfl rfl (xv_assign rfl ?_)
        refine xr_end rfl ?_
        refine th_n ?_
        refine xc_seq (xc_region ?_)
        refine xr_op rfl rfl (xv_move rfl ?_)
        refine xr_op rfl rfl (xv_move rfl ?_)
        refine xr_no rfl rfl rfl rfl ?_
        refine xr_op rfl rfl (xv_pick rfl rfl ?_)
        refine xr_op rfl rfl (xv_move rfl ?_)
        refine xr_no rfl rfl rfl rfl ?_
        refine xr_no rfl rfl rfl rfl ?_
        refine xr_no rfl rfl rfl rfl ?_
        refine xr_no rfl rfl rfl rfl ?_
        refine xr_no rfl rfl rfl rfl ?_
        refine xr_no rfl rfl rfl rfl ?_
        refine xr_op rfl rfl (xv_pick rfl rfl ?_)
        refine xr_op rfl rfl (xv_move rfl ?_)
        refine xr_no rfl rfl rfl rfl ?_
        refine xr_no rfl rfl rfl rfl ?_
        refine xr_no rfl rfl rfl rfl ?_
        refine xr_no rfl rfl rfl rfl ?_
        refine xr_no rfl rfl rfl rfl ?_
        refine xr_op rfl rfl (xv_pick rfl rfl ?_)
        refine xr_op rfl rfl (xv_move rfl ?_)
        refine xr_no rfl rfl rfl rfl ?_
        refine xr_no rfl rfl rfl rfl ?_
        refine xr_no rfl rfl rfl rfl ?_
        refine xr_no rfl rfl rfl rfl ?_
        refine xr_no rfl rfl rfl rfl ?_
        refine xr_op rfl rfl (xv_pick rfl rfl ?_)
        refine xr_op rfl rfl (xv_assign rfl ?_)
        refine xr_end rfl ?_
        refine th_n ?_
        refine xc_ret ?_
        refine body_ret (h' := h) rfl (ro_tmp rfl ro_nil) (by (first|((repeat first|exact s_0|exact s_1|exact s_3|refine s_4 ?_|refine s_5 ?_|refine s_6 ?_|refine s_7 ?_);done)|((repeat first|exact s_0|exact s_1|exact s_3|refine s_4 ?_|refine s_5 ?_|refine s_6 ?_|refine s_8 ?_);done))) ?_
        first
          | exact H1 ⟨by unfold numsOk; (first|omega|(dsimp only at *;omega)|(simp at *;omega)), by unfold sizesOk; (first|omega|(dsimp only at *;omega)|(simp at *;omega)), frm0_of hkt (by (first|omega|(dsimp only at *;omega)|(simp at *;omega))), hto, fun m hm => by have h9 := of_decide_eq_false (hmo m hm); exact Decidable.not_not.1 h9⟩
          | exact H2 (fun ⟨q1, q2, q3, q4, q5⟩ => of_decide_eq_true hmo (q5 x9 hx9))
          | exact H2 (fun ⟨q1, q2, q3, q4, q5⟩ => hto q4)
          | exact H2 (fun ⟨q1, q2, q3, q4, q5⟩ => by have := frm0_at q3 hkt; (first|omega|(dsimp only at *;omega)|(simp at *;omega)))
          | exact H2 (fun ⟨⟨⟨a1, a2⟩, ⟨a3, a4⟩, ⟨a5, a6⟩, ⟨a7, a8⟩⟩, ⟨⟨a9, b1⟩, b2⟩, _⟩ => by (first|omega|(dsimp only at *;omega)|(simp at *;omega)))
  · refine xr_op rfl rfl (xv_move rfl ?_)
    refine xr_no rfl rfl rfl rfl ?_
    refine xr_no rfl rfl rfl rfl ?_
    refine xr_no rfl rfl rfl rfl ?_
    refine xr_no rfl rfl rfl rfl ?_
    refine xr_op rfl rfl (xv_pick rfl rfl ?_)
    refine xr_op rfl rfl (xv_assign rfl ?_)
    refine xr_end rfl ?_
    refine th_n ?_
    refine xc_seq (xc_region ?_)
    refine xr_op rfl rfl (xv_faddr fl25_1 rfl ?_)
    refine xr_op rfl rfl (xv_load1 ty3 rfl rfl (by ((repeat first|exact z_0|assumption|refine z_1 ?_|(refine z_l ?_;(repeat first|exact z_0|assumption|refine z_1 ?_);done)|refine z_r ?_);done)) (by rfl) ?_)
    refine xr_op rfl rfl (xv_calls rfl hb33 (within_c _ _ _ (fun hl30 hu31 => up_ret ?_) (fun hn32 => up_ret ?_)))
    · refine xr_op rfl rfl (xv_move rfl ?_)
      refine xr_gd rfl rfl rfl (xv_faddr fl25_0 rfl ?_)
      refine xr_gd rfl rfl rfl (xv_load1 ty3 rfl rfl (by ((repeat first|exact z_0|assumption|refine z_1 ?_|(refine z_l ?_;(repeat first|exact z_0|assumption|refine z_1 ?_);done)|refine z_r ?_);done)) (by rfl) ?_)
      refine xr_gd rfl rfl rfl (xv_faddr fl25_1 rfl ?_)
      refine xr_gd rfl rfl rfl (xv_load1 ty3 rfl rfl (by ((repeat first|exact z_0|assumption|refine z_1 ?_|(refine z_l ?_;(repeat first|exact z_0|assumption|refine z_1 ?_);done)|refine z_r ?_);done)) (by rfl) ?_)
      refine xr_gd rfl rfl rfl (xv_calls rfl hb33 (within_c _ _ _ (fun hl33 hu34 => up_ret ?_) (fun hn35 => up_ret ?_)))
      · refine xr_op rfl rfl (xv_pick rfl rfl ?_)
        refine xr_op rfl rfl (xv_move rfl ?_)
        refine xr_gd rfl rfl rfl (xv_faddr fl25_2 rfl ?_)
        refine xr_gd rfl rfl rfl (xv_load1 ty3 rfl rfl (by ((repeat first|exact z_0|assumption|refine z_1 ?_|(refine z_l ?_;(repeat first|exact z_0|assumption|refine z_1 ?_);done)|refine z_r ?_);done)) (by rfl) ?_)
        refine xr_gd rfl rfl rfl (xv_calls rfl hb33 (within_c _ _ _ (fun hl36 hu37 => up_ret ?_) (fun hn38 => up_ret ?_)))
        · refine xr_op rfl rfl (xv_pick rfl rfl ?_)
          refine xr_op rfl rfl (xv_move rfl ?_)
          refine xr_gd rfl rfl rfl (xv_faddr fl25_3 rfl ?_)
          refine xr_gd rfl rfl rfl (xv_load1 ty3 rfl rfl (by ((repeat first|exact z_0|assumption|refine z_1 ?_|(refine z_l ?_;(repeat first|exact z_0|assumption|refine z_1 ?_);done)|refine z_r ?_);done)) (by rfl) ?_)
          refine xr_gd rfl rfl rfl (xv_calls rfl hb33 (within_c _ _ _ (fun hl39 hu40 => up_ret ?_) (fun hn41 => up_ret ?_)))
          · refine xr_op rfl rfl (xv_pick rfl rfl ?_)
            refine xr_op rfl rfl (xv_assign rfl ?_)
            refine xr_end rfl ?_
            refine th_n ?_
            refine xc_seq (xc_region ?_)
            refine xr_op rfl rfl (xv_move rfl ?_)
            refine xr_op rfl rfl (xv_move rfl ?_)
            refine xr_no rfl rfl rfl rfl ?_
            refine xr_op rfl rfl (xv_pick rfl rfl ?_)
            refine xr_op rfl rfl (xv_move rfl ?_)
            refine xr_no rfl rfl rfl rfl ?_
            refine xr_no rfl rfl rfl rfl ?_
            refine xr_no rfl rfl rfl rfl ?_
            refine xr_no rfl rfl rfl rfl ?_
            refine xr_no rfl rfl rfl rfl ?_
            refine xr_no rfl rfl rfl rfl ?_
            refine xr_op rfl rfl (xv_pick rfl rfl ?_)
            refine xr_op rfl rfl (xv_move rfl ?_)
            refine xr_no rfl rfl rfl rfl ?_
            refine xr_no rfl rfl rfl rfl ?_
            refine xr_no rfl rfl rfl rfl ?_
            refine xr_no rfl rfl rfl rfl ?_
            refine xr_no rfl rfl rfl rfl ?_
            refine xr_op rfl rfl (xv_pick rfl rfl ?_)
            refine xr_op rfl rfl (xv_move rfl ?_)
            refine xr_no rfl rfl rfl rfl ?_
            refine xr_no rfl rfl rfl rfl ?_
            refine xr_no rfl rfl rfl rfl ?_
            refine xr_no rfl rfl rfl rfl ?_
            refine xr_no rfl rfl rfl rfl ?_
            refine xr_op rfl rfl (xv_pick rfl rfl ?_)
            refine xr_op rfl rfl (xv_assign rfl ?_)
            refine xr_end rfl ?_
            refine th_n ?_
            refine xc_ret ?_
            refine body_ret (h' := h) rfl (ro_tmp rfl ro_nil) (by (first|((repeat first|exact s_0|exact s_1|exact s_3|refine s_4 ?_|refine s_5 ?_|refine s_6 ?_|refine s_7 ?_);done)|((repeat first|exact s_0|exact s_1|exact s_3|refine s_4 ?_|refine s_5 ?_|refine s_6 ?_|refine s_8 ?_);done))) ?_
            first
              | exact H1 ⟨by unfold numsOk; (first|omega|(dsimp only at *;omega)|(simp at *;omega)), by unfold sizesOk; (first|omega|(dsimp only at *;omega)|(simp at *;omega)), frm0_of hkt (by (first|omega|(dsimp only at *;omega)|(simp at *;omega))), hto, fun m hm => by have h9 := of_decide_eq_false (hmo m hm); exact Decidable.not_not.1 h9⟩
              | exact H2 (fun ⟨q1, q2, q3, q4, q5⟩ => of_decide_eq_true hmo (q5 x9 hx9))
              | exact H2 (fun ⟨q1, q2, q3, q4, q5⟩ => hto q4)
              | exact H2 (fun ⟨q1, q2, q3, q4, q5⟩ => by have := frm0_at q3 hkt; (first|omega|(dsimp only at *;omega)|(simp at *;omega)))
              | exact H2 (fun ⟨⟨⟨a1, a2⟩, ⟨a3, a4⟩, ⟨a5, a6⟩, ⟨a7, a8⟩⟩, ⟨⟨a9, b1⟩, b2⟩, _⟩ => by (first|omega|(dsimp only at *;omega)|(simp at *;omega)))
          · refine xr_op rfl rfl (xv_pick rfl rfl ?_)
            refine xr_op rfl rfl (xv_assign rfl ?_)
            refine xr_end rfl ?_
            refine th_n ?_
            refine xc_seq (xc_region ?_)
            refine xr_op rfl rfl (xv_move rfl ?_)
            refine xr_op rfl rfl (xv_move rfl ?_)
            refine xr_no rfl rfl rfl rfl ?_
            refine xr_op rfl rfl (xv_pick rfl rfl ?_)
            refine xr_op rfl rfl (xv_move rfl ?_)
            refine xr_no rfl rfl rfl rfl ?_
            refine xr_no rfl rfl rfl rfl ?_
            refine xr_no rfl rfl rfl rfl ?_
            refine xr_no rfl rfl rfl rfl ?_
            refine xr_no rfl rfl rfl rfl ?_
            refine xr_no rfl rfl rfl rfl ?_
            refine xr_op rfl rfl (xv_pick rfl rfl ?_)
            refine xr_op rfl rfl (xv_move rfl ?_)
            refine xr_no rfl rfl rfl rfl ?_
            refine xr_no rfl rfl rfl rfl ?_
            refine xr_no rfl rfl rfl rfl ?_
            refine xr_no rfl rfl rfl rfl ?_
            refine xr_no rfl rfl rfl rfl ?_
            refine xr_op rfl rfl (xv_pick rfl rfl ?_)
            refine xr_op rfl rfl (xv_move rfl ?_)
            refine xr_no rfl rfl rfl rfl ?_
            refine xr_no rfl rfl rfl rfl ?_
            refine xr_no rfl rfl rfl rfl ?_
            refine xr_no rfl rfl rfl rfl ?_
            refine xr_no rfl rfl rfl rfl ?_
            refine xr_op rfl rfl (xv_pick rfl rfl ?_)
            refine xr_op rfl rfl (xv_assign rfl ?_)
            refine xr_end rfl ?_
            refine th_n ?_
            refine xc_ret ?_
            refine body_ret (h' := h) rfl (ro_tmp rfl ro_nil) (by (first|((repeat first|exact s_0|exact s_1|exact s_3|refine s_4 ?_|refine s_5 ?_|refine s_6 ?_|refine s_7 ?_);done)|((repeat first|exact s_0|exact s_1|exact s_3|refine s_4 ?_|refine s_5 ?_|refine s_6 ?_|refine s_8 ?_);done))) ?_
            first
              | exact H1 ⟨by unfold numsOk; (first|omega|(dsimp only at *;omega)|(simp at *;omega)), by unfold sizesOk; (first|omega|(dsimp only at *;omega)|(simp at *;omega)), frm0_of hkt (by (first|omega|(dsimp only at *;omega)|(simp at *;omega))), hto, fun m hm => by have h9 := of_decide_eq_false (hmo m hm); exact Decidable.not_not.1 h9⟩
              | exact H2 (fun ⟨q1, q2, q3, q4, q5⟩ => of_decide_eq_true hmo (q5 x9 hx9))
              | exact H2 (fun ⟨q1, q2, q3, q4, q5⟩ => hto q4)
              | exact H2 (fun ⟨q1, q2, q3, q4, q5⟩ => by have := frm0_at q3 hkt; (first|omega|(dsimp only at *;omega)|(simp at *;omega)))
              | exact H2 (fun ⟨⟨⟨a1, a2⟩, ⟨a3, a4⟩, ⟨a5, a6⟩, ⟨a7, a8⟩⟩, ⟨⟨a9, b1⟩, b2⟩, _⟩ => by (first|omega|(dsimp only at *;omega)|(simp at *;omega)))
        · refine xr_op rfl rfl (xv_pick rfl rfl ?_)
          refine xr_op rfl rfl (xv_move rfl ?_)
          refine xr_no rfl rfl rfl rfl ?_
          refine xr_no rfl rfl rfl rfl ?_
          refine xr_no rfl rfl rfl rfl ?_
          refine xr_op rfl rfl (xv_pick rfl rfl ?_)
          refine xr_op rfl rfl (xv_assign rfl ?_)
          refine xr_end rfl ?_
          refine th_n ?_
          refine xc_seq (xc_region ?_)
          refine xr_op rfl rfl (xv_move rfl ?_)
          refine xr_op rfl rfl (xv_move rfl ?_)
          refine xr_no rfl rfl rfl rfl ?_
          refine xr_op rfl rfl (xv_pick rfl rfl ?_)
          refine xr_op rfl rfl (xv_move rfl ?_)
          refine xr_no rfl rfl rfl rfl ?_
          refine xr_no rfl rfl rfl rfl ?_
          refine xr_no rfl rfl rfl rfl ?_
          refine xr_no rfl rfl rfl rfl ?_
          refine xr_no rfl rfl rfl rfl ?_
          refine xr_no rfl rfl rfl rfl ?_
          refine xr_op rfl rfl (xv_pick rfl rfl ?_)
          refine xr_op rfl rfl (xv_move rfl ?_)
          refine xr_no rfl rfl rfl rfl ?_
          refine xr_no rfl rfl rfl rfl ?_
          refine xr_no rfl rfl rfl rfl ?_
          refine xr_no rfl rfl rfl rfl ?_
          refine xr_no rfl rfl rfl rfl ?_
          refine xr_op rfl rfl (xv_pick rfl rfl ?_)
          refine xr_op rfl rfl (xv_move rfl ?_)
          refine xr_no rfl rfl rfl rfl ?_
          refine xr_no rfl rfl rfl rfl ?_
          refine xr_no rfl rfl rfl rfl ?_
          refine xr_no rfl rfl rfl rfl ?_
          refine xr_no rfl rfl rfl rfl ?_
          refine xr_op rfl rfl (xv_pick rfl rfl ?_)
          refine xr_op rfl rfl (xv_assign rfl ?_)
          refine xr_end rfl ?_
          refine th_n ?_
          refine xc_ret ?_
          refine body_ret (h' := h) rfl (ro_tmp rfl ro_nil) (by (first|((repeat first|exact s_0|exact s_1|exact s_3|refine s_4 ?_|refine s_5 ?_|refine s_6 ?_|refine s_7 ?_);done)|((repeat first|exact s_0|exact s_1|exact s_3|refine s_4 ?_|refine s_5 ?_|refine s_6 ?_|refine s_8 ?_);done))) ?_
          first
            | exact H1 ⟨by unfold numsOk; (first|omega|(dsimp only at *;omega)|(simp at *;omega)), by unfold sizesOk; (first|omega|(dsimp only at *;omega)|(simp at *;omega)), frm0_of hkt (by (first|omega|(dsimp only at *;omega)|(simp at *;omega))), hto, fun m hm => by have h9 := of_decide_eq_false (hmo m hm); exact Decidable.not_not.1 h9⟩
            | exact H2 (fun ⟨q1, q2, q3, q4, q5⟩ => of_decide_eq_true hmo (q5 x9 hx9))
            | exact H2 (fun ⟨q1, q2, q3, q4, q5⟩ => hto q4)
            | exact H2 (fun ⟨q1, q2, q3, q4, q5⟩ => by have := frm0_at q3 hkt; (first|omega|(dsimp only at *;omega)|(simp at *;omega)))
            | exact H2 (fun ⟨⟨⟨a1, a2⟩, ⟨a3, a4⟩, ⟨a5, a6⟩, ⟨a7, a8⟩⟩, ⟨⟨a9, b1⟩, b2⟩, _⟩ => by (first|omega|(dsimp only at *;omega)|(simp at *;omega)))
      · refine xr_op rfl rfl (xv_pick rfl rfl ?_)
        refine xr_op rfl rfl (xv_move rfl ?_)
        refine xr_no rfl rfl rfl rfl ?_
        refine xr_no rfl rfl rfl rfl ?_
        refine xr_no rfl rfl rfl rfl ?_
        refine xr_op rfl rfl (xv_pick rfl rfl ?_)
        refine xr_op rfl rfl (xv_move rfl ?_)
        refine xr_no rfl rfl rfl rfl ?_
        refine xr_no rfl rfl rfl rfl ?_
        refine xr_no rfl rfl rfl rfl ?_
        refine xr_op rfl rfl (xv_pick rfl rfl ?_)
        refine xr_op rfl rfl (xv_assign rfl ?_)
        refine xr_end rfl ?_
        refine th_n ?_
        refine xc_seq (xc_region ?_)
        refine xr_op rfl rfl (xv_move rfl ?_)
        refine xr_op rfl rfl (xv_move rfl ?_)
        refine xr_no rfl rfl rfl rfl ?_
        refine xr_op rfl rfl (xv_pick rfl rfl ?_)
        refine xr_op rfl rfl (xv_move rfl ?_)
        refine xr_no rfl rfl rfl rfl ?_
        refine xr_no rfl rfl rfl rfl ?_
        refine xr_no rfl rfl rfl rfl ?_
        refine xr_no rfl rfl rfl rfl ?_
        refine xr_no rfl rfl rfl rfl ?_
        refine xr_no rfl rfl rfl rfl ?_
        refine xr_op rfl rfl (xv_pick rfl rfl ?_)
        refine xr_op rfl rfl (xv_move rfl ?_)
        refine xr_no rfl rfl rfl rfl ?_
        refine xr_no rfl rfl rfl rfl ?_
        refine xr_no rfl rfl rfl rfl ?_
        refine xr_no rfl rfl rfl rfl ?_
        refine xr_no rfl rfl rfl rfl ?_
        refine xr_op rfl rfl (xv_pick rfl rfl ?_)
        refine xr_op rfl rfl (xv_move rfl ?_)
        refine xr_no rfl rfl rfl rfl ?_
        refine xr_no rfl rfl rfl rfl ?_
        refine xr_no rfl rfl rfl rfl ?_
        refine xr_no rfl rfl rfl rfl ?_
        refine xr_no rfl rfl rfl rfl ?_
        refine xr_op rfl rfl (xv_pick rfl rfl ?_)
        refine xr_op rfl rfl (xv_assign rfl ?_)
        refine xr_end rfl ?_
        refine th_n ?_
        refine xc_ret ?_
        refine body_ret (h' := h) rfl (ro_tmp rfl ro_nil) (by (first|((repeat first|exact s_0|exact s_1|exact s_3|refine s_4 ?_|refine s_5 ?_|refine s_6 ?_|refine s_7 ?_);done)|((repeat first|exact s_0|exact s_1|exact s_3|refine s_4 ?_|refine s_5 ?_|refine s_6 ?_|refine s_8 ?_);done))) ?_
        first
          | exact H1 ⟨by unfold numsOk; (first|omega|(dsimp only at *;omega)|(simp at *;omega)), by unfold sizesOk; (first|omega|(dsimp only at *;omega)|(simp at *;omega)), frm0_of hkt (by (first|omega|(dsimp only at *;omega)|(simp at *;omega))), hto, fun m hm => by have h9 := of_decide_eq_false (hmo m hm); exact Decidable.not_not.1 h9⟩
          | exact H2 (fun ⟨q1, q2, q3, q4, q5⟩ => of_decide_eq_true hmo (q5 x9 hx9))
          | exact H2 (fun ⟨q1, q2, q3, q4, q5⟩ => hto q4)
          | exact H2 (fun ⟨q1, q2, q3, q4, q5⟩ => by have := frm0_at q3 hkt; (first|omega|(dsimp only at *;omega)|(simp at *;omega)))
          | exact H2 (fun ⟨⟨⟨a1, a2⟩, ⟨a3, a4⟩, ⟨a5, a6⟩, ⟨a7, a8⟩⟩, ⟨⟨a9, b1⟩, b2⟩, _⟩ => by (first|omega|(dsimp only at *;omega)|(simp at *;omega)))
    · refine xr_op rfl rfl (xv_move rfl ?_)
      refine xr_no rfl rfl rfl rfl ?_
      refine xr_no rfl rfl rfl rfl ?_
      refine xr_no rfl rfl rfl rfl ?_
      refine xr_no rfl rfl rfl rfl ?_
      refine xr_no rfl rfl rfl rfl ?_
      refine xr_op rfl rfl (xv_pick rfl rfl ?_)
      refine xr_op rfl rfl (xv_move rfl ?_)
      refine xr_no rfl rfl rfl rfl ?_
      refine xr_no rfl rfl rfl rfl ?_
      refine xr_no rfl rfl rfl rfl ?_
      refine xr_op rfl rfl (xv_pick rfl rfl ?_)
      refine xr_op rfl rfl (xv_move rfl ?_)
      refine xr_no rfl rfl rfl rfl ?_
      refine xr_no rfl rfl rfl rfl ?_
      refine xr_no rfl rfl rfl rfl ?_
      refine xr_op rfl rfl (xv_pick rfl rfl ?_)
      refine xr_op rfl rfl (xv_assign rfl ?_)
      refine xr_end rfl ?_
      refine th_n ?_
      refine xc_seq (xc_region ?_)
      refine xr_op rfl rfl (xv_move rfl ?_)
      refine xr_op rfl rfl (xv_move rfl ?_)
      refine xr_no rfl rfl rfl rfl ?_
      refine xr_op rfl rfl (xv_pick rfl rfl ?_)
      refine xr_op rfl rfl (xv_move rfl ?_)
      refine xr_no rfl rfl rfl rfl ?_
      refine xr_no rfl rfl rfl rfl ?_
      refine xr_no rfl rfl rfl rfl ?_
      refine xr_no rfl rfl rfl rfl ?_
      refine xr_no rfl rfl rfl rfl ?_
      refine xr_no rfl rfl rfl rfl ?_
      refine xr_op rfl rfl (xv_pick rfl rfl ?_)
      refine xr_op rfl rfl (xv_move rfl ?_)
      refine xr_no rfl rfl rfl rfl ?_
      refine xr_no rfl rfl rfl rfl ?_
      refine xr_no rfl rfl rfl rfl ?_
      refine xr_no rfl rfl rfl rfl ?_
      refine xr_no rfl rfl rfl rfl ?_
      refine xr_op rfl rfl (xv_pick rfl rfl ?_)
      refine xr_op rfl rfl (xv_move rfl ?_)
      refine xr_no rfl rfl rfl rfl ?_
      refine xr_no rfl rfl rfl rfl ?_
      refine xr_no rfl rfl rfl rfl ?_
      refine xr_no rfl rfl rfl rfl ?_
      refine xr_no rfl rfl rfl rfl ?_
      refine xr_op rfl rfl (xv_pick rfl rfl ?_)
      refine xr_op rfl rfl (xv_assign rfl ?_)
      refine xr_end rfl ?_
      refine th_n ?_
      refine xc_ret ?_
      refine body_ret (h' := h) rfl (ro_tmp rfl ro_nil) (by (first|((repeat first|exact s_0|exact s_1|exact s_3|refine s_4 ?_|refine s_5 ?_|refine s_6 ?_|refine s_7 ?_);done)|((repeat first|exact s_0|exact s_1|exact s_3|refine s_4 ?_|refine s_5 ?_|refine s_6 ?_|refine s_8 ?_);done))) ?_
      first
        | exact H1 ⟨by unfold numsOk; (first|omega|(dsimp only at *;omega)|(simp at *;omega)), by unfold sizesOk; (first|omega|(dsimp only at *;omega)|(simp at *;omega)), frm0_of hkt (by (first|omega|(dsimp only at *;omega)|(simp at *;omega))), hto, fun m hm => by have h9 := of_decide_eq_false (hmo m hm); exact Decidable.not_not.1 h9⟩
        | exact H2 (fun ⟨q1, q2, q3, q4, q5⟩ => of_decide_eq_true hmo (q5 x9 hx9))
        | exact H2 (fun ⟨q1, q2, q3, q4, q5⟩ => hto q4)
        | exact H2 (fun ⟨q1, q2, q3, q4, q5⟩ => by have := frm0_at q3 hkt; (first|omega|(dsimp only at *;omega)|(simp at *;omega)))
        | exact H2 (fun ⟨⟨⟨a1, a2⟩, ⟨a3, a4⟩, ⟨a5, a6⟩, ⟨a7, a8⟩⟩, ⟨⟨a9, b1⟩, b2⟩, _⟩ => by (first|omega|(dsimp only at *;omega)|(simp at *;omega)))

end Go.Proofs.Ytlcdbjgfeoagbaa

/-
  Comparing; the order of marks.
-/
set_option linter.all false
namespace Go.Proofs.Ytlcdbjgfeoagbaa
open Go Go.H
def cmpI (x y : Int) : Int := if x < y then -1 else if x > y then 1 else 0
theorem cmpI_lt {x y : Int} : cmpI x y < 0 ↔ x < y := by unfold cmpI; split <;> (try split) <;> omega
theorem cmpI_0 {x y : Int} : cmpI x y = 0 ↔ x = y := by unfold cmpI; split <;> (try split) <;> omega
theorem cmpI_ge {x y : Int} : 0 ≤ cmpI x y ↔ y ≤ x := by unfold cmpI; split <;> (try split) <;> omega
def cmM (x y : Mark) : Int := cmpI x.hour y.hour
theorem swoM : Go.Sort.SWO (ltc cmM) where
  irrefl x := by unfold ltc cmM; simp [cmpI]
  trans x y z h1 h2 := by
    unfold ltc cmM at *
    rw [decide_eq_true_iff, cmpI_lt] at *
    omega
  ntrans x y z h1 h2 := by
    unfold ltc cmM at *
    rw [decide_eq_false_iff_not, cmpI_lt] at *
    omega
end Go.Proofs.Ytlcdbjgfeoagbaa

/-
  Walks.
-/
namespace Go.Proofs.Ytlcdbjgfeoagbaa
open Go Go.H
set_option maxRecDepth 100000
set_option maxHeartbeats 8000000
set_option linter.all false
theorem isNaN_c {x : Int} {h : Hp} {R : Ending → Hp → Prop} (H : R (.returned (.bool false)) h) :
    ACalls Try.prog 67 ⟨[I x]⟩ h R := by
  refine calls_of_xc (N := 6) Try.func67 rfl (by rfl) ?_
  refine xc_seq (xc_region ?_)
  refine xr_op rfl rfl (xv_assign rfl ?_)
  refine xr_end rfl ?_
  refine th_n ?_
  refine xc_seq (xc_region ?_)
  refine xr_op rfl rfl (xv_move rfl ?_)
  refine xr_op rfl rfl (xv_move rfl ?_)
  refine xr_op rfl rfl (xv_neqF rfl rfl rfl ?_)
  refine xr_op rfl rfl (xv_assign rfl ?_)
  refine xr_end rfl ?_
  refine th_n ?_
  refine xc_ret ?_
  refine body_ret (h' := h) rfl (ro_tmp rfl ro_nil) (by (first|((repeat first|exact s_0|exact s_1|exact s_3|refine s_4 ?_|refine s_5 ?_|refine s_6 ?_|refine s_7 ?_);done)|((repeat first|exact s_0|exact s_1|exact s_3|refine s_4 ?_|refine s_5 ?_|refine s_6 ?_|refine s_8 ?_);done))) ?_
  exact H

theorem compare_c {x y : Int} {h : Hp} {R : Ending → Hp → Prop} (H : R (.returned (I (cmpI x y))) h) :
    ACalls Try.prog 49 ⟨[I x, I y]⟩ h R := by
  refine calls_of_xc (N := 20) Try.func49 rfl (by rfl) ?_
  refine xc_seq (xc_region ?_)
  refine xr_op rfl rfl (xv_assign rfl ?_)
  refine xr_end rfl ?_
  refine th_n ?_
  refine xc_seq (xc_region ?_)
  refine xr_op rfl rfl (xv_move rfl ?_)
  refine xr_op rfl rfl (xv_calls rfl hb67 (isNaN_c (up_ret ?_)))
  refine xr_op rfl rfl (xv_assign rfl ?_)
  refine xr_end rfl ?_
  refine th_n ?_
  refine xc_seq (xc_region ?_)
  refine xr_op rfl rfl (xv_move rfl ?_)
  refine xr_op rfl rfl (xv_calls rfl hb67 (isNaN_c (up_ret ?_)))
  refine xr_op rfl rfl (xv_assign rfl ?_)
  refine xr_end rfl ?_
  refine th_n ?_
  refine xc_seq ?_
  refine xc_seq (xc_region ?_)
  refine xr_op rfl rfl (xv_move rfl ?_)
  refine xr_end rfl ?_
  refine th_n ?_
  refine xc_false rfl ?_
  refine xc_skip ?_
  refine th_n ?_
  refine xc_seq ?_
  refine xc_seq (xc_region ?_)
  refine xr_op rfl rfl (xv_move rfl ?_)
  refine xr_end rfl ?_
  refine th_n ?_
  refine xc_false rfl ?_
  refine xc_skip ?_
  refine th_n ?_
  refine xc_seq ?_
  refine xc_seq (xc_region ?_)
  refine xr_op rfl rfl (xv_move rfl ?_)
  refine xr_op rfl rfl (xv_move rfl ?_)
  refine xr_op rfl rfl (xv_lss2 rfl rfl (fun q1 => ?_) (fun q1 => ?_))
  · refine xr_end rfl ?_
    refine th_n ?_
    refine xc_true rfl ?_
    refine xc_seq (xc_region ?_)
    refine xr_op rfl rfl (xv_assign rfl ?_)
    refine xr_end rfl ?_
    refine th_n ?_
    refine xc_ret ?_
    refine th_r ?_
    refine body_ret (h' := h) rfl (ro_tmp rfl ro_nil) (by (first|((repeat first|exact s_0|exact s_1|exact s_3|refine s_4 ?_|refine s_5 ?_|refine s_6 ?_|refine s_7 ?_);done)|((repeat first|exact s_0|exact s_1|exact s_3|refine s_4 ?_|refine s_5 ?_|refine s_6 ?_|refine s_8 ?_);done))) ?_
    first | (rw [show cmpI x y = -1 from if_pos (by omega)] at H; exact H) | (rw [show cmpI x y = 1 by unfold cmpI; rw [if_neg (by omega), if_pos (by omega)]] at H; exact H) | (rw [show cmpI x y = 0 by unfold cmpI; rw [if_neg (by omega), if_neg (by omega)]] at H; exact H)
  · refine xr_end rfl ?_
    refine th_n ?_
    refine xc_false rfl ?_
    refine xc_skip ?_
    refine th_n ?_
    refine xc_seq ?_
    refine xc_seq (xc_region ?_)
    refine xr_op rfl rfl (xv_move rfl ?_)
    refine xr_op rfl rfl (xv_move rfl ?_)
    refine xr_op rfl rfl (xv_gtr2 rfl rfl (fun q2 => ?_) (fun q2 => ?_))
    · refine xr_end rfl ?_
      refine th_n ?_
      refine xc_true rfl ?_
      refine xc_seq (xc_region ?_)
      refine xr_op rfl rfl (xv_assign rfl ?_)
      refine xr_end rfl ?_
      refine th_n ?_
      refine xc_ret ?_
      refine th_r ?_
      refine body_ret (h' := h) rfl (ro_tmp rfl ro_nil) (by (first|((repeat first|exact s_0|exact s_1|exact s_3|refine s_4 ?_|refine s_5 ?_|refine s_6 ?_|refine s_7 ?_);done)|((repeat first|exact s_0|exact s_1|exact s_3|refine s_4 ?_|refine s_5 ?_|refine s_6 ?_|refine s_8 ?_);done))) ?_
      first | (rw [show cmpI x y = -1 from if_pos (by omega)] at H; exact H) | (rw [show cmpI x y = 1 by unfold cmpI; rw [if_neg (by omega), if_pos (by omega)]] at H; exact H) | (rw [show cmpI x y = 0 by unfold cmpI; rw [if_neg (by omega), if_neg (by omega)]] at H; exact H)
    · refine xr_end rfl ?_
      refine th_n ?_
      refine xc_false rfl ?_
      refine xc_skip ?_
      refine th_n ?_
      refine xc_seq (xc_region ?_)
      refine xr_op rfl rfl (xv_assign rfl ?_)
      refine xr_end rfl ?_
      refine th_n ?_
      refine xc_ret ?_
      refine body_ret (h' := h) rfl (ro_tmp rfl ro_nil) (by (first|((repeat first|exact s_0|exact s_1|exact s_3|refine s_4 ?_|refine s_5 ?_|refine s_6 ?_|refine s_7 ?_);done)|((repeat first|exact s_0|exact s_1|exact s_3|refine s_4 ?_|refine s_5 ?_|refine s_6 ?_|refine s_8 ?_);done))) ?_
      first | (rw [show cmpI x y = -1 from if_pos (by omega)] at H; exact H) | (rw [show cmpI x y = 1 by unfold cmpI; rw [if_neg (by omega), if_pos (by omega)]] at H; exact H) | (rw [show cmpI x y = 0 by unfold cmpI; rw [if_neg (by omega), if_neg (by omega)]] at H; exact H)

theorem byHour_c {x y : Mark} {h : Hp} {R : Ending → Hp → Prop} (H : R (.returned (I (cmM x y))) h) :
    ACalls Try.prog 48 ⟨[.agg ⟨eMark x⟩, .agg ⟨eMark y⟩]⟩ h R := by
  refine calls_of_xc (N := 10) Try.func48 rfl (by rfl) ?_
  refine xc_seq (xc_region ?_)
  refine xr_op rfl rfl (xv_box rfl (fun b1 hb1 => ?_))
  refine xr_op rfl rfl (xv_box rfl (fun b2 hb2 => ?_))
  refine xr_op rfl rfl (xv_assign rfl ?_)
  refine xr_end rfl ?_
  refine th_n ?_
  refine xc_seq (xc_region ?_)
  refine xr_op rfl rfl (xv_faddr fl42_0 rfl ?_)
  refine xr_op rfl rfl (xv_load1 ty3 rfl rfl (by ((repeat first|exact z_0|assumption|refine z_1 ?_|(refine z_l ?_;(repeat first|exact z_0|assumption|refine z_1 ?_);done)|refine z_r ?_);done)) (by rfl) ?_)
  refine xr_op rfl rfl (xv_faddr fl42_0 rfl ?_)
  refine xr_op rfl rfl (xv_load1 ty3 rfl rfl (by ((repeat first|exact z_0|assumption|refine z_1 ?_|(refine z_l ?_;(repeat first|exact z_0|assumption|refine z_1 ?_);done)|refine z_r ?_);done)) (by rfl) ?_)
  refine xr_op rfl rfl (xv_calls rfl hb49 (compare_c (up_ret ?_)))
  refine xr_op rfl rfl (xv_assign rfl ?_)
  refine xr_end rfl ?_
  refine th_n ?_
  refine xc_ret ?_
  refine body_ret (h' := h) rfl (ro_tmp rfl ro_nil) (by (first|((repeat first|exact s_0|exact s_1|exact s_3|refine s_4 ?_|refine s_5 ?_|refine s_6 ?_|refine s_7 ?_);done)|((repeat first|exact s_0|exact s_1|exact s_3|refine s_4 ?_|refine s_5 ?_|refine s_6 ?_|refine s_8 ?_);done))) ?_
  exact H

theorem byUsed_c {x y : Mark} {h : Hp} {R : Ending → Hp → Prop} (H : R (.returned (I (cmpI x.used y.used))) h) :
    ACalls Try.prog 51 ⟨[.agg ⟨eMark x⟩, .agg ⟨eMark y⟩]⟩ h R := by
  refine calls_of_xc (N := 10) Try.func51 rfl (by rfl) ?_
  refine xc_seq (xc_region ?_)
  refine xr_op rfl rfl (xv_box rfl (fun b1 hb1 => ?_))
  refine xr_op rfl rfl (xv_box rfl (fun b2 hb2 => ?_))
  refine xr_op rfl rfl (xv_assign rfl ?_)
  refine xr_end rfl ?_
  refine th_n ?_
  refine xc_seq (xc_region ?_)
  refine xr_op rfl rfl (xv_faddr fl42_1 rfl ?_)
  refine xr_op rfl rfl (xv_load1 ty3 rfl rfl (by ((repeat first|exact z_0|assumption|refine z_1 ?_|(refine z_l ?_;(repeat first|exact z_0|assumption|refine z_1 ?_);done)|refine z_r ?_);done)) (by rfl) ?_)
  refine xr_op rfl rfl (xv_faddr fl42_1 rfl ?_)
  refine xr_op rfl rfl (xv_load1 ty3 rfl rfl (by ((repeat first|exact z_0|assumption|refine z_1 ?_|(refine z_l ?_;(repeat first|exact z_0|assumption|refine z_1 ?_);done)|refine z_r ?_);done)) (by rfl) ?_)
  refine xr_op rfl rfl (xv_calls rfl hb49 (compare_c (up_ret ?_)))
  refine xr_op rfl rfl (xv_assign rfl ?_)
  refine xr_end rfl ?_
  refine th_n ?_
  refine xc_ret ?_
  refine body_ret (h' := h) rfl (ro_tmp rfl ro_nil) (by (first|((repeat first|exact s_0|exact s_1|exact s_3|refine s_4 ?_|refine s_5 ?_|refine s_6 ?_|refine s_7 ?_);done)|((repeat first|exact s_0|exact s_1|exact s_3|refine s_4 ?_|refine s_5 ?_|refine s_6 ?_|refine s_8 ?_);done))) ?_
  exact H

theorem byFrom_c {x : Tariff} {y : Int} {h : Hp} {R : Ending → Hp → Prop} (H : R (.returned (I (cmpI x.frm y))) h) :
    ACalls Try.prog 56 ⟨[.agg ⟨eTariff x⟩, I y]⟩ h R := by
  refine calls_of_xc (N := 9) Try.func56 rfl (by rfl) ?_
  refine xc_seq (xc_region ?_)
  refine xr_op rfl rfl (xv_box rfl (fun b1 hb1 => ?_))
  refine xr_op rfl rfl (xv_assign rfl ?_)
  refine xr_end rfl ?_
  refine th_n ?_
  refine xc_seq (xc_region ?_)
  refine xr_op rfl rfl (xv_faddr fl54_0 rfl ?_)
  refine xr_op rfl rfl (xv_load1 ty3 rfl rfl (by ((repeat first|exact z_0|assumption|refine z_1 ?_|(refine z_l ?_;(repeat first|exact z_0|assumption|refine z_1 ?_);done)|refine z_r ?_);done)) (by rfl) ?_)
  refine xr_op rfl rfl (xv_move rfl ?_)
  refine xr_op rfl rfl (xv_calls rfl hb49 (compare_c (up_ret ?_)))
  refine xr_op rfl rfl (xv_assign rfl ?_)
  refine xr_end rfl ?_
  refine th_n ?_
  refine xc_ret ?_
  refine body_ret (h' := h) rfl (ro_tmp rfl ro_nil) (by (first|((repeat first|exact s_0|exact s_1|exact s_3|refine s_4 ?_|refine s_5 ?_|refine s_6 ?_|refine s_7 ?_);done)|((repeat first|exact s_0|exact s_1|exact s_3|refine s_4 ?_|refine s_5 ?_|refine s_6 ?_|refine s_8 ?_);done))) ?_
  exact H

theorem ins_c {bb cap N : Nat} {sp : List Value} {d : Array Mark} {f : Value} {cm : Mark → Mark → Int} {p : Mark → Prop} {L : Hp} {R : Ending → Hp → Prop} (hA : Arr N p d) (hN : N ≤ 49) (hf : ∀ x y, p x → p y → ∀ H R', L ⊆ H → R' (.returned (I (cm x y))) H → AFn Try.prog f [.agg ⟨eMark x⟩, .agg ⟨eMark y⟩] H R') {a b : Nat} {ai bi : Int} (ea : ai = a) (eb : bi = b) (hab : a ≤ b) (hb : b ≤ N) (H : Arr N p (Go.Sort.insertionSort (ltc cm) d a b) → R (.returned (.tuple #[])) ((bb, .cells ⟨(Go.Sort.insertionSort (ltc cm) d a b).toList.flatMap eMark ++ sp⟩ 42) :: L)) :
    ACalls Try.prog 85 ⟨[.slice (some ⟨bb, 0, none⟩) N cap, I ai, I bi, f]⟩ ((bb, .cells ⟨(d).toList.flatMap eMark ++ sp⟩ 42) :: L) R := by
  subst ea eb
  refine calls_of_xc (N := 53) Try.func85 rfl (by rfl) ?_
  refine xc_seq (xc_region ?_)
  refine xr_op rfl rfl (xv_move rfl ?_)
  refine xr_op rfl rfl (xv_add rfl rfl (wrap_i64 (by (first|omega|(dsimp only at *;omega)|(simp at *;omega))) (by (first|omega|(dsimp only at *;omega)|(simp at *;omega)))) ?_)
  refine xr_op rfl rfl (xv_assign rfl ?_)
  refine xr_end rfl ?_
  refine th_n ?_
  refine xc_block ?_
  refine xc_loop (σ := Nat × Array Mark) (fun z => a + 1 ≤ z.1 ∧ z.1 ≤ N + 1 ∧ Arr N p z.2 ∧ Go.Sort.insOuter (ltc cm) a b z.1 z.2 = Go.Sort.insertionSort (ltc cm) d a b) (fun z => (((((emp.put (some 0) (.slice (some ⟨bb, 0, none⟩) N cap)).put (some 1) (I a)).put (some 2) (I b)).put (some 3) (f)).put (some 8) (I z.1))) (fun z => ((bb, .cells ⟨(z.2).toList.flatMap eMark ++ sp⟩ 42) :: L)) (fun z => b + 1 - z.1) ((a + 1, d) : Nat × Array Mark) ⟨Nat.le_refl _, by dsimp only; omega, hA, rfl⟩ (le_put (le_put (le_put (le_put (le_put (le_emp _) rfl) rfl) rfl) rfl) rfl) (by (first|((repeat first|exact s_0|exact s_1|exact s_3|refine s_4 ?_|refine s_5 ?_|refine s_6 ?_|refine s_7 ?_);done)|((repeat first|exact s_0|exact s_1|exact s_3|refine s_4 ?_|refine s_5 ?_|refine s_6 ?_|refine s_8 ?_);done))) ?_
  rintro ⟨i, d1⟩ ⟨hi1, hi2, hA1, heq⟩
  dsimp only at hi1 hi2 hA1 heq
  refine xc_seq ?_
  refine xc_seq (xc_region ?_)
  refine xr_op rfl rfl (xv_move rfl ?_)
  refine xr_op rfl rfl (xv_move rfl ?_)
  refine xr_op rfl rfl (xv_lss2 rfl rfl (fun q1 => ?_) (fun q1 => ?_))
  · refine xr_end rfl ?_
    refine th_n ?_
    refine xc_true rfl ?_
    refine xc_skip ?_
    refine th_n ?_
    refine xc_seq ?_
    refine xc_block ?_
    refine xc_seq (xc_region ?_)
    refine xr_op rfl rfl (xv_move rfl ?_)
    refine xr_op rfl rfl (xv_assign rfl ?_)
    refine xr_end rfl ?_
    refine th_n ?_
    refine xc_block ?_
    refine xc_loop (σ := Nat × Array Mark) (fun z => z.1 ≤ i ∧ a ≤ z.1 ∧ Arr N p z.2 ∧ Go.Sort.insInner (ltc cm) a z.1 z.2 = Go.Sort.insInner (ltc cm) a i d1) (fun z => ((((((emp.put (some 0) (.slice (some ⟨bb, 0, none⟩) N cap)).put (some 1) (I a)).put (some 2) (I b)).put (some 3) (f)).put (some 8) (I i)).put (some 9) (I z.1))) (fun z => ((bb, .cells ⟨(z.2).toList.flatMap eMark ++ sp⟩ 42) :: L)) (fun z => z.1) ((i, d1) : Nat × Array Mark) ⟨Nat.le_refl _, by dsimp only; omega, hA1, rfl⟩ (le_put (le_put (le_put (le_put (le_put (le_put (le_emp _) rfl) rfl) rfl) rfl) rfl) rfl) (by (first|((repeat first|exact s_0|exact s_1|exact s_3|refine s_4 ?_|refine s_5 ?_|refine s_6 ?_|refine s_7 ?_);done)|((repeat first|exact s_0|exact s_1|exact s_3|refine s_4 ?_|refine s_5 ?_|refine s_6 ?_|refine s_8 ?_);done))) ?_
    rintro ⟨j, d2⟩ ⟨hj, hja, hA2, heq2⟩
    dsimp only at hj hja hA2 heq2
    have hib0 : i < b := by (first|omega|(dsimp only at *;omega)|(simp at *;omega))
    refine xc_seq ?_
    refine xc_seq ?_
    refine xc_draw0 [(0, .S), (1, .S), (2, .O), (3, .S), (4, .S), (5, .S), (6, .S), (7, .S), (8, .R), (9, .S), (10, .S), (11, .S), (12, .S), (13, .R), (14, .R), (15, .O), (16, .S)] mixed (by kernel_rfl) ?_
    refine js_S rfl rfl (.inl rfl) (xv_move rfl ⟨rfl, rfl⟩) ?_
    refine js_S rfl rfl (.inl rfl) (xv_move rfl ⟨rfl, rfl⟩) ?_
    refine js_O0 rfl rfl (.inl rfl) (xv_gtr2 rfl rfl (fun hq => ?_) (fun hq => ?_))
    · refine js_S rfl rfl (.inl rfl) (xv_move rfl ⟨rfl, rfl⟩) ?_
      refine js_S rfl rfl (.inr ⟨_, _, rfl, rfl⟩) (xv_move rfl ⟨rfl, rfl⟩) ?_
      refine js_S rfl rfl (.inr ⟨_, _, rfl, rfl⟩) (xv_move rfl ⟨rfl, rfl⟩) ?_
      refine js_S rfl rfl (.inr ⟨_, _, rfl, rfl⟩) (xv_move rfl ⟨rfl, rfl⟩) ?_
      refine js_S rfl rfl (.inr ⟨_, _, rfl, rfl⟩) (xv_ia (sz := 2) (j := j) sl23 ty42 rfl rfl rfl (by (first|omega|(dsimp only at *;omega)|(simp at *;omega))) (by (first|omega|(dsimp only at *;omega)|(simp at *;omega))) (by (first|omega|(dsimp only at *;omega)|(simp at *;omega))) ⟨rfl, rfl⟩) ?_
      refine js_R0 rfl rfl (.inr ⟨_, _, rfl, rfl⟩) (xv_loadA ty42 rfl rfl (by ((repeat first|exact z_0|assumption|refine z_1 ?_|(refine z_l ?_;(repeat first|exact z_0|assumption|refine z_1 ?_);done)|refine z_r ?_);done)) (ca_get eMark_len (k := j) (by rw [hA2.size]; (first|omega|(dsimp only at *;omega)|(simp at *;omega)))) rfl ⟨rfl, rfl⟩) ?_
      refine js_S rfl rfl (.inr ⟨_, _, rfl, rfl⟩) (xv_move rfl ⟨rfl, rfl⟩) ?_
      refine js_S rfl rfl (.inr ⟨_, _, rfl, rfl⟩) (xv_move rfl ⟨rfl, rfl⟩) ?_
      refine js_S rfl rfl (.inr ⟨_, _, rfl, rfl⟩) (xv_sub rfl rfl (wrap_i64 (by (first|omega|(dsimp only at *;omega)|(simp at *;omega))) (by (first|omega|(dsimp only at *;omega)|(simp at *;omega)))) ⟨rfl, rfl⟩) ?_
      refine js_S rfl rfl (.inr ⟨_, _, rfl, rfl⟩) (xv_ia (sz := 2) (j := (j - 1)) sl23 ty42 rfl rfl rfl (by (first|omega|(dsimp only at *;omega)|(simp at *;omega))) (by (first|omega|(dsimp only at *;omega)|(simp at *;omega))) (by (first|omega|(dsimp only at *;omega)|(simp at *;omega))) ⟨rfl, rfl⟩) ?_
      refine js_R0 rfl rfl (.inr ⟨_, _, rfl, rfl⟩) (xv_loadA ty42 rfl rfl (by ((repeat first|exact z_0|assumption|refine z_1 ?_|(refine z_l ?_;(repeat first|exact z_0|assumption|refine z_1 ?_);done)|refine z_r ?_);done)) (ca_get eMark_len (k := (j - 1)) (by rw [hA2.size]; (first|omega|(dsimp only at *;omega)|(simp at *;omega)))) rfl ⟨rfl, rfl⟩) ?_
      refine js_R0 rfl rfl (.inr ⟨_, _, rfl, rfl⟩) (xv_fn rfl rfl (hf _ _ (hA2.all _ (by (first|omega|(dsimp only at *;omega)|(simp at *;omega)))) (hA2.all _ (by (first|omega|(dsimp only at *;omega)|(simp at *;omega)))) _ _ (by intro z hz; ((repeat first|exact z_0|assumption|refine z_1 ?_|(refine z_l ?_;(repeat first|exact z_0|assumption|refine z_1 ?_);done)|refine z_r ?_);done)) (up_ret ⟨rfl, rfl⟩))) ?_
      refine js_O0 rfl rfl (.inr ⟨_, _, rfl, rfl⟩) (xv_lss2 rfl rfl (fun hq => ?_) (fun hq => ?_))
      · refine js_S rfl rfl (.inl rfl) (xv_pick rfl rfl ⟨rfl, rfl⟩) ?_
        refine j_end0 ?_
        refine th_n ?_
        refine xc_true rfl ?_
        refine xc_skip ?_
        refine th_n ?_
        refine xc_seq ?_
        refine xc_block ?_
        refine xc_draw0 [(0, .S), (1, .S), (2, .S), (3, .S), (4, .S), (5, .S), (6, .S), (7, .S), (8, .S), (9, .R), (10, .S), (11, .S), (12, .S), (13, .R), (14, .S), (15, .O), (16, .S), (17, .O)] mixed (by kernel_rfl) ?_
        refine js_S rfl rfl (.inl rfl) (xv_move rfl ⟨rfl, rfl⟩) ?_
        refine js_S rfl rfl (.inl rfl) (xv_move rfl ⟨rfl, rfl⟩) ?_
        refine js_S rfl rfl (.inl rfl) (xv_move rfl ⟨rfl, rfl⟩) ?_
        refine js_S rfl rfl (.inl rfl) (xv_move rfl ⟨rfl, rfl⟩) ?_
        refine js_S rfl rfl (.inl rfl) (xv_sub rfl rfl (wrap_i64 (by (first|omega|(dsimp only at *;omega)|(simp at *;omega))) (by (first|omega|(dsimp only at *;omega)|(simp at *;omega)))) ⟨rfl, rfl⟩) ?_
        refine js_S rfl rfl (.inl rfl) (xv_move rfl ⟨rfl, rfl⟩) ?_
        refine js_S rfl rfl (.inl rfl) (xv_move rfl ⟨rfl, rfl⟩) ?_
        refine js_S rfl rfl (.inl rfl) (xv_sub rfl rfl (wrap_i64 (by (first|omega|(dsimp only at *;omega)|(simp at *;omega))) (by (first|omega|(dsimp only at *;omega)|(simp at *;omega)))) ⟨rfl, rfl⟩) ?_
        refine js_S rfl rfl (.inl rfl) (xv_ia (sz := 2) (j := (j - 1)) sl23 ty42 rfl rfl rfl (by (first|omega|(dsimp only at *;omega)|(simp at *;omega))) (by (first|omega|(dsimp only at *;omega)|(simp at *;omega))) (by (first|omega|(dsimp only at *;omega)|(simp at *;omega))) ⟨rfl, rfl⟩) ?_
        refine js_R0 rfl rfl (.inl rfl) (xv_loadA ty42 rfl rfl (by ((repeat first|exact z_0|assumption|refine z_1 ?_|(refine z_l ?_;(repeat first|exact z_0|assumption|refine z_1 ?_);done)|refine z_r ?_);done)) (ca_get eMark_len (k := (j - 1)) (by rw [hA2.size]; (first|omega|(dsimp only at *;omega)|(simp at *;omega)))) rfl ⟨rfl, rfl⟩) ?_
        refine js_S rfl rfl (.inl rfl) (xv_move rfl ⟨rfl, rfl⟩) ?_
        refine js_S rfl rfl (.inl rfl) (xv_move rfl ⟨rfl, rfl⟩) ?_
        refine js_S rfl rfl (.inl rfl) (xv_ia (sz := 2) (j := j) sl23 ty42 rfl rfl rfl (by (first|omega|(dsimp only at *;omega)|(simp at *;omega))) (by (first|omega|(dsimp only at *;omega)|(simp at *;omega))) (by (first|omega|(dsimp only at *;omega)|(simp at *;omega))) ⟨rfl, rfl⟩) ?_
        refine js_R0 rfl rfl (.inl rfl) (xv_loadA ty42 rfl rfl (by ((repeat first|exact z_0|assumption|refine z_1 ?_|(refine z_l ?_;(repeat first|exact z_0|assumption|refine z_1 ?_);done)|refine z_r ?_);done)) (ca_get eMark_len (k := j) (by rw [hA2.size]; (first|omega|(dsimp only at *;omega)|(simp at *;omega)))) rfl ⟨rfl, rfl⟩) ?_
        refine js_S rfl rfl (.inl rfl) (xv_ia (sz := 2) (j := j) sl23 ty42 rfl rfl rfl (by (first|omega|(dsimp only at *;omega)|(simp at *;omega))) (by (first|omega|(dsimp only at *;omega)|(simp at *;omega))) (by (first|omega|(dsimp only at *;omega)|(simp at *;omega))) ⟨rfl, rfl⟩) ?_
        refine js_O0 rfl rfl (.inl rfl) (xv_s ty42 rfl rfl (by (first|(apply u_3;(repeat first|exact u_0|assumption|apply u_1|apply u_2);done)|((repeat first|exact u_0|assumption|apply u_1|apply u_2);done)|(apply u_3;apply u_3;(repeat first|exact u_0|assumption|apply u_1|apply u_2);done)|((repeat first|exact u_0|assumption|apply u_3|apply u_1);done))) rfl (by rfl) (by rfl) (ca_room eMark_len (k := j) (by rw [hA2.size]; (first|omega|(dsimp only at *;omega)|(simp at *;omega)))) (ca_splice eMark_len (k := j) (by rw [hA2.size]; (first|omega|(dsimp only at *;omega)|(simp at *;omega)))) ?_)
        refine js_S rfl rfl (.inl rfl) (xv_ia (sz := 2) (j := (j - 1)) sl23 ty42 rfl rfl rfl (by (first|omega|(dsimp only at *;omega)|(simp at *;omega))) (by (first|omega|(dsimp only at *;omega)|(simp at *;omega))) (by (first|omega|(dsimp only at *;omega)|(simp at *;omega))) ⟨rfl, rfl⟩) ?_
        refine js_O0 rfl rfl (.inl rfl) (xv_s ty42 rfl rfl (by (first|(apply u_3;(repeat first|exact u_0|assumption|apply u_1|apply u_2);done)|((repeat first|exact u_0|assumption|apply u_1|apply u_2);done)|(apply u_3;apply u_3;(repeat first|exact u_0|assumption|apply u_1|apply u_2);done)|((repeat first|exact u_0|assumption|apply u_3|apply u_1);done))) rfl (by rfl) (by rfl) (ca_room eMark_len (k := (j - 1)) (by rw [Array.size_setIfInBounds, hA2.size]; (first|omega|(dsimp only at *;omega)|(simp at *;omega)))) (ca_splice eMark_len (k := (j - 1)) (by rw [Array.size_setIfInBounds, hA2.size]; (first|omega|(dsimp only at *;omega)|(simp at *;omega)))) ?_)
        refine j_end0 ?_
        refine bk_n ?_
        refine th_n ?_
        refine xc_region ?_
        refine xr_op rfl rfl (xv_move rfl ?_)
        refine xr_op rfl rfl (xv_sub rfl rfl (wrap_i64 (by (first|omega|(dsimp only at *;omega)|(simp at *;omega))) (by (first|omega|(dsimp only at *;omega)|(simp at *;omega)))) ?_)
        refine xr_op rfl rfl (xv_assign rfl ?_)
        refine xr_end rfl ?_
        exact rnd ((j - 1, Go.Sort.swp d2 j (j - 1)) : Nat × Array Mark) ⟨by (first|omega|(dsimp only at *;omega)|(simp at *;omega)), by (first|omega|(dsimp only at *;omega)|(simp at *;omega)), hA2.swp (by (first|omega|(dsimp only at *;omega)|(simp at *;omega))) (by (first|omega|(dsimp only at *;omega)|(simp at *;omega))), (insInner_step (by (first|omega|(dsimp only at *;omega)|(simp at *;omega))) (ltc_T (by (first|omega|(dsimp only at *;omega)|(simp at *;omega))))).symm.trans heq2⟩ (by (first|omega|(dsimp only at *;omega)|(simp at *;omega))) (le_put (le_put (le_put (le_put (le_put (le_put (le_emp _) rfl) rfl) rfl) rfl) rfl) (by rw [show ((j : Int) - 1) = ((j - 1 : Nat) : Int) by omega]; rfl)) (by (first|((repeat first|exact s_0|exact s_1|exact s_3|refine s_4 ?_|refine s_5 ?_|refine s_6 ?_|refine s_7 ?_);done)|((repeat first|exact s_0|exact s_1|exact s_3|refine s_4 ?_|refine s_5 ?_|refine s_6 ?_|refine s_8 ?_);done)))
      · refine js_S rfl rfl (.inl rfl) (xv_pick rfl rfl ⟨rfl, rfl⟩) ?_
        refine j_end0 ?_
        refine th_n ?_
        refine xc_false rfl ?_
        refine xc_exit ?_
        refine th_x ?_
        refine th_x ?_
        refine bk_same ?_
        refine bk_n ?_
        refine th_n ?_
        refine xc_region ?_
        refine xr_op rfl rfl (xv_move rfl ?_)
        refine xr_op rfl rfl (xv_add rfl rfl (wrap_i64 (by (first|omega|(dsimp only at *;omega)|(simp at *;omega))) (by (first|omega|(dsimp only at *;omega)|(simp at *;omega)))) ?_)
        refine xr_op rfl rfl (xv_assign rfl ?_)
        refine xr_end rfl ?_
        have hib : i < b := by (first|omega|(dsimp only at *;omega)|(simp at *;omega))
        have hstop : j ≤ a ∨ ltc cm d2[j]! d2[j - 1]! = false := by first | exact .inl (by omega) | exact .inr (ltc_F (by omega))
        exact rnd ((i + 1, d2) : Nat × Array Mark) ⟨by (first|omega|(dsimp only at *;omega)|(simp at *;omega)), by (first|omega|(dsimp only at *;omega)|(simp at *;omega)), hA2, by dsimp only; rw [← heq, insOuter_step hib, ← heq2, insInner_stop hstop]⟩ (by (first|omega|(dsimp only at *;omega)|(simp at *;omega))) (le_put (le_put (le_put (le_put (le_put (le_emp _) rfl) rfl) rfl) rfl) rfl) (by (first|((repeat first|exact s_0|exact s_1|exact s_3|refine s_4 ?_|refine s_5 ?_|refine s_6 ?_|refine s_7 ?_);done)|((repeat first|exact s_0|exact s_1|exact s_3|refine s_4 ?_|refine s_5 ?_|refine s_6 ?_|refine s_8 ?_);done)))
    · refine js_S rfl rfl (.inl rfl) (xv_move rfl ⟨rfl, rfl⟩) ?_
      refine js_Ss rfl rfl ⟨_, _, _, rfl, rfl, rfl⟩ ?_
      refine js_Ss rfl rfl ⟨_, _, _, rfl, rfl, rfl⟩ ?_
      refine js_Ss rfl rfl ⟨_, _, _, rfl, rfl, rfl⟩ ?_
      refine js_Ss rfl rfl ⟨_, _, _, rfl, rfl, rfl⟩ ?_
      refine js_Rs rfl rfl ⟨_, _, _, rfl, rfl, rfl⟩ ?_
      refine js_Ss rfl rfl ⟨_, _, _, rfl, rfl, rfl⟩ ?_
      refine js_Ss rfl rfl ⟨_, _, _, rfl, rfl, rfl⟩ ?_
      refine js_Ss rfl rfl ⟨_, _, _, rfl, rfl, rfl⟩ ?_
      refine js_Ss rfl rfl ⟨_, _, _, rfl, rfl, rfl⟩ ?_
      refine js_Rs rfl rfl ⟨_, _, _, rfl, rfl, rfl⟩ ?_
      refine js_Rs rfl rfl ⟨_, _, _, rfl, rfl, rfl⟩ ?_
      refine js_Os rfl rfl ⟨_, _, _, rfl, rfl, rfl⟩ ?_
      refine js_S rfl rfl (.inl rfl) (xv_pick rfl rfl ⟨rfl, rfl⟩) ?_
      refine j_end0 ?_
      refine th_n ?_
      refine xc_false rfl ?_
      refine xc_exit ?_
      refine th_x ?_
      refine th_x ?_
      refine bk_same ?_
      refine bk_n ?_
      refine th_n ?_
      refine xc_region ?_
      refine xr_op rfl rfl (xv_move rfl ?_)
      refine xr_op rfl rfl (xv_add rfl rfl (wrap_i64 (by (first|omega|(dsimp only at *;omega)|(simp at *;omega))) (by (first|omega|(dsimp only at *;omega)|(simp at *;omega)))) ?_)
      refine xr_op rfl rfl (xv_assign rfl ?_)
      refine xr_end rfl ?_
      have hib : i < b := by (first|omega|(dsimp only at *;omega)|(simp at *;omega))
      have hstop : j ≤ a ∨ ltc cm d2[j]! d2[j - 1]! = false := by first | exact .inl (by omega) | exact .inr (ltc_F (by omega))
      exact rnd ((i + 1, d2) : Nat × Array Mark) ⟨by (first|omega|(dsimp only at *;omega)|(simp at *;omega)), by (first|omega|(dsimp only at *;omega)|(simp at *;omega)), hA2, by dsimp only; rw [← heq, insOuter_step hib, ← heq2, insInner_stop hstop]⟩ (by (first|omega|(dsimp only at *;omega)|(simp at *;omega))) (le_put (le_put (le_put (le_put (le_put (le_emp _) rfl) rfl) rfl) rfl) rfl) (by (first|((repeat first|exact s_0|exact s_1|exact s_3|refine s_4 ?_|refine s_5 ?_|refine s_6 ?_|refine s_7 ?_);done)|((repeat first|exact s_0|exact s_1|exact s_3|refine s_4 ?_|refine s_5 ?_|refine s_6 ?_|refine s_8 ?_);done)))
  · refine xr_end rfl ?_
    refine th_n ?_
    refine xc_false rfl ?_
    refine xc_exit ?_
    refine th_x ?_
    refine th_x ?_
    refine bk_same ?_
    refine body_end (h' := ((bb, .cells ⟨(d1).toList.flatMap eMark ++ sp⟩ 42) :: L)) rfl ro_nil (by (first|((repeat first|exact s_0|exact s_1|exact s_3|refine s_4 ?_|refine s_5 ?_|refine s_6 ?_|refine s_7 ?_);done)|((repeat first|exact s_0|exact s_1|exact s_3|refine s_4 ?_|refine s_5 ?_|refine s_6 ?_|refine s_8 ?_);done))) ?_
    (have e := (insOuter_stop (by (first|omega|(dsimp only at *;omega)|(simp at *;omega)))).symm.trans heq; rw [← e] at H; exact H hA1)

theorem len64_c {n : Nat} {h : Hp} {R : Ending → Hp → Prop} (hn : n ≤ 49) (H : R (.returned (I (Go.Sort.bitsLen n : Nat))) h) : ACalls Try.prog 78 ⟨[.int .u64 n]⟩ h R := by
  refine calls_of_xc (N := 25) Try.func78 rfl (by rfl) ?_
  have hbl := len8 hn
  refine xc_seq (xc_region ?_)
  refine xr_op rfl rfl (xv_assign rfl ?_)
  refine xr_end rfl ?_
  refine th_n ?_
  refine xc_seq ?_
  refine xc_seq (xc_region ?_)
  refine xr_op rfl rfl (xv_move rfl ?_)
  refine xr_op rfl rfl (xv_cmpK rfl rfl (cmpF rfl (by simp only [cmpP]; omega)) ?_)
  refine xr_end rfl ?_
  refine th_n ?_
  refine xc_false rfl ?_
  refine xc_skip ?_
  refine th_n ?_
  refine xc_seq ?_
  refine xc_seq (xc_region ?_)
  refine xr_op rfl rfl (xv_move rfl ?_)
  refine xr_op rfl rfl (xv_cmpK rfl rfl (cmpF rfl (by simp only [cmpP]; omega)) ?_)
  refine xr_end rfl ?_
  refine th_n ?_
  refine xc_false rfl ?_
  refine xc_skip ?_
  refine th_n ?_
  refine xc_seq ?_
  refine xc_seq (xc_region ?_)
  refine xr_op rfl rfl (xv_move rfl ?_)
  refine xr_op rfl rfl (xv_cmpK rfl rfl (cmpF rfl (by simp only [cmpP]; omega)) ?_)
  refine xr_end rfl ?_
  refine th_n ?_
  refine xc_false rfl ?_
  refine xc_skip ?_
  refine th_n ?_
  refine xc_seq (xc_region ?_)
  refine xr_op rfl rfl (xv_move rfl ?_)
  refine xr_op rfl rfl (xv_move rfl ?_)
  refine xr_op rfl rfl (xv_convI (m := (n : Int)) Try.underlying120 Try.underlying5 rfl (wrap_u8 (by omega) (by omega)) ?_)
  refine xr_op rfl rfl (xv_indexT (m := 50) (f := Go.Sort.bitsLen) Try.underlying9 rfl rfl (by omega) (by omega) (by kernel_rfl) ?_)
  refine xr_op rfl rfl (xv_convI (m := ((Go.Sort.bitsLen n : Nat) : Int)) Try.underlying5 Try.underlying3 rfl (by rw [Int.toNat_natCast, hbl.1]; exact wrap_i64 (by omega) (by omega)) ?_)
  refine xr_op rfl rfl (xv_add rfl rfl (wrap_i64 (by (first|omega|(dsimp only at *;omega)|(simp at *;omega))) (by (first|omega|(dsimp only at *;omega)|(simp at *;omega)))) ?_)
  refine xr_op rfl rfl (xv_assign rfl ?_)
  refine xr_end rfl ?_
  refine th_n ?_
  refine xc_ret ?_
  refine body_ret (h' := h) rfl (ro_tmp rfl ro_nil) (by (first|((repeat first|exact s_0|exact s_1|exact s_3|refine s_4 ?_|refine s_5 ?_|refine s_6 ?_|refine s_7 ?_);done)|((repeat first|exact s_0|exact s_1|exact s_3|refine s_4 ?_|refine s_5 ?_|refine s_6 ?_|refine s_8 ?_);done))) ?_
  (rw [← Int.zero_add ((Go.Sort.bitsLen n : Nat) : Int)] at H; exact H)

theorem len_c {n : Nat} {ni : Int} {h : Hp} {R : Ending → Hp → Prop} (en : ni = n) (hn : n ≤ 49) (H : R (.returned (I (Go.Sort.bitsLen n : Nat))) h) : ACalls Try.prog 54 ⟨[.int .u64 ni]⟩ h R := by
  subst en
  refine calls_of_xc (N := 8) Try.func54 rfl (by rfl) ?_
  refine xc_seq (xc_region ?_)
  refine xr_op rfl rfl (xv_assign rfl ?_)
  refine xr_end rfl ?_
  refine th_n ?_
  refine xc_seq ?_
  refine xc_false rfl ?_
  refine xc_skip ?_
  refine th_n ?_
  refine xc_seq (xc_region ?_)
  refine xr_op rfl rfl (xv_move rfl ?_)
  refine xr_op rfl rfl (xv_calls rfl hb78 (len64_c hn (up_ret ?_)))
  refine xr_op rfl rfl (xv_assign rfl ?_)
  refine xr_end rfl ?_
  refine th_n ?_
  refine xc_ret ?_
  refine body_ret (h' := h) rfl (ro_tmp rfl ro_nil) (by (first|((repeat first|exact s_0|exact s_1|exact s_3|refine s_4 ?_|refine s_5 ?_|refine s_6 ?_|refine s_7 ?_);done)|((repeat first|exact s_0|exact s_1|exact s_3|refine s_4 ?_|refine s_5 ?_|refine s_6 ?_|refine s_8 ?_);done))) ?_
  exact H

theorem ins0_c {f : Value} {h : Hp} {R : Ending → Hp → Prop} (H : R (.returned (.tuple #[])) h) : ACalls Try.prog 85 ⟨[.slice none 0 0, I 0, I 0, f]⟩ h R := by
  refine calls_of_xc (N := 53) Try.func85 rfl (by rfl) ?_
  refine xc_seq (xc_region ?_)
  refine xr_op rfl rfl (xv_move rfl ?_)
  refine xr_op rfl rfl (xv_add rfl rfl (wrap_i64 (by (first|omega|(dsimp only at *;omega)|(simp at *;omega))) (by (first|omega|(dsimp only at *;omega)|(simp at *;omega)))) ?_)
  refine xr_op rfl rfl (xv_assign rfl ?_)
  refine xr_end rfl ?_
  refine th_n ?_
  refine xc_block ?_
  refine xc_loop (σ := Unit) (fun _ => True) (fun _ => ((emp.put (some 2) (I 0)).put (some 8) (I ((0 : Int) + 1)))) (fun _ => h) (fun _ => 0) () trivial (le_put (le_put (le_emp _) rfl) rfl) (by (first|((repeat first|exact s_0|exact s_1|exact s_3|refine s_4 ?_|refine s_5 ?_|refine s_6 ?_|refine s_7 ?_);done)|((repeat first|exact s_0|exact s_1|exact s_3|refine s_4 ?_|refine s_5 ?_|refine s_6 ?_|refine s_8 ?_);done))) ?_
  rintro ⟨⟩ _
  refine xc_seq ?_
  refine xc_seq (xc_region ?_)
  refine xr_op rfl rfl (xv_move rfl ?_)
  refine xr_op rfl rfl (xv_move rfl ?_)
  refine xr_op rfl rfl (xv_cmpK (c := false) rfl rfl (by simp [cmpB]) ?_)
  refine xr_end rfl ?_
  refine th_n ?_
  refine xc_false rfl ?_
  refine xc_exit ?_
  refine th_x ?_
  refine th_x ?_
  refine bk_same ?_
  refine body_end (h' := h) rfl ro_nil (by (first|((repeat first|exact s_0|exact s_1|exact s_3|refine s_4 ?_|refine s_5 ?_|refine s_6 ?_|refine s_7 ?_);done)|((repeat first|exact s_0|exact s_1|exact s_3|refine s_4 ?_|refine s_5 ?_|refine s_6 ?_|refine s_8 ?_);done))) ?_
  exact H

theorem pdq0_c {f : Value} {l : Int} {h : Hp} {R : Ending → Hp → Prop} (H : R (.returned (.tuple #[])) h) : ACalls Try.prog 66 ⟨[.slice none 0 0, I 0, I 0, I l, f]⟩ h R := by
  refine calls_of_xc (N := 148) Try.func66 rfl (by rfl) ?_
  refine xc_seq (xc_region ?_)
  refine xr_op rfl rfl (xv_assign rfl ?_)
  refine xr_end rfl ?_
  refine th_n ?_
  refine xc_seq (xc_region ?_)
  refine xr_op rfl rfl (xv_assign rfl ?_)
  refine xr_end rfl ?_
  refine th_n ?_
  refine xc_block ?_
  refine xc_loop (σ := Unit) (fun _ => True) (fun _ => ((((emp.put (some 0) (.slice none 0 0)).put (some 1) (I 0)).put (some 2) (I 0)).put (some 4) (f))) (fun _ => h) (fun _ => 0) () trivial (le_put (le_put (le_put (le_put (le_emp _) rfl) rfl) rfl) rfl) (by (first|((repeat first|exact s_0|exact s_1|exact s_3|refine s_4 ?_|refine s_5 ?_|refine s_6 ?_|refine s_7 ?_);done)|((repeat first|exact s_0|exact s_1|exact s_3|refine s_4 ?_|refine s_5 ?_|refine s_6 ?_|refine s_8 ?_);done))) ?_
  rintro ⟨⟩ _
  refine xc_block ?_
  refine xc_seq (xc_region ?_)
  refine xr_op rfl rfl (xv_move rfl ?_)
  refine xr_op rfl rfl (xv_move rfl ?_)
  refine xr_op rfl rfl (xv_sub rfl rfl (wrap_i64 (by (first|omega|(dsimp only at *;omega)|(simp at *;omega))) (by (first|omega|(dsimp only at *;omega)|(simp at *;omega)))) ?_)
  refine xr_op rfl rfl (xv_assign rfl ?_)
  refine xr_end rfl ?_
  refine th_n ?_
  refine xc_seq ?_
  refine xc_seq (xc_region ?_)
  refine xr_op rfl rfl (xv_move rfl ?_)
  refine xr_op rfl rfl (xv_cmpK (c := true) rfl rfl (by simp [cmpB]) ?_)
  refine xr_end rfl ?_
  refine th_n ?_
  refine xc_true rfl ?_
  refine xc_seq (xc_region ?_)
  refine xr_op rfl rfl (xv_move rfl ?_)
  refine xr_op rfl rfl (xv_move rfl ?_)
  refine xr_op rfl rfl (xv_move rfl ?_)
  refine xr_op rfl rfl (xv_move rfl ?_)
  refine xr_op rfl rfl (xv_calls rfl hb85 (ins0_c (up_ret ?_)))
  refine xr_end rfl ?_
  refine th_n ?_
  refine xc_ret ?_
  refine th_r ?_
  refine bk_r ?_
  refine th_r ?_
  refine bk_r ?_
  refine body_ret (h' := h) rfl ro_nil (by (first|((repeat first|exact s_0|exact s_1|exact s_3|refine s_4 ?_|refine s_5 ?_|refine s_6 ?_|refine s_7 ?_);done)|((repeat first|exact s_0|exact s_1|exact s_3|refine s_4 ?_|refine s_5 ?_|refine s_6 ?_|refine s_8 ?_);done))) ?_
  exact H

theorem sort0_c {f : Value} {h : Hp} {R : Ending → Hp → Prop} (H : R (.returned (.tuple #[])) h) : ACalls Try.prog 47 ⟨[.slice none 0 0, f]⟩ h R := by
  refine calls_of_xc (N := 14) Try.func47 rfl (by rfl) ?_
  refine xc_seq (xc_region ?_)
  refine xr_op rfl rfl (xv_move rfl ?_)
  refine xr_op rfl rfl (xv_len sl23 rfl ?_)
  refine xr_op rfl rfl (xv_assign rfl ?_)
  refine xr_end rfl ?_
  refine th_n ?_
  refine xc_region ?_
  refine xr_op rfl rfl (xv_move rfl ?_)
  refine xr_op rfl rfl (xv_move rfl ?_)
  refine xr_op rfl rfl (xv_move rfl ?_)
  refine xr_op rfl rfl (xv_convI (m := ((0 : Nat) : Int)) Try.underlying3 Try.underlying96 rfl (by decide) ?_)
  refine xr_op rfl rfl (xv_calls rfl hb54 (len_c (n := 0) rfl (by decide) (up_ret ?_)))
  refine xr_op rfl rfl (xv_move rfl ?_)
  refine xr_op rfl rfl (xv_calls rfl hb66 (pdq0_c (up_ret ?_)))
  refine xr_end rfl ?_
  refine body_end (h' := h) rfl ro_nil (by (first|((repeat first|exact s_0|exact s_1|exact s_3|refine s_4 ?_|refine s_5 ?_|refine s_6 ?_|refine s_7 ?_);done)|((repeat first|exact s_0|exact s_1|exact s_3|refine s_4 ?_|refine s_5 ?_|refine s_6 ?_|refine s_8 ?_);done))) ?_
  exact H

theorem pdq12_c {bb cap N : Nat} {sp : List Value} {d : Array Mark} {f : Value} {cm : Mark → Mark → Int} {p : Mark → Prop} {L : Hp} {R : Ending → Hp → Prop} (hA : Arr N p d) (hN : N ≤ 12) (hf : ∀ x y, p x → p y → ∀ H R', L ⊆ H → R' (.returned (I (cm x y))) H → AFn Try.prog f [.agg ⟨eMark x⟩, .agg ⟨eMark y⟩] H R') {li : Int} (H : Arr N p (Go.Sort.insertionSort (ltc cm) d 0 N) → R (.returned (.tuple #[])) ((bb, .cells ⟨(Go.Sort.insertionSort (ltc cm) d 0 N).toList.flatMap eMark ++ sp⟩ 42) :: L)) : ACalls Try.prog 66 ⟨[.slice (some ⟨bb, 0, none⟩) N cap, I 0, I N, I li, f]⟩ ((bb, .cells ⟨(d).toList.flatMap eMark ++ sp⟩ 42) :: L) R := by
  refine calls_of_xc (N := 148) Try.func66 rfl (by rfl) ?_
  refine xc_seq (xc_region ?_)
  refine xr_op rfl rfl (xv_assign rfl ?_)
  refine xr_end rfl ?_
  refine th_n ?_
  refine xc_seq (xc_region ?_)
  refine xr_op rfl rfl (xv_assign rfl ?_)
  refine xr_end rfl ?_
  refine th_n ?_
  refine xc_block ?_
  refine xc_loop (σ := Unit) (fun _ => True) (fun _ => (((((emp.put (some 0) (.slice (some ⟨bb, 0, none⟩) N cap)).put (some 1) (I 0)).put (some 2) (I N)).put (some 3) (I li)).put (some 4) (f))) (fun _ => ((bb, .cells ⟨(d).toList.flatMap eMark ++ sp⟩ 42) :: L)) (fun _ => 0) () trivial (le_put (le_put (le_put (le_put (le_put (le_emp _) rfl) rfl) rfl) rfl) rfl) (by (first|((repeat first|exact s_0|exact s_1|exact s_3|refine s_4 ?_|refine s_5 ?_|refine s_6 ?_|refine s_7 ?_);done)|((repeat first|exact s_0|exact s_1|exact s_3|refine s_4 ?_|refine s_5 ?_|refine s_6 ?_|refine s_8 ?_);done))) ?_
  rintro ⟨⟩ _
  refine xc_block ?_
  refine xc_seq (xc_region ?_)
  refine xr_op rfl rfl (xv_move rfl ?_)
  refine xr_op rfl rfl (xv_move rfl ?_)
  refine xr_op rfl rfl (xv_sub rfl rfl (wrap_i64 (by (first|omega|(dsimp only at *;omega)|(simp at *;omega))) (by (first|omega|(dsimp only at *;omega)|(simp at *;omega)))) ?_)
  refine xr_op rfl rfl (xv_assign rfl ?_)
  refine xr_end rfl ?_
  refine th_n ?_
  refine xc_seq ?_
  refine xc_seq (xc_region ?_)
  refine xr_op rfl rfl (xv_move rfl ?_)
  refine xr_op rfl rfl (xv_cmpK (c := true) rfl rfl (cmpT (by simp only [cmpP]; omega)) ?_)
  refine xr_end rfl ?_
  refine th_n ?_
  refine xc_true rfl ?_
  refine xc_seq (xc_region ?_)
  refine xr_op rfl rfl (xv_move rfl ?_)
  refine xr_op rfl rfl (xv_move rfl ?_)
  refine xr_op rfl rfl (xv_move rfl ?_)
  refine xr_op rfl rfl (xv_move rfl ?_)
  refine xr_op rfl rfl (xv_calls rfl hb85 (ins_c (a := 0) (b := N) hA (by omega) hf (show (0 : Int) = ((0 : Nat) : Int) from rfl) rfl (by omega) (Nat.le_refl _) (fun hA2 => up_ret ?_)))
  refine xr_end rfl ?_
  refine th_n ?_
  refine xc_ret ?_
  refine th_r ?_
  refine bk_r ?_
  refine th_r ?_
  refine bk_r ?_
  refine body_ret (h' := ((bb, .cells ⟨(Go.Sort.insertionSort (ltc cm) d 0 N).toList.flatMap eMark ++ sp⟩ 42) :: L)) rfl ro_nil (by (first|((repeat first|exact s_0|exact s_1|exact s_3|refine s_4 ?_|refine s_5 ?_|refine s_6 ?_|refine s_7 ?_);done)|((repeat first|exact s_0|exact s_1|exact s_3|refine s_4 ?_|refine s_5 ?_|refine s_6 ?_|refine s_8 ?_);done))) ?_
  exact H hA2

theorem sort12_c {bb cap N : Nat} {sp : List Value} {d : Array Mark} {f : Value} {cm : Mark → Mark → Int} {p : Mark → Prop} {L : Hp} {R : Ending → Hp → Prop} (hA : Arr N p d) (hN : N ≤ 12) (hf : ∀ x y, p x → p y → ∀ H R', L ⊆ H → R' (.returned (I (cm x y))) H → AFn Try.prog f [.agg ⟨eMark x⟩, .agg ⟨eMark y⟩] H R') (hs : Go.Sort.SWO (ltc cm)) (H : ∀ d2 : Array Mark, Arr N p d2 → Go.Sort.PermIn 0 N d d2 → Go.Sort.SortedIn (ltc cm) 0 N d2 → R (.returned (.tuple #[])) ((bb, .cells ⟨(d2).toList.flatMap eMark ++ sp⟩ 42) :: L)) :
    ACalls Try.prog 47 ⟨[.slice (some ⟨bb, 0, none⟩) N cap, f]⟩ ((bb, .cells ⟨(d).toList.flatMap eMark ++ sp⟩ 42) :: L) R := by
  refine calls_of_xc (N := 14) Try.func47 rfl (by rfl) ?_
  have hps := Go.Sort.pdq_sorts (ltc cm) hs d 0 N (Go.Sort.bitsLen N) true true (Nat.zero_le _) (by rw [hA.size]; exact Nat.le_refl _) (.inl rfl)
  rw [pdq_ins (by omega)] at hps
  refine xc_seq (xc_region ?_)
  refine xr_op rfl rfl (xv_move rfl ?_)
  refine xr_op rfl rfl (xv_len sl23 rfl ?_)
  refine xr_op rfl rfl (xv_assign rfl ?_)
  refine xr_end rfl ?_
  refine th_n ?_
  refine xc_region ?_
  refine xr_op rfl rfl (xv_move rfl ?_)
  refine xr_op rfl rfl (xv_move rfl ?_)
  refine xr_op rfl rfl (xv_move rfl ?_)
  refine xr_op rfl rfl (xv_convI (m := (N : Int)) Try.underlying3 Try.underlying96 rfl (wrap_u64 (by omega) (by omega)) ?_)
  refine xr_op rfl rfl (xv_calls rfl hb54 (len_c (n := N) rfl (by omega) (up_ret ?_)))
  refine xr_op rfl rfl (xv_move rfl ?_)
  refine xr_op rfl rfl (xv_calls rfl hb66 (pdq12_c hA hN hf (fun hA2 => up_ret ?_)))
  refine xr_end rfl ?_
  refine body_end (h' := ((bb, .cells ⟨(Go.Sort.insertionSort (ltc cm) d 0 N).toList.flatMap eMark ++ sp⟩ 42) :: L)) rfl ro_nil (by (first|((repeat first|exact s_0|exact s_1|exact s_3|refine s_4 ?_|refine s_5 ?_|refine s_6 ?_|refine s_7 ?_);done)|((repeat first|exact s_0|exact s_1|exact s_3|refine s_4 ?_|refine s_5 ?_|refine s_6 ?_|refine s_8 ?_);done))) ?_
  exact H _ hA2 hps.1 hps.2

theorem sortV12_c {V : Vec} {xs : List Mark} {f : Value} {cm : Mark → Mark → Int} {L : Hp} {R : Ending → Hp → Prop} (hV : V.ok 2 xs.length (xs.flatMap eMark)) (hn : xs.length ≤ 12)
    (hf : ∀ x y, x ∈ xs → y ∈ xs → ∀ H R', L ⊆ H → R' (.returned (I (cm x y))) H → AFn Try.prog f [.agg ⟨eMark x⟩, .agg ⟨eMark y⟩] H R') (hs : Go.Sort.SWO (ltc cm))
    (H : ∀ ys : List Mark, ys.Perm xs → ys.Pairwise (fun a b => ¬ cm b a < 0) → V.ok 2 ys.length (ys.flatMap eMark) → R (.returned (.tuple #[])) (V.hp 42 (ys.flatMap eMark) ++ L)) :
    ACalls Try.prog 47 ⟨[V.val xs.length, f]⟩ (V.hp 42 (xs.flatMap eMark) ++ L) R := by
  cases V with
  | nil =>
    obtain ⟨h1, h2⟩ := hV
    have hx : xs = [] := List.length_eq_zero_iff.1 h2
    subst hx
    exact sort0_c (H [] .nil .nil ⟨rfl, rfl⟩)
  | «at» b cap sp =>
    have hd : Arr xs.length (fun x => x ∈ xs) xs.toArray := ⟨by simp, fun i hi => by simp [hi]⟩
    refine sort12_c (N := xs.length) (p := fun x => x ∈ xs) (d := xs.toArray) hd hn (fun x y hx hy H R' hs h2 => hf x y hx hy H R' hs h2) hs ?_
    intro d2 hA hp hso
    have e1 : d2.extract 0 xs.length = d2 := by rw [← hA.size]; simp
    have hpp : d2.toList.Perm xs := by
      have := hp.2.2
      rw [e1] at this
      simpa using this
    have hlen : d2.toList.length = xs.length := hpp.length_eq
    have hV2 : (Vec.at b cap sp).ok 2 d2.toList.length (d2.toList.flatMap eMark) := by
      obtain ⟨h1, h2, h3⟩ := hV
      rw [List.length_append, flat_lenM eMark_len] at h3
      refine ⟨flat_lenM eMark_len _, by rw [hlen]; exact h2, ?_⟩
      rw [List.length_append, flat_lenM eMark_len, hlen]; exact h3
    refine H d2.toList hpp ?_ hV2
    rw [List.pairwise_iff_getElem]
    intro i j hi hj hij
    have := hso i j (Nat.zero_le _) hij (by omega)
    have gi : d2[i]! = d2.toList[i] := by
      have := ca_list (d := d2) (k := i) (by simpa using hi)
      rw [List.getElem?_eq_getElem hi] at this
      exact (Option.some.inj this).symm
    have gj : d2[j]! = d2.toList[j] := by
      have := ca_list (d := d2) (k := j) (by simpa using hj)
      rw [List.getElem?_eq_getElem hj] at this
      exact (Option.some.inj this).symm
    rw [gi, gj] at this
    exact of_decide_eq_false this

theorem isSorted_c {l : List Mark} {a : Option Addr} {c : Nat} {h : Hp} {R : Ending → Hp → Prop} (hl : SlV h 2 eMark a l) (hlen : l.length ≤ 1000) (H1 : sortedU l → R (.returned (.bool true)) h) (H2 : ¬ sortedU l → R (.returned (.bool false)) h) :
    ACalls Try.prog 50 ⟨[.slice a l.length c, .func (.func 51) ⟨[]⟩ ⟨[]⟩]⟩ h R := by
  refine calls_of_xc (N := 25) Try.func50 rfl (by rfl) ?_
  refine xc_seq (xc_region ?_)
  refine xr_op rfl rfl (xv_assign rfl ?_)
  refine xr_end rfl ?_
  refine th_n ?_
  refine xc_seq ?_
  refine xc_seq (xc_region ?_)
  refine xr_op rfl rfl (xv_move rfl ?_)
  refine xr_op rfl rfl (xv_len sl23 rfl ?_)
  refine xr_op rfl rfl (xv_sub rfl rfl (wrap_i64 (by (first|omega|(dsimp only at *;omega)|(simp at *;omega))) (by (first|omega|(dsimp only at *;omega)|(simp at *;omega)))) ?_)
  refine xr_op rfl rfl (xv_assign rfl ?_)
  refine xr_end rfl ?_
  refine th_n ?_
  refine xc_block ?_
  refine xc_loop (σ := Int) (fun z => -1 ≤ z ∧ z ≤ (l.length : Int) - 1 ∧ ∀ (i : Nat) a b, z ≤ (i : Int) → l[i]? = some a → l[i + 1]? = some b → a.used ≤ b.used) (fun z => (((emp.put (some 0) (.slice a l.length c)).put (some 1) (.func (.func 51) ⟨[]⟩ ⟨[]⟩)).put (some 5) (I z))) (fun z => h) (fun z => (z + 1).toNat) ((l.length : Int) - 1) ⟨by omega, Int.le_refl _, fun i a b hi ha hb => absurd (List.getElem?_eq_some_iff.1 hb).1 (by omega)⟩ (le_put (le_put (le_put (le_emp _) rfl) rfl) rfl) (by (first|((repeat first|exact s_0|exact s_1|exact s_3|refine s_4 ?_|refine s_5 ?_|refine s_6 ?_|refine s_7 ?_);done)|((repeat first|exact s_0|exact s_1|exact s_3|refine s_4 ?_|refine s_5 ?_|refine s_6 ?_|refine s_8 ?_);done))) ?_
  rintro z ⟨hz1, hz2, hso⟩
  refine xc_seq ?_
  refine xc_seq (xc_region ?_)
  refine xr_op rfl rfl (xv_move rfl ?_)
  refine xr_op rfl rfl (xv_gtr2 rfl rfl (fun q1 => ?_) (fun q1 => ?_))
  · refine xr_end rfl ?_
    refine th_n ?_
    refine xc_true rfl ?_
    refine xc_skip ?_
    refine th_n ?_
    refine xc_seq ?_
    refine xc_block ?_
    refine xc_seq ?_
    obtain ⟨k, hzk⟩ : ∃ k : Nat, z.toNat = k := ⟨_, rfl⟩
    have hlto : z.toNat < l.length := by omega
    obtain ⟨bo, oo, lo, to, fzo, hao, hmo, hxo⟩ := (hl).at hlto
    obtain ⟨xo, hko⟩ : ∃ qq_, l[z.toNat]? = some qq_ := ⟨_, List.getElem?_eq_getElem hlto⟩
    have hltp : (z.toNat - 1) < l.length := by omega
    obtain ⟨bp, op, lp, tp, fzp, hap, hmp, hxp⟩ := (hl).at hltp
    obtain ⟨xp, hkp⟩ : ∃ qq_, l[(z.toNat - 1)]? = some qq_ := ⟨_, List.getElem?_eq_getElem hltp⟩
    · refine xc_draw0 [(0, .S), (1, .S), (2, .S), (3, .S), (4, .R), (5, .S), (6, .S), (7, .S), (8, .S), (9, .R), (10, .R), (11, .O)] mixed (by kernel_rfl) ?_
      refine js_S rfl rfl (.inl rfl) (xv_move rfl ⟨rfl, rfl⟩) ?_
      refine js_S rfl rfl (.inl rfl) (xv_move rfl ⟨rfl, rfl⟩) ?_
      refine js_S rfl rfl (.inl rfl) (xv_move rfl ⟨rfl, rfl⟩) ?_
      refine js_S rfl rfl (.inl rfl) (xv_ia (sz := 2) (j := z.toNat) sl23 ty42 rfl (by rw [hao]; rfl) rfl rfl (by (first|omega|(dsimp only at *;omega)|(simp at *;omega))) (by (first|omega|(dsimp only at *;omega)|(simp at *;omega))) ⟨rfl, rfl⟩) ?_
      refine js_R0 rfl rfl (.inl rfl) (xv_loadA ty42 rfl rfl (by ((repeat first|exact z_0|assumption|refine z_1 ?_|(refine z_l ?_;(repeat first|exact z_0|assumption|refine z_1 ?_);done)|refine z_r ?_);done)) (hxo (z.toNat) xo hko) rfl ⟨rfl, rfl⟩) ?_
      refine js_S rfl rfl (.inl rfl) (xv_move rfl ⟨rfl, rfl⟩) ?_
      refine js_S rfl rfl (.inl rfl) (xv_move rfl ⟨rfl, rfl⟩) ?_
      refine js_S rfl rfl (.inl rfl) (xv_sub rfl rfl (wrap_i64 (by (first|omega|(dsimp only at *;omega)|(simp at *;omega))) (by (first|omega|(dsimp only at *;omega)|(simp at *;omega)))) ⟨rfl, rfl⟩) ?_
      refine js_S rfl rfl (.inl rfl) (xv_ia (sz := 2) (j := (z.toNat - 1)) sl23 ty42 rfl (by rw [hap]; rfl) rfl (by omega) (by (first|omega|(dsimp only at *;omega)|(simp at *;omega))) (by (first|omega|(dsimp only at *;omega)|(simp at *;omega))) ⟨rfl, rfl⟩) ?_
      refine js_R0 rfl rfl (.inl rfl) (xv_loadA ty42 rfl rfl (by ((repeat first|exact z_0|assumption|refine z_1 ?_|(refine z_l ?_;(repeat first|exact z_0|assumption|refine z_1 ?_);done)|refine z_r ?_);done)) (hxp ((z.toNat - 1)) xp hkp) rfl ⟨rfl, rfl⟩) ?_
      refine js_R0 rfl rfl (.inl rfl) (xv_fn rfl rfl (afn_func hb51 (byUsed_c (x := xo) (y := xp) (up_ret ⟨rfl, rfl⟩)))) ?_
      refine js_O0 rfl rfl (.inl rfl) (xv_lss2 rfl rfl (fun hq => ?_) (fun hq => ?_))
      · refine j_end0 ?_
        refine th_n ?_
        refine xc_true rfl ?_
        refine xc_seq (xc_region ?_)
        have hfin : ¬ sortedU l := fun q9 => by have h9 := q9 (z.toNat - 1) xp xo hkp (by rw [show z.toNat - 1 + 1 = z.toNat by omega]; exact hko); have := cmpI_lt.1 (show cmpI xo.used xp.used < 0 by omega); omega
        refine xr_op rfl rfl (xv_assign rfl ?_)
        refine xr_end rfl ?_
        refine th_n ?_
        refine xc_ret ?_
        refine bk_r ?_
        refine th_r ?_
        refine th_r ?_
        refine bk_r ?_
        refine th_r ?_
        refine body_ret (h' := h) rfl (ro_tmp rfl ro_nil) (by (first|((repeat first|exact s_0|exact s_1|exact s_3|refine s_4 ?_|refine s_5 ?_|refine s_6 ?_|refine s_7 ?_);done)|((repeat first|exact s_0|exact s_1|exact s_3|refine s_4 ?_|refine s_5 ?_|refine s_6 ?_|refine s_8 ?_);done))) ?_
        first | exact H1 hfin | exact H2 hfin
      · refine j_end0 ?_
        refine th_n ?_
        refine xc_false rfl ?_
        refine xc_skip ?_
        refine bk_n ?_
        refine th_n ?_
        refine xc_region ?_
        refine xr_op rfl rfl (xv_move rfl ?_)
        refine xr_op rfl rfl (xv_sub rfl rfl (wrap_i64 (by (first|omega|(dsimp only at *;omega)|(simp at *;omega))) (by (first|omega|(dsimp only at *;omega)|(simp at *;omega)))) ?_)
        refine xr_op rfl rfl (xv_assign rfl ?_)
        refine xr_end rfl ?_
        exact rnd (z - 1) ⟨by (first|omega|(dsimp only at *;omega)|(simp at *;omega)), by (first|omega|(dsimp only at *;omega)|(simp at *;omega)), fun i a b hi ha hb => by
          by_cases e : (i : Int) = z - 1
          · obtain rfl : i = z.toNat - 1 := by omega
            rw [hkp] at ha; cases ha
            rw [show z.toNat - 1 + 1 = z.toNat by omega, hko] at hb; cases hb
            have := cmpI_ge.1 (show 0 ≤ cmpI xo.used xp.used by omega); omega
          · exact hso i a b (by omega) ha hb⟩ (by (first|omega|(dsimp only at *;omega)|(simp at *;omega))) (le_put (le_put (le_put (le_emp _) rfl) rfl) rfl) (by (first|((repeat first|exact s_0|exact s_1|exact s_3|refine s_4 ?_|refine s_5 ?_|refine s_6 ?_|refine s_7 ?_);done)|((repeat first|exact s_0|exact s_1|exact s_3|refine s_4 ?_|refine s_5 ?_|refine s_6 ?_|refine s_8 ?_);done)))
  · refine xr_end rfl ?_
    refine th_n ?_
    refine xc_false rfl ?_
    refine xc_exit ?_
    refine th_x ?_
    refine th_x ?_
    refine bk_same ?_
    refine th_n ?_
    refine xc_seq (xc_region ?_)
    have hfin : sortedU l := fun i a b ha hb => hso i a b (by (first|omega|(dsimp only at *;omega)|(simp at *;omega))) ha hb
    refine xr_op rfl rfl (xv_assign rfl ?_)
    refine xr_end rfl ?_
    refine th_n ?_
    refine xc_ret ?_
    refine body_ret (h' := h) rfl (ro_tmp rfl ro_nil) (by (first|((repeat first|exact s_0|exact s_1|exact s_3|refine s_4 ?_|refine s_5 ?_|refine s_6 ?_|refine s_7 ?_);done)|((repeat first|exact s_0|exact s_1|exact s_3|refine s_4 ?_|refine s_5 ?_|refine s_6 ?_|refine s_8 ?_);done))) ?_
    first | exact H1 hfin | exact H2 hfin

end Go.Proofs.Ytlcdbjgfeoagbaa

/-
  A meter: its cells.
-/
set_option linter.all false
namespace Go.Proofs.Ytlcdbjgfeoagbaa
open Go Go.H
def eMet (s : Slot) (v : Value) : List Value := [I s.start, I s.hold, I s.coins, I s.now, .slice s.ta s.tars.length s.tc, .slice s.ma s.marks.length s.mc, v]
structure MetV (h : Hp) (s : Slot) (b : Nat) (ma : Option Addr) (mc : Nat) : Prop where
  m : (b, .cells ⟨eMet s (.slice ma (dmS s).length mc)⟩ 70 (0, 0)) ∈ h
  dm : SlV h 2 eMark ma (dmS s)
theorem MetV.sub {h g : Hp} {s : Slot} {b : Nat} {ma : Option Addr} {mc : Nat} (H : MetV h s b ma mc) (hs : h ⊆ g) : MetV g s b ma mc := ⟨hs H.m, H.dm.sub hs⟩
theorem dd_len : ∀ l : List Mark, (dd l).length ≤ l.length
  | [] => Nat.le_refl _
  | x :: l => by
    have ih := dd_len l
    rw [dd_cons, List.length_cons]
    unfold ddc
    cases hd : dd l with
    | nil => simp
    | cons z r =>
      rw [hd] at ih
      dsimp only
      split
      · omega
      · rw [List.length_cons]; omega
theorem dm_len {s : Slot} (h : s.marks.length ≤ 12) : (dmS s).length ≤ 12 := by
  have := dd_len (sortM s.marks)
  rw [sortM_len] at this
  unfold dmS; omega
end Go.Proofs.Ytlcdbjgfeoagbaa
