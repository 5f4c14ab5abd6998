/-
  Walks.
-/
import Derived.Test.YtpefpafijadfmaaHT
import Derived.Test.YtpefpafijadfmaaW14
import Derived.Test.YtpefpafijadfmaaP3
namespace Go.Proofs.Ytpefpafijadfmaa
open Go Go.H
set_option maxRecDepth 100000
set_option maxHeartbeats 8000000
set_option linter.all false
theorem indexMoveS_c {a : Option Addr} {c : Nat} {xs : List Move} {f : Value} {p : Nat → Move → Bool} {Hs : Nat → Hp} {R : Ending → Hp → Prop} (hs : ∀ k, SlV (Hs k) 3 eMove a xs) (hlen : xs.length ≤ 4611686018427387904)
    (hf : ∀ (k : Nat) (x : Move), xs[k]? = some x → ∀ R', R' (.returned (.bool (p k x))) (Hs (k + 1)) → AFn Try.prog f [.agg ⟨eMove x⟩] (Hs k) R')
    (H1 : ∀ (k : Nat) (x : Move), xs[k]? = some x → p k x = true → R (.returned (I k)) (Hs (k + 1))) (H2 : (∀ (k : Nat) (x : Move), xs[k]? = some x → p k x = false) → R (.returned (I (-1))) (Hs xs.length)) :
    ACalls Try.prog 73 ⟨[.slice a xs.length c, f]⟩ (Hs 0) R := by
  refine calls_of_xc (N := 19) Try.func73 rfl (by rfl) ?_
  refine xc_seq (xc_region ?_)
  refine xr_op rfl rfl (xv_assign rfl ?_)
  refine xr_end rfl ?_
  refine th_n ?_
  refine xc_seq ?_
  refine xc_seq (xc_region ?_)
  refine xr_op rfl rfl (xv_move rfl ?_)
  refine xr_op rfl rfl (xv_len sl23 rfl ?_)
  refine xr_op rfl rfl (xv_move rfl ?_)
  refine xr_end rfl ?_
  refine th_n ?_
  refine xc_block ?_
  refine xc_loop (σ := Nat) (fun k => k ≤ xs.length ∧ ∀ j x, j < k → xs[j]? = some x → p j x = false) (fun k => ((((emp.put (some 0) (.slice a xs.length c)).put (some 1) (f)).put (some 7) (I xs.length)).put (some 8) (I k))) (fun k => (Hs k)) (fun k => xs.length - k) 0 ⟨Nat.zero_le _, fun _ _ h0 => absurd h0 (Nat.not_lt_zero _)⟩ (le_put (le_put (le_put (le_put (le_emp _) rfl) rfl) rfl) rfl) (by (first|((repeat first|exact s_0|exact s_1|exact s_3|refine s_4 ?_|refine s_5 ?_|refine s_6 ?_|refine s_7 ?_);done)|((repeat first|exact s_0|exact s_1|exact s_3|refine s_4 ?_|refine s_5 ?_|refine s_6 ?_|refine s_8 ?_);done))) ?_
  rintro k ⟨hk, hall⟩
  refine xc_seq (xc_region ?_)
  refine xr_op rfl rfl (xv_lss2 rfl rfl (fun q1 => ?_) (fun q1 => ?_))
  · refine xr_end rfl ?_
    refine th_n ?_
    refine xc_seq ?_
    refine xc_true rfl ?_
    refine xc_skip ?_
    refine th_n ?_
    refine xc_seq ?_
    refine xc_block ?_
    refine xc_seq (xc_region ?_)
    refine xr_op rfl rfl (xv_move rfl ?_)
    refine xr_op rfl rfl (xv_assign rfl ?_)
    refine xr_end rfl ?_
    refine th_n ?_
    refine xc_seq (xc_region ?_)
    refine xr_op rfl rfl (xv_move rfl ?_)
    refine xr_op rfl rfl (xv_move rfl ?_)
    refine xr_op rfl rfl (xv_move rfl ?_)
    have hlt : k < xs.length := by omega
    obtain ⟨b, o, l, t, fz, rfl, hm, hx⟩ := (hs k).at hlt
    obtain ⟨x, hkx⟩ : ∃ x, xs[k]? = some x := ⟨_, List.getElem?_eq_getElem hlt⟩
    refine xr_op rfl rfl (xv_ia (sz := 3) sl23 ty63 rfl rfl rfl (by (first | assumption | with_reducible exact Int.toNat_natCast _ | with_reducible rfl | rfl)) (by (first | omega | (dsimp only at *; omega) | (simp at *; omega))) (by (first | omega | (dsimp only at *; omega) | (simp at *; omega))) ?_)
    refine xr_op rfl rfl (xv_loadA ty63 rfl rfl hm (hx k x hkx) rfl ?_)
    refine xr_op rfl rfl (xv_fn rfl rfl (hf k x hkx _ (up_ret ?_)))
    refine xr_end rfl ?_
    refine th_n ?_
    refine xc_bool rfl (fun q2 => ?_) (fun q2 => ?_)
    · refine xc_seq (xc_region ?_)
      refine xr_op rfl rfl (xv_move rfl ?_)
      refine xr_op rfl rfl (xv_assign rfl ?_)
      refine xr_end rfl ?_
      refine th_n ?_
      refine xc_ret ?_
      refine bk_r ?_
      refine th_r ?_
      refine th_r ?_
      refine bk_r ?_
      refine th_r ?_
      refine body_ret (h' := (Hs (k + 1))) rfl (ro_tmp rfl ro_nil) (by (first|((repeat first|exact s_0|exact s_1|exact s_3|refine s_4 ?_|refine s_5 ?_|refine s_6 ?_|refine s_7 ?_);done)|((repeat first|exact s_0|exact s_1|exact s_3|refine s_4 ?_|refine s_5 ?_|refine s_6 ?_|refine s_8 ?_);done))) ?_
      first | exact H1 k x hkx (by assumption) | exact H2 (fun j x hj => hall j x (List.getElem?_eq_some_iff.1 hj).1 hj)
    · refine xc_skip ?_
      refine bk_n ?_
      refine th_n ?_
      refine xc_region ?_
      refine xr_op rfl rfl (xv_add rfl rfl (wrap_i64 (by (first | omega | (dsimp only at *; omega) | (simp at *; omega))) (by (first | omega | (dsimp only at *; omega) | (simp at *; omega)))) ?_)
      refine xr_op rfl rfl (xv_move rfl ?_)
      refine xr_end rfl ?_
      exact rnd (k + 1) ⟨by omega, fun j y hj hy => by
        rcases Nat.lt_succ_iff_lt_or_eq.1 hj with hj | rfl
        · exact hall j y hj hy
        · rw [hkx] at hy; cases hy; assumption⟩ (by omega) (le_put (le_put (le_put (le_put (le_emp _) rfl) rfl) rfl) rfl) (by (first|((repeat first|exact s_0|exact s_1|exact s_3|refine s_4 ?_|refine s_5 ?_|refine s_6 ?_|refine s_7 ?_);done)|((repeat first|exact s_0|exact s_1|exact s_3|refine s_4 ?_|refine s_5 ?_|refine s_6 ?_|refine s_8 ?_);done)))
  · refine xr_end rfl ?_
    refine th_n ?_
    refine xc_seq ?_
    refine xc_false rfl ?_
    refine xc_exit ?_
    refine th_x ?_
    refine th_x ?_
    refine bk_same ?_
    refine th_n ?_
    refine xc_seq (xc_region ?_)
    obtain rfl : k = xs.length := by omega
    refine xr_op rfl rfl (xv_assign rfl ?_)
    refine xr_end rfl ?_
    refine th_n ?_
    refine xc_ret ?_
    refine body_ret (h' := (Hs xs.length)) rfl (ro_tmp rfl ro_nil) (by (first|((repeat first|exact s_0|exact s_1|exact s_3|refine s_4 ?_|refine s_5 ?_|refine s_6 ?_|refine s_7 ?_);done)|((repeat first|exact s_0|exact s_1|exact s_3|refine s_4 ?_|refine s_5 ?_|refine s_6 ?_|refine s_8 ?_);done))) ?_
    first | exact H1 k x hkx (by assumption) | exact H2 (fun j x hj => hall j x (List.getElem?_eq_some_iff.1 hj).1 hj)

theorem containsMoveS_c {a : Option Addr} {c : Nat} {xs : List Move} {f : Value} {p : Nat → Move → Bool} {Hs : Nat → Hp} {R : Ending → Hp → Prop} (hs : ∀ k, SlV (Hs k) 3 eMove a xs) (hlen : xs.length ≤ 4611686018427387904)
    (hf : ∀ (k : Nat) (x : Move), xs[k]? = some x → ∀ R', R' (.returned (.bool (p k x))) (Hs (k + 1)) → AFn Try.prog f [.agg ⟨eMove x⟩] (Hs k) R')
    (H1 : ∀ (k : Nat) (x : Move), xs[k]? = some x → p k x = true → R (.returned (.bool true)) (Hs (k + 1))) (H2 : (∀ (k : Nat) (x : Move), xs[k]? = some x → p k x = false) → R (.returned (.bool false)) (Hs xs.length)) :
    ACalls Try.prog 62 ⟨[.slice a xs.length c, f]⟩ (Hs 0) R := by
  refine calls_of_xc (N := 9) Try.func62 rfl (by rfl) ?_
  refine xc_seq (xc_region ?_)
  refine xr_op rfl rfl (xv_assign rfl ?_)
  refine xr_end rfl ?_
  refine th_n ?_
  refine xc_seq (xc_region ?_)
  refine xr_op rfl rfl (xv_move rfl ?_)
  refine xr_op rfl rfl (xv_move rfl ?_)
  refine xr_op rfl rfl (xv_calls rfl hb73 (indexMoveS_c hs hlen hf (fun k x hkx hpx => up_ret ?_) (fun hno => up_ret ?_)))
  · refine xr_op rfl rfl (xv_cmpK rfl rfl (cmpT (by simp only [cmpP]; (first | omega | (dsimp only at *; omega) | (simp at *; omega)))) ?_)
    refine xr_op rfl rfl (xv_assign rfl ?_)
    refine xr_end rfl ?_
    refine th_n ?_
    refine xc_ret ?_
    refine body_ret (h' := _) rfl (ro_tmp rfl ro_nil) (by (first|((repeat first|exact s_0|exact s_1|exact s_3|refine s_4 ?_|refine s_5 ?_|refine s_6 ?_|refine s_7 ?_);done)|((repeat first|exact s_0|exact s_1|exact s_3|refine s_4 ?_|refine s_5 ?_|refine s_6 ?_|refine s_8 ?_);done))) ?_
    first | exact H1 k x hkx hpx | exact H2 hno
  · refine xr_op rfl rfl (xv_cmpK rfl rfl (cmpF rfl (by simp only [cmpP]; (first | omega | (dsimp only at *; omega) | (simp at *; omega)))) ?_)
    refine xr_op rfl rfl (xv_assign rfl ?_)
    refine xr_end rfl ?_
    refine th_n ?_
    refine xc_ret ?_
    refine body_ret (h' := _) rfl (ro_tmp rfl ro_nil) (by (first|((repeat first|exact s_0|exact s_1|exact s_3|refine s_4 ?_|refine s_5 ?_|refine s_6 ?_|refine s_7 ?_);done)|((repeat first|exact s_0|exact s_1|exact s_3|refine s_4 ?_|refine s_5 ?_|refine s_6 ?_|refine s_8 ?_);done))) ?_
    first | exact H1 k x hkx hpx | exact H2 hno

end Go.Proofs.Ytpefpafijadfmaa

/-
  Walks.
-/
namespace Go.Proofs.Ytpefpafijadfmaa
open Go Go.H
set_option maxRecDepth 100000
set_option maxHeartbeats 8000000
set_option linter.all false
theorem bad_c {y : Yard} {m : Move} {last : Int} {bl b1 : Nat} {g : Hp} {R : Ending → Hp → Prop} (m1 : (b1, .cells ⟨eYard y⟩ 25 (0, 0)) ∈ g) (hcl : y.coals.length ≤ 1000) (H : R (.returned (.bool (!decide (moveOk y.coals.length last m)))) ((bl, .cells ⟨[I m.hour]⟩ 3) :: g)) :
    ACalls Try.prog 61 ⟨[.agg ⟨eMove m⟩, .pointer (some ⟨bl, 0, none⟩), .pointer (some ⟨b1, 0, none⟩)]⟩ ((bl, .cells ⟨[I last]⟩ 3) :: g) R := by
  refine calls_of_xc (N := 28) Try.func61 rfl (by rfl) ?_
  refine xc_seq (xc_region ?_)
  refine xr_op rfl rfl (xv_box rfl (fun b3 hb3 => ?_))
  refine xr_op rfl rfl (xv_assign rfl ?_)
  refine xr_end rfl ?_
  refine th_n ?_
  refine xc_seq (xc_region ?_)
  refine xr_op rfl rfl (xv_faddr fl63_0 rfl ?_)
  refine xr_op rfl rfl (xv_load1 ty3 rfl rfl (by ((repeat first|exact z_0|assumption|refine z_1 ?_|(refine z_l ?_;(repeat first|exact z_0|assumption|refine z_1 ?_);done)|refine z_r ?_);done)) (by rfl) ?_)
  refine xr_op rfl rfl (xv_load1 ty3 rfl rfl (by ((repeat first|exact z_0|assumption|refine z_1 ?_|(refine z_l ?_;(repeat first|exact z_0|assumption|refine z_1 ?_);done)|refine z_r ?_);done)) (by rfl) ?_)
  refine xr_op rfl rfl (xv_calls rfl hb31 (within_c _ _ _ (fun hl1 hu2 => up_ret ?_) (fun hn3 => up_ret ?_)))
  · refine xr_op rfl rfl (xv_move rfl ?_)
    refine xr_gd rfl rfl rfl (xv_faddr fl63_1 rfl ?_)
    refine xr_gd rfl rfl rfl (xv_load1 ty3 rfl rfl (by ((repeat first|exact z_0|assumption|refine z_1 ?_|(refine z_l ?_;(repeat first|exact z_0|assumption|refine z_1 ?_);done)|refine z_r ?_);done)) (by rfl) ?_)
    refine xr_gd rfl rfl rfl (xv_faddr fl25_0 rfl ?_)
    refine xr_gd rfl rfl rfl (xv_load1 ty22 rfl rfl (by ((repeat first|exact z_0|assumption|refine z_1 ?_|(refine z_l ?_;(repeat first|exact z_0|assumption|refine z_1 ?_);done)|refine z_r ?_);done)) (by rfl) ?_)
    refine xr_gd rfl rfl rfl (xv_len sl22 rfl ?_)
    refine xr_gd rfl rfl rfl (xv_sub rfl rfl (wrap_i64 (by (first | omega | (dsimp only at *; omega) | (simp at *; omega))) (by (first | omega | (dsimp only at *; omega) | (simp at *; omega)))) ?_)
    refine xr_gd rfl rfl rfl (xv_calls rfl hb31 (within_c _ _ _ (fun hl4 hu5 => up_ret ?_) (fun hn6 => up_ret ?_)))
    · refine xr_op rfl rfl (xv_pick rfl rfl ?_)
      refine xr_op rfl rfl (xv_move rfl ?_)
      refine xr_gd rfl rfl rfl (xv_faddr fl63_2 rfl ?_)
      refine xr_gd rfl rfl rfl (xv_load1 ty3 rfl rfl (by ((repeat first|exact z_0|assumption|refine z_1 ?_|(refine z_l ?_;(repeat first|exact z_0|assumption|refine z_1 ?_);done)|refine z_r ?_);done)) (by rfl) ?_)
      refine xr_gd rfl rfl rfl (xv_calls rfl hb31 (within_c _ _ _ (fun hl7 hu8 => up_ret ?_) (fun hn9 => up_ret ?_)))
      · refine xr_op rfl rfl (xv_pick rfl rfl ?_)
        refine xr_op rfl rfl (xv_assign rfl ?_)
        refine xr_end rfl ?_
        refine th_n ?_
        refine xc_seq (xc_region ?_)
        refine xr_op rfl rfl (xv_faddr fl63_0 rfl ?_)
        refine xr_op rfl rfl (xv_load1 ty3 rfl rfl (by ((repeat first|exact z_0|assumption|refine z_1 ?_|(refine z_l ?_;(repeat first|exact z_0|assumption|refine z_1 ?_);done)|refine z_r ?_);done)) (by rfl) ?_)
        refine xr_op rfl rfl (xv_s1 ty3 rfl rfl rfl (by (first|(apply u_3;(repeat first|exact u_0|assumption|apply u_1|apply u_2);done)|((repeat first|exact u_0|assumption|apply u_1|apply u_2);done)|(apply u_3;apply u_3;(repeat first|exact u_0|assumption|apply u_1|apply u_2);done)|((repeat first|exact u_0|assumption|apply u_3|apply u_1);done))) (by (first | rfl | exact Vec.one _ _)) (by (first | decide | exact Nat.le_of_ble_eq_true rfl | (simp only [List.length_cons, List.length_nil]; omega) | (simp; done))) (by ((try apply evl_some rfl);(repeat (first|exact (rfl : _ = [])|apply evl_cons rfl (by (first|exact v_1|exact v_2|exact v_3|exact v_4|exact v_5|exact v_6|exact v_7|exact v_8|exact v_9|exact rfl))|exact rfl)))) ?_)
        refine xr_end rfl ?_
        refine th_n ?_
        refine xc_seq (xc_region ?_)
        refine xr_op rfl rfl (xv_move rfl ?_)
        refine xr_op rfl rfl (xv_not rfl ?_)
        refine xr_op rfl rfl (xv_assign rfl ?_)
        refine xr_end rfl ?_
        refine th_n ?_
        refine xc_ret ?_
        refine body_ret (h' := ((bl, .cells ⟨[I m.hour]⟩ 3) :: g)) rfl (ro_tmp rfl ro_nil) (by (first|((repeat first|exact s_0|exact s_1|exact s_3|refine s_4 ?_|refine s_5 ?_|refine s_6 ?_|refine s_7 ?_);done)|((repeat first|exact s_0|exact s_1|exact s_3|refine s_4 ?_|refine s_5 ?_|refine s_6 ?_|refine s_8 ?_);done))) ?_
        first | (rw [decide_eq_true (show moveOk y.coals.length last m from by unfold moveOk; omega)] at H; exact H) | (rw [decide_eq_false (show ¬ moveOk y.coals.length last m from fun hq => by unfold moveOk at hq; omega)] at H; exact H)
      · refine xr_op rfl rfl (xv_pick rfl rfl ?_)
        refine xr_op rfl rfl (xv_assign rfl ?_)
        refine xr_end rfl ?_
        refine th_n ?_
        refine xc_seq (xc_region ?_)
        refine xr_op rfl rfl (xv_faddr fl63_0 rfl ?_)
        refine xr_op rfl rfl (xv_load1 ty3 rfl rfl (by ((repeat first|exact z_0|assumption|refine z_1 ?_|(refine z_l ?_;(repeat first|exact z_0|assumption|refine z_1 ?_);done)|refine z_r ?_);done)) (by rfl) ?_)
        refine xr_op rfl rfl (xv_s1 ty3 rfl rfl rfl (by (first|(apply u_3;(repeat first|exact u_0|assumption|apply u_1|apply u_2);done)|((repeat first|exact u_0|assumption|apply u_1|apply u_2);done)|(apply u_3;apply u_3;(repeat first|exact u_0|assumption|apply u_1|apply u_2);done)|((repeat first|exact u_0|assumption|apply u_3|apply u_1);done))) (by (first | rfl | exact Vec.one _ _)) (by (first | decide | exact Nat.le_of_ble_eq_true rfl | (simp only [List.length_cons, List.length_nil]; omega) | (simp; done))) (by ((try apply evl_some rfl);(repeat (first|exact (rfl : _ = [])|apply evl_cons rfl (by (first|exact v_1|exact v_2|exact v_3|exact v_4|exact v_5|exact v_6|exact v_7|exact v_8|exact v_9|exact rfl))|exact rfl)))) ?_)
        refine xr_end rfl ?_
        refine th_n ?_
        refine xc_seq (xc_region ?_)
        refine xr_op rfl rfl (xv_move rfl ?_)
        refine xr_op rfl rfl (xv_not rfl ?_)
        refine xr_op rfl rfl (xv_assign rfl ?_)
        refine xr_end rfl ?_
        refine th_n ?_
        refine xc_ret ?_
        refine body_ret (h' := ((bl, .cells ⟨[I m.hour]⟩ 3) :: g)) rfl (ro_tmp rfl ro_nil) (by (first|((repeat first|exact s_0|exact s_1|exact s_3|refine s_4 ?_|refine s_5 ?_|refine s_6 ?_|refine s_7 ?_);done)|((repeat first|exact s_0|exact s_1|exact s_3|refine s_4 ?_|refine s_5 ?_|refine s_6 ?_|refine s_8 ?_);done))) ?_
        first | (rw [decide_eq_true (show moveOk y.coals.length last m from by unfold moveOk; omega)] at H; exact H) | (rw [decide_eq_false (show ¬ moveOk y.coals.length last m from fun hq => by unfold moveOk at hq; omega)] at H; exact H)
    · refine xr_op rfl rfl (xv_pick rfl rfl ?_)
      refine xr_op rfl rfl (xv_move rfl ?_)
      refine xr_no rfl rfl rfl rfl ?_
      refine xr_no rfl rfl rfl rfl ?_
      refine xr_no rfl rfl rfl rfl ?_
      refine xr_op rfl rfl (xv_pick rfl rfl ?_)
      refine xr_op rfl rfl (xv_assign rfl ?_)
      refine xr_end rfl ?_
      refine th_n ?_
      refine xc_seq (xc_region ?_)
      refine xr_op rfl rfl (xv_faddr fl63_0 rfl ?_)
      refine xr_op rfl rfl (xv_load1 ty3 rfl rfl (by ((repeat first|exact z_0|assumption|refine z_1 ?_|(refine z_l ?_;(repeat first|exact z_0|assumption|refine z_1 ?_);done)|refine z_r ?_);done)) (by rfl) ?_)
      refine xr_op rfl rfl (xv_s1 ty3 rfl rfl rfl (by (first|(apply u_3;(repeat first|exact u_0|assumption|apply u_1|apply u_2);done)|((repeat first|exact u_0|assumption|apply u_1|apply u_2);done)|(apply u_3;apply u_3;(repeat first|exact u_0|assumption|apply u_1|apply u_2);done)|((repeat first|exact u_0|assumption|apply u_3|apply u_1);done))) (by (first | rfl | exact Vec.one _ _)) (by (first | decide | exact Nat.le_of_ble_eq_true rfl | (simp only [List.length_cons, List.length_nil]; omega) | (simp; done))) (by ((try apply evl_some rfl);(repeat (first|exact (rfl : _ = [])|apply evl_cons rfl (by (first|exact v_1|exact v_2|exact v_3|exact v_4|exact v_5|exact v_6|exact v_7|exact v_8|exact v_9|exact rfl))|exact rfl)))) ?_)
      refine xr_end rfl ?_
      refine th_n ?_
      refine xc_seq (xc_region ?_)
      refine xr_op rfl rfl (xv_move rfl ?_)
      refine xr_op rfl rfl (xv_not rfl ?_)
      refine xr_op rfl rfl (xv_assign rfl ?_)
      refine xr_end rfl ?_
      refine th_n ?_
      refine xc_ret ?_
      refine body_ret (h' := ((bl, .cells ⟨[I m.hour]⟩ 3) :: g)) rfl (ro_tmp rfl ro_nil) (by (first|((repeat first|exact s_0|exact s_1|exact s_3|refine s_4 ?_|refine s_5 ?_|refine s_6 ?_|refine s_7 ?_);done)|((repeat first|exact s_0|exact s_1|exact s_3|refine s_4 ?_|refine s_5 ?_|refine s_6 ?_|refine s_8 ?_);done))) ?_
      first | (rw [decide_eq_true (show moveOk y.coals.length last m from by unfold moveOk; omega)] at H; exact H) | (rw [decide_eq_false (show ¬ moveOk y.coals.length last m from fun hq => by unfold moveOk at hq; omega)] at H; exact H)
  · refine xr_op rfl rfl (xv_move rfl ?_)
    refine xr_no rfl rfl rfl rfl ?_
    refine xr_no rfl rfl rfl rfl ?_
    refine xr_no rfl rfl rfl rfl ?_
    refine xr_no rfl rfl rfl rfl ?_
    refine xr_no rfl rfl rfl rfl ?_
    refine xr_no rfl rfl rfl rfl ?_
    refine xr_no rfl rfl rfl rfl ?_
    refine xr_op rfl rfl (xv_pick rfl rfl ?_)
    refine xr_op rfl rfl (xv_move rfl ?_)
    refine xr_no rfl rfl rfl rfl ?_
    refine xr_no rfl rfl rfl rfl ?_
    refine xr_no rfl rfl rfl rfl ?_
    refine xr_op rfl rfl (xv_pick rfl rfl ?_)
    refine xr_op rfl rfl (xv_assign rfl ?_)
    refine xr_end rfl ?_
    refine th_n ?_
    refine xc_seq (xc_region ?_)
    refine xr_op rfl rfl (xv_faddr fl63_0 rfl ?_)
    refine xr_op rfl rfl (xv_load1 ty3 rfl rfl (by ((repeat first|exact z_0|assumption|refine z_1 ?_|(refine z_l ?_;(repeat first|exact z_0|assumption|refine z_1 ?_);done)|refine z_r ?_);done)) (by rfl) ?_)
    refine xr_op rfl rfl (xv_s1 ty3 rfl rfl rfl (by (first|(apply u_3;(repeat first|exact u_0|assumption|apply u_1|apply u_2);done)|((repeat first|exact u_0|assumption|apply u_1|apply u_2);done)|(apply u_3;apply u_3;(repeat first|exact u_0|assumption|apply u_1|apply u_2);done)|((repeat first|exact u_0|assumption|apply u_3|apply u_1);done))) (by (first | rfl | exact Vec.one _ _)) (by (first | decide | exact Nat.le_of_ble_eq_true rfl | (simp only [List.length_cons, List.length_nil]; omega) | (simp; done))) (by ((try apply evl_some rfl);(repeat (first|exact (rfl : _ = [])|apply evl_cons rfl (by (first|exact v_1|exact v_2|exact v_3|exact v_4|exact v_5|exact v_6|exact v_7|exact v_8|exact v_9|exact rfl))|exact rfl)))) ?_)
    refine xr_end rfl ?_
    refine th_n ?_
    refine xc_seq (xc_region ?_)
    refine xr_op rfl rfl (xv_move rfl ?_)
    refine xr_op rfl rfl (xv_not rfl ?_)
    refine xr_op rfl rfl (xv_assign rfl ?_)
    refine xr_end rfl ?_
    refine th_n ?_
    refine xc_ret ?_
    refine body_ret (h' := ((bl, .cells ⟨[I m.hour]⟩ 3) :: g)) rfl (ro_tmp rfl ro_nil) (by (first|((repeat first|exact s_0|exact s_1|exact s_3|refine s_4 ?_|refine s_5 ?_|refine s_6 ?_|refine s_7 ?_);done)|((repeat first|exact s_0|exact s_1|exact s_3|refine s_4 ?_|refine s_5 ?_|refine s_6 ?_|refine s_8 ?_);done))) ?_
    first | (rw [decide_eq_true (show moveOk y.coals.length last m from by unfold moveOk; omega)] at H; exact H) | (rw [decide_eq_false (show ¬ moveOk y.coals.length last m from fun hq => by unfold moveOk at hq; omega)] at H; exact H)

end Go.Proofs.Ytpefpafijadfmaa

/-
  The least that so many hundredweights give: any greedy choice.
-/
set_option linter.all false
namespace Go.Proofs.Ytpefpafijadfmaa
open Go Go.H
def ofL (c : Coal) : List Span := [c.gas, c.tar, c.sulphur, c.coke]
def ofF (c : Coal) (w : Int) : Span := (ofL c).getD w.toNat ⟨0, 0⟩
theorem ofL_get {c : Coal} {w : Int} (h0 : 0 ≤ w) (h1 : w ≤ 3) : (ofL c)[w.toNat]? = some (ofF c w) := by
  have hl : w.toNat < (ofL c).length := by show w.toNat < 4; omega
  unfold ofF
  rw [List.getD_eq_getElem?_getD, List.getElem?_eq_getElem hl]; rfl
def dotI (x e : List Int) : Int := ((x.zip e).map fun z => z.1 * z.2).sum
theorem dot_cons (a b : Int) (x e : List Int) : dotI (a :: x) (b :: e) = a * b + dotI x e := by simp [dotI]
theorem dot_set : ∀ {x e : List Int} {k : Nat} {a b d : Int}, x[k]? = some a → e[k]? = some b → dotI (x.set k (a + d)) e = dotI x e + d * b
  | [], e, k, a, b, d, h, _ => by simp at h
  | a0 :: x, [], k, a, b, d, _, h => by simp at h
  | a0 :: x, b0 :: e, 0, a, b, d, h, h2 => by
    simp at h h2; subst h h2
    rw [List.set_cons_zero, dot_cons, dot_cons, Int.add_mul]; omega
  | a0 :: x, b0 :: e, k + 1, a, b, d, h, h2 => by
    rw [List.set_cons_succ, dot_cons, dot_cons, dot_set (by simpa using h) (by simpa using h2)]; omega
/-- So much of each, and nothing dear before all that is cheap is taken. -/
structure Greedy (room each : List Int) (need : Int) (x : List Int) : Prop where
  len : x.length = room.length
  bd : ∀ (i : Nat) (a r : Int), x[i]? = some a → room[i]? = some r → 0 ≤ a ∧ a ≤ r
  sum : sumI x = need
  fst : ∀ (i j : Nat) (a r ei b ej : Int), x[i]? = some a → room[i]? = some r → each[i]? = some ei → x[j]? = some b → each[j]? = some ej → ei < ej → 0 < b → a = r
theorem dot_diff : ∀ {x y e : List Int} {c : Int}, x.length = y.length → x.length = e.length → (∀ (i : Nat) (a b d : Int), x[i]? = some a → y[i]? = some b → e[i]? = some d → a ≠ b → d = c) → dotI x e - dotI y e = c * (sumI x - sumI y)
  | [], [], e, c, _, _, _ => by simp [dotI, sumI]
  | a :: x, b :: y, d :: e, c, h, h2, hd => by
    have ih := dot_diff (x := x) (y := y) (e := e) (c := c) (by simpa using h) (by simpa using h2) fun i p q r hp hq hr => hd (i + 1) p q r (by simpa using hp) (by simpa using hq) (by simpa using hr)
    have e1 : sumI (a :: x) = a + sumI x := by unfold sumI; simp
    have e2 : sumI (b :: y) = b + sumI y := by unfold sumI; simp
    rw [dot_cons, dot_cons, e1, e2]
    have key : a * d - b * d = c * (a - b) := by
      by_cases hab : a = b
      · subst hab; simp
      · have := hd 0 a b d rfl rfl rfl hab
        subst this
        rw [Int.mul_sub, Int.mul_comm d a, Int.mul_comm d b]
    have e3 : c * (a + sumI x - (b + sumI y)) = c * (a - b) + c * (sumI x - sumI y) := by rw [← Int.mul_add]; congr 1; omega
    rw [e3]; omega
theorem more_exists : ∀ {x y : List Int}, x.length = y.length → sumI x = sumI y → x ≠ y → (∃ (i : Nat) (a b : Int), x[i]? = some a ∧ y[i]? = some b ∧ a > b) ∧ ∃ (i : Nat) (a b : Int), x[i]? = some a ∧ y[i]? = some b ∧ a < b := by
  have key : ∀ {x y : List Int}, x.length = y.length → (∀ (i : Nat) (a b : Int), x[i]? = some a → y[i]? = some b → a ≤ b) → sumI x ≤ sumI y ∧ (sumI x = sumI y → x = y) := by
    intro x
    induction x with
    | nil => intro y h _; rw [List.length_eq_zero_iff.1 h.symm]; exact ⟨Int.le_refl _, fun _ => rfl⟩
    | cons a x ih =>
      intro y h hle
      cases y with
      | nil => simp at h
      | cons b y =>
        have := ih (y := y) (by simpa using h) fun i p q hp hq => hle (i + 1) p q (by simpa using hp) (by simpa using hq)
        have h0 := hle 0 a b rfl rfl
        have e1 : sumI (a :: x) = a + sumI x := by unfold sumI; simp
        have e2 : sumI (b :: y) = b + sumI y := by unfold sumI; simp
        rw [e1, e2]
        refine ⟨by omega, fun he => ?_⟩
        rw [this.2 (by omega), show a = b by omega]
  intro x y hl hs hne
  refine ⟨Classical.byContradiction fun hn => ?_, Classical.byContradiction fun hn => ?_⟩
  · exact hne ((key hl fun i a b ha hb => by
      by_cases h : a ≤ b
      · exact h
      · exact absurd ⟨i, a, b, ha, hb, by omega⟩ hn).2 hs)
  · exact hne ((key hl.symm fun i a b ha hb => by
      by_cases h : a ≤ b
      · exact h
      · exact absurd ⟨i, b, a, hb, ha, by omega⟩ hn).2 hs.symm).symm
theorem greedy_same {room each : List Int} {need : Int} {x y : List Int} (he : each.length = room.length) (hx : Greedy room each need x) (hy : Greedy room each need y) : dotI x each = dotI y each := by
  by_cases hxy : x = y
  · rw [hxy]
  have hl : x.length = y.length := by rw [hx.len, hy.len]
  have hs : sumI x = sumI y := by rw [hx.sum, hy.sum]
  obtain ⟨⟨p, xp, yp, hxp, hyp, hgt⟩, q, xq, yq, hxq, hyq, hlt⟩ := more_exists hl hs hxy
  have get : ∀ (l : List Int) (i : Nat) (a : Int), l.length = x.length → x[i]? = some a → ∃ b, l[i]? = some b := fun l i a h ha => ⟨_, List.getElem?_eq_getElem (by have := (List.getElem?_eq_some_iff.1 ha).1; omega)⟩
  obtain ⟨ep, hep⟩ := get each p xp (by rw [he, hx.len]) hxp
  obtain ⟨eq, heq⟩ := get each q xq (by rw [he, hx.len]) hxq
  -- two places where one has more and the other less cost the same
  have pair : ∀ (i j : Nat) (a b c d ei ej : Int), x[i]? = some a → y[i]? = some b → x[j]? = some c → y[j]? = some d → each[i]? = some ei → each[j]? = some ej → a > b → c < d → ei = ej := by
    intro i j a b c d ei ej ha hb hc hd hi hj h1 h2
    obtain ⟨ri, hri⟩ := get room i a hx.len.symm ha
    obtain ⟨rj, hrj⟩ := get room j c hx.len.symm hc
    have b1 := hx.bd i a ri ha hri
    have b2 := hy.bd i b ri hb hri
    have b3 := hx.bd j c rj hc hrj
    have b4 := hy.bd j d rj hd hrj
    rcases Int.lt_trichotomy ei ej with h | h | h
    · have := hy.fst i j b ri ei d ej hb hri hi hd hj h (by omega); omega
    · exact h
    · have := hx.fst j i c rj ej a ei hc hrj hj ha hi h (by omega); omega
  have e0 := pair p q xp yp xq yq ep eq hxp hyp hxq hyq hep heq hgt hlt
  have := dot_diff (x := x) (y := y) (e := each) (c := ep) hl (by rw [hx.len, he]) fun i a b d ha hb hd hne => by
    by_cases h : a > b
    · rw [e0]; exact pair i q a b xq yq d eq ha hb hxq hyq hd heq h hlt
    · exact (pair p i xp yp a b ep d hxp hyp ha hb hep hd hgt (by omega)).symm
  rw [hs, Int.sub_self, Int.mul_zero] at this
  omega
end Go.Proofs.Ytpefpafijadfmaa

/-
  Moves that are valid one by one.
-/
set_option linter.all false
namespace Go.Proofs.Ytpefpafijadfmaa
open Go Go.H
theorem movesOk_all {n : Nat} {l : List Move} (h : ∀ (k : Nat) (x : Move), l[k]? = some x → moveOk n (lastH 0 (l.take k)) x) : movesOk n 0 l := by
  have key : ∀ k, k ≤ l.length → movesOk n 0 (l.take k) := by
    intro k
    induction k with
    | zero => intro _; trivial
    | succ k ih =>
      intro hk
      obtain ⟨x, hx⟩ : ∃ x, l[k]? = some x := ⟨_, List.getElem?_eq_getElem (by omega)⟩
      exact (movesOk_take hx).2 ⟨ih (by omega), h k x hx⟩
  have := key l.length (Nat.le_refl _)
  rwa [List.take_length] at this
end Go.Proofs.Ytpefpafijadfmaa

/-
  Walks.
-/
namespace Go.Proofs.Ytpefpafijadfmaa
open Go Go.H
set_option maxRecDepth 100000
set_option maxHeartbeats 8000000
set_option linter.all false
theorem isYard_c {y : Yard} {h : Hp} {R : Ending → Hp → Prop} (hy : YardV h y) (hs : Small y) (H1 : GoodYard y → R (.returned (.bool true)) h) (H2 : ¬ GoodYard y → R (.returned (.bool false)) h) : ACalls Try.prog 52 ⟨[.agg ⟨eYard y⟩]⟩ h R := by
  refine calls_of_xc (N := 57) Try.func52 rfl (by rfl) ?_
  obtain ⟨hs1, hs2⟩ := id hs
  refine xc_seq (xc_region ?_)
  refine xr_op rfl rfl (xv_box rfl (fun b1 hb1 => ?_))
  refine xr_op rfl rfl (xv_assign rfl ?_)
  refine xr_end rfl ?_
  refine th_n ?_
  refine xc_seq (xc_region ?_)
  refine xr_op rfl rfl (xv_alloc ty3 (fun b3 hb3 => ?_))
  refine xr_op rfl rfl (xv_s1 ty3 rfl rfl rfl (by (first|(apply u_3;(repeat first|exact u_0|assumption|apply u_1|apply u_2);done)|((repeat first|exact u_0|assumption|apply u_1|apply u_2);done)|(apply u_3;apply u_3;(repeat first|exact u_0|assumption|apply u_1|apply u_2);done)|((repeat first|exact u_0|assumption|apply u_3|apply u_1);done))) (by (first | rfl | exact Vec.one _ _)) (by (first | decide | exact Nat.le_of_ble_eq_true rfl | (simp only [List.length_cons, List.length_nil]; omega) | (simp; done))) (by ((try apply evl_some rfl);(repeat (first|exact (rfl : _ = [])|apply evl_cons rfl (by (first|exact v_1|exact v_2|exact v_3|exact v_4|exact v_5|exact v_6|exact v_7|exact v_8|exact v_9|exact rfl))|exact rfl)))) ?_)
  refine xr_end rfl ?_
  refine th_n ?_
  refine xc_seq (xc_region ?_)
  refine xr_op rfl rfl (xv_func rfl rfl ?_)
  refine xr_op rfl rfl (xv_assign rfl ?_)
  refine xr_end rfl ?_
  refine th_n ?_
  refine xc_seq ?_
  refine xc_seq (xc_region ?_)
  refine xr_op rfl rfl (xv_faddr fl25_0 rfl ?_)
  refine xr_op rfl rfl (xv_load1 ty22 rfl rfl (by ((repeat first|exact z_0|assumption|refine z_1 ?_|(refine z_l ?_;(repeat first|exact z_0|assumption|refine z_1 ?_);done)|refine z_r ?_);done)) (by rfl) ?_)
  refine xr_op rfl rfl (xv_len sl22 rfl ?_)
  refine xr_op rfl rfl (xv_move rfl ?_)
  refine xr_end rfl ?_
  refine th_n ?_
  refine xc_block ?_
  refine xc_loop (σ := Nat) (fun k => k ≤ y.coals.length ∧ ∀ x ∈ y.coals.take k, coalOk x) (fun k => (((((emp.put (some 1) (.pointer (some ⟨b1, 0, none⟩))).put (some 4) (.func (.func 61) ⟨[]⟩ ⟨[.pointer (some ⟨b3, 0, none⟩), .pointer (some ⟨b1, 0, none⟩)]⟩)).put (some 12) (.slice y.ca y.coals.length y.cc)).put (some 13) (I y.coals.length)).put (some 14) (I k))) (fun k => ((b3, .cells ⟨[I 0]⟩ 3) :: (b1, .cells ⟨eYard y⟩ 25) :: h)) (fun k => y.coals.length - k) 0 ⟨Nat.zero_le _, fun x hx => by simp at hx⟩ (le_put (le_put (le_put (le_put (le_put (le_emp _) rfl) rfl) rfl) rfl) rfl) (by (first|((repeat first|exact s_0|exact s_1|exact s_3|refine s_4 ?_|refine s_5 ?_|refine s_6 ?_|refine s_7 ?_);done)|((repeat first|exact s_0|exact s_1|exact s_3|refine s_4 ?_|refine s_5 ?_|refine s_6 ?_|refine s_8 ?_);done))) ?_
  rintro k ⟨hk, hal⟩
  refine xc_seq (xc_region ?_)
  refine xr_op rfl rfl (xv_lss2 rfl rfl (fun q1 => ?_) (fun q1 => ?_))
  · refine xr_end rfl ?_
    refine th_n ?_
    refine xc_seq ?_
    refine xc_true rfl ?_
    refine xc_skip ?_
    refine th_n ?_
    refine xc_seq ?_
    refine xc_block ?_
    refine xc_seq (xc_region ?_)
    have hlto : k < y.coals.length := by (first | omega | (dsimp only at *; omega) | (simp at *; omega))
    obtain ⟨bo, oo, lo, to, fzo, hao, hmo, hxo⟩ := (hy.coals).at hlto
    obtain ⟨xo, hko⟩ : ∃ qq_, y.coals[k]? = some qq_ := ⟨_, List.getElem?_eq_getElem hlto⟩
    refine xr_op rfl rfl (xv_ia (sz := 8) (j := k) sl22 ty59 rfl (by rw [hao]; rfl) rfl (by (first | assumption | with_reducible exact Int.toNat_natCast _ | with_reducible rfl | rfl)) (by (first | omega | (dsimp only at *; omega) | (simp at *; omega))) (by (first | omega | (dsimp only at *; omega) | (simp at *; omega))) ?_)
    refine xr_op rfl rfl (xv_loadA ty59 rfl rfl (by ((repeat first|exact z_0|assumption|refine z_1 ?_|(refine z_l ?_;(repeat first|exact z_0|assumption|refine z_1 ?_);done)|refine z_r ?_);done)) (hxo (k) xo hko) rfl ?_)
    refine xr_op rfl rfl (xv_alloc ty59 (fun b6 hb6 => ?_))
    refine xr_op rfl rfl (xv_s ty59 rfl rfl (by (first|(apply u_3;(repeat first|exact u_0|assumption|apply u_1|apply u_2);done)|((repeat first|exact u_0|assumption|apply u_1|apply u_2);done)|(apply u_3;apply u_3;(repeat first|exact u_0|assumption|apply u_1|apply u_2);done)|((repeat first|exact u_0|assumption|apply u_3|apply u_1);done))) (by ((try apply evl_some rfl);(repeat (first|exact (rfl : _ = [])|apply evl_cons rfl (by (first|exact v_1|exact v_2|exact v_3|exact v_4|exact v_5|exact v_6|exact v_7|exact v_8|exact v_9|exact rfl))|exact rfl)))) (by rfl) (by rfl) (by rfl) (by ((try apply evl_some rfl);(repeat (first|exact (rfl : _ = [])|apply evl_cons rfl (by (first|exact v_1|exact v_2|exact v_3|exact v_4|exact v_5|exact v_6|exact v_7|exact v_8|exact v_9|exact rfl))|exact rfl)))) ?_)
    refine xr_end rfl ?_
    refine th_n ?_
    refine xc_seq (xc_region ?_)
    refine xr_op rfl rfl (xv_calls rfl hb40 (given_c (up_ret ?_)))
    refine xr_op rfl rfl (xv_move rfl ?_)
    refine xr_end rfl ?_
    refine th_n ?_
    refine xc_block ?_
    refine xc_loop (σ := Nat) (fun i => i ≤ 4 ∧ ∀ (j : Nat) (s : Span), j < i → (ofL xo)[j]? = some s → spanOk s) (fun i => ((((((((emp.put (some 1) (.pointer (some ⟨b1, 0, none⟩))).put (some 4) (.func (.func 61) ⟨[]⟩ ⟨[.pointer (some ⟨b3, 0, none⟩), .pointer (some ⟨b1, 0, none⟩)]⟩)).put (some 12) (.slice y.ca y.coals.length y.cc)).put (some 13) (I y.coals.length)).put (some 14) (I k)).put (some 6) (.pointer (some ⟨b6, 0, none⟩))).put (some 18) (.agg ⟨[.func (.func 54) ⟨[]⟩ ⟨[]⟩, .func (.func 55) ⟨[]⟩ ⟨[]⟩, .func (.func 56) ⟨[]⟩ ⟨[]⟩, .func (.func 57) ⟨[]⟩ ⟨[]⟩]⟩)).put (some 19) (I i))) (fun i => ((b6, .cells ⟨eCoal xo⟩ 59) :: ((b3, .cells ⟨[I 0]⟩ 3) :: (b1, .cells ⟨eYard y⟩ 25) :: h))) (fun i => 4 - i) 0 ⟨Nat.zero_le _, fun j s hj => absurd hj (Nat.not_lt_zero _)⟩ (le_put (le_put (le_put (le_put (le_put (le_put (le_put (le_put (le_emp _) rfl) rfl) rfl) rfl) rfl) rfl) rfl) rfl) (by (first|((repeat first|exact s_0|exact s_1|exact s_3|refine s_4 ?_|refine s_5 ?_|refine s_6 ?_|refine s_7 ?_);done)|((repeat first|exact s_0|exact s_1|exact s_3|refine s_4 ?_|refine s_5 ?_|refine s_6 ?_|refine s_8 ?_);done))) ?_
    rintro i ⟨hi, hi4⟩
    refine xc_seq (xc_region ?_)
    refine xr_op rfl rfl (xv_lss2 rfl rfl (fun q2 => ?_) (fun q2 => ?_))
    · refine xr_end rfl ?_
      refine th_n ?_
      refine xc_seq ?_
      refine xc_true rfl ?_
      refine xc_skip ?_
      refine th_n ?_
      refine xc_seq ?_
      refine xc_block ?_
      refine xc_seq (xc_region ?_)
      obtain rfl | rfl | rfl | rfl : i = 0 ∨ i = 1 ∨ i = 2 ∨ i = 3 := by (first | omega | (dsimp only at *; omega) | (simp at *; omega))
      · refine xr_op rfl rfl (xv_indexA Try.underlying90 ty89 rfl rfl rfl (by decide) (by decide) (by rfl) ?_)
        refine xr_op rfl rfl (xv_alloc ty89 (fun b8 hb8 => ?_))
        refine xr_op rfl rfl (xv_s ty89 rfl rfl (by (first|(apply u_3;(repeat first|exact u_0|assumption|apply u_1|apply u_2);done)|((repeat first|exact u_0|assumption|apply u_1|apply u_2);done)|(apply u_3;apply u_3;(repeat first|exact u_0|assumption|apply u_1|apply u_2);done)|((repeat first|exact u_0|assumption|apply u_3|apply u_1);done))) (by ((try apply evl_some rfl);(repeat (first|exact (rfl : _ = [])|apply evl_cons rfl (by (first|exact v_1|exact v_2|exact v_3|exact v_4|exact v_5|exact v_6|exact v_7|exact v_8|exact v_9|exact rfl))|exact rfl)))) (by rfl) (by rfl) (by rfl) (by ((try apply evl_some rfl);(repeat (first|exact (rfl : _ = [])|apply evl_cons rfl (by (first|exact v_1|exact v_2|exact v_3|exact v_4|exact v_5|exact v_6|exact v_7|exact v_8|exact v_9|exact rfl))|exact rfl)))) ?_)
        refine xr_end rfl ?_
        refine th_n ?_
        refine xc_seq (xc_region ?_)
        refine xr_op rfl rfl (xv_faddr fl89_0 rfl ?_)
        refine xr_op rfl rfl (xv_load1 ty88 rfl rfl (by ((repeat first|exact z_0|assumption|refine z_1 ?_|(refine z_l ?_;(repeat first|exact z_0|assumption|refine z_1 ?_);done)|refine z_r ?_);done)) (by rfl) ?_)
        refine xr_op rfl rfl (xv_loadA ty59 rfl rfl (by ((repeat first|exact z_0|assumption|refine z_1 ?_|(refine z_l ?_;(repeat first|exact z_0|assumption|refine z_1 ?_);done)|refine z_r ?_);done)) (by ((try apply evl_some rfl);(repeat (first|exact (rfl : _ = [])|apply evl_cons rfl (by (first|exact v_1|exact v_2|exact v_3|exact v_4|exact v_5|exact v_6|exact v_7|exact v_8|exact v_9|exact rfl))|exact rfl)))) (by rfl) ?_)
        refine xr_op rfl rfl (xv_call (fi := []) (ca := []) rfl rfl hb54 rfl (give54_c (c := xo) (up_ret ?_)))
        refine xr_op rfl rfl (xv_alloc ty33 (fun b9 hb9 => ?_))
        refine xr_op rfl rfl (xv_s ty33 rfl rfl (by (first|(apply u_3;(repeat first|exact u_0|assumption|apply u_1|apply u_2);done)|((repeat first|exact u_0|assumption|apply u_1|apply u_2);done)|(apply u_3;apply u_3;(repeat first|exact u_0|assumption|apply u_1|apply u_2);done)|((repeat first|exact u_0|assumption|apply u_3|apply u_1);done))) (by ((try apply evl_some rfl);(repeat (first|exact (rfl : _ = [])|apply evl_cons rfl (by (first|exact v_1|exact v_2|exact v_3|exact v_4|exact v_5|exact v_6|exact v_7|exact v_8|exact v_9|exact rfl))|exact rfl)))) (by rfl) (by rfl) (by rfl) (by ((try apply evl_some rfl);(repeat (first|exact (rfl : _ = [])|apply evl_cons rfl (by (first|exact v_1|exact v_2|exact v_3|exact v_4|exact v_5|exact v_6|exact v_7|exact v_8|exact v_9|exact rfl))|exact rfl)))) ?_)
        refine xr_end rfl ?_
        refine th_n ?_
        refine xc_seq (xc_region ?_)
        refine xr_op rfl rfl (xv_faddr fl33_1 rfl ?_)
        refine xr_op rfl rfl (xv_load1 ty3 rfl rfl (by ((repeat first|exact z_0|assumption|refine z_1 ?_|(refine z_l ?_;(repeat first|exact z_0|assumption|refine z_1 ?_);done)|refine z_r ?_);done)) (by rfl) ?_)
        refine xr_op rfl rfl (xv_calls rfl hb31 (within_c _ _ _ (fun hl3 hu4 => up_ret ?_) (fun hn5 => up_ret ?_)))
        · refine xr_op rfl rfl (xv_not rfl ?_)
          refine xr_op rfl rfl (xv_move rfl ?_)
          refine xr_gd rfl rfl rfl (xv_faddr fl33_0 rfl ?_)
          refine xr_gd rfl rfl rfl (xv_load1 ty3 rfl rfl (by ((repeat first|exact z_0|assumption|refine z_1 ?_|(refine z_l ?_;(repeat first|exact z_0|assumption|refine z_1 ?_);done)|refine z_r ?_);done)) (by rfl) ?_)
          refine xr_gd rfl rfl rfl (xv_faddr fl33_1 rfl ?_)
          refine xr_gd rfl rfl rfl (xv_load1 ty3 rfl rfl (by ((repeat first|exact z_0|assumption|refine z_1 ?_|(refine z_l ?_;(repeat first|exact z_0|assumption|refine z_1 ?_);done)|refine z_r ?_);done)) (by rfl) ?_)
          refine xr_gd rfl rfl rfl (xv_calls rfl hb31 (within_c _ _ _ (fun hl6 hu7 => up_ret ?_) (fun hn8 => up_ret ?_)))
          · refine xr_gd rfl rfl rfl (xv_not rfl ?_)
            refine xr_op rfl rfl (xv_pick rfl rfl ?_)
            refine xr_end rfl ?_
            refine th_n ?_
            refine xc_false rfl ?_
            refine xc_skip ?_
            refine bk_n ?_
            refine th_n ?_
            refine xc_region ?_
            refine xr_op rfl rfl (xv_add rfl rfl (wrap_i64 (by (first | omega | (dsimp only at *; omega) | (simp at *; omega))) (by (first | omega | (dsimp only at *; omega) | (simp at *; omega)))) ?_)
            refine xr_op rfl rfl (xv_move rfl ?_)
            refine xr_end rfl ?_
            exact rnd (0 + 1) ⟨by omega, fun j s9 hj hs9 => by
              rcases Nat.lt_succ_iff_lt_or_eq.1 hj with hj | rfl
              · exact hi4 j s9 hj hs9
              · have hs8 : some xo.gas = some s9 := hs9
                cases hs8
                unfold spanOk; omega⟩ (by omega) (le_put (le_put (le_put (le_put (le_put (le_put (le_put (le_put (le_emp _) rfl) rfl) rfl) rfl) rfl) rfl) rfl) rfl) (by (first|((repeat first|exact s_0|exact s_1|exact s_3|refine s_4 ?_|refine s_5 ?_|refine s_6 ?_|refine s_7 ?_);done)|((repeat first|exact s_0|exact s_1|exact s_3|refine s_4 ?_|refine s_5 ?_|refine s_6 ?_|refine s_8 ?_);done)))
          · refine xr_gd rfl rfl rfl (xv_not rfl ?_)
            refine xr_op rfl rfl (xv_pick rfl rfl ?_)
            refine xr_end rfl ?_
            refine th_n ?_
            refine xc_true rfl ?_
            refine xc_seq (xc_region ?_)
            have hbs : ¬ spanOk xo.gas := fun hq => by unfold spanOk at hq; omega
            have hbc : ¬ coalOk xo := fun hq => hbs hq.1
            refine xr_op rfl rfl (xv_assign rfl ?_)
            refine xr_end rfl ?_
            refine th_n ?_
            refine xc_ret ?_
            refine bk_r ?_
            refine th_r ?_
            refine th_r ?_
            refine bk_r ?_
            refine bk_r ?_
            refine th_r ?_
            refine th_r ?_
            refine bk_r ?_
            refine th_r ?_
            refine body_ret (h' := h) rfl (ro_tmp rfl ro_nil) (by (first|((repeat first|exact s_0|exact s_1|exact s_3|refine s_4 ?_|refine s_5 ?_|refine s_6 ?_|refine s_7 ?_);done)|((repeat first|exact s_0|exact s_1|exact s_3|refine s_4 ?_|refine s_5 ?_|refine s_6 ?_|refine s_8 ?_);done))) ?_
            first | exact H2 (fun hq9 => hbc (hq9.1 xo (List.mem_of_getElem? hko))) | exact H2 (fun hq9 => absurd (movesOk_at hq9.2.1 hkb) (by simpa using hpb)) | exact H1 ⟨hco, movesOk_all (fun k x hk => by simpa using hno k x hk), by omega, by omega⟩ | exact H2 (fun hq9 => by have h9 := hq9.2.2; omega)
        · refine xr_op rfl rfl (xv_not rfl ?_)
          refine xr_op rfl rfl (xv_move rfl ?_)
          refine xr_no rfl rfl rfl rfl ?_
          refine xr_no rfl rfl rfl rfl ?_
          refine xr_no rfl rfl rfl rfl ?_
          refine xr_no rfl rfl rfl rfl ?_
          refine xr_no rfl rfl rfl rfl ?_
          refine xr_no rfl rfl rfl rfl ?_
          refine xr_op rfl rfl (xv_pick rfl rfl ?_)
          refine xr_end rfl ?_
          refine th_n ?_
          refine xc_true rfl ?_
          refine xc_seq (xc_region ?_)
          have hbs : ¬ spanOk xo.gas := fun hq => by unfold spanOk at hq; omega
          have hbc : ¬ coalOk xo := fun hq => hbs hq.1
          refine xr_op rfl rfl (xv_assign rfl ?_)
          refine xr_end rfl ?_
          refine th_n ?_
          refine xc_ret ?_
          refine bk_r ?_
          refine th_r ?_
          refine th_r ?_
          refine bk_r ?_
          refine bk_r ?_
          refine th_r ?_
          refine th_r ?_
          refine bk_r ?_
          refine th_r ?_
          refine body_ret (h' := h) rfl (ro_tmp rfl ro_nil) (by (first|((repeat first|exact s_0|exact s_1|exact s_3|refine s_4 ?_|refine s_5 ?_|refine s_6 ?_|refine s_7 ?_);done)|((repeat first|exact s_0|exact s_1|exact s_3|refine s_4 ?_|refine s_5 ?_|refine s_6 ?_|refine s_8 ?_);done))) ?_
          first | exact H2 (fun hq9 => hbc (hq9.1 xo (List.mem_of_getElem? hko))) | exact H2 (fun hq9 => absurd (movesOk_at hq9.2.1 hkb) (by simpa using hpb)) | exact H1 ⟨hco, movesOk_all (fun k x hk => by simpa using hno k x hk), by omega, by omega⟩ | exact H2 (fun hq9 => by have h9 := hq9.2.2; omega)
      · refine xr_op rfl rfl (xv_indexA Try.underlying90 ty89 rfl rfl rfl (by decide) (by decide) (by rfl) ?_)
        refine xr_op rfl rfl (xv_alloc ty89 (fun b8 hb8 => ?_))
        refine xr_op rfl rfl (xv_s ty89 rfl rfl (by (first|(apply u_3;(repeat first|exact u_0|assumption|apply u_1|apply u_2);done)|((repeat first|exact u_0|assumption|apply u_1|apply u_2);done)|(apply u_3;apply u_3;(repeat first|exact u_0|assumption|apply u_1|apply u_2);done)|((repeat first|exact u_0|assumption|apply u_3|apply u_1);done))) (by ((try apply evl_some rfl);(repeat (first|exact (rfl : _ = [])|apply evl_cons rfl (by (first|exact v_1|exact v_2|exact v_3|exact v_4|exact v_5|exact v_6|exact v_7|exact v_8|exact v_9|exact rfl))|exact rfl)))) (by rfl) (by rfl) (by rfl) (by ((try apply evl_some rfl);(repeat (first|exact (rfl : _ = [])|apply evl_cons rfl (by (first|exact v_1|exact v_2|exact v_3|exact v_4|exact v_5|exact v_6|exact v_7|exact v_8|exact v_9|exact rfl))|exact rfl)))) ?_)
        refine xr_end rfl ?_
        refine th_n ?_
        refine xc_seq (xc_region ?_)
        refine xr_op rfl rfl (xv_faddr fl89_0 rfl ?_)
        refine xr_op rfl rfl (xv_load1 ty88 rfl rfl (by ((repeat first|exact z_0|assumption|refine z_1 ?_|(refine z_l ?_;(repeat first|exact z_0|assumption|refine z_1 ?_);done)|refine z_r ?_);done)) (by rfl) ?_)
        refine xr_op rfl rfl (xv_loadA ty59 rfl rfl (by ((repeat first|exact z_0|assumption|refine z_1 ?_|(refine z_l ?_;(repeat first|exact z_0|assumption|refine z_1 ?_);done)|refine z_r ?_);done)) (by ((try apply evl_some rfl);(repeat (first|exact (rfl : _ = [])|apply evl_cons rfl (by (first|exact v_1|exact v_2|exact v_3|exact v_4|exact v_5|exact v_6|exact v_7|exact v_8|exact v_9|exact rfl))|exact rfl)))) (by rfl) ?_)
        refine xr_op rfl rfl (xv_call (fi := []) (ca := []) rfl rfl hb55 rfl (give55_c (c := xo) (up_ret ?_)))
        refine xr_op rfl rfl (xv_alloc ty33 (fun b9 hb9 => ?_))
        refine xr_op rfl rfl (xv_s ty33 rfl rfl (by (first|(apply u_3;(repeat first|exact u_0|assumption|apply u_1|apply u_2);done)|((repeat first|exact u_0|assumption|apply u_1|apply u_2);done)|(apply u_3;apply u_3;(repeat first|exact u_0|assumption|apply u_1|apply u_2);done)|((repeat first|exact u_0|assumption|apply u_3|apply u_1);done))) (by ((try apply evl_some rfl);(repeat (first|exact (rfl : _ = [])|apply evl_cons rfl (by (first|exact v_1|exact v_2|exact v_3|exact v_4|exact v_5|exact v_6|exact v_7|exact v_8|exact v_9|exact rfl))|exact rfl)))) (by rfl) (by rfl) (by rfl) (by ((try apply evl_some rfl);(repeat (first|exact (rfl : _ = [])|apply evl_cons rfl (by (first|exact v_1|exact v_2|exact v_3|exact v_4|exact v_5|exact v_6|exact v_7|exact v_8|exact v_9|exact rfl))|exact rfl)))) ?_)
        refine xr_end rfl ?_
        refine th_n ?_
        refine xc_seq (xc_region ?_)
        refine xr_op rfl rfl (xv_faddr fl33_1 rfl ?_)
        refine xr_op rfl rfl (xv_load1 ty3 rfl rfl (by ((repeat first|exact z_0|assumption|refine z_1 ?_|(refine z_l ?_;(repeat first|exact z_0|assumption|refine z_1 ?_);done)|refine z_r ?_);done)) (by rfl) ?_)
        refine xr_op rfl rfl (xv_calls rfl hb31 (within_c _ _ _ (fun hl9 hu10 => up_ret ?_) (fun hn11 => up_ret ?_)))
        · refine xr_op rfl rfl (xv_not rfl ?_)
          refine xr_op rfl rfl (xv_move rfl ?_)
          refine xr_gd rfl rfl rfl (xv_faddr fl33_0 rfl ?_)
          refine xr_gd rfl rfl rfl (xv_load1 ty3 rfl rfl (by ((repeat first|exact z_0|assumption|refine z_1 ?_|(refine z_l ?_;(repeat first|exact z_0|assumption|refine z_1 ?_);done)|refine z_r ?_);done)) (by rfl) ?_)
          refine xr_gd rfl rfl rfl (xv_faddr fl33_1 rfl ?_)
          refine xr_gd rfl rfl rfl (xv_load1 ty3 rfl rfl (by ((repeat first|exact z_0|assumption|refine z_1 ?_|(refine z_l ?_;(repeat first|exact z_0|assumption|refine z_1 ?_);done)|refine z_r ?_);done)) (by rfl) ?_)
          refine xr_gd rfl rfl rfl (xv_calls rfl hb31 (within_c _ _ _ (fun hl12 hu13 => up_ret ?_) (fun hn14 => up_ret ?_)))
          · refine xr_gd rfl rfl rfl (xv_not rfl ?_)
            refine xr_op rfl rfl (xv_pick rfl rfl ?_)
            refine xr_end rfl ?_
            refine th_n ?_
            refine xc_false rfl ?_
            refine xc_skip ?_
            refine bk_n ?_
            refine th_n ?_
            refine xc_region ?_
            refine xr_op rfl rfl (xv_add rfl rfl (wrap_i64 (by (first | omega | (dsimp only at *; omega) | (simp at *; omega))) (by (first | omega | (dsimp only at *; omega) | (simp at *; omega)))) ?_)
            refine xr_op rfl rfl (xv_move rfl ?_)
            refine xr_end rfl ?_
            exact rnd (1 + 1) ⟨by omega, fun j s9 hj hs9 => by
              rcases Nat.lt_succ_iff_lt_or_eq.1 hj with hj | rfl
              · exact hi4 j s9 hj hs9
              · have hs8 : some xo.tar = some s9 := hs9
                cases hs8
                unfold spanOk; omega⟩ (by omega) (le_put (le_put (le_put (le_put (le_put (le_put (le_put (le_put (le_emp _) rfl) rfl) rfl) rfl) rfl) rfl) rfl) rfl) (by (first|((repeat first|exact s_0|exact s_1|exact s_3|refine s_4 ?_|refine s_5 ?_|refine s_6 ?_|refine s_7 ?_);done)|((repeat first|exact s_0|exact s_1|exact s_3|refine s_4 ?_|refine s_5 ?_|refine s_6 ?_|refine s_8 ?_);done)))
          · refine xr_gd rfl rfl rfl (xv_not rfl ?_)
            refine xr_op rfl rfl (xv_pick rfl rfl ?_)
            refine xr_end rfl ?_
            refine th_n ?_
            refine xc_true rfl ?_
            refine xc_seq (xc_region ?_)
            have hbs : ¬ spanOk xo.tar := fun hq => by unfold spanOk at hq; omega
            have hbc : ¬ coalOk xo := fun hq => hbs hq.2.1
            refine xr_op rfl rfl (xv_assign rfl ?_)
            refine xr_end rfl ?_
            refine th_n ?_
            refine xc_ret ?_
            refine bk_r ?_
            refine th_r ?_
            refine th_r ?_
            refine bk_r ?_
            refine bk_r ?_
            refine th_r ?_
            refine th_r ?_
            refine bk_r ?_
            refine th_r ?_
            refine body_ret (h' := h) rfl (ro_tmp rfl ro_nil) (by (first|((repeat first|exact s_0|exact s_1|exact s_3|refine s_4 ?_|refine s_5 ?_|refine s_6 ?_|refine s_7 ?_);done)|((repeat first|exact s_0|exact s_1|exact s_3|refine s_4 ?_|refine s_5 ?_|refine s_6 ?_|refine s_8 ?_);done))) ?_
            first | exact H2 (fun hq9 => hbc (hq9.1 xo (List.mem_of_getElem? hko))) | exact H2 (fun hq9 => absurd (movesOk_at hq9.2.1 hkb) (by simpa using hpb)) | exact H1 ⟨hco, movesOk_all (fun k x hk => by simpa using hno k x hk), by omega, by omega⟩ | exact H2 (fun hq9 => by have h9 := hq9.2.2; omega)
        · refine xr_op rfl rfl (xv_not rfl ?_)
          refine xr_op rfl rfl (xv_move rfl ?_)
          refine xr_no rfl rfl rfl rfl ?_
          refine xr_no rfl rfl rfl rfl ?_
          refine xr_no rfl rfl rfl rfl ?_
          refine xr_no rfl rfl rfl rfl ?_
          refine xr_no rfl rfl rfl rfl ?_
          refine xr_no rfl rfl rfl rfl ?_
          refine xr_op rfl rfl (xv_pick rfl rfl ?_)
          refine xr_end rfl ?_
          refine th_n ?_
          refine xc_true rfl ?_
          refine xc_seq (xc_region ?_)
          have hbs : ¬ spanOk xo.tar := fun hq => by unfold spanOk at hq; omega
          have hbc : ¬ coalOk xo := fun hq => hbs hq.2.1
          refine xr_op rfl rfl (xv_assign rfl ?_)
          refine xr_end rfl ?_
          refine th_n ?_
          refine xc_ret ?_
          refine bk_r ?_
          refine th_r ?_
          refine th_r ?_
          refine bk_r ?_
          refine bk_r ?_
          refine th_r ?_
          refine th_r ?_
          refine bk_r ?_
          refine th_r ?_
          refine body_ret (h' := h) rfl (ro_tmp rfl ro_nil) (by (first|((repeat first|exact s_0|exact s_1|exact s_3|refine s_4 ?_|refine s_5 ?_|refine s_6 ?_|refine s_7 ?_);done)|((repeat first|exact s_0|exact s_1|exact s_3|refine s_4 ?_|refine s_5 ?_|refine s_6 ?_|refine s_8 ?_);done))) ?_
          first | exact H2 (fun hq9 => hbc (hq9.1 xo (List.mem_of_getElem? hko))) | exact H2 (fun hq9 => absurd (movesOk_at hq9.2.1 hkb) (by simpa using hpb)) | exact H1 ⟨hco, movesOk_all (fun k x hk => by simpa using hno k x hk), by omega, by omega⟩ | exact H2 (fun hq9 => by have h9 := hq9.2.2; omega)
      · refine xr_op rfl rfl (xv_indexA Try.underlying90 ty89 rfl rfl rfl (by decide) (by decide) (by rfl) ?_)
        refine xr_op rfl rfl (xv_alloc ty89 (fun b8 hb8 => ?_))
        refine xr_op rfl rfl (xv_s ty89 rfl rfl (by (first|(apply u_3;(repeat first|exact u_0|assumption|apply u_1|apply u_2);done)|((repeat first|exact u_0|assumption|apply u_1|apply u_2);done)|(apply u_3;apply u_3;(repeat first|exact u_0|assumption|apply u_1|apply u_2);done)|((repeat first|exact u_0|assumption|apply u_3|apply u_1);done))) (by ((try apply evl_some rfl);(repeat (first|exact (rfl : _ = [])|apply evl_cons rfl (by (first|exact v_1|exact v_2|exact v_3|exact v_4|exact v_5|exact v_6|exact v_7|exact v_8|exact v_9|exact rfl))|exact rfl)))) (by rfl) (by rfl) (by rfl) (by ((try apply evl_some rfl);(repeat (first|exact (rfl : _ = [])|apply evl_cons rfl (by (first|exact v_1|exact v_2|exact v_3|exact v_4|exact v_5|exact v_6|exact v_7|exact v_8|exact v_9|exact rfl))|exact rfl)))) ?_)
        refine xr_end rfl ?_
        refine th_n ?_
        refine xc_seq (xc_region ?_)
        refine xr_op rfl rfl (xv_faddr fl89_0 rfl ?_)
        refine xr_op rfl rfl (xv_load1 ty88 rfl rfl (by ((repeat first|exact z_0|assumption|refine z_1 ?_|(refine z_l ?_;(repeat first|exact z_0|assumption|refine z_1 ?_);done)|refine z_r ?_);done)) (by rfl) ?_)
        refine xr_op rfl rfl (xv_loadA ty59 rfl rfl (by ((repeat first|exact z_0|assumption|refine z_1 ?_|(refine z_l ?_;(repeat first|exact z_0|assumption|refine z_1 ?_);done)|refine z_r ?_);done)) (by ((try apply evl_some rfl);(repeat (first|exact (rfl : _ = [])|apply evl_cons rfl (by (first|exact v_1|exact v_2|exact v_3|exact v_4|exact v_5|exact v_6|exact v_7|exact v_8|exact v_9|exact rfl))|exact rfl)))) (by rfl) ?_)
        refine xr_op rfl rfl (xv_call (fi := []) (ca := []) rfl rfl hb56 rfl (give56_c (c := xo) (up_ret ?_)))
        refine xr_op rfl rfl (xv_alloc ty33 (fun b9 hb9 => ?_))
        refine xr_op rfl rfl (xv_s ty33 rfl rfl (by (first|(apply u_3;(repeat first|exact u_0|assumption|apply u_1|apply u_2);done)|((repeat first|exact u_0|assumption|apply u_1|apply u_2);done)|(apply u_3;apply u_3;(repeat first|exact u_0|assumption|apply u_1|apply u_2);done)|((repeat first|exact u_0|assumption|apply u_3|apply u_1);done))) (by ((try apply evl_some rfl);(repeat (first|exact (rfl : _ = [])|apply evl_cons rfl (by (first|exact v_1|exact v_2|exact v_3|exact v_4|exact v_5|exact v_6|exact v_7|exact v_8|exact v_9|exact rfl))|exact rfl)))) (by rfl) (by rfl) (by rfl) (by ((try apply evl_some rfl);(repeat (first|exact (rfl : _ = [])|apply evl_cons rfl (by (first|exact v_1|exact v_2|exact v_3|exact v_4|exact v_5|exact v_6|exact v_7|exact v_8|exact v_9|exact rfl))|exact rfl)))) ?_)
        refine xr_end rfl ?_
        refine th_n ?_
        refine xc_seq (xc_region ?_)
        refine xr_op rfl rfl (xv_faddr fl33_1 rfl ?_)
        refine xr_op rfl rfl (xv_load1 ty3 rfl rfl (by ((repeat first|exact z_0|assumption|refine z_1 ?_|(refine z_l ?_;(repeat first|exact z_0|assumption|refine z_1 ?_);done)|refine z_r ?_);done)) (by rfl) ?_)
        refine xr_op rfl rfl (xv_calls rfl hb31 (within_c _ _ _ (fun hl15 hu16 => up_ret ?_) (fun hn17 => up_ret ?_)))
        · refine xr_op rfl rfl (xv_not rfl ?_)
          refine xr_op rfl rfl (xv_move rfl ?_)
          refine xr_gd rfl rfl rfl (xv_faddr fl33_0 rfl ?_)
          refine xr_gd rfl rfl rfl (xv_load1 ty3 rfl rfl (by ((repeat first|exact z_0|assumption|refine z_1 ?_|(refine z_l ?_;(repeat first|exact z_0|assumption|refine z_1 ?_);done)|refine z_r ?_);done)) (by rfl) ?_)
          refine xr_gd rfl rfl rfl (xv_faddr fl33_1 rfl ?_)
          refine xr_gd rfl rfl rfl (xv_load1 ty3 rfl rfl (by ((repeat first|exact z_0|assumption|refine z_1 ?_|(refine z_l ?_;(repeat first|exact z_0|assumption|refine z_1 ?_);done)|refine z_r ?_);done)) (by rfl) ?_)
          refine xr_gd rfl rfl rfl (xv_calls rfl hb31 (within_c _ _ _ (fun hl18 hu19 => up_ret ?_) (fun hn20 => up_ret ?_)))
          · refine xr_gd rfl rfl rfl (xv_not rfl ?_)
            refine xr_op rfl rfl (xv_pick rfl rfl ?_)
            refine xr_end rfl ?_
            refine th_n ?_
            refine xc_false rfl ?_
            refine xc_skip ?_
            refine bk_n ?_
            refine th_n ?_
            refine xc_region ?_
            refine xr_op rfl rfl (xv_add rfl rfl (wrap_i64 (by (first | omega | (dsimp only at *; omega) | (simp at *; omega))) (by (first | omega | (dsimp only at *; omega) | (simp at *; omega)))) ?_)
            refine xr_op rfl rfl (xv_move rfl ?_)
            refine xr_end rfl ?_
            exact rnd (2 + 1) ⟨by omega, fun j s9 hj hs9 => by
              rcases Nat.lt_succ_iff_lt_or_eq.1 hj with hj | rfl
              · exact hi4 j s9 hj hs9
              · have hs8 : some xo.sulphur = some s9 := hs9
                cases hs8
                unfold spanOk; omega⟩ (by omega) (le_put (le_put (le_put (le_put (le_put (le_put (le_put (le_put (le_emp _) rfl) rfl) rfl) rfl) rfl) rfl) rfl) rfl) (by (first|((repeat first|exact s_0|exact s_1|exact s_3|refine s_4 ?_|refine s_5 ?_|refine s_6 ?_|refine s_7 ?_);done)|((repeat first|exact s_0|exact s_1|exact s_3|refine s_4 ?_|refine s_5 ?_|refine s_6 ?_|refine s_8 ?_);done)))
          · refine xr_gd rfl rfl rfl (xv_not rfl ?_)
            refine xr_op rfl rfl (xv_pick rfl rfl ?_)
            refine xr_end rfl ?_
            refine th_n ?_
            refine xc_true rfl ?_
            refine xc_seq (xc_region ?_)
            have hbs : ¬ spanOk xo.sulphur := fun hq => by unfold spanOk at hq; omega
            have hbc : ¬ coalOk xo := fun hq => hbs hq.2.2.1
            refine xr_op rfl rfl (xv_assign rfl ?_)
            refine xr_end rfl ?_
            refine th_n ?_
            refine xc_ret ?_
            refine bk_r ?_
            refine th_r ?_
            refine th_r ?_
            refine bk_r ?_
            refine bk_r ?_
            refine th_r ?_
            refine th_r ?_
            refine bk_r ?_
            refine th_r ?_
            refine body_ret (h' := h) rfl (ro_tmp rfl ro_nil) (by (first|((repeat first|exact s_0|exact s_1|exact s_3|refine s_4 ?_|refine s_5 ?_|refine s_6 ?_|refine s_7 ?_);done)|((repeat first|exact s_0|exact s_1|exact s_3|refine s_4 ?_|refine s_5 ?_|refine s_6 ?_|refine s_8 ?_);done))) ?_
            first | exact H2 (fun hq9 => hbc (hq9.1 xo (List.mem_of_getElem? hko))) | exact H2 (fun hq9 => absurd (movesOk_at hq9.2.1 hkb) (by simpa using hpb)) | exact H1 ⟨hco, movesOk_all (fun k x hk => by simpa using hno k x hk), by omega, by omega⟩ | exact H2 (fun hq9 => by have h9 := hq9.2.2; omega)
        · refine xr_op rfl rfl (xv_not rfl ?_)
          refine xr_op rfl rfl (xv_move rfl ?_)
          refine xr_no rfl rfl rfl rfl ?_
          refine xr_no rfl rfl rfl rfl ?_
          refine xr_no rfl rfl rfl rfl ?_
          refine xr_no rfl rfl rfl rfl ?_
          refine xr_no rfl rfl rfl rfl ?_
          refine xr_no rfl rfl rfl rfl ?_
          refine xr_op rfl rfl (xv_pick rfl rfl ?_)
          refine xr_end rfl ?_
          refine th_n ?_
          refine xc_true rfl ?_
          refine xc_seq (xc_region ?_)
          have hbs : ¬ spanOk xo.sulphur := fun hq => by unfold spanOk at hq; omega
          have hbc : ¬ coalOk xo := fun hq => hbs hq.2.2.1
          refine xr_op rfl rfl (xv_assign rfl ?_)
          refine xr_end rfl ?_
          refine th_n ?_
          refine xc_ret ?_
          refine bk_r ?_
          refine th_r ?_
          refine th_r ?_
          refine bk_r ?_
          refine bk_r ?_
          refine th_r ?_
          refine th_r ?_
          refine bk_r ?_
          refine th_r ?_
          refine body_ret (h' := h) rfl (ro_tmp rfl ro_nil) (by (first|((repeat first|exact s_0|exact s_1|exact s_3|refine s_4 ?_|refine s_5 ?_|refine s_6 ?_|refine s_7 ?_);done)|((repeat first|exact s_0|exact s_1|exact s_3|refine s_4 ?_|refine s_5 ?_|refine s_6 ?_|refine s_8 ?_);done))) ?_
          first | exact H2 (fun hq9 => hbc (hq9.1 xo (List.mem_of_getElem? hko))) | exact H2 (fun hq9 => absurd (movesOk_at hq9.2.1 hkb) (by simpa using hpb)) | exact H1 ⟨hco, movesOk_all (fun k x hk => by simpa using hno k x hk), by omega, by omega⟩ | exact H2 (fun hq9 => by have h9 := hq9.2.2; omega)
      · refine xr_op rfl rfl (xv_indexA Try.underlying90 ty89 rfl rfl rfl (by decide) (by decide) (by rfl) ?_)
        refine xr_op rfl rfl (xv_alloc ty89 (fun b8 hb8 => ?_))
        refine xr_op rfl rfl (xv_s ty89 rfl rfl (by (first|(apply u_3;(repeat first|exact u_0|assumption|apply u_1|apply u_2);done)|((repeat first|exact u_0|assumption|apply u_1|apply u_2);done)|(apply u_3;apply u_3;(repeat first|exact u_0|assumption|apply u_1|apply u_2);done)|((repeat first|exact u_0|assumption|apply u_3|apply u_1);done))) (by ((try apply evl_some rfl);(repeat (first|exact (rfl : _ = [])|apply evl_cons rfl (by (first|exact v_1|exact v_2|exact v_3|exact v_4|exact v_5|exact v_6|exact v_7|exact v_8|exact v_9|exact rfl))|exact rfl)))) (by rfl) (by rfl) (by rfl) (by ((try apply evl_some rfl);(repeat (first|exact (rfl : _ = [])|apply evl_cons rfl (by (first|exact v_1|exact v_2|exact v_3|exact v_4|exact v_5|exact v_6|exact v_7|exact v_8|exact v_9|exact rfl))|exact rfl)))) ?_)
        refine xr_end rfl ?_
        refine th_n ?_
        refine xc_seq (xc_region ?_)
        refine xr_op rfl rfl (xv_faddr fl89_0 rfl ?_)
        refine xr_op rfl rfl (xv_load1 ty88 rfl rfl (by ((repeat first|exact z_0|assumption|refine z_1 ?_|(refine z_l ?_;(repeat first|exact z_0|assumption|refine z_1 ?_);done)|refine z_r ?_);done)) (by rfl) ?_)
        refine xr_op rfl rfl (xv_loadA ty59 rfl rfl (by ((repeat first|exact z_0|assumption|refine z_1 ?_|(refine z_l ?_;(repeat first|exact z_0|assumption|refine z_1 ?_);done)|refine z_r ?_);done)) (by ((try apply evl_some rfl);(repeat (first|exact (rfl : _ = [])|apply evl_cons rfl (by (first|exact v_1|exact v_2|exact v_3|exact v_4|exact v_5|exact v_6|exact v_7|exact v_8|exact v_9|exact rfl))|exact rfl)))) (by rfl) ?_)
        refine xr_op rfl rfl (xv_call (fi := []) (ca := []) rfl rfl hb57 rfl (give57_c (c := xo) (up_ret ?_)))
        refine xr_op rfl rfl (xv_alloc ty33 (fun b9 hb9 => ?_))
        refine xr_op rfl rfl (xv_s ty33 rfl rfl (by (first|(apply u_3;(repeat first|exact u_0|assumption|apply u_1|apply u_2);done)|((repeat first|exact u_0|assumption|apply u_1|apply u_2);done)|(apply u_3;apply u_3;(repeat first|exact u_0|assumption|apply u_1|apply u_2);done)|((repeat first|exact u_0|assumption|apply u_3|apply u_1);done))) (by ((try apply evl_some rfl);(repeat (first|exact (rfl : _ = [])|apply evl_cons rfl (by (first|exact v_1|exact v_2|exact v_3|exact v_4|exact v_5|exact v_6|exact v_7|exact v_8|exact v_9|exact rfl))|exact rfl)))) (by rfl) (by rfl) (by rfl) (by ((try apply evl_some rfl);(repeat (first|exact (rfl : _ = [])|apply evl_cons rfl (by (first|exact v_1|exact v_2|exact v_3|exact v_4|exact v_5|exact v_6|exact v_7|exact v_8|exact v_9|exact rfl))|exact rfl)))) ?_)
        refine xr_end rfl ?_
        refine th_n ?_
        refine xc_seq (xc_region ?_)
        refine xr_op rfl rfl (xv_faddr fl33_1 rfl ?_)
        refine xr_op rfl rfl (xv_load1 ty3 rfl rfl (by ((repeat first|exact z_0|assumption|refine z_1 ?_|(refine z_l ?_;(repeat first|exact z_0|assumption|refine z_1 ?_);done)|refine z_r ?_);done)) (by rfl) ?_)
        refine xr_op rfl rfl (xv_calls rfl hb31 (within_c _ _ _ (fun hl21 hu22 => up_ret ?_) (fun hn23 => up_ret ?_)))
        · refine xr_op rfl rfl (xv_not rfl ?_)
          refine xr_op rfl rfl (xv_move rfl ?_)
          refine xr_gd rfl rfl rfl (xv_faddr fl33_0 rfl ?_)
          refine xr_gd rfl rfl rfl (xv_load1 ty3 rfl rfl (by ((repeat first|exact z_0|assumption|refine z_1 ?_|(refine z_l ?_;(repeat first|exact z_0|assumption|refine z_1 ?_);done)|refine z_r ?_);done)) (by rfl) ?_)
          refine xr_gd rfl rfl rfl (xv_faddr fl33_1 rfl ?_)
          refine xr_gd rfl rfl rfl (xv_load1 ty3 rfl rfl (by ((repeat first|exact z_0|assumption|refine z_1 ?_|(refine z_l ?_;(repeat first|exact z_0|assumption|refine z_1 ?_);done)|refine z_r ?_);done)) (by rfl) ?_)
          refine xr_gd rfl rfl rfl (xv_calls rfl hb31 (within_c _ _ _ (fun hl24 hu25 => up_ret ?_) (fun hn26 => up_ret ?_)))
          · refine xr_gd rfl rfl rfl (xv_not rfl ?_)
            refine xr_op rfl rfl (xv_pick rfl rfl ?_)
            refine xr_end rfl ?_
            refine th_n ?_
            refine xc_false rfl ?_
            refine xc_skip ?_
            refine bk_n ?_
            refine th_n ?_
            refine xc_region ?_
            refine xr_op rfl rfl (xv_add rfl rfl (wrap_i64 (by (first | omega | (dsimp only at *; omega) | (simp at *; omega))) (by (first | omega | (dsimp only at *; omega) | (simp at *; omega)))) ?_)
            refine xr_op rfl rfl (xv_move rfl ?_)
            refine xr_end rfl ?_
            exact rnd (3 + 1) ⟨by omega, fun j s9 hj hs9 => by
              rcases Nat.lt_succ_iff_lt_or_eq.1 hj with hj | rfl
              · exact hi4 j s9 hj hs9
              · have hs8 : some xo.coke = some s9 := hs9
                cases hs8
                unfold spanOk; omega⟩ (by omega) (le_put (le_put (le_put (le_put (le_put (le_put (le_put (le_put (le_emp _) rfl) rfl) rfl) rfl) rfl) rfl) rfl) rfl) (by (first|((repeat first|exact s_0|exact s_1|exact s_3|refine s_4 ?_|refine s_5 ?_|refine s_6 ?_|refine s_7 ?_);done)|((repeat first|exact s_0|exact s_1|exact s_3|refine s_4 ?_|refine s_5 ?_|refine s_6 ?_|refine s_8 ?_);done)))
          · refine xr_gd rfl rfl rfl (xv_not rfl ?_)
            refine xr_op rfl rfl (xv_pick rfl rfl ?_)
            refine xr_end rfl ?_
            refine th_n ?_
            refine xc_true rfl ?_
            refine xc_seq (xc_region ?_)
            have hbs : ¬ spanOk xo.coke := fun hq => by unfold spanOk at hq; omega
            have hbc : ¬ coalOk xo := fun hq => hbs hq.2.2.2
            refine xr_op rfl rfl (xv_assign rfl ?_)
            refine xr_end rfl ?_
            refine th_n ?_
            refine xc_ret ?_
            refine bk_r ?_
            refine th_r ?_
            refine th_r ?_
            refine bk_r ?_
            refine bk_r ?_
            refine th_r ?_
            refine th_r ?_
            refine bk_r ?_
            refine th_r ?_
            refine body_ret (h' := h) rfl (ro_tmp rfl ro_nil) (by (first|((repeat first|exact s_0|exact s_1|exact s_3|refine s_4 ?_|refine s_5 ?_|refine s_6 ?_|refine s_7 ?_);done)|((repeat first|exact s_0|exact s_1|exact s_3|refine s_4 ?_|refine s_5 ?_|refine s_6 ?_|refine s_8 ?_);done))) ?_
            first | exact H2 (fun hq9 => hbc (hq9.1 xo (List.mem_of_getElem? hko))) | exact H2 (fun hq9 => absurd (movesOk_at hq9.2.1 hkb) (by simpa using hpb)) | exact H1 ⟨hco, movesOk_all (fun k x hk => by simpa using hno k x hk), by omega, by omega⟩ | exact H2 (fun hq9 => by have h9 := hq9.2.2; omega)
        · refine xr_op rfl rfl (xv_not rfl ?_)
          refine xr_op rfl rfl (xv_move rfl ?_)
          refine xr_no rfl rfl rfl rfl ?_
          refine xr_no rfl rfl rfl rfl ?_
          refine xr_no rfl rfl rfl rfl ?_
          refine xr_no rfl rfl rfl rfl ?_
          refine xr_no rfl rfl rfl rfl ?_
          refine xr_no rfl rfl rfl rfl ?_
          refine xr_op rfl rfl (xv_pick rfl rfl ?_)
          refine xr_end rfl ?_
          refine th_n ?_
          refine xc_true rfl ?_
          refine xc_seq (xc_region ?_)
          have hbs : ¬ spanOk xo.coke := fun hq => by unfold spanOk at hq; omega
          have hbc : ¬ coalOk xo := fun hq => hbs hq.2.2.2
          refine xr_op rfl rfl (xv_assign rfl ?_)
          refine xr_end rfl ?_
          refine th_n ?_
          refine xc_ret ?_
          refine bk_r ?_
          refine th_r ?_
          refine th_r ?_
          refine bk_r ?_
          refine bk_r ?_
          refine th_r ?_
          refine th_r ?_
          refine bk_r ?_
          refine th_r ?_
          refine body_ret (h' := h) rfl (ro_tmp rfl ro_nil) (by (first|((repeat first|exact s_0|exact s_1|exact s_3|refine s_4 ?_|refine s_5 ?_|refine s_6 ?_|refine s_7 ?_);done)|((repeat first|exact s_0|exact s_1|exact s_3|refine s_4 ?_|refine s_5 ?_|refine s_6 ?_|refine s_8 ?_);done))) ?_
          first | exact H2 (fun hq9 => hbc (hq9.1 xo (List.mem_of_getElem? hko))) | exact H2 (fun hq9 => absurd (movesOk_at hq9.2.1 hkb) (by simpa using hpb)) | exact H1 ⟨hco, movesOk_all (fun k x hk => by simpa using hno k x hk), by omega, by omega⟩ | exact H2 (fun hq9 => by have h9 := hq9.2.2; omega)
    · refine xr_end rfl ?_
      refine th_n ?_
      refine xc_seq ?_
      refine xc_false rfl ?_
      refine xc_exit ?_
      refine th_x ?_
      refine th_x ?_
      refine bk_same ?_
      refine bk_n ?_
      refine th_n ?_
      refine xc_region ?_
      refine xr_op rfl rfl (xv_add rfl rfl (wrap_i64 (by (first | omega | (dsimp only at *; omega) | (simp at *; omega))) (by (first | omega | (dsimp only at *; omega) | (simp at *; omega)))) ?_)
      refine xr_op rfl rfl (xv_move rfl ?_)
      refine xr_end rfl ?_
      exact rnd (k + 1) ⟨by (first | omega | (dsimp only at *; omega) | (simp at *; omega)), (take_all hko).2 ⟨hal, hi4 0 _ (by omega) rfl, hi4 1 _ (by omega) rfl, hi4 2 _ (by omega) rfl, hi4 3 _ (by omega) rfl⟩⟩ (by (first | omega | (dsimp only at *; omega) | (simp at *; omega))) (le_put (le_put (le_put (le_put (le_put (le_emp _) rfl) rfl) rfl) rfl) rfl) (by (first|((repeat first|exact s_0|exact s_1|exact s_3|refine s_4 ?_|refine s_5 ?_|refine s_6 ?_|refine s_7 ?_);done)|((repeat first|exact s_0|exact s_1|exact s_3|refine s_4 ?_|refine s_5 ?_|refine s_6 ?_|refine s_8 ?_);done)))
  · refine xr_end rfl ?_
    refine th_n ?_
    refine xc_seq ?_
    refine xc_false rfl ?_
    refine xc_exit ?_
    refine th_x ?_
    refine th_x ?_
    refine bk_same ?_
    refine th_n ?_
    refine xc_seq (xc_region ?_)
    have hco : CoalsOk y.coals := by
      have e9 : k = y.coals.length := by (first | omega | (dsimp only at *; omega) | (simp at *; omega))
      rw [e9, List.take_length] at hal; exact hal
    refine xr_op rfl rfl (xv_faddr fl25_0 rfl ?_)
    refine xr_op rfl rfl (xv_load1 ty22 rfl rfl (by ((repeat first|exact z_0|assumption|refine z_1 ?_|(refine z_l ?_;(repeat first|exact z_0|assumption|refine z_1 ?_);done)|refine z_r ?_);done)) (by rfl) ?_)
    refine xr_op rfl rfl (xv_len sl22 rfl ?_)
    refine xr_op rfl rfl (xv_calls rfl hb31 (within_c _ _ _ (fun hl27 hu28 => up_ret ?_) (fun hn29 => up_ret ?_)))
    · refine xr_op rfl rfl (xv_move rfl ?_)
      refine xr_gd rfl rfl rfl (xv_faddr fl25_1 rfl ?_)
      refine xr_gd rfl rfl rfl (xv_load1 ty23 rfl rfl (by ((repeat first|exact z_0|assumption|refine z_1 ?_|(refine z_l ?_;(repeat first|exact z_0|assumption|refine z_1 ?_);done)|refine z_r ?_);done)) (by rfl) ?_)
      refine xr_gd rfl rfl rfl (xv_len sl23 rfl ?_)
      refine xr_gd rfl rfl rfl (xv_leq2 rfl rfl (fun q30 => ?_) (fun q30 => ?_))
      · refine xr_op rfl rfl (xv_pick rfl rfl ?_)
        refine xr_op rfl rfl (xv_move rfl ?_)
        refine xr_gd rfl rfl rfl (xv_faddr fl25_1 rfl ?_)
        refine xr_gd rfl rfl rfl (xv_load1 ty23 rfl rfl (by ((repeat first|exact z_0|assumption|refine z_1 ?_|(refine z_l ?_;(repeat first|exact z_0|assumption|refine z_1 ?_);done)|refine z_r ?_);done)) (by rfl) ?_)
        refine xr_gd rfl rfl rfl (xv_move rfl ?_)
        refine xr_gd rfl rfl rfl (xv_calls rfl hb62 (containsMoveS_c (xs := y.moves) (p := fun k x => !decide (moveOk y.coals.length (lastH 0 (y.moves.take k)) x)) (Hs := (fun k => (b3, .cells ⟨[I (lastH 0 (y.moves.take k))]⟩ 3) :: (b1, .cells ⟨eYard y⟩ 25) :: h)) (fun k => hy.moves.sub (by intro z hz; ((repeat first|exact z_0|assumption|refine z_1 ?_|(refine z_l ?_;(repeat first|exact z_0|assumption|refine z_1 ?_);done)|refine z_r ?_);done))) (by omega) (fun k x hk R2 h2 => afn_func (fi := []) hb61 (bad_c (y := y) (m := x) (by ((repeat first|exact z_0|assumption|refine z_1 ?_|(refine z_l ?_;(repeat first|exact z_0|assumption|refine z_1 ?_);done)|refine z_r ?_);done)) hs1 (by rw [lastH_take hk] at h2; exact h2))) (fun kb xb hkb hpb => up_ret ?_) (fun hno => up_ret ?_)))
        · refine xr_gd rfl rfl rfl (xv_not rfl ?_)
          refine xr_op rfl rfl (xv_pick rfl rfl ?_)
          refine xr_op rfl rfl (xv_assign rfl ?_)
          refine xr_end rfl ?_
          refine th_n ?_
          refine xc_ret ?_
          refine body_ret (h' := h) rfl (ro_tmp rfl ro_nil) (by (first|((repeat first|exact s_0|exact s_1|exact s_3|refine s_4 ?_|refine s_5 ?_|refine s_6 ?_|refine s_7 ?_);done)|((repeat first|exact s_0|exact s_1|exact s_3|refine s_4 ?_|refine s_5 ?_|refine s_6 ?_|refine s_8 ?_);done))) ?_
          first | exact H2 (fun hq9 => hbc (hq9.1 xo (List.mem_of_getElem? hko))) | exact H2 (fun hq9 => absurd (movesOk_at hq9.2.1 hkb) (by simpa using hpb)) | exact H1 ⟨hco, movesOk_all (fun k x hk => by simpa using hno k x hk), by omega, by omega⟩ | exact H2 (fun hq9 => by have h9 := hq9.2.2; omega)
        · refine xr_gd rfl rfl rfl (xv_not rfl ?_)
          refine xr_op rfl rfl (xv_pick rfl rfl ?_)
          refine xr_op rfl rfl (xv_assign rfl ?_)
          refine xr_end rfl ?_
          refine th_n ?_
          refine xc_ret ?_
          refine body_ret (h' := h) rfl (ro_tmp rfl ro_nil) (by (first|((repeat first|exact s_0|exact s_1|exact s_3|refine s_4 ?_|refine s_5 ?_|refine s_6 ?_|refine s_7 ?_);done)|((repeat first|exact s_0|exact s_1|exact s_3|refine s_4 ?_|refine s_5 ?_|refine s_6 ?_|refine s_8 ?_);done))) ?_
          first | exact H2 (fun hq9 => hbc (hq9.1 xo (List.mem_of_getElem? hko))) | exact H2 (fun hq9 => absurd (movesOk_at hq9.2.1 hkb) (by simpa using hpb)) | exact H1 ⟨hco, movesOk_all (fun k x hk => by simpa using hno k x hk), by omega, by omega⟩ | exact H2 (fun hq9 => by have h9 := hq9.2.2; omega)
      · refine xr_op rfl rfl (xv_pick rfl rfl ?_)
        refine xr_op rfl rfl (xv_move rfl ?_)
        refine xr_no rfl rfl rfl rfl ?_
        refine xr_no rfl rfl rfl rfl ?_
        refine xr_no rfl rfl rfl rfl ?_
        refine xr_no rfl rfl rfl rfl ?_
        refine xr_no rfl rfl rfl rfl ?_
        refine xr_op rfl rfl (xv_pick rfl rfl ?_)
        refine xr_op rfl rfl (xv_assign rfl ?_)
        refine xr_end rfl ?_
        refine th_n ?_
        refine xc_ret ?_
        refine body_ret (h' := h) rfl (ro_tmp rfl ro_nil) (by (first|((repeat first|exact s_0|exact s_1|exact s_3|refine s_4 ?_|refine s_5 ?_|refine s_6 ?_|refine s_7 ?_);done)|((repeat first|exact s_0|exact s_1|exact s_3|refine s_4 ?_|refine s_5 ?_|refine s_6 ?_|refine s_8 ?_);done))) ?_
        first | exact H2 (fun hq9 => hbc (hq9.1 xo (List.mem_of_getElem? hko))) | exact H2 (fun hq9 => absurd (movesOk_at hq9.2.1 hkb) (by simpa using hpb)) | exact H1 ⟨hco, movesOk_all (fun k x hk => by simpa using hno k x hk), by omega, by omega⟩ | exact H2 (fun hq9 => by have h9 := hq9.2.2; omega)
    · refine xr_op rfl rfl (xv_move rfl ?_)
      refine xr_no rfl rfl rfl rfl ?_
      refine xr_no rfl rfl rfl rfl ?_
      refine xr_no rfl rfl rfl rfl ?_
      refine xr_no rfl rfl rfl rfl ?_
      refine xr_op rfl rfl (xv_pick rfl rfl ?_)
      refine xr_op rfl rfl (xv_move rfl ?_)
      refine xr_no rfl rfl rfl rfl ?_
      refine xr_no rfl rfl rfl rfl ?_
      refine xr_no rfl rfl rfl rfl ?_
      refine xr_no rfl rfl rfl rfl ?_
      refine xr_no rfl rfl rfl rfl ?_
      refine xr_op rfl rfl (xv_pick rfl rfl ?_)
      refine xr_op rfl rfl (xv_assign rfl ?_)
      refine xr_end rfl ?_
      refine th_n ?_
      refine xc_ret ?_
      refine body_ret (h' := h) rfl (ro_tmp rfl ro_nil) (by (first|((repeat first|exact s_0|exact s_1|exact s_3|refine s_4 ?_|refine s_5 ?_|refine s_6 ?_|refine s_7 ?_);done)|((repeat first|exact s_0|exact s_1|exact s_3|refine s_4 ?_|refine s_5 ?_|refine s_6 ?_|refine s_8 ?_);done))) ?_
      first | exact H2 (fun hq9 => hbc (hq9.1 xo (List.mem_of_getElem? hko))) | exact H2 (fun hq9 => absurd (movesOk_at hq9.2.1 hkb) (by simpa using hpb)) | exact H1 ⟨hco, movesOk_all (fun k x hk => by simpa using hno k x hk), by omega, by omega⟩ | exact H2 (fun hq9 => by have h9 := hq9.2.2; omega)

end Go.Proofs.Ytpefpafijadfmaa

/-
  Layers that are not there yet are empty; the program's six places.
-/
set_option linter.all false
namespace Go.Proofs.Ytpefpafijadfmaa
open Go Go.H
theorem opn_mono (l : List Move) (m : Move) : (opn l).1 ≤ (opn (l ++ [m])).1 := by
  rw [opn_snoc]; unfold stepO
  split
  · exact Nat.le_refl _
  · split
    · exact Nat.le_refl _
    · exact Nat.le_succ _
theorem contF_zero {n : Nat} (l : List Move) {j : Int} (h : ((opn l).1 : Int) ≤ j) : contF n l j = List.replicate n 0 := by
  induction l using snoc_ind with
  | h0 => rfl
  | h1 l m ih =>
    have hm := opn_mono l m
    rw [contF_snoc, if_neg (fun hq => by omega)]
    exact ih (by omega)
theorem sumI_rep (n : Nat) : sumI (List.replicate n 0) = 0 := by
  unfold sumI
  induction n with
  | zero => rfl
  | succ n ih => rw [List.replicate_succ, List.sum_cons, ih]; rfl
/-- With more places, the rest is 0. -/
theorem contF_pad {n q : Nat} {last : Int} {l : List Move} {j : Int} (h : movesOk n last l) : contF (n + q) l j = contF n l j ++ List.replicate q 0 := by
  induction l using snoc_ind with
  | h0 => rw [contF_nil, contF_nil, List.replicate_append_replicate]
  | h1 l m ih =>
    rw [movesOk_snoc] at h
    have ih := ih h.1
    obtain ⟨_, ⟨c1, c2⟩, _⟩ := h.2
    rw [contF_snoc, contF_snoc, ih]
    split
    · rename_i hq
      have hlt : m.coal.toNat < (contF n l j).length := by rw [contF_len]; have := hq.1; omega
      rw [List.set_append_left _ _ hlt]
      congr 2
      rw [List.getD_eq_getElem?_getD, List.getD_eq_getElem?_getD, List.getElem?_append_left hlt]
    · rfl
theorem sumI_app (a b : List Int) : sumI (a ++ b) = sumI a + sumI b := by unfold sumI; exact List.sum_append_int
/-- Rooms that are empty take nothing. -/
theorem vecR_more {room : Nat → Int} {t : Int} {c : Nat} (h : ∀ j, c ≤ j → room j = 0) (ht : 0 ≤ (vecR room c t).2) : ∀ d, vecR room (c + d) t = ((vecR room c t).1 ++ List.replicate d 0, (vecR room c t).2)
  | 0 => by simp
  | d + 1 => by
    have ih := vecR_more h ht d
    rw [← Nat.add_assoc, vecR, ih, h (c + d) (by omega)]
    dsimp only
    rw [show min (0 : Int) (vecR room c t).2 = 0 by omega, List.replicate_succ', List.append_assoc]
    congr 1; omega
theorem nzF_more {f : Nat → Int} {c : Nat} (h : ∀ j, c ≤ j → ¬ f j > 0) : ∀ d, nzF f (c + d) = nzF f c
  | 0 => rfl
  | d + 1 => by rw [← Nat.add_assoc, nzF_succ, if_neg (h (c + d) (by omega)), nzF_more h d]
theorem nzF_congr {f g : Nat → Int} : ∀ {c : Nat}, (∀ j, j < c → f j = g j) → nzF f c = nzF g c
  | 0, _ => rfl
  | c + 1, h => by rw [nzF_succ, nzF_succ, h c (by omega), nzF_congr fun j hj => h j (by omega)]
end Go.Proofs.Ytpefpafijadfmaa

/-
  A yard that was played: the blocks of its layers, the parts of its draws.
-/
set_option linter.all false
namespace Go.Proofs.Ytpefpafijadfmaa
open Go Go.H
structure PH where
  a : Option Addr
  m : List Part
  c : Nat
def ePH (z : PH) : List Value := [.slice z.a z.m.length z.c]
theorem ePH_len (z : PH) : (ePH z).length = 1 := rfl
def eLp (b : Nat) : List Value := [.pointer (some ⟨b, 0, none⟩)]
theorem eLp_len (b : Nat) : (eLp b).length = 1 := rfl
/-! ### The blocks of the layers, the newest one first -/
def layHp (bs : List Nat) (f : Nat → List Value) : Hp := (bs.zipIdx.map fun z => (z.1, Obj.cells ⟨f z.2⟩ 107 (0, 0))).reverse
theorem layHp_snoc (bs : List Nat) (b : Nat) (f : Nat → List Value) : layHp (bs ++ [b]) f = (b, .cells ⟨f bs.length⟩ 107 (0, 0)) :: layHp bs f := by
  simp [layHp, List.zipIdx_append]
theorem layHp_congr {bs : List Nat} {f g : Nat → List Value} (h : ∀ i, i < bs.length → f i = g i) : layHp bs f = layHp bs g := by
  induction bs using snoc_ind with
  | h0 => rfl
  | h1 bs b ih =>
    rw [List.length_append, List.length_singleton] at h
    rw [layHp_snoc, layHp_snoc, h bs.length (by omega), ih fun i hi => h i (by omega)]
theorem layHp_upd {bs : List Nat} {f g : Nat → List Value} {i b : Nat} (hb : bs[i]? = some b) (h : ∀ j, j < bs.length → j ≠ i → g j = f j) : Upd (layHp bs f) b (.cells ⟨f i⟩ 107 (0, 0)) (.cells ⟨g i⟩ 107 (0, 0)) (layHp bs g) := by
  induction bs using snoc_ind with
  | h0 => simp at hb
  | h1 bs c ih =>
    rw [List.length_append, List.length_singleton] at h
    rw [layHp_snoc, layHp_snoc]
    by_cases hi : i < bs.length
    · rw [List.getElem?_append_left hi] at hb
      rw [h bs.length (by omega) (by omega)]
      exact .there (ih hb fun j hj hne => h j (by omega) hne)
    · have hlt := (List.getElem?_eq_some_iff.1 hb).1
      rw [List.length_append, List.length_singleton] at hlt
      obtain rfl : i = bs.length := by omega
      rw [List.getElem?_append_right (by omega), Nat.sub_self] at hb
      cases hb
      rw [layHp_congr (f := g) (g := f) fun j hj => h j (by omega) (by omega)]
      exact .here
theorem layHp_mem {bs : List Nat} {f : Nat → List Value} {i b : Nat} (hb : bs[i]? = some b) : (b, .cells ⟨f i⟩ 107 (0, 0)) ∈ layHp bs f := (layHp_upd (g := f) hb fun _ _ _ => rfl).mem
/-! ### What lies in a layer's block -/
def layF (ms : List Move) (k : Nat) (lf : Nat → Int) (i : Nat) : List Value := (contF 6 (ms.take k) (i : Int)).flatMap eI ++ [I (lf i)]
section
variable {ms : List Move} {k o off : Nat} {lf lf' : Nat → Int} {v x : Int}
theorem layF_len : (layF ms k lf o).length = 7 := by unfold layF; rw [List.length_append, ints_len, contF_len]; rfl
theorem layF_get {c : Nat} (h : (contF 6 (ms.take k) (o : Int))[c]? = some v) (ho : off = c) : (layF ms k lf o)[off]? = some (I v) := by
  subst ho
  have hlt := (List.getElem?_eq_some_iff.1 h).1
  unfold layF
  rw [List.getElem?_append_left (by rw [ints_len]; exact hlt)]
  have := ints_get h
  simpa using this
theorem layF_left (ho : off = 6) : (layF ms k lf o)[off]? = some (I (lf o)) := by
  subst ho
  unfold layF
  rw [List.getElem?_append_right (by rw [ints_len, contF_len]; exact Nat.le_refl _), ints_len, contF_len]; rfl
theorem layF_set2 (ho : off = 6) (h : lf' o = x) : (layF ms k lf o).set off (I x) = layF ms k lf' o := by
  subst ho h
  unfold layF
  rw [List.set_append_right _ _ (by rw [ints_len, contF_len]; exact Nat.le_refl _), ints_len, contF_len]; rfl
theorem layF_set1 {m : Move} {c : Nat} (hk : ms[k]? = some m) (hc : m.coal ≠ -1) (hl : ((opn (ms.take (k + 1))).1 : Int) - 1 = (o : Int)) (hcc : m.coal.toNat = c) (hv : (contF 6 (ms.take k) (o : Int))[c]? = some v) (ho : off = c) : (layF ms k lf o).set off (I (v + m.tons)) = layF ms (k + 1) lf o := by
  subst ho hcc
  have hlt := (List.getElem?_eq_some_iff.1 hv).1
  unfold layF
  rw [contF_take hk, if_pos ⟨hc, hl⟩, List.set_append_left _ _ (by rw [ints_len]; exact hlt)]
  have := ints_setN (v := v + m.tons) hlt
  simp only [Nat.zero_add, Nat.mul_one] at this
  rw [this]
  congr 4
  rw [List.getD_eq_getElem?_getD, hv]; rfl
theorem layF_other {m : Move} {i : Nat} (hk : ms[k]? = some m) (hl : ((opn (ms.take (k + 1))).1 : Int) - 1 = (o : Int)) (hi : i ≠ o) : layF ms (k + 1) lf i = layF ms k lf i := by
  unfold layF
  rw [contF_take hk, if_neg (fun hq => hi (by have := hq.2; omega))]
theorem layF_drawn {m : Move} {i : Nat} (hk : ms[k]? = some m) (hc : m.coal = -1) (h : lf i = lf' i) : layF ms k lf i = layF ms (k + 1) lf' i := by
  unfold layF
  rw [contF_take hk, if_neg (fun hq => hq.1 hc), h]
end
theorem movesOk_le {n q : Nat} (h : n ≤ q) : ∀ {l : List Move} {last : Int}, movesOk n last l → movesOk q last l
  | [], _, _ => trivial
  | m :: l, _, ⟨⟨a, ⟨b, c⟩, d⟩, e⟩ => ⟨⟨a, ⟨b, by omega⟩, d⟩, movesOk_le h e⟩
theorem opn_pos (l : List Move) (h : 0 ≤ (opn l).2) : 1 ≤ (opn l).1 := by
  induction l using snoc_ind with
  | h0 => exact absurd h (by decide)
  | h1 l m ih =>
    rw [opn_snoc] at h ⊢
    unfold stepO at h ⊢
    split at h
    · dsimp only at h; omega
    · rename_i h1
      rw [if_neg h1]
      split at h
      · rename_i h2; rw [if_pos h2]; exact ih h
      · rename_i h2; rw [if_neg h2]; dsimp only; omega
theorem opn_takes (l : List Move) : ∀ d k : Nat, (opn (l.take k)).1 ≤ (opn (l.take (k + d))).1
  | 0, k => Nat.le_refl _
  | d + 1, k => by
    refine Nat.le_trans (opn_takes l d k) ?_
    rw [← Nat.add_assoc]
    cases h : l[k + d]? with
    | none => rw [List.take_add_one, h]; simp
    | some m => rw [List.take_add_one, h]; exact opn_mono _ m
theorem opn_all (l : List Move) (k : Nat) : (opn (l.take k)).1 ≤ (opn l).1 := by
  by_cases h : k ≤ l.length
  · have := opn_takes l (l.length - k) k
    rwa [show k + (l.length - k) = l.length by omega, List.take_length] at this
  · rw [List.take_of_length_le (by omega)]; exact Nat.le_refl _
/-! ### What is left of a layer -/
theorem getD_none {v : List Int} {j : Nat} (h : v.length ≤ j) : v.getD j 0 = 0 := by rw [List.getD_eq_getElem?_getD, List.getElem?_eq_none h]; rfl
theorem taken_zero {prev : List (List Int)} {j L : Nat} (h : ∀ v ∈ prev, v.length = L) (hj : L ≤ j) : takenR prev j = 0 := by
  unfold takenR
  have : ∀ x ∈ prev.map (·.getD j 0), x = 0 := fun x hx => by
    obtain ⟨v, hv, rfl⟩ := List.mem_map.1 hx
    exact getD_none (by rw [h v hv]; exact hj)
  rw [List.eq_replicate_iff.2 ⟨rfl, this⟩]
  exact sumI_rep _
theorem room_zero {n k : Nat} {ms : List Move} {prev : List (List Int)} (H : PInv n ms (opn ms).1 k prev) {j : Nat} (hj : (opn (ms.take k)).1 ≤ j) : roomR n ms k prev j = 0 := by
  have hz : sumI (contF n (ms.take k) (j : Int)) = 0 := by rw [contF_zero _ (by omega)]; exact sumI_rep _
  have ht := taken_bd H.bd j
  by_cases hl : j < (opn ms).1
  · have := H.room j hl
    unfold roomR at *; omega
  · unfold roomR
    rw [hz, taken_zero H.len (by omega)]; rfl
theorem room_nn {n k : Nat} {ms : List Move} {prev : List (List Int)} (H : PInv n ms (opn ms).1 k prev) (j : Nat) : 0 ≤ roomR n ms k prev j := by
  by_cases hl : j < (opn ms).1
  · exact H.room j hl
  · rw [room_zero H (by have := opn_all ms k; omega)]; exact Int.le_refl _
theorem room_le {n k : Nat} {ms : List Move} {prev : List (List Int)} (hm : movesOk n 0 ms) (H : PInv n ms (opn ms).1 k prev) (j : Nat) : roomR n ms k prev j ≤ (n : Int) * (1048576 * (k : Int)) := by
  have h1 := sumI_bd (contF_bd (j := (j : Int)) (movesOk_mono k hm))
  have ht := taken_bd H.bd j
  rw [contF_len, List.length_take] at h1
  have h2 : (n : Int) * (1048576 * ((min k ms.length : Nat) : Int)) ≤ (n : Int) * (1048576 * (k : Int)) := Int.mul_le_mul_of_nonneg_left (by omega) (by omega)
  unfold roomR; omega
/-- A coal arrives in the last layer. -/
theorem room_in {n k : Nat} {ms : List Move} {prev : List (List Int)} {m : Move} {o : Nat} (hm : movesOk n 0 ms) (hk : ms[k]? = some m) (hc : m.coal ≠ -1) (hl : ((opn (ms.take (k + 1))).1 : Int) - 1 = (o : Int)) :
    roomR n ms (k + 1) prev o = roomR n ms k prev o + m.tons ∧ ∀ i, i ≠ o → roomR n ms (k + 1) prev i = roomR n ms k prev i := by
  obtain ⟨_, ⟨c1, c2⟩, t1, t2⟩ := movesOk_at hm hk
  unfold roomR
  refine ⟨?_, fun i hi => by rw [contF_take hk, if_neg (fun hq => hi (by have := hq.2; omega))]⟩
  have hlen := contF_len n (ms.take k) (o : Int)
  obtain ⟨v, hv⟩ : ∃ v, (contF n (ms.take k) (o : Int))[m.coal.toNat]? = some v := ⟨_, List.getElem?_eq_getElem (by omega)⟩
  rw [contF_take hk, if_pos ⟨hc, hl⟩]
  have hg : (contF n (ms.take k) (o : Int)).getD m.coal.toNat 0 = v := by rw [List.getD_eq_getElem?_getD, hv]; rfl
  rw [hg, sumI_set hv]; omega
/-! ### A draw -/
def vF (room : Nat → Int) (t : Int) (j : Nat) : Int := min (room j) (vecR room j t).2
def lfJ (room : Nat → Int) (t : Int) (j i : Nat) : Int := if i < j then room i - vF room t i else room i
theorem vecR_2 (room : Nat → Int) (t : Int) (j : Nat) : (vecR room (j + 1) t).2 = (vecR room j t).2 - vF room t j := rfl
theorem vecR_get {room : Nat → Int} {t : Int} : ∀ {L j : Nat}, j < L → (vecR room L t).1.getD j 0 = vF room t j
  | L + 1, j, h => by
    have hl := vecR_len room t L
    rw [vecR, List.getD_eq_getElem?_getD]
    by_cases hq : j < L
    · rw [List.getElem?_append_left (by omega), ← List.getD_eq_getElem?_getD]; exact vecR_get hq
    · obtain rfl : j = L := by omega
      rw [List.getElem?_append_right (by omega), hl, Nat.sub_self]; rfl
theorem draw_done {room : Nat → Int} {t : Int} {c L : Nat} (hc : c ≤ L) (hz : ∀ j, c ≤ j → room j = 0) (h0 : 0 ≤ (vecR room c t).2) :
    (vecR room L t).2 = (vecR room c t).2 ∧ nzF (fun i => (vecR room L t).1.getD i 0) L = nzF (vF room t) c := by
  obtain ⟨d, rfl⟩ : ∃ d, L = c + d := ⟨L - c, by omega⟩
  have hm := vecR_more hz h0 d
  refine ⟨by rw [hm], ?_⟩
  have e1 : nzF (fun i => (vecR room (c + d) t).1.getD i 0) (c + d) = nzF (vF room t) (c + d) := nzF_congr fun j hj => vecR_get hj
  rw [e1]
  refine nzF_more (fun j hj => ?_) d
  unfold vF
  rw [hz j hj]; omega
theorem lfJ_0 (room : Nat → Int) (t : Int) : lfJ room t 0 = room := funext fun i => if_neg (Nat.not_lt_zero _)
theorem lfJ_at (room : Nat → Int) (t : Int) (j : Nat) : lfJ room t j j = room j := if_neg (Nat.lt_irrefl _)
theorem lfJ_next (room : Nat → Int) (t : Int) (j : Nat) : lfJ room t (j + 1) j = room j - vF room t j := if_pos (Nat.lt_succ_self _)
theorem lfJ_other {room : Nat → Int} {t : Int} {j i : Nat} (h : i ≠ j) : lfJ room t (j + 1) i = lfJ room t j i := by
  unfold lfJ
  by_cases hq : i < j
  · rw [if_pos hq, if_pos (by omega)]
  · rw [if_neg hq, if_neg (by omega)]
theorem lfJ_same {room : Nat → Int} {t : Int} {j : Nat} (h : vF room t j = 0) : lfJ room t (j + 1) = lfJ room t j := funext fun i => by
  by_cases hi : i = j
  · subst hi; rw [lfJ_next, lfJ_at, h]; omega
  · exact lfJ_other hi
theorem lfJ_end {n k : Nat} {ms : List Move} {prev : List (List Int)} {m : Move} {i c : Nat} (hm : movesOk n 0 ms) (hk : ms[k]? = some m) (hc : m.coal = -1) (hi : i < c) (hL : c ≤ (opn ms).1) :
    lfJ (roomR n ms k prev) m.tons c i = roomR n ms (k + 1) (prev ++ [(vecR (roomR n ms k prev) (opn ms).1 m.tons).1]) i := by
  unfold lfJ
  rw [if_pos hi]
  have h1 := (cont_sum_mono hm hk (i : Int)).2 hc
  have h2 : (vecR (roomR n ms k prev) (opn ms).1 m.tons).1.getD i 0 = vF (roomR n ms k prev) m.tons i := vecR_get (by omega)
  generalize (vecR (roomR n ms k prev) (opn ms).1 m.tons).1 = v at h2 ⊢
  generalize vF (roomR n ms k prev) m.tons i = q at h2 ⊢
  unfold roomR
  rw [h1, taken_snoc, h2]; omega
theorem nzF_eq (f : Nat → Int) (j : Nat) (h : ¬ f j > 0) : nzF f (j + 1) = nzF f j := by rw [nzF_succ, if_neg h]
theorem nzF_app {f : Nat → Int} {j : Nat} (h : f j > 0) : (nzF f (j + 1)).flatMap ePart = (nzF f j).flatMap ePart ++ [I (j : Int), I (f j)] := by rw [nzF_succ, if_pos h]; simp [ePart]
theorem nzF_lenS {f : Nat → Int} {j : Nat} (h : f j > 0) : (nzF f (j + 1)).length = (nzF f j).length + 1 := by rw [nzF_succ, if_pos h]; simp
/-! ### Where the blocks lie -/
theorem Tk.app {a h r : Hp} (f : Hp) (H : Tk a h r) : Tk a (h ++ f) (r ++ f) := by
  induction H with
  | here => rw [List.append_assoc]; exact .here
  | there _ ih => exact .there ih
  | skip _ ih => rw [List.append_assoc, List.append_assoc]; exact .skip ih
theorem permR {a b c : Hp} : List.Perm ((a ++ b) ++ c) (a ++ (b ++ c)) := by rw [List.append_assoc]
theorem permA {V W L G : Hp} {x y z m : Nat × Obj} : List.Perm ((V ++ (x :: y :: z :: (W ++ (L ++ G)))) ++ [m]) (x :: m :: z :: (V ++ (W ++ ((y :: L) ++ G)))) := by
  classical
  refine List.perm_iff_count.2 fun a => ?_
  simp only [List.count_append, List.count_cons, List.count_nil]; omega
theorem permB {U V W L P G : Hp} {x y z : Nat × Obj} : List.Perm (W ++ (x :: (U ++ (y :: z :: (V ++ (L ++ (P ++ G))))))) (x :: y :: z :: (V ++ (W ++ (L ++ ((U ++ P) ++ G))))) := by
  classical
  refine List.perm_iff_count.2 fun a => ?_
  simp only [List.count_append, List.count_cons, List.count_nil]; omega
/-! ### The yard that was played -/
theorem vec_cap {V : Vec} {sz n : Nat} {xs : List Value} (h : V.ok sz n xs) : n ≤ V.cp := by
  cases V with
  | nil => obtain ⟨_, h⟩ := h; rw [h]; exact Nat.zero_le _
  | «at» b c sp => exact h.2.1
structure ShedV (h : Hp) (y : Yard) (vs : List (List Int)) (b : Nat) (la : Option Addr) (lc : Nat) (bs : List Nat) (da : Option Addr) (dc : Nat) (ds : List PH) : Prop where
  top : (b, .cells ⟨[.slice y.ca y.coals.length y.cc, .slice la bs.length lc, .slice da ds.length dc]⟩ 73 (0, 0)) ∈ h
  lays : SlV h 1 eLp la bs
  lay : ∀ (i c : Nat), bs[i]? = some c → (c, .cells ⟨layF y.moves y.moves.length (roomR y.coals.length y.moves y.moves.length vs) i⟩ 107 (0, 0)) ∈ h
  len : bs.length = (opn y.moves).1
  draws : SlV h 1 ePH da ds
  cap : ds.length ≤ dc
  parts : ∀ z ∈ ds, SlV h 2 ePart z.a z.m
  are : ds.map PH.m = vs.map fun v => nzF (fun i => v.getD i 0) (opn y.moves).1
  inv : PInv y.coals.length y.moves (opn y.moves).1 y.moves.length vs
theorem ShedV.sub {h g : Hp} {y : Yard} {vs : List (List Int)} {b : Nat} {la : Option Addr} {lc : Nat} {bs : List Nat} {da : Option Addr} {dc : Nat} {ds : List PH} (H : ShedV h y vs b la lc bs da dc ds) (hs : h ⊆ g) : ShedV g y vs b la lc bs da dc ds :=
  ⟨hs H.top, H.lays.sub hs, fun i c hc => hs (H.lay i c hc), H.len, H.draws.sub hs, H.cap, fun z hz => (H.parts z hz).sub hs, H.are, H.inv⟩
end Go.Proofs.Ytpefpafijadfmaa

/-
  Walks.
-/
namespace Go.Proofs.Ytpefpafijadfmaa
open Go Go.H
set_option maxRecDepth 100000
set_option maxHeartbeats 8000000
set_option linter.all false
theorem newShed_c {y : Yard} {h : Hp} {R : Ending → Hp → Prop} (hy : YardV h y) (hs : Small y) (H1 : ¬ GoodYard y → R (.returned (.tuple ⟨[.pointer none, I 1]⟩)) h) (H2 : GoodYard y → vecsR y = none → R (.returned (.tuple ⟨[.pointer none, I 10]⟩)) h)
    (H3 : ∀ (vs : List (List Int)) (b : Nat) (la : Option Addr) (lc : Nat) (bs : List Nat) (da : Option Addr) (dc : Nat) (ds : List PH) (G : Hp), GoodYard y → vecsR y = some vs → ShedV G y vs b la lc bs da dc ds → R (.returned (.tuple ⟨[.pointer (some ⟨b, 0, none⟩), I 0]⟩)) (G ++ h)) :
    ACalls Try.prog 30 ⟨[.agg ⟨eYard y⟩]⟩ h R := by
  refine calls_of_xc (N := 135) Try.func30 rfl (by rfl) ?_
  obtain ⟨hs1, hs2⟩ := id hs
  refine xc_seq (xc_region ?_)
  refine xr_op rfl rfl (xv_box rfl (fun b1 hb1 => ?_))
  refine xr_op rfl rfl (xv_assign rfl ?_)
  refine xr_op rfl rfl (xv_assign rfl ?_)
  refine xr_end rfl ?_
  refine th_n ?_
  refine xc_scope ?_
  refine xc_seq ?_
  refine xc_seq (xc_region ?_)
  refine xr_op rfl rfl (xv_loadA ty25 rfl rfl (by ((repeat first|exact z_0|assumption|refine z_1 ?_|(refine z_l ?_;(repeat first|exact z_0|assumption|refine z_1 ?_);done)|refine z_r ?_);done)) (by ((try apply evl_some rfl);(repeat (first|exact (rfl : _ = [])|apply evl_cons rfl (by (first|exact v_1|exact v_2|exact v_3|exact v_4|exact v_5|exact v_6|exact v_7|exact v_8|exact v_9|exact rfl))|exact rfl)))) (by rfl) ?_)
  refine xr_op rfl rfl (xv_calls rfl hb52 (isYard_c (hy.sub (by intro z hz; ((repeat first|exact z_0|assumption|refine z_1 ?_|(refine z_l ?_;(repeat first|exact z_0|assumption|refine z_1 ?_);done)|refine z_r ?_);done))) hs (fun hgy => up_ret ?_) (fun hgy => up_ret ?_)))
  · refine xr_op rfl rfl (xv_not rfl ?_)
    refine xr_end rfl ?_
    refine th_n ?_
    refine xc_false rfl ?_
    refine xc_skip ?_
    refine th_n ?_
    refine xc_seq (xc_region ?_)
    refine xr_op rfl rfl (xv_faddr fl25_0 rfl ?_)
    refine xr_op rfl rfl (xv_load1 ty22 rfl rfl (by ((repeat first|exact z_0|assumption|refine z_1 ?_|(refine z_l ?_;(repeat first|exact z_0|assumption|refine z_1 ?_);done)|refine z_r ?_);done)) (by rfl) ?_)
    refine xr_op rfl rfl (xv_build bt73 rfl (by ((try apply evl_some rfl);(repeat (first|exact (rfl : _ = [])|apply evl_cons rfl (by (first|exact v_1|exact v_2|exact v_3|exact v_4|exact v_5|exact v_6|exact v_7|exact v_8|exact v_9|exact rfl))|exact rfl)))) ?_)
    refine xr_op rfl rfl (xv_box rfl (fun b19 hb19 => ?_))
    refine xr_op rfl rfl (xv_assign rfl ?_)
    refine xr_end rfl ?_
    refine th_n ?_
    refine xc_seq (xc_region ?_)
    refine xr_op rfl rfl (xv_assign rfl ?_)
    refine xr_end rfl ?_
    refine th_n ?_
    refine xc_seq ?_
    refine xc_label ?_
    refine th_n ?_
    refine xc_seq ?_
    refine xc_seq (xc_region ?_)
    refine xr_op rfl rfl (xv_faddr fl25_1 rfl ?_)
    refine xr_op rfl rfl (xv_load1 ty23 rfl rfl (by ((repeat first|exact z_0|assumption|refine z_1 ?_|(refine z_l ?_;(repeat first|exact z_0|assumption|refine z_1 ?_);done)|refine z_r ?_);done)) (by rfl) ?_)
    refine xr_op rfl rfl (xv_len sl23 rfl ?_)
    refine xr_op rfl rfl (xv_move rfl ?_)
    refine xr_end rfl ?_
    refine th_n ?_
    refine xc_block ?_
    obtain ⟨hg1, hmv, ⟨hn1, hn6⟩, hl32⟩ := id hgy
    refine xc_loop (σ := Nat × List (List Int) × List Nat × Vec × List PH × Vec × Hp) (fun z => z.1 ≤ y.moves.length ∧ PInv y.coals.length y.moves (opn y.moves).1 z.1 z.2.1 ∧ z.2.2.1.length = (opn (y.moves.take z.1)).1 ∧ z.2.2.2.1.ok 1 z.2.2.1.length (z.2.2.1.flatMap eLp) ∧ z.2.2.2.2.2.1.ok 1 z.2.2.2.2.1.length (z.2.2.2.2.1.flatMap ePH) ∧ (z.2.2.2.2.1.map PH.m = z.2.1.map fun v => nzF (fun i => v.getD i 0) (opn y.moves).1) ∧ ∀ w ∈ z.2.2.2.2.1, SlV z.2.2.2.2.2.2 2 ePart w.a w.m) (fun z => ((((((emp.put (some 1) (.pointer (some ⟨b1, 0, none⟩))).put (some 4) (.pointer (some ⟨b19, 0, none⟩))).put (some 5) (I (opn (y.moves.take z.1)).2)).put (some 21) (.slice y.ma y.moves.length y.mc)).put (some 22) (I y.moves.length)).put (some 23) (I z.1))) (fun z => ((b19, .cells ⟨[.slice y.ca y.coals.length y.cc, .slice z.2.2.2.1.ad z.2.2.1.length z.2.2.2.1.cp, .slice z.2.2.2.2.2.1.ad z.2.2.2.2.1.length z.2.2.2.2.2.1.cp]⟩ 73) :: (z.2.2.2.1.hp 105 (z.2.2.1.flatMap eLp) ++ (z.2.2.2.2.2.1.hp 39 (z.2.2.2.2.1.flatMap ePH) ++ (layHp z.2.2.1 (layF y.moves z.1 (roomR y.coals.length y.moves z.1 z.2.1)) ++ (z.2.2.2.2.2.2 ++ (b1, .cells ⟨eYard y⟩ 25) :: h)))))) (fun z => y.moves.length - z.1) ((0, [], [], .nil, [], .nil, []) : Nat × List (List Int) × List Nat × Vec × List PH × Vec × Hp) ⟨Nat.zero_le _, pinv_0, rfl, ⟨rfl, rfl⟩, ⟨rfl, rfl⟩, rfl, fun w hw => (List.not_mem_nil hw).elim⟩ (le_put (le_put (le_put (le_put (le_put (le_put (le_emp _) rfl) rfl) rfl) rfl) rfl) rfl) (by (first|((repeat first|exact s_0|exact s_1|exact s_3|refine s_4 ?_|refine s_5 ?_|refine s_6 ?_|refine s_7 ?_);done)|((repeat first|exact s_0|exact s_1|exact s_3|refine s_4 ?_|refine s_5 ?_|refine s_6 ?_|refine s_8 ?_);done))) ?_
    rintro ⟨k, prev, bs, V, ds, W, P⟩ ⟨hk, hP, hbl, hV, hW, hD, hS⟩
    dsimp only at hk hP hbl hV hW hD hS
    refine xc_seq (xc_region ?_)
    refine xr_op rfl rfl (xv_lss2 rfl rfl (fun q1 => ?_) (fun q1 => ?_))
    · refine xr_end rfl ?_
      refine th_n ?_
      refine xc_seq ?_
      refine xc_true rfl ?_
      refine xc_skip ?_
      refine th_n ?_
      refine xc_seq ?_
      refine xc_block ?_
      refine xc_seq (xc_region ?_)
      have hlto : k < y.moves.length := by (first | omega | (dsimp only at *; omega) | (simp at *; omega))
      obtain ⟨bo, oo, lo, to, fzo, hao, hmo, hxo⟩ := (hy.moves).at hlto
      obtain ⟨xo, hko⟩ : ∃ qq_, y.moves[k]? = some qq_ := ⟨_, List.getElem?_eq_getElem hlto⟩
      obtain ⟨⟨mh1, mh2⟩, ⟨mc1, mc2⟩, mt1, mt2⟩ := movesOk_at hmv hko
      have hob := opn_all y.moves k
      have hob2 := opn_all y.moves (k + 1)
      have hobm := opn_le y.moves
      have hz := fun j hj => room_zero hP (j := j) hj
      have hnn := fun j => room_nn hP j
      have hle := fun j => room_le hmv hP j
      have hbig : (y.coals.length : Int) * (1048576 * (k : Int)) ≤ 6 * (1048576 * 32) := Int.mul_le_mul (by omega) (by omega) (by omega) (by omega)
      have hol := opn_le (y.moves.take k)
      rw [List.length_take] at hol
      have hdl : ds.length = prev.length := by rw [← List.length_map (f := PH.m), hD, List.length_map]
      have hfw := hP.few
      refine xr_op rfl rfl (xv_ia (sz := 3) (j := k) sl23 ty63 rfl (by rw [hao]; rfl) rfl (by (first | assumption | with_reducible exact Int.toNat_natCast _ | with_reducible rfl | rfl)) (by (first | omega | (dsimp only at *; omega) | (simp at *; omega))) (by (first | omega | (dsimp only at *; omega) | (simp at *; omega))) ?_)
      refine xr_op rfl rfl (xv_loadA ty63 rfl rfl (by ((repeat first|exact z_0|assumption|refine z_1 ?_|(refine z_l ?_;(repeat first|exact z_0|assumption|refine z_1 ?_);done)|refine z_r ?_);done)) (hxo (k) xo hko) rfl ?_)
      refine xr_op rfl rfl (xv_alloc ty63 (fun b7 hb7 => ?_))
      refine xr_op rfl rfl (xv_s ty63 rfl rfl (by (first|(apply u_3;(repeat first|exact u_0|assumption|apply u_1|apply u_2);done)|((repeat first|exact u_0|assumption|apply u_1|apply u_2);done)|(apply u_3;apply u_3;(repeat first|exact u_0|assumption|apply u_1|apply u_2);done)|((repeat first|exact u_0|assumption|apply u_3|apply u_1);done))) (by ((try apply evl_some rfl);(repeat (first|exact (rfl : _ = [])|apply evl_cons rfl (by (first|exact v_1|exact v_2|exact v_3|exact v_4|exact v_5|exact v_6|exact v_7|exact v_8|exact v_9|exact rfl))|exact rfl)))) (by rfl) (by rfl) (by rfl) (by ((try apply evl_some rfl);(repeat (first|exact (rfl : _ = [])|apply evl_cons rfl (by (first|exact v_1|exact v_2|exact v_3|exact v_4|exact v_5|exact v_6|exact v_7|exact v_8|exact v_9|exact rfl))|exact rfl)))) ?_)
      refine xr_end rfl ?_
      refine th_n ?_
      refine xc_seq ?_
      refine xc_seq (xc_region ?_)
      refine xr_op rfl rfl (xv_faddr fl63_1 rfl ?_)
      refine xr_op rfl rfl (xv_load1 ty3 rfl rfl (by ((repeat first|exact z_0|assumption|refine z_1 ?_|(refine z_l ?_;(repeat first|exact z_0|assumption|refine z_1 ?_);done)|refine z_r ?_);done)) (by rfl) ?_)
      refine xr_op rfl rfl (xv_neq2 rfl rfl (fun q2 => ?_) (fun q2 => ?_))
      · refine xr_end rfl ?_
        refine th_n ?_
        refine xc_true rfl ?_
        have hh0 := lastH_0le (movesOk_mono k hmv) (Nat.le_refl k)
        refine xc_join (σ := List Nat × Vec) (fun g => g.1.length = (opn (y.moves.take (k + 1))).1 ∧ g.2.ok 1 g.1.length (g.1.flatMap eLp)) (fun g => (((((((emp.put (some 1) (.pointer (some ⟨b1, 0, none⟩))).put (some 4) (.pointer (some ⟨b19, 0, none⟩))).put (some 5) (I (opn (y.moves.take (k + 1))).2)).put (some 7) (.pointer (some ⟨b7, 0, none⟩))).put (some 21) (.slice y.ma y.moves.length y.mc)).put (some 22) (I y.moves.length)).put (some 23) (I k))) (fun g => ((b7, .cells ⟨[I xo.hour, I xo.coal, I xo.tons]⟩ 63) :: (b19, .cells ⟨[.slice y.ca y.coals.length y.cc, .slice g.2.ad g.1.length g.2.cp, .slice W.ad ds.length W.cp]⟩ 73) :: (g.2.hp 105 (g.1.flatMap eLp) ++ (W.hp 39 (ds.flatMap ePH) ++ (layHp g.1 (layF y.moves k (roomR y.coals.length y.moves k prev)) ++ (P ++ (b1, .cells ⟨eYard y⟩ 25) :: h)))))) ?_ ?_
        · refine xc_seq (xc_region ?_)
          refine xr_op rfl rfl (xv_move rfl ?_)
          refine xr_op rfl rfl (xv_faddr fl63_0 rfl ?_)
          refine xr_op rfl rfl (xv_load1 ty3 rfl rfl (by ((repeat first|exact z_0|assumption|refine z_1 ?_|(refine z_l ?_;(repeat first|exact z_0|assumption|refine z_1 ?_);done)|refine z_r ?_);done)) (by rfl) ?_)
          refine xr_op rfl rfl (xv_neq2 rfl rfl (fun q3 => ?_) (fun q3 => ?_))
          · refine xr_end rfl ?_
            refine th_n ?_
            refine xc_true rfl ?_
            refine xc_draw [(0, .S), (1, .S), (2, .S), (3, .S), (4, .R), (5, .S), (9, .S), (10, .S), (6, .P), (6, .A), (7, .P), (7, .A), (8, .O), (11, .S), (12, .S), (13, .O), (14, .S)] [(b7, .cells ⟨[I xo.hour, I xo.coal, I xo.tons]⟩ 63)] ((b19, .cells ⟨[.slice y.ca y.coals.length y.cc, .slice V.ad bs.length V.cp, .slice W.ad ds.length W.cp]⟩ 73) :: (V.hp 105 (bs.flatMap eLp) ++ (W.hp 39 (ds.flatMap ePH) ++ (layHp bs (layF y.moves k (roomR y.coals.length y.moves k prev)) ++ (P ++ (b1, .cells ⟨eYard y⟩ 25) :: h))))) mixed (by kernel_rfl) (List.perm_append_singleton _ _) ?_
            refine js_S rfl rfl (.inl rfl) (xv_move rfl ⟨rfl, rfl⟩) ?_
            refine js_S rfl rfl (.inl rfl) (xv_move rfl ⟨rfl, rfl⟩) ?_
            refine js_S rfl rfl (.inl rfl) (xv_nilp rfl ⟨rfl, rfl⟩) ?_
            refine js_S rfl rfl (.inl rfl) (xv_faddr fl73_1 rfl ⟨rfl, rfl⟩) ?_
            refine js_R rfl rfl (.inl rfl) (xv_load1 ty70 rfl rfl (by ((repeat first|exact z_0|assumption|refine z_1 ?_|(refine z_l ?_;(repeat first|exact z_0|assumption|refine z_1 ?_);done)|refine z_r ?_);done)) (by rfl) ⟨rfl, rfl⟩) ?_
            refine js_S rfl rfl (.inl rfl) (xv_build bt107 rfl (by ((try apply evl_some rfl);(repeat (first|exact (rfl : _ = [])|apply evl_cons rfl (by (first|exact v_1|exact v_2|exact v_3|exact v_4|exact v_5|exact v_6|exact v_7|exact v_8|exact v_9|exact rfl))|exact rfl)))) ⟨rfl, rfl⟩) ?_
            refine js_S rfl rfl (.inl rfl) (xv_faddr fl63_0 rfl ⟨rfl, rfl⟩) ?_
            refine js_S rfl rfl (.inl rfl) (xv_load1 ty3 rfl rfl (by ((repeat first|exact z_0|assumption|refine z_1 ?_|(refine z_l ?_;(repeat first|exact z_0|assumption|refine z_1 ?_);done)|refine z_r ?_);done)) (by rfl) ⟨rfl, rfl⟩) ?_
            refine js_P rfl rfl rfl (al_box rfl) ?_
            refine js_A rfl rfl rfl rfl rfl ⟨rfl, trivial⟩ (fun b40 hb40 => ?_)
            refine js_P rfl rfl rfl (al_buildSlice sl70 ty105 rfl rfl rfl rfl rfl (by ((try apply evl_some rfl);(repeat (first|exact (rfl : _ = [])|apply evl_cons rfl (by (first|exact v_1|exact v_2|exact v_3|exact v_4|exact v_5|exact v_6|exact v_7|exact v_8|exact v_9|exact rfl))|exact rfl))))) ?_
            refine js_A rfl rfl rfl rfl rfl ⟨rfl, trivial⟩ (fun b41 hb41 => ?_)
            refine js_O rfl rfl (.inl rfl) (xv_append (V := V) (n := bs.length) (xs := bs.flatMap eLp) sl70 ty105 rfl (by rw [Vec.val_ad hV]; rfl) rfl hV (Tk.app _ (.there (.there (.there .here)))) (by ((repeat first|exact z_0|assumption|refine z_1 ?_|(refine z_l ?_;(repeat first|exact z_0|assumption|refine z_1 ?_);done)|refine z_r ?_);done)) (by ((try apply evl_some rfl);(repeat (first|exact (rfl : _ = [])|apply evl_cons rfl (by (first|exact v_1|exact v_2|exact v_3|exact v_4|exact v_5|exact v_6|exact v_7|exact v_8|exact v_9|exact rfl))|exact rfl)))) rfl rfl (by (first | omega | (dsimp only at *; omega) | (simp at *; omega))) (by simp only []; (first | omega | (dsimp only at *; omega) | (simp at *; omega))) (by (first | omega | (dsimp only at *; omega) | (simp at *; omega))) (fun V2 hV2 => ?_))
            refine jo_atL _ permR .nil ?_
            rw [Vec.val_ad hV2]
            refine js_S rfl rfl (.inl rfl) (xv_nilp rfl ⟨rfl, rfl⟩) ?_
            refine js_S rfl rfl (.inl rfl) (xv_faddr fl73_1 rfl ⟨rfl, rfl⟩) ?_
            refine js_O rfl rfl (.inl rfl) (xv_s1 ty70 rfl rfl rfl (by (first|(apply u_3;(repeat first|exact u_0|assumption|apply u_1|apply u_2);done)|((repeat first|exact u_0|assumption|apply u_1|apply u_2);done)|(apply u_3;apply u_3;(repeat first|exact u_0|assumption|apply u_1|apply u_2);done)|((repeat first|exact u_0|assumption|apply u_3|apply u_1);done))) (by (first | rfl | exact Vec.one _ _)) (by (first | decide | exact Nat.le_of_ble_eq_true rfl | (simp only [List.length_cons, List.length_nil]; omega) | (simp; done))) (by ((try apply evl_some rfl);(repeat (first|exact (rfl : _ = [])|apply evl_cons rfl (by (first|exact v_1|exact v_2|exact v_3|exact v_4|exact v_5|exact v_6|exact v_7|exact v_8|exact v_9|exact rfl))|exact rfl)))) ?_)
            refine jo_same ?_
            refine js_S rfl rfl (.inl rfl) (xv_assign rfl ⟨rfl, rfl⟩) ?_
            refine j_endp permA ?_
            have hst : opn (y.moves.take (k + 1)) = ((opn (y.moves.take k)).1 + 1, xo.hour) := by
              rw [opn_take hko]; unfold stepO
              first | (rw [if_neg (by (first | omega | (dsimp only at *; omega) | (simp at *; omega))), if_pos (by (first | omega | (dsimp only at *; omega) | (simp at *; omega)))]; done) | (rw [if_neg (by (first | omega | (dsimp only at *; omega) | (simp at *; omega))), if_neg (by (first | omega | (dsimp only at *; omega) | (simp at *; omega)))]; done)
            have hz0 : layF y.moves k (roomR y.coals.length y.moves k prev) bs.length = [I 0, I 0, I 0, I 0, I 0, I 0, I 0] := by
              unfold layF
              rw [contF_zero _ (by omega), hz bs.length (by omega)]; rfl
            have hbl2 : (bs ++ [b40]).flatMap eLp = bs.flatMap eLp ++ [.pointer (some ⟨b40, 0, none⟩)] := by simp [eLp]
            exact jn_n ((bs ++ [b40], V2) : List Nat × Vec) ⟨by dsimp only; rw [hst, List.length_append, hbl]; rfl, by dsimp only; rw [hbl2, List.length_append]; exact hV2⟩ (le_put (le_put (le_put (le_put (le_put (le_put (le_put (le_emp _) rfl) rfl) (by rw [hst]; rfl)) rfl) rfl) rfl) rfl) (by dsimp only; rw [hbl2, List.length_append, layHp_snoc, hz0]; (first|((repeat first|exact s_0|exact s_1|exact s_3|refine s_4 ?_|refine s_5 ?_|refine s_6 ?_|refine s_7 ?_);done)|((repeat first|exact s_0|exact s_1|exact s_3|refine s_4 ?_|refine s_5 ?_|refine s_6 ?_|refine s_8 ?_);done)))
          · refine xr_end rfl ?_
            refine th_n ?_
            refine xc_false rfl ?_
            refine xc_skip ?_
            have hst : opn (y.moves.take (k + 1)) = opn (y.moves.take k) := by
              rw [opn_take hko]; unfold stepO
              first | (rw [if_neg (by (first | omega | (dsimp only at *; omega) | (simp at *; omega))), if_pos (by (first | omega | (dsimp only at *; omega) | (simp at *; omega)))]; done) | (rw [if_neg (by (first | omega | (dsimp only at *; omega) | (simp at *; omega))), if_neg (by (first | omega | (dsimp only at *; omega) | (simp at *; omega)))]; done)
            exact jn_n ((bs, V) : List Nat × Vec) ⟨by dsimp only; rw [hst]; exact hbl, hV⟩ (le_put (le_put (le_put (le_put (le_put (le_put (le_put (le_emp _) rfl) rfl) (by rw [hst]; rfl)) rfl) rfl) rfl) rfl) (by (first|((repeat first|exact s_0|exact s_1|exact s_3|refine s_4 ?_|refine s_5 ?_|refine s_6 ?_|refine s_7 ?_);done)|((repeat first|exact s_0|exact s_1|exact s_3|refine s_4 ?_|refine s_5 ?_|refine s_6 ?_|refine s_8 ?_);done)))
        · rintro ⟨cs, X⟩ ⟨hcl, hX⟩
          dsimp only at hcl hX
          have hop := opn_open (l := y.moves) (k := k + 1) (by omega) hko
          rw [if_neg (by (first | omega | (dsimp only at *; omega) | (simp at *; omega)))] at hop
          have hpos := opn_pos (y.moves.take (k + 1)) (by rw [hop]; omega)
          have hlo : ((opn (y.moves.take (k + 1))).1 : Int) - 1 = ((cs.length - 1 : Nat) : Int) := by omega
          refine xc_seq ?_
          refine xc_draw0 [(0, .S), (1, .S), (2, .S), (3, .R), (4, .S), (5, .S), (6, .S), (7, .R), (8, .S), (9, .S), (10, .S), (11, .R), (12, .S)] mixed (by kernel_rfl) ?_
          have hltl : (cs.length - 1) < cs.length := by omega
          obtain ⟨bl, ol, ll, tl, fzl, hal, hml, hxl⟩ := (Vec.slvA (t := 105) eLp_len rfl hX).at hltl
          obtain ⟨xl, hkl⟩ : ∃ qq_, cs[(cs.length - 1)]? = some qq_ := ⟨_, List.getElem?_eq_getElem hltl⟩
          obtain ⟨hr1, hr2⟩ := room_in (prev := prev) hmv hko (by (first | omega | (dsimp only at *; omega) | (simp at *; omega))) hlo
          have hlen6 := contF_len 6 (y.moves.take k) ((cs.length - 1 : Nat) : Int)
          obtain ⟨v, hkv⟩ : ∃ v, (contF 6 (y.moves.take k) ((cs.length - 1 : Nat) : Int))[xo.coal.toNat]? = some v := ⟨_, List.getElem?_eq_getElem (by omega)⟩
          have hvb := contF_bd (j := ((cs.length - 1 : Nat) : Int)) (movesOk_le hn6 (movesOk_mono k hmv)) v (List.mem_of_getElem? hkv)
          rw [List.length_take] at hvb
          have hr3 := hnn (cs.length - 1)
          have hr4 := hle (cs.length - 1)
          have hml : (xl, .cells ⟨layF y.moves k (roomR y.coals.length y.moves k prev) (cs.length - 1)⟩ 107 (0, 0)) ∈ layHp cs (layF y.moves k (roomR y.coals.length y.moves k prev)) := layHp_mem hkl
          have hu1 := u_3 (f := (P ++ (b1, .cells ⟨eYard y⟩ 25) :: h)) (layHp_upd (f := layF y.moves k (roomR y.coals.length y.moves k prev)) (g := layF y.moves (k + 1) (roomR y.coals.length y.moves k prev)) hkl (fun j _ hne => layF_other hko hlo hne))
          have hml2 : (xl, .cells ⟨layF y.moves (k + 1) (roomR y.coals.length y.moves k prev) (cs.length - 1)⟩ 107 (0, 0)) ∈ layHp cs (layF y.moves (k + 1) (roomR y.coals.length y.moves k prev)) := layHp_mem hkl
          have hu2 := u_3 (f := (P ++ (b1, .cells ⟨eYard y⟩ 25) :: h)) (layHp_upd (f := layF y.moves (k + 1) (roomR y.coals.length y.moves k prev)) (g := layF y.moves (k + 1) (roomR y.coals.length y.moves (k + 1) prev)) hkl (fun j _ hne => by unfold layF; rw [hr2 j hne]))
          refine js_S rfl rfl (.inl rfl) (xv_move rfl ⟨rfl, rfl⟩) ?_
          refine js_S rfl rfl (.inl rfl) (xv_nilp rfl ⟨rfl, rfl⟩) ?_
          refine js_S rfl rfl (.inl rfl) (xv_faddr fl73_1 rfl ⟨rfl, rfl⟩) ?_
          refine js_R0 rfl rfl (.inl rfl) (xv_load1 ty70 rfl rfl (by ((repeat first|exact z_0|assumption|refine z_1 ?_|(refine z_l ?_;(repeat first|exact z_0|assumption|refine z_1 ?_);done)|refine z_r ?_);done)) (by rfl) ⟨rfl, rfl⟩) ?_
          refine js_S rfl rfl (.inl rfl) (xv_move rfl ⟨rfl, rfl⟩) ?_
          refine js_S rfl rfl (.inl rfl) (xv_nilp rfl ⟨rfl, rfl⟩) ?_
          refine js_S rfl rfl (.inl rfl) (xv_faddr fl73_1 rfl ⟨rfl, rfl⟩) ?_
          refine js_R0 rfl rfl (.inl rfl) (xv_load1 ty70 rfl rfl (by ((repeat first|exact z_0|assumption|refine z_1 ?_|(refine z_l ?_;(repeat first|exact z_0|assumption|refine z_1 ?_);done)|refine z_r ?_);done)) (by rfl) ⟨rfl, rfl⟩) ?_
          refine js_S rfl rfl (.inl rfl) (xv_len sl70 rfl ⟨rfl, rfl⟩) ?_
          refine js_S rfl rfl (.inl rfl) (xv_sub rfl rfl (wrap_i64 (by (first | omega | (dsimp only at *; omega) | (simp at *; omega))) (by (first | omega | (dsimp only at *; omega) | (simp at *; omega)))) ⟨rfl, rfl⟩) ?_
          refine js_S rfl rfl (.inl rfl) (xv_ia (sz := 1) (j := (cs.length - 1)) sl70 ty105 rfl (by rw [hal]; rfl) rfl (by (first | omega | (dsimp only at *; omega) | (simp at *; omega))) (by (first | omega | (dsimp only at *; omega) | (simp at *; omega))) (by (first | omega | (dsimp only at *; omega) | (simp at *; omega))) ⟨rfl, rfl⟩) ?_
          refine js_R0 rfl rfl (.inl rfl) (xv_load1 ty105 rfl rfl (by ((repeat first|exact z_0|assumption|refine z_1 ?_|(refine z_l ?_;(repeat first|exact z_0|assumption|refine z_1 ?_);done)|refine z_r ?_);done)) (take_get (hxl (cs.length - 1) xl hkl) (j := 0) rfl) ⟨rfl, rfl⟩) ?_
          refine js_S rfl rfl (.inl rfl) (xv_assign rfl ⟨rfl, rfl⟩) ?_
          refine j_end0 ?_
          refine th_n ?_
          refine xc_seq ?_
          refine xc_draw0 [(0, .S), (1, .S), (2, .R), (3, .S), (4, .S), (5, .S), (6, .R), (7, .S), (8, .R), (9, .S), (10, .S), (11, .S), (12, .S), (13, .O)] mixed (by kernel_rfl) ?_
          refine js_S rfl rfl (.inl rfl) (xv_move rfl ⟨rfl, rfl⟩) ?_
          refine js_S rfl rfl (.inl rfl) (xv_faddr fl63_1 rfl ⟨rfl, rfl⟩) ?_
          refine js_R0 rfl rfl (.inl rfl) (xv_load1 ty3 rfl rfl (by ((repeat first|exact z_0|assumption|refine z_1 ?_|(refine z_l ?_;(repeat first|exact z_0|assumption|refine z_1 ?_);done)|refine z_r ?_);done)) (by rfl) ⟨rfl, rfl⟩) ?_
          refine js_S rfl rfl (.inl rfl) (xv_nilp rfl ⟨rfl, rfl⟩) ?_
          refine js_S rfl rfl (.inl rfl) (xv_faddr fl107_0 rfl ⟨rfl, rfl⟩) ?_
          refine js_S rfl rfl (.inl rfl) (xv_iaA (sz := 1) (j := xo.coal.toNat) Try.underlying80 ty3 rfl rfl rfl (by omega) (by (first | omega | (dsimp only at *; omega) | (simp at *; omega))) (by (first | omega | (dsimp only at *; omega) | (simp at *; omega))) ⟨rfl, rfl⟩) ?_
          refine js_R0 rfl rfl (.inl rfl) (xv_load1 ty3 rfl rfl (by ((repeat first|exact z_0|assumption|refine z_1 ?_|(refine z_l ?_;(repeat first|exact z_0|assumption|refine z_1 ?_);done)|refine z_r ?_);done)) (layF_get hkv (by omega)) ⟨rfl, rfl⟩) ?_
          refine js_S rfl rfl (.inl rfl) (xv_faddr fl63_2 rfl ⟨rfl, rfl⟩) ?_
          refine js_R0 rfl rfl (.inl rfl) (xv_load1 ty3 rfl rfl (by ((repeat first|exact z_0|assumption|refine z_1 ?_|(refine z_l ?_;(repeat first|exact z_0|assumption|refine z_1 ?_);done)|refine z_r ?_);done)) (by rfl) ⟨rfl, rfl⟩) ?_
          refine js_S rfl rfl (.inl rfl) (xv_add rfl rfl (wrap_i64 (by (first | omega | (dsimp only at *; omega) | (simp at *; omega))) (by (first | omega | (dsimp only at *; omega) | (simp at *; omega)))) ⟨rfl, rfl⟩) ?_
          refine js_S rfl rfl (.inl rfl) (xv_nilp rfl ⟨rfl, rfl⟩) ?_
          refine js_S rfl rfl (.inl rfl) (xv_faddr fl107_0 rfl ⟨rfl, rfl⟩) ?_
          refine js_S rfl rfl (.inl rfl) (xv_iaA (sz := 1) (j := xo.coal.toNat) Try.underlying80 ty3 rfl rfl rfl (by omega) (by (first | omega | (dsimp only at *; omega) | (simp at *; omega))) (by (first | omega | (dsimp only at *; omega) | (simp at *; omega))) ⟨rfl, rfl⟩) ?_
          refine js_O0 rfl rfl (.inl rfl) (xv_s1 (l := layF y.moves k (roomR y.coals.length y.moves k prev) (cs.length - 1)) (l' := layF y.moves (k + 1) (roomR y.coals.length y.moves k prev) (cs.length - 1)) ty3 rfl rfl rfl (by (first|(apply u_3;(repeat first|exact u_0|assumption|apply u_1|apply u_2);done)|((repeat first|exact u_0|assumption|apply u_1|apply u_2);done)|(apply u_3;apply u_3;(repeat first|exact u_0|assumption|apply u_1|apply u_2);done)|((repeat first|exact u_0|assumption|apply u_3|apply u_1);done))) rfl (by rw [layF_len]; omega) (layF_set1 hko (by (first | omega | (dsimp only at *; omega) | (simp at *; omega))) hlo rfl hkv (by omega)) ?_)
          refine j_end0 ?_
          refine th_n ?_
          refine xc_seq ?_
          refine xc_draw0 [(0, .S), (1, .S), (2, .S), (3, .R), (4, .S), (5, .R), (6, .S), (7, .S), (8, .S), (9, .O)] mixed (by kernel_rfl) ?_
          refine js_S rfl rfl (.inl rfl) (xv_move rfl ⟨rfl, rfl⟩) ?_
          refine js_S rfl rfl (.inl rfl) (xv_nilp rfl ⟨rfl, rfl⟩) ?_
          refine js_S rfl rfl (.inl rfl) (xv_faddr fl107_1 rfl ⟨rfl, rfl⟩) ?_
          refine js_R0 rfl rfl (.inl rfl) (xv_load1 ty3 rfl rfl (by ((repeat first|exact z_0|assumption|refine z_1 ?_|(refine z_l ?_;(repeat first|exact z_0|assumption|refine z_1 ?_);done)|refine z_r ?_);done)) (layF_left (by omega)) ⟨rfl, rfl⟩) ?_
          refine js_S rfl rfl (.inl rfl) (xv_faddr fl63_2 rfl ⟨rfl, rfl⟩) ?_
          refine js_R0 rfl rfl (.inl rfl) (xv_load1 ty3 rfl rfl (by ((repeat first|exact z_0|assumption|refine z_1 ?_|(refine z_l ?_;(repeat first|exact z_0|assumption|refine z_1 ?_);done)|refine z_r ?_);done)) (by rfl) ⟨rfl, rfl⟩) ?_
          refine js_S rfl rfl (.inl rfl) (xv_add rfl rfl (wrap_i64 (by (first | omega | (dsimp only at *; omega) | (simp at *; omega))) (by (first | omega | (dsimp only at *; omega) | (simp at *; omega)))) ⟨rfl, rfl⟩) ?_
          refine js_S rfl rfl (.inl rfl) (xv_nilp rfl ⟨rfl, rfl⟩) ?_
          refine js_S rfl rfl (.inl rfl) (xv_faddr fl107_1 rfl ⟨rfl, rfl⟩) ?_
          refine js_O0 rfl rfl (.inl rfl) (xv_s1 (l := layF y.moves (k + 1) (roomR y.coals.length y.moves k prev) (cs.length - 1)) (l' := layF y.moves (k + 1) (roomR y.coals.length y.moves (k + 1) prev) (cs.length - 1)) ty3 rfl rfl rfl (by (first|(apply u_3;(repeat first|exact u_0|assumption|apply u_1|apply u_2);done)|((repeat first|exact u_0|assumption|apply u_1|apply u_2);done)|(apply u_3;apply u_3;(repeat first|exact u_0|assumption|apply u_1|apply u_2);done)|((repeat first|exact u_0|assumption|apply u_3|apply u_1);done))) rfl (by rw [layF_len]; omega) (layF_set2 (by omega) hr1) ?_)
          refine j_end0 ?_
          refine th_n ?_
          refine xc_exit ?_
          refine th_x ?_
          refine bk_same ?_
          refine th_n ?_
          refine xc_region ?_
          refine xr_op rfl rfl (xv_add rfl rfl (wrap_i64 (by (first | omega | (dsimp only at *; omega) | (simp at *; omega))) (by (first | omega | (dsimp only at *; omega) | (simp at *; omega)))) ?_)
          refine xr_op rfl rfl (xv_move rfl ?_)
          refine xr_end rfl ?_
          exact rnd ((k + 1, prev, cs, X, ds, W, P) : Nat × List (List Int) × List Nat × Vec × List PH × Vec × Hp) ⟨by (first | omega | (dsimp only at *; omega) | (simp at *; omega)), hP.skip hmv hko (by (first | omega | (dsimp only at *; omega) | (simp at *; omega))), hcl, hX, hW, hD, hS⟩ (by (first | omega | (dsimp only at *; omega) | (simp at *; omega))) (le_put (le_put (le_put (le_put (le_put (le_put (le_emp _) rfl) rfl) rfl) rfl) rfl) rfl) (by (first|((repeat first|exact s_0|exact s_1|exact s_3|refine s_4 ?_|refine s_5 ?_|refine s_6 ?_|refine s_7 ?_);done)|((repeat first|exact s_0|exact s_1|exact s_3|refine s_4 ?_|refine s_5 ?_|refine s_6 ?_|refine s_8 ?_);done)))
      · refine xr_end rfl ?_
        refine th_n ?_
        refine xc_false rfl ?_
        refine xc_skip ?_
        refine th_n ?_
        refine xc_seq (xc_region ?_)
        refine xr_op rfl rfl (xv_assign rfl ?_)
        refine xr_end rfl ?_
        refine th_n ?_
        refine xc_seq (xc_region ?_)
        refine xr_op rfl rfl (xv_assign rfl ?_)
        refine xr_end rfl ?_
        refine th_n ?_
        refine xc_seq ?_
        refine xc_seq (xc_region ?_)
        refine xr_op rfl rfl (xv_move rfl ?_)
        refine xr_op rfl rfl (xv_nilp rfl ?_)
        refine xr_op rfl rfl (xv_faddr fl73_1 rfl ?_)
        refine xr_op rfl rfl (xv_load1 ty70 rfl rfl (by ((repeat first|exact z_0|assumption|refine z_1 ?_|(refine z_l ?_;(repeat first|exact z_0|assumption|refine z_1 ?_);done)|refine z_r ?_);done)) (by rfl) ?_)
        refine xr_op rfl rfl (xv_len sl70 rfl ?_)
        refine xr_op rfl rfl (xv_move rfl ?_)
        refine xr_end rfl ?_
        refine th_n ?_
        refine xc_block ?_
        refine xc_loop (σ := Nat × Vec) (fun q => q.1 ≤ bs.length ∧ q.2.ok 2 (nzF (vF (roomR y.coals.length y.moves k prev) xo.tons) q.1).length ((nzF (vF (roomR y.coals.length y.moves k prev) xo.tons) q.1).flatMap ePart)) (fun q => (((((((((((emp.put (some 1) (.pointer (some ⟨b1, 0, none⟩))).put (some 4) (.pointer (some ⟨b19, 0, none⟩))).put (some 5) (I (-1))).put (some 7) (.pointer (some ⟨b7, 0, none⟩))).put (some 9) (.slice q.2.ad (nzF (vF (roomR y.coals.length y.moves k prev) xo.tons) q.1).length q.2.cp)).put (some 21) (.slice y.ma y.moves.length y.mc)).put (some 22) (I y.moves.length)).put (some 23) (I k)).put (some 84) (.slice V.ad bs.length V.cp)).put (some 85) (I bs.length)).put (some 86) (I q.1))) (fun q => (q.2.hp 43 (nzF (vF (roomR y.coals.length y.moves k prev) xo.tons) q.1 |>.flatMap ePart) ++ (b7, .cells ⟨[I xo.hour, I xo.coal, I (vecR (roomR y.coals.length y.moves k prev) q.1 xo.tons).2]⟩ 63) :: (b19, .cells ⟨[.slice y.ca y.coals.length y.cc, .slice V.ad bs.length V.cp, .slice W.ad ds.length W.cp]⟩ 73) :: (V.hp 105 (bs.flatMap eLp) ++ (W.hp 39 (ds.flatMap ePH) ++ (layHp bs (layF y.moves k (lfJ (roomR y.coals.length y.moves k prev) xo.tons q.1)) ++ (P ++ (b1, .cells ⟨eYard y⟩ 25) :: h)))))) (fun q => bs.length - q.1) ((0, .nil) : Nat × Vec) ⟨Nat.zero_le _, ⟨rfl, rfl⟩⟩ (le_put (le_put (le_put (le_put (le_put (le_put (le_put (le_put (le_put (le_put (le_put (le_emp _) rfl) rfl) rfl) rfl) rfl) rfl) rfl) rfl) rfl) rfl) rfl) (by dsimp only; rw [lfJ_0]; (first|((repeat first|exact s_0|exact s_1|exact s_3|refine s_4 ?_|refine s_5 ?_|refine s_6 ?_|refine s_7 ?_);done)|((repeat first|exact s_0|exact s_1|exact s_3|refine s_4 ?_|refine s_5 ?_|refine s_6 ?_|refine s_8 ?_);done))) ?_
        rintro ⟨j, U⟩ ⟨hj, hU⟩
        dsimp only at hj hU
        refine xc_seq (xc_region ?_)
        refine xr_op rfl rfl (xv_lss2 rfl rfl (fun q6 => ?_) (fun q6 => ?_))
        · refine xr_end rfl ?_
          refine th_n ?_
          refine xc_seq ?_
          refine xc_true rfl ?_
          refine xc_skip ?_
          refine th_n ?_
          refine xc_seq ?_
          refine xc_block ?_
          refine xc_seq (xc_region ?_)
          have hltl : j < bs.length := by (first | omega | (dsimp only at *; omega) | (simp at *; omega))
          obtain ⟨bl, ol, ll, tl, fzl, hal, hml, hxl⟩ := (Vec.slvA (t := 105) eLp_len rfl hV).at hltl
          obtain ⟨xl, hkl⟩ : ∃ qq_, bs[j]? = some qq_ := ⟨_, List.getElem?_eq_getElem hltl⟩
          have hml : (xl, .cells ⟨layF y.moves k (lfJ (roomR y.coals.length y.moves k prev) xo.tons j) j⟩ 107 (0, 0)) ∈ layHp bs (layF y.moves k (lfJ (roomR y.coals.length y.moves k prev) xo.tons j)) := layHp_mem hkl
          have hlj := lfJ_at (roomR y.coals.length y.moves k prev) xo.tons j
          have hu1 := u_3 (f := (P ++ (b1, .cells ⟨eYard y⟩ 25) :: h)) (layHp_upd (f := layF y.moves k (lfJ (roomR y.coals.length y.moves k prev) xo.tons j)) (g := layF y.moves k (lfJ (roomR y.coals.length y.moves k prev) xo.tons (j + 1))) hkl (fun i _ hne => by unfold layF; rw [lfJ_other hne]))
          obtain ⟨⟨va, vb⟩, vc, vd⟩ := vecR_bd (room := (roomR y.coals.length y.moves k prev)) (t := xo.tons) (by omega) j (fun i _ => hnn i)
          have hrj := hnn j
          have hrj2 := hle j
          have hvf : (vF (roomR y.coals.length y.moves k prev) xo.tons j) = min ((roomR y.coals.length y.moves k prev) j) (vecR (roomR y.coals.length y.moves k prev) j xo.tons).2 := rfl
          refine xr_op rfl rfl (xv_move rfl ?_)
          refine xr_op rfl rfl (xv_ia (sz := 1) (j := j) sl70 ty105 rfl (by rw [hal]; rfl) rfl (by (first | assumption | with_reducible exact Int.toNat_natCast _ | with_reducible rfl | rfl)) (by (first | omega | (dsimp only at *; omega) | (simp at *; omega))) (by (first | omega | (dsimp only at *; omega) | (simp at *; omega))) ?_)
          refine xr_op rfl rfl (xv_load1 ty105 rfl rfl (by ((repeat first|exact z_0|assumption|refine z_1 ?_|(refine z_l ?_;(repeat first|exact z_0|assumption|refine z_1 ?_);done)|refine z_r ?_);done)) (take_get (hxl (j) xl hkl) (j := 0) rfl) ?_)
          refine xr_op rfl rfl (xv_assign rfl ?_)
          refine xr_op rfl rfl (xv_assign rfl ?_)
          refine xr_end rfl ?_
          refine th_n ?_
          refine xc_seq ?_
          refine xc_draw0 [(0, .S), (1, .S), (2, .S), (3, .R), (4, .S), (5, .R), (6, .S), (7, .S)] mixed (by kernel_rfl) ?_
          refine js_S rfl rfl (.inl rfl) (xv_move rfl ⟨rfl, rfl⟩) ?_
          refine js_S rfl rfl (.inl rfl) (xv_nilp rfl ⟨rfl, rfl⟩) ?_
          refine js_S rfl rfl (.inl rfl) (xv_faddr fl107_1 rfl ⟨rfl, rfl⟩) ?_
          refine js_R0 rfl rfl (.inl rfl) (xv_load1 ty3 rfl rfl (by ((repeat first|exact z_0|assumption|refine z_1 ?_|(refine z_l ?_;(repeat first|exact z_0|assumption|refine z_1 ?_);done)|refine z_r ?_);done)) ((layF_left (by omega)).trans (by rw [hlj])) ⟨rfl, rfl⟩) ?_
          refine js_S rfl rfl (.inl rfl) (xv_faddr fl63_2 rfl ⟨rfl, rfl⟩) ?_
          refine js_R0 rfl rfl (.inl rfl) (xv_load1 ty3 rfl rfl (by ((repeat first|exact z_0|assumption|refine z_1 ?_|(refine z_l ?_;(repeat first|exact z_0|assumption|refine z_1 ?_);done)|refine z_r ?_);done)) (by rfl) ⟨rfl, rfl⟩) ?_
          refine js_S rfl rfl (.inl rfl) (xv_min rfl rfl rfl ⟨rfl, rfl⟩) ?_
          refine js_S rfl rfl (.inl rfl) (xv_assign rfl ⟨rfl, rfl⟩) ?_
          refine j_end0 ?_
          refine th_n ?_
          refine xc_seq (xc_region ?_)
          refine xr_op rfl rfl (xv_move rfl ?_)
          refine xr_op rfl rfl (xv_gtr2 rfl rfl (fun q7 => ?_) (fun q7 => ?_))
          · refine xr_end rfl ?_
            refine th_n ?_
            refine xc_true rfl ?_
            refine xc_seq (xc_region ?_)
            have hvp : (vF (roomR y.coals.length y.moves k prev) xo.tons j) > 0 := by (first | omega | (dsimp only at *; omega) | (simp at *; omega))
            have hul := nzF_len (vF (roomR y.coals.length y.moves k prev) xo.tons) j
            refine xr_op rfl rfl (xv_move rfl ?_)
            refine xr_op rfl rfl (xv_move rfl ?_)
            refine xr_op rfl rfl (xv_move rfl ?_)
            refine xr_op rfl rfl (xv_build bt43 rfl (by ((try apply evl_some rfl);(repeat (first|exact (rfl : _ = [])|apply evl_cons rfl (by (first|exact v_1|exact v_2|exact v_3|exact v_4|exact v_5|exact v_6|exact v_7|exact v_8|exact v_9|exact rfl))|exact rfl)))) ?_)
            refine xr_op rfl rfl ((al_buildSlice sl39 ty43 rfl rfl rfl rfl rfl (by ((try apply evl_some rfl);(repeat (first|exact (rfl : _ = [])|apply evl_cons rfl (by (first|exact v_1|exact v_2|exact v_3|exact v_4|exact v_5|exact v_6|exact v_7|exact v_8|exact v_9|exact rfl))|exact rfl))))).xv (fun b104 hb104 => ?_))
            refine xr_op rfl rfl (xv_append (V := U) (n := (nzF (vF (roomR y.coals.length y.moves k prev) xo.tons) j).length) (xs := (nzF (vF (roomR y.coals.length y.moves k prev) xo.tons) j).flatMap ePart) sl39 ty43 rfl (by rw [Vec.val_ad hU]; rfl) rfl hU (.there .here) (by ((repeat first|exact z_0|assumption|refine z_1 ?_|(refine z_l ?_;(repeat first|exact z_0|assumption|refine z_1 ?_);done)|refine z_r ?_);done)) (by ((try apply evl_some rfl);(repeat (first|exact (rfl : _ = [])|apply evl_cons rfl (by (first|exact v_1|exact v_2|exact v_3|exact v_4|exact v_5|exact v_6|exact v_7|exact v_8|exact v_9|exact rfl))|exact rfl)))) rfl rfl (by (first | omega | (dsimp only at *; omega) | (simp at *; omega))) (by simp only []; (first | omega | (dsimp only at *; omega) | (simp at *; omega))) (by (first | omega | (dsimp only at *; omega) | (simp at *; omega))) (fun U2 hU2 => ?_))
            rw [Vec.val_ad hU2]
            refine xr_op rfl rfl (xv_assign rfl ?_)
            refine xr_end rfl ?_
            refine th_n ?_
            refine xc_seq (xc_region ?_)
            refine xr_op rfl rfl (xv_move rfl ?_)
            refine xr_op rfl rfl (xv_nilp rfl ?_)
            refine xr_op rfl rfl (xv_faddr fl107_1 rfl ?_)
            refine xr_op rfl rfl (xv_load1 ty3 rfl rfl (by ((repeat first|exact z_0|assumption|refine z_1 ?_|(refine z_l ?_;(repeat first|exact z_0|assumption|refine z_1 ?_);done)|refine z_r ?_);done)) ((layF_left (by omega)).trans (by rw [hlj])) ?_)
            refine xr_op rfl rfl (xv_move rfl ?_)
            refine xr_op rfl rfl (xv_sub rfl rfl (wrap_i64 (by (first | omega | (dsimp only at *; omega) | (simp at *; omega))) (by (first | omega | (dsimp only at *; omega) | (simp at *; omega)))) ?_)
            refine xr_op rfl rfl (xv_nilp rfl ?_)
            refine xr_op rfl rfl (xv_faddr fl107_1 rfl ?_)
            refine xr_op rfl rfl (xv_s1 (l := layF y.moves k (lfJ (roomR y.coals.length y.moves k prev) xo.tons j) j) (l' := layF y.moves k (lfJ (roomR y.coals.length y.moves k prev) xo.tons (j + 1)) j) ty3 rfl rfl rfl (by (first|(apply u_3;(repeat first|exact u_0|assumption|apply u_1|apply u_2);done)|((repeat first|exact u_0|assumption|apply u_1|apply u_2);done)|(apply u_3;apply u_3;(repeat first|exact u_0|assumption|apply u_1|apply u_2);done)|((repeat first|exact u_0|assumption|apply u_3|apply u_1);done))) rfl (by rw [layF_len]; omega) (layF_set2 (by omega) (lfJ_next _ _ _)) ?_)
            refine xr_end rfl ?_
            refine th_n ?_
            refine xc_region ?_
            refine xr_op rfl rfl (xv_faddr fl63_2 rfl ?_)
            refine xr_op rfl rfl (xv_load1 ty3 rfl rfl (by ((repeat first|exact z_0|assumption|refine z_1 ?_|(refine z_l ?_;(repeat first|exact z_0|assumption|refine z_1 ?_);done)|refine z_r ?_);done)) (by rfl) ?_)
            refine xr_op rfl rfl (xv_move rfl ?_)
            refine xr_op rfl rfl (xv_sub rfl rfl (wrap_i64 (by (first | omega | (dsimp only at *; omega) | (simp at *; omega))) (by (first | omega | (dsimp only at *; omega) | (simp at *; omega)))) ?_)
            refine xr_op rfl rfl (xv_faddr fl63_2 rfl ?_)
            refine xr_op rfl rfl (xv_s1 ty3 rfl rfl rfl (by (first|(apply u_3;(repeat first|exact u_0|assumption|apply u_1|apply u_2);done)|((repeat first|exact u_0|assumption|apply u_1|apply u_2);done)|(apply u_3;apply u_3;(repeat first|exact u_0|assumption|apply u_1|apply u_2);done)|((repeat first|exact u_0|assumption|apply u_3|apply u_1);done))) (by (first | rfl | exact Vec.one _ _)) (by (first | decide | exact Nat.le_of_ble_eq_true rfl | (simp only [List.length_cons, List.length_nil]; omega) | (simp; done))) (by ((try apply evl_some rfl);(repeat (first|exact (rfl : _ = [])|apply evl_cons rfl (by (first|exact v_1|exact v_2|exact v_3|exact v_4|exact v_5|exact v_6|exact v_7|exact v_8|exact v_9|exact rfl))|exact rfl)))) ?_)
            refine xr_end rfl ?_
            refine bk_n ?_
            refine th_n ?_
            refine xc_region ?_
            refine xr_op rfl rfl (xv_add rfl rfl (wrap_i64 (by (first | omega | (dsimp only at *; omega) | (simp at *; omega))) (by (first | omega | (dsimp only at *; omega) | (simp at *; omega)))) ?_)
            refine xr_op rfl rfl (xv_move rfl ?_)
            refine xr_end rfl ?_
            exact rnd ((j + 1, U2) : Nat × Vec) ⟨by (first | omega | (dsimp only at *; omega) | (simp at *; omega)), by dsimp only; rw [nzF_app hvp, nzF_lenS hvp]; exact hU2⟩ (by (first | omega | (dsimp only at *; omega) | (simp at *; omega))) (le_put (le_put (le_put (le_put (le_put (le_put (le_put (le_put (le_put (le_put (le_put (le_emp _) rfl) rfl) rfl) rfl) (by dsimp only; rw [nzF_lenS hvp]; rfl)) rfl) rfl) rfl) rfl) rfl) rfl) (by dsimp only; rw [nzF_app hvp, vecR_2]; (first|((repeat first|exact s_0|exact s_1|exact s_3|refine s_4 ?_|refine s_5 ?_|refine s_6 ?_|refine s_7 ?_);done)|((repeat first|exact s_0|exact s_1|exact s_3|refine s_4 ?_|refine s_5 ?_|refine s_6 ?_|refine s_8 ?_);done)))
          · refine xr_end rfl ?_
            refine th_n ?_
            refine xc_false rfl ?_
            refine xc_skip ?_
            refine bk_n ?_
            refine th_n ?_
            refine xc_region ?_
            have hvp : ¬ (vF (roomR y.coals.length y.moves k prev) xo.tons j) > 0 := by (first | omega | (dsimp only at *; omega) | (simp at *; omega))
            have hv0 : (vF (roomR y.coals.length y.moves k prev) xo.tons j) = 0 := by (first | omega | (dsimp only at *; omega) | (simp at *; omega))
            refine xr_op rfl rfl (xv_add rfl rfl (wrap_i64 (by (first | omega | (dsimp only at *; omega) | (simp at *; omega))) (by (first | omega | (dsimp only at *; omega) | (simp at *; omega)))) ?_)
            refine xr_op rfl rfl (xv_move rfl ?_)
            refine xr_end rfl ?_
            exact rnd ((j + 1, U) : Nat × Vec) ⟨by (first | omega | (dsimp only at *; omega) | (simp at *; omega)), by dsimp only; rw [nzF_eq _ _ hvp]; exact hU⟩ (by (first | omega | (dsimp only at *; omega) | (simp at *; omega))) (le_put (le_put (le_put (le_put (le_put (le_put (le_put (le_put (le_put (le_put (le_put (le_emp _) rfl) rfl) rfl) rfl) (by dsimp only; rw [nzF_eq _ _ hvp]; rfl)) rfl) rfl) rfl) rfl) rfl) rfl) (by dsimp only; rw [nzF_eq _ _ hvp, vecR_2, hv0, Int.sub_zero, lfJ_same hv0]; (first|((repeat first|exact s_0|exact s_1|exact s_3|refine s_4 ?_|refine s_5 ?_|refine s_6 ?_|refine s_7 ?_);done)|((repeat first|exact s_0|exact s_1|exact s_3|refine s_4 ?_|refine s_5 ?_|refine s_6 ?_|refine s_8 ?_);done)))
        · refine xr_end rfl ?_
          refine th_n ?_
          refine xc_seq ?_
          refine xc_false rfl ?_
          refine xc_exit ?_
          refine th_x ?_
          refine th_x ?_
          refine bk_same ?_
          refine th_n ?_
          refine xc_seq ?_
          refine xc_seq (xc_region ?_)
          obtain rfl : j = bs.length := by (first | omega | (dsimp only at *; omega) | (simp at *; omega))
          obtain ⟨⟨va, vb⟩, vc, vd⟩ := vecR_bd (room := (roomR y.coals.length y.moves k prev)) (t := xo.tons) (by omega) bs.length (fun i _ => hnn i)
          obtain ⟨hv2, hnz⟩ := draw_done (room := (roomR y.coals.length y.moves k prev)) (t := xo.tons) (c := bs.length) (L := (opn y.moves).1) (by omega) (fun j hj => hz j (by omega)) va
          refine xr_op rfl rfl (xv_faddr fl63_2 rfl ?_)
          refine xr_op rfl rfl (xv_load1 ty3 rfl rfl (by ((repeat first|exact z_0|assumption|refine z_1 ?_|(refine z_l ?_;(repeat first|exact z_0|assumption|refine z_1 ?_);done)|refine z_r ?_);done)) (by rfl) ?_)
          refine xr_op rfl rfl (xv_gtr2 rfl rfl (fun q8 => ?_) (fun q8 => ?_))
          · refine xr_end rfl ?_
            refine th_n ?_
            refine xc_true rfl ?_
            refine xc_seq (xc_region ?_)
            refine xr_op rfl rfl (xv_assign rfl ?_)
            refine xr_op rfl rfl (xv_assign rfl ?_)
            refine xr_end rfl ?_
            refine th_n ?_
            refine xc_ret ?_
            refine th_r ?_
            refine bk_r ?_
            refine th_r ?_
            refine th_r ?_
            refine bk_r ?_
            refine th_r ?_
            refine sc_r ?_
            refine body_ret (h' := h) rfl (ro_tmp rfl (ro_tmp rfl ro_nil)) (by first | (first|((repeat first|exact s_0|exact s_1|exact s_3|refine s_4 ?_|refine s_5 ?_|refine s_6 ?_|refine s_7 ?_);done)|((repeat first|exact s_0|exact s_1|exact s_3|refine s_4 ?_|refine s_5 ?_|refine s_6 ?_|refine s_8 ?_);done)) | (simp only [List.cons_append, List.append_assoc]; (first|((repeat first|exact s_0|exact s_1|exact s_3|refine s_4 ?_|refine s_5 ?_|refine s_6 ?_|refine s_7 ?_);done)|((repeat first|exact s_0|exact s_1|exact s_3|refine s_4 ?_|refine s_5 ?_|refine s_6 ?_|refine s_8 ?_);done)))) ?_
            first | exact H1 hgy | exact H2 hgy (parts_end (parts_bad hP.is hko (by (first | omega | (dsimp only at *; omega) | (simp at *; omega))) (by (first | omega | (dsimp only at *; omega) | (simp at *; omega)))) (by (first | omega | (dsimp only at *; omega) | (simp at *; omega)))) | exact H3 prev b19 V.ad V.cp bs W.ad W.cp ds _ hgy hvs hsh
          · refine xr_end rfl ?_
            refine th_n ?_
            refine xc_false rfl ?_
            refine xc_skip ?_
            refine th_n ?_
            refine xc_region ?_
            have hnm : ¬ (vecR (roomR y.coals.length y.moves k prev) (opn y.moves).1 xo.tons).2 > 0 := by (first | omega | (dsimp only at *; omega) | (simp at *; omega))
            have hst : opn (y.moves.take (k + 1)) = ((opn (y.moves.take k)).1, -1) := by rw [opn_take hko]; unfold stepO; rw [if_pos (by (first | omega | (dsimp only at *; omega) | (simp at *; omega)))]
            have e27 : (ds ++ [(⟨U.ad, nzF (vF (roomR y.coals.length y.moves k prev) xo.tons) bs.length, U.cp⟩ : PH)]).flatMap ePH = ds.flatMap ePH ++ [.slice U.ad (nzF (vF (roomR y.coals.length y.moves k prev) xo.tons) bs.length).length U.cp] := by simp [ePH]
            have hlend : layHp bs (layF y.moves k (lfJ (roomR y.coals.length y.moves k prev) xo.tons bs.length)) = layHp bs (layF y.moves (k + 1) (roomR y.coals.length y.moves (k + 1) (prev ++ [(vecR (roomR y.coals.length y.moves k prev) (opn y.moves).1 xo.tons).1]))) := layHp_congr (fun i hi => layF_drawn hko (by (first | omega | (dsimp only at *; omega) | (simp at *; omega))) (lfJ_end hmv hko (by (first | omega | (dsimp only at *; omega) | (simp at *; omega))) hi (by omega)))
            refine xr_op rfl rfl (xv_move rfl ?_)
            refine xr_op rfl rfl (xv_move rfl ?_)
            refine xr_op rfl rfl (xv_nilp rfl ?_)
            refine xr_op rfl rfl (xv_faddr fl73_2 rfl ?_)
            refine xr_op rfl rfl (xv_load1 ty71 rfl rfl (by ((repeat first|exact z_0|assumption|refine z_1 ?_|(refine z_l ?_;(repeat first|exact z_0|assumption|refine z_1 ?_);done)|refine z_r ?_);done)) (by rfl) ?_)
            refine xr_op rfl rfl (xv_move rfl ?_)
            refine xr_op rfl rfl ((al_buildSlice sl71 ty39 rfl rfl rfl rfl rfl (by ((try apply evl_some rfl);(repeat (first|exact (rfl : _ = [])|apply evl_cons rfl (by (first|exact v_1|exact v_2|exact v_3|exact v_4|exact v_5|exact v_6|exact v_7|exact v_8|exact v_9|exact rfl))|exact rfl))))).xv (fun b129 hb129 => ?_))
            refine xr_op rfl rfl (xv_append (V := W) (n := ds.length) (xs := ds.flatMap ePH) sl71 ty39 rfl (by rw [Vec.val_ad hW]; rfl) rfl hW (.there (.skip (.there (.there (.skip .here))))) (by ((repeat first|exact z_0|assumption|refine z_1 ?_|(refine z_l ?_;(repeat first|exact z_0|assumption|refine z_1 ?_);done)|refine z_r ?_);done)) (by ((try apply evl_some rfl);(repeat (first|exact (rfl : _ = [])|apply evl_cons rfl (by (first|exact v_1|exact v_2|exact v_3|exact v_4|exact v_5|exact v_6|exact v_7|exact v_8|exact v_9|exact rfl))|exact rfl)))) rfl rfl (by (first | omega | (dsimp only at *; omega) | (simp at *; omega))) (by simp only []; (first | omega | (dsimp only at *; omega) | (simp at *; omega))) (by (first | omega | (dsimp only at *; omega) | (simp at *; omega))) (fun W2 hW2 => ?_))
            rw [Vec.val_ad hW2]
            refine xr_op rfl rfl (xv_nilp rfl ?_)
            refine xr_op rfl rfl (xv_faddr fl73_2 rfl ?_)
            refine xr_op rfl rfl (xv_s1 ty71 rfl rfl rfl (by (first|(apply u_3;(repeat first|exact u_0|assumption|apply u_1|apply u_2);done)|((repeat first|exact u_0|assumption|apply u_1|apply u_2);done)|(apply u_3;apply u_3;(repeat first|exact u_0|assumption|apply u_1|apply u_2);done)|((repeat first|exact u_0|assumption|apply u_3|apply u_1);done))) (by (first | rfl | exact Vec.one _ _)) (by (first | decide | exact Nat.le_of_ble_eq_true rfl | (simp only [List.length_cons, List.length_nil]; omega) | (simp; done))) (by ((try apply evl_some rfl);(repeat (first|exact (rfl : _ = [])|apply evl_cons rfl (by (first|exact v_1|exact v_2|exact v_3|exact v_4|exact v_5|exact v_6|exact v_7|exact v_8|exact v_9|exact rfl))|exact rfl)))) ?_)
            refine xr_end rfl ?_
            refine bk_n ?_
            refine th_n ?_
            refine xc_region ?_
            refine XR.perm permB.symm ?_
            refine xr_op rfl rfl (xv_add rfl rfl (wrap_i64 (by (first | omega | (dsimp only at *; omega) | (simp at *; omega))) (by (first | omega | (dsimp only at *; omega) | (simp at *; omega)))) ?_)
            refine xr_op rfl rfl (xv_move rfl ?_)
            refine xr_end rfl ?_
            exact rnd ((k + 1, prev ++ [(vecR (roomR y.coals.length y.moves k prev) (opn y.moves).1 xo.tons).1], bs, V, ds ++ [⟨U.ad, nzF (vF (roomR y.coals.length y.moves k prev) xo.tons) bs.length, U.cp⟩], W2, U.hp 43 ((nzF (vF (roomR y.coals.length y.moves k prev) xo.tons) bs.length).flatMap ePart) ++ P) : Nat × List (List Int) × List Nat × Vec × List PH × Vec × Hp) ⟨by (first | omega | (dsimp only at *; omega) | (simp at *; omega)), hP.more hmv hko (by (first | omega | (dsimp only at *; omega) | (simp at *; omega))) hnm, by rw [hst]; exact hbl, hV, by dsimp only; rw [List.length_append, e27]; exact hW2, by dsimp only; rw [List.map_append, List.map_append, hD, List.map_singleton, List.map_singleton, hnz], fun w hw => by
              rcases List.mem_append.1 hw with hw | hw
              · exact (hS w hw).sub (fun z hz => List.mem_append_right _ hz)
              · rw [List.mem_singleton.1 hw]; exact (Vec.slvA ePart_len rfl hU).sub (fun z hz => List.mem_append_left _ hz)⟩ (by (first | omega | (dsimp only at *; omega) | (simp at *; omega))) (le_put (le_put (le_put (le_put (le_put (le_put (le_emp _) rfl) rfl) (by rw [hst]; rfl)) rfl) rfl) rfl) (by dsimp only; rw [List.length_append, e27, ← hlend]; (first|((repeat first|exact s_0|exact s_1|exact s_3|refine s_4 ?_|refine s_5 ?_|refine s_6 ?_|refine s_7 ?_);done)|((repeat first|exact s_0|exact s_1|exact s_3|refine s_4 ?_|refine s_5 ?_|refine s_6 ?_|refine s_8 ?_);done)))
    · refine xr_end rfl ?_
      refine th_n ?_
      refine xc_seq ?_
      refine xc_false rfl ?_
      refine xc_exit ?_
      refine th_x ?_
      refine th_x ?_
      refine bk_same ?_
      refine th_n ?_
      refine xc_seq (xc_region ?_)
      obtain rfl : y.moves.length = k := by (first | omega | (dsimp only at *; omega) | (simp at *; omega))
      have hvs : vecsR y = some prev := hP.is
      have hsh : ShedV ((b19, .cells ⟨[.slice y.ca y.coals.length y.cc, .slice V.ad bs.length V.cp, .slice W.ad ds.length W.cp]⟩ 73) :: (V.hp 105 (bs.flatMap eLp) ++ (W.hp 39 (ds.flatMap ePH) ++ (layHp bs (layF y.moves y.moves.length (roomR y.coals.length y.moves y.moves.length prev)) ++ P)))) y prev b19 V.ad V.cp bs W.ad W.cp ds := by
        refine ⟨List.mem_cons_self, (Vec.slvA (t := 105) eLp_len rfl hV).sub (by intro z hz; ((repeat first|exact z_0|assumption|refine z_1 ?_|(refine z_l ?_;(repeat first|exact z_0|assumption|refine z_1 ?_);done)|refine z_r ?_);done)), fun i c hc => ?_, by rw [hbl, List.take_length], (Vec.slvA (t := 39) ePH_len rfl hW).sub (by intro z hz; ((repeat first|exact z_0|assumption|refine z_1 ?_|(refine z_l ?_;(repeat first|exact z_0|assumption|refine z_1 ?_);done)|refine z_r ?_);done)), vec_cap hW, fun z hz => (hS z hz).sub (fun x hx => ?_), hD, hP⟩
        · have := layHp_mem (f := layF y.moves y.moves.length (roomR y.coals.length y.moves y.moves.length prev)) hc
          exact z_1 (z_r (z_r (z_l this)))
        · exact z_1 (z_r (z_r (z_r hx)))
      refine xr_op rfl rfl (xv_move rfl ?_)
      refine xr_op rfl rfl (xv_assign rfl ?_)
      refine xr_op rfl rfl (xv_assign rfl ?_)
      refine xr_end rfl ?_
      refine th_n ?_
      refine xc_ret ?_
      refine sc_r ?_
      refine body_ret (h' := (((b19, .cells ⟨[.slice y.ca y.coals.length y.cc, .slice V.ad bs.length V.cp, .slice W.ad ds.length W.cp]⟩ 73) :: (V.hp 105 (bs.flatMap eLp) ++ (W.hp 39 (ds.flatMap ePH) ++ (layHp bs (layF y.moves y.moves.length (roomR y.coals.length y.moves y.moves.length prev)) ++ P)))) ++ h)) rfl (ro_tmp rfl (ro_tmp rfl ro_nil)) (by first | (first|((repeat first|exact s_0|exact s_1|exact s_3|refine s_4 ?_|refine s_5 ?_|refine s_6 ?_|refine s_7 ?_);done)|((repeat first|exact s_0|exact s_1|exact s_3|refine s_4 ?_|refine s_5 ?_|refine s_6 ?_|refine s_8 ?_);done)) | (simp only [List.cons_append, List.append_assoc]; (first|((repeat first|exact s_0|exact s_1|exact s_3|refine s_4 ?_|refine s_5 ?_|refine s_6 ?_|refine s_7 ?_);done)|((repeat first|exact s_0|exact s_1|exact s_3|refine s_4 ?_|refine s_5 ?_|refine s_6 ?_|refine s_8 ?_);done)))) ?_
      first | exact H1 hgy | exact H2 hgy (parts_end (parts_bad hP.is hko (by (first | omega | (dsimp only at *; omega) | (simp at *; omega))) (by (first | omega | (dsimp only at *; omega) | (simp at *; omega)))) (by (first | omega | (dsimp only at *; omega) | (simp at *; omega)))) | exact H3 prev b19 V.ad V.cp bs W.ad W.cp ds _ hgy hvs hsh
  · refine xr_op rfl rfl (xv_not rfl ?_)
    refine xr_end rfl ?_
    refine th_n ?_
    refine xc_true rfl ?_
    refine xc_seq (xc_region ?_)
    refine xr_op rfl rfl (xv_assign rfl ?_)
    refine xr_op rfl rfl (xv_assign rfl ?_)
    refine xr_end rfl ?_
    refine th_n ?_
    refine xc_ret ?_
    refine th_r ?_
    refine sc_r ?_
    refine body_ret (h' := h) rfl (ro_tmp rfl (ro_tmp rfl ro_nil)) (by first | (first|((repeat first|exact s_0|exact s_1|exact s_3|refine s_4 ?_|refine s_5 ?_|refine s_6 ?_|refine s_7 ?_);done)|((repeat first|exact s_0|exact s_1|exact s_3|refine s_4 ?_|refine s_5 ?_|refine s_6 ?_|refine s_8 ?_);done)) | (simp only [List.cons_append, List.append_assoc]; (first|((repeat first|exact s_0|exact s_1|exact s_3|refine s_4 ?_|refine s_5 ?_|refine s_6 ?_|refine s_7 ?_);done)|((repeat first|exact s_0|exact s_1|exact s_3|refine s_4 ?_|refine s_5 ?_|refine s_6 ?_|refine s_8 ?_);done)))) ?_
    first | exact H1 hgy | exact H2 hgy (parts_end (parts_bad hP.is hko (by (first | omega | (dsimp only at *; omega) | (simp at *; omega))) (by (first | omega | (dsimp only at *; omega) | (simp at *; omega)))) (by (first | omega | (dsimp only at *; omega) | (simp at *; omega)))) | exact H3 prev b19 V.ad V.cp bs W.ad W.cp ds _ hgy hvs hsh

end Go.Proofs.Ytpefpafijadfmaa
