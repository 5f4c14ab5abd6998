/-
  Walks.
-/
import Derived.Test.YtlpkiolopelpfaaDoorW13
import Derived.Test.YtlpkiolopelpfaaDoorP8
import Derived.Test.YtlpkiolopelpfaaDoorD
import Derived.Test.YtlpkiolopelpfaaDoorW1
import Derived.Test.YtlpkiolopelpfaaDoorHV
namespace Go.Proofs.YtlpkiolopelpfaaDoor
open Go Go.H
set_option maxRecDepth 100000
set_option maxHeartbeats 8000000
set_option linter.all false
theorem RLog_c {xs : List Sight} {a : Option Addr} {c : Nat} {h : Hp} {R : Ending → Hp → Prop} (hs : SlV h 2 eSight a xs) (hl : xs.length ≤ 1000000) (H : R (.returned (I (errL 60 sightOk ltSight xs))) h) : ACalls Tryd.prog 26 ⟨[.slice a xs.length c]⟩ h R := by
  refine calls_of_xc (N := 48) Tryd.func26 rfl (by rfl) ?_
  refine xc_seq (xc_region ?_)
  refine xr_op rfl rfl (xv_assign rfl ?_)
  refine xr_end rfl ?_
  refine th_n ?_
  refine xc_seq ?_
  refine xc_seq (xc_region ?_)
  refine xr_op rfl rfl (xv_move rfl ?_)
  refine xr_op rfl rfl (xv_len sl22 rfl ?_)
  refine xr_op rfl rfl (xv_gtr2 rfl rfl (fun q1 => ?_) (fun q1 => ?_))
  · refine xr_end rfl ?_
    refine th_n ?_
    refine xc_true rfl ?_
    refine xc_seq (xc_region ?_)
    refine xr_op rfl rfl (xv_assign rfl ?_)
    refine xr_end rfl ?_
    refine th_n ?_
    refine xc_ret ?_
    refine th_r ?_
    refine body_ret (h' := h) rfl (ro_tmp rfl ro_nil) (by (first|((repeat first|exact s_0|exact s_1|exact s_3|refine s_4 ?_|refine s_5 ?_|refine s_6 ?_|refine s_7 ?_);done)|((repeat first|exact s_0|exact s_1|exact s_3|refine s_4 ?_|refine s_5 ?_|refine s_6 ?_|refine s_8 ?_);done))) ?_
    first | (rw [errL_3 (by (first|omega|(dsimp only at *;omega)|(simp at *;omega)))] at H; exact H) | (rw [errL_1 (by (first|omega|(dsimp only at *;omega)|(simp at *;omega))) (fun hq9 => by obtain ⟨⟨h1, h2⟩, h3, h4⟩ := hq9 xo (List.mem_of_getElem? hko); (first|omega|(dsimp only at *;omega)|(simp at *;omega)))] at H; exact H) | (rw [errL_7 (by (first|omega|(dsimp only at *;omega)|(simp at *;omega))) hok (Asc.not (lt := ltSight) hkp (by rw [← hj]; exact hko) (by show ¬ (_ < _); (first|omega|(dsimp only at *;omega)|(simp at *;omega))))] at H; exact H) | (rw [errL_0 (by (first|omega|(dsimp only at *;omega)|(simp at *;omega))) hok (fun i9 a9 b9 h9 => hasc i9 a9 b9 (by (first|omega|(dsimp only at *;omega)|(simp at *;omega))))] at H; exact H)
  · refine xr_end rfl ?_
    refine th_n ?_
    refine xc_false rfl ?_
    refine xc_skip ?_
    refine th_n ?_
    refine xc_seq ?_
    refine xc_seq (xc_region ?_)
    refine xr_op rfl rfl (xv_assign rfl ?_)
    refine xr_end rfl ?_
    refine th_n ?_
    refine xc_block ?_
    refine xc_loop (σ := Nat) (fun k => k ≤ xs.length ∧ ∀ x ∈ xs.take k, sightOk x) (fun k => ((emp.put (some 0) (.slice a xs.length c)).put (some 3) (I k))) (fun k => h) (fun k => xs.length - k) 0 ⟨Nat.zero_le _, fun x hx => by simp at hx⟩ (le_put (le_put (le_emp _) rfl) rfl) (by (first|((repeat first|exact s_0|exact s_1|exact s_3|refine s_4 ?_|refine s_5 ?_|refine s_6 ?_|refine s_7 ?_);done)|((repeat first|exact s_0|exact s_1|exact s_3|refine s_4 ?_|refine s_5 ?_|refine s_6 ?_|refine s_8 ?_);done))) ?_
    rintro k ⟨hk, hok⟩
    refine xc_seq ?_
    refine xc_seq (xc_region ?_)
    refine xr_op rfl rfl (xv_move rfl ?_)
    refine xr_op rfl rfl (xv_move rfl ?_)
    refine xr_op rfl rfl (xv_len sl22 rfl ?_)
    refine xr_op rfl rfl (xv_lss2 rfl rfl (fun q2 => ?_) (fun q2 => ?_))
    · refine xr_end rfl ?_
      refine th_n ?_
      refine xc_true rfl ?_
      refine xc_skip ?_
      refine th_n ?_
      refine xc_seq ?_
      refine xc_block ?_
      refine xc_seq (xc_region ?_)
      have hlto : k < xs.length := by (first|omega|(dsimp only at *;omega)|(simp at *;omega))
      obtain ⟨bo, oo, lo, to, fzo, hao, hmo, hxo⟩ := (hs).at hlto
      obtain ⟨xo, hko⟩ : ∃ qq_, xs[k]? = some qq_ := ⟨_, List.getElem?_eq_getElem hlto⟩
      refine xr_op rfl rfl (xv_move rfl ?_)
      refine xr_op rfl rfl (xv_move rfl ?_)
      refine xr_op rfl rfl (xv_ia (sz := 2) (j := k) sl22 ty44 rfl (by rw [hao]; rfl) rfl (by (first | assumption | with_reducible exact Int.toNat_natCast _ | with_reducible rfl | rfl)) (by (first|omega|(dsimp only at *;omega)|(simp at *;omega))) (by (first|omega|(dsimp only at *;omega)|(simp at *;omega))) ?_)
      refine xr_op rfl rfl (xv_faddr fl44_0 rfl ?_)
      refine xr_op rfl rfl (xv_load1 ty3 rfl rfl (by ((repeat first|exact z_0|assumption|refine z_1 ?_|(refine z_l ?_;(repeat first|exact z_0|assumption|refine z_1 ?_);done)|refine z_r ?_);done)) (take_get (hxo (k) xo hko) (j := 0) rfl) ?_)
      refine xr_op rfl rfl (xv_calls rfl hb53 (in_c _ _ _ (fun hl3 hu4 => up_ret ?_) (fun hn5 => up_ret ?_)))
      · refine xr_op rfl rfl (xv_not rfl ?_)
        refine xr_op rfl rfl (xv_move rfl ?_)
        refine xr_gd rfl rfl rfl (xv_move rfl ?_)
        refine xr_gd rfl rfl rfl (xv_move rfl ?_)
        refine xr_gd rfl rfl rfl (xv_ia (sz := 2) (j := k) sl22 ty44 rfl (by rw [hao]; rfl) rfl (by (first | assumption | with_reducible exact Int.toNat_natCast _ | with_reducible rfl | rfl)) (by (first|omega|(dsimp only at *;omega)|(simp at *;omega))) (by (first|omega|(dsimp only at *;omega)|(simp at *;omega))) ?_)
        refine xr_gd rfl rfl rfl (xv_faddr fl44_1 rfl ?_)
        refine xr_gd rfl rfl rfl (xv_load1 ty3 rfl rfl (by ((repeat first|exact z_0|assumption|refine z_1 ?_|(refine z_l ?_;(repeat first|exact z_0|assumption|refine z_1 ?_);done)|refine z_r ?_);done)) (take_get (hxo (k) xo hko) (j := 1) rfl) ?_)
        refine xr_gd rfl rfl rfl (xv_calls rfl hb53 (in_c _ _ _ (fun hl6 hu7 => up_ret ?_) (fun hn8 => up_ret ?_)))
        · refine xr_gd rfl rfl rfl (xv_not rfl ?_)
          refine xr_op rfl rfl (xv_pick rfl rfl ?_)
          refine xr_end rfl ?_
          refine th_n ?_
          refine xc_false rfl ?_
          refine xc_skip ?_
          refine bk_n ?_
          refine th_n ?_
          refine xc_region ?_
          refine xr_op rfl rfl (xv_move rfl ?_)
          refine xr_op rfl rfl (xv_add rfl rfl (wrap_i64 (by (first|omega|(dsimp only at *;omega)|(simp at *;omega))) (by (first|omega|(dsimp only at *;omega)|(simp at *;omega)))) ?_)
          refine xr_op rfl rfl (xv_assign rfl ?_)
          refine xr_end rfl ?_
          exact rnd (k + 1) ⟨by (first|omega|(dsimp only at *;omega)|(simp at *;omega)), take_ok hko hok ⟨by (first|omega|(dsimp only at *;omega)|(simp at *;omega)), by (first|omega|(dsimp only at *;omega)|(simp at *;omega))⟩⟩ (by (first|omega|(dsimp only at *;omega)|(simp at *;omega))) (le_put (le_put (le_emp _) rfl) rfl) (by (first|((repeat first|exact s_0|exact s_1|exact s_3|refine s_4 ?_|refine s_5 ?_|refine s_6 ?_|refine s_7 ?_);done)|((repeat first|exact s_0|exact s_1|exact s_3|refine s_4 ?_|refine s_5 ?_|refine s_6 ?_|refine s_8 ?_);done)))
        · refine xr_gd rfl rfl rfl (xv_not rfl ?_)
          refine xr_op rfl rfl (xv_pick rfl rfl ?_)
          refine xr_end rfl ?_
          refine th_n ?_
          refine xc_true rfl ?_
          refine xc_seq (xc_region ?_)
          refine xr_op rfl rfl (xv_assign rfl ?_)
          refine xr_end rfl ?_
          refine th_n ?_
          refine xc_ret ?_
          refine bk_r ?_
          refine th_r ?_
          refine th_r ?_
          refine bk_r ?_
          refine th_r ?_
          refine body_ret (h' := h) rfl (ro_tmp rfl ro_nil) (by (first|((repeat first|exact s_0|exact s_1|exact s_3|refine s_4 ?_|refine s_5 ?_|refine s_6 ?_|refine s_7 ?_);done)|((repeat first|exact s_0|exact s_1|exact s_3|refine s_4 ?_|refine s_5 ?_|refine s_6 ?_|refine s_8 ?_);done))) ?_
          first | (rw [errL_3 (by (first|omega|(dsimp only at *;omega)|(simp at *;omega)))] at H; exact H) | (rw [errL_1 (by (first|omega|(dsimp only at *;omega)|(simp at *;omega))) (fun hq9 => by obtain ⟨⟨h1, h2⟩, h3, h4⟩ := hq9 xo (List.mem_of_getElem? hko); (first|omega|(dsimp only at *;omega)|(simp at *;omega)))] at H; exact H) | (rw [errL_7 (by (first|omega|(dsimp only at *;omega)|(simp at *;omega))) hok (Asc.not (lt := ltSight) hkp (by rw [← hj]; exact hko) (by show ¬ (_ < _); (first|omega|(dsimp only at *;omega)|(simp at *;omega))))] at H; exact H) | (rw [errL_0 (by (first|omega|(dsimp only at *;omega)|(simp at *;omega))) hok (fun i9 a9 b9 h9 => hasc i9 a9 b9 (by (first|omega|(dsimp only at *;omega)|(simp at *;omega))))] at H; exact H)
      · refine xr_op rfl rfl (xv_not rfl ?_)
        refine xr_op rfl rfl (xv_move rfl ?_)
        refine xr_no rfl rfl rfl rfl ?_
        refine xr_no rfl rfl rfl rfl ?_
        refine xr_no rfl rfl rfl rfl ?_
        refine xr_no rfl rfl rfl rfl ?_
        refine xr_no rfl rfl rfl rfl ?_
        refine xr_no rfl rfl rfl rfl ?_
        refine xr_no rfl rfl rfl rfl ?_
        refine xr_op rfl rfl (xv_pick rfl rfl ?_)
        refine xr_end rfl ?_
        refine th_n ?_
        refine xc_true rfl ?_
        refine xc_seq (xc_region ?_)
        refine xr_op rfl rfl (xv_assign rfl ?_)
        refine xr_end rfl ?_
        refine th_n ?_
        refine xc_ret ?_
        refine bk_r ?_
        refine th_r ?_
        refine th_r ?_
        refine bk_r ?_
        refine th_r ?_
        refine body_ret (h' := h) rfl (ro_tmp rfl ro_nil) (by (first|((repeat first|exact s_0|exact s_1|exact s_3|refine s_4 ?_|refine s_5 ?_|refine s_6 ?_|refine s_7 ?_);done)|((repeat first|exact s_0|exact s_1|exact s_3|refine s_4 ?_|refine s_5 ?_|refine s_6 ?_|refine s_8 ?_);done))) ?_
        first | (rw [errL_3 (by (first|omega|(dsimp only at *;omega)|(simp at *;omega)))] at H; exact H) | (rw [errL_1 (by (first|omega|(dsimp only at *;omega)|(simp at *;omega))) (fun hq9 => by obtain ⟨⟨h1, h2⟩, h3, h4⟩ := hq9 xo (List.mem_of_getElem? hko); (first|omega|(dsimp only at *;omega)|(simp at *;omega)))] at H; exact H) | (rw [errL_7 (by (first|omega|(dsimp only at *;omega)|(simp at *;omega))) hok (Asc.not (lt := ltSight) hkp (by rw [← hj]; exact hko) (by show ¬ (_ < _); (first|omega|(dsimp only at *;omega)|(simp at *;omega))))] at H; exact H) | (rw [errL_0 (by (first|omega|(dsimp only at *;omega)|(simp at *;omega))) hok (fun i9 a9 b9 h9 => hasc i9 a9 b9 (by (first|omega|(dsimp only at *;omega)|(simp at *;omega))))] at H; exact H)
    · refine xr_end rfl ?_
      refine th_n ?_
      refine xc_false rfl ?_
      refine xc_exit ?_
      refine th_x ?_
      refine th_x ?_
      refine bk_same ?_
      refine th_n ?_
      refine xc_seq ?_
      refine xc_seq (xc_region ?_)
      refine xr_op rfl rfl (xv_assign rfl ?_)
      refine xr_end rfl ?_
      refine th_n ?_
      refine xc_block ?_
      obtain rfl : k = xs.length := by (first|omega|(dsimp only at *;omega)|(simp at *;omega))
      rw [List.take_length] at hok
      refine xc_loop (σ := Nat) (fun k => (1 ≤ k ∧ (k ≤ xs.length ∨ k = 1)) ∧ Asc ltSight xs k) (fun k => ((emp.put (some 0) (.slice a xs.length c)).put (some 4) (I k))) (fun k => h) (fun k => xs.length + 1 - k) 1 ⟨⟨Nat.le_refl _, .inr rfl⟩, Asc.zero.step fun i a9 b9 h9 => by omega⟩ (le_put (le_put (le_emp _) rfl) rfl) (by (first|((repeat first|exact s_0|exact s_1|exact s_3|refine s_4 ?_|refine s_5 ?_|refine s_6 ?_|refine s_7 ?_);done)|((repeat first|exact s_0|exact s_1|exact s_3|refine s_4 ?_|refine s_5 ?_|refine s_6 ?_|refine s_8 ?_);done))) ?_
      rintro k ⟨⟨hk1, hk⟩, hasc⟩
      refine xc_seq ?_
      refine xc_seq (xc_region ?_)
      refine xr_op rfl rfl (xv_move rfl ?_)
      refine xr_op rfl rfl (xv_move rfl ?_)
      refine xr_op rfl rfl (xv_len sl22 rfl ?_)
      refine xr_op rfl rfl (xv_lss2 rfl rfl (fun q9 => ?_) (fun q9 => ?_))
      · refine xr_end rfl ?_
        refine th_n ?_
        refine xc_true rfl ?_
        refine xc_skip ?_
        refine th_n ?_
        refine xc_seq ?_
        refine xc_block ?_
        refine xc_seq ?_
        refine xc_draw0 [(0, .S), (1, .S), (2, .S), (3, .S), (4, .R), (5, .S), (6, .S), (7, .S), (8, .S), (9, .S), (10, .R), (11, .O)] mixed (by kernel_rfl) ?_
        have hlto : k < xs.length := by (first|omega|(dsimp only at *;omega)|(simp at *;omega))
        obtain ⟨bo, oo, lo, to, fzo, hao, hmo, hxo⟩ := (hs).at hlto
        obtain ⟨xo, hko⟩ : ∃ qq_, xs[k]? = some qq_ := ⟨_, List.getElem?_eq_getElem hlto⟩
        obtain ⟨j, hj⟩ : ∃ j, k = j + 1 := ⟨k - 1, by (first|omega|(dsimp only at *;omega)|(simp at *;omega))⟩
        have hltp : j < xs.length := by (first|omega|(dsimp only at *;omega)|(simp at *;omega))
        obtain ⟨bp, op, lp, tp, fzp, hap, hmp, hxp⟩ := (hs).at hltp
        obtain ⟨xp, hkp⟩ : ∃ qq_, xs[j]? = some qq_ := ⟨_, List.getElem?_eq_getElem hltp⟩
        refine js_S rfl rfl (.inl rfl) (xv_move rfl ⟨rfl, rfl⟩) ?_
        refine js_S rfl rfl (.inl rfl) (xv_move rfl ⟨rfl, rfl⟩) ?_
        refine js_S rfl rfl (.inl rfl) (xv_ia (sz := 2) (j := k) sl22 ty44 rfl (by rw [hao]; rfl) rfl (by (first | assumption | with_reducible exact Int.toNat_natCast _ | with_reducible rfl | rfl)) (by (first|omega|(dsimp only at *;omega)|(simp at *;omega))) (by (first|omega|(dsimp only at *;omega)|(simp at *;omega))) ⟨rfl, rfl⟩) ?_
        refine js_S rfl rfl (.inl rfl) (xv_faddr fl44_0 rfl ⟨rfl, rfl⟩) ?_
        refine js_R0 rfl rfl (.inl rfl) (xv_load1 ty3 rfl rfl (by ((repeat first|exact z_0|assumption|refine z_1 ?_|(refine z_l ?_;(repeat first|exact z_0|assumption|refine z_1 ?_);done)|refine z_r ?_);done)) (take_get (hxo (k) xo hko) (j := 0) rfl) ⟨rfl, rfl⟩) ?_
        refine js_S rfl rfl (.inl rfl) (xv_move rfl ⟨rfl, rfl⟩) ?_
        refine js_S rfl rfl (.inl rfl) (xv_move rfl ⟨rfl, rfl⟩) ?_
        refine js_S rfl rfl (.inl rfl) (xv_sub rfl rfl (wrap_i64 (by (first|omega|(dsimp only at *;omega)|(simp at *;omega))) (by (first|omega|(dsimp only at *;omega)|(simp at *;omega)))) ⟨rfl, rfl⟩) ?_
        refine js_S rfl rfl (.inl rfl) (xv_ia (sz := 2) (j := j) sl22 ty44 rfl (by rw [hap]; rfl) rfl (by omega) (by (first|omega|(dsimp only at *;omega)|(simp at *;omega))) (by (first|omega|(dsimp only at *;omega)|(simp at *;omega))) ⟨rfl, rfl⟩) ?_
        refine js_S rfl rfl (.inl rfl) (xv_faddr fl44_0 rfl ⟨rfl, rfl⟩) ?_
        refine js_R0 rfl rfl (.inl rfl) (xv_load1 ty3 rfl rfl (by ((repeat first|exact z_0|assumption|refine z_1 ?_|(refine z_l ?_;(repeat first|exact z_0|assumption|refine z_1 ?_);done)|refine z_r ?_);done)) (take_get (hxp (j) xp hkp) (j := 0) rfl) ⟨rfl, rfl⟩) ?_
        refine js_O0 rfl rfl (.inl rfl) (xv_leq2 rfl rfl (fun hq => ?_) (fun hq => ?_))
        · refine j_end0 ?_
          refine th_n ?_
          refine xc_true rfl ?_
          refine xc_seq (xc_region ?_)
          refine xr_op rfl rfl (xv_assign rfl ?_)
          refine xr_end rfl ?_
          refine th_n ?_
          refine xc_ret ?_
          refine bk_r ?_
          refine th_r ?_
          refine th_r ?_
          refine bk_r ?_
          refine th_r ?_
          refine body_ret (h' := h) rfl (ro_tmp rfl ro_nil) (by (first|((repeat first|exact s_0|exact s_1|exact s_3|refine s_4 ?_|refine s_5 ?_|refine s_6 ?_|refine s_7 ?_);done)|((repeat first|exact s_0|exact s_1|exact s_3|refine s_4 ?_|refine s_5 ?_|refine s_6 ?_|refine s_8 ?_);done))) ?_
          first | (rw [errL_3 (by (first|omega|(dsimp only at *;omega)|(simp at *;omega)))] at H; exact H) | (rw [errL_1 (by (first|omega|(dsimp only at *;omega)|(simp at *;omega))) (fun hq9 => by obtain ⟨⟨h1, h2⟩, h3, h4⟩ := hq9 xo (List.mem_of_getElem? hko); (first|omega|(dsimp only at *;omega)|(simp at *;omega)))] at H; exact H) | (rw [errL_7 (by (first|omega|(dsimp only at *;omega)|(simp at *;omega))) hok (Asc.not (lt := ltSight) hkp (by rw [← hj]; exact hko) (by show ¬ (_ < _); (first|omega|(dsimp only at *;omega)|(simp at *;omega))))] at H; exact H) | (rw [errL_0 (by (first|omega|(dsimp only at *;omega)|(simp at *;omega))) hok (fun i9 a9 b9 h9 => hasc i9 a9 b9 (by (first|omega|(dsimp only at *;omega)|(simp at *;omega))))] at H; exact H)
        · refine j_end0 ?_
          refine th_n ?_
          refine xc_false rfl ?_
          refine xc_skip ?_
          refine bk_n ?_
          refine th_n ?_
          refine xc_region ?_
          refine xr_op rfl rfl (xv_move rfl ?_)
          refine xr_op rfl rfl (xv_add rfl rfl (wrap_i64 (by (first|omega|(dsimp only at *;omega)|(simp at *;omega))) (by (first|omega|(dsimp only at *;omega)|(simp at *;omega)))) ?_)
          refine xr_op rfl rfl (xv_assign rfl ?_)
          refine xr_end rfl ?_
          exact rnd (k + 1) ⟨⟨by (first|omega|(dsimp only at *;omega)|(simp at *;omega)), by (first|omega|(dsimp only at *;omega)|(simp at *;omega))⟩, hasc.step fun i9 a9 b9 hi9 ha9 hb9 => by (obtain rfl : i9 = j := by omega); rw [hkp] at ha9; rw [show i9 + 1 = k by omega, hko] at hb9; cases ha9; cases hb9; show _ < _; (first|omega|(dsimp only at *;omega)|(simp at *;omega))⟩ (by (first|omega|(dsimp only at *;omega)|(simp at *;omega))) (le_put (le_put (le_emp _) rfl) rfl) (by (first|((repeat first|exact s_0|exact s_1|exact s_3|refine s_4 ?_|refine s_5 ?_|refine s_6 ?_|refine s_7 ?_);done)|((repeat first|exact s_0|exact s_1|exact s_3|refine s_4 ?_|refine s_5 ?_|refine s_6 ?_|refine s_8 ?_);done)))
      · refine xr_end rfl ?_
        refine th_n ?_
        refine xc_false rfl ?_
        refine xc_exit ?_
        refine th_x ?_
        refine th_x ?_
        refine bk_same ?_
        refine th_n ?_
        refine xc_seq (xc_region ?_)
        refine xr_op rfl rfl (xv_assign rfl ?_)
        refine xr_end rfl ?_
        refine th_n ?_
        refine xc_ret ?_
        refine body_ret (h' := h) rfl (ro_tmp rfl ro_nil) (by (first|((repeat first|exact s_0|exact s_1|exact s_3|refine s_4 ?_|refine s_5 ?_|refine s_6 ?_|refine s_7 ?_);done)|((repeat first|exact s_0|exact s_1|exact s_3|refine s_4 ?_|refine s_5 ?_|refine s_6 ?_|refine s_8 ?_);done))) ?_
        first | (rw [errL_3 (by (first|omega|(dsimp only at *;omega)|(simp at *;omega)))] at H; exact H) | (rw [errL_1 (by (first|omega|(dsimp only at *;omega)|(simp at *;omega))) (fun hq9 => by obtain ⟨⟨h1, h2⟩, h3, h4⟩ := hq9 xo (List.mem_of_getElem? hko); (first|omega|(dsimp only at *;omega)|(simp at *;omega)))] at H; exact H) | (rw [errL_7 (by (first|omega|(dsimp only at *;omega)|(simp at *;omega))) hok (Asc.not (lt := ltSight) hkp (by rw [← hj]; exact hko) (by show ¬ (_ < _); (first|omega|(dsimp only at *;omega)|(simp at *;omega))))] at H; exact H) | (rw [errL_0 (by (first|omega|(dsimp only at *;omega)|(simp at *;omega))) hok (fun i9 a9 b9 h9 => hasc i9 a9 b9 (by (first|omega|(dsimp only at *;omega)|(simp at *;omega))))] at H; exact H)

theorem RSum_c {xs : List Sight} {a : Option Addr} {c : Nat} {h : Hp} {R : Ending → Hp → Prop} (hs : SlV h 2 eSight a xs) (hok : ∀ x ∈ xs, sightOk x) (hl : xs.length ≤ 60) (H : R (.returned (I (chk xs xs.length % 61))) h) : ACalls Tryd.prog 54 ⟨[.slice a xs.length c]⟩ h R := by
  refine calls_of_xc (N := 29) Tryd.func54 rfl (by rfl) ?_
  refine xc_seq (xc_region ?_)
  refine xr_op rfl rfl (xv_assign rfl ?_)
  refine xr_end rfl ?_
  refine th_n ?_
  refine xc_seq (xc_region ?_)
  refine xr_op rfl rfl (xv_assign rfl ?_)
  refine xr_end rfl ?_
  refine th_n ?_
  refine xc_seq ?_
  refine xc_seq (xc_region ?_)
  refine xr_op rfl rfl (xv_assign rfl ?_)
  refine xr_end rfl ?_
  refine th_n ?_
  refine xc_block ?_
  refine xc_loop (σ := Nat) (fun k => k ≤ xs.length) (fun k => (((emp.put (some 0) (.slice a xs.length c)).put (some 3) (I (chk xs k))).put (some 4) (I k))) (fun k => h) (fun k => xs.length - k) 0 (Nat.zero_le _) (le_put (le_put (le_put (le_emp _) rfl) rfl) rfl) (by (first|((repeat first|exact s_0|exact s_1|exact s_3|refine s_4 ?_|refine s_5 ?_|refine s_6 ?_|refine s_7 ?_);done)|((repeat first|exact s_0|exact s_1|exact s_3|refine s_4 ?_|refine s_5 ?_|refine s_6 ?_|refine s_8 ?_);done))) ?_
  rintro k hk
  refine xc_seq ?_
  refine xc_seq (xc_region ?_)
  refine xr_op rfl rfl (xv_move rfl ?_)
  refine xr_op rfl rfl (xv_move rfl ?_)
  refine xr_op rfl rfl (xv_len sl22 rfl ?_)
  refine xr_op rfl rfl (xv_lss2 rfl rfl (fun q1 => ?_) (fun q1 => ?_))
  · refine xr_end rfl ?_
    refine th_n ?_
    refine xc_true rfl ?_
    refine xc_skip ?_
    refine th_n ?_
    refine xc_seq ?_
    refine xc_block ?_
    refine xc_draw0 [(0, .S), (1, .S), (2, .S), (3, .S), (4, .S), (5, .R), (6, .S), (7, .S), (8, .S), (9, .S), (10, .S), (11, .R), (12, .S), (13, .S), (14, .S), (15, .S), (16, .S)] mixed (by kernel_rfl) ?_
    have hlto : k < xs.length := by (first|omega|(dsimp only at *;omega)|(simp at *;omega))
    obtain ⟨bo, oo, lo, to, fzo, hao, hmo, hxo⟩ := (hs).at hlto
    obtain ⟨xo, hko⟩ : ∃ qq_, xs[k]? = some qq_ := ⟨_, List.getElem?_eq_getElem hlto⟩
    obtain ⟨⟨oa1, oa2⟩, ob1, ob2⟩ := hok xo (List.mem_of_getElem? hko)
    have hcb := chk_bd hok hl k hk
    have hm1 : 0 ≤ xo.height * ((k : Int) + 1) := Int.mul_nonneg ob1 (by omega)
    have hm2 : xo.height * ((k : Int) + 1) ≤ 100000 * 60 := Int.mul_le_mul ob2 (by omega) (by omega) (by omega)
    refine js_S rfl rfl (.inl rfl) (xv_move rfl ⟨rfl, rfl⟩) ?_
    refine js_S rfl rfl (.inl rfl) (xv_move rfl ⟨rfl, rfl⟩) ?_
    refine js_S rfl rfl (.inl rfl) (xv_move rfl ⟨rfl, rfl⟩) ?_
    refine js_S rfl rfl (.inl rfl) (xv_ia (sz := 2) (j := k) sl22 ty44 rfl (by rw [hao]; rfl) rfl (by (first | assumption | with_reducible exact Int.toNat_natCast _ | with_reducible rfl | rfl)) (by (first|omega|(dsimp only at *;omega)|(simp at *;omega))) (by (first|omega|(dsimp only at *;omega)|(simp at *;omega))) ⟨rfl, rfl⟩) ?_
    refine js_S rfl rfl (.inl rfl) (xv_faddr fl44_0 rfl ⟨rfl, rfl⟩) ?_
    refine js_R0 rfl rfl (.inl rfl) (xv_load1 ty3 rfl rfl (by ((repeat first|exact z_0|assumption|refine z_1 ?_|(refine z_l ?_;(repeat first|exact z_0|assumption|refine z_1 ?_);done)|refine z_r ?_);done)) (take_get (hxo (k) xo hko) (j := 0) rfl) ⟨rfl, rfl⟩) ?_
    refine js_S rfl rfl (.inl rfl) (xv_add rfl rfl (wrap_i64 (by (first|omega|(dsimp only at *;omega)|(simp at *;omega))) (by (first|omega|(dsimp only at *;omega)|(simp at *;omega)))) ⟨rfl, rfl⟩) ?_
    refine js_S rfl rfl (.inl rfl) (xv_move rfl ⟨rfl, rfl⟩) ?_
    refine js_S rfl rfl (.inl rfl) (xv_move rfl ⟨rfl, rfl⟩) ?_
    refine js_S rfl rfl (.inl rfl) (xv_ia (sz := 2) (j := k) sl22 ty44 rfl (by rw [hao]; rfl) rfl (by (first | assumption | with_reducible exact Int.toNat_natCast _ | with_reducible rfl | rfl)) (by (first|omega|(dsimp only at *;omega)|(simp at *;omega))) (by (first|omega|(dsimp only at *;omega)|(simp at *;omega))) ⟨rfl, rfl⟩) ?_
    refine js_S rfl rfl (.inl rfl) (xv_faddr fl44_1 rfl ⟨rfl, rfl⟩) ?_
    refine js_R0 rfl rfl (.inl rfl) (xv_load1 ty3 rfl rfl (by ((repeat first|exact z_0|assumption|refine z_1 ?_|(refine z_l ?_;(repeat first|exact z_0|assumption|refine z_1 ?_);done)|refine z_r ?_);done)) (take_get (hxo (k) xo hko) (j := 1) rfl) ⟨rfl, rfl⟩) ?_
    refine js_S rfl rfl (.inl rfl) (xv_move rfl ⟨rfl, rfl⟩) ?_
    refine js_S rfl rfl (.inl rfl) (xv_add rfl rfl (wrap_i64 (by (first|omega|(dsimp only at *;omega)|(simp at *;omega))) (by (first|omega|(dsimp only at *;omega)|(simp at *;omega)))) ⟨rfl, rfl⟩) ?_
    refine js_S rfl rfl (.inl rfl) (xv_mul (c := xo.height * ((k : Int) + 1)) rfl rfl (wrap_i64 (by omega) (by omega)) ⟨rfl, rfl⟩) ?_
    refine js_S rfl rfl (.inl rfl) (xv_add rfl rfl (wrap_i64 (by (first|omega|(dsimp only at *;omega)|(simp at *;omega))) (by (first|omega|(dsimp only at *;omega)|(simp at *;omega)))) ⟨rfl, rfl⟩) ?_
    refine js_S rfl rfl (.inl rfl) (xv_assign rfl ⟨rfl, rfl⟩) ?_
    refine j_end0 ?_
    refine bk_n ?_
    refine th_n ?_
    refine xc_region ?_
    refine xr_op rfl rfl (xv_move rfl ?_)
    refine xr_op rfl rfl (xv_add rfl rfl (wrap_i64 (by (first|omega|(dsimp only at *;omega)|(simp at *;omega))) (by (first|omega|(dsimp only at *;omega)|(simp at *;omega)))) ?_)
    refine xr_op rfl rfl (xv_assign rfl ?_)
    refine xr_end rfl ?_
    exact rnd (k + 1) (by (first|omega|(dsimp only at *;omega)|(simp at *;omega))) (by (first|omega|(dsimp only at *;omega)|(simp at *;omega))) (le_put (le_put (le_put (le_emp _) rfl) (by show _ = some (I _); rw [chk_succ hko, ← Int.add_assoc]; rfl)) rfl) (by (first|((repeat first|exact s_0|exact s_1|exact s_3|refine s_4 ?_|refine s_5 ?_|refine s_6 ?_|refine s_7 ?_);done)|((repeat first|exact s_0|exact s_1|exact s_3|refine s_4 ?_|refine s_5 ?_|refine s_6 ?_|refine s_8 ?_);done)))
  · refine xr_end rfl ?_
    refine th_n ?_
    refine xc_false rfl ?_
    refine xc_exit ?_
    refine th_x ?_
    refine th_x ?_
    refine bk_same ?_
    refine th_n ?_
    refine xc_seq (xc_region ?_)
    obtain rfl : xs.length = k := by (first|omega|(dsimp only at *;omega)|(simp at *;omega))
    have hcb := chk_bd hok hl xs.length (Nat.le_refl _)
    refine xr_op rfl rfl (xv_move rfl ?_)
    refine xr_op rfl rfl (xv_rem (c := chk xs xs.length % 61) rfl rfl (by decide) (Int.tmod_eq_emod_of_nonneg (by omega)) ?_)
    refine xr_op rfl rfl (xv_assign rfl ?_)
    refine xr_end rfl ?_
    refine th_n ?_
    refine xc_ret ?_
    refine body_ret (h' := h) rfl (ro_tmp rfl ro_nil) (by (first|((repeat first|exact s_0|exact s_1|exact s_3|refine s_4 ?_|refine s_5 ?_|refine s_6 ?_|refine s_7 ?_);done)|((repeat first|exact s_0|exact s_1|exact s_3|refine s_4 ?_|refine s_5 ?_|refine s_6 ?_|refine s_8 ?_);done))) ?_
    exact H

theorem RNumbers_c {xs : List Sight} {a : Option Addr} {c : Nat} {h : Hp} {R : Ending → Hp → Prop} (hs : SlV h 2 eSight a xs) (hok : ∀ x ∈ xs, sightOk x) (hasc : Asc ltSight xs xs.length) (hl : xs.length ≤ 60) (H : ∀ V : Vec, V.ok 1 (logA xs).length ((logA xs).flatMap eI) → R (.returned (.slice V.ad (logA xs).length V.cp)) (V.hp 3 ((logA xs).flatMap eI) ++ h)) : ACalls Tryd.prog 27 ⟨[.slice a xs.length c]⟩ h R := by
  refine calls_of_xc (N := 63) Tryd.func27 rfl (by rfl) ?_
  refine xc_seq (xc_region ?_)
  refine xr_op rfl rfl (xv_assign rfl ?_)
  refine xr_end rfl ?_
  refine th_n ?_
  refine xc_seq (xc_region ?_)
  refine xr_op rfl rfl (xv_move rfl ?_)
  refine xr_op rfl rfl (xv_len sl22 rfl ?_)
  refine xr_op rfl rfl ((al_buildSlice sl60 ty3 rfl rfl rfl rfl rfl (by ((try apply evl_some rfl);(repeat (first|exact (rfl : _ = [])|apply evl_cons rfl (by (first|exact v_1|exact v_2|exact v_3|exact v_4|exact v_5|exact v_6|exact v_7|exact v_8|exact v_9|exact rfl))|exact rfl))))).xv (fun b9 hb9 => ?_))
  refine xr_op rfl rfl (xv_assign rfl ?_)
  refine xr_end rfl ?_
  refine th_n ?_
  refine xc_seq (xc_region ?_)
  refine xr_op rfl rfl (xv_assign rfl ?_)
  refine xr_op rfl rfl (xv_assign rfl ?_)
  refine xr_end rfl ?_
  refine th_n ?_
  refine xc_seq ?_
  refine xc_seq (xc_region ?_)
  refine xr_op rfl rfl (xv_assign rfl ?_)
  refine xr_end rfl ?_
  refine th_n ?_
  refine xc_block ?_
  refine xc_loop (σ := Nat × Vec) (fun z => z.1 ≤ xs.length ∧ z.2.ok 1 (2 * z.1 + 1) ((logN xs z.1).flatMap eI)) (fun z => (((((emp.put (some 0) (.slice a xs.length c)).put (some 3) (z.2.val (2 * z.1 + 1))).put (some 4) (I (prevS xs z.1).hour)).put (some 5) (I (prevS xs z.1).height)).put (some 6) (I z.1))) (fun z => (z.2.hp 3 ((logN xs z.1).flatMap eI) ++ h)) (fun z => xs.length - z.1) ((0, .at b9 1 []) : Nat × Vec) ⟨Nat.zero_le _, ⟨rfl, Nat.le_refl _, rfl⟩⟩ (le_put (le_put (le_put (le_put (le_put (le_emp _) rfl) rfl) rfl) rfl) rfl) (by (first|((repeat first|exact s_0|exact s_1|exact s_3|refine s_4 ?_|refine s_5 ?_|refine s_6 ?_|refine s_7 ?_);done)|((repeat first|exact s_0|exact s_1|exact s_3|refine s_4 ?_|refine s_5 ?_|refine s_6 ?_|refine s_8 ?_);done))) ?_
  rintro ⟨k, V⟩ ⟨hk, hV⟩
  dsimp only at hk hV
  refine xc_seq ?_
  refine xc_seq (xc_region ?_)
  refine xr_op rfl rfl (xv_move rfl ?_)
  refine xr_op rfl rfl (xv_move rfl ?_)
  refine xr_op rfl rfl (xv_len sl22 rfl ?_)
  refine xr_op rfl rfl (xv_lss2 rfl rfl (fun q1 => ?_) (fun q1 => ?_))
  · refine xr_end rfl ?_
    refine th_n ?_
    refine xc_true rfl ?_
    refine xc_skip ?_
    refine th_n ?_
    refine xc_seq ?_
    refine xc_block ?_
    refine xc_seq (xc_region ?_)
    have hlto : k < xs.length := by (first|omega|(dsimp only at *;omega)|(simp at *;omega))
    obtain ⟨bo, oo, lo, to, fzo, hao, hmo, hxo⟩ := (hs).at hlto
    obtain ⟨xo, hko⟩ : ∃ qq_, xs[k]? = some qq_ := ⟨_, List.getElem?_eq_getElem hlto⟩
    have epv := prevS_succ hko
    have hpb := prevS_bd hok k hk
    obtain ⟨⟨oa1, oa2⟩, ob1, ob2⟩ := hok xo (List.mem_of_getElem? hko)
    refine xr_op rfl rfl (xv_move rfl ?_)
    refine xr_op rfl rfl (xv_move rfl ?_)
    refine xr_op rfl rfl (xv_move rfl ?_)
    refine xr_op rfl rfl (xv_ia (sz := 2) (j := k) sl22 ty44 rfl (by rw [hao]; rfl) rfl (by (first | assumption | with_reducible exact Int.toNat_natCast _ | with_reducible rfl | rfl)) (by (first|omega|(dsimp only at *;omega)|(simp at *;omega))) (by (first|omega|(dsimp only at *;omega)|(simp at *;omega))) ?_)
    refine xr_op rfl rfl (xv_faddr fl44_0 rfl ?_)
    refine xr_op rfl rfl (xv_load1 ty3 rfl rfl (by ((repeat first|exact z_0|assumption|refine z_1 ?_|(refine z_l ?_;(repeat first|exact z_0|assumption|refine z_1 ?_);done)|refine z_r ?_);done)) (take_get (hxo (k) xo hko) (j := 0) rfl) ?_)
    refine xr_op rfl rfl (xv_move rfl ?_)
    refine xr_op rfl rfl (xv_sub rfl rfl (wrap_i64 (by (first|omega|(dsimp only at *;omega)|(simp at *;omega))) (by (first|omega|(dsimp only at *;omega)|(simp at *;omega)))) ?_)
    refine xr_op rfl rfl (xv_sub rfl rfl (wrap_i64 (by (first|omega|(dsimp only at *;omega)|(simp at *;omega))) (by (first|omega|(dsimp only at *;omega)|(simp at *;omega)))) ?_)
    refine xr_op rfl rfl ((al_buildSlice sl60 ty3 rfl rfl rfl rfl rfl (by ((try apply evl_some rfl);(repeat (first|exact (rfl : _ = [])|apply evl_cons rfl (by (first|exact v_1|exact v_2|exact v_3|exact v_4|exact v_5|exact v_6|exact v_7|exact v_8|exact v_9|exact rfl))|exact rfl))))).xv (fun b2 hb2 => ?_))
    refine xr_op rfl rfl (xv_append (V := V) (n := 2 * k + 1) (xs := (logN xs k).flatMap eI) sl60 ty3 rfl rfl rfl hV (.there .here) (by ((repeat first|exact z_0|assumption|refine z_1 ?_|(refine z_l ?_;(repeat first|exact z_0|assumption|refine z_1 ?_);done)|refine z_r ?_);done)) (by ((try apply evl_some rfl);(repeat (first|exact (rfl : _ = [])|apply evl_cons rfl (by (first|exact v_1|exact v_2|exact v_3|exact v_4|exact v_5|exact v_6|exact v_7|exact v_8|exact v_9|exact rfl))|exact rfl)))) rfl rfl (by (first|omega|(dsimp only at *;omega)|(simp at *;omega))) (by simp only []; (first|omega|(dsimp only at *;omega)|(simp at *;omega))) (by (first|omega|(dsimp only at *;omega)|(simp at *;omega))) (fun W1 hW1 => ?_))
    refine xr_op rfl rfl (xv_assign rfl ?_)
    refine xr_end rfl ?_
    refine th_n ?_
    refine xc_seq (xc_region ?_)
    refine xr_op rfl rfl (xv_move rfl ?_)
    refine xr_op rfl rfl (xv_move rfl ?_)
    refine xr_op rfl rfl (xv_ia (sz := 2) (j := k) sl22 ty44 rfl (by rw [hao]; rfl) rfl (by (first | assumption | with_reducible exact Int.toNat_natCast _ | with_reducible rfl | rfl)) (by (first|omega|(dsimp only at *;omega)|(simp at *;omega))) (by (first|omega|(dsimp only at *;omega)|(simp at *;omega))) ?_)
    refine xr_op rfl rfl (xv_faddr fl44_1 rfl ?_)
    refine xr_op rfl rfl (xv_load1 ty3 rfl rfl (by ((repeat first|exact z_0|assumption|refine z_1 ?_|(refine z_l ?_;(repeat first|exact z_0|assumption|refine z_1 ?_);done)|refine z_r ?_);done)) (take_get (hxo (k) xo hko) (j := 1) rfl) ?_)
    refine xr_op rfl rfl (xv_move rfl ?_)
    refine xr_op rfl rfl (xv_sub rfl rfl (wrap_i64 (by (first|omega|(dsimp only at *;omega)|(simp at *;omega))) (by (first|omega|(dsimp only at *;omega)|(simp at *;omega)))) ?_)
    refine xr_op rfl rfl (xv_assign rfl ?_)
    refine xr_end rfl ?_
    refine th_n ?_
    refine xc_join (σ := Vec) (fun W => W.ok 1 (2 * k + 3) ((logN xs (k + 1)).flatMap eI)) (fun W => (((emp.put (some 0) (.slice a xs.length c)).put (some 3) (W.val (2 * k + 3))).put (some 6) (I k))) (fun W => (W.hp 3 ((logN xs (k + 1)).flatMap eI) ++ h)) ?_ ?_
    · refine xc_seq (xc_region ?_)
      refine xr_op rfl rfl (xv_move rfl ?_)
      refine xr_op rfl rfl (xv_geq2 rfl rfl (fun q3 => ?_) (fun q3 => ?_))
      · refine xr_end rfl ?_
        refine th_n ?_
        refine xc_true rfl ?_
        refine xc_region ?_
        refine xr_op rfl rfl (xv_move rfl ?_)
        refine xr_op rfl rfl (xv_move rfl ?_)
        refine xr_op rfl rfl (xv_mul rfl rfl (wrap_i64 (by (first|omega|(dsimp only at *;omega)|(simp at *;omega))) (by (first|omega|(dsimp only at *;omega)|(simp at *;omega)))) ?_)
        refine xr_op rfl rfl ((al_buildSlice sl60 ty3 rfl rfl rfl rfl rfl (by ((try apply evl_some rfl);(repeat (first|exact (rfl : _ = [])|apply evl_cons rfl (by (first|exact v_1|exact v_2|exact v_3|exact v_4|exact v_5|exact v_6|exact v_7|exact v_8|exact v_9|exact rfl))|exact rfl))))).xv (fun b4 hb4 => ?_))
        refine xr_op rfl rfl (xv_append (V := W1) (n := 2 * k + 2) (xs := (logN xs k).flatMap eI ++ [I (xo.hour - (prevS xs k).hour - 1)]) sl60 ty3 rfl rfl rfl hW1 (.there .here) (by ((repeat first|exact z_0|assumption|refine z_1 ?_|(refine z_l ?_;(repeat first|exact z_0|assumption|refine z_1 ?_);done)|refine z_r ?_);done)) (by ((try apply evl_some rfl);(repeat (first|exact (rfl : _ = [])|apply evl_cons rfl (by (first|exact v_1|exact v_2|exact v_3|exact v_4|exact v_5|exact v_6|exact v_7|exact v_8|exact v_9|exact rfl))|exact rfl)))) rfl rfl (by (first|omega|(dsimp only at *;omega)|(simp at *;omega))) (by simp only []; (first|omega|(dsimp only at *;omega)|(simp at *;omega))) (by (first|omega|(dsimp only at *;omega)|(simp at *;omega))) (fun W2 hW2 => ?_))
        refine xr_op rfl rfl (xv_assign rfl ?_)
        refine xr_end rfl ?_
        have ekn : (logN xs (k + 1)).flatMap eI = ((logN xs k).flatMap eI ++ [I (xo.hour - (prevS xs k).hour - 1)]) ++ [I (2 * (xo.height - (prevS xs k).height))] := by rw [logN_succ, epv, List.flatMap_append, List.append_assoc]; unfold sgn; rw [if_neg (by (first|omega|(dsimp only at *;omega)|(simp at *;omega)))]; rfl
        exact jn_n W2 (by rw [ekn]; exact hW2) (le_put (le_put (le_put (le_emp _) rfl) rfl) rfl) (by rw [ekn]; (first|((repeat first|exact s_0|exact s_1|exact s_3|refine s_4 ?_|refine s_5 ?_|refine s_6 ?_|refine s_7 ?_);done)|((repeat first|exact s_0|exact s_1|exact s_3|refine s_4 ?_|refine s_5 ?_|refine s_6 ?_|refine s_8 ?_);done)))
      · refine xr_end rfl ?_
        refine th_n ?_
        refine xc_false rfl ?_
        refine xc_region ?_
        refine xr_op rfl rfl (xv_move rfl ?_)
        refine xr_op rfl rfl (xv_move rfl ?_)
        refine xr_op rfl rfl (xv_mul rfl rfl (wrap_i64 (by (first|omega|(dsimp only at *;omega)|(simp at *;omega))) (by (first|omega|(dsimp only at *;omega)|(simp at *;omega)))) ?_)
        refine xr_op rfl rfl (xv_sub rfl rfl (wrap_i64 (by (first|omega|(dsimp only at *;omega)|(simp at *;omega))) (by (first|omega|(dsimp only at *;omega)|(simp at *;omega)))) ?_)
        refine xr_op rfl rfl ((al_buildSlice sl60 ty3 rfl rfl rfl rfl rfl (by ((try apply evl_some rfl);(repeat (first|exact (rfl : _ = [])|apply evl_cons rfl (by (first|exact v_1|exact v_2|exact v_3|exact v_4|exact v_5|exact v_6|exact v_7|exact v_8|exact v_9|exact rfl))|exact rfl))))).xv (fun b5 hb5 => ?_))
        refine xr_op rfl rfl (xv_append (V := W1) (n := 2 * k + 2) (xs := (logN xs k).flatMap eI ++ [I (xo.hour - (prevS xs k).hour - 1)]) sl60 ty3 rfl rfl rfl hW1 (.there .here) (by ((repeat first|exact z_0|assumption|refine z_1 ?_|(refine z_l ?_;(repeat first|exact z_0|assumption|refine z_1 ?_);done)|refine z_r ?_);done)) (by ((try apply evl_some rfl);(repeat (first|exact (rfl : _ = [])|apply evl_cons rfl (by (first|exact v_1|exact v_2|exact v_3|exact v_4|exact v_5|exact v_6|exact v_7|exact v_8|exact v_9|exact rfl))|exact rfl)))) rfl rfl (by (first|omega|(dsimp only at *;omega)|(simp at *;omega))) (by simp only []; (first|omega|(dsimp only at *;omega)|(simp at *;omega))) (by (first|omega|(dsimp only at *;omega)|(simp at *;omega))) (fun W2 hW2 => ?_))
        refine xr_op rfl rfl (xv_assign rfl ?_)
        refine xr_end rfl ?_
        have ekn : (logN xs (k + 1)).flatMap eI = ((logN xs k).flatMap eI ++ [I (xo.hour - (prevS xs k).hour - 1)]) ++ [I (-2 * (xo.height - (prevS xs k).height) - 1)] := by rw [logN_succ, epv, List.flatMap_append, List.append_assoc]; unfold sgn; rw [if_pos (by (first|omega|(dsimp only at *;omega)|(simp at *;omega)))]; rfl
        exact jn_n W2 (by rw [ekn]; exact hW2) (le_put (le_put (le_put (le_emp _) rfl) rfl) rfl) (by rw [ekn]; (first|((repeat first|exact s_0|exact s_1|exact s_3|refine s_4 ?_|refine s_5 ?_|refine s_6 ?_|refine s_7 ?_);done)|((repeat first|exact s_0|exact s_1|exact s_3|refine s_4 ?_|refine s_5 ?_|refine s_6 ?_|refine s_8 ?_);done)))
    · rintro W hW
      refine xc_seq (xc_region ?_)
      refine xr_op rfl rfl (xv_move rfl ?_)
      refine xr_op rfl rfl (xv_move rfl ?_)
      refine xr_op rfl rfl (xv_ia (sz := 2) (j := k) sl22 ty44 rfl (by rw [hao]; rfl) rfl (by (first | assumption | with_reducible exact Int.toNat_natCast _ | with_reducible rfl | rfl)) (by (first|omega|(dsimp only at *;omega)|(simp at *;omega))) (by (first|omega|(dsimp only at *;omega)|(simp at *;omega))) ?_)
      refine xr_op rfl rfl (xv_faddr fl44_0 rfl ?_)
      refine xr_op rfl rfl (xv_load1 ty3 rfl rfl (by ((repeat first|exact z_0|assumption|refine z_1 ?_|(refine z_l ?_;(repeat first|exact z_0|assumption|refine z_1 ?_);done)|refine z_r ?_);done)) (take_get (hxo (k) xo hko) (j := 0) rfl) ?_)
      refine xr_op rfl rfl (xv_assign rfl ?_)
      refine xr_end rfl ?_
      refine th_n ?_
      refine xc_region ?_
      refine xr_op rfl rfl (xv_move rfl ?_)
      refine xr_op rfl rfl (xv_move rfl ?_)
      refine xr_op rfl rfl (xv_ia (sz := 2) (j := k) sl22 ty44 rfl (by rw [hao]; rfl) rfl (by (first | assumption | with_reducible exact Int.toNat_natCast _ | with_reducible rfl | rfl)) (by (first|omega|(dsimp only at *;omega)|(simp at *;omega))) (by (first|omega|(dsimp only at *;omega)|(simp at *;omega))) ?_)
      refine xr_op rfl rfl (xv_faddr fl44_1 rfl ?_)
      refine xr_op rfl rfl (xv_load1 ty3 rfl rfl (by ((repeat first|exact z_0|assumption|refine z_1 ?_|(refine z_l ?_;(repeat first|exact z_0|assumption|refine z_1 ?_);done)|refine z_r ?_);done)) (take_get (hxo (k) xo hko) (j := 1) rfl) ?_)
      refine xr_op rfl rfl (xv_assign rfl ?_)
      refine xr_end rfl ?_
      refine bk_n ?_
      refine th_n ?_
      refine xc_region ?_
      refine xr_op rfl rfl (xv_move rfl ?_)
      refine xr_op rfl rfl (xv_add rfl rfl (wrap_i64 (by (first|omega|(dsimp only at *;omega)|(simp at *;omega))) (by (first|omega|(dsimp only at *;omega)|(simp at *;omega)))) ?_)
      refine xr_op rfl rfl (xv_assign rfl ?_)
      refine xr_end rfl ?_
      exact rnd ((k + 1, W) : Nat × Vec) ⟨by (first|omega|(dsimp only at *;omega)|(simp at *;omega)), hW⟩ (by (first|omega|(dsimp only at *;omega)|(simp at *;omega))) (le_put (le_put (le_put (le_put (le_put (le_emp _) rfl) rfl) (by show _ = some (I _); rw [epv]; rfl)) (by show _ = some (I _); rw [epv]; rfl)) rfl) (by (first|((repeat first|exact s_0|exact s_1|exact s_3|refine s_4 ?_|refine s_5 ?_|refine s_6 ?_|refine s_7 ?_);done)|((repeat first|exact s_0|exact s_1|exact s_3|refine s_4 ?_|refine s_5 ?_|refine s_6 ?_|refine s_8 ?_);done)))
  · refine xr_end rfl ?_
    refine th_n ?_
    refine xc_false rfl ?_
    refine xc_exit ?_
    refine th_x ?_
    refine th_x ?_
    refine bk_same ?_
    refine th_n ?_
    refine xc_seq (xc_region ?_)
    obtain rfl : k = xs.length := by (first|omega|(dsimp only at *;omega)|(simp at *;omega))
    have elA : (logA xs).length = 2 * xs.length + 1 + 1 := by unfold logA; rw [List.length_append, logN, List.length_cons, logL_len]; rfl
    have efA : (logA xs).flatMap eI = (logN xs xs.length).flatMap eI ++ [I (chk xs xs.length % 61)] := by unfold logA; rw [List.flatMap_append]; rfl
    refine xr_op rfl rfl (xv_move rfl ?_)
    refine xr_op rfl rfl (xv_move rfl ?_)
    refine xr_op rfl rfl (xv_calls rfl hb54 (RSum_c (hs.sub (by intro z9 hz9; ((repeat first|exact z_0|assumption|refine z_1 ?_|(refine z_l ?_;(repeat first|exact z_0|assumption|refine z_1 ?_);done)|refine z_r ?_);done))) hok hl (up_ret ?_)))
    refine xr_op rfl rfl ((al_buildSlice sl60 ty3 rfl rfl rfl rfl rfl (by ((try apply evl_some rfl);(repeat (first|exact (rfl : _ = [])|apply evl_cons rfl (by (first|exact v_1|exact v_2|exact v_3|exact v_4|exact v_5|exact v_6|exact v_7|exact v_8|exact v_9|exact rfl))|exact rfl))))).xv (fun b6 hb6 => ?_))
    refine xr_op rfl rfl (xv_append (V := V) (n := 2 * xs.length + 1) (xs := (logN xs xs.length).flatMap eI) sl60 ty3 rfl rfl rfl hV (.there .here) (by ((repeat first|exact z_0|assumption|refine z_1 ?_|(refine z_l ?_;(repeat first|exact z_0|assumption|refine z_1 ?_);done)|refine z_r ?_);done)) (by ((try apply evl_some rfl);(repeat (first|exact (rfl : _ = [])|apply evl_cons rfl (by (first|exact v_1|exact v_2|exact v_3|exact v_4|exact v_5|exact v_6|exact v_7|exact v_8|exact v_9|exact rfl))|exact rfl)))) rfl rfl (by (first|omega|(dsimp only at *;omega)|(simp at *;omega))) (by simp only []; (first|omega|(dsimp only at *;omega)|(simp at *;omega))) (by (first|omega|(dsimp only at *;omega)|(simp at *;omega))) (fun W5 hW5 => ?_))
    refine xr_op rfl rfl (xv_assign rfl ?_)
    refine xr_end rfl ?_
    refine th_n ?_
    refine xc_ret ?_
    refine body_ret (h' := (W5.hp 3 ((logN xs xs.length).flatMap eI ++ [I (chk xs xs.length % 61)]) ++ h)) rfl (ro_tmp rfl ro_nil) (by (first|((repeat first|exact s_0|exact s_1|exact s_3|refine s_4 ?_|refine s_5 ?_|refine s_6 ?_|refine s_7 ?_);done)|((repeat first|exact s_0|exact s_1|exact s_3|refine s_4 ?_|refine s_5 ?_|refine s_6 ?_|refine s_8 ?_);done))) ?_
    (have h9 := H W5 (by rw [elA, efA]; exact hW5); rw [elA, efA] at h9; rw [Vec.val_ad hW5]; exact h9)

end Go.Proofs.YtlpkiolopelpfaaDoor

/-
  Walks.
-/
namespace Go.Proofs.YtlpkiolopelpfaaDoor
open Go Go.H
set_option maxRecDepth 100000
set_option maxHeartbeats 8000000
set_option linter.all false
theorem digits_c : ∀ n : Nat, ∀ {last : Bool} {h : Hp} {R : Ending → Hp → Prop} (hn : n ≤ 4611686018427387904) (H : ∀ V : Vec, V.ok 1 (octs n (if last then 0 else 8)).length ((octs n (if last then 0 else 8)).flatMap eN) → R (.returned (V.val (octs n (if last then 0 else 8)).length)) (V.hp 3 ((octs n (if last then 0 else 8)).flatMap eN) ++ h)), ACalls Tryd.prog 28 ⟨[I n, .bool last]⟩ h R := by
  intro n
  induction n using Nat.strongRecOn
  rename_i n ih
  intro last h R hn H
  refine calls_of_xc (N := 23) Tryd.func28 rfl (by rfl) ?_
  have h21 := octs_len21 (n := n / 8) (more := 8) (by omega)
  refine xc_seq (xc_region ?_)
  cases last
  · refine xr_op rfl rfl (xv_assign rfl ?_)
    refine xr_end rfl ?_
    refine th_n ?_
    refine xc_seq (xc_region ?_)
    refine xr_op rfl rfl (xv_assign rfl ?_)
    refine xr_end rfl ?_
    refine th_n ?_
    refine xc_seq ?_
    refine xc_seq (xc_region ?_)
    refine xr_op rfl rfl (xv_move rfl ?_)
    refine xr_op rfl rfl (xv_geq2 rfl rfl (fun q1 => ?_) (fun q1 => ?_))
    · refine xr_end rfl ?_
      refine th_n ?_
      refine xc_true rfl ?_
      refine xc_region ?_
      refine xr_op rfl rfl (xv_move rfl ?_)
      refine xr_op rfl rfl (xv_quo (c := ((n / 8 : Nat) : Int)) rfl rfl (by decide) (by rw [show ((n : Int)).tdiv 8 = ((n / 8 : Nat) : Int) from rfl]; exact wrap_i64 (by omega) (by omega)) ?_)
      refine xr_op rfl rfl (xv_calls rfl hb28 (ih (n / 8) (by omega) (last := false) (by omega) (fun V9 hV9 => up_ret ?_)))
      refine xr_op rfl rfl (xv_assign rfl ?_)
      refine xr_end rfl ?_
      refine th_n ?_
      refine xc_seq ?_
      refine xc_seq (xc_region ?_)
      refine xr_op rfl rfl (xv_move rfl ?_)
      refine xr_end rfl ?_
      refine th_n ?_
      refine xc_false rfl ?_
      refine xc_skip ?_
      refine th_n ?_
      refine xc_seq (xc_region ?_)
      refine xr_op rfl rfl (xv_move rfl ?_)
      refine xr_op rfl rfl (xv_move rfl ?_)
      refine xr_op rfl rfl (xv_rem (c := ((n % 8 : Nat) : Int)) rfl rfl (by decide) rfl ?_)
      refine xr_op rfl rfl (xv_add rfl rfl (wrap_i64 (by (first|omega|(dsimp only at *;omega)|(simp at *;omega))) (by (first|omega|(dsimp only at *;omega)|(simp at *;omega)))) ?_)
      refine xr_op rfl rfl ((al_buildSlice sl60 ty3 rfl rfl rfl rfl rfl (by ((try apply evl_some rfl);(repeat (first|exact (rfl : _ = [])|apply evl_cons rfl (by (first|exact v_1|exact v_2|exact v_3|exact v_4|exact v_5|exact v_6|exact v_7|exact v_8|exact v_9|exact rfl))|exact rfl))))).xv (fun b2 hb2 => ?_))
      refine xr_op rfl rfl (xv_append (V := V9) (n := (octs (n / 8) (if false then 0 else 8)).length) (xs := (octs (n / 8) (if false then 0 else 8)).flatMap eN) sl60 ty3 rfl rfl rfl hV9 (.there .here) (by ((repeat first|exact z_0|assumption|refine z_1 ?_|(refine z_l ?_;(repeat first|exact z_0|assumption|refine z_1 ?_);done)|refine z_r ?_);done)) (by ((try apply evl_some rfl);(repeat (first|exact (rfl : _ = [])|apply evl_cons rfl (by (first|exact v_1|exact v_2|exact v_3|exact v_4|exact v_5|exact v_6|exact v_7|exact v_8|exact v_9|exact rfl))|exact rfl)))) rfl rfl (by (first|omega|(dsimp only at *;omega)|(simp at *;omega))) (by simp only []; (first|omega|(dsimp only at *;omega)|(simp at *;omega))) (by (first|omega|(dsimp only at *;omega)|(simp at *;omega))) (fun V8 hV8 => ?_))
      refine xr_op rfl rfl (xv_assign rfl ?_)
      refine xr_end rfl ?_
      refine th_n ?_
      refine xc_ret ?_
      refine body_ret (h' := (V8.hp 3 ((octs (n / 8) (if false then 0 else 8)).flatMap eN ++ [I (((n % 8 : Nat) : Int) + 8)]) ++ h)) rfl (ro_tmp rfl ro_nil) (by (first|((repeat first|exact s_0|exact s_1|exact s_3|refine s_4 ?_|refine s_5 ?_|refine s_6 ?_|refine s_7 ?_);done)|((repeat first|exact s_0|exact s_1|exact s_3|refine s_4 ?_|refine s_5 ?_|refine s_6 ?_|refine s_8 ?_);done))) ?_
      (have e9 : octs n (if false then 0 else 8) = octs (n / 8) 8 ++ [n % 8 + 8] := octs_big (by (first|omega|(dsimp only at *;omega)|(simp at *;omega))); have e8 : (octs n (if false then 0 else 8)).flatMap eN = (octs (n / 8) (if false then 0 else 8)).flatMap eN ++ [I (((n % 8 : Nat) : Int) + 8)] := (by rw [e9, List.flatMap_append]; rfl); have e7 : (octs n (if false then 0 else 8)).length = (octs (n / 8) (if false then 0 else 8)).length + 1 := (by rw [e9, List.length_append]; first | done | rfl); have h9 := H V8 (by rw [e7, e8]; exact hV8); rw [e7, e8] at h9; exact h9)
    · refine xr_end rfl ?_
      refine th_n ?_
      refine xc_false rfl ?_
      refine xc_skip ?_
      refine th_n ?_
      refine xc_seq ?_
      refine xc_seq (xc_region ?_)
      refine xr_op rfl rfl (xv_move rfl ?_)
      refine xr_end rfl ?_
      refine th_n ?_
      refine xc_false rfl ?_
      refine xc_skip ?_
      refine th_n ?_
      refine xc_seq (xc_region ?_)
      refine xr_op rfl rfl (xv_move rfl ?_)
      refine xr_op rfl rfl (xv_move rfl ?_)
      refine xr_op rfl rfl (xv_rem (c := ((n % 8 : Nat) : Int)) rfl rfl (by decide) rfl ?_)
      refine xr_op rfl rfl (xv_add rfl rfl (wrap_i64 (by (first|omega|(dsimp only at *;omega)|(simp at *;omega))) (by (first|omega|(dsimp only at *;omega)|(simp at *;omega)))) ?_)
      refine xr_op rfl rfl ((al_buildSlice sl60 ty3 rfl rfl rfl rfl rfl (by ((try apply evl_some rfl);(repeat (first|exact (rfl : _ = [])|apply evl_cons rfl (by (first|exact v_1|exact v_2|exact v_3|exact v_4|exact v_5|exact v_6|exact v_7|exact v_8|exact v_9|exact rfl))|exact rfl))))).xv (fun b3 hb3 => ?_))
      refine xr_op rfl rfl (xv_append (V := .nil) (n := 0) (xs := []) sl60 ty3 rfl rfl rfl ⟨rfl, rfl⟩ (.there .here) (by ((repeat first|exact z_0|assumption|refine z_1 ?_|(refine z_l ?_;(repeat first|exact z_0|assumption|refine z_1 ?_);done)|refine z_r ?_);done)) (by ((try apply evl_some rfl);(repeat (first|exact (rfl : _ = [])|apply evl_cons rfl (by (first|exact v_1|exact v_2|exact v_3|exact v_4|exact v_5|exact v_6|exact v_7|exact v_8|exact v_9|exact rfl))|exact rfl)))) rfl rfl (by (first|omega|(dsimp only at *;omega)|(simp at *;omega))) (by simp only []; (first|omega|(dsimp only at *;omega)|(simp at *;omega))) (by (first|omega|(dsimp only at *;omega)|(simp at *;omega))) (fun V8 hV8 => ?_))
      refine xr_op rfl rfl (xv_assign rfl ?_)
      refine xr_end rfl ?_
      refine th_n ?_
      refine xc_ret ?_
      refine body_ret (h' := (V8.hp 3 ([] ++ [I (((n % 8 : Nat) : Int) + 8)]) ++ h)) rfl (ro_tmp rfl ro_nil) (by (first|((repeat first|exact s_0|exact s_1|exact s_3|refine s_4 ?_|refine s_5 ?_|refine s_6 ?_|refine s_7 ?_);done)|((repeat first|exact s_0|exact s_1|exact s_3|refine s_4 ?_|refine s_5 ?_|refine s_6 ?_|refine s_8 ?_);done))) ?_
      (have e9 : octs n (if false then 0 else 8) = [] ++ [n % 8 + 8] := octs_small (by (first|omega|(dsimp only at *;omega)|(simp at *;omega))); have e8 : (octs n (if false then 0 else 8)).flatMap eN = [] ++ [I (((n % 8 : Nat) : Int) + 8)] := (by rw [e9, List.flatMap_append]; rfl); have e7 : (octs n (if false then 0 else 8)).length = 0 + 1 := (by rw [e9, List.length_append]; first | done | rfl); have h9 := H V8 (by rw [e7, e8]; exact hV8); rw [e7, e8] at h9; exact h9)
  · refine xr_op rfl rfl (xv_assign rfl ?_)
    refine xr_end rfl ?_
    refine th_n ?_
    refine xc_seq (xc_region ?_)
    refine xr_op rfl rfl (xv_assign rfl ?_)
    refine xr_end rfl ?_
    refine th_n ?_
    refine xc_seq ?_
    refine xc_seq (xc_region ?_)
    refine xr_op rfl rfl (xv_move rfl ?_)
    refine xr_op rfl rfl (xv_geq2 rfl rfl (fun q4 => ?_) (fun q4 => ?_))
    · refine xr_end rfl ?_
      refine th_n ?_
      refine xc_true rfl ?_
      refine xc_region ?_
      refine xr_op rfl rfl (xv_move rfl ?_)
      refine xr_op rfl rfl (xv_quo (c := ((n / 8 : Nat) : Int)) rfl rfl (by decide) (by rw [show ((n : Int)).tdiv 8 = ((n / 8 : Nat) : Int) from rfl]; exact wrap_i64 (by omega) (by omega)) ?_)
      refine xr_op rfl rfl (xv_calls rfl hb28 (ih (n / 8) (by omega) (last := false) (by omega) (fun V9 hV9 => up_ret ?_)))
      refine xr_op rfl rfl (xv_assign rfl ?_)
      refine xr_end rfl ?_
      refine th_n ?_
      refine xc_seq ?_
      refine xc_seq (xc_region ?_)
      refine xr_op rfl rfl (xv_move rfl ?_)
      refine xr_end rfl ?_
      refine th_n ?_
      refine xc_true rfl ?_
      refine xc_seq (xc_region ?_)
      refine xr_op rfl rfl (xv_move rfl ?_)
      refine xr_op rfl rfl (xv_move rfl ?_)
      refine xr_op rfl rfl (xv_rem (c := ((n % 8 : Nat) : Int)) rfl rfl (by decide) rfl ?_)
      refine xr_op rfl rfl ((al_buildSlice sl60 ty3 rfl rfl rfl rfl rfl (by ((try apply evl_some rfl);(repeat (first|exact (rfl : _ = [])|apply evl_cons rfl (by (first|exact v_1|exact v_2|exact v_3|exact v_4|exact v_5|exact v_6|exact v_7|exact v_8|exact v_9|exact rfl))|exact rfl))))).xv (fun b5 hb5 => ?_))
      refine xr_op rfl rfl (xv_append (V := V9) (n := (octs (n / 8) (if false then 0 else 8)).length) (xs := (octs (n / 8) (if false then 0 else 8)).flatMap eN) sl60 ty3 rfl rfl rfl hV9 (.there .here) (by ((repeat first|exact z_0|assumption|refine z_1 ?_|(refine z_l ?_;(repeat first|exact z_0|assumption|refine z_1 ?_);done)|refine z_r ?_);done)) (by ((try apply evl_some rfl);(repeat (first|exact (rfl : _ = [])|apply evl_cons rfl (by (first|exact v_1|exact v_2|exact v_3|exact v_4|exact v_5|exact v_6|exact v_7|exact v_8|exact v_9|exact rfl))|exact rfl)))) rfl rfl (by (first|omega|(dsimp only at *;omega)|(simp at *;omega))) (by simp only []; (first|omega|(dsimp only at *;omega)|(simp at *;omega))) (by (first|omega|(dsimp only at *;omega)|(simp at *;omega))) (fun V8 hV8 => ?_))
      refine xr_op rfl rfl (xv_assign rfl ?_)
      refine xr_end rfl ?_
      refine th_n ?_
      refine xc_ret ?_
      refine th_r ?_
      refine body_ret (h' := (V8.hp 3 ((octs (n / 8) (if false then 0 else 8)).flatMap eN ++ [I (((n % 8 : Nat) : Int))]) ++ h)) rfl (ro_tmp rfl ro_nil) (by (first|((repeat first|exact s_0|exact s_1|exact s_3|refine s_4 ?_|refine s_5 ?_|refine s_6 ?_|refine s_7 ?_);done)|((repeat first|exact s_0|exact s_1|exact s_3|refine s_4 ?_|refine s_5 ?_|refine s_6 ?_|refine s_8 ?_);done))) ?_
      (have e9 : octs n (if true then 0 else 8) = octs (n / 8) 8 ++ [n % 8 + 0] := octs_big (by (first|omega|(dsimp only at *;omega)|(simp at *;omega))); have e8 : (octs n (if true then 0 else 8)).flatMap eN = (octs (n / 8) (if false then 0 else 8)).flatMap eN ++ [I (((n % 8 : Nat) : Int))] := (by rw [e9, List.flatMap_append]; rfl); have e7 : (octs n (if true then 0 else 8)).length = (octs (n / 8) (if false then 0 else 8)).length + 1 := (by rw [e9, List.length_append]; first | done | rfl); have h9 := H V8 (by rw [e7, e8]; exact hV8); rw [e7, e8] at h9; exact h9)
    · refine xr_end rfl ?_
      refine th_n ?_
      refine xc_false rfl ?_
      refine xc_skip ?_
      refine th_n ?_
      refine xc_seq ?_
      refine xc_seq (xc_region ?_)
      refine xr_op rfl rfl (xv_move rfl ?_)
      refine xr_end rfl ?_
      refine th_n ?_
      refine xc_true rfl ?_
      refine xc_seq (xc_region ?_)
      refine xr_op rfl rfl (xv_move rfl ?_)
      refine xr_op rfl rfl (xv_move rfl ?_)
      refine xr_op rfl rfl (xv_rem (c := ((n % 8 : Nat) : Int)) rfl rfl (by decide) rfl ?_)
      refine xr_op rfl rfl ((al_buildSlice sl60 ty3 rfl rfl rfl rfl rfl (by ((try apply evl_some rfl);(repeat (first|exact (rfl : _ = [])|apply evl_cons rfl (by (first|exact v_1|exact v_2|exact v_3|exact v_4|exact v_5|exact v_6|exact v_7|exact v_8|exact v_9|exact rfl))|exact rfl))))).xv (fun b6 hb6 => ?_))
      refine xr_op rfl rfl (xv_append (V := .nil) (n := 0) (xs := []) sl60 ty3 rfl rfl rfl ⟨rfl, rfl⟩ (.there .here) (by ((repeat first|exact z_0|assumption|refine z_1 ?_|(refine z_l ?_;(repeat first|exact z_0|assumption|refine z_1 ?_);done)|refine z_r ?_);done)) (by ((try apply evl_some rfl);(repeat (first|exact (rfl : _ = [])|apply evl_cons rfl (by (first|exact v_1|exact v_2|exact v_3|exact v_4|exact v_5|exact v_6|exact v_7|exact v_8|exact v_9|exact rfl))|exact rfl)))) rfl rfl (by (first|omega|(dsimp only at *;omega)|(simp at *;omega))) (by simp only []; (first|omega|(dsimp only at *;omega)|(simp at *;omega))) (by (first|omega|(dsimp only at *;omega)|(simp at *;omega))) (fun V8 hV8 => ?_))
      refine xr_op rfl rfl (xv_assign rfl ?_)
      refine xr_end rfl ?_
      refine th_n ?_
      refine xc_ret ?_
      refine th_r ?_
      refine body_ret (h' := (V8.hp 3 ([] ++ [I (((n % 8 : Nat) : Int))]) ++ h)) rfl (ro_tmp rfl ro_nil) (by (first|((repeat first|exact s_0|exact s_1|exact s_3|refine s_4 ?_|refine s_5 ?_|refine s_6 ?_|refine s_7 ?_);done)|((repeat first|exact s_0|exact s_1|exact s_3|refine s_4 ?_|refine s_5 ?_|refine s_6 ?_|refine s_8 ?_);done))) ?_
      (have e9 : octs n (if true then 0 else 8) = [] ++ [n % 8 + 0] := octs_small (by (first|omega|(dsimp only at *;omega)|(simp at *;omega))); have e8 : (octs n (if true then 0 else 8)).flatMap eN = [] ++ [I (((n % 8 : Nat) : Int))] := (by rw [e9, List.flatMap_append]; rfl); have e7 : (octs n (if true then 0 else 8)).length = 0 + 1 := (by rw [e9, List.length_append]; first | done | rfl); have h9 := H V8 (by rw [e7, e8]; exact hV8); rw [e7, e8] at h9; exact h9)

end Go.Proofs.YtlpkiolopelpfaaDoor

/-
  Walks.
-/
namespace Go.Proofs.YtlpkiolopelpfaaDoor
open Go Go.H
set_option maxRecDepth 100000
set_option maxHeartbeats 8000000
set_option linter.all false
theorem RWriteLog_c {xs : List Sight} {a : Option Addr} {c : Nat} {h : Hp} {R : Ending → Hp → Prop} (hs : SlV h 2 eSight a xs) (hl : xs.length ≤ 1000000) (H1 : (errL 60 sightOk ltSight xs) ≠ 0 → R (.returned (.tuple ⟨[.slice none 0 0, I (errL 60 sightOk ltSight xs)]⟩)) h)
    (H2 : (errL 60 sightOk ltSight xs) = 0 → ∀ V : Vec, V.ok 1 (logB xs).length ((logB xs).flatMap eB) → R (.returned (.tuple ⟨[.slice V.ad (logB xs).length V.cp, I 0]⟩)) (V.hp 5 ((logB xs).flatMap eB) ++ h)) : ACalls Tryd.prog 7 ⟨[.slice a xs.length c]⟩ h R := by
  refine calls_of_xc (N := 59) Tryd.func7 rfl (by rfl) ?_
  refine xc_seq (xc_region ?_)
  refine xr_op rfl rfl (xv_assign rfl ?_)
  refine xr_op rfl rfl (xv_assign rfl ?_)
  refine xr_end rfl ?_
  refine th_n ?_
  refine xc_seq (xc_region ?_)
  refine xr_op rfl rfl (xv_move rfl ?_)
  refine xr_op rfl rfl (xv_calls rfl hb26 (RLog_c hs hl (up_ret ?_)))
  refine xr_op rfl rfl (xv_assign rfl ?_)
  refine xr_end rfl ?_
  refine th_n ?_
  refine xc_seq ?_
  refine xc_seq (xc_region ?_)
  refine xr_op rfl rfl (xv_move rfl ?_)
  refine xr_op rfl rfl (xv_neq2 rfl rfl (fun q1 => ?_) (fun q1 => ?_))
  · refine xr_end rfl ?_
    refine th_n ?_
    refine xc_true rfl ?_
    refine xc_seq (xc_region ?_)
    refine xr_op rfl rfl (xv_move rfl ?_)
    refine xr_op rfl rfl (xv_assign rfl ?_)
    refine xr_op rfl rfl (xv_assign rfl ?_)
    refine xr_end rfl ?_
    refine th_n ?_
    refine xc_ret ?_
    refine th_r ?_
    refine body_ret (h' := h) rfl (ro_tmp rfl (ro_tmp rfl ro_nil)) (by (first|((repeat first|exact s_0|exact s_1|exact s_3|refine s_4 ?_|refine s_5 ?_|refine s_6 ?_|refine s_7 ?_);done)|((repeat first|exact s_0|exact s_1|exact s_3|refine s_4 ?_|refine s_5 ?_|refine s_6 ?_|refine s_8 ?_);done))) ?_
    exact H1 (by omega)
  · refine xr_end rfl ?_
    refine th_n ?_
    refine xc_false rfl ?_
    refine xc_skip ?_
    refine th_n ?_
    refine xc_seq (xc_region ?_)
    obtain ⟨hl60, hok, has9⟩ := errL_is (show (errL 60 sightOk ltSight xs) = 0 by omega)
    have hlA := logA_len xs
    have hAb := logA_bd hok has9 hl60
    have hvl := hvA_len hAb
    refine xr_op rfl rfl (xv_move rfl ?_)
    refine xr_op rfl rfl (xv_calls rfl hb27 (RNumbers_c (hs.sub (by intro z9 hz9; ((repeat first|exact z_0|assumption|refine z_1 ?_|(refine z_l ?_;(repeat first|exact z_0|assumption|refine z_1 ?_);done)|refine z_r ?_);done))) hok has9 hl60 (fun V hV => up_ret ?_)))
    refine xr_op rfl rfl (xv_assign rfl ?_)
    refine xr_end rfl ?_
    refine th_n ?_
    refine xc_seq (xc_region ?_)
    refine xr_op rfl rfl (xv_assign rfl ?_)
    refine xr_end rfl ?_
    refine th_n ?_
    refine xc_seq ?_
    refine xc_seq (xc_region ?_)
    refine xr_op rfl rfl (xv_assign rfl ?_)
    refine xr_end rfl ?_
    refine th_n ?_
    refine xc_block ?_
    refine xc_loop (σ := Nat × Vec) (fun z => z.1 ≤ (logA xs).length ∧ z.2.ok 1 (hvA ((logA xs).take z.1)).length ((hvA ((logA xs).take z.1)).flatMap eN)) (fun z => (((emp.put (some 5) (.slice V.ad (logA xs).length V.cp)).put (some 6) (z.2.val (hvA ((logA xs).take z.1)).length)).put (some 7) (I z.1))) (fun z => (z.2.hp 3 ((hvA ((logA xs).take z.1)).flatMap eN) ++ (V.hp 3 ((logA xs).flatMap eI) ++ h))) (fun z => (logA xs).length - z.1) ((0, .nil) : Nat × Vec) ⟨Nat.zero_le _, ⟨rfl, rfl⟩⟩ (le_put (le_put (le_put (le_emp _) rfl) rfl) rfl) (by (first|((repeat first|exact s_0|exact s_1|exact s_3|refine s_4 ?_|refine s_5 ?_|refine s_6 ?_|refine s_7 ?_);done)|((repeat first|exact s_0|exact s_1|exact s_3|refine s_4 ?_|refine s_5 ?_|refine s_6 ?_|refine s_8 ?_);done))) ?_
    rintro ⟨k, W⟩ ⟨hk, hW⟩
    dsimp only at hk hW
    refine xc_seq ?_
    refine xc_seq (xc_region ?_)
    refine xr_op rfl rfl (xv_move rfl ?_)
    refine xr_op rfl rfl (xv_move rfl ?_)
    refine xr_op rfl rfl (xv_len sl60 rfl ?_)
    refine xr_op rfl rfl (xv_lss2 rfl rfl (fun q2 => ?_) (fun q2 => ?_))
    · refine xr_end rfl ?_
      refine th_n ?_
      refine xc_true rfl ?_
      refine xc_skip ?_
      refine th_n ?_
      refine xc_seq ?_
      refine xc_block ?_
      refine xc_region ?_
      have hlto : k < (logA xs).length := by (first|omega|(dsimp only at *;omega)|(simp at *;omega))
      obtain ⟨bo, oo, lo, to, fzo, hao, hmo, hxo⟩ := (((Vec.slvA eI_len rfl hV).sub (fun z hz => by ((repeat first|exact z_0|assumption|refine z_1 ?_|(refine z_l ?_;(repeat first|exact z_0|assumption|refine z_1 ?_);done)|refine z_r ?_);done)))).at hlto
      obtain ⟨xo, hko⟩ : ∃ qq_, (logA xs)[k]? = some qq_ := ⟨_, List.getElem?_eq_getElem hlto⟩
      have hbo := hAb xo (List.mem_of_getElem? hko)
      have hxe : ((xo.toNat : Nat) : Int) = xo := by omega
      have hvk := hvA_len (l := (logA xs).take k) (fun n hn => hAb n (List.mem_of_mem_take hn))
      have htk : ((logA xs).take k).length = k := by rw [List.length_take]; (first|omega|(dsimp only at *;omega)|(simp at *;omega))
      refine xr_op rfl rfl (xv_move rfl ?_)
      refine xr_op rfl rfl (xv_move rfl ?_)
      refine xr_op rfl rfl (xv_move rfl ?_)
      refine xr_op rfl rfl (xv_ia (sz := 1) (j := k) sl60 ty3 rfl (by rw [hao]; rfl) rfl (by (first | assumption | with_reducible exact Int.toNat_natCast _ | with_reducible rfl | rfl)) (by (first|omega|(dsimp only at *;omega)|(simp at *;omega))) (by (first|omega|(dsimp only at *;omega)|(simp at *;omega))) ?_)
      refine xr_op rfl rfl (xv_load1 ty3 rfl rfl (by ((repeat first|exact z_0|assumption|refine z_1 ?_|(refine z_l ?_;(repeat first|exact z_0|assumption|refine z_1 ?_);done)|refine z_r ?_);done)) (show _ = some (I ((xo.toNat : Nat) : Int)) by rw [hxe]; exact take_get (hxo (k) xo hko) (j := 0) rfl) ?_)
      refine xr_op rfl rfl (xv_calls rfl hb28 (digits_c xo.toNat (last := true) (by omega) (fun V9 hV9 => up_ret ?_)))
      rw [Vec.val_ad hV9]
      refine xr_op rfl rfl (xv_appendL (enc := eN) (V := W) (n := (hvA ((logA xs).take k)).length) (xs := (hvA ((logA xs).take k)).flatMap eN) (ys := octs xo.toNat 0) sl60 ty3 rfl rfl rfl rfl hW (.skip .here) ((Vec.slvA eN_len rfl hV9).sub (fun z hz => by ((repeat first|exact z_0|assumption|refine z_1 ?_|(refine z_l ?_;(repeat first|exact z_0|assumption|refine z_1 ?_);done)|refine z_r ?_);done))) eN_len eN_1 (by simp only []; have := octs_len21 (n := xo.toNat) (more := 0) (by omega); (first|omega|(dsimp only at *;omega)|(simp at *;omega))) (by have := octs_len21 (n := xo.toNat) (more := 0) (by omega); (first|omega|(dsimp only at *;omega)|(simp at *;omega))) (fun W2 hW2 => ?_))
      refine xr_op rfl rfl (xv_assign rfl ?_)
      refine xr_end rfl ?_
      refine bk_n ?_
      refine th_n ?_
      refine xc_region ?_
      refine xr_op rfl rfl (xv_move rfl ?_)
      refine xr_op rfl rfl (xv_add rfl rfl (wrap_i64 (by (first|omega|(dsimp only at *;omega)|(simp at *;omega))) (by (first|omega|(dsimp only at *;omega)|(simp at *;omega)))) ?_)
      refine xr_op rfl rfl (xv_assign rfl ?_)
      refine xr_end rfl ?_
      have esn : (hvA ((logA xs).take (k + 1))) = (hvA ((logA xs).take k)) ++ octs xo.toNat 0 := by rw [List.take_add_one, hko]; exact hvA_snoc _ _
      exact rnd ((k + 1, W2) : Nat × Vec) ⟨by (first|omega|(dsimp only at *;omega)|(simp at *;omega)), by dsimp only; rw [esn, List.length_append, List.flatMap_append]; exact hW2⟩ (by (first|omega|(dsimp only at *;omega)|(simp at *;omega))) (le_put (le_put (le_put (le_emp _) rfl) (by dsimp only; rw [esn, List.length_append]; rfl)) rfl) (by dsimp only; rw [esn, List.flatMap_append]; (first|((repeat first|exact s_0|exact s_1|exact s_3|refine s_4 ?_|refine s_5 ?_|refine s_6 ?_|refine s_7 ?_);done)|((repeat first|exact s_0|exact s_1|exact s_3|refine s_4 ?_|refine s_5 ?_|refine s_6 ?_|refine s_8 ?_);done)))
    · refine xr_end rfl ?_
      refine th_n ?_
      refine xc_false rfl ?_
      refine xc_exit ?_
      refine th_x ?_
      refine th_x ?_
      refine bk_same ?_
      refine th_n ?_
      refine xc_join (σ := Vec) (fun W => W.ok 1 (padL (hvA (logA xs))).length ((padL (hvA (logA xs))).flatMap eN)) (fun W => (emp.put (some 6) (.slice W.ad (padL (hvA (logA xs))).length W.cp))) (fun W => (W.hp 3 ((padL (hvA (logA xs))).flatMap eN) ++ (V.hp 3 ((logA xs).flatMap eI) ++ h))) ?_ ?_
      · refine xc_seq (xc_region ?_)
        obtain rfl : k = (logA xs).length := by (first|omega|(dsimp only at *;omega)|(simp at *;omega))
        rw [List.take_length] at hW ⊢
        refine xr_op rfl rfl (xv_move rfl ?_)
        refine xr_op rfl rfl (xv_lenV sl60 hW rfl ?_)
        refine xr_op rfl rfl (xv_rem (c := (((hvA (logA xs)).length % 2 : Nat) : Int)) rfl rfl (by decide) rfl ?_)
        refine xr_op rfl rfl (xv_eql2 rfl rfl (fun q3 => ?_) (fun q3 => ?_))
        · refine xr_end rfl ?_
          refine th_n ?_
          refine xc_true rfl ?_
          refine xc_region ?_
          refine xr_op rfl rfl (xv_move rfl ?_)
          refine xr_op rfl rfl ((al_buildSlice sl60 ty3 rfl rfl rfl rfl rfl (by ((try apply evl_some rfl);(repeat (first|exact (rfl : _ = [])|apply evl_cons rfl (by (first|exact v_1|exact v_2|exact v_3|exact v_4|exact v_5|exact v_6|exact v_7|exact v_8|exact v_9|exact rfl))|exact rfl))))).xv (fun b4 hb4 => ?_))
          refine xr_op rfl rfl (xv_append (V := W) (n := (hvA (logA xs)).length) (xs := (hvA (logA xs)).flatMap eN) sl60 ty3 rfl rfl rfl hW (.there .here) (by ((repeat first|exact z_0|assumption|refine z_1 ?_|(refine z_l ?_;(repeat first|exact z_0|assumption|refine z_1 ?_);done)|refine z_r ?_);done)) (by ((try apply evl_some rfl);(repeat (first|exact (rfl : _ = [])|apply evl_cons rfl (by (first|exact v_1|exact v_2|exact v_3|exact v_4|exact v_5|exact v_6|exact v_7|exact v_8|exact v_9|exact rfl))|exact rfl)))) rfl rfl (by (first|omega|(dsimp only at *;omega)|(simp at *;omega))) (by simp only []; (first|omega|(dsimp only at *;omega)|(simp at *;omega))) (by (first|omega|(dsimp only at *;omega)|(simp at *;omega))) (fun W8 hW8 => ?_))
          refine xr_op rfl rfl (xv_assign rfl ?_)
          refine xr_end rfl ?_
          have epd : (padL (hvA (logA xs))) = hvA (logA xs) ++ [0] := if_pos (by (first|omega|(dsimp only at *;omega)|(simp at *;omega)))
          have epl : (hvA (logA xs) ++ [0]).length = (hvA (logA xs)).length + 1 := by rw [List.length_append]; rfl
          have epf : (hvA (logA xs) ++ [0]).flatMap eN = (hvA (logA xs)).flatMap eN ++ [I 0] := by rw [List.flatMap_append]; rfl
          exact jn_n W8 (by rw [epd, epl, epf]; exact hW8) (le_put (le_emp _) (by show some (Vec.val _ _) = _; rw [epd, epl, Vec.val_ad hW8])) (by rw [epd, epf]; (first|((repeat first|exact s_0|exact s_1|exact s_3|refine s_4 ?_|refine s_5 ?_|refine s_6 ?_|refine s_7 ?_);done)|((repeat first|exact s_0|exact s_1|exact s_3|refine s_4 ?_|refine s_5 ?_|refine s_6 ?_|refine s_8 ?_);done)))
        · refine xr_end rfl ?_
          refine th_n ?_
          refine xc_false rfl ?_
          refine xc_skip ?_
          have epd : (padL (hvA (logA xs))) = hvA (logA xs) := if_neg (by (first|omega|(dsimp only at *;omega)|(simp at *;omega)))
          exact jn_n W (by rw [epd]; exact hW) (le_put (le_emp _) (by show some (Vec.val _ _) = _; rw [epd, Vec.val_ad hW])) (by rw [epd]; (first|((repeat first|exact s_0|exact s_1|exact s_3|refine s_4 ?_|refine s_5 ?_|refine s_6 ?_|refine s_7 ?_);done)|((repeat first|exact s_0|exact s_1|exact s_3|refine s_4 ?_|refine s_5 ?_|refine s_6 ?_|refine s_8 ?_);done)))
      · rintro W hW
        have hev := padL_even (hvA (logA xs))
        have hplt := padL_lt (hvA_lt (logA xs))
        have hpln := padL_len (hvA (logA xs))
        refine xc_seq (xc_region ?_)
        refine xr_op rfl rfl (xv_assign rfl ?_)
        refine xr_end rfl ?_
        refine th_n ?_
        refine xc_seq ?_
        refine xc_seq (xc_region ?_)
        refine xr_op rfl rfl (xv_assign rfl ?_)
        refine xr_end rfl ?_
        refine th_n ?_
        refine xc_block ?_
        refine xc_loop (σ := Nat × Vec) (fun z => 2 * z.1 ≤ (padL (hvA (logA xs))).length ∧ z.2.ok 1 z.1 ((pk ((padL (hvA (logA xs))).take (2 * z.1))).flatMap eB)) (fun z => (((emp.put (some 6) (.slice W.ad (padL (hvA (logA xs))).length W.cp)).put (some 8) (z.2.val z.1)).put (some 9) (I ((2 * z.1 : Nat) : Int)))) (fun z => (z.2.hp 5 ((pk ((padL (hvA (logA xs))).take (2 * z.1))).flatMap eB) ++ (W.hp 3 ((padL (hvA (logA xs))).flatMap eN) ++ (V.hp 3 ((logA xs).flatMap eI) ++ h)))) (fun z => (padL (hvA (logA xs))).length - 2 * z.1) ((0, .nil) : Nat × Vec) ⟨Nat.zero_le _, ⟨rfl, rfl⟩⟩ (le_put (le_put (le_put (le_emp _) rfl) rfl) rfl) (by (first|((repeat first|exact s_0|exact s_1|exact s_3|refine s_4 ?_|refine s_5 ?_|refine s_6 ?_|refine s_7 ?_);done)|((repeat first|exact s_0|exact s_1|exact s_3|refine s_4 ?_|refine s_5 ?_|refine s_6 ?_|refine s_8 ?_);done))) ?_
        rintro ⟨k, U⟩ ⟨hk, hU⟩
        dsimp only at hk hU
        refine xc_seq ?_
        refine xc_seq (xc_region ?_)
        refine xr_op rfl rfl (xv_move rfl ?_)
        refine xr_op rfl rfl (xv_move rfl ?_)
        refine xr_op rfl rfl (xv_len sl60 rfl ?_)
        refine xr_op rfl rfl (xv_lss2 rfl rfl (fun q5 => ?_) (fun q5 => ?_))
        · refine xr_end rfl ?_
          refine th_n ?_
          refine xc_true rfl ?_
          refine xc_skip ?_
          refine th_n ?_
          refine xc_seq ?_
          refine xc_block ?_
          refine xc_draw0 [(0, .S), (1, .S), (2, .S), (3, .S), (4, .R), (5, .S), (6, .S), (7, .S), (8, .S), (9, .S), (10, .R), (11, .S), (12, .S), (13, .P), (13, .A), (14, .O), (15, .S)] mixed (by kernel_rfl) ?_
          have hlto : (2 * k) < (padL (hvA (logA xs))).length := by (first|omega|(dsimp only at *;omega)|(simp at *;omega))
          obtain ⟨bo, oo, lo, to, fzo, hao, hmo, hxo⟩ := (((Vec.slvA eN_len rfl hW).sub (fun z hz => by ((repeat first|exact z_0|assumption|refine z_1 ?_|(refine z_l ?_;(repeat first|exact z_0|assumption|refine z_1 ?_);done)|refine z_r ?_);done)))).at hlto
          obtain ⟨xo, hko⟩ : ∃ qq_, (padL (hvA (logA xs)))[(2 * k)]? = some qq_ := ⟨_, List.getElem?_eq_getElem hlto⟩
          have hltp : (2 * k + 1) < (padL (hvA (logA xs))).length := by (first|omega|(dsimp only at *;omega)|(simp at *;omega))
          obtain ⟨bp, op, lp, tp, fzp, hap, hmp, hxp⟩ := (((Vec.slvA eN_len rfl hW).sub (fun z hz => by ((repeat first|exact z_0|assumption|refine z_1 ?_|(refine z_l ?_;(repeat first|exact z_0|assumption|refine z_1 ?_);done)|refine z_r ?_);done)))).at hltp
          obtain ⟨xp, hkp⟩ : ∃ qq_, (padL (hvA (logA xs)))[(2 * k + 1)]? = some qq_ := ⟨_, List.getElem?_eq_getElem hltp⟩
          have hxo9 := hplt xo (List.mem_of_getElem? hko)
          have hxp9 := hplt xp (List.mem_of_getElem? hkp)
          refine js_S rfl rfl (.inl rfl) (xv_move rfl ⟨rfl, rfl⟩) ?_
          refine js_S rfl rfl (.inl rfl) (xv_move rfl ⟨rfl, rfl⟩) ?_
          refine js_S rfl rfl (.inl rfl) (xv_move rfl ⟨rfl, rfl⟩) ?_
          refine js_S rfl rfl (.inl rfl) (xv_ia (sz := 1) (j := 2 * k) sl60 ty3 rfl (by rw [hao]; rfl) rfl (by (first | assumption | with_reducible exact Int.toNat_natCast _ | with_reducible rfl | rfl)) (by (first|omega|(dsimp only at *;omega)|(simp at *;omega))) (by (first|omega|(dsimp only at *;omega)|(simp at *;omega))) ⟨rfl, rfl⟩) ?_
          refine js_R0 rfl rfl (.inl rfl) (xv_load1 ty3 rfl rfl (by ((repeat first|exact z_0|assumption|refine z_1 ?_|(refine z_l ?_;(repeat first|exact z_0|assumption|refine z_1 ?_);done)|refine z_r ?_);done)) (take_get (hxo (2 * k) xo hko) (j := 0) rfl) ⟨rfl, rfl⟩) ?_
          refine js_S rfl rfl (.inl rfl) (xv_mul rfl rfl (wrap_i64 (by (first|omega|(dsimp only at *;omega)|(simp at *;omega))) (by (first|omega|(dsimp only at *;omega)|(simp at *;omega)))) ⟨rfl, rfl⟩) ?_
          refine js_S rfl rfl (.inl rfl) (xv_move rfl ⟨rfl, rfl⟩) ?_
          refine js_S rfl rfl (.inl rfl) (xv_move rfl ⟨rfl, rfl⟩) ?_
          refine js_S rfl rfl (.inl rfl) (xv_add (c := ((2 * k + 1 : Nat) : Int)) rfl rfl (by push_cast; exact wrap_i64 (by (first|omega|(dsimp only at *;omega)|(simp at *;omega))) (by (first|omega|(dsimp only at *;omega)|(simp at *;omega)))) ⟨rfl, rfl⟩) ?_
          refine js_S rfl rfl (.inl rfl) (xv_ia (sz := 1) (j := 2 * k + 1) sl60 ty3 rfl (by rw [hap]; rfl) rfl (by (first | assumption | with_reducible exact Int.toNat_natCast _ | with_reducible rfl | rfl)) (by (first|omega|(dsimp only at *;omega)|(simp at *;omega))) (by (first|omega|(dsimp only at *;omega)|(simp at *;omega))) ⟨rfl, rfl⟩) ?_
          refine js_R0 rfl rfl (.inl rfl) (xv_load1 ty3 rfl rfl (by ((repeat first|exact z_0|assumption|refine z_1 ?_|(refine z_l ?_;(repeat first|exact z_0|assumption|refine z_1 ?_);done)|refine z_r ?_);done)) (take_get (hxp (2 * k + 1) xp hkp) (j := 0) rfl) ⟨rfl, rfl⟩) ?_
          refine js_S rfl rfl (.inl rfl) (xv_add rfl rfl (wrap_i64 (by (first|omega|(dsimp only at *;omega)|(simp at *;omega))) (by (first|omega|(dsimp only at *;omega)|(simp at *;omega)))) ⟨rfl, rfl⟩) ?_
          refine js_S rfl rfl (.inl rfl) (xv_convI (m := ((16 * xo + xp : Nat) : Int)) Tryd.underlying3 Tryd.underlying5 rfl (by rw [IntKind.wrap_u8]; push_cast; omega) ⟨rfl, rfl⟩) ?_
          refine js_P rfl rfl rfl (al_buildSlice sl23 ty5 rfl rfl rfl rfl rfl (by ((try apply evl_some rfl);(repeat (first|exact (rfl : _ = [])|apply evl_cons rfl (by (first|exact v_1|exact v_2|exact v_3|exact v_4|exact v_5|exact v_6|exact v_7|exact v_8|exact v_9|exact rfl))|exact rfl))))) ?_
          refine js_A0 rfl rfl rfl rfl rfl ⟨rfl, trivial⟩ (fun b7 hb7 => ?_)
          refine js_O0 rfl rfl (.inl rfl) (xv_append (V := U) (n := k) (xs := (pk ((padL (hvA (logA xs))).take (2 * k))).flatMap eB) sl23 ty5 rfl rfl rfl hU (.there .here) (by ((repeat first|exact z_0|assumption|refine z_1 ?_|(refine z_l ?_;(repeat first|exact z_0|assumption|refine z_1 ?_);done)|refine z_r ?_);done)) (by ((try apply evl_some rfl);(repeat (first|exact (rfl : _ = [])|apply evl_cons rfl (by (first|exact v_1|exact v_2|exact v_3|exact v_4|exact v_5|exact v_6|exact v_7|exact v_8|exact v_9|exact rfl))|exact rfl)))) rfl rfl (by (first|omega|(dsimp only at *;omega)|(simp at *;omega))) (by simp only []; (first|omega|(dsimp only at *;omega)|(simp at *;omega))) (by (first|omega|(dsimp only at *;omega)|(simp at *;omega))) (fun U2 hU2 => ?_))
          refine js_S rfl rfl (.inl rfl) (xv_assign rfl ⟨rfl, rfl⟩) ?_
          refine j_end0 ?_
          refine bk_n ?_
          refine th_n ?_
          refine xc_region ?_
          refine xr_op rfl rfl (xv_move rfl ?_)
          refine xr_op rfl rfl (xv_add rfl rfl (wrap_i64 (by (first|omega|(dsimp only at *;omega)|(simp at *;omega))) (by (first|omega|(dsimp only at *;omega)|(simp at *;omega)))) ?_)
          refine xr_op rfl rfl (xv_assign rfl ?_)
          refine xr_end rfl ?_
          have epk : (pk ((padL (hvA (logA xs))).take (2 * (k + 1)))).flatMap eB = (pk ((padL (hvA (logA xs))).take (2 * k))).flatMap eB ++ [U8 ((16 * xo + xp : Nat) : Int)] := by rw [pk_get hko hkp hev, List.flatMap_append]; rfl
          exact rnd ((k + 1, U2) : Nat × Vec) ⟨by (first|omega|(dsimp only at *;omega)|(simp at *;omega)), by dsimp only; rw [epk]; exact hU2⟩ (by (first|omega|(dsimp only at *;omega)|(simp at *;omega))) (le_put (le_put (le_put (le_emp _) rfl) rfl) (by show _ = some (I _); push_cast; rfl)) (by dsimp only; rw [epk]; (first|((repeat first|exact s_0|exact s_1|exact s_3|refine s_4 ?_|refine s_5 ?_|refine s_6 ?_|refine s_7 ?_);done)|((repeat first|exact s_0|exact s_1|exact s_3|refine s_4 ?_|refine s_5 ?_|refine s_6 ?_|refine s_8 ?_);done)))
        · refine xr_end rfl ?_
          refine th_n ?_
          refine xc_false rfl ?_
          refine xc_exit ?_
          refine th_x ?_
          refine th_x ?_
          refine bk_same ?_
          refine th_n ?_
          refine xc_seq (xc_region ?_)
          obtain ⟨n9, hn9⟩ : ∃ n, 2 * k = n := ⟨_, rfl⟩
          have hkk : 2 * k = (padL (hvA (logA xs))).length := by (first|omega|(dsimp only at *;omega)|(simp at *;omega))
          have ebB : pk ((padL (hvA (logA xs))).take (2 * k)) = logB xs := by rw [hkk, List.take_length, logB_eq]
          have ekB : k = (logB xs).length := by rw [logB_eq, pk_len]; (first|omega|(dsimp only at *;omega)|(simp at *;omega))
          rw [ebB] at hU ⊢
          rw [Vec.val_ad hU, ekB]
          rw [ekB] at hU
          refine xr_op rfl rfl (xv_move rfl ?_)
          refine xr_op rfl rfl (xv_assign rfl ?_)
          refine xr_op rfl rfl (xv_assign rfl ?_)
          refine xr_end rfl ?_
          refine th_n ?_
          refine xc_ret ?_
          refine body_ret (h' := (U.hp 5 ((logB xs).flatMap eB) ++ h)) rfl (ro_tmp rfl (ro_tmp rfl ro_nil)) (by (first|((repeat first|exact s_0|exact s_1|exact s_3|refine s_4 ?_|refine s_5 ?_|refine s_6 ?_|refine s_7 ?_);done)|((repeat first|exact s_0|exact s_1|exact s_3|refine s_4 ?_|refine s_5 ?_|refine s_6 ?_|refine s_8 ?_);done))) ?_
          exact H2 (by omega) U hU

end Go.Proofs.YtlpkiolopelpfaaDoor

/-
  Walks.
-/
namespace Go.Proofs.YtlpkiolopelpfaaDoor
open Go Go.H
set_option maxRecDepth 100000
set_option maxHeartbeats 8000000
set_option linter.all false
theorem RReadLog_c {bs : List Int} {a : Option Addr} {c : Nat} {h : Hp} {R : Ending → Hp → Prop} (hs : SlV h 1 eB a bs) (hlen : bs.length ≤ 100000) (hbb : byt bs) (H1 : refRead bs = none → R (.returned (.tuple ⟨[.slice none 0 0, I 8]⟩)) h)
    (H2 : ∀ l (V : Vec), refRead bs = some l → V.ok 2 l.length (l.flatMap eSight) → R (.returned (.tuple ⟨[.slice V.ad l.length V.cp, I 0]⟩)) (V.hp 44 (l.flatMap eSight) ++ h)) : ACalls Tryd.prog 9 ⟨[.slice a bs.length c]⟩ h R := by
  refine calls_of_xc (N := 125) Tryd.func9 rfl (by rfl) ?_
  have hvl := hvL_len bs
  refine xc_seq (xc_region ?_)
  refine xr_op rfl rfl (xv_assign rfl ?_)
  refine xr_op rfl rfl (xv_assign rfl ?_)
  refine xr_end rfl ?_
  refine th_n ?_
  refine xc_seq (xc_region ?_)
  refine xr_op rfl rfl (xv_assign rfl ?_)
  refine xr_end rfl ?_
  refine th_n ?_
  refine xc_seq (xc_region ?_)
  refine xr_op rfl rfl (xv_assign rfl ?_)
  refine xr_end rfl ?_
  refine th_n ?_
  refine xc_seq ?_
  refine xc_seq (xc_region ?_)
  refine xr_op rfl rfl (xv_assign rfl ?_)
  refine xr_end rfl ?_
  refine th_n ?_
  refine xc_block ?_
  refine xc_loop (σ := Nat × List Int × Int × Vec) (fun z => z.1 ≤ 2 * bs.length ∧ refP (hvL bs) 0 = z.2.1 ++ refP ((hvL bs).drop z.1) z.2.2.1 ∧ z.2.2.2.ok 1 z.2.1.length (z.2.1.flatMap eI) ∧ (0 ≤ z.2.2.1 ∧ z.2.2.1 ≤ 1073741824) ∧ (∀ x ∈ z.2.1, 0 ≤ x ∧ x ≤ 1073741824) ∧ z.2.1.length ≤ z.1) (fun z => ((((emp.put (some 0) (.slice a bs.length c)).put (some 4) (z.2.2.2.val z.2.1.length)).put (some 5) (I z.2.2.1)).put (some 6) (I z.1))) (fun z => (z.2.2.2.hp 3 (z.2.1.flatMap eI) ++ h)) (fun z => 2 * bs.length - z.1) ((0, [], 0, .nil) : Nat × List Int × Int × Vec) ⟨Nat.zero_le _, rfl, ⟨rfl, rfl⟩, ⟨Int.le_refl _, by decide⟩, fun x hx => (by cases hx), Nat.le_refl _⟩ (le_put (le_put (le_put (le_put (le_emp _) rfl) rfl) rfl) rfl) (by (first|((repeat first|exact s_0|exact s_1|exact s_3|refine s_4 ?_|refine s_5 ?_|refine s_6 ?_|refine s_7 ?_);done)|((repeat first|exact s_0|exact s_1|exact s_3|refine s_4 ?_|refine s_5 ?_|refine s_6 ?_|refine s_8 ?_);done))) ?_
  rintro ⟨i, all, n, V⟩ ⟨hi, hacc, hV, hn, hab, hal⟩
  dsimp only at hi hacc hV hn hab hal
  refine xc_seq ?_
  refine xc_seq (xc_region ?_)
  refine xr_op rfl rfl (xv_move rfl ?_)
  refine xr_op rfl rfl (xv_move rfl ?_)
  refine xr_op rfl rfl (xv_len sl23 rfl ?_)
  refine xr_op rfl rfl (xv_mul (c := ((2 * bs.length : Nat) : Int)) rfl rfl (by push_cast; exact wrap_i64 (by (first|omega|(dsimp only at *;omega)|(simp at *;omega))) (by (first|omega|(dsimp only at *;omega)|(simp at *;omega)))) ?_)
  refine xr_op rfl rfl (xv_lss2 rfl rfl (fun q1 => ?_) (fun q1 => ?_))
  · refine xr_end rfl ?_
    refine th_n ?_
    refine xc_true rfl ?_
    refine xc_skip ?_
    refine th_n ?_
    refine xc_seq ?_
    refine xc_block ?_
    refine xc_seq (xc_region ?_)
    have hil : i / 2 < bs.length := by (first|omega|(dsimp only at *;omega)|(simp at *;omega))
    have hlto : (i / 2) < bs.length := hil
    obtain ⟨bo, oo, lo, to, fzo, hao, hmo, hxo⟩ := (hs).at hlto
    obtain ⟨xo, hko⟩ : ∃ qq_, bs[(i / 2)]? = some qq_ := ⟨_, List.getElem?_eq_getElem hlto⟩
    have hob := hbb xo (List.mem_of_getElem? hko)
    refine xr_op rfl rfl (xv_move rfl ?_)
    refine xr_op rfl rfl (xv_move rfl ?_)
    refine xr_op rfl rfl (xv_quo (c := ((i / 2 : Nat) : Int)) rfl rfl (by decide) (by rw [show ((i : Int)).tdiv 2 = ((i / 2 : Nat) : Int) from rfl]; exact wrap_i64 (by (first|omega|(dsimp only at *;omega)|(simp at *;omega))) (by (first|omega|(dsimp only at *;omega)|(simp at *;omega)))) ?_)
    refine xr_op rfl rfl (xv_ia (sz := 1) (j := (i / 2)) sl23 ty5 rfl (by rw [hao]; rfl) rfl (by (first | assumption | with_reducible exact Int.toNat_natCast _ | with_reducible rfl | rfl)) (by (first|omega|(dsimp only at *;omega)|(simp at *;omega))) (by (first|omega|(dsimp only at *;omega)|(simp at *;omega))) ?_)
    refine xr_op rfl rfl (xv_load1 ty5 rfl rfl (by ((repeat first|exact z_0|assumption|refine z_1 ?_|(refine z_l ?_;(repeat first|exact z_0|assumption|refine z_1 ?_);done)|refine z_r ?_);done)) (take_get (hxo ((i / 2)) xo hko) (j := 0) rfl) ?_)
    refine xr_op rfl rfl (xv_convI Tryd.underlying5 Tryd.underlying3 rfl (wrap_i64 (by (first|omega|(dsimp only at *;omega)|(simp at *;omega))) (by (first|omega|(dsimp only at *;omega)|(simp at *;omega)))) ?_)
    refine xr_op rfl rfl (xv_quo (c := xo / 16) rfl rfl (by decide) (by rw [Int.tdiv_eq_ediv_of_nonneg (by omega)]; exact wrap_i64 (by omega) (by omega)) ?_)
    refine xr_op rfl rfl (xv_assign rfl ?_)
    refine xr_end rfl ?_
    refine th_n ?_
    refine xc_join (σ := Int) (fun hx => (hvL bs)[i]? = some hx) (fun hx => (((((emp.put (some 0) (.slice a bs.length c)).put (some 4) (V.val all.length)).put (some 5) (I n)).put (some 6) (I i)).put (some 7) (I hx))) (fun hx => (V.hp 3 (all.flatMap eI) ++ h)) ?_ ?_
    · refine xc_seq (xc_region ?_)
      refine xr_op rfl rfl (xv_move rfl ?_)
      refine xr_op rfl rfl (xv_rem (c := ((i % 2 : Nat) : Int)) rfl rfl (by decide) rfl ?_)
      refine xr_op rfl rfl (xv_eql2 rfl rfl (fun q2 => ?_) (fun q2 => ?_))
      · refine xr_end rfl ?_
        refine th_n ?_
        refine xc_true rfl ?_
        refine xc_region ?_
        refine xr_op rfl rfl (xv_move rfl ?_)
        refine xr_op rfl rfl (xv_move rfl ?_)
        refine xr_op rfl rfl (xv_quo (c := ((i / 2 : Nat) : Int)) rfl rfl (by decide) (by rw [show ((i : Int)).tdiv 2 = ((i / 2 : Nat) : Int) from rfl]; exact wrap_i64 (by (first|omega|(dsimp only at *;omega)|(simp at *;omega))) (by (first|omega|(dsimp only at *;omega)|(simp at *;omega)))) ?_)
        refine xr_op rfl rfl (xv_ia (sz := 1) (j := (i / 2)) sl23 ty5 rfl (by rw [hao]; rfl) rfl (by (first | assumption | with_reducible exact Int.toNat_natCast _ | with_reducible rfl | rfl)) (by (first|omega|(dsimp only at *;omega)|(simp at *;omega))) (by (first|omega|(dsimp only at *;omega)|(simp at *;omega))) ?_)
        refine xr_op rfl rfl (xv_load1 ty5 rfl rfl (by ((repeat first|exact z_0|assumption|refine z_1 ?_|(refine z_l ?_;(repeat first|exact z_0|assumption|refine z_1 ?_);done)|refine z_r ?_);done)) (take_get (hxo ((i / 2)) xo hko) (j := 0) rfl) ?_)
        refine xr_op rfl rfl (xv_convI Tryd.underlying5 Tryd.underlying3 rfl (wrap_i64 (by (first|omega|(dsimp only at *;omega)|(simp at *;omega))) (by (first|omega|(dsimp only at *;omega)|(simp at *;omega)))) ?_)
        refine xr_op rfl rfl (xv_rem (c := xo % 16) rfl rfl (by decide) (Int.tmod_eq_emod_of_nonneg (by omega)) ?_)
        refine xr_op rfl rfl (xv_assign rfl ?_)
        refine xr_end rfl ?_
        exact jn_n (xo % 16) (by rw [hvL_getI hko, if_pos (by (first|omega|(dsimp only at *;omega)|(simp at *;omega)))]) (le_put (le_put (le_put (le_put (le_put (le_emp _) rfl) rfl) rfl) rfl) rfl) (by (first|((repeat first|exact s_0|exact s_1|exact s_3|refine s_4 ?_|refine s_5 ?_|refine s_6 ?_|refine s_7 ?_);done)|((repeat first|exact s_0|exact s_1|exact s_3|refine s_4 ?_|refine s_5 ?_|refine s_6 ?_|refine s_8 ?_);done)))
      · refine xr_end rfl ?_
        refine th_n ?_
        refine xc_false rfl ?_
        refine xc_skip ?_
        exact jn_n (xo / 16) (by rw [hvL_getI hko, if_neg (by (first|omega|(dsimp only at *;omega)|(simp at *;omega)))]) (le_put (le_put (le_put (le_put (le_put (le_emp _) rfl) rfl) rfl) rfl) rfl) (by (first|((repeat first|exact s_0|exact s_1|exact s_3|refine s_4 ?_|refine s_5 ?_|refine s_6 ?_|refine s_7 ?_);done)|((repeat first|exact s_0|exact s_1|exact s_3|refine s_4 ?_|refine s_5 ?_|refine s_6 ?_|refine s_8 ?_);done)))
    · rintro hx hhx
      have hhb := hvL_bd hbb hx (List.mem_of_getElem? hhx)
      have hdr := refP_drop (n := n) hhx
      refine xc_seq (xc_region ?_)
      refine xr_op rfl rfl (xv_move rfl ?_)
      refine xr_op rfl rfl (xv_mul rfl rfl (wrap_i64 (by (first|omega|(dsimp only at *;omega)|(simp at *;omega))) (by (first|omega|(dsimp only at *;omega)|(simp at *;omega)))) ?_)
      refine xr_op rfl rfl (xv_move rfl ?_)
      refine xr_op rfl rfl (xv_rem (c := hx % 8) rfl rfl (by decide) (Int.tmod_eq_emod_of_nonneg (by omega)) ?_)
      refine xr_op rfl rfl (xv_add rfl rfl (wrap_i64 (by (first|omega|(dsimp only at *;omega)|(simp at *;omega))) (by (first|omega|(dsimp only at *;omega)|(simp at *;omega)))) ?_)
      refine xr_op rfl rfl (xv_min rfl rfl rfl ?_)
      refine xr_op rfl rfl (xv_assign rfl ?_)
      refine xr_end rfl ?_
      refine th_n ?_
      refine xc_seq (xc_region ?_)
      refine xr_op rfl rfl (xv_move rfl ?_)
      refine xr_op rfl rfl (xv_lss2 rfl rfl (fun q3 => ?_) (fun q3 => ?_))
      · refine xr_end rfl ?_
        refine th_n ?_
        refine xc_true rfl ?_
        refine xc_seq (xc_region ?_)
        refine xr_op rfl rfl (xv_move rfl ?_)
        refine xr_op rfl rfl (xv_move rfl ?_)
        refine xr_op rfl rfl ((al_buildSlice sl60 ty3 rfl rfl rfl rfl rfl (by ((try apply evl_some rfl);(repeat (first|exact (rfl : _ = [])|apply evl_cons rfl (by (first|exact v_1|exact v_2|exact v_3|exact v_4|exact v_5|exact v_6|exact v_7|exact v_8|exact v_9|exact rfl))|exact rfl))))).xv (fun b4 hb4 => ?_))
        refine xr_op rfl rfl (xv_append (V := V) (n := all.length) (xs := all.flatMap eI) sl60 ty3 rfl rfl rfl hV (.there .here) (by ((repeat first|exact z_0|assumption|refine z_1 ?_|(refine z_l ?_;(repeat first|exact z_0|assumption|refine z_1 ?_);done)|refine z_r ?_);done)) (by ((try apply evl_some rfl);(repeat (first|exact (rfl : _ = [])|apply evl_cons rfl (by (first|exact v_1|exact v_2|exact v_3|exact v_4|exact v_5|exact v_6|exact v_7|exact v_8|exact v_9|exact rfl))|exact rfl)))) rfl rfl (by (first|omega|(dsimp only at *;omega)|(simp at *;omega))) (by simp only []; (first|omega|(dsimp only at *;omega)|(simp at *;omega))) (by (first|omega|(dsimp only at *;omega)|(simp at *;omega))) (fun V2 hV2 => ?_))
        refine xr_op rfl rfl (xv_assign rfl ?_)
        refine xr_end rfl ?_
        refine th_n ?_
        refine xc_region ?_
        refine xr_op rfl rfl (xv_assign rfl ?_)
        refine xr_end rfl ?_
        refine bk_n ?_
        refine th_n ?_
        refine xc_region ?_
        refine xr_op rfl rfl (xv_move rfl ?_)
        refine xr_op rfl rfl (xv_add rfl rfl (wrap_i64 (by (first|omega|(dsimp only at *;omega)|(simp at *;omega))) (by (first|omega|(dsimp only at *;omega)|(simp at *;omega)))) ?_)
        refine xr_op rfl rfl (xv_assign rfl ?_)
        refine xr_end rfl ?_
        exact rnd ((i + 1, all ++ [min 1073741824 (8 * n + hx % 8)], 0, V2) : Nat × List Int × Int × Vec) ⟨by (first|omega|(dsimp only at *;omega)|(simp at *;omega)), by dsimp only; rw [hacc, hdr, if_pos (by (first|omega|(dsimp only at *;omega)|(simp at *;omega))), List.append_assoc]; rfl, by dsimp only; rw [List.length_append, List.flatMap_append]; exact hV2, by dsimp only; omega, fun y hy => by (rcases List.mem_append.1 hy with hy | hy); exact hab y hy; (rw [List.mem_singleton.1 hy]; omega), by simp; omega⟩ (by (first|omega|(dsimp only at *;omega)|(simp at *;omega))) (le_put (le_put (le_put (le_put (le_emp _) rfl) (by dsimp only; rw [List.length_append]; rfl)) rfl) rfl) (by dsimp only; rw [List.flatMap_append]; (first|((repeat first|exact s_0|exact s_1|exact s_3|refine s_4 ?_|refine s_5 ?_|refine s_6 ?_|refine s_7 ?_);done)|((repeat first|exact s_0|exact s_1|exact s_3|refine s_4 ?_|refine s_5 ?_|refine s_6 ?_|refine s_8 ?_);done)))
      · refine xr_end rfl ?_
        refine th_n ?_
        refine xc_false rfl ?_
        refine xc_skip ?_
        refine bk_n ?_
        refine th_n ?_
        refine xc_region ?_
        refine xr_op rfl rfl (xv_move rfl ?_)
        refine xr_op rfl rfl (xv_add rfl rfl (wrap_i64 (by (first|omega|(dsimp only at *;omega)|(simp at *;omega))) (by (first|omega|(dsimp only at *;omega)|(simp at *;omega)))) ?_)
        refine xr_op rfl rfl (xv_assign rfl ?_)
        refine xr_end rfl ?_
        exact rnd ((i + 1, all, min 1073741824 (8 * n + hx % 8), V) : Nat × List Int × Int × Vec) ⟨by (first|omega|(dsimp only at *;omega)|(simp at *;omega)), by dsimp only; rw [hacc, hdr, if_neg (by (first|omega|(dsimp only at *;omega)|(simp at *;omega)))], hV, by dsimp only; omega, hab, by dsimp only; omega⟩ (by (first|omega|(dsimp only at *;omega)|(simp at *;omega))) (le_put (le_put (le_put (le_put (le_emp _) rfl) rfl) rfl) rfl) (by (first|((repeat first|exact s_0|exact s_1|exact s_3|refine s_4 ?_|refine s_5 ?_|refine s_6 ?_|refine s_7 ?_);done)|((repeat first|exact s_0|exact s_1|exact s_3|refine s_4 ?_|refine s_5 ?_|refine s_6 ?_|refine s_8 ?_);done)))
  · refine xr_end rfl ?_
    refine th_n ?_
    refine xc_false rfl ?_
    refine xc_exit ?_
    refine th_x ?_
    refine th_x ?_
    refine bk_same ?_
    refine th_n ?_
    refine xc_seq ?_
    refine xc_seq (xc_region ?_)
    obtain rfl : i = 2 * bs.length := by (first|omega|(dsimp only at *;omega)|(simp at *;omega))
    have hall : refP (hvL bs) 0 = all := by rw [hacc, List.drop_eq_nil_of_le (by omega)]; simp [refP]
    rw [Vec.val_ad hV]
    refine xr_op rfl rfl (xv_move rfl ?_)
    refine xr_op rfl rfl (xv_len sl60 rfl ?_)
    refine xr_op rfl rfl (xv_eql2 rfl rfl (fun q5 => ?_) (fun q5 => ?_))
    · refine xr_op rfl rfl (xv_move rfl ?_)
      refine xr_no rfl rfl rfl rfl ?_
      refine xr_no rfl rfl rfl rfl ?_
      refine xr_no rfl rfl rfl rfl ?_
      refine xr_no rfl rfl rfl rfl ?_
      refine xr_op rfl rfl (xv_pick rfl rfl ?_)
      refine xr_op rfl rfl (xv_move rfl ?_)
      refine xr_no rfl rfl rfl rfl ?_
      refine xr_no rfl rfl rfl rfl ?_
      refine xr_no rfl rfl rfl rfl ?_
      refine xr_no rfl rfl rfl rfl ?_
      refine xr_no rfl rfl rfl rfl ?_
      refine xr_no rfl rfl rfl rfl ?_
      refine xr_no rfl rfl rfl rfl ?_
      refine xr_no rfl rfl rfl rfl ?_
      refine xr_op rfl rfl (xv_pick rfl rfl ?_)
      refine xr_end rfl ?_
      refine th_n ?_
      refine xc_true rfl ?_
      refine xc_seq (xc_region ?_)
      refine xr_op rfl rfl (xv_assign rfl ?_)
      refine xr_op rfl rfl (xv_assign rfl ?_)
      refine xr_end rfl ?_
      refine th_n ?_
      refine xc_ret ?_
      refine th_r ?_
      refine body_ret (h' := h) rfl (ro_tmp rfl (ro_tmp rfl ro_nil)) (by (first|((repeat first|exact s_0|exact s_1|exact s_3|refine s_4 ?_|refine s_5 ?_|refine s_6 ?_|refine s_7 ?_);done)|((repeat first|exact s_0|exact s_1|exact s_3|refine s_4 ?_|refine s_5 ?_|refine s_6 ?_|refine s_8 ?_);done))) ?_
      exact H1 (refRead_bad hall (by first | exact bad_1 (by (first|omega|(dsimp only at *;omega)|(simp at *;omega))) | exact bad_2 hko (by (first|omega|(dsimp only at *;omega)|(simp at *;omega))) | exact bad_3 hko (by (first|omega|(dsimp only at *;omega)|(simp at *;omega)))))
    · refine xr_op rfl rfl (xv_move rfl ?_)
      have hlto : 0 < all.length := by (first|omega|(dsimp only at *;omega)|(simp at *;omega))
      obtain ⟨bo, oo, lo, to, fzo, hao, hmo, hxo⟩ := (((Vec.slvA eI_len rfl hV).sub (fun z hz => by ((repeat first|exact z_0|assumption|refine z_1 ?_|(refine z_l ?_;(repeat first|exact z_0|assumption|refine z_1 ?_);done)|refine z_r ?_);done)))).at hlto
      obtain ⟨xo, hko⟩ : ∃ qq_, all[0]? = some qq_ := ⟨_, List.getElem?_eq_getElem hlto⟩
      have h0b := hab xo (List.mem_of_getElem? hko)
      refine xr_gd rfl rfl rfl (xv_move rfl ?_)
      refine xr_gd rfl rfl rfl (xv_ia (sz := 1) (j := 0) sl60 ty3 rfl (by rw [hao]; rfl) rfl rfl (by (first|omega|(dsimp only at *;omega)|(simp at *;omega))) (by (first|omega|(dsimp only at *;omega)|(simp at *;omega))) ?_)
      refine xr_gd rfl rfl rfl (xv_load1 ty3 rfl rfl (by ((repeat first|exact z_0|assumption|refine z_1 ?_|(refine z_l ?_;(repeat first|exact z_0|assumption|refine z_1 ?_);done)|refine z_r ?_);done)) (take_get (hxo 0 xo hko) (j := 0) rfl) ?_)
      refine xr_gd rfl rfl rfl (xv_gtr2 rfl rfl (fun q6 => ?_) (fun q6 => ?_))
      · refine xr_op rfl rfl (xv_pick rfl rfl ?_)
        refine xr_op rfl rfl (xv_move rfl ?_)
        refine xr_no rfl rfl rfl rfl ?_
        refine xr_no rfl rfl rfl rfl ?_
        refine xr_no rfl rfl rfl rfl ?_
        refine xr_no rfl rfl rfl rfl ?_
        refine xr_no rfl rfl rfl rfl ?_
        refine xr_no rfl rfl rfl rfl ?_
        refine xr_no rfl rfl rfl rfl ?_
        refine xr_no rfl rfl rfl rfl ?_
        refine xr_op rfl rfl (xv_pick rfl rfl ?_)
        refine xr_end rfl ?_
        refine th_n ?_
        refine xc_true rfl ?_
        refine xc_seq (xc_region ?_)
        refine xr_op rfl rfl (xv_assign rfl ?_)
        refine xr_op rfl rfl (xv_assign rfl ?_)
        refine xr_end rfl ?_
        refine th_n ?_
        refine xc_ret ?_
        refine th_r ?_
        refine body_ret (h' := h) rfl (ro_tmp rfl (ro_tmp rfl ro_nil)) (by (first|((repeat first|exact s_0|exact s_1|exact s_3|refine s_4 ?_|refine s_5 ?_|refine s_6 ?_|refine s_7 ?_);done)|((repeat first|exact s_0|exact s_1|exact s_3|refine s_4 ?_|refine s_5 ?_|refine s_6 ?_|refine s_8 ?_);done))) ?_
        exact H1 (refRead_bad hall (by first | exact bad_1 (by (first|omega|(dsimp only at *;omega)|(simp at *;omega))) | exact bad_2 hko (by (first|omega|(dsimp only at *;omega)|(simp at *;omega))) | exact bad_3 hko (by (first|omega|(dsimp only at *;omega)|(simp at *;omega)))))
      · refine xr_op rfl rfl (xv_pick rfl rfl ?_)
        refine xr_op rfl rfl (xv_move rfl ?_)
        refine xr_gd rfl rfl rfl (xv_move rfl ?_)
        refine xr_gd rfl rfl rfl (xv_len sl60 rfl ?_)
        refine xr_gd rfl rfl rfl (xv_move rfl ?_)
        refine xr_gd rfl rfl rfl (xv_ia (sz := 1) (j := 0) sl60 ty3 rfl (by rw [hao]; rfl) rfl rfl (by (first|omega|(dsimp only at *;omega)|(simp at *;omega))) (by (first|omega|(dsimp only at *;omega)|(simp at *;omega))) ?_)
        refine xr_gd rfl rfl rfl (xv_load1 ty3 rfl rfl (by ((repeat first|exact z_0|assumption|refine z_1 ?_|(refine z_l ?_;(repeat first|exact z_0|assumption|refine z_1 ?_);done)|refine z_r ?_);done)) (take_get (hxo 0 xo hko) (j := 0) rfl) ?_)
        refine xr_gd rfl rfl rfl (xv_mul rfl rfl (wrap_i64 (by (first|omega|(dsimp only at *;omega)|(simp at *;omega))) (by (first|omega|(dsimp only at *;omega)|(simp at *;omega)))) ?_)
        refine xr_gd rfl rfl rfl (xv_add rfl rfl (wrap_i64 (by (first|omega|(dsimp only at *;omega)|(simp at *;omega))) (by (first|omega|(dsimp only at *;omega)|(simp at *;omega)))) ?_)
        refine xr_gd rfl rfl rfl (xv_lss2 rfl rfl (fun q7 => ?_) (fun q7 => ?_))
        · refine xr_op rfl rfl (xv_pick rfl rfl ?_)
          refine xr_end rfl ?_
          refine th_n ?_
          refine xc_true rfl ?_
          refine xc_seq (xc_region ?_)
          refine xr_op rfl rfl (xv_assign rfl ?_)
          refine xr_op rfl rfl (xv_assign rfl ?_)
          refine xr_end rfl ?_
          refine th_n ?_
          refine xc_ret ?_
          refine th_r ?_
          refine body_ret (h' := h) rfl (ro_tmp rfl (ro_tmp rfl ro_nil)) (by (first|((repeat first|exact s_0|exact s_1|exact s_3|refine s_4 ?_|refine s_5 ?_|refine s_6 ?_|refine s_7 ?_);done)|((repeat first|exact s_0|exact s_1|exact s_3|refine s_4 ?_|refine s_5 ?_|refine s_6 ?_|refine s_8 ?_);done))) ?_
          exact H1 (refRead_bad hall (by first | exact bad_1 (by (first|omega|(dsimp only at *;omega)|(simp at *;omega))) | exact bad_2 hko (by (first|omega|(dsimp only at *;omega)|(simp at *;omega))) | exact bad_3 hko (by (first|omega|(dsimp only at *;omega)|(simp at *;omega)))))
        · refine xr_op rfl rfl (xv_pick rfl rfl ?_)
          refine xr_end rfl ?_
          refine th_n ?_
          refine xc_false rfl ?_
          refine xc_skip ?_
          refine th_n ?_
          refine xc_seq (xc_region ?_)
          have hg0 : all.getD 0 0 = xo := by rw [List.getD_eq_getElem?_getD, hko]; rfl
          have hnb : ¬ badAll all := not_bad hg0 (by (first|omega|(dsimp only at *;omega)|(simp at *;omega))) (by (first|omega|(dsimp only at *;omega)|(simp at *;omega))) (by (first|omega|(dsimp only at *;omega)|(simp at *;omega)))
          refine xr_op rfl rfl (xv_assign rfl ?_)
          refine xr_end rfl ?_
          refine th_n ?_
          refine xc_seq (xc_region ?_)
          refine xr_op rfl rfl (xv_assign rfl ?_)
          refine xr_op rfl rfl (xv_assign rfl ?_)
          refine xr_end rfl ?_
          refine th_n ?_
          refine xc_seq ?_
          refine xc_seq (xc_region ?_)
          refine xr_op rfl rfl (xv_assign rfl ?_)
          refine xr_end rfl ?_
          refine th_n ?_
          refine xc_block ?_
          refine xc_loop (σ := Nat × Vec) (fun z => z.1 ≤ xo.toNat ∧ z.2.ok 2 (refS all z.1).1.length ((refS all z.1).1.flatMap eSight) ∧ (-1 ≤ (refS all z.1).2.hour ∧ (refS all z.1).2.hour ≤ 1073741825 * (z.1 : Int)) ∧ (-(1073741825 * (z.1 : Int)) ≤ (refS all z.1).2.height ∧ (refS all z.1).2.height ≤ 1073741825 * (z.1 : Int))) (fun z => ((((((emp.put (some 0) (.slice a bs.length c)).put (some 4) (.slice V.ad all.length V.cp)).put (some 8) (z.2.val (refS all z.1).1.length)).put (some 9) (I (refS all z.1).2.hour)).put (some 10) (I (refS all z.1).2.height)).put (some 11) (I z.1))) (fun z => (z.2.hp 44 ((refS all z.1).1.flatMap eSight) ++ (V.hp 3 (all.flatMap eI) ++ h))) (fun z => xo.toNat - z.1) ((0, .nil) : Nat × Vec) ⟨Nat.zero_le _, ⟨rfl, rfl⟩, ⟨Int.le_refl _, by show (-1 : Int) ≤ 1073741825 * 0; decide⟩, ⟨by show -(1073741825 * (0 : Int)) ≤ 0; decide, by show (0 : Int) ≤ 1073741825 * 0; decide⟩⟩ (le_put (le_put (le_put (le_put (le_put (le_put (le_emp _) rfl) rfl) rfl) rfl) rfl) rfl) (by (first|((repeat first|exact s_0|exact s_1|exact s_3|refine s_4 ?_|refine s_5 ?_|refine s_6 ?_|refine s_7 ?_);done)|((repeat first|exact s_0|exact s_1|exact s_3|refine s_4 ?_|refine s_5 ?_|refine s_6 ?_|refine s_8 ?_);done))) ?_
          rintro ⟨k, U⟩ ⟨hk, hU, hxh, hxy⟩
          dsimp only at hk hU hxh hxy
          refine xc_seq ?_
          refine xc_seq (xc_region ?_)
          refine xr_op rfl rfl (xv_move rfl ?_)
          refine xr_op rfl rfl (xv_move rfl ?_)
          refine xr_op rfl rfl (xv_ia (sz := 1) (j := 0) sl60 ty3 rfl (by rw [hao]; rfl) rfl rfl (by (first|omega|(dsimp only at *;omega)|(simp at *;omega))) (by (first|omega|(dsimp only at *;omega)|(simp at *;omega))) ?_)
          refine xr_op rfl rfl (xv_load1 ty3 rfl rfl (by ((repeat first|exact z_0|assumption|refine z_1 ?_|(refine z_l ?_;(repeat first|exact z_0|assumption|refine z_1 ?_);done)|refine z_r ?_);done)) (take_get (hxo 0 xo hko) (j := 0) rfl) ?_)
          refine xr_op rfl rfl (xv_lss2 rfl rfl (fun q8 => ?_) (fun q8 => ?_))
          · refine xr_end rfl ?_
            refine th_n ?_
            refine xc_true rfl ?_
            refine xc_skip ?_
            refine th_n ?_
            refine xc_seq ?_
            refine xc_block ?_
            refine xc_seq (xc_region ?_)
            have hltp : (2 * k + 1) < all.length := by (first|omega|(dsimp only at *;omega)|(simp at *;omega))
            obtain ⟨bp, op, lp, tp, fzp, hap, hmp, hxp⟩ := (((Vec.slvA eI_len rfl hV).sub (fun z hz => by ((repeat first|exact z_0|assumption|refine z_1 ?_|(refine z_l ?_;(repeat first|exact z_0|assumption|refine z_1 ?_);done)|refine z_r ?_);done)))).at hltp
            obtain ⟨xp, hkp⟩ : ∃ qq_, all[(2 * k + 1)]? = some qq_ := ⟨_, List.getElem?_eq_getElem hltp⟩
            have hltq : (2 * k + 2) < all.length := by (first|omega|(dsimp only at *;omega)|(simp at *;omega))
            obtain ⟨bq, oq, lq, tq, fzq, haq, hmq, hxq⟩ := (((Vec.slvA eI_len rfl hV).sub (fun z hz => by ((repeat first|exact z_0|assumption|refine z_1 ?_|(refine z_l ?_;(repeat first|exact z_0|assumption|refine z_1 ?_);done)|refine z_r ?_);done)))).at hltq
            obtain ⟨xq, hkq⟩ : ∃ qq_, all[(2 * k + 2)]? = some qq_ := ⟨_, List.getElem?_eq_getElem hltq⟩
            have hpb := hab xp (List.mem_of_getElem? hkp)
            have hqb := hab xq (List.mem_of_getElem? hkq)
            have hgp : all.getD (2 * k + 1) 0 = xp := by rw [List.getD_eq_getElem?_getD, hkp]; rfl
            have hgq : all.getD (2 * k + 2) 0 = xq := by rw [List.getD_eq_getElem?_getD, hkq]; rfl
            refine xr_op rfl rfl (xv_move rfl ?_)
            refine xr_op rfl rfl (xv_move rfl ?_)
            refine xr_op rfl rfl (xv_move rfl ?_)
            refine xr_op rfl rfl (xv_mul (c := ((2 * k : Nat) : Int)) rfl rfl (by push_cast; exact wrap_i64 (by (first|omega|(dsimp only at *;omega)|(simp at *;omega))) (by (first|omega|(dsimp only at *;omega)|(simp at *;omega)))) ?_)
            refine xr_op rfl rfl (xv_add (c := ((2 * k + 1 : Nat) : Int)) rfl rfl (by push_cast; exact wrap_i64 (by (first|omega|(dsimp only at *;omega)|(simp at *;omega))) (by (first|omega|(dsimp only at *;omega)|(simp at *;omega)))) ?_)
            refine xr_op rfl rfl (xv_ia (sz := 1) (j := 2 * k + 1) sl60 ty3 rfl (by rw [hap]; rfl) rfl (by (first | assumption | with_reducible exact Int.toNat_natCast _ | with_reducible rfl | rfl)) (by (first|omega|(dsimp only at *;omega)|(simp at *;omega))) (by (first|omega|(dsimp only at *;omega)|(simp at *;omega))) ?_)
            refine xr_op rfl rfl (xv_load1 ty3 rfl rfl (by ((repeat first|exact z_0|assumption|refine z_1 ?_|(refine z_l ?_;(repeat first|exact z_0|assumption|refine z_1 ?_);done)|refine z_r ?_);done)) (take_get (hxp (2 * k + 1) xp hkp) (j := 0) rfl) ?_)
            refine xr_op rfl rfl (xv_add rfl rfl (wrap_i64 (by (first|omega|(dsimp only at *;omega)|(simp at *;omega))) (by (first|omega|(dsimp only at *;omega)|(simp at *;omega)))) ?_)
            refine xr_op rfl rfl (xv_add rfl rfl (wrap_i64 (by (first|omega|(dsimp only at *;omega)|(simp at *;omega))) (by (first|omega|(dsimp only at *;omega)|(simp at *;omega)))) ?_)
            refine xr_op rfl rfl (xv_assign rfl ?_)
            refine xr_end rfl ?_
            refine th_n ?_
            refine xc_seq (xc_region ?_)
            refine xr_op rfl rfl (xv_move rfl ?_)
            refine xr_op rfl rfl (xv_move rfl ?_)
            refine xr_op rfl rfl (xv_mul (c := ((2 * k : Nat) : Int)) rfl rfl (by push_cast; exact wrap_i64 (by (first|omega|(dsimp only at *;omega)|(simp at *;omega))) (by (first|omega|(dsimp only at *;omega)|(simp at *;omega)))) ?_)
            refine xr_op rfl rfl (xv_add (c := ((2 * k + 2 : Nat) : Int)) rfl rfl (by push_cast; exact wrap_i64 (by (first|omega|(dsimp only at *;omega)|(simp at *;omega))) (by (first|omega|(dsimp only at *;omega)|(simp at *;omega)))) ?_)
            refine xr_op rfl rfl (xv_ia (sz := 1) (j := 2 * k + 2) sl60 ty3 rfl (by rw [haq]; rfl) rfl (by (first | assumption | with_reducible exact Int.toNat_natCast _ | with_reducible rfl | rfl)) (by (first|omega|(dsimp only at *;omega)|(simp at *;omega))) (by (first|omega|(dsimp only at *;omega)|(simp at *;omega))) ?_)
            refine xr_op rfl rfl (xv_load1 ty3 rfl rfl (by ((repeat first|exact z_0|assumption|refine z_1 ?_|(refine z_l ?_;(repeat first|exact z_0|assumption|refine z_1 ?_);done)|refine z_r ?_);done)) (take_get (hxq (2 * k + 2) xq hkq) (j := 0) rfl) ?_)
            refine xr_op rfl rfl (xv_assign rfl ?_)
            refine xr_end rfl ?_
            refine th_n ?_
            refine xc_seq ?_
            refine xc_seq (xc_region ?_)
            refine xr_op rfl rfl (xv_move rfl ?_)
            refine xr_op rfl rfl (xv_rem (c := xq % 2) rfl rfl (by decide) (Int.tmod_eq_emod_of_nonneg (by omega)) ?_)
            refine xr_op rfl rfl (xv_eql2 rfl rfl (fun q9 => ?_) (fun q9 => ?_))
            · refine xr_end rfl ?_
              refine th_n ?_
              refine xc_true rfl ?_
              refine xc_region ?_
              refine xr_op rfl rfl (xv_move rfl ?_)
              refine xr_op rfl rfl (xv_move rfl ?_)
              refine xr_op rfl rfl (xv_quo (c := xq / 2) rfl rfl (by decide) (by rw [Int.tdiv_eq_ediv_of_nonneg (by omega)]; exact wrap_i64 (by omega) (by omega)) ?_)
              refine xr_op rfl rfl (xv_add rfl rfl (wrap_i64 (by (first|omega|(dsimp only at *;omega)|(simp at *;omega))) (by (first|omega|(dsimp only at *;omega)|(simp at *;omega)))) ?_)
              refine xr_op rfl rfl (xv_assign rfl ?_)
              refine xr_end rfl ?_
              refine th_n ?_
              refine xc_region ?_
              have enx : nxS (refS all k).2 xp xq = ⟨(refS all k).2.hour + xp + 1, (refS all k).2.height + xq / 2⟩ := by unfold nxS; rw [if_pos (by omega), ← Int.add_assoc]
              have es2 : (refS all (k + 1)).2 = nxS (refS all k).2 xp xq := by rw [refS, hgp, hgq]
              have es1 : (refS all (k + 1)).1 = (refS all k).1 ++ [nxS (refS all k).2 xp xq] := by rw [refS, hgp, hgq]
              have es9 : (refS all (k + 1)).1.flatMap eSight = (refS all k).1.flatMap eSight ++ [I ((refS all k).2.hour + xp + 1), I ((refS all k).2.height + xq / 2)] := by rw [es1, List.flatMap_append, enx]; rfl
              have es7 : (refS all (k + 1)).1.length = (refS all k).1.length + 1 := by rw [es1, List.length_append]; rfl
              have hsl := refS_len all k
              refine xr_op rfl rfl (xv_move rfl ?_)
              refine xr_op rfl rfl (xv_move rfl ?_)
              refine xr_op rfl rfl (xv_move rfl ?_)
              refine xr_op rfl rfl (xv_build bt44 rfl (by ((try apply evl_some rfl);(repeat (first|exact (rfl : _ = [])|apply evl_cons rfl (by (first|exact v_1|exact v_2|exact v_3|exact v_4|exact v_5|exact v_6|exact v_7|exact v_8|exact v_9|exact rfl))|exact rfl)))) ?_)
              refine xr_op rfl rfl ((al_buildSlice sl22 ty44 rfl rfl rfl rfl rfl (by ((try apply evl_some rfl);(repeat (first|exact (rfl : _ = [])|apply evl_cons rfl (by (first|exact v_1|exact v_2|exact v_3|exact v_4|exact v_5|exact v_6|exact v_7|exact v_8|exact v_9|exact rfl))|exact rfl))))).xv (fun b53 hb53 => ?_))
              refine xr_op rfl rfl (xv_append (V := U) (n := (refS all k).1.length) (xs := (refS all k).1.flatMap eSight) sl22 ty44 rfl rfl rfl hU (.there .here) (by ((repeat first|exact z_0|assumption|refine z_1 ?_|(refine z_l ?_;(repeat first|exact z_0|assumption|refine z_1 ?_);done)|refine z_r ?_);done)) (by ((try apply evl_some rfl);(repeat (first|exact (rfl : _ = [])|apply evl_cons rfl (by (first|exact v_1|exact v_2|exact v_3|exact v_4|exact v_5|exact v_6|exact v_7|exact v_8|exact v_9|exact rfl))|exact rfl)))) rfl rfl (by (first|omega|(dsimp only at *;omega)|(simp at *;omega))) (by simp only []; (first|omega|(dsimp only at *;omega)|(simp at *;omega))) (by (first|omega|(dsimp only at *;omega)|(simp at *;omega))) (fun U2 hU2 => ?_))
              refine xr_op rfl rfl (xv_assign rfl ?_)
              refine xr_end rfl ?_
              refine bk_n ?_
              refine th_n ?_
              refine xc_region ?_
              refine xr_op rfl rfl (xv_move rfl ?_)
              refine xr_op rfl rfl (xv_add rfl rfl (wrap_i64 (by (first|omega|(dsimp only at *;omega)|(simp at *;omega))) (by (first|omega|(dsimp only at *;omega)|(simp at *;omega)))) ?_)
              refine xr_op rfl rfl (xv_assign rfl ?_)
              refine xr_end rfl ?_
              exact rnd ((k + 1, U2) : Nat × Vec) ⟨by (first|omega|(dsimp only at *;omega)|(simp at *;omega)), by dsimp only; rw [es9, es7]; exact hU2, by dsimp only; rw [es2, enx]; dsimp only; push_cast; omega, by dsimp only; rw [es2, enx]; dsimp only; push_cast; omega⟩ (by (first|omega|(dsimp only at *;omega)|(simp at *;omega))) (le_put (le_put (le_put (le_put (le_put (le_put (le_emp _) rfl) rfl) (by dsimp only; rw [es7]; rfl)) (by show _ = some (I _); rw [es2, enx]; rfl)) (by show _ = some (I _); rw [es2, enx]; rfl)) rfl) (by dsimp only; rw [es9]; (first|((repeat first|exact s_0|exact s_1|exact s_3|refine s_4 ?_|refine s_5 ?_|refine s_6 ?_|refine s_7 ?_);done)|((repeat first|exact s_0|exact s_1|exact s_3|refine s_4 ?_|refine s_5 ?_|refine s_6 ?_|refine s_8 ?_);done)))
            · refine xr_end rfl ?_
              refine th_n ?_
              refine xc_false rfl ?_
              refine xc_region ?_
              refine xr_op rfl rfl (xv_move rfl ?_)
              refine xr_op rfl rfl (xv_move rfl ?_)
              refine xr_op rfl rfl (xv_add rfl rfl (wrap_i64 (by (first|omega|(dsimp only at *;omega)|(simp at *;omega))) (by (first|omega|(dsimp only at *;omega)|(simp at *;omega)))) ?_)
              refine xr_op rfl rfl (xv_quo (c := (xq + 1) / 2) rfl rfl (by decide) (by rw [Int.tdiv_eq_ediv_of_nonneg (by omega)]; exact wrap_i64 (by omega) (by omega)) ?_)
              refine xr_op rfl rfl (xv_sub rfl rfl (wrap_i64 (by (first|omega|(dsimp only at *;omega)|(simp at *;omega))) (by (first|omega|(dsimp only at *;omega)|(simp at *;omega)))) ?_)
              refine xr_op rfl rfl (xv_assign rfl ?_)
              refine xr_end rfl ?_
              refine th_n ?_
              refine xc_region ?_
              have enx : nxS (refS all k).2 xp xq = ⟨(refS all k).2.hour + xp + 1, (refS all k).2.height - (xq + 1) / 2⟩ := by unfold nxS; rw [if_neg (by omega), ← Int.add_assoc]
              have es2 : (refS all (k + 1)).2 = nxS (refS all k).2 xp xq := by rw [refS, hgp, hgq]
              have es1 : (refS all (k + 1)).1 = (refS all k).1 ++ [nxS (refS all k).2 xp xq] := by rw [refS, hgp, hgq]
              have es9 : (refS all (k + 1)).1.flatMap eSight = (refS all k).1.flatMap eSight ++ [I ((refS all k).2.hour + xp + 1), I ((refS all k).2.height - (xq + 1) / 2)] := by rw [es1, List.flatMap_append, enx]; rfl
              have es7 : (refS all (k + 1)).1.length = (refS all k).1.length + 1 := by rw [es1, List.length_append]; rfl
              have hsl := refS_len all k
              refine xr_op rfl rfl (xv_move rfl ?_)
              refine xr_op rfl rfl (xv_move rfl ?_)
              refine xr_op rfl rfl (xv_move rfl ?_)
              refine xr_op rfl rfl (xv_build bt44 rfl (by ((try apply evl_some rfl);(repeat (first|exact (rfl : _ = [])|apply evl_cons rfl (by (first|exact v_1|exact v_2|exact v_3|exact v_4|exact v_5|exact v_6|exact v_7|exact v_8|exact v_9|exact rfl))|exact rfl)))) ?_)
              refine xr_op rfl rfl ((al_buildSlice sl22 ty44 rfl rfl rfl rfl rfl (by ((try apply evl_some rfl);(repeat (first|exact (rfl : _ = [])|apply evl_cons rfl (by (first|exact v_1|exact v_2|exact v_3|exact v_4|exact v_5|exact v_6|exact v_7|exact v_8|exact v_9|exact rfl))|exact rfl))))).xv (fun b54 hb54 => ?_))
              refine xr_op rfl rfl (xv_append (V := U) (n := (refS all k).1.length) (xs := (refS all k).1.flatMap eSight) sl22 ty44 rfl rfl rfl hU (.there .here) (by ((repeat first|exact z_0|assumption|refine z_1 ?_|(refine z_l ?_;(repeat first|exact z_0|assumption|refine z_1 ?_);done)|refine z_r ?_);done)) (by ((try apply evl_some rfl);(repeat (first|exact (rfl : _ = [])|apply evl_cons rfl (by (first|exact v_1|exact v_2|exact v_3|exact v_4|exact v_5|exact v_6|exact v_7|exact v_8|exact v_9|exact rfl))|exact rfl)))) rfl rfl (by (first|omega|(dsimp only at *;omega)|(simp at *;omega))) (by simp only []; (first|omega|(dsimp only at *;omega)|(simp at *;omega))) (by (first|omega|(dsimp only at *;omega)|(simp at *;omega))) (fun U2 hU2 => ?_))
              refine xr_op rfl rfl (xv_assign rfl ?_)
              refine xr_end rfl ?_
              refine bk_n ?_
              refine th_n ?_
              refine xc_region ?_
              refine xr_op rfl rfl (xv_move rfl ?_)
              refine xr_op rfl rfl (xv_add rfl rfl (wrap_i64 (by (first|omega|(dsimp only at *;omega)|(simp at *;omega))) (by (first|omega|(dsimp only at *;omega)|(simp at *;omega)))) ?_)
              refine xr_op rfl rfl (xv_assign rfl ?_)
              refine xr_end rfl ?_
              exact rnd ((k + 1, U2) : Nat × Vec) ⟨by (first|omega|(dsimp only at *;omega)|(simp at *;omega)), by dsimp only; rw [es9, es7]; exact hU2, by dsimp only; rw [es2, enx]; dsimp only; push_cast; omega, by dsimp only; rw [es2, enx]; dsimp only; push_cast; omega⟩ (by (first|omega|(dsimp only at *;omega)|(simp at *;omega))) (le_put (le_put (le_put (le_put (le_put (le_put (le_emp _) rfl) rfl) (by dsimp only; rw [es7]; rfl)) (by show _ = some (I _); rw [es2, enx]; rfl)) (by show _ = some (I _); rw [es2, enx]; rfl)) rfl) (by dsimp only; rw [es9]; (first|((repeat first|exact s_0|exact s_1|exact s_3|refine s_4 ?_|refine s_5 ?_|refine s_6 ?_|refine s_7 ?_);done)|((repeat first|exact s_0|exact s_1|exact s_3|refine s_4 ?_|refine s_5 ?_|refine s_6 ?_|refine s_8 ?_);done)))
          · refine xr_end rfl ?_
            refine th_n ?_
            refine xc_false rfl ?_
            refine xc_exit ?_
            refine th_x ?_
            refine th_x ?_
            refine bk_same ?_
            refine th_n ?_
            refine xc_seq (xc_region ?_)
            obtain rfl : k = xo.toNat := by (first|omega|(dsimp only at *;omega)|(simp at *;omega))
            obtain ⟨l, hl9⟩ : ∃ l, (refS all xo.toNat).1 = l := ⟨_, rfl⟩
            have hll : (refS all (all.getD 0 0).toNat).1 = l := by rw [hg0]; exact hl9
            have hln := refS_len all xo.toNat
            rw [hl9] at hU hln ⊢
            rw [Vec.val_ad hU]
            refine xr_op rfl rfl (xv_move rfl ?_)
            refine xr_op rfl rfl (xv_calls rfl hb7 (RWriteLog_c (xs := l) ((Vec.slvA eSight_len rfl hU).sub (fun z hz => by ((repeat first|exact z_0|assumption|refine z_1 ?_|(refine z_l ?_;(repeat first|exact z_0|assumption|refine z_1 ?_);done)|refine z_r ?_);done))) (by (first|omega|(dsimp only at *;omega)|(simp at *;omega))) (fun hne => up_ret ?_) (fun he9 V6 hV6 => up_ret ?_)))
            · refine xr_op rfl rfl (xv_move rfl ?_)
              refine xr_op rfl rfl (xv_extract rfl rfl ?_)
              refine xr_op rfl rfl (xv_extract rfl rfl ?_)
              refine xr_op rfl rfl (xv_assign rfl ?_)
              refine xr_op rfl rfl (xv_assign rfl ?_)
              refine xr_end rfl ?_
              refine th_n ?_
              refine xc_seq ?_
              refine xc_seq (xc_region ?_)
              refine xr_op rfl rfl (xv_move rfl ?_)
              refine xr_op rfl rfl (xv_neqT rfl rfl hne ?_)
              refine xr_op rfl rfl (xv_move rfl ?_)
              refine xr_no rfl rfl rfl rfl ?_
              refine xr_no rfl rfl rfl rfl ?_
              refine xr_no rfl rfl rfl rfl ?_
              refine xr_no rfl rfl rfl rfl ?_
              refine xr_no rfl rfl rfl rfl ?_
              refine xr_op rfl rfl (xv_pick rfl rfl ?_)
              refine xr_end rfl ?_
              refine th_n ?_
              refine xc_true rfl ?_
              refine xc_seq (xc_region ?_)
              refine xr_op rfl rfl (xv_assign rfl ?_)
              refine xr_op rfl rfl (xv_assign rfl ?_)
              refine xr_end rfl ?_
              refine th_n ?_
              refine xc_ret ?_
              refine th_r ?_
              refine body_ret (h' := h) rfl (ro_tmp rfl (ro_tmp rfl ro_nil)) (by (first|((repeat first|exact s_0|exact s_1|exact s_3|refine s_4 ?_|refine s_5 ?_|refine s_6 ?_|refine s_7 ?_);done)|((repeat first|exact s_0|exact s_1|exact s_3|refine s_4 ?_|refine s_5 ?_|refine s_6 ?_|refine s_8 ?_);done))) ?_
              exact H1 (refRead_no hall hnb hll (fun h9 => hne h9.1))
            · refine xr_op rfl rfl (xv_move rfl ?_)
              refine xr_op rfl rfl (xv_extract rfl rfl ?_)
              refine xr_op rfl rfl (xv_extract rfl rfl ?_)
              refine xr_op rfl rfl (xv_assign rfl ?_)
              refine xr_op rfl rfl (xv_assign rfl ?_)
              refine xr_end rfl ?_
              refine th_n ?_
              refine xc_seq ?_
              refine xc_seq (xc_region ?_)
              refine xr_op rfl rfl (xv_move rfl ?_)
              refine xr_op rfl rfl (xv_neqF rfl rfl rfl ?_)
              refine xr_op rfl rfl (xv_move rfl ?_)
              refine xr_gd rfl rfl rfl (xv_move rfl ?_)
              refine xr_gd rfl rfl rfl (xv_cvB (bs := logB l) sl23 Tryd.underlying5 Tryd.underlying9 rfl rfl (logB_byt l) ((Vec.slvA eB_len rfl hV6).sub (fun z hz => by ((repeat first|exact z_0|assumption|refine z_1 ?_|(refine z_l ?_;(repeat first|exact z_0|assumption|refine z_1 ?_);done)|refine z_r ?_);done))) ?_)
              refine xr_gd rfl rfl rfl (xv_move rfl ?_)
              refine xr_gd rfl rfl rfl (xv_cvB (bs := bs) sl23 Tryd.underlying5 Tryd.underlying9 rfl rfl hbb (hs.sub (by intro z9 hz9; ((repeat first|exact z_0|assumption|refine z_1 ?_|(refine z_l ?_;(repeat first|exact z_0|assumption|refine z_1 ?_);done)|refine z_r ?_);done))) ?_)
              refine xr_gd rfl rfl rfl (xv_neS2 rfl rfl (fun hq9 => ?_) (fun hq9 => ?_))
              · refine xr_op rfl rfl (xv_pick rfl rfl ?_)
                refine xr_end rfl ?_
                refine th_n ?_
                refine xc_true rfl ?_
                refine xc_seq (xc_region ?_)
                refine xr_op rfl rfl (xv_assign rfl ?_)
                refine xr_op rfl rfl (xv_assign rfl ?_)
                refine xr_end rfl ?_
                refine th_n ?_
                refine xc_ret ?_
                refine th_r ?_
                refine body_ret (h' := h) rfl (ro_tmp rfl (ro_tmp rfl ro_nil)) (by (first|((repeat first|exact s_0|exact s_1|exact s_3|refine s_4 ?_|refine s_5 ?_|refine s_6 ?_|refine s_7 ?_);done)|((repeat first|exact s_0|exact s_1|exact s_3|refine s_4 ?_|refine s_5 ?_|refine s_6 ?_|refine s_8 ?_);done))) ?_
                exact H1 (refRead_no hall hnb hll (fun h9 => hq9 (by rw [h9.2])))
              · refine xr_op rfl rfl (xv_pick rfl rfl ?_)
                refine xr_end rfl ?_
                refine th_n ?_
                refine xc_false rfl ?_
                refine xc_skip ?_
                refine th_n ?_
                refine xc_seq (xc_region ?_)
                refine xr_op rfl rfl (xv_move rfl ?_)
                refine xr_op rfl rfl (xv_assign rfl ?_)
                refine xr_op rfl rfl (xv_assign rfl ?_)
                refine xr_end rfl ?_
                refine th_n ?_
                refine xc_ret ?_
                refine body_ret (h' := (U.hp 44 (l.flatMap eSight) ++ h)) rfl (ro_tmp rfl (ro_tmp rfl ro_nil)) (by (first|((repeat first|exact s_0|exact s_1|exact s_3|refine s_4 ?_|refine s_5 ?_|refine s_6 ?_|refine s_7 ?_);done)|((repeat first|exact s_0|exact s_1|exact s_3|refine s_4 ?_|refine s_5 ?_|refine s_6 ?_|refine s_8 ?_);done))) ?_
                exact H2 l U (refRead_yes hall hnb hll ⟨he9, u8_inj (logB_byt l) hbb hq9⟩) hU

theorem Sights_c {a a2 : Option Addr} {c c2 : Nat} {xs ys : List Sight} {h : Hp} {R : Ending → Hp → Prop} (hs : SlV h 2 eSight a xs) (hs2 : SlV h 2 eSight a2 ys) (hl : xs.length ≤ 1000000) (hl2 : ys.length ≤ 4611686018427387904)
    (H : R (.returned (.bool (decide (xs = ys)))) h) :
    ACalls Tryd.prog 10 ⟨[.slice a xs.length c, .slice a2 ys.length c2]⟩ h R := by
  refine calls_of_xc (N := 26) Tryd.func10 rfl (by rfl) ?_
  refine xc_seq (xc_region ?_)
  refine xr_op rfl rfl (xv_assign rfl ?_)
  refine xr_end rfl ?_
  refine th_n ?_
  refine xc_seq ?_
  refine xc_seq (xc_region ?_)
  refine xr_op rfl rfl (xv_move rfl ?_)
  refine xr_op rfl rfl (xv_len sl22 rfl ?_)
  refine xr_op rfl rfl (xv_move rfl ?_)
  refine xr_op rfl rfl (xv_len sl22 rfl ?_)
  refine xr_op rfl rfl (xv_neq2 rfl rfl (fun q1 => ?_) (fun q1 => ?_))
  · refine xr_end rfl ?_
    refine th_n ?_
    refine xc_true rfl ?_
    refine xc_seq (xc_region ?_)
    refine xr_op rfl rfl (xv_assign rfl ?_)
    refine xr_end rfl ?_
    refine th_n ?_
    refine xc_ret ?_
    refine th_r ?_
    refine body_ret (h' := h) rfl (ro_tmp rfl ro_nil) (by (first|((repeat first|exact s_0|exact s_1|exact s_3|refine s_4 ?_|refine s_5 ?_|refine s_6 ?_|refine s_7 ?_);done)|((repeat first|exact s_0|exact s_1|exact s_3|refine s_4 ?_|refine s_5 ?_|refine s_6 ?_|refine s_8 ?_);done))) ?_
    first | (rw [decide_eq_true hxy] at H; exact H) | (rw [decide_eq_false hne] at H; exact H) | (rw [decide_eq_false (fun hq => by subst hq; omega)] at H; exact H)
  · refine xr_end rfl ?_
    refine th_n ?_
    refine xc_false rfl ?_
    refine xc_skip ?_
    refine th_n ?_
    refine xc_seq ?_
    refine xc_seq (xc_region ?_)
    refine xr_op rfl rfl (xv_assign rfl ?_)
    refine xr_end rfl ?_
    refine th_n ?_
    refine xc_block ?_
    have hle : xs.length = ys.length := by (first|omega|(dsimp only at *;omega)|(simp at *;omega))
    refine xc_loop (σ := Nat) (fun k => k ≤ xs.length ∧ xs.take k = ys.take k) (fun k => (((emp.put (some 0) (.slice a xs.length c)).put (some 1) (.slice a2 ys.length c2)).put (some 5) (I k))) (fun k => h) (fun k => xs.length - k) 0 ⟨Nat.zero_le _, rfl⟩ (le_put (le_put (le_put (le_emp _) rfl) rfl) rfl) (by (first|((repeat first|exact s_0|exact s_1|exact s_3|refine s_4 ?_|refine s_5 ?_|refine s_6 ?_|refine s_7 ?_);done)|((repeat first|exact s_0|exact s_1|exact s_3|refine s_4 ?_|refine s_5 ?_|refine s_6 ?_|refine s_8 ?_);done))) ?_
    rintro k ⟨hk, hall⟩
    refine xc_seq ?_
    refine xc_seq (xc_region ?_)
    refine xr_op rfl rfl (xv_move rfl ?_)
    refine xr_op rfl rfl (xv_move rfl ?_)
    refine xr_op rfl rfl (xv_len sl22 rfl ?_)
    refine xr_op rfl rfl (xv_lss2 rfl rfl (fun q2 => ?_) (fun q2 => ?_))
    · refine xr_end rfl ?_
      refine th_n ?_
      refine xc_true rfl ?_
      refine xc_skip ?_
      refine th_n ?_
      refine xc_seq ?_
      refine xc_block ?_
      refine xc_seq ?_
      refine xc_draw0 [(0, .S), (1, .S), (2, .S), (3, .R), (4, .S), (5, .S), (6, .S), (7, .R), (8, .S)] mixed (by kernel_rfl) ?_
      have hlto : k < xs.length := by (first|omega|(dsimp only at *;omega)|(simp at *;omega))
      obtain ⟨bo, oo, lo, to, fzo, hao, hmo, hxo⟩ := (hs).at hlto
      obtain ⟨xo, hko⟩ : ∃ qq_, xs[k]? = some qq_ := ⟨_, List.getElem?_eq_getElem hlto⟩
      have hltp : k < ys.length := by (first|omega|(dsimp only at *;omega)|(simp at *;omega))
      obtain ⟨bp, op, lp, tp, fzp, hap, hmp, hxp⟩ := (hs2).at hltp
      obtain ⟨xp, hkp⟩ : ∃ qq_, ys[k]? = some qq_ := ⟨_, List.getElem?_eq_getElem hltp⟩
      refine js_S rfl rfl (.inl rfl) (xv_move rfl ⟨rfl, rfl⟩) ?_
      refine js_S rfl rfl (.inl rfl) (xv_move rfl ⟨rfl, rfl⟩) ?_
      refine js_S rfl rfl (.inl rfl) (xv_ia (sz := 2) (j := k) sl22 ty44 rfl (by rw [hao]; rfl) rfl (by (first | assumption | with_reducible exact Int.toNat_natCast _ | with_reducible rfl | rfl)) (by (first|omega|(dsimp only at *;omega)|(simp at *;omega))) (by (first|omega|(dsimp only at *;omega)|(simp at *;omega))) ⟨rfl, rfl⟩) ?_
      refine js_R0 rfl rfl (.inl rfl) (xv_loadA ty44 rfl rfl (by ((repeat first|exact z_0|assumption|refine z_1 ?_|(refine z_l ?_;(repeat first|exact z_0|assumption|refine z_1 ?_);done)|refine z_r ?_);done)) (hxo (k) xo hko) rfl ⟨rfl, rfl⟩) ?_
      refine js_S rfl rfl (.inl rfl) (xv_move rfl ⟨rfl, rfl⟩) ?_
      refine js_S rfl rfl (.inl rfl) (xv_move rfl ⟨rfl, rfl⟩) ?_
      refine js_S rfl rfl (.inl rfl) (xv_ia (sz := 2) (j := k) sl22 ty44 rfl (by rw [hap]; rfl) rfl (by (first | assumption | with_reducible exact Int.toNat_natCast _ | with_reducible rfl | rfl)) (by (first|omega|(dsimp only at *;omega)|(simp at *;omega))) (by (first|omega|(dsimp only at *;omega)|(simp at *;omega))) ⟨rfl, rfl⟩) ?_
      refine js_R0 rfl rfl (.inl rfl) (xv_loadA ty44 rfl rfl (by ((repeat first|exact z_0|assumption|refine z_1 ?_|(refine z_l ?_;(repeat first|exact z_0|assumption|refine z_1 ?_);done)|refine z_r ?_);done)) (hxp (k) xp hkp) rfl ⟨rfl, rfl⟩) ?_
      refine js_S rfl rfl (.inl rfl) (xv_neA (b := !decide (xo = xp)) fq44 rfl eg44 rfl rfl rfl rfl (by ((repeat' first | assumption | exact numNil | refine numCons ?_ | refine numApp ?_ ?_); done)) (by ((repeat' first | assumption | exact numNil | refine numCons ?_ | refine numApp ?_ ?_); done)) (eqc_sightD xo xp) ⟨rfl, rfl⟩) ?_
      refine j_end0 ?_
      refine th_n ?_
      refine xc_bool rfl (fun q3 => ?_) (fun q3 => ?_)
      · refine xc_seq (xc_region ?_)
        have hne : ¬ xs = ys := fun hq => by subst hq; have hq2 := Option.some.inj (hko.symm.trans hkp); simp_all
        refine xr_op rfl rfl (xv_assign rfl ?_)
        refine xr_end rfl ?_
        refine th_n ?_
        refine xc_ret ?_
        refine bk_r ?_
        refine th_r ?_
        refine th_r ?_
        refine bk_r ?_
        refine th_r ?_
        refine body_ret (h' := h) rfl (ro_tmp rfl ro_nil) (by (first|((repeat first|exact s_0|exact s_1|exact s_3|refine s_4 ?_|refine s_5 ?_|refine s_6 ?_|refine s_7 ?_);done)|((repeat first|exact s_0|exact s_1|exact s_3|refine s_4 ?_|refine s_5 ?_|refine s_6 ?_|refine s_8 ?_);done))) ?_
        first | (rw [decide_eq_true hxy] at H; exact H) | (rw [decide_eq_false hne] at H; exact H) | (rw [decide_eq_false (fun hq => by subst hq; omega)] at H; exact H)
      · refine xc_skip ?_
        refine bk_n ?_
        refine th_n ?_
        refine xc_region ?_
        have heq : xo = xp := by simp_all
        refine xr_op rfl rfl (xv_move rfl ?_)
        refine xr_op rfl rfl (xv_add rfl rfl (wrap_i64 (by (first|omega|(dsimp only at *;omega)|(simp at *;omega))) (by (first|omega|(dsimp only at *;omega)|(simp at *;omega)))) ?_)
        refine xr_op rfl rfl (xv_assign rfl ?_)
        refine xr_end rfl ?_
        exact rnd (k + 1) ⟨by (first|omega|(dsimp only at *;omega)|(simp at *;omega)), by rw [List.take_add_one, List.take_add_one, hko, hkp, hall, heq]⟩ (by (first|omega|(dsimp only at *;omega)|(simp at *;omega))) (le_put (le_put (le_put (le_emp _) rfl) rfl) rfl) (by (first|((repeat first|exact s_0|exact s_1|exact s_3|refine s_4 ?_|refine s_5 ?_|refine s_6 ?_|refine s_7 ?_);done)|((repeat first|exact s_0|exact s_1|exact s_3|refine s_4 ?_|refine s_5 ?_|refine s_6 ?_|refine s_8 ?_);done)))
    · refine xr_end rfl ?_
      refine th_n ?_
      refine xc_false rfl ?_
      refine xc_exit ?_
      refine th_x ?_
      refine th_x ?_
      refine bk_same ?_
      refine th_n ?_
      refine xc_seq (xc_region ?_)
      obtain rfl : k = xs.length := by (first|omega|(dsimp only at *;omega)|(simp at *;omega))
      have hxy : xs = ys := by rw [List.take_length] at hall; rw [hall, hle, List.take_length]
      refine xr_op rfl rfl (xv_assign rfl ?_)
      refine xr_end rfl ?_
      refine th_n ?_
      refine xc_ret ?_
      refine body_ret (h' := h) rfl (ro_tmp rfl ro_nil) (by (first|((repeat first|exact s_0|exact s_1|exact s_3|refine s_4 ?_|refine s_5 ?_|refine s_6 ?_|refine s_7 ?_);done)|((repeat first|exact s_0|exact s_1|exact s_3|refine s_4 ?_|refine s_5 ?_|refine s_6 ?_|refine s_8 ?_);done))) ?_
      first | (rw [decide_eq_true hxy] at H; exact H) | (rw [decide_eq_false hne] at H; exact H) | (rw [decide_eq_false (fun hq => by subst hq; omega)] at H; exact H)

end Go.Proofs.YtlpkiolopelpfaaDoor

/-
  Texts: words, lines; figures.
-/
set_option linter.all false
namespace Go.Proofs.YtlpkiolopelpfaaDoor
open Go Go.H
abbrev Str := List UInt8
def eStr (w : Str) : List Value := [S w]
theorem eStr_len (w : Str) : (eStr w).length = 1 := rfl
theorem eStr_1 (w : Str) : (eStr w).all Value.oneCell' = true := rfl
def dec (n : Nat) : Str := (if h : 10 ≤ n then dec (n / 10) else []) ++ [UInt8.ofNat (48 + n % 10)]
termination_by n
decreasing_by omega
def decI (n : Int) : Str := dec n.toNat
def jn : List Str → Str
  | [] => []
  | [w] => w
  | w :: ws => w ++ 32 :: jn ws
theorem jn_cons (w x : Str) (ws : List Str) : jn (w :: x :: ws) = w ++ 32 :: jn (x :: ws) := rfl
def tailJ (ws : List Str) : Str := ws.flatMap fun w => 32 :: w
theorem jn_tail (w : Str) : ∀ ws : List Str, jn (w :: ws) = w ++ tailJ ws
  | [] => by simp [jn, tailJ]
  | x :: ws => by rw [jn_cons, jn_tail x ws]; simp [tailJ]
theorem tailJ_snoc (ws : List Str) (w : Str) : tailJ (ws ++ [w]) = tailJ ws ++ 32 :: w := by simp [tailJ]
def lineS (ws : List Str) : Str := jn ws ++ [10]
def ItoaC (n : Int) (h : Hp) : Prop := ∀ (h' : Hp) (R : Ending → Hp → Prop), h ⊆ h' → R (.returned (S (decI n))) h' → ACalls Tryd.prog 62 ⟨[.int .i64 n]⟩ h' R
theorem ItoaC.sub {n : Int} {h g : Hp} (H : ItoaC n h) (hs : h ⊆ g) : ItoaC n g := fun h' R h1 h2 => H h' R (fun z hz => h1 (hs hz)) h2
theorem dec_small {n : Nat} (h : n < 10) : dec n = [UInt8.ofNat (48 + n)] := by rw [dec, dif_neg (by omega), Nat.mod_eq_of_lt h]; rfl
theorem dec_len {n : Nat} : ∀ k, n < 10 ^ k → (dec n).length ≤ max k 1 := by
  induction n using Nat.strongRecOn with
  | _ n ih =>
    intro k hk
    rw [dec]
    split
    · rename_i h
      cases k with
      | zero => omega
      | succ k =>
        have hk' : n / 10 < 10 ^ k := by rw [Nat.pow_succ] at hk; omega
        have h2 := ih (n / 10) (by omega) k hk'
        have h1 : 1 ≤ k := by
          rcases Nat.eq_zero_or_pos k with h0 | h0
          · subst h0; omega
          · exact h0
        rw [List.length_append, List.length_singleton]
        omega
    · simp; omega
theorem decI_len {n : Int} (h : n ≤ 1000000000) : (decI n).length ≤ 10 := by
  have := dec_len (n := n.toNat) 10 (by omega)
  unfold decI; omega
def fig (n : Nat) (j : Nat) : Int := 48 + ((n / 10 ^ (4 - j) % 10 : Nat) : Int)
def figs (n : Nat) : List Int := (List.range 5).map (fig n)
def figP (n i : Nat) : List Int := (List.range 5).map fun j => if j + i < 5 then 0 else fig n j
theorem figP_5 (n : Nat) : figP n 5 = figs n := rfl
theorem figP_succ {n i : Nat} (h : i < 5) : figP n (i + 1) = (figP n i).set (4 - i) (48 + ((n / 10 ^ i % 10 : Nat) : Int)) := by
  rcases (show i = 0 ∨ i = 1 ∨ i = 2 ∨ i = 3 ∨ i = 4 by omega) with rfl | rfl | rfl | rfl | rfl <;> rfl
theorem figP_len (n i : Nat) : (figP n i).length = 5 := rfl
theorem figs_byt (n : Nat) : byt (figs n) := fun b hb => by
  obtain ⟨j, _, rfl⟩ := List.mem_map.1 hb
  unfold fig; omega
def dif : List Int → List Int → Nat
  | x :: a, y :: b => if x = y then dif a b + 1 else 0
  | _, _ => 0
theorem dif_lt : ∀ {a b : List Int}, a.length = b.length → a ≠ b → dif a b < a.length
  | [], [], _, h => absurd rfl h
  | [], _ :: _, h, _ => by cases h
  | _ :: _, [], h, _ => by cases h
  | x :: a, y :: b, h, hn => by
    rw [dif]
    split
    · rename_i hxy
      have := dif_lt (a := a) (b := b) (by simpa using h) (fun hq => hn (by rw [hxy, hq]))
      rw [List.length_cons]; omega
    · rw [List.length_cons]; omega
theorem dif_ne : ∀ {a b : List Int}, a.length = b.length → a ≠ b → a[dif a b]? ≠ b[dif a b]?
  | [], [], _, h => absurd rfl h
  | [], _ :: _, h, _ => by cases h
  | _ :: _, [], h, _ => by cases h
  | x :: a, y :: b, h, hn => by
    rw [dif]
    split
    · rename_i hxy
      rw [List.getElem?_cons_succ, List.getElem?_cons_succ]
      exact dif_ne (by simpa using h) (fun hq => hn (by rw [hxy, hq]))
    · simpa using ‹_›
theorem dif_eq : ∀ {a b : List Int} {i : Nat}, i < dif a b → a[i]? = b[i]?
  | [], _, i, h => by simp [dif] at h
  | _ :: _, [], i, h => by simp [dif] at h
  | x :: a, y :: b, i, h => by
    rw [dif] at h
    split at h
    · rename_i hxy
      cases i with
      | zero => simp [hxy]
      | succ i => rw [List.getElem?_cons_succ, List.getElem?_cons_succ]; exact dif_eq (by omega)
    · omega
def wordS (f was : List Int) : Str := if f = was then [46] else u8 (f.drop (dif f was))
end Go.Proofs.YtlpkiolopelpfaaDoor
