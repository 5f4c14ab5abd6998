/-
  Walks.
-/
import Derived.Test.YtlpkiolopelpfaaDoorW1
import Derived.Test.YtlpkiolopelpfaaDoorP8
namespace Go.Proofs.YtlpkiolopelpfaaDoor
open Go Go.H
set_option maxRecDepth 100000
set_option maxHeartbeats 8000000
set_option linter.all false
theorem okSight_c {x : Sight} {b : Nat} {h : Hp} {R : Ending → Hp → Prop} (hm : (b, .cells ⟨[.func (.func 18) ⟨[]⟩ ⟨[]⟩]⟩ 45 (0, 0)) ∈ h) (H : R (.returned (.bool (!decide (sightOk x)))) h) : ACalls Tryd.prog 48 ⟨[.agg ⟨eSight x⟩, .pointer (some ⟨b, 0, none⟩)]⟩ h R := by
  refine calls_of_xc (N := 8) Tryd.func48 rfl (by rfl) ?_
  refine xc_seq (xc_region ?_)
  refine xr_op rfl rfl (xv_box rfl (fun b1 hb1 => ?_))
  refine xr_op rfl rfl (xv_assign rfl ?_)
  refine xr_end rfl ?_
  refine th_n ?_
  refine xc_seq (xc_region ?_)
  refine xr_op rfl rfl (xv_load1 ty45 rfl rfl (by ((repeat first|exact z_0|assumption|refine z_1 ?_|(refine z_l ?_;(repeat first|exact z_0|assumption|refine z_1 ?_);done)|refine z_r ?_);done)) (by rfl) ?_)
  refine xr_op rfl rfl (xv_loadA ty44 rfl rfl (by ((repeat first|exact z_0|assumption|refine z_1 ?_|(refine z_l ?_;(repeat first|exact z_0|assumption|refine z_1 ?_);done)|refine z_r ?_);done)) (by ((try apply evl_some rfl);(repeat (first|exact (rfl : _ = [])|apply evl_cons rfl (by (first|exact v_1|exact v_2|exact v_3|exact v_4|exact v_5|exact v_6|exact v_7|exact v_8|exact v_9|exact rfl))|exact rfl)))) (by rfl) ?_)
  refine xr_op rfl rfl (xv_fn rfl rfl (afn_func hb18 (isSight_c (up_ret ?_))))
  refine xr_op rfl rfl (xv_not rfl ?_)
  refine xr_op rfl rfl (xv_assign rfl ?_)
  refine xr_end rfl ?_
  refine th_n ?_
  refine xc_ret ?_
  refine body_ret (h' := h) rfl (ro_tmp rfl ro_nil) (by (first|((repeat first|exact s_0|exact s_1|exact s_3|refine s_4 ?_|refine s_5 ?_|refine s_6 ?_|refine s_7 ?_);done)|((repeat first|exact s_0|exact s_1|exact s_3|refine s_4 ?_|refine s_5 ?_|refine s_6 ?_|refine s_8 ?_);done))) ?_
  exact H

theorem indexSight_c {a : Option Addr} {c : Nat} {xs : List Sight} {f : Value} {p : Sight → Bool} {h : Hp} {R : Ending → Hp → Prop} (hs : SlV h 2 eSight a xs) (hlen : xs.length ≤ 4611686018427387904)
    (hf : ∀ x ∈ xs, ∀ R', R' (.returned (.bool (p x))) h → AFn Tryd.prog f [.agg ⟨eSight x⟩] h R')
    (H1 : ∀ (k : Nat) (x : Sight), xs[k]? = some x → p x = true → R (.returned (I k)) h) (H2 : (∀ (k : Nat) (x : Sight), xs[k]? = some x → p x = false) → R (.returned (I (-1))) h) :
    ACalls Tryd.prog 67 ⟨[.slice a xs.length c, f]⟩ h R := by
  refine calls_of_xc (N := 19) Tryd.func67 rfl (by rfl) ?_
  refine xc_seq (xc_region ?_)
  refine xr_op rfl rfl (xv_assign rfl ?_)
  refine xr_end rfl ?_
  refine th_n ?_
  refine xc_seq ?_
  refine xc_seq (xc_region ?_)
  refine xr_op rfl rfl (xv_move rfl ?_)
  refine xr_op rfl rfl (xv_len sl22 rfl ?_)
  refine xr_op rfl rfl (xv_move rfl ?_)
  refine xr_end rfl ?_
  refine th_n ?_
  refine xc_block ?_
  refine xc_loop (σ := Nat) (fun k => k ≤ xs.length ∧ ∀ j x, j < k → xs[j]? = some x → p x = false) (fun k => ((((emp.put (some 0) (.slice a xs.length c)).put (some 1) (f)).put (some 7) (I xs.length)).put (some 8) (I k))) (fun k => h) (fun k => xs.length - k) 0 ⟨Nat.zero_le _, fun _ _ h0 => absurd h0 (Nat.not_lt_zero _)⟩ (le_put (le_put (le_put (le_put (le_emp _) rfl) rfl) rfl) rfl) (by (first|((repeat first|exact s_0|exact s_1|exact s_3|refine s_4 ?_|refine s_5 ?_|refine s_6 ?_|refine s_7 ?_);done)|((repeat first|exact s_0|exact s_1|exact s_3|refine s_4 ?_|refine s_5 ?_|refine s_6 ?_|refine s_8 ?_);done))) ?_
  rintro k ⟨hk, hall⟩
  refine xc_seq (xc_region ?_)
  refine xr_op rfl rfl (xv_lss2 rfl rfl (fun q1 => ?_) (fun q1 => ?_))
  · refine xr_end rfl ?_
    refine th_n ?_
    refine xc_seq ?_
    refine xc_true rfl ?_
    refine xc_skip ?_
    refine th_n ?_
    refine xc_seq ?_
    refine xc_block ?_
    refine xc_seq (xc_region ?_)
    refine xr_op rfl rfl (xv_move rfl ?_)
    refine xr_op rfl rfl (xv_assign rfl ?_)
    refine xr_end rfl ?_
    refine th_n ?_
    refine xc_seq (xc_region ?_)
    refine xr_op rfl rfl (xv_move rfl ?_)
    refine xr_op rfl rfl (xv_move rfl ?_)
    refine xr_op rfl rfl (xv_move rfl ?_)
    have hlt : k < xs.length := by omega
    obtain ⟨b, o, l, t, fz, rfl, hm, hx⟩ := hs.at hlt
    obtain ⟨x, hkx⟩ : ∃ x, xs[k]? = some x := ⟨_, List.getElem?_eq_getElem hlt⟩
    refine xr_op rfl rfl (xv_ia (sz := 2) sl22 ty44 rfl rfl rfl (by (first | assumption | with_reducible exact Int.toNat_natCast _ | with_reducible rfl | rfl)) (by (first|omega|(dsimp only at *;omega)|(simp at *;omega))) (by (first|omega|(dsimp only at *;omega)|(simp at *;omega))) ?_)
    refine xr_op rfl rfl (xv_loadA ty44 rfl rfl hm (hx k x hkx) rfl ?_)
    refine xr_op rfl rfl (xv_fn rfl rfl (hf x (List.mem_of_getElem? hkx) _ (up_ret ?_)))
    refine xr_end rfl ?_
    refine th_n ?_
    refine xc_bool rfl (fun q2 => ?_) (fun q2 => ?_)
    · refine xc_seq (xc_region ?_)
      refine xr_op rfl rfl (xv_move rfl ?_)
      refine xr_op rfl rfl (xv_assign rfl ?_)
      refine xr_end rfl ?_
      refine th_n ?_
      refine xc_ret ?_
      refine bk_r ?_
      refine th_r ?_
      refine th_r ?_
      refine bk_r ?_
      refine th_r ?_
      refine body_ret (h' := h) rfl (ro_tmp rfl ro_nil) (by (first|((repeat first|exact s_0|exact s_1|exact s_3|refine s_4 ?_|refine s_5 ?_|refine s_6 ?_|refine s_7 ?_);done)|((repeat first|exact s_0|exact s_1|exact s_3|refine s_4 ?_|refine s_5 ?_|refine s_6 ?_|refine s_8 ?_);done))) ?_
      first | exact H1 k x hkx (by assumption) | exact H2 (fun j x hj => hall j x (List.getElem?_eq_some_iff.1 hj).1 hj)
    · refine xc_skip ?_
      refine bk_n ?_
      refine th_n ?_
      refine xc_region ?_
      refine xr_op rfl rfl (xv_add rfl rfl (wrap_i64 (by (first|omega|(dsimp only at *;omega)|(simp at *;omega))) (by (first|omega|(dsimp only at *;omega)|(simp at *;omega)))) ?_)
      refine xr_op rfl rfl (xv_move rfl ?_)
      refine xr_end rfl ?_
      exact rnd (k + 1) ⟨by omega, fun j y hj hy => by
        rcases Nat.lt_succ_iff_lt_or_eq.1 hj with hj | rfl
        · exact hall j y hj hy
        · rw [hkx] at hy; cases hy; assumption⟩ (by omega) (le_put (le_put (le_put (le_put (le_emp _) rfl) rfl) rfl) rfl) (by (first|((repeat first|exact s_0|exact s_1|exact s_3|refine s_4 ?_|refine s_5 ?_|refine s_6 ?_|refine s_7 ?_);done)|((repeat first|exact s_0|exact s_1|exact s_3|refine s_4 ?_|refine s_5 ?_|refine s_6 ?_|refine s_8 ?_);done)))
  · refine xr_end rfl ?_
    refine th_n ?_
    refine xc_seq ?_
    refine xc_false rfl ?_
    refine xc_exit ?_
    refine th_x ?_
    refine th_x ?_
    refine bk_same ?_
    refine th_n ?_
    refine xc_seq (xc_region ?_)
    obtain rfl : k = xs.length := by omega
    refine xr_op rfl rfl (xv_assign rfl ?_)
    refine xr_end rfl ?_
    refine th_n ?_
    refine xc_ret ?_
    refine body_ret (h' := h) rfl (ro_tmp rfl ro_nil) (by (first|((repeat first|exact s_0|exact s_1|exact s_3|refine s_4 ?_|refine s_5 ?_|refine s_6 ?_|refine s_7 ?_);done)|((repeat first|exact s_0|exact s_1|exact s_3|refine s_4 ?_|refine s_5 ?_|refine s_6 ?_|refine s_8 ?_);done))) ?_
    first | exact H1 k x hkx (by assumption) | exact H2 (fun j x hj => hall j x (List.getElem?_eq_some_iff.1 hj).1 hj)

theorem containsSight_c {a : Option Addr} {c : Nat} {xs : List Sight} {f : Value} {p : Sight → Bool} {h : Hp} {R : Ending → Hp → Prop} (hs : SlV h 2 eSight a xs) (hlen : xs.length ≤ 4611686018427387904)
    (hf : ∀ x ∈ xs, ∀ R', R' (.returned (.bool (p x))) h → AFn Tryd.prog f [.agg ⟨eSight x⟩] h R')
    (H1 : ∀ x ∈ xs, p x = true → R (.returned (.bool true)) h) (H2 : (∀ x ∈ xs, p x = false) → R (.returned (.bool false)) h) :
    ACalls Tryd.prog 47 ⟨[.slice a xs.length c, f]⟩ h R := by
  refine calls_of_xc (N := 9) Tryd.func47 rfl (by rfl) ?_
  refine xc_seq (xc_region ?_)
  refine xr_op rfl rfl (xv_assign rfl ?_)
  refine xr_end rfl ?_
  refine th_n ?_
  refine xc_seq (xc_region ?_)
  refine xr_op rfl rfl (xv_move rfl ?_)
  refine xr_op rfl rfl (xv_move rfl ?_)
  refine xr_op rfl rfl (xv_calls rfl hb67 (indexSight_c hs hlen hf (fun k x hkx hpx => up_ret ?_) (fun hno => up_ret ?_)))
  · refine xr_op rfl rfl (xv_geq2 rfl rfl (fun q1 => ?_) (fun q1 => ?_))
    · refine xr_op rfl rfl (xv_assign rfl ?_)
      refine xr_end rfl ?_
      refine th_n ?_
      refine xc_ret ?_
      refine body_ret (h' := h) rfl (ro_tmp rfl ro_nil) (by (first|((repeat first|exact s_0|exact s_1|exact s_3|refine s_4 ?_|refine s_5 ?_|refine s_6 ?_|refine s_7 ?_);done)|((repeat first|exact s_0|exact s_1|exact s_3|refine s_4 ?_|refine s_5 ?_|refine s_6 ?_|refine s_8 ?_);done))) ?_
      first | (exfalso; omega) | exact H1 x (List.mem_of_getElem? hkx) hpx | exact H2 (fun y hy => by obtain ⟨j, hj⟩ := List.getElem?_of_mem hy; exact hno j y hj)
    · refine xr_op rfl rfl (xv_assign rfl ?_)
      refine xr_end rfl ?_
      refine th_n ?_
      refine xc_ret ?_
      refine body_ret (h' := h) rfl (ro_tmp rfl ro_nil) (by (first|((repeat first|exact s_0|exact s_1|exact s_3|refine s_4 ?_|refine s_5 ?_|refine s_6 ?_|refine s_7 ?_);done)|((repeat first|exact s_0|exact s_1|exact s_3|refine s_4 ?_|refine s_5 ?_|refine s_6 ?_|refine s_8 ?_);done))) ?_
      first | (exfalso; omega) | exact H1 x (List.mem_of_getElem? hkx) hpx | exact H2 (fun y hy => by obtain ⟨j, hj⟩ := List.getElem?_of_mem hy; exact hno j y hj)
  · refine xr_op rfl rfl (xv_geq2 rfl rfl (fun q2 => ?_) (fun q2 => ?_))
    · refine xr_op rfl rfl (xv_assign rfl ?_)
      refine xr_end rfl ?_
      refine th_n ?_
      refine xc_ret ?_
      refine body_ret (h' := h) rfl (ro_tmp rfl ro_nil) (by (first|((repeat first|exact s_0|exact s_1|exact s_3|refine s_4 ?_|refine s_5 ?_|refine s_6 ?_|refine s_7 ?_);done)|((repeat first|exact s_0|exact s_1|exact s_3|refine s_4 ?_|refine s_5 ?_|refine s_6 ?_|refine s_8 ?_);done))) ?_
      first | (exfalso; omega) | exact H1 x (List.mem_of_getElem? hkx) hpx | exact H2 (fun y hy => by obtain ⟨j, hj⟩ := List.getElem?_of_mem hy; exact hno j y hj)
    · refine xr_op rfl rfl (xv_assign rfl ?_)
      refine xr_end rfl ?_
      refine th_n ?_
      refine xc_ret ?_
      refine body_ret (h' := h) rfl (ro_tmp rfl ro_nil) (by (first|((repeat first|exact s_0|exact s_1|exact s_3|refine s_4 ?_|refine s_5 ?_|refine s_6 ?_|refine s_7 ?_);done)|((repeat first|exact s_0|exact s_1|exact s_3|refine s_4 ?_|refine s_5 ?_|refine s_6 ?_|refine s_8 ?_);done))) ?_
      first | (exfalso; omega) | exact H1 x (List.mem_of_getElem? hkx) hpx | exact H2 (fun y hy => by obtain ⟨j, hj⟩ := List.getElem?_of_mem hy; exact hno j y hj)

theorem errSight_c {xs : List Sight} {a : Option Addr} {c : Nat} {h : Hp} {R : Ending → Hp → Prop} (hs : SlV h 2 eSight a xs) (hl : xs.length ≤ 1000000) (H : R (.returned (I (errL 60 sightOk ltSight xs))) h) :
    ACalls Tryd.prog 17 ⟨[.slice a xs.length c, I 60, .func (.func 18) ⟨[]⟩ ⟨[]⟩, .func (.func 19) ⟨[]⟩ ⟨[]⟩]⟩ h R := by
  refine calls_of_xc (N := 41) Tryd.func17 rfl (by rfl) ?_
  refine xc_seq (xc_region ?_)
  refine xr_op rfl rfl (xv_box rfl (fun b6 hb6 => ?_))
  refine xr_op rfl rfl (xv_assign rfl ?_)
  refine xr_end rfl ?_
  refine th_n ?_
  refine xc_seq ?_
  refine xc_block ?_
  refine xc_seq (xc_region ?_)
  refine xr_op rfl rfl (xv_move rfl ?_)
  refine xr_op rfl rfl (xv_len sl22 rfl ?_)
  refine xr_op rfl rfl (xv_move rfl ?_)
  refine xr_op rfl rfl (xv_gtr2 rfl rfl (fun q1 => ?_) (fun q1 => ?_))
  · refine xr_op rfl rfl (xv_assign rfl ?_)
    refine xr_end rfl ?_
    refine th_n ?_
    refine xc_true rfl ?_
    refine xc_seq (xc_region ?_)
    refine xr_op rfl rfl (xv_assign rfl ?_)
    refine xr_end rfl ?_
    refine th_n ?_
    refine xc_ret ?_
    refine bk_r ?_
    refine th_r ?_
    refine body_ret (h' := h) rfl (ro_tmp rfl ro_nil) (by (first|((repeat first|exact s_0|exact s_1|exact s_3|refine s_4 ?_|refine s_5 ?_|refine s_6 ?_|refine s_7 ?_);done)|((repeat first|exact s_0|exact s_1|exact s_3|refine s_4 ?_|refine s_5 ?_|refine s_6 ?_|refine s_8 ?_);done))) ?_
    first | (rw [errL_3 (by omega)] at H; exact H) | (rw [errL_1 (by omega) (fun hq9 => by have h8 := hq9 x9 hx9; simp [h8] at hbd)] at H; exact H) | (rw [errL_7 (by omega) hok9 hna] at H; exact H) | (rw [errL_0 (by omega) hok9 hasc] at H; exact H)
  · refine xr_op rfl rfl (xv_assign rfl ?_)
    refine xr_end rfl ?_
    refine th_n ?_
    refine xc_false rfl ?_
    refine xc_seq (xc_region ?_)
    refine xr_op rfl rfl (xv_move rfl ?_)
    refine xr_op rfl rfl (xv_func rfl rfl ?_)
    refine xr_op rfl rfl (xv_calls rfl hb47 (containsSight_c (hs.sub (by intro z9 hz9; ((repeat first|exact z_0|assumption|refine z_1 ?_|(refine z_l ?_;(repeat first|exact z_0|assumption|refine z_1 ?_);done)|refine z_r ?_);done))) (by omega) (p := fun x => !decide (sightOk x)) (fun x hx R9 hR => afn_func (fi := []) (lb := [.pointer (some ⟨b6, 0, none⟩)]) hb48 (okSight_c (by ((repeat first|exact z_0|assumption|refine z_1 ?_|(refine z_l ?_;(repeat first|exact z_0|assumption|refine z_1 ?_);done)|refine z_r ?_);done)) hR)) (fun x9 hx9 hbd => up_ret ?_) (fun hall => up_ret ?_)))
    · refine xr_op rfl rfl (xv_assign rfl ?_)
      refine xr_end rfl ?_
      refine th_n ?_
      refine xc_true rfl ?_
      refine xc_seq (xc_region ?_)
      refine xr_op rfl rfl (xv_assign rfl ?_)
      refine xr_end rfl ?_
      refine th_n ?_
      refine xc_ret ?_
      refine bk_r ?_
      refine th_r ?_
      refine body_ret (h' := h) rfl (ro_tmp rfl ro_nil) (by (first|((repeat first|exact s_0|exact s_1|exact s_3|refine s_4 ?_|refine s_5 ?_|refine s_6 ?_|refine s_7 ?_);done)|((repeat first|exact s_0|exact s_1|exact s_3|refine s_4 ?_|refine s_5 ?_|refine s_6 ?_|refine s_8 ?_);done))) ?_
      first | (rw [errL_3 (by omega)] at H; exact H) | (rw [errL_1 (by omega) (fun hq9 => by have h8 := hq9 x9 hx9; simp [h8] at hbd)] at H; exact H) | (rw [errL_7 (by omega) hok9 hna] at H; exact H) | (rw [errL_0 (by omega) hok9 hasc] at H; exact H)
    · refine xr_op rfl rfl (xv_assign rfl ?_)
      refine xr_end rfl ?_
      refine th_n ?_
      refine xc_false rfl ?_
      refine xc_skip ?_
      refine bk_n ?_
      refine th_n ?_
      refine xc_seq ?_
      refine xc_seq (xc_region ?_)
      have hok9 : ∀ x ∈ xs, sightOk x := fun x hx => by simpa using hall x hx
      refine xr_op rfl rfl (xv_move rfl ?_)
      refine xr_op rfl rfl (xv_len sl22 rfl ?_)
      refine xr_op rfl rfl (xv_move rfl ?_)
      refine xr_end rfl ?_
      refine th_n ?_
      refine xc_block ?_
      refine xc_loop (σ := Nat) (fun k => k ≤ xs.length ∧ Asc ltSight xs k) (fun k => ((((((emp.put (some 0) (.slice a xs.length c)).put (some 3) (.func (.func 19) ⟨[]⟩ ⟨[]⟩)).put (some 8) (I 0)).put (some 19) (.slice a xs.length c)).put (some 20) (I xs.length)).put (some 21) (I k))) (fun k => ((b6, .cells ⟨[.func (.func 18) ⟨[]⟩ ⟨[]⟩]⟩ 45) :: h)) (fun k => xs.length - k) 0 ⟨Nat.zero_le _, Asc.zero⟩ (le_put (le_put (le_put (le_put (le_put (le_put (le_emp _) rfl) rfl) rfl) rfl) rfl) rfl) (by (first|((repeat first|exact s_0|exact s_1|exact s_3|refine s_4 ?_|refine s_5 ?_|refine s_6 ?_|refine s_7 ?_);done)|((repeat first|exact s_0|exact s_1|exact s_3|refine s_4 ?_|refine s_5 ?_|refine s_6 ?_|refine s_8 ?_);done))) ?_
      rintro k ⟨hk, hasc⟩
      refine xc_seq (xc_region ?_)
      refine xr_op rfl rfl (xv_lss2 rfl rfl (fun q2 => ?_) (fun q2 => ?_))
      · refine xr_end rfl ?_
        refine th_n ?_
        refine xc_seq ?_
        refine xc_true rfl ?_
        refine xc_skip ?_
        refine th_n ?_
        refine xc_seq ?_
        refine xc_block ?_
        refine xc_seq (xc_region ?_)
        refine xr_op rfl rfl (xv_move rfl ?_)
        refine xr_op rfl rfl (xv_assign rfl ?_)
        refine xr_end rfl ?_
        refine th_n ?_
        refine xc_seq ?_
        refine xc_draw0 [(0, .S), (1, .O), (2, .S), (3, .S), (4, .S), (5, .S), (6, .S), (7, .S), (8, .R), (9, .S), (10, .S), (11, .S), (12, .R), (13, .O), (14, .O), (15, .S)] mixed (by kernel_rfl) ?_
        refine js_S rfl rfl (.inl rfl) (xv_move rfl ⟨rfl, rfl⟩) ?_
        have hlto : k < xs.length := by (first|omega|(dsimp only at *;omega)|(simp at *;omega))
        obtain ⟨bo, oo, lo, to, fzo, hao, hmo, hxo⟩ := (hs).at hlto
        obtain ⟨xo, hko⟩ : ∃ qq_, xs[k]? = some qq_ := ⟨_, List.getElem?_eq_getElem hlto⟩
        refine js_O0 rfl rfl (.inl rfl) (xv_gtr2 rfl rfl (fun hq => ?_) (fun hq => ?_))
        · refine js_S rfl rfl (.inl rfl) (xv_move rfl ⟨rfl, rfl⟩) ?_
          refine js_S rfl rfl (.inr ⟨_, _, rfl, rfl⟩) (xv_move rfl ⟨rfl, rfl⟩) ?_
          refine js_S rfl rfl (.inr ⟨_, _, rfl, rfl⟩) (xv_move rfl ⟨rfl, rfl⟩) ?_
          refine js_S rfl rfl (.inr ⟨_, _, rfl, rfl⟩) (xv_move rfl ⟨rfl, rfl⟩) ?_
          obtain ⟨j, hj⟩ : ∃ j, k = j + 1 := ⟨k - 1, by (first|omega|(dsimp only at *;omega)|(simp at *;omega))⟩
          have hltp : j < xs.length := by (first|omega|(dsimp only at *;omega)|(simp at *;omega))
          obtain ⟨bp, op, lp, tp, fzp, hap, hmp, hxp⟩ := (hs).at hltp
          obtain ⟨xp, hkp⟩ : ∃ qq_, xs[j]? = some qq_ := ⟨_, List.getElem?_eq_getElem hltp⟩
          refine js_S rfl rfl (.inr ⟨_, _, rfl, rfl⟩) (xv_sub rfl rfl (wrap_i64 (by (first|omega|(dsimp only at *;omega)|(simp at *;omega))) (by (first|omega|(dsimp only at *;omega)|(simp at *;omega)))) ⟨rfl, rfl⟩) ?_
          refine js_S rfl rfl (.inr ⟨_, _, rfl, rfl⟩) (xv_ia (sz := 2) (j := j) sl22 ty44 rfl (by rw [hap]; rfl) rfl (by omega) (by (first|omega|(dsimp only at *;omega)|(simp at *;omega))) (by (first|omega|(dsimp only at *;omega)|(simp at *;omega))) ⟨rfl, rfl⟩) ?_
          refine js_R0 rfl rfl (.inr ⟨_, _, rfl, rfl⟩) (xv_loadA ty44 rfl rfl (by ((repeat first|exact z_0|assumption|refine z_1 ?_|(refine z_l ?_;(repeat first|exact z_0|assumption|refine z_1 ?_);done)|refine z_r ?_);done)) (hxp (j) xp hkp) rfl ⟨rfl, rfl⟩) ?_
          refine js_S rfl rfl (.inr ⟨_, _, rfl, rfl⟩) (xv_move rfl ⟨rfl, rfl⟩) ?_
          refine js_S rfl rfl (.inr ⟨_, _, rfl, rfl⟩) (xv_move rfl ⟨rfl, rfl⟩) ?_
          refine js_S rfl rfl (.inr ⟨_, _, rfl, rfl⟩) (xv_ia (sz := 2) (j := k) sl22 ty44 rfl (by rw [hao]; rfl) rfl (by (first | assumption | with_reducible exact Int.toNat_natCast _ | with_reducible rfl | rfl)) (by (first|omega|(dsimp only at *;omega)|(simp at *;omega))) (by (first|omega|(dsimp only at *;omega)|(simp at *;omega))) ⟨rfl, rfl⟩) ?_
          refine js_R0 rfl rfl (.inr ⟨_, _, rfl, rfl⟩) (xv_loadA ty44 rfl rfl (by ((repeat first|exact z_0|assumption|refine z_1 ?_|(refine z_l ?_;(repeat first|exact z_0|assumption|refine z_1 ?_);done)|refine z_r ?_);done)) (hxo (k) xo hko) rfl ⟨rfl, rfl⟩) ?_
          refine js_O0 rfl rfl (.inr ⟨_, _, rfl, rfl⟩) (xv_fn rfl rfl (afn_func hb19 (cmpSight_c (up_ret ?_))))
          refine js_O0 rfl rfl (.inr ⟨_, _, rfl, rfl⟩) (xv_geq2 rfl rfl (fun hq => ?_) (fun hq => ?_))
          · refine js_S rfl rfl (.inl rfl) (xv_pick rfl rfl ⟨rfl, rfl⟩) ?_
            refine j_end0 ?_
            refine th_n ?_
            refine xc_true rfl ?_
            refine xc_seq (xc_region ?_)
            have hna := Asc.not (lt := ltSight) hkp (by rw [← hj]; exact hko) (by unfold ltSight; have := cmpI_ge.1 (show 0 ≤ cmpI _ _ by assumption); omega)
            refine xr_op rfl rfl (xv_assign rfl ?_)
            refine xr_end rfl ?_
            refine th_n ?_
            refine xc_ret ?_
            refine bk_r ?_
            refine th_r ?_
            refine th_r ?_
            refine bk_r ?_
            refine th_r ?_
            refine body_ret (h' := h) rfl (ro_tmp rfl ro_nil) (by (first|((repeat first|exact s_0|exact s_1|exact s_3|refine s_4 ?_|refine s_5 ?_|refine s_6 ?_|refine s_7 ?_);done)|((repeat first|exact s_0|exact s_1|exact s_3|refine s_4 ?_|refine s_5 ?_|refine s_6 ?_|refine s_8 ?_);done))) ?_
            first | (rw [errL_3 (by omega)] at H; exact H) | (rw [errL_1 (by omega) (fun hq9 => by have h8 := hq9 x9 hx9; simp [h8] at hbd)] at H; exact H) | (rw [errL_7 (by omega) hok9 hna] at H; exact H) | (rw [errL_0 (by omega) hok9 hasc] at H; exact H)
          · refine js_S rfl rfl (.inl rfl) (xv_pick rfl rfl ⟨rfl, rfl⟩) ?_
            refine j_end0 ?_
            refine th_n ?_
            refine xc_false rfl ?_
            refine xc_skip ?_
            refine bk_n ?_
            refine th_n ?_
            refine xc_region ?_
            have hlt9 : ¬ 0 ≤ cmpI xp.hour xo.hour := by omega
            refine xr_op rfl rfl (xv_add rfl rfl (wrap_i64 (by (first|omega|(dsimp only at *;omega)|(simp at *;omega))) (by (first|omega|(dsimp only at *;omega)|(simp at *;omega)))) ?_)
            refine xr_op rfl rfl (xv_move rfl ?_)
            refine xr_end rfl ?_
            exact rnd (k + 1) ⟨by (first|omega|(dsimp only at *;omega)|(simp at *;omega)), hasc.step fun i9 a9 b9 hi9 ha9 hb9 => by (obtain rfl : i9 = j := by omega); rw [hkp] at ha9; rw [show i9 + 1 = k by omega, hko] at hb9; cases ha9; cases hb9; exact (Classical.not_not.1 (fun hn9 => hlt9 ((fun hn8 => cmpI_ge.2 hn8) hn9)))⟩ (by (first|omega|(dsimp only at *;omega)|(simp at *;omega))) (le_put (le_put (le_put (le_put (le_put (le_put (le_emp _) rfl) rfl) rfl) rfl) rfl) rfl) (by (first|((repeat first|exact s_0|exact s_1|exact s_3|refine s_4 ?_|refine s_5 ?_|refine s_6 ?_|refine s_7 ?_);done)|((repeat first|exact s_0|exact s_1|exact s_3|refine s_4 ?_|refine s_5 ?_|refine s_6 ?_|refine s_8 ?_);done)))
        · refine js_S rfl rfl (.inl rfl) (xv_move rfl ⟨rfl, rfl⟩) ?_
          refine js_Ss rfl rfl ⟨_, _, _, rfl, rfl, rfl⟩ ?_
          refine js_Ss rfl rfl ⟨_, _, _, rfl, rfl, rfl⟩ ?_
          refine js_Ss rfl rfl ⟨_, _, _, rfl, rfl, rfl⟩ ?_
          refine js_Ss rfl rfl ⟨_, _, _, rfl, rfl, rfl⟩ ?_
          refine js_Ss rfl rfl ⟨_, _, _, rfl, rfl, rfl⟩ ?_
          refine js_Rs rfl rfl ⟨_, _, _, rfl, rfl, rfl⟩ ?_
          refine js_Ss rfl rfl ⟨_, _, _, rfl, rfl, rfl⟩ ?_
          refine js_Ss rfl rfl ⟨_, _, _, rfl, rfl, rfl⟩ ?_
          refine js_Ss rfl rfl ⟨_, _, _, rfl, rfl, rfl⟩ ?_
          refine js_Rs rfl rfl ⟨_, _, _, rfl, rfl, rfl⟩ ?_
          refine js_Os rfl rfl ⟨_, _, _, rfl, rfl, rfl⟩ ?_
          refine js_Os rfl rfl ⟨_, _, _, rfl, rfl, rfl⟩ ?_
          refine js_S rfl rfl (.inl rfl) (xv_pick rfl rfl ⟨rfl, rfl⟩) ?_
          refine j_end0 ?_
          refine th_n ?_
          refine xc_false rfl ?_
          refine xc_skip ?_
          refine bk_n ?_
          refine th_n ?_
          refine xc_region ?_
          refine xr_op rfl rfl (xv_add rfl rfl (wrap_i64 (by (first|omega|(dsimp only at *;omega)|(simp at *;omega))) (by (first|omega|(dsimp only at *;omega)|(simp at *;omega)))) ?_)
          refine xr_op rfl rfl (xv_move rfl ?_)
          refine xr_end rfl ?_
          exact rnd (k + 1) ⟨by (first|omega|(dsimp only at *;omega)|(simp at *;omega)), hasc.step fun i9 a9 b9 hi9 ha9 hb9 => by omega⟩ (by (first|omega|(dsimp only at *;omega)|(simp at *;omega))) (le_put (le_put (le_put (le_put (le_put (le_put (le_emp _) rfl) rfl) rfl) rfl) rfl) rfl) (by (first|((repeat first|exact s_0|exact s_1|exact s_3|refine s_4 ?_|refine s_5 ?_|refine s_6 ?_|refine s_7 ?_);done)|((repeat first|exact s_0|exact s_1|exact s_3|refine s_4 ?_|refine s_5 ?_|refine s_6 ?_|refine s_8 ?_);done)))
      · refine xr_end rfl ?_
        refine th_n ?_
        refine xc_seq ?_
        refine xc_false rfl ?_
        refine xc_exit ?_
        refine th_x ?_
        refine th_x ?_
        refine bk_same ?_
        refine th_n ?_
        refine xc_seq (xc_region ?_)
        obtain rfl : k = xs.length := by (first|omega|(dsimp only at *;omega)|(simp at *;omega))
        refine xr_op rfl rfl (xv_assign rfl ?_)
        refine xr_end rfl ?_
        refine th_n ?_
        refine xc_ret ?_
        refine body_ret (h' := h) rfl (ro_tmp rfl ro_nil) (by (first|((repeat first|exact s_0|exact s_1|exact s_3|refine s_4 ?_|refine s_5 ?_|refine s_6 ?_|refine s_7 ?_);done)|((repeat first|exact s_0|exact s_1|exact s_3|refine s_4 ?_|refine s_5 ?_|refine s_6 ?_|refine s_8 ?_);done))) ?_
        first | (rw [errL_3 (by omega)] at H; exact H) | (rw [errL_1 (by omega) (fun hq9 => by have h8 := hq9 x9 hx9; simp [h8] at hbd)] at H; exact H) | (rw [errL_7 (by omega) hok9 hna] at H; exact H) | (rw [errL_0 (by omega) hok9 hasc] at H; exact H)

theorem okLoad_c {x : Load} {b : Nat} {h : Hp} {R : Ending → Hp → Prop} (hm : (b, .cells ⟨[.func (.func 36) ⟨[]⟩ ⟨[]⟩]⟩ 76 (0, 0)) ∈ h) (H : R (.returned (.bool (!decide (loadOk x)))) h) : ACalls Tryd.prog 58 ⟨[.agg ⟨eLoad x⟩, .pointer (some ⟨b, 0, none⟩)]⟩ h R := by
  refine calls_of_xc (N := 8) Tryd.func58 rfl (by rfl) ?_
  refine xc_seq (xc_region ?_)
  refine xr_op rfl rfl (xv_box rfl (fun b1 hb1 => ?_))
  refine xr_op rfl rfl (xv_assign rfl ?_)
  refine xr_end rfl ?_
  refine th_n ?_
  refine xc_seq (xc_region ?_)
  refine xr_op rfl rfl (xv_load1 ty76 rfl rfl (by ((repeat first|exact z_0|assumption|refine z_1 ?_|(refine z_l ?_;(repeat first|exact z_0|assumption|refine z_1 ?_);done)|refine z_r ?_);done)) (by rfl) ?_)
  refine xr_op rfl rfl (xv_loadA ty75 rfl rfl (by ((repeat first|exact z_0|assumption|refine z_1 ?_|(refine z_l ?_;(repeat first|exact z_0|assumption|refine z_1 ?_);done)|refine z_r ?_);done)) (by ((try apply evl_some rfl);(repeat (first|exact (rfl : _ = [])|apply evl_cons rfl (by (first|exact v_1|exact v_2|exact v_3|exact v_4|exact v_5|exact v_6|exact v_7|exact v_8|exact v_9|exact rfl))|exact rfl)))) (by rfl) ?_)
  refine xr_op rfl rfl (xv_fn rfl rfl (afn_func hb36 (isLoad_c (up_ret ?_))))
  refine xr_op rfl rfl (xv_not rfl ?_)
  refine xr_op rfl rfl (xv_assign rfl ?_)
  refine xr_end rfl ?_
  refine th_n ?_
  refine xc_ret ?_
  refine body_ret (h' := h) rfl (ro_tmp rfl ro_nil) (by (first|((repeat first|exact s_0|exact s_1|exact s_3|refine s_4 ?_|refine s_5 ?_|refine s_6 ?_|refine s_7 ?_);done)|((repeat first|exact s_0|exact s_1|exact s_3|refine s_4 ?_|refine s_5 ?_|refine s_6 ?_|refine s_8 ?_);done))) ?_
  exact H

theorem indexLoad_c {a : Option Addr} {c : Nat} {xs : List Load} {f : Value} {p : Load → Bool} {h : Hp} {R : Ending → Hp → Prop} (hs : SlV h 4 eLoad a xs) (hlen : xs.length ≤ 4611686018427387904)
    (hf : ∀ x ∈ xs, ∀ R', R' (.returned (.bool (p x))) h → AFn Tryd.prog f [.agg ⟨eLoad x⟩] h R')
    (H1 : ∀ (k : Nat) (x : Load), xs[k]? = some x → p x = true → R (.returned (I k)) h) (H2 : (∀ (k : Nat) (x : Load), xs[k]? = some x → p x = false) → R (.returned (I (-1))) h) :
    ACalls Tryd.prog 72 ⟨[.slice a xs.length c, f]⟩ h R := by
  refine calls_of_xc (N := 19) Tryd.func72 rfl (by rfl) ?_
  refine xc_seq (xc_region ?_)
  refine xr_op rfl rfl (xv_assign rfl ?_)
  refine xr_end rfl ?_
  refine th_n ?_
  refine xc_seq ?_
  refine xc_seq (xc_region ?_)
  refine xr_op rfl rfl (xv_move rfl ?_)
  refine xr_op rfl rfl (xv_len sl32 rfl ?_)
  refine xr_op rfl rfl (xv_move rfl ?_)
  refine xr_end rfl ?_
  refine th_n ?_
  refine xc_block ?_
  refine xc_loop (σ := Nat) (fun k => k ≤ xs.length ∧ ∀ j x, j < k → xs[j]? = some x → p x = false) (fun k => ((((emp.put (some 0) (.slice a xs.length c)).put (some 1) (f)).put (some 7) (I xs.length)).put (some 8) (I k))) (fun k => h) (fun k => xs.length - k) 0 ⟨Nat.zero_le _, fun _ _ h0 => absurd h0 (Nat.not_lt_zero _)⟩ (le_put (le_put (le_put (le_put (le_emp _) rfl) rfl) rfl) rfl) (by (first|((repeat first|exact s_0|exact s_1|exact s_3|refine s_4 ?_|refine s_5 ?_|refine s_6 ?_|refine s_7 ?_);done)|((repeat first|exact s_0|exact s_1|exact s_3|refine s_4 ?_|refine s_5 ?_|refine s_6 ?_|refine s_8 ?_);done))) ?_
  rintro k ⟨hk, hall⟩
  refine xc_seq (xc_region ?_)
  refine xr_op rfl rfl (xv_lss2 rfl rfl (fun q1 => ?_) (fun q1 => ?_))
  · refine xr_end rfl ?_
    refine th_n ?_
    refine xc_seq ?_
    refine xc_true rfl ?_
    refine xc_skip ?_
    refine th_n ?_
    refine xc_seq ?_
    refine xc_block ?_
    refine xc_seq (xc_region ?_)
    refine xr_op rfl rfl (xv_move rfl ?_)
    refine xr_op rfl rfl (xv_assign rfl ?_)
    refine xr_end rfl ?_
    refine th_n ?_
    refine xc_seq (xc_region ?_)
    refine xr_op rfl rfl (xv_move rfl ?_)
    refine xr_op rfl rfl (xv_move rfl ?_)
    refine xr_op rfl rfl (xv_move rfl ?_)
    have hlt : k < xs.length := by omega
    obtain ⟨b, o, l, t, fz, rfl, hm, hx⟩ := hs.at hlt
    obtain ⟨x, hkx⟩ : ∃ x, xs[k]? = some x := ⟨_, List.getElem?_eq_getElem hlt⟩
    refine xr_op rfl rfl (xv_ia (sz := 4) sl32 ty75 rfl rfl rfl (by (first | assumption | with_reducible exact Int.toNat_natCast _ | with_reducible rfl | rfl)) (by (first|omega|(dsimp only at *;omega)|(simp at *;omega))) (by (first|omega|(dsimp only at *;omega)|(simp at *;omega))) ?_)
    refine xr_op rfl rfl (xv_loadA ty75 rfl rfl hm (hx k x hkx) rfl ?_)
    refine xr_op rfl rfl (xv_fn rfl rfl (hf x (List.mem_of_getElem? hkx) _ (up_ret ?_)))
    refine xr_end rfl ?_
    refine th_n ?_
    refine xc_bool rfl (fun q2 => ?_) (fun q2 => ?_)
    · refine xc_seq (xc_region ?_)
      refine xr_op rfl rfl (xv_move rfl ?_)
      refine xr_op rfl rfl (xv_assign rfl ?_)
      refine xr_end rfl ?_
      refine th_n ?_
      refine xc_ret ?_
      refine bk_r ?_
      refine th_r ?_
      refine th_r ?_
      refine bk_r ?_
      refine th_r ?_
      refine body_ret (h' := h) rfl (ro_tmp rfl ro_nil) (by (first|((repeat first|exact s_0|exact s_1|exact s_3|refine s_4 ?_|refine s_5 ?_|refine s_6 ?_|refine s_7 ?_);done)|((repeat first|exact s_0|exact s_1|exact s_3|refine s_4 ?_|refine s_5 ?_|refine s_6 ?_|refine s_8 ?_);done))) ?_
      first | exact H1 k x hkx (by assumption) | exact H2 (fun j x hj => hall j x (List.getElem?_eq_some_iff.1 hj).1 hj)
    · refine xc_skip ?_
      refine bk_n ?_
      refine th_n ?_
      refine xc_region ?_
      refine xr_op rfl rfl (xv_add rfl rfl (wrap_i64 (by (first|omega|(dsimp only at *;omega)|(simp at *;omega))) (by (first|omega|(dsimp only at *;omega)|(simp at *;omega)))) ?_)
      refine xr_op rfl rfl (xv_move rfl ?_)
      refine xr_end rfl ?_
      exact rnd (k + 1) ⟨by omega, fun j y hj hy => by
        rcases Nat.lt_succ_iff_lt_or_eq.1 hj with hj | rfl
        · exact hall j y hj hy
        · rw [hkx] at hy; cases hy; assumption⟩ (by omega) (le_put (le_put (le_put (le_put (le_emp _) rfl) rfl) rfl) rfl) (by (first|((repeat first|exact s_0|exact s_1|exact s_3|refine s_4 ?_|refine s_5 ?_|refine s_6 ?_|refine s_7 ?_);done)|((repeat first|exact s_0|exact s_1|exact s_3|refine s_4 ?_|refine s_5 ?_|refine s_6 ?_|refine s_8 ?_);done)))
  · refine xr_end rfl ?_
    refine th_n ?_
    refine xc_seq ?_
    refine xc_false rfl ?_
    refine xc_exit ?_
    refine th_x ?_
    refine th_x ?_
    refine bk_same ?_
    refine th_n ?_
    refine xc_seq (xc_region ?_)
    obtain rfl : k = xs.length := by omega
    refine xr_op rfl rfl (xv_assign rfl ?_)
    refine xr_end rfl ?_
    refine th_n ?_
    refine xc_ret ?_
    refine body_ret (h' := h) rfl (ro_tmp rfl ro_nil) (by (first|((repeat first|exact s_0|exact s_1|exact s_3|refine s_4 ?_|refine s_5 ?_|refine s_6 ?_|refine s_7 ?_);done)|((repeat first|exact s_0|exact s_1|exact s_3|refine s_4 ?_|refine s_5 ?_|refine s_6 ?_|refine s_8 ?_);done))) ?_
    first | exact H1 k x hkx (by assumption) | exact H2 (fun j x hj => hall j x (List.getElem?_eq_some_iff.1 hj).1 hj)

theorem containsLoad_c {a : Option Addr} {c : Nat} {xs : List Load} {f : Value} {p : Load → Bool} {h : Hp} {R : Ending → Hp → Prop} (hs : SlV h 4 eLoad a xs) (hlen : xs.length ≤ 4611686018427387904)
    (hf : ∀ x ∈ xs, ∀ R', R' (.returned (.bool (p x))) h → AFn Tryd.prog f [.agg ⟨eLoad x⟩] h R')
    (H1 : ∀ x ∈ xs, p x = true → R (.returned (.bool true)) h) (H2 : (∀ x ∈ xs, p x = false) → R (.returned (.bool false)) h) :
    ACalls Tryd.prog 57 ⟨[.slice a xs.length c, f]⟩ h R := by
  refine calls_of_xc (N := 9) Tryd.func57 rfl (by rfl) ?_
  refine xc_seq (xc_region ?_)
  refine xr_op rfl rfl (xv_assign rfl ?_)
  refine xr_end rfl ?_
  refine th_n ?_
  refine xc_seq (xc_region ?_)
  refine xr_op rfl rfl (xv_move rfl ?_)
  refine xr_op rfl rfl (xv_move rfl ?_)
  refine xr_op rfl rfl (xv_calls rfl hb72 (indexLoad_c hs hlen hf (fun k x hkx hpx => up_ret ?_) (fun hno => up_ret ?_)))
  · refine xr_op rfl rfl (xv_geq2 rfl rfl (fun q1 => ?_) (fun q1 => ?_))
    · refine xr_op rfl rfl (xv_assign rfl ?_)
      refine xr_end rfl ?_
      refine th_n ?_
      refine xc_ret ?_
      refine body_ret (h' := h) rfl (ro_tmp rfl ro_nil) (by (first|((repeat first|exact s_0|exact s_1|exact s_3|refine s_4 ?_|refine s_5 ?_|refine s_6 ?_|refine s_7 ?_);done)|((repeat first|exact s_0|exact s_1|exact s_3|refine s_4 ?_|refine s_5 ?_|refine s_6 ?_|refine s_8 ?_);done))) ?_
      first | (exfalso; omega) | exact H1 x (List.mem_of_getElem? hkx) hpx | exact H2 (fun y hy => by obtain ⟨j, hj⟩ := List.getElem?_of_mem hy; exact hno j y hj)
    · refine xr_op rfl rfl (xv_assign rfl ?_)
      refine xr_end rfl ?_
      refine th_n ?_
      refine xc_ret ?_
      refine body_ret (h' := h) rfl (ro_tmp rfl ro_nil) (by (first|((repeat first|exact s_0|exact s_1|exact s_3|refine s_4 ?_|refine s_5 ?_|refine s_6 ?_|refine s_7 ?_);done)|((repeat first|exact s_0|exact s_1|exact s_3|refine s_4 ?_|refine s_5 ?_|refine s_6 ?_|refine s_8 ?_);done))) ?_
      first | (exfalso; omega) | exact H1 x (List.mem_of_getElem? hkx) hpx | exact H2 (fun y hy => by obtain ⟨j, hj⟩ := List.getElem?_of_mem hy; exact hno j y hj)
  · refine xr_op rfl rfl (xv_geq2 rfl rfl (fun q2 => ?_) (fun q2 => ?_))
    · refine xr_op rfl rfl (xv_assign rfl ?_)
      refine xr_end rfl ?_
      refine th_n ?_
      refine xc_ret ?_
      refine body_ret (h' := h) rfl (ro_tmp rfl ro_nil) (by (first|((repeat first|exact s_0|exact s_1|exact s_3|refine s_4 ?_|refine s_5 ?_|refine s_6 ?_|refine s_7 ?_);done)|((repeat first|exact s_0|exact s_1|exact s_3|refine s_4 ?_|refine s_5 ?_|refine s_6 ?_|refine s_8 ?_);done))) ?_
      first | (exfalso; omega) | exact H1 x (List.mem_of_getElem? hkx) hpx | exact H2 (fun y hy => by obtain ⟨j, hj⟩ := List.getElem?_of_mem hy; exact hno j y hj)
    · refine xr_op rfl rfl (xv_assign rfl ?_)
      refine xr_end rfl ?_
      refine th_n ?_
      refine xc_ret ?_
      refine body_ret (h' := h) rfl (ro_tmp rfl ro_nil) (by (first|((repeat first|exact s_0|exact s_1|exact s_3|refine s_4 ?_|refine s_5 ?_|refine s_6 ?_|refine s_7 ?_);done)|((repeat first|exact s_0|exact s_1|exact s_3|refine s_4 ?_|refine s_5 ?_|refine s_6 ?_|refine s_8 ?_);done))) ?_
      first | (exfalso; omega) | exact H1 x (List.mem_of_getElem? hkx) hpx | exact H2 (fun y hy => by obtain ⟨j, hj⟩ := List.getElem?_of_mem hy; exact hno j y hj)

theorem errLoad_c {xs : List Load} {a : Option Addr} {c : Nat} {h : Hp} {R : Ending → Hp → Prop} (hs : SlV h 4 eLoad a xs) (hl : xs.length ≤ 1000000) (H : R (.returned (I (errL 64 loadOk ltLoad xs))) h) :
    ACalls Tryd.prog 35 ⟨[.slice a xs.length c, I 64, .func (.func 36) ⟨[]⟩ ⟨[]⟩, .func (.func 37) ⟨[]⟩ ⟨[]⟩]⟩ h R := by
  refine calls_of_xc (N := 41) Tryd.func35 rfl (by rfl) ?_
  refine xc_seq (xc_region ?_)
  refine xr_op rfl rfl (xv_box rfl (fun b6 hb6 => ?_))
  refine xr_op rfl rfl (xv_assign rfl ?_)
  refine xr_end rfl ?_
  refine th_n ?_
  refine xc_seq ?_
  refine xc_block ?_
  refine xc_seq (xc_region ?_)
  refine xr_op rfl rfl (xv_move rfl ?_)
  refine xr_op rfl rfl (xv_len sl32 rfl ?_)
  refine xr_op rfl rfl (xv_move rfl ?_)
  refine xr_op rfl rfl (xv_gtr2 rfl rfl (fun q1 => ?_) (fun q1 => ?_))
  · refine xr_op rfl rfl (xv_assign rfl ?_)
    refine xr_end rfl ?_
    refine th_n ?_
    refine xc_true rfl ?_
    refine xc_seq (xc_region ?_)
    refine xr_op rfl rfl (xv_assign rfl ?_)
    refine xr_end rfl ?_
    refine th_n ?_
    refine xc_ret ?_
    refine bk_r ?_
    refine th_r ?_
    refine body_ret (h' := h) rfl (ro_tmp rfl ro_nil) (by (first|((repeat first|exact s_0|exact s_1|exact s_3|refine s_4 ?_|refine s_5 ?_|refine s_6 ?_|refine s_7 ?_);done)|((repeat first|exact s_0|exact s_1|exact s_3|refine s_4 ?_|refine s_5 ?_|refine s_6 ?_|refine s_8 ?_);done))) ?_
    first | (rw [errL_3 (by omega)] at H; exact H) | (rw [errL_1 (by omega) (fun hq9 => by have h8 := hq9 x9 hx9; simp [h8] at hbd)] at H; exact H) | (rw [errL_7 (by omega) hok9 hna] at H; exact H) | (rw [errL_0 (by omega) hok9 hasc] at H; exact H)
  · refine xr_op rfl rfl (xv_assign rfl ?_)
    refine xr_end rfl ?_
    refine th_n ?_
    refine xc_false rfl ?_
    refine xc_seq (xc_region ?_)
    refine xr_op rfl rfl (xv_move rfl ?_)
    refine xr_op rfl rfl (xv_func rfl rfl ?_)
    refine xr_op rfl rfl (xv_calls rfl hb57 (containsLoad_c (hs.sub (by intro z9 hz9; ((repeat first|exact z_0|assumption|refine z_1 ?_|(refine z_l ?_;(repeat first|exact z_0|assumption|refine z_1 ?_);done)|refine z_r ?_);done))) (by omega) (p := fun x => !decide (loadOk x)) (fun x hx R9 hR => afn_func (fi := []) (lb := [.pointer (some ⟨b6, 0, none⟩)]) hb58 (okLoad_c (by ((repeat first|exact z_0|assumption|refine z_1 ?_|(refine z_l ?_;(repeat first|exact z_0|assumption|refine z_1 ?_);done)|refine z_r ?_);done)) hR)) (fun x9 hx9 hbd => up_ret ?_) (fun hall => up_ret ?_)))
    · refine xr_op rfl rfl (xv_assign rfl ?_)
      refine xr_end rfl ?_
      refine th_n ?_
      refine xc_true rfl ?_
      refine xc_seq (xc_region ?_)
      refine xr_op rfl rfl (xv_assign rfl ?_)
      refine xr_end rfl ?_
      refine th_n ?_
      refine xc_ret ?_
      refine bk_r ?_
      refine th_r ?_
      refine body_ret (h' := h) rfl (ro_tmp rfl ro_nil) (by (first|((repeat first|exact s_0|exact s_1|exact s_3|refine s_4 ?_|refine s_5 ?_|refine s_6 ?_|refine s_7 ?_);done)|((repeat first|exact s_0|exact s_1|exact s_3|refine s_4 ?_|refine s_5 ?_|refine s_6 ?_|refine s_8 ?_);done))) ?_
      first | (rw [errL_3 (by omega)] at H; exact H) | (rw [errL_1 (by omega) (fun hq9 => by have h8 := hq9 x9 hx9; simp [h8] at hbd)] at H; exact H) | (rw [errL_7 (by omega) hok9 hna] at H; exact H) | (rw [errL_0 (by omega) hok9 hasc] at H; exact H)
    · refine xr_op rfl rfl (xv_assign rfl ?_)
      refine xr_end rfl ?_
      refine th_n ?_
      refine xc_false rfl ?_
      refine xc_skip ?_
      refine bk_n ?_
      refine th_n ?_
      refine xc_seq ?_
      refine xc_seq (xc_region ?_)
      have hok9 : ∀ x ∈ xs, loadOk x := fun x hx => by simpa using hall x hx
      refine xr_op rfl rfl (xv_move rfl ?_)
      refine xr_op rfl rfl (xv_len sl32 rfl ?_)
      refine xr_op rfl rfl (xv_move rfl ?_)
      refine xr_end rfl ?_
      refine th_n ?_
      refine xc_block ?_
      refine xc_loop (σ := Nat) (fun k => k ≤ xs.length ∧ Asc ltLoad xs k) (fun k => ((((((emp.put (some 0) (.slice a xs.length c)).put (some 3) (.func (.func 37) ⟨[]⟩ ⟨[]⟩)).put (some 8) (I 0)).put (some 19) (.slice a xs.length c)).put (some 20) (I xs.length)).put (some 21) (I k))) (fun k => ((b6, .cells ⟨[.func (.func 36) ⟨[]⟩ ⟨[]⟩]⟩ 76) :: h)) (fun k => xs.length - k) 0 ⟨Nat.zero_le _, Asc.zero⟩ (le_put (le_put (le_put (le_put (le_put (le_put (le_emp _) rfl) rfl) rfl) rfl) rfl) rfl) (by (first|((repeat first|exact s_0|exact s_1|exact s_3|refine s_4 ?_|refine s_5 ?_|refine s_6 ?_|refine s_7 ?_);done)|((repeat first|exact s_0|exact s_1|exact s_3|refine s_4 ?_|refine s_5 ?_|refine s_6 ?_|refine s_8 ?_);done))) ?_
      rintro k ⟨hk, hasc⟩
      refine xc_seq (xc_region ?_)
      refine xr_op rfl rfl (xv_lss2 rfl rfl (fun q2 => ?_) (fun q2 => ?_))
      · refine xr_end rfl ?_
        refine th_n ?_
        refine xc_seq ?_
        refine xc_true rfl ?_
        refine xc_skip ?_
        refine th_n ?_
        refine xc_seq ?_
        refine xc_block ?_
        refine xc_seq (xc_region ?_)
        refine xr_op rfl rfl (xv_move rfl ?_)
        refine xr_op rfl rfl (xv_assign rfl ?_)
        refine xr_end rfl ?_
        refine th_n ?_
        refine xc_seq ?_
        refine xc_draw0 [(0, .S), (1, .O), (2, .S), (3, .S), (4, .S), (5, .S), (6, .S), (7, .S), (8, .R), (9, .S), (10, .S), (11, .S), (12, .R), (13, .O), (14, .O), (15, .S)] mixed (by kernel_rfl) ?_
        refine js_S rfl rfl (.inl rfl) (xv_move rfl ⟨rfl, rfl⟩) ?_
        have hlto : k < xs.length := by (first|omega|(dsimp only at *;omega)|(simp at *;omega))
        obtain ⟨bo, oo, lo, to, fzo, hao, hmo, hxo⟩ := (hs).at hlto
        obtain ⟨xo, hko⟩ : ∃ qq_, xs[k]? = some qq_ := ⟨_, List.getElem?_eq_getElem hlto⟩
        refine js_O0 rfl rfl (.inl rfl) (xv_gtr2 rfl rfl (fun hq => ?_) (fun hq => ?_))
        · refine js_S rfl rfl (.inl rfl) (xv_move rfl ⟨rfl, rfl⟩) ?_
          refine js_S rfl rfl (.inr ⟨_, _, rfl, rfl⟩) (xv_move rfl ⟨rfl, rfl⟩) ?_
          refine js_S rfl rfl (.inr ⟨_, _, rfl, rfl⟩) (xv_move rfl ⟨rfl, rfl⟩) ?_
          refine js_S rfl rfl (.inr ⟨_, _, rfl, rfl⟩) (xv_move rfl ⟨rfl, rfl⟩) ?_
          obtain ⟨j, hj⟩ : ∃ j, k = j + 1 := ⟨k - 1, by (first|omega|(dsimp only at *;omega)|(simp at *;omega))⟩
          have hltp : j < xs.length := by (first|omega|(dsimp only at *;omega)|(simp at *;omega))
          obtain ⟨bp, op, lp, tp, fzp, hap, hmp, hxp⟩ := (hs).at hltp
          obtain ⟨xp, hkp⟩ : ∃ qq_, xs[j]? = some qq_ := ⟨_, List.getElem?_eq_getElem hltp⟩
          refine js_S rfl rfl (.inr ⟨_, _, rfl, rfl⟩) (xv_sub rfl rfl (wrap_i64 (by (first|omega|(dsimp only at *;omega)|(simp at *;omega))) (by (first|omega|(dsimp only at *;omega)|(simp at *;omega)))) ⟨rfl, rfl⟩) ?_
          refine js_S rfl rfl (.inr ⟨_, _, rfl, rfl⟩) (xv_ia (sz := 4) (j := j) sl32 ty75 rfl (by rw [hap]; rfl) rfl (by omega) (by (first|omega|(dsimp only at *;omega)|(simp at *;omega))) (by (first|omega|(dsimp only at *;omega)|(simp at *;omega))) ⟨rfl, rfl⟩) ?_
          refine js_R0 rfl rfl (.inr ⟨_, _, rfl, rfl⟩) (xv_loadA ty75 rfl rfl (by ((repeat first|exact z_0|assumption|refine z_1 ?_|(refine z_l ?_;(repeat first|exact z_0|assumption|refine z_1 ?_);done)|refine z_r ?_);done)) (hxp (j) xp hkp) rfl ⟨rfl, rfl⟩) ?_
          refine js_S rfl rfl (.inr ⟨_, _, rfl, rfl⟩) (xv_move rfl ⟨rfl, rfl⟩) ?_
          refine js_S rfl rfl (.inr ⟨_, _, rfl, rfl⟩) (xv_move rfl ⟨rfl, rfl⟩) ?_
          refine js_S rfl rfl (.inr ⟨_, _, rfl, rfl⟩) (xv_ia (sz := 4) (j := k) sl32 ty75 rfl (by rw [hao]; rfl) rfl (by (first | assumption | with_reducible exact Int.toNat_natCast _ | with_reducible rfl | rfl)) (by (first|omega|(dsimp only at *;omega)|(simp at *;omega))) (by (first|omega|(dsimp only at *;omega)|(simp at *;omega))) ⟨rfl, rfl⟩) ?_
          refine js_R0 rfl rfl (.inr ⟨_, _, rfl, rfl⟩) (xv_loadA ty75 rfl rfl (by ((repeat first|exact z_0|assumption|refine z_1 ?_|(refine z_l ?_;(repeat first|exact z_0|assumption|refine z_1 ?_);done)|refine z_r ?_);done)) (hxo (k) xo hko) rfl ⟨rfl, rfl⟩) ?_
          refine js_O0 rfl rfl (.inr ⟨_, _, rfl, rfl⟩) (xv_fn rfl rfl (afn_func hb37 (cmpLoad_c (up_ret ?_))))
          refine js_O0 rfl rfl (.inr ⟨_, _, rfl, rfl⟩) (xv_geq2 rfl rfl (fun hq => ?_) (fun hq => ?_))
          · refine js_S rfl rfl (.inl rfl) (xv_pick rfl rfl ⟨rfl, rfl⟩) ?_
            refine j_end0 ?_
            refine th_n ?_
            refine xc_true rfl ?_
            refine xc_seq (xc_region ?_)
            have hna := Asc.not (lt := ltLoad) hkp (by rw [← hj]; exact hko) (cmpL_ge.1 (by omega))
            refine xr_op rfl rfl (xv_assign rfl ?_)
            refine xr_end rfl ?_
            refine th_n ?_
            refine xc_ret ?_
            refine bk_r ?_
            refine th_r ?_
            refine th_r ?_
            refine bk_r ?_
            refine th_r ?_
            refine body_ret (h' := h) rfl (ro_tmp rfl ro_nil) (by (first|((repeat first|exact s_0|exact s_1|exact s_3|refine s_4 ?_|refine s_5 ?_|refine s_6 ?_|refine s_7 ?_);done)|((repeat first|exact s_0|exact s_1|exact s_3|refine s_4 ?_|refine s_5 ?_|refine s_6 ?_|refine s_8 ?_);done))) ?_
            first | (rw [errL_3 (by omega)] at H; exact H) | (rw [errL_1 (by omega) (fun hq9 => by have h8 := hq9 x9 hx9; simp [h8] at hbd)] at H; exact H) | (rw [errL_7 (by omega) hok9 hna] at H; exact H) | (rw [errL_0 (by omega) hok9 hasc] at H; exact H)
          · refine js_S rfl rfl (.inl rfl) (xv_pick rfl rfl ⟨rfl, rfl⟩) ?_
            refine j_end0 ?_
            refine th_n ?_
            refine xc_false rfl ?_
            refine xc_skip ?_
            refine bk_n ?_
            refine th_n ?_
            refine xc_region ?_
            have hlt9 : ¬ 0 ≤ cmpL xp xo := by omega
            refine xr_op rfl rfl (xv_add rfl rfl (wrap_i64 (by (first|omega|(dsimp only at *;omega)|(simp at *;omega))) (by (first|omega|(dsimp only at *;omega)|(simp at *;omega)))) ?_)
            refine xr_op rfl rfl (xv_move rfl ?_)
            refine xr_end rfl ?_
            exact rnd (k + 1) ⟨by (first|omega|(dsimp only at *;omega)|(simp at *;omega)), hasc.step fun i9 a9 b9 hi9 ha9 hb9 => by (obtain rfl : i9 = j := by omega); rw [hkp] at ha9; rw [show i9 + 1 = k by omega, hko] at hb9; cases ha9; cases hb9; exact (Classical.not_not.1 (fun hn9 => hlt9 ((fun hn8 => cmpL_ge.2 hn8) hn9)))⟩ (by (first|omega|(dsimp only at *;omega)|(simp at *;omega))) (le_put (le_put (le_put (le_put (le_put (le_put (le_emp _) rfl) rfl) rfl) rfl) rfl) rfl) (by (first|((repeat first|exact s_0|exact s_1|exact s_3|refine s_4 ?_|refine s_5 ?_|refine s_6 ?_|refine s_7 ?_);done)|((repeat first|exact s_0|exact s_1|exact s_3|refine s_4 ?_|refine s_5 ?_|refine s_6 ?_|refine s_8 ?_);done)))
        · refine js_S rfl rfl (.inl rfl) (xv_move rfl ⟨rfl, rfl⟩) ?_
          refine js_Ss rfl rfl ⟨_, _, _, rfl, rfl, rfl⟩ ?_
          refine js_Ss rfl rfl ⟨_, _, _, rfl, rfl, rfl⟩ ?_
          refine js_Ss rfl rfl ⟨_, _, _, rfl, rfl, rfl⟩ ?_
          refine js_Ss rfl rfl ⟨_, _, _, rfl, rfl, rfl⟩ ?_
          refine js_Ss rfl rfl ⟨_, _, _, rfl, rfl, rfl⟩ ?_
          refine js_Rs rfl rfl ⟨_, _, _, rfl, rfl, rfl⟩ ?_
          refine js_Ss rfl rfl ⟨_, _, _, rfl, rfl, rfl⟩ ?_
          refine js_Ss rfl rfl ⟨_, _, _, rfl, rfl, rfl⟩ ?_
          refine js_Ss rfl rfl ⟨_, _, _, rfl, rfl, rfl⟩ ?_
          refine js_Rs rfl rfl ⟨_, _, _, rfl, rfl, rfl⟩ ?_
          refine js_Os rfl rfl ⟨_, _, _, rfl, rfl, rfl⟩ ?_
          refine js_Os rfl rfl ⟨_, _, _, rfl, rfl, rfl⟩ ?_
          refine js_S rfl rfl (.inl rfl) (xv_pick rfl rfl ⟨rfl, rfl⟩) ?_
          refine j_end0 ?_
          refine th_n ?_
          refine xc_false rfl ?_
          refine xc_skip ?_
          refine bk_n ?_
          refine th_n ?_
          refine xc_region ?_
          refine xr_op rfl rfl (xv_add rfl rfl (wrap_i64 (by (first|omega|(dsimp only at *;omega)|(simp at *;omega))) (by (first|omega|(dsimp only at *;omega)|(simp at *;omega)))) ?_)
          refine xr_op rfl rfl (xv_move rfl ?_)
          refine xr_end rfl ?_
          exact rnd (k + 1) ⟨by (first|omega|(dsimp only at *;omega)|(simp at *;omega)), hasc.step fun i9 a9 b9 hi9 ha9 hb9 => by omega⟩ (by (first|omega|(dsimp only at *;omega)|(simp at *;omega))) (le_put (le_put (le_put (le_put (le_put (le_put (le_emp _) rfl) rfl) rfl) rfl) rfl) rfl) (by (first|((repeat first|exact s_0|exact s_1|exact s_3|refine s_4 ?_|refine s_5 ?_|refine s_6 ?_|refine s_7 ?_);done)|((repeat first|exact s_0|exact s_1|exact s_3|refine s_4 ?_|refine s_5 ?_|refine s_6 ?_|refine s_8 ?_);done)))
      · refine xr_end rfl ?_
        refine th_n ?_
        refine xc_seq ?_
        refine xc_false rfl ?_
        refine xc_exit ?_
        refine th_x ?_
        refine th_x ?_
        refine bk_same ?_
        refine th_n ?_
        refine xc_seq (xc_region ?_)
        obtain rfl : k = xs.length := by (first|omega|(dsimp only at *;omega)|(simp at *;omega))
        refine xr_op rfl rfl (xv_assign rfl ?_)
        refine xr_end rfl ?_
        refine th_n ?_
        refine xc_ret ?_
        refine body_ret (h' := h) rfl (ro_tmp rfl ro_nil) (by (first|((repeat first|exact s_0|exact s_1|exact s_3|refine s_4 ?_|refine s_5 ?_|refine s_6 ?_|refine s_7 ?_);done)|((repeat first|exact s_0|exact s_1|exact s_3|refine s_4 ?_|refine s_5 ?_|refine s_6 ?_|refine s_8 ?_);done))) ?_
        first | (rw [errL_3 (by omega)] at H; exact H) | (rw [errL_1 (by omega) (fun hq9 => by have h8 := hq9 x9 hx9; simp [h8] at hbd)] at H; exact H) | (rw [errL_7 (by omega) hok9 hna] at H; exact H) | (rw [errL_0 (by omega) hok9 hasc] at H; exact H)

theorem okLeaf_c {x : Leaf} {b : Nat} {h : Hp} {R : Ending → Hp → Prop} (hm : (b, .cells ⟨[.func (.func 43) ⟨[]⟩ ⟨[]⟩]⟩ 90 (0, 0)) ∈ h) (hr : SlV h 1 eI x.ra x.rds) (hl : x.rds.length ≤ 1000000) (H : R (.returned (.bool (!decide (leafOk x)))) h) : ACalls Tryd.prog 64 ⟨[.agg ⟨eLeaf x⟩, .pointer (some ⟨b, 0, none⟩)]⟩ h R := by
  refine calls_of_xc (N := 8) Tryd.func64 rfl (by rfl) ?_
  refine xc_seq (xc_region ?_)
  refine xr_op rfl rfl (xv_box rfl (fun b1 hb1 => ?_))
  refine xr_op rfl rfl (xv_assign rfl ?_)
  refine xr_end rfl ?_
  refine th_n ?_
  refine xc_seq (xc_region ?_)
  refine xr_op rfl rfl (xv_load1 ty90 rfl rfl (by ((repeat first|exact z_0|assumption|refine z_1 ?_|(refine z_l ?_;(repeat first|exact z_0|assumption|refine z_1 ?_);done)|refine z_r ?_);done)) (by rfl) ?_)
  refine xr_op rfl rfl (xv_loadA ty72 rfl rfl (by ((repeat first|exact z_0|assumption|refine z_1 ?_|(refine z_l ?_;(repeat first|exact z_0|assumption|refine z_1 ?_);done)|refine z_r ?_);done)) (by ((try apply evl_some rfl);(repeat (first|exact (rfl : _ = [])|apply evl_cons rfl (by (first|exact v_1|exact v_2|exact v_3|exact v_4|exact v_5|exact v_6|exact v_7|exact v_8|exact v_9|exact rfl))|exact rfl)))) (by rfl) ?_)
  refine xr_op rfl rfl (xv_fn rfl rfl (afn_func hb43 (isLeaf_c (hr.sub (by intro z9 hz9; ((repeat first|exact z_0|assumption|refine z_1 ?_|(refine z_l ?_;(repeat first|exact z_0|assumption|refine z_1 ?_);done)|refine z_r ?_);done))) hl (up_ret ?_))))
  refine xr_op rfl rfl (xv_not rfl ?_)
  refine xr_op rfl rfl (xv_assign rfl ?_)
  refine xr_end rfl ?_
  refine th_n ?_
  refine xc_ret ?_
  refine body_ret (h' := h) rfl (ro_tmp rfl ro_nil) (by (first|((repeat first|exact s_0|exact s_1|exact s_3|refine s_4 ?_|refine s_5 ?_|refine s_6 ?_|refine s_7 ?_);done)|((repeat first|exact s_0|exact s_1|exact s_3|refine s_4 ?_|refine s_5 ?_|refine s_6 ?_|refine s_8 ?_);done))) ?_
  exact H

theorem indexLeaf_c {a : Option Addr} {c : Nat} {xs : List Leaf} {f : Value} {p : Leaf → Bool} {h : Hp} {R : Ending → Hp → Prop} (hs : SlV h 2 eLeaf a xs) (hlen : xs.length ≤ 4611686018427387904)
    (hf : ∀ x ∈ xs, ∀ R', R' (.returned (.bool (p x))) h → AFn Tryd.prog f [.agg ⟨eLeaf x⟩] h R')
    (H1 : ∀ (k : Nat) (x : Leaf), xs[k]? = some x → p x = true → R (.returned (I k)) h) (H2 : (∀ (k : Nat) (x : Leaf), xs[k]? = some x → p x = false) → R (.returned (I (-1))) h) :
    ACalls Tryd.prog 76 ⟨[.slice a xs.length c, f]⟩ h R := by
  refine calls_of_xc (N := 19) Tryd.func76 rfl (by rfl) ?_
  refine xc_seq (xc_region ?_)
  refine xr_op rfl rfl (xv_assign rfl ?_)
  refine xr_end rfl ?_
  refine th_n ?_
  refine xc_seq ?_
  refine xc_seq (xc_region ?_)
  refine xr_op rfl rfl (xv_move rfl ?_)
  refine xr_op rfl rfl (xv_len sl33 rfl ?_)
  refine xr_op rfl rfl (xv_move rfl ?_)
  refine xr_end rfl ?_
  refine th_n ?_
  refine xc_block ?_
  refine xc_loop (σ := Nat) (fun k => k ≤ xs.length ∧ ∀ j x, j < k → xs[j]? = some x → p x = false) (fun k => ((((emp.put (some 0) (.slice a xs.length c)).put (some 1) (f)).put (some 7) (I xs.length)).put (some 8) (I k))) (fun k => h) (fun k => xs.length - k) 0 ⟨Nat.zero_le _, fun _ _ h0 => absurd h0 (Nat.not_lt_zero _)⟩ (le_put (le_put (le_put (le_put (le_emp _) rfl) rfl) rfl) rfl) (by (first|((repeat first|exact s_0|exact s_1|exact s_3|refine s_4 ?_|refine s_5 ?_|refine s_6 ?_|refine s_7 ?_);done)|((repeat first|exact s_0|exact s_1|exact s_3|refine s_4 ?_|refine s_5 ?_|refine s_6 ?_|refine s_8 ?_);done))) ?_
  rintro k ⟨hk, hall⟩
  refine xc_seq (xc_region ?_)
  refine xr_op rfl rfl (xv_lss2 rfl rfl (fun q1 => ?_) (fun q1 => ?_))
  · refine xr_end rfl ?_
    refine th_n ?_
    refine xc_seq ?_
    refine xc_true rfl ?_
    refine xc_skip ?_
    refine th_n ?_
    refine xc_seq ?_
    refine xc_block ?_
    refine xc_seq (xc_region ?_)
    refine xr_op rfl rfl (xv_move rfl ?_)
    refine xr_op rfl rfl (xv_assign rfl ?_)
    refine xr_end rfl ?_
    refine th_n ?_
    refine xc_seq (xc_region ?_)
    refine xr_op rfl rfl (xv_move rfl ?_)
    refine xr_op rfl rfl (xv_move rfl ?_)
    refine xr_op rfl rfl (xv_move rfl ?_)
    have hlt : k < xs.length := by omega
    obtain ⟨b, o, l, t, fz, rfl, hm, hx⟩ := hs.at hlt
    obtain ⟨x, hkx⟩ : ∃ x, xs[k]? = some x := ⟨_, List.getElem?_eq_getElem hlt⟩
    refine xr_op rfl rfl (xv_ia (sz := 2) sl33 ty72 rfl rfl rfl (by (first | assumption | with_reducible exact Int.toNat_natCast _ | with_reducible rfl | rfl)) (by (first|omega|(dsimp only at *;omega)|(simp at *;omega))) (by (first|omega|(dsimp only at *;omega)|(simp at *;omega))) ?_)
    refine xr_op rfl rfl (xv_loadA ty72 rfl rfl hm (hx k x hkx) rfl ?_)
    refine xr_op rfl rfl (xv_fn rfl rfl (hf x (List.mem_of_getElem? hkx) _ (up_ret ?_)))
    refine xr_end rfl ?_
    refine th_n ?_
    refine xc_bool rfl (fun q2 => ?_) (fun q2 => ?_)
    · refine xc_seq (xc_region ?_)
      refine xr_op rfl rfl (xv_move rfl ?_)
      refine xr_op rfl rfl (xv_assign rfl ?_)
      refine xr_end rfl ?_
      refine th_n ?_
      refine xc_ret ?_
      refine bk_r ?_
      refine th_r ?_
      refine th_r ?_
      refine bk_r ?_
      refine th_r ?_
      refine body_ret (h' := h) rfl (ro_tmp rfl ro_nil) (by (first|((repeat first|exact s_0|exact s_1|exact s_3|refine s_4 ?_|refine s_5 ?_|refine s_6 ?_|refine s_7 ?_);done)|((repeat first|exact s_0|exact s_1|exact s_3|refine s_4 ?_|refine s_5 ?_|refine s_6 ?_|refine s_8 ?_);done))) ?_
      first | exact H1 k x hkx (by assumption) | exact H2 (fun j x hj => hall j x (List.getElem?_eq_some_iff.1 hj).1 hj)
    · refine xc_skip ?_
      refine bk_n ?_
      refine th_n ?_
      refine xc_region ?_
      refine xr_op rfl rfl (xv_add rfl rfl (wrap_i64 (by (first|omega|(dsimp only at *;omega)|(simp at *;omega))) (by (first|omega|(dsimp only at *;omega)|(simp at *;omega)))) ?_)
      refine xr_op rfl rfl (xv_move rfl ?_)
      refine xr_end rfl ?_
      exact rnd (k + 1) ⟨by omega, fun j y hj hy => by
        rcases Nat.lt_succ_iff_lt_or_eq.1 hj with hj | rfl
        · exact hall j y hj hy
        · rw [hkx] at hy; cases hy; assumption⟩ (by omega) (le_put (le_put (le_put (le_put (le_emp _) rfl) rfl) rfl) rfl) (by (first|((repeat first|exact s_0|exact s_1|exact s_3|refine s_4 ?_|refine s_5 ?_|refine s_6 ?_|refine s_7 ?_);done)|((repeat first|exact s_0|exact s_1|exact s_3|refine s_4 ?_|refine s_5 ?_|refine s_6 ?_|refine s_8 ?_);done)))
  · refine xr_end rfl ?_
    refine th_n ?_
    refine xc_seq ?_
    refine xc_false rfl ?_
    refine xc_exit ?_
    refine th_x ?_
    refine th_x ?_
    refine bk_same ?_
    refine th_n ?_
    refine xc_seq (xc_region ?_)
    obtain rfl : k = xs.length := by omega
    refine xr_op rfl rfl (xv_assign rfl ?_)
    refine xr_end rfl ?_
    refine th_n ?_
    refine xc_ret ?_
    refine body_ret (h' := h) rfl (ro_tmp rfl ro_nil) (by (first|((repeat first|exact s_0|exact s_1|exact s_3|refine s_4 ?_|refine s_5 ?_|refine s_6 ?_|refine s_7 ?_);done)|((repeat first|exact s_0|exact s_1|exact s_3|refine s_4 ?_|refine s_5 ?_|refine s_6 ?_|refine s_8 ?_);done))) ?_
    first | exact H1 k x hkx (by assumption) | exact H2 (fun j x hj => hall j x (List.getElem?_eq_some_iff.1 hj).1 hj)

theorem containsLeaf_c {a : Option Addr} {c : Nat} {xs : List Leaf} {f : Value} {p : Leaf → Bool} {h : Hp} {R : Ending → Hp → Prop} (hs : SlV h 2 eLeaf a xs) (hlen : xs.length ≤ 4611686018427387904)
    (hf : ∀ x ∈ xs, ∀ R', R' (.returned (.bool (p x))) h → AFn Tryd.prog f [.agg ⟨eLeaf x⟩] h R')
    (H1 : ∀ x ∈ xs, p x = true → R (.returned (.bool true)) h) (H2 : (∀ x ∈ xs, p x = false) → R (.returned (.bool false)) h) :
    ACalls Tryd.prog 63 ⟨[.slice a xs.length c, f]⟩ h R := by
  refine calls_of_xc (N := 9) Tryd.func63 rfl (by rfl) ?_
  refine xc_seq (xc_region ?_)
  refine xr_op rfl rfl (xv_assign rfl ?_)
  refine xr_end rfl ?_
  refine th_n ?_
  refine xc_seq (xc_region ?_)
  refine xr_op rfl rfl (xv_move rfl ?_)
  refine xr_op rfl rfl (xv_move rfl ?_)
  refine xr_op rfl rfl (xv_calls rfl hb76 (indexLeaf_c hs hlen hf (fun k x hkx hpx => up_ret ?_) (fun hno => up_ret ?_)))
  · refine xr_op rfl rfl (xv_geq2 rfl rfl (fun q1 => ?_) (fun q1 => ?_))
    · refine xr_op rfl rfl (xv_assign rfl ?_)
      refine xr_end rfl ?_
      refine th_n ?_
      refine xc_ret ?_
      refine body_ret (h' := h) rfl (ro_tmp rfl ro_nil) (by (first|((repeat first|exact s_0|exact s_1|exact s_3|refine s_4 ?_|refine s_5 ?_|refine s_6 ?_|refine s_7 ?_);done)|((repeat first|exact s_0|exact s_1|exact s_3|refine s_4 ?_|refine s_5 ?_|refine s_6 ?_|refine s_8 ?_);done))) ?_
      first | (exfalso; omega) | exact H1 x (List.mem_of_getElem? hkx) hpx | exact H2 (fun y hy => by obtain ⟨j, hj⟩ := List.getElem?_of_mem hy; exact hno j y hj)
    · refine xr_op rfl rfl (xv_assign rfl ?_)
      refine xr_end rfl ?_
      refine th_n ?_
      refine xc_ret ?_
      refine body_ret (h' := h) rfl (ro_tmp rfl ro_nil) (by (first|((repeat first|exact s_0|exact s_1|exact s_3|refine s_4 ?_|refine s_5 ?_|refine s_6 ?_|refine s_7 ?_);done)|((repeat first|exact s_0|exact s_1|exact s_3|refine s_4 ?_|refine s_5 ?_|refine s_6 ?_|refine s_8 ?_);done))) ?_
      first | (exfalso; omega) | exact H1 x (List.mem_of_getElem? hkx) hpx | exact H2 (fun y hy => by obtain ⟨j, hj⟩ := List.getElem?_of_mem hy; exact hno j y hj)
  · refine xr_op rfl rfl (xv_geq2 rfl rfl (fun q2 => ?_) (fun q2 => ?_))
    · refine xr_op rfl rfl (xv_assign rfl ?_)
      refine xr_end rfl ?_
      refine th_n ?_
      refine xc_ret ?_
      refine body_ret (h' := h) rfl (ro_tmp rfl ro_nil) (by (first|((repeat first|exact s_0|exact s_1|exact s_3|refine s_4 ?_|refine s_5 ?_|refine s_6 ?_|refine s_7 ?_);done)|((repeat first|exact s_0|exact s_1|exact s_3|refine s_4 ?_|refine s_5 ?_|refine s_6 ?_|refine s_8 ?_);done))) ?_
      first | (exfalso; omega) | exact H1 x (List.mem_of_getElem? hkx) hpx | exact H2 (fun y hy => by obtain ⟨j, hj⟩ := List.getElem?_of_mem hy; exact hno j y hj)
    · refine xr_op rfl rfl (xv_assign rfl ?_)
      refine xr_end rfl ?_
      refine th_n ?_
      refine xc_ret ?_
      refine body_ret (h' := h) rfl (ro_tmp rfl ro_nil) (by (first|((repeat first|exact s_0|exact s_1|exact s_3|refine s_4 ?_|refine s_5 ?_|refine s_6 ?_|refine s_7 ?_);done)|((repeat first|exact s_0|exact s_1|exact s_3|refine s_4 ?_|refine s_5 ?_|refine s_6 ?_|refine s_8 ?_);done))) ?_
      first | (exfalso; omega) | exact H1 x (List.mem_of_getElem? hkx) hpx | exact H2 (fun y hy => by obtain ⟨j, hj⟩ := List.getElem?_of_mem hy; exact hno j y hj)

theorem errLeaf_c {xs : List Leaf} {a : Option Addr} {c : Nat} {h : Hp} {R : Ending → Hp → Prop} (hs : SlV h 2 eLeaf a xs) (hl : xs.length ≤ 1000000) (hrd : ∀ x ∈ xs, SlV h 1 eI x.ra x.rds) (hrl : ∀ x ∈ xs, x.rds.length ≤ 1000000) (H : R (.returned (I (errL 32 leafOk ltLeaf xs))) h) :
    ACalls Tryd.prog 42 ⟨[.slice a xs.length c, I 32, .func (.func 43) ⟨[]⟩ ⟨[]⟩, .func (.func 44) ⟨[]⟩ ⟨[]⟩]⟩ h R := by
  refine calls_of_xc (N := 41) Tryd.func42 rfl (by rfl) ?_
  refine xc_seq (xc_region ?_)
  refine xr_op rfl rfl (xv_box rfl (fun b6 hb6 => ?_))
  refine xr_op rfl rfl (xv_assign rfl ?_)
  refine xr_end rfl ?_
  refine th_n ?_
  refine xc_seq ?_
  refine xc_block ?_
  refine xc_seq (xc_region ?_)
  refine xr_op rfl rfl (xv_move rfl ?_)
  refine xr_op rfl rfl (xv_len sl33 rfl ?_)
  refine xr_op rfl rfl (xv_move rfl ?_)
  refine xr_op rfl rfl (xv_gtr2 rfl rfl (fun q1 => ?_) (fun q1 => ?_))
  · refine xr_op rfl rfl (xv_assign rfl ?_)
    refine xr_end rfl ?_
    refine th_n ?_
    refine xc_true rfl ?_
    refine xc_seq (xc_region ?_)
    refine xr_op rfl rfl (xv_assign rfl ?_)
    refine xr_end rfl ?_
    refine th_n ?_
    refine xc_ret ?_
    refine bk_r ?_
    refine th_r ?_
    refine body_ret (h' := h) rfl (ro_tmp rfl ro_nil) (by (first|((repeat first|exact s_0|exact s_1|exact s_3|refine s_4 ?_|refine s_5 ?_|refine s_6 ?_|refine s_7 ?_);done)|((repeat first|exact s_0|exact s_1|exact s_3|refine s_4 ?_|refine s_5 ?_|refine s_6 ?_|refine s_8 ?_);done))) ?_
    first | (rw [errL_3 (by omega)] at H; exact H) | (rw [errL_1 (by omega) (fun hq9 => by have h8 := hq9 x9 hx9; simp [h8] at hbd)] at H; exact H) | (rw [errL_7 (by omega) hok9 hna] at H; exact H) | (rw [errL_0 (by omega) hok9 hasc] at H; exact H)
  · refine xr_op rfl rfl (xv_assign rfl ?_)
    refine xr_end rfl ?_
    refine th_n ?_
    refine xc_false rfl ?_
    refine xc_seq (xc_region ?_)
    refine xr_op rfl rfl (xv_move rfl ?_)
    refine xr_op rfl rfl (xv_func rfl rfl ?_)
    refine xr_op rfl rfl (xv_calls rfl hb63 (containsLeaf_c (hs.sub (by intro z9 hz9; ((repeat first|exact z_0|assumption|refine z_1 ?_|(refine z_l ?_;(repeat first|exact z_0|assumption|refine z_1 ?_);done)|refine z_r ?_);done))) (by omega) (p := fun x => !decide (leafOk x)) (fun x hx R9 hR => afn_func (fi := []) (lb := [.pointer (some ⟨b6, 0, none⟩)]) hb64 (okLeaf_c (by ((repeat first|exact z_0|assumption|refine z_1 ?_|(refine z_l ?_;(repeat first|exact z_0|assumption|refine z_1 ?_);done)|refine z_r ?_);done)) ((hrd x hx).sub (by intro z9 hz9; ((repeat first|exact z_0|assumption|refine z_1 ?_|(refine z_l ?_;(repeat first|exact z_0|assumption|refine z_1 ?_);done)|refine z_r ?_);done))) (hrl x hx) hR)) (fun x9 hx9 hbd => up_ret ?_) (fun hall => up_ret ?_)))
    · refine xr_op rfl rfl (xv_assign rfl ?_)
      refine xr_end rfl ?_
      refine th_n ?_
      refine xc_true rfl ?_
      refine xc_seq (xc_region ?_)
      refine xr_op rfl rfl (xv_assign rfl ?_)
      refine xr_end rfl ?_
      refine th_n ?_
      refine xc_ret ?_
      refine bk_r ?_
      refine th_r ?_
      refine body_ret (h' := h) rfl (ro_tmp rfl ro_nil) (by (first|((repeat first|exact s_0|exact s_1|exact s_3|refine s_4 ?_|refine s_5 ?_|refine s_6 ?_|refine s_7 ?_);done)|((repeat first|exact s_0|exact s_1|exact s_3|refine s_4 ?_|refine s_5 ?_|refine s_6 ?_|refine s_8 ?_);done))) ?_
      first | (rw [errL_3 (by omega)] at H; exact H) | (rw [errL_1 (by omega) (fun hq9 => by have h8 := hq9 x9 hx9; simp [h8] at hbd)] at H; exact H) | (rw [errL_7 (by omega) hok9 hna] at H; exact H) | (rw [errL_0 (by omega) hok9 hasc] at H; exact H)
    · refine xr_op rfl rfl (xv_assign rfl ?_)
      refine xr_end rfl ?_
      refine th_n ?_
      refine xc_false rfl ?_
      refine xc_skip ?_
      refine bk_n ?_
      refine th_n ?_
      refine xc_seq ?_
      refine xc_seq (xc_region ?_)
      have hok9 : ∀ x ∈ xs, leafOk x := fun x hx => by simpa using hall x hx
      refine xr_op rfl rfl (xv_move rfl ?_)
      refine xr_op rfl rfl (xv_len sl33 rfl ?_)
      refine xr_op rfl rfl (xv_move rfl ?_)
      refine xr_end rfl ?_
      refine th_n ?_
      refine xc_block ?_
      refine xc_loop (σ := Nat) (fun k => k ≤ xs.length ∧ Asc ltLeaf xs k) (fun k => ((((((emp.put (some 0) (.slice a xs.length c)).put (some 3) (.func (.func 44) ⟨[]⟩ ⟨[]⟩)).put (some 8) (I 0)).put (some 19) (.slice a xs.length c)).put (some 20) (I xs.length)).put (some 21) (I k))) (fun k => ((b6, .cells ⟨[.func (.func 43) ⟨[]⟩ ⟨[]⟩]⟩ 90) :: h)) (fun k => xs.length - k) 0 ⟨Nat.zero_le _, Asc.zero⟩ (le_put (le_put (le_put (le_put (le_put (le_put (le_emp _) rfl) rfl) rfl) rfl) rfl) rfl) (by (first|((repeat first|exact s_0|exact s_1|exact s_3|refine s_4 ?_|refine s_5 ?_|refine s_6 ?_|refine s_7 ?_);done)|((repeat first|exact s_0|exact s_1|exact s_3|refine s_4 ?_|refine s_5 ?_|refine s_6 ?_|refine s_8 ?_);done))) ?_
      rintro k ⟨hk, hasc⟩
      refine xc_seq (xc_region ?_)
      refine xr_op rfl rfl (xv_lss2 rfl rfl (fun q2 => ?_) (fun q2 => ?_))
      · refine xr_end rfl ?_
        refine th_n ?_
        refine xc_seq ?_
        refine xc_true rfl ?_
        refine xc_skip ?_
        refine th_n ?_
        refine xc_seq ?_
        refine xc_block ?_
        refine xc_seq (xc_region ?_)
        refine xr_op rfl rfl (xv_move rfl ?_)
        refine xr_op rfl rfl (xv_assign rfl ?_)
        refine xr_end rfl ?_
        refine th_n ?_
        refine xc_seq ?_
        refine xc_draw0 [(0, .S), (1, .O), (2, .S), (3, .S), (4, .S), (5, .S), (6, .S), (7, .S), (8, .R), (9, .S), (10, .S), (11, .S), (12, .R), (13, .O), (14, .O), (15, .S)] mixed (by kernel_rfl) ?_
        refine js_S rfl rfl (.inl rfl) (xv_move rfl ⟨rfl, rfl⟩) ?_
        have hlto : k < xs.length := by (first|omega|(dsimp only at *;omega)|(simp at *;omega))
        obtain ⟨bo, oo, lo, to, fzo, hao, hmo, hxo⟩ := (hs).at hlto
        obtain ⟨xo, hko⟩ : ∃ qq_, xs[k]? = some qq_ := ⟨_, List.getElem?_eq_getElem hlto⟩
        refine js_O0 rfl rfl (.inl rfl) (xv_gtr2 rfl rfl (fun hq => ?_) (fun hq => ?_))
        · refine js_S rfl rfl (.inl rfl) (xv_move rfl ⟨rfl, rfl⟩) ?_
          refine js_S rfl rfl (.inr ⟨_, _, rfl, rfl⟩) (xv_move rfl ⟨rfl, rfl⟩) ?_
          refine js_S rfl rfl (.inr ⟨_, _, rfl, rfl⟩) (xv_move rfl ⟨rfl, rfl⟩) ?_
          refine js_S rfl rfl (.inr ⟨_, _, rfl, rfl⟩) (xv_move rfl ⟨rfl, rfl⟩) ?_
          obtain ⟨j, hj⟩ : ∃ j, k = j + 1 := ⟨k - 1, by (first|omega|(dsimp only at *;omega)|(simp at *;omega))⟩
          have hltp : j < xs.length := by (first|omega|(dsimp only at *;omega)|(simp at *;omega))
          obtain ⟨bp, op, lp, tp, fzp, hap, hmp, hxp⟩ := (hs).at hltp
          obtain ⟨xp, hkp⟩ : ∃ qq_, xs[j]? = some qq_ := ⟨_, List.getElem?_eq_getElem hltp⟩
          refine js_S rfl rfl (.inr ⟨_, _, rfl, rfl⟩) (xv_sub rfl rfl (wrap_i64 (by (first|omega|(dsimp only at *;omega)|(simp at *;omega))) (by (first|omega|(dsimp only at *;omega)|(simp at *;omega)))) ⟨rfl, rfl⟩) ?_
          refine js_S rfl rfl (.inr ⟨_, _, rfl, rfl⟩) (xv_ia (sz := 2) (j := j) sl33 ty72 rfl (by rw [hap]; rfl) rfl (by omega) (by (first|omega|(dsimp only at *;omega)|(simp at *;omega))) (by (first|omega|(dsimp only at *;omega)|(simp at *;omega))) ⟨rfl, rfl⟩) ?_
          refine js_R0 rfl rfl (.inr ⟨_, _, rfl, rfl⟩) (xv_loadA ty72 rfl rfl (by ((repeat first|exact z_0|assumption|refine z_1 ?_|(refine z_l ?_;(repeat first|exact z_0|assumption|refine z_1 ?_);done)|refine z_r ?_);done)) (hxp (j) xp hkp) rfl ⟨rfl, rfl⟩) ?_
          refine js_S rfl rfl (.inr ⟨_, _, rfl, rfl⟩) (xv_move rfl ⟨rfl, rfl⟩) ?_
          refine js_S rfl rfl (.inr ⟨_, _, rfl, rfl⟩) (xv_move rfl ⟨rfl, rfl⟩) ?_
          refine js_S rfl rfl (.inr ⟨_, _, rfl, rfl⟩) (xv_ia (sz := 2) (j := k) sl33 ty72 rfl (by rw [hao]; rfl) rfl (by (first | assumption | with_reducible exact Int.toNat_natCast _ | with_reducible rfl | rfl)) (by (first|omega|(dsimp only at *;omega)|(simp at *;omega))) (by (first|omega|(dsimp only at *;omega)|(simp at *;omega))) ⟨rfl, rfl⟩) ?_
          refine js_R0 rfl rfl (.inr ⟨_, _, rfl, rfl⟩) (xv_loadA ty72 rfl rfl (by ((repeat first|exact z_0|assumption|refine z_1 ?_|(refine z_l ?_;(repeat first|exact z_0|assumption|refine z_1 ?_);done)|refine z_r ?_);done)) (hxo (k) xo hko) rfl ⟨rfl, rfl⟩) ?_
          refine js_O0 rfl rfl (.inr ⟨_, _, rfl, rfl⟩) (xv_fn rfl rfl (afn_func hb44 (cmpLeaf_c (up_ret ?_))))
          refine js_O0 rfl rfl (.inr ⟨_, _, rfl, rfl⟩) (xv_geq2 rfl rfl (fun hq => ?_) (fun hq => ?_))
          · refine js_S rfl rfl (.inl rfl) (xv_pick rfl rfl ⟨rfl, rfl⟩) ?_
            refine j_end0 ?_
            refine th_n ?_
            refine xc_true rfl ?_
            refine xc_seq (xc_region ?_)
            have hna := Asc.not (lt := ltLeaf) hkp (by rw [← hj]; exact hko) (by unfold ltLeaf; have := cmpI_ge.1 (show 0 ≤ cmpI _ _ by assumption); omega)
            refine xr_op rfl rfl (xv_assign rfl ?_)
            refine xr_end rfl ?_
            refine th_n ?_
            refine xc_ret ?_
            refine bk_r ?_
            refine th_r ?_
            refine th_r ?_
            refine bk_r ?_
            refine th_r ?_
            refine body_ret (h' := h) rfl (ro_tmp rfl ro_nil) (by (first|((repeat first|exact s_0|exact s_1|exact s_3|refine s_4 ?_|refine s_5 ?_|refine s_6 ?_|refine s_7 ?_);done)|((repeat first|exact s_0|exact s_1|exact s_3|refine s_4 ?_|refine s_5 ?_|refine s_6 ?_|refine s_8 ?_);done))) ?_
            first | (rw [errL_3 (by omega)] at H; exact H) | (rw [errL_1 (by omega) (fun hq9 => by have h8 := hq9 x9 hx9; simp [h8] at hbd)] at H; exact H) | (rw [errL_7 (by omega) hok9 hna] at H; exact H) | (rw [errL_0 (by omega) hok9 hasc] at H; exact H)
          · refine js_S rfl rfl (.inl rfl) (xv_pick rfl rfl ⟨rfl, rfl⟩) ?_
            refine j_end0 ?_
            refine th_n ?_
            refine xc_false rfl ?_
            refine xc_skip ?_
            refine bk_n ?_
            refine th_n ?_
            refine xc_region ?_
            have hlt9 : ¬ 0 ≤ cmpI xp.house xo.house := by omega
            refine xr_op rfl rfl (xv_add rfl rfl (wrap_i64 (by (first|omega|(dsimp only at *;omega)|(simp at *;omega))) (by (first|omega|(dsimp only at *;omega)|(simp at *;omega)))) ?_)
            refine xr_op rfl rfl (xv_move rfl ?_)
            refine xr_end rfl ?_
            exact rnd (k + 1) ⟨by (first|omega|(dsimp only at *;omega)|(simp at *;omega)), hasc.step fun i9 a9 b9 hi9 ha9 hb9 => by (obtain rfl : i9 = j := by omega); rw [hkp] at ha9; rw [show i9 + 1 = k by omega, hko] at hb9; cases ha9; cases hb9; exact (Classical.not_not.1 (fun hn9 => hlt9 ((fun hn8 => cmpI_ge.2 hn8) hn9)))⟩ (by (first|omega|(dsimp only at *;omega)|(simp at *;omega))) (le_put (le_put (le_put (le_put (le_put (le_put (le_emp _) rfl) rfl) rfl) rfl) rfl) rfl) (by (first|((repeat first|exact s_0|exact s_1|exact s_3|refine s_4 ?_|refine s_5 ?_|refine s_6 ?_|refine s_7 ?_);done)|((repeat first|exact s_0|exact s_1|exact s_3|refine s_4 ?_|refine s_5 ?_|refine s_6 ?_|refine s_8 ?_);done)))
        · refine js_S rfl rfl (.inl rfl) (xv_move rfl ⟨rfl, rfl⟩) ?_
          refine js_Ss rfl rfl ⟨_, _, _, rfl, rfl, rfl⟩ ?_
          refine js_Ss rfl rfl ⟨_, _, _, rfl, rfl, rfl⟩ ?_
          refine js_Ss rfl rfl ⟨_, _, _, rfl, rfl, rfl⟩ ?_
          refine js_Ss rfl rfl ⟨_, _, _, rfl, rfl, rfl⟩ ?_
          refine js_Ss rfl rfl ⟨_, _, _, rfl, rfl, rfl⟩ ?_
          refine js_Rs rfl rfl ⟨_, _, _, rfl, rfl, rfl⟩ ?_
          refine js_Ss rfl rfl ⟨_, _, _, rfl, rfl, rfl⟩ ?_
          refine js_Ss rfl rfl ⟨_, _, _, rfl, rfl, rfl⟩ ?_
          refine js_Ss rfl rfl ⟨_, _, _, rfl, rfl, rfl⟩ ?_
          refine js_Rs rfl rfl ⟨_, _, _, rfl, rfl, rfl⟩ ?_
          refine js_Os rfl rfl ⟨_, _, _, rfl, rfl, rfl⟩ ?_
          refine js_Os rfl rfl ⟨_, _, _, rfl, rfl, rfl⟩ ?_
          refine js_S rfl rfl (.inl rfl) (xv_pick rfl rfl ⟨rfl, rfl⟩) ?_
          refine j_end0 ?_
          refine th_n ?_
          refine xc_false rfl ?_
          refine xc_skip ?_
          refine bk_n ?_
          refine th_n ?_
          refine xc_region ?_
          refine xr_op rfl rfl (xv_add rfl rfl (wrap_i64 (by (first|omega|(dsimp only at *;omega)|(simp at *;omega))) (by (first|omega|(dsimp only at *;omega)|(simp at *;omega)))) ?_)
          refine xr_op rfl rfl (xv_move rfl ?_)
          refine xr_end rfl ?_
          exact rnd (k + 1) ⟨by (first|omega|(dsimp only at *;omega)|(simp at *;omega)), hasc.step fun i9 a9 b9 hi9 ha9 hb9 => by omega⟩ (by (first|omega|(dsimp only at *;omega)|(simp at *;omega))) (le_put (le_put (le_put (le_put (le_put (le_put (le_emp _) rfl) rfl) rfl) rfl) rfl) rfl) (by (first|((repeat first|exact s_0|exact s_1|exact s_3|refine s_4 ?_|refine s_5 ?_|refine s_6 ?_|refine s_7 ?_);done)|((repeat first|exact s_0|exact s_1|exact s_3|refine s_4 ?_|refine s_5 ?_|refine s_6 ?_|refine s_8 ?_);done)))
      · refine xr_end rfl ?_
        refine th_n ?_
        refine xc_seq ?_
        refine xc_false rfl ?_
        refine xc_exit ?_
        refine th_x ?_
        refine th_x ?_
        refine bk_same ?_
        refine th_n ?_
        refine xc_seq (xc_region ?_)
        obtain rfl : k = xs.length := by (first|omega|(dsimp only at *;omega)|(simp at *;omega))
        refine xr_op rfl rfl (xv_assign rfl ?_)
        refine xr_end rfl ?_
        refine th_n ?_
        refine xc_ret ?_
        refine body_ret (h' := h) rfl (ro_tmp rfl ro_nil) (by (first|((repeat first|exact s_0|exact s_1|exact s_3|refine s_4 ?_|refine s_5 ?_|refine s_6 ?_|refine s_7 ?_);done)|((repeat first|exact s_0|exact s_1|exact s_3|refine s_4 ?_|refine s_5 ?_|refine s_6 ?_|refine s_8 ?_);done))) ?_
        first | (rw [errL_3 (by omega)] at H; exact H) | (rw [errL_1 (by omega) (fun hq9 => by have h8 := hq9 x9 hx9; simp [h8] at hbd)] at H; exact H) | (rw [errL_7 (by omega) hok9 hna] at H; exact H) | (rw [errL_0 (by omega) hok9 hasc] at H; exact H)

end Go.Proofs.YtlpkiolopelpfaaDoor

/-
  Walks.
-/
namespace Go.Proofs.YtlpkiolopelpfaaDoor
open Go Go.H
set_option maxRecDepth 100000
set_option maxHeartbeats 8000000
set_option linter.all false
theorem len_c {b n c : Nat} {a : Option Addr} {rest : List Value} {h : Hp} {R : Ending → Hp → Prop} (hm : (b, .cells ⟨.slice a n c :: I 0 :: rest⟩ 52 (0, 0)) ∈ h) (hn : n ≤ 1000000) (H : R (.returned (I n)) h) : ACalls Tryd.prog 78 ⟨[.pointer (some ⟨b, 0, none⟩)]⟩ h R := by
  refine calls_of_xc (N := 13) Tryd.func78 rfl (by rfl) ?_
  refine xc_seq (xc_region ?_)
  refine xr_op rfl rfl (xv_assign rfl ?_)
  refine xr_end rfl ?_
  refine th_n ?_
  refine xc_seq ?_
  refine xc_draw0 [(0, .S), (1, .S), (2, .S), (3, .R), (4, .S), (5, .S), (6, .S), (7, .S), (8, .R), (9, .S), (10, .S)] mixed (by kernel_rfl) ?_
  refine js_S rfl rfl (.inl rfl) (xv_move rfl ⟨rfl, rfl⟩) ?_
  refine js_S rfl rfl (.inl rfl) (xv_nilp rfl ⟨rfl, rfl⟩) ?_
  refine js_S rfl rfl (.inl rfl) (xv_faddr fl50_0 rfl ⟨rfl, rfl⟩) ?_
  refine js_R0 rfl rfl (.inl rfl) (xv_load1 ty23 rfl rfl (by ((repeat first|exact z_0|assumption|refine z_1 ?_|(refine z_l ?_;(repeat first|exact z_0|assumption|refine z_1 ?_);done)|refine z_r ?_);done)) (by rfl) ⟨rfl, rfl⟩) ?_
  refine js_S rfl rfl (.inl rfl) (xv_len sl23 rfl ⟨rfl, rfl⟩) ?_
  refine js_S rfl rfl (.inl rfl) (xv_move rfl ⟨rfl, rfl⟩) ?_
  refine js_S rfl rfl (.inl rfl) (xv_nilp rfl ⟨rfl, rfl⟩) ?_
  refine js_S rfl rfl (.inl rfl) (xv_faddr fl50_1 rfl ⟨rfl, rfl⟩) ?_
  refine js_R0 rfl rfl (.inl rfl) (xv_load1 ty3 rfl rfl (by ((repeat first|exact z_0|assumption|refine z_1 ?_|(refine z_l ?_;(repeat first|exact z_0|assumption|refine z_1 ?_);done)|refine z_r ?_);done)) (by rfl) ⟨rfl, rfl⟩) ?_
  refine js_S rfl rfl (.inl rfl) (xv_sub (c := (n : Int)) rfl rfl (by rw [Int.sub_zero]; exact wrap_i64 (by omega) (by omega)) ⟨rfl, rfl⟩) ?_
  refine js_S rfl rfl (.inl rfl) (xv_assign rfl ⟨rfl, rfl⟩) ?_
  refine j_end0 ?_
  refine th_n ?_
  refine xc_ret ?_
  refine body_ret (h' := h) rfl (ro_tmp rfl ro_nil) (by (first|((repeat first|exact s_0|exact s_1|exact s_3|refine s_4 ?_|refine s_5 ?_|refine s_6 ?_|refine s_7 ?_);done)|((repeat first|exact s_0|exact s_1|exact s_3|refine s_4 ?_|refine s_5 ?_|refine s_6 ?_|refine s_8 ?_);done))) ?_
  exact H

theorem try_c {b n c : Nat} {a : Option Addr} {rest : List Value} {h : Hp} {R : Ending → Hp → Prop} (hc : c ≤ 9223372036854775807) (hn : n ≤ 1000000) (H1 : n + 1 ≤ c → R (.returned (.tuple ⟨[I n, .bool true]⟩)) ((b, .cells ⟨.slice a (n + 1) c :: rest⟩ 52) :: h)) (H2 : ¬ n + 1 ≤ c → R (.returned (.tuple ⟨[I 0, .bool false]⟩)) ((b, .cells ⟨.slice a n c :: rest⟩ 52) :: h)) :
    ACalls Tryd.prog 69 ⟨[.pointer (some ⟨b, 0, none⟩), I 1]⟩ ((b, .cells ⟨.slice a n c :: rest⟩ 52) :: h) R := by
  refine calls_of_xc (N := 33) Tryd.func69 rfl (by rfl) ?_
  refine xc_seq (xc_region ?_)
  refine xr_op rfl rfl (xv_assign rfl ?_)
  refine xr_op rfl rfl (xv_assign rfl ?_)
  refine xr_end rfl ?_
  refine th_n ?_
  refine xc_seq ?_
  refine xc_seq (xc_region ?_)
  refine xr_op rfl rfl (xv_move rfl ?_)
  refine xr_op rfl rfl (xv_nilp rfl ?_)
  refine xr_op rfl rfl (xv_faddr fl50_0 rfl ?_)
  refine xr_op rfl rfl (xv_load1 ty23 rfl rfl (by ((repeat first|exact z_0|assumption|refine z_1 ?_|(refine z_l ?_;(repeat first|exact z_0|assumption|refine z_1 ?_);done)|refine z_r ?_);done)) (by rfl) ?_)
  refine xr_op rfl rfl (xv_len sl23 rfl ?_)
  refine xr_op rfl rfl (xv_assign rfl ?_)
  refine xr_end rfl ?_
  refine th_n ?_
  refine xc_seq (xc_region ?_)
  refine xr_op rfl rfl (xv_move rfl ?_)
  refine xr_op rfl rfl (xv_move rfl ?_)
  refine xr_op rfl rfl (xv_nilp rfl ?_)
  refine xr_op rfl rfl (xv_faddr fl50_0 rfl ?_)
  refine xr_op rfl rfl (xv_load1 ty23 rfl rfl (by ((repeat first|exact z_0|assumption|refine z_1 ?_|(refine z_l ?_;(repeat first|exact z_0|assumption|refine z_1 ?_);done)|refine z_r ?_);done)) (by rfl) ?_)
  refine xr_op rfl rfl (xv_cap sl23 rfl ?_)
  refine xr_op rfl rfl (xv_move rfl ?_)
  refine xr_op rfl rfl (xv_sub rfl rfl (wrap_i64 (by (first|omega|(dsimp only at *;omega)|(simp at *;omega))) (by (first|omega|(dsimp only at *;omega)|(simp at *;omega)))) ?_)
  refine xr_op rfl rfl (xv_leq2 rfl rfl (fun q1 => ?_) (fun q1 => ?_))
  · refine xr_end rfl ?_
    refine th_n ?_
    refine xc_true rfl ?_
    refine xc_seq (xc_region ?_)
    refine xr_op rfl rfl (xv_move rfl ?_)
    refine xr_op rfl rfl (xv_move rfl ?_)
    refine xr_op rfl rfl (xv_nilp rfl ?_)
    refine xr_op rfl rfl (xv_faddr fl50_0 rfl ?_)
    refine xr_op rfl rfl (xv_load1 ty23 rfl rfl (by ((repeat first|exact z_0|assumption|refine z_1 ?_|(refine z_l ?_;(repeat first|exact z_0|assumption|refine z_1 ?_);done)|refine z_r ?_);done)) (by rfl) ?_)
    refine xr_op rfl rfl (xv_move rfl ?_)
    refine xr_op rfl rfl (xv_move rfl ?_)
    refine xr_op rfl rfl (xv_add rfl rfl (wrap_i64 (by (first|omega|(dsimp only at *;omega)|(simp at *;omega))) (by (first|omega|(dsimp only at *;omega)|(simp at *;omega)))) ?_)
    refine xr_op rfl rfl (xv_sliceToN (m := n + 1) sl23 ty5 rfl rfl (by omega) (by omega) (by omega) ?_)
    refine xr_op rfl rfl (xv_nilp rfl ?_)
    refine xr_op rfl rfl (xv_faddr fl50_0 rfl ?_)
    refine xr_op rfl rfl (xv_s1 ty23 rfl rfl rfl (by (first|(apply u_3;(repeat first|exact u_0|assumption|apply u_1|apply u_2);done)|((repeat first|exact u_0|assumption|apply u_1|apply u_2);done)|(apply u_3;apply u_3;(repeat first|exact u_0|assumption|apply u_1|apply u_2);done)|((repeat first|exact u_0|assumption|apply u_3|apply u_1);done))) (by (first | rfl | exact Vec.one _ _)) (by simp) rfl ?_)
    refine xr_end rfl ?_
    refine th_n ?_
    refine xc_seq (xc_region ?_)
    refine xr_op rfl rfl (xv_move rfl ?_)
    refine xr_op rfl rfl (xv_assign rfl ?_)
    refine xr_op rfl rfl (xv_assign rfl ?_)
    refine xr_end rfl ?_
    refine th_n ?_
    refine xc_ret ?_
    refine th_r ?_
    refine body_ret (h' := _) rfl (ro_tmp rfl (ro_tmp rfl ro_nil)) (by (first|((repeat first|exact s_0|exact s_1|exact s_3|refine s_4 ?_|refine s_5 ?_|refine s_6 ?_|refine s_7 ?_);done)|((repeat first|exact s_0|exact s_1|exact s_3|refine s_4 ?_|refine s_5 ?_|refine s_6 ?_|refine s_8 ?_);done))) ?_
    first | exact H1 (by omega) | exact H2 (by omega)
  · refine xr_end rfl ?_
    refine th_n ?_
    refine xc_false rfl ?_
    refine xc_skip ?_
    refine th_n ?_
    refine xc_seq (xc_region ?_)
    refine xr_op rfl rfl (xv_assign rfl ?_)
    refine xr_op rfl rfl (xv_assign rfl ?_)
    refine xr_end rfl ?_
    refine th_n ?_
    refine xc_ret ?_
    refine body_ret (h' := _) rfl (ro_tmp rfl (ro_tmp rfl ro_nil)) (by (first|((repeat first|exact s_0|exact s_1|exact s_3|refine s_4 ?_|refine s_5 ?_|refine s_6 ?_|refine s_7 ?_);done)|((repeat first|exact s_0|exact s_1|exact s_3|refine s_4 ?_|refine s_5 ?_|refine s_6 ?_|refine s_8 ?_);done))) ?_
    first | exact H1 (by omega) | exact H2 (by omega)

theorem grd_ret {h : Hp} {R : Ending → FrameMode → Hp → Prop} (H : R (.returned (.tuple #[])) .returning h) : DCalls Tryd.prog 83 ⟨[]⟩ .returning h R := by
  refine dcalls_rec0 (N := 3) Tryd.func83 (by rfl) rfl ⟨_, Tryd.underlying20⟩ (by rfl) rfl rfl ?_
  refine xc_false rfl ?_
  refine xc_skip ?_
  refine ⟨rfl, h, (by (first|((repeat first|exact s_0|exact s_1|exact s_3|refine s_4 ?_|refine s_5 ?_|refine s_6 ?_|refine s_7 ?_);done)|((repeat first|exact s_0|exact s_1|exact s_3|refine s_4 ?_|refine s_5 ?_|refine s_6 ?_|refine s_8 ?_);done))), ?_⟩
  exact H

theorem growSlice_c {b n : Nat} {xs : List Value} {h : Hp} {R : Ending → Hp → Prop} (hm : (b, .cells ⟨xs⟩ 5 (0, 0)) ∈ h) (hx : xs.length = n) (h1 : xs.all Value.oneCell' = true) (h0 : 0 < n) (hn : n ≤ 1000000)
    (H : ∀ b' cap sp, n + 1 ≤ cap → sp.length = cap - n → cap ≤ 9223372036854775807 → R (.returned (.slice (some ⟨b', 0, none⟩) n cap)) ((b', .cells ⟨xs ++ sp⟩ 5) :: h)) : ACalls Tryd.prog 80 ⟨[.slice (some ⟨b, 0, none⟩) n n, I 1]⟩ h R := by
  refine calls_of_xcD (N := 28) Tryd.func80 rfl (by rfl) ?_
  refine xc_seq (xc_region ?_)
  refine xr_op rfl rfl (xv_assign rfl ?_)
  refine xr_end rfl ?_
  refine th_n ?_
  refine xc_seq (xc_region ?_)
  refine xr_defer rfl rfl rfl rfl ?_
  refine xr_end rfl ?_
  refine th_n ?_
  refine xc_seq (xc_region ?_)
  refine xr_op rfl rfl (xv_move rfl ?_)
  refine xr_op rfl rfl (xv_len sl23 rfl ?_)
  refine xr_op rfl rfl (xv_move rfl ?_)
  refine xr_op rfl rfl (xv_add rfl rfl (wrap_i64 (by (first|omega|(dsimp only at *;omega)|(simp at *;omega))) (by (first|omega|(dsimp only at *;omega)|(simp at *;omega)))) ?_)
  refine xr_op rfl rfl (xv_assign rfl ?_)
  refine xr_end rfl ?_
  refine th_n ?_
  refine xc_join (σ := Nat) (fun c => n + 1 ≤ c ∧ c ≤ 2000001) (fun c => (((emp.put (some 0) (.slice (some ⟨b, 0, none⟩) n n)).put (some 5) (I (c : Int))).put (some 4) (.slice none 0 0))) (fun c => h) ?_ ?_
  · refine xc_seq (xc_region ?_)
    refine xr_op rfl rfl (xv_move rfl ?_)
    refine xr_op rfl rfl (xv_move rfl ?_)
    refine xr_op rfl rfl (xv_cap sl23 rfl ?_)
    refine xr_op rfl rfl (xv_mul rfl rfl (wrap_i64 (by (first|omega|(dsimp only at *;omega)|(simp at *;omega))) (by (first|omega|(dsimp only at *;omega)|(simp at *;omega)))) ?_)
    refine xr_op rfl rfl (xv_lss2 rfl rfl (fun q1 => ?_) (fun q1 => ?_))
    · refine xr_end rfl ?_
      refine th_n ?_
      refine xc_true rfl ?_
      refine xc_region ?_
      refine xr_op rfl rfl (xv_move rfl ?_)
      refine xr_op rfl rfl (xv_cap sl23 rfl ?_)
      refine xr_op rfl rfl (xv_mul rfl rfl (wrap_i64 (by (first|omega|(dsimp only at *;omega)|(simp at *;omega))) (by (first|omega|(dsimp only at *;omega)|(simp at *;omega)))) ?_)
      refine xr_op rfl rfl (xv_assign rfl ?_)
      refine xr_end rfl ?_
      exact jn_n (2 * n) ⟨by omega, by omega⟩ (le_put (le_put (le_put (le_emp _) rfl) (by show _ = some (I _); push_cast; rfl)) rfl) (by (first|((repeat first|exact s_0|exact s_1|exact s_3|refine s_4 ?_|refine s_5 ?_|refine s_6 ?_|refine s_7 ?_);done)|((repeat first|exact s_0|exact s_1|exact s_3|refine s_4 ?_|refine s_5 ?_|refine s_6 ?_|refine s_8 ?_);done)))
    · refine xr_end rfl ?_
      refine th_n ?_
      refine xc_false rfl ?_
      refine xc_skip ?_
      exact jn_n (n + 1) ⟨by omega, by omega⟩ (le_put (le_put (le_put (le_emp _) rfl) (by show _ = some (I _); push_cast; rfl)) rfl) (by (first|((repeat first|exact s_0|exact s_1|exact s_3|refine s_4 ?_|refine s_5 ?_|refine s_6 ?_|refine s_7 ?_);done)|((repeat first|exact s_0|exact s_1|exact s_3|refine s_4 ?_|refine s_5 ?_|refine s_6 ?_|refine s_8 ?_);done)))
  · rintro c ⟨hc1, hc2⟩
    refine xc_seq (xc_region ?_)
    refine xr_op rfl rfl (xv_move rfl ?_)
    refine xr_op rfl rfl (xv_mkz (c := c) sl23 Tryd.underlying3 ty5 rfl rfl rfl rfl rfl (by omega) (by omega) (fun b9 cap9 l9 hb9n hl9 hcap9 hmx9 => ?_))
    refine xr_op rfl rfl (xv_assign rfl ?_)
    refine xr_end rfl ?_
    refine th_n ?_
    refine xc_seq (xc_region ?_)
    refine xr_op rfl rfl (xv_move rfl ?_)
    refine xr_op rfl rfl (xv_move rfl ?_)
    refine xr_op rfl rfl (xv_copyW (l := l9) (news := xs) (m := n) sl23 ty5 rfl rfl rfl (by ((repeat first|exact z_0|assumption|refine z_1 ?_|(refine z_l ?_;(repeat first|exact z_0|assumption|refine z_1 ?_);done)|refine z_r ?_);done)) (by rw [List.drop_zero]; exact List.take_of_length_le (by omega)) hx h1 (by omega) (by omega) (by (first|(apply u_3;(repeat first|exact u_0|assumption|apply u_1|apply u_2);done)|((repeat first|exact u_0|assumption|apply u_1|apply u_2);done)|(apply u_3;apply u_3;(repeat first|exact u_0|assumption|apply u_1|apply u_2);done)|((repeat first|exact u_0|assumption|apply u_3|apply u_1);done))) ?_)
    refine xr_op rfl rfl (xv_assign rfl ?_)
    refine xr_end rfl ?_
    refine th_n ?_
    refine xc_seq (xc_region ?_)
    refine xr_op rfl rfl (xv_move rfl ?_)
    refine xr_op rfl rfl (xv_move rfl ?_)
    refine xr_op rfl rfl (xv_sliceToN (m := n) sl23 ty5 rfl rfl (by omega) (by omega) (by omega) ?_)
    refine xr_op rfl rfl (xv_assign rfl ?_)
    refine xr_end rfl ?_
    refine th_n ?_
    refine xc_ret ?_
    refine ⟨by simp, 83, [], [], rfl, hb83, grd_ret ?_⟩
    refine ⟨_, (b9, .cells ⟨xs ++ l9.drop n⟩ 5) :: h, (ro_tmp rfl ro_nil), (by (first|((repeat first|exact s_0|exact s_1|exact s_3|refine s_4 ?_|refine s_5 ?_|refine s_6 ?_|refine s_7 ?_);done)|((repeat first|exact s_0|exact s_1|exact s_3|refine s_4 ?_|refine s_5 ?_|refine s_6 ?_|refine s_8 ?_);done))), ?_⟩
    exact H b9 cap9 (l9.drop n) (by omega) (by rw [List.length_drop, hl9]) hmx9

end Go.Proofs.YtlpkiolopelpfaaDoor

/-
  Walks.
-/
namespace Go.Proofs.YtlpkiolopelpfaaDoor
open Go Go.H
set_option maxRecDepth 100000
set_option maxHeartbeats 8000000
set_option linter.all false
theorem grow0_c {b : Nat} {rest : List Value} {h : Hp} {R : Ending → Hp → Prop} (H : ∀ b9 l9, b9 ∉ keys h → List.length l9 = 64 → R (.returned (I 0)) ((b9, .cells ⟨l9⟩ 5) :: (b, .cells ⟨.slice (some ⟨b9, 0, none⟩) 1 64 :: I 0 :: rest⟩ 52) :: h)) : ACalls Tryd.prog 70 ⟨[.pointer (some ⟨b, 0, none⟩), I 1]⟩ ((b, .cells ⟨.slice none 0 0 :: I 0 :: rest⟩ 52) :: h) R := by
  refine calls_of_xc (N := 110) Tryd.func70 rfl (by rfl) ?_
  refine xc_seq (xc_region ?_)
  refine xr_op rfl rfl (xv_assign rfl ?_)
  refine xr_end rfl ?_
  refine th_n ?_
  refine xc_seq (xc_region ?_)
  refine xr_op rfl rfl (xv_move rfl ?_)
  refine xr_op rfl rfl (xv_calls rfl hb78 (len_c (n := 0) (by ((repeat first|exact z_0|assumption|refine z_1 ?_|(refine z_l ?_;(repeat first|exact z_0|assumption|refine z_1 ?_);done)|refine z_r ?_);done)) (by omega) (up_ret ?_)))
  refine xr_op rfl rfl (xv_assign rfl ?_)
  refine xr_end rfl ?_
  refine th_n ?_
  refine xc_seq ?_
  refine xc_seq (xc_region ?_)
  refine xr_op rfl rfl (xv_move rfl ?_)
  refine xr_op rfl rfl (xv_eqlT rfl rfl rfl ?_)
  refine xr_op rfl rfl (xv_move rfl ?_)
  refine xr_gd rfl rfl rfl (xv_move rfl ?_)
  refine xr_gd rfl rfl rfl (xv_nilp rfl ?_)
  refine xr_gd rfl rfl rfl (xv_faddr fl50_1 rfl ?_)
  refine xr_gd rfl rfl rfl (xv_load1 ty3 rfl rfl (by ((repeat first|exact z_0|assumption|refine z_1 ?_|(refine z_l ?_;(repeat first|exact z_0|assumption|refine z_1 ?_);done)|refine z_r ?_);done)) (by rfl) ?_)
  refine xr_gd rfl rfl rfl (xv_neqF rfl rfl rfl ?_)
  refine xr_op rfl rfl (xv_pick rfl rfl ?_)
  refine xr_end rfl ?_
  refine th_n ?_
  refine xc_false rfl ?_
  refine xc_skip ?_
  refine th_n ?_
  refine xc_seq ?_
  refine xc_seq (xc_region ?_)
  refine xr_op rfl rfl (xv_move rfl ?_)
  refine xr_op rfl rfl (xv_move rfl ?_)
  refine xr_op rfl rfl (xv_calls rfl hb69 (try_c (n := 0) (by omega) (by omega) (fun h9 => absurd h9 (by omega)) (fun hno => up_ret ?_)))
  refine xr_op rfl rfl (xv_move rfl ?_)
  refine xr_op rfl rfl (xv_extract rfl rfl ?_)
  refine xr_op rfl rfl (xv_extract rfl rfl ?_)
  refine xr_op rfl rfl (xv_assign rfl ?_)
  refine xr_op rfl rfl (xv_assign rfl ?_)
  refine xr_end rfl ?_
  refine th_n ?_
  refine xc_seq (xc_region ?_)
  refine xr_op rfl rfl (xv_move rfl ?_)
  refine xr_end rfl ?_
  refine th_n ?_
  refine xc_false rfl ?_
  refine xc_skip ?_
  refine th_n ?_
  refine xc_seq ?_
  refine xc_seq (xc_region ?_)
  refine xr_op rfl rfl (xv_move rfl ?_)
  refine xr_op rfl rfl (xv_nilp rfl ?_)
  refine xr_op rfl rfl (xv_faddr fl50_0 rfl ?_)
  refine xr_op rfl rfl (xv_load1 ty23 rfl rfl (by ((repeat first|exact z_0|assumption|refine z_1 ?_|(refine z_l ?_;(repeat first|exact z_0|assumption|refine z_1 ?_);done)|refine z_r ?_);done)) (by rfl) ?_)
  refine xr_op rfl rfl (xv_eqNilS sl23 rfl rfl rfl ?_)
  refine xr_op rfl rfl (xv_move rfl ?_)
  refine xr_gd rfl rfl rfl (xv_move rfl ?_)
  refine xr_gd rfl rfl rfl (xv_cmpK rfl rfl (cmpT (by simp only [cmpP]; (first|omega|(dsimp only at *;omega)|(simp at *;omega)))) ?_)
  refine xr_op rfl rfl (xv_pick rfl rfl ?_)
  refine xr_end rfl ?_
  refine th_n ?_
  refine xc_true rfl ?_
  refine xc_seq (xc_region ?_)
  refine xr_op rfl rfl (xv_move rfl ?_)
  refine xr_op rfl rfl (xv_move rfl ?_)
  refine xr_op rfl rfl (xv_mkc (n := 1) (c := 64) sl23 ty5 rfl rfl rfl rfl rfl (by omega) (by omega) (fun b9 l9 hb9n hl9 => ?_))
  refine xr_op rfl rfl (xv_nilp rfl ?_)
  refine xr_op rfl rfl (xv_faddr fl50_0 rfl ?_)
  refine xr_op rfl rfl (xv_s1 ty23 rfl rfl rfl (by (first|(apply u_3;(repeat first|exact u_0|assumption|apply u_1|apply u_2);done)|((repeat first|exact u_0|assumption|apply u_1|apply u_2);done)|(apply u_3;apply u_3;(repeat first|exact u_0|assumption|apply u_1|apply u_2);done)|((repeat first|exact u_0|assumption|apply u_3|apply u_1);done))) (by (first | rfl | exact Vec.one _ _)) (by simp) rfl ?_)
  refine xr_end rfl ?_
  refine th_n ?_
  refine xc_seq (xc_region ?_)
  refine xr_op rfl rfl (xv_assign rfl ?_)
  refine xr_end rfl ?_
  refine th_n ?_
  refine xc_ret ?_
  refine th_r ?_
  refine body_ret (h' := ((b9, .cells ⟨l9⟩ 5) :: (b, .cells ⟨.slice (some ⟨b9, 0, none⟩) 1 64 :: I 0 :: rest⟩ 52) :: h)) rfl (ro_tmp rfl ro_nil) (by (first|((repeat first|exact s_0|exact s_1|exact s_3|refine s_4 ?_|refine s_5 ?_|refine s_6 ?_|refine s_7 ?_);done)|((repeat first|exact s_0|exact s_1|exact s_3|refine s_4 ?_|refine s_5 ?_|refine s_6 ?_|refine s_8 ?_);done))) ?_
  exact H b9 l9 (fun hq9 => hb9n (List.mem_cons_of_mem _ hq9)) hl9

theorem growA_c {b b8 n : Nat} {xs rest : List Value} {h : Hp} {R : Ending → Hp → Prop} (hx : xs.length = n) (h1 : xs.all Value.oneCell' = true) (h0 : 0 < n) (hn : n ≤ 1000000) (H : ∀ b9 cap sp, n + 1 ≤ cap → List.length sp = cap - n → cap ≤ 9223372036854775807 → R (.returned (I n)) ((b9, .cells ⟨xs ++ sp⟩ 5) :: (b, .cells ⟨.slice (some ⟨b9, 0, none⟩) (n + 1) cap :: I 0 :: rest⟩ 52) :: h)) : ACalls Tryd.prog 70 ⟨[.pointer (some ⟨b, 0, none⟩), I 1]⟩ ((b, .cells ⟨.slice (some ⟨b8, 0, none⟩) n n :: I 0 :: rest⟩ 52) :: (b8, .cells ⟨xs⟩ 5) :: h) R := by
  refine calls_of_xc (N := 110) Tryd.func70 rfl (by rfl) ?_
  refine xc_seq (xc_region ?_)
  refine xr_op rfl rfl (xv_assign rfl ?_)
  refine xr_end rfl ?_
  refine th_n ?_
  refine xc_seq (xc_region ?_)
  refine xr_op rfl rfl (xv_move rfl ?_)
  refine xr_op rfl rfl (xv_calls rfl hb78 (len_c (n := n) (by ((repeat first|exact z_0|assumption|refine z_1 ?_|(refine z_l ?_;(repeat first|exact z_0|assumption|refine z_1 ?_);done)|refine z_r ?_);done)) (by omega) (up_ret ?_)))
  refine xr_op rfl rfl (xv_assign rfl ?_)
  refine xr_end rfl ?_
  refine th_n ?_
  refine xc_seq ?_
  refine xc_seq (xc_region ?_)
  refine xr_op rfl rfl (xv_move rfl ?_)
  refine xr_op rfl rfl (xv_eqlF rfl rfl (by omega) ?_)
  refine xr_op rfl rfl (xv_move rfl ?_)
  refine xr_no rfl rfl rfl rfl ?_
  refine xr_no rfl rfl rfl rfl ?_
  refine xr_no rfl rfl rfl rfl ?_
  refine xr_no rfl rfl rfl rfl ?_
  refine xr_no rfl rfl rfl rfl ?_
  refine xr_op rfl rfl (xv_pick rfl rfl ?_)
  refine xr_end rfl ?_
  refine th_n ?_
  refine xc_false rfl ?_
  refine xc_skip ?_
  refine th_n ?_
  refine xc_seq ?_
  refine xc_seq (xc_region ?_)
  refine xr_op rfl rfl (xv_move rfl ?_)
  refine xr_op rfl rfl (xv_move rfl ?_)
  refine xr_op rfl rfl (xv_calls rfl hb69 (try_c (n := n) (by omega) (by omega) (fun h9 => absurd h9 (by omega)) (fun hno => up_ret ?_)))
  refine xr_op rfl rfl (xv_move rfl ?_)
  refine xr_op rfl rfl (xv_extract rfl rfl ?_)
  refine xr_op rfl rfl (xv_extract rfl rfl ?_)
  refine xr_op rfl rfl (xv_assign rfl ?_)
  refine xr_op rfl rfl (xv_assign rfl ?_)
  refine xr_end rfl ?_
  refine th_n ?_
  refine xc_seq (xc_region ?_)
  refine xr_op rfl rfl (xv_move rfl ?_)
  refine xr_end rfl ?_
  refine th_n ?_
  refine xc_false rfl ?_
  refine xc_skip ?_
  refine th_n ?_
  refine xc_seq ?_
  refine xc_seq (xc_region ?_)
  refine xr_op rfl rfl (xv_move rfl ?_)
  refine xr_op rfl rfl (xv_nilp rfl ?_)
  refine xr_op rfl rfl (xv_faddr fl50_0 rfl ?_)
  refine xr_op rfl rfl (xv_load1 ty23 rfl rfl (by ((repeat first|exact z_0|assumption|refine z_1 ?_|(refine z_l ?_;(repeat first|exact z_0|assumption|refine z_1 ?_);done)|refine z_r ?_);done)) (by rfl) ?_)
  refine xr_op rfl rfl (xv_eqNilS sl23 rfl rfl rfl ?_)
  refine xr_op rfl rfl (xv_move rfl ?_)
  refine xr_no rfl rfl rfl rfl ?_
  refine xr_no rfl rfl rfl rfl ?_
  refine xr_op rfl rfl (xv_pick rfl rfl ?_)
  refine xr_end rfl ?_
  refine th_n ?_
  refine xc_false rfl ?_
  refine xc_skip ?_
  refine th_n ?_
  refine xc_seq (xc_region ?_)
  refine xr_op rfl rfl (xv_move rfl ?_)
  refine xr_op rfl rfl (xv_nilp rfl ?_)
  refine xr_op rfl rfl (xv_faddr fl50_0 rfl ?_)
  refine xr_op rfl rfl (xv_load1 ty23 rfl rfl (by ((repeat first|exact z_0|assumption|refine z_1 ?_|(refine z_l ?_;(repeat first|exact z_0|assumption|refine z_1 ?_);done)|refine z_r ?_);done)) (by rfl) ?_)
  refine xr_op rfl rfl (xv_cap sl23 rfl ?_)
  refine xr_op rfl rfl (xv_assign rfl ?_)
  refine xr_end rfl ?_
  refine th_n ?_
  refine xc_seq ?_
  refine xc_seq (xc_region ?_)
  refine xr_op rfl rfl (xv_move rfl ?_)
  refine xr_op rfl rfl (xv_move rfl ?_)
  refine xr_op rfl rfl (xv_quo (c := ((n / 2 : Nat) : Int)) rfl rfl (by decide) (by rw [show ((n : Int)).tdiv 2 = ((n / 2 : Nat) : Int) from rfl]; exact wrap_i64 (by omega) (by omega)) ?_)
  refine xr_op rfl rfl (xv_move rfl ?_)
  refine xr_op rfl rfl (xv_sub rfl rfl (wrap_i64 (by (first|omega|(dsimp only at *;omega)|(simp at *;omega))) (by (first|omega|(dsimp only at *;omega)|(simp at *;omega)))) ?_)
  refine xr_op rfl rfl (xv_cmpK rfl rfl (cmpF rfl (by simp only [cmpP]; (first|omega|(dsimp only at *;omega)|(simp at *;omega)))) ?_)
  refine xr_end rfl ?_
  refine th_n ?_
  refine xc_false rfl ?_
  refine xc_seq (xc_region ?_)
  refine xr_op rfl rfl (xv_move rfl ?_)
  refine xr_op rfl rfl (xv_move rfl ?_)
  refine xr_op rfl rfl (xv_sub rfl rfl (wrap_i64 (by (first|omega|(dsimp only at *;omega)|(simp at *;omega))) (by (first|omega|(dsimp only at *;omega)|(simp at *;omega)))) ?_)
  refine xr_op rfl rfl (xv_move rfl ?_)
  refine xr_op rfl rfl (xv_sub rfl rfl (wrap_i64 (by (first|omega|(dsimp only at *;omega)|(simp at *;omega))) (by (first|omega|(dsimp only at *;omega)|(simp at *;omega)))) ?_)
  refine xr_op rfl rfl (xv_cmpK rfl rfl (cmpF rfl (by simp only [cmpP]; (first|omega|(dsimp only at *;omega)|(simp at *;omega)))) ?_)
  refine xr_end rfl ?_
  refine th_n ?_
  refine xc_false rfl ?_
  refine xc_draw0 [(0, .S), (1, .S), (2, .S), (3, .S), (4, .R), (5, .S), (6, .S), (7, .S), (8, .R), (9, .S), (10, .S), (11, .S), (12, .S), (13, .R), (14, .S), (15, .S), (16, .O), (17, .S), (18, .S), (19, .O)] mixed (by kernel_rfl) ?_
  refine js_S rfl rfl (.inl rfl) (xv_move rfl ⟨rfl, rfl⟩) ?_
  refine js_S rfl rfl (.inl rfl) (xv_move rfl ⟨rfl, rfl⟩) ?_
  refine js_S rfl rfl (.inl rfl) (xv_nilp rfl ⟨rfl, rfl⟩) ?_
  refine js_S rfl rfl (.inl rfl) (xv_faddr fl50_0 rfl ⟨rfl, rfl⟩) ?_
  refine js_R0 rfl rfl (.inl rfl) (xv_load1 ty23 rfl rfl (by ((repeat first|exact z_0|assumption|refine z_1 ?_|(refine z_l ?_;(repeat first|exact z_0|assumption|refine z_1 ?_);done)|refine z_r ?_);done)) (by rfl) ⟨rfl, rfl⟩) ?_
  refine js_S rfl rfl (.inl rfl) (xv_move rfl ⟨rfl, rfl⟩) ?_
  refine js_S rfl rfl (.inl rfl) (xv_nilp rfl ⟨rfl, rfl⟩) ?_
  refine js_S rfl rfl (.inl rfl) (xv_faddr fl50_1 rfl ⟨rfl, rfl⟩) ?_
  refine js_R0 rfl rfl (.inl rfl) (xv_load1 ty3 rfl rfl (by ((repeat first|exact z_0|assumption|refine z_1 ?_|(refine z_l ?_;(repeat first|exact z_0|assumption|refine z_1 ?_);done)|refine z_r ?_);done)) (by rfl) ⟨rfl, rfl⟩) ?_
  refine js_S rfl rfl (.inl rfl) (xv_sl0 sl23 ty5 rfl rfl ⟨rfl, rfl⟩) ?_
  refine js_S rfl rfl (.inl rfl) (xv_move rfl ⟨rfl, rfl⟩) ?_
  refine js_S rfl rfl (.inl rfl) (xv_nilp rfl ⟨rfl, rfl⟩) ?_
  refine js_S rfl rfl (.inl rfl) (xv_faddr fl50_1 rfl ⟨rfl, rfl⟩) ?_
  refine js_R0 rfl rfl (.inl rfl) (xv_load1 ty3 rfl rfl (by ((repeat first|exact z_0|assumption|refine z_1 ?_|(refine z_l ?_;(repeat first|exact z_0|assumption|refine z_1 ?_);done)|refine z_r ?_);done)) (by rfl) ⟨rfl, rfl⟩) ?_
  refine js_S rfl rfl (.inl rfl) (xv_move rfl ⟨rfl, rfl⟩) ?_
  refine js_S rfl rfl (.inl rfl) (xv_add rfl rfl (wrap_i64 (by (first|omega|(dsimp only at *;omega)|(simp at *;omega))) (by (first|omega|(dsimp only at *;omega)|(simp at *;omega)))) ⟨rfl, rfl⟩) ?_
  refine js_O0 rfl rfl (.inl rfl) (xv_calls rfl hb80 (growSlice_c (by ((repeat first|exact z_0|assumption|refine z_1 ?_|(refine z_l ?_;(repeat first|exact z_0|assumption|refine z_1 ?_);done)|refine z_r ?_);done)) hx h1 h0 hn (fun b9 cap9 sp9 hc9 hsp9 hmx9 => up_ret ?_)))
  refine js_S rfl rfl (.inl rfl) (xv_nilp rfl ⟨rfl, rfl⟩) ?_
  refine js_S rfl rfl (.inl rfl) (xv_faddr fl50_0 rfl ⟨rfl, rfl⟩) ?_
  refine js_O0 rfl rfl (.inl rfl) (xv_s1 ty23 rfl rfl rfl (by (first|(apply u_3;(repeat first|exact u_0|assumption|apply u_1|apply u_2);done)|((repeat first|exact u_0|assumption|apply u_1|apply u_2);done)|(apply u_3;apply u_3;(repeat first|exact u_0|assumption|apply u_1|apply u_2);done)|((repeat first|exact u_0|assumption|apply u_3|apply u_1);done))) (by (first | rfl | exact Vec.one _ _)) (by simp) rfl ?_)
  refine j_end0 ?_
  refine th_n ?_
  refine xc_seq (xc_region ?_)
  refine xr_op rfl rfl (xv_move rfl ?_)
  refine xr_op rfl rfl (xv_nilp rfl ?_)
  refine xr_op rfl rfl (xv_faddr fl50_1 rfl ?_)
  refine xr_op rfl rfl (xv_s1 ty3 rfl rfl rfl (by (first|(apply u_3;(repeat first|exact u_0|assumption|apply u_1|apply u_2);done)|((repeat first|exact u_0|assumption|apply u_1|apply u_2);done)|(apply u_3;apply u_3;(repeat first|exact u_0|assumption|apply u_1|apply u_2);done)|((repeat first|exact u_0|assumption|apply u_3|apply u_1);done))) (by (first | rfl | exact Vec.one _ _)) (by simp) rfl ?_)
  refine xr_end rfl ?_
  refine th_n ?_
  refine xc_seq (xc_region ?_)
  refine xr_op rfl rfl (xv_move rfl ?_)
  refine xr_op rfl rfl (xv_move rfl ?_)
  refine xr_op rfl rfl (xv_nilp rfl ?_)
  refine xr_op rfl rfl (xv_faddr fl50_0 rfl ?_)
  refine xr_op rfl rfl (xv_load1 ty23 rfl rfl (by ((repeat first|exact z_0|assumption|refine z_1 ?_|(refine z_l ?_;(repeat first|exact z_0|assumption|refine z_1 ?_);done)|refine z_r ?_);done)) (by rfl) ?_)
  refine xr_op rfl rfl (xv_move rfl ?_)
  refine xr_op rfl rfl (xv_move rfl ?_)
  refine xr_op rfl rfl (xv_add rfl rfl (wrap_i64 (by (first|omega|(dsimp only at *;omega)|(simp at *;omega))) (by (first|omega|(dsimp only at *;omega)|(simp at *;omega)))) ?_)
  refine xr_op rfl rfl (xv_sliceToN (m := n + 1) sl23 ty5 rfl rfl (by omega) (by omega) (by omega) ?_)
  refine xr_op rfl rfl (xv_nilp rfl ?_)
  refine xr_op rfl rfl (xv_faddr fl50_0 rfl ?_)
  refine xr_op rfl rfl (xv_s1 ty23 rfl rfl rfl (by (first|(apply u_3;(repeat first|exact u_0|assumption|apply u_1|apply u_2);done)|((repeat first|exact u_0|assumption|apply u_1|apply u_2);done)|(apply u_3;apply u_3;(repeat first|exact u_0|assumption|apply u_1|apply u_2);done)|((repeat first|exact u_0|assumption|apply u_3|apply u_1);done))) (by (first | rfl | exact Vec.one _ _)) (by simp) rfl ?_)
  refine xr_end rfl ?_
  refine th_n ?_
  refine xc_seq (xc_region ?_)
  refine xr_op rfl rfl (xv_move rfl ?_)
  refine xr_op rfl rfl (xv_assign rfl ?_)
  refine xr_end rfl ?_
  refine th_n ?_
  refine xc_ret ?_
  refine body_ret (h' := ((b9, .cells ⟨xs ++ sp9⟩ 5) :: (b, .cells ⟨.slice (some ⟨b9, 0, none⟩) (n + 1) cap9 :: I 0 :: rest⟩ 52) :: h)) rfl (ro_tmp rfl ro_nil) (by (first|((repeat first|exact s_0|exact s_1|exact s_3|refine s_4 ?_|refine s_5 ?_|refine s_6 ?_|refine s_7 ?_);done)|((repeat first|exact s_0|exact s_1|exact s_3|refine s_4 ?_|refine s_5 ?_|refine s_6 ?_|refine s_8 ?_);done))) ?_
  exact H b9 cap9 sp9 hc9 hsp9 hmx9

end Go.Proofs.YtlpkiolopelpfaaDoor

/-
  Walks.
-/
namespace Go.Proofs.YtlpkiolopelpfaaDoor
open Go Go.H
set_option maxRecDepth 100000
set_option maxHeartbeats 8000000
set_option linter.all false
theorem wb0_c {b : Nat} {c : Int} {u w : Value} {h : Hp} {R : Ending → Hp → Prop} (H : ∀ b9 sp, List.length sp = 63 → R (.returned .nilIface) ((b9, .cells ⟨U8 c :: sp⟩ 5) :: (b, .cells ⟨[.slice (some ⟨b9, 0, none⟩) 1 64, I 0, .int .i8 0, u, w]⟩ 52) :: h)) : ACalls Tryd.prog 52 ⟨[.pointer (some ⟨b, 0, none⟩), U8 c]⟩ ((b, .cells ⟨[.slice none 0 0, I 0, .int .i8 0, u, w]⟩ 52) :: h) R := by
  refine calls_of_xc (N := 26) Tryd.func52 rfl (by rfl) ?_
  refine xc_seq (xc_region ?_)
  refine xr_op rfl rfl (xv_assign rfl ?_)
  refine xr_end rfl ?_
  refine th_n ?_
  refine xc_seq (xc_region ?_)
  refine xr_op rfl rfl (xv_move rfl ?_)
  refine xr_op rfl rfl (xv_nilp rfl ?_)
  refine xr_op rfl rfl (xv_faddr fl50_2 rfl ?_)
  refine xr_op rfl rfl (xv_s1 ty48 rfl rfl rfl (by (first|(apply u_3;(repeat first|exact u_0|assumption|apply u_1|apply u_2);done)|((repeat first|exact u_0|assumption|apply u_1|apply u_2);done)|(apply u_3;apply u_3;(repeat first|exact u_0|assumption|apply u_1|apply u_2);done)|((repeat first|exact u_0|assumption|apply u_3|apply u_1);done))) (by (first | rfl | exact Vec.one _ _)) (by (first | decide | exact Nat.le_of_ble_eq_true rfl | (simp only [List.length_cons, List.length_nil]; omega) | (simp; done))) (by ((try apply evl_some rfl);(repeat (first|exact (rfl : _ = [])|apply evl_cons rfl (by (first|exact v_1|exact v_2|exact v_3|exact v_4|exact v_5|exact v_6|exact v_7|exact v_8|exact v_9|exact rfl))|exact rfl)))) ?_)
  refine xr_end rfl ?_
  refine th_n ?_
  refine xc_seq (xc_region ?_)
  refine xr_op rfl rfl (xv_move rfl ?_)
  refine xr_op rfl rfl (xv_calls rfl hb69 (try_c (n := 0) (c := 0) (rest := I 0 :: [.int .i8 0, u, w]) (by omega) (by omega) (fun h9 => absurd h9 (by omega)) (fun hno => up_ret ?_)))
  refine xr_op rfl rfl (xv_move rfl ?_)
  refine xr_op rfl rfl (xv_extract rfl rfl ?_)
  refine xr_op rfl rfl (xv_extract rfl rfl ?_)
  refine xr_op rfl rfl (xv_assign rfl ?_)
  refine xr_op rfl rfl (xv_assign rfl ?_)
  refine xr_end rfl ?_
  refine th_n ?_
  refine xc_seq ?_
  refine xc_seq (xc_region ?_)
  refine xr_op rfl rfl (xv_move rfl ?_)
  refine xr_op rfl rfl (xv_not rfl ?_)
  refine xr_end rfl ?_
  refine th_n ?_
  refine xc_true rfl ?_
  refine xc_region ?_
  refine xr_op rfl rfl (xv_move rfl ?_)
  refine xr_op rfl rfl (xv_calls rfl hb70 (grow0_c (rest := [.int .i8 0, u, w]) (fun b9 l9 hb9n hl9 => up_ret ?_)))
  refine xr_op rfl rfl (xv_assign rfl ?_)
  refine xr_end rfl ?_
  refine th_n ?_
  refine xc_seq (xc_region ?_)
  obtain ⟨y9, sp9, rfl⟩ : ∃ y sp, l9 = y :: sp := by cases l9 with
    | nil => simp at hl9
    | cons y sp => exact ⟨y, sp, rfl⟩
  refine xr_op rfl rfl (xv_move rfl ?_)
  refine xr_op rfl rfl (xv_nilp rfl ?_)
  refine xr_op rfl rfl (xv_faddr fl50_0 rfl ?_)
  refine xr_op rfl rfl (xv_load1 ty23 rfl rfl (by ((repeat first|exact z_0|assumption|refine z_1 ?_|(refine z_l ?_;(repeat first|exact z_0|assumption|refine z_1 ?_);done)|refine z_r ?_);done)) (by rfl) ?_)
  refine xr_op rfl rfl (xv_move rfl ?_)
  refine xr_op rfl rfl (xv_move rfl ?_)
  refine xr_op rfl rfl (xv_ia (sz := 1) (j := 0) sl23 ty5 rfl rfl rfl rfl (by (first|omega|(dsimp only at *;omega)|(simp at *;omega))) (by (first|omega|(dsimp only at *;omega)|(simp at *;omega))) ?_)
  refine xr_op rfl rfl (xv_s1 ty5 rfl rfl rfl (by (first|(apply u_3;(repeat first|exact u_0|assumption|apply u_1|apply u_2);done)|((repeat first|exact u_0|assumption|apply u_1|apply u_2);done)|(apply u_3;apply u_3;(repeat first|exact u_0|assumption|apply u_1|apply u_2);done)|((repeat first|exact u_0|assumption|apply u_3|apply u_1);done))) rfl (by first | (simp; done) | (simp; omega)) rfl ?_)
  refine xr_end rfl ?_
  refine th_n ?_
  refine xc_seq (xc_region ?_)
  refine xr_op rfl rfl (xv_assign rfl ?_)
  refine xr_end rfl ?_
  refine th_n ?_
  refine xc_ret ?_
  refine body_ret (h' := ((b9, .cells ⟨U8 c :: sp9⟩ 5) :: (b, .cells ⟨[.slice (some ⟨b9, 0, none⟩) 1 64, I 0, .int .i8 0, u, w]⟩ 52) :: h)) rfl (ro_tmp rfl ro_nil) (by (first|((repeat first|exact s_0|exact s_1|exact s_3|refine s_4 ?_|refine s_5 ?_|refine s_6 ?_|refine s_7 ?_);done)|((repeat first|exact s_0|exact s_1|exact s_3|refine s_4 ?_|refine s_5 ?_|refine s_6 ?_|refine s_8 ?_);done))) ?_
  exact H b9 sp9 (by simpa using hl9)

theorem wbR_c {b8 n cap : Nat} {xs sp : List Value} {y : Value} {b : Nat} {c : Int} {u w : Value} {h : Hp} {R : Ending → Hp → Prop} (hx : xs.length = n) (hn : n ≤ 1000000) (hc : n + 1 ≤ cap) (hc2 : cap ≤ 9223372036854775807) (H : R (.returned .nilIface) ((b, .cells ⟨[.slice (some ⟨b8, 0, none⟩) (n + 1) cap, I 0, .int .i8 0, u, w]⟩ 52) :: (b8, .cells ⟨xs ++ U8 c :: sp⟩ 5) :: h)) : ACalls Tryd.prog 52 ⟨[.pointer (some ⟨b, 0, none⟩), U8 c]⟩ ((b, .cells ⟨[.slice (some ⟨b8, 0, none⟩) n cap, I 0, .int .i8 0, u, w]⟩ 52) :: (b8, .cells ⟨xs ++ y :: sp⟩ 5) :: h) R := by
  refine calls_of_xc (N := 26) Tryd.func52 rfl (by rfl) ?_
  refine xc_seq (xc_region ?_)
  refine xr_op rfl rfl (xv_assign rfl ?_)
  refine xr_end rfl ?_
  refine th_n ?_
  refine xc_seq (xc_region ?_)
  refine xr_op rfl rfl (xv_move rfl ?_)
  refine xr_op rfl rfl (xv_nilp rfl ?_)
  refine xr_op rfl rfl (xv_faddr fl50_2 rfl ?_)
  refine xr_op rfl rfl (xv_s1 ty48 rfl rfl rfl (by (first|(apply u_3;(repeat first|exact u_0|assumption|apply u_1|apply u_2);done)|((repeat first|exact u_0|assumption|apply u_1|apply u_2);done)|(apply u_3;apply u_3;(repeat first|exact u_0|assumption|apply u_1|apply u_2);done)|((repeat first|exact u_0|assumption|apply u_3|apply u_1);done))) (by (first | rfl | exact Vec.one _ _)) (by (first | decide | exact Nat.le_of_ble_eq_true rfl | (simp only [List.length_cons, List.length_nil]; omega) | (simp; done))) (by ((try apply evl_some rfl);(repeat (first|exact (rfl : _ = [])|apply evl_cons rfl (by (first|exact v_1|exact v_2|exact v_3|exact v_4|exact v_5|exact v_6|exact v_7|exact v_8|exact v_9|exact rfl))|exact rfl)))) ?_)
  refine xr_end rfl ?_
  refine th_n ?_
  refine xc_seq (xc_region ?_)
  refine xr_op rfl rfl (xv_move rfl ?_)
  refine xr_op rfl rfl (xv_calls rfl hb69 (try_c (n := n) (c := cap) (rest := I 0 :: [.int .i8 0, u, w]) hc2 (by omega) (H2 := fun h9 => absurd hc h9) (fun hyes => up_ret ?_)))
  refine xr_op rfl rfl (xv_move rfl ?_)
  refine xr_op rfl rfl (xv_extract rfl rfl ?_)
  refine xr_op rfl rfl (xv_extract rfl rfl ?_)
  refine xr_op rfl rfl (xv_assign rfl ?_)
  refine xr_op rfl rfl (xv_assign rfl ?_)
  refine xr_end rfl ?_
  refine th_n ?_
  refine xc_seq ?_
  refine xc_seq (xc_region ?_)
  refine xr_op rfl rfl (xv_move rfl ?_)
  refine xr_op rfl rfl (xv_not rfl ?_)
  refine xr_end rfl ?_
  refine th_n ?_
  refine xc_false rfl ?_
  refine xc_skip ?_
  refine th_n ?_
  refine xc_seq (xc_region ?_)
  refine xr_op rfl rfl (xv_move rfl ?_)
  refine xr_op rfl rfl (xv_nilp rfl ?_)
  refine xr_op rfl rfl (xv_faddr fl50_0 rfl ?_)
  refine xr_op rfl rfl (xv_load1 ty23 rfl rfl (by ((repeat first|exact z_0|assumption|refine z_1 ?_|(refine z_l ?_;(repeat first|exact z_0|assumption|refine z_1 ?_);done)|refine z_r ?_);done)) (by rfl) ?_)
  refine xr_op rfl rfl (xv_move rfl ?_)
  refine xr_op rfl rfl (xv_move rfl ?_)
  refine xr_op rfl rfl (xv_ia (sz := 1) (j := n) sl23 ty5 rfl rfl rfl (by (first | assumption | with_reducible exact Int.toNat_natCast _ | with_reducible rfl | rfl)) (by (first|omega|(dsimp only at *;omega)|(simp at *;omega))) (by (first|omega|(dsimp only at *;omega)|(simp at *;omega))) ?_)
  refine xr_op rfl rfl (xv_s1 ty5 rfl rfl rfl (by (first|(apply u_3;(repeat first|exact u_0|assumption|apply u_1|apply u_2);done)|((repeat first|exact u_0|assumption|apply u_1|apply u_2);done)|(apply u_3;apply u_3;(repeat first|exact u_0|assumption|apply u_1|apply u_2);done)|((repeat first|exact u_0|assumption|apply u_3|apply u_1);done))) rfl (by first | (simp; done) | (simp; omega)) (show (xs ++ y :: sp).set (0 + n * 1) (U8 c) = xs ++ U8 c :: sp by subst hx; simp) ?_)
  refine xr_end rfl ?_
  refine th_n ?_
  refine xc_seq (xc_region ?_)
  refine xr_op rfl rfl (xv_assign rfl ?_)
  refine xr_end rfl ?_
  refine th_n ?_
  refine xc_ret ?_
  refine body_ret (h' := ((b, .cells ⟨[.slice (some ⟨b8, 0, none⟩) (n + 1) cap, I 0, .int .i8 0, u, w]⟩ 52) :: (b8, .cells ⟨xs ++ U8 c :: sp⟩ 5) :: h)) rfl (ro_tmp rfl ro_nil) (by (first|((repeat first|exact s_0|exact s_1|exact s_3|refine s_4 ?_|refine s_5 ?_|refine s_6 ?_|refine s_7 ?_);done)|((repeat first|exact s_0|exact s_1|exact s_3|refine s_4 ?_|refine s_5 ?_|refine s_6 ?_|refine s_8 ?_);done))) ?_
  exact H

theorem wbA_c {b8 n : Nat} {xs : List Value} {b : Nat} {c : Int} {u w : Value} {h : Hp} {R : Ending → Hp → Prop} (hx : xs.length = n) (h1 : xs.all Value.oneCell' = true) (h0 : 0 < n) (hn : n ≤ 1000000) (H : ∀ b9 cap sp, n + 1 ≤ cap → List.length sp = cap - (n + 1) → cap ≤ 9223372036854775807 → R (.returned .nilIface) ((b9, .cells ⟨xs ++ U8 c :: sp⟩ 5) :: (b, .cells ⟨[.slice (some ⟨b9, 0, none⟩) (n + 1) cap, I 0, .int .i8 0, u, w]⟩ 52) :: h)) : ACalls Tryd.prog 52 ⟨[.pointer (some ⟨b, 0, none⟩), U8 c]⟩ ((b, .cells ⟨[.slice (some ⟨b8, 0, none⟩) n n, I 0, .int .i8 0, u, w]⟩ 52) :: (b8, .cells ⟨xs⟩ 5) :: h) R := by
  refine calls_of_xc (N := 26) Tryd.func52 rfl (by rfl) ?_
  refine xc_seq (xc_region ?_)
  refine xr_op rfl rfl (xv_assign rfl ?_)
  refine xr_end rfl ?_
  refine th_n ?_
  refine xc_seq (xc_region ?_)
  refine xr_op rfl rfl (xv_move rfl ?_)
  refine xr_op rfl rfl (xv_nilp rfl ?_)
  refine xr_op rfl rfl (xv_faddr fl50_2 rfl ?_)
  refine xr_op rfl rfl (xv_s1 ty48 rfl rfl rfl (by (first|(apply u_3;(repeat first|exact u_0|assumption|apply u_1|apply u_2);done)|((repeat first|exact u_0|assumption|apply u_1|apply u_2);done)|(apply u_3;apply u_3;(repeat first|exact u_0|assumption|apply u_1|apply u_2);done)|((repeat first|exact u_0|assumption|apply u_3|apply u_1);done))) (by (first | rfl | exact Vec.one _ _)) (by (first | decide | exact Nat.le_of_ble_eq_true rfl | (simp only [List.length_cons, List.length_nil]; omega) | (simp; done))) (by ((try apply evl_some rfl);(repeat (first|exact (rfl : _ = [])|apply evl_cons rfl (by (first|exact v_1|exact v_2|exact v_3|exact v_4|exact v_5|exact v_6|exact v_7|exact v_8|exact v_9|exact rfl))|exact rfl)))) ?_)
  refine xr_end rfl ?_
  refine th_n ?_
  refine xc_seq (xc_region ?_)
  refine xr_op rfl rfl (xv_move rfl ?_)
  refine xr_op rfl rfl (xv_calls rfl hb69 (try_c (n := n) (c := n) (rest := I 0 :: [.int .i8 0, u, w]) (by omega) (by omega) (fun h9 => absurd h9 (by omega)) (fun hno => up_ret ?_)))
  refine xr_op rfl rfl (xv_move rfl ?_)
  refine xr_op rfl rfl (xv_extract rfl rfl ?_)
  refine xr_op rfl rfl (xv_extract rfl rfl ?_)
  refine xr_op rfl rfl (xv_assign rfl ?_)
  refine xr_op rfl rfl (xv_assign rfl ?_)
  refine xr_end rfl ?_
  refine th_n ?_
  refine xc_seq ?_
  refine xc_seq (xc_region ?_)
  refine xr_op rfl rfl (xv_move rfl ?_)
  refine xr_op rfl rfl (xv_not rfl ?_)
  refine xr_end rfl ?_
  refine th_n ?_
  refine xc_true rfl ?_
  refine xc_region ?_
  refine xr_op rfl rfl (xv_move rfl ?_)
  refine xr_op rfl rfl (xv_calls rfl hb70 (growA_c (rest := [.int .i8 0, u, w]) hx h1 h0 hn (fun b9 cap9 sp9 hc9 hsp9 hmx9 => up_ret ?_)))
  refine xr_op rfl rfl (xv_assign rfl ?_)
  refine xr_end rfl ?_
  refine th_n ?_
  refine xc_seq (xc_region ?_)
  obtain ⟨y9, sp8, rfl⟩ : ∃ y sp, sp9 = y :: sp := by cases sp9 with
    | nil => simp at hsp9; omega
    | cons y sp => exact ⟨y, sp, rfl⟩
  refine xr_op rfl rfl (xv_move rfl ?_)
  refine xr_op rfl rfl (xv_nilp rfl ?_)
  refine xr_op rfl rfl (xv_faddr fl50_0 rfl ?_)
  refine xr_op rfl rfl (xv_load1 ty23 rfl rfl (by ((repeat first|exact z_0|assumption|refine z_1 ?_|(refine z_l ?_;(repeat first|exact z_0|assumption|refine z_1 ?_);done)|refine z_r ?_);done)) (by rfl) ?_)
  refine xr_op rfl rfl (xv_move rfl ?_)
  refine xr_op rfl rfl (xv_move rfl ?_)
  refine xr_op rfl rfl (xv_ia (sz := 1) (j := n) sl23 ty5 rfl rfl rfl (by (first | assumption | with_reducible exact Int.toNat_natCast _ | with_reducible rfl | rfl)) (by (first|omega|(dsimp only at *;omega)|(simp at *;omega))) (by (first|omega|(dsimp only at *;omega)|(simp at *;omega))) ?_)
  refine xr_op rfl rfl (xv_s1 ty5 rfl rfl rfl (by (first|(apply u_3;(repeat first|exact u_0|assumption|apply u_1|apply u_2);done)|((repeat first|exact u_0|assumption|apply u_1|apply u_2);done)|(apply u_3;apply u_3;(repeat first|exact u_0|assumption|apply u_1|apply u_2);done)|((repeat first|exact u_0|assumption|apply u_3|apply u_1);done))) rfl (by first | (simp; done) | (simp; omega)) (show (xs ++ y9 :: sp8).set (0 + n * 1) (U8 c) = xs ++ U8 c :: sp8 by subst hx; simp) ?_)
  refine xr_end rfl ?_
  refine th_n ?_
  refine xc_seq (xc_region ?_)
  refine xr_op rfl rfl (xv_assign rfl ?_)
  refine xr_end rfl ?_
  refine th_n ?_
  refine xc_ret ?_
  refine body_ret (h' := ((b9, .cells ⟨xs ++ U8 c :: sp8⟩ 5) :: (b, .cells ⟨[.slice (some ⟨b9, 0, none⟩) (n + 1) cap9, I 0, .int .i8 0, u, w]⟩ 52) :: h)) rfl (ro_tmp rfl ro_nil) (by (first|((repeat first|exact s_0|exact s_1|exact s_3|refine s_4 ?_|refine s_5 ?_|refine s_6 ?_|refine s_7 ?_);done)|((repeat first|exact s_0|exact s_1|exact s_3|refine s_4 ?_|refine s_5 ?_|refine s_6 ?_|refine s_8 ?_);done))) ?_
  exact H b9 cap9 sp8 hc9 (by simp only [List.length_cons] at hsp9; omega) hmx9

theorem WriteByte_c {V : Vec} {bs : List Int} {b : Nat} {c : Int} {u w : Value} {h : Hp} {R : Ending → Hp → Prop} (hV : V.ok 1 bs.length (bs.flatMap eB)) (hV0 : bs = [] → V = .nil) (hl : bs.length ≤ 100000) (hcap : V.capOk)
    (H : ∀ V' : Vec, V'.ok 1 (bs.length + 1) ((bs ++ [c]).flatMap eB) → V'.capOk → R (.returned .nilIface) ((b, .cells ⟨[V'.val (bs.length + 1), I 0, .int .i8 0, u, w]⟩ 52) :: (V'.hp 5 ((bs ++ [c]).flatMap eB) ++ h))) :
    ACalls Tryd.prog 52 ⟨[.pointer (some ⟨b, 0, none⟩), U8 c]⟩ ((b, .cells ⟨[V.val bs.length, I 0, .int .i8 0, u, w]⟩ 52) :: (V.hp 5 (bs.flatMap eB) ++ h)) R := by
  have efl : (bs ++ [c]).flatMap eB = bs.flatMap eB ++ [U8 c] := by rw [List.flatMap_append]; rfl
  have hfl := eB_flen bs
  cases V with
  | nil =>
    have hb0 : bs = [] := List.length_eq_zero_iff.1 hV.2
    subst hb0
    refine ACalls.outp (R' := fun e h' => ∃ b9 sp, List.length sp = 63 ∧ e = .returned .nilIface ∧ h' = ((b9, .cells ⟨U8 c :: sp⟩ 5) :: (b, .cells ⟨[.slice (some ⟨b9, 0, none⟩) 1 64, I 0, .int .i8 0, u, w]⟩ 52) :: h)) (wb0_c fun b9 sp hsp => ⟨b9, sp, hsp, rfl, rfl⟩) ?_
    rintro e h' ⟨b9, sp, hsp, rfl, rfl⟩
    exact ⟨_, List.Perm.swap _ _ _, H (.at b9 64 sp) ⟨rfl, by decide, by simp only [List.length_append, efl, hfl, List.length_singleton, List.length_nil]; omega⟩ (by show 64 ≤ _; omega)⟩
  | «at» b8 cap sp =>
    obtain ⟨hx, hc, hsp⟩ := hV
    simp only [Nat.mul_one] at hx hsp
    have h0 : 0 < bs.length := List.length_pos_iff.2 fun hq => by have := hV0 hq; cases this
    by_cases hroom : bs.length + 1 ≤ cap
    · cases sp with
      | nil => rw [List.append_nil] at hsp; omega
      | cons y sp =>
        refine wbR_c (xs := bs.flatMap eB) hx (by omega) hroom hcap ?_
        have := H (.at b8 cap sp) ⟨by rw [efl, List.length_append, hx, Nat.mul_one]; rfl, hroom, by rw [efl]; simp only [List.length_append, List.length_cons, List.length_nil] at hsp ⊢; omega⟩ hcap
        rw [efl] at this
        simp only [Vec.hp, List.append_assoc, List.cons_append, List.nil_append] at this
        exact this
    · obtain rfl : cap = bs.length := by omega
      have hs0 : sp = [] := List.length_eq_zero_iff.1 (by rw [List.length_append] at hsp; omega)
      subst hs0
      rw [show Vec.hp (.at b8 bs.length []) 5 (bs.flatMap eB) = [(b8, .cells ⟨bs.flatMap eB⟩ 5 (0, 0))] by simp [Vec.hp]]
      refine ACalls.outp (R' := fun e h' => ∃ b9 cap sp, bs.length + 1 ≤ cap ∧ List.length sp = cap - (bs.length + 1) ∧ cap ≤ 9223372036854775807 ∧ e = .returned .nilIface ∧ h' = ((b9, .cells ⟨bs.flatMap eB ++ U8 c :: sp⟩ 5) :: (b, .cells ⟨[.slice (some ⟨b9, 0, none⟩) (bs.length + 1) cap, I 0, .int .i8 0, u, w]⟩ 52) :: h)) (wbA_c (xs := bs.flatMap eB) hx (flat_all eB_1 bs) h0 (by omega) fun b9 cap sp h1 h2 h3 => ⟨b9, cap, sp, h1, h2, h3, rfl, rfl⟩) ?_
      rintro e h' ⟨b9, cap, sp, h1, h2, h3, rfl, rfl⟩
      have := H (.at b9 cap sp) ⟨by rw [efl, List.length_append, hx, Nat.mul_one]; rfl, h1, by rw [efl]; simp only [List.length_append, List.length_cons, List.length_nil]; omega⟩ h3
      rw [efl] at this
      simp only [Vec.hp, List.append_assoc, List.cons_append, List.nil_append] at this
      exact ⟨_, List.Perm.swap _ _ _, this⟩

end Go.Proofs.YtlpkiolopelpfaaDoor

/-
  Walks.
-/
namespace Go.Proofs.YtlpkiolopelpfaaDoor
open Go Go.H
set_option maxRecDepth 100000
set_option maxHeartbeats 8000000
set_option linter.all false
theorem half_c {b : Nat} {V : Vec} {p : Pen} {h : Hp} {R : Ending → Hp → Prop} (hp : PenV V p) (hl : p.bs.length < 100000) {x : Nat} (hx : x < 16) (H : ∀ V2 : Vec, PenV V2 (p.half x) → R (.returned (.tuple #[])) ((b, .cells ⟨penL V2 (p.half x)⟩ 52) :: (V2.hp 5 (Pen.bs (p.half x) |>.flatMap eB) ++ h))) : ACalls Tryd.prog 23 ⟨[.pointer (some ⟨b, 0, none⟩), U8 x]⟩ ((b, .cells ⟨penL V p⟩ 52) :: (V.hp 5 (Pen.bs p |>.flatMap eB) ++ h)) R := by
  refine calls_of_xc (N := 31) Tryd.func23 rfl (by rfl) ?_
  obtain ⟨bs, up, wt⟩ := p
  have hup := hp.pok.up
  have hpk := hp.ok
  have hpn := hp.nil
  have hpc := hp.cap
  dsimp only at hl hup hpk hpn
  unfold penL
  refine xc_seq ?_
  refine xc_seq (xc_region ?_)
  cases wt
  · refine xr_op rfl rfl (xv_move rfl ?_)
    refine xr_op rfl rfl (xv_nilp rfl ?_)
    refine xr_op rfl rfl (xv_faddr fl52_2 rfl ?_)
    refine xr_op rfl rfl (xv_load1 ty4 rfl rfl (by ((repeat first|exact z_0|assumption|refine z_1 ?_|(refine z_l ?_;(repeat first|exact z_0|assumption|refine z_1 ?_);done)|refine z_r ?_);done)) (by rfl) ?_)
    refine xr_end rfl ?_
    refine th_n ?_
    refine xc_false rfl ?_
    refine xc_skip ?_
    refine th_n ?_
    refine xc_region ?_
    refine xr_op rfl rfl (xv_move rfl ?_)
    refine xr_op rfl rfl (xv_move rfl ?_)
    refine xr_op rfl rfl (xv_move rfl ?_)
    refine xr_op rfl rfl (xv_move rfl ?_)
    refine xr_op rfl rfl (xv_nilp rfl ?_)
    refine xr_op rfl rfl (xv_faddr fl52_2 rfl ?_)
    refine xr_op rfl rfl (xv_load1 ty4 rfl rfl (by ((repeat first|exact z_0|assumption|refine z_1 ?_|(refine z_l ?_;(repeat first|exact z_0|assumption|refine z_1 ?_);done)|refine z_r ?_);done)) (by rfl) ?_)
    refine xr_op rfl rfl (xv_not rfl ?_)
    refine xr_op rfl rfl (xv_nilp rfl ?_)
    refine xr_op rfl rfl (xv_faddr fl52_1 rfl ?_)
    refine xr_op rfl rfl (xv_s1 ty5 rfl rfl rfl (by (first|(apply u_3;(repeat first|exact u_0|assumption|apply u_1|apply u_2);done)|((repeat first|exact u_0|assumption|apply u_1|apply u_2);done)|(apply u_3;apply u_3;(repeat first|exact u_0|assumption|apply u_1|apply u_2);done)|((repeat first|exact u_0|assumption|apply u_3|apply u_1);done))) (by (first | rfl | exact Vec.one _ _)) (by (first | decide | exact Nat.le_of_ble_eq_true rfl | (simp only [List.length_cons, List.length_nil]; omega) | (simp; done))) (by ((try apply evl_some rfl);(repeat (first|exact (rfl : _ = [])|apply evl_cons rfl (by (first|exact v_1|exact v_2|exact v_3|exact v_4|exact v_5|exact v_6|exact v_7|exact v_8|exact v_9|exact rfl))|exact rfl)))) ?_)
    refine xr_op rfl rfl (xv_nilp rfl ?_)
    refine xr_op rfl rfl (xv_faddr fl52_2 rfl ?_)
    refine xr_op rfl rfl (xv_s1 ty4 rfl rfl rfl (by (first|(apply u_3;(repeat first|exact u_0|assumption|apply u_1|apply u_2);done)|((repeat first|exact u_0|assumption|apply u_1|apply u_2);done)|(apply u_3;apply u_3;(repeat first|exact u_0|assumption|apply u_1|apply u_2);done)|((repeat first|exact u_0|assumption|apply u_3|apply u_1);done))) (by (first | rfl | exact Vec.one _ _)) (by (first | decide | exact Nat.le_of_ble_eq_true rfl | (simp only [List.length_cons, List.length_nil]; omega) | (simp; done))) (by ((try apply evl_some rfl);(repeat (first|exact (rfl : _ = [])|apply evl_cons rfl (by (first|exact v_1|exact v_2|exact v_3|exact v_4|exact v_5|exact v_6|exact v_7|exact v_8|exact v_9|exact rfl))|exact rfl)))) ?_)
    refine xr_end rfl ?_
    refine body_end (h' := _) rfl ro_nil (by (first|((repeat first|exact s_0|exact s_1|exact s_3|refine s_4 ?_|refine s_5 ?_|refine s_6 ?_|refine s_7 ?_);done)|((repeat first|exact s_0|exact s_1|exact s_3|refine s_4 ?_|refine s_5 ?_|refine s_6 ?_|refine s_8 ?_);done))) ?_
    first | (have h9 := H V9 (PenV.halfT hp hl hx hV9 hc9); rw [show Pen.half ⟨bs, up, true⟩ x = ⟨bs ++ [((16 * up + x : Nat) : Int)], x, false⟩ from rfl] at h9; unfold penL at h9; simp only [List.length_append, List.length_singleton] at h9; exact h9) | exact H V (PenV.halfF hp hx)
  · refine xr_op rfl rfl (xv_move rfl ?_)
    refine xr_op rfl rfl (xv_nilp rfl ?_)
    refine xr_op rfl rfl (xv_faddr fl52_2 rfl ?_)
    refine xr_op rfl rfl (xv_load1 ty4 rfl rfl (by ((repeat first|exact z_0|assumption|refine z_1 ?_|(refine z_l ?_;(repeat first|exact z_0|assumption|refine z_1 ?_);done)|refine z_r ?_);done)) (by rfl) ?_)
    refine xr_end rfl ?_
    refine th_n ?_
    refine xc_true rfl ?_
    refine xc_draw0 [(0, .S), (1, .S), (2, .S), (3, .S), (4, .S), (5, .S), (6, .R), (7, .S), (8, .S), (9, .S), (10, .O)] mixed (by kernel_rfl) ?_
    refine js_S rfl rfl (.inl rfl) (xv_move rfl ⟨rfl, rfl⟩) ?_
    refine js_S rfl rfl (.inl rfl) (xv_nilp rfl ⟨rfl, rfl⟩) ?_
    refine js_S rfl rfl (.inl rfl) (xv_faddr fl52_0 rfl ⟨rfl, rfl⟩) ?_
    refine js_S rfl rfl (.inl rfl) (xv_move rfl ⟨rfl, rfl⟩) ?_
    refine js_S rfl rfl (.inl rfl) (xv_nilp rfl ⟨rfl, rfl⟩) ?_
    refine js_S rfl rfl (.inl rfl) (xv_faddr fl52_1 rfl ⟨rfl, rfl⟩) ?_
    refine js_R0 rfl rfl (.inl rfl) (xv_load1 ty5 rfl rfl (by ((repeat first|exact z_0|assumption|refine z_1 ?_|(refine z_l ?_;(repeat first|exact z_0|assumption|refine z_1 ?_);done)|refine z_r ?_);done)) (by rfl) ⟨rfl, rfl⟩) ?_
    refine js_S rfl rfl (.inl rfl) (xv_shlK (s := 4) rfl rfl (by decide) rfl ⟨rfl, rfl⟩) ?_
    refine js_S rfl rfl (.inl rfl) (xv_move rfl ⟨rfl, rfl⟩) ?_
    refine js_S rfl rfl (.inl rfl) (xv_orK (c := ((16 * up + x : Nat) : Int)) rfl rfl (bits_or hup hx) ⟨rfl, rfl⟩) ?_
    refine js_O0 rfl rfl (.inl rfl) (xv_calls rfl hb52 (WriteByte_c (V := V) (bs := bs) hpk hpn (by omega) hpc (fun V9 hV9 hc9 => up_ret ?_)))
    refine j_end0 ?_
    refine th_n ?_
    refine xc_region ?_
    refine xr_op rfl rfl (xv_move rfl ?_)
    refine xr_op rfl rfl (xv_move rfl ?_)
    refine xr_op rfl rfl (xv_move rfl ?_)
    refine xr_op rfl rfl (xv_move rfl ?_)
    refine xr_op rfl rfl (xv_nilp rfl ?_)
    refine xr_op rfl rfl (xv_faddr fl52_2 rfl ?_)
    refine xr_op rfl rfl (xv_load1 ty4 rfl rfl (by ((repeat first|exact z_0|assumption|refine z_1 ?_|(refine z_l ?_;(repeat first|exact z_0|assumption|refine z_1 ?_);done)|refine z_r ?_);done)) (by rfl) ?_)
    refine xr_op rfl rfl (xv_not rfl ?_)
    refine xr_op rfl rfl (xv_nilp rfl ?_)
    refine xr_op rfl rfl (xv_faddr fl52_1 rfl ?_)
    refine xr_op rfl rfl (xv_s1 ty5 rfl rfl rfl (by (first|(apply u_3;(repeat first|exact u_0|assumption|apply u_1|apply u_2);done)|((repeat first|exact u_0|assumption|apply u_1|apply u_2);done)|(apply u_3;apply u_3;(repeat first|exact u_0|assumption|apply u_1|apply u_2);done)|((repeat first|exact u_0|assumption|apply u_3|apply u_1);done))) (by (first | rfl | exact Vec.one _ _)) (by (first | decide | exact Nat.le_of_ble_eq_true rfl | (simp only [List.length_cons, List.length_nil]; omega) | (simp; done))) (by ((try apply evl_some rfl);(repeat (first|exact (rfl : _ = [])|apply evl_cons rfl (by (first|exact v_1|exact v_2|exact v_3|exact v_4|exact v_5|exact v_6|exact v_7|exact v_8|exact v_9|exact rfl))|exact rfl)))) ?_)
    refine xr_op rfl rfl (xv_nilp rfl ?_)
    refine xr_op rfl rfl (xv_faddr fl52_2 rfl ?_)
    refine xr_op rfl rfl (xv_s1 ty4 rfl rfl rfl (by (first|(apply u_3;(repeat first|exact u_0|assumption|apply u_1|apply u_2);done)|((repeat first|exact u_0|assumption|apply u_1|apply u_2);done)|(apply u_3;apply u_3;(repeat first|exact u_0|assumption|apply u_1|apply u_2);done)|((repeat first|exact u_0|assumption|apply u_3|apply u_1);done))) (by (first | rfl | exact Vec.one _ _)) (by (first | decide | exact Nat.le_of_ble_eq_true rfl | (simp only [List.length_cons, List.length_nil]; omega) | (simp; done))) (by ((try apply evl_some rfl);(repeat (first|exact (rfl : _ = [])|apply evl_cons rfl (by (first|exact v_1|exact v_2|exact v_3|exact v_4|exact v_5|exact v_6|exact v_7|exact v_8|exact v_9|exact rfl))|exact rfl)))) ?_)
    refine xr_end rfl ?_
    refine body_end (h' := _) rfl ro_nil (by (first|((repeat first|exact s_0|exact s_1|exact s_3|refine s_4 ?_|refine s_5 ?_|refine s_6 ?_|refine s_7 ?_);done)|((repeat first|exact s_0|exact s_1|exact s_3|refine s_4 ?_|refine s_5 ?_|refine s_6 ?_|refine s_8 ?_);done))) ?_
    first | (have h9 := H V9 (PenV.halfT hp hl hx hV9 hc9); rw [show Pen.half ⟨bs, up, true⟩ x = ⟨bs ++ [((16 * up + x : Nat) : Int)], x, false⟩ from rfl] at h9; unfold penL at h9; simp only [List.length_append, List.length_singleton] at h9; exact h9) | exact H V (PenV.halfF hp hx)

end Go.Proofs.YtlpkiolopelpfaaDoor

/-
  Walks.
-/
namespace Go.Proofs.YtlpkiolopelpfaaDoor
open Go Go.H
set_option maxRecDepth 100000
set_option maxHeartbeats 8000000
set_option linter.all false
theorem number_c {b : Nat} : ∀ n : Nat, ∀ {V : Vec} {p : Pen} {more : Nat} {h : Hp} {R : Ending → Hp → Prop} (hp : PenV V p) (hm : more = 0 ∨ more = 8) (hl : p.bs.length + (octs n more).length ≤ 100000) (hn : n ≤ 4611686018427387904)
    (H : ∀ V2 : Vec, PenV V2 (p.halves (octs n more)) → R (.returned (.tuple #[])) ((b, .cells ⟨penL V2 (p.halves (octs n more))⟩ 52) :: (V2.hp 5 (Pen.bs (p.halves (octs n more)) |>.flatMap eB) ++ h))), ACalls Tryd.prog 51 ⟨[.pointer (some ⟨b, 0, none⟩), I n, U8 more]⟩ ((b, .cells ⟨penL V p⟩ 52) :: (V.hp 5 (Pen.bs p |>.flatMap eB) ++ h)) R := by
  intro n
  induction n using Nat.strongRecOn
  rename_i n ih
  intro V p more h R hp hm hl hn H
  refine calls_of_xc (N := 19) Tryd.func51 rfl (by rfl) ?_
  refine xc_seq ?_
  refine xc_seq (xc_region ?_)
  refine xr_op rfl rfl (xv_move rfl ?_)
  refine xr_op rfl rfl (xv_geq2 rfl rfl (fun q1 => ?_) (fun q1 => ?_))
  · refine xr_end rfl ?_
    refine th_n ?_
    refine xc_true rfl ?_
    refine xc_region ?_
    refine xr_op rfl rfl (xv_move rfl ?_)
    refine xr_op rfl rfl (xv_move rfl ?_)
    refine xr_op rfl rfl (xv_quo (c := ((n / 8 : Nat) : Int)) rfl rfl (by decide) (by rw [show ((n : Int)).tdiv 8 = ((n / 8 : Nat) : Int) from rfl]; exact wrap_i64 (by omega) (by omega)) ?_)
    refine xr_op rfl rfl (xv_calls rfl hb51 (ih (n / 8) (by omega) (p := p) (more := 8) hp (.inr rfl) (by have := octs_big (more := more) (show 8 ≤ n by omega); have e9 := congrArg List.length this; rw [List.length_append, List.length_singleton] at e9; omega) (by omega) (fun V9 hp9 => up_ret ?_)))
    refine xr_end rfl ?_
    refine th_n ?_
    refine xc_region ?_
    refine xr_op rfl rfl (xv_move rfl ?_)
    refine xr_op rfl rfl (xv_move rfl ?_)
    refine xr_op rfl rfl (xv_rem (c := ((n % 8 : Nat) : Int)) rfl rfl (by decide) rfl ?_)
    refine xr_op rfl rfl (xv_convI (m := ((n % 8 : Nat) : Int)) Tryd.underlying3 Tryd.underlying5 rfl (by rw [IntKind.wrap_u8]; omega) ?_)
    refine xr_op rfl rfl (xv_move rfl ?_)
    refine xr_op rfl rfl (xv_orK (c := ((n % 8 + more : Nat) : Int)) rfl rfl (bits_or8 (by omega) hm) ?_)
    refine xr_op rfl rfl (xv_calls rfl hb23 (half_c (p := p.halves (octs (n / 8) 8)) hp9 (by have h8 := (p.halves_len (octs (n / 8) 8)).1; have := octs_big (more := more) (show 8 ≤ n by omega); have e9 := congrArg List.length this; rw [List.length_append, List.length_singleton] at e9; omega) (x := n % 8 + more) (by omega) (fun V8 hp8 => up_ret ?_)))
    refine xr_end rfl ?_
    refine body_end (h' := _) rfl ro_nil (by (first|((repeat first|exact s_0|exact s_1|exact s_3|refine s_4 ?_|refine s_5 ?_|refine s_6 ?_|refine s_7 ?_);done)|((repeat first|exact s_0|exact s_1|exact s_3|refine s_4 ?_|refine s_5 ?_|refine s_6 ?_|refine s_8 ?_);done))) ?_
    first | (have h9 := H V8; rw [octs_big (more := more) (show 8 ≤ n by omega), Pen.halves_app] at h9; exact h9 hp8) | (have h9 := H V8; rw [octs_small (more := more) (show ¬ 8 ≤ n by omega)] at h9; exact h9 hp8)
  · refine xr_end rfl ?_
    refine th_n ?_
    refine xc_false rfl ?_
    refine xc_skip ?_
    refine th_n ?_
    refine xc_region ?_
    refine xr_op rfl rfl (xv_move rfl ?_)
    refine xr_op rfl rfl (xv_move rfl ?_)
    refine xr_op rfl rfl (xv_rem (c := ((n % 8 : Nat) : Int)) rfl rfl (by decide) rfl ?_)
    refine xr_op rfl rfl (xv_convI (m := ((n % 8 : Nat) : Int)) Tryd.underlying3 Tryd.underlying5 rfl (by rw [IntKind.wrap_u8]; omega) ?_)
    refine xr_op rfl rfl (xv_move rfl ?_)
    refine xr_op rfl rfl (xv_orK (c := ((n % 8 + more : Nat) : Int)) rfl rfl (bits_or8 (by omega) hm) ?_)
    refine xr_op rfl rfl (xv_calls rfl hb23 (half_c hp (by have := octs_small (more := more) (show ¬ 8 ≤ n by omega); have e9 := congrArg List.length this; rw [List.length_singleton] at e9; omega) (x := n % 8 + more) (by omega) (fun V8 hp8 => up_ret ?_)))
    refine xr_end rfl ?_
    refine body_end (h' := _) rfl ro_nil (by (first|((repeat first|exact s_0|exact s_1|exact s_3|refine s_4 ?_|refine s_5 ?_|refine s_6 ?_|refine s_7 ?_);done)|((repeat first|exact s_0|exact s_1|exact s_3|refine s_4 ?_|refine s_5 ?_|refine s_6 ?_|refine s_8 ?_);done))) ?_
    first | (have h9 := H V8; rw [octs_big (more := more) (show 8 ≤ n by omega), Pen.halves_app] at h9; exact h9 hp8) | (have h9 := H V8; rw [octs_small (more := more) (show ¬ 8 ≤ n by omega)] at h9; exact h9 hp8)

end Go.Proofs.YtlpkiolopelpfaaDoor
