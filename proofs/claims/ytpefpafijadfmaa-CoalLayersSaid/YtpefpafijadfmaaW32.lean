/-
  Walks.
-/
import Derived.Test.YtpefpafijadfmaaW3
import Derived.Test.YtpefpafijadfmaaP24
namespace Go.Proofs.Ytpefpafijadfmaa
open Go Go.H
set_option maxRecDepth 100000
set_option maxHeartbeats 8000000
set_option linter.all false
theorem eMove_1 (x : Move) : (eMove x).all Value.oneCell' = true := rfl
theorem vec_updA {α : Type} {enc : α → List Value} {sz : Nat} (henc : ∀ x, (enc x).length = sz) {V : Vec} {n : Nat} {xs ys : List α} {t : TypeId} (hV : V.ok sz n (xs.flatMap enc)) (h0 : 0 < n) (hl : ys.length = xs.length) : ∃ b sp, V.ad = some ⟨b, 0, none⟩ ∧ (b, Obj.cells ⟨xs.flatMap enc ++ sp⟩ t (0, 0)) ∈ V.hp t (xs.flatMap enc) ∧
    Upd (V.hp t (xs.flatMap enc)) b (.cells ⟨xs.flatMap enc ++ sp⟩ t (0, 0)) (.cells ⟨ys.flatMap enc ++ sp⟩ t (0, 0)) (V.hp t (ys.flatMap enc)) ∧ V.ok sz n (ys.flatMap enc) := by
  cases V with
  | nil => exact absurd hV.2 (by omega)
  | «at» b cap sp =>
    obtain ⟨h1, h2, h3⟩ := hV
    refine ⟨b, sp, rfl, List.mem_cons_self, .here, ?_, h2, ?_⟩
    · rw [flat_lenM henc] at h1 ⊢; rw [hl]; exact h1
    · rw [List.length_append, flat_lenM henc] at h3 ⊢; rw [hl]; exact h3
theorem LeftX_c {y : Yard} {h : Hp} {R : Ending → Hp → Prop} (hy : YardV h y) (hs : Small y) (H0 : ∀ a c e G, e ≠ 0 → R (.returned (.tuple ⟨[.slice a 0 c, I e]⟩)) (G ++ h))
    (H1 : ∀ vs Q a c G, GoodYard y → vecsR y = some vs → Q = nzF (roomR y.coals.length y.moves y.moves.length vs) (opn y.moves).1 → SlV G 2 ePart a Q → R (.returned (.tuple ⟨[.slice a Q.length c, I 0]⟩)) (G ++ h)) : ACalls Try.prog 21 ⟨[.agg ⟨eYard y⟩]⟩ h R := by
  refine Left_c hy hs fun a c G hsl => ?_
  by_cases hg : GoodYard y
  · cases hv : vecsR y with
    | none => rw [leftA_10 hg hv]; exact H0 a c 10 G (by decide)
    | some vs =>
      rw [leftA_0 hg hv] at hsl ⊢
      exact H1 vs _ a c G hg hv rfl hsl
  · rw [leftA_1 hg]; exact H0 a c 1 G (by decide)
theorem DrawnP_c {y : Yard} {l : List Value} {h : Hp} {R : Ending → Hp → Prop} (hl : eYard y = l) (hy : YardV h y) (hs : Small y) {draw : Int} {P : List Part} (he : drawnA y draw = (P, 0))
    (H : ∀ a c G, SlV G 2 ePart a P → R (.returned (.tuple ⟨[.slice a P.length c, I 0]⟩)) (G ++ h)) : ACalls Try.prog 19 ⟨[.agg ⟨l⟩, I draw]⟩ h R := by
  subst hl
  refine Drawn_c hy hs ?_
  rw [he]; exact H
theorem BlendZ_c {y : Yard} {l : List Value} {h : Hp} {R : Ending → Hp → Prop} {draw : Int} {B : List Span × Int} (hl : eYard y = l) (hB : blendA y draw = B) (hy : YardV h y) (hs : Small y) (H : ∀ a c G, SlV G 2 eSpan a B.1 → R (.returned (.tuple ⟨[.slice a B.1.length c, I B.2]⟩)) (G ++ h)) : ACalls Try.prog 11 ⟨[.agg ⟨l⟩, I draw]⟩ h R := by
  subst hl hB
  exact Blend_c hy hs H
theorem YieldZ_c {y : Yard} {l : List Value} {h : Hp} {R : Ending → Hp → Prop} {f t w : Int} {B : Span × Int} (hl : eYard y = l) (hB : yieldA y f t w = B) (hy : YardV h y) (hs : Small y) (H : R (.returned (.tuple ⟨[.agg ⟨eSpan B.1⟩, I B.2]⟩)) h) : ACalls Try.prog 13 ⟨[.agg ⟨l⟩, I f, I t, I w]⟩ h R := by
  subst hl hB
  exact Yield_c hy hs H
theorem blend_ok {y : Yard} {draw : Int} {vs : List (List Int)} (hg : GoodYard y) (hv : vecsR y = some vs) (h : (blendA y draw).2 = 0) : 0 ≤ draw ∧ draw ≤ (vs.length : Int) - 1 := by
  by_cases hd : 0 ≤ draw ∧ draw ≤ (vs.length : Int) - 1
  · exact hd
  · rw [blendA_2 hg hv hd] at h; exact absurd h (by decide)

theorem CoalLayers_c {y : Yard} {draw what : Int} {nw : Nat} {h : Hp} {R : Ending → Hp → Prop} (hy : YardV h y) (hcl : y.coals.length ≤ 9223372036854775807) (hml : y.moves.length ≤ 9223372036854775807) (hmc : y.moves.length ≤ y.mc) (h2 : nw ≤ 255) (H : R (.returned (.bool true)) h) : ACalls Try.prog 8 ⟨[.agg ⟨eYard y⟩, I draw, .int .u8 (nw : Int), I what]⟩ h R := by
  refine calls_of_xc (N := 261) Try.func8 rfl (by rfl) ?_
  refine xc_seq (xc_region ?_)
  refine xr_op rfl rfl (xv_box rfl (fun b4 hb4 => ?_))
  refine xr_op rfl rfl (xv_assign rfl ?_)
  refine xr_end rfl ?_
  refine th_n ?_
  refine xc_seq ?_
  refine xc_seq (xc_region ?_)
  refine xr_op rfl rfl (xv_loadA ty25 rfl rfl (by ((repeat first|exact z_0|assumption|refine z_1 ?_|(refine z_l ?_;(repeat first|exact z_0|assumption|refine z_1 ?_);done)|refine z_r ?_);done)) (by ((try apply evl_some rfl);(repeat (first|exact (rfl : _ = [])|apply evl_cons rfl (by (first|exact v_1|exact v_2|exact v_3|exact v_4|exact v_5|exact v_6|exact v_7|exact v_8|exact v_9|exact rfl))|exact rfl)))) (by rfl) ?_)
  refine xr_op rfl rfl (xv_calls rfl hb9 (large_c (hy.sub (by intro z hz; ((repeat first|exact z_0|assumption|refine z_1 ?_|(refine z_l ?_;(repeat first|exact z_0|assumption|refine z_1 ?_);done)|refine z_r ?_);done))) hcl hml (fun hlg => up_ret ?_) (fun hl1 hl2 => up_ret ?_)))
  · refine xr_op rfl rfl (xv_move rfl ?_)
    refine xr_no rfl rfl rfl rfl ?_
    refine xr_no rfl rfl rfl rfl ?_
    refine xr_no rfl rfl rfl rfl ?_
    refine xr_no rfl rfl rfl rfl ?_
    refine xr_op rfl rfl (xv_pick rfl rfl ?_)
    refine xr_end rfl ?_
    refine th_n ?_
    refine xc_true rfl ?_
    refine xc_seq (xc_region ?_)
    refine xr_op rfl rfl (xv_calls rfl hb10 (awake_c (up_ret ?_)))
    refine xr_op rfl rfl (xv_assign rfl ?_)
    refine xr_end rfl ?_
    refine th_n ?_
    refine xc_ret ?_
    refine th_r ?_
    refine body_ret (h' := h) rfl (ro_tmp rfl ro_nil) (by (first|((repeat first|exact s_0|exact s_1|exact s_3|refine s_4 ?_|refine s_5 ?_|refine s_6 ?_|refine s_7 ?_);done)|((repeat first|exact s_0|exact s_1|exact s_3|refine s_4 ?_|refine s_5 ?_|refine s_6 ?_|refine s_8 ?_);done))) ?_
    first | exact H | (exfalso; omega)
  · refine xr_op rfl rfl (xv_move rfl ?_)
    refine xr_gd rfl rfl rfl (xv_faddr fl25_1 rfl ?_)
    refine xr_gd rfl rfl rfl (xv_load1 ty23 rfl rfl (by ((repeat first|exact z_0|assumption|refine z_1 ?_|(refine z_l ?_;(repeat first|exact z_0|assumption|refine z_1 ?_);done)|refine z_r ?_);done)) (by rfl) ?_)
    refine xr_gd rfl rfl rfl (xv_len sl23 rfl ?_)
    refine xr_gd rfl rfl rfl (xv_lss2 rfl rfl (fun q1 => ?_) (fun q1 => ?_))
    · refine xr_op rfl rfl (xv_pick rfl rfl ?_)
      refine xr_end rfl ?_
      refine th_n ?_
      refine xc_true rfl ?_
      refine xc_seq (xc_region ?_)
      refine xr_op rfl rfl (xv_calls rfl hb10 (awake_c (up_ret ?_)))
      refine xr_op rfl rfl (xv_assign rfl ?_)
      refine xr_end rfl ?_
      refine th_n ?_
      refine xc_ret ?_
      refine th_r ?_
      refine body_ret (h' := h) rfl (ro_tmp rfl ro_nil) (by (first|((repeat first|exact s_0|exact s_1|exact s_3|refine s_4 ?_|refine s_5 ?_|refine s_6 ?_|refine s_7 ?_);done)|((repeat first|exact s_0|exact s_1|exact s_3|refine s_4 ?_|refine s_5 ?_|refine s_6 ?_|refine s_8 ?_);done))) ?_
      first | exact H | (exfalso; omega)
    · refine xr_op rfl rfl (xv_pick rfl rfl ?_)
      refine xr_end rfl ?_
      refine th_n ?_
      refine xc_false rfl ?_
      refine xc_skip ?_
      refine th_n ?_
      refine xc_seq (xc_region ?_)
      refine xr_op rfl rfl (xv_loadA ty25 rfl rfl (by ((repeat first|exact z_0|assumption|refine z_1 ?_|(refine z_l ?_;(repeat first|exact z_0|assumption|refine z_1 ?_);done)|refine z_r ?_);done)) (by ((try apply evl_some rfl);(repeat (first|exact (rfl : _ = [])|apply evl_cons rfl (by (first|exact v_1|exact v_2|exact v_3|exact v_4|exact v_5|exact v_6|exact v_7|exact v_8|exact v_9|exact rfl))|exact rfl)))) (by rfl) ?_)
      refine xr_op rfl rfl (xv_calls rfl hb21 (LeftX_c (hy.sub (by intro z hz; ((repeat first|exact z_0|assumption|refine z_1 ?_|(refine z_l ?_;(repeat first|exact z_0|assumption|refine z_1 ?_);done)|refine z_r ?_);done))) (⟨by omega, by omega⟩ : Small y) (fun a9 c9 e9 G9 he => up_ret ?_) (fun vs Q a1 c1 G1 hgy hvs hQ s1 => up_ret ?_)))
      · refine xr_op rfl rfl (xv_move rfl ?_)
        refine xr_op rfl rfl (xv_extract rfl rfl ?_)
        refine xr_op rfl rfl (xv_extract rfl rfl ?_)
        refine xr_op rfl rfl (xv_assign rfl ?_)
        refine xr_op rfl rfl (xv_assign rfl ?_)
        refine xr_end rfl ?_
        refine th_n ?_
        refine xc_seq ?_
        refine xc_seq (xc_region ?_)
        refine xr_op rfl rfl (xv_move rfl ?_)
        refine xr_op rfl rfl (xv_neqT rfl rfl he ?_)
        refine xr_end rfl ?_
        refine th_n ?_
        refine xc_true rfl ?_
        refine xc_seq (xc_region ?_)
        refine xr_op rfl rfl (xv_move rfl ?_)
        refine xr_op rfl rfl (xv_len sl39 rfl ?_)
        refine xr_op rfl rfl (xv_eqlT rfl rfl rfl ?_)
        refine xr_op rfl rfl (xv_move rfl ?_)
        refine xr_gd rfl rfl rfl (xv_calls rfl hb10 (awake_c (up_ret ?_)))
        refine xr_op rfl rfl (xv_pick rfl rfl ?_)
        refine xr_op rfl rfl (xv_assign rfl ?_)
        refine xr_end rfl ?_
        refine th_n ?_
        refine xc_ret ?_
        refine th_r ?_
        refine body_ret (h' := h) rfl (ro_tmp rfl ro_nil) (by (first|((repeat first|exact s_0|exact s_1|exact s_3|refine s_4 ?_|refine s_5 ?_|refine s_6 ?_|refine s_7 ?_);done)|((repeat first|exact s_0|exact s_1|exact s_3|refine s_4 ?_|refine s_5 ?_|refine s_6 ?_|refine s_8 ?_);done))) ?_
        first | exact H | (exfalso; omega)
      · refine xr_op rfl rfl (xv_move rfl ?_)
        refine xr_op rfl rfl (xv_extract rfl rfl ?_)
        refine xr_op rfl rfl (xv_extract rfl rfl ?_)
        refine xr_op rfl rfl (xv_assign rfl ?_)
        refine xr_op rfl rfl (xv_assign rfl ?_)
        refine xr_end rfl ?_
        refine th_n ?_
        refine xc_seq ?_
        refine xc_seq (xc_region ?_)
        refine xr_op rfl rfl (xv_move rfl ?_)
        refine xr_op rfl rfl (xv_neqF rfl rfl rfl ?_)
        refine xr_end rfl ?_
        refine th_n ?_
        refine xc_false rfl ?_
        refine xc_skip ?_
        refine th_n ?_
        refine xc_seq (xc_region ?_)
        obtain ⟨hg1, hmv, ⟨hn1, hn6⟩, hm32⟩ := id hgy
        have hop := opn_le y.moves
        have hvc := parts_cnt y.moves.length vs (Nat.le_refl _) hvs
        have hP := (parts_all hmv y.moves.length vs (Nat.le_refl _) hvs).1
        refine xr_op rfl rfl (xv_loadA ty25 rfl rfl (by ((repeat first|exact z_0|assumption|refine z_1 ?_|(refine z_l ?_;(repeat first|exact z_0|assumption|refine z_1 ?_);done)|refine z_r ?_);done)) (by ((try apply evl_some rfl);(repeat (first|exact (rfl : _ = [])|apply evl_cons rfl (by (first|exact v_1|exact v_2|exact v_3|exact v_4|exact v_5|exact v_6|exact v_7|exact v_8|exact v_9|exact rfl))|exact rfl)))) (by rfl) ?_)
        refine xr_op rfl rfl (xv_move rfl ?_)
        refine xr_op rfl rfl (xv_calls rfl hb11 (Blend_c (hy.sub (by intro z hz; ((repeat first|exact z_0|assumption|refine z_1 ?_|(refine z_l ?_;(repeat first|exact z_0|assumption|refine z_1 ?_);done)|refine z_r ?_);done))) (⟨by omega, by omega⟩ : Small y) (fun a2 c2 G2 s2 => up_ret ?_)))
        refine xr_op rfl rfl (xv_move rfl ?_)
        refine xr_op rfl rfl (xv_extract rfl rfl ?_)
        refine xr_op rfl rfl (xv_extract rfl rfl ?_)
        refine xr_op rfl rfl (xv_assign rfl ?_)
        refine xr_op rfl rfl (xv_assign rfl ?_)
        refine xr_end rfl ?_
        refine th_n ?_
        refine xc_seq (xc_region ?_)
        refine xr_op rfl rfl (xv_loadA ty25 rfl rfl (by ((repeat first|exact z_0|assumption|refine z_1 ?_|(refine z_l ?_;(repeat first|exact z_0|assumption|refine z_1 ?_);done)|refine z_r ?_);done)) (by ((try apply evl_some rfl);(repeat (first|exact (rfl : _ = [])|apply evl_cons rfl (by (first|exact v_1|exact v_2|exact v_3|exact v_4|exact v_5|exact v_6|exact v_7|exact v_8|exact v_9|exact rfl))|exact rfl)))) (by rfl) ?_)
        refine xr_op rfl rfl (xv_move rfl ?_)
        refine xr_op rfl rfl (xv_move rfl ?_)
        refine xr_op rfl rfl (xv_calls rfl hb13 (Yield_c (hy.sub (by intro z hz; ((repeat first|exact z_0|assumption|refine z_1 ?_|(refine z_l ?_;(repeat first|exact z_0|assumption|refine z_1 ?_);done)|refine z_r ?_);done))) (⟨by omega, by omega⟩ : Small y) (up_ret ?_)))
        refine xr_op rfl rfl (xv_move rfl ?_)
        refine xr_op rfl rfl (xv_extract rfl rfl ?_)
        refine xr_op rfl rfl (xv_extract rfl rfl ?_)
        refine xr_op rfl rfl (xv_alloc ty33 (fun d13 hd13 => ?_))
        refine xr_op rfl rfl (xv_s ty33 rfl rfl (by (first|(apply u_3;(repeat first|exact u_0|assumption|apply u_1|apply u_2);done)|((repeat first|exact u_0|assumption|apply u_1|apply u_2);done)|(apply u_3;apply u_3;(repeat first|exact u_0|assumption|apply u_1|apply u_2);done)|((repeat first|exact u_0|assumption|apply u_3|apply u_1);done))) (by ((try apply evl_some rfl);(repeat (first|exact (rfl : _ = [])|apply evl_cons rfl (by (first|exact v_1|exact v_2|exact v_3|exact v_4|exact v_5|exact v_6|exact v_7|exact v_8|exact v_9|exact rfl))|exact rfl)))) (by rfl) (by rfl) (by rfl) (by ((try apply evl_some rfl);(repeat (first|exact (rfl : _ = [])|apply evl_cons rfl (by (first|exact v_1|exact v_2|exact v_3|exact v_4|exact v_5|exact v_6|exact v_7|exact v_8|exact v_9|exact rfl))|exact rfl)))) ?_)
        refine xr_op rfl rfl (xv_assign rfl ?_)
        refine xr_end rfl ?_
        refine th_n ?_
        refine xc_seq (xc_region ?_)
        obtain ⟨im, him⟩ : ∃ m : Nat, nw % (y.moves.length - 1) = m := ⟨_, rfl⟩
        have hil : im < y.moves.length - 1 := by rw [← him]; exact Nat.mod_lt _ (by omega)
        obtain ⟨i, hi⟩ : ∃ i, i = im + 1 := ⟨_, rfl⟩
        have hlto : (i - 1) < y.moves.length := by omega
        obtain ⟨bo, oo, lo, to, fzo, hao, hmo, hxo⟩ := (hy.moves).at hlto
        obtain ⟨xo, hko⟩ : ∃ qq_, y.moves[(i - 1)]? = some qq_ := ⟨_, List.getElem?_eq_getElem hlto⟩
        have hltp : i < y.moves.length := by omega
        obtain ⟨bp, op, lp, tp, fzp, hap, hmp, hxp⟩ := (hy.moves).at hltp
        obtain ⟨xp, hkp⟩ : ∃ qq_, y.moves[i]? = some qq_ := ⟨_, List.getElem?_eq_getElem hltp⟩
        refine xr_op rfl rfl (xv_move rfl ?_)
        refine xr_op rfl rfl (xv_convI Try.underlying5 Try.underlying3 rfl (wrap_i64 (by (first|omega|(dsimp only at *;omega)|(simp at *;omega))) (by (first|omega|(dsimp only at *;omega)|(simp at *;omega)))) ?_)
        refine xr_op rfl rfl (xv_faddr fl25_1 rfl ?_)
        refine xr_op rfl rfl (xv_load1 ty23 rfl rfl (by ((repeat first|exact z_0|assumption|refine z_1 ?_|(refine z_l ?_;(repeat first|exact z_0|assumption|refine z_1 ?_);done)|refine z_r ?_);done)) (by rfl) ?_)
        refine xr_op rfl rfl (xv_len sl23 rfl ?_)
        refine xr_op rfl rfl (xv_sub rfl rfl (wrap_i64 (by (first|omega|(dsimp only at *;omega)|(simp at *;omega))) (by (first|omega|(dsimp only at *;omega)|(simp at *;omega)))) ?_)
        refine xr_op rfl rfl (xv_rem (c := (im : Int)) rfl rfl (by (first|omega|(dsimp only at *;omega)|(simp at *;omega))) (by rw [← him, show ((y.moves.length : Int) - 1) = ((y.moves.length - 1 : Nat) : Int) by omega]; rfl) ?_)
        refine xr_op rfl rfl (xv_add (c := (i : Int)) rfl rfl (by rw [hi, show (1 : Int) + (im : Int) = ((im + 1 : Nat) : Int) by omega]; exact wrap_i64 (by omega) (by omega)) ?_)
        refine xr_op rfl rfl (xv_assign rfl ?_)
        refine xr_end rfl ?_
        refine th_n ?_
        refine xc_seq ?_
        refine xc_drawX0 [(7, [(b4, fun o => o = .cells ⟨eYard y⟩ 25 (0, 0))]), (10, [(bo, fun o => o = .cells ⟨lo⟩ to fzo)])] [(0, .S), (1, .R), (2, .S), (3, .S), (4, .S), (5, .R), (6, .S), (7, .S), (8, .S), (9, .S), (10, .S), (11, .P), (12, .P), (11, .A), (12, .A), (13, .O), (14, .O)] mixed (by kernel_rfl) (iv_cons (holds1 (by ((repeat first|exact z_0|assumption|refine z_1 ?_|(refine z_l ?_;(repeat first|exact z_0|assumption|refine z_1 ?_);done)|refine z_r ?_);done)) rfl) (iv_cons (holds1 (by ((repeat first|exact z_0|assumption|refine z_1 ?_|(refine z_l ?_;(repeat first|exact z_0|assumption|refine z_1 ?_);done)|refine z_r ?_);done)) rfl) iv_nil)) ?_
        refine jx_S rfl rfl (.inl rfl) (xv_faddr fl25_1 rfl ⟨rfl, rfl⟩) ?_
        refine jx_R rfl rfl (.inl rfl) (xv_load1 ty23 rfl rfl (by ((repeat first|exact z_0|assumption|refine z_1 ?_|(refine z_l ?_;(repeat first|exact z_0|assumption|refine z_1 ?_);done)|refine z_r ?_);done)) (by rfl) ⟨rfl, rfl⟩) ?_
        refine jx_S rfl rfl (.inl rfl) (xv_move rfl ⟨rfl, rfl⟩) ?_
        refine jx_S rfl rfl (.inl rfl) (xv_sub rfl rfl (wrap_i64 (by (first|omega|(dsimp only at *;omega)|(simp at *;omega))) (by (first|omega|(dsimp only at *;omega)|(simp at *;omega)))) ⟨rfl, rfl⟩) ?_
        refine jx_S rfl rfl (.inl rfl) (xv_ia (sz := 3) (j := i - 1) sl23 ty63 rfl (by rw [hao]; rfl) rfl (by (first|omega|(dsimp only at *;omega)|(simp at *;omega))) (by (first|omega|(dsimp only at *;omega)|(simp at *;omega))) (by (first|omega|(dsimp only at *;omega)|(simp at *;omega))) ⟨rfl, rfl⟩) ?_
        refine jx_R rfl rfl (.inl rfl) (xv_loadA ty63 rfl rfl (by ((repeat first|exact z_0|assumption|refine z_1 ?_|(refine z_l ?_;(repeat first|exact z_0|assumption|refine z_1 ?_);done)|refine z_r ?_);done)) (hxo (i - 1) xo hko) rfl ⟨rfl, rfl⟩) ?_
        refine jx_S rfl rfl (.inl rfl) (xv_faddr fl25_1 rfl ⟨rfl, rfl⟩) ?_
        refine jx_I rfl rfl (.inl rfl) (fun hh hv => by have hv2 : Holds [(b4, fun o => o = .cells ⟨eYard y⟩ 25 (0, 0))] hh := hv; obtain ⟨o9, hm9, e9⟩ := hv2 _ _ List.mem_cons_self; subst e9; exact xv_load1 ty23 rfl rfl hm9 rfl ⟨rfl, rfl⟩) ?_
        refine jx_S rfl rfl (.inl rfl) (xv_move rfl ⟨rfl, rfl⟩) ?_
        refine jx_S rfl rfl (.inl rfl) (xv_ia (sz := 3) (j := i) sl23 ty63 rfl (by rw [hao]; rfl) rfl (by (first | assumption | with_reducible exact Int.toNat_natCast _ | with_reducible rfl | rfl)) (by (first|omega|(dsimp only at *;omega)|(simp at *;omega))) (by (first|omega|(dsimp only at *;omega)|(simp at *;omega))) ⟨rfl, rfl⟩) ?_
        refine jx_I rfl rfl (.inl rfl) (fun hh hv => by have hv2 : Holds [(bo, fun o => o = .cells ⟨lo⟩ to fzo)] hh := hv; obtain ⟨o9, hm9, e9⟩ := hv2 _ _ List.mem_cons_self; subst e9; exact xv_loadA ty63 rfl rfl hm9 (hxo i xp hkp) rfl ⟨rfl, rfl⟩) ?_
        refine jx_P rfl rfl rfl (al_alloc ty63) ?_
        refine jx_P rfl rfl rfl (al_alloc ty63) ?_
        refine jx_A rfl rfl rfl rfl rfl trivial (fun b16 hb16 => ?_)
        refine jx_A rfl rfl rfl rfl rfl trivial (fun b17 hb17 => ?_)
        refine jx_O rfl rfl (.inl rfl) (xv_s ty63 rfl rfl (by (first|(apply u_3;(repeat first|exact u_0|assumption|apply u_1|apply u_2);done)|((repeat first|exact u_0|assumption|apply u_1|apply u_2);done)|(apply u_3;apply u_3;(repeat first|exact u_0|assumption|apply u_1|apply u_2);done)|((repeat first|exact u_0|assumption|apply u_3|apply u_1);done))) (by ((try apply evl_some rfl);(repeat (first|exact (rfl : _ = [])|apply evl_cons rfl (by (first|exact v_1|exact v_2|exact v_3|exact v_4|exact v_5|exact v_6|exact v_7|exact v_8|exact v_9|exact rfl))|exact rfl)))) (by rfl) (by rfl) (by rfl) (by ((try apply evl_some rfl);(repeat (first|exact (rfl : _ = [])|apply evl_cons rfl (by (first|exact v_1|exact v_2|exact v_3|exact v_4|exact v_5|exact v_6|exact v_7|exact v_8|exact v_9|exact rfl))|exact rfl)))) ?_)
        refine ⟨(kp_in (holds1 (by ((repeat first|exact z_0|assumption|refine z_1 ?_|(refine z_l ?_;(repeat first|exact z_0|assumption|refine z_1 ?_);done)|refine z_r ?_);done)) rfl) (kp_in (holds1 (by ((repeat first|exact z_0|assumption|refine z_1 ?_|(refine z_l ?_;(repeat first|exact z_0|assumption|refine z_1 ?_);done)|refine z_r ?_);done)) rfl) kp_nil)), ?_⟩
        refine jx_O rfl rfl (.inl rfl) (xv_s ty63 rfl rfl (by (first|(apply u_3;(repeat first|exact u_0|assumption|apply u_1|apply u_2);done)|((repeat first|exact u_0|assumption|apply u_1|apply u_2);done)|(apply u_3;apply u_3;(repeat first|exact u_0|assumption|apply u_1|apply u_2);done)|((repeat first|exact u_0|assumption|apply u_3|apply u_1);done))) (by ((try apply evl_some rfl);(repeat (first|exact (rfl : _ = [])|apply evl_cons rfl (by (first|exact v_1|exact v_2|exact v_3|exact v_4|exact v_5|exact v_6|exact v_7|exact v_8|exact v_9|exact rfl))|exact rfl)))) (by rfl) (by rfl) (by rfl) (by ((try apply evl_some rfl);(repeat (first|exact (rfl : _ = [])|apply evl_cons rfl (by (first|exact v_1|exact v_2|exact v_3|exact v_4|exact v_5|exact v_6|exact v_7|exact v_8|exact v_9|exact rfl))|exact rfl)))) ?_)
        refine ⟨(kp_go (by kernel_rfl) (kp_go (by kernel_rfl) kp_nil)), ?_⟩
        refine jx_end ?_
        refine th_n ?_
        refine xc_join (σ := Unit) (fun _u => True) (fun _u => (((((emp.put (some 1) (I draw)).put (some 4) (.pointer (some ⟨b4, 0, none⟩))).put (some 9) (.slice a1 Q.length c1)).put (some 12) (I (blendA y draw).2)).put (some 14) (I (yieldA y 0 draw what).2))) (fun _u => ((d13, .cells ⟨[I (yieldA y 0 draw what).1.lo, I (yieldA y 0 draw what).1.hi]⟩ 33) :: (G2 ++ (G1 ++ (b4, .cells ⟨eYard y⟩ 25) :: h)))) ?_ ?_
        · refine xc_seq (xc_region ?_)
          refine xr_op rfl rfl (xv_faddr fl63_1 rfl ?_)
          refine xr_op rfl rfl (xv_load1 ty3 rfl rfl (by ((repeat first|exact z_0|assumption|refine z_1 ?_|(refine z_l ?_;(repeat first|exact z_0|assumption|refine z_1 ?_);done)|refine z_r ?_);done)) (by rfl) ?_)
          refine xr_op rfl rfl (xv_neq2 rfl rfl (fun q4 => ?_) (fun q4 => ?_))
          · refine xr_op rfl rfl (xv_move rfl ?_)
            refine xr_gd rfl rfl rfl (xv_faddr fl63_1 rfl ?_)
            refine xr_gd rfl rfl rfl (xv_load1 ty3 rfl rfl (by ((repeat first|exact z_0|assumption|refine z_1 ?_|(refine z_l ?_;(repeat first|exact z_0|assumption|refine z_1 ?_);done)|refine z_r ?_);done)) (by rfl) ?_)
            refine xr_gd rfl rfl rfl (xv_neq2 rfl rfl (fun q5 => ?_) (fun q5 => ?_))
            · refine xr_op rfl rfl (xv_pick rfl rfl ?_)
              refine xr_op rfl rfl (xv_move rfl ?_)
              refine xr_gd rfl rfl rfl (xv_faddr fl63_0 rfl ?_)
              refine xr_gd rfl rfl rfl (xv_load1 ty3 rfl rfl (by ((repeat first|exact z_0|assumption|refine z_1 ?_|(refine z_l ?_;(repeat first|exact z_0|assumption|refine z_1 ?_);done)|refine z_r ?_);done)) (by rfl) ?_)
              refine xr_gd rfl rfl rfl (xv_faddr fl63_0 rfl ?_)
              refine xr_gd rfl rfl rfl (xv_load1 ty3 rfl rfl (by ((repeat first|exact z_0|assumption|refine z_1 ?_|(refine z_l ?_;(repeat first|exact z_0|assumption|refine z_1 ?_);done)|refine z_r ?_);done)) (by rfl) ?_)
              refine xr_gd rfl rfl rfl (xv_eql2 rfl rfl (fun q6 => ?_) (fun q6 => ?_))
              · refine xr_op rfl rfl (xv_pick rfl rfl ?_)
                refine xr_end rfl ?_
                refine th_n ?_
                refine xc_true rfl ?_
                refine xc_seq (xc_region ?_)
                refine xr_op rfl rfl (xv_loadA ty25 rfl rfl (by ((repeat first|exact z_0|assumption|refine z_1 ?_|(refine z_l ?_;(repeat first|exact z_0|assumption|refine z_1 ?_);done)|refine z_r ?_);done)) (by ((try apply evl_some rfl);(repeat (first|exact (rfl : _ = [])|apply evl_cons rfl (by (first|exact v_1|exact v_2|exact v_3|exact v_4|exact v_5|exact v_6|exact v_7|exact v_8|exact v_9|exact rfl))|exact rfl)))) (by rfl) ?_)
                refine xr_op rfl rfl (xv_alloc ty25 (fun b18 hb18 => ?_))
                refine xr_op rfl rfl (xv_s ty25 rfl rfl (by (first|(apply u_3;(repeat first|exact u_0|assumption|apply u_1|apply u_2);done)|((repeat first|exact u_0|assumption|apply u_1|apply u_2);done)|(apply u_3;apply u_3;(repeat first|exact u_0|assumption|apply u_1|apply u_2);done)|((repeat first|exact u_0|assumption|apply u_3|apply u_1);done))) (by ((try apply evl_some rfl);(repeat (first|exact (rfl : _ = [])|apply evl_cons rfl (by (first|exact v_1|exact v_2|exact v_3|exact v_4|exact v_5|exact v_6|exact v_7|exact v_8|exact v_9|exact rfl))|exact rfl)))) (by rfl) (by rfl) (by rfl) (by ((try apply evl_some rfl);(repeat (first|exact (rfl : _ = [])|apply evl_cons rfl (by (first|exact v_1|exact v_2|exact v_3|exact v_4|exact v_5|exact v_6|exact v_7|exact v_8|exact v_9|exact rfl))|exact rfl)))) ?_)
                refine xr_end rfl ?_
                refine th_n ?_
                refine xc_seq (xc_region ?_)
                refine xr_op rfl rfl ((al_buildSlice sl23 ty63 rfl rfl rfl rfl rfl (by ((try apply evl_some rfl);(repeat (first|exact (rfl : _ = [])|apply evl_cons rfl (by (first|exact v_1|exact v_2|exact v_3|exact v_4|exact v_5|exact v_6|exact v_7|exact v_8|exact v_9|exact rfl))|exact rfl))))).xv (fun b106 hb106 => ?_))
                refine xr_op rfl rfl (xv_faddr fl25_1 rfl ?_)
                refine xr_op rfl rfl (xv_load1 ty23 rfl rfl (by ((repeat first|exact z_0|assumption|refine z_1 ?_|(refine z_l ?_;(repeat first|exact z_0|assumption|refine z_1 ?_);done)|refine z_r ?_);done)) (by rfl) ?_)
                refine xr_op rfl rfl (xv_dup (enc := eMove) (ys := y.moves) sl23 ty63 rfl rfl rfl rfl rfl (hy.moves.sub (by intro z hz; ((repeat first|exact z_0|assumption|refine z_1 ?_|(refine z_l ?_;(repeat first|exact z_0|assumption|refine z_1 ?_);done)|refine z_r ?_);done))) eMove_len eMove_1 (by simp only []; omega) (by omega) (fun X hX => ?_))
                refine xr_op rfl rfl (xv_faddr fl25_1 rfl ?_)
                refine xr_op rfl rfl (xv_s1 ty23 rfl rfl rfl (by (first|(apply u_3;(repeat first|exact u_0|assumption|apply u_1|apply u_2);done)|((repeat first|exact u_0|assumption|apply u_1|apply u_2);done)|(apply u_3;apply u_3;(repeat first|exact u_0|assumption|apply u_1|apply u_2);done)|((repeat first|exact u_0|assumption|apply u_3|apply u_1);done))) (by (first | rfl | exact Vec.one _ _)) (by (first | decide | exact Nat.le_of_ble_eq_true rfl | (simp only [List.length_cons, List.length_nil]; omega) | (simp; done))) (by ((try apply evl_some rfl);(repeat (first|exact (rfl : _ = [])|apply evl_cons rfl (by (first|exact v_1|exact v_2|exact v_3|exact v_4|exact v_5|exact v_6|exact v_7|exact v_8|exact v_9|exact rfl))|exact rfl)))) ?_)
                refine xr_end rfl ?_
                refine th_n ?_
                refine xc_seq ?_
                refine xc_drawX0 [(5, [(b18, fun o => o = .cells ⟨[.slice y.ca y.coals.length y.cc, .slice X.ad y.moves.length X.cp]⟩ 25 (0, 0))]), (8, [(b16, fun o => o = .cells ⟨[I xo.hour, I xo.coal, I xo.tons]⟩ 63 (0, 0))])] [(0, .S), (1, .R), (2, .S), (3, .S), (4, .S), (5, .S), (6, .S), (7, .R), (8, .S), (9, .S), (10, .O), (11, .S), (12, .O)] mixed (by kernel_rfl) (iv_cons (holds1 (by ((repeat first|exact z_0|assumption|refine z_1 ?_|(refine z_l ?_;(repeat first|exact z_0|assumption|refine z_1 ?_);done)|refine z_r ?_);done)) rfl) (iv_cons (holds1 (by ((repeat first|exact z_0|assumption|refine z_1 ?_|(refine z_l ?_;(repeat first|exact z_0|assumption|refine z_1 ?_);done)|refine z_r ?_);done)) rfl) iv_nil)) ?_
                obtain ⟨bv, sv, hva, hvm, hu1, hX1⟩ := vec_updA (t := 63) eMove_len (ys := y.moves.set (i - 1) xp) hX (by omega) (by rw [List.length_set])
                obtain ⟨bv2, sv2, hva2, hvm2, hu2, hX2⟩ := vec_updA (t := 63) eMove_len (xs := y.moves.set (i - 1) xp) (ys := (y.moves.set (i - 1) xp).set i xo) hX1 (by omega) (by rw [List.length_set])
                obtain rfl : bv2 = bv := by rw [hva] at hva2; cases hva2; rfl
                have hS := sameY_of (ma := X.ad) (mc := X.cp) hgy (by omega) hko hkp (by (first|omega|(dsimp only at *;omega)|(simp at *;omega))) (by (first|omega|(dsimp only at *;omega)|(simp at *;omega))) (by (first|omega|(dsimp only at *;omega)|(simp at *;omega)))
                have hbl := hS.blend hgy draw
                have hyl := hS.yield hgy 0 draw what
                have hez : eYard ⟨y.ca, y.cc, y.coals, X.ad, X.cp, (y.moves.set (i - 1) xp).set i xo⟩ = [.slice y.ca y.coals.length y.cc, .slice X.ad y.moves.length X.cp] := by simp [eYard]
                refine jx_S rfl rfl (.inl rfl) (xv_faddr fl25_1 rfl ⟨rfl, rfl⟩) ?_
                refine jx_R rfl rfl (.inl rfl) (xv_load1 ty23 rfl rfl (by ((repeat first|exact z_0|assumption|refine z_1 ?_|(refine z_l ?_;(repeat first|exact z_0|assumption|refine z_1 ?_);done)|refine z_r ?_);done)) (by rfl) ⟨rfl, rfl⟩) ?_
                refine jx_S rfl rfl (.inl rfl) (xv_move rfl ⟨rfl, rfl⟩) ?_
                refine jx_S rfl rfl (.inl rfl) (xv_sub rfl rfl (wrap_i64 (by (first|omega|(dsimp only at *;omega)|(simp at *;omega))) (by (first|omega|(dsimp only at *;omega)|(simp at *;omega)))) ⟨rfl, rfl⟩) ?_
                refine jx_S rfl rfl (.inl rfl) (xv_faddr fl25_1 rfl ⟨rfl, rfl⟩) ?_
                refine jx_I rfl rfl (.inl rfl) (fun hh hv => by have hv2 : Holds [(b18, fun o => o = .cells ⟨[.slice y.ca y.coals.length y.cc, .slice X.ad y.moves.length X.cp]⟩ 25 (0, 0))] hh := hv; obtain ⟨o9, hm9, e9⟩ := hv2 _ _ List.mem_cons_self; subst e9; exact xv_load1 ty23 rfl rfl hm9 rfl ⟨rfl, rfl⟩) ?_
                refine jx_S rfl rfl (.inl rfl) (xv_move rfl ⟨rfl, rfl⟩) ?_
                refine jx_R rfl rfl (.inl rfl) (xv_loadA ty63 rfl rfl (by ((repeat first|exact z_0|assumption|refine z_1 ?_|(refine z_l ?_;(repeat first|exact z_0|assumption|refine z_1 ?_);done)|refine z_r ?_);done)) (by ((try apply evl_some rfl);(repeat (first|exact (rfl : _ = [])|apply evl_cons rfl (by (first|exact v_1|exact v_2|exact v_3|exact v_4|exact v_5|exact v_6|exact v_7|exact v_8|exact v_9|exact rfl))|exact rfl)))) (by rfl) ⟨rfl, rfl⟩) ?_
                refine jx_I rfl rfl (.inl rfl) (fun hh hv => by have hv2 : Holds [(b16, fun o => o = .cells ⟨[I xo.hour, I xo.coal, I xo.tons]⟩ 63 (0, 0))] hh := hv; obtain ⟨o9, hm9, e9⟩ := hv2 _ _ List.mem_cons_self; subst e9; exact xv_loadA ty63 rfl rfl hm9 rfl rfl ⟨rfl, rfl⟩) ?_
                refine jx_S rfl rfl (.inl rfl) (xv_ia (sz := 3) (j := i - 1) sl23 ty63 rfl (by rw [hva]; rfl) rfl (by (first|omega|(dsimp only at *;omega)|(simp at *;omega))) (by (first|omega|(dsimp only at *;omega)|(simp at *;omega))) (by (first|omega|(dsimp only at *;omega)|(simp at *;omega))) ⟨rfl, rfl⟩) ?_
                refine jx_O rfl rfl (.inl rfl) (xv_s (l := y.moves.flatMap eMove ++ sv) (l' := (y.moves.set (i - 1) xp).flatMap eMove ++ sv) (vs := eMove xp) ty63 rfl rfl (by (first|(apply u_3;(repeat first|exact u_0|assumption|apply u_1|apply u_2);done)|((repeat first|exact u_0|assumption|apply u_1|apply u_2);done)|(apply u_3;apply u_3;(repeat first|exact u_0|assumption|apply u_1|apply u_2);done)|((repeat first|exact u_0|assumption|apply u_3|apply u_1);done))) rfl rfl rfl (Nat.ble_eq_true_of_le (by rw [List.length_append, flat_lenM eMove_len]; dsimp only; omega)) (splice_flat eMove_len sv y.moves (i - 1) (by omega)) ?_)
                refine ⟨(kp_in (holds1 (by ((repeat first|exact z_0|assumption|refine z_1 ?_|(refine z_l ?_;(repeat first|exact z_0|assumption|refine z_1 ?_);done)|refine z_r ?_);done)) rfl) (kp_in (holds1 (by ((repeat first|exact z_0|assumption|refine z_1 ?_|(refine z_l ?_;(repeat first|exact z_0|assumption|refine z_1 ?_);done)|refine z_r ?_);done)) rfl) kp_nil)), ?_⟩
                refine jx_S rfl rfl (.inl rfl) (xv_ia (sz := 3) (j := i) sl23 ty63 rfl (by rw [hva]; rfl) rfl (by (first | assumption | with_reducible exact Int.toNat_natCast _ | with_reducible rfl | rfl)) (by (first|omega|(dsimp only at *;omega)|(simp at *;omega))) (by (first|omega|(dsimp only at *;omega)|(simp at *;omega))) ⟨rfl, rfl⟩) ?_
                refine jx_O rfl rfl (.inl rfl) (xv_s (l := (y.moves.set (i - 1) xp).flatMap eMove ++ sv2) (l' := ((y.moves.set (i - 1) xp).set i xo).flatMap eMove ++ sv2) (vs := eMove xo) ty63 rfl rfl (by (first|(apply u_3;(repeat first|exact u_0|assumption|apply u_1|apply u_2);done)|((repeat first|exact u_0|assumption|apply u_1|apply u_2);done)|(apply u_3;apply u_3;(repeat first|exact u_0|assumption|apply u_1|apply u_2);done)|((repeat first|exact u_0|assumption|apply u_3|apply u_1);done))) rfl rfl rfl (Nat.ble_eq_true_of_le (by rw [List.length_append, flat_lenM eMove_len, List.length_set]; dsimp only; omega)) (splice_flat eMove_len sv2 (y.moves.set (i - 1) xp) i (by rw [List.length_set]; omega)) ?_)
                refine ⟨(kp_go (by kernel_rfl) (kp_go (by kernel_rfl) kp_nil)), ?_⟩
                refine jx_end ?_
                refine th_n ?_
                refine xc_seq (xc_region ?_)
                refine xr_op rfl rfl (xv_loadA ty25 rfl rfl (by ((repeat first|exact z_0|assumption|refine z_1 ?_|(refine z_l ?_;(repeat first|exact z_0|assumption|refine z_1 ?_);done)|refine z_r ?_);done)) (by ((try apply evl_some rfl);(repeat (first|exact (rfl : _ = [])|apply evl_cons rfl (by (first|exact v_1|exact v_2|exact v_3|exact v_4|exact v_5|exact v_6|exact v_7|exact v_8|exact v_9|exact rfl))|exact rfl)))) (by rfl) ?_)
                refine xr_op rfl rfl (xv_move rfl ?_)
                refine xr_op rfl rfl (xv_calls rfl hb11 (BlendZ_c (y := ⟨y.ca, y.cc, y.coals, X.ad, X.cp, (y.moves.set (i - 1) xp).set i xo⟩) hez hbl (⟨hy.coals.sub (by intro z hz; ((repeat first|exact z_0|assumption|refine z_1 ?_|(refine z_l ?_;(repeat first|exact z_0|assumption|refine z_1 ?_);done)|refine z_r ?_);done)), (Vec.slvA (t := 63) (xs := (y.moves.set (i - 1) xp).set i xo) eMove_len (by simp) hX2).sub (by intro z hz; ((repeat first|exact z_0|assumption|refine z_1 ?_|(refine z_l ?_;(repeat first|exact z_0|assumption|refine z_1 ?_);done)|refine z_r ?_);done))⟩ : YardV _ (⟨y.ca, y.cc, y.coals, X.ad, X.cp, (y.moves.set (i - 1) xp).set i xo⟩ : Yard)) ⟨by show y.coals.length ≤ 1000; omega, by show ((y.moves.set (i - 1) xp).set i xo).length ≤ 1000; simp; omega⟩ (fun a3 c3 G3 s3 => up_ret ?_)))
                refine xr_op rfl rfl (xv_move rfl ?_)
                refine xr_op rfl rfl (xv_extract rfl rfl ?_)
                refine xr_op rfl rfl (xv_extract rfl rfl ?_)
                refine xr_op rfl rfl (xv_assign rfl ?_)
                refine xr_op rfl rfl (xv_assign rfl ?_)
                refine xr_end rfl ?_
                refine th_n ?_
                refine xc_seq (xc_region ?_)
                refine xr_op rfl rfl (xv_loadA ty25 rfl rfl (by ((repeat first|exact z_0|assumption|refine z_1 ?_|(refine z_l ?_;(repeat first|exact z_0|assumption|refine z_1 ?_);done)|refine z_r ?_);done)) (by ((try apply evl_some rfl);(repeat (first|exact (rfl : _ = [])|apply evl_cons rfl (by (first|exact v_1|exact v_2|exact v_3|exact v_4|exact v_5|exact v_6|exact v_7|exact v_8|exact v_9|exact rfl))|exact rfl)))) (by rfl) ?_)
                refine xr_op rfl rfl (xv_move rfl ?_)
                refine xr_op rfl rfl (xv_move rfl ?_)
                refine xr_op rfl rfl (xv_calls rfl hb13 (YieldZ_c (y := ⟨y.ca, y.cc, y.coals, X.ad, X.cp, (y.moves.set (i - 1) xp).set i xo⟩) hez hyl (⟨hy.coals.sub (by intro z hz; ((repeat first|exact z_0|assumption|refine z_1 ?_|(refine z_l ?_;(repeat first|exact z_0|assumption|refine z_1 ?_);done)|refine z_r ?_);done)), (Vec.slvA (t := 63) (xs := (y.moves.set (i - 1) xp).set i xo) eMove_len (by simp) hX2).sub (by intro z hz; ((repeat first|exact z_0|assumption|refine z_1 ?_|(refine z_l ?_;(repeat first|exact z_0|assumption|refine z_1 ?_);done)|refine z_r ?_);done))⟩ : YardV _ (⟨y.ca, y.cc, y.coals, X.ad, X.cp, (y.moves.set (i - 1) xp).set i xo⟩ : Yard)) ⟨by show y.coals.length ≤ 1000; omega, by show ((y.moves.set (i - 1) xp).set i xo).length ≤ 1000; simp; omega⟩ (up_ret ?_)))
                refine xr_op rfl rfl (xv_move rfl ?_)
                refine xr_op rfl rfl (xv_extract rfl rfl ?_)
                refine xr_op rfl rfl (xv_extract rfl rfl ?_)
                refine xr_op rfl rfl (xv_alloc ty33 (fun b21 hb21 => ?_))
                refine xr_op rfl rfl (xv_s ty33 rfl rfl (by (first|(apply u_3;(repeat first|exact u_0|assumption|apply u_1|apply u_2);done)|((repeat first|exact u_0|assumption|apply u_1|apply u_2);done)|(apply u_3;apply u_3;(repeat first|exact u_0|assumption|apply u_1|apply u_2);done)|((repeat first|exact u_0|assumption|apply u_3|apply u_1);done))) (by ((try apply evl_some rfl);(repeat (first|exact (rfl : _ = [])|apply evl_cons rfl (by (first|exact v_1|exact v_2|exact v_3|exact v_4|exact v_5|exact v_6|exact v_7|exact v_8|exact v_9|exact rfl))|exact rfl)))) (by rfl) (by rfl) (by rfl) (by ((try apply evl_some rfl);(repeat (first|exact (rfl : _ = [])|apply evl_cons rfl (by (first|exact v_1|exact v_2|exact v_3|exact v_4|exact v_5|exact v_6|exact v_7|exact v_8|exact v_9|exact rfl))|exact rfl)))) ?_)
                refine xr_op rfl rfl (xv_assign rfl ?_)
                refine xr_end rfl ?_
                refine th_n ?_
                refine xc_seq (xc_region ?_)
                refine xr_op rfl rfl (xv_move rfl ?_)
                refine xr_op rfl rfl (xv_move rfl ?_)
                refine xr_op rfl rfl (xv_calls rfl hb15 (SpansT_c (xs := (blendA y draw).1) (ys := (blendA y draw).1) rfl rfl (s2.sub (by intro z hz; ((repeat first|exact z_0|assumption|refine z_1 ?_|(refine z_l ?_;(repeat first|exact z_0|assumption|refine z_1 ?_);done)|refine z_r ?_);done))) (s3.sub (by intro z hz; ((repeat first|exact z_0|assumption|refine z_1 ?_|(refine z_l ?_;(repeat first|exact z_0|assumption|refine z_1 ?_);done)|refine z_r ?_);done))) rfl (by have := blendA_len y draw; omega) (up_ret ?_)))
                refine xr_op rfl rfl (xv_not rfl ?_)
                refine xr_op rfl rfl (xv_move rfl ?_)
                refine xr_gd rfl rfl rfl (xv_move rfl ?_)
                refine xr_gd rfl rfl rfl (xv_move rfl ?_)
                refine xr_gd rfl rfl rfl (xv_neqF rfl rfl rfl ?_)
                refine xr_op rfl rfl (xv_pick rfl rfl ?_)
                refine xr_op rfl rfl (xv_move rfl ?_)
                refine xr_gd rfl rfl rfl (xv_loadA ty33 rfl rfl (by ((repeat first|exact z_0|assumption|refine z_1 ?_|(refine z_l ?_;(repeat first|exact z_0|assumption|refine z_1 ?_);done)|refine z_r ?_);done)) (by ((try apply evl_some rfl);(repeat (first|exact (rfl : _ = [])|apply evl_cons rfl (by (first|exact v_1|exact v_2|exact v_3|exact v_4|exact v_5|exact v_6|exact v_7|exact v_8|exact v_9|exact rfl))|exact rfl)))) (by rfl) ?_)
                refine xr_gd rfl rfl rfl (xv_loadA ty33 rfl rfl (by ((repeat first|exact z_0|assumption|refine z_1 ?_|(refine z_l ?_;(repeat first|exact z_0|assumption|refine z_1 ?_);done)|refine z_r ?_);done)) (by ((try apply evl_some rfl);(repeat (first|exact (rfl : _ = [])|apply evl_cons rfl (by (first|exact v_1|exact v_2|exact v_3|exact v_4|exact v_5|exact v_6|exact v_7|exact v_8|exact v_9|exact rfl))|exact rfl)))) (by rfl) ?_)
                refine xr_gd rfl rfl rfl (xv_neA (b := false) fq33 rfl eg33 rfl rfl rfl rfl (by ((repeat' first | assumption | exact numNil | refine numCons ?_ | refine numApp ?_ ?_); done)) (by ((repeat' first | assumption | exact numNil | refine numCons ?_ | refine numApp ?_ ?_); done)) (by rw [eqc_self (by ((repeat' first | assumption | exact numNil | refine numCons ?_ | refine numApp ?_ ?_); done))]; rfl) ?_)
                refine xr_op rfl rfl (xv_pick rfl rfl ?_)
                refine xr_op rfl rfl (xv_move rfl ?_)
                refine xr_gd rfl rfl rfl (xv_move rfl ?_)
                refine xr_gd rfl rfl rfl (xv_move rfl ?_)
                refine xr_gd rfl rfl rfl (xv_neqF rfl rfl rfl ?_)
                refine xr_op rfl rfl (xv_pick rfl rfl ?_)
                refine xr_end rfl ?_
                refine th_n ?_
                refine xc_false rfl ?_
                refine xc_skip ?_
                exact jn_n () trivial (le_put (le_put (le_put (le_put (le_put (le_emp _) rfl) rfl) rfl) rfl) rfl) (by (first|((repeat first|exact s_0|exact s_1|exact s_3|refine s_4 ?_|refine s_5 ?_|refine s_6 ?_|refine s_7 ?_);done)|((repeat first|exact s_0|exact s_1|exact s_3|refine s_4 ?_|refine s_5 ?_|refine s_6 ?_|refine s_8 ?_);done)))
              · refine xr_op rfl rfl (xv_pick rfl rfl ?_)
                refine xr_end rfl ?_
                refine th_n ?_
                refine xc_false rfl ?_
                refine xc_skip ?_
                exact jn_n () trivial (le_put (le_put (le_put (le_put (le_put (le_emp _) rfl) rfl) rfl) rfl) rfl) (by (first|((repeat first|exact s_0|exact s_1|exact s_3|refine s_4 ?_|refine s_5 ?_|refine s_6 ?_|refine s_7 ?_);done)|((repeat first|exact s_0|exact s_1|exact s_3|refine s_4 ?_|refine s_5 ?_|refine s_6 ?_|refine s_8 ?_);done)))
            · refine xr_op rfl rfl (xv_pick rfl rfl ?_)
              refine xr_op rfl rfl (xv_move rfl ?_)
              refine xr_no rfl rfl rfl rfl ?_
              refine xr_no rfl rfl rfl rfl ?_
              refine xr_no rfl rfl rfl rfl ?_
              refine xr_no rfl rfl rfl rfl ?_
              refine xr_no rfl rfl rfl rfl ?_
              refine xr_op rfl rfl (xv_pick rfl rfl ?_)
              refine xr_end rfl ?_
              refine th_n ?_
              refine xc_false rfl ?_
              refine xc_skip ?_
              exact jn_n () trivial (le_put (le_put (le_put (le_put (le_put (le_emp _) rfl) rfl) rfl) rfl) rfl) (by (first|((repeat first|exact s_0|exact s_1|exact s_3|refine s_4 ?_|refine s_5 ?_|refine s_6 ?_|refine s_7 ?_);done)|((repeat first|exact s_0|exact s_1|exact s_3|refine s_4 ?_|refine s_5 ?_|refine s_6 ?_|refine s_8 ?_);done)))
          · refine xr_op rfl rfl (xv_move rfl ?_)
            refine xr_no rfl rfl rfl rfl ?_
            refine xr_no rfl rfl rfl rfl ?_
            refine xr_no rfl rfl rfl rfl ?_
            refine xr_op rfl rfl (xv_pick rfl rfl ?_)
            refine xr_op rfl rfl (xv_move rfl ?_)
            refine xr_no rfl rfl rfl rfl ?_
            refine xr_no rfl rfl rfl rfl ?_
            refine xr_no rfl rfl rfl rfl ?_
            refine xr_no rfl rfl rfl rfl ?_
            refine xr_no rfl rfl rfl rfl ?_
            refine xr_op rfl rfl (xv_pick rfl rfl ?_)
            refine xr_end rfl ?_
            refine th_n ?_
            refine xc_false rfl ?_
            refine xc_skip ?_
            exact jn_n () trivial (le_put (le_put (le_put (le_put (le_put (le_emp _) rfl) rfl) rfl) rfl) rfl) (by (first|((repeat first|exact s_0|exact s_1|exact s_3|refine s_4 ?_|refine s_5 ?_|refine s_6 ?_|refine s_7 ?_);done)|((repeat first|exact s_0|exact s_1|exact s_3|refine s_4 ?_|refine s_5 ?_|refine s_6 ?_|refine s_8 ?_);done)))
        · rintro _u _i
          refine xc_seq ?_
          refine xc_draw0 [(0, .S), (1, .R), (2, .S), (3, .S), (4, .S), (5, .S)] mixed (by kernel_rfl) ?_
          refine js_S rfl rfl (.inl rfl) (xv_faddr fl25_1 rfl ⟨rfl, rfl⟩) ?_
          refine js_R0 rfl rfl (.inl rfl) (xv_load1 ty23 rfl rfl (by ((repeat first|exact z_0|assumption|refine z_1 ?_|(refine z_l ?_;(repeat first|exact z_0|assumption|refine z_1 ?_);done)|refine z_r ?_);done)) (by rfl) ⟨rfl, rfl⟩) ?_
          refine js_S rfl rfl (.inl rfl) (xv_len sl23 rfl ⟨rfl, rfl⟩) ?_
          refine js_S rfl rfl (.inl rfl) (xv_assign rfl ⟨rfl, rfl⟩) ?_
          refine js_S rfl rfl (.inl rfl) (xv_assign rfl ⟨rfl, rfl⟩) ?_
          refine js_S rfl rfl (.inl rfl) (xv_assign rfl ⟨rfl, rfl⟩) ?_
          refine j_end0 ?_
          refine th_n ?_
          refine xc_seq ?_
          refine xc_seq (xc_region ?_)
          refine xr_op rfl rfl (xv_assign rfl ?_)
          refine xr_end rfl ?_
          refine th_n ?_
          refine xc_block ?_
          refine xc_loop (σ := Nat) (fun k => k ≤ y.moves.length) (fun k => (((((((((emp.put (some 1) (I draw)).put (some 4) (.pointer (some ⟨b4, 0, none⟩))).put (some 9) (.slice a1 Q.length c1)).put (some 12) (I (blendA y draw).2)).put (some 14) (I (yieldA y 0 draw what).2)).put (some 23) (I (arrS y.moves k - drS vs (dcn y.moves k)))).put (some 24) (I ((dcn y.moves k) : Int))).put (some 25) (I (atM y.moves draw k : Int))).put (some 26) (I k))) (fun k => ((d13, .cells ⟨[I (yieldA y 0 draw what).1.lo, I (yieldA y 0 draw what).1.hi]⟩ 33) :: (G2 ++ (G1 ++ (b4, .cells ⟨eYard y⟩ 25) :: h)))) (fun k => y.moves.length - k) 0 (Nat.zero_le _) (le_put (le_put (le_put (le_put (le_put (le_put (le_put (le_put (le_put (le_emp _) rfl) rfl) rfl) rfl) rfl) rfl) rfl) rfl) rfl) (by (first|((repeat first|exact s_0|exact s_1|exact s_3|refine s_4 ?_|refine s_5 ?_|refine s_6 ?_|refine s_7 ?_);done)|((repeat first|exact s_0|exact s_1|exact s_3|refine s_4 ?_|refine s_5 ?_|refine s_6 ?_|refine s_8 ?_);done))) ?_
          rintro k hk
          refine xc_seq ?_
          refine xc_seq (xc_region ?_)
          refine xr_op rfl rfl (xv_move rfl ?_)
          refine xr_op rfl rfl (xv_faddr fl25_1 rfl ?_)
          refine xr_op rfl rfl (xv_load1 ty23 rfl rfl (by ((repeat first|exact z_0|assumption|refine z_1 ?_|(refine z_l ?_;(repeat first|exact z_0|assumption|refine z_1 ?_);done)|refine z_r ?_);done)) (by rfl) ?_)
          refine xr_op rfl rfl (xv_len sl23 rfl ?_)
          refine xr_op rfl rfl (xv_lss2 rfl rfl (fun q7 => ?_) (fun q7 => ?_))
          · refine xr_end rfl ?_
            refine th_n ?_
            refine xc_true rfl ?_
            refine xc_skip ?_
            refine th_n ?_
            refine xc_seq ?_
            refine xc_block ?_
            refine xc_seq ?_
            refine xc_seq (xc_region ?_)
            have hlto : k < y.moves.length := by (first|omega|(dsimp only at *;omega)|(simp at *;omega))
            obtain ⟨bo, oo, lo, to, fzo, hao, hmo, hxo⟩ := (hy.moves).at hlto
            obtain ⟨xo, hko⟩ : ∃ qq_, y.moves[k]? = some qq_ := ⟨_, List.getElem?_eq_getElem hlto⟩
            obtain ⟨_, ⟨mc1, mc2⟩, mt1, mt2⟩ := movesOk_at hmv hko
            have hab := arr_bd hmv k hk
            have hdl := dcn_le y.moves k
            have hdm := dcn_mono y.moves (y.moves.length - k) k
            rw [show k + (y.moves.length - k) = y.moves.length by omega] at hdm
            have hdb : 0 ≤ drS vs (dcn y.moves k) ∧ drS vs (dcn y.moves k) ≤ 33554432 * ((dcn y.moves k) : Int) := by
              refine ⟨sF_nn fun q hq => ?_, ?_⟩
              · have h9 : vs.getD q [] ∈ vs := by rw [List.getD_eq_getElem?_getD, List.getElem?_eq_getElem (by omega)]; exact List.getElem_mem _
                exact sumI_nn fun x hx => (hP.bd _ h9 x hx).1
              · rw [← sF_const]
                refine sF_le fun q hq => ?_
                have h9 : vs.getD q [] ∈ vs := by rw [List.getD_eq_getElem?_getD, List.getElem?_eq_getElem (by omega)]; exact List.getElem_mem _
                have h8 := sumI_bd (fun x hx => hP.bd _ h9 x hx)
                rw [hP.len _ h9] at h8; omega
            refine xr_op rfl rfl (xv_faddr fl25_1 rfl ?_)
            refine xr_op rfl rfl (xv_load1 ty23 rfl rfl (by ((repeat first|exact z_0|assumption|refine z_1 ?_|(refine z_l ?_;(repeat first|exact z_0|assumption|refine z_1 ?_);done)|refine z_r ?_);done)) (by rfl) ?_)
            refine xr_op rfl rfl (xv_move rfl ?_)
            refine xr_op rfl rfl (xv_ia (sz := 3) (j := k) sl23 ty63 rfl (by rw [hao]; rfl) rfl (by (first | assumption | with_reducible exact Int.toNat_natCast _ | with_reducible rfl | rfl)) (by (first|omega|(dsimp only at *;omega)|(simp at *;omega))) (by (first|omega|(dsimp only at *;omega)|(simp at *;omega))) ?_)
            refine xr_op rfl rfl (xv_faddr fl63_1 rfl ?_)
            refine xr_op rfl rfl (xv_load1 ty3 rfl rfl (by ((repeat first|exact z_0|assumption|refine z_1 ?_|(refine z_l ?_;(repeat first|exact z_0|assumption|refine z_1 ?_);done)|refine z_r ?_);done)) (take_get (hxo (k) xo hko) (j := 1) rfl) ?_)
            refine xr_op rfl rfl (xv_neq2 rfl rfl (fun q8 => ?_) (fun q8 => ?_))
            · refine xr_end rfl ?_
              refine th_n ?_
              refine xc_true rfl ?_
              refine xc_seq (xc_region ?_)
              have har := arr_in hko (by (first|omega|(dsimp only at *;omega)|(simp at *;omega)))
              have hat := atM_in (draw := draw) hko (by (first|omega|(dsimp only at *;omega)|(simp at *;omega)))
              have hdc := har.2
              have hsk : (arrS y.moves (k + 1) - drS vs (dcn y.moves (k + 1))) = (arrS y.moves k - drS vs (dcn y.moves k)) + xo.tons := by rw [har.1, har.2]; omega
              refine xr_op rfl rfl (xv_move rfl ?_)
              refine xr_op rfl rfl (xv_faddr fl25_1 rfl ?_)
              refine xr_op rfl rfl (xv_load1 ty23 rfl rfl (by ((repeat first|exact z_0|assumption|refine z_1 ?_|(refine z_l ?_;(repeat first|exact z_0|assumption|refine z_1 ?_);done)|refine z_r ?_);done)) (by rfl) ?_)
              refine xr_op rfl rfl (xv_move rfl ?_)
              refine xr_op rfl rfl (xv_ia (sz := 3) (j := k) sl23 ty63 rfl (by rw [hao]; rfl) rfl (by (first | assumption | with_reducible exact Int.toNat_natCast _ | with_reducible rfl | rfl)) (by (first|omega|(dsimp only at *;omega)|(simp at *;omega))) (by (first|omega|(dsimp only at *;omega)|(simp at *;omega))) ?_)
              refine xr_op rfl rfl (xv_faddr fl63_2 rfl ?_)
              refine xr_op rfl rfl (xv_load1 ty3 rfl rfl (by ((repeat first|exact z_0|assumption|refine z_1 ?_|(refine z_l ?_;(repeat first|exact z_0|assumption|refine z_1 ?_);done)|refine z_r ?_);done)) (take_get (hxo (k) xo hko) (j := 2) rfl) ?_)
              refine xr_op rfl rfl (xv_add rfl rfl (wrap_i64 (by (first|omega|(dsimp only at *;omega)|(simp at *;omega))) (by (first|omega|(dsimp only at *;omega)|(simp at *;omega)))) ?_)
              refine xr_op rfl rfl (xv_assign rfl ?_)
              refine xr_end rfl ?_
              refine th_n ?_
              refine xc_exit ?_
              refine th_x ?_
              refine bk_same ?_
              refine th_n ?_
              refine xc_region ?_
              refine xr_op rfl rfl (xv_move rfl ?_)
              refine xr_op rfl rfl (xv_add rfl rfl (wrap_i64 (by (first|omega|(dsimp only at *;omega)|(simp at *;omega))) (by (first|omega|(dsimp only at *;omega)|(simp at *;omega)))) ?_)
              refine xr_op rfl rfl (xv_assign rfl ?_)
              refine xr_end rfl ?_
              exact rnd (k + 1) (by (first|omega|(dsimp only at *;omega)|(simp at *;omega))) (by (first|omega|(dsimp only at *;omega)|(simp at *;omega))) (le_put (le_put (le_put (le_put (le_put (le_put (le_put (le_put (le_put (le_emp _) rfl) rfl) rfl) rfl) rfl) (by rw [hsk]; rfl)) (by rw [hdc]; rfl)) (by rw [hat]; rfl)) rfl) (by (first|((repeat first|exact s_0|exact s_1|exact s_3|refine s_4 ?_|refine s_5 ?_|refine s_6 ?_|refine s_7 ?_);done)|((repeat first|exact s_0|exact s_1|exact s_3|refine s_4 ?_|refine s_5 ?_|refine s_6 ?_|refine s_8 ?_);done)))
            · refine xr_end rfl ?_
              refine th_n ?_
              refine xc_false rfl ?_
              refine xc_skip ?_
              refine th_n ?_
              refine xc_seq (xc_region ?_)
              have hco : xo.coal = -1 := by (first|omega|(dsimp only at *;omega)|(simp at *;omega))
              have har := arr_out hko hco
              have hdc := har.2
              have hdm2 := dcn_mono y.moves (y.moves.length - (k + 1)) (k + 1)
              rw [show k + 1 + (y.moves.length - (k + 1)) = y.moves.length by (first|omega|(dsimp only at *;omega)|(simp at *;omega)), hdc] at hdm2
              obtain ⟨v, hvd⟩ : ∃ v, vs[(dcn y.moves k)]? = some v := ⟨_, List.getElem?_eq_getElem (by omega)⟩
              have hdk : drawnA y ((dcn y.moves k) : Int) = ((nzF (fun i => v.getD i 0) (opn y.moves).1), 0) := by
                rw [drawnA_0 hgy hvs (by omega), Int.toNat_natCast, show vs.getD (dcn y.moves k) [] = v from by rw [List.getD_eq_getElem?_getD, hvd]; rfl]
              have hvm9 := List.mem_of_getElem? hvd
              have hdr := drS_at hvd (hP.len v hvm9) (fun x hx => (hP.bd v hvm9 x hx).1)
              have hsk : (arrS y.moves (k + 1) - drS vs (dcn y.moves (k + 1))) = (arrS y.moves k - drS vs (dcn y.moves k)) - sumI ((nzF (fun i => v.getD i 0) (opn y.moves).1).map Part.tons) := by rw [har.1, hdc, hdr]; omega
              have htb := fun z : Nat => sumI_bd (B := 1048576) (l := ((nzF (fun i => v.getD i 0) (opn y.moves).1).map Part.tons).take z) (fun t h9 => by obtain ⟨p9, hp9, rfl⟩ := List.mem_map.1 (List.mem_of_mem_take h9); obtain ⟨q1, q2, q3, q4⟩ := nzF_mem hp9; have q5 := getD_bd (B := 1048576) (by decide) (hP.bd v hvm9) p9.layer.toNat; omega)
              have hpl := nzF_len (fun i => v.getD i 0) (opn y.moves).1
              refine xr_op rfl rfl (xv_loadA ty25 rfl rfl (by ((repeat first|exact z_0|assumption|refine z_1 ?_|(refine z_l ?_;(repeat first|exact z_0|assumption|refine z_1 ?_);done)|refine z_r ?_);done)) (by ((try apply evl_some rfl);(repeat (first|exact (rfl : _ = [])|apply evl_cons rfl (by (first|exact v_1|exact v_2|exact v_3|exact v_4|exact v_5|exact v_6|exact v_7|exact v_8|exact v_9|exact rfl))|exact rfl)))) (by rfl) ?_)
              refine xr_op rfl rfl (xv_move rfl ?_)
              refine xr_op rfl rfl (xv_calls rfl hb19 (DrawnP_c rfl (hy.sub (by intro z hz; ((repeat first|exact z_0|assumption|refine z_1 ?_|(refine z_l ?_;(repeat first|exact z_0|assumption|refine z_1 ?_);done)|refine z_r ?_);done))) (⟨by omega, by omega⟩ : Small y) (P := (nzF (fun i => v.getD i 0) (opn y.moves).1)) hdk (fun a5 c5 G5 s5 => up_ret ?_)))
              refine xr_op rfl rfl (xv_move rfl ?_)
              refine xr_op rfl rfl (xv_extract rfl rfl ?_)
              refine xr_op rfl rfl (xv_extract rfl rfl ?_)
              refine xr_op rfl rfl (xv_assign rfl ?_)
              refine xr_op rfl rfl (xv_assign rfl ?_)
              refine xr_end rfl ?_
              refine th_n ?_
              refine xc_seq ?_
              refine xc_seq (xc_region ?_)
              refine xr_op rfl rfl (xv_move rfl ?_)
              refine xr_op rfl rfl (xv_neqF rfl rfl rfl ?_)
              refine xr_end rfl ?_
              refine th_n ?_
              refine xc_false rfl ?_
              refine xc_skip ?_
              refine th_n ?_
              refine xc_seq ?_
              refine xc_seq (xc_region ?_)
              refine xr_op rfl rfl (xv_assign rfl ?_)
              refine xr_end rfl ?_
              refine th_n ?_
              refine xc_block ?_
              refine xc_loop (σ := Nat) (fun z => z ≤ (nzF (fun i => v.getD i 0) (opn y.moves).1).length) (fun z => (((((((((((emp.put (some 1) (I draw)).put (some 4) (.pointer (some ⟨b4, 0, none⟩))).put (some 9) (.slice a1 Q.length c1)).put (some 12) (I (blendA y draw).2)).put (some 14) (I (yieldA y 0 draw what).2)).put (some 23) (I ((arrS y.moves k - drS vs (dcn y.moves k)) - sumI (((nzF (fun i => v.getD i 0) (opn y.moves).1).map Part.tons).take z)))).put (some 24) (I ((dcn y.moves k) : Int))).put (some 25) (I (atM y.moves draw k : Int))).put (some 26) (I k)).put (some 27) (.slice a5 (nzF (fun i => v.getD i 0) (opn y.moves).1).length c5)).put (some 29) (I z))) (fun z => (G5 ++ ((d13, .cells ⟨[I (yieldA y 0 draw what).1.lo, I (yieldA y 0 draw what).1.hi]⟩ 33) :: (G2 ++ (G1 ++ (b4, .cells ⟨eYard y⟩ 25) :: h))))) (fun z => (nzF (fun i => v.getD i 0) (opn y.moves).1).length - z) 0 (Nat.zero_le _) (le_put (le_put (le_put (le_put (le_put (le_put (le_put (le_put (le_put (le_put (le_put (le_emp _) rfl) rfl) rfl) rfl) rfl) (by show _ = some (I (_ - 0)); rw [Int.sub_zero]; rfl)) rfl) rfl) rfl) rfl) rfl) (by (first|((repeat first|exact s_0|exact s_1|exact s_3|refine s_4 ?_|refine s_5 ?_|refine s_6 ?_|refine s_7 ?_);done)|((repeat first|exact s_0|exact s_1|exact s_3|refine s_4 ?_|refine s_5 ?_|refine s_6 ?_|refine s_8 ?_);done))) ?_
              rintro z hz
              refine xc_seq ?_
              refine xc_seq (xc_region ?_)
              refine xr_op rfl rfl (xv_move rfl ?_)
              refine xr_op rfl rfl (xv_move rfl ?_)
              refine xr_op rfl rfl (xv_len sl39 rfl ?_)
              refine xr_op rfl rfl (xv_lss2 rfl rfl (fun q9 => ?_) (fun q9 => ?_))
              · refine xr_end rfl ?_
                refine th_n ?_
                refine xc_true rfl ?_
                refine xc_skip ?_
                refine th_n ?_
                refine xc_seq ?_
                refine xc_block ?_
                refine xc_region ?_
                have hltq : z < (nzF (fun i => v.getD i 0) (opn y.moves).1).length := by (first|omega|(dsimp only at *;omega)|(simp at *;omega))
                obtain ⟨bq, oq, lq, tq, fzq, haq, hmq, hxq⟩ := (s5).at hltq
                obtain ⟨xq, hkq⟩ : ∃ qq_, (nzF (fun i => v.getD i 0) (opn y.moves).1)[z]? = some qq_ := ⟨_, List.getElem?_eq_getElem hltq⟩
                have hpt : ((nzF (fun i => v.getD i 0) (opn y.moves).1).map Part.tons)[z]? = some xq.tons := by rw [List.getElem?_map, hkq]; rfl
                have htz := htb z
                have htz2 := htb (z + 1)
                rw [List.length_take, List.length_map] at htz htz2
                rw [sumI_take hpt] at htz2
                refine xr_op rfl rfl (xv_move rfl ?_)
                refine xr_op rfl rfl (xv_move rfl ?_)
                refine xr_op rfl rfl (xv_move rfl ?_)
                refine xr_op rfl rfl (xv_ia (sz := 2) (j := z) sl39 ty43 rfl (by rw [haq]; rfl) rfl (by (first | assumption | with_reducible exact Int.toNat_natCast _ | with_reducible rfl | rfl)) (by (first|omega|(dsimp only at *;omega)|(simp at *;omega))) (by (first|omega|(dsimp only at *;omega)|(simp at *;omega))) ?_)
                refine xr_op rfl rfl (xv_faddr fl43_1 rfl ?_)
                refine xr_op rfl rfl (xv_load1 ty3 rfl rfl (by ((repeat first|exact z_0|assumption|refine z_1 ?_|(refine z_l ?_;(repeat first|exact z_0|assumption|refine z_1 ?_);done)|refine z_r ?_);done)) (take_get (hxq (z) xq hkq) (j := 1) rfl) ?_)
                refine xr_op rfl rfl (xv_sub rfl rfl (wrap_i64 (by (first|omega|(dsimp only at *;omega)|(simp at *;omega))) (by (first|omega|(dsimp only at *;omega)|(simp at *;omega)))) ?_)
                refine xr_op rfl rfl (xv_assign rfl ?_)
                refine xr_end rfl ?_
                refine bk_n ?_
                refine th_n ?_
                refine xc_region ?_
                refine xr_op rfl rfl (xv_move rfl ?_)
                refine xr_op rfl rfl (xv_add rfl rfl (wrap_i64 (by (first|omega|(dsimp only at *;omega)|(simp at *;omega))) (by (first|omega|(dsimp only at *;omega)|(simp at *;omega)))) ?_)
                refine xr_op rfl rfl (xv_assign rfl ?_)
                refine xr_end rfl ?_
                exact rnd (z + 1) (by (first|omega|(dsimp only at *;omega)|(simp at *;omega))) (by (first|omega|(dsimp only at *;omega)|(simp at *;omega))) (le_put (le_put (le_put (le_put (le_put (le_put (le_put (le_put (le_put (le_put (le_put (le_emp _) rfl) rfl) rfl) rfl) rfl) (by rw [sumI_take hpt, ← Int.sub_sub]; rfl)) rfl) rfl) rfl) rfl) rfl) (by (first|((repeat first|exact s_0|exact s_1|exact s_3|refine s_4 ?_|refine s_5 ?_|refine s_6 ?_|refine s_7 ?_);done)|((repeat first|exact s_0|exact s_1|exact s_3|refine s_4 ?_|refine s_5 ?_|refine s_6 ?_|refine s_8 ?_);done)))
              · refine xr_end rfl ?_
                refine th_n ?_
                refine xc_false rfl ?_
                refine xc_exit ?_
                refine th_x ?_
                refine th_x ?_
                refine bk_same ?_
                refine th_n ?_
                refine xc_seq ?_
                refine xc_seq (xc_region ?_)
                obtain rfl : (nzF (fun i => v.getD i 0) (opn y.moves).1).length = z := by (first|omega|(dsimp only at *;omega)|(simp at *;omega))
                rw [show ((nzF (fun i => v.getD i 0) (opn y.moves).1).map Part.tons).take (nzF (fun i => v.getD i 0) (opn y.moves).1).length = (nzF (fun i => v.getD i 0) (opn y.moves).1).map Part.tons from by rw [← List.length_map (f := Part.tons), List.take_length]]
                refine xr_op rfl rfl (xv_move rfl ?_)
                refine xr_op rfl rfl (xv_move rfl ?_)
                refine xr_op rfl rfl (xv_eql2 rfl rfl (fun q10 => ?_) (fun q10 => ?_))
                · refine xr_end rfl ?_
                  refine th_n ?_
                  refine xc_true rfl ?_
                  refine xc_region ?_
                  have hat : atM y.moves draw (k + 1) = k := atM_eq hko hco (by (first|omega|(dsimp only at *;omega)|(simp at *;omega)))
                  refine xr_op rfl rfl (xv_move rfl ?_)
                  refine xr_op rfl rfl (xv_assign rfl ?_)
                  refine xr_end rfl ?_
                  refine th_n ?_
                  refine xc_region ?_
                  refine xr_op rfl rfl (xv_move rfl ?_)
                  refine xr_op rfl rfl (xv_add rfl rfl (wrap_i64 (by (first|omega|(dsimp only at *;omega)|(simp at *;omega))) (by (first|omega|(dsimp only at *;omega)|(simp at *;omega)))) ?_)
                  refine xr_op rfl rfl (xv_assign rfl ?_)
                  refine xr_end rfl ?_
                  refine bk_n ?_
                  refine th_n ?_
                  refine xc_region ?_
                  refine xr_op rfl rfl (xv_move rfl ?_)
                  refine xr_op rfl rfl (xv_add rfl rfl (wrap_i64 (by (first|omega|(dsimp only at *;omega)|(simp at *;omega))) (by (first|omega|(dsimp only at *;omega)|(simp at *;omega)))) ?_)
                  refine xr_op rfl rfl (xv_assign rfl ?_)
                  refine xr_end rfl ?_
                  exact rnd (k + 1) (by (first|omega|(dsimp only at *;omega)|(simp at *;omega))) (by (first|omega|(dsimp only at *;omega)|(simp at *;omega))) (le_put (le_put (le_put (le_put (le_put (le_put (le_put (le_put (le_put (le_emp _) rfl) rfl) rfl) rfl) rfl) (by rw [hsk]; rfl)) (by rw [hdc]; rfl)) (by rw [hat]; rfl)) rfl) (by (first|((repeat first|exact s_0|exact s_1|exact s_3|refine s_4 ?_|refine s_5 ?_|refine s_6 ?_|refine s_7 ?_);done)|((repeat first|exact s_0|exact s_1|exact s_3|refine s_4 ?_|refine s_5 ?_|refine s_6 ?_|refine s_8 ?_);done)))
                · refine xr_end rfl ?_
                  refine th_n ?_
                  refine xc_false rfl ?_
                  refine xc_skip ?_
                  refine th_n ?_
                  refine xc_region ?_
                  have hat : atM y.moves draw (k + 1) = atM y.moves draw k := atM_ne hko (by (first|omega|(dsimp only at *;omega)|(simp at *;omega)))
                  refine xr_op rfl rfl (xv_move rfl ?_)
                  refine xr_op rfl rfl (xv_add rfl rfl (wrap_i64 (by (first|omega|(dsimp only at *;omega)|(simp at *;omega))) (by (first|omega|(dsimp only at *;omega)|(simp at *;omega)))) ?_)
                  refine xr_op rfl rfl (xv_assign rfl ?_)
                  refine xr_end rfl ?_
                  refine bk_n ?_
                  refine th_n ?_
                  refine xc_region ?_
                  refine xr_op rfl rfl (xv_move rfl ?_)
                  refine xr_op rfl rfl (xv_add rfl rfl (wrap_i64 (by (first|omega|(dsimp only at *;omega)|(simp at *;omega))) (by (first|omega|(dsimp only at *;omega)|(simp at *;omega)))) ?_)
                  refine xr_op rfl rfl (xv_assign rfl ?_)
                  refine xr_end rfl ?_
                  exact rnd (k + 1) (by (first|omega|(dsimp only at *;omega)|(simp at *;omega))) (by (first|omega|(dsimp only at *;omega)|(simp at *;omega))) (le_put (le_put (le_put (le_put (le_put (le_put (le_put (le_put (le_put (le_emp _) rfl) rfl) rfl) rfl) rfl) (by rw [hsk]; rfl)) (by rw [hdc]; rfl)) (by rw [hat]; rfl)) rfl) (by (first|((repeat first|exact s_0|exact s_1|exact s_3|refine s_4 ?_|refine s_5 ?_|refine s_6 ?_|refine s_7 ?_);done)|((repeat first|exact s_0|exact s_1|exact s_3|refine s_4 ?_|refine s_5 ?_|refine s_6 ?_|refine s_8 ?_);done)))
          · refine xr_end rfl ?_
            refine th_n ?_
            refine xc_false rfl ?_
            refine xc_exit ?_
            refine th_x ?_
            refine th_x ?_
            refine bk_same ?_
            refine th_n ?_
            refine xc_seq ?_
            refine xc_seq (xc_region ?_)
            obtain rfl : y.moves.length = k := by (first|omega|(dsimp only at *;omega)|(simp at *;omega))
            refine xr_op rfl rfl (xv_assign rfl ?_)
            refine xr_end rfl ?_
            refine th_n ?_
            refine xc_block ?_
            refine xc_loop (σ := Nat) (fun k => k ≤ Q.length) (fun k => ((((((((emp.put (some 1) (I draw)).put (some 4) (.pointer (some ⟨b4, 0, none⟩))).put (some 9) (.slice a1 Q.length c1)).put (some 12) (I (blendA y draw).2)).put (some 14) (I (yieldA y 0 draw what).2)).put (some 23) (I ((arrS y.moves y.moves.length - drS vs (dcn y.moves y.moves.length)) - sumI ((Q.map Part.tons).take k)))).put (some 25) (I (atM y.moves draw y.moves.length : Int))).put (some 30) (I k))) (fun k => ((d13, .cells ⟨[I (yieldA y 0 draw what).1.lo, I (yieldA y 0 draw what).1.hi]⟩ 33) :: (G2 ++ (G1 ++ (b4, .cells ⟨eYard y⟩ 25) :: h)))) (fun k => Q.length - k) 0 (Nat.zero_le _) (le_put (le_put (le_put (le_put (le_put (le_put (le_put (le_put (le_emp _) rfl) rfl) rfl) rfl) rfl) (by show _ = some (I (_ - 0)); rw [Int.sub_zero]; rfl)) rfl) rfl) (by (first|((repeat first|exact s_0|exact s_1|exact s_3|refine s_4 ?_|refine s_5 ?_|refine s_6 ?_|refine s_7 ?_);done)|((repeat first|exact s_0|exact s_1|exact s_3|refine s_4 ?_|refine s_5 ?_|refine s_6 ?_|refine s_8 ?_);done))) ?_
            rintro k hk
            refine xc_seq ?_
            refine xc_seq (xc_region ?_)
            refine xr_op rfl rfl (xv_move rfl ?_)
            refine xr_op rfl rfl (xv_move rfl ?_)
            refine xr_op rfl rfl (xv_len sl39 rfl ?_)
            refine xr_op rfl rfl (xv_lss2 rfl rfl (fun q11 => ?_) (fun q11 => ?_))
            · refine xr_end rfl ?_
              refine th_n ?_
              refine xc_true rfl ?_
              refine xc_skip ?_
              refine th_n ?_
              refine xc_seq ?_
              refine xc_block ?_
              refine xc_region ?_
              have hltq : k < Q.length := by (first|omega|(dsimp only at *;omega)|(simp at *;omega))
              obtain ⟨bq, oq, lq, tq, fzq, haq, hmq, hxq⟩ := (s1).at hltq
              obtain ⟨xq, hkq⟩ : ∃ qq_, Q[k]? = some qq_ := ⟨_, List.getElem?_eq_getElem hltq⟩
              have hpt : (Q.map Part.tons)[k]? = some xq.tons := by rw [List.getElem?_map, hkq]; rfl
              have htb := fun z : Nat => sumI_bd (B := 201326592) (l := (Q.map Part.tons).take z) (fun t h9 => by obtain ⟨p9, hp9, rfl⟩ := List.mem_map.1 (List.mem_of_mem_take h9); rw [hQ] at hp9; obtain ⟨q1, q2, q3, q4⟩ := nzF_mem hp9; have q5 := room_le hmv hP p9.layer.toNat; have q6 : (y.coals.length : Int) * (1048576 * (y.moves.length : Int)) ≤ 6 * (1048576 * 32) := Int.mul_le_mul (by omega) (by omega) (by omega) (by omega); omega)
              have htz := htb k
              have htz2 := htb (k + 1)
              rw [List.length_take, List.length_map] at htz htz2
              rw [sumI_take hpt] at htz2
              have hab := arr_bd hmv y.moves.length (Nat.le_refl _)
              have hQl : Q.length ≤ 32 := by rw [hQ]; exact Nat.le_trans (nzF_len _ _) (by omega)
              have hdb : 0 ≤ drS vs (dcn y.moves y.moves.length) ∧ drS vs (dcn y.moves y.moves.length) ≤ 33554432 * ((dcn y.moves y.moves.length) : Int) := by
                refine ⟨sF_nn fun q hq => ?_, ?_⟩
                · have h9 : vs.getD q [] ∈ vs := by rw [List.getD_eq_getElem?_getD, List.getElem?_eq_getElem (by omega)]; exact List.getElem_mem _
                  exact sumI_nn fun x hx => (hP.bd _ h9 x hx).1
                · rw [← sF_const]
                  refine sF_le fun q hq => ?_
                  have h9 : vs.getD q [] ∈ vs := by rw [List.getD_eq_getElem?_getD, List.getElem?_eq_getElem (by omega)]; exact List.getElem_mem _
                  have h8 := sumI_bd (fun x hx => hP.bd _ h9 x hx)
                  rw [hP.len _ h9] at h8; omega
              have hdl := dcn_le y.moves y.moves.length
              refine xr_op rfl rfl (xv_move rfl ?_)
              refine xr_op rfl rfl (xv_move rfl ?_)
              refine xr_op rfl rfl (xv_move rfl ?_)
              refine xr_op rfl rfl (xv_ia (sz := 2) (j := k) sl39 ty43 rfl (by rw [haq]; rfl) rfl (by (first | assumption | with_reducible exact Int.toNat_natCast _ | with_reducible rfl | rfl)) (by (first|omega|(dsimp only at *;omega)|(simp at *;omega))) (by (first|omega|(dsimp only at *;omega)|(simp at *;omega))) ?_)
              refine xr_op rfl rfl (xv_faddr fl43_1 rfl ?_)
              refine xr_op rfl rfl (xv_load1 ty3 rfl rfl (by ((repeat first|exact z_0|assumption|refine z_1 ?_|(refine z_l ?_;(repeat first|exact z_0|assumption|refine z_1 ?_);done)|refine z_r ?_);done)) (take_get (hxq (k) xq hkq) (j := 1) rfl) ?_)
              refine xr_op rfl rfl (xv_sub rfl rfl (wrap_i64 (by (first|omega|(dsimp only at *;omega)|(simp at *;omega))) (by (first|omega|(dsimp only at *;omega)|(simp at *;omega)))) ?_)
              refine xr_op rfl rfl (xv_assign rfl ?_)
              refine xr_end rfl ?_
              refine bk_n ?_
              refine th_n ?_
              refine xc_region ?_
              refine xr_op rfl rfl (xv_move rfl ?_)
              refine xr_op rfl rfl (xv_add rfl rfl (wrap_i64 (by (first|omega|(dsimp only at *;omega)|(simp at *;omega))) (by (first|omega|(dsimp only at *;omega)|(simp at *;omega)))) ?_)
              refine xr_op rfl rfl (xv_assign rfl ?_)
              refine xr_end rfl ?_
              exact rnd (k + 1) (by (first|omega|(dsimp only at *;omega)|(simp at *;omega))) (by (first|omega|(dsimp only at *;omega)|(simp at *;omega))) (le_put (le_put (le_put (le_put (le_put (le_put (le_put (le_put (le_emp _) rfl) rfl) rfl) rfl) rfl) (by rw [sumI_take hpt, ← Int.sub_sub]; rfl)) rfl) rfl) (by (first|((repeat first|exact s_0|exact s_1|exact s_3|refine s_4 ?_|refine s_5 ?_|refine s_6 ?_|refine s_7 ?_);done)|((repeat first|exact s_0|exact s_1|exact s_3|refine s_4 ?_|refine s_5 ?_|refine s_6 ?_|refine s_8 ?_);done)))
            · refine xr_end rfl ?_
              refine th_n ?_
              refine xc_false rfl ?_
              refine xc_exit ?_
              refine th_x ?_
              refine th_x ?_
              refine bk_same ?_
              refine th_n ?_
              refine xc_seq ?_
              refine xc_seq (xc_region ?_)
              obtain rfl : Q.length = k := by (first|omega|(dsimp only at *;omega)|(simp at *;omega))
              have hlost := lost_none hgy hvs
              rw [hvc, ← hQ] at hlost
              rw [show (Q.map Part.tons).take Q.length = Q.map Part.tons from by rw [← List.length_map (f := Part.tons), List.take_length]]
              refine xr_op rfl rfl (xv_move rfl ?_)
              refine xr_op rfl rfl (xv_neqF rfl rfl hlost ?_)
              refine xr_end rfl ?_
              refine th_n ?_
              refine xc_false rfl ?_
              refine xc_skip ?_
              refine th_n ?_
              refine xc_seq ?_
              refine xc_seq (xc_region ?_)
              refine xr_op rfl rfl (xv_move rfl ?_)
              refine xr_op rfl rfl (xv_neq2 rfl rfl (fun q12 => ?_) (fun q12 => ?_))
              · refine xr_op rfl rfl (xv_move rfl ?_)
                refine xr_no rfl rfl rfl rfl ?_
                refine xr_no rfl rfl rfl rfl ?_
                refine xr_op rfl rfl (xv_pick rfl rfl ?_)
                refine xr_end rfl ?_
                refine th_n ?_
                refine xc_true rfl ?_
                refine xc_seq (xc_region ?_)
                refine xr_op rfl rfl (xv_calls rfl hb10 (awake_c (up_ret ?_)))
                refine xr_op rfl rfl (xv_assign rfl ?_)
                refine xr_end rfl ?_
                refine th_n ?_
                refine xc_ret ?_
                refine th_r ?_
                refine body_ret (h' := h) rfl (ro_tmp rfl ro_nil) (by (first|((repeat first|exact s_0|exact s_1|exact s_3|refine s_4 ?_|refine s_5 ?_|refine s_6 ?_|refine s_7 ?_);done)|((repeat first|exact s_0|exact s_1|exact s_3|refine s_4 ?_|refine s_5 ?_|refine s_6 ?_|refine s_8 ?_);done))) ?_
                first | exact H | (exfalso; omega)
              · refine xr_op rfl rfl (xv_move rfl ?_)
                refine xr_gd rfl rfl rfl (xv_move rfl ?_)
                refine xr_gd rfl rfl rfl (xv_neq2 rfl rfl (fun q13 => ?_) (fun q13 => ?_))
                · refine xr_op rfl rfl (xv_pick rfl rfl ?_)
                  refine xr_end rfl ?_
                  refine th_n ?_
                  refine xc_true rfl ?_
                  refine xc_seq (xc_region ?_)
                  refine xr_op rfl rfl (xv_calls rfl hb10 (awake_c (up_ret ?_)))
                  refine xr_op rfl rfl (xv_assign rfl ?_)
                  refine xr_end rfl ?_
                  refine th_n ?_
                  refine xc_ret ?_
                  refine th_r ?_
                  refine body_ret (h' := h) rfl (ro_tmp rfl ro_nil) (by (first|((repeat first|exact s_0|exact s_1|exact s_3|refine s_4 ?_|refine s_5 ?_|refine s_6 ?_|refine s_7 ?_);done)|((repeat first|exact s_0|exact s_1|exact s_3|refine s_4 ?_|refine s_5 ?_|refine s_6 ?_|refine s_8 ?_);done))) ?_
                  first | exact H | (exfalso; omega)
                · refine xr_op rfl rfl (xv_pick rfl rfl ?_)
                  refine xr_end rfl ?_
                  refine th_n ?_
                  refine xc_false rfl ?_
                  refine xc_skip ?_
                  refine th_n ?_
                  refine xc_seq (xc_region ?_)
                  have hdr0 := blend_ok hgy hvs (draw := draw) (by (first|omega|(dsimp only at *;omega)|(simp at *;omega)))
                  obtain ⟨m9, hm9, hmc9, hdc9⟩ := atM_is (ms := y.moves) (draw := draw) y.moves.length (Nat.le_refl _) (by omega) (by omega)
                  obtain ⟨atd, hatd⟩ : ∃ a, atM y.moves draw y.moves.length = a := ⟨_, rfl⟩
                  rw [hatd] at hm9 hdc9 ⊢
                  obtain ⟨v, hvd⟩ : ∃ v, vs[dcn y.moves atd]? = some v := ⟨_, List.getElem?_eq_getElem (by omega)⟩
                  obtain ⟨_, hde⟩ := drawn_early hgy hvs hm9 hmc9 rfl hvd
                  rw [hdc9] at hde
                  have hatl := (List.getElem?_eq_some_iff.1 hm9).1
                  have hee : eYard ⟨y.ca, y.cc, y.coals, y.ma, y.mc, y.moves.take (atd + 1)⟩ = [.slice y.ca y.coals.length y.cc, .slice y.ma (atd + 1) y.mc] := by show [_, _] = _; rw [show (y.moves.take (atd + 1)).length = atd + 1 by rw [List.length_take]; omega]
                  have hdk : drawnA y draw = ((nzF (fun i => v.getD i 0) (opn y.moves).1), 0) := by
                    rw [drawnA_0 hgy hvs (by omega), show vs.getD draw.toNat [] = v from by rw [List.getD_eq_getElem?_getD, show draw.toNat = dcn y.moves atd by omega, hvd]; rfl]
                  refine xr_op rfl rfl (xv_loadA ty25 rfl rfl (by ((repeat first|exact z_0|assumption|refine z_1 ?_|(refine z_l ?_;(repeat first|exact z_0|assumption|refine z_1 ?_);done)|refine z_r ?_);done)) (by ((try apply evl_some rfl);(repeat (first|exact (rfl : _ = [])|apply evl_cons rfl (by (first|exact v_1|exact v_2|exact v_3|exact v_4|exact v_5|exact v_6|exact v_7|exact v_8|exact v_9|exact rfl))|exact rfl)))) (by rfl) ?_)
                  refine xr_op rfl rfl (xv_alloc ty25 (fun b31 hb31 => ?_))
                  refine xr_op rfl rfl (xv_s ty25 rfl rfl (by (first|(apply u_3;(repeat first|exact u_0|assumption|apply u_1|apply u_2);done)|((repeat first|exact u_0|assumption|apply u_1|apply u_2);done)|(apply u_3;apply u_3;(repeat first|exact u_0|assumption|apply u_1|apply u_2);done)|((repeat first|exact u_0|assumption|apply u_3|apply u_1);done))) (by ((try apply evl_some rfl);(repeat (first|exact (rfl : _ = [])|apply evl_cons rfl (by (first|exact v_1|exact v_2|exact v_3|exact v_4|exact v_5|exact v_6|exact v_7|exact v_8|exact v_9|exact rfl))|exact rfl)))) (by rfl) (by rfl) (by rfl) (by ((try apply evl_some rfl);(repeat (first|exact (rfl : _ = [])|apply evl_cons rfl (by (first|exact v_1|exact v_2|exact v_3|exact v_4|exact v_5|exact v_6|exact v_7|exact v_8|exact v_9|exact rfl))|exact rfl)))) ?_)
                  refine xr_end rfl ?_
                  refine th_n ?_
                  refine xc_seq (xc_region ?_)
                  refine xr_op rfl rfl (xv_faddr fl25_1 rfl ?_)
                  refine xr_op rfl rfl (xv_load1 ty23 rfl rfl (by ((repeat first|exact z_0|assumption|refine z_1 ?_|(refine z_l ?_;(repeat first|exact z_0|assumption|refine z_1 ?_);done)|refine z_r ?_);done)) (by rfl) ?_)
                  refine xr_op rfl rfl (xv_move rfl ?_)
                  refine xr_op rfl rfl (xv_add rfl rfl (wrap_i64 (by (first|omega|(dsimp only at *;omega)|(simp at *;omega))) (by (first|omega|(dsimp only at *;omega)|(simp at *;omega)))) ?_)
                  refine xr_op rfl rfl (xv_sliceToN (m := atd + 1) sl23 ty63 rfl rfl (by (first|omega|(dsimp only at *;omega)|(simp at *;omega))) (by (first|omega|(dsimp only at *;omega)|(simp at *;omega))) (by (first|omega|(dsimp only at *;omega)|(simp at *;omega))) ?_)
                  refine xr_op rfl rfl (xv_faddr fl25_1 rfl ?_)
                  refine xr_op rfl rfl (xv_s1 ty23 rfl rfl rfl (by (first|(apply u_3;(repeat first|exact u_0|assumption|apply u_1|apply u_2);done)|((repeat first|exact u_0|assumption|apply u_1|apply u_2);done)|(apply u_3;apply u_3;(repeat first|exact u_0|assumption|apply u_1|apply u_2);done)|((repeat first|exact u_0|assumption|apply u_3|apply u_1);done))) (by (first | rfl | exact Vec.one _ _)) (by (first | decide | exact Nat.le_of_ble_eq_true rfl | (simp only [List.length_cons, List.length_nil]; omega) | (simp; done))) (by ((try apply evl_some rfl);(repeat (first|exact (rfl : _ = [])|apply evl_cons rfl (by (first|exact v_1|exact v_2|exact v_3|exact v_4|exact v_5|exact v_6|exact v_7|exact v_8|exact v_9|exact rfl))|exact rfl)))) ?_)
                  refine xr_end rfl ?_
                  refine th_n ?_
                  refine xc_seq (xc_region ?_)
                  refine xr_op rfl rfl (xv_loadA ty25 rfl rfl (by ((repeat first|exact z_0|assumption|refine z_1 ?_|(refine z_l ?_;(repeat first|exact z_0|assumption|refine z_1 ?_);done)|refine z_r ?_);done)) (by ((try apply evl_some rfl);(repeat (first|exact (rfl : _ = [])|apply evl_cons rfl (by (first|exact v_1|exact v_2|exact v_3|exact v_4|exact v_5|exact v_6|exact v_7|exact v_8|exact v_9|exact rfl))|exact rfl)))) (by rfl) ?_)
                  refine xr_op rfl rfl (xv_move rfl ?_)
                  refine xr_op rfl rfl (xv_calls rfl hb19 (DrawnP_c (y := ⟨y.ca, y.cc, y.coals, y.ma, y.mc, y.moves.take (atd + 1)⟩) hee (⟨hy.coals.sub (by intro z hz; ((repeat first|exact z_0|assumption|refine z_1 ?_|(refine z_l ?_;(repeat first|exact z_0|assumption|refine z_1 ?_);done)|refine z_r ?_);done)), (hy.moves.take (atd + 1)).sub (by intro z hz; ((repeat first|exact z_0|assumption|refine z_1 ?_|(refine z_l ?_;(repeat first|exact z_0|assumption|refine z_1 ?_);done)|refine z_r ?_);done))⟩) ⟨by show y.coals.length ≤ 1000; omega, by show (y.moves.take (atd + 1)).length ≤ 1000; rw [List.length_take]; omega⟩ (P := (nzF (fun i => v.getD i 0) (opn y.moves).1)) hde (fun a6 c6 G6 s6 => up_ret ?_)))
                  refine xr_op rfl rfl (xv_move rfl ?_)
                  refine xr_op rfl rfl (xv_extract rfl rfl ?_)
                  refine xr_op rfl rfl (xv_extract rfl rfl ?_)
                  refine xr_op rfl rfl (xv_assign rfl ?_)
                  refine xr_op rfl rfl (xv_assign rfl ?_)
                  refine xr_end rfl ?_
                  refine th_n ?_
                  refine xc_seq (xc_region ?_)
                  refine xr_op rfl rfl (xv_loadA ty25 rfl rfl (by ((repeat first|exact z_0|assumption|refine z_1 ?_|(refine z_l ?_;(repeat first|exact z_0|assumption|refine z_1 ?_);done)|refine z_r ?_);done)) (by ((try apply evl_some rfl);(repeat (first|exact (rfl : _ = [])|apply evl_cons rfl (by (first|exact v_1|exact v_2|exact v_3|exact v_4|exact v_5|exact v_6|exact v_7|exact v_8|exact v_9|exact rfl))|exact rfl)))) (by rfl) ?_)
                  refine xr_op rfl rfl (xv_move rfl ?_)
                  refine xr_op rfl rfl (xv_calls rfl hb19 (DrawnP_c rfl (hy.sub (by intro z hz; ((repeat first|exact z_0|assumption|refine z_1 ?_|(refine z_l ?_;(repeat first|exact z_0|assumption|refine z_1 ?_);done)|refine z_r ?_);done))) (⟨by omega, by omega⟩ : Small y) (P := (nzF (fun i => v.getD i 0) (opn y.moves).1)) hdk (fun a7 c7 G7 s7 => up_ret ?_)))
                  refine xr_op rfl rfl (xv_move rfl ?_)
                  refine xr_op rfl rfl (xv_extract rfl rfl ?_)
                  refine xr_op rfl rfl (xv_extract rfl rfl ?_)
                  refine xr_op rfl rfl (xv_assign rfl ?_)
                  refine xr_op rfl rfl (xv_assign rfl ?_)
                  refine xr_end rfl ?_
                  refine th_n ?_
                  refine xc_seq (xc_region ?_)
                  refine xr_op rfl rfl (xv_move rfl ?_)
                  refine xr_op rfl rfl (xv_move rfl ?_)
                  refine xr_op rfl rfl (xv_calls rfl hb23 (ListsT_c (xs := (nzF (fun i => v.getD i 0) (opn y.moves).1)) (ys := (nzF (fun i => v.getD i 0) (opn y.moves).1)) rfl rfl (s6.sub (by intro z hz; ((repeat first|exact z_0|assumption|refine z_1 ?_|(refine z_l ?_;(repeat first|exact z_0|assumption|refine z_1 ?_);done)|refine z_r ?_);done))) (s7.sub (by intro z hz; ((repeat first|exact z_0|assumption|refine z_1 ?_|(refine z_l ?_;(repeat first|exact z_0|assumption|refine z_1 ?_);done)|refine z_r ?_);done))) rfl (by have := nzF_len (fun i => v.getD i 0) (opn y.moves).1; omega) (up_ret ?_)))
                  refine xr_op rfl rfl (xv_move rfl ?_)
                  refine xr_gd rfl rfl rfl (xv_move rfl ?_)
                  refine xr_gd rfl rfl rfl (xv_eqlT rfl rfl rfl ?_)
                  refine xr_op rfl rfl (xv_pick rfl rfl ?_)
                  refine xr_op rfl rfl (xv_move rfl ?_)
                  refine xr_gd rfl rfl rfl (xv_move rfl ?_)
                  refine xr_gd rfl rfl rfl (xv_eqlT rfl rfl rfl ?_)
                  refine xr_op rfl rfl (xv_pick rfl rfl ?_)
                  refine xr_op rfl rfl (xv_move rfl ?_)
                  refine xr_gd rfl rfl rfl (xv_calls rfl hb10 (awake_c (up_ret ?_)))
                  refine xr_op rfl rfl (xv_pick rfl rfl ?_)
                  refine xr_op rfl rfl (xv_assign rfl ?_)
                  refine xr_end rfl ?_
                  refine th_n ?_
                  refine xc_ret ?_
                  refine body_ret (h' := h) rfl (ro_tmp rfl ro_nil) (by (first|((repeat first|exact s_0|exact s_1|exact s_3|refine s_4 ?_|refine s_5 ?_|refine s_6 ?_|refine s_7 ?_);done)|((repeat first|exact s_0|exact s_1|exact s_3|refine s_4 ?_|refine s_5 ?_|refine s_6 ?_|refine s_8 ?_);done))) ?_
                  first | exact H | (exfalso; omega)

end Go.Proofs.Ytpefpafijadfmaa
