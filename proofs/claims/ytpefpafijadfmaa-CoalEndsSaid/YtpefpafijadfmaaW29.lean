/-
  Walks.
-/
import Derived.Test.YtpefpafijadfmaaP2
import Derived.Test.YtpefpafijadfmaaP20
namespace Go.Proofs.Ytpefpafijadfmaa
open Go Go.H
set_option maxRecDepth 100000
set_option maxHeartbeats 8000000
set_option linter.all false
theorem endsV_of {y : Yard} {vs : List (List Int)} {v : List Int} {i : Nat} (hg : GoodYard y) (h : vecsR y = some vs) (hv : vs[i]? = some v) : EndsV y v (nzF (fun i => v.getD i 0) (opn y.moves).1) ∧ 1 ≤ sumI v := by
  obtain ⟨hP, hs⟩ := parts_all hg.2.1 y.moves.length vs (Nat.le_refl _) h
  have hm := List.mem_of_getElem? hv
  refine ⟨⟨hg, rfl, hP.bd v hm, fun j => ?_⟩, hs v hm⟩
  have h1 := room_nn hP j
  have h2 := (taken_part hP.bd i 1 j).2
  rw [drop_one hv, taken_one] at h2
  unfold roomR at h1
  unfold contE
  dsimp only at h2
  omega
theorem BlendX_c {y : Yard} {h : Hp} {R : Ending → Hp → Prop} (hy : YardV h y) (hs : Small y) {draw : Int} (H0 : ∀ a c e G, e ≠ 0 → R (.returned (.tuple ⟨[.slice a 0 c, I e]⟩)) (G ++ h))
    (H1 : ∀ vs v P a c G, GoodYard y → vecsR y = some vs → (0 ≤ draw ∧ draw ≤ (vs.length : Int) - 1) → vs[draw.toNat]? = some v → P = nzF (fun i => v.getD i 0) (opn y.moves).1 → EndsV y v P → 1 ≤ sumI (P.map Part.tons) → SlV G 2 eSpan a ((List.range y.coals.length).map (bSp (takenR [v]) (contE y) (opn y.moves).1)) → R (.returned (.tuple ⟨[.slice a y.coals.length c, I 0]⟩)) (G ++ h)) : ACalls Try.prog 11 ⟨[.agg ⟨eYard y⟩, I draw]⟩ h R := by
  refine Blend_c hy hs fun a c G hsl => ?_
  by_cases hg : GoodYard y
  · cases hv : vecsR y with
    | none => rw [blendA_10 hg hv]; exact H0 a c 10 G (by decide)
    | some vs =>
      by_cases hd : 0 ≤ draw ∧ draw ≤ (vs.length : Int) - 1
      · obtain ⟨v, hvv⟩ : ∃ v, vs[draw.toNat]? = some v := ⟨_, List.getElem?_eq_getElem (by omega)⟩
        obtain ⟨hE, h1⟩ := endsV_of hg hv hvv
        have e := blendA_0b hg hv hd hvv
        rw [e] at hsl ⊢
        have h2 : 1 ≤ sumI ((nzF (fun i => v.getD i 0) (opn y.moves).1).map Part.tons) := by
          rw [nz_tons (fun j => getD_nn (fun z hz => (hE.nn z hz).1) j)]
          have hP := (parts_all hg.2.1 y.moves.length vs (Nat.le_refl _) hv).1
          have hl := hP.len v (List.mem_of_getElem? hvv)
          rw [← hl, ← sumI_sF]; exact h1
        have := H1 vs v _ a c G hg hv hd hvv rfl hE h2 hsl
        dsimp only
        rw [List.length_map, List.length_range]
        exact this
      · rw [blendA_2 hg hv hd]; exact H0 a c 2 G (by decide)
  · rw [blendA_1 hg]; exact H0 a c 1 G (by decide)
theorem DrawnX_c {y : Yard} {h : Hp} {R : Ending → Hp → Prop} (hy : YardV h y) (hs : Small y) {draw : Int} {vs : List (List Int)} {v : List Int} {P : List Part} (hg : GoodYard y) (hv : vecsR y = some vs) (hd : 0 ≤ draw ∧ draw ≤ (vs.length : Int) - 1) (hvv : vs[draw.toNat]? = some v) (hP : P = nzF (fun i => v.getD i 0) (opn y.moves).1)
    (H : ∀ a c G, SlV G 2 ePart a P → R (.returned (.tuple ⟨[.slice a P.length c, I 0]⟩)) (G ++ h)) : ACalls Try.prog 19 ⟨[.agg ⟨eYard y⟩, I draw]⟩ h R := by
  refine Drawn_c hy hs ?_
  rw [drawnA_0 hg hv hd, show vs.getD draw.toNat [] = v from by rw [List.getD_eq_getElem?_getD, hvv]; rfl, ← hP]
  exact H
theorem CanR_c {y : Yard} {h : Hp} {R : Ending → Hp → Prop} (hy : YardV h y) (hs : Small y) {draw : Int} {ta : Option Addr} {tc n : Nat} {ts : List Int} {vs : List (List Int)} {v : List Int} {b : Bool} (hg : GoodYard y) (hv : vecsR y = some vs) (hd : 0 ≤ draw ∧ draw ≤ (vs.length : Int) - 1) (hvv : vs[draw.toNat]? = some v) (hn : n = ts.length) (hl : ts.length = y.coals.length) (ht : SlV h 1 eI ta ts) (hb : canB (partsL y [v]) ts = b)
    (H : R (.returned (.tuple ⟨[.bool b, I 0]⟩)) h) : ACalls Try.prog 17 ⟨[.agg ⟨eYard y⟩, I draw, .slice ta n tc]⟩ h R := by
  subst hn
  refine Can_c hy hs ht ?_
  rw [canA_0 hg hv hd hl hvv, hb]; exact H

theorem CoalEnds_c {y : Yard} {draw which : Int} {h : Hp} {R : Ending → Hp → Prop} (hy : YardV h y) (hcl : y.coals.length ≤ 9223372036854775807) (hml : y.moves.length ≤ 9223372036854775807)  (H : R (.returned (.bool true)) h) : ACalls Try.prog 5 ⟨[.agg ⟨eYard y⟩, I draw, I which]⟩ h R := by
  refine calls_of_xc (N := 304) Try.func5 rfl (by rfl) ?_
  refine xc_seq (xc_region ?_)
  refine xr_op rfl rfl (xv_box rfl (fun b3 hb3 => ?_))
  refine xr_op rfl rfl (xv_assign rfl ?_)
  refine xr_end rfl ?_
  refine th_n ?_
  refine xc_seq ?_
  refine xc_seq (xc_region ?_)
  refine xr_op rfl rfl (xv_loadA ty25 rfl rfl (by ((repeat first|exact z_0|assumption|refine z_1 ?_|(refine z_l ?_;(repeat first|exact z_0|assumption|refine z_1 ?_);done)|refine z_r ?_);done)) (by ((try apply evl_some rfl);(repeat (first|exact (rfl : _ = [])|apply evl_cons rfl (by (first|exact v_1|exact v_2|exact v_3|exact v_4|exact v_5|exact v_6|exact v_7|exact v_8|exact v_9|exact rfl))|exact rfl)))) (by rfl) ?_)
  refine xr_op rfl rfl (xv_calls rfl hb9 (large_c (hy.sub (by intro z hz; ((repeat first|exact z_0|assumption|refine z_1 ?_|(refine z_l ?_;(repeat first|exact z_0|assumption|refine z_1 ?_);done)|refine z_r ?_);done))) hcl hml (fun hlg => up_ret ?_) (fun hl1 hl2 => up_ret ?_)))
  · refine xr_end rfl ?_
    refine th_n ?_
    refine xc_true rfl ?_
    refine xc_seq (xc_region ?_)
    refine xr_op rfl rfl (xv_calls rfl hb10 (awake_c (up_ret ?_)))
    refine xr_op rfl rfl (xv_assign rfl ?_)
    refine xr_end rfl ?_
    refine th_n ?_
    refine xc_ret ?_
    refine th_r ?_
    refine body_ret (h' := h) rfl (ro_tmp rfl ro_nil) (by (first|((repeat first|exact s_0|exact s_1|exact s_3|refine s_4 ?_|refine s_5 ?_|refine s_6 ?_|refine s_7 ?_);done)|((repeat first|exact s_0|exact s_1|exact s_3|refine s_4 ?_|refine s_5 ?_|refine s_6 ?_|refine s_8 ?_);done))) ?_
    first | exact H | (exfalso; omega)
  · refine xr_end rfl ?_
    refine th_n ?_
    refine xc_false rfl ?_
    refine xc_skip ?_
    refine th_n ?_
    refine xc_seq (xc_region ?_)
    refine xr_op rfl rfl (xv_loadA ty25 rfl rfl (by ((repeat first|exact z_0|assumption|refine z_1 ?_|(refine z_l ?_;(repeat first|exact z_0|assumption|refine z_1 ?_);done)|refine z_r ?_);done)) (by ((try apply evl_some rfl);(repeat (first|exact (rfl : _ = [])|apply evl_cons rfl (by (first|exact v_1|exact v_2|exact v_3|exact v_4|exact v_5|exact v_6|exact v_7|exact v_8|exact v_9|exact rfl))|exact rfl)))) (by rfl) ?_)
    refine xr_op rfl rfl (xv_move rfl ?_)
    refine xr_op rfl rfl (xv_calls rfl hb11 (BlendX_c (hy.sub (by intro z hz; ((repeat first|exact z_0|assumption|refine z_1 ?_|(refine z_l ?_;(repeat first|exact z_0|assumption|refine z_1 ?_);done)|refine z_r ?_);done))) (⟨by omega, by omega⟩ : Small y) (fun a1 c1 e1 G1 he => up_ret ?_) (fun vs v P a1 c1 G1 hgy hvs hdr hv hP hE hall s1 => up_ret ?_)))
    · refine xr_op rfl rfl (xv_move rfl ?_)
      refine xr_op rfl rfl (xv_extract rfl rfl ?_)
      refine xr_op rfl rfl (xv_extract rfl rfl ?_)
      refine xr_op rfl rfl (xv_assign rfl ?_)
      refine xr_op rfl rfl (xv_assign rfl ?_)
      refine xr_end rfl ?_
      refine th_n ?_
      refine xc_seq ?_
      refine xc_seq (xc_region ?_)
      refine xr_op rfl rfl (xv_move rfl ?_)
      refine xr_op rfl rfl (xv_neqT rfl rfl he ?_)
      refine xr_op rfl rfl (xv_move rfl ?_)
      refine xr_no rfl rfl rfl rfl ?_
      refine xr_no rfl rfl rfl rfl ?_
      refine xr_op rfl rfl (xv_pick rfl rfl ?_)
      refine xr_op rfl rfl (xv_move rfl ?_)
      refine xr_no rfl rfl rfl rfl ?_
      refine xr_no rfl rfl rfl rfl ?_
      refine xr_no rfl rfl rfl rfl ?_
      refine xr_no rfl rfl rfl rfl ?_
      refine xr_op rfl rfl (xv_pick rfl rfl ?_)
      refine xr_end rfl ?_
      refine th_n ?_
      refine xc_true rfl ?_
      refine xc_seq (xc_region ?_)
      refine xr_op rfl rfl (xv_move rfl ?_)
      refine xr_op rfl rfl (xv_eqlF rfl rfl he ?_)
      refine xr_op rfl rfl (xv_move rfl ?_)
      refine xr_gd rfl rfl rfl (xv_move rfl ?_)
      refine xr_gd rfl rfl rfl (xv_len sl28 rfl ?_)
      refine xr_gd rfl rfl rfl (xv_eqlT rfl rfl rfl ?_)
      refine xr_op rfl rfl (xv_pick rfl rfl ?_)
      refine xr_op rfl rfl (xv_move rfl ?_)
      refine xr_gd rfl rfl rfl (xv_calls rfl hb10 (awake_c (up_ret ?_)))
      refine xr_op rfl rfl (xv_pick rfl rfl ?_)
      refine xr_op rfl rfl (xv_assign rfl ?_)
      refine xr_end rfl ?_
      refine th_n ?_
      refine xc_ret ?_
      refine th_r ?_
      refine body_ret (h' := h) rfl (ro_tmp rfl ro_nil) (by (first|((repeat first|exact s_0|exact s_1|exact s_3|refine s_4 ?_|refine s_5 ?_|refine s_6 ?_|refine s_7 ?_);done)|((repeat first|exact s_0|exact s_1|exact s_3|refine s_4 ?_|refine s_5 ?_|refine s_6 ?_|refine s_8 ?_);done))) ?_
      first | exact H | (exfalso; omega)
    · refine xr_op rfl rfl (xv_move rfl ?_)
      refine xr_op rfl rfl (xv_extract rfl rfl ?_)
      refine xr_op rfl rfl (xv_extract rfl rfl ?_)
      refine xr_op rfl rfl (xv_assign rfl ?_)
      refine xr_op rfl rfl (xv_assign rfl ?_)
      refine xr_end rfl ?_
      refine th_n ?_
      refine xc_seq ?_
      refine xc_seq (xc_region ?_)
      refine xr_op rfl rfl (xv_move rfl ?_)
      refine xr_op rfl rfl (xv_neqF rfl rfl rfl ?_)
      refine xr_op rfl rfl (xv_move rfl ?_)
      refine xr_gd rfl rfl rfl (xv_move rfl ?_)
      refine xr_gd rfl rfl rfl (xv_lss2 rfl rfl (fun q1 => ?_) (fun q1 => ?_))
      · refine xr_op rfl rfl (xv_pick rfl rfl ?_)
        refine xr_op rfl rfl (xv_move rfl ?_)
        refine xr_no rfl rfl rfl rfl ?_
        refine xr_no rfl rfl rfl rfl ?_
        refine xr_no rfl rfl rfl rfl ?_
        refine xr_no rfl rfl rfl rfl ?_
        refine xr_op rfl rfl (xv_pick rfl rfl ?_)
        refine xr_end rfl ?_
        refine th_n ?_
        refine xc_true rfl ?_
        refine xc_seq (xc_region ?_)
        refine xr_op rfl rfl (xv_move rfl ?_)
        refine xr_op rfl rfl (xv_eqlT rfl rfl rfl ?_)
        refine xr_op rfl rfl (xv_move rfl ?_)
        refine xr_no rfl rfl rfl rfl ?_
        refine xr_no rfl rfl rfl rfl ?_
        refine xr_no rfl rfl rfl rfl ?_
        refine xr_op rfl rfl (xv_pick rfl rfl ?_)
        refine xr_op rfl rfl (xv_move rfl ?_)
        refine xr_gd rfl rfl rfl (xv_calls rfl hb10 (awake_c (up_ret ?_)))
        refine xr_op rfl rfl (xv_pick rfl rfl ?_)
        refine xr_op rfl rfl (xv_assign rfl ?_)
        refine xr_end rfl ?_
        refine th_n ?_
        refine xc_ret ?_
        refine th_r ?_
        refine body_ret (h' := h) rfl (ro_tmp rfl ro_nil) (by (first|((repeat first|exact s_0|exact s_1|exact s_3|refine s_4 ?_|refine s_5 ?_|refine s_6 ?_|refine s_7 ?_);done)|((repeat first|exact s_0|exact s_1|exact s_3|refine s_4 ?_|refine s_5 ?_|refine s_6 ?_|refine s_8 ?_);done))) ?_
        first | exact H | (exfalso; omega)
      · refine xr_op rfl rfl (xv_pick rfl rfl ?_)
        refine xr_op rfl rfl (xv_move rfl ?_)
        refine xr_gd rfl rfl rfl (xv_move rfl ?_)
        refine xr_gd rfl rfl rfl (xv_move rfl ?_)
        refine xr_gd rfl rfl rfl (xv_len sl28 rfl ?_)
        refine xr_gd rfl rfl rfl (xv_geq2 rfl rfl (fun q2 => ?_) (fun q2 => ?_))
        · refine xr_op rfl rfl (xv_pick rfl rfl ?_)
          refine xr_end rfl ?_
          refine th_n ?_
          refine xc_true rfl ?_
          refine xc_seq (xc_region ?_)
          refine xr_op rfl rfl (xv_move rfl ?_)
          refine xr_op rfl rfl (xv_eqlT rfl rfl rfl ?_)
          refine xr_op rfl rfl (xv_move rfl ?_)
          refine xr_no rfl rfl rfl rfl ?_
          refine xr_no rfl rfl rfl rfl ?_
          refine xr_no rfl rfl rfl rfl ?_
          refine xr_op rfl rfl (xv_pick rfl rfl ?_)
          refine xr_op rfl rfl (xv_move rfl ?_)
          refine xr_gd rfl rfl rfl (xv_calls rfl hb10 (awake_c (up_ret ?_)))
          refine xr_op rfl rfl (xv_pick rfl rfl ?_)
          refine xr_op rfl rfl (xv_assign rfl ?_)
          refine xr_end rfl ?_
          refine th_n ?_
          refine xc_ret ?_
          refine th_r ?_
          refine body_ret (h' := h) rfl (ro_tmp rfl ro_nil) (by (first|((repeat first|exact s_0|exact s_1|exact s_3|refine s_4 ?_|refine s_5 ?_|refine s_6 ?_|refine s_7 ?_);done)|((repeat first|exact s_0|exact s_1|exact s_3|refine s_4 ?_|refine s_5 ?_|refine s_6 ?_|refine s_8 ?_);done))) ?_
          first | exact H | (exfalso; omega)
        · refine xr_op rfl rfl (xv_pick rfl rfl ?_)
          refine xr_end rfl ?_
          refine th_n ?_
          refine xc_false rfl ?_
          refine xc_skip ?_
          refine th_n ?_
          refine xc_seq (xc_region ?_)
          obtain ⟨w, rfl⟩ := Int.eq_ofNat_of_zero_le (show 0 ≤ which by omega)
          have hwn : w < y.coals.length := by omega
          have hn6 := hgy.2.2.1.2
          have hm32 := hgy.2.2.2
          have hop := opn_le y.moves
          have hpl : P.length ≤ 32 := by rw [hP]; exact Nat.le_trans (nzF_len _ _) (by omega)
          refine xr_op rfl rfl (xv_loadA ty25 rfl rfl (by ((repeat first|exact z_0|assumption|refine z_1 ?_|(refine z_l ?_;(repeat first|exact z_0|assumption|refine z_1 ?_);done)|refine z_r ?_);done)) (by ((try apply evl_some rfl);(repeat (first|exact (rfl : _ = [])|apply evl_cons rfl (by (first|exact v_1|exact v_2|exact v_3|exact v_4|exact v_5|exact v_6|exact v_7|exact v_8|exact v_9|exact rfl))|exact rfl)))) (by rfl) ?_)
          refine xr_op rfl rfl (xv_move rfl ?_)
          refine xr_op rfl rfl (xv_calls rfl hb19 (DrawnX_c (hy.sub (by intro z hz; ((repeat first|exact z_0|assumption|refine z_1 ?_|(refine z_l ?_;(repeat first|exact z_0|assumption|refine z_1 ?_);done)|refine z_r ?_);done))) (⟨by omega, by omega⟩ : Small y) hgy hvs hdr hv hP (fun a2 c2 G2 s2 => up_ret ?_)))
          refine xr_op rfl rfl (xv_move rfl ?_)
          refine xr_op rfl rfl (xv_extract rfl rfl ?_)
          refine xr_op rfl rfl (xv_extract rfl rfl ?_)
          refine xr_op rfl rfl (xv_assign rfl ?_)
          refine xr_op rfl rfl (xv_assign rfl ?_)
          refine xr_end rfl ?_
          refine th_n ?_
          refine xc_seq (xc_region ?_)
          refine xr_op rfl rfl (xv_assign rfl ?_)
          refine xr_end rfl ?_
          refine th_n ?_
          refine xc_seq ?_
          refine xc_seq (xc_region ?_)
          refine xr_op rfl rfl (xv_assign rfl ?_)
          refine xr_end rfl ?_
          refine th_n ?_
          refine xc_block ?_
          refine xc_loop (σ := Nat) (fun k => k ≤ P.length) (fun k => ((((((((emp.put (some 1) (I draw)).put (some 2) (I (w : Int))).put (some 3) (.pointer (some ⟨b3, 0, none⟩))).put (some 7) (.slice a1 y.coals.length c1)).put (some 9) (.slice a2 P.length c2)).put (some 10) (I 0)).put (some 11) (I (sumI ((P.map Part.tons).take k)))).put (some 12) (I k))) (fun k => (G2 ++ (G1 ++ (b3, .cells ⟨eYard y⟩ 25) :: h))) (fun k => P.length - k) 0 (Nat.zero_le _) (le_put (le_put (le_put (le_put (le_put (le_put (le_put (le_put (le_emp _) rfl) rfl) rfl) rfl) rfl) rfl) rfl) rfl) (by (first|((repeat first|exact s_0|exact s_1|exact s_3|refine s_4 ?_|refine s_5 ?_|refine s_6 ?_|refine s_7 ?_);done)|((repeat first|exact s_0|exact s_1|exact s_3|refine s_4 ?_|refine s_5 ?_|refine s_6 ?_|refine s_8 ?_);done))) ?_
          rintro k hk
          refine xc_seq ?_
          refine xc_seq (xc_region ?_)
          refine xr_op rfl rfl (xv_move rfl ?_)
          refine xr_op rfl rfl (xv_move rfl ?_)
          refine xr_op rfl rfl (xv_len sl39 rfl ?_)
          refine xr_op rfl rfl (xv_lss2 rfl rfl (fun q3 => ?_) (fun q3 => ?_))
          · refine xr_end rfl ?_
            refine th_n ?_
            refine xc_true rfl ?_
            refine xc_skip ?_
            refine th_n ?_
            refine xc_seq ?_
            refine xc_block ?_
            refine xc_seq ?_
            refine xc_seq ?_
            rcases Nat.eq_zero_or_pos k with h0k | h0k
            · refine xc_draw0 [(0, .S), (1, .S), (2, .S), (3, .S), (4, .R), (5, .S), (6, .S), (7, .S), (8, .S), (9, .S), (10, .S), (11, .S), (12, .S), (13, .S), (14, .R), (15, .S), (16, .S), (17, .S), (18, .S), (19, .S), (20, .R), (21, .S), (22, .S), (23, .S)] mixed (by kernel_rfl) ?_
              have hltp : k < P.length := by (first | omega | (dsimp only at *; omega) | (simp at *; omega))
              obtain ⟨bp, op, lp, tp, fzp, hap, hmp, hxp⟩ := (s2).at hltp
              obtain ⟨xp, hkp⟩ : ∃ qq_, P[k]? = some qq_ := ⟨_, List.getElem?_eq_getElem hltp⟩
              obtain ⟨ht1, hlb, hlt, hle, hcl5, hcz⟩ := hE.at hkp
              have hpt : (P.map Part.tons)[k]? = some xp.tons := by rw [List.getElem?_map, hkp]; rfl
              have hsb := sumI_bd (B := 1048576) (l := (P.map Part.tons).take k) (fun z hz => by obtain ⟨p9, hp9, rfl⟩ := List.mem_map.1 (List.mem_of_mem_take hz); obtain ⟨i9, hi9⟩ := List.getElem?_of_mem hp9; have := (hE.at hi9).1; omega)
              rw [List.length_take, List.length_map] at hsb
              refine js_S rfl rfl (.inl rfl) (xv_move rfl ⟨rfl, rfl⟩) ?_
              refine js_S rfl rfl (.inl rfl) (xv_move rfl ⟨rfl, rfl⟩) ?_
              refine js_S rfl rfl (.inl rfl) (xv_ia (sz := 2) (j := k) sl39 ty43 rfl (by rw [hap]; rfl) rfl (by (first | assumption | with_reducible exact Int.toNat_natCast _ | with_reducible rfl | rfl)) (by (first | omega | (dsimp only at *; omega) | (simp at *; omega))) (by (first | omega | (dsimp only at *; omega) | (simp at *; omega))) ⟨rfl, rfl⟩) ?_
              refine js_S rfl rfl (.inl rfl) (xv_faddr fl43_1 rfl ⟨rfl, rfl⟩) ?_
              refine js_R0 rfl rfl (.inl rfl) (xv_load1 ty3 rfl rfl (by ((repeat first|exact z_0|assumption|refine z_1 ?_|(refine z_l ?_;(repeat first|exact z_0|assumption|refine z_1 ?_);done)|refine z_r ?_);done)) (take_get (hxp (k) xp hkp) (j := 1) rfl) ⟨rfl, rfl⟩) ?_
              refine js_S rfl rfl (.inl rfl) (xv_cmpK rfl rfl (cmpF rfl (by simp only [cmpP]; (first | omega | (dsimp only at *; omega) | (simp at *; omega)))) ⟨rfl, rfl⟩) ?_
              refine js_S rfl rfl (.inl rfl) (xv_move rfl ⟨rfl, rfl⟩) ?_
              refine js_S rfl rfl (.inr ⟨_, _, rfl, rfl⟩) (xv_move rfl ⟨rfl, rfl⟩) ?_
              refine js_S rfl rfl (.inr ⟨_, _, rfl, rfl⟩) (xv_cmpK rfl rfl (cmpF rfl (by simp only [cmpP]; (first | omega | (dsimp only at *; omega) | (simp at *; omega)))) ⟨rfl, rfl⟩) ?_
              refine js_S rfl rfl (.inr ⟨_, _, rfl, rfl⟩) (xv_move rfl ⟨rfl, rfl⟩) ?_
              refine js_Ss rfl rfl ⟨_, _, _, rfl, rfl, rfl⟩ ?_
              refine js_Ss rfl rfl ⟨_, _, _, rfl, rfl, rfl⟩ ?_
              refine js_Ss rfl rfl ⟨_, _, _, rfl, rfl, rfl⟩ ?_
              refine js_Ss rfl rfl ⟨_, _, _, rfl, rfl, rfl⟩ ?_
              refine js_Rs rfl rfl ⟨_, _, _, rfl, rfl, rfl⟩ ?_
              refine js_Ss rfl rfl ⟨_, _, _, rfl, rfl, rfl⟩ ?_
              refine js_Ss rfl rfl ⟨_, _, _, rfl, rfl, rfl⟩ ?_
              refine js_Ss rfl rfl ⟨_, _, _, rfl, rfl, rfl⟩ ?_
              refine js_Ss rfl rfl ⟨_, _, _, rfl, rfl, rfl⟩ ?_
              refine js_Ss rfl rfl ⟨_, _, _, rfl, rfl, rfl⟩ ?_
              refine js_Rs rfl rfl ⟨_, _, _, rfl, rfl, rfl⟩ ?_
              refine js_Ss rfl rfl ⟨_, _, _, rfl, rfl, rfl⟩ ?_
              refine js_S rfl rfl (.inr ⟨_, _, rfl, rfl⟩) (xv_pick rfl rfl ⟨rfl, rfl⟩) ?_
              refine js_S rfl rfl (.inl rfl) (xv_pick rfl rfl ⟨rfl, rfl⟩) ?_
              refine j_end0 ?_
              refine th_n ?_
              refine xc_false rfl ?_
              refine xc_skip ?_
              refine th_n ?_
              refine xc_region ?_
              refine xr_op rfl rfl (xv_move rfl ?_)
              refine xr_op rfl rfl (xv_move rfl ?_)
              refine xr_op rfl rfl (xv_move rfl ?_)
              refine xr_op rfl rfl (xv_ia (sz := 2) (j := k) sl39 ty43 rfl (by rw [hap]; rfl) rfl (by (first | assumption | with_reducible exact Int.toNat_natCast _ | with_reducible rfl | rfl)) (by (first | omega | (dsimp only at *; omega) | (simp at *; omega))) (by (first | omega | (dsimp only at *; omega) | (simp at *; omega))) ?_)
              refine xr_op rfl rfl (xv_faddr fl43_1 rfl ?_)
              refine xr_op rfl rfl (xv_load1 ty3 rfl rfl (by ((repeat first|exact z_0|assumption|refine z_1 ?_|(refine z_l ?_;(repeat first|exact z_0|assumption|refine z_1 ?_);done)|refine z_r ?_);done)) (take_get (hxp (k) xp hkp) (j := 1) rfl) ?_)
              refine xr_op rfl rfl (xv_add rfl rfl (wrap_i64 (by (first | omega | (dsimp only at *; omega) | (simp at *; omega))) (by (first | omega | (dsimp only at *; omega) | (simp at *; omega)))) ?_)
              refine xr_op rfl rfl (xv_assign rfl ?_)
              refine xr_end rfl ?_
              refine bk_n ?_
              refine th_n ?_
              refine xc_region ?_
              refine xr_op rfl rfl (xv_move rfl ?_)
              refine xr_op rfl rfl (xv_add rfl rfl (wrap_i64 (by (first | omega | (dsimp only at *; omega) | (simp at *; omega))) (by (first | omega | (dsimp only at *; omega) | (simp at *; omega)))) ?_)
              refine xr_op rfl rfl (xv_assign rfl ?_)
              refine xr_end rfl ?_
              exact rnd (k + 1) (by (first | omega | (dsimp only at *; omega) | (simp at *; omega))) (by (first | omega | (dsimp only at *; omega) | (simp at *; omega))) (le_put (le_put (le_put (le_put (le_put (le_put (le_put (le_put (le_emp _) rfl) rfl) rfl) rfl) rfl) rfl) (by rw [sumI_take hpt]; rfl)) rfl) (by (first|((repeat first|exact s_0|exact s_1|exact s_3|refine s_4 ?_|refine s_5 ?_|refine s_6 ?_|refine s_7 ?_);done)|((repeat first|exact s_0|exact s_1|exact s_3|refine s_4 ?_|refine s_5 ?_|refine s_6 ?_|refine s_8 ?_);done)))
            · refine xc_draw0 [(0, .S), (1, .S), (2, .S), (3, .S), (4, .R), (5, .S), (6, .S), (7, .S), (8, .S), (9, .S), (10, .S), (11, .S), (12, .S), (13, .S), (14, .R), (15, .S), (16, .S), (17, .S), (18, .S), (19, .S), (20, .R), (21, .S), (22, .S), (23, .S)] mixed (by kernel_rfl) ?_
              have hltp : k < P.length := by (first | omega | (dsimp only at *; omega) | (simp at *; omega))
              obtain ⟨bp, op, lp, tp, fzp, hap, hmp, hxp⟩ := (s2).at hltp
              obtain ⟨xp, hkp⟩ : ∃ qq_, P[k]? = some qq_ := ⟨_, List.getElem?_eq_getElem hltp⟩
              obtain ⟨ht1, hlb, hlt, hle, hcl5, hcz⟩ := hE.at hkp
              have hpt : (P.map Part.tons)[k]? = some xp.tons := by rw [List.getElem?_map, hkp]; rfl
              have hsb := sumI_bd (B := 1048576) (l := (P.map Part.tons).take k) (fun z hz => by obtain ⟨p9, hp9, rfl⟩ := List.mem_map.1 (List.mem_of_mem_take hz); obtain ⟨i9, hi9⟩ := List.getElem?_of_mem hp9; have := (hE.at hi9).1; omega)
              rw [List.length_take, List.length_map] at hsb
              refine js_S rfl rfl (.inl rfl) (xv_move rfl ⟨rfl, rfl⟩) ?_
              refine js_S rfl rfl (.inl rfl) (xv_move rfl ⟨rfl, rfl⟩) ?_
              refine js_S rfl rfl (.inl rfl) (xv_ia (sz := 2) (j := k) sl39 ty43 rfl (by rw [hap]; rfl) rfl (by (first | assumption | with_reducible exact Int.toNat_natCast _ | with_reducible rfl | rfl)) (by (first | omega | (dsimp only at *; omega) | (simp at *; omega))) (by (first | omega | (dsimp only at *; omega) | (simp at *; omega))) ⟨rfl, rfl⟩) ?_
              refine js_S rfl rfl (.inl rfl) (xv_faddr fl43_1 rfl ⟨rfl, rfl⟩) ?_
              refine js_R0 rfl rfl (.inl rfl) (xv_load1 ty3 rfl rfl (by ((repeat first|exact z_0|assumption|refine z_1 ?_|(refine z_l ?_;(repeat first|exact z_0|assumption|refine z_1 ?_);done)|refine z_r ?_);done)) (take_get (hxp (k) xp hkp) (j := 1) rfl) ⟨rfl, rfl⟩) ?_
              refine js_S rfl rfl (.inl rfl) (xv_cmpK rfl rfl (cmpF rfl (by simp only [cmpP]; (first | omega | (dsimp only at *; omega) | (simp at *; omega)))) ⟨rfl, rfl⟩) ?_
              refine js_S rfl rfl (.inl rfl) (xv_move rfl ⟨rfl, rfl⟩) ?_
              refine js_S rfl rfl (.inr ⟨_, _, rfl, rfl⟩) (xv_move rfl ⟨rfl, rfl⟩) ?_
              refine js_S rfl rfl (.inr ⟨_, _, rfl, rfl⟩) (xv_cmpK rfl rfl (cmpT (by simp only [cmpP]; (first | omega | (dsimp only at *; omega) | (simp at *; omega)))) ⟨rfl, rfl⟩) ?_
              refine js_S rfl rfl (.inr ⟨_, _, rfl, rfl⟩) (xv_move rfl ⟨rfl, rfl⟩) ?_
              obtain ⟨xr, hkr⟩ : ∃ r, P[k - 1]? = some r := ⟨_, List.getElem?_eq_getElem (by omega)⟩
              have hlt2 : xr.layer < xp.layer := by
                have h1 := hkr
                have h2 := hkp
                rw [hP] at h1 h2
                exact nz_lt h0k h1 h2
              refine js_S rfl rfl (.inr ⟨_, _, rfl, rfl⟩) (xv_move rfl ⟨rfl, rfl⟩) ?_
              refine js_S rfl rfl (.inr ⟨_, _, rfl, rfl⟩) (xv_move rfl ⟨rfl, rfl⟩) ?_
              refine js_S rfl rfl (.inr ⟨_, _, rfl, rfl⟩) (xv_ia (sz := 2) (j := k) sl39 ty43 rfl (by rw [hap]; rfl) rfl (by (first | assumption | with_reducible exact Int.toNat_natCast _ | with_reducible rfl | rfl)) (by (first | omega | (dsimp only at *; omega) | (simp at *; omega))) (by (first | omega | (dsimp only at *; omega) | (simp at *; omega))) ⟨rfl, rfl⟩) ?_
              refine js_S rfl rfl (.inr ⟨_, _, rfl, rfl⟩) (xv_faddr fl43_0 rfl ⟨rfl, rfl⟩) ?_
              refine js_R0 rfl rfl (.inr ⟨_, _, rfl, rfl⟩) (xv_load1 ty3 rfl rfl (by ((repeat first|exact z_0|assumption|refine z_1 ?_|(refine z_l ?_;(repeat first|exact z_0|assumption|refine z_1 ?_);done)|refine z_r ?_);done)) (take_get (hxp (k) xp hkp) (j := 0) rfl) ⟨rfl, rfl⟩) ?_
              refine js_S rfl rfl (.inr ⟨_, _, rfl, rfl⟩) (xv_move rfl ⟨rfl, rfl⟩) ?_
              refine js_S rfl rfl (.inr ⟨_, _, rfl, rfl⟩) (xv_move rfl ⟨rfl, rfl⟩) ?_
              refine js_S rfl rfl (.inr ⟨_, _, rfl, rfl⟩) (xv_sub rfl rfl (wrap_i64 (by (first | omega | (dsimp only at *; omega) | (simp at *; omega))) (by (first | omega | (dsimp only at *; omega) | (simp at *; omega)))) ⟨rfl, rfl⟩) ?_
              refine js_S rfl rfl (.inr ⟨_, _, rfl, rfl⟩) (xv_ia (sz := 2) (j := k - 1) sl39 ty43 rfl (by rw [hap]; rfl) rfl (by (first | omega | (dsimp only at *; omega) | (simp at *; omega))) (by (first | omega | (dsimp only at *; omega) | (simp at *; omega))) (by (first | omega | (dsimp only at *; omega) | (simp at *; omega))) ⟨rfl, rfl⟩) ?_
              refine js_S rfl rfl (.inr ⟨_, _, rfl, rfl⟩) (xv_faddr fl43_0 rfl ⟨rfl, rfl⟩) ?_
              refine js_R0 rfl rfl (.inr ⟨_, _, rfl, rfl⟩) (xv_load1 ty3 rfl rfl (by ((repeat first|exact z_0|assumption|refine z_1 ?_|(refine z_l ?_;(repeat first|exact z_0|assumption|refine z_1 ?_);done)|refine z_r ?_);done)) (take_get (hxp (k - 1) xr hkr) (j := 0) rfl) ⟨rfl, rfl⟩) ?_
              refine js_S rfl rfl (.inr ⟨_, _, rfl, rfl⟩) (xv_cmpK rfl rfl (cmpF rfl (by simp only [cmpP]; (first | omega | (dsimp only at *; omega) | (simp at *; omega)))) ⟨rfl, rfl⟩) ?_
              refine js_S rfl rfl (.inr ⟨_, _, rfl, rfl⟩) (xv_pick rfl rfl ⟨rfl, rfl⟩) ?_
              refine js_S rfl rfl (.inl rfl) (xv_pick rfl rfl ⟨rfl, rfl⟩) ?_
              refine j_end0 ?_
              refine th_n ?_
              refine xc_false rfl ?_
              refine xc_skip ?_
              refine th_n ?_
              refine xc_region ?_
              refine xr_op rfl rfl (xv_move rfl ?_)
              refine xr_op rfl rfl (xv_move rfl ?_)
              refine xr_op rfl rfl (xv_move rfl ?_)
              refine xr_op rfl rfl (xv_ia (sz := 2) (j := k) sl39 ty43 rfl (by rw [hap]; rfl) rfl (by (first | assumption | with_reducible exact Int.toNat_natCast _ | with_reducible rfl | rfl)) (by (first | omega | (dsimp only at *; omega) | (simp at *; omega))) (by (first | omega | (dsimp only at *; omega) | (simp at *; omega))) ?_)
              refine xr_op rfl rfl (xv_faddr fl43_1 rfl ?_)
              refine xr_op rfl rfl (xv_load1 ty3 rfl rfl (by ((repeat first|exact z_0|assumption|refine z_1 ?_|(refine z_l ?_;(repeat first|exact z_0|assumption|refine z_1 ?_);done)|refine z_r ?_);done)) (take_get (hxp (k) xp hkp) (j := 1) rfl) ?_)
              refine xr_op rfl rfl (xv_add rfl rfl (wrap_i64 (by (first | omega | (dsimp only at *; omega) | (simp at *; omega))) (by (first | omega | (dsimp only at *; omega) | (simp at *; omega)))) ?_)
              refine xr_op rfl rfl (xv_assign rfl ?_)
              refine xr_end rfl ?_
              refine bk_n ?_
              refine th_n ?_
              refine xc_region ?_
              refine xr_op rfl rfl (xv_move rfl ?_)
              refine xr_op rfl rfl (xv_add rfl rfl (wrap_i64 (by (first | omega | (dsimp only at *; omega) | (simp at *; omega))) (by (first | omega | (dsimp only at *; omega) | (simp at *; omega)))) ?_)
              refine xr_op rfl rfl (xv_assign rfl ?_)
              refine xr_end rfl ?_
              exact rnd (k + 1) (by (first | omega | (dsimp only at *; omega) | (simp at *; omega))) (by (first | omega | (dsimp only at *; omega) | (simp at *; omega))) (le_put (le_put (le_put (le_put (le_put (le_put (le_put (le_put (le_emp _) rfl) rfl) rfl) rfl) rfl) rfl) (by rw [sumI_take hpt]; rfl)) rfl) (by (first|((repeat first|exact s_0|exact s_1|exact s_3|refine s_4 ?_|refine s_5 ?_|refine s_6 ?_|refine s_7 ?_);done)|((repeat first|exact s_0|exact s_1|exact s_3|refine s_4 ?_|refine s_5 ?_|refine s_6 ?_|refine s_8 ?_);done)))
          · refine xr_end rfl ?_
            refine th_n ?_
            refine xc_false rfl ?_
            refine xc_exit ?_
            refine th_x ?_
            refine th_x ?_
            refine bk_same ?_
            refine th_n ?_
            refine xc_seq ?_
            refine xc_seq (xc_region ?_)
            obtain rfl : P.length = k := by (first | omega | (dsimp only at *; omega) | (simp at *; omega))
            rw [show (P.map Part.tons).take P.length = P.map Part.tons from by rw [← List.length_map (f := Part.tons), List.take_length]]
            refine xr_op rfl rfl (xv_move rfl ?_)
            refine xr_op rfl rfl (xv_neq2 rfl rfl (fun q4 => ?_) (fun q4 => ?_))
            · refine xr_end rfl ?_
              refine th_n ?_
              refine xc_true rfl ?_
              refine xc_seq (xc_region ?_)
              refine xr_op rfl rfl (xv_assign rfl ?_)
              refine xr_end rfl ?_
              refine th_n ?_
              refine xc_ret ?_
              refine th_r ?_
              refine body_ret (h' := h) rfl (ro_tmp rfl ro_nil) (by (first|((repeat first|exact s_0|exact s_1|exact s_3|refine s_4 ?_|refine s_5 ?_|refine s_6 ?_|refine s_7 ?_);done)|((repeat first|exact s_0|exact s_1|exact s_3|refine s_4 ?_|refine s_5 ?_|refine s_6 ?_|refine s_8 ?_);done))) ?_
              first | exact H | (exfalso; omega)
            · refine xr_end rfl ?_
              refine th_n ?_
              refine xc_false rfl ?_
              refine xc_skip ?_
              refine th_n ?_
              refine xc_seq ?_
              refine xc_seq (xc_region ?_)
              refine xr_op rfl rfl (xv_assign rfl ?_)
              refine xr_end rfl ?_
              refine th_n ?_
              refine xc_block ?_
              refine xc_loop (σ := Nat) (fun sd => sd ≤ 2) (fun sd => (((((((emp.put (some 1) (I draw)).put (some 2) (I (w : Int))).put (some 3) (.pointer (some ⟨b3, 0, none⟩))).put (some 7) (.slice a1 y.coals.length c1)).put (some 9) (.slice a2 P.length c2)).put (some 11) (I (sumI (P.map Part.tons)))).put (some 13) (I (sd : Int)))) (fun sd => (G2 ++ (G1 ++ (b3, .cells ⟨eYard y⟩ 25) :: h))) (fun sd => 2 - sd) 0 (Nat.zero_le _) (le_put (le_put (le_put (le_put (le_put (le_put (le_put (le_emp _) rfl) rfl) rfl) rfl) rfl) rfl) rfl) (by (first|((repeat first|exact s_0|exact s_1|exact s_3|refine s_4 ?_|refine s_5 ?_|refine s_6 ?_|refine s_7 ?_);done)|((repeat first|exact s_0|exact s_1|exact s_3|refine s_4 ?_|refine s_5 ?_|refine s_6 ?_|refine s_8 ?_);done))) ?_
              rintro sd hsd
              refine xc_seq ?_
              refine xc_seq (xc_region ?_)
              refine xr_op rfl rfl (xv_move rfl ?_)
              refine xr_op rfl rfl (xv_lss2 rfl rfl (fun q5 => ?_) (fun q5 => ?_))
              · refine xr_end rfl ?_
                refine th_n ?_
                refine xc_true rfl ?_
                refine xc_skip ?_
                refine th_n ?_
                refine xc_seq ?_
                refine xc_block ?_
                refine xc_seq (xc_region ?_)
                refine xr_op rfl rfl (xv_move rfl ?_)
                refine xr_op rfl rfl (xv_len sl28 rfl ?_)
                refine xr_op rfl rfl (xv_make (n := y.coals.length) (l := (lE y P sd w 0).flatMap eI) sl38 ty3 rfl rfl (by (first | omega | (dsimp only at *; omega) | (simp at *; omega))) (by simp only []; (first | omega | (dsimp only at *; omega) | (simp at *; omega))) (by simp only []; (first | omega | (dsimp only at *; omega) | (simp at *; omega))) (by rw [lE_0]; exact make_ints _) (fun b112 hb112 => ?_))
                refine xr_op rfl rfl (xv_assign rfl ?_)
                refine xr_end rfl ?_
                refine th_n ?_
                refine xc_seq ?_
                refine xc_seq (xc_region ?_)
                refine xr_op rfl rfl (xv_assign rfl ?_)
                refine xr_end rfl ?_
                refine th_n ?_
                refine xc_block ?_
                refine xc_loop (σ := Nat) (fun k => k ≤ P.length) (fun k => (((((((((emp.put (some 1) (I draw)).put (some 2) (I (w : Int))).put (some 3) (.pointer (some ⟨b3, 0, none⟩))).put (some 7) (.slice a1 y.coals.length c1)).put (some 9) (.slice a2 P.length c2)).put (some 11) (I (sumI (P.map Part.tons)))).put (some 13) (I (sd : Int))).put (some 14) (.slice (some ⟨b112, 0, none⟩) y.coals.length y.coals.length)).put (some 15) (I k))) (fun k => ((b112, .cells ⟨(lE y P sd w k).flatMap eI⟩ 3) :: (G2 ++ (G1 ++ (b3, .cells ⟨eYard y⟩ 25) :: h)))) (fun k => P.length - k) 0 (Nat.zero_le _) (le_put (le_put (le_put (le_put (le_put (le_put (le_put (le_put (le_put (le_emp _) rfl) rfl) rfl) rfl) rfl) rfl) rfl) rfl) rfl) (by (first|((repeat first|exact s_0|exact s_1|exact s_3|refine s_4 ?_|refine s_5 ?_|refine s_6 ?_|refine s_7 ?_);done)|((repeat first|exact s_0|exact s_1|exact s_3|refine s_4 ?_|refine s_5 ?_|refine s_6 ?_|refine s_8 ?_);done))) ?_
                rintro k hk
                refine xc_seq ?_
                refine xc_seq (xc_region ?_)
                refine xr_op rfl rfl (xv_move rfl ?_)
                refine xr_op rfl rfl (xv_move rfl ?_)
                refine xr_op rfl rfl (xv_len sl39 rfl ?_)
                refine xr_op rfl rfl (xv_lss2 rfl rfl (fun q6 => ?_) (fun q6 => ?_))
                · refine xr_end rfl ?_
                  refine th_n ?_
                  refine xc_true rfl ?_
                  refine xc_skip ?_
                  refine th_n ?_
                  refine xc_seq ?_
                  refine xc_block ?_
                  refine xc_seq ?_
                  refine xc_draw0 [(0, .R), (1, .S), (2, .S), (3, .S), (4, .S), (5, .R), (6, .S), (7, .R), (8, .S), (9, .O), (10, .S)] mixed (by kernel_rfl) ?_
                  have hltp : k < P.length := by (first | omega | (dsimp only at *; omega) | (simp at *; omega))
                  obtain ⟨bp, op, lp, tp, fzp, hap, hmp, hxp⟩ := (s2).at hltp
                  obtain ⟨xp, hkp⟩ : ∃ qq_, P[k]? = some qq_ := ⟨_, List.getElem?_eq_getElem hltp⟩
                  obtain ⟨ht1, hlb, hlt, hle, hcl5, hcz⟩ := hE.at hkp
                  have hcp : cPt y P k = (contF y.coals.length (y.moves.take y.moves.length) xp.layer) := by unfold cPt; rw [part_at hkp]
                  have htp : tPt P k = xp.tons := by unfold tPt; rw [part_at hkp]
                  have hnb := nW_bd (side := sd) (w := w) (fun z hz => (hcz z hz).1) (show 0 ≤ tPt P k by omega) (by rw [htp]; exact hle)
                  obtain ⟨cw, hcw⟩ : ∃ c, (cPt y P k)[w]? = some c := ⟨_, List.getElem?_eq_getElem (by omega)⟩
                  have hgw : (cPt y P k).getD w 0 = cw := by rw [List.getD_eq_getElem?_getD, hcw]; rfl
                  have hcwb := hcz cw (List.mem_of_getElem? hcw)
                  have hsmb := sumI_bd hcz
                  rw [hcl5] at hsmb
                  have hbig : (y.coals.length : Int) * 33554432 ≤ 6 * 33554432 := by omega
                  refine js_R0 rfl rfl (.inl rfl) (xv_loadA ty25 rfl rfl (by ((repeat first|exact z_0|assumption|refine z_1 ?_|(refine z_l ?_;(repeat first|exact z_0|assumption|refine z_1 ?_);done)|refine z_r ?_);done)) (by ((try apply evl_some rfl);(repeat (first|exact (rfl : _ = [])|apply evl_cons rfl (by (first|exact v_1|exact v_2|exact v_3|exact v_4|exact v_5|exact v_6|exact v_7|exact v_8|exact v_9|exact rfl))|exact rfl)))) (by rfl) ⟨rfl, rfl⟩) ?_
                  refine js_S rfl rfl (.inl rfl) (xv_move rfl ⟨rfl, rfl⟩) ?_
                  refine js_S rfl rfl (.inl rfl) (xv_move rfl ⟨rfl, rfl⟩) ?_
                  refine js_S rfl rfl (.inl rfl) (xv_ia (sz := 2) (j := k) sl39 ty43 rfl (by rw [hap]; rfl) rfl (by (first | assumption | with_reducible exact Int.toNat_natCast _ | with_reducible rfl | rfl)) (by (first | omega | (dsimp only at *; omega) | (simp at *; omega))) (by (first | omega | (dsimp only at *; omega) | (simp at *; omega))) ⟨rfl, rfl⟩) ?_
                  refine js_S rfl rfl (.inl rfl) (xv_faddr fl43_0 rfl ⟨rfl, rfl⟩) ?_
                  refine js_R0 rfl rfl (.inl rfl) (xv_load1 ty3 rfl rfl (by ((repeat first|exact z_0|assumption|refine z_1 ?_|(refine z_l ?_;(repeat first|exact z_0|assumption|refine z_1 ?_);done)|refine z_r ?_);done)) (take_get (hxp (k) xp hkp) (j := 0) rfl) ⟨rfl, rfl⟩) ?_
                  refine js_S rfl rfl (.inl rfl) (xv_faddr fl25_1 rfl ⟨rfl, rfl⟩) ?_
                  refine js_R0 rfl rfl (.inl rfl) (xv_load1 ty23 rfl rfl (by ((repeat first|exact z_0|assumption|refine z_1 ?_|(refine z_l ?_;(repeat first|exact z_0|assumption|refine z_1 ?_);done)|refine z_r ?_);done)) (by rfl) ⟨rfl, rfl⟩) ?_
                  refine js_S rfl rfl (.inl rfl) (xv_len sl23 rfl ⟨rfl, rfl⟩) ?_
                  refine js_O0 rfl rfl (.inl rfl) (xv_calls rfl hb20 (Contents_c (hy.sub (by intro z hz; ((repeat first|exact z_0|assumption|refine z_1 ?_|(refine z_l ?_;(repeat first|exact z_0|assumption|refine z_1 ?_);done)|refine z_r ?_);done))) (j := xp.layer) (upto := y.moves.length) hgy.2.1 (by omega) (by omega) (Nat.le_refl _) (fun bc => up_ret ?_)))
                  refine js_S rfl rfl (.inl rfl) (xv_assign rfl ⟨rfl, rfl⟩) ?_
                  refine j_end0 ?_
                  refine th_n ?_
                  refine xc_seq (xc_region ?_)
                  refine xr_op rfl rfl (xv_assign rfl ?_)
                  refine xr_end rfl ?_
                  refine th_n ?_
                  refine xc_seq ?_
                  refine xc_seq (xc_region ?_)
                  refine xr_op rfl rfl (xv_assign rfl ?_)
                  refine xr_end rfl ?_
                  refine th_n ?_
                  refine xc_block ?_
                  refine xc_loop (σ := Nat) (fun i => i ≤ y.coals.length) (fun i => ((((((((((((emp.put (some 1) (I draw)).put (some 2) (I (w : Int))).put (some 3) (.pointer (some ⟨b3, 0, none⟩))).put (some 7) (.slice a1 y.coals.length c1)).put (some 9) (.slice a2 P.length c2)).put (some 11) (I (sumI (P.map Part.tons)))).put (some 13) (I (sd : Int))).put (some 14) (.slice (some ⟨b112, 0, none⟩) y.coals.length y.coals.length)).put (some 15) (I k)).put (some 16) (.slice (some ⟨bc, 0, none⟩) y.coals.length y.coals.length)).put (some 17) (I (sumI ((cPt y P k).take i)))).put (some 18) (I i))) (fun i => ((bc, .cells ⟨(cPt y P k).flatMap eI⟩ 3) :: (b112, .cells ⟨(lE y P sd w k).flatMap eI⟩ 3) :: (G2 ++ (G1 ++ (b3, .cells ⟨eYard y⟩ 25) :: h)))) (fun i => y.coals.length - i) 0 (Nat.zero_le _) (le_put (le_put (le_put (le_put (le_put (le_put (le_put (le_put (le_put (le_put (le_put (le_put (le_emp _) rfl) rfl) rfl) rfl) rfl) rfl) rfl) rfl) rfl) rfl) rfl) rfl) (by rw [hcp]; (first|((repeat first|exact s_0|exact s_1|exact s_3|refine s_4 ?_|refine s_5 ?_|refine s_6 ?_|refine s_7 ?_);done)|((repeat first|exact s_0|exact s_1|exact s_3|refine s_4 ?_|refine s_5 ?_|refine s_6 ?_|refine s_8 ?_);done))) ?_
                  rintro i hi
                  refine xc_seq ?_
                  refine xc_seq (xc_region ?_)
                  refine xr_op rfl rfl (xv_move rfl ?_)
                  refine xr_op rfl rfl (xv_move rfl ?_)
                  refine xr_op rfl rfl (xv_len sl38 rfl ?_)
                  refine xr_op rfl rfl (xv_lss2 rfl rfl (fun q7 => ?_) (fun q7 => ?_))
                  · refine xr_end rfl ?_
                    refine th_n ?_
                    refine xc_true rfl ?_
                    refine xc_skip ?_
                    refine th_n ?_
                    refine xc_seq ?_
                    refine xc_block ?_
                    refine xc_region ?_
                    obtain ⟨ci, hci⟩ : ∃ c, (cPt y P k)[i]? = some c := ⟨_, List.getElem?_eq_getElem (by (first | omega | (dsimp only at *; omega) | (simp at *; omega)))⟩
                    have hcib := hcz ci (List.mem_of_getElem? hci)
                    have hskb := sumI_bd (l := (cPt y P k).take i) (fun z hz => hcz z (List.mem_of_mem_take hz))
                    rw [List.length_take] at hskb
                    refine xr_op rfl rfl (xv_move rfl ?_)
                    refine xr_op rfl rfl (xv_move rfl ?_)
                    refine xr_op rfl rfl (xv_move rfl ?_)
                    refine xr_op rfl rfl (xv_ia (sz := 1) (j := i) sl38 ty3 rfl rfl rfl (by (first | assumption | with_reducible exact Int.toNat_natCast _ | with_reducible rfl | rfl)) (by (first | omega | (dsimp only at *; omega) | (simp at *; omega))) (by (first | omega | (dsimp only at *; omega) | (simp at *; omega))) ?_)
                    refine xr_op rfl rfl (xv_load1 ty3 rfl rfl (by ((repeat first|exact z_0|assumption|refine z_1 ?_|(refine z_l ?_;(repeat first|exact z_0|assumption|refine z_1 ?_);done)|refine z_r ?_);done)) (ints_get hci) ?_)
                    refine xr_op rfl rfl (xv_add rfl rfl (wrap_i64 (by (first | omega | (dsimp only at *; omega) | (simp at *; omega))) (by (first | omega | (dsimp only at *; omega) | (simp at *; omega)))) ?_)
                    refine xr_op rfl rfl (xv_assign rfl ?_)
                    refine xr_end rfl ?_
                    refine bk_n ?_
                    refine th_n ?_
                    refine xc_region ?_
                    refine xr_op rfl rfl (xv_move rfl ?_)
                    refine xr_op rfl rfl (xv_add rfl rfl (wrap_i64 (by (first | omega | (dsimp only at *; omega) | (simp at *; omega))) (by (first | omega | (dsimp only at *; omega) | (simp at *; omega)))) ?_)
                    refine xr_op rfl rfl (xv_assign rfl ?_)
                    refine xr_end rfl ?_
                    exact rnd (i + 1) (by (first | omega | (dsimp only at *; omega) | (simp at *; omega))) (by (first | omega | (dsimp only at *; omega) | (simp at *; omega))) (le_put (le_put (le_put (le_put (le_put (le_put (le_put (le_put (le_put (le_put (le_put (le_put (le_emp _) rfl) rfl) rfl) rfl) rfl) rfl) rfl) rfl) rfl) rfl) (by rw [sumI_take hci]; rfl)) rfl) (by (first|((repeat first|exact s_0|exact s_1|exact s_3|refine s_4 ?_|refine s_5 ?_|refine s_6 ?_|refine s_7 ?_);done)|((repeat first|exact s_0|exact s_1|exact s_3|refine s_4 ?_|refine s_5 ?_|refine s_6 ?_|refine s_8 ?_);done)))
                  · refine xr_end rfl ?_
                    refine th_n ?_
                    refine xc_false rfl ?_
                    refine xc_exit ?_
                    refine th_x ?_
                    refine th_x ?_
                    refine bk_same ?_
                    refine th_n ?_
                    refine xc_seq ?_
                    refine xc_draw0 [(0, .S), (1, .S), (2, .S), (3, .S), (4, .R), (5, .S), (6, .S), (7, .S), (8, .S), (9, .R), (10, .S), (11, .S), (12, .S), (13, .S)] mixed (by kernel_rfl) ?_
                    obtain rfl : y.coals.length = i := by (first | omega | (dsimp only at *; omega) | (simp at *; omega))
                    rw [show (cPt y P k).take y.coals.length = cPt y P k from by rw [← hcl5, List.take_length]]
                    refine js_S rfl rfl (.inl rfl) (xv_move rfl ⟨rfl, rfl⟩) ?_
                    refine js_S rfl rfl (.inl rfl) (xv_move rfl ⟨rfl, rfl⟩) ?_
                    refine js_S rfl rfl (.inl rfl) (xv_ia (sz := 2) (j := k) sl39 ty43 rfl (by rw [hap]; rfl) rfl (by (first | assumption | with_reducible exact Int.toNat_natCast _ | with_reducible rfl | rfl)) (by (first | omega | (dsimp only at *; omega) | (simp at *; omega))) (by (first | omega | (dsimp only at *; omega) | (simp at *; omega))) ⟨rfl, rfl⟩) ?_
                    refine js_S rfl rfl (.inl rfl) (xv_faddr fl43_1 rfl ⟨rfl, rfl⟩) ?_
                    refine js_R0 rfl rfl (.inl rfl) (xv_load1 ty3 rfl rfl (by ((repeat first|exact z_0|assumption|refine z_1 ?_|(refine z_l ?_;(repeat first|exact z_0|assumption|refine z_1 ?_);done)|refine z_r ?_);done)) (take_get (hxp (k) xp hkp) (j := 1) rfl) ⟨rfl, rfl⟩) ?_
                    refine js_S rfl rfl (.inl rfl) (xv_move rfl ⟨rfl, rfl⟩) ?_
                    refine js_S rfl rfl (.inl rfl) (xv_move rfl ⟨rfl, rfl⟩) ?_
                    refine js_S rfl rfl (.inl rfl) (xv_move rfl ⟨rfl, rfl⟩) ?_
                    refine js_S rfl rfl (.inl rfl) (xv_ia (sz := 1) (j := w) sl38 ty3 rfl rfl rfl (by (first | assumption | with_reducible exact Int.toNat_natCast _ | with_reducible rfl | rfl)) (by (first | omega | (dsimp only at *; omega) | (simp at *; omega))) (by (first | omega | (dsimp only at *; omega) | (simp at *; omega))) ⟨rfl, rfl⟩) ?_
                    refine js_R0 rfl rfl (.inl rfl) (xv_load1 ty3 rfl rfl (by ((repeat first|exact z_0|assumption|refine z_1 ?_|(refine z_l ?_;(repeat first|exact z_0|assumption|refine z_1 ?_);done)|refine z_r ?_);done)) (ints_get hcw) ⟨rfl, rfl⟩) ?_
                    refine js_S rfl rfl (.inl rfl) (xv_sub rfl rfl (wrap_i64 (by (first | omega | (dsimp only at *; omega) | (simp at *; omega))) (by (first | omega | (dsimp only at *; omega) | (simp at *; omega)))) ⟨rfl, rfl⟩) ?_
                    refine js_S rfl rfl (.inl rfl) (xv_sub rfl rfl (wrap_i64 (by (first | omega | (dsimp only at *; omega) | (simp at *; omega))) (by (first | omega | (dsimp only at *; omega) | (simp at *; omega)))) ⟨rfl, rfl⟩) ?_
                    refine js_S rfl rfl (.inl rfl) (xv_max rfl rfl rfl ⟨rfl, rfl⟩) ?_
                    refine js_S rfl rfl (.inl rfl) (xv_assign rfl ⟨rfl, rfl⟩) ?_
                    refine j_end0 ?_
                    refine th_n ?_
                    refine xc_join (σ := Unit) (fun _u => True) (fun _u => (((((((((((emp.put (some 1) (I draw)).put (some 2) (I (w : Int))).put (some 3) (.pointer (some ⟨b3, 0, none⟩))).put (some 7) (.slice a1 y.coals.length c1)).put (some 9) (.slice a2 P.length c2)).put (some 11) (I (sumI (P.map Part.tons)))).put (some 13) (I (sd : Int))).put (some 14) (.slice (some ⟨b112, 0, none⟩) y.coals.length y.coals.length)).put (some 15) (I k)).put (some 16) (.slice (some ⟨bc, 0, none⟩) y.coals.length y.coals.length)).put (some 19) (I (nW sd (cPt y P k) (tPt P k) w)))) (fun _u => ((bc, .cells ⟨(cPt y P k).flatMap eI⟩ 3) :: (b112, .cells ⟨(lE y P sd w k).flatMap eI⟩ 3) :: (G2 ++ (G1 ++ (b3, .cells ⟨eYard y⟩ 25) :: h)))) ?_ ?_
                    · refine xc_seq (xc_region ?_)
                      rcases (show sd = 0 ∨ sd = 1 by omega) with rfl | rfl
                      · have hnw : nW 0 (cPt y P k) (tPt P k) w = max 0 (xp.tons - (sumI (cPt y P k) - cw)) := by unfold nW; rw [if_neg (by decide), htp, hgw]
                        refine xr_op rfl rfl (xv_move rfl ?_)
                        refine xr_op rfl rfl (xv_eqlF rfl rfl (by decide) ?_)
                        refine xr_end rfl ?_
                        refine th_n ?_
                        refine xc_false rfl ?_
                        refine xc_skip ?_
                        exact jn_n () trivial (le_put (le_put (le_put (le_put (le_put (le_put (le_put (le_put (le_put (le_put (le_put (le_emp _) rfl) rfl) rfl) rfl) rfl) rfl) rfl) rfl) rfl) rfl) (by show _ = some (I _); rw [hnw]; rfl)) (by (first|((repeat first|exact s_0|exact s_1|exact s_3|refine s_4 ?_|refine s_5 ?_|refine s_6 ?_|refine s_7 ?_);done)|((repeat first|exact s_0|exact s_1|exact s_3|refine s_4 ?_|refine s_5 ?_|refine s_6 ?_|refine s_8 ?_);done)))
                      · refine xr_op rfl rfl (xv_move rfl ?_)
                        refine xr_op rfl rfl (xv_eqlT rfl rfl rfl ?_)
                        refine xr_end rfl ?_
                        refine th_n ?_
                        refine xc_true rfl ?_
                        refine xc_draw0 [(0, .S), (1, .S), (2, .S), (3, .S), (4, .R), (5, .S), (6, .S), (7, .S), (8, .R), (9, .S), (10, .S)] mixed (by kernel_rfl) ?_
                        have hnw : nW 1 (cPt y P k) (tPt P k) w = min xp.tons cw := by unfold nW; rw [if_pos rfl, htp, hgw]
                        refine js_S rfl rfl (.inl rfl) (xv_move rfl ⟨rfl, rfl⟩) ?_
                        refine js_S rfl rfl (.inl rfl) (xv_move rfl ⟨rfl, rfl⟩) ?_
                        refine js_S rfl rfl (.inl rfl) (xv_ia (sz := 2) (j := k) sl39 ty43 rfl (by rw [hap]; rfl) rfl (by (first | assumption | with_reducible exact Int.toNat_natCast _ | with_reducible rfl | rfl)) (by (first | omega | (dsimp only at *; omega) | (simp at *; omega))) (by (first | omega | (dsimp only at *; omega) | (simp at *; omega))) ⟨rfl, rfl⟩) ?_
                        refine js_S rfl rfl (.inl rfl) (xv_faddr fl43_1 rfl ⟨rfl, rfl⟩) ?_
                        refine js_R0 rfl rfl (.inl rfl) (xv_load1 ty3 rfl rfl (by ((repeat first|exact z_0|assumption|refine z_1 ?_|(refine z_l ?_;(repeat first|exact z_0|assumption|refine z_1 ?_);done)|refine z_r ?_);done)) (take_get (hxp (k) xp hkp) (j := 1) rfl) ⟨rfl, rfl⟩) ?_
                        refine js_S rfl rfl (.inl rfl) (xv_move rfl ⟨rfl, rfl⟩) ?_
                        refine js_S rfl rfl (.inl rfl) (xv_move rfl ⟨rfl, rfl⟩) ?_
                        refine js_S rfl rfl (.inl rfl) (xv_ia (sz := 1) (j := w) sl38 ty3 rfl rfl rfl (by (first | assumption | with_reducible exact Int.toNat_natCast _ | with_reducible rfl | rfl)) (by (first | omega | (dsimp only at *; omega) | (simp at *; omega))) (by (first | omega | (dsimp only at *; omega) | (simp at *; omega))) ⟨rfl, rfl⟩) ?_
                        refine js_R0 rfl rfl (.inl rfl) (xv_load1 ty3 rfl rfl (by ((repeat first|exact z_0|assumption|refine z_1 ?_|(refine z_l ?_;(repeat first|exact z_0|assumption|refine z_1 ?_);done)|refine z_r ?_);done)) (ints_get hcw) ⟨rfl, rfl⟩) ?_
                        refine js_S rfl rfl (.inl rfl) (xv_min rfl rfl rfl ⟨rfl, rfl⟩) ?_
                        refine js_S rfl rfl (.inl rfl) (xv_assign rfl ⟨rfl, rfl⟩) ?_
                        refine j_end0 ?_
                        exact jn_n () trivial (le_put (le_put (le_put (le_put (le_put (le_put (le_put (le_put (le_put (le_put (le_put (le_emp _) rfl) rfl) rfl) rfl) rfl) rfl) rfl) rfl) rfl) rfl) (by show _ = some (I _); rw [hnw]; rfl)) (by (first|((repeat first|exact s_0|exact s_1|exact s_3|refine s_4 ?_|refine s_5 ?_|refine s_6 ?_|refine s_7 ?_);done)|((repeat first|exact s_0|exact s_1|exact s_3|refine s_4 ?_|refine s_5 ?_|refine s_6 ?_|refine s_8 ?_);done)))
                    · rintro _u _i
                      refine xc_seq (xc_region ?_)
                      have hkP : k < P.length := by (first | omega | (dsimp only at *; omega) | (simp at *; omega))
                      have hxb := fun i => hE.xbd (side := sd) (w := w) hkP i
                      have hxs : ∀ i, 0 ≤ (sF (fun j => xE y P sd w j i) k) ∧ (sF (fun j => xE y P sd w j i) k) ≤ 33554432 * (k : Int) := fun i => by
                        refine ⟨sF_nn fun j hj => (hE.xbd (by omega) i).1.1, ?_⟩
                        have h9 : sF (fun j => xE y P sd w j i) k ≤ sF (fun _ => 33554432) k := sF_le fun j hj => (hE.xbd (by omega) i).2
                        have h8 : sF (fun _ => 33554432) k = 33554432 * (k : Int) := by rw [sF_const]
                        omega
                      have hlw := lE_get (y := y) (P := P) (side := sd) (w := w) (k := k) hwn
                      have hxw2 : (xE y P sd w k w) = (nW sd (cPt y P k) (tPt P k) w) := by unfold xE uX; exact if_pos rfl
                      have hxsw := hxs w
                      have hst := lE_set (y := y) (P := P) (side := sd) (k := k) hwn
                      rw [hxw2] at hst
                      refine xr_op rfl rfl (xv_move rfl ?_)
                      refine xr_op rfl rfl (xv_move rfl ?_)
                      refine xr_op rfl rfl (xv_move rfl ?_)
                      refine xr_op rfl rfl (xv_move rfl ?_)
                      refine xr_op rfl rfl (xv_ia (sz := 1) (j := w) sl38 ty3 rfl rfl rfl (by (first | assumption | with_reducible exact Int.toNat_natCast _ | with_reducible rfl | rfl)) (by (first | omega | (dsimp only at *; omega) | (simp at *; omega))) (by (first | omega | (dsimp only at *; omega) | (simp at *; omega))) ?_)
                      refine xr_op rfl rfl (xv_load1 ty3 rfl rfl (by ((repeat first|exact z_0|assumption|refine z_1 ?_|(refine z_l ?_;(repeat first|exact z_0|assumption|refine z_1 ?_);done)|refine z_r ?_);done)) (ints_get hlw) ?_)
                      refine xr_op rfl rfl (xv_move rfl ?_)
                      refine xr_op rfl rfl (xv_add rfl rfl (wrap_i64 (by (first | omega | (dsimp only at *; omega) | (simp at *; omega))) (by (first | omega | (dsimp only at *; omega) | (simp at *; omega)))) ?_)
                      refine xr_op rfl rfl (xv_ia (sz := 1) (j := w) sl38 ty3 rfl rfl rfl (by (first | assumption | with_reducible exact Int.toNat_natCast _ | with_reducible rfl | rfl)) (by (first | omega | (dsimp only at *; omega) | (simp at *; omega))) (by (first | omega | (dsimp only at *; omega) | (simp at *; omega))) ?_)
                      refine xr_op rfl rfl (xv_s1 (l := (lE y P sd w k).flatMap eI) (l' := (lM y P sd w k 0).flatMap eI) ty3 rfl rfl rfl (by (first|(apply u_3;(repeat first|exact u_0|assumption|apply u_1|apply u_2);done)|((repeat first|exact u_0|assumption|apply u_1|apply u_2);done)|(apply u_3;apply u_3;(repeat first|exact u_0|assumption|apply u_1|apply u_2);done)|((repeat first|exact u_0|assumption|apply u_3|apply u_1);done))) rfl (by rw [ints_len, lE_len]; (first | omega | (dsimp only at *; omega) | (simp at *; omega))) ((ints_setN (by rw [lE_len]; (first | omega | (dsimp only at *; omega) | (simp at *; omega)))).trans (by rw [hst])) ?_)
                      refine xr_end rfl ?_
                      refine th_n ?_
                      refine xc_seq (xc_region ?_)
                      refine xr_op rfl rfl (xv_move rfl ?_)
                      refine xr_op rfl rfl (xv_move rfl ?_)
                      refine xr_op rfl rfl (xv_ia (sz := 2) (j := k) sl39 ty43 rfl (by rw [hap]; rfl) rfl (by (first | assumption | with_reducible exact Int.toNat_natCast _ | with_reducible rfl | rfl)) (by (first | omega | (dsimp only at *; omega) | (simp at *; omega))) (by (first | omega | (dsimp only at *; omega) | (simp at *; omega))) ?_)
                      refine xr_op rfl rfl (xv_faddr fl43_1 rfl ?_)
                      refine xr_op rfl rfl (xv_load1 ty3 rfl rfl (by ((repeat first|exact z_0|assumption|refine z_1 ?_|(refine z_l ?_;(repeat first|exact z_0|assumption|refine z_1 ?_);done)|refine z_r ?_);done)) (take_get (hxp (k) xp hkp) (j := 1) rfl) ?_)
                      refine xr_op rfl rfl (xv_move rfl ?_)
                      refine xr_op rfl rfl (xv_sub rfl rfl (wrap_i64 (by (first | omega | (dsimp only at *; omega) | (simp at *; omega))) (by (first | omega | (dsimp only at *; omega) | (simp at *; omega)))) ?_)
                      refine xr_op rfl rfl (xv_assign rfl ?_)
                      refine xr_end rfl ?_
                      refine th_n ?_
                      refine xc_seq (xc_region ?_)
                      refine xr_op rfl rfl (xv_assign rfl ?_)
                      refine xr_end rfl ?_
                      refine th_n ?_
                      refine xc_block ?_
                      refine xc_loop (σ := Nat) (fun i => i ≤ y.coals.length) (fun i => ((((((((((((emp.put (some 1) (I draw)).put (some 2) (I (w : Int))).put (some 3) (.pointer (some ⟨b3, 0, none⟩))).put (some 7) (.slice a1 y.coals.length c1)).put (some 9) (.slice a2 P.length c2)).put (some 11) (I (sumI (P.map Part.tons)))).put (some 13) (I (sd : Int))).put (some 14) (.slice (some ⟨b112, 0, none⟩) y.coals.length y.coals.length)).put (some 15) (I k)).put (some 16) (.slice (some ⟨bc, 0, none⟩) y.coals.length y.coals.length)).put (some 20) (I (grE (cPt y P k) w (tPt P k - (nW sd (cPt y P k) (tPt P k) w)) i))).put (some 21) (I i))) (fun i => ((bc, .cells ⟨(cPt y P k).flatMap eI⟩ 3) :: (b112, .cells ⟨(lM y P sd w k i).flatMap eI⟩ 3) :: (G2 ++ (G1 ++ (b3, .cells ⟨eYard y⟩ 25) :: h)))) (fun i => y.coals.length - i) 0 (Nat.zero_le _) (le_put (le_put (le_put (le_put (le_put (le_put (le_put (le_put (le_put (le_put (le_put (le_put (le_emp _) rfl) rfl) rfl) rfl) rfl) rfl) rfl) rfl) rfl) rfl) (by show _ = some (I _); rw [grE, htp]; rfl)) rfl) (by (first|((repeat first|exact s_0|exact s_1|exact s_3|refine s_4 ?_|refine s_5 ?_|refine s_6 ?_|refine s_7 ?_);done)|((repeat first|exact s_0|exact s_1|exact s_3|refine s_4 ?_|refine s_5 ?_|refine s_6 ?_|refine s_8 ?_);done))) ?_
                      rintro i hi
                      refine xc_seq ?_
                      refine xc_seq (xc_region ?_)
                      refine xr_op rfl rfl (xv_move rfl ?_)
                      refine xr_op rfl rfl (xv_move rfl ?_)
                      refine xr_op rfl rfl (xv_len sl38 rfl ?_)
                      refine xr_op rfl rfl (xv_lss2 rfl rfl (fun q8 => ?_) (fun q8 => ?_))
                      · refine xr_end rfl ?_
                        refine th_n ?_
                        refine xc_true rfl ?_
                        refine xc_skip ?_
                        refine th_n ?_
                        refine xc_seq ?_
                        refine xc_block ?_
                        refine xc_seq (xc_region ?_)
                        refine xr_op rfl rfl (xv_move rfl ?_)
                        refine xr_op rfl rfl (xv_move rfl ?_)
                        refine xr_op rfl rfl (xv_neq2 rfl rfl (fun q9 => ?_) (fun q9 => ?_))
                        · refine xr_end rfl ?_
                          refine th_n ?_
                          refine xc_true rfl ?_
                          refine xc_seq (xc_region ?_)
                          have hiw : i ≠ w := by (first | omega | (dsimp only at *; omega) | (simp at *; omega))
                          have hil : i < y.coals.length := by (first | omega | (dsimp only at *; omega) | (simp at *; omega))
                          obtain ⟨ci, hci⟩ : ∃ c, (cPt y P k)[i]? = some c := ⟨_, List.getElem?_eq_getElem (by (first | omega | (dsimp only at *; omega) | (simp at *; omega)))⟩
                          have hgi : (cPt y P k).getD i 0 = ci := by rw [List.getD_eq_getElem?_getD, hci]; rfl
                          have hcib := hcz ci (List.mem_of_getElem? hci)
                          have hgv := (grE_val (w := w) (fun z hz => (hcz z hz).1) (show 0 ≤ tPt P k - (nW sd (cPt y P k) (tPt P k) w) by omega) i)
                          have hla := lM_at (y := y) (P := P) (side := sd) (k := k) hil hiw
                          have hst2 := lM_set (y := y) (P := P) (side := sd) (k := k) hil hiw
                          have hxi : (xE y P sd w k i) = min (grE (cPt y P k) w (tPt P k - (nW sd (cPt y P k) (tPt P k) w)) i) ci := by unfold xE uX; rw [if_neg hiw, hgi]
                          rw [hxi] at hst2
                          have hxsi := hxs i
                          rw [← hgi] at hxi hst2
                          refine xr_op rfl rfl (xv_move rfl ?_)
                          refine xr_op rfl rfl (xv_move rfl ?_)
                          refine xr_op rfl rfl (xv_move rfl ?_)
                          refine xr_op rfl rfl (xv_ia (sz := 1) (j := i) sl38 ty3 rfl rfl rfl (by (first | assumption | with_reducible exact Int.toNat_natCast _ | with_reducible rfl | rfl)) (by (first | omega | (dsimp only at *; omega) | (simp at *; omega))) (by (first | omega | (dsimp only at *; omega) | (simp at *; omega))) ?_)
                          refine xr_op rfl rfl (xv_load1 ty3 rfl rfl (by ((repeat first|exact z_0|assumption|refine z_1 ?_|(refine z_l ?_;(repeat first|exact z_0|assumption|refine z_1 ?_);done)|refine z_r ?_);done)) (ints_get hci) ?_)
                          refine xr_op rfl rfl (xv_min rfl rfl rfl ?_)
                          refine xr_op rfl rfl (xv_assign rfl ?_)
                          refine xr_end rfl ?_
                          refine th_n ?_
                          refine xc_seq (xc_region ?_)
                          refine xr_op rfl rfl (xv_move rfl ?_)
                          refine xr_op rfl rfl (xv_move rfl ?_)
                          refine xr_op rfl rfl (xv_move rfl ?_)
                          refine xr_op rfl rfl (xv_move rfl ?_)
                          refine xr_op rfl rfl (xv_ia (sz := 1) (j := i) sl38 ty3 rfl rfl rfl (by (first | assumption | with_reducible exact Int.toNat_natCast _ | with_reducible rfl | rfl)) (by (first | omega | (dsimp only at *; omega) | (simp at *; omega))) (by (first | omega | (dsimp only at *; omega) | (simp at *; omega))) ?_)
                          refine xr_op rfl rfl (xv_load1 ty3 rfl rfl (by ((repeat first|exact z_0|assumption|refine z_1 ?_|(refine z_l ?_;(repeat first|exact z_0|assumption|refine z_1 ?_);done)|refine z_r ?_);done)) (ints_get hla) ?_)
                          refine xr_op rfl rfl (xv_move rfl ?_)
                          refine xr_op rfl rfl (xv_add rfl rfl (wrap_i64 (by (first | omega | (dsimp only at *; omega) | (simp at *; omega))) (by (first | omega | (dsimp only at *; omega) | (simp at *; omega)))) ?_)
                          refine xr_op rfl rfl (xv_ia (sz := 1) (j := i) sl38 ty3 rfl rfl rfl (by (first | assumption | with_reducible exact Int.toNat_natCast _ | with_reducible rfl | rfl)) (by (first | omega | (dsimp only at *; omega) | (simp at *; omega))) (by (first | omega | (dsimp only at *; omega) | (simp at *; omega))) ?_)
                          refine xr_op rfl rfl (xv_s1 (l := (lM y P sd w k i).flatMap eI) (l' := (lM y P sd w k (i + 1)).flatMap eI) ty3 rfl rfl rfl (by (first|(apply u_3;(repeat first|exact u_0|assumption|apply u_1|apply u_2);done)|((repeat first|exact u_0|assumption|apply u_1|apply u_2);done)|(apply u_3;apply u_3;(repeat first|exact u_0|assumption|apply u_1|apply u_2);done)|((repeat first|exact u_0|assumption|apply u_3|apply u_1);done))) rfl (by rw [ints_len, lM_len]; (first | omega | (dsimp only at *; omega) | (simp at *; omega))) ((ints_setN (by rw [lM_len]; (first | omega | (dsimp only at *; omega) | (simp at *; omega)))).trans (by rw [← hst2, hgi])) ?_)
                          refine xr_end rfl ?_
                          refine th_n ?_
                          refine xc_region ?_
                          refine xr_op rfl rfl (xv_move rfl ?_)
                          refine xr_op rfl rfl (xv_move rfl ?_)
                          refine xr_op rfl rfl (xv_sub rfl rfl (wrap_i64 (by (first | omega | (dsimp only at *; omega) | (simp at *; omega))) (by (first | omega | (dsimp only at *; omega) | (simp at *; omega)))) ?_)
                          refine xr_op rfl rfl (xv_assign rfl ?_)
                          refine xr_end rfl ?_
                          refine bk_n ?_
                          refine th_n ?_
                          refine xc_region ?_
                          refine xr_op rfl rfl (xv_move rfl ?_)
                          refine xr_op rfl rfl (xv_add rfl rfl (wrap_i64 (by (first | omega | (dsimp only at *; omega) | (simp at *; omega))) (by (first | omega | (dsimp only at *; omega) | (simp at *; omega)))) ?_)
                          refine xr_op rfl rfl (xv_assign rfl ?_)
                          refine xr_end rfl ?_
                          exact rnd (i + 1) (by (first | omega | (dsimp only at *; omega) | (simp at *; omega))) (by (first | omega | (dsimp only at *; omega) | (simp at *; omega))) (le_put (le_put (le_put (le_put (le_put (le_put (le_put (le_put (le_put (le_put (le_put (le_put (le_emp _) rfl) rfl) rfl) rfl) rfl) rfl) rfl) rfl) rfl) rfl) (by rw [grE_o hiw, hgi]; rfl)) rfl) (by (first|((repeat first|exact s_0|exact s_1|exact s_3|refine s_4 ?_|refine s_5 ?_|refine s_6 ?_|refine s_7 ?_);done)|((repeat first|exact s_0|exact s_1|exact s_3|refine s_4 ?_|refine s_5 ?_|refine s_6 ?_|refine s_8 ?_);done)))
                        · refine xr_end rfl ?_
                          refine th_n ?_
                          refine xc_false rfl ?_
                          refine xc_skip ?_
                          refine bk_n ?_
                          refine th_n ?_
                          refine xc_region ?_
                          have hiw : i = w := by (first | omega | (dsimp only at *; omega) | (simp at *; omega))
                          refine xr_op rfl rfl (xv_move rfl ?_)
                          refine xr_op rfl rfl (xv_add rfl rfl (wrap_i64 (by (first | omega | (dsimp only at *; omega) | (simp at *; omega))) (by (first | omega | (dsimp only at *; omega) | (simp at *; omega)))) ?_)
                          refine xr_op rfl rfl (xv_assign rfl ?_)
                          refine xr_end rfl ?_
                          exact rnd (i + 1) (by (first | omega | (dsimp only at *; omega) | (simp at *; omega))) (by (first | omega | (dsimp only at *; omega) | (simp at *; omega))) (le_put (le_put (le_put (le_put (le_put (le_put (le_put (le_put (le_put (le_put (le_put (le_put (le_emp _) rfl) rfl) rfl) rfl) rfl) rfl) rfl) rfl) rfl) rfl) (by rw [hiw, grE_w]; rfl)) rfl) (by rw [hiw, lM_w]; (first|((repeat first|exact s_0|exact s_1|exact s_3|refine s_4 ?_|refine s_5 ?_|refine s_6 ?_|refine s_7 ?_);done)|((repeat first|exact s_0|exact s_1|exact s_3|refine s_4 ?_|refine s_5 ?_|refine s_6 ?_|refine s_8 ?_);done)))
                      · refine xr_end rfl ?_
                        refine th_n ?_
                        refine xc_false rfl ?_
                        refine xc_exit ?_
                        refine th_x ?_
                        refine th_x ?_
                        refine bk_same ?_
                        refine bk_n ?_
                        refine th_n ?_
                        refine xc_region ?_
                        obtain rfl : y.coals.length = i := by (first | omega | (dsimp only at *; omega) | (simp at *; omega))
                        refine xr_op rfl rfl (xv_move rfl ?_)
                        refine xr_op rfl rfl (xv_add rfl rfl (wrap_i64 (by (first | omega | (dsimp only at *; omega) | (simp at *; omega))) (by (first | omega | (dsimp only at *; omega) | (simp at *; omega)))) ?_)
                        refine xr_op rfl rfl (xv_assign rfl ?_)
                        refine xr_end rfl ?_
                        exact rnd (k + 1) (by (first | omega | (dsimp only at *; omega) | (simp at *; omega))) (by (first | omega | (dsimp only at *; omega) | (simp at *; omega))) (le_put (le_put (le_put (le_put (le_put (le_put (le_put (le_put (le_put (le_emp _) rfl) rfl) rfl) rfl) rfl) rfl) rfl) rfl) rfl) (by rw [← lM_end]; (first|((repeat first|exact s_0|exact s_1|exact s_3|refine s_4 ?_|refine s_5 ?_|refine s_6 ?_|refine s_7 ?_);done)|((repeat first|exact s_0|exact s_1|exact s_3|refine s_4 ?_|refine s_5 ?_|refine s_6 ?_|refine s_8 ?_);done)))
                · refine xr_end rfl ?_
                  refine th_n ?_
                  refine xc_false rfl ?_
                  refine xc_exit ?_
                  refine th_x ?_
                  refine th_x ?_
                  refine bk_same ?_
                  refine th_n ?_
                  refine xc_seq (xc_region ?_)
                  obtain rfl : P.length = k := by (first | omega | (dsimp only at *; omega) | (simp at *; omega))
                  have hend := hE.end (side := sd) hwn
                  have hgE := lE_get (y := y) (P := P) (side := sd) (w := w) (k := P.length) hwn
                  rw [hend] at hgE
                  have hws : w < ((List.range y.coals.length).map (bSp (takenR [v]) (contE y) (opn y.moves).1)).length := by simp; omega
                  have hltb : w < ((List.range y.coals.length).map (bSp (takenR [v]) (contE y) (opn y.moves).1)).length := hws
                  obtain ⟨bb, ob, lb, tb, fzb, hab, hmb, hxb⟩ := (s1).at hltb
                  obtain ⟨xb, hkb⟩ : ∃ qq_, ((List.range y.coals.length).map (bSp (takenR [v]) (contE y) (opn y.moves).1))[w]? = some qq_ := ⟨_, List.getElem?_eq_getElem hltb⟩
                  have hxbe : xb = blS w (partsL y [v]) := by
                    rw [List.getElem?_map, List.getElem?_range hwn] at hkb
                    cases hkb
                    exact (blS_parts hgy (fun v9 h9 => by rw [List.mem_singleton.1 h9]; exact hE.nn) hwn _).symm
                  refine xr_op rfl rfl (xv_loadA ty25 rfl rfl (by ((repeat first|exact z_0|assumption|refine z_1 ?_|(refine z_l ?_;(repeat first|exact z_0|assumption|refine z_1 ?_);done)|refine z_r ?_);done)) (by ((try apply evl_some rfl);(repeat (first|exact (rfl : _ = [])|apply evl_cons rfl (by (first|exact v_1|exact v_2|exact v_3|exact v_4|exact v_5|exact v_6|exact v_7|exact v_8|exact v_9|exact rfl))|exact rfl)))) (by rfl) ?_)
                  refine xr_op rfl rfl (xv_move rfl ?_)
                  refine xr_op rfl rfl (xv_move rfl ?_)
                  refine xr_op rfl rfl (xv_calls rfl hb17 (CanR_c (hy.sub (by intro z hz; ((repeat first|exact z_0|assumption|refine z_1 ?_|(refine z_l ?_;(repeat first|exact z_0|assumption|refine z_1 ?_);done)|refine z_r ?_);done))) (⟨by omega, by omega⟩ : Small y) hgy hvs hdr hv (ts := (lE y P sd w P.length)) (lE_len _ _ _ _ _).symm (lE_len _ _ _ _ _) (slvL eI_len (by ((repeat first|exact z_0|assumption|refine z_1 ?_|(refine z_l ?_;(repeat first|exact z_0|assumption|refine z_1 ?_);done)|refine z_r ?_);done))) (hE.can hwn) (up_ret ?_)))
                  refine xr_op rfl rfl (xv_move rfl ?_)
                  refine xr_op rfl rfl (xv_extract rfl rfl ?_)
                  refine xr_op rfl rfl (xv_extract rfl rfl ?_)
                  refine xr_op rfl rfl (xv_assign rfl ?_)
                  refine xr_op rfl rfl (xv_assign rfl ?_)
                  refine xr_end rfl ?_
                  refine th_n ?_
                  refine xc_seq (xc_region ?_)
                  refine xr_op rfl rfl (xv_move rfl ?_)
                  refine xr_op rfl rfl (xv_move rfl ?_)
                  refine xr_op rfl rfl (xv_ia (sz := 2) (j := w) sl28 ty33 rfl (by rw [hab]; rfl) rfl (by (first | assumption | with_reducible exact Int.toNat_natCast _ | with_reducible rfl | rfl)) (by (first | omega | (dsimp only at *; omega) | (simp at *; omega))) (by (first | omega | (dsimp only at *; omega) | (simp at *; omega))) ?_)
                  refine xr_op rfl rfl (xv_faddr fl33_0 rfl ?_)
                  refine xr_op rfl rfl (xv_load1 ty3 rfl rfl (by ((repeat first|exact z_0|assumption|refine z_1 ?_|(refine z_l ?_;(repeat first|exact z_0|assumption|refine z_1 ?_);done)|refine z_r ?_);done)) (take_get (hxb (w) xb hkb) (j := 0) rfl) ?_)
                  refine xr_op rfl rfl (xv_assign rfl ?_)
                  refine xr_end rfl ?_
                  refine th_n ?_
                  refine xc_join (σ := Unit) (fun _u => True) (fun _u => (((((((((((emp.put (some 1) (I draw)).put (some 2) (I (w : Int))).put (some 3) (.pointer (some ⟨b3, 0, none⟩))).put (some 7) (.slice a1 y.coals.length c1)).put (some 9) (.slice a2 P.length c2)).put (some 11) (I (sumI (P.map Part.tons)))).put (some 13) (I (sd : Int))).put (some 14) (.slice (some ⟨b112, 0, none⟩) y.coals.length y.coals.length)).put (some 23) (.bool true)).put (some 24) (I 0)).put (some 25) (I (endE y v sd w)))) (fun _u => ((b112, .cells ⟨(lE y P sd w P.length).flatMap eI⟩ 3) :: (G2 ++ (G1 ++ (b3, .cells ⟨eYard y⟩ 25) :: h)))) ?_ ?_
                  · refine xc_seq (xc_region ?_)
                    rcases (show sd = 0 ∨ sd = 1 by omega) with rfl | rfl
                    · have hen : endE y v 0 w = xb.lo := by rw [hxbe]; rfl
                      refine xr_op rfl rfl (xv_move rfl ?_)
                      refine xr_op rfl rfl (xv_eqlF rfl rfl (by decide) ?_)
                      refine xr_end rfl ?_
                      refine th_n ?_
                      refine xc_false rfl ?_
                      refine xc_skip ?_
                      exact jn_n () trivial (le_put (le_put (le_put (le_put (le_put (le_put (le_put (le_put (le_put (le_put (le_put (le_emp _) rfl) rfl) rfl) rfl) rfl) rfl) rfl) rfl) rfl) rfl) (by show _ = some (I _); rw [hen]; rfl)) (by (first|((repeat first|exact s_0|exact s_1|exact s_3|refine s_4 ?_|refine s_5 ?_|refine s_6 ?_|refine s_7 ?_);done)|((repeat first|exact s_0|exact s_1|exact s_3|refine s_4 ?_|refine s_5 ?_|refine s_6 ?_|refine s_8 ?_);done)))
                    · refine xr_op rfl rfl (xv_move rfl ?_)
                      refine xr_op rfl rfl (xv_eqlT rfl rfl rfl ?_)
                      refine xr_end rfl ?_
                      refine th_n ?_
                      refine xc_true rfl ?_
                      refine xc_region ?_
                      have hen : endE y v 1 w = xb.hi := by rw [hxbe]; rfl
                      refine xr_op rfl rfl (xv_move rfl ?_)
                      refine xr_op rfl rfl (xv_move rfl ?_)
                      refine xr_op rfl rfl (xv_ia (sz := 2) (j := w) sl28 ty33 rfl (by rw [hab]; rfl) rfl (by (first | assumption | with_reducible exact Int.toNat_natCast _ | with_reducible rfl | rfl)) (by (first | omega | (dsimp only at *; omega) | (simp at *; omega))) (by (first | omega | (dsimp only at *; omega) | (simp at *; omega))) ?_)
                      refine xr_op rfl rfl (xv_faddr fl33_1 rfl ?_)
                      refine xr_op rfl rfl (xv_load1 ty3 rfl rfl (by ((repeat first|exact z_0|assumption|refine z_1 ?_|(refine z_l ?_;(repeat first|exact z_0|assumption|refine z_1 ?_);done)|refine z_r ?_);done)) (take_get (hxb (w) xb hkb) (j := 1) rfl) ?_)
                      refine xr_op rfl rfl (xv_assign rfl ?_)
                      refine xr_end rfl ?_
                      exact jn_n () trivial (le_put (le_put (le_put (le_put (le_put (le_put (le_put (le_put (le_put (le_put (le_put (le_emp _) rfl) rfl) rfl) rfl) rfl) rfl) rfl) rfl) rfl) rfl) (by show _ = some (I _); rw [hen]; rfl)) (by (first|((repeat first|exact s_0|exact s_1|exact s_3|refine s_4 ?_|refine s_5 ?_|refine s_6 ?_|refine s_7 ?_);done)|((repeat first|exact s_0|exact s_1|exact s_3|refine s_4 ?_|refine s_5 ?_|refine s_6 ?_|refine s_8 ?_);done)))
                  · rintro _u _i
                    refine xc_seq ?_
                    refine xc_seq (xc_region ?_)
                    refine xr_op rfl rfl (xv_move rfl ?_)
                    refine xr_op rfl rfl (xv_neqF rfl rfl rfl ?_)
                    refine xr_op rfl rfl (xv_move rfl ?_)
                    refine xr_gd rfl rfl rfl (xv_move rfl ?_)
                    refine xr_gd rfl rfl rfl (xv_not rfl ?_)
                    refine xr_op rfl rfl (xv_pick rfl rfl ?_)
                    refine xr_op rfl rfl (xv_move rfl ?_)
                    refine xr_gd rfl rfl rfl (xv_move rfl ?_)
                    refine xr_gd rfl rfl rfl (xv_move rfl ?_)
                    refine xr_gd rfl rfl rfl (xv_ia (sz := 1) (j := w) sl38 ty3 rfl rfl rfl (by (first | assumption | with_reducible exact Int.toNat_natCast _ | with_reducible rfl | rfl)) (by (first | omega | (dsimp only at *; omega) | (simp at *; omega))) (by (first | omega | (dsimp only at *; omega) | (simp at *; omega))) ?_)
                    refine xr_gd rfl rfl rfl (xv_load1 ty3 rfl rfl (by ((repeat first|exact z_0|assumption|refine z_1 ?_|(refine z_l ?_;(repeat first|exact z_0|assumption|refine z_1 ?_);done)|refine z_r ?_);done)) (ints_get hgE) ?_)
                    refine xr_gd rfl rfl rfl (xv_move rfl ?_)
                    refine xr_gd rfl rfl rfl (xv_neqF rfl rfl rfl ?_)
                    refine xr_op rfl rfl (xv_pick rfl rfl ?_)
                    refine xr_end rfl ?_
                    refine th_n ?_
                    refine xc_false rfl ?_
                    refine xc_skip ?_
                    refine th_n ?_
                    refine xc_seq (xc_region ?_)
                    refine xr_op rfl rfl (xv_assign rfl ?_)
                    refine xr_end rfl ?_
                    refine th_n ?_
                    refine xc_block ?_
                    refine xc_loop (σ := Nat) (fun q => q ≤ y.coals.length) (fun q => (((((((((emp.put (some 1) (I draw)).put (some 2) (I (w : Int))).put (some 3) (.pointer (some ⟨b3, 0, none⟩))).put (some 7) (.slice a1 y.coals.length c1)).put (some 9) (.slice a2 P.length c2)).put (some 11) (I (sumI (P.map Part.tons)))).put (some 13) (I (sd : Int))).put (some 14) (.slice (some ⟨b112, 0, none⟩) y.coals.length y.coals.length)).put (some 26) (I q))) (fun q => ((b112, .cells ⟨(lE y P sd w P.length).flatMap eI⟩ 3) :: (G2 ++ (G1 ++ (b3, .cells ⟨eYard y⟩ 25) :: h)))) (fun q => y.coals.length - q) 0 (Nat.zero_le _) (le_put (le_put (le_put (le_put (le_put (le_put (le_put (le_put (le_put (le_emp _) rfl) rfl) rfl) rfl) rfl) rfl) rfl) rfl) rfl) (by (first|((repeat first|exact s_0|exact s_1|exact s_3|refine s_4 ?_|refine s_5 ?_|refine s_6 ?_|refine s_7 ?_);done)|((repeat first|exact s_0|exact s_1|exact s_3|refine s_4 ?_|refine s_5 ?_|refine s_6 ?_|refine s_8 ?_);done))) ?_
                    rintro q hq
                    refine xc_seq ?_
                    refine xc_seq (xc_region ?_)
                    refine xr_op rfl rfl (xv_move rfl ?_)
                    refine xr_op rfl rfl (xv_move rfl ?_)
                    refine xr_op rfl rfl (xv_len sl38 rfl ?_)
                    refine xr_op rfl rfl (xv_lss2 rfl rfl (fun q10 => ?_) (fun q10 => ?_))
                    · refine xr_end rfl ?_
                      refine th_n ?_
                      refine xc_true rfl ?_
                      refine xc_skip ?_
                      refine th_n ?_
                      refine xc_seq ?_
                      refine xc_block ?_
                      refine xc_seq ?_
                      refine xc_seq (xc_region ?_)
                      refine xr_op rfl rfl (xv_move rfl ?_)
                      refine xr_op rfl rfl (xv_move rfl ?_)
                      refine xr_op rfl rfl (xv_eql2 rfl rfl (fun q11 => ?_) (fun q11 => ?_))
                      · refine xr_op rfl rfl (xv_move rfl ?_)
                        refine xr_no rfl rfl rfl rfl ?_
                        refine xr_no rfl rfl rfl rfl ?_
                        refine xr_no rfl rfl rfl rfl ?_
                        refine xr_no rfl rfl rfl rfl ?_
                        refine xr_no rfl rfl rfl rfl ?_
                        refine xr_no rfl rfl rfl rfl ?_
                        refine xr_nu rfl rfl rfl ?_
                        refine xr_nu rfl rfl rfl ?_
                        refine xr_no rfl rfl rfl rfl ?_
                        refine xr_op rfl rfl (xv_pick rfl rfl ?_)
                        refine xr_end rfl ?_
                        refine th_n ?_
                        refine xc_true rfl ?_
                        refine xc_exit ?_
                        refine th_x ?_
                        refine bk_same ?_
                        refine th_n ?_
                        refine xc_region ?_
                        refine xr_op rfl rfl (xv_move rfl ?_)
                        refine xr_op rfl rfl (xv_add rfl rfl (wrap_i64 (by (first | omega | (dsimp only at *; omega) | (simp at *; omega))) (by (first | omega | (dsimp only at *; omega) | (simp at *; omega)))) ?_)
                        refine xr_op rfl rfl (xv_assign rfl ?_)
                        refine xr_end rfl ?_
                        exact rnd (q + 1) (by (first | omega | (dsimp only at *; omega) | (simp at *; omega))) (by (first | omega | (dsimp only at *; omega) | (simp at *; omega))) (le_put (le_put (le_put (le_put (le_put (le_put (le_put (le_put (le_put (le_emp _) rfl) rfl) rfl) rfl) rfl) rfl) rfl) rfl) rfl) (by (first|((repeat first|exact s_0|exact s_1|exact s_3|refine s_4 ?_|refine s_5 ?_|refine s_6 ?_|refine s_7 ?_);done)|((repeat first|exact s_0|exact s_1|exact s_3|refine s_4 ?_|refine s_5 ?_|refine s_6 ?_|refine s_8 ?_);done)))
                      · refine xr_op rfl rfl (xv_move rfl ?_)
                        refine xr_gd rfl rfl rfl (xv_move rfl ?_)
                        refine xr_gd rfl rfl rfl (xv_move rfl ?_)
                        have hql : q < y.coals.length := by (first | omega | (dsimp only at *; omega) | (simp at *; omega))
                        have hgq := lE_get (y := y) (P := P) (side := sd) (w := w) (k := P.length) hql
                        have hxq : 0 ≤ sF (fun j => xE y P sd w j q) P.length ∧ sF (fun j => xE y P sd w j q) P.length ≤ 33554432 * (P.length : Int) := by
                          refine ⟨sF_nn fun j hj => (hE.xbd hj q).1.1, ?_⟩
                          have h9 : sF (fun j => xE y P sd w j q) P.length ≤ sF (fun _ => 33554432) P.length := sF_le fun j hj => (hE.xbd hj q).2
                          rw [sF_const] at h9; omega
                        have hxe : 0 ≤ endE y v sd w ∧ endE y v sd w ≤ 33554432 * (P.length : Int) := by
                          rw [← hend]
                          refine ⟨sF_nn fun j hj => (hE.xbd hj w).1.1, ?_⟩
                          have h9 : sF (fun j => xE y P sd w j w) P.length ≤ sF (fun _ => 33554432) P.length := sF_le fun j hj => (hE.xbd hj w).2
                          rw [sF_const] at h9; omega
                        refine xr_gd rfl rfl rfl (xv_ia (sz := 1) (j := q) sl38 ty3 rfl rfl rfl (by (first | assumption | with_reducible exact Int.toNat_natCast _ | with_reducible rfl | rfl)) (by (first | omega | (dsimp only at *; omega) | (simp at *; omega))) (by (first | omega | (dsimp only at *; omega) | (simp at *; omega))) ?_)
                        refine xr_gd rfl rfl rfl (xv_load1 ty3 rfl rfl (by ((repeat first|exact z_0|assumption|refine z_1 ?_|(refine z_l ?_;(repeat first|exact z_0|assumption|refine z_1 ?_);done)|refine z_r ?_);done)) (ints_get hgq) ?_)
                        refine xr_gd rfl rfl rfl (xv_eql2 rfl rfl (fun q12 => ?_) (fun q12 => ?_))
                        · refine xr_gd rfl rfl rfl (xv_move rfl ?_)
                          refine xr_gd rfl rfl rfl (xv_move rfl ?_)
                          refine xr_gd rfl rfl rfl (xv_eql2 rfl rfl (fun q13 => ?_) (fun q13 => ?_))
                          · refine xr_gd rfl rfl rfl (xv_pick rfl rfl ?_)
                            refine xr_op rfl rfl (xv_pick rfl rfl ?_)
                            refine xr_end rfl ?_
                            refine th_n ?_
                            refine xc_true rfl ?_
                            refine xc_exit ?_
                            refine th_x ?_
                            refine bk_same ?_
                            refine th_n ?_
                            refine xc_region ?_
                            refine xr_op rfl rfl (xv_move rfl ?_)
                            refine xr_op rfl rfl (xv_add rfl rfl (wrap_i64 (by (first | omega | (dsimp only at *; omega) | (simp at *; omega))) (by (first | omega | (dsimp only at *; omega) | (simp at *; omega)))) ?_)
                            refine xr_op rfl rfl (xv_assign rfl ?_)
                            refine xr_end rfl ?_
                            exact rnd (q + 1) (by (first | omega | (dsimp only at *; omega) | (simp at *; omega))) (by (first | omega | (dsimp only at *; omega) | (simp at *; omega))) (le_put (le_put (le_put (le_put (le_put (le_put (le_put (le_put (le_put (le_emp _) rfl) rfl) rfl) rfl) rfl) rfl) rfl) rfl) rfl) (by (first|((repeat first|exact s_0|exact s_1|exact s_3|refine s_4 ?_|refine s_5 ?_|refine s_6 ?_|refine s_7 ?_);done)|((repeat first|exact s_0|exact s_1|exact s_3|refine s_4 ?_|refine s_5 ?_|refine s_6 ?_|refine s_8 ?_);done)))
                          · refine xr_gd rfl rfl rfl (xv_pick rfl rfl ?_)
                            refine xr_op rfl rfl (xv_pick rfl rfl ?_)
                            refine xr_end rfl ?_
                            refine th_n ?_
                            refine xc_false rfl ?_
                            refine xc_skip ?_
                            refine th_n ?_
                            refine xc_seq (xc_region ?_)
                            refine xr_op rfl rfl ((al_buildSlice sl38 ty3 rfl rfl rfl rfl rfl (by ((try apply evl_some rfl);(repeat (first|exact (rfl : _ = [])|apply evl_cons rfl (by (first|exact v_1|exact v_2|exact v_3|exact v_4|exact v_5|exact v_6|exact v_7|exact v_8|exact v_9|exact rfl))|exact rfl))))).xv (fun b262 hb262 => ?_))
                            refine xr_op rfl rfl (xv_move rfl ?_)
                            refine xr_op rfl rfl (xv_dup (enc := eI) (ys := (lE y P sd w P.length)) sl38 ty3 rfl rfl rfl rfl (lE_len _ _ _ _ _).symm (slvL eI_len (by ((repeat first|exact z_0|assumption|refine z_1 ?_|(refine z_l ?_;(repeat first|exact z_0|assumption|refine z_1 ?_);done)|refine z_r ?_);done))) eI_len eI_1 (by simp only []; omega) (by omega) (fun X hX => ?_))
                            refine xr_op rfl rfl (xv_assign rfl ?_)
                            refine xr_end rfl ?_
                            refine th_n ?_
                            refine xc_seq ?_
                            refine xc_draw0 [(0, .S), (1, .S), (2, .S), (3, .S), (4, .S), (5, .S), (6, .S), (7, .R), (8, .S), (9, .S), (10, .S), (11, .S), (12, .S), (13, .S), (14, .S), (15, .R), (16, .S), (17, .S), (18, .S), (19, .S), (20, .S), (21, .O), (22, .S), (23, .O)] mixed (by kernel_rfl) ?_
                            have hqw : q ≠ w := by (first | omega | (dsimp only at *; omega) | (simp at *; omega))
                            obtain ⟨bv, sv, hva, hvm, hu1, hX1⟩ := vec_updI (t := 3) (ys := ((lE y P sd w P.length).set w (endE y v sd w + 2 * (sd : Int) - 1))) hX (by omega) (by rw [List.length_set])
                            obtain ⟨bv2, sv2, hva2, hvm2, hu2, hX2⟩ := vec_updI (t := 3) (xs := ((lE y P sd w P.length).set w (endE y v sd w + 2 * (sd : Int) - 1))) (ys := (((lE y P sd w P.length).set w (endE y v sd w + 2 * (sd : Int) - 1)).set q (sF (fun j => xE y P sd w j q) P.length + 1 - 2 * (sd : Int)))) hX1 (by omega) (by rw [List.length_set])
                            obtain rfl : bv2 = bv := by rw [hva] at hva2; cases hva2; rfl
                            have hu1b := u_3 (f := ((b112, .cells ⟨(lE y P sd w P.length).flatMap eI⟩ 3) :: (G2 ++ (G1 ++ (b3, .cells ⟨eYard y⟩ 25) :: h)))) hu1
                            have hu2b := u_3 (f := ((b112, .cells ⟨(lE y P sd w P.length).flatMap eI⟩ 3) :: (G2 ++ (G1 ++ (b3, .cells ⟨eYard y⟩ 25) :: h)))) hu2
                            have hxl : (((lE y P sd w P.length).set w (endE y v sd w + 2 * (sd : Int) - 1)).set q (sF (fun j => xE y P sd w j q) P.length + 1 - 2 * (sd : Int))).length = y.coals.length := by rw [List.length_set, List.length_set, lE_len]
                            have hxw : (((lE y P sd w P.length).set w (endE y v sd w + 2 * (sd : Int) - 1)).set q (sF (fun j => xE y P sd w j q) P.length + 1 - 2 * (sd : Int))).getD w 0 = (endE y v sd w + 2 * (sd : Int) - 1) := by rw [List.getD_eq_getElem?_getD, List.getElem?_set_ne hqw, List.getElem?_set_self (by rw [lE_len]; omega)]; rfl
                            refine js_S rfl rfl (.inl rfl) (xv_move rfl ⟨rfl, rfl⟩) ?_
                            refine js_S rfl rfl (.inl rfl) (xv_move rfl ⟨rfl, rfl⟩) ?_
                            refine js_S rfl rfl (.inl rfl) (xv_move rfl ⟨rfl, rfl⟩) ?_
                            refine js_S rfl rfl (.inl rfl) (xv_move rfl ⟨rfl, rfl⟩) ?_
                            refine js_S rfl rfl (.inl rfl) (xv_move rfl ⟨rfl, rfl⟩) ?_
                            refine js_S rfl rfl (.inl rfl) (xv_move rfl ⟨rfl, rfl⟩) ?_
                            refine js_S rfl rfl (.inl rfl) (xv_ia (sz := 1) (j := w) sl38 ty3 rfl (by rw [hva]; rfl) rfl (by (first | assumption | with_reducible exact Int.toNat_natCast _ | with_reducible rfl | rfl)) (by (first | omega | (dsimp only at *; omega) | (simp at *; omega))) (by (first | omega | (dsimp only at *; omega) | (simp at *; omega))) ⟨rfl, rfl⟩) ?_
                            refine js_R0 rfl rfl (.inl rfl) (xv_load1 ty3 rfl rfl (z_l hvm) (getL (ints_get hgE)) ⟨rfl, rfl⟩) ?_
                            refine js_S rfl rfl (.inl rfl) (xv_move rfl ⟨rfl, rfl⟩) ?_
                            refine js_S rfl rfl (.inl rfl) (xv_mul rfl rfl (wrap_i64 (by (first | omega | (dsimp only at *; omega) | (simp at *; omega))) (by (first | omega | (dsimp only at *; omega) | (simp at *; omega)))) ⟨rfl, rfl⟩) ?_
                            refine js_S rfl rfl (.inl rfl) (xv_add rfl rfl (wrap_i64 (by (first | omega | (dsimp only at *; omega) | (simp at *; omega))) (by (first | omega | (dsimp only at *; omega) | (simp at *; omega)))) ⟨rfl, rfl⟩) ?_
                            refine js_S rfl rfl (.inl rfl) (xv_sub rfl rfl (wrap_i64 (by (first | omega | (dsimp only at *; omega) | (simp at *; omega))) (by (first | omega | (dsimp only at *; omega) | (simp at *; omega)))) ⟨rfl, rfl⟩) ?_
                            refine js_S rfl rfl (.inl rfl) (xv_move rfl ⟨rfl, rfl⟩) ?_
                            refine js_S rfl rfl (.inl rfl) (xv_move rfl ⟨rfl, rfl⟩) ?_
                            refine js_S rfl rfl (.inl rfl) (xv_ia (sz := 1) (j := q) sl38 ty3 rfl (by rw [hva]; rfl) rfl (by (first | assumption | with_reducible exact Int.toNat_natCast _ | with_reducible rfl | rfl)) (by (first | omega | (dsimp only at *; omega) | (simp at *; omega))) (by (first | omega | (dsimp only at *; omega) | (simp at *; omega))) ⟨rfl, rfl⟩) ?_
                            refine js_R0 rfl rfl (.inl rfl) (xv_load1 ty3 rfl rfl (z_l hvm) (getL (ints_get hgq)) ⟨rfl, rfl⟩) ?_
                            refine js_S rfl rfl (.inl rfl) (xv_add rfl rfl (wrap_i64 (by (first | omega | (dsimp only at *; omega) | (simp at *; omega))) (by (first | omega | (dsimp only at *; omega) | (simp at *; omega)))) ⟨rfl, rfl⟩) ?_
                            refine js_S rfl rfl (.inl rfl) (xv_move rfl ⟨rfl, rfl⟩) ?_
                            refine js_S rfl rfl (.inl rfl) (xv_mul rfl rfl (wrap_i64 (by (first | omega | (dsimp only at *; omega) | (simp at *; omega))) (by (first | omega | (dsimp only at *; omega) | (simp at *; omega)))) ⟨rfl, rfl⟩) ?_
                            refine js_S rfl rfl (.inl rfl) (xv_sub rfl rfl (wrap_i64 (by (first | omega | (dsimp only at *; omega) | (simp at *; omega))) (by (first | omega | (dsimp only at *; omega) | (simp at *; omega)))) ⟨rfl, rfl⟩) ?_
                            refine js_S rfl rfl (.inl rfl) (xv_ia (sz := 1) (j := w) sl38 ty3 rfl (by rw [hva]; rfl) rfl (by (first | assumption | with_reducible exact Int.toNat_natCast _ | with_reducible rfl | rfl)) (by (first | omega | (dsimp only at *; omega) | (simp at *; omega))) (by (first | omega | (dsimp only at *; omega) | (simp at *; omega))) ⟨rfl, rfl⟩) ?_
                            refine js_O0 rfl rfl (.inl rfl) (xv_s1 (l := (lE y P sd w P.length).flatMap eI ++ sv) (l' := ((lE y P sd w P.length).set w (endE y v sd w + 2 * (sd : Int) - 1)).flatMap eI ++ sv) ty3 rfl rfl rfl hu1b rfl (by rw [List.length_append, ints_len, lE_len]; (first | omega | (dsimp only at *; omega) | (simp at *; omega))) (by rw [List.set_append_left _ _ (by rw [ints_len, lE_len]; (first | omega | (dsimp only at *; omega) | (simp at *; omega)))]; exact congrArg (· ++ sv) (ints_setN (by rw [lE_len]; (first | omega | (dsimp only at *; omega) | (simp at *; omega))))) ?_)
                            refine js_S rfl rfl (.inl rfl) (xv_ia (sz := 1) (j := q) sl38 ty3 rfl (by rw [hva]; rfl) rfl (by (first | assumption | with_reducible exact Int.toNat_natCast _ | with_reducible rfl | rfl)) (by (first | omega | (dsimp only at *; omega) | (simp at *; omega))) (by (first | omega | (dsimp only at *; omega) | (simp at *; omega))) ⟨rfl, rfl⟩) ?_
                            refine js_O0 rfl rfl (.inl rfl) (xv_s1 (l := ((lE y P sd w P.length).set w (endE y v sd w + 2 * (sd : Int) - 1)).flatMap eI ++ sv2) (l' := (((lE y P sd w P.length).set w (endE y v sd w + 2 * (sd : Int) - 1)).set q (sF (fun j => xE y P sd w j q) P.length + 1 - 2 * (sd : Int))).flatMap eI ++ sv2) ty3 rfl rfl rfl hu2b rfl (by rw [List.length_append, ints_len, List.length_set, lE_len]; (first | omega | (dsimp only at *; omega) | (simp at *; omega))) (by rw [List.set_append_left _ _ (by rw [ints_len, List.length_set, lE_len]; (first | omega | (dsimp only at *; omega) | (simp at *; omega)))]; exact congrArg (· ++ sv2) (ints_setN (by rw [List.length_set, lE_len]; (first | omega | (dsimp only at *; omega) | (simp at *; omega))))) ?_)
                            refine j_end0 ?_
                            refine th_n ?_
                            refine xc_seq (xc_region ?_)
                            refine xr_op rfl rfl (xv_loadA ty25 rfl rfl (by ((repeat first|exact z_0|assumption|refine z_1 ?_|(refine z_l ?_;(repeat first|exact z_0|assumption|refine z_1 ?_);done)|refine z_r ?_);done)) (by ((try apply evl_some rfl);(repeat (first|exact (rfl : _ = [])|apply evl_cons rfl (by (first|exact v_1|exact v_2|exact v_3|exact v_4|exact v_5|exact v_6|exact v_7|exact v_8|exact v_9|exact rfl))|exact rfl)))) (by rfl) ?_)
                            refine xr_op rfl rfl (xv_move rfl ?_)
                            refine xr_op rfl rfl (xv_move rfl ?_)
                            refine xr_op rfl rfl (xv_calls rfl hb17 (CanR_c (hy.sub (by intro z hz; ((repeat first|exact z_0|assumption|refine z_1 ?_|(refine z_l ?_;(repeat first|exact z_0|assumption|refine z_1 ?_);done)|refine z_r ?_);done))) (⟨by omega, by omega⟩ : Small y) hgy hvs hdr hv (ts := (((lE y P sd w P.length).set w (endE y v sd w + 2 * (sd : Int) - 1)).set q (sF (fun j => xE y P sd w j q) P.length + 1 - 2 * (sd : Int)))) hxl.symm hxl ((Vec.slvA (t := 3) eI_len hxl hX2).sub (by intro z hz; ((repeat first|exact z_0|assumption|refine z_1 ?_|(refine z_l ?_;(repeat first|exact z_0|assumption|refine z_1 ?_);done)|refine z_r ?_);done))) (hE.beyond (side := sd) hwn hxl hxw (by omega)) (up_ret ?_)))
                            refine xr_op rfl rfl (xv_move rfl ?_)
                            refine xr_op rfl rfl (xv_extract rfl rfl ?_)
                            refine xr_op rfl rfl (xv_extract rfl rfl ?_)
                            refine xr_op rfl rfl (xv_assign rfl ?_)
                            refine xr_op rfl rfl (xv_assign rfl ?_)
                            refine xr_end rfl ?_
                            refine th_n ?_
                            refine xc_seq (xc_region ?_)
                            refine xr_op rfl rfl (xv_move rfl ?_)
                            refine xr_op rfl rfl (xv_neqF rfl rfl rfl ?_)
                            refine xr_op rfl rfl (xv_move rfl ?_)
                            refine xr_gd rfl rfl rfl (xv_move rfl ?_)
                            refine xr_op rfl rfl (xv_pick rfl rfl ?_)
                            refine xr_end rfl ?_
                            refine th_n ?_
                            refine xc_false rfl ?_
                            refine xc_skip ?_
                            refine bk_n ?_
                            refine th_n ?_
                            refine xc_region ?_
                            refine xr_op rfl rfl (xv_move rfl ?_)
                            refine xr_op rfl rfl (xv_add rfl rfl (wrap_i64 (by (first | omega | (dsimp only at *; omega) | (simp at *; omega))) (by (first | omega | (dsimp only at *; omega) | (simp at *; omega)))) ?_)
                            refine xr_op rfl rfl (xv_assign rfl ?_)
                            refine xr_end rfl ?_
                            exact rnd (q + 1) (by (first | omega | (dsimp only at *; omega) | (simp at *; omega))) (by (first | omega | (dsimp only at *; omega) | (simp at *; omega))) (le_put (le_put (le_put (le_put (le_put (le_put (le_put (le_put (le_put (le_emp _) rfl) rfl) rfl) rfl) rfl) rfl) rfl) rfl) rfl) (by (first|((repeat first|exact s_0|exact s_1|exact s_3|refine s_4 ?_|refine s_5 ?_|refine s_6 ?_|refine s_7 ?_);done)|((repeat first|exact s_0|exact s_1|exact s_3|refine s_4 ?_|refine s_5 ?_|refine s_6 ?_|refine s_8 ?_);done)))
                        · refine xr_gd rfl rfl rfl (xv_move rfl ?_)
                          refine xr_no rfl rfl rfl rfl ?_
                          refine xr_no rfl rfl rfl rfl ?_
                          refine xr_gd rfl rfl rfl (xv_pick rfl rfl ?_)
                          refine xr_op rfl rfl (xv_pick rfl rfl ?_)
                          refine xr_end rfl ?_
                          refine th_n ?_
                          refine xc_false rfl ?_
                          refine xc_skip ?_
                          refine th_n ?_
                          refine xc_seq (xc_region ?_)
                          refine xr_op rfl rfl ((al_buildSlice sl38 ty3 rfl rfl rfl rfl rfl (by ((try apply evl_some rfl);(repeat (first|exact (rfl : _ = [])|apply evl_cons rfl (by (first|exact v_1|exact v_2|exact v_3|exact v_4|exact v_5|exact v_6|exact v_7|exact v_8|exact v_9|exact rfl))|exact rfl))))).xv (fun b262 hb262 => ?_))
                          refine xr_op rfl rfl (xv_move rfl ?_)
                          refine xr_op rfl rfl (xv_dup (enc := eI) (ys := (lE y P sd w P.length)) sl38 ty3 rfl rfl rfl rfl (lE_len _ _ _ _ _).symm (slvL eI_len (by ((repeat first|exact z_0|assumption|refine z_1 ?_|(refine z_l ?_;(repeat first|exact z_0|assumption|refine z_1 ?_);done)|refine z_r ?_);done))) eI_len eI_1 (by simp only []; omega) (by omega) (fun X hX => ?_))
                          refine xr_op rfl rfl (xv_assign rfl ?_)
                          refine xr_end rfl ?_
                          refine th_n ?_
                          refine xc_seq ?_
                          refine xc_draw0 [(0, .S), (1, .S), (2, .S), (3, .S), (4, .S), (5, .S), (6, .S), (7, .R), (8, .S), (9, .S), (10, .S), (11, .S), (12, .S), (13, .S), (14, .S), (15, .R), (16, .S), (17, .S), (18, .S), (19, .S), (20, .S), (21, .O), (22, .S), (23, .O)] mixed (by kernel_rfl) ?_
                          have hqw : q ≠ w := by (first | omega | (dsimp only at *; omega) | (simp at *; omega))
                          obtain ⟨bv, sv, hva, hvm, hu1, hX1⟩ := vec_updI (t := 3) (ys := ((lE y P sd w P.length).set w (endE y v sd w + 2 * (sd : Int) - 1))) hX (by omega) (by rw [List.length_set])
                          obtain ⟨bv2, sv2, hva2, hvm2, hu2, hX2⟩ := vec_updI (t := 3) (xs := ((lE y P sd w P.length).set w (endE y v sd w + 2 * (sd : Int) - 1))) (ys := (((lE y P sd w P.length).set w (endE y v sd w + 2 * (sd : Int) - 1)).set q (sF (fun j => xE y P sd w j q) P.length + 1 - 2 * (sd : Int)))) hX1 (by omega) (by rw [List.length_set])
                          obtain rfl : bv2 = bv := by rw [hva] at hva2; cases hva2; rfl
                          have hu1b := u_3 (f := ((b112, .cells ⟨(lE y P sd w P.length).flatMap eI⟩ 3) :: (G2 ++ (G1 ++ (b3, .cells ⟨eYard y⟩ 25) :: h)))) hu1
                          have hu2b := u_3 (f := ((b112, .cells ⟨(lE y P sd w P.length).flatMap eI⟩ 3) :: (G2 ++ (G1 ++ (b3, .cells ⟨eYard y⟩ 25) :: h)))) hu2
                          have hxl : (((lE y P sd w P.length).set w (endE y v sd w + 2 * (sd : Int) - 1)).set q (sF (fun j => xE y P sd w j q) P.length + 1 - 2 * (sd : Int))).length = y.coals.length := by rw [List.length_set, List.length_set, lE_len]
                          have hxw : (((lE y P sd w P.length).set w (endE y v sd w + 2 * (sd : Int) - 1)).set q (sF (fun j => xE y P sd w j q) P.length + 1 - 2 * (sd : Int))).getD w 0 = (endE y v sd w + 2 * (sd : Int) - 1) := by rw [List.getD_eq_getElem?_getD, List.getElem?_set_ne hqw, List.getElem?_set_self (by rw [lE_len]; omega)]; rfl
                          refine js_S rfl rfl (.inl rfl) (xv_move rfl ⟨rfl, rfl⟩) ?_
                          refine js_S rfl rfl (.inl rfl) (xv_move rfl ⟨rfl, rfl⟩) ?_
                          refine js_S rfl rfl (.inl rfl) (xv_move rfl ⟨rfl, rfl⟩) ?_
                          refine js_S rfl rfl (.inl rfl) (xv_move rfl ⟨rfl, rfl⟩) ?_
                          refine js_S rfl rfl (.inl rfl) (xv_move rfl ⟨rfl, rfl⟩) ?_
                          refine js_S rfl rfl (.inl rfl) (xv_move rfl ⟨rfl, rfl⟩) ?_
                          refine js_S rfl rfl (.inl rfl) (xv_ia (sz := 1) (j := w) sl38 ty3 rfl (by rw [hva]; rfl) rfl (by (first | assumption | with_reducible exact Int.toNat_natCast _ | with_reducible rfl | rfl)) (by (first | omega | (dsimp only at *; omega) | (simp at *; omega))) (by (first | omega | (dsimp only at *; omega) | (simp at *; omega))) ⟨rfl, rfl⟩) ?_
                          refine js_R0 rfl rfl (.inl rfl) (xv_load1 ty3 rfl rfl (z_l hvm) (getL (ints_get hgE)) ⟨rfl, rfl⟩) ?_
                          refine js_S rfl rfl (.inl rfl) (xv_move rfl ⟨rfl, rfl⟩) ?_
                          refine js_S rfl rfl (.inl rfl) (xv_mul rfl rfl (wrap_i64 (by (first | omega | (dsimp only at *; omega) | (simp at *; omega))) (by (first | omega | (dsimp only at *; omega) | (simp at *; omega)))) ⟨rfl, rfl⟩) ?_
                          refine js_S rfl rfl (.inl rfl) (xv_add rfl rfl (wrap_i64 (by (first | omega | (dsimp only at *; omega) | (simp at *; omega))) (by (first | omega | (dsimp only at *; omega) | (simp at *; omega)))) ⟨rfl, rfl⟩) ?_
                          refine js_S rfl rfl (.inl rfl) (xv_sub rfl rfl (wrap_i64 (by (first | omega | (dsimp only at *; omega) | (simp at *; omega))) (by (first | omega | (dsimp only at *; omega) | (simp at *; omega)))) ⟨rfl, rfl⟩) ?_
                          refine js_S rfl rfl (.inl rfl) (xv_move rfl ⟨rfl, rfl⟩) ?_
                          refine js_S rfl rfl (.inl rfl) (xv_move rfl ⟨rfl, rfl⟩) ?_
                          refine js_S rfl rfl (.inl rfl) (xv_ia (sz := 1) (j := q) sl38 ty3 rfl (by rw [hva]; rfl) rfl (by (first | assumption | with_reducible exact Int.toNat_natCast _ | with_reducible rfl | rfl)) (by (first | omega | (dsimp only at *; omega) | (simp at *; omega))) (by (first | omega | (dsimp only at *; omega) | (simp at *; omega))) ⟨rfl, rfl⟩) ?_
                          refine js_R0 rfl rfl (.inl rfl) (xv_load1 ty3 rfl rfl (z_l hvm) (getL (ints_get hgq)) ⟨rfl, rfl⟩) ?_
                          refine js_S rfl rfl (.inl rfl) (xv_add rfl rfl (wrap_i64 (by (first | omega | (dsimp only at *; omega) | (simp at *; omega))) (by (first | omega | (dsimp only at *; omega) | (simp at *; omega)))) ⟨rfl, rfl⟩) ?_
                          refine js_S rfl rfl (.inl rfl) (xv_move rfl ⟨rfl, rfl⟩) ?_
                          refine js_S rfl rfl (.inl rfl) (xv_mul rfl rfl (wrap_i64 (by (first | omega | (dsimp only at *; omega) | (simp at *; omega))) (by (first | omega | (dsimp only at *; omega) | (simp at *; omega)))) ⟨rfl, rfl⟩) ?_
                          refine js_S rfl rfl (.inl rfl) (xv_sub rfl rfl (wrap_i64 (by (first | omega | (dsimp only at *; omega) | (simp at *; omega))) (by (first | omega | (dsimp only at *; omega) | (simp at *; omega)))) ⟨rfl, rfl⟩) ?_
                          refine js_S rfl rfl (.inl rfl) (xv_ia (sz := 1) (j := w) sl38 ty3 rfl (by rw [hva]; rfl) rfl (by (first | assumption | with_reducible exact Int.toNat_natCast _ | with_reducible rfl | rfl)) (by (first | omega | (dsimp only at *; omega) | (simp at *; omega))) (by (first | omega | (dsimp only at *; omega) | (simp at *; omega))) ⟨rfl, rfl⟩) ?_
                          refine js_O0 rfl rfl (.inl rfl) (xv_s1 (l := (lE y P sd w P.length).flatMap eI ++ sv) (l' := ((lE y P sd w P.length).set w (endE y v sd w + 2 * (sd : Int) - 1)).flatMap eI ++ sv) ty3 rfl rfl rfl hu1b rfl (by rw [List.length_append, ints_len, lE_len]; (first | omega | (dsimp only at *; omega) | (simp at *; omega))) (by rw [List.set_append_left _ _ (by rw [ints_len, lE_len]; (first | omega | (dsimp only at *; omega) | (simp at *; omega)))]; exact congrArg (· ++ sv) (ints_setN (by rw [lE_len]; (first | omega | (dsimp only at *; omega) | (simp at *; omega))))) ?_)
                          refine js_S rfl rfl (.inl rfl) (xv_ia (sz := 1) (j := q) sl38 ty3 rfl (by rw [hva]; rfl) rfl (by (first | assumption | with_reducible exact Int.toNat_natCast _ | with_reducible rfl | rfl)) (by (first | omega | (dsimp only at *; omega) | (simp at *; omega))) (by (first | omega | (dsimp only at *; omega) | (simp at *; omega))) ⟨rfl, rfl⟩) ?_
                          refine js_O0 rfl rfl (.inl rfl) (xv_s1 (l := ((lE y P sd w P.length).set w (endE y v sd w + 2 * (sd : Int) - 1)).flatMap eI ++ sv2) (l' := (((lE y P sd w P.length).set w (endE y v sd w + 2 * (sd : Int) - 1)).set q (sF (fun j => xE y P sd w j q) P.length + 1 - 2 * (sd : Int))).flatMap eI ++ sv2) ty3 rfl rfl rfl hu2b rfl (by rw [List.length_append, ints_len, List.length_set, lE_len]; (first | omega | (dsimp only at *; omega) | (simp at *; omega))) (by rw [List.set_append_left _ _ (by rw [ints_len, List.length_set, lE_len]; (first | omega | (dsimp only at *; omega) | (simp at *; omega)))]; exact congrArg (· ++ sv2) (ints_setN (by rw [List.length_set, lE_len]; (first | omega | (dsimp only at *; omega) | (simp at *; omega))))) ?_)
                          refine j_end0 ?_
                          refine th_n ?_
                          refine xc_seq (xc_region ?_)
                          refine xr_op rfl rfl (xv_loadA ty25 rfl rfl (by ((repeat first|exact z_0|assumption|refine z_1 ?_|(refine z_l ?_;(repeat first|exact z_0|assumption|refine z_1 ?_);done)|refine z_r ?_);done)) (by ((try apply evl_some rfl);(repeat (first|exact (rfl : _ = [])|apply evl_cons rfl (by (first|exact v_1|exact v_2|exact v_3|exact v_4|exact v_5|exact v_6|exact v_7|exact v_8|exact v_9|exact rfl))|exact rfl)))) (by rfl) ?_)
                          refine xr_op rfl rfl (xv_move rfl ?_)
                          refine xr_op rfl rfl (xv_move rfl ?_)
                          refine xr_op rfl rfl (xv_calls rfl hb17 (CanR_c (hy.sub (by intro z hz; ((repeat first|exact z_0|assumption|refine z_1 ?_|(refine z_l ?_;(repeat first|exact z_0|assumption|refine z_1 ?_);done)|refine z_r ?_);done))) (⟨by omega, by omega⟩ : Small y) hgy hvs hdr hv (ts := (((lE y P sd w P.length).set w (endE y v sd w + 2 * (sd : Int) - 1)).set q (sF (fun j => xE y P sd w j q) P.length + 1 - 2 * (sd : Int)))) hxl.symm hxl ((Vec.slvA (t := 3) eI_len hxl hX2).sub (by intro z hz; ((repeat first|exact z_0|assumption|refine z_1 ?_|(refine z_l ?_;(repeat first|exact z_0|assumption|refine z_1 ?_);done)|refine z_r ?_);done))) (hE.beyond (side := sd) hwn hxl hxw (by omega)) (up_ret ?_)))
                          refine xr_op rfl rfl (xv_move rfl ?_)
                          refine xr_op rfl rfl (xv_extract rfl rfl ?_)
                          refine xr_op rfl rfl (xv_extract rfl rfl ?_)
                          refine xr_op rfl rfl (xv_assign rfl ?_)
                          refine xr_op rfl rfl (xv_assign rfl ?_)
                          refine xr_end rfl ?_
                          refine th_n ?_
                          refine xc_seq (xc_region ?_)
                          refine xr_op rfl rfl (xv_move rfl ?_)
                          refine xr_op rfl rfl (xv_neqF rfl rfl rfl ?_)
                          refine xr_op rfl rfl (xv_move rfl ?_)
                          refine xr_gd rfl rfl rfl (xv_move rfl ?_)
                          refine xr_op rfl rfl (xv_pick rfl rfl ?_)
                          refine xr_end rfl ?_
                          refine th_n ?_
                          refine xc_false rfl ?_
                          refine xc_skip ?_
                          refine bk_n ?_
                          refine th_n ?_
                          refine xc_region ?_
                          refine xr_op rfl rfl (xv_move rfl ?_)
                          refine xr_op rfl rfl (xv_add rfl rfl (wrap_i64 (by (first | omega | (dsimp only at *; omega) | (simp at *; omega))) (by (first | omega | (dsimp only at *; omega) | (simp at *; omega)))) ?_)
                          refine xr_op rfl rfl (xv_assign rfl ?_)
                          refine xr_end rfl ?_
                          exact rnd (q + 1) (by (first | omega | (dsimp only at *; omega) | (simp at *; omega))) (by (first | omega | (dsimp only at *; omega) | (simp at *; omega))) (le_put (le_put (le_put (le_put (le_put (le_put (le_put (le_put (le_put (le_emp _) rfl) rfl) rfl) rfl) rfl) rfl) rfl) rfl) rfl) (by (first|((repeat first|exact s_0|exact s_1|exact s_3|refine s_4 ?_|refine s_5 ?_|refine s_6 ?_|refine s_7 ?_);done)|((repeat first|exact s_0|exact s_1|exact s_3|refine s_4 ?_|refine s_5 ?_|refine s_6 ?_|refine s_8 ?_);done)))
                    · refine xr_end rfl ?_
                      refine th_n ?_
                      refine xc_false rfl ?_
                      refine xc_exit ?_
                      refine th_x ?_
                      refine th_x ?_
                      refine bk_same ?_
                      refine bk_n ?_
                      refine th_n ?_
                      refine xc_region ?_
                      refine xr_op rfl rfl (xv_move rfl ?_)
                      refine xr_op rfl rfl (xv_add rfl rfl (wrap_i64 (by (first | omega | (dsimp only at *; omega) | (simp at *; omega))) (by (first | omega | (dsimp only at *; omega) | (simp at *; omega)))) ?_)
                      refine xr_op rfl rfl (xv_assign rfl ?_)
                      refine xr_end rfl ?_
                      exact rnd (sd + 1) (by (first | omega | (dsimp only at *; omega) | (simp at *; omega))) (by (first | omega | (dsimp only at *; omega) | (simp at *; omega))) (le_put (le_put (le_put (le_put (le_put (le_put (le_put (le_emp _) rfl) rfl) rfl) rfl) rfl) rfl) rfl) (by (first|((repeat first|exact s_0|exact s_1|exact s_3|refine s_4 ?_|refine s_5 ?_|refine s_6 ?_|refine s_7 ?_);done)|((repeat first|exact s_0|exact s_1|exact s_3|refine s_4 ?_|refine s_5 ?_|refine s_6 ?_|refine s_8 ?_);done)))
              · refine xr_end rfl ?_
                refine th_n ?_
                refine xc_false rfl ?_
                refine xc_exit ?_
                refine th_x ?_
                refine th_x ?_
                refine bk_same ?_
                refine th_n ?_
                refine xc_seq (xc_region ?_)
                refine xr_op rfl rfl (xv_move rfl ?_)
                refine xr_op rfl rfl (xv_geq2 rfl rfl (fun q14 => ?_) (fun q14 => ?_))
                · refine xr_op rfl rfl (xv_move rfl ?_)
                  refine xr_gd rfl rfl rfl (xv_calls rfl hb10 (awake_c (up_ret ?_)))
                  refine xr_op rfl rfl (xv_pick rfl rfl ?_)
                  refine xr_op rfl rfl (xv_assign rfl ?_)
                  refine xr_end rfl ?_
                  refine th_n ?_
                  refine xc_ret ?_
                  refine body_ret (h' := h) rfl (ro_tmp rfl ro_nil) (by (first|((repeat first|exact s_0|exact s_1|exact s_3|refine s_4 ?_|refine s_5 ?_|refine s_6 ?_|refine s_7 ?_);done)|((repeat first|exact s_0|exact s_1|exact s_3|refine s_4 ?_|refine s_5 ?_|refine s_6 ?_|refine s_8 ?_);done))) ?_
                  first | exact H | (exfalso; omega)
                · refine xr_op rfl rfl (xv_move rfl ?_)
                  refine xr_no rfl rfl rfl rfl ?_
                  refine xr_op rfl rfl (xv_pick rfl rfl ?_)
                  refine xr_op rfl rfl (xv_assign rfl ?_)
                  refine xr_end rfl ?_
                  refine th_n ?_
                  refine xc_ret ?_
                  refine body_ret (h' := h) rfl (ro_tmp rfl ro_nil) (by (first|((repeat first|exact s_0|exact s_1|exact s_3|refine s_4 ?_|refine s_5 ?_|refine s_6 ?_|refine s_7 ?_);done)|((repeat first|exact s_0|exact s_1|exact s_3|refine s_4 ?_|refine s_5 ?_|refine s_6 ?_|refine s_8 ?_);done))) ?_
                  first | exact H | (exfalso; omega)

end Go.Proofs.Ytpefpafijadfmaa
