/-
  Walks.
-/
import Derived.Test.YtjbfdfmngampdaaW12
namespace Go.Proofs.Ytjbfdfmngampdaa
open Go Go.H
set_option maxRecDepth 100000
set_option maxHeartbeats 8000000
set_option linter.all false
theorem RMix_c {l : List Supply} {a : Option Addr} {c : Nat} {q : Ask} {h : Hp} {R : Ending → Hp → Prop} (hl : SlV h 5 eSup a l) (hlen : l.length ≤ 1000)
    (H : ∀ a9 c9 q9, SlV (q9 ++ h) 1 eI a9 (mixA l q).1 → R (.returned (.tuple ⟨[.slice a9 (mixA l q).1.length c9, I (mixA l q).2.1, I (mixA l q).2.2]⟩)) (q9 ++ h)) :
    ACalls Try.prog 12 ⟨[.slice a l.length c, I q.vol, I q.least, I q.most]⟩ h R := by
  refine calls_of_xc (N := 71) Try.func12 rfl (by rfl) ?_
  refine xc_seq (xc_region ?_)
  refine xr_op rfl rfl (xv_assign rfl ?_)
  refine xr_op rfl rfl (xv_assign rfl ?_)
  refine xr_op rfl rfl (xv_assign rfl ?_)
  refine xr_end rfl ?_
  refine th_n ?_
  refine xc_seq ?_
  refine xc_seq (xc_region ?_)
  refine xr_op rfl rfl (xv_move rfl ?_)
  refine xr_op rfl rfl (xv_len sl22 rfl ?_)
  refine xr_op rfl rfl (xv_gtr2 rfl rfl (fun q1 => ?_) (fun q1 => ?_))
  · refine xr_end rfl ?_
    refine th_n ?_
    refine xc_true rfl ?_
    refine xc_seq (xc_region ?_)
    refine xr_op rfl rfl (xv_assign rfl ?_)
    refine xr_op rfl rfl (xv_assign rfl ?_)
    refine xr_op rfl rfl (xv_assign rfl ?_)
    refine xr_end rfl ?_
    refine th_n ?_
    refine xc_ret ?_
    refine th_r ?_
    refine body_ret (h' := ([] ++ h)) rfl (ro_tmp rfl (ro_tmp rfl (ro_tmp rfl ro_nil))) (by (first|((repeat first|exact s_0|exact s_1|exact s_3|refine s_4 ?_|refine s_5 ?_|refine s_6 ?_|refine s_7 ?_);done)|((repeat first|exact s_0|exact s_1|exact s_3|refine s_4 ?_|refine s_5 ?_|refine s_6 ?_|refine s_8 ?_);done))) ?_
    first | (rw [mixA_3 (by omega)] at H; exact H none 0 [] (.inl rfl)) | (rw [mixA_1 (by omega) hsu] at H; exact H none 0 [] (.inl rfl)) | (rw [mixA_2 (by omega) hsu (fun hq9 => by unfold MixB at hq9; omega)] at H; exact H none 0 [] (.inl rfl)) | (rw [mixA_n (by omega) hsu hmb (by rw [mixF_fold, ← hmz, List.length_eq_zero_iff.1 (show zs.length = 0 by (first | omega | (dsimp only at *; omega) | (simp at *; omega)))]; rfl)] at H; exact H none 0 [] (.inl rfl)) | (rw [mixA_s (by omega) hsu hmb hfin] at H; exact H y.a y.c G3 (hz3 y hy))
  · refine xr_end rfl ?_
    refine th_n ?_
    refine xc_false rfl ?_
    refine xc_skip ?_
    refine th_n ?_
    refine xc_seq ?_
    refine xc_seq (xc_region ?_)
    refine xr_op rfl rfl (xv_move rfl ?_)
    refine xr_op rfl rfl (xv_calls rfl hb10 (Supplies_c (hl.sub (by intro z hz; ((repeat first|exact z_0|assumption|refine z_1 ?_|(refine z_l ?_;(repeat first|exact z_0|assumption|refine z_1 ?_);done)|refine z_r ?_);done))) (by omega) (fun hsu => up_ret ?_) (fun hsu => up_ret ?_)))
    · refine xr_op rfl rfl (xv_not rfl ?_)
      refine xr_end rfl ?_
      refine th_n ?_
      refine xc_false rfl ?_
      refine xc_skip ?_
      refine th_n ?_
      refine xc_seq ?_
      refine xc_seq (xc_region ?_)
      refine xr_op rfl rfl (xv_move rfl ?_)
      refine xr_op rfl rfl (xv_calls rfl hb31 (in_c _ _ _ (fun hl2 hu3 => up_ret ?_) (fun hn4 => up_ret ?_)))
      · refine xr_op rfl rfl (xv_not rfl ?_)
        refine xr_op rfl rfl (xv_move rfl ?_)
        refine xr_gd rfl rfl rfl (xv_move rfl ?_)
        refine xr_gd rfl rfl rfl (xv_lss2 rfl rfl (fun q5 => ?_) (fun q5 => ?_))
        · refine xr_op rfl rfl (xv_pick rfl rfl ?_)
          refine xr_op rfl rfl (xv_move rfl ?_)
          refine xr_no rfl rfl rfl rfl ?_
          refine xr_no rfl rfl rfl rfl ?_
          refine xr_no rfl rfl rfl rfl ?_
          refine xr_op rfl rfl (xv_pick rfl rfl ?_)
          refine xr_op rfl rfl (xv_move rfl ?_)
          refine xr_no rfl rfl rfl rfl ?_
          refine xr_no rfl rfl rfl rfl ?_
          refine xr_op rfl rfl (xv_pick rfl rfl ?_)
          refine xr_end rfl ?_
          refine th_n ?_
          refine xc_true rfl ?_
          refine xc_seq (xc_region ?_)
          refine xr_op rfl rfl (xv_assign rfl ?_)
          refine xr_op rfl rfl (xv_assign rfl ?_)
          refine xr_op rfl rfl (xv_assign rfl ?_)
          refine xr_end rfl ?_
          refine th_n ?_
          refine xc_ret ?_
          refine th_r ?_
          refine body_ret (h' := ([] ++ h)) rfl (ro_tmp rfl (ro_tmp rfl (ro_tmp rfl ro_nil))) (by (first|((repeat first|exact s_0|exact s_1|exact s_3|refine s_4 ?_|refine s_5 ?_|refine s_6 ?_|refine s_7 ?_);done)|((repeat first|exact s_0|exact s_1|exact s_3|refine s_4 ?_|refine s_5 ?_|refine s_6 ?_|refine s_8 ?_);done))) ?_
          first | (rw [mixA_3 (by omega)] at H; exact H none 0 [] (.inl rfl)) | (rw [mixA_1 (by omega) hsu] at H; exact H none 0 [] (.inl rfl)) | (rw [mixA_2 (by omega) hsu (fun hq9 => by unfold MixB at hq9; omega)] at H; exact H none 0 [] (.inl rfl)) | (rw [mixA_n (by omega) hsu hmb (by rw [mixF_fold, ← hmz, List.length_eq_zero_iff.1 (show zs.length = 0 by (first | omega | (dsimp only at *; omega) | (simp at *; omega)))]; rfl)] at H; exact H none 0 [] (.inl rfl)) | (rw [mixA_s (by omega) hsu hmb hfin] at H; exact H y.a y.c G3 (hz3 y hy))
        · refine xr_op rfl rfl (xv_pick rfl rfl ?_)
          refine xr_op rfl rfl (xv_move rfl ?_)
          refine xr_gd rfl rfl rfl (xv_move rfl ?_)
          refine xr_gd rfl rfl rfl (xv_move rfl ?_)
          refine xr_gd rfl rfl rfl (xv_gtr2 rfl rfl (fun q6 => ?_) (fun q6 => ?_))
          · refine xr_op rfl rfl (xv_pick rfl rfl ?_)
            refine xr_op rfl rfl (xv_move rfl ?_)
            refine xr_no rfl rfl rfl rfl ?_
            refine xr_no rfl rfl rfl rfl ?_
            refine xr_op rfl rfl (xv_pick rfl rfl ?_)
            refine xr_end rfl ?_
            refine th_n ?_
            refine xc_true rfl ?_
            refine xc_seq (xc_region ?_)
            refine xr_op rfl rfl (xv_assign rfl ?_)
            refine xr_op rfl rfl (xv_assign rfl ?_)
            refine xr_op rfl rfl (xv_assign rfl ?_)
            refine xr_end rfl ?_
            refine th_n ?_
            refine xc_ret ?_
            refine th_r ?_
            refine body_ret (h' := ([] ++ h)) rfl (ro_tmp rfl (ro_tmp rfl (ro_tmp rfl ro_nil))) (by (first|((repeat first|exact s_0|exact s_1|exact s_3|refine s_4 ?_|refine s_5 ?_|refine s_6 ?_|refine s_7 ?_);done)|((repeat first|exact s_0|exact s_1|exact s_3|refine s_4 ?_|refine s_5 ?_|refine s_6 ?_|refine s_8 ?_);done))) ?_
            first | (rw [mixA_3 (by omega)] at H; exact H none 0 [] (.inl rfl)) | (rw [mixA_1 (by omega) hsu] at H; exact H none 0 [] (.inl rfl)) | (rw [mixA_2 (by omega) hsu (fun hq9 => by unfold MixB at hq9; omega)] at H; exact H none 0 [] (.inl rfl)) | (rw [mixA_n (by omega) hsu hmb (by rw [mixF_fold, ← hmz, List.length_eq_zero_iff.1 (show zs.length = 0 by (first | omega | (dsimp only at *; omega) | (simp at *; omega)))]; rfl)] at H; exact H none 0 [] (.inl rfl)) | (rw [mixA_s (by omega) hsu hmb hfin] at H; exact H y.a y.c G3 (hz3 y hy))
          · refine xr_op rfl rfl (xv_pick rfl rfl ?_)
            refine xr_op rfl rfl (xv_move rfl ?_)
            refine xr_gd rfl rfl rfl (xv_move rfl ?_)
            refine xr_gd rfl rfl rfl (xv_gtr2 rfl rfl (fun q7 => ?_) (fun q7 => ?_))
            · refine xr_op rfl rfl (xv_pick rfl rfl ?_)
              refine xr_end rfl ?_
              refine th_n ?_
              refine xc_true rfl ?_
              refine xc_seq (xc_region ?_)
              refine xr_op rfl rfl (xv_assign rfl ?_)
              refine xr_op rfl rfl (xv_assign rfl ?_)
              refine xr_op rfl rfl (xv_assign rfl ?_)
              refine xr_end rfl ?_
              refine th_n ?_
              refine xc_ret ?_
              refine th_r ?_
              refine body_ret (h' := ([] ++ h)) rfl (ro_tmp rfl (ro_tmp rfl (ro_tmp rfl ro_nil))) (by (first|((repeat first|exact s_0|exact s_1|exact s_3|refine s_4 ?_|refine s_5 ?_|refine s_6 ?_|refine s_7 ?_);done)|((repeat first|exact s_0|exact s_1|exact s_3|refine s_4 ?_|refine s_5 ?_|refine s_6 ?_|refine s_8 ?_);done))) ?_
              first | (rw [mixA_3 (by omega)] at H; exact H none 0 [] (.inl rfl)) | (rw [mixA_1 (by omega) hsu] at H; exact H none 0 [] (.inl rfl)) | (rw [mixA_2 (by omega) hsu (fun hq9 => by unfold MixB at hq9; omega)] at H; exact H none 0 [] (.inl rfl)) | (rw [mixA_n (by omega) hsu hmb (by rw [mixF_fold, ← hmz, List.length_eq_zero_iff.1 (show zs.length = 0 by (first | omega | (dsimp only at *; omega) | (simp at *; omega)))]; rfl)] at H; exact H none 0 [] (.inl rfl)) | (rw [mixA_s (by omega) hsu hmb hfin] at H; exact H y.a y.c G3 (hz3 y hy))
            · refine xr_op rfl rfl (xv_pick rfl rfl ?_)
              refine xr_end rfl ?_
              refine th_n ?_
              refine xc_false rfl ?_
              refine xc_skip ?_
              refine th_n ?_
              refine xc_seq (xc_region ?_)
              have hl4 : l.length ≤ 4 := by omega
              have hmb : MixB q := ⟨⟨by omega, by omega⟩, ⟨by omega, by omega⟩, by omega, by omega⟩
              have hpw : ([] : List Hd).length + 21 ^ l.length ≤ 200000 := by
                have h9 := Nat.pow_le_pow_right (show 0 < 21 by decide) hl4
                have h8 : 21 ^ 4 = 194481 := by decide
                show 0 + 21 ^ l.length ≤ 200000
                omega
              refine xr_op rfl rfl (xv_move rfl ?_)
              refine xr_op rfl rfl (xv_move rfl ?_)
              refine xr_op rfl rfl (xv_move rfl ?_)
              refine xr_op rfl rfl (xv_move rfl ?_)
              refine xr_op rfl rfl (xv_calls rfl hb39 (mix_all l.length (G := h) (p := []) (ab := none) (cb := 0) (zs := []) (V := .nil) hsu hl4 hmb (hl.sub (by intro z hz; ((repeat first|exact z_0|assumption|refine z_1 ?_|(refine z_l ?_;(repeat first|exact z_0|assumption|refine z_1 ?_);done)|refine z_r ?_);done))) (by simp) (inM_nil _) (.inl rfl) ⟨rfl, rfl⟩ (fun z hz => by cases hz) hpw (fun V zs G3 hV hmz hz3 => up_ret ?_)))
              refine xr_op rfl rfl (xv_assign rfl ?_)
              refine xr_end rfl ?_
              refine th_n ?_
              refine xc_seq ?_
              refine xc_seq (xc_region ?_)
              rw [List.map_nil, List.nil_append] at hmz
              obtain ⟨va, vc, hvv, hvs⟩ := Vec.slv (enc := eHd) (t := 29) (V := V) (xs := zs) (h := V.hp 29 (zs.flatMap eHd)) eHd_len hV (fun _ hz => hz)
              rw [hvv]
              have hzl : zs.length ≤ 200000 := by
                have h9 := newR_len (q := q) (p := []) hsu
                rw [← hmz, List.length_map] at h9
                have h8 : ([] : List Hd).length = 0 := rfl
                have h7 : ([] : List Int).length = 0 := rfl
                rw [h7, Nat.sub_zero] at h9
                omega
              have hrt : ∀ z ∈ zs, z.m.length = l.length ∧ InM l z.m := fun z h9 => right_of (p := []) (q := q) (by rw [← hmz]; exact List.mem_map.2 ⟨z, h9, rfl⟩) (Nat.zero_le _) (inM_nil _)
              refine xr_op rfl rfl (xv_move rfl ?_)
              refine xr_op rfl rfl (xv_len sl75 rfl ?_)
              refine xr_op rfl rfl (xv_eql2 rfl rfl (fun q8 => ?_) (fun q8 => ?_))
              · refine xr_end rfl ?_
                refine th_n ?_
                refine xc_true rfl ?_
                refine xc_seq (xc_region ?_)
                refine xr_op rfl rfl (xv_assign rfl ?_)
                refine xr_op rfl rfl (xv_assign rfl ?_)
                refine xr_op rfl rfl (xv_assign rfl ?_)
                refine xr_end rfl ?_
                refine th_n ?_
                refine xc_ret ?_
                refine th_r ?_
                refine body_ret (h' := ([] ++ h)) rfl (ro_tmp rfl (ro_tmp rfl (ro_tmp rfl ro_nil))) (by (first|((repeat first|exact s_0|exact s_1|exact s_3|refine s_4 ?_|refine s_5 ?_|refine s_6 ?_|refine s_7 ?_);done)|((repeat first|exact s_0|exact s_1|exact s_3|refine s_4 ?_|refine s_5 ?_|refine s_6 ?_|refine s_8 ?_);done))) ?_
                first | (rw [mixA_3 (by omega)] at H; exact H none 0 [] (.inl rfl)) | (rw [mixA_1 (by omega) hsu] at H; exact H none 0 [] (.inl rfl)) | (rw [mixA_2 (by omega) hsu (fun hq9 => by unfold MixB at hq9; omega)] at H; exact H none 0 [] (.inl rfl)) | (rw [mixA_n (by omega) hsu hmb (by rw [mixF_fold, ← hmz, List.length_eq_zero_iff.1 (show zs.length = 0 by (first | omega | (dsimp only at *; omega) | (simp at *; omega)))]; rfl)] at H; exact H none 0 [] (.inl rfl)) | (rw [mixA_s (by omega) hsu hmb hfin] at H; exact H y.a y.c G3 (hz3 y hy))
              · refine xr_end rfl ?_
                refine th_n ?_
                refine xc_false rfl ?_
                refine xc_skip ?_
                refine th_n ?_
                refine xc_seq (xc_region ?_)
                refine xr_op rfl rfl (xv_move rfl ?_)
                have hlto : 0 < zs.length := by (first | omega | (dsimp only at *; omega) | (simp at *; omega))
                obtain ⟨bo, oo, lo, to, fzo, hao, hmo, hxo⟩ := (hvs).at hlto
                obtain ⟨xo, hko⟩ : ∃ qq_, zs[0]? = some qq_ := ⟨_, List.getElem?_eq_getElem hlto⟩
                refine xr_op rfl rfl (xv_ia (sz := 1) (j := 0) sl75 ty29 rfl (by rw [hao]; rfl) rfl rfl (by (first | omega | (dsimp only at *; omega) | (simp at *; omega))) (by (first | omega | (dsimp only at *; omega) | (simp at *; omega))) ?_)
                refine xr_op rfl rfl (xv_load1 ty29 rfl rfl (by ((repeat first|exact z_0|assumption|refine z_1 ?_|(refine z_l ?_;(repeat first|exact z_0|assumption|refine z_1 ?_);done)|refine z_r ?_);done)) (take_get (hxo (0) xo hko) (j := 0) rfl) ?_)
                refine xr_op rfl rfl (xv_assign rfl ?_)
                refine xr_end rfl ?_
                refine th_n ?_
                refine xc_seq ?_
                refine xc_seq (xc_region ?_)
                have hmk0 : (zs.map (·.m))[0]? = some xo.m := by rw [List.getElem?_map, hko]; rfl
                refine xr_op rfl rfl (xv_assign rfl ?_)
                refine xr_end rfl ?_
                refine th_n ?_
                refine xc_block ?_
                refine xc_loop (σ := Nat × Hd) (fun z => 1 ≤ z.1 ∧ z.1 ≤ zs.length ∧ z.2 ∈ zs ∧ foldR l ((zs.map (·.m)).take z.1) = some (z.2.m, costM l z.2.m)) (fun z => ((((emp.put (some 0) (.slice a l.length c)).put (some 11) (.slice va zs.length vc)).put (some 12) (.slice z.2.a z.2.m.length z.2.c)).put (some 13) (I z.1))) (fun z => (V.hp 29 (zs.flatMap eHd) ++ (G3 ++ h))) (fun z => zs.length - z.1) ((1, xo) : Nat × Hd) ⟨Nat.le_refl _, by (first | omega | (dsimp only at *; omega) | (simp at *; omega)), List.mem_of_getElem? hko, foldR_one hmk0⟩ (le_put (le_put (le_put (le_put (le_emp _) rfl) rfl) rfl) rfl) (by (first|((repeat first|exact s_0|exact s_1|exact s_3|refine s_4 ?_|refine s_5 ?_|refine s_6 ?_|refine s_7 ?_);done)|((repeat first|exact s_0|exact s_1|exact s_3|refine s_4 ?_|refine s_5 ?_|refine s_6 ?_|refine s_8 ?_);done))) ?_
                rintro ⟨i, y⟩ ⟨hi1, hi2, hy, hfo⟩
                dsimp only at hi1 hi2 hy hfo
                refine xc_seq ?_
                refine xc_seq (xc_region ?_)
                refine xr_op rfl rfl (xv_move rfl ?_)
                refine xr_op rfl rfl (xv_move rfl ?_)
                refine xr_op rfl rfl (xv_len sl75 rfl ?_)
                refine xr_op rfl rfl (xv_lss2 rfl rfl (fun q9 => ?_) (fun q9 => ?_))
                · refine xr_end rfl ?_
                  refine th_n ?_
                  refine xc_true rfl ?_
                  refine xc_skip ?_
                  refine th_n ?_
                  refine xc_seq ?_
                  refine xc_block ?_
                  refine xc_seq (xc_region ?_)
                  refine xr_op rfl rfl (xv_move rfl ?_)
                  refine xr_op rfl rfl (xv_move rfl ?_)
                  refine xr_op rfl rfl (xv_move rfl ?_)
                  have hlto : i < zs.length := by (first | omega | (dsimp only at *; omega) | (simp at *; omega))
                  obtain ⟨bo, oo, lo, to, fzo, hao, hmo, hxo⟩ := (hvs).at hlto
                  obtain ⟨xo, hko⟩ : ∃ qq_, zs[i]? = some qq_ := ⟨_, List.getElem?_eq_getElem hlto⟩
                  have hmk : (zs.map (·.m))[i]? = some xo.m := by rw [List.getElem?_map, hko]; rfl
                  refine xr_op rfl rfl (xv_ia (sz := 1) (j := i) sl75 ty29 rfl (by rw [hao]; rfl) rfl (by (first | assumption | with_reducible exact Int.toNat_natCast _ | with_reducible rfl | rfl)) (by (first | omega | (dsimp only at *; omega) | (simp at *; omega))) (by (first | omega | (dsimp only at *; omega) | (simp at *; omega))) ?_)
                  refine xr_op rfl rfl (xv_load1 ty29 rfl rfl (by ((repeat first|exact z_0|assumption|refine z_1 ?_|(refine z_l ?_;(repeat first|exact z_0|assumption|refine z_1 ?_);done)|refine z_r ?_);done)) (take_get (hxo (i) xo hko) (j := 0) rfl) ?_)
                  refine xr_op rfl rfl (xv_calls rfl hb23 (Cost_c (m := xo.m) (hl.sub (by intro z hz; ((repeat first|exact z_0|assumption|refine z_1 ?_|(refine z_l ?_;(repeat first|exact z_0|assumption|refine z_1 ?_);done)|refine z_r ?_);done))) ((hz3 xo (List.mem_of_getElem? hko)).sub (by intro z hz; ((repeat first|exact z_0|assumption|refine z_1 ?_|(refine z_l ?_;(repeat first|exact z_0|assumption|refine z_1 ?_);done)|refine z_r ?_);done))) hsu (by omega) (hrt xo (List.mem_of_getElem? hko)).1 (hrt xo (List.mem_of_getElem? hko)).2 (up_ret ?_)))
                  refine xr_op rfl rfl (xv_move rfl ?_)
                  refine xr_op rfl rfl (xv_move rfl ?_)
                  refine xr_op rfl rfl (xv_calls rfl hb23 (Cost_c (m := y.m) (hl.sub (by intro z hz; ((repeat first|exact z_0|assumption|refine z_1 ?_|(refine z_l ?_;(repeat first|exact z_0|assumption|refine z_1 ?_);done)|refine z_r ?_);done))) ((hz3 y hy).sub (by intro z hz; ((repeat first|exact z_0|assumption|refine z_1 ?_|(refine z_l ?_;(repeat first|exact z_0|assumption|refine z_1 ?_);done)|refine z_r ?_);done))) hsu (by omega) (hrt y hy).1 (hrt y hy).2 (up_ret ?_)))
                  refine xr_op rfl rfl (xv_lss2 rfl rfl (fun q10 => ?_) (fun q10 => ?_))
                  · refine xr_end rfl ?_
                    refine th_n ?_
                    refine xc_true rfl ?_
                    refine xc_region ?_
                    refine xr_op rfl rfl (xv_move rfl ?_)
                    refine xr_op rfl rfl (xv_move rfl ?_)
                    refine xr_op rfl rfl (xv_ia (sz := 1) (j := i) sl75 ty29 rfl (by rw [hao]; rfl) rfl (by (first | assumption | with_reducible exact Int.toNat_natCast _ | with_reducible rfl | rfl)) (by (first | omega | (dsimp only at *; omega) | (simp at *; omega))) (by (first | omega | (dsimp only at *; omega) | (simp at *; omega))) ?_)
                    refine xr_op rfl rfl (xv_load1 ty29 rfl rfl (by ((repeat first|exact z_0|assumption|refine z_1 ?_|(refine z_l ?_;(repeat first|exact z_0|assumption|refine z_1 ?_);done)|refine z_r ?_);done)) (take_get (hxo (i) xo hko) (j := 0) rfl) ?_)
                    refine xr_op rfl rfl (xv_assign rfl ?_)
                    refine xr_end rfl ?_
                    refine bk_n ?_
                    refine th_n ?_
                    refine xc_region ?_
                    refine xr_op rfl rfl (xv_move rfl ?_)
                    refine xr_op rfl rfl (xv_add rfl rfl (wrap_i64 (by (first | omega | (dsimp only at *; omega) | (simp at *; omega))) (by (first | omega | (dsimp only at *; omega) | (simp at *; omega)))) ?_)
                    refine xr_op rfl rfl (xv_assign rfl ?_)
                    refine xr_end rfl ?_
                    have hft : foldR l ((zs.map (·.m)).take (i + 1)) = some (xo.m, costM l xo.m) := by rw [foldR_take hmk, hfo]; exact if_pos (show costM l xo.m < costM l y.m by (first | omega | (dsimp only at *; omega) | (simp at *; omega)))
                    exact rnd ((i + 1, xo) : Nat × Hd) ⟨by (first | omega | (dsimp only at *; omega) | (simp at *; omega)), by (first | omega | (dsimp only at *; omega) | (simp at *; omega)), List.mem_of_getElem? hko, hft⟩ (by (first | omega | (dsimp only at *; omega) | (simp at *; omega))) (le_put (le_put (le_put (le_put (le_emp _) rfl) rfl) rfl) rfl) (by (first|((repeat first|exact s_0|exact s_1|exact s_3|refine s_4 ?_|refine s_5 ?_|refine s_6 ?_|refine s_7 ?_);done)|((repeat first|exact s_0|exact s_1|exact s_3|refine s_4 ?_|refine s_5 ?_|refine s_6 ?_|refine s_8 ?_);done)))
                  · refine xr_end rfl ?_
                    refine th_n ?_
                    refine xc_false rfl ?_
                    refine xc_skip ?_
                    refine bk_n ?_
                    refine th_n ?_
                    refine xc_region ?_
                    refine xr_op rfl rfl (xv_move rfl ?_)
                    refine xr_op rfl rfl (xv_add rfl rfl (wrap_i64 (by (first | omega | (dsimp only at *; omega) | (simp at *; omega))) (by (first | omega | (dsimp only at *; omega) | (simp at *; omega)))) ?_)
                    refine xr_op rfl rfl (xv_assign rfl ?_)
                    refine xr_end rfl ?_
                    have hft : foldR l ((zs.map (·.m)).take (i + 1)) = some (y.m, costM l y.m) := by rw [foldR_take hmk, hfo]; exact if_neg (show ¬ costM l xo.m < costM l y.m by (first | omega | (dsimp only at *; omega) | (simp at *; omega)))
                    exact rnd ((i + 1, y) : Nat × Hd) ⟨by (first | omega | (dsimp only at *; omega) | (simp at *; omega)), by (first | omega | (dsimp only at *; omega) | (simp at *; omega)), hy, hft⟩ (by (first | omega | (dsimp only at *; omega) | (simp at *; omega))) (le_put (le_put (le_put (le_put (le_emp _) rfl) rfl) rfl) rfl) (by (first|((repeat first|exact s_0|exact s_1|exact s_3|refine s_4 ?_|refine s_5 ?_|refine s_6 ?_|refine s_7 ?_);done)|((repeat first|exact s_0|exact s_1|exact s_3|refine s_4 ?_|refine s_5 ?_|refine s_6 ?_|refine s_8 ?_);done)))
                · refine xr_end rfl ?_
                  refine th_n ?_
                  refine xc_false rfl ?_
                  refine xc_exit ?_
                  refine th_x ?_
                  refine th_x ?_
                  refine bk_same ?_
                  refine th_n ?_
                  refine xc_seq (xc_region ?_)
                  have hfin : mixF l q = some (y.m, costM l y.m) := by
                    have e9 : i = (zs.map (·.m)).length := by rw [List.length_map]; (first | omega | (dsimp only at *; omega) | (simp at *; omega))
                    rw [e9, List.take_length] at hfo
                    rw [mixF_fold, ← hmz]; exact hfo
                  refine xr_op rfl rfl (xv_move rfl ?_)
                  refine xr_op rfl rfl (xv_move rfl ?_)
                  refine xr_op rfl rfl (xv_move rfl ?_)
                  refine xr_op rfl rfl (xv_calls rfl hb23 (Cost_c (m := y.m) (hl.sub (by intro z hz; ((repeat first|exact z_0|assumption|refine z_1 ?_|(refine z_l ?_;(repeat first|exact z_0|assumption|refine z_1 ?_);done)|refine z_r ?_);done))) ((hz3 y hy).sub (by intro z hz; ((repeat first|exact z_0|assumption|refine z_1 ?_|(refine z_l ?_;(repeat first|exact z_0|assumption|refine z_1 ?_);done)|refine z_r ?_);done))) hsu (by omega) (hrt y hy).1 (hrt y hy).2 (up_ret ?_)))
                  refine xr_op rfl rfl (xv_assign rfl ?_)
                  refine xr_op rfl rfl (xv_assign rfl ?_)
                  refine xr_op rfl rfl (xv_assign rfl ?_)
                  refine xr_end rfl ?_
                  refine th_n ?_
                  refine xc_ret ?_
                  refine body_ret (h' := (G3 ++ h)) rfl (ro_tmp rfl (ro_tmp rfl (ro_tmp rfl ro_nil))) (by (first|((repeat first|exact s_0|exact s_1|exact s_3|refine s_4 ?_|refine s_5 ?_|refine s_6 ?_|refine s_7 ?_);done)|((repeat first|exact s_0|exact s_1|exact s_3|refine s_4 ?_|refine s_5 ?_|refine s_6 ?_|refine s_8 ?_);done))) ?_
                  first | (rw [mixA_3 (by omega)] at H; exact H none 0 [] (.inl rfl)) | (rw [mixA_1 (by omega) hsu] at H; exact H none 0 [] (.inl rfl)) | (rw [mixA_2 (by omega) hsu (fun hq9 => by unfold MixB at hq9; omega)] at H; exact H none 0 [] (.inl rfl)) | (rw [mixA_n (by omega) hsu hmb (by rw [mixF_fold, ← hmz, List.length_eq_zero_iff.1 (show zs.length = 0 by (first | omega | (dsimp only at *; omega) | (simp at *; omega)))]; rfl)] at H; exact H none 0 [] (.inl rfl)) | (rw [mixA_s (by omega) hsu hmb hfin] at H; exact H y.a y.c G3 (hz3 y hy))
      · refine xr_op rfl rfl (xv_not rfl ?_)
        refine xr_op rfl rfl (xv_move rfl ?_)
        refine xr_no rfl rfl rfl rfl ?_
        refine xr_no rfl rfl rfl rfl ?_
        refine xr_op rfl rfl (xv_pick rfl rfl ?_)
        refine xr_op rfl rfl (xv_move rfl ?_)
        refine xr_no rfl rfl rfl rfl ?_
        refine xr_no rfl rfl rfl rfl ?_
        refine xr_no rfl rfl rfl rfl ?_
        refine xr_op rfl rfl (xv_pick rfl rfl ?_)
        refine xr_op rfl rfl (xv_move rfl ?_)
        refine xr_no rfl rfl rfl rfl ?_
        refine xr_no rfl rfl rfl rfl ?_
        refine xr_op rfl rfl (xv_pick rfl rfl ?_)
        refine xr_end rfl ?_
        refine th_n ?_
        refine xc_true rfl ?_
        refine xc_seq (xc_region ?_)
        refine xr_op rfl rfl (xv_assign rfl ?_)
        refine xr_op rfl rfl (xv_assign rfl ?_)
        refine xr_op rfl rfl (xv_assign rfl ?_)
        refine xr_end rfl ?_
        refine th_n ?_
        refine xc_ret ?_
        refine th_r ?_
        refine body_ret (h' := ([] ++ h)) rfl (ro_tmp rfl (ro_tmp rfl (ro_tmp rfl ro_nil))) (by (first|((repeat first|exact s_0|exact s_1|exact s_3|refine s_4 ?_|refine s_5 ?_|refine s_6 ?_|refine s_7 ?_);done)|((repeat first|exact s_0|exact s_1|exact s_3|refine s_4 ?_|refine s_5 ?_|refine s_6 ?_|refine s_8 ?_);done))) ?_
        first | (rw [mixA_3 (by omega)] at H; exact H none 0 [] (.inl rfl)) | (rw [mixA_1 (by omega) hsu] at H; exact H none 0 [] (.inl rfl)) | (rw [mixA_2 (by omega) hsu (fun hq9 => by unfold MixB at hq9; omega)] at H; exact H none 0 [] (.inl rfl)) | (rw [mixA_n (by omega) hsu hmb (by rw [mixF_fold, ← hmz, List.length_eq_zero_iff.1 (show zs.length = 0 by (first | omega | (dsimp only at *; omega) | (simp at *; omega)))]; rfl)] at H; exact H none 0 [] (.inl rfl)) | (rw [mixA_s (by omega) hsu hmb hfin] at H; exact H y.a y.c G3 (hz3 y hy))
    · refine xr_op rfl rfl (xv_not rfl ?_)
      refine xr_end rfl ?_
      refine th_n ?_
      refine xc_true rfl ?_
      refine xc_seq (xc_region ?_)
      refine xr_op rfl rfl (xv_assign rfl ?_)
      refine xr_op rfl rfl (xv_assign rfl ?_)
      refine xr_op rfl rfl (xv_assign rfl ?_)
      refine xr_end rfl ?_
      refine th_n ?_
      refine xc_ret ?_
      refine th_r ?_
      refine body_ret (h' := ([] ++ h)) rfl (ro_tmp rfl (ro_tmp rfl (ro_tmp rfl ro_nil))) (by (first|((repeat first|exact s_0|exact s_1|exact s_3|refine s_4 ?_|refine s_5 ?_|refine s_6 ?_|refine s_7 ?_);done)|((repeat first|exact s_0|exact s_1|exact s_3|refine s_4 ?_|refine s_5 ?_|refine s_6 ?_|refine s_8 ?_);done))) ?_
      first | (rw [mixA_3 (by omega)] at H; exact H none 0 [] (.inl rfl)) | (rw [mixA_1 (by omega) hsu] at H; exact H none 0 [] (.inl rfl)) | (rw [mixA_2 (by omega) hsu (fun hq9 => by unfold MixB at hq9; omega)] at H; exact H none 0 [] (.inl rfl)) | (rw [mixA_n (by omega) hsu hmb (by rw [mixF_fold, ← hmz, List.length_eq_zero_iff.1 (show zs.length = 0 by (first | omega | (dsimp only at *; omega) | (simp at *; omega)))]; rfl)] at H; exact H none 0 [] (.inl rfl)) | (rw [mixA_s (by omega) hsu hmb hfin] at H; exact H y.a y.c G3 (hz3 y hy))

theorem MixS_c {l : List Supply} {a : Option Addr} {c : Nat} {q : Ask} {h : Hp} {R : Ending → Hp → Prop} (hl : SlV h 5 eSup a l) (hlen : l.length ≤ 1000)
    (H : ∀ a9 c9 q9, SlV q9 1 eI a9 (mixA l q).1 → R (.returned (.tuple ⟨[.slice a9 (mixA l q).1.length c9, I (mixA l q).2.1, I (mixA l q).2.2]⟩)) (q9 ++ h)) :
    ACalls Try.prog 11 ⟨[.slice a l.length c, I q.vol, I q.least, I q.most]⟩ h R :=
  Mix_c hl hlen fun V hV => by
    obtain ⟨a, c, hv, hs⟩ := Vec.slv (enc := eI) (t := 3) (h := V.hp 3 ((mixA l q).1.flatMap eI)) eI_len hV (fun _ hz => hz)
    rw [hv]
    exact H a c _ hs
theorem MixE_c {l : List Supply} {a : Option Addr} {c : Nat} {q : Ask} {m : List Int} {x e : Int} {h : Hp} {R : Ending → Hp → Prop} (hl : SlV h 5 eSup a l) (hlen : l.length ≤ 1000) (he : mixA l q = (m, x, e))
    (H : ∀ a9 c9 q9, SlV q9 1 eI a9 m → R (.returned (.tuple ⟨[.slice a9 m.length c9, I x, I e]⟩)) (q9 ++ h)) :
    ACalls Try.prog 11 ⟨[.slice a l.length c, I q.vol, I q.least, I q.most]⟩ h R := MixS_c hl hlen fun a9 c9 q9 h9 => by rw [he] at h9 ⊢; exact H a9 c9 q9 h9

theorem Ints_c {a a2 : Option Addr} {c c2 : Nat} {xs ys : List Int} {h : Hp} {R : Ending → Hp → Prop} (hs : SlV h 1 eI a xs) (hs2 : SlV h 1 eI a2 ys) (hl : xs.length ≤ 1000000) (hl2 : ys.length ≤ 4611686018427387904)
    (H : R (.returned (.bool (decide (xs = ys)))) h) :
    ACalls Try.prog 13 ⟨[.slice a xs.length c, .slice a2 ys.length c2]⟩ h R := by
  refine calls_of_xc (N := 26) Try.func13 rfl (by rfl) ?_
  refine xc_seq (xc_region ?_)
  refine xr_op rfl rfl (xv_assign rfl ?_)
  refine xr_end rfl ?_
  refine th_n ?_
  refine xc_seq ?_
  refine xc_seq (xc_region ?_)
  refine xr_op rfl rfl (xv_move rfl ?_)
  refine xr_op rfl rfl (xv_len sl29 rfl ?_)
  refine xr_op rfl rfl (xv_move rfl ?_)
  refine xr_op rfl rfl (xv_len sl29 rfl ?_)
  refine xr_op rfl rfl (xv_neq2 rfl rfl (fun q1 => ?_) (fun q1 => ?_))
  · refine xr_end rfl ?_
    refine th_n ?_
    refine xc_true rfl ?_
    refine xc_seq (xc_region ?_)
    refine xr_op rfl rfl (xv_assign rfl ?_)
    refine xr_end rfl ?_
    refine th_n ?_
    refine xc_ret ?_
    refine th_r ?_
    refine body_ret (h' := h) rfl (ro_tmp rfl ro_nil) (by (first|((repeat first|exact s_0|exact s_1|exact s_3|refine s_4 ?_|refine s_5 ?_|refine s_6 ?_|refine s_7 ?_);done)|((repeat first|exact s_0|exact s_1|exact s_3|refine s_4 ?_|refine s_5 ?_|refine s_6 ?_|refine s_8 ?_);done))) ?_
    first | (rw [decide_eq_true hxy] at H; exact H) | (rw [decide_eq_false hne] at H; exact H) | (rw [decide_eq_false (fun hq => by subst hq; omega)] at H; exact H)
  · refine xr_end rfl ?_
    refine th_n ?_
    refine xc_false rfl ?_
    refine xc_skip ?_
    refine th_n ?_
    refine xc_seq ?_
    refine xc_seq (xc_region ?_)
    refine xr_op rfl rfl (xv_assign rfl ?_)
    refine xr_end rfl ?_
    refine th_n ?_
    refine xc_block ?_
    have hle : xs.length = ys.length := by (first | omega | (dsimp only at *; omega) | (simp at *; omega))
    refine xc_loop (σ := Nat) (fun k => k ≤ xs.length ∧ xs.take k = ys.take k) (fun k => (((emp.put (some 0) (.slice a xs.length c)).put (some 1) (.slice a2 ys.length c2)).put (some 5) (I k))) (fun k => h) (fun k => xs.length - k) 0 ⟨Nat.zero_le _, rfl⟩ (le_put (le_put (le_put (le_emp _) rfl) rfl) rfl) (by (first|((repeat first|exact s_0|exact s_1|exact s_3|refine s_4 ?_|refine s_5 ?_|refine s_6 ?_|refine s_7 ?_);done)|((repeat first|exact s_0|exact s_1|exact s_3|refine s_4 ?_|refine s_5 ?_|refine s_6 ?_|refine s_8 ?_);done))) ?_
    rintro k ⟨hk, hall⟩
    refine xc_seq ?_
    refine xc_seq (xc_region ?_)
    refine xr_op rfl rfl (xv_move rfl ?_)
    refine xr_op rfl rfl (xv_move rfl ?_)
    refine xr_op rfl rfl (xv_len sl29 rfl ?_)
    refine xr_op rfl rfl (xv_lss2 rfl rfl (fun q2 => ?_) (fun q2 => ?_))
    · refine xr_end rfl ?_
      refine th_n ?_
      refine xc_true rfl ?_
      refine xc_skip ?_
      refine th_n ?_
      refine xc_seq ?_
      refine xc_block ?_
      refine xc_seq ?_
      refine xc_draw0 [(0, .S), (1, .S), (2, .S), (3, .R), (4, .S), (5, .S), (6, .S), (7, .R), (8, .S)] mixed (by kernel_rfl) ?_
      have hlto : k < xs.length := by (first | omega | (dsimp only at *; omega) | (simp at *; omega))
      obtain ⟨bo, oo, lo, to, fzo, hao, hmo, hxo⟩ := (hs).at hlto
      obtain ⟨xo, hko⟩ : ∃ qq_, xs[k]? = some qq_ := ⟨_, List.getElem?_eq_getElem hlto⟩
      have hltp : k < ys.length := by (first | omega | (dsimp only at *; omega) | (simp at *; omega))
      obtain ⟨bp, op, lp, tp, fzp, hap, hmp, hxp⟩ := (hs2).at hltp
      obtain ⟨xp, hkp⟩ : ∃ qq_, ys[k]? = some qq_ := ⟨_, List.getElem?_eq_getElem hltp⟩
      refine js_S rfl rfl (.inl rfl) (xv_move rfl ⟨rfl, rfl⟩) ?_
      refine js_S rfl rfl (.inl rfl) (xv_move rfl ⟨rfl, rfl⟩) ?_
      refine js_S rfl rfl (.inl rfl) (xv_ia (sz := 1) (j := k) sl29 ty3 rfl (by rw [hao]; rfl) rfl (by (first | assumption | with_reducible exact Int.toNat_natCast _ | with_reducible rfl | rfl)) (by (first | omega | (dsimp only at *; omega) | (simp at *; omega))) (by (first | omega | (dsimp only at *; omega) | (simp at *; omega))) ⟨rfl, rfl⟩) ?_
      refine js_R0 rfl rfl (.inl rfl) (xv_load1 ty3 rfl rfl (by ((repeat first|exact z_0|assumption|refine z_1 ?_|(refine z_l ?_;(repeat first|exact z_0|assumption|refine z_1 ?_);done)|refine z_r ?_);done)) (take_get (hxo (k) xo hko) (j := 0) rfl) ⟨rfl, rfl⟩) ?_
      refine js_S rfl rfl (.inl rfl) (xv_move rfl ⟨rfl, rfl⟩) ?_
      refine js_S rfl rfl (.inl rfl) (xv_move rfl ⟨rfl, rfl⟩) ?_
      refine js_S rfl rfl (.inl rfl) (xv_ia (sz := 1) (j := k) sl29 ty3 rfl (by rw [hap]; rfl) rfl (by (first | assumption | with_reducible exact Int.toNat_natCast _ | with_reducible rfl | rfl)) (by (first | omega | (dsimp only at *; omega) | (simp at *; omega))) (by (first | omega | (dsimp only at *; omega) | (simp at *; omega))) ⟨rfl, rfl⟩) ?_
      refine js_R0 rfl rfl (.inl rfl) (xv_load1 ty3 rfl rfl (by ((repeat first|exact z_0|assumption|refine z_1 ?_|(refine z_l ?_;(repeat first|exact z_0|assumption|refine z_1 ?_);done)|refine z_r ?_);done)) (take_get (hxp (k) xp hkp) (j := 0) rfl) ⟨rfl, rfl⟩) ?_
      refine js_S rfl rfl (.inl rfl) (xv_cmp rfl rfl rfl ⟨rfl, rfl⟩) ?_
      refine j_end0 ?_
      refine th_n ?_
      refine xc_bool rfl (fun q3 => ?_) (fun q3 => ?_)
      · refine xc_seq (xc_region ?_)
        have hne : ¬ xs = ys := fun hq => by subst hq; have hq2 := Option.some.inj (hko.symm.trans hkp); (first | omega | (dsimp only at *; omega) | (simp at *; omega))
        refine xr_op rfl rfl (xv_assign rfl ?_)
        refine xr_end rfl ?_
        refine th_n ?_
        refine xc_ret ?_
        refine bk_r ?_
        refine th_r ?_
        refine th_r ?_
        refine bk_r ?_
        refine th_r ?_
        refine body_ret (h' := h) rfl (ro_tmp rfl ro_nil) (by (first|((repeat first|exact s_0|exact s_1|exact s_3|refine s_4 ?_|refine s_5 ?_|refine s_6 ?_|refine s_7 ?_);done)|((repeat first|exact s_0|exact s_1|exact s_3|refine s_4 ?_|refine s_5 ?_|refine s_6 ?_|refine s_8 ?_);done))) ?_
        first | (rw [decide_eq_true hxy] at H; exact H) | (rw [decide_eq_false hne] at H; exact H) | (rw [decide_eq_false (fun hq => by subst hq; omega)] at H; exact H)
      · refine xc_skip ?_
        refine bk_n ?_
        refine th_n ?_
        refine xc_region ?_
        have heq : xo = xp := by (first | omega | (dsimp only at *; omega) | (simp at *; omega))
        refine xr_op rfl rfl (xv_move rfl ?_)
        refine xr_op rfl rfl (xv_add rfl rfl (wrap_i64 (by (first | omega | (dsimp only at *; omega) | (simp at *; omega))) (by (first | omega | (dsimp only at *; omega) | (simp at *; omega)))) ?_)
        refine xr_op rfl rfl (xv_assign rfl ?_)
        refine xr_end rfl ?_
        exact rnd (k + 1) ⟨by (first | omega | (dsimp only at *; omega) | (simp at *; omega)), by rw [List.take_add_one, List.take_add_one, hko, hkp, hall, heq]⟩ (by (first | omega | (dsimp only at *; omega) | (simp at *; omega))) (le_put (le_put (le_put (le_emp _) rfl) rfl) rfl) (by (first|((repeat first|exact s_0|exact s_1|exact s_3|refine s_4 ?_|refine s_5 ?_|refine s_6 ?_|refine s_7 ?_);done)|((repeat first|exact s_0|exact s_1|exact s_3|refine s_4 ?_|refine s_5 ?_|refine s_6 ?_|refine s_8 ?_);done)))
    · refine xr_end rfl ?_
      refine th_n ?_
      refine xc_false rfl ?_
      refine xc_exit ?_
      refine th_x ?_
      refine th_x ?_
      refine bk_same ?_
      refine th_n ?_
      refine xc_seq (xc_region ?_)
      obtain rfl : k = xs.length := by (first | omega | (dsimp only at *; omega) | (simp at *; omega))
      have hxy : xs = ys := by rw [List.take_length] at hall; rw [hall, hle, List.take_length]
      refine xr_op rfl rfl (xv_assign rfl ?_)
      refine xr_end rfl ?_
      refine th_n ?_
      refine xc_ret ?_
      refine body_ret (h' := h) rfl (ro_tmp rfl ro_nil) (by (first|((repeat first|exact s_0|exact s_1|exact s_3|refine s_4 ?_|refine s_5 ?_|refine s_6 ?_|refine s_7 ?_);done)|((repeat first|exact s_0|exact s_1|exact s_3|refine s_4 ?_|refine s_5 ?_|refine s_6 ?_|refine s_8 ?_);done))) ?_
      first | (rw [decide_eq_true hxy] at H; exact H) | (rw [decide_eq_false hne] at H; exact H) | (rw [decide_eq_false (fun hq => by subst hq; omega)] at H; exact H)

end Go.Proofs.Ytjbfdfmngampdaa
