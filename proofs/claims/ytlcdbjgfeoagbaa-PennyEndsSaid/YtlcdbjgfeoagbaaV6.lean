/-
  Walks.
-/
import Derived.Test.YtlcdbjgfeoagbaaP14
import Derived.Test.YtlcdbjgfeoagbaaP1
namespace Go.Proofs.Ytlcdbjgfeoagbaa
open Go Go.H
set_option maxRecDepth 100000
set_option maxHeartbeats 8000000
set_option linter.all false
theorem newMeter_c {s : Slot} {h : Hp} {R : Ending → Hp → Prop} (hs : SlotV h s) (hsm : Small s) (H1 : errS s ≠ 0 → R (.returned (.tuple ⟨[.pointer none, I (errS s)]⟩)) h)
    (H2 : errS s = 0 → ∀ (b : Nat) (ma : Option Addr) (mc : Nat) (G : Hp), MetV G s b ma mc → R (.returned (.tuple ⟨[.pointer (some ⟨b, 0, none⟩), I 0]⟩)) (G ++ h)) :
    ACalls Try.prog 30 ⟨[.agg ⟨eSlot s⟩]⟩ h R := by
  refine calls_of_xc (N := 67) Try.func30 rfl (by rfl) ?_
  obtain ⟨hsl9, hsk⟩ := id hsm
  refine xc_seq (xc_region ?_)
  refine xr_op rfl rfl (xv_box rfl (fun b1 hb1 => ?_))
  refine xr_op rfl rfl (xv_assign rfl ?_)
  refine xr_op rfl rfl (xv_assign rfl ?_)
  refine xr_end rfl ?_
  refine th_n ?_
  refine xc_seq ?_
  refine xc_seq (xc_region ?_)
  refine xr_op rfl rfl (xv_loadA ty25 rfl rfl (by ((repeat first|exact z_0|assumption|refine z_1 ?_|(refine z_l ?_;(repeat first|exact z_0|assumption|refine z_1 ?_);done)|refine z_r ?_);done)) (by ((try apply evl_some rfl);(repeat (first|exact (rfl : _ = [])|apply evl_cons rfl (by (first|exact v_1|exact v_2|exact v_3|exact v_4|exact v_5|exact v_6|exact v_7|exact v_8|exact v_9|exact rfl))|exact rfl)))) (by rfl) ?_)
  refine xr_op rfl rfl (xv_calls rfl hb46 (isSlot_c (hs.sub (by intro z hz; ((repeat first|exact z_0|assumption|refine z_1 ?_|(refine z_l ?_;(repeat first|exact z_0|assumption|refine z_1 ?_);done)|refine z_r ?_);done))) hsm (fun hgs => up_ret ?_) (fun hgs => up_ret ?_)))
  · refine xr_op rfl rfl (xv_not rfl ?_)
    refine xr_end rfl ?_
    refine th_n ?_
    refine xc_false rfl ?_
    refine xc_skip ?_
    refine th_n ?_
    refine xc_seq (xc_region ?_)
    refine xr_op rfl rfl (xv_makeMap (fun b13 hb13 => ?_))
    refine xr_op rfl rfl (xv_assign rfl ?_)
    refine xr_end rfl ?_
    refine th_n ?_
    refine xc_seq (xc_region ?_)
    refine xr_op rfl rfl (xv_loadA ty25 rfl rfl (by ((repeat first|exact z_0|assumption|refine z_1 ?_|(refine z_l ?_;(repeat first|exact z_0|assumption|refine z_1 ?_);done)|refine z_r ?_);done)) (by ((try apply evl_some rfl);(repeat (first|exact (rfl : _ = [])|apply evl_cons rfl (by (first|exact v_1|exact v_2|exact v_3|exact v_4|exact v_5|exact v_6|exact v_7|exact v_8|exact v_9|exact rfl))|exact rfl)))) (by rfl) ?_)
    refine xr_op rfl rfl (xv_build bt70 rfl (by ((try apply evl_some rfl);(repeat (first|exact (rfl : _ = [])|apply evl_cons rfl (by (first|exact v_1|exact v_2|exact v_3|exact v_4|exact v_5|exact v_6|exact v_7|exact v_8|exact v_9|exact rfl))|exact rfl)))) ?_)
    refine xr_op rfl rfl (xv_box rfl (fun b16 hb16 => ?_))
    refine xr_op rfl rfl (xv_assign rfl ?_)
    refine xr_end rfl ?_
    refine th_n ?_
    refine xc_seq ?_
    refine xc_seq (xc_region ?_)
    refine xr_op rfl rfl (xv_faddr fl25_5 rfl ?_)
    refine xr_op rfl rfl (xv_load1 ty23 rfl rfl (by ((repeat first|exact z_0|assumption|refine z_1 ?_|(refine z_l ?_;(repeat first|exact z_0|assumption|refine z_1 ?_);done)|refine z_r ?_);done)) (by rfl) ?_)
    refine xr_op rfl rfl (xv_len sl23 rfl ?_)
    refine xr_op rfl rfl (xv_move rfl ?_)
    refine xr_end rfl ?_
    refine th_n ?_
    refine xc_block ?_
    have hm12 := hgs.2.1.2
    refine xc_loop (σ := Nat × List Mark × Vec × List MapEntry × Nat) (fun z => z.1 ≤ s.marks.length ∧ Got (s.marks.take z.1) z.2.1 ∧ z.2.1.length ≤ z.1 ∧ z.2.2.1.ok 2 z.2.1.length (z.2.1.flatMap eMark) ∧ (AllInt z.2.2.2.1 ∧ ∀ j, mget z.2.2.2.1 j = (usedAt z.2.1 j).map I)) (fun z => ((((((((emp.put (some 1) (.pointer (some ⟨b1, 0, none⟩))).put (some 2) (.pointer none)).put (some 3) (I 0)).put (some 4) (.map (some b13))).put (some 5) (.pointer (some ⟨b16, 0, none⟩))).put (some 18) (.slice s.ma s.marks.length s.mc)).put (some 19) (I s.marks.length)).put (some 20) (I z.1))) (fun z => (z.2.2.1.hp 42 (z.2.1.flatMap eMark) ++ (b16, .cells ⟨eMet s (z.2.2.1.val z.2.1.length)⟩ 70) :: (b13, .map ⟨z.2.2.2.1⟩ z.2.2.2.2) :: (b1, .cells ⟨eSlot s⟩ 25) :: h)) (fun z => s.marks.length - z.1) ((0, [], .nil, [], 0) : Nat × List Mark × Vec × List MapEntry × Nat) ⟨Nat.zero_le _, Got.nil, Nat.le_refl _, ⟨rfl, rfl⟩, (fun _ he => by cases he), fun _ => rfl⟩ (le_put (le_put (le_put (le_put (le_put (le_put (le_put (le_put (le_emp _) rfl) rfl) rfl) rfl) rfl) rfl) rfl) rfl) (by (first|((repeat first|exact s_0|exact s_1|exact s_3|refine s_4 ?_|refine s_5 ?_|refine s_6 ?_|refine s_7 ?_);done)|((repeat first|exact s_0|exact s_1|exact s_3|refine s_4 ?_|refine s_5 ?_|refine s_6 ?_|refine s_8 ?_);done))) ?_
    rintro ⟨k, out, V, es, c⟩ ⟨hk, hG, hol, hV, hM⟩
    dsimp only at hk hG hol hV hM
    refine xc_seq (xc_region ?_)
    refine xr_op rfl rfl (xv_lss2 rfl rfl (fun q1 => ?_) (fun q1 => ?_))
    · refine xr_end rfl ?_
      refine th_n ?_
      refine xc_seq ?_
      refine xc_true rfl ?_
      refine xc_skip ?_
      refine th_n ?_
      refine xc_seq ?_
      refine xc_block ?_
      refine xc_seq (xc_region ?_)
      have hlto : k < s.marks.length := by (first|omega|(dsimp only at *;omega)|(simp at *;omega))
      obtain ⟨bo, oo, lo, to, fzo, hao, hmo, hxo⟩ := (hs.marks).at hlto
      obtain ⟨xo, hko⟩ : ∃ qq_, s.marks[k]? = some qq_ := ⟨_, List.getElem?_eq_getElem hlto⟩
      refine xr_op rfl rfl (xv_ia (sz := 2) (j := k) sl23 ty42 rfl (by rw [hao]; rfl) rfl (by (first | assumption | with_reducible exact Int.toNat_natCast _ | with_reducible rfl | rfl)) (by (first|omega|(dsimp only at *;omega)|(simp at *;omega))) (by (first|omega|(dsimp only at *;omega)|(simp at *;omega))) ?_)
      refine xr_op rfl rfl (xv_loadA ty42 rfl rfl (by ((repeat first|exact z_0|assumption|refine z_1 ?_|(refine z_l ?_;(repeat first|exact z_0|assumption|refine z_1 ?_);done)|refine z_r ?_);done)) (hxo (k) xo hko) rfl ?_)
      refine xr_op rfl rfl (xv_alloc ty42 (fun b7 hb7 => ?_))
      refine xr_op rfl rfl (xv_s ty42 rfl rfl (by (first|(apply u_3;(repeat first|exact u_0|assumption|apply u_1|apply u_2);done)|((repeat first|exact u_0|assumption|apply u_1|apply u_2);done)|(apply u_3;apply u_3;(repeat first|exact u_0|assumption|apply u_1|apply u_2);done)|((repeat first|exact u_0|assumption|apply u_3|apply u_1);done))) (by ((try apply evl_some rfl);(repeat (first|exact (rfl : _ = [])|apply evl_cons rfl (by (first|exact v_1|exact v_2|exact v_3|exact v_4|exact v_5|exact v_6|exact v_7|exact v_8|exact v_9|exact rfl))|exact rfl)))) (by rfl) (by rfl) (by rfl) (by ((try apply evl_some rfl);(repeat (first|exact (rfl : _ = [])|apply evl_cons rfl (by (first|exact v_1|exact v_2|exact v_3|exact v_4|exact v_5|exact v_6|exact v_7|exact v_8|exact v_9|exact rfl))|exact rfl)))) ?_)
      refine xr_end rfl ?_
      refine th_n ?_
      refine xc_seq (xc_region ?_)
      rcases hua : usedAt out xo.hour with _ | u
      · refine xr_op rfl rfl (xv_move rfl ?_)
        refine xr_op rfl rfl (xv_faddr fl42_0 rfl ?_)
        refine xr_op rfl rfl (xv_load1 ty3 rfl rfl (by ((repeat first|exact z_0|assumption|refine z_1 ?_|(refine z_l ?_;(repeat first|exact z_0|assumption|refine z_1 ?_);done)|refine z_r ?_);done)) (by rfl) ?_)
        refine xr_op rfl rfl (xv_lookupOk (v := I 0) (b := false) Try.underlying87 Try.underlying3 ty3 rfl rfl (by ((repeat first|exact z_0|assumption|refine z_1 ?_|(refine z_l ?_;(repeat first|exact z_0|assumption|refine z_1 ?_);done)|refine z_r ?_);done)) hM.1 (by rw [hM.2, hua]; rfl) (by rw [hM.2, hua]; rfl) ?_)
        refine xr_op rfl rfl (xv_move rfl ?_)
        refine xr_op rfl rfl (xv_extract rfl rfl ?_)
        refine xr_op rfl rfl (xv_extract rfl rfl ?_)
        refine xr_op rfl rfl (xv_assign rfl ?_)
        refine xr_op rfl rfl (xv_assign rfl ?_)
        refine xr_end rfl ?_
        refine th_n ?_
        refine xc_block ?_
        refine xc_seq (xc_region ?_)
        refine xr_op rfl rfl (xv_move rfl ?_)
        refine xr_op rfl rfl (xv_not rfl ?_)
        refine xr_op rfl rfl (xv_assign rfl ?_)
        refine xr_end rfl ?_
        refine th_n ?_
        refine xc_true rfl ?_
        refine xc_seq (xc_region ?_)
        refine xr_op rfl rfl (xv_move rfl ?_)
        refine xr_op rfl rfl (xv_faddr fl42_0 rfl ?_)
        refine xr_op rfl rfl (xv_load1 ty3 rfl rfl (by ((repeat first|exact z_0|assumption|refine z_1 ?_|(refine z_l ?_;(repeat first|exact z_0|assumption|refine z_1 ?_);done)|refine z_r ?_);done)) (by rfl) ?_)
        refine xr_op rfl rfl (xv_faddr fl42_1 rfl ?_)
        refine xr_op rfl rfl (xv_load1 ty3 rfl rfl (by ((repeat first|exact z_0|assumption|refine z_1 ?_|(refine z_l ?_;(repeat first|exact z_0|assumption|refine z_1 ?_);done)|refine z_r ?_);done)) (by rfl) ?_)
        refine xr_op rfl rfl (xv_mapSet Try.underlying87 Try.underlying3 rfl rfl rfl (fun o2 => by (first|(apply u_3;(repeat first|exact u_0|assumption|apply u_1|apply u_2);done)|((repeat first|exact u_0|assumption|apply u_1|apply u_2);done)|(apply u_3;apply u_3;(repeat first|exact u_0|assumption|apply u_1|apply u_2);done)|((repeat first|exact u_0|assumption|apply u_3|apply u_1);done))) hM.1 (fun es1 cm1 hms1 => ?_))
        refine xr_end rfl ?_
        refine th_n ?_
        refine xc_draw0 [(0, .S), (1, .S), (2, .S), (3, .S), (4, .R), (5, .R), (6, .P), (6, .A), (7, .O), (8, .S), (9, .S), (10, .O)] mixed (by kernel_rfl) ?_
        refine js_S rfl rfl (.inl rfl) (xv_move rfl ⟨rfl, rfl⟩) ?_
        refine js_S rfl rfl (.inl rfl) (xv_move rfl ⟨rfl, rfl⟩) ?_
        refine js_S rfl rfl (.inl rfl) (xv_nilp rfl ⟨rfl, rfl⟩) ?_
        refine js_S rfl rfl (.inl rfl) (xv_faddr fl70_1 rfl ⟨rfl, rfl⟩) ?_
        refine js_R0 rfl rfl (.inl rfl) (xv_load1 ty23 rfl rfl (by ((repeat first|exact z_0|assumption|refine z_1 ?_|(refine z_l ?_;(repeat first|exact z_0|assumption|refine z_1 ?_);done)|refine z_r ?_);done)) (by rfl) ⟨rfl, rfl⟩) ?_
        refine js_R0 rfl rfl (.inl rfl) (xv_loadA ty42 rfl rfl (by ((repeat first|exact z_0|assumption|refine z_1 ?_|(refine z_l ?_;(repeat first|exact z_0|assumption|refine z_1 ?_);done)|refine z_r ?_);done)) (by ((try apply evl_some rfl);(repeat (first|exact (rfl : _ = [])|apply evl_cons rfl (by (first|exact v_1|exact v_2|exact v_3|exact v_4|exact v_5|exact v_6|exact v_7|exact v_8|exact v_9|exact rfl))|exact rfl)))) (by rfl) ⟨rfl, rfl⟩) ?_
        refine js_P rfl rfl rfl (al_buildSlice sl23 ty42 rfl rfl rfl rfl rfl (by ((try apply evl_some rfl);(repeat (first|exact (rfl : _ = [])|apply evl_cons rfl (by (first|exact v_1|exact v_2|exact v_3|exact v_4|exact v_5|exact v_6|exact v_7|exact v_8|exact v_9|exact rfl))|exact rfl))))) ?_
        refine js_A0 rfl rfl rfl rfl rfl ⟨rfl, trivial⟩ (fun b45 hb45 => ?_)
        refine js_O0 rfl rfl (.inl rfl) (xv_append (V := V) (n := out.length) (xs := out.flatMap eMark) sl23 ty42 rfl rfl rfl hV (.there (.there .here)) (by ((repeat first|exact z_0|assumption|refine z_1 ?_|(refine z_l ?_;(repeat first|exact z_0|assumption|refine z_1 ?_);done)|refine z_r ?_);done)) (by ((try apply evl_some rfl);(repeat (first|exact (rfl : _ = [])|apply evl_cons rfl (by (first|exact v_1|exact v_2|exact v_3|exact v_4|exact v_5|exact v_6|exact v_7|exact v_8|exact v_9|exact rfl))|exact rfl)))) rfl rfl (by (first|omega|(dsimp only at *;omega)|(simp at *;omega))) (by simp only []; (first|omega|(dsimp only at *;omega)|(simp at *;omega))) (by (first|omega|(dsimp only at *;omega)|(simp at *;omega))) (fun V2 hV2 => ?_))
        refine js_S rfl rfl (.inl rfl) (xv_nilp rfl ⟨rfl, rfl⟩) ?_
        refine js_S rfl rfl (.inl rfl) (xv_faddr fl70_1 rfl ⟨rfl, rfl⟩) ?_
        refine js_O0 rfl rfl (.inl rfl) (xv_s1 (l' := eMet s (V2.val (out.length + 1))) ty23 rfl rfl rfl (by (first|(apply u_3;(repeat first|exact u_0|assumption|apply u_1|apply u_2);done)|((repeat first|exact u_0|assumption|apply u_1|apply u_2);done)|(apply u_3;apply u_3;(repeat first|exact u_0|assumption|apply u_1|apply u_2);done)|((repeat first|exact u_0|assumption|apply u_3|apply u_1);done))) (by (first | rfl | exact Vec.one _ _)) (by (first | decide | exact Nat.le_of_ble_eq_true rfl | (simp only [List.length_cons, List.length_nil]; omega) | (simp; done))) rfl ?_)
        refine j_end0 ?_
        refine bk_n ?_
        refine bk_n ?_
        refine th_n ?_
        refine xc_region ?_
        refine xr_op rfl rfl (xv_add rfl rfl (wrap_i64 (by (first|omega|(dsimp only at *;omega)|(simp at *;omega))) (by (first|omega|(dsimp only at *;omega)|(simp at *;omega)))) ?_)
        refine xr_op rfl rfl (xv_move rfl ?_)
        refine xr_end rfl ?_
        have hf9 : (out ++ [xo]).flatMap eMark = out.flatMap eMark ++ eMark xo := by rw [List.flatMap_append]; simp
        have hl9 : (out ++ [xo]).length = out.length + 1 := by rw [List.length_append]; rfl
        exact rnd ((k + 1, out ++ [xo], V2, es1, cm1) : Nat × List Mark × Vec × List MapEntry × Nat) ⟨by (first|omega|(dsimp only at *;omega)|(simp at *;omega)), by rw [List.take_add_one, hko]; exact hG.more hua, by dsimp only; rw [hl9]; omega, by dsimp only; rw [hl9, hf9]; exact hV2, hms1.ai, fun j => by
          dsimp only; rw [hms1.get, usedAt_snoc hua, hM.2]
          split <;> rfl⟩ (by (first|omega|(dsimp only at *;omega)|(simp at *;omega))) (le_put (le_put (le_put (le_put (le_put (le_put (le_put (le_put (le_emp _) rfl) rfl) rfl) rfl) rfl) rfl) rfl) rfl) (by dsimp only; rw [hl9, hf9]; (first|((repeat first|exact s_0|exact s_1|exact s_3|refine s_4 ?_|refine s_5 ?_|refine s_6 ?_|refine s_7 ?_);done)|((repeat first|exact s_0|exact s_1|exact s_3|refine s_4 ?_|refine s_5 ?_|refine s_6 ?_|refine s_8 ?_);done)))
      · refine xr_op rfl rfl (xv_move rfl ?_)
        refine xr_op rfl rfl (xv_faddr fl42_0 rfl ?_)
        refine xr_op rfl rfl (xv_load1 ty3 rfl rfl (by ((repeat first|exact z_0|assumption|refine z_1 ?_|(refine z_l ?_;(repeat first|exact z_0|assumption|refine z_1 ?_);done)|refine z_r ?_);done)) (by rfl) ?_)
        refine xr_op rfl rfl (xv_lookupOk (v := I u) (b := true) Try.underlying87 Try.underlying3 ty3 rfl rfl (by ((repeat first|exact z_0|assumption|refine z_1 ?_|(refine z_l ?_;(repeat first|exact z_0|assumption|refine z_1 ?_);done)|refine z_r ?_);done)) hM.1 (by rw [hM.2, hua]; rfl) (by rw [hM.2, hua]; rfl) ?_)
        refine xr_op rfl rfl (xv_move rfl ?_)
        refine xr_op rfl rfl (xv_extract rfl rfl ?_)
        refine xr_op rfl rfl (xv_extract rfl rfl ?_)
        refine xr_op rfl rfl (xv_assign rfl ?_)
        refine xr_op rfl rfl (xv_assign rfl ?_)
        refine xr_end rfl ?_
        refine th_n ?_
        refine xc_block ?_
        refine xc_seq (xc_region ?_)
        refine xr_op rfl rfl (xv_move rfl ?_)
        refine xr_op rfl rfl (xv_not rfl ?_)
        refine xr_op rfl rfl (xv_assign rfl ?_)
        refine xr_end rfl ?_
        refine th_n ?_
        refine xc_false rfl ?_
        refine xc_seq (xc_region ?_)
        refine xr_op rfl rfl (xv_move rfl ?_)
        refine xr_op rfl rfl (xv_faddr fl42_1 rfl ?_)
        refine xr_op rfl rfl (xv_load1 ty3 rfl rfl (by ((repeat first|exact z_0|assumption|refine z_1 ?_|(refine z_l ?_;(repeat first|exact z_0|assumption|refine z_1 ?_);done)|refine z_r ?_);done)) (by rfl) ?_)
        refine xr_op rfl rfl (xv_neq2 rfl rfl (fun q3 => ?_) (fun q3 => ?_))
        · refine xr_op rfl rfl (xv_assign rfl ?_)
          refine xr_end rfl ?_
          refine th_n ?_
          refine xc_true rfl ?_
          refine xc_seq (xc_region ?_)
          have he5 : errS s = 5 := errS_5 hgs (by
            have h9 := hG.twice (r := s.marks.drop (k + 1)) hua (by (first|omega|(dsimp only at *;omega)|(simp at *;omega)))
            rw [← (List.getElem?_eq_some_iff.1 hko).2, ← List.drop_eq_getElem_cons hlto, List.take_append_drop] at h9; exact h9)
          refine xr_op rfl rfl (xv_assign rfl ?_)
          refine xr_op rfl rfl (xv_assign rfl ?_)
          refine xr_end rfl ?_
          refine th_n ?_
          refine xc_ret ?_
          refine bk_r ?_
          refine bk_r ?_
          refine th_r ?_
          refine th_r ?_
          refine bk_r ?_
          refine th_r ?_
          refine body_ret (h' := h) rfl (ro_tmp rfl (ro_tmp rfl ro_nil)) (by (first|((repeat first|exact s_0|exact s_1|exact s_3|refine s_4 ?_|refine s_5 ?_|refine s_6 ?_|refine s_7 ?_);done)|((repeat first|exact s_0|exact s_1|exact s_3|refine s_4 ?_|refine s_5 ?_|refine s_6 ?_|refine s_8 ?_);done))) ?_
          first | (have h9 := H1 (by omega); rw [he1] at h9; exact h9) | (have h9 := H1 (by omega); rw [he5] at h9; exact h9) | (have h9 := H1 (by omega); rw [he7] at h9; exact h9) | (have h9 := H2 he0 b16 qa qc (V.hp 42 ((dmS s).flatMap eMark) ++ [(b16, .cells ⟨eMet s (.slice qa (dmS s).length qc)⟩ 70)]) ⟨by simp, hqs.sub (by intro z hz; exact List.mem_append_left _ hz)⟩; rw [List.append_assoc] at h9; exact h9)
        · refine xr_op rfl rfl (xv_assign rfl ?_)
          refine xr_end rfl ?_
          refine th_n ?_
          refine xc_false rfl ?_
          refine xc_skip ?_
          refine bk_n ?_
          refine bk_n ?_
          refine th_n ?_
          refine xc_region ?_
          refine xr_op rfl rfl (xv_add rfl rfl (wrap_i64 (by (first|omega|(dsimp only at *;omega)|(simp at *;omega))) (by (first|omega|(dsimp only at *;omega)|(simp at *;omega)))) ?_)
          refine xr_op rfl rfl (xv_move rfl ?_)
          refine xr_end rfl ?_
          have hux : u = xo.used := by (first|omega|(dsimp only at *;omega)|(simp at *;omega))
          subst hux
          exact rnd ((k + 1, out, V, es, c) : Nat × List Mark × Vec × List MapEntry × Nat) ⟨by (first|omega|(dsimp only at *;omega)|(simp at *;omega)), by rw [List.take_add_one, hko]; exact hG.same hua, by dsimp only; omega, hV, hM⟩ (by (first|omega|(dsimp only at *;omega)|(simp at *;omega))) (le_put (le_put (le_put (le_put (le_put (le_put (le_put (le_put (le_emp _) rfl) rfl) rfl) rfl) rfl) rfl) rfl) rfl) (by (first|((repeat first|exact s_0|exact s_1|exact s_3|refine s_4 ?_|refine s_5 ?_|refine s_6 ?_|refine s_7 ?_);done)|((repeat first|exact s_0|exact s_1|exact s_3|refine s_4 ?_|refine s_5 ?_|refine s_6 ?_|refine s_8 ?_);done)))
    · refine xr_end rfl ?_
      refine th_n ?_
      refine xc_seq ?_
      refine xc_false rfl ?_
      refine xc_exit ?_
      refine th_x ?_
      refine th_x ?_
      refine bk_same ?_
      refine th_n ?_
      refine xc_seq (xc_region ?_)
      obtain rfl : s.marks.length = k := by (first|omega|(dsimp only at *;omega)|(simp at *;omega))
      rw [List.take_length] at hG
      refine xr_op rfl rfl (xv_move rfl ?_)
      refine xr_op rfl rfl (xv_nilp rfl ?_)
      refine xr_op rfl rfl (xv_faddr fl70_1 rfl ?_)
      refine xr_op rfl rfl (xv_load1 ty23 rfl rfl (by ((repeat first|exact z_0|assumption|refine z_1 ?_|(refine z_l ?_;(repeat first|exact z_0|assumption|refine z_1 ?_);done)|refine z_r ?_);done)) (by rfl) ?_)
      refine xr_op rfl rfl (xv_calls rfl hb47 (sortV12_c (xs := out) (cm := cmM) hV (by omega) (fun x y hx hy H9 R9 hsub hR => afn_func hb48 (byHour_c hR)) swoM (fun ys hyp hys hV2 => up_ret ?_)))
      refine xr_end rfl ?_
      refine th_n ?_
      refine xc_seq ?_
      refine xc_seq (xc_region ?_)
      have hdm := hG.dm hyp (hys.imp fun {a b} h9 => by have := mt cmpI_lt.2 h9; omega)
      subst hdm
      have hyl : out.length = (dmS s).length := hyp.length_eq.symm
      rw [hyl]
      obtain ⟨qa, qc, hqv, hqs⟩ := Vec.slv (enc := eMark) (t := 42) (h := V.hp 42 ((dmS s).flatMap eMark)) eMark_len hV2 (fun _ hz => hz)
      rw [hqv]
      refine xr_op rfl rfl (xv_move rfl ?_)
      refine xr_op rfl rfl (xv_nilp rfl ?_)
      refine xr_op rfl rfl (xv_faddr fl70_1 rfl ?_)
      refine xr_op rfl rfl (xv_load1 ty23 rfl rfl (by ((repeat first|exact z_0|assumption|refine z_1 ?_|(refine z_l ?_;(repeat first|exact z_0|assumption|refine z_1 ?_);done)|refine z_r ?_);done)) (by rfl) ?_)
      refine xr_op rfl rfl (xv_calls rfl hb50 (isSorted_c (hqs.sub (by intro z hz; ((repeat first|exact z_0|assumption|refine z_1 ?_|(refine z_l ?_;(repeat first|exact z_0|assumption|refine z_1 ?_);done)|refine z_r ?_);done))) (by have := dm_len (s := s) (by omega); omega) (fun hso => up_ret ?_) (fun hso => up_ret ?_)))
      · refine xr_op rfl rfl (xv_not rfl ?_)
        refine xr_end rfl ?_
        refine th_n ?_
        refine xc_false rfl ?_
        refine xc_skip ?_
        refine th_n ?_
        refine xc_seq (xc_region ?_)
        have he0 : errS s = 0 := (errS_dm hgs hG).1 hso
        refine xr_op rfl rfl (xv_move rfl ?_)
        refine xr_op rfl rfl (xv_assign rfl ?_)
        refine xr_op rfl rfl (xv_assign rfl ?_)
        refine xr_end rfl ?_
        refine th_n ?_
        refine xc_ret ?_
        refine body_ret (h' := (V.hp 42 ((dmS s).flatMap eMark) ++ (b16, .cells ⟨eMet s (.slice qa (dmS s).length qc)⟩ 70) :: h)) rfl (ro_tmp rfl (ro_tmp rfl ro_nil)) (by (first|((repeat first|exact s_0|exact s_1|exact s_3|refine s_4 ?_|refine s_5 ?_|refine s_6 ?_|refine s_7 ?_);done)|((repeat first|exact s_0|exact s_1|exact s_3|refine s_4 ?_|refine s_5 ?_|refine s_6 ?_|refine s_8 ?_);done))) ?_
        first | (have h9 := H1 (by omega); rw [he1] at h9; exact h9) | (have h9 := H1 (by omega); rw [he5] at h9; exact h9) | (have h9 := H1 (by omega); rw [he7] at h9; exact h9) | (have h9 := H2 he0 b16 qa qc (V.hp 42 ((dmS s).flatMap eMark) ++ [(b16, .cells ⟨eMet s (.slice qa (dmS s).length qc)⟩ 70)]) ⟨by simp, hqs.sub (by intro z hz; exact List.mem_append_left _ hz)⟩; rw [List.append_assoc] at h9; exact h9)
      · refine xr_op rfl rfl (xv_not rfl ?_)
        refine xr_end rfl ?_
        refine th_n ?_
        refine xc_true rfl ?_
        refine xc_seq (xc_region ?_)
        have he7 : errS s = 7 := (errS_dm hgs hG).2 hso
        refine xr_op rfl rfl (xv_assign rfl ?_)
        refine xr_op rfl rfl (xv_assign rfl ?_)
        refine xr_end rfl ?_
        refine th_n ?_
        refine xc_ret ?_
        refine th_r ?_
        refine body_ret (h' := h) rfl (ro_tmp rfl (ro_tmp rfl ro_nil)) (by (first|((repeat first|exact s_0|exact s_1|exact s_3|refine s_4 ?_|refine s_5 ?_|refine s_6 ?_|refine s_7 ?_);done)|((repeat first|exact s_0|exact s_1|exact s_3|refine s_4 ?_|refine s_5 ?_|refine s_6 ?_|refine s_8 ?_);done))) ?_
        first | (have h9 := H1 (by omega); rw [he1] at h9; exact h9) | (have h9 := H1 (by omega); rw [he5] at h9; exact h9) | (have h9 := H1 (by omega); rw [he7] at h9; exact h9) | (have h9 := H2 he0 b16 qa qc (V.hp 42 ((dmS s).flatMap eMark) ++ [(b16, .cells ⟨eMet s (.slice qa (dmS s).length qc)⟩ 70)]) ⟨by simp, hqs.sub (by intro z hz; exact List.mem_append_left _ hz)⟩; rw [List.append_assoc] at h9; exact h9)
  · refine xr_op rfl rfl (xv_not rfl ?_)
    refine xr_end rfl ?_
    refine th_n ?_
    refine xc_true rfl ?_
    refine xc_seq (xc_region ?_)
    have he1 : errS s = 1 := errS_1 hgs
    refine xr_op rfl rfl (xv_assign rfl ?_)
    refine xr_op rfl rfl (xv_assign rfl ?_)
    refine xr_end rfl ?_
    refine th_n ?_
    refine xc_ret ?_
    refine th_r ?_
    refine body_ret (h' := h) rfl (ro_tmp rfl (ro_tmp rfl ro_nil)) (by (first|((repeat first|exact s_0|exact s_1|exact s_3|refine s_4 ?_|refine s_5 ?_|refine s_6 ?_|refine s_7 ?_);done)|((repeat first|exact s_0|exact s_1|exact s_3|refine s_4 ?_|refine s_5 ?_|refine s_6 ?_|refine s_8 ?_);done))) ?_
    first | (have h9 := H1 (by omega); rw [he1] at h9; exact h9) | (have h9 := H1 (by omega); rw [he5] at h9; exact h9) | (have h9 := H1 (by omega); rw [he7] at h9; exact h9) | (have h9 := H2 he0 b16 qa qc (V.hp 42 ((dmS s).flatMap eMark) ++ [(b16, .cells ⟨eMet s (.slice qa (dmS s).length qc)⟩ 70)]) ⟨by simp, hqs.sub (by intro z hz; exact List.mem_append_left _ hz)⟩; rw [List.append_assoc] at h9; exact h9)

end Go.Proofs.Ytlcdbjgfeoagbaa

/-
  The search for the tariff in force.
-/
set_option linter.all false
namespace Go.Proofs.Ytlcdbjgfeoagbaa
open Go Go.H
theorem frm_next {hold now last : Int} {l : List Tariff} (h : tarsOk hold now last l) {k : Nat} {x y : Tariff} (hx : l[k]? = some x) (hy : l[k + 1]? = some y) : x.frm < y.frm := by
  have h1 := (tarsOk_at h hy).1.1
  rw [lastF_p (Nat.succ_pos k) hx] at h1
  omega
theorem frm_lt {hold now last : Int} {l : List Tariff} (h : tarsOk hold now last l) {i : Nat} {x : Tariff} (hx : l[i]? = some x) : ∀ {d : Nat} {y : Tariff}, l[i + d + 1]? = some y → x.frm < y.frm
  | 0, y, hy => frm_next h hx hy
  | d + 1, y, hy => by
    have hlt := (List.getElem?_eq_some_iff.1 hy).1
    have hz : l[i + d + 1]? = some (l[i + d + 1]'(by omega)) := List.getElem?_eq_getElem (by omega)
    have h1 := frm_lt h hx hz
    have h2 := frm_next h hz hy
    omega
theorem frm_le {hold now last : Int} {l : List Tariff} (h : tarsOk hold now last l) {i j : Nat} {x y : Tariff} (hij : i ≤ j) (hx : l[i]? = some x) (hy : l[j]? = some y) : x.frm ≤ y.frm := by
  rcases Nat.lt_or_ge i j with q | q
  · obtain ⟨d, rfl⟩ : ∃ d, j = i + d + 1 := ⟨j - i - 1, by omega⟩
    have := frm_lt h hx hy; omega
  · obtain rfl : i = j := by omega
    rw [hx] at hy; cases hy; exact Int.le_refl _
theorem frm_ltt {hold now last : Int} {l : List Tariff} (h : tarsOk hold now last l) {i j : Nat} {x y : Tariff} (hij : i < j) (hx : l[i]? = some x) (hy : l[j]? = some y) : x.frm < y.frm := by
  obtain ⟨d, rfl⟩ : ∃ d, j = i + d + 1 := ⟨j - i - 1, by omega⟩
  exact frm_lt h hx hy
theorem bs_mono {s : Slot} (hg : GoodSlot s) (hour : Int) : ∀ (i j : Nat) (x y : Tariff), i ≤ j → s.tars[i]? = some x → s.tars[j]? = some y → 0 ≤ cmpI x.frm hour → 0 ≤ cmpI y.frm hour := fun i j x y hij hx hy h => by
  have h1 := frm_le hg.2.2.2.1 hij hx hy
  rw [cmpI_ge] at *
  omega
theorem bs_found {s : Slot} (hg : GoodSlot s) {hour : Int} {i : Nat} {x : Tariff} (hx : s.tars[i]? = some x) (h : cmpI x.frm hour = 0) : force s.tars hour = i := by
  rw [cmpI_0] at h
  refine force_eq hx (by omega) fun j y hj hy => ?_
  have := frm_ltt hg.2.2.2.1 (by omega) hx hy
  omega
theorem bs_not {s : Slot} (hg : GoodSlot s) {hour : Int} (h0 : 0 ≤ hour) {i : Nat} (hi : i ≤ s.tars.length) (h1 : ∀ q x, q < i → s.tars[q]? = some x → cmpI x.frm hour < 0) (h2 : ∀ q x, i ≤ q → s.tars[q]? = some x → 0 ≤ cmpI x.frm hour) (h : ∀ x, s.tars[i]? = some x → cmpI x.frm hour ≠ 0) :
    1 ≤ i ∧ force s.tars hour = i - 1 := by
  have hn := List.length_pos_iff.2 hg.ne
  have hi1 : 1 ≤ i := by
    rcases Nat.eq_zero_or_pos i with q | q
    · subst q
      have hx : s.tars[0]? = some s.tars[0] := List.getElem?_eq_getElem hn
      have hf := frm0_at hg.2.2.1 hx
      have h3 := h2 0 _ (Nat.le_refl _) hx
      have h4 := h _ hx
      rw [cmpI_ge] at h3
      exact absurd (cmpI_0.2 (by omega)) h4
    · exact q
  refine ⟨hi1, ?_⟩
  have hx : s.tars[i - 1]? = some (s.tars[i - 1]'(by omega)) := List.getElem?_eq_getElem (by omega)
  have h3 := cmpI_lt.1 (h1 (i - 1) _ (by omega) hx)
  refine force_eq hx (by omega) fun j y hj hy => ?_
  have h4 := h2 j y (by omega) hy
  rw [cmpI_ge] at h4
  rcases Nat.lt_or_ge i j with q | q
  · have hz : s.tars[i]? = some (s.tars[i]'(by have := (List.getElem?_eq_some_iff.1 hy).1; omega)) := List.getElem?_eq_getElem _
    have := frm_ltt hg.2.2.2.1 q hz hy
    have h5 := h2 i _ (Nat.le_refl _) hz
    rw [cmpI_ge] at h5
    omega
  · obtain rfl : i = j := by omega
    have h6 := h y hy
    rw [Ne, cmpI_0] at h6
    omega
theorem sum_u {n : Nat} (h : n < 9223372036854775808) : (UInt64.ofNat n).toNat = n := by
  rw [UInt64.toNat_ofNat']; omega
theorem half_u {n : Nat} (h : n < 9223372036854775808) : (UInt64.ofNat n >>> UInt64.ofNat 1).toNat = n / 2 := by
  rw [UInt64.toNat_shiftRight, sum_u h]
  simp [Nat.shiftRight_eq_div_pow]
end Go.Proofs.Ytlcdbjgfeoagbaa

/-
  The marks of a tariff, one after the other.
-/
set_option linter.all false
namespace Go.Proofs.Ytlcdbjgfeoagbaa
open Go Go.H
theorem ofT_hit {s : Slot} {k : Nat} {l : List Mark} {i : Nat} {x : Mark} (hx : l[i]? = some x) (hk : force s.tars x.hour = k) : (ofT s k l)[(ofT s k (l.take i)).length]? = some x ∧ (ofT s k (l.take (i + 1))).length = (ofT s k (l.take i)).length + 1 := by
  have h1 : ofT s k (l.take (i + 1)) = ofT s k (l.take i) ++ [x] := by
    unfold ofT
    rw [List.take_add_one, hx, List.filter_append]
    simp [hk]
  have h2 : ofT s k l = ofT s k (l.take (i + 1)) ++ ofT s k (l.drop (i + 1)) := by
    unfold ofT; rw [← List.filter_append, List.take_append_drop]
  refine ⟨?_, by rw [h1, List.length_append]; rfl⟩
  rw [h2, h1, List.append_assoc, List.getElem?_append_right (Nat.le_refl _), Nat.sub_self]; rfl
theorem ofT_miss {s : Slot} {k : Nat} {l : List Mark} {i : Nat} {x : Mark} (hx : l[i]? = some x) (hk : force s.tars x.hour ≠ k) : (ofT s k (l.take (i + 1))).length = (ofT s k (l.take i)).length := by
  unfold ofT
  rw [List.take_add_one, hx, List.filter_append]
  have : ¬ ((force s.tars x.hour : Int) = (k : Int)) := by omega
  simp [this]
theorem fitsP_take {s : Slot} {k : Nat} {pen has b : Int} {l : List Mark} {j : Nat} {x : Mark} (h : fitsP s k pen has (l.take j) 0 = some b) (hx : l[j]? = some x) : fitsP s k pen has (l.take (j + 1)) 0 = stepP s k pen has x b := by
  unfold fitsP at *
  rw [List.take_add_one, hx, List.foldl_append, h]; rfl
theorem fits_bad {s : Slot} {k : Nat} {pen has b : Int} {j : Nat} {x : Mark} (h : fitsP s k pen has ((ofT s k (dmS s)).take j) 0 = some b) (hx : (ofT s k (dmS s))[j]? = some x) (hs : stepP s k pen has x b = none) : fitsB s k pen has = false := by
  have h1 := fitsP_take h hx
  rw [hs] at h1
  unfold fitsB
  have : fitsP s k pen has (ofT s k (dmS s)) 0 = none := by
    rw [← List.take_append_drop (j + 1) (ofT s k (dmS s))]
    unfold fitsP at *
    rw [List.foldl_append, h1]; exact fitsP_none _
  rw [this]; rfl
theorem fits_ok {s : Slot} {k : Nat} {pen has b : Int} (h : fitsP s k pen has ((ofT s k (dmS s)).take (ofT s k (dmS s)).length) 0 = some b) : fitsB s k pen has = true := by
  rw [List.take_length] at h
  unfold fitsB; rw [h]; rfl
theorem tdiv_bd {a f : Int} (ha : 0 ≤ a) (hf : 1 ≤ f) : 0 ≤ a.tdiv f ∧ a.tdiv f ≤ a := by
  rw [Int.tdiv_eq_ediv_of_nonneg ha]
  exact ⟨Int.ediv_nonneg ha (by omega), Int.ediv_le_self _ ha⟩
theorem of_mem {s : Slot} {k : Nat} {x : Mark} {j : Nat} (h : (ofT s k (dmS s))[j]? = some x) : x ∈ dmS s ∧ force s.tars x.hour = k := by
  have h1 := List.mem_of_getElem? h
  have h2 := of_decide_eq_true (List.mem_filter.1 h1).2
  exact ⟨(List.mem_filter.1 h1).1, by omega⟩
theorem dm_bd {s : Slot} (h : errS s = 0) {x : Mark} (hx : x ∈ dmS s) : markOk s.now x := (errS_0 h).1.2.2.2.2 x ((dm_mem h).1 hx)
theorem slot_feet {s : Slot} {k : Nat} {x : Tariff} (h : s.tars[k]? = some x) : feetK s k = x.feet := by unfold feetK; rw [List.getD_eq_getElem?_getD, h]; rfl
end Go.Proofs.Ytlcdbjgfeoagbaa

/-
  Walks.
-/
namespace Go.Proofs.Ytlcdbjgfeoagbaa
open Go Go.H
set_option maxRecDepth 100000
set_option maxHeartbeats 8000000
set_option linter.all false
theorem bsearch_c {xs : List Tariff} {a : Option Addr} {c : Nat} {y : Int} {f : Value} {cm : Tariff → Int} {h : Hp} {R : Ending → Hp → Prop} (hl : SlV h 2 eTariff a xs) (hlen : xs.length ≤ 1000) (hf : ∀ x ∈ xs, ∀ R', R' (.returned (I (cm x))) h → AFn Try.prog f [.agg ⟨eTariff x⟩, I y] h R')
    (hmn : ∀ (i j : Nat) (x y : Tariff), i ≤ j → xs[i]? = some x → xs[j]? = some y → 0 ≤ cm x → 0 ≤ cm y)
    (H1 : ∀ (i : Nat) x, xs[i]? = some x → cm x = 0 → R (.returned (.tuple ⟨[I i, .bool true]⟩)) h)
    (H2 : ∀ i : Nat, i ≤ xs.length → (∀ q x, q < i → xs[q]? = some x → cm x < 0) → (∀ q x, i ≤ q → xs[q]? = some x → 0 ≤ cm x) → (∀ x, xs[i]? = some x → cm x ≠ 0) → R (.returned (.tuple ⟨[I i, .bool false]⟩)) h) :
    ACalls Try.prog 55 ⟨[.slice a xs.length c, I y, f]⟩ h R := by
  refine calls_of_xc (N := 49) Try.func55 rfl (by rfl) ?_
  refine xc_seq (xc_region ?_)
  refine xr_op rfl rfl (xv_assign rfl ?_)
  refine xr_op rfl rfl (xv_assign rfl ?_)
  refine xr_end rfl ?_
  refine th_n ?_
  refine xc_seq (xc_region ?_)
  refine xr_op rfl rfl (xv_move rfl ?_)
  refine xr_op rfl rfl (xv_len sl22 rfl ?_)
  refine xr_op rfl rfl (xv_assign rfl ?_)
  refine xr_end rfl ?_
  refine th_n ?_
  refine xc_seq (xc_region ?_)
  refine xr_op rfl rfl (xv_move rfl ?_)
  refine xr_op rfl rfl (xv_assign rfl ?_)
  refine xr_op rfl rfl (xv_assign rfl ?_)
  refine xr_end rfl ?_
  refine th_n ?_
  refine xc_seq ?_
  refine xc_block ?_
  refine xc_loop (σ := Nat × Nat) (fun z => z.1 ≤ z.2 ∧ z.2 ≤ xs.length ∧ (∀ q x, q < z.1 → xs[q]? = some x → cm x < 0) ∧ (∀ q x, z.2 ≤ q → xs[q]? = some x → 0 ≤ cm x)) (fun z => ((((((emp.put (some 0) (.slice a xs.length c)).put (some 1) (I y)).put (some 2) (f)).put (some 8) (I xs.length)).put (some 9) (I z.1)).put (some 10) (I z.2))) (fun z => h) (fun z => z.2 - z.1) ((0, xs.length) : Nat × Nat) ⟨Nat.zero_le _, Nat.le_refl _, fun q x hq => absurd hq (Nat.not_lt_zero _), fun q x hq hx => absurd (List.getElem?_eq_some_iff.1 hx).1 (by dsimp only at hq; omega)⟩ (le_put (le_put (le_put (le_put (le_put (le_put (le_emp _) rfl) rfl) rfl) rfl) rfl) rfl) (by (first|((repeat first|exact s_0|exact s_1|exact s_3|refine s_4 ?_|refine s_5 ?_|refine s_6 ?_|refine s_7 ?_);done)|((repeat first|exact s_0|exact s_1|exact s_3|refine s_4 ?_|refine s_5 ?_|refine s_6 ?_|refine s_8 ?_);done))) ?_
  rintro ⟨i, j⟩ ⟨hij, hjl, hlo, hhi⟩
  dsimp only at hij hjl hlo hhi
  refine xc_seq ?_
  refine xc_seq (xc_region ?_)
  refine xr_op rfl rfl (xv_move rfl ?_)
  refine xr_op rfl rfl (xv_move rfl ?_)
  refine xr_op rfl rfl (xv_lss2 rfl rfl (fun q1 => ?_) (fun q1 => ?_))
  · refine xr_end rfl ?_
    refine th_n ?_
    refine xc_true rfl ?_
    refine xc_skip ?_
    refine th_n ?_
    refine xc_block ?_
    refine xc_seq (xc_region ?_)
    have hsu : (UInt64.ofNat (i + j)).toNat = i + j := sum_u (by omega)
    have hhu : (UInt64.ofNat (i + j) >>> UInt64.ofNat 1).toNat = (i + j) / 2 := half_u (by omega)
    refine xr_op rfl rfl (xv_move rfl ?_)
    refine xr_op rfl rfl (xv_move rfl ?_)
    refine xr_op rfl rfl (xv_add rfl rfl (wrap_i64 (by (first|omega|(dsimp only at *;omega)|(simp at *;omega))) (by (first|omega|(dsimp only at *;omega)|(simp at *;omega)))) ?_)
    refine xr_op rfl rfl (xv_convI (m := ((UInt64.ofNat (i + j)).toNat : Int)) Try.underlying3 Try.underlying96 rfl (by rw [hsu, Int.natCast_add]; exact wrap_u64 (by omega) (by omega)) ?_)
    refine xr_op rfl rfl (xv_shrU (w := UInt64.ofNat (i + j)) (s := 1) rfl rfl (by decide) rfl ?_)
    refine xr_op rfl rfl (xv_convI (m := (((i + j) / 2 : Nat) : Int)) Try.underlying96 Try.underlying3 rfl (by rw [hhu]; exact wrap_i64 (by omega) (by omega)) ?_)
    refine xr_op rfl rfl (xv_assign rfl ?_)
    refine xr_end rfl ?_
    refine th_n ?_
    refine xc_seq (xc_region ?_)
    refine xr_op rfl rfl (xv_move rfl ?_)
    refine xr_op rfl rfl (xv_move rfl ?_)
    refine xr_op rfl rfl (xv_move rfl ?_)
    have hlto : ((i + j) / 2) < xs.length := by (first|omega|(dsimp only at *;omega)|(simp at *;omega))
    obtain ⟨bo, oo, lo, to, fzo, hao, hmo, hxo⟩ := (hl).at hlto
    obtain ⟨xo, hko⟩ : ∃ qq_, xs[((i + j) / 2)]? = some qq_ := ⟨_, List.getElem?_eq_getElem hlto⟩
    refine xr_op rfl rfl (xv_ia (sz := 2) (j := ((i + j) / 2)) sl22 ty54 rfl (by rw [hao]; rfl) rfl rfl (by (first|omega|(dsimp only at *;omega)|(simp at *;omega))) (by (first|omega|(dsimp only at *;omega)|(simp at *;omega))) ?_)
    refine xr_op rfl rfl (xv_loadA ty54 rfl rfl (by ((repeat first|exact z_0|assumption|refine z_1 ?_|(refine z_l ?_;(repeat first|exact z_0|assumption|refine z_1 ?_);done)|refine z_r ?_);done)) (hxo (((i + j) / 2)) xo hko) rfl ?_)
    refine xr_op rfl rfl (xv_move rfl ?_)
    refine xr_op rfl rfl (xv_fn rfl rfl (hf xo (List.mem_of_getElem? hko) _ (up_ret ?_)))
    refine xr_op rfl rfl (xv_lss2 rfl rfl (fun q2 => ?_) (fun q2 => ?_))
    · refine xr_end rfl ?_
      refine th_n ?_
      refine xc_true rfl ?_
      refine xc_region ?_
      refine xr_op rfl rfl (xv_move rfl ?_)
      refine xr_op rfl rfl (xv_add rfl rfl (wrap_i64 (by (first|omega|(dsimp only at *;omega)|(simp at *;omega))) (by (first|omega|(dsimp only at *;omega)|(simp at *;omega)))) ?_)
      refine xr_op rfl rfl (xv_assign rfl ?_)
      refine xr_end rfl ?_
      refine bk_n ?_
      exact rnd (((i + j) / 2 + 1, j) : Nat × Nat) ⟨by (first|omega|(dsimp only at *;omega)|(simp at *;omega)), by (first|omega|(dsimp only at *;omega)|(simp at *;omega)), fun q x hq hx => Decidable.byContradiction fun hc => by have h9 := hmn q ((i + j) / 2) x xo (by dsimp only at hq; omega) hx hko (by omega); omega, hhi⟩ (by (first|omega|(dsimp only at *;omega)|(simp at *;omega))) (le_put (le_put (le_put (le_put (le_put (le_put (le_emp _) rfl) rfl) rfl) rfl) rfl) rfl) (by (first|((repeat first|exact s_0|exact s_1|exact s_3|refine s_4 ?_|refine s_5 ?_|refine s_6 ?_|refine s_7 ?_);done)|((repeat first|exact s_0|exact s_1|exact s_3|refine s_4 ?_|refine s_5 ?_|refine s_6 ?_|refine s_8 ?_);done)))
    · refine xr_end rfl ?_
      refine th_n ?_
      refine xc_false rfl ?_
      refine xc_region ?_
      refine xr_op rfl rfl (xv_move rfl ?_)
      refine xr_op rfl rfl (xv_assign rfl ?_)
      refine xr_end rfl ?_
      refine bk_n ?_
      exact rnd ((i, (i + j) / 2) : Nat × Nat) ⟨by (first|omega|(dsimp only at *;omega)|(simp at *;omega)), by (first|omega|(dsimp only at *;omega)|(simp at *;omega)), hlo, fun q x hq hx => hmn ((i + j) / 2) q xo x hq hko hx (by omega)⟩ (by (first|omega|(dsimp only at *;omega)|(simp at *;omega))) (le_put (le_put (le_put (le_put (le_put (le_put (le_emp _) rfl) rfl) rfl) rfl) rfl) rfl) (by (first|((repeat first|exact s_0|exact s_1|exact s_3|refine s_4 ?_|refine s_5 ?_|refine s_6 ?_|refine s_7 ?_);done)|((repeat first|exact s_0|exact s_1|exact s_3|refine s_4 ?_|refine s_5 ?_|refine s_6 ?_|refine s_8 ?_);done)))
  · refine xr_end rfl ?_
    refine th_n ?_
    refine xc_false rfl ?_
    refine xc_exit ?_
    refine th_x ?_
    refine th_x ?_
    refine bk_same ?_
    refine th_n ?_
    refine xc_seq (xc_region ?_)
    obtain rfl : i = j := by (first|omega|(dsimp only at *;omega)|(simp at *;omega))
    refine xr_op rfl rfl (xv_move rfl ?_)
    refine xr_op rfl rfl (xv_move rfl ?_)
    refine xr_op rfl rfl (xv_move rfl ?_)
    refine xr_op rfl rfl (xv_lss2 rfl rfl (fun q3 => ?_) (fun q3 => ?_))
    · refine xr_op rfl rfl (xv_move rfl ?_)
      refine xr_gd rfl rfl rfl (xv_move rfl ?_)
      refine xr_gd rfl rfl rfl (xv_move rfl ?_)
      refine xr_gd rfl rfl rfl (xv_move rfl ?_)
      have hlto : i < xs.length := by (first|omega|(dsimp only at *;omega)|(simp at *;omega))
      obtain ⟨bo, oo, lo, to, fzo, hao, hmo, hxo⟩ := (hl).at hlto
      obtain ⟨xo, hko⟩ : ∃ qq_, xs[i]? = some qq_ := ⟨_, List.getElem?_eq_getElem hlto⟩
      refine xr_gd rfl rfl rfl (xv_ia (sz := 2) (j := i) sl22 ty54 rfl (by rw [hao]; rfl) rfl (by (first | assumption | with_reducible exact Int.toNat_natCast _ | with_reducible rfl | rfl)) (by (first|omega|(dsimp only at *;omega)|(simp at *;omega))) (by (first|omega|(dsimp only at *;omega)|(simp at *;omega))) ?_)
      refine xr_gd rfl rfl rfl (xv_loadA ty54 rfl rfl (by ((repeat first|exact z_0|assumption|refine z_1 ?_|(refine z_l ?_;(repeat first|exact z_0|assumption|refine z_1 ?_);done)|refine z_r ?_);done)) (hxo (i) xo hko) rfl ?_)
      refine xr_gd rfl rfl rfl (xv_move rfl ?_)
      refine xr_gd rfl rfl rfl (xv_fn rfl rfl (hf xo (List.mem_of_getElem? hko) _ (up_ret ?_)))
      refine xr_gd rfl rfl rfl (xv_eql2 rfl rfl (fun q4 => ?_) (fun q4 => ?_))
      · refine xr_op rfl rfl (xv_pick rfl rfl ?_)
        refine xr_op rfl rfl (xv_assign rfl ?_)
        refine xr_op rfl rfl (xv_assign rfl ?_)
        refine xr_end rfl ?_
        refine th_n ?_
        refine xc_ret ?_
        refine body_ret (h' := h) rfl (ro_tmp rfl (ro_tmp rfl ro_nil)) (by (first|((repeat first|exact s_0|exact s_1|exact s_3|refine s_4 ?_|refine s_5 ?_|refine s_6 ?_|refine s_7 ?_);done)|((repeat first|exact s_0|exact s_1|exact s_3|refine s_4 ?_|refine s_5 ?_|refine s_6 ?_|refine s_8 ?_);done))) ?_
        first | exact H1 i xo hko (by (first|omega|(dsimp only at *;omega)|(simp at *;omega))) | exact H2 i hjl hlo hhi (fun x hx => by rw [hko] at hx; cases hx; assumption) | exact H2 i hjl hlo hhi (fun x hx => absurd (List.getElem?_eq_some_iff.1 hx).1 (by (first|omega|(dsimp only at *;omega)|(simp at *;omega))))
      · refine xr_op rfl rfl (xv_pick rfl rfl ?_)
        refine xr_op rfl rfl (xv_assign rfl ?_)
        refine xr_op rfl rfl (xv_assign rfl ?_)
        refine xr_end rfl ?_
        refine th_n ?_
        refine xc_ret ?_
        refine body_ret (h' := h) rfl (ro_tmp rfl (ro_tmp rfl ro_nil)) (by (first|((repeat first|exact s_0|exact s_1|exact s_3|refine s_4 ?_|refine s_5 ?_|refine s_6 ?_|refine s_7 ?_);done)|((repeat first|exact s_0|exact s_1|exact s_3|refine s_4 ?_|refine s_5 ?_|refine s_6 ?_|refine s_8 ?_);done))) ?_
        first | exact H1 i xo hko (by (first|omega|(dsimp only at *;omega)|(simp at *;omega))) | exact H2 i hjl hlo hhi (fun x hx => by rw [hko] at hx; cases hx; assumption) | exact H2 i hjl hlo hhi (fun x hx => absurd (List.getElem?_eq_some_iff.1 hx).1 (by (first|omega|(dsimp only at *;omega)|(simp at *;omega))))
    · refine xr_op rfl rfl (xv_move rfl ?_)
      refine xr_no rfl rfl rfl rfl ?_
      refine xr_no rfl rfl rfl rfl ?_
      refine xr_no rfl rfl rfl rfl ?_
      refine xr_no rfl rfl rfl rfl ?_
      refine xr_no rfl rfl rfl rfl ?_
      refine xr_no rfl rfl rfl rfl ?_
      refine xr_no rfl rfl rfl rfl ?_
      refine xr_no rfl rfl rfl rfl ?_
      refine xr_op rfl rfl (xv_pick rfl rfl ?_)
      refine xr_op rfl rfl (xv_assign rfl ?_)
      refine xr_op rfl rfl (xv_assign rfl ?_)
      refine xr_end rfl ?_
      refine th_n ?_
      refine xc_ret ?_
      refine body_ret (h' := h) rfl (ro_tmp rfl (ro_tmp rfl ro_nil)) (by (first|((repeat first|exact s_0|exact s_1|exact s_3|refine s_4 ?_|refine s_5 ?_|refine s_6 ?_|refine s_7 ?_);done)|((repeat first|exact s_0|exact s_1|exact s_3|refine s_4 ?_|refine s_5 ?_|refine s_6 ?_|refine s_8 ?_);done))) ?_
      first | exact H1 i xo hko (by (first|omega|(dsimp only at *;omega)|(simp at *;omega))) | exact H2 i hjl hlo hhi (fun x hx => by rw [hko] at hx; cases hx; assumption) | exact H2 i hjl hlo hhi (fun x hx => absurd (List.getElem?_eq_some_iff.1 hx).1 (by (first|omega|(dsimp only at *;omega)|(simp at *;omega))))

theorem force_c {s : Slot} {b : Nat} {ma : Option Addr} {mc : Nat} {h : Hp} {R : Ending → Hp → Prop} (hm : (b, .cells ⟨eMet s (.slice ma (dmS s).length mc)⟩ 70 (0, 0)) ∈ h) (hd : SlV h 2 eMark ma (dmS s)) (hs : SlotV h s) (hsm : Small s) (he : errS s = 0) {hour : Int} (h0 : 0 ≤ hour) (H : R (.returned (I (force s.tars hour : Int))) h) : ACalls Try.prog 36 ⟨[.pointer (some ⟨b, 0, none⟩), I hour]⟩ h R := by
  refine calls_of_xc (N := 22) Try.func36 rfl (by rfl) ?_
  obtain ⟨hsl9, hsk⟩ := id hsm
  obtain ⟨hgs, htw, hcr⟩ := errS_0 he
  obtain ⟨⟨hn1, hn2⟩, ⟨hn3, hn4⟩, ⟨hn5, hn6⟩, hn7, hn8⟩ := id hgs.1
  obtain ⟨⟨hz1, hz2⟩, hz3⟩ := id hgs.2.1
  have hdl := dm_len hz3
  refine xc_seq (xc_region ?_)
  refine xr_op rfl rfl (xv_assign rfl ?_)
  refine xr_end rfl ?_
  refine th_n ?_
  refine xc_seq (xc_region ?_)
  refine xr_op rfl rfl (xv_move rfl ?_)
  refine xr_op rfl rfl (xv_nilp rfl ?_)
  refine xr_op rfl rfl (xv_faddr fl70_0 rfl ?_)
  refine xr_op rfl rfl (xv_faddr fl25_4 rfl ?_)
  refine xr_op rfl rfl (xv_load1 ty22 rfl rfl (by ((repeat first|exact z_0|assumption|refine z_1 ?_|(refine z_l ?_;(repeat first|exact z_0|assumption|refine z_1 ?_);done)|refine z_r ?_);done)) (by rfl) ?_)
  refine xr_op rfl rfl (xv_move rfl ?_)
  refine xr_op rfl rfl (xv_calls rfl hb55 (bsearch_c (hs.tars.sub (by intro z hz; ((repeat first|exact z_0|assumption|refine z_1 ?_|(refine z_l ?_;(repeat first|exact z_0|assumption|refine z_1 ?_);done)|refine z_r ?_);done))) hsl9 (fun x hx R9 hR => afn_func hb56 (byFrom_c hR)) (bs_mono hgs hour) (fun i x hx hc => up_ret ?_) (fun i hi h1 h2 h3 => up_ret ?_)))
  · refine xr_op rfl rfl (xv_move rfl ?_)
    refine xr_op rfl rfl (xv_extract rfl rfl ?_)
    refine xr_op rfl rfl (xv_extract rfl rfl ?_)
    refine xr_op rfl rfl (xv_assign rfl ?_)
    refine xr_op rfl rfl (xv_assign rfl ?_)
    refine xr_end rfl ?_
    refine th_n ?_
    refine xc_seq ?_
    refine xc_seq (xc_region ?_)
    refine xr_op rfl rfl (xv_move rfl ?_)
    refine xr_op rfl rfl (xv_not rfl ?_)
    refine xr_end rfl ?_
    refine th_n ?_
    refine xc_false rfl ?_
    refine xc_skip ?_
    refine th_n ?_
    refine xc_seq (xc_region ?_)
    refine xr_op rfl rfl (xv_move rfl ?_)
    refine xr_op rfl rfl (xv_assign rfl ?_)
    refine xr_end rfl ?_
    refine th_n ?_
    refine xc_ret ?_
    refine body_ret (h' := h) rfl (ro_tmp rfl ro_nil) (by (first|((repeat first|exact s_0|exact s_1|exact s_3|refine s_4 ?_|refine s_5 ?_|refine s_6 ?_|refine s_7 ?_);done)|((repeat first|exact s_0|exact s_1|exact s_3|refine s_4 ?_|refine s_5 ?_|refine s_6 ?_|refine s_8 ?_);done))) ?_
    first | (rw [bs_found hgs hx hc] at H; exact H) | (rw [hfo, show ((i - 1 : Nat) : Int) = (i : Int) - 1 by omega] at H; exact H)
  · refine xr_op rfl rfl (xv_move rfl ?_)
    refine xr_op rfl rfl (xv_extract rfl rfl ?_)
    refine xr_op rfl rfl (xv_extract rfl rfl ?_)
    refine xr_op rfl rfl (xv_assign rfl ?_)
    refine xr_op rfl rfl (xv_assign rfl ?_)
    refine xr_end rfl ?_
    refine th_n ?_
    refine xc_seq ?_
    refine xc_seq (xc_region ?_)
    refine xr_op rfl rfl (xv_move rfl ?_)
    refine xr_op rfl rfl (xv_not rfl ?_)
    refine xr_end rfl ?_
    refine th_n ?_
    refine xc_true rfl ?_
    refine xc_region ?_
    obtain ⟨hi1, hfo⟩ := bs_not hgs h0 hi h1 h2 h3
    refine xr_op rfl rfl (xv_move rfl ?_)
    refine xr_op rfl rfl (xv_sub rfl rfl (wrap_i64 (by (first|omega|(dsimp only at *;omega)|(simp at *;omega))) (by (first|omega|(dsimp only at *;omega)|(simp at *;omega)))) ?_)
    refine xr_op rfl rfl (xv_assign rfl ?_)
    refine xr_end rfl ?_
    refine th_n ?_
    refine xc_seq (xc_region ?_)
    refine xr_op rfl rfl (xv_move rfl ?_)
    refine xr_op rfl rfl (xv_assign rfl ?_)
    refine xr_end rfl ?_
    refine th_n ?_
    refine xc_ret ?_
    refine body_ret (h' := h) rfl (ro_tmp rfl ro_nil) (by (first|((repeat first|exact s_0|exact s_1|exact s_3|refine s_4 ?_|refine s_5 ?_|refine s_6 ?_|refine s_7 ?_);done)|((repeat first|exact s_0|exact s_1|exact s_3|refine s_4 ?_|refine s_5 ?_|refine s_6 ?_|refine s_8 ?_);done))) ?_
    first | (rw [bs_found hgs hx hc] at H; exact H) | (rw [hfo, show ((i - 1 : Nat) : Int) = (i : Int) - 1 by omega] at H; exact H)

theorem end2_c {s : Slot} {b : Nat} {ma : Option Addr} {mc : Nat} {h : Hp} {R : Ending → Hp → Prop} (hm : (b, .cells ⟨eMet s (.slice ma (dmS s).length mc)⟩ 70 (0, 0)) ∈ h) (hd : SlV h 2 eMark ma (dmS s)) (hs : SlotV h s) (hsm : Small s) (he : errS s = 0) {k : Nat} (hk : k < s.tars.length) (H : R (.returned (I (endT s k))) h) : ACalls Try.prog 81 ⟨[.pointer (some ⟨b, 0, none⟩), I k]⟩ h R := by
  refine calls_of_xc (N := 30) Try.func81 rfl (by rfl) ?_
  obtain ⟨hsl9, hsk⟩ := id hsm
  obtain ⟨hgs, htw, hcr⟩ := errS_0 he
  obtain ⟨⟨hn1, hn2⟩, ⟨hn3, hn4⟩, ⟨hn5, hn6⟩, hn7, hn8⟩ := id hgs.1
  obtain ⟨⟨hz1, hz2⟩, hz3⟩ := id hgs.2.1
  have hdl := dm_len hz3
  refine xc_seq (xc_region ?_)
  refine xr_op rfl rfl (xv_assign rfl ?_)
  refine xr_end rfl ?_
  refine th_n ?_
  refine xc_seq ?_
  refine xc_seq (xc_region ?_)
  refine xr_op rfl rfl (xv_move rfl ?_)
  refine xr_op rfl rfl (xv_add rfl rfl (wrap_i64 (by (first|omega|(dsimp only at *;omega)|(simp at *;omega))) (by (first|omega|(dsimp only at *;omega)|(simp at *;omega)))) ?_)
  refine xr_op rfl rfl (xv_move rfl ?_)
  refine xr_op rfl rfl (xv_nilp rfl ?_)
  refine xr_op rfl rfl (xv_faddr fl70_0 rfl ?_)
  refine xr_op rfl rfl (xv_faddr fl25_4 rfl ?_)
  refine xr_op rfl rfl (xv_load1 ty22 rfl rfl (by ((repeat first|exact z_0|assumption|refine z_1 ?_|(refine z_l ?_;(repeat first|exact z_0|assumption|refine z_1 ?_);done)|refine z_r ?_);done)) (by rfl) ?_)
  refine xr_op rfl rfl (xv_len sl22 rfl ?_)
  refine xr_op rfl rfl (xv_lss2 rfl rfl (fun q1 => ?_) (fun q1 => ?_))
  · refine xr_end rfl ?_
    refine th_n ?_
    refine xc_true rfl ?_
    refine xc_seq (xc_region ?_)
    refine xr_op rfl rfl (xv_move rfl ?_)
    refine xr_op rfl rfl (xv_nilp rfl ?_)
    refine xr_op rfl rfl (xv_faddr fl70_0 rfl ?_)
    refine xr_op rfl rfl (xv_faddr fl25_4 rfl ?_)
    refine xr_op rfl rfl (xv_load1 ty22 rfl rfl (by ((repeat first|exact z_0|assumption|refine z_1 ?_|(refine z_l ?_;(repeat first|exact z_0|assumption|refine z_1 ?_);done)|refine z_r ?_);done)) (by rfl) ?_)
    refine xr_op rfl rfl (xv_move rfl ?_)
    refine xr_op rfl rfl (xv_add rfl rfl (wrap_i64 (by (first|omega|(dsimp only at *;omega)|(simp at *;omega))) (by (first|omega|(dsimp only at *;omega)|(simp at *;omega)))) ?_)
    have hltp : (k + 1) < s.tars.length := by (first|omega|(dsimp only at *;omega)|(simp at *;omega))
    obtain ⟨bp, op, lp, tp, fzp, hap, hmp, hxp⟩ := (hs.tars).at hltp
    obtain ⟨xp, hkp⟩ : ∃ qq_, s.tars[(k + 1)]? = some qq_ := ⟨_, List.getElem?_eq_getElem hltp⟩
    have hfb := frm_bd hgs hkp
    refine xr_op rfl rfl (xv_ia (sz := 2) (j := (k + 1)) sl22 ty54 rfl (by rw [hap]; rfl) rfl (by omega) (by (first|omega|(dsimp only at *;omega)|(simp at *;omega))) (by (first|omega|(dsimp only at *;omega)|(simp at *;omega))) ?_)
    refine xr_op rfl rfl (xv_faddr fl54_0 rfl ?_)
    refine xr_op rfl rfl (xv_load1 ty3 rfl rfl (by ((repeat first|exact z_0|assumption|refine z_1 ?_|(refine z_l ?_;(repeat first|exact z_0|assumption|refine z_1 ?_);done)|refine z_r ?_);done)) (take_get (hxp ((k + 1)) xp hkp) (j := 0) rfl) ?_)
    refine xr_op rfl rfl (xv_sub rfl rfl (wrap_i64 (by (first|omega|(dsimp only at *;omega)|(simp at *;omega))) (by (first|omega|(dsimp only at *;omega)|(simp at *;omega)))) ?_)
    refine xr_op rfl rfl (xv_assign rfl ?_)
    refine xr_end rfl ?_
    refine th_n ?_
    refine xc_ret ?_
    refine th_r ?_
    refine body_ret (h' := h) rfl (ro_tmp rfl ro_nil) (by (first|((repeat first|exact s_0|exact s_1|exact s_3|refine s_4 ?_|refine s_5 ?_|refine s_6 ?_|refine s_7 ?_);done)|((repeat first|exact s_0|exact s_1|exact s_3|refine s_4 ?_|refine s_5 ?_|refine s_6 ?_|refine s_8 ?_);done))) ?_
    first | (rw [endT_p hkp] at H; exact H) | (rw [endT_n (by (first|omega|(dsimp only at *;omega)|(simp at *;omega)))] at H; exact H)
  · refine xr_end rfl ?_
    refine th_n ?_
    refine xc_false rfl ?_
    refine xc_skip ?_
    refine th_n ?_
    refine xc_seq (xc_region ?_)
    refine xr_op rfl rfl (xv_move rfl ?_)
    refine xr_op rfl rfl (xv_nilp rfl ?_)
    refine xr_op rfl rfl (xv_faddr fl70_0 rfl ?_)
    refine xr_op rfl rfl (xv_faddr fl25_3 rfl ?_)
    refine xr_op rfl rfl (xv_load1 ty3 rfl rfl (by ((repeat first|exact z_0|assumption|refine z_1 ?_|(refine z_l ?_;(repeat first|exact z_0|assumption|refine z_1 ?_);done)|refine z_r ?_);done)) (by rfl) ?_)
    refine xr_op rfl rfl (xv_assign rfl ?_)
    refine xr_end rfl ?_
    refine th_n ?_
    refine xc_ret ?_
    refine body_ret (h' := h) rfl (ro_tmp rfl ro_nil) (by (first|((repeat first|exact s_0|exact s_1|exact s_3|refine s_4 ?_|refine s_5 ?_|refine s_6 ?_|refine s_7 ?_);done)|((repeat first|exact s_0|exact s_1|exact s_3|refine s_4 ?_|refine s_5 ?_|refine s_6 ?_|refine s_8 ?_);done))) ?_
    first | (rw [endT_p hkp] at H; exact H) | (rw [endT_n (by (first|omega|(dsimp only at *;omega)|(simp at *;omega)))] at H; exact H)

theorem pcredit_c {s : Slot} {b : Nat} {ma : Option Addr} {mc : Nat} {h : Hp} {R : Ending → Hp → Prop} (hm : (b, .cells ⟨eMet s (.slice ma (dmS s).length mc)⟩ 70 (0, 0)) ∈ h) (hd : SlV h 2 eMark ma (dmS s)) (hs : SlotV h s) (hsm : Small s) (he : errS s = 0) {bo : Int} (hbo : 0 ≤ bo ∧ bo ≤ 1000000000000) (H : R (.returned (.agg ⟨eSpan (creditA s bo)⟩)) h) : ACalls Try.prog 37 ⟨[.pointer (some ⟨b, 0, none⟩), I bo]⟩ h R := by
  refine calls_of_xc (N := 63) Try.func37 rfl (by rfl) ?_
  obtain ⟨hsl9, hsk⟩ := id hsm
  obtain ⟨hgs, htw, hcr⟩ := errS_0 he
  obtain ⟨⟨hn1, hn2⟩, ⟨hn3, hn4⟩, ⟨hn5, hn6⟩, hn7, hn8⟩ := id hgs.1
  obtain ⟨⟨hz1, hz2⟩, hz3⟩ := id hgs.2.1
  have hdl := dm_len hz3
  have hlb := lastM_bd hgs
  refine xc_seq (xc_region ?_)
  refine xr_op rfl rfl (xv_alloc ty30 (fun b4 hb4 => ?_))
  refine xr_end rfl ?_
  refine th_n ?_
  refine xc_seq (xc_region ?_)
  refine xr_op rfl rfl (xv_move rfl ?_)
  refine xr_op rfl rfl (xv_nilp rfl ?_)
  refine xr_op rfl rfl (xv_faddr fl70_0 rfl ?_)
  refine xr_op rfl rfl (xv_faddr fl25_0 rfl ?_)
  refine xr_op rfl rfl (xv_load1 ty3 rfl rfl (by ((repeat first|exact z_0|assumption|refine z_1 ?_|(refine z_l ?_;(repeat first|exact z_0|assumption|refine z_1 ?_);done)|refine z_r ?_);done)) (by rfl) ?_)
  refine xr_op rfl rfl (xv_move rfl ?_)
  refine xr_op rfl rfl (xv_add rfl rfl (wrap_i64 (by (first|omega|(dsimp only at *;omega)|(simp at *;omega))) (by (first|omega|(dsimp only at *;omega)|(simp at *;omega)))) ?_)
  refine xr_op rfl rfl (xv_assign rfl ?_)
  refine xr_end rfl ?_
  refine th_n ?_
  refine xc_seq ?_
  refine xc_seq (xc_region ?_)
  refine xr_op rfl rfl (xv_move rfl ?_)
  refine xr_op rfl rfl (xv_nilp rfl ?_)
  refine xr_op rfl rfl (xv_faddr fl70_1 rfl ?_)
  refine xr_op rfl rfl (xv_load1 ty23 rfl rfl (by ((repeat first|exact z_0|assumption|refine z_1 ?_|(refine z_l ?_;(repeat first|exact z_0|assumption|refine z_1 ?_);done)|refine z_r ?_);done)) (by rfl) ?_)
  refine xr_op rfl rfl (xv_len sl23 rfl ?_)
  refine xr_op rfl rfl (xv_eql2 rfl rfl (fun q1 => ?_) (fun q1 => ?_))
  · refine xr_end rfl ?_
    refine th_n ?_
    refine xc_true rfl ?_
    refine xc_seq (xc_region ?_)
    have hlm := lastD_0 (s := s) (by (first|omega|(dsimp only at *;omega)|(simp at *;omega)))
    refine xr_op rfl rfl (xv_move rfl ?_)
    refine xr_op rfl rfl (xv_nilp rfl ?_)
    refine xr_op rfl rfl (xv_faddr fl70_0 rfl ?_)
    refine xr_op rfl rfl (xv_faddr fl25_1 rfl ?_)
    refine xr_op rfl rfl (xv_load1 ty3 rfl rfl (by ((repeat first|exact z_0|assumption|refine z_1 ?_|(refine z_l ?_;(repeat first|exact z_0|assumption|refine z_1 ?_);done)|refine z_r ?_);done)) (by rfl) ?_)
    refine xr_op rfl rfl (xv_move rfl ?_)
    refine xr_op rfl rfl (xv_min rfl rfl rfl ?_)
    refine xr_op rfl rfl (xv_build bt30 rfl (by ((try apply evl_some rfl);(repeat (first|exact (rfl : _ = [])|apply evl_cons rfl (by (first|exact v_1|exact v_2|exact v_3|exact v_4|exact v_5|exact v_6|exact v_7|exact v_8|exact v_9|exact rfl))|exact rfl)))) ?_)
    refine xr_op rfl rfl (xv_s ty30 rfl rfl (by (first|(apply u_3;(repeat first|exact u_0|assumption|apply u_1|apply u_2);done)|((repeat first|exact u_0|assumption|apply u_1|apply u_2);done)|(apply u_3;apply u_3;(repeat first|exact u_0|assumption|apply u_1|apply u_2);done)|((repeat first|exact u_0|assumption|apply u_3|apply u_1);done))) (by ((try apply evl_some rfl);(repeat (first|exact (rfl : _ = [])|apply evl_cons rfl (by (first|exact v_1|exact v_2|exact v_3|exact v_4|exact v_5|exact v_6|exact v_7|exact v_8|exact v_9|exact rfl))|exact rfl)))) (by rfl) (by rfl) (by rfl) (by ((try apply evl_some rfl);(repeat (first|exact (rfl : _ = [])|apply evl_cons rfl (by (first|exact v_1|exact v_2|exact v_3|exact v_4|exact v_5|exact v_6|exact v_7|exact v_8|exact v_9|exact rfl))|exact rfl)))) ?_)
    refine xr_end rfl ?_
    refine th_n ?_
    refine xc_ret ?_
    refine th_r ?_
    refine body_ret (h' := h) rfl (ro_cellA ty30 rfl rfl (by ((repeat first|exact z_0|assumption|refine z_1 ?_|(refine z_l ?_;(repeat first|exact z_0|assumption|refine z_1 ?_);done)|refine z_r ?_);done)) (by rfl) (by rfl) ro_nil) (by (first|((repeat first|exact s_0|exact s_1|exact s_3|refine s_4 ?_|refine s_5 ?_|refine s_6 ?_|refine s_7 ?_);done)|((repeat first|exact s_0|exact s_1|exact s_3|refine s_4 ?_|refine s_5 ?_|refine s_6 ?_|refine s_8 ?_);done))) ?_
    (rw [creditA_f (by rw [hlm]), hlm] at H; simp only [Int.sub_zero] at H; exact H)
  · refine xr_end rfl ?_
    refine th_n ?_
    refine xc_false rfl ?_
    refine xc_skip ?_
    refine th_n ?_
    refine xc_seq ?_
    refine xc_draw0 [(0, .S), (1, .S), (2, .S), (3, .R), (4, .S), (5, .S), (6, .S), (7, .R), (8, .S), (9, .S), (10, .S), (11, .R), (12, .P), (12, .A), (13, .O)] mixed (by kernel_rfl) ?_
    refine js_S rfl rfl (.inl rfl) (xv_move rfl ⟨rfl, rfl⟩) ?_
    refine js_S rfl rfl (.inl rfl) (xv_nilp rfl ⟨rfl, rfl⟩) ?_
    refine js_S rfl rfl (.inl rfl) (xv_faddr fl70_1 rfl ⟨rfl, rfl⟩) ?_
    refine js_R0 rfl rfl (.inl rfl) (xv_load1 ty23 rfl rfl (by ((repeat first|exact z_0|assumption|refine z_1 ?_|(refine z_l ?_;(repeat first|exact z_0|assumption|refine z_1 ?_);done)|refine z_r ?_);done)) (by rfl) ⟨rfl, rfl⟩) ?_
    refine js_S rfl rfl (.inl rfl) (xv_move rfl ⟨rfl, rfl⟩) ?_
    refine js_S rfl rfl (.inl rfl) (xv_nilp rfl ⟨rfl, rfl⟩) ?_
    refine js_S rfl rfl (.inl rfl) (xv_faddr fl70_1 rfl ⟨rfl, rfl⟩) ?_
    refine js_R0 rfl rfl (.inl rfl) (xv_load1 ty23 rfl rfl (by ((repeat first|exact z_0|assumption|refine z_1 ?_|(refine z_l ?_;(repeat first|exact z_0|assumption|refine z_1 ?_);done)|refine z_r ?_);done)) (by rfl) ⟨rfl, rfl⟩) ?_
    refine js_S rfl rfl (.inl rfl) (xv_len sl23 rfl ⟨rfl, rfl⟩) ?_
    refine js_S rfl rfl (.inl rfl) (xv_sub rfl rfl (wrap_i64 (by (first|omega|(dsimp only at *;omega)|(simp at *;omega))) (by (first|omega|(dsimp only at *;omega)|(simp at *;omega)))) ⟨rfl, rfl⟩) ?_
    have hltp : ((dmS s).length - 1) < (dmS s).length := by (first|omega|(dsimp only at *;omega)|(simp at *;omega))
    obtain ⟨bp, op, lp, tp, fzp, hap, hmp, hxp⟩ := (hd).at hltp
    obtain ⟨xp, hkp⟩ : ∃ qq_, (dmS s)[((dmS s).length - 1)]? = some qq_ := ⟨_, List.getElem?_eq_getElem hltp⟩
    have hlm := lastD_p hkp
    have hpb := dm_bd he (List.mem_of_getElem? hkp)
    obtain ⟨⟨hp1, hp2⟩, hp3, hp4⟩ := id hpb
    refine js_S rfl rfl (.inl rfl) (xv_ia (sz := 2) (j := ((dmS s).length - 1)) sl23 ty42 rfl (by rw [hap]; rfl) rfl (by omega) (by (first|omega|(dsimp only at *;omega)|(simp at *;omega))) (by (first|omega|(dsimp only at *;omega)|(simp at *;omega))) ⟨rfl, rfl⟩) ?_
    refine js_R0 rfl rfl (.inl rfl) (xv_loadA ty42 rfl rfl (by ((repeat first|exact z_0|assumption|refine z_1 ?_|(refine z_l ?_;(repeat first|exact z_0|assumption|refine z_1 ?_);done)|refine z_r ?_);done)) (hxp (((dmS s).length - 1)) xp hkp) rfl ⟨rfl, rfl⟩) ?_
    refine js_P rfl rfl rfl (al_alloc ty42) ?_
    refine js_A0 rfl rfl rfl rfl rfl trivial (fun b6 hb6 => ?_)
    refine js_O0 rfl rfl (.inl rfl) (xv_s ty42 rfl rfl (by (first|(apply u_3;(repeat first|exact u_0|assumption|apply u_1|apply u_2);done)|((repeat first|exact u_0|assumption|apply u_1|apply u_2);done)|(apply u_3;apply u_3;(repeat first|exact u_0|assumption|apply u_1|apply u_2);done)|((repeat first|exact u_0|assumption|apply u_3|apply u_1);done))) (by ((try apply evl_some rfl);(repeat (first|exact (rfl : _ = [])|apply evl_cons rfl (by (first|exact v_1|exact v_2|exact v_3|exact v_4|exact v_5|exact v_6|exact v_7|exact v_8|exact v_9|exact rfl))|exact rfl)))) (by rfl) (by rfl) (by rfl) (by ((try apply evl_some rfl);(repeat (first|exact (rfl : _ = [])|apply evl_cons rfl (by (first|exact v_1|exact v_2|exact v_3|exact v_4|exact v_5|exact v_6|exact v_7|exact v_8|exact v_9|exact rfl))|exact rfl)))) ?_)
    refine j_end0 ?_
    refine th_n ?_
    refine xc_seq ?_
    refine xc_seq (xc_region ?_)
    refine xr_op rfl rfl (xv_move rfl ?_)
    refine xr_op rfl rfl (xv_faddr fl42_1 rfl ?_)
    refine xr_op rfl rfl (xv_load1 ty3 rfl rfl (by ((repeat first|exact z_0|assumption|refine z_1 ?_|(refine z_l ?_;(repeat first|exact z_0|assumption|refine z_1 ?_);done)|refine z_r ?_);done)) (by rfl) ?_)
    refine xr_op rfl rfl (xv_sub rfl rfl (wrap_i64 (by (first|omega|(dsimp only at *;omega)|(simp at *;omega))) (by (first|omega|(dsimp only at *;omega)|(simp at *;omega)))) ?_)
    refine xr_op rfl rfl (xv_assign rfl ?_)
    refine xr_end rfl ?_
    refine th_n ?_
    refine xc_seq ?_
    refine xc_draw0 [(0, .S), (1, .R), (2, .S), (3, .S), (4, .S), (5, .S), (6, .R), (7, .O)] mixed (by kernel_rfl) ?_
    refine js_S rfl rfl (.inl rfl) (xv_faddr fl42_0 rfl ⟨rfl, rfl⟩) ?_
    refine js_R0 rfl rfl (.inl rfl) (xv_load1 ty3 rfl rfl (by ((repeat first|exact z_0|assumption|refine z_1 ?_|(refine z_l ?_;(repeat first|exact z_0|assumption|refine z_1 ?_);done)|refine z_r ?_);done)) (by rfl) ⟨rfl, rfl⟩) ?_
    refine js_S rfl rfl (.inl rfl) (xv_move rfl ⟨rfl, rfl⟩) ?_
    refine js_S rfl rfl (.inl rfl) (xv_nilp rfl ⟨rfl, rfl⟩) ?_
    refine js_S rfl rfl (.inl rfl) (xv_faddr fl70_0 rfl ⟨rfl, rfl⟩) ?_
    refine js_S rfl rfl (.inl rfl) (xv_faddr fl25_3 rfl ⟨rfl, rfl⟩) ?_
    refine js_R0 rfl rfl (.inl rfl) (xv_load1 ty3 rfl rfl (by ((repeat first|exact z_0|assumption|refine z_1 ?_|(refine z_l ?_;(repeat first|exact z_0|assumption|refine z_1 ?_);done)|refine z_r ?_);done)) (by rfl) ⟨rfl, rfl⟩) ?_
    refine js_O0 rfl rfl (.inl rfl) (xv_eql2 rfl rfl (fun hq => ?_) (fun hq => ?_))
    · refine j_end0 ?_
      refine th_n ?_
      refine xc_true rfl ?_
      refine xc_seq (xc_region ?_)
      refine xr_op rfl rfl (xv_move rfl ?_)
      refine xr_op rfl rfl (xv_move rfl ?_)
      refine xr_op rfl rfl (xv_build bt30 rfl (by ((try apply evl_some rfl);(repeat (first|exact (rfl : _ = [])|apply evl_cons rfl (by (first|exact v_1|exact v_2|exact v_3|exact v_4|exact v_5|exact v_6|exact v_7|exact v_8|exact v_9|exact rfl))|exact rfl)))) ?_)
      refine xr_op rfl rfl (xv_s ty30 rfl rfl (by (first|(apply u_3;(repeat first|exact u_0|assumption|apply u_1|apply u_2);done)|((repeat first|exact u_0|assumption|apply u_1|apply u_2);done)|(apply u_3;apply u_3;(repeat first|exact u_0|assumption|apply u_1|apply u_2);done)|((repeat first|exact u_0|assumption|apply u_3|apply u_1);done))) (by ((try apply evl_some rfl);(repeat (first|exact (rfl : _ = [])|apply evl_cons rfl (by (first|exact v_1|exact v_2|exact v_3|exact v_4|exact v_5|exact v_6|exact v_7|exact v_8|exact v_9|exact rfl))|exact rfl)))) (by rfl) (by rfl) (by rfl) (by ((try apply evl_some rfl);(repeat (first|exact (rfl : _ = [])|apply evl_cons rfl (by (first|exact v_1|exact v_2|exact v_3|exact v_4|exact v_5|exact v_6|exact v_7|exact v_8|exact v_9|exact rfl))|exact rfl)))) ?_)
      refine xr_end rfl ?_
      refine th_n ?_
      refine xc_ret ?_
      refine th_r ?_
      refine body_ret (h' := h) rfl (ro_cellA ty30 rfl rfl (by ((repeat first|exact z_0|assumption|refine z_1 ?_|(refine z_l ?_;(repeat first|exact z_0|assumption|refine z_1 ?_);done)|refine z_r ?_);done)) (by rfl) (by rfl) ro_nil) (by (first|((repeat first|exact s_0|exact s_1|exact s_3|refine s_4 ?_|refine s_5 ?_|refine s_6 ?_|refine s_7 ?_);done)|((repeat first|exact s_0|exact s_1|exact s_3|refine s_4 ?_|refine s_5 ?_|refine s_6 ?_|refine s_8 ?_);done))) ?_
      (rw [creditA_t (by rw [hlm]; exact decide_eq_true (by (first|omega|(dsimp only at *;omega)|(simp at *;omega)))), hlm] at H; exact H)
    · refine j_end0 ?_
      refine th_n ?_
      refine xc_false rfl ?_
      refine xc_skip ?_
      refine th_n ?_
      refine xc_seq (xc_region ?_)
      refine xr_op rfl rfl (xv_move rfl ?_)
      refine xr_op rfl rfl (xv_nilp rfl ?_)
      refine xr_op rfl rfl (xv_faddr fl70_0 rfl ?_)
      refine xr_op rfl rfl (xv_faddr fl25_1 rfl ?_)
      refine xr_op rfl rfl (xv_load1 ty3 rfl rfl (by ((repeat first|exact z_0|assumption|refine z_1 ?_|(refine z_l ?_;(repeat first|exact z_0|assumption|refine z_1 ?_);done)|refine z_r ?_);done)) (by rfl) ?_)
      refine xr_op rfl rfl (xv_move rfl ?_)
      refine xr_op rfl rfl (xv_min rfl rfl rfl ?_)
      refine xr_op rfl rfl (xv_build bt30 rfl (by ((try apply evl_some rfl);(repeat (first|exact (rfl : _ = [])|apply evl_cons rfl (by (first|exact v_1|exact v_2|exact v_3|exact v_4|exact v_5|exact v_6|exact v_7|exact v_8|exact v_9|exact rfl))|exact rfl)))) ?_)
      refine xr_op rfl rfl (xv_s ty30 rfl rfl (by (first|(apply u_3;(repeat first|exact u_0|assumption|apply u_1|apply u_2);done)|((repeat first|exact u_0|assumption|apply u_1|apply u_2);done)|(apply u_3;apply u_3;(repeat first|exact u_0|assumption|apply u_1|apply u_2);done)|((repeat first|exact u_0|assumption|apply u_3|apply u_1);done))) (by ((try apply evl_some rfl);(repeat (first|exact (rfl : _ = [])|apply evl_cons rfl (by (first|exact v_1|exact v_2|exact v_3|exact v_4|exact v_5|exact v_6|exact v_7|exact v_8|exact v_9|exact rfl))|exact rfl)))) (by rfl) (by rfl) (by rfl) (by ((try apply evl_some rfl);(repeat (first|exact (rfl : _ = [])|apply evl_cons rfl (by (first|exact v_1|exact v_2|exact v_3|exact v_4|exact v_5|exact v_6|exact v_7|exact v_8|exact v_9|exact rfl))|exact rfl)))) ?_)
      refine xr_end rfl ?_
      refine th_n ?_
      refine xc_ret ?_
      refine body_ret (h' := h) rfl (ro_cellA ty30 rfl rfl (by ((repeat first|exact z_0|assumption|refine z_1 ?_|(refine z_l ?_;(repeat first|exact z_0|assumption|refine z_1 ?_);done)|refine z_r ?_);done)) (by rfl) (by rfl) ro_nil) (by (first|((repeat first|exact s_0|exact s_1|exact s_3|refine s_4 ?_|refine s_5 ?_|refine s_6 ?_|refine s_7 ?_);done)|((repeat first|exact s_0|exact s_1|exact s_3|refine s_4 ?_|refine s_5 ?_|refine s_6 ?_|refine s_8 ?_);done))) ?_
      (rw [creditA_f (by rw [hlm]; exact decide_eq_false (by (first|omega|(dsimp only at *;omega)|(simp at *;omega)))), hlm] at H; exact H)

end Go.Proofs.Ytlcdbjgfeoagbaa

/-
  Regions whose order is open, once more: each stable read names the blocks that it relies on, and an effect keeps those of the reads that are not ahead of it.
-/
set_option linter.all false
namespace Go.H
open Go
variable {P : Program} {r : Option Nat} {N : Nat} {Q : Post} {E : Env} {D : List Deferred} {h : Hp}
variable {K : Value → Hp → Prop} {T : List PanicEntry → Hp → Prop}
abbrev LsT := List (Nat × List (Nat × (Obj → Prop)))
def lof : LsT → Nat → List (Nat × (Obj → Prop))
  | [], _ => []
  | (x, p) :: l, i => if x = i then p else lof l i
theorem lof_mem : ∀ (Ls : LsT) (i : Nat), lof Ls i = [] ∨ (i, lof Ls i) ∈ Ls
  | [], _ => .inl rfl
  | (x, p) :: l, i => by
    unfold lof
    split
    · rename_i e; subst e; exact .inr List.mem_cons_self
    · exact (lof_mem l i).imp id fun hm => List.mem_cons_of_mem _ hm
def Keep (tbl : List (List Nat)) (Ls : LsT) (y : Nat) (h : Hp) : Prop := ∀ x p, (x, p) ∈ Ls → x ∈ tbl.getD y [] ∨ Holds p h
theorem Keep.cons {tbl : List (List Nat)} {Ls : LsT} {y : Nat} {h : Hp} (z : Nat × Obj) (H : Keep tbl Ls y h) : Keep tbl Ls y (z :: h) := fun x p hm => (H x p hm).imp id fun a => a.cons z
section
variable (P : Program) (r : Option Nat) (N : Nat) (ops : Array Oper) (D : List Deferred) (Q : Post) (f : Hp) (tbl : List (List Nat)) (Ls : LsT)
def JstX (k : Kd) (i : Nat) (o : Oper) (E : Env) (G : Prom) (h : Hp) (K : Env → Prom → Hp → Prop) : Prop :=
  match k with
  | .S => (Skips ops o E ∧ K (E.put o.dst undef) G h) ∨ (Runs ops o E ∧ ∃ v, (∀ hh, Holds (lof Ls i) hh → QV P r o E (hh ++ f) v) ∧ K (E.put o.dst v) G h)
  | .R => (Skips ops o E ∧ K (E.put o.dst undef) G h) ∨ (Runs ops o E ∧ ∃ v, QV P r o E (h ++ f) v ∧ K (E.put o.dst v) G h)
  | .P => o.guard = none ∧ ∃ mk obj, AL P o E mk obj ∧ K E (G.add i ⟨mk, obj, restr o E⟩) h
  | .A => o.guard = none ∧ ∃ p, G i = some p ∧ EqOn o p.env E ∧ ∀ b, b ∉ keys (h ++ f) → K (E.put o.dst (p.val b)) G ((b, p.obj) :: h)
  | .O => (Skips ops o E ∧ K (E.put o.dst undef) G h) ∨ (Runs ops o E ∧ XV P r o (fun v h'' => ∃ h', List.Perm (h' ++ f) h'' ∧ Keep tbl Ls i h' ∧ K (E.put o.dst v) G h') (fun ch h'' => Q (.panic ch) emp D h'') E (h ++ f))
def JX : List Item → Env → Prom → Hp → Prop
  | [], E, _, h => ∃ hh, List.Perm (h ++ f) hh ∧ Q .normal E D hh
  | (i, k) :: l, E, G, h => ∃ o, ops[i]? = some o ∧ dstOk N o.dst = true ∧ JstX P r ops D Q f tbl Ls k i o E G h (JX l)
end
variable {ops : Array Oper} {f : Hp} {tbl : List (List Nat)} {Ls : LsT}
theorem JstX.mono {k : Kd} {i : Nat} {o : Oper} {G : Prom} {K K' : Env → Prom → Hp → Prop} (hk : ∀ E G h, K E G h → K' E G h) (H : JstX P r ops D Q f tbl Ls k i o E G h K) : JstX P r ops D Q f tbl Ls k i o E G h K' := by
  cases k with
  | S => exact H.imp (fun ⟨a, b⟩ => ⟨a, hk _ _ _ b⟩) (fun ⟨a, v, b, c⟩ => ⟨a, v, b, hk _ _ _ c⟩)
  | R => exact H.imp (fun ⟨a, b⟩ => ⟨a, hk _ _ _ b⟩) (fun ⟨a, v, b, c⟩ => ⟨a, v, b, hk _ _ _ c⟩)
  | P => obtain ⟨a, mk, obj, b, c⟩ := H; exact ⟨a, mk, obj, b, hk _ _ _ c⟩
  | A => obtain ⟨a, p, b, c, d⟩ := H; exact ⟨a, p, b, c, fun x hx => hk _ _ _ (d x hx)⟩
  | O => exact H.imp (fun ⟨a, b⟩ => ⟨a, hk _ _ _ b⟩) (fun ⟨a, b⟩ => ⟨a, b.mono (fun v h2 ⟨h', p, iv, c⟩ => ⟨h', p, iv, hk _ _ _ c⟩) (fun _ _ c => c)⟩)
theorem JstX.perm {k : Kd} {i : Nat} {o : Oper} {G : Prom} {K : Env → Prom → Hp → Prop} {h' : Hp} (hp : List.Perm h h') (hk : ∀ E G h h', List.Perm h h' → K E G h → K E G h') (H : JstX P r ops D Q f tbl Ls k i o E G h K) : JstX P r ops D Q f tbl Ls k i o E G h' K := by
  have hpf : List.Perm (h ++ f) (h' ++ f) := hp.append_right f
  cases k with
  | S => exact H.imp (fun ⟨a, b⟩ => ⟨a, hk _ _ _ _ hp b⟩) (fun ⟨a, v, b, c⟩ => ⟨a, v, b, hk _ _ _ _ hp c⟩)
  | R => exact H.imp (fun ⟨a, b⟩ => ⟨a, hk _ _ _ _ hp b⟩) (fun ⟨a, v, b, c⟩ => ⟨a, v, b.perm hpf, hk _ _ _ _ hp c⟩)
  | P => obtain ⟨a, mk, obj, b, c⟩ := H; exact ⟨a, mk, obj, b, hk _ _ _ _ hp c⟩
  | A =>
    obtain ⟨a, p, b, c, d⟩ := H
    refine ⟨a, p, b, c, fun x hx => hk _ _ _ _ (hp.cons _) (d x fun hm => hx ?_)⟩
    exact ((hpf.map Prod.fst).mem_iff).1 hm
  | O => exact H.imp (fun ⟨a, b⟩ => ⟨a, hk _ _ _ _ hp b⟩) (fun ⟨a, b⟩ => ⟨a, XV.perm hpf b⟩)
theorem JX.perm : ∀ (l : List Item) {E : Env} {G : Prom} {h h' : Hp}, List.Perm h h' → JX P r N ops D Q f tbl Ls l E G h → JX P r N ops D Q f tbl Ls l E G h'
  | [], _, _, _, _, hp, ⟨hh, p, q⟩ => ⟨hh, ((hp.append_right f).symm.trans p), q⟩
  | (i, k) :: l, E, G, h, h', hp, ⟨o, ho, hd, H⟩ => ⟨o, ho, hd, JstX.perm hp (fun _ _ _ _ p q => JX.perm l p q) H⟩
theorem JstX.pull {x y : Oper} {k : Kd} {i : Nat} {v : Value} {G : Prom} {K : Env → Prom → Hp → Prop} (ha : x.apart ops y = true) (H : JstX P r ops D Q f tbl Ls k i y (E.put x.dst v) G h K) :
    JstX P r ops D Q f tbl Ls k i y E G h (fun E' G' h' => ExtE y E E' ∧ (k ≠ .O → h' = h ∨ ∃ z, h' = z :: h) ∧ K (E'.put x.dst v) G' h') := by
  have hs := Oper.apart_spec ha
  have e1 : EqOn y (E.put x.dst v) E := (eqOn_put ha v).symm
  have hc : ∀ u, (E.put x.dst v).put y.dst u = (E.put y.dst u).put x.dst v := fun u => put_comm hs.2.1
  cases k with
  | S =>
    rcases H with ⟨a, b⟩ | ⟨a, u, b, c⟩
    · exact .inl ⟨(skips_put hs.1).1 a, .inr ⟨_, rfl⟩, fun _ => .inl rfl, by rw [← hc]; exact b⟩
    · exact .inr ⟨(runs_put hs.1).1 a, u, fun hh iv => (b hh iv).congr e1, .inr ⟨_, rfl⟩, fun _ => .inl rfl, by rw [← hc]; exact c⟩
  | R =>
    rcases H with ⟨a, b⟩ | ⟨a, u, b, c⟩
    · exact .inl ⟨(skips_put hs.1).1 a, .inr ⟨_, rfl⟩, fun _ => .inl rfl, by rw [← hc]; exact b⟩
    · exact .inr ⟨(runs_put hs.1).1 a, u, b.congr e1, .inr ⟨_, rfl⟩, fun _ => .inl rfl, by rw [← hc]; exact c⟩
  | P =>
    obtain ⟨a, mk, obj, b, c⟩ := H
    refine ⟨a, mk, obj, b.congr e1, .inl rfl, fun _ => .inl rfl, ?_⟩
    rw [← restr_congr e1]; exact c
  | A =>
    obtain ⟨a, p, b, c, d⟩ := H
    exact ⟨a, p, b, c.trans e1, fun z hz => ⟨.inr ⟨_, rfl⟩, fun _ => .inr ⟨_, rfl⟩, by rw [← hc]; exact d z hz⟩⟩
  | O =>
    rcases H with ⟨a, b⟩ | ⟨a, b⟩
    · exact .inl ⟨(skips_put hs.1).1 a, .inr ⟨_, rfl⟩, fun hh => absurd rfl hh, by rw [← hc]; exact b⟩
    · refine .inr ⟨(runs_put hs.1).1 a, (b.congr e1).mono ?_ (fun _ _ c => c)⟩
      rintro u h2 ⟨h', p, iv, c⟩
      exact ⟨h', p, iv, .inr ⟨_, rfl⟩, fun hh => absurd rfl hh, by rw [← hc]; exact c⟩
theorem JstX.pullG {x y : Oper} {k : Kd} {i j : Nat} {pr : Pr} {G : Prom} {K : Env → Prom → Hp → Prop} (hne : j ≠ i) (H : JstX P r ops D Q f tbl Ls k i y E (G.add j pr) h K) :
    JstX P r ops D Q f tbl Ls k i y E G h (fun E' G' h' => ExtE y E E' ∧ K E' (G'.add j pr) h') := by
  cases k with
  | S =>
    rcases H with ⟨a, b⟩ | ⟨a, u, b, c⟩
    · exact .inl ⟨a, .inr ⟨_, rfl⟩, b⟩
    · exact .inr ⟨a, u, b, .inr ⟨_, rfl⟩, c⟩
  | R =>
    rcases H with ⟨a, b⟩ | ⟨a, u, b, c⟩
    · exact .inl ⟨a, .inr ⟨_, rfl⟩, b⟩
    · exact .inr ⟨a, u, b, .inr ⟨_, rfl⟩, c⟩
  | P =>
    obtain ⟨a, mk, obj, b, c⟩ := H
    exact ⟨a, mk, obj, b, .inl rfl, by rw [add_comm' hne.symm]; exact c⟩
  | A =>
    obtain ⟨a, p, b, c, d⟩ := H
    refine ⟨a, p, ?_, c, fun z hz => ⟨.inr ⟨_, rfl⟩, d z hz⟩⟩
    simp only [Prom.add] at b
    rwa [if_neg (fun e => hne e.symm)] at b
  | O =>
    rcases H with ⟨a, b⟩ | ⟨a, b⟩
    · exact .inl ⟨a, .inr ⟨_, rfl⟩, b⟩
    · exact .inr ⟨a, b.mono (fun u h2 ⟨h', p, iv, c⟩ => ⟨h', p, iv, .inr ⟨_, rfl⟩, c⟩) (fun _ _ c => c)⟩
theorem JstX.swap {x y : Oper} {kx ky : Kd} {ix iy : Nat} {G : Prom} {K : Env → Prom → Hp → Prop} (ha : x.apart ops y = true) (hok : okSwap kx ky = true) (hne : ix ≠ iy)
    (hI : ky = .A → y.guard = none ∧ ∃ p, G iy = some p ∧ EqOn y p.env E) (hK : ∀ E G h h', List.Perm h h' → K E G h → K E G h')
    (H : JstX P r ops D Q f tbl Ls kx ix x E G h (fun E' G' h' => JstX P r ops D Q f tbl Ls ky iy y E' G' h' K)) : JstX P r ops D Q f tbl Ls ky iy y E G h (fun E' G' h' => JstX P r ops D Q f tbl Ls kx ix x E' G' h' K) := by
  have hs := Oper.apart_spec ha
  cases kx with
  | S =>
    rcases H with ⟨a, b⟩ | ⟨a, v, q, b⟩
    · exact (b.pull ha).mono fun E' G' h' ⟨e, _, c⟩ => .inl ⟨e.skips ha a, c⟩
    · exact (b.pull ha).mono fun E' G' h' ⟨e, _, c⟩ => .inr ⟨e.runs ha a, v, fun hh iv => (q hh iv).congr (e.eqOn ha), c⟩
  | R =>
    have hky : ky ≠ .O := by rintro rfl; simp [okSwap] at hok
    rcases H with ⟨a, b⟩ | ⟨a, v, q, b⟩
    · exact (b.pull ha).mono fun E' G' h' ⟨e, _, c⟩ => .inl ⟨e.skips ha a, c⟩
    · refine (b.pull ha).mono fun E' G' h' ⟨e, eh, c⟩ => .inr ⟨e.runs ha a, v, ?_, c⟩
      rcases eh hky with rfl | ⟨z, rfl⟩
      · exact q.congr (e.eqOn ha)
      · exact (q.congr (e.eqOn ha)).cons z
  | P =>
    obtain ⟨a, mk, obj, b, c⟩ := H
    refine (JstX.pullG (x := x) hne c).mono fun E' G' h' ⟨e, d⟩ => ⟨a, mk, obj, b.congr (e.eqOn ha), ?_⟩
    rw [← restr_congr (e.eqOn ha)]; exact d
  | A =>
    have hky : ky = .A := by cases ky <;> simp [okSwap] at hok; rfl
    subst hky
    obtain ⟨hg, q, hq, hqe⟩ := hI rfl
    obtain ⟨a, p, hp, hpe, H⟩ := H
    refine ⟨hg, q, hq, hqe, fun c hc => ⟨a, p, hp, hpe.trans (apart_eqOn ha E _), fun b hb => ?_⟩⟩
    have hb' : b ∉ keys (h ++ f) := fun hm => hb (List.mem_cons_of_mem _ hm)
    obtain ⟨_, q', hq', _, H⟩ := H b hb'
    rw [hq] at hq'; cases hq'
    have hcb : c ∉ keys ((b, p.obj) :: h ++ f) := by
      intro hm
      rcases List.mem_cons.1 hm with e | hm
      · exact hb (by rw [show b = c from e.symm]; exact List.mem_cons_self)
      · exact hc hm
    have := H c hcb
    rw [put_comm hs.2.1] at this
    exact hK _ _ _ _ (List.Perm.swap _ _ _) this
  | O =>
    have hky : ky = .A := by cases ky <;> simp [okSwap] at hok; rfl
    subst hky
    obtain ⟨hg, q, hq, hqe⟩ := hI rfl
    refine ⟨hg, q, hq, hqe, fun b hb => ?_⟩
    rcases H with ⟨a, H⟩ | ⟨a, H⟩
    · obtain ⟨_, q', hq', _, H⟩ := H
      rw [hq] at hq'; cases hq'
      exact .inl ⟨(skips_put hs.2.2).2 a, by rw [← put_comm hs.2.1]; exact H b hb⟩
    · refine .inr ⟨(runs_put hs.2.2).2 a, ?_⟩
      have h1 := XV.frame [(b, q.obj)] H
      have hp : List.Perm ((h ++ f) ++ [(b, q.obj)]) ((b, q.obj) :: h ++ f) := List.perm_append_comm (l₁ := h ++ f) (l₂ := [(b, q.obj)])
      refine XV.congr (apart_eqOn ha E _) ((XV.perm hp h1).conv ?_ ?_)
      · rintro v h2 hnd ⟨h'', rfl, h', hp', iv, hj⟩
        obtain ⟨_, q', hq', _, hj⟩ := hj
        rw [hq] at hq'; cases hq'
        have hbn : b ∉ keys (h' ++ f) := by
          intro hm
          rw [keys_append, List.nodup_append] at hnd
          exact hnd.2.2 b (((hp'.map Prod.fst).mem_iff).1 hm) b (by simp [keys]) rfl
        refine ⟨h'' ++ [(b, q.obj)], List.Perm.refl _, (b, q.obj) :: h', ?_, iv.cons _, ?_⟩
        · exact (hp'.cons _).trans (List.perm_append_comm (l₁ := [(b, q.obj)]) (l₂ := h''))
        · rw [← put_comm hs.2.1]; exact hj b hbn
      · rintro c h2 ⟨h'', rfl, hq'⟩
        exact ⟨h'' ++ [(b, q.obj)], h'', List.Perm.refl _, List.sublist_append_left _ _, hq'⟩
theorem JstX.info {k : Kd} {i : Nat} {o : Oper} {G : Prom} {K : Env → Prom → Hp → Prop} (H : JstX P r ops D Q f tbl Ls k i o E G h K) :
    JstX P r ops D Q f tbl Ls k i o E G h (fun E' G' h' => ExtE o E E' ∧ (G' = G ∨ ∃ pr, G' = G.add i pr) ∧ K E' G' h') := by
  cases k with
  | S => exact H.imp (fun ⟨a, b⟩ => ⟨a, .inr ⟨_, rfl⟩, .inl rfl, b⟩) (fun ⟨a, v, b, c⟩ => ⟨a, v, b, .inr ⟨_, rfl⟩, .inl rfl, c⟩)
  | R => exact H.imp (fun ⟨a, b⟩ => ⟨a, .inr ⟨_, rfl⟩, .inl rfl, b⟩) (fun ⟨a, v, b, c⟩ => ⟨a, v, b, .inr ⟨_, rfl⟩, .inl rfl, c⟩)
  | P => obtain ⟨a, mk, obj, b, c⟩ := H; exact ⟨a, mk, obj, b, .inl rfl, .inr ⟨_, rfl⟩, c⟩
  | A => obtain ⟨a, p, b, c, d⟩ := H; exact ⟨a, p, b, c, fun x hx => ⟨.inr ⟨_, rfl⟩, .inl rfl, d x hx⟩⟩
  | O => exact H.imp (fun ⟨a, b⟩ => ⟨a, .inr ⟨_, rfl⟩, .inl rfl, b⟩) (fun ⟨a, b⟩ => ⟨a, b.mono (fun v h2 ⟨h', p, iv, c⟩ => ⟨h', p, iv, .inr ⟨_, rfl⟩, .inl rfl, c⟩) (fun _ _ c => c)⟩)
theorem JX.moveFront {x : Nat} {k : Kd} {ox : Oper} (hx : ops[x]? = some ox) (hd : dstOk N ox.dst = true) {q : List Item} : ∀ (p : List Item) {E : Env} {G : Prom} {h : Hp},
    (∀ z kz, (z, kz) ∈ p → z ≠ x ∧ okSwap kz k = true ∧ ∀ oz, ops[z]? = some oz → oz.apart ops ox = true) →
    (k = .A → ox.guard = none ∧ ∃ pr, G x = some pr ∧ EqOn ox pr.env E) → JX P r N ops D Q f tbl Ls (p ++ (x, k) :: q) E G h → JX P r N ops D Q f tbl Ls ((x, k) :: (p ++ q)) E G h
  | [], _, _, _, _, _, H => H
  | (z, kz) :: p, E, G, h, hp, hI, H => by
    obtain ⟨oz, hoz, hdz, H⟩ := H
    obtain ⟨hne, hok, hap⟩ := hp z kz List.mem_cons_self
    have hap := hap oz hoz
    have H2 : JstX P r ops D Q f tbl Ls kz z oz E G h (fun E' G' h' => JstX P r ops D Q f tbl Ls k x ox E' G' h' (JX P r N ops D Q f tbl Ls (p ++ q))) := by
      refine H.info.mono ?_
      rintro E' G' h' ⟨e, g, H⟩
      have H' := JX.moveFront hx hd p (fun z' kz' hm => hp z' kz' (List.mem_cons_of_mem _ hm)) (fun hk => by
        obtain ⟨hg, pr, h1, h2⟩ := hI hk
        refine ⟨hg, pr, ?_, h2.trans ?_⟩
        · rcases g with rfl | ⟨pr', rfl⟩
          · exact h1
          · simp only [Prom.add]; rw [if_neg (fun e => hne e.symm)]; exact h1
        · rcases e with rfl | ⟨u, rfl⟩
          · exact fun _ _ => rfl
          · exact eqOn_put hap u) H
      obtain ⟨o', ho', _, H'⟩ := H'
      rw [hx] at ho'; cases ho'
      exact H'
    refine ⟨ox, hx, hd, (JstX.swap (K := JX P r N ops D Q f tbl Ls (p ++ q)) hap hok hne hI (fun _ _ _ _ hp' q' => JX.perm _ hp' q') H2).mono ?_⟩
    exact fun E' G' h' H' => ⟨oz, hoz, hdz, H'⟩
theorem JstX.exec {Ep : Env} {k : Kd} {i : Nat} {o : Oper} {G : Prom} {K : Env → Prom → Hp → Prop} {w : World} {a : Act} {QQ : Exit → Act → World → Prop} {next : Act → World → Prop} (ho : ops[i]? = some o) (hd : dstOk N o.dst = true) (hk : k ≠ .P)
    (hG : k = .A → ∀ p, G i = some p → AL P o p.env p.val p.obj) (hw : Own (h ++ f) w) (hIv : k = .S → Holds (lof Ls i) h) (ha : Agree N E a) (hda : a.defers = D) (hEp : ∀ t, o.dst = some t → Ep t = none) (hEa : Agree N Ep a)
    (hn : ∀ E' G' h' a' w', (G' = G) → ExtE o E E' → Agree N E' a' → Agree N Ep a' → a'.defers = D → Fol (h ++ f) w (h' ++ f) w' → ((∀ p, Holds p h → Holds p h') ∨ Keep tbl Ls i h') → K E' G' h' → next a' w') (hq : ∀ ch h' w', Q (.panic ch) emp D h' → Fol (h ++ f) w h' w' → QQ (.panic ch) a w')
    (H : JstX P r ops D Q f tbl Ls k i o E G h K) : wpOpIn (fen r) 0 P ops QQ i next a w := by
  have hput : ∀ v, (a.put o.dst v).defers = D := fun v => by cases o.dst <;> exact hda
  have hput2 : ∀ v, Agree N Ep (a.put o.dst v) := fun v => by
    have h1 := (hEa.put (v := v) (dstOk_lt hd))
    refine ⟨h1.size, fun t u hu => h1.val t u ?_⟩
    rw [put_other (fun e => by rw [hEp t e] at hu; cases hu)]; exact hu
  have hskip : Skips ops o E → K (E.put o.dst undef) G h → wpOpIn (fen r) 0 P ops QQ i next a w := by
    rintro ⟨j, t, v, hg, hgv, hne⟩ hK
    unfold wpOpIn
    simp only [ho]
    have hw' : ¬ Region.wanted o (yielded ops a.tmps) = true := by
      simp only [Region.wanted, hg]
      unfold gv at hgv
      unfold yielded
      cases hdj : (ops[j]?).bind (·.dst) with
      | none => rw [hdj] at hgv; cases hgv
      | some d =>
        rw [hdj] at hgv
        have := ha.val d _ hgv
        cases v <;> simp_all [isb]
    rw [if_neg hw']
    exact ⟨fun _ _ => trivial, hn _ _ _ _ _ rfl (.inr ⟨_, rfl⟩) (ha.put (dstOk_lt hd)) (hput2 _) (hput _) (.refl hw) (.inl fun _ q => q) hK⟩
  have hrun : Runs ops o E → (o.wpIn (fen r) 0 P a w next QQ) → wpOpIn (fen r) 0 P ops QQ i next a w := by
    intro hr hh
    unfold wpOpIn
    simp only [ho]
    have hw' : Region.wanted o (yielded ops a.tmps) = true := by
      rcases hr with hr | ⟨j, t, hg, hgv⟩
      · simp [Region.wanted, hr]
      · simp [Region.wanted, hg, gv_yielded ha hgv]
    rw [if_pos hw']
    exact hh
  have hops : OpsAt E o a := fun x _ v hv => ha.ev hv
  cases k with
  | P => exact absurd rfl hk
  | S =>
    rcases H with ⟨hs, hK⟩ | ⟨hr, v, hv, hK⟩
    · exact hskip hs hK
    · refine hrun hr (hv h (hIv rfl) w a hw hops next QQ ?_ (fun _ _ _ k _ => k.elim))
      rintro v' h' w' ⟨rfl, e⟩ hf
      rw [e] at hf
      exact hn _ _ h _ _ rfl (.inr ⟨_, rfl⟩) (ha.put (dstOk_lt hd)) (hput2 _) (hput _) hf (.inl fun _ q => q) hK
  | R =>
    rcases H with ⟨hs, hK⟩ | ⟨hr, v, hv, hK⟩
    · exact hskip hs hK
    · refine hrun hr (hv w a hw hops next QQ ?_ (fun _ _ _ k _ => k.elim))
      rintro v' h' w' ⟨rfl, e⟩ hf
      rw [e] at hf
      exact hn _ _ h _ _ rfl (.inr ⟨_, rfl⟩) (ha.put (dstOk_lt hd)) (hput2 _) (hput _) hf (.inl fun _ q => q) hK
  | A =>
    obtain ⟨hg, p, hp, he, hK⟩ := H
    have hal := (hG rfl p hp).congr he
    obtain ⟨ρ, hρ1, hρ2⟩ := ops_rho hal.1 hops
    refine hrun (.inl hg) ⟨fun _ _ => trivial, ?_⟩
    rw [Oper.semAt_eq _ _ _ hal.1.1, ← hρ2, hal.2 w ρ hρ1]
    exact hn _ _ ((w.heap.size, p.obj) :: h) _ _ rfl (.inr ⟨_, rfl⟩) (ha.put (dstOk_lt hd)) (hput2 _) (hput _) (Fol.alloc hw _) (.inl fun _ q => q.cons _) (hK _ fun hc => Nat.lt_irrefl _ (hw.lt hc))
  | O =>
    rcases H with ⟨hs, hK⟩ | ⟨hr, hx⟩
    · exact hskip hs hK
    · refine hrun hr (hx w a hw hops next QQ ?_ ?_)
      · rintro v h2 w' ⟨h', hp, iv, hK⟩ hf
        exact hn _ _ h' _ _ rfl (.inr ⟨_, rfl⟩) (ha.put (dstOk_lt hd)) (hput2 _) (hput _) (hf.perm hp) (.inr iv) hK
      · intro ch h2 w' hq' hf
        exact hq ch h2 w' hq' hf
theorem drawX_main {Ep : Env} (hEp : ∀ (i : Nat) (o : Oper), ops[i]? = some o → ∀ t, o.dst = some t → Ep t = none) {tbl : List (List Nat)} {h0 : Hp} {w0 : World} (ht : tblOk ops tbl = true) (hdst : ops.toList.all (fun o : Oper => dstOk N o.dst) = true) :
    ∀ (fuel : Nat) (c : List Item) (listed : Array Bool) (E : Env) (G : Prom) (h : Hp) (w : World) (a : Act), WF ops tbl c listed → (c.filter fun x => x.2 != .P).length ≤ fuel → JX P r N ops D (PanEnv Ep Q) f tbl Ls c E G h →
      Own (h ++ f) w → (∀ x p, (x, p) ∈ Ls → listed.getD x true = false → Holds p h) → Agree N E a → Agree N Ep a → a.defers = D → Fol h0 w0 (h ++ f) w →
      wpAnyIn (fen r) 0 P .any ops (fun e a' w' => ∃ E' h', Q e E' a'.defers h' ∧ Agree N E' a' ∧ Fol h0 w0 h' w') fuel listed a w := by
  have hdst' : ∀ (i : Nat) (o : Oper), ops[i]? = some o → dstOk N o.dst = true := fun i o ho => List.all_eq_true.1 hdst o (by simpa using Array.mem_of_getElem? ho)
  -- where nothing is ready all is done
  have hend : ∀ (c : List Item) (listed : Array Bool), WF ops tbl c listed → Region.ready .any ops listed = [] → c = [] := by
    intro c listed W hready
    have hall : ∀ j, j < ops.size → listed.getD j false = true := by
      intro j
      induction j using Nat.strongRecOn with
      | _ j ih =>
        intro hj
        refine Classical.byContradiction fun hn => ?_
        have hlt : j < listed.size := by rw [W.sz]; exact hj
        obtain ⟨o, ho⟩ : ∃ o, ops[j]? = some o := ⟨_, Array.getElem?_eq_getElem hj⟩
        have hmem : j ∈ Region.ready .any ops listed := by
          refine mem_ready.2 ⟨?_, o, ho, fun e he hb => ?_⟩
          · simp [Array.getD, hlt] at hn ⊢; exact hn
          · have hd : e.on ∈ direct o := List.mem_map.2 ⟨e, List.mem_filter.2 ⟨by simpa using he, hb⟩, rfl⟩
            have := List.all_eq_true.1 ht j (List.mem_range.2 hj)
            simp only [ho, Bool.and_eq_true, List.all_eq_true, decide_eq_true_eq] at this
            have hlt2 := this.2 _ hd
            exact ih _ hlt2 (by omega)
        rw [hready] at hmem; cases hmem
    cases c with
    | nil => rfl
    | cons x c =>
      obtain ⟨i, k⟩ := x
      have hu := W.un i k List.mem_cons_self
      have := hall i hu.1
      have hlt : i < listed.size := by rw [W.sz]; exact hu.1
      simp [Array.getD, hlt] at this hu
      rw [this] at hu; exact absurd hu.2 (by simp)
  have hfin : ∀ (c : List Item) (listed : Array Bool) (E : Env) (G : Prom) (h : Hp) (w : World) (a : Act), WF ops tbl c listed → JX P r N ops D (PanEnv Ep Q) f tbl Ls c E G h → Agree N E a → Agree N Ep a → a.defers = D → Fol h0 w0 (h ++ f) w →
      Region.ready .any ops listed = [] → ∃ E' h', Q .normal E' a.defers h' ∧ Agree N E' a ∧ Fol h0 w0 h' w := by
    intro c listed E G h w a W hj ha hEa hda hf hready
    rw [hend c listed W hready] at hj
    obtain ⟨hh, hp, hq⟩ := hj
    exact ⟨E, hh, by rw [hda]; exact hq, ha, hf.perm hp.symm⟩
  intro fuel
  induction fuel with
  | zero =>
    intro c listed E G h w a W hc hj hw hIv ha hEa hda hf
    have hready : Region.ready .any ops listed = [] := by
      cases hr : Region.ready .any ops listed with
      | nil => rfl
      | cons i l =>
        exfalso
        obtain ⟨h1, o, ho, _⟩ := mem_ready.1 (show i ∈ Region.ready .any ops listed by rw [hr]; exact List.mem_cons_self)
        obtain ⟨k, hk, hm⟩ := W.al i (Array.getElem?_eq_some_iff.1 ho).1 h1
        have : (i, k) ∈ c.filter fun x => x.2 != .P := List.mem_filter.2 ⟨hm, by simpa using hk⟩
        have hl : (c.filter fun x => x.2 != .P).length = 0 := by omega
        rw [List.length_eq_zero_iff.1 hl] at this
        cases this
    exact ⟨hready, hfin c listed E G h w a W hj ha hEa hda hf hready⟩
  | succ fuel ih =>
    intro c listed E G h w a W hc hj hw hIv ha hEa hda hf
    refine ⟨fun hready => hfin c listed E G h w a W hj ha hEa hda hf hready, fun i hi => ?_⟩
    obtain ⟨h1, o, ho, hpre⟩ := mem_ready.1 hi
    have hr : ∀ z ∈ direct o, listed.getD z false = true := by
      intro z hz
      obtain ⟨e, he, rfl⟩ := List.mem_map.1 hz
      obtain ⟨he1, he2⟩ := List.mem_filter.1 he
      exact hpre e (by simpa using he1) he2
    obtain ⟨k, hk, hm⟩ := W.al i (Array.getElem?_eq_some_iff.1 ho).1 h1
    have hd := hdst' i o ho
    -- the step itself, once it stands in front
    have go : ∀ (c' : List Item) (G' : Prom), JX P r N ops D (PanEnv Ep Q) f tbl Ls ((i, k) :: c') E G' h → List.Sublist c' c → (∀ j kj, (j, kj) ∈ c' ↔ (j, kj) ∈ c ∧ j ≠ i) →
        (k = .A → ∀ p, G' i = some p → AL P o p.env p.val p.obj) →
        wpOpIn (fen r) 0 P ops (fun e a' w' => ∃ E' h', Q e E' a'.defers h' ∧ Agree N E' a' ∧ Fol h0 w0 h' w') i (wpAnyIn (fen r) 0 P .any ops (fun e a' w' => ∃ E' h', Q e E' a'.defers h' ∧ Agree N E' a' ∧ Fol h0 w0 h' w') fuel (listed.setIfInBounds i true)) a w := by
      intro c' G' hj' hs hmem hal
      obtain ⟨o', ho', _, hst⟩ := hj'
      rw [ho] at ho'; cases ho'
      refine JstX.exec (Ep := Ep) ho hd hk hal hw (fun _ => by
        rcases lof_mem Ls i with e9 | e9
        · rw [e9]; exact .nil
        · exact hIv i _ e9 (by
            have hlt := (Array.getElem?_eq_some_iff.1 ho).1
            have hls : i < listed.size := by rw [W.sz]; exact hlt
            simp [Array.getD, hls] at h1 ⊢; exact h1)) ha hda (hEp i o ho) hEa ?_ ?_ hst
      · intro E' G2 h' a' w' _ _ ha' hEa' hda' hf' iv' hK
        refine ih c' _ E' G2 h' w' a' (W.step ho hr hs hmem) ?_ hK hf'.own (fun x p hxp hl9 => by
          have hls : i < listed.size := by rw [W.sz]; exact (Array.getElem?_eq_some_iff.1 ho).1
          rw [getD_set hls] at hl9
          split at hl9
          · cases hl9
          · rename_i hne9
            rcases iv' with q9 | q9
            · exact q9 p (hIv x p hxp hl9)
            · rcases q9 x p hxp with q8 | q8
              · have q7 := tbl_sound ht W.dc i o ho hr x q8
                exfalso
                by_cases hx9 : x < listed.size
                · simp [Array.getD, hx9] at hl9 q7; rw [hl9] at q7; cases q7
                · simp [Array.getD, hx9] at q7
              · exact q8) ha' hEa' hda' (hf.trans hf')
        have hlt : ((i, k) :: c').length ≤ _ := Nat.le_refl _
        have hsub : List.Sublist (c'.filter fun x => x.2 != .P) (c.filter fun x => x.2 != .P) := hs.filter _
        have hne : (c'.filter fun x => x.2 != .P).length ≠ (c.filter fun x => x.2 != .P).length := by
          intro e
          have e2 := hsub.eq_of_length e
          have : (i, k) ∈ c'.filter fun x => x.2 != .P := by rw [e2]; exact List.mem_filter.2 ⟨hm, by simpa using hk⟩
          exact ((hmem i k).1 (List.mem_filter.1 this).1).2 rfl
        have := hsub.length_le
        omega
      · intro ch h' w' hq hf'
        exact ⟨Ep, h', by rw [hda]; exact hq, hEa, hf.trans hf'⟩
    by_cases hkA : k = .A
    · subst hkA
      have hmP := W.ap i hm
      obtain ⟨p, q, rfl⟩ := List.append_of_mem hmP
      have hnd := wf_nodup W.pr
      have hnp : (i, Kd.P) ∉ p := fun hmm => by
        rw [List.nodup_append] at hnd
        exact hnd.2.2 _ hmm _ List.mem_cons_self rfl
      have hj1 := JX.moveFront ho hd p (W.front ht ho hr (List.Sublist.refl _) hnp) (fun e => by cases e) hj
      obtain ⟨o', ho', _, hg, mk, obj, hal, hj2⟩ := hj1
      rw [ho] at ho'; cases ho'
      have hmA : (i, Kd.A) ∈ p ++ q := by
        rcases List.mem_append.1 hm with hm | hm
        · exact List.mem_append_left _ hm
        · rcases List.mem_cons.1 hm with e | hm
          · cases e
          · exact List.mem_append_right _ hm
      have hs1 : List.Sublist (p ++ q) (p ++ (i, Kd.P) :: q) := (List.Sublist.refl p).append (List.sublist_cons_self _ _)
      have hmP2 : ∀ kk, (i, kk) ∈ p ++ q → kk = .A := by
        intro kk hkk
        obtain ⟨p2, q2, e2⟩ := List.append_of_mem hmA
        by_cases hkk2 : kk = .A
        · exact hkk2
        · exfalso
          have hmem2 : (i, kk) ∈ p2 ++ q2 := by
            rw [e2] at hkk
            rcases List.mem_append.1 hkk with h3 | h3
            · exact List.mem_append_left _ h3
            · rcases List.mem_cons.1 h3 with h3 | h3
              · cases h3; exact absurd rfl hkk2
              · exact List.mem_append_right _ h3
          have := one_np (ops := ops) (tbl := tbl) (x := i) (k := .A) (by rw [← e2]; exact pairs_sub hs1 W.pr) (by simp) hmem2
          obtain ⟨rfl, _, _⟩ := this
          rw [List.nodup_append] at hnd
          rcases List.mem_append.1 hkk with h3 | h3
          · exact hnp h3
          · exact (List.nodup_cons.1 hnd.2.1).1 h3
      obtain ⟨p2, q2, e2⟩ := List.append_of_mem hmA
      rw [e2] at hj2
      have hs2 : List.Sublist (p2 ++ (i, Kd.A) :: q2) (p ++ (i, Kd.P) :: q) := by rw [← e2]; exact hs1
      have hnp2 : (i, Kd.P) ∉ p2 := fun hmm => by
        have := hmP2 .P (by rw [e2]; exact List.mem_append_left _ hmm)
        cases this
      have hj3 := JX.moveFront ho hd p2 (W.front ht ho hr hs2 hnp2) (fun _ => ⟨hg, ⟨mk, obj, restr o E⟩, by simp [Prom.add], restr_eqOn o E⟩) hj2
      refine go (p2 ++ q2) _ hj3 (((List.Sublist.refl p2).append (List.sublist_cons_self _ _)).trans hs2) ?_ ?_
      · intro j kj
        constructor
        · intro hmm
          have hmm2 : (j, kj) ∈ p ++ q := by
            rw [e2]
            rcases List.mem_append.1 hmm with h3 | h3
            · exact List.mem_append_left _ h3
            · exact List.mem_append_right _ (List.mem_cons_of_mem _ h3)
          refine ⟨hs1.subset hmm2, ?_⟩
          rintro rfl
          have := hmP2 kj hmm2
          subst this
          have hnd2 : (p2 ++ (j, Kd.A) :: q2).Nodup := by rw [← e2]; exact hs1.nodup hnd
          rw [List.nodup_append] at hnd2
          rcases List.mem_append.1 hmm with h3 | h3
          · exact hnd2.2.2 _ h3 _ List.mem_cons_self rfl
          · exact (List.nodup_cons.1 hnd2.2.1).1 h3
        · rintro ⟨h3, hne⟩
          have h4 : (j, kj) ∈ p ++ q := by
            rcases List.mem_append.1 h3 with h5 | h5
            · exact List.mem_append_left _ h5
            · rcases List.mem_cons.1 h5 with h5 | h5
              · cases h5; exact absurd rfl hne
              · exact List.mem_append_right _ h5
          rw [e2] at h4
          rcases List.mem_append.1 h4 with h5 | h5
          · exact List.mem_append_left _ h5
          · rcases List.mem_cons.1 h5 with h5 | h5
            · cases h5; exact absurd rfl hne
            · exact List.mem_append_right _ h5
      · intro _ pr hpr
        simp [Prom.add] at hpr
        subst hpr
        exact hal.congr (restr_eqOn o E).symm
    · obtain ⟨p, q, rfl⟩ := List.append_of_mem hm
      have hone : ∀ kk, (i, kk) ∉ p ++ q := fun kk hkk => hkA (one_np W.pr hk hkk).2.1
      have hj1 := JX.moveFront ho hd p (W.front ht ho hr (List.Sublist.refl _) (fun hmm => hone _ (List.mem_append_left _ hmm))) (fun e => absurd e hkA) hj
      refine go (p ++ q) G hj1 ((List.Sublist.refl p).append (List.sublist_cons_self _ _)) ?_ (fun e => absurd e hkA)
      intro j kj
      constructor
      · intro hmm
        refine ⟨((List.Sublist.refl p).append (List.sublist_cons_self _ _)).subset hmm, ?_⟩
        rintro rfl
        exact hone kj hmm
      · rintro ⟨h3, hne⟩
        rcases List.mem_append.1 h3 with h5 | h5
        · exact List.mem_append_left _ h5
        · rcases List.mem_cons.1 h5 with h5 | h5
          · cases h5; exact absurd rfl hne
          · exact List.mem_append_right _ h5
theorem xc_drawX {id : Nat} {h' : Hp} (c : List Item) (f h : Hp) (hm : P.follows .mixedOrders = true) (hck : drawOk N ops c = true) (hp : List.Perm (h ++ f) h') (hIv : ∀ x p, (x, p) ∈ Ls → Holds p h) (H : JX P r N ops D (PanEnv (mask ops E) Q) f (clos ops) Ls c E (fun _ => none) h) : XC P r N (.region id ops true) Q E D h' := by
  refine XC.perm hp ?_
  intro w a ho ha hda
  simp only [drawOk, Bool.and_eq_true] at hck
  obtain ⟨ht, hpr, hdst, hall, hit, hlen⟩ := hck
  refine wpIn_region_any hm ?_
  have hEp : ∀ (i : Nat) (o : Oper), ops[i]? = some o → ∀ t, o.dst = some t → mask ops E t = none := by
    intro i o hio t ht
    have : t ∈ dsts ops := List.mem_filterMap.2 ⟨o, by simpa using Array.mem_of_getElem? hio, ht⟩
    simp [mask, this]
  have hEa : Agree N (mask ops E) a := by
    refine ⟨ha.size, fun t v hv => ha.val t v ?_⟩
    unfold mask at hv
    split at hv
    · cases hv
    · exact hv
  refine drawX_main (Ep := mask ops E) hEp (h0 := h ++ f) (w0 := w) ht hdst ops.size c _ E _ h _ a ⟨hpr, ?_, ?_, ?_, ?_, ?_, by simp, ?_⟩ (of_decide_eq_true hlen) H (ho.drew _) (fun x p hm _ => hIv x p hm) ha hEa hda (Fol.refl (ho.drew _)).drew
  · intro i k hik
    have := List.all_eq_true.1 hit (i, k) hik
    simp only [Bool.and_eq_true, decide_eq_true_eq] at this
    exact ⟨this.1, by simp [Array.getD, this.1]⟩
  · intro i hi _
    have := List.all_eq_true.1 hall i (List.mem_range.2 hi)
    simp only [Bool.or_eq_true, List.contains_iff_mem] at this
    rcases this with ((h1 | h1) | h1) | h1
    · exact ⟨_, by simp, h1⟩
    · exact ⟨_, by simp, h1⟩
    · exact ⟨_, by simp, h1⟩
    · exact ⟨_, by simp, h1⟩
  · intro i hi
    have := List.all_eq_true.1 hit (i, .A) hi
    simp only [Bool.and_eq_true, Bool.or_eq_true, List.contains_iff_mem] at this
    rcases this.2.1 with h1 | h1
    · simp at h1
    · exact h1.2
  · intro i hi
    have := List.all_eq_true.1 hit (i, .P) hi
    simp only [Bool.and_eq_true, Bool.or_eq_true, List.contains_iff_mem] at this
    rcases this.2.2 with h1 | h1
    · simp at h1
    · exact h1
  · intro i o hi ho'
    have := List.all_eq_true.1 hit (i, .A) hi
    simp only [Bool.and_eq_true, Bool.or_eq_true, ho'] at this
    rcases this.2.1 with h1 | h1
    · simp at h1
    · simpa using h1.1
  · intro j o hj
    simp [Array.getD] at hj
end Go.H
namespace Go.H
open Go
section
variable {P : Program} {r : Option Nat} {N : Nat} {Q : Post} {E : Env} {D : List Deferred} {h : Hp} {ops : Array Oper} {tbl : List (List Nat)} {Ls : LsT} {G : Prom} {l : List Item}
theorem jx_S {i : Nat} {o : Oper} {v : Value} (hi : ops[i]? = some o) (hd : dstOk N o.dst = true) (hr : Runs ops o E) (H : XV P r o (fun v' h' => v' = v ∧ h' = []) (fun _ _ => False) E []) (H2 : JX P r N ops D Q [] tbl Ls l (E.put o.dst v) G h) : JX P r N ops D Q [] tbl Ls ((i, .S) :: l) E G h :=
  ⟨o, hi, hd, .inr ⟨hr, v, fun hh _ => qv_ext H hh, H2⟩⟩
theorem jx_I {i : Nat} {o : Oper} {v : Value} (hi : ops[i]? = some o) (hd : dstOk N o.dst = true) (hr : Runs ops o E) (H : ∀ hh, Holds (lof Ls i) hh → XV P r o (fun v' h' => v' = v ∧ h' = hh) (fun _ _ => False) E hh) (H2 : JX P r N ops D Q [] tbl Ls l (E.put o.dst v) G h) : JX P r N ops D Q [] tbl Ls ((i, .S) :: l) E G h :=
  ⟨o, hi, hd, .inr ⟨hr, v, fun hh hv => by rw [List.append_nil]; exact H hh hv, H2⟩⟩
theorem jx_R {i : Nat} {o : Oper} {v : Value} (hi : ops[i]? = some o) (hd : dstOk N o.dst = true) (hr : Runs ops o E) (H : XV P r o (fun v' h' => v' = v ∧ h' = h) (fun _ _ => False) E h) (H2 : JX P r N ops D Q [] tbl Ls l (E.put o.dst v) G h) : JX P r N ops D Q [] tbl Ls ((i, .R) :: l) E G h :=
  ⟨o, hi, hd, .inr ⟨hr, v, by rw [List.append_nil]; exact H, H2⟩⟩
theorem jx_P {i : Nat} {o : Oper} {mk : Nat → Value} {obj : Obj} (hi : ops[i]? = some o) (hd : dstOk N o.dst = true) (hg : o.guard = none) (H : AL P o E mk obj) (H2 : JX P r N ops D Q [] tbl Ls l E (G.add i ⟨mk, obj, restr o E⟩) h) : JX P r N ops D Q [] tbl Ls ((i, .P) :: l) E G h :=
  ⟨o, hi, hd, hg, mk, obj, H, H2⟩
theorem jx_A {i : Nat} {o : Oper} {mk : Nat → Value} {obj : Obj} {E0 : Env} {tl : List Nat} (hi : ops[i]? = some o) (hd : dstOk N o.dst = true) (hg : o.guard = none) (hG : G i = some ⟨mk, obj, restr o E0⟩) (ht : tmpsOf o.op.operands.toList = tl) (he : EqL tl E0 E)
    (H2 : ∀ b, b ∉ keys h → JX P r N ops D Q [] tbl Ls l (E.put o.dst (mk b)) G ((b, obj) :: h)) : JX P r N ops D Q [] tbl Ls ((i, .A) :: l) E G h :=
  ⟨o, hi, hd, hg, _, hG, (restr_eqOn o E0).trans (fun t hm => eqL_mem he t (by rw [← ht]; exact mem_tmpsOf (by simpa using hm))), fun b hb => H2 b (by rwa [List.append_nil] at hb)⟩
theorem jx_O {i : Nat} {o : Oper} (hi : ops[i]? = some o) (hd : dstOk N o.dst = true) (hr : Runs ops o E) (H : XV P r o (fun v h' => Keep tbl Ls i h' ∧ JX P r N ops D Q [] tbl Ls l (E.put o.dst v) G h') (fun ch h'' => Q (.panic ch) emp D h'') E h) : JX P r N ops D Q [] tbl Ls ((i, .O) :: l) E G h :=
  ⟨o, hi, hd, .inr ⟨hr, by rw [List.append_nil]; exact H.mono (fun v h' k => ⟨h', by simp, k.1, k.2⟩) (fun _ _ k => k)⟩⟩
theorem jx_Ss {i : Nat} {o : Oper} (hi : ops[i]? = some o) (hd : dstOk N o.dst = true) (hr : Skips ops o E) (H2 : JX P r N ops D Q [] tbl Ls l (E.put o.dst undef) G h) : JX P r N ops D Q [] tbl Ls ((i, .S) :: l) E G h := ⟨o, hi, hd, .inl ⟨hr, H2⟩⟩
theorem jx_Rs {i : Nat} {o : Oper} (hi : ops[i]? = some o) (hd : dstOk N o.dst = true) (hr : Skips ops o E) (H2 : JX P r N ops D Q [] tbl Ls l (E.put o.dst undef) G h) : JX P r N ops D Q [] tbl Ls ((i, .R) :: l) E G h := ⟨o, hi, hd, .inl ⟨hr, H2⟩⟩
theorem jx_end {Ep : Env} (H : Q .normal E D h) : JX P r N ops D (PanEnv Ep Q) [] tbl Ls [] E G h := ⟨h, by simp, H⟩
theorem xc_drawX0 {id : Nat} (Ls : LsT) (c : List Item) (hm : P.follows .mixedOrders = true) (hck : drawOk N ops c = true) (hIv : ∀ x p, (x, p) ∈ Ls → Holds p h) (H : JX P r N ops D (PanEnv (mask ops E) Q) [] (clos ops) Ls c E (fun _ => none) h) : XC P r N (.region id ops true) Q E D h :=
  xc_drawX c [] h hm hck (by simp) hIv H
theorem kp_nil {tbl : List (List Nat)} {y : Nat} {h : Hp} : Keep tbl [] y h := fun _ _ hm => (List.not_mem_nil hm).elim
theorem kp_go {tbl : List (List Nat)} {y x : Nat} {p : List (Nat × (Obj → Prop))} {Ls : LsT} {h : Hp} (h1 : (tbl.getD y []).contains x = true) (H : Keep tbl Ls y h) : Keep tbl ((x, p) :: Ls) y h := fun x' p' hm => by
  rcases List.mem_cons.1 hm with e | hm
  · cases e; exact .inl (by simpa using h1)
  · exact H x' p' hm
theorem kp_in {tbl : List (List Nat)} {y x : Nat} {p : List (Nat × (Obj → Prop))} {Ls : LsT} {h : Hp} (h1 : Holds p h) (H : Keep tbl Ls y h) : Keep tbl ((x, p) :: Ls) y h := fun x' p' hm => by
  rcases List.mem_cons.1 hm with e | hm
  · cases e; exact .inr h1
  · exact H x' p' hm
theorem iv_nil {h : Hp} : ∀ x p, (x, p) ∈ ([] : LsT) → Holds p h := fun _ _ hm => (List.not_mem_nil hm).elim
theorem iv_cons {x : Nat} {p : List (Nat × (Obj → Prop))} {Ls : LsT} {h : Hp} (h1 : Holds p h) (H : ∀ x p, (x, p) ∈ Ls → Holds p h) : ∀ x' p', (x', p') ∈ ((x, p) :: Ls) → Holds p' h := fun x' p' hm => by
  rcases List.mem_cons.1 hm with e | hm
  · cases e; exact h1
  · exact H x' p' hm
end
end Go.H

/-
  Walks.
-/
namespace Go.Proofs.Ytlcdbjgfeoagbaa
open Go Go.H
set_option maxRecDepth 100000
set_option maxHeartbeats 8000000
set_option linter.all false
theorem ofIt {core : Hp} {s : Slot} {b b2 b3 k : Nat} {ma : Option Addr} {mc : Nat} (hmc : (b, .cells ⟨eMet s (.slice ma (dmS s).length mc)⟩ 70 (0, 0)) ∈ core) (hdc : SlV core 2 eMark ma (dmS s)) (hsc : SlotV core s) (hsm : Small s) (he : errS s = 0) (hb2 : (b2, .cells ⟨[.pointer (some ⟨b, 0, none⟩)]⟩ 60 (0, 0)) ∈ core) (hb3 : (b3, .cells ⟨[I (k : Int)]⟩ 3 (0, 0)) ∈ core) :
    Iter Try.prog 98 [] [.pointer (some ⟨b2, 0, none⟩), .pointer (some ⟨b3, 0, none⟩)] (fun x : Mark => [.agg ⟨eMark x⟩]) (ofT s k (dmS s)) (fun h' => core ⊆ h') := by
  intro y J Jx h hRd hy hJ
  show ACalls Try.prog 98 ⟨[y, .pointer (some ⟨b2, 0, none⟩), .pointer (some ⟨b3, 0, none⟩)]⟩ h _
  refine calls_of_xc (N := 28) Try.func98 rfl (by rfl) ?_
  obtain ⟨hsl9, hsk⟩ := id hsm
  obtain ⟨hgs, htw, hcr⟩ := errS_0 he
  obtain ⟨⟨hn1, hn2⟩, ⟨hn3, hn4⟩, ⟨hn5, hn6⟩, hn7, hn8⟩ := id hgs.1
  obtain ⟨⟨hz1, hz2⟩, hz3⟩ := id hgs.2.1
  have hdl := dm_len hz3
  have hc0 := hRd _ _ hJ
  have m0 := hc0 hmc
  have m1 := hc0 hb2
  have m4 := hc0 hb3
  refine xc_seq (xc_region ?_)
  refine xr_op rfl rfl (xv_load1 ty60 rfl rfl (by ((repeat first|exact z_0|assumption|refine z_1 ?_|(refine z_l ?_;(repeat first|exact z_0|assumption|refine z_1 ?_);done)|refine z_r ?_);done)) (by rfl) ?_)
  refine xr_op rfl rfl (xv_nilp rfl ?_)
  refine xr_op rfl rfl (xv_faddr fl70_1 rfl ?_)
  refine xr_op rfl rfl (xv_load1 ty23 rfl rfl (by ((repeat first|exact z_0|assumption|refine z_1 ?_|(refine z_l ?_;(repeat first|exact z_0|assumption|refine z_1 ?_);done)|refine z_r ?_);done)) (by rfl) ?_)
  refine xr_op rfl rfl (xv_len sl23 rfl ?_)
  refine xr_op rfl rfl (xv_move rfl ?_)
  refine xr_end rfl ?_
  refine th_n ?_
  refine xc_block ?_
  refine xc_loop (σ := Nat × Hp) (fun z => z.1 ≤ (dmS s).length ∧ J (ofT s k ((dmS s).take z.1)).length z.2) (fun z => ((((((emp.put (some 0) (y)).put (some 1) (.pointer (some ⟨b2, 0, none⟩))).put (some 2) (.pointer (some ⟨b3, 0, none⟩))).put (some 9) (.slice ma (dmS s).length mc)).put (some 10) (I (dmS s).length)).put (some 11) (I z.1))) (fun z => z.2) (fun z => (dmS s).length - z.1) ((0, h) : Nat × Hp) ⟨Nat.zero_le _, hJ⟩ (le_put (le_put (le_put (le_put (le_put (le_put (le_emp _) rfl) rfl) rfl) rfl) rfl) rfl) (by (first|((repeat first|exact s_0|exact s_1|exact s_3|refine s_4 ?_|refine s_5 ?_|refine s_6 ?_|refine s_7 ?_);done)|((repeat first|exact s_0|exact s_1|exact s_3|refine s_4 ?_|refine s_5 ?_|refine s_6 ?_|refine s_8 ?_);done))) ?_
  rintro ⟨i, h1⟩ ⟨hi, hJ1⟩
  dsimp only at hi hJ1
  have hc1 := hRd _ _ hJ1
  have m2 := hc1 hb2
  have m3 := hc1 hb3
  have m5 := hc1 hmc
  refine xc_seq (xc_region ?_)
  refine xr_op rfl rfl (xv_lss2 rfl rfl (fun q1 => ?_) (fun q1 => ?_))
  · refine xr_end rfl ?_
    refine th_n ?_
    refine xc_seq ?_
    refine xc_true rfl ?_
    refine xc_skip ?_
    refine th_n ?_
    refine xc_seq ?_
    refine xc_block ?_
    refine xc_seq (xc_region ?_)
    have hlto : i < (dmS s).length := by (first|omega|(dsimp only at *;omega)|(simp at *;omega))
    obtain ⟨bo, oo, lo, to, fzo, hao, hmo, hxo⟩ := ((hdc.sub hc1)).at hlto
    obtain ⟨xo, hko⟩ : ∃ qq_, (dmS s)[i]? = some qq_ := ⟨_, List.getElem?_eq_getElem hlto⟩
    have hx0 := (dm_bd he (List.mem_of_getElem? hko)).1
    refine xr_op rfl rfl (xv_ia (sz := 2) (j := i) sl23 ty42 rfl (by rw [hao]; rfl) rfl (by (first | assumption | with_reducible exact Int.toNat_natCast _ | with_reducible rfl | rfl)) (by (first|omega|(dsimp only at *;omega)|(simp at *;omega))) (by (first|omega|(dsimp only at *;omega)|(simp at *;omega))) ?_)
    refine xr_op rfl rfl (xv_loadA ty42 rfl rfl (by ((repeat first|exact z_0|assumption|refine z_1 ?_|(refine z_l ?_;(repeat first|exact z_0|assumption|refine z_1 ?_);done)|refine z_r ?_);done)) (hxo (i) xo hko) rfl ?_)
    refine xr_op rfl rfl (xv_alloc ty42 (fun b5 hb5 => ?_))
    refine xr_op rfl rfl (xv_s ty42 rfl rfl (by (first|(apply u_3;(repeat first|exact u_0|assumption|apply u_1|apply u_2);done)|((repeat first|exact u_0|assumption|apply u_1|apply u_2);done)|(apply u_3;apply u_3;(repeat first|exact u_0|assumption|apply u_1|apply u_2);done)|((repeat first|exact u_0|assumption|apply u_3|apply u_1);done))) (by ((try apply evl_some rfl);(repeat (first|exact (rfl : _ = [])|apply evl_cons rfl (by (first|exact v_1|exact v_2|exact v_3|exact v_4|exact v_5|exact v_6|exact v_7|exact v_8|exact v_9|exact rfl))|exact rfl)))) (by rfl) (by rfl) (by rfl) (by ((try apply evl_some rfl);(repeat (first|exact (rfl : _ = [])|apply evl_cons rfl (by (first|exact v_1|exact v_2|exact v_3|exact v_4|exact v_5|exact v_6|exact v_7|exact v_8|exact v_9|exact rfl))|exact rfl)))) ?_)
    refine xr_end rfl ?_
    refine th_n ?_
    refine xc_seq ?_
    refine xc_draw0 [(0, .R), (1, .S), (2, .R), (3, .R), (4, .R), (5, .O), (6, .S), (7, .S), (8, .R), (9, .O), (10, .S), (11, .S)] mixed (by kernel_rfl) ?_
    refine js_R0 rfl rfl (.inl rfl) (xv_load1 ty60 rfl rfl (by ((repeat first|exact z_0|assumption|refine z_1 ?_|(refine z_l ?_;(repeat first|exact z_0|assumption|refine z_1 ?_);done)|refine z_r ?_);done)) (by rfl) ⟨rfl, rfl⟩) ?_
    refine js_S rfl rfl (.inl rfl) (xv_faddr fl42_0 rfl ⟨rfl, rfl⟩) ?_
    refine js_R0 rfl rfl (.inl rfl) (xv_load1 ty3 rfl rfl (by ((repeat first|exact z_0|assumption|refine z_1 ?_|(refine z_l ?_;(repeat first|exact z_0|assumption|refine z_1 ?_);done)|refine z_r ?_);done)) (by rfl) ⟨rfl, rfl⟩) ?_
    refine js_R0 rfl rfl (.inl rfl) (xv_calls rfl hb36 (force_c (hour := xo.hour) (List.mem_cons_of_mem _ m5) (hdc.sub (fun z hz => List.mem_cons_of_mem _ (hc1 hz))) (hsc.sub (fun z hz => List.mem_cons_of_mem _ (hc1 hz))) hsm he hx0.1 (up_ret ⟨rfl, rfl⟩))) ?_
    refine js_R0 rfl rfl (.inl rfl) (xv_load1 ty3 rfl rfl (by ((repeat first|exact z_0|assumption|refine z_1 ?_|(refine z_l ?_;(repeat first|exact z_0|assumption|refine z_1 ?_);done)|refine z_r ?_);done)) (by rfl) ⟨rfl, rfl⟩) ?_
    refine js_O0 rfl rfl (.inl rfl) (xv_eql2 rfl rfl (fun hq => ?_) (fun hq => ?_))
    · refine js_S rfl rfl (.inl rfl) (xv_move rfl ⟨rfl, rfl⟩) ?_
      refine js_S rfl rfl (.inr ⟨_, _, rfl, rfl⟩) (xv_move rfl ⟨rfl, rfl⟩) ?_
      refine js_R0 rfl rfl (.inr ⟨_, _, rfl, rfl⟩) (xv_loadA ty42 rfl rfl (by ((repeat first|exact z_0|assumption|refine z_1 ?_|(refine z_l ?_;(repeat first|exact z_0|assumption|refine z_1 ?_);done)|refine z_r ?_);done)) (by ((try apply evl_some rfl);(repeat (first|exact (rfl : _ = [])|apply evl_cons rfl (by (first|exact v_1|exact v_2|exact v_3|exact v_4|exact v_5|exact v_6|exact v_7|exact v_8|exact v_9|exact rfl))|exact rfl)))) (by rfl) ⟨rfl, rfl⟩) ?_
      have hfk : force s.tars xo.hour = k := by (first|omega|(dsimp only at *;omega)|(simp at *;omega))
      have hz := (ofT_hit hko hfk).1
      refine js_O0 rfl rfl (.inr ⟨_, _, rfl, rfl⟩) (xv_fn rfl rfl (yieldTo (g := [(b5, .cells ⟨eMark xo⟩ 42 (0, 0))]) (hy _ _ hz _ hJ1) (fun h3 hJ3 => up_ret ?_) (fun h3 hJ3 => up_ret ?_)))
      · refine js_S rfl rfl (.inr ⟨_, _, rfl, rfl⟩) (xv_not rfl ⟨rfl, rfl⟩) ?_
        refine js_S rfl rfl (.inl rfl) (xv_pick rfl rfl ⟨rfl, rfl⟩) ?_
        refine j_end0 ?_
        refine th_n ?_
        refine xc_false rfl ?_
        refine xc_skip ?_
        refine bk_n ?_
        refine th_n ?_
        refine xc_region ?_
        refine xr_op rfl rfl (xv_add rfl rfl (wrap_i64 (by (first|omega|(dsimp only at *;omega)|(simp at *;omega))) (by (first|omega|(dsimp only at *;omega)|(simp at *;omega)))) ?_)
        refine xr_op rfl rfl (xv_move rfl ?_)
        refine xr_end rfl ?_
        exact rnd ((i + 1, h3) : Nat × Hp) ⟨by (first|omega|(dsimp only at *;omega)|(simp at *;omega)), by dsimp only; rw [(ofT_hit hko hfk).2]; exact hJ3⟩ (by (first|omega|(dsimp only at *;omega)|(simp at *;omega))) (le_put (le_put (le_put (le_put (le_put (le_put (le_emp _) rfl) rfl) rfl) rfl) rfl) rfl) (by (first|((repeat first|exact s_0|exact s_1|exact s_3|refine s_4 ?_|refine s_5 ?_|refine s_6 ?_|refine s_7 ?_);done)|((repeat first|exact s_0|exact s_1|exact s_3|refine s_4 ?_|refine s_5 ?_|refine s_6 ?_|refine s_8 ?_);done)))
      · refine js_S rfl rfl (.inr ⟨_, _, rfl, rfl⟩) (xv_not rfl ⟨rfl, rfl⟩) ?_
        refine js_S rfl rfl (.inl rfl) (xv_pick rfl rfl ⟨rfl, rfl⟩) ?_
        refine j_end0 ?_
        refine th_n ?_
        refine xc_true rfl ?_
        refine xc_ret ?_
        refine bk_r ?_
        refine th_r ?_
        refine th_r ?_
        refine bk_r ?_
        refine body_ret (h' := h3) rfl ro_nil (by (first|((repeat first|exact s_0|exact s_1|exact s_3|refine s_4 ?_|refine s_5 ?_|refine s_6 ?_|refine s_7 ?_);done)|((repeat first|exact s_0|exact s_1|exact s_3|refine s_4 ?_|refine s_5 ?_|refine s_6 ?_|refine s_8 ?_);done))) ?_
        exact ⟨⟨_, rfl⟩, .inr ⟨_, by have := (List.getElem?_eq_some_iff.1 hz).1; omega, hJ3⟩⟩
    · refine js_S rfl rfl (.inl rfl) (xv_move rfl ⟨rfl, rfl⟩) ?_
      refine js_Ss rfl rfl ⟨_, _, _, rfl, rfl, rfl⟩ ?_
      refine js_Rs rfl rfl ⟨_, _, _, rfl, rfl, rfl⟩ ?_
      refine js_Os rfl rfl ⟨_, _, _, rfl, rfl, rfl⟩ ?_
      refine js_Ss rfl rfl ⟨_, _, _, rfl, rfl, rfl⟩ ?_
      refine js_S rfl rfl (.inl rfl) (xv_pick rfl rfl ⟨rfl, rfl⟩) ?_
      refine j_end0 ?_
      refine th_n ?_
      refine xc_false rfl ?_
      refine xc_skip ?_
      refine bk_n ?_
      refine th_n ?_
      refine xc_region ?_
      refine xr_op rfl rfl (xv_add rfl rfl (wrap_i64 (by (first|omega|(dsimp only at *;omega)|(simp at *;omega))) (by (first|omega|(dsimp only at *;omega)|(simp at *;omega)))) ?_)
      refine xr_op rfl rfl (xv_move rfl ?_)
      refine xr_end rfl ?_
      exact rnd ((i + 1, h1) : Nat × Hp) ⟨by (first|omega|(dsimp only at *;omega)|(simp at *;omega)), by dsimp only; rw [ofT_miss hko (by (first|omega|(dsimp only at *;omega)|(simp at *;omega)))]; exact hJ1⟩ (by (first|omega|(dsimp only at *;omega)|(simp at *;omega))) (le_put (le_put (le_put (le_put (le_put (le_put (le_emp _) rfl) rfl) rfl) rfl) rfl) rfl) (by (first|((repeat first|exact s_0|exact s_1|exact s_3|refine s_4 ?_|refine s_5 ?_|refine s_6 ?_|refine s_7 ?_);done)|((repeat first|exact s_0|exact s_1|exact s_3|refine s_4 ?_|refine s_5 ?_|refine s_6 ?_|refine s_8 ?_);done)))
  · refine xr_end rfl ?_
    refine th_n ?_
    refine xc_seq ?_
    refine xc_false rfl ?_
    refine xc_exit ?_
    refine th_x ?_
    refine th_x ?_
    refine bk_same ?_
    refine body_end (h' := h1) rfl ro_nil (by (first|((repeat first|exact s_0|exact s_1|exact s_3|refine s_4 ?_|refine s_5 ?_|refine s_6 ?_|refine s_7 ?_);done)|((repeat first|exact s_0|exact s_1|exact s_3|refine s_4 ?_|refine s_5 ?_|refine s_6 ?_|refine s_8 ?_);done))) ?_
    exact ⟨⟨_, rfl⟩, .inl (by have hk9 : (dmS s).length = i := (by (first|omega|(dsimp only at *;omega)|(simp at *;omega))); rw [← hk9, List.take_length] at hJ1; exact hJ1)⟩

theorem of_c {b k : Nat} {h : Hp} {R : Ending → Hp → Prop} (H : ∀ b2 b3 : Nat, R (.returned (.func (.func 98) ⟨[]⟩ ⟨[.pointer (some ⟨b2, 0, none⟩), .pointer (some ⟨b3, 0, none⟩)]⟩)) ((b3, .cells ⟨[I (k : Int)]⟩ 3) :: (b2, .cells ⟨[.pointer (some ⟨b, 0, none⟩)]⟩ 60) :: h)) : ACalls Try.prog 80 ⟨[.pointer (some ⟨b, 0, none⟩), I k]⟩ h R := by
  refine calls_of_xc (N := 6) Try.func80 rfl (by rfl) ?_
  refine xc_seq (xc_region ?_)
  refine xr_op rfl rfl (xv_box rfl (fun b2 hb2 => ?_))
  refine xr_op rfl rfl (xv_box rfl (fun b3 hb3 => ?_))
  refine xr_op rfl rfl (xv_assign rfl ?_)
  refine xr_end rfl ?_
  refine th_n ?_
  refine xc_seq (xc_region ?_)
  refine xr_op rfl rfl (xv_func rfl rfl ?_)
  refine xr_op rfl rfl (xv_assign rfl ?_)
  refine xr_end rfl ?_
  refine th_n ?_
  refine xc_ret ?_
  refine body_ret (h' := ((b3, .cells ⟨[I (k : Int)]⟩ 3) :: (b2, .cells ⟨[.pointer (some ⟨b, 0, none⟩)]⟩ 60) :: h)) rfl (ro_tmp rfl ro_nil) (by (first|((repeat first|exact s_0|exact s_1|exact s_3|refine s_4 ?_|refine s_5 ?_|refine s_6 ?_|refine s_7 ?_);done)|((repeat first|exact s_0|exact s_1|exact s_3|refine s_4 ?_|refine s_5 ?_|refine s_6 ?_|refine s_8 ?_);done))) ?_
  exact H b2 b3

end Go.Proofs.Ytlcdbjgfeoagbaa

/-
  Walks.
-/
namespace Go.Proofs.Ytlcdbjgfeoagbaa
open Go Go.H
set_option maxRecDepth 100000
set_option maxHeartbeats 8000000
set_option linter.all false
theorem fits_c {s : Slot} {b : Nat} {ma : Option Addr} {mc : Nat} {h : Hp} {R : Ending → Hp → Prop} (hm : (b, .cells ⟨eMet s (.slice ma (dmS s).length mc)⟩ 70 (0, 0)) ∈ h) (hd : SlV h 2 eMark ma (dmS s)) (hs : SlotV h s) (hsm : Small s) (he : errS s = 0) {kt : Nat} {pen has : Int} (hk : kt < s.tars.length) (hp : 0 ≤ pen ∧ pen ≤ 24) (hh : 0 ≤ has ∧ has ≤ 10000000) (H : R (.returned (.bool (fitsB s kt pen has))) h) : ACalls Try.prog 60 ⟨[.pointer (some ⟨b, 0, none⟩), I kt, I pen, I has]⟩ h R := by
  refine calls_of_xc (N := 65) Try.func60 rfl (by rfl) ?_
  obtain ⟨hsl9, hsk⟩ := id hsm
  obtain ⟨hgs, htw, hcr⟩ := errS_0 he
  obtain ⟨⟨hn1, hn2⟩, ⟨hn3, hn4⟩, ⟨hn5, hn6⟩, hn7, hn8⟩ := id hgs.1
  obtain ⟨⟨hz1, hz2⟩, hz3⟩ := id hgs.2.1
  have hdl := dm_len hz3
  refine xc_seq (xc_region ?_)
  refine xr_op rfl rfl (xv_box rfl (fun b4 hb4 => ?_))
  refine xr_op rfl rfl (xv_box rfl (fun b5 hb5 => ?_))
  refine xr_op rfl rfl (xv_box rfl (fun b6 hb6 => ?_))
  refine xr_op rfl rfl (xv_box rfl (fun b7 hb7 => ?_))
  refine xr_op rfl rfl (xv_alloc ty4 (fun b8 hb8 => ?_))
  refine xr_end rfl ?_
  refine th_n ?_
  refine xc_seq ?_
  refine xc_draw0 [(0, .R), (1, .S), (2, .S), (3, .S), (4, .R), (5, .R), (6, .S), (7, .S), (8, .R), (9, .P), (10, .P), (9, .A), (10, .A), (11, .O), (12, .O)] mixed (by kernel_rfl) ?_
  refine js_R0 rfl rfl (.inl rfl) (xv_load1 ty60 rfl rfl (by ((repeat first|exact z_0|assumption|refine z_1 ?_|(refine z_l ?_;(repeat first|exact z_0|assumption|refine z_1 ?_);done)|refine z_r ?_);done)) (by rfl) ⟨rfl, rfl⟩) ?_
  refine js_S rfl rfl (.inl rfl) (xv_nilp rfl ⟨rfl, rfl⟩) ?_
  refine js_S rfl rfl (.inl rfl) (xv_faddr fl70_0 rfl ⟨rfl, rfl⟩) ?_
  refine js_S rfl rfl (.inl rfl) (xv_faddr fl25_4 rfl ⟨rfl, rfl⟩) ?_
  refine js_R0 rfl rfl (.inl rfl) (xv_load1 ty22 rfl rfl (by ((repeat first|exact z_0|assumption|refine z_1 ?_|(refine z_l ?_;(repeat first|exact z_0|assumption|refine z_1 ?_);done)|refine z_r ?_);done)) (by rfl) ⟨rfl, rfl⟩) ?_
  refine js_R0 rfl rfl (.inl rfl) (xv_load1 ty3 rfl rfl (by ((repeat first|exact z_0|assumption|refine z_1 ?_|(refine z_l ?_;(repeat first|exact z_0|assumption|refine z_1 ?_);done)|refine z_r ?_);done)) (by rfl) ⟨rfl, rfl⟩) ?_
  have hltt : kt < s.tars.length := by (first|omega|(dsimp only at *;omega)|(simp at *;omega))
  obtain ⟨bt, ot, lt, tt, fzt, hat, hmt, hxt⟩ := (hs.tars).at hltt
  obtain ⟨xt, hkt⟩ : ∃ qq_, s.tars[kt]? = some qq_ := ⟨_, List.getElem?_eq_getElem hltt⟩
  refine js_S rfl rfl (.inl rfl) (xv_ia (sz := 2) (j := kt) sl22 ty54 rfl (by rw [hat]; rfl) rfl (by (first | assumption | with_reducible exact Int.toNat_natCast _ | with_reducible rfl | rfl)) (by (first|omega|(dsimp only at *;omega)|(simp at *;omega))) (by (first|omega|(dsimp only at *;omega)|(simp at *;omega))) ⟨rfl, rfl⟩) ?_
  refine js_S rfl rfl (.inl rfl) (xv_faddr fl54_1 rfl ⟨rfl, rfl⟩) ?_
  refine js_R0 rfl rfl (.inl rfl) (xv_load1 ty3 rfl rfl (by ((repeat first|exact z_0|assumption|refine z_1 ?_|(refine z_l ?_;(repeat first|exact z_0|assumption|refine z_1 ?_);done)|refine z_r ?_);done)) (take_get (hxt (kt) xt hkt) (j := 1) rfl) ⟨rfl, rfl⟩) ?_
  refine js_P rfl rfl rfl (al_alloc ty3) ?_
  refine js_P rfl rfl rfl (al_alloc ty3) ?_
  refine js_A0 rfl rfl rfl rfl rfl trivial (fun b9 hb9 => ?_)
  refine js_A0 rfl rfl rfl rfl rfl trivial (fun b10 hb10 => ?_)
  refine js_O0 rfl rfl (.inl rfl) (xv_s1 ty3 rfl rfl rfl (by (first|(apply u_3;(repeat first|exact u_0|assumption|apply u_1|apply u_2);done)|((repeat first|exact u_0|assumption|apply u_1|apply u_2);done)|(apply u_3;apply u_3;(repeat first|exact u_0|assumption|apply u_1|apply u_2);done)|((repeat first|exact u_0|assumption|apply u_3|apply u_1);done))) (by (first | rfl | exact Vec.one _ _)) (by (first | decide | exact Nat.le_of_ble_eq_true rfl | (simp only [List.length_cons, List.length_nil]; omega) | (simp; done))) (by ((try apply evl_some rfl);(repeat (first|exact (rfl : _ = [])|apply evl_cons rfl (by (first|exact v_1|exact v_2|exact v_3|exact v_4|exact v_5|exact v_6|exact v_7|exact v_8|exact v_9|exact rfl))|exact rfl)))) ?_)
  refine js_O0 rfl rfl (.inl rfl) (xv_s1 ty3 rfl rfl rfl (by (first|(apply u_3;(repeat first|exact u_0|assumption|apply u_1|apply u_2);done)|((repeat first|exact u_0|assumption|apply u_1|apply u_2);done)|(apply u_3;apply u_3;(repeat first|exact u_0|assumption|apply u_1|apply u_2);done)|((repeat first|exact u_0|assumption|apply u_3|apply u_1);done))) (by (first | rfl | exact Vec.one _ _)) (by (first | decide | exact Nat.le_of_ble_eq_true rfl | (simp only [List.length_cons, List.length_nil]; omega) | (simp; done))) (by ((try apply evl_some rfl);(repeat (first|exact (rfl : _ = [])|apply evl_cons rfl (by (first|exact v_1|exact v_2|exact v_3|exact v_4|exact v_5|exact v_6|exact v_7|exact v_8|exact v_9|exact rfl))|exact rfl)))) ?_)
  refine j_end0 ?_
  refine th_n ?_
  refine xc_seq ?_
  refine xc_seq (xc_region ?_)
  have hfK := slot_feet hkt
  obtain ⟨f, hf0⟩ : ∃ q, xt.feet = q := ⟨_, rfl⟩
  rw [hf0]
  rw [hf0] at hfK
  have hf2 := feetK_1 hgs hk
  rw [hfK] at hf2
  obtain ⟨hf1, hf3⟩ := id hf2
  refine xr_op rfl rfl (xv_load1 ty60 rfl rfl (by ((repeat first|exact z_0|assumption|refine z_1 ?_|(refine z_l ?_;(repeat first|exact z_0|assumption|refine z_1 ?_);done)|refine z_r ?_);done)) (by rfl) ?_)
  refine xr_op rfl rfl (xv_load1 ty3 rfl rfl (by ((repeat first|exact z_0|assumption|refine z_1 ?_|(refine z_l ?_;(repeat first|exact z_0|assumption|refine z_1 ?_);done)|refine z_r ?_);done)) (by rfl) ?_)
  refine xr_op rfl rfl (xv_calls rfl hb80 (of_c (fun c2 c3 => up_ret ?_)))
  refine xr_end rfl ?_
  refine th_n ?_
  refine xc_block ?_
  refine xc_range2 (γ := Int) (fun x : Mark => [.agg ⟨eMark x⟩]) (ofT s kt (dmS s)) ((c3, .cells ⟨[I (kt : Int)]⟩ 3) :: (c2, .cells ⟨[.pointer (some ⟨b, 0, none⟩)]⟩ 60) :: h) rfl hb98 (ofIt (core := ((c3, .cells ⟨[I (kt : Int)]⟩ 3) :: (c2, .cells ⟨[.pointer (some ⟨b, 0, none⟩)]⟩ 60) :: h)) (by ((repeat first|exact z_0|assumption|refine z_1 ?_|(refine z_l ?_;(repeat first|exact z_0|assumption|refine z_1 ?_);done)|refine z_r ?_);done)) (hd.sub (by intro z hz; ((repeat first|exact z_0|assumption|refine z_1 ?_|(refine z_l ?_;(repeat first|exact z_0|assumption|refine z_1 ?_);done)|refine z_r ?_);done))) (hs.sub (by intro z hz; ((repeat first|exact z_0|assumption|refine z_1 ?_|(refine z_l ?_;(repeat first|exact z_0|assumption|refine z_1 ?_);done)|refine z_r ?_);done))) hsm he (by ((repeat first|exact z_0|assumption|refine z_1 ?_|(refine z_l ?_;(repeat first|exact z_0|assumption|refine z_1 ?_);done)|refine z_r ?_);done)) (by ((repeat first|exact z_0|assumption|refine z_1 ?_|(refine z_l ?_;(repeat first|exact z_0|assumption|refine z_1 ?_);done)|refine z_r ?_);done))) (fun x => rfl) (by decide) (((((((emp.put (some 4) (.pointer (some ⟨b4, 0, none⟩))).put (some 5) (.pointer (some ⟨b5, 0, none⟩))).put (some 6) (.pointer (some ⟨b6, 0, none⟩))).put (some 7) (.pointer (some ⟨b7, 0, none⟩))).put (some 8) (.pointer (some ⟨b8, 0, none⟩))).put (some 9) (.pointer (some ⟨b9, 0, none⟩))).put (some 10) (.pointer (some ⟨b10, 0, none⟩))) (fun k g => fitsP s kt pen has ((ofT s kt (dmS s)).take k) 0 = some g ∧ 0 ≤ g ∧ g ≤ pen) (fun k g => ((c3, .cells ⟨[I (kt : Int)]⟩ 3) :: (c2, .cells ⟨[.pointer (some ⟨b, 0, none⟩)]⟩ 60) :: (b10, .cells ⟨[I g]⟩ 3) :: (b9, .cells ⟨[I f]⟩ 3) :: (b8, .cells ⟨[.bool false]⟩ 4) :: (b7, .cells ⟨[I has]⟩ 3) :: (b6, .cells ⟨[I pen]⟩ 3) :: (b5, .cells ⟨[I (kt : Int)]⟩ 3) :: (b4, .cells ⟨[.pointer (some ⟨b, 0, none⟩)]⟩ 60) :: h)) (fun c j h9 => c = .ret ∧ fitsB s kt pen has = false ∧ List.Sublist ((b8, .cells ⟨[.bool false]⟩ 4 (0, 0)) :: h) h9) 0 (mon_bk (mon_th)) (le_put (le_put (le_put (le_put (le_put (le_put (le_put (le_emp _) rfl) rfl) rfl) rfl) rfl) rfl) rfl) ⟨rfl, Int.le_refl _, hp.1⟩ (by (first|((repeat first|exact s_0|exact s_1|exact s_3|refine s_4 ?_|refine s_5 ?_|refine s_6 ?_|refine s_7 ?_);done)|((repeat first|exact s_0|exact s_1|exact s_3|refine s_4 ?_|refine s_5 ?_|refine s_6 ?_|refine s_8 ?_);done))) (fun k g z hz => by simp only [List.mem_cons] at hz ⊢; rcases hz with hz | hz | hz <;> simp [hz]) ?_ (fun kd c j h9 hj hI9 hkd => by
    obtain ⟨rfl, hbad, hsub⟩ := hI9
    refine xc_ret (bk_r (th_r ?_))
    refine body_retM (h' := h) rfl (ro_cell ty4 rfl rfl (List.mem_cons_of_mem _ (hsub.subset List.mem_cons_self)) (by rfl) ro_nil) ((List.sublist_cons_self _ _).trans (hsub.trans (List.sublist_cons_self _ _))) List.mem_cons_self (nkeys (((List.sublist_cons_self _ _).trans hsub).subset) hkd) ?_
    rw [hbad] at H; exact H) ?_
  · intro ll j x gz hx ⟨hi1, hi2, hi3⟩
    obtain ⟨hxm, hxf⟩ := of_mem hx
    have hxb := dm_bd he hxm
    obtain ⟨⟨hx1, hx2⟩, hx3, hx4⟩ := id hxb
    have hgm := mul_bd (x := gz) (f := f) (by omega) (by omega)
    have hng := needP_ge (L := x.used - has) hf1 hi2
    refine xc_region ?_
    refine xr_op rfl rfl (xv_alloc ty42 (fun b11 hb11 => ?_))
    refine xr_op rfl rfl (xv_s ty42 rfl rfl (by (first|(apply u_3;(repeat first|exact u_0|assumption|apply u_1|apply u_2);done)|((repeat first|exact u_0|assumption|apply u_1|apply u_2);done)|(apply u_3;apply u_3;(repeat first|exact u_0|assumption|apply u_1|apply u_2);done)|((repeat first|exact u_0|assumption|apply u_3|apply u_1);done))) (by ((try apply evl_some rfl);(repeat (first|exact (rfl : _ = [])|apply evl_cons rfl (by (first|exact v_1|exact v_2|exact v_3|exact v_4|exact v_5|exact v_6|exact v_7|exact v_8|exact v_9|exact rfl))|exact rfl)))) (by rfl) (by rfl) (by rfl) (by ((try apply evl_some rfl);(repeat (first|exact (rfl : _ = [])|apply evl_cons rfl (by (first|exact v_1|exact v_2|exact v_3|exact v_4|exact v_5|exact v_6|exact v_7|exact v_8|exact v_9|exact rfl))|exact rfl)))) ?_)
    refine xr_end rfl ?_
    refine rndA_n ?_
    refine xc_block ?_
    refine xc_join (σ := Unit) (fun _ => True) (fun _ => ((((((((emp.put (some 4) (.pointer (some ⟨b4, 0, none⟩))).put (some 5) (.pointer (some ⟨b5, 0, none⟩))).put (some 6) (.pointer (some ⟨b6, 0, none⟩))).put (some 7) (.pointer (some ⟨b7, 0, none⟩))).put (some 8) (.pointer (some ⟨b8, 0, none⟩))).put (some 9) (.pointer (some ⟨b9, 0, none⟩))).put (some 10) (.pointer (some ⟨b10, 0, none⟩))).put (some 11) (.pointer (some ⟨b11, 0, none⟩)))) (fun _ => ((b11, .cells ⟨eMark x⟩ 42) :: ((c3, .cells ⟨[I (kt : Int)]⟩ 3) :: (c2, .cells ⟨[.pointer (some ⟨b, 0, none⟩)]⟩ 60) :: (b10, .cells ⟨[I (needP f (x.used - has) gz)]⟩ 3) :: (b9, .cells ⟨[I f]⟩ 3) :: (b8, .cells ⟨[.bool false]⟩ 4) :: (b7, .cells ⟨[I has]⟩ 3) :: (b6, .cells ⟨[I pen]⟩ 3) :: (b5, .cells ⟨[I (kt : Int)]⟩ 3) :: (b4, .cells ⟨[.pointer (some ⟨b, 0, none⟩)]⟩ 60) :: h))) ?_ ?_
    · refine xc_seq (xc_region ?_)
      refine xr_op rfl rfl (xv_faddr fl42_1 rfl ?_)
      refine xr_op rfl rfl (xv_load1 ty3 rfl rfl (by ((repeat first|exact z_0|assumption|refine z_1 ?_|(refine z_l ?_;(repeat first|exact z_0|assumption|refine z_1 ?_);done)|refine z_r ?_);done)) (by rfl) ?_)
      refine xr_op rfl rfl (xv_load1 ty3 rfl rfl (by ((repeat first|exact z_0|assumption|refine z_1 ?_|(refine z_l ?_;(repeat first|exact z_0|assumption|refine z_1 ?_);done)|refine z_r ?_);done)) (by rfl) ?_)
      refine xr_op rfl rfl (xv_sub rfl rfl (wrap_i64 (by (first|omega|(dsimp only at *;omega)|(simp at *;omega))) (by (first|omega|(dsimp only at *;omega)|(simp at *;omega)))) ?_)
      refine xr_op rfl rfl (xv_assign rfl ?_)
      refine xr_end rfl ?_
      refine th_n ?_
      refine xc_seq (xc_region ?_)
      refine xr_op rfl rfl (xv_move rfl ?_)
      refine xr_op rfl rfl (xv_load1 ty3 rfl rfl (by ((repeat first|exact z_0|assumption|refine z_1 ?_|(refine z_l ?_;(repeat first|exact z_0|assumption|refine z_1 ?_);done)|refine z_r ?_);done)) (by rfl) ?_)
      refine xr_op rfl rfl (xv_load1 ty3 rfl rfl (by ((repeat first|exact z_0|assumption|refine z_1 ?_|(refine z_l ?_;(repeat first|exact z_0|assumption|refine z_1 ?_);done)|refine z_r ?_);done)) (by rfl) ?_)
      refine xr_op rfl rfl (xv_mul rfl rfl (wrap_i64 (by (first|omega|(dsimp only at *;omega)|(simp at *;omega))) (by (first|omega|(dsimp only at *;omega)|(simp at *;omega)))) ?_)
      refine xr_op rfl rfl (xv_gtr2 rfl rfl (fun q3 => ?_) (fun q3 => ?_))
      · refine xr_end rfl ?_
        refine th_n ?_
        refine xc_true rfl ?_
        refine xc_region ?_
        have htd := tdiv_bd (a := x.used - has + f - 1) (f := f) (by (first|omega|(dsimp only at *;omega)|(simp at *;omega))) hf1
        refine xr_op rfl rfl (xv_move rfl ?_)
        refine xr_op rfl rfl (xv_load1 ty3 rfl rfl (by ((repeat first|exact z_0|assumption|refine z_1 ?_|(refine z_l ?_;(repeat first|exact z_0|assumption|refine z_1 ?_);done)|refine z_r ?_);done)) (by rfl) ?_)
        refine xr_op rfl rfl (xv_add rfl rfl (wrap_i64 (by (first|omega|(dsimp only at *;omega)|(simp at *;omega))) (by (first|omega|(dsimp only at *;omega)|(simp at *;omega)))) ?_)
        refine xr_op rfl rfl (xv_sub rfl rfl (wrap_i64 (by (first|omega|(dsimp only at *;omega)|(simp at *;omega))) (by (first|omega|(dsimp only at *;omega)|(simp at *;omega)))) ?_)
        refine xr_op rfl rfl (xv_load1 ty3 rfl rfl (by ((repeat first|exact z_0|assumption|refine z_1 ?_|(refine z_l ?_;(repeat first|exact z_0|assumption|refine z_1 ?_);done)|refine z_r ?_);done)) (by rfl) ?_)
        refine xr_op rfl rfl (xv_quo (c := (x.used - has + f - 1).tdiv f) rfl rfl (by omega) (wrap_i64 (by omega) (by omega)) ?_)
        refine xr_op rfl rfl (xv_s1 ty3 rfl rfl rfl (by (first|(apply u_3;(repeat first|exact u_0|assumption|apply u_1|apply u_2);done)|((repeat first|exact u_0|assumption|apply u_1|apply u_2);done)|(apply u_3;apply u_3;(repeat first|exact u_0|assumption|apply u_1|apply u_2);done)|((repeat first|exact u_0|assumption|apply u_3|apply u_1);done))) (by (first | rfl | exact Vec.one _ _)) (by (first | decide | exact Nat.le_of_ble_eq_true rfl | (simp only [List.length_cons, List.length_nil]; omega) | (simp; done))) (by ((try apply evl_some rfl);(repeat (first|exact (rfl : _ = [])|apply evl_cons rfl (by (first|exact v_1|exact v_2|exact v_3|exact v_4|exact v_5|exact v_6|exact v_7|exact v_8|exact v_9|exact rfl))|exact rfl)))) ?_)
        refine xr_end rfl ?_
        have hnp : (needP f (x.used - has) gz) = (x.used - has + f - 1).tdiv f := if_pos (by (first|omega|(dsimp only at *;omega)|(simp at *;omega)))
        exact jn_n () trivial (le_put (le_put (le_put (le_put (le_put (le_put (le_put (le_put (le_emp _) rfl) rfl) rfl) rfl) rfl) rfl) rfl) rfl) (by rw [hnp]; (first|((repeat first|exact s_0|exact s_1|exact s_3|refine s_4 ?_|refine s_5 ?_|refine s_6 ?_|refine s_7 ?_);done)|((repeat first|exact s_0|exact s_1|exact s_3|refine s_4 ?_|refine s_5 ?_|refine s_6 ?_|refine s_8 ?_);done)))
      · refine xr_end rfl ?_
        refine th_n ?_
        refine xc_false rfl ?_
        refine xc_skip ?_
        have hnp : (needP f (x.used - has) gz) = gz := if_neg (by (first|omega|(dsimp only at *;omega)|(simp at *;omega)))
        exact jn_n () trivial (le_put (le_put (le_put (le_put (le_put (le_put (le_put (le_put (le_emp _) rfl) rfl) rfl) rfl) rfl) rfl) rfl) rfl) (by rw [hnp]; (first|((repeat first|exact s_0|exact s_1|exact s_3|refine s_4 ?_|refine s_5 ?_|refine s_6 ?_|refine s_7 ?_);done)|((repeat first|exact s_0|exact s_1|exact s_3|refine s_4 ?_|refine s_5 ?_|refine s_6 ?_|refine s_8 ?_);done)))
    · rintro ⟨⟩ _
      refine xc_seq ?_
      refine xc_seq (xc_region ?_)
      refine xr_op rfl rfl (xv_load1 ty3 rfl rfl (by ((repeat first|exact z_0|assumption|refine z_1 ?_|(refine z_l ?_;(repeat first|exact z_0|assumption|refine z_1 ?_);done)|refine z_r ?_);done)) (by rfl) ?_)
      refine xr_op rfl rfl (xv_load1 ty3 rfl rfl (by ((repeat first|exact z_0|assumption|refine z_1 ?_|(refine z_l ?_;(repeat first|exact z_0|assumption|refine z_1 ?_);done)|refine z_r ?_);done)) (by rfl) ?_)
      refine xr_op rfl rfl (xv_gtr2 rfl rfl (fun q4 => ?_) (fun q4 => ?_))
      · refine xr_end rfl ?_
        refine th_n ?_
        refine xc_true rfl ?_
        refine xc_seq (xc_region ?_)
        refine xr_op rfl rfl (xv_s1 ty4 rfl rfl rfl (by (first|(apply u_3;(repeat first|exact u_0|assumption|apply u_1|apply u_2);done)|((repeat first|exact u_0|assumption|apply u_1|apply u_2);done)|(apply u_3;apply u_3;(repeat first|exact u_0|assumption|apply u_1|apply u_2);done)|((repeat first|exact u_0|assumption|apply u_3|apply u_1);done))) (by (first | rfl | exact Vec.one _ _)) (by (first | decide | exact Nat.le_of_ble_eq_true rfl | (simp only [List.length_cons, List.length_nil]; omega) | (simp; done))) (by ((try apply evl_some rfl);(repeat (first|exact (rfl : _ = [])|apply evl_cons rfl (by (first|exact v_1|exact v_2|exact v_3|exact v_4|exact v_5|exact v_6|exact v_7|exact v_8|exact v_9|exact rfl))|exact rfl)))) ?_)
        refine xr_end rfl ?_
        refine th_n ?_
        refine xc_ret ?_
        refine th_r ?_
        refine bk_r ?_
        exact rndQ_r ⟨rfl, fits_bad hi1 hx (by unfold stepP; rw [hfK]; exact if_pos (by (first|omega|(dsimp only at *;omega)|(simp at *;omega)))), by (first|((repeat first|exact s_0|exact s_1|exact s_3|refine s_4 ?_|refine s_5 ?_|refine s_6 ?_|refine s_7 ?_);done)|((repeat first|exact s_0|exact s_1|exact s_3|refine s_4 ?_|refine s_5 ?_|refine s_6 ?_|refine s_8 ?_);done))⟩
      · refine xr_end rfl ?_
        refine th_n ?_
        refine xc_false rfl ?_
        refine xc_skip ?_
        refine th_n ?_
        have hcb : 0 ≤ capP s kt pen x (needP f (x.used - has) gz) ∧ capP s kt pen x (needP f (x.used - has) gz) ≤ pen := by unfold capP; split <;> (first|omega|(dsimp only at *;omega)|(simp at *;omega))
        have hcm := mul_bd (x := capP s kt pen x (needP f (x.used - has) gz)) (f := f) (by omega) (by omega)
        refine xc_join (σ := Unit) (fun _ => True) (fun _ => ((((((((emp.put (some 4) (.pointer (some ⟨b4, 0, none⟩))).put (some 5) (.pointer (some ⟨b5, 0, none⟩))).put (some 6) (.pointer (some ⟨b6, 0, none⟩))).put (some 7) (.pointer (some ⟨b7, 0, none⟩))).put (some 8) (.pointer (some ⟨b8, 0, none⟩))).put (some 9) (.pointer (some ⟨b9, 0, none⟩))).put (some 10) (.pointer (some ⟨b10, 0, none⟩))).put (some 11) (.pointer (some ⟨b11, 0, none⟩)))) (fun _ => ((b11, .cells ⟨eMark x⟩ 42) :: ((c3, .cells ⟨[I (kt : Int)]⟩ 3) :: (c2, .cells ⟨[.pointer (some ⟨b, 0, none⟩)]⟩ 60) :: (b10, .cells ⟨[I (capP s kt pen x (needP f (x.used - has) gz))]⟩ 3) :: (b9, .cells ⟨[I f]⟩ 3) :: (b8, .cells ⟨[.bool false]⟩ 4) :: (b7, .cells ⟨[I has]⟩ 3) :: (b6, .cells ⟨[I pen]⟩ 3) :: (b5, .cells ⟨[I (kt : Int)]⟩ 3) :: (b4, .cells ⟨[.pointer (some ⟨b, 0, none⟩)]⟩ 60) :: h))) ?_ ?_
        · refine xc_seq ?_
          refine xc_draw0 [(0, .S), (1, .R), (2, .R), (3, .R), (4, .R), (5, .O)] mixed (by kernel_rfl) ?_
          refine js_S rfl rfl (.inl rfl) (xv_faddr fl42_0 rfl ⟨rfl, rfl⟩) ?_
          refine js_R0 rfl rfl (.inl rfl) (xv_load1 ty3 rfl rfl (by ((repeat first|exact z_0|assumption|refine z_1 ?_|(refine z_l ?_;(repeat first|exact z_0|assumption|refine z_1 ?_);done)|refine z_r ?_);done)) (by rfl) ⟨rfl, rfl⟩) ?_
          refine js_R0 rfl rfl (.inl rfl) (xv_load1 ty60 rfl rfl (by ((repeat first|exact z_0|assumption|refine z_1 ?_|(refine z_l ?_;(repeat first|exact z_0|assumption|refine z_1 ?_);done)|refine z_r ?_);done)) (by rfl) ⟨rfl, rfl⟩) ?_
          refine js_R0 rfl rfl (.inl rfl) (xv_load1 ty3 rfl rfl (by ((repeat first|exact z_0|assumption|refine z_1 ?_|(refine z_l ?_;(repeat first|exact z_0|assumption|refine z_1 ?_);done)|refine z_r ?_);done)) (by rfl) ⟨rfl, rfl⟩) ?_
          refine js_R0 rfl rfl (.inl rfl) (xv_calls rfl hb81 (end2_c (by ((repeat first|exact z_0|assumption|refine z_1 ?_|(refine z_l ?_;(repeat first|exact z_0|assumption|refine z_1 ?_);done)|refine z_r ?_);done)) (hd.sub (by intro z hz; ((repeat first|exact z_0|assumption|refine z_1 ?_|(refine z_l ?_;(repeat first|exact z_0|assumption|refine z_1 ?_);done)|refine z_r ?_);done))) (hs.sub (by intro z hz; ((repeat first|exact z_0|assumption|refine z_1 ?_|(refine z_l ?_;(repeat first|exact z_0|assumption|refine z_1 ?_);done)|refine z_r ?_);done))) hsm he hk (up_ret ⟨rfl, rfl⟩))) ?_
          refine js_O0 rfl rfl (.inl rfl) (xv_eql2 rfl rfl (fun hq => ?_) (fun hq => ?_))
          · refine j_end0 ?_
            refine th_n ?_
            refine xc_true rfl ?_
            refine xc_region ?_
            refine xr_op rfl rfl (xv_load1 ty3 rfl rfl (by ((repeat first|exact z_0|assumption|refine z_1 ?_|(refine z_l ?_;(repeat first|exact z_0|assumption|refine z_1 ?_);done)|refine z_r ?_);done)) (by rfl) ?_)
            refine xr_op rfl rfl (xv_s1 ty3 rfl rfl rfl (by (first|(apply u_3;(repeat first|exact u_0|assumption|apply u_1|apply u_2);done)|((repeat first|exact u_0|assumption|apply u_1|apply u_2);done)|(apply u_3;apply u_3;(repeat first|exact u_0|assumption|apply u_1|apply u_2);done)|((repeat first|exact u_0|assumption|apply u_3|apply u_1);done))) (by (first | rfl | exact Vec.one _ _)) (by (first | decide | exact Nat.le_of_ble_eq_true rfl | (simp only [List.length_cons, List.length_nil]; omega) | (simp; done))) (by ((try apply evl_some rfl);(repeat (first|exact (rfl : _ = [])|apply evl_cons rfl (by (first|exact v_1|exact v_2|exact v_3|exact v_4|exact v_5|exact v_6|exact v_7|exact v_8|exact v_9|exact rfl))|exact rfl)))) ?_)
            refine xr_end rfl ?_
            have hcp : capP s kt pen x (needP f (x.used - has) gz) = pen := if_pos (by (first|omega|(dsimp only at *;omega)|(simp at *;omega)))
            exact jn_n () trivial (le_put (le_put (le_put (le_put (le_put (le_put (le_put (le_put (le_emp _) rfl) rfl) rfl) rfl) rfl) rfl) rfl) rfl) (by rw [hcp]; (first|((repeat first|exact s_0|exact s_1|exact s_3|refine s_4 ?_|refine s_5 ?_|refine s_6 ?_|refine s_7 ?_);done)|((repeat first|exact s_0|exact s_1|exact s_3|refine s_4 ?_|refine s_5 ?_|refine s_6 ?_|refine s_8 ?_);done)))
          · refine j_end0 ?_
            refine th_n ?_
            refine xc_false rfl ?_
            refine xc_skip ?_
            have hcp : capP s kt pen x (needP f (x.used - has) gz) = (needP f (x.used - has) gz) := if_neg (by (first|omega|(dsimp only at *;omega)|(simp at *;omega)))
            exact jn_n () trivial (le_put (le_put (le_put (le_put (le_put (le_put (le_put (le_put (le_emp _) rfl) rfl) rfl) rfl) rfl) rfl) rfl) rfl) (by rw [hcp]; (first|((repeat first|exact s_0|exact s_1|exact s_3|refine s_4 ?_|refine s_5 ?_|refine s_6 ?_|refine s_7 ?_);done)|((repeat first|exact s_0|exact s_1|exact s_3|refine s_4 ?_|refine s_5 ?_|refine s_6 ?_|refine s_8 ?_);done)))
        · rintro ⟨⟩ _
          refine xc_seq ?_
          refine xc_draw0 [(0, .R), (1, .R), (2, .R), (3, .S), (4, .S), (5, .S), (6, .R), (7, .R), (8, .S), (9, .S), (10, .S), (11, .R), (12, .S), (13, .O)] mixed (by kernel_rfl) ?_
          refine js_R0 rfl rfl (.inl rfl) (xv_load1 ty3 rfl rfl (by ((repeat first|exact z_0|assumption|refine z_1 ?_|(refine z_l ?_;(repeat first|exact z_0|assumption|refine z_1 ?_);done)|refine z_r ?_);done)) (by rfl) ⟨rfl, rfl⟩) ?_
          refine js_R0 rfl rfl (.inl rfl) (xv_load1 ty3 rfl rfl (by ((repeat first|exact z_0|assumption|refine z_1 ?_|(refine z_l ?_;(repeat first|exact z_0|assumption|refine z_1 ?_);done)|refine z_r ?_);done)) (by rfl) ⟨rfl, rfl⟩) ?_
          refine js_R0 rfl rfl (.inl rfl) (xv_load1 ty3 rfl rfl (by ((repeat first|exact z_0|assumption|refine z_1 ?_|(refine z_l ?_;(repeat first|exact z_0|assumption|refine z_1 ?_);done)|refine z_r ?_);done)) (by rfl) ⟨rfl, rfl⟩) ?_
          refine js_S rfl rfl (.inl rfl) (xv_mul rfl rfl (wrap_i64 (by (first|omega|(dsimp only at *;omega)|(simp at *;omega))) (by (first|omega|(dsimp only at *;omega)|(simp at *;omega)))) ⟨rfl, rfl⟩) ?_
          refine js_S rfl rfl (.inl rfl) (xv_add rfl rfl (wrap_i64 (by (first|omega|(dsimp only at *;omega)|(simp at *;omega))) (by (first|omega|(dsimp only at *;omega)|(simp at *;omega)))) ⟨rfl, rfl⟩) ?_
          refine js_S rfl rfl (.inl rfl) (xv_faddr fl42_1 rfl ⟨rfl, rfl⟩) ?_
          refine js_R0 rfl rfl (.inl rfl) (xv_load1 ty3 rfl rfl (by ((repeat first|exact z_0|assumption|refine z_1 ?_|(refine z_l ?_;(repeat first|exact z_0|assumption|refine z_1 ?_);done)|refine z_r ?_);done)) (by rfl) ⟨rfl, rfl⟩) ?_
          refine js_R0 rfl rfl (.inl rfl) (xv_load1 ty60 rfl rfl (by ((repeat first|exact z_0|assumption|refine z_1 ?_|(refine z_l ?_;(repeat first|exact z_0|assumption|refine z_1 ?_);done)|refine z_r ?_);done)) (by rfl) ⟨rfl, rfl⟩) ?_
          refine js_S rfl rfl (.inl rfl) (xv_nilp rfl ⟨rfl, rfl⟩) ?_
          refine js_S rfl rfl (.inl rfl) (xv_faddr fl70_0 rfl ⟨rfl, rfl⟩) ?_
          refine js_S rfl rfl (.inl rfl) (xv_faddr fl25_1 rfl ⟨rfl, rfl⟩) ?_
          refine js_R0 rfl rfl (.inl rfl) (xv_load1 ty3 rfl rfl (by ((repeat first|exact z_0|assumption|refine z_1 ?_|(refine z_l ?_;(repeat first|exact z_0|assumption|refine z_1 ?_);done)|refine z_r ?_);done)) (by rfl) ⟨rfl, rfl⟩) ?_
          refine js_S rfl rfl (.inl rfl) (xv_add rfl rfl (wrap_i64 (by (first|omega|(dsimp only at *;omega)|(simp at *;omega))) (by (first|omega|(dsimp only at *;omega)|(simp at *;omega)))) ⟨rfl, rfl⟩) ?_
          refine js_O0 rfl rfl (.inl rfl) (xv_gtr2 rfl rfl (fun hq => ?_) (fun hq => ?_))
          · refine j_end0 ?_
            refine th_n ?_
            refine xc_true rfl ?_
            refine xc_seq (xc_region ?_)
            refine xr_op rfl rfl (xv_s1 ty4 rfl rfl rfl (by (first|(apply u_3;(repeat first|exact u_0|assumption|apply u_1|apply u_2);done)|((repeat first|exact u_0|assumption|apply u_1|apply u_2);done)|(apply u_3;apply u_3;(repeat first|exact u_0|assumption|apply u_1|apply u_2);done)|((repeat first|exact u_0|assumption|apply u_3|apply u_1);done))) (by (first | rfl | exact Vec.one _ _)) (by (first | decide | exact Nat.le_of_ble_eq_true rfl | (simp only [List.length_cons, List.length_nil]; omega) | (simp; done))) (by ((try apply evl_some rfl);(repeat (first|exact (rfl : _ = [])|apply evl_cons rfl (by (first|exact v_1|exact v_2|exact v_3|exact v_4|exact v_5|exact v_6|exact v_7|exact v_8|exact v_9|exact rfl))|exact rfl)))) ?_)
            refine xr_end rfl ?_
            refine th_n ?_
            refine xc_ret ?_
            refine bk_r ?_
            exact rndQ_r ⟨rfl, fits_bad hi1 hx (by unfold stepP; rw [hfK, if_neg (by (first|omega|(dsimp only at *;omega)|(simp at *;omega)))]; exact if_pos (by (first|omega|(dsimp only at *;omega)|(simp at *;omega)))), by (first|((repeat first|exact s_0|exact s_1|exact s_3|refine s_4 ?_|refine s_5 ?_|refine s_6 ?_|refine s_7 ?_);done)|((repeat first|exact s_0|exact s_1|exact s_3|refine s_4 ?_|refine s_5 ?_|refine s_6 ?_|refine s_8 ?_);done))⟩
          · refine j_end0 ?_
            refine th_n ?_
            refine xc_false rfl ?_
            refine xc_skip ?_
            refine bk_n ?_
            exact rndQ_n (capP s kt pen x (needP f (x.used - has) gz)) ⟨by rw [fitsP_take hi1 hx]; unfold stepP; rw [hfK, if_neg (by (first|omega|(dsimp only at *;omega)|(simp at *;omega)))]; exact if_neg (by (first|omega|(dsimp only at *;omega)|(simp at *;omega))), by (first|omega|(dsimp only at *;omega)|(simp at *;omega)), by (first|omega|(dsimp only at *;omega)|(simp at *;omega))⟩ (by (first|((repeat first|exact s_0|exact s_1|exact s_3|refine s_4 ?_|refine s_5 ?_|refine s_6 ?_|refine s_7 ?_);done)|((repeat first|exact s_0|exact s_1|exact s_3|refine s_4 ?_|refine s_5 ?_|refine s_6 ?_|refine s_8 ?_);done)))
  · intro kd g hi hkd
    obtain ⟨hi1, hi2, hi3⟩ := hi
    refine bk_n ?_
    refine th_n ?_
    refine xc_seq (xc_region ?_)
    refine xr_op rfl rfl (xv_s1 ty4 rfl rfl rfl (by (first|(apply u_3;(repeat first|exact u_0|assumption|apply u_1|apply u_2);done)|((repeat first|exact u_0|assumption|apply u_1|apply u_2);done)|(apply u_3;apply u_3;(repeat first|exact u_0|assumption|apply u_1|apply u_2);done)|((repeat first|exact u_0|assumption|apply u_3|apply u_1);done))) (by (first | rfl | exact Vec.one _ _)) (by (first | decide | exact Nat.le_of_ble_eq_true rfl | (simp only [List.length_cons, List.length_nil]; omega) | (simp; done))) (by ((try apply evl_some rfl);(repeat (first|exact (rfl : _ = [])|apply evl_cons rfl (by (first|exact v_1|exact v_2|exact v_3|exact v_4|exact v_5|exact v_6|exact v_7|exact v_8|exact v_9|exact rfl))|exact rfl)))) ?_)
    refine xr_end rfl ?_
    refine th_n ?_
    refine xc_ret ?_
    refine body_retM (h' := h) rfl (ro_cell ty4 rfl rfl (by ((repeat first|exact z_0|assumption|refine z_1 ?_|(refine z_l ?_;(repeat first|exact z_0|assumption|refine z_1 ?_);done)|refine z_r ?_);done)) (by rfl) ro_nil) (by (first|((repeat first|exact s_0|exact s_1|exact s_3|refine s_4 ?_|refine s_5 ?_|refine s_6 ?_|refine s_7 ?_);done)|((repeat first|exact s_0|exact s_1|exact s_3|refine s_4 ?_|refine s_5 ?_|refine s_6 ?_|refine s_8 ?_);done))) (by ((repeat first|exact z_0|assumption|refine z_1 ?_|(refine z_l ?_;(repeat first|exact z_0|assumption|refine z_1 ?_);done)|refine z_r ?_);done)) (nkeys (by intro z hz; ((repeat first|exact z_0|assumption|refine z_1 ?_|(refine z_l ?_;(repeat first|exact z_0|assumption|refine z_1 ?_);done)|refine z_r ?_);done)) hkd) ?_
    (rw [fits_ok hi1] at H; exact H)

end Go.Proofs.Ytlcdbjgfeoagbaa
