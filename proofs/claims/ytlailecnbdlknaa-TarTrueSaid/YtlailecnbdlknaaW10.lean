/-
  Walks.
-/
import Derived.Test.YtlailecnbdlknaaW9
namespace Go.Proofs.Ytlailecnbdlknaa
open Go Go.H
set_option maxRecDepth 100000
set_option maxHeartbeats 2000000
set_option linter.all false
theorem insertion_c {b cap : Nat} {sp : List Value} {xs : List Int} {f : Value} {cm : Int → Int → Int} {L : Hp} {R : Ending → Hp → Prop} (hc : Cmp cm) (hn : xs.length ≤ 12)
    (hf : ∀ i k, i ∈ xs → k ∈ xs → ∀ H R', L ⊆ H → R' (.returned (I (cm i k))) H → AFn Try.prog f [I i, I k] H R')
    (H : ∀ zs : List Int, zs.Perm xs → zs.Pairwise (fun a b => ¬ cm b a < 0) → R (.returned (.tuple #[])) ((b, .cells ⟨zs.flatMap eI ++ sp⟩ 3) :: L)) :
    ACalls Try.prog 61 ⟨[.slice (some ⟨b, 0, none⟩) xs.length cap, I 0, I xs.length, f]⟩ ((b, .cells ⟨xs.flatMap eI ++ sp⟩ 3) :: L) R := by
  refine calls_of_xc (N := 53) Try.func61 rfl (by rfl) ?_
  refine xc_seq (xc_region ?_)
  refine xr_op rfl rfl (xv_move rfl ?_)
  refine xr_op rfl rfl (xv_add rfl rfl (wrap_i64 (by (first | omega | (dsimp only at *; omega) | (simp at *; omega))) (by (first | omega | (dsimp only at *; omega) | (simp at *; omega)))) ?_)
  refine xr_op rfl rfl (xv_assign rfl ?_)
  refine xr_end rfl ?_
  refine th_n ?_
  refine xc_block ?_
  refine xc_loop (σ := Nat × List Int) (fun z => 1 ≤ z.1 ∧ z.1 ≤ xs.length + 1 ∧ Srt cm xs z.2 z.1) (fun z => (((((emp.put (some 0) (.slice (some ⟨b, 0, none⟩) xs.length cap)).put (some 1) (I 0)).put (some 2) (I xs.length)).put (some 3) (f)).put (some 8) (I z.1))) (fun z => ((b, .cells ⟨z.2.flatMap eI ++ sp⟩ 3) :: L)) (fun z => xs.length + 1 - z.1) ((1, xs) : Nat × List Int) ⟨Nat.le_refl _, by dsimp only; omega, Srt.one⟩ (le_put (le_put (le_put (le_put (le_put (le_emp _) rfl) rfl) rfl) rfl) rfl) (by (first|((repeat first|exact s_0|exact s_1|exact s_3|refine s_4 ?_|refine s_5 ?_|refine s_6 ?_|refine s_7 ?_);done)|((repeat first|exact s_0|exact s_1|exact s_3|refine s_4 ?_|refine s_5 ?_|refine s_6 ?_|refine s_8 ?_);done))) ?_
  rintro ⟨i, ws⟩ ⟨hi1, hi2, hsr⟩
  dsimp only at hi1 hi2 hsr
  refine xc_seq ?_
  refine xc_seq (xc_region ?_)
  refine xr_op rfl rfl (xv_move rfl ?_)
  refine xr_op rfl rfl (xv_move rfl ?_)
  refine xr_op rfl rfl (xv_lss2 rfl rfl (fun q1 => ?_) (fun q1 => ?_))
  · refine xr_end rfl ?_
    refine th_n ?_
    refine xc_true rfl ?_
    refine xc_skip ?_
    refine th_n ?_
    refine xc_seq ?_
    refine xc_block ?_
    refine xc_seq (xc_region ?_)
    refine xr_op rfl rfl (xv_move rfl ?_)
    refine xr_op rfl rfl (xv_assign rfl ?_)
    refine xr_end rfl ?_
    refine th_n ?_
    refine xc_block ?_
    refine xc_loop (σ := Nat × List Int) (fun z => Ins cm xs z.2 i z.1) (fun z => ((((((emp.put (some 0) (.slice (some ⟨b, 0, none⟩) xs.length cap)).put (some 1) (I 0)).put (some 2) (I xs.length)).put (some 3) (f)).put (some 8) (I i)).put (some 9) (I z.1))) (fun z => ((b, .cells ⟨z.2.flatMap eI ++ sp⟩ 3) :: L)) (fun z => z.1) ((i, ws) : Nat × List Int) hsr.ins (le_put (le_put (le_put (le_put (le_put (le_put (le_emp _) rfl) rfl) rfl) rfl) rfl) rfl) (by (first|((repeat first|exact s_0|exact s_1|exact s_3|refine s_4 ?_|refine s_5 ?_|refine s_6 ?_|refine s_7 ?_);done)|((repeat first|exact s_0|exact s_1|exact s_3|refine s_4 ?_|refine s_5 ?_|refine s_6 ?_|refine s_8 ?_);done))) ?_
    rintro ⟨j, zs⟩ hin
    dsimp only at hin
    have hji := hin.ji
    have hpl := hin.perm.length_eq
    have hilt : i < xs.length := by (first | omega | (dsimp only at *; omega) | (simp at *; omega))
    have hjlt : j < zs.length := by omega
    refine xc_seq ?_
    refine xc_seq ?_
    rcases Nat.eq_zero_or_pos j with hj0 | hj0
    · refine xc_draw0 [(0, .S), (1, .S), (2, .S), (3, .S), (4, .S), (5, .S), (6, .S), (7, .S), (8, .R), (9, .S), (10, .S), (11, .S), (12, .S), (13, .R), (14, .R), (15, .S), (16, .S)] mixed (by kernel_rfl) ?_
      have hej : zs[j]? = some (nat zs j) := by rw [nat_eq hjlt]; exact List.getElem?_eq_getElem hjlt
      have hek : zs[j - 1]? = some (nat zs (j - 1)) := by rw [nat_eq (show j - 1 < zs.length by omega)]; exact List.getElem?_eq_getElem (by omega)
      have hmj : nat zs j ∈ xs := hin.perm.mem_iff.1 (List.mem_of_getElem? hej)
      have hmk : nat zs (j - 1) ∈ xs := hin.perm.mem_iff.1 (List.mem_of_getElem? hek)
      refine js_S rfl rfl (.inl rfl) (xv_move rfl ⟨rfl, rfl⟩) ?_
      refine js_S rfl rfl (.inl rfl) (xv_move rfl ⟨rfl, rfl⟩) ?_
      refine js_S rfl rfl (.inl rfl) (xv_cmpK rfl rfl (cmpF rfl (by simp only [cmpP]; omega)) ⟨rfl, rfl⟩) ?_
      refine js_S rfl rfl (.inl rfl) (xv_move rfl ⟨rfl, rfl⟩) ?_
      refine js_Ss rfl rfl ⟨_, _, _, rfl, rfl, rfl⟩ ?_
      refine js_Ss rfl rfl ⟨_, _, _, rfl, rfl, rfl⟩ ?_
      refine js_Ss rfl rfl ⟨_, _, _, rfl, rfl, rfl⟩ ?_
      refine js_Ss rfl rfl ⟨_, _, _, rfl, rfl, rfl⟩ ?_
      refine js_Rs rfl rfl ⟨_, _, _, rfl, rfl, rfl⟩ ?_
      refine js_Ss rfl rfl ⟨_, _, _, rfl, rfl, rfl⟩ ?_
      refine js_Ss rfl rfl ⟨_, _, _, rfl, rfl, rfl⟩ ?_
      refine js_Ss rfl rfl ⟨_, _, _, rfl, rfl, rfl⟩ ?_
      refine js_Ss rfl rfl ⟨_, _, _, rfl, rfl, rfl⟩ ?_
      refine js_Rs rfl rfl ⟨_, _, _, rfl, rfl, rfl⟩ ?_
      refine js_Rs rfl rfl ⟨_, _, _, rfl, rfl, rfl⟩ ?_
      refine js_Ss rfl rfl ⟨_, _, _, rfl, rfl, rfl⟩ ?_
      refine js_S rfl rfl (.inl rfl) (xv_pick rfl rfl ⟨rfl, rfl⟩) ?_
      refine j_end0 ?_
      refine th_n ?_
      refine xc_false rfl ?_
      refine xc_exit ?_
      refine th_x ?_
      refine th_x ?_
      refine bk_same ?_
      refine bk_n ?_
      refine th_n ?_
      refine xc_region ?_
      refine xr_op rfl rfl (xv_move rfl ?_)
      refine xr_op rfl rfl (xv_add rfl rfl (wrap_i64 (by (first | omega | (dsimp only at *; omega) | (simp at *; omega))) (by (first | omega | (dsimp only at *; omega) | (simp at *; omega)))) ?_)
      refine xr_op rfl rfl (xv_assign rfl ?_)
      refine xr_end rfl ?_
      have hdone : Srt cm xs zs (i + 1) := by first | exact hin.done hc hj0 (by (first | omega | (dsimp only at *; omega) | (simp at *; omega))) | (subst hj0; exact hin.done0)
      exact rnd ((i + 1, zs) : Nat × List Int) ⟨by (first | omega | (dsimp only at *; omega) | (simp at *; omega)), by (first | omega | (dsimp only at *; omega) | (simp at *; omega)), hdone⟩ (by (first | omega | (dsimp only at *; omega) | (simp at *; omega))) (le_put (le_put (le_put (le_put (le_put (le_emp _) rfl) rfl) rfl) rfl) rfl) (by (first|((repeat first|exact s_0|exact s_1|exact s_3|refine s_4 ?_|refine s_5 ?_|refine s_6 ?_|refine s_7 ?_);done)|((repeat first|exact s_0|exact s_1|exact s_3|refine s_4 ?_|refine s_5 ?_|refine s_6 ?_|refine s_8 ?_);done)))
    · refine xc_draw0 [(0, .S), (1, .S), (2, .S), (3, .S), (4, .S), (5, .S), (6, .S), (7, .S), (8, .R), (9, .S), (10, .S), (11, .S), (12, .S), (13, .R), (14, .R), (15, .S), (16, .S)] mixed (by kernel_rfl) ?_
      have hej : zs[j]? = some (nat zs j) := by rw [nat_eq hjlt]; exact List.getElem?_eq_getElem hjlt
      have hek : zs[j - 1]? = some (nat zs (j - 1)) := by rw [nat_eq (show j - 1 < zs.length by omega)]; exact List.getElem?_eq_getElem (by omega)
      have hmj : nat zs j ∈ xs := hin.perm.mem_iff.1 (List.mem_of_getElem? hej)
      have hmk : nat zs (j - 1) ∈ xs := hin.perm.mem_iff.1 (List.mem_of_getElem? hek)
      refine js_S rfl rfl (.inl rfl) (xv_move rfl ⟨rfl, rfl⟩) ?_
      refine js_S rfl rfl (.inl rfl) (xv_move rfl ⟨rfl, rfl⟩) ?_
      refine js_S rfl rfl (.inl rfl) (xv_cmpK rfl rfl (cmpT (show (0 : Int) < j by omega)) ⟨rfl, rfl⟩) ?_
      refine js_S rfl rfl (.inl rfl) (xv_move rfl ⟨rfl, rfl⟩) ?_
      refine js_S rfl rfl (.inr ⟨_, _, rfl, rfl⟩) (xv_move rfl ⟨rfl, rfl⟩) ?_
      refine js_S rfl rfl (.inr ⟨_, _, rfl, rfl⟩) (xv_move rfl ⟨rfl, rfl⟩) ?_
      refine js_S rfl rfl (.inr ⟨_, _, rfl, rfl⟩) (xv_move rfl ⟨rfl, rfl⟩) ?_
      refine js_S rfl rfl (.inr ⟨_, _, rfl, rfl⟩) (xv_ia (sz := 1) (j := j) sl22 ty3 rfl rfl rfl (Int.toNat_natCast j) (by omega) (by omega) ⟨rfl, rfl⟩) ?_
      refine js_R0 rfl rfl (.inr ⟨_, _, rfl, rfl⟩) (xv_load1 ty3 rfl rfl (by (first|((repeat first|exact z_0|assumption|refine z_1 ?_|refine z_r ?_);done)|((repeat refine z_1 ?_);refine z_l ?_;(repeat first|exact z_0|assumption|refine z_1 ?_|refine z_r ?_);done)|((repeat refine z_1 ?_);refine z_r ?_;(repeat refine z_1 ?_);refine z_l ?_;(repeat first|exact z_0|assumption|refine z_1 ?_|refine z_r ?_);done)|((repeat first|exact z_0|assumption|refine z_1 ?_|refine z_l ?_);done))) (ints_at (zs := []) hej) ⟨rfl, rfl⟩) ?_
      refine js_S rfl rfl (.inr ⟨_, _, rfl, rfl⟩) (xv_move rfl ⟨rfl, rfl⟩) ?_
      refine js_S rfl rfl (.inr ⟨_, _, rfl, rfl⟩) (xv_move rfl ⟨rfl, rfl⟩) ?_
      refine js_S rfl rfl (.inr ⟨_, _, rfl, rfl⟩) (xv_sub rfl rfl (wrap_i64 (by (first | omega | (dsimp only at *; omega) | (simp at *; omega))) (by (first | omega | (dsimp only at *; omega) | (simp at *; omega)))) ⟨rfl, rfl⟩) ?_
      refine js_S rfl rfl (.inr ⟨_, _, rfl, rfl⟩) (xv_ia (sz := 1) (j := j - 1) sl22 ty3 rfl rfl rfl (by omega) (by omega) (by omega) ⟨rfl, rfl⟩) ?_
      refine js_R0 rfl rfl (.inr ⟨_, _, rfl, rfl⟩) (xv_load1 ty3 rfl rfl (by (first|((repeat first|exact z_0|assumption|refine z_1 ?_|refine z_r ?_);done)|((repeat refine z_1 ?_);refine z_l ?_;(repeat first|exact z_0|assumption|refine z_1 ?_|refine z_r ?_);done)|((repeat refine z_1 ?_);refine z_r ?_;(repeat refine z_1 ?_);refine z_l ?_;(repeat first|exact z_0|assumption|refine z_1 ?_|refine z_r ?_);done)|((repeat first|exact z_0|assumption|refine z_1 ?_|refine z_l ?_);done))) (ints_at (zs := []) hek) ⟨rfl, rfl⟩) ?_
      refine js_R0 rfl rfl (.inr ⟨_, _, rfl, rfl⟩) (xv_fn rfl rfl (hf _ _ hmj hmk _ _ (by intro z hz; (first|((repeat first|exact z_0|assumption|refine z_1 ?_|refine z_r ?_);done)|((repeat refine z_1 ?_);refine z_l ?_;(repeat first|exact z_0|assumption|refine z_1 ?_|refine z_r ?_);done)|((repeat refine z_1 ?_);refine z_r ?_;(repeat refine z_1 ?_);refine z_l ?_;(repeat first|exact z_0|assumption|refine z_1 ?_|refine z_r ?_);done)|((repeat first|exact z_0|assumption|refine z_1 ?_|refine z_l ?_);done))) (up_ret ⟨rfl, rfl⟩))) ?_
      refine js_S rfl rfl (.inr ⟨_, _, rfl, rfl⟩) (xv_cmp rfl rfl rfl ⟨rfl, rfl⟩) ?_
      refine js_S rfl rfl (.inl rfl) (xv_pick rfl rfl ⟨rfl, rfl⟩) ?_
      refine j_end0 ?_
      refine th_n ?_
      refine xc_bool rfl (fun q2 => ?_) (fun q2 => ?_)
      · refine xc_skip ?_
        refine th_n ?_
        refine xc_seq ?_
        refine xc_block ?_
        refine xc_draw0 [(0, .S), (1, .S), (2, .S), (3, .S), (4, .S), (5, .S), (6, .S), (7, .S), (8, .S), (9, .R), (10, .S), (11, .S), (12, .S), (13, .R), (14, .S), (15, .O), (16, .S), (17, .O)] mixed (by kernel_rfl) ?_
        refine js_S rfl rfl (.inl rfl) (xv_move rfl ⟨rfl, rfl⟩) ?_
        refine js_S rfl rfl (.inl rfl) (xv_move rfl ⟨rfl, rfl⟩) ?_
        refine js_S rfl rfl (.inl rfl) (xv_move rfl ⟨rfl, rfl⟩) ?_
        refine js_S rfl rfl (.inl rfl) (xv_move rfl ⟨rfl, rfl⟩) ?_
        refine js_S rfl rfl (.inl rfl) (xv_sub rfl rfl (wrap_i64 (by (first | omega | (dsimp only at *; omega) | (simp at *; omega))) (by (first | omega | (dsimp only at *; omega) | (simp at *; omega)))) ⟨rfl, rfl⟩) ?_
        refine js_S rfl rfl (.inl rfl) (xv_move rfl ⟨rfl, rfl⟩) ?_
        refine js_S rfl rfl (.inl rfl) (xv_move rfl ⟨rfl, rfl⟩) ?_
        refine js_S rfl rfl (.inl rfl) (xv_sub rfl rfl (wrap_i64 (by (first | omega | (dsimp only at *; omega) | (simp at *; omega))) (by (first | omega | (dsimp only at *; omega) | (simp at *; omega)))) ⟨rfl, rfl⟩) ?_
        refine js_S rfl rfl (.inl rfl) (xv_ia (sz := 1) (j := j - 1) sl22 ty3 rfl rfl rfl (by omega) (by omega) (by omega) ⟨rfl, rfl⟩) ?_
        refine js_R0 rfl rfl (.inl rfl) (xv_load1 ty3 rfl rfl (by (first|((repeat first|exact z_0|assumption|refine z_1 ?_|refine z_r ?_);done)|((repeat refine z_1 ?_);refine z_l ?_;(repeat first|exact z_0|assumption|refine z_1 ?_|refine z_r ?_);done)|((repeat refine z_1 ?_);refine z_r ?_;(repeat refine z_1 ?_);refine z_l ?_;(repeat first|exact z_0|assumption|refine z_1 ?_|refine z_r ?_);done)|((repeat first|exact z_0|assumption|refine z_1 ?_|refine z_l ?_);done))) (ints_at (zs := []) hek) ⟨rfl, rfl⟩) ?_
        refine js_S rfl rfl (.inl rfl) (xv_move rfl ⟨rfl, rfl⟩) ?_
        refine js_S rfl rfl (.inl rfl) (xv_move rfl ⟨rfl, rfl⟩) ?_
        refine js_S rfl rfl (.inl rfl) (xv_ia (sz := 1) (j := j) sl22 ty3 rfl rfl rfl (Int.toNat_natCast j) (by omega) (by omega) ⟨rfl, rfl⟩) ?_
        refine js_R0 rfl rfl (.inl rfl) (xv_load1 ty3 rfl rfl (by (first|((repeat first|exact z_0|assumption|refine z_1 ?_|refine z_r ?_);done)|((repeat refine z_1 ?_);refine z_l ?_;(repeat first|exact z_0|assumption|refine z_1 ?_|refine z_r ?_);done)|((repeat refine z_1 ?_);refine z_r ?_;(repeat refine z_1 ?_);refine z_l ?_;(repeat first|exact z_0|assumption|refine z_1 ?_|refine z_r ?_);done)|((repeat first|exact z_0|assumption|refine z_1 ?_|refine z_l ?_);done))) (ints_at (zs := []) hej) ⟨rfl, rfl⟩) ?_
        refine js_S rfl rfl (.inl rfl) (xv_ia (sz := 1) (j := j) sl22 ty3 rfl rfl rfl (Int.toNat_natCast j) (by omega) (by omega) ⟨rfl, rfl⟩) ?_
        refine js_O0 rfl rfl (.inl rfl) (xv_s1 ty3 rfl rfl rfl (by (first|(apply u_3;(repeat first|exact u_0|assumption|apply u_1|apply u_2);done)|((repeat first|exact u_0|assumption|apply u_1|apply u_2);done)|(apply u_3;apply u_3;(repeat first|exact u_0|assumption|apply u_1|apply u_2);done)|((repeat first|exact u_0|assumption|apply u_3|apply u_1);done))) rfl (by rw [List.length_append, ints_len]; omega) (ints_set hjlt) ?_)
        refine js_S rfl rfl (.inl rfl) (xv_ia (sz := 1) (j := j - 1) sl22 ty3 rfl rfl rfl (by omega) (by omega) (by omega) ⟨rfl, rfl⟩) ?_
        refine js_O0 rfl rfl (.inl rfl) (xv_s1 ty3 rfl rfl rfl (by (first|(apply u_3;(repeat first|exact u_0|assumption|apply u_1|apply u_2);done)|((repeat first|exact u_0|assumption|apply u_1|apply u_2);done)|(apply u_3;apply u_3;(repeat first|exact u_0|assumption|apply u_1|apply u_2);done)|((repeat first|exact u_0|assumption|apply u_3|apply u_1);done))) rfl (by rw [List.length_append, ints_len, List.length_set]; omega) (ints_set (by rw [List.length_set]; omega)) ?_)
        refine j_end0 ?_
        refine bk_n ?_
        refine th_n ?_
        refine xc_region ?_
        refine xr_op rfl rfl (xv_move rfl ?_)
        refine xr_op rfl rfl (xv_sub rfl rfl (wrap_i64 (by (first | omega | (dsimp only at *; omega) | (simp at *; omega))) (by (first | omega | (dsimp only at *; omega) | (simp at *; omega)))) ?_)
        refine xr_op rfl rfl (xv_assign rfl ?_)
        refine xr_end rfl ?_
        have hj1 : ((j : Int) - 1) = ((j - 1 : Nat) : Int) := by omega
        exact rnd ((j - 1, swp zs j) : Nat × List Int) (hin.step hc (by omega) hj0 (by (first | omega | (dsimp only at *; omega) | (simp at *; omega)))) (by (first | omega | (dsimp only at *; omega) | (simp at *; omega))) (le_put (le_put (le_put (le_put (le_put (le_put (le_emp _) rfl) rfl) rfl) rfl) rfl) (by rw [← hj1]; rfl)) (by unfold swp; (first|((repeat first|exact s_0|exact s_1|exact s_3|refine s_4 ?_|refine s_5 ?_|refine s_6 ?_|refine s_7 ?_);done)|((repeat first|exact s_0|exact s_1|exact s_3|refine s_4 ?_|refine s_5 ?_|refine s_6 ?_|refine s_8 ?_);done)))
      · refine xc_exit ?_
        refine th_x ?_
        refine th_x ?_
        refine bk_same ?_
        refine bk_n ?_
        refine th_n ?_
        refine xc_region ?_
        refine xr_op rfl rfl (xv_move rfl ?_)
        refine xr_op rfl rfl (xv_add rfl rfl (wrap_i64 (by (first | omega | (dsimp only at *; omega) | (simp at *; omega))) (by (first | omega | (dsimp only at *; omega) | (simp at *; omega)))) ?_)
        refine xr_op rfl rfl (xv_assign rfl ?_)
        refine xr_end rfl ?_
        have hdone : Srt cm xs zs (i + 1) := by first | exact hin.done hc hj0 (by (first | omega | (dsimp only at *; omega) | (simp at *; omega))) | (subst hj0; exact hin.done0)
        exact rnd ((i + 1, zs) : Nat × List Int) ⟨by (first | omega | (dsimp only at *; omega) | (simp at *; omega)), by (first | omega | (dsimp only at *; omega) | (simp at *; omega)), hdone⟩ (by (first | omega | (dsimp only at *; omega) | (simp at *; omega))) (le_put (le_put (le_put (le_put (le_put (le_emp _) rfl) rfl) rfl) rfl) rfl) (by (first|((repeat first|exact s_0|exact s_1|exact s_3|refine s_4 ?_|refine s_5 ?_|refine s_6 ?_|refine s_7 ?_);done)|((repeat first|exact s_0|exact s_1|exact s_3|refine s_4 ?_|refine s_5 ?_|refine s_6 ?_|refine s_8 ?_);done)))
  · refine xr_end rfl ?_
    refine th_n ?_
    refine xc_false rfl ?_
    refine xc_exit ?_
    refine th_x ?_
    refine th_x ?_
    refine bk_same ?_
    refine body_end (h' := ((b, .cells ⟨ws.flatMap eI ++ sp⟩ 3) :: L)) rfl ro_nil (by (first|((repeat first|exact s_0|exact s_1|exact s_3|refine s_4 ?_|refine s_5 ?_|refine s_6 ?_|refine s_7 ?_);done)|((repeat first|exact s_0|exact s_1|exact s_3|refine s_4 ?_|refine s_5 ?_|refine s_6 ?_|refine s_8 ?_);done))) ?_
    exact H ws hsr.1 (hsr.sorted (by (first | omega | (dsimp only at *; omega) | (simp at *; omega))))

theorem insnil_c {f : Value} {h : Hp} {R : Ending → Hp → Prop} (H : R (.returned (.tuple #[])) h) : ACalls Try.prog 61 ⟨[.slice none 0 0, I 0, I 0, f]⟩ h R := by
  refine calls_of_xc (N := 53) Try.func61 rfl (by rfl) ?_
  refine xc_seq (xc_region ?_)
  refine xr_op rfl rfl (xv_move rfl ?_)
  refine xr_op rfl rfl (xv_add rfl rfl (wrap_i64 (by (first | omega | (dsimp only at *; omega) | (simp at *; omega))) (by (first | omega | (dsimp only at *; omega) | (simp at *; omega)))) ?_)
  refine xr_op rfl rfl (xv_assign rfl ?_)
  refine xr_end rfl ?_
  refine th_n ?_
  refine xc_block ?_
  refine xc_loop (σ := Unit) (fun _ => True) (fun _ => ((emp.put (some 2) (I 0)).put (some 8) (I 1))) (fun _ => h) (fun _ => 0) () trivial (le_put (le_put (le_emp _) rfl) rfl) (by (first|((repeat first|exact s_0|exact s_1|exact s_3|refine s_4 ?_|refine s_5 ?_|refine s_6 ?_|refine s_7 ?_);done)|((repeat first|exact s_0|exact s_1|exact s_3|refine s_4 ?_|refine s_5 ?_|refine s_6 ?_|refine s_8 ?_);done))) ?_
  rintro ⟨⟩ _
  refine xc_seq ?_
  refine xc_seq (xc_region ?_)
  refine xr_op rfl rfl (xv_move rfl ?_)
  refine xr_op rfl rfl (xv_move rfl ?_)
  refine xr_op rfl rfl (xv_cmpK rfl rfl (cmpF rfl (by simp only [cmpP]; omega)) ?_)
  refine xr_end rfl ?_
  refine th_n ?_
  refine xc_false rfl ?_
  refine xc_exit ?_
  refine th_x ?_
  refine th_x ?_
  refine bk_same ?_
  refine body_end (h' := h) rfl ro_nil (by (first|((repeat first|exact s_0|exact s_1|exact s_3|refine s_4 ?_|refine s_5 ?_|refine s_6 ?_|refine s_7 ?_);done)|((repeat first|exact s_0|exact s_1|exact s_3|refine s_4 ?_|refine s_5 ?_|refine s_6 ?_|refine s_8 ?_);done))) ?_
  exact H

end Go.Proofs.Ytlailecnbdlknaa
