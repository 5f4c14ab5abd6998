/-
  Walks.
-/
import Derived.Test.YtjmailhoidenaaaW3
import Derived.Test.YtjmailhoidenaaaS2
namespace Go.Proofs.Ytjmailhoidenaaa
open Go Go.H
set_option maxRecDepth 100000
set_option maxHeartbeats 2000000
set_option linter.all false
theorem free_c {a : Option Addr} {c : Nat} {w : House} {s m : Nat} {es : List MapEntry} {cm : Nat} {V : Vec} {S : St} {f b : Int} {L : Hp} {R : Ending → Hp → Prop}
    (hw : goodHouse w) (hS : S.Fr b) (hb : b ≤ 8388608) (hM : MapOk es S.done) (hf : 0 ≤ f ∧ f ≤ 8388608)
    (H1 : ∀ es' cm', MapOk es' (S.taken (freeHour w S f)).done → R (.returned (I (freeHour w S f))) (shopH (eHouse a c w) s m es' cm' V (S.taken (freeHour w S f)) L)) :
    ACalls Try.prog 26 ⟨[.pointer (some ⟨s, 0, none⟩), I f]⟩ (shopH (eHouse a c w) s m es cm V S L) R := by
  refine calls_of_xc (N := 38) Try.func26 rfl (by rfl) ?_
  unfold shopH
  have hga := hw.2.2.2.2.2.2.1
  have hla := hS.last
  refine xc_seq (xc_region ?_)
  refine xr_op rfl rfl (xv_assign rfl ?_)
  refine xr_end rfl ?_
  refine th_n ?_
  refine xc_seq (xc_region ?_)
  refine xr_op rfl rfl (xv_move rfl ?_)
  refine xr_op rfl rfl (xv_move rfl ?_)
  refine xr_op rfl rfl (xv_nilp rfl ?_)
  refine xr_op rfl rfl (xv_faddr fl63_3 rfl ?_)
  refine xr_op rfl rfl (xv_load1 ty3 rfl rfl (by (first|((repeat first|exact z_0|assumption|refine z_1 ?_|refine z_r ?_);done)|((repeat refine z_1 ?_);refine z_l ?_;(repeat first|exact z_0|assumption|refine z_1 ?_|refine z_r ?_);done)|((repeat refine z_1 ?_);refine z_r ?_;(repeat refine z_1 ?_);refine z_l ?_;(repeat first|exact z_0|assumption|refine z_1 ?_|refine z_r ?_);done)|((repeat first|exact z_0|assumption|refine z_1 ?_|refine z_l ?_);done))) (by (first | rfl | exact sc_ov' (h6 := rfl) (by assumption) rfl | exact sc_ov (h6 := rfl) (by assumption) rfl rfl | exact sc_at (h6 := rfl) rfl | exact sc_op (h6 := rfl) (by assumption) rfl)) ?_)
  refine xr_op rfl rfl (xv_max rfl rfl rfl ?_)
  refine xr_op rfl rfl (xv_assign rfl ?_)
  refine xr_end rfl ?_
  refine th_n ?_
  refine xc_seq ?_
  refine xc_block ?_
  refine xc_loop (σ := Int) (fun k => k = max f S.last ∨ (k = max f S.last + 1 ∧ w.gang ≤ S.done (max f S.last))) (fun k => ((emp.put (some 0) (.pointer (some ⟨s, 0, none⟩))).put (some 5) (I k))) (fun k => (V.hp 86 (S.runs.flatMap eRun) ++ (s, .cells ⟨shopC (eHouse a c w) S.ov m S.last (V.val S.runs.length) S.op⟩ 63 (0, 0)) :: (m, .map ⟨es⟩ cm) :: L)) (fun k => (max f S.last + 2 - k).toNat) (max f S.last) (.inl rfl) (le_put (le_put (le_emp _) rfl) rfl) (by (first|((repeat first|exact s_0|exact s_1|exact s_3|refine s_4 ?_|refine s_5 ?_|refine s_6 ?_|refine s_7 ?_);done)|((repeat first|exact s_0|exact s_1|exact s_3|refine s_4 ?_|refine s_5 ?_|refine s_6 ?_|refine s_8 ?_);done))) ?_
  rintro k hk
  refine xc_seq ?_
  refine xc_seq ?_
  refine xc_draw0 [(0, .S), (1, .S), (2, .S), (3, .R), (4, .S), (5, .R), (6, .S), (7, .S), (8, .S), (9, .S), (10, .R), (11, .S)] mixed (by kernel_rfl) ?_
  refine js_S rfl rfl (.inl rfl) (xv_move rfl ⟨rfl, rfl⟩) ?_
  refine js_S rfl rfl (.inl rfl) (xv_nilp rfl ⟨rfl, rfl⟩) ?_
  refine js_S rfl rfl (.inl rfl) (xv_faddr fl63_2 rfl ⟨rfl, rfl⟩) ?_
  refine js_R0 rfl rfl (.inl rfl) (xv_load1 ty60 rfl rfl (by (first|((repeat first|exact z_0|assumption|refine z_1 ?_|refine z_r ?_);done)|((repeat refine z_1 ?_);refine z_l ?_;(repeat first|exact z_0|assumption|refine z_1 ?_|refine z_r ?_);done)|((repeat refine z_1 ?_);refine z_r ?_;(repeat refine z_1 ?_);refine z_l ?_;(repeat first|exact z_0|assumption|refine z_1 ?_|refine z_r ?_);done)|((repeat first|exact z_0|assumption|refine z_1 ?_|refine z_l ?_);done))) (by (first | rfl | exact sc_ov' (h6 := rfl) (by assumption) rfl | exact sc_ov (h6 := rfl) (by assumption) rfl rfl | exact sc_at (h6 := rfl) rfl | exact sc_op (h6 := rfl) (by assumption) rfl)) ⟨rfl, rfl⟩) ?_
  refine js_S rfl rfl (.inl rfl) (xv_move rfl ⟨rfl, rfl⟩) ?_
  refine js_R0 rfl rfl (.inl rfl) (xv_lookup Try.underlying60 Try.underlying3 ty3 rfl rfl (by (first|((repeat first|exact z_0|assumption|refine z_1 ?_|refine z_r ?_);done)|((repeat refine z_1 ?_);refine z_l ?_;(repeat first|exact z_0|assumption|refine z_1 ?_|refine z_r ?_);done)|((repeat refine z_1 ?_);refine z_r ?_;(repeat refine z_1 ?_);refine z_l ?_;(repeat first|exact z_0|assumption|refine z_1 ?_|refine z_r ?_);done)|((repeat first|exact z_0|assumption|refine z_1 ?_|refine z_l ?_);done))) hM.1 (hM.2 _) ⟨rfl, rfl⟩) ?_
  refine js_S rfl rfl (.inl rfl) (xv_move rfl ⟨rfl, rfl⟩) ?_
  refine js_S rfl rfl (.inl rfl) (xv_nilp rfl ⟨rfl, rfl⟩) ?_
  refine js_S rfl rfl (.inl rfl) (xv_faddr fl63_0 rfl ⟨rfl, rfl⟩) ?_
  refine js_S rfl rfl (.inl rfl) (xv_faddr fl24_5 rfl ⟨rfl, rfl⟩) ?_
  refine js_R0 rfl rfl (.inl rfl) (xv_load1 ty3 rfl rfl (by (first|((repeat first|exact z_0|assumption|refine z_1 ?_|refine z_r ?_);done)|((repeat refine z_1 ?_);refine z_l ?_;(repeat first|exact z_0|assumption|refine z_1 ?_|refine z_r ?_);done)|((repeat refine z_1 ?_);refine z_r ?_;(repeat refine z_1 ?_);refine z_l ?_;(repeat first|exact z_0|assumption|refine z_1 ?_|refine z_r ?_);done)|((repeat first|exact z_0|assumption|refine z_1 ?_|refine z_l ?_);done))) (by (first | rfl | exact sc_ov' (h6 := rfl) (by assumption) rfl | exact sc_ov (h6 := rfl) (by assumption) rfl rfl | exact sc_at (h6 := rfl) rfl | exact sc_op (h6 := rfl) (by assumption) rfl)) ⟨rfl, rfl⟩) ?_
  refine js_S rfl rfl (.inl rfl) (xv_cmp rfl rfl rfl ⟨rfl, rfl⟩) ?_
  refine j_end0 ?_
  refine th_n ?_
  refine xc_bool rfl (fun q1 => ?_) (fun q1 => ?_)
  · refine xc_skip ?_
    refine th_n ?_
    refine xc_block ?_
    refine xc_region ?_
    have hk2 : w.gang ≤ S.done k := by simpa using q1
    have hk3 : k = max f S.last := by
      rcases hk with hk | ⟨hk, hk0⟩
      · exact hk
      · exfalso; have := hS.after k (by omega); omega
    refine xr_op rfl rfl (xv_move rfl ?_)
    refine xr_op rfl rfl (xv_add rfl rfl (wrap_i64 (by (first | omega | (dsimp only at *; omega) | (simp at *; omega))) (by (first | omega | (dsimp only at *; omega) | (simp at *; omega)))) ?_)
    refine xr_op rfl rfl (xv_assign rfl ?_)
    refine xr_end rfl ?_
    refine bk_n ?_
    exact rnd (k + 1) (.inr ⟨by omega, hk3 ▸ hk2⟩) (by omega) (le_put (le_put (le_emp _) rfl) rfl) (by (first|((repeat first|exact s_0|exact s_1|exact s_3|refine s_4 ?_|refine s_5 ?_|refine s_6 ?_|refine s_7 ?_);done)|((repeat first|exact s_0|exact s_1|exact s_3|refine s_4 ?_|refine s_5 ?_|refine s_6 ?_|refine s_8 ?_);done)))
  · refine xc_exit ?_
    refine th_x ?_
    refine th_x ?_
    refine bk_same ?_
    refine th_n ?_
    refine xc_seq (xc_region ?_)
    have hk2 : S.done k < w.gang := by simpa using q1
    have hdn := hS.done k
    have hk3 : k = freeHour w S f := by
      unfold freeHour
      rcases hk with hk | ⟨hk, hk0⟩
      · rw [if_neg (by rw [← hk]; omega)]; exact hk
      · rw [if_pos hk0]; exact hk
    have hk4 : k ≤ max f S.last + 1 := by rcases hk with hk | ⟨hk, _⟩ <;> omega
    refine xr_op rfl rfl (xv_move rfl ?_)
    refine xr_op rfl rfl (xv_move rfl ?_)
    refine xr_op rfl rfl (xv_nilp rfl ?_)
    refine xr_op rfl rfl (xv_faddr fl63_3 rfl ?_)
    refine xr_op rfl rfl (xv_s1 ty3 rfl rfl rfl (by (first|(apply u_3;(repeat first|exact u_0|assumption|apply u_1|apply u_2);done)|((repeat first|exact u_0|assumption|apply u_1|apply u_2);done)|(apply u_3;apply u_3;(repeat first|exact u_0|assumption|apply u_1|apply u_2);done)|((repeat first|exact u_0|assumption|apply u_3|apply u_1);done))) (by (first | rfl | exact Vec.one _ _)) (by (first | decide | (rw [len_sc (h6 := rfl)]; omega))) (by (first | exact sc_s0 (h6 := rfl) (by assumption) (by (first | exact upd_same _ _ _ | rfl)) | exact sc_s1 (h6 := rfl) (by assumption) (by (first | exact upd_same _ _ _ | rfl)) | exact sc_s2 (h6 := rfl) (by assumption) (by (first | exact upd_same _ _ _ | rfl)) | exact sc_s3 (h6 := rfl) (by assumption) (by (first | exact upd_same _ _ _ | rfl)) | exact sc_s4 (h6 := rfl) (by assumption) (by (first | exact upd_same _ _ _ | rfl)) | exact sc_setop (h6 := rfl) (by assumption) | exact sc_setlast (h6 := rfl) | exact sc_setruns (h6 := rfl) | (((try apply evl_some rfl);(repeat (first|exact (rfl : _ = [])|apply evl_cons rfl (by (first|exact v_1|exact v_2|exact v_3|exact v_4|exact v_5|exact v_6|exact v_7|exact v_8|exact v_9|exact rfl))|exact rfl)))))) ?_)
    refine xr_end rfl ?_
    refine th_n ?_
    refine xc_seq (xc_region ?_)
    refine xr_op rfl rfl (xv_move rfl ?_)
    refine xr_op rfl rfl (xv_nilp rfl ?_)
    refine xr_op rfl rfl (xv_faddr fl63_2 rfl ?_)
    refine xr_op rfl rfl (xv_load1 ty60 rfl rfl (by (first|((repeat first|exact z_0|assumption|refine z_1 ?_|refine z_r ?_);done)|((repeat refine z_1 ?_);refine z_l ?_;(repeat first|exact z_0|assumption|refine z_1 ?_|refine z_r ?_);done)|((repeat refine z_1 ?_);refine z_r ?_;(repeat refine z_1 ?_);refine z_l ?_;(repeat first|exact z_0|assumption|refine z_1 ?_|refine z_r ?_);done)|((repeat first|exact z_0|assumption|refine z_1 ?_|refine z_l ?_);done))) (by (first | rfl | exact sc_ov' (h6 := rfl) (by assumption) rfl | exact sc_ov (h6 := rfl) (by assumption) rfl rfl | exact sc_at (h6 := rfl) rfl | exact sc_op (h6 := rfl) (by assumption) rfl)) ?_)
    refine xr_op rfl rfl (xv_move rfl ?_)
    refine xr_op rfl rfl (xv_lookup Try.underlying60 Try.underlying3 ty3 rfl rfl (by (first|((repeat first|exact z_0|assumption|refine z_1 ?_|refine z_r ?_);done)|((repeat refine z_1 ?_);refine z_l ?_;(repeat first|exact z_0|assumption|refine z_1 ?_|refine z_r ?_);done)|((repeat refine z_1 ?_);refine z_r ?_;(repeat refine z_1 ?_);refine z_l ?_;(repeat first|exact z_0|assumption|refine z_1 ?_|refine z_r ?_);done)|((repeat first|exact z_0|assumption|refine z_1 ?_|refine z_l ?_);done))) hM.1 (hM.2 _) ?_)
    refine xr_op rfl rfl (xv_add rfl rfl (wrap_i64 (by (first | omega | (dsimp only at *; omega) | (simp at *; omega))) (by (first | omega | (dsimp only at *; omega) | (simp at *; omega)))) ?_)
    refine xr_op rfl rfl (xv_mapSet Try.underlying60 Try.underlying3 rfl rfl rfl (fun o2 => by (first|(apply u_3;(repeat first|exact u_0|assumption|apply u_1|apply u_2);done)|((repeat first|exact u_0|assumption|apply u_1|apply u_2);done)|(apply u_3;apply u_3;(repeat first|exact u_0|assumption|apply u_1|apply u_2);done)|((repeat first|exact u_0|assumption|apply u_3|apply u_1);done))) hM.1 (fun es1 cm1 hms1 => ?_))
    refine xr_end rfl ?_
    refine th_n ?_
    refine xc_seq (xc_region ?_)
    refine xr_op rfl rfl (xv_move rfl ?_)
    refine xr_op rfl rfl (xv_assign rfl ?_)
    refine xr_end rfl ?_
    refine th_n ?_
    refine xc_ret ?_
    refine body_ret (h' := shopH (eHouse a c w) s m es1 cm1 V (S.taken k) L) rfl (ro_tmp rfl ro_nil) (by (first|((repeat first|exact s_0|exact s_1|exact s_3|refine s_4 ?_|refine s_5 ?_|refine s_6 ?_|refine s_7 ?_);done)|((repeat first|exact s_0|exact s_1|exact s_3|refine s_4 ?_|refine s_5 ?_|refine s_6 ?_|refine s_8 ?_);done))) ?_
    (subst hk3; exact H1 _ _ (hM.set hms1))

end Go.Proofs.Ytjmailhoidenaaa
