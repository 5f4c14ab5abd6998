/-
  Walks.
-/
import Derived.Test.YtjmailhoidenaaaW1
import Derived.Test.YtjmailhoidenaaaS
namespace Go.Proofs.Ytjmailhoidenaaa
open Go Go.H
set_option maxRecDepth 100000
set_option maxHeartbeats 2000000
set_option linter.all false
theorem letOut_c {a : Option Addr} {c : Nat} {w : House} {s m i : Nat} {es : List MapEntry} {cm n : Nat} {V : Vec} {S : St} {x : Stoke} {L : Hp} {R : Ending → Hp → Prop}
    (hw : goodHouse w) (hx : goodStoke x) (hn : n ≤ 1000) (hS : S.Ok n) (hV : V.ok 3 S.runs.length (S.runs.flatMap eRun)) (hi : i < 8) (hxi : x.ret.toNat = i)
    (H1 : ∀ S' V', letOut w S x = .ok S' → V'.ok 3 S'.runs.length (S'.runs.flatMap eRun) → R (.returned (.tuple #[])) (shopH (eHouse a c w) s m es cm V' S' L))
    (H2 : ∀ e hx, letOut w S x = .error e → R (.panicked (mis e)) hx) :
    ACalls Try.prog 47 ⟨[.pointer (some ⟨s, 0, none⟩), .pointer (some ⟨s, 6 + i * 5, none⟩), .agg ⟨eStoke x⟩]⟩ (shopH (eHouse a c w) s m es cm V S L) R := by
  refine calls_of_xc (N := 28) Try.func47 rfl (by rfl) ?_
  obtain ⟨⟨hs0, hs1⟩, ⟨hr0, hr1⟩, hc0, hc1⟩ := hS.ov i hi
  obtain ⟨⟨hh0, hh1⟩, ⟨ht0, ht1⟩, ⟨hk0, hk1⟩, ht, htn⟩ := hx
  obtain ⟨hl1, hl2, hl3, ⟨hle0, hle1⟩, ⟨hru0, hru1⟩, ⟨hsc0, hsc1⟩, ⟨hga0, hga1⟩, ⟨hco0, hco1⟩⟩ := hw
  unfold shopH
  refine xc_seq (xc_region ?_)
  refine xr_op rfl rfl (xv_box rfl (fun b1 hb1 => ?_))
  refine xr_end rfl ?_
  refine th_n ?_
  refine xc_seq (xc_region ?_)
  refine xr_op rfl rfl (xv_move rfl ?_)
  refine xr_op rfl rfl (xv_nilp rfl ?_)
  refine xr_op rfl rfl (xv_faddr fl29_0 rfl ?_)
  refine xr_op rfl rfl (xv_load1 ty3 rfl rfl (by (first|((repeat first|exact z_0|assumption|refine z_1 ?_|refine z_r ?_);done)|((repeat refine z_1 ?_);refine z_l ?_;(repeat first|exact z_0|assumption|refine z_1 ?_|refine z_r ?_);done)|((repeat refine z_1 ?_);refine z_r ?_;(repeat refine z_1 ?_);refine z_l ?_;(repeat first|exact z_0|assumption|refine z_1 ?_|refine z_r ?_);done)|((repeat first|exact z_0|assumption|refine z_1 ?_|refine z_l ?_);done))) (by (first | rfl | exact sc_ov' (h6 := rfl) (by assumption) rfl | exact sc_ov (h6 := rfl) (by assumption) rfl rfl | exact sc_at (h6 := rfl) rfl | exact sc_op (h6 := rfl) (by assumption) rfl)) ?_)
  refine xr_op rfl rfl (xv_cmp rfl rfl rfl ?_)
  refine xr_op rfl rfl (xv_calls rfl hb49 (need_c _ _ (fun hb2 => up_ret ?_) (fun hb3 => up_pan ?_)))
  · refine xr_end rfl ?_
    refine th_n ?_
    refine xc_seq ?_
    refine xc_draw0 [(0, .S), (1, .R), (2, .S), (3, .S), (4, .S), (5, .R), (6, .S), (7, .O)] mixed (by kernel_rfl) ?_
    refine js_S rfl rfl (.inl rfl) (xv_faddr fl48_0 rfl ⟨rfl, rfl⟩) ?_
    refine js_R0 rfl rfl (.inl rfl) (xv_load1 ty3 rfl rfl (by (first|((repeat first|exact z_0|assumption|refine z_1 ?_|refine z_r ?_);done)|((repeat refine z_1 ?_);refine z_l ?_;(repeat first|exact z_0|assumption|refine z_1 ?_|refine z_r ?_);done)|((repeat refine z_1 ?_);refine z_r ?_;(repeat refine z_1 ?_);refine z_l ?_;(repeat first|exact z_0|assumption|refine z_1 ?_|refine z_r ?_);done)|((repeat first|exact z_0|assumption|refine z_1 ?_|refine z_l ?_);done))) (by (first | rfl | exact sc_ov' (h6 := rfl) (by assumption) rfl | exact sc_ov (h6 := rfl) (by assumption) rfl rfl | exact sc_at (h6 := rfl) rfl | exact sc_op (h6 := rfl) (by assumption) rfl)) ⟨rfl, rfl⟩) ?_
    refine js_S rfl rfl (.inl rfl) (xv_move rfl ⟨rfl, rfl⟩) ?_
    refine js_S rfl rfl (.inl rfl) (xv_nilp rfl ⟨rfl, rfl⟩) ?_
    refine js_S rfl rfl (.inl rfl) (xv_faddr fl29_1 rfl ⟨rfl, rfl⟩) ?_
    refine js_R0 rfl rfl (.inl rfl) (xv_load1 ty3 rfl rfl (by (first|((repeat first|exact z_0|assumption|refine z_1 ?_|refine z_r ?_);done)|((repeat refine z_1 ?_);refine z_l ?_;(repeat first|exact z_0|assumption|refine z_1 ?_|refine z_r ?_);done)|((repeat refine z_1 ?_);refine z_r ?_;(repeat refine z_1 ?_);refine z_l ?_;(repeat first|exact z_0|assumption|refine z_1 ?_|refine z_r ?_);done)|((repeat first|exact z_0|assumption|refine z_1 ?_|refine z_l ?_);done))) (by (first | rfl | exact sc_ov' (h6 := rfl) (by assumption) rfl | exact sc_ov (h6 := rfl) (by assumption) rfl rfl | exact sc_at (h6 := rfl) rfl | exact sc_op (h6 := rfl) (by assumption) rfl)) ⟨rfl, rfl⟩) ?_
    refine js_S rfl rfl (.inl rfl) (xv_cmp rfl rfl rfl ⟨rfl, rfl⟩) ?_
    refine js_O0 rfl rfl (.inl rfl) (xv_calls rfl hb49 (need_c _ _ (fun hb4 => up_ret ?_) (fun hb5 => up_pan ?_)))
    · refine j_end0 ?_
      refine th_n ?_
      refine xc_draw [(0, .S), (1, .S), (2, .S), (3, .S), (4, .S), (5, .S), (6, .O), (7, .S), (8, .S), (9, .O)] [(b1, .cells ⟨eStoke x⟩ 48)] (V.hp 86 (S.runs.flatMap eRun) ++ (s, .cells ⟨shopC (eHouse a c w) S.ov m S.last (V.val S.runs.length) S.op⟩ 63 (0, 0)) :: (m, .map ⟨es⟩ cm) :: L) mixed (by kernel_rfl) (List.perm_append_singleton _ _) ?_
      refine js_S rfl rfl (.inl rfl) (xv_move rfl ⟨rfl, rfl⟩) ?_
      refine js_S rfl rfl (.inl rfl) (xv_move rfl ⟨rfl, rfl⟩) ?_
      refine js_S rfl rfl (.inl rfl) (xv_faddr fl48_0 rfl ⟨rfl, rfl⟩) ?_
      refine js_S rfl rfl (.inl rfl) (xv_load1 ty3 rfl rfl (by (first|((repeat first|exact z_0|assumption|refine z_1 ?_|refine z_r ?_);done)|((repeat refine z_1 ?_);refine z_l ?_;(repeat first|exact z_0|assumption|refine z_1 ?_|refine z_r ?_);done)|((repeat refine z_1 ?_);refine z_r ?_;(repeat refine z_1 ?_);refine z_l ?_;(repeat first|exact z_0|assumption|refine z_1 ?_|refine z_r ?_);done)|((repeat first|exact z_0|assumption|refine z_1 ?_|refine z_l ?_);done))) (by (first | rfl | exact sc_ov' (h6 := rfl) (by assumption) rfl | exact sc_ov (h6 := rfl) (by assumption) rfl rfl | exact sc_at (h6 := rfl) rfl | exact sc_op (h6 := rfl) (by assumption) rfl)) ⟨rfl, rfl⟩) ?_
      refine js_S rfl rfl (.inl rfl) (xv_nilp rfl ⟨rfl, rfl⟩) ?_
      refine js_S rfl rfl (.inl rfl) (xv_faddr fl29_0 rfl ⟨rfl, rfl⟩) ?_
      refine js_O rfl rfl (.inl rfl) (xv_s1 ty3 rfl rfl rfl (by (first|(apply u_3;(repeat first|exact u_0|assumption|apply u_1|apply u_2);done)|((repeat first|exact u_0|assumption|apply u_1|apply u_2);done)|(apply u_3;apply u_3;(repeat first|exact u_0|assumption|apply u_1|apply u_2);done)|((repeat first|exact u_0|assumption|apply u_3|apply u_1);done))) (by (first | rfl | exact Vec.one _ _)) (by (first | decide | (rw [len_sc (h6 := rfl)]; omega))) (by (first | exact sc_s0 (h6 := rfl) (by assumption) (by (first | exact upd_same _ _ _ | rfl)) | exact sc_s1 (h6 := rfl) (by assumption) (by (first | exact upd_same _ _ _ | rfl)) | exact sc_s2 (h6 := rfl) (by assumption) (by (first | exact upd_same _ _ _ | rfl)) | exact sc_s3 (h6 := rfl) (by assumption) (by (first | exact upd_same _ _ _ | rfl)) | exact sc_s4 (h6 := rfl) (by assumption) (by (first | exact upd_same _ _ _ | rfl)) | exact sc_setop (h6 := rfl) (by assumption) | exact sc_setlast (h6 := rfl) | exact sc_setruns (h6 := rfl) | (((try apply evl_some rfl);(repeat (first|exact (rfl : _ = [])|apply evl_cons rfl (by (first|exact v_1|exact v_2|exact v_3|exact v_4|exact v_5|exact v_6|exact v_7|exact v_8|exact v_9|exact rfl))|exact rfl)))))) ?_)
      refine jo_same ?_
      refine js_S rfl rfl (.inl rfl) (xv_nilp rfl ⟨rfl, rfl⟩) ?_
      refine js_S rfl rfl (.inl rfl) (xv_faddr fl29_1 rfl ⟨rfl, rfl⟩) ?_
      refine js_O rfl rfl (.inl rfl) (xv_s1 ty3 rfl rfl rfl (by (first|(apply u_3;(repeat first|exact u_0|assumption|apply u_1|apply u_2);done)|((repeat first|exact u_0|assumption|apply u_1|apply u_2);done)|(apply u_3;apply u_3;(repeat first|exact u_0|assumption|apply u_1|apply u_2);done)|((repeat first|exact u_0|assumption|apply u_3|apply u_1);done))) (by (first | rfl | exact Vec.one _ _)) (by (first | decide | (rw [len_sc (h6 := rfl)]; omega))) (by (first | exact sc_s0 (h6 := rfl) (by assumption) (by (first | exact upd_same _ _ _ | rfl)) | exact sc_s1 (h6 := rfl) (by assumption) (by (first | exact upd_same _ _ _ | rfl)) | exact sc_s2 (h6 := rfl) (by assumption) (by (first | exact upd_same _ _ _ | rfl)) | exact sc_s3 (h6 := rfl) (by assumption) (by (first | exact upd_same _ _ _ | rfl)) | exact sc_s4 (h6 := rfl) (by assumption) (by (first | exact upd_same _ _ _ | rfl)) | exact sc_setop (h6 := rfl) (by assumption) | exact sc_setlast (h6 := rfl) | exact sc_setruns (h6 := rfl) | (((try apply evl_some rfl);(repeat (first|exact (rfl : _ = [])|apply evl_cons rfl (by (first|exact v_1|exact v_2|exact v_3|exact v_4|exact v_5|exact v_6|exact v_7|exact v_8|exact v_9|exact rfl))|exact rfl)))))) ?_)
      refine jo_same ?_
      refine j_endp (List.perm_append_singleton _ _) ?_
      refine body_end (h' := shopH (eHouse a c w) s m es cm V ⟨upd S.ov i ⟨2, x.hour, (S.ov i).tons, (S.ov i).runs, (S.ov i).cool⟩, S.done, S.last, S.runs, S.op⟩ L) rfl ro_nil (by simp only [upd_upd, shopH]; (first|((repeat first|exact s_0|exact s_1|exact s_3|refine s_4 ?_|refine s_5 ?_|refine s_6 ?_|refine s_7 ?_);done)|((repeat first|exact s_0|exact s_1|exact s_3|refine s_4 ?_|refine s_5 ?_|refine s_6 ?_|refine s_8 ?_);done))) ?_
      exact H1 _ V (by (simp only [beq_iff_eq, decide_eq_true_eq, beq_eq_false_iff_ne, decide_eq_false_iff_not, bne_iff_ne, ne_eq, Bool.not_eq_true] at *; unfold letOut; simp only [hxi]; (repeat' split); all_goals first | (exfalso; omega) | rfl)) hV
    · refine jp_p ?_
      refine th_p ?_
      refine body_pan ?_
      exact H2 _ _ (by (simp only [beq_iff_eq, decide_eq_true_eq, beq_eq_false_iff_ne, decide_eq_false_iff_not, bne_iff_ne, ne_eq, Bool.not_eq_true] at *; unfold letOut; simp only [hxi]; (repeat' split); all_goals first | (exfalso; omega) | rfl))
  · refine th_p ?_
    refine body_pan ?_
    exact H2 _ _ (by (simp only [beq_iff_eq, decide_eq_true_eq, beq_eq_false_iff_ne, decide_eq_false_iff_not, bne_iff_ne, ne_eq, Bool.not_eq_true] at *; unfold letOut; simp only [hxi]; (repeat' split); all_goals first | (exfalso; omega) | rfl))

theorem scour_c {a : Option Addr} {c : Nat} {w : House} {s m i : Nat} {es : List MapEntry} {cm n : Nat} {V : Vec} {S : St} {x : Stoke} {L : Hp} {R : Ending → Hp → Prop}
    (hw : goodHouse w) (hx : goodStoke x) (hn : n ≤ 1000) (hS : S.Ok n) (hV : V.ok 3 S.runs.length (S.runs.flatMap eRun)) (hi : i < 8) (hxi : x.ret.toNat = i)
    (H1 : ∀ S' V', scour w S x = .ok S' → V'.ok 3 S'.runs.length (S'.runs.flatMap eRun) → R (.returned (.tuple #[])) (shopH (eHouse a c w) s m es cm V' S' L))
    (H2 : ∀ e hx, scour w S x = .error e → R (.panicked (mis e)) hx) :
    ACalls Try.prog 46 ⟨[.pointer (some ⟨s, 0, none⟩), .pointer (some ⟨s, 6 + i * 5, none⟩), .agg ⟨eStoke x⟩]⟩ (shopH (eHouse a c w) s m es cm V S L) R := by
  refine calls_of_xc (N := 34) Try.func46 rfl (by rfl) ?_
  obtain ⟨⟨hs0, hs1⟩, ⟨hr0, hr1⟩, hc0, hc1⟩ := hS.ov i hi
  obtain ⟨⟨hh0, hh1⟩, ⟨ht0, ht1⟩, ⟨hk0, hk1⟩, ht, htn⟩ := hx
  obtain ⟨hl1, hl2, hl3, ⟨hle0, hle1⟩, ⟨hru0, hru1⟩, ⟨hsc0, hsc1⟩, ⟨hga0, hga1⟩, ⟨hco0, hco1⟩⟩ := hw
  unfold shopH
  refine xc_seq (xc_region ?_)
  refine xr_op rfl rfl (xv_box rfl (fun b1 hb1 => ?_))
  refine xr_end rfl ?_
  refine th_n ?_
  refine xc_seq (xc_region ?_)
  refine xr_op rfl rfl (xv_move rfl ?_)
  refine xr_op rfl rfl (xv_nilp rfl ?_)
  refine xr_op rfl rfl (xv_faddr fl29_0 rfl ?_)
  refine xr_op rfl rfl (xv_load1 ty3 rfl rfl (by (first|((repeat first|exact z_0|assumption|refine z_1 ?_|refine z_r ?_);done)|((repeat refine z_1 ?_);refine z_l ?_;(repeat first|exact z_0|assumption|refine z_1 ?_|refine z_r ?_);done)|((repeat refine z_1 ?_);refine z_r ?_;(repeat refine z_1 ?_);refine z_l ?_;(repeat first|exact z_0|assumption|refine z_1 ?_|refine z_r ?_);done)|((repeat first|exact z_0|assumption|refine z_1 ?_|refine z_l ?_);done))) (by (first | rfl | exact sc_ov' (h6 := rfl) (by assumption) rfl | exact sc_ov (h6 := rfl) (by assumption) rfl rfl | exact sc_at (h6 := rfl) rfl | exact sc_op (h6 := rfl) (by assumption) rfl)) ?_)
  refine xr_op rfl rfl (xv_cmp rfl rfl rfl ?_)
  refine xr_op rfl rfl (xv_calls rfl hb49 (need_c _ _ (fun hb2 => up_ret ?_) (fun hb3 => up_pan ?_)))
  · refine xr_end rfl ?_
    refine th_n ?_
    refine xc_seq ?_
    refine xc_draw0 [(0, .S), (1, .R), (2, .S), (3, .S), (4, .S), (5, .R), (6, .S), (7, .O)] mixed (by kernel_rfl) ?_
    refine js_S rfl rfl (.inl rfl) (xv_faddr fl48_0 rfl ⟨rfl, rfl⟩) ?_
    refine js_R0 rfl rfl (.inl rfl) (xv_load1 ty3 rfl rfl (by (first|((repeat first|exact z_0|assumption|refine z_1 ?_|refine z_r ?_);done)|((repeat refine z_1 ?_);refine z_l ?_;(repeat first|exact z_0|assumption|refine z_1 ?_|refine z_r ?_);done)|((repeat refine z_1 ?_);refine z_r ?_;(repeat refine z_1 ?_);refine z_l ?_;(repeat first|exact z_0|assumption|refine z_1 ?_|refine z_r ?_);done)|((repeat first|exact z_0|assumption|refine z_1 ?_|refine z_l ?_);done))) (by (first | rfl | exact sc_ov' (h6 := rfl) (by assumption) rfl | exact sc_ov (h6 := rfl) (by assumption) rfl rfl | exact sc_at (h6 := rfl) rfl | exact sc_op (h6 := rfl) (by assumption) rfl)) ⟨rfl, rfl⟩) ?_
    refine js_S rfl rfl (.inl rfl) (xv_move rfl ⟨rfl, rfl⟩) ?_
    refine js_S rfl rfl (.inl rfl) (xv_nilp rfl ⟨rfl, rfl⟩) ?_
    refine js_S rfl rfl (.inl rfl) (xv_faddr fl29_1 rfl ⟨rfl, rfl⟩) ?_
    refine js_R0 rfl rfl (.inl rfl) (xv_load1 ty3 rfl rfl (by (first|((repeat first|exact z_0|assumption|refine z_1 ?_|refine z_r ?_);done)|((repeat refine z_1 ?_);refine z_l ?_;(repeat first|exact z_0|assumption|refine z_1 ?_|refine z_r ?_);done)|((repeat refine z_1 ?_);refine z_r ?_;(repeat refine z_1 ?_);refine z_l ?_;(repeat first|exact z_0|assumption|refine z_1 ?_|refine z_r ?_);done)|((repeat first|exact z_0|assumption|refine z_1 ?_|refine z_l ?_);done))) (by (first | rfl | exact sc_ov' (h6 := rfl) (by assumption) rfl | exact sc_ov (h6 := rfl) (by assumption) rfl rfl | exact sc_at (h6 := rfl) rfl | exact sc_op (h6 := rfl) (by assumption) rfl)) ⟨rfl, rfl⟩) ?_
    refine js_S rfl rfl (.inl rfl) (xv_cmp rfl rfl rfl ⟨rfl, rfl⟩) ?_
    refine js_O0 rfl rfl (.inl rfl) (xv_calls rfl hb49 (need_c _ _ (fun hb4 => up_ret ?_) (fun hb5 => up_pan ?_)))
    · refine j_end0 ?_
      refine th_n ?_
      refine xc_draw [(0, .S), (1, .S), (2, .S), (3, .R), (4, .S), (5, .S), (6, .S), (7, .S), (8, .R), (9, .S), (10, .S), (11, .S), (12, .O), (13, .S), (14, .S), (15, .O)] [(b1, .cells ⟨eStoke x⟩ 48)] (V.hp 86 (S.runs.flatMap eRun) ++ (s, .cells ⟨shopC (eHouse a c w) S.ov m S.last (V.val S.runs.length) S.op⟩ 63 (0, 0)) :: (m, .map ⟨es⟩ cm) :: L) mixed (by kernel_rfl) (List.perm_append_singleton _ _) ?_
      refine js_S rfl rfl (.inl rfl) (xv_move rfl ⟨rfl, rfl⟩) ?_
      refine js_S rfl rfl (.inl rfl) (xv_move rfl ⟨rfl, rfl⟩) ?_
      refine js_S rfl rfl (.inl rfl) (xv_faddr fl48_0 rfl ⟨rfl, rfl⟩) ?_
      refine js_R rfl rfl (.inl rfl) (xv_load1 ty3 rfl rfl (by (first|((repeat first|exact z_0|assumption|refine z_1 ?_|refine z_r ?_);done)|((repeat refine z_1 ?_);refine z_l ?_;(repeat first|exact z_0|assumption|refine z_1 ?_|refine z_r ?_);done)|((repeat refine z_1 ?_);refine z_r ?_;(repeat refine z_1 ?_);refine z_l ?_;(repeat first|exact z_0|assumption|refine z_1 ?_|refine z_r ?_);done)|((repeat first|exact z_0|assumption|refine z_1 ?_|refine z_l ?_);done))) (by (first | rfl | exact sc_ov' (h6 := rfl) (by assumption) rfl | exact sc_ov (h6 := rfl) (by assumption) rfl rfl | exact sc_at (h6 := rfl) rfl | exact sc_op (h6 := rfl) (by assumption) rfl)) ⟨rfl, rfl⟩) ?_
      refine js_S rfl rfl (.inl rfl) (xv_move rfl ⟨rfl, rfl⟩) ?_
      refine js_S rfl rfl (.inl rfl) (xv_nilp rfl ⟨rfl, rfl⟩) ?_
      refine js_S rfl rfl (.inl rfl) (xv_faddr fl63_0 rfl ⟨rfl, rfl⟩) ?_
      refine js_S rfl rfl (.inl rfl) (xv_faddr fl24_3 rfl ⟨rfl, rfl⟩) ?_
      refine js_R rfl rfl (.inl rfl) (xv_load1 ty3 rfl rfl (by (first|((repeat first|exact z_0|assumption|refine z_1 ?_|refine z_r ?_);done)|((repeat refine z_1 ?_);refine z_l ?_;(repeat first|exact z_0|assumption|refine z_1 ?_|refine z_r ?_);done)|((repeat refine z_1 ?_);refine z_r ?_;(repeat refine z_1 ?_);refine z_l ?_;(repeat first|exact z_0|assumption|refine z_1 ?_|refine z_r ?_);done)|((repeat first|exact z_0|assumption|refine z_1 ?_|refine z_l ?_);done))) (by (first | rfl | exact sc_ov' (h6 := rfl) (by assumption) rfl | exact sc_ov (h6 := rfl) (by assumption) rfl rfl | exact sc_at (h6 := rfl) rfl | exact sc_op (h6 := rfl) (by assumption) rfl)) ⟨rfl, rfl⟩) ?_
      refine js_S rfl rfl (.inl rfl) (xv_add rfl rfl (wrap_i64 (by (first | omega | (dsimp only at *; omega) | (simp at *; omega))) (by (first | omega | (dsimp only at *; omega) | (simp at *; omega)))) ⟨rfl, rfl⟩) ?_
      refine js_S rfl rfl (.inl rfl) (xv_nilp rfl ⟨rfl, rfl⟩) ?_
      refine js_S rfl rfl (.inl rfl) (xv_faddr fl29_1 rfl ⟨rfl, rfl⟩) ?_
      refine js_O rfl rfl (.inl rfl) (xv_s1 ty3 rfl rfl rfl (by (first|(apply u_3;(repeat first|exact u_0|assumption|apply u_1|apply u_2);done)|((repeat first|exact u_0|assumption|apply u_1|apply u_2);done)|(apply u_3;apply u_3;(repeat first|exact u_0|assumption|apply u_1|apply u_2);done)|((repeat first|exact u_0|assumption|apply u_3|apply u_1);done))) (by (first | rfl | exact Vec.one _ _)) (by (first | decide | (rw [len_sc (h6 := rfl)]; omega))) (by (first | exact sc_s0 (h6 := rfl) (by assumption) (by (first | exact upd_same _ _ _ | rfl)) | exact sc_s1 (h6 := rfl) (by assumption) (by (first | exact upd_same _ _ _ | rfl)) | exact sc_s2 (h6 := rfl) (by assumption) (by (first | exact upd_same _ _ _ | rfl)) | exact sc_s3 (h6 := rfl) (by assumption) (by (first | exact upd_same _ _ _ | rfl)) | exact sc_s4 (h6 := rfl) (by assumption) (by (first | exact upd_same _ _ _ | rfl)) | exact sc_setop (h6 := rfl) (by assumption) | exact sc_setlast (h6 := rfl) | exact sc_setruns (h6 := rfl) | (((try apply evl_some rfl);(repeat (first|exact (rfl : _ = [])|apply evl_cons rfl (by (first|exact v_1|exact v_2|exact v_3|exact v_4|exact v_5|exact v_6|exact v_7|exact v_8|exact v_9|exact rfl))|exact rfl)))))) ?_)
      refine jo_same ?_
      refine js_S rfl rfl (.inl rfl) (xv_nilp rfl ⟨rfl, rfl⟩) ?_
      refine js_S rfl rfl (.inl rfl) (xv_faddr fl29_3 rfl ⟨rfl, rfl⟩) ?_
      refine js_O rfl rfl (.inl rfl) (xv_s1 ty3 rfl rfl rfl (by (first|(apply u_3;(repeat first|exact u_0|assumption|apply u_1|apply u_2);done)|((repeat first|exact u_0|assumption|apply u_1|apply u_2);done)|(apply u_3;apply u_3;(repeat first|exact u_0|assumption|apply u_1|apply u_2);done)|((repeat first|exact u_0|assumption|apply u_3|apply u_1);done))) (by (first | rfl | exact Vec.one _ _)) (by (first | decide | (rw [len_sc (h6 := rfl)]; omega))) (by (first | exact sc_s0 (h6 := rfl) (by assumption) (by (first | exact upd_same _ _ _ | rfl)) | exact sc_s1 (h6 := rfl) (by assumption) (by (first | exact upd_same _ _ _ | rfl)) | exact sc_s2 (h6 := rfl) (by assumption) (by (first | exact upd_same _ _ _ | rfl)) | exact sc_s3 (h6 := rfl) (by assumption) (by (first | exact upd_same _ _ _ | rfl)) | exact sc_s4 (h6 := rfl) (by assumption) (by (first | exact upd_same _ _ _ | rfl)) | exact sc_setop (h6 := rfl) (by assumption) | exact sc_setlast (h6 := rfl) | exact sc_setruns (h6 := rfl) | (((try apply evl_some rfl);(repeat (first|exact (rfl : _ = [])|apply evl_cons rfl (by (first|exact v_1|exact v_2|exact v_3|exact v_4|exact v_5|exact v_6|exact v_7|exact v_8|exact v_9|exact rfl))|exact rfl)))))) ?_)
      refine jo_same ?_
      refine j_endp (List.perm_append_singleton _ _) ?_
      refine body_end (h' := shopH (eHouse a c w) s m es cm V ⟨upd S.ov i ⟨(S.ov i).state, x.hour + w.scurf, (S.ov i).tons, 0, (S.ov i).cool⟩, S.done, S.last, S.runs, S.op⟩ L) rfl ro_nil (by simp only [upd_upd, shopH]; (first|((repeat first|exact s_0|exact s_1|exact s_3|refine s_4 ?_|refine s_5 ?_|refine s_6 ?_|refine s_7 ?_);done)|((repeat first|exact s_0|exact s_1|exact s_3|refine s_4 ?_|refine s_5 ?_|refine s_6 ?_|refine s_8 ?_);done))) ?_
      exact H1 _ V (by (simp only [beq_iff_eq, decide_eq_true_eq, beq_eq_false_iff_ne, decide_eq_false_iff_not, bne_iff_ne, ne_eq, Bool.not_eq_true] at *; unfold scour; simp only [hxi]; (repeat' split); all_goals first | (exfalso; omega) | rfl)) hV
    · refine jp_p ?_
      refine th_p ?_
      refine body_pan ?_
      exact H2 _ _ (by (simp only [beq_iff_eq, decide_eq_true_eq, beq_eq_false_iff_ne, decide_eq_false_iff_not, bne_iff_ne, ne_eq, Bool.not_eq_true] at *; unfold scour; simp only [hxi]; (repeat' split); all_goals first | (exfalso; omega) | rfl))
  · refine th_p ?_
    refine body_pan ?_
    exact H2 _ _ (by (simp only [beq_iff_eq, decide_eq_true_eq, beq_eq_false_iff_ne, decide_eq_false_iff_not, bne_iff_ne, ne_eq, Bool.not_eq_true] at *; unfold scour; simp only [hxi]; (repeat' split); all_goals first | (exfalso; omega) | rfl))

theorem lightUp_c {a : Option Addr} {c : Nat} {w : House} {s m i : Nat} {es : List MapEntry} {cm n : Nat} {V : Vec} {S : St} {x : Stoke} {L : Hp} {R : Ending → Hp → Prop}
    (hw : goodHouse w) (hx : goodStoke x) (hn : n ≤ 1000) (hS : S.Ok n) (hV : V.ok 3 S.runs.length (S.runs.flatMap eRun)) (hi : i < 8) (hxi : x.ret.toNat = i)
    (H1 : ∀ S' V', lightUp w S x = .ok S' → V'.ok 3 S'.runs.length (S'.runs.flatMap eRun) → R (.returned (.tuple #[])) (shopH (eHouse a c w) s m es cm V' S' L))
    (H2 : ∀ e hx, lightUp w S x = .error e → R (.panicked (mis e)) hx) :
    ACalls Try.prog 48 ⟨[.pointer (some ⟨s, 0, none⟩), .pointer (some ⟨s, 6 + i * 5, none⟩), .agg ⟨eStoke x⟩]⟩ (shopH (eHouse a c w) s m es cm V S L) R := by
  refine calls_of_xc (N := 40) Try.func48 rfl (by rfl) ?_
  obtain ⟨⟨hs0, hs1⟩, ⟨hr0, hr1⟩, hc0, hc1⟩ := hS.ov i hi
  obtain ⟨⟨hh0, hh1⟩, ⟨ht0, ht1⟩, ⟨hk0, hk1⟩, ht, htn⟩ := hx
  obtain ⟨hl1, hl2, hl3, ⟨hle0, hle1⟩, ⟨hru0, hru1⟩, ⟨hsc0, hsc1⟩, ⟨hga0, hga1⟩, ⟨hco0, hco1⟩⟩ := hw
  unfold shopH
  refine xc_seq (xc_region ?_)
  refine xr_op rfl rfl (xv_box rfl (fun b1 hb1 => ?_))
  refine xr_end rfl ?_
  refine th_n ?_
  refine xc_seq (xc_region ?_)
  refine xr_op rfl rfl (xv_move rfl ?_)
  refine xr_op rfl rfl (xv_nilp rfl ?_)
  refine xr_op rfl rfl (xv_faddr fl29_0 rfl ?_)
  refine xr_op rfl rfl (xv_load1 ty3 rfl rfl (by (first|((repeat first|exact z_0|assumption|refine z_1 ?_|refine z_r ?_);done)|((repeat refine z_1 ?_);refine z_l ?_;(repeat first|exact z_0|assumption|refine z_1 ?_|refine z_r ?_);done)|((repeat refine z_1 ?_);refine z_r ?_;(repeat refine z_1 ?_);refine z_l ?_;(repeat first|exact z_0|assumption|refine z_1 ?_|refine z_r ?_);done)|((repeat first|exact z_0|assumption|refine z_1 ?_|refine z_l ?_);done))) (by (first | rfl | exact sc_ov' (h6 := rfl) (by assumption) rfl | exact sc_ov (h6 := rfl) (by assumption) rfl rfl | exact sc_at (h6 := rfl) rfl | exact sc_op (h6 := rfl) (by assumption) rfl)) ?_)
  refine xr_op rfl rfl (xv_cmp rfl rfl rfl ?_)
  refine xr_op rfl rfl (xv_calls rfl hb49 (need_c _ _ (fun hb2 => up_ret ?_) (fun hb3 => up_pan ?_)))
  · refine xr_end rfl ?_
    refine th_n ?_
    refine xc_seq ?_
    refine xc_draw [(0, .S), (1, .S), (2, .S), (3, .S), (4, .S), (5, .S), (6, .O), (7, .S), (8, .S), (9, .O)] [(b1, .cells ⟨eStoke x⟩ 48)] (V.hp 86 (S.runs.flatMap eRun) ++ (s, .cells ⟨shopC (eHouse a c w) S.ov m S.last (V.val S.runs.length) S.op⟩ 63 (0, 0)) :: (m, .map ⟨es⟩ cm) :: L) mixed (by kernel_rfl) (List.perm_append_singleton _ _) ?_
    refine js_S rfl rfl (.inl rfl) (xv_move rfl ⟨rfl, rfl⟩) ?_
    refine js_S rfl rfl (.inl rfl) (xv_move rfl ⟨rfl, rfl⟩) ?_
    refine js_S rfl rfl (.inl rfl) (xv_faddr fl48_0 rfl ⟨rfl, rfl⟩) ?_
    refine js_S rfl rfl (.inl rfl) (xv_load1 ty3 rfl rfl (by (first|((repeat first|exact z_0|assumption|refine z_1 ?_|refine z_r ?_);done)|((repeat refine z_1 ?_);refine z_l ?_;(repeat first|exact z_0|assumption|refine z_1 ?_|refine z_r ?_);done)|((repeat refine z_1 ?_);refine z_r ?_;(repeat refine z_1 ?_);refine z_l ?_;(repeat first|exact z_0|assumption|refine z_1 ?_|refine z_r ?_);done)|((repeat first|exact z_0|assumption|refine z_1 ?_|refine z_l ?_);done))) (by (first | rfl | exact sc_ov' (h6 := rfl) (by assumption) rfl | exact sc_ov (h6 := rfl) (by assumption) rfl rfl | exact sc_at (h6 := rfl) rfl | exact sc_op (h6 := rfl) (by assumption) rfl)) ⟨rfl, rfl⟩) ?_
    refine js_S rfl rfl (.inl rfl) (xv_nilp rfl ⟨rfl, rfl⟩) ?_
    refine js_S rfl rfl (.inl rfl) (xv_faddr fl29_0 rfl ⟨rfl, rfl⟩) ?_
    refine js_O rfl rfl (.inl rfl) (xv_s1 ty3 rfl rfl rfl (by (first|(apply u_3;(repeat first|exact u_0|assumption|apply u_1|apply u_2);done)|((repeat first|exact u_0|assumption|apply u_1|apply u_2);done)|(apply u_3;apply u_3;(repeat first|exact u_0|assumption|apply u_1|apply u_2);done)|((repeat first|exact u_0|assumption|apply u_3|apply u_1);done))) (by (first | rfl | exact Vec.one _ _)) (by (first | decide | (rw [len_sc (h6 := rfl)]; omega))) (by (first | exact sc_s0 (h6 := rfl) (by assumption) (by (first | exact upd_same _ _ _ | rfl)) | exact sc_s1 (h6 := rfl) (by assumption) (by (first | exact upd_same _ _ _ | rfl)) | exact sc_s2 (h6 := rfl) (by assumption) (by (first | exact upd_same _ _ _ | rfl)) | exact sc_s3 (h6 := rfl) (by assumption) (by (first | exact upd_same _ _ _ | rfl)) | exact sc_s4 (h6 := rfl) (by assumption) (by (first | exact upd_same _ _ _ | rfl)) | exact sc_setop (h6 := rfl) (by assumption) | exact sc_setlast (h6 := rfl) | exact sc_setruns (h6 := rfl) | (((try apply evl_some rfl);(repeat (first|exact (rfl : _ = [])|apply evl_cons rfl (by (first|exact v_1|exact v_2|exact v_3|exact v_4|exact v_5|exact v_6|exact v_7|exact v_8|exact v_9|exact rfl))|exact rfl)))))) ?_)
    refine jo_same ?_
    refine js_S rfl rfl (.inl rfl) (xv_nilp rfl ⟨rfl, rfl⟩) ?_
    refine js_S rfl rfl (.inl rfl) (xv_faddr fl29_1 rfl ⟨rfl, rfl⟩) ?_
    refine js_O rfl rfl (.inl rfl) (xv_s1 ty3 rfl rfl rfl (by (first|(apply u_3;(repeat first|exact u_0|assumption|apply u_1|apply u_2);done)|((repeat first|exact u_0|assumption|apply u_1|apply u_2);done)|(apply u_3;apply u_3;(repeat first|exact u_0|assumption|apply u_1|apply u_2);done)|((repeat first|exact u_0|assumption|apply u_3|apply u_1);done))) (by (first | rfl | exact Vec.one _ _)) (by (first | decide | (rw [len_sc (h6 := rfl)]; omega))) (by (first | exact sc_s0 (h6 := rfl) (by assumption) (by (first | exact upd_same _ _ _ | rfl)) | exact sc_s1 (h6 := rfl) (by assumption) (by (first | exact upd_same _ _ _ | rfl)) | exact sc_s2 (h6 := rfl) (by assumption) (by (first | exact upd_same _ _ _ | rfl)) | exact sc_s3 (h6 := rfl) (by assumption) (by (first | exact upd_same _ _ _ | rfl)) | exact sc_s4 (h6 := rfl) (by assumption) (by (first | exact upd_same _ _ _ | rfl)) | exact sc_setop (h6 := rfl) (by assumption) | exact sc_setlast (h6 := rfl) | exact sc_setruns (h6 := rfl) | (((try apply evl_some rfl);(repeat (first|exact (rfl : _ = [])|apply evl_cons rfl (by (first|exact v_1|exact v_2|exact v_3|exact v_4|exact v_5|exact v_6|exact v_7|exact v_8|exact v_9|exact rfl))|exact rfl)))))) ?_)
    refine jo_same ?_
    refine j_endp (List.perm_append_singleton _ _) ?_
    refine th_n ?_
    refine xc_seq ?_
    refine xc_seq ?_
    refine xc_draw0 [(0, .S), (1, .S), (2, .S), (3, .R), (4, .S), (5, .S), (6, .S), (7, .S), (8, .R), (9, .S)] mixed (by kernel_rfl) ?_
    refine js_S rfl rfl (.inl rfl) (xv_move rfl ⟨rfl, rfl⟩) ?_
    refine js_S rfl rfl (.inl rfl) (xv_nilp rfl ⟨rfl, rfl⟩) ?_
    refine js_S rfl rfl (.inl rfl) (xv_faddr fl29_4 rfl ⟨rfl, rfl⟩) ?_
    refine js_R0 rfl rfl (.inl rfl) (xv_load1 ty3 rfl rfl (by (first|((repeat first|exact z_0|assumption|refine z_1 ?_|refine z_r ?_);done)|((repeat refine z_1 ?_);refine z_l ?_;(repeat first|exact z_0|assumption|refine z_1 ?_|refine z_r ?_);done)|((repeat refine z_1 ?_);refine z_r ?_;(repeat refine z_1 ?_);refine z_l ?_;(repeat first|exact z_0|assumption|refine z_1 ?_|refine z_r ?_);done)|((repeat first|exact z_0|assumption|refine z_1 ?_|refine z_l ?_);done))) (by (first | rfl | exact sc_ov' (h6 := rfl) (by assumption) rfl | exact sc_ov (h6 := rfl) (by assumption) rfl rfl | exact sc_at (h6 := rfl) rfl | exact sc_op (h6 := rfl) (by assumption) rfl)) ⟨rfl, rfl⟩) ?_
    refine js_S rfl rfl (.inl rfl) (xv_move rfl ⟨rfl, rfl⟩) ?_
    refine js_S rfl rfl (.inl rfl) (xv_nilp rfl ⟨rfl, rfl⟩) ?_
    refine js_S rfl rfl (.inl rfl) (xv_faddr fl63_0 rfl ⟨rfl, rfl⟩) ?_
    refine js_S rfl rfl (.inl rfl) (xv_faddr fl24_4 rfl ⟨rfl, rfl⟩) ?_
    refine js_R0 rfl rfl (.inl rfl) (xv_load1 ty3 rfl rfl (by (first|((repeat first|exact z_0|assumption|refine z_1 ?_|refine z_r ?_);done)|((repeat refine z_1 ?_);refine z_l ?_;(repeat first|exact z_0|assumption|refine z_1 ?_|refine z_r ?_);done)|((repeat refine z_1 ?_);refine z_r ?_;(repeat refine z_1 ?_);refine z_l ?_;(repeat first|exact z_0|assumption|refine z_1 ?_|refine z_r ?_);done)|((repeat first|exact z_0|assumption|refine z_1 ?_|refine z_l ?_);done))) (by (first | rfl | exact sc_ov' (h6 := rfl) (by assumption) rfl | exact sc_ov (h6 := rfl) (by assumption) rfl rfl | exact sc_at (h6 := rfl) rfl | exact sc_op (h6 := rfl) (by assumption) rfl)) ⟨rfl, rfl⟩) ?_
    refine js_S rfl rfl (.inl rfl) (xv_cmp rfl rfl rfl ⟨rfl, rfl⟩) ?_
    refine j_end0 ?_
    refine th_n ?_
    refine xc_bool rfl (fun q4 => ?_) (fun q4 => ?_)
    · refine xc_region ?_
      refine xr_op rfl rfl (xv_move rfl ?_)
      refine xr_op rfl rfl (xv_nilp rfl ?_)
      refine xr_op rfl rfl (xv_faddr fl29_0 rfl ?_)
      refine xr_op rfl rfl (xv_s1 ty3 rfl rfl rfl (by (first|(apply u_3;(repeat first|exact u_0|assumption|apply u_1|apply u_2);done)|((repeat first|exact u_0|assumption|apply u_1|apply u_2);done)|(apply u_3;apply u_3;(repeat first|exact u_0|assumption|apply u_1|apply u_2);done)|((repeat first|exact u_0|assumption|apply u_3|apply u_1);done))) (by (first | rfl | exact Vec.one _ _)) (by (first | decide | (rw [len_sc (h6 := rfl)]; omega))) (by (first | exact sc_s0 (h6 := rfl) (by assumption) (by (first | exact upd_same _ _ _ | rfl)) | exact sc_s1 (h6 := rfl) (by assumption) (by (first | exact upd_same _ _ _ | rfl)) | exact sc_s2 (h6 := rfl) (by assumption) (by (first | exact upd_same _ _ _ | rfl)) | exact sc_s3 (h6 := rfl) (by assumption) (by (first | exact upd_same _ _ _ | rfl)) | exact sc_s4 (h6 := rfl) (by assumption) (by (first | exact upd_same _ _ _ | rfl)) | exact sc_setop (h6 := rfl) (by assumption) | exact sc_setlast (h6 := rfl) | exact sc_setruns (h6 := rfl) | (((try apply evl_some rfl);(repeat (first|exact (rfl : _ = [])|apply evl_cons rfl (by (first|exact v_1|exact v_2|exact v_3|exact v_4|exact v_5|exact v_6|exact v_7|exact v_8|exact v_9|exact rfl))|exact rfl)))))) ?_)
      refine xr_end rfl ?_
      refine th_n ?_
      refine xc_region ?_
      refine xr_op rfl rfl (xv_move rfl ?_)
      refine xr_op rfl rfl (xv_nilp rfl ?_)
      refine xr_op rfl rfl (xv_faddr fl29_4 rfl ?_)
      refine xr_op rfl rfl (xv_load1 ty3 rfl rfl (by (first|((repeat first|exact z_0|assumption|refine z_1 ?_|refine z_r ?_);done)|((repeat refine z_1 ?_);refine z_l ?_;(repeat first|exact z_0|assumption|refine z_1 ?_|refine z_r ?_);done)|((repeat refine z_1 ?_);refine z_r ?_;(repeat refine z_1 ?_);refine z_l ?_;(repeat first|exact z_0|assumption|refine z_1 ?_|refine z_r ?_);done)|((repeat first|exact z_0|assumption|refine z_1 ?_|refine z_l ?_);done))) (by (first | rfl | exact sc_ov' (h6 := rfl) (by assumption) rfl | exact sc_ov (h6 := rfl) (by assumption) rfl rfl | exact sc_at (h6 := rfl) rfl | exact sc_op (h6 := rfl) (by assumption) rfl)) ?_)
      refine xr_op rfl rfl (xv_add rfl rfl (wrap_i64 (by (first | omega | (dsimp only at *; omega) | (simp at *; omega))) (by (first | omega | (dsimp only at *; omega) | (simp at *; omega)))) ?_)
      refine xr_op rfl rfl (xv_nilp rfl ?_)
      refine xr_op rfl rfl (xv_faddr fl29_4 rfl ?_)
      refine xr_op rfl rfl (xv_s1 ty3 rfl rfl rfl (by (first|(apply u_3;(repeat first|exact u_0|assumption|apply u_1|apply u_2);done)|((repeat first|exact u_0|assumption|apply u_1|apply u_2);done)|(apply u_3;apply u_3;(repeat first|exact u_0|assumption|apply u_1|apply u_2);done)|((repeat first|exact u_0|assumption|apply u_3|apply u_1);done))) (by (first | rfl | exact Vec.one _ _)) (by (first | decide | (rw [len_sc (h6 := rfl)]; omega))) (by (first | exact sc_s0 (h6 := rfl) (by assumption) (by (first | exact upd_same _ _ _ | rfl)) | exact sc_s1 (h6 := rfl) (by assumption) (by (first | exact upd_same _ _ _ | rfl)) | exact sc_s2 (h6 := rfl) (by assumption) (by (first | exact upd_same _ _ _ | rfl)) | exact sc_s3 (h6 := rfl) (by assumption) (by (first | exact upd_same _ _ _ | rfl)) | exact sc_s4 (h6 := rfl) (by assumption) (by (first | exact upd_same _ _ _ | rfl)) | exact sc_setop (h6 := rfl) (by assumption) | exact sc_setlast (h6 := rfl) | exact sc_setruns (h6 := rfl) | (((try apply evl_some rfl);(repeat (first|exact (rfl : _ = [])|apply evl_cons rfl (by (first|exact v_1|exact v_2|exact v_3|exact v_4|exact v_5|exact v_6|exact v_7|exact v_8|exact v_9|exact rfl))|exact rfl)))))) ?_)
      refine xr_end rfl ?_
      refine body_end (h' := shopH (eHouse a c w) s m es cm V ⟨upd S.ov i ⟨if (S.ov i).cool = w.cool then 3 else 0, x.hour, (S.ov i).tons, (S.ov i).runs, (S.ov i).cool + 1⟩, S.done, S.last, S.runs, S.op⟩ L) rfl ro_nil (by simp only [beq_iff_eq, beq_eq_false_iff_ne, ne_eq] at *; simp only [upd_upd, shopH, *, if_true, if_false]; (first|((repeat first|exact s_0|exact s_1|exact s_3|refine s_4 ?_|refine s_5 ?_|refine s_6 ?_|refine s_7 ?_);done)|((repeat first|exact s_0|exact s_1|exact s_3|refine s_4 ?_|refine s_5 ?_|refine s_6 ?_|refine s_8 ?_);done))) ?_
      exact H1 _ V (by (simp only [beq_iff_eq, decide_eq_true_eq, beq_eq_false_iff_ne, decide_eq_false_iff_not, bne_iff_ne, ne_eq, Bool.not_eq_true] at *; unfold lightUp; simp only [hxi]; (repeat' split); all_goals first | (exfalso; omega) | rfl)) hV
    · refine xc_skip ?_
      refine th_n ?_
      refine xc_region ?_
      refine xr_op rfl rfl (xv_move rfl ?_)
      refine xr_op rfl rfl (xv_nilp rfl ?_)
      refine xr_op rfl rfl (xv_faddr fl29_4 rfl ?_)
      refine xr_op rfl rfl (xv_load1 ty3 rfl rfl (by (first|((repeat first|exact z_0|assumption|refine z_1 ?_|refine z_r ?_);done)|((repeat refine z_1 ?_);refine z_l ?_;(repeat first|exact z_0|assumption|refine z_1 ?_|refine z_r ?_);done)|((repeat refine z_1 ?_);refine z_r ?_;(repeat refine z_1 ?_);refine z_l ?_;(repeat first|exact z_0|assumption|refine z_1 ?_|refine z_r ?_);done)|((repeat first|exact z_0|assumption|refine z_1 ?_|refine z_l ?_);done))) (by (first | rfl | exact sc_ov' (h6 := rfl) (by assumption) rfl | exact sc_ov (h6 := rfl) (by assumption) rfl rfl | exact sc_at (h6 := rfl) rfl | exact sc_op (h6 := rfl) (by assumption) rfl)) ?_)
      refine xr_op rfl rfl (xv_add rfl rfl (wrap_i64 (by (first | omega | (dsimp only at *; omega) | (simp at *; omega))) (by (first | omega | (dsimp only at *; omega) | (simp at *; omega)))) ?_)
      refine xr_op rfl rfl (xv_nilp rfl ?_)
      refine xr_op rfl rfl (xv_faddr fl29_4 rfl ?_)
      refine xr_op rfl rfl (xv_s1 ty3 rfl rfl rfl (by (first|(apply u_3;(repeat first|exact u_0|assumption|apply u_1|apply u_2);done)|((repeat first|exact u_0|assumption|apply u_1|apply u_2);done)|(apply u_3;apply u_3;(repeat first|exact u_0|assumption|apply u_1|apply u_2);done)|((repeat first|exact u_0|assumption|apply u_3|apply u_1);done))) (by (first | rfl | exact Vec.one _ _)) (by (first | decide | (rw [len_sc (h6 := rfl)]; omega))) (by (first | exact sc_s0 (h6 := rfl) (by assumption) (by (first | exact upd_same _ _ _ | rfl)) | exact sc_s1 (h6 := rfl) (by assumption) (by (first | exact upd_same _ _ _ | rfl)) | exact sc_s2 (h6 := rfl) (by assumption) (by (first | exact upd_same _ _ _ | rfl)) | exact sc_s3 (h6 := rfl) (by assumption) (by (first | exact upd_same _ _ _ | rfl)) | exact sc_s4 (h6 := rfl) (by assumption) (by (first | exact upd_same _ _ _ | rfl)) | exact sc_setop (h6 := rfl) (by assumption) | exact sc_setlast (h6 := rfl) | exact sc_setruns (h6 := rfl) | (((try apply evl_some rfl);(repeat (first|exact (rfl : _ = [])|apply evl_cons rfl (by (first|exact v_1|exact v_2|exact v_3|exact v_4|exact v_5|exact v_6|exact v_7|exact v_8|exact v_9|exact rfl))|exact rfl)))))) ?_)
      refine xr_end rfl ?_
      refine body_end (h' := shopH (eHouse a c w) s m es cm V ⟨upd S.ov i ⟨if (S.ov i).cool = w.cool then 3 else 0, x.hour, (S.ov i).tons, (S.ov i).runs, (S.ov i).cool + 1⟩, S.done, S.last, S.runs, S.op⟩ L) rfl ro_nil (by simp only [beq_iff_eq, beq_eq_false_iff_ne, ne_eq] at *; simp only [upd_upd, shopH, *, if_true, if_false]; (first|((repeat first|exact s_0|exact s_1|exact s_3|refine s_4 ?_|refine s_5 ?_|refine s_6 ?_|refine s_7 ?_);done)|((repeat first|exact s_0|exact s_1|exact s_3|refine s_4 ?_|refine s_5 ?_|refine s_6 ?_|refine s_8 ?_);done))) ?_
      exact H1 _ V (by (simp only [beq_iff_eq, decide_eq_true_eq, beq_eq_false_iff_ne, decide_eq_false_iff_not, bne_iff_ne, ne_eq, Bool.not_eq_true] at *; unfold lightUp; simp only [hxi]; (repeat' split); all_goals first | (exfalso; omega) | rfl)) hV
  · refine th_p ?_
    refine body_pan ?_
    exact H2 _ _ (by (simp only [beq_iff_eq, decide_eq_true_eq, beq_eq_false_iff_ne, decide_eq_false_iff_not, bne_iff_ne, ne_eq, Bool.not_eq_true] at *; unfold lightUp; simp only [hxi]; (repeat' split); all_goals first | (exfalso; omega) | rfl))

theorem charge_c {a : Option Addr} {c : Nat} {w : House} {s m i : Nat} {es : List MapEntry} {cm n : Nat} {V : Vec} {S : St} {x : Stoke} {L : Hp} {R : Ending → Hp → Prop}
    (hw : goodHouse w) (hx : goodStoke x) (hn : n ≤ 1000) (hS : S.Ok n) (hV : V.ok 3 S.runs.length (S.runs.flatMap eRun)) (hi : i < 8) (hxi : x.ret.toNat = i)
    (H1 : ∀ S' V', charge w S x = .ok S' → V'.ok 3 S'.runs.length (S'.runs.flatMap eRun) → R (.returned (.tuple #[])) (shopH (eHouse a c w) s m es cm V' S' L))
    (H2 : ∀ e hx, charge w S x = .error e → R (.panicked (mis e)) hx) :
    ACalls Try.prog 44 ⟨[.pointer (some ⟨s, 0, none⟩), .pointer (some ⟨s, 6 + i * 5, none⟩), .agg ⟨eStoke x⟩]⟩ (shopH (eHouse a c w) s m es cm V S L) R := by
  refine calls_of_xc (N := 76) Try.func44 rfl (by rfl) ?_
  obtain ⟨⟨hs0, hs1⟩, ⟨hr0, hr1⟩, hc0, hc1⟩ := hS.ov i hi
  obtain ⟨⟨hh0, hh1⟩, ⟨ht0, ht1⟩, ⟨hk0, hk1⟩, ht, htn⟩ := hx
  obtain ⟨hl1, hl2, hl3, ⟨hle0, hle1⟩, ⟨hru0, hru1⟩, ⟨hsc0, hsc1⟩, ⟨hga0, hga1⟩, ⟨hco0, hco1⟩⟩ := hw
  unfold shopH
  have hrl := hS.runs
  refine xc_seq (xc_region ?_)
  refine xr_op rfl rfl (xv_box rfl (fun b1 hb1 => ?_))
  refine xr_end rfl ?_
  refine th_n ?_
  refine xc_seq (xc_region ?_)
  refine xr_op rfl rfl (xv_move rfl ?_)
  refine xr_op rfl rfl (xv_nilp rfl ?_)
  refine xr_op rfl rfl (xv_faddr fl29_0 rfl ?_)
  refine xr_op rfl rfl (xv_load1 ty3 rfl rfl (by (first|((repeat first|exact z_0|assumption|refine z_1 ?_|refine z_r ?_);done)|((repeat refine z_1 ?_);refine z_l ?_;(repeat first|exact z_0|assumption|refine z_1 ?_|refine z_r ?_);done)|((repeat refine z_1 ?_);refine z_r ?_;(repeat refine z_1 ?_);refine z_l ?_;(repeat first|exact z_0|assumption|refine z_1 ?_|refine z_r ?_);done)|((repeat first|exact z_0|assumption|refine z_1 ?_|refine z_l ?_);done))) (by (first | rfl | exact sc_ov' (h6 := rfl) (by assumption) rfl | exact sc_ov (h6 := rfl) (by assumption) rfl rfl | exact sc_at (h6 := rfl) rfl | exact sc_op (h6 := rfl) (by assumption) rfl)) ?_)
  refine xr_op rfl rfl (xv_cmp rfl rfl rfl ?_)
  refine xr_op rfl rfl (xv_calls rfl hb49 (need_c _ _ (fun hb2 => up_ret ?_) (fun hb3 => up_pan ?_)))
  · refine xr_end rfl ?_
    refine th_n ?_
    refine xc_seq ?_
    refine xc_draw0 [(0, .S), (1, .R), (2, .S), (3, .S), (4, .S), (5, .R), (6, .S), (7, .O)] mixed (by kernel_rfl) ?_
    refine js_S rfl rfl (.inl rfl) (xv_faddr fl48_0 rfl ⟨rfl, rfl⟩) ?_
    refine js_R0 rfl rfl (.inl rfl) (xv_load1 ty3 rfl rfl (by (first|((repeat first|exact z_0|assumption|refine z_1 ?_|refine z_r ?_);done)|((repeat refine z_1 ?_);refine z_l ?_;(repeat first|exact z_0|assumption|refine z_1 ?_|refine z_r ?_);done)|((repeat refine z_1 ?_);refine z_r ?_;(repeat refine z_1 ?_);refine z_l ?_;(repeat first|exact z_0|assumption|refine z_1 ?_|refine z_r ?_);done)|((repeat first|exact z_0|assumption|refine z_1 ?_|refine z_l ?_);done))) (by (first | rfl | exact sc_ov' (h6 := rfl) (by assumption) rfl | exact sc_ov (h6 := rfl) (by assumption) rfl rfl | exact sc_at (h6 := rfl) rfl | exact sc_op (h6 := rfl) (by assumption) rfl)) ⟨rfl, rfl⟩) ?_
    refine js_S rfl rfl (.inl rfl) (xv_move rfl ⟨rfl, rfl⟩) ?_
    refine js_S rfl rfl (.inl rfl) (xv_nilp rfl ⟨rfl, rfl⟩) ?_
    refine js_S rfl rfl (.inl rfl) (xv_faddr fl29_1 rfl ⟨rfl, rfl⟩) ?_
    refine js_R0 rfl rfl (.inl rfl) (xv_load1 ty3 rfl rfl (by (first|((repeat first|exact z_0|assumption|refine z_1 ?_|refine z_r ?_);done)|((repeat refine z_1 ?_);refine z_l ?_;(repeat first|exact z_0|assumption|refine z_1 ?_|refine z_r ?_);done)|((repeat refine z_1 ?_);refine z_r ?_;(repeat refine z_1 ?_);refine z_l ?_;(repeat first|exact z_0|assumption|refine z_1 ?_|refine z_r ?_);done)|((repeat first|exact z_0|assumption|refine z_1 ?_|refine z_l ?_);done))) (by (first | rfl | exact sc_ov' (h6 := rfl) (by assumption) rfl | exact sc_ov (h6 := rfl) (by assumption) rfl rfl | exact sc_at (h6 := rfl) rfl | exact sc_op (h6 := rfl) (by assumption) rfl)) ⟨rfl, rfl⟩) ?_
    refine js_S rfl rfl (.inl rfl) (xv_cmp rfl rfl rfl ⟨rfl, rfl⟩) ?_
    refine js_O0 rfl rfl (.inl rfl) (xv_calls rfl hb49 (need_c _ _ (fun hb4 => up_ret ?_) (fun hb5 => up_pan ?_)))
    · refine j_end0 ?_
      refine th_n ?_
      refine xc_seq ?_
      refine xc_draw0 [(0, .S), (1, .S), (2, .S), (3, .R), (4, .S), (5, .S), (6, .S), (7, .S), (8, .R), (9, .S), (10, .O)] mixed (by kernel_rfl) ?_
      refine js_S rfl rfl (.inl rfl) (xv_move rfl ⟨rfl, rfl⟩) ?_
      refine js_S rfl rfl (.inl rfl) (xv_nilp rfl ⟨rfl, rfl⟩) ?_
      refine js_S rfl rfl (.inl rfl) (xv_faddr fl29_3 rfl ⟨rfl, rfl⟩) ?_
      refine js_R0 rfl rfl (.inl rfl) (xv_load1 ty3 rfl rfl (by (first|((repeat first|exact z_0|assumption|refine z_1 ?_|refine z_r ?_);done)|((repeat refine z_1 ?_);refine z_l ?_;(repeat first|exact z_0|assumption|refine z_1 ?_|refine z_r ?_);done)|((repeat refine z_1 ?_);refine z_r ?_;(repeat refine z_1 ?_);refine z_l ?_;(repeat first|exact z_0|assumption|refine z_1 ?_|refine z_r ?_);done)|((repeat first|exact z_0|assumption|refine z_1 ?_|refine z_l ?_);done))) (by (first | rfl | exact sc_ov' (h6 := rfl) (by assumption) rfl | exact sc_ov (h6 := rfl) (by assumption) rfl rfl | exact sc_at (h6 := rfl) rfl | exact sc_op (h6 := rfl) (by assumption) rfl)) ⟨rfl, rfl⟩) ?_
      refine js_S rfl rfl (.inl rfl) (xv_move rfl ⟨rfl, rfl⟩) ?_
      refine js_S rfl rfl (.inl rfl) (xv_nilp rfl ⟨rfl, rfl⟩) ?_
      refine js_S rfl rfl (.inl rfl) (xv_faddr fl63_0 rfl ⟨rfl, rfl⟩) ?_
      refine js_S rfl rfl (.inl rfl) (xv_faddr fl24_2 rfl ⟨rfl, rfl⟩) ?_
      refine js_R0 rfl rfl (.inl rfl) (xv_load1 ty3 rfl rfl (by (first|((repeat first|exact z_0|assumption|refine z_1 ?_|refine z_r ?_);done)|((repeat refine z_1 ?_);refine z_l ?_;(repeat first|exact z_0|assumption|refine z_1 ?_|refine z_r ?_);done)|((repeat refine z_1 ?_);refine z_r ?_;(repeat refine z_1 ?_);refine z_l ?_;(repeat first|exact z_0|assumption|refine z_1 ?_|refine z_r ?_);done)|((repeat first|exact z_0|assumption|refine z_1 ?_|refine z_l ?_);done))) (by (first | rfl | exact sc_ov' (h6 := rfl) (by assumption) rfl | exact sc_ov (h6 := rfl) (by assumption) rfl rfl | exact sc_at (h6 := rfl) rfl | exact sc_op (h6 := rfl) (by assumption) rfl)) ⟨rfl, rfl⟩) ?_
      refine js_S rfl rfl (.inl rfl) (xv_cmp rfl rfl rfl ⟨rfl, rfl⟩) ?_
      refine js_O0 rfl rfl (.inl rfl) (xv_calls rfl hb49 (need_c _ _ (fun hb6 => up_ret ?_) (fun hb7 => up_pan ?_)))
      · refine j_end0 ?_
        refine th_n ?_
        refine xc_seq ?_
        refine xc_draw [(0, .S), (1, .S), (2, .S), (3, .S), (4, .S), (5, .S), (6, .S), (7, .S), (8, .S), (9, .O), (10, .S), (11, .S), (12, .O), (13, .S), (14, .S), (15, .O)] [(b1, .cells ⟨eStoke x⟩ 48)] (V.hp 86 (S.runs.flatMap eRun) ++ (s, .cells ⟨shopC (eHouse a c w) S.ov m S.last (V.val S.runs.length) S.op⟩ 63 (0, 0)) :: (m, .map ⟨es⟩ cm) :: L) mixed (by kernel_rfl) (List.perm_append_singleton _ _) ?_
        refine js_S rfl rfl (.inl rfl) (xv_move rfl ⟨rfl, rfl⟩) ?_
        refine js_S rfl rfl (.inl rfl) (xv_move rfl ⟨rfl, rfl⟩) ?_
        refine js_S rfl rfl (.inl rfl) (xv_move rfl ⟨rfl, rfl⟩) ?_
        refine js_S rfl rfl (.inl rfl) (xv_faddr fl48_0 rfl ⟨rfl, rfl⟩) ?_
        refine js_S rfl rfl (.inl rfl) (xv_load1 ty3 rfl rfl (by (first|((repeat first|exact z_0|assumption|refine z_1 ?_|refine z_r ?_);done)|((repeat refine z_1 ?_);refine z_l ?_;(repeat first|exact z_0|assumption|refine z_1 ?_|refine z_r ?_);done)|((repeat refine z_1 ?_);refine z_r ?_;(repeat refine z_1 ?_);refine z_l ?_;(repeat first|exact z_0|assumption|refine z_1 ?_|refine z_r ?_);done)|((repeat first|exact z_0|assumption|refine z_1 ?_|refine z_l ?_);done))) (by (first | rfl | exact sc_ov' (h6 := rfl) (by assumption) rfl | exact sc_ov (h6 := rfl) (by assumption) rfl rfl | exact sc_at (h6 := rfl) rfl | exact sc_op (h6 := rfl) (by assumption) rfl)) ⟨rfl, rfl⟩) ?_
        refine js_S rfl rfl (.inl rfl) (xv_faddr fl48_3 rfl ⟨rfl, rfl⟩) ?_
        refine js_S rfl rfl (.inl rfl) (xv_load1 ty3 rfl rfl (by (first|((repeat first|exact z_0|assumption|refine z_1 ?_|refine z_r ?_);done)|((repeat refine z_1 ?_);refine z_l ?_;(repeat first|exact z_0|assumption|refine z_1 ?_|refine z_r ?_);done)|((repeat refine z_1 ?_);refine z_r ?_;(repeat refine z_1 ?_);refine z_l ?_;(repeat first|exact z_0|assumption|refine z_1 ?_|refine z_r ?_);done)|((repeat first|exact z_0|assumption|refine z_1 ?_|refine z_l ?_);done))) (by (first | rfl | exact sc_ov' (h6 := rfl) (by assumption) rfl | exact sc_ov (h6 := rfl) (by assumption) rfl rfl | exact sc_at (h6 := rfl) rfl | exact sc_op (h6 := rfl) (by assumption) rfl)) ⟨rfl, rfl⟩) ?_
        refine js_S rfl rfl (.inl rfl) (xv_nilp rfl ⟨rfl, rfl⟩) ?_
        refine js_S rfl rfl (.inl rfl) (xv_faddr fl29_0 rfl ⟨rfl, rfl⟩) ?_
        refine js_O rfl rfl (.inl rfl) (xv_s1 ty3 rfl rfl rfl (by (first|(apply u_3;(repeat first|exact u_0|assumption|apply u_1|apply u_2);done)|((repeat first|exact u_0|assumption|apply u_1|apply u_2);done)|(apply u_3;apply u_3;(repeat first|exact u_0|assumption|apply u_1|apply u_2);done)|((repeat first|exact u_0|assumption|apply u_3|apply u_1);done))) (by (first | rfl | exact Vec.one _ _)) (by (first | decide | (rw [len_sc (h6 := rfl)]; omega))) (by (first | exact sc_s0 (h6 := rfl) (by assumption) (by (first | exact upd_same _ _ _ | rfl)) | exact sc_s1 (h6 := rfl) (by assumption) (by (first | exact upd_same _ _ _ | rfl)) | exact sc_s2 (h6 := rfl) (by assumption) (by (first | exact upd_same _ _ _ | rfl)) | exact sc_s3 (h6 := rfl) (by assumption) (by (first | exact upd_same _ _ _ | rfl)) | exact sc_s4 (h6 := rfl) (by assumption) (by (first | exact upd_same _ _ _ | rfl)) | exact sc_setop (h6 := rfl) (by assumption) | exact sc_setlast (h6 := rfl) | exact sc_setruns (h6 := rfl) | (((try apply evl_some rfl);(repeat (first|exact (rfl : _ = [])|apply evl_cons rfl (by (first|exact v_1|exact v_2|exact v_3|exact v_4|exact v_5|exact v_6|exact v_7|exact v_8|exact v_9|exact rfl))|exact rfl)))))) ?_)
        refine jo_same ?_
        refine js_S rfl rfl (.inl rfl) (xv_nilp rfl ⟨rfl, rfl⟩) ?_
        refine js_S rfl rfl (.inl rfl) (xv_faddr fl29_1 rfl ⟨rfl, rfl⟩) ?_
        refine js_O rfl rfl (.inl rfl) (xv_s1 ty3 rfl rfl rfl (by (first|(apply u_3;(repeat first|exact u_0|assumption|apply u_1|apply u_2);done)|((repeat first|exact u_0|assumption|apply u_1|apply u_2);done)|(apply u_3;apply u_3;(repeat first|exact u_0|assumption|apply u_1|apply u_2);done)|((repeat first|exact u_0|assumption|apply u_3|apply u_1);done))) (by (first | rfl | exact Vec.one _ _)) (by (first | decide | (rw [len_sc (h6 := rfl)]; omega))) (by (first | exact sc_s0 (h6 := rfl) (by assumption) (by (first | exact upd_same _ _ _ | rfl)) | exact sc_s1 (h6 := rfl) (by assumption) (by (first | exact upd_same _ _ _ | rfl)) | exact sc_s2 (h6 := rfl) (by assumption) (by (first | exact upd_same _ _ _ | rfl)) | exact sc_s3 (h6 := rfl) (by assumption) (by (first | exact upd_same _ _ _ | rfl)) | exact sc_s4 (h6 := rfl) (by assumption) (by (first | exact upd_same _ _ _ | rfl)) | exact sc_setop (h6 := rfl) (by assumption) | exact sc_setlast (h6 := rfl) | exact sc_setruns (h6 := rfl) | (((try apply evl_some rfl);(repeat (first|exact (rfl : _ = [])|apply evl_cons rfl (by (first|exact v_1|exact v_2|exact v_3|exact v_4|exact v_5|exact v_6|exact v_7|exact v_8|exact v_9|exact rfl))|exact rfl)))))) ?_)
        refine jo_same ?_
        refine js_S rfl rfl (.inl rfl) (xv_nilp rfl ⟨rfl, rfl⟩) ?_
        refine js_S rfl rfl (.inl rfl) (xv_faddr fl29_2 rfl ⟨rfl, rfl⟩) ?_
        refine js_O rfl rfl (.inl rfl) (xv_s1 ty3 rfl rfl rfl (by (first|(apply u_3;(repeat first|exact u_0|assumption|apply u_1|apply u_2);done)|((repeat first|exact u_0|assumption|apply u_1|apply u_2);done)|(apply u_3;apply u_3;(repeat first|exact u_0|assumption|apply u_1|apply u_2);done)|((repeat first|exact u_0|assumption|apply u_3|apply u_1);done))) (by (first | rfl | exact Vec.one _ _)) (by (first | decide | (rw [len_sc (h6 := rfl)]; omega))) (by (first | exact sc_s0 (h6 := rfl) (by assumption) (by (first | exact upd_same _ _ _ | rfl)) | exact sc_s1 (h6 := rfl) (by assumption) (by (first | exact upd_same _ _ _ | rfl)) | exact sc_s2 (h6 := rfl) (by assumption) (by (first | exact upd_same _ _ _ | rfl)) | exact sc_s3 (h6 := rfl) (by assumption) (by (first | exact upd_same _ _ _ | rfl)) | exact sc_s4 (h6 := rfl) (by assumption) (by (first | exact upd_same _ _ _ | rfl)) | exact sc_setop (h6 := rfl) (by assumption) | exact sc_setlast (h6 := rfl) | exact sc_setruns (h6 := rfl) | (((try apply evl_some rfl);(repeat (first|exact (rfl : _ = [])|apply evl_cons rfl (by (first|exact v_1|exact v_2|exact v_3|exact v_4|exact v_5|exact v_6|exact v_7|exact v_8|exact v_9|exact rfl))|exact rfl)))))) ?_)
        refine jo_same ?_
        refine j_endp (List.perm_append_singleton _ _) ?_
        refine th_n ?_
        refine xc_seq (xc_region ?_)
        refine xr_op rfl rfl (xv_move rfl ?_)
        refine xr_op rfl rfl (xv_nilp rfl ?_)
        refine xr_op rfl rfl (xv_faddr fl29_3 rfl ?_)
        refine xr_op rfl rfl (xv_load1 ty3 rfl rfl (by (first|((repeat first|exact z_0|assumption|refine z_1 ?_|refine z_r ?_);done)|((repeat refine z_1 ?_);refine z_l ?_;(repeat first|exact z_0|assumption|refine z_1 ?_|refine z_r ?_);done)|((repeat refine z_1 ?_);refine z_r ?_;(repeat refine z_1 ?_);refine z_l ?_;(repeat first|exact z_0|assumption|refine z_1 ?_|refine z_r ?_);done)|((repeat first|exact z_0|assumption|refine z_1 ?_|refine z_l ?_);done))) (by (first | rfl | exact sc_ov' (h6 := rfl) (by assumption) rfl | exact sc_ov (h6 := rfl) (by assumption) rfl rfl | exact sc_at (h6 := rfl) rfl | exact sc_op (h6 := rfl) (by assumption) rfl)) ?_)
        refine xr_op rfl rfl (xv_add rfl rfl (wrap_i64 (by (first | omega | (dsimp only at *; omega) | (simp at *; omega))) (by (first | omega | (dsimp only at *; omega) | (simp at *; omega)))) ?_)
        refine xr_op rfl rfl (xv_nilp rfl ?_)
        refine xr_op rfl rfl (xv_faddr fl29_3 rfl ?_)
        refine xr_op rfl rfl (xv_s1 ty3 rfl rfl rfl (by (first|(apply u_3;(repeat first|exact u_0|assumption|apply u_1|apply u_2);done)|((repeat first|exact u_0|assumption|apply u_1|apply u_2);done)|(apply u_3;apply u_3;(repeat first|exact u_0|assumption|apply u_1|apply u_2);done)|((repeat first|exact u_0|assumption|apply u_3|apply u_1);done))) (by (first | rfl | exact Vec.one _ _)) (by (first | decide | (rw [len_sc (h6 := rfl)]; omega))) (by (first | exact sc_s0 (h6 := rfl) (by assumption) (by (first | exact upd_same _ _ _ | rfl)) | exact sc_s1 (h6 := rfl) (by assumption) (by (first | exact upd_same _ _ _ | rfl)) | exact sc_s2 (h6 := rfl) (by assumption) (by (first | exact upd_same _ _ _ | rfl)) | exact sc_s3 (h6 := rfl) (by assumption) (by (first | exact upd_same _ _ _ | rfl)) | exact sc_s4 (h6 := rfl) (by assumption) (by (first | exact upd_same _ _ _ | rfl)) | exact sc_setop (h6 := rfl) (by assumption) | exact sc_setlast (h6 := rfl) | exact sc_setruns (h6 := rfl) | (((try apply evl_some rfl);(repeat (first|exact (rfl : _ = [])|apply evl_cons rfl (by (first|exact v_1|exact v_2|exact v_3|exact v_4|exact v_5|exact v_6|exact v_7|exact v_8|exact v_9|exact rfl))|exact rfl)))))) ?_)
        refine xr_end rfl ?_
        refine th_n ?_
        refine xc_seq ?_
        refine xc_draw0 [(0, .S), (1, .S), (2, .R), (3, .S), (4, .S), (5, .S), (6, .R), (7, .S), (8, .S), (9, .S), (10, .S), (11, .O)] mixed (by kernel_rfl) ?_
        refine js_S rfl rfl (.inl rfl) (xv_move rfl ⟨rfl, rfl⟩) ?_
        refine js_S rfl rfl (.inl rfl) (xv_faddr fl48_1 rfl ⟨rfl, rfl⟩) ?_
        refine js_R0 rfl rfl (.inl rfl) (xv_load1 ty3 rfl rfl (by (first|((repeat first|exact z_0|assumption|refine z_1 ?_|refine z_r ?_);done)|((repeat refine z_1 ?_);refine z_l ?_;(repeat first|exact z_0|assumption|refine z_1 ?_|refine z_r ?_);done)|((repeat refine z_1 ?_);refine z_r ?_;(repeat refine z_1 ?_);refine z_l ?_;(repeat first|exact z_0|assumption|refine z_1 ?_|refine z_r ?_);done)|((repeat first|exact z_0|assumption|refine z_1 ?_|refine z_l ?_);done))) (by (first | rfl | exact sc_ov' (h6 := rfl) (by assumption) rfl | exact sc_ov (h6 := rfl) (by assumption) rfl rfl | exact sc_at (h6 := rfl) rfl | exact sc_op (h6 := rfl) (by assumption) rfl)) ⟨rfl, rfl⟩) ?_
        refine js_S rfl rfl (.inl rfl) (xv_move rfl ⟨rfl, rfl⟩) ?_
        refine js_S rfl rfl (.inl rfl) (xv_nilp rfl ⟨rfl, rfl⟩) ?_
        refine js_S rfl rfl (.inl rfl) (xv_faddr fl63_4 rfl ⟨rfl, rfl⟩) ?_
        refine js_R0 rfl rfl (.inl rfl) (xv_load1 ty61 rfl rfl (by (first|((repeat first|exact z_0|assumption|refine z_1 ?_|refine z_r ?_);done)|((repeat refine z_1 ?_);refine z_l ?_;(repeat first|exact z_0|assumption|refine z_1 ?_|refine z_r ?_);done)|((repeat refine z_1 ?_);refine z_r ?_;(repeat refine z_1 ?_);refine z_l ?_;(repeat first|exact z_0|assumption|refine z_1 ?_|refine z_r ?_);done)|((repeat first|exact z_0|assumption|refine z_1 ?_|refine z_l ?_);done))) (by (first | rfl | exact sc_ov' (h6 := rfl) (by assumption) rfl | exact sc_ov (h6 := rfl) (by assumption) rfl rfl | exact sc_at (h6 := rfl) rfl | exact sc_op (h6 := rfl) (by assumption) rfl)) ⟨rfl, rfl⟩) ?_
        refine js_S rfl rfl (.inl rfl) (xv_lenV sl61 hV rfl ⟨rfl, rfl⟩) ?_
        refine js_S rfl rfl (.inl rfl) (xv_nilp rfl ⟨rfl, rfl⟩) ?_
        refine js_S rfl rfl (.inl rfl) (xv_faddr fl63_5 rfl ⟨rfl, rfl⟩) ?_
        refine js_S rfl rfl (.inl rfl) (xv_iaA (sz := 1) Try.underlying46 ty3 rfl rfl rfl (by (first | assumption | with_reducible exact Int.toNat_natCast _ | with_reducible rfl | rfl)) (by (first | omega | (dsimp only at *; omega) | (simp at *; omega))) (by (first | omega | (dsimp only at *; omega) | (simp at *; omega))) ⟨rfl, rfl⟩) ?_
        refine js_O0 rfl rfl (.inl rfl) (xv_s1 ty3 rfl rfl rfl (by (first|(apply u_3;(repeat first|exact u_0|assumption|apply u_1|apply u_2);done)|((repeat first|exact u_0|assumption|apply u_1|apply u_2);done)|(apply u_3;apply u_3;(repeat first|exact u_0|assumption|apply u_1|apply u_2);done)|((repeat first|exact u_0|assumption|apply u_3|apply u_1);done))) (by (first | rfl | exact Vec.one _ _)) (by (first | decide | (rw [len_sc (h6 := rfl)]; omega))) (by (first | exact sc_s0 (h6 := rfl) (by assumption) (by (first | exact upd_same _ _ _ | rfl)) | exact sc_s1 (h6 := rfl) (by assumption) (by (first | exact upd_same _ _ _ | rfl)) | exact sc_s2 (h6 := rfl) (by assumption) (by (first | exact upd_same _ _ _ | rfl)) | exact sc_s3 (h6 := rfl) (by assumption) (by (first | exact upd_same _ _ _ | rfl)) | exact sc_s4 (h6 := rfl) (by assumption) (by (first | exact upd_same _ _ _ | rfl)) | exact sc_setop (h6 := rfl) (by assumption) | exact sc_setlast (h6 := rfl) | exact sc_setruns (h6 := rfl) | (((try apply evl_some rfl);(repeat (first|exact (rfl : _ = [])|apply evl_cons rfl (by (first|exact v_1|exact v_2|exact v_3|exact v_4|exact v_5|exact v_6|exact v_7|exact v_8|exact v_9|exact rfl))|exact rfl)))))) ?_)
        refine j_end0 ?_
        refine th_n ?_
        refine xc_draw0 [(0, .S), (1, .S), (2, .S), (3, .S), (4, .R), (5, .S), (6, .R), (7, .S), (8, .R), (9, .S), (10, .P), (10, .A), (11, .O), (12, .S), (13, .S), (14, .O)] mixed (by kernel_rfl) ?_
        refine js_S rfl rfl (.inl rfl) (xv_move rfl ⟨rfl, rfl⟩) ?_
        refine js_S rfl rfl (.inl rfl) (xv_move rfl ⟨rfl, rfl⟩) ?_
        refine js_S rfl rfl (.inl rfl) (xv_nilp rfl ⟨rfl, rfl⟩) ?_
        refine js_S rfl rfl (.inl rfl) (xv_faddr fl63_4 rfl ⟨rfl, rfl⟩) ?_
        refine js_R0 rfl rfl (.inl rfl) (xv_load1 ty61 rfl rfl (by (first|((repeat first|exact z_0|assumption|refine z_1 ?_|refine z_r ?_);done)|((repeat refine z_1 ?_);refine z_l ?_;(repeat first|exact z_0|assumption|refine z_1 ?_|refine z_r ?_);done)|((repeat refine z_1 ?_);refine z_r ?_;(repeat refine z_1 ?_);refine z_l ?_;(repeat first|exact z_0|assumption|refine z_1 ?_|refine z_r ?_);done)|((repeat first|exact z_0|assumption|refine z_1 ?_|refine z_l ?_);done))) (by (first | rfl | exact sc_ov' (h6 := rfl) (by assumption) rfl | exact sc_ov (h6 := rfl) (by assumption) rfl rfl | exact sc_at (h6 := rfl) rfl | exact sc_op (h6 := rfl) (by assumption) rfl)) ⟨rfl, rfl⟩) ?_
        refine js_S rfl rfl (.inl rfl) (xv_faddr fl48_3 rfl ⟨rfl, rfl⟩) ?_
        refine js_R0 rfl rfl (.inl rfl) (xv_load1 ty3 rfl rfl (by (first|((repeat first|exact z_0|assumption|refine z_1 ?_|refine z_r ?_);done)|((repeat refine z_1 ?_);refine z_l ?_;(repeat first|exact z_0|assumption|refine z_1 ?_|refine z_r ?_);done)|((repeat refine z_1 ?_);refine z_r ?_;(repeat refine z_1 ?_);refine z_l ?_;(repeat first|exact z_0|assumption|refine z_1 ?_|refine z_r ?_);done)|((repeat first|exact z_0|assumption|refine z_1 ?_|refine z_l ?_);done))) (by (first | rfl | exact sc_ov' (h6 := rfl) (by assumption) rfl | exact sc_ov (h6 := rfl) (by assumption) rfl rfl | exact sc_at (h6 := rfl) rfl | exact sc_op (h6 := rfl) (by assumption) rfl)) ⟨rfl, rfl⟩) ?_
        refine js_S rfl rfl (.inl rfl) (xv_faddr fl48_0 rfl ⟨rfl, rfl⟩) ?_
        refine js_R0 rfl rfl (.inl rfl) (xv_load1 ty3 rfl rfl (by (first|((repeat first|exact z_0|assumption|refine z_1 ?_|refine z_r ?_);done)|((repeat refine z_1 ?_);refine z_l ?_;(repeat first|exact z_0|assumption|refine z_1 ?_|refine z_r ?_);done)|((repeat refine z_1 ?_);refine z_r ?_;(repeat refine z_1 ?_);refine z_l ?_;(repeat first|exact z_0|assumption|refine z_1 ?_|refine z_r ?_);done)|((repeat first|exact z_0|assumption|refine z_1 ?_|refine z_l ?_);done))) (by (first | rfl | exact sc_ov' (h6 := rfl) (by assumption) rfl | exact sc_ov (h6 := rfl) (by assumption) rfl rfl | exact sc_at (h6 := rfl) rfl | exact sc_op (h6 := rfl) (by assumption) rfl)) ⟨rfl, rfl⟩) ?_
        refine js_S rfl rfl (.inl rfl) (xv_build bt86 rfl (by ((try apply evl_some rfl);(repeat (first|exact (rfl : _ = [])|apply evl_cons rfl (by (first|exact v_1|exact v_2|exact v_3|exact v_4|exact v_5|exact v_6|exact v_7|exact v_8|exact v_9|exact rfl))|exact rfl)))) ⟨rfl, rfl⟩) ?_
        refine js_P rfl rfl rfl (al_buildSlice sl61 ty86 rfl rfl rfl rfl rfl (by ((try apply evl_some rfl);(repeat (first|exact (rfl : _ = [])|apply evl_cons rfl (by (first|exact v_1|exact v_2|exact v_3|exact v_4|exact v_5|exact v_6|exact v_7|exact v_8|exact v_9|exact rfl))|exact rfl))))) ?_
        refine js_A0 rfl rfl rfl rfl rfl ⟨rfl, trivial⟩ (fun b9 hb9 => ?_)
        refine js_O0 rfl rfl (.inl rfl) (xv_append (V := V) (n := S.runs.length) (xs := S.runs.flatMap eRun) sl61 ty86 rfl rfl rfl hV (.there (.there .here)) (by (first|((repeat first|exact z_0|assumption|refine z_1 ?_|refine z_r ?_);done)|((repeat refine z_1 ?_);refine z_l ?_;(repeat first|exact z_0|assumption|refine z_1 ?_|refine z_r ?_);done)|((repeat refine z_1 ?_);refine z_r ?_;(repeat refine z_1 ?_);refine z_l ?_;(repeat first|exact z_0|assumption|refine z_1 ?_|refine z_r ?_);done)|((repeat first|exact z_0|assumption|refine z_1 ?_|refine z_l ?_);done))) (by ((try apply evl_some rfl);(repeat (first|exact (rfl : _ = [])|apply evl_cons rfl (by (first|exact v_1|exact v_2|exact v_3|exact v_4|exact v_5|exact v_6|exact v_7|exact v_8|exact v_9|exact rfl))|exact rfl)))) rfl rfl (by omega) (by simp only []; omega) (by omega) (fun V2 hV2 => ?_))
        refine js_S rfl rfl (.inl rfl) (xv_nilp rfl ⟨rfl, rfl⟩) ?_
        refine js_S rfl rfl (.inl rfl) (xv_faddr fl63_4 rfl ⟨rfl, rfl⟩) ?_
        refine js_O0 rfl rfl (.inl rfl) (xv_s1 ty61 rfl rfl rfl (by (first|(apply u_3;(repeat first|exact u_0|assumption|apply u_1|apply u_2);done)|((repeat first|exact u_0|assumption|apply u_1|apply u_2);done)|(apply u_3;apply u_3;(repeat first|exact u_0|assumption|apply u_1|apply u_2);done)|((repeat first|exact u_0|assumption|apply u_3|apply u_1);done))) (by (first | rfl | exact Vec.one _ _)) (by (first | decide | (rw [len_sc (h6 := rfl)]; omega))) (by (first | exact sc_s0 (h6 := rfl) (by assumption) (by (first | exact upd_same _ _ _ | rfl)) | exact sc_s1 (h6 := rfl) (by assumption) (by (first | exact upd_same _ _ _ | rfl)) | exact sc_s2 (h6 := rfl) (by assumption) (by (first | exact upd_same _ _ _ | rfl)) | exact sc_s3 (h6 := rfl) (by assumption) (by (first | exact upd_same _ _ _ | rfl)) | exact sc_s4 (h6 := rfl) (by assumption) (by (first | exact upd_same _ _ _ | rfl)) | exact sc_setop (h6 := rfl) (by assumption) | exact sc_setlast (h6 := rfl) | exact sc_setruns (h6 := rfl) | (((try apply evl_some rfl);(repeat (first|exact (rfl : _ = [])|apply evl_cons rfl (by (first|exact v_1|exact v_2|exact v_3|exact v_4|exact v_5|exact v_6|exact v_7|exact v_8|exact v_9|exact rfl))|exact rfl)))))) ?_)
        refine j_end0 ?_
        refine body_end (h' := shopH (eHouse a c w) s m es cm V2 ⟨upd S.ov i ⟨1, x.hour, x.tons, (S.ov i).runs + 1, (S.ov i).cool⟩, S.done, S.last, S.runs ++ [⟨x.tons, x.hour, 1073741824⟩], upd S.op i S.runs.length⟩ L) rfl ro_nil (by simp only [upd_upd, shopH, List.flatMap_append, List.flatMap_cons, List.flatMap_nil, List.append_nil, List.length_append, List.length_singleton]; (first|((repeat first|exact s_0|exact s_1|exact s_3|refine s_4 ?_|refine s_5 ?_|refine s_6 ?_|refine s_7 ?_);done)|((repeat first|exact s_0|exact s_1|exact s_3|refine s_4 ?_|refine s_5 ?_|refine s_6 ?_|refine s_8 ?_);done))) ?_
        exact H1 _ V2 (by (simp only [beq_iff_eq, decide_eq_true_eq, beq_eq_false_iff_ne, decide_eq_false_iff_not, bne_iff_ne, ne_eq, Bool.not_eq_true] at *; unfold charge; simp only [hxi]; (repeat' split); all_goals first | (exfalso; omega) | rfl)) (by simpa [eRun] using hV2)
      · refine jp_p ?_
        refine th_p ?_
        refine body_pan ?_
        exact H2 _ _ (by (simp only [beq_iff_eq, decide_eq_true_eq, beq_eq_false_iff_ne, decide_eq_false_iff_not, bne_iff_ne, ne_eq, Bool.not_eq_true] at *; unfold charge; simp only [hxi]; (repeat' split); all_goals first | (exfalso; omega) | rfl))
    · refine jp_p ?_
      refine th_p ?_
      refine body_pan ?_
      exact H2 _ _ (by (simp only [beq_iff_eq, decide_eq_true_eq, beq_eq_false_iff_ne, decide_eq_false_iff_not, bne_iff_ne, ne_eq, Bool.not_eq_true] at *; unfold charge; simp only [hxi]; (repeat' split); all_goals first | (exfalso; omega) | rfl))
  · refine th_p ?_
    refine body_pan ?_
    exact H2 _ _ (by (simp only [beq_iff_eq, decide_eq_true_eq, beq_eq_false_iff_ne, decide_eq_false_iff_not, bne_iff_ne, ne_eq, Bool.not_eq_true] at *; unfold charge; simp only [hxi]; (repeat' split); all_goals first | (exfalso; omega) | rfl))

theorem empty_c {a : Option Addr} {c : Nat} {w : House} {s m i : Nat} {es : List MapEntry} {cm n : Nat} {V : Vec} {S : St} {x : Stoke} {L : Hp} {R : Ending → Hp → Prop}
    (hw : goodHouse w) (hx : goodStoke x) (hn : n ≤ 1000) (hS : S.Ok n) (hV : V.ok 3 S.runs.length (S.runs.flatMap eRun)) (hi : i < 8) (hxi : x.ret.toNat = i)
    (H1 : ∀ S' V', empty w S x = .ok S' → V'.ok 3 S'.runs.length (S'.runs.flatMap eRun) → R (.returned (.tuple #[])) (shopH (eHouse a c w) s m es cm V' S' L))
    (H2 : ∀ e hx, empty w S x = .error e → R (.panicked (mis e)) hx) :
    ACalls Try.prog 45 ⟨[.pointer (some ⟨s, 0, none⟩), .pointer (some ⟨s, 6 + i * 5, none⟩), .agg ⟨eStoke x⟩]⟩ (shopH (eHouse a c w) s m es cm V S L) R := by
  refine calls_of_xc (N := 52) Try.func45 rfl (by rfl) ?_
  obtain ⟨⟨hs0, hs1⟩, ⟨hr0, hr1⟩, hc0, hc1⟩ := hS.ov i hi
  obtain ⟨⟨hh0, hh1⟩, ⟨ht0, ht1⟩, ⟨hk0, hk1⟩, ht, htn⟩ := hx
  obtain ⟨hl1, hl2, hl3, ⟨hle0, hle1⟩, ⟨hru0, hru1⟩, ⟨hsc0, hsc1⟩, ⟨hga0, hga1⟩, ⟨hco0, hco1⟩⟩ := hw
  unfold shopH
  have hrl := hS.runs
  refine xc_seq (xc_region ?_)
  refine xr_op rfl rfl (xv_box rfl (fun b1 hb1 => ?_))
  refine xr_end rfl ?_
  refine th_n ?_
  refine xc_seq (xc_region ?_)
  refine xr_op rfl rfl (xv_move rfl ?_)
  refine xr_op rfl rfl (xv_nilp rfl ?_)
  refine xr_op rfl rfl (xv_faddr fl29_0 rfl ?_)
  refine xr_op rfl rfl (xv_load1 ty3 rfl rfl (by (first|((repeat first|exact z_0|assumption|refine z_1 ?_|refine z_r ?_);done)|((repeat refine z_1 ?_);refine z_l ?_;(repeat first|exact z_0|assumption|refine z_1 ?_|refine z_r ?_);done)|((repeat refine z_1 ?_);refine z_r ?_;(repeat refine z_1 ?_);refine z_l ?_;(repeat first|exact z_0|assumption|refine z_1 ?_|refine z_r ?_);done)|((repeat first|exact z_0|assumption|refine z_1 ?_|refine z_l ?_);done))) (by (first | rfl | exact sc_ov' (h6 := rfl) (by assumption) rfl | exact sc_ov (h6 := rfl) (by assumption) rfl rfl | exact sc_at (h6 := rfl) rfl | exact sc_op (h6 := rfl) (by assumption) rfl)) ?_)
  refine xr_op rfl rfl (xv_cmp rfl rfl rfl ?_)
  refine xr_op rfl rfl (xv_calls rfl hb49 (need_c _ _ (fun hb2 => up_ret ?_) (fun hb3 => up_pan ?_)))
  · refine xr_end rfl ?_
    refine th_n ?_
    refine xc_seq ?_
    refine xc_draw0 [(0, .S), (1, .R), (2, .S), (3, .S), (4, .S), (5, .R), (6, .S), (7, .S), (8, .S), (9, .S), (10, .R), (11, .S), (12, .S), (13, .O)] mixed (by kernel_rfl) ?_
    refine js_S rfl rfl (.inl rfl) (xv_faddr fl48_0 rfl ⟨rfl, rfl⟩) ?_
    refine js_R0 rfl rfl (.inl rfl) (xv_load1 ty3 rfl rfl (by (first|((repeat first|exact z_0|assumption|refine z_1 ?_|refine z_r ?_);done)|((repeat refine z_1 ?_);refine z_l ?_;(repeat first|exact z_0|assumption|refine z_1 ?_|refine z_r ?_);done)|((repeat refine z_1 ?_);refine z_r ?_;(repeat refine z_1 ?_);refine z_l ?_;(repeat first|exact z_0|assumption|refine z_1 ?_|refine z_r ?_);done)|((repeat first|exact z_0|assumption|refine z_1 ?_|refine z_l ?_);done))) (by (first | rfl | exact sc_ov' (h6 := rfl) (by assumption) rfl | exact sc_ov (h6 := rfl) (by assumption) rfl rfl | exact sc_at (h6 := rfl) rfl | exact sc_op (h6 := rfl) (by assumption) rfl)) ⟨rfl, rfl⟩) ?_
    refine js_S rfl rfl (.inl rfl) (xv_move rfl ⟨rfl, rfl⟩) ?_
    refine js_S rfl rfl (.inl rfl) (xv_nilp rfl ⟨rfl, rfl⟩) ?_
    refine js_S rfl rfl (.inl rfl) (xv_faddr fl29_1 rfl ⟨rfl, rfl⟩) ?_
    refine js_R0 rfl rfl (.inl rfl) (xv_load1 ty3 rfl rfl (by (first|((repeat first|exact z_0|assumption|refine z_1 ?_|refine z_r ?_);done)|((repeat refine z_1 ?_);refine z_l ?_;(repeat first|exact z_0|assumption|refine z_1 ?_|refine z_r ?_);done)|((repeat refine z_1 ?_);refine z_r ?_;(repeat refine z_1 ?_);refine z_l ?_;(repeat first|exact z_0|assumption|refine z_1 ?_|refine z_r ?_);done)|((repeat first|exact z_0|assumption|refine z_1 ?_|refine z_l ?_);done))) (by (first | rfl | exact sc_ov' (h6 := rfl) (by assumption) rfl | exact sc_ov (h6 := rfl) (by assumption) rfl rfl | exact sc_at (h6 := rfl) rfl | exact sc_op (h6 := rfl) (by assumption) rfl)) ⟨rfl, rfl⟩) ?_
    refine js_S rfl rfl (.inl rfl) (xv_move rfl ⟨rfl, rfl⟩) ?_
    refine js_S rfl rfl (.inl rfl) (xv_nilp rfl ⟨rfl, rfl⟩) ?_
    refine js_S rfl rfl (.inl rfl) (xv_faddr fl63_0 rfl ⟨rfl, rfl⟩) ?_
    refine js_S rfl rfl (.inl rfl) (xv_faddr fl24_1 rfl ⟨rfl, rfl⟩) ?_
    refine js_R0 rfl rfl (.inl rfl) (xv_load1 ty3 rfl rfl (by (first|((repeat first|exact z_0|assumption|refine z_1 ?_|refine z_r ?_);done)|((repeat refine z_1 ?_);refine z_l ?_;(repeat first|exact z_0|assumption|refine z_1 ?_|refine z_r ?_);done)|((repeat refine z_1 ?_);refine z_r ?_;(repeat refine z_1 ?_);refine z_l ?_;(repeat first|exact z_0|assumption|refine z_1 ?_|refine z_r ?_);done)|((repeat first|exact z_0|assumption|refine z_1 ?_|refine z_l ?_);done))) (by (first | rfl | exact sc_ov' (h6 := rfl) (by assumption) rfl | exact sc_ov (h6 := rfl) (by assumption) rfl rfl | exact sc_at (h6 := rfl) rfl | exact sc_op (h6 := rfl) (by assumption) rfl)) ⟨rfl, rfl⟩) ?_
    refine js_S rfl rfl (.inl rfl) (xv_add rfl rfl (wrap_i64 (by (first | omega | (dsimp only at *; omega) | (simp at *; omega))) (by (first | omega | (dsimp only at *; omega) | (simp at *; omega)))) ⟨rfl, rfl⟩) ?_
    refine js_S rfl rfl (.inl rfl) (xv_cmp rfl rfl rfl ⟨rfl, rfl⟩) ?_
    refine js_O0 rfl rfl (.inl rfl) (xv_calls rfl hb49 (need_c _ _ (fun hb4 => up_ret ?_) (fun hb5 => up_pan ?_)))
    · refine j_end0 ?_
      refine th_n ?_
      refine xc_seq ?_
      refine xc_draw [(0, .S), (1, .S), (2, .S), (3, .S), (4, .S), (5, .S), (6, .S), (7, .O), (8, .S), (9, .S), (10, .O), (11, .S), (12, .S), (13, .O)] [(b1, .cells ⟨eStoke x⟩ 48)] (V.hp 86 (S.runs.flatMap eRun) ++ (s, .cells ⟨shopC (eHouse a c w) S.ov m S.last (V.val S.runs.length) S.op⟩ 63 (0, 0)) :: (m, .map ⟨es⟩ cm) :: L) mixed (by kernel_rfl) (List.perm_append_singleton _ _) ?_
      refine js_S rfl rfl (.inl rfl) (xv_move rfl ⟨rfl, rfl⟩) ?_
      refine js_S rfl rfl (.inl rfl) (xv_move rfl ⟨rfl, rfl⟩) ?_
      refine js_S rfl rfl (.inl rfl) (xv_move rfl ⟨rfl, rfl⟩) ?_
      refine js_S rfl rfl (.inl rfl) (xv_faddr fl48_0 rfl ⟨rfl, rfl⟩) ?_
      refine js_S rfl rfl (.inl rfl) (xv_load1 ty3 rfl rfl (by (first|((repeat first|exact z_0|assumption|refine z_1 ?_|refine z_r ?_);done)|((repeat refine z_1 ?_);refine z_l ?_;(repeat first|exact z_0|assumption|refine z_1 ?_|refine z_r ?_);done)|((repeat refine z_1 ?_);refine z_r ?_;(repeat refine z_1 ?_);refine z_l ?_;(repeat first|exact z_0|assumption|refine z_1 ?_|refine z_r ?_);done)|((repeat first|exact z_0|assumption|refine z_1 ?_|refine z_l ?_);done))) (by (first | rfl | exact sc_ov' (h6 := rfl) (by assumption) rfl | exact sc_ov (h6 := rfl) (by assumption) rfl rfl | exact sc_at (h6 := rfl) rfl | exact sc_op (h6 := rfl) (by assumption) rfl)) ⟨rfl, rfl⟩) ?_
      refine js_S rfl rfl (.inl rfl) (xv_nilp rfl ⟨rfl, rfl⟩) ?_
      refine js_S rfl rfl (.inl rfl) (xv_faddr fl29_0 rfl ⟨rfl, rfl⟩) ?_
      refine js_O rfl rfl (.inl rfl) (xv_s1 ty3 rfl rfl rfl (by (first|(apply u_3;(repeat first|exact u_0|assumption|apply u_1|apply u_2);done)|((repeat first|exact u_0|assumption|apply u_1|apply u_2);done)|(apply u_3;apply u_3;(repeat first|exact u_0|assumption|apply u_1|apply u_2);done)|((repeat first|exact u_0|assumption|apply u_3|apply u_1);done))) (by (first | rfl | exact Vec.one _ _)) (by (first | decide | (rw [len_sc (h6 := rfl)]; omega))) (by (first | exact sc_s0 (h6 := rfl) (by assumption) (by (first | exact upd_same _ _ _ | rfl)) | exact sc_s1 (h6 := rfl) (by assumption) (by (first | exact upd_same _ _ _ | rfl)) | exact sc_s2 (h6 := rfl) (by assumption) (by (first | exact upd_same _ _ _ | rfl)) | exact sc_s3 (h6 := rfl) (by assumption) (by (first | exact upd_same _ _ _ | rfl)) | exact sc_s4 (h6 := rfl) (by assumption) (by (first | exact upd_same _ _ _ | rfl)) | exact sc_setop (h6 := rfl) (by assumption) | exact sc_setlast (h6 := rfl) | exact sc_setruns (h6 := rfl) | (((try apply evl_some rfl);(repeat (first|exact (rfl : _ = [])|apply evl_cons rfl (by (first|exact v_1|exact v_2|exact v_3|exact v_4|exact v_5|exact v_6|exact v_7|exact v_8|exact v_9|exact rfl))|exact rfl)))))) ?_)
      refine jo_same ?_
      refine js_S rfl rfl (.inl rfl) (xv_nilp rfl ⟨rfl, rfl⟩) ?_
      refine js_S rfl rfl (.inl rfl) (xv_faddr fl29_1 rfl ⟨rfl, rfl⟩) ?_
      refine js_O rfl rfl (.inl rfl) (xv_s1 ty3 rfl rfl rfl (by (first|(apply u_3;(repeat first|exact u_0|assumption|apply u_1|apply u_2);done)|((repeat first|exact u_0|assumption|apply u_1|apply u_2);done)|(apply u_3;apply u_3;(repeat first|exact u_0|assumption|apply u_1|apply u_2);done)|((repeat first|exact u_0|assumption|apply u_3|apply u_1);done))) (by (first | rfl | exact Vec.one _ _)) (by (first | decide | (rw [len_sc (h6 := rfl)]; omega))) (by (first | exact sc_s0 (h6 := rfl) (by assumption) (by (first | exact upd_same _ _ _ | rfl)) | exact sc_s1 (h6 := rfl) (by assumption) (by (first | exact upd_same _ _ _ | rfl)) | exact sc_s2 (h6 := rfl) (by assumption) (by (first | exact upd_same _ _ _ | rfl)) | exact sc_s3 (h6 := rfl) (by assumption) (by (first | exact upd_same _ _ _ | rfl)) | exact sc_s4 (h6 := rfl) (by assumption) (by (first | exact upd_same _ _ _ | rfl)) | exact sc_setop (h6 := rfl) (by assumption) | exact sc_setlast (h6 := rfl) | exact sc_setruns (h6 := rfl) | (((try apply evl_some rfl);(repeat (first|exact (rfl : _ = [])|apply evl_cons rfl (by (first|exact v_1|exact v_2|exact v_3|exact v_4|exact v_5|exact v_6|exact v_7|exact v_8|exact v_9|exact rfl))|exact rfl)))))) ?_)
      refine jo_same ?_
      refine js_S rfl rfl (.inl rfl) (xv_nilp rfl ⟨rfl, rfl⟩) ?_
      refine js_S rfl rfl (.inl rfl) (xv_faddr fl29_2 rfl ⟨rfl, rfl⟩) ?_
      refine js_O rfl rfl (.inl rfl) (xv_s1 ty3 rfl rfl rfl (by (first|(apply u_3;(repeat first|exact u_0|assumption|apply u_1|apply u_2);done)|((repeat first|exact u_0|assumption|apply u_1|apply u_2);done)|(apply u_3;apply u_3;(repeat first|exact u_0|assumption|apply u_1|apply u_2);done)|((repeat first|exact u_0|assumption|apply u_3|apply u_1);done))) (by (first | rfl | exact Vec.one _ _)) (by (first | decide | (rw [len_sc (h6 := rfl)]; omega))) (by (first | exact sc_s0 (h6 := rfl) (by assumption) (by (first | exact upd_same _ _ _ | rfl)) | exact sc_s1 (h6 := rfl) (by assumption) (by (first | exact upd_same _ _ _ | rfl)) | exact sc_s2 (h6 := rfl) (by assumption) (by (first | exact upd_same _ _ _ | rfl)) | exact sc_s3 (h6 := rfl) (by assumption) (by (first | exact upd_same _ _ _ | rfl)) | exact sc_s4 (h6 := rfl) (by assumption) (by (first | exact upd_same _ _ _ | rfl)) | exact sc_setop (h6 := rfl) (by assumption) | exact sc_setlast (h6 := rfl) | exact sc_setruns (h6 := rfl) | (((try apply evl_some rfl);(repeat (first|exact (rfl : _ = [])|apply evl_cons rfl (by (first|exact v_1|exact v_2|exact v_3|exact v_4|exact v_5|exact v_6|exact v_7|exact v_8|exact v_9|exact rfl))|exact rfl)))))) ?_)
      refine jo_same ?_
      refine j_endp (List.perm_append_singleton _ _) ?_
      refine th_n ?_
      refine xc_draw0 [(0, .S), (1, .S), (2, .S), (3, .R), (4, .S), (5, .S), (6, .R), (7, .S), (8, .S), (9, .S), (10, .R), (11, .S), (12, .R), (13, .S), (14, .S), (15, .O)] mixed (by kernel_rfl) ?_
      have hst : (S.ov i).state = 1 := by simp_all
      have hop := hS.op i hi hst
      obtain ⟨b, cap, sp, rfl⟩ : ∃ b cap sp, V = .at b cap sp := by
        cases V with
        | nil => exfalso; have := hV.2; omega
        | «at» b cap sp => exact ⟨_, _, _, rfl⟩
      have hcap := hV.2.1
      refine js_S rfl rfl (.inl rfl) (xv_move rfl ⟨rfl, rfl⟩) ?_
      refine js_S rfl rfl (.inl rfl) (xv_nilp rfl ⟨rfl, rfl⟩) ?_
      refine js_S rfl rfl (.inl rfl) (xv_faddr fl63_4 rfl ⟨rfl, rfl⟩) ?_
      refine js_R0 rfl rfl (.inl rfl) (xv_load1 ty61 rfl rfl (by (first|((repeat first|exact z_0|assumption|refine z_1 ?_|refine z_r ?_);done)|((repeat refine z_1 ?_);refine z_l ?_;(repeat first|exact z_0|assumption|refine z_1 ?_|refine z_r ?_);done)|((repeat refine z_1 ?_);refine z_r ?_;(repeat refine z_1 ?_);refine z_l ?_;(repeat first|exact z_0|assumption|refine z_1 ?_|refine z_r ?_);done)|((repeat first|exact z_0|assumption|refine z_1 ?_|refine z_l ?_);done))) (by (first | rfl | exact sc_ov' (h6 := rfl) (by assumption) rfl | exact sc_ov (h6 := rfl) (by assumption) rfl rfl | exact sc_at (h6 := rfl) rfl | exact sc_op (h6 := rfl) (by assumption) rfl)) ⟨rfl, rfl⟩) ?_
      refine js_S rfl rfl (.inl rfl) (xv_move rfl ⟨rfl, rfl⟩) ?_
      refine js_S rfl rfl (.inl rfl) (xv_faddr fl48_1 rfl ⟨rfl, rfl⟩) ?_
      refine js_R0 rfl rfl (.inl rfl) (xv_load1 ty3 rfl rfl (by (first|((repeat first|exact z_0|assumption|refine z_1 ?_|refine z_r ?_);done)|((repeat refine z_1 ?_);refine z_l ?_;(repeat first|exact z_0|assumption|refine z_1 ?_|refine z_r ?_);done)|((repeat refine z_1 ?_);refine z_r ?_;(repeat refine z_1 ?_);refine z_l ?_;(repeat first|exact z_0|assumption|refine z_1 ?_|refine z_r ?_);done)|((repeat first|exact z_0|assumption|refine z_1 ?_|refine z_l ?_);done))) (by (first | rfl | exact sc_ov' (h6 := rfl) (by assumption) rfl | exact sc_ov (h6 := rfl) (by assumption) rfl rfl | exact sc_at (h6 := rfl) rfl | exact sc_op (h6 := rfl) (by assumption) rfl)) ⟨rfl, rfl⟩) ?_
      refine js_S rfl rfl (.inl rfl) (xv_nilp rfl ⟨rfl, rfl⟩) ?_
      refine js_S rfl rfl (.inl rfl) (xv_faddr fl63_5 rfl ⟨rfl, rfl⟩) ?_
      refine js_S rfl rfl (.inl rfl) (xv_iaA (sz := 1) Try.underlying46 ty3 rfl rfl rfl (by (first | assumption | with_reducible exact Int.toNat_natCast _ | with_reducible rfl | rfl)) (by (first | omega | (dsimp only at *; omega) | (simp at *; omega))) (by (first | omega | (dsimp only at *; omega) | (simp at *; omega))) ⟨rfl, rfl⟩) ?_
      refine js_R0 rfl rfl (.inl rfl) (xv_load1 ty3 rfl rfl (by (first|((repeat first|exact z_0|assumption|refine z_1 ?_|refine z_r ?_);done)|((repeat refine z_1 ?_);refine z_l ?_;(repeat first|exact z_0|assumption|refine z_1 ?_|refine z_r ?_);done)|((repeat refine z_1 ?_);refine z_r ?_;(repeat refine z_1 ?_);refine z_l ?_;(repeat first|exact z_0|assumption|refine z_1 ?_|refine z_r ?_);done)|((repeat first|exact z_0|assumption|refine z_1 ?_|refine z_l ?_);done))) (by (first | rfl | exact sc_ov' (h6 := rfl) (by assumption) rfl | exact sc_ov (h6 := rfl) (by assumption) rfl rfl | exact sc_at (h6 := rfl) rfl | exact sc_op (h6 := rfl) (by assumption) rfl)) ⟨rfl, rfl⟩) ?_
      refine js_S rfl rfl (.inl rfl) (xv_faddr fl48_0 rfl ⟨rfl, rfl⟩) ?_
      refine js_R0 rfl rfl (.inl rfl) (xv_load1 ty3 rfl rfl (by (first|((repeat first|exact z_0|assumption|refine z_1 ?_|refine z_r ?_);done)|((repeat refine z_1 ?_);refine z_l ?_;(repeat first|exact z_0|assumption|refine z_1 ?_|refine z_r ?_);done)|((repeat refine z_1 ?_);refine z_r ?_;(repeat refine z_1 ?_);refine z_l ?_;(repeat first|exact z_0|assumption|refine z_1 ?_|refine z_r ?_);done)|((repeat first|exact z_0|assumption|refine z_1 ?_|refine z_l ?_);done))) (by (first | rfl | exact sc_ov' (h6 := rfl) (by assumption) rfl | exact sc_ov (h6 := rfl) (by assumption) rfl rfl | exact sc_at (h6 := rfl) rfl | exact sc_op (h6 := rfl) (by assumption) rfl)) ⟨rfl, rfl⟩) ?_
      refine js_S rfl rfl (.inl rfl) (xv_ia (sz := 3) sl61 ty86 rfl rfl rfl (by (first | assumption | with_reducible exact Int.toNat_natCast _ | with_reducible rfl | rfl)) (by (first | omega | (dsimp only at *; omega) | (simp at *; omega))) (by (first | omega | (dsimp only at *; omega) | (simp at *; omega))) ⟨rfl, rfl⟩) ?_
      refine js_S rfl rfl (.inl rfl) (xv_faddr fl86_2 rfl ⟨rfl, rfl⟩) ?_
      refine js_O0 rfl rfl (.inl rfl) (xv_s1 ty3 rfl rfl rfl (by (first|(apply u_3;(repeat first|exact u_0|assumption|apply u_1|apply u_2);done)|((repeat first|exact u_0|assumption|apply u_1|apply u_2);done)|(apply u_3;apply u_3;(repeat first|exact u_0|assumption|apply u_1|apply u_2);done)|((repeat first|exact u_0|assumption|apply u_3|apply u_1);done))) rfl (by rw [List.length_append, len_eRun]; omega) (set_runs _ _ _ _ (by omega)) ?_)
      refine j_end0 ?_
      refine body_end (h' := shopH (eHouse a c w) s m es cm (.at b cap sp) ⟨upd S.ov i ⟨0, x.hour, 0, (S.ov i).runs, (S.ov i).cool⟩, S.done, S.last, S.runs.modify (S.op i).toNat (fun r => { r with until_ := x.hour }), S.op⟩ L) rfl ro_nil (by simp only [upd_upd, shopH, List.length_modify]; (first|((repeat first|exact s_0|exact s_1|exact s_3|refine s_4 ?_|refine s_5 ?_|refine s_6 ?_|refine s_7 ?_);done)|((repeat first|exact s_0|exact s_1|exact s_3|refine s_4 ?_|refine s_5 ?_|refine s_6 ?_|refine s_8 ?_);done))) ?_
      exact H1 _ (.at b cap sp) (by (simp only [beq_iff_eq, decide_eq_true_eq, beq_eq_false_iff_ne, decide_eq_false_iff_not, bne_iff_ne, ne_eq, Bool.not_eq_true] at *; unfold empty; simp only [hxi]; (repeat' split); all_goals first | (exfalso; omega) | rfl)) (by obtain ⟨q1, q2, q3⟩ := hV; refine ⟨by rw [len_eRun], by simpa using q2, ?_⟩; rw [List.length_append, len_eRun] at q3 ⊢; simpa using q3)
    · refine jp_p ?_
      refine th_p ?_
      refine body_pan ?_
      exact H2 _ _ (by (simp only [beq_iff_eq, decide_eq_true_eq, beq_eq_false_iff_ne, decide_eq_false_iff_not, bne_iff_ne, ne_eq, Bool.not_eq_true] at *; unfold empty; simp only [hxi]; (repeat' split); all_goals first | (exfalso; omega) | rfl))
  · refine th_p ?_
    refine body_pan ?_
    exact H2 _ _ (by (simp only [beq_iff_eq, decide_eq_true_eq, beq_eq_false_iff_ne, decide_eq_false_iff_not, bne_iff_ne, ne_eq, Bool.not_eq_true] at *; unfold empty; simp only [hxi]; (repeat' split); all_goals first | (exfalso; omega) | rfl))

theorem kind_c {a : Option Addr} {c : Nat} {w : House} {s m i k : Nat} {es : List MapEntry} {cm n : Nat} {V : Vec} {S : St} {x : Stoke} {L : Hp} {R : Ending → Hp → Prop}
    (hw : goodHouse w) (hx : goodStoke x) (hn : n ≤ 1000) (hS : S.Ok n) (hV : V.ok 3 S.runs.length (S.runs.flatMap eRun)) (hi : i < 8) (hxi : x.ret.toNat = i) (hxk : x.kind.toNat = k)
    (H1 : ∀ S' V', kindDo w S x = .ok S' → V'.ok 3 S'.runs.length (S'.runs.flatMap eRun) → R (.returned (.tuple #[])) (shopH (eHouse a c w) s m es cm V' S' L))
    (H2 : ∀ e hx, kindDo w S x = .error e → R (.panicked (mis e)) hx) :
    AFn Try.prog (kf k) [.pointer (some ⟨s, 0, none⟩), .pointer (some ⟨s, 6 + i * 5, none⟩), .agg ⟨eStoke x⟩] (shopH (eHouse a c w) s m es cm V S L) R := by
  have hk := hx.2.2.1
  unfold kindDo at H1 H2
  have hc : k = 0 ∨ k = 1 ∨ k = 2 ∨ k = 3 ∨ k = 4 := by omega
  rcases hc with rfl | rfl | rfl | rfl | rfl
  · rw [if_pos (by omega)] at H1 H2
    exact afn_func (fi := []) (lb := []) hb44 (charge_c hw hx hn hS hV hi hxi H1 H2)
  · rw [if_neg (by omega), if_pos (by omega)] at H1 H2
    exact afn_func (fi := []) (lb := []) hb45 (empty_c hw hx hn hS hV hi hxi H1 H2)
  · rw [if_neg (by omega), if_neg (by omega), if_pos (by omega)] at H1 H2
    exact afn_func (fi := []) (lb := []) hb46 (scour_c hw hx hn hS hV hi hxi H1 H2)
  · rw [if_neg (by omega), if_neg (by omega), if_neg (by omega), if_pos (by omega)] at H1 H2
    exact afn_func (fi := []) (lb := []) hb47 (letOut_c hw hx hn hS hV hi hxi H1 H2)
  · rw [if_neg (by omega), if_neg (by omega), if_neg (by omega), if_neg (by omega)] at H1 H2
    exact afn_func (fi := []) (lb := []) hb48 (lightUp_c hw hx hn hS hV hi hxi H1 H2)

end Go.Proofs.Ytjmailhoidenaaa
