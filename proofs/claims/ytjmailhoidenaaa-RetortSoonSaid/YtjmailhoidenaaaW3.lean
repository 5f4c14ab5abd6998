/-
  Walks.
-/
import Derived.Test.YtjmailhoidenaaaW2
namespace Go.Proofs.Ytjmailhoidenaaa
open Go Go.H
set_option maxRecDepth 100000
set_option maxHeartbeats 2000000
set_option linter.all false
theorem do_c {a : Option Addr} {c : Nat} {w : House} {s m : Nat} {es : List MapEntry} {cm n : Nat} {V : Vec} {S : St} {x : Stoke} {L : Hp} {R : Ending → Hp → Prop}
    (hw : goodHouse w) (hn : n ≤ 1000) (hS : S.Ok n) (hV : V.ok 3 S.runs.length (S.runs.flatMap eRun)) (hM : MapOk es S.done)
    (H1 : ∀ S' V' es' cm', doStoke w S x = .ok S' → V'.ok 3 S'.runs.length (S'.runs.flatMap eRun) → MapOk es' S'.done → R (.returned (.tuple #[])) (shopH (eHouse a c w) s m es' cm' V' S' L))
    (H2 : ∀ e hx, doStoke w S x = .error e → R (.panicked (mis e)) hx) :
    ACalls Try.prog 36 ⟨[.pointer (some ⟨s, 0, none⟩), .agg ⟨eStoke x⟩]⟩ (shopH (eHouse a c w) s m es cm V S L) R := by
  refine calls_of_xc (N := 57) Try.func36 rfl (by rfl) ?_
  unfold shopH
  refine xc_seq (xc_region ?_)
  refine xr_op rfl rfl (xv_box rfl (fun b1 hb1 => ?_))
  refine xr_end rfl ?_
  refine th_n ?_
  refine xc_seq (xc_region ?_)
  refine xr_op rfl rfl (xv_build bt92 rfl (by ((try apply evl_some rfl);(repeat (first|exact (rfl : _ = [])|apply evl_cons rfl (by (first|exact v_1|exact v_2|exact v_3|exact v_4|exact v_5|exact v_6|exact v_7|exact v_8|exact v_9|exact rfl))|exact rfl)))) ?_)
  refine xr_op rfl rfl (xv_alloc ty92 (fun b2 hb2 => ?_))
  refine xr_op rfl rfl (xv_s ty92 rfl rfl (by (first|(apply u_3;(repeat first|exact u_0|assumption|apply u_1|apply u_2);done)|((repeat first|exact u_0|assumption|apply u_1|apply u_2);done)|(apply u_3;apply u_3;(repeat first|exact u_0|assumption|apply u_1|apply u_2);done)|((repeat first|exact u_0|assumption|apply u_3|apply u_1);done))) (by ((try apply evl_some rfl);(repeat (first|exact (rfl : _ = [])|apply evl_cons rfl (by (first|exact v_1|exact v_2|exact v_3|exact v_4|exact v_5|exact v_6|exact v_7|exact v_8|exact v_9|exact rfl))|exact rfl)))) (by rfl) (by rfl) (by rfl) (by ((try apply evl_some rfl);(repeat (first|exact (rfl : _ = [])|apply evl_cons rfl (by (first|exact v_1|exact v_2|exact v_3|exact v_4|exact v_5|exact v_6|exact v_7|exact v_8|exact v_9|exact rfl))|exact rfl)))) ?_)
  refine xr_end rfl ?_
  refine th_n ?_
  refine xc_seq (xc_region ?_)
  refine xr_op rfl rfl (xv_loadA ty48 rfl rfl (by (first|((repeat first|exact z_0|assumption|refine z_1 ?_|refine z_r ?_);done)|((repeat refine z_1 ?_);refine z_l ?_;(repeat first|exact z_0|assumption|refine z_1 ?_|refine z_r ?_);done)|((repeat refine z_1 ?_);refine z_r ?_;(repeat refine z_1 ?_);refine z_l ?_;(repeat first|exact z_0|assumption|refine z_1 ?_|refine z_r ?_);done)|((repeat first|exact z_0|assumption|refine z_1 ?_|refine z_l ?_);done))) (by ((try apply evl_some rfl);(repeat (first|exact (rfl : _ = [])|apply evl_cons rfl (by (first|exact v_1|exact v_2|exact v_3|exact v_4|exact v_5|exact v_6|exact v_7|exact v_8|exact v_9|exact rfl))|exact rfl)))) (by rfl) ?_)
  refine xr_op rfl rfl (xv_calls rfl hb50 (isStoke_c (fun hgs => up_ret ?_) (fun hgs => up_ret ?_)))
  · refine xr_op rfl rfl (xv_calls rfl hb49 (needT_c _ (up_ret ?_)))
    refine xr_end rfl ?_
    refine th_n ?_
    refine xc_seq ?_
    refine xc_draw0 [(0, .S), (1, .R), (2, .S), (3, .S), (4, .S), (5, .R), (6, .S), (7, .O)] mixed (by kernel_rfl) ?_
    refine js_S rfl rfl (.inl rfl) (xv_faddr fl48_0 rfl ⟨rfl, rfl⟩) ?_
    refine js_R0 rfl rfl (.inl rfl) (xv_load1 ty3 rfl rfl (by (first|((repeat first|exact z_0|assumption|refine z_1 ?_|refine z_r ?_);done)|((repeat refine z_1 ?_);refine z_l ?_;(repeat first|exact z_0|assumption|refine z_1 ?_|refine z_r ?_);done)|((repeat refine z_1 ?_);refine z_r ?_;(repeat refine z_1 ?_);refine z_l ?_;(repeat first|exact z_0|assumption|refine z_1 ?_|refine z_r ?_);done)|((repeat first|exact z_0|assumption|refine z_1 ?_|refine z_l ?_);done))) (by (first | rfl | exact sc_ov' (h6 := rfl) (by assumption) rfl | exact sc_ov (h6 := rfl) (by assumption) rfl rfl | exact sc_at (h6 := rfl) rfl | exact sc_op (h6 := rfl) (by assumption) rfl)) ⟨rfl, rfl⟩) ?_
    refine js_S rfl rfl (.inl rfl) (xv_move rfl ⟨rfl, rfl⟩) ?_
    refine js_S rfl rfl (.inl rfl) (xv_nilp rfl ⟨rfl, rfl⟩) ?_
    refine js_S rfl rfl (.inl rfl) (xv_faddr fl63_3 rfl ⟨rfl, rfl⟩) ?_
    refine js_R0 rfl rfl (.inl rfl) (xv_load1 ty3 rfl rfl (by (first|((repeat first|exact z_0|assumption|refine z_1 ?_|refine z_r ?_);done)|((repeat refine z_1 ?_);refine z_l ?_;(repeat first|exact z_0|assumption|refine z_1 ?_|refine z_r ?_);done)|((repeat refine z_1 ?_);refine z_r ?_;(repeat refine z_1 ?_);refine z_l ?_;(repeat first|exact z_0|assumption|refine z_1 ?_|refine z_r ?_);done)|((repeat first|exact z_0|assumption|refine z_1 ?_|refine z_l ?_);done))) (by (first | rfl | exact sc_ov' (h6 := rfl) (by assumption) rfl | exact sc_ov (h6 := rfl) (by assumption) rfl rfl | exact sc_at (h6 := rfl) rfl | exact sc_op (h6 := rfl) (by assumption) rfl)) ⟨rfl, rfl⟩) ?_
    refine js_S rfl rfl (.inl rfl) (xv_cmp rfl rfl rfl ⟨rfl, rfl⟩) ?_
    refine js_O0 rfl rfl (.inl rfl) (xv_calls rfl hb49 (need_c _ _ (fun hb3 => up_ret ?_) (fun hb4 => up_pan ?_)))
    · refine j_end0 ?_
      refine th_n ?_
      refine xc_seq ?_
      refine xc_draw0 [(0, .S), (1, .S), (2, .S), (3, .R), (4, .S), (5, .R), (6, .R), (7, .S), (8, .S), (9, .S), (10, .S), (11, .R), (12, .S), (13, .O)] mixed (by kernel_rfl) ?_
      refine js_S rfl rfl (.inl rfl) (xv_move rfl ⟨rfl, rfl⟩) ?_
      refine js_S rfl rfl (.inl rfl) (xv_nilp rfl ⟨rfl, rfl⟩) ?_
      refine js_S rfl rfl (.inl rfl) (xv_faddr fl63_2 rfl ⟨rfl, rfl⟩) ?_
      refine js_R0 rfl rfl (.inl rfl) (xv_load1 ty60 rfl rfl (by (first|((repeat first|exact z_0|assumption|refine z_1 ?_|refine z_r ?_);done)|((repeat refine z_1 ?_);refine z_l ?_;(repeat first|exact z_0|assumption|refine z_1 ?_|refine z_r ?_);done)|((repeat refine z_1 ?_);refine z_r ?_;(repeat refine z_1 ?_);refine z_l ?_;(repeat first|exact z_0|assumption|refine z_1 ?_|refine z_r ?_);done)|((repeat first|exact z_0|assumption|refine z_1 ?_|refine z_l ?_);done))) (by (first | rfl | exact sc_ov' (h6 := rfl) (by assumption) rfl | exact sc_ov (h6 := rfl) (by assumption) rfl rfl | exact sc_at (h6 := rfl) rfl | exact sc_op (h6 := rfl) (by assumption) rfl)) ⟨rfl, rfl⟩) ?_
      refine js_S rfl rfl (.inl rfl) (xv_faddr fl48_0 rfl ⟨rfl, rfl⟩) ?_
      refine js_R0 rfl rfl (.inl rfl) (xv_load1 ty3 rfl rfl (by (first|((repeat first|exact z_0|assumption|refine z_1 ?_|refine z_r ?_);done)|((repeat refine z_1 ?_);refine z_l ?_;(repeat first|exact z_0|assumption|refine z_1 ?_|refine z_r ?_);done)|((repeat refine z_1 ?_);refine z_r ?_;(repeat refine z_1 ?_);refine z_l ?_;(repeat first|exact z_0|assumption|refine z_1 ?_|refine z_r ?_);done)|((repeat first|exact z_0|assumption|refine z_1 ?_|refine z_l ?_);done))) (by (first | rfl | exact sc_ov' (h6 := rfl) (by assumption) rfl | exact sc_ov (h6 := rfl) (by assumption) rfl rfl | exact sc_at (h6 := rfl) rfl | exact sc_op (h6 := rfl) (by assumption) rfl)) ⟨rfl, rfl⟩) ?_
      refine js_R0 rfl rfl (.inl rfl) (xv_lookup Try.underlying60 Try.underlying3 ty3 rfl rfl (by (first|((repeat first|exact z_0|assumption|refine z_1 ?_|refine z_r ?_);done)|((repeat refine z_1 ?_);refine z_l ?_;(repeat first|exact z_0|assumption|refine z_1 ?_|refine z_r ?_);done)|((repeat refine z_1 ?_);refine z_r ?_;(repeat refine z_1 ?_);refine z_l ?_;(repeat first|exact z_0|assumption|refine z_1 ?_|refine z_r ?_);done)|((repeat first|exact z_0|assumption|refine z_1 ?_|refine z_l ?_);done))) hM.1 (hM.2 _) ⟨rfl, rfl⟩) ?_
      refine js_S rfl rfl (.inl rfl) (xv_move rfl ⟨rfl, rfl⟩) ?_
      refine js_S rfl rfl (.inl rfl) (xv_nilp rfl ⟨rfl, rfl⟩) ?_
      refine js_S rfl rfl (.inl rfl) (xv_faddr fl63_0 rfl ⟨rfl, rfl⟩) ?_
      refine js_S rfl rfl (.inl rfl) (xv_faddr fl24_5 rfl ⟨rfl, rfl⟩) ?_
      refine js_R0 rfl rfl (.inl rfl) (xv_load1 ty3 rfl rfl (by (first|((repeat first|exact z_0|assumption|refine z_1 ?_|refine z_r ?_);done)|((repeat refine z_1 ?_);refine z_l ?_;(repeat first|exact z_0|assumption|refine z_1 ?_|refine z_r ?_);done)|((repeat refine z_1 ?_);refine z_r ?_;(repeat refine z_1 ?_);refine z_l ?_;(repeat first|exact z_0|assumption|refine z_1 ?_|refine z_r ?_);done)|((repeat first|exact z_0|assumption|refine z_1 ?_|refine z_l ?_);done))) (by (first | rfl | exact sc_ov' (h6 := rfl) (by assumption) rfl | exact sc_ov (h6 := rfl) (by assumption) rfl rfl | exact sc_at (h6 := rfl) rfl | exact sc_op (h6 := rfl) (by assumption) rfl)) ⟨rfl, rfl⟩) ?_
      refine js_S rfl rfl (.inl rfl) (xv_cmp rfl rfl rfl ⟨rfl, rfl⟩) ?_
      refine js_O0 rfl rfl (.inl rfl) (xv_calls rfl hb49 (need_c _ _ (fun hb5 => up_ret ?_) (fun hb6 => up_pan ?_)))
      · refine j_end0 ?_
        refine th_n ?_
        refine xc_seq ?_
        refine xc_draw0 [(0, .S), (1, .R), (2, .S), (3, .R), (4, .S), (5, .S), (6, .S), (7, .R), (8, .S), (9, .S), (10, .S), (11, .R), (12, .O)] mixed (by kernel_rfl) ?_
        obtain ⟨k, hxk⟩ : ∃ k, x.kind.toNat = k := ⟨_, rfl⟩
        obtain ⟨i, hxi⟩ : ∃ i, x.ret.toNat = i := ⟨_, rfl⟩
        have hg2 := hgs
        obtain ⟨⟨hh0, hh1⟩, ⟨ht0, ht1⟩, ⟨hk0, hk1⟩, ht, htn⟩ := hg2
        have hk5 : k < 5 := by omega
        have hi : i < 8 := by omega
        have hdn := hS.done x.hour
        refine js_S rfl rfl (.inl rfl) (xv_faddr fl48_2 rfl ⟨rfl, rfl⟩) ?_
        refine js_R0 rfl rfl (.inl rfl) (xv_load1 ty3 rfl rfl (by (first|((repeat first|exact z_0|assumption|refine z_1 ?_|refine z_r ?_);done)|((repeat refine z_1 ?_);refine z_l ?_;(repeat first|exact z_0|assumption|refine z_1 ?_|refine z_r ?_);done)|((repeat refine z_1 ?_);refine z_r ?_;(repeat refine z_1 ?_);refine z_l ?_;(repeat first|exact z_0|assumption|refine z_1 ?_|refine z_r ?_);done)|((repeat first|exact z_0|assumption|refine z_1 ?_|refine z_l ?_);done))) (by (first | rfl | exact sc_ov' (h6 := rfl) (by assumption) rfl | exact sc_ov (h6 := rfl) (by assumption) rfl rfl | exact sc_at (h6 := rfl) rfl | exact sc_op (h6 := rfl) (by assumption) rfl)) ⟨rfl, rfl⟩) ?_
        refine js_S rfl rfl (.inl rfl) (xv_iaA (sz := 1) Try.underlying92 ty90 rfl rfl rfl (by (first | assumption | with_reducible exact Int.toNat_natCast _ | with_reducible rfl | rfl)) (by (first | omega | (dsimp only at *; omega) | (simp at *; omega))) (by (first | omega | (dsimp only at *; omega) | (simp at *; omega))) ⟨rfl, rfl⟩) ?_
        refine js_R0 rfl rfl (.inl rfl) (xv_load1 ty90 rfl rfl (by (first|((repeat first|exact z_0|assumption|refine z_1 ?_|refine z_r ?_);done)|((repeat refine z_1 ?_);refine z_l ?_;(repeat first|exact z_0|assumption|refine z_1 ?_|refine z_r ?_);done)|((repeat refine z_1 ?_);refine z_r ?_;(repeat refine z_1 ?_);refine z_l ?_;(repeat first|exact z_0|assumption|refine z_1 ?_|refine z_r ?_);done)|((repeat first|exact z_0|assumption|refine z_1 ?_|refine z_l ?_);done))) (kf_at hk5) ⟨rfl, rfl⟩) ?_
        refine js_S rfl rfl (.inl rfl) (xv_move rfl ⟨rfl, rfl⟩) ?_
        refine js_S rfl rfl (.inl rfl) (xv_move rfl ⟨rfl, rfl⟩) ?_
        refine js_S rfl rfl (.inl rfl) (xv_faddr fl48_1 rfl ⟨rfl, rfl⟩) ?_
        refine js_R0 rfl rfl (.inl rfl) (xv_load1 ty3 rfl rfl (by (first|((repeat first|exact z_0|assumption|refine z_1 ?_|refine z_r ?_);done)|((repeat refine z_1 ?_);refine z_l ?_;(repeat first|exact z_0|assumption|refine z_1 ?_|refine z_r ?_);done)|((repeat refine z_1 ?_);refine z_r ?_;(repeat refine z_1 ?_);refine z_l ?_;(repeat first|exact z_0|assumption|refine z_1 ?_|refine z_r ?_);done)|((repeat first|exact z_0|assumption|refine z_1 ?_|refine z_l ?_);done))) (by (first | rfl | exact sc_ov' (h6 := rfl) (by assumption) rfl | exact sc_ov (h6 := rfl) (by assumption) rfl rfl | exact sc_at (h6 := rfl) rfl | exact sc_op (h6 := rfl) (by assumption) rfl)) ⟨rfl, rfl⟩) ?_
        refine js_S rfl rfl (.inl rfl) (xv_nilp rfl ⟨rfl, rfl⟩) ?_
        refine js_S rfl rfl (.inl rfl) (xv_faddr fl63_1 rfl ⟨rfl, rfl⟩) ?_
        refine js_S rfl rfl (.inl rfl) (xv_iaA (sz := 5) Try.underlying30 ty29 rfl rfl rfl (by (first | assumption | with_reducible exact Int.toNat_natCast _ | with_reducible rfl | rfl)) (by (first | omega | (dsimp only at *; omega) | (simp at *; omega))) (by (first | omega | (dsimp only at *; omega) | (simp at *; omega))) ⟨rfl, rfl⟩) ?_
        refine js_R0 rfl rfl (.inl rfl) (xv_loadA ty48 rfl rfl (by (first|((repeat first|exact z_0|assumption|refine z_1 ?_|refine z_r ?_);done)|((repeat refine z_1 ?_);refine z_l ?_;(repeat first|exact z_0|assumption|refine z_1 ?_|refine z_r ?_);done)|((repeat refine z_1 ?_);refine z_r ?_;(repeat refine z_1 ?_);refine z_l ?_;(repeat first|exact z_0|assumption|refine z_1 ?_|refine z_r ?_);done)|((repeat first|exact z_0|assumption|refine z_1 ?_|refine z_l ?_);done))) (by ((try apply evl_some rfl);(repeat (first|exact (rfl : _ = [])|apply evl_cons rfl (by (first|exact v_1|exact v_2|exact v_3|exact v_4|exact v_5|exact v_6|exact v_7|exact v_8|exact v_9|exact rfl))|exact rfl)))) (by rfl) ⟨rfl, rfl⟩) ?_
        refine js_O0 rfl rfl (.inl rfl) (xv_fn rfl rfl (AFn.framed [_, _] (kind_c hw hgs hn hS hV hi hxi hxk (fun S2 V2 hS2 hV2 => up_ret ?_) (fun e2 hx2 he2 => up_pan ?_))))
        · refine j_end0 ?_
          refine th_n ?_
          refine xc_seq (xc_region ?_)
          refine xr_op rfl rfl (xv_move rfl ?_)
          refine xr_op rfl rfl (xv_faddr fl48_0 rfl ?_)
          refine xr_op rfl rfl (xv_load1 ty3 rfl rfl (by (first|((repeat first|exact z_0|assumption|refine z_1 ?_|refine z_r ?_);done)|((repeat refine z_1 ?_);refine z_l ?_;(repeat first|exact z_0|assumption|refine z_1 ?_|refine z_r ?_);done)|((repeat refine z_1 ?_);refine z_r ?_;(repeat refine z_1 ?_);refine z_l ?_;(repeat first|exact z_0|assumption|refine z_1 ?_|refine z_r ?_);done)|((repeat first|exact z_0|assumption|refine z_1 ?_|refine z_l ?_);done))) (by (first | rfl | exact sc_ov' (h6 := rfl) (by assumption) rfl | exact sc_ov (h6 := rfl) (by assumption) rfl rfl | exact sc_at (h6 := rfl) rfl | exact sc_op (h6 := rfl) (by assumption) rfl)) ?_)
          refine xr_op rfl rfl (xv_nilp rfl ?_)
          refine xr_op rfl rfl (xv_faddr fl63_3 rfl ?_)
          refine xr_op rfl rfl (xv_s1 ty3 rfl rfl rfl (by (first|(apply u_3;(repeat first|exact u_0|assumption|apply u_1|apply u_2);done)|((repeat first|exact u_0|assumption|apply u_1|apply u_2);done)|(apply u_3;apply u_3;(repeat first|exact u_0|assumption|apply u_1|apply u_2);done)|((repeat first|exact u_0|assumption|apply u_3|apply u_1);done))) (by (first | rfl | exact Vec.one _ _)) (by (first | decide | (rw [len_sc (h6 := rfl)]; omega))) (by (first | exact sc_s0 (h6 := rfl) (by assumption) (by (first | exact upd_same _ _ _ | rfl)) | exact sc_s1 (h6 := rfl) (by assumption) (by (first | exact upd_same _ _ _ | rfl)) | exact sc_s2 (h6 := rfl) (by assumption) (by (first | exact upd_same _ _ _ | rfl)) | exact sc_s3 (h6 := rfl) (by assumption) (by (first | exact upd_same _ _ _ | rfl)) | exact sc_s4 (h6 := rfl) (by assumption) (by (first | exact upd_same _ _ _ | rfl)) | exact sc_setop (h6 := rfl) (by assumption) | exact sc_setlast (h6 := rfl) | exact sc_setruns (h6 := rfl) | (((try apply evl_some rfl);(repeat (first|exact (rfl : _ = [])|apply evl_cons rfl (by (first|exact v_1|exact v_2|exact v_3|exact v_4|exact v_5|exact v_6|exact v_7|exact v_8|exact v_9|exact rfl))|exact rfl)))))) ?_)
          refine xr_end rfl ?_
          refine th_n ?_
          refine xc_draw0 [(0, .S), (1, .S), (2, .S), (3, .R), (4, .S), (5, .R), (6, .R), (7, .S), (8, .O)] mixed (by kernel_rfl) ?_
          refine js_S rfl rfl (.inl rfl) (xv_move rfl ⟨rfl, rfl⟩) ?_
          refine js_S rfl rfl (.inl rfl) (xv_nilp rfl ⟨rfl, rfl⟩) ?_
          refine js_S rfl rfl (.inl rfl) (xv_faddr fl63_2 rfl ⟨rfl, rfl⟩) ?_
          refine js_R0 rfl rfl (.inl rfl) (xv_load1 ty60 rfl rfl (by (first|((repeat first|exact z_0|assumption|refine z_1 ?_|refine z_r ?_);done)|((repeat refine z_1 ?_);refine z_l ?_;(repeat first|exact z_0|assumption|refine z_1 ?_|refine z_r ?_);done)|((repeat refine z_1 ?_);refine z_r ?_;(repeat refine z_1 ?_);refine z_l ?_;(repeat first|exact z_0|assumption|refine z_1 ?_|refine z_r ?_);done)|((repeat first|exact z_0|assumption|refine z_1 ?_|refine z_l ?_);done))) (by (first | rfl | exact sc_ov' (h6 := rfl) (by assumption) rfl | exact sc_ov (h6 := rfl) (by assumption) rfl rfl | exact sc_at (h6 := rfl) rfl | exact sc_op (h6 := rfl) (by assumption) rfl)) ⟨rfl, rfl⟩) ?_
          refine js_S rfl rfl (.inl rfl) (xv_faddr fl48_0 rfl ⟨rfl, rfl⟩) ?_
          refine js_R0 rfl rfl (.inl rfl) (xv_load1 ty3 rfl rfl (by (first|((repeat first|exact z_0|assumption|refine z_1 ?_|refine z_r ?_);done)|((repeat refine z_1 ?_);refine z_l ?_;(repeat first|exact z_0|assumption|refine z_1 ?_|refine z_r ?_);done)|((repeat refine z_1 ?_);refine z_r ?_;(repeat refine z_1 ?_);refine z_l ?_;(repeat first|exact z_0|assumption|refine z_1 ?_|refine z_r ?_);done)|((repeat first|exact z_0|assumption|refine z_1 ?_|refine z_l ?_);done))) (by (first | rfl | exact sc_ov' (h6 := rfl) (by assumption) rfl | exact sc_ov (h6 := rfl) (by assumption) rfl rfl | exact sc_at (h6 := rfl) rfl | exact sc_op (h6 := rfl) (by assumption) rfl)) ⟨rfl, rfl⟩) ?_
          refine js_R0 rfl rfl (.inl rfl) (xv_lookup Try.underlying60 Try.underlying3 ty3 rfl rfl (by (first|((repeat first|exact z_0|assumption|refine z_1 ?_|refine z_r ?_);done)|((repeat refine z_1 ?_);refine z_l ?_;(repeat first|exact z_0|assumption|refine z_1 ?_|refine z_r ?_);done)|((repeat refine z_1 ?_);refine z_r ?_;(repeat refine z_1 ?_);refine z_l ?_;(repeat first|exact z_0|assumption|refine z_1 ?_|refine z_r ?_);done)|((repeat first|exact z_0|assumption|refine z_1 ?_|refine z_l ?_);done))) hM.1 (hM.2 _) ⟨rfl, rfl⟩) ?_
          refine js_S rfl rfl (.inl rfl) (xv_add rfl rfl (wrap_i64 (by (first | omega | (dsimp only at *; omega) | (simp at *; omega))) (by (first | omega | (dsimp only at *; omega) | (simp at *; omega)))) ⟨rfl, rfl⟩) ?_
          refine js_O0 rfl rfl (.inl rfl) (xv_mapSet Try.underlying60 Try.underlying3 rfl rfl rfl (fun o2 => by (first|(apply u_3;(repeat first|exact u_0|assumption|apply u_1|apply u_2);done)|((repeat first|exact u_0|assumption|apply u_1|apply u_2);done)|(apply u_3;apply u_3;(repeat first|exact u_0|assumption|apply u_1|apply u_2);done)|((repeat first|exact u_0|assumption|apply u_3|apply u_1);done))) hM.1 (fun es1 cm1 hms1 => ?_))
          refine j_end0 ?_
          refine body_end (h' := shopH (eHouse a c w) s m es1 cm1 V2 { S2 with last := x.hour, done := setd S.done x.hour (S.done x.hour + 1) } L) rfl ro_nil (by (first|((repeat first|exact s_0|exact s_1|exact s_3|refine s_4 ?_|refine s_5 ?_|refine s_6 ?_|refine s_7 ?_);done)|((repeat first|exact s_0|exact s_1|exact s_3|refine s_4 ?_|refine s_5 ?_|refine s_6 ?_|refine s_8 ?_);done))) ?_
          exact H1 _ V2 es1 cm1 (by ((try simp only [beq_iff_eq, decide_eq_true_eq, beq_eq_false_iff_ne, decide_eq_false_iff_not, bne_iff_ne, ne_eq, Bool.not_eq_true] at *); unfold doStoke; (repeat' split); all_goals first | rfl | (exfalso; omega) | (exfalso; simp_all; done) | (simp_all; done))) hV2 (hM.set hms1)
        · refine jp_p ?_
          refine th_p ?_
          refine body_pan ?_
          exact H2 _ _ (by ((try simp only [beq_iff_eq, decide_eq_true_eq, beq_eq_false_iff_ne, decide_eq_false_iff_not, bne_iff_ne, ne_eq, Bool.not_eq_true] at *); unfold doStoke; (repeat' split); all_goals first | rfl | (exfalso; omega) | (exfalso; simp_all; done) | (simp_all; done)))
      · refine jp_p ?_
        refine th_p ?_
        refine body_pan ?_
        exact H2 _ _ (by ((try simp only [beq_iff_eq, decide_eq_true_eq, beq_eq_false_iff_ne, decide_eq_false_iff_not, bne_iff_ne, ne_eq, Bool.not_eq_true] at *); unfold doStoke; (repeat' split); all_goals first | rfl | (exfalso; omega) | (exfalso; simp_all; done) | (simp_all; done)))
    · refine jp_p ?_
      refine th_p ?_
      refine body_pan ?_
      exact H2 _ _ (by ((try simp only [beq_iff_eq, decide_eq_true_eq, beq_eq_false_iff_ne, decide_eq_false_iff_not, bne_iff_ne, ne_eq, Bool.not_eq_true] at *); unfold doStoke; (repeat' split); all_goals first | rfl | (exfalso; omega) | (exfalso; simp_all; done) | (simp_all; done)))
  · refine xr_op rfl rfl (xv_calls rfl hb49 (needF_c _ (up_pan ?_)))
    refine th_p ?_
    refine body_pan ?_
    exact H2 _ _ (by ((try simp only [beq_iff_eq, decide_eq_true_eq, beq_eq_false_iff_ne, decide_eq_false_iff_not, bne_iff_ne, ne_eq, Bool.not_eq_true] at *); unfold doStoke; (repeat' split); all_goals first | rfl | (exfalso; omega) | (exfalso; simp_all; done) | (simp_all; done)))

end Go.Proofs.Ytjmailhoidenaaa
