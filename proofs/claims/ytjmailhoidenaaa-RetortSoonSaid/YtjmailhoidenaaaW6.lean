/-
  Walks.
-/
import Derived.Test.YtjmailhoidenaaaW5
namespace Go.Proofs.Ytjmailhoidenaaa
open Go Go.H
set_option maxRecDepth 100000
set_option maxHeartbeats 2000000
set_option linter.all false
theorem play_c {a al : Option Addr} {c cl : Nat} {w : House} {l : List Stoke} {h : Hp} {R : Ending → Hp → Prop}
    (hs : SlV h 2 eSpan a w.curve) (hlen : w.curve.length ≤ 4611686018427387904) (hl : SlV h 4 eStoke al l)
    (H1 : ∀ i e, play w l = .error (i, e) → R (.returned (.tuple ⟨[.pointer none, I i, I e]⟩)) h)
    (H2 : ∀ S s m es cm V, play w l = .ok S → S.Ok l.length → V.ok 3 S.runs.length (S.runs.flatMap eRun) → MapOk es S.done → R (.returned (.tuple ⟨[.pointer (some ⟨s, 0, none⟩), I l.length, I 0]⟩)) (h ++ shopH (eHouse a c w) s m es cm V S [])) :
    ACalls Try.prog 23 ⟨[.agg ⟨eHouse a c w⟩, .slice al l.length cl]⟩ h R := by
  refine calls_of_xcD (N := 34) Try.func23 rfl (by rfl) ?_
  refine xc_seq (xc_region ?_)
  refine xr_op rfl rfl (xv_box rfl (fun bw hbw => ?_))
  refine xr_op rfl rfl (xv_alloc ty57 (fun bs hbs => ?_))
  refine xr_op rfl rfl (xv_assign rfl ?_)
  refine xr_op rfl rfl (xv_alloc ty31 (fun be hbe => ?_))
  refine xr_end rfl ?_
  refine th_n ?_
  refine xc_seq ?_
  refine xc_block ?_
  refine xc_seq (xc_region ?_)
  refine xr_op rfl rfl (xv_loadA ty24 rfl rfl (by (first|((repeat first|exact z_0|assumption|refine z_1 ?_|refine z_r ?_);done)|((repeat refine z_1 ?_);refine z_l ?_;(repeat first|exact z_0|assumption|refine z_1 ?_|refine z_r ?_);done)|((repeat refine z_1 ?_);refine z_r ?_;(repeat refine z_1 ?_);refine z_l ?_;(repeat first|exact z_0|assumption|refine z_1 ?_|refine z_r ?_);done)|((repeat first|exact z_0|assumption|refine z_1 ?_|refine z_l ?_);done))) (by ((try apply evl_some rfl);(repeat (first|exact (rfl : _ = [])|apply evl_cons rfl (by (first|exact v_1|exact v_2|exact v_3|exact v_4|exact v_5|exact v_6|exact v_7|exact v_8|exact v_9|exact rfl))|exact rfl)))) (by rfl) ?_)
  refine xr_op rfl rfl (xv_calls rfl hb34 (isHouse_c (hs.sub (by intro z hz; (first|((repeat first|exact z_0|assumption|refine z_1 ?_|refine z_r ?_);done)|((repeat refine z_1 ?_);refine z_l ?_;(repeat first|exact z_0|assumption|refine z_1 ?_|refine z_r ?_);done)|((repeat refine z_1 ?_);refine z_r ?_;(repeat refine z_1 ?_);refine z_l ?_;(repeat first|exact z_0|assumption|refine z_1 ?_|refine z_r ?_);done)|((repeat first|exact z_0|assumption|refine z_1 ?_|refine z_l ?_);done)))) hlen (fun hgood => up_ret ?_) (fun hgood => up_ret ?_)))
  · refine xr_op rfl rfl (xv_not rfl ?_)
    refine xr_op rfl rfl (xv_assign rfl ?_)
    refine xr_end rfl ?_
    refine th_n ?_
    refine xc_false rfl ?_
    refine xc_seq (xc_region ?_)
    refine xr_op rfl rfl (xv_move rfl ?_)
    refine xr_op rfl rfl (xv_len sl25 rfl ?_)
    refine xr_op rfl rfl (xv_gtr2 rfl rfl (fun q1 => ?_) (fun q1 => ?_))
    · refine xr_op rfl rfl (xv_assign rfl ?_)
      refine xr_end rfl ?_
      refine th_n ?_
      refine xc_true rfl ?_
      refine xc_seq (xc_region ?_)
      refine xr_op rfl rfl (xv_s1 ty57 rfl rfl rfl (by (first|(apply u_3;(repeat first|exact u_0|assumption|apply u_1|apply u_2);done)|((repeat first|exact u_0|assumption|apply u_1|apply u_2);done)|(apply u_3;apply u_3;(repeat first|exact u_0|assumption|apply u_1|apply u_2);done)|((repeat first|exact u_0|assumption|apply u_3|apply u_1);done))) (by (first | rfl | exact Vec.one _ _)) (by (first | decide | exact Nat.le_of_ble_eq_true rfl | (simp only [List.length_cons, List.length_nil]; omega) | (simp; done))) (by ((try apply evl_some rfl);(repeat (first|exact (rfl : _ = [])|apply evl_cons rfl (by (first|exact v_1|exact v_2|exact v_3|exact v_4|exact v_5|exact v_6|exact v_7|exact v_8|exact v_9|exact rfl))|exact rfl)))) ?_)
      refine xr_op rfl rfl (xv_assign rfl ?_)
      refine xr_op rfl rfl (xv_s1 ty31 rfl rfl rfl (by (first|(apply u_3;(repeat first|exact u_0|assumption|apply u_1|apply u_2);done)|((repeat first|exact u_0|assumption|apply u_1|apply u_2);done)|(apply u_3;apply u_3;(repeat first|exact u_0|assumption|apply u_1|apply u_2);done)|((repeat first|exact u_0|assumption|apply u_3|apply u_1);done))) (by (first | rfl | exact Vec.one _ _)) (by (first | decide | exact Nat.le_of_ble_eq_true rfl | (simp only [List.length_cons, List.length_nil]; omega) | (simp; done))) (by ((try apply evl_some rfl);(repeat (first|exact (rfl : _ = [])|apply evl_cons rfl (by (first|exact v_1|exact v_2|exact v_3|exact v_4|exact v_5|exact v_6|exact v_7|exact v_8|exact v_9|exact rfl))|exact rfl)))) ?_)
      refine xr_end rfl ?_
      refine th_n ?_
      refine xc_ret ?_
      refine bk_r ?_
      refine th_r ?_
      refine ⟨_, h, (ro_cell ty57 rfl rfl (by (first|((repeat first|exact z_0|assumption|refine z_1 ?_|refine z_r ?_);done)|((repeat refine z_1 ?_);refine z_l ?_;(repeat first|exact z_0|assumption|refine z_1 ?_|refine z_r ?_);done)|((repeat refine z_1 ?_);refine z_r ?_;(repeat refine z_1 ?_);refine z_l ?_;(repeat first|exact z_0|assumption|refine z_1 ?_|refine z_r ?_);done)|((repeat first|exact z_0|assumption|refine z_1 ?_|refine z_l ?_);done))) (by rfl) (ro_tmp rfl (ro_cell ty31 rfl rfl (by (first|((repeat first|exact z_0|assumption|refine z_1 ?_|refine z_r ?_);done)|((repeat refine z_1 ?_);refine z_l ?_;(repeat first|exact z_0|assumption|refine z_1 ?_|refine z_r ?_);done)|((repeat refine z_1 ?_);refine z_r ?_;(repeat refine z_1 ?_);refine z_l ?_;(repeat first|exact z_0|assumption|refine z_1 ?_|refine z_r ?_);done)|((repeat first|exact z_0|assumption|refine z_1 ?_|refine z_l ?_);done))) (by rfl) ro_nil))), (by (first|((repeat first|exact s_0|exact s_1|exact s_3|refine s_4 ?_|refine s_5 ?_|refine s_6 ?_|refine s_7 ?_);done)|((repeat first|exact s_0|exact s_1|exact s_3|refine s_4 ?_|refine s_5 ?_|refine s_6 ?_|refine s_8 ?_);done))), ?_⟩
      first | exact H1 _ _ (by unfold play; rw [if_pos (by simpa using hgood)]) | exact H1 _ _ (by unfold play; rw [if_neg (by simpa using hgood), if_pos (by omega)])
    · refine xr_op rfl rfl (xv_assign rfl ?_)
      refine xr_end rfl ?_
      refine th_n ?_
      refine xc_false rfl ?_
      refine xc_skip ?_
      refine bk_n ?_
      refine th_n ?_
      refine xc_seq (xc_region ?_)
      refine xr_op rfl rfl (xv_func rfl rfl ?_)
      refine xr_defer rfl rfl rfl rfl ?_
      refine xr_end rfl ?_
      refine th_n ?_
      refine xc_seq (xc_region ?_)
      refine xr_op rfl rfl (xv_loadA ty24 rfl rfl (by (first|((repeat first|exact z_0|assumption|refine z_1 ?_|refine z_r ?_);done)|((repeat refine z_1 ?_);refine z_l ?_;(repeat first|exact z_0|assumption|refine z_1 ?_|refine z_r ?_);done)|((repeat refine z_1 ?_);refine z_r ?_;(repeat refine z_1 ?_);refine z_l ?_;(repeat first|exact z_0|assumption|refine z_1 ?_|refine z_r ?_);done)|((repeat first|exact z_0|assumption|refine z_1 ?_|refine z_l ?_);done))) (by ((try apply evl_some rfl);(repeat (first|exact (rfl : _ = [])|apply evl_cons rfl (by (first|exact v_1|exact v_2|exact v_3|exact v_4|exact v_5|exact v_6|exact v_7|exact v_8|exact v_9|exact rfl))|exact rfl)))) (by rfl) ?_)
      refine xr_op rfl rfl (xv_makeMap (fun bm hbm => ?_))
      refine xr_op rfl rfl (xv_build bt63 rfl (by ((try apply evl_some rfl);(repeat (first|exact (rfl : _ = [])|apply evl_cons rfl (by (first|exact v_1|exact v_2|exact v_3|exact v_4|exact v_5|exact v_6|exact v_7|exact v_8|exact v_9|exact rfl))|exact rfl)))) ?_)
      refine xr_op rfl rfl (xv_box rfl (fun bsh hbsh => ?_))
      refine xr_op rfl rfl (xv_s1 ty57 rfl rfl rfl (by (first|(apply u_3;(repeat first|exact u_0|assumption|apply u_1|apply u_2);done)|((repeat first|exact u_0|assumption|apply u_1|apply u_2);done)|(apply u_3;apply u_3;(repeat first|exact u_0|assumption|apply u_1|apply u_2);done)|((repeat first|exact u_0|assumption|apply u_3|apply u_1);done))) (by (first | rfl | exact Vec.one _ _)) (by (first | decide | exact Nat.le_of_ble_eq_true rfl | (simp only [List.length_cons, List.length_nil]; omega) | (simp; done))) (by ((try apply evl_some rfl);(repeat (first|exact (rfl : _ = [])|apply evl_cons rfl (by (first|exact v_1|exact v_2|exact v_3|exact v_4|exact v_5|exact v_6|exact v_7|exact v_8|exact v_9|exact rfl))|exact rfl)))) ?_)
      refine xr_end rfl ?_
      refine th_n ?_
      refine xc_seq ?_
      refine xc_block ?_
      refine XC.perm (h := ((be, .cells ⟨[I 0]⟩ 31) :: (bs, .cells ⟨[.pointer (some ⟨bsh, 0, none⟩)]⟩ 57) :: (bw, .cells ⟨eHouse a c w⟩ 24) :: h) ++ shopH (eHouse a c w) bsh bm [] 0 .nil .init []) List.perm_append_comm ?_
      refine xc_loop (σ := Nat × St × Vec × List MapEntry × Nat) (fun x => x.1 ≤ l.length ∧ play w l = playFrom w x.2.1 (l.drop x.1) x.1 ∧ x.2.1.Ok x.1 ∧ x.2.2.1.ok 3 x.2.1.runs.length (x.2.1.runs.flatMap eRun) ∧ MapOk x.2.2.2.1 x.2.1.done) (fun x => ((((emp.put (some 1) (.slice al l.length cl)).put (some 4) (.pointer (some ⟨bs, 0, none⟩))).put (some 5) (I x.1)).put (some 6) (.pointer (some ⟨be, 0, none⟩)))) (fun x => (((be, .cells ⟨[I 0]⟩ 31) :: (bs, .cells ⟨[.pointer (some ⟨bsh, 0, none⟩)]⟩ 57) :: (bw, .cells ⟨eHouse a c w⟩ 24) :: h) ++ shopH (eHouse a c w) bsh bm x.2.2.2.1 x.2.2.2.2 x.2.2.1 x.2.1 [])) (fun x => l.length - x.1) (0, .init, .nil, [], 0) ⟨Nat.zero_le _, by unfold play; rw [if_neg (by simpa using hgood), if_neg (by omega)]; rfl, St.init_ok, ⟨rfl, rfl⟩, ⟨fun _ he => (by cases he), fun _ => rfl⟩⟩ (le_put (le_put (le_put (le_put (le_emp _) rfl) rfl) rfl) rfl) (by (first|((repeat first|exact s_0|exact s_1|exact s_3|refine s_4 ?_|refine s_5 ?_|refine s_6 ?_|refine s_7 ?_);done)|((repeat first|exact s_0|exact s_1|exact s_3|refine s_4 ?_|refine s_5 ?_|refine s_6 ?_|refine s_8 ?_);done))) ?_
      rintro ⟨k, S, V, es, cm⟩ ⟨hk, hrun, hS, hV, hM⟩
      dsimp only at hk hrun hS hV hM
      refine xc_seq ?_
      refine xc_seq (xc_region ?_)
      refine xr_op rfl rfl (xv_move rfl ?_)
      refine xr_op rfl rfl (xv_move rfl ?_)
      refine xr_op rfl rfl (xv_len sl25 rfl ?_)
      refine xr_op rfl rfl (xv_lss2 rfl rfl (fun q2 => ?_) (fun q2 => ?_))
      · refine xr_end rfl ?_
        refine th_n ?_
        refine xc_true rfl ?_
        refine xc_skip ?_
        refine th_n ?_
        refine xc_block ?_
        refine xc_seq ?_
        refine xc_draw0 [(0, .R), (1, .S), (2, .S), (3, .S), (4, .R), (5, .O)] mixed (by kernel_rfl) ?_
        have hlt : k < l.length := by (first | omega | (dsimp only at *; omega) | (simp at *; omega))
        obtain ⟨b, o, li, t, fz, rfl, hm, hx⟩ := hl.at hlt
        obtain ⟨x, hkx⟩ : ∃ x, l[k]? = some x := ⟨_, List.getElem?_eq_getElem hlt⟩
        have hdrop : l.drop k = x :: l.drop (k + 1) := by rw [List.drop_eq_getElem_cons hlt]; congr 1; rw [List.getElem?_eq_getElem hlt] at hkx; exact Option.some.inj hkx
        refine js_R0 rfl rfl (.inl rfl) (xv_load1 ty57 rfl rfl (by (first|((repeat first|exact z_0|assumption|refine z_1 ?_|refine z_r ?_);done)|((repeat refine z_1 ?_);refine z_l ?_;(repeat first|exact z_0|assumption|refine z_1 ?_|refine z_r ?_);done)|((repeat refine z_1 ?_);refine z_r ?_;(repeat refine z_1 ?_);refine z_l ?_;(repeat first|exact z_0|assumption|refine z_1 ?_|refine z_r ?_);done)|((repeat first|exact z_0|assumption|refine z_1 ?_|refine z_l ?_);done))) (by rfl) ⟨rfl, rfl⟩) ?_
        refine js_S rfl rfl (.inl rfl) (xv_move rfl ⟨rfl, rfl⟩) ?_
        refine js_S rfl rfl (.inl rfl) (xv_move rfl ⟨rfl, rfl⟩) ?_
        refine js_S rfl rfl (.inl rfl) (xv_ia (sz := 4) sl25 ty48 rfl rfl rfl (by (first | assumption | with_reducible exact Int.toNat_natCast _ | with_reducible rfl | rfl)) (by (first | omega | (dsimp only at *; omega) | (simp at *; omega))) (by (first | omega | (dsimp only at *; omega) | (simp at *; omega))) ⟨rfl, rfl⟩) ?_
        refine js_R0 rfl rfl (.inl rfl) (xv_loadA ty48 rfl rfl (by (first|((repeat first|exact z_0|assumption|refine z_1 ?_|refine z_r ?_);done)|((repeat refine z_1 ?_);refine z_l ?_;(repeat first|exact z_0|assumption|refine z_1 ?_|refine z_r ?_);done)|((repeat refine z_1 ?_);refine z_r ?_;(repeat refine z_1 ?_);refine z_l ?_;(repeat first|exact z_0|assumption|refine z_1 ?_|refine z_r ?_);done)|((repeat first|exact z_0|assumption|refine z_1 ?_|refine z_l ?_);done))) (hx k x hkx) rfl ⟨rfl, rfl⟩) ?_
        refine js_O0 rfl rfl (.inl rfl) (xv_calls rfl hb36 (ACalls.framed ((be, .cells ⟨[I 0]⟩ 31) :: (bs, .cells ⟨[.pointer (some ⟨bsh, 0, none⟩)]⟩ 57) :: (bw, .cells ⟨eHouse a c w⟩ 24) :: h) (do_c hgood (by omega) hS hV hM (fun S2 V2 es2 cm2 hS2 hV2 hM2 => up_ret ?_) (fun e2 hx2 he2 => up_pan ?_))))
        · refine j_end0 ?_
          refine th_n ?_
          refine xc_region ?_
          refine xr_op rfl rfl (xv_move rfl ?_)
          refine xr_op rfl rfl (xv_add rfl rfl (wrap_i64 (by (first | omega | (dsimp only at *; omega) | (simp at *; omega))) (by (first | omega | (dsimp only at *; omega) | (simp at *; omega)))) ?_)
          refine xr_op rfl rfl (xv_assign rfl ?_)
          refine xr_end rfl ?_
          refine bk_n ?_
          exact rnd ((k + 1, S2, V2, es2, cm2) : Nat × St × Vec × List MapEntry × Nat) ⟨(by dsimp only; omega), (by rw [hrun, hdrop]; simp only [playFrom, hS2]), doStoke_ok hgood hS hS2, hV2, hM2⟩ (by dsimp only; omega) (le_put (le_put (le_put (le_put (le_emp _) rfl) rfl) rfl) rfl) (by (first|((repeat first|exact s_0|exact s_1|exact s_3|refine s_4 ?_|refine s_5 ?_|refine s_6 ?_|refine s_7 ?_);done)|((repeat first|exact s_0|exact s_1|exact s_3|refine s_4 ?_|refine s_5 ?_|refine s_6 ?_|refine s_8 ?_);done)))
        · refine jp_p ?_
          refine th_p ?_
          refine bk_p ?_
          refine th_p ?_
          refine bk_p ?_
          refine th_p ?_
          refine ⟨by simp, 35, [_, _], [], rfl, hb35, playdef_pan (by (first|(apply u_3;(repeat first|exact u_0|assumption|apply u_1|apply u_2);done)|((repeat first|exact u_0|assumption|apply u_1|apply u_2);done)|(apply u_3;apply u_3;(repeat first|exact u_0|assumption|apply u_1|apply u_2);done)|((repeat first|exact u_0|assumption|apply u_3|apply u_1);done))) (by (first|(apply u_3;(repeat first|exact u_0|assumption|apply u_1|apply u_2);done)|((repeat first|exact u_0|assumption|apply u_1|apply u_2);done)|(apply u_3;apply u_3;(repeat first|exact u_0|assumption|apply u_1|apply u_2);done)|((repeat first|exact u_0|assumption|apply u_3|apply u_1);done))) ?_⟩
          refine ⟨_, h, (ro_cell ty57 rfl rfl (by (first|((repeat first|exact z_0|assumption|refine z_1 ?_|refine z_r ?_);done)|((repeat refine z_1 ?_);refine z_l ?_;(repeat first|exact z_0|assumption|refine z_1 ?_|refine z_r ?_);done)|((repeat refine z_1 ?_);refine z_r ?_;(repeat refine z_1 ?_);refine z_l ?_;(repeat first|exact z_0|assumption|refine z_1 ?_|refine z_r ?_);done)|((repeat first|exact z_0|assumption|refine z_1 ?_|refine z_l ?_);done))) (by rfl) (ro_tmp rfl (ro_cell ty31 rfl rfl (by (first|((repeat first|exact z_0|assumption|refine z_1 ?_|refine z_r ?_);done)|((repeat refine z_1 ?_);refine z_l ?_;(repeat first|exact z_0|assumption|refine z_1 ?_|refine z_r ?_);done)|((repeat refine z_1 ?_);refine z_r ?_;(repeat refine z_1 ?_);refine z_l ?_;(repeat first|exact z_0|assumption|refine z_1 ?_|refine z_r ?_);done)|((repeat first|exact z_0|assumption|refine z_1 ?_|refine z_l ?_);done))) (by rfl) ro_nil))), (by (first|((repeat first|exact s_0|exact s_1|exact s_3|refine s_4 ?_|refine s_5 ?_|refine s_6 ?_|refine s_7 ?_);done)|((repeat first|exact s_0|exact s_1|exact s_3|refine s_4 ?_|refine s_5 ?_|refine s_6 ?_|refine s_8 ?_);done))), ?_⟩
          exact H1 _ _ (by rw [hrun, hdrop]; simp only [playFrom, he2])
      · refine xr_end rfl ?_
        refine th_n ?_
        refine xc_false rfl ?_
        refine xc_exit ?_
        refine th_x ?_
        refine th_x ?_
        refine bk_same ?_
        refine th_n ?_
        refine xc_seq (xc_region ?_)
        have hkl : k = l.length := by (first | omega | (dsimp only at *; omega) | (simp at *; omega))
        subst hkl
        have hfin : play w l = .ok S := by rw [hrun, List.drop_eq_nil_of_le (Nat.le_refl _)]; rfl
        refine xr_op rfl rfl (xv_load1 ty57 rfl rfl (by (first|((repeat first|exact z_0|assumption|refine z_1 ?_|refine z_r ?_);done)|((repeat refine z_1 ?_);refine z_l ?_;(repeat first|exact z_0|assumption|refine z_1 ?_|refine z_r ?_);done)|((repeat refine z_1 ?_);refine z_r ?_;(repeat refine z_1 ?_);refine z_l ?_;(repeat first|exact z_0|assumption|refine z_1 ?_|refine z_r ?_);done)|((repeat first|exact z_0|assumption|refine z_1 ?_|refine z_l ?_);done))) (by rfl) ?_)
        refine xr_op rfl rfl (xv_move rfl ?_)
        refine xr_op rfl rfl (xv_s1 ty57 rfl rfl rfl (by (first|(apply u_3;(repeat first|exact u_0|assumption|apply u_1|apply u_2);done)|((repeat first|exact u_0|assumption|apply u_1|apply u_2);done)|(apply u_3;apply u_3;(repeat first|exact u_0|assumption|apply u_1|apply u_2);done)|((repeat first|exact u_0|assumption|apply u_3|apply u_1);done))) (by (first | rfl | exact Vec.one _ _)) (by (first | decide | exact Nat.le_of_ble_eq_true rfl | (simp only [List.length_cons, List.length_nil]; omega) | (simp; done))) (by ((try apply evl_some rfl);(repeat (first|exact (rfl : _ = [])|apply evl_cons rfl (by (first|exact v_1|exact v_2|exact v_3|exact v_4|exact v_5|exact v_6|exact v_7|exact v_8|exact v_9|exact rfl))|exact rfl)))) ?_)
        refine xr_op rfl rfl (xv_assign rfl ?_)
        refine xr_op rfl rfl (xv_s1 ty31 rfl rfl rfl (by (first|(apply u_3;(repeat first|exact u_0|assumption|apply u_1|apply u_2);done)|((repeat first|exact u_0|assumption|apply u_1|apply u_2);done)|(apply u_3;apply u_3;(repeat first|exact u_0|assumption|apply u_1|apply u_2);done)|((repeat first|exact u_0|assumption|apply u_3|apply u_1);done))) (by (first | rfl | exact Vec.one _ _)) (by (first | decide | exact Nat.le_of_ble_eq_true rfl | (simp only [List.length_cons, List.length_nil]; omega) | (simp; done))) (by ((try apply evl_some rfl);(repeat (first|exact (rfl : _ = [])|apply evl_cons rfl (by (first|exact v_1|exact v_2|exact v_3|exact v_4|exact v_5|exact v_6|exact v_7|exact v_8|exact v_9|exact rfl))|exact rfl)))) ?_)
        refine xr_end rfl ?_
        refine th_n ?_
        refine xc_ret ?_
        refine ⟨by simp, 35, [_, _], [], rfl, hb35, playdef_ret ?_⟩
        refine ⟨_, h ++ shopH (eHouse a c w) bsh bm es cm V S [], (ro_cell ty57 rfl rfl (by (first|((repeat first|exact z_0|assumption|refine z_1 ?_|refine z_r ?_);done)|((repeat refine z_1 ?_);refine z_l ?_;(repeat first|exact z_0|assumption|refine z_1 ?_|refine z_r ?_);done)|((repeat refine z_1 ?_);refine z_r ?_;(repeat refine z_1 ?_);refine z_l ?_;(repeat first|exact z_0|assumption|refine z_1 ?_|refine z_r ?_);done)|((repeat first|exact z_0|assumption|refine z_1 ?_|refine z_l ?_);done))) (by rfl) (ro_tmp rfl (ro_cell ty31 rfl rfl (by (first|((repeat first|exact z_0|assumption|refine z_1 ?_|refine z_r ?_);done)|((repeat refine z_1 ?_);refine z_l ?_;(repeat first|exact z_0|assumption|refine z_1 ?_|refine z_r ?_);done)|((repeat refine z_1 ?_);refine z_r ?_;(repeat refine z_1 ?_);refine z_l ?_;(repeat first|exact z_0|assumption|refine z_1 ?_|refine z_r ?_);done)|((repeat first|exact z_0|assumption|refine z_1 ?_|refine z_l ?_);done))) (by rfl) ro_nil))), (by (first|((repeat first|exact s_0|exact s_1|exact s_3|refine s_4 ?_|refine s_5 ?_|refine s_6 ?_|refine s_7 ?_);done)|((repeat first|exact s_0|exact s_1|exact s_3|refine s_4 ?_|refine s_5 ?_|refine s_6 ?_|refine s_8 ?_);done))), ?_⟩
        exact H2 S bsh bm es cm V hfin hS hV hM
  · refine xr_op rfl rfl (xv_not rfl ?_)
    refine xr_op rfl rfl (xv_assign rfl ?_)
    refine xr_end rfl ?_
    refine th_n ?_
    refine xc_true rfl ?_
    refine xc_seq (xc_region ?_)
    refine xr_op rfl rfl (xv_s1 ty57 rfl rfl rfl (by (first|(apply u_3;(repeat first|exact u_0|assumption|apply u_1|apply u_2);done)|((repeat first|exact u_0|assumption|apply u_1|apply u_2);done)|(apply u_3;apply u_3;(repeat first|exact u_0|assumption|apply u_1|apply u_2);done)|((repeat first|exact u_0|assumption|apply u_3|apply u_1);done))) (by (first | rfl | exact Vec.one _ _)) (by (first | decide | exact Nat.le_of_ble_eq_true rfl | (simp only [List.length_cons, List.length_nil]; omega) | (simp; done))) (by ((try apply evl_some rfl);(repeat (first|exact (rfl : _ = [])|apply evl_cons rfl (by (first|exact v_1|exact v_2|exact v_3|exact v_4|exact v_5|exact v_6|exact v_7|exact v_8|exact v_9|exact rfl))|exact rfl)))) ?_)
    refine xr_op rfl rfl (xv_assign rfl ?_)
    refine xr_op rfl rfl (xv_s1 ty31 rfl rfl rfl (by (first|(apply u_3;(repeat first|exact u_0|assumption|apply u_1|apply u_2);done)|((repeat first|exact u_0|assumption|apply u_1|apply u_2);done)|(apply u_3;apply u_3;(repeat first|exact u_0|assumption|apply u_1|apply u_2);done)|((repeat first|exact u_0|assumption|apply u_3|apply u_1);done))) (by (first | rfl | exact Vec.one _ _)) (by (first | decide | exact Nat.le_of_ble_eq_true rfl | (simp only [List.length_cons, List.length_nil]; omega) | (simp; done))) (by ((try apply evl_some rfl);(repeat (first|exact (rfl : _ = [])|apply evl_cons rfl (by (first|exact v_1|exact v_2|exact v_3|exact v_4|exact v_5|exact v_6|exact v_7|exact v_8|exact v_9|exact rfl))|exact rfl)))) ?_)
    refine xr_end rfl ?_
    refine th_n ?_
    refine xc_ret ?_
    refine bk_r ?_
    refine th_r ?_
    refine ⟨_, h, (ro_cell ty57 rfl rfl (by (first|((repeat first|exact z_0|assumption|refine z_1 ?_|refine z_r ?_);done)|((repeat refine z_1 ?_);refine z_l ?_;(repeat first|exact z_0|assumption|refine z_1 ?_|refine z_r ?_);done)|((repeat refine z_1 ?_);refine z_r ?_;(repeat refine z_1 ?_);refine z_l ?_;(repeat first|exact z_0|assumption|refine z_1 ?_|refine z_r ?_);done)|((repeat first|exact z_0|assumption|refine z_1 ?_|refine z_l ?_);done))) (by rfl) (ro_tmp rfl (ro_cell ty31 rfl rfl (by (first|((repeat first|exact z_0|assumption|refine z_1 ?_|refine z_r ?_);done)|((repeat refine z_1 ?_);refine z_l ?_;(repeat first|exact z_0|assumption|refine z_1 ?_|refine z_r ?_);done)|((repeat refine z_1 ?_);refine z_r ?_;(repeat refine z_1 ?_);refine z_l ?_;(repeat first|exact z_0|assumption|refine z_1 ?_|refine z_r ?_);done)|((repeat first|exact z_0|assumption|refine z_1 ?_|refine z_l ?_);done))) (by rfl) ro_nil))), (by (first|((repeat first|exact s_0|exact s_1|exact s_3|refine s_4 ?_|refine s_5 ?_|refine s_6 ?_|refine s_7 ?_);done)|((repeat first|exact s_0|exact s_1|exact s_3|refine s_4 ?_|refine s_5 ?_|refine s_6 ?_|refine s_8 ?_);done))), ?_⟩
    first | exact H1 _ _ (by unfold play; rw [if_pos (by simpa using hgood)]) | exact H1 _ _ (by unfold play; rw [if_neg (by simpa using hgood), if_pos (by omega)])

end Go.Proofs.Ytjmailhoidenaaa
