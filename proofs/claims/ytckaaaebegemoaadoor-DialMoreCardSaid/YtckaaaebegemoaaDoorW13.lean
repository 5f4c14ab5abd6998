/-
  Walks.
-/
import Derived.Test.YtckaaaebegemoaaDoorW12
namespace Go.Proofs.YtckaaaebegemoaaDoor
open Go Go.H
set_option maxRecDepth 100000
set_option maxHeartbeats 2000000
set_option linter.all false
theorem rise_rem {l : List Card} (H : Rise l) (i : Nat) : Rise (l.take i ++ l.drop (i + 1)) :=
  List.Pairwise.sublist (by
    have h1 : List.Sublist (l.take i ++ l.drop (i + 1)) (l.take i ++ l.drop i) := List.Sublist.append (List.Sublist.refl _) (by rw [← List.drop_drop]; exact List.drop_sublist _ _)
    rwa [List.take_append_drop] at h1) H
theorem mem_rem {l : List Card} {i : Nat} {c : Card} (h : c ∈ (l.take i ++ l.drop (i + 1))) : c ∈ l := by
  rcases List.mem_append.1 h with h | h
  · exact List.mem_of_mem_take h
  · exact List.mem_of_mem_drop h

theorem Suspects_c {r : Rnd} {house : Int} {h : Hp} {R : Ending → Hp → Prop} (hv : RndV h r) (hs : Small r) (hT : TurnsV h)
    (H : ∀ V, Vec.ok V 1 (susAns r house).1.length ((susAns r house).1.flatMap eI) → R (.returned (.tuple ⟨[V.val (susAns r house).1.length, I (susAns r house).2]⟩)) (V.hp 3 ((susAns r house).1.flatMap eI) ++ h)) :
    ACalls Tryd.prog 13 ⟨[.agg ⟨eRnd r⟩, I house]⟩ h R := by
  refine calls_of_xc (N := 70) Tryd.func13 rfl (by rfl) ?_
  refine xc_seq (xc_region ?_)
  refine xr_op rfl rfl (xv_box rfl (fun b2 hb2 => ?_))
  refine xr_op rfl rfl (xv_assign rfl ?_)
  refine xr_op rfl rfl (xv_assign rfl ?_)
  refine xr_end rfl ?_
  refine th_n ?_
  refine xc_seq (xc_region ?_)
  refine xr_op rfl rfl (xv_loadA ty25 rfl rfl (by ((repeat first|exact z_0|assumption|refine z_1 ?_|(refine z_l ?_;(repeat first|exact z_0|assumption|refine z_1 ?_);done)|refine z_r ?_);done)) (by ((try apply evl_some rfl);(repeat (first|exact (rfl : _ = [])|apply evl_cons rfl (by (first|exact v_1|exact v_2|exact v_3|exact v_4|exact v_5|exact v_6|exact v_7|exact v_8|exact v_9|exact rfl))|exact rfl)))) (by rfl) ?_)
  refine xr_op rfl rfl (xv_move rfl ?_)
  refine xr_op rfl rfl (xv_calls rfl hb32 (open_c (hrs := []) (ah := none) (ch := 0) (hv.sub (by intro z hz; ((repeat first|exact z_0|assumption|refine z_1 ?_|(refine z_l ?_;(repeat first|exact z_0|assumption|refine z_1 ?_);done)|refine z_r ?_);done))) hs (hT.sub (by intro z hz; ((repeat first|exact z_0|assumption|refine z_1 ?_|(refine z_l ?_;(repeat first|exact z_0|assumption|refine z_1 ?_);done)|refine z_r ?_);done))) (.inl rfl) (by decide) (fun hgood => up_ret ?_) (fun hgood hbad => up_ret ?_) (fun hgood hho hhr hrn => up_ret ?_) (fun bw sa sc G l hgood hho hhr hrs hG hsc => up_ret ?_)))
  · refine xr_op rfl rfl (xv_move rfl ?_)
    refine xr_op rfl rfl (xv_extract rfl rfl ?_)
    refine xr_op rfl rfl (xv_extract rfl rfl ?_)
    refine xr_op rfl rfl (xv_assign rfl ?_)
    refine xr_op rfl rfl (xv_assign rfl ?_)
    refine xr_end rfl ?_
    refine th_n ?_
    refine xc_seq ?_
    refine xc_seq (xc_region ?_)
    refine xr_op rfl rfl (xv_move rfl ?_)
    refine xr_op rfl rfl (xv_neqT rfl rfl (by decide) ?_)
    refine xr_end rfl ?_
    refine th_n ?_
    refine xc_true rfl ?_
    refine xc_seq (xc_region ?_)
    refine xr_op rfl rfl (xv_move rfl ?_)
    refine xr_op rfl rfl (xv_assign rfl ?_)
    refine xr_op rfl rfl (xv_assign rfl ?_)
    refine xr_end rfl ?_
    refine th_n ?_
    refine xc_ret ?_
    refine th_r ?_
    refine body_ret (h' := h) rfl (ro_tmp rfl (ro_tmp rfl ro_nil)) (by (first|((repeat first|exact s_0|exact s_1|exact s_3|refine s_4 ?_|refine s_5 ?_|refine s_6 ?_|refine s_7 ?_);done)|((repeat first|exact s_0|exact s_1|exact s_3|refine s_4 ?_|refine s_5 ?_|refine s_6 ?_|refine s_8 ?_);done))) ?_
    first | (rw [susAns_e (start_1 hgood)] at H; exact H .nil ⟨rfl, rfl⟩) | (rw [susAns_e (start_2 hgood hbad)] at H; exact H .nil ⟨rfl, rfl⟩) | (rw [susAns_e (start_5 hgood hho hhr hrn)] at H; exact H .nil ⟨rfl, rfl⟩) | (rw [susAns_s (start_0 hgood hho hhr hrs) hps] at H; exact H .nil ⟨rfl, rfl⟩) | (rw [susAns_n (start_0 hgood hho hhr hrs) hpn] at H; dsimp only at H; exact H W hW)
  · refine xr_op rfl rfl (xv_move rfl ?_)
    refine xr_op rfl rfl (xv_extract rfl rfl ?_)
    refine xr_op rfl rfl (xv_extract rfl rfl ?_)
    refine xr_op rfl rfl (xv_assign rfl ?_)
    refine xr_op rfl rfl (xv_assign rfl ?_)
    refine xr_end rfl ?_
    refine th_n ?_
    refine xc_seq ?_
    refine xc_seq (xc_region ?_)
    refine xr_op rfl rfl (xv_move rfl ?_)
    refine xr_op rfl rfl (xv_neqT rfl rfl (by decide) ?_)
    refine xr_end rfl ?_
    refine th_n ?_
    refine xc_true rfl ?_
    refine xc_seq (xc_region ?_)
    refine xr_op rfl rfl (xv_move rfl ?_)
    refine xr_op rfl rfl (xv_assign rfl ?_)
    refine xr_op rfl rfl (xv_assign rfl ?_)
    refine xr_end rfl ?_
    refine th_n ?_
    refine xc_ret ?_
    refine th_r ?_
    refine body_ret (h' := h) rfl (ro_tmp rfl (ro_tmp rfl ro_nil)) (by (first|((repeat first|exact s_0|exact s_1|exact s_3|refine s_4 ?_|refine s_5 ?_|refine s_6 ?_|refine s_7 ?_);done)|((repeat first|exact s_0|exact s_1|exact s_3|refine s_4 ?_|refine s_5 ?_|refine s_6 ?_|refine s_8 ?_);done))) ?_
    first | (rw [susAns_e (start_1 hgood)] at H; exact H .nil ⟨rfl, rfl⟩) | (rw [susAns_e (start_2 hgood hbad)] at H; exact H .nil ⟨rfl, rfl⟩) | (rw [susAns_e (start_5 hgood hho hhr hrn)] at H; exact H .nil ⟨rfl, rfl⟩) | (rw [susAns_s (start_0 hgood hho hhr hrs) hps] at H; exact H .nil ⟨rfl, rfl⟩) | (rw [susAns_n (start_0 hgood hho hhr hrs) hpn] at H; dsimp only at H; exact H W hW)
  · refine xr_op rfl rfl (xv_move rfl ?_)
    refine xr_op rfl rfl (xv_extract rfl rfl ?_)
    refine xr_op rfl rfl (xv_extract rfl rfl ?_)
    refine xr_op rfl rfl (xv_assign rfl ?_)
    refine xr_op rfl rfl (xv_assign rfl ?_)
    refine xr_end rfl ?_
    refine th_n ?_
    refine xc_seq ?_
    refine xc_seq (xc_region ?_)
    refine xr_op rfl rfl (xv_move rfl ?_)
    refine xr_op rfl rfl (xv_neqT rfl rfl (by decide) ?_)
    refine xr_end rfl ?_
    refine th_n ?_
    refine xc_true rfl ?_
    refine xc_seq (xc_region ?_)
    refine xr_op rfl rfl (xv_move rfl ?_)
    refine xr_op rfl rfl (xv_assign rfl ?_)
    refine xr_op rfl rfl (xv_assign rfl ?_)
    refine xr_end rfl ?_
    refine th_n ?_
    refine xc_ret ?_
    refine th_r ?_
    refine body_ret (h' := h) rfl (ro_tmp rfl (ro_tmp rfl ro_nil)) (by (first|((repeat first|exact s_0|exact s_1|exact s_3|refine s_4 ?_|refine s_5 ?_|refine s_6 ?_|refine s_7 ?_);done)|((repeat first|exact s_0|exact s_1|exact s_3|refine s_4 ?_|refine s_5 ?_|refine s_6 ?_|refine s_8 ?_);done))) ?_
    first | (rw [susAns_e (start_1 hgood)] at H; exact H .nil ⟨rfl, rfl⟩) | (rw [susAns_e (start_2 hgood hbad)] at H; exact H .nil ⟨rfl, rfl⟩) | (rw [susAns_e (start_5 hgood hho hhr hrn)] at H; exact H .nil ⟨rfl, rfl⟩) | (rw [susAns_s (start_0 hgood hho hhr hrs) hps] at H; exact H .nil ⟨rfl, rfl⟩) | (rw [susAns_n (start_0 hgood hho hhr hrs) hpn] at H; dsimp only at H; exact H W hW)
  · refine xr_op rfl rfl (xv_move rfl ?_)
    refine xr_op rfl rfl (xv_extract rfl rfl ?_)
    refine xr_op rfl rfl (xv_extract rfl rfl ?_)
    refine xr_op rfl rfl (xv_assign rfl ?_)
    refine xr_op rfl rfl (xv_assign rfl ?_)
    refine xr_end rfl ?_
    refine th_n ?_
    refine xc_seq ?_
    refine xc_seq (xc_region ?_)
    refine xr_op rfl rfl (xv_move rfl ?_)
    refine xr_op rfl rfl (xv_neqF rfl rfl rfl ?_)
    refine xr_end rfl ?_
    refine th_n ?_
    refine xc_false rfl ?_
    refine xc_skip ?_
    refine th_n ?_
    refine xc_seq ?_
    refine xc_seq (xc_region ?_)
    obtain ⟨hdo, hri, hll, hro⟩ := reads_ok hgood hho hrs
    refine xr_op rfl rfl (xv_move rfl ?_)
    refine xr_op rfl rfl (xv_move rfl ?_)
    refine xr_op rfl rfl (xv_nilp rfl ?_)
    refine xr_op rfl rfl (xv_faddr fl74_1 rfl ?_)
    refine xr_op rfl rfl (xv_load1 ty72 rfl rfl (by ((repeat first|exact z_0|assumption|refine z_1 ?_|(refine z_l ?_;(repeat first|exact z_0|assumption|refine z_1 ?_);done)|refine z_r ?_);done)) (by rfl) ?_)
    refine xr_op rfl rfl (xv_calls rfl hb33 (pairs_c (d := dialAt r.dials house) (l := l) (by ((repeat first|exact z_0|assumption|refine z_1 ?_|(refine z_l ?_;(repeat first|exact z_0|assumption|refine z_1 ?_);done)|refine z_r ?_);done)) (hT.sub (by intro z hz; ((repeat first|exact z_0|assumption|refine z_1 ?_|(refine z_l ?_;(repeat first|exact z_0|assumption|refine z_1 ?_);done)|refine z_r ?_);done))) hdo (hG.sub (by intro z hz; ((repeat first|exact z_0|assumption|refine z_1 ?_|(refine z_l ?_;(repeat first|exact z_0|assumption|refine z_1 ?_);done)|refine z_r ?_);done))) hll hri hro (fun hpn => up_ret ?_) (fun out V hps hV => up_ret ?_)))
    · refine xr_op rfl rfl (xv_move rfl ?_)
      refine xr_op rfl rfl (xv_extract rfl rfl ?_)
      refine xr_op rfl rfl (xv_extract rfl rfl ?_)
      refine xr_op rfl rfl (xv_assign rfl ?_)
      refine xr_op rfl rfl (xv_assign rfl ?_)
      refine xr_end rfl ?_
      refine th_n ?_
      refine xc_seq (xc_region ?_)
      refine xr_op rfl rfl (xv_move rfl ?_)
      refine xr_end rfl ?_
      refine th_n ?_
      refine xc_false rfl ?_
      refine xc_skip ?_
      refine th_n ?_
      refine xc_seq ?_
      refine xc_seq (xc_region ?_)
      refine xr_op rfl rfl (xv_move rfl ?_)
      refine xr_op rfl rfl (xv_nilp rfl ?_)
      refine xr_op rfl rfl (xv_faddr fl74_1 rfl ?_)
      refine xr_op rfl rfl (xv_load1 ty72 rfl rfl (by ((repeat first|exact z_0|assumption|refine z_1 ?_|(refine z_l ?_;(repeat first|exact z_0|assumption|refine z_1 ?_);done)|refine z_r ?_);done)) (by rfl) ?_)
      refine xr_op rfl rfl (xv_len sl72 rfl ?_)
      refine xr_op rfl rfl (xv_move rfl ?_)
      refine xr_end rfl ?_
      refine th_n ?_
      refine xc_block ?_
      refine xc_loop (σ := Nat × Vec) (fun z => z.1 ≤ l.length ∧ z.2.ok 1 (susK (dialAt r.dials house) l z.1).length ((susK (dialAt r.dials house) l z.1).flatMap eI)) (fun z => (((((emp.put (some 6) (.pointer (some ⟨bw, 0, none⟩))).put (some 4) (z.2.val (susK (dialAt r.dials house) l z.1).length)).put (some 35) (.slice sa l.length sc)).put (some 36) (I l.length)).put (some 37) (I z.1))) (fun z => (z.2.hp 3 ((susK (dialAt r.dials house) l z.1).flatMap eI) ++ (G ++ (bw, .cells ⟨eDial (dialAt r.dials house) ++ [.slice sa l.length sc]⟩ 74) :: h))) (fun z => l.length - z.1) ((0, .nil) : Nat × Vec) ⟨Nat.zero_le _, rfl, rfl⟩ (le_put (le_put (le_put (le_put (le_put (le_emp _) rfl) rfl) rfl) rfl) rfl) (by (first|((repeat first|exact s_0|exact s_1|exact s_3|refine s_4 ?_|refine s_5 ?_|refine s_6 ?_|refine s_7 ?_);done)|((repeat first|exact s_0|exact s_1|exact s_3|refine s_4 ?_|refine s_5 ?_|refine s_6 ?_|refine s_8 ?_);done))) ?_
      rintro ⟨i, W⟩ ⟨hi, hW⟩
      dsimp only at hi hW
      refine xc_seq (xc_region ?_)
      refine xr_op rfl rfl (xv_lss2 rfl rfl (fun q1 => ?_) (fun q1 => ?_))
      · refine xr_end rfl ?_
        refine th_n ?_
        refine xc_seq ?_
        refine xc_true rfl ?_
        refine xc_skip ?_
        refine th_n ?_
        refine xc_seq ?_
        refine xc_block ?_
        refine xc_seq (xc_region ?_)
        refine xr_op rfl rfl (xv_move rfl ?_)
        have hlto : i < l.length := by (first | omega | (dsimp only at *; omega) | (simp at *; omega))
        obtain ⟨bo, oo, lo, to, fzo, hao, hmo, hxo⟩ := (hG).at hlto
        obtain ⟨xo, hko⟩ : ∃ qq_, l[i]? = some qq_ := ⟨_, List.getElem?_eq_getElem hlto⟩
        have hskl := susK_len (dialAt r.dials house) l i
        refine xr_op rfl rfl (xv_ia (sz := 3) sl72 ty78 rfl (by rw [hao]; rfl) rfl (by (first | assumption | with_reducible exact Int.toNat_natCast _ | with_reducible rfl | rfl)) (by (first | omega | (dsimp only at *; omega) | (simp at *; omega))) (by (first | omega | (dsimp only at *; omega) | (simp at *; omega))) ?_)
        refine xr_op rfl rfl (xv_loadA ty78 rfl rfl (by ((repeat first|exact z_0|assumption|refine z_1 ?_|(refine z_l ?_;(repeat first|exact z_0|assumption|refine z_1 ?_);done)|refine z_r ?_);done)) (hxo (i) xo hko) rfl ?_)
        refine xr_op rfl rfl (xv_alloc ty78 (fun b10 hb10 => ?_))
        refine xr_op rfl rfl (xv_assign rfl ?_)
        refine xr_op rfl rfl (xv_s ty78 rfl rfl (by (first|(apply u_3;(repeat first|exact u_0|assumption|apply u_1|apply u_2);done)|((repeat first|exact u_0|assumption|apply u_1|apply u_2);done)|(apply u_3;apply u_3;(repeat first|exact u_0|assumption|apply u_1|apply u_2);done)|((repeat first|exact u_0|assumption|apply u_3|apply u_1);done))) (by ((try apply evl_some rfl);(repeat (first|exact (rfl : _ = [])|apply evl_cons rfl (by (first|exact v_1|exact v_2|exact v_3|exact v_4|exact v_5|exact v_6|exact v_7|exact v_8|exact v_9|exact rfl))|exact rfl)))) (by rfl) (by rfl) (by rfl) (by ((try apply evl_some rfl);(repeat (first|exact (rfl : _ = [])|apply evl_cons rfl (by (first|exact v_1|exact v_2|exact v_3|exact v_4|exact v_5|exact v_6|exact v_7|exact v_8|exact v_9|exact rfl))|exact rfl)))) ?_)
        refine xr_end rfl ?_
        refine th_n ?_
        refine xc_seq ?_
        refine xc_draw0 [(0, .S), (1, .S), (2, .S), (3, .S), (4, .R), (5, .S), (6, .S), (7, .S), (8, .S), (9, .S), (10, .S), (11, .R), (12, .S), (13, .S), (14, .S), (15, .O), (16, .O), (17, .S), (18, .S), (19, .S), (20, .S), (21, .S)] mixed (by kernel_rfl) ?_
        refine js_S rfl rfl (.inl rfl) (xv_move rfl ⟨rfl, rfl⟩) ?_
        refine js_S rfl rfl (.inl rfl) (xv_move rfl ⟨rfl, rfl⟩) ?_
        refine js_S rfl rfl (.inl rfl) (xv_nilp rfl ⟨rfl, rfl⟩) ?_
        refine js_S rfl rfl (.inl rfl) (xv_faddr fl74_1 rfl ⟨rfl, rfl⟩) ?_
        refine js_R0 rfl rfl (.inl rfl) (xv_load1 ty72 rfl rfl (by ((repeat first|exact z_0|assumption|refine z_1 ?_|(refine z_l ?_;(repeat first|exact z_0|assumption|refine z_1 ?_);done)|refine z_r ?_);done)) (by rfl) ⟨rfl, rfl⟩) ?_
        refine js_S rfl rfl (.inl rfl) (xv_move rfl ⟨rfl, rfl⟩) ?_
        refine js_S rfl rfl (.inl rfl) (xv_move rfl ⟨rfl, rfl⟩) ?_
        refine js_S rfl rfl (.inl rfl) (xv_slice3 (m := i) sl72 ty78 rfl rfl rfl (by (first | omega | (dsimp only at *; omega) | (simp at *; omega))) (by (first | omega | (dsimp only at *; omega) | (simp at *; omega))) (by (first | assumption | with_reducible exact Int.toNat_natCast _ | with_reducible rfl | rfl)) ⟨rfl, rfl⟩) ?_
        refine js_S rfl rfl (.inl rfl) (xv_move rfl ⟨rfl, rfl⟩) ?_
        refine js_S rfl rfl (.inl rfl) (xv_nilp rfl ⟨rfl, rfl⟩) ?_
        refine js_S rfl rfl (.inl rfl) (xv_faddr fl74_1 rfl ⟨rfl, rfl⟩) ?_
        refine js_R0 rfl rfl (.inl rfl) (xv_load1 ty72 rfl rfl (by ((repeat first|exact z_0|assumption|refine z_1 ?_|(refine z_l ?_;(repeat first|exact z_0|assumption|refine z_1 ?_);done)|refine z_r ?_);done)) (by rfl) ⟨rfl, rfl⟩) ?_
        refine js_S rfl rfl (.inl rfl) (xv_move rfl ⟨rfl, rfl⟩) ?_
        refine js_S rfl rfl (.inl rfl) (xv_add rfl rfl (wrap_i64 (by (first | omega | (dsimp only at *; omega) | (simp at *; omega))) (by (first | omega | (dsimp only at *; omega) | (simp at *; omega)))) ⟨rfl, rfl⟩) ?_
        refine js_S rfl rfl (.inl rfl) (xv_sliceFrom (m := i + 1) sl72 ty78 rfl rfl rfl (by (first | omega | (dsimp only at *; omega) | (simp at *; omega))) (by (first | omega | (dsimp only at *; omega) | (simp at *; omega))) (by (first | omega | (dsimp only at *; omega) | (simp at *; omega))) ⟨rfl, rfl⟩) ?_
        refine js_O0 rfl rfl (.inl rfl) (xv_appendNL (l := l.take i) (ys := l.drop (i + 1)) sl72 ty78 rfl rfl (by rw [List.length_take]; omega) rfl rfl (by rw [List.length_drop]) ((hG.take i).sub (by intro z hz; ((repeat first|exact z_0|assumption|refine z_1 ?_|(refine z_l ?_;(repeat first|exact z_0|assumption|refine z_1 ?_);done)|refine z_r ?_);done))) (slv_dropA (hG.sub (by intro z hz; ((repeat first|exact z_0|assumption|refine z_1 ?_|(refine z_l ?_;(repeat first|exact z_0|assumption|refine z_1 ?_);done)|refine z_r ?_);done))) hsc) eCard_len eCard_1 (by rw [List.length_take, List.length_drop]; simp only []; omega) (by rw [List.length_take, List.length_drop]; omega) (fun a2 c2 G2 ha2 hc2 => ?_))
        refine js_O0 rfl rfl (.inl rfl) (xv_calls rfl hb33 (pairs_c (d := dialAt r.dials house) (l := (l.take i ++ l.drop (i + 1))) (by ((repeat first|exact z_0|assumption|refine z_1 ?_|(refine z_l ?_;(repeat first|exact z_0|assumption|refine z_1 ?_);done)|refine z_r ?_);done)) (hT.sub (by intro z hz; ((repeat first|exact z_0|assumption|refine z_1 ?_|(refine z_l ?_;(repeat first|exact z_0|assumption|refine z_1 ?_);done)|refine z_r ?_);done))) hdo (ha2.sub (by intro z hz; ((repeat first|exact z_0|assumption|refine z_1 ?_|(refine z_l ?_;(repeat first|exact z_0|assumption|refine z_1 ?_);done)|refine z_r ?_);done))) (by rw [List.length_append, List.length_take, List.length_drop]; omega) (rise_rem hri i) (fun c hc => hro c (mem_rem hc)) (fun hqn => up_ret ?_) (fun out2 V9 hqs hV9 => up_ret ?_)))
        · refine js_S rfl rfl (.inl rfl) (xv_move rfl ⟨rfl, rfl⟩) ?_
          refine js_S rfl rfl (.inl rfl) (xv_extract rfl rfl ⟨rfl, rfl⟩) ?_
          refine js_S rfl rfl (.inl rfl) (xv_extract rfl rfl ⟨rfl, rfl⟩) ?_
          refine js_S rfl rfl (.inl rfl) (xv_assign rfl ⟨rfl, rfl⟩) ?_
          refine js_S rfl rfl (.inl rfl) (xv_assign rfl ⟨rfl, rfl⟩) ?_
          refine j_end0 ?_
          refine th_n ?_
          refine xc_seq (xc_region ?_)
          refine xr_op rfl rfl (xv_move rfl ?_)
          refine xr_end rfl ?_
          refine th_n ?_
          refine xc_false rfl ?_
          refine xc_skip ?_
          refine bk_n ?_
          refine th_n ?_
          refine xc_region ?_
          refine xr_op rfl rfl (xv_add rfl rfl (wrap_i64 (by (first | omega | (dsimp only at *; omega) | (simp at *; omega))) (by (first | omega | (dsimp only at *; omega) | (simp at *; omega)))) ?_)
          refine xr_op rfl rfl (xv_move rfl ?_)
          refine xr_end rfl ?_
          have hsk : (susK (dialAt r.dials house) l (i + 1)) = (susK (dialAt r.dials house) l i) := by rw [susK_succ hko, hqn]; rfl
          exact rnd ((i + 1, W) : Nat × Vec) ⟨by (first | omega | (dsimp only at *; omega) | (simp at *; omega)), by dsimp only; rw [hsk]; exact hW⟩ (by (first | omega | (dsimp only at *; omega) | (simp at *; omega))) (le_put (le_put (le_put (le_put (le_put (le_emp _) rfl) (by dsimp only; rw [hsk]; first | rfl | (rw [show ((susK (dialAt r.dials house) l i) ++ [xo.hour]).length = (susK (dialAt r.dials house) l i).length + 1 from List.length_append]; rfl))) rfl) rfl) rfl) (by dsimp only; rw [hsk]; (first|((repeat first|exact s_0|exact s_1|exact s_3|refine s_4 ?_|refine s_5 ?_|refine s_6 ?_|refine s_7 ?_);done)|((repeat first|exact s_0|exact s_1|exact s_3|refine s_4 ?_|refine s_5 ?_|refine s_6 ?_|refine s_8 ?_);done)))
        · refine js_S rfl rfl (.inl rfl) (xv_move rfl ⟨rfl, rfl⟩) ?_
          refine js_S rfl rfl (.inl rfl) (xv_extract rfl rfl ⟨rfl, rfl⟩) ?_
          refine js_S rfl rfl (.inl rfl) (xv_extract rfl rfl ⟨rfl, rfl⟩) ?_
          refine js_S rfl rfl (.inl rfl) (xv_assign rfl ⟨rfl, rfl⟩) ?_
          refine js_S rfl rfl (.inl rfl) (xv_assign rfl ⟨rfl, rfl⟩) ?_
          refine j_end0 ?_
          refine th_n ?_
          refine xc_seq (xc_region ?_)
          refine xr_op rfl rfl (xv_move rfl ?_)
          refine xr_end rfl ?_
          refine th_n ?_
          refine xc_true rfl ?_
          refine xc_region ?_
          refine xr_op rfl rfl (xv_move rfl ?_)
          refine xr_op rfl rfl (xv_faddr fl78_1 rfl ?_)
          refine xr_op rfl rfl (xv_load1 ty3 rfl rfl (by ((repeat first|exact z_0|assumption|refine z_1 ?_|(refine z_l ?_;(repeat first|exact z_0|assumption|refine z_1 ?_);done)|refine z_r ?_);done)) (by rfl) ?_)
          refine xr_op rfl rfl ((al_buildSlice sl32 ty3 rfl rfl rfl rfl rfl (by ((try apply evl_some rfl);(repeat (first|exact (rfl : _ = [])|apply evl_cons rfl (by (first|exact v_1|exact v_2|exact v_3|exact v_4|exact v_5|exact v_6|exact v_7|exact v_8|exact v_9|exact rfl))|exact rfl))))).xv (fun b3 hb3 => ?_))
          refine xr_op rfl rfl (xv_append (V := W) (n := (susK (dialAt r.dials house) l i).length) (xs := (susK (dialAt r.dials house) l i).flatMap eI) sl32 ty3 rfl rfl rfl hW (.there (.skip (.skip (.there .here)))) (by ((repeat first|exact z_0|assumption|refine z_1 ?_|(refine z_l ?_;(repeat first|exact z_0|assumption|refine z_1 ?_);done)|refine z_r ?_);done)) (by ((try apply evl_some rfl);(repeat (first|exact (rfl : _ = [])|apply evl_cons rfl (by (first|exact v_1|exact v_2|exact v_3|exact v_4|exact v_5|exact v_6|exact v_7|exact v_8|exact v_9|exact rfl))|exact rfl)))) rfl rfl (by (first | omega | (dsimp only at *; omega) | (simp at *; omega))) (by simp only []; (first | omega | (dsimp only at *; omega) | (simp at *; omega))) (by (first | omega | (dsimp only at *; omega) | (simp at *; omega))) (fun W2 hW2 => ?_))
          refine xr_op rfl rfl (xv_assign rfl ?_)
          refine xr_end rfl ?_
          refine bk_n ?_
          refine th_n ?_
          refine xc_region ?_
          refine xr_op rfl rfl (xv_add rfl rfl (wrap_i64 (by (first | omega | (dsimp only at *; omega) | (simp at *; omega))) (by (first | omega | (dsimp only at *; omega) | (simp at *; omega)))) ?_)
          refine xr_op rfl rfl (xv_move rfl ?_)
          refine xr_end rfl ?_
          have hsk : (susK (dialAt r.dials house) l (i + 1)) = (susK (dialAt r.dials house) l i) ++ [xo.hour] := by rw [susK_succ hko, hqs]; rfl
          exact rnd ((i + 1, W2) : Nat × Vec) ⟨by (first | omega | (dsimp only at *; omega) | (simp at *; omega)), by dsimp only; rw [hsk]; simpa [eI] using hW2⟩ (by (first | omega | (dsimp only at *; omega) | (simp at *; omega))) (le_put (le_put (le_put (le_put (le_put (le_emp _) rfl) (by dsimp only; rw [hsk]; first | rfl | (rw [show ((susK (dialAt r.dials house) l i) ++ [xo.hour]).length = (susK (dialAt r.dials house) l i).length + 1 from List.length_append]; rfl))) rfl) rfl) rfl) (by dsimp only; rw [hsk]; simp only [List.flatMap_append, List.flatMap_cons, List.flatMap_nil, List.append_nil]; (first|((repeat first|exact s_0|exact s_1|exact s_3|refine s_4 ?_|refine s_5 ?_|refine s_6 ?_|refine s_7 ?_);done)|((repeat first|exact s_0|exact s_1|exact s_3|refine s_4 ?_|refine s_5 ?_|refine s_6 ?_|refine s_8 ?_);done)))
      · refine xr_end rfl ?_
        refine th_n ?_
        refine xc_seq ?_
        refine xc_false rfl ?_
        refine xc_exit ?_
        refine th_x ?_
        refine th_x ?_
        refine bk_same ?_
        refine th_n ?_
        refine xc_seq (xc_region ?_)
        obtain rfl : i = l.length := by (first | omega | (dsimp only at *; omega) | (simp at *; omega))
        refine xr_op rfl rfl (xv_move rfl ?_)
        refine xr_op rfl rfl (xv_assign rfl ?_)
        refine xr_op rfl rfl (xv_assign rfl ?_)
        refine xr_end rfl ?_
        refine th_n ?_
        refine xc_ret ?_
        refine body_ret (h' := (W.hp 3 ((susK (dialAt r.dials house) l l.length).flatMap eI) ++ h)) rfl (ro_tmp rfl (ro_tmp rfl ro_nil)) (by (first|((repeat first|exact s_0|exact s_1|exact s_3|refine s_4 ?_|refine s_5 ?_|refine s_6 ?_|refine s_7 ?_);done)|((repeat first|exact s_0|exact s_1|exact s_3|refine s_4 ?_|refine s_5 ?_|refine s_6 ?_|refine s_8 ?_);done))) ?_
        first | (rw [susAns_e (start_1 hgood)] at H; exact H .nil ⟨rfl, rfl⟩) | (rw [susAns_e (start_2 hgood hbad)] at H; exact H .nil ⟨rfl, rfl⟩) | (rw [susAns_e (start_5 hgood hho hhr hrn)] at H; exact H .nil ⟨rfl, rfl⟩) | (rw [susAns_s (start_0 hgood hho hhr hrs) hps] at H; exact H .nil ⟨rfl, rfl⟩) | (rw [susAns_n (start_0 hgood hho hhr hrs) hpn] at H; dsimp only at H; exact H W hW)
    · refine xr_op rfl rfl (xv_move rfl ?_)
      refine xr_op rfl rfl (xv_extract rfl rfl ?_)
      refine xr_op rfl rfl (xv_extract rfl rfl ?_)
      refine xr_op rfl rfl (xv_assign rfl ?_)
      refine xr_op rfl rfl (xv_assign rfl ?_)
      refine xr_end rfl ?_
      refine th_n ?_
      refine xc_seq (xc_region ?_)
      refine xr_op rfl rfl (xv_move rfl ?_)
      refine xr_end rfl ?_
      refine th_n ?_
      refine xc_true rfl ?_
      refine xc_seq (xc_region ?_)
      refine xr_op rfl rfl (xv_assign rfl ?_)
      refine xr_op rfl rfl (xv_assign rfl ?_)
      refine xr_end rfl ?_
      refine th_n ?_
      refine xc_ret ?_
      refine th_r ?_
      refine body_ret (h' := h) rfl (ro_tmp rfl (ro_tmp rfl ro_nil)) (by (first|((repeat first|exact s_0|exact s_1|exact s_3|refine s_4 ?_|refine s_5 ?_|refine s_6 ?_|refine s_7 ?_);done)|((repeat first|exact s_0|exact s_1|exact s_3|refine s_4 ?_|refine s_5 ?_|refine s_6 ?_|refine s_8 ?_);done))) ?_
      first | (rw [susAns_e (start_1 hgood)] at H; exact H .nil ⟨rfl, rfl⟩) | (rw [susAns_e (start_2 hgood hbad)] at H; exact H .nil ⟨rfl, rfl⟩) | (rw [susAns_e (start_5 hgood hho hhr hrn)] at H; exact H .nil ⟨rfl, rfl⟩) | (rw [susAns_s (start_0 hgood hho hhr hrs) hps] at H; exact H .nil ⟨rfl, rfl⟩) | (rw [susAns_n (start_0 hgood hho hhr hrs) hpn] at H; dsimp only at H; exact H W hW)

end Go.Proofs.YtckaaaebegemoaaDoor
