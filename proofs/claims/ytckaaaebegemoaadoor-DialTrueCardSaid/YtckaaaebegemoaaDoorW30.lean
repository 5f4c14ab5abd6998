/-
  Walks.
-/
import Derived.Test.YtckaaaebegemoaaDoorW29
namespace Go.Proofs.YtckaaaebegemoaaDoor
open Go Go.H
set_option maxRecDepth 100000
set_option maxHeartbeats 2000000
set_option linter.all false
theorem DialTrue_c {d : Dial} {bs : List Int} {nb nf nt : Nat} {ab : Option Addr} {cb : Nat} {h : Hp} {R : Ending → Hp → Prop} (hb : SlV h 1 eH ab bs) (hbv : ∀ x ∈ bs, 0 ≤ x ∧ x ≤ 65535) (hnb : nb ≤ 65535) (hnf : nf ≤ 255) (hnt : nt ≤ 255) (hT : TurnsV h) (H : R (.returned (.bool true)) h) :
    ACalls Tryd.prog 5 ⟨[.agg ⟨eDial d⟩, .slice ab bs.length cb, .int .u16 nb, .int .u8 nf, .int .u8 nt]⟩ h R := by
  refine calls_of_xc (N := 188) Tryd.func5 rfl (by rfl) ?_
  refine xc_seq (xc_region ?_)
  refine xr_op rfl rfl (xv_box rfl (fun b5 hb5 => ?_))
  refine xr_op rfl rfl (xv_assign rfl ?_)
  refine xr_end rfl ?_
  refine th_n ?_
  refine xc_seq ?_
  refine xc_seq (xc_region ?_)
  refine xr_op rfl rfl (xv_move rfl ?_)
  refine xr_op rfl rfl (xv_len sl46 rfl ?_)
  refine xr_op rfl rfl (xv_eql2 rfl rfl (fun q1 => ?_) (fun q1 => ?_))
  · refine xr_op rfl rfl (xv_move rfl ?_)
    refine xr_no rfl rfl rfl rfl ?_
    refine xr_no rfl rfl rfl rfl ?_
    refine xr_no rfl rfl rfl rfl ?_
    refine xr_op rfl rfl (xv_pick rfl rfl ?_)
    refine xr_op rfl rfl (xv_move rfl ?_)
    refine xr_no rfl rfl rfl rfl ?_
    refine xr_no rfl rfl rfl rfl ?_
    refine xr_no rfl rfl rfl rfl ?_
    refine xr_op rfl rfl (xv_pick rfl rfl ?_)
    refine xr_end rfl ?_
    refine th_n ?_
    refine xc_true rfl ?_
    refine xc_seq (xc_region ?_)
    refine xr_op rfl rfl (xv_calls rfl hb10 (awake_c (hT.sub (by intro z hz; ((repeat first|exact z_0|assumption|refine z_1 ?_|(refine z_l ?_;(repeat first|exact z_0|assumption|refine z_1 ?_);done)|refine z_r ?_);done))) (up_ret ?_)))
    refine xr_op rfl rfl (xv_assign rfl ?_)
    refine xr_end rfl ?_
    refine th_n ?_
    refine xc_ret ?_
    refine th_r ?_
    refine body_ret (h' := h) rfl (ro_tmp rfl ro_nil) (by (first|((repeat first|exact s_0|exact s_1|exact s_3|refine s_4 ?_|refine s_5 ?_|refine s_6 ?_|refine s_7 ?_);done)|((repeat first|exact s_0|exact s_1|exact s_3|refine s_4 ?_|refine s_5 ?_|refine s_6 ?_|refine s_8 ?_);done))) ?_
    exact H
  · refine xr_op rfl rfl (xv_move rfl ?_)
    refine xr_gd rfl rfl rfl (xv_move rfl ?_)
    refine xr_gd rfl rfl rfl (xv_len sl46 rfl ?_)
    refine xr_gd rfl rfl rfl (xv_gtr2 rfl rfl (fun q2 => ?_) (fun q2 => ?_))
    · refine xr_op rfl rfl (xv_pick rfl rfl ?_)
      refine xr_op rfl rfl (xv_move rfl ?_)
      refine xr_no rfl rfl rfl rfl ?_
      refine xr_no rfl rfl rfl rfl ?_
      refine xr_no rfl rfl rfl rfl ?_
      refine xr_op rfl rfl (xv_pick rfl rfl ?_)
      refine xr_end rfl ?_
      refine th_n ?_
      refine xc_true rfl ?_
      refine xc_seq (xc_region ?_)
      refine xr_op rfl rfl (xv_calls rfl hb10 (awake_c (hT.sub (by intro z hz; ((repeat first|exact z_0|assumption|refine z_1 ?_|(refine z_l ?_;(repeat first|exact z_0|assumption|refine z_1 ?_);done)|refine z_r ?_);done))) (up_ret ?_)))
      refine xr_op rfl rfl (xv_assign rfl ?_)
      refine xr_end rfl ?_
      refine th_n ?_
      refine xc_ret ?_
      refine th_r ?_
      refine body_ret (h' := h) rfl (ro_tmp rfl ro_nil) (by (first|((repeat first|exact s_0|exact s_1|exact s_3|refine s_4 ?_|refine s_5 ?_|refine s_6 ?_|refine s_7 ?_);done)|((repeat first|exact s_0|exact s_1|exact s_3|refine s_4 ?_|refine s_5 ?_|refine s_6 ?_|refine s_8 ?_);done))) ?_
      exact H
    · refine xr_op rfl rfl (xv_pick rfl rfl ?_)
      refine xr_op rfl rfl (xv_move rfl ?_)
      refine xr_gd rfl rfl rfl (xv_loadA ty45 rfl rfl (by ((repeat first|exact z_0|assumption|refine z_1 ?_|(refine z_l ?_;(repeat first|exact z_0|assumption|refine z_1 ?_);done)|refine z_r ?_);done)) (by ((try apply evl_some rfl);(repeat (first|exact (rfl : _ = [])|apply evl_cons rfl (by (first|exact v_1|exact v_2|exact v_3|exact v_4|exact v_5|exact v_6|exact v_7|exact v_8|exact v_9|exact rfl))|exact rfl)))) (by rfl) ?_)
      refine xr_gd rfl rfl rfl (xv_calls rfl hb21 (fit_c (fun hd => up_ret ?_) (fun hnd => up_ret ?_)))
      · refine xr_gd rfl rfl rfl (xv_not rfl ?_)
        refine xr_op rfl rfl (xv_pick rfl rfl ?_)
        refine xr_end rfl ?_
        refine th_n ?_
        refine xc_false rfl ?_
        refine xc_skip ?_
        refine th_n ?_
        refine xc_seq (xc_region ?_)
        refine xr_op rfl rfl (xv_loadA ty45 rfl rfl (by ((repeat first|exact z_0|assumption|refine z_1 ?_|(refine z_l ?_;(repeat first|exact z_0|assumption|refine z_1 ?_);done)|refine z_r ?_);done)) (by ((try apply evl_some rfl);(repeat (first|exact (rfl : _ = [])|apply evl_cons rfl (by (first|exact v_1|exact v_2|exact v_3|exact v_4|exact v_5|exact v_6|exact v_7|exact v_8|exact v_9|exact rfl))|exact rfl)))) (by rfl) ?_)
        refine xr_op rfl rfl (xv_move rfl ?_)
        refine xr_op rfl rfl (xv_calls rfl hb22 (truth_c (n := 160) hd (Nat.le_refl _) (hb.sub (by intro z hz; ((repeat first|exact z_0|assumption|refine z_1 ?_|(refine z_l ?_;(repeat first|exact z_0|assumption|refine z_1 ?_);done)|refine z_r ?_);done))) (by omega) (by omega) hbv (fun G ga gc qg hgl hgi sg => up_ret ?_)))
        refine xr_op rfl rfl (xv_assign rfl ?_)
        refine xr_end rfl ?_
        refine th_n ?_
        refine xc_seq (xc_region ?_)
        refine xr_op rfl rfl (xv_move rfl ?_)
        refine xr_op rfl rfl (xv_calls rfl hb23 (hours_c (by omega) (by omega) (hb.sub (by intro z hz; ((repeat first|exact z_0|assumption|refine z_1 ?_|(refine z_l ?_;(repeat first|exact z_0|assumption|refine z_1 ?_);done)|refine z_r ?_);done))) (by omega) hbv (fun at_ aa ac qa hal hup hin sa => up_ret ?_)))
        refine xr_op rfl rfl (xv_assign rfl ?_)
        refine xr_end rfl ?_
        refine th_n ?_
        refine xc_seq ?_
        refine xc_drawL (L := [(b5, fun o => o = .cells ⟨eDial d⟩ 45 (0, 0))]) [(0, .S), (1, .S), (2, .P), (3, .R), (4, .S), (5, .S), (6, .S), (7, .S), (8, .S), (11, .P), (9, .O), (2, .A), (10, .S), (11, .A), (12, .O)] [] _ mixed (by kernel_rfl) (by rw [List.append_nil]) (holds1 (by ((repeat first|exact z_0|assumption|refine z_1 ?_|(refine z_l ?_;(repeat first|exact z_0|assumption|refine z_1 ?_);done)|refine z_r ?_);done)) rfl) ?_
        have hin2 : ∀ x ∈ at_, 0 ≤ x ∧ x ≤ G.length := fun x hx => by have := hin x hx; omega
        refine js_S rfl rfl (.inl rfl) (xv_build bt45 rfl (by ((try apply evl_some rfl);(repeat (first|exact (rfl : _ = [])|apply evl_cons rfl (by (first|exact v_1|exact v_2|exact v_3|exact v_4|exact v_5|exact v_6|exact v_7|exact v_8|exact v_9|exact rfl))|exact rfl)))) ⟨rfl, rfl⟩) ?_
        refine js_I rfl rfl (.inl rfl) (fun hh hv => by obtain ⟨o9, hm, rfl⟩ := hv b5 _ List.mem_cons_self; exact xv_loadA ty45 rfl rfl (List.mem_append_left _ hm) (by ((try apply evl_some rfl);(repeat (first|exact (rfl : _ = [])|apply evl_cons rfl (by (first|exact v_1|exact v_2|exact v_3|exact v_4|exact v_5|exact v_6|exact v_7|exact v_8|exact v_9|exact rfl))|exact rfl)))) (by rfl) ⟨rfl, rfl⟩) ?_
        refine js_P rfl rfl rfl (al_buildSlice sl22 ty45 rfl rfl rfl rfl rfl (by ((try apply evl_some rfl);(repeat (first|exact (rfl : _ = [])|apply evl_cons rfl (by (first|exact v_1|exact v_2|exact v_3|exact v_4|exact v_5|exact v_6|exact v_7|exact v_8|exact v_9|exact rfl))|exact rfl))))) ?_
        refine js_R0 rfl rfl (.inl rfl) (xv_loadA ty45 rfl rfl (by ((repeat first|exact z_0|assumption|refine z_1 ?_|(refine z_l ?_;(repeat first|exact z_0|assumption|refine z_1 ?_);done)|refine z_r ?_);done)) (by ((try apply evl_some rfl);(repeat (first|exact (rfl : _ = [])|apply evl_cons rfl (by (first|exact v_1|exact v_2|exact v_3|exact v_4|exact v_5|exact v_6|exact v_7|exact v_8|exact v_9|exact rfl))|exact rfl)))) (by rfl) ⟨rfl, rfl⟩) ?_
        refine js_S rfl rfl (.inl rfl) (xv_move rfl ⟨rfl, rfl⟩) ?_
        refine js_S rfl rfl (.inl rfl) (xv_move rfl ⟨rfl, rfl⟩) ?_
        refine js_S rfl rfl (.inl rfl) (xv_move rfl ⟨rfl, rfl⟩) ?_
        refine js_S rfl rfl (.inl rfl) (xv_convI Tryd.underlying47 Tryd.underlying3 rfl (wrap_i64 (by (first | omega | (dsimp only at *; omega) | (simp at *; omega))) (by (first | omega | (dsimp only at *; omega) | (simp at *; omega)))) ⟨rfl, rfl⟩) ?_
        refine js_S rfl rfl (.inl rfl) (xv_move rfl ⟨rfl, rfl⟩) ?_
        refine js_P rfl rfl rfl (al_alloc ty25) ?_
        refine js_OL0 rfl rfl (.inl rfl) (xv_calls rfl hb24 (shown_c hd hgi (by omega) (sg.sub (by intro z hz; ((repeat first|exact z_0|assumption|refine z_1 ?_|(refine z_l ?_;(repeat first|exact z_0|assumption|refine z_1 ?_);done)|refine z_r ?_);done))) (sa.sub (by intro z hz; ((repeat first|exact z_0|assumption|refine z_1 ?_|(refine z_l ?_;(repeat first|exact z_0|assumption|refine z_1 ?_);done)|refine z_r ?_);done))) hup hin2 (by omega) (by omega) (by omega) (hb.sub (by intro z hz; ((repeat first|exact z_0|assumption|refine z_1 ?_|(refine z_l ?_;(repeat first|exact z_0|assumption|refine z_1 ?_);done)|refine z_r ?_);done))) (by omega) hbv (fun cs ca cc qc hsh sc => up_ret ?_)))
        refine ⟨holds1 (by ((repeat first|exact z_0|assumption|refine z_1 ?_|(refine z_l ?_;(repeat first|exact z_0|assumption|refine z_1 ?_);done)|refine z_r ?_);done)) rfl, ?_⟩
        refine js_A0 rfl rfl rfl rfl rfl ⟨rfl, rfl, trivial⟩ (fun bD hbD => ?_)
        refine js_S rfl rfl (.inl rfl) (xv_build bt25 rfl (by ((try apply evl_some rfl);(repeat (first|exact (rfl : _ = [])|apply evl_cons rfl (by (first|exact v_1|exact v_2|exact v_3|exact v_4|exact v_5|exact v_6|exact v_7|exact v_8|exact v_9|exact rfl))|exact rfl)))) ⟨rfl, rfl⟩) ?_
        refine js_A0 rfl rfl rfl rfl rfl trivial (fun bR hbR => ?_)
        refine js_OL0 rfl rfl (.inl rfl) (xv_s ty25 rfl rfl (by (first|(apply u_3;(repeat first|exact u_0|assumption|apply u_1|apply u_2);done)|((repeat first|exact u_0|assumption|apply u_1|apply u_2);done)|(apply u_3;apply u_3;(repeat first|exact u_0|assumption|apply u_1|apply u_2);done)|((repeat first|exact u_0|assumption|apply u_3|apply u_1);done))) (by ((try apply evl_some rfl);(repeat (first|exact (rfl : _ = [])|apply evl_cons rfl (by (first|exact v_1|exact v_2|exact v_3|exact v_4|exact v_5|exact v_6|exact v_7|exact v_8|exact v_9|exact rfl))|exact rfl)))) (by rfl) (by rfl) (by rfl) (by ((try apply evl_some rfl);(repeat (first|exact (rfl : _ = [])|apply evl_cons rfl (by (first|exact v_1|exact v_2|exact v_3|exact v_4|exact v_5|exact v_6|exact v_7|exact v_8|exact v_9|exact rfl))|exact rfl)))) ?_)
        refine ⟨holds1 (by ((repeat first|exact z_0|assumption|refine z_1 ?_|(refine z_l ?_;(repeat first|exact z_0|assumption|refine z_1 ?_);done)|refine z_r ?_);done)) rfl, ?_⟩
        refine j_end0 ?_
        refine th_n ?_
        refine xc_seq (xc_region ?_)
        have hTR : TR (rTwo bD d ca cc cs) 1 d G at_ := two_tr hd hgi (by omega) hup hin2 (by omega) hsh
        obtain ⟨out, hout, hol, hfit⟩ := hTR.pairs
        have hcl : cs.length = at_.length := hsh.len
        have hol : out.length = cs.length - 1 := hol
        have hfit : ∀ (i : Nat) (a b : Card) (s : Span), cs[i]? = some a → cs[i + 1]? = some b → out[i]? = some s → btw d a b = some s ∧ s.lo ≤ SG G a.hour b.hour ∧ SG G a.hour b.hour ≤ s.hi := hfit
        obtain ⟨g1, g2, g3, g4, g5⟩ := id hd
        have htb := turn_bd g1 g2
        refine xr_op rfl rfl (xv_loadA ty25 rfl rfl (by ((repeat first|exact z_0|assumption|refine z_1 ?_|(refine z_l ?_;(repeat first|exact z_0|assumption|refine z_1 ?_);done)|refine z_r ?_);done)) (by ((try apply evl_some rfl);(repeat (first|exact (rfl : _ = [])|apply evl_cons rfl (by (first|exact v_1|exact v_2|exact v_3|exact v_4|exact v_5|exact v_6|exact v_7|exact v_8|exact v_9|exact rfl))|exact rfl)))) (by rfl) ?_)
        refine xr_op rfl rfl (xv_calls rfl hb11 (PairsE_c (r := (rTwo bD d ca cc cs)) (two_v (by ((repeat first|exact z_0|assumption|refine z_1 ?_|(refine z_l ?_;(repeat first|exact z_0|assumption|refine z_1 ?_);done)|refine z_r ?_);done)) (sc.sub (by intro z hz; ((repeat first|exact z_0|assumption|refine z_1 ?_|(refine z_l ?_;(repeat first|exact z_0|assumption|refine z_1 ?_);done)|refine z_r ?_);done)))) (two_s (by omega)) (hT.sub (by intro z hz; ((repeat first|exact z_0|assumption|refine z_1 ?_|(refine z_l ?_;(repeat first|exact z_0|assumption|refine z_1 ?_);done)|refine z_r ?_);done))) (hTR.pairsA hout) (fun oa oc qo so => up_ret ?_)))
        refine xr_op rfl rfl (xv_move rfl ?_)
        refine xr_op rfl rfl (xv_extract rfl rfl ?_)
        refine xr_op rfl rfl (xv_extract rfl rfl ?_)
        refine xr_op rfl rfl (xv_assign rfl ?_)
        refine xr_op rfl rfl (xv_assign rfl ?_)
        refine xr_end rfl ?_
        refine th_n ?_
        refine xc_seq (xc_region ?_)
        refine xr_op rfl rfl (xv_loadA ty25 rfl rfl (by ((repeat first|exact z_0|assumption|refine z_1 ?_|(refine z_l ?_;(repeat first|exact z_0|assumption|refine z_1 ?_);done)|refine z_r ?_);done)) (by ((try apply evl_some rfl);(repeat (first|exact (rfl : _ = [])|apply evl_cons rfl (by (first|exact v_1|exact v_2|exact v_3|exact v_4|exact v_5|exact v_6|exact v_7|exact v_8|exact v_9|exact rfl))|exact rfl)))) (by rfl) ?_)
        refine xr_op rfl rfl (xv_calls rfl hb13 (SusE_c (r := (rTwo bD d ca cc cs)) (two_v (by ((repeat first|exact z_0|assumption|refine z_1 ?_|(refine z_l ?_;(repeat first|exact z_0|assumption|refine z_1 ?_);done)|refine z_r ?_);done)) (sc.sub (by intro z hz; ((repeat first|exact z_0|assumption|refine z_1 ?_|(refine z_l ?_;(repeat first|exact z_0|assumption|refine z_1 ?_);done)|refine z_r ?_);done)))) (two_s (by omega)) (hT.sub (by intro z hz; ((repeat first|exact z_0|assumption|refine z_1 ?_|(refine z_l ?_;(repeat first|exact z_0|assumption|refine z_1 ?_);done)|refine z_r ?_);done))) (hTR.susA hout) (fun za zc qz sz => up_ret ?_)))
        refine xr_op rfl rfl (xv_move rfl ?_)
        refine xr_op rfl rfl (xv_extract rfl rfl ?_)
        refine xr_op rfl rfl (xv_extract rfl rfl ?_)
        refine xr_op rfl rfl (xv_assign rfl ?_)
        refine xr_op rfl rfl (xv_assign rfl ?_)
        refine xr_end rfl ?_
        refine th_n ?_
        refine xc_seq ?_
        refine xc_seq (xc_region ?_)
        refine xr_op rfl rfl (xv_move rfl ?_)
        refine xr_op rfl rfl (xv_neqF rfl rfl rfl ?_)
        refine xr_op rfl rfl (xv_move rfl ?_)
        refine xr_gd rfl rfl rfl (xv_move rfl ?_)
        refine xr_gd rfl rfl rfl (xv_neqF rfl rfl rfl ?_)
        refine xr_op rfl rfl (xv_pick rfl rfl ?_)
        refine xr_op rfl rfl (xv_move rfl ?_)
        refine xr_gd rfl rfl rfl (xv_move rfl ?_)
        refine xr_gd rfl rfl rfl (xv_len sl32 rfl ?_)
        refine xr_gd rfl rfl rfl (xv_neqF rfl rfl rfl ?_)
        refine xr_op rfl rfl (xv_pick rfl rfl ?_)
        refine xr_op rfl rfl (xv_move rfl ?_)
        refine xr_gd rfl rfl rfl (xv_move rfl ?_)
        refine xr_gd rfl rfl rfl (xv_len sl28 rfl ?_)
        refine xr_gd rfl rfl rfl (xv_move rfl ?_)
        refine xr_gd rfl rfl rfl (xv_len sl32 rfl ?_)
        refine xr_gd rfl rfl rfl (xv_sub rfl rfl (wrap_i64 (by (first | omega | (dsimp only at *; omega) | (simp at *; omega))) (by (first | omega | (dsimp only at *; omega) | (simp at *; omega)))) ?_)
        refine xr_gd rfl rfl rfl (xv_max rfl rfl rfl ?_)
        refine xr_gd rfl rfl rfl (xv_neqF rfl rfl (by (first | omega | (dsimp only at *; omega) | (simp at *; omega))) ?_)
        refine xr_op rfl rfl (xv_pick rfl rfl ?_)
        refine xr_end rfl ?_
        refine th_n ?_
        refine xc_false rfl ?_
        refine xc_skip ?_
        refine th_n ?_
        refine xc_seq ?_
        refine xc_seq (xc_region ?_)
        refine xr_op rfl rfl (xv_assign rfl ?_)
        refine xr_end rfl ?_
        refine th_n ?_
        refine xc_block ?_
        refine xc_loop (σ := Nat) (fun i => i ≤ out.length) (fun i => ((((((((emp.put (some 5) (.pointer (some ⟨b5, 0, none⟩))).put (some 11) (.slice ga G.length gc)).put (some 12) (.slice aa at_.length ac)).put (some 13) (.pointer (some ⟨bR, 0, none⟩))).put (some 3) (.int .u8 nf)).put (some 4) (.int .u8 nt)).put (some 14) (.slice oa out.length oc)).put (some 18) (I i))) (fun i => (qo ++ (bR, .cells ⟨eRnd (rTwo bD d ca cc cs)⟩ 25) :: (bD, .cells ⟨[I 1, I 0, I 0, .bool false, I d.digits, I d.rate.lo, I d.rate.hi, .bool d.sticks]⟩ 45) :: (qc ++ (qa ++ (qg ++ (b5, .cells ⟨eDial d⟩ 45) :: h))))) (fun i => out.length - i) 0 (Nat.zero_le _) (le_put (le_put (le_put (le_put (le_put (le_put (le_put (le_put (le_emp _) rfl) rfl) rfl) rfl) rfl) rfl) rfl) rfl) (by (first|((repeat first|exact s_0|exact s_1|exact s_3|refine s_4 ?_|refine s_5 ?_|refine s_6 ?_|refine s_7 ?_);done)|((repeat first|exact s_0|exact s_1|exact s_3|refine s_4 ?_|refine s_5 ?_|refine s_6 ?_|refine s_8 ?_);done))) ?_
        rintro i hi
        refine xc_seq ?_
        refine xc_seq (xc_region ?_)
        refine xr_op rfl rfl (xv_move rfl ?_)
        refine xr_op rfl rfl (xv_move rfl ?_)
        refine xr_op rfl rfl (xv_len sl28 rfl ?_)
        refine xr_op rfl rfl (xv_lss2 rfl rfl (fun q5 => ?_) (fun q5 => ?_))
        · refine xr_end rfl ?_
          refine th_n ?_
          refine xc_true rfl ?_
          refine xc_skip ?_
          refine th_n ?_
          refine xc_seq ?_
          refine xc_block ?_
          refine xc_seq ?_
          refine xc_draw0 [(0, .S), (1, .S), (2, .S), (3, .S), (4, .R), (5, .S), (6, .S), (7, .S), (8, .S), (9, .R), (10, .O), (11, .S)] mixed (by kernel_rfl) ?_
          refine js_S rfl rfl (.inl rfl) (xv_move rfl ⟨rfl, rfl⟩) ?_
          refine js_S rfl rfl (.inl rfl) (xv_move rfl ⟨rfl, rfl⟩) ?_
          refine js_S rfl rfl (.inl rfl) (xv_move rfl ⟨rfl, rfl⟩) ?_
          have hltp : i < at_.length := by (first | omega | (dsimp only at *; omega) | (simp at *; omega))
          obtain ⟨bp, op, lp, tp, fzp, hap, hmp, hxp⟩ := (sa).at hltp
          obtain ⟨xp, hkp⟩ : ∃ qq_, at_[i]? = some qq_ := ⟨_, List.getElem?_eq_getElem hltp⟩
          have hltq : (i + 1) < at_.length := by (first | omega | (dsimp only at *; omega) | (simp at *; omega))
          obtain ⟨bq, oq, lq, tq, fzq, haq, hmq, hxq⟩ := (sa).at hltq
          obtain ⟨xq, hkq⟩ : ∃ qq_, at_[(i + 1)]? = some qq_ := ⟨_, List.getElem?_eq_getElem hltq⟩
          have hlto : i < out.length := by (first | omega | (dsimp only at *; omega) | (simp at *; omega))
          obtain ⟨bo, oo, lo, to, fzo, hao, hmo, hxo⟩ := (so).at hlto
          obtain ⟨xo, hko⟩ : ∃ qq_, out[i]? = some qq_ := ⟨_, List.getElem?_eq_getElem hlto⟩
          have hpi := hin xp (List.mem_of_getElem? hkp)
          have hqi := hin xq (List.mem_of_getElem? hkq)
          have hpq := hup.get (Nat.lt_succ_self i) hkp hkq
          have ea := List.getElem?_eq_getElem (l := cs) (i := i) (by omega)
          have eb := List.getElem?_eq_getElem (l := cs) (i := i + 1) (by omega)
          obtain ⟨f1, f2, f3⟩ := hfit i _ _ _ ea eb hko
          have h1 := hsh.hour i _ ea
          have h2 := hsh.hour (i + 1) _ eb
          have e1 : cs[i].hour = xp := Option.some.inj (h1.symm.trans hkp)
          have e2 : cs[i + 1].hour = xq := Option.some.inj (h2.symm.trans hkq)
          obtain ⟨w1, w2, w3, w4⟩ := btw_some hd (by omega) f1
          have w5 := (least_bd (a := cs[i]) (b := cs[i + 1]) hd).1
          rw [e1, e2] at f2 f3
          have w6 := mul_bdI (a := d.rate.hi) (A := 10000) (x := cs[i + 1].hour - cs[i].hour) (B := 1048576) (by omega) g5 (by omega) (by omega) (by omega)
          have w7 := fun hs9 => btw_turn hd hs9 f1
          refine js_S rfl rfl (.inl rfl) (xv_ia (sz := 1) (j := i) sl32 ty3 rfl (by rw [hap]; rfl) rfl (by (first | assumption | with_reducible exact Int.toNat_natCast _ | with_reducible rfl | rfl)) (by (first | omega | (dsimp only at *; omega) | (simp at *; omega))) (by (first | omega | (dsimp only at *; omega) | (simp at *; omega))) ⟨rfl, rfl⟩) ?_
          refine js_R0 rfl rfl (.inl rfl) (xv_load1 ty3 rfl rfl (by ((repeat first|exact z_0|assumption|refine z_1 ?_|(refine z_l ?_;(repeat first|exact z_0|assumption|refine z_1 ?_);done)|refine z_r ?_);done)) (take_get (hxp (i) xp hkp) (j := 0) rfl) ⟨rfl, rfl⟩) ?_
          refine js_S rfl rfl (.inl rfl) (xv_move rfl ⟨rfl, rfl⟩) ?_
          refine js_S rfl rfl (.inl rfl) (xv_move rfl ⟨rfl, rfl⟩) ?_
          refine js_S rfl rfl (.inl rfl) (xv_add rfl rfl (wrap_i64 (by (first | omega | (dsimp only at *; omega) | (simp at *; omega))) (by (first | omega | (dsimp only at *; omega) | (simp at *; omega)))) ⟨rfl, rfl⟩) ?_
          refine js_S rfl rfl (.inl rfl) (xv_ia (sz := 1) (j := i + 1) sl32 ty3 rfl (by rw [haq]; rfl) rfl (by (first | omega | (dsimp only at *; omega) | (simp at *; omega))) (by (first | omega | (dsimp only at *; omega) | (simp at *; omega))) (by (first | omega | (dsimp only at *; omega) | (simp at *; omega))) ⟨rfl, rfl⟩) ?_
          refine js_R0 rfl rfl (.inl rfl) (xv_load1 ty3 rfl rfl (by ((repeat first|exact z_0|assumption|refine z_1 ?_|(refine z_l ?_;(repeat first|exact z_0|assumption|refine z_1 ?_);done)|refine z_r ?_);done)) (take_get (hxq (i + 1) xq hkq) (j := 0) rfl) ⟨rfl, rfl⟩) ?_
          refine js_O0 rfl rfl (.inl rfl) (xv_calls rfl hb25 (sumG_c hd hgi (by omega) (sg.sub (by intro z hz; ((repeat first|exact z_0|assumption|refine z_1 ?_|(refine z_l ?_;(repeat first|exact z_0|assumption|refine z_1 ?_);done)|refine z_r ?_);done))) (by omega) (by omega) (by omega) (up_ret ?_)))
          refine js_S rfl rfl (.inl rfl) (xv_assign rfl ⟨rfl, rfl⟩) ?_
          refine j_end0 ?_
          refine th_n ?_
          refine xc_seq ?_
          cases hst : d.sticks
          · refine xc_drawL (L := [(b5, fun o => o = .cells ⟨eDial d⟩ 45 (0, 0)), (bo, fun o => o = .cells ⟨lo⟩ to fzo)]) [(0, .S), (1, .S), (2, .S), (3, .S), (4, .S), (5, .R), (6, .S), (7, .S), (8, .S), (9, .S), (10, .S), (11, .S), (12, .S), (13, .R), (14, .S), (15, .S), (16, .S), (17, .S), (18, .S), (19, .S), (20, .S), (21, .R), (22, .S), (23, .S), (24, .S), (25, .S), (26, .R), (27, .S), (28, .S), (29, .S), (30, .S), (31, .S), (32, .S), (33, .S), (34, .S), (35, .S), (36, .S), (37, .S), (38, .S), (39, .S), (40, .S), (41, .R), (42, .O), (43, .S), (44, .S), (45, .S), (46, .S)] [] _ mixed (by kernel_rfl) (by rw [List.append_nil]) (holds2b (by ((repeat first|exact z_0|assumption|refine z_1 ?_|(refine z_l ?_;(repeat first|exact z_0|assumption|refine z_1 ?_);done)|refine z_r ?_);done)) rfl (by ((repeat first|exact z_0|assumption|refine z_1 ?_|(refine z_l ?_;(repeat first|exact z_0|assumption|refine z_1 ?_);done)|refine z_r ?_);done)) rfl) ?_
            refine js_S rfl rfl (.inl rfl) (xv_move rfl ⟨rfl, rfl⟩) ?_
            refine js_S rfl rfl (.inl rfl) (xv_move rfl ⟨rfl, rfl⟩) ?_
            refine js_S rfl rfl (.inl rfl) (xv_move rfl ⟨rfl, rfl⟩) ?_
            refine js_S rfl rfl (.inl rfl) (xv_ia (sz := 2) (j := i) sl28 ty38 rfl (by rw [hao]; rfl) rfl (by (first | assumption | with_reducible exact Int.toNat_natCast _ | with_reducible rfl | rfl)) (by (first | omega | (dsimp only at *; omega) | (simp at *; omega))) (by (first | omega | (dsimp only at *; omega) | (simp at *; omega))) ⟨rfl, rfl⟩) ?_
            refine js_S rfl rfl (.inl rfl) (xv_faddr fl38_0 rfl ⟨rfl, rfl⟩) ?_
            refine js_R0 rfl rfl (.inl rfl) (xv_load1 ty3 rfl rfl (by ((repeat first|exact z_0|assumption|refine z_1 ?_|(refine z_l ?_;(repeat first|exact z_0|assumption|refine z_1 ?_);done)|refine z_r ?_);done)) (take_get (hxo (i) xo hko) (j := 0) rfl) ⟨rfl, rfl⟩) ?_
            refine js_S rfl rfl (.inl rfl) (xv_cmpK rfl rfl (cmpF rfl (by simp only [cmpP]; (first | omega | (dsimp only at *; omega) | (simp at *; omega)))) ⟨rfl, rfl⟩) ?_
            refine js_S rfl rfl (.inl rfl) (xv_move rfl ⟨rfl, rfl⟩) ?_
            refine js_S rfl rfl (.inr ⟨_, _, rfl, rfl⟩) (xv_move rfl ⟨rfl, rfl⟩) ?_
            refine js_S rfl rfl (.inr ⟨_, _, rfl, rfl⟩) (xv_move rfl ⟨rfl, rfl⟩) ?_
            refine js_S rfl rfl (.inr ⟨_, _, rfl, rfl⟩) (xv_move rfl ⟨rfl, rfl⟩) ?_
            refine js_S rfl rfl (.inr ⟨_, _, rfl, rfl⟩) (xv_ia (sz := 2) (j := i) sl28 ty38 rfl (by rw [hao]; rfl) rfl (by (first | assumption | with_reducible exact Int.toNat_natCast _ | with_reducible rfl | rfl)) (by (first | omega | (dsimp only at *; omega) | (simp at *; omega))) (by (first | omega | (dsimp only at *; omega) | (simp at *; omega))) ⟨rfl, rfl⟩) ?_
            refine js_S rfl rfl (.inr ⟨_, _, rfl, rfl⟩) (xv_faddr fl38_1 rfl ⟨rfl, rfl⟩) ?_
            refine js_R0 rfl rfl (.inr ⟨_, _, rfl, rfl⟩) (xv_load1 ty3 rfl rfl (by ((repeat first|exact z_0|assumption|refine z_1 ?_|(refine z_l ?_;(repeat first|exact z_0|assumption|refine z_1 ?_);done)|refine z_r ?_);done)) (take_get (hxo (i) xo hko) (j := 1) rfl) ⟨rfl, rfl⟩) ?_
            refine js_S rfl rfl (.inr ⟨_, _, rfl, rfl⟩) (xv_cmpK rfl rfl (cmpF rfl (by simp only [cmpP]; (first | omega | (dsimp only at *; omega) | (simp at *; omega)))) ⟨rfl, rfl⟩) ?_
            refine js_S rfl rfl (.inl rfl) (xv_pick rfl rfl ⟨rfl, rfl⟩) ?_
            refine js_S rfl rfl (.inl rfl) (xv_move rfl ⟨rfl, rfl⟩) ?_
            refine js_S rfl rfl (.inr ⟨_, _, rfl, rfl⟩) (xv_move rfl ⟨rfl, rfl⟩) ?_
            refine js_S rfl rfl (.inr ⟨_, _, rfl, rfl⟩) (xv_move rfl ⟨rfl, rfl⟩) ?_
            refine js_S rfl rfl (.inr ⟨_, _, rfl, rfl⟩) (xv_ia (sz := 2) (j := i) sl28 ty38 rfl (by rw [hao]; rfl) rfl (by (first | assumption | with_reducible exact Int.toNat_natCast _ | with_reducible rfl | rfl)) (by (first | omega | (dsimp only at *; omega) | (simp at *; omega))) (by (first | omega | (dsimp only at *; omega) | (simp at *; omega))) ⟨rfl, rfl⟩) ?_
            refine js_S rfl rfl (.inr ⟨_, _, rfl, rfl⟩) (xv_faddr fl38_0 rfl ⟨rfl, rfl⟩) ?_
            refine js_R0 rfl rfl (.inr ⟨_, _, rfl, rfl⟩) (xv_load1 ty3 rfl rfl (by ((repeat first|exact z_0|assumption|refine z_1 ?_|(refine z_l ?_;(repeat first|exact z_0|assumption|refine z_1 ?_);done)|refine z_r ?_);done)) (take_get (hxo (i) xo hko) (j := 0) rfl) ⟨rfl, rfl⟩) ?_
            refine js_S rfl rfl (.inr ⟨_, _, rfl, rfl⟩) (xv_cmpK rfl rfl (cmpF rfl (by simp only [cmpP]; (first | omega | (dsimp only at *; omega) | (simp at *; omega)))) ⟨rfl, rfl⟩) ?_
            refine js_S rfl rfl (.inl rfl) (xv_pick rfl rfl ⟨rfl, rfl⟩) ?_
            refine js_S rfl rfl (.inl rfl) (xv_move rfl ⟨rfl, rfl⟩) ?_
            refine js_S rfl rfl (.inr ⟨_, _, rfl, rfl⟩) (xv_faddr fl45_2 rfl ⟨rfl, rfl⟩) ?_
            refine js_R0 rfl rfl (.inr ⟨_, _, rfl, rfl⟩) (xv_load1 (v := .bool false) ty4 rfl rfl (by ((repeat first|exact z_0|assumption|refine z_1 ?_|(refine z_l ?_;(repeat first|exact z_0|assumption|refine z_1 ?_);done)|refine z_r ?_);done)) (congrArg (fun x => some (Value.bool x)) hst) ⟨rfl, rfl⟩) ?_
            refine js_S rfl rfl (.inr ⟨_, _, rfl, rfl⟩) (xv_not rfl ⟨rfl, rfl⟩) ?_
            refine js_S rfl rfl (.inr ⟨_, _, rfl, rfl⟩) (xv_move rfl ⟨rfl, rfl⟩) ?_
            refine js_S rfl rfl (.inr ⟨_, _, rfl, rfl⟩) (xv_move rfl ⟨rfl, rfl⟩) ?_
            refine js_S rfl rfl (.inr ⟨_, _, rfl, rfl⟩) (xv_move rfl ⟨rfl, rfl⟩) ?_
            refine js_S rfl rfl (.inr ⟨_, _, rfl, rfl⟩) (xv_ia (sz := 2) (j := i) sl28 ty38 rfl (by rw [hao]; rfl) rfl (by (first | assumption | with_reducible exact Int.toNat_natCast _ | with_reducible rfl | rfl)) (by (first | omega | (dsimp only at *; omega) | (simp at *; omega))) (by (first | omega | (dsimp only at *; omega) | (simp at *; omega))) ⟨rfl, rfl⟩) ?_
            refine js_S rfl rfl (.inr ⟨_, _, rfl, rfl⟩) (xv_faddr fl38_1 rfl ⟨rfl, rfl⟩) ?_
            refine js_I rfl rfl (.inr ⟨_, _, rfl, rfl⟩) (fun hh hv => by obtain ⟨o9, hm, rfl⟩ := hv bo _ (List.mem_cons_of_mem _ List.mem_cons_self); exact xv_load1 ty3 rfl rfl (List.mem_append_left _ hm) (take_get (hxo i xo hko) (j := 1) rfl) ⟨rfl, rfl⟩) ?_
            refine js_S rfl rfl (.inr ⟨_, _, rfl, rfl⟩) (xv_move rfl ⟨rfl, rfl⟩) ?_
            refine js_S rfl rfl (.inr ⟨_, _, rfl, rfl⟩) (xv_move rfl ⟨rfl, rfl⟩) ?_
            refine js_S rfl rfl (.inr ⟨_, _, rfl, rfl⟩) (xv_ia (sz := 2) (j := i) sl28 ty38 rfl (by rw [hao]; rfl) rfl (by (first | assumption | with_reducible exact Int.toNat_natCast _ | with_reducible rfl | rfl)) (by (first | omega | (dsimp only at *; omega) | (simp at *; omega))) (by (first | omega | (dsimp only at *; omega) | (simp at *; omega))) ⟨rfl, rfl⟩) ?_
            refine js_S rfl rfl (.inr ⟨_, _, rfl, rfl⟩) (xv_faddr fl38_0 rfl ⟨rfl, rfl⟩) ?_
            refine js_I rfl rfl (.inr ⟨_, _, rfl, rfl⟩) (fun hh hv => by obtain ⟨o9, hm, rfl⟩ := hv bo _ (List.mem_cons_of_mem _ List.mem_cons_self); exact xv_load1 ty3 rfl rfl (List.mem_append_left _ hm) (take_get (hxo i xo hko) (j := 0) rfl) ⟨rfl, rfl⟩) ?_
            refine js_S rfl rfl (.inr ⟨_, _, rfl, rfl⟩) (xv_sub rfl rfl (wrap_i64 (by (first | omega | (dsimp only at *; omega) | (simp at *; omega))) (by (first | omega | (dsimp only at *; omega) | (simp at *; omega)))) ⟨rfl, rfl⟩) ?_
            refine js_S rfl rfl (.inr ⟨_, _, rfl, rfl⟩) (xv_faddr fl45_0 rfl ⟨rfl, rfl⟩) ?_
            refine js_R0 rfl rfl (.inr ⟨_, _, rfl, rfl⟩) (xv_load1 ty3 rfl rfl (by ((repeat first|exact z_0|assumption|refine z_1 ?_|(refine z_l ?_;(repeat first|exact z_0|assumption|refine z_1 ?_);done)|refine z_r ?_);done)) (by rfl) ⟨rfl, rfl⟩) ?_
            refine js_OL0 rfl rfl (.inr ⟨_, _, rfl, rfl⟩) (xv_calls rfl hb26 (Turn_c (by omega) (by omega) (up_ret ?_)))
            refine ⟨holds2b (by ((repeat first|exact z_0|assumption|refine z_1 ?_|(refine z_l ?_;(repeat first|exact z_0|assumption|refine z_1 ?_);done)|refine z_r ?_);done)) rfl (by ((repeat first|exact z_0|assumption|refine z_1 ?_|(refine z_l ?_;(repeat first|exact z_0|assumption|refine z_1 ?_);done)|refine z_r ?_);done)) rfl, ?_⟩
            refine js_S rfl rfl (.inr ⟨_, _, rfl, rfl⟩) (xv_rem (c := 0) rfl rfl (by omega) (by rw [Int.tmod_eq_emod_of_nonneg (by (first | omega | (dsimp only at *; omega) | (simp at *; omega)))]; exact w7 (by simp [hst])) ⟨rfl, rfl⟩) ?_
            refine js_S rfl rfl (.inr ⟨_, _, rfl, rfl⟩) (xv_cmpK (c := false) rfl rfl (by simp [cmpB]) ⟨rfl, rfl⟩) ?_
            refine js_S rfl rfl (.inr ⟨_, _, rfl, rfl⟩) (xv_pick rfl rfl ⟨rfl, rfl⟩) ?_
            refine js_S rfl rfl (.inl rfl) (xv_pick rfl rfl ⟨rfl, rfl⟩) ?_
            refine j_end0 ?_
            refine th_n ?_
            refine xc_false rfl ?_
            refine xc_skip ?_
            refine bk_n ?_
            refine th_n ?_
            refine xc_region ?_
            refine xr_op rfl rfl (xv_move rfl ?_)
            refine xr_op rfl rfl (xv_add rfl rfl (wrap_i64 (by (first | omega | (dsimp only at *; omega) | (simp at *; omega))) (by (first | omega | (dsimp only at *; omega) | (simp at *; omega)))) ?_)
            refine xr_op rfl rfl (xv_assign rfl ?_)
            refine xr_end rfl ?_
            exact rnd (i + 1) (by (first | omega | (dsimp only at *; omega) | (simp at *; omega))) (by (first | omega | (dsimp only at *; omega) | (simp at *; omega))) (le_put (le_put (le_put (le_put (le_put (le_put (le_put (le_put (le_emp _) rfl) rfl) rfl) rfl) rfl) rfl) rfl) rfl) (by (first|((repeat first|exact s_0|exact s_1|exact s_3|refine s_4 ?_|refine s_5 ?_|refine s_6 ?_|refine s_7 ?_);done)|((repeat first|exact s_0|exact s_1|exact s_3|refine s_4 ?_|refine s_5 ?_|refine s_6 ?_|refine s_8 ?_);done)))
          · refine xc_drawL (L := [(b5, fun o => o = .cells ⟨eDial d⟩ 45 (0, 0)), (bo, fun o => o = .cells ⟨lo⟩ to fzo)]) [(0, .S), (1, .S), (2, .S), (3, .S), (4, .S), (5, .R), (6, .S), (7, .S), (8, .S), (9, .S), (10, .S), (11, .S), (12, .S), (13, .R), (14, .S), (15, .S), (16, .S), (17, .S), (18, .S), (19, .S), (20, .S), (21, .R), (22, .S), (23, .S), (24, .S), (25, .S), (26, .R), (27, .S), (28, .S), (29, .S), (30, .S), (31, .S), (32, .S), (33, .S), (34, .S), (35, .S), (36, .S), (37, .S), (38, .S), (39, .S), (40, .S), (41, .R), (42, .O), (43, .S), (44, .S), (45, .S), (46, .S)] [] _ mixed (by kernel_rfl) (by rw [List.append_nil]) (holds2b (by ((repeat first|exact z_0|assumption|refine z_1 ?_|(refine z_l ?_;(repeat first|exact z_0|assumption|refine z_1 ?_);done)|refine z_r ?_);done)) rfl (by ((repeat first|exact z_0|assumption|refine z_1 ?_|(refine z_l ?_;(repeat first|exact z_0|assumption|refine z_1 ?_);done)|refine z_r ?_);done)) rfl) ?_
            refine js_S rfl rfl (.inl rfl) (xv_move rfl ⟨rfl, rfl⟩) ?_
            refine js_S rfl rfl (.inl rfl) (xv_move rfl ⟨rfl, rfl⟩) ?_
            refine js_S rfl rfl (.inl rfl) (xv_move rfl ⟨rfl, rfl⟩) ?_
            refine js_S rfl rfl (.inl rfl) (xv_ia (sz := 2) (j := i) sl28 ty38 rfl (by rw [hao]; rfl) rfl (by (first | assumption | with_reducible exact Int.toNat_natCast _ | with_reducible rfl | rfl)) (by (first | omega | (dsimp only at *; omega) | (simp at *; omega))) (by (first | omega | (dsimp only at *; omega) | (simp at *; omega))) ⟨rfl, rfl⟩) ?_
            refine js_S rfl rfl (.inl rfl) (xv_faddr fl38_0 rfl ⟨rfl, rfl⟩) ?_
            refine js_R0 rfl rfl (.inl rfl) (xv_load1 ty3 rfl rfl (by ((repeat first|exact z_0|assumption|refine z_1 ?_|(refine z_l ?_;(repeat first|exact z_0|assumption|refine z_1 ?_);done)|refine z_r ?_);done)) (take_get (hxo (i) xo hko) (j := 0) rfl) ⟨rfl, rfl⟩) ?_
            refine js_S rfl rfl (.inl rfl) (xv_cmpK rfl rfl (cmpF rfl (by simp only [cmpP]; (first | omega | (dsimp only at *; omega) | (simp at *; omega)))) ⟨rfl, rfl⟩) ?_
            refine js_S rfl rfl (.inl rfl) (xv_move rfl ⟨rfl, rfl⟩) ?_
            refine js_S rfl rfl (.inr ⟨_, _, rfl, rfl⟩) (xv_move rfl ⟨rfl, rfl⟩) ?_
            refine js_S rfl rfl (.inr ⟨_, _, rfl, rfl⟩) (xv_move rfl ⟨rfl, rfl⟩) ?_
            refine js_S rfl rfl (.inr ⟨_, _, rfl, rfl⟩) (xv_move rfl ⟨rfl, rfl⟩) ?_
            refine js_S rfl rfl (.inr ⟨_, _, rfl, rfl⟩) (xv_ia (sz := 2) (j := i) sl28 ty38 rfl (by rw [hao]; rfl) rfl (by (first | assumption | with_reducible exact Int.toNat_natCast _ | with_reducible rfl | rfl)) (by (first | omega | (dsimp only at *; omega) | (simp at *; omega))) (by (first | omega | (dsimp only at *; omega) | (simp at *; omega))) ⟨rfl, rfl⟩) ?_
            refine js_S rfl rfl (.inr ⟨_, _, rfl, rfl⟩) (xv_faddr fl38_1 rfl ⟨rfl, rfl⟩) ?_
            refine js_R0 rfl rfl (.inr ⟨_, _, rfl, rfl⟩) (xv_load1 ty3 rfl rfl (by ((repeat first|exact z_0|assumption|refine z_1 ?_|(refine z_l ?_;(repeat first|exact z_0|assumption|refine z_1 ?_);done)|refine z_r ?_);done)) (take_get (hxo (i) xo hko) (j := 1) rfl) ⟨rfl, rfl⟩) ?_
            refine js_S rfl rfl (.inr ⟨_, _, rfl, rfl⟩) (xv_cmpK rfl rfl (cmpF rfl (by simp only [cmpP]; (first | omega | (dsimp only at *; omega) | (simp at *; omega)))) ⟨rfl, rfl⟩) ?_
            refine js_S rfl rfl (.inl rfl) (xv_pick rfl rfl ⟨rfl, rfl⟩) ?_
            refine js_S rfl rfl (.inl rfl) (xv_move rfl ⟨rfl, rfl⟩) ?_
            refine js_S rfl rfl (.inr ⟨_, _, rfl, rfl⟩) (xv_move rfl ⟨rfl, rfl⟩) ?_
            refine js_S rfl rfl (.inr ⟨_, _, rfl, rfl⟩) (xv_move rfl ⟨rfl, rfl⟩) ?_
            refine js_S rfl rfl (.inr ⟨_, _, rfl, rfl⟩) (xv_ia (sz := 2) (j := i) sl28 ty38 rfl (by rw [hao]; rfl) rfl (by (first | assumption | with_reducible exact Int.toNat_natCast _ | with_reducible rfl | rfl)) (by (first | omega | (dsimp only at *; omega) | (simp at *; omega))) (by (first | omega | (dsimp only at *; omega) | (simp at *; omega))) ⟨rfl, rfl⟩) ?_
            refine js_S rfl rfl (.inr ⟨_, _, rfl, rfl⟩) (xv_faddr fl38_0 rfl ⟨rfl, rfl⟩) ?_
            refine js_R0 rfl rfl (.inr ⟨_, _, rfl, rfl⟩) (xv_load1 ty3 rfl rfl (by ((repeat first|exact z_0|assumption|refine z_1 ?_|(refine z_l ?_;(repeat first|exact z_0|assumption|refine z_1 ?_);done)|refine z_r ?_);done)) (take_get (hxo (i) xo hko) (j := 0) rfl) ⟨rfl, rfl⟩) ?_
            refine js_S rfl rfl (.inr ⟨_, _, rfl, rfl⟩) (xv_cmpK rfl rfl (cmpF rfl (by simp only [cmpP]; (first | omega | (dsimp only at *; omega) | (simp at *; omega)))) ⟨rfl, rfl⟩) ?_
            refine js_S rfl rfl (.inl rfl) (xv_pick rfl rfl ⟨rfl, rfl⟩) ?_
            refine js_S rfl rfl (.inl rfl) (xv_move rfl ⟨rfl, rfl⟩) ?_
            refine js_S rfl rfl (.inr ⟨_, _, rfl, rfl⟩) (xv_faddr fl45_2 rfl ⟨rfl, rfl⟩) ?_
            refine js_R0 rfl rfl (.inr ⟨_, _, rfl, rfl⟩) (xv_load1 (v := .bool true) ty4 rfl rfl (by ((repeat first|exact z_0|assumption|refine z_1 ?_|(refine z_l ?_;(repeat first|exact z_0|assumption|refine z_1 ?_);done)|refine z_r ?_);done)) (congrArg (fun x => some (Value.bool x)) hst) ⟨rfl, rfl⟩) ?_
            refine js_S rfl rfl (.inr ⟨_, _, rfl, rfl⟩) (xv_not rfl ⟨rfl, rfl⟩) ?_
            refine js_S rfl rfl (.inr ⟨_, _, rfl, rfl⟩) (xv_move rfl ⟨rfl, rfl⟩) ?_
            refine js_Ss rfl rfl ⟨_, _, _, rfl, rfl, rfl⟩ ?_
            refine js_Ss rfl rfl ⟨_, _, _, rfl, rfl, rfl⟩ ?_
            refine js_Ss rfl rfl ⟨_, _, _, rfl, rfl, rfl⟩ ?_
            refine js_Ss rfl rfl ⟨_, _, _, rfl, rfl, rfl⟩ ?_
            refine js_Ss rfl rfl ⟨_, _, _, rfl, rfl, rfl⟩ ?_
            refine js_Ss rfl rfl ⟨_, _, _, rfl, rfl, rfl⟩ ?_
            refine js_Ss rfl rfl ⟨_, _, _, rfl, rfl, rfl⟩ ?_
            refine js_Ss rfl rfl ⟨_, _, _, rfl, rfl, rfl⟩ ?_
            refine js_Ss rfl rfl ⟨_, _, _, rfl, rfl, rfl⟩ ?_
            refine js_Ss rfl rfl ⟨_, _, _, rfl, rfl, rfl⟩ ?_
            refine js_Ss rfl rfl ⟨_, _, _, rfl, rfl, rfl⟩ ?_
            refine js_Ss rfl rfl ⟨_, _, _, rfl, rfl, rfl⟩ ?_
            refine js_Rs rfl rfl ⟨_, _, _, rfl, rfl, rfl⟩ ?_
            refine js_Os rfl rfl ⟨_, _, _, rfl, rfl, rfl⟩ ?_
            refine js_Ss rfl rfl ⟨_, _, _, rfl, rfl, rfl⟩ ?_
            refine js_Ss rfl rfl ⟨_, _, _, rfl, rfl, rfl⟩ ?_
            refine js_S rfl rfl (.inr ⟨_, _, rfl, rfl⟩) (xv_pick rfl rfl ⟨rfl, rfl⟩) ?_
            refine js_S rfl rfl (.inl rfl) (xv_pick rfl rfl ⟨rfl, rfl⟩) ?_
            refine j_end0 ?_
            refine th_n ?_
            refine xc_false rfl ?_
            refine xc_skip ?_
            refine bk_n ?_
            refine th_n ?_
            refine xc_region ?_
            refine xr_op rfl rfl (xv_move rfl ?_)
            refine xr_op rfl rfl (xv_add rfl rfl (wrap_i64 (by (first | omega | (dsimp only at *; omega) | (simp at *; omega))) (by (first | omega | (dsimp only at *; omega) | (simp at *; omega)))) ?_)
            refine xr_op rfl rfl (xv_assign rfl ?_)
            refine xr_end rfl ?_
            exact rnd (i + 1) (by (first | omega | (dsimp only at *; omega) | (simp at *; omega))) (by (first | omega | (dsimp only at *; omega) | (simp at *; omega))) (le_put (le_put (le_put (le_put (le_put (le_put (le_put (le_put (le_emp _) rfl) rfl) rfl) rfl) rfl) rfl) rfl) rfl) (by (first|((repeat first|exact s_0|exact s_1|exact s_3|refine s_4 ?_|refine s_5 ?_|refine s_6 ?_|refine s_7 ?_);done)|((repeat first|exact s_0|exact s_1|exact s_3|refine s_4 ?_|refine s_5 ?_|refine s_6 ?_|refine s_8 ?_);done)))
        · refine xr_end rfl ?_
          refine th_n ?_
          refine xc_false rfl ?_
          refine xc_exit ?_
          refine th_x ?_
          refine th_x ?_
          refine bk_same ?_
          refine th_n ?_
          refine xc_seq (xc_region ?_)
          have hq1 : nf % 160 < 160 := Nat.mod_lt _ (by decide)
          have hq2 : nt % 160 < 160 := Nat.mod_lt _ (by decide)
          refine xr_op rfl rfl (xv_move rfl ?_)
          refine xr_op rfl rfl (xv_convI Tryd.underlying5 Tryd.underlying3 rfl (wrap_i64 (by (first | omega | (dsimp only at *; omega) | (simp at *; omega))) (by (first | omega | (dsimp only at *; omega) | (simp at *; omega)))) ?_)
          refine xr_op rfl rfl (xv_rem (c := ((nf % 160 : Nat) : Int)) rfl rfl (by omega) rfl ?_)
          refine xr_op rfl rfl (xv_move rfl ?_)
          refine xr_op rfl rfl (xv_convI Tryd.underlying5 Tryd.underlying3 rfl (wrap_i64 (by (first | omega | (dsimp only at *; omega) | (simp at *; omega))) (by (first | omega | (dsimp only at *; omega) | (simp at *; omega)))) ?_)
          refine xr_op rfl rfl (xv_rem (c := ((nt % 160 : Nat) : Int)) rfl rfl (by omega) rfl ?_)
          refine xr_op rfl rfl (xv_assign rfl ?_)
          refine xr_op rfl rfl (xv_assign rfl ?_)
          refine xr_end rfl ?_
          refine th_n ?_
          refine xc_join (σ := Int × Int) (fun q => 0 ≤ q.1 ∧ q.1 ≤ q.2 ∧ q.2 < 160) (fun q => (((((emp.put (some 5) (.pointer (some ⟨b5, 0, none⟩))).put (some 11) (.slice ga G.length gc)).put (some 13) (.pointer (some ⟨bR, 0, none⟩))).put (some 20) (I q.1)).put (some 21) (I q.2))) (fun q => ((bR, .cells ⟨eRnd (rTwo bD d ca cc cs)⟩ 25) :: (bD, .cells ⟨[I 1, I 0, I 0, .bool false, I d.digits, I d.rate.lo, I d.rate.hi, .bool d.sticks]⟩ 45) :: (qc ++ (qa ++ (qg ++ (b5, .cells ⟨eDial d⟩ 45) :: h))))) ?_ ?_
          · refine xc_seq (xc_region ?_)
            refine xr_op rfl rfl (xv_move rfl ?_)
            refine xr_op rfl rfl (xv_move rfl ?_)
            refine xr_op rfl rfl (xv_gtr2 rfl rfl (fun q6 => ?_) (fun q6 => ?_))
            · refine xr_end rfl ?_
              refine th_n ?_
              refine xc_true rfl ?_
              refine xc_region ?_
              refine xr_op rfl rfl (xv_move rfl ?_)
              refine xr_op rfl rfl (xv_move rfl ?_)
              refine xr_op rfl rfl (xv_assign rfl ?_)
              refine xr_op rfl rfl (xv_assign rfl ?_)
              refine xr_end rfl ?_
              exact jn_n ((((nt % 160 : Nat) : Int), ((nf % 160 : Nat) : Int)) : Int × Int) ⟨by (first | omega | (dsimp only at *; omega) | (simp at *; omega)), by (first | omega | (dsimp only at *; omega) | (simp at *; omega)), by (first | omega | (dsimp only at *; omega) | (simp at *; omega))⟩ (le_put (le_put (le_put (le_put (le_put (le_emp _) rfl) rfl) rfl) rfl) rfl) (by (first|((repeat first|exact s_0|exact s_1|exact s_3|refine s_4 ?_|refine s_5 ?_|refine s_6 ?_|refine s_7 ?_);done)|((repeat first|exact s_0|exact s_1|exact s_3|refine s_4 ?_|refine s_5 ?_|refine s_6 ?_|refine s_8 ?_);done)))
            · refine xr_end rfl ?_
              refine th_n ?_
              refine xc_false rfl ?_
              refine xc_skip ?_
              exact jn_n ((((nf % 160 : Nat) : Int), ((nt % 160 : Nat) : Int)) : Int × Int) ⟨by (first | omega | (dsimp only at *; omega) | (simp at *; omega)), by (first | omega | (dsimp only at *; omega) | (simp at *; omega)), by (first | omega | (dsimp only at *; omega) | (simp at *; omega))⟩ (le_put (le_put (le_put (le_put (le_put (le_emp _) rfl) rfl) rfl) rfl) rfl) (by (first|((repeat first|exact s_0|exact s_1|exact s_3|refine s_4 ?_|refine s_5 ?_|refine s_6 ?_|refine s_7 ?_);done)|((repeat first|exact s_0|exact s_1|exact s_3|refine s_4 ?_|refine s_5 ?_|refine s_6 ?_|refine s_8 ?_);done)))
          · rintro ⟨fa, ta⟩ ⟨hf0, hft, hta⟩
            dsimp only at hf0 hft hta
            refine xc_seq (xc_region ?_)
            obtain ⟨gs, hga, hg1, hg2⟩ := hTR.gasA hf0 hft (by omega)
            refine xr_op rfl rfl (xv_loadA ty25 rfl rfl (by ((repeat first|exact z_0|assumption|refine z_1 ?_|(refine z_l ?_;(repeat first|exact z_0|assumption|refine z_1 ?_);done)|refine z_r ?_);done)) (by ((try apply evl_some rfl);(repeat (first|exact (rfl : _ = [])|apply evl_cons rfl (by (first|exact v_1|exact v_2|exact v_3|exact v_4|exact v_5|exact v_6|exact v_7|exact v_8|exact v_9|exact rfl))|exact rfl)))) (by rfl) ?_)
            refine xr_op rfl rfl (xv_move rfl ?_)
            refine xr_op rfl rfl (xv_move rfl ?_)
            refine xr_op rfl rfl (xv_calls rfl hb17 (GasE_c (r := (rTwo bD d ca cc cs)) (two_v (by ((repeat first|exact z_0|assumption|refine z_1 ?_|(refine z_l ?_;(repeat first|exact z_0|assumption|refine z_1 ?_);done)|refine z_r ?_);done)) (sc.sub (by intro z hz; ((repeat first|exact z_0|assumption|refine z_1 ?_|(refine z_l ?_;(repeat first|exact z_0|assumption|refine z_1 ?_);done)|refine z_r ?_);done)))) (two_s (by omega)) (hT.sub (by intro z hz; ((repeat first|exact z_0|assumption|refine z_1 ?_|(refine z_l ?_;(repeat first|exact z_0|assumption|refine z_1 ?_);done)|refine z_r ?_);done))) hga (up_ret ?_)))
            refine xr_op rfl rfl (xv_move rfl ?_)
            refine xr_op rfl rfl (xv_extract rfl rfl ?_)
            refine xr_op rfl rfl (xv_extract rfl rfl ?_)
            refine xr_op rfl rfl (xv_alloc ty38 (fun bG hbG => ?_))
            refine xr_op rfl rfl (xv_s ty38 rfl rfl (by (first|(apply u_3;(repeat first|exact u_0|assumption|apply u_1|apply u_2);done)|((repeat first|exact u_0|assumption|apply u_1|apply u_2);done)|(apply u_3;apply u_3;(repeat first|exact u_0|assumption|apply u_1|apply u_2);done)|((repeat first|exact u_0|assumption|apply u_3|apply u_1);done))) (by ((try apply evl_some rfl);(repeat (first|exact (rfl : _ = [])|apply evl_cons rfl (by (first|exact v_1|exact v_2|exact v_3|exact v_4|exact v_5|exact v_6|exact v_7|exact v_8|exact v_9|exact rfl))|exact rfl)))) (by rfl) (by rfl) (by rfl) (by ((try apply evl_some rfl);(repeat (first|exact (rfl : _ = [])|apply evl_cons rfl (by (first|exact v_1|exact v_2|exact v_3|exact v_4|exact v_5|exact v_6|exact v_7|exact v_8|exact v_9|exact rfl))|exact rfl)))) ?_)
            refine xr_op rfl rfl (xv_assign rfl ?_)
            refine xr_end rfl ?_
            refine th_n ?_
            refine xc_seq (xc_region ?_)
            refine xr_op rfl rfl (xv_move rfl ?_)
            refine xr_op rfl rfl (xv_move rfl ?_)
            refine xr_op rfl rfl (xv_move rfl ?_)
            refine xr_op rfl rfl (xv_calls rfl hb25 (sumG_c (f := fa) (t := ta) hd hgi (by omega) (sg.sub (by intro z hz; ((repeat first|exact z_0|assumption|refine z_1 ?_|(refine z_l ?_;(repeat first|exact z_0|assumption|refine z_1 ?_);done)|refine z_r ?_);done))) (by omega) (by omega) (by omega) (up_ret ?_)))
            refine xr_op rfl rfl (xv_assign rfl ?_)
            refine xr_end rfl ?_
            refine th_n ?_
            refine xc_seq (xc_region ?_)
            refine xr_op rfl rfl (xv_move rfl ?_)
            refine xr_op rfl rfl (xv_eqlT rfl rfl rfl ?_)
            refine xr_op rfl rfl (xv_move rfl ?_)
            refine xr_gd rfl rfl rfl (xv_faddr fl38_0 rfl ?_)
            refine xr_gd rfl rfl rfl (xv_load1 ty3 rfl rfl (by ((repeat first|exact z_0|assumption|refine z_1 ?_|(refine z_l ?_;(repeat first|exact z_0|assumption|refine z_1 ?_);done)|refine z_r ?_);done)) (by rfl) ?_)
            refine xr_gd rfl rfl rfl (xv_move rfl ?_)
            refine xr_gd rfl rfl rfl (xv_cmpK rfl rfl (cmpT (by simp only [cmpP]; (first | omega | (dsimp only at *; omega) | (simp at *; omega)))) ?_)
            refine xr_op rfl rfl (xv_pick rfl rfl ?_)
            refine xr_op rfl rfl (xv_move rfl ?_)
            refine xr_gd rfl rfl rfl (xv_move rfl ?_)
            refine xr_gd rfl rfl rfl (xv_faddr fl38_1 rfl ?_)
            refine xr_gd rfl rfl rfl (xv_load1 ty3 rfl rfl (by ((repeat first|exact z_0|assumption|refine z_1 ?_|(refine z_l ?_;(repeat first|exact z_0|assumption|refine z_1 ?_);done)|refine z_r ?_);done)) (by rfl) ?_)
            refine xr_gd rfl rfl rfl (xv_cmpK rfl rfl (cmpT (by simp only [cmpP]; (first | omega | (dsimp only at *; omega) | (simp at *; omega)))) ?_)
            refine xr_op rfl rfl (xv_pick rfl rfl ?_)
            refine xr_op rfl rfl (xv_move rfl ?_)
            refine xr_gd rfl rfl rfl (xv_calls rfl hb10 (awake_c (hT.sub (by intro z hz; ((repeat first|exact z_0|assumption|refine z_1 ?_|(refine z_l ?_;(repeat first|exact z_0|assumption|refine z_1 ?_);done)|refine z_r ?_);done))) (up_ret ?_)))
            refine xr_op rfl rfl (xv_pick rfl rfl ?_)
            refine xr_op rfl rfl (xv_assign rfl ?_)
            refine xr_end rfl ?_
            refine th_n ?_
            refine xc_ret ?_
            refine body_ret (h' := h) rfl (ro_tmp rfl ro_nil) (by (first|((repeat first|exact s_0|exact s_1|exact s_3|refine s_4 ?_|refine s_5 ?_|refine s_6 ?_|refine s_7 ?_);done)|((repeat first|exact s_0|exact s_1|exact s_3|refine s_4 ?_|refine s_5 ?_|refine s_6 ?_|refine s_8 ?_);done))) ?_
            exact H
      · refine xr_gd rfl rfl rfl (xv_not rfl ?_)
        refine xr_op rfl rfl (xv_pick rfl rfl ?_)
        refine xr_end rfl ?_
        refine th_n ?_
        refine xc_true rfl ?_
        refine xc_seq (xc_region ?_)
        refine xr_op rfl rfl (xv_calls rfl hb10 (awake_c (hT.sub (by intro z hz; ((repeat first|exact z_0|assumption|refine z_1 ?_|(refine z_l ?_;(repeat first|exact z_0|assumption|refine z_1 ?_);done)|refine z_r ?_);done))) (up_ret ?_)))
        refine xr_op rfl rfl (xv_assign rfl ?_)
        refine xr_end rfl ?_
        refine th_n ?_
        refine xc_ret ?_
        refine th_r ?_
        refine body_ret (h' := h) rfl (ro_tmp rfl ro_nil) (by (first|((repeat first|exact s_0|exact s_1|exact s_3|refine s_4 ?_|refine s_5 ?_|refine s_6 ?_|refine s_7 ?_);done)|((repeat first|exact s_0|exact s_1|exact s_3|refine s_4 ?_|refine s_5 ?_|refine s_6 ?_|refine s_8 ?_);done))) ?_
        exact H

end Go.Proofs.YtckaaaebegemoaaDoor
