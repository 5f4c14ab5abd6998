/-
  Walks.
-/
import Derived.Test.YtckaaaebegemoaaDoorW3
namespace Go.Proofs.YtckaaaebegemoaaDoor
open Go Go.H
set_option maxRecDepth 100000
set_option maxHeartbeats 2000000
set_option linter.all false
theorem brk_c {bb cap N : Nat} {sp : List Value} {d : Array Card} {f : Value} {cm : Card → Card → Int} {p : Card → Prop} {L : Hp} {R : Ending → Hp → Prop} (hA : Arr N p d) (hN : N ≤ 49) {a b : Nat} {ai bi : Int} (ea : ai = a) (eb : bi = b) (h12 : 12 < b - a) (hb : b ≤ N) (H : Arr N p (Go.Sort.breakPatterns d a b) → R (.returned (.tuple #[])) ((bb, .cells ⟨(Go.Sort.breakPatterns d a b).toList.flatMap eCard ++ sp⟩ 78) :: L)) :
    ACalls Tryd.prog 63 ⟨[.slice (some ⟨bb, 0, none⟩) N cap, I ai, I bi, f]⟩ ((bb, .cells ⟨(d).toList.flatMap eCard ++ sp⟩ 78) :: L) R := by
  subst ea eb
  refine calls_of_xc (N := 67) Tryd.func63 rfl (by rfl) ?_
  have hmf := mod_facts (n := b - a) (by omega) (by omega)
  have hU : ((UInt64.ofNat (b - a)).toNat : Int) = (b : Int) - a := by rw [UInt64.toNat_ofNat']; omega
  have hM1 : ((((1 : UInt64) <<< UInt64.ofNat (Go.Sort.bitsLen (b - a))) - 1).toNat : Int) = (((1 : UInt64) <<< UInt64.ofNat (Go.Sort.bitsLen (b - a))).toNat : Int) - 1 := by rw [UInt64.toNat_sub_of_le _ _ (by rw [UInt64.le_iff_toNat_le, hmf.1]; show 1 ≤ _; omega)]; show (((_ - 1 : Nat)) : Int) = _; omega
  have hres := brk_res (d := d) (a := a) (b := b) (by omega)
  refine xc_seq (xc_region ?_)
  refine xr_op rfl rfl (xv_move rfl ?_)
  refine xr_op rfl rfl (xv_move rfl ?_)
  refine xr_op rfl rfl (xv_sub rfl rfl (wrap_i64 (by (first | omega | (dsimp only at *; omega) | (simp at *; omega))) (by (first | omega | (dsimp only at *; omega) | (simp at *; omega)))) ?_)
  refine xr_op rfl rfl (xv_assign rfl ?_)
  refine xr_end rfl ?_
  refine th_n ?_
  refine xc_seq (xc_region ?_)
  refine xr_op rfl rfl (xv_move rfl ?_)
  refine xr_op rfl rfl (xv_cmpK rfl rfl (cmpT (by simp only [cmpP]; omega)) ?_)
  refine xr_end rfl ?_
  refine th_n ?_
  refine xc_true rfl ?_
  refine xc_seq (xc_region ?_)
  refine xr_op rfl rfl (xv_move rfl ?_)
  refine xr_op rfl rfl (xv_convI (m := ((UInt64.ofNat (b - a)).toNat : Int)) Tryd.underlying3 Tryd.underlying125 rfl (by rw [hU]; exact wrap_u64 (by omega) (by omega)) ?_)
  refine xr_op rfl rfl (xv_alloc ty125 (fun br hbr => ?_))
  refine xr_op rfl rfl (xv_s1 ty125 rfl rfl rfl (by (first|(apply u_3;(repeat first|exact u_0|assumption|apply u_1|apply u_2);done)|((repeat first|exact u_0|assumption|apply u_1|apply u_2);done)|(apply u_3;apply u_3;(repeat first|exact u_0|assumption|apply u_1|apply u_2);done)|((repeat first|exact u_0|assumption|apply u_3|apply u_1);done))) (by (first | rfl | exact Vec.one _ _)) (by (first | decide | exact Nat.le_of_ble_eq_true rfl | (simp only [List.length_cons, List.length_nil]; omega) | (simp; done))) (by ((try apply evl_some rfl);(repeat (first|exact (rfl : _ = [])|apply evl_cons rfl (by (first|exact v_1|exact v_2|exact v_3|exact v_4|exact v_5|exact v_6|exact v_7|exact v_8|exact v_9|exact rfl))|exact rfl)))) ?_)
  refine xr_end rfl ?_
  refine th_n ?_
  refine xc_seq (xc_region ?_)
  refine xr_op rfl rfl (xv_move rfl ?_)
  refine xr_op rfl rfl (xv_calls rfl hb73 (npow_c (n := b - a) (by omega) (by omega) (up_ret ?_)))
  refine xr_op rfl rfl (xv_assign rfl ?_)
  refine xr_end rfl ?_
  refine th_n ?_
  refine xc_seq (xc_region ?_)
  refine xr_op rfl rfl (xv_move rfl ?_)
  refine xr_op rfl rfl (xv_move rfl ?_)
  refine xr_op rfl rfl (xv_quo (c := (((b - a) / 4 : Nat) : Int)) rfl rfl (by omega) (by have e : ((b : Int) - (a : Int)).tdiv 4 = (((b - a) / 4 : Nat) : Int) := quo_nat (n := b - a) (k := 4) (by omega); rw [e]; exact wrap_i64 (by omega) (by omega)) ?_)
  refine xr_op rfl rfl (xv_mul rfl rfl (wrap_i64 (by (first | omega | (dsimp only at *; omega) | (simp at *; omega))) (by (first | omega | (dsimp only at *; omega) | (simp at *; omega)))) ?_)
  refine xr_op rfl rfl (xv_add rfl rfl (wrap_i64 (by (first | omega | (dsimp only at *; omega) | (simp at *; omega))) (by (first | omega | (dsimp only at *; omega) | (simp at *; omega)))) ?_)
  refine xr_op rfl rfl (xv_sub rfl rfl (wrap_i64 (by (first | omega | (dsimp only at *; omega) | (simp at *; omega))) (by (first | omega | (dsimp only at *; omega) | (simp at *; omega)))) ?_)
  refine xr_op rfl rfl (xv_assign rfl ?_)
  refine xr_end rfl ?_
  refine th_n ?_
  refine xc_block ?_
  refine xc_loop (σ := Nat × UInt64 × Array Card) (fun z => z.1 ≤ 3 ∧ Arr N p z.2.2 ∧ (z.2.1, z.2.2) = brkN a (b - a) (1 <<< Go.Sort.bitsLen (b - a)) (UInt64.ofNat (b - a), d) (a + (b - a) / 4 * 2 - 1) z.1) (fun z => ((((((emp.put (some 0) (.slice (some ⟨bb, 0, none⟩) N cap)).put (some 1) (I a)).put (some 8) (I ((b : Int) - a))).put (some 9) (.pointer (some ⟨br, 0, none⟩))).put (some 10) (U ((1 : UInt64) <<< UInt64.ofNat (Go.Sort.bitsLen (b - a))))).put (some 11) (I ((a : Int) + (((b - a) / 4 : Nat) : Int) * 2 - 1 + z.1)))) (fun z => ((br, .cells ⟨[U z.2.1]⟩ 125) :: (bb, .cells ⟨(z.2.2).toList.flatMap eCard ++ sp⟩ 78) :: L)) (fun z => 3 - z.1) ((0, UInt64.ofNat (b - a), d) : Nat × UInt64 × Array Card) ⟨Nat.zero_le _, hA, rfl⟩ (le_put (le_put (le_put (le_put (le_put (le_put (le_emp _) rfl) rfl) rfl) rfl) rfl) (by dsimp only; rw [Int.natCast_zero, Int.add_zero]; rfl)) (by (first|((repeat first|exact s_0|exact s_1|exact s_3|refine s_4 ?_|refine s_5 ?_|refine s_6 ?_|refine s_7 ?_);done)|((repeat first|exact s_0|exact s_1|exact s_3|refine s_4 ?_|refine s_5 ?_|refine s_6 ?_|refine s_8 ?_);done))) ?_
  rintro ⟨k, w, d1⟩ ⟨hk, hA1, heq⟩
  dsimp only at hk hA1 heq
  refine xc_seq ?_
  refine xc_seq (xc_region ?_)
  refine xr_op rfl rfl (xv_move rfl ?_)
  refine xr_op rfl rfl (xv_move rfl ?_)
  refine xr_op rfl rfl (xv_move rfl ?_)
  refine xr_op rfl rfl (xv_quo (c := (((b - a) / 4 : Nat) : Int)) rfl rfl (by omega) (by have e : ((b : Int) - (a : Int)).tdiv 4 = (((b - a) / 4 : Nat) : Int) := quo_nat (n := b - a) (k := 4) (by omega); rw [e]; exact wrap_i64 (by omega) (by omega)) ?_)
  refine xr_op rfl rfl (xv_mul rfl rfl (wrap_i64 (by (first | omega | (dsimp only at *; omega) | (simp at *; omega))) (by (first | omega | (dsimp only at *; omega) | (simp at *; omega)))) ?_)
  refine xr_op rfl rfl (xv_add rfl rfl (wrap_i64 (by (first | omega | (dsimp only at *; omega) | (simp at *; omega))) (by (first | omega | (dsimp only at *; omega) | (simp at *; omega)))) ?_)
  refine xr_op rfl rfl (xv_add rfl rfl (wrap_i64 (by (first | omega | (dsimp only at *; omega) | (simp at *; omega))) (by (first | omega | (dsimp only at *; omega) | (simp at *; omega)))) ?_)
  refine xr_op rfl rfl (xv_leq2 rfl rfl (fun q1 => ?_) (fun q1 => ?_))
  · refine xr_end rfl ?_
    refine th_n ?_
    refine xc_true rfl ?_
    refine xc_skip ?_
    refine th_n ?_
    refine xc_seq ?_
    refine xc_block ?_
    refine xc_seq (xc_region ?_)
    have hM1n : (((1 : UInt64) <<< UInt64.ofNat (Go.Sort.bitsLen (b - a))) - 1).toNat = (1 <<< Go.Sort.bitsLen (b - a)) - 1 := by rw [← hmf.1]; omega
    obtain ⟨o, ho⟩ : ∃ o : Nat, o = ((Go.Sort.xorNext w) &&& (((1 : UInt64) <<< UInt64.ofNat (Go.Sort.bitsLen (b - a))) - 1)).toNat := ⟨_, rfl⟩
    have hom : o ≤ (1 <<< Go.Sort.bitsLen (b - a)) - 1 := by rw [ho, UInt64.toNat_and, hM1n]; exact Nat.and_le_right
    refine xr_op rfl rfl (xv_calls rfl hb74 (next_c (w := w) (up_ret ?_)))
    refine xr_op rfl rfl (xv_move rfl ?_)
    refine xr_op rfl rfl (xv_sub (c := ((((1 : UInt64) <<< UInt64.ofNat (Go.Sort.bitsLen (b - a))) - 1).toNat : Int)) rfl rfl (by rw [hM1]; exact wrap_u64 (by rw [hmf.1]; omega) (by rw [hmf.1]; omega)) ?_)
    refine xr_op rfl rfl (xv_andU rfl rfl rfl ?_)
    refine xr_op rfl rfl (xv_convI (m := (o : Int)) Tryd.underlying103 Tryd.underlying3 rfl (by rw [← ho]; exact wrap_i64 (by omega) (by omega)) ?_)
    refine xr_op rfl rfl (xv_assign rfl ?_)
    refine xr_end rfl ?_
    refine th_n ?_
    refine xc_seq ?_
    refine xc_seq (xc_region ?_)
    refine xr_op rfl rfl (xv_move rfl ?_)
    refine xr_op rfl rfl (xv_move rfl ?_)
    refine xr_op rfl rfl (xv_geq2 rfl rfl (fun q2 => ?_) (fun q2 => ?_))
    · refine xr_end rfl ?_
      refine th_n ?_
      refine xc_true rfl ?_
      refine xc_region ?_
      refine xr_op rfl rfl (xv_move rfl ?_)
      refine xr_op rfl rfl (xv_move rfl ?_)
      refine xr_op rfl rfl (xv_sub rfl rfl (wrap_i64 (by (first | omega | (dsimp only at *; omega) | (simp at *; omega))) (by (first | omega | (dsimp only at *; omega) | (simp at *; omega)))) ?_)
      refine xr_op rfl rfl (xv_assign rfl ?_)
      refine xr_end rfl ?_
      refine th_n ?_
      refine xc_draw0 [(0, .S), (1, .S), (2, .S), (3, .S), (4, .S), (5, .S), (6, .S), (7, .S), (8, .S), (9, .S), (10, .S), (11, .R), (12, .S), (13, .S), (14, .S), (15, .R), (16, .S), (17, .O), (18, .S), (19, .O)] mixed (by kernel_rfl) ?_
      refine js_S rfl rfl (.inl rfl) (xv_move rfl ⟨rfl, rfl⟩) ?_
      refine js_S rfl rfl (.inl rfl) (xv_move rfl ⟨rfl, rfl⟩) ?_
      refine js_S rfl rfl (.inl rfl) (xv_move rfl ⟨rfl, rfl⟩) ?_
      refine js_S rfl rfl (.inl rfl) (xv_move rfl ⟨rfl, rfl⟩) ?_
      refine js_S rfl rfl (.inl rfl) (xv_move rfl ⟨rfl, rfl⟩) ?_
      refine js_S rfl rfl (.inl rfl) (xv_add rfl rfl (wrap_i64 (by (first | omega | (dsimp only at *; omega) | (simp at *; omega))) (by (first | omega | (dsimp only at *; omega) | (simp at *; omega)))) ⟨rfl, rfl⟩) ?_
      refine js_S rfl rfl (.inl rfl) (xv_move rfl ⟨rfl, rfl⟩) ?_
      refine js_S rfl rfl (.inl rfl) (xv_move rfl ⟨rfl, rfl⟩) ?_
      refine js_S rfl rfl (.inl rfl) (xv_move rfl ⟨rfl, rfl⟩) ?_
      refine js_S rfl rfl (.inl rfl) (xv_add rfl rfl (wrap_i64 (by (first | omega | (dsimp only at *; omega) | (simp at *; omega))) (by (first | omega | (dsimp only at *; omega) | (simp at *; omega)))) ⟨rfl, rfl⟩) ?_
      refine js_S rfl rfl (.inl rfl) (xv_ia (sz := 3) (j := (a + (o - (b - a)))) sl72 ty78 rfl rfl rfl (by (first | omega | (dsimp only at *; omega) | (simp at *; omega))) (by (first | omega | (dsimp only at *; omega) | (simp at *; omega))) (by (first | omega | (dsimp only at *; omega) | (simp at *; omega))) ⟨rfl, rfl⟩) ?_
      refine js_R0 rfl rfl (.inl rfl) (xv_loadA ty78 rfl rfl (by ((repeat first|exact z_0|assumption|refine z_1 ?_|(refine z_l ?_;(repeat first|exact z_0|assumption|refine z_1 ?_);done)|refine z_r ?_);done)) (ca_get eCard_len (k := (a + (o - (b - a)))) (by rw [hA1.size]; (first | omega | (dsimp only at *; omega) | (simp at *; omega)))) rfl ⟨rfl, rfl⟩) ?_
      refine js_S rfl rfl (.inl rfl) (xv_move rfl ⟨rfl, rfl⟩) ?_
      refine js_S rfl rfl (.inl rfl) (xv_move rfl ⟨rfl, rfl⟩) ?_
      refine js_S rfl rfl (.inl rfl) (xv_ia (sz := 3) (j := ((a + (b - a) / 4 * 2 - 1) + k)) sl72 ty78 rfl rfl rfl (by (first | omega | (dsimp only at *; omega) | (simp at *; omega))) (by (first | omega | (dsimp only at *; omega) | (simp at *; omega))) (by (first | omega | (dsimp only at *; omega) | (simp at *; omega))) ⟨rfl, rfl⟩) ?_
      refine js_R0 rfl rfl (.inl rfl) (xv_loadA ty78 rfl rfl (by ((repeat first|exact z_0|assumption|refine z_1 ?_|(refine z_l ?_;(repeat first|exact z_0|assumption|refine z_1 ?_);done)|refine z_r ?_);done)) (ca_get eCard_len (k := ((a + (b - a) / 4 * 2 - 1) + k)) (by rw [hA1.size]; (first | omega | (dsimp only at *; omega) | (simp at *; omega)))) rfl ⟨rfl, rfl⟩) ?_
      refine js_S rfl rfl (.inl rfl) (xv_ia (sz := 3) (j := ((a + (b - a) / 4 * 2 - 1) + k)) sl72 ty78 rfl rfl rfl (by (first | omega | (dsimp only at *; omega) | (simp at *; omega))) (by (first | omega | (dsimp only at *; omega) | (simp at *; omega))) (by (first | omega | (dsimp only at *; omega) | (simp at *; omega))) ⟨rfl, rfl⟩) ?_
      refine js_O0 rfl rfl (.inl rfl) (xv_s ty78 rfl rfl (by (first|(apply u_3;(repeat first|exact u_0|assumption|apply u_1|apply u_2);done)|((repeat first|exact u_0|assumption|apply u_1|apply u_2);done)|(apply u_3;apply u_3;(repeat first|exact u_0|assumption|apply u_1|apply u_2);done)|((repeat first|exact u_0|assumption|apply u_3|apply u_1);done))) rfl (by rfl) (by rfl) (ca_room eCard_len (k := ((a + (b - a) / 4 * 2 - 1) + k)) (by rw [hA1.size]; (first | omega | (dsimp only at *; omega) | (simp at *; omega)))) (ca_splice eCard_len (k := ((a + (b - a) / 4 * 2 - 1) + k)) (by rw [hA1.size]; (first | omega | (dsimp only at *; omega) | (simp at *; omega)))) ?_)
      refine js_S rfl rfl (.inl rfl) (xv_ia (sz := 3) (j := (a + (o - (b - a)))) sl72 ty78 rfl rfl rfl (by (first | omega | (dsimp only at *; omega) | (simp at *; omega))) (by (first | omega | (dsimp only at *; omega) | (simp at *; omega))) (by (first | omega | (dsimp only at *; omega) | (simp at *; omega))) ⟨rfl, rfl⟩) ?_
      refine js_O0 rfl rfl (.inl rfl) (xv_s ty78 rfl rfl (by (first|(apply u_3;(repeat first|exact u_0|assumption|apply u_1|apply u_2);done)|((repeat first|exact u_0|assumption|apply u_1|apply u_2);done)|(apply u_3;apply u_3;(repeat first|exact u_0|assumption|apply u_1|apply u_2);done)|((repeat first|exact u_0|assumption|apply u_3|apply u_1);done))) rfl (by rfl) (by rfl) (ca_room eCard_len (k := (a + (o - (b - a)))) (by rw [Array.size_setIfInBounds, hA1.size]; (first | omega | (dsimp only at *; omega) | (simp at *; omega)))) (ca_splice eCard_len (k := (a + (o - (b - a)))) (by rw [Array.size_setIfInBounds, hA1.size]; (first | omega | (dsimp only at *; omega) | (simp at *; omega)))) ?_)
      refine j_end0 ?_
      refine bk_n ?_
      refine th_n ?_
      refine xc_region ?_
      refine xr_op rfl rfl (xv_move rfl ?_)
      refine xr_op rfl rfl (xv_add rfl rfl (wrap_i64 (by (first | omega | (dsimp only at *; omega) | (simp at *; omega))) (by (first | omega | (dsimp only at *; omega) | (simp at *; omega)))) ?_)
      refine xr_op rfl rfl (xv_assign rfl ?_)
      refine xr_end rfl ?_
      have hst : brkN a (b - a) (1 <<< Go.Sort.bitsLen (b - a)) (UInt64.ofNat (b - a), d) (a + (b - a) / 4 * 2 - 1) (k + 1) = ((Go.Sort.xorNext w), Go.Sort.swp d1 ((a + (b - a) / 4 * 2 - 1) + k) (a + (o - (b - a)))) := by
        show Go.Sort.breakStep a (b - a) (1 <<< Go.Sort.bitsLen (b - a)) (brkN a (b - a) (1 <<< Go.Sort.bitsLen (b - a)) (UInt64.ofNat (b - a), d) (a + (b - a) / 4 * 2 - 1) k) ((a + (b - a) / 4 * 2 - 1) + k) = _
        rw [← heq]
        unfold Go.Sort.breakStep
        dsimp only
        rw [show (Go.Sort.xorNext w).toNat &&& ((1 <<< Go.Sort.bitsLen (b - a)) - 1) = o by rw [ho, UInt64.toNat_and, hM1n]]
        first | rw [if_pos (by (first | omega | (dsimp only at *; omega) | (simp at *; omega)))] | rw [if_neg (by (first | omega | (dsimp only at *; omega) | (simp at *; omega)))]
      exact rnd ((k + 1, (Go.Sort.xorNext w), Go.Sort.swp d1 ((a + (b - a) / 4 * 2 - 1) + k) (a + (o - (b - a)))) : Nat × UInt64 × Array Card) ⟨by (first | omega | (dsimp only at *; omega) | (simp at *; omega)), hA1.swp (by (first | omega | (dsimp only at *; omega) | (simp at *; omega))) (by (first | omega | (dsimp only at *; omega) | (simp at *; omega))), hst.symm⟩ (by (first | omega | (dsimp only at *; omega) | (simp at *; omega))) (le_put (le_put (le_put (le_put (le_put (le_put (le_emp _) rfl) rfl) rfl) rfl) rfl) (by dsimp only; rw [show ((a : Int) + (((b - a) / 4 : Nat) : Int) * 2 - 1 + ((k + 1 : Nat) : Int)) = (a : Int) + (((b - a) / 4 : Nat) : Int) * 2 - 1 + (k : Int) + 1 by omega]; rfl)) (by (first|((repeat first|exact s_0|exact s_1|exact s_3|refine s_4 ?_|refine s_5 ?_|refine s_6 ?_|refine s_7 ?_);done)|((repeat first|exact s_0|exact s_1|exact s_3|refine s_4 ?_|refine s_5 ?_|refine s_6 ?_|refine s_8 ?_);done)))
    · refine xr_end rfl ?_
      refine th_n ?_
      refine xc_false rfl ?_
      refine xc_skip ?_
      refine th_n ?_
      refine xc_draw0 [(0, .S), (1, .S), (2, .S), (3, .S), (4, .S), (5, .S), (6, .S), (7, .S), (8, .S), (9, .S), (10, .S), (11, .R), (12, .S), (13, .S), (14, .S), (15, .R), (16, .S), (17, .O), (18, .S), (19, .O)] mixed (by kernel_rfl) ?_
      refine js_S rfl rfl (.inl rfl) (xv_move rfl ⟨rfl, rfl⟩) ?_
      refine js_S rfl rfl (.inl rfl) (xv_move rfl ⟨rfl, rfl⟩) ?_
      refine js_S rfl rfl (.inl rfl) (xv_move rfl ⟨rfl, rfl⟩) ?_
      refine js_S rfl rfl (.inl rfl) (xv_move rfl ⟨rfl, rfl⟩) ?_
      refine js_S rfl rfl (.inl rfl) (xv_move rfl ⟨rfl, rfl⟩) ?_
      refine js_S rfl rfl (.inl rfl) (xv_add rfl rfl (wrap_i64 (by (first | omega | (dsimp only at *; omega) | (simp at *; omega))) (by (first | omega | (dsimp only at *; omega) | (simp at *; omega)))) ⟨rfl, rfl⟩) ?_
      refine js_S rfl rfl (.inl rfl) (xv_move rfl ⟨rfl, rfl⟩) ?_
      refine js_S rfl rfl (.inl rfl) (xv_move rfl ⟨rfl, rfl⟩) ?_
      refine js_S rfl rfl (.inl rfl) (xv_move rfl ⟨rfl, rfl⟩) ?_
      refine js_S rfl rfl (.inl rfl) (xv_add rfl rfl (wrap_i64 (by (first | omega | (dsimp only at *; omega) | (simp at *; omega))) (by (first | omega | (dsimp only at *; omega) | (simp at *; omega)))) ⟨rfl, rfl⟩) ?_
      refine js_S rfl rfl (.inl rfl) (xv_ia (sz := 3) (j := (a + o)) sl72 ty78 rfl rfl rfl (by (first | omega | (dsimp only at *; omega) | (simp at *; omega))) (by (first | omega | (dsimp only at *; omega) | (simp at *; omega))) (by (first | omega | (dsimp only at *; omega) | (simp at *; omega))) ⟨rfl, rfl⟩) ?_
      refine js_R0 rfl rfl (.inl rfl) (xv_loadA ty78 rfl rfl (by ((repeat first|exact z_0|assumption|refine z_1 ?_|(refine z_l ?_;(repeat first|exact z_0|assumption|refine z_1 ?_);done)|refine z_r ?_);done)) (ca_get eCard_len (k := (a + o)) (by rw [hA1.size]; (first | omega | (dsimp only at *; omega) | (simp at *; omega)))) rfl ⟨rfl, rfl⟩) ?_
      refine js_S rfl rfl (.inl rfl) (xv_move rfl ⟨rfl, rfl⟩) ?_
      refine js_S rfl rfl (.inl rfl) (xv_move rfl ⟨rfl, rfl⟩) ?_
      refine js_S rfl rfl (.inl rfl) (xv_ia (sz := 3) (j := ((a + (b - a) / 4 * 2 - 1) + k)) sl72 ty78 rfl rfl rfl (by (first | omega | (dsimp only at *; omega) | (simp at *; omega))) (by (first | omega | (dsimp only at *; omega) | (simp at *; omega))) (by (first | omega | (dsimp only at *; omega) | (simp at *; omega))) ⟨rfl, rfl⟩) ?_
      refine js_R0 rfl rfl (.inl rfl) (xv_loadA ty78 rfl rfl (by ((repeat first|exact z_0|assumption|refine z_1 ?_|(refine z_l ?_;(repeat first|exact z_0|assumption|refine z_1 ?_);done)|refine z_r ?_);done)) (ca_get eCard_len (k := ((a + (b - a) / 4 * 2 - 1) + k)) (by rw [hA1.size]; (first | omega | (dsimp only at *; omega) | (simp at *; omega)))) rfl ⟨rfl, rfl⟩) ?_
      refine js_S rfl rfl (.inl rfl) (xv_ia (sz := 3) (j := ((a + (b - a) / 4 * 2 - 1) + k)) sl72 ty78 rfl rfl rfl (by (first | omega | (dsimp only at *; omega) | (simp at *; omega))) (by (first | omega | (dsimp only at *; omega) | (simp at *; omega))) (by (first | omega | (dsimp only at *; omega) | (simp at *; omega))) ⟨rfl, rfl⟩) ?_
      refine js_O0 rfl rfl (.inl rfl) (xv_s ty78 rfl rfl (by (first|(apply u_3;(repeat first|exact u_0|assumption|apply u_1|apply u_2);done)|((repeat first|exact u_0|assumption|apply u_1|apply u_2);done)|(apply u_3;apply u_3;(repeat first|exact u_0|assumption|apply u_1|apply u_2);done)|((repeat first|exact u_0|assumption|apply u_3|apply u_1);done))) rfl (by rfl) (by rfl) (ca_room eCard_len (k := ((a + (b - a) / 4 * 2 - 1) + k)) (by rw [hA1.size]; (first | omega | (dsimp only at *; omega) | (simp at *; omega)))) (ca_splice eCard_len (k := ((a + (b - a) / 4 * 2 - 1) + k)) (by rw [hA1.size]; (first | omega | (dsimp only at *; omega) | (simp at *; omega)))) ?_)
      refine js_S rfl rfl (.inl rfl) (xv_ia (sz := 3) (j := (a + o)) sl72 ty78 rfl rfl rfl (by (first | omega | (dsimp only at *; omega) | (simp at *; omega))) (by (first | omega | (dsimp only at *; omega) | (simp at *; omega))) (by (first | omega | (dsimp only at *; omega) | (simp at *; omega))) ⟨rfl, rfl⟩) ?_
      refine js_O0 rfl rfl (.inl rfl) (xv_s ty78 rfl rfl (by (first|(apply u_3;(repeat first|exact u_0|assumption|apply u_1|apply u_2);done)|((repeat first|exact u_0|assumption|apply u_1|apply u_2);done)|(apply u_3;apply u_3;(repeat first|exact u_0|assumption|apply u_1|apply u_2);done)|((repeat first|exact u_0|assumption|apply u_3|apply u_1);done))) rfl (by rfl) (by rfl) (ca_room eCard_len (k := (a + o)) (by rw [Array.size_setIfInBounds, hA1.size]; (first | omega | (dsimp only at *; omega) | (simp at *; omega)))) (ca_splice eCard_len (k := (a + o)) (by rw [Array.size_setIfInBounds, hA1.size]; (first | omega | (dsimp only at *; omega) | (simp at *; omega)))) ?_)
      refine j_end0 ?_
      refine bk_n ?_
      refine th_n ?_
      refine xc_region ?_
      refine xr_op rfl rfl (xv_move rfl ?_)
      refine xr_op rfl rfl (xv_add rfl rfl (wrap_i64 (by (first | omega | (dsimp only at *; omega) | (simp at *; omega))) (by (first | omega | (dsimp only at *; omega) | (simp at *; omega)))) ?_)
      refine xr_op rfl rfl (xv_assign rfl ?_)
      refine xr_end rfl ?_
      have hst : brkN a (b - a) (1 <<< Go.Sort.bitsLen (b - a)) (UInt64.ofNat (b - a), d) (a + (b - a) / 4 * 2 - 1) (k + 1) = ((Go.Sort.xorNext w), Go.Sort.swp d1 ((a + (b - a) / 4 * 2 - 1) + k) (a + o)) := by
        show Go.Sort.breakStep a (b - a) (1 <<< Go.Sort.bitsLen (b - a)) (brkN a (b - a) (1 <<< Go.Sort.bitsLen (b - a)) (UInt64.ofNat (b - a), d) (a + (b - a) / 4 * 2 - 1) k) ((a + (b - a) / 4 * 2 - 1) + k) = _
        rw [← heq]
        unfold Go.Sort.breakStep
        dsimp only
        rw [show (Go.Sort.xorNext w).toNat &&& ((1 <<< Go.Sort.bitsLen (b - a)) - 1) = o by rw [ho, UInt64.toNat_and, hM1n]]
        first | rw [if_pos (by (first | omega | (dsimp only at *; omega) | (simp at *; omega)))] | rw [if_neg (by (first | omega | (dsimp only at *; omega) | (simp at *; omega)))]
      exact rnd ((k + 1, (Go.Sort.xorNext w), Go.Sort.swp d1 ((a + (b - a) / 4 * 2 - 1) + k) (a + o)) : Nat × UInt64 × Array Card) ⟨by (first | omega | (dsimp only at *; omega) | (simp at *; omega)), hA1.swp (by (first | omega | (dsimp only at *; omega) | (simp at *; omega))) (by (first | omega | (dsimp only at *; omega) | (simp at *; omega))), hst.symm⟩ (by (first | omega | (dsimp only at *; omega) | (simp at *; omega))) (le_put (le_put (le_put (le_put (le_put (le_put (le_emp _) rfl) rfl) rfl) rfl) rfl) (by dsimp only; rw [show ((a : Int) + (((b - a) / 4 : Nat) : Int) * 2 - 1 + ((k + 1 : Nat) : Int)) = (a : Int) + (((b - a) / 4 : Nat) : Int) * 2 - 1 + (k : Int) + 1 by omega]; rfl)) (by (first|((repeat first|exact s_0|exact s_1|exact s_3|refine s_4 ?_|refine s_5 ?_|refine s_6 ?_|refine s_7 ?_);done)|((repeat first|exact s_0|exact s_1|exact s_3|refine s_4 ?_|refine s_5 ?_|refine s_6 ?_|refine s_8 ?_);done)))
  · refine xr_end rfl ?_
    refine th_n ?_
    refine xc_false rfl ?_
    refine xc_exit ?_
    refine th_x ?_
    refine th_x ?_
    refine bk_same ?_
    refine body_end (h' := ((bb, .cells ⟨(d1).toList.flatMap eCard ++ sp⟩ 78) :: L)) rfl ro_nil (by (first|((repeat first|exact s_0|exact s_1|exact s_3|refine s_4 ?_|refine s_5 ?_|refine s_6 ?_|refine s_7 ?_);done)|((repeat first|exact s_0|exact s_1|exact s_3|refine s_4 ?_|refine s_5 ?_|refine s_6 ?_|refine s_8 ?_);done))) ?_
    (obtain rfl : k = 3 := by (first | omega | (dsimp only at *; omega) | (simp at *; omega))); (have e : d1 = Go.Sort.breakPatterns d a b := by rw [hres, ← heq]); rw [← e] at H; exact H hA1

end Go.Proofs.YtckaaaebegemoaaDoor
