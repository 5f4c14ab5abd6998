/-
  Walks.
-/
import Derived.Test.YtckaaaebegemoaaDoorTy
import Derived.Test.YtckaaaebegemoaaDoorD
namespace Go.Proofs.YtckaaaebegemoaaDoor
open Go Go.H
set_option maxRecDepth 100000
set_option maxHeartbeats 2000000
set_option linter.all false
theorem parteq_c {bb cap N : Nat} {sp : List Value} {d : Array Card} {f : Value} {cm : Card → Card → Int} {p : Card → Prop} {L : Hp} {R : Ending → Hp → Prop} (hA : Arr N p d) (hN : N ≤ 49) (hf : ∀ x y, p x → p y → ∀ H R', L ⊆ H → R' (.returned (I (cm x y))) H → AFn Tryd.prog f [.agg ⟨eCard x⟩, .agg ⟨eCard y⟩] H R') {a b pivot : Nat} {ai bi pi : Int} (ea : ai = a) (eb : bi = b) (ep : pi = pivot) (hap : a ≤ pivot) (hpb : pivot < b) (hb : b ≤ N) (H : a < (Go.Sort.partitionEqual (ltc cm) d a b pivot).1 → (Go.Sort.partitionEqual (ltc cm) d a b pivot).1 ≤ b → Arr N p (Go.Sort.partitionEqual (ltc cm) d a b pivot).2 → R (.returned (I ((Go.Sort.partitionEqual (ltc cm) d a b pivot).1 : Nat))) ((bb, .cells ⟨((Go.Sort.partitionEqual (ltc cm) d a b pivot).2).toList.flatMap eCard ++ sp⟩ 78) :: L)) :
    ACalls Tryd.prog 67 ⟨[.slice (some ⟨bb, 0, none⟩) N cap, I ai, I bi, I pi, f]⟩ ((bb, .cells ⟨(d).toList.flatMap eCard ++ sp⟩ 78) :: L) R := by
  subst ea eb ep
  refine calls_of_xc (N := 90) Tryd.func67 rfl (by rfl) ?_
  have hA1 := hA.swp (i := a) (j := pivot) (by omega) (by omega)
  refine xc_seq (xc_region ?_)
  refine xr_op rfl rfl (xv_assign rfl ?_)
  refine xr_end rfl ?_
  refine th_n ?_
  refine xc_seq ?_
  refine xc_draw0 [(0, .S), (1, .S), (2, .S), (3, .S), (4, .S), (5, .S), (6, .S), (7, .R), (8, .S), (9, .S), (10, .S), (11, .R), (12, .S), (13, .O), (14, .S), (15, .O)] mixed (by kernel_rfl) ?_
  refine js_S rfl rfl (.inl rfl) (xv_move rfl ⟨rfl, rfl⟩) ?_
  refine js_S rfl rfl (.inl rfl) (xv_move rfl ⟨rfl, rfl⟩) ?_
  refine js_S rfl rfl (.inl rfl) (xv_move rfl ⟨rfl, rfl⟩) ?_
  refine js_S rfl rfl (.inl rfl) (xv_move rfl ⟨rfl, rfl⟩) ?_
  refine js_S rfl rfl (.inl rfl) (xv_move rfl ⟨rfl, rfl⟩) ?_
  refine js_S rfl rfl (.inl rfl) (xv_move rfl ⟨rfl, rfl⟩) ?_
  refine js_S rfl rfl (.inl rfl) (xv_ia (sz := 3) (j := pivot) sl72 ty78 rfl rfl rfl (by (first | omega | (dsimp only at *; omega) | (simp at *; omega))) (by (first | omega | (dsimp only at *; omega) | (simp at *; omega))) (by (first | omega | (dsimp only at *; omega) | (simp at *; omega))) ⟨rfl, rfl⟩) ?_
  refine js_R0 rfl rfl (.inl rfl) (xv_loadA ty78 rfl rfl (by ((repeat first|exact z_0|assumption|refine z_1 ?_|(refine z_l ?_;(repeat first|exact z_0|assumption|refine z_1 ?_);done)|refine z_r ?_);done)) (ca_get eCard_len (k := pivot) (by rw [hA.size]; (first | omega | (dsimp only at *; omega) | (simp at *; omega)))) rfl ⟨rfl, rfl⟩) ?_
  refine js_S rfl rfl (.inl rfl) (xv_move rfl ⟨rfl, rfl⟩) ?_
  refine js_S rfl rfl (.inl rfl) (xv_move rfl ⟨rfl, rfl⟩) ?_
  refine js_S rfl rfl (.inl rfl) (xv_ia (sz := 3) (j := a) sl72 ty78 rfl rfl rfl (by (first | omega | (dsimp only at *; omega) | (simp at *; omega))) (by (first | omega | (dsimp only at *; omega) | (simp at *; omega))) (by (first | omega | (dsimp only at *; omega) | (simp at *; omega))) ⟨rfl, rfl⟩) ?_
  refine js_R0 rfl rfl (.inl rfl) (xv_loadA ty78 rfl rfl (by ((repeat first|exact z_0|assumption|refine z_1 ?_|(refine z_l ?_;(repeat first|exact z_0|assumption|refine z_1 ?_);done)|refine z_r ?_);done)) (ca_get eCard_len (k := a) (by rw [hA.size]; (first | omega | (dsimp only at *; omega) | (simp at *; omega)))) rfl ⟨rfl, rfl⟩) ?_
  refine js_S rfl rfl (.inl rfl) (xv_ia (sz := 3) (j := a) sl72 ty78 rfl rfl rfl (by (first | omega | (dsimp only at *; omega) | (simp at *; omega))) (by (first | omega | (dsimp only at *; omega) | (simp at *; omega))) (by (first | omega | (dsimp only at *; omega) | (simp at *; omega))) ⟨rfl, rfl⟩) ?_
  refine js_O0 rfl rfl (.inl rfl) (xv_s ty78 rfl rfl (by (first|(apply u_3;(repeat first|exact u_0|assumption|apply u_1|apply u_2);done)|((repeat first|exact u_0|assumption|apply u_1|apply u_2);done)|(apply u_3;apply u_3;(repeat first|exact u_0|assumption|apply u_1|apply u_2);done)|((repeat first|exact u_0|assumption|apply u_3|apply u_1);done))) rfl (by rfl) (by rfl) (ca_room eCard_len (k := a) (by rw [hA.size]; (first | omega | (dsimp only at *; omega) | (simp at *; omega)))) (ca_splice eCard_len (k := a) (by rw [hA.size]; (first | omega | (dsimp only at *; omega) | (simp at *; omega)))) ?_)
  refine js_S rfl rfl (.inl rfl) (xv_ia (sz := 3) (j := pivot) sl72 ty78 rfl rfl rfl (by (first | omega | (dsimp only at *; omega) | (simp at *; omega))) (by (first | omega | (dsimp only at *; omega) | (simp at *; omega))) (by (first | omega | (dsimp only at *; omega) | (simp at *; omega))) ⟨rfl, rfl⟩) ?_
  refine js_O0 rfl rfl (.inl rfl) (xv_s ty78 rfl rfl (by (first|(apply u_3;(repeat first|exact u_0|assumption|apply u_1|apply u_2);done)|((repeat first|exact u_0|assumption|apply u_1|apply u_2);done)|(apply u_3;apply u_3;(repeat first|exact u_0|assumption|apply u_1|apply u_2);done)|((repeat first|exact u_0|assumption|apply u_3|apply u_1);done))) rfl (by rfl) (by rfl) (ca_room eCard_len (k := pivot) (by rw [Array.size_setIfInBounds, hA.size]; (first | omega | (dsimp only at *; omega) | (simp at *; omega)))) (ca_splice eCard_len (k := pivot) (by rw [Array.size_setIfInBounds, hA.size]; (first | omega | (dsimp only at *; omega) | (simp at *; omega)))) ?_)
  refine j_end0 ?_
  refine th_n ?_
  refine xc_seq (xc_region ?_)
  refine xr_op rfl rfl (xv_move rfl ?_)
  refine xr_op rfl rfl (xv_add rfl rfl (wrap_i64 (by (first | omega | (dsimp only at *; omega) | (simp at *; omega))) (by (first | omega | (dsimp only at *; omega) | (simp at *; omega)))) ?_)
  refine xr_op rfl rfl (xv_move rfl ?_)
  refine xr_op rfl rfl (xv_sub rfl rfl (wrap_i64 (by (first | omega | (dsimp only at *; omega) | (simp at *; omega))) (by (first | omega | (dsimp only at *; omega) | (simp at *; omega)))) ?_)
  refine xr_op rfl rfl (xv_assign rfl ?_)
  refine xr_op rfl rfl (xv_assign rfl ?_)
  refine xr_end rfl ?_
  refine th_n ?_
  refine xc_seq ?_
  refine xc_block ?_
  refine xc_loop (σ := Nat × Nat × Array Card) (fun z => a + 1 ≤ z.1 ∧ z.1 ≤ b ∧ a ≤ z.2.1 ∧ z.2.1 + 1 ≤ b ∧ Arr N p z.2.2 ∧ Go.Sort.partEqLoop (ltc cm) a z.1 z.2.1 z.2.2 = Go.Sort.partitionEqual (ltc cm) d a b pivot) (fun z => (((((emp.put (some 0) (.slice (some ⟨bb, 0, none⟩) N cap)).put (some 1) (I a)).put (some 4) (f)).put (some 11) (I z.1)).put (some 12) (I z.2.1))) (fun z => ((bb, .cells ⟨(z.2.2).toList.flatMap eCard ++ sp⟩ 78) :: L)) (fun z => z.2.1 + 1 - z.1) ((a + 1, b - 1, Go.Sort.swp d a pivot) : Nat × Nat × Array Card) ⟨Nat.le_refl _, by dsimp only; omega, by dsimp only; omega, by dsimp only; omega, hA.swp (by omega) (by omega), rfl⟩ (le_put (le_put (le_put (le_put (le_put (le_emp _) rfl) rfl) rfl) rfl) (by dsimp only; rw [show ((b - 1 : Nat) : Int) = (b : Int) - 1 by omega]; rfl)) (by (first|((repeat first|exact s_0|exact s_1|exact s_3|refine s_4 ?_|refine s_5 ?_|refine s_6 ?_|refine s_7 ?_);done)|((repeat first|exact s_0|exact s_1|exact s_3|refine s_4 ?_|refine s_5 ?_|refine s_6 ?_|refine s_8 ?_);done))) ?_
  rintro ⟨i1, j1, d2⟩ ⟨ho1, ho2, ho3, ho4, hA2, heq⟩
  dsimp only at ho1 ho2 ho3 ho4 hA2 heq
  refine xc_block ?_
  refine xc_join (σ := Nat) (fun i => a + 1 ≤ i ∧ i ≤ b ∧ Go.Sort.scanUp (fun x => !ltc cm d2[a]! x) d2 j1 i1 = i) (fun i => (((((emp.put (some 0) (.slice (some ⟨bb, 0, none⟩) N cap)).put (some 1) (I a)).put (some 4) (f)).put (some 11) (I i)).put (some 12) (I ((j1 : Nat) : Int)))) (fun i => ((bb, .cells ⟨(d2).toList.flatMap eCard ++ sp⟩ 78) :: L)) ?_ ?_
  · refine xc_block ?_
    refine xc_loop (σ := Nat) (fun i => a + 1 ≤ i ∧ i ≤ b ∧ Go.Sort.scanUp (fun x => !ltc cm d2[a]! x) d2 j1 i = Go.Sort.scanUp (fun x => !ltc cm d2[a]! x) d2 j1 i1) (fun i => (((((emp.put (some 0) (.slice (some ⟨bb, 0, none⟩) N cap)).put (some 1) (I a)).put (some 4) (f)).put (some 11) (I i)).put (some 12) (I ((j1 : Nat) : Int)))) (fun i => ((bb, .cells ⟨(d2).toList.flatMap eCard ++ sp⟩ 78) :: L)) (fun i => b - i) i1 ⟨by (first | omega | (dsimp only at *; omega) | (simp at *; omega)), by (first | omega | (dsimp only at *; omega) | (simp at *; omega)), rfl⟩ (le_put (le_put (le_put (le_put (le_put (le_emp _) rfl) rfl) rfl) rfl) (by first | rfl | (rw [show ((j1 : Nat) : Int) = (b : Int) - 1 by omega]; rfl))) (by (first|((repeat first|exact s_0|exact s_1|exact s_3|refine s_4 ?_|refine s_5 ?_|refine s_6 ?_|refine s_7 ?_);done)|((repeat first|exact s_0|exact s_1|exact s_3|refine s_4 ?_|refine s_5 ?_|refine s_6 ?_|refine s_8 ?_);done))) ?_
    rintro i ⟨hi1, hi2, hup⟩
    refine xc_seq ?_
    refine xc_seq ?_
    refine xc_draw0 [(0, .S), (1, .S), (2, .O), (3, .S), (4, .S), (5, .S), (6, .S), (7, .S), (8, .R), (9, .S), (10, .S), (11, .S), (12, .R), (13, .R), (14, .O), (15, .S), (16, .S)] mixed (by kernel_rfl) ?_
    refine js_S rfl rfl (.inl rfl) (xv_move rfl ⟨rfl, rfl⟩) ?_
    refine js_S rfl rfl (.inl rfl) (xv_move rfl ⟨rfl, rfl⟩) ?_
    refine js_O0 rfl rfl (.inl rfl) (xv_leq2 rfl rfl (fun hq => ?_) (fun hq => ?_))
    · refine js_S rfl rfl (.inl rfl) (xv_move rfl ⟨rfl, rfl⟩) ?_
      refine js_S rfl rfl (.inr ⟨_, _, rfl, rfl⟩) (xv_move rfl ⟨rfl, rfl⟩) ?_
      refine js_S rfl rfl (.inr ⟨_, _, rfl, rfl⟩) (xv_move rfl ⟨rfl, rfl⟩) ?_
      refine js_S rfl rfl (.inr ⟨_, _, rfl, rfl⟩) (xv_move rfl ⟨rfl, rfl⟩) ?_
      refine js_S rfl rfl (.inr ⟨_, _, rfl, rfl⟩) (xv_ia (sz := 3) (j := a) sl72 ty78 rfl rfl rfl (by (first | omega | (dsimp only at *; omega) | (simp at *; omega))) (by (first | omega | (dsimp only at *; omega) | (simp at *; omega))) (by (first | omega | (dsimp only at *; omega) | (simp at *; omega))) ⟨rfl, rfl⟩) ?_
      refine js_R0 rfl rfl (.inr ⟨_, _, rfl, rfl⟩) (xv_loadA ty78 rfl rfl (by ((repeat first|exact z_0|assumption|refine z_1 ?_|(refine z_l ?_;(repeat first|exact z_0|assumption|refine z_1 ?_);done)|refine z_r ?_);done)) (ca_get eCard_len (k := a) (by rw [hA2.size]; (first | omega | (dsimp only at *; omega) | (simp at *; omega)))) rfl ⟨rfl, rfl⟩) ?_
      refine js_S rfl rfl (.inr ⟨_, _, rfl, rfl⟩) (xv_move rfl ⟨rfl, rfl⟩) ?_
      refine js_S rfl rfl (.inr ⟨_, _, rfl, rfl⟩) (xv_move rfl ⟨rfl, rfl⟩) ?_
      refine js_S rfl rfl (.inr ⟨_, _, rfl, rfl⟩) (xv_ia (sz := 3) (j := i) sl72 ty78 rfl rfl rfl (by (first | omega | (dsimp only at *; omega) | (simp at *; omega))) (by (first | omega | (dsimp only at *; omega) | (simp at *; omega))) (by (first | omega | (dsimp only at *; omega) | (simp at *; omega))) ⟨rfl, rfl⟩) ?_
      refine js_R0 rfl rfl (.inr ⟨_, _, rfl, rfl⟩) (xv_loadA ty78 rfl rfl (by ((repeat first|exact z_0|assumption|refine z_1 ?_|(refine z_l ?_;(repeat first|exact z_0|assumption|refine z_1 ?_);done)|refine z_r ?_);done)) (ca_get eCard_len (k := i) (by rw [hA2.size]; (first | omega | (dsimp only at *; omega) | (simp at *; omega)))) rfl ⟨rfl, rfl⟩) ?_
      refine js_R0 rfl rfl (.inr ⟨_, _, rfl, rfl⟩) (xv_fn rfl rfl (hf _ _ (hA2.all _ (by (first | omega | (dsimp only at *; omega) | (simp at *; omega)))) (hA2.all _ (by (first | omega | (dsimp only at *; omega) | (simp at *; omega)))) _ _ (by intro z hz; ((repeat first|exact z_0|assumption|refine z_1 ?_|(refine z_l ?_;(repeat first|exact z_0|assumption|refine z_1 ?_);done)|refine z_r ?_);done)) (up_ret ⟨rfl, rfl⟩))) ?_
      refine js_O0 rfl rfl (.inr ⟨_, _, rfl, rfl⟩) (xv_lss2 rfl rfl (fun hq => ?_) (fun hq => ?_))
      · refine js_S rfl rfl (.inr ⟨_, _, rfl, rfl⟩) (xv_not rfl ⟨rfl, rfl⟩) ?_
        refine js_S rfl rfl (.inl rfl) (xv_pick rfl rfl ⟨rfl, rfl⟩) ?_
        refine j_end0 ?_
        refine th_n ?_
        refine xc_false rfl ?_
        refine xc_exit ?_
        refine th_x ?_
        refine th_x ?_
        refine bk_same ?_
        exact jn_n i ⟨by (first | omega | (dsimp only at *; omega) | (simp at *; omega)), by (first | omega | (dsimp only at *; omega) | (simp at *; omega)), by
          rw [← hup]; first | exact scanUp_stop (p := (fun x => !ltc cm d2[a]! x)) (d := d2) (.inl (by (first | omega | (dsimp only at *; omega) | (simp at *; omega)))) | exact scanUp_stop (p := (fun x => !ltc cm d2[a]! x)) (d := d2) (.inr (notF (ltc_T (by (first | omega | (dsimp only at *; omega) | (simp at *; omega))))))⟩ (le_put (le_put (le_put (le_put (le_put (le_emp _) rfl) rfl) rfl) rfl) rfl) (by (first|((repeat first|exact s_0|exact s_1|exact s_3|refine s_4 ?_|refine s_5 ?_|refine s_6 ?_|refine s_7 ?_);done)|((repeat first|exact s_0|exact s_1|exact s_3|refine s_4 ?_|refine s_5 ?_|refine s_6 ?_|refine s_8 ?_);done)))
      · refine js_S rfl rfl (.inr ⟨_, _, rfl, rfl⟩) (xv_not rfl ⟨rfl, rfl⟩) ?_
        refine js_S rfl rfl (.inl rfl) (xv_pick rfl rfl ⟨rfl, rfl⟩) ?_
        refine j_end0 ?_
        refine th_n ?_
        refine xc_true rfl ?_
        refine xc_skip ?_
        refine th_n ?_
        refine xc_block ?_
        refine xc_region ?_
        refine xr_op rfl rfl (xv_move rfl ?_)
        refine xr_op rfl rfl (xv_add rfl rfl (wrap_i64 (by (first | omega | (dsimp only at *; omega) | (simp at *; omega))) (by (first | omega | (dsimp only at *; omega) | (simp at *; omega)))) ?_)
        refine xr_op rfl rfl (xv_assign rfl ?_)
        refine xr_end rfl ?_
        refine bk_n ?_
        exact rnd (i + 1) ⟨by (first | omega | (dsimp only at *; omega) | (simp at *; omega)), by (first | omega | (dsimp only at *; omega) | (simp at *; omega)), (scanUp_step (p := (fun x => !ltc cm d2[a]! x)) (d := d2) (by (first | omega | (dsimp only at *; omega) | (simp at *; omega))) (notT (ltc_F (by (first | omega | (dsimp only at *; omega) | (simp at *; omega)))))).symm.trans hup⟩ (by (first | omega | (dsimp only at *; omega) | (simp at *; omega))) (le_put (le_put (le_put (le_put (le_put (le_emp _) rfl) rfl) rfl) rfl) rfl) (by (first|((repeat first|exact s_0|exact s_1|exact s_3|refine s_4 ?_|refine s_5 ?_|refine s_6 ?_|refine s_7 ?_);done)|((repeat first|exact s_0|exact s_1|exact s_3|refine s_4 ?_|refine s_5 ?_|refine s_6 ?_|refine s_8 ?_);done)))
    · refine js_S rfl rfl (.inl rfl) (xv_move rfl ⟨rfl, rfl⟩) ?_
      refine js_Ss rfl rfl ⟨_, _, _, rfl, rfl, rfl⟩ ?_
      refine js_Ss rfl rfl ⟨_, _, _, rfl, rfl, rfl⟩ ?_
      refine js_Ss rfl rfl ⟨_, _, _, rfl, rfl, rfl⟩ ?_
      refine js_Ss rfl rfl ⟨_, _, _, rfl, rfl, rfl⟩ ?_
      refine js_Rs rfl rfl ⟨_, _, _, rfl, rfl, rfl⟩ ?_
      refine js_Ss rfl rfl ⟨_, _, _, rfl, rfl, rfl⟩ ?_
      refine js_Ss rfl rfl ⟨_, _, _, rfl, rfl, rfl⟩ ?_
      refine js_Ss rfl rfl ⟨_, _, _, rfl, rfl, rfl⟩ ?_
      refine js_Rs rfl rfl ⟨_, _, _, rfl, rfl, rfl⟩ ?_
      refine js_Rs rfl rfl ⟨_, _, _, rfl, rfl, rfl⟩ ?_
      refine js_Os rfl rfl ⟨_, _, _, rfl, rfl, rfl⟩ ?_
      refine js_Ss rfl rfl ⟨_, _, _, rfl, rfl, rfl⟩ ?_
      refine js_S rfl rfl (.inl rfl) (xv_pick rfl rfl ⟨rfl, rfl⟩) ?_
      refine j_end0 ?_
      refine th_n ?_
      refine xc_false rfl ?_
      refine xc_exit ?_
      refine th_x ?_
      refine th_x ?_
      refine bk_same ?_
      exact jn_n i ⟨by (first | omega | (dsimp only at *; omega) | (simp at *; omega)), by (first | omega | (dsimp only at *; omega) | (simp at *; omega)), by
        rw [← hup]; first | exact scanUp_stop (p := (fun x => !ltc cm d2[a]! x)) (d := d2) (.inl (by (first | omega | (dsimp only at *; omega) | (simp at *; omega)))) | exact scanUp_stop (p := (fun x => !ltc cm d2[a]! x)) (d := d2) (.inr (notF (ltc_T (by (first | omega | (dsimp only at *; omega) | (simp at *; omega))))))⟩ (le_put (le_put (le_put (le_put (le_put (le_emp _) rfl) rfl) rfl) rfl) rfl) (by (first|((repeat first|exact s_0|exact s_1|exact s_3|refine s_4 ?_|refine s_5 ?_|refine s_6 ?_|refine s_7 ?_);done)|((repeat first|exact s_0|exact s_1|exact s_3|refine s_4 ?_|refine s_5 ?_|refine s_6 ?_|refine s_8 ?_);done)))
  · rintro i ⟨hi1, hi2, hup2⟩
    refine xc_join (σ := Nat) (fun j => a ≤ j ∧ j ≤ j1 ∧ Go.Sort.scanDown (fun x => ltc cm d2[a]! x) d2 i j1 = j) (fun j => (((((emp.put (some 0) (.slice (some ⟨bb, 0, none⟩) N cap)).put (some 1) (I a)).put (some 4) (f)).put (some 11) (I i)).put (some 12) (I j))) (fun j => ((bb, .cells ⟨(d2).toList.flatMap eCard ++ sp⟩ 78) :: L)) ?_ ?_
    · refine xc_block ?_
      refine xc_loop (σ := Nat) (fun j => a ≤ j ∧ j ≤ j1 ∧ Go.Sort.scanDown (fun x => ltc cm d2[a]! x) d2 i j = Go.Sort.scanDown (fun x => ltc cm d2[a]! x) d2 i j1) (fun j => (((((emp.put (some 0) (.slice (some ⟨bb, 0, none⟩) N cap)).put (some 1) (I a)).put (some 4) (f)).put (some 11) (I i)).put (some 12) (I j))) (fun j => ((bb, .cells ⟨(d2).toList.flatMap eCard ++ sp⟩ 78) :: L)) (fun j => j) j1 ⟨by (first | omega | (dsimp only at *; omega) | (simp at *; omega)), Nat.le_refl _, rfl⟩ (le_put (le_put (le_put (le_put (le_put (le_emp _) rfl) rfl) rfl) rfl) rfl) (by (first|((repeat first|exact s_0|exact s_1|exact s_3|refine s_4 ?_|refine s_5 ?_|refine s_6 ?_|refine s_7 ?_);done)|((repeat first|exact s_0|exact s_1|exact s_3|refine s_4 ?_|refine s_5 ?_|refine s_6 ?_|refine s_8 ?_);done))) ?_
      rintro j ⟨hj1, hj2, hdn⟩
      refine xc_seq ?_
      refine xc_seq ?_
      refine xc_draw0 [(0, .S), (1, .S), (2, .O), (3, .S), (4, .S), (5, .S), (6, .S), (7, .S), (8, .R), (9, .S), (10, .S), (11, .S), (12, .R), (13, .R), (14, .O), (15, .S)] mixed (by kernel_rfl) ?_
      refine js_S rfl rfl (.inl rfl) (xv_move rfl ⟨rfl, rfl⟩) ?_
      refine js_S rfl rfl (.inl rfl) (xv_move rfl ⟨rfl, rfl⟩) ?_
      refine js_O0 rfl rfl (.inl rfl) (xv_leq2 rfl rfl (fun hq => ?_) (fun hq => ?_))
      · refine js_S rfl rfl (.inl rfl) (xv_move rfl ⟨rfl, rfl⟩) ?_
        refine js_S rfl rfl (.inr ⟨_, _, rfl, rfl⟩) (xv_move rfl ⟨rfl, rfl⟩) ?_
        refine js_S rfl rfl (.inr ⟨_, _, rfl, rfl⟩) (xv_move rfl ⟨rfl, rfl⟩) ?_
        refine js_S rfl rfl (.inr ⟨_, _, rfl, rfl⟩) (xv_move rfl ⟨rfl, rfl⟩) ?_
        refine js_S rfl rfl (.inr ⟨_, _, rfl, rfl⟩) (xv_ia (sz := 3) (j := a) sl72 ty78 rfl rfl rfl (by (first | omega | (dsimp only at *; omega) | (simp at *; omega))) (by (first | omega | (dsimp only at *; omega) | (simp at *; omega))) (by (first | omega | (dsimp only at *; omega) | (simp at *; omega))) ⟨rfl, rfl⟩) ?_
        refine js_R0 rfl rfl (.inr ⟨_, _, rfl, rfl⟩) (xv_loadA ty78 rfl rfl (by ((repeat first|exact z_0|assumption|refine z_1 ?_|(refine z_l ?_;(repeat first|exact z_0|assumption|refine z_1 ?_);done)|refine z_r ?_);done)) (ca_get eCard_len (k := a) (by rw [hA2.size]; (first | omega | (dsimp only at *; omega) | (simp at *; omega)))) rfl ⟨rfl, rfl⟩) ?_
        refine js_S rfl rfl (.inr ⟨_, _, rfl, rfl⟩) (xv_move rfl ⟨rfl, rfl⟩) ?_
        refine js_S rfl rfl (.inr ⟨_, _, rfl, rfl⟩) (xv_move rfl ⟨rfl, rfl⟩) ?_
        refine js_S rfl rfl (.inr ⟨_, _, rfl, rfl⟩) (xv_ia (sz := 3) (j := j) sl72 ty78 rfl rfl rfl (by (first | omega | (dsimp only at *; omega) | (simp at *; omega))) (by (first | omega | (dsimp only at *; omega) | (simp at *; omega))) (by (first | omega | (dsimp only at *; omega) | (simp at *; omega))) ⟨rfl, rfl⟩) ?_
        refine js_R0 rfl rfl (.inr ⟨_, _, rfl, rfl⟩) (xv_loadA ty78 rfl rfl (by ((repeat first|exact z_0|assumption|refine z_1 ?_|(refine z_l ?_;(repeat first|exact z_0|assumption|refine z_1 ?_);done)|refine z_r ?_);done)) (ca_get eCard_len (k := j) (by rw [hA2.size]; (first | omega | (dsimp only at *; omega) | (simp at *; omega)))) rfl ⟨rfl, rfl⟩) ?_
        refine js_R0 rfl rfl (.inr ⟨_, _, rfl, rfl⟩) (xv_fn rfl rfl (hf _ _ (hA2.all _ (by (first | omega | (dsimp only at *; omega) | (simp at *; omega)))) (hA2.all _ (by (first | omega | (dsimp only at *; omega) | (simp at *; omega)))) _ _ (by intro z hz; ((repeat first|exact z_0|assumption|refine z_1 ?_|(refine z_l ?_;(repeat first|exact z_0|assumption|refine z_1 ?_);done)|refine z_r ?_);done)) (up_ret ⟨rfl, rfl⟩))) ?_
        refine js_O0 rfl rfl (.inr ⟨_, _, rfl, rfl⟩) (xv_lss2 rfl rfl (fun hq => ?_) (fun hq => ?_))
        · refine js_S rfl rfl (.inl rfl) (xv_pick rfl rfl ⟨rfl, rfl⟩) ?_
          refine j_end0 ?_
          refine th_n ?_
          refine xc_true rfl ?_
          refine xc_skip ?_
          refine th_n ?_
          refine xc_block ?_
          refine xc_region ?_
          refine xr_op rfl rfl (xv_move rfl ?_)
          refine xr_op rfl rfl (xv_sub rfl rfl (wrap_i64 (by (first | omega | (dsimp only at *; omega) | (simp at *; omega))) (by (first | omega | (dsimp only at *; omega) | (simp at *; omega)))) ?_)
          refine xr_op rfl rfl (xv_assign rfl ?_)
          refine xr_end rfl ?_
          refine bk_n ?_
          exact rnd (j - 1) ⟨by (first | omega | (dsimp only at *; omega) | (simp at *; omega)), by (first | omega | (dsimp only at *; omega) | (simp at *; omega)), (scanDown_step (p := (fun x => ltc cm d2[a]! x)) (d := d2) (by (first | omega | (dsimp only at *; omega) | (simp at *; omega))) (by (first | omega | (dsimp only at *; omega) | (simp at *; omega))) (ltc_T (by (first | omega | (dsimp only at *; omega) | (simp at *; omega))))).symm.trans hdn⟩ (by (first | omega | (dsimp only at *; omega) | (simp at *; omega))) (le_put (le_put (le_put (le_put (le_put (le_emp _) rfl) rfl) rfl) rfl) (by rw [show ((j - 1 : Nat) : Int) = (j : Int) - 1 by (first | omega | (dsimp only at *; omega) | (simp at *; omega))]; rfl)) (by (first|((repeat first|exact s_0|exact s_1|exact s_3|refine s_4 ?_|refine s_5 ?_|refine s_6 ?_|refine s_7 ?_);done)|((repeat first|exact s_0|exact s_1|exact s_3|refine s_4 ?_|refine s_5 ?_|refine s_6 ?_|refine s_8 ?_);done)))
        · refine js_S rfl rfl (.inl rfl) (xv_pick rfl rfl ⟨rfl, rfl⟩) ?_
          refine j_end0 ?_
          refine th_n ?_
          refine xc_false rfl ?_
          refine xc_exit ?_
          refine th_x ?_
          refine th_x ?_
          refine bk_same ?_
          exact jn_n j ⟨by (first | omega | (dsimp only at *; omega) | (simp at *; omega)), by (first | omega | (dsimp only at *; omega) | (simp at *; omega)), by
            rw [← hdn]; first | exact scanDown_stop (p := (fun x => ltc cm d2[a]! x)) (d := d2) (.inl (by (first | omega | (dsimp only at *; omega) | (simp at *; omega)))) | exact scanDown_stop (p := (fun x => ltc cm d2[a]! x)) (d := d2) (.inr (ltc_F (by (first | omega | (dsimp only at *; omega) | (simp at *; omega)))))⟩ (le_put (le_put (le_put (le_put (le_put (le_emp _) rfl) rfl) rfl) rfl) rfl) (by (first|((repeat first|exact s_0|exact s_1|exact s_3|refine s_4 ?_|refine s_5 ?_|refine s_6 ?_|refine s_7 ?_);done)|((repeat first|exact s_0|exact s_1|exact s_3|refine s_4 ?_|refine s_5 ?_|refine s_6 ?_|refine s_8 ?_);done)))
      · refine js_S rfl rfl (.inl rfl) (xv_move rfl ⟨rfl, rfl⟩) ?_
        refine js_Ss rfl rfl ⟨_, _, _, rfl, rfl, rfl⟩ ?_
        refine js_Ss rfl rfl ⟨_, _, _, rfl, rfl, rfl⟩ ?_
        refine js_Ss rfl rfl ⟨_, _, _, rfl, rfl, rfl⟩ ?_
        refine js_Ss rfl rfl ⟨_, _, _, rfl, rfl, rfl⟩ ?_
        refine js_Rs rfl rfl ⟨_, _, _, rfl, rfl, rfl⟩ ?_
        refine js_Ss rfl rfl ⟨_, _, _, rfl, rfl, rfl⟩ ?_
        refine js_Ss rfl rfl ⟨_, _, _, rfl, rfl, rfl⟩ ?_
        refine js_Ss rfl rfl ⟨_, _, _, rfl, rfl, rfl⟩ ?_
        refine js_Rs rfl rfl ⟨_, _, _, rfl, rfl, rfl⟩ ?_
        refine js_Rs rfl rfl ⟨_, _, _, rfl, rfl, rfl⟩ ?_
        refine js_Os rfl rfl ⟨_, _, _, rfl, rfl, rfl⟩ ?_
        refine js_S rfl rfl (.inl rfl) (xv_pick rfl rfl ⟨rfl, rfl⟩) ?_
        refine j_end0 ?_
        refine th_n ?_
        refine xc_false rfl ?_
        refine xc_exit ?_
        refine th_x ?_
        refine th_x ?_
        refine bk_same ?_
        exact jn_n j ⟨by (first | omega | (dsimp only at *; omega) | (simp at *; omega)), by (first | omega | (dsimp only at *; omega) | (simp at *; omega)), by
          rw [← hdn]; first | exact scanDown_stop (p := (fun x => ltc cm d2[a]! x)) (d := d2) (.inl (by (first | omega | (dsimp only at *; omega) | (simp at *; omega)))) | exact scanDown_stop (p := (fun x => ltc cm d2[a]! x)) (d := d2) (.inr (ltc_F (by (first | omega | (dsimp only at *; omega) | (simp at *; omega)))))⟩ (le_put (le_put (le_put (le_put (le_put (le_emp _) rfl) rfl) rfl) rfl) rfl) (by (first|((repeat first|exact s_0|exact s_1|exact s_3|refine s_4 ?_|refine s_5 ?_|refine s_6 ?_|refine s_7 ?_);done)|((repeat first|exact s_0|exact s_1|exact s_3|refine s_4 ?_|refine s_5 ?_|refine s_6 ?_|refine s_8 ?_);done)))
    · rintro j ⟨hj1, hj2, hdn2⟩
      refine xc_seq ?_
      refine xc_seq (xc_region ?_)
      refine xr_op rfl rfl (xv_move rfl ?_)
      refine xr_op rfl rfl (xv_move rfl ?_)
      refine xr_op rfl rfl (xv_gtr2 rfl rfl (fun q1 => ?_) (fun q1 => ?_))
      · refine xr_end rfl ?_
        refine th_n ?_
        refine xc_true rfl ?_
        refine xc_exit ?_
        refine th_x ?_
        refine bk_other rfl ?_
        refine th_x ?_
        refine bk_same ?_
        refine th_n ?_
        refine xc_seq (xc_region ?_)
        have hres := (partEq_stop (lt := ltc cm) hup2 hdn2 (by (first | omega | (dsimp only at *; omega) | (simp at *; omega)))).symm.trans heq
        refine xr_op rfl rfl (xv_move rfl ?_)
        refine xr_op rfl rfl (xv_assign rfl ?_)
        refine xr_end rfl ?_
        refine th_n ?_
        refine xc_ret ?_
        refine body_ret (h' := ((bb, .cells ⟨(d2).toList.flatMap eCard ++ sp⟩ 78) :: L)) rfl (ro_tmp rfl ro_nil) (by (first|((repeat first|exact s_0|exact s_1|exact s_3|refine s_4 ?_|refine s_5 ?_|refine s_6 ?_|refine s_7 ?_);done)|((repeat first|exact s_0|exact s_1|exact s_3|refine s_4 ?_|refine s_5 ?_|refine s_6 ?_|refine s_8 ?_);done))) ?_
        (rw [← hres] at H; exact H (by (first | omega | (dsimp only at *; omega) | (simp at *; omega))) (by (first | omega | (dsimp only at *; omega) | (simp at *; omega))) hA2)
      · refine xr_end rfl ?_
        refine th_n ?_
        refine xc_false rfl ?_
        refine xc_skip ?_
        refine th_n ?_
        refine xc_seq ?_
        refine xc_draw0 [(0, .S), (1, .S), (2, .S), (3, .S), (4, .S), (5, .S), (6, .S), (7, .R), (8, .S), (9, .S), (10, .S), (11, .R), (12, .S), (13, .O), (14, .S), (15, .O)] mixed (by kernel_rfl) ?_
        refine js_S rfl rfl (.inl rfl) (xv_move rfl ⟨rfl, rfl⟩) ?_
        refine js_S rfl rfl (.inl rfl) (xv_move rfl ⟨rfl, rfl⟩) ?_
        refine js_S rfl rfl (.inl rfl) (xv_move rfl ⟨rfl, rfl⟩) ?_
        refine js_S rfl rfl (.inl rfl) (xv_move rfl ⟨rfl, rfl⟩) ?_
        refine js_S rfl rfl (.inl rfl) (xv_move rfl ⟨rfl, rfl⟩) ?_
        refine js_S rfl rfl (.inl rfl) (xv_move rfl ⟨rfl, rfl⟩) ?_
        refine js_S rfl rfl (.inl rfl) (xv_ia (sz := 3) (j := j) sl72 ty78 rfl rfl rfl (by (first | omega | (dsimp only at *; omega) | (simp at *; omega))) (by (first | omega | (dsimp only at *; omega) | (simp at *; omega))) (by (first | omega | (dsimp only at *; omega) | (simp at *; omega))) ⟨rfl, rfl⟩) ?_
        refine js_R0 rfl rfl (.inl rfl) (xv_loadA ty78 rfl rfl (by ((repeat first|exact z_0|assumption|refine z_1 ?_|(refine z_l ?_;(repeat first|exact z_0|assumption|refine z_1 ?_);done)|refine z_r ?_);done)) (ca_get eCard_len (k := j) (by rw [hA2.size]; (first | omega | (dsimp only at *; omega) | (simp at *; omega)))) rfl ⟨rfl, rfl⟩) ?_
        refine js_S rfl rfl (.inl rfl) (xv_move rfl ⟨rfl, rfl⟩) ?_
        refine js_S rfl rfl (.inl rfl) (xv_move rfl ⟨rfl, rfl⟩) ?_
        refine js_S rfl rfl (.inl rfl) (xv_ia (sz := 3) (j := i) sl72 ty78 rfl rfl rfl (by (first | omega | (dsimp only at *; omega) | (simp at *; omega))) (by (first | omega | (dsimp only at *; omega) | (simp at *; omega))) (by (first | omega | (dsimp only at *; omega) | (simp at *; omega))) ⟨rfl, rfl⟩) ?_
        refine js_R0 rfl rfl (.inl rfl) (xv_loadA ty78 rfl rfl (by ((repeat first|exact z_0|assumption|refine z_1 ?_|(refine z_l ?_;(repeat first|exact z_0|assumption|refine z_1 ?_);done)|refine z_r ?_);done)) (ca_get eCard_len (k := i) (by rw [hA2.size]; (first | omega | (dsimp only at *; omega) | (simp at *; omega)))) rfl ⟨rfl, rfl⟩) ?_
        refine js_S rfl rfl (.inl rfl) (xv_ia (sz := 3) (j := i) sl72 ty78 rfl rfl rfl (by (first | omega | (dsimp only at *; omega) | (simp at *; omega))) (by (first | omega | (dsimp only at *; omega) | (simp at *; omega))) (by (first | omega | (dsimp only at *; omega) | (simp at *; omega))) ⟨rfl, rfl⟩) ?_
        refine js_O0 rfl rfl (.inl rfl) (xv_s ty78 rfl rfl (by (first|(apply u_3;(repeat first|exact u_0|assumption|apply u_1|apply u_2);done)|((repeat first|exact u_0|assumption|apply u_1|apply u_2);done)|(apply u_3;apply u_3;(repeat first|exact u_0|assumption|apply u_1|apply u_2);done)|((repeat first|exact u_0|assumption|apply u_3|apply u_1);done))) rfl (by rfl) (by rfl) (ca_room eCard_len (k := i) (by rw [hA2.size]; (first | omega | (dsimp only at *; omega) | (simp at *; omega)))) (ca_splice eCard_len (k := i) (by rw [hA2.size]; (first | omega | (dsimp only at *; omega) | (simp at *; omega)))) ?_)
        refine js_S rfl rfl (.inl rfl) (xv_ia (sz := 3) (j := j) sl72 ty78 rfl rfl rfl (by (first | omega | (dsimp only at *; omega) | (simp at *; omega))) (by (first | omega | (dsimp only at *; omega) | (simp at *; omega))) (by (first | omega | (dsimp only at *; omega) | (simp at *; omega))) ⟨rfl, rfl⟩) ?_
        refine js_O0 rfl rfl (.inl rfl) (xv_s ty78 rfl rfl (by (first|(apply u_3;(repeat first|exact u_0|assumption|apply u_1|apply u_2);done)|((repeat first|exact u_0|assumption|apply u_1|apply u_2);done)|(apply u_3;apply u_3;(repeat first|exact u_0|assumption|apply u_1|apply u_2);done)|((repeat first|exact u_0|assumption|apply u_3|apply u_1);done))) rfl (by rfl) (by rfl) (ca_room eCard_len (k := j) (by rw [Array.size_setIfInBounds, hA2.size]; (first | omega | (dsimp only at *; omega) | (simp at *; omega)))) (ca_splice eCard_len (k := j) (by rw [Array.size_setIfInBounds, hA2.size]; (first | omega | (dsimp only at *; omega) | (simp at *; omega)))) ?_)
        refine j_end0 ?_
        refine th_n ?_
        refine xc_seq (xc_region ?_)
        refine xr_op rfl rfl (xv_move rfl ?_)
        refine xr_op rfl rfl (xv_add rfl rfl (wrap_i64 (by (first | omega | (dsimp only at *; omega) | (simp at *; omega))) (by (first | omega | (dsimp only at *; omega) | (simp at *; omega)))) ?_)
        refine xr_op rfl rfl (xv_assign rfl ?_)
        refine xr_end rfl ?_
        refine th_n ?_
        refine xc_region ?_
        refine xr_op rfl rfl (xv_move rfl ?_)
        refine xr_op rfl rfl (xv_sub rfl rfl (wrap_i64 (by (first | omega | (dsimp only at *; omega) | (simp at *; omega))) (by (first | omega | (dsimp only at *; omega) | (simp at *; omega)))) ?_)
        refine xr_op rfl rfl (xv_assign rfl ?_)
        refine xr_end rfl ?_
        refine bk_n ?_
        exact rnd ((i + 1, j - 1, Go.Sort.swp d2 i j) : Nat × Nat × Array Card) ⟨by (first | omega | (dsimp only at *; omega) | (simp at *; omega)), by (first | omega | (dsimp only at *; omega) | (simp at *; omega)), by (first | omega | (dsimp only at *; omega) | (simp at *; omega)), by (first | omega | (dsimp only at *; omega) | (simp at *; omega)), hA2.swp (by (first | omega | (dsimp only at *; omega) | (simp at *; omega))) (by (first | omega | (dsimp only at *; omega) | (simp at *; omega))), (partEq_step hup2 hdn2 (by (first | omega | (dsimp only at *; omega) | (simp at *; omega)))).symm.trans heq⟩ (by have := scanUp_ge (p := (fun x => !ltc cm d2[a]! x)) (d := d2) (j := j1) (i := i1) rfl; rw [hup2] at this; (first | omega | (dsimp only at *; omega) | (simp at *; omega))) (le_put (le_put (le_put (le_put (le_put (le_emp _) rfl) rfl) rfl) rfl) (by dsimp only; rw [show ((j - 1 : Nat) : Int) = (j : Int) - 1 by (first | omega | (dsimp only at *; omega) | (simp at *; omega))]; rfl)) (by (first|((repeat first|exact s_0|exact s_1|exact s_3|refine s_4 ?_|refine s_5 ?_|refine s_6 ?_|refine s_7 ?_);done)|((repeat first|exact s_0|exact s_1|exact s_3|refine s_4 ?_|refine s_5 ?_|refine s_6 ?_|refine s_8 ?_);done)))

theorem part_c {bb cap N : Nat} {sp : List Value} {d : Array Card} {f : Value} {cm : Card → Card → Int} {p : Card → Prop} {L : Hp} {R : Ending → Hp → Prop} (hA : Arr N p d) (hN : N ≤ 49) (hf : ∀ x y, p x → p y → ∀ H R', L ⊆ H → R' (.returned (I (cm x y))) H → AFn Tryd.prog f [.agg ⟨eCard x⟩, .agg ⟨eCard y⟩] H R') {a b pivot : Nat} {ai bi pi : Int} (ea : ai = a) (eb : bi = b) (ep : pi = pivot) (hap : a ≤ pivot) (hpb : pivot < b) (hb : b ≤ N) (H : a ≤ (Go.Sort.partition (ltc cm) d a b pivot).1 → (Go.Sort.partition (ltc cm) d a b pivot).1 < b → Arr N p (Go.Sort.partition (ltc cm) d a b pivot).2.2 → R (.returned (.tuple ⟨[I ((Go.Sort.partition (ltc cm) d a b pivot).1 : Nat), .bool (Go.Sort.partition (ltc cm) d a b pivot).2.1]⟩)) ((bb, .cells ⟨((Go.Sort.partition (ltc cm) d a b pivot).2.2).toList.flatMap eCard ++ sp⟩ 78) :: L)) :
    ACalls Tryd.prog 68 ⟨[.slice (some ⟨bb, 0, none⟩) N cap, I ai, I bi, I pi, f]⟩ ((bb, .cells ⟨(d).toList.flatMap eCard ++ sp⟩ 78) :: L) R := by
  subst ea eb ep
  refine calls_of_xc (N := 178) Tryd.func68 rfl (by rfl) ?_
  have hA1 := hA.swp (i := a) (j := pivot) (by omega) (by omega)
  refine xc_seq (xc_region ?_)
  refine xr_op rfl rfl (xv_assign rfl ?_)
  refine xr_op rfl rfl (xv_assign rfl ?_)
  refine xr_end rfl ?_
  refine th_n ?_
  refine xc_seq ?_
  refine xc_draw0 [(0, .S), (1, .S), (2, .S), (3, .S), (4, .S), (5, .S), (6, .S), (7, .R), (8, .S), (9, .S), (10, .S), (11, .R), (12, .S), (13, .O), (14, .S), (15, .O)] mixed (by kernel_rfl) ?_
  refine js_S rfl rfl (.inl rfl) (xv_move rfl ⟨rfl, rfl⟩) ?_
  refine js_S rfl rfl (.inl rfl) (xv_move rfl ⟨rfl, rfl⟩) ?_
  refine js_S rfl rfl (.inl rfl) (xv_move rfl ⟨rfl, rfl⟩) ?_
  refine js_S rfl rfl (.inl rfl) (xv_move rfl ⟨rfl, rfl⟩) ?_
  refine js_S rfl rfl (.inl rfl) (xv_move rfl ⟨rfl, rfl⟩) ?_
  refine js_S rfl rfl (.inl rfl) (xv_move rfl ⟨rfl, rfl⟩) ?_
  refine js_S rfl rfl (.inl rfl) (xv_ia (sz := 3) (j := pivot) sl72 ty78 rfl rfl rfl (by (first | omega | (dsimp only at *; omega) | (simp at *; omega))) (by (first | omega | (dsimp only at *; omega) | (simp at *; omega))) (by (first | omega | (dsimp only at *; omega) | (simp at *; omega))) ⟨rfl, rfl⟩) ?_
  refine js_R0 rfl rfl (.inl rfl) (xv_loadA ty78 rfl rfl (by ((repeat first|exact z_0|assumption|refine z_1 ?_|(refine z_l ?_;(repeat first|exact z_0|assumption|refine z_1 ?_);done)|refine z_r ?_);done)) (ca_get eCard_len (k := pivot) (by rw [hA.size]; (first | omega | (dsimp only at *; omega) | (simp at *; omega)))) rfl ⟨rfl, rfl⟩) ?_
  refine js_S rfl rfl (.inl rfl) (xv_move rfl ⟨rfl, rfl⟩) ?_
  refine js_S rfl rfl (.inl rfl) (xv_move rfl ⟨rfl, rfl⟩) ?_
  refine js_S rfl rfl (.inl rfl) (xv_ia (sz := 3) (j := a) sl72 ty78 rfl rfl rfl (by (first | omega | (dsimp only at *; omega) | (simp at *; omega))) (by (first | omega | (dsimp only at *; omega) | (simp at *; omega))) (by (first | omega | (dsimp only at *; omega) | (simp at *; omega))) ⟨rfl, rfl⟩) ?_
  refine js_R0 rfl rfl (.inl rfl) (xv_loadA ty78 rfl rfl (by ((repeat first|exact z_0|assumption|refine z_1 ?_|(refine z_l ?_;(repeat first|exact z_0|assumption|refine z_1 ?_);done)|refine z_r ?_);done)) (ca_get eCard_len (k := a) (by rw [hA.size]; (first | omega | (dsimp only at *; omega) | (simp at *; omega)))) rfl ⟨rfl, rfl⟩) ?_
  refine js_S rfl rfl (.inl rfl) (xv_ia (sz := 3) (j := a) sl72 ty78 rfl rfl rfl (by (first | omega | (dsimp only at *; omega) | (simp at *; omega))) (by (first | omega | (dsimp only at *; omega) | (simp at *; omega))) (by (first | omega | (dsimp only at *; omega) | (simp at *; omega))) ⟨rfl, rfl⟩) ?_
  refine js_O0 rfl rfl (.inl rfl) (xv_s ty78 rfl rfl (by (first|(apply u_3;(repeat first|exact u_0|assumption|apply u_1|apply u_2);done)|((repeat first|exact u_0|assumption|apply u_1|apply u_2);done)|(apply u_3;apply u_3;(repeat first|exact u_0|assumption|apply u_1|apply u_2);done)|((repeat first|exact u_0|assumption|apply u_3|apply u_1);done))) rfl (by rfl) (by rfl) (ca_room eCard_len (k := a) (by rw [hA.size]; (first | omega | (dsimp only at *; omega) | (simp at *; omega)))) (ca_splice eCard_len (k := a) (by rw [hA.size]; (first | omega | (dsimp only at *; omega) | (simp at *; omega)))) ?_)
  refine js_S rfl rfl (.inl rfl) (xv_ia (sz := 3) (j := pivot) sl72 ty78 rfl rfl rfl (by (first | omega | (dsimp only at *; omega) | (simp at *; omega))) (by (first | omega | (dsimp only at *; omega) | (simp at *; omega))) (by (first | omega | (dsimp only at *; omega) | (simp at *; omega))) ⟨rfl, rfl⟩) ?_
  refine js_O0 rfl rfl (.inl rfl) (xv_s ty78 rfl rfl (by (first|(apply u_3;(repeat first|exact u_0|assumption|apply u_1|apply u_2);done)|((repeat first|exact u_0|assumption|apply u_1|apply u_2);done)|(apply u_3;apply u_3;(repeat first|exact u_0|assumption|apply u_1|apply u_2);done)|((repeat first|exact u_0|assumption|apply u_3|apply u_1);done))) rfl (by rfl) (by rfl) (ca_room eCard_len (k := pivot) (by rw [Array.size_setIfInBounds, hA.size]; (first | omega | (dsimp only at *; omega) | (simp at *; omega)))) (ca_splice eCard_len (k := pivot) (by rw [Array.size_setIfInBounds, hA.size]; (first | omega | (dsimp only at *; omega) | (simp at *; omega)))) ?_)
  refine j_end0 ?_
  refine th_n ?_
  refine xc_seq (xc_region ?_)
  refine xr_op rfl rfl (xv_move rfl ?_)
  refine xr_op rfl rfl (xv_add rfl rfl (wrap_i64 (by (first | omega | (dsimp only at *; omega) | (simp at *; omega))) (by (first | omega | (dsimp only at *; omega) | (simp at *; omega)))) ?_)
  refine xr_op rfl rfl (xv_move rfl ?_)
  refine xr_op rfl rfl (xv_sub rfl rfl (wrap_i64 (by (first | omega | (dsimp only at *; omega) | (simp at *; omega))) (by (first | omega | (dsimp only at *; omega) | (simp at *; omega)))) ?_)
  refine xr_op rfl rfl (xv_assign rfl ?_)
  refine xr_op rfl rfl (xv_assign rfl ?_)
  refine xr_end rfl ?_
  refine th_n ?_
  refine xc_join (σ := Nat) (fun i0 => a + 1 ≤ i0 ∧ i0 ≤ b ∧ Go.Sort.scanUp (fun x => ltc cm x (Go.Sort.swp d a pivot)[a]!) (Go.Sort.swp d a pivot) (b - 1) (a + 1) = i0) (fun i0 => (((((emp.put (some 0) (.slice (some ⟨bb, 0, none⟩) N cap)).put (some 1) (I a)).put (some 4) (f)).put (some 12) (I i0)).put (some 13) (I (((b - 1) : Nat) : Int)))) (fun i0 => ((bb, .cells ⟨((Go.Sort.swp d a pivot)).toList.flatMap eCard ++ sp⟩ 78) :: L)) ?_ ?_
  · refine xc_block ?_
    refine xc_loop (σ := Nat) (fun i0 => a + 1 ≤ i0 ∧ i0 ≤ b ∧ Go.Sort.scanUp (fun x => ltc cm x (Go.Sort.swp d a pivot)[a]!) (Go.Sort.swp d a pivot) (b - 1) i0 = Go.Sort.scanUp (fun x => ltc cm x (Go.Sort.swp d a pivot)[a]!) (Go.Sort.swp d a pivot) (b - 1) (a + 1)) (fun i0 => (((((emp.put (some 0) (.slice (some ⟨bb, 0, none⟩) N cap)).put (some 1) (I a)).put (some 4) (f)).put (some 12) (I i0)).put (some 13) (I (((b - 1) : Nat) : Int)))) (fun i0 => ((bb, .cells ⟨((Go.Sort.swp d a pivot)).toList.flatMap eCard ++ sp⟩ 78) :: L)) (fun i0 => b - i0) (a + 1) ⟨by (first | omega | (dsimp only at *; omega) | (simp at *; omega)), by (first | omega | (dsimp only at *; omega) | (simp at *; omega)), rfl⟩ (le_put (le_put (le_put (le_put (le_put (le_emp _) rfl) rfl) rfl) rfl) (by first | rfl | (rw [show (((b - 1) : Nat) : Int) = (b : Int) - 1 by omega]; rfl))) (by (first|((repeat first|exact s_0|exact s_1|exact s_3|refine s_4 ?_|refine s_5 ?_|refine s_6 ?_|refine s_7 ?_);done)|((repeat first|exact s_0|exact s_1|exact s_3|refine s_4 ?_|refine s_5 ?_|refine s_6 ?_|refine s_8 ?_);done))) ?_
    rintro i0 ⟨hi01, hi02, hu0⟩
    refine xc_seq ?_
    refine xc_seq ?_
    refine xc_draw0 [(0, .S), (1, .S), (2, .O), (3, .S), (4, .S), (5, .S), (6, .S), (7, .S), (8, .R), (9, .S), (10, .S), (11, .S), (12, .R), (13, .R), (14, .O), (15, .S)] mixed (by kernel_rfl) ?_
    refine js_S rfl rfl (.inl rfl) (xv_move rfl ⟨rfl, rfl⟩) ?_
    refine js_S rfl rfl (.inl rfl) (xv_move rfl ⟨rfl, rfl⟩) ?_
    refine js_O0 rfl rfl (.inl rfl) (xv_leq2 rfl rfl (fun hq => ?_) (fun hq => ?_))
    · refine js_S rfl rfl (.inl rfl) (xv_move rfl ⟨rfl, rfl⟩) ?_
      refine js_S rfl rfl (.inr ⟨_, _, rfl, rfl⟩) (xv_move rfl ⟨rfl, rfl⟩) ?_
      refine js_S rfl rfl (.inr ⟨_, _, rfl, rfl⟩) (xv_move rfl ⟨rfl, rfl⟩) ?_
      refine js_S rfl rfl (.inr ⟨_, _, rfl, rfl⟩) (xv_move rfl ⟨rfl, rfl⟩) ?_
      refine js_S rfl rfl (.inr ⟨_, _, rfl, rfl⟩) (xv_ia (sz := 3) (j := i0) sl72 ty78 rfl rfl rfl (by (first | omega | (dsimp only at *; omega) | (simp at *; omega))) (by (first | omega | (dsimp only at *; omega) | (simp at *; omega))) (by (first | omega | (dsimp only at *; omega) | (simp at *; omega))) ⟨rfl, rfl⟩) ?_
      refine js_R0 rfl rfl (.inr ⟨_, _, rfl, rfl⟩) (xv_loadA ty78 rfl rfl (by ((repeat first|exact z_0|assumption|refine z_1 ?_|(refine z_l ?_;(repeat first|exact z_0|assumption|refine z_1 ?_);done)|refine z_r ?_);done)) (ca_get eCard_len (k := i0) (by rw [hA1.size]; (first | omega | (dsimp only at *; omega) | (simp at *; omega)))) rfl ⟨rfl, rfl⟩) ?_
      refine js_S rfl rfl (.inr ⟨_, _, rfl, rfl⟩) (xv_move rfl ⟨rfl, rfl⟩) ?_
      refine js_S rfl rfl (.inr ⟨_, _, rfl, rfl⟩) (xv_move rfl ⟨rfl, rfl⟩) ?_
      refine js_S rfl rfl (.inr ⟨_, _, rfl, rfl⟩) (xv_ia (sz := 3) (j := a) sl72 ty78 rfl rfl rfl (by (first | omega | (dsimp only at *; omega) | (simp at *; omega))) (by (first | omega | (dsimp only at *; omega) | (simp at *; omega))) (by (first | omega | (dsimp only at *; omega) | (simp at *; omega))) ⟨rfl, rfl⟩) ?_
      refine js_R0 rfl rfl (.inr ⟨_, _, rfl, rfl⟩) (xv_loadA ty78 rfl rfl (by ((repeat first|exact z_0|assumption|refine z_1 ?_|(refine z_l ?_;(repeat first|exact z_0|assumption|refine z_1 ?_);done)|refine z_r ?_);done)) (ca_get eCard_len (k := a) (by rw [hA1.size]; (first | omega | (dsimp only at *; omega) | (simp at *; omega)))) rfl ⟨rfl, rfl⟩) ?_
      refine js_R0 rfl rfl (.inr ⟨_, _, rfl, rfl⟩) (xv_fn rfl rfl (hf _ _ (hA1.all _ (by (first | omega | (dsimp only at *; omega) | (simp at *; omega)))) (hA1.all _ (by (first | omega | (dsimp only at *; omega) | (simp at *; omega)))) _ _ (by intro z hz; ((repeat first|exact z_0|assumption|refine z_1 ?_|(refine z_l ?_;(repeat first|exact z_0|assumption|refine z_1 ?_);done)|refine z_r ?_);done)) (up_ret ⟨rfl, rfl⟩))) ?_
      refine js_O0 rfl rfl (.inr ⟨_, _, rfl, rfl⟩) (xv_lss2 rfl rfl (fun hq => ?_) (fun hq => ?_))
      · refine js_S rfl rfl (.inl rfl) (xv_pick rfl rfl ⟨rfl, rfl⟩) ?_
        refine j_end0 ?_
        refine th_n ?_
        refine xc_true rfl ?_
        refine xc_skip ?_
        refine th_n ?_
        refine xc_block ?_
        refine xc_region ?_
        refine xr_op rfl rfl (xv_move rfl ?_)
        refine xr_op rfl rfl (xv_add rfl rfl (wrap_i64 (by (first | omega | (dsimp only at *; omega) | (simp at *; omega))) (by (first | omega | (dsimp only at *; omega) | (simp at *; omega)))) ?_)
        refine xr_op rfl rfl (xv_assign rfl ?_)
        refine xr_end rfl ?_
        refine bk_n ?_
        exact rnd (i0 + 1) ⟨by (first | omega | (dsimp only at *; omega) | (simp at *; omega)), by (first | omega | (dsimp only at *; omega) | (simp at *; omega)), (scanUp_step (p := (fun x => ltc cm x (Go.Sort.swp d a pivot)[a]!)) (d := (Go.Sort.swp d a pivot)) (by (first | omega | (dsimp only at *; omega) | (simp at *; omega))) (ltc_T (by (first | omega | (dsimp only at *; omega) | (simp at *; omega))))).symm.trans hu0⟩ (by (first | omega | (dsimp only at *; omega) | (simp at *; omega))) (le_put (le_put (le_put (le_put (le_put (le_emp _) rfl) rfl) rfl) rfl) rfl) (by (first|((repeat first|exact s_0|exact s_1|exact s_3|refine s_4 ?_|refine s_5 ?_|refine s_6 ?_|refine s_7 ?_);done)|((repeat first|exact s_0|exact s_1|exact s_3|refine s_4 ?_|refine s_5 ?_|refine s_6 ?_|refine s_8 ?_);done)))
      · refine js_S rfl rfl (.inl rfl) (xv_pick rfl rfl ⟨rfl, rfl⟩) ?_
        refine j_end0 ?_
        refine th_n ?_
        refine xc_false rfl ?_
        refine xc_exit ?_
        refine th_x ?_
        refine th_x ?_
        refine bk_same ?_
        exact jn_n i0 ⟨by (first | omega | (dsimp only at *; omega) | (simp at *; omega)), by (first | omega | (dsimp only at *; omega) | (simp at *; omega)), by
          rw [← hu0]; first | exact scanUp_stop (p := (fun x => ltc cm x (Go.Sort.swp d a pivot)[a]!)) (d := (Go.Sort.swp d a pivot)) (.inl (by (first | omega | (dsimp only at *; omega) | (simp at *; omega)))) | exact scanUp_stop (p := (fun x => ltc cm x (Go.Sort.swp d a pivot)[a]!)) (d := (Go.Sort.swp d a pivot)) (.inr (ltc_F (by (first | omega | (dsimp only at *; omega) | (simp at *; omega)))))⟩ (le_put (le_put (le_put (le_put (le_put (le_emp _) rfl) rfl) rfl) rfl) rfl) (by (first|((repeat first|exact s_0|exact s_1|exact s_3|refine s_4 ?_|refine s_5 ?_|refine s_6 ?_|refine s_7 ?_);done)|((repeat first|exact s_0|exact s_1|exact s_3|refine s_4 ?_|refine s_5 ?_|refine s_6 ?_|refine s_8 ?_);done)))
    · refine js_S rfl rfl (.inl rfl) (xv_move rfl ⟨rfl, rfl⟩) ?_
      refine js_Ss rfl rfl ⟨_, _, _, rfl, rfl, rfl⟩ ?_
      refine js_Ss rfl rfl ⟨_, _, _, rfl, rfl, rfl⟩ ?_
      refine js_Ss rfl rfl ⟨_, _, _, rfl, rfl, rfl⟩ ?_
      refine js_Ss rfl rfl ⟨_, _, _, rfl, rfl, rfl⟩ ?_
      refine js_Rs rfl rfl ⟨_, _, _, rfl, rfl, rfl⟩ ?_
      refine js_Ss rfl rfl ⟨_, _, _, rfl, rfl, rfl⟩ ?_
      refine js_Ss rfl rfl ⟨_, _, _, rfl, rfl, rfl⟩ ?_
      refine js_Ss rfl rfl ⟨_, _, _, rfl, rfl, rfl⟩ ?_
      refine js_Rs rfl rfl ⟨_, _, _, rfl, rfl, rfl⟩ ?_
      refine js_Rs rfl rfl ⟨_, _, _, rfl, rfl, rfl⟩ ?_
      refine js_Os rfl rfl ⟨_, _, _, rfl, rfl, rfl⟩ ?_
      refine js_S rfl rfl (.inl rfl) (xv_pick rfl rfl ⟨rfl, rfl⟩) ?_
      refine j_end0 ?_
      refine th_n ?_
      refine xc_false rfl ?_
      refine xc_exit ?_
      refine th_x ?_
      refine th_x ?_
      refine bk_same ?_
      exact jn_n i0 ⟨by (first | omega | (dsimp only at *; omega) | (simp at *; omega)), by (first | omega | (dsimp only at *; omega) | (simp at *; omega)), by
        rw [← hu0]; first | exact scanUp_stop (p := (fun x => ltc cm x (Go.Sort.swp d a pivot)[a]!)) (d := (Go.Sort.swp d a pivot)) (.inl (by (first | omega | (dsimp only at *; omega) | (simp at *; omega)))) | exact scanUp_stop (p := (fun x => ltc cm x (Go.Sort.swp d a pivot)[a]!)) (d := (Go.Sort.swp d a pivot)) (.inr (ltc_F (by (first | omega | (dsimp only at *; omega) | (simp at *; omega)))))⟩ (le_put (le_put (le_put (le_put (le_put (le_emp _) rfl) rfl) rfl) rfl) rfl) (by (first|((repeat first|exact s_0|exact s_1|exact s_3|refine s_4 ?_|refine s_5 ?_|refine s_6 ?_|refine s_7 ?_);done)|((repeat first|exact s_0|exact s_1|exact s_3|refine s_4 ?_|refine s_5 ?_|refine s_6 ?_|refine s_8 ?_);done)))
  · rintro i0 ⟨hi01, hi02, hu02⟩
    refine xc_join (σ := Nat) (fun j0 => a ≤ j0 ∧ j0 ≤ (b - 1) ∧ Go.Sort.scanDown (fun x => !ltc cm x (Go.Sort.swp d a pivot)[a]!) (Go.Sort.swp d a pivot) i0 (b - 1) = j0) (fun j0 => (((((emp.put (some 0) (.slice (some ⟨bb, 0, none⟩) N cap)).put (some 1) (I a)).put (some 4) (f)).put (some 12) (I i0)).put (some 13) (I j0))) (fun j0 => ((bb, .cells ⟨((Go.Sort.swp d a pivot)).toList.flatMap eCard ++ sp⟩ 78) :: L)) ?_ ?_
    · refine xc_block ?_
      refine xc_loop (σ := Nat) (fun j0 => a ≤ j0 ∧ j0 ≤ (b - 1) ∧ Go.Sort.scanDown (fun x => !ltc cm x (Go.Sort.swp d a pivot)[a]!) (Go.Sort.swp d a pivot) i0 j0 = Go.Sort.scanDown (fun x => !ltc cm x (Go.Sort.swp d a pivot)[a]!) (Go.Sort.swp d a pivot) i0 (b - 1)) (fun j0 => (((((emp.put (some 0) (.slice (some ⟨bb, 0, none⟩) N cap)).put (some 1) (I a)).put (some 4) (f)).put (some 12) (I i0)).put (some 13) (I j0))) (fun j0 => ((bb, .cells ⟨((Go.Sort.swp d a pivot)).toList.flatMap eCard ++ sp⟩ 78) :: L)) (fun j0 => j0) (b - 1) ⟨by (first | omega | (dsimp only at *; omega) | (simp at *; omega)), Nat.le_refl _, rfl⟩ (le_put (le_put (le_put (le_put (le_put (le_emp _) rfl) rfl) rfl) rfl) rfl) (by (first|((repeat first|exact s_0|exact s_1|exact s_3|refine s_4 ?_|refine s_5 ?_|refine s_6 ?_|refine s_7 ?_);done)|((repeat first|exact s_0|exact s_1|exact s_3|refine s_4 ?_|refine s_5 ?_|refine s_6 ?_|refine s_8 ?_);done))) ?_
      rintro j0 ⟨hj01, hj02, hd0⟩
      refine xc_seq ?_
      refine xc_seq ?_
      refine xc_draw0 [(0, .S), (1, .S), (2, .O), (3, .S), (4, .S), (5, .S), (6, .S), (7, .S), (8, .R), (9, .S), (10, .S), (11, .S), (12, .R), (13, .R), (14, .O), (15, .S), (16, .S)] mixed (by kernel_rfl) ?_
      refine js_S rfl rfl (.inl rfl) (xv_move rfl ⟨rfl, rfl⟩) ?_
      refine js_S rfl rfl (.inl rfl) (xv_move rfl ⟨rfl, rfl⟩) ?_
      refine js_O0 rfl rfl (.inl rfl) (xv_leq2 rfl rfl (fun hq => ?_) (fun hq => ?_))
      · refine js_S rfl rfl (.inl rfl) (xv_move rfl ⟨rfl, rfl⟩) ?_
        refine js_S rfl rfl (.inr ⟨_, _, rfl, rfl⟩) (xv_move rfl ⟨rfl, rfl⟩) ?_
        refine js_S rfl rfl (.inr ⟨_, _, rfl, rfl⟩) (xv_move rfl ⟨rfl, rfl⟩) ?_
        refine js_S rfl rfl (.inr ⟨_, _, rfl, rfl⟩) (xv_move rfl ⟨rfl, rfl⟩) ?_
        refine js_S rfl rfl (.inr ⟨_, _, rfl, rfl⟩) (xv_ia (sz := 3) (j := j0) sl72 ty78 rfl rfl rfl (by (first | omega | (dsimp only at *; omega) | (simp at *; omega))) (by (first | omega | (dsimp only at *; omega) | (simp at *; omega))) (by (first | omega | (dsimp only at *; omega) | (simp at *; omega))) ⟨rfl, rfl⟩) ?_
        refine js_R0 rfl rfl (.inr ⟨_, _, rfl, rfl⟩) (xv_loadA ty78 rfl rfl (by ((repeat first|exact z_0|assumption|refine z_1 ?_|(refine z_l ?_;(repeat first|exact z_0|assumption|refine z_1 ?_);done)|refine z_r ?_);done)) (ca_get eCard_len (k := j0) (by rw [hA1.size]; (first | omega | (dsimp only at *; omega) | (simp at *; omega)))) rfl ⟨rfl, rfl⟩) ?_
        refine js_S rfl rfl (.inr ⟨_, _, rfl, rfl⟩) (xv_move rfl ⟨rfl, rfl⟩) ?_
        refine js_S rfl rfl (.inr ⟨_, _, rfl, rfl⟩) (xv_move rfl ⟨rfl, rfl⟩) ?_
        refine js_S rfl rfl (.inr ⟨_, _, rfl, rfl⟩) (xv_ia (sz := 3) (j := a) sl72 ty78 rfl rfl rfl (by (first | omega | (dsimp only at *; omega) | (simp at *; omega))) (by (first | omega | (dsimp only at *; omega) | (simp at *; omega))) (by (first | omega | (dsimp only at *; omega) | (simp at *; omega))) ⟨rfl, rfl⟩) ?_
        refine js_R0 rfl rfl (.inr ⟨_, _, rfl, rfl⟩) (xv_loadA ty78 rfl rfl (by ((repeat first|exact z_0|assumption|refine z_1 ?_|(refine z_l ?_;(repeat first|exact z_0|assumption|refine z_1 ?_);done)|refine z_r ?_);done)) (ca_get eCard_len (k := a) (by rw [hA1.size]; (first | omega | (dsimp only at *; omega) | (simp at *; omega)))) rfl ⟨rfl, rfl⟩) ?_
        refine js_R0 rfl rfl (.inr ⟨_, _, rfl, rfl⟩) (xv_fn rfl rfl (hf _ _ (hA1.all _ (by (first | omega | (dsimp only at *; omega) | (simp at *; omega)))) (hA1.all _ (by (first | omega | (dsimp only at *; omega) | (simp at *; omega)))) _ _ (by intro z hz; ((repeat first|exact z_0|assumption|refine z_1 ?_|(refine z_l ?_;(repeat first|exact z_0|assumption|refine z_1 ?_);done)|refine z_r ?_);done)) (up_ret ⟨rfl, rfl⟩))) ?_
        refine js_O0 rfl rfl (.inr ⟨_, _, rfl, rfl⟩) (xv_lss2 rfl rfl (fun hq => ?_) (fun hq => ?_))
        · refine js_S rfl rfl (.inr ⟨_, _, rfl, rfl⟩) (xv_not rfl ⟨rfl, rfl⟩) ?_
          refine js_S rfl rfl (.inl rfl) (xv_pick rfl rfl ⟨rfl, rfl⟩) ?_
          refine j_end0 ?_
          refine th_n ?_
          refine xc_false rfl ?_
          refine xc_exit ?_
          refine th_x ?_
          refine th_x ?_
          refine bk_same ?_
          exact jn_n j0 ⟨by (first | omega | (dsimp only at *; omega) | (simp at *; omega)), by (first | omega | (dsimp only at *; omega) | (simp at *; omega)), by
            rw [← hd0]; first | exact scanDown_stop (p := (fun x => !ltc cm x (Go.Sort.swp d a pivot)[a]!)) (d := (Go.Sort.swp d a pivot)) (.inl (by (first | omega | (dsimp only at *; omega) | (simp at *; omega)))) | exact scanDown_stop (p := (fun x => !ltc cm x (Go.Sort.swp d a pivot)[a]!)) (d := (Go.Sort.swp d a pivot)) (.inr (notF (ltc_T (by (first | omega | (dsimp only at *; omega) | (simp at *; omega))))))⟩ (le_put (le_put (le_put (le_put (le_put (le_emp _) rfl) rfl) rfl) rfl) rfl) (by (first|((repeat first|exact s_0|exact s_1|exact s_3|refine s_4 ?_|refine s_5 ?_|refine s_6 ?_|refine s_7 ?_);done)|((repeat first|exact s_0|exact s_1|exact s_3|refine s_4 ?_|refine s_5 ?_|refine s_6 ?_|refine s_8 ?_);done)))
        · refine js_S rfl rfl (.inr ⟨_, _, rfl, rfl⟩) (xv_not rfl ⟨rfl, rfl⟩) ?_
          refine js_S rfl rfl (.inl rfl) (xv_pick rfl rfl ⟨rfl, rfl⟩) ?_
          refine j_end0 ?_
          refine th_n ?_
          refine xc_true rfl ?_
          refine xc_skip ?_
          refine th_n ?_
          refine xc_block ?_
          refine xc_region ?_
          refine xr_op rfl rfl (xv_move rfl ?_)
          refine xr_op rfl rfl (xv_sub rfl rfl (wrap_i64 (by (first | omega | (dsimp only at *; omega) | (simp at *; omega))) (by (first | omega | (dsimp only at *; omega) | (simp at *; omega)))) ?_)
          refine xr_op rfl rfl (xv_assign rfl ?_)
          refine xr_end rfl ?_
          refine bk_n ?_
          exact rnd (j0 - 1) ⟨by (first | omega | (dsimp only at *; omega) | (simp at *; omega)), by (first | omega | (dsimp only at *; omega) | (simp at *; omega)), (scanDown_step (p := (fun x => !ltc cm x (Go.Sort.swp d a pivot)[a]!)) (d := (Go.Sort.swp d a pivot)) (by (first | omega | (dsimp only at *; omega) | (simp at *; omega))) (by (first | omega | (dsimp only at *; omega) | (simp at *; omega))) (notT (ltc_F (by (first | omega | (dsimp only at *; omega) | (simp at *; omega)))))).symm.trans hd0⟩ (by (first | omega | (dsimp only at *; omega) | (simp at *; omega))) (le_put (le_put (le_put (le_put (le_put (le_emp _) rfl) rfl) rfl) rfl) (by rw [show ((j0 - 1 : Nat) : Int) = (j0 : Int) - 1 by (first | omega | (dsimp only at *; omega) | (simp at *; omega))]; rfl)) (by (first|((repeat first|exact s_0|exact s_1|exact s_3|refine s_4 ?_|refine s_5 ?_|refine s_6 ?_|refine s_7 ?_);done)|((repeat first|exact s_0|exact s_1|exact s_3|refine s_4 ?_|refine s_5 ?_|refine s_6 ?_|refine s_8 ?_);done)))
      · refine js_S rfl rfl (.inl rfl) (xv_move rfl ⟨rfl, rfl⟩) ?_
        refine js_Ss rfl rfl ⟨_, _, _, rfl, rfl, rfl⟩ ?_
        refine js_Ss rfl rfl ⟨_, _, _, rfl, rfl, rfl⟩ ?_
        refine js_Ss rfl rfl ⟨_, _, _, rfl, rfl, rfl⟩ ?_
        refine js_Ss rfl rfl ⟨_, _, _, rfl, rfl, rfl⟩ ?_
        refine js_Rs rfl rfl ⟨_, _, _, rfl, rfl, rfl⟩ ?_
        refine js_Ss rfl rfl ⟨_, _, _, rfl, rfl, rfl⟩ ?_
        refine js_Ss rfl rfl ⟨_, _, _, rfl, rfl, rfl⟩ ?_
        refine js_Ss rfl rfl ⟨_, _, _, rfl, rfl, rfl⟩ ?_
        refine js_Rs rfl rfl ⟨_, _, _, rfl, rfl, rfl⟩ ?_
        refine js_Rs rfl rfl ⟨_, _, _, rfl, rfl, rfl⟩ ?_
        refine js_Os rfl rfl ⟨_, _, _, rfl, rfl, rfl⟩ ?_
        refine js_Ss rfl rfl ⟨_, _, _, rfl, rfl, rfl⟩ ?_
        refine js_S rfl rfl (.inl rfl) (xv_pick rfl rfl ⟨rfl, rfl⟩) ?_
        refine j_end0 ?_
        refine th_n ?_
        refine xc_false rfl ?_
        refine xc_exit ?_
        refine th_x ?_
        refine th_x ?_
        refine bk_same ?_
        exact jn_n j0 ⟨by (first | omega | (dsimp only at *; omega) | (simp at *; omega)), by (first | omega | (dsimp only at *; omega) | (simp at *; omega)), by
          rw [← hd0]; first | exact scanDown_stop (p := (fun x => !ltc cm x (Go.Sort.swp d a pivot)[a]!)) (d := (Go.Sort.swp d a pivot)) (.inl (by (first | omega | (dsimp only at *; omega) | (simp at *; omega)))) | exact scanDown_stop (p := (fun x => !ltc cm x (Go.Sort.swp d a pivot)[a]!)) (d := (Go.Sort.swp d a pivot)) (.inr (notF (ltc_T (by (first | omega | (dsimp only at *; omega) | (simp at *; omega))))))⟩ (le_put (le_put (le_put (le_put (le_put (le_emp _) rfl) rfl) rfl) rfl) rfl) (by (first|((repeat first|exact s_0|exact s_1|exact s_3|refine s_4 ?_|refine s_5 ?_|refine s_6 ?_|refine s_7 ?_);done)|((repeat first|exact s_0|exact s_1|exact s_3|refine s_4 ?_|refine s_5 ?_|refine s_6 ?_|refine s_8 ?_);done)))
    · rintro j0 ⟨hj01, hj02, hd02⟩
      refine xc_seq ?_
      refine xc_seq (xc_region ?_)
      refine xr_op rfl rfl (xv_move rfl ?_)
      refine xr_op rfl rfl (xv_move rfl ?_)
      refine xr_op rfl rfl (xv_gtr2 rfl rfl (fun q1 => ?_) (fun q1 => ?_))
      · refine xr_end rfl ?_
        refine th_n ?_
        refine xc_true rfl ?_
        refine xc_seq ?_
        refine xc_draw0 [(0, .S), (1, .S), (2, .S), (3, .S), (4, .S), (5, .S), (6, .S), (7, .R), (8, .S), (9, .S), (10, .S), (11, .R), (12, .S), (13, .O), (14, .S), (15, .O)] mixed (by kernel_rfl) ?_
        have hres := part_res1 hu02 hd02 (by (first | omega | (dsimp only at *; omega) | (simp at *; omega)))
        refine js_S rfl rfl (.inl rfl) (xv_move rfl ⟨rfl, rfl⟩) ?_
        refine js_S rfl rfl (.inl rfl) (xv_move rfl ⟨rfl, rfl⟩) ?_
        refine js_S rfl rfl (.inl rfl) (xv_move rfl ⟨rfl, rfl⟩) ?_
        refine js_S rfl rfl (.inl rfl) (xv_move rfl ⟨rfl, rfl⟩) ?_
        refine js_S rfl rfl (.inl rfl) (xv_move rfl ⟨rfl, rfl⟩) ?_
        refine js_S rfl rfl (.inl rfl) (xv_move rfl ⟨rfl, rfl⟩) ?_
        refine js_S rfl rfl (.inl rfl) (xv_ia (sz := 3) (j := a) sl72 ty78 rfl rfl rfl (by (first | omega | (dsimp only at *; omega) | (simp at *; omega))) (by (first | omega | (dsimp only at *; omega) | (simp at *; omega))) (by (first | omega | (dsimp only at *; omega) | (simp at *; omega))) ⟨rfl, rfl⟩) ?_
        refine js_R0 rfl rfl (.inl rfl) (xv_loadA ty78 rfl rfl (by ((repeat first|exact z_0|assumption|refine z_1 ?_|(refine z_l ?_;(repeat first|exact z_0|assumption|refine z_1 ?_);done)|refine z_r ?_);done)) (ca_get eCard_len (k := a) (by rw [hA1.size]; (first | omega | (dsimp only at *; omega) | (simp at *; omega)))) rfl ⟨rfl, rfl⟩) ?_
        refine js_S rfl rfl (.inl rfl) (xv_move rfl ⟨rfl, rfl⟩) ?_
        refine js_S rfl rfl (.inl rfl) (xv_move rfl ⟨rfl, rfl⟩) ?_
        refine js_S rfl rfl (.inl rfl) (xv_ia (sz := 3) (j := j0) sl72 ty78 rfl rfl rfl (by (first | omega | (dsimp only at *; omega) | (simp at *; omega))) (by (first | omega | (dsimp only at *; omega) | (simp at *; omega))) (by (first | omega | (dsimp only at *; omega) | (simp at *; omega))) ⟨rfl, rfl⟩) ?_
        refine js_R0 rfl rfl (.inl rfl) (xv_loadA ty78 rfl rfl (by ((repeat first|exact z_0|assumption|refine z_1 ?_|(refine z_l ?_;(repeat first|exact z_0|assumption|refine z_1 ?_);done)|refine z_r ?_);done)) (ca_get eCard_len (k := j0) (by rw [hA1.size]; (first | omega | (dsimp only at *; omega) | (simp at *; omega)))) rfl ⟨rfl, rfl⟩) ?_
        refine js_S rfl rfl (.inl rfl) (xv_ia (sz := 3) (j := j0) sl72 ty78 rfl rfl rfl (by (first | omega | (dsimp only at *; omega) | (simp at *; omega))) (by (first | omega | (dsimp only at *; omega) | (simp at *; omega))) (by (first | omega | (dsimp only at *; omega) | (simp at *; omega))) ⟨rfl, rfl⟩) ?_
        refine js_O0 rfl rfl (.inl rfl) (xv_s ty78 rfl rfl (by (first|(apply u_3;(repeat first|exact u_0|assumption|apply u_1|apply u_2);done)|((repeat first|exact u_0|assumption|apply u_1|apply u_2);done)|(apply u_3;apply u_3;(repeat first|exact u_0|assumption|apply u_1|apply u_2);done)|((repeat first|exact u_0|assumption|apply u_3|apply u_1);done))) rfl (by rfl) (by rfl) (ca_room eCard_len (k := j0) (by rw [hA1.size]; (first | omega | (dsimp only at *; omega) | (simp at *; omega)))) (ca_splice eCard_len (k := j0) (by rw [hA1.size]; (first | omega | (dsimp only at *; omega) | (simp at *; omega)))) ?_)
        refine js_S rfl rfl (.inl rfl) (xv_ia (sz := 3) (j := a) sl72 ty78 rfl rfl rfl (by (first | omega | (dsimp only at *; omega) | (simp at *; omega))) (by (first | omega | (dsimp only at *; omega) | (simp at *; omega))) (by (first | omega | (dsimp only at *; omega) | (simp at *; omega))) ⟨rfl, rfl⟩) ?_
        refine js_O0 rfl rfl (.inl rfl) (xv_s ty78 rfl rfl (by (first|(apply u_3;(repeat first|exact u_0|assumption|apply u_1|apply u_2);done)|((repeat first|exact u_0|assumption|apply u_1|apply u_2);done)|(apply u_3;apply u_3;(repeat first|exact u_0|assumption|apply u_1|apply u_2);done)|((repeat first|exact u_0|assumption|apply u_3|apply u_1);done))) rfl (by rfl) (by rfl) (ca_room eCard_len (k := a) (by rw [Array.size_setIfInBounds, hA1.size]; (first | omega | (dsimp only at *; omega) | (simp at *; omega)))) (ca_splice eCard_len (k := a) (by rw [Array.size_setIfInBounds, hA1.size]; (first | omega | (dsimp only at *; omega) | (simp at *; omega)))) ?_)
        refine j_end0 ?_
        refine th_n ?_
        refine xc_seq (xc_region ?_)
        refine xr_op rfl rfl (xv_move rfl ?_)
        refine xr_op rfl rfl (xv_assign rfl ?_)
        refine xr_op rfl rfl (xv_assign rfl ?_)
        refine xr_end rfl ?_
        refine th_n ?_
        refine xc_ret ?_
        refine th_r ?_
        refine body_ret (h' := ((bb, .cells ⟨(Go.Sort.swp (Go.Sort.swp d a pivot) j0 a).toList.flatMap eCard ++ sp⟩ 78) :: L)) rfl (ro_tmp rfl (ro_tmp rfl ro_nil)) (by (first|((repeat first|exact s_0|exact s_1|exact s_3|refine s_4 ?_|refine s_5 ?_|refine s_6 ?_|refine s_7 ?_);done)|((repeat first|exact s_0|exact s_1|exact s_3|refine s_4 ?_|refine s_5 ?_|refine s_6 ?_|refine s_8 ?_);done))) ?_
        first | (rw [hres] at H; exact H (by (first | omega | (dsimp only at *; omega) | (simp at *; omega))) (by (first | omega | (dsimp only at *; omega) | (simp at *; omega))) (hA1.swp (by (first | omega | (dsimp only at *; omega) | (simp at *; omega))) (by (first | omega | (dsimp only at *; omega) | (simp at *; omega))))) | (rw [hres] at H; exact H (by (first | omega | (dsimp only at *; omega) | (simp at *; omega))) (by (first | omega | (dsimp only at *; omega) | (simp at *; omega))) (hA2.swp (by (first | omega | (dsimp only at *; omega) | (simp at *; omega))) (by (first | omega | (dsimp only at *; omega) | (simp at *; omega)))))
      · refine xr_end rfl ?_
        refine th_n ?_
        refine xc_false rfl ?_
        refine xc_skip ?_
        refine th_n ?_
        refine xc_seq ?_
        refine xc_draw0 [(0, .S), (1, .S), (2, .S), (3, .S), (4, .S), (5, .S), (6, .S), (7, .R), (8, .S), (9, .S), (10, .S), (11, .R), (12, .S), (13, .O), (14, .S), (15, .O)] mixed (by kernel_rfl) ?_
        refine js_S rfl rfl (.inl rfl) (xv_move rfl ⟨rfl, rfl⟩) ?_
        refine js_S rfl rfl (.inl rfl) (xv_move rfl ⟨rfl, rfl⟩) ?_
        refine js_S rfl rfl (.inl rfl) (xv_move rfl ⟨rfl, rfl⟩) ?_
        refine js_S rfl rfl (.inl rfl) (xv_move rfl ⟨rfl, rfl⟩) ?_
        refine js_S rfl rfl (.inl rfl) (xv_move rfl ⟨rfl, rfl⟩) ?_
        refine js_S rfl rfl (.inl rfl) (xv_move rfl ⟨rfl, rfl⟩) ?_
        refine js_S rfl rfl (.inl rfl) (xv_ia (sz := 3) (j := j0) sl72 ty78 rfl rfl rfl (by (first | omega | (dsimp only at *; omega) | (simp at *; omega))) (by (first | omega | (dsimp only at *; omega) | (simp at *; omega))) (by (first | omega | (dsimp only at *; omega) | (simp at *; omega))) ⟨rfl, rfl⟩) ?_
        refine js_R0 rfl rfl (.inl rfl) (xv_loadA ty78 rfl rfl (by ((repeat first|exact z_0|assumption|refine z_1 ?_|(refine z_l ?_;(repeat first|exact z_0|assumption|refine z_1 ?_);done)|refine z_r ?_);done)) (ca_get eCard_len (k := j0) (by rw [hA1.size]; (first | omega | (dsimp only at *; omega) | (simp at *; omega)))) rfl ⟨rfl, rfl⟩) ?_
        refine js_S rfl rfl (.inl rfl) (xv_move rfl ⟨rfl, rfl⟩) ?_
        refine js_S rfl rfl (.inl rfl) (xv_move rfl ⟨rfl, rfl⟩) ?_
        refine js_S rfl rfl (.inl rfl) (xv_ia (sz := 3) (j := i0) sl72 ty78 rfl rfl rfl (by (first | omega | (dsimp only at *; omega) | (simp at *; omega))) (by (first | omega | (dsimp only at *; omega) | (simp at *; omega))) (by (first | omega | (dsimp only at *; omega) | (simp at *; omega))) ⟨rfl, rfl⟩) ?_
        refine js_R0 rfl rfl (.inl rfl) (xv_loadA ty78 rfl rfl (by ((repeat first|exact z_0|assumption|refine z_1 ?_|(refine z_l ?_;(repeat first|exact z_0|assumption|refine z_1 ?_);done)|refine z_r ?_);done)) (ca_get eCard_len (k := i0) (by rw [hA1.size]; (first | omega | (dsimp only at *; omega) | (simp at *; omega)))) rfl ⟨rfl, rfl⟩) ?_
        refine js_S rfl rfl (.inl rfl) (xv_ia (sz := 3) (j := i0) sl72 ty78 rfl rfl rfl (by (first | omega | (dsimp only at *; omega) | (simp at *; omega))) (by (first | omega | (dsimp only at *; omega) | (simp at *; omega))) (by (first | omega | (dsimp only at *; omega) | (simp at *; omega))) ⟨rfl, rfl⟩) ?_
        refine js_O0 rfl rfl (.inl rfl) (xv_s ty78 rfl rfl (by (first|(apply u_3;(repeat first|exact u_0|assumption|apply u_1|apply u_2);done)|((repeat first|exact u_0|assumption|apply u_1|apply u_2);done)|(apply u_3;apply u_3;(repeat first|exact u_0|assumption|apply u_1|apply u_2);done)|((repeat first|exact u_0|assumption|apply u_3|apply u_1);done))) rfl (by rfl) (by rfl) (ca_room eCard_len (k := i0) (by rw [hA1.size]; (first | omega | (dsimp only at *; omega) | (simp at *; omega)))) (ca_splice eCard_len (k := i0) (by rw [hA1.size]; (first | omega | (dsimp only at *; omega) | (simp at *; omega)))) ?_)
        refine js_S rfl rfl (.inl rfl) (xv_ia (sz := 3) (j := j0) sl72 ty78 rfl rfl rfl (by (first | omega | (dsimp only at *; omega) | (simp at *; omega))) (by (first | omega | (dsimp only at *; omega) | (simp at *; omega))) (by (first | omega | (dsimp only at *; omega) | (simp at *; omega))) ⟨rfl, rfl⟩) ?_
        refine js_O0 rfl rfl (.inl rfl) (xv_s ty78 rfl rfl (by (first|(apply u_3;(repeat first|exact u_0|assumption|apply u_1|apply u_2);done)|((repeat first|exact u_0|assumption|apply u_1|apply u_2);done)|(apply u_3;apply u_3;(repeat first|exact u_0|assumption|apply u_1|apply u_2);done)|((repeat first|exact u_0|assumption|apply u_3|apply u_1);done))) rfl (by rfl) (by rfl) (ca_room eCard_len (k := j0) (by rw [Array.size_setIfInBounds, hA1.size]; (first | omega | (dsimp only at *; omega) | (simp at *; omega)))) (ca_splice eCard_len (k := j0) (by rw [Array.size_setIfInBounds, hA1.size]; (first | omega | (dsimp only at *; omega) | (simp at *; omega)))) ?_)
        refine j_end0 ?_
        refine th_n ?_
        refine xc_seq (xc_region ?_)
        refine xr_op rfl rfl (xv_move rfl ?_)
        refine xr_op rfl rfl (xv_add rfl rfl (wrap_i64 (by (first | omega | (dsimp only at *; omega) | (simp at *; omega))) (by (first | omega | (dsimp only at *; omega) | (simp at *; omega)))) ?_)
        refine xr_op rfl rfl (xv_assign rfl ?_)
        refine xr_end rfl ?_
        refine th_n ?_
        refine xc_seq (xc_region ?_)
        refine xr_op rfl rfl (xv_move rfl ?_)
        refine xr_op rfl rfl (xv_sub rfl rfl (wrap_i64 (by (first | omega | (dsimp only at *; omega) | (simp at *; omega))) (by (first | omega | (dsimp only at *; omega) | (simp at *; omega)))) ?_)
        refine xr_op rfl rfl (xv_assign rfl ?_)
        refine xr_end rfl ?_
        refine th_n ?_
        refine xc_seq ?_
        refine xc_block ?_
        refine xc_loop (σ := Nat × Nat × Array Card) (fun z => a + 1 ≤ z.1 ∧ z.1 ≤ b ∧ a ≤ z.2.1 ∧ z.2.1 + 1 ≤ b ∧ Arr N p z.2.2 ∧ Go.Sort.partLoop (ltc cm) a z.1 z.2.1 z.2.2 = Go.Sort.partLoop (ltc cm) a (i0 + 1) (j0 - 1) (Go.Sort.swp (Go.Sort.swp d a pivot) i0 j0)) (fun z => (((((emp.put (some 0) (.slice (some ⟨bb, 0, none⟩) N cap)).put (some 1) (I a)).put (some 4) (f)).put (some 12) (I z.1)).put (some 13) (I z.2.1))) (fun z => ((bb, .cells ⟨(z.2.2).toList.flatMap eCard ++ sp⟩ 78) :: L)) (fun z => z.2.1 + 1 - z.1) ((i0 + 1, j0 - 1, Go.Sort.swp (Go.Sort.swp d a pivot) i0 j0) : Nat × Nat × Array Card) ⟨by dsimp only; omega, by dsimp only; (first | omega | (dsimp only at *; omega) | (simp at *; omega)), by dsimp only; (first | omega | (dsimp only at *; omega) | (simp at *; omega)), by dsimp only; (first | omega | (dsimp only at *; omega) | (simp at *; omega)), hA1.swp (by (first | omega | (dsimp only at *; omega) | (simp at *; omega))) (by (first | omega | (dsimp only at *; omega) | (simp at *; omega))), rfl⟩ (le_put (le_put (le_put (le_put (le_put (le_emp _) rfl) rfl) rfl) rfl) (by dsimp only; rw [show ((j0 - 1 : Nat) : Int) = (j0 : Int) - 1 by (first | omega | (dsimp only at *; omega) | (simp at *; omega))]; rfl)) (by (first|((repeat first|exact s_0|exact s_1|exact s_3|refine s_4 ?_|refine s_5 ?_|refine s_6 ?_|refine s_7 ?_);done)|((repeat first|exact s_0|exact s_1|exact s_3|refine s_4 ?_|refine s_5 ?_|refine s_6 ?_|refine s_8 ?_);done))) ?_
        rintro ⟨i1, j1, d2⟩ ⟨ho1, ho2, ho3, ho4, hA2, heq⟩
        dsimp only at ho1 ho2 ho3 ho4 hA2 heq
        refine xc_block ?_
        refine xc_join (σ := Nat) (fun i => a + 1 ≤ i ∧ i ≤ b ∧ Go.Sort.scanUp (fun x => ltc cm x d2[a]!) d2 j1 i1 = i) (fun i => (((((emp.put (some 0) (.slice (some ⟨bb, 0, none⟩) N cap)).put (some 1) (I a)).put (some 4) (f)).put (some 12) (I i)).put (some 13) (I ((j1 : Nat) : Int)))) (fun i => ((bb, .cells ⟨(d2).toList.flatMap eCard ++ sp⟩ 78) :: L)) ?_ ?_
        · refine xc_block ?_
          refine xc_loop (σ := Nat) (fun i => a + 1 ≤ i ∧ i ≤ b ∧ Go.Sort.scanUp (fun x => ltc cm x d2[a]!) d2 j1 i = Go.Sort.scanUp (fun x => ltc cm x d2[a]!) d2 j1 i1) (fun i => (((((emp.put (some 0) (.slice (some ⟨bb, 0, none⟩) N cap)).put (some 1) (I a)).put (some 4) (f)).put (some 12) (I i)).put (some 13) (I ((j1 : Nat) : Int)))) (fun i => ((bb, .cells ⟨(d2).toList.flatMap eCard ++ sp⟩ 78) :: L)) (fun i => b - i) i1 ⟨by (first | omega | (dsimp only at *; omega) | (simp at *; omega)), by (first | omega | (dsimp only at *; omega) | (simp at *; omega)), rfl⟩ (le_put (le_put (le_put (le_put (le_put (le_emp _) rfl) rfl) rfl) rfl) (by first | rfl | (rw [show ((j1 : Nat) : Int) = (b : Int) - 1 by omega]; rfl))) (by (first|((repeat first|exact s_0|exact s_1|exact s_3|refine s_4 ?_|refine s_5 ?_|refine s_6 ?_|refine s_7 ?_);done)|((repeat first|exact s_0|exact s_1|exact s_3|refine s_4 ?_|refine s_5 ?_|refine s_6 ?_|refine s_8 ?_);done))) ?_
          rintro i ⟨hi1, hi2, hup⟩
          refine xc_seq ?_
          refine xc_seq ?_
          refine xc_draw0 [(0, .S), (1, .S), (2, .O), (3, .S), (4, .S), (5, .S), (6, .S), (7, .S), (8, .R), (9, .S), (10, .S), (11, .S), (12, .R), (13, .R), (14, .O), (15, .S)] mixed (by kernel_rfl) ?_
          refine js_S rfl rfl (.inl rfl) (xv_move rfl ⟨rfl, rfl⟩) ?_
          refine js_S rfl rfl (.inl rfl) (xv_move rfl ⟨rfl, rfl⟩) ?_
          refine js_O0 rfl rfl (.inl rfl) (xv_leq2 rfl rfl (fun hq => ?_) (fun hq => ?_))
          · refine js_S rfl rfl (.inl rfl) (xv_move rfl ⟨rfl, rfl⟩) ?_
            refine js_S rfl rfl (.inr ⟨_, _, rfl, rfl⟩) (xv_move rfl ⟨rfl, rfl⟩) ?_
            refine js_S rfl rfl (.inr ⟨_, _, rfl, rfl⟩) (xv_move rfl ⟨rfl, rfl⟩) ?_
            refine js_S rfl rfl (.inr ⟨_, _, rfl, rfl⟩) (xv_move rfl ⟨rfl, rfl⟩) ?_
            refine js_S rfl rfl (.inr ⟨_, _, rfl, rfl⟩) (xv_ia (sz := 3) (j := i) sl72 ty78 rfl rfl rfl (by (first | omega | (dsimp only at *; omega) | (simp at *; omega))) (by (first | omega | (dsimp only at *; omega) | (simp at *; omega))) (by (first | omega | (dsimp only at *; omega) | (simp at *; omega))) ⟨rfl, rfl⟩) ?_
            refine js_R0 rfl rfl (.inr ⟨_, _, rfl, rfl⟩) (xv_loadA ty78 rfl rfl (by ((repeat first|exact z_0|assumption|refine z_1 ?_|(refine z_l ?_;(repeat first|exact z_0|assumption|refine z_1 ?_);done)|refine z_r ?_);done)) (ca_get eCard_len (k := i) (by rw [hA2.size]; (first | omega | (dsimp only at *; omega) | (simp at *; omega)))) rfl ⟨rfl, rfl⟩) ?_
            refine js_S rfl rfl (.inr ⟨_, _, rfl, rfl⟩) (xv_move rfl ⟨rfl, rfl⟩) ?_
            refine js_S rfl rfl (.inr ⟨_, _, rfl, rfl⟩) (xv_move rfl ⟨rfl, rfl⟩) ?_
            refine js_S rfl rfl (.inr ⟨_, _, rfl, rfl⟩) (xv_ia (sz := 3) (j := a) sl72 ty78 rfl rfl rfl (by (first | omega | (dsimp only at *; omega) | (simp at *; omega))) (by (first | omega | (dsimp only at *; omega) | (simp at *; omega))) (by (first | omega | (dsimp only at *; omega) | (simp at *; omega))) ⟨rfl, rfl⟩) ?_
            refine js_R0 rfl rfl (.inr ⟨_, _, rfl, rfl⟩) (xv_loadA ty78 rfl rfl (by ((repeat first|exact z_0|assumption|refine z_1 ?_|(refine z_l ?_;(repeat first|exact z_0|assumption|refine z_1 ?_);done)|refine z_r ?_);done)) (ca_get eCard_len (k := a) (by rw [hA2.size]; (first | omega | (dsimp only at *; omega) | (simp at *; omega)))) rfl ⟨rfl, rfl⟩) ?_
            refine js_R0 rfl rfl (.inr ⟨_, _, rfl, rfl⟩) (xv_fn rfl rfl (hf _ _ (hA2.all _ (by (first | omega | (dsimp only at *; omega) | (simp at *; omega)))) (hA2.all _ (by (first | omega | (dsimp only at *; omega) | (simp at *; omega)))) _ _ (by intro z hz; ((repeat first|exact z_0|assumption|refine z_1 ?_|(refine z_l ?_;(repeat first|exact z_0|assumption|refine z_1 ?_);done)|refine z_r ?_);done)) (up_ret ⟨rfl, rfl⟩))) ?_
            refine js_O0 rfl rfl (.inr ⟨_, _, rfl, rfl⟩) (xv_lss2 rfl rfl (fun hq => ?_) (fun hq => ?_))
            · refine js_S rfl rfl (.inl rfl) (xv_pick rfl rfl ⟨rfl, rfl⟩) ?_
              refine j_end0 ?_
              refine th_n ?_
              refine xc_true rfl ?_
              refine xc_skip ?_
              refine th_n ?_
              refine xc_block ?_
              refine xc_region ?_
              refine xr_op rfl rfl (xv_move rfl ?_)
              refine xr_op rfl rfl (xv_add rfl rfl (wrap_i64 (by (first | omega | (dsimp only at *; omega) | (simp at *; omega))) (by (first | omega | (dsimp only at *; omega) | (simp at *; omega)))) ?_)
              refine xr_op rfl rfl (xv_assign rfl ?_)
              refine xr_end rfl ?_
              refine bk_n ?_
              exact rnd (i + 1) ⟨by (first | omega | (dsimp only at *; omega) | (simp at *; omega)), by (first | omega | (dsimp only at *; omega) | (simp at *; omega)), (scanUp_step (p := (fun x => ltc cm x d2[a]!)) (d := d2) (by (first | omega | (dsimp only at *; omega) | (simp at *; omega))) (ltc_T (by (first | omega | (dsimp only at *; omega) | (simp at *; omega))))).symm.trans hup⟩ (by (first | omega | (dsimp only at *; omega) | (simp at *; omega))) (le_put (le_put (le_put (le_put (le_put (le_emp _) rfl) rfl) rfl) rfl) rfl) (by (first|((repeat first|exact s_0|exact s_1|exact s_3|refine s_4 ?_|refine s_5 ?_|refine s_6 ?_|refine s_7 ?_);done)|((repeat first|exact s_0|exact s_1|exact s_3|refine s_4 ?_|refine s_5 ?_|refine s_6 ?_|refine s_8 ?_);done)))
            · refine js_S rfl rfl (.inl rfl) (xv_pick rfl rfl ⟨rfl, rfl⟩) ?_
              refine j_end0 ?_
              refine th_n ?_
              refine xc_false rfl ?_
              refine xc_exit ?_
              refine th_x ?_
              refine th_x ?_
              refine bk_same ?_
              exact jn_n i ⟨by (first | omega | (dsimp only at *; omega) | (simp at *; omega)), by (first | omega | (dsimp only at *; omega) | (simp at *; omega)), by
                rw [← hup]; first | exact scanUp_stop (p := (fun x => ltc cm x d2[a]!)) (d := d2) (.inl (by (first | omega | (dsimp only at *; omega) | (simp at *; omega)))) | exact scanUp_stop (p := (fun x => ltc cm x d2[a]!)) (d := d2) (.inr (ltc_F (by (first | omega | (dsimp only at *; omega) | (simp at *; omega)))))⟩ (le_put (le_put (le_put (le_put (le_put (le_emp _) rfl) rfl) rfl) rfl) rfl) (by (first|((repeat first|exact s_0|exact s_1|exact s_3|refine s_4 ?_|refine s_5 ?_|refine s_6 ?_|refine s_7 ?_);done)|((repeat first|exact s_0|exact s_1|exact s_3|refine s_4 ?_|refine s_5 ?_|refine s_6 ?_|refine s_8 ?_);done)))
          · refine js_S rfl rfl (.inl rfl) (xv_move rfl ⟨rfl, rfl⟩) ?_
            refine js_Ss rfl rfl ⟨_, _, _, rfl, rfl, rfl⟩ ?_
            refine js_Ss rfl rfl ⟨_, _, _, rfl, rfl, rfl⟩ ?_
            refine js_Ss rfl rfl ⟨_, _, _, rfl, rfl, rfl⟩ ?_
            refine js_Ss rfl rfl ⟨_, _, _, rfl, rfl, rfl⟩ ?_
            refine js_Rs rfl rfl ⟨_, _, _, rfl, rfl, rfl⟩ ?_
            refine js_Ss rfl rfl ⟨_, _, _, rfl, rfl, rfl⟩ ?_
            refine js_Ss rfl rfl ⟨_, _, _, rfl, rfl, rfl⟩ ?_
            refine js_Ss rfl rfl ⟨_, _, _, rfl, rfl, rfl⟩ ?_
            refine js_Rs rfl rfl ⟨_, _, _, rfl, rfl, rfl⟩ ?_
            refine js_Rs rfl rfl ⟨_, _, _, rfl, rfl, rfl⟩ ?_
            refine js_Os rfl rfl ⟨_, _, _, rfl, rfl, rfl⟩ ?_
            refine js_S rfl rfl (.inl rfl) (xv_pick rfl rfl ⟨rfl, rfl⟩) ?_
            refine j_end0 ?_
            refine th_n ?_
            refine xc_false rfl ?_
            refine xc_exit ?_
            refine th_x ?_
            refine th_x ?_
            refine bk_same ?_
            exact jn_n i ⟨by (first | omega | (dsimp only at *; omega) | (simp at *; omega)), by (first | omega | (dsimp only at *; omega) | (simp at *; omega)), by
              rw [← hup]; first | exact scanUp_stop (p := (fun x => ltc cm x d2[a]!)) (d := d2) (.inl (by (first | omega | (dsimp only at *; omega) | (simp at *; omega)))) | exact scanUp_stop (p := (fun x => ltc cm x d2[a]!)) (d := d2) (.inr (ltc_F (by (first | omega | (dsimp only at *; omega) | (simp at *; omega)))))⟩ (le_put (le_put (le_put (le_put (le_put (le_emp _) rfl) rfl) rfl) rfl) rfl) (by (first|((repeat first|exact s_0|exact s_1|exact s_3|refine s_4 ?_|refine s_5 ?_|refine s_6 ?_|refine s_7 ?_);done)|((repeat first|exact s_0|exact s_1|exact s_3|refine s_4 ?_|refine s_5 ?_|refine s_6 ?_|refine s_8 ?_);done)))
        · rintro i ⟨hi1, hi2, hup2⟩
          refine xc_join (σ := Nat) (fun j => a ≤ j ∧ j ≤ j1 ∧ Go.Sort.scanDown (fun x => !ltc cm x d2[a]!) d2 i j1 = j) (fun j => (((((emp.put (some 0) (.slice (some ⟨bb, 0, none⟩) N cap)).put (some 1) (I a)).put (some 4) (f)).put (some 12) (I i)).put (some 13) (I j))) (fun j => ((bb, .cells ⟨(d2).toList.flatMap eCard ++ sp⟩ 78) :: L)) ?_ ?_
          · refine xc_block ?_
            refine xc_loop (σ := Nat) (fun j => a ≤ j ∧ j ≤ j1 ∧ Go.Sort.scanDown (fun x => !ltc cm x d2[a]!) d2 i j = Go.Sort.scanDown (fun x => !ltc cm x d2[a]!) d2 i j1) (fun j => (((((emp.put (some 0) (.slice (some ⟨bb, 0, none⟩) N cap)).put (some 1) (I a)).put (some 4) (f)).put (some 12) (I i)).put (some 13) (I j))) (fun j => ((bb, .cells ⟨(d2).toList.flatMap eCard ++ sp⟩ 78) :: L)) (fun j => j) j1 ⟨by (first | omega | (dsimp only at *; omega) | (simp at *; omega)), Nat.le_refl _, rfl⟩ (le_put (le_put (le_put (le_put (le_put (le_emp _) rfl) rfl) rfl) rfl) rfl) (by (first|((repeat first|exact s_0|exact s_1|exact s_3|refine s_4 ?_|refine s_5 ?_|refine s_6 ?_|refine s_7 ?_);done)|((repeat first|exact s_0|exact s_1|exact s_3|refine s_4 ?_|refine s_5 ?_|refine s_6 ?_|refine s_8 ?_);done))) ?_
            rintro j ⟨hj1, hj2, hdn⟩
            refine xc_seq ?_
            refine xc_seq ?_
            refine xc_draw0 [(0, .S), (1, .S), (2, .O), (3, .S), (4, .S), (5, .S), (6, .S), (7, .S), (8, .R), (9, .S), (10, .S), (11, .S), (12, .R), (13, .R), (14, .O), (15, .S), (16, .S)] mixed (by kernel_rfl) ?_
            refine js_S rfl rfl (.inl rfl) (xv_move rfl ⟨rfl, rfl⟩) ?_
            refine js_S rfl rfl (.inl rfl) (xv_move rfl ⟨rfl, rfl⟩) ?_
            refine js_O0 rfl rfl (.inl rfl) (xv_leq2 rfl rfl (fun hq => ?_) (fun hq => ?_))
            · refine js_S rfl rfl (.inl rfl) (xv_move rfl ⟨rfl, rfl⟩) ?_
              refine js_S rfl rfl (.inr ⟨_, _, rfl, rfl⟩) (xv_move rfl ⟨rfl, rfl⟩) ?_
              refine js_S rfl rfl (.inr ⟨_, _, rfl, rfl⟩) (xv_move rfl ⟨rfl, rfl⟩) ?_
              refine js_S rfl rfl (.inr ⟨_, _, rfl, rfl⟩) (xv_move rfl ⟨rfl, rfl⟩) ?_
              refine js_S rfl rfl (.inr ⟨_, _, rfl, rfl⟩) (xv_ia (sz := 3) (j := j) sl72 ty78 rfl rfl rfl (by (first | omega | (dsimp only at *; omega) | (simp at *; omega))) (by (first | omega | (dsimp only at *; omega) | (simp at *; omega))) (by (first | omega | (dsimp only at *; omega) | (simp at *; omega))) ⟨rfl, rfl⟩) ?_
              refine js_R0 rfl rfl (.inr ⟨_, _, rfl, rfl⟩) (xv_loadA ty78 rfl rfl (by ((repeat first|exact z_0|assumption|refine z_1 ?_|(refine z_l ?_;(repeat first|exact z_0|assumption|refine z_1 ?_);done)|refine z_r ?_);done)) (ca_get eCard_len (k := j) (by rw [hA2.size]; (first | omega | (dsimp only at *; omega) | (simp at *; omega)))) rfl ⟨rfl, rfl⟩) ?_
              refine js_S rfl rfl (.inr ⟨_, _, rfl, rfl⟩) (xv_move rfl ⟨rfl, rfl⟩) ?_
              refine js_S rfl rfl (.inr ⟨_, _, rfl, rfl⟩) (xv_move rfl ⟨rfl, rfl⟩) ?_
              refine js_S rfl rfl (.inr ⟨_, _, rfl, rfl⟩) (xv_ia (sz := 3) (j := a) sl72 ty78 rfl rfl rfl (by (first | omega | (dsimp only at *; omega) | (simp at *; omega))) (by (first | omega | (dsimp only at *; omega) | (simp at *; omega))) (by (first | omega | (dsimp only at *; omega) | (simp at *; omega))) ⟨rfl, rfl⟩) ?_
              refine js_R0 rfl rfl (.inr ⟨_, _, rfl, rfl⟩) (xv_loadA ty78 rfl rfl (by ((repeat first|exact z_0|assumption|refine z_1 ?_|(refine z_l ?_;(repeat first|exact z_0|assumption|refine z_1 ?_);done)|refine z_r ?_);done)) (ca_get eCard_len (k := a) (by rw [hA2.size]; (first | omega | (dsimp only at *; omega) | (simp at *; omega)))) rfl ⟨rfl, rfl⟩) ?_
              refine js_R0 rfl rfl (.inr ⟨_, _, rfl, rfl⟩) (xv_fn rfl rfl (hf _ _ (hA2.all _ (by (first | omega | (dsimp only at *; omega) | (simp at *; omega)))) (hA2.all _ (by (first | omega | (dsimp only at *; omega) | (simp at *; omega)))) _ _ (by intro z hz; ((repeat first|exact z_0|assumption|refine z_1 ?_|(refine z_l ?_;(repeat first|exact z_0|assumption|refine z_1 ?_);done)|refine z_r ?_);done)) (up_ret ⟨rfl, rfl⟩))) ?_
              refine js_O0 rfl rfl (.inr ⟨_, _, rfl, rfl⟩) (xv_lss2 rfl rfl (fun hq => ?_) (fun hq => ?_))
              · refine js_S rfl rfl (.inr ⟨_, _, rfl, rfl⟩) (xv_not rfl ⟨rfl, rfl⟩) ?_
                refine js_S rfl rfl (.inl rfl) (xv_pick rfl rfl ⟨rfl, rfl⟩) ?_
                refine j_end0 ?_
                refine th_n ?_
                refine xc_false rfl ?_
                refine xc_exit ?_
                refine th_x ?_
                refine th_x ?_
                refine bk_same ?_
                exact jn_n j ⟨by (first | omega | (dsimp only at *; omega) | (simp at *; omega)), by (first | omega | (dsimp only at *; omega) | (simp at *; omega)), by
                  rw [← hdn]; first | exact scanDown_stop (p := (fun x => !ltc cm x d2[a]!)) (d := d2) (.inl (by (first | omega | (dsimp only at *; omega) | (simp at *; omega)))) | exact scanDown_stop (p := (fun x => !ltc cm x d2[a]!)) (d := d2) (.inr (notF (ltc_T (by (first | omega | (dsimp only at *; omega) | (simp at *; omega))))))⟩ (le_put (le_put (le_put (le_put (le_put (le_emp _) rfl) rfl) rfl) rfl) rfl) (by (first|((repeat first|exact s_0|exact s_1|exact s_3|refine s_4 ?_|refine s_5 ?_|refine s_6 ?_|refine s_7 ?_);done)|((repeat first|exact s_0|exact s_1|exact s_3|refine s_4 ?_|refine s_5 ?_|refine s_6 ?_|refine s_8 ?_);done)))
              · refine js_S rfl rfl (.inr ⟨_, _, rfl, rfl⟩) (xv_not rfl ⟨rfl, rfl⟩) ?_
                refine js_S rfl rfl (.inl rfl) (xv_pick rfl rfl ⟨rfl, rfl⟩) ?_
                refine j_end0 ?_
                refine th_n ?_
                refine xc_true rfl ?_
                refine xc_skip ?_
                refine th_n ?_
                refine xc_block ?_
                refine xc_region ?_
                refine xr_op rfl rfl (xv_move rfl ?_)
                refine xr_op rfl rfl (xv_sub rfl rfl (wrap_i64 (by (first | omega | (dsimp only at *; omega) | (simp at *; omega))) (by (first | omega | (dsimp only at *; omega) | (simp at *; omega)))) ?_)
                refine xr_op rfl rfl (xv_assign rfl ?_)
                refine xr_end rfl ?_
                refine bk_n ?_
                exact rnd (j - 1) ⟨by (first | omega | (dsimp only at *; omega) | (simp at *; omega)), by (first | omega | (dsimp only at *; omega) | (simp at *; omega)), (scanDown_step (p := (fun x => !ltc cm x d2[a]!)) (d := d2) (by (first | omega | (dsimp only at *; omega) | (simp at *; omega))) (by (first | omega | (dsimp only at *; omega) | (simp at *; omega))) (notT (ltc_F (by (first | omega | (dsimp only at *; omega) | (simp at *; omega)))))).symm.trans hdn⟩ (by (first | omega | (dsimp only at *; omega) | (simp at *; omega))) (le_put (le_put (le_put (le_put (le_put (le_emp _) rfl) rfl) rfl) rfl) (by rw [show ((j - 1 : Nat) : Int) = (j : Int) - 1 by (first | omega | (dsimp only at *; omega) | (simp at *; omega))]; rfl)) (by (first|((repeat first|exact s_0|exact s_1|exact s_3|refine s_4 ?_|refine s_5 ?_|refine s_6 ?_|refine s_7 ?_);done)|((repeat first|exact s_0|exact s_1|exact s_3|refine s_4 ?_|refine s_5 ?_|refine s_6 ?_|refine s_8 ?_);done)))
            · refine js_S rfl rfl (.inl rfl) (xv_move rfl ⟨rfl, rfl⟩) ?_
              refine js_Ss rfl rfl ⟨_, _, _, rfl, rfl, rfl⟩ ?_
              refine js_Ss rfl rfl ⟨_, _, _, rfl, rfl, rfl⟩ ?_
              refine js_Ss rfl rfl ⟨_, _, _, rfl, rfl, rfl⟩ ?_
              refine js_Ss rfl rfl ⟨_, _, _, rfl, rfl, rfl⟩ ?_
              refine js_Rs rfl rfl ⟨_, _, _, rfl, rfl, rfl⟩ ?_
              refine js_Ss rfl rfl ⟨_, _, _, rfl, rfl, rfl⟩ ?_
              refine js_Ss rfl rfl ⟨_, _, _, rfl, rfl, rfl⟩ ?_
              refine js_Ss rfl rfl ⟨_, _, _, rfl, rfl, rfl⟩ ?_
              refine js_Rs rfl rfl ⟨_, _, _, rfl, rfl, rfl⟩ ?_
              refine js_Rs rfl rfl ⟨_, _, _, rfl, rfl, rfl⟩ ?_
              refine js_Os rfl rfl ⟨_, _, _, rfl, rfl, rfl⟩ ?_
              refine js_Ss rfl rfl ⟨_, _, _, rfl, rfl, rfl⟩ ?_
              refine js_S rfl rfl (.inl rfl) (xv_pick rfl rfl ⟨rfl, rfl⟩) ?_
              refine j_end0 ?_
              refine th_n ?_
              refine xc_false rfl ?_
              refine xc_exit ?_
              refine th_x ?_
              refine th_x ?_
              refine bk_same ?_
              exact jn_n j ⟨by (first | omega | (dsimp only at *; omega) | (simp at *; omega)), by (first | omega | (dsimp only at *; omega) | (simp at *; omega)), by
                rw [← hdn]; first | exact scanDown_stop (p := (fun x => !ltc cm x d2[a]!)) (d := d2) (.inl (by (first | omega | (dsimp only at *; omega) | (simp at *; omega)))) | exact scanDown_stop (p := (fun x => !ltc cm x d2[a]!)) (d := d2) (.inr (notF (ltc_T (by (first | omega | (dsimp only at *; omega) | (simp at *; omega))))))⟩ (le_put (le_put (le_put (le_put (le_put (le_emp _) rfl) rfl) rfl) rfl) rfl) (by (first|((repeat first|exact s_0|exact s_1|exact s_3|refine s_4 ?_|refine s_5 ?_|refine s_6 ?_|refine s_7 ?_);done)|((repeat first|exact s_0|exact s_1|exact s_3|refine s_4 ?_|refine s_5 ?_|refine s_6 ?_|refine s_8 ?_);done)))
          · rintro j ⟨hj1, hj2, hdn2⟩
            refine xc_seq ?_
            refine xc_seq (xc_region ?_)
            refine xr_op rfl rfl (xv_move rfl ?_)
            refine xr_op rfl rfl (xv_move rfl ?_)
            refine xr_op rfl rfl (xv_gtr2 rfl rfl (fun q2 => ?_) (fun q2 => ?_))
            · refine xr_end rfl ?_
              refine th_n ?_
              refine xc_true rfl ?_
              refine xc_exit ?_
              refine th_x ?_
              refine bk_other rfl ?_
              refine th_x ?_
              refine bk_same ?_
              refine th_n ?_
              refine xc_seq ?_
              refine xc_draw0 [(0, .S), (1, .S), (2, .S), (3, .S), (4, .S), (5, .S), (6, .S), (7, .R), (8, .S), (9, .S), (10, .S), (11, .R), (12, .S), (13, .O), (14, .S), (15, .O)] mixed (by kernel_rfl) ?_
              have hres := part_res2 hu02 hd02 (by (first | omega | (dsimp only at *; omega) | (simp at *; omega))) (heq.symm.trans (part_stop2 hup2 hdn2 (by (first | omega | (dsimp only at *; omega) | (simp at *; omega)))))
              refine js_S rfl rfl (.inl rfl) (xv_move rfl ⟨rfl, rfl⟩) ?_
              refine js_S rfl rfl (.inl rfl) (xv_move rfl ⟨rfl, rfl⟩) ?_
              refine js_S rfl rfl (.inl rfl) (xv_move rfl ⟨rfl, rfl⟩) ?_
              refine js_S rfl rfl (.inl rfl) (xv_move rfl ⟨rfl, rfl⟩) ?_
              refine js_S rfl rfl (.inl rfl) (xv_move rfl ⟨rfl, rfl⟩) ?_
              refine js_S rfl rfl (.inl rfl) (xv_move rfl ⟨rfl, rfl⟩) ?_
              refine js_S rfl rfl (.inl rfl) (xv_ia (sz := 3) (j := a) sl72 ty78 rfl rfl rfl (by (first | omega | (dsimp only at *; omega) | (simp at *; omega))) (by (first | omega | (dsimp only at *; omega) | (simp at *; omega))) (by (first | omega | (dsimp only at *; omega) | (simp at *; omega))) ⟨rfl, rfl⟩) ?_
              refine js_R0 rfl rfl (.inl rfl) (xv_loadA ty78 rfl rfl (by ((repeat first|exact z_0|assumption|refine z_1 ?_|(refine z_l ?_;(repeat first|exact z_0|assumption|refine z_1 ?_);done)|refine z_r ?_);done)) (ca_get eCard_len (k := a) (by rw [hA2.size]; (first | omega | (dsimp only at *; omega) | (simp at *; omega)))) rfl ⟨rfl, rfl⟩) ?_
              refine js_S rfl rfl (.inl rfl) (xv_move rfl ⟨rfl, rfl⟩) ?_
              refine js_S rfl rfl (.inl rfl) (xv_move rfl ⟨rfl, rfl⟩) ?_
              refine js_S rfl rfl (.inl rfl) (xv_ia (sz := 3) (j := j) sl72 ty78 rfl rfl rfl (by (first | omega | (dsimp only at *; omega) | (simp at *; omega))) (by (first | omega | (dsimp only at *; omega) | (simp at *; omega))) (by (first | omega | (dsimp only at *; omega) | (simp at *; omega))) ⟨rfl, rfl⟩) ?_
              refine js_R0 rfl rfl (.inl rfl) (xv_loadA ty78 rfl rfl (by ((repeat first|exact z_0|assumption|refine z_1 ?_|(refine z_l ?_;(repeat first|exact z_0|assumption|refine z_1 ?_);done)|refine z_r ?_);done)) (ca_get eCard_len (k := j) (by rw [hA2.size]; (first | omega | (dsimp only at *; omega) | (simp at *; omega)))) rfl ⟨rfl, rfl⟩) ?_
              refine js_S rfl rfl (.inl rfl) (xv_ia (sz := 3) (j := j) sl72 ty78 rfl rfl rfl (by (first | omega | (dsimp only at *; omega) | (simp at *; omega))) (by (first | omega | (dsimp only at *; omega) | (simp at *; omega))) (by (first | omega | (dsimp only at *; omega) | (simp at *; omega))) ⟨rfl, rfl⟩) ?_
              refine js_O0 rfl rfl (.inl rfl) (xv_s ty78 rfl rfl (by (first|(apply u_3;(repeat first|exact u_0|assumption|apply u_1|apply u_2);done)|((repeat first|exact u_0|assumption|apply u_1|apply u_2);done)|(apply u_3;apply u_3;(repeat first|exact u_0|assumption|apply u_1|apply u_2);done)|((repeat first|exact u_0|assumption|apply u_3|apply u_1);done))) rfl (by rfl) (by rfl) (ca_room eCard_len (k := j) (by rw [hA2.size]; (first | omega | (dsimp only at *; omega) | (simp at *; omega)))) (ca_splice eCard_len (k := j) (by rw [hA2.size]; (first | omega | (dsimp only at *; omega) | (simp at *; omega)))) ?_)
              refine js_S rfl rfl (.inl rfl) (xv_ia (sz := 3) (j := a) sl72 ty78 rfl rfl rfl (by (first | omega | (dsimp only at *; omega) | (simp at *; omega))) (by (first | omega | (dsimp only at *; omega) | (simp at *; omega))) (by (first | omega | (dsimp only at *; omega) | (simp at *; omega))) ⟨rfl, rfl⟩) ?_
              refine js_O0 rfl rfl (.inl rfl) (xv_s ty78 rfl rfl (by (first|(apply u_3;(repeat first|exact u_0|assumption|apply u_1|apply u_2);done)|((repeat first|exact u_0|assumption|apply u_1|apply u_2);done)|(apply u_3;apply u_3;(repeat first|exact u_0|assumption|apply u_1|apply u_2);done)|((repeat first|exact u_0|assumption|apply u_3|apply u_1);done))) rfl (by rfl) (by rfl) (ca_room eCard_len (k := a) (by rw [Array.size_setIfInBounds, hA2.size]; (first | omega | (dsimp only at *; omega) | (simp at *; omega)))) (ca_splice eCard_len (k := a) (by rw [Array.size_setIfInBounds, hA2.size]; (first | omega | (dsimp only at *; omega) | (simp at *; omega)))) ?_)
              refine j_end0 ?_
              refine th_n ?_
              refine xc_seq (xc_region ?_)
              refine xr_op rfl rfl (xv_move rfl ?_)
              refine xr_op rfl rfl (xv_assign rfl ?_)
              refine xr_op rfl rfl (xv_assign rfl ?_)
              refine xr_end rfl ?_
              refine th_n ?_
              refine xc_ret ?_
              refine body_ret (h' := ((bb, .cells ⟨(Go.Sort.swp d2 j a).toList.flatMap eCard ++ sp⟩ 78) :: L)) rfl (ro_tmp rfl (ro_tmp rfl ro_nil)) (by (first|((repeat first|exact s_0|exact s_1|exact s_3|refine s_4 ?_|refine s_5 ?_|refine s_6 ?_|refine s_7 ?_);done)|((repeat first|exact s_0|exact s_1|exact s_3|refine s_4 ?_|refine s_5 ?_|refine s_6 ?_|refine s_8 ?_);done))) ?_
              first | (rw [hres] at H; exact H (by (first | omega | (dsimp only at *; omega) | (simp at *; omega))) (by (first | omega | (dsimp only at *; omega) | (simp at *; omega))) (hA1.swp (by (first | omega | (dsimp only at *; omega) | (simp at *; omega))) (by (first | omega | (dsimp only at *; omega) | (simp at *; omega))))) | (rw [hres] at H; exact H (by (first | omega | (dsimp only at *; omega) | (simp at *; omega))) (by (first | omega | (dsimp only at *; omega) | (simp at *; omega))) (hA2.swp (by (first | omega | (dsimp only at *; omega) | (simp at *; omega))) (by (first | omega | (dsimp only at *; omega) | (simp at *; omega)))))
            · refine xr_end rfl ?_
              refine th_n ?_
              refine xc_false rfl ?_
              refine xc_skip ?_
              refine th_n ?_
              refine xc_seq ?_
              refine xc_draw0 [(0, .S), (1, .S), (2, .S), (3, .S), (4, .S), (5, .S), (6, .S), (7, .R), (8, .S), (9, .S), (10, .S), (11, .R), (12, .S), (13, .O), (14, .S), (15, .O)] mixed (by kernel_rfl) ?_
              refine js_S rfl rfl (.inl rfl) (xv_move rfl ⟨rfl, rfl⟩) ?_
              refine js_S rfl rfl (.inl rfl) (xv_move rfl ⟨rfl, rfl⟩) ?_
              refine js_S rfl rfl (.inl rfl) (xv_move rfl ⟨rfl, rfl⟩) ?_
              refine js_S rfl rfl (.inl rfl) (xv_move rfl ⟨rfl, rfl⟩) ?_
              refine js_S rfl rfl (.inl rfl) (xv_move rfl ⟨rfl, rfl⟩) ?_
              refine js_S rfl rfl (.inl rfl) (xv_move rfl ⟨rfl, rfl⟩) ?_
              refine js_S rfl rfl (.inl rfl) (xv_ia (sz := 3) (j := j) sl72 ty78 rfl rfl rfl (by (first | omega | (dsimp only at *; omega) | (simp at *; omega))) (by (first | omega | (dsimp only at *; omega) | (simp at *; omega))) (by (first | omega | (dsimp only at *; omega) | (simp at *; omega))) ⟨rfl, rfl⟩) ?_
              refine js_R0 rfl rfl (.inl rfl) (xv_loadA ty78 rfl rfl (by ((repeat first|exact z_0|assumption|refine z_1 ?_|(refine z_l ?_;(repeat first|exact z_0|assumption|refine z_1 ?_);done)|refine z_r ?_);done)) (ca_get eCard_len (k := j) (by rw [hA2.size]; (first | omega | (dsimp only at *; omega) | (simp at *; omega)))) rfl ⟨rfl, rfl⟩) ?_
              refine js_S rfl rfl (.inl rfl) (xv_move rfl ⟨rfl, rfl⟩) ?_
              refine js_S rfl rfl (.inl rfl) (xv_move rfl ⟨rfl, rfl⟩) ?_
              refine js_S rfl rfl (.inl rfl) (xv_ia (sz := 3) (j := i) sl72 ty78 rfl rfl rfl (by (first | omega | (dsimp only at *; omega) | (simp at *; omega))) (by (first | omega | (dsimp only at *; omega) | (simp at *; omega))) (by (first | omega | (dsimp only at *; omega) | (simp at *; omega))) ⟨rfl, rfl⟩) ?_
              refine js_R0 rfl rfl (.inl rfl) (xv_loadA ty78 rfl rfl (by ((repeat first|exact z_0|assumption|refine z_1 ?_|(refine z_l ?_;(repeat first|exact z_0|assumption|refine z_1 ?_);done)|refine z_r ?_);done)) (ca_get eCard_len (k := i) (by rw [hA2.size]; (first | omega | (dsimp only at *; omega) | (simp at *; omega)))) rfl ⟨rfl, rfl⟩) ?_
              refine js_S rfl rfl (.inl rfl) (xv_ia (sz := 3) (j := i) sl72 ty78 rfl rfl rfl (by (first | omega | (dsimp only at *; omega) | (simp at *; omega))) (by (first | omega | (dsimp only at *; omega) | (simp at *; omega))) (by (first | omega | (dsimp only at *; omega) | (simp at *; omega))) ⟨rfl, rfl⟩) ?_
              refine js_O0 rfl rfl (.inl rfl) (xv_s ty78 rfl rfl (by (first|(apply u_3;(repeat first|exact u_0|assumption|apply u_1|apply u_2);done)|((repeat first|exact u_0|assumption|apply u_1|apply u_2);done)|(apply u_3;apply u_3;(repeat first|exact u_0|assumption|apply u_1|apply u_2);done)|((repeat first|exact u_0|assumption|apply u_3|apply u_1);done))) rfl (by rfl) (by rfl) (ca_room eCard_len (k := i) (by rw [hA2.size]; (first | omega | (dsimp only at *; omega) | (simp at *; omega)))) (ca_splice eCard_len (k := i) (by rw [hA2.size]; (first | omega | (dsimp only at *; omega) | (simp at *; omega)))) ?_)
              refine js_S rfl rfl (.inl rfl) (xv_ia (sz := 3) (j := j) sl72 ty78 rfl rfl rfl (by (first | omega | (dsimp only at *; omega) | (simp at *; omega))) (by (first | omega | (dsimp only at *; omega) | (simp at *; omega))) (by (first | omega | (dsimp only at *; omega) | (simp at *; omega))) ⟨rfl, rfl⟩) ?_
              refine js_O0 rfl rfl (.inl rfl) (xv_s ty78 rfl rfl (by (first|(apply u_3;(repeat first|exact u_0|assumption|apply u_1|apply u_2);done)|((repeat first|exact u_0|assumption|apply u_1|apply u_2);done)|(apply u_3;apply u_3;(repeat first|exact u_0|assumption|apply u_1|apply u_2);done)|((repeat first|exact u_0|assumption|apply u_3|apply u_1);done))) rfl (by rfl) (by rfl) (ca_room eCard_len (k := j) (by rw [Array.size_setIfInBounds, hA2.size]; (first | omega | (dsimp only at *; omega) | (simp at *; omega)))) (ca_splice eCard_len (k := j) (by rw [Array.size_setIfInBounds, hA2.size]; (first | omega | (dsimp only at *; omega) | (simp at *; omega)))) ?_)
              refine j_end0 ?_
              refine th_n ?_
              refine xc_seq (xc_region ?_)
              refine xr_op rfl rfl (xv_move rfl ?_)
              refine xr_op rfl rfl (xv_add rfl rfl (wrap_i64 (by (first | omega | (dsimp only at *; omega) | (simp at *; omega))) (by (first | omega | (dsimp only at *; omega) | (simp at *; omega)))) ?_)
              refine xr_op rfl rfl (xv_assign rfl ?_)
              refine xr_end rfl ?_
              refine th_n ?_
              refine xc_region ?_
              refine xr_op rfl rfl (xv_move rfl ?_)
              refine xr_op rfl rfl (xv_sub rfl rfl (wrap_i64 (by (first | omega | (dsimp only at *; omega) | (simp at *; omega))) (by (first | omega | (dsimp only at *; omega) | (simp at *; omega)))) ?_)
              refine xr_op rfl rfl (xv_assign rfl ?_)
              refine xr_end rfl ?_
              refine bk_n ?_
              exact rnd ((i + 1, j - 1, Go.Sort.swp d2 i j) : Nat × Nat × Array Card) ⟨by (first | omega | (dsimp only at *; omega) | (simp at *; omega)), by (first | omega | (dsimp only at *; omega) | (simp at *; omega)), by (first | omega | (dsimp only at *; omega) | (simp at *; omega)), by (first | omega | (dsimp only at *; omega) | (simp at *; omega)), hA2.swp (by (first | omega | (dsimp only at *; omega) | (simp at *; omega))) (by (first | omega | (dsimp only at *; omega) | (simp at *; omega))), (part_step hup2 hdn2 (by (first | omega | (dsimp only at *; omega) | (simp at *; omega)))).symm.trans heq⟩ (by have := scanUp_ge (p := (fun x => ltc cm x d2[a]!)) (d := d2) (j := j1) (i := i1) rfl; rw [hup2] at this; (first | omega | (dsimp only at *; omega) | (simp at *; omega))) (le_put (le_put (le_put (le_put (le_put (le_emp _) rfl) rfl) rfl) rfl) (by dsimp only; rw [show ((j - 1 : Nat) : Int) = (j : Int) - 1 by (first | omega | (dsimp only at *; omega) | (simp at *; omega))]; rfl)) (by (first|((repeat first|exact s_0|exact s_1|exact s_3|refine s_4 ?_|refine s_5 ?_|refine s_6 ?_|refine s_7 ?_);done)|((repeat first|exact s_0|exact s_1|exact s_3|refine s_4 ?_|refine s_5 ?_|refine s_6 ?_|refine s_8 ?_);done)))

end Go.Proofs.YtckaaaebegemoaaDoor
